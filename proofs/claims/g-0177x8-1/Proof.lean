import JvmDerived
import JvmDerived.Pilot.@@N@@Statement
import JvmDerived.Pilot.@@N@@Code
set_option linter.unusedVariables false
set_option linter.unusedSimpArgs false
/-! # A small executor over an abstract heap, and that it is sound for the model (Stand's family). Same text in every claim. -/
namespace Jvm.OwnX
open Sem ClassFile Op Lib Jvm.Stand Jvm.Free Jvm.LawKit Jvm.RoadKit
/-- a cell: an object's fields; an array of ints (0: handed in; 1), booleans (2), bytes (3); an array of longs -/
abbrev ACell := Sum (List Value) (Sum (Nat × List Int32) (List Int64))
abbrev AHeap := List ACell
abbrev ALoc := List (Option Value)
/-- a method: class, maxLocals, how many it pops, what it returns, is it a constructor, frames, locals -/
abbrev MI := Nat × Nat × Nat × Option FieldType × Bool × Nat × Nat
/-- code | methods | method links (kind, callee) | field links | constants | fields (name, descriptor, kind, final) | slots of an object | read-only cells | cells at most | slots at most -/
def Prog : Type := (Nat → Nat → Option (Instr × Nat)) × (Nat → MI) × (Nat → Nat → Option (Nat × Nat)) × (Nat → Nat → Option Nat) × (Nat → Nat → Option Value) × List (String × String × Nat × Bool) × Nat × Nat × Nat × Nat
def Prog.code (P : Prog) : Nat → Nat → Option (Instr × Nat) := P.1
def Prog.mi (P : Prog) : Nat → MI := P.2.1
def Prog.link (P : Prog) : Nat → Nat → Option (Nat × Nat) := P.2.2.1
def Prog.fld (P : Prog) : Nat → Nat → Option Nat := P.2.2.2.1
def Prog.kon (P : Prog) : Nat → Nat → Option Value := P.2.2.2.2.1
def Prog.fields (P : Prog) : List (String × String × Nat × Bool) := P.2.2.2.2.2.1
def Prog.objN (P : Prog) : Nat := P.2.2.2.2.2.2.1
def Prog.ro (P : Prog) : Nat := P.2.2.2.2.2.2.2.1
def Prog.capC (P : Prog) : Nat := P.2.2.2.2.2.2.2.2.1
def Prog.capS (P : Prog) : Nat := P.2.2.2.2.2.2.2.2.2
def Prog.cls (P : Prog) (k : Nat) : Nat := (P.mi k).1
def Prog.maxL (P : Prog) (k : Nat) : Nat := (P.mi k).2.1
def Prog.pops (P : Prog) (k : Nat) : Nat := (P.mi k).2.2.1
def Prog.ret (P : Prog) (k : Nat) : Option FieldType := (P.mi k).2.2.2.1
def Prog.ini (P : Prog) (k : Nat) : Bool := (P.mi k).2.2.2.2.1
def Prog.rf (P : Prog) (k : Nat) : Nat := (P.mi k).2.2.2.2.2.1
def Prog.rl (P : Prog) (k : Nat) : Nat := (P.mi k).2.2.2.2.2.2
def dflt : Nat → Value
  | 0 => .int 0
  | 1 => .int 0
  | 2 => .long 0
  | _ => .null
def Prog.fresh (P : Prog) : List Value := P.fields.map fun f => dflt f.2.2.1
/-- is j a place of an array of n -/
def inb (n : Nat) (j : Int32) : Bool := !(decide (j < 0)) && Nat.ble (j.toNatClampNeg + 1) n
def rd (xs : List Int32) (j : Int32) : Int32 := xs.getD j.toNatClampNeg 0
def wr (xs : List Int32) (j v : Int32) : List Int32 := xs.set j.toNatClampNeg v
def rdL (xs : List Int64) (j : Int32) : Int64 := xs.getD j.toNatClampNeg 0
def wrL (xs : List Int64) (j : Int32) (v : Int64) : List Int64 := xs.set j.toNatClampNeg v
def kill1 (L : ALoc) (i : Nat) : ALoc :=
  match i with
  | 0 => L
  | i + 1 => match L[i]? with
    | some (some (.long _)) => L.set i none
    | _ => L
def lput (L : ALoc) (i : Nat) (v : Value) : Option ALoc := bif Nat.ble (i + 1) L.length then some ((kill1 L i).set i (some v)) else none
def lputL (L : ALoc) (i : Nat) (v : Int64) : Option ALoc := bif Nat.ble (i + 2) L.length then some (((kill1 L i).set i (some (.long v))).set (i + 1) none) else none
def entL : List Value → ALoc
  | [] => []
  | .long v :: r => some (.long v) :: none :: entL r
  | v :: r => some v :: entL r
def pad (n : Nat) (L : ALoc) : ALoc := L ++ List.replicate (n - L.length) none
def entry (P : Prog) (k : Nat) (as : List Value) : ALoc := pad (P.maxL k) (entL as)
def cat (v : Value) : Nat := match v with | .long _ => 2 | _ => 1
def cats : List Value → Nat
  | [] => 0
  | v :: r => cat v + cats r
def okV : Value → Bool
  | .int _ => true | .long _ => true | .ref _ => true | .null => true | _ => false
def csz : Nat → ACell → Nat
  | n, .inl _ => n
  | _, .inr (.inl (0, _)) => 0
  | _, .inr (.inl (_, x)) => x.length
  | _, .inr (.inr x) => x.length
def hsz (P : Prog) : AHeap → Nat
  | [] => 0
  | c :: r => csz P.objN c + hsz P r
/-- how long an instruction is (0: as decode says) -/
def ilen : Instr → Nat
  | .iload _ => 2 | .lload _ => 2 | .aload _ => 2 | .istore _ => 2 | .lstore _ => 2 | .astore _ => 2 | .bipush _ => 2 | .ldc _ => 2 | .newarray _ => 2
  | .iinc _ _ => 3 | .sipush _ => 3 | .goto _ => 3 | .ifCond _ _ => 3 | .if_icmp _ _ => 3 | .getfield _ => 3 | .putfield _ => 3 | .new _ => 3 | .invokespecial _ => 3 | .invokestatic _ => 3 | .invokevirtual _ => 3 | .ldc2_w _ => 3
  | .tableswitch _ _ _ _ => 0
  | _ => 1
def tgt (pc : Nat) (o : Int) : Option Nat := match (pc : Int) + o with | .ofNat n => some n | .negSucc _ => none
def ish (x y : Int32) : Int32 := x <<< (y &&& 31)
def isr (x y : Int32) : Int32 := x >>> (y &&& 31)
def ush (x y : Int32) : Int32 := (x.toUInt32 >>> (y &&& 31).toUInt32).toInt32
def lsh (x : Int64) (y : Int32) : Int64 := x <<< (y &&& 0x3f).toInt64
def lus (x : Int64) (y : Int32) : Int64 := (x.toUInt64 >>> (y &&& 0x3f).toInt64.toUInt64).toInt64
def lcm (x y : Int64) : Int32 := if x > y then 1 else if x = y then 0 else -1
def i8 (x : Int32) : Int32 := x.toInt8.toInt32
def aop : Instr → Option (Int32 → Int32 → Int32)
  | .iadd => some fun x y => x + y
  | .isub => some fun x y => x - y
  | .imul => some fun x y => x * y
  | .iand => some fun x y => x &&& y
  | .ior => some fun x y => x ||| y
  | .ixor => some fun x y => x ^^^ y
  | .ishl => some fun x y => x <<< (y &&& 31)
  | .ishr => some fun x y => x >>> (y &&& 31)
  | .iushr => some fun x y => (x.toUInt32 >>> (y &&& 31).toUInt32).toInt32
  | _ => none
def lop : Instr → Option (Int64 → Int64 → Int64)
  | .ladd => some fun x y => x + y
  | .lsub => some fun x y => x - y
  | .lmul => some fun x y => x * y
  | .land => some fun x y => x &&& y
  | .lor => some fun x y => x ||| y
  | .lxor => some fun x y => x ^^^ y
  | _ => none
def loadI (L : ALoc) (n : Nat) : Option Int32 := match L[n]? with | some (some (.int x)) => some x | _ => none
def loadJ (L : ALoc) (n : Nat) : Option Int64 := match L[n]? with | some (some (.long x)) => some x | _ => none
def loadA (L : ALoc) (n : Nat) : Option Nat := match L[n]? with | some (some (.ref a)) => some a | _ => none
def getC (H : AHeap) (a j : Nat) : Option Value := match H[a]? with | some (.inl fs) => fs[j]? | _ => none
def conv (t : Nat) (v : Value) : Option Value :=
  match t, v with
  | 0, .int x => some (.int x)
  | 1, .int x => some (.int (x &&& 1))
  | 2, .long x => some (.long x)
  | 3, .ref a => some (.ref a)
  | _, _ => none
/-- a step within one frame -/
abbrev St := Nat × ALoc × List Value × AHeap
def atyOf : ArrayType → Option Nat
  | .int => some 1 | .boolean => some 2 | .byte => some 3 | .long => some 4 | _ => none
def newC (t n : Nat) : ACell := match t with | 4 => .inr (.inr (List.replicate n 0)) | t => .inr (.inl (t, List.replicate n 0))
def isObjInit (P : Prog) (k j : Nat) : Bool := match P.link (P.cls k) j with | some (4, _) => true | _ => false
/-- what is stored into an array of that kind -/
def narA (t : Nat) (x : Int32) : Int32 := match t with | 2 => x &&& 1 | 3 => x.toInt8.toInt32 | _ => x
def step (P : Prog) (k : Nat) (i : Instr) (np pc : Nat) (L : ALoc) (S : List Value) (H : AHeap) : Option St :=
  match i with
  | .iload_n n => match loadI L n.val with | some x => some (np, L, .int x :: S, H) | none => none
  | .iload n => match loadI L n with | some x => some (np, L, .int x :: S, H) | none => none
  | .lload_n n => match loadJ L n.val with | some x => some (np, L, .long x :: S, H) | none => none
  | .lload n => match loadJ L n with | some x => some (np, L, .long x :: S, H) | none => none
  | .aload_n n => match loadA L n.val with | some x => some (np, L, .ref x :: S, H) | none => none
  | .aload n => match loadA L n with | some x => some (np, L, .ref x :: S, H) | none => none
  | .istore_n n => match S with | .int x :: r => (match lput L n.val (.int x) with | some L' => some (np, L', r, H) | none => none) | _ => none
  | .istore n => match S with | .int x :: r => (match lput L n (.int x) with | some L' => some (np, L', r, H) | none => none) | _ => none
  | .astore_n n => match S with | .ref x :: r => (match lput L n.val (.ref x) with | some L' => some (np, L', r, H) | none => none) | _ => none
  | .astore n => match S with | .ref x :: r => (match lput L n (.ref x) with | some L' => some (np, L', r, H) | none => none) | _ => none
  | .lstore_n n => match S with | .long x :: r => (match lputL L n.val x with | some L' => some (np, L', r, H) | none => none) | _ => none
  | .lstore n => match S with | .long x :: r => (match lputL L n x with | some L' => some (np, L', r, H) | none => none) | _ => none
  | .iinc n c => match loadI L n with | some x => (match lput L n (.int (x + Int32.ofInt c)) with | some L' => some (np, L', S, H) | none => none) | none => none
  | .iconst c => some (np, L, .int (Int32.ofInt c) :: S, H)
  | .bipush c => some (np, L, .int (Int8.ofInt c).toInt32 :: S, H)
  | .sipush c => some (np, L, .int (Int16.ofInt c).toInt32 :: S, H)
  | .lconst c => some (np, L, .long (Int64.ofNat c) :: S, H)
  | .ldc j => match P.kon (P.cls k) j with | some (.int x) => some (np, L, .int x :: S, H) | _ => none
  | .ldc2_w j => match P.kon (P.cls k) j with | some (.long x) => some (np, L, .long x :: S, H) | _ => none
  | .idiv => match S with | .int y :: .int x :: r => (bif decide (y = 0) then none else some (np, L, .int (x / y) :: r, H)) | _ => none
  | .irem => match S with | .int y :: .int x :: r => (bif decide (y = 0) then none else some (np, L, .int (x % y) :: r, H)) | _ => none
  | .lshl => match S with | .int y :: .long x :: r => some (np, L, .long (x <<< (y &&& 0x3f).toInt64) :: r, H) | _ => none
  | .lushr => match S with | .int y :: .long x :: r => some (np, L, .long ((x.toUInt64 >>> (y &&& 0x3f).toInt64.toUInt64).toInt64) :: r, H) | _ => none
  | .lcmp => match S with | .long y :: .long x :: r => some (np, L, .int (if x > y then 1 else if x = y then 0 else -1) :: r, H) | _ => none
  | .lneg => match S with | .long x :: r => some (np, L, .long (-x) :: r, H) | _ => none
  | .i2l => match S with | .int x :: r => some (np, L, .long x.toInt64 :: r, H) | _ => none
  | .l2i => match S with | .long x :: r => some (np, L, .int x.toInt32 :: r, H) | _ => none
  | .i2b => match S with | .int x :: r => some (np, L, .int x.toInt8.toInt32 :: r, H) | _ => none
  | .dup => match S with | .ref x :: r => some (np, L, .ref x :: .ref x :: r, H) | .int x :: r => some (np, L, .int x :: .int x :: r, H) | _ => none
  | .dup2 => match S with | .int x :: .ref y :: r => some (np, L, .int x :: .ref y :: .int x :: .ref y :: r, H) | _ => none
  | .pop => match S with | .int _ :: r => some (np, L, r, H) | .ref _ :: r => some (np, L, r, H) | _ => none
  | .goto o => match tgt pc o with | some t => some (t, L, S, H) | none => none
  | .ifCond cd o => match S with
    | .int x :: r => (bif if_icmp.holds cd x 0 then (match tgt pc o with | some t => some (t, L, r, H) | none => none) else some (np, L, r, H))
    | _ => none
  | .if_icmp cd o => match S with
    | .int y :: .int x :: r => (bif if_icmp.holds cd x y then (match tgt pc o with | some t => some (t, L, r, H) | none => none) else some (np, L, r, H))
    | _ => none
  | .tableswitch d lo hi offs => match S with
    | .int x :: r => (bif decide (x.toInt < lo) || decide (x.toInt > hi) then (match tgt pc d with | some t => some (t, L, r, H) | none => none)
        else (match offs.toList[(x.toInt - lo).toNat]? with | some o => (match tgt pc o with | some t => some (t, L, r, H) | none => none) | none => none))
    | _ => none
  | .getfield j => match S with
    | .ref a :: r => (match P.fld (P.cls k) j with | some f => (match getC H a f with | some v => some (np, L, v :: r, H) | none => none) | none => none)
    | _ => none
  | .putfield j => match S with
    | v :: .ref a :: r => (match P.fld (P.cls k) j with
      | some f => (match P.fields[f]? with
        | some (_, _, t, fin) => (bif (!fin || P.ini k) && Nat.ble P.ro a then (match conv t v with
          | some v' => (match H[a]? with
            | some (.inl fs) => (bif Nat.ble (f + 1) fs.length then some (np, L, r, H.set a (.inl (fs.set f v'))) else none)
            | _ => none)
          | none => none) else none)
        | none => none)
      | none => none)
    | _ => none
  | .iaload => match S with
    | .int j :: .ref a :: r => (match H[a]? with
      | some (.inr (.inl (1, xs))) => (bif inb xs.length j then some (np, L, .int (rd xs j) :: r, H) else none)
      | some (.inr (.inl (0, xs))) => (bif inb xs.length j then some (np, L, .int (rd xs j) :: r, H) else none)
      | _ => none)
    | _ => none
  | .baload => match S with
    | .int j :: .ref a :: r => (match H[a]? with
      | some (.inr (.inl (2, xs))) => (bif inb xs.length j then some (np, L, .int (rd xs j) :: r, H) else none)
      | some (.inr (.inl (3, xs))) => (bif inb xs.length j then some (np, L, .int (rd xs j) :: r, H) else none)
      | _ => none)
    | _ => none
  | .laload => match S with
    | .int j :: .ref a :: r => (match H[a]? with | some (.inr (.inr xs)) => (bif inb xs.length j then some (np, L, .long (rdL xs j) :: r, H) else none) | _ => none)
    | _ => none
  | .iastore => match S with
    | .int x :: .int j :: .ref a :: r => (bif Nat.ble P.ro a then (match H[a]? with | some (.inr (.inl (1, xs))) => (bif inb xs.length j then some (np, L, r, H.set a (.inr (.inl (1, wr xs j x)))) else none) | _ => none) else none)
    | _ => none
  | .bastore => match S with
    | .int x :: .int j :: .ref a :: r => (bif Nat.ble P.ro a then (match H[a]? with
      | some (.inr (.inl (2, xs))) => (bif inb xs.length j then some (np, L, r, H.set a (.inr (.inl (2, wr xs j (x &&& 1))))) else none)
      | some (.inr (.inl (3, xs))) => (bif inb xs.length j then some (np, L, r, H.set a (.inr (.inl (3, wr xs j x.toInt8.toInt32)))) else none)
      | _ => none) else none)
    | _ => none
  | .lastore => match S with
    | .long x :: .int j :: .ref a :: r => (bif Nat.ble P.ro a then (match H[a]? with | some (.inr (.inr xs)) => (bif inb xs.length j then some (np, L, r, H.set a (.inr (.inr (wrL xs j x)))) else none) | _ => none) else none)
    | _ => none
  | .arraylength => match S with
    | .ref a :: r => (match H[a]? with
      | some (.inr (.inl (_, xs))) => some (np, L, .int xs.length.toInt32 :: r, H)
      | some (.inr (.inr xs)) => some (np, L, .int xs.length.toInt32 :: r, H)
      | _ => none)
    | _ => none
  | .newarray t => match S with
    | .int n :: r => (match atyOf t with | some q => (bif !(decide (n < 0)) && Nat.ble n.toNatClampNeg 60000 && Nat.ble (H.length + 1) P.capC && Nat.ble (hsz P H + n.toNatClampNeg) P.capS then some (np, L, .ref H.length :: r, H ++ [newC q n.toNatClampNeg]) else none) | none => none)
    | _ => none
  | .new j => match P.link (P.cls k) j with | some (5, _) => (bif Nat.ble (H.length + 1) P.capC && Nat.ble (hsz P H + P.objN) P.capS then some (np, L, .ref H.length :: S, H ++ [.inl P.fresh]) else none) | _ => none
  | .invokespecial j => match S with
    | .ref _ :: r => (bif isObjInit P k j && Nat.ble 1 (P.rf k) && Nat.ble (cats r + 12) (P.rl k) then some (np, L, r, H) else none)
    | _ => none
  | i => match S with
    | .int y :: .int x :: r => (match aop i with | some f => some (np, L, .int (f x y) :: r, H) | none => none)
    | .long y :: .long x :: r => (match lop i with | some f => some (np, L, .long (f x y) :: r, H) | none => none)
    | _ => none
/-- what a return hands back -/
def retV (P : Prog) (k : Nat) (i : Instr) (S : List Value) : Option (Option Value) :=
  match i with
  | .return_ => match S, P.ret k with | [], none => some none | _, _ => none
  | .ireturn => match S with
    | .int x :: _ => (match P.ret k with | some .int => some (some (.int x)) | some .boolean => some (some (.int (x &&& 1))) | _ => none)
    | _ => none
  | .lreturn => match S with | .long x :: _ => (match P.ret k with | some .long => some (some (.long x)) | _ => none) | _ => none
  | _ => none
def kindOk : Instr → Nat → Bool
  | .invokestatic _, 0 => true
  | .invokespecial _, 1 => true
  | .invokevirtual _, 2 => true
  | .invokevirtual _, 3 => true
  | _, _ => false
def poolOf : Instr → Option Nat
  | .invokestatic j => some j
  | .invokespecial j => some j
  | .invokevirtual j => some j
  | _ => none
/-- the receiver is there -/
def recvOk (P : Prog) (H : AHeap) (q : Nat) (as : List Value) : Bool :=
  match q with
  | 0 => true
  | _ => match as with
    | .ref a :: _ => (match H[a]? with | some (.inl _) => true | _ => false)
    | _ => false
def callV (P : Prog) (k : Nat) (i : Instr) (S : List Value) (H : AHeap) : Option (Nat × List Value × List Value) :=
  match poolOf i with
  | none => none
  | some j => match P.link (P.cls k) j with
    | none => none
    | some (q, k') =>
      bif kindOk i q && Nat.ble (P.pops k') S.length && Nat.ble (P.rf k' + 1) (P.rf k) && Nat.ble (cats (S.drop (P.pops k')) + (P.maxL k' + 11) + P.rl k') (P.rl k) && recvOk P H q (S.take (P.pops k')).reverse && Nat.ble (entL (S.take (P.pops k')).reverse).length (P.maxL k') then
        some (k', (S.take (P.pops k')).reverse, S.drop (P.pops k'))
      else none
def run (P : Prog) : Nat → Nat → Nat → ALoc → List Value → AHeap → Option (Option Value × AHeap)
  | 0, _, _, _, _, _ => none
  | n + 1, k, pc, L, S, H =>
    match P.code k pc with
    | none => none
    | some (i, np) =>
      match retV P k i S with
      | some v => some (v, H)
      | none =>
        match callV P k i S H with
        | some (k', as, rest) =>
          (match run P n k' 0 (entry P k' as) [] H with
          | some (v, H1) => run P n k np L (v.toList ++ rest) H1
          | none => none)
        | none =>
          (match step P k i np pc L S H with
          | some (pc', L', S', H') => run P n k pc' L' S' H'
          | none => none)
def Eval (P : Prog) (k pc : Nat) (L : ALoc) (S : List Value) (H : AHeap) (out : Option Value × AHeap) : Prop := ∃ n, run P n k pc L S H = some out
end Jvm.OwnX
namespace Jvm.OwnX
open Sem ClassFile Op Lib Jvm.Stand Jvm.Free Jvm.LawKit Jvm.RoadKit
/-! ## values, stacks, local variables -/
def VR (am : List Addr) (v w : Value) : Prop := match v with
  | .ref i => ∃ a, am[i]? = some a ∧ w = .ref a
  | .int x => w = .int x
  | .long x => w = .long x
  | .null => w = .null
  | _ => False
def SR (am : List Addr) : List Value → List Value → Prop
  | [], ws => ws = []
  | v :: vs, ws => ∃ w ws', ws = w :: ws' ∧ VR am v w ∧ SR am vs ws'
def Pre (am am' : List Addr) : Prop := ∀ (i : Nat) (a : Addr), am[i]? = some a → am'[i]? = some a
theorem Pre.refl (am : List Addr) : Pre am am := fun _ _ h => h
theorem Pre.trans {a b c : List Addr} (h : Pre a b) (h' : Pre b c) : Pre a c := fun i x q => h' i x (h i x q)
theorem Pre.app (am : List Addr) (x : Addr) : Pre am (am ++ [x]) := fun i a h => by
  rw [List.getElem?_append_left (List.getElem?_eq_some_iff.mp h).1]; exact h
theorem VR.mono {am am' : List Addr} (h : Pre am am') {v w : Value} (r : VR am v w) : VR am' v w := by
  cases v <;> simp only [VR] at r ⊢ <;> try exact r
  obtain ⟨a, h1, h2⟩ := r; exact ⟨a, h _ _ h1, h2⟩
theorem SR.mono {am am' : List Addr} (h : Pre am am') : ∀ {S ws : List Value}, SR am S ws → SR am' S ws
  | [], _, r => r
  | _ :: _, _, ⟨w, ws', e, r1, r2⟩ => ⟨w, ws', e, r1.mono h, SR.mono h r2⟩
theorem VR.cat {am : List Addr} {v w : Value} (r : VR am v w) : w.category = OwnX.cat v := by
  cases v <;> simp only [VR] at r
  · subst r; rfl
  · subst r; rfl
  · subst r; rfl
  · obtain ⟨a, -, rfl⟩ := r; rfl
theorem SR.cats {am : List Addr} : ∀ {S ws : List Value}, SR am S ws → (ws.map fun v => v.category).sum = OwnX.cats S
  | [], _, r => by cases r; rfl
  | v :: vs, _, ⟨w, ws', e, r1, r2⟩ => by subst e; simp [OwnX.cats, r1.cat, SR.cats r2]
theorem SR.app {am : List Addr} : ∀ {S ws : List Value} (A B : List Value), SR am S ws → S = A ++ B → ∃ x y, ws = x ++ y ∧ SR am A x ∧ SR am B y
  | S, ws, [], B, r, e => ⟨[], ws, rfl, rfl, by rw [show B = S from by simpa using e.symm]; exact r⟩
  | S, ws, v :: A, B, r, e => by
    subst e
    obtain ⟨w, ws', rfl, r1, r2⟩ := r
    obtain ⟨x, y, rfl, h1, h2⟩ := SR.app A B r2 rfl
    exact ⟨w :: x, y, rfl, ⟨w, x, rfl, r1, h1⟩, h2⟩
theorem SR.join {am : List Addr} : ∀ {A x B y : List Value}, SR am A x → SR am B y → SR am (A ++ B) (x ++ y)
  | [], _, _, _, h, h' => by cases h; exact h'
  | _ :: _, _, _, _, ⟨w, ws', e, r1, r2⟩, h' => by subst e; exact ⟨w, _, rfl, r1, SR.join r2 h'⟩
theorem SR.rev {am : List Addr} : ∀ {A x : List Value}, SR am A x → SR am A.reverse x.reverse
  | [], _, h => by cases h; rfl
  | _ :: _, _, ⟨w, ws', e, r1, r2⟩ => by
    subst e
    rw [List.reverse_cons, List.reverse_cons]
    exact SR.join (SR.rev r2) ⟨w, [], rfl, r1, rfl⟩
theorem SR.len {am : List Addr} : ∀ {A x : List Value}, SR am A x → x.length = A.length
  | [], _, h => by cases h; rfl
  | _ :: _, _, ⟨w, ws', e, r1, r2⟩ => by subst e; simp [SR.len r2]
def WFL (l : Array Slot) : Prop := (∀ (i : Nat) w, l[i]? = some (.val w) → w.category = 2 → l[i + 1]? = some .second) ∧ (∀ (i : Nat), l[i]? = some .second → ∃ (j : Nat) (w : Value), i = j + 1 ∧ l[j]? = some (.val w) ∧ w.category = 2)
/-- the places of the variables behind a store of one word -/
def After1 (l l' : Array Slot) (i : Nat) (v : Value) : Prop := ∀ j : Nat, l'[j]? = if j = i then some (.val v) else if j + 1 = i ∧ l[i]? = some .second then some .unset else if j = i + 1 ∧ l[j]? = some .second then some .unset else l[j]?
theorem sib (l : Array Slot) (i j : Nat) (x : Slot) (hi : i < l.size) : (l.setIfInBounds i x)[j]? = if j = i then some x else l[j]? := by
  by_cases h : j = i
  · subst h; simp [hi]
  · simp [Array.getElem?_setIfInBounds_ne (Ne.symm h), h]
theorem store1w {l : Array Slot} {i : Nat} {v : Value} (hw : WFL l) (hi : i < l.size) (hv : v.category = 1) : ∃ l', storeLocals l i v = some l' ∧ l'.size = l.size ∧ After1 l l' i v := by
  have hv2 : ¬ v.category = 2 := by omega
  have hg : l[i]? = some l[i] := Array.getElem?_eq_getElem hi
  cases hq : l[i] with
  | unset =>
    rw [hq] at hg
    refine ⟨l.setIfInBounds i (.val v), by simp [storeLocals, storeSelf, setAt, hg, hq, hi, hv2], by simp, fun j => ?_⟩
    rw [sib _ _ _ _ hi, hg]
    by_cases h : j = i
    · simp [h]
    · simp only [h, if_false, reduceCtorEq, and_false, Option.some.injEq]
      by_cases h2 : j = i + 1 ∧ l[j]? = some .second
      · obtain ⟨j', w, e1, e2, e3⟩ := hw.2 _ h2.2
        have : j' = i := by omega
        subst this; rw [hg] at e2; cases e2
      · simp [h2]
  | second =>
    rw [hq] at hg
    obtain ⟨j0, w, e1, e2, e3⟩ := hw.2 _ hg
    subst e1
    have hj0 : j0 < l.size := by omega
    refine ⟨(l.setIfInBounds j0 .unset).setIfInBounds (j0 + 1) (.val v), by simp [storeLocals, storeSelf, setAt, hg, hq, hi, hv2, hj0], by simp, fun j => ?_⟩
    rw [sib _ _ _ _ (by simpa using hi), sib _ _ _ _ hj0, hg]
    by_cases h : j = j0 + 1
    · simp [h]
    · by_cases h3 : j = j0
      · subst h3; simp
      · have h4 : ¬ (j + 1 = j0 + 1) := by omega
        by_cases h2 : j = j0 + 1 + 1 ∧ l[j]? = some .second
        · obtain ⟨j', w', f1, f2, f3⟩ := hw.2 _ h2.2
          have : j' = j0 + 1 := by omega
          subst this; rw [hg] at f2; cases f2
        · simp [h, h3, h2]
  | val old =>
    rw [hq] at hg
    by_cases hc : old.category = 2
    · have h1 := hw.1 _ _ hg hc
      have h1' := (Array.getElem?_eq_some_iff.mp h1).1
      refine ⟨(l.setIfInBounds (i + 1) .unset).setIfInBounds i (.val v), by simp [storeLocals, storeSelf, setAt, hg, hq, hi, hv2, hc, h1'], by simp, fun j => ?_⟩
      rw [sib _ _ _ _ (by simpa using hi), sib _ _ _ _ h1', hg]
      by_cases h : j = i
      · simp [h]
      · by_cases h3 : j = i + 1
        · subst h3; simp [h1]
        · simp [h, h3]
    · refine ⟨l.setIfInBounds i (.val v), by simp [storeLocals, storeSelf, setAt, hg, hq, hi, hv2, hc], by simp, fun j => ?_⟩
      rw [sib _ _ _ _ hi, hg]
      by_cases h : j = i
      · simp [h]
      · simp only [h, if_false, reduceCtorEq, and_false, Option.some.injEq]
        by_cases h2 : j = i + 1 ∧ l[j]? = some .second
        · obtain ⟨j', w, e1, e2, e3⟩ := hw.2 _ h2.2
          have : j' = i := by omega
          subst this; rw [hg] at e2; cases e2; exact absurd e3 hc
        · simp [h2]
theorem After1.wf {l l' : Array Slot} {i : Nat} {v : Value} (hw : WFL l) (hv : v.category = 1) (A : After1 l l' i v) : WFL l' := by
  refine ⟨fun j w h1 h2 => ?_, fun j h1 => ?_⟩
  · rw [A j] at h1
    by_cases c1 : j = i
    · simp only [c1, if_true, Option.some.injEq, Slot.val.injEq] at h1; subst h1; omega
    · rw [if_neg c1] at h1
      by_cases c2 : j + 1 = i ∧ l[i]? = some .second
      · rw [if_pos c2] at h1; cases h1
      · rw [if_neg c2] at h1
        by_cases c3 : j = i + 1 ∧ l[j]? = some .second
        · rw [if_pos c3] at h1; cases h1
        · rw [if_neg c3] at h1
          have h3 := hw.1 _ _ h1 h2
          rw [A (j + 1)]
          have n1 : ¬ (j + 1 = i) := fun q => c2 ⟨q, q ▸ h3⟩
          have n2 : ¬ (j + 1 + 1 = i ∧ l[i]? = some .second) := fun ⟨q1, q2⟩ => by
            obtain ⟨j', w', f1, f2, f3⟩ := hw.2 _ q2
            have : j' = j + 1 := by omega
            subst this; rw [h3] at f2; cases f2
          have n3 : ¬ (j + 1 = i + 1 ∧ l[j + 1]? = some .second) := fun ⟨q1, _⟩ => c1 (by omega)
          rw [if_neg n1, if_neg n2, if_neg n3]; exact h3
  · rw [A j] at h1
    by_cases c1 : j = i
    · rw [if_pos c1] at h1; cases h1
    · rw [if_neg c1] at h1
      by_cases c2 : j + 1 = i ∧ l[i]? = some .second
      · rw [if_pos c2] at h1; cases h1
      · rw [if_neg c2] at h1
        by_cases c3 : j = i + 1 ∧ l[j]? = some .second
        · rw [if_pos c3] at h1; cases h1
        · rw [if_neg c3] at h1
          obtain ⟨j', w, e1, e2, e3⟩ := hw.2 _ h1
          refine ⟨j', w, e1, ?_, e3⟩
          rw [A j']
          have n1 : ¬ (j' = i) := fun q => c3 ⟨by omega, h1⟩
          have n2 : ¬ (j' + 1 = i ∧ l[i]? = some .second) := fun ⟨q, _⟩ => c1 (by omega)
          have n3 : ¬ (j' = i + 1 ∧ l[j']? = some .second) := fun ⟨_, q⟩ => by rw [e2] at q; cases q
          rw [if_neg n1, if_neg n2, if_neg n3]; exact e2
def lng (o : Option Slot) : Bool := match o with | some (.val w) => decide (w.category = 2) | _ => false
theorem lng_iff (o : Option Slot) : lng o = true ↔ ∃ w, o = some (.val w) ∧ w.category = 2 := by
  unfold lng
  split
  · rename_i w; simp
  · rename_i h; simp; intro w hw; exact absurd hw (h w)
/-- behind a store of a long -/
def After2 (l l' : Array Slot) (i : Nat) (v : Value) : Prop := ∀ j : Nat, l'[j]? = if j = i then some (.val v) else if j = i + 1 then some .second else if j + 1 = i ∧ l[i]? = some .second then some .unset else if j = i + 2 ∧ l[j]? = some .second then some .unset else l[j]?
theorem self2 {l : Array Slot} {i : Nat} {v : Value} (hi : i + 1 < l.size) (hv : v.category = 2) (hz : ∀ w, l[i + 1]? = some (.val w) → w.category = 2 → i + 2 < l.size) :
    ∃ l', storeSelf l i v = some l' ∧ l'.size = l.size ∧ ∀ j : Nat, l'[j]? = if j = i then some (.val v) else if j = i + 1 then some .second else if j = i + 2 ∧ lng l[i + 1]? = true then some .unset else l[j]? := by
  have hi0 : i < l.size := by omega
  have hg : l[i + 1]? = some l[i + 1] := Array.getElem?_eq_getElem hi
  have hne : (l.setIfInBounds i (.val v))[i + 1]? = l[i + 1]? := Array.getElem?_setIfInBounds_ne (by omega)
  have hplain : (∀ w, l[i + 1] = .val w → ¬ w.category = 2) → storeSelf l i v = some ((l.setIfInBounds i (.val v)).setIfInBounds (i + 1) .second) := fun hn => by
    cases hq : l[i + 1] with
    | val w => simp [storeSelf, setAt, hi0, hv, hne, hg, hq, hn _ hq, hi]
    | unset => simp [storeSelf, setAt, hi0, hv, hne, hg, hq, hi]
    | second => simp [storeSelf, setAt, hi0, hv, hne, hg, hq, hi]
  by_cases hx : ∃ w, l[i + 1] = .val w ∧ w.category = 2
  · obtain ⟨w, hw1, hw2⟩ := hx
    have h2 := hz w (by rw [hg, hw1]) hw2
    refine ⟨((l.setIfInBounds i (.val v)).setIfInBounds (i + 2) .unset).setIfInBounds (i + 1) .second, by simp [storeSelf, setAt, hi0, hv, hne, hg, hw1, hw2, hi, h2], by simp, fun j => ?_⟩
    rw [sib _ _ _ _ (by simpa using hi), sib _ _ _ _ (by simpa using h2), sib _ _ _ _ hi0]
    have hE : lng l[i + 1]? = true := (lng_iff _).mpr ⟨w, by rw [hg, hw1], hw2⟩
    by_cases c1 : j = i
    · subst c1; simp
    · by_cases c2 : j = i + 1
      · subst c2; simp
      · by_cases c3 : j = i + 2
        · subst c3; simp [hE]
        · simp [c1, c2, c3]
  · refine ⟨_, hplain fun w h1 h2 => hx ⟨w, h1, h2⟩, by simp, fun j => ?_⟩
    rw [sib _ _ _ _ (by simpa using hi), sib _ _ _ _ hi0]
    have hE : ¬ lng l[i + 1]? = true := fun q => by
      obtain ⟨w, q1, q2⟩ := (lng_iff _).mp q
      exact hx ⟨w, by rw [hg] at q1; exact Option.some.inj q1, q2⟩
    by_cases c1 : j = i
    · subst c1; simp
    · by_cases c2 : j = i + 1
      · subst c2; simp
      · simp [c1, c2, hE]
theorem store2w {l : Array Slot} {i : Nat} {v : Value} (hw : WFL l) (hi : i + 1 < l.size) (hv : v.category = 2) : ∃ l', storeLocals l i v = some l' ∧ l'.size = l.size ∧ After2 l l' i v := by
  have hi0 : i < l.size := by omega
  have hg : l[i]? = some l[i] := Array.getElem?_eq_getElem hi0
  have hz : ∀ w, l[i + 1]? = some (.val w) → w.category = 2 → i + 2 < l.size := fun w q1 q2 => (Array.getElem?_eq_some_iff.mp (hw.1 _ _ q1 q2)).1
  have hsec : ∀ j : Nat, (j = i + 2 ∧ lng l[i + 1]? = true) ↔ (j = i + 2 ∧ l[j]? = some .second) := fun j => by
    constructor
    · rintro ⟨rfl, q⟩
      obtain ⟨w, q1, q2⟩ := (lng_iff _).mp q
      exact ⟨rfl, hw.1 _ _ q1 q2⟩
    · rintro ⟨rfl, q⟩
      obtain ⟨j', w, e1, e2, e3⟩ := hw.2 _ q
      have : j' = i + 1 := by omega
      subst this; exact ⟨rfl, (lng_iff _).mpr ⟨w, e2, e3⟩⟩
  cases hq : l[i] with
  | unset =>
    rw [hq] at hg
    obtain ⟨l', h1, h2, h3⟩ := self2 hi hv hz
    refine ⟨l', by simp [storeLocals, hg, hq, hi0, h1], h2, fun j => ?_⟩
    rw [h3 j, hg]; simp only [hsec, reduceCtorEq, and_false, if_false, Option.some.injEq]
  | second =>
    rw [hq] at hg
    obtain ⟨j0, w, e1, e2, e3⟩ := hw.2 _ hg
    subst e1
    have hj0 : j0 < l.size := by omega
    have hi' : j0 + 1 + 1 < (l.setIfInBounds j0 .unset).size := by simpa using hi
    have hk : ∀ j : Nat, j ≠ j0 → (l.setIfInBounds j0 .unset)[j]? = l[j]? := fun j h => Array.getElem?_setIfInBounds_ne (Ne.symm h)
    obtain ⟨l', h1, h2, h3⟩ := self2 (l := l.setIfInBounds j0 .unset) hi' hv (fun w q1 q2 => by rw [hk _ (by omega)] at q1; simpa using hz w q1 q2)
    refine ⟨l', by simp [storeLocals, setAt, hg, hq, hi0, hj0, h1], by simpa using h2, fun j => ?_⟩
    rw [h3 j, hg, hk (j0 + 1 + 1) (by omega)]; simp only [hsec]
    by_cases c1 : j = j0 + 1
    · simp [c1]
    · by_cases c2 : j = j0 + 1 + 1
      · simp [c2]
      · by_cases c3 : j = j0
        · subst c3; simp [hj0]
        · rw [hk _ c3]
          have : ¬ (j + 1 = j0 + 1) := by omega
          simp [c1, c2, c3]
  | val old =>
    rw [hq] at hg
    by_cases hc : old.category = 2
    · have g1 := hw.1 _ _ hg hc
      have hi' : i + 1 < (l.setIfInBounds (i + 1) .unset).size := by simpa using hi
      have hk : ∀ j : Nat, j ≠ i + 1 → (l.setIfInBounds (i + 1) .unset)[j]? = l[j]? := fun j h => Array.getElem?_setIfInBounds_ne (Ne.symm h)
      have hk1 : (l.setIfInBounds (i + 1) .unset)[i + 1]? = some .unset := by simp [hi]
      obtain ⟨l', h1, h2, h3⟩ := self2 (l := l.setIfInBounds (i + 1) .unset) hi' hv (fun w q1 q2 => by rw [hk1] at q1; cases q1)
      refine ⟨l', by simp [storeLocals, setAt, hg, hq, hi0, hc, hi, h1], by simpa using h2, fun j => ?_⟩
      rw [h3 j, hg, hk1]
      by_cases c1 : j = i
      · simp [c1]
      · by_cases c2 : j = i + 1
        · simp [c2]
        · rw [hk _ c2]
          have c3 : ¬ (j = i + 2 ∧ l[j]? = some .second) := fun ⟨q1, q2⟩ => by
            subst q1
            obtain ⟨j', w, e1, e2, e3⟩ := hw.2 _ q2
            have : j' = i + 1 := by omega
            subst this; rw [g1] at e2; cases e2
          simp [c1, c2, c3, lng]
    · obtain ⟨l', h1, h2, h3⟩ := self2 hi hv hz
      refine ⟨l', by simp [storeLocals, hg, hq, hi0, hc, h1], h2, fun j => ?_⟩
      rw [h3 j, hg]; simp only [hsec, reduceCtorEq, and_false, if_false, Option.some.injEq]
theorem After2.wf {l l' : Array Slot} {i : Nat} {v : Value} (hw : WFL l) (hv : v.category = 2) (A : After2 l l' i v) : WFL l' := by
  refine ⟨fun j w h1 h2 => ?_, fun j h1 => ?_⟩
  · rw [A j] at h1
    by_cases c1 : j = i
    · subst c1; rw [A (j + 1)]; simp
    · rw [if_neg c1] at h1
      by_cases c0 : j = i + 1
      · rw [if_pos c0] at h1; cases h1
      · rw [if_neg c0] at h1
        by_cases c2 : j + 1 = i ∧ l[i]? = some .second
        · rw [if_pos c2] at h1; cases h1
        · rw [if_neg c2] at h1
          by_cases c3 : j = i + 2 ∧ l[j]? = some .second
          · rw [if_pos c3] at h1; cases h1
          · rw [if_neg c3] at h1
            have h3 := hw.1 _ _ h1 h2
            rw [A (j + 1)]
            have n1 : ¬ (j + 1 = i) := fun q => c2 ⟨q, q ▸ h3⟩
            have n0 : ¬ (j + 1 = i + 1) := by omega
            have n2 : ¬ (j + 1 + 1 = i ∧ l[i]? = some .second) := fun ⟨q1, q2⟩ => by
              obtain ⟨j', w', f1, f2, f3⟩ := hw.2 _ q2
              have : j' = j + 1 := by omega
              subst this; rw [h3] at f2; cases f2
            have n3 : ¬ (j + 1 = i + 2 ∧ l[j + 1]? = some .second) := fun ⟨q1, _⟩ => c0 (by omega)
            rw [if_neg n1, if_neg n0, if_neg n2, if_neg n3]; exact h3
  · rw [A j] at h1
    by_cases c1 : j = i
    · rw [if_pos c1] at h1; cases h1
    · rw [if_neg c1] at h1
      by_cases c0 : j = i + 1
      · subst c0; exact ⟨i, v, rfl, by rw [A i]; simp, hv⟩
      · rw [if_neg c0] at h1
        by_cases c2 : j + 1 = i ∧ l[i]? = some .second
        · rw [if_pos c2] at h1; cases h1
        · rw [if_neg c2] at h1
          by_cases c3 : j = i + 2 ∧ l[j]? = some .second
          · rw [if_pos c3] at h1; cases h1
          · rw [if_neg c3] at h1
            obtain ⟨j', w, e1, e2, e3⟩ := hw.2 _ h1
            refine ⟨j', w, e1, ?_, e3⟩
            rw [A j']
            have n1 : ¬ (j' = i) := fun q => c0 (by omega)
            have n0 : ¬ (j' = i + 1) := fun q => c3 ⟨by omega, h1⟩
            have n2 : ¬ (j' + 1 = i ∧ l[i]? = some .second) := fun ⟨q, _⟩ => c1 (by omega)
            have n3 : ¬ (j' = i + 2 ∧ l[j']? = some .second) := fun ⟨_, q⟩ => by rw [e2] at q; cases q
            rw [if_neg n1, if_neg n0, if_neg n2, if_neg n3]; exact e2
def LR (am : List Addr) (L : ALoc) (l : Array Slot) : Prop := L.length = l.size ∧ WFL l ∧ ∀ (i : Nat) v, L[i]? = some (some v) → ∃ w, l[i]? = some (.val w) ∧ VR am v w
theorem LR.mono {am am' : List Addr} (h : Pre am am') {L : ALoc} {l : Array Slot} (r : LR am L l) : LR am' L l :=
  ⟨r.1, r.2.1, fun i v q => by obtain ⟨w, h1, h2⟩ := r.2.2 i v q; exact ⟨w, h1, h2.mono h⟩⟩
theorem kill1_len (L : ALoc) (i : Nat) : (kill1 L i).length = L.length := by
  unfold kill1; split
  · rfl
  · split <;> simp
theorem kill1_get {L : ALoc} {i j : Nat} {v : Value} (h : (kill1 L i)[j]? = some (some v)) : L[j]? = some (some v) ∧ (j + 1 = i → ∀ x, v ≠ .long x) := by
  unfold kill1 at h
  split at h
  · exact ⟨h, fun q => by omega⟩
  · rename_i i
    split at h
    · rename_i x hx
      by_cases e : j = i
      · subst e
        rw [List.getElem?_set] at h
        split at h
        · split at h <;> simp at h
        · omega
      · rw [List.getElem?_set_ne (Ne.symm e)] at h
        exact ⟨h, fun q => absurd (by omega) e⟩
    · rename_i hn
      refine ⟨h, fun q x e => ?_⟩
      have : j = i := by omega
      subst this; subst e; exact hn x h
theorem LR.put {am : List Addr} {L L' : ALoc} {l : Array Slot} {i : Nat} {v w : Value} (r : LR am L l) (h : lput L i v = some L') (hv : VR am v w) (hc : w.category = 1) : ∃ l', storeLocals l i w = some l' ∧ l'.size = l.size ∧ LR am L' l' := by
  unfold lput at h
  cases hb : Nat.ble (i + 1) L.length
  · rw [hb] at h; cases h
  · rw [hb] at h
    have hi : i < L.length := Nat.le_of_ble_eq_true hb
    simp only [cond_true, Option.some.injEq] at h
    obtain ⟨l', h1, h2, h3⟩ := store1w (v := w) r.2.1 (by rw [← r.1]; exact hi) hc
    refine ⟨l', h1, h2, ?_, h3.wf r.2.1 hc, fun j u hu => ?_⟩
    · rw [← h]; simp [kill1_len, r.1, h2]
    · rw [← h, List.getElem?_set] at hu
      rw [h3 j]
      by_cases c : i = j
      · subst c
        simp only [if_true] at hu
        split at hu
        · cases hu; exact ⟨w, by simp, hv⟩
        · cases hu
      · rw [if_neg c] at hu
        obtain ⟨q1, q2⟩ := kill1_get hu
        obtain ⟨w', q3, q4⟩ := r.2.2 j u q1
        have n1 : ¬ (j = i) := fun q => c q.symm
        have n2 : ¬ (j + 1 = i ∧ l[i]? = some .second) := fun ⟨a1, a2⟩ => by
          obtain ⟨j', w2, e1, e2, e3⟩ := r.2.1.2 _ a2
          have : j' = j := by omega
          subst this; rw [q3] at e2; cases e2
          have q5 := q4.cat
          rw [e3] at q5
          cases u <;> simp [OwnX.cat] at q5
          exact q2 a1 _ rfl
        have n3 : ¬ (j = i + 1 ∧ l[j]? = some .second) := fun ⟨_, q⟩ => by rw [q3] at q; cases q
        exact ⟨w', by rw [if_neg n1, if_neg n2, if_neg n3]; exact q3, q4⟩
theorem LR.putL {am : List Addr} {L L' : ALoc} {l : Array Slot} {i : Nat} {x : Int64} (r : LR am L l) (h : lputL L i x = some L') : ∃ l', storeLocals l i (.long x) = some l' ∧ l'.size = l.size ∧ LR am L' l' := by
  unfold lputL at h
  cases hb : Nat.ble (i + 2) L.length
  · rw [hb] at h; cases h
  · rw [hb] at h
    have hi : i + 1 < L.length := Nat.le_of_ble_eq_true hb
    simp only [cond_true, Option.some.injEq] at h
    obtain ⟨l', h1, h2, h3⟩ := store2w (v := .long x) r.2.1 (by rw [← r.1]; exact hi) rfl
    refine ⟨l', h1, h2, ?_, h3.wf r.2.1 rfl, fun j u hu => ?_⟩
    · rw [← h]; simp [kill1_len, r.1, h2]
    · rw [← h, List.getElem?_set] at hu
      rw [h3 j]
      by_cases c0 : i + 1 = j
      · subst c0
        simp only [if_true] at hu
        split at hu <;> cases hu
      · rw [if_neg c0, List.getElem?_set] at hu
        by_cases c : i = j
        · subst c
          simp only [if_true] at hu
          split at hu
          · cases hu; exact ⟨.long x, by simp, rfl⟩
          · cases hu
        · rw [if_neg c] at hu
          obtain ⟨q1, q2⟩ := kill1_get hu
          obtain ⟨w', q3, q4⟩ := r.2.2 j u q1
          have n1 : ¬ (j = i) := fun q => c q.symm
          have n0 : ¬ (j = i + 1) := fun q => c0 q.symm
          have n2 : ¬ (j + 1 = i ∧ l[i]? = some .second) := fun ⟨a1, a2⟩ => by
            obtain ⟨j', w2, e1, e2, e3⟩ := r.2.1.2 _ a2
            have : j' = j := by omega
            subst this; rw [q3] at e2; cases e2
            have q5 := q4.cat
            rw [e3] at q5
            cases u <;> simp [OwnX.cat] at q5
            exact q2 a1 _ rfl
          have n3 : ¬ (j = i + 2 ∧ l[j]? = some .second) := fun ⟨_, q⟩ => by rw [q3] at q; cases q
          exact ⟨w', by rw [if_neg n1, if_neg n0, if_neg n2, if_neg n3]; exact q3, q4⟩
theorem LR.int {am : List Addr} {L : ALoc} {l : Array Slot} {i : Nat} {x : Int32} (r : LR am L l) (h : loadI L i = some x) : l[i]? = some (.val (.int x)) := by
  unfold loadI at h
  split at h
  · rename_i y hy
    cases h
    obtain ⟨w, h1, h2⟩ := r.2.2 _ _ hy
    cases h2; exact h1
  · cases h
theorem LR.long {am : List Addr} {L : ALoc} {l : Array Slot} {i : Nat} {x : Int64} (r : LR am L l) (h : loadJ L i = some x) : l[i]? = some (.val (.long x)) := by
  unfold loadJ at h
  split at h
  · rename_i y hy
    cases h
    obtain ⟨w, h1, h2⟩ := r.2.2 _ _ hy
    cases h2; exact h1
  · cases h
theorem LR.ref {am : List Addr} {L : ALoc} {l : Array Slot} {i x : Nat} (r : LR am L l) (h : loadA L i = some x) : ∃ a, am[x]? = some a ∧ l[i]? = some (.val (.ref a)) := by
  unfold loadA at h
  split at h
  · rename_i y hy
    cases h
    obtain ⟨w, h1, a, h2, rfl⟩ := r.2.2 _ _ hy
    exact ⟨a, h2, h1⟩
  · cases h
end Jvm.OwnX
namespace Jvm.OwnX
open Sem ClassFile Op Lib Jvm.Stand Jvm.Free Jvm.LawKit Jvm.RoadKit
/-! ## the entry's variables -/
def slotsL : List Value → List Slot
  | [] => []
  | v :: r => if v.category = 2 then .val v :: .second :: slotsL r else .val v :: slotsL r
theorem fold_slots : ∀ (ws : List Value) (acc : Array Slot), ws.foldl (fun acc v => if v.category = 2 then (acc.push (.val v)).push .second else acc.push (.val v)) acc = acc ++ (slotsL ws).toArray
  | [], acc => by simp [slotsL]
  | v :: r, acc => by
    rw [List.foldl_cons, fold_slots r]
    by_cases h : v.category = 2
    · simp only [h, if_true, slotsL]; apply Array.ext'; simp
    · simp only [h, if_false, slotsL]; apply Array.ext'; simp
theorem argsToLocals_eq (ws : List Value) (n : Nat) : argsToLocals ws.toArray n = (slotsL ws ++ List.replicate (n - (slotsL ws).length) Slot.unset).toArray := by
  unfold argsToLocals
  have h : Array.foldl (fun acc v => if v.category = 2 then (acc.push (.val v)).push .second else acc.push (.val v)) #[] ws.toArray = (slotsL ws).toArray := by
    rw [List.foldl_toArray, fold_slots]; simp
  simp only [h]
  apply Array.ext'; simp
def WFl (s : List Slot) : Prop := (∀ (i : Nat) (w : Value), s[i]? = some (Slot.val w) → w.category = 2 → s[i + 1]? = some Slot.second) ∧ (∀ (i : Nat), s[i]? = some Slot.second → ∃ (j : Nat) (w : Value), i = j + 1 ∧ s[j]? = some (Slot.val w) ∧ w.category = 2)
theorem WFl.nil : WFl [] := ⟨fun i w h => by simp at h, fun i h => by simp at h⟩
theorem WFl.one {s : List Slot} (h : WFl s) {v : Value} (hv : ¬ v.category = 2) : WFl (.val v :: s) := by
  refine ⟨fun i w h1 h2 => ?_, fun i h1 => ?_⟩
  · cases i with
    | zero => simp at h1; subst h1; exact absurd h2 hv
    | succ i => rw [List.getElem?_cons_succ] at h1 ⊢; exact h.1 _ _ h1 h2
  · cases i with
    | zero => simp at h1
    | succ i =>
      rw [List.getElem?_cons_succ] at h1
      obtain ⟨j, w, rfl, e2, e3⟩ := h.2 _ h1
      exact ⟨j + 1, w, rfl, by rw [List.getElem?_cons_succ]; exact e2, e3⟩
theorem WFl.two {s : List Slot} (h : WFl s) {v : Value} (hv : v.category = 2) : WFl (.val v :: .second :: s) := by
  refine ⟨fun i w h1 h2 => ?_, fun i h1 => ?_⟩
  · match i with
    | 0 => simp
    | 1 => simp at h1
    | i + 2 => simp only [List.getElem?_cons_succ] at h1 ⊢; exact h.1 _ _ h1 h2
  · match i with
    | 0 => simp at h1
    | 1 => exact ⟨0, v, rfl, by simp, hv⟩
    | i + 2 =>
      simp only [List.getElem?_cons_succ] at h1
      obtain ⟨j, w, rfl, e2, e3⟩ := h.2 _ h1
      exact ⟨j + 2, w, rfl, by simp only [List.getElem?_cons_succ]; exact e2, e3⟩
theorem WFl.pad {s : List Slot} (h : WFl s) (n : Nat) : WFl (s ++ List.replicate n Slot.unset) := by
  have hk : ∀ (i : Nat) (x : Slot), (s ++ List.replicate n Slot.unset)[i]? = some x → x ≠ Slot.unset → s[i]? = some x := fun i x q hx => by
    by_cases c : i < s.length
    · rw [List.getElem?_append_left c] at q; exact q
    · rw [List.getElem?_append_right (by omega), List.getElem?_replicate] at q
      split at q
      · cases q; exact absurd rfl hx
      · cases q
  have hl : ∀ (i : Nat) (x : Slot), s[i]? = some x → (s ++ List.replicate n Slot.unset)[i]? = some x := fun i x q => by
    rw [List.getElem?_append_left (List.getElem?_eq_some_iff.mp q).1]; exact q
  refine ⟨fun i w h1 h2 => hl _ _ (h.1 _ _ (hk _ _ h1 (by simp)) h2), fun i h1 => ?_⟩
  obtain ⟨j, w, e1, e2, e3⟩ := h.2 _ (hk _ _ h1 (by simp))
  exact ⟨j, w, e1, hl _ _ e2, e3⟩
theorem slotsL_ok {am : List Addr} : ∀ {as ws : List Value}, SR am as ws → (entL as).length = (slotsL ws).length ∧ WFl (slotsL ws) ∧ ∀ (i : Nat) (v : Value), (entL as)[i]? = some (some v) → ∃ w, (slotsL ws)[i]? = some (Slot.val w) ∧ VR am v w
  | [], _, h => by cases h; exact ⟨rfl, WFl.nil, fun i v q => by simp [entL] at q⟩
  | v :: r, _, ⟨w, ws', e, r1, r2⟩ => by
    subst e
    obtain ⟨i1, i2, i3⟩ := slotsL_ok r2
    have hc := r1.cat
    by_cases h2 : ∃ x, v = .long x
    · obtain ⟨x, rfl⟩ := h2
      have hc2 : w.category = 2 := hc
      refine ⟨by simp [entL, slotsL, hc2, i1], by simp only [slotsL, hc2, if_true]; exact i2.two hc2, fun i u q => ?_⟩
      simp only [slotsL, hc2, if_true, entL] at q ⊢
      match i with
      | 0 => simp at q; subst q; exact ⟨w, by simp, r1⟩
      | 1 => simp at q
      | i + 2 => simp only [List.getElem?_cons_succ] at q ⊢; exact i3 i u q
    · have hv1 : OwnX.cat v = 1 := by cases v <;> first | rfl | (exact absurd ⟨_, rfl⟩ h2)
      have hc2 : ¬ w.category = 2 := by rw [hc, hv1]; decide
      have he : entL (v :: r) = some v :: entL r := by cases v <;> first | rfl | (exact absurd ⟨_, rfl⟩ h2)
      refine ⟨by simp [he, slotsL, hc2, i1], by simp only [slotsL, hc2, if_false]; exact i2.one hc2, fun i u q => ?_⟩
      rw [he] at q
      simp only [slotsL, hc2, if_false]
      match i with
      | 0 => simp at q; subst q; exact ⟨w, by simp, r1⟩
      | i + 1 => simp only [List.getElem?_cons_succ] at q ⊢; exact i3 i u q
theorem LR.entry {am : List Addr} {as ws : List Value} {n : Nat} (h : SR am as ws) (hn : (entL as).length ≤ n) : LR am (pad n (entL as)) (argsToLocals ws.toArray n) := by
  obtain ⟨h1, h2, h3⟩ := slotsL_ok h
  rw [argsToLocals_eq]
  have hw := h2.pad (n - (slotsL ws).length)
  refine ⟨by simp [pad, h1], ⟨fun i w q1 q2 => ?_, fun i q1 => ?_⟩, fun i v q => ?_⟩
  · rw [List.getElem?_toArray] at q1 ⊢; exact hw.1 _ _ q1 q2
  · rw [List.getElem?_toArray] at q1
    obtain ⟨j, w, e1, e2, e3⟩ := hw.2 _ q1
    exact ⟨j, w, e1, by rw [List.getElem?_toArray]; exact e2, e3⟩
  · have hi : i < (entL as).length := by
      by_cases c : i < (entL as).length
      · exact c
      · unfold pad at q
        rw [List.getElem?_append_right (by omega), List.getElem?_replicate] at q
        split at q
        · cases q
        · cases q
    unfold pad at q
    rw [List.getElem?_append_left hi] at q
    obtain ⟨w, e1, e2⟩ := h3 i v q
    exact ⟨w, by rw [List.getElem?_toArray, List.getElem?_append_left (by omega)]; exact e1, e2⟩
theorem entry_size {ws : List Value} {n : Nat} (h : (slotsL ws).length ≤ n) : (argsToLocals ws.toArray n).size = n := by
  rw [argsToLocals_eq]; simp; omega
/-! ## the heap -/
def aty : Nat → FieldType
  | 0 => .int
  | 1 => .int
  | 2 => .boolean
  | 3 => .byte
  | _ => .long
def CR (P : Prog) (C : String) (Z : State) (am : List Addr) (c : ACell) (h : Heap) (a : Addr) : Prop := match c with
  | .inl fs => Exa Z h a C ∧ fs.length = P.fields.length ∧ ∀ (j : Nat) (v : Value) (n d : String) (t : Nat) (f : Bool), fs[j]? = some v → P.fields[j]? = some (n, d, t, f) → ∃ w, VR am v w ∧ Fld Z h a C n d w
  | .inr (.inl (t, xs)) => ∃ cl, Arr Z h a cl (aty t) ∧ cl.slots.size = xs.length ∧ ∀ (j : Nat) (x : Int32), xs[j]? = some x → cl.slots[j]? = some (.int x)
  | .inr (.inr xs) => ∃ cl, Arr Z h a cl .long ∧ cl.slots.size = xs.length ∧ ∀ (j : Nat) (x : Int64), xs[j]? = some x → cl.slots[j]? = some (.long x)
def HR (P : Prog) (C : String) (Z : State) (n0 : Nat) (am : List Addr) (H : AHeap) (h : Heap) : Prop :=
  am.length = H.length ∧ (∀ (i j : Nat) (a : Addr), am[i]? = some a → am[j]? = some a → i = j) ∧ (∀ (i : Nat) (a : Addr), am[i]? = some a → a < h.size ∧ (P.ro ≤ i → n0 ≤ a)) ∧ ∀ (i : Nat) (c : ACell), H[i]? = some c → ∃ a, am[i]? = some a ∧ CR P C Z am c h a
section Heap
variable {P : Prog} {C : String} {Z : State} {n0 : Nat} {am am' : List Addr} {H : AHeap} {h h' : Heap} {a b : Addr} {c : ACell}
theorem CR.ext (E : Ext h h') (hp : Pre am am') (r : CR P C Z am c h a) : CR P C Z am' c h' a := by
  match c, r with
  | .inl fs, ⟨r1, r2, r3⟩ => exact ⟨r1.ext E, r2, fun j v n d t f q1 q2 => by obtain ⟨w, e1, e2⟩ := r3 j v n d t f q1 q2; exact ⟨w, e1.mono hp, e2.ext E⟩⟩
  | .inr (.inl (t, xs)), ⟨cl, r1, r2⟩ => exact ⟨cl, r1.ext E, r2⟩
  | .inr (.inr xs), ⟨cl, r1, r2⟩ => exact ⟨cl, r1.ext E, r2⟩
theorem CR.other {sl : Nat} {v : Value} (W : Wr h h' b sl v) (hne : a ≠ b) (r : CR P C Z am c h a) : CR P C Z am c h' a := by
  match c, r with
  | .inl fs, ⟨r1, r2, r3⟩ => exact ⟨r1.wr W, r2, fun j v n d t f q1 q2 => by obtain ⟨w, e1, e2⟩ := r3 j v n d t f q1 q2; exact ⟨w, e1, e2.other W (Or.inl hne)⟩⟩
  | .inr (.inl (t, xs)), ⟨cl, r1, r2⟩ => exact ⟨cl, r1.other W hne, r2⟩
  | .inr (.inr xs), ⟨cl, r1, r2⟩ => exact ⟨cl, r1.other W hne, r2⟩
/-- a new cell -/
theorem HR.push (E : Ext h h') (r : HR P C Z n0 am H h) (hlt : h.size < h'.size) (hn : n0 ≤ h.size) (hc : CR P C Z (am ++ [h.size]) c h' h.size) : HR P C Z n0 (am ++ [h.size]) (H ++ [c]) h' := by
  obtain ⟨r1, r2, r3, r4⟩ := r
  have hin : ∀ (i : Nat) (x : Addr), (am ++ [h.size])[i]? = some x → (am[i]? = some x ∧ i < am.length) ∨ (i = am.length ∧ x = h.size) := fun i x q => by
    by_cases ci : i < am.length
    · rw [List.getElem?_append_left ci] at q; exact Or.inl ⟨q, ci⟩
    · rw [List.getElem?_append_right (by omega)] at q
      have : i - am.length = 0 := by
        by_cases z : i - am.length = 0
        · exact z
        · rw [List.getElem?_eq_none (by simp; omega)] at q; cases q
      rw [this] at q
      simp at q
      exact Or.inr ⟨by omega, q.symm⟩
  refine ⟨by simp [r1], fun i j x q1 q2 => ?_, fun i x q => ?_, fun i d q => ?_⟩
  · rcases hin i x q1 with ⟨u1, u2⟩ | ⟨u1, u2⟩ <;> rcases hin j x q2 with ⟨v1, v2⟩ | ⟨v1, v2⟩
    · exact r2 _ _ _ u1 v1
    · subst v2; exact absurd (r3 _ _ u1).1 (Nat.lt_irrefl _)
    · subst u2; exact absurd (r3 _ _ v1).1 (Nat.lt_irrefl _)
    · omega
  · rcases hin i x q with ⟨u1, u2⟩ | ⟨u1, u2⟩
    · have := r3 _ _ u1; exact ⟨Nat.lt_of_lt_of_le this.1 E.1, this.2⟩
    · subst u2; exact ⟨hlt, fun _ => hn⟩
  · by_cases ci : i < H.length
    · rw [List.getElem?_append_left ci] at q
      obtain ⟨x, e1, e2⟩ := r4 i d q
      exact ⟨x, Pre.app am _ _ _ e1, e2.ext E (Pre.app am _)⟩
    · rw [List.getElem?_append_right (by omega)] at q
      have : i - H.length = 0 := by
        by_cases z : i - H.length = 0
        · exact z
        · rw [List.getElem?_eq_none (by simp; omega)] at q; cases q
      rw [this] at q
      simp at q; subst q
      have e : i = am.length := by omega
      exact ⟨h.size, by rw [e]; simp, hc⟩
/-- a cell changed in place -/
theorem HR.upd {i sl : Nat} {v : Value} (W : Wr h h' a sl v) (r : HR P C Z n0 am H h) (hi : am[i]? = some a) (hc : CR P C Z am c h' a) : HR P C Z n0 am (H.set i c) h' := by
  obtain ⟨r1, r2, r3, r4⟩ := r
  refine ⟨by simp [r1], r2, fun j x q => by rw [W.size]; exact r3 _ _ q, fun j d q => ?_⟩
  rw [List.getElem?_set] at q
  by_cases e : i = j
  · subst e
    simp only [if_true] at q
    split at q
    · cases q; exact ⟨a, hi, hc⟩
    · cases q
  · rw [if_neg e] at q
    obtain ⟨x, e1, e2⟩ := r4 j d q
    exact ⟨x, e1, e2.other W fun q => e (r2 _ _ _ hi (q ▸ e1))⟩
theorem inb_spec {n : Nat} {j : Int32} (h : inb n j = true) : ¬ (j < 0 ∨ n ≤ j.toNatClampNeg) := by
  simp only [inb, Bool.and_eq_true, Bool.not_eq_true', decide_eq_false_iff_not] at h
  have h2 : j.toNatClampNeg < n := Nat.le_of_ble_eq_true h.2
  rintro (q | q)
  · exact h.1 q
  · omega
theorem inb_lt {n : Nat} {j : Int32} (h : inb n j = true) : j.toNatClampNeg < n := by
  have := inb_spec h; exact Nat.lt_of_not_le fun q => this (Or.inr q)
theorem rd_at {xs : List Int32} {j : Int32} (h : inb xs.length j = true) : xs[j.toNatClampNeg]? = some (rd xs j) := by
  rw [rd, List.getD_eq_getElem?_getD, List.getElem?_eq_getElem (inb_lt h)]; rfl
theorem rdL_at {xs : List Int64} {j : Int32} (h : inb xs.length j = true) : xs[j.toNatClampNeg]? = some (rdL xs j) := by
  rw [rdL, List.getD_eq_getElem?_getD, List.getElem?_eq_getElem (inb_lt h)]; rfl
theorem CR.wrI {t : Nat} {xs : List Int32} {j x : Int32} (W : Wr h h' a j.toNatClampNeg (.int x)) (r : CR P C Z am (.inr (.inl (t, xs))) h a) : CR P C Z am (.inr (.inl (t, wr xs j x))) h' a := by
  obtain ⟨cl, r1, r2, r3⟩ := r
  refine ⟨_, r1.same W, by rw [sz_set, r2]; simp [wr], fun i y q => ?_⟩
  unfold wr at q
  rw [List.getElem?_set] at q
  by_cases e : j.toNatClampNeg = i
  · rw [if_pos e] at q
    split at q
    · cases q; subst e
      have hs : j.toNatClampNeg < cl.slots.size := by omega
      simp [Cell.setSlot, hs]
    · cases q
  · rw [if_neg e] at q
    simp only [Cell.setSlot]
    rw [Array.getElem?_setIfInBounds_ne e]; exact r3 _ _ q
theorem CR.wrJ {xs : List Int64} {j : Int32} {x : Int64} (W : Wr h h' a j.toNatClampNeg (.long x)) (r : CR P C Z am (.inr (.inr xs)) h a) : CR P C Z am (.inr (.inr (wrL xs j x))) h' a := by
  obtain ⟨cl, r1, r2, r3⟩ := r
  refine ⟨_, r1.same W, by rw [sz_set, r2]; simp [wrL], fun i y q => ?_⟩
  unfold wrL at q
  rw [List.getElem?_set] at q
  by_cases e : j.toNatClampNeg = i
  · rw [if_pos e] at q
    split at q
    · cases q; subst e
      have hs : j.toNatClampNeg < cl.slots.size := by omega
      simp [Cell.setSlot, hs]
    · cases q
  · rw [if_neg e] at q
    simp only [Cell.setSlot]
    rw [Array.getElem?_setIfInBounds_ne e]; exact r3 _ _ q
end Heap
/-! ## what the sheet's words must say -/
def tyOk : Nat → FieldType → Bool
  | 0, .int => true
  | 1, .boolean => true
  | 2, .long => true
  | 3, .array _ => true
  | _, _ => false
def rcv (q : Nat) : Nat := match q with | 0 => 0 | _ => 1
def KindOk (P : Prog) (nm : Nat → MethodName) (C : String) (Z : State) (a0 : Array Value) (q k : Nat) : Prop := match q with
  | 0 => (Cond.static (nm k)).before a0 Z = true
  | 1 => (nm k).name = "<init>" ∧ (Cond.instanceMethod (nm k)).before a0 Z = true ∧ P.ret k = none
  | 2 => (Cond.declares (nm k)).before a0 Z = true ∧ (Cond.instanceMethod (nm k)).before a0 Z = true ∧ (Cond.selects C (nm k) (nm k)).before a0 Z = true
  | _ => (nm k).cls = C ∧ (Cond.instanceMethod (nm k)).before a0 Z = true ∧ (Cond.privateMethod (nm k)).before a0 Z = true
def CallOk (P : Prog) (nm : Nat → MethodName) (bc : Nat → ByteArray) (cn : Nat → String) (C : String) (Z : State) (a0 : Array Value) (c j q k : Nat) : Prop :=
  (Cond.methodLink (cn c) j (nm k)).before a0 Z = true ∧ (Cond.code (nm k) (bc k) (P.maxL k) (P.ret k)).before a0 Z = true ∧ (Cond.initialized (nm k).cls).before a0 Z = true ∧
      (∃ ps r, parseMethodDescriptor (nm k).desc = some ⟨ps, r⟩ ∧ P.pops k = ps.length + rcv q) ∧ plainName (nm k).cls = true ∧ ((nm k).cls ≠ "java/lang/invoke/MethodHandle" ∧ (nm k).cls ≠ "java/lang/invoke/VarHandle") ∧ (nm k).cls = cn (P.cls k) ∧ (P.ini k = true → (nm k).name = "<init>" ∧ (nm k).cls = C) ∧ KindOk P nm C Z a0 q k
def LinkOk (P : Prog) (nm : Nat → MethodName) (bc : Nat → ByteArray) (cn : Nat → String) (C : String) (Z : State) (a0 : Array Value) (c j q k : Nat) : Prop := match q with
  | 4 => (Cond.methodLink (cn c) j Lib.objectInit).before a0 Z = true ∧ (Cond.instanceMethod Lib.objectInit).before a0 Z = true ∧ (Cond.code Lib.objectInit ⟨#[0xb1]⟩ 1 none).before a0 Z = true
  | 5 => (Cond.classLink (cn c) j C).before a0 Z = true
  | q => CallOk P nm bc cn C Z a0 c j q k
def KonOk (cn : Nat → String) (Z : State) (a0 : Array Value) (c j : Nat) (v : Value) : Prop := match v with
  | .int x => (Cond.constant (cn c) j x).before a0 Z = true
  | .long x => (Cond.constantLong (cn c) j x).before a0 Z = true
  | _ => False
def Good (P : Prog) (nm : Nat → MethodName) (bc : Nat → ByteArray) (cn : Nat → String) (C : String) (Z : State) (a0 : Array Value) : Prop :=
  (∀ k pc i np, P.code k pc = some (i, np) → ∃ len, decode (bc k) pc = .ok (i, len) ∧ np = pc + len ∧ (ilen i = 0 ∨ len = ilen i)) ∧
  (∀ c j f, P.fld c j = some f → ∃ n d t fin, P.fields[f]? = some (n, d, t, fin) ∧ (Cond.fieldLink (cn c) j C n d).before a0 Z = true) ∧
  (∀ (f : Nat) n d t (fin : Bool), P.fields[f]? = some (n, d, t, fin) → (bif fin then (Cond.laysFinal C C n d).before a0 Z else (Cond.lays C C n d).before a0 Z) = true ∧ ∃ ty, parseFieldDescriptor d = some ty ∧ tyOk t ty = true ∧ defaultValue ty = dflt t) ∧
  (∀ (f g : Nat) n d t (fin : Bool) n' d' t' (fin' : Bool), P.fields[f]? = some (n, d, t, fin) → P.fields[g]? = some (n', d', t', fin') → f ≠ g → n ≠ n') ∧
  (∀ c j v, P.kon c j = some v → KonOk cn Z a0 c j v) ∧
  (Cond.instantiable C P.objN).before a0 Z = true ∧ (Cond.initialized C).before a0 Z = true ∧
  (∀ k pc t np, P.code k pc = some (.newarray t, np) → (Cond.arrayClass (newarray.typeOf t)).before a0 Z = true) ∧
  (∀ c j q k, P.link c j = some (q, k) → LinkOk P nm bc cn C Z a0 c j q k)
end Jvm.OwnX
namespace Jvm.OwnX
open Sem ClassFile Op Lib Jvm.Stand Jvm.Free Jvm.LawKit Jvm.RoadKit
section Sound
variable {p : Program} {l : Launch} {e : Env} {R : Room} {s : State} {m : MethodId} {args : Array Value} {below : List Frame} {meth : Method} {c : Code} {T : State} {locs : List Loc} {cells slots : Nat}
variable {P : Prog} {nm : Nat → MethodName} {bc : Nat → ByteArray} {cn : Nat → String} {C : String} {Z : State} {a0 : Array Value} {n0 : Nat}
/-- where the walk stands behind a step -/
def Behind (p : Program) (l : Launch) (e : Env) (R : Room) (s : State) (m : MethodId) (args : Array Value) (below : List Frame) (meth : Method) (c : Code) (P : Prog) (C : String) (Z : State) (n0 : Nat) (am : List Addr) (cells slots : Nat)
    (T : State) (pc : Nat) (ls : Array Slot) (st : List Value) (pc' : Nat) (L' : ALoc) (S' : List Value) (H' : AHeap) (dc ds : Nat) : Prop :=
  ∃ T' am' ls' st' locs', Stand p l e R s m args below meth c T' locs' (cells + dc) (slots + ds) ∧ LR am' L' ls' ∧ ls'.size = ls.size ∧ SR am' S' st' ∧ HR P C Z n0 am' H' T'.heap ∧ Pre am am' ∧ Fr n0 locs' ∧ n0 ≤ T'.heap.size ∧
    ∀ target, Steps p.tables e below (T'.setTop (mkF m pc' ls' st')) target → Steps p.tables e below (T.setTop (mkF m pc ls st)) target
theorem Behind.plain {am : List Addr} {H : AHeap} {pc pc' : Nat} {L' : ALoc} {S' : List Value} {ls ls' : Array Slot} {st st' : List Value} (X : Stand p l e R s m args below meth c T locs cells slots) (hL : LR am L' ls') (hz : ls'.size = ls.size) (hS : SR am S' st') (hH : HR P C Z n0 am H T.heap) (hF : Fr n0 locs) (hn : n0 ≤ T.heap.size)
    (hs : ∀ target, Steps p.tables e below (T.setTop (mkF m pc' ls' st')) target → Steps p.tables e below (T.setTop (mkF m pc ls st)) target) : Behind p l e R s m args below meth c P C Z n0 am cells slots T pc ls st pc' L' S' H (H.length - H.length) (hsz P H - hsz P H) :=
  ⟨T, am, ls', st', locs, by simpa using X, hL, hz, hS, hH, Pre.refl _, hF, hn, hs⟩
theorem Behind.plain' {T' : State} {am : List Addr} {H : AHeap} {pc pc' : Nat} {L' : ALoc} {S' : List Value} {ls ls' : Array Slot} {st st' : List Value} (X : Stand p l e R s m args below meth c T' locs cells slots) (eT : T'.heap = T.heap) (hL : LR am L' ls') (hz : ls'.size = ls.size) (hS : SR am S' st') (hH : HR P C Z n0 am H T.heap) (hF : Fr n0 locs) (hn : n0 ≤ T.heap.size)
    (hs : ∀ target, Steps p.tables e below (T'.setTop (mkF m pc' ls' st')) target → Steps p.tables e below (T.setTop (mkF m pc ls st)) target) : Behind p l e R s m args below meth c P C Z n0 am cells slots T pc ls st pc' L' S' H (H.length - H.length) (hsz P H - hsz P H) :=
  ⟨T', am, ls', st', locs, by simpa using X, hL, hz, hS, by rw [eT]; exact hH, Pre.refl _, hF, by rw [eT]; exact hn, hs⟩
theorem tgt_spec {pc t : Nat} {o : Int} (h : tgt pc o = some t) : 0 ≤ (pc : Int) + o ∧ ((pc : Int) + o).toNat = t := by
  unfold tgt at h
  split at h
  · rename_i n hn; cases h; rw [hn]; exact ⟨Int.natCast_nonneg _, rfl⟩
  · cases h
theorem hsz_app (P : Prog) : ∀ (H : AHeap) (c : ACell), hsz P (H ++ [c]) = hsz P H + csz P.objN c
  | [], c => by simp [hsz]
  | x :: r, c => by simp only [List.cons_append, hsz, hsz_app P r c]; omega
theorem hsz_append (P : Prog) : ∀ (H T : AHeap), hsz P (H ++ T) = hsz P H + hsz P T
  | [], T => by simp [hsz]
  | x :: r, T => by simp only [List.cons_append, hsz, hsz_append P r T]; omega
theorem hsz_set (P : Prog) : ∀ (H : AHeap) (i : Nat) (c c' : ACell), H[i]? = some c' → csz P.objN c = csz P.objN c' → hsz P (H.set i c) = hsz P H
  | [], i, c, c', h, _ => by simp at h
  | x :: r, 0, c, c', h, e => by simp at h; subst h; simp [hsz, e]
  | x :: r, i + 1, c, c', h, e => by simp only [List.set_cons_succ, hsz]; rw [List.getElem?_cons_succ] at h; rw [hsz_set P r i c c' h e]
/-- a write -/
theorem Behind.write {T' : State} {am : List Addr} {H : AHeap} {i sl : Nat} {cc cc' : ACell} {a : Addr} {w : Value} {h' : Heap} {pc pc' : Nat} {L' : ALoc} {S' : List Value} {ls : Array Slot} {st st' : List Value} (X : Stand p l e R s m args below meth c T' (locs ++ [⟨a, sl⟩]) cells slots) (eT : T'.heap = h') (W : Wr T.heap h' a sl w)
    (hL : LR am L' ls) (hS : SR am S' st') (hH : HR P C Z n0 am H T.heap) (hi : am[i]? = some a) (hro : P.ro ≤ i) (hc' : H[i]? = some cc') (hcs : csz P.objN cc = csz P.objN cc') (hC : CR P C Z am cc h' a) (hF : Fr n0 locs) (hn : n0 ≤ T.heap.size)
    (hs : ∀ target, Steps p.tables e below (T'.setTop (mkF m pc' ls st')) target → Steps p.tables e below (T.setTop (mkF m pc ls st)) target) :
    Behind p l e R s m args below meth c P C Z n0 am cells slots T pc ls st pc' L' S' (H.set i cc) ((H.set i cc).length - H.length) (hsz P (H.set i cc) - hsz P H) := by
  rw [hsz_set P H i cc cc' hc' hcs]
  refine ⟨T', am, ls, st', _, by simpa using X, hL, rfl, hS, by rw [eT]; exact hH.upd W hi hC, Pre.refl _, Fr.snoc X hF ((hH.2.2.1 _ _ hi).2 hro), by rw [eT, W.size]; exact hn, hs⟩
theorem arr_new {am : List Addr} {h h' : Heap} {cA : ClassId} {q : Nat} {n : Int32} {t : ArrayType} (ht : atyOf t = some q) (hn : ¬ n < 0) (A : Arr Z h' h.size (newA cA (newarray.typeOf t) n) (newarray.typeOf t)) : CR P C Z am (newC q n.toNatClampNeg) h' h.size := by
  have key : ∀ {d : Value}, ∀ j, (Array.replicate n.toNatClampNeg d)[j]? = if j < n.toNatClampNeg then some d else none := fun j => by rw [Array.getElem?_replicate]
  cases t <;> simp only [atyOf, Option.some.injEq, reduceCtorEq] at ht <;> subst ht
  · refine ⟨_, A, by simp [newA], fun j x q => ?_⟩
    rw [List.getElem?_replicate] at q
    split at q
    · cases q; simp only [newA]; rw [key, if_pos (by assumption)]; rfl
    · cases q
  · refine ⟨_, A, by simp [newA], fun j x q => ?_⟩
    rw [List.getElem?_replicate] at q
    split at q
    · cases q; simp only [newA]; rw [key, if_pos (by assumption)]; rfl
    · cases q
  · refine ⟨_, A, by simp [newA], fun j x q => ?_⟩
    rw [List.getElem?_replicate] at q
    split at q
    · cases q; simp only [newA]; rw [key, if_pos (by assumption)]; rfl
    · cases q
  · refine ⟨_, A, by simp [newA], fun j x q => ?_⟩
    rw [List.getElem?_replicate] at q
    split at q
    · cases q; simp only [newA]; rw [key, if_pos (by assumption)]; rfl
    · cases q
theorem csz_new {t : ArrayType} {q : Nat} (N n : Nat) (ht : atyOf t = some q) : csz N (newC q n) = n := by
  cases t <;> simp only [atyOf, Option.some.injEq, reduceCtorEq] at ht <;> subst ht <;> simp [newC, csz]
set_option maxHeartbeats 4000000 in
theorem step_sound (G : Good P nm bc cn C Z a0) {k pc np pc' : Nat} {i : Instr} {L L' : ALoc} {S S' : List Value} {H H' : AHeap} (hcode : P.code k pc = some (i, np)) (h : step P k i np pc L S H = some (pc', L', S', H'))
    (X : Stand p l e R s m args below meth c T locs cells slots) (hx : p.tables.exec = Jvm.exec) (hZ : Z.Warmed39 s.vm) (hby : c.code = bc k) (hml : c.maxLocals = P.maxL k) (hown : s.vm.findClass (cn (P.cls k)) = some m.cls) (hini : P.ini k = true → meth.name = "<init>" ∧ cn (P.cls k) = C)
    (hrf : P.rf k ≤ R.frames) (hrl : P.rl k ≤ R.locals) (hcells : cells + (H'.length - H.length) ≤ R.cells) (hslots : slots + (hsz P H' - hsz P H) ≤ R.slots) {am : List Addr} {ls : Array Slot} {st : List Value} (hlz : ls.size = P.maxL k) (hL : LR am L ls) (hS : SR am S st) (hH : HR P C Z n0 am H T.heap) (hF : Fr n0 locs) (hn : n0 ≤ T.heap.size) :
    Behind p l e R s m args below meth c P C Z n0 am cells slots T pc ls st pc' L' S' H' (H'.length - H.length) (hsz P H' - hsz P H) := by
  obtain ⟨G1, G2, G3, G4, G5, G6, G7, G8, G9⟩ := G
  obtain ⟨len, hdec, rfl, hlen⟩ := G1 _ _ _ _ hcode
  have hd : decode c.code pc = .ok (i, len) := by rw [hby]; exact hdec
  cases i
  case iload_n n =>
    simp only [step] at h
    obtain rfl := hlen.resolve_left (by simp [ilen])
    cases hl : loadI L n.val with
    | none => simp [hl] at h
    | some x =>
      simp only [hl, Option.some.injEq, Prod.mk.injEq] at h; obtain ⟨rfl, rfl, rfl, rfl⟩ := h
      exact Behind.plain X hL rfl ⟨_, _, rfl, rfl, hS⟩ hH hF hn fun target hr => XS.iloadN X.here hx rfl (g := mkF m pc ls st) hd (hL.int hl) hr
  case iload n =>
    simp only [step] at h
    obtain rfl := hlen.resolve_left (by simp [ilen])
    cases hl : loadI L n with
    | none => simp [hl] at h
    | some x =>
      simp only [hl, Option.some.injEq, Prod.mk.injEq] at h; obtain ⟨rfl, rfl, rfl, rfl⟩ := h
      exact Behind.plain X hL rfl ⟨_, _, rfl, rfl, hS⟩ hH hF hn fun target hr => XS.iload X.here hx rfl (g := mkF m pc ls st) hd (hL.int hl) hr
  case lload_n n =>
    simp only [step] at h
    obtain rfl := hlen.resolve_left (by simp [ilen])
    cases hl : loadJ L n.val with
    | none => simp [hl] at h
    | some x =>
      simp only [hl, Option.some.injEq, Prod.mk.injEq] at h; obtain ⟨rfl, rfl, rfl, rfl⟩ := h
      exact Behind.plain X hL rfl ⟨_, _, rfl, rfl, hS⟩ hH hF hn fun target hr => XS.lloadN X.here hx rfl (g := mkF m pc ls st) hd (hL.long hl) hr
  case lload n =>
    simp only [step] at h
    obtain rfl := hlen.resolve_left (by simp [ilen])
    cases hl : loadJ L n with
    | none => simp [hl] at h
    | some x =>
      simp only [hl, Option.some.injEq, Prod.mk.injEq] at h; obtain ⟨rfl, rfl, rfl, rfl⟩ := h
      exact Behind.plain X hL rfl ⟨_, _, rfl, rfl, hS⟩ hH hF hn fun target hr => XS.lload X.here hx rfl (g := mkF m pc ls st) hd (hL.long hl) hr
  case aload_n n =>
    simp only [step] at h
    obtain rfl := hlen.resolve_left (by simp [ilen])
    cases hl : loadA L n.val with
    | none => simp [hl] at h
    | some x =>
      simp only [hl, Option.some.injEq, Prod.mk.injEq] at h; obtain ⟨rfl, rfl, rfl, rfl⟩ := h
      obtain ⟨a, ha, hl'⟩ := hL.ref hl
      exact Behind.plain X hL rfl ⟨_, _, rfl, ⟨a, ha, rfl⟩, hS⟩ hH hF hn fun target hr => XS.aloadN X.here hx rfl (g := mkF m pc ls st) hd hl' rfl hr
  case aload n =>
    simp only [step] at h
    obtain rfl := hlen.resolve_left (by simp [ilen])
    cases hl : loadA L n with
    | none => simp [hl] at h
    | some x =>
      simp only [hl, Option.some.injEq, Prod.mk.injEq] at h; obtain ⟨rfl, rfl, rfl, rfl⟩ := h
      obtain ⟨a, ha, hl'⟩ := hL.ref hl
      exact Behind.plain X hL rfl ⟨_, _, rfl, ⟨a, ha, rfl⟩, hS⟩ hH hF hn fun target hr => XS.aload X.here hx rfl (g := mkF m pc ls st) hd hl' rfl hr
  case istore_n n =>
    simp only [step] at h
    obtain rfl := hlen.resolve_left (by simp [ilen])
    split at h
    · rename_i x r
      cases hl : lput L n.val (.int x) with
      | none => simp [hl] at h
      | some L2 =>
        simp only [hl, Option.some.injEq, Prod.mk.injEq] at h; obtain ⟨rfl, rfl, rfl, rfl⟩ := h
        obtain ⟨_, _, rfl, rfl, hr'⟩ := hS
        obtain ⟨l', h1, h2, h3⟩ := hL.put (w := .int x) hl rfl rfl
        exact Behind.plain X h3 h2 hr' hH hF hn fun target hr => XS.istoreN X.here hx rfl (g := mkF m pc ls _) hd rfl h1 hr
    · cases h
  case istore n =>
    simp only [step] at h
    obtain rfl := hlen.resolve_left (by simp [ilen])
    split at h
    · rename_i x r
      cases hl : lput L n (.int x) with
      | none => simp [hl] at h
      | some L2 =>
        simp only [hl, Option.some.injEq, Prod.mk.injEq] at h; obtain ⟨rfl, rfl, rfl, rfl⟩ := h
        obtain ⟨_, _, rfl, rfl, hr'⟩ := hS
        obtain ⟨l', h1, h2, h3⟩ := hL.put (w := .int x) hl rfl rfl
        exact Behind.plain X h3 h2 hr' hH hF hn fun target hr => XS.istore X.here hx rfl (g := mkF m pc ls _) hd rfl h1 hr
    · cases h
  case lstore_n n =>
    simp only [step] at h
    obtain rfl := hlen.resolve_left (by simp [ilen])
    split at h
    · rename_i x r
      cases hl : lputL L n.val x with
      | none => simp [hl] at h
      | some L2 =>
        simp only [hl, Option.some.injEq, Prod.mk.injEq] at h; obtain ⟨rfl, rfl, rfl, rfl⟩ := h
        obtain ⟨_, _, rfl, rfl, hr'⟩ := hS
        obtain ⟨l', h1, h2, h3⟩ := hL.putL hl
        exact Behind.plain X h3 h2 hr' hH hF hn fun target hr => XS.lstoreN X.here hx rfl (g := mkF m pc ls _) hd rfl h1 hr
    · cases h
  case lstore n =>
    simp only [step] at h
    obtain rfl := hlen.resolve_left (by simp [ilen])
    split at h
    · rename_i x r
      cases hl : lputL L n x with
      | none => simp [hl] at h
      | some L2 =>
        simp only [hl, Option.some.injEq, Prod.mk.injEq] at h; obtain ⟨rfl, rfl, rfl, rfl⟩ := h
        obtain ⟨_, _, rfl, rfl, hr'⟩ := hS
        obtain ⟨l', h1, h2, h3⟩ := hL.putL hl
        exact Behind.plain X h3 h2 hr' hH hF hn fun target hr => XS.lstore X.here hx rfl (g := mkF m pc ls _) hd rfl h1 hr
    · cases h
  case astore_n n =>
    simp only [step] at h
    obtain rfl := hlen.resolve_left (by simp [ilen])
    split at h
    · rename_i x r
      cases hl : lput L n.val (.ref x) with
      | none => simp [hl] at h
      | some L2 =>
        simp only [hl, Option.some.injEq, Prod.mk.injEq] at h; obtain ⟨rfl, rfl, rfl, rfl⟩ := h
        obtain ⟨_, _, rfl, ⟨a, ha, rfl⟩, hr'⟩ := hS
        obtain ⟨l', h1, h2, h3⟩ := hL.put (w := .ref a) hl ⟨a, ha, rfl⟩ rfl
        exact Behind.plain X h3 h2 hr' hH hF hn fun target hr => XS.astoreN X.here hx rfl (g := mkF m pc ls _) hd rfl rfl h1 hr
    · cases h
  case astore n =>
    simp only [step] at h
    obtain rfl := hlen.resolve_left (by simp [ilen])
    split at h
    · rename_i x r
      cases hl : lput L n (.ref x) with
      | none => simp [hl] at h
      | some L2 =>
        simp only [hl, Option.some.injEq, Prod.mk.injEq] at h; obtain ⟨rfl, rfl, rfl, rfl⟩ := h
        obtain ⟨_, _, rfl, ⟨a, ha, rfl⟩, hr'⟩ := hS
        obtain ⟨l', h1, h2, h3⟩ := hL.put (w := .ref a) hl ⟨a, ha, rfl⟩ rfl
        exact Behind.plain X h3 h2 hr' hH hF hn fun target hr => XS.astore X.here hx rfl (g := mkF m pc ls _) hd rfl rfl h1 hr
    · cases h
  case iinc n cst =>
    simp only [step] at h
    obtain rfl := hlen.resolve_left (by simp [ilen])
    cases hl : loadI L n with
    | none => simp [hl] at h
    | some x =>
      cases hp : lput L n (.int (x + Int32.ofInt cst)) with
      | none => simp [hl, hp] at h
      | some L2 =>
        simp only [hl, hp, Option.some.injEq, Prod.mk.injEq] at h; obtain ⟨rfl, rfl, rfl, rfl⟩ := h
        obtain ⟨l', h1, h2, h3⟩ := hL.put (w := .int (x + Int32.ofInt cst)) hp rfl rfl
        exact Behind.plain X h3 h2 hS hH hF hn fun target hr => XS.iinc X.here hx rfl (g := mkF m pc ls st) hd (hL.int hl) h1 hr
  case iconst q =>
    simp only [step] at h
    obtain rfl := hlen.resolve_left (by simp [ilen])
    simp only [Option.some.injEq, Prod.mk.injEq] at h; obtain ⟨rfl, rfl, rfl, rfl⟩ := h
    exact Behind.plain X hL rfl ⟨_, _, rfl, rfl, hS⟩ hH hF hn fun target hr => XS.iconst X.here hx rfl (g := mkF m pc ls st) hd hr
  case bipush q =>
    simp only [step] at h
    obtain rfl := hlen.resolve_left (by simp [ilen])
    simp only [Option.some.injEq, Prod.mk.injEq] at h; obtain ⟨rfl, rfl, rfl, rfl⟩ := h
    exact Behind.plain X hL rfl ⟨_, _, rfl, rfl, hS⟩ hH hF hn fun target hr => XS.bipush X.here hx rfl (g := mkF m pc ls st) hd hr
  case sipush q =>
    simp only [step] at h
    obtain rfl := hlen.resolve_left (by simp [ilen])
    simp only [Option.some.injEq, Prod.mk.injEq] at h; obtain ⟨rfl, rfl, rfl, rfl⟩ := h
    exact Behind.plain X hL rfl ⟨_, _, rfl, rfl, hS⟩ hH hF hn fun target hr => XS.sipush X.here hx rfl (g := mkF m pc ls st) hd hr
  case lconst q =>
    simp only [step] at h
    obtain rfl := hlen.resolve_left (by simp [ilen])
    simp only [Option.some.injEq, Prod.mk.injEq] at h; obtain ⟨rfl, rfl, rfl, rfl⟩ := h
    exact Behind.plain X hL rfl ⟨_, _, rfl, rfl, hS⟩ hH hF hn fun target hr => XS.lconst X.here hx rfl (g := mkF m pc ls st) hd hr
  case ldc j =>
    simp only [step] at h
    obtain rfl := hlen.resolve_left (by simp [ilen])
    split at h
    · rename_i x hk
      simp only [Option.some.injEq, Prod.mk.injEq] at h; obtain ⟨rfl, rfl, rfl, rfl⟩ := h
      have w := G5 _ _ _ hk
      exact Behind.plain X hL rfl ⟨_, _, rfl, rfl, hS⟩ hH hF hn fun target hr => X.ldcInt hx hown (mvT hZ w) (g := mkF m pc ls st) rfl hd _ hr
    · cases h
  case ldc2_w j =>
    simp only [step] at h
    obtain rfl := hlen.resolve_left (by simp [ilen])
    split at h
    · rename_i x hk
      simp only [Option.some.injEq, Prod.mk.injEq] at h; obtain ⟨rfl, rfl, rfl, rfl⟩ := h
      have w := G5 _ _ _ hk
      exact Behind.plain X hL rfl ⟨_, _, rfl, rfl, hS⟩ hH hF hn fun target hr => X.ldc2Long hx hown (mvT hZ w) (g := mkF m pc ls st) rfl hd _ hr
    · cases h
  case idiv =>
    simp only [step] at h
    obtain rfl := hlen.resolve_left (by simp [ilen])
    split at h
    · rename_i y x r
      by_cases hy : y = 0
      · simp [hy] at h
      · simp only [hy, decide_false, cond_false, Option.some.injEq, Prod.mk.injEq] at h; obtain ⟨rfl, rfl, rfl, rfl⟩ := h
        obtain ⟨_, _, rfl, rfl, _, _, rfl, rfl, hr'⟩ := hS
        exact Behind.plain X hL rfl ⟨_, _, rfl, rfl, hr'⟩ hH hF hn fun target hr => XS.idiv X.here hx rfl (g := mkF m pc ls _) hd rfl hy hr
    · cases h
  case irem =>
    simp only [step] at h
    obtain rfl := hlen.resolve_left (by simp [ilen])
    split at h
    · rename_i y x r
      by_cases hy : y = 0
      · simp [hy] at h
      · simp only [hy, decide_false, cond_false, Option.some.injEq, Prod.mk.injEq] at h; obtain ⟨rfl, rfl, rfl, rfl⟩ := h
        obtain ⟨_, _, rfl, rfl, _, _, rfl, rfl, hr'⟩ := hS
        exact Behind.plain X hL rfl ⟨_, _, rfl, rfl, hr'⟩ hH hF hn fun target hr => iremM X hx rfl (g := mkF m pc ls _) hd rfl hy hr
    · cases h
  case lshl =>
    simp only [step] at h
    obtain rfl := hlen.resolve_left (by simp [ilen])
    split at h
    · rename_i y x r
      simp only [Option.some.injEq, Prod.mk.injEq] at h; obtain ⟨rfl, rfl, rfl, rfl⟩ := h
      obtain ⟨_, _, rfl, rfl, _, _, rfl, rfl, hr'⟩ := hS
      exact Behind.plain X hL rfl ⟨_, _, rfl, rfl, hr'⟩ hH hF hn fun target hr => XS.lshl X.here hx rfl (g := mkF m pc ls _) hd rfl hr
    · cases h
  case lushr =>
    simp only [step] at h
    obtain rfl := hlen.resolve_left (by simp [ilen])
    split at h
    · rename_i y x r
      simp only [Option.some.injEq, Prod.mk.injEq] at h; obtain ⟨rfl, rfl, rfl, rfl⟩ := h
      obtain ⟨_, _, rfl, rfl, _, _, rfl, rfl, hr'⟩ := hS
      exact Behind.plain X hL rfl ⟨_, _, rfl, rfl, hr'⟩ hH hF hn fun target hr => XS.lushr X.here hx rfl (g := mkF m pc ls _) hd rfl hr
    · cases h
  case lcmp =>
    simp only [step] at h
    obtain rfl := hlen.resolve_left (by simp [ilen])
    split at h
    · rename_i y x r
      simp only [Option.some.injEq, Prod.mk.injEq] at h; obtain ⟨rfl, rfl, rfl, rfl⟩ := h
      obtain ⟨_, _, rfl, rfl, _, _, rfl, rfl, hr'⟩ := hS
      exact Behind.plain X hL rfl ⟨_, _, rfl, rfl, hr'⟩ hH hF hn fun target hr => XS.lcmp X.here hx rfl (g := mkF m pc ls _) hd rfl hr
    · cases h
  case lneg =>
    simp only [step] at h
    obtain rfl := hlen.resolve_left (by simp [ilen])
    split at h
    · rename_i x r
      simp only [Option.some.injEq, Prod.mk.injEq] at h; obtain ⟨rfl, rfl, rfl, rfl⟩ := h
      obtain ⟨_, _, rfl, rfl, hr'⟩ := hS
      exact Behind.plain X hL rfl ⟨_, _, rfl, rfl, hr'⟩ hH hF hn fun target hr => XS.lneg X.here hx rfl (g := mkF m pc ls _) hd rfl hr
    · cases h
  case i2l =>
    simp only [step] at h
    obtain rfl := hlen.resolve_left (by simp [ilen])
    split at h
    · rename_i x r
      simp only [Option.some.injEq, Prod.mk.injEq] at h; obtain ⟨rfl, rfl, rfl, rfl⟩ := h
      obtain ⟨_, _, rfl, rfl, hr'⟩ := hS
      exact Behind.plain X hL rfl ⟨_, _, rfl, rfl, hr'⟩ hH hF hn fun target hr => XS.i2l X.here hx rfl (g := mkF m pc ls _) hd rfl hr
    · cases h
  case l2i =>
    simp only [step] at h
    obtain rfl := hlen.resolve_left (by simp [ilen])
    split at h
    · rename_i x r
      simp only [Option.some.injEq, Prod.mk.injEq] at h; obtain ⟨rfl, rfl, rfl, rfl⟩ := h
      obtain ⟨_, _, rfl, rfl, hr'⟩ := hS
      exact Behind.plain X hL rfl ⟨_, _, rfl, rfl, hr'⟩ hH hF hn fun target hr => XS.l2i X.here hx rfl (g := mkF m pc ls _) hd rfl hr
    · cases h
  case i2b =>
    simp only [step] at h
    obtain rfl := hlen.resolve_left (by simp [ilen])
    split at h
    · rename_i x r
      simp only [Option.some.injEq, Prod.mk.injEq] at h; obtain ⟨rfl, rfl, rfl, rfl⟩ := h
      obtain ⟨_, _, rfl, rfl, hr'⟩ := hS
      exact Behind.plain X hL rfl ⟨_, _, rfl, rfl, hr'⟩ hH hF hn fun target hr => XS.i2b X.here hx rfl (g := mkF m pc ls _) hd rfl hr
    · cases h
  case dup =>
    simp only [step] at h
    obtain rfl := hlen.resolve_left (by simp [ilen])
    split at h
    · rename_i x r
      simp only [Option.some.injEq, Prod.mk.injEq] at h; obtain ⟨rfl, rfl, rfl, rfl⟩ := h
      obtain ⟨_, _, rfl, ⟨a, ha, rfl⟩, hr'⟩ := hS
      exact Behind.plain X hL rfl ⟨_, _, rfl, ⟨a, ha, rfl⟩, _, _, rfl, ⟨a, ha, rfl⟩, hr'⟩ hH hF hn fun target hr => XS.dup X.here hx rfl (g := mkF m pc ls _) hd rfl rfl hr
    · rename_i x r
      simp only [Option.some.injEq, Prod.mk.injEq] at h; obtain ⟨rfl, rfl, rfl, rfl⟩ := h
      obtain ⟨_, _, rfl, rfl, hr'⟩ := hS
      exact Behind.plain X hL rfl ⟨_, _, rfl, rfl, _, _, rfl, rfl, hr'⟩ hH hF hn fun target hr => XS.dup X.here hx rfl (g := mkF m pc ls _) hd rfl rfl hr
    · cases h
  case dup2 =>
    simp only [step] at h
    obtain rfl := hlen.resolve_left (by simp [ilen])
    split at h
    · rename_i x y r
      simp only [Option.some.injEq, Prod.mk.injEq] at h; obtain ⟨rfl, rfl, rfl, rfl⟩ := h
      obtain ⟨_, _, rfl, rfl, _, _, rfl, ⟨a, ha, rfl⟩, hr'⟩ := hS
      exact Behind.plain X hL rfl ⟨_, _, rfl, rfl, _, _, rfl, ⟨a, ha, rfl⟩, _, _, rfl, rfl, _, _, rfl, ⟨a, ha, rfl⟩, hr'⟩ hH hF hn fun target hr => XT.dup2 X.here hx rfl (g := mkF m pc ls _) hd rfl rfl rfl hr
    · cases h
  case pop =>
    simp only [step] at h
    obtain rfl := hlen.resolve_left (by simp [ilen])
    split at h
    · rename_i x r
      simp only [Option.some.injEq, Prod.mk.injEq] at h; obtain ⟨rfl, rfl, rfl, rfl⟩ := h
      obtain ⟨_, _, rfl, rfl, hr'⟩ := hS
      exact Behind.plain X hL rfl hr' hH hF hn fun target hr => XS.pop X.here hx rfl (g := mkF m pc ls _) hd rfl rfl hr
    · rename_i x r
      simp only [Option.some.injEq, Prod.mk.injEq] at h; obtain ⟨rfl, rfl, rfl, rfl⟩ := h
      obtain ⟨_, _, rfl, ⟨a, ha, rfl⟩, hr'⟩ := hS
      exact Behind.plain X hL rfl hr' hH hF hn fun target hr => XS.pop X.here hx rfl (g := mkF m pc ls _) hd rfl rfl hr
    · cases h
  case goto o =>
    simp only [step] at h
    obtain rfl := hlen.resolve_left (by simp [ilen])
    cases ht : tgt pc o with
    | none => simp [ht] at h
    | some t =>
      simp only [ht, Option.some.injEq, Prod.mk.injEq] at h; obtain ⟨rfl, rfl, rfl, rfl⟩ := h
      exact Behind.plain X hL rfl hS hH hF hn fun target hr => XS.goto X.here hx rfl (g := mkF m pc ls st) (pc0 := pc) rfl hd (tgt_spec ht).1 (tgt_spec ht).2 hr
  case ifCond cd o =>
    simp only [step] at h
    obtain rfl := hlen.resolve_left (by simp [ilen])
    split at h
    · rename_i x r
      obtain ⟨_, _, rfl, rfl, hr'⟩ := hS
      cases hc : if_icmp.holds cd x 0
      · simp only [hc, cond_false, Option.some.injEq, Prod.mk.injEq] at h; obtain ⟨rfl, rfl, rfl, rfl⟩ := h
        exact Behind.plain X hL rfl hr' hH hF hn fun target hr => XS.ifNo X.here hx rfl (g := mkF m pc ls _) hd rfl ((if0 _ _).trans hc) hr
      · cases ht : tgt pc o with
        | none => simp [hc, ht] at h
        | some t =>
          simp only [hc, ht, cond_true, Option.some.injEq, Prod.mk.injEq] at h; obtain ⟨rfl, rfl, rfl, rfl⟩ := h
          exact Behind.plain X hL rfl hr' hH hF hn fun target hr => XS.ifYes X.here hx rfl (g := mkF m pc ls _) (pc0 := pc) rfl hd rfl ((if0 _ _).trans hc) (tgt_spec ht).1 (tgt_spec ht).2 hr
    · cases h
  case if_icmp cd o =>
    simp only [step] at h
    obtain rfl := hlen.resolve_left (by simp [ilen])
    split at h
    · rename_i y x r
      obtain ⟨_, _, rfl, rfl, _, _, rfl, rfl, hr'⟩ := hS
      cases hc : if_icmp.holds cd x y
      · simp only [hc, cond_false, Option.some.injEq, Prod.mk.injEq] at h; obtain ⟨rfl, rfl, rfl, rfl⟩ := h
        exact Behind.plain X hL rfl hr' hH hF hn fun target hr => XS.icmpNo X.here hx rfl (g := mkF m pc ls _) hd rfl hc hr
      · cases ht : tgt pc o with
        | none => simp [hc, ht] at h
        | some t =>
          simp only [hc, ht, cond_true, Option.some.injEq, Prod.mk.injEq] at h; obtain ⟨rfl, rfl, rfl, rfl⟩ := h
          exact Behind.plain X hL rfl hr' hH hF hn fun target hr => XS.icmpYes X.here hx rfl (g := mkF m pc ls _) (pc0 := pc) rfl hd rfl hc (tgt_spec ht).1 (tgt_spec ht).2 hr
    · cases h
  case tableswitch d lo hi offs =>
    simp only [step] at h
    split at h
    · rename_i x r
      obtain ⟨_, _, rfl, rfl, hr'⟩ := hS
      by_cases ho : x.toInt < lo ∨ x.toInt > hi
      · have ho' : (decide (x.toInt < lo) || decide (x.toInt > hi)) = true := by simpa using ho
        cases ht : tgt pc d with
        | none => simp [ho', ht] at h
        | some t =>
          simp only [ho', ht, cond_true, Option.some.injEq, Prod.mk.injEq] at h; obtain ⟨rfl, rfl, rfl, rfl⟩ := h
          exact Behind.plain X hL rfl hr' hH hF hn fun target hr => XS.tswOut X.here hx rfl (g := mkF m pc ls _) (pc0 := pc) rfl hd rfl ho (tgt_spec ht).1 (tgt_spec ht).2 hr
      · have ho' : (decide (x.toInt < lo) || decide (x.toInt > hi)) = false := by simpa using ho
        cases hq : offs.toList[(x.toInt - lo).toNat]? with
        | none => simp [ho', hq] at h
        | some o =>
          cases ht : tgt pc o with
          | none => simp [ho', hq, ht] at h
          | some t =>
            simp only [ho', hq, ht, cond_false, Option.some.injEq, Prod.mk.injEq] at h; obtain ⟨rfl, rfl, rfl, rfl⟩ := h
            exact Behind.plain X hL rfl hr' hH hF hn fun target hr => XS.tswIn X.here hx rfl (g := mkF m pc ls _) (pc0 := pc) rfl hd rfl ho (by rw [← Array.getElem?_toList]; exact hq) (tgt_spec ht).1 (tgt_spec ht).2 hr
    · cases h
  case getfield j =>
    simp only [step] at h
    obtain rfl := hlen.resolve_left (by simp [ilen])
    split at h
    · rename_i a r
      obtain ⟨_, _, rfl, ⟨b, hb, rfl⟩, hr'⟩ := hS
      cases hf : P.fld (P.cls k) j with
      | none => simp [hf] at h
      | some f =>
        cases hg : getC H a f with
        | none => simp [hf, hg] at h
        | some v =>
          simp only [hf, hg, Option.some.injEq, Prod.mk.injEq] at h; obtain ⟨rfl, rfl, rfl, rfl⟩ := h
          obtain ⟨n, d, t, fin, g1, g2⟩ := G2 _ _ _ hf
          unfold getC at hg
          split at hg
          · rename_i fs hfs
            obtain ⟨b', e1, e2, e3, e4⟩ := hH.2.2.2 _ _ hfs
            cases hb.symm.trans e1
            obtain ⟨w, e5, e6⟩ := e4 _ _ _ _ _ _ hg g1
            obtain ⟨T2, X2, e7, s2⟩ := getF X hx hZ hown (host := "") (Or.inl g2) Via.refl rfl e6 (g := mkF m pc ls _) rfl rfl hd
            exact Behind.plain' X2 e7 hL rfl ⟨w, _, rfl, e5, hr'⟩ hH hF hn s2
          · cases hg
    · cases h
  case putfield j =>
    simp only [step] at h
    obtain rfl := hlen.resolve_left (by simp [ilen])
    split at h
    · rename_i v a r
      obtain ⟨w0, _, rfl, hv0, _, _, rfl, ⟨b, hb, rfl⟩, hr'⟩ := hS
      cases hf : P.fld (P.cls k) j with
      | none => simp [hf] at h
      | some f =>
        obtain ⟨n, d, t, fin, g1, g2⟩ := G2 _ _ _ hf
        simp only [hf, g1] at h
        cases hq : (!fin || P.ini k) && Nat.ble P.ro a
        · simp [hq] at h
        · simp only [hq, cond_true] at h
          cases hv : conv t v with
          | none => simp [hv] at h
          | some v' =>
            simp only [hv] at h
            split at h
            · rename_i fs hfs
              cases hz : Nat.ble (f + 1) fs.length
              · simp [hz] at h
              · simp only [hz, cond_true, Option.some.injEq, Prod.mk.injEq] at h; obtain ⟨rfl, rfl, rfl, rfl⟩ := h
                obtain ⟨b', e1, e2, e3, e4⟩ := hH.2.2.2 _ _ hfs
                cases hb.symm.trans e1
                simp only [Bool.and_eq_true, Bool.or_eq_true, Bool.not_eq_true'] at hq
                have hro : P.ro ≤ a := Nat.le_of_ble_eq_true hq.2
                have hfl : f < fs.length := Nat.le_of_ble_eq_true hz
                obtain ⟨l1, ty, l2, l3, l4⟩ := G3 _ _ _ _ _ g1
                obtain ⟨w, hw, hnw, hfw⟩ : ∃ w, VR am v' w ∧ narrow ty w0 = w ∧ fits ty w = true := by
                  unfold conv at hv
                  split at hv
                  · cases hv; cases hv0; cases ty <;> simp only [tyOk, Bool.false_eq_true] at l3; exact ⟨_, rfl, rfl, rfl⟩
                  · cases hv; cases hv0; cases ty <;> simp only [tyOk, Bool.false_eq_true] at l3; exact ⟨_, rfl, rfl, fits_nar_bool _⟩
                  · cases hv; cases hv0; cases ty <;> simp only [tyOk, Bool.false_eq_true] at l3; exact ⟨_, rfl, rfl, rfl⟩
                  · cases hv; obtain ⟨z, hz1, rfl⟩ := hv0; cases ty <;> simp only [tyOk, Bool.false_eq_true] at l3; exact ⟨_, ⟨z, hz1, rfl⟩, rfl, rfl⟩
                  · cases hv
                obtain ⟨old, o1, o2⟩ := e4 f _ _ _ _ _ (List.getElem?_eq_getElem hfl) g1
                have hfin : (Cond.lays C C n d).before a0 Z = true ∨ ((Cond.laysFinal C C n d).before a0 Z = true ∧ cn (P.cls k) = C ∧ meth.name = "<init>") := by
                  cases fin
                  · exact Or.inl l1
                  · obtain ⟨q1, q2⟩ := hini (by simpa using hq.1); exact Or.inr ⟨l1, q2, q1⟩
                obtain ⟨T2, h2, X2, e7, W2, s2⟩ := putFN X hx hZ hown g2 Via.refl rfl o2 e2 hfin G6 l2 hnw hfw (g := mkF m pc ls _) rfl rfl hd
                refine Behind.write (T' := T2) X2 e7 W2 hL hr' hH hb hro hfs rfl ?_ hF hn s2
                refine ⟨e2.wr W2, by rw [List.length_set]; exact e3, fun j' u n' d' t' f' q1 q2 => ?_⟩
                rw [List.getElem?_set] at q1
                by_cases ej : f = j'
                · subst ej
                  rw [if_pos rfl, if_pos hfl] at q1
                  cases q1
                  rw [g1] at q2; cases q2
                  exact ⟨w, hw, o2.same W2⟩
                · rw [if_neg ej] at q1
                  obtain ⟨w', y1, y2⟩ := e4 _ _ _ _ _ _ q1 q2
                  obtain ⟨l1', ty', l2', -, -⟩ := G3 _ _ _ _ _ q2
                  have hl1 : Laid Z a0 C C n d := by cases fin; exact Or.inl l1; exact Or.inr l1
                  have hl2 : Laid Z a0 C C n' d' := by cases f'; exact Or.inl l1'; exact Or.inr l1'
                  exact ⟨w', y1, y2.other W2 (Or.inr (slot_ne hl2 hl1 (G4 _ _ _ _ _ _ _ _ _ _ q2 g1 (Ne.symm ej)) l2' l2))⟩
            · cases h
    · cases h
  case iaload =>
    simp only [step] at h
    obtain rfl := hlen.resolve_left (by simp [ilen])
    split at h
    · rename_i j a r
      obtain ⟨_, _, rfl, rfl, _, _, rfl, ⟨b, hb, rfl⟩, hr'⟩ := hS
      split at h
      · rename_i xs hxs
        cases hj : inb xs.length j
        · simp [hj] at h
        · simp only [hj, cond_true, Option.some.injEq, Prod.mk.injEq] at h; obtain ⟨rfl, rfl, rfl, rfl⟩ := h
          obtain ⟨b', e1, cl, A1, A2, A3⟩ := hH.2.2.2 _ _ hxs
          cases hb.symm.trans e1
          have hin := inb_spec hj
          rw [← A2] at hin
          exact Behind.plain X hL rfl ⟨_, _, rfl, rfl, hr'⟩ hH hF hn fun target hr => X.iaload hx A1.1 (State.isArrayOf_alike hZ.alike A1.2.1) A1.2.2 hin (A3 _ _ (rd_at hj)) (g := mkF m pc ls _) rfl rfl hd _ hr
      · rename_i xs hxs
        cases hj : inb xs.length j
        · simp [hj] at h
        · simp only [hj, cond_true, Option.some.injEq, Prod.mk.injEq] at h; obtain ⟨rfl, rfl, rfl, rfl⟩ := h
          obtain ⟨b', e1, cl, A1, A2, A3⟩ := hH.2.2.2 _ _ hxs
          cases hb.symm.trans e1
          have hin := inb_spec hj
          rw [← A2] at hin
          exact Behind.plain X hL rfl ⟨_, _, rfl, rfl, hr'⟩ hH hF hn fun target hr => X.iaload hx A1.1 (State.isArrayOf_alike hZ.alike A1.2.1) A1.2.2 hin (A3 _ _ (rd_at hj)) (g := mkF m pc ls _) rfl rfl hd _ hr
      · cases h
    · cases h
  case baload =>
    simp only [step] at h
    obtain rfl := hlen.resolve_left (by simp [ilen])
    split at h
    · rename_i j a r
      obtain ⟨_, _, rfl, rfl, _, _, rfl, ⟨b, hb, rfl⟩, hr'⟩ := hS
      split at h
      · rename_i xs hxs
        cases hj : inb xs.length j
        · simp [hj] at h
        · simp only [hj, cond_true, Option.some.injEq, Prod.mk.injEq] at h; obtain ⟨rfl, rfl, rfl, rfl⟩ := h
          obtain ⟨b', e1, cl, A1, A2, A3⟩ := hH.2.2.2 _ _ hxs
          cases hb.symm.trans e1
          have hin := inb_spec hj
          rw [← A2] at hin
          exact Behind.plain X hL rfl ⟨_, _, rfl, rfl, hr'⟩ hH hF hn fun target hr => X.baloadBooleans hx A1.1 (State.isArrayOf_alike hZ.alike A1.2.1) A1.2.2 hin (A3 _ _ (rd_at hj)) (g := mkF m pc ls _) rfl rfl hd _ hr
      · rename_i xs hxs
        cases hj : inb xs.length j
        · simp [hj] at h
        · simp only [hj, cond_true, Option.some.injEq, Prod.mk.injEq] at h; obtain ⟨rfl, rfl, rfl, rfl⟩ := h
          obtain ⟨b', e1, cl, A1, A2, A3⟩ := hH.2.2.2 _ _ hxs
          cases hb.symm.trans e1
          have hin := inb_spec hj
          rw [← A2] at hin
          exact Behind.plain X hL rfl ⟨_, _, rfl, rfl, hr'⟩ hH hF hn fun target hr => X.baloadBytes hx A1.1 (State.isArrayOf_alike hZ.alike A1.2.1) A1.2.2 hin (A3 _ _ (rd_at hj)) (g := mkF m pc ls _) rfl rfl hd _ hr
      · cases h
    · cases h
  case laload =>
    simp only [step] at h
    obtain rfl := hlen.resolve_left (by simp [ilen])
    split at h
    · rename_i j a r
      obtain ⟨_, _, rfl, rfl, _, _, rfl, ⟨b, hb, rfl⟩, hr'⟩ := hS
      split at h
      · rename_i xs hxs
        cases hj : inb xs.length j
        · simp [hj] at h
        · simp only [hj, cond_true, Option.some.injEq, Prod.mk.injEq] at h; obtain ⟨rfl, rfl, rfl, rfl⟩ := h
          obtain ⟨b', e1, cl, A1, A2, A3⟩ := hH.2.2.2 _ _ hxs
          cases hb.symm.trans e1
          have hin := inb_spec hj
          rw [← A2] at hin
          exact Behind.plain X hL rfl ⟨_, _, rfl, rfl, hr'⟩ hH hF hn fun target hr => X.laload hx A1.1 (State.isArrayOf_alike hZ.alike A1.2.1) A1.2.2 hin (A3 _ _ (rdL_at hj)) (g := mkF m pc ls _) rfl rfl hd _ hr
      · cases h
    · cases h
  case iastore =>
    simp only [step] at h
    obtain rfl := hlen.resolve_left (by simp [ilen])
    split at h
    · rename_i x j a r
      obtain ⟨_, _, rfl, rfl, _, _, rfl, rfl, _, _, rfl, ⟨b, hb, rfl⟩, hr'⟩ := hS
      cases hq : Nat.ble P.ro a
      · simp [hq] at h
      · simp only [hq, cond_true] at h
        have hro : P.ro ≤ a := Nat.le_of_ble_eq_true hq
        split at h
        · rename_i xs hxs
          cases hj : inb xs.length j
          · simp [hj] at h
          · simp only [hj, cond_true, Option.some.injEq, Prod.mk.injEq] at h; obtain ⟨rfl, rfl, rfl, rfl⟩ := h
            obtain ⟨b', e1, hcr⟩ := hH.2.2.2 _ _ hxs
            cases hb.symm.trans e1
            have hcr0 := hcr
            obtain ⟨cl, A1, A2, A3⟩ := hcr0
            have hin := inb_spec hj
            rw [← A2] at hin
            obtain ⟨T2, h2, X2, e7, W2, s2⟩ := stI X hx hZ rfl A1 hin (g := mkF m pc ls _) rfl rfl hd
            exact Behind.write (T' := T2) X2 e7 W2 hL hr' hH hb hro hxs (by simp [csz, wr, wrL]) (CR.wrI W2 hcr) hF hn s2
        · cases h
    · cases h
  case bastore =>
    simp only [step] at h
    obtain rfl := hlen.resolve_left (by simp [ilen])
    split at h
    · rename_i x j a r
      obtain ⟨_, _, rfl, rfl, _, _, rfl, rfl, _, _, rfl, ⟨b, hb, rfl⟩, hr'⟩ := hS
      cases hq : Nat.ble P.ro a
      · simp [hq] at h
      · simp only [hq, cond_true] at h
        have hro : P.ro ≤ a := Nat.le_of_ble_eq_true hq
        split at h
        · rename_i xs hxs
          cases hj : inb xs.length j
          · simp [hj] at h
          · simp only [hj, cond_true, Option.some.injEq, Prod.mk.injEq] at h; obtain ⟨rfl, rfl, rfl, rfl⟩ := h
            obtain ⟨b', e1, hcr⟩ := hH.2.2.2 _ _ hxs
            cases hb.symm.trans e1
            have hcr0 := hcr
            obtain ⟨cl, A1, A2, A3⟩ := hcr0
            have hin := inb_spec hj
            rw [← A2] at hin
            obtain ⟨T2, h2, X2, e7, W2, s2⟩ := stZ X hx hZ rfl A1 hin (g := mkF m pc ls _) rfl rfl hd
            exact Behind.write (T' := T2) X2 e7 W2 hL hr' hH hb hro hxs (by simp [csz, wr, wrL]) (CR.wrI W2 hcr) hF hn s2
        · rename_i xs hxs
          cases hj : inb xs.length j
          · simp [hj] at h
          · simp only [hj, cond_true, Option.some.injEq, Prod.mk.injEq] at h; obtain ⟨rfl, rfl, rfl, rfl⟩ := h
            obtain ⟨b', e1, hcr⟩ := hH.2.2.2 _ _ hxs
            cases hb.symm.trans e1
            have hcr0 := hcr
            obtain ⟨cl, A1, A2, A3⟩ := hcr0
            have hin := inb_spec hj
            rw [← A2] at hin
            obtain ⟨T2, h2, X2, e7, W2, s2⟩ := stB X hx hZ rfl A1 hin (g := mkF m pc ls _) rfl rfl hd
            exact Behind.write (T' := T2) X2 e7 W2 hL hr' hH hb hro hxs (by simp [csz, wr, wrL]) (CR.wrI W2 hcr) hF hn s2
        · cases h
    · cases h
  case lastore =>
    simp only [step] at h
    obtain rfl := hlen.resolve_left (by simp [ilen])
    split at h
    · rename_i x j a r
      obtain ⟨_, _, rfl, rfl, _, _, rfl, rfl, _, _, rfl, ⟨b, hb, rfl⟩, hr'⟩ := hS
      cases hq : Nat.ble P.ro a
      · simp [hq] at h
      · simp only [hq, cond_true] at h
        have hro : P.ro ≤ a := Nat.le_of_ble_eq_true hq
        split at h
        · rename_i xs hxs
          cases hj : inb xs.length j
          · simp [hj] at h
          · simp only [hj, cond_true, Option.some.injEq, Prod.mk.injEq] at h; obtain ⟨rfl, rfl, rfl, rfl⟩ := h
            obtain ⟨b', e1, hcr⟩ := hH.2.2.2 _ _ hxs
            cases hb.symm.trans e1
            have hcr0 := hcr
            obtain ⟨cl, A1, A2, A3⟩ := hcr0
            have hin := inb_spec hj
            rw [← A2] at hin
            obtain ⟨T2, h2, X2, e7, W2, s2⟩ := stJ X hx hZ rfl A1 hin (g := mkF m pc ls _) rfl rfl hd
            exact Behind.write (T' := T2) X2 e7 W2 hL hr' hH hb hro hxs (by simp [csz, wr, wrL]) (CR.wrJ W2 hcr) hF hn s2
        · cases h
    · cases h
  case arraylength =>
    simp only [step] at h
    obtain rfl := hlen.resolve_left (by simp [ilen])
    split at h
    · rename_i a r
      obtain ⟨_, _, rfl, ⟨b, hb, rfl⟩, hr'⟩ := hS
      split at h
      · rename_i t xs hxs
        simp only [Option.some.injEq, Prod.mk.injEq] at h; obtain ⟨rfl, rfl, rfl, rfl⟩ := h
        obtain ⟨b', e1, cl, A1, A2, A3⟩ := hH.2.2.2 _ _ hxs
        cases hb.symm.trans e1
        exact Behind.plain X hL rfl ⟨_, _, rfl, rfl, hr'⟩ hH hF hn fun target hr => X.arraylength hx A1.1 (State.isArrayOf_alike hZ.alike A1.2.1) (g := mkF m pc ls _) rfl rfl hd _ (by rw [A2]; exact hr)
      · rename_i xs hxs
        simp only [Option.some.injEq, Prod.mk.injEq] at h; obtain ⟨rfl, rfl, rfl, rfl⟩ := h
        obtain ⟨b', e1, cl, A1, A2, A3⟩ := hH.2.2.2 _ _ hxs
        cases hb.symm.trans e1
        exact Behind.plain X hL rfl ⟨_, _, rfl, rfl, hr'⟩ hH hF hn fun target hr => X.arraylength hx A1.1 (State.isArrayOf_alike hZ.alike A1.2.1) (g := mkF m pc ls _) rfl rfl hd _ (by rw [A2]; exact hr)
      · cases h
    · cases h
  case newarray t =>
    simp only [step] at h
    obtain rfl := hlen.resolve_left (by simp [ilen])
    split at h
    · rename_i n r
      obtain ⟨_, _, rfl, rfl, hr'⟩ := hS
      cases ht : atyOf t with
      | none => simp [ht] at h
      | some q =>
        simp only [ht] at h
        cases hq : (!(decide (n < 0)) && Nat.ble n.toNatClampNeg 60000 && Nat.ble (H.length + 1) P.capC && Nat.ble (hsz P H + n.toNatClampNeg) P.capS)
        · simp [hq] at h
        · simp only [hq, cond_true, Option.some.injEq, Prod.mk.injEq] at h; obtain ⟨rfl, rfl, rfl, rfl⟩ := h
          simp only [Bool.and_eq_true, Bool.not_eq_true', decide_eq_false_iff_not] at hq
          have hcap : n.toNatClampNeg ≤ 60000 := Nat.le_of_ble_eq_true hq.1.1.2
          have hq1 := hq.1.1.1
          have d1 : (H ++ [newC q n.toNatClampNeg]).length - H.length = 1 := by simp
          have d2 : hsz P (H ++ [newC q n.toNatClampNeg]) - hsz P H = n.toNatClampNeg := by rw [hsz_app, csz_new _ _ ht]; omega
          rw [d1] at hcells ⊢; rw [d2] at hslots ⊢
          obtain ⟨T2, h2, cA, X2, e7, E2, A2, s2⟩ := newP X hx hZ (G8 _ _ _ _ hcode) rfl (g := mkF m pc ls _) rfl hd rfl hq1 (cap := n.toNatClampNeg) (Nat.le_refl _) (by omega) hcells hslots
          have hlt : T.heap.size < h2.size := A2.lt
          have hm' := hH.1
          refine ⟨T2, am ++ [T.heap.size], ls, _, locs, X2, hL.mono (Pre.app _ _), rfl, ⟨_, _, rfl, ⟨T.heap.size, by rw [← hm']; simp, rfl⟩, hr'.mono (Pre.app _ _)⟩, by rw [e7]; exact hH.push E2 hlt hn (arr_new ht hq1 A2), Pre.app _ _, hF, by rw [e7]; omega, s2⟩
    · cases h
  case new j =>
    simp only [step] at h
    obtain rfl := hlen.resolve_left (by simp [ilen])
    split at h
    · rename_i q hk
      rw [Bool.cond_eq_ite] at h
      split at h
      case isFalse => cases h
      simp only [Option.some.injEq, Prod.mk.injEq] at h; obtain ⟨rfl, rfl, rfl, rfl⟩ := h
      have w := G9 _ _ _ _ hk
      have d1 : (H ++ [Sum.inl P.fresh]).length - H.length = 1 := by simp
      have d2 : hsz P (H ++ [Sum.inl P.fresh]) - hsz P H = P.objN := by rw [hsz_app]; simp [csz]
      rw [d1] at hcells ⊢; rw [d2] at hslots ⊢
      obtain ⟨T2, h2, X2, e7, E2, A2, D2, -, s2⟩ := newO X hx hZ hown w G6 G7 rfl (g := mkF m pc ls st) rfl hd hcells hslots
      have hlt : T.heap.size < h2.size := A2.lt
      have hm' := hH.1
      refine ⟨T2, am ++ [T.heap.size], ls, _, locs, X2, hL.mono (Pre.app _ _), rfl, ⟨_, _, rfl, ⟨T.heap.size, by rw [← hm']; simp, rfl⟩, hS.mono (Pre.app _ _)⟩, ?_, Pre.app _ _, hF, by rw [e7]; omega, s2⟩
      rw [e7]
      refine hH.push E2 hlt hn ⟨A2, by simp [Prog.fresh], fun j' v n d t f q1 q2 => ?_⟩
      obtain ⟨l1, ty, l2, l3, l4⟩ := G3 _ _ _ _ _ q2
      have hl1 : Laid Z a0 C C n d := by cases f; exact Or.inl l1; exact Or.inr l1
      have hv : v = dflt t := by rw [Prog.fresh, List.getElem?_map, q2] at q1; simpa using q1.symm
      subst hv
      refine ⟨defaultValue ty, ?_, D2 hl1 l2⟩
      rw [l4]; unfold dflt; split <;> rfl
    · cases h
  case invokespecial j =>
    simp only [step] at h
    obtain rfl := hlen.resolve_left (by simp [ilen])
    split at h
    · rename_i a r
      obtain ⟨_, _, rfl, ⟨b, hb, rfl⟩, hr'⟩ := hS
      cases hq : isObjInit P k j && Nat.ble 1 (P.rf k) && Nat.ble (cats r + 12) (P.rl k)
      · simp [hq] at h
      · simp only [hq, cond_true, Option.some.injEq, Prod.mk.injEq] at h; obtain ⟨rfl, rfl, rfl, rfl⟩ := h
        simp only [Bool.and_eq_true] at hq
        have h1 : 1 ≤ P.rf k := Nat.le_of_ble_eq_true hq.1.2
        have h2 : cats r + 12 ≤ P.rl k := Nat.le_of_ble_eq_true hq.2
        have h3 := hq.1.1
        unfold isObjInit at h3
        split at h3
        · rename_i kk hk
          obtain ⟨w1, w2, w3⟩ := G9 _ _ _ _ hk
          obtain ⟨T2, X2, e7, s2⟩ := initO X hx hZ hown w1 w2 w3 rfl (g := mkF m pc ls _) rfl (by rw [hml]; exact hlz) rfl hd (by omega) (W := cats r) (by rw [hr'.cats]; show 2 * 0 + _ ≤ _; omega) (by omega)
          exact Behind.plain' X2 e7 hL rfl hr' hH hF hn s2
        · cases h3
    · cases h
  case iadd =>
    simp only [step] at h
    obtain rfl := hlen.resolve_left (by simp [ilen])
    split at h
    · rename_i y x r
      simp only [aop, Option.some.injEq, Prod.mk.injEq] at h; obtain ⟨rfl, rfl, rfl, rfl⟩ := h
      obtain ⟨_, _, rfl, rfl, _, _, rfl, rfl, hr'⟩ := hS
      exact Behind.plain X hL rfl ⟨_, _, rfl, rfl, hr'⟩ hH hF hn fun target hr => XS.iadd X.here hx rfl (g := mkF m pc ls _) hd rfl hr
    · simp [lop] at h
    · cases h
  case isub =>
    simp only [step] at h
    obtain rfl := hlen.resolve_left (by simp [ilen])
    split at h
    · rename_i y x r
      simp only [aop, Option.some.injEq, Prod.mk.injEq] at h; obtain ⟨rfl, rfl, rfl, rfl⟩ := h
      obtain ⟨_, _, rfl, rfl, _, _, rfl, rfl, hr'⟩ := hS
      exact Behind.plain X hL rfl ⟨_, _, rfl, rfl, hr'⟩ hH hF hn fun target hr => XS.isub X.here hx rfl (g := mkF m pc ls _) hd rfl hr
    · simp [lop] at h
    · cases h
  case imul =>
    simp only [step] at h
    obtain rfl := hlen.resolve_left (by simp [ilen])
    split at h
    · rename_i y x r
      simp only [aop, Option.some.injEq, Prod.mk.injEq] at h; obtain ⟨rfl, rfl, rfl, rfl⟩ := h
      obtain ⟨_, _, rfl, rfl, _, _, rfl, rfl, hr'⟩ := hS
      exact Behind.plain X hL rfl ⟨_, _, rfl, rfl, hr'⟩ hH hF hn fun target hr => XS.imul X.here hx rfl (g := mkF m pc ls _) hd rfl hr
    · simp [lop] at h
    · cases h
  case iand =>
    simp only [step] at h
    obtain rfl := hlen.resolve_left (by simp [ilen])
    split at h
    · rename_i y x r
      simp only [aop, Option.some.injEq, Prod.mk.injEq] at h; obtain ⟨rfl, rfl, rfl, rfl⟩ := h
      obtain ⟨_, _, rfl, rfl, _, _, rfl, rfl, hr'⟩ := hS
      exact Behind.plain X hL rfl ⟨_, _, rfl, rfl, hr'⟩ hH hF hn fun target hr => XS.iand X.here hx rfl (g := mkF m pc ls _) hd rfl hr
    · simp [lop] at h
    · cases h
  case ior =>
    simp only [step] at h
    obtain rfl := hlen.resolve_left (by simp [ilen])
    split at h
    · rename_i y x r
      simp only [aop, Option.some.injEq, Prod.mk.injEq] at h; obtain ⟨rfl, rfl, rfl, rfl⟩ := h
      obtain ⟨_, _, rfl, rfl, _, _, rfl, rfl, hr'⟩ := hS
      exact Behind.plain X hL rfl ⟨_, _, rfl, rfl, hr'⟩ hH hF hn fun target hr => XS.ior X.here hx rfl (g := mkF m pc ls _) hd rfl hr
    · simp [lop] at h
    · cases h
  case ixor =>
    simp only [step] at h
    obtain rfl := hlen.resolve_left (by simp [ilen])
    split at h
    · rename_i y x r
      simp only [aop, Option.some.injEq, Prod.mk.injEq] at h; obtain ⟨rfl, rfl, rfl, rfl⟩ := h
      obtain ⟨_, _, rfl, rfl, _, _, rfl, rfl, hr'⟩ := hS
      exact Behind.plain X hL rfl ⟨_, _, rfl, rfl, hr'⟩ hH hF hn fun target hr => XS.ixor X.here hx rfl (g := mkF m pc ls _) hd rfl hr
    · simp [lop] at h
    · cases h
  case ishl =>
    simp only [step] at h
    obtain rfl := hlen.resolve_left (by simp [ilen])
    split at h
    · rename_i y x r
      simp only [aop, Option.some.injEq, Prod.mk.injEq] at h; obtain ⟨rfl, rfl, rfl, rfl⟩ := h
      obtain ⟨_, _, rfl, rfl, _, _, rfl, rfl, hr'⟩ := hS
      exact Behind.plain X hL rfl ⟨_, _, rfl, rfl, hr'⟩ hH hF hn fun target hr => XS.ishl X.here hx rfl (g := mkF m pc ls _) hd rfl hr
    · simp [lop] at h
    · cases h
  case ishr =>
    simp only [step] at h
    obtain rfl := hlen.resolve_left (by simp [ilen])
    split at h
    · rename_i y x r
      simp only [aop, Option.some.injEq, Prod.mk.injEq] at h; obtain ⟨rfl, rfl, rfl, rfl⟩ := h
      obtain ⟨_, _, rfl, rfl, _, _, rfl, rfl, hr'⟩ := hS
      exact Behind.plain X hL rfl ⟨_, _, rfl, rfl, hr'⟩ hH hF hn fun target hr => XS.ishr X.here hx rfl (g := mkF m pc ls _) hd rfl hr
    · simp [lop] at h
    · cases h
  case iushr =>
    simp only [step] at h
    obtain rfl := hlen.resolve_left (by simp [ilen])
    split at h
    · rename_i y x r
      simp only [aop, Option.some.injEq, Prod.mk.injEq] at h; obtain ⟨rfl, rfl, rfl, rfl⟩ := h
      obtain ⟨_, _, rfl, rfl, _, _, rfl, rfl, hr'⟩ := hS
      exact Behind.plain X hL rfl ⟨_, _, rfl, rfl, hr'⟩ hH hF hn fun target hr => XS.iushr X.here hx rfl (g := mkF m pc ls _) hd rfl hr
    · simp [lop] at h
    · cases h
  case ladd =>
    simp only [step] at h
    obtain rfl := hlen.resolve_left (by simp [ilen])
    split at h
    · simp [aop] at h
    · rename_i y x r
      simp only [lop, Option.some.injEq, Prod.mk.injEq] at h; obtain ⟨rfl, rfl, rfl, rfl⟩ := h
      obtain ⟨_, _, rfl, rfl, _, _, rfl, rfl, hr'⟩ := hS
      exact Behind.plain X hL rfl ⟨_, _, rfl, rfl, hr'⟩ hH hF hn fun target hr => XS.ladd X.here hx rfl (g := mkF m pc ls _) hd rfl hr
    · cases h
  case lsub =>
    simp only [step] at h
    obtain rfl := hlen.resolve_left (by simp [ilen])
    split at h
    · simp [aop] at h
    · rename_i y x r
      simp only [lop, Option.some.injEq, Prod.mk.injEq] at h; obtain ⟨rfl, rfl, rfl, rfl⟩ := h
      obtain ⟨_, _, rfl, rfl, _, _, rfl, rfl, hr'⟩ := hS
      exact Behind.plain X hL rfl ⟨_, _, rfl, rfl, hr'⟩ hH hF hn fun target hr => XS.lsub X.here hx rfl (g := mkF m pc ls _) hd rfl hr
    · cases h
  case lmul =>
    simp only [step] at h
    obtain rfl := hlen.resolve_left (by simp [ilen])
    split at h
    · simp [aop] at h
    · rename_i y x r
      simp only [lop, Option.some.injEq, Prod.mk.injEq] at h; obtain ⟨rfl, rfl, rfl, rfl⟩ := h
      obtain ⟨_, _, rfl, rfl, _, _, rfl, rfl, hr'⟩ := hS
      exact Behind.plain X hL rfl ⟨_, _, rfl, rfl, hr'⟩ hH hF hn fun target hr => XS.lmul X.here hx rfl (g := mkF m pc ls _) hd rfl hr
    · cases h
  case land =>
    simp only [step] at h
    obtain rfl := hlen.resolve_left (by simp [ilen])
    split at h
    · simp [aop] at h
    · rename_i y x r
      simp only [lop, Option.some.injEq, Prod.mk.injEq] at h; obtain ⟨rfl, rfl, rfl, rfl⟩ := h
      obtain ⟨_, _, rfl, rfl, _, _, rfl, rfl, hr'⟩ := hS
      exact Behind.plain X hL rfl ⟨_, _, rfl, rfl, hr'⟩ hH hF hn fun target hr => XS.land X.here hx rfl (g := mkF m pc ls _) hd rfl hr
    · cases h
  case lor =>
    simp only [step] at h
    obtain rfl := hlen.resolve_left (by simp [ilen])
    split at h
    · simp [aop] at h
    · rename_i y x r
      simp only [lop, Option.some.injEq, Prod.mk.injEq] at h; obtain ⟨rfl, rfl, rfl, rfl⟩ := h
      obtain ⟨_, _, rfl, rfl, _, _, rfl, rfl, hr'⟩ := hS
      exact Behind.plain X hL rfl ⟨_, _, rfl, rfl, hr'⟩ hH hF hn fun target hr => XS.lor X.here hx rfl (g := mkF m pc ls _) hd rfl hr
    · cases h
  case lxor =>
    simp only [step] at h
    obtain rfl := hlen.resolve_left (by simp [ilen])
    split at h
    · simp [aop] at h
    · rename_i y x r
      simp only [lop, Option.some.injEq, Prod.mk.injEq] at h; obtain ⟨rfl, rfl, rfl, rfl⟩ := h
      obtain ⟨_, _, rfl, rfl, _, _, rfl, rfl, hr'⟩ := hS
      exact Behind.plain X hL rfl ⟨_, _, rfl, rfl, hr'⟩ hH hF hn fun target hr => XS.lxor X.here hx rfl (g := mkF m pc ls _) hd rfl hr
    · cases h
  all_goals (exfalso; simp only [step] at h; split at h <;> simp [aop, lop] at h)
end Sound
end Jvm.OwnX
namespace Jvm.OwnX
open Sem ClassFile Op Lib Jvm.Stand Jvm.Free Jvm.LawKit Jvm.RoadKit
set_option maxHeartbeats 4000000 in
theorem step_grow {P : Prog} {k pc np pc' : Nat} {i : Instr} {L L' : ALoc} {S S' : List Value} {H H' : AHeap} (h : step P k i np pc L S H = some (pc', L', S', H')) : H.length ≤ H'.length ∧ hsz P H ≤ hsz P H' := by
  cases i <;> simp only [step, Bool.cond_eq_ite] at h
  all_goals (repeat' (split at h))
  all_goals first
    | (cases h; done)
    | (simp only [Option.some.injEq, Prod.mk.injEq] at h; obtain ⟨-, -, -, rfl⟩ := h; exact ⟨Nat.le_refl _, Nat.le_refl _⟩)
    | (simp only [Option.some.injEq, Prod.mk.injEq] at h; obtain ⟨-, -, -, rfl⟩ := h; exact ⟨by simp, by rw [hsz_app]; omega⟩)
    | (simp only [Option.some.injEq, Prod.mk.injEq] at h; obtain ⟨-, -, -, rfl⟩ := h; exact ⟨by simp, Nat.le_of_eq (hsz_set P _ _ _ _ (by assumption) (by simp [csz, wr, wrL])).symm⟩)
set_option maxHeartbeats 4000000 in
theorem step_cap {P : Prog} {k pc np pc' : Nat} {i : Instr} {L L' : ALoc} {S S' : List Value} {H H' : AHeap} (h : step P k i np pc L S H = some (pc', L', S', H')) : (H'.length ≤ H.length ∨ H'.length ≤ P.capC) ∧ (hsz P H' ≤ hsz P H ∨ hsz P H' ≤ P.capS) := by
  cases i <;> simp only [step, Bool.cond_eq_ite] at h
  case newarray t =>
    split at h
    · split at h
      · rename_i q ht
        split at h
        · rename_i hq
          simp only [Option.some.injEq, Prod.mk.injEq] at h; obtain ⟨-, -, -, rfl⟩ := h
          simp only [Bool.and_eq_true] at hq
          have h1 := Nat.le_of_ble_eq_true hq.1.2
          have h2 := Nat.le_of_ble_eq_true hq.2
          exact ⟨Or.inr (by simpa using h1), Or.inr (by rw [hsz_app, csz_new _ _ ht]; exact h2)⟩
        · cases h
      · cases h
    · cases h
  case new j =>
    split at h
    · split at h
      · rename_i hq
        simp only [Option.some.injEq, Prod.mk.injEq] at h; obtain ⟨-, -, -, rfl⟩ := h
        simp only [Bool.and_eq_true] at hq
        have h1 := Nat.le_of_ble_eq_true hq.1
        have h2 := Nat.le_of_ble_eq_true hq.2
        exact ⟨Or.inr (by simpa using h1), Or.inr (by rw [hsz_app]; exact h2)⟩
      · cases h
    · cases h
  all_goals (repeat' (split at h))
  all_goals first
    | (cases h; done)
    | (simp only [Option.some.injEq, Prod.mk.injEq] at h; obtain ⟨-, -, -, rfl⟩ := h; exact ⟨Or.inl (Nat.le_refl _), Or.inl (Nat.le_refl _)⟩)
    | (simp only [Option.some.injEq, Prod.mk.injEq] at h; obtain ⟨-, -, -, rfl⟩ := h; exact ⟨Or.inl (by simp), Or.inl (Nat.le_of_eq (hsz_set P _ _ _ _ (by assumption) (by simp [csz, wr, wrL])))⟩)
theorem run_cap {P : Prog} : ∀ {n k pc : Nat} {L : ALoc} {S : List Value} {H : AHeap} {v : Option Value} {H' : AHeap}, run P n k pc L S H = some (v, H') → (H'.length ≤ H.length ∨ H'.length ≤ P.capC) ∧ (hsz P H' ≤ hsz P H ∨ hsz P H' ≤ P.capS)
  | 0, k, pc, L, S, H, v, H', h => by simp [run] at h
  | n + 1, k, pc, L, S, H, v, H', h => by
    rw [run] at h
    split at h
    · cases h
    · split at h
      · cases h; exact ⟨Or.inl (Nat.le_refl _), Or.inl (Nat.le_refl _)⟩
      · split at h
        · split at h
          · rename_i h1
            have g1 := run_cap h1
            have g2 := run_cap h
            omega
          · cases h
        · split at h
          · rename_i h1
            have g1 := step_cap h1
            have g2 := run_cap h
            omega
          · cases h
theorem run_grow {P : Prog} : ∀ {n k pc : Nat} {L : ALoc} {S : List Value} {H : AHeap} {v : Option Value} {H' : AHeap}, run P n k pc L S H = some (v, H') → H.length ≤ H'.length ∧ hsz P H ≤ hsz P H'
  | 0, k, pc, L, S, H, v, H', h => by simp [run] at h
  | n + 1, k, pc, L, S, H, v, H', h => by
    rw [run] at h
    split at h
    · cases h
    · split at h
      · cases h; exact ⟨Nat.le_refl _, Nat.le_refl _⟩
      · split at h
        · split at h
          · rename_i h1
            have g1 := run_grow h1
            have g2 := run_grow h
            omega
          · cases h
        · split at h
          · rename_i h1
            have g1 := step_grow h1
            have g2 := run_grow h
            omega
          · cases h
def OVR (am : List Addr) (v w : Option Value) : Prop := match v with
  | none => w = none
  | some x => ∃ y, w = some y ∧ VR am x y
theorem callV_spec {P : Prog} {k k' : Nat} {i : Instr} {S as rest : List Value} {H : AHeap} (h : callV P k i S H = some (k', as, rest)) :
    ∃ j q, poolOf i = some j ∧ P.link (P.cls k) j = some (q, k') ∧ kindOk i q = true ∧ S = as.reverse ++ rest ∧ as.length = P.pops k' ∧ P.rf k' + 1 ≤ P.rf k ∧ cats rest + (P.maxL k' + 11) + P.rl k' ≤ P.rl k ∧ recvOk P H q as = true ∧ (entL as).length ≤ P.maxL k' := by
  unfold callV at h
  split at h
  · cases h
  · rename_i j hj
    split at h
    · cases h
    · rename_i q k'' hk
      rw [Bool.cond_eq_ite] at h
      split at h
      · rename_i hc
        simp only [Option.some.injEq, Prod.mk.injEq] at h
        obtain ⟨rfl, rfl, rfl⟩ := h
        simp only [Bool.and_eq_true] at hc
        obtain ⟨⟨⟨⟨⟨c1, c2⟩, c3⟩, c4⟩, c5⟩, c6⟩ := hc
        have c2' := Nat.le_of_ble_eq_true c2
        exact ⟨j, q, hj, hk, c1, by rw [List.reverse_reverse, List.take_append_drop], by simp [c2'], Nat.le_of_ble_eq_true c3, Nat.le_of_ble_eq_true c4, c5, Nat.le_of_ble_eq_true c6⟩
      · cases h
theorem linkOk_call {P : Prog} {nm : Nat → MethodName} {bc : Nat → ByteArray} {cn : Nat → String} {C : String} {Z : State} {a0 : Array Value} {c j q k : Nat} (h4 : q ≠ 4) (h5 : q ≠ 5) (h : LinkOk P nm bc cn C Z a0 c j q k) : CallOk P nm bc cn C Z a0 c j q k := by
  unfold LinkOk at h
  split at h
  · exact absurd rfl h4
  · exact absurd rfl h5
  · exact h
theorem recv_spec {P : Prog} {H : AHeap} {q : Nat} {as : List Value} (h0 : q ≠ 0) (h : recvOk P H q as = true) : ∃ a r fs, as = .ref a :: r ∧ H[a]? = some (.inl fs) := by
  unfold recvOk at h
  split at h
  · exact absurd rfl h0
  · split at h
    · split at h
      · rename_i fs hfs
        exact ⟨_, _, fs, rfl, hfs⟩
      · cases h
    · cases h
theorem retV_spec {P : Prog} {k : Nat} {i : Instr} {S : List Value} {v : Option Value} (h : retV P k i S = some v) :
    (i = .return_ ∧ S = [] ∧ P.ret k = none ∧ v = none) ∨ (∃ x r, i = .ireturn ∧ S = .int x :: r ∧ P.ret k = some .int ∧ v = some (.int x)) ∨ (∃ x r, i = .ireturn ∧ S = .int x :: r ∧ P.ret k = some .boolean ∧ v = some (.int (x &&& 1))) ∨ (∃ x r, i = .lreturn ∧ S = .long x :: r ∧ P.ret k = some .long ∧ v = some (.long x)) := by
  unfold retV at h
  split at h
  · split at h
    · rename_i hr; cases h; exact Or.inl ⟨rfl, rfl, hr, rfl⟩
    · cases h
  · split at h
    · split at h
      · rename_i hr; cases h; exact Or.inr (Or.inl ⟨_, _, rfl, rfl, hr, rfl⟩)
      · rename_i hr; cases h; exact Or.inr (Or.inr (Or.inl ⟨_, _, rfl, rfl, hr, rfl⟩))
      · cases h
    · cases h
  · split at h
    · split at h
      · rename_i hr; cases h; exact Or.inr (Or.inr (Or.inr ⟨_, _, rfl, rfl, hr, rfl⟩))
      · cases h
    · cases h
  · cases h
/-- what a callee's contract says behind it -/
def QC (P : Prog) (C : String) (Z : State) (n0 : Nat) (am : List Addr) (v : Option Value) (H1 : AHeap) (w : Option Value) (h' : Heap) (Lc : List Loc) : Prop := Fr n0 Lc ∧ n0 ≤ h'.size ∧ ∃ am', Pre am am' ∧ HR P C Z n0 am' H1 h' ∧ OVR am' v w
/-- the frame's theorem, for one amount of fuel -/
def SoundAt (P : Prog) (nm : Nat → MethodName) (bc : Nat → ByteArray) (cn : Nat → String) (C : String) (Z : State) (n : Nat) : Prop :=
  ∀ (k pc : Nat) (L : ALoc) (S : List Value) (H : AHeap) (v : Option Value) (H' : AHeap), run P n k pc L S H = some (v, H') →
  ∀ {p : Program} {l : Launch} {e : Env} {R : Room} {s : State} {m : MethodId} {args : Array Value} {below : List Frame} {meth : Method} {c : Code} {T : State} {locs : List Loc} {cells slots n0 : Nat} {am : List Addr} {ls : Array Slot} {st : List Value},
    Stand p l e R s m args below meth c T locs cells slots → p.tables.exec = Jvm.exec → Z.Warmed39 s.vm → c.code = bc k → c.maxLocals = P.maxL k → meth.sig.returnType = P.ret k → s.vm.findClass (cn (P.cls k)) = some m.cls → (P.ini k = true → meth.name = "<init>" ∧ cn (P.cls k) = C) →
    P.rf k ≤ R.frames → P.rl k ≤ R.locals → cells + (H'.length - H.length) ≤ R.cells → slots + (hsz P H' - hsz P H) ≤ R.slots → ls.size = P.maxL k → LR am L ls → SR am S st → HR P C Z n0 am H T.heap → Fr n0 locs → n0 ≤ T.heap.size →
    ∃ T' am' locs' w, Stand p l e R s m args below meth c T' locs' (cells + (H'.length - H.length)) (slots + (hsz P H' - hsz P H)) ∧ HR P C Z n0 am' H' T'.heap ∧ Pre am am' ∧ Fr n0 locs' ∧ OVR am' v w ∧ n0 ≤ T'.heap.size ∧ (P.ret k = none → w = none) ∧
      ∀ fs, (∀ (f : JFrame) (acts : List Action), f.method = m → f.locked = none → f.entered = [] → (doReturn e (T'.setTop f) acts w).1 = T'.setFrames fs) → Steps p.tables e below (T.setTop (mkF m pc ls st)) (T'.setFrames fs)
section Met
variable {P : Prog} {nm : Nat → MethodName} {bc : Nat → ByteArray} {cn : Nat → String} {C : String} {Z : State} {a0 : Array Value}
theorem metOf {n k : Nat} {as : List Value} {H H1 : AHeap} {v : Option Value} (IH : SoundAt P nm bc cn C Z n) (hrun : run P n k 0 (entry P k as) [] H = some (v, H1)) {l : Launch} {wsC : List Cond} {rm : Room} (hpl : plainName (nm k).cls = true) (hcls : (nm k).cls = cn (P.cls k)) (hini : P.ini k = true → (nm k).name = "<init>" ∧ (nm k).cls = C)
    (hrf : P.rf k ≤ rm.frames) (hrl : P.rl k ≤ rm.locals) (hrc : H1.length - H.length ≤ rm.cells) (hrs : hsz P H1 - hsz P H ≤ rm.slots) {am : List Addr} {ws : List Value} {h : Heap} {n0 : Nat} (hS : SR am as ws) (hE : (entL as).length ≤ P.maxL k) (hH : HR P C Z n0 am H h) (hn : n0 ≤ h.size) :
    MetFree l (nm k) (head1 (Cond.code (nm k) (bc k) (P.maxL k) (P.ret k) :: wsC) rm) (fun a U => a = ws.toArray ∧ Z.Warmed39 U.vm ∧ U.heap = h) (fun _ _ _ _ _ => True)
      (fun _ U o U' => ∃ w Lc, o = .returned w ∧ QC P C Z n0 am v H1 w U'.heap Lc ∧ FrameEnd U o U' Lc (H1.length - H.length) (hsz P H1 - hsz P H)) := by
  refine MetFree.of_bodySF (plainFor_of_name hpl) hisR ?_
  intro p e s m args below meth c s₁ Bd hml0 hP hK
  obtain ⟨rfl, hZ, hh⟩ := hP
  have hown : s.vm.findClass (nm k).cls = some m.cls := findClass_of_methodNamed Bd.named
  have hnm := (name_of_methodNamed Bd.named Bd.method).1
  have X0 : Stand p l e rm s m ws.toArray below meth c s₁ [] 0 0 := Stand.of_body Bd
  have e0 : s₁.heap = h := by rw [← hh, Bd.state]; rfl
  have hsl := (slotsL_ok hS).1
  obtain ⟨T', am', locs', w, X', h1, h2, h3, h4, h5, h6, h7⟩ := IH k 0 _ _ _ _ _ hrun X0 Bd.exec hZ Bd.bytes hml0 Bd.returns (by rw [← hcls]; exact hown) (fun q => ⟨by rw [hnm]; exact (hini q).1, by rw [← hcls]; exact (hini q).2⟩) hrf hrl (by omega) (by omega) (entry_size (ws := ws) (n := P.maxL k) (by omega)) (LR.entry hS hE) (st := []) rfl (by rw [e0]; exact hH) (Fr.nil n0) (by rw [e0]; exact hn)
  obtain ⟨fs, hr, hrun', hended, hW, hsame⟩ := X'.leave (v := w) (fun q => h6 (by rw [← Bd.returns]; exact q))
  exact ⟨_, _, h7 fs hr, hrun', hended, w, locs', rfl, ⟨h3, h5, am', h2, h1, h4⟩, ⟨_, rfl⟩, hW, hsame.mono (by omega) (by omega)⟩
variable {p : Program} {l : Launch} {e : Env} {R : Room} {s : State} {m : MethodId} {args : Array Value} {below : List Frame} {meth : Method} {c : Code} {T : State} {locs : List Loc} {cells slots : Nat} {n0 : Nat}
theorem call_sound (G : Good P nm bc cn C Z a0) {n k k' pc np : Nat} {i : Instr} {S as rest : List Value} {H H1 : AHeap} {v : Option Value} (IH : SoundAt P nm bc cn C Z n) (hcode : P.code k pc = some (i, np)) (hcall : callV P k i S H = some (k', as, rest)) (hrun : run P n k' 0 (entry P k' as) [] H = some (v, H1))
    (X : Stand p l e R s m args below meth c T locs cells slots) (hx : p.tables.exec = Jvm.exec) (hZ : Z.Warmed39 s.vm) (hby : c.code = bc k) (hml : c.maxLocals = P.maxL k) (hown : s.vm.findClass (cn (P.cls k)) = some m.cls)
    (hrf : P.rf k ≤ R.frames) (hrl : P.rl k ≤ R.locals) (hcells : cells + (H1.length - H.length) ≤ R.cells) (hslots : slots + (hsz P H1 - hsz P H) ≤ R.slots) {am : List Addr} {ls : Array Slot} {st : List Value} (hlz : ls.size = P.maxL k) (hS : SR am S st) (hH : HR P C Z n0 am H T.heap) (hn : n0 ≤ T.heap.size) :
    ∃ T2 w Lc z, np = pc + 3 ∧ Stand p l e R s m args below meth c T2 (locs ++ Lc) (cells + (H1.length - H.length)) (slots + (hsz P H1 - hsz P H)) ∧ QC P C Z n0 am v H1 w T2.heap Lc ∧ SR am rest z ∧
      ∀ target, Steps p.tables e below (T2.setTop (mkF m (pc + 3) ls (w.toList ++ z))) target → Steps p.tables e below (T.setTop (mkF m pc ls st)) target := by
  obtain ⟨j, q, hj, hk, hkind, rfl, hlen, c3, c4, c5, c6⟩ := callV_spec hcall
  obtain ⟨G1, -, -, -, -, G6, -, -, G9⟩ := G
  obtain ⟨len, hdec, rfl, hlen'⟩ := G1 _ _ _ _ hcode
  have hd : decode c.code pc = .ok (i, len) := by rw [hby]; exact hdec
  obtain ⟨y, z, rfl, hy, hz⟩ := SR.app _ _ hS rfl
  have hws : SR am as y.reverse := by have := hy.rev; rwa [List.reverse_reverse] at this
  have hcz := hz.cats
  have lk := G9 _ _ _ _ hk
  have hq4 : q ≠ 4 := fun q4 => by subst q4; cases i <;> simp [kindOk] at hkind
  have hq5 : q ≠ 5 := fun q5 => by subst q5; cases i <;> simp [kindOk] at hkind
  have lk' : CallOk P nm bc cn C Z a0 (P.cls k) j q k' := linkOk_call hq4 hq5 lk
  obtain ⟨w1, w2, w3, ⟨ps, r, w4, w5⟩, w6, w7, w8, w9, w10⟩ := lk'
  have hM := metOf IH hrun (l := l) (wsC := []) (rm := ({ frames := P.rf k', cells := H1.length - H.length, slots := hsz P H1 - hsz P H, locals := P.rl k' } : Room)) w6 w8 w9 (Nat.le_refl _) (Nat.le_refl _) (Nat.le_refl _) (Nat.le_refl _) hws c6 hH hn
  have hB := backOf (R := R) (p := p) (e := e) (below := below) (args := args) (s := s) (len := 3) (W := cats rest) hM hZ w2 w3 (by show P.rf k' + 1 ≤ _; omega) (by show cats rest + (P.maxL k' + 11) + P.rl k' ≤ _; omega)
  have hyl : y.reverse.length = as.length := hws.len
  have recv : q ≠ 0 → ∃ a r' b ws', as = .ref a :: r' ∧ y.reverse = .ref b :: ws' ∧ Exa Z T.heap b C := fun h0 => by
    obtain ⟨a, r', fs, rfl, hfs⟩ := recv_spec h0 c5
    obtain ⟨_, ws', e1, ⟨b, hb, rfl⟩, -⟩ := hws
    obtain ⟨b', f1, f2, -⟩ := hH.2.2.2 _ _ hfs
    cases hb.symm.trans f1
    exact ⟨a, r', b, ws', rfl, e1, f2⟩
  cases i <;> simp only [poolOf, Option.some.injEq, reduceCtorEq] at hj
  case invokestatic j' =>
    subst hj
    obtain rfl : len = 3 := hlen'.resolve_left (by simp [ilen])
    obtain rfl : q = 0 := by
      match q, hkind with
      | 0, _ => rfl
    obtain ⟨w, _, ⟨T2, L2, k2, n2⟩, -, X2, ⟨Lc, hQ, l1, l2, l3⟩, st2⟩ := Jvm.LawKit.callS X hx (y := nm k') hown (mvT hZ w1) (mvT hZ w10) (mvT hZ w3) (mvT hZ w2) w7 hB (g := mkF m pc ls (y ++ z)) rfl (by rw [hml]; exact hlz) (argsL := y.reverse) (rest := z) (lenOf w4 (by rw [hyl, hlen, w5]; rfl)) (by simp) (by rw [hcz]; show 2 * 0 + _ ≤ _; omega) hd (fun _ _ => ⟨rfl, rfl, hcells, hslots⟩)
    dsimp only [Pt.U, Pt.locs, Pt.cells, Pt.slots] at X2 l1 l2 l3 st2 hQ
    subst l1 l2 l3
    exact ⟨T2, w, Lc, z, rfl, X2, hQ, hz, st2⟩
  case invokespecial j' =>
    subst hj
    obtain rfl : len = 3 := hlen'.resolve_left (by simp [ilen])
    obtain rfl : q = 1 := by
      match q, hkind with
      | 1, _ => rfl
    obtain ⟨a, r', b, ws', ea, ey, hEx⟩ := recv (by decide)
    obtain ⟨w11, w12, w13⟩ := w10
    have ey' : y = ws'.reverse ++ [.ref b] := by rw [← List.reverse_reverse y, ey]; simp
    rw [ey] at hB
    have hl : ws'.length = ps.length := by rw [ey, hlen, w5] at hyl; simpa [rcv] using hyl
    obtain ⟨w, _, ⟨T2, L2, k2, n2⟩, -, X2, ⟨Lc, hQ, l1, l2, l3⟩, st2⟩ := X.specialBack hx (y := nm k') w11 hown (mvT hZ w1) (mvT hZ w12) (bytes := bc k') (maxL := P.maxL k') (mvT hZ (by rw [w13] at w2; exact w2)) w7 hB (g := mkF m pc ls (y ++ z)) rfl (by rw [hml]; exact hlz) (Steps.refl _) (a := b) (argsL := ws') (rest := z) (lenOf w4 hl) (by rw [ey']; simp) (by rw [hcz]; show 2 * 0 + _ ≤ _; omega) hd (fun _ _ => ⟨rfl, rfl, hcells, hslots⟩)
    dsimp only [Pt.U, Pt.locs, Pt.cells, Pt.slots] at X2 l1 l2 l3 st2 hQ
    subst l1 l2 l3
    exact ⟨T2, w, Lc, z, rfl, X2, hQ, hz, fun target hr => st2.trans hr⟩
  case invokevirtual j' =>
    subst hj
    obtain rfl : len = 3 := hlen'.resolve_left (by simp [ilen])
    have hq : q = 2 ∨ q = 3 := by
      match q, hkind with
      | 2, _ => exact Or.inl rfl
      | 3, _ => exact Or.inr rfl
    obtain ⟨a, r', b, ws', ea, ey, hEx⟩ := recv (by omega)
    have ey' : y = ws'.reverse ++ [.ref b] := by rw [← List.reverse_reverse y, ey]; simp
    rw [ey] at hB
    rcases hq with rfl | rfl
    · obtain ⟨w11, w12, w13⟩ := w10
      have hl : ws'.length = ps.length := by rw [ey, hlen, w5] at hyl; simpa [rcv] using hyl
      obtain ⟨cq, kq, qa, qb, qc⟩ := isOf hZ rfl hEx
      obtain ⟨w, _, ⟨T2, L2, k2, n2⟩, -, X2, ⟨Lc, hQ, l1, l2, l3⟩, st2⟩ := X.virtualBack hx (y := nm k') (z := nm k') hown (mvT hZ w1) (mvT hZ w11) (notFace_of_selects (args := #[]) (mvT hZ w13)) (mvT hZ w13) (mvT hZ w12) w7 hB qa qc (g := mkF m pc ls (y ++ z)) rfl (by rw [hml]; exact hlz) (Steps.refl _) (argsL := ws') (rest := z) (lenOf w4 hl) (by rw [ey']; simp) (by rw [hcz]; show 2 * 0 + _ ≤ _; omega) hd (fun _ _ => ⟨rfl, rfl, hcells, hslots⟩)
      dsimp only [Pt.U, Pt.locs, Pt.cells, Pt.slots] at X2 l1 l2 l3 st2 hQ
      subst l1 l2 l3
      exact ⟨T2, w, Lc, z, rfl, X2, hQ, hz, fun target hr => st2.trans hr⟩
    · obtain ⟨w11, w12, w13⟩ := w10
      have hl : ws'.length = ps.length := by rw [ey, hlen, w5] at hyl; simpa [rcv] using hyl
      obtain ⟨cq, q1, q2⟩ := hEx.cell
      obtain ⟨cC, kC, i1, i2, i3, i4, -⟩ := Cond.instantiable_spec (mvT hZ G6 : (Cond.instantiable C P.objN).before #[] s = true)
      have hpriv : s.PrivateAt (nm k') := Cond.privateMethod_at (mvP hZ w13 (args := #[]))
      have hsel : (Cond.selects (nm k').cls (nm k') (nm k')).before args s = true := selects_self_of_private (by rw [w11]; exact i1) i2 (by simpa using (Bool.or_eq_false_iff.mp i4).1) hpriv (mvT hZ w12) w7
      obtain ⟨w, _, ⟨T2, L2, k2, n2⟩, -, X2, ⟨Lc, hQ, l1, l2, l3⟩, st2⟩ := X.privateBack hx (y := nm k') hown (mvT hZ w1) (mvT hZ w12) hsel hpriv (mvT hZ w2) w7 hB (g := mkF m pc ls (y ++ z)) rfl (by rw [hml]; exact hlz) (Steps.refl _) (a := b) q1 q2 (argsL := ws') (rest := z) (lenOf w4 hl) (by rw [ey']; simp) (by rw [hcz]; show 2 * 0 + _ ≤ _; omega) hd (fun _ _ => ⟨rfl, rfl, hcells, hslots⟩)
      dsimp only [Pt.U, Pt.locs, Pt.cells, Pt.slots] at X2 l1 l2 l3 st2 hQ
      subst l1 l2 l3
      exact ⟨T2, w, Lc, z, rfl, X2, hQ, hz, fun target hr => st2.trans hr⟩
theorem ret_sound (G : Good P nm bc cn C Z a0) {k pc np : Nat} {i : Instr} {S : List Value} {v : Option Value} (hcode : P.code k pc = some (i, np)) (h : retV P k i S = some v)
    (X : Stand p l e R s m args below meth c T locs cells slots) (hx : p.tables.exec = Jvm.exec) (hby : c.code = bc k) (hret : meth.sig.returnType = P.ret k) {am : List Addr} {ls : Array Slot} {st : List Value} (hS : SR am S st) :
    ∃ w, OVR am v w ∧ (P.ret k = none → w = none) ∧ ∀ fs, (∀ (f : JFrame) (acts : List Action), f.method = m → f.locked = none → f.entered = [] → (doReturn e (T.setTop f) acts w).1 = T.setFrames fs) → Steps p.tables e below (T.setTop (mkF m pc ls st)) (T.setFrames fs) := by
  obtain ⟨G1, -⟩ := G
  obtain ⟨len, hdec, rfl, hlen⟩ := G1 _ _ _ _ hcode
  have hd : decode c.code pc = .ok (i, len) := by rw [hby]; exact hdec
  rcases retV_spec h with ⟨rfl, rfl, hr, rfl⟩ | ⟨x, r, rfl, rfl, hr, rfl⟩ | ⟨x, r, rfl, rfl, hr, rfl⟩ | ⟨x, r, rfl, rfl, hr, rfl⟩
  · obtain rfl : len = 1 := hlen.resolve_left (by simp [ilen])
    cases hS
    exact ⟨none, rfl, fun _ => rfl, fun fs hl => X.returnOut hx (hret.trans hr) hd hl⟩
  · obtain rfl : len = 1 := hlen.resolve_left (by simp [ilen])
    obtain ⟨_, _, rfl, rfl, hr'⟩ := hS
    exact ⟨some (.int x), ⟨_, rfl, rfl⟩, (fun q => by rw [hr] at q; cases q), fun fs hl => retOut X hx (hret.trans hr) rfl (Or.inl ⟨rfl, Or.inl rfl, x, rfl⟩) hd hl⟩
  · obtain rfl : len = 1 := hlen.resolve_left (by simp [ilen])
    obtain ⟨_, _, rfl, rfl, hr'⟩ := hS
    exact ⟨some (.int (x &&& 1)), ⟨_, rfl, rfl⟩, (fun q => by rw [hr] at q; cases q), fun fs hl => retN X hx (hret.trans hr) (Or.inl rfl) hd hl⟩
  · obtain rfl : len = 1 := hlen.resolve_left (by simp [ilen])
    obtain ⟨_, _, rfl, rfl, hr'⟩ := hS
    exact ⟨some (.long x), ⟨_, rfl, rfl⟩, (fun q => by rw [hr] at q; cases q), fun fs hl => retOut X hx (hret.trans hr) rfl (Or.inr (Or.inl ⟨rfl, rfl, x, rfl⟩)) hd hl⟩
theorem SR.opt {am : List Addr} {v w : Option Value} {S st : List Value} (h : OVR am v w) (hS : SR am S st) : SR am (v.toList ++ S) (w.toList ++ st) := by
  cases v with
  | none => cases h; exact hS
  | some x => obtain ⟨y, rfl, h1⟩ := h; exact ⟨y, st, rfl, h1, hS⟩
theorem sound (G : Good P nm bc cn C Z a0) : ∀ n, SoundAt P nm bc cn C Z n
  | 0 => fun k pc L S H v H' h => by simp [run] at h
  | n + 1 => fun k pc L S H v H' h => by
    have IH := sound G n
    intro p l e R s m args below meth c T locs cells slots n0 am ls st X hx hZ hby hml hret hown hini hrf hrl hcells hslots hlz hL hS hH hF hn
    rw [run] at h
    split at h
    · cases h
    · rename_i i np hcode
      split at h
      · rename_i v' hv
        cases h
        obtain ⟨w, h1, h2, h3⟩ := ret_sound G hcode hv X hx hby hret (ls := ls) hS
        exact ⟨T, am, locs, w, by simpa using X, hH, Pre.refl _, hF, h1, hn, h2, h3⟩
      · split at h
        · rename_i k' as rest hcall
          split at h
          · rename_i v1 H1 hr1
            have g1 := run_grow hr1
            have g2 := run_grow h
            obtain ⟨T2, w, Lc, z, rfl, X2, ⟨q1, q2, am2, q3, q4, q5⟩, hz, st2⟩ := call_sound G IH hcode hcall hr1 X hx hZ hby hml hown hrf hrl (by omega) (by omega) (ls := ls) hlz hS hH hn
            obtain ⟨T', am', locs', w', X', f1, f2, f3, f4, f5, f6, f7⟩ := IH k _ _ _ _ _ _ h X2 hx hZ hby hml hret hown hini hrf hrl (by omega) (by omega) hlz (hL.mono q3) (SR.opt q5 (hz.mono q3)) q4 (Fr.app hF q1) q2
            refine ⟨T', am', locs', w', ?_, f1, q3.trans f2, f3, f4, f5, f6, fun fs hl => st2 _ (f7 fs hl)⟩
            have a1 : cells + (H1.length - H.length) + (H'.length - H1.length) = cells + (H'.length - H.length) := by omega
            have a2 : slots + (hsz P H1 - hsz P H) + (hsz P H' - hsz P H1) = slots + (hsz P H' - hsz P H) := by omega
            rw [a1, a2] at X'; exact X'
          · cases h
        · split at h
          · rename_i pc1 L1 S1 H1 hs1
            have g1 := step_grow hs1
            have g2 := run_grow h
            obtain ⟨T2, am2, ls2, st2, locs2, X2, b1, b2, b3, b4, b5, b6, b7, b8⟩ := step_sound G hcode hs1 X hx hZ hby hml hown hini hrf hrl (by omega) (by omega) hlz hL hS hH hF hn
            obtain ⟨T', am', locs', w', X', f1, f2, f3, f4, f5, f6, f7⟩ := IH k _ _ _ _ _ _ h X2 hx hZ hby hml hret hown hini hrf hrl (by omega) (by omega) (b2.trans hlz) b1 b3 b4 b6 b7
            refine ⟨T', am', locs', w', ?_, f1, b5.trans f2, f3, f4, f5, f6, fun fs hl => b8 _ (f7 fs hl)⟩
            have a1 : cells + (H1.length - H.length) + (H'.length - H1.length) = cells + (H'.length - H.length) := by omega
            have a2 : slots + (hsz P H1 - hsz P H) + (hsz P H' - hsz P H1) = slots + (hsz P H' - hsz P H) := by omega
            rw [a1, a2] at X'; exact X'
          · cases h
end Met
end Jvm.OwnX
namespace Jvm.OwnX
open Sem ClassFile Op Lib Jvm.Stand Jvm.Free Jvm.LawKit Jvm.RoadKit
theorem run_succ {P : Prog} : ∀ (n : Nat) {k pc : Nat} {L : ALoc} {S : List Value} {H : AHeap} {out : Option Value × AHeap}, run P n k pc L S H = some out → run P (n + 1) k pc L S H = some out
  | 0, k, pc, L, S, H, out, h => by simp [run] at h
  | n + 1, k, pc, L, S, H, out, h => by
    rw [run] at h
    rw [run]
    split at h
    · cases h
    · rename_i i np hc
      try simp only [hc]
      split at h
      · rename_i v hv
        try simp only [hv]
        exact h
      · rename_i hv
        try simp only [hv]
        split at h
        · rename_i k' as rest hcall
          try simp only [hcall]
          split at h
          · rename_i v1 H1 h1
            rw [run_succ n h1]; exact run_succ n h
          · cases h
        · rename_i hcall
          try simp only [hcall]
          split at h
          · rename_i pc1 L1 S1 H1 h1
            try simp only [h1]
            exact run_succ n h
          · cases h
theorem run_le {P : Prog} {n m k pc : Nat} {L : ALoc} {S : List Value} {H : AHeap} {out : Option Value × AHeap} (hm : n ≤ m) (h : run P n k pc L S H = some out) : run P m k pc L S H = some out := by
  induction hm with
  | refl => exact h
  | step _ ih => exact run_succ _ ih
section Rules
variable {P : Prog} {k pc np : Nat} {L L' : ALoc} {S r : List Value} {H : AHeap} {out : Option Value × AHeap}
theorem Eval.of_step {i : Instr} {pc' : Nat} {S' : List Value} {H' : AHeap} (hc : P.code k pc = some (i, np)) (h1 : retV P k i S = none) (h2 : callV P k i S H = none) (h3 : step P k i np pc L S H = some (pc', L', S', H')) (h : Eval P k pc' L' S' H' out) : Eval P k pc L S H out := by
  obtain ⟨n, h⟩ := h
  exact ⟨n + 1, by rw [run]; simp only [hc, h1, h2, h3]; exact h⟩
theorem Eval.call {i : Instr} {k' : Nat} {as rest : List Value} {v : Option Value} {H1 : AHeap} (hc : P.code k pc = some (i, np)) (h2 : callV P k i S H = some (k', as, rest)) (he : Eval P k' 0 (entry P k' as) [] H (v, H1)) (h : Eval P k np L (v.toList ++ rest) H1 out) : Eval P k pc L S H out := by
  obtain ⟨n, he⟩ := he
  obtain ⟨m, h⟩ := h
  have h1 : retV P k i S = none := by
    unfold callV at h2
    cases i <;> simp only [poolOf, reduceCtorEq] at h2 <;> rfl
  exact ⟨n + m + 1, by rw [run]; simp only [hc, h1, h2]; rw [run_le (Nat.le_add_right n m) he]; exact run_le (Nat.le_add_left m n) h⟩
theorem Eval.ret {i : Instr} {v : Option Value} (hc : P.code k pc = some (i, np)) (h1 : retV P k i S = some v) : Eval P k pc L S H (v, H) := ⟨1, by rw [run]; simp only [hc, h1]⟩
theorem Eval.eq {out' : Option Value × AHeap} (h : Eval P k pc L S H out') (e : out' = out) : Eval P k pc L S H out := e ▸ h
theorem Eval.iload_n {n : Fin 4} {x : Int32} (hc : P.code k pc = some (.iload_n n, np)) (hl : loadI L n.val = some x) (h : Eval P k np L (.int x :: S) H out) : Eval P k pc L S H out := Eval.of_step hc rfl rfl (by simp only [step, hl]) h
theorem Eval.iload {n : Nat} {x : Int32} (hc : P.code k pc = some (.iload n, np)) (hl : loadI L n = some x) (h : Eval P k np L (.int x :: S) H out) : Eval P k pc L S H out := Eval.of_step hc rfl rfl (by simp only [step, hl]) h
theorem Eval.lload_n {n : Fin 4} {x : Int64} (hc : P.code k pc = some (.lload_n n, np)) (hl : loadJ L n.val = some x) (h : Eval P k np L (.long x :: S) H out) : Eval P k pc L S H out := Eval.of_step hc rfl rfl (by simp only [step, hl]) h
theorem Eval.lload {n : Nat} {x : Int64} (hc : P.code k pc = some (.lload n, np)) (hl : loadJ L n = some x) (h : Eval P k np L (.long x :: S) H out) : Eval P k pc L S H out := Eval.of_step hc rfl rfl (by simp only [step, hl]) h
theorem Eval.aload_n {n : Fin 4} {x : Nat} (hc : P.code k pc = some (.aload_n n, np)) (hl : loadA L n.val = some x) (h : Eval P k np L (.ref x :: S) H out) : Eval P k pc L S H out := Eval.of_step hc rfl rfl (by simp only [step, hl]) h
theorem Eval.aload {n : Nat} {x : Nat} (hc : P.code k pc = some (.aload n, np)) (hl : loadA L n = some x) (h : Eval P k np L (.ref x :: S) H out) : Eval P k pc L S H out := Eval.of_step hc rfl rfl (by simp only [step, hl]) h
theorem Eval.istore_n {n : Fin 4} {x : Int32} (hc : P.code k pc = some (.istore_n n, np)) (hl : lput L n.val (.int x) = some L') (h : Eval P k np L' r H out) : Eval P k pc L (.int x :: r) H out := Eval.of_step hc rfl rfl (by simp only [step, hl]) h
theorem Eval.istore {n : Nat} {x : Int32} (hc : P.code k pc = some (.istore n, np)) (hl : lput L n (.int x) = some L') (h : Eval P k np L' r H out) : Eval P k pc L (.int x :: r) H out := Eval.of_step hc rfl rfl (by simp only [step, hl]) h
theorem Eval.astore_n {n : Fin 4} {x : Nat} (hc : P.code k pc = some (.astore_n n, np)) (hl : lput L n.val (.ref x) = some L') (h : Eval P k np L' r H out) : Eval P k pc L (.ref x :: r) H out := Eval.of_step hc rfl rfl (by simp only [step, hl]) h
theorem Eval.astore {n : Nat} {x : Nat} (hc : P.code k pc = some (.astore n, np)) (hl : lput L n (.ref x) = some L') (h : Eval P k np L' r H out) : Eval P k pc L (.ref x :: r) H out := Eval.of_step hc rfl rfl (by simp only [step, hl]) h
theorem Eval.lstore_n {n : Fin 4} {x : Int64} (hc : P.code k pc = some (.lstore_n n, np)) (hl : lputL L n.val x = some L') (h : Eval P k np L' r H out) : Eval P k pc L (.long x :: r) H out := Eval.of_step hc rfl rfl (by simp only [step, hl]) h
theorem Eval.lstore {n : Nat} {x : Int64} (hc : P.code k pc = some (.lstore n, np)) (hl : lputL L n x = some L') (h : Eval P k np L' r H out) : Eval P k pc L (.long x :: r) H out := Eval.of_step hc rfl rfl (by simp only [step, hl]) h
theorem Eval.iinc {n : Nat} {c : Int} {x : Int32} (hc : P.code k pc = some (.iinc n c, np)) (hl : loadI L n = some x) (hp : lput L n (.int (x + Int32.ofInt c)) = some L') (h : Eval P k np L' S H out) : Eval P k pc L S H out := Eval.of_step hc rfl rfl (by simp only [step, hl, hp]) h
theorem Eval.iconst {c : Int} {x : Int32} (hc : P.code k pc = some (.iconst c, np)) (hx : Int32.ofInt c = x) (h : Eval P k np L (.int x :: S) H out) : Eval P k pc L S H out := Eval.of_step hc rfl rfl (by subst hx; rfl) h
theorem Eval.bipush {c : Int} {x : Int32} (hc : P.code k pc = some (.bipush c, np)) (hx : (Int8.ofInt c).toInt32 = x) (h : Eval P k np L (.int x :: S) H out) : Eval P k pc L S H out := Eval.of_step hc rfl rfl (by subst hx; rfl) h
theorem Eval.sipush {c : Int} {x : Int32} (hc : P.code k pc = some (.sipush c, np)) (hx : (Int16.ofInt c).toInt32 = x) (h : Eval P k np L (.int x :: S) H out) : Eval P k pc L S H out := Eval.of_step hc rfl rfl (by subst hx; rfl) h
theorem Eval.lconst {c : Fin 2} {x : Int64} (hc : P.code k pc = some (.lconst c, np)) (hx : Int64.ofNat c = x) (h : Eval P k np L (.long x :: S) H out) : Eval P k pc L S H out := Eval.of_step hc rfl rfl (by subst hx; rfl) h
theorem Eval.ldc {j : Nat} {x : Int32} (hc : P.code k pc = some (.ldc j, np)) (hx : P.kon (P.cls k) j = some (.int x)) (h : Eval P k np L (.int x :: S) H out) : Eval P k pc L S H out := Eval.of_step hc rfl rfl (by simp only [step, hx]) h
theorem Eval.ldc2_w {j : Nat} {x : Int64} (hc : P.code k pc = some (.ldc2_w j, np)) (hx : P.kon (P.cls k) j = some (.long x)) (h : Eval P k np L (.long x :: S) H out) : Eval P k pc L S H out := Eval.of_step hc rfl rfl (by simp only [step, hx]) h
theorem Eval.idiv {x y : Int32} (hc : P.code k pc = some (.idiv, np)) (hy : ¬ y = 0) (h : Eval P k np L (.int (x / y) :: r) H out) : Eval P k pc L (.int y :: .int x :: r) H out := Eval.of_step hc rfl rfl (by simp [step, hy]) h
theorem Eval.irem {x y : Int32} (hc : P.code k pc = some (.irem, np)) (hy : ¬ y = 0) (h : Eval P k np L (.int (x % y) :: r) H out) : Eval P k pc L (.int y :: .int x :: r) H out := Eval.of_step hc rfl rfl (by simp [step, hy]) h
theorem Eval.iadd {x y : Int32} (hc : P.code k pc = some (.iadd, np))  (h : Eval P k np L (.int (x + y) :: r) H out) : Eval P k pc L (.int y :: .int x :: r) H out := Eval.of_step hc rfl rfl (by rfl) h
theorem Eval.isub {x y : Int32} (hc : P.code k pc = some (.isub, np))  (h : Eval P k np L (.int (x - y) :: r) H out) : Eval P k pc L (.int y :: .int x :: r) H out := Eval.of_step hc rfl rfl (by rfl) h
theorem Eval.imul {x y : Int32} (hc : P.code k pc = some (.imul, np))  (h : Eval P k np L (.int (x * y) :: r) H out) : Eval P k pc L (.int y :: .int x :: r) H out := Eval.of_step hc rfl rfl (by rfl) h
theorem Eval.iand {x y : Int32} (hc : P.code k pc = some (.iand, np))  (h : Eval P k np L (.int (x &&& y) :: r) H out) : Eval P k pc L (.int y :: .int x :: r) H out := Eval.of_step hc rfl rfl (by rfl) h
theorem Eval.ior {x y : Int32} (hc : P.code k pc = some (.ior, np))  (h : Eval P k np L (.int (x ||| y) :: r) H out) : Eval P k pc L (.int y :: .int x :: r) H out := Eval.of_step hc rfl rfl (by rfl) h
theorem Eval.ixor {x y : Int32} (hc : P.code k pc = some (.ixor, np))  (h : Eval P k np L (.int (x ^^^ y) :: r) H out) : Eval P k pc L (.int y :: .int x :: r) H out := Eval.of_step hc rfl rfl (by rfl) h
theorem Eval.ishl {x y : Int32} (hc : P.code k pc = some (.ishl, np))  (h : Eval P k np L (.int (ish x y) :: r) H out) : Eval P k pc L (.int y :: .int x :: r) H out := Eval.of_step hc rfl rfl (by rfl) h
theorem Eval.ishr {x y : Int32} (hc : P.code k pc = some (.ishr, np))  (h : Eval P k np L (.int (isr x y) :: r) H out) : Eval P k pc L (.int y :: .int x :: r) H out := Eval.of_step hc rfl rfl (by rfl) h
theorem Eval.iushr {x y : Int32} (hc : P.code k pc = some (.iushr, np))  (h : Eval P k np L (.int (ush x y) :: r) H out) : Eval P k pc L (.int y :: .int x :: r) H out := Eval.of_step hc rfl rfl (by rfl) h
theorem Eval.ladd {x y : Int64} (hc : P.code k pc = some (.ladd, np))  (h : Eval P k np L (.long (x + y) :: r) H out) : Eval P k pc L (.long y :: .long x :: r) H out := Eval.of_step hc rfl rfl (by rfl) h
theorem Eval.lsub {x y : Int64} (hc : P.code k pc = some (.lsub, np))  (h : Eval P k np L (.long (x - y) :: r) H out) : Eval P k pc L (.long y :: .long x :: r) H out := Eval.of_step hc rfl rfl (by rfl) h
theorem Eval.lmul {x y : Int64} (hc : P.code k pc = some (.lmul, np))  (h : Eval P k np L (.long (x * y) :: r) H out) : Eval P k pc L (.long y :: .long x :: r) H out := Eval.of_step hc rfl rfl (by rfl) h
theorem Eval.land {x y : Int64} (hc : P.code k pc = some (.land, np))  (h : Eval P k np L (.long (x &&& y) :: r) H out) : Eval P k pc L (.long y :: .long x :: r) H out := Eval.of_step hc rfl rfl (by rfl) h
theorem Eval.lor {x y : Int64} (hc : P.code k pc = some (.lor, np))  (h : Eval P k np L (.long (x ||| y) :: r) H out) : Eval P k pc L (.long y :: .long x :: r) H out := Eval.of_step hc rfl rfl (by rfl) h
theorem Eval.lxor {x y : Int64} (hc : P.code k pc = some (.lxor, np))  (h : Eval P k np L (.long (x ^^^ y) :: r) H out) : Eval P k pc L (.long y :: .long x :: r) H out := Eval.of_step hc rfl rfl (by rfl) h
theorem Eval.lshl {x : Int64} {y : Int32} (hc : P.code k pc = some (.lshl, np))  (h : Eval P k np L (.long (lsh x y) :: r) H out) : Eval P k pc L (.int y :: .long x :: r) H out := Eval.of_step hc rfl rfl (by rfl) h
theorem Eval.lushr {x : Int64} {y : Int32} (hc : P.code k pc = some (.lushr, np))  (h : Eval P k np L (.long (lus x y) :: r) H out) : Eval P k pc L (.int y :: .long x :: r) H out := Eval.of_step hc rfl rfl (by rfl) h
theorem Eval.lcmp {x y : Int64} (hc : P.code k pc = some (.lcmp, np))  (h : Eval P k np L (.int (lcm x y) :: r) H out) : Eval P k pc L (.long y :: .long x :: r) H out := Eval.of_step hc rfl rfl (by rfl) h
theorem Eval.lneg {x : Int64} (hc : P.code k pc = some (.lneg, np))  (h : Eval P k np L (.long (-x) :: r) H out) : Eval P k pc L (.long x :: r) H out := Eval.of_step hc rfl rfl (by rfl) h
theorem Eval.i2l {x : Int32} (hc : P.code k pc = some (.i2l, np))  (h : Eval P k np L (.long x.toInt64 :: r) H out) : Eval P k pc L (.int x :: r) H out := Eval.of_step hc rfl rfl (by rfl) h
theorem Eval.l2i {x : Int64} (hc : P.code k pc = some (.l2i, np))  (h : Eval P k np L (.int x.toInt32 :: r) H out) : Eval P k pc L (.long x :: r) H out := Eval.of_step hc rfl rfl (by rfl) h
theorem Eval.i2b {x : Int32} (hc : P.code k pc = some (.i2b, np))  (h : Eval P k np L (.int (i8 x) :: r) H out) : Eval P k pc L (.int x :: r) H out := Eval.of_step hc rfl rfl (by rfl) h
theorem Eval.dupR {x : Nat} (hc : P.code k pc = some (.dup, np))  (h : Eval P k np L (.ref x :: .ref x :: r) H out) : Eval P k pc L (.ref x :: r) H out := Eval.of_step hc rfl rfl (by rfl) h
theorem Eval.dupI {x : Int32} (hc : P.code k pc = some (.dup, np))  (h : Eval P k np L (.int x :: .int x :: r) H out) : Eval P k pc L (.int x :: r) H out := Eval.of_step hc rfl rfl (by rfl) h
theorem Eval.dup2 {x : Int32} {y : Nat} (hc : P.code k pc = some (.dup2, np))  (h : Eval P k np L (.int x :: .ref y :: .int x :: .ref y :: r) H out) : Eval P k pc L (.int x :: .ref y :: r) H out := Eval.of_step hc rfl rfl (by rfl) h
theorem Eval.popI {x : Int32} (hc : P.code k pc = some (.pop, np))  (h : Eval P k np L r H out) : Eval P k pc L (.int x :: r) H out := Eval.of_step hc rfl rfl (by rfl) h
theorem Eval.popR {x : Nat} (hc : P.code k pc = some (.pop, np))  (h : Eval P k np L r H out) : Eval P k pc L (.ref x :: r) H out := Eval.of_step hc rfl rfl (by rfl) h
theorem Eval.goto {o : Int} {t : Nat} (hc : P.code k pc = some (.goto o, np)) (ht : tgt pc o = some t) (h : Eval P k t L S H out) : Eval P k pc L S H out := Eval.of_step hc rfl rfl (by simp only [step, ht]) h
theorem Eval.ifT {cd : ClassFile.Cond} {o : Int} {t : Nat} {x : Int32} (hc : P.code k pc = some (.ifCond cd o, np)) (ht : tgt pc o = some t) (hb : if_icmp.holds cd x 0 = true) (h : Eval P k t L r H out) : Eval P k pc L (.int x :: r) H out := Eval.of_step hc rfl rfl (by simp only [step, ht, hb, cond_true]) h
theorem Eval.ifF {cd : ClassFile.Cond} {o : Int} {x : Int32} (hc : P.code k pc = some (.ifCond cd o, np)) (hb : if_icmp.holds cd x 0 = false) (h : Eval P k np L r H out) : Eval P k pc L (.int x :: r) H out := Eval.of_step hc rfl rfl (by simp only [step, hb, cond_false]) h
theorem Eval.icmpT {cd : ClassFile.Cond} {o : Int} {t : Nat} {x y : Int32} (hc : P.code k pc = some (.if_icmp cd o, np)) (ht : tgt pc o = some t) (hb : if_icmp.holds cd x y = true) (h : Eval P k t L r H out) : Eval P k pc L (.int y :: .int x :: r) H out := Eval.of_step hc rfl rfl (by simp only [step, ht, hb, cond_true]) h
theorem Eval.icmpF {cd : ClassFile.Cond} {o : Int} {x y : Int32} (hc : P.code k pc = some (.if_icmp cd o, np)) (hb : if_icmp.holds cd x y = false) (h : Eval P k np L r H out) : Eval P k pc L (.int y :: .int x :: r) H out := Eval.of_step hc rfl rfl (by simp only [step, hb, cond_false]) h
theorem Eval.tswIn {d lo hi o : Int} {offs : Array Int} {t : Nat} {x : Int32} (hc : P.code k pc = some (.tableswitch d lo hi offs, np)) (h1 : (decide (x.toInt < lo) || decide (x.toInt > hi)) = false) (h2 : offs.toList[(x.toInt - lo).toNat]? = some o) (ht : tgt pc o = some t) (h : Eval P k t L r H out) : Eval P k pc L (.int x :: r) H out := Eval.of_step hc rfl rfl (by simp only [step, h1, h2, ht, cond_false]) h
theorem Eval.tswOut {d lo hi : Int} {offs : Array Int} {t : Nat} {x : Int32} (hc : P.code k pc = some (.tableswitch d lo hi offs, np)) (h1 : (decide (x.toInt < lo) || decide (x.toInt > hi)) = true) (ht : tgt pc d = some t) (h : Eval P k t L r H out) : Eval P k pc L (.int x :: r) H out := Eval.of_step hc rfl rfl (by simp only [step, h1, ht, cond_true]) h
theorem Eval.getfield {j f a : Nat} {v : Value} (hc : P.code k pc = some (.getfield j, np)) (hf : P.fld (P.cls k) j = some f) (hg : getC H a f = some v) (h : Eval P k np L (v :: r) H out) : Eval P k pc L (.ref a :: r) H out := Eval.of_step hc rfl rfl (by simp only [step, hf, hg]) h
/-- the heap with a field written -/
def putC (P : Prog) (k : Nat) (H : AHeap) (a f : Nat) (v : Value) : Option AHeap := match P.fields[f]? with
  | some (_, _, t, fin) => (bif (!fin || P.ini k) && Nat.ble P.ro a then (match conv t v with
    | some v' => (match H[a]? with
      | some (.inl fs) => (bif Nat.ble (f + 1) fs.length then some (H.set a (.inl (fs.set f v'))) else none)
      | _ => none)
    | none => none) else none)
  | none => none
theorem putC_spec {P : Prog} {k a f : Nat} {v : Value} {H H1 : AHeap} (hp : putC P k H a f v = some H1) : ∃ n d t fin v' fs, P.fields[f]? = some (n, d, t, fin) ∧ ((!fin || P.ini k) && Nat.ble P.ro a) = true ∧ conv t v = some v' ∧ H[a]? = some (.inl fs) ∧ Nat.ble (f + 1) fs.length = true ∧ H1 = H.set a (.inl (fs.set f v')) := by
  unfold putC at hp
  simp only [Bool.cond_eq_ite] at hp
  split at hp
  · rename_i n d t fin hq
    split at hp
    · rename_i hc
      split at hp
      · rename_i v' hv
        split at hp
        · rename_i fs hfs
          split at hp
          · rename_i hz
            cases hp; exact ⟨n, d, t, fin, v', fs, hq, hc, hv, hfs, hz, rfl⟩
          · cases hp
        · cases hp
      · cases hp
    · cases hp
  · cases hp
theorem step_put {j f a : Nat} {v : Value} {H1 : AHeap} (hf : P.fld (P.cls k) j = some f) (hp : putC P k H a f v = some H1) : step P k (.putfield j) np pc L (v :: .ref a :: r) H = some (np, L, r, H1) := by
  obtain ⟨n, d, t, fin, v', fs, h1, h2, h3, h4, h5, rfl⟩ := putC_spec hp
  simp only [step, hf, h1, h2, h3, h4, h5, cond_true]
theorem Eval.putfield {j f a : Nat} {v : Value} {H1 : AHeap} (hc : P.code k pc = some (.putfield j, np)) (hf : P.fld (P.cls k) j = some f) (hp : putC P k H a f v = some H1) (h : Eval P k np L r H1 out) : Eval P k pc L (v :: .ref a :: r) H out := Eval.of_step hc rfl rfl (step_put hf hp) h
theorem Eval.iaload0 {a : Nat} {j : Int32} {xs : List Int32} (hc : P.code k pc = some (.iaload, np)) (ha : H[a]? = some (.inr (.inl (0, xs)))) (hj : inb xs.length j = true) (h : Eval P k np L (.int (rd xs j) :: r) H out) : Eval P k pc L (.int j :: .ref a :: r) H out := Eval.of_step hc rfl rfl (by simp only [step, ha, hj, cond_true]) h
theorem Eval.iaload {a : Nat} {j : Int32} {xs : List Int32} (hc : P.code k pc = some (.iaload, np)) (ha : H[a]? = some (.inr (.inl (1, xs)))) (hj : inb xs.length j = true) (h : Eval P k np L (.int (rd xs j) :: r) H out) : Eval P k pc L (.int j :: .ref a :: r) H out := Eval.of_step hc rfl rfl (by simp only [step, ha, hj, cond_true]) h
theorem Eval.baloadZ {a : Nat} {j : Int32} {xs : List Int32} (hc : P.code k pc = some (.baload, np)) (ha : H[a]? = some (.inr (.inl (2, xs)))) (hj : inb xs.length j = true) (h : Eval P k np L (.int (rd xs j) :: r) H out) : Eval P k pc L (.int j :: .ref a :: r) H out := Eval.of_step hc rfl rfl (by simp only [step, ha, hj, cond_true]) h
theorem Eval.baloadB {a : Nat} {j : Int32} {xs : List Int32} (hc : P.code k pc = some (.baload, np)) (ha : H[a]? = some (.inr (.inl (3, xs)))) (hj : inb xs.length j = true) (h : Eval P k np L (.int (rd xs j) :: r) H out) : Eval P k pc L (.int j :: .ref a :: r) H out := Eval.of_step hc rfl rfl (by simp only [step, ha, hj, cond_true]) h
theorem Eval.laload {a : Nat} {j : Int32} {xs : List Int64} (hc : P.code k pc = some (.laload, np)) (ha : H[a]? = some (.inr (.inr xs))) (hj : inb xs.length j = true) (h : Eval P k np L (.long (rdL xs j) :: r) H out) : Eval P k pc L (.int j :: .ref a :: r) H out := Eval.of_step hc rfl rfl (by simp only [step, ha, hj, cond_true]) h
theorem Eval.iastore {a : Nat} {j : Int32} {x : Int32} {xs : List Int32} {H1 : AHeap} (hc : P.code k pc = some (.iastore, np)) (hro : Nat.ble P.ro a = true) (ha : H[a]? = some (.inr (.inl (1, xs)))) (hj : inb xs.length j = true) (hH : H.set a (.inr (.inl (1, wr xs j x))) = H1) (h : Eval P k np L r H1 out) : Eval P k pc L (.int x :: .int j :: .ref a :: r) H out := Eval.of_step hc rfl rfl (by subst hH; simp only [step, hro, ha, hj, cond_true]; try rfl) h
theorem Eval.bastoreZ {a : Nat} {j : Int32} {x : Int32} {xs : List Int32} {H1 : AHeap} (hc : P.code k pc = some (.bastore, np)) (hro : Nat.ble P.ro a = true) (ha : H[a]? = some (.inr (.inl (2, xs)))) (hj : inb xs.length j = true) (hH : H.set a (.inr (.inl (2, wr xs j (x &&& 1)))) = H1) (h : Eval P k np L r H1 out) : Eval P k pc L (.int x :: .int j :: .ref a :: r) H out := Eval.of_step hc rfl rfl (by subst hH; simp only [step, hro, ha, hj, cond_true]; try rfl) h
theorem Eval.bastoreB {a : Nat} {j : Int32} {x : Int32} {xs : List Int32} {H1 : AHeap} (hc : P.code k pc = some (.bastore, np)) (hro : Nat.ble P.ro a = true) (ha : H[a]? = some (.inr (.inl (3, xs)))) (hj : inb xs.length j = true) (hH : H.set a (.inr (.inl (3, wr xs j (i8 x)))) = H1) (h : Eval P k np L r H1 out) : Eval P k pc L (.int x :: .int j :: .ref a :: r) H out := Eval.of_step hc rfl rfl (by subst hH; simp only [step, hro, ha, hj, cond_true]; try rfl) h
theorem Eval.lastore {a : Nat} {j : Int32} {x : Int64} {xs : List Int64} {H1 : AHeap} (hc : P.code k pc = some (.lastore, np)) (hro : Nat.ble P.ro a = true) (ha : H[a]? = some (.inr (.inr xs))) (hj : inb xs.length j = true) (hH : H.set a (.inr (.inr (wrL xs j x))) = H1) (h : Eval P k np L r H1 out) : Eval P k pc L (.long x :: .int j :: .ref a :: r) H out := Eval.of_step hc rfl rfl (by subst hH; simp only [step, hro, ha, hj, cond_true]; try rfl) h
theorem Eval.alenI {a t : Nat} {xs : List Int32} (hc : P.code k pc = some (.arraylength, np)) (ha : H[a]? = some (.inr (.inl (t, xs)))) (h : Eval P k np L (.int xs.length.toInt32 :: r) H out) : Eval P k pc L (.ref a :: r) H out := Eval.of_step hc rfl rfl (by simp only [step, ha]) h
theorem Eval.newarray {t : ArrayType} {n : Int32} {q a z N : Nat} {H1 : AHeap} (hc : P.code k pc = some (.newarray t, np)) (hla : H.length = a) (ht : atyOf t = some q) (hn : decide (n < 0) = false) (hN : n.toNatClampNeg = N) (hb : N ≤ 60000) (hC : a + 1 ≤ P.capC) (hz : hsz P H = z) (hS : z + N ≤ P.capS) (hH : H ++ [newC q N] = H1) (h : Eval P k np L (.ref a :: r) H1 out) : Eval P k pc L (.int n :: r) H out := by
  subst hla hN hz
  have hq : (!(decide (n < 0)) && Nat.ble n.toNatClampNeg 60000 && Nat.ble (H.length + 1) P.capC && Nat.ble (hsz P H + n.toNatClampNeg) P.capS) = true := by
    simp only [hn, Bool.not_false, Bool.true_and, Bool.and_eq_true]
    exact ⟨⟨Nat.ble_eq_true_of_le hb, Nat.ble_eq_true_of_le hC⟩, Nat.ble_eq_true_of_le hS⟩
  exact Eval.of_step hc rfl rfl (by simp only [step, ht, hq, cond_true, hH]) h
theorem Eval.new {j q a z : Nat} {H1 : AHeap} (hc : P.code k pc = some (.new j, np)) (hla : H.length = a) (ht : P.link (P.cls k) j = some (5, q)) (hC : a + 1 ≤ P.capC) (hz : hsz P H = z) (hS : z + P.objN ≤ P.capS) (hH : H ++ [.inl P.fresh] = H1) (h : Eval P k np L (.ref a :: S) H1 out) : Eval P k pc L S H out := by
  subst hla hz
  have hq : (Nat.ble (H.length + 1) P.capC && Nat.ble (hsz P H + P.objN) P.capS) = true := by
    simp only [Bool.and_eq_true]
    exact ⟨Nat.ble_eq_true_of_le hC, Nat.ble_eq_true_of_le hS⟩
  exact Eval.of_step hc rfl rfl (by simp only [step, ht, hq, cond_true, hH]) h
theorem Eval.objInit {j a : Nat} (hc : P.code k pc = some (.invokespecial j, np)) (hq : (isObjInit P k j && Nat.ble 1 (P.rf k) && Nat.ble (cats r + 12) (P.rl k)) = true) (h : Eval P k np L r H out) : Eval P k pc L (.ref a :: r) H out := by
  refine Eval.of_step hc rfl ?_ (by simp only [step, hq, cond_true]) h
  simp only [Bool.and_eq_true] at hq
  have h3 := hq.1.1
  unfold isObjInit at h3
  split at h3
  · rename_i kk hk
    simp [callV, poolOf, hk, kindOk]
  · cases h3
/-- the left knows at least what the right knows -/
def lw : ALoc → ALoc → Prop
  | [], b => b = []
  | a :: r, b => ∃ x r', b = x :: r' ∧ (x = none ∨ x = a) ∧ lw r r'
theorem lw.refl : ∀ L : ALoc, lw L L
  | [] => rfl
  | a :: r => ⟨a, r, rfl, Or.inr rfl, lw.refl r⟩
def mkL : Nat → ALoc → ALoc
  | _, [] => []
  | m, a :: r => (match Nat.mod m 2 with | 0 => none | _ => a) :: mkL (Nat.div m 2) r
theorem lw_mk : ∀ (m : Nat) (L : ALoc), lw L (mkL m L)
  | _, [] => rfl
  | m, a :: r => ⟨_, _, rfl, by cases h : Nat.mod m 2 with
    | zero => exact Or.inl rfl
    | succ k => exact Or.inr rfl, lw_mk (Nat.div m 2) r⟩
theorem lw.spec : ∀ {L L' : ALoc}, lw L L' → L.length = L'.length ∧ ∀ (i : Nat) v, L'[i]? = some (some v) → L[i]? = some (some v)
  | [], _, h => by cases h; exact ⟨rfl, fun i v q => by simp at q⟩
  | a :: r, _, ⟨x, r', e, h1, h2⟩ => by
    subst e
    obtain ⟨i1, i2⟩ := lw.spec h2
    refine ⟨by simp [i1], fun i v q => ?_⟩
    cases i with
    | zero =>
      simp only [List.getElem?_cons_zero, Option.some.injEq] at q ⊢
      rcases h1 with rfl | rfl
      · cases q
      · exact q
    | succ i => rw [List.getElem?_cons_succ] at q ⊢; exact i2 i v q
theorem lw.of : ∀ {L L' : ALoc}, L.length = L'.length → (∀ (i : Nat) v, L'[i]? = some (some v) → L[i]? = some (some v)) → lw L L'
  | [], L', h, _ => by cases L' with
    | nil => rfl
    | cons _ _ => simp at h
  | a :: r, L', h, q => by
    cases L' with
    | nil => simp at h
    | cons x r' =>
      refine ⟨x, r', rfl, ?_, lw.of (by simpa using h) fun i v e => ?_⟩
      · cases x with
        | none => exact Or.inl rfl
        | some v => have := q 0 v rfl; simp at this; exact Or.inr this.symm
      · have := q (i + 1) v (by rw [List.getElem?_cons_succ]; exact e); rwa [List.getElem?_cons_succ] at this
theorem lw.kill {L L' : ALoc} (h : lw L L') (i : Nat) : lw (kill1 L i) (kill1 L' i) := by
  obtain ⟨h1, h2⟩ := h.spec
  refine lw.of (by rw [kill1_len, kill1_len, h1]) fun j v q => ?_
  obtain ⟨q1, q2⟩ := kill1_get q
  have q3 := h2 _ _ q1
  unfold kill1
  split
  · exact q3
  · rename_i i
    split
    · rename_i x hx
      by_cases e : i = j
      · subst e; rw [hx] at q3; cases q3; exact absurd rfl (q2 rfl x)
      · rw [List.getElem?_set_ne e]; exact q3
    · exact q3
theorem lw.set {L L' : ALoc} (h : lw L L') (i : Nat) (x : Option Value) : lw (L.set i x) (L'.set i x) := by
  obtain ⟨h1, h2⟩ := h.spec
  refine lw.of (by simp [h1]) fun j v q => ?_
  rw [List.getElem?_set] at q ⊢
  split at q
  · rename_i e
    rw [if_pos e, h1]; exact q
  · rename_i e
    rw [if_neg e]; exact h2 _ _ q
theorem lw.put {L L' L1 : ALoc} (h : lw L L') {i : Nat} {v : Value} (hp : lput L' i v = some L1) : ∃ L2, lput L i v = some L2 ∧ lw L2 L1 := by
  unfold lput at hp ⊢
  rw [h.spec.1]
  rw [Bool.cond_eq_ite] at hp ⊢
  split at hp
  · rename_i hc
    cases hp; exact ⟨_, if_pos hc, (h.kill i).set i _⟩
  · cases hp
theorem lw.putL {L L' L1 : ALoc} (h : lw L L') {i : Nat} {v : Int64} (hp : lputL L' i v = some L1) : ∃ L2, lputL L i v = some L2 ∧ lw L2 L1 := by
  unfold lputL at hp ⊢
  rw [h.spec.1]
  rw [Bool.cond_eq_ite] at hp ⊢
  split at hp
  · rename_i hc
    cases hp; exact ⟨_, if_pos hc, ((h.kill i).set i _).set (i + 1) _⟩
  · cases hp
theorem lw.loadI {L L' : ALoc} (h : lw L L') {i : Nat} {x : Int32} (q : OwnX.loadI L' i = some x) : OwnX.loadI L i = some x := by
  unfold OwnX.loadI at q ⊢
  split at q
  · rename_i y hy
    rw [h.spec.2 _ _ hy]; exact q
  · cases q
theorem lw.loadJ {L L' : ALoc} (h : lw L L') {i : Nat} {x : Int64} (q : OwnX.loadJ L' i = some x) : OwnX.loadJ L i = some x := by
  unfold OwnX.loadJ at q ⊢
  split at q
  · rename_i y hy
    rw [h.spec.2 _ _ hy]; exact q
  · cases q
theorem lw.loadA {L L' : ALoc} (h : lw L L') {i x : Nat} (q : OwnX.loadA L' i = some x) : OwnX.loadA L i = some x := by
  unfold OwnX.loadA at q ⊢
  split at q
  · rename_i y hy
    rw [h.spec.2 _ _ hy]; exact q
  · cases q
set_option maxHeartbeats 4000000 in
theorem step_weak {i : Instr} {pc' : Nat} {S' : List Value} {H' : AHeap} {L1 : ALoc} (hw : lw L L') (h : step P k i np pc L' S H = some (pc', L1, S', H')) : ∃ L2, step P k i np pc L S H = some (pc', L2, S', H') ∧ lw L2 L1 := by
  cases i
  case iload_n n =>
    simp only [step] at h ⊢
    split at h
    · rename_i x hx
      rw [hw.loadI hx]; cases h; exact ⟨L, rfl, hw⟩
    · cases h
  case iload n =>
    simp only [step] at h ⊢
    split at h
    · rename_i x hx
      rw [hw.loadI hx]; cases h; exact ⟨L, rfl, hw⟩
    · cases h
  case lload_n n =>
    simp only [step] at h ⊢
    split at h
    · rename_i x hx
      rw [hw.loadJ hx]; cases h; exact ⟨L, rfl, hw⟩
    · cases h
  case lload n =>
    simp only [step] at h ⊢
    split at h
    · rename_i x hx
      rw [hw.loadJ hx]; cases h; exact ⟨L, rfl, hw⟩
    · cases h
  case aload_n n =>
    simp only [step] at h ⊢
    split at h
    · rename_i x hx
      rw [hw.loadA hx]; cases h; exact ⟨L, rfl, hw⟩
    · cases h
  case aload n =>
    simp only [step] at h ⊢
    split at h
    · rename_i x hx
      rw [hw.loadA hx]; cases h; exact ⟨L, rfl, hw⟩
    · cases h
  case istore_n n =>
    simp only [step] at h ⊢
    split at h
    · split at h
      · rename_i L3 hx
        obtain ⟨L2, e1, e2⟩ := hw.put hx
        cases h; exact ⟨L2, by simp only [e1], e2⟩
      · cases h
    · cases h
  case istore n =>
    simp only [step] at h ⊢
    split at h
    · split at h
      · rename_i L3 hx
        obtain ⟨L2, e1, e2⟩ := hw.put hx
        cases h; exact ⟨L2, by simp only [e1], e2⟩
      · cases h
    · cases h
  case astore_n n =>
    simp only [step] at h ⊢
    split at h
    · split at h
      · rename_i L3 hx
        obtain ⟨L2, e1, e2⟩ := hw.put hx
        cases h; exact ⟨L2, by simp only [e1], e2⟩
      · cases h
    · cases h
  case astore n =>
    simp only [step] at h ⊢
    split at h
    · split at h
      · rename_i L3 hx
        obtain ⟨L2, e1, e2⟩ := hw.put hx
        cases h; exact ⟨L2, by simp only [e1], e2⟩
      · cases h
    · cases h
  case lstore_n n =>
    simp only [step] at h ⊢
    split at h
    · split at h
      · rename_i L3 hx
        obtain ⟨L2, e1, e2⟩ := hw.putL hx
        cases h; exact ⟨L2, by simp only [e1], e2⟩
      · cases h
    · cases h
  case lstore n =>
    simp only [step] at h ⊢
    split at h
    · split at h
      · rename_i L3 hx
        obtain ⟨L2, e1, e2⟩ := hw.putL hx
        cases h; exact ⟨L2, by simp only [e1], e2⟩
      · cases h
    · cases h
  case iinc n c =>
    simp only [step] at h ⊢
    split at h
    · rename_i x hx
      rw [hw.loadI hx]
      split at h
      · rename_i L3 hp
        obtain ⟨L2, e1, e2⟩ := hw.put hp
        cases h; exact ⟨L2, by simp only [e1], e2⟩
      · cases h
    · cases h
  all_goals
    simp only [step, Bool.cond_eq_ite] at h ⊢
    repeat' (split at h)
  all_goals first
    | (cases h; done)
    | (simp only [Option.some.injEq, Prod.mk.injEq] at h; obtain ⟨rfl, rfl, rfl, rfl⟩ := h; refine ⟨L, ?_, hw⟩; first | rfl | (simp only [*, if_true, if_false]; done) | (simp [*]; done))
theorem run_weak : ∀ (n : Nat) {pc : Nat} {L L' : ALoc} {S : List Value} {H : AHeap} {out : Option Value × AHeap}, lw L L' → run P n k pc L' S H = some out → run P n k pc L S H = some out
  | 0, _, _, _, _, _, _, _, h => by simp [run] at h
  | n + 1, pc, L, L', S, H, out, hw, h => by
    rw [run] at h
    rw [run]
    split at h
    · cases h
    · rename_i i np hc
      try simp only [hc]
      split at h
      · rename_i v hv
        try simp only [hv]
        exact h
      · rename_i hv
        try simp only [hv]
        split at h
        · rename_i k' as rest hcall
          try simp only [hcall]
          split at h
          · rename_i v1 H1 h1
            try simp only [h1]
            exact run_weak n hw h
          · cases h
        · rename_i hcall
          try simp only [hcall]
          split at h
          · rename_i pc1 L1 S1 H1 h1
            obtain ⟨L2, e1, e2⟩ := step_weak hw h1
            simp only [e1]; exact run_weak n e2 h
          · cases h
theorem Eval.weak (hw : lw L L') (h : Eval P k pc L' S H out) : Eval P k pc L S H out := by
  obtain ⟨n, h⟩ := h
  exact ⟨n, run_weak n hw h⟩
end Rules
end Jvm.OwnX
namespace Jvm.OwnX
open Sem ClassFile Op Lib Jvm.Stand Jvm.Free Jvm.LawKit Jvm.RoadKit
/-! ## tables as lists -/
def findC : List (Nat × Instr × Nat) → Nat → Option (Instr × Nat)
  | [], _ => none
  | (q, x) :: r, pc => bif Nat.beq q pc then some x else findC r pc
abbrev CodeL := List (ByteArray × List (List (Nat × Instr × Nat)))
def codeAt (cs : CodeL) (k pc : Nat) : Option (Instr × Nat) := match cs[k]? with
  | some (_, ch) => (match ch[pc / 32]? with | some c => findC c pc | none => none)
  | none => none
def bcOf (cs : CodeL) (k : Nat) : ByteArray := match cs[k]? with | some (b, _) => b | none => ⟨#[]⟩
def okI (b : ByteArray) (e : Nat × Instr × Nat) : Bool := match decode b e.1 with
  | .ok (i, len) => decide (i = e.2.1) && Nat.beq (e.1 + len) e.2.2 && (Nat.beq (ilen i) 0 || Nat.beq len (ilen i))
  | _ => false
def okCs (cs : CodeL) : Bool := cs.all fun m => m.2.all fun c => c.all (okI m.1)
def tyCs (ty : ArrayType → Bool) (cs : CodeL) : Bool := cs.all fun m => m.2.all fun c => c.all fun e => match e.2.1 with | .newarray t => ty t | _ => true
theorem findC_mem : ∀ {l : List (Nat × Instr × Nat)} {pc : Nat} {x : Instr × Nat}, findC l pc = some x → (pc, x) ∈ l
  | [], pc, x, h => by cases h
  | (q, y) :: r, pc, x, h => by
    unfold findC at h
    cases hb : Nat.beq q pc
    · rw [hb] at h; exact List.mem_cons_of_mem _ (findC_mem h)
    · rw [hb] at h; cases h
      have : q = pc := Nat.eq_of_beq_eq_true hb
      subst this; exact List.mem_cons_self ..
theorem codeAt_mem {cs : CodeL} {k pc : Nat} {x : Instr × Nat} (h : codeAt cs k pc = some x) : ∃ m ∈ cs, bcOf cs k = m.1 ∧ ∃ c ∈ m.2, (pc, x) ∈ c := by
  unfold codeAt at h
  split at h
  · rename_i b ch hk
    split at h
    · rename_i c hc
      exact ⟨(b, ch), List.mem_of_getElem? hk, by simp [bcOf, hk], c, List.mem_of_getElem? hc, findC_mem h⟩
    · cases h
  · cases h
theorem code_ok {cs : CodeL} (h : okCs cs = true) {k pc : Nat} {i : Instr} {np : Nat} (hc : codeAt cs k pc = some (i, np)) : ∃ len, decode (bcOf cs k) pc = .ok (i, len) ∧ np = pc + len ∧ (ilen i = 0 ∨ len = ilen i) := by
  obtain ⟨m, h1, h2, c, h3, h4⟩ := codeAt_mem hc
  have q := List.all_eq_true.mp (List.all_eq_true.mp (List.all_eq_true.mp h m h1) c h3) _ h4
  unfold okI at q
  rw [h2]
  split at q
  · rename_i i' len hd
    simp only [Bool.and_eq_true, Bool.or_eq_true, decide_eq_true_eq] at q
    obtain ⟨⟨rfl, q2⟩, q3⟩ := q
    refine ⟨len, hd, (Nat.eq_of_beq_eq_true q2).symm, q3.elim (fun z => Or.inl (Nat.eq_of_beq_eq_true z)) fun z => Or.inr (Nat.eq_of_beq_eq_true z)⟩
  · cases q
theorem code_ty {ty : ArrayType → Bool} {cs : CodeL} (h : tyCs ty cs = true) {k pc : Nat} {t : ArrayType} {np : Nat} (hc : codeAt cs k pc = some (.newarray t, np)) : ty t = true := by
  obtain ⟨m, h1, h2, c, h3, h4⟩ := codeAt_mem hc
  exact List.all_eq_true.mp (List.all_eq_true.mp (List.all_eq_true.mp h m h1) c h3) _ h4
def lookT {α : Type} : List (Nat × Nat × α) → Nat → Nat → Option α
  | [], _, _ => none
  | (c', j', x) :: r, c, j => bif Nat.beq j' j && Nat.beq c' c then some x else lookT r c j
theorem lookT_mem {α : Type} : ∀ {l : List (Nat × Nat × α)} {c j : Nat} {x : α}, lookT l c j = some x → (c, j, x) ∈ l
  | [], c, j, x, h => by cases h
  | (c', j', y) :: r, c, j, x, h => by
    unfold lookT at h
    cases hb : (Nat.beq j' j && Nat.beq c' c)
    · rw [hb] at h; exact List.mem_cons_of_mem _ (lookT_mem h)
    · rw [hb] at h; cases h
      simp only [Bool.and_eq_true] at hb
      have h1 : j' = j := Nat.eq_of_beq_eq_true hb.1
      have h2 : c' = c := Nat.eq_of_beq_eq_true hb.2
      subst h1 h2; exact List.mem_cons_self ..
def AllP {α : Type} (p : α → Prop) : List α → Prop
  | [] => True
  | a :: r => p a ∧ AllP p r
theorem AllP.mem {α : Type} {p : α → Prop} : ∀ {l : List α}, AllP p l → ∀ a ∈ l, p a
  | [], _, a, h => nomatch h
  | _ :: _, ⟨h1, h2⟩, a, h => (List.mem_cons.mp h).elim (fun e => e ▸ h1) (AllP.mem h2 a)
def FldOk (P : Prog) (cn : Nat → String) (C : String) (Z : State) (a0 : Array Value) (e : Nat × Nat × Nat) : Prop := ∃ n d t fin, P.fields[e.2.2]? = some (n, d, t, fin) ∧ (Cond.fieldLink (cn e.1) e.2.1 C n d).before a0 Z = true
def FieldOk (C : String) (Z : State) (a0 : Array Value) (e : String × String × Nat × Bool) : Prop := (bif e.2.2.2 then (Cond.laysFinal C C e.1 e.2.1).before a0 Z else (Cond.lays C C e.1 e.2.1).before a0 Z) = true ∧ ∃ ty, parseFieldDescriptor e.2.1 = some ty ∧ tyOk e.2.2.1 ty = true ∧ defaultValue ty = dflt e.2.2.1
theorem good_of {cs : CodeL} {mi : Nat → MI} {links : List (Nat × Nat × Nat × Nat)} {flds : List (Nat × Nat × Nat)} {kons : List (Nat × Nat × Value)} {fields : List (String × String × Nat × Bool)} {objN ro cc cS : Nat} {nm : Nat → MethodName} {cn : Nat → String} {C : String} {Z : State} {a0 : Array Value} {ty : ArrayType → Bool} {P : Prog}
    (hP : P = (codeAt cs, mi, lookT links, lookT flds, lookT kons, fields, objN, ro, cc, cS)) (h1 : okCs cs = true) (h2 : AllP (FldOk P cn C Z a0) flds) (h3 : AllP (FieldOk C Z a0) fields) (h4 : (fields.map (·.1)).Nodup) (h5 : AllP (fun e => KonOk cn Z a0 e.1 e.2.1 e.2.2) kons)
    (h6 : (Cond.instantiable C objN).before a0 Z = true) (h7 : (Cond.initialized C).before a0 Z = true) (h8 : tyCs ty cs = true) (h8' : ∀ t, ty t = true → (Cond.arrayClass (newarray.typeOf t)).before a0 Z = true) (h9 : AllP (fun e => LinkOk P nm (bcOf cs) cn C Z a0 e.1 e.2.1 e.2.2.1 e.2.2.2) links) : Good P nm (bcOf cs) cn C Z a0 := by
  subst hP
  refine ⟨fun k pc i np h => code_ok h1 h, fun c j f h => h2.mem _ (lookT_mem h), fun f n d t fin h => h3.mem _ (List.mem_of_getElem? h), fun f g n d t fin n' d' t' fin' q1 q2 ne e => ?_, fun c j v h => h5.mem _ (lookT_mem h), h6, h7, fun k pc t np h => h8' _ (code_ty h8 h), fun c j q k h => h9.mem _ (lookT_mem h)⟩
  subst e
  have e1 : (fields.map (·.1))[f]? = some n := by rw [List.getElem?_map]; exact congrArg (Option.map (·.1)) q1
  have e2 : (fields.map (·.1))[g]? = some n := by rw [List.getElem?_map]; exact congrArg (Option.map (·.1)) q2
  exact ne ((List.getElem?_inj (List.getElem?_eq_some_iff.mp e1).1 h4).mp (e1.trans e2.symm))
/-! ## what the walks of functions use -/
theorem ite_some {α : Type} {c : Prop} [Decidable c] {a : Option α} {r : α} (h : (if c then a else none) = some r) : c ∧ a = some r := by
  by_cases hc : c
  · rw [if_pos hc] at h; exact ⟨hc, h⟩
  · rw [if_neg hc] at h; cases h
theorem ite_none {α : Type} {c : Prop} [Decidable c] {a : Option α} {r : α} (h : (if c then none else a) = some r) : ¬ c ∧ a = some r := by
  by_cases hc : c
  · rw [if_pos hc] at h; cases h
  · rw [if_neg hc] at h; exact ⟨hc, h⟩
theorem bind_some {α β : Type} {o : Option α} {f : α → Option β} {r : β} (h : o.bind f = some r) : ∃ a, o = some a ∧ f a = some r := Option.bind_eq_some_iff.mp h
section Calls
variable {P : Prog} {k pc np : Nat} {L L' : ALoc} {S S' : List Value} {H H1 : AHeap} {out : Option Value × AHeap} {i : Instr} {k' : Nat} {as rest : List Value}
theorem Eval.callI {x : Int32} (hc : P.code k pc = some (i, np)) (h2 : callV P k i S H = some (k', as, rest)) (he : Eval P k' 0 (entry P k' as) [] H (some (.int x), H1)) (h : Eval P k np L (.int x :: rest) H1 out) : Eval P k pc L S H out := Eval.call hc h2 he h
theorem Eval.callJ {x : Int64} (hc : P.code k pc = some (i, np)) (h2 : callV P k i S H = some (k', as, rest)) (he : Eval P k' 0 (entry P k' as) [] H (some (.long x), H1)) (h : Eval P k np L (.long x :: rest) H1 out) : Eval P k pc L S H out := Eval.call hc h2 he h
theorem Eval.callN (hc : P.code k pc = some (i, np)) (h2 : callV P k i S H = some (k', as, rest)) (he : Eval P k' 0 (entry P k' as) [] H (none, H1)) (h : Eval P k np L rest H1 out) : Eval P k pc L S H out := Eval.call hc h2 he h
theorem Eval.conv (h : Eval P k pc L S H out) (e1 : L = L') (e2 : S = S') : Eval P k pc L' S' H out := e1 ▸ e2 ▸ h
theorem Eval.heap {H' : AHeap} (e : H' = H) (h : Eval P k pc L S H' out) : Eval P k pc L S H out := e ▸ h
theorem Eval.retH {H' : AHeap} {v : Option Value} (e : H' = H) (hc : P.code k pc = some (i, np)) (h1 : retV P k i S = some v) : Eval P k pc L S H (v, H') := e ▸ Eval.ret hc h1
end Calls
end Jvm.OwnX
namespace Jvm.OwnX
open Sem ClassFile Op Lib Jvm.Stand Jvm.Free Jvm.LawKit Jvm.RoadKit
theorem HR.none (P : Prog) (C : String) (Z : State) (n0 : Nat) (h : Heap) : HR P C Z n0 [] [] h := ⟨rfl, fun i j a q => by simp at q, fun i a q => by simp at q, fun i c q => by simp at q⟩
def intOf : Value → Int32
  | .int x => x
  | _ => 0
theorem script_start {P : Prog} {C : String} {s : State} {a : Addr} {c : Cell} (hro : P.ro = 1) (hf : Fit s) (A : Arr s s.heap a c .int) : HR P C s s.heap.size [a] [.inr (.inl (0, c.slots.toList.map intOf))] s.heap := by
  have hlt := (Array.getElem?_eq_some_iff.mp A.1).1
  have hint : ∀ i (hi : i < c.slots.size), ∃ x, c.slots[i] = .int x := fun i hi => by
    have q := hf A.1 hi
    obtain ⟨hs, k, hk, comp, hkind⟩ := A.2.1
    have e : s.slotType? c.cls c.vm i = some .int := by
      cases hq : c.vm <;> first | exact absurd hq (hs _) | simp [State.slotType?, hk, hkind]
    have q2 : fits .int c.slots[i] = true := by simpa [State.fitsSlot, e] using q
    exact fit_I q2 (Or.inl rfl)
  refine ⟨rfl, fun i j x q1 q2 => ?_, fun i x q => ?_, fun i d q => ?_⟩
  · cases i with
    | zero => cases j with
      | zero => rfl
      | succ j => simp at q2
    | succ i => simp at q1
  · cases i with
    | zero => simp at q; subst q; exact ⟨hlt, fun h => by rw [hro] at h; omega⟩
    | succ i => simp at q
  · cases i with
    | zero =>
      simp at q; subst q
      refine ⟨a, rfl, c, A, by simp, fun j x hx => ?_⟩
      rw [List.getElem?_map] at hx
      obtain ⟨v, hv, rfl⟩ := Option.map_eq_some_iff.mp hx
      rw [Array.getElem?_toList] at hv
      obtain ⟨hj, rfl⟩ := Array.getElem?_eq_some_iff.mp hv
      obtain ⟨x, e⟩ := hint j hj
      rw [Array.getElem?_eq_getElem hj, e]; rfl
    | succ i => simp at q
end Jvm.OwnX
namespace Jvm.OwnX
/-! ## plain facts on the functions' words -/
theorem len_wr (xs : List Int32) (j v : Int32) : (wr xs j v).length = xs.length := by simp [wr]
theorem len_wrL (xs : List Int64) (j : Int32) (v : Int64) : (wrL xs j v).length = xs.length := by simp [wrL]
theorem rd_wr_same {xs : List Int32} {j : Int32} (h : inb xs.length j = true) (v : Int32) : rd (wr xs j v) j = v := by
  have := inb_lt h
  simp [rd, wr, List.getD_eq_getElem?_getD, this]
theorem rdL_wrL_same {xs : List Int64} {j : Int32} (h : inb xs.length j = true) (v : Int64) : rdL (wrL xs j v) j = v := by
  have := inb_lt h
  simp [rdL, wrL, List.getD_eq_getElem?_getD, this]
theorem nat_inj {i j : Int32} (hi : ¬ i < 0) (hj : ¬ j < 0) (h : i.toNatClampNeg = j.toNatClampNeg) : i = j := by
  apply Int32.toInt_inj.mp
  simp only [Int32.lt_iff_toInt_lt, Int32.toNatClampNeg, Int32.reduceToInt] at hi hj h; omega
theorem inb_nn {n : Nat} {j : Int32} (h : inb n j = true) : ¬ j < 0 := fun q => inb_spec h (Or.inl q)
theorem rd_wr_ne {xs : List Int32} {i j : Int32} (hi : ¬ i < 0) (hj : ¬ j < 0) (h : i ≠ j) (v : Int32) : rd (wr xs i v) j = rd xs j := by
  have : i.toNatClampNeg ≠ j.toNatClampNeg := fun q => h (nat_inj hi hj q)
  simp [rd, wr, List.getD_eq_getElem?_getD, List.getElem?_set_ne this]
theorem rdL_wrL_ne {xs : List Int64} {i j : Int32} (hi : ¬ i < 0) (hj : ¬ j < 0) (h : i ≠ j) (v : Int64) : rdL (wrL xs i v) j = rdL xs j := by
  have : i.toNatClampNeg ≠ j.toNatClampNeg := fun q => h (nat_inj hi hj q)
  simp [rdL, wrL, List.getD_eq_getElem?_getD, List.getElem?_set_ne this]
theorem rd_rep (n : Nat) (j : Int32) : rd (List.replicate n 0) j = 0 := by
  simp only [rd, List.getD_eq_getElem?_getD, List.getElem?_replicate]; split <;> rfl
theorem rdL_rep (n : Nat) (j : Int32) : rdL (List.replicate n 0) j = 0 := by
  simp only [rdL, List.getD_eq_getElem?_getD, List.getElem?_replicate]; split <;> rfl
theorem inb_iff {n : Nat} {j : Int32} : inb n j = true ↔ 0 ≤ j.toInt ∧ j.toInt < n := by
  simp only [inb, Bool.and_eq_true, Bool.not_eq_true', decide_eq_false_iff_not, Int32.lt_iff_toInt_lt, Int32.reduceToInt]
  constructor
  · rintro ⟨h1, h2⟩
    have h3 := Nat.le_of_ble_eq_true h2
    simp only [Int32.toNatClampNeg] at h3
    omega
  · rintro ⟨h1, h2⟩
    refine ⟨by omega, Nat.ble_eq_true_of_le ?_⟩
    simp only [Int32.toNatClampNeg]; omega
theorem lt32 {x y : Int32} : x < y ↔ x.toInt < y.toInt := Int32.lt_iff_toInt_lt
theorem eq32 {x y : Int32} : x = y ↔ x.toInt = y.toInt := Int32.toInt_inj.symm
end Jvm.OwnX
namespace Jvm.Pilot.@@N@@
open Jvm Jvm.ClassFile Sem Op Lib Jvm.Free Jvm.Stand Jvm.LawKit Jvm.RoadKit Bundle Jvm.Pilot.@@N@@.Jvm.D Jvm.OwnX
/-! # tables (printed by gen.py out of the claim's listing and sheet) -/
set_option maxHeartbeats 4000000 in
set_option maxRecDepth 100000 in
def own_cs : CodeL := [
  (code, [
    [(0, .new 8, 3), (3, .dup, 4), (4, .iconst 2, 5), (5, .iconst 4, 6), (6, .bipush 8, 8), (8, .invokespecial 13, 11), (11, .astore_n 1, 12), (12, .iconst 0, 13), (13, .istore_n 2, 14), (14, .iconst 0, 15), (15, .istore_n 3, 16), (16, .iconst 0, 17), (17, .istore 4, 19), (19, .iconst 0, 20), (20, .istore 5, 22), (22, .iconst 0, 23), (23, .istore 6, 25), (25, .iconst 0, 26), (26, .istore 7, 28), (28, .iconst 0, 29), (29, .istore 8, 31), (31, .iconst 0, 32)],
    [(32, .istore 9, 34), (34, .iload 9, 36), (36, .iconst 3, 37), (37, .iadd, 38), (38, .aload_n 0, 39), (39, .arraylength, 40), (40, .if_icmp .ge 887, 43), (43, .aload_n 0, 44), (44, .iload 9, 46), (46, .iaload, 47), (47, .bipush 7, 49), (49, .iand, 50), (50, .istore 10, 52), (52, .aload_n 0, 53), (53, .iload 9, 55), (55, .iconst 1, 56), (56, .iadd, 57), (57, .iaload, 58), (58, .ldc 16, 60), (60, .iand, 61), (61, .istore 11, 63), (63, .aload_n 0, 64)],
    [(64, .iload 9, 66), (66, .iconst 2, 67), (67, .iadd, 68), (68, .iaload, 69), (69, .ldc 16, 71), (71, .iand, 72), (72, .istore 12, 74), (74, .aload_n 0, 75), (75, .iload 9, 77), (77, .iconst 3, 78), (78, .iadd, 79), (79, .iaload, 80), (80, .ldc 16, 82), (82, .iand, 83), (83, .istore 13, 85), (85, .iload 10, 87), (87, .ifCond .ne 137, 90), (90, .iload 11, 92), (92, .bipush 7, 94), (94, .iand, 95), (95, .istore 14, 97)],
    [(97, .iload 12, 99), (99, .sipush 255, 102), (102, .iand, 103), (103, .istore 15, 105), (105, .iload 13, 107), (107, .sipush 255, 110), (110, .iand, 111), (111, .istore 16, 113), (113, .iload 13, 115), (115, .bipush 8, 117), (117, .ishr, 118), (118, .iconst 3, 119), (119, .iand, 120), (120, .istore 17, 122), (122, .aload_n 1, 123), (123, .iload 14, 125), (125, .iload 15, 127), (127, .iload 16, 129)],
    [(129, .iload 17, 131), (131, .invokevirtual 17, 134), (134, .istore 18, 136), (136, .iload 14, 138), (138, .ifCond .eq 10, 141), (141, .iload 14, 143), (143, .bipush 7, 145), (145, .if_icmp .ne 12, 148), (148, .iload 18, 150), (150, .bipush (-3), 152), (152, .if_icmp .eq 5, 155), (155, .iconst 0, 156), (156, .ireturn, 157), (157, .iload 18, 159), (159, .ifCond .lt 62, 162)],
    [(162, .iload 14, 164), (164, .iload 15, 166), (166, .iconst 4, 167), (167, .ishl, 168), (168, .ior, 169), (169, .istore 19, 171), (171, .iload 14, 173), (173, .bipush 6, 175), (175, .if_icmp .ne 19, 178), (178, .iload 19, 180), (180, .iload 16, 182), (182, .bipush 12, 184), (184, .ishl, 185), (185, .ior, 186), (186, .iload 17, 188), (188, .bipush 20, 190), (190, .ishl, 191), (191, .ior, 192)],
    [(192, .istore 19, 194), (194, .iload 18, 196), (196, .iload_n 2, 197), (197, .if_icmp .ne 19, 200), (200, .iload_n 2, 201), (201, .iconst 4, 202), (202, .if_icmp .ge 14, 205), (205, .aload_n 1, 206), (206, .iload 18, 208), (208, .invokevirtual 21, 211), (211, .iload 19, 213), (213, .if_icmp .eq 5, 216), (216, .iconst 0, 217), (217, .ireturn, 218), (218, .iinc 2 1, 221), (221, .goto 554, 224)],
    [(224, .iload 10, 226), (226, .iconst 1, 227), (227, .if_icmp .ne 12, 230), (230, .aload_n 1, 231), (231, .invokevirtual 24, 234), (234, .iconst 0, 235), (235, .istore_n 2, 236), (236, .goto 539, 239), (239, .iload 10, 241), (241, .iconst 2, 242), (242, .if_icmp .ne 141, 245), (245, .iload 11, 247), (247, .bipush 15, 249), (249, .iand, 250), (250, .bipush 15, 252), (252, .if_icmp .ne 7, 255), (255, .iconst 2, 256)],
    [(256, .goto 7, 259), (259, .iload 11, 261), (261, .iconst 1, 262), (262, .iand, 263), (263, .istore 14, 265), (265, .iload 12, 267), (267, .bipush 7, 269), (269, .iand, 270), (270, .iconst 5, 271), (271, .irem, 272), (272, .istore 15, 274), (274, .aload_n 1, 275), (275, .iload 14, 277), (277, .iload 15, 279), (279, .iload 13, 281), (281, .invokevirtual 27, 284), (284, .istore 16, 286), (286, .iload_n 3, 287), (287, .istore 17, 289)],
    [(289, .iload 14, 291), (291, .iconst 2, 292), (292, .if_icmp .ne 10, 295), (295, .bipush (-8), 297), (297, .istore 17, 299), (299, .goto 26, 302), (302, .iload 15, 304), (304, .iconst 1, 305), (305, .if_icmp .ge 10, 308), (308, .bipush (-9), 310), (310, .istore 17, 312), (312, .goto 13, 315), (315, .iload_n 3, 316), (316, .bipush 8, 318), (318, .if_icmp .ne 7, 321)],
    [(321, .bipush (-6), 323), (323, .istore 17, 325), (325, .iload 16, 327), (327, .iload 17, 329), (329, .if_icmp .eq 5, 332), (332, .iconst 0, 333), (333, .ireturn, 334), (334, .iload 16, 336), (336, .ifCond .lt 44, 339), (339, .iload 13, 341), (341, .iconst 1, 342), (342, .iconst 2, 343), (343, .iload 15, 345), (345, .imul, 346), (346, .ishl, 347), (347, .iconst 1, 348), (348, .isub, 349), (349, .iand, 350), (350, .istore 18, 352)],
    [(352, .aload_n 1, 353), (353, .iload 16, 355), (355, .invokevirtual 31, 358), (358, .iload 14, 360), (360, .bipush 16, 362), (362, .ishl, 363), (363, .iload 15, 365), (365, .bipush 8, 367), (367, .ishl, 368), (368, .ior, 369), (369, .iload 18, 371), (371, .ior, 372), (372, .if_icmp .eq 5, 375), (375, .iconst 0, 376), (376, .ireturn, 377), (377, .iinc 3 1, 380), (380, .goto 395, 383), (383, .iload 10, 385)],
    [(385, .iconst 3, 386), (386, .if_icmp .ne 63, 389), (389, .iload 11, 391), (391, .iconst 5, 392), (392, .irem, 393), (393, .istore 14, 395), (395, .aload_n 1, 396), (396, .iload 14, 398), (398, .invokevirtual 34, 401), (401, .iload 14, 403), (403, .iconst 3, 404), (404, .if_icmp .gt 7, 407), (407, .iconst 1, 408), (408, .goto 4, 411), (411, .iconst 0, 412), (412, .if_icmp .eq 5, 415), (415, .iconst 0, 416)],
    [(416, .ireturn, 417), (417, .iload 14, 419), (419, .ifCond .ne 8, 422), (422, .iconst 0, 423), (423, .istore_n 3, 424), (424, .goto 22, 427), (427, .iload 14, 429), (429, .iconst 3, 430), (430, .if_icmp .gt 16, 433), (433, .iload 14, 435), (435, .iconst 1, 436), (436, .if_icmp .ne 7, 439), (439, .iconst 3, 440), (440, .goto 5, 443), (443, .bipush 6, 445), (445, .istore_n 3, 446), (446, .goto 329, 449)],
    [(449, .iload 10, 451), (451, .iconst 4, 452), (452, .if_icmp .ne 96, 455), (455, .aload_n 1, 456), (456, .invokevirtual 38, 459), (459, .istore 14, 461), (461, .iload_n 3, 462), (462, .ifCond .ne 12, 465), (465, .iload 14, 467), (467, .bipush (-10), 469), (469, .if_icmp .eq 76, 472), (472, .iconst 0, 473), (473, .ireturn, 474), (474, .iload 14, 476), (476, .ifCond .lt 11, 479), (479, .iload 14, 481)],
    [(481, .sipush 8192, 484), (484, .if_icmp .le 5, 487), (487, .iconst 0, 488), (488, .ireturn, 489), (489, .aload_n 1, 490), (490, .invokevirtual 42, 493), (493, .istore 7, 495), (495, .iload 14, 497), (497, .ifCond .ne 7, 500), (500, .iconst 1, 501), (501, .goto 4, 504), (504, .iconst 0, 505), (505, .iload 7, 507), (507, .ifCond .ne 7, 510), (510, .iconst 1, 511), (511, .goto 4, 514)],
    [(514, .iconst 0, 515), (515, .if_icmp .eq 5, 518), (518, .iconst 0, 519), (519, .ireturn, 520), (520, .iload 14, 522), (522, .bipush 8, 524), (524, .if_icmp .ge 8, 527), (527, .iload 14, 529), (529, .goto 5, 532), (532, .bipush 8, 534), (534, .istore 5, 536), (536, .aload_n 1, 537), (537, .invokevirtual 45, 540), (540, .istore 6, 542), (542, .iconst 0, 543), (543, .istore 8, 545)],
    [(545, .goto 230, 548), (548, .iload 10, 550), (550, .iconst 5, 551), (551, .if_icmp .ne 51, 554), (554, .aload_n 1, 555), (555, .invokevirtual 48, 558), (558, .istore 14, 560), (560, .iload 14, 562), (562, .ifCond .lt 28, 565), (565, .iload 8, 567), (567, .ifCond .eq 10, 570), (570, .iload 14, 572), (572, .ifCond .eq 5, 575), (575, .iconst 0, 576)],
    [(576, .ireturn, 577), (577, .iload 4, 579), (579, .iload 14, 581), (581, .iadd, 582), (582, .istore 4, 584), (584, .iconst 1, 585), (585, .istore 8, 587), (587, .goto 12, 590), (590, .iload 14, 592), (592, .bipush (-11), 594), (594, .if_icmp .eq 5, 597), (597, .iconst 0, 598), (598, .ireturn, 599), (599, .goto 176, 602), (602, .iload 10, 604), (604, .bipush 6, 606), (606, .if_icmp .ne 95, 609)],
    [(609, .iload 11, 611), (611, .sipush 260, 614), (614, .irem, 615), (615, .istore 14, 617), (617, .iload 12, 619), (619, .iconst 3, 620), (620, .irem, 621), (621, .istore 15, 623), (623, .aload_n 1, 624), (624, .iload 14, 626), (626, .iload 15, 628), (628, .invokevirtual 51, 631), (631, .istore 16, 633), (633, .iload 14, 635), (635, .sipush 255, 638), (638, .if_icmp .le 7, 641)],
    [(641, .iconst (-1), 642), (642, .goto 15, 645), (645, .iload 15, 647), (647, .iconst 2, 648), (648, .if_icmp .ne 8, 651), (651, .bipush (-2), 653), (653, .goto 4, 656), (656, .iconst 0, 657), (657, .istore 17, 659), (659, .iload 16, 661), (661, .iload 17, 663), (663, .if_icmp .eq 5, 666), (666, .iconst 0, 667), (667, .ireturn, 668), (668, .iload 16, 670), (670, .ifCond .ne 28, 673)],
    [(673, .iload_n 2, 674), (674, .ifCond .ne 24, 677), (677, .aload_n 1, 678), (678, .iload 14, 680), (680, .invokestatic 55, 683), (683, .istore 18, 685), (685, .aload_n 1, 686), (686, .iload 18, 688), (688, .invokevirtual 61, 691), (691, .iload 15, 693), (693, .if_icmp .eq 5, 696), (696, .iconst 0, 697), (697, .ireturn, 698), (698, .goto 77, 701), (701, .iload 11, 703), (703, .sipush 260, 706)],
    [(706, .irem, 707), (707, .istore 14, 709), (709, .aload_n 1, 710), (710, .iload 14, 712), (712, .invokevirtual 64, 715), (715, .istore 15, 717), (717, .iload 14, 719), (719, .sipush 255, 722), (722, .if_icmp .le 11, 725), (725, .iload 15, 727), (727, .iconst (-1), 728), (728, .if_icmp .eq 47, 731), (731, .iconst 0, 732), (732, .ireturn, 733), (733, .iload 15, 735), (735, .ifCond .eq 11, 738)],
    [(738, .iload 15, 740), (740, .iconst 1, 741), (741, .if_icmp .eq 5, 744), (744, .iconst 0, 745), (745, .ireturn, 746), (746, .iload 15, 748), (748, .istore 6, 750), (750, .iload_n 2, 751), (751, .ifCond .ne 24, 754), (754, .aload_n 1, 755), (755, .iload 14, 757), (757, .invokestatic 55, 760), (760, .istore 16, 762), (762, .aload_n 1, 763), (763, .iload 16, 765), (765, .invokevirtual 61, 768)],
    [(768, .iload 15, 770), (770, .if_icmp .eq 5, 773), (773, .iconst 0, 774), (774, .ireturn, 775), (775, .aload_n 1, 776), (776, .invokevirtual 45, 779), (779, .iload 6, 781), (781, .if_icmp .ne 12, 784), (784, .aload_n 1, 785), (785, .invokevirtual 42, 788), (788, .iload 7, 790), (790, .if_icmp .eq 5, 793), (793, .iconst 0, 794), (794, .ireturn, 795), (795, .aload_n 1, 796), (796, .iload_n 2, 797), (797, .invokevirtual 21, 800)],
    [(800, .iconst (-1), 801), (801, .if_icmp .ne 18, 804), (804, .iload_n 2, 805), (805, .ifCond .le 16, 808), (808, .aload_n 1, 809), (809, .iload_n 2, 810), (810, .iconst 1, 811), (811, .isub, 812), (812, .invokevirtual 21, 815), (815, .iconst (-1), 816), (816, .if_icmp .ne 5, 819), (819, .iconst 0, 820), (820, .ireturn, 821), (821, .aload_n 1, 822), (822, .iload_n 3, 823), (823, .invokevirtual 31, 826), (826, .iconst (-1), 827), (827, .if_icmp .ne 18, 830), (830, .iload_n 3, 831), (831, .ifCond .le 16, 834)],
    [(834, .aload_n 1, 835), (835, .iload_n 3, 836), (836, .iconst 1, 837), (837, .isub, 838), (838, .invokevirtual 31, 841), (841, .iconst (-1), 842), (842, .if_icmp .ne 5, 845), (845, .iconst 0, 846), (846, .ireturn, 847), (847, .aload_n 1, 848), (848, .iload 5, 850), (850, .invokevirtual 67, 853), (853, .iconst (-1), 854), (854, .if_icmp .ne 19, 857), (857, .iload 5, 859), (859, .ifCond .le 16, 862), (862, .aload_n 1, 863), (863, .iload 5, 865)],
    [(865, .iconst 1, 866), (866, .isub, 867), (867, .invokevirtual 67, 870), (870, .ifCond .ge 5, 873), (873, .iconst 0, 874), (874, .ireturn, 875), (875, .iconst 0, 876), (876, .istore 14, 878), (878, .iconst 0, 879), (879, .istore 15, 881), (881, .iload 15, 883), (883, .bipush 16, 885), (885, .if_icmp .ge 21, 888), (888, .aload_n 1, 889), (889, .iload 15, 891), (891, .invokevirtual 7, 894), (894, .ifCond .lt 6, 897)],
    [(897, .iinc 14 1, 900), (900, .iinc 15 1, 903), (903, .goto (-22), 906), (906, .iload 14, 908), (908, .iload 4, 910), (910, .if_icmp .ne 9, 913), (913, .iload 4, 915), (915, .iconst 2, 916), (916, .if_icmp .le 5, 919), (919, .iconst 0, 920), (920, .ireturn, 921), (921, .iinc 9 4, 924), (924, .goto (-890), 927), (927, .iconst 1, 928)],
    [(928, .ireturn, 929)]]),
  (prog_1_method_1_code, [
    [(0, .aload_n 0, 1), (1, .invokespecial 1, 4), (4, .aload_n 0, 5), (5, .sipush 320, 8), (8, .newarray .byte, 10), (10, .putfield 7, 13), (13, .aload_n 0, 14), (14, .bipush 16, 16), (16, .newarray .int, 18), (18, .putfield 13, 21), (21, .aload_n 0, 22), (22, .bipush 16, 24), (24, .newarray .int, 26), (26, .putfield 17, 29), (29, .aload_n 0, 30), (30, .bipush 16, 32)],
    [(32, .newarray .int, 34), (34, .putfield 20, 37), (37, .aload_n 0, 38), (38, .bipush 16, 40), (40, .newarray .int, 42), (42, .putfield 23, 45), (45, .aload_n 0, 46), (46, .sipush 256, 49), (49, .newarray .int, 51), (51, .putfield 26, 54), (54, .aload_n 0, 55), (55, .sipush 256, 58), (58, .newarray .int, 60), (60, .putfield 29, 63), (63, .aload_n 0, 64)],
    [(64, .bipush 8, 66), (66, .newarray .int, 68), (68, .putfield 32, 71), (71, .aload_n 0, 72), (72, .bipush 8, 74), (74, .newarray .int, 76), (76, .putfield 35, 79), (79, .aload_n 0, 80), (80, .bipush 8, 82), (82, .newarray .int, 84), (84, .putfield 38, 87), (87, .aload_n 0, 88), (88, .bipush 32, 90), (90, .newarray .int, 92), (92, .putfield 41, 95), (95, .aload_n 0, 96)],
    [(96, .bipush 16, 98), (98, .newarray .int, 100), (100, .putfield 44, 103), (103, .aload_n 0, 104), (104, .iconst 4, 105), (105, .newarray .boolean, 107), (107, .putfield 47, 110), (110, .aload_n 0, 111), (111, .aload_n 0, 112), (112, .iload_n 1, 113), (113, .iconst 0, 114), (114, .iconst 4, 115), (115, .invokevirtual 51, 118), (118, .putfield 55, 121), (121, .aload_n 0, 122), (122, .aload_n 0, 123), (123, .iload_n 2, 124), (124, .iconst 1, 125), (125, .bipush 16, 127), (127, .invokevirtual 51, 130)],
    [(130, .putfield 59, 133), (133, .aload_n 0, 134), (134, .aload_n 0, 135), (135, .iload_n 3, 136), (136, .iconst 1, 137), (137, .bipush 32, 139), (139, .invokevirtual 51, 142), (142, .putfield 62, 145), (145, .iconst 0, 146), (146, .istore 4, 148), (148, .iload 4, 150), (150, .bipush 16, 152), (152, .if_icmp .ge 17, 155), (155, .aload_n 0, 156), (156, .getfield 44, 159), (159, .iload 4, 161)],
    [(161, .iconst (-1), 162), (162, .iastore, 163), (163, .iinc 4 1, 166), (166, .goto (-18), 169), (169, .aload_n 0, 170), (170, .iconst 0, 171), (171, .putfield 65, 174), (174, .aload_n 0, 175), (175, .iconst 0, 176), (176, .putfield 68, 179), (179, .aload_n 0, 180), (180, .iconst 0, 181), (181, .putfield 71, 184), (184, .aload_n 0, 185), (185, .iconst 0, 186), (186, .putfield 74, 189), (189, .aload_n 0, 190), (190, .iconst 0, 191), (191, .putfield 77, 194)],
    [(194, .return_, 195)]]),
  (prog_1_method_58_code, [
    [(0, .iload_n 1, 1), (1, .iload_n 2, 2), (2, .if_icmp .ge 5, 5), (5, .iload_n 2, 6), (6, .ireturn, 7), (7, .iload_n 1, 8), (8, .iload_n 3, 9), (9, .if_icmp .le 5, 12), (12, .iload_n 3, 13), (13, .ireturn, 14), (14, .iload_n 1, 15), (15, .ireturn, 16)]]),
  (prog_1_method_15_code, [
    [(0, .iload_n 1, 1), (1, .ifCond .lt 8, 4), (4, .iload_n 1, 5), (5, .iconst 3, 6), (6, .if_icmp .le 5, 9), (9, .iconst 0, 10), (10, .ireturn, 11), (11, .aload_n 0, 12), (12, .invokevirtual 115, 15), (15, .iload_n 1, 16), (16, .iconst 1, 17), (17, .if_icmp .ne 10, 20), (20, .aload_n 0, 21), (21, .invokevirtual 118, 24), (24, .goto 24, 27), (27, .iload_n 1, 28), (28, .iconst 2, 29), (29, .if_icmp .ne 10, 32)],
    [(32, .aload_n 0, 33), (33, .invokevirtual 121, 36), (36, .goto 12, 39), (39, .iload_n 1, 40), (40, .iconst 3, 41), (41, .if_icmp .ne 7, 44), (44, .aload_n 0, 45), (45, .invokevirtual 124, 48), (48, .iconst 1, 49), (49, .ireturn, 50)]]),
  (prog_1_method_18_code, [
    [(0, .iconst 0, 1), (1, .istore_n 1, 2), (2, .iload_n 1, 3), (3, .bipush 8, 5), (5, .if_icmp .ge 30, 8), (8, .aload_n 0, 9), (9, .getfield 32, 12), (12, .iload_n 1, 13), (13, .iconst 0, 14), (14, .iastore, 15), (15, .aload_n 0, 16), (16, .getfield 35, 19), (19, .iload_n 1, 20), (20, .iconst 0, 21), (21, .iastore, 22), (22, .aload_n 0, 23), (23, .getfield 38, 26), (26, .iload_n 1, 27), (27, .iconst 0, 28), (28, .iastore, 29), (29, .iinc 1 1, 32)],
    [(32, .goto (-30), 35), (35, .aload_n 0, 36), (36, .iconst 0, 37), (37, .putfield 71, 40), (40, .return_, 41)]]),
  (prog_1_method_21_code, [
    [(0, .aload_n 0, 1), (1, .iconst 0, 2), (2, .iconst 1, 3), (3, .iconst 2, 4), (4, .iconst 0, 5), (5, .iconst 0, 6), (6, .invokevirtual 134, 9), (9, .aload_n 0, 10), (10, .iconst 0, 11), (11, .iconst 2, 12), (12, .iconst 0, 13), (13, .iconst 3, 14), (14, .iconst 0, 15), (15, .invokevirtual 134, 18), (18, .aload_n 0, 19), (19, .iconst 0, 20), (20, .iconst 2, 21), (21, .iconst 1, 22), (22, .iconst 2, 23), (23, .iconst 0, 24), (24, .invokevirtual 134, 27), (27, .aload_n 0, 28), (28, .iconst 1, 29), (29, .iconst 2, 30), (30, .iconst 0, 31), (31, .iconst 3, 32)],
    [(32, .iconst 0, 33), (33, .invokevirtual 134, 36), (36, .aload_n 0, 37), (37, .iconst 1, 38), (38, .iconst 2, 39), (39, .iconst 1, 40), (40, .iconst 2, 41), (41, .iconst 0, 42), (42, .invokevirtual 134, 45), (45, .aload_n 0, 46), (46, .iconst 0, 47), (47, .iconst 1, 48), (48, .iconst 0, 49), (49, .iconst 0, 50), (50, .iconst 0, 51), (51, .invokevirtual 134, 54), (54, .return_, 55)]]),
  (prog_1_method_19_code, [
    [(0, .iload_n 3, 1), (1, .iconst 3, 2), (2, .iand, 3), (3, .istore 6, 5), (5, .iload 6, 7), (7, .iload 4, 9), (9, .iconst 3, 10), (10, .iand, 11), (11, .iconst 2, 12), (12, .ishl, 13), (13, .ior, 14), (14, .istore 6, 16), (16, .iload 6, 18), (18, .iload 5, 20), (20, .iconst 3, 21), (21, .iand, 22), (22, .iconst 4, 23), (23, .ishl, 24), (24, .ior, 25), (25, .istore 6, 27), (27, .aload_n 0, 28), (28, .iload_n 1, 29), (29, .iload_n 2, 30), (30, .iload 6, 32)],
    [(32, .invokevirtual 112, 35), (35, .pop, 36), (36, .return_, 37)]]),
  (prog_1_method_17_code, [
    [(0, .aload_n 0, 1), (1, .getfield 71, 4), (4, .istore 4, 6), (6, .iload 4, 8), (8, .ifCond .lt 10, 11), (11, .iload 4, 13), (13, .bipush 8, 15), (15, .if_icmp .lt 6, 18), (18, .bipush (-6), 20), (20, .ireturn, 21), (21, .aload_n 0, 22), (22, .getfield 32, 25), (25, .iload 4, 27), (27, .iload_n 1, 28), (28, .iastore, 29), (29, .aload_n 0, 30), (30, .getfield 35, 33)],
    [(33, .iload 4, 35), (35, .iload_n 2, 36), (36, .iastore, 37), (37, .aload_n 0, 38), (38, .getfield 38, 41), (41, .iload 4, 43), (43, .iload_n 3, 44), (44, .aload_n 0, 45), (45, .iload_n 2, 46), (46, .invokevirtual 130, 49), (49, .iand, 50), (50, .iastore, 51), (51, .aload_n 0, 52), (52, .iload 4, 54), (54, .iconst 1, 55), (55, .iadd, 56), (56, .putfield 71, 59), (59, .iload 4, 61), (61, .ireturn, 62)]]),
  (prog_1_method_25_code, [
    [(0, .iload_n 1, 1), (1, .iconst 1, 2), (2, .if_icmp .ge 5, 5), (5, .iconst 0, 6), (6, .ireturn, 7), (7, .iload_n 1, 8), (8, .iconst 4, 9), (9, .if_icmp .le 7, 12), (12, .sipush 255, 15), (15, .ireturn, 16), (16, .iconst 1, 17), (17, .iconst 2, 18), (18, .iload_n 1, 19), (19, .imul, 20), (20, .ishl, 21), (21, .iconst 1, 22), (22, .isub, 23), (23, .ireturn, 24)]]),
  (prog_1_method_46_code, [
    [(0, .aload_n 0, 1), (1, .getfield 65, 4), (4, .ireturn, 5)]]),
  (prog_1_method_29_code, [
    [(0, .aload_n 0, 1), (1, .getfield 77, 4), (4, .ireturn, 5)]]),
  (prog_1_method_4_code, [
    [(0, .aload_n 0, 1), (1, .iload_n 1, 2), (2, .invokevirtual 90, 5), (5, .ifCond .ne 5, 8), (8, .iconst (-1), 9), (9, .ireturn, 10), (10, .aload_n 0, 11), (11, .getfield 13, 14), (14, .iload_n 1, 15), (15, .iaload, 16), (16, .istore_n 2, 17), (17, .iload_n 2, 18), (18, .aload_n 0, 19), (19, .getfield 17, 22), (22, .iload_n 1, 23), (23, .iaload, 24), (24, .iconst 4, 25), (25, .ishl, 26), (26, .ior, 27), (27, .istore_n 2, 28), (28, .iload_n 2, 29), (29, .aload_n 0, 30), (30, .getfield 20, 33)],
    [(33, .iload_n 1, 34), (34, .iaload, 35), (35, .bipush 12, 37), (37, .ishl, 38), (38, .ior, 39), (39, .istore_n 2, 40), (40, .iload_n 2, 41), (41, .aload_n 0, 42), (42, .getfield 23, 45), (45, .iload_n 1, 46), (46, .iaload, 47), (47, .bipush 20, 49), (49, .ishl, 50), (50, .ior, 51), (51, .istore_n 2, 52), (52, .iload_n 2, 53), (53, .ireturn, 54)]]),
  (prog_1_method_10_code, [
    [(0, .iload_n 1, 1), (1, .ifCond .lt 21, 4), (4, .iload_n 1, 5), (5, .aload_n 0, 6), (6, .getfield 68, 9), (9, .if_icmp .ge 13, 12), (12, .iload_n 1, 13), (13, .bipush 16, 15), (15, .if_icmp .ge 7, 18), (18, .iconst 1, 19), (19, .goto 4, 22), (22, .iconst 0, 23), (23, .ireturn, 24)]]),
  (prog_1_method_16_code, [
    [(0, .aload_n 0, 1), (1, .iload_n 1, 2), (2, .invokevirtual 127, 5), (5, .ifCond .ne 5, 8), (8, .iconst (-1), 9), (9, .ireturn, 10), (10, .aload_n 0, 11), (11, .getfield 32, 14), (14, .iload_n 1, 15), (15, .iaload, 16), (16, .bipush 16, 18), (18, .ishl, 19), (19, .istore_n 2, 20), (20, .iload_n 2, 21), (21, .aload_n 0, 22), (22, .getfield 35, 25), (25, .iload_n 1, 26), (26, .iaload, 27), (27, .bipush 8, 29), (29, .ishl, 30), (30, .ior, 31), (31, .istore_n 2, 32)],
    [(32, .iload_n 2, 33), (33, .aload_n 0, 34), (34, .getfield 38, 37), (37, .iload_n 1, 38), (38, .iaload, 39), (39, .ior, 40), (40, .istore_n 2, 41), (41, .iload_n 2, 42), (42, .ireturn, 43)]]),
  (prog_1_method_24_code, [
    [(0, .iload_n 1, 1), (1, .ifCond .lt 21, 4), (4, .iload_n 1, 5), (5, .aload_n 0, 6), (6, .getfield 71, 9), (9, .if_icmp .ge 13, 12), (12, .iload_n 1, 13), (13, .bipush 8, 15), (15, .if_icmp .ge 7, 18), (18, .iconst 1, 19), (19, .goto 4, 22), (22, .iconst 0, 23), (23, .ireturn, 24)]]),
  (prog_1_method_30_code, [
    [(0, .iload_n 1, 1), (1, .ifCond .lt 17, 4), (4, .iload_n 1, 5), (5, .aload_n 0, 6), (6, .getfield 74, 9), (9, .if_icmp .ge 9, 12), (12, .iload_n 1, 13), (13, .bipush 32, 15), (15, .if_icmp .lt 5, 18), (18, .iconst (-1), 19), (19, .ireturn, 20), (20, .aload_n 0, 21), (21, .getfield 41, 24), (24, .iload_n 1, 25), (25, .iaload, 26), (26, .ireturn, 27)]]),
  (prog_1_method_37_code, [
    [(0, .iload_n 1, 1), (1, .ifCond .lt 9, 4), (4, .iload_n 1, 5), (5, .bipush 15, 7), (7, .if_icmp .le 5, 10), (10, .iconst (-1), 11), (11, .ireturn, 12), (12, .aload_n 0, 13), (13, .getfield 44, 16), (16, .iload_n 1, 17), (17, .iaload, 18), (18, .ireturn, 19)]]),
  (prog_1_method_20_code, [
    [(0, .aload_n 0, 1), (1, .iconst 0, 2), (2, .iconst 1, 3), (3, .iconst 2, 4), (4, .iconst 0, 5), (5, .iconst 0, 6), (6, .invokevirtual 134, 9), (9, .aload_n 0, 10), (10, .iconst 0, 11), (11, .iconst 2, 12), (12, .iconst 0, 13), (13, .iconst 3, 14), (14, .iconst 0, 15), (15, .invokevirtual 134, 18), (18, .aload_n 0, 19), (19, .iconst 1, 20), (20, .iconst 2, 21), (21, .iconst 1, 22), (22, .iconst 2, 23), (23, .iconst 0, 24), (24, .invokevirtual 134, 27), (27, .return_, 28)]]),
  (prog_1_method_3_code, [
    [(0, .iconst 0, 1), (1, .istore_n 1, 2), (2, .iload_n 1, 3), (3, .sipush 256, 6), (6, .if_icmp .ge 23, 9), (9, .aload_n 0, 10), (10, .getfield 26, 13), (13, .iload_n 1, 14), (14, .iconst 0, 15), (15, .iastore, 16), (16, .aload_n 0, 17), (17, .getfield 29, 20), (20, .iload_n 1, 21), (21, .iconst 0, 22), (22, .iastore, 23), (23, .iinc 1 1, 26), (26, .goto (-24), 29), (29, .iconst 0, 30), (30, .istore_n 1, 31), (31, .iload_n 1, 32)],
    [(32, .bipush 16, 34), (34, .if_icmp .ge 37, 37), (37, .aload_n 0, 38), (38, .getfield 13, 41), (41, .iload_n 1, 42), (42, .iconst 0, 43), (43, .iastore, 44), (44, .aload_n 0, 45), (45, .getfield 17, 48), (48, .iload_n 1, 49), (49, .iconst 0, 50), (50, .iastore, 51), (51, .aload_n 0, 52), (52, .getfield 20, 55), (55, .iload_n 1, 56), (56, .iconst 0, 57), (57, .iastore, 58), (58, .aload_n 0, 59), (59, .getfield 23, 62), (62, .iload_n 1, 63), (63, .iconst 0, 64)],
    [(64, .iastore, 65), (65, .iinc 1 1, 68), (68, .goto (-37), 71), (71, .aload_n 0, 72), (72, .iconst 0, 73), (73, .putfield 68, 76), (76, .return_, 77)]]),
  (prog_1_method_22_code, [
    [(0, .aload_n 0, 1), (1, .iconst 0, 2), (2, .iconst 1, 3), (3, .iconst 2, 4), (4, .iconst 0, 5), (5, .iconst 0, 6), (6, .invokevirtual 134, 9), (9, .aload_n 0, 10), (10, .iconst 0, 11), (11, .iconst 3, 12), (12, .iconst 0, 13), (13, .iconst 3, 14), (14, .iconst 1, 15), (15, .invokevirtual 134, 18), (18, .aload_n 0, 19), (19, .iconst 0, 20), (20, .iconst 3, 21), (21, .iconst 1, 22), (22, .iconst 2, 23), (23, .iconst 0, 24), (24, .invokevirtual 134, 27), (27, .aload_n 0, 28), (28, .iconst 1, 29), (29, .iconst 3, 30), (30, .iconst 0, 31), (31, .iconst 3, 32)],
    [(32, .iconst 1, 33), (33, .invokevirtual 134, 36), (36, .aload_n 0, 37), (37, .iconst 1, 38), (38, .iconst 3, 39), (39, .iconst 1, 40), (40, .iconst 2, 41), (41, .iconst 0, 42), (42, .invokevirtual 134, 45), (45, .aload_n 0, 46), (46, .iconst 0, 47), (47, .iconst 1, 48), (48, .iconst 0, 49), (49, .iconst 0, 50), (50, .iconst 0, 51), (51, .invokevirtual 134, 54), (54, .return_, 55)]]),
  (prog_1_method_2_code, [
    [(0, .aload_n 0, 1), (1, .iload_n 1, 2), (2, .iload_n 2, 3), (3, .iload_n 3, 4), (4, .iload 4, 6), (6, .invokevirtual 80, 9), (9, .istore 5, 11), (11, .iload 5, 13), (13, .ifCond .eq 6, 16), (16, .iload 5, 18), (18, .ireturn, 19), (19, .aload_n 0, 20), (20, .iload_n 1, 21), (21, .iload_n 2, 22), (22, .iload_n 3, 23), (23, .invokevirtual 84, 26), (26, .istore 5, 28), (28, .iload 5, 30), (30, .ifCond .eq 6, 33)],
    [(33, .iload 5, 35), (35, .ireturn, 36), (36, .aload_n 0, 37), (37, .iload_n 1, 38), (38, .iload_n 2, 39), (39, .iload_n 3, 40), (40, .iload 4, 42), (42, .invokevirtual 87, 45), (45, .ireturn, 46)]]),
  (prog_1_method_5_code, [
    [(0, .aload_n 0, 1), (1, .iload_n 1, 2), (2, .invokevirtual 94, 5), (5, .ifCond .ne 6, 8), (8, .bipush (-3), 10), (10, .ireturn, 11), (11, .aload_n 0, 12), (12, .iload_n 2, 13), (13, .invokevirtual 97, 16), (16, .ifCond .ne 5, 19), (19, .iconst (-1), 20), (20, .ireturn, 21), (21, .iload_n 1, 22), (22, .bipush 6, 24), (24, .if_icmp .eq 5, 27), (27, .iconst 0, 28), (28, .ireturn, 29), (29, .aload_n 0, 30), (30, .iload_n 3, 31), (31, .invokevirtual 97, 34)],
    [(34, .ifCond .ne 5, 37), (37, .iconst (-1), 38), (38, .ireturn, 39), (39, .iload_n 3, 40), (40, .iload_n 2, 41), (41, .if_icmp .ne 6, 44), (44, .bipush (-4), 46), (46, .ireturn, 47), (47, .aload_n 0, 48), (48, .iload 4, 50), (50, .invokevirtual 100, 53), (53, .ifCond .ne 6, 56), (56, .bipush (-5), 58), (58, .ireturn, 59), (59, .iconst 0, 60), (60, .ireturn, 61)]]),
  (prog_1_method_8_code, [
    [(0, .iload_n 1, 1), (1, .iconst 1, 2), (2, .if_icmp .lt 13, 5), (5, .iload_n 1, 6), (6, .bipush 6, 8), (8, .if_icmp .gt 7, 11), (11, .iconst 1, 12), (12, .goto 4, 15), (15, .iconst 0, 16), (16, .ireturn, 17)]]),
  (prog_1_method_47_code, [
    [(0, .iload_n 1, 1), (1, .ifCond .lt 14, 4), (4, .iload_n 1, 5), (5, .sipush 256, 8), (8, .if_icmp .ge 7, 11), (11, .iconst 1, 12), (12, .goto 4, 15), (15, .iconst 0, 16), (16, .ireturn, 17)]]),
  (prog_1_method_6_code, [
    [(0, .aload_n 0, 1), (1, .getfield 68, 4), (4, .aload_n 0, 5), (5, .getfield 59, 8), (8, .if_icmp .lt 6, 11), (11, .bipush (-6), 13), (13, .ireturn, 14), (14, .aload_n 0, 15), (15, .iload_n 2, 16), (16, .invokevirtual 103, 19), (19, .ifCond .eq 6, 22), (22, .bipush (-7), 24), (24, .ireturn, 25), (25, .aload_n 0, 26), (26, .iload_n 2, 27), (27, .invokevirtual 106, 30), (30, .ifCond .eq 6, 33)],
    [(33, .bipush (-7), 35), (35, .ireturn, 36), (36, .iload_n 1, 37), (37, .bipush 6, 39), (39, .if_icmp .ne 14, 42), (42, .aload_n 0, 43), (43, .iload_n 3, 44), (44, .invokevirtual 103, 47), (47, .ifCond .eq 6, 50), (50, .bipush (-7), 52), (52, .ireturn, 53), (53, .iconst 0, 54), (54, .ireturn, 55)]]),
  (prog_1_method_11_code, [
    [(0, .aload_n 0, 1), (1, .iload_n 1, 2), (2, .invokevirtual 97, 5), (5, .ifCond .eq 16, 8), (8, .aload_n 0, 9), (9, .getfield 26, 12), (12, .iload_n 1, 13), (13, .iaload, 14), (14, .ifCond .eq 7, 17), (17, .iconst 1, 18), (18, .goto 4, 21), (21, .iconst 0, 22), (22, .ireturn, 23)]]),
  (prog_1_method_12_code, [
    [(0, .aload_n 0, 1), (1, .iload_n 1, 2), (2, .invokevirtual 97, 5), (5, .ifCond .eq 16, 8), (8, .aload_n 0, 9), (9, .getfield 29, 12), (12, .iload_n 1, 13), (13, .iaload, 14), (14, .ifCond .le 7, 17), (17, .iconst 1, 18), (18, .goto 4, 21), (21, .iconst 0, 22), (22, .ireturn, 23)]]),
  (prog_1_method_7_code, [
    [(0, .aload_n 0, 1), (1, .getfield 68, 4), (4, .istore 5, 6), (6, .iload 5, 8), (8, .ifCond .lt 18, 11), (11, .iload 5, 13), (13, .bipush 16, 15), (15, .if_icmp .ge 11, 18), (18, .aload_n 0, 19), (19, .iload_n 2, 20), (20, .invokevirtual 97, 23), (23, .ifCond .ne 6, 26), (26, .bipush (-6), 28), (28, .ireturn, 29), (29, .aload_n 0, 30), (30, .getfield 13, 33)],
    [(33, .iload 5, 35), (35, .iload_n 1, 36), (36, .iastore, 37), (37, .aload_n 0, 38), (38, .getfield 17, 41), (41, .iload 5, 43), (43, .iload_n 2, 44), (44, .iastore, 45), (45, .aload_n 0, 46), (46, .getfield 26, 49), (49, .iload_n 2, 50), (50, .iload 5, 52), (52, .iconst 1, 53), (53, .iadd, 54), (54, .iastore, 55), (55, .iload_n 1, 56), (56, .bipush 6, 58), (58, .if_icmp .ne 47, 61), (61, .aload_n 0, 62), (62, .iload_n 3, 63), (63, .invokevirtual 97, 66)],
    [(66, .ifCond .eq 39, 69), (69, .aload_n 0, 70), (70, .getfield 20, 73), (73, .iload 5, 75), (75, .iload_n 3, 76), (76, .iastore, 77), (77, .aload_n 0, 78), (78, .getfield 23, 81), (81, .iload 5, 83), (83, .iload 4, 85), (85, .iconst 3, 86), (86, .iand, 87), (87, .iastore, 88), (88, .aload_n 0, 89), (89, .getfield 29, 92), (92, .iload_n 3, 93), (93, .aload_n 0, 94), (94, .getfield 29, 97)],
    [(97, .iload_n 3, 98), (98, .iaload, 99), (99, .iconst 1, 100), (100, .iadd, 101), (101, .iastore, 102), (102, .goto 19, 105), (105, .aload_n 0, 106), (106, .getfield 20, 109), (109, .iload 5, 111), (111, .iconst 0, 112), (112, .iastore, 113), (113, .aload_n 0, 114), (114, .getfield 23, 117), (117, .iload 5, 119), (119, .iconst 0, 120), (120, .iastore, 121), (121, .aload_n 0, 122), (122, .iload 5, 124), (124, .iconst 1, 125), (125, .iadd, 126), (126, .putfield 68, 129)],
    [(129, .iload 5, 131), (131, .ireturn, 132)]]),
  (prog_1_method_14_code, [
    [(0, .aload_n 0, 1), (1, .iload_n 1, 2), (2, .invokevirtual 109, 5), (5, .ifCond .ne 6, 8), (8, .bipush (-8), 10), (10, .ireturn, 11), (11, .iload_n 2, 12), (12, .iconst 1, 13), (13, .if_icmp .lt 8, 16), (16, .iload_n 2, 17), (17, .iconst 4, 18), (18, .if_icmp .le 6, 21), (21, .bipush (-9), 23), (23, .ireturn, 24), (24, .aload_n 0, 25), (25, .getfield 71, 28), (28, .bipush 8, 30), (30, .if_icmp .lt 6, 33)],
    [(33, .bipush (-6), 35), (35, .ireturn, 36), (36, .aload_n 0, 37), (37, .iload_n 1, 38), (38, .iload_n 2, 39), (39, .iload_n 3, 40), (40, .invokevirtual 112, 43), (43, .ireturn, 44)]]),
  (prog_1_method_23_code, [
    [(0, .iload_n 1, 1), (1, .ifCond .eq 8, 4), (4, .iload_n 1, 5), (5, .iconst 1, 6), (6, .if_icmp .ne 7, 9), (9, .iconst 1, 10), (10, .goto 4, 13), (13, .iconst 0, 14), (14, .ireturn, 15)]]),
  (prog_1_method_43_code, [
    [(0, .aload_n 0, 1), (1, .iload_n 1, 2), (2, .invokevirtual 97, 5), (5, .ifCond .ne 5, 8), (8, .iconst (-1), 9), (9, .ireturn, 10), (10, .iload_n 2, 11), (11, .ifCond .eq 11, 14), (14, .iload_n 2, 15), (15, .iconst 1, 16), (16, .if_icmp .eq 6, 19), (19, .bipush (-2), 21), (21, .ireturn, 22), (22, .aload_n 0, 23), (23, .iload_n 1, 24), (24, .iload_n 2, 25), (25, .invokevirtual 162, 28), (28, .iconst 0, 29), (29, .ireturn, 30)]]),
  (prog_1_method_51_code, [
    [(0, .aload_n 0, 1), (1, .iload_n 1, 2), (2, .invokevirtual 185, 5), (5, .istore_n 3, 6), (6, .iload_n 3, 7), (7, .sipush 256, 10), (10, .if_icmp .lt 14, 13), (13, .aload_n 0, 14), (14, .getfield 7, 17), (17, .iload_n 3, 18), (18, .iload_n 2, 19), (19, .iconst 1, 20), (20, .iand, 21), (21, .i2b, 22), (22, .bastore, 23), (23, .return_, 24), (24, .aload_n 0, 25), (25, .iload_n 3, 26), (26, .iload_n 2, 27), (27, .iconst 1, 28), (28, .iand, 29), (29, .invokevirtual 194, 32)],
    [(32, .return_, 33)]]),
  (prog_1_method_48_code, [
    [(0, .iload_n 1, 1), (1, .iconst 4, 2), (2, .ishr, 3), (3, .bipush 15, 5), (5, .iand, 6), (6, .istore_n 2, 7), (7, .aload_n 0, 8), (8, .getfield 44, 11), (11, .iload_n 2, 12), (12, .iaload, 13), (13, .istore_n 3, 14), (14, .iload_n 3, 15), (15, .ifCond .lt 22, 18), (18, .iload_n 3, 19), (19, .iconst 4, 20), (20, .if_icmp .ge 17, 23), (23, .sipush 256, 26), (26, .bipush 16, 28), (28, .iload_n 3, 29), (29, .imul, 30), (30, .iadd, 31), (31, .iload_n 1, 32)],
    [(32, .bipush 15, 34), (34, .iand, 35), (35, .iadd, 36), (36, .ireturn, 37), (37, .iload_n 1, 38), (38, .sipush 255, 41), (41, .iand, 42), (42, .ireturn, 43)]]),
  (prog_1_method_52_code, [
    [(0, .aload_n 0, 1), (1, .getfield 7, 4), (4, .iload_n 1, 5), (5, .baload, 6), (6, .istore_n 3, 7), (7, .aload_n 0, 8), (8, .iload_n 1, 9), (9, .iload_n 3, 10), (10, .iload_n 2, 11), (11, .invokevirtual 197, 14), (14, .istore 4, 16), (16, .aload_n 0, 17), (17, .getfield 7, 20), (20, .iload_n 1, 21), (21, .iload 4, 23), (23, .i2b, 24), (24, .bastore, 25), (25, .iload 4, 27), (27, .iload_n 3, 28), (28, .if_icmp .eq 27, 31), (31, .aload_n 0, 32)],
    [(32, .iload_n 1, 33), (33, .invokevirtual 106, 36), (36, .ifCond .eq 19, 39), (39, .aload_n 0, 40), (40, .iload_n 1, 41), (41, .iload 4, 43), (43, .iconst 1, 44), (44, .if_icmp .ne 7, 47), (47, .iconst 1, 48), (48, .goto 4, 51), (51, .iconst 0, 52), (52, .invokevirtual 200, 55), (55, .return_, 56)]]),
  (prog_1_method_53_code, [
    [(0, .aload_n 0, 1), (1, .iload_n 1, 2), (2, .invokevirtual 191, 5), (5, .istore 4, 7), (7, .iload 4, 9), (9, .iconst 1, 10), (10, .if_icmp .eq 15, 13), (13, .iload 4, 15), (15, .iconst 2, 16), (16, .if_icmp .eq 9, 19), (19, .iload 4, 21), (21, .iconst 5, 22), (22, .if_icmp .ne 5, 25), (25, .iload_n 2, 26), (26, .ireturn, 27), (27, .iload 4, 29), (29, .iconst 3, 30), (30, .if_icmp .ne 14, 33)],
    [(33, .iload_n 2, 34), (34, .ifCond .ne 10, 37), (37, .iload_n 3, 38), (38, .iconst 1, 39), (39, .if_icmp .ne 5, 42), (42, .iload_n 2, 43), (43, .ireturn, 44), (44, .iload 4, 46), (46, .iconst 4, 47), (47, .if_icmp .ne 14, 50), (50, .iload_n 2, 51), (51, .iconst 1, 52), (52, .if_icmp .ne 9, 55), (55, .iload_n 3, 56), (56, .ifCond .ne 5, 59), (59, .iload_n 2, 60), (60, .ireturn, 61), (61, .iload_n 3, 62), (62, .ireturn, 63)]]),
  (prog_1_method_13_code, [
    [(0, .aload_n 0, 1), (1, .iload_n 1, 2), (2, .invokevirtual 97, 5), (5, .ifCond .ne 5, 8), (8, .iconst 0, 9), (9, .ireturn, 10), (10, .aload_n 0, 11), (11, .getfield 26, 14), (14, .iload_n 1, 15), (15, .iaload, 16), (16, .istore_n 2, 17), (17, .iload_n 2, 18), (18, .iconst 1, 19), (19, .if_icmp .lt 9, 22), (22, .iload_n 2, 23), (23, .bipush 16, 25), (25, .if_icmp .le 5, 28), (28, .iconst 0, 29), (29, .ireturn, 30), (30, .aload_n 0, 31), (31, .getfield 13, 34)],
    [(34, .iload_n 2, 35), (35, .iconst 1, 36), (36, .isub, 37), (37, .iaload, 38), (38, .ireturn, 39)]]),
  (prog_1_method_44_code, [
    [(0, .aload_n 0, 1), (1, .iload_n 1, 2), (2, .invokevirtual 97, 5), (5, .ifCond .ne 5, 8), (8, .iconst (-1), 9), (9, .ireturn, 10), (10, .aload_n 0, 11), (11, .iload_n 1, 12), (12, .invokevirtual 166, 15), (15, .ireturn, 16)]]),
  (prog_1_method_49_code, [
    [(0, .aload_n 0, 1), (1, .iload_n 1, 2), (2, .invokevirtual 185, 5), (5, .istore_n 2, 6), (6, .iload_n 2, 7), (7, .sipush 256, 10), (10, .if_icmp .lt 13, 13), (13, .aload_n 0, 14), (14, .getfield 7, 17), (17, .iload_n 2, 18), (18, .baload, 19), (19, .istore_n 3, 20), (20, .goto 9, 23), (23, .aload_n 0, 24), (24, .iload_n 2, 25), (25, .invokevirtual 188, 28), (28, .istore_n 3, 29), (29, .aload_n 0, 30), (30, .iload_n 3, 31), (31, .iconst 1, 32)],
    [(32, .iand, 33), (33, .putfield 65, 36), (36, .aload_n 0, 37), (37, .getfield 65, 40), (40, .ireturn, 41)]]),
  (prog_1_method_50_code, [
    [(0, .aload_n 0, 1), (1, .iload_n 1, 2), (2, .invokevirtual 191, 5), (5, .istore_n 2, 6), (6, .iload_n 2, 7), (7, .iconst 1, 8), (8, .if_icmp .ne 5, 11), (11, .iconst 0, 12), (12, .ireturn, 13), (13, .iload_n 2, 14), (14, .iconst 2, 15), (15, .if_icmp .ne 5, 18), (18, .iconst 1, 19), (19, .ireturn, 20), (20, .iload_n 2, 21), (21, .iconst 5, 22), (22, .if_icmp .ne 8, 25), (25, .aload_n 0, 26), (26, .getfield 65, 29), (29, .ireturn, 30), (30, .aload_n 0, 31), (31, .getfield 7, 34)],
    [(34, .iload_n 1, 35), (35, .baload, 36), (36, .ireturn, 37)]]),
  (prog_1_method_36_code, [
    [(0, .aload_n 0, 1), (1, .invokevirtual 169, 4), (4, .istore_n 1, 5), (5, .aload_n 0, 6), (6, .invokevirtual 173, 9), (9, .istore_n 2, 10), (10, .iload_n 1, 11), (11, .iload_n 2, 12), (12, .if_icmp .le 6, 15), (15, .bipush (-11), 17), (17, .ireturn, 18), (18, .iconst 0, 19), (19, .istore_n 3, 20), (20, .iload_n 3, 21), (21, .bipush 16, 23), (23, .if_icmp .ge 37, 26), (26, .aload_n 0, 27), (27, .iload_n 3, 28), (28, .invokevirtual 176, 31), (31, .ifCond .eq 23, 34)],
    [(34, .aload_n 0, 35), (35, .invokevirtual 179, 38), (38, .istore 4, 40), (40, .iload 4, 42), (42, .ifCond .ge 5, 45), (45, .iload_n 1, 46), (46, .ireturn, 47), (47, .aload_n 0, 48), (48, .iload_n 3, 49), (49, .iload 4, 51), (51, .invokevirtual 182, 54), (54, .iinc 3 1, 57), (57, .goto (-37), 60), (60, .iload_n 1, 61), (61, .ireturn, 62)]]),
  (prog_1_method_39_code, [
    [(0, .iconst 0, 1), (1, .istore_n 1, 2), (2, .iconst 0, 3), (3, .istore_n 2, 4), (4, .iload_n 2, 5), (5, .bipush 16, 7), (7, .if_icmp .ge 20, 10), (10, .aload_n 0, 11), (11, .iload_n 2, 12), (12, .invokevirtual 176, 15), (15, .ifCond .eq 6, 18), (18, .iinc 1 1, 21), (21, .iinc 2 1, 24), (24, .goto (-20), 27), (27, .iload_n 1, 28), (28, .ireturn, 29)]]),
  (prog_1_method_38_code, [
    [(0, .iload_n 1, 1), (1, .ifCond .lt 9, 4), (4, .iload_n 1, 5), (5, .bipush 15, 7), (7, .if_icmp .le 5, 10), (10, .iconst 0, 11), (11, .ireturn, 12), (12, .aload_n 0, 13), (13, .getfield 77, 16), (16, .iload_n 1, 17), (17, .ishr, 18), (18, .iconst 1, 19), (19, .iand, 20), (20, .ifCond .eq 16, 23), (23, .aload_n 0, 24), (24, .getfield 44, 27), (27, .iload_n 1, 28), (28, .iaload, 29), (29, .ifCond .ge 7, 32)],
    [(32, .iconst 1, 33), (33, .goto 4, 36), (36, .iconst 0, 37), (37, .ireturn, 38)]]),
  (prog_1_method_40_code, [
    [(0, .iconst 0, 1), (1, .istore_n 1, 2), (2, .iconst 0, 3), (3, .istore_n 2, 4), (4, .iload_n 2, 5), (5, .aload_n 0, 6), (6, .getfield 55, 9), (9, .if_icmp .ge 26, 12), (12, .iload_n 2, 13), (13, .iconst 4, 14), (14, .if_icmp .ge 21, 17), (17, .aload_n 0, 18), (18, .getfield 47, 21), (21, .iload_n 2, 22), (22, .baload, 23), (23, .ifCond .ne 6, 26), (26, .iinc 1 1, 29), (29, .iinc 2 1, 32)],
    [(32, .goto (-28), 35), (35, .iload_n 1, 36), (36, .ireturn, 37)]]),
  (method_2_code, [
    [(0, .aload_n 0, 1), (1, .iload_n 1, 2), (2, .iconst 4, 3), (3, .ishr, 4), (4, .invokevirtual 7, 7), (7, .istore_n 2, 8), (8, .iload_n 2, 9), (9, .ifCond .lt 17, 12), (12, .sipush 256, 15), (15, .bipush 16, 17), (17, .iload_n 2, 18), (18, .imul, 19), (19, .iadd, 20), (20, .iload_n 1, 21), (21, .bipush 15, 23), (23, .iand, 24), (24, .iadd, 25), (25, .ireturn, 26), (26, .iload_n 1, 27), (27, .ireturn, 28)]]),
  (prog_1_method_45_code, [
    [(0, .iload_n 1, 1), (1, .ifCond .lt 25, 4), (4, .iload_n 1, 5), (5, .sipush 256, 8), (8, .bipush 16, 10), (10, .aload_n 0, 11), (11, .getfield 55, 14), (14, .imul, 15), (15, .iadd, 16), (16, .if_icmp .ge 10, 19), (19, .iload_n 1, 20), (20, .sipush 320, 23), (23, .if_icmp .lt 5, 26), (26, .iconst (-1), 27), (27, .ireturn, 28), (28, .aload_n 0, 29), (29, .getfield 7, 32)],
    [(32, .iload_n 1, 33), (33, .baload, 34), (34, .ireturn, 35)]]),
  (prog_1_method_28_code, [
    [(0, .aload_n 0, 1), (1, .getfield 71, 4), (4, .ifCond .gt 6, 7), (7, .bipush (-10), 9), (9, .ireturn, 10), (10, .aload_n 0, 11), (11, .invokevirtual 138, 14), (14, .iconst 0, 15), (15, .istore_n 1, 16), (16, .iconst 0, 17), (17, .istore_n 2, 18), (18, .iload_n 2, 19), (19, .aload_n 0, 20), (20, .getfield 71, 23), (23, .if_icmp .ge 23, 26), (26, .iload_n 2, 27), (27, .bipush 8, 29), (29, .if_icmp .ge 17, 32)],
    [(32, .iload_n 1, 33), (33, .aload_n 0, 34), (34, .iload_n 2, 35), (35, .invokevirtual 141, 38), (38, .iadd, 39), (39, .istore_n 1, 40), (40, .iinc 2 1, 43), (43, .goto (-25), 46), (46, .iload_n 1, 47), (47, .ireturn, 48)]]),
  (prog_1_method_31_code, [
    [(0, .iconst 0, 1), (1, .istore_n 1, 2), (2, .iload_n 1, 3), (3, .bipush 32, 5), (5, .if_icmp .ge 16, 8), (8, .aload_n 0, 9), (9, .getfield 41, 12), (12, .iload_n 1, 13), (13, .iconst 0, 14), (14, .iastore, 15), (15, .iinc 1 1, 18), (18, .goto (-16), 21), (21, .aload_n 0, 22), (22, .iconst 0, 23), (23, .putfield 74, 26), (26, .aload_n 0, 27), (27, .iconst 0, 28), (28, .putfield 77, 31), (31, .return_, 32)]]),
  (prog_1_method_32_code, [
    [(0, .aload_n 0, 1), (1, .iload_n 1, 2), (2, .invokevirtual 127, 5), (5, .ifCond .ne 5, 8), (8, .iconst 0, 9), (9, .ireturn, 10), (10, .aload_n 0, 11), (11, .getfield 32, 14), (14, .iload_n 1, 15), (15, .iaload, 16), (16, .istore_n 2, 17), (17, .iconst 0, 18), (18, .istore_n 3, 19), (19, .iconst 0, 20), (20, .istore 4, 22), (22, .iload 4, 24), (24, .sipush 256, 27), (27, .if_icmp .ge 28, 30), (30, .aload_n 0, 31), (31, .iload_n 2, 32)],
    [(32, .iload 4, 34), (34, .invokevirtual 144, 37), (37, .istore 5, 39), (39, .iload_n 3, 40), (40, .aload_n 0, 41), (41, .iload_n 1, 42), (42, .iload 5, 44), (44, .invokevirtual 148, 47), (47, .iadd, 48), (48, .istore_n 3, 49), (49, .iinc 4 1, 52), (52, .goto (-30), 55), (55, .iload_n 3, 56), (56, .ireturn, 57)]]),
  (prog_1_method_27_code, [
    [(0, .iload_n 1, 1), (1, .iconst 1, 2), (2, .if_icmp .ne 9, 5), (5, .sipush 255, 8), (8, .iload_n 2, 9), (9, .isub, 10), (10, .ireturn, 11), (11, .iload_n 2, 12), (12, .ireturn, 13)]]),
  (prog_1_method_33_code, [
    [(0, .aload_n 0, 1), (1, .getfield 35, 4), (4, .iload_n 1, 5), (5, .iaload, 6), (6, .istore_n 3, 7), (7, .iconst 0, 8), (8, .istore 4, 10), (10, .iconst 0, 11), (11, .istore 5, 13), (13, .iload 5, 15), (15, .iload_n 3, 16), (16, .if_icmp .ge 45, 19), (19, .iload 5, 21), (21, .iconst 4, 22), (22, .if_icmp .ge 39, 25), (25, .aload_n 0, 26), (26, .iload_n 1, 27), (27, .iload 5, 29), (29, .invokevirtual 151, 32)],
    [(32, .istore 6, 34), (34, .aload_n 0, 35), (35, .iload 6, 37), (37, .iload_n 2, 38), (38, .invokevirtual 154, 41), (41, .ifCond .eq 14, 44), (44, .aload_n 0, 45), (45, .iload_n 1, 46), (46, .iload 5, 48), (48, .iload_n 2, 49), (49, .invokevirtual 158, 52), (52, .iinc 4 1, 55), (55, .iinc 5 1, 58), (58, .goto (-45), 61), (61, .iload 4, 63), (63, .ireturn, 64)]]),
  (prog_1_method_26_code, [
    [(0, .aload_n 0, 1), (1, .iload_n 1, 2), (2, .invokevirtual 127, 5), (5, .ifCond .eq 12, 8), (8, .iload_n 2, 9), (9, .ifCond .lt 8, 12), (12, .iload_n 2, 13), (13, .iconst 3, 14), (14, .if_icmp .le 5, 17), (17, .iconst 0, 18), (18, .ireturn, 19), (19, .aload_n 0, 20), (20, .getfield 38, 23), (23, .iload_n 1, 24), (24, .iaload, 25), (25, .iconst 2, 26), (26, .iload_n 2, 27), (27, .imul, 28), (28, .ishr, 29), (29, .iconst 3, 30), (30, .iand, 31), (31, .ireturn, 32)]]),
  (prog_1_method_34_code, [
    [(0, .iload_n 1, 1), (1, .iconst 2, 2), (2, .if_icmp .ne 11, 5), (5, .aload_n 0, 6), (6, .iload_n 2, 7), (7, .iconst 0, 8), (8, .invokevirtual 162, 11), (11, .iconst 0, 12), (12, .ireturn, 13), (13, .iload_n 1, 14), (14, .iconst 3, 15), (15, .if_icmp .ne 11, 18), (18, .aload_n 0, 19), (19, .iload_n 2, 20), (20, .iconst 1, 21), (21, .invokevirtual 162, 24), (24, .iconst 0, 25), (25, .ireturn, 26), (26, .iconst 0, 27), (27, .istore_n 3, 28), (28, .iload_n 1, 29), (29, .iconst 1, 30), (30, .if_icmp .ne 5, 33)],
    [(33, .iconst 1, 34), (34, .istore_n 3, 35), (35, .aload_n 0, 36), (36, .iload_n 2, 37), (37, .invokevirtual 166, 40), (40, .istore 4, 42), (42, .iload 4, 44), (44, .iload_n 3, 45), (45, .if_icmp .eq 7, 48), (48, .iconst 1, 49), (49, .goto 4, 52), (52, .iconst 0, 53), (53, .ireturn, 54)]]),
  (prog_1_method_35_code, [
    [(0, .iload_n 3, 1), (1, .iconst 4, 2), (2, .ishr, 3), (3, .bipush 15, 5), (5, .iand, 6), (6, .istore 4, 8), (8, .aload_n 0, 9), (9, .dup, 10), (10, .getfield 77, 13), (13, .iconst 1, 14), (14, .iload 4, 16), (16, .ishl, 17), (17, .ior, 18), (18, .putfield 77, 21), (21, .aload_n 0, 22), (22, .getfield 74, 25), (25, .aload_n 0, 26), (26, .getfield 62, 29), (29, .if_icmp .ge 49, 32)],
    [(32, .aload_n 0, 33), (33, .getfield 74, 36), (36, .bipush 32, 38), (38, .if_icmp .ge 40, 41), (41, .aload_n 0, 42), (42, .getfield 74, 45), (45, .ifCond .lt 33, 48), (48, .aload_n 0, 49), (49, .getfield 41, 52), (52, .aload_n 0, 53), (53, .getfield 74, 56), (56, .iload_n 1, 57), (57, .bipush 12, 59), (59, .ishl, 60), (60, .iload_n 2, 61), (61, .bipush 8, 63), (63, .ishl, 64)],
    [(64, .ior, 65), (65, .iload_n 3, 66), (66, .ior, 67), (67, .iastore, 68), (68, .aload_n 0, 69), (69, .aload_n 0, 70), (70, .getfield 74, 73), (73, .iconst 1, 74), (74, .iadd, 75), (75, .putfield 74, 78), (78, .return_, 79)]]),
  (prog_1_method_9_code, [
    [(0, .iload_n 1, 1), (1, .ifCond .lt 12, 4), (4, .iload_n 1, 5), (5, .iconst 3, 6), (6, .if_icmp .gt 7, 9), (9, .iconst 1, 10), (10, .goto 4, 13), (13, .iconst 0, 14), (14, .ireturn, 15)]]),
  (prog_1_method_54_code, [
    [(0, .iconst 0, 1), (1, .istore_n 3, 2), (2, .iload_n 3, 3), (3, .aload_n 0, 4), (4, .getfield 68, 7), (7, .if_icmp .ge 70, 10), (10, .iload_n 3, 11), (11, .bipush 16, 13), (13, .if_icmp .ge 64, 16), (16, .aload_n 0, 17), (17, .getfield 13, 20), (20, .iload_n 3, 21), (21, .iaload, 22), (22, .bipush 6, 24), (24, .if_icmp .ne 47, 27), (27, .aload_n 0, 28), (28, .getfield 20, 31), (31, .iload_n 3, 32)],
    [(32, .iaload, 33), (33, .iload_n 1, 34), (34, .if_icmp .ne 37, 37), (37, .aload_n 0, 38), (38, .getfield 23, 41), (41, .iload_n 3, 42), (42, .iaload, 43), (43, .istore 4, 45), (45, .aload_n 0, 46), (46, .iload 4, 48), (48, .iload_n 2, 49), (49, .invokevirtual 204, 52), (52, .ifCond .eq 19, 55), (55, .aload_n 0, 56), (56, .aload_n 0, 57), (57, .getfield 17, 60), (60, .iload_n 3, 61), (61, .iaload, 62), (62, .aload_n 0, 63), (63, .iload 4, 65)],
    [(65, .invokevirtual 208, 68), (68, .invokevirtual 211, 71), (71, .iinc 3 1, 74), (74, .goto (-72), 77), (77, .return_, 78)]]),
  (prog_1_method_55_code, [
    [(0, .iload_n 1, 1), (1, .ifCond .eq 8, 4), (4, .iload_n 1, 5), (5, .iconst 1, 6), (6, .if_icmp .ne 7, 9), (9, .iconst 1, 10), (10, .goto 4, 13), (13, .iconst 0, 14), (14, .istore_n 3, 15), (15, .iload_n 3, 16), (16, .iload_n 2, 17), (17, .if_icmp .ne 7, 20), (20, .iconst 1, 21), (21, .goto 4, 24), (24, .iconst 0, 25), (25, .ireturn, 26)]]),
  (prog_1_method_56_code, [
    [(0, .iload_n 1, 1), (1, .iconst 1, 2), (2, .if_icmp .eq 8, 5), (5, .iload_n 1, 6), (6, .iconst 3, 7), (7, .if_icmp .ne 5, 10), (10, .iconst 1, 11), (11, .ireturn, 12), (12, .iconst 0, 13), (13, .ireturn, 14)]]),
  (prog_1_method_57_code, [
    [(0, .aload_n 0, 1), (1, .iload_n 1, 2), (2, .invokevirtual 97, 5), (5, .ifCond .eq 13, 8), (8, .aload_n 0, 9), (9, .getfield 7, 12), (12, .iload_n 1, 13), (13, .iload_n 2, 14), (14, .iconst 1, 15), (15, .iand, 16), (16, .i2b, 17), (17, .bastore, 18), (18, .return_, 19)]]),
  (prog_1_method_41_code, [
    [(0, .iconst 0, 1), (1, .istore_n 1, 2), (2, .iload_n 1, 3), (3, .aload_n 0, 4), (4, .getfield 55, 7), (7, .if_icmp .ge 25, 10), (10, .iload_n 1, 11), (11, .iconst 4, 12), (12, .if_icmp .ge 20, 15), (15, .aload_n 0, 16), (16, .getfield 47, 19), (19, .iload_n 1, 20), (20, .baload, 21), (21, .ifCond .ne 5, 24), (24, .iload_n 1, 25), (25, .ireturn, 26), (26, .iinc 1 1, 29), (29, .goto (-27), 32)],
    [(32, .iconst (-1), 33), (33, .ireturn, 34)]]),
  (prog_1_method_42_code, [
    [(0, .iload_n 1, 1), (1, .ifCond .lt 18, 4), (4, .iload_n 1, 5), (5, .bipush 15, 7), (7, .if_icmp .gt 12, 10), (10, .iload_n 2, 11), (11, .ifCond .lt 8, 14), (14, .iload_n 2, 15), (15, .iconst 3, 16), (16, .if_icmp .le 4, 19), (19, .return_, 20), (20, .aload_n 0, 21), (21, .getfield 44, 24), (24, .iload_n 1, 25), (25, .iload_n 2, 26), (26, .iastore, 27), (27, .aload_n 0, 28), (28, .getfield 47, 31), (31, .iload_n 2, 32)],
    [(32, .iconst 1, 33), (33, .bastore, 34), (34, .sipush 256, 37), (37, .bipush 16, 39), (39, .iload_n 2, 40), (40, .imul, 41), (41, .iadd, 42), (42, .istore_n 3, 43), (43, .iconst 0, 44), (44, .istore 4, 46), (46, .iload 4, 48), (48, .bipush 16, 50), (50, .if_icmp .ge 19, 53), (53, .aload_n 0, 54), (54, .getfield 7, 57), (57, .iload_n 3, 58), (58, .iload 4, 60), (60, .iadd, 61), (61, .iconst 0, 62), (62, .bastore, 63), (63, .iinc 4 1, 66)],
    [(66, .goto (-20), 69), (69, .return_, 70)]])]
def own_mis : List MI := [(0, 20, 1, some .boolean, false, 12, 256), (1, 5, 4, none, true, 1, 16), (1, 4, 4, some .int, false, 0, 0), (1, 2, 2, some .boolean, false, 4, 62), (1, 2, 1, none, false, 0, 0), (1, 1, 1, none, false, 3, 50), (1, 7, 6, none, false, 2, 32), (1, 5, 4, some .int, false, 1, 16), (1, 2, 2, some .int, false, 0, 0), (1, 1, 1, some .int, false, 0, 0), (1, 1, 1, some .int, false, 0, 0), (1, 3, 2, some .int, false, 1, 13), (1, 2, 2, some .boolean, false, 0, 0), (1, 3, 2, some .int, false, 1, 13), (1, 2, 2, some .boolean, false, 0, 0), (1, 2, 2, some .int, false, 0, 0), (1, 2, 2, some .int, false, 0, 0), (1, 1, 1, none, false, 3, 50), (1, 2, 1, none, false, 0, 0), (1, 1, 1, none, false, 3, 50), (1, 6, 5, some .int, false, 3, 41), (1, 5, 5, some .int, false, 1, 13), (1, 2, 2, some .boolean, false, 0, 0), (1, 2, 2, some .boolean, false, 0, 0), (1, 4, 4, some .int, false, 2, 26), (1, 2, 2, some .boolean, false, 1, 13), (1, 2, 2, some .boolean, false, 1, 13), (1, 6, 5, some .int, false, 1, 13), (1, 4, 4, some .int, false, 2, 32), (1, 2, 2, some .boolean, false, 0, 0), (1, 3, 3, some .int, false, 5, 74), (1, 4, 3, none, false, 4, 59), (1, 4, 2, some .int, false, 0, 0), (1, 5, 3, none, false, 3, 43), (1, 5, 4, some .int, false, 2, 27), (1, 3, 2, some .int, false, 1, 13), (1, 2, 2, some .int, false, 4, 56), (1, 4, 2, some .int, false, 3, 41), (1, 3, 2, some .int, false, 2, 27), (1, 5, 1, some .int, false, 2, 27), (1, 3, 1, some .int, false, 1, 13), (1, 2, 2, some .boolean, false, 0, 0), (1, 3, 1, some .int, false, 0, 0), (0, 3, 2, some .int, false, 1, 13), (1, 2, 2, some .int, false, 0, 0), (1, 3, 1, some .int, false, 8, 127), (1, 2, 1, none, false, 0, 0), (1, 6, 2, some .int, false, 7, 109), (1, 3, 3, some .int, false, 0, 0), (1, 7, 3, some .int, false, 6, 90), (1, 3, 3, some .int, false, 1, 13), (1, 5, 3, some .boolean, false, 5, 74), (1, 5, 4, none, false, 0, 0), (1, 2, 2, some .boolean, false, 0, 0), (1, 5, 3, none, false, 2, 27), (1, 4, 3, some .boolean, false, 0, 0), (1, 2, 2, some .int, false, 0, 0), (1, 3, 3, none, false, 1, 13), (1, 2, 1, some .int, false, 0, 0), (1, 5, 3, none, false, 0, 0)]
def own_links : List (Nat × Nat × Nat × Nat) := [(0, 13, 1, 1), (1, 1, 4, 0), (1, 51, 3, 2), (0, 34, 2, 3), (1, 115, 3, 4), (1, 121, 3, 5), (1, 134, 3, 6), (1, 112, 3, 7), (1, 130, 3, 8), (0, 45, 2, 9), (0, 42, 2, 10), (0, 21, 2, 11), (1, 90, 3, 12), (0, 31, 2, 13), (1, 127, 3, 14), (0, 67, 2, 15), (0, 7, 2, 16), (1, 118, 3, 17), (0, 24, 2, 18), (1, 124, 3, 19), (0, 17, 2, 20), (1, 80, 3, 21), (1, 94, 3, 22), (1, 97, 3, 23), (1, 84, 3, 24), (1, 103, 3, 25), (1, 106, 3, 26), (1, 87, 3, 27), (0, 27, 2, 28), (1, 109, 3, 29), (0, 51, 2, 30), (1, 162, 3, 31), (1, 185, 3, 32), (1, 194, 3, 33), (1, 197, 3, 34), (1, 191, 3, 35), (0, 64, 2, 36), (1, 166, 3, 37), (1, 188, 3, 38), (0, 48, 2, 39), (1, 169, 3, 40), (1, 176, 3, 41), (1, 173, 3, 42), (0, 55, 0, 43), (0, 61, 2, 44), (0, 38, 2, 45), (1, 138, 3, 46), (1, 141, 3, 47), (1, 144, 3, 48), (1, 148, 3, 49), (1, 151, 3, 50), (1, 154, 3, 51), (1, 158, 3, 52), (1, 100, 3, 53), (1, 200, 3, 54), (1, 204, 3, 55), (1, 208, 3, 56), (1, 211, 3, 57), (1, 179, 3, 58), (1, 182, 3, 59), (0, 8, 5, 0)]
def own_flds : List (Nat × Nat × Nat) := [(1, 7, 0), (1, 13, 1), (1, 17, 2), (1, 20, 3), (1, 23, 4), (1, 26, 5), (1, 29, 6), (1, 32, 7), (1, 35, 8), (1, 38, 9), (1, 41, 10), (1, 44, 11), (1, 47, 12), (1, 55, 13), (1, 59, 14), (1, 62, 15), (1, 65, 16), (1, 68, 17), (1, 71, 18), (1, 74, 19), (1, 77, 20)]
def own_kons : List (Nat × Nat × Value) := [(0, 16, .int (65535))]
def own_fields : List (String × String × Nat × Bool) := [("cells", "[B", 3, false), ("faultKind", "[I", 3, false), ("faultVictim", "[I", 3, false), ("faultAggressor", "[I", 3, false), ("faultTrigger", "[I", 3, false), ("victimSlot", "[I", 3, false), ("aggressorUses", "[I", 3, false), ("elementOrder", "[I", 3, false), ("elementCount", "[I", 3, false), ("elementOps", "[I", 3, false), ("logBuffer", "[I", 3, false), ("remap", "[I", 3, false), ("spareTaken", "[Z", 3, false), ("spareRows", "I", 0, false), ("faultLimit", "I", 0, false), ("logLimit", "I", 0, false), ("latchBit", "I", 0, false), ("faultCount", "I", 0, false), ("programLength", "I", 0, false), ("logLength", "I", 0, false), ("failMask", "I", 0, false)]
def own_P : Prog := (codeAt own_cs, fun k => own_mis.getD k (0, 0, 0, none, false, 0, 0), lookT own_links, lookT own_flds, lookT own_kons, own_fields, 21, 1, 41, 2112)
def own_nms : List MethodName := [⟨"MarchBistL6", "law", "([I)Z"⟩, ⟨"MarchBist", "<init>", "(III)V"⟩, ⟨"MarchBist", "clamp", "(III)I"⟩, ⟨"MarchBist", "loadPreset", "(I)Z"⟩, ⟨"MarchBist", "clearProgram", "()V"⟩, ⟨"MarchBist", "loadMarchCMinus", "()V"⟩, ⟨"MarchBist", "presetElement", "(IIIII)V"⟩, ⟨"MarchBist", "appendElement", "(III)I"⟩, ⟨"MarchBist", "opsMask", "(I)I"⟩, ⟨"MarchBist", "latch", "()I"⟩, ⟨"MarchBist", "failRows", "()I"⟩, ⟨"MarchBist", "faultInfo", "(I)I"⟩, ⟨"MarchBist", "isFaultNumber", "(I)Z"⟩, ⟨"MarchBist", "programElement", "(I)I"⟩, ⟨"MarchBist", "isElementIndex", "(I)Z"⟩, ⟨"MarchBist", "logEntry", "(I)I"⟩, ⟨"MarchBist", "rowMap", "(I)I"⟩, ⟨"MarchBist", "loadMatsPlus", "()V"⟩, ⟨"MarchBist", "clearFaults", "()V"⟩, ⟨"MarchBist", "loadMarchCrb", "()V"⟩, ⟨"MarchBist", "inject", "(IIII)I"⟩, ⟨"MarchBist", "validateFaultArguments", "(IIII)I"⟩, ⟨"MarchBist", "isFaultKind", "(I)Z"⟩, ⟨"MarchBist", "isAddress", "(I)Z"⟩, ⟨"MarchBist", "validateFaultRoom", "(III)I"⟩, ⟨"MarchBist", "isVictim", "(I)Z"⟩, ⟨"MarchBist", "isAggressor", "(I)Z"⟩, ⟨"MarchBist", "appendFault", "(IIII)I"⟩, ⟨"MarchBist", "addElement", "(III)I"⟩, ⟨"MarchBist", "isOrder", "(I)Z"⟩, ⟨"MarchBist", "write", "(II)I"⟩, ⟨"MarchBist", "writeRouted", "(II)V"⟩, ⟨"MarchBist", "routedCell", "(I)I"⟩, ⟨"MarchBist", "writeMain", "(II)V"⟩, ⟨"MarchBist", "faultyNewBit", "(III)I"⟩, ⟨"MarchBist", "victimKind", "(I)I"⟩, ⟨"MarchBist", "read", "(I)I"⟩, ⟨"MarchBist", "readRouted", "(I)I"⟩, ⟨"MarchBist", "readMain", "(I)I"⟩, ⟨"MarchBist", "repair", "()I"⟩, ⟨"MarchBist", "countFailingUnmapped", "()I"⟩, ⟨"MarchBist", "isFailingUnmapped", "(I)Z"⟩, ⟨"MarchBist", "countFreeSpares", "()I"⟩, ⟨"MarchBistL6", "route", "(LMarchBist;I)I"⟩, ⟨"MarchBist", "physical", "(I)I"⟩, ⟨"MarchBist", "run", "()I"⟩, ⟨"MarchBist", "resetResults", "()V"⟩, ⟨"MarchBist", "runElement", "(I)I"⟩, ⟨"MarchBist", "addressAt", "(II)I"⟩, ⟨"MarchBist", "runOpsAt", "(II)I"⟩, ⟨"MarchBist", "opAt", "(II)I"⟩, ⟨"MarchBist", "applyOp", "(II)Z"⟩, ⟨"MarchBist", "recordFailure", "(III)V"⟩, ⟨"MarchBist", "isTrigger", "(I)Z"⟩, ⟨"MarchBist", "fireCouplings", "(IZ)V"⟩, ⟨"MarchBist", "triggerMatches", "(IZ)Z"⟩, ⟨"MarchBist", "forcedBit", "(I)I"⟩, ⟨"MarchBist", "forceVictim", "(II)V"⟩, ⟨"MarchBist", "leastFreeSpare", "()I"⟩, ⟨"MarchBist", "assignSpare", "(II)V"⟩]
def own_nm (k : Nat) : MethodName := own_nms.getD k ⟨"", "", ""⟩
def own_cn (c : Nat) : String := match c with | 0 => "MarchBistL6" | _ => "MarchBist"
theorem own_pn0 : plainName "MarchBistL6" = true := by first | (simp [plainName, overriddenIn]; done) | decide +kernel
theorem own_pn1 : plainName "MarchBist" = true := by first | (simp [plainName, overriddenIn]; done) | decide +kernel
theorem own_ne0 : "MarchBistL6" ≠ "java/lang/invoke/MethodHandle" ∧ "MarchBistL6" ≠ "java/lang/invoke/VarHandle" := by decide
theorem own_ne1 : "MarchBist" ≠ "java/lang/invoke/MethodHandle" ∧ "MarchBist" ≠ "java/lang/invoke/VarHandle" := by decide
theorem own_pd0 : parseMethodDescriptor "(III)V" = some ⟨[.int, .int, .int], none⟩ := by decide +kernel
theorem own_pd1 : parseMethodDescriptor "(III)I" = some ⟨[.int, .int, .int], some .int⟩ := by decide +kernel
theorem own_pd2 : parseMethodDescriptor "(I)Z" = some ⟨[.int], some .boolean⟩ := by decide +kernel
theorem own_pd3 : parseMethodDescriptor "()V" = some ⟨[], none⟩ := by decide +kernel
theorem own_pd4 : parseMethodDescriptor "(IIIII)V" = some ⟨[.int, .int, .int, .int, .int], none⟩ := by decide +kernel
theorem own_pd5 : parseMethodDescriptor "(I)I" = some ⟨[.int], some .int⟩ := by decide +kernel
theorem own_pd6 : parseMethodDescriptor "()I" = some ⟨[], some .int⟩ := by decide +kernel
theorem own_pd7 : parseMethodDescriptor "(IIII)I" = some ⟨[.int, .int, .int, .int], some .int⟩ := by decide +kernel
theorem own_pd8 : parseMethodDescriptor "(II)I" = some ⟨[.int, .int], some .int⟩ := by decide +kernel
theorem own_pd9 : parseMethodDescriptor "(II)V" = some ⟨[.int, .int], none⟩ := by decide +kernel
theorem own_pd10 : parseMethodDescriptor "(LMarchBist;I)I" = some ⟨[(.object "MarchBist"), .int], some .int⟩ := by decide +kernel
theorem own_pd11 : parseMethodDescriptor "(II)Z" = some ⟨[.int, .int], some .boolean⟩ := by decide +kernel
theorem own_pd12 : parseMethodDescriptor "(IZ)V" = some ⟨[.int, .boolean], none⟩ := by decide +kernel
theorem own_pd13 : parseMethodDescriptor "(IZ)Z" = some ⟨[.int, .boolean], some .boolean⟩ := by decide +kernel
def own_m0 : ByteArray × List (List (Nat × Instr × Nat)) := own_cs.headD (⟨#[]⟩, [])
def own_mz : CodeL := own_cs.drop 1
theorem own_atd {α : Type} {f : α → Bool} {l : List α} (n : Nat) (h1 : (l.take n).all f = true) (h2 : (l.drop n).all f = true) : l.all f = true := by
  rw [← List.take_append_drop n l, List.all_append, h1, h2]; rfl
set_option maxRecDepth 100000 in
theorem own_ok0_0 : ((own_m0.2.take 8).all fun c => c.all (okI own_m0.1)) = true := by decide +kernel
set_option maxRecDepth 100000 in
theorem own_ok0_1 : (((own_m0.2.drop 8).take 8).all fun c => c.all (okI own_m0.1)) = true := by decide +kernel
set_option maxRecDepth 100000 in
theorem own_ok0_2 : ((((own_m0.2.drop 8).drop 8).take 8).all fun c => c.all (okI own_m0.1)) = true := by decide +kernel
set_option maxRecDepth 100000 in
theorem own_ok0_3 : ((((own_m0.2.drop 8).drop 8).drop 8).all fun c => c.all (okI own_m0.1)) = true := by decide +kernel
set_option maxRecDepth 100000 in
theorem own_okz : okCs own_mz = true := by decide +kernel
theorem own_ok0 : (own_m0.2.all fun c => c.all (okI own_m0.1)) = true := (own_atd 8 own_ok0_0 (own_atd 8 own_ok0_1 (own_atd 8 own_ok0_2 own_ok0_3)))
theorem own_hdd {α : Type} (d : α) : ∀ l : List α, ¬ l.length = 0 → l = l.headD d :: l.drop 1
  | [], h => absurd rfl h
  | a :: r, _ => rfl
theorem own_okcs : okCs own_cs = true := by
  have e : own_cs = own_m0 :: own_mz := own_hdd (⟨#[]⟩, []) own_cs (Nat.succ_ne_zero _)
  have h := own_okz
  have g := own_ok0
  unfold okCs at h ⊢
  rw [e]
  generalize own_m0 = a at g ⊢
  generalize own_mz = b at h ⊢
  rw [List.all_cons, g, Bool.true_and]
  exact h
def own_ty (t : ArrayType) : Bool := decide (t = .byte) || decide (t = .int) || decide (t = .boolean)
theorem own_tyok : tyCs own_ty own_cs = true := by decide +kernel
theorem own_nodup : (own_fields.map (·.1)).Nodup := by decide +kernel
set_option maxRecDepth 100000 in
set_option maxHeartbeats 4000000 in
theorem own_good {Z : State} {a0 : Array Value} (hw : ∀ d ∈ tables_1, d.before a0 Z = true) : Good own_P own_nm (bcOf own_cs) own_cn "MarchBist" Z a0 := by
  refine good_of (ty := own_ty) rfl own_okcs ?_ ?_ own_nodup ?_ (hw _ (List.mem_of_getElem? (i := 1) rfl)) (hw _ (List.mem_of_getElem? (i := 2) rfl)) own_tyok ?_ ?_
  · exact ⟨⟨_, _, _, _, rfl, (hw _ (List.mem_of_getElem? (i := 10) rfl))⟩,
      ⟨_, _, _, _, rfl, (hw _ (List.mem_of_getElem? (i := 13) rfl))⟩,
      ⟨_, _, _, _, rfl, (hw _ (List.mem_of_getElem? (i := 15) rfl))⟩,
      ⟨_, _, _, _, rfl, (hw _ (List.mem_of_getElem? (i := 17) rfl))⟩,
      ⟨_, _, _, _, rfl, (hw _ (List.mem_of_getElem? (i := 19) rfl))⟩,
      ⟨_, _, _, _, rfl, (hw _ (List.mem_of_getElem? (i := 21) rfl))⟩,
      ⟨_, _, _, _, rfl, (hw _ (List.mem_of_getElem? (i := 23) rfl))⟩,
      ⟨_, _, _, _, rfl, (hw _ (List.mem_of_getElem? (i := 25) rfl))⟩,
      ⟨_, _, _, _, rfl, (hw _ (List.mem_of_getElem? (i := 27) rfl))⟩,
      ⟨_, _, _, _, rfl, (hw _ (List.mem_of_getElem? (i := 29) rfl))⟩,
      ⟨_, _, _, _, rfl, (hw _ (List.mem_of_getElem? (i := 31) rfl))⟩,
      ⟨_, _, _, _, rfl, (hw _ (List.mem_of_getElem? (i := 33) rfl))⟩,
      ⟨_, _, _, _, rfl, (hw _ (List.mem_of_getElem? (i := 36) rfl))⟩,
      ⟨_, _, _, _, rfl, (hw _ (List.mem_of_getElem? (i := 42) rfl))⟩,
      ⟨_, _, _, _, rfl, (hw _ (List.mem_of_getElem? (i := 44) rfl))⟩,
      ⟨_, _, _, _, rfl, (hw _ (List.mem_of_getElem? (i := 46) rfl))⟩,
      ⟨_, _, _, _, rfl, (hw _ (List.mem_of_getElem? (i := 48) rfl))⟩,
      ⟨_, _, _, _, rfl, (hw _ (List.mem_of_getElem? (i := 50) rfl))⟩,
      ⟨_, _, _, _, rfl, (hw _ (List.mem_of_getElem? (i := 52) rfl))⟩,
      ⟨_, _, _, _, rfl, (hw _ (List.mem_of_getElem? (i := 54) rfl))⟩,
      ⟨_, _, _, _, rfl, (hw _ (List.mem_of_getElem? (i := 56) rfl))⟩,
      trivial⟩
  · exact ⟨⟨(hw _ (List.mem_of_getElem? (i := 11) rfl)), .array .byte, by decide, rfl, rfl⟩,
      ⟨(hw _ (List.mem_of_getElem? (i := 14) rfl)), .array .int, by decide, rfl, rfl⟩,
      ⟨(hw _ (List.mem_of_getElem? (i := 16) rfl)), .array .int, by decide, rfl, rfl⟩,
      ⟨(hw _ (List.mem_of_getElem? (i := 18) rfl)), .array .int, by decide, rfl, rfl⟩,
      ⟨(hw _ (List.mem_of_getElem? (i := 20) rfl)), .array .int, by decide, rfl, rfl⟩,
      ⟨(hw _ (List.mem_of_getElem? (i := 22) rfl)), .array .int, by decide, rfl, rfl⟩,
      ⟨(hw _ (List.mem_of_getElem? (i := 24) rfl)), .array .int, by decide, rfl, rfl⟩,
      ⟨(hw _ (List.mem_of_getElem? (i := 26) rfl)), .array .int, by decide, rfl, rfl⟩,
      ⟨(hw _ (List.mem_of_getElem? (i := 28) rfl)), .array .int, by decide, rfl, rfl⟩,
      ⟨(hw _ (List.mem_of_getElem? (i := 30) rfl)), .array .int, by decide, rfl, rfl⟩,
      ⟨(hw _ (List.mem_of_getElem? (i := 32) rfl)), .array .int, by decide, rfl, rfl⟩,
      ⟨(hw _ (List.mem_of_getElem? (i := 34) rfl)), .array .int, by decide, rfl, rfl⟩,
      ⟨(hw _ (List.mem_of_getElem? (i := 37) rfl)), .array .boolean, by decide, rfl, rfl⟩,
      ⟨(hw _ (List.mem_of_getElem? (i := 43) rfl)), .int, by decide, rfl, rfl⟩,
      ⟨(hw _ (List.mem_of_getElem? (i := 45) rfl)), .int, by decide, rfl, rfl⟩,
      ⟨(hw _ (List.mem_of_getElem? (i := 47) rfl)), .int, by decide, rfl, rfl⟩,
      ⟨(hw _ (List.mem_of_getElem? (i := 49) rfl)), .int, by decide, rfl, rfl⟩,
      ⟨(hw _ (List.mem_of_getElem? (i := 51) rfl)), .int, by decide, rfl, rfl⟩,
      ⟨(hw _ (List.mem_of_getElem? (i := 53) rfl)), .int, by decide, rfl, rfl⟩,
      ⟨(hw _ (List.mem_of_getElem? (i := 55) rfl)), .int, by decide, rfl, rfl⟩,
      ⟨(hw _ (List.mem_of_getElem? (i := 57) rfl)), .int, by decide, rfl, rfl⟩,
      trivial⟩
  · exact ⟨(hw _ (List.mem_of_getElem? (i := 58) rfl)),
      trivial⟩
  · intro t ht
    simp only [own_ty, Bool.or_eq_true, decide_eq_true_eq] at ht
    rcases ht with (rfl | rfl) | rfl
    · exact (hw _ (List.mem_of_getElem? (i := 9) rfl))
    · exact (hw _ (List.mem_of_getElem? (i := 12) rfl))
    · exact (hw _ (List.mem_of_getElem? (i := 35) rfl))
  · exact ⟨⟨(hw _ (List.mem_of_getElem? (i := 3) rfl)), (hw _ (List.mem_of_getElem? (i := 5) rfl)), (hw _ (List.mem_of_getElem? (i := 2) rfl)), ⟨_, _, own_pd0, rfl⟩, own_pn1, own_ne1, rfl, (fun _ => ⟨rfl, rfl⟩), ⟨rfl, (hw _ (List.mem_of_getElem? (i := 4) rfl)), rfl⟩⟩,
      ⟨(hw _ (List.mem_of_getElem? (i := 6) rfl)), (hw _ (List.mem_of_getElem? (i := 7) rfl)), (hw _ (List.mem_of_getElem? (i := 8) rfl))⟩,
      ⟨(hw _ (List.mem_of_getElem? (i := 38) rfl)), (hw _ (List.mem_of_getElem? (i := 41) rfl)), (hw _ (List.mem_of_getElem? (i := 2) rfl)), ⟨_, _, own_pd1, rfl⟩, own_pn1, own_ne1, rfl, (fun h => nomatch h), ⟨rfl, (hw _ (List.mem_of_getElem? (i := 39) rfl)), (hw _ (List.mem_of_getElem? (i := 40) rfl))⟩⟩,
      ⟨(hw _ (List.mem_of_getElem? (i := 59) rfl)), (hw _ (List.mem_of_getElem? (i := 63) rfl)), (hw _ (List.mem_of_getElem? (i := 2) rfl)), ⟨_, _, own_pd2, rfl⟩, own_pn1, own_ne1, rfl, (fun h => nomatch h), ⟨(hw _ (List.mem_of_getElem? (i := 60) rfl)), (hw _ (List.mem_of_getElem? (i := 61) rfl)), (hw _ (List.mem_of_getElem? (i := 62) rfl))⟩⟩,
      ⟨(hw _ (List.mem_of_getElem? (i := 64) rfl)), (hw _ (List.mem_of_getElem? (i := 67) rfl)), (hw _ (List.mem_of_getElem? (i := 2) rfl)), ⟨_, _, own_pd3, rfl⟩, own_pn1, own_ne1, rfl, (fun h => nomatch h), ⟨rfl, (hw _ (List.mem_of_getElem? (i := 65) rfl)), (hw _ (List.mem_of_getElem? (i := 66) rfl))⟩⟩,
      ⟨(hw _ (List.mem_of_getElem? (i := 68) rfl)), (hw _ (List.mem_of_getElem? (i := 71) rfl)), (hw _ (List.mem_of_getElem? (i := 2) rfl)), ⟨_, _, own_pd3, rfl⟩, own_pn1, own_ne1, rfl, (fun h => nomatch h), ⟨rfl, (hw _ (List.mem_of_getElem? (i := 69) rfl)), (hw _ (List.mem_of_getElem? (i := 70) rfl))⟩⟩,
      ⟨(hw _ (List.mem_of_getElem? (i := 72) rfl)), (hw _ (List.mem_of_getElem? (i := 75) rfl)), (hw _ (List.mem_of_getElem? (i := 2) rfl)), ⟨_, _, own_pd4, rfl⟩, own_pn1, own_ne1, rfl, (fun h => nomatch h), ⟨rfl, (hw _ (List.mem_of_getElem? (i := 73) rfl)), (hw _ (List.mem_of_getElem? (i := 74) rfl))⟩⟩,
      ⟨(hw _ (List.mem_of_getElem? (i := 76) rfl)), (hw _ (List.mem_of_getElem? (i := 79) rfl)), (hw _ (List.mem_of_getElem? (i := 2) rfl)), ⟨_, _, own_pd1, rfl⟩, own_pn1, own_ne1, rfl, (fun h => nomatch h), ⟨rfl, (hw _ (List.mem_of_getElem? (i := 77) rfl)), (hw _ (List.mem_of_getElem? (i := 78) rfl))⟩⟩,
      ⟨(hw _ (List.mem_of_getElem? (i := 80) rfl)), (hw _ (List.mem_of_getElem? (i := 83) rfl)), (hw _ (List.mem_of_getElem? (i := 2) rfl)), ⟨_, _, own_pd5, rfl⟩, own_pn1, own_ne1, rfl, (fun h => nomatch h), ⟨rfl, (hw _ (List.mem_of_getElem? (i := 81) rfl)), (hw _ (List.mem_of_getElem? (i := 82) rfl))⟩⟩,
      ⟨(hw _ (List.mem_of_getElem? (i := 84) rfl)), (hw _ (List.mem_of_getElem? (i := 88) rfl)), (hw _ (List.mem_of_getElem? (i := 2) rfl)), ⟨_, _, own_pd6, rfl⟩, own_pn1, own_ne1, rfl, (fun h => nomatch h), ⟨(hw _ (List.mem_of_getElem? (i := 85) rfl)), (hw _ (List.mem_of_getElem? (i := 86) rfl)), (hw _ (List.mem_of_getElem? (i := 87) rfl))⟩⟩,
      ⟨(hw _ (List.mem_of_getElem? (i := 89) rfl)), (hw _ (List.mem_of_getElem? (i := 93) rfl)), (hw _ (List.mem_of_getElem? (i := 2) rfl)), ⟨_, _, own_pd6, rfl⟩, own_pn1, own_ne1, rfl, (fun h => nomatch h), ⟨(hw _ (List.mem_of_getElem? (i := 90) rfl)), (hw _ (List.mem_of_getElem? (i := 91) rfl)), (hw _ (List.mem_of_getElem? (i := 92) rfl))⟩⟩,
      ⟨(hw _ (List.mem_of_getElem? (i := 94) rfl)), (hw _ (List.mem_of_getElem? (i := 98) rfl)), (hw _ (List.mem_of_getElem? (i := 2) rfl)), ⟨_, _, own_pd5, rfl⟩, own_pn1, own_ne1, rfl, (fun h => nomatch h), ⟨(hw _ (List.mem_of_getElem? (i := 95) rfl)), (hw _ (List.mem_of_getElem? (i := 96) rfl)), (hw _ (List.mem_of_getElem? (i := 97) rfl))⟩⟩,
      ⟨(hw _ (List.mem_of_getElem? (i := 99) rfl)), (hw _ (List.mem_of_getElem? (i := 102) rfl)), (hw _ (List.mem_of_getElem? (i := 2) rfl)), ⟨_, _, own_pd2, rfl⟩, own_pn1, own_ne1, rfl, (fun h => nomatch h), ⟨rfl, (hw _ (List.mem_of_getElem? (i := 100) rfl)), (hw _ (List.mem_of_getElem? (i := 101) rfl))⟩⟩,
      ⟨(hw _ (List.mem_of_getElem? (i := 103) rfl)), (hw _ (List.mem_of_getElem? (i := 107) rfl)), (hw _ (List.mem_of_getElem? (i := 2) rfl)), ⟨_, _, own_pd5, rfl⟩, own_pn1, own_ne1, rfl, (fun h => nomatch h), ⟨(hw _ (List.mem_of_getElem? (i := 104) rfl)), (hw _ (List.mem_of_getElem? (i := 105) rfl)), (hw _ (List.mem_of_getElem? (i := 106) rfl))⟩⟩,
      ⟨(hw _ (List.mem_of_getElem? (i := 108) rfl)), (hw _ (List.mem_of_getElem? (i := 111) rfl)), (hw _ (List.mem_of_getElem? (i := 2) rfl)), ⟨_, _, own_pd2, rfl⟩, own_pn1, own_ne1, rfl, (fun h => nomatch h), ⟨rfl, (hw _ (List.mem_of_getElem? (i := 109) rfl)), (hw _ (List.mem_of_getElem? (i := 110) rfl))⟩⟩,
      ⟨(hw _ (List.mem_of_getElem? (i := 112) rfl)), (hw _ (List.mem_of_getElem? (i := 116) rfl)), (hw _ (List.mem_of_getElem? (i := 2) rfl)), ⟨_, _, own_pd5, rfl⟩, own_pn1, own_ne1, rfl, (fun h => nomatch h), ⟨(hw _ (List.mem_of_getElem? (i := 113) rfl)), (hw _ (List.mem_of_getElem? (i := 114) rfl)), (hw _ (List.mem_of_getElem? (i := 115) rfl))⟩⟩,
      ⟨(hw _ (List.mem_of_getElem? (i := 117) rfl)), (hw _ (List.mem_of_getElem? (i := 121) rfl)), (hw _ (List.mem_of_getElem? (i := 2) rfl)), ⟨_, _, own_pd5, rfl⟩, own_pn1, own_ne1, rfl, (fun h => nomatch h), ⟨(hw _ (List.mem_of_getElem? (i := 118) rfl)), (hw _ (List.mem_of_getElem? (i := 119) rfl)), (hw _ (List.mem_of_getElem? (i := 120) rfl))⟩⟩,
      ⟨(hw _ (List.mem_of_getElem? (i := 122) rfl)), (hw _ (List.mem_of_getElem? (i := 125) rfl)), (hw _ (List.mem_of_getElem? (i := 2) rfl)), ⟨_, _, own_pd3, rfl⟩, own_pn1, own_ne1, rfl, (fun h => nomatch h), ⟨rfl, (hw _ (List.mem_of_getElem? (i := 123) rfl)), (hw _ (List.mem_of_getElem? (i := 124) rfl))⟩⟩,
      ⟨(hw _ (List.mem_of_getElem? (i := 126) rfl)), (hw _ (List.mem_of_getElem? (i := 130) rfl)), (hw _ (List.mem_of_getElem? (i := 2) rfl)), ⟨_, _, own_pd3, rfl⟩, own_pn1, own_ne1, rfl, (fun h => nomatch h), ⟨(hw _ (List.mem_of_getElem? (i := 127) rfl)), (hw _ (List.mem_of_getElem? (i := 128) rfl)), (hw _ (List.mem_of_getElem? (i := 129) rfl))⟩⟩,
      ⟨(hw _ (List.mem_of_getElem? (i := 131) rfl)), (hw _ (List.mem_of_getElem? (i := 134) rfl)), (hw _ (List.mem_of_getElem? (i := 2) rfl)), ⟨_, _, own_pd3, rfl⟩, own_pn1, own_ne1, rfl, (fun h => nomatch h), ⟨rfl, (hw _ (List.mem_of_getElem? (i := 132) rfl)), (hw _ (List.mem_of_getElem? (i := 133) rfl))⟩⟩,
      ⟨(hw _ (List.mem_of_getElem? (i := 135) rfl)), (hw _ (List.mem_of_getElem? (i := 139) rfl)), (hw _ (List.mem_of_getElem? (i := 2) rfl)), ⟨_, _, own_pd7, rfl⟩, own_pn1, own_ne1, rfl, (fun h => nomatch h), ⟨(hw _ (List.mem_of_getElem? (i := 136) rfl)), (hw _ (List.mem_of_getElem? (i := 137) rfl)), (hw _ (List.mem_of_getElem? (i := 138) rfl))⟩⟩,
      ⟨(hw _ (List.mem_of_getElem? (i := 140) rfl)), (hw _ (List.mem_of_getElem? (i := 143) rfl)), (hw _ (List.mem_of_getElem? (i := 2) rfl)), ⟨_, _, own_pd7, rfl⟩, own_pn1, own_ne1, rfl, (fun h => nomatch h), ⟨rfl, (hw _ (List.mem_of_getElem? (i := 141) rfl)), (hw _ (List.mem_of_getElem? (i := 142) rfl))⟩⟩,
      ⟨(hw _ (List.mem_of_getElem? (i := 144) rfl)), (hw _ (List.mem_of_getElem? (i := 147) rfl)), (hw _ (List.mem_of_getElem? (i := 2) rfl)), ⟨_, _, own_pd2, rfl⟩, own_pn1, own_ne1, rfl, (fun h => nomatch h), ⟨rfl, (hw _ (List.mem_of_getElem? (i := 145) rfl)), (hw _ (List.mem_of_getElem? (i := 146) rfl))⟩⟩,
      ⟨(hw _ (List.mem_of_getElem? (i := 148) rfl)), (hw _ (List.mem_of_getElem? (i := 151) rfl)), (hw _ (List.mem_of_getElem? (i := 2) rfl)), ⟨_, _, own_pd2, rfl⟩, own_pn1, own_ne1, rfl, (fun h => nomatch h), ⟨rfl, (hw _ (List.mem_of_getElem? (i := 149) rfl)), (hw _ (List.mem_of_getElem? (i := 150) rfl))⟩⟩,
      ⟨(hw _ (List.mem_of_getElem? (i := 152) rfl)), (hw _ (List.mem_of_getElem? (i := 155) rfl)), (hw _ (List.mem_of_getElem? (i := 2) rfl)), ⟨_, _, own_pd1, rfl⟩, own_pn1, own_ne1, rfl, (fun h => nomatch h), ⟨rfl, (hw _ (List.mem_of_getElem? (i := 153) rfl)), (hw _ (List.mem_of_getElem? (i := 154) rfl))⟩⟩,
      ⟨(hw _ (List.mem_of_getElem? (i := 156) rfl)), (hw _ (List.mem_of_getElem? (i := 159) rfl)), (hw _ (List.mem_of_getElem? (i := 2) rfl)), ⟨_, _, own_pd2, rfl⟩, own_pn1, own_ne1, rfl, (fun h => nomatch h), ⟨rfl, (hw _ (List.mem_of_getElem? (i := 157) rfl)), (hw _ (List.mem_of_getElem? (i := 158) rfl))⟩⟩,
      ⟨(hw _ (List.mem_of_getElem? (i := 160) rfl)), (hw _ (List.mem_of_getElem? (i := 163) rfl)), (hw _ (List.mem_of_getElem? (i := 2) rfl)), ⟨_, _, own_pd2, rfl⟩, own_pn1, own_ne1, rfl, (fun h => nomatch h), ⟨rfl, (hw _ (List.mem_of_getElem? (i := 161) rfl)), (hw _ (List.mem_of_getElem? (i := 162) rfl))⟩⟩,
      ⟨(hw _ (List.mem_of_getElem? (i := 164) rfl)), (hw _ (List.mem_of_getElem? (i := 167) rfl)), (hw _ (List.mem_of_getElem? (i := 2) rfl)), ⟨_, _, own_pd7, rfl⟩, own_pn1, own_ne1, rfl, (fun h => nomatch h), ⟨rfl, (hw _ (List.mem_of_getElem? (i := 165) rfl)), (hw _ (List.mem_of_getElem? (i := 166) rfl))⟩⟩,
      ⟨(hw _ (List.mem_of_getElem? (i := 168) rfl)), (hw _ (List.mem_of_getElem? (i := 172) rfl)), (hw _ (List.mem_of_getElem? (i := 2) rfl)), ⟨_, _, own_pd1, rfl⟩, own_pn1, own_ne1, rfl, (fun h => nomatch h), ⟨(hw _ (List.mem_of_getElem? (i := 169) rfl)), (hw _ (List.mem_of_getElem? (i := 170) rfl)), (hw _ (List.mem_of_getElem? (i := 171) rfl))⟩⟩,
      ⟨(hw _ (List.mem_of_getElem? (i := 173) rfl)), (hw _ (List.mem_of_getElem? (i := 176) rfl)), (hw _ (List.mem_of_getElem? (i := 2) rfl)), ⟨_, _, own_pd2, rfl⟩, own_pn1, own_ne1, rfl, (fun h => nomatch h), ⟨rfl, (hw _ (List.mem_of_getElem? (i := 174) rfl)), (hw _ (List.mem_of_getElem? (i := 175) rfl))⟩⟩,
      ⟨(hw _ (List.mem_of_getElem? (i := 177) rfl)), (hw _ (List.mem_of_getElem? (i := 181) rfl)), (hw _ (List.mem_of_getElem? (i := 2) rfl)), ⟨_, _, own_pd8, rfl⟩, own_pn1, own_ne1, rfl, (fun h => nomatch h), ⟨(hw _ (List.mem_of_getElem? (i := 178) rfl)), (hw _ (List.mem_of_getElem? (i := 179) rfl)), (hw _ (List.mem_of_getElem? (i := 180) rfl))⟩⟩,
      ⟨(hw _ (List.mem_of_getElem? (i := 182) rfl)), (hw _ (List.mem_of_getElem? (i := 185) rfl)), (hw _ (List.mem_of_getElem? (i := 2) rfl)), ⟨_, _, own_pd9, rfl⟩, own_pn1, own_ne1, rfl, (fun h => nomatch h), ⟨rfl, (hw _ (List.mem_of_getElem? (i := 183) rfl)), (hw _ (List.mem_of_getElem? (i := 184) rfl))⟩⟩,
      ⟨(hw _ (List.mem_of_getElem? (i := 186) rfl)), (hw _ (List.mem_of_getElem? (i := 189) rfl)), (hw _ (List.mem_of_getElem? (i := 2) rfl)), ⟨_, _, own_pd5, rfl⟩, own_pn1, own_ne1, rfl, (fun h => nomatch h), ⟨rfl, (hw _ (List.mem_of_getElem? (i := 187) rfl)), (hw _ (List.mem_of_getElem? (i := 188) rfl))⟩⟩,
      ⟨(hw _ (List.mem_of_getElem? (i := 190) rfl)), (hw _ (List.mem_of_getElem? (i := 193) rfl)), (hw _ (List.mem_of_getElem? (i := 2) rfl)), ⟨_, _, own_pd9, rfl⟩, own_pn1, own_ne1, rfl, (fun h => nomatch h), ⟨rfl, (hw _ (List.mem_of_getElem? (i := 191) rfl)), (hw _ (List.mem_of_getElem? (i := 192) rfl))⟩⟩,
      ⟨(hw _ (List.mem_of_getElem? (i := 194) rfl)), (hw _ (List.mem_of_getElem? (i := 197) rfl)), (hw _ (List.mem_of_getElem? (i := 2) rfl)), ⟨_, _, own_pd1, rfl⟩, own_pn1, own_ne1, rfl, (fun h => nomatch h), ⟨rfl, (hw _ (List.mem_of_getElem? (i := 195) rfl)), (hw _ (List.mem_of_getElem? (i := 196) rfl))⟩⟩,
      ⟨(hw _ (List.mem_of_getElem? (i := 198) rfl)), (hw _ (List.mem_of_getElem? (i := 201) rfl)), (hw _ (List.mem_of_getElem? (i := 2) rfl)), ⟨_, _, own_pd5, rfl⟩, own_pn1, own_ne1, rfl, (fun h => nomatch h), ⟨rfl, (hw _ (List.mem_of_getElem? (i := 199) rfl)), (hw _ (List.mem_of_getElem? (i := 200) rfl))⟩⟩,
      ⟨(hw _ (List.mem_of_getElem? (i := 202) rfl)), (hw _ (List.mem_of_getElem? (i := 206) rfl)), (hw _ (List.mem_of_getElem? (i := 2) rfl)), ⟨_, _, own_pd5, rfl⟩, own_pn1, own_ne1, rfl, (fun h => nomatch h), ⟨(hw _ (List.mem_of_getElem? (i := 203) rfl)), (hw _ (List.mem_of_getElem? (i := 204) rfl)), (hw _ (List.mem_of_getElem? (i := 205) rfl))⟩⟩,
      ⟨(hw _ (List.mem_of_getElem? (i := 207) rfl)), (hw _ (List.mem_of_getElem? (i := 210) rfl)), (hw _ (List.mem_of_getElem? (i := 2) rfl)), ⟨_, _, own_pd5, rfl⟩, own_pn1, own_ne1, rfl, (fun h => nomatch h), ⟨rfl, (hw _ (List.mem_of_getElem? (i := 208) rfl)), (hw _ (List.mem_of_getElem? (i := 209) rfl))⟩⟩,
      ⟨(hw _ (List.mem_of_getElem? (i := 211) rfl)), (hw _ (List.mem_of_getElem? (i := 214) rfl)), (hw _ (List.mem_of_getElem? (i := 2) rfl)), ⟨_, _, own_pd5, rfl⟩, own_pn1, own_ne1, rfl, (fun h => nomatch h), ⟨rfl, (hw _ (List.mem_of_getElem? (i := 212) rfl)), (hw _ (List.mem_of_getElem? (i := 213) rfl))⟩⟩,
      ⟨(hw _ (List.mem_of_getElem? (i := 215) rfl)), (hw _ (List.mem_of_getElem? (i := 219) rfl)), (hw _ (List.mem_of_getElem? (i := 2) rfl)), ⟨_, _, own_pd6, rfl⟩, own_pn1, own_ne1, rfl, (fun h => nomatch h), ⟨(hw _ (List.mem_of_getElem? (i := 216) rfl)), (hw _ (List.mem_of_getElem? (i := 217) rfl)), (hw _ (List.mem_of_getElem? (i := 218) rfl))⟩⟩,
      ⟨(hw _ (List.mem_of_getElem? (i := 220) rfl)), (hw _ (List.mem_of_getElem? (i := 223) rfl)), (hw _ (List.mem_of_getElem? (i := 2) rfl)), ⟨_, _, own_pd6, rfl⟩, own_pn1, own_ne1, rfl, (fun h => nomatch h), ⟨rfl, (hw _ (List.mem_of_getElem? (i := 221) rfl)), (hw _ (List.mem_of_getElem? (i := 222) rfl))⟩⟩,
      ⟨(hw _ (List.mem_of_getElem? (i := 224) rfl)), (hw _ (List.mem_of_getElem? (i := 227) rfl)), (hw _ (List.mem_of_getElem? (i := 2) rfl)), ⟨_, _, own_pd2, rfl⟩, own_pn1, own_ne1, rfl, (fun h => nomatch h), ⟨rfl, (hw _ (List.mem_of_getElem? (i := 225) rfl)), (hw _ (List.mem_of_getElem? (i := 226) rfl))⟩⟩,
      ⟨(hw _ (List.mem_of_getElem? (i := 228) rfl)), (hw _ (List.mem_of_getElem? (i := 231) rfl)), (hw _ (List.mem_of_getElem? (i := 2) rfl)), ⟨_, _, own_pd6, rfl⟩, own_pn1, own_ne1, rfl, (fun h => nomatch h), ⟨rfl, (hw _ (List.mem_of_getElem? (i := 229) rfl)), (hw _ (List.mem_of_getElem? (i := 230) rfl))⟩⟩,
      ⟨(hw _ (List.mem_of_getElem? (i := 232) rfl)), (hw _ (List.mem_of_getElem? (i := 235) rfl)), (hw _ (List.mem_of_getElem? (i := 234) rfl)), ⟨_, _, own_pd10, rfl⟩, own_pn0, own_ne0, rfl, (fun h => nomatch h), (hw _ (List.mem_of_getElem? (i := 233) rfl))⟩,
      ⟨(hw _ (List.mem_of_getElem? (i := 236) rfl)), (hw _ (List.mem_of_getElem? (i := 240) rfl)), (hw _ (List.mem_of_getElem? (i := 2) rfl)), ⟨_, _, own_pd5, rfl⟩, own_pn1, own_ne1, rfl, (fun h => nomatch h), ⟨(hw _ (List.mem_of_getElem? (i := 237) rfl)), (hw _ (List.mem_of_getElem? (i := 238) rfl)), (hw _ (List.mem_of_getElem? (i := 239) rfl))⟩⟩,
      ⟨(hw _ (List.mem_of_getElem? (i := 241) rfl)), (hw _ (List.mem_of_getElem? (i := 245) rfl)), (hw _ (List.mem_of_getElem? (i := 2) rfl)), ⟨_, _, own_pd6, rfl⟩, own_pn1, own_ne1, rfl, (fun h => nomatch h), ⟨(hw _ (List.mem_of_getElem? (i := 242) rfl)), (hw _ (List.mem_of_getElem? (i := 243) rfl)), (hw _ (List.mem_of_getElem? (i := 244) rfl))⟩⟩,
      ⟨(hw _ (List.mem_of_getElem? (i := 246) rfl)), (hw _ (List.mem_of_getElem? (i := 249) rfl)), (hw _ (List.mem_of_getElem? (i := 2) rfl)), ⟨_, _, own_pd3, rfl⟩, own_pn1, own_ne1, rfl, (fun h => nomatch h), ⟨rfl, (hw _ (List.mem_of_getElem? (i := 247) rfl)), (hw _ (List.mem_of_getElem? (i := 248) rfl))⟩⟩,
      ⟨(hw _ (List.mem_of_getElem? (i := 250) rfl)), (hw _ (List.mem_of_getElem? (i := 253) rfl)), (hw _ (List.mem_of_getElem? (i := 2) rfl)), ⟨_, _, own_pd5, rfl⟩, own_pn1, own_ne1, rfl, (fun h => nomatch h), ⟨rfl, (hw _ (List.mem_of_getElem? (i := 251) rfl)), (hw _ (List.mem_of_getElem? (i := 252) rfl))⟩⟩,
      ⟨(hw _ (List.mem_of_getElem? (i := 254) rfl)), (hw _ (List.mem_of_getElem? (i := 257) rfl)), (hw _ (List.mem_of_getElem? (i := 2) rfl)), ⟨_, _, own_pd8, rfl⟩, own_pn1, own_ne1, rfl, (fun h => nomatch h), ⟨rfl, (hw _ (List.mem_of_getElem? (i := 255) rfl)), (hw _ (List.mem_of_getElem? (i := 256) rfl))⟩⟩,
      ⟨(hw _ (List.mem_of_getElem? (i := 258) rfl)), (hw _ (List.mem_of_getElem? (i := 261) rfl)), (hw _ (List.mem_of_getElem? (i := 2) rfl)), ⟨_, _, own_pd8, rfl⟩, own_pn1, own_ne1, rfl, (fun h => nomatch h), ⟨rfl, (hw _ (List.mem_of_getElem? (i := 259) rfl)), (hw _ (List.mem_of_getElem? (i := 260) rfl))⟩⟩,
      ⟨(hw _ (List.mem_of_getElem? (i := 262) rfl)), (hw _ (List.mem_of_getElem? (i := 265) rfl)), (hw _ (List.mem_of_getElem? (i := 2) rfl)), ⟨_, _, own_pd8, rfl⟩, own_pn1, own_ne1, rfl, (fun h => nomatch h), ⟨rfl, (hw _ (List.mem_of_getElem? (i := 263) rfl)), (hw _ (List.mem_of_getElem? (i := 264) rfl))⟩⟩,
      ⟨(hw _ (List.mem_of_getElem? (i := 266) rfl)), (hw _ (List.mem_of_getElem? (i := 269) rfl)), (hw _ (List.mem_of_getElem? (i := 2) rfl)), ⟨_, _, own_pd11, rfl⟩, own_pn1, own_ne1, rfl, (fun h => nomatch h), ⟨rfl, (hw _ (List.mem_of_getElem? (i := 267) rfl)), (hw _ (List.mem_of_getElem? (i := 268) rfl))⟩⟩,
      ⟨(hw _ (List.mem_of_getElem? (i := 270) rfl)), (hw _ (List.mem_of_getElem? (i := 273) rfl)), (hw _ (List.mem_of_getElem? (i := 2) rfl)), ⟨_, _, own_pd0, rfl⟩, own_pn1, own_ne1, rfl, (fun h => nomatch h), ⟨rfl, (hw _ (List.mem_of_getElem? (i := 271) rfl)), (hw _ (List.mem_of_getElem? (i := 272) rfl))⟩⟩,
      ⟨(hw _ (List.mem_of_getElem? (i := 274) rfl)), (hw _ (List.mem_of_getElem? (i := 277) rfl)), (hw _ (List.mem_of_getElem? (i := 2) rfl)), ⟨_, _, own_pd2, rfl⟩, own_pn1, own_ne1, rfl, (fun h => nomatch h), ⟨rfl, (hw _ (List.mem_of_getElem? (i := 275) rfl)), (hw _ (List.mem_of_getElem? (i := 276) rfl))⟩⟩,
      ⟨(hw _ (List.mem_of_getElem? (i := 278) rfl)), (hw _ (List.mem_of_getElem? (i := 281) rfl)), (hw _ (List.mem_of_getElem? (i := 2) rfl)), ⟨_, _, own_pd12, rfl⟩, own_pn1, own_ne1, rfl, (fun h => nomatch h), ⟨rfl, (hw _ (List.mem_of_getElem? (i := 279) rfl)), (hw _ (List.mem_of_getElem? (i := 280) rfl))⟩⟩,
      ⟨(hw _ (List.mem_of_getElem? (i := 282) rfl)), (hw _ (List.mem_of_getElem? (i := 285) rfl)), (hw _ (List.mem_of_getElem? (i := 2) rfl)), ⟨_, _, own_pd13, rfl⟩, own_pn1, own_ne1, rfl, (fun h => nomatch h), ⟨rfl, (hw _ (List.mem_of_getElem? (i := 283) rfl)), (hw _ (List.mem_of_getElem? (i := 284) rfl))⟩⟩,
      ⟨(hw _ (List.mem_of_getElem? (i := 286) rfl)), (hw _ (List.mem_of_getElem? (i := 289) rfl)), (hw _ (List.mem_of_getElem? (i := 2) rfl)), ⟨_, _, own_pd5, rfl⟩, own_pn1, own_ne1, rfl, (fun h => nomatch h), ⟨rfl, (hw _ (List.mem_of_getElem? (i := 287) rfl)), (hw _ (List.mem_of_getElem? (i := 288) rfl))⟩⟩,
      ⟨(hw _ (List.mem_of_getElem? (i := 290) rfl)), (hw _ (List.mem_of_getElem? (i := 293) rfl)), (hw _ (List.mem_of_getElem? (i := 2) rfl)), ⟨_, _, own_pd9, rfl⟩, own_pn1, own_ne1, rfl, (fun h => nomatch h), ⟨rfl, (hw _ (List.mem_of_getElem? (i := 291) rfl)), (hw _ (List.mem_of_getElem? (i := 292) rfl))⟩⟩,
      ⟨(hw _ (List.mem_of_getElem? (i := 294) rfl)), (hw _ (List.mem_of_getElem? (i := 297) rfl)), (hw _ (List.mem_of_getElem? (i := 2) rfl)), ⟨_, _, own_pd6, rfl⟩, own_pn1, own_ne1, rfl, (fun h => nomatch h), ⟨rfl, (hw _ (List.mem_of_getElem? (i := 295) rfl)), (hw _ (List.mem_of_getElem? (i := 296) rfl))⟩⟩,
      ⟨(hw _ (List.mem_of_getElem? (i := 298) rfl)), (hw _ (List.mem_of_getElem? (i := 301) rfl)), (hw _ (List.mem_of_getElem? (i := 2) rfl)), ⟨_, _, own_pd9, rfl⟩, own_pn1, own_ne1, rfl, (fun h => nomatch h), ⟨rfl, (hw _ (List.mem_of_getElem? (i := 299) rfl)), (hw _ (List.mem_of_getElem? (i := 300) rfl))⟩⟩,
      (hw _ (List.mem_of_getElem? (i := 0) rfl)),
      trivial⟩
/-! # the object's state -/
def Q : Type := List Int32 × List Int32 × List Int32 × List Int32 × List Int32 × List Int32 × List Int32 × List Int32 × List Int32 × List Int32 × List Int32 × List Int32 × List Int32 × Int32 × Int32 × Int32 × Int32 × Int32 × Int32 × Int32 × Int32
def Q.f_cells (s : Q) : List Int32 := s.1
def Q.f_faultKind (s : Q) : List Int32 := s.2.1
def Q.f_faultVictim (s : Q) : List Int32 := s.2.2.1
def Q.f_faultAggressor (s : Q) : List Int32 := s.2.2.2.1
def Q.f_faultTrigger (s : Q) : List Int32 := s.2.2.2.2.1
def Q.f_victimSlot (s : Q) : List Int32 := s.2.2.2.2.2.1
def Q.f_aggressorUses (s : Q) : List Int32 := s.2.2.2.2.2.2.1
def Q.f_elementOrder (s : Q) : List Int32 := s.2.2.2.2.2.2.2.1
def Q.f_elementCount (s : Q) : List Int32 := s.2.2.2.2.2.2.2.2.1
def Q.f_elementOps (s : Q) : List Int32 := s.2.2.2.2.2.2.2.2.2.1
def Q.f_logBuffer (s : Q) : List Int32 := s.2.2.2.2.2.2.2.2.2.2.1
def Q.f_remap (s : Q) : List Int32 := s.2.2.2.2.2.2.2.2.2.2.2.1
def Q.f_spareTaken (s : Q) : List Int32 := s.2.2.2.2.2.2.2.2.2.2.2.2.1
def Q.f_spareRows (s : Q) : Int32 := s.2.2.2.2.2.2.2.2.2.2.2.2.2.1
def Q.f_faultLimit (s : Q) : Int32 := s.2.2.2.2.2.2.2.2.2.2.2.2.2.2.1
def Q.f_logLimit (s : Q) : Int32 := s.2.2.2.2.2.2.2.2.2.2.2.2.2.2.2.1
def Q.f_latchBit (s : Q) : Int32 := s.2.2.2.2.2.2.2.2.2.2.2.2.2.2.2.2.1
def Q.f_faultCount (s : Q) : Int32 := s.2.2.2.2.2.2.2.2.2.2.2.2.2.2.2.2.2.1
def Q.f_programLength (s : Q) : Int32 := s.2.2.2.2.2.2.2.2.2.2.2.2.2.2.2.2.2.2.1
def Q.f_logLength (s : Q) : Int32 := s.2.2.2.2.2.2.2.2.2.2.2.2.2.2.2.2.2.2.2.1
def Q.f_failMask (s : Q) : Int32 := s.2.2.2.2.2.2.2.2.2.2.2.2.2.2.2.2.2.2.2.2
def Q.s_cells (s : Q) (x : List Int32) : Q := (x, s.2.1, s.2.2.1, s.2.2.2.1, s.2.2.2.2.1, s.2.2.2.2.2.1, s.2.2.2.2.2.2.1, s.2.2.2.2.2.2.2.1, s.2.2.2.2.2.2.2.2.1, s.2.2.2.2.2.2.2.2.2.1, s.2.2.2.2.2.2.2.2.2.2.1, s.2.2.2.2.2.2.2.2.2.2.2.1, s.2.2.2.2.2.2.2.2.2.2.2.2.1, s.2.2.2.2.2.2.2.2.2.2.2.2.2.1, s.2.2.2.2.2.2.2.2.2.2.2.2.2.2.1, s.2.2.2.2.2.2.2.2.2.2.2.2.2.2.2.1, s.2.2.2.2.2.2.2.2.2.2.2.2.2.2.2.2.1, s.2.2.2.2.2.2.2.2.2.2.2.2.2.2.2.2.2.1, s.2.2.2.2.2.2.2.2.2.2.2.2.2.2.2.2.2.2.1, s.2.2.2.2.2.2.2.2.2.2.2.2.2.2.2.2.2.2.2.1, s.2.2.2.2.2.2.2.2.2.2.2.2.2.2.2.2.2.2.2.2)
def Q.s_faultKind (s : Q) (x : List Int32) : Q := (s.1, x, s.2.2.1, s.2.2.2.1, s.2.2.2.2.1, s.2.2.2.2.2.1, s.2.2.2.2.2.2.1, s.2.2.2.2.2.2.2.1, s.2.2.2.2.2.2.2.2.1, s.2.2.2.2.2.2.2.2.2.1, s.2.2.2.2.2.2.2.2.2.2.1, s.2.2.2.2.2.2.2.2.2.2.2.1, s.2.2.2.2.2.2.2.2.2.2.2.2.1, s.2.2.2.2.2.2.2.2.2.2.2.2.2.1, s.2.2.2.2.2.2.2.2.2.2.2.2.2.2.1, s.2.2.2.2.2.2.2.2.2.2.2.2.2.2.2.1, s.2.2.2.2.2.2.2.2.2.2.2.2.2.2.2.2.1, s.2.2.2.2.2.2.2.2.2.2.2.2.2.2.2.2.2.1, s.2.2.2.2.2.2.2.2.2.2.2.2.2.2.2.2.2.2.1, s.2.2.2.2.2.2.2.2.2.2.2.2.2.2.2.2.2.2.2.1, s.2.2.2.2.2.2.2.2.2.2.2.2.2.2.2.2.2.2.2.2)
def Q.s_faultVictim (s : Q) (x : List Int32) : Q := (s.1, s.2.1, x, s.2.2.2.1, s.2.2.2.2.1, s.2.2.2.2.2.1, s.2.2.2.2.2.2.1, s.2.2.2.2.2.2.2.1, s.2.2.2.2.2.2.2.2.1, s.2.2.2.2.2.2.2.2.2.1, s.2.2.2.2.2.2.2.2.2.2.1, s.2.2.2.2.2.2.2.2.2.2.2.1, s.2.2.2.2.2.2.2.2.2.2.2.2.1, s.2.2.2.2.2.2.2.2.2.2.2.2.2.1, s.2.2.2.2.2.2.2.2.2.2.2.2.2.2.1, s.2.2.2.2.2.2.2.2.2.2.2.2.2.2.2.1, s.2.2.2.2.2.2.2.2.2.2.2.2.2.2.2.2.1, s.2.2.2.2.2.2.2.2.2.2.2.2.2.2.2.2.2.1, s.2.2.2.2.2.2.2.2.2.2.2.2.2.2.2.2.2.2.1, s.2.2.2.2.2.2.2.2.2.2.2.2.2.2.2.2.2.2.2.1, s.2.2.2.2.2.2.2.2.2.2.2.2.2.2.2.2.2.2.2.2)
def Q.s_faultAggressor (s : Q) (x : List Int32) : Q := (s.1, s.2.1, s.2.2.1, x, s.2.2.2.2.1, s.2.2.2.2.2.1, s.2.2.2.2.2.2.1, s.2.2.2.2.2.2.2.1, s.2.2.2.2.2.2.2.2.1, s.2.2.2.2.2.2.2.2.2.1, s.2.2.2.2.2.2.2.2.2.2.1, s.2.2.2.2.2.2.2.2.2.2.2.1, s.2.2.2.2.2.2.2.2.2.2.2.2.1, s.2.2.2.2.2.2.2.2.2.2.2.2.2.1, s.2.2.2.2.2.2.2.2.2.2.2.2.2.2.1, s.2.2.2.2.2.2.2.2.2.2.2.2.2.2.2.1, s.2.2.2.2.2.2.2.2.2.2.2.2.2.2.2.2.1, s.2.2.2.2.2.2.2.2.2.2.2.2.2.2.2.2.2.1, s.2.2.2.2.2.2.2.2.2.2.2.2.2.2.2.2.2.2.1, s.2.2.2.2.2.2.2.2.2.2.2.2.2.2.2.2.2.2.2.1, s.2.2.2.2.2.2.2.2.2.2.2.2.2.2.2.2.2.2.2.2)
def Q.s_faultTrigger (s : Q) (x : List Int32) : Q := (s.1, s.2.1, s.2.2.1, s.2.2.2.1, x, s.2.2.2.2.2.1, s.2.2.2.2.2.2.1, s.2.2.2.2.2.2.2.1, s.2.2.2.2.2.2.2.2.1, s.2.2.2.2.2.2.2.2.2.1, s.2.2.2.2.2.2.2.2.2.2.1, s.2.2.2.2.2.2.2.2.2.2.2.1, s.2.2.2.2.2.2.2.2.2.2.2.2.1, s.2.2.2.2.2.2.2.2.2.2.2.2.2.1, s.2.2.2.2.2.2.2.2.2.2.2.2.2.2.1, s.2.2.2.2.2.2.2.2.2.2.2.2.2.2.2.1, s.2.2.2.2.2.2.2.2.2.2.2.2.2.2.2.2.1, s.2.2.2.2.2.2.2.2.2.2.2.2.2.2.2.2.2.1, s.2.2.2.2.2.2.2.2.2.2.2.2.2.2.2.2.2.2.1, s.2.2.2.2.2.2.2.2.2.2.2.2.2.2.2.2.2.2.2.1, s.2.2.2.2.2.2.2.2.2.2.2.2.2.2.2.2.2.2.2.2)
def Q.s_victimSlot (s : Q) (x : List Int32) : Q := (s.1, s.2.1, s.2.2.1, s.2.2.2.1, s.2.2.2.2.1, x, s.2.2.2.2.2.2.1, s.2.2.2.2.2.2.2.1, s.2.2.2.2.2.2.2.2.1, s.2.2.2.2.2.2.2.2.2.1, s.2.2.2.2.2.2.2.2.2.2.1, s.2.2.2.2.2.2.2.2.2.2.2.1, s.2.2.2.2.2.2.2.2.2.2.2.2.1, s.2.2.2.2.2.2.2.2.2.2.2.2.2.1, s.2.2.2.2.2.2.2.2.2.2.2.2.2.2.1, s.2.2.2.2.2.2.2.2.2.2.2.2.2.2.2.1, s.2.2.2.2.2.2.2.2.2.2.2.2.2.2.2.2.1, s.2.2.2.2.2.2.2.2.2.2.2.2.2.2.2.2.2.1, s.2.2.2.2.2.2.2.2.2.2.2.2.2.2.2.2.2.2.1, s.2.2.2.2.2.2.2.2.2.2.2.2.2.2.2.2.2.2.2.1, s.2.2.2.2.2.2.2.2.2.2.2.2.2.2.2.2.2.2.2.2)
def Q.s_aggressorUses (s : Q) (x : List Int32) : Q := (s.1, s.2.1, s.2.2.1, s.2.2.2.1, s.2.2.2.2.1, s.2.2.2.2.2.1, x, s.2.2.2.2.2.2.2.1, s.2.2.2.2.2.2.2.2.1, s.2.2.2.2.2.2.2.2.2.1, s.2.2.2.2.2.2.2.2.2.2.1, s.2.2.2.2.2.2.2.2.2.2.2.1, s.2.2.2.2.2.2.2.2.2.2.2.2.1, s.2.2.2.2.2.2.2.2.2.2.2.2.2.1, s.2.2.2.2.2.2.2.2.2.2.2.2.2.2.1, s.2.2.2.2.2.2.2.2.2.2.2.2.2.2.2.1, s.2.2.2.2.2.2.2.2.2.2.2.2.2.2.2.2.1, s.2.2.2.2.2.2.2.2.2.2.2.2.2.2.2.2.2.1, s.2.2.2.2.2.2.2.2.2.2.2.2.2.2.2.2.2.2.1, s.2.2.2.2.2.2.2.2.2.2.2.2.2.2.2.2.2.2.2.1, s.2.2.2.2.2.2.2.2.2.2.2.2.2.2.2.2.2.2.2.2)
def Q.s_elementOrder (s : Q) (x : List Int32) : Q := (s.1, s.2.1, s.2.2.1, s.2.2.2.1, s.2.2.2.2.1, s.2.2.2.2.2.1, s.2.2.2.2.2.2.1, x, s.2.2.2.2.2.2.2.2.1, s.2.2.2.2.2.2.2.2.2.1, s.2.2.2.2.2.2.2.2.2.2.1, s.2.2.2.2.2.2.2.2.2.2.2.1, s.2.2.2.2.2.2.2.2.2.2.2.2.1, s.2.2.2.2.2.2.2.2.2.2.2.2.2.1, s.2.2.2.2.2.2.2.2.2.2.2.2.2.2.1, s.2.2.2.2.2.2.2.2.2.2.2.2.2.2.2.1, s.2.2.2.2.2.2.2.2.2.2.2.2.2.2.2.2.1, s.2.2.2.2.2.2.2.2.2.2.2.2.2.2.2.2.2.1, s.2.2.2.2.2.2.2.2.2.2.2.2.2.2.2.2.2.2.1, s.2.2.2.2.2.2.2.2.2.2.2.2.2.2.2.2.2.2.2.1, s.2.2.2.2.2.2.2.2.2.2.2.2.2.2.2.2.2.2.2.2)
def Q.s_elementCount (s : Q) (x : List Int32) : Q := (s.1, s.2.1, s.2.2.1, s.2.2.2.1, s.2.2.2.2.1, s.2.2.2.2.2.1, s.2.2.2.2.2.2.1, s.2.2.2.2.2.2.2.1, x, s.2.2.2.2.2.2.2.2.2.1, s.2.2.2.2.2.2.2.2.2.2.1, s.2.2.2.2.2.2.2.2.2.2.2.1, s.2.2.2.2.2.2.2.2.2.2.2.2.1, s.2.2.2.2.2.2.2.2.2.2.2.2.2.1, s.2.2.2.2.2.2.2.2.2.2.2.2.2.2.1, s.2.2.2.2.2.2.2.2.2.2.2.2.2.2.2.1, s.2.2.2.2.2.2.2.2.2.2.2.2.2.2.2.2.1, s.2.2.2.2.2.2.2.2.2.2.2.2.2.2.2.2.2.1, s.2.2.2.2.2.2.2.2.2.2.2.2.2.2.2.2.2.2.1, s.2.2.2.2.2.2.2.2.2.2.2.2.2.2.2.2.2.2.2.1, s.2.2.2.2.2.2.2.2.2.2.2.2.2.2.2.2.2.2.2.2)
def Q.s_elementOps (s : Q) (x : List Int32) : Q := (s.1, s.2.1, s.2.2.1, s.2.2.2.1, s.2.2.2.2.1, s.2.2.2.2.2.1, s.2.2.2.2.2.2.1, s.2.2.2.2.2.2.2.1, s.2.2.2.2.2.2.2.2.1, x, s.2.2.2.2.2.2.2.2.2.2.1, s.2.2.2.2.2.2.2.2.2.2.2.1, s.2.2.2.2.2.2.2.2.2.2.2.2.1, s.2.2.2.2.2.2.2.2.2.2.2.2.2.1, s.2.2.2.2.2.2.2.2.2.2.2.2.2.2.1, s.2.2.2.2.2.2.2.2.2.2.2.2.2.2.2.1, s.2.2.2.2.2.2.2.2.2.2.2.2.2.2.2.2.1, s.2.2.2.2.2.2.2.2.2.2.2.2.2.2.2.2.2.1, s.2.2.2.2.2.2.2.2.2.2.2.2.2.2.2.2.2.2.1, s.2.2.2.2.2.2.2.2.2.2.2.2.2.2.2.2.2.2.2.1, s.2.2.2.2.2.2.2.2.2.2.2.2.2.2.2.2.2.2.2.2)
def Q.s_logBuffer (s : Q) (x : List Int32) : Q := (s.1, s.2.1, s.2.2.1, s.2.2.2.1, s.2.2.2.2.1, s.2.2.2.2.2.1, s.2.2.2.2.2.2.1, s.2.2.2.2.2.2.2.1, s.2.2.2.2.2.2.2.2.1, s.2.2.2.2.2.2.2.2.2.1, x, s.2.2.2.2.2.2.2.2.2.2.2.1, s.2.2.2.2.2.2.2.2.2.2.2.2.1, s.2.2.2.2.2.2.2.2.2.2.2.2.2.1, s.2.2.2.2.2.2.2.2.2.2.2.2.2.2.1, s.2.2.2.2.2.2.2.2.2.2.2.2.2.2.2.1, s.2.2.2.2.2.2.2.2.2.2.2.2.2.2.2.2.1, s.2.2.2.2.2.2.2.2.2.2.2.2.2.2.2.2.2.1, s.2.2.2.2.2.2.2.2.2.2.2.2.2.2.2.2.2.2.1, s.2.2.2.2.2.2.2.2.2.2.2.2.2.2.2.2.2.2.2.1, s.2.2.2.2.2.2.2.2.2.2.2.2.2.2.2.2.2.2.2.2)
def Q.s_remap (s : Q) (x : List Int32) : Q := (s.1, s.2.1, s.2.2.1, s.2.2.2.1, s.2.2.2.2.1, s.2.2.2.2.2.1, s.2.2.2.2.2.2.1, s.2.2.2.2.2.2.2.1, s.2.2.2.2.2.2.2.2.1, s.2.2.2.2.2.2.2.2.2.1, s.2.2.2.2.2.2.2.2.2.2.1, x, s.2.2.2.2.2.2.2.2.2.2.2.2.1, s.2.2.2.2.2.2.2.2.2.2.2.2.2.1, s.2.2.2.2.2.2.2.2.2.2.2.2.2.2.1, s.2.2.2.2.2.2.2.2.2.2.2.2.2.2.2.1, s.2.2.2.2.2.2.2.2.2.2.2.2.2.2.2.2.1, s.2.2.2.2.2.2.2.2.2.2.2.2.2.2.2.2.2.1, s.2.2.2.2.2.2.2.2.2.2.2.2.2.2.2.2.2.2.1, s.2.2.2.2.2.2.2.2.2.2.2.2.2.2.2.2.2.2.2.1, s.2.2.2.2.2.2.2.2.2.2.2.2.2.2.2.2.2.2.2.2)
def Q.s_spareTaken (s : Q) (x : List Int32) : Q := (s.1, s.2.1, s.2.2.1, s.2.2.2.1, s.2.2.2.2.1, s.2.2.2.2.2.1, s.2.2.2.2.2.2.1, s.2.2.2.2.2.2.2.1, s.2.2.2.2.2.2.2.2.1, s.2.2.2.2.2.2.2.2.2.1, s.2.2.2.2.2.2.2.2.2.2.1, s.2.2.2.2.2.2.2.2.2.2.2.1, x, s.2.2.2.2.2.2.2.2.2.2.2.2.2.1, s.2.2.2.2.2.2.2.2.2.2.2.2.2.2.1, s.2.2.2.2.2.2.2.2.2.2.2.2.2.2.2.1, s.2.2.2.2.2.2.2.2.2.2.2.2.2.2.2.2.1, s.2.2.2.2.2.2.2.2.2.2.2.2.2.2.2.2.2.1, s.2.2.2.2.2.2.2.2.2.2.2.2.2.2.2.2.2.2.1, s.2.2.2.2.2.2.2.2.2.2.2.2.2.2.2.2.2.2.2.1, s.2.2.2.2.2.2.2.2.2.2.2.2.2.2.2.2.2.2.2.2)
def Q.s_spareRows (s : Q) (x : Int32) : Q := (s.1, s.2.1, s.2.2.1, s.2.2.2.1, s.2.2.2.2.1, s.2.2.2.2.2.1, s.2.2.2.2.2.2.1, s.2.2.2.2.2.2.2.1, s.2.2.2.2.2.2.2.2.1, s.2.2.2.2.2.2.2.2.2.1, s.2.2.2.2.2.2.2.2.2.2.1, s.2.2.2.2.2.2.2.2.2.2.2.1, s.2.2.2.2.2.2.2.2.2.2.2.2.1, x, s.2.2.2.2.2.2.2.2.2.2.2.2.2.2.1, s.2.2.2.2.2.2.2.2.2.2.2.2.2.2.2.1, s.2.2.2.2.2.2.2.2.2.2.2.2.2.2.2.2.1, s.2.2.2.2.2.2.2.2.2.2.2.2.2.2.2.2.2.1, s.2.2.2.2.2.2.2.2.2.2.2.2.2.2.2.2.2.2.1, s.2.2.2.2.2.2.2.2.2.2.2.2.2.2.2.2.2.2.2.1, s.2.2.2.2.2.2.2.2.2.2.2.2.2.2.2.2.2.2.2.2)
def Q.s_faultLimit (s : Q) (x : Int32) : Q := (s.1, s.2.1, s.2.2.1, s.2.2.2.1, s.2.2.2.2.1, s.2.2.2.2.2.1, s.2.2.2.2.2.2.1, s.2.2.2.2.2.2.2.1, s.2.2.2.2.2.2.2.2.1, s.2.2.2.2.2.2.2.2.2.1, s.2.2.2.2.2.2.2.2.2.2.1, s.2.2.2.2.2.2.2.2.2.2.2.1, s.2.2.2.2.2.2.2.2.2.2.2.2.1, s.2.2.2.2.2.2.2.2.2.2.2.2.2.1, x, s.2.2.2.2.2.2.2.2.2.2.2.2.2.2.2.1, s.2.2.2.2.2.2.2.2.2.2.2.2.2.2.2.2.1, s.2.2.2.2.2.2.2.2.2.2.2.2.2.2.2.2.2.1, s.2.2.2.2.2.2.2.2.2.2.2.2.2.2.2.2.2.2.1, s.2.2.2.2.2.2.2.2.2.2.2.2.2.2.2.2.2.2.2.1, s.2.2.2.2.2.2.2.2.2.2.2.2.2.2.2.2.2.2.2.2)
def Q.s_logLimit (s : Q) (x : Int32) : Q := (s.1, s.2.1, s.2.2.1, s.2.2.2.1, s.2.2.2.2.1, s.2.2.2.2.2.1, s.2.2.2.2.2.2.1, s.2.2.2.2.2.2.2.1, s.2.2.2.2.2.2.2.2.1, s.2.2.2.2.2.2.2.2.2.1, s.2.2.2.2.2.2.2.2.2.2.1, s.2.2.2.2.2.2.2.2.2.2.2.1, s.2.2.2.2.2.2.2.2.2.2.2.2.1, s.2.2.2.2.2.2.2.2.2.2.2.2.2.1, s.2.2.2.2.2.2.2.2.2.2.2.2.2.2.1, x, s.2.2.2.2.2.2.2.2.2.2.2.2.2.2.2.2.1, s.2.2.2.2.2.2.2.2.2.2.2.2.2.2.2.2.2.1, s.2.2.2.2.2.2.2.2.2.2.2.2.2.2.2.2.2.2.1, s.2.2.2.2.2.2.2.2.2.2.2.2.2.2.2.2.2.2.2.1, s.2.2.2.2.2.2.2.2.2.2.2.2.2.2.2.2.2.2.2.2)
def Q.s_latchBit (s : Q) (x : Int32) : Q := (s.1, s.2.1, s.2.2.1, s.2.2.2.1, s.2.2.2.2.1, s.2.2.2.2.2.1, s.2.2.2.2.2.2.1, s.2.2.2.2.2.2.2.1, s.2.2.2.2.2.2.2.2.1, s.2.2.2.2.2.2.2.2.2.1, s.2.2.2.2.2.2.2.2.2.2.1, s.2.2.2.2.2.2.2.2.2.2.2.1, s.2.2.2.2.2.2.2.2.2.2.2.2.1, s.2.2.2.2.2.2.2.2.2.2.2.2.2.1, s.2.2.2.2.2.2.2.2.2.2.2.2.2.2.1, s.2.2.2.2.2.2.2.2.2.2.2.2.2.2.2.1, x, s.2.2.2.2.2.2.2.2.2.2.2.2.2.2.2.2.2.1, s.2.2.2.2.2.2.2.2.2.2.2.2.2.2.2.2.2.2.1, s.2.2.2.2.2.2.2.2.2.2.2.2.2.2.2.2.2.2.2.1, s.2.2.2.2.2.2.2.2.2.2.2.2.2.2.2.2.2.2.2.2)
def Q.s_faultCount (s : Q) (x : Int32) : Q := (s.1, s.2.1, s.2.2.1, s.2.2.2.1, s.2.2.2.2.1, s.2.2.2.2.2.1, s.2.2.2.2.2.2.1, s.2.2.2.2.2.2.2.1, s.2.2.2.2.2.2.2.2.1, s.2.2.2.2.2.2.2.2.2.1, s.2.2.2.2.2.2.2.2.2.2.1, s.2.2.2.2.2.2.2.2.2.2.2.1, s.2.2.2.2.2.2.2.2.2.2.2.2.1, s.2.2.2.2.2.2.2.2.2.2.2.2.2.1, s.2.2.2.2.2.2.2.2.2.2.2.2.2.2.1, s.2.2.2.2.2.2.2.2.2.2.2.2.2.2.2.1, s.2.2.2.2.2.2.2.2.2.2.2.2.2.2.2.2.1, x, s.2.2.2.2.2.2.2.2.2.2.2.2.2.2.2.2.2.2.1, s.2.2.2.2.2.2.2.2.2.2.2.2.2.2.2.2.2.2.2.1, s.2.2.2.2.2.2.2.2.2.2.2.2.2.2.2.2.2.2.2.2)
def Q.s_programLength (s : Q) (x : Int32) : Q := (s.1, s.2.1, s.2.2.1, s.2.2.2.1, s.2.2.2.2.1, s.2.2.2.2.2.1, s.2.2.2.2.2.2.1, s.2.2.2.2.2.2.2.1, s.2.2.2.2.2.2.2.2.1, s.2.2.2.2.2.2.2.2.2.1, s.2.2.2.2.2.2.2.2.2.2.1, s.2.2.2.2.2.2.2.2.2.2.2.1, s.2.2.2.2.2.2.2.2.2.2.2.2.1, s.2.2.2.2.2.2.2.2.2.2.2.2.2.1, s.2.2.2.2.2.2.2.2.2.2.2.2.2.2.1, s.2.2.2.2.2.2.2.2.2.2.2.2.2.2.2.1, s.2.2.2.2.2.2.2.2.2.2.2.2.2.2.2.2.1, s.2.2.2.2.2.2.2.2.2.2.2.2.2.2.2.2.2.1, x, s.2.2.2.2.2.2.2.2.2.2.2.2.2.2.2.2.2.2.2.1, s.2.2.2.2.2.2.2.2.2.2.2.2.2.2.2.2.2.2.2.2)
def Q.s_logLength (s : Q) (x : Int32) : Q := (s.1, s.2.1, s.2.2.1, s.2.2.2.1, s.2.2.2.2.1, s.2.2.2.2.2.1, s.2.2.2.2.2.2.1, s.2.2.2.2.2.2.2.1, s.2.2.2.2.2.2.2.2.1, s.2.2.2.2.2.2.2.2.2.1, s.2.2.2.2.2.2.2.2.2.2.1, s.2.2.2.2.2.2.2.2.2.2.2.1, s.2.2.2.2.2.2.2.2.2.2.2.2.1, s.2.2.2.2.2.2.2.2.2.2.2.2.2.1, s.2.2.2.2.2.2.2.2.2.2.2.2.2.2.1, s.2.2.2.2.2.2.2.2.2.2.2.2.2.2.2.1, s.2.2.2.2.2.2.2.2.2.2.2.2.2.2.2.2.1, s.2.2.2.2.2.2.2.2.2.2.2.2.2.2.2.2.2.1, s.2.2.2.2.2.2.2.2.2.2.2.2.2.2.2.2.2.2.1, x, s.2.2.2.2.2.2.2.2.2.2.2.2.2.2.2.2.2.2.2.2)
def Q.s_failMask (s : Q) (x : Int32) : Q := (s.1, s.2.1, s.2.2.1, s.2.2.2.1, s.2.2.2.2.1, s.2.2.2.2.2.1, s.2.2.2.2.2.2.1, s.2.2.2.2.2.2.2.1, s.2.2.2.2.2.2.2.2.1, s.2.2.2.2.2.2.2.2.2.1, s.2.2.2.2.2.2.2.2.2.2.1, s.2.2.2.2.2.2.2.2.2.2.2.1, s.2.2.2.2.2.2.2.2.2.2.2.2.1, s.2.2.2.2.2.2.2.2.2.2.2.2.2.1, s.2.2.2.2.2.2.2.2.2.2.2.2.2.2.1, s.2.2.2.2.2.2.2.2.2.2.2.2.2.2.2.1, s.2.2.2.2.2.2.2.2.2.2.2.2.2.2.2.2.1, s.2.2.2.2.2.2.2.2.2.2.2.2.2.2.2.2.2.1, s.2.2.2.2.2.2.2.2.2.2.2.2.2.2.2.2.2.2.1, s.2.2.2.2.2.2.2.2.2.2.2.2.2.2.2.2.2.2.2.1, x)
def Q0 : Q := (List.replicate 320 0, List.replicate 16 0, List.replicate 16 0, List.replicate 16 0, List.replicate 16 0, List.replicate 256 0, List.replicate 256 0, List.replicate 8 0, List.replicate 8 0, List.replicate 8 0, List.replicate 32 0, List.replicate 16 0, List.replicate 4 0, (0 : Int32), (0 : Int32), (0 : Int32), (0 : Int32), (0 : Int32), (0 : Int32), (0 : Int32), (0 : Int32))
def Q.mk (q0 : List Int32) (q1 : List Int32) (q2 : List Int32) (q3 : List Int32) (q4 : List Int32) (q5 : List Int32) (q6 : List Int32) (q7 : List Int32) (q8 : List Int32) (q9 : List Int32) (q10 : List Int32) (q11 : List Int32) (q12 : List Int32) (q13 q14 : Int32) (q15 q16 : Int32) (q17 q18 : Int32) (q19 q20 : Int32) : Q := (q0, q1, q2, q3, q4, q5, q6, q7, q8, q9, q10, q11, q12, q13, q14, q15, q16, q17, q18, q19, q20)
theorem own_f_cells {q0 : List Int32} {q1 : List Int32} {q2 : List Int32} {q3 : List Int32} {q4 : List Int32} {q5 : List Int32} {q6 : List Int32} {q7 : List Int32} {q8 : List Int32} {q9 : List Int32} {q10 : List Int32} {q11 : List Int32} {q12 : List Int32} {q13 : Int32} {q14 : Int32} {q15 : Int32} {q16 : Int32} {q17 : Int32} {q18 : Int32} {q19 : Int32} {q20 : Int32} : (Q.mk q0 q1 q2 q3 q4 q5 q6 q7 q8 q9 q10 q11 q12 q13 q14 q15 q16 q17 q18 q19 q20).f_cells = q0 := by have _h := trivial; exact rfl
theorem own_f_faultKind {q0 : List Int32} {q1 : List Int32} {q2 : List Int32} {q3 : List Int32} {q4 : List Int32} {q5 : List Int32} {q6 : List Int32} {q7 : List Int32} {q8 : List Int32} {q9 : List Int32} {q10 : List Int32} {q11 : List Int32} {q12 : List Int32} {q13 : Int32} {q14 : Int32} {q15 : Int32} {q16 : Int32} {q17 : Int32} {q18 : Int32} {q19 : Int32} {q20 : Int32} : (Q.mk q0 q1 q2 q3 q4 q5 q6 q7 q8 q9 q10 q11 q12 q13 q14 q15 q16 q17 q18 q19 q20).f_faultKind = q1 := by have _h := trivial; exact rfl
theorem own_f_faultVictim {q0 : List Int32} {q1 : List Int32} {q2 : List Int32} {q3 : List Int32} {q4 : List Int32} {q5 : List Int32} {q6 : List Int32} {q7 : List Int32} {q8 : List Int32} {q9 : List Int32} {q10 : List Int32} {q11 : List Int32} {q12 : List Int32} {q13 : Int32} {q14 : Int32} {q15 : Int32} {q16 : Int32} {q17 : Int32} {q18 : Int32} {q19 : Int32} {q20 : Int32} : (Q.mk q0 q1 q2 q3 q4 q5 q6 q7 q8 q9 q10 q11 q12 q13 q14 q15 q16 q17 q18 q19 q20).f_faultVictim = q2 := by have _h := trivial; exact rfl
theorem own_f_faultAggressor {q0 : List Int32} {q1 : List Int32} {q2 : List Int32} {q3 : List Int32} {q4 : List Int32} {q5 : List Int32} {q6 : List Int32} {q7 : List Int32} {q8 : List Int32} {q9 : List Int32} {q10 : List Int32} {q11 : List Int32} {q12 : List Int32} {q13 : Int32} {q14 : Int32} {q15 : Int32} {q16 : Int32} {q17 : Int32} {q18 : Int32} {q19 : Int32} {q20 : Int32} : (Q.mk q0 q1 q2 q3 q4 q5 q6 q7 q8 q9 q10 q11 q12 q13 q14 q15 q16 q17 q18 q19 q20).f_faultAggressor = q3 := by have _h := trivial; exact rfl
theorem own_f_faultTrigger {q0 : List Int32} {q1 : List Int32} {q2 : List Int32} {q3 : List Int32} {q4 : List Int32} {q5 : List Int32} {q6 : List Int32} {q7 : List Int32} {q8 : List Int32} {q9 : List Int32} {q10 : List Int32} {q11 : List Int32} {q12 : List Int32} {q13 : Int32} {q14 : Int32} {q15 : Int32} {q16 : Int32} {q17 : Int32} {q18 : Int32} {q19 : Int32} {q20 : Int32} : (Q.mk q0 q1 q2 q3 q4 q5 q6 q7 q8 q9 q10 q11 q12 q13 q14 q15 q16 q17 q18 q19 q20).f_faultTrigger = q4 := by have _h := trivial; exact rfl
theorem own_f_victimSlot {q0 : List Int32} {q1 : List Int32} {q2 : List Int32} {q3 : List Int32} {q4 : List Int32} {q5 : List Int32} {q6 : List Int32} {q7 : List Int32} {q8 : List Int32} {q9 : List Int32} {q10 : List Int32} {q11 : List Int32} {q12 : List Int32} {q13 : Int32} {q14 : Int32} {q15 : Int32} {q16 : Int32} {q17 : Int32} {q18 : Int32} {q19 : Int32} {q20 : Int32} : (Q.mk q0 q1 q2 q3 q4 q5 q6 q7 q8 q9 q10 q11 q12 q13 q14 q15 q16 q17 q18 q19 q20).f_victimSlot = q5 := by have _h := trivial; exact rfl
theorem own_f_aggressorUses {q0 : List Int32} {q1 : List Int32} {q2 : List Int32} {q3 : List Int32} {q4 : List Int32} {q5 : List Int32} {q6 : List Int32} {q7 : List Int32} {q8 : List Int32} {q9 : List Int32} {q10 : List Int32} {q11 : List Int32} {q12 : List Int32} {q13 : Int32} {q14 : Int32} {q15 : Int32} {q16 : Int32} {q17 : Int32} {q18 : Int32} {q19 : Int32} {q20 : Int32} : (Q.mk q0 q1 q2 q3 q4 q5 q6 q7 q8 q9 q10 q11 q12 q13 q14 q15 q16 q17 q18 q19 q20).f_aggressorUses = q6 := by have _h := trivial; exact rfl
theorem own_f_elementOrder {q0 : List Int32} {q1 : List Int32} {q2 : List Int32} {q3 : List Int32} {q4 : List Int32} {q5 : List Int32} {q6 : List Int32} {q7 : List Int32} {q8 : List Int32} {q9 : List Int32} {q10 : List Int32} {q11 : List Int32} {q12 : List Int32} {q13 : Int32} {q14 : Int32} {q15 : Int32} {q16 : Int32} {q17 : Int32} {q18 : Int32} {q19 : Int32} {q20 : Int32} : (Q.mk q0 q1 q2 q3 q4 q5 q6 q7 q8 q9 q10 q11 q12 q13 q14 q15 q16 q17 q18 q19 q20).f_elementOrder = q7 := by have _h := trivial; exact rfl
theorem own_f_elementCount {q0 : List Int32} {q1 : List Int32} {q2 : List Int32} {q3 : List Int32} {q4 : List Int32} {q5 : List Int32} {q6 : List Int32} {q7 : List Int32} {q8 : List Int32} {q9 : List Int32} {q10 : List Int32} {q11 : List Int32} {q12 : List Int32} {q13 : Int32} {q14 : Int32} {q15 : Int32} {q16 : Int32} {q17 : Int32} {q18 : Int32} {q19 : Int32} {q20 : Int32} : (Q.mk q0 q1 q2 q3 q4 q5 q6 q7 q8 q9 q10 q11 q12 q13 q14 q15 q16 q17 q18 q19 q20).f_elementCount = q8 := by have _h := trivial; exact rfl
theorem own_f_elementOps {q0 : List Int32} {q1 : List Int32} {q2 : List Int32} {q3 : List Int32} {q4 : List Int32} {q5 : List Int32} {q6 : List Int32} {q7 : List Int32} {q8 : List Int32} {q9 : List Int32} {q10 : List Int32} {q11 : List Int32} {q12 : List Int32} {q13 : Int32} {q14 : Int32} {q15 : Int32} {q16 : Int32} {q17 : Int32} {q18 : Int32} {q19 : Int32} {q20 : Int32} : (Q.mk q0 q1 q2 q3 q4 q5 q6 q7 q8 q9 q10 q11 q12 q13 q14 q15 q16 q17 q18 q19 q20).f_elementOps = q9 := by have _h := trivial; exact rfl
theorem own_f_logBuffer {q0 : List Int32} {q1 : List Int32} {q2 : List Int32} {q3 : List Int32} {q4 : List Int32} {q5 : List Int32} {q6 : List Int32} {q7 : List Int32} {q8 : List Int32} {q9 : List Int32} {q10 : List Int32} {q11 : List Int32} {q12 : List Int32} {q13 : Int32} {q14 : Int32} {q15 : Int32} {q16 : Int32} {q17 : Int32} {q18 : Int32} {q19 : Int32} {q20 : Int32} : (Q.mk q0 q1 q2 q3 q4 q5 q6 q7 q8 q9 q10 q11 q12 q13 q14 q15 q16 q17 q18 q19 q20).f_logBuffer = q10 := by have _h := trivial; exact rfl
theorem own_f_remap {q0 : List Int32} {q1 : List Int32} {q2 : List Int32} {q3 : List Int32} {q4 : List Int32} {q5 : List Int32} {q6 : List Int32} {q7 : List Int32} {q8 : List Int32} {q9 : List Int32} {q10 : List Int32} {q11 : List Int32} {q12 : List Int32} {q13 : Int32} {q14 : Int32} {q15 : Int32} {q16 : Int32} {q17 : Int32} {q18 : Int32} {q19 : Int32} {q20 : Int32} : (Q.mk q0 q1 q2 q3 q4 q5 q6 q7 q8 q9 q10 q11 q12 q13 q14 q15 q16 q17 q18 q19 q20).f_remap = q11 := by have _h := trivial; exact rfl
theorem own_f_spareTaken {q0 : List Int32} {q1 : List Int32} {q2 : List Int32} {q3 : List Int32} {q4 : List Int32} {q5 : List Int32} {q6 : List Int32} {q7 : List Int32} {q8 : List Int32} {q9 : List Int32} {q10 : List Int32} {q11 : List Int32} {q12 : List Int32} {q13 : Int32} {q14 : Int32} {q15 : Int32} {q16 : Int32} {q17 : Int32} {q18 : Int32} {q19 : Int32} {q20 : Int32} : (Q.mk q0 q1 q2 q3 q4 q5 q6 q7 q8 q9 q10 q11 q12 q13 q14 q15 q16 q17 q18 q19 q20).f_spareTaken = q12 := by have _h := trivial; exact rfl
theorem own_f_spareRows {q0 : List Int32} {q1 : List Int32} {q2 : List Int32} {q3 : List Int32} {q4 : List Int32} {q5 : List Int32} {q6 : List Int32} {q7 : List Int32} {q8 : List Int32} {q9 : List Int32} {q10 : List Int32} {q11 : List Int32} {q12 : List Int32} {q13 : Int32} {q14 : Int32} {q15 : Int32} {q16 : Int32} {q17 : Int32} {q18 : Int32} {q19 : Int32} {q20 : Int32} : (Q.mk q0 q1 q2 q3 q4 q5 q6 q7 q8 q9 q10 q11 q12 q13 q14 q15 q16 q17 q18 q19 q20).f_spareRows = q13 := by have _h := trivial; exact rfl
theorem own_f_faultLimit {q0 : List Int32} {q1 : List Int32} {q2 : List Int32} {q3 : List Int32} {q4 : List Int32} {q5 : List Int32} {q6 : List Int32} {q7 : List Int32} {q8 : List Int32} {q9 : List Int32} {q10 : List Int32} {q11 : List Int32} {q12 : List Int32} {q13 : Int32} {q14 : Int32} {q15 : Int32} {q16 : Int32} {q17 : Int32} {q18 : Int32} {q19 : Int32} {q20 : Int32} : (Q.mk q0 q1 q2 q3 q4 q5 q6 q7 q8 q9 q10 q11 q12 q13 q14 q15 q16 q17 q18 q19 q20).f_faultLimit = q14 := by have _h := trivial; exact rfl
theorem own_f_logLimit {q0 : List Int32} {q1 : List Int32} {q2 : List Int32} {q3 : List Int32} {q4 : List Int32} {q5 : List Int32} {q6 : List Int32} {q7 : List Int32} {q8 : List Int32} {q9 : List Int32} {q10 : List Int32} {q11 : List Int32} {q12 : List Int32} {q13 : Int32} {q14 : Int32} {q15 : Int32} {q16 : Int32} {q17 : Int32} {q18 : Int32} {q19 : Int32} {q20 : Int32} : (Q.mk q0 q1 q2 q3 q4 q5 q6 q7 q8 q9 q10 q11 q12 q13 q14 q15 q16 q17 q18 q19 q20).f_logLimit = q15 := by have _h := trivial; exact rfl
theorem own_f_latchBit {q0 : List Int32} {q1 : List Int32} {q2 : List Int32} {q3 : List Int32} {q4 : List Int32} {q5 : List Int32} {q6 : List Int32} {q7 : List Int32} {q8 : List Int32} {q9 : List Int32} {q10 : List Int32} {q11 : List Int32} {q12 : List Int32} {q13 : Int32} {q14 : Int32} {q15 : Int32} {q16 : Int32} {q17 : Int32} {q18 : Int32} {q19 : Int32} {q20 : Int32} : (Q.mk q0 q1 q2 q3 q4 q5 q6 q7 q8 q9 q10 q11 q12 q13 q14 q15 q16 q17 q18 q19 q20).f_latchBit = q16 := by have _h := trivial; exact rfl
theorem own_f_faultCount {q0 : List Int32} {q1 : List Int32} {q2 : List Int32} {q3 : List Int32} {q4 : List Int32} {q5 : List Int32} {q6 : List Int32} {q7 : List Int32} {q8 : List Int32} {q9 : List Int32} {q10 : List Int32} {q11 : List Int32} {q12 : List Int32} {q13 : Int32} {q14 : Int32} {q15 : Int32} {q16 : Int32} {q17 : Int32} {q18 : Int32} {q19 : Int32} {q20 : Int32} : (Q.mk q0 q1 q2 q3 q4 q5 q6 q7 q8 q9 q10 q11 q12 q13 q14 q15 q16 q17 q18 q19 q20).f_faultCount = q17 := by have _h := trivial; exact rfl
theorem own_f_programLength {q0 : List Int32} {q1 : List Int32} {q2 : List Int32} {q3 : List Int32} {q4 : List Int32} {q5 : List Int32} {q6 : List Int32} {q7 : List Int32} {q8 : List Int32} {q9 : List Int32} {q10 : List Int32} {q11 : List Int32} {q12 : List Int32} {q13 : Int32} {q14 : Int32} {q15 : Int32} {q16 : Int32} {q17 : Int32} {q18 : Int32} {q19 : Int32} {q20 : Int32} : (Q.mk q0 q1 q2 q3 q4 q5 q6 q7 q8 q9 q10 q11 q12 q13 q14 q15 q16 q17 q18 q19 q20).f_programLength = q18 := by have _h := trivial; exact rfl
theorem own_f_logLength {q0 : List Int32} {q1 : List Int32} {q2 : List Int32} {q3 : List Int32} {q4 : List Int32} {q5 : List Int32} {q6 : List Int32} {q7 : List Int32} {q8 : List Int32} {q9 : List Int32} {q10 : List Int32} {q11 : List Int32} {q12 : List Int32} {q13 : Int32} {q14 : Int32} {q15 : Int32} {q16 : Int32} {q17 : Int32} {q18 : Int32} {q19 : Int32} {q20 : Int32} : (Q.mk q0 q1 q2 q3 q4 q5 q6 q7 q8 q9 q10 q11 q12 q13 q14 q15 q16 q17 q18 q19 q20).f_logLength = q19 := by have _h := trivial; exact rfl
theorem own_f_failMask {q0 : List Int32} {q1 : List Int32} {q2 : List Int32} {q3 : List Int32} {q4 : List Int32} {q5 : List Int32} {q6 : List Int32} {q7 : List Int32} {q8 : List Int32} {q9 : List Int32} {q10 : List Int32} {q11 : List Int32} {q12 : List Int32} {q13 : Int32} {q14 : Int32} {q15 : Int32} {q16 : Int32} {q17 : Int32} {q18 : Int32} {q19 : Int32} {q20 : Int32} : (Q.mk q0 q1 q2 q3 q4 q5 q6 q7 q8 q9 q10 q11 q12 q13 q14 q15 q16 q17 q18 q19 q20).f_failMask = q20 := by have _h := trivial; exact rfl
theorem own_e_cells (s : Q) (x : List Int32) : s.s_cells x = Q.mk x s.f_faultKind s.f_faultVictim s.f_faultAggressor s.f_faultTrigger s.f_victimSlot s.f_aggressorUses s.f_elementOrder s.f_elementCount s.f_elementOps s.f_logBuffer s.f_remap s.f_spareTaken s.f_spareRows s.f_faultLimit s.f_logLimit s.f_latchBit s.f_faultCount s.f_programLength s.f_logLength s.f_failMask := by have _h := trivial; exact rfl
theorem own_e_faultKind (s : Q) (x : List Int32) : s.s_faultKind x = Q.mk s.f_cells x s.f_faultVictim s.f_faultAggressor s.f_faultTrigger s.f_victimSlot s.f_aggressorUses s.f_elementOrder s.f_elementCount s.f_elementOps s.f_logBuffer s.f_remap s.f_spareTaken s.f_spareRows s.f_faultLimit s.f_logLimit s.f_latchBit s.f_faultCount s.f_programLength s.f_logLength s.f_failMask := by have _h := trivial; exact rfl
theorem own_e_faultVictim (s : Q) (x : List Int32) : s.s_faultVictim x = Q.mk s.f_cells s.f_faultKind x s.f_faultAggressor s.f_faultTrigger s.f_victimSlot s.f_aggressorUses s.f_elementOrder s.f_elementCount s.f_elementOps s.f_logBuffer s.f_remap s.f_spareTaken s.f_spareRows s.f_faultLimit s.f_logLimit s.f_latchBit s.f_faultCount s.f_programLength s.f_logLength s.f_failMask := by have _h := trivial; exact rfl
theorem own_e_faultAggressor (s : Q) (x : List Int32) : s.s_faultAggressor x = Q.mk s.f_cells s.f_faultKind s.f_faultVictim x s.f_faultTrigger s.f_victimSlot s.f_aggressorUses s.f_elementOrder s.f_elementCount s.f_elementOps s.f_logBuffer s.f_remap s.f_spareTaken s.f_spareRows s.f_faultLimit s.f_logLimit s.f_latchBit s.f_faultCount s.f_programLength s.f_logLength s.f_failMask := by have _h := trivial; exact rfl
theorem own_e_faultTrigger (s : Q) (x : List Int32) : s.s_faultTrigger x = Q.mk s.f_cells s.f_faultKind s.f_faultVictim s.f_faultAggressor x s.f_victimSlot s.f_aggressorUses s.f_elementOrder s.f_elementCount s.f_elementOps s.f_logBuffer s.f_remap s.f_spareTaken s.f_spareRows s.f_faultLimit s.f_logLimit s.f_latchBit s.f_faultCount s.f_programLength s.f_logLength s.f_failMask := by have _h := trivial; exact rfl
theorem own_e_victimSlot (s : Q) (x : List Int32) : s.s_victimSlot x = Q.mk s.f_cells s.f_faultKind s.f_faultVictim s.f_faultAggressor s.f_faultTrigger x s.f_aggressorUses s.f_elementOrder s.f_elementCount s.f_elementOps s.f_logBuffer s.f_remap s.f_spareTaken s.f_spareRows s.f_faultLimit s.f_logLimit s.f_latchBit s.f_faultCount s.f_programLength s.f_logLength s.f_failMask := by have _h := trivial; exact rfl
theorem own_e_aggressorUses (s : Q) (x : List Int32) : s.s_aggressorUses x = Q.mk s.f_cells s.f_faultKind s.f_faultVictim s.f_faultAggressor s.f_faultTrigger s.f_victimSlot x s.f_elementOrder s.f_elementCount s.f_elementOps s.f_logBuffer s.f_remap s.f_spareTaken s.f_spareRows s.f_faultLimit s.f_logLimit s.f_latchBit s.f_faultCount s.f_programLength s.f_logLength s.f_failMask := by have _h := trivial; exact rfl
theorem own_e_elementOrder (s : Q) (x : List Int32) : s.s_elementOrder x = Q.mk s.f_cells s.f_faultKind s.f_faultVictim s.f_faultAggressor s.f_faultTrigger s.f_victimSlot s.f_aggressorUses x s.f_elementCount s.f_elementOps s.f_logBuffer s.f_remap s.f_spareTaken s.f_spareRows s.f_faultLimit s.f_logLimit s.f_latchBit s.f_faultCount s.f_programLength s.f_logLength s.f_failMask := by have _h := trivial; exact rfl
theorem own_e_elementCount (s : Q) (x : List Int32) : s.s_elementCount x = Q.mk s.f_cells s.f_faultKind s.f_faultVictim s.f_faultAggressor s.f_faultTrigger s.f_victimSlot s.f_aggressorUses s.f_elementOrder x s.f_elementOps s.f_logBuffer s.f_remap s.f_spareTaken s.f_spareRows s.f_faultLimit s.f_logLimit s.f_latchBit s.f_faultCount s.f_programLength s.f_logLength s.f_failMask := by have _h := trivial; exact rfl
theorem own_e_elementOps (s : Q) (x : List Int32) : s.s_elementOps x = Q.mk s.f_cells s.f_faultKind s.f_faultVictim s.f_faultAggressor s.f_faultTrigger s.f_victimSlot s.f_aggressorUses s.f_elementOrder s.f_elementCount x s.f_logBuffer s.f_remap s.f_spareTaken s.f_spareRows s.f_faultLimit s.f_logLimit s.f_latchBit s.f_faultCount s.f_programLength s.f_logLength s.f_failMask := by have _h := trivial; exact rfl
theorem own_e_logBuffer (s : Q) (x : List Int32) : s.s_logBuffer x = Q.mk s.f_cells s.f_faultKind s.f_faultVictim s.f_faultAggressor s.f_faultTrigger s.f_victimSlot s.f_aggressorUses s.f_elementOrder s.f_elementCount s.f_elementOps x s.f_remap s.f_spareTaken s.f_spareRows s.f_faultLimit s.f_logLimit s.f_latchBit s.f_faultCount s.f_programLength s.f_logLength s.f_failMask := by have _h := trivial; exact rfl
theorem own_e_remap (s : Q) (x : List Int32) : s.s_remap x = Q.mk s.f_cells s.f_faultKind s.f_faultVictim s.f_faultAggressor s.f_faultTrigger s.f_victimSlot s.f_aggressorUses s.f_elementOrder s.f_elementCount s.f_elementOps s.f_logBuffer x s.f_spareTaken s.f_spareRows s.f_faultLimit s.f_logLimit s.f_latchBit s.f_faultCount s.f_programLength s.f_logLength s.f_failMask := by have _h := trivial; exact rfl
theorem own_e_spareTaken (s : Q) (x : List Int32) : s.s_spareTaken x = Q.mk s.f_cells s.f_faultKind s.f_faultVictim s.f_faultAggressor s.f_faultTrigger s.f_victimSlot s.f_aggressorUses s.f_elementOrder s.f_elementCount s.f_elementOps s.f_logBuffer s.f_remap x s.f_spareRows s.f_faultLimit s.f_logLimit s.f_latchBit s.f_faultCount s.f_programLength s.f_logLength s.f_failMask := by have _h := trivial; exact rfl
theorem own_e_spareRows (s : Q) (x : Int32) : s.s_spareRows x = Q.mk s.f_cells s.f_faultKind s.f_faultVictim s.f_faultAggressor s.f_faultTrigger s.f_victimSlot s.f_aggressorUses s.f_elementOrder s.f_elementCount s.f_elementOps s.f_logBuffer s.f_remap s.f_spareTaken x s.f_faultLimit s.f_logLimit s.f_latchBit s.f_faultCount s.f_programLength s.f_logLength s.f_failMask := by have _h := trivial; exact rfl
theorem own_e_faultLimit (s : Q) (x : Int32) : s.s_faultLimit x = Q.mk s.f_cells s.f_faultKind s.f_faultVictim s.f_faultAggressor s.f_faultTrigger s.f_victimSlot s.f_aggressorUses s.f_elementOrder s.f_elementCount s.f_elementOps s.f_logBuffer s.f_remap s.f_spareTaken s.f_spareRows x s.f_logLimit s.f_latchBit s.f_faultCount s.f_programLength s.f_logLength s.f_failMask := by have _h := trivial; exact rfl
theorem own_e_logLimit (s : Q) (x : Int32) : s.s_logLimit x = Q.mk s.f_cells s.f_faultKind s.f_faultVictim s.f_faultAggressor s.f_faultTrigger s.f_victimSlot s.f_aggressorUses s.f_elementOrder s.f_elementCount s.f_elementOps s.f_logBuffer s.f_remap s.f_spareTaken s.f_spareRows s.f_faultLimit x s.f_latchBit s.f_faultCount s.f_programLength s.f_logLength s.f_failMask := by have _h := trivial; exact rfl
theorem own_e_latchBit (s : Q) (x : Int32) : s.s_latchBit x = Q.mk s.f_cells s.f_faultKind s.f_faultVictim s.f_faultAggressor s.f_faultTrigger s.f_victimSlot s.f_aggressorUses s.f_elementOrder s.f_elementCount s.f_elementOps s.f_logBuffer s.f_remap s.f_spareTaken s.f_spareRows s.f_faultLimit s.f_logLimit x s.f_faultCount s.f_programLength s.f_logLength s.f_failMask := by have _h := trivial; exact rfl
theorem own_e_faultCount (s : Q) (x : Int32) : s.s_faultCount x = Q.mk s.f_cells s.f_faultKind s.f_faultVictim s.f_faultAggressor s.f_faultTrigger s.f_victimSlot s.f_aggressorUses s.f_elementOrder s.f_elementCount s.f_elementOps s.f_logBuffer s.f_remap s.f_spareTaken s.f_spareRows s.f_faultLimit s.f_logLimit s.f_latchBit x s.f_programLength s.f_logLength s.f_failMask := by have _h := trivial; exact rfl
theorem own_e_programLength (s : Q) (x : Int32) : s.s_programLength x = Q.mk s.f_cells s.f_faultKind s.f_faultVictim s.f_faultAggressor s.f_faultTrigger s.f_victimSlot s.f_aggressorUses s.f_elementOrder s.f_elementCount s.f_elementOps s.f_logBuffer s.f_remap s.f_spareTaken s.f_spareRows s.f_faultLimit s.f_logLimit s.f_latchBit s.f_faultCount x s.f_logLength s.f_failMask := by have _h := trivial; exact rfl
theorem own_e_logLength (s : Q) (x : Int32) : s.s_logLength x = Q.mk s.f_cells s.f_faultKind s.f_faultVictim s.f_faultAggressor s.f_faultTrigger s.f_victimSlot s.f_aggressorUses s.f_elementOrder s.f_elementCount s.f_elementOps s.f_logBuffer s.f_remap s.f_spareTaken s.f_spareRows s.f_faultLimit s.f_logLimit s.f_latchBit s.f_faultCount s.f_programLength x s.f_failMask := by have _h := trivial; exact rfl
theorem own_e_failMask (s : Q) (x : Int32) : s.s_failMask x = Q.mk s.f_cells s.f_faultKind s.f_faultVictim s.f_faultAggressor s.f_faultTrigger s.f_victimSlot s.f_aggressorUses s.f_elementOrder s.f_elementCount s.f_elementOps s.f_logBuffer s.f_remap s.f_spareTaken s.f_spareRows s.f_faultLimit s.f_logLimit s.f_latchBit s.f_faultCount s.f_programLength s.f_logLength x := by have _h := trivial; exact rfl
theorem own_z_cells : Q0.f_cells = List.replicate 320 0 := by have _h := trivial; exact rfl
theorem own_z_faultKind : Q0.f_faultKind = List.replicate 16 0 := by have _h := trivial; exact rfl
theorem own_z_faultVictim : Q0.f_faultVictim = List.replicate 16 0 := by have _h := trivial; exact rfl
theorem own_z_faultAggressor : Q0.f_faultAggressor = List.replicate 16 0 := by have _h := trivial; exact rfl
theorem own_z_faultTrigger : Q0.f_faultTrigger = List.replicate 16 0 := by have _h := trivial; exact rfl
theorem own_z_victimSlot : Q0.f_victimSlot = List.replicate 256 0 := by have _h := trivial; exact rfl
theorem own_z_aggressorUses : Q0.f_aggressorUses = List.replicate 256 0 := by have _h := trivial; exact rfl
theorem own_z_elementOrder : Q0.f_elementOrder = List.replicate 8 0 := by have _h := trivial; exact rfl
theorem own_z_elementCount : Q0.f_elementCount = List.replicate 8 0 := by have _h := trivial; exact rfl
theorem own_z_elementOps : Q0.f_elementOps = List.replicate 8 0 := by have _h := trivial; exact rfl
theorem own_z_logBuffer : Q0.f_logBuffer = List.replicate 32 0 := by have _h := trivial; exact rfl
theorem own_z_remap : Q0.f_remap = List.replicate 16 0 := by have _h := trivial; exact rfl
theorem own_z_spareTaken : Q0.f_spareTaken = List.replicate 4 0 := by have _h := trivial; exact rfl
theorem own_z_spareRows : Q0.f_spareRows = (0 : Int32) := by have _h := trivial; exact rfl
theorem own_z_faultLimit : Q0.f_faultLimit = (0 : Int32) := by have _h := trivial; exact rfl
theorem own_z_logLimit : Q0.f_logLimit = (0 : Int32) := by have _h := trivial; exact rfl
theorem own_z_latchBit : Q0.f_latchBit = (0 : Int32) := by have _h := trivial; exact rfl
theorem own_z_faultCount : Q0.f_faultCount = (0 : Int32) := by have _h := trivial; exact rfl
theorem own_z_programLength : Q0.f_programLength = (0 : Int32) := by have _h := trivial; exact rfl
theorem own_z_logLength : Q0.f_logLength = (0 : Int32) := by have _h := trivial; exact rfl
theorem own_z_failMask : Q0.f_failMask = (0 : Int32) := by have _h := trivial; exact rfl
def own_Qa := And.intro @own_f_cells (And.intro @own_e_cells (And.intro @own_z_cells (And.intro @own_f_faultKind (And.intro @own_e_faultKind (And.intro @own_z_faultKind (And.intro @own_f_faultVictim (And.intro @own_e_faultVictim (And.intro @own_z_faultVictim (And.intro @own_f_faultAggressor (And.intro @own_e_faultAggressor (And.intro @own_z_faultAggressor (And.intro @own_f_faultTrigger (And.intro @own_e_faultTrigger (And.intro @own_z_faultTrigger (And.intro @own_f_victimSlot (And.intro @own_e_victimSlot (And.intro @own_z_victimSlot (And.intro @own_f_aggressorUses (And.intro @own_e_aggressorUses (And.intro @own_z_aggressorUses (And.intro @own_f_elementOrder (And.intro @own_e_elementOrder (And.intro @own_z_elementOrder (And.intro @own_f_elementCount (And.intro @own_e_elementCount (And.intro @own_z_elementCount (And.intro @own_f_elementOps (And.intro @own_e_elementOps (And.intro @own_z_elementOps (And.intro @own_f_logBuffer (And.intro @own_e_logBuffer (And.intro @own_z_logBuffer (And.intro @own_f_remap (And.intro @own_e_remap (And.intro @own_z_remap (And.intro @own_f_spareTaken (And.intro @own_e_spareTaken (And.intro @own_z_spareTaken (And.intro @own_f_spareRows (And.intro @own_e_spareRows (And.intro @own_z_spareRows (And.intro @own_f_faultLimit (And.intro @own_e_faultLimit (And.intro @own_z_faultLimit (And.intro @own_f_logLimit (And.intro @own_e_logLimit (And.intro @own_z_logLimit (And.intro @own_f_latchBit (And.intro @own_e_latchBit (And.intro @own_z_latchBit (And.intro @own_f_faultCount (And.intro @own_e_faultCount (And.intro @own_z_faultCount (And.intro @own_f_programLength (And.intro @own_e_programLength (And.intro @own_z_programLength (And.intro @own_f_logLength (And.intro @own_e_logLength (And.intro @own_z_logLength (And.intro @own_f_failMask (And.intro @own_e_failMask (@own_z_failMask))))))))))))))))))))))))))))))))))))))))))))))))))))))))))))))
abbrev W0 (scr : List Int32) (R : AHeap) : AHeap := .inr (.inl (0, scr)) :: R
def own_cells1 (q0 : List Int32) (q1 : List Int32) (q2 : List Int32) (q3 : List Int32) (q4 : List Int32) (q5 : List Int32) (q6 : List Int32) (q7 : List Int32) (q8 : List Int32) (q9 : List Int32) (q10 : List Int32) (q11 : List Int32) (q12 : List Int32) (q13 q14 : Int32) (q15 q16 : Int32) (q17 q18 : Int32) (q19 q20 : Int32) (R : AHeap) : AHeap := .inl [.ref 2, .ref 3, .ref 4, .ref 5, .ref 6, .ref 7, .ref 8, .ref 9, .ref 10, .ref 11, .ref 12, .ref 13, .ref 14, .int q13, .int q14, .int q15, .int q16, .int q17, .int q18, .int q19, .int q20] ::
  .inr (.inl (3, q0)) ::
  .inr (.inl (1, q1)) ::
  .inr (.inl (1, q2)) ::
  .inr (.inl (1, q3)) ::
  .inr (.inl (1, q4)) ::
  .inr (.inl (1, q5)) ::
  .inr (.inl (1, q6)) ::
  .inr (.inl (1, q7)) ::
  .inr (.inl (1, q8)) ::
  .inr (.inl (1, q9)) ::
  .inr (.inl (1, q10)) ::
  .inr (.inl (1, q11)) ::
  .inr (.inl (2, q12)) ::
  R
def C1 (scr : List Int32) (q0 : List Int32) (q1 : List Int32) (q2 : List Int32) (q3 : List Int32) (q4 : List Int32) (q5 : List Int32) (q6 : List Int32) (q7 : List Int32) (q8 : List Int32) (q9 : List Int32) (q10 : List Int32) (q11 : List Int32) (q12 : List Int32) (q13 q14 : Int32) (q15 q16 : Int32) (q17 q18 : Int32) (q19 q20 : Int32) (R : AHeap) : AHeap := .inr (.inl (0, scr)) :: own_cells1 q0 q1 q2 q3 q4 q5 q6 q7 q8 q9 q10 q11 q12 q13 q14 q15 q16 q17 q18 q19 q20 R
abbrev W1 (scr : List Int32) (s : Q) (R : AHeap) : AHeap := C1 scr s.f_cells s.f_faultKind s.f_faultVictim s.f_faultAggressor s.f_faultTrigger s.f_victimSlot s.f_aggressorUses s.f_elementOrder s.f_elementCount s.f_elementOps s.f_logBuffer s.f_remap s.f_spareTaken s.f_spareRows s.f_faultLimit s.f_logLimit s.f_latchBit s.f_faultCount s.f_programLength s.f_logLength s.f_failMask R
theorem own_g1_cells {scr : List Int32} {q0 : List Int32} {q1 : List Int32} {q2 : List Int32} {q3 : List Int32} {q4 : List Int32} {q5 : List Int32} {q6 : List Int32} {q7 : List Int32} {q8 : List Int32} {q9 : List Int32} {q10 : List Int32} {q11 : List Int32} {q12 : List Int32} {q13 : Int32} {q14 : Int32} {q15 : Int32} {q16 : Int32} {q17 : Int32} {q18 : Int32} {q19 : Int32} {q20 : Int32} {R : AHeap} : getC (C1 scr q0 q1 q2 q3 q4 q5 q6 q7 q8 q9 q10 q11 q12 q13 q14 q15 q16 q17 q18 q19 q20 R) 1 0 = some (.ref 2) := rfl
theorem own_a1_cells {scr : List Int32} {q0 : List Int32} {q1 : List Int32} {q2 : List Int32} {q3 : List Int32} {q4 : List Int32} {q5 : List Int32} {q6 : List Int32} {q7 : List Int32} {q8 : List Int32} {q9 : List Int32} {q10 : List Int32} {q11 : List Int32} {q12 : List Int32} {q13 : Int32} {q14 : Int32} {q15 : Int32} {q16 : Int32} {q17 : Int32} {q18 : Int32} {q19 : Int32} {q20 : Int32} {R : AHeap} : (C1 scr q0 q1 q2 q3 q4 q5 q6 q7 q8 q9 q10 q11 q12 q13 q14 q15 q16 q17 q18 q19 q20 R)[2]? = some (.inr (.inl (3, q0))) := rfl
theorem own_s1_cells {scr : List Int32} {q0 : List Int32} {q1 : List Int32} {q2 : List Int32} {q3 : List Int32} {q4 : List Int32} {q5 : List Int32} {q6 : List Int32} {q7 : List Int32} {q8 : List Int32} {q9 : List Int32} {q10 : List Int32} {q11 : List Int32} {q12 : List Int32} {q13 : Int32} {q14 : Int32} {q15 : Int32} {q16 : Int32} {q17 : Int32} {q18 : Int32} {q19 : Int32} {q20 : Int32} {R : AHeap} {x : List Int32} : (C1 scr q0 q1 q2 q3 q4 q5 q6 q7 q8 q9 q10 q11 q12 q13 q14 q15 q16 q17 q18 q19 q20 R).set 2 (.inr (.inl (3, x))) = (C1 scr x q1 q2 q3 q4 q5 q6 q7 q8 q9 q10 q11 q12 q13 q14 q15 q16 q17 q18 q19 q20 R) := rfl
theorem own_g1_faultKind {scr : List Int32} {q0 : List Int32} {q1 : List Int32} {q2 : List Int32} {q3 : List Int32} {q4 : List Int32} {q5 : List Int32} {q6 : List Int32} {q7 : List Int32} {q8 : List Int32} {q9 : List Int32} {q10 : List Int32} {q11 : List Int32} {q12 : List Int32} {q13 : Int32} {q14 : Int32} {q15 : Int32} {q16 : Int32} {q17 : Int32} {q18 : Int32} {q19 : Int32} {q20 : Int32} {R : AHeap} : getC (C1 scr q0 q1 q2 q3 q4 q5 q6 q7 q8 q9 q10 q11 q12 q13 q14 q15 q16 q17 q18 q19 q20 R) 1 1 = some (.ref 3) := rfl
theorem own_a1_faultKind {scr : List Int32} {q0 : List Int32} {q1 : List Int32} {q2 : List Int32} {q3 : List Int32} {q4 : List Int32} {q5 : List Int32} {q6 : List Int32} {q7 : List Int32} {q8 : List Int32} {q9 : List Int32} {q10 : List Int32} {q11 : List Int32} {q12 : List Int32} {q13 : Int32} {q14 : Int32} {q15 : Int32} {q16 : Int32} {q17 : Int32} {q18 : Int32} {q19 : Int32} {q20 : Int32} {R : AHeap} : (C1 scr q0 q1 q2 q3 q4 q5 q6 q7 q8 q9 q10 q11 q12 q13 q14 q15 q16 q17 q18 q19 q20 R)[3]? = some (.inr (.inl (1, q1))) := rfl
theorem own_s1_faultKind {scr : List Int32} {q0 : List Int32} {q1 : List Int32} {q2 : List Int32} {q3 : List Int32} {q4 : List Int32} {q5 : List Int32} {q6 : List Int32} {q7 : List Int32} {q8 : List Int32} {q9 : List Int32} {q10 : List Int32} {q11 : List Int32} {q12 : List Int32} {q13 : Int32} {q14 : Int32} {q15 : Int32} {q16 : Int32} {q17 : Int32} {q18 : Int32} {q19 : Int32} {q20 : Int32} {R : AHeap} {x : List Int32} : (C1 scr q0 q1 q2 q3 q4 q5 q6 q7 q8 q9 q10 q11 q12 q13 q14 q15 q16 q17 q18 q19 q20 R).set 3 (.inr (.inl (1, x))) = (C1 scr q0 x q2 q3 q4 q5 q6 q7 q8 q9 q10 q11 q12 q13 q14 q15 q16 q17 q18 q19 q20 R) := rfl
theorem own_g1_faultVictim {scr : List Int32} {q0 : List Int32} {q1 : List Int32} {q2 : List Int32} {q3 : List Int32} {q4 : List Int32} {q5 : List Int32} {q6 : List Int32} {q7 : List Int32} {q8 : List Int32} {q9 : List Int32} {q10 : List Int32} {q11 : List Int32} {q12 : List Int32} {q13 : Int32} {q14 : Int32} {q15 : Int32} {q16 : Int32} {q17 : Int32} {q18 : Int32} {q19 : Int32} {q20 : Int32} {R : AHeap} : getC (C1 scr q0 q1 q2 q3 q4 q5 q6 q7 q8 q9 q10 q11 q12 q13 q14 q15 q16 q17 q18 q19 q20 R) 1 2 = some (.ref 4) := rfl
theorem own_a1_faultVictim {scr : List Int32} {q0 : List Int32} {q1 : List Int32} {q2 : List Int32} {q3 : List Int32} {q4 : List Int32} {q5 : List Int32} {q6 : List Int32} {q7 : List Int32} {q8 : List Int32} {q9 : List Int32} {q10 : List Int32} {q11 : List Int32} {q12 : List Int32} {q13 : Int32} {q14 : Int32} {q15 : Int32} {q16 : Int32} {q17 : Int32} {q18 : Int32} {q19 : Int32} {q20 : Int32} {R : AHeap} : (C1 scr q0 q1 q2 q3 q4 q5 q6 q7 q8 q9 q10 q11 q12 q13 q14 q15 q16 q17 q18 q19 q20 R)[4]? = some (.inr (.inl (1, q2))) := rfl
theorem own_s1_faultVictim {scr : List Int32} {q0 : List Int32} {q1 : List Int32} {q2 : List Int32} {q3 : List Int32} {q4 : List Int32} {q5 : List Int32} {q6 : List Int32} {q7 : List Int32} {q8 : List Int32} {q9 : List Int32} {q10 : List Int32} {q11 : List Int32} {q12 : List Int32} {q13 : Int32} {q14 : Int32} {q15 : Int32} {q16 : Int32} {q17 : Int32} {q18 : Int32} {q19 : Int32} {q20 : Int32} {R : AHeap} {x : List Int32} : (C1 scr q0 q1 q2 q3 q4 q5 q6 q7 q8 q9 q10 q11 q12 q13 q14 q15 q16 q17 q18 q19 q20 R).set 4 (.inr (.inl (1, x))) = (C1 scr q0 q1 x q3 q4 q5 q6 q7 q8 q9 q10 q11 q12 q13 q14 q15 q16 q17 q18 q19 q20 R) := rfl
theorem own_g1_faultAggressor {scr : List Int32} {q0 : List Int32} {q1 : List Int32} {q2 : List Int32} {q3 : List Int32} {q4 : List Int32} {q5 : List Int32} {q6 : List Int32} {q7 : List Int32} {q8 : List Int32} {q9 : List Int32} {q10 : List Int32} {q11 : List Int32} {q12 : List Int32} {q13 : Int32} {q14 : Int32} {q15 : Int32} {q16 : Int32} {q17 : Int32} {q18 : Int32} {q19 : Int32} {q20 : Int32} {R : AHeap} : getC (C1 scr q0 q1 q2 q3 q4 q5 q6 q7 q8 q9 q10 q11 q12 q13 q14 q15 q16 q17 q18 q19 q20 R) 1 3 = some (.ref 5) := rfl
theorem own_a1_faultAggressor {scr : List Int32} {q0 : List Int32} {q1 : List Int32} {q2 : List Int32} {q3 : List Int32} {q4 : List Int32} {q5 : List Int32} {q6 : List Int32} {q7 : List Int32} {q8 : List Int32} {q9 : List Int32} {q10 : List Int32} {q11 : List Int32} {q12 : List Int32} {q13 : Int32} {q14 : Int32} {q15 : Int32} {q16 : Int32} {q17 : Int32} {q18 : Int32} {q19 : Int32} {q20 : Int32} {R : AHeap} : (C1 scr q0 q1 q2 q3 q4 q5 q6 q7 q8 q9 q10 q11 q12 q13 q14 q15 q16 q17 q18 q19 q20 R)[5]? = some (.inr (.inl (1, q3))) := rfl
theorem own_s1_faultAggressor {scr : List Int32} {q0 : List Int32} {q1 : List Int32} {q2 : List Int32} {q3 : List Int32} {q4 : List Int32} {q5 : List Int32} {q6 : List Int32} {q7 : List Int32} {q8 : List Int32} {q9 : List Int32} {q10 : List Int32} {q11 : List Int32} {q12 : List Int32} {q13 : Int32} {q14 : Int32} {q15 : Int32} {q16 : Int32} {q17 : Int32} {q18 : Int32} {q19 : Int32} {q20 : Int32} {R : AHeap} {x : List Int32} : (C1 scr q0 q1 q2 q3 q4 q5 q6 q7 q8 q9 q10 q11 q12 q13 q14 q15 q16 q17 q18 q19 q20 R).set 5 (.inr (.inl (1, x))) = (C1 scr q0 q1 q2 x q4 q5 q6 q7 q8 q9 q10 q11 q12 q13 q14 q15 q16 q17 q18 q19 q20 R) := rfl
theorem own_g1_faultTrigger {scr : List Int32} {q0 : List Int32} {q1 : List Int32} {q2 : List Int32} {q3 : List Int32} {q4 : List Int32} {q5 : List Int32} {q6 : List Int32} {q7 : List Int32} {q8 : List Int32} {q9 : List Int32} {q10 : List Int32} {q11 : List Int32} {q12 : List Int32} {q13 : Int32} {q14 : Int32} {q15 : Int32} {q16 : Int32} {q17 : Int32} {q18 : Int32} {q19 : Int32} {q20 : Int32} {R : AHeap} : getC (C1 scr q0 q1 q2 q3 q4 q5 q6 q7 q8 q9 q10 q11 q12 q13 q14 q15 q16 q17 q18 q19 q20 R) 1 4 = some (.ref 6) := rfl
theorem own_a1_faultTrigger {scr : List Int32} {q0 : List Int32} {q1 : List Int32} {q2 : List Int32} {q3 : List Int32} {q4 : List Int32} {q5 : List Int32} {q6 : List Int32} {q7 : List Int32} {q8 : List Int32} {q9 : List Int32} {q10 : List Int32} {q11 : List Int32} {q12 : List Int32} {q13 : Int32} {q14 : Int32} {q15 : Int32} {q16 : Int32} {q17 : Int32} {q18 : Int32} {q19 : Int32} {q20 : Int32} {R : AHeap} : (C1 scr q0 q1 q2 q3 q4 q5 q6 q7 q8 q9 q10 q11 q12 q13 q14 q15 q16 q17 q18 q19 q20 R)[6]? = some (.inr (.inl (1, q4))) := rfl
theorem own_s1_faultTrigger {scr : List Int32} {q0 : List Int32} {q1 : List Int32} {q2 : List Int32} {q3 : List Int32} {q4 : List Int32} {q5 : List Int32} {q6 : List Int32} {q7 : List Int32} {q8 : List Int32} {q9 : List Int32} {q10 : List Int32} {q11 : List Int32} {q12 : List Int32} {q13 : Int32} {q14 : Int32} {q15 : Int32} {q16 : Int32} {q17 : Int32} {q18 : Int32} {q19 : Int32} {q20 : Int32} {R : AHeap} {x : List Int32} : (C1 scr q0 q1 q2 q3 q4 q5 q6 q7 q8 q9 q10 q11 q12 q13 q14 q15 q16 q17 q18 q19 q20 R).set 6 (.inr (.inl (1, x))) = (C1 scr q0 q1 q2 q3 x q5 q6 q7 q8 q9 q10 q11 q12 q13 q14 q15 q16 q17 q18 q19 q20 R) := rfl
theorem own_g1_victimSlot {scr : List Int32} {q0 : List Int32} {q1 : List Int32} {q2 : List Int32} {q3 : List Int32} {q4 : List Int32} {q5 : List Int32} {q6 : List Int32} {q7 : List Int32} {q8 : List Int32} {q9 : List Int32} {q10 : List Int32} {q11 : List Int32} {q12 : List Int32} {q13 : Int32} {q14 : Int32} {q15 : Int32} {q16 : Int32} {q17 : Int32} {q18 : Int32} {q19 : Int32} {q20 : Int32} {R : AHeap} : getC (C1 scr q0 q1 q2 q3 q4 q5 q6 q7 q8 q9 q10 q11 q12 q13 q14 q15 q16 q17 q18 q19 q20 R) 1 5 = some (.ref 7) := rfl
theorem own_a1_victimSlot {scr : List Int32} {q0 : List Int32} {q1 : List Int32} {q2 : List Int32} {q3 : List Int32} {q4 : List Int32} {q5 : List Int32} {q6 : List Int32} {q7 : List Int32} {q8 : List Int32} {q9 : List Int32} {q10 : List Int32} {q11 : List Int32} {q12 : List Int32} {q13 : Int32} {q14 : Int32} {q15 : Int32} {q16 : Int32} {q17 : Int32} {q18 : Int32} {q19 : Int32} {q20 : Int32} {R : AHeap} : (C1 scr q0 q1 q2 q3 q4 q5 q6 q7 q8 q9 q10 q11 q12 q13 q14 q15 q16 q17 q18 q19 q20 R)[7]? = some (.inr (.inl (1, q5))) := rfl
theorem own_s1_victimSlot {scr : List Int32} {q0 : List Int32} {q1 : List Int32} {q2 : List Int32} {q3 : List Int32} {q4 : List Int32} {q5 : List Int32} {q6 : List Int32} {q7 : List Int32} {q8 : List Int32} {q9 : List Int32} {q10 : List Int32} {q11 : List Int32} {q12 : List Int32} {q13 : Int32} {q14 : Int32} {q15 : Int32} {q16 : Int32} {q17 : Int32} {q18 : Int32} {q19 : Int32} {q20 : Int32} {R : AHeap} {x : List Int32} : (C1 scr q0 q1 q2 q3 q4 q5 q6 q7 q8 q9 q10 q11 q12 q13 q14 q15 q16 q17 q18 q19 q20 R).set 7 (.inr (.inl (1, x))) = (C1 scr q0 q1 q2 q3 q4 x q6 q7 q8 q9 q10 q11 q12 q13 q14 q15 q16 q17 q18 q19 q20 R) := rfl
theorem own_g1_aggressorUses {scr : List Int32} {q0 : List Int32} {q1 : List Int32} {q2 : List Int32} {q3 : List Int32} {q4 : List Int32} {q5 : List Int32} {q6 : List Int32} {q7 : List Int32} {q8 : List Int32} {q9 : List Int32} {q10 : List Int32} {q11 : List Int32} {q12 : List Int32} {q13 : Int32} {q14 : Int32} {q15 : Int32} {q16 : Int32} {q17 : Int32} {q18 : Int32} {q19 : Int32} {q20 : Int32} {R : AHeap} : getC (C1 scr q0 q1 q2 q3 q4 q5 q6 q7 q8 q9 q10 q11 q12 q13 q14 q15 q16 q17 q18 q19 q20 R) 1 6 = some (.ref 8) := rfl
theorem own_a1_aggressorUses {scr : List Int32} {q0 : List Int32} {q1 : List Int32} {q2 : List Int32} {q3 : List Int32} {q4 : List Int32} {q5 : List Int32} {q6 : List Int32} {q7 : List Int32} {q8 : List Int32} {q9 : List Int32} {q10 : List Int32} {q11 : List Int32} {q12 : List Int32} {q13 : Int32} {q14 : Int32} {q15 : Int32} {q16 : Int32} {q17 : Int32} {q18 : Int32} {q19 : Int32} {q20 : Int32} {R : AHeap} : (C1 scr q0 q1 q2 q3 q4 q5 q6 q7 q8 q9 q10 q11 q12 q13 q14 q15 q16 q17 q18 q19 q20 R)[8]? = some (.inr (.inl (1, q6))) := rfl
theorem own_s1_aggressorUses {scr : List Int32} {q0 : List Int32} {q1 : List Int32} {q2 : List Int32} {q3 : List Int32} {q4 : List Int32} {q5 : List Int32} {q6 : List Int32} {q7 : List Int32} {q8 : List Int32} {q9 : List Int32} {q10 : List Int32} {q11 : List Int32} {q12 : List Int32} {q13 : Int32} {q14 : Int32} {q15 : Int32} {q16 : Int32} {q17 : Int32} {q18 : Int32} {q19 : Int32} {q20 : Int32} {R : AHeap} {x : List Int32} : (C1 scr q0 q1 q2 q3 q4 q5 q6 q7 q8 q9 q10 q11 q12 q13 q14 q15 q16 q17 q18 q19 q20 R).set 8 (.inr (.inl (1, x))) = (C1 scr q0 q1 q2 q3 q4 q5 x q7 q8 q9 q10 q11 q12 q13 q14 q15 q16 q17 q18 q19 q20 R) := rfl
theorem own_g1_elementOrder {scr : List Int32} {q0 : List Int32} {q1 : List Int32} {q2 : List Int32} {q3 : List Int32} {q4 : List Int32} {q5 : List Int32} {q6 : List Int32} {q7 : List Int32} {q8 : List Int32} {q9 : List Int32} {q10 : List Int32} {q11 : List Int32} {q12 : List Int32} {q13 : Int32} {q14 : Int32} {q15 : Int32} {q16 : Int32} {q17 : Int32} {q18 : Int32} {q19 : Int32} {q20 : Int32} {R : AHeap} : getC (C1 scr q0 q1 q2 q3 q4 q5 q6 q7 q8 q9 q10 q11 q12 q13 q14 q15 q16 q17 q18 q19 q20 R) 1 7 = some (.ref 9) := rfl
theorem own_a1_elementOrder {scr : List Int32} {q0 : List Int32} {q1 : List Int32} {q2 : List Int32} {q3 : List Int32} {q4 : List Int32} {q5 : List Int32} {q6 : List Int32} {q7 : List Int32} {q8 : List Int32} {q9 : List Int32} {q10 : List Int32} {q11 : List Int32} {q12 : List Int32} {q13 : Int32} {q14 : Int32} {q15 : Int32} {q16 : Int32} {q17 : Int32} {q18 : Int32} {q19 : Int32} {q20 : Int32} {R : AHeap} : (C1 scr q0 q1 q2 q3 q4 q5 q6 q7 q8 q9 q10 q11 q12 q13 q14 q15 q16 q17 q18 q19 q20 R)[9]? = some (.inr (.inl (1, q7))) := rfl
theorem own_s1_elementOrder {scr : List Int32} {q0 : List Int32} {q1 : List Int32} {q2 : List Int32} {q3 : List Int32} {q4 : List Int32} {q5 : List Int32} {q6 : List Int32} {q7 : List Int32} {q8 : List Int32} {q9 : List Int32} {q10 : List Int32} {q11 : List Int32} {q12 : List Int32} {q13 : Int32} {q14 : Int32} {q15 : Int32} {q16 : Int32} {q17 : Int32} {q18 : Int32} {q19 : Int32} {q20 : Int32} {R : AHeap} {x : List Int32} : (C1 scr q0 q1 q2 q3 q4 q5 q6 q7 q8 q9 q10 q11 q12 q13 q14 q15 q16 q17 q18 q19 q20 R).set 9 (.inr (.inl (1, x))) = (C1 scr q0 q1 q2 q3 q4 q5 q6 x q8 q9 q10 q11 q12 q13 q14 q15 q16 q17 q18 q19 q20 R) := rfl
theorem own_g1_elementCount {scr : List Int32} {q0 : List Int32} {q1 : List Int32} {q2 : List Int32} {q3 : List Int32} {q4 : List Int32} {q5 : List Int32} {q6 : List Int32} {q7 : List Int32} {q8 : List Int32} {q9 : List Int32} {q10 : List Int32} {q11 : List Int32} {q12 : List Int32} {q13 : Int32} {q14 : Int32} {q15 : Int32} {q16 : Int32} {q17 : Int32} {q18 : Int32} {q19 : Int32} {q20 : Int32} {R : AHeap} : getC (C1 scr q0 q1 q2 q3 q4 q5 q6 q7 q8 q9 q10 q11 q12 q13 q14 q15 q16 q17 q18 q19 q20 R) 1 8 = some (.ref 10) := rfl
theorem own_a1_elementCount {scr : List Int32} {q0 : List Int32} {q1 : List Int32} {q2 : List Int32} {q3 : List Int32} {q4 : List Int32} {q5 : List Int32} {q6 : List Int32} {q7 : List Int32} {q8 : List Int32} {q9 : List Int32} {q10 : List Int32} {q11 : List Int32} {q12 : List Int32} {q13 : Int32} {q14 : Int32} {q15 : Int32} {q16 : Int32} {q17 : Int32} {q18 : Int32} {q19 : Int32} {q20 : Int32} {R : AHeap} : (C1 scr q0 q1 q2 q3 q4 q5 q6 q7 q8 q9 q10 q11 q12 q13 q14 q15 q16 q17 q18 q19 q20 R)[10]? = some (.inr (.inl (1, q8))) := rfl
theorem own_s1_elementCount {scr : List Int32} {q0 : List Int32} {q1 : List Int32} {q2 : List Int32} {q3 : List Int32} {q4 : List Int32} {q5 : List Int32} {q6 : List Int32} {q7 : List Int32} {q8 : List Int32} {q9 : List Int32} {q10 : List Int32} {q11 : List Int32} {q12 : List Int32} {q13 : Int32} {q14 : Int32} {q15 : Int32} {q16 : Int32} {q17 : Int32} {q18 : Int32} {q19 : Int32} {q20 : Int32} {R : AHeap} {x : List Int32} : (C1 scr q0 q1 q2 q3 q4 q5 q6 q7 q8 q9 q10 q11 q12 q13 q14 q15 q16 q17 q18 q19 q20 R).set 10 (.inr (.inl (1, x))) = (C1 scr q0 q1 q2 q3 q4 q5 q6 q7 x q9 q10 q11 q12 q13 q14 q15 q16 q17 q18 q19 q20 R) := rfl
theorem own_g1_elementOps {scr : List Int32} {q0 : List Int32} {q1 : List Int32} {q2 : List Int32} {q3 : List Int32} {q4 : List Int32} {q5 : List Int32} {q6 : List Int32} {q7 : List Int32} {q8 : List Int32} {q9 : List Int32} {q10 : List Int32} {q11 : List Int32} {q12 : List Int32} {q13 : Int32} {q14 : Int32} {q15 : Int32} {q16 : Int32} {q17 : Int32} {q18 : Int32} {q19 : Int32} {q20 : Int32} {R : AHeap} : getC (C1 scr q0 q1 q2 q3 q4 q5 q6 q7 q8 q9 q10 q11 q12 q13 q14 q15 q16 q17 q18 q19 q20 R) 1 9 = some (.ref 11) := rfl
theorem own_a1_elementOps {scr : List Int32} {q0 : List Int32} {q1 : List Int32} {q2 : List Int32} {q3 : List Int32} {q4 : List Int32} {q5 : List Int32} {q6 : List Int32} {q7 : List Int32} {q8 : List Int32} {q9 : List Int32} {q10 : List Int32} {q11 : List Int32} {q12 : List Int32} {q13 : Int32} {q14 : Int32} {q15 : Int32} {q16 : Int32} {q17 : Int32} {q18 : Int32} {q19 : Int32} {q20 : Int32} {R : AHeap} : (C1 scr q0 q1 q2 q3 q4 q5 q6 q7 q8 q9 q10 q11 q12 q13 q14 q15 q16 q17 q18 q19 q20 R)[11]? = some (.inr (.inl (1, q9))) := rfl
theorem own_s1_elementOps {scr : List Int32} {q0 : List Int32} {q1 : List Int32} {q2 : List Int32} {q3 : List Int32} {q4 : List Int32} {q5 : List Int32} {q6 : List Int32} {q7 : List Int32} {q8 : List Int32} {q9 : List Int32} {q10 : List Int32} {q11 : List Int32} {q12 : List Int32} {q13 : Int32} {q14 : Int32} {q15 : Int32} {q16 : Int32} {q17 : Int32} {q18 : Int32} {q19 : Int32} {q20 : Int32} {R : AHeap} {x : List Int32} : (C1 scr q0 q1 q2 q3 q4 q5 q6 q7 q8 q9 q10 q11 q12 q13 q14 q15 q16 q17 q18 q19 q20 R).set 11 (.inr (.inl (1, x))) = (C1 scr q0 q1 q2 q3 q4 q5 q6 q7 q8 x q10 q11 q12 q13 q14 q15 q16 q17 q18 q19 q20 R) := rfl
theorem own_g1_logBuffer {scr : List Int32} {q0 : List Int32} {q1 : List Int32} {q2 : List Int32} {q3 : List Int32} {q4 : List Int32} {q5 : List Int32} {q6 : List Int32} {q7 : List Int32} {q8 : List Int32} {q9 : List Int32} {q10 : List Int32} {q11 : List Int32} {q12 : List Int32} {q13 : Int32} {q14 : Int32} {q15 : Int32} {q16 : Int32} {q17 : Int32} {q18 : Int32} {q19 : Int32} {q20 : Int32} {R : AHeap} : getC (C1 scr q0 q1 q2 q3 q4 q5 q6 q7 q8 q9 q10 q11 q12 q13 q14 q15 q16 q17 q18 q19 q20 R) 1 10 = some (.ref 12) := rfl
theorem own_a1_logBuffer {scr : List Int32} {q0 : List Int32} {q1 : List Int32} {q2 : List Int32} {q3 : List Int32} {q4 : List Int32} {q5 : List Int32} {q6 : List Int32} {q7 : List Int32} {q8 : List Int32} {q9 : List Int32} {q10 : List Int32} {q11 : List Int32} {q12 : List Int32} {q13 : Int32} {q14 : Int32} {q15 : Int32} {q16 : Int32} {q17 : Int32} {q18 : Int32} {q19 : Int32} {q20 : Int32} {R : AHeap} : (C1 scr q0 q1 q2 q3 q4 q5 q6 q7 q8 q9 q10 q11 q12 q13 q14 q15 q16 q17 q18 q19 q20 R)[12]? = some (.inr (.inl (1, q10))) := rfl
theorem own_s1_logBuffer {scr : List Int32} {q0 : List Int32} {q1 : List Int32} {q2 : List Int32} {q3 : List Int32} {q4 : List Int32} {q5 : List Int32} {q6 : List Int32} {q7 : List Int32} {q8 : List Int32} {q9 : List Int32} {q10 : List Int32} {q11 : List Int32} {q12 : List Int32} {q13 : Int32} {q14 : Int32} {q15 : Int32} {q16 : Int32} {q17 : Int32} {q18 : Int32} {q19 : Int32} {q20 : Int32} {R : AHeap} {x : List Int32} : (C1 scr q0 q1 q2 q3 q4 q5 q6 q7 q8 q9 q10 q11 q12 q13 q14 q15 q16 q17 q18 q19 q20 R).set 12 (.inr (.inl (1, x))) = (C1 scr q0 q1 q2 q3 q4 q5 q6 q7 q8 q9 x q11 q12 q13 q14 q15 q16 q17 q18 q19 q20 R) := rfl
theorem own_g1_remap {scr : List Int32} {q0 : List Int32} {q1 : List Int32} {q2 : List Int32} {q3 : List Int32} {q4 : List Int32} {q5 : List Int32} {q6 : List Int32} {q7 : List Int32} {q8 : List Int32} {q9 : List Int32} {q10 : List Int32} {q11 : List Int32} {q12 : List Int32} {q13 : Int32} {q14 : Int32} {q15 : Int32} {q16 : Int32} {q17 : Int32} {q18 : Int32} {q19 : Int32} {q20 : Int32} {R : AHeap} : getC (C1 scr q0 q1 q2 q3 q4 q5 q6 q7 q8 q9 q10 q11 q12 q13 q14 q15 q16 q17 q18 q19 q20 R) 1 11 = some (.ref 13) := rfl
theorem own_a1_remap {scr : List Int32} {q0 : List Int32} {q1 : List Int32} {q2 : List Int32} {q3 : List Int32} {q4 : List Int32} {q5 : List Int32} {q6 : List Int32} {q7 : List Int32} {q8 : List Int32} {q9 : List Int32} {q10 : List Int32} {q11 : List Int32} {q12 : List Int32} {q13 : Int32} {q14 : Int32} {q15 : Int32} {q16 : Int32} {q17 : Int32} {q18 : Int32} {q19 : Int32} {q20 : Int32} {R : AHeap} : (C1 scr q0 q1 q2 q3 q4 q5 q6 q7 q8 q9 q10 q11 q12 q13 q14 q15 q16 q17 q18 q19 q20 R)[13]? = some (.inr (.inl (1, q11))) := rfl
theorem own_s1_remap {scr : List Int32} {q0 : List Int32} {q1 : List Int32} {q2 : List Int32} {q3 : List Int32} {q4 : List Int32} {q5 : List Int32} {q6 : List Int32} {q7 : List Int32} {q8 : List Int32} {q9 : List Int32} {q10 : List Int32} {q11 : List Int32} {q12 : List Int32} {q13 : Int32} {q14 : Int32} {q15 : Int32} {q16 : Int32} {q17 : Int32} {q18 : Int32} {q19 : Int32} {q20 : Int32} {R : AHeap} {x : List Int32} : (C1 scr q0 q1 q2 q3 q4 q5 q6 q7 q8 q9 q10 q11 q12 q13 q14 q15 q16 q17 q18 q19 q20 R).set 13 (.inr (.inl (1, x))) = (C1 scr q0 q1 q2 q3 q4 q5 q6 q7 q8 q9 q10 x q12 q13 q14 q15 q16 q17 q18 q19 q20 R) := rfl
theorem own_g1_spareTaken {scr : List Int32} {q0 : List Int32} {q1 : List Int32} {q2 : List Int32} {q3 : List Int32} {q4 : List Int32} {q5 : List Int32} {q6 : List Int32} {q7 : List Int32} {q8 : List Int32} {q9 : List Int32} {q10 : List Int32} {q11 : List Int32} {q12 : List Int32} {q13 : Int32} {q14 : Int32} {q15 : Int32} {q16 : Int32} {q17 : Int32} {q18 : Int32} {q19 : Int32} {q20 : Int32} {R : AHeap} : getC (C1 scr q0 q1 q2 q3 q4 q5 q6 q7 q8 q9 q10 q11 q12 q13 q14 q15 q16 q17 q18 q19 q20 R) 1 12 = some (.ref 14) := rfl
theorem own_a1_spareTaken {scr : List Int32} {q0 : List Int32} {q1 : List Int32} {q2 : List Int32} {q3 : List Int32} {q4 : List Int32} {q5 : List Int32} {q6 : List Int32} {q7 : List Int32} {q8 : List Int32} {q9 : List Int32} {q10 : List Int32} {q11 : List Int32} {q12 : List Int32} {q13 : Int32} {q14 : Int32} {q15 : Int32} {q16 : Int32} {q17 : Int32} {q18 : Int32} {q19 : Int32} {q20 : Int32} {R : AHeap} : (C1 scr q0 q1 q2 q3 q4 q5 q6 q7 q8 q9 q10 q11 q12 q13 q14 q15 q16 q17 q18 q19 q20 R)[14]? = some (.inr (.inl (2, q12))) := rfl
theorem own_s1_spareTaken {scr : List Int32} {q0 : List Int32} {q1 : List Int32} {q2 : List Int32} {q3 : List Int32} {q4 : List Int32} {q5 : List Int32} {q6 : List Int32} {q7 : List Int32} {q8 : List Int32} {q9 : List Int32} {q10 : List Int32} {q11 : List Int32} {q12 : List Int32} {q13 : Int32} {q14 : Int32} {q15 : Int32} {q16 : Int32} {q17 : Int32} {q18 : Int32} {q19 : Int32} {q20 : Int32} {R : AHeap} {x : List Int32} : (C1 scr q0 q1 q2 q3 q4 q5 q6 q7 q8 q9 q10 q11 q12 q13 q14 q15 q16 q17 q18 q19 q20 R).set 14 (.inr (.inl (2, x))) = (C1 scr q0 q1 q2 q3 q4 q5 q6 q7 q8 q9 q10 q11 x q13 q14 q15 q16 q17 q18 q19 q20 R) := rfl
theorem own_g1_spareRows {scr : List Int32} {q0 : List Int32} {q1 : List Int32} {q2 : List Int32} {q3 : List Int32} {q4 : List Int32} {q5 : List Int32} {q6 : List Int32} {q7 : List Int32} {q8 : List Int32} {q9 : List Int32} {q10 : List Int32} {q11 : List Int32} {q12 : List Int32} {q13 : Int32} {q14 : Int32} {q15 : Int32} {q16 : Int32} {q17 : Int32} {q18 : Int32} {q19 : Int32} {q20 : Int32} {R : AHeap} : getC (C1 scr q0 q1 q2 q3 q4 q5 q6 q7 q8 q9 q10 q11 q12 q13 q14 q15 q16 q17 q18 q19 q20 R) 1 13 = some (.int q13) := rfl
theorem own_p1_spareRows {scr : List Int32} {q0 : List Int32} {q1 : List Int32} {q2 : List Int32} {q3 : List Int32} {q4 : List Int32} {q5 : List Int32} {q6 : List Int32} {q7 : List Int32} {q8 : List Int32} {q9 : List Int32} {q10 : List Int32} {q11 : List Int32} {q12 : List Int32} {q13 : Int32} {q14 : Int32} {q15 : Int32} {q16 : Int32} {q17 : Int32} {q18 : Int32} {q19 : Int32} {q20 : Int32} {R : AHeap} {k : Nat} {x : Int32} : putC own_P k (C1 scr q0 q1 q2 q3 q4 q5 q6 q7 q8 q9 q10 q11 q12 q13 q14 q15 q16 q17 q18 q19 q20 R) 1 13 (.int x) = some (C1 scr q0 q1 q2 q3 q4 q5 q6 q7 q8 q9 q10 q11 q12 x q14 q15 q16 q17 q18 q19 q20 R) := rfl
theorem own_g1_faultLimit {scr : List Int32} {q0 : List Int32} {q1 : List Int32} {q2 : List Int32} {q3 : List Int32} {q4 : List Int32} {q5 : List Int32} {q6 : List Int32} {q7 : List Int32} {q8 : List Int32} {q9 : List Int32} {q10 : List Int32} {q11 : List Int32} {q12 : List Int32} {q13 : Int32} {q14 : Int32} {q15 : Int32} {q16 : Int32} {q17 : Int32} {q18 : Int32} {q19 : Int32} {q20 : Int32} {R : AHeap} : getC (C1 scr q0 q1 q2 q3 q4 q5 q6 q7 q8 q9 q10 q11 q12 q13 q14 q15 q16 q17 q18 q19 q20 R) 1 14 = some (.int q14) := rfl
theorem own_p1_faultLimit {scr : List Int32} {q0 : List Int32} {q1 : List Int32} {q2 : List Int32} {q3 : List Int32} {q4 : List Int32} {q5 : List Int32} {q6 : List Int32} {q7 : List Int32} {q8 : List Int32} {q9 : List Int32} {q10 : List Int32} {q11 : List Int32} {q12 : List Int32} {q13 : Int32} {q14 : Int32} {q15 : Int32} {q16 : Int32} {q17 : Int32} {q18 : Int32} {q19 : Int32} {q20 : Int32} {R : AHeap} {k : Nat} {x : Int32} : putC own_P k (C1 scr q0 q1 q2 q3 q4 q5 q6 q7 q8 q9 q10 q11 q12 q13 q14 q15 q16 q17 q18 q19 q20 R) 1 14 (.int x) = some (C1 scr q0 q1 q2 q3 q4 q5 q6 q7 q8 q9 q10 q11 q12 q13 x q15 q16 q17 q18 q19 q20 R) := rfl
theorem own_g1_logLimit {scr : List Int32} {q0 : List Int32} {q1 : List Int32} {q2 : List Int32} {q3 : List Int32} {q4 : List Int32} {q5 : List Int32} {q6 : List Int32} {q7 : List Int32} {q8 : List Int32} {q9 : List Int32} {q10 : List Int32} {q11 : List Int32} {q12 : List Int32} {q13 : Int32} {q14 : Int32} {q15 : Int32} {q16 : Int32} {q17 : Int32} {q18 : Int32} {q19 : Int32} {q20 : Int32} {R : AHeap} : getC (C1 scr q0 q1 q2 q3 q4 q5 q6 q7 q8 q9 q10 q11 q12 q13 q14 q15 q16 q17 q18 q19 q20 R) 1 15 = some (.int q15) := rfl
theorem own_p1_logLimit {scr : List Int32} {q0 : List Int32} {q1 : List Int32} {q2 : List Int32} {q3 : List Int32} {q4 : List Int32} {q5 : List Int32} {q6 : List Int32} {q7 : List Int32} {q8 : List Int32} {q9 : List Int32} {q10 : List Int32} {q11 : List Int32} {q12 : List Int32} {q13 : Int32} {q14 : Int32} {q15 : Int32} {q16 : Int32} {q17 : Int32} {q18 : Int32} {q19 : Int32} {q20 : Int32} {R : AHeap} {k : Nat} {x : Int32} : putC own_P k (C1 scr q0 q1 q2 q3 q4 q5 q6 q7 q8 q9 q10 q11 q12 q13 q14 q15 q16 q17 q18 q19 q20 R) 1 15 (.int x) = some (C1 scr q0 q1 q2 q3 q4 q5 q6 q7 q8 q9 q10 q11 q12 q13 q14 x q16 q17 q18 q19 q20 R) := rfl
theorem own_g1_latchBit {scr : List Int32} {q0 : List Int32} {q1 : List Int32} {q2 : List Int32} {q3 : List Int32} {q4 : List Int32} {q5 : List Int32} {q6 : List Int32} {q7 : List Int32} {q8 : List Int32} {q9 : List Int32} {q10 : List Int32} {q11 : List Int32} {q12 : List Int32} {q13 : Int32} {q14 : Int32} {q15 : Int32} {q16 : Int32} {q17 : Int32} {q18 : Int32} {q19 : Int32} {q20 : Int32} {R : AHeap} : getC (C1 scr q0 q1 q2 q3 q4 q5 q6 q7 q8 q9 q10 q11 q12 q13 q14 q15 q16 q17 q18 q19 q20 R) 1 16 = some (.int q16) := rfl
theorem own_p1_latchBit {scr : List Int32} {q0 : List Int32} {q1 : List Int32} {q2 : List Int32} {q3 : List Int32} {q4 : List Int32} {q5 : List Int32} {q6 : List Int32} {q7 : List Int32} {q8 : List Int32} {q9 : List Int32} {q10 : List Int32} {q11 : List Int32} {q12 : List Int32} {q13 : Int32} {q14 : Int32} {q15 : Int32} {q16 : Int32} {q17 : Int32} {q18 : Int32} {q19 : Int32} {q20 : Int32} {R : AHeap} {k : Nat} {x : Int32} : putC own_P k (C1 scr q0 q1 q2 q3 q4 q5 q6 q7 q8 q9 q10 q11 q12 q13 q14 q15 q16 q17 q18 q19 q20 R) 1 16 (.int x) = some (C1 scr q0 q1 q2 q3 q4 q5 q6 q7 q8 q9 q10 q11 q12 q13 q14 q15 x q17 q18 q19 q20 R) := rfl
theorem own_g1_faultCount {scr : List Int32} {q0 : List Int32} {q1 : List Int32} {q2 : List Int32} {q3 : List Int32} {q4 : List Int32} {q5 : List Int32} {q6 : List Int32} {q7 : List Int32} {q8 : List Int32} {q9 : List Int32} {q10 : List Int32} {q11 : List Int32} {q12 : List Int32} {q13 : Int32} {q14 : Int32} {q15 : Int32} {q16 : Int32} {q17 : Int32} {q18 : Int32} {q19 : Int32} {q20 : Int32} {R : AHeap} : getC (C1 scr q0 q1 q2 q3 q4 q5 q6 q7 q8 q9 q10 q11 q12 q13 q14 q15 q16 q17 q18 q19 q20 R) 1 17 = some (.int q17) := rfl
theorem own_p1_faultCount {scr : List Int32} {q0 : List Int32} {q1 : List Int32} {q2 : List Int32} {q3 : List Int32} {q4 : List Int32} {q5 : List Int32} {q6 : List Int32} {q7 : List Int32} {q8 : List Int32} {q9 : List Int32} {q10 : List Int32} {q11 : List Int32} {q12 : List Int32} {q13 : Int32} {q14 : Int32} {q15 : Int32} {q16 : Int32} {q17 : Int32} {q18 : Int32} {q19 : Int32} {q20 : Int32} {R : AHeap} {k : Nat} {x : Int32} : putC own_P k (C1 scr q0 q1 q2 q3 q4 q5 q6 q7 q8 q9 q10 q11 q12 q13 q14 q15 q16 q17 q18 q19 q20 R) 1 17 (.int x) = some (C1 scr q0 q1 q2 q3 q4 q5 q6 q7 q8 q9 q10 q11 q12 q13 q14 q15 q16 x q18 q19 q20 R) := rfl
theorem own_g1_programLength {scr : List Int32} {q0 : List Int32} {q1 : List Int32} {q2 : List Int32} {q3 : List Int32} {q4 : List Int32} {q5 : List Int32} {q6 : List Int32} {q7 : List Int32} {q8 : List Int32} {q9 : List Int32} {q10 : List Int32} {q11 : List Int32} {q12 : List Int32} {q13 : Int32} {q14 : Int32} {q15 : Int32} {q16 : Int32} {q17 : Int32} {q18 : Int32} {q19 : Int32} {q20 : Int32} {R : AHeap} : getC (C1 scr q0 q1 q2 q3 q4 q5 q6 q7 q8 q9 q10 q11 q12 q13 q14 q15 q16 q17 q18 q19 q20 R) 1 18 = some (.int q18) := rfl
theorem own_p1_programLength {scr : List Int32} {q0 : List Int32} {q1 : List Int32} {q2 : List Int32} {q3 : List Int32} {q4 : List Int32} {q5 : List Int32} {q6 : List Int32} {q7 : List Int32} {q8 : List Int32} {q9 : List Int32} {q10 : List Int32} {q11 : List Int32} {q12 : List Int32} {q13 : Int32} {q14 : Int32} {q15 : Int32} {q16 : Int32} {q17 : Int32} {q18 : Int32} {q19 : Int32} {q20 : Int32} {R : AHeap} {k : Nat} {x : Int32} : putC own_P k (C1 scr q0 q1 q2 q3 q4 q5 q6 q7 q8 q9 q10 q11 q12 q13 q14 q15 q16 q17 q18 q19 q20 R) 1 18 (.int x) = some (C1 scr q0 q1 q2 q3 q4 q5 q6 q7 q8 q9 q10 q11 q12 q13 q14 q15 q16 q17 x q19 q20 R) := rfl
theorem own_g1_logLength {scr : List Int32} {q0 : List Int32} {q1 : List Int32} {q2 : List Int32} {q3 : List Int32} {q4 : List Int32} {q5 : List Int32} {q6 : List Int32} {q7 : List Int32} {q8 : List Int32} {q9 : List Int32} {q10 : List Int32} {q11 : List Int32} {q12 : List Int32} {q13 : Int32} {q14 : Int32} {q15 : Int32} {q16 : Int32} {q17 : Int32} {q18 : Int32} {q19 : Int32} {q20 : Int32} {R : AHeap} : getC (C1 scr q0 q1 q2 q3 q4 q5 q6 q7 q8 q9 q10 q11 q12 q13 q14 q15 q16 q17 q18 q19 q20 R) 1 19 = some (.int q19) := rfl
theorem own_p1_logLength {scr : List Int32} {q0 : List Int32} {q1 : List Int32} {q2 : List Int32} {q3 : List Int32} {q4 : List Int32} {q5 : List Int32} {q6 : List Int32} {q7 : List Int32} {q8 : List Int32} {q9 : List Int32} {q10 : List Int32} {q11 : List Int32} {q12 : List Int32} {q13 : Int32} {q14 : Int32} {q15 : Int32} {q16 : Int32} {q17 : Int32} {q18 : Int32} {q19 : Int32} {q20 : Int32} {R : AHeap} {k : Nat} {x : Int32} : putC own_P k (C1 scr q0 q1 q2 q3 q4 q5 q6 q7 q8 q9 q10 q11 q12 q13 q14 q15 q16 q17 q18 q19 q20 R) 1 19 (.int x) = some (C1 scr q0 q1 q2 q3 q4 q5 q6 q7 q8 q9 q10 q11 q12 q13 q14 q15 q16 q17 q18 x q20 R) := rfl
theorem own_g1_failMask {scr : List Int32} {q0 : List Int32} {q1 : List Int32} {q2 : List Int32} {q3 : List Int32} {q4 : List Int32} {q5 : List Int32} {q6 : List Int32} {q7 : List Int32} {q8 : List Int32} {q9 : List Int32} {q10 : List Int32} {q11 : List Int32} {q12 : List Int32} {q13 : Int32} {q14 : Int32} {q15 : Int32} {q16 : Int32} {q17 : Int32} {q18 : Int32} {q19 : Int32} {q20 : Int32} {R : AHeap} : getC (C1 scr q0 q1 q2 q3 q4 q5 q6 q7 q8 q9 q10 q11 q12 q13 q14 q15 q16 q17 q18 q19 q20 R) 1 20 = some (.int q20) := rfl
theorem own_p1_failMask {scr : List Int32} {q0 : List Int32} {q1 : List Int32} {q2 : List Int32} {q3 : List Int32} {q4 : List Int32} {q5 : List Int32} {q6 : List Int32} {q7 : List Int32} {q8 : List Int32} {q9 : List Int32} {q10 : List Int32} {q11 : List Int32} {q12 : List Int32} {q13 : Int32} {q14 : Int32} {q15 : Int32} {q16 : Int32} {q17 : Int32} {q18 : Int32} {q19 : Int32} {q20 : Int32} {R : AHeap} {k : Nat} {x : Int32} : putC own_P k (C1 scr q0 q1 q2 q3 q4 q5 q6 q7 q8 q9 q10 q11 q12 q13 q14 q15 q16 q17 q18 q19 q20 R) 1 20 (.int x) = some (C1 scr q0 q1 q2 q3 q4 q5 q6 q7 q8 q9 q10 q11 q12 q13 q14 q15 q16 q17 q18 q19 x R) := rfl
def Q.len (s : Q) : List Nat := [s.f_cells.length, s.f_faultKind.length, s.f_faultVictim.length, s.f_faultAggressor.length, s.f_faultTrigger.length, s.f_victimSlot.length, s.f_aggressorUses.length, s.f_elementOrder.length, s.f_elementCount.length, s.f_elementOps.length, s.f_logBuffer.length, s.f_remap.length, s.f_spareTaken.length]
theorem own_lenmk {q0 : List Int32} {q1 : List Int32} {q2 : List Int32} {q3 : List Int32} {q4 : List Int32} {q5 : List Int32} {q6 : List Int32} {q7 : List Int32} {q8 : List Int32} {q9 : List Int32} {q10 : List Int32} {q11 : List Int32} {q12 : List Int32} {q13 : Int32} {q14 : Int32} {q15 : Int32} {q16 : Int32} {q17 : Int32} {q18 : Int32} {q19 : Int32} {q20 : Int32} : (Q.mk q0 q1 q2 q3 q4 q5 q6 q7 q8 q9 q10 q11 q12 q13 q14 q15 q16 q17 q18 q19 q20).len = [q0.length, q1.length, q2.length, q3.length, q4.length, q5.length, q6.length, q7.length, q8.length, q9.length, q10.length, q11.length, q12.length] := by have _h := trivial; exact rfl
theorem own_objN : own_P.objN = 21 := rfl
theorem own_mk1 {scr : List Int32} {q0 : List Int32} {q1 : List Int32} {q2 : List Int32} {q3 : List Int32} {q4 : List Int32} {q5 : List Int32} {q6 : List Int32} {q7 : List Int32} {q8 : List Int32} {q9 : List Int32} {q10 : List Int32} {q11 : List Int32} {q12 : List Int32} {q13 : Int32} {q14 : Int32} {q15 : Int32} {q16 : Int32} {q17 : Int32} {q18 : Int32} {q19 : Int32} {q20 : Int32} {R : AHeap} : W1 scr (Q.mk q0 q1 q2 q3 q4 q5 q6 q7 q8 q9 q10 q11 q12 q13 q14 q15 q16 q17 q18 q19 q20) R = C1 scr q0 q1 q2 q3 q4 q5 q6 q7 q8 q9 q10 q11 q12 q13 q14 q15 q16 q17 q18 q19 q20 R := rfl
def j_clamp (v1 v2 v3 : Int32) : Int32 := (if v1 < v2 then (v2) else (if v3 < v1 then (v3) else (v1)))
set_option maxRecDepth 100000 in
theorem ev_j_clamp (H : AHeap) (a : Nat) (v1 v2 v3 : Int32) {res : Int32} {out : Option Value × AHeap} (h : j_clamp v1 v2 v3 = res) (hk : out = (some (.int res), H)) : Eval own_P 2 0 [some (.ref a), some (.int v1), some (.int v2), some (.int v3)] [] H out := by
  rw [j_clamp] at h
  refine Eval.iload_n rfl rfl ?_
  refine Eval.iload_n rfl rfl ?_
  by_cases hc1 : v1 < v2
  · rw [if_pos hc1] at h
    refine Eval.icmpF rfl (tlt hc1).2.1 ?_
    refine Eval.iload_n rfl rfl ?_
    subst h
    subst hk
    exact Eval.ret rfl rfl
  · rw [if_neg hc1] at h
    refine Eval.icmpT (t := 7) rfl rfl (flt hc1).2.1 ?_
    refine Eval.iload_n rfl rfl ?_
    refine Eval.iload_n rfl rfl ?_
    by_cases hc2 : v3 < v1
    · rw [if_pos hc2] at h
      refine Eval.icmpF rfl (tlt hc2).2.2.2 ?_
      refine Eval.iload_n rfl rfl ?_
      subst h
      subst hk
      exact Eval.ret rfl rfl
    · rw [if_neg hc2] at h
      refine Eval.icmpT (t := 14) rfl rfl (flt hc2).2.2.2 ?_
      refine Eval.iload_n rfl rfl ?_
      subst h
      subst hk
      exact Eval.ret rfl rfl
abbrev j_init_l148_K (scr : List Int32) (res : Q) (out : Option Value × AHeap) : Prop := Eval own_P 1 169 [some (.ref 1), none, none, none, none] [] (W1 scr res []) out

abbrev j_init_l148_N (s res : Q) : Prop := Q.len res = Q.len s
def j_init_l148 : Nat → Q → Int32 → Option (Q)
  | 0, _, _ => none
  | n + 1, s, v4 => (if v4 < (16 : Int32) then (if inb s.f_remap.length v4 = true then (j_init_l148 n (Q.mk s.f_cells s.f_faultKind s.f_faultVictim s.f_faultAggressor s.f_faultTrigger s.f_victimSlot s.f_aggressorUses s.f_elementOrder s.f_elementCount s.f_elementOps s.f_logBuffer (wr s.f_remap v4 (-1 : Int32)) s.f_spareTaken s.f_spareRows s.f_faultLimit s.f_logLimit s.f_latchBit s.f_faultCount s.f_programLength s.f_logLength s.f_failMask) (v4 + (1 : Int32))) else none) else some (s))
set_option maxRecDepth 100000 in
theorem ev_j_init_l148 (scr : List Int32) : ∀ (n : Nat) (s : Q) (v4 : Int32) {res : Q} {out : Option Value × AHeap}, j_init_l148 n s v4 = some res → j_init_l148_K scr res out → Eval own_P 1 148 [some (.ref 1), none, none, none, some (.int v4)] [] (W1 scr s []) out := by
  intro n
  induction n with
  | zero => intro _ _ res out h hk; cases h
  | succ n hrec =>
    intro s v4 res out h hk
    rw [j_init_l148] at h
    refine Eval.iload rfl rfl ?_
    refine Eval.bipush (x := (16 : Int32)) rfl rfl ?_
    by_cases hc3 : v4 < (16 : Int32)
    · rw [if_pos hc3] at h
      refine Eval.icmpF rfl (tlt hc3).2.1 ?_
      refine Eval.aload_n rfl rfl ?_
      refine Eval.getfield rfl rfl own_g1_remap ?_
      refine Eval.iload rfl rfl ?_
      refine Eval.iconst (x := (-1 : Int32)) rfl rfl ?_
      obtain ⟨hb4, h⟩ := ite_some h
      refine Eval.iastore rfl rfl own_a1_remap hb4 own_s1_remap ?_
      refine Eval.iinc (L' := [some (.ref 1), none, none, none, some (.int (v4 + (1 : Int32)))]) rfl rfl rfl ?_
      refine Eval.goto (t := 148) rfl rfl ?_
      refine Eval.heap own_mk1 ?_
      exact hrec _ _ h hk
    · rw [if_neg hc3] at h
      refine Eval.icmpT (t := 169) rfl rfl (flt hc3).2.1 ?_
      cases h
      refine Eval.weak (lw_mk 1 _) ?_
      exact hk
def j_init_b110 (s : Q) (v1 v2 v3 : Int32) : Option (Q) := ((j_init_l148 3000 (Q.mk s.f_cells s.f_faultKind s.f_faultVictim s.f_faultAggressor s.f_faultTrigger s.f_victimSlot s.f_aggressorUses s.f_elementOrder s.f_elementCount s.f_elementOps s.f_logBuffer s.f_remap s.f_spareTaken (j_clamp v1 (0 : Int32) (4 : Int32)) (j_clamp v2 (1 : Int32) (16 : Int32)) (j_clamp v3 (1 : Int32) (32 : Int32)) s.f_latchBit s.f_faultCount s.f_programLength s.f_logLength s.f_failMask) (0 : Int32)).bind fun p5 => some ((Q.mk p5.f_cells p5.f_faultKind p5.f_faultVictim p5.f_faultAggressor p5.f_faultTrigger p5.f_victimSlot p5.f_aggressorUses p5.f_elementOrder p5.f_elementCount p5.f_elementOps p5.f_logBuffer p5.f_remap p5.f_spareTaken p5.f_spareRows p5.f_faultLimit p5.f_logLimit (0 : Int32) (0 : Int32) (0 : Int32) (0 : Int32) (0 : Int32))))
set_option maxRecDepth 100000 in
theorem ev_j_init_b110 (scr : List Int32) (s : Q) (v1 v2 v3 : Int32) {res : Q} {out : Option Value × AHeap} (h : j_init_b110 s v1 v2 v3 = some res) (hk : out = (none, (W1 scr res []))) : Eval own_P 1 110 [some (.ref 1), some (.int v1), some (.int v2), some (.int v3), none] [] (W1 scr s []) out := by
  rw [j_init_b110] at h
  refine Eval.aload_n rfl rfl ?_
  refine Eval.aload_n rfl rfl ?_
  refine Eval.iload_n rfl rfl ?_
  refine Eval.iconst (x := (0 : Int32)) rfl rfl ?_
  refine Eval.iconst (x := (4 : Int32)) rfl rfl ?_
  refine Eval.callI (rest := [.ref 1]) (x := (j_clamp v1 (0 : Int32) (4 : Int32))) (H1 := (W1 scr s [])) rfl rfl (ev_j_clamp (W1 scr s []) 1 v1 (0 : Int32) (4 : Int32) rfl rfl) ?_
  refine Eval.putfield rfl rfl own_p1_spareRows ?_
  refine Eval.aload_n rfl rfl ?_
  refine Eval.aload_n rfl rfl ?_
  refine Eval.iload_n rfl rfl ?_
  refine Eval.iconst (x := (1 : Int32)) rfl rfl ?_
  refine Eval.bipush (x := (16 : Int32)) rfl rfl ?_
  refine Eval.callI (rest := [.ref 1]) (x := (j_clamp v2 (1 : Int32) (16 : Int32))) (H1 := (C1 scr s.f_cells s.f_faultKind s.f_faultVictim s.f_faultAggressor s.f_faultTrigger s.f_victimSlot s.f_aggressorUses s.f_elementOrder s.f_elementCount s.f_elementOps s.f_logBuffer s.f_remap s.f_spareTaken (j_clamp v1 (0 : Int32) (4 : Int32)) s.f_faultLimit s.f_logLimit s.f_latchBit s.f_faultCount s.f_programLength s.f_logLength s.f_failMask [])) rfl rfl (ev_j_clamp (C1 scr s.f_cells s.f_faultKind s.f_faultVictim s.f_faultAggressor s.f_faultTrigger s.f_victimSlot s.f_aggressorUses s.f_elementOrder s.f_elementCount s.f_elementOps s.f_logBuffer s.f_remap s.f_spareTaken (j_clamp v1 (0 : Int32) (4 : Int32)) s.f_faultLimit s.f_logLimit s.f_latchBit s.f_faultCount s.f_programLength s.f_logLength s.f_failMask []) 1 v2 (1 : Int32) (16 : Int32) rfl rfl) ?_
  refine Eval.putfield rfl rfl own_p1_faultLimit ?_
  refine Eval.aload_n rfl rfl ?_
  refine Eval.aload_n rfl rfl ?_
  refine Eval.iload_n rfl rfl ?_
  refine Eval.iconst (x := (1 : Int32)) rfl rfl ?_
  refine Eval.bipush (x := (32 : Int32)) rfl rfl ?_
  refine Eval.callI (rest := [.ref 1]) (x := (j_clamp v3 (1 : Int32) (32 : Int32))) (H1 := (C1 scr s.f_cells s.f_faultKind s.f_faultVictim s.f_faultAggressor s.f_faultTrigger s.f_victimSlot s.f_aggressorUses s.f_elementOrder s.f_elementCount s.f_elementOps s.f_logBuffer s.f_remap s.f_spareTaken (j_clamp v1 (0 : Int32) (4 : Int32)) (j_clamp v2 (1 : Int32) (16 : Int32)) s.f_logLimit s.f_latchBit s.f_faultCount s.f_programLength s.f_logLength s.f_failMask [])) rfl rfl (ev_j_clamp (C1 scr s.f_cells s.f_faultKind s.f_faultVictim s.f_faultAggressor s.f_faultTrigger s.f_victimSlot s.f_aggressorUses s.f_elementOrder s.f_elementCount s.f_elementOps s.f_logBuffer s.f_remap s.f_spareTaken (j_clamp v1 (0 : Int32) (4 : Int32)) (j_clamp v2 (1 : Int32) (16 : Int32)) s.f_logLimit s.f_latchBit s.f_faultCount s.f_programLength s.f_logLength s.f_failMask []) 1 v3 (1 : Int32) (32 : Int32) rfl rfl) ?_
  refine Eval.putfield rfl rfl own_p1_logLimit ?_
  refine Eval.iconst (x := (0 : Int32)) rfl rfl ?_
  refine Eval.istore (L' := [some (.ref 1), some (.int v1), some (.int v2), some (.int v3), some (.int (0 : Int32))]) rfl rfl ?_
  refine Eval.heap own_mk1 ?_
  refine Eval.weak (lw_mk 17 _) ?_
  obtain ⟨p5, hq6, h⟩ := bind_some h
  refine ev_j_init_l148 scr _ (Q.mk s.f_cells s.f_faultKind s.f_faultVictim s.f_faultAggressor s.f_faultTrigger s.f_victimSlot s.f_aggressorUses s.f_elementOrder s.f_elementCount s.f_elementOps s.f_logBuffer s.f_remap s.f_spareTaken (j_clamp v1 (0 : Int32) (4 : Int32)) (j_clamp v2 (1 : Int32) (16 : Int32)) (j_clamp v3 (1 : Int32) (32 : Int32)) s.f_latchBit s.f_faultCount s.f_programLength s.f_logLength s.f_failMask) (0 : Int32) hq6 ?_
  show Eval own_P 1 169 [some (.ref 1), none, none, none, none] [] (W1 scr p5 []) out
  refine Eval.aload_n rfl rfl ?_
  refine Eval.iconst (x := (0 : Int32)) rfl rfl ?_
  refine Eval.putfield rfl rfl own_p1_latchBit ?_
  refine Eval.aload_n rfl rfl ?_
  refine Eval.iconst (x := (0 : Int32)) rfl rfl ?_
  refine Eval.putfield rfl rfl own_p1_faultCount ?_
  refine Eval.aload_n rfl rfl ?_
  refine Eval.iconst (x := (0 : Int32)) rfl rfl ?_
  refine Eval.putfield rfl rfl own_p1_programLength ?_
  refine Eval.aload_n rfl rfl ?_
  refine Eval.iconst (x := (0 : Int32)) rfl rfl ?_
  refine Eval.putfield rfl rfl own_p1_logLength ?_
  refine Eval.aload_n rfl rfl ?_
  refine Eval.iconst (x := (0 : Int32)) rfl rfl ?_
  refine Eval.putfield rfl rfl own_p1_failMask ?_
  cases h
  subst hk
  exact Eval.retH own_mk1 rfl rfl
def j_init (v1 v2 v3 : Int32) : Option (Q) := (j_init_b110 Q0 v1 v2 v3)
set_option maxRecDepth 100000 in
theorem ev_j_init (scr : List Int32) (v1 v2 v3 : Int32) {res : Q} {out : Option Value × AHeap} (h : j_init v1 v2 v3 = some res) (hk : out = (none, (W1 scr res []))) : Eval own_P 1 0 [some (.ref 1), some (.int v1), some (.int v2), some (.int v3), none] [] (W0 scr [.inl [.null, .null, .null, .null, .null, .null, .null, .null, .null, .null, .null, .null, .null, .int (0 : Int32), .int (0 : Int32), .int (0 : Int32), .int (0 : Int32), .int (0 : Int32), .int (0 : Int32), .int (0 : Int32), .int (0 : Int32)]]) out := by
  rw [j_init] at h
  refine Eval.aload_n rfl rfl ?_
  refine Eval.objInit rfl rfl ?_
  refine Eval.aload_n rfl rfl ?_
  refine Eval.sipush (x := (320 : Int32)) rfl rfl ?_
  refine Eval.newarray (z := 21) (N := 320) (a := 2) (H1 := (W0 scr [.inl [.null, .null, .null, .null, .null, .null, .null, .null, .null, .null, .null, .null, .null, .int (0 : Int32), .int (0 : Int32), .int (0 : Int32), .int (0 : Int32), .int (0 : Int32), .int (0 : Int32), .int (0 : Int32), .int (0 : Int32)], .inr (.inl (3, List.replicate 320 0))])) rfl rfl rfl rfl rfl (by decide) (by decide) (by unfold W0; simp only [hsz, csz, own_objN, List.length_replicate]) (by decide) rfl ?_
  refine Eval.putfield (H1 := (W0 scr [.inl [.ref 2, .null, .null, .null, .null, .null, .null, .null, .null, .null, .null, .null, .null, .int (0 : Int32), .int (0 : Int32), .int (0 : Int32), .int (0 : Int32), .int (0 : Int32), .int (0 : Int32), .int (0 : Int32), .int (0 : Int32)], .inr (.inl (3, List.replicate 320 0))])) rfl rfl rfl ?_
  refine Eval.aload_n rfl rfl ?_
  refine Eval.bipush (x := (16 : Int32)) rfl rfl ?_
  refine Eval.newarray (z := 341) (N := 16) (a := 3) (H1 := (W0 scr [.inl [.ref 2, .null, .null, .null, .null, .null, .null, .null, .null, .null, .null, .null, .null, .int (0 : Int32), .int (0 : Int32), .int (0 : Int32), .int (0 : Int32), .int (0 : Int32), .int (0 : Int32), .int (0 : Int32), .int (0 : Int32)], .inr (.inl (3, List.replicate 320 0)), .inr (.inl (1, List.replicate 16 0))])) rfl rfl rfl rfl rfl (by decide) (by decide) (by unfold W0; simp only [hsz, csz, own_objN, List.length_replicate]) (by decide) rfl ?_
  refine Eval.putfield (H1 := (W0 scr [.inl [.ref 2, .ref 3, .null, .null, .null, .null, .null, .null, .null, .null, .null, .null, .null, .int (0 : Int32), .int (0 : Int32), .int (0 : Int32), .int (0 : Int32), .int (0 : Int32), .int (0 : Int32), .int (0 : Int32), .int (0 : Int32)], .inr (.inl (3, List.replicate 320 0)), .inr (.inl (1, List.replicate 16 0))])) rfl rfl rfl ?_
  refine Eval.aload_n rfl rfl ?_
  refine Eval.bipush (x := (16 : Int32)) rfl rfl ?_
  refine Eval.newarray (z := 357) (N := 16) (a := 4) (H1 := (W0 scr [.inl [.ref 2, .ref 3, .null, .null, .null, .null, .null, .null, .null, .null, .null, .null, .null, .int (0 : Int32), .int (0 : Int32), .int (0 : Int32), .int (0 : Int32), .int (0 : Int32), .int (0 : Int32), .int (0 : Int32), .int (0 : Int32)], .inr (.inl (3, List.replicate 320 0)), .inr (.inl (1, List.replicate 16 0)), .inr (.inl (1, List.replicate 16 0))])) rfl rfl rfl rfl rfl (by decide) (by decide) (by unfold W0; simp only [hsz, csz, own_objN, List.length_replicate]) (by decide) rfl ?_
  refine Eval.putfield (H1 := (W0 scr [.inl [.ref 2, .ref 3, .ref 4, .null, .null, .null, .null, .null, .null, .null, .null, .null, .null, .int (0 : Int32), .int (0 : Int32), .int (0 : Int32), .int (0 : Int32), .int (0 : Int32), .int (0 : Int32), .int (0 : Int32), .int (0 : Int32)], .inr (.inl (3, List.replicate 320 0)), .inr (.inl (1, List.replicate 16 0)), .inr (.inl (1, List.replicate 16 0))])) rfl rfl rfl ?_
  refine Eval.aload_n rfl rfl ?_
  refine Eval.bipush (x := (16 : Int32)) rfl rfl ?_
  refine Eval.newarray (z := 373) (N := 16) (a := 5) (H1 := (W0 scr [.inl [.ref 2, .ref 3, .ref 4, .null, .null, .null, .null, .null, .null, .null, .null, .null, .null, .int (0 : Int32), .int (0 : Int32), .int (0 : Int32), .int (0 : Int32), .int (0 : Int32), .int (0 : Int32), .int (0 : Int32), .int (0 : Int32)], .inr (.inl (3, List.replicate 320 0)), .inr (.inl (1, List.replicate 16 0)), .inr (.inl (1, List.replicate 16 0)), .inr (.inl (1, List.replicate 16 0))])) rfl rfl rfl rfl rfl (by decide) (by decide) (by unfold W0; simp only [hsz, csz, own_objN, List.length_replicate]) (by decide) rfl ?_
  refine Eval.putfield (H1 := (W0 scr [.inl [.ref 2, .ref 3, .ref 4, .ref 5, .null, .null, .null, .null, .null, .null, .null, .null, .null, .int (0 : Int32), .int (0 : Int32), .int (0 : Int32), .int (0 : Int32), .int (0 : Int32), .int (0 : Int32), .int (0 : Int32), .int (0 : Int32)], .inr (.inl (3, List.replicate 320 0)), .inr (.inl (1, List.replicate 16 0)), .inr (.inl (1, List.replicate 16 0)), .inr (.inl (1, List.replicate 16 0))])) rfl rfl rfl ?_
  refine Eval.aload_n rfl rfl ?_
  refine Eval.bipush (x := (16 : Int32)) rfl rfl ?_
  refine Eval.newarray (z := 389) (N := 16) (a := 6) (H1 := (W0 scr [.inl [.ref 2, .ref 3, .ref 4, .ref 5, .null, .null, .null, .null, .null, .null, .null, .null, .null, .int (0 : Int32), .int (0 : Int32), .int (0 : Int32), .int (0 : Int32), .int (0 : Int32), .int (0 : Int32), .int (0 : Int32), .int (0 : Int32)], .inr (.inl (3, List.replicate 320 0)), .inr (.inl (1, List.replicate 16 0)), .inr (.inl (1, List.replicate 16 0)), .inr (.inl (1, List.replicate 16 0)), .inr (.inl (1, List.replicate 16 0))])) rfl rfl rfl rfl rfl (by decide) (by decide) (by unfold W0; simp only [hsz, csz, own_objN, List.length_replicate]) (by decide) rfl ?_
  refine Eval.putfield (H1 := (W0 scr [.inl [.ref 2, .ref 3, .ref 4, .ref 5, .ref 6, .null, .null, .null, .null, .null, .null, .null, .null, .int (0 : Int32), .int (0 : Int32), .int (0 : Int32), .int (0 : Int32), .int (0 : Int32), .int (0 : Int32), .int (0 : Int32), .int (0 : Int32)], .inr (.inl (3, List.replicate 320 0)), .inr (.inl (1, List.replicate 16 0)), .inr (.inl (1, List.replicate 16 0)), .inr (.inl (1, List.replicate 16 0)), .inr (.inl (1, List.replicate 16 0))])) rfl rfl rfl ?_
  refine Eval.aload_n rfl rfl ?_
  refine Eval.sipush (x := (256 : Int32)) rfl rfl ?_
  refine Eval.newarray (z := 405) (N := 256) (a := 7) (H1 := (W0 scr [.inl [.ref 2, .ref 3, .ref 4, .ref 5, .ref 6, .null, .null, .null, .null, .null, .null, .null, .null, .int (0 : Int32), .int (0 : Int32), .int (0 : Int32), .int (0 : Int32), .int (0 : Int32), .int (0 : Int32), .int (0 : Int32), .int (0 : Int32)], .inr (.inl (3, List.replicate 320 0)), .inr (.inl (1, List.replicate 16 0)), .inr (.inl (1, List.replicate 16 0)), .inr (.inl (1, List.replicate 16 0)), .inr (.inl (1, List.replicate 16 0)), .inr (.inl (1, List.replicate 256 0))])) rfl rfl rfl rfl rfl (by decide) (by decide) (by unfold W0; simp only [hsz, csz, own_objN, List.length_replicate]) (by decide) rfl ?_
  refine Eval.putfield (H1 := (W0 scr [.inl [.ref 2, .ref 3, .ref 4, .ref 5, .ref 6, .ref 7, .null, .null, .null, .null, .null, .null, .null, .int (0 : Int32), .int (0 : Int32), .int (0 : Int32), .int (0 : Int32), .int (0 : Int32), .int (0 : Int32), .int (0 : Int32), .int (0 : Int32)], .inr (.inl (3, List.replicate 320 0)), .inr (.inl (1, List.replicate 16 0)), .inr (.inl (1, List.replicate 16 0)), .inr (.inl (1, List.replicate 16 0)), .inr (.inl (1, List.replicate 16 0)), .inr (.inl (1, List.replicate 256 0))])) rfl rfl rfl ?_
  refine Eval.aload_n rfl rfl ?_
  refine Eval.sipush (x := (256 : Int32)) rfl rfl ?_
  refine Eval.newarray (z := 661) (N := 256) (a := 8) (H1 := (W0 scr [.inl [.ref 2, .ref 3, .ref 4, .ref 5, .ref 6, .ref 7, .null, .null, .null, .null, .null, .null, .null, .int (0 : Int32), .int (0 : Int32), .int (0 : Int32), .int (0 : Int32), .int (0 : Int32), .int (0 : Int32), .int (0 : Int32), .int (0 : Int32)], .inr (.inl (3, List.replicate 320 0)), .inr (.inl (1, List.replicate 16 0)), .inr (.inl (1, List.replicate 16 0)), .inr (.inl (1, List.replicate 16 0)), .inr (.inl (1, List.replicate 16 0)), .inr (.inl (1, List.replicate 256 0)), .inr (.inl (1, List.replicate 256 0))])) rfl rfl rfl rfl rfl (by decide) (by decide) (by unfold W0; simp only [hsz, csz, own_objN, List.length_replicate]) (by decide) rfl ?_
  refine Eval.putfield (H1 := (W0 scr [.inl [.ref 2, .ref 3, .ref 4, .ref 5, .ref 6, .ref 7, .ref 8, .null, .null, .null, .null, .null, .null, .int (0 : Int32), .int (0 : Int32), .int (0 : Int32), .int (0 : Int32), .int (0 : Int32), .int (0 : Int32), .int (0 : Int32), .int (0 : Int32)], .inr (.inl (3, List.replicate 320 0)), .inr (.inl (1, List.replicate 16 0)), .inr (.inl (1, List.replicate 16 0)), .inr (.inl (1, List.replicate 16 0)), .inr (.inl (1, List.replicate 16 0)), .inr (.inl (1, List.replicate 256 0)), .inr (.inl (1, List.replicate 256 0))])) rfl rfl rfl ?_
  refine Eval.aload_n rfl rfl ?_
  refine Eval.bipush (x := (8 : Int32)) rfl rfl ?_
  refine Eval.newarray (z := 917) (N := 8) (a := 9) (H1 := (W0 scr [.inl [.ref 2, .ref 3, .ref 4, .ref 5, .ref 6, .ref 7, .ref 8, .null, .null, .null, .null, .null, .null, .int (0 : Int32), .int (0 : Int32), .int (0 : Int32), .int (0 : Int32), .int (0 : Int32), .int (0 : Int32), .int (0 : Int32), .int (0 : Int32)], .inr (.inl (3, List.replicate 320 0)), .inr (.inl (1, List.replicate 16 0)), .inr (.inl (1, List.replicate 16 0)), .inr (.inl (1, List.replicate 16 0)), .inr (.inl (1, List.replicate 16 0)), .inr (.inl (1, List.replicate 256 0)), .inr (.inl (1, List.replicate 256 0)), .inr (.inl (1, List.replicate 8 0))])) rfl rfl rfl rfl rfl (by decide) (by decide) (by unfold W0; simp only [hsz, csz, own_objN, List.length_replicate]) (by decide) rfl ?_
  refine Eval.putfield (H1 := (W0 scr [.inl [.ref 2, .ref 3, .ref 4, .ref 5, .ref 6, .ref 7, .ref 8, .ref 9, .null, .null, .null, .null, .null, .int (0 : Int32), .int (0 : Int32), .int (0 : Int32), .int (0 : Int32), .int (0 : Int32), .int (0 : Int32), .int (0 : Int32), .int (0 : Int32)], .inr (.inl (3, List.replicate 320 0)), .inr (.inl (1, List.replicate 16 0)), .inr (.inl (1, List.replicate 16 0)), .inr (.inl (1, List.replicate 16 0)), .inr (.inl (1, List.replicate 16 0)), .inr (.inl (1, List.replicate 256 0)), .inr (.inl (1, List.replicate 256 0)), .inr (.inl (1, List.replicate 8 0))])) rfl rfl rfl ?_
  refine Eval.aload_n rfl rfl ?_
  refine Eval.bipush (x := (8 : Int32)) rfl rfl ?_
  refine Eval.newarray (z := 925) (N := 8) (a := 10) (H1 := (W0 scr [.inl [.ref 2, .ref 3, .ref 4, .ref 5, .ref 6, .ref 7, .ref 8, .ref 9, .null, .null, .null, .null, .null, .int (0 : Int32), .int (0 : Int32), .int (0 : Int32), .int (0 : Int32), .int (0 : Int32), .int (0 : Int32), .int (0 : Int32), .int (0 : Int32)], .inr (.inl (3, List.replicate 320 0)), .inr (.inl (1, List.replicate 16 0)), .inr (.inl (1, List.replicate 16 0)), .inr (.inl (1, List.replicate 16 0)), .inr (.inl (1, List.replicate 16 0)), .inr (.inl (1, List.replicate 256 0)), .inr (.inl (1, List.replicate 256 0)), .inr (.inl (1, List.replicate 8 0)), .inr (.inl (1, List.replicate 8 0))])) rfl rfl rfl rfl rfl (by decide) (by decide) (by unfold W0; simp only [hsz, csz, own_objN, List.length_replicate]) (by decide) rfl ?_
  refine Eval.putfield (H1 := (W0 scr [.inl [.ref 2, .ref 3, .ref 4, .ref 5, .ref 6, .ref 7, .ref 8, .ref 9, .ref 10, .null, .null, .null, .null, .int (0 : Int32), .int (0 : Int32), .int (0 : Int32), .int (0 : Int32), .int (0 : Int32), .int (0 : Int32), .int (0 : Int32), .int (0 : Int32)], .inr (.inl (3, List.replicate 320 0)), .inr (.inl (1, List.replicate 16 0)), .inr (.inl (1, List.replicate 16 0)), .inr (.inl (1, List.replicate 16 0)), .inr (.inl (1, List.replicate 16 0)), .inr (.inl (1, List.replicate 256 0)), .inr (.inl (1, List.replicate 256 0)), .inr (.inl (1, List.replicate 8 0)), .inr (.inl (1, List.replicate 8 0))])) rfl rfl rfl ?_
  refine Eval.aload_n rfl rfl ?_
  refine Eval.bipush (x := (8 : Int32)) rfl rfl ?_
  refine Eval.newarray (z := 933) (N := 8) (a := 11) (H1 := (W0 scr [.inl [.ref 2, .ref 3, .ref 4, .ref 5, .ref 6, .ref 7, .ref 8, .ref 9, .ref 10, .null, .null, .null, .null, .int (0 : Int32), .int (0 : Int32), .int (0 : Int32), .int (0 : Int32), .int (0 : Int32), .int (0 : Int32), .int (0 : Int32), .int (0 : Int32)], .inr (.inl (3, List.replicate 320 0)), .inr (.inl (1, List.replicate 16 0)), .inr (.inl (1, List.replicate 16 0)), .inr (.inl (1, List.replicate 16 0)), .inr (.inl (1, List.replicate 16 0)), .inr (.inl (1, List.replicate 256 0)), .inr (.inl (1, List.replicate 256 0)), .inr (.inl (1, List.replicate 8 0)), .inr (.inl (1, List.replicate 8 0)), .inr (.inl (1, List.replicate 8 0))])) rfl rfl rfl rfl rfl (by decide) (by decide) (by unfold W0; simp only [hsz, csz, own_objN, List.length_replicate]) (by decide) rfl ?_
  refine Eval.putfield (H1 := (W0 scr [.inl [.ref 2, .ref 3, .ref 4, .ref 5, .ref 6, .ref 7, .ref 8, .ref 9, .ref 10, .ref 11, .null, .null, .null, .int (0 : Int32), .int (0 : Int32), .int (0 : Int32), .int (0 : Int32), .int (0 : Int32), .int (0 : Int32), .int (0 : Int32), .int (0 : Int32)], .inr (.inl (3, List.replicate 320 0)), .inr (.inl (1, List.replicate 16 0)), .inr (.inl (1, List.replicate 16 0)), .inr (.inl (1, List.replicate 16 0)), .inr (.inl (1, List.replicate 16 0)), .inr (.inl (1, List.replicate 256 0)), .inr (.inl (1, List.replicate 256 0)), .inr (.inl (1, List.replicate 8 0)), .inr (.inl (1, List.replicate 8 0)), .inr (.inl (1, List.replicate 8 0))])) rfl rfl rfl ?_
  refine Eval.aload_n rfl rfl ?_
  refine Eval.bipush (x := (32 : Int32)) rfl rfl ?_
  refine Eval.newarray (z := 941) (N := 32) (a := 12) (H1 := (W0 scr [.inl [.ref 2, .ref 3, .ref 4, .ref 5, .ref 6, .ref 7, .ref 8, .ref 9, .ref 10, .ref 11, .null, .null, .null, .int (0 : Int32), .int (0 : Int32), .int (0 : Int32), .int (0 : Int32), .int (0 : Int32), .int (0 : Int32), .int (0 : Int32), .int (0 : Int32)], .inr (.inl (3, List.replicate 320 0)), .inr (.inl (1, List.replicate 16 0)), .inr (.inl (1, List.replicate 16 0)), .inr (.inl (1, List.replicate 16 0)), .inr (.inl (1, List.replicate 16 0)), .inr (.inl (1, List.replicate 256 0)), .inr (.inl (1, List.replicate 256 0)), .inr (.inl (1, List.replicate 8 0)), .inr (.inl (1, List.replicate 8 0)), .inr (.inl (1, List.replicate 8 0)), .inr (.inl (1, List.replicate 32 0))])) rfl rfl rfl rfl rfl (by decide) (by decide) (by unfold W0; simp only [hsz, csz, own_objN, List.length_replicate]) (by decide) rfl ?_
  refine Eval.putfield (H1 := (W0 scr [.inl [.ref 2, .ref 3, .ref 4, .ref 5, .ref 6, .ref 7, .ref 8, .ref 9, .ref 10, .ref 11, .ref 12, .null, .null, .int (0 : Int32), .int (0 : Int32), .int (0 : Int32), .int (0 : Int32), .int (0 : Int32), .int (0 : Int32), .int (0 : Int32), .int (0 : Int32)], .inr (.inl (3, List.replicate 320 0)), .inr (.inl (1, List.replicate 16 0)), .inr (.inl (1, List.replicate 16 0)), .inr (.inl (1, List.replicate 16 0)), .inr (.inl (1, List.replicate 16 0)), .inr (.inl (1, List.replicate 256 0)), .inr (.inl (1, List.replicate 256 0)), .inr (.inl (1, List.replicate 8 0)), .inr (.inl (1, List.replicate 8 0)), .inr (.inl (1, List.replicate 8 0)), .inr (.inl (1, List.replicate 32 0))])) rfl rfl rfl ?_
  refine Eval.aload_n rfl rfl ?_
  refine Eval.bipush (x := (16 : Int32)) rfl rfl ?_
  refine Eval.newarray (z := 973) (N := 16) (a := 13) (H1 := (W0 scr [.inl [.ref 2, .ref 3, .ref 4, .ref 5, .ref 6, .ref 7, .ref 8, .ref 9, .ref 10, .ref 11, .ref 12, .null, .null, .int (0 : Int32), .int (0 : Int32), .int (0 : Int32), .int (0 : Int32), .int (0 : Int32), .int (0 : Int32), .int (0 : Int32), .int (0 : Int32)], .inr (.inl (3, List.replicate 320 0)), .inr (.inl (1, List.replicate 16 0)), .inr (.inl (1, List.replicate 16 0)), .inr (.inl (1, List.replicate 16 0)), .inr (.inl (1, List.replicate 16 0)), .inr (.inl (1, List.replicate 256 0)), .inr (.inl (1, List.replicate 256 0)), .inr (.inl (1, List.replicate 8 0)), .inr (.inl (1, List.replicate 8 0)), .inr (.inl (1, List.replicate 8 0)), .inr (.inl (1, List.replicate 32 0)), .inr (.inl (1, List.replicate 16 0))])) rfl rfl rfl rfl rfl (by decide) (by decide) (by unfold W0; simp only [hsz, csz, own_objN, List.length_replicate]) (by decide) rfl ?_
  refine Eval.putfield (H1 := (W0 scr [.inl [.ref 2, .ref 3, .ref 4, .ref 5, .ref 6, .ref 7, .ref 8, .ref 9, .ref 10, .ref 11, .ref 12, .ref 13, .null, .int (0 : Int32), .int (0 : Int32), .int (0 : Int32), .int (0 : Int32), .int (0 : Int32), .int (0 : Int32), .int (0 : Int32), .int (0 : Int32)], .inr (.inl (3, List.replicate 320 0)), .inr (.inl (1, List.replicate 16 0)), .inr (.inl (1, List.replicate 16 0)), .inr (.inl (1, List.replicate 16 0)), .inr (.inl (1, List.replicate 16 0)), .inr (.inl (1, List.replicate 256 0)), .inr (.inl (1, List.replicate 256 0)), .inr (.inl (1, List.replicate 8 0)), .inr (.inl (1, List.replicate 8 0)), .inr (.inl (1, List.replicate 8 0)), .inr (.inl (1, List.replicate 32 0)), .inr (.inl (1, List.replicate 16 0))])) rfl rfl rfl ?_
  refine Eval.aload_n rfl rfl ?_
  refine Eval.iconst (x := (4 : Int32)) rfl rfl ?_
  refine Eval.newarray (z := 989) (N := 4) (a := 14) (H1 := (W0 scr [.inl [.ref 2, .ref 3, .ref 4, .ref 5, .ref 6, .ref 7, .ref 8, .ref 9, .ref 10, .ref 11, .ref 12, .ref 13, .null, .int (0 : Int32), .int (0 : Int32), .int (0 : Int32), .int (0 : Int32), .int (0 : Int32), .int (0 : Int32), .int (0 : Int32), .int (0 : Int32)], .inr (.inl (3, List.replicate 320 0)), .inr (.inl (1, List.replicate 16 0)), .inr (.inl (1, List.replicate 16 0)), .inr (.inl (1, List.replicate 16 0)), .inr (.inl (1, List.replicate 16 0)), .inr (.inl (1, List.replicate 256 0)), .inr (.inl (1, List.replicate 256 0)), .inr (.inl (1, List.replicate 8 0)), .inr (.inl (1, List.replicate 8 0)), .inr (.inl (1, List.replicate 8 0)), .inr (.inl (1, List.replicate 32 0)), .inr (.inl (1, List.replicate 16 0)), .inr (.inl (2, List.replicate 4 0))])) rfl rfl rfl rfl rfl (by decide) (by decide) (by unfold W0; simp only [hsz, csz, own_objN, List.length_replicate]) (by decide) rfl ?_
  refine Eval.putfield (H1 := (W0 scr [.inl [.ref 2, .ref 3, .ref 4, .ref 5, .ref 6, .ref 7, .ref 8, .ref 9, .ref 10, .ref 11, .ref 12, .ref 13, .ref 14, .int (0 : Int32), .int (0 : Int32), .int (0 : Int32), .int (0 : Int32), .int (0 : Int32), .int (0 : Int32), .int (0 : Int32), .int (0 : Int32)], .inr (.inl (3, List.replicate 320 0)), .inr (.inl (1, List.replicate 16 0)), .inr (.inl (1, List.replicate 16 0)), .inr (.inl (1, List.replicate 16 0)), .inr (.inl (1, List.replicate 16 0)), .inr (.inl (1, List.replicate 256 0)), .inr (.inl (1, List.replicate 256 0)), .inr (.inl (1, List.replicate 8 0)), .inr (.inl (1, List.replicate 8 0)), .inr (.inl (1, List.replicate 8 0)), .inr (.inl (1, List.replicate 32 0)), .inr (.inl (1, List.replicate 16 0)), .inr (.inl (2, List.replicate 4 0))])) rfl rfl rfl ?_
  show Eval own_P 1 110 [some (.ref 1), some (.int v1), some (.int v2), some (.int v3), none] [] (W1 scr Q0 []) out
  exact ev_j_init_b110 scr Q0 v1 v2 v3 h hk
abbrev law_l34_K (scr : List Int32) (res : (Q) ⊕ ((Q) ⊕ ((Q) ⊕ ((Q) ⊕ ((Q) ⊕ ((Q) ⊕ ((Q) ⊕ ((Q) ⊕ ((Q) ⊕ ((Q) ⊕ ((Q) ⊕ ((Q) ⊕ ((Q) ⊕ ((Q) ⊕ ((Q) ⊕ ((Q) ⊕ ((Q) ⊕ ((Q) ⊕ ((Q) ⊕ ((Q) ⊕ (Q))))))))))))))))))))) (out : Option Value × AHeap) : Prop := Sum.elim (fun res => Eval own_P 0 155 [none, none, none, none, none, none, none, none, none, none, none, none, none, none, none, none, none, none, none, none] [] (W1 scr res []) out) (fun res => Sum.elim (fun res => Eval own_P 0 216 [none, none, none, none, none, none, none, none, none, none, none, none, none, none, none, none, none, none, none, none] [] (W1 scr res []) out) (fun res => Sum.elim (fun res => Eval own_P 0 332 [none, none, none, none, none, none, none, none, none, none, none, none, none, none, none, none, none, none, none, none] [] (W1 scr res []) out) (fun res => Sum.elim (fun res => Eval own_P 0 375 [none, none, none, none, none, none, none, none, none, none, none, none, none, none, none, none, none, none, none, none] [] (W1 scr res []) out) (fun res => Sum.elim (fun res => Eval own_P 0 415 [none, none, none, none, none, none, none, none, none, none, none, none, none, none, none, none, none, none, none, none] [] (W1 scr res []) out) (fun res => Sum.elim (fun res => Eval own_P 0 472 [none, none, none, none, none, none, none, none, none, none, none, none, none, none, none, none, none, none, none, none] [] (W1 scr res []) out) (fun res => Sum.elim (fun res => Eval own_P 0 487 [none, none, none, none, none, none, none, none, none, none, none, none, none, none, none, none, none, none, none, none] [] (W1 scr res []) out) (fun res => Sum.elim (fun res => Eval own_P 0 518 [none, none, none, none, none, none, none, none, none, none, none, none, none, none, none, none, none, none, none, none] [] (W1 scr res []) out) (fun res => Sum.elim (fun res => Eval own_P 0 575 [none, none, none, none, none, none, none, none, none, none, none, none, none, none, none, none, none, none, none, none] [] (W1 scr res []) out) (fun res => Sum.elim (fun res => Eval own_P 0 597 [none, none, none, none, none, none, none, none, none, none, none, none, none, none, none, none, none, none, none, none] [] (W1 scr res []) out) (fun res => Sum.elim (fun res => Eval own_P 0 666 [none, none, none, none, none, none, none, none, none, none, none, none, none, none, none, none, none, none, none, none] [] (W1 scr res []) out) (fun res => Sum.elim (fun res => Eval own_P 0 696 [none, none, none, none, none, none, none, none, none, none, none, none, none, none, none, none, none, none, none, none] [] (W1 scr res []) out) (fun res => Sum.elim (fun res => Eval own_P 0 731 [none, none, none, none, none, none, none, none, none, none, none, none, none, none, none, none, none, none, none, none] [] (W1 scr res []) out) (fun res => Sum.elim (fun res => Eval own_P 0 744 [none, none, none, none, none, none, none, none, none, none, none, none, none, none, none, none, none, none, none, none] [] (W1 scr res []) out) (fun res => Sum.elim (fun res => Eval own_P 0 773 [none, none, none, none, none, none, none, none, none, none, none, none, none, none, none, none, none, none, none, none] [] (W1 scr res []) out) (fun res => Sum.elim (fun res => Eval own_P 0 793 [none, none, none, none, none, none, none, none, none, none, none, none, none, none, none, none, none, none, none, none] [] (W1 scr res []) out) (fun res => Sum.elim (fun res => Eval own_P 0 819 [none, none, none, none, none, none, none, none, none, none, none, none, none, none, none, none, none, none, none, none] [] (W1 scr res []) out) (fun res => Sum.elim (fun res => Eval own_P 0 845 [none, none, none, none, none, none, none, none, none, none, none, none, none, none, none, none, none, none, none, none] [] (W1 scr res []) out) (fun res => Sum.elim (fun res => Eval own_P 0 873 [none, none, none, none, none, none, none, none, none, none, none, none, none, none, none, none, none, none, none, none] [] (W1 scr res []) out) (fun res => Sum.elim (fun res => Eval own_P 0 919 [none, none, none, none, none, none, none, none, none, none, none, none, none, none, none, none, none, none, none, none] [] (W1 scr res []) out) (fun res => Eval own_P 0 927 [none, none, none, none, none, none, none, none, none, none, none, none, none, none, none, none, none, none, none, none] [] (W1 scr res []) out) res) res) res) res) res) res) res) res) res) res) res) res) res) res) res) res) res) res) res) res

def j_isFaultKind (v1 : Int32) : Int32 := (if v1 < (1 : Int32) then ((0 : Int32)) else (if (6 : Int32) < v1 then ((0 : Int32)) else ((1 : Int32))))
set_option maxRecDepth 100000 in
theorem ev_j_isFaultKind (H : AHeap) (a : Nat) (v1 : Int32) {res : Int32} {out : Option Value × AHeap} (h : j_isFaultKind v1 = res) (hk : out = (some (.int res), H)) : Eval own_P 22 0 [some (.ref a), some (.int v1)] [] H out := by
  rw [j_isFaultKind] at h
  refine Eval.iload_n rfl rfl ?_
  refine Eval.iconst (x := (1 : Int32)) rfl rfl ?_
  by_cases hc16 : v1 < (1 : Int32)
  · rw [if_pos hc16] at h
    refine Eval.icmpT (t := 15) rfl rfl (tlt hc16).1 ?_
    refine Eval.iconst (x := (0 : Int32)) rfl rfl ?_
    subst h
    subst hk
    exact Eval.ret rfl rfl
  · rw [if_neg hc16] at h
    refine Eval.icmpF rfl (flt hc16).1 ?_
    refine Eval.iload_n rfl rfl ?_
    refine Eval.bipush (x := (6 : Int32)) rfl rfl ?_
    by_cases hc17 : (6 : Int32) < v1
    · rw [if_pos hc17] at h
      refine Eval.icmpT (t := 15) rfl rfl (tlt hc17).2.2.1 ?_
      refine Eval.iconst (x := (0 : Int32)) rfl rfl ?_
      subst h
      subst hk
      exact Eval.ret rfl rfl
    · rw [if_neg hc17] at h
      refine Eval.icmpF rfl (flt hc17).2.2.1 ?_
      refine Eval.iconst (x := (1 : Int32)) rfl rfl ?_
      refine Eval.goto (t := 16) rfl rfl ?_
      subst h
      subst hk
      exact Eval.ret rfl rfl
def j_isAddress (v1 : Int32) : Int32 := (if v1 < (0 : Int32) then ((0 : Int32)) else (if v1 < (256 : Int32) then ((1 : Int32)) else ((0 : Int32))))
set_option maxRecDepth 100000 in
theorem ev_j_isAddress (H : AHeap) (a : Nat) (v1 : Int32) {res : Int32} {out : Option Value × AHeap} (h : j_isAddress v1 = res) (hk : out = (some (.int res), H)) : Eval own_P 23 0 [some (.ref a), some (.int v1)] [] H out := by
  rw [j_isAddress] at h
  refine Eval.iload_n rfl rfl ?_
  by_cases hc19 : v1 < (0 : Int32)
  · rw [if_pos hc19] at h
    refine Eval.ifT (t := 15) rfl rfl (tlt hc19).1 ?_
    refine Eval.iconst (x := (0 : Int32)) rfl rfl ?_
    subst h
    subst hk
    exact Eval.ret rfl rfl
  · rw [if_neg hc19] at h
    refine Eval.ifF rfl (flt hc19).1 ?_
    refine Eval.iload_n rfl rfl ?_
    refine Eval.sipush (x := (256 : Int32)) rfl rfl ?_
    by_cases hc20 : v1 < (256 : Int32)
    · rw [if_pos hc20] at h
      refine Eval.icmpF rfl (tlt hc20).2.1 ?_
      refine Eval.iconst (x := (1 : Int32)) rfl rfl ?_
      refine Eval.goto (t := 16) rfl rfl ?_
      subst h
      subst hk
      exact Eval.ret rfl rfl
    · rw [if_neg hc20] at h
      refine Eval.icmpT (t := 15) rfl rfl (flt hc20).2.1 ?_
      refine Eval.iconst (x := (0 : Int32)) rfl rfl ?_
      subst h
      subst hk
      exact Eval.ret rfl rfl
def j_isTrigger (v1 : Int32) : Int32 := (if v1 < (0 : Int32) then ((0 : Int32)) else (if (3 : Int32) < v1 then ((0 : Int32)) else ((1 : Int32))))
set_option maxRecDepth 100000 in
theorem ev_j_isTrigger (H : AHeap) (a : Nat) (v1 : Int32) {res : Int32} {out : Option Value × AHeap} (h : j_isTrigger v1 = res) (hk : out = (some (.int res), H)) : Eval own_P 53 0 [some (.ref a), some (.int v1)] [] H out := by
  rw [j_isTrigger] at h
  refine Eval.iload_n rfl rfl ?_
  by_cases hc25 : v1 < (0 : Int32)
  · rw [if_pos hc25] at h
    refine Eval.ifT (t := 13) rfl rfl (tlt hc25).1 ?_
    refine Eval.iconst (x := (0 : Int32)) rfl rfl ?_
    subst h
    subst hk
    exact Eval.ret rfl rfl
  · rw [if_neg hc25] at h
    refine Eval.ifF rfl (flt hc25).1 ?_
    refine Eval.iload_n rfl rfl ?_
    refine Eval.iconst (x := (3 : Int32)) rfl rfl ?_
    by_cases hc26 : (3 : Int32) < v1
    · rw [if_pos hc26] at h
      refine Eval.icmpT (t := 13) rfl rfl (tlt hc26).2.2.1 ?_
      refine Eval.iconst (x := (0 : Int32)) rfl rfl ?_
      subst h
      subst hk
      exact Eval.ret rfl rfl
    · rw [if_neg hc26] at h
      refine Eval.icmpF rfl (flt hc26).2.2.1 ?_
      refine Eval.iconst (x := (1 : Int32)) rfl rfl ?_
      refine Eval.goto (t := 14) rfl rfl ?_
      subst h
      subst hk
      exact Eval.ret rfl rfl
def j_validateFaultArguments (s : Q) (v1 v2 : Int32) (v3 v4 : Int32) : Int32 := (if (j_isFaultKind v1) = (0 : Int32) then ((-3 : Int32)) else (if (j_isAddress v2) = (0 : Int32) then ((-1 : Int32)) else (if v1 = (6 : Int32) then (if (j_isAddress v3) = (0 : Int32) then ((-1 : Int32)) else (if v3 = v2 then ((-4 : Int32)) else (if (j_isTrigger v4) = (0 : Int32) then ((-5 : Int32)) else ((0 : Int32))))) else ((0 : Int32)))))
set_option maxRecDepth 100000 in
theorem ev_j_validateFaultArguments (R : AHeap) (scr : List Int32) (s : Q) (v1 v2 : Int32) (v3 v4 : Int32) {res : Int32} {out : Option Value × AHeap} (h : j_validateFaultArguments s v1 v2 v3 v4 = res) (hk : out = (some (.int res), (W1 scr s R))) : Eval own_P 21 0 [some (.ref 1), some (.int v1), some (.int v2), some (.int v3), some (.int v4)] [] (W1 scr s R) out := by
  rw [j_validateFaultArguments] at h
  refine Eval.aload_n rfl rfl ?_
  refine Eval.iload_n rfl rfl ?_
  refine Eval.callI (rest := []) (x := (j_isFaultKind v1)) (H1 := (W1 scr s R)) rfl rfl (ev_j_isFaultKind (W1 scr s R) 1 v1 rfl rfl) ?_
  by_cases hc18 : (j_isFaultKind v1) = (0 : Int32)
  · rw [if_pos hc18] at h
    refine Eval.ifF rfl (teq hc18).2 ?_
    refine Eval.bipush (x := (-3 : Int32)) rfl rfl ?_
    subst h
    subst hk
    exact Eval.ret rfl rfl
  · rw [if_neg hc18] at h
    refine Eval.ifT (t := 11) rfl rfl (feq hc18).2 ?_
    refine Eval.aload_n rfl rfl ?_
    refine Eval.iload_n rfl rfl ?_
    refine Eval.callI (rest := []) (x := (j_isAddress v2)) (H1 := (W1 scr s R)) rfl rfl (ev_j_isAddress (W1 scr s R) 1 v2 rfl rfl) ?_
    by_cases hc21 : (j_isAddress v2) = (0 : Int32)
    · rw [if_pos hc21] at h
      refine Eval.ifF rfl (teq hc21).2 ?_
      refine Eval.iconst (x := (-1 : Int32)) rfl rfl ?_
      subst h
      subst hk
      exact Eval.ret rfl rfl
    · rw [if_neg hc21] at h
      refine Eval.ifT (t := 21) rfl rfl (feq hc21).2 ?_
      refine Eval.iload_n rfl rfl ?_
      refine Eval.bipush (x := (6 : Int32)) rfl rfl ?_
      by_cases hc22 : v1 = (6 : Int32)
      · rw [if_pos hc22] at h
        refine Eval.icmpT (t := 29) rfl rfl (teq hc22).1 ?_
        refine Eval.aload_n rfl rfl ?_
        refine Eval.iload_n rfl rfl ?_
        refine Eval.callI (rest := []) (x := (j_isAddress v3)) (H1 := (W1 scr s R)) rfl rfl (ev_j_isAddress (W1 scr s R) 1 v3 rfl rfl) ?_
        by_cases hc23 : (j_isAddress v3) = (0 : Int32)
        · rw [if_pos hc23] at h
          refine Eval.ifF rfl (teq hc23).2 ?_
          refine Eval.iconst (x := (-1 : Int32)) rfl rfl ?_
          subst h
          subst hk
          exact Eval.ret rfl rfl
        · rw [if_neg hc23] at h
          refine Eval.ifT (t := 39) rfl rfl (feq hc23).2 ?_
          refine Eval.iload_n rfl rfl ?_
          refine Eval.iload_n rfl rfl ?_
          by_cases hc24 : v3 = v2
          · rw [if_pos hc24] at h
            refine Eval.icmpF rfl (teq hc24).2 ?_
            refine Eval.bipush (x := (-4 : Int32)) rfl rfl ?_
            subst h
            subst hk
            exact Eval.ret rfl rfl
          · rw [if_neg hc24] at h
            refine Eval.icmpT (t := 47) rfl rfl (feq hc24).2 ?_
            refine Eval.aload_n rfl rfl ?_
            refine Eval.iload rfl rfl ?_
            refine Eval.callI (rest := []) (x := (j_isTrigger v4)) (H1 := (W1 scr s R)) rfl rfl (ev_j_isTrigger (W1 scr s R) 1 v4 rfl rfl) ?_
            by_cases hc27 : (j_isTrigger v4) = (0 : Int32)
            · rw [if_pos hc27] at h
              refine Eval.ifF rfl (teq hc27).2 ?_
              refine Eval.bipush (x := (-5 : Int32)) rfl rfl ?_
              subst h
              subst hk
              exact Eval.ret rfl rfl
            · rw [if_neg hc27] at h
              refine Eval.ifT (t := 59) rfl rfl (feq hc27).2 ?_
              refine Eval.iconst (x := (0 : Int32)) rfl rfl ?_
              subst h
              subst hk
              exact Eval.ret rfl rfl
      · rw [if_neg hc22] at h
        refine Eval.icmpF rfl (feq hc22).1 ?_
        refine Eval.iconst (x := (0 : Int32)) rfl rfl ?_
        subst h
        subst hk
        exact Eval.ret rfl rfl
def j_isVictim (s : Q) (v1 : Int32) : Option (Int32) := (if (j_isAddress v1) = (0 : Int32) then some ((0 : Int32)) else (if inb s.f_victimSlot.length v1 = true then (if (rd s.f_victimSlot v1) = (0 : Int32) then some ((0 : Int32)) else some ((1 : Int32))) else none))
set_option maxRecDepth 100000 in
theorem ev_j_isVictim (R : AHeap) (scr : List Int32) (s : Q) (v1 : Int32) {res : Int32} {out : Option Value × AHeap} (h : j_isVictim s v1 = some res) (hk : out = (some (.int res), (W1 scr s R))) : Eval own_P 25 0 [some (.ref 1), some (.int v1)] [] (W1 scr s R) out := by
  rw [j_isVictim] at h
  refine Eval.aload_n rfl rfl ?_
  refine Eval.iload_n rfl rfl ?_
  refine Eval.callI (rest := []) (x := (j_isAddress v1)) (H1 := (W1 scr s R)) rfl rfl (ev_j_isAddress (W1 scr s R) 1 v1 rfl rfl) ?_
  by_cases hc30 : (j_isAddress v1) = (0 : Int32)
  · rw [if_pos hc30] at h
    refine Eval.ifT (t := 21) rfl rfl (teq hc30).1 ?_
    refine Eval.iconst (x := (0 : Int32)) rfl rfl ?_
    cases h
    subst hk
    exact Eval.ret rfl rfl
  · rw [if_neg hc30] at h
    refine Eval.ifF rfl (feq hc30).1 ?_
    refine Eval.aload_n rfl rfl ?_
    refine Eval.getfield rfl rfl own_g1_victimSlot ?_
    refine Eval.iload_n rfl rfl ?_
    obtain ⟨hb31, h⟩ := ite_some h
    refine Eval.iaload rfl own_a1_victimSlot hb31 ?_
    by_cases hc32 : (rd s.f_victimSlot v1) = (0 : Int32)
    · rw [if_pos hc32] at h
      refine Eval.ifT (t := 21) rfl rfl (teq hc32).1 ?_
      refine Eval.iconst (x := (0 : Int32)) rfl rfl ?_
      cases h
      subst hk
      exact Eval.ret rfl rfl
    · rw [if_neg hc32] at h
      refine Eval.ifF rfl (feq hc32).1 ?_
      refine Eval.iconst (x := (1 : Int32)) rfl rfl ?_
      refine Eval.goto (t := 22) rfl rfl ?_
      cases h
      subst hk
      exact Eval.ret rfl rfl
def j_isAggressor (s : Q) (v1 : Int32) : Option (Int32) := (if (j_isAddress v1) = (0 : Int32) then some ((0 : Int32)) else (if inb s.f_aggressorUses.length v1 = true then (if (0 : Int32) < (rd s.f_aggressorUses v1) then some ((1 : Int32)) else some ((0 : Int32))) else none))
set_option maxRecDepth 100000 in
theorem ev_j_isAggressor (R : AHeap) (scr : List Int32) (s : Q) (v1 : Int32) {res : Int32} {out : Option Value × AHeap} (h : j_isAggressor s v1 = some res) (hk : out = (some (.int res), (W1 scr s R))) : Eval own_P 26 0 [some (.ref 1), some (.int v1)] [] (W1 scr s R) out := by
  rw [j_isAggressor] at h
  refine Eval.aload_n rfl rfl ?_
  refine Eval.iload_n rfl rfl ?_
  refine Eval.callI (rest := []) (x := (j_isAddress v1)) (H1 := (W1 scr s R)) rfl rfl (ev_j_isAddress (W1 scr s R) 1 v1 rfl rfl) ?_
  by_cases hc36 : (j_isAddress v1) = (0 : Int32)
  · rw [if_pos hc36] at h
    refine Eval.ifT (t := 21) rfl rfl (teq hc36).1 ?_
    refine Eval.iconst (x := (0 : Int32)) rfl rfl ?_
    cases h
    subst hk
    exact Eval.ret rfl rfl
  · rw [if_neg hc36] at h
    refine Eval.ifF rfl (feq hc36).1 ?_
    refine Eval.aload_n rfl rfl ?_
    refine Eval.getfield rfl rfl own_g1_aggressorUses ?_
    refine Eval.iload_n rfl rfl ?_
    obtain ⟨hb37, h⟩ := ite_some h
    refine Eval.iaload rfl own_a1_aggressorUses hb37 ?_
    by_cases hc38 : (0 : Int32) < (rd s.f_aggressorUses v1)
    · rw [if_pos hc38] at h
      refine Eval.ifF rfl (tlt hc38).2.2.2 ?_
      refine Eval.iconst (x := (1 : Int32)) rfl rfl ?_
      refine Eval.goto (t := 22) rfl rfl ?_
      cases h
      subst hk
      exact Eval.ret rfl rfl
    · rw [if_neg hc38] at h
      refine Eval.ifT (t := 21) rfl rfl (flt hc38).2.2.2 ?_
      refine Eval.iconst (x := (0 : Int32)) rfl rfl ?_
      cases h
      subst hk
      exact Eval.ret rfl rfl
def j_validateFaultRoom (s : Q) (v1 v2 v3 : Int32) : Option (Int32) := (if s.f_faultCount < s.f_faultLimit then ((j_isVictim s v2).bind fun p33 => (if p33 = (0 : Int32) then ((j_isAggressor s v2).bind fun p39 => (if p39 = (0 : Int32) then (if v1 = (6 : Int32) then ((j_isVictim s v3).bind fun p43 => (if p43 = (0 : Int32) then some ((0 : Int32)) else some ((-7 : Int32)))) else some ((0 : Int32))) else some ((-7 : Int32)))) else some ((-7 : Int32)))) else some ((-6 : Int32)))
set_option maxRecDepth 100000 in
theorem ev_j_validateFaultRoom (R : AHeap) (scr : List Int32) (s : Q) (v1 v2 v3 : Int32) {res : Int32} {out : Option Value × AHeap} (h : j_validateFaultRoom s v1 v2 v3 = some res) (hk : out = (some (.int res), (W1 scr s R))) : Eval own_P 24 0 [some (.ref 1), some (.int v1), some (.int v2), some (.int v3)] [] (W1 scr s R) out := by
  rw [j_validateFaultRoom] at h
  refine Eval.aload_n rfl rfl ?_
  refine Eval.getfield rfl rfl own_g1_faultCount ?_
  refine Eval.aload_n rfl rfl ?_
  refine Eval.getfield rfl rfl own_g1_faultLimit ?_
  by_cases hc29 : s.f_faultCount < s.f_faultLimit
  · rw [if_pos hc29] at h
    refine Eval.icmpT (t := 14) rfl rfl (tlt hc29).1 ?_
    refine Eval.aload_n rfl rfl ?_
    refine Eval.iload_n rfl rfl ?_
    obtain ⟨p33, hq34, h⟩ := bind_some h
    refine Eval.callI (rest := []) (x := p33) (H1 := (W1 scr s R)) rfl rfl (ev_j_isVictim R scr s v2 hq34 rfl) ?_
    by_cases hc35 : p33 = (0 : Int32)
    · rw [if_pos hc35] at h
      refine Eval.ifT (t := 25) rfl rfl (teq hc35).1 ?_
      refine Eval.aload_n rfl rfl ?_
      refine Eval.iload_n rfl rfl ?_
      obtain ⟨p39, hq40, h⟩ := bind_some h
      refine Eval.callI (rest := []) (x := p39) (H1 := (W1 scr s R)) rfl rfl (ev_j_isAggressor R scr s v2 hq40 rfl) ?_
      by_cases hc41 : p39 = (0 : Int32)
      · rw [if_pos hc41] at h
        refine Eval.ifT (t := 36) rfl rfl (teq hc41).1 ?_
        refine Eval.iload_n rfl rfl ?_
        refine Eval.bipush (x := (6 : Int32)) rfl rfl ?_
        by_cases hc42 : v1 = (6 : Int32)
        · rw [if_pos hc42] at h
          refine Eval.icmpF rfl (teq hc42).2 ?_
          refine Eval.aload_n rfl rfl ?_
          refine Eval.iload_n rfl rfl ?_
          obtain ⟨p43, hq44, h⟩ := bind_some h
          refine Eval.callI (rest := []) (x := p43) (H1 := (W1 scr s R)) rfl rfl (ev_j_isVictim R scr s v3 hq44 rfl) ?_
          by_cases hc45 : p43 = (0 : Int32)
          · rw [if_pos hc45] at h
            refine Eval.ifT (t := 53) rfl rfl (teq hc45).1 ?_
            refine Eval.iconst (x := (0 : Int32)) rfl rfl ?_
            cases h
            subst hk
            exact Eval.ret rfl rfl
          · rw [if_neg hc45] at h
            refine Eval.ifF rfl (feq hc45).1 ?_
            refine Eval.bipush (x := (-7 : Int32)) rfl rfl ?_
            cases h
            subst hk
            exact Eval.ret rfl rfl
        · rw [if_neg hc42] at h
          refine Eval.icmpT (t := 53) rfl rfl (feq hc42).2 ?_
          refine Eval.iconst (x := (0 : Int32)) rfl rfl ?_
          cases h
          subst hk
          exact Eval.ret rfl rfl
      · rw [if_neg hc41] at h
        refine Eval.ifF rfl (feq hc41).1 ?_
        refine Eval.bipush (x := (-7 : Int32)) rfl rfl ?_
        cases h
        subst hk
        exact Eval.ret rfl rfl
    · rw [if_neg hc35] at h
      refine Eval.ifF rfl (feq hc35).1 ?_
      refine Eval.bipush (x := (-7 : Int32)) rfl rfl ?_
      cases h
      subst hk
      exact Eval.ret rfl rfl
  · rw [if_neg hc29] at h
    refine Eval.icmpF rfl (flt hc29).1 ?_
    refine Eval.bipush (x := (-6 : Int32)) rfl rfl ?_
    cases h
    subst hk
    exact Eval.ret rfl rfl
def j_appendFault_b121 (s : Q) (v5 : Int32) : Option (Int32 × Q) := some (v5, (Q.mk s.f_cells s.f_faultKind s.f_faultVictim s.f_faultAggressor s.f_faultTrigger s.f_victimSlot s.f_aggressorUses s.f_elementOrder s.f_elementCount s.f_elementOps s.f_logBuffer s.f_remap s.f_spareTaken s.f_spareRows s.f_faultLimit s.f_logLimit s.f_latchBit (v5 + (1 : Int32)) s.f_programLength s.f_logLength s.f_failMask))
set_option maxRecDepth 100000 in
theorem ev_j_appendFault_b121 (R : AHeap) (scr : List Int32) (s : Q) (v5 : Int32) {res : Int32 × Q} {out : Option Value × AHeap} (h : j_appendFault_b121 s v5 = some res) (hk : out = (some (.int res.1), (W1 scr res.2 R))) : Eval own_P 27 121 [some (.ref 1), none, none, none, none, some (.int v5)] [] (W1 scr s R) out := by
  rw [j_appendFault_b121] at h
  refine Eval.aload_n rfl rfl ?_
  refine Eval.iload rfl rfl ?_
  refine Eval.iconst (x := (1 : Int32)) rfl rfl ?_
  refine Eval.iadd rfl ?_
  refine Eval.putfield rfl rfl own_p1_faultCount ?_
  refine Eval.iload rfl rfl ?_
  cases h
  subst hk
  exact Eval.retH own_mk1 rfl rfl
def j_appendFault_b105 (s : Q) (v5 : Int32) : Option (Int32 × Q) := (if inb s.f_faultAggressor.length v5 = true then (if inb s.f_faultTrigger.length v5 = true then (j_appendFault_b121 (Q.mk s.f_cells s.f_faultKind s.f_faultVictim (wr s.f_faultAggressor v5 (0 : Int32)) (wr s.f_faultTrigger v5 (0 : Int32)) s.f_victimSlot s.f_aggressorUses s.f_elementOrder s.f_elementCount s.f_elementOps s.f_logBuffer s.f_remap s.f_spareTaken s.f_spareRows s.f_faultLimit s.f_logLimit s.f_latchBit s.f_faultCount s.f_programLength s.f_logLength s.f_failMask) v5) else none) else none)
set_option maxRecDepth 100000 in
theorem ev_j_appendFault_b105 (R : AHeap) (scr : List Int32) (s : Q) (v5 : Int32) {res : Int32 × Q} {out : Option Value × AHeap} (h : j_appendFault_b105 s v5 = some res) (hk : out = (some (.int res.1), (W1 scr res.2 R))) : Eval own_P 27 105 [some (.ref 1), none, none, none, none, some (.int v5)] [] (W1 scr s R) out := by
  rw [j_appendFault_b105] at h
  refine Eval.aload_n rfl rfl ?_
  refine Eval.getfield rfl rfl own_g1_faultAggressor ?_
  refine Eval.iload rfl rfl ?_
  refine Eval.iconst (x := (0 : Int32)) rfl rfl ?_
  obtain ⟨hb60, h⟩ := ite_some h
  refine Eval.iastore rfl rfl own_a1_faultAggressor hb60 own_s1_faultAggressor ?_
  refine Eval.aload_n rfl rfl ?_
  refine Eval.getfield rfl rfl own_g1_faultTrigger ?_
  refine Eval.iload rfl rfl ?_
  refine Eval.iconst (x := (0 : Int32)) rfl rfl ?_
  obtain ⟨hb61, h⟩ := ite_some h
  refine Eval.iastore rfl rfl own_a1_faultTrigger hb61 own_s1_faultTrigger ?_
  refine Eval.heap own_mk1 ?_
  exact ev_j_appendFault_b121 R scr (Q.mk s.f_cells s.f_faultKind s.f_faultVictim (wr s.f_faultAggressor v5 (0 : Int32)) (wr s.f_faultTrigger v5 (0 : Int32)) s.f_victimSlot s.f_aggressorUses s.f_elementOrder s.f_elementCount s.f_elementOps s.f_logBuffer s.f_remap s.f_spareTaken s.f_spareRows s.f_faultLimit s.f_logLimit s.f_latchBit s.f_faultCount s.f_programLength s.f_logLength s.f_failMask) v5 h hk
def j_appendFault (s : Q) (v1 v2 : Int32) (v3 v4 : Int32) : Option (Int32 × Q) := (if s.f_faultCount < (0 : Int32) then some ((-6 : Int32), s) else (if s.f_faultCount < (16 : Int32) then (if (j_isAddress v2) = (0 : Int32) then some ((-6 : Int32), s) else (if inb s.f_faultKind.length s.f_faultCount = true then (if inb s.f_faultVictim.length s.f_faultCount = true then (if inb s.f_victimSlot.length v2 = true then (if v1 = (6 : Int32) then (if (j_isAddress v3) = (0 : Int32) then (j_appendFault_b105 (Q.mk s.f_cells (wr s.f_faultKind s.f_faultCount v1) (wr s.f_faultVictim s.f_faultCount v2) s.f_faultAggressor s.f_faultTrigger (wr s.f_victimSlot v2 (s.f_faultCount + (1 : Int32))) s.f_aggressorUses s.f_elementOrder s.f_elementCount s.f_elementOps s.f_logBuffer s.f_remap s.f_spareTaken s.f_spareRows s.f_faultLimit s.f_logLimit s.f_latchBit s.f_faultCount s.f_programLength s.f_logLength s.f_failMask) s.f_faultCount) else (if inb s.f_faultAggressor.length s.f_faultCount = true then (if inb s.f_faultTrigger.length s.f_faultCount = true then (if inb s.f_aggressorUses.length v3 = true then (if inb s.f_aggressorUses.length v3 = true then (j_appendFault_b121 (Q.mk s.f_cells (wr s.f_faultKind s.f_faultCount v1) (wr s.f_faultVictim s.f_faultCount v2) (wr s.f_faultAggressor s.f_faultCount v3) (wr s.f_faultTrigger s.f_faultCount (v4 &&& (3 : Int32))) (wr s.f_victimSlot v2 (s.f_faultCount + (1 : Int32))) (wr s.f_aggressorUses v3 ((rd s.f_aggressorUses v3) + (1 : Int32))) s.f_elementOrder s.f_elementCount s.f_elementOps s.f_logBuffer s.f_remap s.f_spareTaken s.f_spareRows s.f_faultLimit s.f_logLimit s.f_latchBit s.f_faultCount s.f_programLength s.f_logLength s.f_failMask) s.f_faultCount) else none) else none) else none) else none)) else (j_appendFault_b105 (Q.mk s.f_cells (wr s.f_faultKind s.f_faultCount v1) (wr s.f_faultVictim s.f_faultCount v2) s.f_faultAggressor s.f_faultTrigger (wr s.f_victimSlot v2 (s.f_faultCount + (1 : Int32))) s.f_aggressorUses s.f_elementOrder s.f_elementCount s.f_elementOps s.f_logBuffer s.f_remap s.f_spareTaken s.f_spareRows s.f_faultLimit s.f_logLimit s.f_latchBit s.f_faultCount s.f_programLength s.f_logLength s.f_failMask) s.f_faultCount)) else none) else none) else none)) else some ((-6 : Int32), s)))
set_option maxRecDepth 100000 in
theorem ev_j_appendFault (R : AHeap) (scr : List Int32) (s : Q) (v1 v2 : Int32) (v3 v4 : Int32) {res : Int32 × Q} {out : Option Value × AHeap} (h : j_appendFault s v1 v2 v3 v4 = some res) (hk : out = (some (.int res.1), (W1 scr res.2 R))) : Eval own_P 27 0 [some (.ref 1), some (.int v1), some (.int v2), some (.int v3), some (.int v4), none] [] (W1 scr s R) out := by
  rw [j_appendFault] at h
  refine Eval.aload_n rfl rfl ?_
  refine Eval.getfield rfl rfl own_g1_faultCount ?_
  refine Eval.istore (L' := [some (.ref 1), some (.int v1), some (.int v2), some (.int v3), some (.int v4), some (.int s.f_faultCount)]) rfl rfl ?_
  refine Eval.iload rfl rfl ?_
  by_cases hc49 : s.f_faultCount < (0 : Int32)
  · rw [if_pos hc49] at h
    refine Eval.ifT (t := 26) rfl rfl (tlt hc49).1 ?_
    refine Eval.bipush (x := (-6 : Int32)) rfl rfl ?_
    cases h
    subst hk
    exact Eval.ret rfl rfl
  · rw [if_neg hc49] at h
    refine Eval.ifF rfl (flt hc49).1 ?_
    refine Eval.iload rfl rfl ?_
    refine Eval.bipush (x := (16 : Int32)) rfl rfl ?_
    by_cases hc50 : s.f_faultCount < (16 : Int32)
    · rw [if_pos hc50] at h
      refine Eval.icmpF rfl (tlt hc50).2.1 ?_
      refine Eval.aload_n rfl rfl ?_
      refine Eval.iload_n rfl rfl ?_
      refine Eval.callI (rest := []) (x := (j_isAddress v2)) (H1 := (W1 scr s R)) rfl rfl (ev_j_isAddress (W1 scr s R) 1 v2 rfl rfl) ?_
      by_cases hc51 : (j_isAddress v2) = (0 : Int32)
      · rw [if_pos hc51] at h
        refine Eval.ifF rfl (teq hc51).2 ?_
        refine Eval.bipush (x := (-6 : Int32)) rfl rfl ?_
        cases h
        subst hk
        exact Eval.ret rfl rfl
      · rw [if_neg hc51] at h
        refine Eval.ifT (t := 29) rfl rfl (feq hc51).2 ?_
        refine Eval.aload_n rfl rfl ?_
        refine Eval.getfield rfl rfl own_g1_faultKind ?_
        refine Eval.iload rfl rfl ?_
        refine Eval.iload_n rfl rfl ?_
        obtain ⟨hb52, h⟩ := ite_some h
        refine Eval.iastore rfl rfl own_a1_faultKind hb52 own_s1_faultKind ?_
        refine Eval.aload_n rfl rfl ?_
        refine Eval.getfield rfl rfl own_g1_faultVictim ?_
        refine Eval.iload rfl rfl ?_
        refine Eval.iload_n rfl rfl ?_
        obtain ⟨hb53, h⟩ := ite_some h
        refine Eval.iastore rfl rfl own_a1_faultVictim hb53 own_s1_faultVictim ?_
        refine Eval.aload_n rfl rfl ?_
        refine Eval.getfield rfl rfl own_g1_victimSlot ?_
        refine Eval.iload_n rfl rfl ?_
        refine Eval.iload rfl rfl ?_
        refine Eval.iconst (x := (1 : Int32)) rfl rfl ?_
        refine Eval.iadd rfl ?_
        obtain ⟨hb54, h⟩ := ite_some h
        refine Eval.iastore rfl rfl own_a1_victimSlot hb54 own_s1_victimSlot ?_
        refine Eval.iload_n rfl rfl ?_
        refine Eval.bipush (x := (6 : Int32)) rfl rfl ?_
        by_cases hc57 : v1 = (6 : Int32)
        · rw [if_pos hc57] at h
          refine Eval.icmpF rfl (teq hc57).2 ?_
          refine Eval.aload_n rfl rfl ?_
          refine Eval.iload_n rfl rfl ?_
          refine Eval.callI (rest := []) (x := (j_isAddress v3)) (H1 := (C1 scr s.f_cells (wr s.f_faultKind s.f_faultCount v1) (wr s.f_faultVictim s.f_faultCount v2) s.f_faultAggressor s.f_faultTrigger (wr s.f_victimSlot v2 (s.f_faultCount + (1 : Int32))) s.f_aggressorUses s.f_elementOrder s.f_elementCount s.f_elementOps s.f_logBuffer s.f_remap s.f_spareTaken s.f_spareRows s.f_faultLimit s.f_logLimit s.f_latchBit s.f_faultCount s.f_programLength s.f_logLength s.f_failMask R)) rfl rfl (ev_j_isAddress (C1 scr s.f_cells (wr s.f_faultKind s.f_faultCount v1) (wr s.f_faultVictim s.f_faultCount v2) s.f_faultAggressor s.f_faultTrigger (wr s.f_victimSlot v2 (s.f_faultCount + (1 : Int32))) s.f_aggressorUses s.f_elementOrder s.f_elementCount s.f_elementOps s.f_logBuffer s.f_remap s.f_spareTaken s.f_spareRows s.f_faultLimit s.f_logLimit s.f_latchBit s.f_faultCount s.f_programLength s.f_logLength s.f_failMask R) 1 v3 rfl rfl) ?_
          by_cases hc59 : (j_isAddress v3) = (0 : Int32)
          · rw [if_pos hc59] at h
            refine Eval.ifT (t := 105) rfl rfl (teq hc59).1 ?_
            refine Eval.heap own_mk1 ?_
            refine Eval.weak (lw_mk 33 _) ?_
            exact ev_j_appendFault_b105 R scr (Q.mk s.f_cells (wr s.f_faultKind s.f_faultCount v1) (wr s.f_faultVictim s.f_faultCount v2) s.f_faultAggressor s.f_faultTrigger (wr s.f_victimSlot v2 (s.f_faultCount + (1 : Int32))) s.f_aggressorUses s.f_elementOrder s.f_elementCount s.f_elementOps s.f_logBuffer s.f_remap s.f_spareTaken s.f_spareRows s.f_faultLimit s.f_logLimit s.f_latchBit s.f_faultCount s.f_programLength s.f_logLength s.f_failMask) s.f_faultCount h hk
          · rw [if_neg hc59] at h
            refine Eval.ifF rfl (feq hc59).1 ?_
            refine Eval.aload_n rfl rfl ?_
            refine Eval.getfield rfl rfl own_g1_faultAggressor ?_
            refine Eval.iload rfl rfl ?_
            refine Eval.iload_n rfl rfl ?_
            obtain ⟨hb62, h⟩ := ite_some h
            refine Eval.iastore rfl rfl own_a1_faultAggressor hb62 own_s1_faultAggressor ?_
            refine Eval.aload_n rfl rfl ?_
            refine Eval.getfield rfl rfl own_g1_faultTrigger ?_
            refine Eval.iload rfl rfl ?_
            refine Eval.iload rfl rfl ?_
            refine Eval.iconst (x := (3 : Int32)) rfl rfl ?_
            refine Eval.iand rfl ?_
            obtain ⟨hb63, h⟩ := ite_some h
            refine Eval.iastore rfl rfl own_a1_faultTrigger hb63 own_s1_faultTrigger ?_
            refine Eval.aload_n rfl rfl ?_
            refine Eval.getfield rfl rfl own_g1_aggressorUses ?_
            refine Eval.iload_n rfl rfl ?_
            refine Eval.aload_n rfl rfl ?_
            refine Eval.getfield rfl rfl own_g1_aggressorUses ?_
            refine Eval.iload_n rfl rfl ?_
            obtain ⟨hb64, h⟩ := ite_some h
            refine Eval.iaload rfl own_a1_aggressorUses hb64 ?_
            refine Eval.iconst (x := (1 : Int32)) rfl rfl ?_
            refine Eval.iadd rfl ?_
            obtain ⟨hb65, h⟩ := ite_some h
            refine Eval.iastore rfl rfl own_a1_aggressorUses hb65 own_s1_aggressorUses ?_
            refine Eval.goto (t := 121) rfl rfl ?_
            refine Eval.heap own_mk1 ?_
            refine Eval.weak (lw_mk 33 _) ?_
            exact ev_j_appendFault_b121 R scr (Q.mk s.f_cells (wr s.f_faultKind s.f_faultCount v1) (wr s.f_faultVictim s.f_faultCount v2) (wr s.f_faultAggressor s.f_faultCount v3) (wr s.f_faultTrigger s.f_faultCount (v4 &&& (3 : Int32))) (wr s.f_victimSlot v2 (s.f_faultCount + (1 : Int32))) (wr s.f_aggressorUses v3 ((rd s.f_aggressorUses v3) + (1 : Int32))) s.f_elementOrder s.f_elementCount s.f_elementOps s.f_logBuffer s.f_remap s.f_spareTaken s.f_spareRows s.f_faultLimit s.f_logLimit s.f_latchBit s.f_faultCount s.f_programLength s.f_logLength s.f_failMask) s.f_faultCount h hk
        · rw [if_neg hc57] at h
          refine Eval.icmpT (t := 105) rfl rfl (feq hc57).2 ?_
          refine Eval.heap own_mk1 ?_
          refine Eval.weak (lw_mk 33 _) ?_
          exact ev_j_appendFault_b105 R scr (Q.mk s.f_cells (wr s.f_faultKind s.f_faultCount v1) (wr s.f_faultVictim s.f_faultCount v2) s.f_faultAggressor s.f_faultTrigger (wr s.f_victimSlot v2 (s.f_faultCount + (1 : Int32))) s.f_aggressorUses s.f_elementOrder s.f_elementCount s.f_elementOps s.f_logBuffer s.f_remap s.f_spareTaken s.f_spareRows s.f_faultLimit s.f_logLimit s.f_latchBit s.f_faultCount s.f_programLength s.f_logLength s.f_failMask) s.f_faultCount h hk
    · rw [if_neg hc50] at h
      refine Eval.icmpT (t := 26) rfl rfl (flt hc50).2.1 ?_
      refine Eval.bipush (x := (-6 : Int32)) rfl rfl ?_
      cases h
      subst hk
      exact Eval.ret rfl rfl
def j_inject (s : Q) (v1 v2 : Int32) (v3 v4 : Int32) : Option (Int32 × Q) := (if (j_validateFaultArguments s v1 v2 v3 v4) = (0 : Int32) then ((j_validateFaultRoom s v1 v2 v3).bind fun p46 => (if p46 = (0 : Int32) then ((j_appendFault s v1 v2 v3 v4).bind fun p66 => some (p66.1, p66.2)) else some (p46, s))) else some ((j_validateFaultArguments s v1 v2 v3 v4), s))
set_option maxRecDepth 100000 in
theorem ev_j_inject (R : AHeap) (scr : List Int32) (s : Q) (v1 v2 : Int32) (v3 v4 : Int32) {res : Int32 × Q} {out : Option Value × AHeap} (h : j_inject s v1 v2 v3 v4 = some res) (hk : out = (some (.int res.1), (W1 scr res.2 R))) : Eval own_P 20 0 [some (.ref 1), some (.int v1), some (.int v2), some (.int v3), some (.int v4), none] [] (W1 scr s R) out := by
  rw [j_inject] at h
  refine Eval.aload_n rfl rfl ?_
  refine Eval.iload_n rfl rfl ?_
  refine Eval.iload_n rfl rfl ?_
  refine Eval.iload_n rfl rfl ?_
  refine Eval.iload rfl rfl ?_
  refine Eval.callI (rest := []) (x := (j_validateFaultArguments s v1 v2 v3 v4)) (H1 := (W1 scr s R)) rfl rfl (ev_j_validateFaultArguments R scr s v1 v2 v3 v4 rfl rfl) ?_
  refine Eval.istore (L' := [some (.ref 1), some (.int v1), some (.int v2), some (.int v3), some (.int v4), some (.int (j_validateFaultArguments s v1 v2 v3 v4))]) rfl rfl ?_
  refine Eval.iload rfl rfl ?_
  by_cases hc28 : (j_validateFaultArguments s v1 v2 v3 v4) = (0 : Int32)
  · rw [if_pos hc28] at h
    refine Eval.ifT (t := 19) rfl rfl (teq hc28).1 ?_
    refine Eval.aload_n rfl rfl ?_
    refine Eval.iload_n rfl rfl ?_
    refine Eval.iload_n rfl rfl ?_
    refine Eval.iload_n rfl rfl ?_
    obtain ⟨p46, hq47, h⟩ := bind_some h
    refine Eval.callI (rest := []) (x := p46) (H1 := (W1 scr s R)) rfl rfl (ev_j_validateFaultRoom R scr s v1 v2 v3 hq47 rfl) ?_
    refine Eval.istore (L' := [some (.ref 1), some (.int v1), some (.int v2), some (.int v3), some (.int v4), some (.int p46)]) rfl rfl ?_
    refine Eval.iload rfl rfl ?_
    by_cases hc48 : p46 = (0 : Int32)
    · rw [if_pos hc48] at h
      refine Eval.ifT (t := 36) rfl rfl (teq hc48).1 ?_
      refine Eval.aload_n rfl rfl ?_
      refine Eval.iload_n rfl rfl ?_
      refine Eval.iload_n rfl rfl ?_
      refine Eval.iload_n rfl rfl ?_
      refine Eval.iload rfl rfl ?_
      obtain ⟨p66, hq67, h⟩ := bind_some h
      refine Eval.callI (rest := []) (x := p66.1) (H1 := (W1 scr p66.2 R)) rfl rfl (ev_j_appendFault R scr s v1 v2 v3 v4 hq67 rfl) ?_
      cases h
      subst hk
      exact Eval.ret rfl rfl
    · rw [if_neg hc48] at h
      refine Eval.ifF rfl (feq hc48).1 ?_
      refine Eval.iload rfl rfl ?_
      cases h
      subst hk
      exact Eval.ret rfl rfl
  · rw [if_neg hc28] at h
    refine Eval.ifF rfl (feq hc28).1 ?_
    refine Eval.iload rfl rfl ?_
    cases h
    subst hk
    exact Eval.ret rfl rfl
def j_latch (s : Q) : Int32 := (s.f_latchBit)
set_option maxRecDepth 100000 in
theorem ev_j_latch (R : AHeap) (scr : List Int32) (s : Q) {res : Int32} {out : Option Value × AHeap} (h : j_latch s = res) (hk : out = (some (.int res), (W1 scr s R))) : Eval own_P 9 0 [some (.ref 1)] [] (W1 scr s R) out := by
  rw [j_latch] at h
  refine Eval.aload_n rfl rfl ?_
  refine Eval.getfield rfl rfl own_g1_latchBit ?_
  subst h
  subst hk
  exact Eval.ret rfl rfl
def j_failRows (s : Q) : Int32 := (s.f_failMask)
set_option maxRecDepth 100000 in
theorem ev_j_failRows (R : AHeap) (scr : List Int32) (s : Q) {res : Int32} {out : Option Value × AHeap} (h : j_failRows s = res) (hk : out = (some (.int res), (W1 scr s R))) : Eval own_P 10 0 [some (.ref 1)] [] (W1 scr s R) out := by
  rw [j_failRows] at h
  refine Eval.aload_n rfl rfl ?_
  refine Eval.getfield rfl rfl own_g1_failMask ?_
  subst h
  subst hk
  exact Eval.ret rfl rfl
def j_isFaultNumber (s : Q) (v1 : Int32) : Int32 := (if v1 < (0 : Int32) then ((0 : Int32)) else (if v1 < s.f_faultCount then (if v1 < (16 : Int32) then ((1 : Int32)) else ((0 : Int32))) else ((0 : Int32))))
set_option maxRecDepth 100000 in
theorem ev_j_isFaultNumber (R : AHeap) (scr : List Int32) (s : Q) (v1 : Int32) {res : Int32} {out : Option Value × AHeap} (h : j_isFaultNumber s v1 = res) (hk : out = (some (.int res), (W1 scr s R))) : Eval own_P 12 0 [some (.ref 1), some (.int v1)] [] (W1 scr s R) out := by
  rw [j_isFaultNumber] at h
  refine Eval.iload_n rfl rfl ?_
  by_cases hc76 : v1 < (0 : Int32)
  · rw [if_pos hc76] at h
    refine Eval.ifT (t := 22) rfl rfl (tlt hc76).1 ?_
    refine Eval.iconst (x := (0 : Int32)) rfl rfl ?_
    subst h
    subst hk
    exact Eval.ret rfl rfl
  · rw [if_neg hc76] at h
    refine Eval.ifF rfl (flt hc76).1 ?_
    refine Eval.iload_n rfl rfl ?_
    refine Eval.aload_n rfl rfl ?_
    refine Eval.getfield rfl rfl own_g1_faultCount ?_
    by_cases hc77 : v1 < s.f_faultCount
    · rw [if_pos hc77] at h
      refine Eval.icmpF rfl (tlt hc77).2.1 ?_
      refine Eval.iload_n rfl rfl ?_
      refine Eval.bipush (x := (16 : Int32)) rfl rfl ?_
      by_cases hc78 : v1 < (16 : Int32)
      · rw [if_pos hc78] at h
        refine Eval.icmpF rfl (tlt hc78).2.1 ?_
        refine Eval.iconst (x := (1 : Int32)) rfl rfl ?_
        refine Eval.goto (t := 23) rfl rfl ?_
        subst h
        subst hk
        exact Eval.ret rfl rfl
      · rw [if_neg hc78] at h
        refine Eval.icmpT (t := 22) rfl rfl (flt hc78).2.1 ?_
        refine Eval.iconst (x := (0 : Int32)) rfl rfl ?_
        subst h
        subst hk
        exact Eval.ret rfl rfl
    · rw [if_neg hc77] at h
      refine Eval.icmpT (t := 22) rfl rfl (flt hc77).2.1 ?_
      refine Eval.iconst (x := (0 : Int32)) rfl rfl ?_
      subst h
      subst hk
      exact Eval.ret rfl rfl
def j_faultInfo (s : Q) (v1 : Int32) : Option (Int32) := (if (j_isFaultNumber s v1) = (0 : Int32) then some ((-1 : Int32)) else (if inb s.f_faultKind.length v1 = true then (if inb s.f_faultVictim.length v1 = true then (if inb s.f_faultAggressor.length v1 = true then (if inb s.f_faultTrigger.length v1 = true then some (((((rd s.f_faultKind v1) ||| (ish (rd s.f_faultVictim v1) (4 : Int32))) ||| (ish (rd s.f_faultAggressor v1) (12 : Int32))) ||| (ish (rd s.f_faultTrigger v1) (20 : Int32)))) else none) else none) else none) else none))
set_option maxRecDepth 100000 in
theorem ev_j_faultInfo (R : AHeap) (scr : List Int32) (s : Q) (v1 : Int32) {res : Int32} {out : Option Value × AHeap} (h : j_faultInfo s v1 = some res) (hk : out = (some (.int res), (W1 scr s R))) : Eval own_P 11 0 [some (.ref 1), some (.int v1), none] [] (W1 scr s R) out := by
  rw [j_faultInfo] at h
  refine Eval.aload_n rfl rfl ?_
  refine Eval.iload_n rfl rfl ?_
  refine Eval.callI (rest := []) (x := (j_isFaultNumber s v1)) (H1 := (W1 scr s R)) rfl rfl (ev_j_isFaultNumber R scr s v1 rfl rfl) ?_
  by_cases hc79 : (j_isFaultNumber s v1) = (0 : Int32)
  · rw [if_pos hc79] at h
    refine Eval.ifF rfl (teq hc79).2 ?_
    refine Eval.iconst (x := (-1 : Int32)) rfl rfl ?_
    cases h
    subst hk
    exact Eval.ret rfl rfl
  · rw [if_neg hc79] at h
    refine Eval.ifT (t := 10) rfl rfl (feq hc79).2 ?_
    refine Eval.aload_n rfl rfl ?_
    refine Eval.getfield rfl rfl own_g1_faultKind ?_
    refine Eval.iload_n rfl rfl ?_
    obtain ⟨hb80, h⟩ := ite_some h
    refine Eval.iaload rfl own_a1_faultKind hb80 ?_
    refine Eval.istore_n (L' := [some (.ref 1), some (.int v1), some (.int (rd s.f_faultKind v1))]) rfl rfl ?_
    refine Eval.iload_n rfl rfl ?_
    refine Eval.aload_n rfl rfl ?_
    refine Eval.getfield rfl rfl own_g1_faultVictim ?_
    refine Eval.iload_n rfl rfl ?_
    obtain ⟨hb81, h⟩ := ite_some h
    refine Eval.iaload rfl own_a1_faultVictim hb81 ?_
    refine Eval.iconst (x := (4 : Int32)) rfl rfl ?_
    refine Eval.ishl rfl ?_
    refine Eval.ior rfl ?_
    refine Eval.istore_n (L' := [some (.ref 1), some (.int v1), some (.int ((rd s.f_faultKind v1) ||| (ish (rd s.f_faultVictim v1) (4 : Int32))))]) rfl rfl ?_
    refine Eval.iload_n rfl rfl ?_
    refine Eval.aload_n rfl rfl ?_
    refine Eval.getfield rfl rfl own_g1_faultAggressor ?_
    refine Eval.iload_n rfl rfl ?_
    obtain ⟨hb82, h⟩ := ite_some h
    refine Eval.iaload rfl own_a1_faultAggressor hb82 ?_
    refine Eval.bipush (x := (12 : Int32)) rfl rfl ?_
    refine Eval.ishl rfl ?_
    refine Eval.ior rfl ?_
    refine Eval.istore_n (L' := [some (.ref 1), some (.int v1), some (.int (((rd s.f_faultKind v1) ||| (ish (rd s.f_faultVictim v1) (4 : Int32))) ||| (ish (rd s.f_faultAggressor v1) (12 : Int32))))]) rfl rfl ?_
    refine Eval.iload_n rfl rfl ?_
    refine Eval.aload_n rfl rfl ?_
    refine Eval.getfield rfl rfl own_g1_faultTrigger ?_
    refine Eval.iload_n rfl rfl ?_
    obtain ⟨hb83, h⟩ := ite_some h
    refine Eval.iaload rfl own_a1_faultTrigger hb83 ?_
    refine Eval.bipush (x := (20 : Int32)) rfl rfl ?_
    refine Eval.ishl rfl ?_
    refine Eval.ior rfl ?_
    refine Eval.istore_n (L' := [some (.ref 1), some (.int v1), some (.int ((((rd s.f_faultKind v1) ||| (ish (rd s.f_faultVictim v1) (4 : Int32))) ||| (ish (rd s.f_faultAggressor v1) (12 : Int32))) ||| (ish (rd s.f_faultTrigger v1) (20 : Int32))))]) rfl rfl ?_
    refine Eval.iload_n rfl rfl ?_
    cases h
    subst hk
    exact Eval.ret rfl rfl
def j_isElementIndex (s : Q) (v1 : Int32) : Int32 := (if v1 < (0 : Int32) then ((0 : Int32)) else (if v1 < s.f_programLength then (if v1 < (8 : Int32) then ((1 : Int32)) else ((0 : Int32))) else ((0 : Int32))))
set_option maxRecDepth 100000 in
theorem ev_j_isElementIndex (R : AHeap) (scr : List Int32) (s : Q) (v1 : Int32) {res : Int32} {out : Option Value × AHeap} (h : j_isElementIndex s v1 = res) (hk : out = (some (.int res), (W1 scr s R))) : Eval own_P 14 0 [some (.ref 1), some (.int v1)] [] (W1 scr s R) out := by
  rw [j_isElementIndex] at h
  refine Eval.iload_n rfl rfl ?_
  by_cases hc91 : v1 < (0 : Int32)
  · rw [if_pos hc91] at h
    refine Eval.ifT (t := 22) rfl rfl (tlt hc91).1 ?_
    refine Eval.iconst (x := (0 : Int32)) rfl rfl ?_
    subst h
    subst hk
    exact Eval.ret rfl rfl
  · rw [if_neg hc91] at h
    refine Eval.ifF rfl (flt hc91).1 ?_
    refine Eval.iload_n rfl rfl ?_
    refine Eval.aload_n rfl rfl ?_
    refine Eval.getfield rfl rfl own_g1_programLength ?_
    by_cases hc92 : v1 < s.f_programLength
    · rw [if_pos hc92] at h
      refine Eval.icmpF rfl (tlt hc92).2.1 ?_
      refine Eval.iload_n rfl rfl ?_
      refine Eval.bipush (x := (8 : Int32)) rfl rfl ?_
      by_cases hc93 : v1 < (8 : Int32)
      · rw [if_pos hc93] at h
        refine Eval.icmpF rfl (tlt hc93).2.1 ?_
        refine Eval.iconst (x := (1 : Int32)) rfl rfl ?_
        refine Eval.goto (t := 23) rfl rfl ?_
        subst h
        subst hk
        exact Eval.ret rfl rfl
      · rw [if_neg hc93] at h
        refine Eval.icmpT (t := 22) rfl rfl (flt hc93).2.1 ?_
        refine Eval.iconst (x := (0 : Int32)) rfl rfl ?_
        subst h
        subst hk
        exact Eval.ret rfl rfl
    · rw [if_neg hc92] at h
      refine Eval.icmpT (t := 22) rfl rfl (flt hc92).2.1 ?_
      refine Eval.iconst (x := (0 : Int32)) rfl rfl ?_
      subst h
      subst hk
      exact Eval.ret rfl rfl
def j_programElement (s : Q) (v1 : Int32) : Option (Int32) := (if (j_isElementIndex s v1) = (0 : Int32) then some ((-1 : Int32)) else (if inb s.f_elementOrder.length v1 = true then (if inb s.f_elementCount.length v1 = true then (if inb s.f_elementOps.length v1 = true then some ((((ish (rd s.f_elementOrder v1) (16 : Int32)) ||| (ish (rd s.f_elementCount v1) (8 : Int32))) ||| (rd s.f_elementOps v1))) else none) else none) else none))
set_option maxRecDepth 100000 in
theorem ev_j_programElement (R : AHeap) (scr : List Int32) (s : Q) (v1 : Int32) {res : Int32} {out : Option Value × AHeap} (h : j_programElement s v1 = some res) (hk : out = (some (.int res), (W1 scr s R))) : Eval own_P 13 0 [some (.ref 1), some (.int v1), none] [] (W1 scr s R) out := by
  rw [j_programElement] at h
  refine Eval.aload_n rfl rfl ?_
  refine Eval.iload_n rfl rfl ?_
  refine Eval.callI (rest := []) (x := (j_isElementIndex s v1)) (H1 := (W1 scr s R)) rfl rfl (ev_j_isElementIndex R scr s v1 rfl rfl) ?_
  by_cases hc94 : (j_isElementIndex s v1) = (0 : Int32)
  · rw [if_pos hc94] at h
    refine Eval.ifF rfl (teq hc94).2 ?_
    refine Eval.iconst (x := (-1 : Int32)) rfl rfl ?_
    cases h
    subst hk
    exact Eval.ret rfl rfl
  · rw [if_neg hc94] at h
    refine Eval.ifT (t := 10) rfl rfl (feq hc94).2 ?_
    refine Eval.aload_n rfl rfl ?_
    refine Eval.getfield rfl rfl own_g1_elementOrder ?_
    refine Eval.iload_n rfl rfl ?_
    obtain ⟨hb95, h⟩ := ite_some h
    refine Eval.iaload rfl own_a1_elementOrder hb95 ?_
    refine Eval.bipush (x := (16 : Int32)) rfl rfl ?_
    refine Eval.ishl rfl ?_
    refine Eval.istore_n (L' := [some (.ref 1), some (.int v1), some (.int (ish (rd s.f_elementOrder v1) (16 : Int32)))]) rfl rfl ?_
    refine Eval.iload_n rfl rfl ?_
    refine Eval.aload_n rfl rfl ?_
    refine Eval.getfield rfl rfl own_g1_elementCount ?_
    refine Eval.iload_n rfl rfl ?_
    obtain ⟨hb96, h⟩ := ite_some h
    refine Eval.iaload rfl own_a1_elementCount hb96 ?_
    refine Eval.bipush (x := (8 : Int32)) rfl rfl ?_
    refine Eval.ishl rfl ?_
    refine Eval.ior rfl ?_
    refine Eval.istore_n (L' := [some (.ref 1), some (.int v1), some (.int ((ish (rd s.f_elementOrder v1) (16 : Int32)) ||| (ish (rd s.f_elementCount v1) (8 : Int32))))]) rfl rfl ?_
    refine Eval.iload_n rfl rfl ?_
    refine Eval.aload_n rfl rfl ?_
    refine Eval.getfield rfl rfl own_g1_elementOps ?_
    refine Eval.iload_n rfl rfl ?_
    obtain ⟨hb97, h⟩ := ite_some h
    refine Eval.iaload rfl own_a1_elementOps hb97 ?_
    refine Eval.ior rfl ?_
    refine Eval.istore_n (L' := [some (.ref 1), some (.int v1), some (.int (((ish (rd s.f_elementOrder v1) (16 : Int32)) ||| (ish (rd s.f_elementCount v1) (8 : Int32))) ||| (rd s.f_elementOps v1)))]) rfl rfl ?_
    refine Eval.iload_n rfl rfl ?_
    cases h
    subst hk
    exact Eval.ret rfl rfl
def j_logEntry (s : Q) (v1 : Int32) : Option (Int32) := (if v1 < (0 : Int32) then some ((-1 : Int32)) else (if v1 < s.f_logLength then (if v1 < (32 : Int32) then (if inb s.f_logBuffer.length v1 = true then some ((rd s.f_logBuffer v1)) else none) else some ((-1 : Int32))) else some ((-1 : Int32))))
set_option maxRecDepth 100000 in
theorem ev_j_logEntry (R : AHeap) (scr : List Int32) (s : Q) (v1 : Int32) {res : Int32} {out : Option Value × AHeap} (h : j_logEntry s v1 = some res) (hk : out = (some (.int res), (W1 scr s R))) : Eval own_P 15 0 [some (.ref 1), some (.int v1)] [] (W1 scr s R) out := by
  rw [j_logEntry] at h
  refine Eval.iload_n rfl rfl ?_
  by_cases hc105 : v1 < (0 : Int32)
  · rw [if_pos hc105] at h
    refine Eval.ifT (t := 18) rfl rfl (tlt hc105).1 ?_
    refine Eval.iconst (x := (-1 : Int32)) rfl rfl ?_
    cases h
    subst hk
    exact Eval.ret rfl rfl
  · rw [if_neg hc105] at h
    refine Eval.ifF rfl (flt hc105).1 ?_
    refine Eval.iload_n rfl rfl ?_
    refine Eval.aload_n rfl rfl ?_
    refine Eval.getfield rfl rfl own_g1_logLength ?_
    by_cases hc106 : v1 < s.f_logLength
    · rw [if_pos hc106] at h
      refine Eval.icmpF rfl (tlt hc106).2.1 ?_
      refine Eval.iload_n rfl rfl ?_
      refine Eval.bipush (x := (32 : Int32)) rfl rfl ?_
      by_cases hc107 : v1 < (32 : Int32)
      · rw [if_pos hc107] at h
        refine Eval.icmpT (t := 20) rfl rfl (tlt hc107).1 ?_
        refine Eval.aload_n rfl rfl ?_
        refine Eval.getfield rfl rfl own_g1_logBuffer ?_
        refine Eval.iload_n rfl rfl ?_
        obtain ⟨hb108, h⟩ := ite_some h
        refine Eval.iaload rfl own_a1_logBuffer hb108 ?_
        cases h
        subst hk
        exact Eval.ret rfl rfl
      · rw [if_neg hc107] at h
        refine Eval.icmpF rfl (flt hc107).1 ?_
        refine Eval.iconst (x := (-1 : Int32)) rfl rfl ?_
        cases h
        subst hk
        exact Eval.ret rfl rfl
    · rw [if_neg hc106] at h
      refine Eval.icmpT (t := 18) rfl rfl (flt hc106).2.1 ?_
      refine Eval.iconst (x := (-1 : Int32)) rfl rfl ?_
      cases h
      subst hk
      exact Eval.ret rfl rfl
abbrev law_l881_K (s : Q) (scr : List Int32) (res : Int32 × Int32 × Int32 × Int32 × Int32 × Int32 × Int32 × Int32 × Int32) (out : Option Value × AHeap) : Prop := Eval own_P 0 906 [some (.ref 0), some (.ref 1), some (.int res.1), some (.int res.2.1), some (.int res.2.2.1), some (.int res.2.2.2.1), some (.int res.2.2.2.2.1), some (.int res.2.2.2.2.2.1), some (.int res.2.2.2.2.2.2.1), some (.int res.2.2.2.2.2.2.2.1), none, none, none, none, some (.int res.2.2.2.2.2.2.2.2), none, none, none, none, none] [] (W1 scr s []) out

def j_rowMap (s : Q) (v1 : Int32) : Option (Int32) := (if v1 < (0 : Int32) then some ((-1 : Int32)) else (if (15 : Int32) < v1 then some ((-1 : Int32)) else (if inb s.f_remap.length v1 = true then some ((rd s.f_remap v1)) else none)))
set_option maxRecDepth 100000 in
theorem ev_j_rowMap (R : AHeap) (scr : List Int32) (s : Q) (v1 : Int32) {res : Int32} {out : Option Value × AHeap} (h : j_rowMap s v1 = some res) (hk : out = (some (.int res), (W1 scr s R))) : Eval own_P 16 0 [some (.ref 1), some (.int v1)] [] (W1 scr s R) out := by
  rw [j_rowMap] at h
  refine Eval.iload_n rfl rfl ?_
  by_cases hc117 : v1 < (0 : Int32)
  · rw [if_pos hc117] at h
    refine Eval.ifT (t := 10) rfl rfl (tlt hc117).1 ?_
    refine Eval.iconst (x := (-1 : Int32)) rfl rfl ?_
    cases h
    subst hk
    exact Eval.ret rfl rfl
  · rw [if_neg hc117] at h
    refine Eval.ifF rfl (flt hc117).1 ?_
    refine Eval.iload_n rfl rfl ?_
    refine Eval.bipush (x := (15 : Int32)) rfl rfl ?_
    by_cases hc118 : (15 : Int32) < v1
    · rw [if_pos hc118] at h
      refine Eval.icmpF rfl (tlt hc118).2.2.2 ?_
      refine Eval.iconst (x := (-1 : Int32)) rfl rfl ?_
      cases h
      subst hk
      exact Eval.ret rfl rfl
    · rw [if_neg hc118] at h
      refine Eval.icmpT (t := 12) rfl rfl (flt hc118).2.2.2 ?_
      refine Eval.aload_n rfl rfl ?_
      refine Eval.getfield rfl rfl own_g1_remap ?_
      refine Eval.iload_n rfl rfl ?_
      obtain ⟨hb119, h⟩ := ite_some h
      refine Eval.iaload rfl own_a1_remap hb119 ?_
      cases h
      subst hk
      exact Eval.ret rfl rfl
def law_b900 (go_ : Q → List Int32 → Int32 → Int32 → Int32 → Int32 → Int32 → Int32 → Int32 → Int32 → Int32 → Int32 → Option (Int32 × Int32 × Int32 × Int32 × Int32 × Int32 × Int32 × Int32 × Int32)) (s : Q) (scr : List Int32) (v2 v3 : Int32) (v4 v5 : Int32) (v6 v7 : Int32) (v8 v9 : Int32) (v14 v15 : Int32) : Option (Int32 × Int32 × Int32 × Int32 × Int32 × Int32 × Int32 × Int32 × Int32) := (go_ s scr v2 v3 v4 v5 v6 v7 v8 v9 v14 (v15 + (1 : Int32)))
set_option maxRecDepth 100000 in
theorem ev_law_b900 (go_ : Q → List Int32 → Int32 → Int32 → Int32 → Int32 → Int32 → Int32 → Int32 → Int32 → Int32 → Int32 → Option (Int32 × Int32 × Int32 × Int32 × Int32 × Int32 × Int32 × Int32 × Int32)) (hrec : ∀ (s : Q) (scr : List Int32) (v2 v3 : Int32) (v4 v5 : Int32) (v6 v7 : Int32) (v8 v9 : Int32) (v14 v15 : Int32) {res : Int32 × Int32 × Int32 × Int32 × Int32 × Int32 × Int32 × Int32 × Int32} {out : Option Value × AHeap}, go_ s scr v2 v3 v4 v5 v6 v7 v8 v9 v14 v15 = some res → law_l881_K s scr res out → Eval own_P 0 881 [some (.ref 0), some (.ref 1), some (.int v2), some (.int v3), some (.int v4), some (.int v5), some (.int v6), some (.int v7), some (.int v8), some (.int v9), none, none, none, none, some (.int v14), some (.int v15), none, none, none, none] [] (W1 scr s []) out) (s : Q) (scr : List Int32) (v2 v3 : Int32) (v4 v5 : Int32) (v6 v7 : Int32) (v8 v9 : Int32) (v14 v15 : Int32) {res : Int32 × Int32 × Int32 × Int32 × Int32 × Int32 × Int32 × Int32 × Int32} {out : Option Value × AHeap} (h : law_b900 go_ s scr v2 v3 v4 v5 v6 v7 v8 v9 v14 v15 = some res) (hk : law_l881_K s scr res out) : Eval own_P 0 900 [some (.ref 0), some (.ref 1), some (.int v2), some (.int v3), some (.int v4), some (.int v5), some (.int v6), some (.int v7), some (.int v8), some (.int v9), none, none, none, none, some (.int v14), some (.int v15), none, none, none, none] [] (W1 scr s []) out := by
  rw [law_b900] at h
  refine Eval.iinc (L' := [some (.ref 0), some (.ref 1), some (.int v2), some (.int v3), some (.int v4), some (.int v5), some (.int v6), some (.int v7), some (.int v8), some (.int v9), none, none, none, none, some (.int v14), some (.int (v15 + (1 : Int32))), none, none, none, none]) rfl rfl rfl ?_
  refine Eval.goto (t := 881) rfl rfl ?_
  exact hrec _ _ _ _ _ _ _ _ _ _ _ _ h hk
def law_l881 : Nat → Q → List Int32 → Int32 → Int32 → Int32 → Int32 → Int32 → Int32 → Int32 → Int32 → Int32 → Int32 → Option (Int32 × Int32 × Int32 × Int32 × Int32 × Int32 × Int32 × Int32 × Int32)
  | 0, _, _, _, _, _, _, _, _, _, _, _, _ => none
  | n + 1, s, scr, v2, v3, v4, v5, v6, v7, v8, v9, v14, v15 => (if v15 < (16 : Int32) then ((j_rowMap s v15).bind fun p120 => (law_b900 (law_l881 n) s scr v2 v3 v4 v5 v6 v7 v8 v9 (if p120 < (0 : Int32) then v14 else (v14 + (1 : Int32))) v15)) else some (v2, v3, v4, v5, v6, v7, v8, v9, v14))
set_option maxRecDepth 100000 in
theorem ev_law_l881 : ∀ (n : Nat) (s : Q) (scr : List Int32) (v2 v3 : Int32) (v4 v5 : Int32) (v6 v7 : Int32) (v8 v9 : Int32) (v14 v15 : Int32) {res : Int32 × Int32 × Int32 × Int32 × Int32 × Int32 × Int32 × Int32 × Int32} {out : Option Value × AHeap}, law_l881 n s scr v2 v3 v4 v5 v6 v7 v8 v9 v14 v15 = some res → law_l881_K s scr res out → Eval own_P 0 881 [some (.ref 0), some (.ref 1), some (.int v2), some (.int v3), some (.int v4), some (.int v5), some (.int v6), some (.int v7), some (.int v8), some (.int v9), none, none, none, none, some (.int v14), some (.int v15), none, none, none, none] [] (W1 scr s []) out := by
  intro n
  induction n with
  | zero => intro _ _ _ _ _ _ _ _ _ _ _ _ res out h hk; cases h
  | succ n hrec =>
    intro s scr v2 v3 v4 v5 v6 v7 v8 v9 v14 v15 res out h hk
    rw [law_l881] at h
    refine Eval.iload rfl rfl ?_
    refine Eval.bipush (x := (16 : Int32)) rfl rfl ?_
    by_cases hc116 : v15 < (16 : Int32)
    · rw [if_pos hc116] at h
      refine Eval.icmpF rfl (tlt hc116).2.1 ?_
      refine Eval.aload_n rfl rfl ?_
      refine Eval.iload rfl rfl ?_
      obtain ⟨p120, hq121, h⟩ := bind_some h
      refine Eval.callI (rest := []) (x := p120) (H1 := (W1 scr s [])) rfl rfl (ev_j_rowMap [] scr s v15 hq121 rfl) ?_
      suffices hJ123 : Eval own_P 0 900 [some (.ref 0), some (.ref 1), some (.int v2), some (.int v3), some (.int v4), some (.int v5), some (.int v6), some (.int v7), some (.int v8), some (.int v9), none, none, none, none, some (.int (if p120 < (0 : Int32) then v14 else (v14 + (1 : Int32)))), some (.int v15), none, none, none, none] [] (W1 scr s []) out by
        by_cases hc122 : p120 < (0 : Int32)
        · refine Eval.ifT (t := 900) rfl rfl (tlt hc122).1 ?_
          exact (Eval.conv hJ123 (by simp only [if_pos hc122] <;> rfl) rfl)
        · refine Eval.ifF rfl (flt hc122).1 ?_
          refine Eval.iinc (L' := [some (.ref 0), some (.ref 1), some (.int v2), some (.int v3), some (.int v4), some (.int v5), some (.int v6), some (.int v7), some (.int v8), some (.int v9), none, none, none, none, some (.int (v14 + (1 : Int32))), some (.int v15), none, none, none, none]) rfl rfl rfl ?_
          exact (Eval.conv hJ123 (by simp only [if_neg hc122] <;> rfl) rfl)
      exact ev_law_b900 _ hrec s scr v2 v3 v4 v5 v6 v7 v8 v9 (if p120 < (0 : Int32) then v14 else (v14 + (1 : Int32))) v15 h hk
    · rw [if_neg hc116] at h
      refine Eval.icmpT (t := 906) rfl rfl (flt hc116).2.1 ?_
      cases h
      refine Eval.weak (lw_mk 17407 _) ?_
      exact hk
def law_b875 (go_ : Q → List Int32 → Int32 → Int32 → Int32 → Int32 → Int32 → Int32 → Int32 → Int32 → Option ((Q) ⊕ ((Q) ⊕ ((Q) ⊕ ((Q) ⊕ ((Q) ⊕ ((Q) ⊕ ((Q) ⊕ ((Q) ⊕ ((Q) ⊕ ((Q) ⊕ ((Q) ⊕ ((Q) ⊕ ((Q) ⊕ ((Q) ⊕ ((Q) ⊕ ((Q) ⊕ ((Q) ⊕ ((Q) ⊕ ((Q) ⊕ ((Q) ⊕ (Q)))))))))))))))))))))) (s : Q) (scr : List Int32) (v2 v3 : Int32) (v4 v5 : Int32) (v6 v7 : Int32) (v8 v9 : Int32) : Option ((Q) ⊕ ((Q) ⊕ ((Q) ⊕ ((Q) ⊕ ((Q) ⊕ ((Q) ⊕ ((Q) ⊕ ((Q) ⊕ ((Q) ⊕ ((Q) ⊕ ((Q) ⊕ ((Q) ⊕ ((Q) ⊕ ((Q) ⊕ ((Q) ⊕ ((Q) ⊕ ((Q) ⊕ ((Q) ⊕ ((Q) ⊕ ((Q) ⊕ (Q))))))))))))))))))))) := ((law_l881 3000 s scr v2 v3 v4 v5 v6 v7 v8 v9 (0 : Int32) (0 : Int32)).bind fun p124 => (if p124.2.2.2.2.2.2.2.2 = p124.2.2.1 then (if (2 : Int32) < p124.2.2.1 then some (.inr (.inr (.inr (.inr (.inr (.inr (.inr (.inr (.inr (.inr (.inr (.inr (.inr (.inr (.inr (.inr (.inr (.inr (.inr (.inl (s))))))))))))))))))))) else (go_ s scr p124.1 p124.2.1 p124.2.2.1 p124.2.2.2.1 p124.2.2.2.2.1 p124.2.2.2.2.2.1 p124.2.2.2.2.2.2.1 (p124.2.2.2.2.2.2.2.1 + (4 : Int32)))) else some (.inr (.inr (.inr (.inr (.inr (.inr (.inr (.inr (.inr (.inr (.inr (.inr (.inr (.inr (.inr (.inr (.inr (.inr (.inr (.inl (s)))))))))))))))))))))))
set_option maxRecDepth 100000 in
theorem ev_law_b875 (go_ : Q → List Int32 → Int32 → Int32 → Int32 → Int32 → Int32 → Int32 → Int32 → Int32 → Option ((Q) ⊕ ((Q) ⊕ ((Q) ⊕ ((Q) ⊕ ((Q) ⊕ ((Q) ⊕ ((Q) ⊕ ((Q) ⊕ ((Q) ⊕ ((Q) ⊕ ((Q) ⊕ ((Q) ⊕ ((Q) ⊕ ((Q) ⊕ ((Q) ⊕ ((Q) ⊕ ((Q) ⊕ ((Q) ⊕ ((Q) ⊕ ((Q) ⊕ (Q)))))))))))))))))))))) (hrec : ∀ (s : Q) (scr : List Int32) (v2 v3 : Int32) (v4 v5 : Int32) (v6 v7 : Int32) (v8 v9 : Int32) {res : (Q) ⊕ ((Q) ⊕ ((Q) ⊕ ((Q) ⊕ ((Q) ⊕ ((Q) ⊕ ((Q) ⊕ ((Q) ⊕ ((Q) ⊕ ((Q) ⊕ ((Q) ⊕ ((Q) ⊕ ((Q) ⊕ ((Q) ⊕ ((Q) ⊕ ((Q) ⊕ ((Q) ⊕ ((Q) ⊕ ((Q) ⊕ ((Q) ⊕ (Q))))))))))))))))))))} {out : Option Value × AHeap}, go_ s scr v2 v3 v4 v5 v6 v7 v8 v9 = some res → law_l34_K scr res out → Eval own_P 0 34 [some (.ref 0), some (.ref 1), some (.int v2), some (.int v3), some (.int v4), some (.int v5), some (.int v6), some (.int v7), some (.int v8), some (.int v9), none, none, none, none, none, none, none, none, none, none] [] (W1 scr s []) out) (s : Q) (scr : List Int32) (v2 v3 : Int32) (v4 v5 : Int32) (v6 v7 : Int32) (v8 v9 : Int32) {res : (Q) ⊕ ((Q) ⊕ ((Q) ⊕ ((Q) ⊕ ((Q) ⊕ ((Q) ⊕ ((Q) ⊕ ((Q) ⊕ ((Q) ⊕ ((Q) ⊕ ((Q) ⊕ ((Q) ⊕ ((Q) ⊕ ((Q) ⊕ ((Q) ⊕ ((Q) ⊕ ((Q) ⊕ ((Q) ⊕ ((Q) ⊕ ((Q) ⊕ (Q))))))))))))))))))))} {out : Option Value × AHeap} (h : law_b875 go_ s scr v2 v3 v4 v5 v6 v7 v8 v9 = some res) (hk : law_l34_K scr res out) : Eval own_P 0 875 [some (.ref 0), some (.ref 1), some (.int v2), some (.int v3), some (.int v4), some (.int v5), some (.int v6), some (.int v7), some (.int v8), some (.int v9), none, none, none, none, none, none, none, none, none, none] [] (W1 scr s []) out := by
  rw [law_b875] at h
  refine Eval.iconst (x := (0 : Int32)) rfl rfl ?_
  refine Eval.istore (L' := [some (.ref 0), some (.ref 1), some (.int v2), some (.int v3), some (.int v4), some (.int v5), some (.int v6), some (.int v7), some (.int v8), some (.int v9), none, none, none, none, some (.int (0 : Int32)), none, none, none, none, none]) rfl rfl ?_
  refine Eval.iconst (x := (0 : Int32)) rfl rfl ?_
  refine Eval.istore (L' := [some (.ref 0), some (.ref 1), some (.int v2), some (.int v3), some (.int v4), some (.int v5), some (.int v6), some (.int v7), some (.int v8), some (.int v9), none, none, none, none, some (.int (0 : Int32)), some (.int (0 : Int32)), none, none, none, none]) rfl rfl ?_
  obtain ⟨p124, hq125, h⟩ := bind_some h
  refine ev_law_l881 _ s scr v2 v3 v4 v5 v6 v7 v8 v9 (0 : Int32) (0 : Int32) hq125 ?_
  show Eval own_P 0 906 [some (.ref 0), some (.ref 1), some (.int p124.1), some (.int p124.2.1), some (.int p124.2.2.1), some (.int p124.2.2.2.1), some (.int p124.2.2.2.2.1), some (.int p124.2.2.2.2.2.1), some (.int p124.2.2.2.2.2.2.1), some (.int p124.2.2.2.2.2.2.2.1), none, none, none, none, some (.int p124.2.2.2.2.2.2.2.2), none, none, none, none, none] [] (W1 scr s []) out
  refine Eval.iload rfl rfl ?_
  refine Eval.iload rfl rfl ?_
  by_cases hc126 : p124.2.2.2.2.2.2.2.2 = p124.2.2.1
  · rw [if_pos hc126] at h
    refine Eval.icmpF rfl (teq hc126).2 ?_
    refine Eval.iload rfl rfl ?_
    refine Eval.iconst (x := (2 : Int32)) rfl rfl ?_
    by_cases hc127 : (2 : Int32) < p124.2.2.1
    · rw [if_pos hc127] at h
      refine Eval.icmpF rfl (tlt hc127).2.2.2 ?_
      cases h
      refine Eval.weak (lw_mk 0 _) ?_
      exact hk
    · rw [if_neg hc127] at h
      refine Eval.icmpT (t := 921) rfl rfl (flt hc127).2.2.2 ?_
      refine Eval.iinc (L' := [some (.ref 0), some (.ref 1), some (.int p124.1), some (.int p124.2.1), some (.int p124.2.2.1), some (.int p124.2.2.2.1), some (.int p124.2.2.2.2.1), some (.int p124.2.2.2.2.2.1), some (.int p124.2.2.2.2.2.2.1), some (.int (p124.2.2.2.2.2.2.2.1 + (4 : Int32))), none, none, none, none, some (.int p124.2.2.2.2.2.2.2.2), none, none, none, none, none]) rfl rfl rfl ?_
      refine Eval.goto (t := 34) rfl rfl ?_
      refine Eval.weak (lw_mk 1023 _) ?_
      exact hrec _ _ _ _ _ _ _ _ _ _ h hk
  · rw [if_neg hc126] at h
    refine Eval.icmpT (t := 919) rfl rfl (feq hc126).2 ?_
    cases h
    refine Eval.weak (lw_mk 0 _) ?_
    exact hk
def law_b847 (go_ : Q → List Int32 → Int32 → Int32 → Int32 → Int32 → Int32 → Int32 → Int32 → Int32 → Option ((Q) ⊕ ((Q) ⊕ ((Q) ⊕ ((Q) ⊕ ((Q) ⊕ ((Q) ⊕ ((Q) ⊕ ((Q) ⊕ ((Q) ⊕ ((Q) ⊕ ((Q) ⊕ ((Q) ⊕ ((Q) ⊕ ((Q) ⊕ ((Q) ⊕ ((Q) ⊕ ((Q) ⊕ ((Q) ⊕ ((Q) ⊕ ((Q) ⊕ (Q)))))))))))))))))))))) (s : Q) (scr : List Int32) (v2 v3 : Int32) (v4 v5 : Int32) (v6 v7 : Int32) (v8 v9 : Int32) : Option ((Q) ⊕ ((Q) ⊕ ((Q) ⊕ ((Q) ⊕ ((Q) ⊕ ((Q) ⊕ ((Q) ⊕ ((Q) ⊕ ((Q) ⊕ ((Q) ⊕ ((Q) ⊕ ((Q) ⊕ ((Q) ⊕ ((Q) ⊕ ((Q) ⊕ ((Q) ⊕ ((Q) ⊕ ((Q) ⊕ ((Q) ⊕ ((Q) ⊕ (Q))))))))))))))))))))) := ((j_logEntry s v5).bind fun p109 => (if p109 = (-1 : Int32) then (if (0 : Int32) < v5 then ((j_logEntry s (v5 - (1 : Int32))).bind fun p113 => (if p113 < (0 : Int32) then some (.inr (.inr (.inr (.inr (.inr (.inr (.inr (.inr (.inr (.inr (.inr (.inr (.inr (.inr (.inr (.inr (.inr (.inr (.inl (s)))))))))))))))))))) else (law_b875 (go_) s scr v2 v3 v4 v5 v6 v7 v8 v9))) else (law_b875 (go_) s scr v2 v3 v4 v5 v6 v7 v8 v9)) else some (.inr (.inr (.inr (.inr (.inr (.inr (.inr (.inr (.inr (.inr (.inr (.inr (.inr (.inr (.inr (.inr (.inr (.inr (.inl (s))))))))))))))))))))))
set_option maxRecDepth 100000 in
theorem ev_law_b847 (go_ : Q → List Int32 → Int32 → Int32 → Int32 → Int32 → Int32 → Int32 → Int32 → Int32 → Option ((Q) ⊕ ((Q) ⊕ ((Q) ⊕ ((Q) ⊕ ((Q) ⊕ ((Q) ⊕ ((Q) ⊕ ((Q) ⊕ ((Q) ⊕ ((Q) ⊕ ((Q) ⊕ ((Q) ⊕ ((Q) ⊕ ((Q) ⊕ ((Q) ⊕ ((Q) ⊕ ((Q) ⊕ ((Q) ⊕ ((Q) ⊕ ((Q) ⊕ (Q)))))))))))))))))))))) (hrec : ∀ (s : Q) (scr : List Int32) (v2 v3 : Int32) (v4 v5 : Int32) (v6 v7 : Int32) (v8 v9 : Int32) {res : (Q) ⊕ ((Q) ⊕ ((Q) ⊕ ((Q) ⊕ ((Q) ⊕ ((Q) ⊕ ((Q) ⊕ ((Q) ⊕ ((Q) ⊕ ((Q) ⊕ ((Q) ⊕ ((Q) ⊕ ((Q) ⊕ ((Q) ⊕ ((Q) ⊕ ((Q) ⊕ ((Q) ⊕ ((Q) ⊕ ((Q) ⊕ ((Q) ⊕ (Q))))))))))))))))))))} {out : Option Value × AHeap}, go_ s scr v2 v3 v4 v5 v6 v7 v8 v9 = some res → law_l34_K scr res out → Eval own_P 0 34 [some (.ref 0), some (.ref 1), some (.int v2), some (.int v3), some (.int v4), some (.int v5), some (.int v6), some (.int v7), some (.int v8), some (.int v9), none, none, none, none, none, none, none, none, none, none] [] (W1 scr s []) out) (s : Q) (scr : List Int32) (v2 v3 : Int32) (v4 v5 : Int32) (v6 v7 : Int32) (v8 v9 : Int32) {res : (Q) ⊕ ((Q) ⊕ ((Q) ⊕ ((Q) ⊕ ((Q) ⊕ ((Q) ⊕ ((Q) ⊕ ((Q) ⊕ ((Q) ⊕ ((Q) ⊕ ((Q) ⊕ ((Q) ⊕ ((Q) ⊕ ((Q) ⊕ ((Q) ⊕ ((Q) ⊕ ((Q) ⊕ ((Q) ⊕ ((Q) ⊕ ((Q) ⊕ (Q))))))))))))))))))))} {out : Option Value × AHeap} (h : law_b847 go_ s scr v2 v3 v4 v5 v6 v7 v8 v9 = some res) (hk : law_l34_K scr res out) : Eval own_P 0 847 [some (.ref 0), some (.ref 1), some (.int v2), some (.int v3), some (.int v4), some (.int v5), some (.int v6), some (.int v7), some (.int v8), some (.int v9), none, none, none, none, none, none, none, none, none, none] [] (W1 scr s []) out := by
  rw [law_b847] at h
  refine Eval.aload_n rfl rfl ?_
  refine Eval.iload rfl rfl ?_
  obtain ⟨p109, hq110, h⟩ := bind_some h
  refine Eval.callI (rest := []) (x := p109) (H1 := (W1 scr s [])) rfl rfl (ev_j_logEntry [] scr s v5 hq110 rfl) ?_
  refine Eval.iconst (x := (-1 : Int32)) rfl rfl ?_
  by_cases hc111 : p109 = (-1 : Int32)
  · rw [if_pos hc111] at h
    refine Eval.icmpF rfl (teq hc111).2 ?_
    refine Eval.iload rfl rfl ?_
    by_cases hc112 : (0 : Int32) < v5
    · rw [if_pos hc112] at h
      refine Eval.ifF rfl (tlt hc112).2.2.2 ?_
      refine Eval.aload_n rfl rfl ?_
      refine Eval.iload rfl rfl ?_
      refine Eval.iconst (x := (1 : Int32)) rfl rfl ?_
      refine Eval.isub rfl ?_
      obtain ⟨p113, hq114, h⟩ := bind_some h
      refine Eval.callI (rest := []) (x := p113) (H1 := (W1 scr s [])) rfl rfl (ev_j_logEntry [] scr s (v5 - (1 : Int32)) hq114 rfl) ?_
      by_cases hc115 : p113 < (0 : Int32)
      · rw [if_pos hc115] at h
        refine Eval.ifF rfl (tlt hc115).2.1 ?_
        cases h
        refine Eval.weak (lw_mk 0 _) ?_
        exact hk
      · rw [if_neg hc115] at h
        refine Eval.ifT (t := 875) rfl rfl (flt hc115).2.1 ?_
        exact ev_law_b875 _ hrec s scr v2 v3 v4 v5 v6 v7 v8 v9 h hk
    · rw [if_neg hc112] at h
      refine Eval.ifT (t := 875) rfl rfl (flt hc112).2.2.2 ?_
      exact ev_law_b875 _ hrec s scr v2 v3 v4 v5 v6 v7 v8 v9 h hk
  · rw [if_neg hc111] at h
    refine Eval.icmpT (t := 873) rfl rfl (feq hc111).2 ?_
    cases h
    refine Eval.weak (lw_mk 0 _) ?_
    exact hk
def law_b821 (go_ : Q → List Int32 → Int32 → Int32 → Int32 → Int32 → Int32 → Int32 → Int32 → Int32 → Option ((Q) ⊕ ((Q) ⊕ ((Q) ⊕ ((Q) ⊕ ((Q) ⊕ ((Q) ⊕ ((Q) ⊕ ((Q) ⊕ ((Q) ⊕ ((Q) ⊕ ((Q) ⊕ ((Q) ⊕ ((Q) ⊕ ((Q) ⊕ ((Q) ⊕ ((Q) ⊕ ((Q) ⊕ ((Q) ⊕ ((Q) ⊕ ((Q) ⊕ (Q)))))))))))))))))))))) (s : Q) (scr : List Int32) (v2 v3 : Int32) (v4 v5 : Int32) (v6 v7 : Int32) (v8 v9 : Int32) : Option ((Q) ⊕ ((Q) ⊕ ((Q) ⊕ ((Q) ⊕ ((Q) ⊕ ((Q) ⊕ ((Q) ⊕ ((Q) ⊕ ((Q) ⊕ ((Q) ⊕ ((Q) ⊕ ((Q) ⊕ ((Q) ⊕ ((Q) ⊕ ((Q) ⊕ ((Q) ⊕ ((Q) ⊕ ((Q) ⊕ ((Q) ⊕ ((Q) ⊕ (Q))))))))))))))))))))) := ((j_programElement s v3).bind fun p98 => (if p98 = (-1 : Int32) then (if (0 : Int32) < v3 then ((j_programElement s (v3 - (1 : Int32))).bind fun p102 => (if p102 = (-1 : Int32) then some (.inr (.inr (.inr (.inr (.inr (.inr (.inr (.inr (.inr (.inr (.inr (.inr (.inr (.inr (.inr (.inr (.inr (.inl (s))))))))))))))))))) else (law_b847 (go_) s scr v2 v3 v4 v5 v6 v7 v8 v9))) else (law_b847 (go_) s scr v2 v3 v4 v5 v6 v7 v8 v9)) else some (.inr (.inr (.inr (.inr (.inr (.inr (.inr (.inr (.inr (.inr (.inr (.inr (.inr (.inr (.inr (.inr (.inr (.inl (s)))))))))))))))))))))
set_option maxRecDepth 100000 in
theorem ev_law_b821 (go_ : Q → List Int32 → Int32 → Int32 → Int32 → Int32 → Int32 → Int32 → Int32 → Int32 → Option ((Q) ⊕ ((Q) ⊕ ((Q) ⊕ ((Q) ⊕ ((Q) ⊕ ((Q) ⊕ ((Q) ⊕ ((Q) ⊕ ((Q) ⊕ ((Q) ⊕ ((Q) ⊕ ((Q) ⊕ ((Q) ⊕ ((Q) ⊕ ((Q) ⊕ ((Q) ⊕ ((Q) ⊕ ((Q) ⊕ ((Q) ⊕ ((Q) ⊕ (Q)))))))))))))))))))))) (hrec : ∀ (s : Q) (scr : List Int32) (v2 v3 : Int32) (v4 v5 : Int32) (v6 v7 : Int32) (v8 v9 : Int32) {res : (Q) ⊕ ((Q) ⊕ ((Q) ⊕ ((Q) ⊕ ((Q) ⊕ ((Q) ⊕ ((Q) ⊕ ((Q) ⊕ ((Q) ⊕ ((Q) ⊕ ((Q) ⊕ ((Q) ⊕ ((Q) ⊕ ((Q) ⊕ ((Q) ⊕ ((Q) ⊕ ((Q) ⊕ ((Q) ⊕ ((Q) ⊕ ((Q) ⊕ (Q))))))))))))))))))))} {out : Option Value × AHeap}, go_ s scr v2 v3 v4 v5 v6 v7 v8 v9 = some res → law_l34_K scr res out → Eval own_P 0 34 [some (.ref 0), some (.ref 1), some (.int v2), some (.int v3), some (.int v4), some (.int v5), some (.int v6), some (.int v7), some (.int v8), some (.int v9), none, none, none, none, none, none, none, none, none, none] [] (W1 scr s []) out) (s : Q) (scr : List Int32) (v2 v3 : Int32) (v4 v5 : Int32) (v6 v7 : Int32) (v8 v9 : Int32) {res : (Q) ⊕ ((Q) ⊕ ((Q) ⊕ ((Q) ⊕ ((Q) ⊕ ((Q) ⊕ ((Q) ⊕ ((Q) ⊕ ((Q) ⊕ ((Q) ⊕ ((Q) ⊕ ((Q) ⊕ ((Q) ⊕ ((Q) ⊕ ((Q) ⊕ ((Q) ⊕ ((Q) ⊕ ((Q) ⊕ ((Q) ⊕ ((Q) ⊕ (Q))))))))))))))))))))} {out : Option Value × AHeap} (h : law_b821 go_ s scr v2 v3 v4 v5 v6 v7 v8 v9 = some res) (hk : law_l34_K scr res out) : Eval own_P 0 821 [some (.ref 0), some (.ref 1), some (.int v2), some (.int v3), some (.int v4), some (.int v5), some (.int v6), some (.int v7), some (.int v8), some (.int v9), none, none, none, none, none, none, none, none, none, none] [] (W1 scr s []) out := by
  rw [law_b821] at h
  refine Eval.aload_n rfl rfl ?_
  refine Eval.iload_n rfl rfl ?_
  obtain ⟨p98, hq99, h⟩ := bind_some h
  refine Eval.callI (rest := []) (x := p98) (H1 := (W1 scr s [])) rfl rfl (ev_j_programElement [] scr s v3 hq99 rfl) ?_
  refine Eval.iconst (x := (-1 : Int32)) rfl rfl ?_
  by_cases hc100 : p98 = (-1 : Int32)
  · rw [if_pos hc100] at h
    refine Eval.icmpF rfl (teq hc100).2 ?_
    refine Eval.iload_n rfl rfl ?_
    by_cases hc101 : (0 : Int32) < v3
    · rw [if_pos hc101] at h
      refine Eval.ifF rfl (tlt hc101).2.2.2 ?_
      refine Eval.aload_n rfl rfl ?_
      refine Eval.iload_n rfl rfl ?_
      refine Eval.iconst (x := (1 : Int32)) rfl rfl ?_
      refine Eval.isub rfl ?_
      obtain ⟨p102, hq103, h⟩ := bind_some h
      refine Eval.callI (rest := []) (x := p102) (H1 := (W1 scr s [])) rfl rfl (ev_j_programElement [] scr s (v3 - (1 : Int32)) hq103 rfl) ?_
      refine Eval.iconst (x := (-1 : Int32)) rfl rfl ?_
      by_cases hc104 : p102 = (-1 : Int32)
      · rw [if_pos hc104] at h
        refine Eval.icmpF rfl (teq hc104).2 ?_
        cases h
        refine Eval.weak (lw_mk 0 _) ?_
        exact hk
      · rw [if_neg hc104] at h
        refine Eval.icmpT (t := 847) rfl rfl (feq hc104).2 ?_
        exact ev_law_b847 _ hrec s scr v2 v3 v4 v5 v6 v7 v8 v9 h hk
    · rw [if_neg hc101] at h
      refine Eval.ifT (t := 847) rfl rfl (flt hc101).2.2.2 ?_
      exact ev_law_b847 _ hrec s scr v2 v3 v4 v5 v6 v7 v8 v9 h hk
  · rw [if_neg hc100] at h
    refine Eval.icmpT (t := 845) rfl rfl (feq hc100).2 ?_
    cases h
    refine Eval.weak (lw_mk 0 _) ?_
    exact hk
def law_b775 (go_ : Q → List Int32 → Int32 → Int32 → Int32 → Int32 → Int32 → Int32 → Int32 → Int32 → Option ((Q) ⊕ ((Q) ⊕ ((Q) ⊕ ((Q) ⊕ ((Q) ⊕ ((Q) ⊕ ((Q) ⊕ ((Q) ⊕ ((Q) ⊕ ((Q) ⊕ ((Q) ⊕ ((Q) ⊕ ((Q) ⊕ ((Q) ⊕ ((Q) ⊕ ((Q) ⊕ ((Q) ⊕ ((Q) ⊕ ((Q) ⊕ ((Q) ⊕ (Q)))))))))))))))))))))) (s : Q) (scr : List Int32) (v2 v3 : Int32) (v4 v5 : Int32) (v6 v7 : Int32) (v8 v9 : Int32) : Option ((Q) ⊕ ((Q) ⊕ ((Q) ⊕ ((Q) ⊕ ((Q) ⊕ ((Q) ⊕ ((Q) ⊕ ((Q) ⊕ ((Q) ⊕ ((Q) ⊕ ((Q) ⊕ ((Q) ⊕ ((Q) ⊕ ((Q) ⊕ ((Q) ⊕ ((Q) ⊕ ((Q) ⊕ ((Q) ⊕ ((Q) ⊕ ((Q) ⊕ (Q))))))))))))))))))))) := (if (j_latch s) = v6 then (if (j_failRows s) = v7 then ((j_faultInfo s v2).bind fun p84 => (if p84 = (-1 : Int32) then (if (0 : Int32) < v2 then ((j_faultInfo s (v2 - (1 : Int32))).bind fun p88 => (if p88 = (-1 : Int32) then some (.inr (.inr (.inr (.inr (.inr (.inr (.inr (.inr (.inr (.inr (.inr (.inr (.inr (.inr (.inr (.inr (.inl (s)))))))))))))))))) else (law_b821 (go_) s scr v2 v3 v4 v5 v6 v7 v8 v9))) else (law_b821 (go_) s scr v2 v3 v4 v5 v6 v7 v8 v9)) else some (.inr (.inr (.inr (.inr (.inr (.inr (.inr (.inr (.inr (.inr (.inr (.inr (.inr (.inr (.inr (.inr (.inl (s)))))))))))))))))))) else some (.inr (.inr (.inr (.inr (.inr (.inr (.inr (.inr (.inr (.inr (.inr (.inr (.inr (.inr (.inr (.inl (s)))))))))))))))))) else some (.inr (.inr (.inr (.inr (.inr (.inr (.inr (.inr (.inr (.inr (.inr (.inr (.inr (.inr (.inr (.inl (s))))))))))))))))))
set_option maxRecDepth 100000 in
theorem ev_law_b775 (go_ : Q → List Int32 → Int32 → Int32 → Int32 → Int32 → Int32 → Int32 → Int32 → Int32 → Option ((Q) ⊕ ((Q) ⊕ ((Q) ⊕ ((Q) ⊕ ((Q) ⊕ ((Q) ⊕ ((Q) ⊕ ((Q) ⊕ ((Q) ⊕ ((Q) ⊕ ((Q) ⊕ ((Q) ⊕ ((Q) ⊕ ((Q) ⊕ ((Q) ⊕ ((Q) ⊕ ((Q) ⊕ ((Q) ⊕ ((Q) ⊕ ((Q) ⊕ (Q)))))))))))))))))))))) (hrec : ∀ (s : Q) (scr : List Int32) (v2 v3 : Int32) (v4 v5 : Int32) (v6 v7 : Int32) (v8 v9 : Int32) {res : (Q) ⊕ ((Q) ⊕ ((Q) ⊕ ((Q) ⊕ ((Q) ⊕ ((Q) ⊕ ((Q) ⊕ ((Q) ⊕ ((Q) ⊕ ((Q) ⊕ ((Q) ⊕ ((Q) ⊕ ((Q) ⊕ ((Q) ⊕ ((Q) ⊕ ((Q) ⊕ ((Q) ⊕ ((Q) ⊕ ((Q) ⊕ ((Q) ⊕ (Q))))))))))))))))))))} {out : Option Value × AHeap}, go_ s scr v2 v3 v4 v5 v6 v7 v8 v9 = some res → law_l34_K scr res out → Eval own_P 0 34 [some (.ref 0), some (.ref 1), some (.int v2), some (.int v3), some (.int v4), some (.int v5), some (.int v6), some (.int v7), some (.int v8), some (.int v9), none, none, none, none, none, none, none, none, none, none] [] (W1 scr s []) out) (s : Q) (scr : List Int32) (v2 v3 : Int32) (v4 v5 : Int32) (v6 v7 : Int32) (v8 v9 : Int32) {res : (Q) ⊕ ((Q) ⊕ ((Q) ⊕ ((Q) ⊕ ((Q) ⊕ ((Q) ⊕ ((Q) ⊕ ((Q) ⊕ ((Q) ⊕ ((Q) ⊕ ((Q) ⊕ ((Q) ⊕ ((Q) ⊕ ((Q) ⊕ ((Q) ⊕ ((Q) ⊕ ((Q) ⊕ ((Q) ⊕ ((Q) ⊕ ((Q) ⊕ (Q))))))))))))))))))))} {out : Option Value × AHeap} (h : law_b775 go_ s scr v2 v3 v4 v5 v6 v7 v8 v9 = some res) (hk : law_l34_K scr res out) : Eval own_P 0 775 [some (.ref 0), some (.ref 1), some (.int v2), some (.int v3), some (.int v4), some (.int v5), some (.int v6), some (.int v7), some (.int v8), some (.int v9), none, none, none, none, none, none, none, none, none, none] [] (W1 scr s []) out := by
  rw [law_b775] at h
  refine Eval.aload_n rfl rfl ?_
  refine Eval.callI (rest := []) (x := (j_latch s)) (H1 := (W1 scr s [])) rfl rfl (ev_j_latch [] scr s rfl rfl) ?_
  refine Eval.iload rfl rfl ?_
  by_cases hc74 : (j_latch s) = v6
  · rw [if_pos hc74] at h
    refine Eval.icmpF rfl (teq hc74).2 ?_
    refine Eval.aload_n rfl rfl ?_
    refine Eval.callI (rest := []) (x := (j_failRows s)) (H1 := (W1 scr s [])) rfl rfl (ev_j_failRows [] scr s rfl rfl) ?_
    refine Eval.iload rfl rfl ?_
    by_cases hc75 : (j_failRows s) = v7
    · rw [if_pos hc75] at h
      refine Eval.icmpT (t := 795) rfl rfl (teq hc75).1 ?_
      refine Eval.aload_n rfl rfl ?_
      refine Eval.iload_n rfl rfl ?_
      obtain ⟨p84, hq85, h⟩ := bind_some h
      refine Eval.callI (rest := []) (x := p84) (H1 := (W1 scr s [])) rfl rfl (ev_j_faultInfo [] scr s v2 hq85 rfl) ?_
      refine Eval.iconst (x := (-1 : Int32)) rfl rfl ?_
      by_cases hc86 : p84 = (-1 : Int32)
      · rw [if_pos hc86] at h
        refine Eval.icmpF rfl (teq hc86).2 ?_
        refine Eval.iload_n rfl rfl ?_
        by_cases hc87 : (0 : Int32) < v2
        · rw [if_pos hc87] at h
          refine Eval.ifF rfl (tlt hc87).2.2.2 ?_
          refine Eval.aload_n rfl rfl ?_
          refine Eval.iload_n rfl rfl ?_
          refine Eval.iconst (x := (1 : Int32)) rfl rfl ?_
          refine Eval.isub rfl ?_
          obtain ⟨p88, hq89, h⟩ := bind_some h
          refine Eval.callI (rest := []) (x := p88) (H1 := (W1 scr s [])) rfl rfl (ev_j_faultInfo [] scr s (v2 - (1 : Int32)) hq89 rfl) ?_
          refine Eval.iconst (x := (-1 : Int32)) rfl rfl ?_
          by_cases hc90 : p88 = (-1 : Int32)
          · rw [if_pos hc90] at h
            refine Eval.icmpF rfl (teq hc90).2 ?_
            cases h
            refine Eval.weak (lw_mk 0 _) ?_
            exact hk
          · rw [if_neg hc90] at h
            refine Eval.icmpT (t := 821) rfl rfl (feq hc90).2 ?_
            exact ev_law_b821 _ hrec s scr v2 v3 v4 v5 v6 v7 v8 v9 h hk
        · rw [if_neg hc87] at h
          refine Eval.ifT (t := 821) rfl rfl (flt hc87).2.2.2 ?_
          exact ev_law_b821 _ hrec s scr v2 v3 v4 v5 v6 v7 v8 v9 h hk
      · rw [if_neg hc86] at h
        refine Eval.icmpT (t := 819) rfl rfl (feq hc86).2 ?_
        cases h
        refine Eval.weak (lw_mk 0 _) ?_
        exact hk
    · rw [if_neg hc75] at h
      refine Eval.icmpF rfl (feq hc75).1 ?_
      cases h
      refine Eval.weak (lw_mk 0 _) ?_
      exact hk
  · rw [if_neg hc74] at h
    refine Eval.icmpT (t := 793) rfl rfl (feq hc74).2 ?_
    cases h
    refine Eval.weak (lw_mk 0 _) ?_
    exact hk
def law_b221 (go_ : Q → List Int32 → Int32 → Int32 → Int32 → Int32 → Int32 → Int32 → Int32 → Int32 → Option ((Q) ⊕ ((Q) ⊕ ((Q) ⊕ ((Q) ⊕ ((Q) ⊕ ((Q) ⊕ ((Q) ⊕ ((Q) ⊕ ((Q) ⊕ ((Q) ⊕ ((Q) ⊕ ((Q) ⊕ ((Q) ⊕ ((Q) ⊕ ((Q) ⊕ ((Q) ⊕ ((Q) ⊕ ((Q) ⊕ ((Q) ⊕ ((Q) ⊕ (Q)))))))))))))))))))))) (s : Q) (scr : List Int32) (v2 v3 : Int32) (v4 v5 : Int32) (v6 v7 : Int32) (v8 v9 : Int32) : Option ((Q) ⊕ ((Q) ⊕ ((Q) ⊕ ((Q) ⊕ ((Q) ⊕ ((Q) ⊕ ((Q) ⊕ ((Q) ⊕ ((Q) ⊕ ((Q) ⊕ ((Q) ⊕ ((Q) ⊕ ((Q) ⊕ ((Q) ⊕ ((Q) ⊕ ((Q) ⊕ ((Q) ⊕ ((Q) ⊕ ((Q) ⊕ ((Q) ⊕ (Q))))))))))))))))))))) := (law_b775 (go_) s scr v2 v3 v4 v5 v6 v7 v8 v9)
set_option maxRecDepth 100000 in
theorem ev_law_b221 (go_ : Q → List Int32 → Int32 → Int32 → Int32 → Int32 → Int32 → Int32 → Int32 → Int32 → Option ((Q) ⊕ ((Q) ⊕ ((Q) ⊕ ((Q) ⊕ ((Q) ⊕ ((Q) ⊕ ((Q) ⊕ ((Q) ⊕ ((Q) ⊕ ((Q) ⊕ ((Q) ⊕ ((Q) ⊕ ((Q) ⊕ ((Q) ⊕ ((Q) ⊕ ((Q) ⊕ ((Q) ⊕ ((Q) ⊕ ((Q) ⊕ ((Q) ⊕ (Q)))))))))))))))))))))) (hrec : ∀ (s : Q) (scr : List Int32) (v2 v3 : Int32) (v4 v5 : Int32) (v6 v7 : Int32) (v8 v9 : Int32) {res : (Q) ⊕ ((Q) ⊕ ((Q) ⊕ ((Q) ⊕ ((Q) ⊕ ((Q) ⊕ ((Q) ⊕ ((Q) ⊕ ((Q) ⊕ ((Q) ⊕ ((Q) ⊕ ((Q) ⊕ ((Q) ⊕ ((Q) ⊕ ((Q) ⊕ ((Q) ⊕ ((Q) ⊕ ((Q) ⊕ ((Q) ⊕ ((Q) ⊕ (Q))))))))))))))))))))} {out : Option Value × AHeap}, go_ s scr v2 v3 v4 v5 v6 v7 v8 v9 = some res → law_l34_K scr res out → Eval own_P 0 34 [some (.ref 0), some (.ref 1), some (.int v2), some (.int v3), some (.int v4), some (.int v5), some (.int v6), some (.int v7), some (.int v8), some (.int v9), none, none, none, none, none, none, none, none, none, none] [] (W1 scr s []) out) (s : Q) (scr : List Int32) (v2 v3 : Int32) (v4 v5 : Int32) (v6 v7 : Int32) (v8 v9 : Int32) {res : (Q) ⊕ ((Q) ⊕ ((Q) ⊕ ((Q) ⊕ ((Q) ⊕ ((Q) ⊕ ((Q) ⊕ ((Q) ⊕ ((Q) ⊕ ((Q) ⊕ ((Q) ⊕ ((Q) ⊕ ((Q) ⊕ ((Q) ⊕ ((Q) ⊕ ((Q) ⊕ ((Q) ⊕ ((Q) ⊕ ((Q) ⊕ ((Q) ⊕ (Q))))))))))))))))))))} {out : Option Value × AHeap} (h : law_b221 go_ s scr v2 v3 v4 v5 v6 v7 v8 v9 = some res) (hk : law_l34_K scr res out) : Eval own_P 0 221 [some (.ref 0), some (.ref 1), some (.int v2), some (.int v3), some (.int v4), some (.int v5), some (.int v6), some (.int v7), some (.int v8), some (.int v9), none, none, none, none, none, none, none, none, none, none] [] (W1 scr s []) out := by
  rw [law_b221] at h
  refine Eval.goto (t := 775) rfl rfl ?_
  exact ev_law_b775 _ hrec s scr v2 v3 v4 v5 v6 v7 v8 v9 h hk
def law_b194 (go_ : Q → List Int32 → Int32 → Int32 → Int32 → Int32 → Int32 → Int32 → Int32 → Int32 → Option ((Q) ⊕ ((Q) ⊕ ((Q) ⊕ ((Q) ⊕ ((Q) ⊕ ((Q) ⊕ ((Q) ⊕ ((Q) ⊕ ((Q) ⊕ ((Q) ⊕ ((Q) ⊕ ((Q) ⊕ ((Q) ⊕ ((Q) ⊕ ((Q) ⊕ ((Q) ⊕ ((Q) ⊕ ((Q) ⊕ ((Q) ⊕ ((Q) ⊕ (Q)))))))))))))))))))))) (s : Q) (scr : List Int32) (v2 v3 : Int32) (v4 v5 : Int32) (v6 v7 : Int32) (v8 v9 : Int32) (v18 v19 : Int32) : Option ((Q) ⊕ ((Q) ⊕ ((Q) ⊕ ((Q) ⊕ ((Q) ⊕ ((Q) ⊕ ((Q) ⊕ ((Q) ⊕ ((Q) ⊕ ((Q) ⊕ ((Q) ⊕ ((Q) ⊕ ((Q) ⊕ ((Q) ⊕ ((Q) ⊕ ((Q) ⊕ ((Q) ⊕ ((Q) ⊕ ((Q) ⊕ ((Q) ⊕ (Q))))))))))))))))))))) := (if v18 = v2 then (if v2 < (4 : Int32) then ((j_faultInfo s v18).bind fun p132 => (if p132 = v19 then (law_b221 (go_) s scr (v2 + (1 : Int32)) v3 v4 v5 v6 v7 v8 v9) else some (.inr (.inl (s))))) else some (.inr (.inl (s)))) else some (.inr (.inl (s))))
set_option maxRecDepth 100000 in
theorem ev_law_b194 (go_ : Q → List Int32 → Int32 → Int32 → Int32 → Int32 → Int32 → Int32 → Int32 → Int32 → Option ((Q) ⊕ ((Q) ⊕ ((Q) ⊕ ((Q) ⊕ ((Q) ⊕ ((Q) ⊕ ((Q) ⊕ ((Q) ⊕ ((Q) ⊕ ((Q) ⊕ ((Q) ⊕ ((Q) ⊕ ((Q) ⊕ ((Q) ⊕ ((Q) ⊕ ((Q) ⊕ ((Q) ⊕ ((Q) ⊕ ((Q) ⊕ ((Q) ⊕ (Q)))))))))))))))))))))) (hrec : ∀ (s : Q) (scr : List Int32) (v2 v3 : Int32) (v4 v5 : Int32) (v6 v7 : Int32) (v8 v9 : Int32) {res : (Q) ⊕ ((Q) ⊕ ((Q) ⊕ ((Q) ⊕ ((Q) ⊕ ((Q) ⊕ ((Q) ⊕ ((Q) ⊕ ((Q) ⊕ ((Q) ⊕ ((Q) ⊕ ((Q) ⊕ ((Q) ⊕ ((Q) ⊕ ((Q) ⊕ ((Q) ⊕ ((Q) ⊕ ((Q) ⊕ ((Q) ⊕ ((Q) ⊕ (Q))))))))))))))))))))} {out : Option Value × AHeap}, go_ s scr v2 v3 v4 v5 v6 v7 v8 v9 = some res → law_l34_K scr res out → Eval own_P 0 34 [some (.ref 0), some (.ref 1), some (.int v2), some (.int v3), some (.int v4), some (.int v5), some (.int v6), some (.int v7), some (.int v8), some (.int v9), none, none, none, none, none, none, none, none, none, none] [] (W1 scr s []) out) (s : Q) (scr : List Int32) (v2 v3 : Int32) (v4 v5 : Int32) (v6 v7 : Int32) (v8 v9 : Int32) (v18 v19 : Int32) {res : (Q) ⊕ ((Q) ⊕ ((Q) ⊕ ((Q) ⊕ ((Q) ⊕ ((Q) ⊕ ((Q) ⊕ ((Q) ⊕ ((Q) ⊕ ((Q) ⊕ ((Q) ⊕ ((Q) ⊕ ((Q) ⊕ ((Q) ⊕ ((Q) ⊕ ((Q) ⊕ ((Q) ⊕ ((Q) ⊕ ((Q) ⊕ ((Q) ⊕ (Q))))))))))))))))))))} {out : Option Value × AHeap} (h : law_b194 go_ s scr v2 v3 v4 v5 v6 v7 v8 v9 v18 v19 = some res) (hk : law_l34_K scr res out) : Eval own_P 0 194 [some (.ref 0), some (.ref 1), some (.int v2), some (.int v3), some (.int v4), some (.int v5), some (.int v6), some (.int v7), some (.int v8), some (.int v9), none, none, none, none, none, none, none, none, some (.int v18), some (.int v19)] [] (W1 scr s []) out := by
  rw [law_b194] at h
  refine Eval.iload rfl rfl ?_
  refine Eval.iload_n rfl rfl ?_
  by_cases hc130 : v18 = v2
  · rw [if_pos hc130] at h
    refine Eval.icmpF rfl (teq hc130).2 ?_
    refine Eval.iload_n rfl rfl ?_
    refine Eval.iconst (x := (4 : Int32)) rfl rfl ?_
    by_cases hc131 : v2 < (4 : Int32)
    · rw [if_pos hc131] at h
      refine Eval.icmpF rfl (tlt hc131).2.1 ?_
      refine Eval.aload_n rfl rfl ?_
      refine Eval.iload rfl rfl ?_
      obtain ⟨p132, hq133, h⟩ := bind_some h
      refine Eval.callI (rest := []) (x := p132) (H1 := (W1 scr s [])) rfl rfl (ev_j_faultInfo [] scr s v18 hq133 rfl) ?_
      refine Eval.iload rfl rfl ?_
      by_cases hc134 : p132 = v19
      · rw [if_pos hc134] at h
        refine Eval.icmpT (t := 218) rfl rfl (teq hc134).1 ?_
        refine Eval.iinc (L' := [some (.ref 0), some (.ref 1), some (.int (v2 + (1 : Int32))), some (.int v3), some (.int v4), some (.int v5), some (.int v6), some (.int v7), some (.int v8), some (.int v9), none, none, none, none, none, none, none, none, some (.int v18), some (.int v19)]) rfl rfl rfl ?_
        refine Eval.weak (lw_mk 1023 _) ?_
        exact ev_law_b221 _ hrec s scr (v2 + (1 : Int32)) v3 v4 v5 v6 v7 v8 v9 h hk
      · rw [if_neg hc134] at h
        refine Eval.icmpF rfl (feq hc134).1 ?_
        cases h
        refine Eval.weak (lw_mk 0 _) ?_
        exact hk
    · rw [if_neg hc131] at h
      refine Eval.icmpT (t := 216) rfl rfl (flt hc131).2.1 ?_
      cases h
      refine Eval.weak (lw_mk 0 _) ?_
      exact hk
  · rw [if_neg hc130] at h
    refine Eval.icmpT (t := 216) rfl rfl (feq hc130).2 ?_
    cases h
    refine Eval.weak (lw_mk 0 _) ?_
    exact hk
def law_b157 (go_ : Q → List Int32 → Int32 → Int32 → Int32 → Int32 → Int32 → Int32 → Int32 → Int32 → Option ((Q) ⊕ ((Q) ⊕ ((Q) ⊕ ((Q) ⊕ ((Q) ⊕ ((Q) ⊕ ((Q) ⊕ ((Q) ⊕ ((Q) ⊕ ((Q) ⊕ ((Q) ⊕ ((Q) ⊕ ((Q) ⊕ ((Q) ⊕ ((Q) ⊕ ((Q) ⊕ ((Q) ⊕ ((Q) ⊕ ((Q) ⊕ ((Q) ⊕ (Q)))))))))))))))))))))) (s : Q) (scr : List Int32) (v2 v3 : Int32) (v4 v5 : Int32) (v6 v7 : Int32) (v8 v9 : Int32) (v14 v15 : Int32) (v16 v17 v18 : Int32) : Option ((Q) ⊕ ((Q) ⊕ ((Q) ⊕ ((Q) ⊕ ((Q) ⊕ ((Q) ⊕ ((Q) ⊕ ((Q) ⊕ ((Q) ⊕ ((Q) ⊕ ((Q) ⊕ ((Q) ⊕ ((Q) ⊕ ((Q) ⊕ ((Q) ⊕ ((Q) ⊕ ((Q) ⊕ ((Q) ⊕ ((Q) ⊕ ((Q) ⊕ (Q))))))))))))))))))))) := (if v18 < (0 : Int32) then (law_b221 (go_) s scr v2 v3 v4 v5 v6 v7 v8 v9) else (law_b194 (go_) s scr v2 v3 v4 v5 v6 v7 v8 v9 v18 (if v14 = (6 : Int32) then (((v14 ||| (ish v15 (4 : Int32))) ||| (ish v16 (12 : Int32))) ||| (ish v17 (20 : Int32))) else (v14 ||| (ish v15 (4 : Int32))))))
set_option maxRecDepth 100000 in
theorem ev_law_b157 (go_ : Q → List Int32 → Int32 → Int32 → Int32 → Int32 → Int32 → Int32 → Int32 → Int32 → Option ((Q) ⊕ ((Q) ⊕ ((Q) ⊕ ((Q) ⊕ ((Q) ⊕ ((Q) ⊕ ((Q) ⊕ ((Q) ⊕ ((Q) ⊕ ((Q) ⊕ ((Q) ⊕ ((Q) ⊕ ((Q) ⊕ ((Q) ⊕ ((Q) ⊕ ((Q) ⊕ ((Q) ⊕ ((Q) ⊕ ((Q) ⊕ ((Q) ⊕ (Q)))))))))))))))))))))) (hrec : ∀ (s : Q) (scr : List Int32) (v2 v3 : Int32) (v4 v5 : Int32) (v6 v7 : Int32) (v8 v9 : Int32) {res : (Q) ⊕ ((Q) ⊕ ((Q) ⊕ ((Q) ⊕ ((Q) ⊕ ((Q) ⊕ ((Q) ⊕ ((Q) ⊕ ((Q) ⊕ ((Q) ⊕ ((Q) ⊕ ((Q) ⊕ ((Q) ⊕ ((Q) ⊕ ((Q) ⊕ ((Q) ⊕ ((Q) ⊕ ((Q) ⊕ ((Q) ⊕ ((Q) ⊕ (Q))))))))))))))))))))} {out : Option Value × AHeap}, go_ s scr v2 v3 v4 v5 v6 v7 v8 v9 = some res → law_l34_K scr res out → Eval own_P 0 34 [some (.ref 0), some (.ref 1), some (.int v2), some (.int v3), some (.int v4), some (.int v5), some (.int v6), some (.int v7), some (.int v8), some (.int v9), none, none, none, none, none, none, none, none, none, none] [] (W1 scr s []) out) (s : Q) (scr : List Int32) (v2 v3 : Int32) (v4 v5 : Int32) (v6 v7 : Int32) (v8 v9 : Int32) (v14 v15 : Int32) (v16 v17 v18 : Int32) {res : (Q) ⊕ ((Q) ⊕ ((Q) ⊕ ((Q) ⊕ ((Q) ⊕ ((Q) ⊕ ((Q) ⊕ ((Q) ⊕ ((Q) ⊕ ((Q) ⊕ ((Q) ⊕ ((Q) ⊕ ((Q) ⊕ ((Q) ⊕ ((Q) ⊕ ((Q) ⊕ ((Q) ⊕ ((Q) ⊕ ((Q) ⊕ ((Q) ⊕ (Q))))))))))))))))))))} {out : Option Value × AHeap} (h : law_b157 go_ s scr v2 v3 v4 v5 v6 v7 v8 v9 v14 v15 v16 v17 v18 = some res) (hk : law_l34_K scr res out) : Eval own_P 0 157 [some (.ref 0), some (.ref 1), some (.int v2), some (.int v3), some (.int v4), some (.int v5), some (.int v6), some (.int v7), some (.int v8), some (.int v9), none, none, none, none, some (.int v14), some (.int v15), some (.int v16), some (.int v17), some (.int v18), none] [] (W1 scr s []) out := by
  rw [law_b157] at h
  refine Eval.iload rfl rfl ?_
  by_cases hc73 : v18 < (0 : Int32)
  · rw [if_pos hc73] at h
    refine Eval.ifT (t := 221) rfl rfl (tlt hc73).1 ?_
    refine Eval.weak (lw_mk 1023 _) ?_
    exact ev_law_b221 _ hrec s scr v2 v3 v4 v5 v6 v7 v8 v9 h hk
  · rw [if_neg hc73] at h
    refine Eval.ifF rfl (flt hc73).1 ?_
    refine Eval.iload rfl rfl ?_
    refine Eval.iload rfl rfl ?_
    refine Eval.iconst (x := (4 : Int32)) rfl rfl ?_
    refine Eval.ishl rfl ?_
    refine Eval.ior rfl ?_
    refine Eval.istore (L' := [some (.ref 0), some (.ref 1), some (.int v2), some (.int v3), some (.int v4), some (.int v5), some (.int v6), some (.int v7), some (.int v8), some (.int v9), none, none, none, none, some (.int v14), some (.int v15), some (.int v16), some (.int v17), some (.int v18), some (.int (v14 ||| (ish v15 (4 : Int32))))]) rfl rfl ?_
    refine Eval.iload rfl rfl ?_
    refine Eval.bipush (x := (6 : Int32)) rfl rfl ?_
    suffices hJ129 : Eval own_P 0 194 [some (.ref 0), some (.ref 1), some (.int v2), some (.int v3), some (.int v4), some (.int v5), some (.int v6), some (.int v7), some (.int v8), some (.int v9), none, none, none, none, none, none, none, none, some (.int v18), some (.int (if v14 = (6 : Int32) then (((v14 ||| (ish v15 (4 : Int32))) ||| (ish v16 (12 : Int32))) ||| (ish v17 (20 : Int32))) else (v14 ||| (ish v15 (4 : Int32)))))] [] (W1 scr s []) out by
      by_cases hc128 : v14 = (6 : Int32)
      · refine Eval.icmpF rfl (teq hc128).2 ?_
        refine Eval.iload rfl rfl ?_
        refine Eval.iload rfl rfl ?_
        refine Eval.bipush (x := (12 : Int32)) rfl rfl ?_
        refine Eval.ishl rfl ?_
        refine Eval.ior rfl ?_
        refine Eval.iload rfl rfl ?_
        refine Eval.bipush (x := (20 : Int32)) rfl rfl ?_
        refine Eval.ishl rfl ?_
        refine Eval.ior rfl ?_
        refine Eval.istore (L' := [some (.ref 0), some (.ref 1), some (.int v2), some (.int v3), some (.int v4), some (.int v5), some (.int v6), some (.int v7), some (.int v8), some (.int v9), none, none, none, none, some (.int v14), some (.int v15), some (.int v16), some (.int v17), some (.int v18), some (.int (((v14 ||| (ish v15 (4 : Int32))) ||| (ish v16 (12 : Int32))) ||| (ish v17 (20 : Int32))))]) rfl rfl ?_
        refine Eval.weak (lw_mk 787455 _) ?_
        exact (Eval.conv hJ129 (by simp only [if_pos hc128] <;> rfl) rfl)
      · refine Eval.icmpT (t := 194) rfl rfl (feq hc128).2 ?_
        refine Eval.weak (lw_mk 787455 _) ?_
        exact (Eval.conv hJ129 (by simp only [if_neg hc128] <;> rfl) rfl)
    exact ev_law_b194 _ hrec s scr v2 v3 v4 v5 v6 v7 v8 v9 v18 (if v14 = (6 : Int32) then (((v14 ||| (ish v15 (4 : Int32))) ||| (ish v16 (12 : Int32))) ||| (ish v17 (20 : Int32))) else (v14 ||| (ish v15 (4 : Int32)))) h hk
def law_b148 (go_ : Q → List Int32 → Int32 → Int32 → Int32 → Int32 → Int32 → Int32 → Int32 → Int32 → Option ((Q) ⊕ ((Q) ⊕ ((Q) ⊕ ((Q) ⊕ ((Q) ⊕ ((Q) ⊕ ((Q) ⊕ ((Q) ⊕ ((Q) ⊕ ((Q) ⊕ ((Q) ⊕ ((Q) ⊕ ((Q) ⊕ ((Q) ⊕ ((Q) ⊕ ((Q) ⊕ ((Q) ⊕ ((Q) ⊕ ((Q) ⊕ ((Q) ⊕ (Q)))))))))))))))))))))) (s : Q) (scr : List Int32) (v2 v3 : Int32) (v4 v5 : Int32) (v6 v7 : Int32) (v8 v9 : Int32) (v14 v15 : Int32) (v16 v17 v18 : Int32) : Option ((Q) ⊕ ((Q) ⊕ ((Q) ⊕ ((Q) ⊕ ((Q) ⊕ ((Q) ⊕ ((Q) ⊕ ((Q) ⊕ ((Q) ⊕ ((Q) ⊕ ((Q) ⊕ ((Q) ⊕ ((Q) ⊕ ((Q) ⊕ ((Q) ⊕ ((Q) ⊕ ((Q) ⊕ ((Q) ⊕ ((Q) ⊕ ((Q) ⊕ (Q))))))))))))))))))))) := (if v18 = (-3 : Int32) then (law_b157 (go_) s scr v2 v3 v4 v5 v6 v7 v8 v9 v14 v15 v16 v17 v18) else some (.inl (s)))
set_option maxRecDepth 100000 in
theorem ev_law_b148 (go_ : Q → List Int32 → Int32 → Int32 → Int32 → Int32 → Int32 → Int32 → Int32 → Int32 → Option ((Q) ⊕ ((Q) ⊕ ((Q) ⊕ ((Q) ⊕ ((Q) ⊕ ((Q) ⊕ ((Q) ⊕ ((Q) ⊕ ((Q) ⊕ ((Q) ⊕ ((Q) ⊕ ((Q) ⊕ ((Q) ⊕ ((Q) ⊕ ((Q) ⊕ ((Q) ⊕ ((Q) ⊕ ((Q) ⊕ ((Q) ⊕ ((Q) ⊕ (Q)))))))))))))))))))))) (hrec : ∀ (s : Q) (scr : List Int32) (v2 v3 : Int32) (v4 v5 : Int32) (v6 v7 : Int32) (v8 v9 : Int32) {res : (Q) ⊕ ((Q) ⊕ ((Q) ⊕ ((Q) ⊕ ((Q) ⊕ ((Q) ⊕ ((Q) ⊕ ((Q) ⊕ ((Q) ⊕ ((Q) ⊕ ((Q) ⊕ ((Q) ⊕ ((Q) ⊕ ((Q) ⊕ ((Q) ⊕ ((Q) ⊕ ((Q) ⊕ ((Q) ⊕ ((Q) ⊕ ((Q) ⊕ (Q))))))))))))))))))))} {out : Option Value × AHeap}, go_ s scr v2 v3 v4 v5 v6 v7 v8 v9 = some res → law_l34_K scr res out → Eval own_P 0 34 [some (.ref 0), some (.ref 1), some (.int v2), some (.int v3), some (.int v4), some (.int v5), some (.int v6), some (.int v7), some (.int v8), some (.int v9), none, none, none, none, none, none, none, none, none, none] [] (W1 scr s []) out) (s : Q) (scr : List Int32) (v2 v3 : Int32) (v4 v5 : Int32) (v6 v7 : Int32) (v8 v9 : Int32) (v14 v15 : Int32) (v16 v17 v18 : Int32) {res : (Q) ⊕ ((Q) ⊕ ((Q) ⊕ ((Q) ⊕ ((Q) ⊕ ((Q) ⊕ ((Q) ⊕ ((Q) ⊕ ((Q) ⊕ ((Q) ⊕ ((Q) ⊕ ((Q) ⊕ ((Q) ⊕ ((Q) ⊕ ((Q) ⊕ ((Q) ⊕ ((Q) ⊕ ((Q) ⊕ ((Q) ⊕ ((Q) ⊕ (Q))))))))))))))))))))} {out : Option Value × AHeap} (h : law_b148 go_ s scr v2 v3 v4 v5 v6 v7 v8 v9 v14 v15 v16 v17 v18 = some res) (hk : law_l34_K scr res out) : Eval own_P 0 148 [some (.ref 0), some (.ref 1), some (.int v2), some (.int v3), some (.int v4), some (.int v5), some (.int v6), some (.int v7), some (.int v8), some (.int v9), none, none, none, none, some (.int v14), some (.int v15), some (.int v16), some (.int v17), some (.int v18), none] [] (W1 scr s []) out := by
  rw [law_b148] at h
  refine Eval.iload rfl rfl ?_
  refine Eval.bipush (x := (-3 : Int32)) rfl rfl ?_
  by_cases hc72 : v18 = (-3 : Int32)
  · rw [if_pos hc72] at h
    refine Eval.icmpT (t := 157) rfl rfl (teq hc72).1 ?_
    exact ev_law_b157 _ hrec s scr v2 v3 v4 v5 v6 v7 v8 v9 v14 v15 v16 v17 v18 h hk
  · rw [if_neg hc72] at h
    refine Eval.icmpF rfl (feq hc72).1 ?_
    cases h
    refine Eval.weak (lw_mk 0 _) ?_
    exact hk
abbrev j_clearFaults_l2_K (R : AHeap) (scr : List Int32) (res : Q) (out : Option Value × AHeap) : Prop := Eval own_P 18 29 [some (.ref 1), none] [] (W1 scr res R) out

abbrev j_clearFaults_l2_N (s res : Q) : Prop := Q.len res = Q.len s
def j_clearFaults_l2 : Nat → Q → Int32 → Option (Q)
  | 0, _, _ => none
  | n + 1, s, v1 => (if v1 < (256 : Int32) then (if inb s.f_victimSlot.length v1 = true then (if inb s.f_aggressorUses.length v1 = true then (j_clearFaults_l2 n (Q.mk s.f_cells s.f_faultKind s.f_faultVictim s.f_faultAggressor s.f_faultTrigger (wr s.f_victimSlot v1 (0 : Int32)) (wr s.f_aggressorUses v1 (0 : Int32)) s.f_elementOrder s.f_elementCount s.f_elementOps s.f_logBuffer s.f_remap s.f_spareTaken s.f_spareRows s.f_faultLimit s.f_logLimit s.f_latchBit s.f_faultCount s.f_programLength s.f_logLength s.f_failMask) (v1 + (1 : Int32))) else none) else none) else some (s))
set_option maxRecDepth 100000 in
theorem ev_j_clearFaults_l2 (R : AHeap) (scr : List Int32) : ∀ (n : Nat) (s : Q) (v1 : Int32) {res : Q} {out : Option Value × AHeap}, j_clearFaults_l2 n s v1 = some res → j_clearFaults_l2_K R scr res out → Eval own_P 18 2 [some (.ref 1), some (.int v1)] [] (W1 scr s R) out := by
  intro n
  induction n with
  | zero => intro _ _ res out h hk; cases h
  | succ n hrec =>
    intro s v1 res out h hk
    rw [j_clearFaults_l2] at h
    refine Eval.iload_n rfl rfl ?_
    refine Eval.sipush (x := (256 : Int32)) rfl rfl ?_
    by_cases hc137 : v1 < (256 : Int32)
    · rw [if_pos hc137] at h
      refine Eval.icmpF rfl (tlt hc137).2.1 ?_
      refine Eval.aload_n rfl rfl ?_
      refine Eval.getfield rfl rfl own_g1_victimSlot ?_
      refine Eval.iload_n rfl rfl ?_
      refine Eval.iconst (x := (0 : Int32)) rfl rfl ?_
      obtain ⟨hb138, h⟩ := ite_some h
      refine Eval.iastore rfl rfl own_a1_victimSlot hb138 own_s1_victimSlot ?_
      refine Eval.aload_n rfl rfl ?_
      refine Eval.getfield rfl rfl own_g1_aggressorUses ?_
      refine Eval.iload_n rfl rfl ?_
      refine Eval.iconst (x := (0 : Int32)) rfl rfl ?_
      obtain ⟨hb139, h⟩ := ite_some h
      refine Eval.iastore rfl rfl own_a1_aggressorUses hb139 own_s1_aggressorUses ?_
      refine Eval.iinc (L' := [some (.ref 1), some (.int (v1 + (1 : Int32)))]) rfl rfl rfl ?_
      refine Eval.goto (t := 2) rfl rfl ?_
      refine Eval.heap own_mk1 ?_
      exact hrec _ _ h hk
    · rw [if_neg hc137] at h
      refine Eval.icmpT (t := 29) rfl rfl (flt hc137).2.1 ?_
      cases h
      refine Eval.weak (lw_mk 1 _) ?_
      exact hk
abbrev j_clearFaults_l31_K (R : AHeap) (scr : List Int32) (res : Q) (out : Option Value × AHeap) : Prop := Eval own_P 18 71 [some (.ref 1), none] [] (W1 scr res R) out

abbrev j_clearFaults_l31_N (s res : Q) : Prop := Q.len res = Q.len s
def j_clearFaults_l31 : Nat → Q → Int32 → Option (Q)
  | 0, _, _ => none
  | n + 1, s, v1 => (if v1 < (16 : Int32) then (if inb s.f_faultKind.length v1 = true then (if inb s.f_faultVictim.length v1 = true then (if inb s.f_faultAggressor.length v1 = true then (if inb s.f_faultTrigger.length v1 = true then (j_clearFaults_l31 n (Q.mk s.f_cells (wr s.f_faultKind v1 (0 : Int32)) (wr s.f_faultVictim v1 (0 : Int32)) (wr s.f_faultAggressor v1 (0 : Int32)) (wr s.f_faultTrigger v1 (0 : Int32)) s.f_victimSlot s.f_aggressorUses s.f_elementOrder s.f_elementCount s.f_elementOps s.f_logBuffer s.f_remap s.f_spareTaken s.f_spareRows s.f_faultLimit s.f_logLimit s.f_latchBit s.f_faultCount s.f_programLength s.f_logLength s.f_failMask) (v1 + (1 : Int32))) else none) else none) else none) else none) else some (s))
set_option maxRecDepth 100000 in
theorem ev_j_clearFaults_l31 (R : AHeap) (scr : List Int32) : ∀ (n : Nat) (s : Q) (v1 : Int32) {res : Q} {out : Option Value × AHeap}, j_clearFaults_l31 n s v1 = some res → j_clearFaults_l31_K R scr res out → Eval own_P 18 31 [some (.ref 1), some (.int v1)] [] (W1 scr s R) out := by
  intro n
  induction n with
  | zero => intro _ _ res out h hk; cases h
  | succ n hrec =>
    intro s v1 res out h hk
    rw [j_clearFaults_l31] at h
    refine Eval.iload_n rfl rfl ?_
    refine Eval.bipush (x := (16 : Int32)) rfl rfl ?_
    by_cases hc143 : v1 < (16 : Int32)
    · rw [if_pos hc143] at h
      refine Eval.icmpF rfl (tlt hc143).2.1 ?_
      refine Eval.aload_n rfl rfl ?_
      refine Eval.getfield rfl rfl own_g1_faultKind ?_
      refine Eval.iload_n rfl rfl ?_
      refine Eval.iconst (x := (0 : Int32)) rfl rfl ?_
      obtain ⟨hb144, h⟩ := ite_some h
      refine Eval.iastore rfl rfl own_a1_faultKind hb144 own_s1_faultKind ?_
      refine Eval.aload_n rfl rfl ?_
      refine Eval.getfield rfl rfl own_g1_faultVictim ?_
      refine Eval.iload_n rfl rfl ?_
      refine Eval.iconst (x := (0 : Int32)) rfl rfl ?_
      obtain ⟨hb145, h⟩ := ite_some h
      refine Eval.iastore rfl rfl own_a1_faultVictim hb145 own_s1_faultVictim ?_
      refine Eval.aload_n rfl rfl ?_
      refine Eval.getfield rfl rfl own_g1_faultAggressor ?_
      refine Eval.iload_n rfl rfl ?_
      refine Eval.iconst (x := (0 : Int32)) rfl rfl ?_
      obtain ⟨hb146, h⟩ := ite_some h
      refine Eval.iastore rfl rfl own_a1_faultAggressor hb146 own_s1_faultAggressor ?_
      refine Eval.aload_n rfl rfl ?_
      refine Eval.getfield rfl rfl own_g1_faultTrigger ?_
      refine Eval.iload_n rfl rfl ?_
      refine Eval.iconst (x := (0 : Int32)) rfl rfl ?_
      obtain ⟨hb147, h⟩ := ite_some h
      refine Eval.iastore rfl rfl own_a1_faultTrigger hb147 own_s1_faultTrigger ?_
      refine Eval.iinc (L' := [some (.ref 1), some (.int (v1 + (1 : Int32)))]) rfl rfl rfl ?_
      refine Eval.goto (t := 31) rfl rfl ?_
      refine Eval.heap own_mk1 ?_
      exact hrec _ _ h hk
    · rw [if_neg hc143] at h
      refine Eval.icmpT (t := 71) rfl rfl (flt hc143).2.1 ?_
      cases h
      refine Eval.weak (lw_mk 1 _) ?_
      exact hk
def j_clearFaults (s : Q) : Option (Q) := ((j_clearFaults_l2 3000 s (0 : Int32)).bind fun p140 => ((j_clearFaults_l31 3000 p140 (0 : Int32)).bind fun p148 => some ((Q.mk p148.f_cells p148.f_faultKind p148.f_faultVictim p148.f_faultAggressor p148.f_faultTrigger p148.f_victimSlot p148.f_aggressorUses p148.f_elementOrder p148.f_elementCount p148.f_elementOps p148.f_logBuffer p148.f_remap p148.f_spareTaken p148.f_spareRows p148.f_faultLimit p148.f_logLimit p148.f_latchBit (0 : Int32) p148.f_programLength p148.f_logLength p148.f_failMask))))
set_option maxRecDepth 100000 in
theorem ev_j_clearFaults (R : AHeap) (scr : List Int32) (s : Q) {res : Q} {out : Option Value × AHeap} (h : j_clearFaults s = some res) (hk : out = (none, (W1 scr res R))) : Eval own_P 18 0 [some (.ref 1), none] [] (W1 scr s R) out := by
  rw [j_clearFaults] at h
  refine Eval.iconst (x := (0 : Int32)) rfl rfl ?_
  refine Eval.istore_n (L' := [some (.ref 1), some (.int (0 : Int32))]) rfl rfl ?_
  obtain ⟨p140, hq141, h⟩ := bind_some h
  refine ev_j_clearFaults_l2 R scr _ s (0 : Int32) hq141 ?_
  show Eval own_P 18 29 [some (.ref 1), none] [] (W1 scr p140 R) out
  refine Eval.iconst (x := (0 : Int32)) rfl rfl ?_
  refine Eval.istore_n (L' := [some (.ref 1), some (.int (0 : Int32))]) rfl rfl ?_
  obtain ⟨p148, hq149, h⟩ := bind_some h
  refine ev_j_clearFaults_l31 R scr _ p140 (0 : Int32) hq149 ?_
  show Eval own_P 18 71 [some (.ref 1), none] [] (W1 scr p148 R) out
  refine Eval.aload_n rfl rfl ?_
  refine Eval.iconst (x := (0 : Int32)) rfl rfl ?_
  refine Eval.putfield rfl rfl own_p1_faultCount ?_
  cases h
  subst hk
  exact Eval.retH own_mk1 rfl rfl
def j_isOrder_b9 : Int32 := ((1 : Int32))
set_option maxRecDepth 100000 in
theorem ev_j_isOrder_b9 (H : AHeap) (a : Nat) {res : Int32} {out : Option Value × AHeap} (h : j_isOrder_b9 = res) (hk : out = (some (.int res), H)) : Eval own_P 29 9 [none, none] [] H out := by
  rw [j_isOrder_b9] at h
  refine Eval.iconst (x := (1 : Int32)) rfl rfl ?_
  refine Eval.goto (t := 14) rfl rfl ?_
  subst h
  subst hk
  exact Eval.ret rfl rfl
def j_isOrder (v1 : Int32) : Int32 := (if v1 = (0 : Int32) then (j_isOrder_b9) else (if v1 = (1 : Int32) then (j_isOrder_b9) else ((0 : Int32))))
set_option maxRecDepth 100000 in
theorem ev_j_isOrder (H : AHeap) (a : Nat) (v1 : Int32) {res : Int32} {out : Option Value × AHeap} (h : j_isOrder v1 = res) (hk : out = (some (.int res), H)) : Eval own_P 29 0 [some (.ref a), some (.int v1)] [] H out := by
  rw [j_isOrder] at h
  refine Eval.iload_n rfl rfl ?_
  by_cases hc156 : v1 = (0 : Int32)
  · rw [if_pos hc156] at h
    refine Eval.ifT (t := 9) rfl rfl (teq hc156).1 ?_
    refine Eval.weak (lw_mk 0 _) ?_
    exact ev_j_isOrder_b9 H a h hk
  · rw [if_neg hc156] at h
    refine Eval.ifF rfl (feq hc156).1 ?_
    refine Eval.iload_n rfl rfl ?_
    refine Eval.iconst (x := (1 : Int32)) rfl rfl ?_
    by_cases hc157 : v1 = (1 : Int32)
    · rw [if_pos hc157] at h
      refine Eval.icmpF rfl (teq hc157).2 ?_
      refine Eval.weak (lw_mk 0 _) ?_
      exact ev_j_isOrder_b9 H a h hk
    · rw [if_neg hc157] at h
      refine Eval.icmpT (t := 13) rfl rfl (feq hc157).2 ?_
      refine Eval.iconst (x := (0 : Int32)) rfl rfl ?_
      subst h
      subst hk
      exact Eval.ret rfl rfl
def j_opsMask (v1 : Int32) : Int32 := (if v1 < (1 : Int32) then ((0 : Int32)) else (if (4 : Int32) < v1 then ((255 : Int32)) else (((ish (1 : Int32) ((2 : Int32) * v1)) - (1 : Int32)))))
set_option maxRecDepth 100000 in
theorem ev_j_opsMask (H : AHeap) (a : Nat) (v1 : Int32) {res : Int32} {out : Option Value × AHeap} (h : j_opsMask v1 = res) (hk : out = (some (.int res), H)) : Eval own_P 8 0 [some (.ref a), some (.int v1)] [] H out := by
  rw [j_opsMask] at h
  refine Eval.iload_n rfl rfl ?_
  refine Eval.iconst (x := (1 : Int32)) rfl rfl ?_
  by_cases hc166 : v1 < (1 : Int32)
  · rw [if_pos hc166] at h
    refine Eval.icmpF rfl (tlt hc166).2.1 ?_
    refine Eval.iconst (x := (0 : Int32)) rfl rfl ?_
    subst h
    subst hk
    exact Eval.ret rfl rfl
  · rw [if_neg hc166] at h
    refine Eval.icmpT (t := 7) rfl rfl (flt hc166).2.1 ?_
    refine Eval.iload_n rfl rfl ?_
    refine Eval.iconst (x := (4 : Int32)) rfl rfl ?_
    by_cases hc167 : (4 : Int32) < v1
    · rw [if_pos hc167] at h
      refine Eval.icmpF rfl (tlt hc167).2.2.2 ?_
      refine Eval.sipush (x := (255 : Int32)) rfl rfl ?_
      subst h
      subst hk
      exact Eval.ret rfl rfl
    · rw [if_neg hc167] at h
      refine Eval.icmpT (t := 16) rfl rfl (flt hc167).2.2.2 ?_
      refine Eval.iconst (x := (1 : Int32)) rfl rfl ?_
      refine Eval.iconst (x := (2 : Int32)) rfl rfl ?_
      refine Eval.iload_n rfl rfl ?_
      refine Eval.imul rfl ?_
      refine Eval.ishl rfl ?_
      refine Eval.iconst (x := (1 : Int32)) rfl rfl ?_
      refine Eval.isub rfl ?_
      subst h
      subst hk
      exact Eval.ret rfl rfl
def j_appendElement (s : Q) (v1 v2 v3 : Int32) : Option (Int32 × Q) := (if s.f_programLength < (0 : Int32) then some ((-6 : Int32), s) else (if s.f_programLength < (8 : Int32) then (if inb s.f_elementOrder.length s.f_programLength = true then (if inb s.f_elementCount.length s.f_programLength = true then (if inb s.f_elementOps.length s.f_programLength = true then some (s.f_programLength, (Q.mk s.f_cells s.f_faultKind s.f_faultVictim s.f_faultAggressor s.f_faultTrigger s.f_victimSlot s.f_aggressorUses (wr s.f_elementOrder s.f_programLength v1) (wr s.f_elementCount s.f_programLength v2) (wr s.f_elementOps s.f_programLength (v3 &&& (j_opsMask v2))) s.f_logBuffer s.f_remap s.f_spareTaken s.f_spareRows s.f_faultLimit s.f_logLimit s.f_latchBit s.f_faultCount (s.f_programLength + (1 : Int32)) s.f_logLength s.f_failMask)) else none) else none) else none) else some ((-6 : Int32), s)))
set_option maxRecDepth 100000 in
theorem ev_j_appendElement (R : AHeap) (scr : List Int32) (s : Q) (v1 v2 v3 : Int32) {res : Int32 × Q} {out : Option Value × AHeap} (h : j_appendElement s v1 v2 v3 = some res) (hk : out = (some (.int res.1), (W1 scr res.2 R))) : Eval own_P 7 0 [some (.ref 1), some (.int v1), some (.int v2), some (.int v3), none] [] (W1 scr s R) out := by
  rw [j_appendElement] at h
  refine Eval.aload_n rfl rfl ?_
  refine Eval.getfield rfl rfl own_g1_programLength ?_
  refine Eval.istore (L' := [some (.ref 1), some (.int v1), some (.int v2), some (.int v3), some (.int s.f_programLength)]) rfl rfl ?_
  refine Eval.iload rfl rfl ?_
  by_cases hc162 : s.f_programLength < (0 : Int32)
  · rw [if_pos hc162] at h
    refine Eval.ifT (t := 18) rfl rfl (tlt hc162).1 ?_
    refine Eval.bipush (x := (-6 : Int32)) rfl rfl ?_
    cases h
    subst hk
    exact Eval.ret rfl rfl
  · rw [if_neg hc162] at h
    refine Eval.ifF rfl (flt hc162).1 ?_
    refine Eval.iload rfl rfl ?_
    refine Eval.bipush (x := (8 : Int32)) rfl rfl ?_
    by_cases hc163 : s.f_programLength < (8 : Int32)
    · rw [if_pos hc163] at h
      refine Eval.icmpT (t := 21) rfl rfl (tlt hc163).1 ?_
      refine Eval.aload_n rfl rfl ?_
      refine Eval.getfield rfl rfl own_g1_elementOrder ?_
      refine Eval.iload rfl rfl ?_
      refine Eval.iload_n rfl rfl ?_
      obtain ⟨hb164, h⟩ := ite_some h
      refine Eval.iastore rfl rfl own_a1_elementOrder hb164 own_s1_elementOrder ?_
      refine Eval.aload_n rfl rfl ?_
      refine Eval.getfield rfl rfl own_g1_elementCount ?_
      refine Eval.iload rfl rfl ?_
      refine Eval.iload_n rfl rfl ?_
      obtain ⟨hb165, h⟩ := ite_some h
      refine Eval.iastore rfl rfl own_a1_elementCount hb165 own_s1_elementCount ?_
      refine Eval.aload_n rfl rfl ?_
      refine Eval.getfield rfl rfl own_g1_elementOps ?_
      refine Eval.iload rfl rfl ?_
      refine Eval.iload_n rfl rfl ?_
      refine Eval.aload_n rfl rfl ?_
      refine Eval.iload_n rfl rfl ?_
      refine Eval.callI (rest := [.int v3, .int s.f_programLength, .ref 11]) (x := (j_opsMask v2)) (H1 := (C1 scr s.f_cells s.f_faultKind s.f_faultVictim s.f_faultAggressor s.f_faultTrigger s.f_victimSlot s.f_aggressorUses (wr s.f_elementOrder s.f_programLength v1) (wr s.f_elementCount s.f_programLength v2) s.f_elementOps s.f_logBuffer s.f_remap s.f_spareTaken s.f_spareRows s.f_faultLimit s.f_logLimit s.f_latchBit s.f_faultCount s.f_programLength s.f_logLength s.f_failMask R)) rfl rfl (ev_j_opsMask (C1 scr s.f_cells s.f_faultKind s.f_faultVictim s.f_faultAggressor s.f_faultTrigger s.f_victimSlot s.f_aggressorUses (wr s.f_elementOrder s.f_programLength v1) (wr s.f_elementCount s.f_programLength v2) s.f_elementOps s.f_logBuffer s.f_remap s.f_spareTaken s.f_spareRows s.f_faultLimit s.f_logLimit s.f_latchBit s.f_faultCount s.f_programLength s.f_logLength s.f_failMask R) 1 v2 rfl rfl) ?_
      refine Eval.iand rfl ?_
      obtain ⟨hb168, h⟩ := ite_some h
      refine Eval.iastore rfl rfl own_a1_elementOps hb168 own_s1_elementOps ?_
      refine Eval.aload_n rfl rfl ?_
      refine Eval.iload rfl rfl ?_
      refine Eval.iconst (x := (1 : Int32)) rfl rfl ?_
      refine Eval.iadd rfl ?_
      refine Eval.putfield rfl rfl own_p1_programLength ?_
      refine Eval.iload rfl rfl ?_
      cases h
      subst hk
      exact Eval.retH own_mk1 rfl rfl
    · rw [if_neg hc163] at h
      refine Eval.icmpF rfl (flt hc163).1 ?_
      refine Eval.bipush (x := (-6 : Int32)) rfl rfl ?_
      cases h
      subst hk
      exact Eval.ret rfl rfl
def j_addElement (s : Q) (v1 v2 v3 : Int32) : Option (Int32 × Q) := (if (j_isOrder v1) = (0 : Int32) then some ((-8 : Int32), s) else (if v2 < (1 : Int32) then some ((-9 : Int32), s) else (if (4 : Int32) < v2 then some ((-9 : Int32), s) else (if s.f_programLength < (8 : Int32) then ((j_appendElement s v1 v2 v3).bind fun p169 => some (p169.1, p169.2)) else some ((-6 : Int32), s)))))
set_option maxRecDepth 100000 in
theorem ev_j_addElement (R : AHeap) (scr : List Int32) (s : Q) (v1 v2 v3 : Int32) {res : Int32 × Q} {out : Option Value × AHeap} (h : j_addElement s v1 v2 v3 = some res) (hk : out = (some (.int res.1), (W1 scr res.2 R))) : Eval own_P 28 0 [some (.ref 1), some (.int v1), some (.int v2), some (.int v3)] [] (W1 scr s R) out := by
  rw [j_addElement] at h
  refine Eval.aload_n rfl rfl ?_
  refine Eval.iload_n rfl rfl ?_
  refine Eval.callI (rest := []) (x := (j_isOrder v1)) (H1 := (W1 scr s R)) rfl rfl (ev_j_isOrder (W1 scr s R) 1 v1 rfl rfl) ?_
  by_cases hc158 : (j_isOrder v1) = (0 : Int32)
  · rw [if_pos hc158] at h
    refine Eval.ifF rfl (teq hc158).2 ?_
    refine Eval.bipush (x := (-8 : Int32)) rfl rfl ?_
    cases h
    subst hk
    exact Eval.ret rfl rfl
  · rw [if_neg hc158] at h
    refine Eval.ifT (t := 11) rfl rfl (feq hc158).2 ?_
    refine Eval.iload_n rfl rfl ?_
    refine Eval.iconst (x := (1 : Int32)) rfl rfl ?_
    by_cases hc159 : v2 < (1 : Int32)
    · rw [if_pos hc159] at h
      refine Eval.icmpT (t := 21) rfl rfl (tlt hc159).1 ?_
      refine Eval.bipush (x := (-9 : Int32)) rfl rfl ?_
      cases h
      subst hk
      exact Eval.ret rfl rfl
    · rw [if_neg hc159] at h
      refine Eval.icmpF rfl (flt hc159).1 ?_
      refine Eval.iload_n rfl rfl ?_
      refine Eval.iconst (x := (4 : Int32)) rfl rfl ?_
      by_cases hc160 : (4 : Int32) < v2
      · rw [if_pos hc160] at h
        refine Eval.icmpF rfl (tlt hc160).2.2.2 ?_
        refine Eval.bipush (x := (-9 : Int32)) rfl rfl ?_
        cases h
        subst hk
        exact Eval.ret rfl rfl
      · rw [if_neg hc160] at h
        refine Eval.icmpT (t := 24) rfl rfl (flt hc160).2.2.2 ?_
        refine Eval.aload_n rfl rfl ?_
        refine Eval.getfield rfl rfl own_g1_programLength ?_
        refine Eval.bipush (x := (8 : Int32)) rfl rfl ?_
        by_cases hc161 : s.f_programLength < (8 : Int32)
        · rw [if_pos hc161] at h
          refine Eval.icmpT (t := 36) rfl rfl (tlt hc161).1 ?_
          refine Eval.aload_n rfl rfl ?_
          refine Eval.iload_n rfl rfl ?_
          refine Eval.iload_n rfl rfl ?_
          refine Eval.iload_n rfl rfl ?_
          obtain ⟨p169, hq170, h⟩ := bind_some h
          refine Eval.callI (rest := []) (x := p169.1) (H1 := (W1 scr p169.2 R)) rfl rfl (ev_j_appendElement R scr s v1 v2 v3 hq170 rfl) ?_
          cases h
          subst hk
          exact Eval.ret rfl rfl
        · rw [if_neg hc161] at h
          refine Eval.icmpF rfl (flt hc161).1 ?_
          refine Eval.bipush (x := (-6 : Int32)) rfl rfl ?_
          cases h
          subst hk
          exact Eval.ret rfl rfl
def law_b380 (go_ : Q → List Int32 → Int32 → Int32 → Int32 → Int32 → Int32 → Int32 → Int32 → Int32 → Option ((Q) ⊕ ((Q) ⊕ ((Q) ⊕ ((Q) ⊕ ((Q) ⊕ ((Q) ⊕ ((Q) ⊕ ((Q) ⊕ ((Q) ⊕ ((Q) ⊕ ((Q) ⊕ ((Q) ⊕ ((Q) ⊕ ((Q) ⊕ ((Q) ⊕ ((Q) ⊕ ((Q) ⊕ ((Q) ⊕ ((Q) ⊕ ((Q) ⊕ (Q)))))))))))))))))))))) (s : Q) (scr : List Int32) (v2 v3 : Int32) (v4 v5 : Int32) (v6 v7 : Int32) (v8 v9 : Int32) : Option ((Q) ⊕ ((Q) ⊕ ((Q) ⊕ ((Q) ⊕ ((Q) ⊕ ((Q) ⊕ ((Q) ⊕ ((Q) ⊕ ((Q) ⊕ ((Q) ⊕ ((Q) ⊕ ((Q) ⊕ ((Q) ⊕ ((Q) ⊕ ((Q) ⊕ ((Q) ⊕ ((Q) ⊕ ((Q) ⊕ ((Q) ⊕ ((Q) ⊕ (Q))))))))))))))))))))) := (law_b775 (go_) s scr v2 v3 v4 v5 v6 v7 v8 v9)
set_option maxRecDepth 100000 in
theorem ev_law_b380 (go_ : Q → List Int32 → Int32 → Int32 → Int32 → Int32 → Int32 → Int32 → Int32 → Int32 → Option ((Q) ⊕ ((Q) ⊕ ((Q) ⊕ ((Q) ⊕ ((Q) ⊕ ((Q) ⊕ ((Q) ⊕ ((Q) ⊕ ((Q) ⊕ ((Q) ⊕ ((Q) ⊕ ((Q) ⊕ ((Q) ⊕ ((Q) ⊕ ((Q) ⊕ ((Q) ⊕ ((Q) ⊕ ((Q) ⊕ ((Q) ⊕ ((Q) ⊕ (Q)))))))))))))))))))))) (hrec : ∀ (s : Q) (scr : List Int32) (v2 v3 : Int32) (v4 v5 : Int32) (v6 v7 : Int32) (v8 v9 : Int32) {res : (Q) ⊕ ((Q) ⊕ ((Q) ⊕ ((Q) ⊕ ((Q) ⊕ ((Q) ⊕ ((Q) ⊕ ((Q) ⊕ ((Q) ⊕ ((Q) ⊕ ((Q) ⊕ ((Q) ⊕ ((Q) ⊕ ((Q) ⊕ ((Q) ⊕ ((Q) ⊕ ((Q) ⊕ ((Q) ⊕ ((Q) ⊕ ((Q) ⊕ (Q))))))))))))))))))))} {out : Option Value × AHeap}, go_ s scr v2 v3 v4 v5 v6 v7 v8 v9 = some res → law_l34_K scr res out → Eval own_P 0 34 [some (.ref 0), some (.ref 1), some (.int v2), some (.int v3), some (.int v4), some (.int v5), some (.int v6), some (.int v7), some (.int v8), some (.int v9), none, none, none, none, none, none, none, none, none, none] [] (W1 scr s []) out) (s : Q) (scr : List Int32) (v2 v3 : Int32) (v4 v5 : Int32) (v6 v7 : Int32) (v8 v9 : Int32) {res : (Q) ⊕ ((Q) ⊕ ((Q) ⊕ ((Q) ⊕ ((Q) ⊕ ((Q) ⊕ ((Q) ⊕ ((Q) ⊕ ((Q) ⊕ ((Q) ⊕ ((Q) ⊕ ((Q) ⊕ ((Q) ⊕ ((Q) ⊕ ((Q) ⊕ ((Q) ⊕ ((Q) ⊕ ((Q) ⊕ ((Q) ⊕ ((Q) ⊕ (Q))))))))))))))))))))} {out : Option Value × AHeap} (h : law_b380 go_ s scr v2 v3 v4 v5 v6 v7 v8 v9 = some res) (hk : law_l34_K scr res out) : Eval own_P 0 380 [some (.ref 0), some (.ref 1), some (.int v2), some (.int v3), some (.int v4), some (.int v5), some (.int v6), some (.int v7), some (.int v8), some (.int v9), none, none, none, none, none, none, none, none, none, none] [] (W1 scr s []) out := by
  rw [law_b380] at h
  refine Eval.goto (t := 775) rfl rfl ?_
  exact ev_law_b775 _ hrec s scr v2 v3 v4 v5 v6 v7 v8 v9 h hk
def law_b325 (go_ : Q → List Int32 → Int32 → Int32 → Int32 → Int32 → Int32 → Int32 → Int32 → Int32 → Option ((Q) ⊕ ((Q) ⊕ ((Q) ⊕ ((Q) ⊕ ((Q) ⊕ ((Q) ⊕ ((Q) ⊕ ((Q) ⊕ ((Q) ⊕ ((Q) ⊕ ((Q) ⊕ ((Q) ⊕ ((Q) ⊕ ((Q) ⊕ ((Q) ⊕ ((Q) ⊕ ((Q) ⊕ ((Q) ⊕ ((Q) ⊕ ((Q) ⊕ (Q)))))))))))))))))))))) (s : Q) (scr : List Int32) (v2 v3 : Int32) (v4 v5 : Int32) (v6 v7 : Int32) (v8 v9 : Int32) (v13 v14 : Int32) (v15 v16 v17 : Int32) : Option ((Q) ⊕ ((Q) ⊕ ((Q) ⊕ ((Q) ⊕ ((Q) ⊕ ((Q) ⊕ ((Q) ⊕ ((Q) ⊕ ((Q) ⊕ ((Q) ⊕ ((Q) ⊕ ((Q) ⊕ ((Q) ⊕ ((Q) ⊕ ((Q) ⊕ ((Q) ⊕ ((Q) ⊕ ((Q) ⊕ ((Q) ⊕ ((Q) ⊕ (Q))))))))))))))))))))) := (if v16 = v17 then (if v16 < (0 : Int32) then (law_b380 (go_) s scr v2 v3 v4 v5 v6 v7 v8 v9) else ((j_programElement s v16).bind fun p180 => (if p180 = (((ish v14 (16 : Int32)) ||| (ish v15 (8 : Int32))) ||| (v13 &&& ((ish (1 : Int32) ((2 : Int32) * v15)) - (1 : Int32)))) then (law_b380 (go_) s scr v2 (v3 + (1 : Int32)) v4 v5 v6 v7 v8 v9) else some (.inr (.inr (.inr (.inl (s)))))))) else some (.inr (.inr (.inl (s)))))
set_option maxRecDepth 100000 in
theorem ev_law_b325 (go_ : Q → List Int32 → Int32 → Int32 → Int32 → Int32 → Int32 → Int32 → Int32 → Int32 → Option ((Q) ⊕ ((Q) ⊕ ((Q) ⊕ ((Q) ⊕ ((Q) ⊕ ((Q) ⊕ ((Q) ⊕ ((Q) ⊕ ((Q) ⊕ ((Q) ⊕ ((Q) ⊕ ((Q) ⊕ ((Q) ⊕ ((Q) ⊕ ((Q) ⊕ ((Q) ⊕ ((Q) ⊕ ((Q) ⊕ ((Q) ⊕ ((Q) ⊕ (Q)))))))))))))))))))))) (hrec : ∀ (s : Q) (scr : List Int32) (v2 v3 : Int32) (v4 v5 : Int32) (v6 v7 : Int32) (v8 v9 : Int32) {res : (Q) ⊕ ((Q) ⊕ ((Q) ⊕ ((Q) ⊕ ((Q) ⊕ ((Q) ⊕ ((Q) ⊕ ((Q) ⊕ ((Q) ⊕ ((Q) ⊕ ((Q) ⊕ ((Q) ⊕ ((Q) ⊕ ((Q) ⊕ ((Q) ⊕ ((Q) ⊕ ((Q) ⊕ ((Q) ⊕ ((Q) ⊕ ((Q) ⊕ (Q))))))))))))))))))))} {out : Option Value × AHeap}, go_ s scr v2 v3 v4 v5 v6 v7 v8 v9 = some res → law_l34_K scr res out → Eval own_P 0 34 [some (.ref 0), some (.ref 1), some (.int v2), some (.int v3), some (.int v4), some (.int v5), some (.int v6), some (.int v7), some (.int v8), some (.int v9), none, none, none, none, none, none, none, none, none, none] [] (W1 scr s []) out) (s : Q) (scr : List Int32) (v2 v3 : Int32) (v4 v5 : Int32) (v6 v7 : Int32) (v8 v9 : Int32) (v13 v14 : Int32) (v15 v16 v17 : Int32) {res : (Q) ⊕ ((Q) ⊕ ((Q) ⊕ ((Q) ⊕ ((Q) ⊕ ((Q) ⊕ ((Q) ⊕ ((Q) ⊕ ((Q) ⊕ ((Q) ⊕ ((Q) ⊕ ((Q) ⊕ ((Q) ⊕ ((Q) ⊕ ((Q) ⊕ ((Q) ⊕ ((Q) ⊕ ((Q) ⊕ ((Q) ⊕ ((Q) ⊕ (Q))))))))))))))))))))} {out : Option Value × AHeap} (h : law_b325 go_ s scr v2 v3 v4 v5 v6 v7 v8 v9 v13 v14 v15 v16 v17 = some res) (hk : law_l34_K scr res out) : Eval own_P 0 325 [some (.ref 0), some (.ref 1), some (.int v2), some (.int v3), some (.int v4), some (.int v5), some (.int v6), some (.int v7), some (.int v8), some (.int v9), none, none, none, some (.int v13), some (.int v14), some (.int v15), some (.int v16), some (.int v17), none, none] [] (W1 scr s []) out := by
  rw [law_b325] at h
  refine Eval.iload rfl rfl ?_
  refine Eval.iload rfl rfl ?_
  by_cases hc178 : v16 = v17
  · rw [if_pos hc178] at h
    refine Eval.icmpT (t := 334) rfl rfl (teq hc178).1 ?_
    refine Eval.iload rfl rfl ?_
    by_cases hc179 : v16 < (0 : Int32)
    · rw [if_pos hc179] at h
      refine Eval.ifT (t := 380) rfl rfl (tlt hc179).1 ?_
      refine Eval.weak (lw_mk 1023 _) ?_
      exact ev_law_b380 _ hrec s scr v2 v3 v4 v5 v6 v7 v8 v9 h hk
    · rw [if_neg hc179] at h
      refine Eval.ifF rfl (flt hc179).1 ?_
      refine Eval.iload rfl rfl ?_
      refine Eval.iconst (x := (1 : Int32)) rfl rfl ?_
      refine Eval.iconst (x := (2 : Int32)) rfl rfl ?_
      refine Eval.iload rfl rfl ?_
      refine Eval.imul rfl ?_
      refine Eval.ishl rfl ?_
      refine Eval.iconst (x := (1 : Int32)) rfl rfl ?_
      refine Eval.isub rfl ?_
      refine Eval.iand rfl ?_
      refine Eval.istore (L' := [some (.ref 0), some (.ref 1), some (.int v2), some (.int v3), some (.int v4), some (.int v5), some (.int v6), some (.int v7), some (.int v8), some (.int v9), none, none, none, some (.int v13), some (.int v14), some (.int v15), some (.int v16), some (.int v17), some (.int (v13 &&& ((ish (1 : Int32) ((2 : Int32) * v15)) - (1 : Int32)))), none]) rfl rfl ?_
      refine Eval.aload_n rfl rfl ?_
      refine Eval.iload rfl rfl ?_
      obtain ⟨p180, hq181, h⟩ := bind_some h
      refine Eval.callI (rest := []) (x := p180) (H1 := (W1 scr s [])) rfl rfl (ev_j_programElement [] scr s v16 hq181 rfl) ?_
      refine Eval.iload rfl rfl ?_
      refine Eval.bipush (x := (16 : Int32)) rfl rfl ?_
      refine Eval.ishl rfl ?_
      refine Eval.iload rfl rfl ?_
      refine Eval.bipush (x := (8 : Int32)) rfl rfl ?_
      refine Eval.ishl rfl ?_
      refine Eval.ior rfl ?_
      refine Eval.iload rfl rfl ?_
      refine Eval.ior rfl ?_
      by_cases hc182 : p180 = (((ish v14 (16 : Int32)) ||| (ish v15 (8 : Int32))) ||| (v13 &&& ((ish (1 : Int32) ((2 : Int32) * v15)) - (1 : Int32))))
      · rw [if_pos hc182] at h
        refine Eval.icmpT (t := 377) rfl rfl (teq hc182).1 ?_
        refine Eval.iinc (L' := [some (.ref 0), some (.ref 1), some (.int v2), some (.int (v3 + (1 : Int32))), some (.int v4), some (.int v5), some (.int v6), some (.int v7), some (.int v8), some (.int v9), none, none, none, some (.int v13), some (.int v14), some (.int v15), some (.int v16), some (.int v17), some (.int (v13 &&& ((ish (1 : Int32) ((2 : Int32) * v15)) - (1 : Int32)))), none]) rfl rfl rfl ?_
        refine Eval.weak (lw_mk 1023 _) ?_
        exact ev_law_b380 _ hrec s scr v2 (v3 + (1 : Int32)) v4 v5 v6 v7 v8 v9 h hk
      · rw [if_neg hc182] at h
        refine Eval.icmpF rfl (feq hc182).1 ?_
        cases h
        refine Eval.weak (lw_mk 0 _) ?_
        exact hk
  · rw [if_neg hc178] at h
    refine Eval.icmpF rfl (feq hc178).1 ?_
    cases h
    refine Eval.weak (lw_mk 0 _) ?_
    exact hk
def law_b263 (go_ : Q → List Int32 → Int32 → Int32 → Int32 → Int32 → Int32 → Int32 → Int32 → Int32 → Option ((Q) ⊕ ((Q) ⊕ ((Q) ⊕ ((Q) ⊕ ((Q) ⊕ ((Q) ⊕ ((Q) ⊕ ((Q) ⊕ ((Q) ⊕ ((Q) ⊕ ((Q) ⊕ ((Q) ⊕ ((Q) ⊕ ((Q) ⊕ ((Q) ⊕ ((Q) ⊕ ((Q) ⊕ ((Q) ⊕ ((Q) ⊕ ((Q) ⊕ (Q)))))))))))))))))))))) (s : Q) (scr : List Int32) (v2 v3 : Int32) (v4 v5 : Int32) (v6 v7 : Int32) (v8 v9 : Int32) (v12 v13 w0 : Int32) : Option ((Q) ⊕ ((Q) ⊕ ((Q) ⊕ ((Q) ⊕ ((Q) ⊕ ((Q) ⊕ ((Q) ⊕ ((Q) ⊕ ((Q) ⊕ ((Q) ⊕ ((Q) ⊕ ((Q) ⊕ ((Q) ⊕ ((Q) ⊕ ((Q) ⊕ ((Q) ⊕ ((Q) ⊕ ((Q) ⊕ ((Q) ⊕ ((Q) ⊕ (Q))))))))))))))))))))) := ((j_addElement s w0 ((v12 &&& (7 : Int32)) % (5 : Int32)) v13).bind fun p172 => (law_b325 (go_) p172.2 scr v2 v3 v4 v5 v6 v7 v8 v9 v13 w0 ((v12 &&& (7 : Int32)) % (5 : Int32)) p172.1 (if w0 = (2 : Int32) then (-8 : Int32) else (if ((v12 &&& (7 : Int32)) % (5 : Int32)) < (1 : Int32) then (-9 : Int32) else (if v3 = (8 : Int32) then (-6 : Int32) else v3)))))
set_option maxRecDepth 100000 in
theorem ev_law_b263 (go_ : Q → List Int32 → Int32 → Int32 → Int32 → Int32 → Int32 → Int32 → Int32 → Int32 → Option ((Q) ⊕ ((Q) ⊕ ((Q) ⊕ ((Q) ⊕ ((Q) ⊕ ((Q) ⊕ ((Q) ⊕ ((Q) ⊕ ((Q) ⊕ ((Q) ⊕ ((Q) ⊕ ((Q) ⊕ ((Q) ⊕ ((Q) ⊕ ((Q) ⊕ ((Q) ⊕ ((Q) ⊕ ((Q) ⊕ ((Q) ⊕ ((Q) ⊕ (Q)))))))))))))))))))))) (hrec : ∀ (s : Q) (scr : List Int32) (v2 v3 : Int32) (v4 v5 : Int32) (v6 v7 : Int32) (v8 v9 : Int32) {res : (Q) ⊕ ((Q) ⊕ ((Q) ⊕ ((Q) ⊕ ((Q) ⊕ ((Q) ⊕ ((Q) ⊕ ((Q) ⊕ ((Q) ⊕ ((Q) ⊕ ((Q) ⊕ ((Q) ⊕ ((Q) ⊕ ((Q) ⊕ ((Q) ⊕ ((Q) ⊕ ((Q) ⊕ ((Q) ⊕ ((Q) ⊕ ((Q) ⊕ (Q))))))))))))))))))))} {out : Option Value × AHeap}, go_ s scr v2 v3 v4 v5 v6 v7 v8 v9 = some res → law_l34_K scr res out → Eval own_P 0 34 [some (.ref 0), some (.ref 1), some (.int v2), some (.int v3), some (.int v4), some (.int v5), some (.int v6), some (.int v7), some (.int v8), some (.int v9), none, none, none, none, none, none, none, none, none, none] [] (W1 scr s []) out) (s : Q) (scr : List Int32) (v2 v3 : Int32) (v4 v5 : Int32) (v6 v7 : Int32) (v8 v9 : Int32) (v12 v13 w0 : Int32) {res : (Q) ⊕ ((Q) ⊕ ((Q) ⊕ ((Q) ⊕ ((Q) ⊕ ((Q) ⊕ ((Q) ⊕ ((Q) ⊕ ((Q) ⊕ ((Q) ⊕ ((Q) ⊕ ((Q) ⊕ ((Q) ⊕ ((Q) ⊕ ((Q) ⊕ ((Q) ⊕ ((Q) ⊕ ((Q) ⊕ ((Q) ⊕ ((Q) ⊕ (Q))))))))))))))))))))} {out : Option Value × AHeap} (h : law_b263 go_ s scr v2 v3 v4 v5 v6 v7 v8 v9 v12 v13 w0 = some res) (hk : law_l34_K scr res out) : Eval own_P 0 263 [some (.ref 0), some (.ref 1), some (.int v2), some (.int v3), some (.int v4), some (.int v5), some (.int v6), some (.int v7), some (.int v8), some (.int v9), none, none, some (.int v12), some (.int v13), none, none, none, none, none, none] [.int w0] (W1 scr s []) out := by
  rw [law_b263] at h
  refine Eval.istore (L' := [some (.ref 0), some (.ref 1), some (.int v2), some (.int v3), some (.int v4), some (.int v5), some (.int v6), some (.int v7), some (.int v8), some (.int v9), none, none, some (.int v12), some (.int v13), some (.int w0), none, none, none, none, none]) rfl rfl ?_
  refine Eval.iload rfl rfl ?_
  refine Eval.bipush (x := (7 : Int32)) rfl rfl ?_
  refine Eval.iand rfl ?_
  refine Eval.iconst (x := (5 : Int32)) rfl rfl ?_
  refine Eval.irem rfl (by decide) ?_
  refine Eval.istore (L' := [some (.ref 0), some (.ref 1), some (.int v2), some (.int v3), some (.int v4), some (.int v5), some (.int v6), some (.int v7), some (.int v8), some (.int v9), none, none, some (.int v12), some (.int v13), some (.int w0), some (.int ((v12 &&& (7 : Int32)) % (5 : Int32))), none, none, none, none]) rfl rfl ?_
  refine Eval.aload_n rfl rfl ?_
  refine Eval.iload rfl rfl ?_
  refine Eval.iload rfl rfl ?_
  refine Eval.iload rfl rfl ?_
  obtain ⟨p172, hq173, h⟩ := bind_some h
  refine Eval.callI (rest := []) (x := p172.1) (H1 := (W1 scr p172.2 [])) rfl rfl (ev_j_addElement [] scr s w0 ((v12 &&& (7 : Int32)) % (5 : Int32)) v13 hq173 rfl) ?_
  refine Eval.istore (L' := [some (.ref 0), some (.ref 1), some (.int v2), some (.int v3), some (.int v4), some (.int v5), some (.int v6), some (.int v7), some (.int v8), some (.int v9), none, none, some (.int v12), some (.int v13), some (.int w0), some (.int ((v12 &&& (7 : Int32)) % (5 : Int32))), some (.int p172.1), none, none, none]) rfl rfl ?_
  refine Eval.iload_n rfl rfl ?_
  refine Eval.istore (L' := [some (.ref 0), some (.ref 1), some (.int v2), some (.int v3), some (.int v4), some (.int v5), some (.int v6), some (.int v7), some (.int v8), some (.int v9), none, none, some (.int v12), some (.int v13), some (.int w0), some (.int ((v12 &&& (7 : Int32)) % (5 : Int32))), some (.int p172.1), some (.int v3), none, none]) rfl rfl ?_
  refine Eval.iload rfl rfl ?_
  refine Eval.iconst (x := (2 : Int32)) rfl rfl ?_
  suffices hJ177 : Eval own_P 0 325 [some (.ref 0), some (.ref 1), some (.int v2), some (.int v3), some (.int v4), some (.int v5), some (.int v6), some (.int v7), some (.int v8), some (.int v9), none, none, none, some (.int v13), some (.int w0), some (.int ((v12 &&& (7 : Int32)) % (5 : Int32))), some (.int p172.1), some (.int (if w0 = (2 : Int32) then (-8 : Int32) else (if ((v12 &&& (7 : Int32)) % (5 : Int32)) < (1 : Int32) then (-9 : Int32) else (if v3 = (8 : Int32) then (-6 : Int32) else v3)))), none, none] [] (W1 scr p172.2 []) out by
    by_cases hc174 : w0 = (2 : Int32)
    · refine Eval.icmpF rfl (teq hc174).2 ?_
      refine Eval.bipush (x := (-8 : Int32)) rfl rfl ?_
      refine Eval.istore (L' := [some (.ref 0), some (.ref 1), some (.int v2), some (.int v3), some (.int v4), some (.int v5), some (.int v6), some (.int v7), some (.int v8), some (.int v9), none, none, some (.int v12), some (.int v13), some (.int w0), some (.int ((v12 &&& (7 : Int32)) % (5 : Int32))), some (.int p172.1), some (.int (-8 : Int32)), none, none]) rfl rfl ?_
      refine Eval.goto (t := 325) rfl rfl ?_
      refine Eval.weak (lw_mk 254975 _) ?_
      exact (Eval.conv hJ177 (by simp only [if_pos hc174] <;> rfl) rfl)
    · refine Eval.icmpT (t := 302) rfl rfl (feq hc174).2 ?_
      refine Eval.iload rfl rfl ?_
      refine Eval.iconst (x := (1 : Int32)) rfl rfl ?_
      by_cases hc175 : ((v12 &&& (7 : Int32)) % (5 : Int32)) < (1 : Int32)
      · refine Eval.icmpF rfl (tlt hc175).2.1 ?_
        refine Eval.bipush (x := (-9 : Int32)) rfl rfl ?_
        refine Eval.istore (L' := [some (.ref 0), some (.ref 1), some (.int v2), some (.int v3), some (.int v4), some (.int v5), some (.int v6), some (.int v7), some (.int v8), some (.int v9), none, none, some (.int v12), some (.int v13), some (.int w0), some (.int ((v12 &&& (7 : Int32)) % (5 : Int32))), some (.int p172.1), some (.int (-9 : Int32)), none, none]) rfl rfl ?_
        refine Eval.goto (t := 325) rfl rfl ?_
        refine Eval.weak (lw_mk 254975 _) ?_
        exact (Eval.conv hJ177 (by simp only [if_neg hc174, if_pos hc175] <;> rfl) rfl)
      · refine Eval.icmpT (t := 315) rfl rfl (flt hc175).2.1 ?_
        refine Eval.iload_n rfl rfl ?_
        refine Eval.bipush (x := (8 : Int32)) rfl rfl ?_
        by_cases hc176 : v3 = (8 : Int32)
        · refine Eval.icmpF rfl (teq hc176).2 ?_
          refine Eval.bipush (x := (-6 : Int32)) rfl rfl ?_
          refine Eval.istore (L' := [some (.ref 0), some (.ref 1), some (.int v2), some (.int v3), some (.int v4), some (.int v5), some (.int v6), some (.int v7), some (.int v8), some (.int v9), none, none, some (.int v12), some (.int v13), some (.int w0), some (.int ((v12 &&& (7 : Int32)) % (5 : Int32))), some (.int p172.1), some (.int (-6 : Int32)), none, none]) rfl rfl ?_
          refine Eval.weak (lw_mk 254975 _) ?_
          exact (Eval.conv hJ177 (by simp only [if_neg hc174, if_neg hc175, if_pos hc176] <;> rfl) rfl)
        · refine Eval.icmpT (t := 325) rfl rfl (feq hc176).2 ?_
          refine Eval.weak (lw_mk 254975 _) ?_
          exact (Eval.conv hJ177 (by simp only [if_neg hc174, if_neg hc175, if_neg hc176] <;> rfl) rfl)
  exact ev_law_b325 _ hrec p172.2 scr v2 v3 v4 v5 v6 v7 v8 v9 v13 w0 ((v12 &&& (7 : Int32)) % (5 : Int32)) p172.1 (if w0 = (2 : Int32) then (-8 : Int32) else (if ((v12 &&& (7 : Int32)) % (5 : Int32)) < (1 : Int32) then (-9 : Int32) else (if v3 = (8 : Int32) then (-6 : Int32) else v3))) h hk
abbrev j_clearProgram_l2_K (R : AHeap) (scr : List Int32) (res : Q) (out : Option Value × AHeap) : Prop := Eval own_P 4 35 [some (.ref 1), none] [] (W1 scr res R) out

abbrev j_clearProgram_l2_N (s res : Q) : Prop := Q.len res = Q.len s
def j_clearProgram_l2 : Nat → Q → Int32 → Option (Q)
  | 0, _, _ => none
  | n + 1, s, v1 => (if v1 < (8 : Int32) then (if inb s.f_elementOrder.length v1 = true then (if inb s.f_elementCount.length v1 = true then (if inb s.f_elementOps.length v1 = true then (j_clearProgram_l2 n (Q.mk s.f_cells s.f_faultKind s.f_faultVictim s.f_faultAggressor s.f_faultTrigger s.f_victimSlot s.f_aggressorUses (wr s.f_elementOrder v1 (0 : Int32)) (wr s.f_elementCount v1 (0 : Int32)) (wr s.f_elementOps v1 (0 : Int32)) s.f_logBuffer s.f_remap s.f_spareTaken s.f_spareRows s.f_faultLimit s.f_logLimit s.f_latchBit s.f_faultCount s.f_programLength s.f_logLength s.f_failMask) (v1 + (1 : Int32))) else none) else none) else none) else some (s))
set_option maxRecDepth 100000 in
theorem ev_j_clearProgram_l2 (R : AHeap) (scr : List Int32) : ∀ (n : Nat) (s : Q) (v1 : Int32) {res : Q} {out : Option Value × AHeap}, j_clearProgram_l2 n s v1 = some res → j_clearProgram_l2_K R scr res out → Eval own_P 4 2 [some (.ref 1), some (.int v1)] [] (W1 scr s R) out := by
  intro n
  induction n with
  | zero => intro _ _ res out h hk; cases h
  | succ n hrec =>
    intro s v1 res out h hk
    rw [j_clearProgram_l2] at h
    refine Eval.iload_n rfl rfl ?_
    refine Eval.bipush (x := (8 : Int32)) rfl rfl ?_
    by_cases hc186 : v1 < (8 : Int32)
    · rw [if_pos hc186] at h
      refine Eval.icmpF rfl (tlt hc186).2.1 ?_
      refine Eval.aload_n rfl rfl ?_
      refine Eval.getfield rfl rfl own_g1_elementOrder ?_
      refine Eval.iload_n rfl rfl ?_
      refine Eval.iconst (x := (0 : Int32)) rfl rfl ?_
      obtain ⟨hb187, h⟩ := ite_some h
      refine Eval.iastore rfl rfl own_a1_elementOrder hb187 own_s1_elementOrder ?_
      refine Eval.aload_n rfl rfl ?_
      refine Eval.getfield rfl rfl own_g1_elementCount ?_
      refine Eval.iload_n rfl rfl ?_
      refine Eval.iconst (x := (0 : Int32)) rfl rfl ?_
      obtain ⟨hb188, h⟩ := ite_some h
      refine Eval.iastore rfl rfl own_a1_elementCount hb188 own_s1_elementCount ?_
      refine Eval.aload_n rfl rfl ?_
      refine Eval.getfield rfl rfl own_g1_elementOps ?_
      refine Eval.iload_n rfl rfl ?_
      refine Eval.iconst (x := (0 : Int32)) rfl rfl ?_
      obtain ⟨hb189, h⟩ := ite_some h
      refine Eval.iastore rfl rfl own_a1_elementOps hb189 own_s1_elementOps ?_
      refine Eval.iinc (L' := [some (.ref 1), some (.int (v1 + (1 : Int32)))]) rfl rfl rfl ?_
      refine Eval.goto (t := 2) rfl rfl ?_
      refine Eval.heap own_mk1 ?_
      exact hrec _ _ h hk
    · rw [if_neg hc186] at h
      refine Eval.icmpT (t := 35) rfl rfl (flt hc186).2.1 ?_
      cases h
      refine Eval.weak (lw_mk 1 _) ?_
      exact hk
def j_clearProgram (s : Q) : Option (Q) := ((j_clearProgram_l2 3000 s (0 : Int32)).bind fun p190 => some ((Q.mk p190.f_cells p190.f_faultKind p190.f_faultVictim p190.f_faultAggressor p190.f_faultTrigger p190.f_victimSlot p190.f_aggressorUses p190.f_elementOrder p190.f_elementCount p190.f_elementOps p190.f_logBuffer p190.f_remap p190.f_spareTaken p190.f_spareRows p190.f_faultLimit p190.f_logLimit p190.f_latchBit p190.f_faultCount (0 : Int32) p190.f_logLength p190.f_failMask)))
set_option maxRecDepth 100000 in
theorem ev_j_clearProgram (R : AHeap) (scr : List Int32) (s : Q) {res : Q} {out : Option Value × AHeap} (h : j_clearProgram s = some res) (hk : out = (none, (W1 scr res R))) : Eval own_P 4 0 [some (.ref 1), none] [] (W1 scr s R) out := by
  rw [j_clearProgram] at h
  refine Eval.iconst (x := (0 : Int32)) rfl rfl ?_
  refine Eval.istore_n (L' := [some (.ref 1), some (.int (0 : Int32))]) rfl rfl ?_
  obtain ⟨p190, hq191, h⟩ := bind_some h
  refine ev_j_clearProgram_l2 R scr _ s (0 : Int32) hq191 ?_
  show Eval own_P 4 35 [some (.ref 1), none] [] (W1 scr p190 R) out
  refine Eval.aload_n rfl rfl ?_
  refine Eval.iconst (x := (0 : Int32)) rfl rfl ?_
  refine Eval.putfield rfl rfl own_p1_programLength ?_
  cases h
  subst hk
  exact Eval.retH own_mk1 rfl rfl
def j_presetElement (s : Q) (v1 v2 : Int32) (v3 v4 v5 : Int32) : Option (Q) := ((j_appendElement s v1 v2 (((v3 &&& (3 : Int32)) ||| (ish (v4 &&& (3 : Int32)) (2 : Int32))) ||| (ish (v5 &&& (3 : Int32)) (4 : Int32)))).bind fun p197 => some (p197.2))
set_option maxRecDepth 100000 in
theorem ev_j_presetElement (R : AHeap) (scr : List Int32) (s : Q) (v1 v2 : Int32) (v3 v4 v5 : Int32) {res : Q} {out : Option Value × AHeap} (h : j_presetElement s v1 v2 v3 v4 v5 = some res) (hk : out = (none, (W1 scr res R))) : Eval own_P 6 0 [some (.ref 1), some (.int v1), some (.int v2), some (.int v3), some (.int v4), some (.int v5), none] [] (W1 scr s R) out := by
  rw [j_presetElement] at h
  refine Eval.iload_n rfl rfl ?_
  refine Eval.iconst (x := (3 : Int32)) rfl rfl ?_
  refine Eval.iand rfl ?_
  refine Eval.istore (L' := [some (.ref 1), some (.int v1), some (.int v2), some (.int v3), some (.int v4), some (.int v5), some (.int (v3 &&& (3 : Int32)))]) rfl rfl ?_
  refine Eval.iload rfl rfl ?_
  refine Eval.iload rfl rfl ?_
  refine Eval.iconst (x := (3 : Int32)) rfl rfl ?_
  refine Eval.iand rfl ?_
  refine Eval.iconst (x := (2 : Int32)) rfl rfl ?_
  refine Eval.ishl rfl ?_
  refine Eval.ior rfl ?_
  refine Eval.istore (L' := [some (.ref 1), some (.int v1), some (.int v2), some (.int v3), some (.int v4), some (.int v5), some (.int ((v3 &&& (3 : Int32)) ||| (ish (v4 &&& (3 : Int32)) (2 : Int32))))]) rfl rfl ?_
  refine Eval.iload rfl rfl ?_
  refine Eval.iload rfl rfl ?_
  refine Eval.iconst (x := (3 : Int32)) rfl rfl ?_
  refine Eval.iand rfl ?_
  refine Eval.iconst (x := (4 : Int32)) rfl rfl ?_
  refine Eval.ishl rfl ?_
  refine Eval.ior rfl ?_
  refine Eval.istore (L' := [some (.ref 1), some (.int v1), some (.int v2), some (.int v3), some (.int v4), some (.int v5), some (.int (((v3 &&& (3 : Int32)) ||| (ish (v4 &&& (3 : Int32)) (2 : Int32))) ||| (ish (v5 &&& (3 : Int32)) (4 : Int32))))]) rfl rfl ?_
  refine Eval.aload_n rfl rfl ?_
  refine Eval.iload_n rfl rfl ?_
  refine Eval.iload_n rfl rfl ?_
  refine Eval.iload rfl rfl ?_
  obtain ⟨p197, hq198, h⟩ := bind_some h
  refine Eval.callI (rest := []) (x := p197.1) (H1 := (W1 scr p197.2 R)) rfl rfl (ev_j_appendElement R scr s v1 v2 (((v3 &&& (3 : Int32)) ||| (ish (v4 &&& (3 : Int32)) (2 : Int32))) ||| (ish (v5 &&& (3 : Int32)) (4 : Int32))) hq198 rfl) ?_
  refine Eval.popI rfl ?_
  cases h
  subst hk
  exact Eval.ret rfl rfl
def j_loadMatsPlus (s : Q) : Option (Q) := ((j_presetElement s (0 : Int32) (1 : Int32) (2 : Int32) (0 : Int32) (0 : Int32)).bind fun p200 => ((j_presetElement p200 (0 : Int32) (2 : Int32) (0 : Int32) (3 : Int32) (0 : Int32)).bind fun p203 => ((j_presetElement p203 (1 : Int32) (2 : Int32) (1 : Int32) (2 : Int32) (0 : Int32)).bind fun p206 => some (p206))))
set_option maxRecDepth 100000 in
theorem ev_j_loadMatsPlus (R : AHeap) (scr : List Int32) (s : Q) {res : Q} {out : Option Value × AHeap} (h : j_loadMatsPlus s = some res) (hk : out = (none, (W1 scr res R))) : Eval own_P 17 0 [some (.ref 1)] [] (W1 scr s R) out := by
  rw [j_loadMatsPlus] at h
  refine Eval.aload_n rfl rfl ?_
  refine Eval.iconst (x := (0 : Int32)) rfl rfl ?_
  refine Eval.iconst (x := (1 : Int32)) rfl rfl ?_
  refine Eval.iconst (x := (2 : Int32)) rfl rfl ?_
  refine Eval.iconst (x := (0 : Int32)) rfl rfl ?_
  refine Eval.iconst (x := (0 : Int32)) rfl rfl ?_
  obtain ⟨p200, hq201, h⟩ := bind_some h
  refine Eval.callN (rest := []) (H1 := (W1 scr p200 R)) rfl rfl (ev_j_presetElement R scr s (0 : Int32) (1 : Int32) (2 : Int32) (0 : Int32) (0 : Int32) hq201 rfl) ?_
  refine Eval.aload_n rfl rfl ?_
  refine Eval.iconst (x := (0 : Int32)) rfl rfl ?_
  refine Eval.iconst (x := (2 : Int32)) rfl rfl ?_
  refine Eval.iconst (x := (0 : Int32)) rfl rfl ?_
  refine Eval.iconst (x := (3 : Int32)) rfl rfl ?_
  refine Eval.iconst (x := (0 : Int32)) rfl rfl ?_
  obtain ⟨p203, hq204, h⟩ := bind_some h
  refine Eval.callN (rest := []) (H1 := (W1 scr p203 R)) rfl rfl (ev_j_presetElement R scr p200 (0 : Int32) (2 : Int32) (0 : Int32) (3 : Int32) (0 : Int32) hq204 rfl) ?_
  refine Eval.aload_n rfl rfl ?_
  refine Eval.iconst (x := (1 : Int32)) rfl rfl ?_
  refine Eval.iconst (x := (2 : Int32)) rfl rfl ?_
  refine Eval.iconst (x := (1 : Int32)) rfl rfl ?_
  refine Eval.iconst (x := (2 : Int32)) rfl rfl ?_
  refine Eval.iconst (x := (0 : Int32)) rfl rfl ?_
  obtain ⟨p206, hq207, h⟩ := bind_some h
  refine Eval.callN (rest := []) (H1 := (W1 scr p206 R)) rfl rfl (ev_j_presetElement R scr p203 (1 : Int32) (2 : Int32) (1 : Int32) (2 : Int32) (0 : Int32) hq207 rfl) ?_
  cases h
  subst hk
  exact Eval.ret rfl rfl
def j_loadMarchCMinus (s : Q) : Option (Q) := ((j_presetElement s (0 : Int32) (1 : Int32) (2 : Int32) (0 : Int32) (0 : Int32)).bind fun p213 => ((j_presetElement p213 (0 : Int32) (2 : Int32) (0 : Int32) (3 : Int32) (0 : Int32)).bind fun p216 => ((j_presetElement p216 (0 : Int32) (2 : Int32) (1 : Int32) (2 : Int32) (0 : Int32)).bind fun p219 => ((j_presetElement p219 (1 : Int32) (2 : Int32) (0 : Int32) (3 : Int32) (0 : Int32)).bind fun p222 => ((j_presetElement p222 (1 : Int32) (2 : Int32) (1 : Int32) (2 : Int32) (0 : Int32)).bind fun p225 => ((j_presetElement p225 (0 : Int32) (1 : Int32) (0 : Int32) (0 : Int32) (0 : Int32)).bind fun p228 => some (p228)))))))
set_option maxRecDepth 100000 in
theorem ev_j_loadMarchCMinus (R : AHeap) (scr : List Int32) (s : Q) {res : Q} {out : Option Value × AHeap} (h : j_loadMarchCMinus s = some res) (hk : out = (none, (W1 scr res R))) : Eval own_P 5 0 [some (.ref 1)] [] (W1 scr s R) out := by
  rw [j_loadMarchCMinus] at h
  refine Eval.aload_n rfl rfl ?_
  refine Eval.iconst (x := (0 : Int32)) rfl rfl ?_
  refine Eval.iconst (x := (1 : Int32)) rfl rfl ?_
  refine Eval.iconst (x := (2 : Int32)) rfl rfl ?_
  refine Eval.iconst (x := (0 : Int32)) rfl rfl ?_
  refine Eval.iconst (x := (0 : Int32)) rfl rfl ?_
  obtain ⟨p213, hq214, h⟩ := bind_some h
  refine Eval.callN (rest := []) (H1 := (W1 scr p213 R)) rfl rfl (ev_j_presetElement R scr s (0 : Int32) (1 : Int32) (2 : Int32) (0 : Int32) (0 : Int32) hq214 rfl) ?_
  refine Eval.aload_n rfl rfl ?_
  refine Eval.iconst (x := (0 : Int32)) rfl rfl ?_
  refine Eval.iconst (x := (2 : Int32)) rfl rfl ?_
  refine Eval.iconst (x := (0 : Int32)) rfl rfl ?_
  refine Eval.iconst (x := (3 : Int32)) rfl rfl ?_
  refine Eval.iconst (x := (0 : Int32)) rfl rfl ?_
  obtain ⟨p216, hq217, h⟩ := bind_some h
  refine Eval.callN (rest := []) (H1 := (W1 scr p216 R)) rfl rfl (ev_j_presetElement R scr p213 (0 : Int32) (2 : Int32) (0 : Int32) (3 : Int32) (0 : Int32) hq217 rfl) ?_
  refine Eval.aload_n rfl rfl ?_
  refine Eval.iconst (x := (0 : Int32)) rfl rfl ?_
  refine Eval.iconst (x := (2 : Int32)) rfl rfl ?_
  refine Eval.iconst (x := (1 : Int32)) rfl rfl ?_
  refine Eval.iconst (x := (2 : Int32)) rfl rfl ?_
  refine Eval.iconst (x := (0 : Int32)) rfl rfl ?_
  obtain ⟨p219, hq220, h⟩ := bind_some h
  refine Eval.callN (rest := []) (H1 := (W1 scr p219 R)) rfl rfl (ev_j_presetElement R scr p216 (0 : Int32) (2 : Int32) (1 : Int32) (2 : Int32) (0 : Int32) hq220 rfl) ?_
  refine Eval.aload_n rfl rfl ?_
  refine Eval.iconst (x := (1 : Int32)) rfl rfl ?_
  refine Eval.iconst (x := (2 : Int32)) rfl rfl ?_
  refine Eval.iconst (x := (0 : Int32)) rfl rfl ?_
  refine Eval.iconst (x := (3 : Int32)) rfl rfl ?_
  refine Eval.iconst (x := (0 : Int32)) rfl rfl ?_
  obtain ⟨p222, hq223, h⟩ := bind_some h
  refine Eval.callN (rest := []) (H1 := (W1 scr p222 R)) rfl rfl (ev_j_presetElement R scr p219 (1 : Int32) (2 : Int32) (0 : Int32) (3 : Int32) (0 : Int32) hq223 rfl) ?_
  refine Eval.aload_n rfl rfl ?_
  refine Eval.iconst (x := (1 : Int32)) rfl rfl ?_
  refine Eval.iconst (x := (2 : Int32)) rfl rfl ?_
  refine Eval.iconst (x := (1 : Int32)) rfl rfl ?_
  refine Eval.iconst (x := (2 : Int32)) rfl rfl ?_
  refine Eval.iconst (x := (0 : Int32)) rfl rfl ?_
  obtain ⟨p225, hq226, h⟩ := bind_some h
  refine Eval.callN (rest := []) (H1 := (W1 scr p225 R)) rfl rfl (ev_j_presetElement R scr p222 (1 : Int32) (2 : Int32) (1 : Int32) (2 : Int32) (0 : Int32) hq226 rfl) ?_
  refine Eval.aload_n rfl rfl ?_
  refine Eval.iconst (x := (0 : Int32)) rfl rfl ?_
  refine Eval.iconst (x := (1 : Int32)) rfl rfl ?_
  refine Eval.iconst (x := (0 : Int32)) rfl rfl ?_
  refine Eval.iconst (x := (0 : Int32)) rfl rfl ?_
  refine Eval.iconst (x := (0 : Int32)) rfl rfl ?_
  obtain ⟨p228, hq229, h⟩ := bind_some h
  refine Eval.callN (rest := []) (H1 := (W1 scr p228 R)) rfl rfl (ev_j_presetElement R scr p225 (0 : Int32) (1 : Int32) (0 : Int32) (0 : Int32) (0 : Int32) hq229 rfl) ?_
  cases h
  subst hk
  exact Eval.ret rfl rfl
def j_loadMarchCrb (s : Q) : Option (Q) := ((j_presetElement s (0 : Int32) (1 : Int32) (2 : Int32) (0 : Int32) (0 : Int32)).bind fun p235 => ((j_presetElement p235 (0 : Int32) (3 : Int32) (0 : Int32) (3 : Int32) (1 : Int32)).bind fun p238 => ((j_presetElement p238 (0 : Int32) (3 : Int32) (1 : Int32) (2 : Int32) (0 : Int32)).bind fun p241 => ((j_presetElement p241 (1 : Int32) (3 : Int32) (0 : Int32) (3 : Int32) (1 : Int32)).bind fun p244 => ((j_presetElement p244 (1 : Int32) (3 : Int32) (1 : Int32) (2 : Int32) (0 : Int32)).bind fun p247 => ((j_presetElement p247 (0 : Int32) (1 : Int32) (0 : Int32) (0 : Int32) (0 : Int32)).bind fun p250 => some (p250)))))))
set_option maxRecDepth 100000 in
theorem ev_j_loadMarchCrb (R : AHeap) (scr : List Int32) (s : Q) {res : Q} {out : Option Value × AHeap} (h : j_loadMarchCrb s = some res) (hk : out = (none, (W1 scr res R))) : Eval own_P 19 0 [some (.ref 1)] [] (W1 scr s R) out := by
  rw [j_loadMarchCrb] at h
  refine Eval.aload_n rfl rfl ?_
  refine Eval.iconst (x := (0 : Int32)) rfl rfl ?_
  refine Eval.iconst (x := (1 : Int32)) rfl rfl ?_
  refine Eval.iconst (x := (2 : Int32)) rfl rfl ?_
  refine Eval.iconst (x := (0 : Int32)) rfl rfl ?_
  refine Eval.iconst (x := (0 : Int32)) rfl rfl ?_
  obtain ⟨p235, hq236, h⟩ := bind_some h
  refine Eval.callN (rest := []) (H1 := (W1 scr p235 R)) rfl rfl (ev_j_presetElement R scr s (0 : Int32) (1 : Int32) (2 : Int32) (0 : Int32) (0 : Int32) hq236 rfl) ?_
  refine Eval.aload_n rfl rfl ?_
  refine Eval.iconst (x := (0 : Int32)) rfl rfl ?_
  refine Eval.iconst (x := (3 : Int32)) rfl rfl ?_
  refine Eval.iconst (x := (0 : Int32)) rfl rfl ?_
  refine Eval.iconst (x := (3 : Int32)) rfl rfl ?_
  refine Eval.iconst (x := (1 : Int32)) rfl rfl ?_
  obtain ⟨p238, hq239, h⟩ := bind_some h
  refine Eval.callN (rest := []) (H1 := (W1 scr p238 R)) rfl rfl (ev_j_presetElement R scr p235 (0 : Int32) (3 : Int32) (0 : Int32) (3 : Int32) (1 : Int32) hq239 rfl) ?_
  refine Eval.aload_n rfl rfl ?_
  refine Eval.iconst (x := (0 : Int32)) rfl rfl ?_
  refine Eval.iconst (x := (3 : Int32)) rfl rfl ?_
  refine Eval.iconst (x := (1 : Int32)) rfl rfl ?_
  refine Eval.iconst (x := (2 : Int32)) rfl rfl ?_
  refine Eval.iconst (x := (0 : Int32)) rfl rfl ?_
  obtain ⟨p241, hq242, h⟩ := bind_some h
  refine Eval.callN (rest := []) (H1 := (W1 scr p241 R)) rfl rfl (ev_j_presetElement R scr p238 (0 : Int32) (3 : Int32) (1 : Int32) (2 : Int32) (0 : Int32) hq242 rfl) ?_
  refine Eval.aload_n rfl rfl ?_
  refine Eval.iconst (x := (1 : Int32)) rfl rfl ?_
  refine Eval.iconst (x := (3 : Int32)) rfl rfl ?_
  refine Eval.iconst (x := (0 : Int32)) rfl rfl ?_
  refine Eval.iconst (x := (3 : Int32)) rfl rfl ?_
  refine Eval.iconst (x := (1 : Int32)) rfl rfl ?_
  obtain ⟨p244, hq245, h⟩ := bind_some h
  refine Eval.callN (rest := []) (H1 := (W1 scr p244 R)) rfl rfl (ev_j_presetElement R scr p241 (1 : Int32) (3 : Int32) (0 : Int32) (3 : Int32) (1 : Int32) hq245 rfl) ?_
  refine Eval.aload_n rfl rfl ?_
  refine Eval.iconst (x := (1 : Int32)) rfl rfl ?_
  refine Eval.iconst (x := (3 : Int32)) rfl rfl ?_
  refine Eval.iconst (x := (1 : Int32)) rfl rfl ?_
  refine Eval.iconst (x := (2 : Int32)) rfl rfl ?_
  refine Eval.iconst (x := (0 : Int32)) rfl rfl ?_
  obtain ⟨p247, hq248, h⟩ := bind_some h
  refine Eval.callN (rest := []) (H1 := (W1 scr p247 R)) rfl rfl (ev_j_presetElement R scr p244 (1 : Int32) (3 : Int32) (1 : Int32) (2 : Int32) (0 : Int32) hq248 rfl) ?_
  refine Eval.aload_n rfl rfl ?_
  refine Eval.iconst (x := (0 : Int32)) rfl rfl ?_
  refine Eval.iconst (x := (1 : Int32)) rfl rfl ?_
  refine Eval.iconst (x := (0 : Int32)) rfl rfl ?_
  refine Eval.iconst (x := (0 : Int32)) rfl rfl ?_
  refine Eval.iconst (x := (0 : Int32)) rfl rfl ?_
  obtain ⟨p250, hq251, h⟩ := bind_some h
  refine Eval.callN (rest := []) (H1 := (W1 scr p250 R)) rfl rfl (ev_j_presetElement R scr p247 (0 : Int32) (1 : Int32) (0 : Int32) (0 : Int32) (0 : Int32) hq251 rfl) ?_
  cases h
  subst hk
  exact Eval.ret rfl rfl
def j_loadPreset (s : Q) (v1 : Int32) : Option (Int32 × Q) := (if v1 < (0 : Int32) then some ((0 : Int32), s) else (if (3 : Int32) < v1 then some ((0 : Int32), s) else ((j_clearProgram s).bind fun p193 => (if v1 = (1 : Int32) then ((j_loadMatsPlus p193).bind fun p209 => some ((1 : Int32), p209)) else (if v1 = (2 : Int32) then ((j_loadMarchCMinus p193).bind fun p231 => some ((1 : Int32), p231)) else (if v1 = (3 : Int32) then ((j_loadMarchCrb p193).bind fun p253 => some ((1 : Int32), p253)) else some ((1 : Int32), p193)))))))
set_option maxRecDepth 100000 in
theorem ev_j_loadPreset (R : AHeap) (scr : List Int32) (s : Q) (v1 : Int32) {res : Int32 × Q} {out : Option Value × AHeap} (h : j_loadPreset s v1 = some res) (hk : out = (some (.int res.1), (W1 scr res.2 R))) : Eval own_P 3 0 [some (.ref 1), some (.int v1)] [] (W1 scr s R) out := by
  rw [j_loadPreset] at h
  refine Eval.iload_n rfl rfl ?_
  by_cases hc184 : v1 < (0 : Int32)
  · rw [if_pos hc184] at h
    refine Eval.ifT (t := 9) rfl rfl (tlt hc184).1 ?_
    refine Eval.iconst (x := (0 : Int32)) rfl rfl ?_
    cases h
    subst hk
    exact Eval.ret rfl rfl
  · rw [if_neg hc184] at h
    refine Eval.ifF rfl (flt hc184).1 ?_
    refine Eval.iload_n rfl rfl ?_
    refine Eval.iconst (x := (3 : Int32)) rfl rfl ?_
    by_cases hc185 : (3 : Int32) < v1
    · rw [if_pos hc185] at h
      refine Eval.icmpF rfl (tlt hc185).2.2.2 ?_
      refine Eval.iconst (x := (0 : Int32)) rfl rfl ?_
      cases h
      subst hk
      exact Eval.ret rfl rfl
    · rw [if_neg hc185] at h
      refine Eval.icmpT (t := 11) rfl rfl (flt hc185).2.2.2 ?_
      refine Eval.aload_n rfl rfl ?_
      obtain ⟨p193, hq194, h⟩ := bind_some h
      refine Eval.callN (rest := []) (H1 := (W1 scr p193 R)) rfl rfl (ev_j_clearProgram R scr s hq194 rfl) ?_
      refine Eval.iload_n rfl rfl ?_
      refine Eval.iconst (x := (1 : Int32)) rfl rfl ?_
      by_cases hc196 : v1 = (1 : Int32)
      · rw [if_pos hc196] at h
        refine Eval.icmpF rfl (teq hc196).2 ?_
        refine Eval.aload_n rfl rfl ?_
        obtain ⟨p209, hq210, h⟩ := bind_some h
        refine Eval.callN (rest := []) (H1 := (W1 scr p209 R)) rfl rfl (ev_j_loadMatsPlus R scr p193 hq210 rfl) ?_
        refine Eval.goto (t := 48) rfl rfl ?_
        refine Eval.iconst (x := (1 : Int32)) rfl rfl ?_
        cases h
        subst hk
        exact Eval.ret rfl rfl
      · rw [if_neg hc196] at h
        refine Eval.icmpT (t := 27) rfl rfl (feq hc196).2 ?_
        refine Eval.iload_n rfl rfl ?_
        refine Eval.iconst (x := (2 : Int32)) rfl rfl ?_
        by_cases hc212 : v1 = (2 : Int32)
        · rw [if_pos hc212] at h
          refine Eval.icmpF rfl (teq hc212).2 ?_
          refine Eval.aload_n rfl rfl ?_
          obtain ⟨p231, hq232, h⟩ := bind_some h
          refine Eval.callN (rest := []) (H1 := (W1 scr p231 R)) rfl rfl (ev_j_loadMarchCMinus R scr p193 hq232 rfl) ?_
          refine Eval.goto (t := 48) rfl rfl ?_
          refine Eval.iconst (x := (1 : Int32)) rfl rfl ?_
          cases h
          subst hk
          exact Eval.ret rfl rfl
        · rw [if_neg hc212] at h
          refine Eval.icmpT (t := 39) rfl rfl (feq hc212).2 ?_
          refine Eval.iload_n rfl rfl ?_
          refine Eval.iconst (x := (3 : Int32)) rfl rfl ?_
          by_cases hc234 : v1 = (3 : Int32)
          · rw [if_pos hc234] at h
            refine Eval.icmpF rfl (teq hc234).2 ?_
            refine Eval.aload_n rfl rfl ?_
            obtain ⟨p253, hq254, h⟩ := bind_some h
            refine Eval.callN (rest := []) (H1 := (W1 scr p253 R)) rfl rfl (ev_j_loadMarchCrb R scr p193 hq254 rfl) ?_
            refine Eval.iconst (x := (1 : Int32)) rfl rfl ?_
            cases h
            subst hk
            exact Eval.ret rfl rfl
          · rw [if_neg hc234] at h
            refine Eval.icmpT (t := 48) rfl rfl (feq hc234).2 ?_
            refine Eval.iconst (x := (1 : Int32)) rfl rfl ?_
            cases h
            subst hk
            exact Eval.ret rfl rfl
def law_b446 (go_ : Q → List Int32 → Int32 → Int32 → Int32 → Int32 → Int32 → Int32 → Int32 → Int32 → Option ((Q) ⊕ ((Q) ⊕ ((Q) ⊕ ((Q) ⊕ ((Q) ⊕ ((Q) ⊕ ((Q) ⊕ ((Q) ⊕ ((Q) ⊕ ((Q) ⊕ ((Q) ⊕ ((Q) ⊕ ((Q) ⊕ ((Q) ⊕ ((Q) ⊕ ((Q) ⊕ ((Q) ⊕ ((Q) ⊕ ((Q) ⊕ ((Q) ⊕ (Q)))))))))))))))))))))) (s : Q) (scr : List Int32) (v2 v3 : Int32) (v4 v5 : Int32) (v6 v7 : Int32) (v8 v9 : Int32) : Option ((Q) ⊕ ((Q) ⊕ ((Q) ⊕ ((Q) ⊕ ((Q) ⊕ ((Q) ⊕ ((Q) ⊕ ((Q) ⊕ ((Q) ⊕ ((Q) ⊕ ((Q) ⊕ ((Q) ⊕ ((Q) ⊕ ((Q) ⊕ ((Q) ⊕ ((Q) ⊕ ((Q) ⊕ ((Q) ⊕ ((Q) ⊕ ((Q) ⊕ (Q))))))))))))))))))))) := (law_b775 (go_) s scr v2 v3 v4 v5 v6 v7 v8 v9)
set_option maxRecDepth 100000 in
theorem ev_law_b446 (go_ : Q → List Int32 → Int32 → Int32 → Int32 → Int32 → Int32 → Int32 → Int32 → Int32 → Option ((Q) ⊕ ((Q) ⊕ ((Q) ⊕ ((Q) ⊕ ((Q) ⊕ ((Q) ⊕ ((Q) ⊕ ((Q) ⊕ ((Q) ⊕ ((Q) ⊕ ((Q) ⊕ ((Q) ⊕ ((Q) ⊕ ((Q) ⊕ ((Q) ⊕ ((Q) ⊕ ((Q) ⊕ ((Q) ⊕ ((Q) ⊕ ((Q) ⊕ (Q)))))))))))))))))))))) (hrec : ∀ (s : Q) (scr : List Int32) (v2 v3 : Int32) (v4 v5 : Int32) (v6 v7 : Int32) (v8 v9 : Int32) {res : (Q) ⊕ ((Q) ⊕ ((Q) ⊕ ((Q) ⊕ ((Q) ⊕ ((Q) ⊕ ((Q) ⊕ ((Q) ⊕ ((Q) ⊕ ((Q) ⊕ ((Q) ⊕ ((Q) ⊕ ((Q) ⊕ ((Q) ⊕ ((Q) ⊕ ((Q) ⊕ ((Q) ⊕ ((Q) ⊕ ((Q) ⊕ ((Q) ⊕ (Q))))))))))))))))))))} {out : Option Value × AHeap}, go_ s scr v2 v3 v4 v5 v6 v7 v8 v9 = some res → law_l34_K scr res out → Eval own_P 0 34 [some (.ref 0), some (.ref 1), some (.int v2), some (.int v3), some (.int v4), some (.int v5), some (.int v6), some (.int v7), some (.int v8), some (.int v9), none, none, none, none, none, none, none, none, none, none] [] (W1 scr s []) out) (s : Q) (scr : List Int32) (v2 v3 : Int32) (v4 v5 : Int32) (v6 v7 : Int32) (v8 v9 : Int32) {res : (Q) ⊕ ((Q) ⊕ ((Q) ⊕ ((Q) ⊕ ((Q) ⊕ ((Q) ⊕ ((Q) ⊕ ((Q) ⊕ ((Q) ⊕ ((Q) ⊕ ((Q) ⊕ ((Q) ⊕ ((Q) ⊕ ((Q) ⊕ ((Q) ⊕ ((Q) ⊕ ((Q) ⊕ ((Q) ⊕ ((Q) ⊕ ((Q) ⊕ (Q))))))))))))))))))))} {out : Option Value × AHeap} (h : law_b446 go_ s scr v2 v3 v4 v5 v6 v7 v8 v9 = some res) (hk : law_l34_K scr res out) : Eval own_P 0 446 [some (.ref 0), some (.ref 1), some (.int v2), some (.int v3), some (.int v4), some (.int v5), some (.int v6), some (.int v7), some (.int v8), some (.int v9), none, none, none, none, none, none, none, none, none, none] [] (W1 scr s []) out := by
  rw [law_b446] at h
  refine Eval.goto (t := 775) rfl rfl ?_
  exact ev_law_b775 _ hrec s scr v2 v3 v4 v5 v6 v7 v8 v9 h hk
def law_b412 (go_ : Q → List Int32 → Int32 → Int32 → Int32 → Int32 → Int32 → Int32 → Int32 → Int32 → Option ((Q) ⊕ ((Q) ⊕ ((Q) ⊕ ((Q) ⊕ ((Q) ⊕ ((Q) ⊕ ((Q) ⊕ ((Q) ⊕ ((Q) ⊕ ((Q) ⊕ ((Q) ⊕ ((Q) ⊕ ((Q) ⊕ ((Q) ⊕ ((Q) ⊕ ((Q) ⊕ ((Q) ⊕ ((Q) ⊕ ((Q) ⊕ ((Q) ⊕ (Q)))))))))))))))))))))) (s : Q) (scr : List Int32) (v2 v3 : Int32) (v4 v5 : Int32) (v6 v7 : Int32) (v8 v9 : Int32) (v14 w0 w1 : Int32) : Option ((Q) ⊕ ((Q) ⊕ ((Q) ⊕ ((Q) ⊕ ((Q) ⊕ ((Q) ⊕ ((Q) ⊕ ((Q) ⊕ ((Q) ⊕ ((Q) ⊕ ((Q) ⊕ ((Q) ⊕ ((Q) ⊕ ((Q) ⊕ ((Q) ⊕ ((Q) ⊕ ((Q) ⊕ ((Q) ⊕ ((Q) ⊕ ((Q) ⊕ (Q))))))))))))))))))))) := (if w0 = w1 then (law_b446 (go_) s scr v2 (if v14 = (0 : Int32) then (0 : Int32) else (if (3 : Int32) < v14 then v3 else (if v14 = (1 : Int32) then (3 : Int32) else (6 : Int32)))) v4 v5 v6 v7 v8 v9) else some (.inr (.inr (.inr (.inr (.inl (s)))))))
set_option maxRecDepth 100000 in
theorem ev_law_b412 (go_ : Q → List Int32 → Int32 → Int32 → Int32 → Int32 → Int32 → Int32 → Int32 → Int32 → Option ((Q) ⊕ ((Q) ⊕ ((Q) ⊕ ((Q) ⊕ ((Q) ⊕ ((Q) ⊕ ((Q) ⊕ ((Q) ⊕ ((Q) ⊕ ((Q) ⊕ ((Q) ⊕ ((Q) ⊕ ((Q) ⊕ ((Q) ⊕ ((Q) ⊕ ((Q) ⊕ ((Q) ⊕ ((Q) ⊕ ((Q) ⊕ ((Q) ⊕ (Q)))))))))))))))))))))) (hrec : ∀ (s : Q) (scr : List Int32) (v2 v3 : Int32) (v4 v5 : Int32) (v6 v7 : Int32) (v8 v9 : Int32) {res : (Q) ⊕ ((Q) ⊕ ((Q) ⊕ ((Q) ⊕ ((Q) ⊕ ((Q) ⊕ ((Q) ⊕ ((Q) ⊕ ((Q) ⊕ ((Q) ⊕ ((Q) ⊕ ((Q) ⊕ ((Q) ⊕ ((Q) ⊕ ((Q) ⊕ ((Q) ⊕ ((Q) ⊕ ((Q) ⊕ ((Q) ⊕ ((Q) ⊕ (Q))))))))))))))))))))} {out : Option Value × AHeap}, go_ s scr v2 v3 v4 v5 v6 v7 v8 v9 = some res → law_l34_K scr res out → Eval own_P 0 34 [some (.ref 0), some (.ref 1), some (.int v2), some (.int v3), some (.int v4), some (.int v5), some (.int v6), some (.int v7), some (.int v8), some (.int v9), none, none, none, none, none, none, none, none, none, none] [] (W1 scr s []) out) (s : Q) (scr : List Int32) (v2 v3 : Int32) (v4 v5 : Int32) (v6 v7 : Int32) (v8 v9 : Int32) (v14 w0 w1 : Int32) {res : (Q) ⊕ ((Q) ⊕ ((Q) ⊕ ((Q) ⊕ ((Q) ⊕ ((Q) ⊕ ((Q) ⊕ ((Q) ⊕ ((Q) ⊕ ((Q) ⊕ ((Q) ⊕ ((Q) ⊕ ((Q) ⊕ ((Q) ⊕ ((Q) ⊕ ((Q) ⊕ ((Q) ⊕ ((Q) ⊕ ((Q) ⊕ ((Q) ⊕ (Q))))))))))))))))))))} {out : Option Value × AHeap} (h : law_b412 go_ s scr v2 v3 v4 v5 v6 v7 v8 v9 v14 w0 w1 = some res) (hk : law_l34_K scr res out) : Eval own_P 0 412 [some (.ref 0), some (.ref 1), some (.int v2), some (.int v3), some (.int v4), some (.int v5), some (.int v6), some (.int v7), some (.int v8), some (.int v9), none, none, none, none, some (.int v14), none, none, none, none, none] [.int w1, .int w0] (W1 scr s []) out := by
  rw [law_b412] at h
  by_cases hc260 : w0 = w1
  · rw [if_pos hc260] at h
    refine Eval.icmpT (t := 417) rfl rfl (teq hc260).1 ?_
    refine Eval.iload rfl rfl ?_
    suffices hJ264 : Eval own_P 0 446 [some (.ref 0), some (.ref 1), some (.int v2), some (.int (if v14 = (0 : Int32) then (0 : Int32) else (if (3 : Int32) < v14 then v3 else (if v14 = (1 : Int32) then (3 : Int32) else (6 : Int32))))), some (.int v4), some (.int v5), some (.int v6), some (.int v7), some (.int v8), some (.int v9), none, none, none, none, none, none, none, none, none, none] [] (W1 scr s []) out by
      by_cases hc261 : v14 = (0 : Int32)
      · refine Eval.ifF rfl (teq hc261).2 ?_
        refine Eval.iconst (x := (0 : Int32)) rfl rfl ?_
        refine Eval.istore_n (L' := [some (.ref 0), some (.ref 1), some (.int v2), some (.int (0 : Int32)), some (.int v4), some (.int v5), some (.int v6), some (.int v7), some (.int v8), some (.int v9), none, none, none, none, some (.int v14), none, none, none, none, none]) rfl rfl ?_
        refine Eval.goto (t := 446) rfl rfl ?_
        refine Eval.weak (lw_mk 1023 _) ?_
        exact (Eval.conv hJ264 (by simp only [if_pos hc261] <;> rfl) rfl)
      · refine Eval.ifT (t := 427) rfl rfl (feq hc261).2 ?_
        refine Eval.iload rfl rfl ?_
        refine Eval.iconst (x := (3 : Int32)) rfl rfl ?_
        by_cases hc262 : (3 : Int32) < v14
        · refine Eval.icmpT (t := 446) rfl rfl (tlt hc262).2.2.1 ?_
          refine Eval.weak (lw_mk 1023 _) ?_
          exact (Eval.conv hJ264 (by simp only [if_neg hc261, if_pos hc262] <;> rfl) rfl)
        · refine Eval.icmpF rfl (flt hc262).2.2.1 ?_
          refine Eval.iload rfl rfl ?_
          refine Eval.iconst (x := (1 : Int32)) rfl rfl ?_
          by_cases hc263 : v14 = (1 : Int32)
          · refine Eval.icmpF rfl (teq hc263).2 ?_
            refine Eval.iconst (x := (3 : Int32)) rfl rfl ?_
            refine Eval.goto (t := 445) rfl rfl ?_
            refine Eval.istore_n (L' := [some (.ref 0), some (.ref 1), some (.int v2), some (.int (3 : Int32)), some (.int v4), some (.int v5), some (.int v6), some (.int v7), some (.int v8), some (.int v9), none, none, none, none, some (.int v14), none, none, none, none, none]) rfl rfl ?_
            refine Eval.weak (lw_mk 1023 _) ?_
            exact (Eval.conv hJ264 (by simp only [if_neg hc261, if_neg hc262, if_pos hc263] <;> rfl) rfl)
          · refine Eval.icmpT (t := 443) rfl rfl (feq hc263).2 ?_
            refine Eval.bipush (x := (6 : Int32)) rfl rfl ?_
            refine Eval.istore_n (L' := [some (.ref 0), some (.ref 1), some (.int v2), some (.int (6 : Int32)), some (.int v4), some (.int v5), some (.int v6), some (.int v7), some (.int v8), some (.int v9), none, none, none, none, some (.int v14), none, none, none, none, none]) rfl rfl ?_
            refine Eval.weak (lw_mk 1023 _) ?_
            exact (Eval.conv hJ264 (by simp only [if_neg hc261, if_neg hc262, if_neg hc263] <;> rfl) rfl)
    exact ev_law_b446 _ hrec s scr v2 (if v14 = (0 : Int32) then (0 : Int32) else (if (3 : Int32) < v14 then v3 else (if v14 = (1 : Int32) then (3 : Int32) else (6 : Int32)))) v4 v5 v6 v7 v8 v9 h hk
  · rw [if_neg hc260] at h
    refine Eval.icmpF rfl (feq hc260).1 ?_
    cases h
    refine Eval.weak (lw_mk 0 _) ?_
    exact hk
abbrev j_resetResults_l2_K (R : AHeap) (scr : List Int32) (res : Q) (out : Option Value × AHeap) : Prop := Eval own_P 46 21 [some (.ref 1), none] [] (W1 scr res R) out

abbrev j_resetResults_l2_N (s res : Q) : Prop := Q.len res = Q.len s
def j_resetResults_l2 : Nat → Q → Int32 → Option (Q)
  | 0, _, _ => none
  | n + 1, s, v1 => (if v1 < (32 : Int32) then (if inb s.f_logBuffer.length v1 = true then (j_resetResults_l2 n (Q.mk s.f_cells s.f_faultKind s.f_faultVictim s.f_faultAggressor s.f_faultTrigger s.f_victimSlot s.f_aggressorUses s.f_elementOrder s.f_elementCount s.f_elementOps (wr s.f_logBuffer v1 (0 : Int32)) s.f_remap s.f_spareTaken s.f_spareRows s.f_faultLimit s.f_logLimit s.f_latchBit s.f_faultCount s.f_programLength s.f_logLength s.f_failMask) (v1 + (1 : Int32))) else none) else some (s))
set_option maxRecDepth 100000 in
theorem ev_j_resetResults_l2 (R : AHeap) (scr : List Int32) : ∀ (n : Nat) (s : Q) (v1 : Int32) {res : Q} {out : Option Value × AHeap}, j_resetResults_l2 n s v1 = some res → j_resetResults_l2_K R scr res out → Eval own_P 46 2 [some (.ref 1), some (.int v1)] [] (W1 scr s R) out := by
  intro n
  induction n with
  | zero => intro _ _ res out h hk; cases h
  | succ n hrec =>
    intro s v1 res out h hk
    rw [j_resetResults_l2] at h
    refine Eval.iload_n rfl rfl ?_
    refine Eval.bipush (x := (32 : Int32)) rfl rfl ?_
    by_cases hc267 : v1 < (32 : Int32)
    · rw [if_pos hc267] at h
      refine Eval.icmpF rfl (tlt hc267).2.1 ?_
      refine Eval.aload_n rfl rfl ?_
      refine Eval.getfield rfl rfl own_g1_logBuffer ?_
      refine Eval.iload_n rfl rfl ?_
      refine Eval.iconst (x := (0 : Int32)) rfl rfl ?_
      obtain ⟨hb268, h⟩ := ite_some h
      refine Eval.iastore rfl rfl own_a1_logBuffer hb268 own_s1_logBuffer ?_
      refine Eval.iinc (L' := [some (.ref 1), some (.int (v1 + (1 : Int32)))]) rfl rfl rfl ?_
      refine Eval.goto (t := 2) rfl rfl ?_
      refine Eval.heap own_mk1 ?_
      exact hrec _ _ h hk
    · rw [if_neg hc267] at h
      refine Eval.icmpT (t := 21) rfl rfl (flt hc267).2.1 ?_
      cases h
      refine Eval.weak (lw_mk 1 _) ?_
      exact hk
def j_resetResults (s : Q) : Option (Q) := ((j_resetResults_l2 3000 s (0 : Int32)).bind fun p269 => some ((Q.mk p269.f_cells p269.f_faultKind p269.f_faultVictim p269.f_faultAggressor p269.f_faultTrigger p269.f_victimSlot p269.f_aggressorUses p269.f_elementOrder p269.f_elementCount p269.f_elementOps p269.f_logBuffer p269.f_remap p269.f_spareTaken p269.f_spareRows p269.f_faultLimit p269.f_logLimit p269.f_latchBit p269.f_faultCount p269.f_programLength (0 : Int32) (0 : Int32))))
set_option maxRecDepth 100000 in
theorem ev_j_resetResults (R : AHeap) (scr : List Int32) (s : Q) {res : Q} {out : Option Value × AHeap} (h : j_resetResults s = some res) (hk : out = (none, (W1 scr res R))) : Eval own_P 46 0 [some (.ref 1), none] [] (W1 scr s R) out := by
  rw [j_resetResults] at h
  refine Eval.iconst (x := (0 : Int32)) rfl rfl ?_
  refine Eval.istore_n (L' := [some (.ref 1), some (.int (0 : Int32))]) rfl rfl ?_
  obtain ⟨p269, hq270, h⟩ := bind_some h
  refine ev_j_resetResults_l2 R scr _ s (0 : Int32) hq270 ?_
  show Eval own_P 46 21 [some (.ref 1), none] [] (W1 scr p269 R) out
  refine Eval.aload_n rfl rfl ?_
  refine Eval.iconst (x := (0 : Int32)) rfl rfl ?_
  refine Eval.putfield rfl rfl own_p1_logLength ?_
  refine Eval.aload_n rfl rfl ?_
  refine Eval.iconst (x := (0 : Int32)) rfl rfl ?_
  refine Eval.putfield rfl rfl own_p1_failMask ?_
  cases h
  subst hk
  exact Eval.retH own_mk1 rfl rfl
abbrev j_run_l18_K (R : AHeap) (scr : List Int32) (res : Int32 × Q) (out : Option Value × AHeap) : Prop := Eval own_P 45 46 [none, some (.int res.1), none] [] (W1 scr res.2 R) out

abbrev j_run_l18_N (s : Q) (res : Int32 × Q) : Prop := Q.len res.2 = Q.len s
abbrev j_runElement_l22_K (R : AHeap) (scr : List Int32) (res : Int32 × Q) (out : Option Value × AHeap) : Prop := Eval own_P 47 55 [none, none, none, some (.int res.1), none, none] [] (W1 scr res.2 R) out

abbrev j_runElement_l22_N (s : Q) (res : Int32 × Q) : Prop := Q.len res.2 = Q.len s
def j_addressAt (v1 v2 : Int32) : Int32 := (if v1 = (1 : Int32) then (((255 : Int32) - v2)) else (v2))
set_option maxRecDepth 100000 in
theorem ev_j_addressAt (H : AHeap) (a : Nat) (v1 v2 : Int32) {res : Int32} {out : Option Value × AHeap} (h : j_addressAt v1 v2 = res) (hk : out = (some (.int res), H)) : Eval own_P 48 0 [some (.ref a), some (.int v1), some (.int v2)] [] H out := by
  rw [j_addressAt] at h
  refine Eval.iload_n rfl rfl ?_
  refine Eval.iconst (x := (1 : Int32)) rfl rfl ?_
  by_cases hc280 : v1 = (1 : Int32)
  · rw [if_pos hc280] at h
    refine Eval.icmpF rfl (teq hc280).2 ?_
    refine Eval.sipush (x := (255 : Int32)) rfl rfl ?_
    refine Eval.iload_n rfl rfl ?_
    refine Eval.isub rfl ?_
    subst h
    subst hk
    exact Eval.ret rfl rfl
  · rw [if_neg hc280] at h
    refine Eval.icmpT (t := 11) rfl rfl (feq hc280).2 ?_
    refine Eval.iload_n rfl rfl ?_
    subst h
    subst hk
    exact Eval.ret rfl rfl
abbrev j_runOpsAt_l13_K (R : AHeap) (scr : List Int32) (res : Int32 × Q) (out : Option Value × AHeap) : Prop := Eval own_P 49 61 [none, none, none, none, some (.int res.1), none, none] [] (W1 scr res.2 R) out

abbrev j_runOpsAt_l13_N (s : Q) (res : Int32 × Q) : Prop := Q.len res.2 = Q.len s
def j_opAt (s : Q) (v1 v2 : Int32) : Option (Int32) := (if (j_isElementIndex s v1) = (0 : Int32) then some ((0 : Int32)) else (if v2 < (0 : Int32) then some ((0 : Int32)) else (if (3 : Int32) < v2 then some ((0 : Int32)) else (if inb s.f_elementOps.length v1 = true then some (((isr (rd s.f_elementOps v1) ((2 : Int32) * v2)) &&& (3 : Int32))) else none))))
set_option maxRecDepth 100000 in
theorem ev_j_opAt (R : AHeap) (scr : List Int32) (s : Q) (v1 v2 : Int32) {res : Int32} {out : Option Value × AHeap} (h : j_opAt s v1 v2 = some res) (hk : out = (some (.int res), (W1 scr s R))) : Eval own_P 50 0 [some (.ref 1), some (.int v1), some (.int v2)] [] (W1 scr s R) out := by
  rw [j_opAt] at h
  refine Eval.aload_n rfl rfl ?_
  refine Eval.iload_n rfl rfl ?_
  refine Eval.callI (rest := []) (x := (j_isElementIndex s v1)) (H1 := (W1 scr s R)) rfl rfl (ev_j_isElementIndex R scr s v1 rfl rfl) ?_
  by_cases hc284 : (j_isElementIndex s v1) = (0 : Int32)
  · rw [if_pos hc284] at h
    refine Eval.ifT (t := 17) rfl rfl (teq hc284).1 ?_
    refine Eval.iconst (x := (0 : Int32)) rfl rfl ?_
    cases h
    subst hk
    exact Eval.ret rfl rfl
  · rw [if_neg hc284] at h
    refine Eval.ifF rfl (feq hc284).1 ?_
    refine Eval.iload_n rfl rfl ?_
    by_cases hc285 : v2 < (0 : Int32)
    · rw [if_pos hc285] at h
      refine Eval.ifT (t := 17) rfl rfl (tlt hc285).1 ?_
      refine Eval.iconst (x := (0 : Int32)) rfl rfl ?_
      cases h
      subst hk
      exact Eval.ret rfl rfl
    · rw [if_neg hc285] at h
      refine Eval.ifF rfl (flt hc285).1 ?_
      refine Eval.iload_n rfl rfl ?_
      refine Eval.iconst (x := (3 : Int32)) rfl rfl ?_
      by_cases hc286 : (3 : Int32) < v2
      · rw [if_pos hc286] at h
        refine Eval.icmpF rfl (tlt hc286).2.2.2 ?_
        refine Eval.iconst (x := (0 : Int32)) rfl rfl ?_
        cases h
        subst hk
        exact Eval.ret rfl rfl
      · rw [if_neg hc286] at h
        refine Eval.icmpT (t := 19) rfl rfl (flt hc286).2.2.2 ?_
        refine Eval.aload_n rfl rfl ?_
        refine Eval.getfield rfl rfl own_g1_elementOps ?_
        refine Eval.iload_n rfl rfl ?_
        obtain ⟨hb287, h⟩ := ite_some h
        refine Eval.iaload rfl own_a1_elementOps hb287 ?_
        refine Eval.iconst (x := (2 : Int32)) rfl rfl ?_
        refine Eval.iload_n rfl rfl ?_
        refine Eval.imul rfl ?_
        refine Eval.ishr rfl ?_
        refine Eval.iconst (x := (3 : Int32)) rfl rfl ?_
        refine Eval.iand rfl ?_
        cases h
        subst hk
        exact Eval.ret rfl rfl
def j_routedCell_b37 (s : Q) (v1 : Int32) : Option (Int32) := some ((v1 &&& (255 : Int32)))
set_option maxRecDepth 100000 in
theorem ev_j_routedCell_b37 (R : AHeap) (scr : List Int32) (s : Q) (v1 : Int32) {res : Int32} {out : Option Value × AHeap} (h : j_routedCell_b37 s v1 = some res) (hk : out = (some (.int res), (W1 scr s R))) : Eval own_P 32 37 [none, some (.int v1), none, none] [] (W1 scr s R) out := by
  rw [j_routedCell_b37] at h
  refine Eval.iload_n rfl rfl ?_
  refine Eval.sipush (x := (255 : Int32)) rfl rfl ?_
  refine Eval.iand rfl ?_
  cases h
  subst hk
  exact Eval.ret rfl rfl
def j_routedCell (s : Q) (v1 : Int32) : Option (Int32) := (if inb s.f_remap.length ((isr v1 (4 : Int32)) &&& (15 : Int32)) = true then (if (rd s.f_remap ((isr v1 (4 : Int32)) &&& (15 : Int32))) < (0 : Int32) then (j_routedCell_b37 s v1) else (if (rd s.f_remap ((isr v1 (4 : Int32)) &&& (15 : Int32))) < (4 : Int32) then some ((((256 : Int32) + ((16 : Int32) * (rd s.f_remap ((isr v1 (4 : Int32)) &&& (15 : Int32))))) + (v1 &&& (15 : Int32)))) else (j_routedCell_b37 s v1))) else none)
set_option maxRecDepth 100000 in
theorem ev_j_routedCell (R : AHeap) (scr : List Int32) (s : Q) (v1 : Int32) {res : Int32} {out : Option Value × AHeap} (h : j_routedCell s v1 = some res) (hk : out = (some (.int res), (W1 scr s R))) : Eval own_P 32 0 [some (.ref 1), some (.int v1), none, none] [] (W1 scr s R) out := by
  rw [j_routedCell] at h
  refine Eval.iload_n rfl rfl ?_
  refine Eval.iconst (x := (4 : Int32)) rfl rfl ?_
  refine Eval.ishr rfl ?_
  refine Eval.bipush (x := (15 : Int32)) rfl rfl ?_
  refine Eval.iand rfl ?_
  refine Eval.istore_n (L' := [some (.ref 1), some (.int v1), some (.int ((isr v1 (4 : Int32)) &&& (15 : Int32))), none]) rfl rfl ?_
  refine Eval.aload_n rfl rfl ?_
  refine Eval.getfield rfl rfl own_g1_remap ?_
  refine Eval.iload_n rfl rfl ?_
  obtain ⟨hb291, h⟩ := ite_some h
  refine Eval.iaload rfl own_a1_remap hb291 ?_
  refine Eval.istore_n (L' := [some (.ref 1), some (.int v1), some (.int ((isr v1 (4 : Int32)) &&& (15 : Int32))), some (.int (rd s.f_remap ((isr v1 (4 : Int32)) &&& (15 : Int32))))]) rfl rfl ?_
  refine Eval.iload_n rfl rfl ?_
  by_cases hc292 : (rd s.f_remap ((isr v1 (4 : Int32)) &&& (15 : Int32))) < (0 : Int32)
  · rw [if_pos hc292] at h
    refine Eval.ifT (t := 37) rfl rfl (tlt hc292).1 ?_
    refine Eval.weak (lw_mk 2 _) ?_
    exact ev_j_routedCell_b37 R scr s v1 h hk
  · rw [if_neg hc292] at h
    refine Eval.ifF rfl (flt hc292).1 ?_
    refine Eval.iload_n rfl rfl ?_
    refine Eval.iconst (x := (4 : Int32)) rfl rfl ?_
    by_cases hc293 : (rd s.f_remap ((isr v1 (4 : Int32)) &&& (15 : Int32))) < (4 : Int32)
    · rw [if_pos hc293] at h
      refine Eval.icmpF rfl (tlt hc293).2.1 ?_
      refine Eval.sipush (x := (256 : Int32)) rfl rfl ?_
      refine Eval.bipush (x := (16 : Int32)) rfl rfl ?_
      refine Eval.iload_n rfl rfl ?_
      refine Eval.imul rfl ?_
      refine Eval.iadd rfl ?_
      refine Eval.iload_n rfl rfl ?_
      refine Eval.bipush (x := (15 : Int32)) rfl rfl ?_
      refine Eval.iand rfl ?_
      refine Eval.iadd rfl ?_
      cases h
      subst hk
      exact Eval.ret rfl rfl
    · rw [if_neg hc293] at h
      refine Eval.icmpT (t := 37) rfl rfl (flt hc293).2.1 ?_
      refine Eval.weak (lw_mk 2 _) ?_
      exact ev_j_routedCell_b37 R scr s v1 h hk
def j_victimKind (s : Q) (v1 : Int32) : Option (Int32) := (if (j_isAddress v1) = (0 : Int32) then some ((0 : Int32)) else (if inb s.f_victimSlot.length v1 = true then (if (rd s.f_victimSlot v1) < (1 : Int32) then some ((0 : Int32)) else (if (16 : Int32) < (rd s.f_victimSlot v1) then some ((0 : Int32)) else (if inb s.f_faultKind.length ((rd s.f_victimSlot v1) - (1 : Int32)) = true then some ((rd s.f_faultKind ((rd s.f_victimSlot v1) - (1 : Int32)))) else none))) else none))
set_option maxRecDepth 100000 in
theorem ev_j_victimKind (R : AHeap) (scr : List Int32) (s : Q) (v1 : Int32) {res : Int32} {out : Option Value × AHeap} (h : j_victimKind s v1 = some res) (hk : out = (some (.int res), (W1 scr s R))) : Eval own_P 35 0 [some (.ref 1), some (.int v1), none] [] (W1 scr s R) out := by
  rw [j_victimKind] at h
  refine Eval.aload_n rfl rfl ?_
  refine Eval.iload_n rfl rfl ?_
  refine Eval.callI (rest := []) (x := (j_isAddress v1)) (H1 := (W1 scr s R)) rfl rfl (ev_j_isAddress (W1 scr s R) 1 v1 rfl rfl) ?_
  by_cases hc298 : (j_isAddress v1) = (0 : Int32)
  · rw [if_pos hc298] at h
    refine Eval.ifF rfl (teq hc298).2 ?_
    refine Eval.iconst (x := (0 : Int32)) rfl rfl ?_
    cases h
    subst hk
    exact Eval.ret rfl rfl
  · rw [if_neg hc298] at h
    refine Eval.ifT (t := 10) rfl rfl (feq hc298).2 ?_
    refine Eval.aload_n rfl rfl ?_
    refine Eval.getfield rfl rfl own_g1_victimSlot ?_
    refine Eval.iload_n rfl rfl ?_
    obtain ⟨hb299, h⟩ := ite_some h
    refine Eval.iaload rfl own_a1_victimSlot hb299 ?_
    refine Eval.istore_n (L' := [some (.ref 1), some (.int v1), some (.int (rd s.f_victimSlot v1))]) rfl rfl ?_
    refine Eval.iload_n rfl rfl ?_
    refine Eval.iconst (x := (1 : Int32)) rfl rfl ?_
    by_cases hc300 : (rd s.f_victimSlot v1) < (1 : Int32)
    · rw [if_pos hc300] at h
      refine Eval.icmpT (t := 28) rfl rfl (tlt hc300).1 ?_
      refine Eval.iconst (x := (0 : Int32)) rfl rfl ?_
      cases h
      subst hk
      exact Eval.ret rfl rfl
    · rw [if_neg hc300] at h
      refine Eval.icmpF rfl (flt hc300).1 ?_
      refine Eval.iload_n rfl rfl ?_
      refine Eval.bipush (x := (16 : Int32)) rfl rfl ?_
      by_cases hc301 : (16 : Int32) < (rd s.f_victimSlot v1)
      · rw [if_pos hc301] at h
        refine Eval.icmpF rfl (tlt hc301).2.2.2 ?_
        refine Eval.iconst (x := (0 : Int32)) rfl rfl ?_
        cases h
        subst hk
        exact Eval.ret rfl rfl
      · rw [if_neg hc301] at h
        refine Eval.icmpT (t := 30) rfl rfl (flt hc301).2.2.2 ?_
        refine Eval.aload_n rfl rfl ?_
        refine Eval.getfield rfl rfl own_g1_faultKind ?_
        refine Eval.iload_n rfl rfl ?_
        refine Eval.iconst (x := (1 : Int32)) rfl rfl ?_
        refine Eval.isub rfl ?_
        obtain ⟨hb302, h⟩ := ite_some h
        refine Eval.iaload rfl own_a1_faultKind hb302 ?_
        cases h
        subst hk
        exact Eval.ret rfl rfl
def j_faultyNewBit_b44 (s : Q) (v2 v3 v4 : Int32) : Option (Int32) := (if v4 = (4 : Int32) then (if v2 = (1 : Int32) then (if v3 = (0 : Int32) then some (v2) else some (v3)) else some (v3)) else some (v3))
set_option maxRecDepth 100000 in
theorem ev_j_faultyNewBit_b44 (R : AHeap) (scr : List Int32) (s : Q) (v2 v3 v4 : Int32) {res : Int32} {out : Option Value × AHeap} (h : j_faultyNewBit_b44 s v2 v3 v4 = some res) (hk : out = (some (.int res), (W1 scr s R))) : Eval own_P 34 44 [none, none, some (.int v2), some (.int v3), some (.int v4)] [] (W1 scr s R) out := by
  rw [j_faultyNewBit_b44] at h
  refine Eval.iload rfl rfl ?_
  refine Eval.iconst (x := (4 : Int32)) rfl rfl ?_
  by_cases hc311 : v4 = (4 : Int32)
  · rw [if_pos hc311] at h
    refine Eval.icmpF rfl (teq hc311).2 ?_
    refine Eval.iload_n rfl rfl ?_
    refine Eval.iconst (x := (1 : Int32)) rfl rfl ?_
    by_cases hc312 : v2 = (1 : Int32)
    · rw [if_pos hc312] at h
      refine Eval.icmpF rfl (teq hc312).2 ?_
      refine Eval.iload_n rfl rfl ?_
      by_cases hc313 : v3 = (0 : Int32)
      · rw [if_pos hc313] at h
        refine Eval.ifF rfl (teq hc313).2 ?_
        refine Eval.iload_n rfl rfl ?_
        cases h
        subst hk
        exact Eval.ret rfl rfl
      · rw [if_neg hc313] at h
        refine Eval.ifT (t := 61) rfl rfl (feq hc313).2 ?_
        refine Eval.iload_n rfl rfl ?_
        cases h
        subst hk
        exact Eval.ret rfl rfl
    · rw [if_neg hc312] at h
      refine Eval.icmpT (t := 61) rfl rfl (feq hc312).2 ?_
      refine Eval.iload_n rfl rfl ?_
      cases h
      subst hk
      exact Eval.ret rfl rfl
  · rw [if_neg hc311] at h
    refine Eval.icmpT (t := 61) rfl rfl (feq hc311).2 ?_
    refine Eval.iload_n rfl rfl ?_
    cases h
    subst hk
    exact Eval.ret rfl rfl
def j_faultyNewBit (s : Q) (v1 v2 v3 : Int32) : Option (Int32) := ((j_victimKind s v1).bind fun p303 => (if p303 = (1 : Int32) then some (v2) else (if p303 = (2 : Int32) then some (v2) else (if p303 = (5 : Int32) then some (v2) else (if p303 = (3 : Int32) then (if v2 = (0 : Int32) then (if v3 = (1 : Int32) then some (v2) else (j_faultyNewBit_b44 s v2 v3 p303)) else (j_faultyNewBit_b44 s v2 v3 p303)) else (j_faultyNewBit_b44 s v2 v3 p303))))))
set_option maxRecDepth 100000 in
theorem ev_j_faultyNewBit (R : AHeap) (scr : List Int32) (s : Q) (v1 v2 v3 : Int32) {res : Int32} {out : Option Value × AHeap} (h : j_faultyNewBit s v1 v2 v3 = some res) (hk : out = (some (.int res), (W1 scr s R))) : Eval own_P 34 0 [some (.ref 1), some (.int v1), some (.int v2), some (.int v3), none] [] (W1 scr s R) out := by
  rw [j_faultyNewBit] at h
  refine Eval.aload_n rfl rfl ?_
  refine Eval.iload_n rfl rfl ?_
  obtain ⟨p303, hq304, h⟩ := bind_some h
  refine Eval.callI (rest := []) (x := p303) (H1 := (W1 scr s R)) rfl rfl (ev_j_victimKind R scr s v1 hq304 rfl) ?_
  refine Eval.istore (L' := [some (.ref 1), some (.int v1), some (.int v2), some (.int v3), some (.int p303)]) rfl rfl ?_
  refine Eval.iload rfl rfl ?_
  refine Eval.iconst (x := (1 : Int32)) rfl rfl ?_
  by_cases hc305 : p303 = (1 : Int32)
  · rw [if_pos hc305] at h
    refine Eval.icmpT (t := 25) rfl rfl (teq hc305).1 ?_
    refine Eval.iload_n rfl rfl ?_
    cases h
    subst hk
    exact Eval.ret rfl rfl
  · rw [if_neg hc305] at h
    refine Eval.icmpF rfl (feq hc305).1 ?_
    refine Eval.iload rfl rfl ?_
    refine Eval.iconst (x := (2 : Int32)) rfl rfl ?_
    by_cases hc306 : p303 = (2 : Int32)
    · rw [if_pos hc306] at h
      refine Eval.icmpT (t := 25) rfl rfl (teq hc306).1 ?_
      refine Eval.iload_n rfl rfl ?_
      cases h
      subst hk
      exact Eval.ret rfl rfl
    · rw [if_neg hc306] at h
      refine Eval.icmpF rfl (feq hc306).1 ?_
      refine Eval.iload rfl rfl ?_
      refine Eval.iconst (x := (5 : Int32)) rfl rfl ?_
      by_cases hc307 : p303 = (5 : Int32)
      · rw [if_pos hc307] at h
        refine Eval.icmpF rfl (teq hc307).2 ?_
        refine Eval.iload_n rfl rfl ?_
        cases h
        subst hk
        exact Eval.ret rfl rfl
      · rw [if_neg hc307] at h
        refine Eval.icmpT (t := 27) rfl rfl (feq hc307).2 ?_
        refine Eval.iload rfl rfl ?_
        refine Eval.iconst (x := (3 : Int32)) rfl rfl ?_
        by_cases hc308 : p303 = (3 : Int32)
        · rw [if_pos hc308] at h
          refine Eval.icmpF rfl (teq hc308).2 ?_
          refine Eval.iload_n rfl rfl ?_
          by_cases hc309 : v2 = (0 : Int32)
          · rw [if_pos hc309] at h
            refine Eval.ifF rfl (teq hc309).2 ?_
            refine Eval.iload_n rfl rfl ?_
            refine Eval.iconst (x := (1 : Int32)) rfl rfl ?_
            by_cases hc310 : v3 = (1 : Int32)
            · rw [if_pos hc310] at h
              refine Eval.icmpF rfl (teq hc310).2 ?_
              refine Eval.iload_n rfl rfl ?_
              cases h
              subst hk
              exact Eval.ret rfl rfl
            · rw [if_neg hc310] at h
              refine Eval.icmpT (t := 44) rfl rfl (feq hc310).2 ?_
              refine Eval.weak (lw_mk 28 _) ?_
              exact ev_j_faultyNewBit_b44 R scr s v2 v3 p303 h hk
          · rw [if_neg hc309] at h
            refine Eval.ifT (t := 44) rfl rfl (feq hc309).2 ?_
            refine Eval.weak (lw_mk 28 _) ?_
            exact ev_j_faultyNewBit_b44 R scr s v2 v3 p303 h hk
        · rw [if_neg hc308] at h
          refine Eval.icmpT (t := 44) rfl rfl (feq hc308).2 ?_
          refine Eval.weak (lw_mk 28 _) ?_
          exact ev_j_faultyNewBit_b44 R scr s v2 v3 p303 h hk
abbrev j_fireCouplings_l2_K (R : AHeap) (scr : List Int32) (res : Q) (out : Option Value × AHeap) : Prop := Eval own_P 54 77 [none, none, none, none, none] [] (W1 scr res R) out

abbrev j_fireCouplings_l2_N (s res : Q) : Prop := Q.len res = Q.len s
def j_triggerMatches_b14 (v2 w0 : Int32) : Int32 := (if w0 = v2 then ((1 : Int32)) else ((0 : Int32)))
set_option maxRecDepth 100000 in
theorem ev_j_triggerMatches_b14 (H : AHeap) (a : Nat) (v2 w0 : Int32) {res : Int32} {out : Option Value × AHeap} (h : j_triggerMatches_b14 v2 w0 = res) (hk : out = (some (.int res), H)) : Eval own_P 55 14 [none, none, some (.int v2), none] [.int w0] H out := by
  rw [j_triggerMatches_b14] at h
  refine Eval.istore_n (L' := [none, none, some (.int v2), some (.int w0)]) rfl rfl ?_
  refine Eval.iload_n rfl rfl ?_
  refine Eval.iload_n rfl rfl ?_
  by_cases hc335 : w0 = v2
  · rw [if_pos hc335] at h
    refine Eval.icmpF rfl (teq hc335).2 ?_
    refine Eval.iconst (x := (1 : Int32)) rfl rfl ?_
    refine Eval.goto (t := 25) rfl rfl ?_
    subst h
    subst hk
    exact Eval.ret rfl rfl
  · rw [if_neg hc335] at h
    refine Eval.icmpT (t := 24) rfl rfl (feq hc335).2 ?_
    refine Eval.iconst (x := (0 : Int32)) rfl rfl ?_
    subst h
    subst hk
    exact Eval.ret rfl rfl
def j_triggerMatches (v1 v2 : Int32) : Int32 := (j_triggerMatches_b14 v2 (if v1 = (0 : Int32) then (1 : Int32) else (if v1 = (1 : Int32) then (1 : Int32) else (0 : Int32))))
set_option maxRecDepth 100000 in
theorem ev_j_triggerMatches (H : AHeap) (a : Nat) (v1 v2 : Int32) {res : Int32} {out : Option Value × AHeap} (h : j_triggerMatches v1 v2 = res) (hk : out = (some (.int res), H)) : Eval own_P 55 0 [some (.ref a), some (.int v1), some (.int v2), none] [] H out := by
  rw [j_triggerMatches] at h
  refine Eval.iload_n rfl rfl ?_
  suffices hJ334 : Eval own_P 55 14 [none, none, some (.int v2), none] [.int (if v1 = (0 : Int32) then (1 : Int32) else (if v1 = (1 : Int32) then (1 : Int32) else (0 : Int32)))] H out by
    by_cases hc332 : v1 = (0 : Int32)
    · refine Eval.ifT (t := 9) rfl rfl (teq hc332).1 ?_
      refine Eval.iconst (x := (1 : Int32)) rfl rfl ?_
      refine Eval.goto (t := 14) rfl rfl ?_
      refine Eval.weak (lw_mk 4 _) ?_
      exact (Eval.conv hJ334 rfl (by simp only [if_pos hc332]))
    · refine Eval.ifF rfl (feq hc332).1 ?_
      refine Eval.iload_n rfl rfl ?_
      refine Eval.iconst (x := (1 : Int32)) rfl rfl ?_
      by_cases hc333 : v1 = (1 : Int32)
      · refine Eval.icmpF rfl (teq hc333).2 ?_
        refine Eval.iconst (x := (1 : Int32)) rfl rfl ?_
        refine Eval.goto (t := 14) rfl rfl ?_
        refine Eval.weak (lw_mk 4 _) ?_
        exact (Eval.conv hJ334 rfl (by simp only [if_neg hc332, if_pos hc333]))
      · refine Eval.icmpT (t := 13) rfl rfl (feq hc333).2 ?_
        refine Eval.iconst (x := (0 : Int32)) rfl rfl ?_
        refine Eval.weak (lw_mk 4 _) ?_
        exact (Eval.conv hJ334 rfl (by simp only [if_neg hc332, if_neg hc333]))
  exact ev_j_triggerMatches_b14 H a v2 (if v1 = (0 : Int32) then (1 : Int32) else (if v1 = (1 : Int32) then (1 : Int32) else (0 : Int32))) h hk
def j_fireCouplings_b71 (go_ : Q → Int32 → Int32 → Int32 → Option (Q)) (s : Q) (v1 v2 v3 : Int32) : Option (Q) := (go_ s v1 v2 (v3 + (1 : Int32)))
set_option maxRecDepth 100000 in
theorem ev_j_fireCouplings_b71 (R : AHeap) (scr : List Int32) (go_ : Q → Int32 → Int32 → Int32 → Option (Q)) (hrec : ∀ (s : Q) (v1 v2 v3 : Int32) {res : Q} {out : Option Value × AHeap}, go_ s v1 v2 v3 = some res → j_fireCouplings_l2_K R scr res out → Eval own_P 54 2 [some (.ref 1), some (.int v1), some (.int v2), some (.int v3), none] [] (W1 scr s R) out) (s : Q) (v1 v2 v3 : Int32) {res : Q} {out : Option Value × AHeap} (h : j_fireCouplings_b71 go_ s v1 v2 v3 = some res) (hk : j_fireCouplings_l2_K R scr res out) : Eval own_P 54 71 [some (.ref 1), some (.int v1), some (.int v2), some (.int v3), none] [] (W1 scr s R) out := by
  rw [j_fireCouplings_b71] at h
  refine Eval.iinc (L' := [some (.ref 1), some (.int v1), some (.int v2), some (.int (v3 + (1 : Int32))), none]) rfl rfl rfl ?_
  refine Eval.goto (t := 2) rfl rfl ?_
  exact hrec _ _ _ _ h hk
def j_forcedBit (v1 : Int32) : Int32 := (if v1 = (1 : Int32) then ((1 : Int32)) else (if v1 = (3 : Int32) then ((1 : Int32)) else ((0 : Int32))))
set_option maxRecDepth 100000 in
theorem ev_j_forcedBit (H : AHeap) (a : Nat) (v1 : Int32) {res : Int32} {out : Option Value × AHeap} (h : j_forcedBit v1 = res) (hk : out = (some (.int res), H)) : Eval own_P 56 0 [some (.ref a), some (.int v1)] [] H out := by
  rw [j_forcedBit] at h
  refine Eval.iload_n rfl rfl ?_
  refine Eval.iconst (x := (1 : Int32)) rfl rfl ?_
  by_cases hc339 : v1 = (1 : Int32)
  · rw [if_pos hc339] at h
    refine Eval.icmpT (t := 10) rfl rfl (teq hc339).1 ?_
    refine Eval.iconst (x := (1 : Int32)) rfl rfl ?_
    subst h
    subst hk
    exact Eval.ret rfl rfl
  · rw [if_neg hc339] at h
    refine Eval.icmpF rfl (feq hc339).1 ?_
    refine Eval.iload_n rfl rfl ?_
    refine Eval.iconst (x := (3 : Int32)) rfl rfl ?_
    by_cases hc340 : v1 = (3 : Int32)
    · rw [if_pos hc340] at h
      refine Eval.icmpF rfl (teq hc340).2 ?_
      refine Eval.iconst (x := (1 : Int32)) rfl rfl ?_
      subst h
      subst hk
      exact Eval.ret rfl rfl
    · rw [if_neg hc340] at h
      refine Eval.icmpT (t := 12) rfl rfl (feq hc340).2 ?_
      refine Eval.iconst (x := (0 : Int32)) rfl rfl ?_
      subst h
      subst hk
      exact Eval.ret rfl rfl
def j_forceVictim (s : Q) (v1 v2 : Int32) : Option (Q) := (if (j_isAddress v1) = (0 : Int32) then some (s) else (if inb s.f_cells.length v1 = true then some ((Q.mk (wr s.f_cells v1 (i8 (i8 (v2 &&& (1 : Int32))))) s.f_faultKind s.f_faultVictim s.f_faultAggressor s.f_faultTrigger s.f_victimSlot s.f_aggressorUses s.f_elementOrder s.f_elementCount s.f_elementOps s.f_logBuffer s.f_remap s.f_spareTaken s.f_spareRows s.f_faultLimit s.f_logLimit s.f_latchBit s.f_faultCount s.f_programLength s.f_logLength s.f_failMask)) else none))
set_option maxRecDepth 100000 in
theorem ev_j_forceVictim (R : AHeap) (scr : List Int32) (s : Q) (v1 v2 : Int32) {res : Q} {out : Option Value × AHeap} (h : j_forceVictim s v1 v2 = some res) (hk : out = (none, (W1 scr res R))) : Eval own_P 57 0 [some (.ref 1), some (.int v1), some (.int v2)] [] (W1 scr s R) out := by
  rw [j_forceVictim] at h
  refine Eval.aload_n rfl rfl ?_
  refine Eval.iload_n rfl rfl ?_
  refine Eval.callI (rest := []) (x := (j_isAddress v1)) (H1 := (W1 scr s R)) rfl rfl (ev_j_isAddress (W1 scr s R) 1 v1 rfl rfl) ?_
  by_cases hc341 : (j_isAddress v1) = (0 : Int32)
  · rw [if_pos hc341] at h
    refine Eval.ifT (t := 18) rfl rfl (teq hc341).1 ?_
    cases h
    subst hk
    exact Eval.ret rfl rfl
  · rw [if_neg hc341] at h
    refine Eval.ifF rfl (feq hc341).1 ?_
    refine Eval.aload_n rfl rfl ?_
    refine Eval.getfield rfl rfl own_g1_cells ?_
    refine Eval.iload_n rfl rfl ?_
    refine Eval.iload_n rfl rfl ?_
    refine Eval.iconst (x := (1 : Int32)) rfl rfl ?_
    refine Eval.iand rfl ?_
    refine Eval.i2b rfl ?_
    obtain ⟨hb342, h⟩ := ite_some h
    refine Eval.bastoreB rfl rfl own_a1_cells hb342 own_s1_cells ?_
    cases h
    subst hk
    exact Eval.retH own_mk1 rfl rfl
def j_fireCouplings_l2 : Nat → Q → Int32 → Int32 → Int32 → Option (Q)
  | 0, _, _, _, _ => none
  | n + 1, s, v1, v2, v3 => (if v3 < s.f_faultCount then (if v3 < (16 : Int32) then (if inb s.f_faultKind.length v3 = true then (if (rd s.f_faultKind v3) = (6 : Int32) then (if inb s.f_faultAggressor.length v3 = true then (if (rd s.f_faultAggressor v3) = v1 then (if inb s.f_faultTrigger.length v3 = true then (if (j_triggerMatches (rd s.f_faultTrigger v3) v2) = (0 : Int32) then (j_fireCouplings_b71 (j_fireCouplings_l2 n) s v1 v2 v3) else (if inb s.f_faultVictim.length v3 = true then ((j_forceVictim s (rd s.f_faultVictim v3) (j_forcedBit (rd s.f_faultTrigger v3))).bind fun p343 => (j_fireCouplings_b71 (j_fireCouplings_l2 n) p343 v1 v2 v3)) else none)) else none) else (j_fireCouplings_b71 (j_fireCouplings_l2 n) s v1 v2 v3)) else none) else (j_fireCouplings_b71 (j_fireCouplings_l2 n) s v1 v2 v3)) else none) else some (s)) else some (s))
set_option maxRecDepth 100000 in
theorem ev_j_fireCouplings_l2 (R : AHeap) (scr : List Int32) : ∀ (n : Nat) (s : Q) (v1 v2 v3 : Int32) {res : Q} {out : Option Value × AHeap}, j_fireCouplings_l2 n s v1 v2 v3 = some res → j_fireCouplings_l2_K R scr res out → Eval own_P 54 2 [some (.ref 1), some (.int v1), some (.int v2), some (.int v3), none] [] (W1 scr s R) out := by
  intro n
  induction n with
  | zero => intro _ _ _ _ res out h hk; cases h
  | succ n hrec =>
    intro s v1 v2 v3 res out h hk
    rw [j_fireCouplings_l2] at h
    refine Eval.iload_n rfl rfl ?_
    refine Eval.aload_n rfl rfl ?_
    refine Eval.getfield rfl rfl own_g1_faultCount ?_
    by_cases hc323 : v3 < s.f_faultCount
    · rw [if_pos hc323] at h
      refine Eval.icmpF rfl (tlt hc323).2.1 ?_
      refine Eval.iload_n rfl rfl ?_
      refine Eval.bipush (x := (16 : Int32)) rfl rfl ?_
      by_cases hc324 : v3 < (16 : Int32)
      · rw [if_pos hc324] at h
        refine Eval.icmpF rfl (tlt hc324).2.1 ?_
        refine Eval.aload_n rfl rfl ?_
        refine Eval.getfield rfl rfl own_g1_faultKind ?_
        refine Eval.iload_n rfl rfl ?_
        obtain ⟨hb325, h⟩ := ite_some h
        refine Eval.iaload rfl own_a1_faultKind hb325 ?_
        refine Eval.bipush (x := (6 : Int32)) rfl rfl ?_
        by_cases hc327 : (rd s.f_faultKind v3) = (6 : Int32)
        · rw [if_pos hc327] at h
          refine Eval.icmpF rfl (teq hc327).2 ?_
          refine Eval.aload_n rfl rfl ?_
          refine Eval.getfield rfl rfl own_g1_faultAggressor ?_
          refine Eval.iload_n rfl rfl ?_
          obtain ⟨hb328, h⟩ := ite_some h
          refine Eval.iaload rfl own_a1_faultAggressor hb328 ?_
          refine Eval.iload_n rfl rfl ?_
          by_cases hc330 : (rd s.f_faultAggressor v3) = v1
          · rw [if_pos hc330] at h
            refine Eval.icmpF rfl (teq hc330).2 ?_
            refine Eval.aload_n rfl rfl ?_
            refine Eval.getfield rfl rfl own_g1_faultTrigger ?_
            refine Eval.iload_n rfl rfl ?_
            obtain ⟨hb331, h⟩ := ite_some h
            refine Eval.iaload rfl own_a1_faultTrigger hb331 ?_
            refine Eval.istore (L' := [some (.ref 1), some (.int v1), some (.int v2), some (.int v3), some (.int (rd s.f_faultTrigger v3))]) rfl rfl ?_
            refine Eval.aload_n rfl rfl ?_
            refine Eval.iload rfl rfl ?_
            refine Eval.iload_n rfl rfl ?_
            refine Eval.callI (rest := []) (x := (j_triggerMatches (rd s.f_faultTrigger v3) v2)) (H1 := (W1 scr s R)) rfl rfl (ev_j_triggerMatches (W1 scr s R) 1 (rd s.f_faultTrigger v3) v2 rfl rfl) ?_
            by_cases hc337 : (j_triggerMatches (rd s.f_faultTrigger v3) v2) = (0 : Int32)
            · rw [if_pos hc337] at h
              refine Eval.ifT (t := 71) rfl rfl (teq hc337).1 ?_
              refine Eval.weak (lw_mk 15 _) ?_
              exact ev_j_fireCouplings_b71 R scr _ hrec s v1 v2 v3 h hk
            · rw [if_neg hc337] at h
              refine Eval.ifF rfl (feq hc337).1 ?_
              refine Eval.aload_n rfl rfl ?_
              refine Eval.aload_n rfl rfl ?_
              refine Eval.getfield rfl rfl own_g1_faultVictim ?_
              refine Eval.iload_n rfl rfl ?_
              obtain ⟨hb338, h⟩ := ite_some h
              refine Eval.iaload rfl own_a1_faultVictim hb338 ?_
              refine Eval.aload_n rfl rfl ?_
              refine Eval.iload rfl rfl ?_
              refine Eval.callI (rest := [.int (rd s.f_faultVictim v3), .ref 1]) (x := (j_forcedBit (rd s.f_faultTrigger v3))) (H1 := (W1 scr s R)) rfl rfl (ev_j_forcedBit (W1 scr s R) 1 (rd s.f_faultTrigger v3) rfl rfl) ?_
              obtain ⟨p343, hq344, h⟩ := bind_some h
              refine Eval.callN (rest := []) (H1 := (W1 scr p343 R)) rfl rfl (ev_j_forceVictim R scr s (rd s.f_faultVictim v3) (j_forcedBit (rd s.f_faultTrigger v3)) hq344 rfl) ?_
              refine Eval.weak (lw_mk 15 _) ?_
              exact ev_j_fireCouplings_b71 R scr _ hrec p343 v1 v2 v3 h hk
          · rw [if_neg hc330] at h
            refine Eval.icmpT (t := 71) rfl rfl (feq hc330).2 ?_
            exact ev_j_fireCouplings_b71 R scr _ hrec s v1 v2 v3 h hk
        · rw [if_neg hc327] at h
          refine Eval.icmpT (t := 71) rfl rfl (feq hc327).2 ?_
          exact ev_j_fireCouplings_b71 R scr _ hrec s v1 v2 v3 h hk
      · rw [if_neg hc324] at h
        refine Eval.icmpT (t := 77) rfl rfl (flt hc324).2.1 ?_
        cases h
        refine Eval.weak (lw_mk 0 _) ?_
        exact hk
    · rw [if_neg hc323] at h
      refine Eval.icmpT (t := 77) rfl rfl (flt hc323).2.1 ?_
      cases h
      refine Eval.weak (lw_mk 0 _) ?_
      exact hk
def j_fireCouplings (s : Q) (v1 v2 : Int32) : Option (Q) := ((j_fireCouplings_l2 3000 s v1 v2 (0 : Int32)).bind fun p346 => some (p346))
set_option maxRecDepth 100000 in
theorem ev_j_fireCouplings (R : AHeap) (scr : List Int32) (s : Q) (v1 v2 : Int32) {res : Q} {out : Option Value × AHeap} (h : j_fireCouplings s v1 v2 = some res) (hk : out = (none, (W1 scr res R))) : Eval own_P 54 0 [some (.ref 1), some (.int v1), some (.int v2), none, none] [] (W1 scr s R) out := by
  rw [j_fireCouplings] at h
  refine Eval.iconst (x := (0 : Int32)) rfl rfl ?_
  refine Eval.istore_n (L' := [some (.ref 1), some (.int v1), some (.int v2), some (.int (0 : Int32)), none]) rfl rfl ?_
  obtain ⟨p346, hq347, h⟩ := bind_some h
  refine ev_j_fireCouplings_l2 R scr _ s v1 v2 (0 : Int32) hq347 ?_
  show Eval own_P 54 77 [none, none, none, none, none] [] (W1 scr p346 R) out
  cases h
  subst hk
  exact Eval.ret rfl rfl
def j_writeMain_b52 (s : Q) (w1 w2 : Int32) : Option (Q) := ((j_fireCouplings s w1 w2).bind fun p349 => some (p349))
set_option maxRecDepth 100000 in
theorem ev_j_writeMain_b52 (R : AHeap) (scr : List Int32) (s : Q) (w1 w2 : Int32) {res : Q} {out : Option Value × AHeap} (h : j_writeMain_b52 s w1 w2 = some res) (hk : out = (none, (W1 scr res R))) : Eval own_P 33 52 [none, none, none, none, none] [.int w2, .int w1, .ref 1] (W1 scr s R) out := by
  rw [j_writeMain_b52] at h
  obtain ⟨p349, hq350, h⟩ := bind_some h
  refine Eval.callN (rest := []) (H1 := (W1 scr p349 R)) rfl rfl (ev_j_fireCouplings R scr s w1 w2 hq350 rfl) ?_
  cases h
  subst hk
  exact Eval.ret rfl rfl
def j_writeMain (s : Q) (v1 v2 : Int32) : Option (Q) := (if inb s.f_cells.length v1 = true then ((j_faultyNewBit s v1 (rd s.f_cells v1) v2).bind fun p314 => (if inb s.f_cells.length v1 = true then (if p314 = (rd s.f_cells v1) then some ((Q.mk (wr s.f_cells v1 (i8 (i8 p314))) s.f_faultKind s.f_faultVictim s.f_faultAggressor s.f_faultTrigger s.f_victimSlot s.f_aggressorUses s.f_elementOrder s.f_elementCount s.f_elementOps s.f_logBuffer s.f_remap s.f_spareTaken s.f_spareRows s.f_faultLimit s.f_logLimit s.f_latchBit s.f_faultCount s.f_programLength s.f_logLength s.f_failMask)) else ((j_isAggressor (Q.mk (wr s.f_cells v1 (i8 (i8 p314))) s.f_faultKind s.f_faultVictim s.f_faultAggressor s.f_faultTrigger s.f_victimSlot s.f_aggressorUses s.f_elementOrder s.f_elementCount s.f_elementOps s.f_logBuffer s.f_remap s.f_spareTaken s.f_spareRows s.f_faultLimit s.f_logLimit s.f_latchBit s.f_faultCount s.f_programLength s.f_logLength s.f_failMask) v1).bind fun p318 => (if p318 = (0 : Int32) then some ((Q.mk (wr s.f_cells v1 (i8 (i8 p314))) s.f_faultKind s.f_faultVictim s.f_faultAggressor s.f_faultTrigger s.f_victimSlot s.f_aggressorUses s.f_elementOrder s.f_elementCount s.f_elementOps s.f_logBuffer s.f_remap s.f_spareTaken s.f_spareRows s.f_faultLimit s.f_logLimit s.f_latchBit s.f_faultCount s.f_programLength s.f_logLength s.f_failMask)) else (j_writeMain_b52 (Q.mk (wr s.f_cells v1 (i8 (i8 p314))) s.f_faultKind s.f_faultVictim s.f_faultAggressor s.f_faultTrigger s.f_victimSlot s.f_aggressorUses s.f_elementOrder s.f_elementCount s.f_elementOps s.f_logBuffer s.f_remap s.f_spareTaken s.f_spareRows s.f_faultLimit s.f_logLimit s.f_latchBit s.f_faultCount s.f_programLength s.f_logLength s.f_failMask) v1 (if p314 = (1 : Int32) then (1 : Int32) else (0 : Int32)))))) else none)) else none)
set_option maxRecDepth 100000 in
theorem ev_j_writeMain (R : AHeap) (scr : List Int32) (s : Q) (v1 v2 : Int32) {res : Q} {out : Option Value × AHeap} (h : j_writeMain s v1 v2 = some res) (hk : out = (none, (W1 scr res R))) : Eval own_P 33 0 [some (.ref 1), some (.int v1), some (.int v2), none, none] [] (W1 scr s R) out := by
  rw [j_writeMain] at h
  refine Eval.aload_n rfl rfl ?_
  refine Eval.getfield rfl rfl own_g1_cells ?_
  refine Eval.iload_n rfl rfl ?_
  obtain ⟨hb297, h⟩ := ite_some h
  refine Eval.baloadB rfl own_a1_cells hb297 ?_
  refine Eval.istore_n (L' := [some (.ref 1), some (.int v1), some (.int v2), some (.int (rd s.f_cells v1)), none]) rfl rfl ?_
  refine Eval.aload_n rfl rfl ?_
  refine Eval.iload_n rfl rfl ?_
  refine Eval.iload_n rfl rfl ?_
  refine Eval.iload_n rfl rfl ?_
  obtain ⟨p314, hq315, h⟩ := bind_some h
  refine Eval.callI (rest := []) (x := p314) (H1 := (W1 scr s R)) rfl rfl (ev_j_faultyNewBit R scr s v1 (rd s.f_cells v1) v2 hq315 rfl) ?_
  refine Eval.istore (L' := [some (.ref 1), some (.int v1), some (.int v2), some (.int (rd s.f_cells v1)), some (.int p314)]) rfl rfl ?_
  refine Eval.aload_n rfl rfl ?_
  refine Eval.getfield rfl rfl own_g1_cells ?_
  refine Eval.iload_n rfl rfl ?_
  refine Eval.iload rfl rfl ?_
  refine Eval.i2b rfl ?_
  obtain ⟨hb316, h⟩ := ite_some h
  refine Eval.bastoreB rfl rfl own_a1_cells hb316 own_s1_cells ?_
  refine Eval.iload rfl rfl ?_
  refine Eval.iload_n rfl rfl ?_
  by_cases hc317 : p314 = (rd s.f_cells v1)
  · rw [if_pos hc317] at h
    refine Eval.icmpT (t := 55) rfl rfl (teq hc317).1 ?_
    cases h
    subst hk
    exact Eval.retH own_mk1 rfl rfl
  · rw [if_neg hc317] at h
    refine Eval.icmpF rfl (feq hc317).1 ?_
    refine Eval.aload_n rfl rfl ?_
    refine Eval.iload_n rfl rfl ?_
    obtain ⟨p318, hq319, h⟩ := bind_some h
    refine Eval.callI (rest := []) (x := p318) (H1 := (C1 scr (wr s.f_cells v1 (i8 (i8 p314))) s.f_faultKind s.f_faultVictim s.f_faultAggressor s.f_faultTrigger s.f_victimSlot s.f_aggressorUses s.f_elementOrder s.f_elementCount s.f_elementOps s.f_logBuffer s.f_remap s.f_spareTaken s.f_spareRows s.f_faultLimit s.f_logLimit s.f_latchBit s.f_faultCount s.f_programLength s.f_logLength s.f_failMask R)) rfl rfl (Eval.heap own_mk1 (ev_j_isAggressor R scr (Q.mk (wr s.f_cells v1 (i8 (i8 p314))) s.f_faultKind s.f_faultVictim s.f_faultAggressor s.f_faultTrigger s.f_victimSlot s.f_aggressorUses s.f_elementOrder s.f_elementCount s.f_elementOps s.f_logBuffer s.f_remap s.f_spareTaken s.f_spareRows s.f_faultLimit s.f_logLimit s.f_latchBit s.f_faultCount s.f_programLength s.f_logLength s.f_failMask) v1 hq319 (congrArg (Prod.mk _) own_mk1.symm))) ?_
    by_cases hc320 : p318 = (0 : Int32)
    · rw [if_pos hc320] at h
      refine Eval.ifT (t := 55) rfl rfl (teq hc320).1 ?_
      cases h
      subst hk
      exact Eval.retH own_mk1 rfl rfl
    · rw [if_neg hc320] at h
      refine Eval.ifF rfl (feq hc320).1 ?_
      refine Eval.aload_n rfl rfl ?_
      refine Eval.iload_n rfl rfl ?_
      refine Eval.iload rfl rfl ?_
      refine Eval.iconst (x := (1 : Int32)) rfl rfl ?_
      suffices hJ322 : Eval own_P 33 52 [none, none, none, none, none] [.int (if p314 = (1 : Int32) then (1 : Int32) else (0 : Int32)), .int v1, .ref 1] (C1 scr (wr s.f_cells v1 (i8 (i8 p314))) s.f_faultKind s.f_faultVictim s.f_faultAggressor s.f_faultTrigger s.f_victimSlot s.f_aggressorUses s.f_elementOrder s.f_elementCount s.f_elementOps s.f_logBuffer s.f_remap s.f_spareTaken s.f_spareRows s.f_faultLimit s.f_logLimit s.f_latchBit s.f_faultCount s.f_programLength s.f_logLength s.f_failMask R) out by
        by_cases hc321 : p314 = (1 : Int32)
        · refine Eval.icmpF rfl (teq hc321).2 ?_
          refine Eval.iconst (x := (1 : Int32)) rfl rfl ?_
          refine Eval.goto (t := 52) rfl rfl ?_
          refine Eval.weak (lw_mk 0 _) ?_
          exact (Eval.conv hJ322 rfl (by simp only [if_pos hc321]))
        · refine Eval.icmpT (t := 51) rfl rfl (feq hc321).2 ?_
          refine Eval.iconst (x := (0 : Int32)) rfl rfl ?_
          refine Eval.weak (lw_mk 0 _) ?_
          exact (Eval.conv hJ322 rfl (by simp only [if_neg hc321]))
      refine Eval.heap own_mk1 ?_
      exact ev_j_writeMain_b52 R scr (Q.mk (wr s.f_cells v1 (i8 (i8 p314))) s.f_faultKind s.f_faultVictim s.f_faultAggressor s.f_faultTrigger s.f_victimSlot s.f_aggressorUses s.f_elementOrder s.f_elementCount s.f_elementOps s.f_logBuffer s.f_remap s.f_spareTaken s.f_spareRows s.f_faultLimit s.f_logLimit s.f_latchBit s.f_faultCount s.f_programLength s.f_logLength s.f_failMask) v1 (if p314 = (1 : Int32) then (1 : Int32) else (0 : Int32)) h hk
def j_writeRouted (s : Q) (v1 v2 : Int32) : Option (Q) := ((j_routedCell s v1).bind fun p294 => (if p294 < (256 : Int32) then ((j_writeMain s p294 (v2 &&& (1 : Int32))).bind fun p352 => some (p352)) else (if inb s.f_cells.length p294 = true then some ((Q.mk (wr s.f_cells p294 (i8 (i8 (v2 &&& (1 : Int32))))) s.f_faultKind s.f_faultVictim s.f_faultAggressor s.f_faultTrigger s.f_victimSlot s.f_aggressorUses s.f_elementOrder s.f_elementCount s.f_elementOps s.f_logBuffer s.f_remap s.f_spareTaken s.f_spareRows s.f_faultLimit s.f_logLimit s.f_latchBit s.f_faultCount s.f_programLength s.f_logLength s.f_failMask)) else none)))
set_option maxRecDepth 100000 in
theorem ev_j_writeRouted (R : AHeap) (scr : List Int32) (s : Q) (v1 v2 : Int32) {res : Q} {out : Option Value × AHeap} (h : j_writeRouted s v1 v2 = some res) (hk : out = (none, (W1 scr res R))) : Eval own_P 31 0 [some (.ref 1), some (.int v1), some (.int v2), none] [] (W1 scr s R) out := by
  rw [j_writeRouted] at h
  refine Eval.aload_n rfl rfl ?_
  refine Eval.iload_n rfl rfl ?_
  obtain ⟨p294, hq295, h⟩ := bind_some h
  refine Eval.callI (rest := []) (x := p294) (H1 := (W1 scr s R)) rfl rfl (ev_j_routedCell R scr s v1 hq295 rfl) ?_
  refine Eval.istore_n (L' := [some (.ref 1), some (.int v1), some (.int v2), some (.int p294)]) rfl rfl ?_
  refine Eval.iload_n rfl rfl ?_
  refine Eval.sipush (x := (256 : Int32)) rfl rfl ?_
  by_cases hc296 : p294 < (256 : Int32)
  · rw [if_pos hc296] at h
    refine Eval.icmpT (t := 24) rfl rfl (tlt hc296).1 ?_
    refine Eval.aload_n rfl rfl ?_
    refine Eval.iload_n rfl rfl ?_
    refine Eval.iload_n rfl rfl ?_
    refine Eval.iconst (x := (1 : Int32)) rfl rfl ?_
    refine Eval.iand rfl ?_
    obtain ⟨p352, hq353, h⟩ := bind_some h
    refine Eval.callN (rest := []) (H1 := (W1 scr p352 R)) rfl rfl (ev_j_writeMain R scr s p294 (v2 &&& (1 : Int32)) hq353 rfl) ?_
    cases h
    subst hk
    exact Eval.ret rfl rfl
  · rw [if_neg hc296] at h
    refine Eval.icmpF rfl (flt hc296).1 ?_
    refine Eval.aload_n rfl rfl ?_
    refine Eval.getfield rfl rfl own_g1_cells ?_
    refine Eval.iload_n rfl rfl ?_
    refine Eval.iload_n rfl rfl ?_
    refine Eval.iconst (x := (1 : Int32)) rfl rfl ?_
    refine Eval.iand rfl ?_
    refine Eval.i2b rfl ?_
    obtain ⟨hb355, h⟩ := ite_some h
    refine Eval.bastoreB rfl rfl own_a1_cells hb355 own_s1_cells ?_
    cases h
    subst hk
    exact Eval.retH own_mk1 rfl rfl
def j_readMain (s : Q) (v1 : Int32) : Option (Int32) := ((j_victimKind s v1).bind fun p369 => (if p369 = (1 : Int32) then some ((0 : Int32)) else (if p369 = (2 : Int32) then some ((1 : Int32)) else (if p369 = (5 : Int32) then some (s.f_latchBit) else (if inb s.f_cells.length v1 = true then some ((rd s.f_cells v1)) else none)))))
set_option maxRecDepth 100000 in
theorem ev_j_readMain (R : AHeap) (scr : List Int32) (s : Q) (v1 : Int32) {res : Int32} {out : Option Value × AHeap} (h : j_readMain s v1 = some res) (hk : out = (some (.int res), (W1 scr s R))) : Eval own_P 38 0 [some (.ref 1), some (.int v1), none] [] (W1 scr s R) out := by
  rw [j_readMain] at h
  refine Eval.aload_n rfl rfl ?_
  refine Eval.iload_n rfl rfl ?_
  obtain ⟨p369, hq370, h⟩ := bind_some h
  refine Eval.callI (rest := []) (x := p369) (H1 := (W1 scr s R)) rfl rfl (ev_j_victimKind R scr s v1 hq370 rfl) ?_
  refine Eval.istore_n (L' := [some (.ref 1), some (.int v1), some (.int p369)]) rfl rfl ?_
  refine Eval.iload_n rfl rfl ?_
  refine Eval.iconst (x := (1 : Int32)) rfl rfl ?_
  by_cases hc371 : p369 = (1 : Int32)
  · rw [if_pos hc371] at h
    refine Eval.icmpF rfl (teq hc371).2 ?_
    refine Eval.iconst (x := (0 : Int32)) rfl rfl ?_
    cases h
    subst hk
    exact Eval.ret rfl rfl
  · rw [if_neg hc371] at h
    refine Eval.icmpT (t := 13) rfl rfl (feq hc371).2 ?_
    refine Eval.iload_n rfl rfl ?_
    refine Eval.iconst (x := (2 : Int32)) rfl rfl ?_
    by_cases hc372 : p369 = (2 : Int32)
    · rw [if_pos hc372] at h
      refine Eval.icmpF rfl (teq hc372).2 ?_
      refine Eval.iconst (x := (1 : Int32)) rfl rfl ?_
      cases h
      subst hk
      exact Eval.ret rfl rfl
    · rw [if_neg hc372] at h
      refine Eval.icmpT (t := 20) rfl rfl (feq hc372).2 ?_
      refine Eval.iload_n rfl rfl ?_
      refine Eval.iconst (x := (5 : Int32)) rfl rfl ?_
      by_cases hc373 : p369 = (5 : Int32)
      · rw [if_pos hc373] at h
        refine Eval.icmpF rfl (teq hc373).2 ?_
        refine Eval.aload_n rfl rfl ?_
        refine Eval.getfield rfl rfl own_g1_latchBit ?_
        cases h
        subst hk
        exact Eval.ret rfl rfl
      · rw [if_neg hc373] at h
        refine Eval.icmpT (t := 30) rfl rfl (feq hc373).2 ?_
        refine Eval.aload_n rfl rfl ?_
        refine Eval.getfield rfl rfl own_g1_cells ?_
        refine Eval.iload_n rfl rfl ?_
        obtain ⟨hb374, h⟩ := ite_some h
        refine Eval.baloadB rfl own_a1_cells hb374 ?_
        cases h
        subst hk
        exact Eval.ret rfl rfl
def j_readRouted_b29 (s : Q) (v3 : Int32) : Option (Int32 × Q) := some ((v3 &&& (1 : Int32)), (Q.mk s.f_cells s.f_faultKind s.f_faultVictim s.f_faultAggressor s.f_faultTrigger s.f_victimSlot s.f_aggressorUses s.f_elementOrder s.f_elementCount s.f_elementOps s.f_logBuffer s.f_remap s.f_spareTaken s.f_spareRows s.f_faultLimit s.f_logLimit (v3 &&& (1 : Int32)) s.f_faultCount s.f_programLength s.f_logLength s.f_failMask))
set_option maxRecDepth 100000 in
theorem ev_j_readRouted_b29 (R : AHeap) (scr : List Int32) (s : Q) (v3 : Int32) {res : Int32 × Q} {out : Option Value × AHeap} (h : j_readRouted_b29 s v3 = some res) (hk : out = (some (.int res.1), (W1 scr res.2 R))) : Eval own_P 37 29 [some (.ref 1), none, none, some (.int v3)] [] (W1 scr s R) out := by
  rw [j_readRouted_b29] at h
  refine Eval.aload_n rfl rfl ?_
  refine Eval.iload_n rfl rfl ?_
  refine Eval.iconst (x := (1 : Int32)) rfl rfl ?_
  refine Eval.iand rfl ?_
  refine Eval.putfield rfl rfl own_p1_latchBit ?_
  refine Eval.aload_n rfl rfl ?_
  refine Eval.getfield rfl rfl own_g1_latchBit ?_
  cases h
  subst hk
  exact Eval.retH own_mk1 rfl rfl
def j_readRouted (s : Q) (v1 : Int32) : Option (Int32 × Q) := ((j_routedCell s v1).bind fun p365 => (if p365 < (256 : Int32) then ((j_readMain s p365).bind fun p375 => (j_readRouted_b29 s p375)) else (if inb s.f_cells.length p365 = true then (j_readRouted_b29 s (rd s.f_cells p365)) else none)))
set_option maxRecDepth 100000 in
theorem ev_j_readRouted (R : AHeap) (scr : List Int32) (s : Q) (v1 : Int32) {res : Int32 × Q} {out : Option Value × AHeap} (h : j_readRouted s v1 = some res) (hk : out = (some (.int res.1), (W1 scr res.2 R))) : Eval own_P 37 0 [some (.ref 1), some (.int v1), none, none] [] (W1 scr s R) out := by
  rw [j_readRouted] at h
  refine Eval.aload_n rfl rfl ?_
  refine Eval.iload_n rfl rfl ?_
  obtain ⟨p365, hq366, h⟩ := bind_some h
  refine Eval.callI (rest := []) (x := p365) (H1 := (W1 scr s R)) rfl rfl (ev_j_routedCell R scr s v1 hq366 rfl) ?_
  refine Eval.istore_n (L' := [some (.ref 1), some (.int v1), some (.int p365), none]) rfl rfl ?_
  refine Eval.iload_n rfl rfl ?_
  refine Eval.sipush (x := (256 : Int32)) rfl rfl ?_
  by_cases hc368 : p365 < (256 : Int32)
  · rw [if_pos hc368] at h
    refine Eval.icmpT (t := 23) rfl rfl (tlt hc368).1 ?_
    refine Eval.aload_n rfl rfl ?_
    refine Eval.iload_n rfl rfl ?_
    obtain ⟨p375, hq376, h⟩ := bind_some h
    refine Eval.callI (rest := []) (x := p375) (H1 := (W1 scr s R)) rfl rfl (ev_j_readMain R scr s p365 hq376 rfl) ?_
    refine Eval.istore_n (L' := [some (.ref 1), some (.int v1), some (.int p365), some (.int p375)]) rfl rfl ?_
    refine Eval.weak (lw_mk 9 _) ?_
    exact ev_j_readRouted_b29 R scr s p375 h hk
  · rw [if_neg hc368] at h
    refine Eval.icmpF rfl (flt hc368).1 ?_
    refine Eval.aload_n rfl rfl ?_
    refine Eval.getfield rfl rfl own_g1_cells ?_
    refine Eval.iload_n rfl rfl ?_
    obtain ⟨hb377, h⟩ := ite_some h
    refine Eval.baloadB rfl own_a1_cells hb377 ?_
    refine Eval.istore_n (L' := [some (.ref 1), some (.int v1), some (.int p365), some (.int (rd s.f_cells p365))]) rfl rfl ?_
    refine Eval.goto (t := 29) rfl rfl ?_
    refine Eval.weak (lw_mk 9 _) ?_
    exact ev_j_readRouted_b29 R scr s (rd s.f_cells p365) h hk
def j_applyOp_b35 (s : Q) (v2 v3 : Int32) : Option (Int32 × Q) := ((j_readRouted s v2).bind fun p378 => (if p378.1 = v3 then some ((0 : Int32), p378.2) else some ((1 : Int32), p378.2)))
set_option maxRecDepth 100000 in
theorem ev_j_applyOp_b35 (R : AHeap) (scr : List Int32) (s : Q) (v2 v3 : Int32) {res : Int32 × Q} {out : Option Value × AHeap} (h : j_applyOp_b35 s v2 v3 = some res) (hk : out = (some (.int res.1), (W1 scr res.2 R))) : Eval own_P 51 35 [some (.ref 1), none, some (.int v2), some (.int v3), none] [] (W1 scr s R) out := by
  rw [j_applyOp_b35] at h
  refine Eval.aload_n rfl rfl ?_
  refine Eval.iload_n rfl rfl ?_
  obtain ⟨p378, hq379, h⟩ := bind_some h
  refine Eval.callI (rest := []) (x := p378.1) (H1 := (W1 scr p378.2 R)) rfl rfl (ev_j_readRouted R scr s v2 hq379 rfl) ?_
  refine Eval.istore (L' := [some (.ref 1), none, some (.int v2), some (.int v3), some (.int p378.1)]) rfl rfl ?_
  refine Eval.iload rfl rfl ?_
  refine Eval.iload_n rfl rfl ?_
  by_cases hc381 : p378.1 = v3
  · rw [if_pos hc381] at h
    refine Eval.icmpT (t := 52) rfl rfl (teq hc381).1 ?_
    refine Eval.iconst (x := (0 : Int32)) rfl rfl ?_
    cases h
    subst hk
    exact Eval.ret rfl rfl
  · rw [if_neg hc381] at h
    refine Eval.icmpF rfl (feq hc381).1 ?_
    refine Eval.iconst (x := (1 : Int32)) rfl rfl ?_
    refine Eval.goto (t := 53) rfl rfl ?_
    cases h
    subst hk
    exact Eval.ret rfl rfl
def j_applyOp (s : Q) (v1 v2 : Int32) : Option (Int32 × Q) := (if v1 = (2 : Int32) then ((j_writeRouted s v2 (0 : Int32)).bind fun p356 => some ((0 : Int32), p356)) else (if v1 = (3 : Int32) then ((j_writeRouted s v2 (1 : Int32)).bind fun p360 => some ((0 : Int32), p360)) else (j_applyOp_b35 s v2 (if v1 = (1 : Int32) then (1 : Int32) else (0 : Int32)))))
set_option maxRecDepth 100000 in
theorem ev_j_applyOp (R : AHeap) (scr : List Int32) (s : Q) (v1 v2 : Int32) {res : Int32 × Q} {out : Option Value × AHeap} (h : j_applyOp s v1 v2 = some res) (hk : out = (some (.int res.1), (W1 scr res.2 R))) : Eval own_P 51 0 [some (.ref 1), some (.int v1), some (.int v2), none, none] [] (W1 scr s R) out := by
  rw [j_applyOp] at h
  refine Eval.iload_n rfl rfl ?_
  refine Eval.iconst (x := (2 : Int32)) rfl rfl ?_
  by_cases hc290 : v1 = (2 : Int32)
  · rw [if_pos hc290] at h
    refine Eval.icmpF rfl (teq hc290).2 ?_
    refine Eval.aload_n rfl rfl ?_
    refine Eval.iload_n rfl rfl ?_
    refine Eval.iconst (x := (0 : Int32)) rfl rfl ?_
    obtain ⟨p356, hq357, h⟩ := bind_some h
    refine Eval.callN (rest := []) (H1 := (W1 scr p356 R)) rfl rfl (ev_j_writeRouted R scr s v2 (0 : Int32) hq357 rfl) ?_
    refine Eval.iconst (x := (0 : Int32)) rfl rfl ?_
    cases h
    subst hk
    exact Eval.ret rfl rfl
  · rw [if_neg hc290] at h
    refine Eval.icmpT (t := 13) rfl rfl (feq hc290).2 ?_
    refine Eval.iload_n rfl rfl ?_
    refine Eval.iconst (x := (3 : Int32)) rfl rfl ?_
    by_cases hc359 : v1 = (3 : Int32)
    · rw [if_pos hc359] at h
      refine Eval.icmpF rfl (teq hc359).2 ?_
      refine Eval.aload_n rfl rfl ?_
      refine Eval.iload_n rfl rfl ?_
      refine Eval.iconst (x := (1 : Int32)) rfl rfl ?_
      obtain ⟨p360, hq361, h⟩ := bind_some h
      refine Eval.callN (rest := []) (H1 := (W1 scr p360 R)) rfl rfl (ev_j_writeRouted R scr s v2 (1 : Int32) hq361 rfl) ?_
      refine Eval.iconst (x := (0 : Int32)) rfl rfl ?_
      cases h
      subst hk
      exact Eval.ret rfl rfl
    · rw [if_neg hc359] at h
      refine Eval.icmpT (t := 26) rfl rfl (feq hc359).2 ?_
      refine Eval.iconst (x := (0 : Int32)) rfl rfl ?_
      refine Eval.istore_n (L' := [some (.ref 1), some (.int v1), some (.int v2), some (.int (0 : Int32)), none]) rfl rfl ?_
      refine Eval.iload_n rfl rfl ?_
      refine Eval.iconst (x := (1 : Int32)) rfl rfl ?_
      suffices hJ364 : Eval own_P 51 35 [some (.ref 1), none, some (.int v2), some (.int (if v1 = (1 : Int32) then (1 : Int32) else (0 : Int32))), none] [] (W1 scr s R) out by
        by_cases hc363 : v1 = (1 : Int32)
        · refine Eval.icmpF rfl (teq hc363).2 ?_
          refine Eval.iconst (x := (1 : Int32)) rfl rfl ?_
          refine Eval.istore_n (L' := [some (.ref 1), some (.int v1), some (.int v2), some (.int (1 : Int32)), none]) rfl rfl ?_
          refine Eval.weak (lw_mk 13 _) ?_
          exact (Eval.conv hJ364 (by simp only [if_pos hc363] <;> rfl) rfl)
        · refine Eval.icmpT (t := 35) rfl rfl (feq hc363).2 ?_
          refine Eval.weak (lw_mk 13 _) ?_
          exact (Eval.conv hJ364 (by simp only [if_neg hc363] <;> rfl) rfl)
      exact ev_j_applyOp_b35 R scr s v2 (if v1 = (1 : Int32) then (1 : Int32) else (0 : Int32)) h hk
def j_runOpsAt_b55 (go_ : Q → Int32 → Int32 → Int32 → Int32 → Int32 → Option (Int32 × Q)) (s : Q) (v1 v2 : Int32) (v3 v4 v5 : Int32) : Option (Int32 × Q) := (go_ s v1 v2 v3 v4 (v5 + (1 : Int32)))
set_option maxRecDepth 100000 in
theorem ev_j_runOpsAt_b55 (R : AHeap) (scr : List Int32) (go_ : Q → Int32 → Int32 → Int32 → Int32 → Int32 → Option (Int32 × Q)) (hrec : ∀ (s : Q) (v1 v2 : Int32) (v3 v4 v5 : Int32) {res : Int32 × Q} {out : Option Value × AHeap}, go_ s v1 v2 v3 v4 v5 = some res → j_runOpsAt_l13_K R scr res out → Eval own_P 49 13 [some (.ref 1), some (.int v1), some (.int v2), some (.int v3), some (.int v4), some (.int v5), none] [] (W1 scr s R) out) (s : Q) (v1 v2 : Int32) (v3 v4 v5 : Int32) {res : Int32 × Q} {out : Option Value × AHeap} (h : j_runOpsAt_b55 go_ s v1 v2 v3 v4 v5 = some res) (hk : j_runOpsAt_l13_K R scr res out) : Eval own_P 49 55 [some (.ref 1), some (.int v1), some (.int v2), some (.int v3), some (.int v4), some (.int v5), none] [] (W1 scr s R) out := by
  rw [j_runOpsAt_b55] at h
  refine Eval.iinc (L' := [some (.ref 1), some (.int v1), some (.int v2), some (.int v3), some (.int v4), some (.int (v5 + (1 : Int32))), none]) rfl rfl rfl ?_
  refine Eval.goto (t := 13) rfl rfl ?_
  exact hrec _ _ _ _ _ _ h hk
def j_recordFailure (s : Q) (v1 v2 v3 : Int32) : Option (Q) := (if s.f_logLength < s.f_logLimit then (if s.f_logLength < (32 : Int32) then (if s.f_logLength < (0 : Int32) then some ((Q.mk s.f_cells s.f_faultKind s.f_faultVictim s.f_faultAggressor s.f_faultTrigger s.f_victimSlot s.f_aggressorUses s.f_elementOrder s.f_elementCount s.f_elementOps s.f_logBuffer s.f_remap s.f_spareTaken s.f_spareRows s.f_faultLimit s.f_logLimit s.f_latchBit s.f_faultCount s.f_programLength s.f_logLength (s.f_failMask ||| (ish (1 : Int32) ((isr v3 (4 : Int32)) &&& (15 : Int32)))))) else (if inb s.f_logBuffer.length s.f_logLength = true then some ((Q.mk s.f_cells s.f_faultKind s.f_faultVictim s.f_faultAggressor s.f_faultTrigger s.f_victimSlot s.f_aggressorUses s.f_elementOrder s.f_elementCount s.f_elementOps (wr s.f_logBuffer s.f_logLength (((ish v1 (12 : Int32)) ||| (ish v2 (8 : Int32))) ||| v3)) s.f_remap s.f_spareTaken s.f_spareRows s.f_faultLimit s.f_logLimit s.f_latchBit s.f_faultCount s.f_programLength (s.f_logLength + (1 : Int32)) (s.f_failMask ||| (ish (1 : Int32) ((isr v3 (4 : Int32)) &&& (15 : Int32)))))) else none)) else some ((Q.mk s.f_cells s.f_faultKind s.f_faultVictim s.f_faultAggressor s.f_faultTrigger s.f_victimSlot s.f_aggressorUses s.f_elementOrder s.f_elementCount s.f_elementOps s.f_logBuffer s.f_remap s.f_spareTaken s.f_spareRows s.f_faultLimit s.f_logLimit s.f_latchBit s.f_faultCount s.f_programLength s.f_logLength (s.f_failMask ||| (ish (1 : Int32) ((isr v3 (4 : Int32)) &&& (15 : Int32))))))) else some ((Q.mk s.f_cells s.f_faultKind s.f_faultVictim s.f_faultAggressor s.f_faultTrigger s.f_victimSlot s.f_aggressorUses s.f_elementOrder s.f_elementCount s.f_elementOps s.f_logBuffer s.f_remap s.f_spareTaken s.f_spareRows s.f_faultLimit s.f_logLimit s.f_latchBit s.f_faultCount s.f_programLength s.f_logLength (s.f_failMask ||| (ish (1 : Int32) ((isr v3 (4 : Int32)) &&& (15 : Int32)))))))
set_option maxRecDepth 100000 in
theorem ev_j_recordFailure (R : AHeap) (scr : List Int32) (s : Q) (v1 v2 v3 : Int32) {res : Q} {out : Option Value × AHeap} (h : j_recordFailure s v1 v2 v3 = some res) (hk : out = (none, (W1 scr res R))) : Eval own_P 52 0 [some (.ref 1), some (.int v1), some (.int v2), some (.int v3), none] [] (W1 scr s R) out := by
  rw [j_recordFailure] at h
  refine Eval.iload_n rfl rfl ?_
  refine Eval.iconst (x := (4 : Int32)) rfl rfl ?_
  refine Eval.ishr rfl ?_
  refine Eval.bipush (x := (15 : Int32)) rfl rfl ?_
  refine Eval.iand rfl ?_
  refine Eval.istore (L' := [some (.ref 1), some (.int v1), some (.int v2), some (.int v3), some (.int ((isr v3 (4 : Int32)) &&& (15 : Int32)))]) rfl rfl ?_
  refine Eval.aload_n rfl rfl ?_
  refine Eval.dupR rfl ?_
  refine Eval.getfield rfl rfl own_g1_failMask ?_
  refine Eval.iconst (x := (1 : Int32)) rfl rfl ?_
  refine Eval.iload rfl rfl ?_
  refine Eval.ishl rfl ?_
  refine Eval.ior rfl ?_
  refine Eval.putfield rfl rfl own_p1_failMask ?_
  refine Eval.aload_n rfl rfl ?_
  refine Eval.getfield rfl rfl own_g1_logLength ?_
  refine Eval.aload_n rfl rfl ?_
  refine Eval.getfield rfl rfl own_g1_logLimit ?_
  by_cases hc387 : s.f_logLength < s.f_logLimit
  · rw [if_pos hc387] at h
    refine Eval.icmpF rfl (tlt hc387).2.1 ?_
    refine Eval.aload_n rfl rfl ?_
    refine Eval.getfield rfl rfl own_g1_logLength ?_
    refine Eval.bipush (x := (32 : Int32)) rfl rfl ?_
    by_cases hc388 : s.f_logLength < (32 : Int32)
    · rw [if_pos hc388] at h
      refine Eval.icmpF rfl (tlt hc388).2.1 ?_
      refine Eval.aload_n rfl rfl ?_
      refine Eval.getfield rfl rfl own_g1_logLength ?_
      by_cases hc389 : s.f_logLength < (0 : Int32)
      · rw [if_pos hc389] at h
        refine Eval.ifT (t := 78) rfl rfl (tlt hc389).1 ?_
        cases h
        subst hk
        exact Eval.retH own_mk1 rfl rfl
      · rw [if_neg hc389] at h
        refine Eval.ifF rfl (flt hc389).1 ?_
        refine Eval.aload_n rfl rfl ?_
        refine Eval.getfield rfl rfl own_g1_logBuffer ?_
        refine Eval.aload_n rfl rfl ?_
        refine Eval.getfield rfl rfl own_g1_logLength ?_
        refine Eval.iload_n rfl rfl ?_
        refine Eval.bipush (x := (12 : Int32)) rfl rfl ?_
        refine Eval.ishl rfl ?_
        refine Eval.iload_n rfl rfl ?_
        refine Eval.bipush (x := (8 : Int32)) rfl rfl ?_
        refine Eval.ishl rfl ?_
        refine Eval.ior rfl ?_
        refine Eval.iload_n rfl rfl ?_
        refine Eval.ior rfl ?_
        obtain ⟨hb390, h⟩ := ite_some h
        refine Eval.iastore rfl rfl own_a1_logBuffer hb390 own_s1_logBuffer ?_
        refine Eval.aload_n rfl rfl ?_
        refine Eval.aload_n rfl rfl ?_
        refine Eval.getfield rfl rfl own_g1_logLength ?_
        refine Eval.iconst (x := (1 : Int32)) rfl rfl ?_
        refine Eval.iadd rfl ?_
        refine Eval.putfield rfl rfl own_p1_logLength ?_
        cases h
        subst hk
        exact Eval.retH own_mk1 rfl rfl
    · rw [if_neg hc388] at h
      refine Eval.icmpT (t := 78) rfl rfl (flt hc388).2.1 ?_
      cases h
      subst hk
      exact Eval.retH own_mk1 rfl rfl
  · rw [if_neg hc387] at h
    refine Eval.icmpT (t := 78) rfl rfl (flt hc387).2.1 ?_
    cases h
    subst hk
    exact Eval.retH own_mk1 rfl rfl
def j_runOpsAt_l13 : Nat → Q → Int32 → Int32 → Int32 → Int32 → Int32 → Option (Int32 × Q)
  | 0, _, _, _, _, _, _ => none
  | n + 1, s, v1, v2, v3, v4, v5 => (if v5 < v3 then (if v5 < (4 : Int32) then ((j_opAt s v1 v5).bind fun p288 => ((j_applyOp s p288 v2).bind fun p382 => (if p382.1 = (0 : Int32) then (j_runOpsAt_b55 (j_runOpsAt_l13 n) p382.2 v1 v2 v3 v4 v5) else ((j_recordFailure p382.2 v1 v5 v2).bind fun p391 => (j_runOpsAt_b55 (j_runOpsAt_l13 n) p391 v1 v2 v3 (v4 + (1 : Int32)) v5))))) else some (v4, s)) else some (v4, s))
set_option maxRecDepth 100000 in
theorem ev_j_runOpsAt_l13 (R : AHeap) (scr : List Int32) : ∀ (n : Nat) (s : Q) (v1 v2 : Int32) (v3 v4 v5 : Int32) {res : Int32 × Q} {out : Option Value × AHeap}, j_runOpsAt_l13 n s v1 v2 v3 v4 v5 = some res → j_runOpsAt_l13_K R scr res out → Eval own_P 49 13 [some (.ref 1), some (.int v1), some (.int v2), some (.int v3), some (.int v4), some (.int v5), none] [] (W1 scr s R) out := by
  intro n
  induction n with
  | zero => intro _ _ _ _ _ _ res out h hk; cases h
  | succ n hrec =>
    intro s v1 v2 v3 v4 v5 res out h hk
    rw [j_runOpsAt_l13] at h
    refine Eval.iload rfl rfl ?_
    refine Eval.iload_n rfl rfl ?_
    by_cases hc282 : v5 < v3
    · rw [if_pos hc282] at h
      refine Eval.icmpF rfl (tlt hc282).2.1 ?_
      refine Eval.iload rfl rfl ?_
      refine Eval.iconst (x := (4 : Int32)) rfl rfl ?_
      by_cases hc283 : v5 < (4 : Int32)
      · rw [if_pos hc283] at h
        refine Eval.icmpF rfl (tlt hc283).2.1 ?_
        refine Eval.aload_n rfl rfl ?_
        refine Eval.iload_n rfl rfl ?_
        refine Eval.iload rfl rfl ?_
        obtain ⟨p288, hq289, h⟩ := bind_some h
        refine Eval.callI (rest := []) (x := p288) (H1 := (W1 scr s R)) rfl rfl (ev_j_opAt R scr s v1 v5 hq289 rfl) ?_
        refine Eval.istore (L' := [some (.ref 1), some (.int v1), some (.int v2), some (.int v3), some (.int v4), some (.int v5), some (.int p288)]) rfl rfl ?_
        refine Eval.aload_n rfl rfl ?_
        refine Eval.iload rfl rfl ?_
        refine Eval.iload_n rfl rfl ?_
        obtain ⟨p382, hq383, h⟩ := bind_some h
        refine Eval.callI (rest := []) (x := p382.1) (H1 := (W1 scr p382.2 R)) rfl rfl (ev_j_applyOp R scr s p288 v2 hq383 rfl) ?_
        by_cases hc386 : p382.1 = (0 : Int32)
        · rw [if_pos hc386] at h
          refine Eval.ifT (t := 55) rfl rfl (teq hc386).1 ?_
          refine Eval.weak (lw_mk 63 _) ?_
          exact ev_j_runOpsAt_b55 R scr _ hrec p382.2 v1 v2 v3 v4 v5 h hk
        · rw [if_neg hc386] at h
          refine Eval.ifF rfl (feq hc386).1 ?_
          refine Eval.aload_n rfl rfl ?_
          refine Eval.iload_n rfl rfl ?_
          refine Eval.iload rfl rfl ?_
          refine Eval.iload_n rfl rfl ?_
          obtain ⟨p391, hq392, h⟩ := bind_some h
          refine Eval.callN (rest := []) (H1 := (W1 scr p391 R)) rfl rfl (ev_j_recordFailure R scr p382.2 v1 v5 v2 hq392 rfl) ?_
          refine Eval.iinc (L' := [some (.ref 1), some (.int v1), some (.int v2), some (.int v3), some (.int (v4 + (1 : Int32))), some (.int v5), some (.int p288)]) rfl rfl rfl ?_
          refine Eval.weak (lw_mk 63 _) ?_
          exact ev_j_runOpsAt_b55 R scr _ hrec p391 v1 v2 v3 (v4 + (1 : Int32)) v5 h hk
      · rw [if_neg hc283] at h
        refine Eval.icmpT (t := 61) rfl rfl (flt hc283).2.1 ?_
        cases h
        refine Eval.weak (lw_mk 16 _) ?_
        exact hk
    · rw [if_neg hc282] at h
      refine Eval.icmpT (t := 61) rfl rfl (flt hc282).2.1 ?_
      cases h
      refine Eval.weak (lw_mk 16 _) ?_
      exact hk
def j_runOpsAt (s : Q) (v1 v2 : Int32) : Option (Int32 × Q) := (if inb s.f_elementCount.length v1 = true then ((j_runOpsAt_l13 3000 s v1 v2 (rd s.f_elementCount v1) (0 : Int32) (0 : Int32)).bind fun p394 => some (p394.1, p394.2)) else none)
set_option maxRecDepth 100000 in
theorem ev_j_runOpsAt (R : AHeap) (scr : List Int32) (s : Q) (v1 v2 : Int32) {res : Int32 × Q} {out : Option Value × AHeap} (h : j_runOpsAt s v1 v2 = some res) (hk : out = (some (.int res.1), (W1 scr res.2 R))) : Eval own_P 49 0 [some (.ref 1), some (.int v1), some (.int v2), none, none, none, none] [] (W1 scr s R) out := by
  rw [j_runOpsAt] at h
  refine Eval.aload_n rfl rfl ?_
  refine Eval.getfield rfl rfl own_g1_elementCount ?_
  refine Eval.iload_n rfl rfl ?_
  obtain ⟨hb281, h⟩ := ite_some h
  refine Eval.iaload rfl own_a1_elementCount hb281 ?_
  refine Eval.istore_n (L' := [some (.ref 1), some (.int v1), some (.int v2), some (.int (rd s.f_elementCount v1)), none, none, none]) rfl rfl ?_
  refine Eval.iconst (x := (0 : Int32)) rfl rfl ?_
  refine Eval.istore (L' := [some (.ref 1), some (.int v1), some (.int v2), some (.int (rd s.f_elementCount v1)), some (.int (0 : Int32)), none, none]) rfl rfl ?_
  refine Eval.iconst (x := (0 : Int32)) rfl rfl ?_
  refine Eval.istore (L' := [some (.ref 1), some (.int v1), some (.int v2), some (.int (rd s.f_elementCount v1)), some (.int (0 : Int32)), some (.int (0 : Int32)), none]) rfl rfl ?_
  obtain ⟨p394, hq395, h⟩ := bind_some h
  refine ev_j_runOpsAt_l13 R scr _ s v1 v2 (rd s.f_elementCount v1) (0 : Int32) (0 : Int32) hq395 ?_
  show Eval own_P 49 61 [none, none, none, none, some (.int p394.1), none, none] [] (W1 scr p394.2 R) out
  refine Eval.iload rfl rfl ?_
  cases h
  subst hk
  exact Eval.ret rfl rfl
def j_runElement_l22 : Nat → Q → Int32 → Int32 → Int32 → Int32 → Option (Int32 × Q)
  | 0, _, _, _, _, _ => none
  | n + 1, s, v1, v2, v3, v4 => (if v4 < (256 : Int32) then ((j_runOpsAt s v1 (j_addressAt v2 v4)).bind fun p397 => (j_runElement_l22 n p397.2 v1 v2 (v3 + p397.1) (v4 + (1 : Int32)))) else some (v3, s))
set_option maxRecDepth 100000 in
theorem ev_j_runElement_l22 (R : AHeap) (scr : List Int32) : ∀ (n : Nat) (s : Q) (v1 v2 : Int32) (v3 v4 : Int32) {res : Int32 × Q} {out : Option Value × AHeap}, j_runElement_l22 n s v1 v2 v3 v4 = some res → j_runElement_l22_K R scr res out → Eval own_P 47 22 [some (.ref 1), some (.int v1), some (.int v2), some (.int v3), some (.int v4), none] [] (W1 scr s R) out := by
  intro n
  induction n with
  | zero => intro _ _ _ _ _ res out h hk; cases h
  | succ n hrec =>
    intro s v1 v2 v3 v4 res out h hk
    rw [j_runElement_l22] at h
    refine Eval.iload rfl rfl ?_
    refine Eval.sipush (x := (256 : Int32)) rfl rfl ?_
    by_cases hc279 : v4 < (256 : Int32)
    · rw [if_pos hc279] at h
      refine Eval.icmpF rfl (tlt hc279).2.1 ?_
      refine Eval.aload_n rfl rfl ?_
      refine Eval.iload_n rfl rfl ?_
      refine Eval.iload rfl rfl ?_
      refine Eval.callI (rest := []) (x := (j_addressAt v2 v4)) (H1 := (W1 scr s R)) rfl rfl (ev_j_addressAt (W1 scr s R) 1 v2 v4 rfl rfl) ?_
      refine Eval.istore (L' := [some (.ref 1), some (.int v1), some (.int v2), some (.int v3), some (.int v4), some (.int (j_addressAt v2 v4))]) rfl rfl ?_
      refine Eval.iload_n rfl rfl ?_
      refine Eval.aload_n rfl rfl ?_
      refine Eval.iload_n rfl rfl ?_
      refine Eval.iload rfl rfl ?_
      obtain ⟨p397, hq398, h⟩ := bind_some h
      refine Eval.callI (rest := [.int v3]) (x := p397.1) (H1 := (W1 scr p397.2 R)) rfl rfl (ev_j_runOpsAt R scr s v1 (j_addressAt v2 v4) hq398 rfl) ?_
      refine Eval.iadd rfl ?_
      refine Eval.istore_n (L' := [some (.ref 1), some (.int v1), some (.int v2), some (.int (v3 + p397.1)), some (.int v4), some (.int (j_addressAt v2 v4))]) rfl rfl ?_
      refine Eval.iinc (L' := [some (.ref 1), some (.int v1), some (.int v2), some (.int (v3 + p397.1)), some (.int (v4 + (1 : Int32))), some (.int (j_addressAt v2 v4))]) rfl rfl rfl ?_
      refine Eval.goto (t := 22) rfl rfl ?_
      refine Eval.weak (lw_mk 31 _) ?_
      exact hrec _ _ _ _ _ h hk
    · rw [if_neg hc279] at h
      refine Eval.icmpT (t := 55) rfl rfl (flt hc279).2.1 ?_
      cases h
      refine Eval.weak (lw_mk 8 _) ?_
      exact hk
def j_runElement (s : Q) (v1 : Int32) : Option (Int32 × Q) := (if (j_isElementIndex s v1) = (0 : Int32) then some ((0 : Int32), s) else (if inb s.f_elementOrder.length v1 = true then ((j_runElement_l22 3000 s v1 (rd s.f_elementOrder v1) (0 : Int32) (0 : Int32)).bind fun p400 => some (p400.1, p400.2)) else none))
set_option maxRecDepth 100000 in
theorem ev_j_runElement (R : AHeap) (scr : List Int32) (s : Q) (v1 : Int32) {res : Int32 × Q} {out : Option Value × AHeap} (h : j_runElement s v1 = some res) (hk : out = (some (.int res.1), (W1 scr res.2 R))) : Eval own_P 47 0 [some (.ref 1), some (.int v1), none, none, none, none] [] (W1 scr s R) out := by
  rw [j_runElement] at h
  refine Eval.aload_n rfl rfl ?_
  refine Eval.iload_n rfl rfl ?_
  refine Eval.callI (rest := []) (x := (j_isElementIndex s v1)) (H1 := (W1 scr s R)) rfl rfl (ev_j_isElementIndex R scr s v1 rfl rfl) ?_
  by_cases hc277 : (j_isElementIndex s v1) = (0 : Int32)
  · rw [if_pos hc277] at h
    refine Eval.ifF rfl (teq hc277).2 ?_
    refine Eval.iconst (x := (0 : Int32)) rfl rfl ?_
    cases h
    subst hk
    exact Eval.ret rfl rfl
  · rw [if_neg hc277] at h
    refine Eval.ifT (t := 10) rfl rfl (feq hc277).2 ?_
    refine Eval.aload_n rfl rfl ?_
    refine Eval.getfield rfl rfl own_g1_elementOrder ?_
    refine Eval.iload_n rfl rfl ?_
    obtain ⟨hb278, h⟩ := ite_some h
    refine Eval.iaload rfl own_a1_elementOrder hb278 ?_
    refine Eval.istore_n (L' := [some (.ref 1), some (.int v1), some (.int (rd s.f_elementOrder v1)), none, none, none]) rfl rfl ?_
    refine Eval.iconst (x := (0 : Int32)) rfl rfl ?_
    refine Eval.istore_n (L' := [some (.ref 1), some (.int v1), some (.int (rd s.f_elementOrder v1)), some (.int (0 : Int32)), none, none]) rfl rfl ?_
    refine Eval.iconst (x := (0 : Int32)) rfl rfl ?_
    refine Eval.istore (L' := [some (.ref 1), some (.int v1), some (.int (rd s.f_elementOrder v1)), some (.int (0 : Int32)), some (.int (0 : Int32)), none]) rfl rfl ?_
    obtain ⟨p400, hq401, h⟩ := bind_some h
    refine ev_j_runElement_l22 R scr _ s v1 (rd s.f_elementOrder v1) (0 : Int32) (0 : Int32) hq401 ?_
    show Eval own_P 47 55 [none, none, none, some (.int p400.1), none, none] [] (W1 scr p400.2 R) out
    refine Eval.iload_n rfl rfl ?_
    cases h
    subst hk
    exact Eval.ret rfl rfl
def j_run_l18 : Nat → Q → Int32 → Int32 → Option (Int32 × Q)
  | 0, _, _, _ => none
  | n + 1, s, v1, v2 => (if v2 < s.f_programLength then (if v2 < (8 : Int32) then ((j_runElement s v2).bind fun p403 => (j_run_l18 n p403.2 (v1 + p403.1) (v2 + (1 : Int32)))) else some (v1, s)) else some (v1, s))
set_option maxRecDepth 100000 in
theorem ev_j_run_l18 (R : AHeap) (scr : List Int32) : ∀ (n : Nat) (s : Q) (v1 v2 : Int32) {res : Int32 × Q} {out : Option Value × AHeap}, j_run_l18 n s v1 v2 = some res → j_run_l18_K R scr res out → Eval own_P 45 18 [some (.ref 1), some (.int v1), some (.int v2)] [] (W1 scr s R) out := by
  intro n
  induction n with
  | zero => intro _ _ _ res out h hk; cases h
  | succ n hrec =>
    intro s v1 v2 res out h hk
    rw [j_run_l18] at h
    refine Eval.iload_n rfl rfl ?_
    refine Eval.aload_n rfl rfl ?_
    refine Eval.getfield rfl rfl own_g1_programLength ?_
    by_cases hc275 : v2 < s.f_programLength
    · rw [if_pos hc275] at h
      refine Eval.icmpF rfl (tlt hc275).2.1 ?_
      refine Eval.iload_n rfl rfl ?_
      refine Eval.bipush (x := (8 : Int32)) rfl rfl ?_
      by_cases hc276 : v2 < (8 : Int32)
      · rw [if_pos hc276] at h
        refine Eval.icmpF rfl (tlt hc276).2.1 ?_
        refine Eval.iload_n rfl rfl ?_
        refine Eval.aload_n rfl rfl ?_
        refine Eval.iload_n rfl rfl ?_
        obtain ⟨p403, hq404, h⟩ := bind_some h
        refine Eval.callI (rest := [.int v1]) (x := p403.1) (H1 := (W1 scr p403.2 R)) rfl rfl (ev_j_runElement R scr s v2 hq404 rfl) ?_
        refine Eval.iadd rfl ?_
        refine Eval.istore_n (L' := [some (.ref 1), some (.int (v1 + p403.1)), some (.int v2)]) rfl rfl ?_
        refine Eval.iinc (L' := [some (.ref 1), some (.int (v1 + p403.1)), some (.int (v2 + (1 : Int32)))]) rfl rfl rfl ?_
        refine Eval.goto (t := 18) rfl rfl ?_
        exact hrec _ _ _ h hk
      · rw [if_neg hc276] at h
        refine Eval.icmpT (t := 46) rfl rfl (flt hc276).2.1 ?_
        cases h
        refine Eval.weak (lw_mk 2 _) ?_
        exact hk
    · rw [if_neg hc275] at h
      refine Eval.icmpT (t := 46) rfl rfl (flt hc275).2.1 ?_
      cases h
      refine Eval.weak (lw_mk 2 _) ?_
      exact hk
def j_run (s : Q) : Option (Int32 × Q) := (if (0 : Int32) < s.f_programLength then ((j_resetResults s).bind fun p272 => ((j_run_l18 3000 p272 (0 : Int32) (0 : Int32)).bind fun p406 => some (p406.1, p406.2))) else some ((-10 : Int32), s))
set_option maxRecDepth 100000 in
theorem ev_j_run (R : AHeap) (scr : List Int32) (s : Q) {res : Int32 × Q} {out : Option Value × AHeap} (h : j_run s = some res) (hk : out = (some (.int res.1), (W1 scr res.2 R))) : Eval own_P 45 0 [some (.ref 1), none, none] [] (W1 scr s R) out := by
  rw [j_run] at h
  refine Eval.aload_n rfl rfl ?_
  refine Eval.getfield rfl rfl own_g1_programLength ?_
  by_cases hc266 : (0 : Int32) < s.f_programLength
  · rw [if_pos hc266] at h
    refine Eval.ifT (t := 10) rfl rfl (tlt hc266).2.2.1 ?_
    refine Eval.aload_n rfl rfl ?_
    obtain ⟨p272, hq273, h⟩ := bind_some h
    refine Eval.callN (rest := []) (H1 := (W1 scr p272 R)) rfl rfl (ev_j_resetResults R scr s hq273 rfl) ?_
    refine Eval.iconst (x := (0 : Int32)) rfl rfl ?_
    refine Eval.istore_n (L' := [some (.ref 1), some (.int (0 : Int32)), none]) rfl rfl ?_
    refine Eval.iconst (x := (0 : Int32)) rfl rfl ?_
    refine Eval.istore_n (L' := [some (.ref 1), some (.int (0 : Int32)), some (.int (0 : Int32))]) rfl rfl ?_
    obtain ⟨p406, hq407, h⟩ := bind_some h
    refine ev_j_run_l18 R scr _ p272 (0 : Int32) (0 : Int32) hq407 ?_
    show Eval own_P 45 46 [none, some (.int p406.1), none] [] (W1 scr p406.2 R) out
    refine Eval.iload_n rfl rfl ?_
    cases h
    subst hk
    exact Eval.ret rfl rfl
  · rw [if_neg hc266] at h
    refine Eval.ifF rfl (flt hc266).2.2.1 ?_
    refine Eval.bipush (x := (-10 : Int32)) rfl rfl ?_
    cases h
    subst hk
    exact Eval.ret rfl rfl
def law_b545 (go_ : Q → List Int32 → Int32 → Int32 → Int32 → Int32 → Int32 → Int32 → Int32 → Int32 → Option ((Q) ⊕ ((Q) ⊕ ((Q) ⊕ ((Q) ⊕ ((Q) ⊕ ((Q) ⊕ ((Q) ⊕ ((Q) ⊕ ((Q) ⊕ ((Q) ⊕ ((Q) ⊕ ((Q) ⊕ ((Q) ⊕ ((Q) ⊕ ((Q) ⊕ ((Q) ⊕ ((Q) ⊕ ((Q) ⊕ ((Q) ⊕ ((Q) ⊕ (Q)))))))))))))))))))))) (s : Q) (scr : List Int32) (v2 v3 : Int32) (v4 v5 : Int32) (v6 v7 : Int32) (v8 v9 : Int32) : Option ((Q) ⊕ ((Q) ⊕ ((Q) ⊕ ((Q) ⊕ ((Q) ⊕ ((Q) ⊕ ((Q) ⊕ ((Q) ⊕ ((Q) ⊕ ((Q) ⊕ ((Q) ⊕ ((Q) ⊕ ((Q) ⊕ ((Q) ⊕ ((Q) ⊕ ((Q) ⊕ ((Q) ⊕ ((Q) ⊕ ((Q) ⊕ ((Q) ⊕ (Q))))))))))))))))))))) := (law_b775 (go_) s scr v2 v3 v4 v5 v6 v7 v8 v9)
set_option maxRecDepth 100000 in
theorem ev_law_b545 (go_ : Q → List Int32 → Int32 → Int32 → Int32 → Int32 → Int32 → Int32 → Int32 → Int32 → Option ((Q) ⊕ ((Q) ⊕ ((Q) ⊕ ((Q) ⊕ ((Q) ⊕ ((Q) ⊕ ((Q) ⊕ ((Q) ⊕ ((Q) ⊕ ((Q) ⊕ ((Q) ⊕ ((Q) ⊕ ((Q) ⊕ ((Q) ⊕ ((Q) ⊕ ((Q) ⊕ ((Q) ⊕ ((Q) ⊕ ((Q) ⊕ ((Q) ⊕ (Q)))))))))))))))))))))) (hrec : ∀ (s : Q) (scr : List Int32) (v2 v3 : Int32) (v4 v5 : Int32) (v6 v7 : Int32) (v8 v9 : Int32) {res : (Q) ⊕ ((Q) ⊕ ((Q) ⊕ ((Q) ⊕ ((Q) ⊕ ((Q) ⊕ ((Q) ⊕ ((Q) ⊕ ((Q) ⊕ ((Q) ⊕ ((Q) ⊕ ((Q) ⊕ ((Q) ⊕ ((Q) ⊕ ((Q) ⊕ ((Q) ⊕ ((Q) ⊕ ((Q) ⊕ ((Q) ⊕ ((Q) ⊕ (Q))))))))))))))))))))} {out : Option Value × AHeap}, go_ s scr v2 v3 v4 v5 v6 v7 v8 v9 = some res → law_l34_K scr res out → Eval own_P 0 34 [some (.ref 0), some (.ref 1), some (.int v2), some (.int v3), some (.int v4), some (.int v5), some (.int v6), some (.int v7), some (.int v8), some (.int v9), none, none, none, none, none, none, none, none, none, none] [] (W1 scr s []) out) (s : Q) (scr : List Int32) (v2 v3 : Int32) (v4 v5 : Int32) (v6 v7 : Int32) (v8 v9 : Int32) {res : (Q) ⊕ ((Q) ⊕ ((Q) ⊕ ((Q) ⊕ ((Q) ⊕ ((Q) ⊕ ((Q) ⊕ ((Q) ⊕ ((Q) ⊕ ((Q) ⊕ ((Q) ⊕ ((Q) ⊕ ((Q) ⊕ ((Q) ⊕ ((Q) ⊕ ((Q) ⊕ ((Q) ⊕ ((Q) ⊕ ((Q) ⊕ ((Q) ⊕ (Q))))))))))))))))))))} {out : Option Value × AHeap} (h : law_b545 go_ s scr v2 v3 v4 v5 v6 v7 v8 v9 = some res) (hk : law_l34_K scr res out) : Eval own_P 0 545 [some (.ref 0), some (.ref 1), some (.int v2), some (.int v3), some (.int v4), some (.int v5), some (.int v6), some (.int v7), some (.int v8), some (.int v9), none, none, none, none, none, none, none, none, none, none] [] (W1 scr s []) out := by
  rw [law_b545] at h
  refine Eval.goto (t := 775) rfl rfl ?_
  exact ev_law_b775 _ hrec s scr v2 v3 v4 v5 v6 v7 v8 v9 h hk
def law_b534 (go_ : Q → List Int32 → Int32 → Int32 → Int32 → Int32 → Int32 → Int32 → Int32 → Int32 → Option ((Q) ⊕ ((Q) ⊕ ((Q) ⊕ ((Q) ⊕ ((Q) ⊕ ((Q) ⊕ ((Q) ⊕ ((Q) ⊕ ((Q) ⊕ ((Q) ⊕ ((Q) ⊕ ((Q) ⊕ ((Q) ⊕ ((Q) ⊕ ((Q) ⊕ ((Q) ⊕ ((Q) ⊕ ((Q) ⊕ ((Q) ⊕ ((Q) ⊕ (Q)))))))))))))))))))))) (s : Q) (scr : List Int32) (v2 v3 : Int32) (v4 v7 : Int32) (v9 w0 : Int32) : Option ((Q) ⊕ ((Q) ⊕ ((Q) ⊕ ((Q) ⊕ ((Q) ⊕ ((Q) ⊕ ((Q) ⊕ ((Q) ⊕ ((Q) ⊕ ((Q) ⊕ ((Q) ⊕ ((Q) ⊕ ((Q) ⊕ ((Q) ⊕ ((Q) ⊕ ((Q) ⊕ ((Q) ⊕ ((Q) ⊕ ((Q) ⊕ ((Q) ⊕ (Q))))))))))))))))))))) := (law_b545 (go_) s scr v2 v3 v4 w0 (j_latch s) v7 (0 : Int32) v9)
set_option maxRecDepth 100000 in
theorem ev_law_b534 (go_ : Q → List Int32 → Int32 → Int32 → Int32 → Int32 → Int32 → Int32 → Int32 → Int32 → Option ((Q) ⊕ ((Q) ⊕ ((Q) ⊕ ((Q) ⊕ ((Q) ⊕ ((Q) ⊕ ((Q) ⊕ ((Q) ⊕ ((Q) ⊕ ((Q) ⊕ ((Q) ⊕ ((Q) ⊕ ((Q) ⊕ ((Q) ⊕ ((Q) ⊕ ((Q) ⊕ ((Q) ⊕ ((Q) ⊕ ((Q) ⊕ ((Q) ⊕ (Q)))))))))))))))))))))) (hrec : ∀ (s : Q) (scr : List Int32) (v2 v3 : Int32) (v4 v5 : Int32) (v6 v7 : Int32) (v8 v9 : Int32) {res : (Q) ⊕ ((Q) ⊕ ((Q) ⊕ ((Q) ⊕ ((Q) ⊕ ((Q) ⊕ ((Q) ⊕ ((Q) ⊕ ((Q) ⊕ ((Q) ⊕ ((Q) ⊕ ((Q) ⊕ ((Q) ⊕ ((Q) ⊕ ((Q) ⊕ ((Q) ⊕ ((Q) ⊕ ((Q) ⊕ ((Q) ⊕ ((Q) ⊕ (Q))))))))))))))))))))} {out : Option Value × AHeap}, go_ s scr v2 v3 v4 v5 v6 v7 v8 v9 = some res → law_l34_K scr res out → Eval own_P 0 34 [some (.ref 0), some (.ref 1), some (.int v2), some (.int v3), some (.int v4), some (.int v5), some (.int v6), some (.int v7), some (.int v8), some (.int v9), none, none, none, none, none, none, none, none, none, none] [] (W1 scr s []) out) (s : Q) (scr : List Int32) (v2 v3 : Int32) (v4 v7 : Int32) (v9 w0 : Int32) {res : (Q) ⊕ ((Q) ⊕ ((Q) ⊕ ((Q) ⊕ ((Q) ⊕ ((Q) ⊕ ((Q) ⊕ ((Q) ⊕ ((Q) ⊕ ((Q) ⊕ ((Q) ⊕ ((Q) ⊕ ((Q) ⊕ ((Q) ⊕ ((Q) ⊕ ((Q) ⊕ ((Q) ⊕ ((Q) ⊕ ((Q) ⊕ ((Q) ⊕ (Q))))))))))))))))))))} {out : Option Value × AHeap} (h : law_b534 go_ s scr v2 v3 v4 v7 v9 w0 = some res) (hk : law_l34_K scr res out) : Eval own_P 0 534 [some (.ref 0), some (.ref 1), some (.int v2), some (.int v3), some (.int v4), none, none, some (.int v7), none, some (.int v9), none, none, none, none, none, none, none, none, none, none] [.int w0] (W1 scr s []) out := by
  rw [law_b534] at h
  refine Eval.istore (L' := [some (.ref 0), some (.ref 1), some (.int v2), some (.int v3), some (.int v4), some (.int w0), none, some (.int v7), none, some (.int v9), none, none, none, none, none, none, none, none, none, none]) rfl rfl ?_
  refine Eval.aload_n rfl rfl ?_
  refine Eval.callI (rest := []) (x := (j_latch s)) (H1 := (W1 scr s [])) rfl rfl (ev_j_latch [] scr s rfl rfl) ?_
  refine Eval.istore (L' := [some (.ref 0), some (.ref 1), some (.int v2), some (.int v3), some (.int v4), some (.int w0), some (.int (j_latch s)), some (.int v7), none, some (.int v9), none, none, none, none, none, none, none, none, none, none]) rfl rfl ?_
  refine Eval.iconst (x := (0 : Int32)) rfl rfl ?_
  refine Eval.istore (L' := [some (.ref 0), some (.ref 1), some (.int v2), some (.int v3), some (.int v4), some (.int w0), some (.int (j_latch s)), some (.int v7), some (.int (0 : Int32)), some (.int v9), none, none, none, none, none, none, none, none, none, none]) rfl rfl ?_
  exact ev_law_b545 _ hrec s scr v2 v3 v4 w0 (j_latch s) v7 (0 : Int32) v9 h hk
def law_b515 (go_ : Q → List Int32 → Int32 → Int32 → Int32 → Int32 → Int32 → Int32 → Int32 → Int32 → Option ((Q) ⊕ ((Q) ⊕ ((Q) ⊕ ((Q) ⊕ ((Q) ⊕ ((Q) ⊕ ((Q) ⊕ ((Q) ⊕ ((Q) ⊕ ((Q) ⊕ ((Q) ⊕ ((Q) ⊕ ((Q) ⊕ ((Q) ⊕ ((Q) ⊕ ((Q) ⊕ ((Q) ⊕ ((Q) ⊕ ((Q) ⊕ ((Q) ⊕ (Q)))))))))))))))))))))) (s : Q) (scr : List Int32) (v2 v3 : Int32) (v4 v7 : Int32) (v9 v14 : Int32) (w0 w1 : Int32) : Option ((Q) ⊕ ((Q) ⊕ ((Q) ⊕ ((Q) ⊕ ((Q) ⊕ ((Q) ⊕ ((Q) ⊕ ((Q) ⊕ ((Q) ⊕ ((Q) ⊕ ((Q) ⊕ ((Q) ⊕ ((Q) ⊕ ((Q) ⊕ ((Q) ⊕ ((Q) ⊕ ((Q) ⊕ ((Q) ⊕ ((Q) ⊕ ((Q) ⊕ (Q))))))))))))))))))))) := (if w0 = w1 then (law_b534 (go_) s scr v2 v3 v4 v7 v9 (if v14 < (8 : Int32) then v14 else (8 : Int32))) else some (.inr (.inr (.inr (.inr (.inr (.inr (.inr (.inl (s))))))))))
set_option maxRecDepth 100000 in
theorem ev_law_b515 (go_ : Q → List Int32 → Int32 → Int32 → Int32 → Int32 → Int32 → Int32 → Int32 → Int32 → Option ((Q) ⊕ ((Q) ⊕ ((Q) ⊕ ((Q) ⊕ ((Q) ⊕ ((Q) ⊕ ((Q) ⊕ ((Q) ⊕ ((Q) ⊕ ((Q) ⊕ ((Q) ⊕ ((Q) ⊕ ((Q) ⊕ ((Q) ⊕ ((Q) ⊕ ((Q) ⊕ ((Q) ⊕ ((Q) ⊕ ((Q) ⊕ ((Q) ⊕ (Q)))))))))))))))))))))) (hrec : ∀ (s : Q) (scr : List Int32) (v2 v3 : Int32) (v4 v5 : Int32) (v6 v7 : Int32) (v8 v9 : Int32) {res : (Q) ⊕ ((Q) ⊕ ((Q) ⊕ ((Q) ⊕ ((Q) ⊕ ((Q) ⊕ ((Q) ⊕ ((Q) ⊕ ((Q) ⊕ ((Q) ⊕ ((Q) ⊕ ((Q) ⊕ ((Q) ⊕ ((Q) ⊕ ((Q) ⊕ ((Q) ⊕ ((Q) ⊕ ((Q) ⊕ ((Q) ⊕ ((Q) ⊕ (Q))))))))))))))))))))} {out : Option Value × AHeap}, go_ s scr v2 v3 v4 v5 v6 v7 v8 v9 = some res → law_l34_K scr res out → Eval own_P 0 34 [some (.ref 0), some (.ref 1), some (.int v2), some (.int v3), some (.int v4), some (.int v5), some (.int v6), some (.int v7), some (.int v8), some (.int v9), none, none, none, none, none, none, none, none, none, none] [] (W1 scr s []) out) (s : Q) (scr : List Int32) (v2 v3 : Int32) (v4 v7 : Int32) (v9 v14 : Int32) (w0 w1 : Int32) {res : (Q) ⊕ ((Q) ⊕ ((Q) ⊕ ((Q) ⊕ ((Q) ⊕ ((Q) ⊕ ((Q) ⊕ ((Q) ⊕ ((Q) ⊕ ((Q) ⊕ ((Q) ⊕ ((Q) ⊕ ((Q) ⊕ ((Q) ⊕ ((Q) ⊕ ((Q) ⊕ ((Q) ⊕ ((Q) ⊕ ((Q) ⊕ ((Q) ⊕ (Q))))))))))))))))))))} {out : Option Value × AHeap} (h : law_b515 go_ s scr v2 v3 v4 v7 v9 v14 w0 w1 = some res) (hk : law_l34_K scr res out) : Eval own_P 0 515 [some (.ref 0), some (.ref 1), some (.int v2), some (.int v3), some (.int v4), none, none, some (.int v7), none, some (.int v9), none, none, none, none, some (.int v14), none, none, none, none, none] [.int w1, .int w0] (W1 scr s []) out := by
  rw [law_b515] at h
  by_cases hc419 : w0 = w1
  · rw [if_pos hc419] at h
    refine Eval.icmpT (t := 520) rfl rfl (teq hc419).1 ?_
    refine Eval.iload rfl rfl ?_
    refine Eval.bipush (x := (8 : Int32)) rfl rfl ?_
    suffices hJ421 : Eval own_P 0 534 [some (.ref 0), some (.ref 1), some (.int v2), some (.int v3), some (.int v4), none, none, some (.int v7), none, some (.int v9), none, none, none, none, none, none, none, none, none, none] [.int (if v14 < (8 : Int32) then v14 else (8 : Int32))] (W1 scr s []) out by
      by_cases hc420 : v14 < (8 : Int32)
      · refine Eval.icmpF rfl (tlt hc420).2.1 ?_
        refine Eval.iload rfl rfl ?_
        refine Eval.goto (t := 534) rfl rfl ?_
        refine Eval.weak (lw_mk 671 _) ?_
        exact (Eval.conv hJ421 rfl (by simp only [if_pos hc420]))
      · refine Eval.icmpT (t := 532) rfl rfl (flt hc420).2.1 ?_
        refine Eval.bipush (x := (8 : Int32)) rfl rfl ?_
        refine Eval.weak (lw_mk 671 _) ?_
        exact (Eval.conv hJ421 rfl (by simp only [if_neg hc420]))
    exact ev_law_b534 _ hrec s scr v2 v3 v4 v7 v9 (if v14 < (8 : Int32) then v14 else (8 : Int32)) h hk
  · rw [if_neg hc419] at h
    refine Eval.icmpF rfl (feq hc419).1 ?_
    cases h
    refine Eval.weak (lw_mk 0 _) ?_
    exact hk
def law_b505 (go_ : Q → List Int32 → Int32 → Int32 → Int32 → Int32 → Int32 → Int32 → Int32 → Int32 → Option ((Q) ⊕ ((Q) ⊕ ((Q) ⊕ ((Q) ⊕ ((Q) ⊕ ((Q) ⊕ ((Q) ⊕ ((Q) ⊕ ((Q) ⊕ ((Q) ⊕ ((Q) ⊕ ((Q) ⊕ ((Q) ⊕ ((Q) ⊕ ((Q) ⊕ ((Q) ⊕ ((Q) ⊕ ((Q) ⊕ ((Q) ⊕ ((Q) ⊕ (Q)))))))))))))))))))))) (s : Q) (scr : List Int32) (v2 v3 : Int32) (v4 v7 : Int32) (v9 v14 w0 : Int32) : Option ((Q) ⊕ ((Q) ⊕ ((Q) ⊕ ((Q) ⊕ ((Q) ⊕ ((Q) ⊕ ((Q) ⊕ ((Q) ⊕ ((Q) ⊕ ((Q) ⊕ ((Q) ⊕ ((Q) ⊕ ((Q) ⊕ ((Q) ⊕ ((Q) ⊕ ((Q) ⊕ ((Q) ⊕ ((Q) ⊕ ((Q) ⊕ ((Q) ⊕ (Q))))))))))))))))))))) := (law_b515 (go_) s scr v2 v3 v4 v7 v9 v14 w0 (if v7 = (0 : Int32) then (1 : Int32) else (0 : Int32)))
set_option maxRecDepth 100000 in
theorem ev_law_b505 (go_ : Q → List Int32 → Int32 → Int32 → Int32 → Int32 → Int32 → Int32 → Int32 → Int32 → Option ((Q) ⊕ ((Q) ⊕ ((Q) ⊕ ((Q) ⊕ ((Q) ⊕ ((Q) ⊕ ((Q) ⊕ ((Q) ⊕ ((Q) ⊕ ((Q) ⊕ ((Q) ⊕ ((Q) ⊕ ((Q) ⊕ ((Q) ⊕ ((Q) ⊕ ((Q) ⊕ ((Q) ⊕ ((Q) ⊕ ((Q) ⊕ ((Q) ⊕ (Q)))))))))))))))))))))) (hrec : ∀ (s : Q) (scr : List Int32) (v2 v3 : Int32) (v4 v5 : Int32) (v6 v7 : Int32) (v8 v9 : Int32) {res : (Q) ⊕ ((Q) ⊕ ((Q) ⊕ ((Q) ⊕ ((Q) ⊕ ((Q) ⊕ ((Q) ⊕ ((Q) ⊕ ((Q) ⊕ ((Q) ⊕ ((Q) ⊕ ((Q) ⊕ ((Q) ⊕ ((Q) ⊕ ((Q) ⊕ ((Q) ⊕ ((Q) ⊕ ((Q) ⊕ ((Q) ⊕ ((Q) ⊕ (Q))))))))))))))))))))} {out : Option Value × AHeap}, go_ s scr v2 v3 v4 v5 v6 v7 v8 v9 = some res → law_l34_K scr res out → Eval own_P 0 34 [some (.ref 0), some (.ref 1), some (.int v2), some (.int v3), some (.int v4), some (.int v5), some (.int v6), some (.int v7), some (.int v8), some (.int v9), none, none, none, none, none, none, none, none, none, none] [] (W1 scr s []) out) (s : Q) (scr : List Int32) (v2 v3 : Int32) (v4 v7 : Int32) (v9 v14 w0 : Int32) {res : (Q) ⊕ ((Q) ⊕ ((Q) ⊕ ((Q) ⊕ ((Q) ⊕ ((Q) ⊕ ((Q) ⊕ ((Q) ⊕ ((Q) ⊕ ((Q) ⊕ ((Q) ⊕ ((Q) ⊕ ((Q) ⊕ ((Q) ⊕ ((Q) ⊕ ((Q) ⊕ ((Q) ⊕ ((Q) ⊕ ((Q) ⊕ ((Q) ⊕ (Q))))))))))))))))))))} {out : Option Value × AHeap} (h : law_b505 go_ s scr v2 v3 v4 v7 v9 v14 w0 = some res) (hk : law_l34_K scr res out) : Eval own_P 0 505 [some (.ref 0), some (.ref 1), some (.int v2), some (.int v3), some (.int v4), none, none, some (.int v7), none, some (.int v9), none, none, none, none, some (.int v14), none, none, none, none, none] [.int w0] (W1 scr s []) out := by
  rw [law_b505] at h
  refine Eval.iload rfl rfl ?_
  suffices hJ418 : Eval own_P 0 515 [some (.ref 0), some (.ref 1), some (.int v2), some (.int v3), some (.int v4), none, none, some (.int v7), none, some (.int v9), none, none, none, none, some (.int v14), none, none, none, none, none] [.int (if v7 = (0 : Int32) then (1 : Int32) else (0 : Int32)), .int w0] (W1 scr s []) out by
    by_cases hc417 : v7 = (0 : Int32)
    · refine Eval.ifF rfl (teq hc417).2 ?_
      refine Eval.iconst (x := (1 : Int32)) rfl rfl ?_
      refine Eval.goto (t := 515) rfl rfl ?_
      exact (Eval.conv hJ418 rfl (by simp only [if_pos hc417]))
    · refine Eval.ifT (t := 514) rfl rfl (feq hc417).2 ?_
      refine Eval.iconst (x := (0 : Int32)) rfl rfl ?_
      exact (Eval.conv hJ418 rfl (by simp only [if_neg hc417]))
  exact ev_law_b515 _ hrec s scr v2 v3 v4 v7 v9 v14 w0 (if v7 = (0 : Int32) then (1 : Int32) else (0 : Int32)) h hk
abbrev j_countFailingUnmapped_l4_K (R : AHeap) (scr : List Int32) (s : Q) (res : Int32) (out : Option Value × AHeap) : Prop := Eval own_P 40 27 [none, some (.int res), none] [] (W1 scr s R) out

def j_isFailingUnmapped (s : Q) (v1 : Int32) : Option (Int32) := (if v1 < (0 : Int32) then some ((0 : Int32)) else (if (15 : Int32) < v1 then some ((0 : Int32)) else (if ((isr s.f_failMask v1) &&& (1 : Int32)) = (0 : Int32) then some ((0 : Int32)) else (if inb s.f_remap.length v1 = true then (if (rd s.f_remap v1) < (0 : Int32) then some ((1 : Int32)) else some ((0 : Int32))) else none))))
set_option maxRecDepth 100000 in
theorem ev_j_isFailingUnmapped (R : AHeap) (scr : List Int32) (s : Q) (v1 : Int32) {res : Int32} {out : Option Value × AHeap} (h : j_isFailingUnmapped s v1 = some res) (hk : out = (some (.int res), (W1 scr s R))) : Eval own_P 41 0 [some (.ref 1), some (.int v1)] [] (W1 scr s R) out := by
  rw [j_isFailingUnmapped] at h
  refine Eval.iload_n rfl rfl ?_
  by_cases hc424 : v1 < (0 : Int32)
  · rw [if_pos hc424] at h
    refine Eval.ifT (t := 10) rfl rfl (tlt hc424).1 ?_
    refine Eval.iconst (x := (0 : Int32)) rfl rfl ?_
    cases h
    subst hk
    exact Eval.ret rfl rfl
  · rw [if_neg hc424] at h
    refine Eval.ifF rfl (flt hc424).1 ?_
    refine Eval.iload_n rfl rfl ?_
    refine Eval.bipush (x := (15 : Int32)) rfl rfl ?_
    by_cases hc425 : (15 : Int32) < v1
    · rw [if_pos hc425] at h
      refine Eval.icmpF rfl (tlt hc425).2.2.2 ?_
      refine Eval.iconst (x := (0 : Int32)) rfl rfl ?_
      cases h
      subst hk
      exact Eval.ret rfl rfl
    · rw [if_neg hc425] at h
      refine Eval.icmpT (t := 12) rfl rfl (flt hc425).2.2.2 ?_
      refine Eval.aload_n rfl rfl ?_
      refine Eval.getfield rfl rfl own_g1_failMask ?_
      refine Eval.iload_n rfl rfl ?_
      refine Eval.ishr rfl ?_
      refine Eval.iconst (x := (1 : Int32)) rfl rfl ?_
      refine Eval.iand rfl ?_
      by_cases hc426 : ((isr s.f_failMask v1) &&& (1 : Int32)) = (0 : Int32)
      · rw [if_pos hc426] at h
        refine Eval.ifT (t := 36) rfl rfl (teq hc426).1 ?_
        refine Eval.iconst (x := (0 : Int32)) rfl rfl ?_
        cases h
        subst hk
        exact Eval.ret rfl rfl
      · rw [if_neg hc426] at h
        refine Eval.ifF rfl (feq hc426).1 ?_
        refine Eval.aload_n rfl rfl ?_
        refine Eval.getfield rfl rfl own_g1_remap ?_
        refine Eval.iload_n rfl rfl ?_
        obtain ⟨hb427, h⟩ := ite_some h
        refine Eval.iaload rfl own_a1_remap hb427 ?_
        by_cases hc428 : (rd s.f_remap v1) < (0 : Int32)
        · rw [if_pos hc428] at h
          refine Eval.ifF rfl (tlt hc428).2.1 ?_
          refine Eval.iconst (x := (1 : Int32)) rfl rfl ?_
          refine Eval.goto (t := 37) rfl rfl ?_
          cases h
          subst hk
          exact Eval.ret rfl rfl
        · rw [if_neg hc428] at h
          refine Eval.ifT (t := 36) rfl rfl (flt hc428).2.1 ?_
          refine Eval.iconst (x := (0 : Int32)) rfl rfl ?_
          cases h
          subst hk
          exact Eval.ret rfl rfl
def j_countFailingUnmapped_b21 (go_ : Q → Int32 → Int32 → Option (Int32)) (s : Q) (v1 v2 : Int32) : Option (Int32) := (go_ s v1 (v2 + (1 : Int32)))
set_option maxRecDepth 100000 in
theorem ev_j_countFailingUnmapped_b21 (R : AHeap) (scr : List Int32) (go_ : Q → Int32 → Int32 → Option (Int32)) (hrec : ∀ (s : Q) (v1 v2 : Int32) {res : Int32} {out : Option Value × AHeap}, go_ s v1 v2 = some res → j_countFailingUnmapped_l4_K R scr s res out → Eval own_P 40 4 [some (.ref 1), some (.int v1), some (.int v2)] [] (W1 scr s R) out) (s : Q) (v1 v2 : Int32) {res : Int32} {out : Option Value × AHeap} (h : j_countFailingUnmapped_b21 go_ s v1 v2 = some res) (hk : j_countFailingUnmapped_l4_K R scr s res out) : Eval own_P 40 21 [some (.ref 1), some (.int v1), some (.int v2)] [] (W1 scr s R) out := by
  rw [j_countFailingUnmapped_b21] at h
  refine Eval.iinc (L' := [some (.ref 1), some (.int v1), some (.int (v2 + (1 : Int32)))]) rfl rfl rfl ?_
  refine Eval.goto (t := 4) rfl rfl ?_
  exact hrec _ _ _ h hk
def j_countFailingUnmapped_l4 : Nat → Q → Int32 → Int32 → Option (Int32)
  | 0, _, _, _ => none
  | n + 1, s, v1, v2 => (if v2 < (16 : Int32) then ((j_isFailingUnmapped s v2).bind fun p429 => (j_countFailingUnmapped_b21 (j_countFailingUnmapped_l4 n) s (if p429 = (0 : Int32) then v1 else (v1 + (1 : Int32))) v2)) else some (v1))
set_option maxRecDepth 100000 in
theorem ev_j_countFailingUnmapped_l4 (R : AHeap) (scr : List Int32) : ∀ (n : Nat) (s : Q) (v1 v2 : Int32) {res : Int32} {out : Option Value × AHeap}, j_countFailingUnmapped_l4 n s v1 v2 = some res → j_countFailingUnmapped_l4_K R scr s res out → Eval own_P 40 4 [some (.ref 1), some (.int v1), some (.int v2)] [] (W1 scr s R) out := by
  intro n
  induction n with
  | zero => intro _ _ _ res out h hk; cases h
  | succ n hrec =>
    intro s v1 v2 res out h hk
    rw [j_countFailingUnmapped_l4] at h
    refine Eval.iload_n rfl rfl ?_
    refine Eval.bipush (x := (16 : Int32)) rfl rfl ?_
    by_cases hc423 : v2 < (16 : Int32)
    · rw [if_pos hc423] at h
      refine Eval.icmpF rfl (tlt hc423).2.1 ?_
      refine Eval.aload_n rfl rfl ?_
      refine Eval.iload_n rfl rfl ?_
      obtain ⟨p429, hq430, h⟩ := bind_some h
      refine Eval.callI (rest := []) (x := p429) (H1 := (W1 scr s R)) rfl rfl (ev_j_isFailingUnmapped R scr s v2 hq430 rfl) ?_
      suffices hJ432 : Eval own_P 40 21 [some (.ref 1), some (.int (if p429 = (0 : Int32) then v1 else (v1 + (1 : Int32)))), some (.int v2)] [] (W1 scr s R) out by
        by_cases hc431 : p429 = (0 : Int32)
        · refine Eval.ifT (t := 21) rfl rfl (teq hc431).1 ?_
          exact (Eval.conv hJ432 (by simp only [if_pos hc431] <;> rfl) rfl)
        · refine Eval.ifF rfl (feq hc431).1 ?_
          refine Eval.iinc (L' := [some (.ref 1), some (.int (v1 + (1 : Int32))), some (.int v2)]) rfl rfl rfl ?_
          exact (Eval.conv hJ432 (by simp only [if_neg hc431] <;> rfl) rfl)
      exact ev_j_countFailingUnmapped_b21 R scr _ hrec s (if p429 = (0 : Int32) then v1 else (v1 + (1 : Int32))) v2 h hk
    · rw [if_neg hc423] at h
      refine Eval.icmpT (t := 27) rfl rfl (flt hc423).2.1 ?_
      cases h
      refine Eval.weak (lw_mk 2 _) ?_
      exact hk
def j_countFailingUnmapped (s : Q) : Option (Int32) := ((j_countFailingUnmapped_l4 3000 s (0 : Int32) (0 : Int32)).bind fun p433 => some (p433))
set_option maxRecDepth 100000 in
theorem ev_j_countFailingUnmapped (R : AHeap) (scr : List Int32) (s : Q) {res : Int32} {out : Option Value × AHeap} (h : j_countFailingUnmapped s = some res) (hk : out = (some (.int res), (W1 scr s R))) : Eval own_P 40 0 [some (.ref 1), none, none] [] (W1 scr s R) out := by
  rw [j_countFailingUnmapped] at h
  refine Eval.iconst (x := (0 : Int32)) rfl rfl ?_
  refine Eval.istore_n (L' := [some (.ref 1), some (.int (0 : Int32)), none]) rfl rfl ?_
  refine Eval.iconst (x := (0 : Int32)) rfl rfl ?_
  refine Eval.istore_n (L' := [some (.ref 1), some (.int (0 : Int32)), some (.int (0 : Int32))]) rfl rfl ?_
  obtain ⟨p433, hq434, h⟩ := bind_some h
  refine ev_j_countFailingUnmapped_l4 R scr _ s (0 : Int32) (0 : Int32) hq434 ?_
  show Eval own_P 40 27 [none, some (.int p433), none] [] (W1 scr s R) out
  refine Eval.iload_n rfl rfl ?_
  cases h
  subst hk
  exact Eval.ret rfl rfl
abbrev j_countFreeSpares_l4_K (R : AHeap) (scr : List Int32) (s : Q) (res : Int32) (out : Option Value × AHeap) : Prop := Eval own_P 42 35 [none, some (.int res), none] [] (W1 scr s R) out

def j_countFreeSpares_b29 (go_ : Q → Int32 → Int32 → Option (Int32)) (s : Q) (v1 v2 : Int32) : Option (Int32) := (go_ s v1 (v2 + (1 : Int32)))
set_option maxRecDepth 100000 in
theorem ev_j_countFreeSpares_b29 (R : AHeap) (scr : List Int32) (go_ : Q → Int32 → Int32 → Option (Int32)) (hrec : ∀ (s : Q) (v1 v2 : Int32) {res : Int32} {out : Option Value × AHeap}, go_ s v1 v2 = some res → j_countFreeSpares_l4_K R scr s res out → Eval own_P 42 4 [some (.ref 1), some (.int v1), some (.int v2)] [] (W1 scr s R) out) (s : Q) (v1 v2 : Int32) {res : Int32} {out : Option Value × AHeap} (h : j_countFreeSpares_b29 go_ s v1 v2 = some res) (hk : j_countFreeSpares_l4_K R scr s res out) : Eval own_P 42 29 [some (.ref 1), some (.int v1), some (.int v2)] [] (W1 scr s R) out := by
  rw [j_countFreeSpares_b29] at h
  refine Eval.iinc (L' := [some (.ref 1), some (.int v1), some (.int (v2 + (1 : Int32)))]) rfl rfl rfl ?_
  refine Eval.goto (t := 4) rfl rfl ?_
  exact hrec _ _ _ h hk
def j_countFreeSpares_l4 : Nat → Q → Int32 → Int32 → Option (Int32)
  | 0, _, _, _ => none
  | n + 1, s, v1, v2 => (if v2 < s.f_spareRows then (if v2 < (4 : Int32) then (if inb s.f_spareTaken.length v2 = true then (j_countFreeSpares_b29 (j_countFreeSpares_l4 n) s (if (rd s.f_spareTaken v2) = (0 : Int32) then (v1 + (1 : Int32)) else v1) v2) else none) else some (v1)) else some (v1))
set_option maxRecDepth 100000 in
theorem ev_j_countFreeSpares_l4 (R : AHeap) (scr : List Int32) : ∀ (n : Nat) (s : Q) (v1 v2 : Int32) {res : Int32} {out : Option Value × AHeap}, j_countFreeSpares_l4 n s v1 v2 = some res → j_countFreeSpares_l4_K R scr s res out → Eval own_P 42 4 [some (.ref 1), some (.int v1), some (.int v2)] [] (W1 scr s R) out := by
  intro n
  induction n with
  | zero => intro _ _ _ res out h hk; cases h
  | succ n hrec =>
    intro s v1 v2 res out h hk
    rw [j_countFreeSpares_l4] at h
    refine Eval.iload_n rfl rfl ?_
    refine Eval.aload_n rfl rfl ?_
    refine Eval.getfield rfl rfl own_g1_spareRows ?_
    by_cases hc437 : v2 < s.f_spareRows
    · rw [if_pos hc437] at h
      refine Eval.icmpF rfl (tlt hc437).2.1 ?_
      refine Eval.iload_n rfl rfl ?_
      refine Eval.iconst (x := (4 : Int32)) rfl rfl ?_
      by_cases hc438 : v2 < (4 : Int32)
      · rw [if_pos hc438] at h
        refine Eval.icmpF rfl (tlt hc438).2.1 ?_
        refine Eval.aload_n rfl rfl ?_
        refine Eval.getfield rfl rfl own_g1_spareTaken ?_
        refine Eval.iload_n rfl rfl ?_
        obtain ⟨hb439, h⟩ := ite_some h
        refine Eval.baloadZ rfl own_a1_spareTaken hb439 ?_
        suffices hJ441 : Eval own_P 42 29 [some (.ref 1), some (.int (if (rd s.f_spareTaken v2) = (0 : Int32) then (v1 + (1 : Int32)) else v1)), some (.int v2)] [] (W1 scr s R) out by
          by_cases hc440 : (rd s.f_spareTaken v2) = (0 : Int32)
          · refine Eval.ifF rfl (teq hc440).2 ?_
            refine Eval.iinc (L' := [some (.ref 1), some (.int (v1 + (1 : Int32))), some (.int v2)]) rfl rfl rfl ?_
            exact (Eval.conv hJ441 (by simp only [if_pos hc440] <;> rfl) rfl)
          · refine Eval.ifT (t := 29) rfl rfl (feq hc440).2 ?_
            exact (Eval.conv hJ441 (by simp only [if_neg hc440] <;> rfl) rfl)
        exact ev_j_countFreeSpares_b29 R scr _ hrec s (if (rd s.f_spareTaken v2) = (0 : Int32) then (v1 + (1 : Int32)) else v1) v2 h hk
      · rw [if_neg hc438] at h
        refine Eval.icmpT (t := 35) rfl rfl (flt hc438).2.1 ?_
        cases h
        refine Eval.weak (lw_mk 2 _) ?_
        exact hk
    · rw [if_neg hc437] at h
      refine Eval.icmpT (t := 35) rfl rfl (flt hc437).2.1 ?_
      cases h
      refine Eval.weak (lw_mk 2 _) ?_
      exact hk
def j_countFreeSpares (s : Q) : Option (Int32) := ((j_countFreeSpares_l4 3000 s (0 : Int32) (0 : Int32)).bind fun p442 => some (p442))
set_option maxRecDepth 100000 in
theorem ev_j_countFreeSpares (R : AHeap) (scr : List Int32) (s : Q) {res : Int32} {out : Option Value × AHeap} (h : j_countFreeSpares s = some res) (hk : out = (some (.int res), (W1 scr s R))) : Eval own_P 42 0 [some (.ref 1), none, none] [] (W1 scr s R) out := by
  rw [j_countFreeSpares] at h
  refine Eval.iconst (x := (0 : Int32)) rfl rfl ?_
  refine Eval.istore_n (L' := [some (.ref 1), some (.int (0 : Int32)), none]) rfl rfl ?_
  refine Eval.iconst (x := (0 : Int32)) rfl rfl ?_
  refine Eval.istore_n (L' := [some (.ref 1), some (.int (0 : Int32)), some (.int (0 : Int32))]) rfl rfl ?_
  obtain ⟨p442, hq443, h⟩ := bind_some h
  refine ev_j_countFreeSpares_l4 R scr _ s (0 : Int32) (0 : Int32) hq443 ?_
  show Eval own_P 42 35 [none, some (.int p442), none] [] (W1 scr s R) out
  refine Eval.iload_n rfl rfl ?_
  cases h
  subst hk
  exact Eval.ret rfl rfl
abbrev j_repair_l20_K (R : AHeap) (scr : List Int32) (res : (Int32 × Q) ⊕ (Int32 × Q)) (out : Option Value × AHeap) : Prop := Sum.elim (fun res => Eval own_P 39 45 [none, some (.int res.1), none, none, none] [] (W1 scr res.2 R) out) (fun res => Eval own_P 39 60 [none, some (.int res.1), none, none, none] [] (W1 scr res.2 R) out) res

abbrev j_repair_l20_N (s : Q) (res : (Int32 × Q) ⊕ (Int32 × Q)) : Prop := Sum.elim (fun res => Q.len res.2 = Q.len s) (fun res => Q.len res.2 = Q.len s) res
def j_repair_b54 (go_ : Q → Int32 → Int32 → Option ((Int32 × Q) ⊕ (Int32 × Q))) (s : Q) (v1 v3 : Int32) : Option ((Int32 × Q) ⊕ (Int32 × Q)) := (go_ s v1 (v3 + (1 : Int32)))
set_option maxRecDepth 100000 in
theorem ev_j_repair_b54 (R : AHeap) (scr : List Int32) (go_ : Q → Int32 → Int32 → Option ((Int32 × Q) ⊕ (Int32 × Q))) (hrec : ∀ (s : Q) (v1 v3 : Int32) {res : (Int32 × Q) ⊕ (Int32 × Q)} {out : Option Value × AHeap}, go_ s v1 v3 = some res → j_repair_l20_K R scr res out → Eval own_P 39 20 [some (.ref 1), some (.int v1), none, some (.int v3), none] [] (W1 scr s R) out) (s : Q) (v1 v3 : Int32) {res : (Int32 × Q) ⊕ (Int32 × Q)} {out : Option Value × AHeap} (h : j_repair_b54 go_ s v1 v3 = some res) (hk : j_repair_l20_K R scr res out) : Eval own_P 39 54 [some (.ref 1), some (.int v1), none, some (.int v3), none] [] (W1 scr s R) out := by
  rw [j_repair_b54] at h
  refine Eval.iinc (L' := [some (.ref 1), some (.int v1), none, some (.int (v3 + (1 : Int32))), none]) rfl rfl rfl ?_
  refine Eval.goto (t := 20) rfl rfl ?_
  exact hrec _ _ _ h hk
abbrev j_leastFreeSpare_l2_K (R : AHeap) (scr : List Int32) (s : Q) (res : (Int32) ⊕ (Unit)) (out : Option Value × AHeap) : Prop := Sum.elim (fun res => Eval own_P 58 24 [none, some (.int res)] [] (W1 scr s R) out) (fun res => Eval own_P 58 32 [none, none] [] (W1 scr s R) out) res

def j_leastFreeSpare_l2 : Nat → Q → Int32 → Option ((Int32) ⊕ (Unit))
  | 0, _, _ => none
  | n + 1, s, v1 => (if v1 < s.f_spareRows then (if v1 < (4 : Int32) then (if inb s.f_spareTaken.length v1 = true then (if (rd s.f_spareTaken v1) = (0 : Int32) then some (.inl (v1)) else (j_leastFreeSpare_l2 n s (v1 + (1 : Int32)))) else none) else some (.inr ())) else some (.inr ()))
set_option maxRecDepth 100000 in
theorem ev_j_leastFreeSpare_l2 (R : AHeap) (scr : List Int32) : ∀ (n : Nat) (s : Q) (v1 : Int32) {res : (Int32) ⊕ (Unit)} {out : Option Value × AHeap}, j_leastFreeSpare_l2 n s v1 = some res → j_leastFreeSpare_l2_K R scr s res out → Eval own_P 58 2 [some (.ref 1), some (.int v1)] [] (W1 scr s R) out := by
  intro n
  induction n with
  | zero => intro _ _ res out h hk; cases h
  | succ n hrec =>
    intro s v1 res out h hk
    rw [j_leastFreeSpare_l2] at h
    refine Eval.iload_n rfl rfl ?_
    refine Eval.aload_n rfl rfl ?_
    refine Eval.getfield rfl rfl own_g1_spareRows ?_
    by_cases hc451 : v1 < s.f_spareRows
    · rw [if_pos hc451] at h
      refine Eval.icmpF rfl (tlt hc451).2.1 ?_
      refine Eval.iload_n rfl rfl ?_
      refine Eval.iconst (x := (4 : Int32)) rfl rfl ?_
      by_cases hc452 : v1 < (4 : Int32)
      · rw [if_pos hc452] at h
        refine Eval.icmpF rfl (tlt hc452).2.1 ?_
        refine Eval.aload_n rfl rfl ?_
        refine Eval.getfield rfl rfl own_g1_spareTaken ?_
        refine Eval.iload_n rfl rfl ?_
        obtain ⟨hb453, h⟩ := ite_some h
        refine Eval.baloadZ rfl own_a1_spareTaken hb453 ?_
        by_cases hc454 : (rd s.f_spareTaken v1) = (0 : Int32)
        · rw [if_pos hc454] at h
          refine Eval.ifF rfl (teq hc454).2 ?_
          cases h
          refine Eval.weak (lw_mk 2 _) ?_
          exact hk
        · rw [if_neg hc454] at h
          refine Eval.ifT (t := 26) rfl rfl (feq hc454).2 ?_
          refine Eval.iinc (L' := [some (.ref 1), some (.int (v1 + (1 : Int32)))]) rfl rfl rfl ?_
          refine Eval.goto (t := 2) rfl rfl ?_
          exact hrec _ _ h hk
      · rw [if_neg hc452] at h
        refine Eval.icmpT (t := 32) rfl rfl (flt hc452).2.1 ?_
        cases h
        refine Eval.weak (lw_mk 0 _) ?_
        exact hk
    · rw [if_neg hc451] at h
      refine Eval.icmpT (t := 32) rfl rfl (flt hc451).2.1 ?_
      cases h
      refine Eval.weak (lw_mk 0 _) ?_
      exact hk
def j_leastFreeSpare (s : Q) : Option (Int32) := ((j_leastFreeSpare_l2 3000 s (0 : Int32)).bind fun p455 => Sum.elim (fun p457 => some (p457)) (fun p458 => some ((-1 : Int32))) p455)
set_option maxRecDepth 100000 in
theorem ev_j_leastFreeSpare (R : AHeap) (scr : List Int32) (s : Q) {res : Int32} {out : Option Value × AHeap} (h : j_leastFreeSpare s = some res) (hk : out = (some (.int res), (W1 scr s R))) : Eval own_P 58 0 [some (.ref 1), none] [] (W1 scr s R) out := by
  rw [j_leastFreeSpare] at h
  refine Eval.iconst (x := (0 : Int32)) rfl rfl ?_
  refine Eval.istore_n (L' := [some (.ref 1), some (.int (0 : Int32))]) rfl rfl ?_
  obtain ⟨p455, hq456, h⟩ := bind_some h
  rcases p455 with p457 | p458
  · dsimp only [Sum.elim] at h
    refine ev_j_leastFreeSpare_l2 R scr _ s (0 : Int32) hq456 ?_
    show Eval own_P 58 24 [none, some (.int p457)] [] (W1 scr s R) out
    refine Eval.iload_n rfl rfl ?_
    cases h
    subst hk
    exact Eval.ret rfl rfl
  · dsimp only [Sum.elim] at h
    refine ev_j_leastFreeSpare_l2 R scr _ s (0 : Int32) hq456 ?_
    show Eval own_P 58 32 [none, none] [] (W1 scr s R) out
    refine Eval.iconst (x := (-1 : Int32)) rfl rfl ?_
    cases h
    subst hk
    exact Eval.ret rfl rfl
abbrev j_assignSpare_l46_K (R : AHeap) (scr : List Int32) (res : Q) (out : Option Value × AHeap) : Prop := Eval own_P 59 69 [none, none, none, none, none] [] (W1 scr res R) out

abbrev j_assignSpare_l46_N (s res : Q) : Prop := Q.len res = Q.len s
def j_assignSpare_l46 : Nat → Q → Int32 → Int32 → Option (Q)
  | 0, _, _, _ => none
  | n + 1, s, v3, v4 => (if v4 < (16 : Int32) then (if inb s.f_cells.length (v3 + v4) = true then (j_assignSpare_l46 n (Q.mk (wr s.f_cells (v3 + v4) (i8 (0 : Int32))) s.f_faultKind s.f_faultVictim s.f_faultAggressor s.f_faultTrigger s.f_victimSlot s.f_aggressorUses s.f_elementOrder s.f_elementCount s.f_elementOps s.f_logBuffer s.f_remap s.f_spareTaken s.f_spareRows s.f_faultLimit s.f_logLimit s.f_latchBit s.f_faultCount s.f_programLength s.f_logLength s.f_failMask) v3 (v4 + (1 : Int32))) else none) else some (s))
set_option maxRecDepth 100000 in
theorem ev_j_assignSpare_l46 (R : AHeap) (scr : List Int32) : ∀ (n : Nat) (s : Q) (v3 v4 : Int32) {res : Q} {out : Option Value × AHeap}, j_assignSpare_l46 n s v3 v4 = some res → j_assignSpare_l46_K R scr res out → Eval own_P 59 46 [some (.ref 1), none, none, some (.int v3), some (.int v4)] [] (W1 scr s R) out := by
  intro n
  induction n with
  | zero => intro _ _ _ res out h hk; cases h
  | succ n hrec =>
    intro s v3 v4 res out h hk
    rw [j_assignSpare_l46] at h
    refine Eval.iload rfl rfl ?_
    refine Eval.bipush (x := (16 : Int32)) rfl rfl ?_
    by_cases hc468 : v4 < (16 : Int32)
    · rw [if_pos hc468] at h
      refine Eval.icmpF rfl (tlt hc468).2.1 ?_
      refine Eval.aload_n rfl rfl ?_
      refine Eval.getfield rfl rfl own_g1_cells ?_
      refine Eval.iload_n rfl rfl ?_
      refine Eval.iload rfl rfl ?_
      refine Eval.iadd rfl ?_
      refine Eval.iconst (x := (0 : Int32)) rfl rfl ?_
      obtain ⟨hb469, h⟩ := ite_some h
      refine Eval.bastoreB rfl rfl own_a1_cells hb469 own_s1_cells ?_
      refine Eval.iinc (L' := [some (.ref 1), none, none, some (.int v3), some (.int (v4 + (1 : Int32)))]) rfl rfl rfl ?_
      refine Eval.goto (t := 46) rfl rfl ?_
      refine Eval.heap own_mk1 ?_
      exact hrec _ _ _ h hk
    · rw [if_neg hc468] at h
      refine Eval.icmpT (t := 69) rfl rfl (flt hc468).2.1 ?_
      cases h
      refine Eval.weak (lw_mk 0 _) ?_
      exact hk
def j_assignSpare (s : Q) (v1 v2 : Int32) : Option (Q) := (if v1 < (0 : Int32) then some (s) else (if (15 : Int32) < v1 then some (s) else (if v2 < (0 : Int32) then some (s) else (if (3 : Int32) < v2 then some (s) else (if inb s.f_remap.length v1 = true then (if inb s.f_spareTaken.length v2 = true then ((j_assignSpare_l46 3000 (Q.mk s.f_cells s.f_faultKind s.f_faultVictim s.f_faultAggressor s.f_faultTrigger s.f_victimSlot s.f_aggressorUses s.f_elementOrder s.f_elementCount s.f_elementOps s.f_logBuffer (wr s.f_remap v1 v2) (wr s.f_spareTaken v2 (1 : Int32)) s.f_spareRows s.f_faultLimit s.f_logLimit s.f_latchBit s.f_faultCount s.f_programLength s.f_logLength s.f_failMask) ((256 : Int32) + ((16 : Int32) * v2)) (0 : Int32)).bind fun p470 => some (p470)) else none) else none)))))
set_option maxRecDepth 100000 in
theorem ev_j_assignSpare (R : AHeap) (scr : List Int32) (s : Q) (v1 v2 : Int32) {res : Q} {out : Option Value × AHeap} (h : j_assignSpare s v1 v2 = some res) (hk : out = (none, (W1 scr res R))) : Eval own_P 59 0 [some (.ref 1), some (.int v1), some (.int v2), none, none] [] (W1 scr s R) out := by
  rw [j_assignSpare] at h
  refine Eval.iload_n rfl rfl ?_
  by_cases hc462 : v1 < (0 : Int32)
  · rw [if_pos hc462] at h
    refine Eval.ifT (t := 19) rfl rfl (tlt hc462).1 ?_
    cases h
    subst hk
    exact Eval.ret rfl rfl
  · rw [if_neg hc462] at h
    refine Eval.ifF rfl (flt hc462).1 ?_
    refine Eval.iload_n rfl rfl ?_
    refine Eval.bipush (x := (15 : Int32)) rfl rfl ?_
    by_cases hc463 : (15 : Int32) < v1
    · rw [if_pos hc463] at h
      refine Eval.icmpT (t := 19) rfl rfl (tlt hc463).2.2.1 ?_
      cases h
      subst hk
      exact Eval.ret rfl rfl
    · rw [if_neg hc463] at h
      refine Eval.icmpF rfl (flt hc463).2.2.1 ?_
      refine Eval.iload_n rfl rfl ?_
      by_cases hc464 : v2 < (0 : Int32)
      · rw [if_pos hc464] at h
        refine Eval.ifT (t := 19) rfl rfl (tlt hc464).1 ?_
        cases h
        subst hk
        exact Eval.ret rfl rfl
      · rw [if_neg hc464] at h
        refine Eval.ifF rfl (flt hc464).1 ?_
        refine Eval.iload_n rfl rfl ?_
        refine Eval.iconst (x := (3 : Int32)) rfl rfl ?_
        by_cases hc465 : (3 : Int32) < v2
        · rw [if_pos hc465] at h
          refine Eval.icmpF rfl (tlt hc465).2.2.2 ?_
          cases h
          subst hk
          exact Eval.ret rfl rfl
        · rw [if_neg hc465] at h
          refine Eval.icmpT (t := 20) rfl rfl (flt hc465).2.2.2 ?_
          refine Eval.aload_n rfl rfl ?_
          refine Eval.getfield rfl rfl own_g1_remap ?_
          refine Eval.iload_n rfl rfl ?_
          refine Eval.iload_n rfl rfl ?_
          obtain ⟨hb466, h⟩ := ite_some h
          refine Eval.iastore rfl rfl own_a1_remap hb466 own_s1_remap ?_
          refine Eval.aload_n rfl rfl ?_
          refine Eval.getfield rfl rfl own_g1_spareTaken ?_
          refine Eval.iload_n rfl rfl ?_
          refine Eval.iconst (x := (1 : Int32)) rfl rfl ?_
          obtain ⟨hb467, h⟩ := ite_some h
          refine Eval.bastoreZ rfl rfl own_a1_spareTaken hb467 own_s1_spareTaken ?_
          refine Eval.sipush (x := (256 : Int32)) rfl rfl ?_
          refine Eval.bipush (x := (16 : Int32)) rfl rfl ?_
          refine Eval.iload_n rfl rfl ?_
          refine Eval.imul rfl ?_
          refine Eval.iadd rfl ?_
          refine Eval.istore_n (L' := [some (.ref 1), some (.int v1), some (.int v2), some (.int ((256 : Int32) + ((16 : Int32) * v2))), none]) rfl rfl ?_
          refine Eval.iconst (x := (0 : Int32)) rfl rfl ?_
          refine Eval.istore (L' := [some (.ref 1), some (.int v1), some (.int v2), some (.int ((256 : Int32) + ((16 : Int32) * v2))), some (.int (0 : Int32))]) rfl rfl ?_
          refine Eval.heap own_mk1 ?_
          refine Eval.weak (lw_mk 25 _) ?_
          obtain ⟨p470, hq471, h⟩ := bind_some h
          refine ev_j_assignSpare_l46 R scr _ (Q.mk s.f_cells s.f_faultKind s.f_faultVictim s.f_faultAggressor s.f_faultTrigger s.f_victimSlot s.f_aggressorUses s.f_elementOrder s.f_elementCount s.f_elementOps s.f_logBuffer (wr s.f_remap v1 v2) (wr s.f_spareTaken v2 (1 : Int32)) s.f_spareRows s.f_faultLimit s.f_logLimit s.f_latchBit s.f_faultCount s.f_programLength s.f_logLength s.f_failMask) ((256 : Int32) + ((16 : Int32) * v2)) (0 : Int32) hq471 ?_
          show Eval own_P 59 69 [none, none, none, none, none] [] (W1 scr p470 R) out
          cases h
          subst hk
          exact Eval.ret rfl rfl
def j_repair_l20 : Nat → Q → Int32 → Int32 → Option ((Int32 × Q) ⊕ (Int32 × Q))
  | 0, _, _, _ => none
  | n + 1, s, v1, v3 => (if v3 < (16 : Int32) then ((j_isFailingUnmapped s v3).bind fun p448 => (if p448 = (0 : Int32) then (j_repair_b54 (j_repair_l20 n) s v1 v3) else ((j_leastFreeSpare s).bind fun p459 => (if p459 < (0 : Int32) then some (.inl (v1, s)) else ((j_assignSpare s v3 p459).bind fun p473 => (j_repair_b54 (j_repair_l20 n) p473 v1 v3)))))) else some (.inr (v1, s)))
set_option maxRecDepth 100000 in
theorem ev_j_repair_l20 (R : AHeap) (scr : List Int32) : ∀ (n : Nat) (s : Q) (v1 v3 : Int32) {res : (Int32 × Q) ⊕ (Int32 × Q)} {out : Option Value × AHeap}, j_repair_l20 n s v1 v3 = some res → j_repair_l20_K R scr res out → Eval own_P 39 20 [some (.ref 1), some (.int v1), none, some (.int v3), none] [] (W1 scr s R) out := by
  intro n
  induction n with
  | zero => intro _ _ _ res out h hk; cases h
  | succ n hrec =>
    intro s v1 v3 res out h hk
    rw [j_repair_l20] at h
    refine Eval.iload_n rfl rfl ?_
    refine Eval.bipush (x := (16 : Int32)) rfl rfl ?_
    by_cases hc447 : v3 < (16 : Int32)
    · rw [if_pos hc447] at h
      refine Eval.icmpF rfl (tlt hc447).2.1 ?_
      refine Eval.aload_n rfl rfl ?_
      refine Eval.iload_n rfl rfl ?_
      obtain ⟨p448, hq449, h⟩ := bind_some h
      refine Eval.callI (rest := []) (x := p448) (H1 := (W1 scr s R)) rfl rfl (ev_j_isFailingUnmapped R scr s v3 hq449 rfl) ?_
      by_cases hc450 : p448 = (0 : Int32)
      · rw [if_pos hc450] at h
        refine Eval.ifT (t := 54) rfl rfl (teq hc450).1 ?_
        exact ev_j_repair_b54 R scr _ hrec s v1 v3 h hk
      · rw [if_neg hc450] at h
        refine Eval.ifF rfl (feq hc450).1 ?_
        refine Eval.aload_n rfl rfl ?_
        obtain ⟨p459, hq460, h⟩ := bind_some h
        refine Eval.callI (rest := []) (x := p459) (H1 := (W1 scr s R)) rfl rfl (ev_j_leastFreeSpare R scr s hq460 rfl) ?_
        refine Eval.istore (L' := [some (.ref 1), some (.int v1), none, some (.int v3), some (.int p459)]) rfl rfl ?_
        refine Eval.iload rfl rfl ?_
        by_cases hc461 : p459 < (0 : Int32)
        · rw [if_pos hc461] at h
          refine Eval.ifF rfl (tlt hc461).2.1 ?_
          cases h
          refine Eval.weak (lw_mk 2 _) ?_
          exact hk
        · rw [if_neg hc461] at h
          refine Eval.ifT (t := 47) rfl rfl (flt hc461).2.1 ?_
          refine Eval.aload_n rfl rfl ?_
          refine Eval.iload_n rfl rfl ?_
          refine Eval.iload rfl rfl ?_
          obtain ⟨p473, hq474, h⟩ := bind_some h
          refine Eval.callN (rest := []) (H1 := (W1 scr p473 R)) rfl rfl (ev_j_assignSpare R scr s v3 p459 hq474 rfl) ?_
          refine Eval.weak (lw_mk 11 _) ?_
          exact ev_j_repair_b54 R scr _ hrec p473 v1 v3 h hk
    · rw [if_neg hc447] at h
      refine Eval.icmpT (t := 60) rfl rfl (flt hc447).2.1 ?_
      cases h
      refine Eval.weak (lw_mk 2 _) ?_
      exact hk
def j_repair (s : Q) : Option (Int32 × Q) := ((j_countFailingUnmapped s).bind fun p435 => ((j_countFreeSpares s).bind fun p444 => (if p444 < p435 then some ((-11 : Int32), s) else ((j_repair_l20 3000 s p435 (0 : Int32)).bind fun p476 => Sum.elim (fun p478 => some (p478.1, p478.2)) (fun p479 => some (p479.1, p479.2)) p476))))
set_option maxRecDepth 100000 in
theorem ev_j_repair (R : AHeap) (scr : List Int32) (s : Q) {res : Int32 × Q} {out : Option Value × AHeap} (h : j_repair s = some res) (hk : out = (some (.int res.1), (W1 scr res.2 R))) : Eval own_P 39 0 [some (.ref 1), none, none, none, none] [] (W1 scr s R) out := by
  rw [j_repair] at h
  refine Eval.aload_n rfl rfl ?_
  obtain ⟨p435, hq436, h⟩ := bind_some h
  refine Eval.callI (rest := []) (x := p435) (H1 := (W1 scr s R)) rfl rfl (ev_j_countFailingUnmapped R scr s hq436 rfl) ?_
  refine Eval.istore_n (L' := [some (.ref 1), some (.int p435), none, none, none]) rfl rfl ?_
  refine Eval.aload_n rfl rfl ?_
  obtain ⟨p444, hq445, h⟩ := bind_some h
  refine Eval.callI (rest := []) (x := p444) (H1 := (W1 scr s R)) rfl rfl (ev_j_countFreeSpares R scr s hq445 rfl) ?_
  refine Eval.istore_n (L' := [some (.ref 1), some (.int p435), some (.int p444), none, none]) rfl rfl ?_
  refine Eval.iload_n rfl rfl ?_
  refine Eval.iload_n rfl rfl ?_
  by_cases hc446 : p444 < p435
  · rw [if_pos hc446] at h
    refine Eval.icmpF rfl (tlt hc446).2.2.2 ?_
    refine Eval.bipush (x := (-11 : Int32)) rfl rfl ?_
    cases h
    subst hk
    exact Eval.ret rfl rfl
  · rw [if_neg hc446] at h
    refine Eval.icmpT (t := 18) rfl rfl (flt hc446).2.2.2 ?_
    refine Eval.iconst (x := (0 : Int32)) rfl rfl ?_
    refine Eval.istore_n (L' := [some (.ref 1), some (.int p435), some (.int p444), some (.int (0 : Int32)), none]) rfl rfl ?_
    refine Eval.weak (lw_mk 11 _) ?_
    obtain ⟨p476, hq477, h⟩ := bind_some h
    rcases p476 with p478 | p479
    · dsimp only [Sum.elim] at h
      refine ev_j_repair_l20 R scr _ s p435 (0 : Int32) hq477 ?_
      show Eval own_P 39 45 [none, some (.int p478.1), none, none, none] [] (W1 scr p478.2 R) out
      refine Eval.iload_n rfl rfl ?_
      cases h
      subst hk
      exact Eval.ret rfl rfl
    · dsimp only [Sum.elim] at h
      refine ev_j_repair_l20 R scr _ s p435 (0 : Int32) hq477 ?_
      show Eval own_P 39 60 [none, some (.int p479.1), none, none, none] [] (W1 scr p479.2 R) out
      refine Eval.iload_n rfl rfl ?_
      cases h
      subst hk
      exact Eval.ret rfl rfl
def law_b599 (go_ : Q → List Int32 → Int32 → Int32 → Int32 → Int32 → Int32 → Int32 → Int32 → Int32 → Option ((Q) ⊕ ((Q) ⊕ ((Q) ⊕ ((Q) ⊕ ((Q) ⊕ ((Q) ⊕ ((Q) ⊕ ((Q) ⊕ ((Q) ⊕ ((Q) ⊕ ((Q) ⊕ ((Q) ⊕ ((Q) ⊕ ((Q) ⊕ ((Q) ⊕ ((Q) ⊕ ((Q) ⊕ ((Q) ⊕ ((Q) ⊕ ((Q) ⊕ (Q)))))))))))))))))))))) (s : Q) (scr : List Int32) (v2 v3 : Int32) (v4 v5 : Int32) (v6 v7 : Int32) (v8 v9 : Int32) : Option ((Q) ⊕ ((Q) ⊕ ((Q) ⊕ ((Q) ⊕ ((Q) ⊕ ((Q) ⊕ ((Q) ⊕ ((Q) ⊕ ((Q) ⊕ ((Q) ⊕ ((Q) ⊕ ((Q) ⊕ ((Q) ⊕ ((Q) ⊕ ((Q) ⊕ ((Q) ⊕ ((Q) ⊕ ((Q) ⊕ ((Q) ⊕ ((Q) ⊕ (Q))))))))))))))))))))) := (law_b775 (go_) s scr v2 v3 v4 v5 v6 v7 v8 v9)
set_option maxRecDepth 100000 in
theorem ev_law_b599 (go_ : Q → List Int32 → Int32 → Int32 → Int32 → Int32 → Int32 → Int32 → Int32 → Int32 → Option ((Q) ⊕ ((Q) ⊕ ((Q) ⊕ ((Q) ⊕ ((Q) ⊕ ((Q) ⊕ ((Q) ⊕ ((Q) ⊕ ((Q) ⊕ ((Q) ⊕ ((Q) ⊕ ((Q) ⊕ ((Q) ⊕ ((Q) ⊕ ((Q) ⊕ ((Q) ⊕ ((Q) ⊕ ((Q) ⊕ ((Q) ⊕ ((Q) ⊕ (Q)))))))))))))))))))))) (hrec : ∀ (s : Q) (scr : List Int32) (v2 v3 : Int32) (v4 v5 : Int32) (v6 v7 : Int32) (v8 v9 : Int32) {res : (Q) ⊕ ((Q) ⊕ ((Q) ⊕ ((Q) ⊕ ((Q) ⊕ ((Q) ⊕ ((Q) ⊕ ((Q) ⊕ ((Q) ⊕ ((Q) ⊕ ((Q) ⊕ ((Q) ⊕ ((Q) ⊕ ((Q) ⊕ ((Q) ⊕ ((Q) ⊕ ((Q) ⊕ ((Q) ⊕ ((Q) ⊕ ((Q) ⊕ (Q))))))))))))))))))))} {out : Option Value × AHeap}, go_ s scr v2 v3 v4 v5 v6 v7 v8 v9 = some res → law_l34_K scr res out → Eval own_P 0 34 [some (.ref 0), some (.ref 1), some (.int v2), some (.int v3), some (.int v4), some (.int v5), some (.int v6), some (.int v7), some (.int v8), some (.int v9), none, none, none, none, none, none, none, none, none, none] [] (W1 scr s []) out) (s : Q) (scr : List Int32) (v2 v3 : Int32) (v4 v5 : Int32) (v6 v7 : Int32) (v8 v9 : Int32) {res : (Q) ⊕ ((Q) ⊕ ((Q) ⊕ ((Q) ⊕ ((Q) ⊕ ((Q) ⊕ ((Q) ⊕ ((Q) ⊕ ((Q) ⊕ ((Q) ⊕ ((Q) ⊕ ((Q) ⊕ ((Q) ⊕ ((Q) ⊕ ((Q) ⊕ ((Q) ⊕ ((Q) ⊕ ((Q) ⊕ ((Q) ⊕ ((Q) ⊕ (Q))))))))))))))))))))} {out : Option Value × AHeap} (h : law_b599 go_ s scr v2 v3 v4 v5 v6 v7 v8 v9 = some res) (hk : law_l34_K scr res out) : Eval own_P 0 599 [some (.ref 0), some (.ref 1), some (.int v2), some (.int v3), some (.int v4), some (.int v5), some (.int v6), some (.int v7), some (.int v8), some (.int v9), none, none, none, none, none, none, none, none, none, none] [] (W1 scr s []) out := by
  rw [law_b599] at h
  refine Eval.goto (t := 775) rfl rfl ?_
  exact ev_law_b775 _ hrec s scr v2 v3 v4 v5 v6 v7 v8 v9 h hk
def law_b577 (go_ : Q → List Int32 → Int32 → Int32 → Int32 → Int32 → Int32 → Int32 → Int32 → Int32 → Option ((Q) ⊕ ((Q) ⊕ ((Q) ⊕ ((Q) ⊕ ((Q) ⊕ ((Q) ⊕ ((Q) ⊕ ((Q) ⊕ ((Q) ⊕ ((Q) ⊕ ((Q) ⊕ ((Q) ⊕ ((Q) ⊕ ((Q) ⊕ ((Q) ⊕ ((Q) ⊕ ((Q) ⊕ ((Q) ⊕ ((Q) ⊕ ((Q) ⊕ (Q)))))))))))))))))))))) (s : Q) (scr : List Int32) (v2 v3 : Int32) (v4 v5 : Int32) (v6 v7 : Int32) (v9 v14 : Int32) : Option ((Q) ⊕ ((Q) ⊕ ((Q) ⊕ ((Q) ⊕ ((Q) ⊕ ((Q) ⊕ ((Q) ⊕ ((Q) ⊕ ((Q) ⊕ ((Q) ⊕ ((Q) ⊕ ((Q) ⊕ ((Q) ⊕ ((Q) ⊕ ((Q) ⊕ ((Q) ⊕ ((Q) ⊕ ((Q) ⊕ ((Q) ⊕ ((Q) ⊕ (Q))))))))))))))))))))) := (law_b599 (go_) s scr v2 v3 (v4 + v14) v5 v6 v7 (1 : Int32) v9)
set_option maxRecDepth 100000 in
theorem ev_law_b577 (go_ : Q → List Int32 → Int32 → Int32 → Int32 → Int32 → Int32 → Int32 → Int32 → Int32 → Option ((Q) ⊕ ((Q) ⊕ ((Q) ⊕ ((Q) ⊕ ((Q) ⊕ ((Q) ⊕ ((Q) ⊕ ((Q) ⊕ ((Q) ⊕ ((Q) ⊕ ((Q) ⊕ ((Q) ⊕ ((Q) ⊕ ((Q) ⊕ ((Q) ⊕ ((Q) ⊕ ((Q) ⊕ ((Q) ⊕ ((Q) ⊕ ((Q) ⊕ (Q)))))))))))))))))))))) (hrec : ∀ (s : Q) (scr : List Int32) (v2 v3 : Int32) (v4 v5 : Int32) (v6 v7 : Int32) (v8 v9 : Int32) {res : (Q) ⊕ ((Q) ⊕ ((Q) ⊕ ((Q) ⊕ ((Q) ⊕ ((Q) ⊕ ((Q) ⊕ ((Q) ⊕ ((Q) ⊕ ((Q) ⊕ ((Q) ⊕ ((Q) ⊕ ((Q) ⊕ ((Q) ⊕ ((Q) ⊕ ((Q) ⊕ ((Q) ⊕ ((Q) ⊕ ((Q) ⊕ ((Q) ⊕ (Q))))))))))))))))))))} {out : Option Value × AHeap}, go_ s scr v2 v3 v4 v5 v6 v7 v8 v9 = some res → law_l34_K scr res out → Eval own_P 0 34 [some (.ref 0), some (.ref 1), some (.int v2), some (.int v3), some (.int v4), some (.int v5), some (.int v6), some (.int v7), some (.int v8), some (.int v9), none, none, none, none, none, none, none, none, none, none] [] (W1 scr s []) out) (s : Q) (scr : List Int32) (v2 v3 : Int32) (v4 v5 : Int32) (v6 v7 : Int32) (v9 v14 : Int32) {res : (Q) ⊕ ((Q) ⊕ ((Q) ⊕ ((Q) ⊕ ((Q) ⊕ ((Q) ⊕ ((Q) ⊕ ((Q) ⊕ ((Q) ⊕ ((Q) ⊕ ((Q) ⊕ ((Q) ⊕ ((Q) ⊕ ((Q) ⊕ ((Q) ⊕ ((Q) ⊕ ((Q) ⊕ ((Q) ⊕ ((Q) ⊕ ((Q) ⊕ (Q))))))))))))))))))))} {out : Option Value × AHeap} (h : law_b577 go_ s scr v2 v3 v4 v5 v6 v7 v9 v14 = some res) (hk : law_l34_K scr res out) : Eval own_P 0 577 [some (.ref 0), some (.ref 1), some (.int v2), some (.int v3), some (.int v4), some (.int v5), some (.int v6), some (.int v7), none, some (.int v9), none, none, none, none, some (.int v14), none, none, none, none, none] [] (W1 scr s []) out := by
  rw [law_b577] at h
  refine Eval.iload rfl rfl ?_
  refine Eval.iload rfl rfl ?_
  refine Eval.iadd rfl ?_
  refine Eval.istore (L' := [some (.ref 0), some (.ref 1), some (.int v2), some (.int v3), some (.int (v4 + v14)), some (.int v5), some (.int v6), some (.int v7), none, some (.int v9), none, none, none, none, some (.int v14), none, none, none, none, none]) rfl rfl ?_
  refine Eval.iconst (x := (1 : Int32)) rfl rfl ?_
  refine Eval.istore (L' := [some (.ref 0), some (.ref 1), some (.int v2), some (.int v3), some (.int (v4 + v14)), some (.int v5), some (.int v6), some (.int v7), some (.int (1 : Int32)), some (.int v9), none, none, none, none, some (.int v14), none, none, none, none, none]) rfl rfl ?_
  refine Eval.goto (t := 599) rfl rfl ?_
  refine Eval.weak (lw_mk 1023 _) ?_
  exact ev_law_b599 _ hrec s scr v2 v3 (v4 + v14) v5 v6 v7 (1 : Int32) v9 h hk
def j_write_b22 (s : Q) (v1 v2 : Int32) : Option (Int32 × Q) := ((j_writeRouted s v1 v2).bind fun p491 => some ((0 : Int32), p491))
set_option maxRecDepth 100000 in
theorem ev_j_write_b22 (R : AHeap) (scr : List Int32) (s : Q) (v1 v2 : Int32) {res : Int32 × Q} {out : Option Value × AHeap} (h : j_write_b22 s v1 v2 = some res) (hk : out = (some (.int res.1), (W1 scr res.2 R))) : Eval own_P 30 22 [some (.ref 1), some (.int v1), some (.int v2)] [] (W1 scr s R) out := by
  rw [j_write_b22] at h
  refine Eval.aload_n rfl rfl ?_
  refine Eval.iload_n rfl rfl ?_
  refine Eval.iload_n rfl rfl ?_
  obtain ⟨p491, hq492, h⟩ := bind_some h
  refine Eval.callN (rest := []) (H1 := (W1 scr p491 R)) rfl rfl (ev_j_writeRouted R scr s v1 v2 hq492 rfl) ?_
  refine Eval.iconst (x := (0 : Int32)) rfl rfl ?_
  cases h
  subst hk
  exact Eval.ret rfl rfl
def j_write (s : Q) (v1 v2 : Int32) : Option (Int32 × Q) := (if (j_isAddress v1) = (0 : Int32) then some ((-1 : Int32), s) else (if v2 = (0 : Int32) then (j_write_b22 s v1 v2) else (if v2 = (1 : Int32) then (j_write_b22 s v1 v2) else some ((-2 : Int32), s))))
set_option maxRecDepth 100000 in
theorem ev_j_write (R : AHeap) (scr : List Int32) (s : Q) (v1 v2 : Int32) {res : Int32 × Q} {out : Option Value × AHeap} (h : j_write s v1 v2 = some res) (hk : out = (some (.int res.1), (W1 scr res.2 R))) : Eval own_P 30 0 [some (.ref 1), some (.int v1), some (.int v2)] [] (W1 scr s R) out := by
  rw [j_write] at h
  refine Eval.aload_n rfl rfl ?_
  refine Eval.iload_n rfl rfl ?_
  refine Eval.callI (rest := []) (x := (j_isAddress v1)) (H1 := (W1 scr s R)) rfl rfl (ev_j_isAddress (W1 scr s R) 1 v1 rfl rfl) ?_
  by_cases hc489 : (j_isAddress v1) = (0 : Int32)
  · rw [if_pos hc489] at h
    refine Eval.ifF rfl (teq hc489).2 ?_
    refine Eval.iconst (x := (-1 : Int32)) rfl rfl ?_
    cases h
    subst hk
    exact Eval.ret rfl rfl
  · rw [if_neg hc489] at h
    refine Eval.ifT (t := 10) rfl rfl (feq hc489).2 ?_
    refine Eval.iload_n rfl rfl ?_
    by_cases hc490 : v2 = (0 : Int32)
    · rw [if_pos hc490] at h
      refine Eval.ifT (t := 22) rfl rfl (teq hc490).1 ?_
      exact ev_j_write_b22 R scr s v1 v2 h hk
    · rw [if_neg hc490] at h
      refine Eval.ifF rfl (feq hc490).1 ?_
      refine Eval.iload_n rfl rfl ?_
      refine Eval.iconst (x := (1 : Int32)) rfl rfl ?_
      by_cases hc494 : v2 = (1 : Int32)
      · rw [if_pos hc494] at h
        refine Eval.icmpT (t := 22) rfl rfl (teq hc494).1 ?_
        exact ev_j_write_b22 R scr s v1 v2 h hk
      · rw [if_neg hc494] at h
        refine Eval.icmpF rfl (feq hc494).1 ?_
        refine Eval.bipush (x := (-2 : Int32)) rfl rfl ?_
        cases h
        subst hk
        exact Eval.ret rfl rfl
def h_route (s : Q) (v1 : Int32) : Option (Int32) := ((j_rowMap s (isr v1 (4 : Int32))).bind fun p503 => (if p503 < (0 : Int32) then some (v1) else some ((((256 : Int32) + ((16 : Int32) * p503)) + (v1 &&& (15 : Int32))))))
set_option maxRecDepth 100000 in
theorem ev_h_route (R : AHeap) (scr : List Int32) (s : Q) (v1 : Int32) {res : Int32} {out : Option Value × AHeap} (h : h_route s v1 = some res) (hk : out = (some (.int res), (W1 scr s R))) : Eval own_P 43 0 [some (.ref 1), some (.int v1), none] [] (W1 scr s R) out := by
  rw [h_route] at h
  refine Eval.aload_n rfl rfl ?_
  refine Eval.iload_n rfl rfl ?_
  refine Eval.iconst (x := (4 : Int32)) rfl rfl ?_
  refine Eval.ishr rfl ?_
  obtain ⟨p503, hq504, h⟩ := bind_some h
  refine Eval.callI (rest := []) (x := p503) (H1 := (W1 scr s R)) rfl rfl (ev_j_rowMap R scr s (isr v1 (4 : Int32)) hq504 rfl) ?_
  refine Eval.istore_n (L' := [some (.ref 1), some (.int v1), some (.int p503)]) rfl rfl ?_
  refine Eval.iload_n rfl rfl ?_
  by_cases hc505 : p503 < (0 : Int32)
  · rw [if_pos hc505] at h
    refine Eval.ifT (t := 26) rfl rfl (tlt hc505).1 ?_
    refine Eval.iload_n rfl rfl ?_
    cases h
    subst hk
    exact Eval.ret rfl rfl
  · rw [if_neg hc505] at h
    refine Eval.ifF rfl (flt hc505).1 ?_
    refine Eval.sipush (x := (256 : Int32)) rfl rfl ?_
    refine Eval.bipush (x := (16 : Int32)) rfl rfl ?_
    refine Eval.iload_n rfl rfl ?_
    refine Eval.imul rfl ?_
    refine Eval.iadd rfl ?_
    refine Eval.iload_n rfl rfl ?_
    refine Eval.bipush (x := (15 : Int32)) rfl rfl ?_
    refine Eval.iand rfl ?_
    refine Eval.iadd rfl ?_
    cases h
    subst hk
    exact Eval.ret rfl rfl
def j_physical (s : Q) (v1 : Int32) : Option (Int32) := (if v1 < (0 : Int32) then some ((-1 : Int32)) else (if v1 < ((256 : Int32) + ((16 : Int32) * s.f_spareRows)) then (if v1 < (320 : Int32) then (if inb s.f_cells.length v1 = true then some ((rd s.f_cells v1)) else none) else some ((-1 : Int32))) else some ((-1 : Int32))))
set_option maxRecDepth 100000 in
theorem ev_j_physical (R : AHeap) (scr : List Int32) (s : Q) (v1 : Int32) {res : Int32} {out : Option Value × AHeap} (h : j_physical s v1 = some res) (hk : out = (some (.int res), (W1 scr s R))) : Eval own_P 44 0 [some (.ref 1), some (.int v1)] [] (W1 scr s R) out := by
  rw [j_physical] at h
  refine Eval.iload_n rfl rfl ?_
  by_cases hc508 : v1 < (0 : Int32)
  · rw [if_pos hc508] at h
    refine Eval.ifT (t := 26) rfl rfl (tlt hc508).1 ?_
    refine Eval.iconst (x := (-1 : Int32)) rfl rfl ?_
    cases h
    subst hk
    exact Eval.ret rfl rfl
  · rw [if_neg hc508] at h
    refine Eval.ifF rfl (flt hc508).1 ?_
    refine Eval.iload_n rfl rfl ?_
    refine Eval.sipush (x := (256 : Int32)) rfl rfl ?_
    refine Eval.bipush (x := (16 : Int32)) rfl rfl ?_
    refine Eval.aload_n rfl rfl ?_
    refine Eval.getfield rfl rfl own_g1_spareRows ?_
    refine Eval.imul rfl ?_
    refine Eval.iadd rfl ?_
    by_cases hc509 : v1 < ((256 : Int32) + ((16 : Int32) * s.f_spareRows))
    · rw [if_pos hc509] at h
      refine Eval.icmpF rfl (tlt hc509).2.1 ?_
      refine Eval.iload_n rfl rfl ?_
      refine Eval.sipush (x := (320 : Int32)) rfl rfl ?_
      by_cases hc510 : v1 < (320 : Int32)
      · rw [if_pos hc510] at h
        refine Eval.icmpT (t := 28) rfl rfl (tlt hc510).1 ?_
        refine Eval.aload_n rfl rfl ?_
        refine Eval.getfield rfl rfl own_g1_cells ?_
        refine Eval.iload_n rfl rfl ?_
        obtain ⟨hb511, h⟩ := ite_some h
        refine Eval.baloadB rfl own_a1_cells hb511 ?_
        cases h
        subst hk
        exact Eval.ret rfl rfl
      · rw [if_neg hc510] at h
        refine Eval.icmpF rfl (flt hc510).1 ?_
        refine Eval.iconst (x := (-1 : Int32)) rfl rfl ?_
        cases h
        subst hk
        exact Eval.ret rfl rfl
    · rw [if_neg hc509] at h
      refine Eval.icmpT (t := 26) rfl rfl (flt hc509).2.1 ?_
      refine Eval.iconst (x := (-1 : Int32)) rfl rfl ?_
      cases h
      subst hk
      exact Eval.ret rfl rfl
def law_b698 (go_ : Q → List Int32 → Int32 → Int32 → Int32 → Int32 → Int32 → Int32 → Int32 → Int32 → Option ((Q) ⊕ ((Q) ⊕ ((Q) ⊕ ((Q) ⊕ ((Q) ⊕ ((Q) ⊕ ((Q) ⊕ ((Q) ⊕ ((Q) ⊕ ((Q) ⊕ ((Q) ⊕ ((Q) ⊕ ((Q) ⊕ ((Q) ⊕ ((Q) ⊕ ((Q) ⊕ ((Q) ⊕ ((Q) ⊕ ((Q) ⊕ ((Q) ⊕ (Q)))))))))))))))))))))) (s : Q) (scr : List Int32) (v2 v3 : Int32) (v4 v5 : Int32) (v6 v7 : Int32) (v8 v9 : Int32) : Option ((Q) ⊕ ((Q) ⊕ ((Q) ⊕ ((Q) ⊕ ((Q) ⊕ ((Q) ⊕ ((Q) ⊕ ((Q) ⊕ ((Q) ⊕ ((Q) ⊕ ((Q) ⊕ ((Q) ⊕ ((Q) ⊕ ((Q) ⊕ ((Q) ⊕ ((Q) ⊕ ((Q) ⊕ ((Q) ⊕ ((Q) ⊕ ((Q) ⊕ (Q))))))))))))))))))))) := (law_b775 (go_) s scr v2 v3 v4 v5 v6 v7 v8 v9)
set_option maxRecDepth 100000 in
theorem ev_law_b698 (go_ : Q → List Int32 → Int32 → Int32 → Int32 → Int32 → Int32 → Int32 → Int32 → Int32 → Option ((Q) ⊕ ((Q) ⊕ ((Q) ⊕ ((Q) ⊕ ((Q) ⊕ ((Q) ⊕ ((Q) ⊕ ((Q) ⊕ ((Q) ⊕ ((Q) ⊕ ((Q) ⊕ ((Q) ⊕ ((Q) ⊕ ((Q) ⊕ ((Q) ⊕ ((Q) ⊕ ((Q) ⊕ ((Q) ⊕ ((Q) ⊕ ((Q) ⊕ (Q)))))))))))))))))))))) (hrec : ∀ (s : Q) (scr : List Int32) (v2 v3 : Int32) (v4 v5 : Int32) (v6 v7 : Int32) (v8 v9 : Int32) {res : (Q) ⊕ ((Q) ⊕ ((Q) ⊕ ((Q) ⊕ ((Q) ⊕ ((Q) ⊕ ((Q) ⊕ ((Q) ⊕ ((Q) ⊕ ((Q) ⊕ ((Q) ⊕ ((Q) ⊕ ((Q) ⊕ ((Q) ⊕ ((Q) ⊕ ((Q) ⊕ ((Q) ⊕ ((Q) ⊕ ((Q) ⊕ ((Q) ⊕ (Q))))))))))))))))))))} {out : Option Value × AHeap}, go_ s scr v2 v3 v4 v5 v6 v7 v8 v9 = some res → law_l34_K scr res out → Eval own_P 0 34 [some (.ref 0), some (.ref 1), some (.int v2), some (.int v3), some (.int v4), some (.int v5), some (.int v6), some (.int v7), some (.int v8), some (.int v9), none, none, none, none, none, none, none, none, none, none] [] (W1 scr s []) out) (s : Q) (scr : List Int32) (v2 v3 : Int32) (v4 v5 : Int32) (v6 v7 : Int32) (v8 v9 : Int32) {res : (Q) ⊕ ((Q) ⊕ ((Q) ⊕ ((Q) ⊕ ((Q) ⊕ ((Q) ⊕ ((Q) ⊕ ((Q) ⊕ ((Q) ⊕ ((Q) ⊕ ((Q) ⊕ ((Q) ⊕ ((Q) ⊕ ((Q) ⊕ ((Q) ⊕ ((Q) ⊕ ((Q) ⊕ ((Q) ⊕ ((Q) ⊕ ((Q) ⊕ (Q))))))))))))))))))))} {out : Option Value × AHeap} (h : law_b698 go_ s scr v2 v3 v4 v5 v6 v7 v8 v9 = some res) (hk : law_l34_K scr res out) : Eval own_P 0 698 [some (.ref 0), some (.ref 1), some (.int v2), some (.int v3), some (.int v4), some (.int v5), some (.int v6), some (.int v7), some (.int v8), some (.int v9), none, none, none, none, none, none, none, none, none, none] [] (W1 scr s []) out := by
  rw [law_b698] at h
  refine Eval.goto (t := 775) rfl rfl ?_
  exact ev_law_b775 _ hrec s scr v2 v3 v4 v5 v6 v7 v8 v9 h hk
def law_b657 (go_ : Q → List Int32 → Int32 → Int32 → Int32 → Int32 → Int32 → Int32 → Int32 → Int32 → Option ((Q) ⊕ ((Q) ⊕ ((Q) ⊕ ((Q) ⊕ ((Q) ⊕ ((Q) ⊕ ((Q) ⊕ ((Q) ⊕ ((Q) ⊕ ((Q) ⊕ ((Q) ⊕ ((Q) ⊕ ((Q) ⊕ ((Q) ⊕ ((Q) ⊕ ((Q) ⊕ ((Q) ⊕ ((Q) ⊕ ((Q) ⊕ ((Q) ⊕ (Q)))))))))))))))))))))) (s : Q) (scr : List Int32) (v2 v3 : Int32) (v4 v5 : Int32) (v6 v7 : Int32) (v8 v9 : Int32) (v14 v15 : Int32) (v16 w0 : Int32) : Option ((Q) ⊕ ((Q) ⊕ ((Q) ⊕ ((Q) ⊕ ((Q) ⊕ ((Q) ⊕ ((Q) ⊕ ((Q) ⊕ ((Q) ⊕ ((Q) ⊕ ((Q) ⊕ ((Q) ⊕ ((Q) ⊕ ((Q) ⊕ ((Q) ⊕ ((Q) ⊕ ((Q) ⊕ ((Q) ⊕ ((Q) ⊕ ((Q) ⊕ (Q))))))))))))))))))))) := (if v16 = w0 then (if v16 = (0 : Int32) then (if v2 = (0 : Int32) then ((h_route s v14).bind fun p506 => ((j_physical s p506).bind fun p512 => (if p512 = v15 then (law_b698 (go_) s scr v2 v3 v4 v5 v6 v7 v8 v9) else some (.inr (.inr (.inr (.inr (.inr (.inr (.inr (.inr (.inr (.inr (.inr (.inl (s)))))))))))))))) else (law_b698 (go_) s scr v2 v3 v4 v5 v6 v7 v8 v9)) else (law_b698 (go_) s scr v2 v3 v4 v5 v6 v7 v8 v9)) else some (.inr (.inr (.inr (.inr (.inr (.inr (.inr (.inr (.inr (.inr (.inl (s)))))))))))))
set_option maxRecDepth 100000 in
theorem ev_law_b657 (go_ : Q → List Int32 → Int32 → Int32 → Int32 → Int32 → Int32 → Int32 → Int32 → Int32 → Option ((Q) ⊕ ((Q) ⊕ ((Q) ⊕ ((Q) ⊕ ((Q) ⊕ ((Q) ⊕ ((Q) ⊕ ((Q) ⊕ ((Q) ⊕ ((Q) ⊕ ((Q) ⊕ ((Q) ⊕ ((Q) ⊕ ((Q) ⊕ ((Q) ⊕ ((Q) ⊕ ((Q) ⊕ ((Q) ⊕ ((Q) ⊕ ((Q) ⊕ (Q)))))))))))))))))))))) (hrec : ∀ (s : Q) (scr : List Int32) (v2 v3 : Int32) (v4 v5 : Int32) (v6 v7 : Int32) (v8 v9 : Int32) {res : (Q) ⊕ ((Q) ⊕ ((Q) ⊕ ((Q) ⊕ ((Q) ⊕ ((Q) ⊕ ((Q) ⊕ ((Q) ⊕ ((Q) ⊕ ((Q) ⊕ ((Q) ⊕ ((Q) ⊕ ((Q) ⊕ ((Q) ⊕ ((Q) ⊕ ((Q) ⊕ ((Q) ⊕ ((Q) ⊕ ((Q) ⊕ ((Q) ⊕ (Q))))))))))))))))))))} {out : Option Value × AHeap}, go_ s scr v2 v3 v4 v5 v6 v7 v8 v9 = some res → law_l34_K scr res out → Eval own_P 0 34 [some (.ref 0), some (.ref 1), some (.int v2), some (.int v3), some (.int v4), some (.int v5), some (.int v6), some (.int v7), some (.int v8), some (.int v9), none, none, none, none, none, none, none, none, none, none] [] (W1 scr s []) out) (s : Q) (scr : List Int32) (v2 v3 : Int32) (v4 v5 : Int32) (v6 v7 : Int32) (v8 v9 : Int32) (v14 v15 : Int32) (v16 w0 : Int32) {res : (Q) ⊕ ((Q) ⊕ ((Q) ⊕ ((Q) ⊕ ((Q) ⊕ ((Q) ⊕ ((Q) ⊕ ((Q) ⊕ ((Q) ⊕ ((Q) ⊕ ((Q) ⊕ ((Q) ⊕ ((Q) ⊕ ((Q) ⊕ ((Q) ⊕ ((Q) ⊕ ((Q) ⊕ ((Q) ⊕ ((Q) ⊕ ((Q) ⊕ (Q))))))))))))))))))))} {out : Option Value × AHeap} (h : law_b657 go_ s scr v2 v3 v4 v5 v6 v7 v8 v9 v14 v15 v16 w0 = some res) (hk : law_l34_K scr res out) : Eval own_P 0 657 [some (.ref 0), some (.ref 1), some (.int v2), some (.int v3), some (.int v4), some (.int v5), some (.int v6), some (.int v7), some (.int v8), some (.int v9), none, none, none, none, some (.int v14), some (.int v15), some (.int v16), none, none, none] [.int w0] (W1 scr s []) out := by
  rw [law_b657] at h
  refine Eval.istore (L' := [some (.ref 0), some (.ref 1), some (.int v2), some (.int v3), some (.int v4), some (.int v5), some (.int v6), some (.int v7), some (.int v8), some (.int v9), none, none, none, none, some (.int v14), some (.int v15), some (.int v16), some (.int w0), none, none]) rfl rfl ?_
  refine Eval.iload rfl rfl ?_
  refine Eval.iload rfl rfl ?_
  by_cases hc500 : v16 = w0
  · rw [if_pos hc500] at h
    refine Eval.icmpT (t := 668) rfl rfl (teq hc500).1 ?_
    refine Eval.iload rfl rfl ?_
    by_cases hc501 : v16 = (0 : Int32)
    · rw [if_pos hc501] at h
      refine Eval.ifF rfl (teq hc501).2 ?_
      refine Eval.iload_n rfl rfl ?_
      by_cases hc502 : v2 = (0 : Int32)
      · rw [if_pos hc502] at h
        refine Eval.ifF rfl (teq hc502).2 ?_
        refine Eval.aload_n rfl rfl ?_
        refine Eval.iload rfl rfl ?_
        obtain ⟨p506, hq507, h⟩ := bind_some h
        refine Eval.callI (rest := []) (x := p506) (H1 := (W1 scr s [])) rfl rfl (ev_h_route [] scr s v14 hq507 rfl) ?_
        refine Eval.istore (L' := [some (.ref 0), some (.ref 1), some (.int v2), some (.int v3), some (.int v4), some (.int v5), some (.int v6), some (.int v7), some (.int v8), some (.int v9), none, none, none, none, some (.int v14), some (.int v15), some (.int v16), some (.int w0), some (.int p506), none]) rfl rfl ?_
        refine Eval.aload_n rfl rfl ?_
        refine Eval.iload rfl rfl ?_
        obtain ⟨p512, hq513, h⟩ := bind_some h
        refine Eval.callI (rest := []) (x := p512) (H1 := (W1 scr s [])) rfl rfl (ev_j_physical [] scr s p506 hq513 rfl) ?_
        refine Eval.iload rfl rfl ?_
        by_cases hc514 : p512 = v15
        · rw [if_pos hc514] at h
          refine Eval.icmpT (t := 698) rfl rfl (teq hc514).1 ?_
          refine Eval.weak (lw_mk 1023 _) ?_
          exact ev_law_b698 _ hrec s scr v2 v3 v4 v5 v6 v7 v8 v9 h hk
        · rw [if_neg hc514] at h
          refine Eval.icmpF rfl (feq hc514).1 ?_
          cases h
          refine Eval.weak (lw_mk 0 _) ?_
          exact hk
      · rw [if_neg hc502] at h
        refine Eval.ifT (t := 698) rfl rfl (feq hc502).2 ?_
        refine Eval.weak (lw_mk 1023 _) ?_
        exact ev_law_b698 _ hrec s scr v2 v3 v4 v5 v6 v7 v8 v9 h hk
    · rw [if_neg hc501] at h
      refine Eval.ifT (t := 698) rfl rfl (feq hc501).2 ?_
      refine Eval.weak (lw_mk 1023 _) ?_
      exact ev_law_b698 _ hrec s scr v2 v3 v4 v5 v6 v7 v8 v9 h hk
  · rw [if_neg hc500] at h
    refine Eval.icmpF rfl (feq hc500).1 ?_
    cases h
    refine Eval.weak (lw_mk 0 _) ?_
    exact hk
def j_read (s : Q) (v1 : Int32) : Option (Int32 × Q) := (if (j_isAddress v1) = (0 : Int32) then some ((-1 : Int32), s) else ((j_readRouted s v1).bind fun p516 => some (p516.1, p516.2)))
set_option maxRecDepth 100000 in
theorem ev_j_read (R : AHeap) (scr : List Int32) (s : Q) (v1 : Int32) {res : Int32 × Q} {out : Option Value × AHeap} (h : j_read s v1 = some res) (hk : out = (some (.int res.1), (W1 scr res.2 R))) : Eval own_P 36 0 [some (.ref 1), some (.int v1)] [] (W1 scr s R) out := by
  rw [j_read] at h
  refine Eval.aload_n rfl rfl ?_
  refine Eval.iload_n rfl rfl ?_
  refine Eval.callI (rest := []) (x := (j_isAddress v1)) (H1 := (W1 scr s R)) rfl rfl (ev_j_isAddress (W1 scr s R) 1 v1 rfl rfl) ?_
  by_cases hc515 : (j_isAddress v1) = (0 : Int32)
  · rw [if_pos hc515] at h
    refine Eval.ifF rfl (teq hc515).2 ?_
    refine Eval.iconst (x := (-1 : Int32)) rfl rfl ?_
    cases h
    subst hk
    exact Eval.ret rfl rfl
  · rw [if_neg hc515] at h
    refine Eval.ifT (t := 10) rfl rfl (feq hc515).2 ?_
    refine Eval.aload_n rfl rfl ?_
    refine Eval.iload_n rfl rfl ?_
    obtain ⟨p516, hq517, h⟩ := bind_some h
    refine Eval.callI (rest := []) (x := p516.1) (H1 := (W1 scr p516.2 R)) rfl rfl (ev_j_readRouted R scr s v1 hq517 rfl) ?_
    cases h
    subst hk
    exact Eval.ret rfl rfl
def law_b746 (go_ : Q → List Int32 → Int32 → Int32 → Int32 → Int32 → Int32 → Int32 → Int32 → Int32 → Option ((Q) ⊕ ((Q) ⊕ ((Q) ⊕ ((Q) ⊕ ((Q) ⊕ ((Q) ⊕ ((Q) ⊕ ((Q) ⊕ ((Q) ⊕ ((Q) ⊕ ((Q) ⊕ ((Q) ⊕ ((Q) ⊕ ((Q) ⊕ ((Q) ⊕ ((Q) ⊕ ((Q) ⊕ ((Q) ⊕ ((Q) ⊕ ((Q) ⊕ (Q)))))))))))))))))))))) (s : Q) (scr : List Int32) (v2 v3 : Int32) (v4 v5 : Int32) (v7 v8 : Int32) (v9 v14 v15 : Int32) : Option ((Q) ⊕ ((Q) ⊕ ((Q) ⊕ ((Q) ⊕ ((Q) ⊕ ((Q) ⊕ ((Q) ⊕ ((Q) ⊕ ((Q) ⊕ ((Q) ⊕ ((Q) ⊕ ((Q) ⊕ ((Q) ⊕ ((Q) ⊕ ((Q) ⊕ ((Q) ⊕ ((Q) ⊕ ((Q) ⊕ ((Q) ⊕ ((Q) ⊕ (Q))))))))))))))))))))) := (if v2 = (0 : Int32) then ((h_route s v14).bind fun p525 => ((j_physical s p525).bind fun p527 => (if p527 = v15 then (law_b775 (go_) s scr v2 v3 v4 v5 v15 v7 v8 v9) else some (.inr (.inr (.inr (.inr (.inr (.inr (.inr (.inr (.inr (.inr (.inr (.inr (.inr (.inr (.inl (s))))))))))))))))))) else (law_b775 (go_) s scr v2 v3 v4 v5 v15 v7 v8 v9))
set_option maxRecDepth 100000 in
theorem ev_law_b746 (go_ : Q → List Int32 → Int32 → Int32 → Int32 → Int32 → Int32 → Int32 → Int32 → Int32 → Option ((Q) ⊕ ((Q) ⊕ ((Q) ⊕ ((Q) ⊕ ((Q) ⊕ ((Q) ⊕ ((Q) ⊕ ((Q) ⊕ ((Q) ⊕ ((Q) ⊕ ((Q) ⊕ ((Q) ⊕ ((Q) ⊕ ((Q) ⊕ ((Q) ⊕ ((Q) ⊕ ((Q) ⊕ ((Q) ⊕ ((Q) ⊕ ((Q) ⊕ (Q)))))))))))))))))))))) (hrec : ∀ (s : Q) (scr : List Int32) (v2 v3 : Int32) (v4 v5 : Int32) (v6 v7 : Int32) (v8 v9 : Int32) {res : (Q) ⊕ ((Q) ⊕ ((Q) ⊕ ((Q) ⊕ ((Q) ⊕ ((Q) ⊕ ((Q) ⊕ ((Q) ⊕ ((Q) ⊕ ((Q) ⊕ ((Q) ⊕ ((Q) ⊕ ((Q) ⊕ ((Q) ⊕ ((Q) ⊕ ((Q) ⊕ ((Q) ⊕ ((Q) ⊕ ((Q) ⊕ ((Q) ⊕ (Q))))))))))))))))))))} {out : Option Value × AHeap}, go_ s scr v2 v3 v4 v5 v6 v7 v8 v9 = some res → law_l34_K scr res out → Eval own_P 0 34 [some (.ref 0), some (.ref 1), some (.int v2), some (.int v3), some (.int v4), some (.int v5), some (.int v6), some (.int v7), some (.int v8), some (.int v9), none, none, none, none, none, none, none, none, none, none] [] (W1 scr s []) out) (s : Q) (scr : List Int32) (v2 v3 : Int32) (v4 v5 : Int32) (v7 v8 : Int32) (v9 v14 v15 : Int32) {res : (Q) ⊕ ((Q) ⊕ ((Q) ⊕ ((Q) ⊕ ((Q) ⊕ ((Q) ⊕ ((Q) ⊕ ((Q) ⊕ ((Q) ⊕ ((Q) ⊕ ((Q) ⊕ ((Q) ⊕ ((Q) ⊕ ((Q) ⊕ ((Q) ⊕ ((Q) ⊕ ((Q) ⊕ ((Q) ⊕ ((Q) ⊕ ((Q) ⊕ (Q))))))))))))))))))))} {out : Option Value × AHeap} (h : law_b746 go_ s scr v2 v3 v4 v5 v7 v8 v9 v14 v15 = some res) (hk : law_l34_K scr res out) : Eval own_P 0 746 [some (.ref 0), some (.ref 1), some (.int v2), some (.int v3), some (.int v4), some (.int v5), none, some (.int v7), some (.int v8), some (.int v9), none, none, none, none, some (.int v14), some (.int v15), none, none, none, none] [] (W1 scr s []) out := by
  rw [law_b746] at h
  refine Eval.iload rfl rfl ?_
  refine Eval.istore (L' := [some (.ref 0), some (.ref 1), some (.int v2), some (.int v3), some (.int v4), some (.int v5), some (.int v15), some (.int v7), some (.int v8), some (.int v9), none, none, none, none, some (.int v14), some (.int v15), none, none, none, none]) rfl rfl ?_
  refine Eval.iload_n rfl rfl ?_
  by_cases hc524 : v2 = (0 : Int32)
  · rw [if_pos hc524] at h
    refine Eval.ifF rfl (teq hc524).2 ?_
    refine Eval.aload_n rfl rfl ?_
    refine Eval.iload rfl rfl ?_
    obtain ⟨p525, hq526, h⟩ := bind_some h
    refine Eval.callI (rest := []) (x := p525) (H1 := (W1 scr s [])) rfl rfl (ev_h_route [] scr s v14 hq526 rfl) ?_
    refine Eval.istore (L' := [some (.ref 0), some (.ref 1), some (.int v2), some (.int v3), some (.int v4), some (.int v5), some (.int v15), some (.int v7), some (.int v8), some (.int v9), none, none, none, none, some (.int v14), some (.int v15), some (.int p525), none, none, none]) rfl rfl ?_
    refine Eval.aload_n rfl rfl ?_
    refine Eval.iload rfl rfl ?_
    obtain ⟨p527, hq528, h⟩ := bind_some h
    refine Eval.callI (rest := []) (x := p527) (H1 := (W1 scr s [])) rfl rfl (ev_j_physical [] scr s p525 hq528 rfl) ?_
    refine Eval.iload rfl rfl ?_
    by_cases hc529 : p527 = v15
    · rw [if_pos hc529] at h
      refine Eval.icmpT (t := 775) rfl rfl (teq hc529).1 ?_
      refine Eval.weak (lw_mk 1023 _) ?_
      exact ev_law_b775 _ hrec s scr v2 v3 v4 v5 v15 v7 v8 v9 h hk
    · rw [if_neg hc529] at h
      refine Eval.icmpF rfl (feq hc529).1 ?_
      cases h
      refine Eval.weak (lw_mk 0 _) ?_
      exact hk
  · rw [if_neg hc524] at h
    refine Eval.ifT (t := 775) rfl rfl (feq hc524).2 ?_
    refine Eval.weak (lw_mk 1023 _) ?_
    exact ev_law_b775 _ hrec s scr v2 v3 v4 v5 v15 v7 v8 v9 h hk
def law_l34 : Nat → Q → List Int32 → Int32 → Int32 → Int32 → Int32 → Int32 → Int32 → Int32 → Int32 → Option ((Q) ⊕ ((Q) ⊕ ((Q) ⊕ ((Q) ⊕ ((Q) ⊕ ((Q) ⊕ ((Q) ⊕ ((Q) ⊕ ((Q) ⊕ ((Q) ⊕ ((Q) ⊕ ((Q) ⊕ ((Q) ⊕ ((Q) ⊕ ((Q) ⊕ ((Q) ⊕ ((Q) ⊕ ((Q) ⊕ ((Q) ⊕ ((Q) ⊕ (Q)))))))))))))))))))))
  | 0, _, _, _, _, _, _, _, _, _, _ => none
  | n + 1, s, scr, v2, v3, v4, v5, v6, v7, v8, v9 => (if (v9 + (3 : Int32)) < (Nat.toInt32 scr.length) then (if inb scr.length v9 = true then (if inb scr.length (v9 + (1 : Int32)) = true then (if inb scr.length (v9 + (2 : Int32)) = true then (if inb scr.length (v9 + (3 : Int32)) = true then (if ((rd scr v9) &&& (7 : Int32)) = (0 : Int32) then ((j_inject s (((rd scr (v9 + (1 : Int32))) &&& (65535 : Int32)) &&& (7 : Int32)) (((rd scr (v9 + (2 : Int32))) &&& (65535 : Int32)) &&& (255 : Int32)) (((rd scr (v9 + (3 : Int32))) &&& (65535 : Int32)) &&& (255 : Int32)) ((isr ((rd scr (v9 + (3 : Int32))) &&& (65535 : Int32)) (8 : Int32)) &&& (3 : Int32))).bind fun p69 => (if (((rd scr (v9 + (1 : Int32))) &&& (65535 : Int32)) &&& (7 : Int32)) = (0 : Int32) then (law_b148 (law_l34 n) p69.2 scr v2 v3 v4 v5 v6 v7 v8 v9 (((rd scr (v9 + (1 : Int32))) &&& (65535 : Int32)) &&& (7 : Int32)) (((rd scr (v9 + (2 : Int32))) &&& (65535 : Int32)) &&& (255 : Int32)) (((rd scr (v9 + (3 : Int32))) &&& (65535 : Int32)) &&& (255 : Int32)) ((isr ((rd scr (v9 + (3 : Int32))) &&& (65535 : Int32)) (8 : Int32)) &&& (3 : Int32)) p69.1) else (if (((rd scr (v9 + (1 : Int32))) &&& (65535 : Int32)) &&& (7 : Int32)) = (7 : Int32) then (law_b148 (law_l34 n) p69.2 scr v2 v3 v4 v5 v6 v7 v8 v9 (((rd scr (v9 + (1 : Int32))) &&& (65535 : Int32)) &&& (7 : Int32)) (((rd scr (v9 + (2 : Int32))) &&& (65535 : Int32)) &&& (255 : Int32)) (((rd scr (v9 + (3 : Int32))) &&& (65535 : Int32)) &&& (255 : Int32)) ((isr ((rd scr (v9 + (3 : Int32))) &&& (65535 : Int32)) (8 : Int32)) &&& (3 : Int32)) p69.1) else (law_b157 (law_l34 n) p69.2 scr v2 v3 v4 v5 v6 v7 v8 v9 (((rd scr (v9 + (1 : Int32))) &&& (65535 : Int32)) &&& (7 : Int32)) (((rd scr (v9 + (2 : Int32))) &&& (65535 : Int32)) &&& (255 : Int32)) (((rd scr (v9 + (3 : Int32))) &&& (65535 : Int32)) &&& (255 : Int32)) ((isr ((rd scr (v9 + (3 : Int32))) &&& (65535 : Int32)) (8 : Int32)) &&& (3 : Int32)) p69.1)))) else (if ((rd scr v9) &&& (7 : Int32)) = (1 : Int32) then ((j_clearFaults s).bind fun p151 => (law_b775 (law_l34 n) p151 scr (0 : Int32) v3 v4 v5 v6 v7 v8 v9)) else (if ((rd scr v9) &&& (7 : Int32)) = (2 : Int32) then (law_b263 (law_l34 n) s scr v2 v3 v4 v5 v6 v7 v8 v9 ((rd scr (v9 + (2 : Int32))) &&& (65535 : Int32)) ((rd scr (v9 + (3 : Int32))) &&& (65535 : Int32)) (if (((rd scr (v9 + (1 : Int32))) &&& (65535 : Int32)) &&& (15 : Int32)) = (15 : Int32) then (2 : Int32) else (((rd scr (v9 + (1 : Int32))) &&& (65535 : Int32)) &&& (1 : Int32)))) else (if ((rd scr v9) &&& (7 : Int32)) = (3 : Int32) then ((j_loadPreset s (((rd scr (v9 + (1 : Int32))) &&& (65535 : Int32)) % (5 : Int32))).bind fun p256 => (law_b412 (law_l34 n) p256.2 scr v2 v3 v4 v5 v6 v7 v8 v9 (((rd scr (v9 + (1 : Int32))) &&& (65535 : Int32)) % (5 : Int32)) p256.1 (if (3 : Int32) < (((rd scr (v9 + (1 : Int32))) &&& (65535 : Int32)) % (5 : Int32)) then (0 : Int32) else (1 : Int32)))) else (if ((rd scr v9) &&& (7 : Int32)) = (4 : Int32) then ((j_run s).bind fun p409 => (if v3 = (0 : Int32) then (if p409.1 = (-10 : Int32) then (law_b545 (law_l34 n) p409.2 scr v2 v3 v4 v5 v6 v7 v8 v9) else some (.inr (.inr (.inr (.inr (.inr (.inl (p409.2)))))))) else (if p409.1 < (0 : Int32) then some (.inr (.inr (.inr (.inr (.inr (.inr (.inl (p409.2)))))))) else (if (8192 : Int32) < p409.1 then some (.inr (.inr (.inr (.inr (.inr (.inr (.inl (p409.2)))))))) else (law_b505 (law_l34 n) p409.2 scr v2 v3 v4 (j_failRows p409.2) v9 p409.1 (if p409.1 = (0 : Int32) then (1 : Int32) else (0 : Int32))))))) else (if ((rd scr v9) &&& (7 : Int32)) = (5 : Int32) then ((j_repair s).bind fun p482 => (if p482.1 < (0 : Int32) then (if p482.1 = (-11 : Int32) then (law_b599 (law_l34 n) p482.2 scr v2 v3 v4 v5 v6 v7 v8 v9) else some (.inr (.inr (.inr (.inr (.inr (.inr (.inr (.inr (.inr (.inl (p482.2)))))))))))) else (if v8 = (0 : Int32) then (law_b577 (law_l34 n) p482.2 scr v2 v3 v4 v5 v6 v7 v9 p482.1) else (if p482.1 = (0 : Int32) then (law_b577 (law_l34 n) p482.2 scr v2 v3 v4 v5 v6 v7 v9 p482.1) else some (.inr (.inr (.inr (.inr (.inr (.inr (.inr (.inr (.inl (p482.2)))))))))))))) else (if ((rd scr v9) &&& (7 : Int32)) = (6 : Int32) then ((j_write s (((rd scr (v9 + (1 : Int32))) &&& (65535 : Int32)) % (260 : Int32)) (((rd scr (v9 + (2 : Int32))) &&& (65535 : Int32)) % (3 : Int32))).bind fun p495 => (law_b657 (law_l34 n) p495.2 scr v2 v3 v4 v5 v6 v7 v8 v9 (((rd scr (v9 + (1 : Int32))) &&& (65535 : Int32)) % (260 : Int32)) (((rd scr (v9 + (2 : Int32))) &&& (65535 : Int32)) % (3 : Int32)) p495.1 (if (255 : Int32) < (((rd scr (v9 + (1 : Int32))) &&& (65535 : Int32)) % (260 : Int32)) then (-1 : Int32) else (if (((rd scr (v9 + (2 : Int32))) &&& (65535 : Int32)) % (3 : Int32)) = (2 : Int32) then (-2 : Int32) else (0 : Int32))))) else ((j_read s (((rd scr (v9 + (1 : Int32))) &&& (65535 : Int32)) % (260 : Int32))).bind fun p519 => (if (255 : Int32) < (((rd scr (v9 + (1 : Int32))) &&& (65535 : Int32)) % (260 : Int32)) then (if p519.1 = (-1 : Int32) then (law_b775 (law_l34 n) p519.2 scr v2 v3 v4 v5 v6 v7 v8 v9) else some (.inr (.inr (.inr (.inr (.inr (.inr (.inr (.inr (.inr (.inr (.inr (.inr (.inl (p519.2))))))))))))))) else (if p519.1 = (0 : Int32) then (law_b746 (law_l34 n) p519.2 scr v2 v3 v4 v5 v7 v8 v9 (((rd scr (v9 + (1 : Int32))) &&& (65535 : Int32)) % (260 : Int32)) p519.1) else (if p519.1 = (1 : Int32) then (law_b746 (law_l34 n) p519.2 scr v2 v3 v4 v5 v7 v8 v9 (((rd scr (v9 + (1 : Int32))) &&& (65535 : Int32)) % (260 : Int32)) p519.1) else some (.inr (.inr (.inr (.inr (.inr (.inr (.inr (.inr (.inr (.inr (.inr (.inr (.inr (.inl (p519.2)))))))))))))))))))))))))) else none) else none) else none) else none) else some (.inr (.inr (.inr (.inr (.inr (.inr (.inr (.inr (.inr (.inr (.inr (.inr (.inr (.inr (.inr (.inr (.inr (.inr (.inr (.inr (s))))))))))))))))))))))
set_option maxRecDepth 100000 in
theorem ev_law_l34 : ∀ (n : Nat) (s : Q) (scr : List Int32) (v2 v3 : Int32) (v4 v5 : Int32) (v6 v7 : Int32) (v8 v9 : Int32) {res : (Q) ⊕ ((Q) ⊕ ((Q) ⊕ ((Q) ⊕ ((Q) ⊕ ((Q) ⊕ ((Q) ⊕ ((Q) ⊕ ((Q) ⊕ ((Q) ⊕ ((Q) ⊕ ((Q) ⊕ ((Q) ⊕ ((Q) ⊕ ((Q) ⊕ ((Q) ⊕ ((Q) ⊕ ((Q) ⊕ ((Q) ⊕ ((Q) ⊕ (Q))))))))))))))))))))} {out : Option Value × AHeap}, law_l34 n s scr v2 v3 v4 v5 v6 v7 v8 v9 = some res → law_l34_K scr res out → Eval own_P 0 34 [some (.ref 0), some (.ref 1), some (.int v2), some (.int v3), some (.int v4), some (.int v5), some (.int v6), some (.int v7), some (.int v8), some (.int v9), none, none, none, none, none, none, none, none, none, none] [] (W1 scr s []) out := by
  intro n
  induction n with
  | zero => intro _ _ _ _ _ _ _ _ _ _ res out h hk; cases h
  | succ n hrec =>
    intro s scr v2 v3 v4 v5 v6 v7 v8 v9 res out h hk
    rw [law_l34] at h
    refine Eval.iload rfl rfl ?_
    refine Eval.iconst (x := (3 : Int32)) rfl rfl ?_
    refine Eval.iadd rfl ?_
    refine Eval.aload_n rfl rfl ?_
    refine Eval.alenI (xs := scr) rfl rfl ?_
    by_cases hc10 : (v9 + (3 : Int32)) < (Nat.toInt32 scr.length)
    · rw [if_pos hc10] at h
      refine Eval.icmpF rfl (tlt hc10).2.1 ?_
      refine Eval.aload_n rfl rfl ?_
      refine Eval.iload rfl rfl ?_
      obtain ⟨hb11, h⟩ := ite_some h
      refine Eval.iaload0 (xs := scr) rfl rfl hb11 ?_
      refine Eval.bipush (x := (7 : Int32)) rfl rfl ?_
      refine Eval.iand rfl ?_
      refine Eval.istore (L' := [some (.ref 0), some (.ref 1), some (.int v2), some (.int v3), some (.int v4), some (.int v5), some (.int v6), some (.int v7), some (.int v8), some (.int v9), some (.int ((rd scr v9) &&& (7 : Int32))), none, none, none, none, none, none, none, none, none]) rfl rfl ?_
      refine Eval.aload_n rfl rfl ?_
      refine Eval.iload rfl rfl ?_
      refine Eval.iconst (x := (1 : Int32)) rfl rfl ?_
      refine Eval.iadd rfl ?_
      obtain ⟨hb12, h⟩ := ite_some h
      refine Eval.iaload0 (xs := scr) rfl rfl hb12 ?_
      refine Eval.ldc (x := (65535 : Int32)) rfl rfl ?_
      refine Eval.iand rfl ?_
      refine Eval.istore (L' := [some (.ref 0), some (.ref 1), some (.int v2), some (.int v3), some (.int v4), some (.int v5), some (.int v6), some (.int v7), some (.int v8), some (.int v9), some (.int ((rd scr v9) &&& (7 : Int32))), some (.int ((rd scr (v9 + (1 : Int32))) &&& (65535 : Int32))), none, none, none, none, none, none, none, none]) rfl rfl ?_
      refine Eval.aload_n rfl rfl ?_
      refine Eval.iload rfl rfl ?_
      refine Eval.iconst (x := (2 : Int32)) rfl rfl ?_
      refine Eval.iadd rfl ?_
      obtain ⟨hb13, h⟩ := ite_some h
      refine Eval.iaload0 (xs := scr) rfl rfl hb13 ?_
      refine Eval.ldc (x := (65535 : Int32)) rfl rfl ?_
      refine Eval.iand rfl ?_
      refine Eval.istore (L' := [some (.ref 0), some (.ref 1), some (.int v2), some (.int v3), some (.int v4), some (.int v5), some (.int v6), some (.int v7), some (.int v8), some (.int v9), some (.int ((rd scr v9) &&& (7 : Int32))), some (.int ((rd scr (v9 + (1 : Int32))) &&& (65535 : Int32))), some (.int ((rd scr (v9 + (2 : Int32))) &&& (65535 : Int32))), none, none, none, none, none, none, none]) rfl rfl ?_
      refine Eval.aload_n rfl rfl ?_
      refine Eval.iload rfl rfl ?_
      refine Eval.iconst (x := (3 : Int32)) rfl rfl ?_
      refine Eval.iadd rfl ?_
      obtain ⟨hb14, h⟩ := ite_some h
      refine Eval.iaload0 (xs := scr) rfl rfl hb14 ?_
      refine Eval.ldc (x := (65535 : Int32)) rfl rfl ?_
      refine Eval.iand rfl ?_
      refine Eval.istore (L' := [some (.ref 0), some (.ref 1), some (.int v2), some (.int v3), some (.int v4), some (.int v5), some (.int v6), some (.int v7), some (.int v8), some (.int v9), some (.int ((rd scr v9) &&& (7 : Int32))), some (.int ((rd scr (v9 + (1 : Int32))) &&& (65535 : Int32))), some (.int ((rd scr (v9 + (2 : Int32))) &&& (65535 : Int32))), some (.int ((rd scr (v9 + (3 : Int32))) &&& (65535 : Int32))), none, none, none, none, none, none]) rfl rfl ?_
      refine Eval.iload rfl rfl ?_
      by_cases hc15 : ((rd scr v9) &&& (7 : Int32)) = (0 : Int32)
      · rw [if_pos hc15] at h
        refine Eval.ifF rfl (teq hc15).2 ?_
        refine Eval.iload rfl rfl ?_
        refine Eval.bipush (x := (7 : Int32)) rfl rfl ?_
        refine Eval.iand rfl ?_
        refine Eval.istore (L' := [some (.ref 0), some (.ref 1), some (.int v2), some (.int v3), some (.int v4), some (.int v5), some (.int v6), some (.int v7), some (.int v8), some (.int v9), some (.int ((rd scr v9) &&& (7 : Int32))), some (.int ((rd scr (v9 + (1 : Int32))) &&& (65535 : Int32))), some (.int ((rd scr (v9 + (2 : Int32))) &&& (65535 : Int32))), some (.int ((rd scr (v9 + (3 : Int32))) &&& (65535 : Int32))), some (.int (((rd scr (v9 + (1 : Int32))) &&& (65535 : Int32)) &&& (7 : Int32))), none, none, none, none, none]) rfl rfl ?_
        refine Eval.iload rfl rfl ?_
        refine Eval.sipush (x := (255 : Int32)) rfl rfl ?_
        refine Eval.iand rfl ?_
        refine Eval.istore (L' := [some (.ref 0), some (.ref 1), some (.int v2), some (.int v3), some (.int v4), some (.int v5), some (.int v6), some (.int v7), some (.int v8), some (.int v9), some (.int ((rd scr v9) &&& (7 : Int32))), some (.int ((rd scr (v9 + (1 : Int32))) &&& (65535 : Int32))), some (.int ((rd scr (v9 + (2 : Int32))) &&& (65535 : Int32))), some (.int ((rd scr (v9 + (3 : Int32))) &&& (65535 : Int32))), some (.int (((rd scr (v9 + (1 : Int32))) &&& (65535 : Int32)) &&& (7 : Int32))), some (.int (((rd scr (v9 + (2 : Int32))) &&& (65535 : Int32)) &&& (255 : Int32))), none, none, none, none]) rfl rfl ?_
        refine Eval.iload rfl rfl ?_
        refine Eval.sipush (x := (255 : Int32)) rfl rfl ?_
        refine Eval.iand rfl ?_
        refine Eval.istore (L' := [some (.ref 0), some (.ref 1), some (.int v2), some (.int v3), some (.int v4), some (.int v5), some (.int v6), some (.int v7), some (.int v8), some (.int v9), some (.int ((rd scr v9) &&& (7 : Int32))), some (.int ((rd scr (v9 + (1 : Int32))) &&& (65535 : Int32))), some (.int ((rd scr (v9 + (2 : Int32))) &&& (65535 : Int32))), some (.int ((rd scr (v9 + (3 : Int32))) &&& (65535 : Int32))), some (.int (((rd scr (v9 + (1 : Int32))) &&& (65535 : Int32)) &&& (7 : Int32))), some (.int (((rd scr (v9 + (2 : Int32))) &&& (65535 : Int32)) &&& (255 : Int32))), some (.int (((rd scr (v9 + (3 : Int32))) &&& (65535 : Int32)) &&& (255 : Int32))), none, none, none]) rfl rfl ?_
        refine Eval.iload rfl rfl ?_
        refine Eval.bipush (x := (8 : Int32)) rfl rfl ?_
        refine Eval.ishr rfl ?_
        refine Eval.iconst (x := (3 : Int32)) rfl rfl ?_
        refine Eval.iand rfl ?_
        refine Eval.istore (L' := [some (.ref 0), some (.ref 1), some (.int v2), some (.int v3), some (.int v4), some (.int v5), some (.int v6), some (.int v7), some (.int v8), some (.int v9), some (.int ((rd scr v9) &&& (7 : Int32))), some (.int ((rd scr (v9 + (1 : Int32))) &&& (65535 : Int32))), some (.int ((rd scr (v9 + (2 : Int32))) &&& (65535 : Int32))), some (.int ((rd scr (v9 + (3 : Int32))) &&& (65535 : Int32))), some (.int (((rd scr (v9 + (1 : Int32))) &&& (65535 : Int32)) &&& (7 : Int32))), some (.int (((rd scr (v9 + (2 : Int32))) &&& (65535 : Int32)) &&& (255 : Int32))), some (.int (((rd scr (v9 + (3 : Int32))) &&& (65535 : Int32)) &&& (255 : Int32))), some (.int ((isr ((rd scr (v9 + (3 : Int32))) &&& (65535 : Int32)) (8 : Int32)) &&& (3 : Int32))), none, none]) rfl rfl ?_
        refine Eval.aload_n rfl rfl ?_
        refine Eval.iload rfl rfl ?_
        refine Eval.iload rfl rfl ?_
        refine Eval.iload rfl rfl ?_
        refine Eval.iload rfl rfl ?_
        obtain ⟨p69, hq70, h⟩ := bind_some h
        refine Eval.callI (rest := []) (x := p69.1) (H1 := (W1 scr p69.2 [])) rfl rfl (ev_j_inject [] scr s (((rd scr (v9 + (1 : Int32))) &&& (65535 : Int32)) &&& (7 : Int32)) (((rd scr (v9 + (2 : Int32))) &&& (65535 : Int32)) &&& (255 : Int32)) (((rd scr (v9 + (3 : Int32))) &&& (65535 : Int32)) &&& (255 : Int32)) ((isr ((rd scr (v9 + (3 : Int32))) &&& (65535 : Int32)) (8 : Int32)) &&& (3 : Int32)) hq70 rfl) ?_
        refine Eval.istore (L' := [some (.ref 0), some (.ref 1), some (.int v2), some (.int v3), some (.int v4), some (.int v5), some (.int v6), some (.int v7), some (.int v8), some (.int v9), some (.int ((rd scr v9) &&& (7 : Int32))), some (.int ((rd scr (v9 + (1 : Int32))) &&& (65535 : Int32))), some (.int ((rd scr (v9 + (2 : Int32))) &&& (65535 : Int32))), some (.int ((rd scr (v9 + (3 : Int32))) &&& (65535 : Int32))), some (.int (((rd scr (v9 + (1 : Int32))) &&& (65535 : Int32)) &&& (7 : Int32))), some (.int (((rd scr (v9 + (2 : Int32))) &&& (65535 : Int32)) &&& (255 : Int32))), some (.int (((rd scr (v9 + (3 : Int32))) &&& (65535 : Int32)) &&& (255 : Int32))), some (.int ((isr ((rd scr (v9 + (3 : Int32))) &&& (65535 : Int32)) (8 : Int32)) &&& (3 : Int32))), some (.int p69.1), none]) rfl rfl ?_
        refine Eval.iload rfl rfl ?_
        by_cases hc71 : (((rd scr (v9 + (1 : Int32))) &&& (65535 : Int32)) &&& (7 : Int32)) = (0 : Int32)
        · rw [if_pos hc71] at h
          refine Eval.ifT (t := 148) rfl rfl (teq hc71).1 ?_
          refine Eval.weak (lw_mk 508927 _) ?_
          exact ev_law_b148 _ hrec p69.2 scr v2 v3 v4 v5 v6 v7 v8 v9 (((rd scr (v9 + (1 : Int32))) &&& (65535 : Int32)) &&& (7 : Int32)) (((rd scr (v9 + (2 : Int32))) &&& (65535 : Int32)) &&& (255 : Int32)) (((rd scr (v9 + (3 : Int32))) &&& (65535 : Int32)) &&& (255 : Int32)) ((isr ((rd scr (v9 + (3 : Int32))) &&& (65535 : Int32)) (8 : Int32)) &&& (3 : Int32)) p69.1 h hk
        · rw [if_neg hc71] at h
          refine Eval.ifF rfl (feq hc71).1 ?_
          refine Eval.iload rfl rfl ?_
          refine Eval.bipush (x := (7 : Int32)) rfl rfl ?_
          by_cases hc135 : (((rd scr (v9 + (1 : Int32))) &&& (65535 : Int32)) &&& (7 : Int32)) = (7 : Int32)
          · rw [if_pos hc135] at h
            refine Eval.icmpF rfl (teq hc135).2 ?_
            refine Eval.weak (lw_mk 508927 _) ?_
            exact ev_law_b148 _ hrec p69.2 scr v2 v3 v4 v5 v6 v7 v8 v9 (((rd scr (v9 + (1 : Int32))) &&& (65535 : Int32)) &&& (7 : Int32)) (((rd scr (v9 + (2 : Int32))) &&& (65535 : Int32)) &&& (255 : Int32)) (((rd scr (v9 + (3 : Int32))) &&& (65535 : Int32)) &&& (255 : Int32)) ((isr ((rd scr (v9 + (3 : Int32))) &&& (65535 : Int32)) (8 : Int32)) &&& (3 : Int32)) p69.1 h hk
          · rw [if_neg hc135] at h
            refine Eval.icmpT (t := 157) rfl rfl (feq hc135).2 ?_
            refine Eval.weak (lw_mk 508927 _) ?_
            exact ev_law_b157 _ hrec p69.2 scr v2 v3 v4 v5 v6 v7 v8 v9 (((rd scr (v9 + (1 : Int32))) &&& (65535 : Int32)) &&& (7 : Int32)) (((rd scr (v9 + (2 : Int32))) &&& (65535 : Int32)) &&& (255 : Int32)) (((rd scr (v9 + (3 : Int32))) &&& (65535 : Int32)) &&& (255 : Int32)) ((isr ((rd scr (v9 + (3 : Int32))) &&& (65535 : Int32)) (8 : Int32)) &&& (3 : Int32)) p69.1 h hk
      · rw [if_neg hc15] at h
        refine Eval.ifT (t := 224) rfl rfl (feq hc15).2 ?_
        refine Eval.iload rfl rfl ?_
        refine Eval.iconst (x := (1 : Int32)) rfl rfl ?_
        by_cases hc136 : ((rd scr v9) &&& (7 : Int32)) = (1 : Int32)
        · rw [if_pos hc136] at h
          refine Eval.icmpF rfl (teq hc136).2 ?_
          refine Eval.aload_n rfl rfl ?_
          obtain ⟨p151, hq152, h⟩ := bind_some h
          refine Eval.callN (rest := []) (H1 := (W1 scr p151 [])) rfl rfl (ev_j_clearFaults [] scr s hq152 rfl) ?_
          refine Eval.iconst (x := (0 : Int32)) rfl rfl ?_
          refine Eval.istore_n (L' := [some (.ref 0), some (.ref 1), some (.int (0 : Int32)), some (.int v3), some (.int v4), some (.int v5), some (.int v6), some (.int v7), some (.int v8), some (.int v9), some (.int ((rd scr v9) &&& (7 : Int32))), some (.int ((rd scr (v9 + (1 : Int32))) &&& (65535 : Int32))), some (.int ((rd scr (v9 + (2 : Int32))) &&& (65535 : Int32))), some (.int ((rd scr (v9 + (3 : Int32))) &&& (65535 : Int32))), none, none, none, none, none, none]) rfl rfl ?_
          refine Eval.goto (t := 775) rfl rfl ?_
          refine Eval.weak (lw_mk 1023 _) ?_
          exact ev_law_b775 _ hrec p151 scr (0 : Int32) v3 v4 v5 v6 v7 v8 v9 h hk
        · rw [if_neg hc136] at h
          refine Eval.icmpT (t := 239) rfl rfl (feq hc136).2 ?_
          refine Eval.iload rfl rfl ?_
          refine Eval.iconst (x := (2 : Int32)) rfl rfl ?_
          by_cases hc153 : ((rd scr v9) &&& (7 : Int32)) = (2 : Int32)
          · rw [if_pos hc153] at h
            refine Eval.icmpF rfl (teq hc153).2 ?_
            refine Eval.iload rfl rfl ?_
            refine Eval.bipush (x := (15 : Int32)) rfl rfl ?_
            refine Eval.iand rfl ?_
            refine Eval.bipush (x := (15 : Int32)) rfl rfl ?_
            suffices hJ155 : Eval own_P 0 263 [some (.ref 0), some (.ref 1), some (.int v2), some (.int v3), some (.int v4), some (.int v5), some (.int v6), some (.int v7), some (.int v8), some (.int v9), none, none, some (.int ((rd scr (v9 + (2 : Int32))) &&& (65535 : Int32))), some (.int ((rd scr (v9 + (3 : Int32))) &&& (65535 : Int32))), none, none, none, none, none, none] [.int (if (((rd scr (v9 + (1 : Int32))) &&& (65535 : Int32)) &&& (15 : Int32)) = (15 : Int32) then (2 : Int32) else (((rd scr (v9 + (1 : Int32))) &&& (65535 : Int32)) &&& (1 : Int32)))] (W1 scr s []) out by
              by_cases hc154 : (((rd scr (v9 + (1 : Int32))) &&& (65535 : Int32)) &&& (15 : Int32)) = (15 : Int32)
              · refine Eval.icmpF rfl (teq hc154).2 ?_
                refine Eval.iconst (x := (2 : Int32)) rfl rfl ?_
                refine Eval.goto (t := 263) rfl rfl ?_
                refine Eval.weak (lw_mk 13311 _) ?_
                exact (Eval.conv hJ155 rfl (by simp only [if_pos hc154]))
              · refine Eval.icmpT (t := 259) rfl rfl (feq hc154).2 ?_
                refine Eval.iload rfl rfl ?_
                refine Eval.iconst (x := (1 : Int32)) rfl rfl ?_
                refine Eval.iand rfl ?_
                refine Eval.weak (lw_mk 13311 _) ?_
                exact (Eval.conv hJ155 rfl (by simp only [if_neg hc154]))
            exact ev_law_b263 _ hrec s scr v2 v3 v4 v5 v6 v7 v8 v9 ((rd scr (v9 + (2 : Int32))) &&& (65535 : Int32)) ((rd scr (v9 + (3 : Int32))) &&& (65535 : Int32)) (if (((rd scr (v9 + (1 : Int32))) &&& (65535 : Int32)) &&& (15 : Int32)) = (15 : Int32) then (2 : Int32) else (((rd scr (v9 + (1 : Int32))) &&& (65535 : Int32)) &&& (1 : Int32))) h hk
          · rw [if_neg hc153] at h
            refine Eval.icmpT (t := 383) rfl rfl (feq hc153).2 ?_
            refine Eval.iload rfl rfl ?_
            refine Eval.iconst (x := (3 : Int32)) rfl rfl ?_
            by_cases hc183 : ((rd scr v9) &&& (7 : Int32)) = (3 : Int32)
            · rw [if_pos hc183] at h
              refine Eval.icmpF rfl (teq hc183).2 ?_
              refine Eval.iload rfl rfl ?_
              refine Eval.iconst (x := (5 : Int32)) rfl rfl ?_
              refine Eval.irem rfl (by decide) ?_
              refine Eval.istore (L' := [some (.ref 0), some (.ref 1), some (.int v2), some (.int v3), some (.int v4), some (.int v5), some (.int v6), some (.int v7), some (.int v8), some (.int v9), some (.int ((rd scr v9) &&& (7 : Int32))), some (.int ((rd scr (v9 + (1 : Int32))) &&& (65535 : Int32))), some (.int ((rd scr (v9 + (2 : Int32))) &&& (65535 : Int32))), some (.int ((rd scr (v9 + (3 : Int32))) &&& (65535 : Int32))), some (.int (((rd scr (v9 + (1 : Int32))) &&& (65535 : Int32)) % (5 : Int32))), none, none, none, none, none]) rfl rfl ?_
              refine Eval.aload_n rfl rfl ?_
              refine Eval.iload rfl rfl ?_
              obtain ⟨p256, hq257, h⟩ := bind_some h
              refine Eval.callI (rest := []) (x := p256.1) (H1 := (W1 scr p256.2 [])) rfl rfl (ev_j_loadPreset [] scr s (((rd scr (v9 + (1 : Int32))) &&& (65535 : Int32)) % (5 : Int32)) hq257 rfl) ?_
              refine Eval.iload rfl rfl ?_
              refine Eval.iconst (x := (3 : Int32)) rfl rfl ?_
              suffices hJ259 : Eval own_P 0 412 [some (.ref 0), some (.ref 1), some (.int v2), some (.int v3), some (.int v4), some (.int v5), some (.int v6), some (.int v7), some (.int v8), some (.int v9), none, none, none, none, some (.int (((rd scr (v9 + (1 : Int32))) &&& (65535 : Int32)) % (5 : Int32))), none, none, none, none, none] [.int (if (3 : Int32) < (((rd scr (v9 + (1 : Int32))) &&& (65535 : Int32)) % (5 : Int32)) then (0 : Int32) else (1 : Int32)), .int p256.1] (W1 scr p256.2 []) out by
                by_cases hc258 : (3 : Int32) < (((rd scr (v9 + (1 : Int32))) &&& (65535 : Int32)) % (5 : Int32))
                · refine Eval.icmpT (t := 411) rfl rfl (tlt hc258).2.2.1 ?_
                  refine Eval.iconst (x := (0 : Int32)) rfl rfl ?_
                  refine Eval.weak (lw_mk 17407 _) ?_
                  exact (Eval.conv hJ259 rfl (by simp only [if_pos hc258]))
                · refine Eval.icmpF rfl (flt hc258).2.2.1 ?_
                  refine Eval.iconst (x := (1 : Int32)) rfl rfl ?_
                  refine Eval.goto (t := 412) rfl rfl ?_
                  refine Eval.weak (lw_mk 17407 _) ?_
                  exact (Eval.conv hJ259 rfl (by simp only [if_neg hc258]))
              exact ev_law_b412 _ hrec p256.2 scr v2 v3 v4 v5 v6 v7 v8 v9 (((rd scr (v9 + (1 : Int32))) &&& (65535 : Int32)) % (5 : Int32)) p256.1 (if (3 : Int32) < (((rd scr (v9 + (1 : Int32))) &&& (65535 : Int32)) % (5 : Int32)) then (0 : Int32) else (1 : Int32)) h hk
            · rw [if_neg hc183] at h
              refine Eval.icmpT (t := 449) rfl rfl (feq hc183).2 ?_
              refine Eval.iload rfl rfl ?_
              refine Eval.iconst (x := (4 : Int32)) rfl rfl ?_
              by_cases hc265 : ((rd scr v9) &&& (7 : Int32)) = (4 : Int32)
              · rw [if_pos hc265] at h
                refine Eval.icmpF rfl (teq hc265).2 ?_
                refine Eval.aload_n rfl rfl ?_
                obtain ⟨p409, hq410, h⟩ := bind_some h
                refine Eval.callI (rest := []) (x := p409.1) (H1 := (W1 scr p409.2 [])) rfl rfl (ev_j_run [] scr s hq410 rfl) ?_
                refine Eval.istore (L' := [some (.ref 0), some (.ref 1), some (.int v2), some (.int v3), some (.int v4), some (.int v5), some (.int v6), some (.int v7), some (.int v8), some (.int v9), some (.int ((rd scr v9) &&& (7 : Int32))), some (.int ((rd scr (v9 + (1 : Int32))) &&& (65535 : Int32))), some (.int ((rd scr (v9 + (2 : Int32))) &&& (65535 : Int32))), some (.int ((rd scr (v9 + (3 : Int32))) &&& (65535 : Int32))), some (.int p409.1), none, none, none, none, none]) rfl rfl ?_
                refine Eval.iload_n rfl rfl ?_
                by_cases hc411 : v3 = (0 : Int32)
                · rw [if_pos hc411] at h
                  refine Eval.ifF rfl (teq hc411).2 ?_
                  refine Eval.iload rfl rfl ?_
                  refine Eval.bipush (x := (-10 : Int32)) rfl rfl ?_
                  by_cases hc412 : p409.1 = (-10 : Int32)
                  · rw [if_pos hc412] at h
                    refine Eval.icmpT (t := 545) rfl rfl (teq hc412).1 ?_
                    refine Eval.weak (lw_mk 1023 _) ?_
                    exact ev_law_b545 _ hrec p409.2 scr v2 v3 v4 v5 v6 v7 v8 v9 h hk
                  · rw [if_neg hc412] at h
                    refine Eval.icmpF rfl (feq hc412).1 ?_
                    cases h
                    refine Eval.weak (lw_mk 0 _) ?_
                    exact hk
                · rw [if_neg hc411] at h
                  refine Eval.ifT (t := 474) rfl rfl (feq hc411).2 ?_
                  refine Eval.iload rfl rfl ?_
                  by_cases hc413 : p409.1 < (0 : Int32)
                  · rw [if_pos hc413] at h
                    refine Eval.ifT (t := 487) rfl rfl (tlt hc413).1 ?_
                    cases h
                    refine Eval.weak (lw_mk 0 _) ?_
                    exact hk
                  · rw [if_neg hc413] at h
                    refine Eval.ifF rfl (flt hc413).1 ?_
                    refine Eval.iload rfl rfl ?_
                    refine Eval.sipush (x := (8192 : Int32)) rfl rfl ?_
                    by_cases hc414 : (8192 : Int32) < p409.1
                    · rw [if_pos hc414] at h
                      refine Eval.icmpF rfl (tlt hc414).2.2.2 ?_
                      cases h
                      refine Eval.weak (lw_mk 0 _) ?_
                      exact hk
                    · rw [if_neg hc414] at h
                      refine Eval.icmpT (t := 489) rfl rfl (flt hc414).2.2.2 ?_
                      refine Eval.aload_n rfl rfl ?_
                      refine Eval.callI (rest := []) (x := (j_failRows p409.2)) (H1 := (W1 scr p409.2 [])) rfl rfl (ev_j_failRows [] scr p409.2 rfl rfl) ?_
                      refine Eval.istore (L' := [some (.ref 0), some (.ref 1), some (.int v2), some (.int v3), some (.int v4), some (.int v5), some (.int v6), some (.int (j_failRows p409.2)), some (.int v8), some (.int v9), some (.int ((rd scr v9) &&& (7 : Int32))), some (.int ((rd scr (v9 + (1 : Int32))) &&& (65535 : Int32))), some (.int ((rd scr (v9 + (2 : Int32))) &&& (65535 : Int32))), some (.int ((rd scr (v9 + (3 : Int32))) &&& (65535 : Int32))), some (.int p409.1), none, none, none, none, none]) rfl rfl ?_
                      refine Eval.iload rfl rfl ?_
                      suffices hJ416 : Eval own_P 0 505 [some (.ref 0), some (.ref 1), some (.int v2), some (.int v3), some (.int v4), none, none, some (.int (j_failRows p409.2)), none, some (.int v9), none, none, none, none, some (.int p409.1), none, none, none, none, none] [.int (if p409.1 = (0 : Int32) then (1 : Int32) else (0 : Int32))] (W1 scr p409.2 []) out by
                        by_cases hc415 : p409.1 = (0 : Int32)
                        · refine Eval.ifF rfl (teq hc415).2 ?_
                          refine Eval.iconst (x := (1 : Int32)) rfl rfl ?_
                          refine Eval.goto (t := 505) rfl rfl ?_
                          refine Eval.weak (lw_mk 17055 _) ?_
                          exact (Eval.conv hJ416 rfl (by simp only [if_pos hc415]))
                        · refine Eval.ifT (t := 504) rfl rfl (feq hc415).2 ?_
                          refine Eval.iconst (x := (0 : Int32)) rfl rfl ?_
                          refine Eval.weak (lw_mk 17055 _) ?_
                          exact (Eval.conv hJ416 rfl (by simp only [if_neg hc415]))
                      exact ev_law_b505 _ hrec p409.2 scr v2 v3 v4 (j_failRows p409.2) v9 p409.1 (if p409.1 = (0 : Int32) then (1 : Int32) else (0 : Int32)) h hk
              · rw [if_neg hc265] at h
                refine Eval.icmpT (t := 548) rfl rfl (feq hc265).2 ?_
                refine Eval.iload rfl rfl ?_
                refine Eval.iconst (x := (5 : Int32)) rfl rfl ?_
                by_cases hc422 : ((rd scr v9) &&& (7 : Int32)) = (5 : Int32)
                · rw [if_pos hc422] at h
                  refine Eval.icmpF rfl (teq hc422).2 ?_
                  refine Eval.aload_n rfl rfl ?_
                  obtain ⟨p482, hq483, h⟩ := bind_some h
                  refine Eval.callI (rest := []) (x := p482.1) (H1 := (W1 scr p482.2 [])) rfl rfl (ev_j_repair [] scr s hq483 rfl) ?_
                  refine Eval.istore (L' := [some (.ref 0), some (.ref 1), some (.int v2), some (.int v3), some (.int v4), some (.int v5), some (.int v6), some (.int v7), some (.int v8), some (.int v9), some (.int ((rd scr v9) &&& (7 : Int32))), some (.int ((rd scr (v9 + (1 : Int32))) &&& (65535 : Int32))), some (.int ((rd scr (v9 + (2 : Int32))) &&& (65535 : Int32))), some (.int ((rd scr (v9 + (3 : Int32))) &&& (65535 : Int32))), some (.int p482.1), none, none, none, none, none]) rfl rfl ?_
                  refine Eval.iload rfl rfl ?_
                  by_cases hc484 : p482.1 < (0 : Int32)
                  · rw [if_pos hc484] at h
                    refine Eval.ifT (t := 590) rfl rfl (tlt hc484).1 ?_
                    refine Eval.iload rfl rfl ?_
                    refine Eval.bipush (x := (-11 : Int32)) rfl rfl ?_
                    by_cases hc485 : p482.1 = (-11 : Int32)
                    · rw [if_pos hc485] at h
                      refine Eval.icmpT (t := 599) rfl rfl (teq hc485).1 ?_
                      refine Eval.weak (lw_mk 1023 _) ?_
                      exact ev_law_b599 _ hrec p482.2 scr v2 v3 v4 v5 v6 v7 v8 v9 h hk
                    · rw [if_neg hc485] at h
                      refine Eval.icmpF rfl (feq hc485).1 ?_
                      cases h
                      refine Eval.weak (lw_mk 0 _) ?_
                      exact hk
                  · rw [if_neg hc484] at h
                    refine Eval.ifF rfl (flt hc484).1 ?_
                    refine Eval.iload rfl rfl ?_
                    by_cases hc486 : v8 = (0 : Int32)
                    · rw [if_pos hc486] at h
                      refine Eval.ifT (t := 577) rfl rfl (teq hc486).1 ?_
                      refine Eval.weak (lw_mk 17151 _) ?_
                      exact ev_law_b577 _ hrec p482.2 scr v2 v3 v4 v5 v6 v7 v9 p482.1 h hk
                    · rw [if_neg hc486] at h
                      refine Eval.ifF rfl (feq hc486).1 ?_
                      refine Eval.iload rfl rfl ?_
                      by_cases hc487 : p482.1 = (0 : Int32)
                      · rw [if_pos hc487] at h
                        refine Eval.ifT (t := 577) rfl rfl (teq hc487).1 ?_
                        refine Eval.weak (lw_mk 17151 _) ?_
                        exact ev_law_b577 _ hrec p482.2 scr v2 v3 v4 v5 v6 v7 v9 p482.1 h hk
                      · rw [if_neg hc487] at h
                        refine Eval.ifF rfl (feq hc487).1 ?_
                        cases h
                        refine Eval.weak (lw_mk 0 _) ?_
                        exact hk
                · rw [if_neg hc422] at h
                  refine Eval.icmpT (t := 602) rfl rfl (feq hc422).2 ?_
                  refine Eval.iload rfl rfl ?_
                  refine Eval.bipush (x := (6 : Int32)) rfl rfl ?_
                  by_cases hc488 : ((rd scr v9) &&& (7 : Int32)) = (6 : Int32)
                  · rw [if_pos hc488] at h
                    refine Eval.icmpF rfl (teq hc488).2 ?_
                    refine Eval.iload rfl rfl ?_
                    refine Eval.sipush (x := (260 : Int32)) rfl rfl ?_
                    refine Eval.irem rfl (by decide) ?_
                    refine Eval.istore (L' := [some (.ref 0), some (.ref 1), some (.int v2), some (.int v3), some (.int v4), some (.int v5), some (.int v6), some (.int v7), some (.int v8), some (.int v9), some (.int ((rd scr v9) &&& (7 : Int32))), some (.int ((rd scr (v9 + (1 : Int32))) &&& (65535 : Int32))), some (.int ((rd scr (v9 + (2 : Int32))) &&& (65535 : Int32))), some (.int ((rd scr (v9 + (3 : Int32))) &&& (65535 : Int32))), some (.int (((rd scr (v9 + (1 : Int32))) &&& (65535 : Int32)) % (260 : Int32))), none, none, none, none, none]) rfl rfl ?_
                    refine Eval.iload rfl rfl ?_
                    refine Eval.iconst (x := (3 : Int32)) rfl rfl ?_
                    refine Eval.irem rfl (by decide) ?_
                    refine Eval.istore (L' := [some (.ref 0), some (.ref 1), some (.int v2), some (.int v3), some (.int v4), some (.int v5), some (.int v6), some (.int v7), some (.int v8), some (.int v9), some (.int ((rd scr v9) &&& (7 : Int32))), some (.int ((rd scr (v9 + (1 : Int32))) &&& (65535 : Int32))), some (.int ((rd scr (v9 + (2 : Int32))) &&& (65535 : Int32))), some (.int ((rd scr (v9 + (3 : Int32))) &&& (65535 : Int32))), some (.int (((rd scr (v9 + (1 : Int32))) &&& (65535 : Int32)) % (260 : Int32))), some (.int (((rd scr (v9 + (2 : Int32))) &&& (65535 : Int32)) % (3 : Int32))), none, none, none, none]) rfl rfl ?_
                    refine Eval.aload_n rfl rfl ?_
                    refine Eval.iload rfl rfl ?_
                    refine Eval.iload rfl rfl ?_
                    obtain ⟨p495, hq496, h⟩ := bind_some h
                    refine Eval.callI (rest := []) (x := p495.1) (H1 := (W1 scr p495.2 [])) rfl rfl (ev_j_write [] scr s (((rd scr (v9 + (1 : Int32))) &&& (65535 : Int32)) % (260 : Int32)) (((rd scr (v9 + (2 : Int32))) &&& (65535 : Int32)) % (3 : Int32)) hq496 rfl) ?_
                    refine Eval.istore (L' := [some (.ref 0), some (.ref 1), some (.int v2), some (.int v3), some (.int v4), some (.int v5), some (.int v6), some (.int v7), some (.int v8), some (.int v9), some (.int ((rd scr v9) &&& (7 : Int32))), some (.int ((rd scr (v9 + (1 : Int32))) &&& (65535 : Int32))), some (.int ((rd scr (v9 + (2 : Int32))) &&& (65535 : Int32))), some (.int ((rd scr (v9 + (3 : Int32))) &&& (65535 : Int32))), some (.int (((rd scr (v9 + (1 : Int32))) &&& (65535 : Int32)) % (260 : Int32))), some (.int (((rd scr (v9 + (2 : Int32))) &&& (65535 : Int32)) % (3 : Int32))), some (.int p495.1), none, none, none]) rfl rfl ?_
                    refine Eval.iload rfl rfl ?_
                    refine Eval.sipush (x := (255 : Int32)) rfl rfl ?_
                    suffices hJ499 : Eval own_P 0 657 [some (.ref 0), some (.ref 1), some (.int v2), some (.int v3), some (.int v4), some (.int v5), some (.int v6), some (.int v7), some (.int v8), some (.int v9), none, none, none, none, some (.int (((rd scr (v9 + (1 : Int32))) &&& (65535 : Int32)) % (260 : Int32))), some (.int (((rd scr (v9 + (2 : Int32))) &&& (65535 : Int32)) % (3 : Int32))), some (.int p495.1), none, none, none] [.int (if (255 : Int32) < (((rd scr (v9 + (1 : Int32))) &&& (65535 : Int32)) % (260 : Int32)) then (-1 : Int32) else (if (((rd scr (v9 + (2 : Int32))) &&& (65535 : Int32)) % (3 : Int32)) = (2 : Int32) then (-2 : Int32) else (0 : Int32)))] (W1 scr p495.2 []) out by
                      by_cases hc497 : (255 : Int32) < (((rd scr (v9 + (1 : Int32))) &&& (65535 : Int32)) % (260 : Int32))
                      · refine Eval.icmpF rfl (tlt hc497).2.2.2 ?_
                        refine Eval.iconst (x := (-1 : Int32)) rfl rfl ?_
                        refine Eval.goto (t := 657) rfl rfl ?_
                        refine Eval.weak (lw_mk 115711 _) ?_
                        exact (Eval.conv hJ499 rfl (by simp only [if_pos hc497]))
                      · refine Eval.icmpT (t := 645) rfl rfl (flt hc497).2.2.2 ?_
                        refine Eval.iload rfl rfl ?_
                        refine Eval.iconst (x := (2 : Int32)) rfl rfl ?_
                        by_cases hc498 : (((rd scr (v9 + (2 : Int32))) &&& (65535 : Int32)) % (3 : Int32)) = (2 : Int32)
                        · refine Eval.icmpF rfl (teq hc498).2 ?_
                          refine Eval.bipush (x := (-2 : Int32)) rfl rfl ?_
                          refine Eval.goto (t := 657) rfl rfl ?_
                          refine Eval.weak (lw_mk 115711 _) ?_
                          exact (Eval.conv hJ499 rfl (by simp only [if_neg hc497, if_pos hc498]))
                        · refine Eval.icmpT (t := 656) rfl rfl (feq hc498).2 ?_
                          refine Eval.iconst (x := (0 : Int32)) rfl rfl ?_
                          refine Eval.weak (lw_mk 115711 _) ?_
                          exact (Eval.conv hJ499 rfl (by simp only [if_neg hc497, if_neg hc498]))
                    exact ev_law_b657 _ hrec p495.2 scr v2 v3 v4 v5 v6 v7 v8 v9 (((rd scr (v9 + (1 : Int32))) &&& (65535 : Int32)) % (260 : Int32)) (((rd scr (v9 + (2 : Int32))) &&& (65535 : Int32)) % (3 : Int32)) p495.1 (if (255 : Int32) < (((rd scr (v9 + (1 : Int32))) &&& (65535 : Int32)) % (260 : Int32)) then (-1 : Int32) else (if (((rd scr (v9 + (2 : Int32))) &&& (65535 : Int32)) % (3 : Int32)) = (2 : Int32) then (-2 : Int32) else (0 : Int32))) h hk
                  · rw [if_neg hc488] at h
                    refine Eval.icmpT (t := 701) rfl rfl (feq hc488).2 ?_
                    refine Eval.iload rfl rfl ?_
                    refine Eval.sipush (x := (260 : Int32)) rfl rfl ?_
                    refine Eval.irem rfl (by decide) ?_
                    refine Eval.istore (L' := [some (.ref 0), some (.ref 1), some (.int v2), some (.int v3), some (.int v4), some (.int v5), some (.int v6), some (.int v7), some (.int v8), some (.int v9), some (.int ((rd scr v9) &&& (7 : Int32))), some (.int ((rd scr (v9 + (1 : Int32))) &&& (65535 : Int32))), some (.int ((rd scr (v9 + (2 : Int32))) &&& (65535 : Int32))), some (.int ((rd scr (v9 + (3 : Int32))) &&& (65535 : Int32))), some (.int (((rd scr (v9 + (1 : Int32))) &&& (65535 : Int32)) % (260 : Int32))), none, none, none, none, none]) rfl rfl ?_
                    refine Eval.aload_n rfl rfl ?_
                    refine Eval.iload rfl rfl ?_
                    obtain ⟨p519, hq520, h⟩ := bind_some h
                    refine Eval.callI (rest := []) (x := p519.1) (H1 := (W1 scr p519.2 [])) rfl rfl (ev_j_read [] scr s (((rd scr (v9 + (1 : Int32))) &&& (65535 : Int32)) % (260 : Int32)) hq520 rfl) ?_
                    refine Eval.istore (L' := [some (.ref 0), some (.ref 1), some (.int v2), some (.int v3), some (.int v4), some (.int v5), some (.int v6), some (.int v7), some (.int v8), some (.int v9), some (.int ((rd scr v9) &&& (7 : Int32))), some (.int ((rd scr (v9 + (1 : Int32))) &&& (65535 : Int32))), some (.int ((rd scr (v9 + (2 : Int32))) &&& (65535 : Int32))), some (.int ((rd scr (v9 + (3 : Int32))) &&& (65535 : Int32))), some (.int (((rd scr (v9 + (1 : Int32))) &&& (65535 : Int32)) % (260 : Int32))), some (.int p519.1), none, none, none, none]) rfl rfl ?_
                    refine Eval.iload rfl rfl ?_
                    refine Eval.sipush (x := (255 : Int32)) rfl rfl ?_
                    by_cases hc521 : (255 : Int32) < (((rd scr (v9 + (1 : Int32))) &&& (65535 : Int32)) % (260 : Int32))
                    · rw [if_pos hc521] at h
                      refine Eval.icmpF rfl (tlt hc521).2.2.2 ?_
                      refine Eval.iload rfl rfl ?_
                      refine Eval.iconst (x := (-1 : Int32)) rfl rfl ?_
                      by_cases hc522 : p519.1 = (-1 : Int32)
                      · rw [if_pos hc522] at h
                        refine Eval.icmpT (t := 775) rfl rfl (teq hc522).1 ?_
                        refine Eval.weak (lw_mk 1023 _) ?_
                        exact ev_law_b775 _ hrec p519.2 scr v2 v3 v4 v5 v6 v7 v8 v9 h hk
                      · rw [if_neg hc522] at h
                        refine Eval.icmpF rfl (feq hc522).1 ?_
                        cases h
                        refine Eval.weak (lw_mk 0 _) ?_
                        exact hk
                    · rw [if_neg hc521] at h
                      refine Eval.icmpT (t := 733) rfl rfl (flt hc521).2.2.2 ?_
                      refine Eval.iload rfl rfl ?_
                      by_cases hc523 : p519.1 = (0 : Int32)
                      · rw [if_pos hc523] at h
                        refine Eval.ifT (t := 746) rfl rfl (teq hc523).1 ?_
                        refine Eval.weak (lw_mk 50111 _) ?_
                        exact ev_law_b746 _ hrec p519.2 scr v2 v3 v4 v5 v7 v8 v9 (((rd scr (v9 + (1 : Int32))) &&& (65535 : Int32)) % (260 : Int32)) p519.1 h hk
                      · rw [if_neg hc523] at h
                        refine Eval.ifF rfl (feq hc523).1 ?_
                        refine Eval.iload rfl rfl ?_
                        refine Eval.iconst (x := (1 : Int32)) rfl rfl ?_
                        by_cases hc530 : p519.1 = (1 : Int32)
                        · rw [if_pos hc530] at h
                          refine Eval.icmpT (t := 746) rfl rfl (teq hc530).1 ?_
                          refine Eval.weak (lw_mk 50111 _) ?_
                          exact ev_law_b746 _ hrec p519.2 scr v2 v3 v4 v5 v7 v8 v9 (((rd scr (v9 + (1 : Int32))) &&& (65535 : Int32)) % (260 : Int32)) p519.1 h hk
                        · rw [if_neg hc530] at h
                          refine Eval.icmpF rfl (feq hc530).1 ?_
                          cases h
                          refine Eval.weak (lw_mk 0 _) ?_
                          exact hk
    · rw [if_neg hc10] at h
      refine Eval.icmpT (t := 927) rfl rfl (flt hc10).2.1 ?_
      cases h
      refine Eval.weak (lw_mk 0 _) ?_
      exact hk
def law (scr : List Int32) : Option (Int32 × Q) := ((j_init (2 : Int32) (4 : Int32) (8 : Int32)).bind fun p8 => ((law_l34 3000 p8 scr (0 : Int32) (0 : Int32) (0 : Int32) (0 : Int32) (0 : Int32) (0 : Int32) (0 : Int32) (0 : Int32)).bind fun p531 => Sum.elim (fun p533 => some ((0 : Int32), p533)) (fun p534 => Sum.elim (fun p535 => some ((0 : Int32), p535)) (fun p536 => Sum.elim (fun p537 => some ((0 : Int32), p537)) (fun p538 => Sum.elim (fun p539 => some ((0 : Int32), p539)) (fun p540 => Sum.elim (fun p541 => some ((0 : Int32), p541)) (fun p542 => Sum.elim (fun p543 => some ((0 : Int32), p543)) (fun p544 => Sum.elim (fun p545 => some ((0 : Int32), p545)) (fun p546 => Sum.elim (fun p547 => some ((0 : Int32), p547)) (fun p548 => Sum.elim (fun p549 => some ((0 : Int32), p549)) (fun p550 => Sum.elim (fun p551 => some ((0 : Int32), p551)) (fun p552 => Sum.elim (fun p553 => some ((0 : Int32), p553)) (fun p554 => Sum.elim (fun p555 => some ((0 : Int32), p555)) (fun p556 => Sum.elim (fun p557 => some ((0 : Int32), p557)) (fun p558 => Sum.elim (fun p559 => some ((0 : Int32), p559)) (fun p560 => Sum.elim (fun p561 => some ((0 : Int32), p561)) (fun p562 => Sum.elim (fun p563 => some ((0 : Int32), p563)) (fun p564 => Sum.elim (fun p565 => some ((0 : Int32), p565)) (fun p566 => Sum.elim (fun p567 => some ((0 : Int32), p567)) (fun p568 => Sum.elim (fun p569 => some ((0 : Int32), p569)) (fun p570 => Sum.elim (fun p571 => some ((0 : Int32), p571)) (fun p572 => some ((1 : Int32), p572)) p570) p568) p566) p564) p562) p560) p558) p556) p554) p552) p550) p548) p546) p544) p542) p540) p538) p536) p534) p531))
set_option maxRecDepth 100000 in
theorem ev_law (scr : List Int32) {res : Int32 × Q} {out : Option Value × AHeap} (h : law scr = some res) (hk : out = (some (.int res.1), (W1 scr res.2 []))) : Eval own_P 0 0 [some (.ref 0), none, none, none, none, none, none, none, none, none, none, none, none, none, none, none, none, none, none, none] [] (W0 scr []) out := by
  rw [law] at h
  refine Eval.new (z := 0) (a := 1) (H1 := (W0 scr [.inl (Prog.fresh own_P)])) rfl rfl rfl (by decide) rfl (by decide) rfl ?_
  refine Eval.dupR rfl ?_
  refine Eval.iconst (x := (2 : Int32)) rfl rfl ?_
  refine Eval.iconst (x := (4 : Int32)) rfl rfl ?_
  refine Eval.bipush (x := (8 : Int32)) rfl rfl ?_
  obtain ⟨p8, hq9, h⟩ := bind_some h
  refine Eval.callN (rest := [.ref 1]) (H1 := (W1 scr p8 [])) rfl rfl (ev_j_init scr (2 : Int32) (4 : Int32) (8 : Int32) hq9 rfl) ?_
  refine Eval.astore_n (L' := [some (.ref 0), some (.ref 1), none, none, none, none, none, none, none, none, none, none, none, none, none, none, none, none, none, none]) rfl rfl ?_
  refine Eval.iconst (x := (0 : Int32)) rfl rfl ?_
  refine Eval.istore_n (L' := [some (.ref 0), some (.ref 1), some (.int (0 : Int32)), none, none, none, none, none, none, none, none, none, none, none, none, none, none, none, none, none]) rfl rfl ?_
  refine Eval.iconst (x := (0 : Int32)) rfl rfl ?_
  refine Eval.istore_n (L' := [some (.ref 0), some (.ref 1), some (.int (0 : Int32)), some (.int (0 : Int32)), none, none, none, none, none, none, none, none, none, none, none, none, none, none, none, none]) rfl rfl ?_
  refine Eval.iconst (x := (0 : Int32)) rfl rfl ?_
  refine Eval.istore (L' := [some (.ref 0), some (.ref 1), some (.int (0 : Int32)), some (.int (0 : Int32)), some (.int (0 : Int32)), none, none, none, none, none, none, none, none, none, none, none, none, none, none, none]) rfl rfl ?_
  refine Eval.iconst (x := (0 : Int32)) rfl rfl ?_
  refine Eval.istore (L' := [some (.ref 0), some (.ref 1), some (.int (0 : Int32)), some (.int (0 : Int32)), some (.int (0 : Int32)), some (.int (0 : Int32)), none, none, none, none, none, none, none, none, none, none, none, none, none, none]) rfl rfl ?_
  refine Eval.iconst (x := (0 : Int32)) rfl rfl ?_
  refine Eval.istore (L' := [some (.ref 0), some (.ref 1), some (.int (0 : Int32)), some (.int (0 : Int32)), some (.int (0 : Int32)), some (.int (0 : Int32)), some (.int (0 : Int32)), none, none, none, none, none, none, none, none, none, none, none, none, none]) rfl rfl ?_
  refine Eval.iconst (x := (0 : Int32)) rfl rfl ?_
  refine Eval.istore (L' := [some (.ref 0), some (.ref 1), some (.int (0 : Int32)), some (.int (0 : Int32)), some (.int (0 : Int32)), some (.int (0 : Int32)), some (.int (0 : Int32)), some (.int (0 : Int32)), none, none, none, none, none, none, none, none, none, none, none, none]) rfl rfl ?_
  refine Eval.iconst (x := (0 : Int32)) rfl rfl ?_
  refine Eval.istore (L' := [some (.ref 0), some (.ref 1), some (.int (0 : Int32)), some (.int (0 : Int32)), some (.int (0 : Int32)), some (.int (0 : Int32)), some (.int (0 : Int32)), some (.int (0 : Int32)), some (.int (0 : Int32)), none, none, none, none, none, none, none, none, none, none, none]) rfl rfl ?_
  refine Eval.iconst (x := (0 : Int32)) rfl rfl ?_
  refine Eval.istore (L' := [some (.ref 0), some (.ref 1), some (.int (0 : Int32)), some (.int (0 : Int32)), some (.int (0 : Int32)), some (.int (0 : Int32)), some (.int (0 : Int32)), some (.int (0 : Int32)), some (.int (0 : Int32)), some (.int (0 : Int32)), none, none, none, none, none, none, none, none, none, none]) rfl rfl ?_
  obtain ⟨p531, hq532, h⟩ := bind_some h
  rcases p531 with p533 | p534
  · dsimp only [Sum.elim] at h
    refine ev_law_l34 _ p8 scr (0 : Int32) (0 : Int32) (0 : Int32) (0 : Int32) (0 : Int32) (0 : Int32) (0 : Int32) (0 : Int32) hq532 ?_
    show Eval own_P 0 155 [none, none, none, none, none, none, none, none, none, none, none, none, none, none, none, none, none, none, none, none] [] (W1 scr p533 []) out
    refine Eval.iconst (x := (0 : Int32)) rfl rfl ?_
    cases h
    subst hk
    exact Eval.ret rfl rfl
  · dsimp only [Sum.elim] at h
    rcases p534 with p535 | p536
    · dsimp only [Sum.elim] at h
      refine ev_law_l34 _ p8 scr (0 : Int32) (0 : Int32) (0 : Int32) (0 : Int32) (0 : Int32) (0 : Int32) (0 : Int32) (0 : Int32) hq532 ?_
      show Eval own_P 0 216 [none, none, none, none, none, none, none, none, none, none, none, none, none, none, none, none, none, none, none, none] [] (W1 scr p535 []) out
      refine Eval.iconst (x := (0 : Int32)) rfl rfl ?_
      cases h
      subst hk
      exact Eval.ret rfl rfl
    · dsimp only [Sum.elim] at h
      rcases p536 with p537 | p538
      · dsimp only [Sum.elim] at h
        refine ev_law_l34 _ p8 scr (0 : Int32) (0 : Int32) (0 : Int32) (0 : Int32) (0 : Int32) (0 : Int32) (0 : Int32) (0 : Int32) hq532 ?_
        show Eval own_P 0 332 [none, none, none, none, none, none, none, none, none, none, none, none, none, none, none, none, none, none, none, none] [] (W1 scr p537 []) out
        refine Eval.iconst (x := (0 : Int32)) rfl rfl ?_
        cases h
        subst hk
        exact Eval.ret rfl rfl
      · dsimp only [Sum.elim] at h
        rcases p538 with p539 | p540
        · dsimp only [Sum.elim] at h
          refine ev_law_l34 _ p8 scr (0 : Int32) (0 : Int32) (0 : Int32) (0 : Int32) (0 : Int32) (0 : Int32) (0 : Int32) (0 : Int32) hq532 ?_
          show Eval own_P 0 375 [none, none, none, none, none, none, none, none, none, none, none, none, none, none, none, none, none, none, none, none] [] (W1 scr p539 []) out
          refine Eval.iconst (x := (0 : Int32)) rfl rfl ?_
          cases h
          subst hk
          exact Eval.ret rfl rfl
        · dsimp only [Sum.elim] at h
          rcases p540 with p541 | p542
          · dsimp only [Sum.elim] at h
            refine ev_law_l34 _ p8 scr (0 : Int32) (0 : Int32) (0 : Int32) (0 : Int32) (0 : Int32) (0 : Int32) (0 : Int32) (0 : Int32) hq532 ?_
            show Eval own_P 0 415 [none, none, none, none, none, none, none, none, none, none, none, none, none, none, none, none, none, none, none, none] [] (W1 scr p541 []) out
            refine Eval.iconst (x := (0 : Int32)) rfl rfl ?_
            cases h
            subst hk
            exact Eval.ret rfl rfl
          · dsimp only [Sum.elim] at h
            rcases p542 with p543 | p544
            · dsimp only [Sum.elim] at h
              refine ev_law_l34 _ p8 scr (0 : Int32) (0 : Int32) (0 : Int32) (0 : Int32) (0 : Int32) (0 : Int32) (0 : Int32) (0 : Int32) hq532 ?_
              show Eval own_P 0 472 [none, none, none, none, none, none, none, none, none, none, none, none, none, none, none, none, none, none, none, none] [] (W1 scr p543 []) out
              refine Eval.iconst (x := (0 : Int32)) rfl rfl ?_
              cases h
              subst hk
              exact Eval.ret rfl rfl
            · dsimp only [Sum.elim] at h
              rcases p544 with p545 | p546
              · dsimp only [Sum.elim] at h
                refine ev_law_l34 _ p8 scr (0 : Int32) (0 : Int32) (0 : Int32) (0 : Int32) (0 : Int32) (0 : Int32) (0 : Int32) (0 : Int32) hq532 ?_
                show Eval own_P 0 487 [none, none, none, none, none, none, none, none, none, none, none, none, none, none, none, none, none, none, none, none] [] (W1 scr p545 []) out
                refine Eval.iconst (x := (0 : Int32)) rfl rfl ?_
                cases h
                subst hk
                exact Eval.ret rfl rfl
              · dsimp only [Sum.elim] at h
                rcases p546 with p547 | p548
                · dsimp only [Sum.elim] at h
                  refine ev_law_l34 _ p8 scr (0 : Int32) (0 : Int32) (0 : Int32) (0 : Int32) (0 : Int32) (0 : Int32) (0 : Int32) (0 : Int32) hq532 ?_
                  show Eval own_P 0 518 [none, none, none, none, none, none, none, none, none, none, none, none, none, none, none, none, none, none, none, none] [] (W1 scr p547 []) out
                  refine Eval.iconst (x := (0 : Int32)) rfl rfl ?_
                  cases h
                  subst hk
                  exact Eval.ret rfl rfl
                · dsimp only [Sum.elim] at h
                  rcases p548 with p549 | p550
                  · dsimp only [Sum.elim] at h
                    refine ev_law_l34 _ p8 scr (0 : Int32) (0 : Int32) (0 : Int32) (0 : Int32) (0 : Int32) (0 : Int32) (0 : Int32) (0 : Int32) hq532 ?_
                    show Eval own_P 0 575 [none, none, none, none, none, none, none, none, none, none, none, none, none, none, none, none, none, none, none, none] [] (W1 scr p549 []) out
                    refine Eval.iconst (x := (0 : Int32)) rfl rfl ?_
                    cases h
                    subst hk
                    exact Eval.ret rfl rfl
                  · dsimp only [Sum.elim] at h
                    rcases p550 with p551 | p552
                    · dsimp only [Sum.elim] at h
                      refine ev_law_l34 _ p8 scr (0 : Int32) (0 : Int32) (0 : Int32) (0 : Int32) (0 : Int32) (0 : Int32) (0 : Int32) (0 : Int32) hq532 ?_
                      show Eval own_P 0 597 [none, none, none, none, none, none, none, none, none, none, none, none, none, none, none, none, none, none, none, none] [] (W1 scr p551 []) out
                      refine Eval.iconst (x := (0 : Int32)) rfl rfl ?_
                      cases h
                      subst hk
                      exact Eval.ret rfl rfl
                    · dsimp only [Sum.elim] at h
                      rcases p552 with p553 | p554
                      · dsimp only [Sum.elim] at h
                        refine ev_law_l34 _ p8 scr (0 : Int32) (0 : Int32) (0 : Int32) (0 : Int32) (0 : Int32) (0 : Int32) (0 : Int32) (0 : Int32) hq532 ?_
                        show Eval own_P 0 666 [none, none, none, none, none, none, none, none, none, none, none, none, none, none, none, none, none, none, none, none] [] (W1 scr p553 []) out
                        refine Eval.iconst (x := (0 : Int32)) rfl rfl ?_
                        cases h
                        subst hk
                        exact Eval.ret rfl rfl
                      · dsimp only [Sum.elim] at h
                        rcases p554 with p555 | p556
                        · dsimp only [Sum.elim] at h
                          refine ev_law_l34 _ p8 scr (0 : Int32) (0 : Int32) (0 : Int32) (0 : Int32) (0 : Int32) (0 : Int32) (0 : Int32) (0 : Int32) hq532 ?_
                          show Eval own_P 0 696 [none, none, none, none, none, none, none, none, none, none, none, none, none, none, none, none, none, none, none, none] [] (W1 scr p555 []) out
                          refine Eval.iconst (x := (0 : Int32)) rfl rfl ?_
                          cases h
                          subst hk
                          exact Eval.ret rfl rfl
                        · dsimp only [Sum.elim] at h
                          rcases p556 with p557 | p558
                          · dsimp only [Sum.elim] at h
                            refine ev_law_l34 _ p8 scr (0 : Int32) (0 : Int32) (0 : Int32) (0 : Int32) (0 : Int32) (0 : Int32) (0 : Int32) (0 : Int32) hq532 ?_
                            show Eval own_P 0 731 [none, none, none, none, none, none, none, none, none, none, none, none, none, none, none, none, none, none, none, none] [] (W1 scr p557 []) out
                            refine Eval.iconst (x := (0 : Int32)) rfl rfl ?_
                            cases h
                            subst hk
                            exact Eval.ret rfl rfl
                          · dsimp only [Sum.elim] at h
                            rcases p558 with p559 | p560
                            · dsimp only [Sum.elim] at h
                              refine ev_law_l34 _ p8 scr (0 : Int32) (0 : Int32) (0 : Int32) (0 : Int32) (0 : Int32) (0 : Int32) (0 : Int32) (0 : Int32) hq532 ?_
                              show Eval own_P 0 744 [none, none, none, none, none, none, none, none, none, none, none, none, none, none, none, none, none, none, none, none] [] (W1 scr p559 []) out
                              refine Eval.iconst (x := (0 : Int32)) rfl rfl ?_
                              cases h
                              subst hk
                              exact Eval.ret rfl rfl
                            · dsimp only [Sum.elim] at h
                              rcases p560 with p561 | p562
                              · dsimp only [Sum.elim] at h
                                refine ev_law_l34 _ p8 scr (0 : Int32) (0 : Int32) (0 : Int32) (0 : Int32) (0 : Int32) (0 : Int32) (0 : Int32) (0 : Int32) hq532 ?_
                                show Eval own_P 0 773 [none, none, none, none, none, none, none, none, none, none, none, none, none, none, none, none, none, none, none, none] [] (W1 scr p561 []) out
                                refine Eval.iconst (x := (0 : Int32)) rfl rfl ?_
                                cases h
                                subst hk
                                exact Eval.ret rfl rfl
                              · dsimp only [Sum.elim] at h
                                rcases p562 with p563 | p564
                                · dsimp only [Sum.elim] at h
                                  refine ev_law_l34 _ p8 scr (0 : Int32) (0 : Int32) (0 : Int32) (0 : Int32) (0 : Int32) (0 : Int32) (0 : Int32) (0 : Int32) hq532 ?_
                                  show Eval own_P 0 793 [none, none, none, none, none, none, none, none, none, none, none, none, none, none, none, none, none, none, none, none] [] (W1 scr p563 []) out
                                  refine Eval.iconst (x := (0 : Int32)) rfl rfl ?_
                                  cases h
                                  subst hk
                                  exact Eval.ret rfl rfl
                                · dsimp only [Sum.elim] at h
                                  rcases p564 with p565 | p566
                                  · dsimp only [Sum.elim] at h
                                    refine ev_law_l34 _ p8 scr (0 : Int32) (0 : Int32) (0 : Int32) (0 : Int32) (0 : Int32) (0 : Int32) (0 : Int32) (0 : Int32) hq532 ?_
                                    show Eval own_P 0 819 [none, none, none, none, none, none, none, none, none, none, none, none, none, none, none, none, none, none, none, none] [] (W1 scr p565 []) out
                                    refine Eval.iconst (x := (0 : Int32)) rfl rfl ?_
                                    cases h
                                    subst hk
                                    exact Eval.ret rfl rfl
                                  · dsimp only [Sum.elim] at h
                                    rcases p566 with p567 | p568
                                    · dsimp only [Sum.elim] at h
                                      refine ev_law_l34 _ p8 scr (0 : Int32) (0 : Int32) (0 : Int32) (0 : Int32) (0 : Int32) (0 : Int32) (0 : Int32) (0 : Int32) hq532 ?_
                                      show Eval own_P 0 845 [none, none, none, none, none, none, none, none, none, none, none, none, none, none, none, none, none, none, none, none] [] (W1 scr p567 []) out
                                      refine Eval.iconst (x := (0 : Int32)) rfl rfl ?_
                                      cases h
                                      subst hk
                                      exact Eval.ret rfl rfl
                                    · dsimp only [Sum.elim] at h
                                      rcases p568 with p569 | p570
                                      · dsimp only [Sum.elim] at h
                                        refine ev_law_l34 _ p8 scr (0 : Int32) (0 : Int32) (0 : Int32) (0 : Int32) (0 : Int32) (0 : Int32) (0 : Int32) (0 : Int32) hq532 ?_
                                        show Eval own_P 0 873 [none, none, none, none, none, none, none, none, none, none, none, none, none, none, none, none, none, none, none, none] [] (W1 scr p569 []) out
                                        refine Eval.iconst (x := (0 : Int32)) rfl rfl ?_
                                        cases h
                                        subst hk
                                        exact Eval.ret rfl rfl
                                      · dsimp only [Sum.elim] at h
                                        rcases p570 with p571 | p572
                                        · dsimp only [Sum.elim] at h
                                          refine ev_law_l34 _ p8 scr (0 : Int32) (0 : Int32) (0 : Int32) (0 : Int32) (0 : Int32) (0 : Int32) (0 : Int32) (0 : Int32) hq532 ?_
                                          show Eval own_P 0 919 [none, none, none, none, none, none, none, none, none, none, none, none, none, none, none, none, none, none, none, none] [] (W1 scr p571 []) out
                                          refine Eval.iconst (x := (0 : Int32)) rfl rfl ?_
                                          cases h
                                          subst hk
                                          exact Eval.ret rfl rfl
                                        · dsimp only [Sum.elim] at h
                                          refine ev_law_l34 _ p8 scr (0 : Int32) (0 : Int32) (0 : Int32) (0 : Int32) (0 : Int32) (0 : Int32) (0 : Int32) (0 : Int32) hq532 ?_
                                          show Eval own_P 0 927 [none, none, none, none, none, none, none, none, none, none, none, none, none, none, none, none, none, none, none, none] [] (W1 scr p572 []) out
                                          refine Eval.iconst (x := (1 : Int32)) rfl rfl ?_
                                          cases h
                                          subst hk
                                          exact Eval.ret rfl rfl
theorem own_rdc {n : Nat} {c j : Int32} (h : inb n j = true) : rd (List.replicate n c) j = c := by
  have q := rd_at (xs := List.replicate n c) (j := j) (by simpa using h)
  rw [List.getElem?_replicate] at q
  split at q
  · exact (Option.some.inj q).symm
  · cases q
theorem own_n2i {i : Nat} (h : i < 2147483648) : (Int32.ofNat i).toInt = i := by
  rw [Int32.toInt_ofNat']
  simp only [Int32.size, Int.bmod_def]
  omega
theorem own_n2n {i : Nat} (h : i < 2147483648) : (Int32.ofNat i).toNatClampNeg = i := by
  simp only [Int32.toNatClampNeg, own_n2i h]; omega
theorem own_succ (i : Nat) : Int32.ofNat i + 1 = Int32.ofNat (i + 1) := (Int32.ofNat_add i 1).symm
theorem own_inbN {n i : Nat} (h : i < n) (hn : n < 2147483648) : inb n (Int32.ofNat i) = true := inb_iff.mpr (by rw [own_n2i (by omega)]; omega)
theorem own_ltN {i k : Nat} (hi : i < 2147483648) (hk : k < 2147483648) : Int32.ofNat i < Int32.ofNat k ↔ i < k := by
  rw [lt32, own_n2i hi, own_n2i hk]; omega
theorem own_wrA {A r : List Int32} {d x : Int32} {i : Nat} (hi : A.length = i) (h : i < 2147483648) : wr (A ++ d :: r) (Int32.ofNat i) x = A ++ x :: r := by
  unfold wr
  rw [own_n2n h, ← hi]
  simp
theorem own_repS (i : Nat) (c : Int32) (r : List Int32) : List.replicate i c ++ c :: r = List.replicate (i + 1) c ++ r := by
  rw [List.replicate_succ']; simp
theorem own_add {x y : Int32} (h1 : -2147483648 ≤ x.toInt + y.toInt) (h2 : x.toInt + y.toInt < 2147483648) : (x + y).toInt = x.toInt + y.toInt := by
  rw [Int32.toInt_add, Int.bmod_def]
  omega
theorem own_sub {x y : Int32} (h1 : -2147483648 ≤ x.toInt - y.toInt) (h2 : x.toInt - y.toInt < 2147483648) : (x - y).toInt = x.toInt - y.toInt := by
  rw [Int32.toInt_sub, Int.bmod_def]
  omega
theorem own_mul {x y : Int32} (h1 : -2147483648 ≤ x.toInt * y.toInt) (h2 : x.toInt * y.toInt < 2147483648) : (x * y).toInt = x.toInt * y.toInt := by
  rw [Int32.toInt_mul, Int.bmod_def]
  omega
theorem own_eta (s : Q) : Q.mk s.f_cells s.f_faultKind s.f_faultVictim s.f_faultAggressor s.f_faultTrigger s.f_victimSlot s.f_aggressorUses s.f_elementOrder s.f_elementCount s.f_elementOps s.f_logBuffer s.f_remap s.f_spareTaken s.f_spareRows s.f_faultLimit s.f_logLimit s.f_latchBit s.f_faultCount s.f_programLength s.f_logLength s.f_failMask = s := rfl
theorem own_wrc (n : Nat) (c j : Int32) : wr (List.replicate n c) j c = List.replicate n c := by simp [wr, List.set_replicate_self]

theorem own_cl {v a b : Int32} (h : a.toInt ≤ b.toInt) : a.toInt ≤ (j_clamp v a b).toInt ∧ (j_clamp v a b).toInt ≤ b.toInt := by
  unfold j_clamp
  split
  · omega
  · split
    · omega
    · rename_i h1 h2; simp only [lt32] at h1 h2; omega

theorem own_wrz {xs : List Int32} {n : Nat} (h : xs = List.replicate n 0) (j : Int32) : wr xs j 0 = xs := by rw [h, own_wrc]
theorem own_wrzL {xs : List Int64} {n : Nat} (h : xs = List.replicate n 0) (j : Int32) : wrL xs j 0 = xs := by rw [h]; simp [wrL, List.set_replicate_self]
theorem own_inc {x : Int32} (h : x.toInt < 1000000) (h0 : -1000000 ≤ x.toInt) : (x + 1).toInt = x.toInt + 1 := own_add (by simp only [Int32.reduceToInt]; omega) (by simp only [Int32.reduceToInt]; omega)

def own_ok {α : Type} (o : Option α) (P : α → Prop) : Prop := ∃ r, o = some r ∧ P r
theorem own_ok_some {α : Type} (x : α) (P : α → Prop) : own_ok (some x) P ↔ P x := by
  constructor
  · rintro ⟨r, h, p⟩; cases h; exact p
  · intro p; exact ⟨x, rfl, p⟩
theorem own_ok_none {α : Type} (P : α → Prop) : own_ok (none : Option α) P ↔ False := by
  constructor
  · rintro ⟨r, h, p⟩; cases h
  · intro p; exact p.elim
theorem own_ok_bind {α β : Type} (o : Option α) (f : α → Option β) (P : β → Prop) : own_ok (o.bind f) P ↔ own_ok o (fun x => own_ok (f x) P) := by
  constructor
  · rintro ⟨r, h, p⟩
    obtain ⟨a, ha, hb⟩ := Option.bind_eq_some_iff.mp h
    exact ⟨a, ha, r, hb, p⟩
  · rintro ⟨a, ha, r, hb, p⟩
    exact ⟨r, Option.bind_eq_some_iff.mpr ⟨a, ha, hb⟩, p⟩
theorem own_ok_ite {α : Type} (c : Prop) [Decidable c] (a b : Option α) (P : α → Prop) : own_ok (if c then a else b) P ↔ (c → own_ok a P) ∧ (¬ c → own_ok b P) := by
  by_cases h : c
  · simp [h]
  · simp [h]
theorem own_mono {α : Type} {o : Option α} {P R : α → Prop} (h : own_ok o P) (m : ∀ x, P x → R x) : own_ok o R := by
  obtain ⟨r, e, p⟩ := h
  exact ⟨r, e, m r p⟩
theorem own_bind {α β : Type} {o : Option α} {f : α → Option β} {P : α → Prop} {R : β → Prop} (h : own_ok o P) (m : ∀ x, P x → own_ok (f x) R) : own_ok (o.bind f) R :=
  (own_ok_bind o f R).mpr (own_mono h m)
theorem own_okE {α : Type} {o : Option α} {r : α} {P : α → Prop} (e : o = some r) (p : P r) : own_ok o P := ⟨r, e, p⟩

theorem own_msk (x m : Int32) (hm : 0 ≤ m.toInt) : 0 ≤ (x &&& m).toInt ∧ (x &&& m).toInt ≤ m.toInt := by
  have a : (x &&& m).toBitVec.toNat ≤ m.toBitVec.toNat := by
    rw [Int32.toBitVec_and, BitVec.toNat_and]
    exact Nat.and_le_right
  have e : (x &&& m).toInt = (x &&& m).toBitVec.toInt := rfl
  have f : m.toInt = m.toBitVec.toInt := rfl
  rw [f, BitVec.toInt_eq_toNat_cond] at hm
  rw [e, f, BitVec.toInt_eq_toNat_cond, BitVec.toInt_eq_toNat_cond]
  have := m.toBitVec.isLt
  split at hm <;> split <;> omega
theorem own_nnN {x : Int32} : 0 ≤ x.toInt ↔ x.toBitVec.toNat < 2 ^ 31 := by
  have e : x.toInt = x.toBitVec.toInt := rfl
  rw [e, BitVec.toInt_eq_toNat_cond]
  have := x.toBitVec.isLt
  split <;> omega
theorem own_or_nn {x y : Int32} (hx : 0 ≤ x.toInt) (hy : 0 ≤ y.toInt) : 0 ≤ (x ||| y).toInt := by
  rw [own_nnN] at *
  rw [Int32.toBitVec_or, BitVec.toNat_or]
  exact Nat.or_lt_two_pow hx hy
theorem own_or0 {x y : Int32} (h : x ||| y = 0) : y = 0 := by
  have q := congrArg Int32.toBitVec h
  rw [Int32.toBitVec_or] at q
  have r := (BitVec.or_eq_zero_iff.mp q).2
  exact Int32.toBitVec_inj.mp r
theorem own_nn1 {x : Int32} (h : 0 ≤ x.toInt) : ¬ x = -1 := by
  intro e; rw [e] at h; exact absurd h (by decide)

theorem own_and {α : Type} {o : Option α} {P R : α → Prop} (h : own_ok o P) (g : own_ok o R) : own_ok o (fun x => P x ∧ R x) := by
  obtain ⟨r, e, p⟩ := h
  obtain ⟨r', e', p'⟩ := g
  rw [e] at e'
  cases e'
  exact ⟨r, e, p, p'⟩
/-- every entry of xs (n of them) lies in 0..hi -/
def own_rg (xs : List Int32) (n : Nat) (hi : Int) : Prop := ∀ i, inb n i = true → 0 ≤ (rd xs i).toInt ∧ (rd xs i).toInt ≤ hi
theorem own_rg_wr {xs : List Int32} {n : Nat} {hi : Int} {j v : Int32} (h : own_rg xs n hi) (hl : xs.length = n) (hj : inb n j = true) (h0 : 0 ≤ v.toInt) (h1 : v.toInt ≤ hi) : own_rg (wr xs j v) n hi := by
  intro i hi'
  by_cases e : j = i
  · subst e
    rw [rd_wr_same (by rw [hl]; exact hj)]; exact ⟨h0, h1⟩
  · rw [rd_wr_ne (inb_nn hj) (inb_nn hi') e]; exact h i hi'
def own_01 (xs : List Int32) (n : Nat) : Prop := ∀ i, inb n i = true → rd xs i = 0 ∨ rd xs i = 1
theorem own_01_wr {xs : List Int32} {n : Nat} {j v : Int32} (h : own_01 xs n) (hl : xs.length = n) (hj : inb n j = true) (h0 : v = 0 ∨ v = 1) : own_01 (wr xs j v) n := by
  intro i hi'
  by_cases e : j = i
  · subst e
    rw [rd_wr_same (by rw [hl]; exact hj)]; exact h0
  · rw [rd_wr_ne (inb_nn hj) (inb_nn hi') e]; exact h i hi'
def own_rm (xs : List Int32) : Prop := ∀ i, inb 16 i = true → rd xs i = -1 ∨ rd xs i = 0 ∨ rd xs i = 1
/-- how many of f 0 .. f (n-1) are true -/
def own_ct (f : Nat → Bool) : Nat → Nat
  | 0 => 0
  | n + 1 => own_ct f n + (if f n = true then 1 else 0)
def own_mp (xs : List Int32) (i : Nat) : Bool := decide (¬ rd xs (Int32.ofNat i) < 0)
def own_L1 (s : Q) : Prop := s.f_cells.length = 320 ∧ s.f_faultKind.length = 16 ∧ s.f_faultVictim.length = 16 ∧ s.f_faultAggressor.length = 16 ∧ s.f_faultTrigger.length = 16 ∧ s.f_victimSlot.length = 256 ∧ s.f_aggressorUses.length = 256 ∧ s.f_elementOrder.length = 8 ∧ s.f_elementCount.length = 8 ∧ s.f_elementOps.length = 8 ∧ s.f_logBuffer.length = 32 ∧ s.f_remap.length = 16 ∧ s.f_spareTaken.length = 4
def own_L2 (s : Q) : Prop := s.f_spareRows = 2 ∧ s.f_faultLimit = 4 ∧ s.f_logLimit = 8
def own_F1 (s : Q) : Prop := (0 ≤ s.f_faultCount.toInt ∧ s.f_faultCount.toInt ≤ 4) ∧ own_rg s.f_faultKind 16 7 ∧ own_rg s.f_faultVictim 16 255 ∧ own_rg s.f_faultAggressor 16 255 ∧ own_rg s.f_faultTrigger 16 3 ∧ (s.f_faultCount = 0 → (∀ c, inb 256 c = true → rd s.f_victimSlot c = 0) ∧ (∀ c, inb 256 c = true → rd s.f_aggressorUses c = 0))
def own_P1 (s : Q) : Prop := (0 ≤ s.f_programLength.toInt ∧ s.f_programLength.toInt ≤ 8) ∧ own_rg s.f_elementOrder 8 1 ∧ own_rg s.f_elementCount 8 4 ∧ own_rg s.f_elementOps 8 255
def own_R1 (s : Q) : Prop := own_rm s.f_remap ∧ own_rg s.f_spareTaken 4 1 ∧ (own_ct (own_mp s.f_remap) 16 : Int) = (rd s.f_spareTaken 0).toInt + (rd s.f_spareTaken 1).toInt
def own_D1 (s : Q) : Prop := own_01 s.f_cells 320 ∧ (s.f_latchBit = 0 ∨ s.f_latchBit = 1) ∧ own_rg s.f_logBuffer 32 2147483647 ∧ (0 ≤ s.f_logLength.toInt ∧ s.f_logLength.toInt ≤ 8)
def own_I (s : Q) : Prop := own_L1 s ∧ own_L2 s ∧ own_F1 s ∧ own_P1 s ∧ own_R1 s ∧ own_D1 s
/-- a state that differs in cells, latch and results alone -/
def own_U (s : Q) (c : List Int32) (l : Int32) (b : List Int32) (g f : Int32) : Q := ((((s.s_cells c).s_latchBit l).s_logBuffer b).s_logLength g).s_failMask f
theorem own_UU (s : Q) (c : List Int32) (l : Int32) (b : List Int32) (g f : Int32) (c' : List Int32) (l' : Int32) (b' : List Int32) (g' f' : Int32) : own_U (own_U s c l b g f) c' l' b' g' f' = own_U s c' l' b' g' f' := by
  unfold own_U
  simp only [own_Qa]
theorem own_Us (s : Q) : own_U s s.f_cells s.f_latchBit s.f_logBuffer s.f_logLength s.f_failMask = s := by
  unfold own_U
  simp only [own_Qa]
  exact own_eta s
theorem own_IU {s : Q} {c : List Int32} {l : Int32} {b : List Int32} {g f : Int32} (h : own_I s) (h1 : c.length = 320) (h2 : own_01 c 320) (h3 : l = 0 ∨ l = 1) (h4 : b.length = 32) (h5 : own_rg b 32 2147483647) (h6 : 0 ≤ g.toInt ∧ g.toInt ≤ 8) : own_I (own_U s c l b g f) := by
  obtain ⟨a1, a2, a3, a4, a5, a6⟩ := h
  unfold own_U
  refine ⟨?_, ?_, ?_, ?_, ?_, ?_⟩
  · unfold own_L1 at a1 ⊢
    simp only [own_Qa]
    obtain ⟨x1, x2, x3, x4, x5, x6, x7, x8, x9, x10, x11, x12, x13⟩ := a1
    exact ⟨h1, x2, x3, x4, x5, x6, x7, x8, x9, x10, h4, x12, x13⟩
  · unfold own_L2 at a2 ⊢
    simp only [own_Qa]; exact a2
  · unfold own_F1 at a3 ⊢
    simp only [own_Qa]; exact a3
  · unfold own_P1 at a4 ⊢
    simp only [own_Qa]; exact a4
  · unfold own_R1 at a5 ⊢
    simp only [own_Qa]; exact a5
  · unfold own_D1
    simp only [own_Qa]
    exact ⟨h2, h3, h5, h6⟩
theorem own_bit {v : Int32} (h : v = 0 ∨ v = 1) : v &&& 1 = v ∧ i8 (i8 v) = v ∧ i8 v = v := by
  rcases h with e | e <;> rw [e] <;> decide
theorem own_b1 (v : Int32) : v &&& 1 = 0 ∨ v &&& 1 = 1 := by
  have := own_msk v 1 (by decide)
  simp only [Int32.reduceToInt] at this
  have : (v &&& 1).toInt = 0 ∨ (v &&& 1).toInt = 1 := by omega
  rcases this with e | e
  · exact Or.inl (Int32.toInt_inj.mp e)
  · exact Or.inr (Int32.toInt_inj.mp e)
theorem own_addr : ∀ a : Fin 256, (isr (Int32.ofNat a.val) 4 &&& 15 = isr (Int32.ofNat a.val) 4) ∧ (Int32.ofNat a.val &&& 255 = Int32.ofNat a.val) ∧ inb 16 (isr (Int32.ofNat a.val) 4) = true ∧ ¬ isr (Int32.ofNat a.val) 4 < 0 ∧ ¬ 15 < isr (Int32.ofNat a.val) 4 := by decide +kernel
theorem own_fin256 {a : Int32} (h0 : 0 ≤ a.toInt) (h1 : a.toInt < 256) : ∃ i : Fin 256, a = Int32.ofNat i.val := ⟨⟨a.toInt.toNat, by omega⟩, Int32.toInt_inj.mp (by rw [own_n2i (by simp only; omega)]; simp only; omega)⟩
theorem own_ad {a : Int32} (h0 : 0 ≤ a.toInt) (h1 : a.toInt < 256) : (isr a 4 &&& 15 = isr a 4) ∧ (a &&& 255 = a) ∧ inb 16 (isr a 4) = true ∧ ¬ isr a 4 < 0 ∧ ¬ 15 < isr a 4 := by
  obtain ⟨i, e⟩ := own_fin256 h0 h1
  rw [e]; exact own_addr i
theorem own_isA {a : Int32} (h0 : 0 ≤ a.toInt) (h1 : a.toInt < 256) : j_isAddress a = 1 := by
  unfold j_isAddress
  rw [if_neg (by rw [lt32]; simp only [Int32.reduceToInt]; omega), if_pos (by rw [lt32]; simp only [Int32.reduceToInt]; omega)]
/-- where address a is routed -/
def own_rt (s : Q) (a : Int32) : Int32 := if rd s.f_remap (isr a 4) < 0 then a else 256 + 16 * rd s.f_remap (isr a 4) + (a &&& 15)
theorem own_rc {s : Q} {a : Int32} (hI : own_I s) (h0 : 0 ≤ a.toInt) (h1 : a.toInt < 256) : j_routedCell s a = some (own_rt s a) ∧ inb 320 (own_rt s a) = true ∧ (own_rt s a < 256 ↔ rd s.f_remap (isr a 4) < 0) ∧ own_rt s a < 288 := by
  obtain ⟨e1, e2, e3, e4, e5⟩ := own_ad h0 h1
  have rl : s.f_remap.length = 16 := hI.1.2.2.2.2.2.2.2.2.2.2.2.1
  have rm := hI.2.2.2.2.1.1 _ e3
  have m := own_msk a 15 (by decide)
  simp only [Int32.reduceToInt] at m
  unfold j_routedCell j_routedCell_b37 own_rt
  rw [e1, rl, if_pos e3, e2]
  rcases rm with q | q | q
  · rw [q, if_pos (by decide), if_pos (by decide)]
    refine ⟨rfl, inb_iff.mpr (by omega), ?_, by rw [lt32]; simp only [Int32.reduceToInt]; omega⟩
    constructor
    · intro _; decide
    · intro _; rw [lt32]; simp only [Int32.reduceToInt]; omega
  · rw [q, if_neg (by decide), if_pos (by decide), if_neg (by decide)]
    have z : (256 + 16 * 0 + (a &&& 15) : Int32).toInt = 256 + (a &&& 15).toInt := by
      rw [show (256 + 16 * 0 : Int32) = 256 from rfl, own_add] <;> simp only [Int32.reduceToInt] <;> omega
    refine ⟨rfl, inb_iff.mpr (by rw [z]; omega), ?_, by rw [lt32, z]; simp only [Int32.reduceToInt]; omega⟩
    constructor
    · intro w; rw [lt32, z] at w; simp only [Int32.reduceToInt] at w; omega
    · intro w; exact absurd w (by decide)
  · rw [q, if_neg (by decide), if_pos (by decide), if_neg (by decide)]
    have z : (256 + 16 * 1 + (a &&& 15) : Int32).toInt = 272 + (a &&& 15).toInt := by
      rw [show (256 + 16 * 1 : Int32) = 272 from rfl, own_add] <;> simp only [Int32.reduceToInt] <;> omega
    refine ⟨rfl, inb_iff.mpr (by rw [z]; omega), ?_, by rw [lt32, z]; simp only [Int32.reduceToInt]; omega⟩
    constructor
    · intro w; rw [lt32, z] at w; simp only [Int32.reduceToInt] at w; omega
    · intro w; exact absurd w (by decide)
/-- the kind of fault at a main cell: none where there are no faults -/
theorem own_vk {s : Q} {c : Int32} (hI : own_I s) (h0 : 0 ≤ c.toInt) (h1 : c.toInt < 256) : own_ok (j_victimKind s c) (fun k => s.f_faultCount = 0 → k = 0) := by
  have i2 : inb 256 c = true := inb_iff.mpr (by omega)
  have l1 : s.f_victimSlot.length = 256 := hI.1.2.2.2.2.2.1
  have l2 : s.f_faultKind.length = 16 := hI.1.2.1
  unfold j_victimKind
  rw [own_isA h0 h1, if_neg (by decide), l1, if_pos i2]
  by_cases a : rd s.f_victimSlot c < 1
  · rw [if_pos a]; exact ⟨_, rfl, fun _ => rfl⟩
  · rw [if_neg a]
    by_cases b : 16 < rd s.f_victimSlot c
    · rw [if_pos b]; exact ⟨_, rfl, fun _ => rfl⟩
    · rw [if_neg b]
      have n0 : ¬ s.f_faultCount = 0 := by
        intro e
        have := (hI.2.2.1.2.2.2.2.2 e).1 c i2
        rw [this] at a
        exact absurd (by decide) a
      rw [lt32] at a b
      simp only [Int32.reduceToInt] at a b
      have e : (rd s.f_victimSlot c - 1).toInt = (rd s.f_victimSlot c).toInt - 1 := by rw [own_sub] <;> simp only [Int32.reduceToInt] <;> omega
      rw [l2, if_pos (inb_iff.mpr (by omega))]
      exact ⟨_, rfl, fun z => absurd z n0⟩

def own_ce (s s' : Q) (P : List Int32 → Prop) : Prop := ∃ x, s' = s.s_cells x ∧ x.length = 320 ∧ own_01 x 320 ∧ P x
theorem own_Ic {s : Q} {x : List Int32} (h : own_I s) (h1 : x.length = 320) (h2 : own_01 x 320) : own_I (s.s_cells x) := by
  have q := own_IU (l := s.f_latchBit) (b := s.f_logBuffer) (g := s.f_logLength) (f := s.f_failMask) h h1 h2 h.2.2.2.2.2.2.1 h.1.2.2.2.2.2.2.2.2.2.2.1 h.2.2.2.2.2.2.2.1 h.2.2.2.2.2.2.2.2
  have e : own_U s x s.f_latchBit s.f_logBuffer s.f_logLength s.f_failMask = s.s_cells x := by
    unfold own_U
    simp only [own_Qa]
  rw [e] at q
  exact q
theorem own_cc (s : Q) (x y : List Int32) : (s.s_cells x).s_cells y = s.s_cells y := by simp only [own_Qa]
theorem own_fc {s : Q} (v1 v2 : Int32) : ∀ (n : Nat) (x : List Int32) (v3 : Int32), own_I s → x.length = 320 → own_01 x 320 → 0 ≤ v3.toInt → v3.toInt ≤ 16 → 16 - v3.toInt < n → own_ok (j_fireCouplings_l2 n (s.s_cells x) v1 v2 v3) (fun s' => own_ce s s' (fun _ => True)) := by
  intro n
  induction n with
  | zero => intro x v3 _ _ _ h0 h1 h2; omega
  | succ n ih =>
    intro x v3 hI hx hx1 h0 h1 h2
    have hI0 := hI
    obtain ⟨⟨y1, y2, y3, y4, y5, y6, y7, y8, y9, y10, y11, y12, y13⟩, _, ⟨f1, f2, f3, f4, f5, f6⟩, _, _, _⟩ := hI
    have e1 : (s.s_cells x).f_faultKind = s.f_faultKind := by simp only [own_Qa]
    have e2 : (s.s_cells x).f_faultAggressor = s.f_faultAggressor := by simp only [own_Qa]
    have e3 : (s.s_cells x).f_faultTrigger = s.f_faultTrigger := by simp only [own_Qa]
    have e4 : (s.s_cells x).f_faultVictim = s.f_faultVictim := by simp only [own_Qa]
    have e5 : (s.s_cells x).f_cells = x := by simp only [own_Qa]
    have fin : own_ok (some (s.s_cells x)) (fun s' => own_ce s s' (fun _ => True)) := ⟨_, rfl, x, rfl, hx, hx1, trivial⟩
    rw [j_fireCouplings_l2]
    by_cases c1 : v3 < (s.s_cells x).f_faultCount
    · rw [if_pos c1]
      by_cases c2 : v3 < 16
      · rw [if_pos c2]
        rw [lt32] at c2
        simp only [Int32.reduceToInt] at c2
        have i1 : inb 16 v3 = true := inb_iff.mpr (by omega)
        have ei : (v3 + 1).toInt = v3.toInt + 1 := own_inc (by omega) (by omega)
        rw [e1, e2, e3, e4, y2, y3, y4, y5, if_pos i1, if_pos i1, if_pos i1, if_pos i1]
        unfold j_fireCouplings_b71
        have nx := ih x (v3 + 1) hI0 hx hx1 (by omega) (by omega) (by omega)
        split
        · split
          · split
            · exact nx
            · have fv := f3 v3 i1
              have iv : inb 256 (rd s.f_faultVictim v3) = true := inb_iff.mpr (by omega)
              have iv' : inb 320 (rd s.f_faultVictim v3) = true := inb_iff.mpr (by omega)
              unfold j_forceVictim
              rw [own_isA fv.1 (by omega), if_neg (by decide), e5, hx, if_pos iv', Option.bind_some]
              have bb := own_b1 (j_forcedBit (rd s.f_faultTrigger v3))
              rw [(own_bit bb).2.1, ← own_e_cells, own_cc]
              exact ih _ (v3 + 1) hI0 (by rw [len_wr, hx]) (own_01_wr hx1 hx iv' bb) (by omega) (by omega) (by omega)
          · exact nx
        · exact nx
      · rw [if_neg c2]; exact fin
    · rw [if_neg c1]; exact fin
theorem own_nb {s : Q} {c o b : Int32} (hI : own_I s) (h0 : 0 ≤ c.toInt) (h1 : c.toInt < 256) (ho : o = 0 ∨ o = 1) (hb : b = 0 ∨ b = 1) : own_ok (j_faultyNewBit s c o b) (fun v => (v = 0 ∨ v = 1) ∧ (s.f_faultCount = 0 → v = b)) := by
  unfold j_faultyNewBit
  refine own_bind (own_vk hI h0 h1) ?_
  intro k hk
  have B44 : own_ok (j_faultyNewBit_b44 s o b k) (fun v => (v = 0 ∨ v = 1) ∧ (s.f_faultCount = 0 → v = b)) := by
    unfold j_faultyNewBit_b44
    split
    · rename_i e
      split
      · split
        · exact ⟨_, rfl, ho, fun z => by have := hk z; rw [this] at e; exact absurd e (by decide)⟩
        · exact ⟨_, rfl, hb, fun _ => rfl⟩
      · exact ⟨_, rfl, hb, fun _ => rfl⟩
    · exact ⟨_, rfl, hb, fun _ => rfl⟩
  split
  · rename_i e
    exact ⟨_, rfl, ho, fun z => by have := hk z; rw [this] at e; exact absurd e (by decide)⟩
  · split
    · rename_i e
      exact ⟨_, rfl, ho, fun z => by have := hk z; rw [this] at e; exact absurd e (by decide)⟩
    · split
      · rename_i e
        exact ⟨_, rfl, ho, fun z => by have := hk z; rw [this] at e; exact absurd e (by decide)⟩
      · split
        · rename_i e
          split
          · split
            · exact ⟨_, rfl, ho, fun z => by have := hk z; rw [this] at e; exact absurd e (by decide)⟩
            · exact B44
          · exact B44
        · exact B44
theorem own_wm {s : Q} {c b : Int32} (hI : own_I s) (h0 : 0 ≤ c.toInt) (h1 : c.toInt < 256) (hb : b = 0 ∨ b = 1) : own_ok (j_writeMain s c b) (fun s' => own_ce s s' (fun x => s.f_faultCount = 0 → rd x c = b)) := by
  have i3 : inb 320 c = true := inb_iff.mpr (by omega)
  have i2 : inb 256 c = true := inb_iff.mpr (by omega)
  have lc : s.f_cells.length = 320 := hI.1.1
  have c01 := hI.2.2.2.2.2.1
  have la : s.f_aggressorUses.length = 256 := hI.1.2.2.2.2.2.2.1
  unfold j_writeMain
  rw [lc, if_pos i3]
  refine own_bind (own_nb hI h0 h1 (c01 c i3) hb) ?_
  rintro v ⟨v1, v2⟩
  have w1 : (wr s.f_cells c v).length = 320 := by rw [len_wr, lc]
  have w2 := own_01_wr (v := v) c01 lc i3 v1
  have w3 : rd (wr s.f_cells c v) c = v := rd_wr_same (by rw [lc]; exact i3) _
  have base : own_ok (some (s.s_cells (wr s.f_cells c v))) (fun s' => own_ce s s' (fun x => s.f_faultCount = 0 → rd x c = b)) := ⟨_, rfl, _, rfl, w1, w2, fun z => by rw [w3]; exact v2 z⟩
  rw [if_pos i3, (own_bit v1).2.1, ← own_e_cells]
  split
  · exact base
  · unfold j_isAggressor
    rw [own_isA h0 h1, if_neg (by decide)]
    have ea : (s.s_cells (wr s.f_cells c v)).f_aggressorUses = s.f_aggressorUses := by simp only [own_Qa]
    rw [ea, la, if_pos i2]
    by_cases q : 0 < rd s.f_aggressorUses c
    · rw [if_pos q, Option.bind_some, if_neg (by decide)]
      unfold j_writeMain_b52 j_fireCouplings
      refine own_bind (own_bind (own_fc c _ 3000 _ 0 hI w1 w2 (by decide) (by decide) (by decide)) fun x hx => ⟨_, rfl, hx⟩) ?_
      rintro y ⟨x, e, x1, x2, _⟩
      refine ⟨_, rfl, x, e, x1, x2, fun z => ?_⟩
      have := (hI.2.2.1.2.2.2.2.2 z).2 c i2
      rw [this] at q
      exact absurd q (by decide)
    · rw [if_neg q, Option.bind_some, if_pos rfl]
      exact base
theorem own_wrt {s : Q} {a b : Int32} (hI : own_I s) (h0 : 0 ≤ a.toInt) (h1 : a.toInt < 256) (hb : b = 0 ∨ b = 1) : own_ok (j_writeRouted s a b) (fun s' => own_ce s s' (fun x => s.f_faultCount = 0 → rd x (own_rt s a) = b)) := by
  obtain ⟨r1, r2, r3, r4⟩ := own_rc hI h0 h1
  have lc : s.f_cells.length = 320 := hI.1.1
  have c01 := hI.2.2.2.2.2.1
  have i3 := inb_iff.mp r2
  unfold j_writeRouted
  rw [r1, Option.bind_some, (own_bit hb).1]
  by_cases q : own_rt s a < 256
  · rw [if_pos q]
    rw [lt32] at q
    simp only [Int32.reduceToInt] at q
    exact own_bind (own_wm hI (by omega) q hb) fun x hx => ⟨_, rfl, hx⟩
  · rw [if_neg q, lc, if_pos r2, (own_bit hb).2.1, ← own_e_cells]
    exact ⟨_, rfl, _, rfl, by rw [len_wr, lc], own_01_wr c01 lc r2 hb, fun _ => rd_wr_same (by rw [lc]; exact r2) _⟩
theorem own_rrt {s : Q} {a : Int32} (hI : own_I s) (h0 : 0 ≤ a.toInt) (h1 : a.toInt < 256) : own_ok (j_readRouted s a) (fun r => (r.1 = 0 ∨ r.1 = 1) ∧ r.2 = s.s_latchBit r.1 ∧ (s.f_faultCount = 0 → r.1 = rd s.f_cells (own_rt s a))) := by
  obtain ⟨r1, r2, r3, r4⟩ := own_rc hI h0 h1
  have lc : s.f_cells.length = 320 := hI.1.1
  have c01 := hI.2.2.2.2.2.1
  have lt := hI.2.2.2.2.2.2.1
  have i3 := inb_iff.mp r2
  have fin : ∀ v : Int32, (v = 0 ∨ v = 1) → (s.f_faultCount = 0 → v = rd s.f_cells (own_rt s a)) → own_ok (j_readRouted_b29 s v) (fun r => (r.1 = 0 ∨ r.1 = 1) ∧ r.2 = s.s_latchBit r.1 ∧ (s.f_faultCount = 0 → r.1 = rd s.f_cells (own_rt s a))) := by
    intro v hv hz
    unfold j_readRouted_b29
    rw [(own_bit hv).1, ← own_e_latchBit]
    exact ⟨_, rfl, hv, rfl, hz⟩
  unfold j_readRouted
  rw [r1, Option.bind_some]
  by_cases q : own_rt s a < 256
  · rw [if_pos q]
    rw [lt32] at q
    simp only [Int32.reduceToInt] at q
    refine own_bind (P := fun v => (v = 0 ∨ v = 1) ∧ (s.f_faultCount = 0 → v = rd s.f_cells (own_rt s a))) ?_ (fun v hv => fin v hv.1 hv.2)
    unfold j_readMain
    refine own_bind (own_vk hI (by omega) q) ?_
    intro k hk
    split
    · rename_i e
      exact ⟨_, rfl, Or.inl rfl, fun z => by have := hk z; rw [this] at e; exact absurd e (by decide)⟩
    · split
      · rename_i e
        exact ⟨_, rfl, Or.inr rfl, fun z => by have := hk z; rw [this] at e; exact absurd e (by decide)⟩
      · split
        · rename_i e
          exact ⟨_, rfl, lt, fun z => by have := hk z; rw [this] at e; exact absurd e (by decide)⟩
        · rw [lc, if_pos r2]
          exact ⟨_, rfl, c01 _ r2, fun _ => rfl⟩
  · rw [if_neg q, lc, if_pos r2]
    exact fin _ (c01 _ r2) (fun _ => rfl)
def own_GG (s s' : Q) (F : Int) : Prop := ∃ c l b g f, s' = own_U s c l b g f ∧ c.length = 320 ∧ own_01 c 320 ∧ (l = 0 ∨ l = 1) ∧ b.length = 32 ∧ own_rg b 32 2147483647 ∧ g.toInt = min F 8 ∧ (f = 0 ↔ F = 0) ∧ 0 ≤ F
theorem own_GI {s s' : Q} {F : Int} (hI : own_I s) (h : own_GG s s' F) : own_I s' := by
  obtain ⟨c, l, b, g, f, e, h1, h2, h3, h4, h5, h6, h7, h8⟩ := h
  rw [e]
  exact own_IU hI h1 h2 h3 h4 h5 (by omega)
theorem own_Gc {s s' : Q} {F : Int} {x : List Int32} (h : own_GG s s' F) (h1 : x.length = 320) (h2 : own_01 x 320) : own_GG s (s'.s_cells x) F := by
  obtain ⟨c, l, b, g, f, e, a1, a2, h3, h4, h5, h6, h7, h8⟩ := h
  refine ⟨x, l, b, g, f, ?_, h1, h2, h3, h4, h5, h6, h7, h8⟩
  rw [e]
  unfold own_U
  simp only [own_Qa]
theorem own_Gl {s s' : Q} {F : Int} {v : Int32} (h : own_GG s s' F) (hv : v = 0 ∨ v = 1) : own_GG s (s'.s_latchBit v) F := by
  obtain ⟨c, l, b, g, f, e, a1, a2, h3, h4, h5, h6, h7, h8⟩ := h
  refine ⟨c, v, b, g, f, ?_, a1, a2, hv, h4, h5, h6, h7, h8⟩
  rw [e]
  unfold own_U
  simp only [own_Qa]
theorem own_ao {s0 s : Q} {F : Int} {op a : Int32} (hI0 : own_I s0) (hG : own_GG s0 s F) (h0 : 0 ≤ a.toInt) (h1 : a.toInt < 256) : own_ok (j_applyOp s op a) (fun r => (r.1 = 0 ∨ r.1 = 1) ∧ own_GG s0 r.2 F) := by
  have hI := own_GI hI0 hG
  unfold j_applyOp
  split
  · refine own_bind (own_wrt hI h0 h1 (Or.inl rfl)) ?_
    rintro x ⟨y, e, y1, y2, _⟩
    exact ⟨_, rfl, Or.inl rfl, by rw [e]; exact own_Gc hG y1 y2⟩
  · split
    · refine own_bind (own_wrt hI h0 h1 (Or.inr rfl)) ?_
      rintro x ⟨y, e, y1, y2, _⟩
      exact ⟨_, rfl, Or.inl rfl, by rw [e]; exact own_Gc hG y1 y2⟩
    · generalize (if op = 1 then (1 : Int32) else 0) = w
      unfold j_applyOp_b35
      refine own_bind (own_rrt hI h0 h1) ?_
      rintro x ⟨x1, x2, _⟩
      split
      · exact ⟨_, rfl, Or.inl rfl, by rw [x2]; exact own_Gl hG x1⟩
      · exact ⟨_, rfl, Or.inr rfl, by rw [x2]; exact own_Gl hG x1⟩
theorem own_e12 : ∀ e : Fin 8, 0 ≤ (ish (Int32.ofNat e.val) 12).toInt := by decide
theorem own_k8 : ∀ k : Fin 4, 0 ≤ (ish (Int32.ofNat k.val) 8).toInt := by decide
theorem own_row : ∀ r : Fin 16, ¬ ish 1 (Int32.ofNat r.val) = 0 := by decide
theorem own_fN {x : Int32} {n : Nat} (hn : n < 1000) (h0 : 0 ≤ x.toInt) (h1 : x.toInt < n) : ∃ i : Fin n, x = Int32.ofNat i.val := ⟨⟨x.toInt.toNat, by omega⟩, Int32.toInt_inj.mp (by rw [own_n2i (by simp only; omega)]; simp only; omega)⟩
theorem own_rf {s0 s : Q} {F : Int} {e k a : Int32} (hI0 : own_I s0) (hG : own_GG s0 s F) (e0 : 0 ≤ e.toInt) (e1 : e.toInt < 8) (k0 : 0 ≤ k.toInt) (k1 : k.toInt < 4) (h0 : 0 ≤ a.toInt) (h1 : a.toInt < 256) : own_ok (j_recordFailure s e k a) (fun s' => own_GG s0 s' (F + 1)) := by
  have hI := own_GI hI0 hG
  have ll : s.f_logLimit = 8 := hI.2.1.2.2
  have lb : s.f_logBuffer.length = 32 := hI.1.2.2.2.2.2.2.2.2.2.2.1
  obtain ⟨c, l, b, g, f, eq, a1, a2, h3, h4, h5, h6, h7, h8⟩ := hG
  have g1 : s.f_logLength = g := by rw [eq]; unfold own_U; simp only [own_Qa]
  have g2 : s.f_failMask = f := by rw [eq]; unfold own_U; simp only [own_Qa]
  have g3 : s.f_logBuffer = b := by rw [eq]; unfold own_U; simp only [own_Qa]
  have mr := own_msk (isr a 4) 15 (by decide)
  simp only [Int32.reduceToInt] at mr
  obtain ⟨ri, er⟩ := own_fN (n := 16) (by decide) mr.1 (by omega)
  have nz : ¬ f ||| ish 1 (isr a 4 &&& 15) = 0 := by
    intro z
    have := own_or0 z
    rw [er] at this
    exact own_row ri this
  have fz : (f ||| ish 1 (isr a 4 &&& 15) = 0 ↔ F + 1 = 0) := ⟨fun z => absurd z nz, fun z => by omega⟩
  have en : 0 ≤ ((ish e 12 ||| ish k 8) ||| a).toInt := by
    obtain ⟨i, ei⟩ := own_fN (n := 8) (by decide) e0 e1
    obtain ⟨j, ej⟩ := own_fN (n := 4) (by decide) k0 k1
    refine own_or_nn (own_or_nn ?_ ?_) h0
    · rw [ei]; exact own_e12 i
    · rw [ej]; exact own_k8 j
  have eup := Int32.toInt_lt ((ish e 12 ||| ish k 8) ||| a)
  unfold j_recordFailure
  rw [ll, g1, g2, lb, g3]
  by_cases q : g < 8
  · rw [if_pos q]
    rw [lt32] at q
    simp only [Int32.reduceToInt] at q
    have i1 : inb 32 g = true := inb_iff.mpr (by omega)
    rw [if_pos (by rw [lt32]; simp only [Int32.reduceToInt]; omega), if_neg (by rw [lt32]; simp only [Int32.reduceToInt]; omega), if_pos i1]
    have gi : (g + 1).toInt = g.toInt + 1 := own_inc (by omega) (by omega)
    refine ⟨_, rfl, c, l, wr b g ((ish e 12 ||| ish k 8) ||| a), g + 1, f ||| ish 1 (isr a 4 &&& 15), ?_, a1, a2, h3, by rw [len_wr, h4], own_rg_wr h5 h4 i1 en (by omega), by omega, fz, by omega⟩
    rw [eq]
    unfold own_U
    simp only [own_Qa, hI0.2.1.2.2]
  · rw [if_neg q]
    rw [lt32] at q
    simp only [Int32.reduceToInt] at q
    refine ⟨_, rfl, c, l, b, g, f ||| ish 1 (isr a 4 &&& 15), ?_, a1, a2, h3, h4, h5, by omega, fz, by omega⟩
    rw [eq]
    unfold own_U
    simp only [own_Qa, hI0.2.1.2.2]

theorem own_opAt {s : Q} {e k : Int32} (hI : own_I s) (h0 : 0 ≤ e.toInt) (h1 : e.toInt < 8) : own_ok (j_opAt s e k) (fun _ => True) := by
  have l1 : s.f_elementOps.length = 8 := hI.1.2.2.2.2.2.2.2.2.2.1
  have i1 : inb 8 e = true := inb_iff.mpr (by omega)
  unfold j_opAt
  rw [l1, if_pos i1]
  split
  · exact ⟨_, rfl, trivial⟩
  · split
    · exact ⟨_, rfl, trivial⟩
    · split
      · exact ⟨_, rfl, trivial⟩
      · exact ⟨_, rfl, trivial⟩
theorem own_roa {s0 : Q} {e a cnt : Int32} (hI0 : own_I s0) (e0 : 0 ≤ e.toInt) (e1 : e.toInt < 8) (h0 : 0 ≤ a.toInt) (h1 : a.toInt < 256) : ∀ (n : Nat) (s : Q) (fl k : Int32) (F : Int), own_GG s0 s F → 0 ≤ k.toInt → k.toInt ≤ 4 → 0 ≤ fl.toInt → fl.toInt ≤ k.toInt → 4 - k.toInt < n → own_ok (j_runOpsAt_l13 n s e a cnt fl k) (fun r => ∃ d : Int, 0 ≤ d ∧ d ≤ 4 - k.toInt ∧ r.1.toInt = fl.toInt + d ∧ own_GG s0 r.2 (F + d)) := by
  intro n
  induction n with
  | zero => intro s fl k F _ h2 h3 h4 h5 h6; omega
  | succ n ih =>
    intro s fl k F hG k0 k4 f0 f1 hn
    have hI := own_GI hI0 hG
    have fin : own_ok (some (fl, s)) (fun r => ∃ d : Int, 0 ≤ d ∧ d ≤ 4 - k.toInt ∧ r.1.toInt = fl.toInt + d ∧ own_GG s0 r.2 (F + d)) := ⟨_, rfl, 0, by omega, by omega, by simp, by rw [Int.add_zero]; exact hG⟩
    rw [j_runOpsAt_l13]
    by_cases c1 : k < cnt
    · rw [if_pos c1]
      by_cases c2 : k < 4
      · rw [if_pos c2]
        rw [lt32] at c2
        simp only [Int32.reduceToInt] at c2
        have ek : (k + 1).toInt = k.toInt + 1 := own_inc (by omega) (by omega)
        have ef : (fl + 1).toInt = fl.toInt + 1 := own_inc (by omega) (by omega)
        refine own_bind (own_opAt (k := k) hI e0 e1) fun op _ => ?_
        refine own_bind (own_ao (op := op) hI0 hG h0 h1) ?_
        rintro x ⟨x1, xG⟩
        unfold j_runOpsAt_b55
        by_cases z : x.1 = 0
        · rw [if_pos z]
          refine own_mono (ih x.2 fl (k + 1) F xG (by omega) (by omega) f0 (by omega) (by omega)) ?_
          rintro r ⟨d, d1, d2, d3, d4⟩
          exact ⟨d, d1, by omega, d3, d4⟩
        · rw [if_neg z]
          refine own_bind (own_rf hI0 xG e0 e1 k0 c2 h0 h1) fun y yG => ?_
          refine own_mono (ih y (fl + 1) (k + 1) (F + 1) yG (by omega) (by omega) (by omega) (by omega) (by omega)) ?_
          rintro r ⟨d, d1, d2, d3, d4⟩
          refine ⟨d + 1, by omega, by omega, by omega, ?_⟩
          rw [show F + (d + 1) = F + 1 + d from by omega]; exact d4
      · rw [if_neg c2]; exact fin
    · rw [if_neg c1]; exact fin
theorem own_ro {s0 s : Q} {F : Int} {e a : Int32} (hI0 : own_I s0) (hG : own_GG s0 s F) (e0 : 0 ≤ e.toInt) (e1 : e.toInt < 8) (h0 : 0 ≤ a.toInt) (h1 : a.toInt < 256) : own_ok (j_runOpsAt s e a) (fun r => ∃ d : Int, 0 ≤ d ∧ d ≤ 4 ∧ r.1.toInt = d ∧ own_GG s0 r.2 (F + d)) := by
  have hI := own_GI hI0 hG
  have l1 : s.f_elementCount.length = 8 := hI.1.2.2.2.2.2.2.2.2.1
  unfold j_runOpsAt
  rw [l1, if_pos (inb_iff.mpr (by omega))]
  refine own_bind (own_roa hI0 e0 e1 h0 h1 3000 s 0 0 F hG (by decide) (by decide) (by decide) (by decide) (by decide)) ?_
  rintro r ⟨d, d1, d2, d3, d4⟩
  simp only [Int32.reduceToInt] at d2 d3
  refine ⟨_, rfl, d, d1, by omega, ?_, d4⟩
  show r.1.toInt = d
  omega
theorem own_aa {o i : Int32} (h0 : 0 ≤ i.toInt) (h1 : i.toInt < 256) : 0 ≤ (j_addressAt o i).toInt ∧ (j_addressAt o i).toInt < 256 := by
  unfold j_addressAt
  split
  · have e : (255 - i).toInt = 255 - i.toInt := by rw [own_sub] <;> simp only [Int32.reduceToInt] <;> omega
    omega
  · omega
theorem own_rel {s0 : Q} {e o : Int32} (hI0 : own_I s0) (e0 : 0 ≤ e.toInt) (e1 : e.toInt < 8) : ∀ (n : Nat) (s : Q) (fl i : Int32) (F : Int), own_GG s0 s F → 0 ≤ i.toInt → i.toInt ≤ 256 → 0 ≤ fl.toInt → fl.toInt ≤ 4 * i.toInt → 256 - i.toInt < n → own_ok (j_runElement_l22 n s e o fl i) (fun r => ∃ d : Int, 0 ≤ d ∧ d ≤ 4 * (256 - i.toInt) ∧ r.1.toInt = fl.toInt + d ∧ own_GG s0 r.2 (F + d)) := by
  intro n
  induction n with
  | zero => intro s fl i F _ h2 h3 h4 h5 h6; omega
  | succ n ih =>
    intro s fl i F hG i0 i4 f0 f1 hn
    rw [j_runElement_l22]
    by_cases c2 : i < 256
    · rw [if_pos c2]
      rw [lt32] at c2
      simp only [Int32.reduceToInt] at c2
      have ei : (i + 1).toInt = i.toInt + 1 := own_inc (by omega) (by omega)
      have ad := own_aa (o := o) i0 c2
      refine own_bind (own_ro hI0 hG e0 e1 ad.1 ad.2) ?_
      rintro x ⟨d, d1, d2, d3, d4⟩
      have ef : (fl + x.1).toInt = fl.toInt + d := by rw [own_add] <;> omega
      refine own_mono (ih x.2 (fl + x.1) (i + 1) (F + d) d4 (by omega) (by omega) (by omega) (by omega) (by omega)) ?_
      rintro r ⟨d', g1, g2, g3, g4⟩
      refine ⟨d + d', by omega, by omega, by omega, ?_⟩
      rw [← Int.add_assoc]; exact g4
    · rw [if_neg c2]
      exact ⟨_, rfl, 0, by omega, by omega, by simp, by rw [Int.add_zero]; exact hG⟩
theorem own_re {s0 s : Q} {F : Int} {e : Int32} (hI0 : own_I s0) (hG : own_GG s0 s F) (e0 : 0 ≤ e.toInt) (e1 : e.toInt < 8) : own_ok (j_runElement s e) (fun r => ∃ d : Int, 0 ≤ d ∧ d ≤ 1024 ∧ r.1.toInt = d ∧ own_GG s0 r.2 (F + d)) := by
  have hI := own_GI hI0 hG
  have l1 : s.f_elementOrder.length = 8 := hI.1.2.2.2.2.2.2.2.1
  unfold j_runElement
  rw [l1, if_pos (inb_iff.mpr (by omega))]
  by_cases c : j_isElementIndex s e = 0
  · rw [if_pos c]
    exact ⟨_, rfl, 0, by omega, by omega, rfl, by rw [Int.add_zero]; exact hG⟩
  · rw [if_neg c]
    refine own_bind (own_rel hI0 e0 e1 3000 s 0 0 F hG (by decide) (by decide) (by decide) (by decide) (by decide)) ?_
    rintro r ⟨d, d1, d2, d3, d4⟩
    simp only [Int32.reduceToInt] at d2 d3
    refine ⟨_, rfl, d, d1, by omega, ?_, d4⟩
    show r.1.toInt = d
    omega
theorem own_rnl {s0 : Q} (hI0 : own_I s0) : ∀ (n : Nat) (s : Q) (fl e : Int32) (F : Int), own_GG s0 s F → 0 ≤ e.toInt → e.toInt ≤ 8 → 0 ≤ fl.toInt → fl.toInt ≤ 1024 * e.toInt → 8 - e.toInt < n → own_ok (j_run_l18 n s fl e) (fun r => ∃ d : Int, 0 ≤ d ∧ d ≤ 1024 * (8 - e.toInt) ∧ r.1.toInt = fl.toInt + d ∧ own_GG s0 r.2 (F + d)) := by
  intro n
  induction n with
  | zero => intro s fl i F _ h2 h3 h4 h5 h6; omega
  | succ n ih =>
    intro s fl i F hG i0 i4 f0 f1 hn
    have fin : own_ok (some (fl, s)) (fun r => ∃ d : Int, 0 ≤ d ∧ d ≤ 1024 * (8 - i.toInt) ∧ r.1.toInt = fl.toInt + d ∧ own_GG s0 r.2 (F + d)) := ⟨_, rfl, 0, by omega, by omega, by simp, by rw [Int.add_zero]; exact hG⟩
    rw [j_run_l18]
    by_cases c1 : i < s.f_programLength
    · rw [if_pos c1]
      by_cases c2 : i < 8
      · rw [if_pos c2]
        rw [lt32] at c2
        simp only [Int32.reduceToInt] at c2
        have ei : (i + 1).toInt = i.toInt + 1 := own_inc (by omega) (by omega)
        refine own_bind (own_re hI0 hG i0 c2) ?_
        rintro x ⟨d, d1, d2, d3, d4⟩
        have ef : (fl + x.1).toInt = fl.toInt + d := by rw [own_add] <;> omega
        refine own_mono (ih x.2 (fl + x.1) (i + 1) (F + d) d4 (by omega) (by omega) (by omega) (by omega) (by omega)) ?_
        rintro r ⟨d', g1, g2, g3, g4⟩
        refine ⟨d + d', by omega, by omega, by omega, ?_⟩
        rw [← Int.add_assoc]; exact g4
      · rw [if_neg c2]; exact fin
    · rw [if_neg c1]; exact fin
theorem own_rsl {s : Q} : ∀ (n : Nat) (b : List Int32) (i : Int32), b.length = 32 → own_rg b 32 2147483647 → 0 ≤ i.toInt → i.toInt ≤ 32 → 32 - i.toInt < n → own_ok (j_resetResults_l2 n (s.s_logBuffer b) i) (fun s' => ∃ b', s' = s.s_logBuffer b' ∧ b'.length = 32 ∧ own_rg b' 32 2147483647) := by
  intro n
  induction n with
  | zero => intro b i _ _ h0 h1 h2; omega
  | succ n ih =>
    intro b i hb hr i0 i1 hn
    rw [j_resetResults_l2]
    by_cases c : i < 32
    · rw [if_pos c]
      rw [lt32] at c
      simp only [Int32.reduceToInt] at c
      have ei : (i + 1).toInt = i.toInt + 1 := own_inc (by omega) (by omega)
      have j1 : inb 32 i = true := inb_iff.mpr (by omega)
      have e : (s.s_logBuffer b).f_logBuffer = b := by simp only [own_Qa]
      rw [e, hb, if_pos j1, ← own_e_logBuffer]
      have e2 : (s.s_logBuffer b).s_logBuffer (wr b i 0) = s.s_logBuffer (wr b i 0) := by simp only [own_Qa]
      rw [e2]
      exact ih _ (i + 1) (by rw [len_wr, hb]) (own_rg_wr hr hb j1 (by decide) (by decide)) (by omega) (by omega) (by omega)
    · rw [if_neg c]; exact ⟨_, rfl, b, rfl, hb, hr⟩
theorem own_run {s : Q} (hI : own_I s) : own_ok (j_run s) (fun r => (s.f_programLength = 0 ∧ r = (-10, s)) ∨ (¬ s.f_programLength = 0 ∧ ∃ F : Int, 0 ≤ F ∧ F ≤ 8192 ∧ r.1.toInt = F ∧ own_GG s r.2 F)) := by
  unfold j_run
  have pl := hI.2.2.2.1.1
  by_cases c : 0 < s.f_programLength
  · rw [if_pos c]
    have n0 : ¬ s.f_programLength = 0 := by
      intro z; rw [z] at c; exact absurd c (by decide)
    unfold j_resetResults
    have es : s.s_logBuffer s.f_logBuffer = s := by
      rw [own_e_logBuffer]; exact own_eta s
    have rs := own_rsl (s := s) 3000 s.f_logBuffer 0 hI.1.2.2.2.2.2.2.2.2.2.2.1 hI.2.2.2.2.2.2.2.1 (by decide) (by decide) (by decide)
    rw [es] at rs
    refine own_bind (P := fun x => own_GG s x 0) ?_ ?_
    · refine own_bind rs ?_
      rintro x ⟨b, e, b1, b2⟩
      refine ⟨_, rfl, s.f_cells, s.f_latchBit, b, 0, 0, ?_, hI.1.1, hI.2.2.2.2.2.1, hI.2.2.2.2.2.2.1, b1, b2, by decide, by decide, by decide⟩
      rw [e]
      unfold own_U
      simp only [own_Qa]
    · intro x hx
      refine own_bind (own_rnl hI 3000 x 0 0 0 hx (by decide) (by decide) (by decide) (by decide) (by decide)) ?_
      rintro r ⟨d, d1, d2, d3, d4⟩
      simp only [Int32.reduceToInt] at d2 d3
      rw [Int.zero_add] at d4
      refine ⟨_, rfl, Or.inr ⟨n0, d, d1, by omega, ?_, d4⟩⟩
      show r.1.toInt = d
      omega
  · rw [if_neg c]
    rw [lt32] at c
    simp only [Int32.reduceToInt] at c
    exact ⟨_, rfl, Or.inl ⟨Int32.toInt_inj.mp (by simp only [Int32.reduceToInt]; omega), rfl⟩⟩

def own_FU (s : Q) (K V A T S U : List Int32) (c : Int32) : Q := ((((((s.s_faultKind K).s_faultVictim V).s_faultAggressor A).s_faultTrigger T).s_victimSlot S).s_aggressorUses U).s_faultCount c
theorem own_IF {s : Q} {K V A T S U : List Int32} {c : Int32} (h : own_I s) (k1 : K.length = 16) (k2 : own_rg K 16 7) (v1 : V.length = 16) (v2 : own_rg V 16 255) (a1 : A.length = 16) (a2 : own_rg A 16 255) (t1 : T.length = 16) (t2 : own_rg T 16 3) (s1 : S.length = 256) (u1 : U.length = 256) (c1 : 0 ≤ c.toInt ∧ c.toInt ≤ 4) (z : c = 0 → (∀ x, inb 256 x = true → rd S x = 0) ∧ (∀ x, inb 256 x = true → rd U x = 0)) : own_I (own_FU s K V A T S U c) := by
  obtain ⟨b1, b2, b3, b4, b5, b6⟩ := h
  unfold own_FU
  refine ⟨?_, ?_, ?_, ?_, ?_, ?_⟩
  · unfold own_L1 at b1 ⊢
    simp only [own_Qa]
    obtain ⟨x1, x2, x3, x4, x5, x6, x7, x8, x9, x10, x11, x12, x13⟩ := b1
    exact ⟨x1, k1, v1, a1, t1, s1, u1, x8, x9, x10, x11, x12, x13⟩
  · unfold own_L2 at b2 ⊢
    simp only [own_Qa]; exact b2
  · unfold own_F1
    simp only [own_Qa]; exact ⟨c1, k2, v2, a2, t2, z⟩
  · unfold own_P1 at b4 ⊢
    simp only [own_Qa]; exact b4
  · unfold own_R1 at b5 ⊢
    simp only [own_Qa]; exact b5
  · unfold own_D1 at b6 ⊢
    simp only [own_Qa]; exact b6
/-- the room check of inject -/
theorem own_room {s : Q} {k v a : Int32} (hI : own_I s) (v0 : 0 ≤ v.toInt) (v1 : v.toInt ≤ 255) (a0 : 0 ≤ a.toInt) (a1 : a.toInt ≤ 255) : own_ok (j_validateFaultRoom s k v a) (fun z => (z = 0 ∧ s.f_faultCount.toInt < 4) ∨ z.toInt < 0) := by
  have l1 : s.f_victimSlot.length = 256 := hI.1.2.2.2.2.2.1
  have l2 : s.f_aggressorUses.length = 256 := hI.1.2.2.2.2.2.2.1
  have fl : s.f_faultLimit = 4 := hI.2.1.2.1
  have iv : ∀ x : Int32, 0 ≤ x.toInt → x.toInt ≤ 255 → own_ok (j_isVictim s x) (fun _ => True) := by
    intro x x0 x1
    unfold j_isVictim
    rw [own_isA x0 (by omega), if_neg (by decide), l1, if_pos (inb_iff.mpr (by omega))]
    split
    · exact ⟨_, rfl, trivial⟩
    · exact ⟨_, rfl, trivial⟩
  have ia : own_ok (j_isAggressor s v) (fun _ => True) := by
    unfold j_isAggressor
    rw [own_isA v0 (by omega), if_neg (by decide), l2, if_pos (inb_iff.mpr (by omega))]
    split
    · exact ⟨_, rfl, trivial⟩
    · exact ⟨_, rfl, trivial⟩
  have m7 : own_ok (some (-7 : Int32)) (fun z => (z = 0 ∧ s.f_faultCount.toInt < 4) ∨ z.toInt < 0) := ⟨_, rfl, Or.inr (by decide)⟩
  unfold j_validateFaultRoom
  rw [fl]
  by_cases c : s.f_faultCount < 4
  · rw [if_pos c]
    rw [lt32] at c
    simp only [Int32.reduceToInt] at c
    have ok0 : own_ok (some (0 : Int32)) (fun z => (z = 0 ∧ s.f_faultCount.toInt < 4) ∨ z.toInt < 0) := ⟨_, rfl, Or.inl ⟨rfl, c⟩⟩
    refine own_bind (iv v v0 v1) fun x _ => ?_
    split
    · refine own_bind ia fun y _ => ?_
      split
      · split
        · refine own_bind (iv a a0 a1) fun w _ => ?_
          split
          · exact ok0
          · exact m7
        · exact ok0
      · exact m7
    · exact m7
  · rw [if_neg c]; exact ⟨_, rfl, Or.inr (by decide)⟩
theorem own_t3 : ∀ t : Fin 4, Int32.ofNat t.val &&& 3 = Int32.ofNat t.val := by decide
theorem own_args {s : Q} {k v a t : Int32} (k0 : 0 ≤ k.toInt) (k1 : k.toInt ≤ 7) (v0 : 0 ≤ v.toInt) (v1 : v.toInt ≤ 255) (a0 : 0 ≤ a.toInt) (a1 : a.toInt ≤ 255) (t0 : 0 ≤ t.toInt) (t1 : t.toInt ≤ 3) : ((k = 0 ∨ k = 7) ∧ j_validateFaultArguments s k v a t = -3) ∨ (¬ k = 0 ∧ ¬ k = 7 ∧ (j_validateFaultArguments s k v a t = 0 ∨ (j_validateFaultArguments s k v a t).toInt < 0)) := by
  by_cases c : k = 0 ∨ k = 7
  · left
    refine ⟨c, ?_⟩
    unfold j_validateFaultArguments
    rcases c with e | e <;> rw [e] <;> rfl
  · right
    refine ⟨fun z => c (Or.inl z), fun z => c (Or.inr z), ?_⟩
    unfold j_validateFaultArguments
    rw [own_isA v0 (by omega), own_isA a0 (by omega)]
    split
    · exact Or.inr (by decide)
    · simp only [show ¬ (1 : Int32) = 0 from by decide, ↓reduceIte]
      split
      · split
        · exact Or.inr (by decide)
        · split
          · exact Or.inr (by decide)
          · exact Or.inl rfl
      · exact Or.inl rfl
theorem own_inj {s : Q} {k v a t : Int32} (hI : own_I s) (k0 : 0 ≤ k.toInt) (k1 : k.toInt ≤ 7) (v0 : 0 ≤ v.toInt) (v1 : v.toInt ≤ 255) (a0 : 0 ≤ a.toInt) (a1 : a.toInt ≤ 255) (t0 : 0 ≤ t.toInt) (t1 : t.toInt ≤ 3) : own_ok (j_inject s k v a t) (fun r => (r.1.toInt < 0 ∧ r.2 = s ∧ ((k = 0 ∨ k = 7) → r.1 = -3)) ∨ (¬ k = 0 ∧ ¬ k = 7 ∧ r.1 = s.f_faultCount ∧ s.f_faultCount.toInt < 4 ∧ (∃ K V A T S U, r.2 = own_FU s K V A T S U (s.f_faultCount + 1)) ∧ own_I r.2 ∧ j_faultInfo r.2 s.f_faultCount = some (if k = 6 then ((k ||| ish v 4) ||| ish a 12) ||| ish t 20 else k ||| ish v 4))) := by
  have hI0 := hI
  obtain ⟨⟨x1, x2, x3, x4, x5, x6, x7, x8, x9, x10, x11, x12, x13⟩, _, ⟨f1, f2, f3, f4, f5, f6⟩, _, _, _⟩ := hI
  unfold j_inject
  rcases own_args (s := s) k0 k1 v0 v1 a0 a1 t0 t1 with ⟨c, e⟩ | ⟨c1, c2, e⟩
  · rw [e, if_neg (show ¬ (-3 : Int32) = 0 from by decide)]
    exact ⟨_, rfl, Or.inl ⟨show (-3 : Int32).toInt < 0 from by decide, rfl, fun _ => rfl⟩⟩
  · by_cases z : j_validateFaultArguments s k v a t = 0
    · rw [if_pos z]
      refine own_bind (own_room (k := k) hI0 v0 v1 a0 a1) ?_
      intro w hw
      by_cases y : w = 0
      · rw [if_pos y]
        have cl : s.f_faultCount.toInt < 4 := by
          rcases hw with q | q
          · exact q.2
          · rw [y] at q; exact absurd q (by decide)
        have ic : inb 16 s.f_faultCount = true := inb_iff.mpr (by omega)
        have iv : inb 256 v = true := inb_iff.mpr (by omega)
        have ia : inb 256 a = true := inb_iff.mpr (by omega)
        have ec : (s.f_faultCount + 1).toInt = s.f_faultCount.toInt + 1 := own_inc (by omega) (by omega)
        have nz : ¬ s.f_faultCount + 1 = 0 := by
          intro q; rw [q] at ec; simp only [Int32.reduceToInt] at ec; omega
        have fn : ∀ S : Q, S.f_faultCount = s.f_faultCount + 1 → j_isFaultNumber S s.f_faultCount = 1 := by
          intro S hS
          unfold j_isFaultNumber
          rw [hS, if_neg (by rw [lt32]; simp only [Int32.reduceToInt]; omega), if_pos (by rw [lt32]; omega), if_pos (by rw [lt32]; simp only [Int32.reduceToInt]; omega)]
        have tt : t &&& 3 = t := by
          obtain ⟨i, ei⟩ := own_fN (n := 4) (by decide) t0 (by omega)
          rw [ei]; exact own_t3 i
        unfold j_appendFault j_appendFault_b105 j_appendFault_b121
        rw [if_neg (by rw [lt32]; simp only [Int32.reduceToInt]; omega), if_pos (by rw [lt32]; simp only [Int32.reduceToInt]; omega), own_isA v0 (by omega), own_isA a0 (by omega), if_neg (by decide), x2, x3, x6, if_pos ic, if_pos ic, if_pos iv]
        by_cases k6 : k = 6
        · rw [if_pos k6, if_neg (by decide), x4, x5, x7, if_pos ic, if_pos ic, if_pos ia, if_pos ia, tt, Option.bind_some]
          refine ⟨_, rfl, Or.inr ⟨c1, c2, rfl, cl, ⟨wr s.f_faultKind s.f_faultCount k, wr s.f_faultVictim s.f_faultCount v, wr s.f_faultAggressor s.f_faultCount a, wr s.f_faultTrigger s.f_faultCount t, wr s.f_victimSlot v (s.f_faultCount + 1), wr s.f_aggressorUses a (rd s.f_aggressorUses a + 1), ?_⟩, ?_, ?_⟩⟩
          · unfold own_FU
            simp only [own_Qa]
          · have q := own_IF (s := s) (K := wr s.f_faultKind s.f_faultCount k) (V := wr s.f_faultVictim s.f_faultCount v) (A := wr s.f_faultAggressor s.f_faultCount a) (T := wr s.f_faultTrigger s.f_faultCount t) (S := wr s.f_victimSlot v (s.f_faultCount + 1)) (U := wr s.f_aggressorUses a (rd s.f_aggressorUses a + 1)) (c := s.f_faultCount + 1) hI0 (by rw [len_wr]; exact x2) (own_rg_wr f2 x2 ic k0 k1) (by rw [len_wr]; exact x3) (own_rg_wr f3 x3 ic v0 v1) (by rw [len_wr]; exact x4) (own_rg_wr f4 x4 ic a0 a1) (by rw [len_wr]; exact x5) (own_rg_wr f5 x5 ic t0 t1) (by rw [len_wr]; exact x6) (by rw [len_wr]; exact x7) ⟨by omega, by omega⟩ (fun q => absurd q nz)
            unfold own_FU at q
            simp only [own_Qa] at q ⊢
            exact q
          · unfold j_faultInfo
            rw [fn _ (by simp only [own_Qa]), if_neg (show ¬ (1 : Int32) = 0 from by decide)]
            simp only [own_Qa]
            rw [len_wr, len_wr, len_wr, len_wr, x2, x3, x4, x5, if_pos ic, if_pos ic, if_pos ic, if_pos ic]
            rw [rd_wr_same (by rw [x2]; exact ic), rd_wr_same (by rw [x3]; exact ic), rd_wr_same (by rw [x4]; exact ic), rd_wr_same (by rw [x5]; exact ic), if_pos k6]
        · rw [if_neg k6]
          simp only [own_Qa]
          rw [x4, x5, if_pos ic, if_pos ic, Option.bind_some]
          refine ⟨_, rfl, Or.inr ⟨c1, c2, rfl, cl, ⟨wr s.f_faultKind s.f_faultCount k, wr s.f_faultVictim s.f_faultCount v, wr s.f_faultAggressor s.f_faultCount 0, wr s.f_faultTrigger s.f_faultCount 0, wr s.f_victimSlot v (s.f_faultCount + 1), s.f_aggressorUses, ?_⟩, ?_, ?_⟩⟩
          · unfold own_FU
            simp only [own_Qa]
          · have q := own_IF (s := s) (K := wr s.f_faultKind s.f_faultCount k) (V := wr s.f_faultVictim s.f_faultCount v) (A := wr s.f_faultAggressor s.f_faultCount 0) (T := wr s.f_faultTrigger s.f_faultCount 0) (S := wr s.f_victimSlot v (s.f_faultCount + 1)) (U := s.f_aggressorUses) (c := s.f_faultCount + 1) hI0 (by rw [len_wr]; exact x2) (own_rg_wr f2 x2 ic k0 k1) (by rw [len_wr]; exact x3) (own_rg_wr f3 x3 ic v0 v1) (by rw [len_wr]; exact x4) (own_rg_wr f4 x4 ic (by decide) (by decide)) (by rw [len_wr]; exact x5) (own_rg_wr f5 x5 ic (by decide) (by decide)) (by rw [len_wr]; exact x6) x7 ⟨by omega, by omega⟩ (fun q => absurd q nz)
            unfold own_FU at q
            simp only [own_Qa] at q ⊢
            exact q
          · unfold j_faultInfo
            rw [fn _ (by simp only [own_Qa]), if_neg (show ¬ (1 : Int32) = 0 from by decide)]
            simp only [own_Qa]
            rw [len_wr, len_wr, len_wr, len_wr, x2, x3, x4, x5, if_pos ic, if_pos ic, if_pos ic, if_pos ic]
            rw [rd_wr_same (by rw [x2]; exact ic), rd_wr_same (by rw [x3]; exact ic), rd_wr_same (by rw [x4]; exact ic), rd_wr_same (by rw [x5]; exact ic), if_neg k6, show ish 0 12 = 0 from rfl, show ish 0 20 = 0 from rfl, Int32.or_zero, Int32.or_zero]
      · rw [if_neg y]
        refine ⟨_, rfl, Or.inl ⟨?_, rfl, fun q => (q.elim c1 c2).elim⟩⟩
        rcases hw with q | q
        · exact absurd q.1 y
        · exact q
    · rw [if_neg z]
      exact ⟨_, rfl, Or.inl ⟨e.resolve_left z, rfl, fun q => (q.elim c1 c2).elim⟩⟩
theorem own_cl2 {s : Q} : ∀ (n : Nat) (S U : List Int32) (i : Int32), S.length = 256 → U.length = 256 → (∀ x, inb 256 x = true → x.toInt < i.toInt → rd S x = 0 ∧ rd U x = 0) → 0 ≤ i.toInt → i.toInt ≤ 256 → 256 - i.toInt < n → own_ok (j_clearFaults_l2 n ((s.s_victimSlot S).s_aggressorUses U) i) (fun s' => ∃ S' U', s' = (s.s_victimSlot S').s_aggressorUses U' ∧ S'.length = 256 ∧ U'.length = 256 ∧ ∀ x, inb 256 x = true → rd S' x = 0 ∧ rd U' x = 0) := by
  intro n
  induction n with
  | zero => intro S U i _ _ _ h0 h1 h2; omega
  | succ n ih =>
    intro S U i hS hU hz h0 h1 hn
    rw [j_clearFaults_l2]
    by_cases c : i < 256
    · rw [if_pos c]
      rw [lt32] at c
      simp only [Int32.reduceToInt] at c
      have ei : (i + 1).toInt = i.toInt + 1 := own_inc (by omega) (by omega)
      have j1 : inb 256 i = true := inb_iff.mpr (by omega)
      have e1 : ((s.s_victimSlot S).s_aggressorUses U).f_victimSlot = S := by simp only [own_Qa]
      have e2 : ((s.s_victimSlot S).s_aggressorUses U).f_aggressorUses = U := by simp only [own_Qa]
      rw [e1, e2, hS, hU, if_pos j1, if_pos j1]
      have nx := ih (wr S i 0) (wr U i 0) (i + 1) (by rw [len_wr, hS]) (by rw [len_wr, hU]) (by
        intro x hx hxi
        by_cases q : i = x
        · subst q
          exact ⟨rd_wr_same (by rw [hS]; exact hx) _, rd_wr_same (by rw [hU]; exact hx) _⟩
        · have q' : ¬ i.toInt = x.toInt := fun z => q (Int32.toInt_inj.mp z)
          rw [rd_wr_ne (inb_nn j1) (inb_nn hx) q, rd_wr_ne (inb_nn j1) (inb_nn hx) q]
          exact hz x hx (by omega)) (by omega) (by omega) (by omega)
      simp only [own_Qa] at nx ⊢
      exact nx
    · rw [if_neg c]
      rw [lt32] at c
      simp only [Int32.reduceToInt] at c
      refine ⟨_, rfl, S, U, rfl, hS, hU, fun x hx => hz x hx ?_⟩
      have := inb_iff.mp hx
      omega
theorem own_cl31 {s : Q} : ∀ (n : Nat) (K V A T : List Int32) (i : Int32), K.length = 16 → V.length = 16 → A.length = 16 → T.length = 16 → own_rg K 16 7 → own_rg V 16 255 → own_rg A 16 255 → own_rg T 16 3 → 0 ≤ i.toInt → i.toInt ≤ 16 → 16 - i.toInt < n → own_ok (j_clearFaults_l31 n ((((s.s_faultKind K).s_faultVictim V).s_faultAggressor A).s_faultTrigger T) i) (fun s' => ∃ K V A T, s' = (((s.s_faultKind K).s_faultVictim V).s_faultAggressor A).s_faultTrigger T ∧ K.length = 16 ∧ V.length = 16 ∧ A.length = 16 ∧ T.length = 16 ∧ own_rg K 16 7 ∧ own_rg V 16 255 ∧ own_rg A 16 255 ∧ own_rg T 16 3) := by
  intro n
  induction n with
  | zero => intro K V A T i _ _ _ _ _ _ _ _ h0 h1 h2; omega
  | succ n ih =>
    intro K V A T i k1 v1 a1 t1 k2 v2 a2 t2 h0 h1 hn
    rw [j_clearFaults_l31]
    by_cases c : i < 16
    · rw [if_pos c]
      rw [lt32] at c
      simp only [Int32.reduceToInt] at c
      have ei : (i + 1).toInt = i.toInt + 1 := own_inc (by omega) (by omega)
      have j1 : inb 16 i = true := inb_iff.mpr (by omega)
      have nx := ih (wr K i 0) (wr V i 0) (wr A i 0) (wr T i 0) (i + 1) (by rw [len_wr, k1]) (by rw [len_wr, v1]) (by rw [len_wr, a1]) (by rw [len_wr, t1]) (own_rg_wr k2 k1 j1 (by decide) (by decide)) (own_rg_wr v2 v1 j1 (by decide) (by decide)) (own_rg_wr a2 a1 j1 (by decide) (by decide)) (own_rg_wr t2 t1 j1 (by decide) (by decide)) (by omega) (by omega) (by omega)
      simp only [own_Qa] at nx ⊢
      rw [k1, v1, a1, t1, if_pos j1, if_pos j1, if_pos j1, if_pos j1]
      exact nx
    · rw [if_neg c]
      exact ⟨_, rfl, K, V, A, T, rfl, k1, v1, a1, t1, k2, v2, a2, t2⟩
theorem own_clr {s : Q} (hI : own_I s) : own_ok (j_clearFaults s) (fun s' => own_I s' ∧ ∃ K V A T S U, s' = own_FU s K V A T S U 0) := by
  have hI0 := hI
  obtain ⟨⟨x1, x2, x3, x4, x5, x6, x7, x8, x9, x10, x11, x12, x13⟩, _, ⟨f1, f2, f3, f4, f5, f6⟩, _, _, _⟩ := hI
  unfold j_clearFaults
  have e1 : (s.s_victimSlot s.f_victimSlot).s_aggressorUses s.f_aggressorUses = s := by
    simp only [own_Qa]; exact own_eta s
  have a := own_cl2 (s := s) 3000 s.f_victimSlot s.f_aggressorUses 0 x6 x7 (fun x hx h => by
    have := inb_iff.mp hx
    simp only [Int32.reduceToInt] at h
    omega) (by decide) (by decide) (by decide)
  rw [e1] at a
  refine own_bind a ?_
  rintro y ⟨S, U, ey, y1, y2, y3⟩
  have e2 : (((y.s_faultKind s.f_faultKind).s_faultVictim s.f_faultVictim).s_faultAggressor s.f_faultAggressor).s_faultTrigger s.f_faultTrigger = y := by
    rw [ey]; simp only [own_Qa]
  have b := own_cl31 (s := y) 3000 s.f_faultKind s.f_faultVictim s.f_faultAggressor s.f_faultTrigger 0 x2 x3 x4 x5 f2 f3 f4 f5 (by decide) (by decide) (by decide)
  rw [e2] at b
  refine own_bind b ?_
  rintro z ⟨K, V, A, T, ez, k1, v1, a1, t1, k2, v2, a2, t2⟩
  have q := own_IF (c := 0) hI0 k1 k2 v1 v2 a1 a2 t1 t2 y1 y2 ⟨by decide, by decide⟩ (fun _ => ⟨fun x hx => (y3 x hx).1, fun x hx => (y3 x hx).2⟩)
  have ef : z.s_faultCount 0 = own_FU s K V A T S U 0 := by
    rw [ez, ey]
    unfold own_FU
    simp only [own_Qa]
  rw [← own_e_faultCount, ef]
  exact ⟨_, rfl, q, K, V, A, T, S, U, rfl⟩

def own_PU (s : Q) (O C P : List Int32) (c : Int32) : Q := (((s.s_elementOrder O).s_elementCount C).s_elementOps P).s_programLength c
theorem own_IP {s : Q} {O C P : List Int32} {c : Int32} (h : own_I s) (o1 : O.length = 8) (o2 : own_rg O 8 1) (c1 : C.length = 8) (c2 : own_rg C 8 4) (p1 : P.length = 8) (p2 : own_rg P 8 255) (l1 : 0 ≤ c.toInt ∧ c.toInt ≤ 8) : own_I (own_PU s O C P c) := by
  obtain ⟨b1, b2, b3, b4, b5, b6⟩ := h
  unfold own_PU
  refine ⟨?_, ?_, ?_, ?_, ?_, ?_⟩
  · unfold own_L1 at b1 ⊢
    simp only [own_Qa]
    obtain ⟨x1, x2, x3, x4, x5, x6, x7, x8, x9, x10, x11, x12, x13⟩ := b1
    exact ⟨x1, x2, x3, x4, x5, x6, x7, o1, c1, p1, x11, x12, x13⟩
  · unfold own_L2 at b2 ⊢
    simp only [own_Qa]; exact b2
  · unfold own_F1 at b3 ⊢
    simp only [own_Qa]; exact b3
  · unfold own_P1
    simp only [own_Qa]; exact ⟨l1, o2, c2, p2⟩
  · unfold own_R1 at b5 ⊢
    simp only [own_Qa]; exact b5
  · unfold own_D1 at b6 ⊢
    simp only [own_Qa]; exact b6
theorem own_opm : ∀ c : Fin 5, (0 ≤ (j_opsMask (Int32.ofNat c.val)).toInt ∧ (j_opsMask (Int32.ofNat c.val)).toInt ≤ 255) ∧ (1 ≤ c.val → j_opsMask (Int32.ofNat c.val) = ish 1 (2 * Int32.ofNat c.val) - 1) := by decide
theorem own_ape {s : Q} {o c ops : Int32} (hI : own_I s) (o0 : 0 ≤ o.toInt) (o1 : o.toInt ≤ 1) (c0 : 0 ≤ c.toInt) (c1 : c.toInt ≤ 4) (hp : s.f_programLength.toInt < 8) : own_ok (j_appendElement s o c ops) (fun r => r.1 = s.f_programLength ∧ own_I r.2 ∧ (∃ O C P, r.2 = own_PU s O C P (s.f_programLength + 1)) ∧ j_programElement r.2 s.f_programLength = some ((ish o 16 ||| ish c 8) ||| (ops &&& j_opsMask c))) := by
  have hI0 := hI
  obtain ⟨⟨x1, x2, x3, x4, x5, x6, x7, x8, x9, x10, x11, x12, x13⟩, _, _, ⟨p1, p2, p3, p4⟩, _, _⟩ := hI
  have ic : inb 8 s.f_programLength = true := inb_iff.mpr (by omega)
  have ec : (s.f_programLength + 1).toInt = s.f_programLength.toInt + 1 := own_inc (by omega) (by omega)
  obtain ⟨ci, ei⟩ := own_fN (n := 5) (by decide) c0 (by omega)
  have om := (own_opm ci).1
  rw [← ei] at om
  have mk := own_msk ops (j_opsMask c) om.1
  unfold j_appendElement
  rw [if_neg (by rw [lt32]; simp only [Int32.reduceToInt]; omega), if_pos (by rw [lt32]; simp only [Int32.reduceToInt]; omega), x8, x9, x10, if_pos ic, if_pos ic, if_pos ic]
  have q := own_IP (s := s) (O := wr s.f_elementOrder s.f_programLength o) (C := wr s.f_elementCount s.f_programLength c) (P := wr s.f_elementOps s.f_programLength (ops &&& j_opsMask c)) (c := s.f_programLength + 1) hI0 (by rw [len_wr]; exact x8) (own_rg_wr p2 x8 ic o0 o1) (by rw [len_wr]; exact x9) (own_rg_wr p3 x9 ic c0 c1) (by rw [len_wr]; exact x10) (own_rg_wr p4 x10 ic mk.1 (by omega)) ⟨by omega, by omega⟩
  refine ⟨_, rfl, rfl, ?_, ⟨wr s.f_elementOrder s.f_programLength o, wr s.f_elementCount s.f_programLength c, wr s.f_elementOps s.f_programLength (ops &&& j_opsMask c), ?_⟩, ?_⟩
  · unfold own_PU at q
    simp only [own_Qa] at q ⊢
    exact q
  · unfold own_PU
    simp only [own_Qa]
  · have fn : ∀ S : Q, S.f_programLength = s.f_programLength + 1 → j_isElementIndex S s.f_programLength = 1 := by
      intro S hS
      unfold j_isElementIndex
      rw [hS, if_neg (by rw [lt32]; simp only [Int32.reduceToInt]; omega), if_pos (by rw [lt32]; omega), if_pos (by rw [lt32]; simp only [Int32.reduceToInt]; omega)]
    unfold j_programElement
    rw [fn _ (by simp only [own_Qa]), if_neg (show ¬ (1 : Int32) = 0 from by decide)]
    simp only [own_Qa]
    rw [len_wr, len_wr, len_wr, x8, x9, x10, if_pos ic, if_pos ic, if_pos ic, rd_wr_same (by rw [x8]; exact ic), rd_wr_same (by rw [x9]; exact ic), rd_wr_same (by rw [x10]; exact ic)]
theorem own_ade {s : Q} {o c ops : Int32} (hI : own_I s) (ho : o = 0 ∨ o = 1 ∨ o = 2) (c0 : 0 ≤ c.toInt) (c1 : c.toInt ≤ 4) : own_ok (j_addElement s o c ops) (fun r => r.1 = (if o = 2 then -8 else if c < 1 then -9 else if s.f_programLength = 8 then -6 else s.f_programLength) ∧ ((r.1.toInt < 0 ∧ r.2 = s) ∨ (0 ≤ r.1.toInt ∧ r.1 = s.f_programLength ∧ own_I r.2 ∧ (∃ O C P, r.2 = own_PU s O C P (s.f_programLength + 1)) ∧ j_programElement r.2 r.1 = some ((ish o 16 ||| ish c 8) ||| (ops &&& (ish 1 (2 * c) - 1)))))) := by
  have pl := hI.2.2.2.1.1
  unfold j_addElement
  by_cases o2 : o = 2
  · rw [if_pos (by rw [o2]; rfl), if_pos o2]
    exact ⟨_, rfl, rfl, Or.inl ⟨show (-8 : Int32).toInt < 0 from by decide, rfl⟩⟩
  · have o01 : o = 0 ∨ o = 1 := by
      rcases ho with e | e | e
      · exact Or.inl e
      · exact Or.inr e
      · exact absurd e o2
    rw [if_neg (by rcases o01 with e | e <;> rw [e] <;> decide), if_neg o2]
    by_cases cc : c < 1
    · rw [if_pos cc, if_pos cc]
      exact ⟨_, rfl, rfl, Or.inl ⟨show (-9 : Int32).toInt < 0 from by decide, rfl⟩⟩
    · rw [if_neg cc, if_neg cc, if_neg (by rw [lt32]; simp only [Int32.reduceToInt]; omega)]
      rw [lt32] at cc
      simp only [Int32.reduceToInt] at cc
      by_cases p8 : s.f_programLength < 8
      · rw [if_pos p8]
        rw [lt32] at p8
        simp only [Int32.reduceToInt] at p8
        refine own_bind (own_ape (ops := ops) hI (by rcases o01 with e | e <;> rw [e] <;> decide) (by rcases o01 with e | e <;> rw [e] <;> decide) c0 c1 p8) ?_
        rintro r ⟨r1, r2, r3, r4⟩
        have n8 : ¬ s.f_programLength = 8 := by
          intro z; rw [z] at p8; simp only [Int32.reduceToInt] at p8; omega
        obtain ⟨ci, ei⟩ := own_fN (n := 5) (by decide) c0 (by omega)
        have om := (own_opm ci).2 (by
          rw [ei, own_n2i (by omega)] at cc
          omega)
        rw [← ei] at om
        rw [om] at r4
        rw [if_neg n8]
        refine ⟨_, rfl, r1, Or.inr ⟨?_, r1, r2, r3, ?_⟩⟩
        · show 0 ≤ r.1.toInt
          rw [r1]; exact pl.1
        · show j_programElement r.2 r.1 = _
          rw [r1]; exact r4
      · rw [if_neg p8]
        rw [lt32] at p8
        simp only [Int32.reduceToInt] at p8
        have e8 : s.f_programLength = 8 := Int32.toInt_inj.mp (by simp only [Int32.reduceToInt]; omega)
        rw [if_pos e8]
        exact ⟨_, rfl, rfl, Or.inl ⟨show (-6 : Int32).toInt < 0 from by decide, rfl⟩⟩
def own_PP (s s' : Q) (k : Nat) : Prop := own_I s' ∧ ∃ O C P, s' = own_PU s O C P (Int32.ofNat k)
theorem own_cp {s : Q} : ∀ (n : Nat) (O C P : List Int32) (i : Int32), O.length = 8 → C.length = 8 → P.length = 8 → own_rg O 8 1 → own_rg C 8 4 → own_rg P 8 255 → 0 ≤ i.toInt → i.toInt ≤ 8 → 8 - i.toInt < n → own_ok (j_clearProgram_l2 n (((s.s_elementOrder O).s_elementCount C).s_elementOps P) i) (fun s' => ∃ O C P, s' = ((s.s_elementOrder O).s_elementCount C).s_elementOps P ∧ O.length = 8 ∧ C.length = 8 ∧ P.length = 8 ∧ own_rg O 8 1 ∧ own_rg C 8 4 ∧ own_rg P 8 255) := by
  intro n
  induction n with
  | zero => intro O C P i _ _ _ _ _ _ h0 h1 h2; omega
  | succ n ih =>
    intro O C P i o1 c1 p1 o2 c2 p2 h0 h1 hn
    rw [j_clearProgram_l2]
    by_cases c : i < 8
    · rw [if_pos c]
      rw [lt32] at c
      simp only [Int32.reduceToInt] at c
      have ei : (i + 1).toInt = i.toInt + 1 := own_inc (by omega) (by omega)
      have j1 : inb 8 i = true := inb_iff.mpr (by omega)
      have nx := ih (wr O i 0) (wr C i 0) (wr P i 0) (i + 1) (by rw [len_wr, o1]) (by rw [len_wr, c1]) (by rw [len_wr, p1]) (own_rg_wr o2 o1 j1 (by decide) (by decide)) (own_rg_wr c2 c1 j1 (by decide) (by decide)) (own_rg_wr p2 p1 j1 (by decide) (by decide)) (by omega) (by omega) (by omega)
      simp only [own_Qa] at nx ⊢
      rw [o1, c1, p1, if_pos j1, if_pos j1, if_pos j1]
      exact nx
    · rw [if_neg c]
      exact ⟨_, rfl, O, C, P, rfl, o1, c1, p1, o2, c2, p2⟩
theorem own_cpr {s : Q} (hI : own_I s) : own_ok (j_clearProgram s) (fun s' => own_PP s s' 0) := by
  have hI0 := hI
  obtain ⟨⟨x1, x2, x3, x4, x5, x6, x7, x8, x9, x10, x11, x12, x13⟩, _, _, ⟨p1, p2, p3, p4⟩, _, _⟩ := hI
  unfold j_clearProgram
  have e1 : ((s.s_elementOrder s.f_elementOrder).s_elementCount s.f_elementCount).s_elementOps s.f_elementOps = s := by
    simp only [own_Qa]; exact own_eta s
  have a := own_cp (s := s) 3000 s.f_elementOrder s.f_elementCount s.f_elementOps 0 x8 x9 x10 p2 p3 p4 (by decide) (by decide) (by decide)
  rw [e1] at a
  refine own_bind a ?_
  rintro y ⟨O, C, P, ey, o1, c1, q1, o2, c2, q2⟩
  have q := own_IP (c := 0) hI0 o1 o2 c1 c2 q1 q2 ⟨by decide, by decide⟩
  have ef : y.s_programLength 0 = own_PU s O C P 0 := by
    rw [ey]
    unfold own_PU
    rfl
  rw [← own_e_programLength, ef]
  exact ⟨_, rfl, q, O, C, P, rfl⟩
theorem own_pel {s0 s : Q} {k : Nat} {o c a b d : Int32} (h : own_PP s0 s k) (hk : k < 8) (o0 : 0 ≤ o.toInt) (o1 : o.toInt ≤ 1) (c0 : 0 ≤ c.toInt) (c1 : c.toInt ≤ 4) : own_ok (j_presetElement s o c a b d) (fun s' => own_PP s0 s' (k + 1)) := by
  obtain ⟨hI, O, C, P, e⟩ := h
  have pl : s.f_programLength = Int32.ofNat k := by
    rw [e]; unfold own_PU; simp only [own_Qa]
  unfold j_presetElement
  refine own_bind (own_ape hI o0 o1 c0 c1 (by rw [pl, own_n2i (by omega)]; omega)) ?_
  rintro r ⟨r1, r2, ⟨O', C', P', e'⟩, r4⟩
  refine ⟨_, rfl, r2, O', C', P', ?_⟩
  rw [e', pl, own_succ, e]
  unfold own_PU
  simp only [own_Qa]
theorem own_lp {s : Q} {w : Int32} (hI : own_I s) (w0 : 0 ≤ w.toInt) (w1 : w.toInt ≤ 4) : own_ok (j_loadPreset s w) (fun r => (3 < w ∧ r = (0, s)) ∨ (¬ 3 < w ∧ r.1 = 1 ∧ own_PP s r.2 (if w = 0 then 0 else if w = 1 then 3 else 6))) := by
  unfold j_loadPreset
  rw [if_neg (by rw [lt32]; simp only [Int32.reduceToInt]; omega)]
  by_cases c : 3 < w
  · rw [if_pos c]; exact ⟨_, rfl, Or.inl ⟨c, rfl⟩⟩
  · rw [if_neg c]
    refine own_bind (own_cpr hI) fun x hx => ?_
    have c' := c
    rw [lt32] at c'
    simp only [Int32.reduceToInt] at c'
    by_cases a1 : w = 1
    · rw [if_pos a1]
      refine own_bind (P := fun y => own_PP s y 3) ?_ (fun y hy => ⟨_, rfl, Or.inr ⟨c, rfl, by rw [if_neg (by rw [a1]; decide), if_pos a1]; exact hy⟩⟩)
      unfold j_loadMatsPlus
      refine own_bind (own_pel hx (by decide) (by decide) (by decide) (by decide) (by decide)) fun y1 h1 => ?_
      refine own_bind (own_pel h1 (by decide) (by decide) (by decide) (by decide) (by decide)) fun y2 h2 => ?_
      refine own_bind (own_pel h2 (by decide) (by decide) (by decide) (by decide) (by decide)) fun y3 h3 => ?_
      exact ⟨_, rfl, h3⟩
    · rw [if_neg a1]
      by_cases a2 : w = 2
      · rw [if_pos a2]
        refine own_bind (P := fun y => own_PP s y 6) ?_ (fun y hy => ⟨_, rfl, Or.inr ⟨c, rfl, by rw [if_neg (by rw [a2]; decide), if_neg a1]; exact hy⟩⟩)
        unfold j_loadMarchCMinus
        refine own_bind (own_pel hx (by decide) (by decide) (by decide) (by decide) (by decide)) fun y1 h1 => ?_
        refine own_bind (own_pel h1 (by decide) (by decide) (by decide) (by decide) (by decide)) fun y2 h2 => ?_
        refine own_bind (own_pel h2 (by decide) (by decide) (by decide) (by decide) (by decide)) fun y3 h3 => ?_
        refine own_bind (own_pel h3 (by decide) (by decide) (by decide) (by decide) (by decide)) fun y4 h4 => ?_
        refine own_bind (own_pel h4 (by decide) (by decide) (by decide) (by decide) (by decide)) fun y5 h5 => ?_
        refine own_bind (own_pel h5 (by decide) (by decide) (by decide) (by decide) (by decide)) fun y6 h6 => ?_
        exact ⟨_, rfl, h6⟩
      · rw [if_neg a2]
        by_cases a3 : w = 3
        · rw [if_pos a3]
          refine own_bind (P := fun y => own_PP s y 6) ?_ (fun y hy => ⟨_, rfl, Or.inr ⟨c, rfl, by rw [if_neg (by rw [a3]; decide), if_neg a1]; exact hy⟩⟩)
          unfold j_loadMarchCrb
          refine own_bind (own_pel hx (by decide) (by decide) (by decide) (by decide) (by decide)) fun y1 h1 => ?_
          refine own_bind (own_pel h1 (by decide) (by decide) (by decide) (by decide) (by decide)) fun y2 h2 => ?_
          refine own_bind (own_pel h2 (by decide) (by decide) (by decide) (by decide) (by decide)) fun y3 h3 => ?_
          refine own_bind (own_pel h3 (by decide) (by decide) (by decide) (by decide) (by decide)) fun y4 h4 => ?_
          refine own_bind (own_pel h4 (by decide) (by decide) (by decide) (by decide) (by decide)) fun y5 h5 => ?_
          refine own_bind (own_pel h5 (by decide) (by decide) (by decide) (by decide) (by decide)) fun y6 h6 => ?_
          exact ⟨_, rfl, h6⟩
        · rw [if_neg a3]
          have w00 : w = 0 := by
            have n1 : ¬ w.toInt = 1 := fun z => a1 (Int32.toInt_inj.mp z)
            have n2 : ¬ w.toInt = 2 := fun z => a2 (Int32.toInt_inj.mp z)
            have n3 : ¬ w.toInt = 3 := fun z => a3 (Int32.toInt_inj.mp z)
            exact Int32.toInt_inj.mp (by simp only [Int32.reduceToInt]; omega)
          exact ⟨_, rfl, Or.inr ⟨c, rfl, by rw [if_pos w00]; exact hx⟩⟩

/-- row i fails and has no spare -/
def own_nd (f : Int32) (m : List Int32) (i : Nat) : Bool := decide (¬ (isr f (Int32.ofNat i) &&& 1 = 0) ∧ rd m (Int32.ofNat i) < 0)
theorem own_ifu {s : Q} {i : Nat} (hI : own_I s) (hi : i < 16) : j_isFailingUnmapped s (Int32.ofNat i) = some (if own_nd s.f_failMask s.f_remap i = true then 1 else 0) := by
  have rl : s.f_remap.length = 16 := hI.1.2.2.2.2.2.2.2.2.2.2.2.1
  unfold j_isFailingUnmapped own_nd
  rw [if_neg (by rw [lt32, own_n2i (by omega)]; simp only [Int32.reduceToInt]; omega), if_neg (by rw [lt32, own_n2i (by omega)]; simp only [Int32.reduceToInt]; omega), rl, if_pos (own_inbN hi (by decide))]
  simp only [decide_eq_true_eq]
  by_cases a : isr s.f_failMask (Int32.ofNat i) &&& 1 = 0
  · rw [if_pos a, if_neg (fun z => z.1 a)]
  · rw [if_neg a]
    by_cases b : rd s.f_remap (Int32.ofNat i) < 0
    · rw [if_pos b, if_pos ⟨a, b⟩]
    · rw [if_neg b, if_neg (fun z => b z.2)]
/-- how many of f i .. f (15) are true -/
def own_tl (f : Nat → Bool) : Nat → Nat → Nat
  | 0, _ => 0
  | m + 1, i => (if f i = true then 1 else 0) + own_tl f m (i + 1)
theorem own_tlc (f : Nat → Bool) : ∀ (m i : Nat), own_ct f i + own_tl f m i = own_ct f (i + m) := by
  intro m
  induction m with
  | zero => intro i; rfl
  | succ m ih =>
    intro i
    have := ih (i + 1)
    rw [show i + (m + 1) = i + 1 + m from by omega, ← this]
    exact (Nat.add_assoc _ _ _).symm
theorem own_cfl {s : Q} (hI : own_I s) : ∀ (m n i : Nat) (v : Int32), i + m = 16 → m < n → 0 ≤ v.toInt → v.toInt ≤ i → own_ok (j_countFailingUnmapped_l4 n s v (Int32.ofNat i)) (fun r => r.toInt = v.toInt + own_tl (own_nd s.f_failMask s.f_remap) m i) := by
  intro m
  induction m with
  | zero =>
    intro n i v h1 h2 h3 h4
    obtain ⟨n, rfl⟩ : ∃ n', n = n' + 1 := ⟨n - 1, by omega⟩
    have : i = 16 := by omega
    subst this
    rw [j_countFailingUnmapped_l4, if_neg (by decide)]
    exact ⟨_, rfl, by simp [own_tl]⟩
  | succ m ih =>
    intro n i v h1 h2 h3 h4
    obtain ⟨n, rfl⟩ : ∃ n', n = n' + 1 := ⟨n - 1, by omega⟩
    rw [j_countFailingUnmapped_l4, if_pos (show Int32.ofNat i < (16 : Int32) from (own_ltN (k := 16) (by omega) (by omega)).mpr (by omega)), own_ifu hI (by omega), Option.bind_some]
    unfold j_countFailingUnmapped_b21
    rw [own_succ]
    unfold own_tl
    by_cases c : own_nd s.f_failMask s.f_remap i = true
    · rw [if_pos c, if_neg (by decide), if_pos c]
      have e : (v + 1).toInt = v.toInt + 1 := own_inc (by omega) (by omega)
      refine own_mono (ih n (i + 1) (v + 1) (by omega) (by omega) (by omega) (by omega)) ?_
      intro r hr
      omega
    · rw [if_neg c, if_pos rfl, if_neg c]
      refine own_mono (ih n (i + 1) v (by omega) (by omega) (by omega) (by omega)) ?_
      intro r hr
      omega
def own_need (s : Q) : Nat := own_tl (own_nd s.f_failMask s.f_remap) 16 0
theorem own_cf {s : Q} (hI : own_I s) : own_ok (j_countFailingUnmapped s) (fun r => r.toInt = own_need s) := by
  unfold j_countFailingUnmapped
  refine own_bind (own_cfl hI 16 3000 0 0 rfl (by decide) (by decide) (by decide)) ?_
  intro r hr
  refine ⟨_, rfl, ?_⟩
  simp only [Int32.reduceToInt] at hr
  unfold own_need
  omega
theorem own_tkn {s : Q} (hI : own_I s) {i : Int32} (hi : inb 4 i = true) : rd s.f_spareTaken i = 0 ∨ rd s.f_spareTaken i = 1 := by
  have := hI.2.2.2.2.1.2.1 i hi
  have : (rd s.f_spareTaken i).toInt = 0 ∨ (rd s.f_spareTaken i).toInt = 1 := by omega
  rcases this with e | e
  · exact Or.inl (Int32.toInt_inj.mp e)
  · exact Or.inr (Int32.toInt_inj.mp e)
theorem own_cfs {s : Q} (hI : own_I s) : own_ok (j_countFreeSpares s) (fun r => r.toInt = 2 - (rd s.f_spareTaken 0).toInt - (rd s.f_spareTaken 1).toInt) := by
  have sr : s.f_spareRows = 2 := hI.2.1.1
  have sl : s.f_spareTaken.length = 4 := hI.1.2.2.2.2.2.2.2.2.2.2.2.2
  have i0 : inb 4 0 = true := rfl
  have i1 : inb 4 1 = true := rfl
  unfold j_countFreeSpares
  rw [j_countFreeSpares_l4, sr, if_pos (by decide), if_pos (by decide), sl, if_pos i0]
  unfold j_countFreeSpares_b29
  rw [show (0 : Int32) + 1 = 1 from rfl, j_countFreeSpares_l4, sr, if_pos (by decide), if_pos (by decide), sl, if_pos i1]
  unfold j_countFreeSpares_b29
  rw [show (1 : Int32) + 1 = 2 from rfl, j_countFreeSpares_l4, sr, if_neg (by decide), Option.bind_some]
  refine ⟨_, rfl, ?_⟩
  rcases own_tkn hI i0 with a | a <;> rcases own_tkn hI i1 with b | b <;> rw [a, b] <;> decide
theorem own_lfs {s : Q} (hI : own_I s) (h : (rd s.f_spareTaken 0).toInt + (rd s.f_spareTaken 1).toInt ≤ 1) : ∃ p, (p = 0 ∨ p = 1) ∧ rd s.f_spareTaken p = 0 ∧ j_leastFreeSpare s = some p := by
  have sr : s.f_spareRows = 2 := hI.2.1.1
  have sl : s.f_spareTaken.length = 4 := hI.1.2.2.2.2.2.2.2.2.2.2.2.2
  have i0 : inb 4 0 = true := rfl
  have i1 : inb 4 1 = true := rfl
  unfold j_leastFreeSpare
  rw [j_leastFreeSpare_l2, sr, if_pos (by decide), if_pos (by decide), sl, if_pos i0]
  rcases own_tkn hI i0 with a | a
  · rw [if_pos a, Option.bind_some, Sum.elim_inl]
    exact ⟨0, Or.inl rfl, a, rfl⟩
  · have b : rd s.f_spareTaken 1 = 0 := by
      rcases own_tkn hI i1 with b | b
      · exact b
      · rw [a, b] at h; exact absurd h (by decide)
    rw [if_neg (by rw [a]; decide), show (0 : Int32) + 1 = 1 from rfl, j_leastFreeSpare_l2, sr, if_pos (by decide), if_pos (by decide), sl, if_pos i1, if_pos b, Option.bind_some, Sum.elim_inl]
    exact ⟨1, Or.inr rfl, b, rfl⟩
theorem own_asl {s : Q} {p : Int32} (hp : p = 256 ∨ p = 272) : ∀ (n : Nat) (x : List Int32) (i : Int32), x.length = 320 → own_01 x 320 → 0 ≤ i.toInt → i.toInt ≤ 16 → 16 - i.toInt < n → own_ok (j_assignSpare_l46 n (s.s_cells x) p i) (fun s' => ∃ y, s' = s.s_cells y ∧ y.length = 320 ∧ own_01 y 320) := by
  intro n
  induction n with
  | zero => intro x i _ _ h0 h1 h2; omega
  | succ n ih =>
    intro x i hx hx1 h0 h1 hn
    rw [j_assignSpare_l46]
    by_cases c : i < 16
    · rw [if_pos c]
      rw [lt32] at c
      simp only [Int32.reduceToInt] at c
      have ei : (i + 1).toInt = i.toInt + 1 := own_inc (by omega) (by omega)
      have ep : (p + i).toInt = p.toInt + i.toInt ∧ 256 ≤ p.toInt ∧ p.toInt ≤ 272 := by
        rcases hp with e | e <;> rw [e] <;> refine ⟨?_, by decide, by decide⟩ <;> rw [own_add] <;> simp only [Int32.reduceToInt] <;> omega
      have j1 : inb 320 (p + i) = true := inb_iff.mpr (by omega)
      have e5 : (s.s_cells x).f_cells = x := by simp only [own_Qa]
      rw [e5, hx, if_pos j1, show i8 0 = 0 from rfl, ← own_e_cells, own_cc]
      exact ih _ (i + 1) (by rw [len_wr, hx]) (own_01_wr hx1 hx j1 (Or.inl rfl)) (by omega) (by omega) (by omega)
    · rw [if_neg c]; exact ⟨_, rfl, x, rfl, hx, hx1⟩
/-- a state after rows were mapped -/
def own_MU (s : Q) (x m t : List Int32) : Q := ((s.s_cells x).s_remap m).s_spareTaken t
theorem own_mpw {m : List Int32} {r : Nat} {v : Int32} (hl : m.length = 16) (hr : r < 16) (i : Nat) (hi : i < 16) : own_mp (wr m (Int32.ofNat r) v) i = if i = r then decide (¬ v < 0) else own_mp m i := by
  unfold own_mp
  have ir := own_inbN (n := 16) hr (by decide)
  have ii := own_inbN (n := 16) hi (by decide)
  by_cases e : i = r
  · subst e
    rw [if_pos rfl, rd_wr_same (by rw [hl]; exact ir)]
  · rw [if_neg e, rd_wr_ne (inb_nn ir) (inb_nn ii) (fun z => by
      have z' := congrArg Int32.toInt z
      rw [own_n2i (by omega), own_n2i (by omega)] at z'
      omega)]
theorem own_cte {f g : Nat → Bool} : ∀ n : Nat, (∀ i, i < n → f i = g i) → own_ct f n = own_ct g n := by
  intro n
  induction n with
  | zero => intro _; rfl
  | succ n ih =>
    intro h
    unfold own_ct
    rw [ih (fun i hi => h i (by omega)), h n (by omega)]
theorem own_ctu {f g : Nat → Bool} {r : Nat} (hf : f r = false) (hg : g r = true) : ∀ n : Nat, (∀ i, i < n → ¬ i = r → f i = g i) → own_ct g n = own_ct f n + (if r < n then 1 else 0) := by
  intro n
  induction n with
  | zero => intro _; rfl
  | succ n ih =>
    intro h
    unfold own_ct
    rw [ih (fun i hi => h i (by omega))]
    by_cases e : n = r
    · subst e
      rw [hf, hg, if_neg (Nat.lt_irrefl n), if_pos (Nat.lt_succ_self n), if_pos rfl, if_neg (by decide)]
    · rw [h n (by omega) e]
      by_cases l : r < n
      · rw [if_pos l, if_pos (show r < n + 1 from by omega)]; omega
      · rw [if_neg l, if_neg (show ¬ r < n + 1 from by omega)]; omega
theorem own_as {s : Q} {r : Nat} {p : Int32} (hI : own_I s) (hr : r < 16) (hn : rd s.f_remap (Int32.ofNat r) < 0) (hp : p = 0 ∨ p = 1) (ht : rd s.f_spareTaken p = 0) : own_ok (j_assignSpare s (Int32.ofNat r) p) (fun s' => own_I s' ∧ (∃ x t, s' = own_MU s x (wr s.f_remap (Int32.ofNat r) p) t) ∧ (rd s'.f_spareTaken 0).toInt + (rd s'.f_spareTaken 1).toInt = (rd s.f_spareTaken 0).toInt + (rd s.f_spareTaken 1).toInt + 1) := by
  have hI0 := hI
  obtain ⟨⟨x1, x2, x3, x4, x5, x6, x7, x8, x9, x10, x11, x12, x13⟩, b2, b3, b4, ⟨r1, r2, r3⟩, b6⟩ := hI
  have ir := own_inbN (n := 16) hr (by decide)
  have ip : inb 4 p = true := by rcases hp with e | e <;> rw [e] <;> rfl
  unfold j_assignSpare
  rw [if_neg (by rw [lt32, own_n2i (by omega)]; simp only [Int32.reduceToInt]; omega), if_neg (by rw [lt32, own_n2i (by omega)]; simp only [Int32.reduceToInt]; omega), if_neg (by rcases hp with e | e <;> rw [e] <;> decide), if_neg (by rcases hp with e | e <;> rw [e] <;> decide), x12, x13, if_pos ir, if_pos ip]
  have pb : 256 + 16 * p = 256 ∨ 256 + 16 * p = 272 := by
    rcases hp with e | e <;> rw [e]
    · exact Or.inl rfl
    · exact Or.inr rfl
  have A := own_asl (s := (s.s_remap (wr s.f_remap (Int32.ofNat r) p)).s_spareTaken (wr s.f_spareTaken p 1)) pb 3000 s.f_cells 0 x1 b6.1 (by decide) (by decide) (by decide)
  have e0 : (((s.s_remap (wr s.f_remap (Int32.ofNat r) p)).s_spareTaken (wr s.f_spareTaken p 1)).s_cells s.f_cells) = ((s.s_remap (wr s.f_remap (Int32.ofNat r) p)).s_spareTaken (wr s.f_spareTaken p 1)) := by simp only [own_Qa]
  rw [e0] at A
  simp only [own_Qa] at A
  refine own_bind A ?_
  rintro y ⟨x, ey, y1, y2⟩
  have ey' : y = own_MU s x (wr s.f_remap (Int32.ofNat r) p) (wr s.f_spareTaken p 1) := by
    rw [ey]; unfold own_MU; simp only [own_Qa]
  have tk : (rd (wr s.f_spareTaken p 1) 0).toInt + (rd (wr s.f_spareTaken p 1) 1).toInt = (rd s.f_spareTaken 0).toInt + (rd s.f_spareTaken 1).toInt + 1 := by
    rcases hp with e | e
    · subst e
      rw [rd_wr_same (by rw [x13]; exact ip), rd_wr_ne (by decide) (by decide) (by decide), ht]
      simp only [Int32.reduceToInt]; omega
    · subst e
      rw [rd_wr_same (by rw [x13]; exact ip), rd_wr_ne (by decide) (by decide) (by decide), ht]
      simp only [Int32.reduceToInt]; omega
  refine ⟨_, rfl, ?_, ⟨x, _, ey'⟩, ?_⟩
  · rw [ey']
    unfold own_MU
    refine ⟨?_, ?_, ?_, ?_, ?_, ?_⟩
    · unfold own_L1
      simp only [own_Qa, len_wr]
      exact ⟨y1, x2, x3, x4, x5, x6, x7, x8, x9, x10, x11, x12, x13⟩
    · unfold own_L2 at b2 ⊢
      simp only [own_Qa]; exact b2
    · unfold own_F1 at b3 ⊢
      simp only [own_Qa]; exact b3
    · unfold own_P1 at b4 ⊢
      simp only [own_Qa]; exact b4
    · unfold own_R1
      simp only [own_Qa]
      refine ⟨?_, own_rg_wr r2 x13 ip (by decide) (by decide), ?_⟩
      · intro i hi
        by_cases e : Int32.ofNat r = i
        · subst e
          rw [rd_wr_same (by rw [x12]; exact ir)]; exact Or.inr hp
        · rw [rd_wr_ne (inb_nn ir) (inb_nn hi) e]; exact r1 i hi
      · rw [tk, ← r3]
        have u := own_ctu (f := own_mp s.f_remap) (g := own_mp (wr s.f_remap (Int32.ofNat r) p)) (r := r) (by unfold own_mp; exact decide_eq_false (fun z => z hn)) (by
          rw [own_mpw x12 hr r hr, if_pos rfl]
          rcases hp with e | e <;> rw [e] <;> decide) 16 (fun i hi ne => by rw [own_mpw x12 hr i hi, if_neg ne])
        rw [u, if_pos hr]
        omega
    · unfold own_D1 at b6 ⊢
      simp only [own_Qa]; exact ⟨y2, b6.2⟩
  · rw [ey']
    unfold own_MU
    simp only [own_Qa]
    exact tk

theorem own_ndw {f : Int32} {m : List Int32} {r : Nat} {v : Int32} (hl : m.length = 16) (hr : r < 16) (hv : ¬ v < 0) (i : Nat) (hi : i < 16) : own_nd f (wr m (Int32.ofNat r) v) i = if i = r then false else own_nd f m i := by
  unfold own_nd
  have ir := own_inbN (n := 16) hr (by decide)
  have ii := own_inbN (n := 16) hi (by decide)
  by_cases e : i = r
  · subst e
    rw [if_pos rfl, rd_wr_same (by rw [hl]; exact ir)]
    exact decide_eq_false (fun z => hv z.2)
  · rw [if_neg e, rd_wr_ne (inb_nn ir) (inb_nn ii) (fun z => by
      have z' := congrArg Int32.toInt z
      rw [own_n2i (by omega), own_n2i (by omega)] at z'
      omega)]
theorem own_tle {f g : Nat → Bool} : ∀ (m i : Nat), (∀ j, i ≤ j → j < i + m → f j = g j) → own_tl f m i = own_tl g m i := by
  intro m
  induction m with
  | zero => intro i _; rfl
  | succ m ih =>
    intro i h
    unfold own_tl
    rw [h i (by omega) (by omega), ih (i + 1) (fun j a b => h j (by omega) (by omega))]
theorem own_MM (s : Q) (x m t x' m' t' : List Int32) : own_MU (own_MU s x m t) x' m' t' = own_MU s x' m' t' := by
  unfold own_MU
  simp only [own_Qa]
theorem own_rpl {s0 : Q} {v1 : Int32} : ∀ (k n i : Nat) (s : Q), i + k = 16 → k < n → own_I s → (∃ x m t, s = own_MU s0 x m t) → (own_tl (own_nd s.f_failMask s.f_remap) k i : Int) + (rd s.f_spareTaken 0).toInt + (rd s.f_spareTaken 1).toInt ≤ 2 → (∀ j, j < i → own_nd s.f_failMask s.f_remap j = false) → own_ok (j_repair_l20 n s v1 (Int32.ofNat i)) (fun r => ∃ s', r = .inr (v1, s') ∧ own_I s' ∧ (∃ x m t, s' = own_MU s0 x m t) ∧ (∀ j, j < 16 → own_nd s'.f_failMask s'.f_remap j = false) ∧ (rd s'.f_spareTaken 0).toInt + (rd s'.f_spareTaken 1).toInt = (own_tl (own_nd s.f_failMask s.f_remap) k i : Int) + (rd s.f_spareTaken 0).toInt + (rd s.f_spareTaken 1).toInt) := by
  intro k
  induction k with
  | zero =>
    intro n i s h1 h2 hI hM hle hz
    obtain ⟨n, rfl⟩ : ∃ n', n = n' + 1 := ⟨n - 1, by omega⟩
    have : i = 16 := by omega
    subst this
    rw [j_repair_l20, if_neg (by decide)]
    exact ⟨_, rfl, s, rfl, hI, hM, hz, by simp [own_tl]⟩
  | succ k ih =>
    intro n i s h1 h2 hI hM hle hz
    obtain ⟨n, rfl⟩ : ∃ n', n = n' + 1 := ⟨n - 1, by omega⟩
    rw [j_repair_l20, if_pos (show Int32.ofNat i < (16 : Int32) from (own_ltN (k := 16) (by omega) (by omega)).mpr (by omega)), own_ifu hI (by omega), Option.bind_some]
    unfold j_repair_b54
    rw [own_succ]
    have st : own_tl (own_nd s.f_failMask s.f_remap) (k + 1) i = (if own_nd s.f_failMask s.f_remap i = true then 1 else 0) + own_tl (own_nd s.f_failMask s.f_remap) k (i + 1) := rfl
    by_cases c : own_nd s.f_failMask s.f_remap i = true
    · rw [if_pos c] at st
      rw [if_pos c, if_neg (by decide)]
      have hi : i < 16 := by omega
      have tk0 := hI.2.2.2.2.1.2.1 0 rfl
      have tk1 := hI.2.2.2.2.1.2.1 1 rfl
      obtain ⟨p, p1, p2, p3⟩ := own_lfs hI (by rw [st] at hle; omega)
      have pn : ¬ p < 0 := by rcases p1 with e | e <;> rw [e] <;> decide
      rw [p3, Option.bind_some, if_neg pn]
      have cn : rd s.f_remap (Int32.ofNat i) < 0 := by
        unfold own_nd at c
        exact (of_decide_eq_true c).2
      have rl : s.f_remap.length = 16 := hI.1.2.2.2.2.2.2.2.2.2.2.2.1
      refine own_bind (own_as hI hi cn p1 p2) ?_
      rintro y ⟨y1, ⟨x, t, y2⟩, y3⟩
      have f1 : y.f_failMask = s.f_failMask := by rw [y2]; unfold own_MU; simp only [own_Qa]
      have f2 : y.f_remap = wr s.f_remap (Int32.ofNat i) p := by rw [y2]; unfold own_MU; simp only [own_Qa]
      have te : own_tl (own_nd y.f_failMask y.f_remap) k (i + 1) = own_tl (own_nd s.f_failMask s.f_remap) k (i + 1) := own_tle k (i + 1) (fun j a b => by
        rw [f1, f2, own_ndw rl hi pn j (by omega), if_neg (by omega)])
      refine own_mono (ih n (i + 1) y (by omega) (by omega) y1 ?_ ?_ ?_) ?_
      · obtain ⟨x', m', t', e⟩ := hM
        exact ⟨x, _, t, by rw [y2, e, own_MM]⟩
      · rw [te]; rw [st] at hle; omega
      · intro j hj
        rw [f1, f2, own_ndw rl hi pn j (by omega)]
        by_cases e : j = i
        · rw [if_pos e]
        · rw [if_neg e]; exact hz j (by omega)
      · rintro r ⟨s', e1, e2, e3, e4, e5⟩
        refine ⟨s', e1, e2, e3, e4, ?_⟩
        rw [e5, te, st]
        omega
    · have c' : own_nd s.f_failMask s.f_remap i = false := by simpa using c
      rw [if_neg c] at st
      rw [if_neg c, if_pos rfl]
      refine own_mono (ih n (i + 1) s (by omega) (by omega) hI hM (by rw [st] at hle; omega) ?_) ?_
      · intro j hj
        by_cases e : j = i
        · rw [e]; exact c'
        · exact hz j (by omega)
      · rintro r ⟨s', e1, e2, e3, e4, e5⟩
        refine ⟨s', e1, e2, e3, e4, ?_⟩
        rw [e5, st]
        omega
theorem own_tl0 {f : Nat → Bool} : ∀ (m i : Nat), (∀ j, i ≤ j → j < i + m → f j = false) → own_tl f m i = 0 := by
  intro m
  induction m with
  | zero => intro i _; rfl
  | succ m ih =>
    intro i h
    unfold own_tl
    rw [h i (by omega) (by omega), ih (i + 1) (fun j a b => h j (by omega) (by omega))]
    rfl
/-- repair: refused, or so many rows newly mapped as were needed -/
theorem own_rep {s : Q} (hI : own_I s) : own_ok (j_repair s) (fun r => (r = (-11, s)) ∨ (r.1.toInt = own_need s ∧ own_I r.2 ∧ (∃ x m t, r.2 = own_MU s x m t) ∧ own_need r.2 = 0 ∧ (own_ct (own_mp r.2.f_remap) 16 : Int) = own_ct (own_mp s.f_remap) 16 + own_need s)) := by
  have tk0 := hI.2.2.2.2.1.2.1 0 rfl
  have tk1 := hI.2.2.2.2.1.2.1 1 rfl
  have r3 := hI.2.2.2.2.1.2.2
  unfold j_repair
  refine own_bind (own_cf hI) fun a ha => ?_
  refine own_bind (own_cfs hI) fun b hb => ?_
  by_cases c : b < a
  · rw [if_pos c]; exact ⟨_, rfl, Or.inl rfl⟩
  · rw [if_neg c]
    rw [lt32] at c
    have z := own_rpl (s0 := s) (v1 := a) 16 3000 0 s rfl (by decide) hI ⟨s.f_cells, s.f_remap, s.f_spareTaken, by unfold own_MU; simp only [own_Qa]; exact (own_eta s).symm⟩ (by unfold own_need at ha; omega) (fun j hj => absurd hj (Nat.not_lt_zero j))
    refine own_bind z ?_
    rintro r ⟨s', e1, e2, e3, e4, e5⟩
    subst e1
    rw [Sum.elim_inr]
    refine ⟨_, rfl, Or.inr ⟨ha, e2, e3, own_tl0 16 0 (fun j _ hj => e4 j (by omega)), ?_⟩⟩
    have r3' := e2.2.2.2.2.1.2.2
    show (own_ct (own_mp s'.f_remap) 16 : Int) = _
    rw [r3', e5, r3]
    unfold own_need
    omega

theorem own_rem {x y : Int32} (h0 : 0 ≤ x.toInt) (h1 : 0 < y.toInt) : 0 ≤ (x % y).toInt ∧ (x % y).toInt < y.toInt := by
  rw [Int32.toInt_mod, Int.tmod_eq_emod_of_nonneg h0]
  exact ⟨Int.emod_nonneg _ (by omega), Int.emod_lt_of_pos _ h1⟩

def own_fin (r : Q ⊕ (Q ⊕ (Q ⊕ (Q ⊕ (Q ⊕ (Q ⊕ (Q ⊕ (Q ⊕ (Q ⊕ (Q ⊕ (Q ⊕ (Q ⊕ (Q ⊕ (Q ⊕ (Q ⊕ (Q ⊕ (Q ⊕ (Q ⊕ (Q ⊕ (Q ⊕ (Q))))))))))))))))))))) : Prop := ∃ q, r = .inr (.inr (.inr (.inr (.inr (.inr (.inr (.inr (.inr (.inr (.inr (.inr (.inr (.inr (.inr (.inr (.inr (.inr (.inr (.inr (q))))))))))))))))))))
def own_LL (v2 v3 v4 v5 v6 v7 v8 : Int32) (s : Q) : Prop := own_I s ∧ s.f_faultCount = v2 ∧ s.f_programLength = v3 ∧ v4.toInt = own_ct (own_mp s.f_remap) 16 ∧ s.f_logLength = v5 ∧ s.f_latchBit = v6 ∧ s.f_failMask = v7 ∧ (v8 = 0 ∨ (v8 = 1 ∧ own_need s = 0))
theorem own_w256 : ∀ v : Fin 256, 0 ≤ (ish (Int32.ofNat v.val) 4).toInt ∧ 0 ≤ (ish (Int32.ofNat v.val) 12).toInt := by decide +kernel
theorem own_w4 : ∀ v : Fin 4, 0 ≤ (ish (Int32.ofNat v.val) 20).toInt := by decide
theorem own_w2 : ∀ v : Fin 2, 0 ≤ (ish (Int32.ofNat v.val) 16).toInt := by decide
theorem own_w5 : ∀ v : Fin 5, 0 ≤ (ish (Int32.ofNat v.val) 8).toInt := by decide
theorem own_fi {s : Q} {i : Int32} (hI : own_I s) (h0 : 0 ≤ i.toInt) (h1 : i.toInt < s.f_faultCount.toInt) : ∃ w, j_faultInfo s i = some w ∧ 0 ≤ w.toInt := by
  obtain ⟨⟨x1, x2, x3, x4, x5, x6, x7, x8, x9, x10, x11, x12, x13⟩, _, ⟨f1, f2, f3, f4, f5, f6⟩, _, _, _⟩ := hI
  have ii : inb 16 i = true := inb_iff.mpr (by omega)
  unfold j_faultInfo j_isFaultNumber
  rw [if_neg (show ¬ i < 0 from by rw [lt32]; simp only [Int32.reduceToInt]; omega), if_pos (show i < s.f_faultCount from by rw [lt32]; exact h1), if_pos (show i < 16 from by rw [lt32]; simp only [Int32.reduceToInt]; omega), if_neg (show ¬ (1 : Int32) = 0 from by decide), x2, x3, x4, x5, if_pos ii, if_pos ii, if_pos ii, if_pos ii]
  refine ⟨_, rfl, ?_⟩
  have a := f2 i ii
  have b := f3 i ii
  have c := f4 i ii
  have d := f5 i ii
  obtain ⟨ib, eb⟩ := own_fin256 b.1 (by omega)
  obtain ⟨ic, ec⟩ := own_fin256 c.1 (by omega)
  obtain ⟨id, ed⟩ := own_fN (n := 4) (by decide) d.1 (by omega)
  refine own_or_nn (own_or_nn (own_or_nn a.1 ?_) ?_) ?_
  · rw [eb]; exact (own_w256 ib).1
  · rw [ec]; exact (own_w256 ic).2
  · rw [ed]; exact own_w4 id
theorem own_fi0 {s : Q} (hI : own_I s) : j_faultInfo s s.f_faultCount = some (-1) := by
  have f1 := hI.2.2.1.1
  unfold j_faultInfo j_isFaultNumber
  rw [if_neg (show ¬ s.f_faultCount < 0 from by rw [lt32]; simp only [Int32.reduceToInt]; omega), if_neg (show ¬ s.f_faultCount < s.f_faultCount from by rw [lt32]; omega), if_pos rfl]
theorem own_pe {s : Q} {i : Int32} (hI : own_I s) (h0 : 0 ≤ i.toInt) (h1 : i.toInt < s.f_programLength.toInt) : ∃ w, j_programElement s i = some w ∧ 0 ≤ w.toInt := by
  obtain ⟨⟨x1, x2, x3, x4, x5, x6, x7, x8, x9, x10, x11, x12, x13⟩, _, _, ⟨p1, p2, p3, p4⟩, _, _⟩ := hI
  have ii : inb 8 i = true := inb_iff.mpr (by omega)
  unfold j_programElement j_isElementIndex
  rw [if_neg (show ¬ i < 0 from by rw [lt32]; simp only [Int32.reduceToInt]; omega), if_pos (show i < s.f_programLength from by rw [lt32]; exact h1), if_pos (show i < 8 from by rw [lt32]; simp only [Int32.reduceToInt]; omega), if_neg (show ¬ (1 : Int32) = 0 from by decide), x8, x9, x10, if_pos ii, if_pos ii, if_pos ii]
  refine ⟨_, rfl, ?_⟩
  have a := p2 i ii
  have b := p3 i ii
  have c := p4 i ii
  obtain ⟨ia, ea⟩ := own_fN (n := 2) (by decide) a.1 (by omega)
  obtain ⟨ib, eb⟩ := own_fN (n := 5) (by decide) b.1 (by omega)
  refine own_or_nn (own_or_nn ?_ ?_) c.1
  · rw [ea]; exact own_w2 ia
  · rw [eb]; exact own_w5 ib
theorem own_pe0 {s : Q} (hI : own_I s) : j_programElement s s.f_programLength = some (-1) := by
  have f1 := hI.2.2.2.1.1
  unfold j_programElement j_isElementIndex
  rw [if_neg (show ¬ s.f_programLength < 0 from by rw [lt32]; simp only [Int32.reduceToInt]; omega), if_neg (show ¬ s.f_programLength < s.f_programLength from by rw [lt32]; omega), if_pos rfl]
theorem own_le {s : Q} {i : Int32} (hI : own_I s) (h0 : 0 ≤ i.toInt) (h1 : i.toInt < s.f_logLength.toInt) : ∃ w, j_logEntry s i = some w ∧ 0 ≤ w.toInt := by
  obtain ⟨⟨x1, x2, x3, x4, x5, x6, x7, x8, x9, x10, x11, x12, x13⟩, _, _, _, _, ⟨d1, d2, d3, d4⟩⟩ := hI
  have ii : inb 32 i = true := inb_iff.mpr (by omega)
  unfold j_logEntry
  rw [if_neg (show ¬ i < 0 from by rw [lt32]; simp only [Int32.reduceToInt]; omega), if_pos (show i < s.f_logLength from by rw [lt32]; exact h1), if_pos (show i < 32 from by rw [lt32]; simp only [Int32.reduceToInt]; omega), x11, if_pos ii]
  exact ⟨_, rfl, (d3 i ii).1⟩
theorem own_le0 {s : Q} (hI : own_I s) : j_logEntry s s.f_logLength = some (-1) := by
  have f1 := hI.2.2.2.2.2.2.2.2
  unfold j_logEntry
  rw [if_neg (show ¬ s.f_logLength < 0 from by rw [lt32]; simp only [Int32.reduceToInt]; omega), if_neg (show ¬ s.f_logLength < s.f_logLength from by rw [lt32]; omega)]
theorem own_881 {s : Q} (hI : own_I s) (scr : List Int32) (v2 v3 v4 v5 v6 v7 v8 v9 : Int32) : ∀ (m n i : Nat) (c : Int32), i + m = 16 → m < n → c.toInt = own_ct (own_mp s.f_remap) i → own_ok (law_l881 n s scr v2 v3 v4 v5 v6 v7 v8 v9 c (Int32.ofNat i)) (fun r => ∃ c', r = (v2, v3, v4, v5, v6, v7, v8, v9, c') ∧ c'.toInt = own_ct (own_mp s.f_remap) 16) := by
  have rl : s.f_remap.length = 16 := hI.1.2.2.2.2.2.2.2.2.2.2.2.1
  have bd : ∀ i : Nat, own_ct (own_mp s.f_remap) i ≤ i := by
    intro i
    induction i with
    | zero => exact Nat.le_refl 0
    | succ i ih =>
      unfold own_ct
      split <;> omega
  intro m
  induction m with
  | zero =>
    intro n i c h1 h2 h3
    obtain ⟨n, rfl⟩ : ∃ n', n = n' + 1 := ⟨n - 1, by omega⟩
    have : i = 16 := by omega
    subst this
    rw [law_l881, if_neg (by decide)]
    exact ⟨_, rfl, c, rfl, h3⟩
  | succ m ih =>
    intro n i c h1 h2 h3
    obtain ⟨n, rfl⟩ : ∃ n', n = n' + 1 := ⟨n - 1, by omega⟩
    have bi := bd i
    have rmv : j_rowMap s (Int32.ofNat i) = some (rd s.f_remap (Int32.ofNat i)) := by
      unfold j_rowMap
      rw [if_neg (by rw [lt32, own_n2i (by omega)]; simp only [Int32.reduceToInt]; omega), if_neg (by rw [lt32, own_n2i (by omega)]; simp only [Int32.reduceToInt]; omega), rl, if_pos (own_inbN (by omega) (by decide))]
    rw [law_l881, if_pos (show Int32.ofNat i < (16 : Int32) from (own_ltN (k := 16) (by omega) (by omega)).mpr (by omega)), rmv, Option.bind_some]
    unfold law_b900
    rw [own_succ]
    have st : own_ct (own_mp s.f_remap) (i + 1) = own_ct (own_mp s.f_remap) i + (if own_mp s.f_remap i = true then 1 else 0) := rfl
    by_cases q : rd s.f_remap (Int32.ofNat i) < 0
    · rw [if_pos q]
      rw [if_neg (by unfold own_mp; simp only [decide_eq_true_eq]; exact fun z => z q)] at st
      exact ih n (i + 1) c (by omega) (by omega) (by omega)
    · rw [if_neg q]
      rw [if_pos (by unfold own_mp; exact decide_eq_true q)] at st
      have e : (c + 1).toInt = c.toInt + 1 := own_inc (by omega) (by omega)
      exact ih n (i + 1) (c + 1) (by omega) (by omega) (by omega)
theorem own_mp2 {s : Q} (hI : own_I s) : (own_ct (own_mp s.f_remap) 16 : Int) ≤ 2 := by
  have tk0 := hI.2.2.2.2.1.2.1 0 rfl
  have tk1 := hI.2.2.2.2.1.2.1 1 rfl
  have r3 := hI.2.2.2.2.1.2.2
  omega
theorem own_775 {go_ : Q → List Int32 → Int32 → Int32 → Int32 → Int32 → Int32 → Int32 → Int32 → Int32 → Option (Q ⊕ (Q ⊕ (Q ⊕ (Q ⊕ (Q ⊕ (Q ⊕ (Q ⊕ (Q ⊕ (Q ⊕ (Q ⊕ (Q ⊕ (Q ⊕ (Q ⊕ (Q ⊕ (Q ⊕ (Q ⊕ (Q ⊕ (Q ⊕ (Q ⊕ (Q ⊕ (Q)))))))))))))))))))))} {s : Q} {scr : List Int32} {v2 v3 v4 v5 v6 v7 v8 v9 : Int32} (hL : own_LL v2 v3 v4 v5 v6 v7 v8 s) (go : own_ok (go_ s scr v2 v3 v4 v5 v6 v7 v8 (v9 + 4)) own_fin) : own_ok (law_b775 go_ s scr v2 v3 v4 v5 v6 v7 v8 v9) own_fin := by
  obtain ⟨hI, e2, e3, e4, e5, e6, e7, e8⟩ := hL
  have m2 := own_mp2 hI
  have b875 : own_ok (law_b875 go_ s scr v2 v3 v4 v5 v6 v7 v8 v9) own_fin := by
    unfold law_b875
    refine own_bind (own_881 hI scr v2 v3 v4 v5 v6 v7 v8 v9 16 3000 0 0 rfl (by decide) rfl) ?_
    rintro r ⟨c, e, hc⟩
    subst e
    simp only
    rw [if_pos (Int32.toInt_inj.mp (by omega)), if_neg (by rw [lt32]; simp only [Int32.reduceToInt]; omega)]
    exact go
  have b847 : own_ok (law_b847 go_ s scr v2 v3 v4 v5 v6 v7 v8 v9) own_fin := by
    unfold law_b847
    have z := own_le0 hI
    rw [e5] at z
    rw [z, Option.bind_some, if_pos rfl]
    by_cases q : 0 < v5
    · rw [if_pos q]
      rw [lt32] at q
      simp only [Int32.reduceToInt] at q
      have lb := hI.2.2.2.2.2.2.2.2
      rw [e5] at lb
      have es : (v5 - 1).toInt = v5.toInt - 1 := by rw [own_sub] <;> simp only [Int32.reduceToInt] <;> omega
      obtain ⟨w, h1, h2⟩ := own_le (i := v5 - 1) hI (by omega) (by rw [e5]; omega)
      rw [h1, Option.bind_some, if_neg (by rw [lt32]; simp only [Int32.reduceToInt]; omega)]
      exact b875
    · rw [if_neg q]; exact b875
  have b821 : own_ok (law_b821 go_ s scr v2 v3 v4 v5 v6 v7 v8 v9) own_fin := by
    unfold law_b821
    have z := own_pe0 hI
    rw [e3] at z
    rw [z, Option.bind_some, if_pos rfl]
    by_cases q : 0 < v3
    · rw [if_pos q]
      rw [lt32] at q
      simp only [Int32.reduceToInt] at q
      have lb := hI.2.2.2.1.1
      rw [e3] at lb
      have es : (v3 - 1).toInt = v3.toInt - 1 := by rw [own_sub] <;> simp only [Int32.reduceToInt] <;> omega
      obtain ⟨w, h1, h2⟩ := own_pe (i := v3 - 1) hI (by omega) (by rw [e3]; omega)
      rw [h1, Option.bind_some, if_neg (own_nn1 h2)]
      exact b847
    · rw [if_neg q]; exact b847
  unfold law_b775 j_latch j_failRows
  rw [if_pos e6, if_pos e7]
  have z := own_fi0 hI
  rw [e2] at z
  rw [z, Option.bind_some, if_pos rfl]
  by_cases q : 0 < v2
  · rw [if_pos q]
    rw [lt32] at q
    simp only [Int32.reduceToInt] at q
    have lb := hI.2.2.1.1
    rw [e2] at lb
    have es : (v2 - 1).toInt = v2.toInt - 1 := by rw [own_sub] <;> simp only [Int32.reduceToInt] <;> omega
    obtain ⟨w, h1, h2⟩ := own_fi (i := v2 - 1) hI (by omega) (by rw [e2]; omega)
    rw [h1, Option.bind_some, if_neg (own_nn1 h2)]
    exact b821
  · rw [if_neg q]; exact b821

theorem own_FUL {s : Q} {v2 v3 v4 v5 v6 v7 v8 c : Int32} {K V A T S U : List Int32} (hL : own_LL v2 v3 v4 v5 v6 v7 v8 s) (hI : own_I (own_FU s K V A T S U c)) : own_LL c v3 v4 v5 v6 v7 v8 (own_FU s K V A T S U c) := by
  obtain ⟨_, e2, e3, e4, e5, e6, e7, e8⟩ := hL
  refine ⟨hI, ?_, ?_, ?_, ?_, ?_, ?_, ?_⟩
  · unfold own_FU; simp only [own_Qa]
  · unfold own_FU; simp only [own_Qa]; exact e3
  · unfold own_FU; simp only [own_Qa]; exact e4
  · unfold own_FU; simp only [own_Qa]; exact e5
  · unfold own_FU; simp only [own_Qa]; exact e6
  · unfold own_FU; simp only [own_Qa]; exact e7
  · unfold own_need own_FU at *; simp only [own_Qa]; exact e8
theorem own_PUL {s : Q} {v2 v3 v4 v5 v6 v7 v8 c : Int32} {O C P : List Int32} (hL : own_LL v2 v3 v4 v5 v6 v7 v8 s) (hI : own_I (own_PU s O C P c)) : own_LL v2 c v4 v5 v6 v7 v8 (own_PU s O C P c) := by
  obtain ⟨_, e2, e3, e4, e5, e6, e7, e8⟩ := hL
  refine ⟨hI, ?_, ?_, ?_, ?_, ?_, ?_, ?_⟩
  · unfold own_PU; simp only [own_Qa]; exact e2
  · unfold own_PU; simp only [own_Qa]
  · unfold own_PU; simp only [own_Qa]; exact e4
  · unfold own_PU; simp only [own_Qa]; exact e5
  · unfold own_PU; simp only [own_Qa]; exact e6
  · unfold own_PU; simp only [own_Qa]; exact e7
  · unfold own_need own_PU at *; simp only [own_Qa]; exact e8
theorem own_op0 {go_ : Q → List Int32 → Int32 → Int32 → Int32 → Int32 → Int32 → Int32 → Int32 → Int32 → Option (Q ⊕ (Q ⊕ (Q ⊕ (Q ⊕ (Q ⊕ (Q ⊕ (Q ⊕ (Q ⊕ (Q ⊕ (Q ⊕ (Q ⊕ (Q ⊕ (Q ⊕ (Q ⊕ (Q ⊕ (Q ⊕ (Q ⊕ (Q ⊕ (Q ⊕ (Q ⊕ (Q)))))))))))))))))))))} {s : Q} {scr : List Int32} {v2 v3 v4 v5 v6 v7 v8 v9 : Int32} (hL : own_LL v2 v3 v4 v5 v6 v7 v8 s) (nx : ∀ (x : Q) (v2 v3 v4 v5 v6 v7 v8 : Int32), own_LL v2 v3 v4 v5 v6 v7 v8 x → own_ok (go_ x scr v2 v3 v4 v5 v6 v7 v8 (v9 + 4)) own_fin) (k v a t : Int32) (k0 : 0 ≤ k.toInt) (k1 : k.toInt ≤ 7) (v0' : 0 ≤ v.toInt) (v1' : v.toInt ≤ 255) (a0 : 0 ≤ a.toInt) (a1 : a.toInt ≤ 255) (t0 : 0 ≤ t.toInt) (t1 : t.toInt ≤ 3) : own_ok ((j_inject s k v a t).bind fun p69 => (if k = 0 then (law_b148 go_ p69.2 scr v2 v3 v4 v5 v6 v7 v8 v9 k v a t p69.1) else (if k = 7 then (law_b148 go_ p69.2 scr v2 v3 v4 v5 v6 v7 v8 v9 k v a t p69.1) else (law_b157 go_ p69.2 scr v2 v3 v4 v5 v6 v7 v8 v9 k v a t p69.1)))) own_fin := by
  have hI := hL.1
  have ec := hL.2.1
  refine own_bind (own_inj hI k0 k1 v0' v1' a0 a1 t0 t1) ?_
  intro r hr
  have same : r.2 = s → own_ok (law_b775 go_ r.2 scr v2 v3 v4 v5 v6 v7 v8 v9) own_fin := fun e => by rw [e]; exact own_775 hL (nx _ _ _ _ _ _ _ _ hL)
  rcases hr with ⟨r1, r2, r3⟩ | ⟨r1, r2, r3, r4, ⟨K, V, A, T, S, U, r5⟩, r6, r7⟩
  · have n : r.1 < 0 := by rw [lt32]; exact r1
    have b157 : own_ok (law_b157 go_ r.2 scr v2 v3 v4 v5 v6 v7 v8 v9 k v a t r.1) own_fin := by
      unfold law_b157 law_b221
      rw [if_pos n]
      exact same r2
    by_cases c0 : k = 0
    · rw [if_pos c0]
      unfold law_b148
      rw [if_pos (r3 (Or.inl c0))]
      exact b157
    · rw [if_neg c0]
      by_cases c7 : k = 7
      · rw [if_pos c7]
        unfold law_b148
        rw [if_pos (r3 (Or.inr c7))]
        exact b157
      · rw [if_neg c7]; exact b157
  · rw [if_neg r1, if_neg r2]
    have fc := hI.2.2.1.1
    have n : ¬ r.1 < 0 := by rw [r3, lt32]; simp only [Int32.reduceToInt]; omega
    unfold law_b157 law_b194 law_b221
    rw [if_neg n, r3, if_pos ec, if_pos (by rw [← ec, lt32]; simp only [Int32.reduceToInt]; exact r4), r7, Option.bind_some, if_pos rfl]
    rw [ec] at r5
    rw [r5] at r6 ⊢
    have q := own_FUL hL r6
    exact own_775 q (nx _ _ _ _ _ _ _ _ q)
theorem own_op1 {go_ : Q → List Int32 → Int32 → Int32 → Int32 → Int32 → Int32 → Int32 → Int32 → Int32 → Option (Q ⊕ (Q ⊕ (Q ⊕ (Q ⊕ (Q ⊕ (Q ⊕ (Q ⊕ (Q ⊕ (Q ⊕ (Q ⊕ (Q ⊕ (Q ⊕ (Q ⊕ (Q ⊕ (Q ⊕ (Q ⊕ (Q ⊕ (Q ⊕ (Q ⊕ (Q ⊕ (Q)))))))))))))))))))))} {s : Q} {scr : List Int32} {v2 v3 v4 v5 v6 v7 v8 v9 : Int32} (hL : own_LL v2 v3 v4 v5 v6 v7 v8 s) (nx : ∀ (x : Q) (v2 v3 v4 v5 v6 v7 v8 : Int32), own_LL v2 v3 v4 v5 v6 v7 v8 x → own_ok (go_ x scr v2 v3 v4 v5 v6 v7 v8 (v9 + 4)) own_fin) : own_ok ((j_clearFaults s).bind fun p151 => (law_b775 go_ p151 scr 0 v3 v4 v5 v6 v7 v8 v9)) own_fin := by
  refine own_bind (own_clr hL.1) ?_
  rintro r ⟨r1, K, V, A, T, S, U, e⟩
  rw [e] at r1 ⊢
  have q := own_FUL hL r1
  exact own_775 q (nx _ _ _ _ _ _ _ _ q)
theorem own_op2 {go_ : Q → List Int32 → Int32 → Int32 → Int32 → Int32 → Int32 → Int32 → Int32 → Int32 → Option (Q ⊕ (Q ⊕ (Q ⊕ (Q ⊕ (Q ⊕ (Q ⊕ (Q ⊕ (Q ⊕ (Q ⊕ (Q ⊕ (Q ⊕ (Q ⊕ (Q ⊕ (Q ⊕ (Q ⊕ (Q ⊕ (Q ⊕ (Q ⊕ (Q ⊕ (Q ⊕ (Q)))))))))))))))))))))} {s : Q} {scr : List Int32} {v2 v3 v4 v5 v6 v7 v8 v9 : Int32} (hL : own_LL v2 v3 v4 v5 v6 v7 v8 s) (nx : ∀ (x : Q) (v2 v3 v4 v5 v6 v7 v8 : Int32), own_LL v2 v3 v4 v5 v6 v7 v8 x → own_ok (go_ x scr v2 v3 v4 v5 v6 v7 v8 (v9 + 4)) own_fin) (o b c : Int32) (ho : o = 0 ∨ o = 1 ∨ o = 2) (hb : 0 ≤ b.toInt) : own_ok (law_b263 go_ s scr v2 v3 v4 v5 v6 v7 v8 v9 b c o) own_fin := by
  have hI := hL.1
  have ep := hL.2.2.1
  unfold law_b263
  have m7 := own_msk b 7 (by decide)
  have m5 := own_rem (x := b &&& 7) (y := 5) m7.1 (by decide)
  simp only [Int32.reduceToInt] at m5
  generalize (b &&& 7) % 5 = d at *
  refine own_bind (own_ade (ops := c) hI ho m5.1 (by omega)) ?_
  rintro r ⟨r1, r2⟩
  rw [ep] at r1
  unfold law_b325 law_b380
  rw [if_pos r1]
  rcases r2 with ⟨a1, a2⟩ | ⟨a1, a2, a3, ⟨O, C, P, a4⟩, a5⟩
  · rw [if_pos (by rw [lt32]; exact a1), a2]
    exact own_775 hL (nx _ _ _ _ _ _ _ _ hL)
  · rw [if_neg (by rw [lt32]; simp only [Int32.reduceToInt]; omega), a5, Option.bind_some, if_pos rfl]
    rw [ep] at a4
    rw [a4] at a3 ⊢
    have q := own_PUL hL a3
    exact own_775 q (nx _ _ _ _ _ _ _ _ q)
theorem own_op3 {go_ : Q → List Int32 → Int32 → Int32 → Int32 → Int32 → Int32 → Int32 → Int32 → Int32 → Option (Q ⊕ (Q ⊕ (Q ⊕ (Q ⊕ (Q ⊕ (Q ⊕ (Q ⊕ (Q ⊕ (Q ⊕ (Q ⊕ (Q ⊕ (Q ⊕ (Q ⊕ (Q ⊕ (Q ⊕ (Q ⊕ (Q ⊕ (Q ⊕ (Q ⊕ (Q ⊕ (Q)))))))))))))))))))))} {s : Q} {scr : List Int32} {v2 v3 v4 v5 v6 v7 v8 v9 : Int32} (hL : own_LL v2 v3 v4 v5 v6 v7 v8 s) (nx : ∀ (x : Q) (v2 v3 v4 v5 v6 v7 v8 : Int32), own_LL v2 v3 v4 v5 v6 v7 v8 x → own_ok (go_ x scr v2 v3 v4 v5 v6 v7 v8 (v9 + 4)) own_fin) (w : Int32) (w0 : 0 ≤ w.toInt) (w1 : w.toInt ≤ 4) : own_ok ((j_loadPreset s w).bind fun p256 => (law_b412 go_ p256.2 scr v2 v3 v4 v5 v6 v7 v8 v9 w p256.1 (if 3 < w then 0 else 1))) own_fin := by
  refine own_bind (own_lp hL.1 w0 w1) ?_
  intro r hr
  unfold law_b412 law_b446
  rcases hr with ⟨a1, a2⟩ | ⟨a1, a2, a3, O, C, P, a4⟩
  · subst a2
    rw [if_pos a1, if_pos rfl, if_pos a1, if_neg (by intro z; rw [z] at a1; exact absurd a1 (by decide))]
    exact own_775 hL (nx _ _ _ _ _ _ _ _ hL)
  · rw [if_neg a1, a2, if_pos rfl, if_neg a1]
    rw [a4] at a3 ⊢
    have q := own_PUL hL a3
    have e : (if w = 0 then (0 : Int32) else if w = 1 then 3 else 6) = Int32.ofNat (if w = 0 then 0 else if w = 1 then 3 else 6) := by
      by_cases c : w = 0
      · rw [if_pos c, if_pos c]; rfl
      · rw [if_neg c, if_neg c]
        by_cases d : w = 1
        · rw [if_pos d, if_pos d]; rfl
        · rw [if_neg d, if_neg d]; rfl
    rw [e]
    exact own_775 q (nx _ _ _ _ _ _ _ _ q)
theorem own_op4 {go_ : Q → List Int32 → Int32 → Int32 → Int32 → Int32 → Int32 → Int32 → Int32 → Int32 → Option (Q ⊕ (Q ⊕ (Q ⊕ (Q ⊕ (Q ⊕ (Q ⊕ (Q ⊕ (Q ⊕ (Q ⊕ (Q ⊕ (Q ⊕ (Q ⊕ (Q ⊕ (Q ⊕ (Q ⊕ (Q ⊕ (Q ⊕ (Q ⊕ (Q ⊕ (Q ⊕ (Q)))))))))))))))))))))} {s : Q} {scr : List Int32} {v2 v3 v4 v5 v6 v7 v8 v9 : Int32} (hL : own_LL v2 v3 v4 v5 v6 v7 v8 s) (nx : ∀ (x : Q) (v2 v3 v4 v5 v6 v7 v8 : Int32), own_LL v2 v3 v4 v5 v6 v7 v8 x → own_ok (go_ x scr v2 v3 v4 v5 v6 v7 v8 (v9 + 4)) own_fin) : own_ok ((j_run s).bind fun p409 => (if v3 = 0 then (if p409.1 = -10 then (law_b545 go_ p409.2 scr v2 v3 v4 v5 v6 v7 v8 v9) else some (.inr (.inr (.inr (.inr (.inr (.inl p409.2))))))) else (if p409.1 < 0 then some (.inr (.inr (.inr (.inr (.inr (.inr (.inl p409.2))))))) else (if 8192 < p409.1 then some (.inr (.inr (.inr (.inr (.inr (.inr (.inl p409.2))))))) else (law_b505 go_ p409.2 scr v2 v3 v4 (j_failRows p409.2) v9 p409.1 (if p409.1 = 0 then 1 else 0)))))) own_fin := by
  obtain ⟨hI, e2, e3, e4, e5, e6, e7, e8⟩ := hL
  have hL : own_LL v2 v3 v4 v5 v6 v7 v8 s := ⟨hI, e2, e3, e4, e5, e6, e7, e8⟩
  refine own_bind (own_run hI) ?_
  intro r hr
  unfold law_b505 law_b515 law_b534 law_b545 j_failRows j_latch
  rw [e3] at hr
  rcases hr with ⟨a1, a2⟩ | ⟨a1, F, f0, f1, f2, hG⟩
  · subst a2
    rw [if_pos a1, if_pos rfl]
    exact own_775 hL (nx _ _ _ _ _ _ _ _ hL)
  · rw [if_neg a1, if_neg (by rw [lt32]; simp only [Int32.reduceToInt]; omega), if_neg (by rw [lt32]; simp only [Int32.reduceToInt]; omega)]
    have hI' := own_GI hI hG
    obtain ⟨c, l, b, g, f, eq, c1, c2, c3, c4, c5, c6, c7, c8⟩ := hG
    have g1 : r.2.f_failMask = f := by rw [eq]; unfold own_U; simp only [own_Qa]
    have g2 : r.2.f_logLength = g := by rw [eq]; unfold own_U; simp only [own_Qa]
    have g3 : r.2.f_faultCount = v2 := by rw [eq]; unfold own_U; simp only [own_Qa]; exact e2
    have g4 : r.2.f_programLength = v3 := by rw [eq]; unfold own_U; simp only [own_Qa]; exact e3
    have g5 : r.2.f_remap = s.f_remap := by rw [eq]; unfold own_U; simp only [own_Qa]
    have w : (if r.1 = 0 then (1 : Int32) else 0) = if r.2.f_failMask = 0 then 1 else 0 := by
      rw [g1]
      by_cases z : F = 0
      · rw [if_pos (c7.mpr z), if_pos (Int32.toInt_inj.mp (by simp only [Int32.reduceToInt]; omega))]
      · rw [if_neg (fun y => z (c7.mp y)), if_neg (fun y => z (by rw [y] at f2; simp only [Int32.reduceToInt] at f2; omega))]
    rw [if_pos w]
    have q : own_LL v2 v3 v4 (if r.1 < 8 then r.1 else 8) r.2.f_latchBit r.2.f_failMask 0 r.2 := by
      refine ⟨hI', g3, g4, by rw [g5]; exact e4, ?_, rfl, rfl, Or.inl rfl⟩
      rw [g2]
      apply Int32.toInt_inj.mp
      by_cases y : r.1 < 8
      · rw [if_pos y]
        rw [lt32] at y
        simp only [Int32.reduceToInt] at y
        omega
      · rw [if_neg y]
        rw [lt32] at y
        simp only [Int32.reduceToInt] at y ⊢
        omega
    exact own_775 q (nx _ _ _ _ _ _ _ _ q)
theorem own_op5 {go_ : Q → List Int32 → Int32 → Int32 → Int32 → Int32 → Int32 → Int32 → Int32 → Int32 → Option (Q ⊕ (Q ⊕ (Q ⊕ (Q ⊕ (Q ⊕ (Q ⊕ (Q ⊕ (Q ⊕ (Q ⊕ (Q ⊕ (Q ⊕ (Q ⊕ (Q ⊕ (Q ⊕ (Q ⊕ (Q ⊕ (Q ⊕ (Q ⊕ (Q ⊕ (Q ⊕ (Q)))))))))))))))))))))} {s : Q} {scr : List Int32} {v2 v3 v4 v5 v6 v7 v8 v9 : Int32} (hL : own_LL v2 v3 v4 v5 v6 v7 v8 s) (nx : ∀ (x : Q) (v2 v3 v4 v5 v6 v7 v8 : Int32), own_LL v2 v3 v4 v5 v6 v7 v8 x → own_ok (go_ x scr v2 v3 v4 v5 v6 v7 v8 (v9 + 4)) own_fin) : own_ok ((j_repair s).bind fun p482 => (if p482.1 < 0 then (if p482.1 = -11 then (law_b599 go_ p482.2 scr v2 v3 v4 v5 v6 v7 v8 v9) else some (.inr (.inr (.inr (.inr (.inr (.inr (.inr (.inr (.inr (.inl p482.2))))))))))) else (if v8 = 0 then (law_b577 go_ p482.2 scr v2 v3 v4 v5 v6 v7 v9 p482.1) else (if p482.1 = 0 then (law_b577 go_ p482.2 scr v2 v3 v4 v5 v6 v7 v9 p482.1) else some (.inr (.inr (.inr (.inr (.inr (.inr (.inr (.inr (.inl p482.2)))))))))))))  own_fin := by
  obtain ⟨hI, e2, e3, e4, e5, e6, e7, e8⟩ := hL
  have hL : own_LL v2 v3 v4 v5 v6 v7 v8 s := ⟨hI, e2, e3, e4, e5, e6, e7, e8⟩
  refine own_bind (own_rep hI) ?_
  intro r hr
  unfold law_b577 law_b599
  rcases hr with a | ⟨a1, a2, ⟨x, m, t, a3⟩, a4, a5⟩
  · subst a
    rw [if_pos (show (-11 : Int32) < 0 from by decide), if_pos rfl]
    exact own_775 hL (nx _ _ _ _ _ _ _ _ hL)
  · have m1 := own_mp2 hI
    have m2 := own_mp2 a2
    rw [if_neg (by rw [lt32]; simp only [Int32.reduceToInt]; omega)]
    have g1 : r.2.f_failMask = v7 := by rw [a3]; unfold own_MU; simp only [own_Qa]; exact e7
    have g2 : r.2.f_logLength = v5 := by rw [a3]; unfold own_MU; simp only [own_Qa]; exact e5
    have g3 : r.2.f_faultCount = v2 := by rw [a3]; unfold own_MU; simp only [own_Qa]; exact e2
    have g4 : r.2.f_programLength = v3 := by rw [a3]; unfold own_MU; simp only [own_Qa]; exact e3
    have g5 : r.2.f_latchBit = v6 := by rw [a3]; unfold own_MU; simp only [own_Qa]; exact e6
    have ev : (v4 + r.1).toInt = v4.toInt + r.1.toInt := by rw [own_add] <;> omega
    have q : own_LL v2 v3 (v4 + r.1) v5 v6 v7 1 r.2 := ⟨a2, g3, g4, by omega, g2, g5, g1, Or.inr ⟨rfl, a4⟩⟩
    have z := own_775 q (nx _ _ _ _ _ _ _ _ q)
    rcases e8 with e | ⟨e, e'⟩
    · rw [if_pos e]; exact z
    · rw [if_neg (by rw [e]; decide), if_pos (Int32.toInt_inj.mp (by simp only [Int32.reduceToInt]; omega))]
      exact z
theorem own_rph {s : Q} {a : Int32} (hI : own_I s) (h0 : 0 ≤ a.toInt) (h1 : a.toInt < 256) : h_route s a = some (own_rt s a) ∧ j_physical s (own_rt s a) = some (rd s.f_cells (own_rt s a)) := by
  obtain ⟨e1, e2, e3, e4, e5⟩ := own_ad h0 h1
  obtain ⟨r1, r2, r3, r4⟩ := own_rc hI h0 h1
  have rl : s.f_remap.length = 16 := hI.1.2.2.2.2.2.2.2.2.2.2.2.1
  have i3 := inb_iff.mp r2
  constructor
  · unfold h_route j_rowMap own_rt
    rw [if_neg e4, if_neg e5, rl, if_pos e3, Option.bind_some]
    split
    · rfl
    · rfl
  · unfold j_physical
    rw [hI.2.1.1, show (256 + 16 * 2 : Int32) = 288 from rfl, if_neg (by rw [lt32]; simp only [Int32.reduceToInt]; omega), if_pos r4, if_pos (by rw [lt32] at r4 ⊢; simp only [Int32.reduceToInt] at r4 ⊢; omega), hI.1.1, if_pos r2]
theorem own_op6 {go_ : Q → List Int32 → Int32 → Int32 → Int32 → Int32 → Int32 → Int32 → Int32 → Int32 → Option (Q ⊕ (Q ⊕ (Q ⊕ (Q ⊕ (Q ⊕ (Q ⊕ (Q ⊕ (Q ⊕ (Q ⊕ (Q ⊕ (Q ⊕ (Q ⊕ (Q ⊕ (Q ⊕ (Q ⊕ (Q ⊕ (Q ⊕ (Q ⊕ (Q ⊕ (Q ⊕ (Q)))))))))))))))))))))} {s : Q} {scr : List Int32} {v2 v3 v4 v5 v6 v7 v8 v9 : Int32} (hL : own_LL v2 v3 v4 v5 v6 v7 v8 s) (nx : ∀ (x : Q) (v2 v3 v4 v5 v6 v7 v8 : Int32), own_LL v2 v3 v4 v5 v6 v7 v8 x → own_ok (go_ x scr v2 v3 v4 v5 v6 v7 v8 (v9 + 4)) own_fin) (a b : Int32) (a0 : 0 ≤ a.toInt) (a1 : a.toInt ≤ 259) (b0 : 0 ≤ b.toInt) (b1 : b.toInt ≤ 2) : own_ok ((j_write s a b).bind fun p495 => (law_b657 go_ p495.2 scr v2 v3 v4 v5 v6 v7 v8 v9 a b p495.1 (if 255 < a then -1 else (if b = 2 then -2 else 0)))) own_fin := by
  obtain ⟨hI, e2, e3, e4, e5, e6, e7, e8⟩ := hL
  have hL : own_LL v2 v3 v4 v5 v6 v7 v8 s := ⟨hI, e2, e3, e4, e5, e6, e7, e8⟩
  have same := own_775 (v9 := v9) hL (nx _ _ _ _ _ _ _ _ hL)
  unfold j_write
  by_cases c : 255 < a
  · have ia : j_isAddress a = 0 := by
      unfold j_isAddress
      rw [lt32] at c
      simp only [Int32.reduceToInt] at c
      rw [if_neg (by rw [lt32]; simp only [Int32.reduceToInt]; omega), if_neg (by rw [lt32]; simp only [Int32.reduceToInt]; omega)]
    rw [ia, if_pos rfl, Option.bind_some, if_pos c]
    unfold law_b657 law_b698
    rw [if_pos rfl, if_neg (show ¬ (-1 : Int32) = 0 from by decide)]
    exact same
  · rw [if_neg c]
    rw [lt32] at c
    simp only [Int32.reduceToInt] at c
    rw [own_isA a0 (by omega), if_neg (show ¬ (1 : Int32) = 0 from by decide)]
    by_cases b2 : b = 2
    · rw [if_pos b2, if_neg (by rw [b2]; decide), if_neg (by rw [b2]; decide), Option.bind_some]
      unfold law_b657 law_b698
      rw [if_pos rfl, if_neg (show ¬ (-2 : Int32) = 0 from by decide)]
      exact same
    · rw [if_neg b2]
      have b01 : b = 0 ∨ b = 1 := by
        have : ¬ b.toInt = 2 := fun z => b2 (Int32.toInt_inj.mp z)
        have : b.toInt = 0 ∨ b.toInt = 1 := by omega
        rcases this with e | e
        · exact Or.inl (Int32.toInt_inj.mp e)
        · exact Or.inr (Int32.toInt_inj.mp e)
      have W : own_ok (j_write_b22 s a b) (fun r => r.1 = 0 ∧ own_ce s r.2 (fun x => s.f_faultCount = 0 → rd x (own_rt s a) = b)) := by
        unfold j_write_b22
        exact own_bind (own_wrt hI a0 (by omega) b01) fun x hx => ⟨_, rfl, rfl, hx⟩
      have W' : own_ok (if b = 0 then j_write_b22 s a b else if b = 1 then j_write_b22 s a b else some (-2, s)) (fun r => r.1 = 0 ∧ own_ce s r.2 (fun x => s.f_faultCount = 0 → rd x (own_rt s a) = b)) := by
        rcases b01 with e | e
        · rw [if_pos e]; exact W
        · rw [if_neg (by rw [e]; decide), if_pos e]; exact W
      refine own_bind W' ?_
      rintro r ⟨r1, x, ex, x1, x2, x3⟩
      have hI' : own_I r.2 := by rw [ex]; exact own_Ic hI x1 x2
      have q : own_LL v2 v3 v4 v5 v6 v7 v8 r.2 := by
        rw [ex] at hI' ⊢
        refine ⟨hI', ?_, ?_, ?_, ?_, ?_, ?_, ?_⟩
        · simp only [own_Qa]; exact e2
        · simp only [own_Qa]; exact e3
        · simp only [own_Qa]; exact e4
        · simp only [own_Qa]; exact e5
        · simp only [own_Qa]; exact e6
        · simp only [own_Qa]; exact e7
        · unfold own_need at *; simp only [own_Qa]; exact e8
      have z := own_775 q (nx _ _ _ _ _ _ _ _ q)
      unfold law_b657 law_b698
      rw [r1, if_pos rfl, if_pos rfl]
      by_cases f0 : v2 = 0
      · rw [if_pos f0]
        obtain ⟨h1, h2⟩ := own_rph hI' a0 (by omega)
        have er : own_rt r.2 a = own_rt s a := by
          rw [ex]; unfold own_rt; simp only [own_Qa]
        have ecl : r.2.f_cells = x := by rw [ex]; simp only [own_Qa]
        rw [h1, Option.bind_some, h2, Option.bind_some, er, ecl, if_pos (x3 (by rw [e2]; exact f0))]
        exact z
      · rw [if_neg f0]; exact z
theorem own_op7 {go_ : Q → List Int32 → Int32 → Int32 → Int32 → Int32 → Int32 → Int32 → Int32 → Int32 → Option (Q ⊕ (Q ⊕ (Q ⊕ (Q ⊕ (Q ⊕ (Q ⊕ (Q ⊕ (Q ⊕ (Q ⊕ (Q ⊕ (Q ⊕ (Q ⊕ (Q ⊕ (Q ⊕ (Q ⊕ (Q ⊕ (Q ⊕ (Q ⊕ (Q ⊕ (Q ⊕ (Q)))))))))))))))))))))} {s : Q} {scr : List Int32} {v2 v3 v4 v5 v6 v7 v8 v9 : Int32} (hL : own_LL v2 v3 v4 v5 v6 v7 v8 s) (nx : ∀ (x : Q) (v2 v3 v4 v5 v6 v7 v8 : Int32), own_LL v2 v3 v4 v5 v6 v7 v8 x → own_ok (go_ x scr v2 v3 v4 v5 v6 v7 v8 (v9 + 4)) own_fin) (a : Int32) (a0 : 0 ≤ a.toInt) (a1 : a.toInt ≤ 259) : own_ok ((j_read s a).bind fun p519 => (if 255 < a then (if p519.1 = -1 then (law_b775 go_ p519.2 scr v2 v3 v4 v5 v6 v7 v8 v9) else some (.inr (.inr (.inr (.inr (.inr (.inr (.inr (.inr (.inr (.inr (.inr (.inr (.inl p519.2)))))))))))))) else (if p519.1 = 0 then (law_b746 go_ p519.2 scr v2 v3 v4 v5 v7 v8 v9 a p519.1) else (if p519.1 = 1 then (law_b746 go_ p519.2 scr v2 v3 v4 v5 v7 v8 v9 a p519.1) else some (.inr (.inr (.inr (.inr (.inr (.inr (.inr (.inr (.inr (.inr (.inr (.inr (.inr (.inl p519.2))))))))))))))))) ) own_fin := by
  obtain ⟨hI, e2, e3, e4, e5, e6, e7, e8⟩ := hL
  have hL : own_LL v2 v3 v4 v5 v6 v7 v8 s := ⟨hI, e2, e3, e4, e5, e6, e7, e8⟩
  unfold j_read
  by_cases c : 255 < a
  · have ia : j_isAddress a = 0 := by
      unfold j_isAddress
      rw [lt32] at c
      simp only [Int32.reduceToInt] at c
      rw [if_neg (by rw [lt32]; simp only [Int32.reduceToInt]; omega), if_neg (by rw [lt32]; simp only [Int32.reduceToInt]; omega)]
    rw [ia, if_pos rfl, Option.bind_some, if_pos c, if_pos rfl]
    exact own_775 hL (nx _ _ _ _ _ _ _ _ hL)
  · simp only [if_neg c]
    rw [lt32] at c
    simp only [Int32.reduceToInt] at c
    rw [own_isA a0 (by omega), if_neg (show ¬ (1 : Int32) = 0 from by decide)]
    refine own_bind (P := fun r => (r.1 = 0 ∨ r.1 = 1) ∧ r.2 = s.s_latchBit r.1 ∧ (s.f_faultCount = 0 → r.1 = rd s.f_cells (own_rt s a))) (own_bind (own_rrt hI a0 (by omega)) fun x hx => ⟨_, rfl, hx⟩) ?_
    rintro r ⟨r1, r2, r3⟩
    have hI' : own_I r.2 := by
      rw [r2]
      have q := own_IU (c := s.f_cells) (l := r.1) (b := s.f_logBuffer) (g := s.f_logLength) (f := s.f_failMask) hI hI.1.1 hI.2.2.2.2.2.1 r1 hI.1.2.2.2.2.2.2.2.2.2.2.1 hI.2.2.2.2.2.2.2.1 hI.2.2.2.2.2.2.2.2
      have e : own_U s s.f_cells r.1 s.f_logBuffer s.f_logLength s.f_failMask = s.s_latchBit r.1 := by
        unfold own_U; simp only [own_Qa]
      rw [e] at q
      exact q
    have q : own_LL v2 v3 v4 v5 r.1 v7 v8 r.2 := by
      refine ⟨hI', ?_, ?_, ?_, ?_, ?_, ?_, ?_⟩
      · rw [r2]; simp only [own_Qa]; exact e2
      · rw [r2]; simp only [own_Qa]; exact e3
      · rw [r2]; simp only [own_Qa]; exact e4
      · rw [r2]; simp only [own_Qa]; exact e5
      · rw [r2]; simp only [own_Qa]
      · rw [r2]; simp only [own_Qa]; exact e7
      · rw [r2]; unfold own_need at *; simp only [own_Qa]; exact e8
    have z := own_775 q (nx _ _ _ _ _ _ _ _ q)
    have B : own_ok (law_b746 go_ r.2 scr v2 v3 v4 v5 v7 v8 v9 a r.1) own_fin := by
      unfold law_b746
      by_cases f0 : v2 = 0
      · rw [if_pos f0]
        obtain ⟨h1, h2⟩ := own_rph hI' a0 (by omega)
        have er : own_rt r.2 a = own_rt s a := by
          rw [r2]; unfold own_rt; simp only [own_Qa]
        have ecl : r.2.f_cells = s.f_cells := by rw [r2]; simp only [own_Qa]
        rw [h1, Option.bind_some, h2, Option.bind_some, er, ecl, if_pos (r3 (by rw [e2]; exact f0)).symm]
        exact z
      · rw [if_neg f0]; exact z
    rcases r1 with e | e
    · rw [if_pos e]; exact B
    · rw [if_neg (by rw [e]; decide), if_pos e]; exact B

theorem own_l148 : ∀ (m i n : Nat) (s : Q), i + m = 16 → m < n → s.f_remap = List.replicate i (-1) ++ List.replicate m 0 → j_init_l148 n s (Int32.ofNat i) = some (s.s_remap (List.replicate 16 (-1)))
  | 0, i, n + 1, s, h1, h2, h3 => by
    obtain rfl : i = 16 := by omega
    have key : ∀ X, s.f_remap = X → s.s_remap X = s := by
      intro X e1
      conv => rhs; rw [← own_eta s, e1]
      rfl
    rw [key _ (by simpa using h3), j_init_l148, if_neg (by decide)]
  | m + 1, i, n + 1, s, h1, h2, h3 => by
    have hi : i < 16 := by omega
    rw [j_init_l148, if_pos (show Int32.ofNat i < 16 from (own_ltN (k := 16) (by omega) (by decide)).mpr hi)]
    rw [h3, List.replicate_succ, own_wrA (by simp) (by omega), own_succ, if_pos (own_inbN (by simp <;> omega) (by simp <;> omega)), own_repS]
    rw [own_l148 m (i + 1) n _ (by omega) (by omega) rfl]
    simp only [own_Qa]
theorem own_rgz (n : Nat) (hi : Int) (h : 0 ≤ hi) : own_rg (List.replicate n 0) n hi := by
  intro i _
  rw [rd_rep]
  exact ⟨by decide, h⟩
theorem own_start : own_ok (j_init 2 4 8) (fun s => own_LL 0 0 0 0 0 0 0 s) := by
  unfold j_init j_init_b110
  rw [show ∀ S : Q, j_init_l148 3000 S 0 = j_init_l148 3000 S (Int32.ofNat 0) from fun _ => rfl, own_l148 16 0 3000 _ (by decide) (by decide) (by simp only [own_Qa]; simp), Option.bind_some]
  refine ⟨_, rfl, ?_⟩
  have e1 : j_clamp 2 0 4 = 2 := rfl
  have e2 : j_clamp 4 1 16 = 4 := rfl
  have e3 : j_clamp 8 1 32 = 8 := rfl
  have rm : ∀ i, inb 16 i = true → rd (List.replicate 16 (-1 : Int32)) i = -1 := fun i hi => own_rdc hi
  have cz : own_ct (own_mp (List.replicate 16 (-1))) 16 = 0 := by
    have := own_cte (f := own_mp (List.replicate 16 (-1))) (g := fun _ => false) 16 (fun i hi => by
      unfold own_mp
      rw [rm _ (own_inbN hi (by decide))]
      rfl)
    rw [this]; rfl
  refine ⟨⟨?_, ?_, ?_, ?_, ?_, ?_⟩, ?_, ?_, ?_, ?_, ?_, ?_, Or.inl rfl⟩
  · unfold own_L1
    simp only [own_Qa, List.length_replicate, -List.reduceReplicate]
    simp
  · unfold own_L2
    simp only [own_Qa]
    exact ⟨e1, e2, e3⟩
  · unfold own_F1
    simp only [own_Qa, -List.reduceReplicate]
    exact ⟨⟨by decide, by decide⟩, own_rgz 16 7 (by decide), own_rgz 16 255 (by decide), own_rgz 16 255 (by decide), own_rgz 16 3 (by decide), fun _ => ⟨fun c _ => rd_rep 256 c, fun c _ => rd_rep 256 c⟩⟩
  · unfold own_P1
    simp only [own_Qa, -List.reduceReplicate]
    exact ⟨⟨by decide, by decide⟩, own_rgz 8 1 (by decide), own_rgz 8 4 (by decide), own_rgz 8 255 (by decide)⟩
  · unfold own_R1
    simp only [own_Qa, -List.reduceReplicate]
    refine ⟨fun i hi => Or.inl (rm i hi), own_rgz 4 1 (by decide), ?_⟩
    rw [cz, rd_rep, rd_rep]; rfl
  · unfold own_D1
    simp only [own_Qa, -List.reduceReplicate]
    exact ⟨fun i _ => Or.inl (rd_rep 320 i), Or.inl trivial, own_rgz 32 2147483647 (by decide), ⟨by decide, by decide⟩⟩
  · simp only [own_Qa]
  · simp only [own_Qa]
  · simp only [own_Qa, -List.reduceReplicate]; rw [cz]; rfl
  · simp only [own_Qa]
  · simp only [own_Qa]
  · simp only [own_Qa]
theorem own_loop (scr : List Int32) (hl : scr.length ≤ 260) : ∀ (n : Nat) (s : Q) (v2 v3 v4 v5 v6 v7 v8 v9 : Int32), own_LL v2 v3 v4 v5 v6 v7 v8 s → 0 ≤ v9.toInt → v9.toInt ≤ 260 + 4 → 260 + 4 - v9.toInt < n → own_ok (law_l34 n s scr v2 v3 v4 v5 v6 v7 v8 v9) own_fin := by
  intro n
  induction n with
  | zero => intro s v2 v3 v4 v5 v6 v7 v8 v9 _ h0 h1 h2; omega
  | succ n ih =>
    intro s v2 v3 v4 v5 v6 v7 v8 v9 hL h0 h1 hn
    have eL : (Nat.toInt32 scr.length).toInt = scr.length := own_n2i (by omega)
    have e1 : (v9 + 1).toInt = v9.toInt + 1 := by rw [own_add] <;> simp only [Int32.reduceToInt] <;> omega
    have e2 : (v9 + 2).toInt = v9.toInt + 2 := by rw [own_add] <;> simp only [Int32.reduceToInt] <;> omega
    have e3 : (v9 + 3).toInt = v9.toInt + 3 := by rw [own_add] <;> simp only [Int32.reduceToInt] <;> omega
    have e4 : (v9 + 4).toInt = v9.toInt + 4 := by rw [own_add] <;> simp only [Int32.reduceToInt] <;> omega
    rw [law_l34]
    by_cases c : v9 + 3 < Nat.toInt32 scr.length
    · rw [if_pos c]
      rw [lt32, e3, eL] at c
      have i0 : inb scr.length v9 = true := inb_iff.mpr (by omega)
      have i1 : inb scr.length (v9 + 1) = true := inb_iff.mpr (by omega)
      have i2 : inb scr.length (v9 + 2) = true := inb_iff.mpr (by omega)
      have i3 : inb scr.length (v9 + 3) = true := inb_iff.mpr (by omega)
      rw [if_pos i0, if_pos i1, if_pos i2, if_pos i3]
      have nx : ∀ (x : Q) (v2 v3 v4 v5 v6 v7 v8 : Int32), own_LL v2 v3 v4 v5 v6 v7 v8 x → own_ok (law_l34 n x scr v2 v3 v4 v5 v6 v7 v8 (v9 + 4)) own_fin := fun x v2 v3 v4 v5 v6 v7 v8 hx => ih x v2 v3 v4 v5 v6 v7 v8 (v9 + 4) hx (by omega) (by omega) (by omega)
      have mA := own_msk (rd scr (v9 + 1)) 65535 (by decide)
      have mB := own_msk (rd scr (v9 + 2)) 65535 (by decide)
      have mC := own_msk (rd scr (v9 + 3)) 65535 (by decide)
      simp only [Int32.reduceToInt] at mA mB mC
      generalize rd scr (v9 + 1) &&& 65535 = A at *
      generalize rd scr (v9 + 2) &&& 65535 = B at *
      generalize rd scr (v9 + 3) &&& 65535 = C at *
      generalize rd scr v9 &&& 7 = op
      by_cases o0 : op = 0
      · rw [if_pos o0]
        have k := own_msk A 7 (by decide)
        have v := own_msk B 255 (by decide)
        have a := own_msk C 255 (by decide)
        have t := own_msk (isr C 8) 3 (by decide)
        simp only [Int32.reduceToInt] at k v a t
        exact own_op0 hL nx _ _ _ _ k.1 k.2 v.1 v.2 a.1 a.2 t.1 t.2
      · rw [if_neg o0]
        by_cases o1 : op = 1
        · rw [if_pos o1]; exact own_op1 hL nx
        · rw [if_neg o1]
          by_cases o2 : op = 2
          · rw [if_pos o2]
            refine own_op2 hL nx _ _ _ ?_ mB.1
            split
            · exact Or.inr (Or.inr rfl)
            · rcases own_b1 A with e | e
              · exact Or.inl e
              · exact Or.inr (Or.inl e)
          · rw [if_neg o2]
            by_cases o3 : op = 3
            · rw [if_pos o3]
              have w := own_rem (x := A) (y := 5) mA.1 (by decide)
              simp only [Int32.reduceToInt] at w
              exact own_op3 hL nx _ w.1 (by omega)
            · rw [if_neg o3]
              by_cases o4 : op = 4
              · rw [if_pos o4]; exact own_op4 hL nx
              · rw [if_neg o4]
                by_cases o5 : op = 5
                · rw [if_pos o5]; exact own_op5 hL nx
                · rw [if_neg o5]
                  have w := own_rem (x := A) (y := 260) mA.1 (by decide)
                  have u := own_rem (x := B) (y := 3) mB.1 (by decide)
                  simp only [Int32.reduceToInt] at w u
                  by_cases o6 : op = 6
                  · rw [if_pos o6]; exact own_op6 hL nx _ _ w.1 (by omega) u.1 (by omega)
                  · rw [if_neg o6]; exact own_op7 hL nx _ w.1 (by omega)
    · rw [if_neg c]
      exact ⟨_, rfl, _, rfl⟩
theorem own_law (scr : List Int32) (hl : scr.length ≤ 260) : (law scr).map (·.1) = some 1 := by
  obtain ⟨s, e, hz⟩ := own_start
  obtain ⟨r, er, q, eq⟩ := own_loop scr hl 3000 s 0 0 0 0 0 0 0 0 hz (by decide) (by decide) (by decide)
  subst eq
  unfold law
  rw [e]
  simp only [Option.bind_some, er, Sum.elim_inr, Option.map_some]


theorem fit_of {s : State} (hF : heapFits s = true) : Fit s := fun {y c} hc i hi => by
  obtain ⟨ha, rfl⟩ := Array.getElem?_eq_some_iff.mp hc
  have q := List.all_eq_true.mp ((Array.all_eq_true_iff_forall_mem.mp hF) _ (Array.getElem_mem ha)) i (List.mem_range.mpr hi)
  simpa [Array.getElem?_eq_getElem hi] using q
set_option maxRecDepth 65536 in
set_option maxHeartbeats 4000000 in
theorem comes_1 {Post : Tables → Env → Array Value → State → Outcome → State → Prop} (hpost : ∀ tb e args s v u, (limb_1_1.after args s (.returned v) u = true ∧ limb_1_2.after args s (.returned v) u = true ∧ True) → FrameEnd s (.returned v) u (Jvm.fieldLocs frame_1_writes args s ++ Jvm.arrayLocs frame_1_arrays args s ++ Jvm.staticLocs frame_1_statics s) 40 2112 → Post tb e args s (.returned v) u) :
    ArmFor flags0 classFile x code maxLocals ret World_1 tables_1 room_1 Calls_1 rest_1 Pre_1 Post := by
  intro l hfl _ _ p e ha hc hk s m args below hf hA hF happ hP
  obtain ⟨hcalls, hrest, hpre⟩ := hP
  obtain ⟨-, -, -, hnamed, -, -, -, hat⟩ := (Spec.applies_iff hf).mp happ
  obtain ⟨hg, hn⟩ := and_e (Cond.before_iff.mp (show (Jvm.Cond.and given_1 narrow_1).before args s = true from hpre))
  obtain ⟨hcnt, h0⟩ := and_e hg
  obtain ⟨w0, rfl⟩ : ∃ w0 : Value, args = #[w0] := by
    have hs : args.size = 1 := by simpa [Cond.value, given_1] using hcnt
    obtain ⟨L⟩ := args
    match L, hs with
    | [w0], _ => exact ⟨w0, rfl⟩
  have hw := fun d (hd : d ∈ tables_1) => atoms_spec (ws := Jvm.Cond.code x code maxLocals ret :: tables_1) hat d (List.mem_cons_of_mem _ hd)
  obtain ⟨hy1, hy2⟩ := and_e hn
  obtain ⟨a, rfl⟩ : ∃ a, w0 = .ref a := by
    cases w0 <;> first | exact ⟨_, rfl⟩ | (exfalso; simp [Cond.value, Term.eval] at hy1)
  obtain ⟨cl, A⟩ := Arr.start (Z := s) (ty := .int) (show (Term.arg 0).eval #[Value.ref a] s none [] s = some (.ref a) from rfl) hy1
  have hlen : (cl.slots.toList.map intOf).length ≤ 260 := by
    have q := A.fin (Vm.Alike.refl _)
    by_cases hz : cl.slots.size < 2 ^ 31
    · simp only [Cond.value, Term.eval, List.getElem?_toArray, List.getElem?_cons_zero, Option.bind_eq_bind, Option.bind_some, q, hz, if_true, Option.pure_def] at hy2
      have q2 := Int32.le_iff_toInt_le.mp (by simpa using hy2)
      rw [len_toInt hz] at q2
      simp only [List.length_map, Array.length_toList]
      have q3 : (260 : Int32).toInt = 260 := rfl
      omega
    · simp [Cond.value, Term.eval, q, hz] at hy2
  have hL := own_law (cl.slots.toList.map intOf) hlen
  obtain ⟨res, hres, hr1⟩ := Option.map_eq_some_iff.mp hL
  obtain ⟨n, hrun⟩ := ev_law (cl.slots.toList.map intOf) hres rfl
  have hr1' : res.1 = 1 := hr1
  rw [hr1'] at hrun
  have hcap := run_cap hrun
  have hcC : own_P.capC = 41 := rfl
  have hcS : own_P.capS = 2112 := rfl
  rw [hcC, hcS] at hcap
  have hc1 : (W0 (cl.slots.toList.map intOf) []).length = 1 := rfl
  have hc2 : hsz own_P (W0 (cl.slots.toList.map intOf) []) = 0 := rfl
  have hM := metOf (sound (own_good hw) n) (k := 0) (as := [.ref 0]) (H := (W0 (cl.slots.toList.map intOf) [])) hrun (l := l) (wsC := tables_1) (rm := room_1) own_pn0 rfl (fun h => nomatch h) (by decide) (by decide) (by show _ ≤ 40; omega) (by show _ ≤ 2112; omega) (am := [a]) (ws := [.ref a]) (h := s.heap) (n0 := s.heap.size) ⟨_, _, rfl, ⟨a, rfl, rfl⟩, rfl⟩ (Nat.le_of_ble_eq_true rfl) (script_start rfl (fit_of hF) A) (Nat.le_refl _)
  obtain ⟨n, o, h1, h2, h3, w, L, rfl, ⟨N, -, am', -, -, hv⟩, hq⟩ := hM p e ha hc hk s m _ below hf ((Spec.applies_iff_loose hf).mp happ).1 ⟨rfl, State.Warmed39.refl s, rfl⟩ trivial
  obtain ⟨y, rfl, rfl⟩ := hv
  exact ⟨n, _, h1, h2, h3, hpost _ _ _ _ _ _ ⟨Cond.after_iff.mpr rfl, Cond.after_iff.mpr (eq_i res_at (Term.int_eval (1)) rfl), trivial⟩ ⟨hq.1, hq.2.1, (hq.2.2.sift fun y hy => Or.inr (N y hy)).mono (by omega) (by omega)⟩⟩
theorem main_1_1 : Claimed_1_1 := comes_1 fun _ _ _ _ _ _ h hF => ⟨h.1, hF⟩
theorem main_1_2 : Claimed_1_2 := comes_1 fun _ _ _ _ _ _ h hF => ⟨h.2.1, hF⟩
end Jvm.Pilot.@@N@@
namespace Jvm.Pilot.@@N@@
open Jvm Jvm.ClassFile Sem Op Lib Jvm.Free Jvm.Stand Jvm.Pilot.@@N@@.Jvm.D
/-! MADE BY PROGRAM (witnessworld.py) out of the Statement's table words and the real class files: 11 classes; the members and pool entries that the words name. The judged class is class 1, her method 2. -/
namespace start1
open Jvm.ClassFile
def u (s : String) : CpInfo := .utf8 (stringToUtf16 s)
/-- a pool by its gaps: so many unusable entries, then the entry; so many at the end -/
def gap : Nat → List CpInfo → List CpInfo
  | 0, r => r
  | n + 1, r => .unusable :: gap n r
def poolList (es : List (Nat × CpInfo)) (last : Nat) : List CpInfo := es.foldr (fun e r => gap e.1 (e.2 :: r)) (gap last [])
def pool (es : List (Nat × CpInfo)) (last : Nat) : Array CpInfo := ⟨poolList es last⟩
def fileOf (pool : Array CpInfo) (this : Nat) (attrs : Array Attribute := #[]) (ms : Array MethodInfo := #[]) (fl : Nat := 33) (sup : Nat := 0) (ifs : Array Nat := #[]) (fds : Array FieldInfo := #[]) : ClassFile where
  minorVersion := 0
  majorVersion := 65
  constantPool := pool
  accessFlags := fl
  thisClass := this
  superClass := sup
  interfaces := ifs
  fields := fds
  methods := ms
  attributes := attrs
def plain (name : String) (sup : Option ClassId) : Class where
  name := name
  kind := .ordinary
  loader := none
  accessFlags := 33
  super := sup
  interfaces := #[]
  cf := none
  fields := #[]
  methods := #[]
  instanceTypes := #[]
  staticTypes := #[]
  resolved := #[]
  callSites := []
  init := .initialized
  statics := none
  mirror := none

def pool0 : Array CpInfo := pool [(5, u "<init>"), (0, u "()V"), (1, .class_ 10), (1, u "java/lang/Object")] 113

def k0c0 : Code := { maxStack := 0, maxLocals := 1, code := object_method_1_code, exceptionTable := #[], attributes := #[] }
def k0m0 : Method := { name := "<init>", desc := "()V", sig := { parameters := [], returnType := none }, accessFlags := 1, code := some k0c0 }
/-- java/lang/Object -/
def k0 : Class := { plain "java/lang/Object" none with
  accessFlags := 33
  interfaces := #[]
  cf := some (fileOf pool0 8 #[] #[{ accessFlags := 1, nameIndex := 5, descriptorIndex := 6, attributes := #[] }] 33 0 #[] #[])
  fields := #[]
  methods := #[k0m0]
  instanceTypes := #[]
  staticTypes := #[]
  resolved := Array.replicate 124 none
  statics := none }

def pool1 : Array CpInfo := pool [(2, .class_ 4), (1, u "java/lang/Object"), (0, u "<init>"), (0, u "()V"), (0, .methodref 8 9), (0, .class_ 10), (0, .nameAndType 11 12), (0, u "MarchBist"), (0, u "rowMap"), (0, u "(I)I"), (0, .methodref 8 14), (0, .nameAndType 5 15), (0, u "(III)V"), (0, .integer 65535), (0, .methodref 8 18), (0, .nameAndType 19 20), (0, u "inject"), (0, u "(IIII)I"), (0, .methodref 8 22), (0, .nameAndType 23 12), (0, u "faultInfo"), (0, .methodref 8 25), (0, .nameAndType 26 6), (0, u "clearFaults"), (0, .methodref 8 28), (0, .nameAndType 29 30), (0, u "addElement"), (0, u "(III)I"), (0, .methodref 8 32), (0, .nameAndType 33 12), (0, u "programElement"), (0, .methodref 8 35), (0, .nameAndType 36 37), (0, u "loadPreset"), (0, u "(I)Z"), (0, .methodref 8 39), (0, .nameAndType 40 41), (0, u "run"), (0, u "()I"), (0, .methodref 8 43), (0, .nameAndType 44 41), (0, u "failRows"), (0, .methodref 8 46), (0, .nameAndType 47 41), (0, u "latch"), (0, .methodref 8 49), (0, .nameAndType 50 41), (0, u "repair"), (0, .methodref 8 52), (0, .nameAndType 53 54), (0, u "write"), (0, u "(II)I"), (0, .methodref 56 57), (0, .class_ 58), (0, .nameAndType 59 60), (0, u "MarchBistL6"), (0, u "route"), (0, u "(LMarchBist;I)I"), (0, .methodref 8 62), (0, .nameAndType 63 12), (0, u "physical"), (0, .methodref 8 65), (0, .nameAndType 66 12), (0, u "read"), (0, .methodref 8 68), (0, .nameAndType 69 12), (0, u "logEntry"), (3, u "law"), (0, u "([I)Z")] 4

def k1m0 : Method := { name := "<init>", desc := "()V", sig := { parameters := [], returnType := none }, accessFlags := 1, code := none }
def k1c1 : Code := { maxStack := 3, maxLocals := 3, code := method_2_code, exceptionTable := #[], attributes := #[] }
def k1m1 : Method := { name := "route", desc := "(LMarchBist;I)I", sig := { parameters := [(.object "MarchBist"), .int], returnType := some .int }, accessFlags := 10, code := some k1c1 }
def k1c2 : Code := { maxStack := 5, maxLocals := 20, code := code, exceptionTable := #[], attributes := #[] }
def k1m2 : Method := { name := "law", desc := "([I)Z", sig := { parameters := [(.array .int)], returnType := some .boolean }, accessFlags := 9, code := some k1c2 }
/-- MarchBistL6 -/
def k1 : Class := { plain "MarchBistL6" (some 0) with
  accessFlags := 33
  interfaces := #[]
  cf := some (fileOf pool1 56 #[] #[{ accessFlags := 1, nameIndex := 5, descriptorIndex := 6, attributes := #[] }, { accessFlags := 10, nameIndex := 59, descriptorIndex := 60, attributes := #[] }, { accessFlags := 9, nameIndex := 73, descriptorIndex := 74, attributes := #[] }] 33 2 #[] #[])
  fields := #[]
  methods := #[k1m0, k1m1, k1m2]
  instanceTypes := #[]
  staticTypes := #[]
  resolved := Array.replicate 79 none
  statics := none }

def pool2 : Array CpInfo := pool [(1, .methodref 2 3), (0, .class_ 4), (0, .nameAndType 5 6), (0, u "java/lang/Object"), (0, u "<init>"), (0, u "()V"), (0, .fieldref 8 9), (0, .class_ 10), (0, .nameAndType 11 12), (0, u "MarchBist"), (0, u "cells"), (0, u "[B"), (0, .fieldref 8 14), (0, .nameAndType 15 16), (0, u "faultKind"), (0, u "[I"), (0, .fieldref 8 18), (0, .nameAndType 19 16), (0, u "faultVictim"), (0, .fieldref 8 21), (0, .nameAndType 22 16), (0, u "faultAggressor"), (0, .fieldref 8 24), (0, .nameAndType 25 16), (0, u "faultTrigger"), (0, .fieldref 8 27), (0, .nameAndType 28 16), (0, u "victimSlot"), (0, .fieldref 8 30), (0, .nameAndType 31 16), (0, u "aggressorUses"), (0, .fieldref 8 33), (0, .nameAndType 34 16), (0, u "elementOrder"), (0, .fieldref 8 36), (0, .nameAndType 37 16), (0, u "elementCount"), (0, .fieldref 8 39), (0, .nameAndType 40 16), (0, u "elementOps"), (0, .fieldref 8 42), (0, .nameAndType 43 16), (0, u "logBuffer"), (0, .fieldref 8 45), (0, .nameAndType 46 16), (0, u "remap"), (0, .fieldref 8 48), (0, .nameAndType 49 50), (0, u "spareTaken"), (0, u "[Z"), (0, .methodref 8 52), (0, .nameAndType 53 54), (0, u "clamp"), (0, u "(III)I"), (0, .fieldref 8 56), (0, .nameAndType 57 58), (0, u "spareRows"), (0, u "I"), (0, .fieldref 8 60), (0, .nameAndType 61 58), (0, u "faultLimit"), (0, .fieldref 8 63), (0, .nameAndType 64 58), (0, u "logLimit"), (0, .fieldref 8 66), (0, .nameAndType 67 58), (0, u "latchBit"), (0, .fieldref 8 69), (0, .nameAndType 70 58), (0, u "faultCount"), (0, .fieldref 8 72), (0, .nameAndType 73 58), (0, u "programLength"), (0, .fieldref 8 75), (0, .nameAndType 76 58), (0, u "logLength"), (0, .fieldref 8 78), (0, .nameAndType 79 58), (0, u "failMask"), (0, .methodref 8 81), (0, .nameAndType 82 83), (0, u "validateFaultArguments"), (0, u "(IIII)I"), (0, .methodref 8 85), (0, .nameAndType 86 54), (0, u "validateFaultRoom"), (0, .methodref 8 88), (0, .nameAndType 89 83), (0, u "appendFault"), (0, .methodref 8 91), (0, .nameAndType 92 93), (0, u "isFaultNumber"), (0, u "(I)Z"), (0, .methodref 8 95), (0, .nameAndType 96 93), (0, u "isFaultKind"), (0, .methodref 8 98), (0, .nameAndType 99 93), (0, u "isAddress"), (0, .methodref 8 101), (0, .nameAndType 102 93), (0, u "isTrigger"), (0, .methodref 8 104), (0, .nameAndType 105 93), (0, u "isVictim"), (0, .methodref 8 107), (0, .nameAndType 108 93), (0, u "isAggressor"), (0, .methodref 8 110), (0, .nameAndType 111 93), (0, u "isOrder"), (0, .methodref 8 113), (0, .nameAndType 114 54), (0, u "appendElement"), (0, .methodref 8 116), (0, .nameAndType 117 6), (0, u "clearProgram"), (0, .methodref 8 119), (0, .nameAndType 120 6), (0, u "loadMatsPlus"), (0, .methodref 8 122), (0, .nameAndType 123 6), (0, u "loadMarchCMinus"), (0, .methodref 8 125), (0, .nameAndType 126 6), (0, u "loadMarchCrb"), (0, .methodref 8 128), (0, .nameAndType 129 93), (0, u "isElementIndex"), (0, .methodref 8 131), (0, .nameAndType 132 133), (0, u "opsMask"), (0, u "(I)I"), (0, .methodref 8 135), (0, .nameAndType 136 137), (0, u "presetElement"), (0, u "(IIIII)V"), (0, .methodref 8 139), (0, .nameAndType 140 6), (0, u "resetResults"), (0, .methodref 8 142), (0, .nameAndType 143 133), (0, u "runElement"), (0, .methodref 8 145), (0, .nameAndType 146 147), (0, u "addressAt"), (0, u "(II)I"), (0, .methodref 8 149), (0, .nameAndType 150 147), (0, u "runOpsAt"), (0, .methodref 8 152), (0, .nameAndType 153 147), (0, u "opAt"), (0, .methodref 8 155), (0, .nameAndType 156 157), (0, u "applyOp"), (0, u "(II)Z"), (0, .methodref 8 159), (0, .nameAndType 160 161), (0, u "recordFailure"), (0, u "(III)V"), (0, .methodref 8 163), (0, .nameAndType 164 165), (0, u "writeRouted"), (0, u "(II)V"), (0, .methodref 8 167), (0, .nameAndType 168 133), (0, u "readRouted"), (0, .methodref 8 170), (0, .nameAndType 171 172), (0, u "countFailingUnmapped"), (0, u "()I"), (0, .methodref 8 174), (0, .nameAndType 175 172), (0, u "countFreeSpares"), (0, .methodref 8 177), (0, .nameAndType 178 93), (0, u "isFailingUnmapped"), (0, .methodref 8 180), (0, .nameAndType 181 172), (0, u "leastFreeSpare"), (0, .methodref 8 183), (0, .nameAndType 184 165), (0, u "assignSpare"), (0, .methodref 8 186), (0, .nameAndType 187 133), (0, u "routedCell"), (0, .methodref 8 189), (0, .nameAndType 190 133), (0, u "readMain"), (0, .methodref 8 192), (0, .nameAndType 193 133), (0, u "victimKind"), (0, .methodref 8 195), (0, .nameAndType 196 165), (0, u "writeMain"), (0, .methodref 8 198), (0, .nameAndType 199 54), (0, u "faultyNewBit"), (0, .methodref 8 201), (0, .nameAndType 202 203), (0, u "fireCouplings"), (0, u "(IZ)V"), (0, .methodref 8 205), (0, .nameAndType 206 207), (0, u "triggerMatches"), (0, u "(IZ)Z"), (0, .methodref 8 209), (0, .nameAndType 210 133), (0, u "forcedBit"), (0, .methodref 8 212), (0, .nameAndType 213 165), (0, u "forceVictim"), (0, u "OK"), (2, u "ERR_ADDR"), (1, u "ERR_BIT"), (1, u "ERR_KIND"), (1, u "ERR_SAME"), (1, u "ERR_TRIGGER"), (1, u "ERR_FULL"), (1, u "ERR_BUSY"), (1, u "ERR_ORDER"), (1, u "ERR_COUNT"), (1, u "ERR_EMPTY"), (1, u "ERR_NOSPARE"), (1, u "FAULT_SA0"), (1, u "FAULT_SA1"), (1, u "FAULT_TF_UP"), (1, u "FAULT_TF_DOWN"), (1, u "FAULT_SOF"), (1, u "FAULT_CFID"), (1, u "TRIG_UP_0"), (0, u "TRIG_UP_1"), (0, u "TRIG_DOWN_0"), (0, u "TRIG_DOWN_1"), (0, u "ORDER_UP"), (0, u "ORDER_DOWN"), (0, u "OP_R0"), (0, u "OP_R1"), (0, u "OP_W0"), (0, u "OP_W1"), (0, u "PRESET_EMPTY"), (0, u "PRESET_MATS_PLUS"), (0, u "PRESET_MARCH_C_MINUS"), (0, u "PRESET_MARCH_CRB"), (3, u "inject"), (0, u "clearFaults"), (0, u "faultInfo"), (0, u "addElement"), (0, u "loadPreset"), (0, u "programElement"), (0, u "run"), (0, u "failRows"), (0, u "logEntry"), (0, u "repair"), (0, u "rowMap"), (0, u "write"), (0, u "read"), (0, u "physical"), (0, u "latch")] 2

def k2c0 : Code := { maxStack := 5, maxLocals := 5, code := prog_1_method_1_code, exceptionTable := #[], attributes := #[] }
def k2m0 : Method := { name := "<init>", desc := "(III)V", sig := { parameters := [.int, .int, .int], returnType := none }, accessFlags := 1, code := some k2c0 }
def k2c1 : Code := { maxStack := 5, maxLocals := 6, code := prog_1_method_2_code, exceptionTable := #[], attributes := #[] }
def k2m1 : Method := { name := "inject", desc := "(IIII)I", sig := { parameters := [.int, .int, .int, .int], returnType := some .int }, accessFlags := 1, code := some k2c1 }
def k2c2 : Code := { maxStack := 3, maxLocals := 2, code := prog_1_method_3_code, exceptionTable := #[], attributes := #[] }
def k2m2 : Method := { name := "clearFaults", desc := "()V", sig := { parameters := [], returnType := none }, accessFlags := 1, code := some k2c2 }
def k2c3 : Code := { maxStack := 3, maxLocals := 3, code := prog_1_method_4_code, exceptionTable := #[], attributes := #[] }
def k2m3 : Method := { name := "faultInfo", desc := "(I)I", sig := { parameters := [.int], returnType := some .int }, accessFlags := 1, code := some k2c3 }
def k2c4 : Code := { maxStack := 2, maxLocals := 5, code := prog_1_method_5_code, exceptionTable := #[], attributes := #[] }
def k2m4 : Method := { name := "validateFaultArguments", desc := "(IIII)I", sig := { parameters := [.int, .int, .int, .int], returnType := some .int }, accessFlags := 2, code := some k2c4 }
def k2c5 : Code := { maxStack := 2, maxLocals := 4, code := prog_1_method_6_code, exceptionTable := #[], attributes := #[] }
def k2m5 : Method := { name := "validateFaultRoom", desc := "(III)I", sig := { parameters := [.int, .int, .int], returnType := some .int }, accessFlags := 2, code := some k2c5 }
def k2c6 : Code := { maxStack := 4, maxLocals := 6, code := prog_1_method_7_code, exceptionTable := #[], attributes := #[] }
def k2m6 : Method := { name := "appendFault", desc := "(IIII)I", sig := { parameters := [.int, .int, .int, .int], returnType := some .int }, accessFlags := 2, code := some k2c6 }
def k2c7 : Code := { maxStack := 2, maxLocals := 2, code := prog_1_method_8_code, exceptionTable := #[], attributes := #[] }
def k2m7 : Method := { name := "isFaultKind", desc := "(I)Z", sig := { parameters := [.int], returnType := some .boolean }, accessFlags := 2, code := some k2c7 }
def k2c8 : Code := { maxStack := 2, maxLocals := 2, code := prog_1_method_9_code, exceptionTable := #[], attributes := #[] }
def k2m8 : Method := { name := "isTrigger", desc := "(I)Z", sig := { parameters := [.int], returnType := some .boolean }, accessFlags := 2, code := some k2c8 }
def k2c9 : Code := { maxStack := 2, maxLocals := 2, code := prog_1_method_10_code, exceptionTable := #[], attributes := #[] }
def k2m9 : Method := { name := "isFaultNumber", desc := "(I)Z", sig := { parameters := [.int], returnType := some .boolean }, accessFlags := 2, code := some k2c9 }
def k2c10 : Code := { maxStack := 2, maxLocals := 2, code := prog_1_method_11_code, exceptionTable := #[], attributes := #[] }
def k2m10 : Method := { name := "isVictim", desc := "(I)Z", sig := { parameters := [.int], returnType := some .boolean }, accessFlags := 2, code := some k2c10 }
def k2c11 : Code := { maxStack := 2, maxLocals := 2, code := prog_1_method_12_code, exceptionTable := #[], attributes := #[] }
def k2m11 : Method := { name := "isAggressor", desc := "(I)Z", sig := { parameters := [.int], returnType := some .boolean }, accessFlags := 2, code := some k2c11 }
def k2c12 : Code := { maxStack := 3, maxLocals := 3, code := prog_1_method_13_code, exceptionTable := #[], attributes := #[] }
def k2m12 : Method := { name := "victimKind", desc := "(I)I", sig := { parameters := [.int], returnType := some .int }, accessFlags := 2, code := some k2c12 }
def k2c13 : Code := { maxStack := 4, maxLocals := 4, code := prog_1_method_14_code, exceptionTable := #[], attributes := #[] }
def k2m13 : Method := { name := "addElement", desc := "(III)I", sig := { parameters := [.int, .int, .int], returnType := some .int }, accessFlags := 1, code := some k2c13 }
def k2c14 : Code := { maxStack := 2, maxLocals := 2, code := prog_1_method_15_code, exceptionTable := #[], attributes := #[] }
def k2m14 : Method := { name := "loadPreset", desc := "(I)Z", sig := { parameters := [.int], returnType := some .boolean }, accessFlags := 1, code := some k2c14 }
def k2c15 : Code := { maxStack := 3, maxLocals := 3, code := prog_1_method_16_code, exceptionTable := #[], attributes := #[] }
def k2m15 : Method := { name := "programElement", desc := "(I)I", sig := { parameters := [.int], returnType := some .int }, accessFlags := 1, code := some k2c15 }
def k2c16 : Code := { maxStack := 5, maxLocals := 5, code := prog_1_method_17_code, exceptionTable := #[], attributes := #[] }
def k2m16 : Method := { name := "appendElement", desc := "(III)I", sig := { parameters := [.int, .int, .int], returnType := some .int }, accessFlags := 2, code := some k2c16 }
def k2c17 : Code := { maxStack := 3, maxLocals := 2, code := prog_1_method_18_code, exceptionTable := #[], attributes := #[] }
def k2m17 : Method := { name := "clearProgram", desc := "()V", sig := { parameters := [], returnType := none }, accessFlags := 2, code := some k2c17 }
def k2c18 : Code := { maxStack := 4, maxLocals := 7, code := prog_1_method_19_code, exceptionTable := #[], attributes := #[] }
def k2m18 : Method := { name := "presetElement", desc := "(IIIII)V", sig := { parameters := [.int, .int, .int, .int, .int], returnType := none }, accessFlags := 2, code := some k2c18 }
def k2c19 : Code := { maxStack := 6, maxLocals := 1, code := prog_1_method_20_code, exceptionTable := #[], attributes := #[] }
def k2m19 : Method := { name := "loadMatsPlus", desc := "()V", sig := { parameters := [], returnType := none }, accessFlags := 2, code := some k2c19 }
def k2c20 : Code := { maxStack := 6, maxLocals := 1, code := prog_1_method_21_code, exceptionTable := #[], attributes := #[] }
def k2m20 : Method := { name := "loadMarchCMinus", desc := "()V", sig := { parameters := [], returnType := none }, accessFlags := 2, code := some k2c20 }
def k2c21 : Code := { maxStack := 6, maxLocals := 1, code := prog_1_method_22_code, exceptionTable := #[], attributes := #[] }
def k2m21 : Method := { name := "loadMarchCrb", desc := "()V", sig := { parameters := [], returnType := none }, accessFlags := 2, code := some k2c21 }
def k2c22 : Code := { maxStack := 2, maxLocals := 2, code := prog_1_method_23_code, exceptionTable := #[], attributes := #[] }
def k2m22 : Method := { name := "isOrder", desc := "(I)Z", sig := { parameters := [.int], returnType := some .boolean }, accessFlags := 2, code := some k2c22 }
def k2c23 : Code := { maxStack := 2, maxLocals := 2, code := prog_1_method_24_code, exceptionTable := #[], attributes := #[] }
def k2m23 : Method := { name := "isElementIndex", desc := "(I)Z", sig := { parameters := [.int], returnType := some .boolean }, accessFlags := 2, code := some k2c23 }
def k2c24 : Code := { maxStack := 3, maxLocals := 2, code := prog_1_method_25_code, exceptionTable := #[], attributes := #[] }
def k2m24 : Method := { name := "opsMask", desc := "(I)I", sig := { parameters := [.int], returnType := some .int }, accessFlags := 2, code := some k2c24 }
def k2c25 : Code := { maxStack := 3, maxLocals := 3, code := prog_1_method_26_code, exceptionTable := #[], attributes := #[] }
def k2m25 : Method := { name := "opAt", desc := "(II)I", sig := { parameters := [.int, .int], returnType := some .int }, accessFlags := 2, code := some k2c25 }
def k2c26 : Code := { maxStack := 2, maxLocals := 3, code := prog_1_method_27_code, exceptionTable := #[], attributes := #[] }
def k2m26 : Method := { name := "addressAt", desc := "(II)I", sig := { parameters := [.int, .int], returnType := some .int }, accessFlags := 2, code := some k2c26 }
def k2c27 : Code := { maxStack := 3, maxLocals := 3, code := prog_1_method_28_code, exceptionTable := #[], attributes := #[] }
def k2m27 : Method := { name := "run", desc := "()I", sig := { parameters := [], returnType := some .int }, accessFlags := 1, code := some k2c27 }
def k2c28 : Code := { maxStack := 1, maxLocals := 1, code := prog_1_method_29_code, exceptionTable := #[], attributes := #[] }
def k2m28 : Method := { name := "failRows", desc := "()I", sig := { parameters := [], returnType := some .int }, accessFlags := 1, code := some k2c28 }
def k2c29 : Code := { maxStack := 2, maxLocals := 2, code := prog_1_method_30_code, exceptionTable := #[], attributes := #[] }
def k2m29 : Method := { name := "logEntry", desc := "(I)I", sig := { parameters := [.int], returnType := some .int }, accessFlags := 1, code := some k2c29 }
def k2c30 : Code := { maxStack := 3, maxLocals := 2, code := prog_1_method_31_code, exceptionTable := #[], attributes := #[] }
def k2m30 : Method := { name := "resetResults", desc := "()V", sig := { parameters := [], returnType := none }, accessFlags := 2, code := some k2c30 }
def k2c31 : Code := { maxStack := 4, maxLocals := 6, code := prog_1_method_32_code, exceptionTable := #[], attributes := #[] }
def k2m31 : Method := { name := "runElement", desc := "(I)I", sig := { parameters := [.int], returnType := some .int }, accessFlags := 2, code := some k2c31 }
def k2c32 : Code := { maxStack := 4, maxLocals := 7, code := prog_1_method_33_code, exceptionTable := #[], attributes := #[] }
def k2m32 : Method := { name := "runOpsAt", desc := "(II)I", sig := { parameters := [.int, .int], returnType := some .int }, accessFlags := 2, code := some k2c32 }
def k2c33 : Code := { maxStack := 3, maxLocals := 5, code := prog_1_method_34_code, exceptionTable := #[], attributes := #[] }
def k2m33 : Method := { name := "applyOp", desc := "(II)Z", sig := { parameters := [.int, .int], returnType := some .boolean }, accessFlags := 2, code := some k2c33 }
def k2c34 : Code := { maxStack := 5, maxLocals := 5, code := prog_1_method_35_code, exceptionTable := #[], attributes := #[] }
def k2m34 : Method := { name := "recordFailure", desc := "(III)V", sig := { parameters := [.int, .int, .int], returnType := none }, accessFlags := 2, code := some k2c34 }
def k2c35 : Code := { maxStack := 3, maxLocals := 5, code := prog_1_method_36_code, exceptionTable := #[], attributes := #[] }
def k2m35 : Method := { name := "repair", desc := "()I", sig := { parameters := [], returnType := some .int }, accessFlags := 1, code := some k2c35 }
def k2c36 : Code := { maxStack := 2, maxLocals := 2, code := prog_1_method_37_code, exceptionTable := #[], attributes := #[] }
def k2m36 : Method := { name := "rowMap", desc := "(I)I", sig := { parameters := [.int], returnType := some .int }, accessFlags := 1, code := some k2c36 }
def k2c37 : Code := { maxStack := 2, maxLocals := 2, code := prog_1_method_38_code, exceptionTable := #[], attributes := #[] }
def k2m37 : Method := { name := "isFailingUnmapped", desc := "(I)Z", sig := { parameters := [.int], returnType := some .boolean }, accessFlags := 2, code := some k2c37 }
def k2c38 : Code := { maxStack := 2, maxLocals := 3, code := prog_1_method_39_code, exceptionTable := #[], attributes := #[] }
def k2m38 : Method := { name := "countFailingUnmapped", desc := "()I", sig := { parameters := [], returnType := some .int }, accessFlags := 2, code := some k2c38 }
def k2c39 : Code := { maxStack := 2, maxLocals := 3, code := prog_1_method_40_code, exceptionTable := #[], attributes := #[] }
def k2m39 : Method := { name := "countFreeSpares", desc := "()I", sig := { parameters := [], returnType := some .int }, accessFlags := 2, code := some k2c39 }
def k2c40 : Code := { maxStack := 2, maxLocals := 2, code := prog_1_method_41_code, exceptionTable := #[], attributes := #[] }
def k2m40 : Method := { name := "leastFreeSpare", desc := "()I", sig := { parameters := [], returnType := some .int }, accessFlags := 2, code := some k2c40 }
def k2c41 : Code := { maxStack := 3, maxLocals := 5, code := prog_1_method_42_code, exceptionTable := #[], attributes := #[] }
def k2m41 : Method := { name := "assignSpare", desc := "(II)V", sig := { parameters := [.int, .int], returnType := none }, accessFlags := 2, code := some k2c41 }
def k2c42 : Code := { maxStack := 3, maxLocals := 3, code := prog_1_method_43_code, exceptionTable := #[], attributes := #[] }
def k2m42 : Method := { name := "write", desc := "(II)I", sig := { parameters := [.int, .int], returnType := some .int }, accessFlags := 1, code := some k2c42 }
def k2c43 : Code := { maxStack := 2, maxLocals := 2, code := prog_1_method_44_code, exceptionTable := #[], attributes := #[] }
def k2m43 : Method := { name := "read", desc := "(I)I", sig := { parameters := [.int], returnType := some .int }, accessFlags := 1, code := some k2c43 }
def k2c44 : Code := { maxStack := 4, maxLocals := 2, code := prog_1_method_45_code, exceptionTable := #[], attributes := #[] }
def k2m44 : Method := { name := "physical", desc := "(I)I", sig := { parameters := [.int], returnType := some .int }, accessFlags := 1, code := some k2c44 }
def k2c45 : Code := { maxStack := 1, maxLocals := 1, code := prog_1_method_46_code, exceptionTable := #[], attributes := #[] }
def k2m45 : Method := { name := "latch", desc := "()I", sig := { parameters := [], returnType := some .int }, accessFlags := 1, code := some k2c45 }
def k2c46 : Code := { maxStack := 2, maxLocals := 2, code := prog_1_method_47_code, exceptionTable := #[], attributes := #[] }
def k2m46 : Method := { name := "isAddress", desc := "(I)Z", sig := { parameters := [.int], returnType := some .boolean }, accessFlags := 2, code := some k2c46 }
def k2c47 : Code := { maxStack := 3, maxLocals := 4, code := prog_1_method_48_code, exceptionTable := #[], attributes := #[] }
def k2m47 : Method := { name := "routedCell", desc := "(I)I", sig := { parameters := [.int], returnType := some .int }, accessFlags := 2, code := some k2c47 }
def k2c48 : Code := { maxStack := 3, maxLocals := 4, code := prog_1_method_49_code, exceptionTable := #[], attributes := #[] }
def k2m48 : Method := { name := "readRouted", desc := "(I)I", sig := { parameters := [.int], returnType := some .int }, accessFlags := 2, code := some k2c48 }
def k2c49 : Code := { maxStack := 2, maxLocals := 3, code := prog_1_method_50_code, exceptionTable := #[], attributes := #[] }
def k2m49 : Method := { name := "readMain", desc := "(I)I", sig := { parameters := [.int], returnType := some .int }, accessFlags := 2, code := some k2c49 }
def k2c50 : Code := { maxStack := 4, maxLocals := 4, code := prog_1_method_51_code, exceptionTable := #[], attributes := #[] }
def k2m50 : Method := { name := "writeRouted", desc := "(II)V", sig := { parameters := [.int, .int], returnType := none }, accessFlags := 2, code := some k2c50 }
def k2c51 : Code := { maxStack := 4, maxLocals := 5, code := prog_1_method_52_code, exceptionTable := #[], attributes := #[] }
def k2m51 : Method := { name := "writeMain", desc := "(II)V", sig := { parameters := [.int, .int], returnType := none }, accessFlags := 2, code := some k2c51 }
def k2c52 : Code := { maxStack := 2, maxLocals := 5, code := prog_1_method_53_code, exceptionTable := #[], attributes := #[] }
def k2m52 : Method := { name := "faultyNewBit", desc := "(III)I", sig := { parameters := [.int, .int, .int], returnType := some .int }, accessFlags := 2, code := some k2c52 }
def k2c53 : Code := { maxStack := 4, maxLocals := 5, code := prog_1_method_54_code, exceptionTable := #[], attributes := #[] }
def k2m53 : Method := { name := "fireCouplings", desc := "(IZ)V", sig := { parameters := [.int, .boolean], returnType := none }, accessFlags := 2, code := some k2c53 }
def k2c54 : Code := { maxStack := 2, maxLocals := 4, code := prog_1_method_55_code, exceptionTable := #[], attributes := #[] }
def k2m54 : Method := { name := "triggerMatches", desc := "(IZ)Z", sig := { parameters := [.int, .boolean], returnType := some .boolean }, accessFlags := 2, code := some k2c54 }
def k2c55 : Code := { maxStack := 2, maxLocals := 2, code := prog_1_method_56_code, exceptionTable := #[], attributes := #[] }
def k2m55 : Method := { name := "forcedBit", desc := "(I)I", sig := { parameters := [.int], returnType := some .int }, accessFlags := 2, code := some k2c55 }
def k2c56 : Code := { maxStack := 4, maxLocals := 3, code := prog_1_method_57_code, exceptionTable := #[], attributes := #[] }
def k2m56 : Method := { name := "forceVictim", desc := "(II)V", sig := { parameters := [.int, .int], returnType := none }, accessFlags := 2, code := some k2c56 }
def k2c57 : Code := { maxStack := 2, maxLocals := 4, code := prog_1_method_58_code, exceptionTable := #[], attributes := #[] }
def k2m57 : Method := { name := "clamp", desc := "(III)I", sig := { parameters := [.int, .int, .int], returnType := some .int }, accessFlags := 2, code := some k2c57 }
/-- MarchBist -/
def k2 : Class := { plain "MarchBist" (some 0) with
  accessFlags := 49
  interfaces := #[]
  cf := some (fileOf pool2 8 #[] #[{ accessFlags := 1, nameIndex := 5, descriptorIndex := 161, attributes := #[] }, { accessFlags := 1, nameIndex := 268, descriptorIndex := 83, attributes := #[] }, { accessFlags := 1, nameIndex := 269, descriptorIndex := 6, attributes := #[] }, { accessFlags := 1, nameIndex := 270, descriptorIndex := 133, attributes := #[] }, { accessFlags := 2, nameIndex := 82, descriptorIndex := 83, attributes := #[] }, { accessFlags := 2, nameIndex := 86, descriptorIndex := 54, attributes := #[] }, { accessFlags := 2, nameIndex := 89, descriptorIndex := 83, attributes := #[] }, { accessFlags := 2, nameIndex := 96, descriptorIndex := 93, attributes := #[] }, { accessFlags := 2, nameIndex := 102, descriptorIndex := 93, attributes := #[] }, { accessFlags := 2, nameIndex := 92, descriptorIndex := 93, attributes := #[] }, { accessFlags := 2, nameIndex := 105, descriptorIndex := 93, attributes := #[] }, { accessFlags := 2, nameIndex := 108, descriptorIndex := 93, attributes := #[] }, { accessFlags := 2, nameIndex := 193, descriptorIndex := 133, attributes := #[] }, { accessFlags := 1, nameIndex := 271, descriptorIndex := 54, attributes := #[] }, { accessFlags := 1, nameIndex := 272, descriptorIndex := 93, attributes := #[] }, { accessFlags := 1, nameIndex := 273, descriptorIndex := 133, attributes := #[] }, { accessFlags := 2, nameIndex := 114, descriptorIndex := 54, attributes := #[] }, { accessFlags := 2, nameIndex := 117, descriptorIndex := 6, attributes := #[] }, { accessFlags := 2, nameIndex := 136, descriptorIndex := 137, attributes := #[] }, { accessFlags := 2, nameIndex := 120, descriptorIndex := 6, attributes := #[] }, { accessFlags := 2, nameIndex := 123, descriptorIndex := 6, attributes := #[] }, { accessFlags := 2, nameIndex := 126, descriptorIndex := 6, attributes := #[] }, { accessFlags := 2, nameIndex := 111, descriptorIndex := 93, attributes := #[] }, { accessFlags := 2, nameIndex := 129, descriptorIndex := 93, attributes := #[] }, { accessFlags := 2, nameIndex := 132, descriptorIndex := 133, attributes := #[] }, { accessFlags := 2, nameIndex := 153, descriptorIndex := 147, attributes := #[] }, { accessFlags := 2, nameIndex := 146, descriptorIndex := 147, attributes := #[] }, { accessFlags := 1, nameIndex := 274, descriptorIndex := 172, attributes := #[] }, { accessFlags := 1, nameIndex := 275, descriptorIndex := 172, attributes := #[] }, { accessFlags := 1, nameIndex := 276, descriptorIndex := 133, attributes := #[] }, { accessFlags := 2, nameIndex := 140, descriptorIndex := 6, attributes := #[] }, { accessFlags := 2, nameIndex := 143, descriptorIndex := 133, attributes := #[] }, { accessFlags := 2, nameIndex := 150, descriptorIndex := 147, attributes := #[] }, { accessFlags := 2, nameIndex := 156, descriptorIndex := 157, attributes := #[] }, { accessFlags := 2, nameIndex := 160, descriptorIndex := 161, attributes := #[] }, { accessFlags := 1, nameIndex := 277, descriptorIndex := 172, attributes := #[] }, { accessFlags := 1, nameIndex := 278, descriptorIndex := 133, attributes := #[] }, { accessFlags := 2, nameIndex := 178, descriptorIndex := 93, attributes := #[] }, { accessFlags := 2, nameIndex := 171, descriptorIndex := 172, attributes := #[] }, { accessFlags := 2, nameIndex := 175, descriptorIndex := 172, attributes := #[] }, { accessFlags := 2, nameIndex := 181, descriptorIndex := 172, attributes := #[] }, { accessFlags := 2, nameIndex := 184, descriptorIndex := 165, attributes := #[] }, { accessFlags := 1, nameIndex := 279, descriptorIndex := 147, attributes := #[] }, { accessFlags := 1, nameIndex := 280, descriptorIndex := 133, attributes := #[] }, { accessFlags := 1, nameIndex := 281, descriptorIndex := 133, attributes := #[] }, { accessFlags := 1, nameIndex := 282, descriptorIndex := 172, attributes := #[] }, { accessFlags := 2, nameIndex := 99, descriptorIndex := 93, attributes := #[] }, { accessFlags := 2, nameIndex := 187, descriptorIndex := 133, attributes := #[] }, { accessFlags := 2, nameIndex := 168, descriptorIndex := 133, attributes := #[] }, { accessFlags := 2, nameIndex := 190, descriptorIndex := 133, attributes := #[] }, { accessFlags := 2, nameIndex := 164, descriptorIndex := 165, attributes := #[] }, { accessFlags := 2, nameIndex := 196, descriptorIndex := 165, attributes := #[] }, { accessFlags := 2, nameIndex := 199, descriptorIndex := 54, attributes := #[] }, { accessFlags := 2, nameIndex := 202, descriptorIndex := 203, attributes := #[] }, { accessFlags := 2, nameIndex := 206, descriptorIndex := 207, attributes := #[] }, { accessFlags := 2, nameIndex := 210, descriptorIndex := 133, attributes := #[] }, { accessFlags := 2, nameIndex := 213, descriptorIndex := 165, attributes := #[] }, { accessFlags := 2, nameIndex := 53, descriptorIndex := 54, attributes := #[] }] 49 2 #[] #[{ accessFlags := 25, nameIndex := 214, descriptorIndex := 58, attributes := #[] }, { accessFlags := 25, nameIndex := 217, descriptorIndex := 58, attributes := #[] }, { accessFlags := 25, nameIndex := 219, descriptorIndex := 58, attributes := #[] }, { accessFlags := 25, nameIndex := 221, descriptorIndex := 58, attributes := #[] }, { accessFlags := 25, nameIndex := 223, descriptorIndex := 58, attributes := #[] }, { accessFlags := 25, nameIndex := 225, descriptorIndex := 58, attributes := #[] }, { accessFlags := 25, nameIndex := 227, descriptorIndex := 58, attributes := #[] }, { accessFlags := 25, nameIndex := 229, descriptorIndex := 58, attributes := #[] }, { accessFlags := 25, nameIndex := 231, descriptorIndex := 58, attributes := #[] }, { accessFlags := 25, nameIndex := 233, descriptorIndex := 58, attributes := #[] }, { accessFlags := 25, nameIndex := 235, descriptorIndex := 58, attributes := #[] }, { accessFlags := 25, nameIndex := 237, descriptorIndex := 58, attributes := #[] }, { accessFlags := 25, nameIndex := 239, descriptorIndex := 58, attributes := #[] }, { accessFlags := 25, nameIndex := 241, descriptorIndex := 58, attributes := #[] }, { accessFlags := 25, nameIndex := 243, descriptorIndex := 58, attributes := #[] }, { accessFlags := 25, nameIndex := 245, descriptorIndex := 58, attributes := #[] }, { accessFlags := 25, nameIndex := 247, descriptorIndex := 58, attributes := #[] }, { accessFlags := 25, nameIndex := 249, descriptorIndex := 58, attributes := #[] }, { accessFlags := 25, nameIndex := 251, descriptorIndex := 58, attributes := #[] }, { accessFlags := 25, nameIndex := 252, descriptorIndex := 58, attributes := #[] }, { accessFlags := 25, nameIndex := 253, descriptorIndex := 58, attributes := #[] }, { accessFlags := 25, nameIndex := 254, descriptorIndex := 58, attributes := #[] }, { accessFlags := 25, nameIndex := 255, descriptorIndex := 58, attributes := #[] }, { accessFlags := 25, nameIndex := 256, descriptorIndex := 58, attributes := #[] }, { accessFlags := 25, nameIndex := 257, descriptorIndex := 58, attributes := #[] }, { accessFlags := 25, nameIndex := 258, descriptorIndex := 58, attributes := #[] }, { accessFlags := 25, nameIndex := 259, descriptorIndex := 58, attributes := #[] }, { accessFlags := 25, nameIndex := 260, descriptorIndex := 58, attributes := #[] }, { accessFlags := 25, nameIndex := 261, descriptorIndex := 58, attributes := #[] }, { accessFlags := 25, nameIndex := 262, descriptorIndex := 58, attributes := #[] }, { accessFlags := 25, nameIndex := 263, descriptorIndex := 58, attributes := #[] }, { accessFlags := 25, nameIndex := 264, descriptorIndex := 58, attributes := #[] }, { accessFlags := 2, nameIndex := 57, descriptorIndex := 58, attributes := #[] }, { accessFlags := 2, nameIndex := 61, descriptorIndex := 58, attributes := #[] }, { accessFlags := 2, nameIndex := 64, descriptorIndex := 58, attributes := #[] }, { accessFlags := 2, nameIndex := 11, descriptorIndex := 12, attributes := #[] }, { accessFlags := 2, nameIndex := 67, descriptorIndex := 58, attributes := #[] }, { accessFlags := 2, nameIndex := 70, descriptorIndex := 58, attributes := #[] }, { accessFlags := 2, nameIndex := 15, descriptorIndex := 16, attributes := #[] }, { accessFlags := 2, nameIndex := 19, descriptorIndex := 16, attributes := #[] }, { accessFlags := 2, nameIndex := 22, descriptorIndex := 16, attributes := #[] }, { accessFlags := 2, nameIndex := 25, descriptorIndex := 16, attributes := #[] }, { accessFlags := 2, nameIndex := 28, descriptorIndex := 16, attributes := #[] }, { accessFlags := 2, nameIndex := 31, descriptorIndex := 16, attributes := #[] }, { accessFlags := 2, nameIndex := 73, descriptorIndex := 58, attributes := #[] }, { accessFlags := 2, nameIndex := 34, descriptorIndex := 16, attributes := #[] }, { accessFlags := 2, nameIndex := 37, descriptorIndex := 16, attributes := #[] }, { accessFlags := 2, nameIndex := 40, descriptorIndex := 16, attributes := #[] }, { accessFlags := 2, nameIndex := 76, descriptorIndex := 58, attributes := #[] }, { accessFlags := 2, nameIndex := 43, descriptorIndex := 16, attributes := #[] }, { accessFlags := 2, nameIndex := 79, descriptorIndex := 58, attributes := #[] }, { accessFlags := 2, nameIndex := 46, descriptorIndex := 16, attributes := #[] }, { accessFlags := 2, nameIndex := 49, descriptorIndex := 50, attributes := #[] }])
  fields := #[{ name := "OK", type := .int, accessFlags := 25, slot := 0, constantValue := 0 }, { name := "ERR_ADDR", type := .int, accessFlags := 25, slot := 1, constantValue := 0 }, { name := "ERR_BIT", type := .int, accessFlags := 25, slot := 2, constantValue := 0 }, { name := "ERR_KIND", type := .int, accessFlags := 25, slot := 3, constantValue := 0 }, { name := "ERR_SAME", type := .int, accessFlags := 25, slot := 4, constantValue := 0 }, { name := "ERR_TRIGGER", type := .int, accessFlags := 25, slot := 5, constantValue := 0 }, { name := "ERR_FULL", type := .int, accessFlags := 25, slot := 6, constantValue := 0 }, { name := "ERR_BUSY", type := .int, accessFlags := 25, slot := 7, constantValue := 0 }, { name := "ERR_ORDER", type := .int, accessFlags := 25, slot := 8, constantValue := 0 }, { name := "ERR_COUNT", type := .int, accessFlags := 25, slot := 9, constantValue := 0 }, { name := "ERR_EMPTY", type := .int, accessFlags := 25, slot := 10, constantValue := 0 }, { name := "ERR_NOSPARE", type := .int, accessFlags := 25, slot := 11, constantValue := 0 }, { name := "FAULT_SA0", type := .int, accessFlags := 25, slot := 12, constantValue := 0 }, { name := "FAULT_SA1", type := .int, accessFlags := 25, slot := 13, constantValue := 0 }, { name := "FAULT_TF_UP", type := .int, accessFlags := 25, slot := 14, constantValue := 0 }, { name := "FAULT_TF_DOWN", type := .int, accessFlags := 25, slot := 15, constantValue := 0 }, { name := "FAULT_SOF", type := .int, accessFlags := 25, slot := 16, constantValue := 0 }, { name := "FAULT_CFID", type := .int, accessFlags := 25, slot := 17, constantValue := 0 }, { name := "TRIG_UP_0", type := .int, accessFlags := 25, slot := 18, constantValue := 0 }, { name := "TRIG_UP_1", type := .int, accessFlags := 25, slot := 19, constantValue := 0 }, { name := "TRIG_DOWN_0", type := .int, accessFlags := 25, slot := 20, constantValue := 0 }, { name := "TRIG_DOWN_1", type := .int, accessFlags := 25, slot := 21, constantValue := 0 }, { name := "ORDER_UP", type := .int, accessFlags := 25, slot := 22, constantValue := 0 }, { name := "ORDER_DOWN", type := .int, accessFlags := 25, slot := 23, constantValue := 0 }, { name := "OP_R0", type := .int, accessFlags := 25, slot := 24, constantValue := 0 }, { name := "OP_R1", type := .int, accessFlags := 25, slot := 25, constantValue := 0 }, { name := "OP_W0", type := .int, accessFlags := 25, slot := 26, constantValue := 0 }, { name := "OP_W1", type := .int, accessFlags := 25, slot := 27, constantValue := 0 }, { name := "PRESET_EMPTY", type := .int, accessFlags := 25, slot := 28, constantValue := 0 }, { name := "PRESET_MATS_PLUS", type := .int, accessFlags := 25, slot := 29, constantValue := 0 }, { name := "PRESET_MARCH_C_MINUS", type := .int, accessFlags := 25, slot := 30, constantValue := 0 }, { name := "PRESET_MARCH_CRB", type := .int, accessFlags := 25, slot := 31, constantValue := 0 }, { name := "spareRows", type := .int, accessFlags := 2, slot := 0, constantValue := 0 }, { name := "faultLimit", type := .int, accessFlags := 2, slot := 1, constantValue := 0 }, { name := "logLimit", type := .int, accessFlags := 2, slot := 2, constantValue := 0 }, { name := "cells", type := (.array .byte), accessFlags := 2, slot := 3, constantValue := 0 }, { name := "latchBit", type := .int, accessFlags := 2, slot := 4, constantValue := 0 }, { name := "faultCount", type := .int, accessFlags := 2, slot := 5, constantValue := 0 }, { name := "faultKind", type := (.array .int), accessFlags := 2, slot := 6, constantValue := 0 }, { name := "faultVictim", type := (.array .int), accessFlags := 2, slot := 7, constantValue := 0 }, { name := "faultAggressor", type := (.array .int), accessFlags := 2, slot := 8, constantValue := 0 }, { name := "faultTrigger", type := (.array .int), accessFlags := 2, slot := 9, constantValue := 0 }, { name := "victimSlot", type := (.array .int), accessFlags := 2, slot := 10, constantValue := 0 }, { name := "aggressorUses", type := (.array .int), accessFlags := 2, slot := 11, constantValue := 0 }, { name := "programLength", type := .int, accessFlags := 2, slot := 12, constantValue := 0 }, { name := "elementOrder", type := (.array .int), accessFlags := 2, slot := 13, constantValue := 0 }, { name := "elementCount", type := (.array .int), accessFlags := 2, slot := 14, constantValue := 0 }, { name := "elementOps", type := (.array .int), accessFlags := 2, slot := 15, constantValue := 0 }, { name := "logLength", type := .int, accessFlags := 2, slot := 16, constantValue := 0 }, { name := "logBuffer", type := (.array .int), accessFlags := 2, slot := 17, constantValue := 0 }, { name := "failMask", type := .int, accessFlags := 2, slot := 18, constantValue := 0 }, { name := "remap", type := (.array .int), accessFlags := 2, slot := 19, constantValue := 0 }, { name := "spareTaken", type := (.array .boolean), accessFlags := 2, slot := 20, constantValue := 0 }]
  methods := #[k2m0, k2m1, k2m2, k2m3, k2m4, k2m5, k2m6, k2m7, k2m8, k2m9, k2m10, k2m11, k2m12, k2m13, k2m14, k2m15, k2m16, k2m17, k2m18, k2m19, k2m20, k2m21, k2m22, k2m23, k2m24, k2m25, k2m26, k2m27, k2m28, k2m29, k2m30, k2m31, k2m32, k2m33, k2m34, k2m35, k2m36, k2m37, k2m38, k2m39, k2m40, k2m41, k2m42, k2m43, k2m44, k2m45, k2m46, k2m47, k2m48, k2m49, k2m50, k2m51, k2m52, k2m53, k2m54, k2m55, k2m56, k2m57]
  instanceTypes := #[.int, .int, .int, (.array .byte), .int, .int, (.array .int), (.array .int), (.array .int), (.array .int), (.array .int), (.array .int), .int, (.array .int), (.array .int), (.array .int), .int, (.array .int), .int, (.array .int), (.array .boolean)]
  staticTypes := #[.int, .int, .int, .int, .int, .int, .int, .int, .int, .int, .int, .int, .int, .int, .int, .int, .int, .int, .int, .int, .int, .int, .int, .int, .int, .int, .int, .int, .int, .int, .int, .int]
  resolved := Array.replicate 285 none
  statics := none }

def pool3 : Array CpInfo := pool [(1, u "java/lang/Cloneable"), (0, .class_ 1), (0, u "java/lang/Object"), (0, .class_ 3)] 3

/-- java/lang/Cloneable -/
def k3 : Class := { plain "java/lang/Cloneable" (some 0) with
  accessFlags := 1537
  interfaces := #[]
  cf := some (fileOf pool3 2 #[] #[] 1537 4 #[] #[])
  fields := #[]
  methods := #[]
  instanceTypes := #[]
  staticTypes := #[]
  resolved := Array.replicate 8 none
  statics := none }

def pool4 : Array CpInfo := pool [(1, u "java/io/Serializable"), (0, .class_ 1), (0, u "java/lang/Object"), (0, .class_ 3)] 3

/-- java/io/Serializable -/
def k4 : Class := { plain "java/io/Serializable" (some 0) with
  accessFlags := 1537
  interfaces := #[]
  cf := some (fileOf pool4 2 #[] #[] 1537 4 #[] #[])
  fields := #[]
  methods := #[]
  instanceTypes := #[]
  staticTypes := #[]
  resolved := Array.replicate 8 none
  statics := none }

/-- the primitive boolean -/
def k5 : Class := { plain "boolean" none with kind := .primitive 'Z', accessFlags := 0x411 }
/-- [Z -/
def k6 : Class := { plain "[Z" (some 0) with kind := .array 5 .boolean, interfaces := #[3, 4], accessFlags := 1041 }

/-- the primitive byte -/
def k7 : Class := { plain "byte" none with kind := .primitive 'B', accessFlags := 0x411 }
/-- [B -/
def k8 : Class := { plain "[B" (some 0) with kind := .array 7 .byte, interfaces := #[3, 4], accessFlags := 1041 }

/-- the primitive int -/
def k9 : Class := { plain "int" none with kind := .primitive 'I', accessFlags := 0x411 }
/-- [I -/
def k10 : Class := { plain "[I" (some 0) with kind := .array 9 .int, interfaces := #[3, 4], accessFlags := 1041 }

def heap : Heap := #[{ cls := 10, slots := #[.int 0], vm := .none }]
def classes : Array Class := #[k0, k1, k2, k3, k4, k5, k6, k7, k8, k9, k10]
def interned : List (Array UInt16 × Addr) := []
def slotsUsed : Nat := 1
def theMethod : MethodId := ⟨1, 2⟩
def args0 : Array Value := #[.ref 0]
def aboutOver (below : List Frame) : State where
  vm := { classes := classes, interned := interned.toArray }
  heap := heap
  slotsUsed := slotsUsed
  threads := #[{ frames := .invoking theMethod args0 :: below }]
def below0 : List Frame := [.native { method := ⟨0, 0⟩, args := #[] }]
def about1 : State := aboutOver below0
def p0 : Program := .bare "" "" ""
def e0 : Env := launch0.env 0 0 0
theorem w_frames : about1.frames = Frame.invoking theMethod args0 :: below0 := rfl
set_option maxRecDepth 65536 in
theorem w_args : argsFit about1.vm theMethod args0 = true := by decide +kernel
set_option maxRecDepth 65536 in
theorem w_heap : heapFits about1 = true := by decide +kernel
set_option maxRecDepth 65536 in
theorem w_runnable : about1.curStatus? = some .runnable := by decide +kernel
set_option maxRecDepth 65536 in
theorem w_alone : about1.alone = true := by decide +kernel
set_option maxRecDepth 65536 in
theorem w_named : about1.methodNamed? x = some theMethod := by decide +kernel
set_option maxRecDepth 65536 in
theorem w_hears : about1.hears theMethod below0 = true := by decide +kernel
set_option maxRecDepth 65536 in
theorem w_ripe : about1.ripe theMethod args0 below0 = true := by decide +kernel
theorem w_running : about1.status = .running := rfl
set_option maxRecDepth 65536 in
theorem w_room : about1.hasRoom e0.platform room_1 = true :=
  launch0.hasRoom_least _ room_1 (by decide +kernel) (by decide +kernel) (by decide +kernel) (by decide +kernel) (by decide +kernel) (by decide +kernel)
theorem allAtoms_all (ts : List Jvm.Cond) (a : Array Jvm.Value) (st : Jvm.State) : (allAtoms ts).before a st = ts.all (fun c => c.before a st) := by
  induction ts with
  | nil => rfl
  | cons c t ih =>
    show (Jvm.Cond.and c (allAtoms t)).before a st = _
    rw [Jvm.Cond.before_and, ih, List.all_cons]
def words1 : List Jvm.Cond := Jvm.Cond.code x code maxLocals ret :: tables_1
/-- a 'code' word, met by the world's own term for the bytes: nothing is compared byte by byte -/
theorem code_word {y : MethodName} {bytes : ByteArray} {mx : Nat} {rt : Option FieldType} {a : Array Value} {s : State} {m : MethodId} {meth : Method} {c : Code} (h1 : s.methodNamed? y = some m) (h2 : s.vm.method? m = some meth) (h3 : meth.code = some c) (h4 : c.code = bytes)
    (h5 : (c.maxLocals == mx && c.exceptionTable.isEmpty && decide (c.maxStack ≤ mostOperands) && decide (meth.sig.returnType = rt) && !meth.locks && decide (parseMethodDescriptor y.desc = some meth.sig)) = true) : (Jvm.Cond.code y bytes mx rt).before a s = true := by
  simp only [Bool.and_eq_true, beq_iff_eq, Bool.not_eq_true', decide_eq_true_eq] at h5
  obtain ⟨⟨⟨⟨⟨g1, g2⟩, g3⟩, g4⟩, g5⟩, g6⟩ := h5
  simp [Cond.before, Cond.holds, Cond.value, h1, h2, h3, h4, g1, g2, g3, g4, g5, g6]
def isCode : Jvm.Cond → Bool
  | .code _ _ _ _ => true
  | _ => false
theorem all_split {L : List Jvm.Cond} {P : Jvm.Cond → Bool} (h1 : L.all (fun c => isCode c || P c) = true) (h2 : ∀ c ∈ L.filter isCode, P c = true) : L.all P = true := by
  refine List.all_eq_true.mpr fun c hc => ?_
  have h := List.all_eq_true.mp h1 c hc
  rcases Bool.eq_false_or_eq_true (isCode c) with hi | hi
  · exact h2 c (List.mem_filter.mpr ⟨hc, hi⟩)
  · simpa [hi] using h
set_option maxRecDepth 65536 in
theorem w_c0 : (Jvm.Cond.code x code maxLocals ret).before args0 about1 = true := code_word (m := ⟨1, 2⟩) (meth := k1m2) (c := k1c2) (by decide +kernel) rfl rfl rfl (by decide +kernel)
set_option maxRecDepth 65536 in
theorem w_c1 : (Jvm.Cond.code ({ cls := "MarchBist", name := "<init>", desc := "(III)V" } : Jvm.MethodName) prog_1_method_1_code (5 : Nat) (Option.none : Option Jvm.ClassFile.FieldType)).before args0 about1 = true := code_word (m := ⟨2, 0⟩) (meth := k2m0) (c := k2c0) (by decide +kernel) rfl rfl rfl (by decide +kernel)
set_option maxRecDepth 65536 in
theorem w_c2 : (Jvm.Cond.code ({ cls := "java/lang/Object", name := "<init>", desc := "()V" } : Jvm.MethodName) object_method_1_code (1 : Nat) (Option.none : Option Jvm.ClassFile.FieldType)).before args0 about1 = true := code_word (m := ⟨0, 0⟩) (meth := k0m0) (c := k0c0) (by decide +kernel) rfl rfl rfl (by decide +kernel)
set_option maxRecDepth 65536 in
theorem w_c3 : (Jvm.Cond.code ({ cls := "MarchBist", name := "clamp", desc := "(III)I" } : Jvm.MethodName) prog_1_method_58_code (4 : Nat) (Option.some Jvm.ClassFile.FieldType.int)).before args0 about1 = true := code_word (m := ⟨2, 57⟩) (meth := k2m57) (c := k2c57) (by decide +kernel) rfl rfl rfl (by decide +kernel)
set_option maxRecDepth 65536 in
theorem w_c4 : (Jvm.Cond.code ({ cls := "MarchBist", name := "loadPreset", desc := "(I)Z" } : Jvm.MethodName) prog_1_method_15_code (2 : Nat) (Option.some Jvm.ClassFile.FieldType.boolean)).before args0 about1 = true := code_word (m := ⟨2, 14⟩) (meth := k2m14) (c := k2c14) (by decide +kernel) rfl rfl rfl (by decide +kernel)
set_option maxRecDepth 65536 in
theorem w_c5 : (Jvm.Cond.code ({ cls := "MarchBist", name := "clearProgram", desc := "()V" } : Jvm.MethodName) prog_1_method_18_code (2 : Nat) (Option.none : Option Jvm.ClassFile.FieldType)).before args0 about1 = true := code_word (m := ⟨2, 17⟩) (meth := k2m17) (c := k2c17) (by decide +kernel) rfl rfl rfl (by decide +kernel)
set_option maxRecDepth 65536 in
theorem w_c6 : (Jvm.Cond.code ({ cls := "MarchBist", name := "loadMarchCMinus", desc := "()V" } : Jvm.MethodName) prog_1_method_21_code (1 : Nat) (Option.none : Option Jvm.ClassFile.FieldType)).before args0 about1 = true := code_word (m := ⟨2, 20⟩) (meth := k2m20) (c := k2c20) (by decide +kernel) rfl rfl rfl (by decide +kernel)
set_option maxRecDepth 65536 in
theorem w_c7 : (Jvm.Cond.code ({ cls := "MarchBist", name := "presetElement", desc := "(IIIII)V" } : Jvm.MethodName) prog_1_method_19_code (7 : Nat) (Option.none : Option Jvm.ClassFile.FieldType)).before args0 about1 = true := code_word (m := ⟨2, 18⟩) (meth := k2m18) (c := k2c18) (by decide +kernel) rfl rfl rfl (by decide +kernel)
set_option maxRecDepth 65536 in
theorem w_c8 : (Jvm.Cond.code ({ cls := "MarchBist", name := "appendElement", desc := "(III)I" } : Jvm.MethodName) prog_1_method_17_code (5 : Nat) (Option.some Jvm.ClassFile.FieldType.int)).before args0 about1 = true := code_word (m := ⟨2, 16⟩) (meth := k2m16) (c := k2c16) (by decide +kernel) rfl rfl rfl (by decide +kernel)
set_option maxRecDepth 65536 in
theorem w_c9 : (Jvm.Cond.code ({ cls := "MarchBist", name := "opsMask", desc := "(I)I" } : Jvm.MethodName) prog_1_method_25_code (2 : Nat) (Option.some Jvm.ClassFile.FieldType.int)).before args0 about1 = true := code_word (m := ⟨2, 24⟩) (meth := k2m24) (c := k2c24) (by decide +kernel) rfl rfl rfl (by decide +kernel)
set_option maxRecDepth 65536 in
theorem w_c10 : (Jvm.Cond.code ({ cls := "MarchBist", name := "latch", desc := "()I" } : Jvm.MethodName) prog_1_method_46_code (1 : Nat) (Option.some Jvm.ClassFile.FieldType.int)).before args0 about1 = true := code_word (m := ⟨2, 45⟩) (meth := k2m45) (c := k2c45) (by decide +kernel) rfl rfl rfl (by decide +kernel)
set_option maxRecDepth 65536 in
theorem w_c11 : (Jvm.Cond.code ({ cls := "MarchBist", name := "failRows", desc := "()I" } : Jvm.MethodName) prog_1_method_29_code (1 : Nat) (Option.some Jvm.ClassFile.FieldType.int)).before args0 about1 = true := code_word (m := ⟨2, 28⟩) (meth := k2m28) (c := k2c28) (by decide +kernel) rfl rfl rfl (by decide +kernel)
set_option maxRecDepth 65536 in
theorem w_c12 : (Jvm.Cond.code ({ cls := "MarchBist", name := "faultInfo", desc := "(I)I" } : Jvm.MethodName) prog_1_method_4_code (3 : Nat) (Option.some Jvm.ClassFile.FieldType.int)).before args0 about1 = true := code_word (m := ⟨2, 3⟩) (meth := k2m3) (c := k2c3) (by decide +kernel) rfl rfl rfl (by decide +kernel)
set_option maxRecDepth 65536 in
theorem w_c13 : (Jvm.Cond.code ({ cls := "MarchBist", name := "isFaultNumber", desc := "(I)Z" } : Jvm.MethodName) prog_1_method_10_code (2 : Nat) (Option.some Jvm.ClassFile.FieldType.boolean)).before args0 about1 = true := code_word (m := ⟨2, 9⟩) (meth := k2m9) (c := k2c9) (by decide +kernel) rfl rfl rfl (by decide +kernel)
set_option maxRecDepth 65536 in
theorem w_c14 : (Jvm.Cond.code ({ cls := "MarchBist", name := "programElement", desc := "(I)I" } : Jvm.MethodName) prog_1_method_16_code (3 : Nat) (Option.some Jvm.ClassFile.FieldType.int)).before args0 about1 = true := code_word (m := ⟨2, 15⟩) (meth := k2m15) (c := k2c15) (by decide +kernel) rfl rfl rfl (by decide +kernel)
set_option maxRecDepth 65536 in
theorem w_c15 : (Jvm.Cond.code ({ cls := "MarchBist", name := "isElementIndex", desc := "(I)Z" } : Jvm.MethodName) prog_1_method_24_code (2 : Nat) (Option.some Jvm.ClassFile.FieldType.boolean)).before args0 about1 = true := code_word (m := ⟨2, 23⟩) (meth := k2m23) (c := k2c23) (by decide +kernel) rfl rfl rfl (by decide +kernel)
set_option maxRecDepth 65536 in
theorem w_c16 : (Jvm.Cond.code ({ cls := "MarchBist", name := "logEntry", desc := "(I)I" } : Jvm.MethodName) prog_1_method_30_code (2 : Nat) (Option.some Jvm.ClassFile.FieldType.int)).before args0 about1 = true := code_word (m := ⟨2, 29⟩) (meth := k2m29) (c := k2c29) (by decide +kernel) rfl rfl rfl (by decide +kernel)
set_option maxRecDepth 65536 in
theorem w_c17 : (Jvm.Cond.code ({ cls := "MarchBist", name := "rowMap", desc := "(I)I" } : Jvm.MethodName) prog_1_method_37_code (2 : Nat) (Option.some Jvm.ClassFile.FieldType.int)).before args0 about1 = true := code_word (m := ⟨2, 36⟩) (meth := k2m36) (c := k2c36) (by decide +kernel) rfl rfl rfl (by decide +kernel)
set_option maxRecDepth 65536 in
theorem w_c18 : (Jvm.Cond.code ({ cls := "MarchBist", name := "loadMatsPlus", desc := "()V" } : Jvm.MethodName) prog_1_method_20_code (1 : Nat) (Option.none : Option Jvm.ClassFile.FieldType)).before args0 about1 = true := code_word (m := ⟨2, 19⟩) (meth := k2m19) (c := k2c19) (by decide +kernel) rfl rfl rfl (by decide +kernel)
set_option maxRecDepth 65536 in
theorem w_c19 : (Jvm.Cond.code ({ cls := "MarchBist", name := "clearFaults", desc := "()V" } : Jvm.MethodName) prog_1_method_3_code (2 : Nat) (Option.none : Option Jvm.ClassFile.FieldType)).before args0 about1 = true := code_word (m := ⟨2, 2⟩) (meth := k2m2) (c := k2c2) (by decide +kernel) rfl rfl rfl (by decide +kernel)
set_option maxRecDepth 65536 in
theorem w_c20 : (Jvm.Cond.code ({ cls := "MarchBist", name := "loadMarchCrb", desc := "()V" } : Jvm.MethodName) prog_1_method_22_code (1 : Nat) (Option.none : Option Jvm.ClassFile.FieldType)).before args0 about1 = true := code_word (m := ⟨2, 21⟩) (meth := k2m21) (c := k2c21) (by decide +kernel) rfl rfl rfl (by decide +kernel)
set_option maxRecDepth 65536 in
theorem w_c21 : (Jvm.Cond.code ({ cls := "MarchBist", name := "inject", desc := "(IIII)I" } : Jvm.MethodName) prog_1_method_2_code (6 : Nat) (Option.some Jvm.ClassFile.FieldType.int)).before args0 about1 = true := code_word (m := ⟨2, 1⟩) (meth := k2m1) (c := k2c1) (by decide +kernel) rfl rfl rfl (by decide +kernel)
set_option maxRecDepth 65536 in
theorem w_c22 : (Jvm.Cond.code ({ cls := "MarchBist", name := "validateFaultArguments", desc := "(IIII)I" } : Jvm.MethodName) prog_1_method_5_code (5 : Nat) (Option.some Jvm.ClassFile.FieldType.int)).before args0 about1 = true := code_word (m := ⟨2, 4⟩) (meth := k2m4) (c := k2c4) (by decide +kernel) rfl rfl rfl (by decide +kernel)
set_option maxRecDepth 65536 in
theorem w_c23 : (Jvm.Cond.code ({ cls := "MarchBist", name := "isFaultKind", desc := "(I)Z" } : Jvm.MethodName) prog_1_method_8_code (2 : Nat) (Option.some Jvm.ClassFile.FieldType.boolean)).before args0 about1 = true := code_word (m := ⟨2, 7⟩) (meth := k2m7) (c := k2c7) (by decide +kernel) rfl rfl rfl (by decide +kernel)
set_option maxRecDepth 65536 in
theorem w_c24 : (Jvm.Cond.code ({ cls := "MarchBist", name := "isAddress", desc := "(I)Z" } : Jvm.MethodName) prog_1_method_47_code (2 : Nat) (Option.some Jvm.ClassFile.FieldType.boolean)).before args0 about1 = true := code_word (m := ⟨2, 46⟩) (meth := k2m46) (c := k2c46) (by decide +kernel) rfl rfl rfl (by decide +kernel)
set_option maxRecDepth 65536 in
theorem w_c25 : (Jvm.Cond.code ({ cls := "MarchBist", name := "validateFaultRoom", desc := "(III)I" } : Jvm.MethodName) prog_1_method_6_code (4 : Nat) (Option.some Jvm.ClassFile.FieldType.int)).before args0 about1 = true := code_word (m := ⟨2, 5⟩) (meth := k2m5) (c := k2c5) (by decide +kernel) rfl rfl rfl (by decide +kernel)
set_option maxRecDepth 65536 in
theorem w_c26 : (Jvm.Cond.code ({ cls := "MarchBist", name := "isVictim", desc := "(I)Z" } : Jvm.MethodName) prog_1_method_11_code (2 : Nat) (Option.some Jvm.ClassFile.FieldType.boolean)).before args0 about1 = true := code_word (m := ⟨2, 10⟩) (meth := k2m10) (c := k2c10) (by decide +kernel) rfl rfl rfl (by decide +kernel)
set_option maxRecDepth 65536 in
theorem w_c27 : (Jvm.Cond.code ({ cls := "MarchBist", name := "isAggressor", desc := "(I)Z" } : Jvm.MethodName) prog_1_method_12_code (2 : Nat) (Option.some Jvm.ClassFile.FieldType.boolean)).before args0 about1 = true := code_word (m := ⟨2, 11⟩) (meth := k2m11) (c := k2c11) (by decide +kernel) rfl rfl rfl (by decide +kernel)
set_option maxRecDepth 65536 in
theorem w_c28 : (Jvm.Cond.code ({ cls := "MarchBist", name := "appendFault", desc := "(IIII)I" } : Jvm.MethodName) prog_1_method_7_code (6 : Nat) (Option.some Jvm.ClassFile.FieldType.int)).before args0 about1 = true := code_word (m := ⟨2, 6⟩) (meth := k2m6) (c := k2c6) (by decide +kernel) rfl rfl rfl (by decide +kernel)
set_option maxRecDepth 65536 in
theorem w_c29 : (Jvm.Cond.code ({ cls := "MarchBist", name := "addElement", desc := "(III)I" } : Jvm.MethodName) prog_1_method_14_code (4 : Nat) (Option.some Jvm.ClassFile.FieldType.int)).before args0 about1 = true := code_word (m := ⟨2, 13⟩) (meth := k2m13) (c := k2c13) (by decide +kernel) rfl rfl rfl (by decide +kernel)
set_option maxRecDepth 65536 in
theorem w_c30 : (Jvm.Cond.code ({ cls := "MarchBist", name := "isOrder", desc := "(I)Z" } : Jvm.MethodName) prog_1_method_23_code (2 : Nat) (Option.some Jvm.ClassFile.FieldType.boolean)).before args0 about1 = true := code_word (m := ⟨2, 22⟩) (meth := k2m22) (c := k2c22) (by decide +kernel) rfl rfl rfl (by decide +kernel)
set_option maxRecDepth 65536 in
theorem w_c31 : (Jvm.Cond.code ({ cls := "MarchBist", name := "write", desc := "(II)I" } : Jvm.MethodName) prog_1_method_43_code (3 : Nat) (Option.some Jvm.ClassFile.FieldType.int)).before args0 about1 = true := code_word (m := ⟨2, 42⟩) (meth := k2m42) (c := k2c42) (by decide +kernel) rfl rfl rfl (by decide +kernel)
set_option maxRecDepth 65536 in
theorem w_c32 : (Jvm.Cond.code ({ cls := "MarchBist", name := "writeRouted", desc := "(II)V" } : Jvm.MethodName) prog_1_method_51_code (4 : Nat) (Option.none : Option Jvm.ClassFile.FieldType)).before args0 about1 = true := code_word (m := ⟨2, 50⟩) (meth := k2m50) (c := k2c50) (by decide +kernel) rfl rfl rfl (by decide +kernel)
set_option maxRecDepth 65536 in
theorem w_c33 : (Jvm.Cond.code ({ cls := "MarchBist", name := "routedCell", desc := "(I)I" } : Jvm.MethodName) prog_1_method_48_code (4 : Nat) (Option.some Jvm.ClassFile.FieldType.int)).before args0 about1 = true := code_word (m := ⟨2, 47⟩) (meth := k2m47) (c := k2c47) (by decide +kernel) rfl rfl rfl (by decide +kernel)
set_option maxRecDepth 65536 in
theorem w_c34 : (Jvm.Cond.code ({ cls := "MarchBist", name := "writeMain", desc := "(II)V" } : Jvm.MethodName) prog_1_method_52_code (5 : Nat) (Option.none : Option Jvm.ClassFile.FieldType)).before args0 about1 = true := code_word (m := ⟨2, 51⟩) (meth := k2m51) (c := k2c51) (by decide +kernel) rfl rfl rfl (by decide +kernel)
set_option maxRecDepth 65536 in
theorem w_c35 : (Jvm.Cond.code ({ cls := "MarchBist", name := "faultyNewBit", desc := "(III)I" } : Jvm.MethodName) prog_1_method_53_code (5 : Nat) (Option.some Jvm.ClassFile.FieldType.int)).before args0 about1 = true := code_word (m := ⟨2, 52⟩) (meth := k2m52) (c := k2c52) (by decide +kernel) rfl rfl rfl (by decide +kernel)
set_option maxRecDepth 65536 in
theorem w_c36 : (Jvm.Cond.code ({ cls := "MarchBist", name := "victimKind", desc := "(I)I" } : Jvm.MethodName) prog_1_method_13_code (3 : Nat) (Option.some Jvm.ClassFile.FieldType.int)).before args0 about1 = true := code_word (m := ⟨2, 12⟩) (meth := k2m12) (c := k2c12) (by decide +kernel) rfl rfl rfl (by decide +kernel)
set_option maxRecDepth 65536 in
theorem w_c37 : (Jvm.Cond.code ({ cls := "MarchBist", name := "read", desc := "(I)I" } : Jvm.MethodName) prog_1_method_44_code (2 : Nat) (Option.some Jvm.ClassFile.FieldType.int)).before args0 about1 = true := code_word (m := ⟨2, 43⟩) (meth := k2m43) (c := k2c43) (by decide +kernel) rfl rfl rfl (by decide +kernel)
set_option maxRecDepth 65536 in
theorem w_c38 : (Jvm.Cond.code ({ cls := "MarchBist", name := "readRouted", desc := "(I)I" } : Jvm.MethodName) prog_1_method_49_code (4 : Nat) (Option.some Jvm.ClassFile.FieldType.int)).before args0 about1 = true := code_word (m := ⟨2, 48⟩) (meth := k2m48) (c := k2c48) (by decide +kernel) rfl rfl rfl (by decide +kernel)
set_option maxRecDepth 65536 in
theorem w_c39 : (Jvm.Cond.code ({ cls := "MarchBist", name := "readMain", desc := "(I)I" } : Jvm.MethodName) prog_1_method_50_code (3 : Nat) (Option.some Jvm.ClassFile.FieldType.int)).before args0 about1 = true := code_word (m := ⟨2, 49⟩) (meth := k2m49) (c := k2c49) (by decide +kernel) rfl rfl rfl (by decide +kernel)
set_option maxRecDepth 65536 in
theorem w_c40 : (Jvm.Cond.code ({ cls := "MarchBist", name := "repair", desc := "()I" } : Jvm.MethodName) prog_1_method_36_code (5 : Nat) (Option.some Jvm.ClassFile.FieldType.int)).before args0 about1 = true := code_word (m := ⟨2, 35⟩) (meth := k2m35) (c := k2c35) (by decide +kernel) rfl rfl rfl (by decide +kernel)
set_option maxRecDepth 65536 in
theorem w_c41 : (Jvm.Cond.code ({ cls := "MarchBist", name := "countFailingUnmapped", desc := "()I" } : Jvm.MethodName) prog_1_method_39_code (3 : Nat) (Option.some Jvm.ClassFile.FieldType.int)).before args0 about1 = true := code_word (m := ⟨2, 38⟩) (meth := k2m38) (c := k2c38) (by decide +kernel) rfl rfl rfl (by decide +kernel)
set_option maxRecDepth 65536 in
theorem w_c42 : (Jvm.Cond.code ({ cls := "MarchBist", name := "isFailingUnmapped", desc := "(I)Z" } : Jvm.MethodName) prog_1_method_38_code (2 : Nat) (Option.some Jvm.ClassFile.FieldType.boolean)).before args0 about1 = true := code_word (m := ⟨2, 37⟩) (meth := k2m37) (c := k2c37) (by decide +kernel) rfl rfl rfl (by decide +kernel)
set_option maxRecDepth 65536 in
theorem w_c43 : (Jvm.Cond.code ({ cls := "MarchBist", name := "countFreeSpares", desc := "()I" } : Jvm.MethodName) prog_1_method_40_code (3 : Nat) (Option.some Jvm.ClassFile.FieldType.int)).before args0 about1 = true := code_word (m := ⟨2, 39⟩) (meth := k2m39) (c := k2c39) (by decide +kernel) rfl rfl rfl (by decide +kernel)
set_option maxRecDepth 65536 in
theorem w_c44 : (Jvm.Cond.code ({ cls := "MarchBistL6", name := "route", desc := "(LMarchBist;I)I" } : Jvm.MethodName) method_2_code (3 : Nat) (Option.some Jvm.ClassFile.FieldType.int)).before args0 about1 = true := code_word (m := ⟨1, 1⟩) (meth := k1m1) (c := k1c1) (by decide +kernel) rfl rfl rfl (by decide +kernel)
set_option maxRecDepth 65536 in
theorem w_c45 : (Jvm.Cond.code ({ cls := "MarchBist", name := "physical", desc := "(I)I" } : Jvm.MethodName) prog_1_method_45_code (2 : Nat) (Option.some Jvm.ClassFile.FieldType.int)).before args0 about1 = true := code_word (m := ⟨2, 44⟩) (meth := k2m44) (c := k2c44) (by decide +kernel) rfl rfl rfl (by decide +kernel)
set_option maxRecDepth 65536 in
theorem w_c46 : (Jvm.Cond.code ({ cls := "MarchBist", name := "run", desc := "()I" } : Jvm.MethodName) prog_1_method_28_code (3 : Nat) (Option.some Jvm.ClassFile.FieldType.int)).before args0 about1 = true := code_word (m := ⟨2, 27⟩) (meth := k2m27) (c := k2c27) (by decide +kernel) rfl rfl rfl (by decide +kernel)
set_option maxRecDepth 65536 in
theorem w_c47 : (Jvm.Cond.code ({ cls := "MarchBist", name := "resetResults", desc := "()V" } : Jvm.MethodName) prog_1_method_31_code (2 : Nat) (Option.none : Option Jvm.ClassFile.FieldType)).before args0 about1 = true := code_word (m := ⟨2, 30⟩) (meth := k2m30) (c := k2c30) (by decide +kernel) rfl rfl rfl (by decide +kernel)
set_option maxRecDepth 65536 in
theorem w_c48 : (Jvm.Cond.code ({ cls := "MarchBist", name := "runElement", desc := "(I)I" } : Jvm.MethodName) prog_1_method_32_code (6 : Nat) (Option.some Jvm.ClassFile.FieldType.int)).before args0 about1 = true := code_word (m := ⟨2, 31⟩) (meth := k2m31) (c := k2c31) (by decide +kernel) rfl rfl rfl (by decide +kernel)
set_option maxRecDepth 65536 in
theorem w_c49 : (Jvm.Cond.code ({ cls := "MarchBist", name := "addressAt", desc := "(II)I" } : Jvm.MethodName) prog_1_method_27_code (3 : Nat) (Option.some Jvm.ClassFile.FieldType.int)).before args0 about1 = true := code_word (m := ⟨2, 26⟩) (meth := k2m26) (c := k2c26) (by decide +kernel) rfl rfl rfl (by decide +kernel)
set_option maxRecDepth 65536 in
theorem w_c50 : (Jvm.Cond.code ({ cls := "MarchBist", name := "runOpsAt", desc := "(II)I" } : Jvm.MethodName) prog_1_method_33_code (7 : Nat) (Option.some Jvm.ClassFile.FieldType.int)).before args0 about1 = true := code_word (m := ⟨2, 32⟩) (meth := k2m32) (c := k2c32) (by decide +kernel) rfl rfl rfl (by decide +kernel)
set_option maxRecDepth 65536 in
theorem w_c51 : (Jvm.Cond.code ({ cls := "MarchBist", name := "opAt", desc := "(II)I" } : Jvm.MethodName) prog_1_method_26_code (3 : Nat) (Option.some Jvm.ClassFile.FieldType.int)).before args0 about1 = true := code_word (m := ⟨2, 25⟩) (meth := k2m25) (c := k2c25) (by decide +kernel) rfl rfl rfl (by decide +kernel)
set_option maxRecDepth 65536 in
theorem w_c52 : (Jvm.Cond.code ({ cls := "MarchBist", name := "applyOp", desc := "(II)Z" } : Jvm.MethodName) prog_1_method_34_code (5 : Nat) (Option.some Jvm.ClassFile.FieldType.boolean)).before args0 about1 = true := code_word (m := ⟨2, 33⟩) (meth := k2m33) (c := k2c33) (by decide +kernel) rfl rfl rfl (by decide +kernel)
set_option maxRecDepth 65536 in
theorem w_c53 : (Jvm.Cond.code ({ cls := "MarchBist", name := "recordFailure", desc := "(III)V" } : Jvm.MethodName) prog_1_method_35_code (5 : Nat) (Option.none : Option Jvm.ClassFile.FieldType)).before args0 about1 = true := code_word (m := ⟨2, 34⟩) (meth := k2m34) (c := k2c34) (by decide +kernel) rfl rfl rfl (by decide +kernel)
set_option maxRecDepth 65536 in
theorem w_c54 : (Jvm.Cond.code ({ cls := "MarchBist", name := "isTrigger", desc := "(I)Z" } : Jvm.MethodName) prog_1_method_9_code (2 : Nat) (Option.some Jvm.ClassFile.FieldType.boolean)).before args0 about1 = true := code_word (m := ⟨2, 8⟩) (meth := k2m8) (c := k2c8) (by decide +kernel) rfl rfl rfl (by decide +kernel)
set_option maxRecDepth 65536 in
theorem w_c55 : (Jvm.Cond.code ({ cls := "MarchBist", name := "fireCouplings", desc := "(IZ)V" } : Jvm.MethodName) prog_1_method_54_code (5 : Nat) (Option.none : Option Jvm.ClassFile.FieldType)).before args0 about1 = true := code_word (m := ⟨2, 53⟩) (meth := k2m53) (c := k2c53) (by decide +kernel) rfl rfl rfl (by decide +kernel)
set_option maxRecDepth 65536 in
theorem w_c56 : (Jvm.Cond.code ({ cls := "MarchBist", name := "triggerMatches", desc := "(IZ)Z" } : Jvm.MethodName) prog_1_method_55_code (4 : Nat) (Option.some Jvm.ClassFile.FieldType.boolean)).before args0 about1 = true := code_word (m := ⟨2, 54⟩) (meth := k2m54) (c := k2c54) (by decide +kernel) rfl rfl rfl (by decide +kernel)
set_option maxRecDepth 65536 in
theorem w_c57 : (Jvm.Cond.code ({ cls := "MarchBist", name := "forcedBit", desc := "(I)I" } : Jvm.MethodName) prog_1_method_56_code (2 : Nat) (Option.some Jvm.ClassFile.FieldType.int)).before args0 about1 = true := code_word (m := ⟨2, 55⟩) (meth := k2m55) (c := k2c55) (by decide +kernel) rfl rfl rfl (by decide +kernel)
set_option maxRecDepth 65536 in
theorem w_c58 : (Jvm.Cond.code ({ cls := "MarchBist", name := "forceVictim", desc := "(II)V" } : Jvm.MethodName) prog_1_method_57_code (3 : Nat) (Option.none : Option Jvm.ClassFile.FieldType)).before args0 about1 = true := code_word (m := ⟨2, 56⟩) (meth := k2m56) (c := k2c56) (by decide +kernel) rfl rfl rfl (by decide +kernel)
set_option maxRecDepth 65536 in
theorem w_c59 : (Jvm.Cond.code ({ cls := "MarchBist", name := "leastFreeSpare", desc := "()I" } : Jvm.MethodName) prog_1_method_41_code (2 : Nat) (Option.some Jvm.ClassFile.FieldType.int)).before args0 about1 = true := code_word (m := ⟨2, 40⟩) (meth := k2m40) (c := k2c40) (by decide +kernel) rfl rfl rfl (by decide +kernel)
set_option maxRecDepth 65536 in
theorem w_c60 : (Jvm.Cond.code ({ cls := "MarchBist", name := "assignSpare", desc := "(II)V" } : Jvm.MethodName) prog_1_method_42_code (5 : Nat) (Option.none : Option Jvm.ClassFile.FieldType)).before args0 about1 = true := code_word (m := ⟨2, 41⟩) (meth := k2m41) (c := k2c41) (by decide +kernel) rfl rfl rfl (by decide +kernel)
def codes1 : List Jvm.Cond := [Jvm.Cond.code x code maxLocals ret, Jvm.Cond.code ({ cls := "MarchBist", name := "<init>", desc := "(III)V" } : Jvm.MethodName) prog_1_method_1_code (5 : Nat) (Option.none : Option Jvm.ClassFile.FieldType), Jvm.Cond.code ({ cls := "java/lang/Object", name := "<init>", desc := "()V" } : Jvm.MethodName) object_method_1_code (1 : Nat) (Option.none : Option Jvm.ClassFile.FieldType), Jvm.Cond.code ({ cls := "MarchBist", name := "clamp", desc := "(III)I" } : Jvm.MethodName) prog_1_method_58_code (4 : Nat) (Option.some Jvm.ClassFile.FieldType.int), Jvm.Cond.code ({ cls := "MarchBist", name := "loadPreset", desc := "(I)Z" } : Jvm.MethodName) prog_1_method_15_code (2 : Nat) (Option.some Jvm.ClassFile.FieldType.boolean), Jvm.Cond.code ({ cls := "MarchBist", name := "clearProgram", desc := "()V" } : Jvm.MethodName) prog_1_method_18_code (2 : Nat) (Option.none : Option Jvm.ClassFile.FieldType), Jvm.Cond.code ({ cls := "MarchBist", name := "loadMarchCMinus", desc := "()V" } : Jvm.MethodName) prog_1_method_21_code (1 : Nat) (Option.none : Option Jvm.ClassFile.FieldType), Jvm.Cond.code ({ cls := "MarchBist", name := "presetElement", desc := "(IIIII)V" } : Jvm.MethodName) prog_1_method_19_code (7 : Nat) (Option.none : Option Jvm.ClassFile.FieldType), Jvm.Cond.code ({ cls := "MarchBist", name := "appendElement", desc := "(III)I" } : Jvm.MethodName) prog_1_method_17_code (5 : Nat) (Option.some Jvm.ClassFile.FieldType.int), Jvm.Cond.code ({ cls := "MarchBist", name := "opsMask", desc := "(I)I" } : Jvm.MethodName) prog_1_method_25_code (2 : Nat) (Option.some Jvm.ClassFile.FieldType.int), Jvm.Cond.code ({ cls := "MarchBist", name := "latch", desc := "()I" } : Jvm.MethodName) prog_1_method_46_code (1 : Nat) (Option.some Jvm.ClassFile.FieldType.int), Jvm.Cond.code ({ cls := "MarchBist", name := "failRows", desc := "()I" } : Jvm.MethodName) prog_1_method_29_code (1 : Nat) (Option.some Jvm.ClassFile.FieldType.int), Jvm.Cond.code ({ cls := "MarchBist", name := "faultInfo", desc := "(I)I" } : Jvm.MethodName) prog_1_method_4_code (3 : Nat) (Option.some Jvm.ClassFile.FieldType.int), Jvm.Cond.code ({ cls := "MarchBist", name := "isFaultNumber", desc := "(I)Z" } : Jvm.MethodName) prog_1_method_10_code (2 : Nat) (Option.some Jvm.ClassFile.FieldType.boolean), Jvm.Cond.code ({ cls := "MarchBist", name := "programElement", desc := "(I)I" } : Jvm.MethodName) prog_1_method_16_code (3 : Nat) (Option.some Jvm.ClassFile.FieldType.int), Jvm.Cond.code ({ cls := "MarchBist", name := "isElementIndex", desc := "(I)Z" } : Jvm.MethodName) prog_1_method_24_code (2 : Nat) (Option.some Jvm.ClassFile.FieldType.boolean), Jvm.Cond.code ({ cls := "MarchBist", name := "logEntry", desc := "(I)I" } : Jvm.MethodName) prog_1_method_30_code (2 : Nat) (Option.some Jvm.ClassFile.FieldType.int), Jvm.Cond.code ({ cls := "MarchBist", name := "rowMap", desc := "(I)I" } : Jvm.MethodName) prog_1_method_37_code (2 : Nat) (Option.some Jvm.ClassFile.FieldType.int), Jvm.Cond.code ({ cls := "MarchBist", name := "loadMatsPlus", desc := "()V" } : Jvm.MethodName) prog_1_method_20_code (1 : Nat) (Option.none : Option Jvm.ClassFile.FieldType), Jvm.Cond.code ({ cls := "MarchBist", name := "clearFaults", desc := "()V" } : Jvm.MethodName) prog_1_method_3_code (2 : Nat) (Option.none : Option Jvm.ClassFile.FieldType), Jvm.Cond.code ({ cls := "MarchBist", name := "loadMarchCrb", desc := "()V" } : Jvm.MethodName) prog_1_method_22_code (1 : Nat) (Option.none : Option Jvm.ClassFile.FieldType), Jvm.Cond.code ({ cls := "MarchBist", name := "inject", desc := "(IIII)I" } : Jvm.MethodName) prog_1_method_2_code (6 : Nat) (Option.some Jvm.ClassFile.FieldType.int), Jvm.Cond.code ({ cls := "MarchBist", name := "validateFaultArguments", desc := "(IIII)I" } : Jvm.MethodName) prog_1_method_5_code (5 : Nat) (Option.some Jvm.ClassFile.FieldType.int), Jvm.Cond.code ({ cls := "MarchBist", name := "isFaultKind", desc := "(I)Z" } : Jvm.MethodName) prog_1_method_8_code (2 : Nat) (Option.some Jvm.ClassFile.FieldType.boolean), Jvm.Cond.code ({ cls := "MarchBist", name := "isAddress", desc := "(I)Z" } : Jvm.MethodName) prog_1_method_47_code (2 : Nat) (Option.some Jvm.ClassFile.FieldType.boolean), Jvm.Cond.code ({ cls := "MarchBist", name := "validateFaultRoom", desc := "(III)I" } : Jvm.MethodName) prog_1_method_6_code (4 : Nat) (Option.some Jvm.ClassFile.FieldType.int), Jvm.Cond.code ({ cls := "MarchBist", name := "isVictim", desc := "(I)Z" } : Jvm.MethodName) prog_1_method_11_code (2 : Nat) (Option.some Jvm.ClassFile.FieldType.boolean), Jvm.Cond.code ({ cls := "MarchBist", name := "isAggressor", desc := "(I)Z" } : Jvm.MethodName) prog_1_method_12_code (2 : Nat) (Option.some Jvm.ClassFile.FieldType.boolean), Jvm.Cond.code ({ cls := "MarchBist", name := "appendFault", desc := "(IIII)I" } : Jvm.MethodName) prog_1_method_7_code (6 : Nat) (Option.some Jvm.ClassFile.FieldType.int), Jvm.Cond.code ({ cls := "MarchBist", name := "addElement", desc := "(III)I" } : Jvm.MethodName) prog_1_method_14_code (4 : Nat) (Option.some Jvm.ClassFile.FieldType.int), Jvm.Cond.code ({ cls := "MarchBist", name := "isOrder", desc := "(I)Z" } : Jvm.MethodName) prog_1_method_23_code (2 : Nat) (Option.some Jvm.ClassFile.FieldType.boolean), Jvm.Cond.code ({ cls := "MarchBist", name := "write", desc := "(II)I" } : Jvm.MethodName) prog_1_method_43_code (3 : Nat) (Option.some Jvm.ClassFile.FieldType.int), Jvm.Cond.code ({ cls := "MarchBist", name := "writeRouted", desc := "(II)V" } : Jvm.MethodName) prog_1_method_51_code (4 : Nat) (Option.none : Option Jvm.ClassFile.FieldType), Jvm.Cond.code ({ cls := "MarchBist", name := "routedCell", desc := "(I)I" } : Jvm.MethodName) prog_1_method_48_code (4 : Nat) (Option.some Jvm.ClassFile.FieldType.int), Jvm.Cond.code ({ cls := "MarchBist", name := "writeMain", desc := "(II)V" } : Jvm.MethodName) prog_1_method_52_code (5 : Nat) (Option.none : Option Jvm.ClassFile.FieldType), Jvm.Cond.code ({ cls := "MarchBist", name := "faultyNewBit", desc := "(III)I" } : Jvm.MethodName) prog_1_method_53_code (5 : Nat) (Option.some Jvm.ClassFile.FieldType.int), Jvm.Cond.code ({ cls := "MarchBist", name := "victimKind", desc := "(I)I" } : Jvm.MethodName) prog_1_method_13_code (3 : Nat) (Option.some Jvm.ClassFile.FieldType.int), Jvm.Cond.code ({ cls := "MarchBist", name := "read", desc := "(I)I" } : Jvm.MethodName) prog_1_method_44_code (2 : Nat) (Option.some Jvm.ClassFile.FieldType.int), Jvm.Cond.code ({ cls := "MarchBist", name := "readRouted", desc := "(I)I" } : Jvm.MethodName) prog_1_method_49_code (4 : Nat) (Option.some Jvm.ClassFile.FieldType.int), Jvm.Cond.code ({ cls := "MarchBist", name := "readMain", desc := "(I)I" } : Jvm.MethodName) prog_1_method_50_code (3 : Nat) (Option.some Jvm.ClassFile.FieldType.int), Jvm.Cond.code ({ cls := "MarchBist", name := "repair", desc := "()I" } : Jvm.MethodName) prog_1_method_36_code (5 : Nat) (Option.some Jvm.ClassFile.FieldType.int), Jvm.Cond.code ({ cls := "MarchBist", name := "countFailingUnmapped", desc := "()I" } : Jvm.MethodName) prog_1_method_39_code (3 : Nat) (Option.some Jvm.ClassFile.FieldType.int), Jvm.Cond.code ({ cls := "MarchBist", name := "isFailingUnmapped", desc := "(I)Z" } : Jvm.MethodName) prog_1_method_38_code (2 : Nat) (Option.some Jvm.ClassFile.FieldType.boolean), Jvm.Cond.code ({ cls := "MarchBist", name := "countFreeSpares", desc := "()I" } : Jvm.MethodName) prog_1_method_40_code (3 : Nat) (Option.some Jvm.ClassFile.FieldType.int), Jvm.Cond.code ({ cls := "MarchBistL6", name := "route", desc := "(LMarchBist;I)I" } : Jvm.MethodName) method_2_code (3 : Nat) (Option.some Jvm.ClassFile.FieldType.int), Jvm.Cond.code ({ cls := "MarchBist", name := "physical", desc := "(I)I" } : Jvm.MethodName) prog_1_method_45_code (2 : Nat) (Option.some Jvm.ClassFile.FieldType.int), Jvm.Cond.code ({ cls := "MarchBist", name := "run", desc := "()I" } : Jvm.MethodName) prog_1_method_28_code (3 : Nat) (Option.some Jvm.ClassFile.FieldType.int), Jvm.Cond.code ({ cls := "MarchBist", name := "resetResults", desc := "()V" } : Jvm.MethodName) prog_1_method_31_code (2 : Nat) (Option.none : Option Jvm.ClassFile.FieldType), Jvm.Cond.code ({ cls := "MarchBist", name := "runElement", desc := "(I)I" } : Jvm.MethodName) prog_1_method_32_code (6 : Nat) (Option.some Jvm.ClassFile.FieldType.int), Jvm.Cond.code ({ cls := "MarchBist", name := "addressAt", desc := "(II)I" } : Jvm.MethodName) prog_1_method_27_code (3 : Nat) (Option.some Jvm.ClassFile.FieldType.int), Jvm.Cond.code ({ cls := "MarchBist", name := "runOpsAt", desc := "(II)I" } : Jvm.MethodName) prog_1_method_33_code (7 : Nat) (Option.some Jvm.ClassFile.FieldType.int), Jvm.Cond.code ({ cls := "MarchBist", name := "opAt", desc := "(II)I" } : Jvm.MethodName) prog_1_method_26_code (3 : Nat) (Option.some Jvm.ClassFile.FieldType.int), Jvm.Cond.code ({ cls := "MarchBist", name := "applyOp", desc := "(II)Z" } : Jvm.MethodName) prog_1_method_34_code (5 : Nat) (Option.some Jvm.ClassFile.FieldType.boolean), Jvm.Cond.code ({ cls := "MarchBist", name := "recordFailure", desc := "(III)V" } : Jvm.MethodName) prog_1_method_35_code (5 : Nat) (Option.none : Option Jvm.ClassFile.FieldType), Jvm.Cond.code ({ cls := "MarchBist", name := "isTrigger", desc := "(I)Z" } : Jvm.MethodName) prog_1_method_9_code (2 : Nat) (Option.some Jvm.ClassFile.FieldType.boolean), Jvm.Cond.code ({ cls := "MarchBist", name := "fireCouplings", desc := "(IZ)V" } : Jvm.MethodName) prog_1_method_54_code (5 : Nat) (Option.none : Option Jvm.ClassFile.FieldType), Jvm.Cond.code ({ cls := "MarchBist", name := "triggerMatches", desc := "(IZ)Z" } : Jvm.MethodName) prog_1_method_55_code (4 : Nat) (Option.some Jvm.ClassFile.FieldType.boolean), Jvm.Cond.code ({ cls := "MarchBist", name := "forcedBit", desc := "(I)I" } : Jvm.MethodName) prog_1_method_56_code (2 : Nat) (Option.some Jvm.ClassFile.FieldType.int), Jvm.Cond.code ({ cls := "MarchBist", name := "forceVictim", desc := "(II)V" } : Jvm.MethodName) prog_1_method_57_code (3 : Nat) (Option.none : Option Jvm.ClassFile.FieldType), Jvm.Cond.code ({ cls := "MarchBist", name := "leastFreeSpare", desc := "()I" } : Jvm.MethodName) prog_1_method_41_code (2 : Nat) (Option.some Jvm.ClassFile.FieldType.int), Jvm.Cond.code ({ cls := "MarchBist", name := "assignSpare", desc := "(II)V" } : Jvm.MethodName) prog_1_method_42_code (5 : Nat) (Option.none : Option Jvm.ClassFile.FieldType)]
set_option maxRecDepth 65536 in
theorem codes_eq : words1.filter isCode = codes1 := rfl
theorem w_codes : ∀ c ∈ words1.filter isCode, c.before args0 about1 = true := by
  rw [codes_eq]
  intro c hc
  simp only [codes1, List.mem_cons, List.not_mem_nil, or_false] at hc
  rcases hc with rfl | rfl | rfl | rfl | rfl | rfl | rfl | rfl | rfl | rfl | rfl | rfl | rfl | rfl | rfl | rfl | rfl | rfl | rfl | rfl | rfl | rfl | rfl | rfl | rfl | rfl | rfl | rfl | rfl | rfl | rfl | rfl | rfl | rfl | rfl | rfl | rfl | rfl | rfl | rfl | rfl | rfl | rfl | rfl | rfl | rfl | rfl | rfl | rfl | rfl | rfl | rfl | rfl | rfl | rfl | rfl | rfl | rfl | rfl | rfl | rfl
  · exact w_c0
  · exact w_c1
  · exact w_c2
  · exact w_c3
  · exact w_c4
  · exact w_c5
  · exact w_c6
  · exact w_c7
  · exact w_c8
  · exact w_c9
  · exact w_c10
  · exact w_c11
  · exact w_c12
  · exact w_c13
  · exact w_c14
  · exact w_c15
  · exact w_c16
  · exact w_c17
  · exact w_c18
  · exact w_c19
  · exact w_c20
  · exact w_c21
  · exact w_c22
  · exact w_c23
  · exact w_c24
  · exact w_c25
  · exact w_c26
  · exact w_c27
  · exact w_c28
  · exact w_c29
  · exact w_c30
  · exact w_c31
  · exact w_c32
  · exact w_c33
  · exact w_c34
  · exact w_c35
  · exact w_c36
  · exact w_c37
  · exact w_c38
  · exact w_c39
  · exact w_c40
  · exact w_c41
  · exact w_c42
  · exact w_c43
  · exact w_c44
  · exact w_c45
  · exact w_c46
  · exact w_c47
  · exact w_c48
  · exact w_c49
  · exact w_c50
  · exact w_c51
  · exact w_c52
  · exact w_c53
  · exact w_c54
  · exact w_c55
  · exact w_c56
  · exact w_c57
  · exact w_c58
  · exact w_c59
  · exact w_c60
set_option maxRecDepth 65536 in
theorem w_t1 : (words1.take 24).all (fun c => isCode c || c.before args0 about1) = true := by decide +kernel
set_option maxRecDepth 65536 in
theorem w_t2 : ((words1.drop 24).take 24).all (fun c => isCode c || c.before args0 about1) = true := by decide +kernel
set_option maxRecDepth 65536 in
theorem w_t3 : (((words1.drop 24).drop 24).take 24).all (fun c => isCode c || c.before args0 about1) = true := by decide +kernel
set_option maxRecDepth 65536 in
theorem w_t4 : ((((words1.drop 24).drop 24).drop 24).take 24).all (fun c => isCode c || c.before args0 about1) = true := by decide +kernel
set_option maxRecDepth 65536 in
theorem w_t5 : (((((words1.drop 24).drop 24).drop 24).drop 24).take 24).all (fun c => isCode c || c.before args0 about1) = true := by decide +kernel
set_option maxRecDepth 65536 in
theorem w_t6 : ((((((words1.drop 24).drop 24).drop 24).drop 24).drop 24).take 24).all (fun c => isCode c || c.before args0 about1) = true := by decide +kernel
set_option maxRecDepth 65536 in
theorem w_t7 : (((((((words1.drop 24).drop 24).drop 24).drop 24).drop 24).drop 24).take 24).all (fun c => isCode c || c.before args0 about1) = true := by decide +kernel
set_option maxRecDepth 65536 in
theorem w_t8 : ((((((((words1.drop 24).drop 24).drop 24).drop 24).drop 24).drop 24).drop 24).take 24).all (fun c => isCode c || c.before args0 about1) = true := by decide +kernel
set_option maxRecDepth 65536 in
theorem w_t9 : (((((((((words1.drop 24).drop 24).drop 24).drop 24).drop 24).drop 24).drop 24).drop 24).take 24).all (fun c => isCode c || c.before args0 about1) = true := by decide +kernel
set_option maxRecDepth 65536 in
theorem w_t10 : ((((((((((words1.drop 24).drop 24).drop 24).drop 24).drop 24).drop 24).drop 24).drop 24).drop 24).take 24).all (fun c => isCode c || c.before args0 about1) = true := by decide +kernel
set_option maxRecDepth 65536 in
theorem w_t11 : (((((((((((words1.drop 24).drop 24).drop 24).drop 24).drop 24).drop 24).drop 24).drop 24).drop 24).drop 24).take 24).all (fun c => isCode c || c.before args0 about1) = true := by decide +kernel
set_option maxRecDepth 65536 in
theorem w_t12 : ((((((((((((words1.drop 24).drop 24).drop 24).drop 24).drop 24).drop 24).drop 24).drop 24).drop 24).drop 24).drop 24).take 24).all (fun c => isCode c || c.before args0 about1) = true := by decide +kernel
set_option maxRecDepth 65536 in
theorem w_t13 : ((((((((((((words1.drop 24).drop 24).drop 24).drop 24).drop 24).drop 24).drop 24).drop 24).drop 24).drop 24).drop 24).drop 24).all (fun c => isCode c || c.before args0 about1) = true := by decide +kernel
theorem w_tables : (allAtoms (Jvm.Cond.code x code maxLocals ret :: tables_1)).before args0 about1 = true := by
  rw [allAtoms_all]
  show words1.all (fun c => c.before args0 about1) = true
  refine all_split ?_ w_codes
  rw [← List.take_append_drop 24 words1, List.all_append, w_t1, ← List.take_append_drop 24 (words1.drop 24), List.all_append, w_t2, ← List.take_append_drop 24 ((words1.drop 24).drop 24), List.all_append, w_t3, ← List.take_append_drop 24 (((words1.drop 24).drop 24).drop 24), List.all_append, w_t4, ← List.take_append_drop 24 ((((words1.drop 24).drop 24).drop 24).drop 24), List.all_append, w_t5, ← List.take_append_drop 24 (((((words1.drop 24).drop 24).drop 24).drop 24).drop 24), List.all_append, w_t6, ← List.take_append_drop 24 ((((((words1.drop 24).drop 24).drop 24).drop 24).drop 24).drop 24), List.all_append, w_t7, ← List.take_append_drop 24 (((((((words1.drop 24).drop 24).drop 24).drop 24).drop 24).drop 24).drop 24), List.all_append, w_t8, ← List.take_append_drop 24 ((((((((words1.drop 24).drop 24).drop 24).drop 24).drop 24).drop 24).drop 24).drop 24), List.all_append, w_t9, ← List.take_append_drop 24 (((((((((words1.drop 24).drop 24).drop 24).drop 24).drop 24).drop 24).drop 24).drop 24).drop 24), List.all_append, w_t10, ← List.take_append_drop 24 ((((((((((words1.drop 24).drop 24).drop 24).drop 24).drop 24).drop 24).drop 24).drop 24).drop 24).drop 24), List.all_append, w_t11, ← List.take_append_drop 24 (((((((((((words1.drop 24).drop 24).drop 24).drop 24).drop 24).drop 24).drop 24).drop 24).drop 24).drop 24).drop 24), List.all_append, w_t12, w_t13]
  rfl
set_option maxRecDepth 65536 in
theorem w_rest : rest_1_c.before args0 about1 = true := by decide +kernel
set_option maxRecDepth 65536 in
theorem w_case : (Jvm.Cond.and given_1 narrow_1).before args0 about1 = true := by decide +kernel
theorem w_applies : (headSpec (Jvm.Cond.code x code maxLocals ret :: tables_1) room_1).applies x e0.platform about1 = true :=
  (Spec.applies_iff w_frames).mpr ⟨w_running, w_runnable, w_alone, w_named, w_hears, w_ripe, w_room, w_tables⟩
theorem atStart : AtStart classFile x code maxLocals ret World_1 tables_1 room_1 Calls_1 rest_1 Pre_1 launch0 p0 e0 about1 theMethod args0 below0 :=
  ⟨lists_1, trivial, launch0.admits_env _ _ _, launch0.least_env, fairChoices_fair.cas, fairChoices_fair.clock, w_frames, w_args, w_heap, w_applies, trivial, w_rest, w_case⟩
end start1
theorem witness_1 : WitnessClaimed_1 := ⟨start1.p0, start1.e0, start1.about1, start1.theMethod, start1.args0, start1.below0, start1.atStart⟩
end Jvm.Pilot.@@N@@
