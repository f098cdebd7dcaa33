/- A pure interpreter of the code, and that the machine does what it tells (a text of this session). -/
import Derived.Orders
import Derived.Below
import Derived.RowKit
import Derived.Laws.AppendOwn
import Derived.Laws.Entries
import Derived.Laws.BytesArg
import Derived.Laws.StructEq
import Derived.Laws.Append
import Derived.Laws.CopyRow
import Derived.Laws.Rows
import Derived.Laws.Cells
import Derived.Laws.Slices
import Derived.Laws.NewFold
import Derived.IntWalk
import Derived.Laws.MakeOwn
import Derived.LoopN
import Derived.RangeFuncCalls
import Derived.OwnWalkIn
import Derived.RangeFuncKeeps
import Derived.RangeFuncLeaves
import Derived.RangeFuncBound
set_option autoImplicit false
set_option linter.unusedVariables false
set_option linter.unusedSimpArgs false
namespace Go.Refl
open Go.RowKit

structure RK (α : Type) where
 sz : Nat
 enc : α → List Value
 dec : List Value → Option α
 d : α
 pos : 0 < sz
 len : ∀ x, (enc x).length = sz
 one : ∀ x, ∀ v ∈ enc x, v.oneCell' = true
 de : ∀ c x, dec c = some x → enc x = c

def rkInt (k : IntKind) : RK Int where
 sz := 1
 enc x := [.int k x]
 dec c := match c with
  | [.int k' x] => if k' = k then some x else none
  | _ => none
 d := 0
 pos := by decide
 len _ := rfl
 one := by intro x v h; simp at h; subst h; rfl
 de := by
  intro c x h
  split at h
  ·split at h
   ·cases h; subst_vars; rfl
   ·cases h
  ·cases h

structure KD where
 α : Type
 K : RK α

structure Fd where
 off : Nat
 sz : Nat
 agg : Bool
 ty : Nat

inductive Zc where
 | v (x : Value)
 | row (e : Nat)

inductive TD where
 | st (sz : Nat) (zs : List Zc) (fs : List Fd)
 | ar (n : Nat) (e : Nat) (esz : Nat) (zs : List Zc)
 | sl (e : Nat) (bytes : Nat)
 | int (k : IntKind)
 | str
 | bool
 | fn
 | ot

structure Ctx where
 kd : Nat → KD
 td : Nat → TD
 bk : Nat
 bok : kd bk = ⟨Int, rkInt .u8⟩
 dec : (a b : Int) → Decidable (a = b)
 dlt : (a b : Int) → Decidable (a < b)
 dle : (a b : Int) → Decidable (a ≤ b)
 n0 : Nat
 lw : World → Prop
 lwS : ∀ w, lw w → n0 ≤ w.heap.size
 lwK : ∀ w w', lw w → (∀ k, k < n0 → w'.heap[k]? = w.heap[k]?) → w.heap.size ≤ w'.heap.size → lw w'

inductive Own where
 | ro
 | full
 | nil
 | tok (d j : Nat)

def Own.mine : Own → Bool
 | .ro => false
 | _ => true

inductive Cell (Γ : Ctx) : Type 1 where
 | u
 | v (x : Value)
 | bb (b : Bool) (q : Prop) (i : Decidable q) (h : b = @decide q i)
 | nb (b : Bool) (q : Prop) (i : Decidable q) (h : b = !(@decide q i))
 | row (e : Nat) (xs : List (Γ.kd e).α) (o : Own)
 | fn (f : Nat)
 | own (e : Nat) (xs : List (Γ.kd e).α) (d j : Nat)     -- a row that nothing else looks at: it may be stored into

inductive FV (Γ : Ctx) : Type 1 where
 | c (x : Cell Γ)
 | agg (cs : List (Cell Γ))

inductive Pt (Γ : Ctx) : Type 1 where
 | box (s o : Nat)
 | ref (cs : List (Cell Γ))
 | ix (s o : Nat) (e : Nat) (xs : List (Γ.kd e).α) (i : Int)     -- the element i of an array in a box, which reads xs
 | el (e : Nat) (xs : List (Γ.kd e).α) (d j : Nat) (i : Int) (o : Nat)     -- into element i of such a row
 | un

inductive AV (Γ : Ctx) : Type 1 where
 | u
 | f (x : FV Γ)
 | tup (l : List (FV Γ))
 | p (x : Pt Γ)
 | clo (f : Nat) (caps : List (Pt Γ))

abbrev Tm (Γ : Ctx) := List (Nat × AV Γ)
abbrev Bx (Γ : Ctx) := List (Nat × Nat × List (Cell Γ))

structure St (Γ : Ctx) where
 tm : Tm Γ
 bx : Bx Γ

inductive Ex where
 | normal
 | exit (id : Nat)
 | ret

inductive Eff (Γ : Ctx) : Type 1 where
 | none
 | new (T : Nat) (cs : List (Cell Γ))
 | set (s off : Nat) (cs : List (Cell Γ))
 | app (o : Option (Nat × Nat))
 | fresh
 | muts (fr : Bool) (l : List (Nat × List (Cell Γ)))     -- boxes that a call has written
 | put (d j e : Nat) (i : Int) (x : (Γ.kd e).α)     -- an element of a row that is held alone
 | rows (fr : Bool) (l : List (Nat × Nat × Nat × Cell Γ))     -- rows that a call has written: the temporary, the token

section
variable {Γ : Ctx}

def tmGet : Tm Γ → Nat → AV Γ
 | [], _ => .u
 | (i, a) :: r, t => bif Nat.beq i t then a else tmGet r t

def bxGet : Bx Γ → Nat → Option (Nat × List (Cell Γ))
 | [], _ => none
 | (i, a) :: r, t => bif Nat.beq i t then some a else bxGet r t

def bxSet : Bx Γ → Nat → List (Cell Γ) → Bx Γ
 | [], _, _ => []
 | (i, T, a) :: r, t, cs => bif Nat.beq i t then (i, T, cs) :: r else (i, T, a) :: bxSet r t cs


inductive LC where
 | int (k : IntKind)
 | bool
 | str
 | row (e : Nat) (own : Bool)
 | fn (f : Nat)
 | own (e : Nat)

inductive VC where
 | c (l : LC)
 | agg (ls : List LC)
 | clo (f : Nat) (caps : List (List LC))
 | ref (ls : List LC)
 | wr (k T : Nat) (ls : List LC)     -- a box of the caller's, to be written (k: its name here)
 | mrow (e : Nat)     -- a row that the caller holds alone, to be written

def LC.T (Γ : Ctx) : LC → Type
 | .int _ => Int
 | .bool => Bool
 | .str => ByteArray
 | .row e _ => List (Γ.kd e).α
 | .fn _ => Unit
 | .own e => List (Γ.kd e).α

def PT1 (Γ : Ctx) : LC → List LC → Type
 | a, [] => a.T Γ
 | a, b :: r => a.T Γ × PT1 Γ b r

def PT (Γ : Ctx) : List LC → Type
 | [] => Unit
 | a :: r => PT1 Γ a r

def VC.ls : VC → List LC
 | .c l => [l]
 | .agg ls => ls
 | .clo _ caps => caps.flatten
 | .ref ls => ls
 | .wr _ _ ls => ls
 | .mrow e => [.own e]

def mutsOf : List VC → List (Nat × Nat × List LC)
 | [] => []
 | .wr k T ls :: r => (k, T, ls) :: mutsOf r
 | _ :: r => mutsOf r

def rowsOf : List VC → List Nat
 | [] => []
 | .mrow e :: r => e :: rowsOf r
 | _ :: r => rowsOf r

def outLs (vs : List VC) : List LC := ((mutsOf vs).flatMap fun x => x.2.2) ++ (rowsOf vs).map LC.own

def decInt (k : IntKind) : Cell Γ → Option Int
 | .v (.int k' n) => if k' = k then some n else none
 | _ => none

def decBool : Cell Γ → Option Bool
 | .v (.bool b) => some b
 | .bb b _ _ _ => some b
 | .nb b _ _ _ => some b
 | _ => none

def decStr : Cell Γ → Option ByteArray
 | .v (.string s) => some s
 | _ => none

def decRw (e : Nat) (own : Bool) : Cell Γ → Option (List (Γ.kd e).α)
 | .row e' xs o => bif (!own).or o.mine then (if h : e' = e then some (h ▸ xs) else none) else none
 | .own e' xs _ _ => bif own then none else (if h : e' = e then some (h ▸ xs) else none)
 | .v (.slice none 0 0) => some []
 | _ => none

def decOwn (e : Nat) : Cell Γ → Option (List (Γ.kd e).α)
 | .own e' xs _ _ => if h : e' = e then some (h ▸ xs) else none
 | .row e' [] .nil => if e' = e then some [] else none
 | .v (.slice none 0 0) => some []
 | _ => none

def decFn (f : Nat) : Cell Γ → Option Unit
 | .fn g => bif f.beq g then some () else none
 | _ => none

def decLeaf (l : LC) (c : Cell Γ) : Option (l.T Γ) :=
 match l with
 | .int k => decInt k c
 | .bool => decBool c
 | .str => decStr c
 | .row e own => decRw e own c
 | .fn f => decFn f c
 | .own e => decOwn e c

def decL : (a : LC) → (r : List LC) → List (Cell Γ) → Option (PT1 Γ a r)
 | a, [], cs => match cs with
  | [c] => decLeaf a c
  | _ => none
 | a, b :: r, cs => match cs with
  | c :: cs => (decLeaf a c).bind fun x => (decL b r cs).bind fun y => some (x, y)
  | [] => none

def decLeaves (ls : List LC) (cs : List (Cell Γ)) : Option (PT Γ ls) :=
 match ls with
 | [] => match cs with
  | [] => some ()
  | _ => none
 | a :: r => decL a r cs

def encLeaf (o : Own) : (l : LC) → l.T Γ → Cell Γ
 | .int k, n => .v (.int k n)
 | .bool, b => .v (.bool b)
 | .str, s => .v (.string s)
 | .row e own, xs => .row e xs (bif own then o else .ro)
 | .fn f, _ => .fn f
 | .own e, xs => match o with
  | .tok d j => .own e xs d j
  | _ => .u

def encL (o : Nat → Own) : Nat → (a : LC) → (r : List LC) → PT1 Γ a r → List (Cell Γ)
 | j, a, [], x => [encLeaf (o j) a x]
 | j, a, b :: r, x => encLeaf (o j) a x.1 :: encL o (j + 1) b r x.2

def encLeaves (o : Nat → Own) (j : Nat) (ls : List LC) (x : PT Γ ls) : List (Cell Γ) :=
 match ls, x with
 | [], _ => []
 | a :: r, x => encL o j a r x

inductive RC where
 | one (v : VC)
 | tup (vs : List VC)

def RC.ls : RC → List LC
 | .one v => v.ls
 | .tup vs => vs.flatMap VC.ls

def VC.n : VC → Nat
 | .c _ => 1
 | .agg ls => ls.length
 | _ => 0

def fvOf : VC → List (Cell Γ) → FV Γ
 | .c _, x :: _ => .c x
 | .agg ls, cs => .agg (cs.take ls.length)
 | .mrow _, x :: _ => .c x
 | _, _ => .c .u

def fvsOf : List VC → List (Cell Γ) → List (FV Γ)
 | [], _ => []
 | v :: vs, cs => fvOf v cs :: fvsOf vs (cs.drop v.n)

def resOf (rc : RC) (cs : List (Cell Γ)) : AV Γ :=
 match rc with
 | .one v => .f (fvOf v cs)
 | .tup vs => .tup (fvsOf vs cs)

def capRefs : List (List LC) → List (Cell Γ) → List (Pt Γ)
 | [], _ => []
 | l :: ls, cs => .ref (cs.take l.length) :: capRefs ls (cs.drop l.length)

def argAV : VC → List (Cell Γ) → AV Γ
 | .clo f caps, cs => .clo f (capRefs caps cs)
 | .ref ls, cs => .p (.ref (cs.take ls.length))
 | .wr k _ _, _ => .p (.box k 0)
 | v, cs => .f (fvOf v cs)

def argAVs : List VC → List (Cell Γ) → List (AV Γ)
 | [], _ => []
 | v :: vs, cs => argAV v cs :: argAVs vs (cs.drop v.ls.length)

def capCells : List (List LC) → List (Pt Γ) → Option (List (Cell Γ))
 | [], [] => some []
 | l :: ls, .ref cs :: ps => match capCells ls ps with
  | some r => if (cs.length).beq l.length then some (cs ++ r) else none
  | none => none
 | _, _ => none

def avCells : VC → AV Γ → Option (List (Cell Γ))
 | .c _, .f (.c x) => some [x]
 | .agg ls, .f (.agg cs) => bif (cs.length).beq ls.length then some cs else none
 | .clo f caps, .clo f' ps => bif f.beq f' then capCells caps ps else none
 | .ref ls, .p (.ref cs) => bif (cs.length).beq ls.length then some cs else none
 | .mrow _, .f (.c (.own e xs d j)) => some [.own e xs d j]
 | _, _ => none

def argCells : List VC → List (AV Γ) → Option (List (Cell Γ))
 | [], [] => some []
 | v :: vs, a :: as => match avCells v a with
  | some cs => match argCells vs as with
   | some r => some (cs ++ r)
   | none => none
  | none => none
 | _, _ => none

def inBx : List VC → List (Cell Γ) → Bx Γ
 | [], _ => []
 | .wr k T ls :: vs, cs => (k, T, cs.take ls.length) :: inBx vs (cs.drop ls.length)
 | v :: vs, cs => inBx vs (cs.drop v.ls.length)

def outCells (bx : Bx Γ) : List (Nat × Nat × List LC) → Option (List (Cell Γ))
 | [] => some []
 | (k, T, ls) :: r => match bxGet bx k with
  | some (T', cs) => bif (T.beq T').and (cs.length.beq ls.length) then (match outCells bx r with
   | some cs' => some (cs ++ cs')
   | none => none) else none
  | none => none

def inKeys : List VC → List (AV Γ) → List Nat
 | .wr _ _ _ :: vs, .p (.box s 0) :: as => s :: inKeys vs as
 | _ :: vs, _ :: as => inKeys vs as
 | _, _ => []

def inToks : List VC → List (AV Γ) → List (Nat × Nat)
 | .mrow _ :: vs, .f (.c (.own _ _ d j)) :: as => (d, j) :: inToks vs as
 | _ :: vs, _ :: as => inToks vs as
 | _, _ => []

def inTmps : List VC → List (Option Nat) → Option (List Nat)
 | [], _ => some []
 | .mrow _ :: vs, some t :: os => match inTmps vs os with
  | some ts => some (t :: ts)
  | none => none
 | .mrow _ :: _, _ => none
 | _ :: vs, _ :: os => inTmps vs os
 | _ :: vs, [] => inTmps vs []

def tokIn (ts : List (Nat × Nat)) (d j : Nat) : Bool := ts.any fun x => (x.1.beq d).and (x.2.beq j)

def nodupT : List (Nat × Nat) → Bool
 | [] => true
 | x :: r => (!(tokIn r x.1 x.2)).and (nodupT r)

def outRows (tm : Tm Γ) : Nat → List VC → Option (List (Cell Γ))
 | _, [] => some []
 | i, .mrow e :: vs => match tmGet tm i with
  | .f (.c (.own e' xs d j)) => bif e.beq e' then (match outRows tm (i + 1) vs with
   | some r => some (.own e' xs d j :: r)
   | none => none) else none
  | _ => none
 | i, _ :: vs => outRows tm (i + 1) vs

def argIn (bx : Bx Γ) : VC → AV Γ → Option (List (Cell Γ))
 | .wr _ T ls, a => match a with
  | .p (.box s 0) => match bxGet bx s with
   | some (T', cs) => bif (T.beq T').and (cs.length.beq ls.length) then some cs else none
   | none => none
  | _ => none
 | v, a => avCells v a

def argsIn (bx : Bx Γ) : List VC → List (AV Γ) → Option (List (Cell Γ))
 | [], [] => some []
 | v :: vs, a :: as => match argIn bx v a with
  | some cs => match argsIn bx vs as with
   | some r => some (cs ++ r)
   | none => none
  | none => none
 | _, _ => none

def nodupB : List Nat → Bool
 | [] => true
 | x :: r => (!(r.any fun y => x.beq y)).and (nodupB r)

def outsOf : List (Nat × Nat × List LC) → List Nat → List (Cell Γ) → List (Nat × List (Cell Γ))
 | (_, _, ls) :: r, k :: ks, cs => (k, cs.take ls.length) :: outsOf r ks (cs.drop ls.length)
 | _, _, _ => []

structure Ent (Γ : Ctx) where
 f : Nat
 args : List VC
 res : RC
 fn : PT Γ (args.flatMap VC.ls) → Option (PT Γ (res.ls ++ outLs args))

abbrev Ent.ol (e : Ent Γ) : List LC := e.res.ls ++ outLs e.args

def RC.vcs : RC → List VC
 | .one v => [v]
 | .tup vs => vs

def VC.plain : VC → Bool
 | .c _ => true
 | .agg _ => true
 | _ => false

def RC.ok (r : RC) : Bool := r.vcs.all VC.plain

def LC.isRow : LC → Bool
 | .row _ q => q
 | .own _ => true
 | _ => false

def tokStep (l : LC) (c : Cell Γ) (seen : List (Nat × Nat)) : Option (List (Nat × Nat)) :=
 match l, c with
 | .row _ true, .row _ _ (.tok d j) => bif seen.any fun x => (x.1.beq d).and (x.2.beq j) then none else some ((d, j) :: seen)
 | _, .own _ _ d j => bif seen.any fun x => (x.1.beq d).and (x.2.beq j) then none else some ((d, j) :: seen)
 | _, _ => some seen

def toksOK : List LC → List (Cell Γ) → List (Nat × Nat) → Bool
 | l :: ls, c :: cs, seen => match tokStep l c seen with
  | some s => toksOK ls cs s
  | none => false
 | _, _, _ => true


def constAV : Value → AV Γ
 | .agg cs => .f (.agg (cs.toList.map Cell.v))
 | .tuple _ => .u
 | v => .f (.c (.v v))

def fnClo : AV Γ → AV Γ
 | .f (.c (.fn f)) => .clo f []
 | a => a

def cloFn : AV Γ → AV Γ
 | .clo f [] => .f (.c (.fn f))
 | a => a

def ev (tm : Tm Γ) : Operand → AV Γ
 | .tmp t => fnClo (tmGet tm t)
 | .const v => constAV v
 | .global _ => .u
 | .func f => .clo f []

def coerce (t : Nat) (a : AV Γ) : AV Γ :=
 match a with
 | .f (.c (.v (.slice none 0 0))) => match Γ.td t with
  | .sl e _ => .f (.c (.row e [] .nil))
  | _ => a
 | a => a

def onBool {R : Type} (c : AV Γ) (A B : Option R) : Option R :=
 match c with
 | .f (.c (.v (.bool b))) => if b = true then A else B
 | .f (.c (.bb _ q i _)) => @ite _ q i A B
 | .f (.c (.nb _ q i _)) => @ite _ q i B A
 | _ => none

def fvCells : FV Γ → List (Cell Γ)
 | .c x => [x]
 | .agg cs => cs

def TD.size : TD → Nat
 | .st sz _ _ => sz
 | .ar n _ esz _ => n * esz
 | _ => 1

def TD.isAgg : TD → Bool
 | .st _ _ _ | .ar _ _ _ _ => true
 | _ => false

def TD.isArr : TD → Bool
 | .ar _ _ _ _ => true
 | _ => false

def TD.known : TD → Bool
 | .ot => false
 | _ => true

def partAV {R : Type} (agg : Bool) (sz : Nat) (cs : List (Cell Γ)) (K : AV Γ → Option R) : Option R :=
 match agg, cs with
 | true, cs => bif sz.ble cs.length then K (.f (.agg (cs.take sz))) else none
 | false, c :: _ => K (.f (.c c))
 | false, [] => none

def loadAV {R : Type} (t : TD) (cs : List (Cell Γ)) (K : AV Γ → Option R) : Option R :=
 bif t.known then partAV t.isAgg t.size cs K else none

def Cell.one : Cell Γ → Bool
 | .v (.agg _) => false
 | .v (.tuple _) => false
 | .u => false
 | _ => true

def FV.ok : FV Γ → Bool
 | .c x => x.one
 | .agg _ => true

def zCell : Zc → Cell Γ
 | .v x => .v x
 | .row e => .row e [] .nil

def zeroCells : TD → Option (List (Cell Γ))
 | .st _ zs _ => some (zs.map zCell)
 | .ar _ _ _ zs => some (zs.map zCell)
 | .sl e _ => some [.row e [] .nil]
 | .int k => some [.v (.int k 0)]
 | .str => some [.v (.string ⟨#[]⟩)]
 | .bool => some [.v (.bool false)]
 | .fn => none
 | .ot => none

def setCells : List (Cell Γ) → Nat → List (Cell Γ) → List (Cell Γ)
 | [], _, _ => []
 | c :: cs, 0, n :: ns => n :: setCells cs 0 ns
 | c :: cs, 0, [] => c :: cs
 | c :: cs, o + 1, ns => c :: setCells cs o ns

def fillCells (at_ : Nat → Option (Nat × Nat)) (cs : List (Cell Γ)) : List (Nat × AV Γ) → Option (List (Cell Γ))
 | [] => some cs
 | (i, .f x) :: r => match at_ i with
  | some (off, sz) => bif (x.ok.and ((fvCells x).length.beq sz)).and ((off + sz).ble cs.length) then fillCells at_ (setCells cs off (fvCells x)) r else none
  | none => none
 | _ :: _ => none

def cellVal : Cell Γ → Option Value
 | .v x => some x
 | .bb b _ _ _ => some (.bool b)
 | .nb b _ _ _ => some (.bool b)
 | _ => none

def cellVals : List (Cell Γ) → Option (List Value)
 | [] => some []
 | c :: cs => match cellVal c with
  | some x => match cellVals cs with
   | some xs => some (x :: xs)
   | none => none
  | none => none

def decRow {α : Type} (K : RK α) : Nat → List Value → Option (List α)
 | 0, [] => some []
 | 0, _ :: _ => none
 | n + 1, cs => match K.dec (cs.take K.sz) with
  | some x => match decRow K n (cs.drop K.sz) with
   | some xs => some (x :: xs)
   | none => none
  | none => none

def rdK {α : Type} (K : RK α) (xs : List α) (i : Int) : α := xs.getD i.toNat K.d

def bt (s : ByteArray) (i : Int) : Int := if h : i.toNat < s.size then ((s[i.toNat]'h).toNat : Int) else 0

def wrapK (k : IntKind) (n : Int) : Int :=
 match k with
 | .i64 => wrap64 n
 | .u8 => n % 256
 | k => k.wrap n

def mkN (b : Bool) (q : Prop) [i : Decidable q] (h : b = !decide q) : AV Γ := .f (.c (.nb b q i h))

def mkB (b : Bool) (q : Prop) [i : Decidable q] (h : b = decide q) : AV Γ := .f (.c (.bb b q i h))

theorem beq_q (a b : Int) (i : Decidable (a = b)) : (a == b) = @decide (a = b) i := by
 cases i with
 | isTrue h => show (a == b) = true; simpa using h
 | isFalse h => show (a == b) = false; simpa using h
theorem bne_q (a b : Int) (i : Decidable (a = b)) : (a != b) = !@decide (a = b) i := by rw [← beq_q]; rfl
theorem seq_q (a b : List UInt8) : (a == b) = decide (a = b) := by
 by_cases h : a = b <;> simp [h]
theorem sne_q (a b : List UInt8) : (!(a == b)) = !decide (a = b) := by
 by_cases h : a = b <;> simp [h]
theorem not_t (b : Bool) : (!b) = !decide (b = true) := by cases b <;> simp
theorem tru_q (b : Bool) : b = decide (b = true) := by simp

def intBin {R : Type} (op : BinOp) (k : IntKind) (a b : Int) (K : AV Γ → Option R) : Option R :=
 match op with
 | .add => K (.f (.c (.v (.int k (wrapK k (a + b))))))
 | .sub => K (.f (.c (.v (.int k (wrapK k (a - b))))))
 | .mul => K (.f (.c (.v (.int k (wrapK k (a * b))))))
 | .quo => if b = 0 then none else K (.f (.c (.v (.int k (wrapK k (Int.tdiv a b))))))
 | .rem => if b = 0 then none else K (.f (.c (.v (.int k (Int.tmod a b)))))
 | .eql => K (mkB (a == b) (a = b) (i := Γ.dec a b) (beq_q a b _))
 | .neq => K (mkN (a != b) (a = b) (i := Γ.dec a b) (bne_q a b _))
 | .lss => K (mkB (@decide (a < b) (Γ.dlt a b)) (a < b) (i := Γ.dlt a b) rfl)
 | .leq => K (mkB (@decide (a ≤ b) (Γ.dle a b)) (a ≤ b) (i := Γ.dle a b) rfl)
 | .gtr => K (mkB (@decide (a > b) (Γ.dlt b a)) (a > b) (i := Γ.dlt b a) rfl)
 | .geq => K (mkB (@decide (a ≥ b) (Γ.dle b a)) (a ≥ b) (i := Γ.dle b a) rfl)
 | .and => K (.f (.c (.v (.int k (Go.bits .and k a b)))))
 | .or => K (.f (.c (.v (.int k (Go.bits .or k a b)))))
 | .xor => K (.f (.c (.v (.int k (Go.bits .xor k a b)))))
 | .andNot => K (.f (.c (.v (.int k (Go.bits .andNot k a b)))))
 | _ => none

def intBin2 {R : Type} (op : BinOp) (k : IntKind) (a : Int) (k' : IntKind) (b : Int) (K : AV Γ → Option R) : Option R :=
 match op with
 | .shr => if 0 ≤ b then (if b ≤ k.bits then K (.f (.c (.v (.int k (a / 2 ^ b.toNat))))) else none) else none
 | .shl => if 0 ≤ b then (if b ≤ k.bits then K (.f (.c (.v (.int k (k.wrap (a * 2 ^ b.toNat)))))) else none) else none
 | op => if k = k' then intBin op k a b K else none

def strCmp {R : Type} (op : BinOp) (a b : List UInt8) (K : AV Γ → Option R) : Option R :=
 match op with
 | .eql => K (mkB (a == b) (a = b) (seq_q _ _))
 | .neq => K (mkN (!(a == b)) (a = b) (sne_q _ _))
 | .lss => K (mkB (Op.bytesLess a b) (Op.bytesLess a b = true) (tru_q _))
 | .leq => K (mkB (Op.bytesLess a b || a == b) ((Op.bytesLess a b || a == b) = true) (tru_q _))
 | .gtr => K (mkB (!(Op.bytesLess a b || a == b)) ((!(Op.bytesLess a b || a == b)) = true) (tru_q _))
 | .geq => K (mkB (!(Op.bytesLess a b)) ((!(Op.bytesLess a b)) = true) (tru_q _))
 | _ => none

def strBin {R : Type} (op : BinOp) (x y : Operand) (a b : ByteArray) (K : AV Γ → Option R) : Option R :=
 match op, x, y with
 | .add, _, _ => if a.size + b.size ≤ 9223372036854775807 then K (.f (.c (.v (.string (a ++ b))))) else none
 | op, .const _, .const _ => strCmp op a.data.toList b.data.toList K
 | op, .const _, _ => strCmp op a.data.toList b.toList K
 | op, _, .const _ => strCmp op a.toList b.data.toList K
 | op, _, _ => strCmp op a.toList b.toList K

def eqLeaf (td : TD) (a b : Cell Γ) : Option Bool :=
 match td, a, b with
 | .int _, .v (.int k a), .v (.int k' b) => if k = k' then some (a == b) else none
 | .bool, .v (.bool a), .v (.bool b) => some (a == b)
 | .bool, .bb a _ _ _, .v (.bool b) => some (a == b)
 | .bool, .nb a _ _ _, .v (.bool b) => some (a == b)
 | .str, .v (.string a), .v (.string b) => some (a.toList == b.toList)
 | _, _, _ => none

def allB : List Bool → Bool
 | [] => true
 | [b] => b
 | b :: bs => b && allB bs

mutual
def eqTy : Nat → Bool → Nat → List (Cell Γ) → List (Cell Γ) → Option Bool
 | 0, _, _, _, _ => none
 | _ + 1, false, t, a :: _, b :: _ => eqLeaf (Γ.td t) a b
 | n + 1, true, t, as, bs => match Γ.td t with
  | .st sz _ fs => (eqFs n fs (as.take sz) (bs.take sz)).map allB
  | _ => none
 | _, _, _, _, _ => none
def eqFs : Nat → List Fd → List (Cell Γ) → List (Cell Γ) → Option (List Bool)
 | 0, _, _, _ => none
 | _ + 1, [], _, _ => some []
 | n + 1, f :: fs, as, bs => match eqTy n f.agg f.ty (as.drop f.off) (bs.drop f.off) with
  | some b => match eqFs n fs as bs with
   | some r => some (b :: r)
   | none => none
  | none => none
end

def plainB : AV Γ → AV Γ
 | .f (.c (.bb b _ _ _)) => .f (.c (.v (.bool b)))
 | .f (.c (.nb b _ _ _)) => .f (.c (.v (.bool b)))
 | x => x

def binAV {R : Type} (op : BinOp) (t : Nat) (ox oy : Operand) (x y : AV Γ) (K : AV Γ → Option R) : Option R :=
 match x, y with
 | .f (.c (.v (.int k a))), .f (.c (.v (.int k' b))) => intBin2 op k a k' b K
 | .f (.c (.v (.string a))), .f (.c (.v (.string b))) => strBin op ox oy a b K
 | .f (.c (.v (.bool a))), .f (.c (.v (.bool b))) => match op, Γ.td t with
  | .eql, .bool => K (mkB (a == b) ((a == b) = true) (tru_q _))
  | .neq, .bool => K (mkN (!(a == b)) ((a == b) = true) (not_t _))
  | _, _ => none
 | .f (.agg as), .f (.agg bs) => bif (as.length.beq (Γ.td t).size).and (bs.length.beq (Γ.td t).size) then (match eqTy 20 true t as bs with
  | some b => match op with
   | .eql => K (mkB b (b = true) (tru_q _))
   | .neq => K (mkN (!b) (b = true) (not_t _))
   | _ => none
  | none => none) else none
 | _, _ => none

def unAV {R : Type} (op : UnOp) (x : AV Γ) (K : AV Γ → Option R) : Option R :=
 match op, x with
 | .not, .f (.c (.v (.bool b))) => K (mkN (!b) (b = true) (not_t b))
 | .not, .f (.c (.bb b q i h)) => K (.f (.c (.nb (!b) q i (congrArg not h))))
 | .not, .f (.c (.nb b q i h)) => K (.f (.c (.bb (!b) q i (by subst h; simp))))
 | .neg, .f (.c (.v (.int k n))) => K (.f (.c (.v (.int k (wrapK k (0 - n))))))
 | _, _ => none

def lenAV {R : Type} (td : TD) (x : AV Γ) (K : AV Γ → Option R) : Option R :=
 match td, x with
 | .str, .f (.c (.v (.string s))) => K (.f (.c (.v (.int .i64 (s.size : Int)))))
 | .sl _ _, .f (.c (.row _ xs _)) => K (.f (.c (.v (.int .i64 (xs.length : Int)))))
 | .sl _ _, .f (.c (.own _ xs _ _)) => K (.f (.c (.v (.int .i64 (xs.length : Int)))))
 | .sl _ _, .f (.c (.v (.slice none 0 0))) => K (.f (.c (.v (.int .i64 0))))
 | _, _ => none

def intOfAV : AV Γ → Option Int
 | .f (.c (.v (.int _ n))) => some n
 | _ => none

def cutB {R : Type} (n : Int) (lo hi : Option (Option Int)) (K : Int → Int → Option R) : Option R :=
 match lo, hi with
 | none, none => K 0 n
 | some (some l), none => if 0 ≤ l then (if l ≤ n then K l n else none) else none
 | none, some (some h) => if 0 ≤ h then (if h ≤ n then K 0 h else none) else none
 | some (some l), some (some h) => if 0 ≤ l then (if l ≤ h then (if h ≤ n then K l h else none) else none) else none
 | _, _ => none

def tokO : Own → Option (Option (Nat × Nat))
 | .ro => none
 | .full => some none
 | .nil => some none
 | .tok d j => some (some (d, j))

def appLen {α β : Type} (xs : List α) (ys : List β) : Nat := match ys with
 | [_] => xs.length
 | ys => xs.length + ys.length

def appendAV {R : Type} (dst : Nat) (e0 bytes : Nat) (x y : AV Γ) (K : AV Γ → Eff Γ → Option R) : Option R :=
 match x, y with
 | .f (.c (.row e xs o)), .f (.c (.row e' ys _)) =>
  bif !(e.beq e0) then none else
  if h : e' = e then match tokO o with
   | some t => if appLen xs ys < 140737488355328 / bytes then K (.f (.c (.row e (xs ++ (h ▸ ys)) (.tok dst 0)))) (.app t) else none
   | none => none
  else none
 | .f (.c (.own e xs d j)), .f (.c (.row e' ys _)) =>
  bif !(e.beq e0) then none else
  if h : e' = e then if appLen xs ys < 140737488355328 / bytes then K (.f (.c (.own e (xs ++ (h ▸ ys)) dst 0))) (.app (some (d, j))) else none
  else none
 | _, _ => none

def nth {α : Type _} : List α → Nat → Option α
 | [], _ => none
 | x :: _, 0 => some x
 | _ :: l, n + 1 => nth l n

def nthA : List (FV Γ) → Nat → Option (FV Γ)
 | [], _ => none
 | x :: _, 0 => some x
 | _ :: l, n + 1 => nthA l n

def cutRow {α : Type} (xs : List α) : Bool → Bool → Int → Int → List α
 | false, false, _, _ => xs
 | true, false, l, _ => xs.drop l.toNat
 | false, true, _, h => xs.take h.toNat
 | true, true, l, h => (xs.take h.toNat).drop l.toNat

def cutAV {R : Type} (td : TD) (x : AV Γ) (lo hi : Option (AV Γ)) (K : AV Γ → Option R) : Option R :=
 match td, x with
 | .str, .f (.c (.v (.string s))) => cutB (s.size : Int) (lo.map intOfAV) (hi.map intOfAV) fun l h => K (.f (.c (.v (.string (s.extract l.toNat h.toNat)))))
 | .sl e' _, .f (.c (.row e xs _)) => bif e.beq e' then cutB (xs.length : Int) (lo.map intOfAV) (hi.map intOfAV) fun l h => K (.f (.c (.row e (cutRow xs lo.isSome hi.isSome l h) .ro))) else none
 | _, _ => none

def mmAV {R : Type} (mx : Bool) (x y : AV Γ) (K : AV Γ → Option R) : Option R :=
 match x, y with
 | .f (.c (.v (.int k a))), .f (.c (.v (.int k' b))) => if k = k' then K (.f (.c (.v (.int k (bif mx then (if b > a then b else a) else (if b < a then b else a)))))) else none
 | _, _ => none

theorem bk_ty {Γ : Ctx} {e : Nat} (h : e = Γ.bk) : List (Γ.kd e).α = List Int := by subst h; rw [Γ.bok]

def strAV {R : Type} (src : TD) (e : Nat) (xs : List (Γ.kd e).α) (K : AV Γ → Option R) : Option R :=
 match src, Γ.td e with
 | .sl e' _, .int .u8 => bif e.beq e' then (if h : e = Γ.bk then K (.f (.c (.v (.string (strOfNums (cast (bk_ty h) xs)))))) else none) else none
 | _, _ => none

def allPts : List (AV Γ) → Option (List (Pt Γ))
 | [] => some []
 | .p q :: r => match allPts r with
  | some qs => some (q :: qs)
  | none => none
 | _ :: _ => none

def roCell (p : Nat → Nat → Bool) : Cell Γ → Cell Γ
 | .row e xs (.tok d j) => .row e xs (bif p d j then .ro else .tok d j)
 | .own e xs d j => bif p d j then .u else .own e xs d j
 | c => c

def roFV (p : Nat → Nat → Bool) : FV Γ → FV Γ
 | .c x => .c (roCell p x)
 | .agg cs => .agg (cs.map (roCell p))

def roPt (p : Nat → Nat → Bool) : Pt Γ → Pt Γ
 | .ref cs => .ref (cs.map (roCell p))
 | .el e xs d j i o => bif p d j then .un else .el e xs d j i o
 | q => q

def roAV (p : Nat → Nat → Bool) : AV Γ → AV Γ
 | .f x => .f (roFV p x)
 | .tup l => .tup (l.map (roFV p))
 | .p q => .p (roPt p q)
 | .clo f qs => .clo f (qs.map (roPt p))
 | .u => .u

def viewCell (fl : Bool) : Cell Γ → Cell Γ
 | .row e xs (.tok _ _) => .row e xs .ro
 | .own e xs _ _ => bif fl then .row e xs .ro else .u
 | c => c

def viewFV (fl : Bool) : FV Γ → FV Γ
 | .c x => .c (viewCell fl x)
 | .agg cs => .agg (cs.map (viewCell fl))

def viewPt (fl : Bool) (bx : Bx Γ) : Pt Γ → Option (Pt Γ)
 | .box s o => match bxGet bx s with
  | some (_, cs) => some (.ref ((cs.drop o).map (viewCell fl)))
  | none => none
 | .ref cs => some (.ref (cs.map (viewCell fl)))
 | _ => none

def viewPts (fl : Bool) (bx : Bx Γ) : List (Pt Γ) → Option (List (Pt Γ))
 | [] => some []
 | q :: qs => match viewPt fl bx q with
  | some r => match viewPts fl bx qs with
   | some rs => some (r :: rs)
   | none => none
  | none => none

def viewAV (fl : Bool) (bx : Bx Γ) : AV Γ → AV Γ
 | .p q => match viewPt fl bx q with
  | some r => .p r
  | none => .u
 | .clo f qs => match viewPts fl bx qs with
  | some rs => .clo f rs
  | none => .u
 | .f x => .f (viewFV fl x)
 | .tup l => .tup (l.map (viewFV fl))
 | .u => .u

def hasKey (ks : List Nat) (s : Nat) : Bool := ks.any fun y => s.beq y

def viewArgs (fl : Bool) (bx : Bx Γ) : List VC → List (AV Γ) → List (AV Γ)
 | .wr _ _ _ :: vs, a :: as => a :: viewArgs fl bx vs as
 | .mrow _ :: vs, a :: as => a :: viewArgs fl bx vs as
 | _ :: vs, a :: as => viewAV fl bx a :: viewArgs fl bx vs as
 | _, as => as.map (viewAV fl bx)

def LC.noRd : LC → Bool
 | .row _ _ => false
 | _ => true

def viewBx (ks : List Nat) (bx : Bx Γ) : Bx Γ := (bx.filter fun x => hasKey ks x.1).map fun x => (x.1, x.2.1, x.2.2.map (roCell fun _ _ => true))
def restBx (ks : List Nat) (bx : Bx Γ) : Bx Γ := bx.filter fun x => !hasKey ks x.1

def noOwnRow : List LC → List (Cell Γ) → Bool
 | .row _ _ :: _, .own _ _ _ _ :: _ => false
 | _ :: ls, _ :: cs => noOwnRow ls cs
 | _, _ => true

def zipRows : List Nat → List (Nat × Nat) → List (Cell Γ) → List (Nat × Nat × Nat × Cell Γ)
 | t :: tm, (d, j) :: ts, c :: cs => (t, d, j, c) :: zipRows tm ts cs
 | _, _, _ => []

def callEff (rc : RC) (vs : List VC) (ks : List Nat) (tm : List Nat) (ts : List (Nat × Nat)) (cs : List (Cell Γ)) : Eff Γ :=
 match mutsOf vs with
 | [] => match ts with
  | [] => bif rc.ls.any LC.isRow then .fresh else .none
  | ts => .rows (rc.ls.any LC.isRow) (zipRows tm ts (cs.drop rc.ls.length))
 | ms => .muts ((rc.ls ++ outLs vs).any LC.isRow) (outsOf ms ks (cs.drop rc.ls.length))

def rowsOK (d : Nat) (vs : List VC) (ts : List (Nat × Nat)) : Bool :=
 ((nodupT ts).and (ts.all fun x => !(x.1.beq d))).and (match mutsOf vs, rowsOf vs with
 | [], _ => true
 | _, [] => true
 | _, _ => false)

def flatB (ts : List (Nat × Nat)) (ls : List LC) : Bool :=
 match ts with
 | [] => ls.all LC.noRd
 | _ => false

def entRun {R : Type} (d : Nat) (bx : Bx Γ) (args : List (AV Γ)) (ot : List (Option Nat)) (f : Nat) (K : AV Γ → Eff Γ → Option R) : List (Ent Γ) → Option R
 | [] => none
 | e :: es => bif Nat.beq e.f f then
   bif (nodupB (inKeys e.args args)).and (rowsOK d e.args (inToks e.args args)) then
    match inTmps e.args ot with
    | some tm => match argsIn (viewBx (inKeys e.args args) bx) e.args (viewArgs (flatB (inToks e.args args) e.ol) (restBx (inKeys e.args args) bx) e.args args) with
     | some cs => bif !noOwnRow (e.args.flatMap VC.ls) cs then none else match decLeaves (e.args.flatMap VC.ls) cs with
      | some x => (e.fn x).bind fun y => K (resOf e.res (encLeaves (Own.tok d) 0 e.ol y)) (callEff e.res e.args (inKeys e.args args) tm (inToks e.args args) (encLeaves (Own.tok d) 0 e.ol y))
      | none => entRun d bx args ot f K es
     | none => entRun d bx args ot f K es
    | none => entRun d bx args ot f K es
   else entRun d bx args ot f K es
  else entRun d bx args ot f K es

def tmpOf : Operand → Option Nat
 | .tmp t => some t
 | _ => none

def callAV {R : Type} (E : List (Ent Γ)) (tm : Tm Γ) (bx : Bx Γ) (o : Oper) (c : Call) (K : AV Γ → Eff Γ → Option R) : Option R :=
 match c.callee with
 | .value f => match ev tm f with
  | .clo g caps => match o.dst with
   | some d => entRun d bx ((c.args.toList.map fun x => ev tm x) ++ caps.map fun q => .p q) (c.args.toList.map tmpOf) g K E
   | none => none
  | _ => none
 | .builtin .len => match c.args.toList, c.argTypes.toList with
  | [x], [t] => lenAV (Γ.td t) (ev tm x) fun v => K v .none
  | _, _ => none
 | .builtin .max => match c.args.toList with
  | [x, y] => mmAV true (ev tm x) (ev tm y) fun v => K v .none
  | _ => none
 | .builtin .min => match c.args.toList with
  | [x, y] => mmAV false (ev tm x) (ev tm y) fun v => K v .none
  | _ => none
 | .builtin .append => match c.args.toList, c.argTypes.toList, o.dst with
  | [x, y], [t, t'], some d => bif t.beq t' then match Γ.td t with
   | .sl e bytes => appendAV d e bytes (coerce t (ev tm x)) (coerce t (ev tm y)) K
   | _ => none
   else none
  | _, _, _ => none
 | _ => none

def sameOp : Operand → Operand → Bool
 | .tmp a, .tmp b => a.beq b
 | _, _ => false

def overV : List Value → Nat → List Value → List Value
 | [], _, _ => []
 | c :: cs, 0, n :: ns => n :: overV cs 0 ns
 | c :: cs, 0, [] => c :: cs
 | c :: cs, o + 1, ns => c :: overV cs o ns

def isConst : Operand → Bool
 | .const _ => true
 | _ => false

def evalOp {R : Type} (E : List (Ent Γ)) (tm : Tm Γ) (bx : Bx Γ) (o : Oper) (K : AV Γ → Eff Γ → Option R) : Option R :=
 match o.op with
 | .move x => K (coerce o.type (ev tm x)) .none
 | .assign x => K (coerce o.type (ev tm x)) .none
 | .pick c a b => onBool (ev tm c) (K (ev tm a) .none) (K (ev tm b) .none)
 | .alloc t => match zeroCells (Γ.td t), o.dst with
  | some cs, some d => K (.p (.box d 0)) (.new t cs)
  | _, _ => none
 | .box t x => match cloFn (coerce t (ev tm x)), o.dst with
  | .f fv, some d => bif fv.ok then K (.p (.box d 0)) (.new t (fvCells fv)) else none
  | _, _ => none
 | .build t parts => match Γ.td t with
  | .st _ zs fs => match fillCells (fun i => (nth fs i).map fun f => (f.off, f.sz)) (zs.map zCell) (parts.toList.map fun p => (p.1, ev tm p.2)) with
   | some cs => K (.f (.agg cs)) .none
   | none => none
  | .ar _ _ esz zs => match fillCells (fun i => some (i * esz, esz)) (zs.map zCell) (parts.toList.map fun p => (p.1, ev tm p.2)) with
   | some cs => K (.f (.agg cs)) .none
   | none => none
  | _ => none
 | .buildSlice t len parts => match Γ.td t with
  | .sl e _ => match fillCells (fun i => some (i * (Γ.kd e).K.sz, (Γ.kd e).K.sz)) (List.replicate (len * (Γ.kd e).K.sz) .u) (parts.toList.map fun p => (p.1, ev tm p.2)) with
   | some cs => match cellVals cs with
    | some vs => match decRow (Γ.kd e).K len vs with
     | some xs => bif (len * (Γ.kd e).K.sz).ble 16777216 then K (.f (.c (.row e xs .full))) .none else none
     | none => none
    | none => none
   | none => none
  | _ => none
 | .load t a => match ev tm a with
  | .p (.box s off) => match bxGet bx s with
   | some (_, cs) => loadAV (Γ.td t) (cs.drop off) fun v => K v .none
   | none => none
  | .p (.ref cs) => loadAV (Γ.td t) cs fun v => K v .none
  | .p (.ix _ o e xs i) => loadAV (Γ.td t) ((((Γ.kd e).K.enc (rdK (Γ.kd e).K xs i)).map Cell.v).drop o) fun v => K v .none
  | .p (.el e xs _ _ i o) => loadAV (Γ.td t) ((((Γ.kd e).K.enc (rdK (Γ.kd e).K xs i)).map Cell.v).drop o) fun v => K v .none
  | _ => none
 | .store t a x => match ev tm a, cloFn (coerce t (ev tm x)) with
  | .p (.box s off), .f fv => bif ((Γ.td t).known.and ((fvCells fv).all Cell.one)).and ((fvCells fv).length.beq (Γ.td t).size) then K .u (.set s off (fvCells fv)) else none
  | .p (.el e xs d j i off), .f fv => bif ((Γ.td t).known.and ((fvCells fv).all Cell.one)).and (((fvCells fv).length.beq (Γ.td t).size).and ((off + (fvCells fv).length).ble (Γ.kd e).K.sz)) then (match cellVals (fvCells fv) with
   | some us => match (Γ.kd e).K.dec (overV ((Γ.kd e).K.enc (rdK (Γ.kd e).K xs i)) off us) with
    | some y => K .u (.put d j e i y)
    | none => none
   | none => none) else none
  | _, _ => none
 | .nilCheck x => match ev tm x with
  | .p .un => none
  | .p q => K (.p q) .none
  | .clo f caps => K (.clo f caps) .none
  | _ => none
 | .binOp op t x y _ => binAV op t x y (plainB (ev tm x)) (plainB (ev tm y)) fun v => K v .none
 | .unOp op _ x => unAV op (ev tm x) fun v => K v .none
 | .convert src dst x => match Γ.td dst, ev tm x with
  | .str, .f (.c (.row e xs _)) => strAV (Γ.td src) e xs fun v => K v .none
  | .int k, .f (.c (.v (.int _ n))) => match Γ.td src with
   | .int _ => K (.f (.c (.v (.int k (wrapK k n))))) .none
   | _ => none
  | _, _ => none
 | .field t x i => match Γ.td t, ev tm x with
  | .st _ _ fs, .f (.agg cs) => match nth fs i with
   | some f => partAV f.agg f.sz (cs.drop f.off) fun v => K v .none
   | none => none
  | _, _ => none
 | .fieldAddr t x i => match Γ.td t with
  | .st _ _ fs => match nth fs i, ev tm x with
   | some f, .p (.box s o) => K (.p (.box s (o + f.off))) .none
   | some f, .p (.ref cs) => K (.p (.ref (cs.drop f.off))) .none
   | some f, .p (.ix s o e xs i) => K (.p (.ix s (o + f.off) e xs i)) .none
   | some f, .p (.el e xs d j i o) => K (.p (.el e xs d j i (o + f.off))) .none
   | _, _ => none
  | _ => none
 | .indexAddr t x i => match Γ.td t, ev tm x, intOfAV (ev tm i) with
  | .sl e' _, .f (.c (.row e xs _)), some n => bif e.beq e' then (if 0 ≤ n then (if n < (xs.length : Int) then K (.p (.ref (((Γ.kd e).K.enc (rdK (Γ.kd e).K xs n)).map Cell.v))) .none else none) else none) else none
  | .sl e' _, .f (.c (.own e xs d j)), some n => bif e.beq e' then (if 0 ≤ n then (if n < (xs.length : Int) then K (.p (.el e xs d j n 0)) .none else none) else none) else none
  | .ar len e esz _, .p (.box s off), some n => bif isConst i then (if 0 ≤ n then (if n < (len : Int) then K (.p (.box s (off + n.toNat * esz))) .none else none) else none) else match bxGet bx s with
   | some (T, cs) => bif (Γ.td T).isArr then (match cellVals ((cs.drop off).take (len * esz)) with
    | some vs => match decRow (Γ.kd e).K len vs with
     | some xs => if 0 ≤ n then (if n < (len : Int) then K (.p (.ix s 0 e xs n)) .none else none) else none
     | none => none
    | none => none) else none
   | none => none
  | _, _, _ => none
 | .index t x i => match Γ.td t, ev tm x, intOfAV (ev tm i) with
  | .str, .f (.c (.v (.string s))), some n => if 0 ≤ n then (if n < (s.size : Int) then K (.f (.c (.v (.int .u8 (bt s n))))) .none else none) else none
  | .ar len e esz _, .f (.agg cs), some n => match cellVals cs with
   | some vs => match decRow (Γ.kd e).K len vs with
    | some xs => if 0 ≤ n then (if n < (len : Int) then loadAV (Γ.td e) (((Γ.kd e).K.enc (rdK (Γ.kd e).K xs n)).map Cell.v) (fun v => K v .none) else none) else none
    | none => none
   | none => none
  | _, _, _ => none
 | .slice t x lo hi mx => match mx with
  | none => cutAV (Γ.td t) (ev tm x) (lo.map (ev tm)) (hi.map (ev tm)) fun v => K v .none
  | some _ => none
 | .extract x i => match ev tm x with
  | .tup l => match nthA l i with
   | some v => K (.f v) .none
   | none => none
  | _ => none
 | .makeSlice t l c => match Γ.td t, o.dst, sameOp l c, intOfAV (ev tm l) with
  | .sl e bytes, some d, true, some n => if 0 ≤ n then (if n.toNat ≤ 281474976710656 / bytes then K (.f (.c (.own e (List.replicate n.toNat (Γ.kd e).K.d) d 0))) .fresh else none) else none
  | _, _, _, _ => none
 | .makeFunc (.func f) first captured => match first.toList, allPts (captured.toList.map (ev tm)) with
  | [], some qs => K (.clo f qs) .none
  | _, _ => none
 | .call c => callAV E tm bx o c K
 | _ => none


def St.ro (p : Nat → Nat → Bool) (st : St Γ) : St Γ :=
 ⟨st.tm.map fun x => (x.1, roAV p x.2), st.bx.map fun x => (x.1, x.2.1, x.2.2.map (roCell p))⟩

def ptIn (q i : Nat → Bool) : Pt Γ → Bool
 | .box s _ => q s
 | .ix s _ _ _ _ => i s
 | _ => false

def noPt (q i : Nat → Bool) : AV Γ → AV Γ
 | .p x => bif ptIn q i x then .u else .p x
 | .clo f qs => bif qs.any (ptIn q i) then .u else .clo f qs
 | a => a

def St.drop (p : Nat → Bool) (st : St Γ) : St Γ :=
 ⟨st.tm.map fun x => (x.1, noPt p p x.2), st.bx.filter fun x => !p x.1⟩

def isTok (o : Option Nat) (d _j : Nat) : Bool :=
 match o with
 | some x => x.beq d
 | none => false

def sameTok (t : Nat × Nat) (d j : Nat) : Bool := (t.1.beq d).and (t.2.beq j)

def elCell (d j e : Nat) (i : Int) (x : (Γ.kd e).α) : Cell Γ → Cell Γ
 | .own e' xs d' j' => bif sameTok (d, j) d' j' then (if h : e = e' then .own e' (xs.set i.toNat (h ▸ x)) d' j' else .u) else .own e' xs d' j'
 | c => roCell (sameTok (d, j)) c

def elFV (d j e : Nat) (i : Int) (x : (Γ.kd e).α) : FV Γ → FV Γ
 | .c c => .c (elCell d j e i x c)
 | .agg cs => .agg (cs.map (elCell d j e i x))

def elPt (d j e : Nat) (i : Int) (x : (Γ.kd e).α) : Pt Γ → Pt Γ
 | .el e' xs d' j' i' o => bif sameTok (d, j) d' j' then (if h : e = e' then .el e' (xs.set i.toNat (h ▸ x)) d' j' i' o else .un) else .el e' xs d' j' i' o
 | q => roPt (sameTok (d, j)) q

def elAV (d j e : Nat) (i : Int) (x : (Γ.kd e).α) : AV Γ → AV Γ
 | .f y => .f (elFV d j e i x y)
 | .tup l => .tup (l.map (elFV d j e i x))
 | .p q => .p (elPt d j e i x q)
 | .clo f qs => .clo f (qs.map (elPt d j e i x))
 | .u => .u

def rowHas (l : List (Nat × Nat × Nat × Cell Γ)) (d j : Nat) : Bool := l.any fun x => (x.2.1.beq d).and (x.2.2.1.beq j)

def retok (d j : Nat) : Cell Γ → Cell Γ
 | .own e xs _ _ => .own e xs d j
 | _ => .u

def rowPuts : List (Nat × Nat × Nat × Cell Γ) → Tm Γ → Tm Γ
 | [], tm => tm
 | (t, d, j, c) :: l, tm => (t, .f (.c (retok d j c))) :: rowPuts l tm

def bxHas (bx : Bx Γ) (d : Nat) : Bool := bx.any fun x => x.1.beq d

def putTm (tm : Tm Γ) (d : Option Nat) (v : AV Γ) : Tm Γ :=
 match d with
 | some d => (d, v) :: tm
 | none => tm

def setAll : Bx Γ → List (Nat × List (Cell Γ)) → Bx Γ
 | bx, [] => bx
 | bx, (s, cs) :: l => setAll (bxSet bx s cs) l

def St.upd (st : St Γ) (dst : Option Nat) (v : AV Γ) : Eff Γ → St Γ
 | .none => ⟨putTm st.tm dst v, st.bx⟩
 | .new T cs => match dst with
  | some d => let st := bif bxHas st.bx d then st.drop d.beq else st; ⟨(d, v) :: st.tm, (d, T, cs) :: st.bx⟩
  | none => st
 | .set s off cs => match bxGet st.bx s with
  | some (T, old) => ⟨putTm (bif (Γ.td T).isArr then st.tm.map fun x => (x.1, noPt (fun _ => false) s.beq x.2) else st.tm) dst .u, bxSet st.bx s (setCells old off cs)⟩
  | none => st
 | .app o => let st := st.ro (isTok dst); let st := match o with | some t => st.ro (sameTok t) | none => st; ⟨putTm st.tm dst v, st.bx⟩
 | .fresh => let st := st.ro (isTok dst); ⟨putTm st.tm dst v, st.bx⟩
 | .muts fr l => let st := bif fr then st.ro (isTok dst) else st; ⟨putTm st.tm dst v, setAll st.bx l⟩
 | .put d j e i x => ⟨putTm (st.tm.map fun y => (y.1, elAV d j e i x y.2)) dst .u, st.bx.map fun y => (y.1, y.2.1, y.2.2.map (elCell d j e i x))⟩
 | .rows fr l => let st := bif fr then st.ro (isTok dst) else st; let st := st.ro (rowHas l); ⟨putTm (rowPuts l st.tm) dst v, st.bx⟩

def effOK (bx : Bx Γ) : Eff Γ → Bool
 | .set s off cs => match bxGet bx s with
  | some (_, old) => (off + cs.length).ble old.length
  | none => false
 | .muts _ l => (nodupB (l.map fun x => x.1)).and (l.all fun x => match bxGet bx x.1 with
  | some (T, _) => !(Γ.td T).isArr
  | none => false)
 | _ => true

def putB (st : St Γ) (t : Nat) (b : Bool) : St Γ := ⟨(t, .f (.c (.v (.bool b)))) :: st.tm, st.bx⟩

def condT {R : Type} (t : Nat) (st : St Γ) (A B : St Γ → Option R) : Option R :=
 match tmGet st.tm t with
 | .f (.c (.v (.bool b))) => if b = true then A (putB st t true) else B (putB st t false)
 | .f (.c (.bb _ q i _)) => @ite _ q i (A (putB st t true)) (B (putB st t false))
 | .f (.c (.nb _ q i _)) => @ite _ q i (B (putB st t false)) (A (putB st t true))
 | _ => none

def skipAV : AV Γ := .f (.c (.v (.tuple ⟨[]⟩)))

def condG {R : Type} (want : Bool) (t : Nat) (st : St Γ) (yes no : St Γ → Option R) : Option R :=
 match tmGet st.tm t with
 | .f (.c (.v (.tuple ⟨[]⟩))) => no st
 | _ => match want with
  | true => condT t st yes no
  | false => condT t st no yes

def dstOf (all : List Oper) (j : Nat) : Option Nat :=
 match nth all j with
 | some o => o.dst
 | none => none

structure Nt where
 n : Nat
 fx : List Nat
 df : List Deferred

def alKill (al : List (Nat × Nat)) : Option Nat → List (Nat × Nat)
 | none => al
 | some d => al.filter fun x => (!(x.1.beq d)).and (!(x.2.beq d))

def alStep (al : List (Nat × Nat)) (o : Oper) : List (Nat × Nat) :=
 match o.op, o.dst with
 | .move (.tmp s), some d => bif s.beq d then alKill al o.dst else (d, s) :: alKill al o.dst
 | _, d => alKill al d

def alRows (al : List (Nat × Nat)) : List (Nat × Nat × Nat × Cell Γ) → List (Nat × Nat × Nat × Cell Γ)
 | [] => []
 | x :: l => (x :: ((al.filter fun y => y.1.beq x.1).map fun y => (y.2, x.2))) ++ alRows al l

def withAl (al : List (Nat × Nat)) : Eff Γ → Eff Γ
 | .rows fr l => .rows fr (alRows al l)
 | e => e

def aops {R : Type} (n : Nt) (E : List (Ent Γ)) (all : List Oper) : List (Nat × Nat) → List Oper → St Γ → (St Γ → Option R) → Option R
 | _, [], st, K => K st
 | al, o :: r, st, K => bif dstIn n o.dst then match o.guard with
  | none => evalOp E st.tm st.bx o fun v eff => bif effOK st.bx eff then aops n E all (alStep al o) r (st.upd o.dst v (withAl al eff)) K else none
  | some (j, want) => match dstOf all j with
   | some t =>
    let yes := fun st : St Γ => evalOp E st.tm st.bx o fun v eff => bif effOK st.bx eff then aops n E all (alStep al o) r (st.upd o.dst v (withAl al eff)) K else none
    let no := fun st : St Γ => aops n E all (alKill al o.dst) r (st.upd o.dst skipAV .none) K
    condG want t st yes no
   | none => none
  else none
where
 dstIn (n : Nt) : Option Nat → Bool
  | some d => (d.blt n.n).and (!(hasKey n.fx d))
  | none => true


def onAll (o : Oper) (i : Nat) : Bool := o.after.toList.any fun e => (e.on.beq i).and (Region.binds .any e)

def waitsAll (all : List Oper) (o : Oper) (j : Nat) : Nat → Bool
 | 0 => true
 | i + 1 => (bif onAll o i then true else ((all.take j).drop (i + 1)).any fun x => onAll x i).and (waitsAll all o j i)

def headLen (all : List Oper) : List Oper → Nat → Nat
 | [], j => j
 | o :: r, j => bif tailOK (o :: r) j then j else headLen all r (j + 1)
where
 tailOK : List Oper → Nat → Bool
  | [], _ => true
  | o :: r, j => ((waitsAll all o j j).and (o.after.toList.all fun e => (!(Region.binds .any e)).or (e.on.blt j))).and (tailOK r (j + 1))

def opTmps (o : Oper) : List Nat := o.op.operands.toList.filterMap fun | .tmp t => some t | _ => none

def headOp : Op → Bool
 | .store _ (.tmp _) _ => true
 | .call _ => true
 | .alloc _ | .box .. | .move _ | .assign _ | .pick .. | .build .. | .buildSlice .. | .load .. | .nilCheck _ | .binOp .. | .unOp .. | .convert .. | .makeFunc .. | .slice .. | .fieldAddr .. | .field .. | .indexAddr .. | .index .. | .extract .. => true
 | _ => false

def storeTo : Op → Option Nat
 | .store _ (.tmp p) _ => some p
 | _ => none

def stOne (o : Oper) (j : Nat) : List Oper → Nat → Bool
 | [], _ => true
 | x :: r, i => ((i.beq j).or (match storeTo o.op, storeTo x.op with
  | some p, some p' => !(p.beq p')
  | _, _ => true)).and (stOne o j r (i + 1))

def headMoves (tm : Tm Γ) : List Oper → Tm Γ
 | [] => tm
 | o :: r => match o.op, o.dst with
  | .move x, some d => headMoves ((d, ev tm x) :: tm) r
  | _, _ => headMoves tm r

def callKeys (tm : Tm Γ) (o : Oper) : List Nat :=
 match o.op with
 | .call c => c.args.toList.filterMap fun x => match ev tm x with
  | .p (.box s 0) => some s
  | _ => none
 | .store _ (.tmp p) _ => (match tmGet tm p with
  | .p (.box s 0) => [s]
  | _ => [])
 | _ => []

def nbOf (M : List Nat) (tm0 : Tm Γ) (o : Oper) (nb : Bx Γ) : Bx Γ := match storeTo o.op with
 | some p => bif (hasKey M p).and (!(hasKey (callKeys tm0 o) p)) then [] else (match bxGet nb p with
  | some x => [(p, x)]
  | none => [])
 | none => (callKeys tm0 o).filterMap fun s => (bxGet nb s).map fun x => (s, x)

def mvOK (tm0 : Tm Γ) (h : List Oper) : List Oper → Nat → Bool
 | [], _ => true
 | o :: r, j => (go o j h 0).and (mvOK tm0 h r (j + 1))
where
 go (o : Oper) (j : Nat) : List Oper → Nat → Bool
  | [], _ => true
  | x :: r, i => ((!(i.blt j)).or ((!((callKeys tm0 o).any fun s => hasKey (callKeys tm0 x) s)).or (onAll o i))).and (go o j r (i + 1))

def mutNb : List (Nat × List (Cell Γ)) → Bx Γ → Bx Γ
 | [], nb => nb
 | (s, cs) :: l, nb => match bxGet nb s with
  | some (T, _) => mutNb l ((s, T, cs) :: nb)
  | none => mutNb l nb

def headOK1 (h : List Oper) (o : Oper) (j : Nat) : Bool :=
 ((headOp o.op).and (stOne o j h 0)).and <| ((okAt h 0).and (match o.guard with
  | none => true
  | some (g, _) => (onAll o g).and (g.blt j)))
where
 okAt : List Oper → Nat → Bool
  | [], _ => true
  | x :: r, i => (match x.dst with
   | some d => ((!(opTmps o).contains d).or ((onAll o i).and (i.blt j))).and ((i.beq j).or (match o.dst with | some d' => !(d'.beq d) | none => true))
   | none => true).and (okAt r (i + 1))

def backOK (o : Oper) (j : Nat) : Bool := o.after.toList.all fun e => (!(Region.binds .any e)).or (e.on.blt j)

def headOK (h : List Oper) : List Oper → Nat → Bool
 | [], _ => true
 | o :: r, j => ((headOK1 h o j).and (backOK o j)).and (headOK h r (j + 1))

def dsts (h : List Oper) (d : Nat) : Bool := h.any fun o => match o.dst with | some x => x.beq d | none => false


def freeCell (q : Nat → Bool) : Cell Γ → Bool
 | .row _ _ (.tok d _) => !(q d)
 | .own _ _ d _ => !(q d)
 | _ => true

def freeFV (q : Nat → Bool) : FV Γ → Bool
 | .c x => freeCell q x
 | .agg cs => cs.all (freeCell q)

def freePt (q : Nat → Bool) : Pt Γ → Bool
 | .ref cs => cs.all (freeCell q)
 | .el _ _ d _ _ _ => !(q d)
 | _ => true

def freeAV (q : Nat → Bool) : AV Γ → Bool
 | .f x => freeFV q x
 | .tup l => l.all (freeFV q)
 | .p x => freePt q x
 | .clo _ qs => qs.all (freePt q)
 | .u => true

def ownTokV (dst : Option Nat) : AV Γ → Bool
 | .f (.c (.row _ _ (.tok d _))) => (match dst with
  | some x => x.beq d
  | none => false)
 | _ => false

def eatOK (eat : List Nat) (o : Oper) (v : AV Γ) (eff : Eff Γ) : Bool := match eat with
 | [] => (match eff with
  | .app (some _) => false
  | _ => true)
 | _ => ((freeAV (hasKey eat) v).or (ownTokV o.dst v)).and (match eff with
  | .none => true
  | .fresh => true
  | .app none => true
  | .app (some (d, _)) => (hasKey eat d).and (hasKey (opTmps o) d)
  | .new _ cs => cs.all (freeCell (hasKey eat))
  | _ => false)

def isCall (h : List Oper) (d : Nat) : Bool := h.any fun o => match o.dst, o.op with
 | some x, .call _ => x.beq d
 | _, _ => false

def eaten (h : List Oper) : List Nat := h.filterMap fun o => match o.op with
 | .call c => (match c.callee, c.args.toList with
  | .builtin .append, .tmp d :: _ => bif isCall h d then some d else none
  | _, _ => none)
 | _ => none

def useOne (d : Nat) : List Oper → Bool
 | [] => true
 | o :: r => ((!(hasKey (opTmps o) d)).or (r.all fun x => !(hasKey (opTmps x) d))).and (useOne d r)

def eatUse (eat : List Nat) (h : List Oper) : Bool := eat.all fun d => (useOne d h).and (h.all fun o => match o.guard with
 | some (g, _) => (match dstOf h g with
  | some d' => !(d'.beq d)
  | none => true)
 | none => true)

def eatFree (eat : List Nat) (st : St Γ) : Bool := match eat with
 | [] => true
 | _ => (st.tm.all fun x => freeAV (hasKey eat) x.2).and (st.bx.all fun x => x.2.2.all (freeCell (hasKey eat)))

def eatRo (eat : List Nat) (st : St Γ) : St Γ := match eat with
 | [] => st
 | _ => st.ro fun d _ => hasKey eat d

def ahead {R : Type} (n : Nt) (E : List (Ent Γ)) (all : List Oper) (eat M : List Nat) (tm0 : Tm Γ) (bx0 : Bx Γ) : List Oper → Tm Γ → Bx Γ → (St Γ → Option R) → Option R
 | [], tm, nb, K => K ⟨tm, nb ++ bx0⟩
 | o :: r, tm, nb, K => bif aops.dstIn n o.dst then
  let yes := fun tm : Tm Γ => evalOp E tm (nbOf M tm0 o nb ++ bx0) o fun v eff => bif eatOK eat o v eff then (match eff with
   | .none => ahead n E all eat M tm0 bx0 r (putTm tm o.dst v) nb K
   | .fresh => ahead n E all eat M tm0 bx0 r (putTm tm o.dst v) nb K
   | .app _ => ahead n E all eat M tm0 bx0 r (putTm tm o.dst v) nb K
   | .new T cs => match o.dst with
    | some d => ahead n E all eat M tm0 bx0 r ((d, v) :: tm) ((d, T, cs) :: nb) K
    | none => none
   | .set s off cs => match storeTo o.op, bxGet nb s with
    | some p, some (T, old) => bif ((p.beq s).and (effOK (nbOf M tm0 o nb ++ bx0) (.set s off cs))).and ((!(Γ.td T).isArr).and ((!(hasKey M s)).or (hasKey (callKeys tm0 o) s))) then ahead n E all eat M tm0 bx0 r (putTm tm o.dst v) ((s, T, setCells old off cs) :: nb) K else none
    | _, _ => none
   | .muts fr l => bif ((effOK (nbOf M tm0 o nb ++ bx0) (.muts fr l)).and (storeTo o.op).isNone).and (l.all fun x => (hasKey (callKeys tm0 o) x.1).and (match bxGet nb x.1 with
    | some (T, _) => !(Γ.td T).isArr
    | none => false)) then ahead n E all eat M tm0 bx0 r (putTm tm o.dst v) (mutNb l nb) K else none
   | _ => none) else none
  match o.guard with
  | none => yes tm
  | some (j, want) => match dstOf all j with
   | some t =>
    let no := fun tm : Tm Γ => ahead n E all eat M tm0 bx0 r (putTm tm o.dst skipAV) nb K
    condG want t ⟨tm, nb⟩ (fun st => yes st.tm) (fun st => no st.tm)
   | none => none
  else none

def adrawn {R : Type} (n : Nt) (E : List (Ent Γ)) (ops : List Oper) (st : St Γ) (K : St Γ → Option R) : Option R :=
 let h := headLen ops ops 0
 let head := ops.take h
 bif headOK head head 0 then
  let st := (st.ro fun d _ => dsts head d).drop (dsts head)
  let tk := headMoves st.tm head
  let M := head.flatMap (callKeys tk)
  let eat := eaten head
  bif ((mvOK tk head head 0).and (M.all fun s => !(dsts head s))).and ((eatUse eat head).and (eatFree eat st)) then
   ahead n E ops eat M tk (st.bx.filter fun x => !hasKey M x.1) head st.tm (st.bx.filter fun x => hasKey M x.1) fun st => aops n E ops [] (ops.drop h) (eatRo eat st) K
  else none
 else none


inductive SC where
 | v (vc : VC)
 | box (s o : Nat)
 | k (x : Value)     -- this value, and no other

inductive BC where
 | l (x : LC)
 | k (x : Value)
 | n (e : Nat)     -- a row that is still nil

structure Sh where
 tm : List (Nat × SC)
 bx : List (Nat × Nat × List BC)

def SC.ls : SC → List LC
 | .v vc => vc.ls
 | _ => []

def bcLs : List BC → List LC
 | [] => []
 | .l x :: r => x :: bcLs r
 | .k _ :: r => bcLs r
 | .n _ :: r => bcLs r

def Sh.ls (sh : Sh) : List LC := sh.tm.flatMap (fun x => x.2.ls) ++ sh.bx.flatMap (fun x => bcLs x.2.2)

def isK : Cell Γ → Value → Bool
 | .v (.int k n), .int k' m => (decide (k = k')).and (decide (n = m))
 | .v (.bool a), .bool b => !(a.xor b)
 | .v (.string a), .string b => decide (a = b)
 | _, _ => false

def isNil : Cell Γ → Nat → Bool
 | .row e' [] .nil, e => e'.beq e
 | _, _ => false

def bcCells : List BC → List (Cell Γ) → Option (List (Cell Γ))
 | [], [] => some []
 | .l _ :: r, c :: cs => match bcCells r cs with
  | some cs' => some (c :: cs')
  | none => none
 | .k v :: r, c :: cs => bif isK c v then bcCells r cs else none
 | .n e :: r, c :: cs => bif isNil c e then bcCells r cs else none
 | _, _ => none

def encBc : List BC → List (Cell Γ) → List (Cell Γ)
 | [], _ => []
 | .l _ :: r, c :: cs => c :: encBc r cs
 | .l _ :: r, [] => .u :: encBc r []
 | .k v :: r, cs => .v v :: encBc r cs
 | .n e :: r, cs => .row e [] .nil :: encBc r cs

def scCells : SC → AV Γ → Option (List (Cell Γ))
 | .v vc, a => avCells vc a
 | .box s o, .p (.box s' o') => bif (s.beq s').and (o.beq o') then some [] else none
 | .k v, .f (.c c) => bif isK c v then some [] else none
 | _, _ => none

def tmCells (tm : Tm Γ) : List (Nat × SC) → Option (List (Cell Γ))
 | [] => some []
 | (t, sc) :: r => match scCells sc (tmGet tm t) with
  | some cs => match tmCells tm r with
   | some cs' => some (cs ++ cs')
   | none => none
  | none => none

def bxCells (bx : Bx Γ) : List (Nat × Nat × List BC) → Option (List (Cell Γ))
 | [] => some []
 | (s, T, bs) :: r => match bxGet bx s with
  | some (T', cs) => bif T.beq T' then (match bcCells bs cs with
   | some cs1 => (match bxCells bx r with
    | some cs' => some (cs1 ++ cs')
    | none => none)
   | none => none) else none
  | none => none

def encTm : List (Nat × SC) → List (Cell Γ) → Tm Γ
 | [], _ => []
 | (t, .v vc) :: r, cs => (t, argAV vc (cs.take vc.ls.length)) :: encTm r (cs.drop vc.ls.length)
 | (t, .box s o) :: r, cs => (t, .p (.box s o)) :: encTm r cs
 | (t, .k v) :: r, cs => (t, .f (.c (.v v))) :: encTm r cs

def encBx : List (Nat × Nat × List BC) → List (Cell Γ) → Bx Γ
 | [], _ => []
 | (s, T, bs) :: r, cs => (s, T, encBc bs (cs.take (bcLs bs).length)) :: encBx r (cs.drop (bcLs bs).length)

def encSt (m : Nat) (sh : Sh) (x : PT Γ sh.ls) : St Γ :=
 let cs := encLeaves (Own.tok m) 0 sh.ls x
 ⟨encTm sh.tm cs, encBx sh.bx (cs.drop (sh.tm.flatMap (fun x => x.2.ls)).length)⟩

def Sh.closed (sh : Sh) : Bool := sh.tm.all fun x => match x.2 with
 | .box s _ => sh.bx.any fun y => y.1.beq s
 | _ => true

def onSt {R : Type} (sh : Sh) (st : St Γ) (G : PT Γ sh.ls → Option R) : Option R :=
 bif !sh.closed then none else
 match tmCells st.tm sh.tm with
 | some cs => match bxCells st.bx sh.bx with
  | some cs' => bif toksOK sh.ls (cs ++ cs') [] then (match decLeaves sh.ls (cs ++ cs') with
   | some x => G x
   | none => none) else none
  | none => none
 | none => none

structure Pn (Γ : Ctx) (R : Type) where
 loop : Bool
 id : Nat
 sh : Sh
 g : Nat → PT Γ sh.ls → Option R

def findPn {R : Type} (lp : Bool) (id : Nat) : List (Pn Γ R) → Option (Pn Γ R)
 | [] => none
 | p :: ps => bif (p.loop.xor (!lp)).and (p.id.beq id) then some p else findPn lp id ps

abbrev Kont (Γ : Ctx) (R : Type) := Nat → Ex → St Γ → Option R

def seqK {R : Type} (x : Nat → St Γ → Option R) (K : Kont Γ R) : Kont Γ R := fun k e st => match e with
 | .normal => x k st
 | e => K k e st

def blockK {R : Type} (id : Nat) (K : Kont Γ R) : Kont Γ R := fun k e st => match e with
 | .exit i => bif i.beq id then K k .normal st else K k (.exit i) st
 | e => K k e st

def loopK {R : Type} (p : Pn Γ R) (K : Kont Γ R) : Kont Γ R := fun k e st => match e with
 | .normal => onSt p.sh st (p.g k)
 | e => K k e st

def region {R : Type} (n : Nt) (E : List (Ent Γ)) (ops : List Oper) (draw : Bool) (st : St Γ) (K : St Γ → Option R) : Option R :=
 match draw with
 | false => aops n E ops [] ops st K
 | true => adrawn n E ops st K

def endK {R : Type} (Ps : List (Pn Γ R)) (id : Nat) (K : Kont Γ R) (k : Nat) (st : St Γ) : Option R :=
 match findPn false (id + 1000000) Ps with
 | some p => onSt p.sh st (p.g k)
 | none => K k .normal st

def exec {R : Type} (n : Nt) (E : Nat → List (Ent Γ)) (Ps : List (Pn Γ R)) : Code → Nat → Nat → St Γ → Kont Γ R → Option R
 | .skip, k, _, st, K => K k .normal st
 | .region id ops draw, k, _, st, K => match findPn false id Ps with
  | some p => onSt p.sh st (p.g k)
  | none => region n (E k) ops.toList draw st (endK Ps id K k)
 | .seq a b, k, cur, st, K => exec n E Ps a k cur st (seqK (fun k st => exec n E Ps b k cur st K) K)
 | .cond c a b, k, cur, st, K => match c with
  | .tmp t => condT t st (fun st => exec n E Ps a k cur st K) (fun st => exec n E Ps b k cur st K)
  | _ => none
 | .block id c, k, _, st, K => exec n E Ps c k id st (blockK id K)
 | .loop _, k, cur, st, _ => match findPn true cur Ps with
  | some p => onSt p.sh st (p.g k)
  | none => none
 | .exit id, k, _, st, K => K k (.exit id) st
 | .ret, k, _, st, K => K k .ret st
 | _, _, _, _, _ => none

structure Step (Γ : Ctx) (R : Type) where
 p : Pn Γ R
 go : Nat → St Γ → Option R

def steps {R : Type} (n : Nt) (E : Nat → List (Ent Γ)) (Ps : List (Pn Γ R)) : Code → Nat → Kont Γ R → List (Step Γ R)
 | .region id ops draw, _, K => (match findPn false id Ps with
  | some p => [⟨p, fun k st => region n (E k) ops.toList draw st (endK Ps id K k)⟩]
  | none => []) ++ (match findPn false (id + 1000000) Ps with
  | some p => [⟨p, fun k st => K k .normal st⟩]
  | none => [])
 | .seq a b, cur, K => steps n E Ps a cur (seqK (fun k st => exec n E Ps b k cur st K) K) ++ steps n E Ps b cur K
 | .cond _ a b, cur, K => steps n E Ps a cur K ++ steps n E Ps b cur K
 | .block id c, _, K => steps n E Ps c id (blockK id K)
 | .loop c, cur, K => match findPn true cur Ps with
  | some p => ⟨p, fun k st => exec n E Ps c k cur st (loopK p K)⟩ :: steps n E Ps c cur (loopK p K)
  | none => []
 | _, _, _ => []

def resAV {R : Type} (st : St Γ) (r : ResultVar) (K : AV Γ → Option R) : Option R :=
 match r with
 | .tmp t => K (tmGet st.tm t)
 | .cell a t => match tmGet st.tm a with
  | .p (.box s off) => match bxGet st.bx s with
   | some (_, cs) => loadAV (Γ.td t) (cs.drop off) K
   | none => none
  | _ => none

def resAVs {R : Type} (st : St Γ) : List ResultVar → (List (AV Γ) → Option R) → Option R
 | [], K => K []
 | r :: rs, K => resAV st r fun v => resAVs st rs fun vs => K (v :: vs)

def finK (rs : List ResultVar) (rc : RC) (vs : List VC) : Kont Γ (PT Γ (rc.ls ++ outLs vs)) := fun _ e st =>
 match e with
 | .exit _ => none
 | _ => resAVs st rs fun avs => match argCells rc.vcs avs with
  | some cs => match outCells st.bx (mutsOf vs) with
   | some os => match outRows st.tm 0 vs with
    | some us => bif toksOK (rc.ls ++ outLs vs) (cs ++ (os ++ us)) [] then decLeaves (rc.ls ++ outLs vs) (cs ++ (os ++ us)) else none
    | none => none
   | none => none
  | none => none

def zipTm : Nat → List (AV Γ) → Tm Γ
 | _, [] => []
 | i, a :: as => (i, a) :: zipTm (i + 1) as

def startSt (vs : List VC) (x : PT Γ (vs.flatMap VC.ls)) : St Γ := ⟨zipTm 0 (argAVs vs (encLeaves (Own.tok 2000000) 0 _ x)), inBx vs (encLeaves (Own.tok 2000000) 0 _ x)⟩

def fxOf : Nat → List VC → List Nat
 | _, [] => []
 | i, .mrow _ :: vs => i :: fxOf (i + 1) vs
 | i, _ :: vs => fxOf (i + 1) vs

def run (fn : Func) (E : Nat → List (Ent Γ)) (vs : List VC) (rc : RC) (Ps : List (Pn Γ (PT Γ (rc.ls ++ outLs vs)))) (k : Nat) (x : PT Γ (vs.flatMap VC.ls)) : Option (PT Γ (rc.ls ++ outLs vs)) :=
 match fn.body with
 | some c => exec ⟨fn.ntmps, fxOf 0 vs, []⟩ E Ps c k 0 (startSt vs x) (finK fn.results.toList rc vs)
 | none => none

def stepAt (fn : Func) (E : Nat → List (Ent Γ)) (vs : List VC) (rc : RC) (Ps : List (Pn Γ (PT Γ (rc.ls ++ outLs vs)))) (i : Nat) : Option (Step Γ (PT Γ (rc.ls ++ outLs vs))) :=
 match fn.body with
 | some c => nth (steps ⟨fn.ntmps, fxOf 0 vs, []⟩ E Ps c 0 (finK fn.results.toList rc vs)) i
 | none => none

end

structure Mp where
 ρ : Nat → Option Nat
 τ : Nat → Nat → Option (Nat × Nat)

section
variable {Γ : Ctx} (base : Nat) (S : Nat → Nat → Prop)


def Stable (_n : Nat) (μ : Mp) (b o : Nat) : Prop := (∀ s, μ.ρ s ≠ some b) ∧ ∀ d j u, μ.τ d j = some (b, u) → o < u

def OwnRep (μ : Mp) (w : World) (e sz : Nat) (A : Option Addr) (n c : Nat) : Own → Prop
 | .ro => True
 | .full => n = c
 | .nil => A = none ∧ n = 0 ∧ c = 0
 | .tok d j => n = c ∨ ∃ g cur, A = some ⟨g, 0, none⟩ ∧ base ≤ g ∧ μ.τ d j = some (g, n * sz) ∧ w.heap[g]? = some (.cells cur e (0, 0)) ∧ c ≤ maxLen ∧ cur.size = c * sz

def RowRep (μ : Mp) (w : World) {α : Type} (K : RK α) (e : Nat) (xs : List α) (o : Own) (y : Value) : Prop :=
 ∃ A c, y = .slice A xs.length c ∧ xs.length ≤ c ∧ xs.length ≤ maxLen ∧
  (0 < xs.length → ∃ b off, A = some ⟨b, off, none⟩ ∧ ∀ j v, (xs.flatMap K.enc)[j]? = some v → w.cell? ⟨b, off + j, none⟩ = some v ∧ Stable base μ b (off + j) ∧ (b < base → S b (off + j))) ∧
  OwnRep base μ w e K.sz A xs.length c o

def CellRep (μ : Mp) (w : World) : Cell Γ → Value → Prop
 | .u, _ => True
 | .v x, y => y = x
 | .bb b _ _ _, y => y = .bool b
 | .nb b _ _ _, y => y = .bool b
 | .row e xs o, y => RowRep base S μ w (Γ.kd e).K e xs o y
 | .fn f, y => y = .func (.func f) #[] #[]
 | .own e xs d j, y => (xs = [] ∧ y = .slice none 0 0) ∨ ∃ g cur, μ.τ d j = some (g, 0) ∧ w.heap[g]? = some (.cells cur e (0, 0)) ∧ (∃ rest, cur.toList = xs.flatMap (Γ.kd e).K.enc ++ rest) ∧ xs.length ≤ maxLen ∧ ∃ c, xs.length ≤ c ∧ y = .slice (some ⟨g, 0, none⟩) xs.length c ∧ c ≤ maxLen ∧ cur.size = c * (Γ.kd e).K.sz

def CellsRep (μ : Mp) (w : World) : List (Cell Γ) → List Value → Prop
 | [], [] => True
 | c :: cs, v :: vs => CellRep base S μ w c v ∧ CellsRep μ w cs vs
 | _, _ => False

def FVRep (μ : Mp) (w : World) : FV Γ → Value → Prop
 | .c x, y => CellRep base S μ w x y
 | .agg cs, y => ∃ vs : List Value, y = .agg vs.toArray ∧ CellsRep base S μ w cs vs

def FVsRep (μ : Mp) (w : World) : List (FV Γ) → List Value → Prop
 | [], [] => True
 | c :: cs, v :: vs => FVRep base S μ w c v ∧ FVsRep μ w cs vs
 | _, _ => False

def RefRep (μ : Mp) (w : World) (b off : Nat) (cs : List (Cell Γ)) : Prop :=
 ∀ j c, cs[j]? = some c → ∃ v, w.cell? ⟨b, off + j, none⟩ = some v ∧ CellRep base S μ w c v ∧ Stable base μ b (off + j) ∧ b < w.heap.size

def PtRep (μ : Mp) (w : World) : Pt Γ → Value → Prop
 | .box s o, y => ∃ g, μ.ρ s = some g ∧ y = .pointer (some ⟨g, o, none⟩)
 | .ref cs, y => ∃ b off, y = .pointer (some ⟨b, off, none⟩) ∧ RefRep base S μ w b off cs
 | .ix s o e xs i, y => ∃ g off cur T, μ.ρ s = some g ∧ w.heap[g]? = some (.cells cur T (0, 0)) ∧ (Γ.td T).isArr = true ∧ y = .pointer (some ⟨g, off + o, none⟩) ∧
   ∀ j v, ((Γ.kd e).K.enc (rdK (Γ.kd e).K xs i))[j]? = some v → cur[off + j]? = some v
 | .el e xs d j i o, y => ∃ g cur, μ.τ d j = some (g, 0) ∧ w.heap[g]? = some (.cells cur e (0, 0)) ∧ (∃ rest, cur.toList = xs.flatMap (Γ.kd e).K.enc ++ rest) ∧ 0 ≤ i ∧ i < (xs.length : Int) ∧ y = .pointer (some ⟨g, i.toNat * (Γ.kd e).K.sz + o, none⟩)
 | .un, _ => True

def PtsRep (μ : Mp) (w : World) : List (Pt Γ) → List Value → Prop
 | [], [] => True
 | c :: cs, v :: vs => PtRep base S μ w c v ∧ PtsRep μ w cs vs
 | _, _ => False

def AVRep (μ : Mp) (w : World) : AV Γ → Value → Prop
 | .u, _ => True
 | .f x, y => FVRep base S μ w x y
 | .tup l, y => ∃ vs : List Value, y = .tuple vs.toArray ∧ FVsRep base S μ w l vs
 | .p q, y => PtRep base S μ w q y
 | .clo f qs, y => ∃ vs : List Value, y = .func (.func f) #[] vs.toArray ∧ PtsRep base S μ w qs vs

def BoxRep (μ : Mp) (w : World) (s T : Nat) (cs : List (Cell Γ)) : Prop :=
 ∃ g cur, μ.ρ s = some g ∧ w.heap[g]? = some (.cells cur T (0, 0)) ∧ CellsRep base S μ w cs cur.toList

structure MapsOK (_base : Nat) (μ : Mp) (w : World) : Prop where
 ρinj : ∀ s s' g, μ.ρ s = some g → μ.ρ s' = some g → s = s'
 ρnew : ∀ s g, μ.ρ s = some g → g < w.heap.size
 τnew : ∀ d j g u, μ.τ d j = some (g, u) → g < w.heap.size ∧ ∀ s, μ.ρ s ≠ some g
 τinj : ∀ d j d' j' g u u', μ.τ d j = some (g, u) → μ.τ d' j' = some (g, u') → d = d' ∧ j = j'

structure Ext (p : Nat → Nat → Bool) (q i : Nat → Bool) (μ : Mp) (w : World) (μ' : Mp) (w' : World) : Prop where
 size : w.heap.size ≤ w'.heap.size
 cell : ∀ b o, b < w.heap.size → Stable base μ b o → w'.cell? ⟨b, o, none⟩ = w.cell? ⟨b, o, none⟩
 stab : ∀ b o, b < w.heap.size → Stable base μ b o → Stable base μ' b o
 box : ∀ s g, q s = false → μ.ρ s = some g → μ'.ρ s = some g
 hbox : ∀ s g, q s = false → i s = false → μ.ρ s = some g → w'.heap[g]? = w.heap[g]?
 tok : ∀ d j v, p d j = false → μ.τ d j = some v → μ'.τ d j = some v
 htok : ∀ d j g u, p d j = false → μ.τ d j = some (g, u) → w'.heap[g]? = w.heap[g]?

variable {base S}
variable {p : Nat → Nat → Bool} {q i : Nat → Bool} {μ μ' : Mp} {w w' : World}

theorem lt_of_cell {w : World} {b o : Nat} {v : Value} (h : w.cell? ⟨b, o, none⟩ = some v) : b < w.heap.size := World.block_lt_of_cell? w ⟨b, o, none⟩ h

theorem RowRep.ext {α : Type} {K : RK α} {e : Nat} {xs : List α} {o : Own} {y : Value} (H : Ext base p q i μ w μ' w') (h : RowRep base S μ w K e xs o y) :
  RowRep base S μ' w' K e xs (match o with | .tok d j => bif p d j then .ro else .tok d j | o => o) y := by
 obtain ⟨A, c, rfl, h1, h2, h3, h4⟩ := h
 refine ⟨A, c, rfl, h1, h2, fun hn => ?_, ?_⟩
 ·obtain ⟨b, off, rfl, hc⟩ := h3 hn
  refine ⟨b, off, rfl, fun j v hj => ?_⟩
  obtain ⟨hc1, hc2, hc3⟩ := hc j v hj
  have hb := lt_of_cell hc1
  exact ⟨(H.cell b _ hb hc2).trans hc1, H.stab b _ hb hc2, hc3⟩
 ·cases o with
  | ro => trivial
  | full => exact h4
  | nil => exact h4
  | tok d j =>
   simp only
   cases hp : p d j with
   | true => trivial
   | false =>
    simp only [cond_false]
    rcases h4 with h4 | ⟨g, cur, hA, hb, ht, hg, hm, hs⟩
    ·exact .inl h4
    ·exact .inr ⟨g, cur, hA, hb, H.tok d j _ hp ht, (H.htok d j g _ hp ht).trans hg, hm, hs⟩

theorem CellRep.ext {c : Cell Γ} {y : Value} (H : Ext base p q i μ w μ' w') (h : CellRep base S μ w c y) : CellRep base S μ' w' (roCell p c) y := by
 cases c with
 | u => trivial
 | v x => exact h
 | bb b q i hh => exact h
 | nb b q i hh => exact h
 | fn f => exact h
 | own e xs d j =>
  simp only [roCell]
  cases hp : p d j with
  | true => trivial
  | false =>
   rcases h with h | ⟨g, cur, h1, h2, h3⟩
   ·exact .inl h
   ·exact .inr ⟨g, cur, H.tok d j _ hp h1, (H.htok d j g _ hp h1).trans h2, h3⟩
 | row e xs o =>
  have h1 := RowRep.ext H h
  cases o <;> exact h1

theorem CellsRep.ext (H : Ext base p q i μ w μ' w') : ∀ {cs : List (Cell Γ)} {vs : List Value}, CellsRep base S μ w cs vs → CellsRep base S μ' w' (cs.map (roCell p)) vs
 | [], [], _ => trivial
 | _ :: _, _ :: _, h => ⟨h.1.ext H, CellsRep.ext H h.2⟩
 | [], _ :: _, h => h.elim
 | _ :: _, [], h => h.elim

theorem FVRep.ext {x : FV Γ} {y : Value} (H : Ext base p q i μ w μ' w') (h : FVRep base S μ w x y) : FVRep base S μ' w' (roFV p x) y := by
 cases x with
 | c x => exact CellRep.ext H h
 | agg cs => obtain ⟨vs, rfl, h⟩ := h; exact ⟨vs, rfl, h.ext H⟩

theorem FVsRep.ext (H : Ext base p q i μ w μ' w') : ∀ {cs : List (FV Γ)} {vs : List Value}, FVsRep base S μ w cs vs → FVsRep base S μ' w' (cs.map (roFV p)) vs
 | [], [], _ => trivial
 | _ :: _, _ :: _, h => ⟨h.1.ext H, FVsRep.ext H h.2⟩
 | [], _ :: _, h => h.elim
 | _ :: _, [], h => h.elim

theorem PtRep.ext {x : Pt Γ} {y : Value} (H : Ext base p q i μ w μ' w') (hq : ∀ s, q s = true → i s = true) (hx : ptIn q i x = false) (h : PtRep base S μ w x y) : PtRep base S μ' w' (roPt p x) y := by
 cases x with
 | box s o => obtain ⟨g, h1, rfl⟩ := h; exact ⟨g, H.box s g hx h1, rfl⟩
 | ref cs =>
  obtain ⟨b, off, rfl, h⟩ := h
  refine ⟨b, off, rfl, fun j c hj => ?_⟩
  rw [List.getElem?_map] at hj
  obtain ⟨c', hc', rfl⟩ := Option.map_eq_some_iff.1 hj
  obtain ⟨v, h1, h2, h3, h4⟩ := h j c' hc'
  exact ⟨v, (H.cell b _ h4 h3).trans h1, h2.ext H, H.stab b _ h4 h3, Nat.lt_of_lt_of_le h4 H.size⟩
 | ix s o e xs n =>
  obtain ⟨g, off, cur, T, h1, h2, h3, rfl, h4⟩ := h
  have hqs : q s = false := by
   cases hh : q s with
   | false => rfl
   | true => have := hq s hh; simp only [ptIn] at hx; rw [hx] at this; cases this
  exact ⟨g, off, cur, T, H.box s g hqs h1, (H.hbox s g hqs hx h1).trans h2, h3, rfl, h4⟩
 | el e xs d j i o =>
  obtain ⟨g, cur, h1, h2, h3⟩ := h
  simp only [roPt]
  cases hp : p d j with
  | true => trivial
  | false => exact ⟨g, cur, H.tok d j _ hp h1, (H.htok d j g _ hp h1).trans h2, h3⟩
 | un => trivial

theorem PtsRep.ext (H : Ext base p q i μ w μ' w') (hq : ∀ s, q s = true → i s = true) : ∀ {cs : List (Pt Γ)} {vs : List Value}, cs.any (ptIn q i) = false → PtsRep base S μ w cs vs → PtsRep base S μ' w' (cs.map (roPt p)) vs
 | [], [], _, _ => trivial
 | _ :: _, _ :: _, hx, h => by
  simp only [List.any_cons, Bool.or_eq_false_iff] at hx
  exact ⟨h.1.ext H hq hx.1, PtsRep.ext H hq hx.2 h.2⟩
 | [], _ :: _, _, h => h.elim
 | _ :: _, [], _, h => h.elim

theorem AVRep.ext {x : AV Γ} {y : Value} (H : Ext base p q i μ w μ' w') (hq : ∀ s, q s = true → i s = true) (h : AVRep base S μ w x y) : AVRep base S μ' w' (noPt q i (roAV p x)) y := by
 cases x with
 | u => trivial
 | f x => exact FVRep.ext H h
 | tup l => obtain ⟨vs, rfl, h⟩ := h; exact ⟨vs, rfl, h.ext H⟩
 | p x =>
  simp only [roAV, noPt]
  have e : ptIn q i (roPt p x) = ptIn q i x := by
   cases x with
   | el e xs d j i o => simp only [roPt]; cases p d j <;> rfl
   | _ => rfl
  rw [e]
  cases hx : ptIn q i x with
  | true => trivial
  | false => exact PtRep.ext H hq hx h
 | clo f qs =>
  simp only [roAV, noPt]
  have e : (qs.map (roPt p)).any (ptIn q i) = qs.any (ptIn q i) := by
   rw [List.any_map]
   congr 1
   funext x
   cases x with
   | el e xs d j i o => simp only [Function.comp, roPt]; cases p d j <;> rfl
   | _ => rfl
  rw [e]
  cases hx : qs.any (ptIn q i) with
  | true => trivial
  | false =>
   obtain ⟨vs, rfl, h⟩ := h
   exact ⟨vs, rfl, h.ext H hq hx⟩

theorem BoxRep.ext {s T : Nat} {cs : List (Cell Γ)} (H : Ext base p q i μ w μ' w') (hq : q s = false) (hi : i s = false) (h : BoxRep base S μ w s T cs) : BoxRep base S μ' w' s T (cs.map (roCell p)) := by
 obtain ⟨g, cur, h1, h2, h3⟩ := h
 exact ⟨g, cur, H.box s g hq h1, (H.hbox s g hq hi h1).trans h2, h3.ext H⟩


def no1 : Nat → Bool := fun _ => false
def no2 : Nat → Nat → Bool := fun _ _ => false

theorem roCell_no (c : Cell Γ) : roCell no2 c = c := by
 cases c with
 | row e xs o => cases o <;> rfl
 | _ => rfl
theorem roCells_no (cs : List (Cell Γ)) : cs.map (roCell no2) = cs := by
 rw [show (roCell no2 : Cell Γ → Cell Γ) = id from funext roCell_no, List.map_id]
theorem roFV_no (x : FV Γ) : roFV no2 x = x := by
 cases x with
 | c x => simp only [roFV, roCell_no]
 | agg cs => simp only [roFV, roCells_no]
theorem roFVs_no (cs : List (FV Γ)) : cs.map (roFV no2) = cs := by
 rw [show (roFV no2 : FV Γ → FV Γ) = id from funext roFV_no, List.map_id]
theorem roPt_no (x : Pt Γ) : roPt no2 x = x := by
 cases x with
 | ref cs => simp only [roPt, roCells_no]
 | _ => rfl
theorem roPts_no (cs : List (Pt Γ)) : cs.map (roPt no2) = cs := by
 rw [show (roPt no2 : Pt Γ → Pt Γ) = id from funext roPt_no, List.map_id]
theorem roAV_no (x : AV Γ) : roAV no2 x = x := by
 cases x with
 | f x => simp only [roAV, roFV_no]
 | tup l => simp only [roAV, roFVs_no]
 | p x => simp only [roAV, roPt_no]
 | clo f qs => simp only [roAV, roPts_no]
 | u => rfl
theorem ptIn_no (x : Pt Γ) : ptIn no1 no1 x = false := by cases x <;> rfl
theorem noPt_no (x : AV Γ) : noPt no1 no1 x = x := by
 cases x with
 | p x => simp only [noPt, ptIn_no, cond_false]
 | clo f qs =>
  have : qs.any (ptIn no1 no1) = false := by rw [show (ptIn no1 no1 : Pt Γ → Bool) = fun _ => false from funext ptIn_no]; simp
  simp only [noPt, this, cond_false]
 | _ => rfl

theorem Ext.of_below (H : Below w.heap.size w w') (hm : MapsOK base μ w) : Ext base no2 no1 no1 μ w μ w' where
 size := H.size
 cell b o hb _ := H.cell (p := ⟨b, o, none⟩) hb
 stab _ _ _ h := h
 box _ _ _ h := h
 hbox s g _ _ h := H.block g (hm.ρnew s g h)
 tok _ _ _ _ h := h
 htok d j g u _ h := H.block g (hm.τnew d j g u h).1

theorem MapsOK.of_size (hm : MapsOK base μ w) (h : w.heap.size ≤ w'.heap.size) : MapsOK base μ w' where
 ρinj := hm.ρinj
 ρnew s g h1 := Nat.lt_of_lt_of_le (hm.ρnew s g h1) h
 τnew d j g u h1 := ⟨Nat.lt_of_lt_of_le (hm.τnew d j g u h1).1 h, (hm.τnew d j g u h1).2⟩
 τinj := hm.τinj

theorem AVRep.below {x : AV Γ} {y : Value} (H : Below w.heap.size w w') (hm : MapsOK base μ w) (h : AVRep base S μ w x y) : AVRep base S μ w' x y := by
 have := AVRep.ext (Ext.of_below H hm) (by intro s h; cases h) h
 rwa [roAV_no, noPt_no] at this

theorem CellsRep.length : ∀ {cs : List (Cell Γ)} {vs : List Value}, CellsRep base S μ w cs vs → cs.length = vs.length
 | [], [], _ => rfl
 | _ :: _, _ :: _, h => by simp [CellsRep.length h.2]
 | [], _ :: _, h => h.elim
 | _ :: _, [], h => h.elim

theorem CellsRep.get : ∀ {cs : List (Cell Γ)} {vs : List Value} (j : Nat) {c : Cell Γ}, CellsRep base S μ w cs vs → cs[j]? = some c → ∃ v, vs[j]? = some v ∧ CellRep base S μ w c v
 | c :: _, v :: _, 0, _, h, hj => by simp at hj; subst hj; exact ⟨v, rfl, h.1⟩
 | _ :: cs, _ :: vs, j + 1, _, h, hj => CellsRep.get (cs := cs) (vs := vs) j h.2 (by simpa using hj)
 | [], _, _, _, _, hj => by simp at hj
 | _ :: _, [], _, _, h, _ => h.elim

theorem CellsRep.drop : ∀ {cs : List (Cell Γ)} {vs : List Value} (n : Nat), CellsRep base S μ w cs vs → CellsRep base S μ w (cs.drop n) (vs.drop n)
 | _, _, 0, h => h
 | [], [], _ + 1, _ => trivial
 | _ :: cs, _ :: vs, n + 1, h => CellsRep.drop (cs := cs) (vs := vs) n h.2
 | [], _ :: _, _ + 1, h => h.elim
 | _ :: _, [], _ + 1, h => h.elim

theorem CellsRep.take : ∀ {cs : List (Cell Γ)} {vs : List Value} (n : Nat), CellsRep base S μ w cs vs → CellsRep base S μ w (cs.take n) (vs.take n)
 | _, _, 0, _ => trivial
 | [], [], _ + 1, _ => trivial
 | _ :: cs, _ :: vs, n + 1, h => ⟨h.1, CellsRep.take (cs := cs) (vs := vs) n h.2⟩
 | [], _ :: _, _ + 1, h => h.elim
 | _ :: _, [], _ + 1, h => h.elim

theorem CellsRep.append : ∀ {cs cs' : List (Cell Γ)} {vs vs' : List Value}, CellsRep base S μ w cs vs → CellsRep base S μ w cs' vs' → CellsRep base S μ w (cs ++ cs') (vs ++ vs')
 | [], _, [], _, _, h => h
 | _ :: _, _, _ :: _, _, h, h' => ⟨h.1, CellsRep.append h.2 h'⟩
 | [], _, _ :: _, _, h, _ => h.elim
 | _ :: _, _, [], _, h, _ => h.elim

theorem CellsRep.over : ∀ {cs : List (Cell Γ)} {vs : List Value} (o : Nat) {ns : List (Cell Γ)} {us : List Value}, CellsRep base S μ w cs vs → CellsRep base S μ w ns us → CellsRep base S μ w (setCells cs o ns) (overV vs o us)
 | [], [], o, ns, us, _, _ => by cases o <;> cases ns <;> cases us <;> trivial
 | _ :: cs, _ :: vs, 0, n :: ns, u :: us, h, h' => ⟨h'.1, CellsRep.over (cs := cs) (vs := vs) 0 h.2 h'.2⟩
 | _ :: cs, _ :: vs, 0, [], [], h, _ => h
 | _ :: cs, _ :: vs, 0, [], _ :: _, _, h' => h'.elim
 | _ :: cs, _ :: vs, 0, _ :: _, [], _, h' => h'.elim
 | _ :: cs, _ :: vs, o + 1, ns, us, h, h' => by
  have h2 := CellsRep.over (cs := cs) (vs := vs) o h.2 h'
  cases ns <;> cases us <;> exact ⟨h.1, h2⟩
 | [], _ :: _, _, _, _, h, _ => h.elim
 | _ :: _, [], _, _, _, h, _ => h.elim

end

def aggD : TypeDesc → Bool
 | .struct _ | .array _ _ => true
 | _ => false

def zcVal : Zc → Value
 | .v x => x
 | .row _ => .slice none 0 0

def zcOne : Zc → Bool
 | .v x => x.oneCell'
 | .row _ => true

def FdOK (P : Program) (f : Fd) (g : Field) : Prop :=
 g.offset = f.off ∧ g.type = f.ty ∧ (P.info? g.type).map (·.size) = some f.sz ∧ 0 < f.sz ∧ (P.underlying g.type).map aggD = some f.agg ∧ g.name ≠ "_"

def FdsOK (P : Program) : List Fd → List Field → Prop
 | [], [] => True
 | f :: fs, g :: gs => FdOK P f g ∧ FdsOK P fs gs
 | _, _ => False

def TDOK (P : Program) (Γ : Ctx) (t : Nat) : TD → Prop
 | .st sz zs fs => ∃ fields i, P.underlying t = some (.struct fields) ∧ P.info? t = some i ∧ i.size = sz ∧ i.zero = some (.agg (zs.map zcVal).toArray) ∧ zs.length = sz ∧ FdsOK P fs fields.toList ∧
   P.stoodInHeld t = false ∧ P.eqGuardType P.depth t = false
 | .ar n e esz zs => ∃ i ie, P.underlying t = some (.array n e) ∧ P.info? t = some i ∧ i.size = n * esz ∧ i.zero = some (.agg (zs.map zcVal).toArray) ∧ zs.length = n * esz ∧ P.info? e = some ie ∧ ie.size = esz ∧ esz = (Γ.kd e).K.sz
 | .sl e bytes => ∃ i ie z, P.underlying t = some (.slice e) ∧ P.info? t = some i ∧ i.size = 1 ∧ i.zero = some (.slice none 0 0) ∧ P.info? e = some ie ∧ ie.zero = some z ∧ ie.size = (Γ.kd e).K.sz ∧ ie.bytes = bytes ∧ z.cells.size = ie.size ∧ 0 < bytes ∧ z.cells.toList = (Γ.kd e).K.enc (Γ.kd e).K.d
 | .int k => P.underlying t = some (.int k) ∧ ∃ i, P.info? t = some i ∧ i.size = 1 ∧ i.zero = some (.int k 0)
 | .str => P.underlying t = some .string ∧ ∃ i, P.info? t = some i ∧ i.size = 1 ∧ i.zero = some (.string ⟨#[]⟩)
 | .bool => P.underlying t = some .bool ∧ ∃ i, P.info? t = some i ∧ i.size = 1 ∧ i.zero = some (.bool false)
 | .fn => ∃ i d, P.underlying t = some d ∧ aggD d = false ∧ P.info? t = some i ∧ i.size = 1
 | .ot => True

structure CtxOK (P : Program) (Γ : Ctx) : Prop where
 td : ∀ t, TDOK P Γ t (Γ.td t)
 mixed : P.follows .mixedOrders = true

section
variable {Γ : Ctx} {P : Program}

theorem known_size (C : CtxOK P Γ) {t : Nat} (h : (Γ.td t).known = true) : ∃ i d, P.info? t = some i ∧ i.size = (Γ.td t).size ∧ P.underlying t = some d ∧ aggD d = (Γ.td t).isAgg := by
 have ht := C.td t
 cases hd : Γ.td t with
 | st sz zs fs => rw [hd] at ht; obtain ⟨fields, i, h1, h2, h3, _⟩ := ht; exact ⟨i, _, h2, h3, h1, rfl⟩
 | ar n e esz zs => rw [hd] at ht; obtain ⟨i, ie, h1, h2, h3, _⟩ := ht; exact ⟨i, _, h2, h3, h1, rfl⟩
 | sl e b => rw [hd] at ht; obtain ⟨i, ie, z, h1, h2, h3, _⟩ := ht; exact ⟨i, _, h2, h3, h1, rfl⟩
 | int k => rw [hd] at ht; obtain ⟨h1, i, h2, h3, _⟩ := ht; exact ⟨i, _, h2, h3, h1, rfl⟩
 | str => rw [hd] at ht; obtain ⟨h1, i, h2, h3, _⟩ := ht; exact ⟨i, _, h2, h3, h1, rfl⟩
 | bool => rw [hd] at ht; obtain ⟨h1, i, h2, h3, _⟩ := ht; exact ⟨i, _, h2, h3, h1, rfl⟩
 | fn => rw [hd] at ht; obtain ⟨i, d, h1, h2, h3, h4⟩ := ht; exact ⟨i, _, h3, h4, h1, h2⟩
 | ot => rw [hd] at h; cases h

theorem run_isAgg {t : Nat} {d : TypeDesc} (h : P.underlying t = some d) (w : World) : (isAgg t).run P w = .ok (aggD d) w := by
 unfold isAgg
 rw [Sem.run_bind, run_underlying h]
 cases d <;> rfl

theorem run_sizeOf {t : Nat} {i : TypeInfo} (h : P.info? t = some i) (w : World) : (sizeOf t).run P w = .ok i.size w := by
 simp [sizeOf, typeInfo, h]

structure W0 where
 w : World
 ρ : Nat → Option Nat
 hand : Nat → Prop     -- blocks of rows that it was handed
 fix : Nat → Option Value     -- temporaries that stay as they are

structure Bel (B : Nat) (w0 : W0) (w : World) : Prop where
 os : w.os = w0.w.os
 tape : w.tape = w0.w.tape
 output : w.output = w0.w.output
 size : w0.w.heap.size ≤ w.heap.size
 block : ∀ k, k < B → (∀ s, w0.ρ s ≠ some k) → ¬ w0.hand k → w.heap[k]? = w0.w.heap[k]?

theorem Bel.trans {B : Nat} {w0 : W0} {a b : World} (h : Bel B w0 a) (k : Below B a b) : Bel B w0 b :=
 ⟨k.os.trans h.os, k.tape.trans h.tape, k.output.trans h.output, Nat.le_trans h.size k.size, fun i hi hs hh => (k.block i hi).trans (h.block i hi hs hh)⟩

theorem Bel.alloc {B : Nat} {w0 : W0} {a : World} (h : Bel B w0 a) (hB : B ≤ a.heap.size) (x : Obj) : Bel B w0 (a.alloc x) := h.trans ((Below.refl _ _).alloc hB x)

def OwnBox (B : Nat) (w0 : W0) (s g : Nat) : Prop := (w0.ρ s = none ∧ B ≤ g) ∨ w0.ρ s = some g ∨ (w0.ρ s = none ∧ ∃ s', w0.ρ s' = some g)

def OwnTok (B : Nat) (w0 : W0) (g : Nat) : Prop := B ≤ g ∨ w0.hand g

structure Good (Γ : Ctx) (B : Nat) (w0 : W0) : Prop where
 lw : ∀ w, Bel B w0 w → Γ.lw w
 n0 : Γ.n0 ≤ B
 ρ : ∀ s g, w0.ρ s = some g → Γ.n0 ≤ g
 hand : ∀ g, w0.hand g → Γ.n0 ≤ g

theorem Good.own {Γ : Ctx} {B : Nat} {w0 : W0} (h : Good Γ B w0) {s g : Nat} (ho : OwnBox B w0 s g) : Γ.n0 ≤ g := by
 rcases ho with ⟨_, e⟩ | e | ⟨_, s', e⟩
 ·exact Nat.le_trans h.n0 e
 ·exact h.ρ s g e
 ·exact h.ρ s' g e
theorem Good.town {Γ : Ctx} {B : Nat} {w0 : W0} (h : Good Γ B w0) {g : Nat} (ho : OwnTok B w0 g) : Γ.n0 ≤ g := by
 rcases ho with e | e
 ·exact Nat.le_trans h.n0 e
 ·exact h.hand g e

variable (base : Nat) (S : Nat → Nat → Prop) (w0 : W0) (P)

structure OpPre (o : Oper) (tm : Tm Γ) (bx : Bx Γ) (a : Act) (w : World) (μ : Mp) : Prop where
 maps : MapsOK base μ w
 below : Bel base w0 w
 own : ∀ s g, μ.ρ s = some g → OwnBox base w0 s g
 town : ∀ d j g u, μ.τ d j = some (g, u) → OwnTok base w0 g
 le : base ≤ w.heap.size
 ops : ∀ x ∈ o.op.operands, AVRep base S μ w (ev tm x) (a.eval x)
 bx : ∀ s T cs, bxGet bx s = some (T, cs) → BoxRep base S μ w s T cs
 gd : Good Γ base w0

def hitTok : Option (Nat × Nat) → Nat → Nat → Bool
 | some t, d, j => sameTok t d j
 | none, _, _ => false

def pE (dst : Option Nat) : Eff Γ → Nat → Nat → Bool
 | .app o, d, j => (isTok dst d j).or (hitTok o d j)
 | .fresh, d, j => isTok dst d j
 | .muts fr _, d, j => bif fr then isTok dst d j else false
 | .put d0 j0 _ _ _, d, j => sameTok (d0, j0) d j
 | .rows fr l, d, j => (bif fr then isTok dst d j else false).or (rowHas l d j)
 | _, _, _ => false

def qE (dst : Option Nat) : Eff Γ → Nat → Bool
 | .new _ _, s => match dst with | some d => d.beq s | none => false
 | _, _ => false

def iE (dst : Option Nat) : Eff Γ → Nat → Bool
 | .new _ _, s => match dst with | some d => d.beq s | none => false
 | .set x _ _, s => x.beq s
 | .muts _ l, s => l.any fun x => x.1.beq s
 | _, _ => false

structure OpPost (ev0 : Operand → Value) (dst : Option Nat) (bx : Bx Γ) (v : AV Γ) (eff : Eff Γ) (w : World) (μ : Mp) (y : Value) (w' : World) (μ' : Mp) : Prop where
 maps : MapsOK base μ' w'
 below : Bel base w0 w'
 own : ∀ s g, μ'.ρ s = some g → μ.ρ s = some g ∨ (dst = some s ∧ base ≤ g)
 town : ∀ d j g u, μ'.τ d j = some (g, u) → OwnTok base w0 g
 ext : Ext base (pE dst eff) (qE dst eff) (iE dst eff) μ w μ' w'
 val : AVRep base S μ' w' v y
 dom : ∀ s, μ.ρ s = none → μ'.ρ s = none ∨ (dst = some s ∧ ∃ T cs, eff = .new T cs)
 tdom : ∀ d j, μ.τ d j = none → μ'.τ d j = none ∨ dst = some d
 new : ∀ T cs, eff = .new T cs → ∃ d, dst = some d ∧ BoxRep base S μ' w' d T cs
 set : ∀ s off cs, eff = .set s off cs → ∀ T old, bxGet bx s = some (T, old) → BoxRep base S μ' w' s T (setCells old off cs)
 muts : ∀ fr l, eff = .muts fr l → ∀ x ∈ l, ∀ T old, bxGet bx x.1 = some (T, old) → BoxRep base S μ' w' x.1 T x.2
 put : ∀ d j e i x, eff = .put d j e i x → (∀ c y, CellRep base S μ w c y → CellRep base S μ' w' (elCell d j e i x c) y) ∧ ∀ q y, PtRep base S μ w q y → PtRep base S μ' w' (elPt d j e i x q) y
 rows : ∀ fr l, eff = .rows fr l → ∀ x ∈ l, CellRep base S μ' w' (retok x.2.1 x.2.2.1 x.2.2.2) (ev0 (.tmp x.1))

def OpSem (o : Oper) (tm : Tm Γ) (bx : Bx Γ) (v : AV Γ) (eff : Eff Γ) : Prop :=
 ∀ base S w0 a w μ, OpPre base S w0 o tm bx a w μ → ∀ (next : Act → World → Prop) (Q : Exit → Act → World → Prop),
  (∀ y w' μ', OpPost base S w0 a.eval o.dst bx v eff w μ y w' μ' → next (a.put o.dst y) w') → o.wp P a w next Q

variable {base S w0 P}

theorem Ext.refl (μ : Mp) (w : World) : Ext base no2 no1 no1 μ w μ w := ⟨Nat.le_refl _, fun _ _ _ _ => rfl, fun _ _ _ h => h, fun _ _ _ h => h, fun _ _ _ _ _ => rfl, fun _ _ _ _ h => h, fun _ _ _ _ _ _ => rfl⟩

theorem sem_val {o : Oper} {tm : Tm Γ} {bx : Bx Γ} {v : AV Γ}
  (h : ∀ base S w0 a w μ, OpPre base S w0 o tm bx a w μ → ∃ y, (execOp a.eval o).run P w = .ok (.value y) w ∧ AVRep base S μ w v y) : OpSem P o tm bx v .none := by
 intro base S w0 a w μ hp next Q hn
 obtain ⟨y, hr, hv⟩ := h base S w0 a w μ hp
 unfold Oper.wp
 rw [hr]
 refine hn y w μ ⟨hp.maps, hp.below, fun _ _ h => .inl h, hp.town, ?_, hv, fun s hs => .inl hs, fun _ _ h => .inl h, fun _ _ e => (by cases e), fun _ _ _ e => (by cases e), fun _ _ e => (by cases e), fun _ _ _ _ _ e => (by cases e), fun _ _ e => (by cases e)⟩
 exact Ext.refl μ w

theorem sem_new {o : Oper} {tm : Tm Γ} {bx : Bx Γ} {T d : Nat} {cs : List (Cell Γ)} (hd : o.dst = some d)
  (h : ∀ base S w0 a w μ, OpPre base S w0 o tm bx a w μ → ∃ cur : Array Value, (execOp a.eval o).run P w = .ok (.value (.pointer (some ⟨w.heap.size, 0, none⟩))) (w.alloc (.cells cur T)) ∧ CellsRep base S μ w cs cur.toList) :
  OpSem P o tm bx (.p (.box d 0)) (.new T cs) := by
 intro base S w0 a w μ hp next Q hn
 obtain ⟨cur, hr, hc⟩ := h base S w0 a w μ hp
 unfold Oper.wp
 rw [hr]
 have hB : Below w.heap.size w (w.alloc (.cells cur T)) := (Below.refl _ _).alloc (Nat.le_refl _) _
 let μ' : Mp := ⟨fun s => if s = d then some w.heap.size else μ.ρ s, μ.τ⟩
 have hst : ∀ b o, b < w.heap.size → Stable base μ b o → Stable base μ' b o := by
  intro b o hb h
  obtain ⟨h1, h2⟩ := h
  refine ⟨fun s hs => ?_, h2⟩
  simp only [μ'] at hs
  split at hs
  ·injection hs with hs; omega
  ·exact h1 s hs
 have hext : Ext base (pE o.dst (.new T cs)) (qE o.dst (.new T cs)) (iE o.dst (.new T cs)) μ w μ' (w.alloc (.cells cur T)) := by
  refine ⟨hB.size, fun b o hb _ => hB.cell (p := ⟨b, o, none⟩) hb, hst, fun s g hq hs => ?_, fun s g _ _ hs => hB.block g (hp.maps.ρnew s g hs), fun _ _ _ _ h => h, fun dd j g u _ h => hB.block g (hp.maps.τnew dd j g u h).1⟩
  simp only [qE, hd] at hq
  simp only [μ']
  rw [if_neg]
  ·exact hs
  ·intro e
   subst e
   simp at hq
 refine hn _ _ μ' ⟨⟨?_, ?_, ?_, hp.maps.τinj⟩, hp.below.alloc hp.le _, ?_, hp.town, hext, ⟨w.heap.size, by simp [μ'], rfl⟩, ?_, fun _ _ h => .inl h, ?_, fun _ _ _ e => (by cases e), fun _ _ e => (by cases e), fun _ _ _ _ _ e => (by cases e), fun _ _ e => (by cases e)⟩
 ·intro s s' g hs hs'
  simp only [μ'] at hs hs'
  split at hs <;> split at hs'
  ·omega
  ·injection hs with hs; have := (hp.maps.ρnew s' g hs'); omega
  ·injection hs' with hs'; have := (hp.maps.ρnew s g hs); omega
  ·exact hp.maps.ρinj s s' g hs hs'
 ·intro s g hs
  simp only [μ'] at hs
  simp only [World.size_alloc]
  split at hs
  ·injection hs with hs; have := hp.le; omega
  ·have := hp.maps.ρnew s g hs; omega
 ·intro dd j g u ht
  obtain ⟨h2, h3⟩ := hp.maps.τnew dd j g u ht
  refine ⟨by simp only [World.size_alloc]; omega, fun s hs => ?_⟩
  simp only [μ'] at hs
  split at hs
  ·injection hs with hs; omega
  ·exact h3 s hs
 ·intro s g hs
  simp only [μ'] at hs
  split at hs
  ·rename_i e; injection hs with hs; exact .inr ⟨by rw [hd, e], by rw [← hs]; exact hp.le⟩
  ·exact .inl hs
 ·intro s hs
  simp only [μ']
  split
  ·exact .inr ⟨by rw [hd]; simp [*], T, cs, rfl⟩
  ·exact .inl hs
 ·intro T' cs' he
  cases he
  have he2 : Ext base no2 no1 no1 μ w μ' (w.alloc (.cells cur T)) → CellsRep base S μ' (w.alloc (.cells cur T)) cs cur.toList := fun H => by
   have := hc.ext H; rwa [roCells_no] at this
  refine ⟨d, hd, w.heap.size, cur, by simp [μ'], heap_alloc_new w _, ?_⟩
  have H := CellsRep.ext hext hc
  have e : (pE o.dst (.new T cs) : Nat → Nat → Bool) = no2 := by funext a b; rfl
  rw [e, roCells_no] at H
  exact H

theorem FVRep.cells {μ : Mp} {w : World} {x : FV Γ} {y : Value} (h : FVRep base S μ w x y) (hx : x.ok = true) : CellsRep base S μ w (fvCells x) y.cells.toList := by
 cases x with
 | agg cs => obtain ⟨vs, rfl, h⟩ := h; simpa [fvCells, Value.cells] using h
 | c x =>
  have e : y.cells = #[y] := by
   cases x with
   | u => cases hx
   | v x => cases h; cases y <;> first | rfl | cases hx
   | bb b q i h' => cases h; rfl
   | nb b q i h' => cases h; rfl
   | fn f => cases h; rfl
   | own e xs d j => rcases h with ⟨_, rfl⟩ | ⟨_, _, _, _, _, _, _, _, rfl, _⟩ <;> rfl
   | row e xs o => obtain ⟨A, c, rfl, _⟩ := h; rfl
  rw [e]
  exact ⟨h, trivial⟩

theorem cell_one {μ : Mp} {w : World} {x : Cell Γ} {y : Value} (h : CellRep base S μ w x y) (hx : x.one = true) : y.oneCell' = true := by
 cases x with
 | u => cases hx
 | v x => cases h; cases y <;> first | rfl | cases hx
 | bb b q i h' => cases h; rfl
 | nb b q i h' => cases h; rfl
 | fn f => cases h; rfl
 | own e xs d j => rcases h with ⟨_, rfl⟩ | ⟨_, _, _, _, _, _, _, _, rfl, _⟩ <;> rfl
 | row e xs o => obtain ⟨A, c, rfl, _⟩ := h; rfl

theorem cells_one {μ : Mp} {w : World} : ∀ {cs : List (Cell Γ)} {vs : List Value}, CellsRep base S μ w cs vs → cs.all Cell.one = true → ∀ v ∈ vs, v.oneCell' = true
 | [], [], _, _ => by simp
 | c :: cs, v :: vs, h, hx => by
  simp only [List.all_cons, Bool.and_eq_true] at hx
  intro u hu
  rcases List.mem_cons.1 hu with rfl | hu
  ·exact cell_one h.1 hx.1
  ·exact cells_one h.2 hx.2 u hu
 | [], _ :: _, h, _ => h.elim
 | _ :: _, [], h, _ => h.elim


theorem cellsV {μ : Mp} {w : World} : ∀ (vs : List Value), CellsRep (Γ := Γ) base S μ w (vs.map Cell.v) vs
 | [] => trivial
 | _ :: vs => ⟨rfl, cellsV vs⟩

theorem constAV_rep {μ : Mp} {w : World} (v : Value) : AVRep (Γ := Γ) base S μ w (constAV v) v := by
 cases v with
 | agg cs => exact ⟨cs.toList, rfl, cellsV _⟩
 | _ => first | exact rfl | trivial

theorem fnClo_rep {μ : Mp} {w : World} {a : AV Γ} {y : Value} (h : AVRep base S μ w a y) : AVRep base S μ w (fnClo a) y := by
 unfold fnClo
 split
 ·cases h; exact ⟨[], rfl, trivial⟩
 ·exact h

theorem cloFn_rep {μ : Mp} {w : World} {a : AV Γ} {y : Value} (h : AVRep base S μ w a y) : AVRep base S μ w (cloFn a) y := by
 unfold cloFn
 split
 ·obtain ⟨vs, rfl, hv⟩ := h
  cases vs with
  | nil => rfl
  | cons _ _ => exact hv.elim
 ·exact h

theorem coerce_rep {μ : Mp} {w : World} {t : Nat} {a : AV Γ} {y : Value} (h : AVRep base S μ w a y) : AVRep base S μ w (coerce t a) y := by
 unfold coerce
 split
 ·split
  ·rename_i e b he
   cases h
   exact ⟨none, 0, rfl, Nat.le_refl _, Nat.zero_le _, fun hn => by simp at hn, rfl, rfl, rfl⟩
  ·exact h
 ·exact h


theorem onBool_inv {R : Type} {c : AV Γ} {A B : Option R} {r : R} (h : onBool c A B = some r) :
  ∃ b : Bool, (∀ base S μ w y, AVRep base S μ w c y → y = .bool b) ∧ (if b = true then A else B) = some r := by
 unfold onBool at h
 split at h
 ·rename_i b
  exact ⟨b, fun _ _ _ _ _ h => h, h⟩
 ·rename_i b q i hb
  refine ⟨b, fun _ _ _ _ _ h => h, ?_⟩
  subst hb
  by_cases hq : q
  ·simpa [hq] using h
  ·simpa [hq] using h
 ·rename_i b q i hb
  refine ⟨b, fun _ _ _ _ _ h => h, ?_⟩
  subst hb
  by_cases hq : q
  ·simpa [hq] using h
  ·simpa [hq] using h
 ·cases h

theorem mkB_rep {μ : Mp} {w : World} {b : Bool} {q : Prop} [i : Decidable q] {h : b = decide q} : AVRep (Γ := Γ) base S μ w (mkB b q h) (.bool b) := rfl
theorem mkN_rep {μ : Mp} {w : World} {b : Bool} {q : Prop} [i : Decidable q] {h : b = !decide q} : AVRep (Γ := Γ) base S μ w (mkN b q h) (.bool b) := rfl

end

section
variable {Γ : Ctx} {P : Program} {base : Nat} {S : Nat → Nat → Prop} {w0 : W0}

theorem wrapK_eq (k : IntKind) (n : Int) : wrapK k n = k.wrap n := by
 cases k <;> simp only [wrapK]
 ·exact (IntWalk.i64_left n).symm
 ·simp only [IntKind.wrap, IntKind.bits, IntKind.signed, Bool.false_and, Bool.false_eq_true, if_false]
  omega

theorem sem_move {o : Oper} {tm : Tm Γ} {bx : Bx Γ} {x : Operand} (h : o.op = .move x ∨ o.op = .assign x) : OpSem P o tm bx (coerce o.type (ev tm x)) .none := by
 refine sem_val fun base S w0 a w μ hp => ⟨a.eval x, ?_, coerce_rep ?_⟩
 ·rcases h with h | h <;> simp [execOp, h]
 ·rcases h with h | h <;> exact hp.ops x (by rw [h]; simp [Op.operands])

theorem sem_pick {o : Oper} {tm : Tm Γ} {bx : Bx Γ} {c x y : Operand} (h : o.op = .pick c x y) {b : Bool} (hb : ∀ base S μ w z, AVRep base S μ w (ev tm c) z → z = .bool b) :
  OpSem P o tm bx (if b = true then ev tm x else ev tm y) .none := by
 refine sem_val fun base S w0 a w μ hp => ⟨if b = true then a.eval x else a.eval y, ?_, ?_⟩
 ·have hc := hb _ _ _ _ _ (hp.ops c (by rw [h]; simp [Op.operands]))
  simp only [execOp, h, hc, asBool]
  cases b <;> rfl
 ·cases b
  ·simpa using hp.ops y (by rw [h]; simp [Op.operands])
  ·simpa using hp.ops x (by rw [h]; simp [Op.operands])

theorem run_binOp {o : Oper} {a : Act} {w : World} {op : BinOp} {t t' : Nat} {x y : Operand} {z : Value} (h : o.op = .binOp op t x y t')
  (hg : (eqGuard op t x y (a.eval x) (a.eval y)).run P w = .ok () w) (hr : (binOp op t (a.eval x) (a.eval y)).run P w = .ok z w) : (execOp a.eval o).run P w = .ok (.value z) w := by
 simp only [execOp, h, Sem.run_bind, hg, hr, Result.andThen_ok, Sem.run_pure]

theorem dec_any (q : Prop) (i j : Decidable q) : @decide q i = @decide q j := by
 cases i <;> cases j <;> first | rfl | contradiction

theorem intBin_inv {R : Type} {op : BinOp} {k : IntKind} {m n : Int} {K : AV Γ → Option R} {r : R} (h : intBin op k m n K = some r) :
  ∃ v, K v = some r ∧ ∃ z, (∀ (w : World) (t : Nat), (binOp op t (.int k m) (.int k n)).run P w = .ok z w) ∧ (∀ (w : World) (t : Nat) (x y : Operand), (eqGuard op t x y (.int k m) (.int k n)).run P w = .ok () w) ∧ ∀ base S μ w, AVRep (Γ := Γ) base S μ w v z := by
 have hk : (k ≠ k) = False := by simp
 cases op <;> simp only [intBin] at h
 case add => exact ⟨_, h, .int k (k.wrap (m + n)), fun w t => by simp [binOp, Op.intArith], fun w t x y => by simp [eqGuard], fun _ _ _ _ => by rw [wrapK_eq]; rfl⟩
 case sub => exact ⟨_, h, .int k (k.wrap (m - n)), fun w t => by simp [binOp, Op.intArith], fun w t x y => by simp [eqGuard], fun _ _ _ _ => by rw [wrapK_eq]; rfl⟩
 case mul => exact ⟨_, h, .int k (k.wrap (m * n)), fun w t => by simp [binOp, Op.intArith], fun w t x y => by simp [eqGuard], fun _ _ _ _ => by rw [wrapK_eq]; rfl⟩
 case quo =>
  split at h
  ·cases h
  ·rename_i hn
   exact ⟨_, h, .int k (k.wrap (m.tdiv n)), fun w t => by simp [binOp, Op.intDiv, hn], fun w t x y => by simp [eqGuard], fun _ _ _ _ => by rw [wrapK_eq]; rfl⟩
 case rem =>
  split at h
  ·cases h
  ·rename_i hn
   exact ⟨_, h, .int k (m.tmod n), fun w t => by simp [binOp, Op.intDiv, hn], fun w t x y => by simp [eqGuard], fun _ _ _ _ => rfl⟩
 case eql => exact ⟨_, h, .bool (m == n), fun w t => by simp [binOp, Op.intCmp], fun w t x y => by simp [eqGuard], fun _ _ _ _ => rfl⟩
 case neq => exact ⟨_, h, .bool (m != n), fun w t => by simp [binOp, Op.intCmp], fun w t x y => by simp [eqGuard], fun _ _ _ _ => rfl⟩
 case lss => exact ⟨_, h, .bool (decide (m < n)), fun w t => by simp [binOp, Op.intCmp], fun w t x y => by simp [eqGuard], fun _ _ _ _ => congrArg Value.bool (dec_any _ _ _)⟩
 case leq => exact ⟨_, h, .bool (decide (m ≤ n)), fun w t => by simp [binOp, Op.intCmp], fun w t x y => by simp [eqGuard], fun _ _ _ _ => congrArg Value.bool (dec_any _ _ _)⟩
 case gtr => exact ⟨_, h, .bool (decide (m > n)), fun w t => by simp [binOp, Op.intCmp], fun w t x y => by simp [eqGuard], fun _ _ _ _ => congrArg Value.bool (dec_any _ _ _)⟩
 case geq => exact ⟨_, h, .bool (decide (m ≥ n)), fun w t => by simp [binOp, Op.intCmp], fun w t x y => by simp [eqGuard], fun _ _ _ _ => congrArg Value.bool (dec_any _ _ _)⟩
 case and => exact ⟨_, h, .int k (Go.bits .and k m n), fun w t => by simp [binOp, intBits_and], fun w t x y => by simp [eqGuard], fun _ _ _ _ => rfl⟩
 case or => exact ⟨_, h, .int k (Go.bits .or k m n), fun w t => by simp [binOp, intBits_or], fun w t x y => by simp [eqGuard], fun _ _ _ _ => rfl⟩
 case xor => exact ⟨_, h, .int k (Go.bits .xor k m n), fun w t => by simp [binOp, intBits_xor], fun w t x y => by simp [eqGuard], fun _ _ _ _ => rfl⟩
 case andNot => exact ⟨_, h, .int k (Go.bits .andNot k m n), fun w t => by simp [binOp, intBits_andNot], fun w t x y => by simp [eqGuard], fun _ _ _ _ => rfl⟩
 all_goals cases h

theorem intBin2_inv {R : Type} {op : BinOp} {k k' : IntKind} {m n : Int} {K : AV Γ → Option R} {r : R} (h : intBin2 op k m k' n K = some r) :
  ∃ v, K v = some r ∧ ∃ z, (∀ (w : World) (t : Nat), (binOp op t (.int k m) (.int k' n)).run P w = .ok z w) ∧ (∀ (w : World) (t : Nat) (x y : Operand), (eqGuard op t x y (.int k m) (.int k' n)).run P w = .ok () w) ∧ ∀ base S μ w, AVRep (Γ := Γ) base S μ w v z := by
 unfold intBin2 at h
 split at h
 ·split at h
  ·rename_i h0
   split at h
   ·rename_i h1
    exact ⟨_, h, .int k (m / 2 ^ n.toNat), fun w t => by simp [binOp, shift_shr k k' m n h0 h1], fun w t x y => by simp [eqGuard], fun _ _ _ _ => rfl⟩
   ·cases h
  ·cases h
 ·split at h
  ·rename_i h0
   split at h
   ·rename_i h1
    exact ⟨_, h, .int k (k.wrap (m * 2 ^ n.toNat)), fun w t => by simp [binOp, shift_shl k k' m n h0 h1], fun w t x y => by simp [eqGuard], fun _ _ _ _ => rfl⟩
   ·cases h
  ·cases h
 ·split at h
  ·rename_i e; subst e; exact intBin_inv h
  ·cases h

theorem toList_data (a : ByteArray) : a.data.toList = a.toList := (ByteArray.toList_eq a).symm

theorem strCmp_inv {R : Type} {op : BinOp} {m n : ByteArray} {l l' : List UInt8} {K : AV Γ → Option R} {r : R} (hl : l = m.toList) (hl' : l' = n.toList) (h : strCmp op l l' K = some r) :
  ∃ v, K v = some r ∧ ∃ z, (∀ (w : World) (t : Nat), (binOp op t (.string m) (.string n)).run P w = .ok z w) ∧ (∀ (w : World) (t : Nat) (x y : Operand), (eqGuard op t x y (.string m) (.string n)).run P w = .ok () w) ∧ ∀ base S μ w, AVRep (Γ := Γ) base S μ w v z := by
 subst hl hl'
 cases op <;> simp only [strCmp] at h
 case eql => exact ⟨_, h, .bool (m.toList == n.toList), fun w t => by simp [binOp, Op.stringOp], fun w t x y => by simp [eqGuard], fun _ _ _ _ => rfl⟩
 case neq => exact ⟨_, h, .bool (!(m.toList == n.toList)), fun w t => by simp [binOp, Op.stringOp], fun w t x y => by simp [eqGuard], fun _ _ _ _ => rfl⟩
 case lss => exact ⟨_, h, .bool (Op.bytesLess m.toList n.toList), fun w t => by simp [binOp, Op.stringOp], fun w t x y => by simp [eqGuard], fun _ _ _ _ => rfl⟩
 case leq => exact ⟨_, h, .bool (Op.bytesLess m.toList n.toList || m.toList == n.toList), fun w t => by simp [binOp, Op.stringOp], fun w t x y => by simp [eqGuard], fun _ _ _ _ => rfl⟩
 case gtr => exact ⟨_, h, .bool (!(Op.bytesLess m.toList n.toList || m.toList == n.toList)), fun w t => by simp [binOp, Op.stringOp], fun w t x y => by simp [eqGuard], fun _ _ _ _ => rfl⟩
 case geq => exact ⟨_, h, .bool (!(Op.bytesLess m.toList n.toList)), fun w t => by simp [binOp, Op.stringOp], fun w t x y => by simp [eqGuard], fun _ _ _ _ => rfl⟩
 all_goals cases h

theorem strBin_inv {R : Type} {op : BinOp} {ox oy : Operand} {m n : ByteArray} {K : AV Γ → Option R} {r : R} (h : strBin op ox oy m n K = some r) :
  ∃ v, K v = some r ∧ ∃ z, (∀ (w : World) (t : Nat), (binOp op t (.string m) (.string n)).run P w = .ok z w) ∧ (∀ (w : World) (t : Nat) (x y : Operand), (eqGuard op t x y (.string m) (.string n)).run P w = .ok () w) ∧ ∀ base S μ w, AVRep (Γ := Γ) base S μ w v z := by
 unfold strBin at h
 split at h
 ·split at h
  ·rename_i hs
   refine ⟨_, h, .string (m ++ n), fun w t => ?_, fun w t x y => by simp [eqGuard], fun _ _ _ _ => rfl⟩
   have : ¬ (9223372036854775807 < ((m.size : Int) + (n.size : Int))) := by omega
   simp [binOp, Op.stringOp, IntKind.max, IntKind.signed, IntKind.bits, this]
  ·cases h
 ·exact strCmp_inv (toList_data _) (toList_data _) h
 ·exact strCmp_inv (toList_data _) rfl h
 ·exact strCmp_inv rfl (toList_data _) h
 ·exact strCmp_inv rfl rfl h

theorem sem_unOp {R : Type} {o : Oper} {tm : Tm Γ} {bx : Bx Γ} {op : UnOp} {t : Nat} {x : Operand} (h : o.op = .unOp op t x) {K : AV Γ → Option R} {r : R} (hk : unAV op (ev tm x) K = some r) :
  ∃ v, K v = some r ∧ OpSem P o tm bx v .none := by
 unfold unAV at hk
 split at hk
 ·rename_i b hx
  refine ⟨_, hk, sem_val fun base S w0 a w μ hp => ⟨.bool (!b), ?_, rfl⟩⟩
  have hy := hp.ops x (by rw [h]; simp [Op.operands])
  rw [hx] at hy; change a.eval x = _ at hy
  simp [execOp, h, hy, Op.unary]
 ·rename_i b q i hb hx
  refine ⟨_, hk, sem_val fun base S w0 a w μ hp => ⟨.bool (!b), ?_, rfl⟩⟩
  have hy := hp.ops x (by rw [h]; simp [Op.operands])
  rw [hx] at hy; change a.eval x = _ at hy
  simp [execOp, h, hy, Op.unary]
 ·rename_i b q i hb hx
  refine ⟨_, hk, sem_val fun base S w0 a w μ hp => ⟨.bool (!b), ?_, rfl⟩⟩
  have hy := hp.ops x (by rw [h]; simp [Op.operands])
  rw [hx] at hy; change a.eval x = _ at hy
  simp [execOp, h, hy, Op.unary]
 ·rename_i k n hx
  refine ⟨_, hk, sem_val fun base S w0 a w μ hp => ⟨.int k (k.wrap (0 - n)), ?_, by rw [wrapK_eq]; rfl⟩⟩
  have hy := hp.ops x (by rw [h]; simp [Op.operands])
  rw [hx] at hy; change a.eval x = _ at hy
  simp [execOp, h, hy, Op.unary, Op.intArith]
 ·cases hk


def CellsAt (base : Nat) (S : Nat → Nat → Prop) (μ : Mp) (w : World) (b off : Nat) (cs : List (Cell Γ)) : Prop :=
 ∀ j c, cs[j]? = some c → ∃ v, w.cell? ⟨b, off + j, none⟩ = some v ∧ CellRep base S μ w c v

theorem cellsAt_list {μ : Mp} {w : World} {b off : Nat} : ∀ {cs : List (Cell Γ)}, CellsAt base S μ w b off cs → ∃ vs, vs.length = cs.length ∧ CellsRep base S μ w cs vs ∧ ∀ j v, vs[j]? = some v → w.cell? ⟨b, off + j, none⟩ = some v := by
 intro cs
 induction cs generalizing off with
 | nil => intro _; exact ⟨[], rfl, trivial, fun j v h => by simp at h⟩
 | cons c cs ih =>
  intro h
  obtain ⟨v, hv, hc⟩ := h 0 c rfl
  obtain ⟨vs, h1, h2, h3⟩ := ih (off := off + 1) (fun j c hj => by
   obtain ⟨v, h4, h5⟩ := h (j + 1) c (by simpa using hj)
   exact ⟨v, by rw [show off + 1 + j = off + (j + 1) by omega]; exact h4, h5⟩)
  refine ⟨v :: vs, by simp [h1], ⟨hc, h2⟩, fun j u hu => ?_⟩
  cases j with
  | zero => simp at hu; subst hu; exact hv
  | succ j => rw [show off + (j + 1) = off + 1 + j by omega]; exact h3 j u (by simpa using hu)

theorem CellsAt.take {μ : Mp} {w : World} {b off : Nat} {cs : List (Cell Γ)} (h : CellsAt base S μ w b off cs) (n : Nat) : CellsAt base S μ w b off (cs.take n) := by
 intro j c hj
 rw [List.getElem?_take] at hj
 split at hj
 ·exact h j c hj
 ·cases hj

theorem add_plain' (b off n : Nat) : (⟨b, off, none⟩ : Addr).add n = ⟨b, off + n, none⟩ := by
 unfold Addr.add
 split
 ·subst_vars; rfl
 ·rfl

theorem run_loadVar_agg {t : Nat} {d : TypeDesc} {i : TypeInfo} {w : World} {b off : Nat} {vs : List Value} (hu : P.underlying t = some d) (hd : aggD d = true) (hi : P.info? t = some i) (hs : i.size = vs.length)
  (hc : ∀ j v, vs[j]? = some v → w.cell? ⟨b, off + j, none⟩ = some v) : (loadVar t ⟨b, off, none⟩).run P w = .ok (.agg vs.toArray) w := by
 have hl := run_loadCells_list (P := P) w ⟨b, off, none⟩ vs (fun j v hj => by rw [add_plain']; exact hc j v hj)
 simp only [loadVar, Sem.run_bind, run_isAgg hu, hd, Result.andThen_ok, if_true, run_sizeOf hi, hs, hl, Sem.run_pure]

theorem run_loadVar_one {t : Nat} {d : TypeDesc} {w : World} {a : Addr} {v : Value} (hu : P.underlying t = some d) (hd : aggD d = false) (hc : w.cell? a = some v) : (loadVar t a).run P w = .ok v w := by
 simp only [loadVar, Sem.run_bind, run_isAgg hu, hd, Result.andThen_ok, Bool.false_eq_true, if_false, run_load, hc]

theorem partAV_inv {R : Type} {agg : Bool} {sz : Nat} {cs : List (Cell Γ)} {K : AV Γ → Option R} {r : R} (h : partAV agg sz cs K = some r) :
  ∃ v, K v = some r ∧ ((agg = true ∧ sz ≤ cs.length ∧ v = .f (.agg (cs.take sz))) ∨ (agg = false ∧ ∃ c rest, cs = c :: rest ∧ v = .f (.c c))) := by
 unfold partAV at h
 split at h
 ·cases hs : sz.ble cs.length with
  | false => simp [hs] at h
  | true => simp only [hs, cond_true] at h; exact ⟨_, h, .inl ⟨rfl, Nat.le_of_ble_eq_true hs, rfl⟩⟩
 ·exact ⟨_, h, .inr ⟨rfl, _, _, rfl, rfl⟩⟩
 ·cases h

theorem loadAV_inv {R : Type} (C : CtxOK P Γ) {t : Nat} {cs : List (Cell Γ)} {K : AV Γ → Option R} {r : R} (h : loadAV (Γ.td t) cs K = some r) :
  ∃ v, K v = some r ∧ ∀ base S μ w b off, CellsAt base S μ w b off cs → ∃ y, (loadVar t ⟨b, off, none⟩).run P w = .ok y w ∧ AVRep base S μ w v y := by
 unfold loadAV at h
 cases hk : (Γ.td t).known with
 | false => simp [hk] at h
 | true =>
  simp only [hk, cond_true] at h
  obtain ⟨i, d, h1, h2, h3, h4⟩ := known_size C hk
  obtain ⟨v, hv, hh⟩ := partAV_inv h
  refine ⟨v, hv, fun base S μ w b off hc => ?_⟩
  rcases hh with ⟨ha, hs, rfl⟩ | ⟨ha, c, rest, rfl, rfl⟩
  ·obtain ⟨vs, e1, e2, e3⟩ := cellsAt_list (hc.take (Γ.td t).size)
   refine ⟨_, run_loadVar_agg (vs := vs) h3 (h4.trans ha) h1 ?_ e3, ⟨vs, rfl, e2⟩⟩
   rw [e1, List.length_take, h2]; omega
  ·obtain ⟨u, e1, e2⟩ := hc 0 c rfl
   exact ⟨u, run_loadVar_one h3 (h4.trans ha) e1, e2⟩

theorem BoxRep.cells {μ : Mp} {w : World} {s T : Nat} {cs : List (Cell Γ)} (h : BoxRep base S μ w s T cs) (n : Nat) : ∃ g, μ.ρ s = some g ∧ CellsAt base S μ w g n (cs.drop n) := by
 obtain ⟨g, cur, h1, h2, h3⟩ := h
 refine ⟨g, h1, fun j c hj => ?_⟩
 obtain ⟨v, e1, e2⟩ := (h3.drop n).get j hj
 refine ⟨v, ?_, e2⟩
 rw [List.getElem?_drop] at e1
 rw [cell_of_row w g (n + j) cur T (0, 0) h2]
 simpa using e1

theorem ix_cells {μ : Mp} {w : World} {s o e : Nat} {xs : List (Γ.kd e).α} {n : Int} {y : Value} (h : PtRep base S μ w (.ix s o e xs n : Pt Γ) y) :
  ∃ g off, y = .pointer (some ⟨g, off + o, none⟩) ∧ CellsAt (Γ := Γ) base S μ w g (off + o) ((((Γ.kd e).K.enc (rdK (Γ.kd e).K xs n)).map Cell.v).drop o) := by
 obtain ⟨g, off, cur, T, h1, h2, h3, rfl, h4⟩ := h
 refine ⟨g, off, rfl, fun j c hj => ?_⟩
 rw [List.getElem?_drop, List.getElem?_map] at hj
 obtain ⟨v, hv, rfl⟩ := Option.map_eq_some_iff.1 hj
 refine ⟨v, ?_, rfl⟩
 rw [cell_of_row w g _ cur T (0, 0) h2, Nat.add_assoc]
 exact h4 _ v hv

theorem rdK_get {α : Type} (K : RK α) (xs : List α) (n : Int) (h0 : 0 ≤ n) (h1 : n < xs.length) : xs[n.toNat]? = some (rdK K xs n) := by
 have : n.toNat < xs.length := by omega
 simp [rdK, List.getD_eq_getElem?_getD, List.getElem?_eq_getElem this]

theorem flat_get {α : Type} (K : RK α) : ∀ (xs : List α) (i j : Nat) (x : α) (v : Value), xs[i]? = some x → (K.enc x)[j]? = some v → (xs.flatMap K.enc)[i * K.sz + j]? = some v
 | [], i, j, x, v, h, _ => by simp at h
 | z :: xs, 0, j, x, v, h, hv => by
  simp at h; subst h
  have : j < (K.enc z).length := (List.getElem?_eq_some_iff.1 hv).1
  simp only [List.flatMap_cons, Nat.zero_mul, Nat.zero_add]
  rw [List.getElem?_append_left this]; exact hv
 | z :: xs, i + 1, j, x, v, h, hv => by
  simp only [List.flatMap_cons]
  rw [List.getElem?_append_right (by rw [K.len, Nat.succ_mul]; omega), K.len]
  have := flat_get K xs i j x v (by simpa using h) hv
  rwa [show (i + 1) * K.sz + j - K.sz = i * K.sz + j by rw [Nat.succ_mul]; omega]

theorem sem_load {R : Type} (C : CtxOK P Γ) {E : List (Ent Γ)} {o : Oper} {tm : Tm Γ} {bx : Bx Γ} {t : Nat} {x : Operand} (h : o.op = .load t x) {K : AV Γ → Eff Γ → Option R} {r : R} (hk : evalOp E tm bx o K = some r) :
  ∃ v, K v .none = some r ∧ OpSem P o tm bx v .none := by
 unfold evalOp at hk
 rw [h] at hk
 simp only at hk
 have key : ∀ v, (∀ base S w0 a w μ, OpPre base S w0 o tm bx a w μ → ∃ b off y, a.eval x = .pointer (some ⟨b, off, none⟩) ∧ (loadVar t ⟨b, off, none⟩).run P w = .ok y w ∧ AVRep base S μ w v y) → OpSem P o tm bx v .none := by
  intro v hv
  refine sem_val fun base S w0 a w μ hp => ?_
  obtain ⟨b, off, y, e1, e2, e3⟩ := hv base S w0 a w μ hp
  exact ⟨y, by simp [execOp, h, e1, Instr.loadAt, Instr.sureAddr, e2], e3⟩
 split at hk
 ·rename_i s off hx
  split at hk
  ·rename_i T cs hb
   obtain ⟨v, hv, hh⟩ := loadAV_inv C hk
   refine ⟨v, hv, key v fun base S w0 a w μ hp => ?_⟩
   have hy := hp.ops x (by rw [h]; simp [Op.operands])
   rw [hx] at hy
   obtain ⟨g, e1, e2⟩ := hy
   obtain ⟨g', e3, e4⟩ := (hp.bx s T cs hb).cells off
   obtain rfl : g = g' := by rw [e1] at e3; injection e3
   obtain ⟨y, e5, e6⟩ := hh base S μ w g off e4
   exact ⟨g, off, y, e2, e5, e6⟩
  ·cases hk
 ·rename_i cs hx
  obtain ⟨v, hv, hh⟩ := loadAV_inv C hk
  refine ⟨v, hv, key v fun base S w0 a w μ hp => ?_⟩
  have hy := hp.ops x (by rw [h]; simp [Op.operands])
  rw [hx] at hy
  obtain ⟨b, off, e1, e2⟩ := hy
  obtain ⟨y, e5, e6⟩ := hh base S μ w b off (fun j c hj => by obtain ⟨v, f1, f2, _⟩ := e2 j c hj; exact ⟨v, f1, f2⟩)
  exact ⟨b, off, y, e1, e5, e6⟩
 ·rename_i s off e xs n hx
  obtain ⟨v, hv, hh⟩ := loadAV_inv C hk
  refine ⟨v, hv, key v fun base S w0 a w μ hp => ?_⟩
  have hy := hp.ops x (by rw [h]; simp [Op.operands])
  rw [hx] at hy
  obtain ⟨g, oo, e1, e2⟩ := ix_cells hy
  obtain ⟨y, e5, e6⟩ := hh base S μ w g (oo + off) e2
  exact ⟨g, oo + off, y, e1, e5, e6⟩
 ·rename_i e xs d j i off hx
  obtain ⟨v, hv, hh⟩ := loadAV_inv C hk
  refine ⟨v, hv, key v fun base S w0 a w μ hp => ?_⟩
  have hy := hp.ops x (by rw [h]; simp [Op.operands])
  rw [hx] at hy
  obtain ⟨g, cur, q1, q2, ⟨rest, q3⟩, q4, q5, q6⟩ := hy
  have hcells : CellsAt (Γ := Γ) base S μ w g (i.toNat * (Γ.kd e).K.sz + off) ((((Γ.kd e).K.enc (rdK (Γ.kd e).K xs i)).map Cell.v).drop off) := fun jj c hj => by
   rw [List.getElem?_drop, List.getElem?_map] at hj
   obtain ⟨u, hu, rfl⟩ := Option.map_eq_some_iff.1 hj
   have h1 := flat_get (Γ.kd e).K xs i.toNat (off + jj) _ u (rdK_get _ xs i q4 q5) hu
   refine ⟨u, ?_, rfl⟩
   rw [cell_of_row w g _ cur e (0, 0) q2]
   replace h1 : cur.toList[i.toNat * (Γ.kd e).K.sz + (off + jj)]? = some u := by
    rw [q3, List.getElem?_append_left (List.getElem?_eq_some_iff.1 h1).1]; exact h1
   rw [show i.toNat * (Γ.kd e).K.sz + off + jj = i.toNat * (Γ.kd e).K.sz + (off + jj) by omega]
   simpa using h1
  obtain ⟨y, e5, e6⟩ := hh base S μ w g _ hcells
  exact ⟨g, _, y, q6, e5, e6⟩
 ·cases hk

end

section
variable {Γ : Ctx} {P : Program} {base : Nat} {S : Nat → Nat → Prop} {w0 : W0}

theorem sem_grow {o : Oper} {tm : Tm Γ} {bx : Bx Γ} {v : AV Γ}
  (h : ∀ base S w0 a w μ, OpPre base S w0 o tm bx a w μ → ∃ y w', (execOp a.eval o).run P w = .ok (.value y) w' ∧ Below w.heap.size w w' ∧ AVRep base S μ w' v y) : OpSem P o tm bx v .none := by
 intro base S w0 a w μ hp next Q hn
 obtain ⟨y, w', hr, hb, hv⟩ := h base S w0 a w μ hp
 unfold Oper.wp
 rw [hr]
 refine hn y w' μ ⟨hp.maps.of_size hb.size, ?_, fun _ _ h => .inl h, hp.town, ?_, hv, fun s hs => .inl hs, fun _ _ h => .inl h, fun _ _ e => (by cases e), fun _ _ _ e => (by cases e), fun _ _ e => (by cases e), fun _ _ _ _ _ e => (by cases e), fun _ _ e => (by cases e)⟩
 ·exact hp.below.trans (hb.mono hp.le)
 ·exact Ext.of_below hb hp.maps

theorem fds_get : ∀ {fs : List Fd} {gs : List Field} (i : Nat) {f : Fd}, FdsOK P fs gs → nth fs i = some f → ∃ g, gs[i]? = some g ∧ FdOK P f g
 | f :: _, g :: _, 0, _, h, hf => by cases hf; exact ⟨g, rfl, h.1⟩
 | _ :: fs, _ :: gs, i + 1, _, h, hf => fds_get (fs := fs) (gs := gs) i h.2 (by simpa [nth] using hf)
 | [], _, _, _, _, hf => by simp [nth] at hf
 | _ :: _, [], _, _, h, _ => h.elim

theorem td_st (C : CtxOK P Γ) {t sz : Nat} {zs : List Zc} {fs : List Fd} (h : Γ.td t = .st sz zs fs) : TDOK P Γ t (.st sz zs fs) := by rw [← h]; exact C.td t
theorem td_ar (C : CtxOK P Γ) {t n e esz : Nat} {zs : List Zc} (h : Γ.td t = .ar n e esz zs) : TDOK P Γ t (.ar n e esz zs) := by rw [← h]; exact C.td t
theorem td_sl (C : CtxOK P Γ) {t e b : Nat} (h : Γ.td t = .sl e b) : TDOK P Γ t (.sl e b) := by rw [← h]; exact C.td t
theorem td_str (C : CtxOK P Γ) {t : Nat} (h : Γ.td t = .str) : TDOK P Γ t .str := by rw [← h]; exact C.td t
theorem td_int (C : CtxOK P Γ) {t : Nat} {k : IntKind} (h : Γ.td t = .int k) : TDOK P Γ t (.int k) := by rw [← h]; exact C.td t
theorem td_bool (C : CtxOK P Γ) {t : Nat} (h : Γ.td t = .bool) : TDOK P Γ t .bool := by rw [← h]; exact C.td t

theorem info_size {t n : Nat} (h : (P.info? t).map (·.size) = some n) : ∃ i, P.info? t = some i ∧ i.size = n := by
 cases hi : P.info? t with
 | none => rw [hi] at h; cases h
 | some i => rw [hi] at h; exact ⟨i, rfl, by simpa using h⟩

theorem run_part_rep {f : Fd} {g : Field} {R : Type} {cs : List (Cell Γ)} {K : AV Γ → Option R} {r : R} (hf : FdOK P f g) (h : partAV f.agg f.sz (cs.drop f.off) K = some r) :
  ∃ v, K v = some r ∧ ∀ base S μ w (vs : List Value), CellsRep base S μ w cs vs → ∃ y, (part g.type vs.toArray g.offset).run P w = .ok y w ∧ AVRep base S μ w v y := by
 obtain ⟨v, hv, hh⟩ := partAV_inv h
 refine ⟨v, hv, fun base S μ w vs hc => ?_⟩
 obtain ⟨h1, h2, h3, h4, h5, _⟩ := hf
 obtain ⟨i, hi, hs⟩ := info_size h3
 obtain ⟨d, hu, hd⟩ := Option.map_eq_some_iff.1 h5
 have hl := hc.length
 unfold part
 rw [Sem.run_bind, run_isAgg hu, Result.andThen_ok, hd, h1]
 rcases hh with ⟨ha, hsz, rfl⟩ | ⟨ha, c, rest, he, rfl⟩
 ·rw [ha]
  simp only [if_true, Sem.run_bind, run_sizeOf hi, Result.andThen_ok, Sem.run_pure, hs]
  refine ⟨_, rfl, (vs.drop f.off).take f.sz, ?_, (hc.drop _).take _⟩
  simp [List.drop_take]
 ·rw [ha]
  simp only [Bool.false_eq_true, if_false]
  obtain ⟨u, hu1, hu2⟩ := (hc.drop f.off).get 0 (by rw [he]; rfl)
  rw [List.getElem?_drop] at hu1
  have : vs.toArray[f.off]? = some u := by simpa using hu1
  rw [this]
  exact ⟨u, rfl, hu2⟩

theorem sem_field {R : Type} (C : CtxOK P Γ) {o : Oper} {tm : Tm Γ} {bx : Bx Γ} {t i : Nat} {x : Operand} (h : o.op = .field t x i) {K : AV Γ → Option R} {r : R} {sz : Nat} {zs : List Zc} {fs : List Fd} {cs : List (Cell Γ)} {f : Fd}
  (ht : Γ.td t = .st sz zs fs) (hx : ev tm x = .f (.agg cs)) (hf : nth fs i = some f) (hk : partAV f.agg f.sz (cs.drop f.off) K = some r) :
  ∃ v, K v = some r ∧ OpSem P o tm bx v .none := by
 obtain ⟨fields, inf, hu, hi, _, _, _, hfs, _⟩ := td_st C ht
 obtain ⟨g, hg, hok⟩ := fds_get i hfs hf
 obtain ⟨v, hv, hh⟩ := run_part_rep hok hk
 refine ⟨v, hv, sem_val fun base S w0 a w μ hp => ?_⟩
 have hy := hp.ops x (by rw [h]; simp [Op.operands])
 rw [hx] at hy
 obtain ⟨vs, e1, e2⟩ := hy
 obtain ⟨y, e3, e4⟩ := hh base S μ w vs e2
 refine ⟨y, ?_, e4⟩
 have hg' : fields[i]? = some g := by simpa using hg
 simp only [execOp, h, e1, Instr.field, Sem.run_bind, run_underlying hu, Result.andThen_ok, hg', asAgg, Sem.run_pure, e3]

theorem sem_fieldAddr (C : CtxOK P Γ) {o : Oper} {tm : Tm Γ} {bx : Bx Γ} {t i : Nat} {x : Operand} (h : o.op = .fieldAddr t x i) {sz : Nat} {zs : List Zc} {fs : List Fd} {f : Fd} {p q : Pt Γ}
  (ht : Γ.td t = .st sz zs fs) (hx : ev tm x = .p p) (hf : nth fs i = some f) (hun : p ≠ .un)
  (hq : ∀ base S μ w b off, PtRep base S μ w p (.pointer (some ⟨b, off, none⟩)) → PtRep base S μ w q (.pointer (some ⟨b, off + f.off, none⟩))) : OpSem P o tm bx (.p q) .none := by
 obtain ⟨fields, inf, hu, hi, _, _, _, hfs, _⟩ := td_st C ht
 obtain ⟨g, hg, h1, h2, h3, h4, _⟩ := fds_get i hfs hf
 obtain ⟨ii, hii, hss⟩ := info_size h3
 refine sem_val fun base S w0 a w μ hp => ?_
 have hy := hp.ops x (by rw [h]; simp [Op.operands])
 rw [hx] at hy
 have : ∃ b off, a.eval x = .pointer (some ⟨b, off, none⟩) := by
  cases p with
  | box s o => obtain ⟨g, _, e⟩ := hy; exact ⟨_, _, e⟩
  | ref cs => obtain ⟨b, off, e, _⟩ := hy; exact ⟨_, _, e⟩
  | ix s o e xs n => obtain ⟨b, off, _, _, _, _, _, e, _⟩ := hy; exact ⟨_, _, e⟩
  | el e xs d j i o => obtain ⟨_, _, _, _, _, _, _, e⟩ := hy; exact ⟨_, _, e⟩
  | un => exact absurd rfl hun
 obtain ⟨b, off, e⟩ := this
 rw [e] at hy
 refine ⟨.pointer (some ⟨b, off + f.off, none⟩), ?_, hq _ _ _ _ _ _ hy⟩
 have hg' : fields[i]? = some g := by simpa using hg
 have hne : ¬ (ii.size = 0) := by omega
 simp only [execOp, h, e, Instr.fieldAt, Sem.run_bind, run_underlying hu, Result.andThen_ok, hg', Instr.sureAddr, Sem.run_pure, fieldPlace, run_sizeOf hii, hne, if_false, add_plain', h1]

theorem ptq_box {s o n : Nat} : ∀ base S μ w b off, PtRep base S μ w (.box s o : Pt Γ) (.pointer (some ⟨b, off, none⟩)) → PtRep base S μ w (.box s (o + n) : Pt Γ) (.pointer (some ⟨b, off + n, none⟩)) := by
 rintro base S μ w b off ⟨g, h1, h2⟩
 injection h2 with h2; injection h2 with h2; injection h2 with h2 h3 h4
 subst h2 h3
 exact ⟨_, h1, rfl⟩

theorem ptq_el {e d j o n : Nat} {i : Int} {xs : List (Γ.kd e).α} : ∀ base S μ w b off, PtRep base S μ w (.el e xs d j i o : Pt Γ) (.pointer (some ⟨b, off, none⟩)) → PtRep base S μ w (.el e xs d j i (o + n) : Pt Γ) (.pointer (some ⟨b, off + n, none⟩)) := by
 rintro base S μ w b off ⟨g, cur, q1, q2, q3, q4, q5, h2⟩
 injection h2 with h2; injection h2 with h2; injection h2 with h2 h3 h4
 subst h2 h3
 exact ⟨_, cur, q1, q2, q3, q4, q5, by rw [Nat.add_assoc]⟩

theorem ptq_ref {cs : List (Cell Γ)} {n : Nat} : ∀ base S μ w b off, PtRep base S μ w (.ref cs : Pt Γ) (.pointer (some ⟨b, off, none⟩)) → PtRep base S μ w (.ref (cs.drop n) : Pt Γ) (.pointer (some ⟨b, off + n, none⟩)) := by
 rintro base S μ w b off ⟨b', off', h2, h1⟩
 injection h2 with h2; injection h2 with h2; injection h2 with h2 h3 h4
 subst h2 h3
 refine ⟨b, off + n, rfl, fun j c hj => ?_⟩
 rw [List.getElem?_drop] at hj
 obtain ⟨v, e⟩ := h1 _ c hj
 rw [Nat.add_assoc]
 exact ⟨v, e⟩

theorem ptq_ix {s o e : Nat} {xs : List (Γ.kd e).α} {i : Int} {n : Nat} : ∀ base S μ w b off, PtRep base S μ w (.ix s o e xs i : Pt Γ) (.pointer (some ⟨b, off, none⟩)) → PtRep base S μ w (.ix s (o + n) e xs i : Pt Γ) (.pointer (some ⟨b, off + n, none⟩)) := by
 rintro base S μ w b off ⟨g, off', cur, T, h1, h2, h3, h4, h5⟩
 injection h4 with h4; injection h4 with h4; injection h4 with h4 h6 h7
 subst h4 h6
 exact ⟨_, off', cur, T, h1, h2, h3, by rw [Nat.add_assoc], h5⟩

theorem intOfAV_rep {μ : Mp} {w : World} {a : AV Γ} {n : Int} {y : Value} (h : intOfAV a = some n) (hy : AVRep base S μ w a y) : ∃ k, y = .int k n := by
 unfold intOfAV at h
 split at h
 ·injection h with h; subst h; exact ⟨_, hy⟩
 ·cases h

theorem sem_indexAddr_sl (C : CtxOK P Γ) {o : Oper} {tm : Tm Γ} {bx : Bx Γ} {t e e' b : Nat} {x i : Operand} (h : o.op = .indexAddr t x i) {xs : List (Γ.kd e).α} {ow : Own} {n : Int}
  (ht : Γ.td t = .sl e' b) (hee : e.beq e' = true) (hx : ev tm x = .f (.c (.row e xs ow))) (hi : intOfAV (ev tm i) = some n) (h0 : 0 ≤ n) (h1 : n < (xs.length : Int)) :
  OpSem P o tm bx (.p (.ref (((Γ.kd e).K.enc (rdK (Γ.kd e).K xs n)).map Cell.v))) .none := by
 obtain rfl := Nat.eq_of_beq_eq_true hee
 obtain ⟨ii, ie, z, hu, hi1, _, _, hie, _, hsz, _⟩ := td_sl C ht
 refine sem_val fun base S w0 a w μ hp => ?_
 have hy := hp.ops x (by rw [h]; simp [Op.operands])
 rw [hx] at hy
 obtain ⟨A, c, ey, hl1, hl2, hrd, _⟩ := hy
 obtain ⟨k, ei⟩ := intOfAV_rep hi (hp.ops i (by rw [h]; simp [Op.operands]))
 have hpos : 0 < xs.length := by omega
 obtain ⟨b, off, rfl, hc⟩ := hrd hpos
 have hn : (0 ≤ n ∧ n < (xs.length : Int)) := ⟨h0, h1⟩
 refine ⟨.pointer (some ⟨b, off + n.toNat * (Γ.kd e).K.sz, none⟩), ?_, b, _, rfl, fun j c hj => ?_⟩
 ·simp [execOp, h, ey, ei, Instr.indexAt, asIntOf, run_underlying hu, hn, run_sizeOf hie, hsz, add_plain', Result.andThen]
 ·rw [List.getElem?_map] at hj
  obtain ⟨v, hv, rfl⟩ := Option.map_eq_some_iff.1 hj
  obtain ⟨f1, f2, f3⟩ := hc _ v (flat_get (Γ.kd e).K xs n.toNat j _ v (rdK_get _ xs n h0 h1) hv)
  rw [← Nat.add_assoc] at f1 f2
  exact ⟨v, f1, rfl, f2, lt_of_cell f1⟩

theorem sem_indexAddr_own (C : CtxOK P Γ) {o : Oper} {tm : Tm Γ} {bx : Bx Γ} {t e e' b d j : Nat} {x i : Operand} (h : o.op = .indexAddr t x i) {xs : List (Γ.kd e).α} {n : Int}
  (ht : Γ.td t = .sl e' b) (hee : e.beq e' = true) (hx : ev tm x = .f (.c (.own e xs d j))) (hi : intOfAV (ev tm i) = some n) (h0 : 0 ≤ n) (h1 : n < (xs.length : Int)) :
  OpSem P o tm bx (.p (.el e xs d j n 0)) .none := by
 obtain rfl := Nat.eq_of_beq_eq_true hee
 obtain ⟨ii, ie, z, hu, hi1, _, _, hie, _, hsz, _⟩ := td_sl C ht
 refine sem_val fun base S w0 a w μ hp => ?_
 have hy := hp.ops x (by rw [h]; simp [Op.operands])
 rw [hx] at hy
 rcases hy with ⟨rfl, _⟩ | ⟨g, cur, q1, q2, q3, q4, cc, _, ey, _⟩
 ·simp at h1; omega
 obtain ⟨k, ei⟩ := intOfAV_rep hi (hp.ops i (by rw [h]; simp [Op.operands]))
 have hn : (0 ≤ n ∧ n < (xs.length : Int)) := ⟨h0, h1⟩
 refine ⟨.pointer (some ⟨g, 0 + n.toNat * (Γ.kd e).K.sz, none⟩), ?_, g, cur, q1, q2, q3, h0, h1, by simp⟩
 simp [execOp, h, ey, ei, Instr.indexAt, asIntOf, run_underlying hu, hn, run_sizeOf hie, hsz, add_plain', Result.andThen]

theorem cellVals_eq {μ : Mp} {w : World} : ∀ {cs : List (Cell Γ)} {vs us : List Value}, cellVals cs = some vs → CellsRep base S μ w cs us → us = vs
 | [], _, [], h, _ => by simp [cellVals] at h; exact h.symm
 | c :: cs, vs, u :: us, h, hr => by
  unfold cellVals at h
  split at h
  ·rename_i x hx
   split at h
   ·rename_i ys hy
    injection h with h
    subst h
    have hu : u = x := by
     cases c with
     | v z => simp [cellVal] at hx; subst hx; exact hr.1
     | bb b q i hh => simp [cellVal] at hx; subst hx; exact hr.1
     | nb b q i hh => simp [cellVal] at hx; subst hx; exact hr.1
     | fn f => simp [cellVal] at hx
     | own e xs d j => simp [cellVal] at hx
     | _ => simp [cellVal] at hx
    rw [hu, cellVals_eq hy hr.2]
   ·cases h
  ·cases h
 | [], _, _ :: _, _, hr => hr.elim
 | _ :: _, _, [], _, hr => hr.elim

theorem decRow_flat {α : Type} (K : RK α) : ∀ (n : Nat) (vs : List Value) (xs : List α), decRow K n vs = some xs → xs.flatMap K.enc = vs ∧ xs.length = n
 | 0, [], xs, h => by simp [decRow] at h; subst h; exact ⟨rfl, rfl⟩
 | 0, _ :: _, xs, h => by simp [decRow] at h
 | n + 1, vs, xs, h => by
  unfold decRow at h
  split at h
  ·rename_i x hx
   split at h
   ·rename_i ys hy
    injection h with h
    subst h
    obtain ⟨h1, h2⟩ := decRow_flat K n _ ys hy
    refine ⟨?_, by simp [h2]⟩
    rw [List.flatMap_cons, K.de _ _ hx, h1, List.take_append_drop]
   ·cases h
  ·cases h

theorem sem_indexAddr_ar (C : CtxOK P Γ) {o : Oper} {tm : Tm Γ} {bx : Bx Γ} {t e esz len s off T : Nat} {zs : List Zc} {x i : Operand} (h : o.op = .indexAddr t x i) {xs : List (Γ.kd e).α} {cs : List (Cell Γ)} {vs : List Value} {n : Int}
  (ht : Γ.td t = .ar len e esz zs) (hx : ev tm x = .p (.box s off)) (hi : intOfAV (ev tm i) = some n) (hb : bxGet bx s = some (T, cs)) (hT : (Γ.td T).isArr = true)
  (hv : cellVals ((cs.drop off).take (len * esz)) = some vs) (hd : decRow (Γ.kd e).K len vs = some xs) (h0 : 0 ≤ n) (h1 : n < (len : Int)) :
  OpSem P o tm bx (.p (.ix s 0 e xs n)) .none := by
 obtain ⟨ii, ie, hu, hi1, _, _, _, hie, hes, hsz⟩ := td_ar C ht
 refine sem_val fun base S w0 a w μ hp => ?_
 have hy := hp.ops x (by rw [h]; simp [Op.operands])
 rw [hx] at hy
 obtain ⟨g, hg, ey⟩ := hy
 obtain ⟨k, ei⟩ := intOfAV_rep hi (hp.ops i (by rw [h]; simp [Op.operands]))
 obtain ⟨g', cur, hg', hh, hcr⟩ := hp.bx s T cs hb
 obtain rfl : g = g' := by rw [hg] at hg'; injection hg'
 obtain ⟨hf, hl⟩ := decRow_flat _ _ _ _ hd
 have hvs := cellVals_eq hv ((hcr.drop off).take (len * esz))
 have hn : (0 ≤ n ∧ n < (len : Int)) := ⟨h0, h1⟩
 refine ⟨.pointer (some ⟨g, off + n.toNat * esz + 0, none⟩), ?_, g, off + n.toNat * esz, cur, T, hg, hh, hT, rfl, fun j v hj => ?_⟩
 ·simp [execOp, h, ey, ei, Instr.indexAt, asIntOf, run_underlying hu, hn, run_sizeOf hie, hes, Instr.sureAddr, add_plain', Result.andThen]
 ·have := flat_get (Γ.kd e).K xs n.toNat j _ v (rdK_get _ xs n h0 (by rw [hl]; exact h1)) hj
  rw [hf, ← hvs, List.getElem?_take, List.getElem?_drop] at this
  split at this
  ·rw [hsz, Nat.add_assoc]
   simpa using this
  ·cases this

theorem sem_indexAddr_arc (C : CtxOK P Γ) {o : Oper} {tm : Tm Γ} {bx : Bx Γ} {t e esz len s off : Nat} {zs : List Zc} {x i : Operand} (h : o.op = .indexAddr t x i) {n : Int}
  (ht : Γ.td t = .ar len e esz zs) (hx : ev tm x = .p (.box s off)) (hi : intOfAV (ev tm i) = some n) (h0 : 0 ≤ n) (h1 : n < (len : Int)) :
  OpSem P o tm bx (.p (.box s (off + n.toNat * esz))) .none := by
 obtain ⟨ii, ie, hu, hi1, _, _, _, hie, hes, hsz⟩ := td_ar C ht
 refine sem_val fun base S w0 a w μ hp => ?_
 have hy := hp.ops x (by rw [h]; simp [Op.operands])
 rw [hx] at hy
 obtain ⟨g, hg, ey⟩ := hy
 obtain ⟨k, ei⟩ := intOfAV_rep hi (hp.ops i (by rw [h]; simp [Op.operands]))
 have hn : (0 ≤ n ∧ n < (len : Int)) := ⟨h0, h1⟩
 refine ⟨.pointer (some ⟨g, off + n.toNat * esz, none⟩), ?_, g, hg, rfl⟩
 simp [execOp, h, ey, ei, Instr.indexAt, asIntOf, run_underlying hu, hn, run_sizeOf hie, hes, Instr.sureAddr, add_plain', Result.andThen]

theorem sem_index_str (C : CtxOK P Γ) {o : Oper} {tm : Tm Γ} {bx : Bx Γ} {t : Nat} {x i : Operand} (h : o.op = .index t x i) {s : ByteArray} {n : Int}
  (ht : Γ.td t = .str) (hx : ev tm x = .f (.c (.v (.string s)))) (hi : intOfAV (ev tm i) = some n) (h0 : 0 ≤ n) (h1 : n < (s.size : Int)) :
  OpSem P o tm bx (.f (.c (.v (.int .u8 (bt s n))))) .none := by
 obtain ⟨hu, _⟩ := td_str C ht
 refine sem_val fun base S w0 a w μ hp => ?_
 have hy := hp.ops x (by rw [h]; simp [Op.operands])
 rw [hx] at hy
 obtain ⟨k, ei⟩ := intOfAV_rep hi (hp.ops i (by rw [h]; simp [Op.operands]))
 change a.eval x = _ at hy
 have hlt : n.toNat < s.size := by omega
 have hg : s[n.toNat]? = some s[n.toNat] := by simp [hlt]
 refine ⟨.int .u8 (bt s n), ?_, rfl⟩
 simp [execOp, h, hy, ei, Instr.index, asIntOf, run_underlying hu, h0, hg, Result.andThen, bt, hlt]

theorem sem_index_ar {R : Type} (C : CtxOK P Γ) {o : Oper} {tm : Tm Γ} {bx : Bx Γ} {t e esz len : Nat} {zs : List Zc} {x i : Operand} (h : o.op = .index t x i) {xs : List (Γ.kd e).α} {cs : List (Cell Γ)} {vs : List Value} {n : Int}
  (ht : Γ.td t = .ar len e esz zs) (hx : ev tm x = .f (.agg cs)) (hi : intOfAV (ev tm i) = some n) (hv : cellVals cs = some vs) (hd : decRow (Γ.kd e).K len vs = some xs) (h0 : 0 ≤ n) (h1 : n < (len : Int))
  {K : AV Γ → Option R} {r : R} (hk : loadAV (Γ.td e) (((Γ.kd e).K.enc (rdK (Γ.kd e).K xs n)).map Cell.v) K = some r) :
  ∃ v, K v = some r ∧ OpSem P o tm bx v .none := by
 obtain ⟨ii, ie, hu, hi1, _, _, _, hie, hes, hsz⟩ := td_ar C ht
 unfold loadAV at hk
 cases hkn : (Γ.td e).known with
 | false => simp [hkn] at hk
 | true =>
  simp only [hkn, cond_true] at hk
  obtain ⟨i', d, e1, e2, e3, e4⟩ := known_size C hkn
  obtain ⟨v, hv', hh⟩ := partAV_inv hk
  refine ⟨v, hv', sem_val fun base S w0 a w μ hp => ?_⟩
  have hy := hp.ops x (by rw [h]; simp [Op.operands])
  rw [hx] at hy
  obtain ⟨us, ey, hcr⟩ := hy
  obtain ⟨k, ei⟩ := intOfAV_rep hi (hp.ops i (by rw [h]; simp [Op.operands]))
  obtain rfl := cellVals_eq hv hcr
  obtain ⟨hf, hl⟩ := decRow_flat _ _ _ _ hd
  have hn : (0 ≤ n ∧ n < (len : Int)) := ⟨h0, h1⟩
  have hget : ∀ j u, ((Γ.kd e).K.enc (rdK (Γ.kd e).K xs n))[j]? = some u → us[n.toNat * esz + j]? = some u := fun j u hj => by
   have := flat_get (Γ.kd e).K xs n.toNat j _ u (rdK_get _ xs n h0 (by rw [hl]; exact h1)) hj
   rwa [hf, ← hsz] at this
  have hie' : i' = ie := by rw [e1] at hie; injection hie
  subst hie'
  have hsd : (Γ.td e).size = esz := by rw [← e2, hes]
  have hrun : ∀ y, (part e us.toArray (n.toNat * esz)).run P w = .ok y w → (execOp a.eval o).run P w = .ok (.value y) w := fun y hy' => by
   simp [execOp, h, ey, ei, Instr.index, asIntOf, run_underlying hu, hn, run_sizeOf hie, hes, Result.andThen, hy']
  have hpart : (part e us.toArray (n.toNat * esz)).run P w = (if aggD d = true then (do pure (.agg (us.toArray.extract (n.toNat * esz) (n.toNat * esz + (← sizeOf e)))) : Sem Value) else match us.toArray[n.toNat * esz]? with | some v => pure v | none => stuck "part: no such cell").run P w := by
   unfold part
   rw [Sem.run_bind, run_isAgg e3, Result.andThen_ok]
   cases aggD d <;> rfl
  rcases hh with ⟨ha, hs, rfl⟩ | ⟨ha, c, rest, he, rfl⟩
  ·refine ⟨_, hrun _ ?_, (us.drop (n.toNat * esz)).take esz, rfl, ?_⟩
   ·rw [hpart, e4, ha]
    simp only [if_true, Sem.run_bind, run_sizeOf hie, Result.andThen_ok, Sem.run_pure, hes]
    congr 2
    simp [List.drop_take]
   ·rw [hsd] at hs ⊢
    have hlen : ((Γ.kd e).K.enc (rdK (Γ.kd e).K xs n)).length = esz := by rw [(Γ.kd e).K.len, hsz]
    have : (us.drop (n.toNat * esz)).take esz = (Γ.kd e).K.enc (rdK (Γ.kd e).K xs n) := by
     apply List.ext_getElem?
     intro j
     rw [List.getElem?_take]
     split
     ·rename_i hj
      rw [List.getElem?_drop]
      have hj' : j < ((Γ.kd e).K.enc (rdK (Γ.kd e).K xs n)).length := by omega
      rw [hget j _ (List.getElem?_eq_getElem hj'), List.getElem?_eq_getElem hj']
     ·rw [List.getElem?_eq_none (by omega)]
    rw [this, List.take_of_length_le (by simp [hlen])]
    exact cellsV _
  ·cases hen : (Γ.kd e).K.enc (rdK (Γ.kd e).K xs n) with
   | nil => rw [hen] at he; simp at he
   | cons u rest' =>
    rw [hen] at he
    simp at he
    obtain ⟨rfl, _⟩ := he
    refine ⟨u, hrun _ ?_, rfl⟩
    rw [hpart, e4, ha]
    have := hget 0 u (by rw [hen]; rfl)
    simp only [Nat.add_zero] at this
    have h' : us.toArray[n.toNat * esz]? = some u := by simpa using this
    simp [h']

end

end Go.Refl
