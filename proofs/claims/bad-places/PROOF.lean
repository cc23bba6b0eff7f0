import PyProof.Rows.All
import Wide.All
import OpenK.AllK
import Wide.FinOn
import HandS.ForMost
import HandS.Property
import HandS.Star
import HandS.IsInst
import HandS.NoneIn
import HandS.Conv
import HandS.Walk
import HandS.TupAny
import HandS.DictComp
import HandS.TupSets
import HandS.Zip
import KE.KOpsOwn
import KE.SortData
import KE.GoesEnum
import HandS.Defaults
import PySem.Challenge.RW_vectorwidths_k37_whole_bad_places
import HandS.Head0
import HandS.Head1
import HandS.Head2
import HandS.HeadEnd
import HandS.HeadHook1
import HandS.HeadHook2
set_option Elab.async false
set_option linter.all false
set_option maxRecDepth 100000
set_option maxHeartbeats 4000000
/-! The mirror: what the program and the law compute, over plain data. -/
namespace VW
open PySem L2

/-- a statement: its name, what it stores to, what it loads -/
structure Dd where
  name : Str
  goal : Option (Str × Int)
  loads : List (Str × Int)
/-- a world: lines with strides, statements -/
structure Wd where
  rows : List (Str × Int)
  deeds : List Dd
/-- an event -/
structure Ev where
  w : Str
  j : Nat
  i : Nat
  k : Nat

def letters26 : Str := "abcdefghijklmnopqrstuvwxyz"
def NameOk (s : Str) : Prop := 1 ≤ s.length ∧ s.length ≤ 8 ∧ ∀ c ∈ s.cps.toList, c ∈ letters26.cps.toList
def refsOf (d : Dd) : List (Str × Int) := d.loads ++ d.goal.toList
structure WOk (w : Wd) : Prop where
  r1 : 1 ≤ w.rows.length
  r2 : w.rows.length ≤ 2
  rn : ∀ r ∈ w.rows, NameOk r.1 ∧ 1 ≤ r.2 ∧ r.2 ≤ 2
  rd : (w.rows.map (·.1)).Nodup
  d1 : 1 ≤ w.deeds.length
  d2 : w.deeds.length ≤ 3
  dn : ∀ d ∈ w.deeds, NameOk d.name
  dd : (w.deeds.map (·.name)).Nodup
  dl : ∀ d ∈ w.deeds, d.loads.length ≤ 2
  dr : ∀ d ∈ w.deeds, ∀ r ∈ refsOf d, r.1 ∈ w.rows.map (·.1) ∧ -1 ≤ r.2 ∧ r.2 ≤ 1

def deedAt (w : Wd) (j : Nat) : Dd := w.deeds.getD j ⟨Str.empty, none, []⟩
def strideOf (w : Wd) (x : Str) : Int := ((w.rows.find? fun r => decide (r.1 = x)).map (·.2)).getD 1

/-! ### events -/
def loadsEv (w : Wd) (j i : Nat) : List Ev := (List.range (deedAt w j).loads.length).map fun k => ⟨"load", j, i, k⟩
def endEv (w : Wd) (j i : Nat) : Ev := ⟨if (deedAt w j).goal = none then "add" else "store", j, i, 0⟩
def turnEv (w : Wd) (j i : Nat) : List Ev := loadsEv w j i ++ [endEv w j i]
def iterEv (w : Wd) (i : Nat) : List Ev := (List.range w.deeds.length).flatMap fun j => turnEv w j i
def plainEv (w : Wd) (c : Nat) : List Ev := (List.range c).flatMap fun i => iterEv w i
/-- the loads ahead of the end of statement o in a block -/
def loadedS (n p o : Nat) : List Nat := (if o = p ∧ p ≠ n then [n] else []) ++ (if o ≠ n ∨ p = n then [o] else [])
def stmtEv (w : Wd) (lanes : List Nat) (n p o : Nat) : List Ev := (loadedS n p o).flatMap (fun s => lanes.flatMap fun a => loadsEv w s a) ++ lanes.map fun a => endEv w o a
def blockEv (w : Wd) (n p : Nat) (lanes : List Nat) : List Ev := (List.range w.deeds.length).flatMap fun o => stmtEv w lanes n p o
def lanesAt (wd c b : Nat) : List Nat := (List.range (min (b * wd + wd) c - b * wd)).map fun x => b * wd + x
def freeEv (w : Wd) (n p wd c : Nat) : List Ev := (List.range ((c + wd - 1) / wd)).flatMap fun b => blockEv w n p (lanesAt wd c b)

/-! ### what loads get -/
section
variable {κ : Type} [DecidableEq κ] {β : Type}
def putA (l : List (κ × β)) (k : κ) (b : β) : List (κ × β) :=
  if (l.any fun q => decide (q.1 = k)) = true then l.map (fun q => if q.1 = k then (q.1, b) else q) else l ++ [(k, b)]
def getA (l : List (κ × β)) (k : κ) : Option β := (l.find? fun q => decide (q.1 = k)).map (·.2)
end
abbrev Org := List (List Key × Option (Nat × Nat))
abbrev Wri := List (List Key × (Nat × Nat))
def loadKey (e : Ev) : List Key := [.inl (e.j : Int), .inl (e.i : Int), .inl (e.k : Int)]
def refOf (w : Wd) (e : Ev) : Str × Int := if e.w = "store" then (deedAt w e.j).goal.getD (Str.empty, 0) else (deedAt w e.j).loads.getD e.k (Str.empty, 0)
def cellOf (w : Wd) (e : Ev) : Str × Int := ((refOf w e).1, strideOf w (refOf w e).1 * (e.i : Int) + (refOf w e).2)
def cellKey (w : Wd) (e : Ev) : List Key := [.inr (cellOf w e).1, .inl (cellOf w e).2]
def flowStep (w : Wd) (st : Org × Wri) (e : Ev) : Org × Wri :=
  if e.w = "load" then (putA st.1 (loadKey e) (getA st.2 (cellKey w e)), st.2)
  else if e.w = "store" then (st.1, putA st.2 (cellKey w e) (e.j, e.i)) else st
def flowM (w : Wd) (l : List Ev) : Org × Wri := l.foldl (flowStep w) ([], [])
def plainO (w : Wd) (c : Nat) : Org := (flowM w (plainEv w c)).1
def freeO (w : Wd) (n p wd c : Nat) : Org := (flowM w (freeEv w n p wd c)).1
def isOf (n : Nat) (k : List Key) : Bool := decide (k.head? = some (Sum.inl (n : Int)))
def foundM (w : Wd) (n p wd c : Nat) : Org := (freeO w n p wd c).filter fun q => isOf n q.1

/-! ### distances -/
def numRefsOf (j : Nat) (d : Dd) : List (Int × Int × (Str × Int)) :=
  (d.goal.toList.map fun r => ((j : Int), (-1 : Int), r)) ++ ((List.range d.loads.length).map fun (k : Nat) => ((j : Int), ((k : Nat) : Int), d.loads.getD k (Str.empty, 0)))
def numRefs (w : Wd) : List (Int × Int × (Str × Int)) := (List.range w.deeds.length).flatMap fun j => numRefsOf j (deedAt w j)
def dist (s a b : Int) : Option Int := if (a - b).fmod s = 0 then some ((a - b).fdiv s) else none
def meetOf (w : Wd) (one other : Int × Int × (Str × Int)) : Option (List Int) :=
  if one.2.2.1 = other.2.2.1 ∧ (one.2.1 = -1 ∨ other.2.1 = -1) then
    (dist (strideOf w one.2.2.1) one.2.2.2 other.2.2.2).map fun d => [one.1, one.2.1, other.1, other.2.1, d]
  else none
def meetRow (w : Wd) (a : Nat) : List (List Int) := ((numRefs w).drop (a + 1)).filterMap fun other => meetOf w ((numRefs w).getD a (0, 0, (Str.empty, 0))) other
def meetsM (w : Wd) : List (List Int) := (List.range (numRefs w).length).flatMap fun a => meetRow w a
def distOf (r : List Int) : Int := r.getD 4 0
def absI (n : Int) : Int := if n < 0 then -n else n
def maxI (m n : Int) : Int := if n > m then n else m
def reachM (w : Wd) : Int := ((meetsM w).map fun r => absI (distOf r)).foldl maxI 0
/-- the law's -/
def spots (w : Wd) : List ((Str × Int) × Bool) := w.deeds.flatMap fun d => (d.loads.map fun r => (r, false)) ++ d.goal.toList.map fun r => (r, true)
def farOf (w : Wd) (one other : (Str × Int) × Bool) : Option Int :=
  if one.1.1 = other.1.1 ∧ (one.2 = true ∨ other.2 = true) ∧ (one.1.2 - other.1.2).fmod (strideOf w one.1.1) = 0 then some ((one.1.2 - other.1.2).fdiv (strideOf w one.1.1)) else none
def farVals (w : Wd) : List Int := (spots w).flatMap fun one => (spots w).filterMap fun other => farOf w one other
def farM (w : Wd) : Int := (farVals w).foldl maxI 0

/-! ### the bad places -/
def topM (w : Wd) : Nat := (max 2 (2 * reachM w + 1)).toNat
def countM (w : Wd) (wd : Nat) : Nat := 2 * wd + 2 * (reachM w).toNat
def rightAt (w : Wd) (n p wd c : Nat) : Bool := (foundM w n p wd c).all fun q => decide (getA (plainO w c) q.1 = some q.2)
def rightW (w : Wd) (n p wd : Nat) : Bool := (List.range (countM w wd + 1)).all fun c => rightAt w n p wd c
def rightP (w : Wd) (n p : Nat) : Bool := (List.range (topM w)).all fun a => rightW w n p (a + 1)
def pairsM (w : Wd) : List (Nat × Nat) := (List.range w.deeds.length).flatMap fun n => (List.range (n + 1)).map fun p => (n, p)
def badM (w : Wd) : List (Nat × Nat) := (pairsM w).filter fun q => !rightP w q.1 q.2
end VW

set_option maxHeartbeats 4000000
/-! How plain data stands in the heap; what is kept when the heap grows. -/
namespace VW
open PySem L2

/-- item by item -/
def All2 {α β : Type} (R : α → β → Hp → Prop) (H : Hp) : List α → List β → Prop
  | [], [] => True
  | x :: xs, v :: vs => R x v H ∧ All2 R H xs vs
  | _, _ => False
section
variable {α β γ : Type} {R : α → β → Hp → Prop} {H H' : Hp}
theorem All2.length : ∀ {xs : List α} {vs : List β}, All2 R H xs vs → xs.length = vs.length
  | [], [], _ => rfl
  | x :: xs, v :: vs, h => by rw [List.length_cons, List.length_cons, All2.length h.2]
  | [], _ :: _, h => h.elim
  | _ :: _, [], h => h.elim
theorem All2.get : ∀ {xs : List α} {vs : List β} {i : Nat} {x : α}, All2 R H xs vs → xs[i]? = some x → ∃ v, vs[i]? = some v ∧ R x v H
  | [], _, i, x, _, e => by simp at e
  | y :: xs, v :: vs, 0, x, h, e => by
    simp at e
    subst e
    exact ⟨v, by simp, h.1⟩
  | y :: xs, v :: vs, i + 1, x, h, e => by
    obtain ⟨u, h1, h2⟩ := All2.get (i := i) h.2 (by simpa using e)
    exact ⟨u, by simpa using h1, h2⟩
  | _ :: _, [], _, _, h, _ => h.elim
theorem All2.getR : ∀ {xs : List α} {vs : List β} {i : Nat} {v : β}, All2 R H xs vs → vs[i]? = some v → ∃ x, xs[i]? = some x ∧ R x v H
  | _, [], i, x, _, e => by simp at e
  | y :: xs, v :: vs, 0, x, h, e => by
    simp at e
    subst e
    exact ⟨y, by simp, h.1⟩
  | y :: xs, v :: vs, i + 1, x, h, e => by
    obtain ⟨u, h1, h2⟩ := All2.getR (i := i) h.2 (by simpa using e)
    exact ⟨u, by simpa using h1, h2⟩
  | [], _ :: _, _, _, h, _ => h.elim
theorem All2.append : ∀ {xs ys : List α} {vs ws : List β}, All2 R H xs vs → All2 R H ys ws → All2 R H (xs ++ ys) (vs ++ ws)
  | [], _, [], _, _, h => h
  | _ :: _, _, _ :: _, _, h, g => ⟨h.1, All2.append h.2 g⟩
  | [], _, _ :: _, _, h, _ => h.elim
  | _ :: _, _, [], _, h, _ => h.elim
theorem All2.snoc {xs : List α} {vs : List β} {x : α} {v : β} (h : All2 R H xs vs) (g : R x v H) : All2 R H (xs ++ [x]) (vs ++ [v]) := h.append ⟨g, True.intro⟩
theorem All2.imp {R' : α → β → Hp → Prop} (k : ∀ x v, R x v H → R' x v H') : ∀ {xs : List α} {vs : List β}, All2 R H xs vs → All2 R' H' xs vs
  | [], [], _ => True.intro
  | _ :: _, _ :: _, h => ⟨k _ _ h.1, All2.imp k h.2⟩
  | [], _ :: _, h => h.elim
  | _ :: _, [], h => h.elim
theorem All2.take : ∀ {xs : List α} {vs : List β} (n : Nat), All2 R H xs vs → All2 R H (xs.take n) (vs.take n)
  | [], [], n, _ => by simp [All2]
  | _ :: _, _ :: _, 0, h => by simp [All2]
  | _ :: _, _ :: _, n + 1, h => ⟨h.1, All2.take n h.2⟩
  | [], _ :: _, _, h => h.elim
  | _ :: _, [], _, h => h.elim
theorem All2.drop : ∀ {xs : List α} {vs : List β} (n : Nat), All2 R H xs vs → All2 R H (xs.drop n) (vs.drop n)
  | [], [], n, _ => by simp [All2]
  | _ :: _, _ :: _, 0, h => h
  | _ :: _, _ :: _, n + 1, h => All2.drop n h.2
  | [], _ :: _, _, h => h.elim
  | _ :: _, [], _, h => h.elim
theorem All2.nil_inv {vs : List β} (h : All2 R H [] vs) : vs = [] := by
  cases vs with
  | nil => rfl
  | cons _ _ => exact h.elim
theorem All2.cons_inv {x : α} {xs : List α} {vs : List β} (h : All2 R H (x :: xs) vs) : ∃ v vs', vs = v :: vs' ∧ R x v H ∧ All2 R H xs vs' := by
  cases vs with
  | nil => exact h.elim
  | cons v vs' => exact ⟨v, vs', rfl, h.1, h.2⟩
theorem All2.mapL {f : γ → α} : ∀ {xs : List γ} {vs : List β}, All2 R H (xs.map f) vs ↔ All2 (fun x v H => R (f x) v H) H xs vs
  | [], [] => Iff.rfl
  | _ :: _, _ :: _ => ⟨fun h => ⟨h.1, All2.mapL.mp h.2⟩, fun h => ⟨h.1, All2.mapL.mpr h.2⟩⟩
  | [], _ :: _ => Iff.rfl
  | _ :: _, [] => Iff.rfl
end

/-- how a datum stands in the heap -/
abbrev Rp (α : Type) := α → V → Hp → Prop
class Mono {α : Type} (R : Rp α) : Prop where
  mono : ∀ {a : α} {v : V} {H H' : Hp}, Same H H' → R a v H → R a v H'
def rInt : Rp Int := fun n v _ => v = .int n
def rNat : Rp Nat := fun n v _ => v = .int (n : Int)
def rStr : Rp Str := fun x v _ => v = .str x
def rBl : Rp Bool := fun b v _ => v = .bl b
def rOpt {α : Type} (R : Rp α) : Rp (Option α) := fun o v H => match o with
  | none => v = .non
  | some x => R x v H
/-- a list, a tuple -/
def rL {α : Type} (R : Rp α) : Rp (List α) := fun xs v H => ∃ a vs, v = .ref a ∧ H a = some (.lst vs) ∧ All2 R H xs vs
def rT {α : Type} (R : Rp α) : Rp (List α) := fun xs v H => ∃ a vs, v = .ref a ∧ H a = some (.tup vs) ∧ All2 R H xs vs
/-- a tuple of the written values -/
def TupAt (H : Hp) (v : V) (vs : List V) : Prop := ∃ a, v = .ref a ∧ H a = some (.tup vs)
def LstAt (H : Hp) (v : V) (vs : List V) : Prop := ∃ a, v = .ref a ∧ H a = some (.lst vs)
def rRef : Rp (Str × Int) := fun p v H => TupAt H v [.str p.1, .int p.2]
def rNN : Rp (Nat × Nat) := fun p v H => TupAt H v [.int (p.1 : Int), .int (p.2 : Int)]
def rEv : Rp Ev := fun e v H => TupAt H v [.str e.w, .int (e.j : Int), .int (e.i : Int), .int (e.k : Int)]
/-- a tuple of ints -/
def rIs : Rp (List Int) := fun ns v H => TupAt H v (ns.map V.int)
/-- the law's data -/
def rRow : Rp (Str × Int) := fun p v H => LstAt H v [.str p.1, .int p.2]
def rDeed : Rp Dd := fun d v H => ∃ g l, LstAt H v [.str d.name, g, l] ∧ rOpt rRef d.goal g H ∧ rL rRef d.loads l H
def rWorld : Rp Wd := fun w v H => ∃ r d, LstAt H v [r, d] ∧ rL rRow w.rows r H ∧ rL rDeed w.deeds d H
/-- a pair of a ref and a flag -/
def rSpot : Rp ((Str × Int) × Bool) := fun p v H => ∃ r, TupAt H v [r, .bl p.2] ∧ rRef p.1 r H
/-- a numbered ref -/
def rNum : Rp (Int × Int × (Str × Int)) := fun p v H => ∃ r, TupAt H v [.int p.1, .int p.2.1, r] ∧ rRef p.2.2 r H
/-- the program's objects -/
def lineF (p : Str × Int) : List (Str × V) := [("kept_name", .str p.1), ("kept_stride", .int p.2)]
def stmtF (d : Dd) (g s : V) : List (Str × V) := [("kept_name", .str d.name), ("kept_target", g), ("kept_sources", s)]
def loopF (l s t : V) : List (Str × V) := [("kept_lines", l), ("kept_statements", s), ("strides", t)]
def rLine (C : Addr) : Rp (Str × Int) := fun p v H => ∃ a dx, v = .ref a ∧ H a = some (.ins C dx (lineF p))
def rStmt (C : Addr) : Rp Dd := fun d v H => ∃ a dx g s, v = .ref a ∧ H a = some (.ins C dx (stmtF d g s)) ∧ rOpt rRef d.goal g H ∧ rT rRef d.loads s H
def strK (rows : List (Str × Int)) : List (Key × V) := rows.map fun r => (Sum.inr r.1, V.int r.2)
def rLoop (CL CS C : Addr) : Rp Wd := fun w v H => ∃ a dx l s t, v = .ref a ∧ H a = some (.ins C dx (loopF l s (.ref t))) ∧ rT (rLine CL) w.rows l H ∧ rT (rStmt CS) w.deeds s H ∧ H t = some (.dK (strK w.rows))
/-- dicts with tuple keys -/
def KvR {β : Type} (R : Rp β) : (List Key × β) → (List Key × V) → Hp → Prop := fun p q H => p.1 = q.1 ∧ R p.2 q.2 H
def rD {β : Type} (R : Rp β) : Rp (List (List Key × β)) := fun l v H => ∃ a kvs, v = .ref a ∧ H a = some (.dT kvs) ∧ All2 (KvR R) H l kvs

section
variable {H H' : Hp} {v : V} {vs : List V}
theorem TupAt.mono (s : Same H H') (h : TupAt H v vs) : TupAt H' v vs := let ⟨a, e, h⟩ := h; ⟨a, e, s _ _ h⟩
theorem LstAt.mono (s : Same H H') (h : LstAt H v vs) : LstAt H' v vs := let ⟨a, e, h⟩ := h; ⟨a, e, s _ _ h⟩
end
section
variable {α : Type} {R : Rp α} [Mono R]
instance : Mono rInt := ⟨fun _ h => h⟩
instance : Mono rNat := ⟨fun _ h => h⟩
instance : Mono rStr := ⟨fun _ h => h⟩
instance : Mono rBl := ⟨fun _ h => h⟩
instance : Mono (rOpt R) := ⟨fun {a v H H'} s h => by
  cases a with
  | none => exact h
  | some x => exact Mono.mono (R := R) s h⟩
theorem All2.mono {H H' : Hp} {xs : List α} {vs : List V} (s : Same H H') (h : All2 R H xs vs) : All2 R H' xs vs := h.imp fun _ _ q => Mono.mono s q
instance : Mono (rL R) := ⟨fun s h => let ⟨a, vs, e, h1, h2⟩ := h; ⟨a, vs, e, s _ _ h1, h2.mono s⟩⟩
instance : Mono (rT R) := ⟨fun s h => let ⟨a, vs, e, h1, h2⟩ := h; ⟨a, vs, e, s _ _ h1, h2.mono s⟩⟩
instance : Mono rRef := ⟨fun s h => TupAt.mono s h⟩
instance : Mono rNN := ⟨fun s h => TupAt.mono s h⟩
instance : Mono rEv := ⟨fun s h => TupAt.mono s h⟩
instance : Mono rIs := ⟨fun s h => TupAt.mono s h⟩
instance : Mono rRow := ⟨fun s h => LstAt.mono s h⟩
instance : Mono rDeed := ⟨fun s h => let ⟨g, l, h1, h2, h3⟩ := h; ⟨g, l, h1.mono s, Mono.mono s h2, Mono.mono s h3⟩⟩
instance : Mono rWorld := ⟨fun s h => let ⟨g, l, h1, h2, h3⟩ := h; ⟨g, l, h1.mono s, Mono.mono s h2, Mono.mono s h3⟩⟩
instance : Mono rSpot := ⟨fun s h => let ⟨r, h1, h2⟩ := h; ⟨r, h1.mono s, Mono.mono s h2⟩⟩
instance : Mono rNum := ⟨fun s h => let ⟨r, h1, h2⟩ := h; ⟨r, h1.mono s, Mono.mono s h2⟩⟩
instance {C : Addr} : Mono (rLine C) := ⟨fun s h => let ⟨a, dx, e, h1⟩ := h; ⟨a, dx, e, s _ _ h1⟩⟩
instance {C : Addr} : Mono (rStmt C) := ⟨fun s h => let ⟨a, dx, g, t, e, h1, h2, h3⟩ := h; ⟨a, dx, g, t, e, s _ _ h1, Mono.mono s h2, Mono.mono s h3⟩⟩
instance {CL CS C : Addr} : Mono (rLoop CL CS C) := ⟨fun s h => let ⟨a, dx, l, t, d, e, h1, h2, h3, h4⟩ := h; ⟨a, dx, l, t, d, e, s _ _ h1, Mono.mono s h2, Mono.mono s h3, s _ _ h4⟩⟩
theorem KvR.mono {H H' : Hp} {p : List Key × α} {q : List Key × V} (s : Same H H') (h : KvR R p q H) : KvR R p q H' := ⟨h.1, Mono.mono s h.2⟩
instance : Mono (rD R) := ⟨fun s h => let ⟨a, kvs, e, h1, h2⟩ := h; ⟨a, kvs, e, s _ _ h1, h2.imp fun _ _ q => q.mono s⟩⟩
end

/-! ### heaps -/
theorem same_new {H : Hp} {p : Addr} {o : HO} (h : H p = none) : Same H (upd H p o) := fun b x e => by
  rw [upd_ne (ne_of_none e h)]
  exact e
theorem Same.new {H H' : Hp} {p : Addr} {o : HO} (s : Same H H') (h : H' p = none) : Same H (upd H' p o) := s.trans (same_new h)
/-- an object made since then is changed -/
theorem Same.put {H H' : Hp} {p : Addr} {o : HO} (s : Same H H') (h : H p = none) : Same H (upd H' p o) := fun b x e => by
  rw [upd_ne (ne_of_none e h)]
  exact s _ _ e
theorem Same.none_of {H H' : Hp} {p : Addr} (s : Same H H') (h : H' p = none) : H p = none := s.free h
/-- all but a is as it was -/
def SameBut (a : Addr) (H H' : Hp) : Prop := ∀ b o, b ≠ a → H b = some o → H' b = some o
theorem SameBut.refl {a : Addr} {H : Hp} : SameBut a H H := fun _ _ _ h => h
theorem SameBut.trans {a : Addr} {H H1 H2 : Hp} (s : SameBut a H H1) (t : SameBut a H1 H2) : SameBut a H H2 := fun b o n h => t b o n (s b o n h)
theorem Same.but {a : Addr} {H H' : Hp} (s : Same H H') : SameBut a H H' := fun b o _ h => s b o h
theorem SameBut.put {a : Addr} {H H' : Hp} {o : HO} (s : SameBut a H H') : SameBut a H (upd H' a o) := fun b x n e => by
  rw [upd_ne n]
  exact s b x n e
theorem SameBut.new {a p : Addr} {H H' : Hp} {o : HO} (s : SameBut a H H') (h : H' p = none) : SameBut a H (upd H' p o) := s.trans (Same.but (same_new h))

/-! ### plain lists of plain values -/
theorem all2_int {H : Hp} : ∀ {ns : List Int} {vs : List V}, All2 rInt H ns vs ↔ vs = ns.map V.int
  | [], [] => ⟨fun _ => rfl, fun _ => True.intro⟩
  | n :: ns, v :: vs => ⟨fun h => by
      have h1 : v = .int n := h.1
      rw [h1, all2_int.mp h.2, List.map_cons], fun h => by
      rw [List.map_cons] at h
      injection h with h1 h2
      exact ⟨h1, all2_int.mpr h2⟩⟩
  | [], _ :: _ => ⟨fun h => h.elim, fun h => by simp at h⟩
  | _ :: _, [] => ⟨fun h => h.elim, fun h => by simp at h⟩
theorem all2_str {H : Hp} : ∀ {ns : List Str} {vs : List V}, All2 rStr H ns vs ↔ vs = ns.map V.str
  | [], [] => ⟨fun _ => rfl, fun _ => True.intro⟩
  | n :: ns, v :: vs => ⟨fun h => by
      have h1 : v = .str n := h.1
      rw [h1, all2_str.mp h.2, List.map_cons], fun h => by
      rw [List.map_cons] at h
      injection h with h1 h2
      exact ⟨h1, all2_str.mpr h2⟩⟩
  | [], _ :: _ => ⟨fun h => h.elim, fun h => by simp at h⟩
  | _ :: _, [] => ⟨fun h => h.elim, fun h => by simp at h⟩
end VW

set_option maxHeartbeats 4000000
/-! Rules that the hand layer lacks. -/
namespace VW
open PySem PySem.Spec PyProof.Rows L2
section
variable {X : Cx} {CX : CXT} {k : Nat} {C C2 f : Addr} {fd : FuncData} {ps : List Str} {sp : Sp} {E : XK}

/-- len(o), o an instance whose class has the def f as __len__ -/
def rLenO (C : Addr) (sp : Sp) (E : XK) : List V → Hp → VK → Prop := fun vs H Q => ∃ a dx fs, vs = [.ref a] ∧ H a = some (.ins C dx fs) ∧ sp [.ref a] H (fun v H' => ∃ n : Nat, v = .int (n : Int) ∧ n < 2 ^ 63 ∧ Q v H') E
theorem call_lenO (hs : PySem.W.findIn X.K (.ref C) "__len__" = some (some (.ref f))) (hf : PySem.W.isFn X.K (.ref f) = true) (F : FnOk X.prog X.w X.K X.mg X.base CX k f fd ps sp) (hr : Room (k + 1) X.A) (hb : Binds X.K fd ps [])
    (hx : Passes CX X E) : CallR X (.builtin "len") (rLenO C sp E) := by
  intro pins s σ H vs us Q I r h
  obtain ⟨a, dx, fs, rfl, ea, h⟩ := h
  rw [Vals.ref1 r]
  obtain ⟨mA, O, _⟩ := ins_get I.hok ea
  obtain ⟨od, J, _⟩ := O.look
  obtain ⟨m, hF⟩ := I.fr
  have hl := F.len _ _ _ _ h
  refine PySem.W.len_K hF I.ok.mod.kin J hs hf (wpAny_call (codeAny_mono (F.run X.A.in1 X.stack s H ⟨[.ref a], []⟩ [.ref a] [.ref a] _ E hr.in1 I.env0.in1 (by simpa using hb s [.ref a] I.kIn (by simpa using hl)) (.cons rfl .nil) h) fun r s' hq => ?_))
  cases r with
  | error er => exact hx pins σ H s er s' I hq
  | ok fl =>
    cases fl with
    | ret u =>
      obtain ⟨v, H', I3, rv, n, ev, hn, q3⟩ := I.after hq
      subst ev
      obtain ⟨t, rfl⟩ := (show ∃ t, u = Value.int n t from rv)
      exact ⟨⟨by omega, by omega⟩, .int n, H', I3.tok _, ⟨_, rfl⟩, q3⟩
    | next => exact False.elim hq
    | brk => exact False.elim hq
    | cont => exact False.elim hq
end
end VW

set_option maxHeartbeats 4000000
namespace VW
open PySem PySem.Spec PyProof.Rows L2

/-! ### o + x, o of a class with the def f as __add__, x of another class that has no __add__ -/
section
variable {prog : Program} {w : World} {A : Around} {E : Value → Shared → Prop} {s : Shared} {K : PySem.W.Frag} {x b C C2 L f : Addr} {h0 : Heap} {m : Str → Option Value} {ox ob : Obj} {od od2 : Option Obj}
/-- a class right below object -/
def mroTwo (K : PySem.W.Frag) (C : Addr) : Bool := (PySem.W.clsIn K C).any fun cd => cd.mro == [.ref C, .type "object"]
theorem noFillO {M : Model} {h : Heap} {nm : String} (Y : K.In h) (hm : mroTwo K C2 = true) (h1 : PySem.W.findIn K (.ref C2) (PySem.dunder nm) = some none) (h2 : PySem.W.findIn K (.ref C2) (dunderR nm) = some none)
    (h3 : PySem.W.findIn K (.type "object") (PySem.dunder nm) = some none) (h4 : PySem.W.findIn K (.type "object") (dunderR nm) = some none) : PySem.W.Looks M h (fillsNumberSlot (.ref C2) nm) false := by
  obtain ⟨cd, hcd, hmm⟩ := PySem.W.any_some hm
  have hm2 : cd.mro = [.ref C2, .type "object"] := beq_iff_eq.mp hmm
  intro A Q E s k q
  have Lm : PySem.W.Looks M h (mroOf (.ref C2)) cd.mro := (PySem.W.looks_clsIn Y hcd).andThen (f := fun cd => pure cd.mro) .now
  have Lm' := Lm.keeps k
  obtain ⟨hh, g, d, tt, os⟩ := s
  have Y' : K.In hh := Y.keeps k
  have L1 : PySem.W.Looks M hh (typeLookup (.ref C2) (PySem.dunder nm)) none := PySem.W.looks_findIn Y' h1
  have L2 : PySem.W.Looks M hh (typeLookup (.ref C2) (dunderR nm)) none := PySem.W.looks_findIn Y' h2
  have L3 : PySem.W.Looks M hh (typeLookup (.type "object") (PySem.dunder nm)) none := PySem.W.looks_findIn Y' h3
  have L4 : PySem.W.Looks M hh (typeLookup (.type "object") (dunderR nm)) none := PySem.W.looks_findIn Y' h4
  unfold fillsNumberSlot
  refine wpAny_bind (Lm'.at ?_)
  rw [hm2, List.anyM_cons]
  refine wpAny_bind ?_
  repeat lk
  exact q
open PySem.W in
theorem binop_other {op : Operator} {Q : Value → Shared → Prop} (F : Fr h0 L s.heap m) (X0 : K.In h0) (I : InstAt s.heap x ox C od) (J : InstAt s.heap b ob C2 od2) (hne : C ≠ C2) (hc : selfFirst K C = true)
    (hs : findIn K (.ref C) (PySem.dunder op.info.2) = some (some (.ref f))) (hf : isFn K (.ref f) = true) (hm : mroTwo K C2 = true)
    (h1 : findIn K (.ref C2) (PySem.dunder op.info.2) = some none) (h2 : findIn K (.ref C2) (dunderR op.info.2) = some none) (h3 : findIn K (.type "object") (PySem.dunder op.info.2) = some none)
    (h4 : findIn K (.type "object") (dunderR op.info.2) = some none)
    (h : wpAny (model prog w) A (call (.ref f) [.ref x, .ref b]) (PySem.W.CmpBack Q) E s) : wpAny (model prog w) A (binaryOp op (.ref x) (.ref b)) Q E s := by
  have Y := X0.keeps F.keep
  obtain ⟨cd, rest, hcd, hmr⟩ := ksp_first hc
  rcases hi : op.info with ⟨sym, nm⟩
  rw [hi] at hs h1 h2 h3 h4
  dsimp only at hs h1 h2 h3 h4
  have one := ksp_try Y I hs hf h
  obtain ⟨hh, g, d, tt, os⟩ := s
  have L1 : Looks (model prog w) hh (typeOf (.ref x)) (.ref C) := I.type
  have L2 : Looks (model prog w) hh (typeOf (.ref b)) (.ref C2) := J.type
  have L3 : Looks (model prog w) hh (fillsNumberSlot (.ref C) nm) true := fills_K Y hcd hmr hs
  have L4 : Looks (model prog w) hh (fillsNumberSlot (.ref C2) nm) false := noFillO Y hm h1 h2 h3 h4
  have hnb : (Value.ref C == Value.ref C2) = false := Bool.eq_false_iff.mpr fun q => by
    have e := beq_iff_eq.mp q
    injection e with e
    exact hne e
  simp only [binaryOp, hi]
  refine wpAny_holding (wpAny_bind ?_)
  unfold binaryOp1
  refine wpAny_bind (L1.at (wpAny_bind (L2.at (wpAny_bind (L3.at ?_)))))
  simp only [hnb, Bool.false_eq_true, if_false]
  ksp_lk
  refine wpAny_mono one (fun r s' hr' => ?_) fun _ _ e => e
  obtain ⟨v, rfl, hq⟩ := hr'
  ksp_lk
  exact hq
end
section
variable {X : Cx} {CX : CXT} {k : Nat} {C C2 f : Addr} {fd : FuncData} {ps : List Str} {sp : Sp} {E : XK}
def rAddO (C C2 : Addr) (sp : Sp) (E : XK) : R2 := fun x y H Q => ∃ a dx fs b dy gs, x = .ref a ∧ y = .ref b ∧ H a = some (.ins C dx fs) ∧ H b = some (.ins C2 dy gs) ∧ sp [.ref a, .ref b] H (fun v H' => (∃ p, v = .ref p) ∧ Q v H') E
theorem op_addO (hne : C ≠ C2) (hc : PySem.W.selfFirst X.K C = true) (hs : PySem.W.findIn X.K (.ref C) "__add__" = some (some (.ref f))) (hf : PySem.W.isFn X.K (.ref f) = true) (hm : mroTwo X.K C2 = true)
    (h1 : PySem.W.findIn X.K (.ref C2) "__add__" = some none) (h2 : PySem.W.findIn X.K (.ref C2) "__radd__" = some none) (h3 : PySem.W.findIn X.K (.type "object") "__add__" = some none) (h4 : PySem.W.findIn X.K (.type "object") "__radd__" = some none)
    (F : FnOk X.prog X.w X.K X.mg X.base CX k f fd ps sp) (hr : Room k X.A) (hb : Binds X.K fd ps []) (hx : Passes CX X E) : OpR X (binaryOp .Add) (rAddO C C2 sp E) := by
  intro pins s σ H x y v u Q I rx ry h
  obtain ⟨a, dx, fs, b, dy, gs, rfl, rfl, ea, eb, h⟩ := h
  cases rx
  cases ry
  obtain ⟨mA, O, _⟩ := ins_get I.hok ea
  obtain ⟨od, J, _⟩ := O.look
  obtain ⟨mB, O2, _⟩ := ins_get I.hok eb
  obtain ⟨od2, J2, _⟩ := O2.look
  obtain ⟨m, hF⟩ := I.fr
  have hl := F.len _ _ _ _ h
  refine binop_other (op := .Add) hF I.ok.mod.kin J J2 hne hc hs hf hm h1 h2 h3 h4 (wpAny_call (codeAny_mono (F.run X.A X.stack s H ⟨[.ref a, .ref b], []⟩ [.ref a, .ref b] [.ref a, .ref b] _ E hr I.env0 (by simpa using hb s [.ref a, .ref b] I.kIn (by simpa using hl)) (.cons rfl (.cons rfl .nil)) h) fun r s' hq => ?_))
  cases r with
  | error er => exact hx pins σ H s er s' I hq
  | ok fl =>
    cases fl with
    | ret w' =>
      obtain ⟨z, H', I3, rz, ⟨p, ez⟩, q3⟩ := I.after hq
      subst ez
      cases rz
      exact ⟨.ref p, H', I3, rfl, q3⟩
    | next => exact False.elim hq
    | brk => exact False.elim hq
    | cont => exact False.elim hq

/-! ### C(e, .., *y), by a positional promise of its __init__ -/
variable {e : Expr} {es : List Expr} {x : Str} {p pos : Pos} {t : TA}
theorem pe_makeS {spR : Sp} (M : Mk X.K C f) (F : L2.FnR X.prog X.w X.K X.mg X.base CX k f spR) (hr : Room (k + 1) X.A) (hg : Gl X x) (hm : X.mg x = some (.ref C)) (hx : Passes CX X E) (ha : PA X (e :: es) t) (hdb : (x == ("__debug__" : Str)) = false := by decide)
    (he : starEach (e :: es) X.env = (false, eval e X.env) :: starEach es X.env := by rfl) (hst : (backTo pos (starEach es X.env)).any (·.1) = true := by rfl) : PE X (.Call (.Name x p) (e :: es) [] pos) (StX.tMakeR C spR E t) := by
  refine ⟨fun pins s σ H Q I h => wpAny_Call_Name_kw (ld_glob I hg hm ?_ hdb)⟩
  exact PySem.W.callWith_S2 (h₀ := X.base) I.ok.mod.kin M.kp (thn (ha.run pos pins s σ H _ I h) fun us s1 ⟨vs, H1, I1, r, q⟩ => ⟨I1.kIn, StX.run_makeR M F hr hx I1 r q⟩) he hst

/-! ### texts -/
/-- z * n -/
def rMulS : R2 := fun x y H Q => ∃ (z : Str) (n : Int), x = .str z ∧ y = .int n ∧ 0 ≤ n ∧ n ≤ 1000 ∧ z.length ≤ 1000 ∧ ∀ r : Str, r.cps.toList = (List.replicate n.toNat z.cps.toList).flatten → Q (.str r) H
theorem foldl_app (a : Array Nat) : ∀ (n : Nat) (acc : Array Nat), ((List.replicate n a).foldl (· ++ ·) acc).toList = acc.toList ++ (List.replicate n a.toList).flatten
  | 0, acc => by simp
  | n + 1, acc => by
    rw [List.replicate_succ, List.foldl_cons, foldl_app a n]
    simp [List.replicate_succ, List.append_assoc]
theorem op_mulS : OpR X (binaryOp .Mult) rMulS := by
  intro pins s σ H x y v u Q I rx ry h
  obtain ⟨z, n, rfl, rfl, h0, h1, hz, q⟩ := h
  obtain ⟨t, rfl⟩ := rx
  obtain ⟨t', rfl⟩ := ry
  have hln : z.length = z.cps.size := rfl
  have hm : z.length * n.toNat ≤ 1000000 := by
    have a1 : z.length * n.toNat ≤ 1000 * 1000 := Nat.mul_le_mul hz (by omega)
    omega
  have hs : sizeLine = 16777216 := sizeLine_eq
  refine PySem.P.mul_str (by rw [decide_eq_false (by omega), decide_eq_false (by omega)]; rfl) (fun h2 _ => ?_) (fun h2 _ => ?_) ?_
  · have h3 : (1000 : Int) ≤ (2 ^ 63 - 1) / n := Int.le_ediv_of_mul_le (by omega) (by omega)
    omega
  · unfold Builtin.Str.tooLong
    exact decide_eq_false (by omega)
  · by_cases c1 : n < 1
    · rw [if_pos c1]
      refine ⟨by decide, .str Str.empty, H, I.tok _, ⟨_, rfl⟩, q _ ?_⟩
      have e : n.toNat = 0 := by omega
      rw [e]
      rfl
    · rw [if_neg c1]
      by_cases c2 : (n == 1 || z.length == 0) = true
      · rw [if_pos c2]
        refine ⟨.str z, H, I, ⟨_, rfl⟩, q _ ?_⟩
        rcases Bool.or_eq_true_iff.mp c2 with c | c
        · have e : n = 1 := eq_of_beq c
          subst e
          simp
        · have e : z.cps.size = 0 := eq_of_beq c
          have e2 : z.cps.toList = [] := by
            apply List.eq_nil_of_length_eq_zero
            simpa using e
          rw [e2]
          induction n.toNat with
          | zero => rfl
          | succ k ih => rw [List.replicate_succ, List.flatten_cons, ← ih] <;> rfl
      · rw [if_neg c2]
        have e := foldl_app z.cps n.toNat #[]
        refine ⟨?_, .str _, H, I.tok _, ⟨_, rfl⟩, q _ (by simpa using e)⟩
        have e2 : ((List.replicate n.toNat z.cps).foldl (· ++ ·) #[]).size = n.toNat * z.length := by
          rw [← Array.length_toList, e, hln]
          simp [List.length_flatten]
        show ((List.replicate n.toNat z.cps).foldl (· ++ ·) #[]).size ≤ _
        rw [e2, Nat.mul_comm, hs]
        omega
/-- list(z), its signs -/
def rListS : List V → Hp → VK → Prop := fun vs H Q => ∃ z : Str, vs = [.str z] ∧ z.length ≤ 1000 ∧ ∀ p, H p = none → Q (.ref p) (upd H p (.lst (z.cps.toList.map fun c => V.str ⟨#[c]⟩)))
theorem call_listS (hc : X.calm = true) : CallR X (.type "list") rListS := by
  intro pins s σ H vs us Q I r h
  obtain ⟨z, rfl, hz, q⟩ := h
  cases r with
  | cons r rr =>
    cases rr
    obtain ⟨t, rfl⟩ := r
    have hs : sizeLine = 16777216 := sizeLine_eq
    have hln : z.length = z.cps.size := rfl
    refine PySem.call_list_str (I.ok.hd hc) z t (hn := by omega) fun h' tk acc c hk hS hacc => ?_
    have hn : H s.heap.objs.size = none := I.hok.fresh (Nat.le_refl _)
    refine ⟨.ref s.heap.objs.size, _, I.laid (a := s.heap.objs.size) (o := .lst (z.cps.toList.map fun c => V.str ⟨#[c]⟩)) (t' := tk) hk (Nat.le_refl _) ?_, rfl, q _ hn⟩
    refine ⟨by simp; omega, acc.toList, c, ?_, by simpa using hS⟩
    have hl : acc.toList.length = (z.cps.toList.map fun c => V.str ⟨#[c]⟩).length := by
      simp
      exact hacc.1
    refine vals_of_at hl.symm fun j v u hv hu => ?_
    obtain ⟨c', t', e1, rfl⟩ := hacc.2 j u (by simpa using hu)
    rw [List.getElem?_map] at hv
    simp only [Array.getElem?_toList, e1, Option.map_some, Option.some.injEq] at hv
    subst hv
    exact ⟨_, rfl⟩

/-! ### sorted of a list of tuples of ints: some arrangement -/
/-- sorted(xs), xs a list of tuples of ints -/
def rSortTs (K : PySem.W.Frag) : List V → Hp → VK → Prop := fun vs H Q => ∃ (a : Addr) (xs : List V) (nss : List (List Int)), vs = [V.ref a] ∧ SqL K H a xs ∧ All2 rIs H nss xs ∧ (∀ ns ∈ nss, ns ≠ []) ∧
  ∀ (p : Addr) (ys : List V) (mss : List (List Int)), mss.Perm nss → All2 rIs H mss ys → H p = none → Q (.ref p) (upd H p (.lst ys))
theorem dp_ints {K : PySem.W.Frag} {H : Hp} : ∀ ns : List Int, DpAll K H (ns.map V.int) (ns.map PyData.int)
  | [] => .nil
  | n :: ns => .cons (.int n) (dp_ints ns)
theorem alike_ints : ∀ ns ms : List Int, PySem.W.alikeAll (ns.map PyData.int) (ms.map PyData.int) = true
  | [], _ => by simp [PySem.W.alikeAll]
  | _ :: _, [] => by simp [PySem.W.alikeAll]
  | n :: ns, m :: ms => by
    rw [List.map_cons, List.map_cons]
    simp only [PySem.W.alikeAll, PySem.W.alike, Bool.true_and]
    exact alike_ints ns ms
theorem depth_ints : ∀ ns : List Int, PyData.depthAll (ns.map PyData.int) = 0
  | [] => rfl
  | n :: ns => by
    rw [List.map_cons]
    show max (PyData.depth (.int n)) (PyData.depthAll (ns.map PyData.int)) = 0
    rw [depth_ints ns]
    rfl
def RvI (H : Hp) (u : Value) (ns : List Int) : Prop := ∃ t, u = .ref t ∧ H t = some (.tup (ns.map V.int))
theorem each_in {H : Hp} : ∀ {nss : List (List Int)} {xs : List V} {us : List Value}, All2 rIs H nss xs → Vals xs us → PySem.W.EachIs (RvI H) us nss
  | [], [], _, _, r => by cases r; exact .nil
  | ns :: nss, x :: xs, _, h, r => by
    cases r with
    | cons r rr =>
      obtain ⟨⟨t, rfl, e⟩, h2⟩ := h
      exact .cons ⟨t, r, e⟩ (each_in h2 rr)
  | [], _ :: _, _, h, _ => h.elim
  | _ :: _, [], _, h, _ => h.elim
theorem each_out {H : Hp} : ∀ {us : List Value} {mss : List (List Int)}, PySem.W.EachIs (RvI H) us mss → (∀ u ∈ us, ∃ a, u = Value.ref a) ∧ All2 rIs H mss (us.map bkV)
  | _, _, .nil => ⟨fun u hu => by simp at hu, True.intro⟩
  | _, _, .cons h t => by
    obtain ⟨i1, i2⟩ := each_out t
    obtain ⟨a, rfl, e⟩ := h
    exact ⟨fun u hu => by
      rcases List.mem_cons.mp hu with q | q
      · exact ⟨a, q⟩
      · exact i1 u q, ⟨a, rfl, e⟩, i2⟩
theorem each_imp {α β : Type} {R S : α → β → Prop} (k : ∀ a b, R a b → S a b) : ∀ {as : List α} {bs : List β}, PySem.W.EachIs R as bs → PySem.W.EachIs S as bs
  | _, _, .nil => .nil
  | _, _, .cons h t => .cons (k _ _ h) (each_imp k t)
theorem call_sortTs (hu : X.A.units + 64 < cLine) : CallR X (.builtin "sorted") (rSortTs X.K) := by
  intro pins s σ H vs us Q I r h
  obtain ⟨a, xs, nss, rfl, hs, hx, h0, q⟩ := h
  obtain ⟨its, rv, hl, hz⟩ := I.list hs
  rw [Vals.ref1 r]
  have e1 := each_in hx rv
  refine PySem.W.sorted_data (enc := fun ns : List Int => PyData.tuple (ns.map PyData.int)) hl.isList e1 (each_imp (fun u ns hu => ?_) e1) (fun d hd d' hd' => ?_) (.inl fun d hd => ?_) (by rw [hx.length]; exact hz) (fun ns hn => ?_) fun out ho eo => ?_
  · obtain ⟨t, rfl, e⟩ := hu
    exact Dp.reads I (.tuple (ns.map PyData.int)) (.ref t) (.ref t) (.tup (.inl (.inl e)) (dp_ints ns)) rfl
  · obtain ⟨ns, _, rfl⟩ := List.mem_map.mp hd
    obtain ⟨ms, _, rfl⟩ := List.mem_map.mp hd'
    show PySem.W.alikeAll (ns.map PyData.int) (ms.map PyData.int) = true
    exact alike_ints ns ms
  · obtain ⟨ns, hn, rfl⟩ := List.mem_map.mp hd
    cases ns with
    | nil => exact absurd rfl (h0 _ hn)
    | cons n r => exact ⟨_, _, rfl⟩
  · show X.A.units + 2 + (PyData.depthAll (ns.map PyData.int) + 1) < cLine
    rw [depth_ints]
    omega
  · obtain ⟨i1, i2⟩ := each_out eo
    obtain ⟨ep, he⟩ := PyProof.Rows.sortedAll_at s.heap its out.toArray
    have hlen : (out.map bkV).length ≤ sizeLine := by
      rw [List.length_map, ho, hx.length]
      exact hz
    exact ⟨.ref _, upd H (s.heap.objs.size + 1) (.lst (out.map bkV)), I.laid (t' := s.toks) (fun _ _ => PyProof.Rows.sortedAll_old) (Nat.le_succ _) ⟨hlen, out, ep, bkV_vals i1, he⟩, rfl,
      q _ _ _ (List.mergeSort_perm _ _) i2 (I.hok.fresh (Nat.le_succ _))⟩
/-- three parameters ahead of a star -/
theorem bind_star3 {B : List Value → Sem (List (Str × Value))} {p1 p2 p3 pv : Str} (h0 : ∀ a b c, B [a, b, c] = (newTuple [] >>= fun t => pure [(p1, a), (p2, b), (p3, c), (pv, t)]))
    (h1 : ∀ a b c r rs, B (a :: b :: c :: r :: rs) = (newTuple (r :: rs) >>= fun t => pure [(p1, a), (p2, b), (p3, c), (pv, t)])) :
    ∀ us rest : List Value, us.length = [p1, p2, p3].length → B (us ++ rest) = (newTuple rest >>= fun t => pure ([p1, p2, p3].zip us ++ [(pv, t)]))
  | [a, b, c], [], _ => h0 a b c
  | [a, b, c], r :: rs, _ => h1 a b c r rs
end
end VW

set_option maxHeartbeats 4000000
namespace VW
open PySem PySem.Spec PyProof.Rows L2

/-! ### {k: v for target in iter if ..} whose keys are tuples -/
section
variable {X : Cx}
/-- what d[y] = z asks of a dict with tuple keys, and the heap behind it -/
def PutT (H : Hp) (D : Addr) (y z : V) (N : Hp → Prop) : Prop := ∃ (kvs : List (List Key × V)) (k : List Key) (b : Addr), y = .ref b ∧ H b = some (.tup (k.map kV)) ∧ H D = some (.dT kvs) ∧ kvs.length < sizeLine ∧ N (upd H D (.dT (putK kvs k z)))
theorem putT_run {pins : List (Addr × Obj)} {σ : L2.St} {H : Hp} {s : Shared} {E : Value → Shared → Prop} {D : Addr} {y z : V} {u r : Value} {N : Hp → Prop} {Q : Unit → Shared → Prop} (hu : X.A.units + 1 < cLine) (I : Inv X pins σ H s) (ry : RelV y u) (rz : RelV z r)
    (h : PutT H D y z N) (q : ∀ H' s', Inv X pins σ H' s' → N H' → Q () s') : wpAny (model X.prog X.w) X.A (dictSet D u r) Q E s := by
  obtain ⟨kvs, k, b, rfl, eb, eD, hl, n⟩ := h
  cases (show u = Value.ref b from ry)
  obtain ⟨hz, hd, xs, rel, dd⟩ := dt_of I.hok eD
  have l1 : xs.length ≤ sizeLine := by
    rw [← Paired.length rel]
    exact hz
  refine wpAny_dictSet_heap (hsz := l1) (show (tupleKind (mixKind X.prog X.w)).room X.A from Nat.lt_of_succ_lt hu) (key_of I.hok eb) dd fun h' dd' hs => q _ _ ?_ n
  have l2 : (putK kvs k z).length ≤ sizeLine := Nat.le_trans (length_putK kvs k z) hl
  obtain ⟨ob, es, ep, g1, g2, g3, g4, _, g5⟩ := dd'
  refine d_write I (by rw [eD]; exact True.intro) hs ⟨ob, g1⟩ ⟨l2, hd, _, (rel.put k eb rz).keeps fun c ys ec => ?_, ob, es, ep, g1, g2, g3, g4, g5⟩
  rw [upd_ne (ne_of ec eD (fun z => nomatch z))]
  exact ec
def tDcT (wi : TI) (g : TG) (tt : TT) (tk tv : TE) (vs : List Nat) : TE := fun σ H Q => wi σ H fun J H1 => ∀ D, H1 D = none →
  ∃ W : Nat → Nat → Hp → Prop, (∃ m, W 0 m (upd H1 D (.dT []))) ∧ ∀ i m H, W i m H →
    (J.stop i H ∧ Q (.ref D) H) ∨ (J.go i H ∧ ∃ Nx : Hp → Prop, (∀ H', Nx H' → ∃ m', m' < m ∧ W (i + 1) m' H') ∧
      ∀ x H', J.yld i H x H' → g x (wipe σ vs) H' fun σ2 H2 => wipe σ2 vs = wipe σ vs ∧ tt σ2 H2 fun b H3 => if b = true then tk σ2 H3 fun y H4 => tv σ2 H4 fun z H5 => PutT H5 D y z Nx else Nx H3)
variable {kx vx tg iter : Expr} {ifs : List Expr} {scope : Scope} {own : List (Str × Nat)} {pos pos2 : Pos} {wi : TI} {g : TG} {tt : TT} {tk tv : TE}
theorem dcT_core {pins : List (Addr × Obj)} {s : Shared} {σ : L2.St} {H : Hp} {Q : VK} {use : Option (Value → Sem Unit)} {Qf : Value → Shared → Prop} (hu : X.A.units + 1 < cLine) (hc : X.calm = true) (hN : X.N.Nodup) (I : Inv X pins σ H s) (hi : PI X tg iter wi)
    (ok : BlkOk X.N X.env.scope scope own) (hg : ∀ (s : Shared) (H : Hp) (C : Addr) (cl : List (Str × Addr)) (fp : List Addr), PG (X.blk s H scope (compEnvC scope cl C X.env) fp) tg g)
    (ht : ∀ (s : Shared) (H : Hp) (C : Addr) (cl : List (Str × Addr)) (fp : List Addr), PTs (X.blk s H scope (compEnvC scope cl C X.env) fp) ifs tt) (hk : ∀ (s : Shared) (H : Hp) (C : Addr) (cl : List (Str × Addr)) (fp : List Addr), PE (X.blk s H scope (compEnvC scope cl C X.env) fp) kx tk)
    (hv : ∀ (s : Shared) (H : Hp) (C : Addr) (cl : List (Str × Addr)) (fp : List Addr), PE (X.blk s H scope (compEnvC scope cl C X.env) fp) vx tv) (hs : ∀ x, foldedSetIterable iter X.env x = pure x) (h : tDcT wi g tt tk tv (own.map (·.2)) σ H Q)
    (fin : ∀ D C s' m H', Inv X pins σ H' s' → Q (.ref D) H' → s'.heap.Ns C m → FpOk X pins H' C → compPost (model X.prog X.w) X.A X.xe use Qf (.ref D) C (.ok .next) s') :
    wpAny (model X.prog X.w) X.A (comprehension (.DictComp kx vx [⟨tg, iter, ifs, 0⟩] scope pos) scope X.env pos2 newDict false (eval iter X.env) use) Qf X.xe s := by
  have caught : ∀ y ∈ scope.names, y.2 = .free → ∃ c, X.env.cells.lookup y.1 = some c := fun y hy e => (ok.free y hy e).elim (fun k => I.ok.has _ (.inl k)) fun k => I.ok.has _ (.inr k)
  refine wpAny_comprehension_free (use := use) rfl hs (closure_ok caught) ok.kind (fun y hy e => by rw [ok.uniq y hy, e]) (thn (hi.run pins s σ H _ I h) fun iv t1 hx => thn hx fun itv t2 h2 => ?_)
  obtain ⟨it, fp, tn, J, K1, rfl, I2, T, tn2, ap2, q⟩ := h2
  refine wpAny_newObj_type (newEnv_comp ?_)
  generalize eD : t2.heap.objs.size = D
  have nD : K1 D = none := I2.hok.fresh (Nat.le_of_eq eD)
  obtain ⟨W, ⟨m0, w0⟩, turn⟩ := q D nD
  generalize e3 : ({ t2 with heap := t2.heap.push { cls := .type "dict", data := .dict #[] } } : Shared) = t3
  have h3 : t3.heap = t2.heap.push { cls := .type "dict", data := .dict #[] } := by rw [← e3]
  have I3 : Inv X pins σ (upd K1 D (.dT [])) t3 := by
    rw [← e3]
    refine I2.laid (t' := t2.toks) (fun b o e => Heap.get?_push_of_some _ e) (Nat.le_of_eq eD) ?_
    rw [← eD]
    exact dt_empty t2.heap I2.big
  have lt2 : ∀ b ∈ fp, b < t2.heap.objs.size := fun b hb => let ⟨_, e, _⟩ := T.obj _ _ tn2 b hb; Heap.lt_size e
  have ap3 : ∀ b ∈ fp, FpOk X pins (upd K1 D (.dT [])) b ∧ b < t3.heap.objs.size := fun b hb => by
    refine ⟨⟨?_, (ap2 b hb).2⟩, by rw [h3, Heap.size_push]; exact Nat.lt_succ_of_lt (lt2 b hb)⟩
    rw [upd_ne (by rw [← eD]; exact Nat.ne_of_lt (lt2 b hb))]
    exact (ap2 b hb).1
  have tn3 : tn 0 t3.heap := T.keep _ _ _ tn2 fun b _ o e => by
    rw [h3]
    exact Heap.get?_push_of_some _ e
  have I4 := block_start I3 ok hN ap3
  let cl := cellsFrom (t3.heap.objs.size + 1) scope.names (cloFrom X.env.cells scope.names [])
  have pg := hg t3 (upd K1 D (.dT [])) t3.heap.objs.size cl fp
  have pt := ht t3 (upd K1 D (.dT [])) t3.heap.objs.size cl fp
  have pk := hk t3 (upd K1 D (.dT [])) t3.heap.objs.size cl fp
  have pe := hv t3 (upd K1 D (.dT [])) t3.heap.objs.size cl fp
  show codeAny _ _ (.compStart (.DictComp kx vx [⟨tg, iter, ifs, 0⟩] scope pos) 0 (.ref it) (.ref D) (compEnvC scope cl t3.heap.objs.size X.env)) (compPost (model X.prog X.w) X.A X.xe use Qf (.ref D) t3.heap.objs.size)
    { t3 with heap := pushCells (t3.heap.push { cls := .type "dict", data := .dict #[] }) scope.names }
  have nfp : ∀ b ∈ fp, (upd K1 D (.dT [])) b = none := fun b hb => (ap3 b hb).1.1
  generalize ece : compEnvC scope cl t3.heap.objs.size X.env = ce at I4 pg pt pk pe ⊢
  have ecl : ce.locals = t3.heap.objs.size := by
    subst ece
    rfl
  generalize eH3 : upd K1 D (.dT []) = H3 at I3 I4 pg pt pk pe w0 nfp ap3
  generalize e4 : ({ t3 with heap := pushCells (t3.heap.push { cls := .type "dict", data := .dict #[] }) scope.names } : Shared) = t4 at I4 ⊢
  have tn4 : tn 0 t4.heap := T.keep _ _ _ tn3 fun b _ o e => by
    rw [← e4]
    exact pushCells_keeps _ _ _ _ (Heap.get?_push_of_some _ e)
  have apB : ∀ {σ' : L2.St} {H' : Hp} {s' : Shared}, Inv (X.blk t3 H3 scope ce fp) [] σ' H' s' → (∀ b ∈ fp, H' b = none) → ∀ b ∈ fp, FpOk (X.blk t3 H3 scope ce fp) [] H' b := fun I' hn b hb =>
    ⟨hn b hb, (I'.ok.exf b hb).1, I'.ok.exfs b hb, .inl hb, fun x c e => (I'.ok.exf b hb).2 x c e, fun p hp => absurd (show p ∈ ([] : List (Addr × Obj)) ++ [] from hp) (by simp)⟩
  refine codeAny_compStart_dict ?loop (T.self X.A 0 _ _ _ tn4 ?loop)
  case loop =>
    refine compLoop_anyD (fun n s' => ∃ i H', Inv (X.blk t3 H3 scope ce fp) [] (wipe σ (own.map (·.2))) H' s' ∧ tn i s'.heap ∧ (∀ b ∈ fp, H' b = none) ∧ W i n H') ?_ m0 ⟨0, H3, I4, tn4, nfp, w0⟩
    rintro n t5 ⟨i, H5, I5, tn5, n5, w5⟩
    rcases turn i n H5 w5 with ⟨stop, qq⟩ | ⟨go, Nx, hNx, step⟩
    · refine thnF (T.done (X.blk t3 H3 scope ce fp) rfl rfl rfl hc i [] t5 _ H5 (fun _ _ => False) I5 (apB I5 n5) tn5 stop) fun r t6 ⟨hr, I6⟩ => ?_
      subst hr
      have I7 : Inv X pins σ H5 t6 := I3.call' (ch := fp) I6.os I6.base I6.hok I6.bare fun b hb => ⟨(ap3 b hb).1.2.2.2.1, (ap3 b hb).1.2.1, (ap3 b hb).1.2.2.2.2.1, (ap3 b hb).1.2.2.2.2.2⟩
      have nC : H5 t3.heap.objs.size = none := by
        have e : H5 ce.locals = none := I6.free
        rwa [ecl] at e
      obtain ⟨m, hn, _⟩ := I6.loc
      have hn2 : t6.heap.Ns ce.locals m := hn
      rw [ecl] at hn2
      exact fin D t3.heap.objs.size t6 m H5 I7 qq hn2 (I3.fpOk (Nat.le_refl _) nC)
    · refine thnF (T.item (X.blk t3 H3 scope ce fp) rfl rfl rfl hc i [] t5 _ H5 (fun _ _ => False) I5 (apB I5 n5) tn5 go) fun r t6 ⟨u, hr, h6⟩ => ?_
      subst hr
      refine thnF h6 fun _ t7 ⟨x, H7, I7, r7, y7, tn7, n7⟩ => ?_
      refine thnF (pg.run _ t7 _ H7 x u _ (I7.pinned (apB I7 n7) (T.obj _ _ tn7)) r7 (step x H7 y7)) fun _ t8 ⟨σ8, H8, I8, ew, q8⟩ => ?_
      refine thnF (pt.run _ t8 σ8 H8 _ I8 q8) fun b t9 ⟨H9, I9, q9⟩ => ?_
      have close : ∀ {s' : Shared} {H' : Hp}, Inv (X.blk t3 H3 scope ce fp) ([] ++ pinsAt fp t7.heap) σ8 H' s' → Nx H' → ∃ m, m < n ∧ ∃ i H', Inv (X.blk t3 H3 scope ce fp) [] (wipe σ (own.map (·.2))) H' s' ∧ tn i s'.heap ∧ (∀ b ∈ fp, H' b = none) ∧ W i m H' := fun {s' H'} I' nx => by
        obtain ⟨m', hm, w'⟩ := hNx H' nx
        have held : ∀ b ∈ fp, ∀ o, t7.heap.get? b = some o → s'.heap.get? b = some o ∧ H' b = none := fun b hb o e =>
          have z := I'.pin (b, o) (List.mem_append_right _ (List.mem_append_right _ (mem_pinsAt hb e)))
          ⟨z.1, z.2.1⟩
        have hl : (wipe σ (own.map (·.2))).length = σ8.length := by rw [← ew, wipe_length]
        refine ⟨m', hm, i + 1, H', (I'.unpinned (pins := [])).weak hl (fun j v e => ?_), T.keep _ _ _ tn7 fun b hb o e => (held b hb o e).1, fun b hb => let ⟨o, e, _⟩ := T.obj _ _ tn7 b hb; (held b hb o e).2, w'⟩
        rw [← ew] at e
        exact (wipe_some e).1
      cases b with
      | false =>
        rw [if_neg Bool.false_ne_true] at q9 ⊢
        exact close I9 q9
      | true =>
        rw [if_pos rfl] at q9 ⊢
        refine thnF (pk.run _ t9 σ8 H9 _ I9 q9) fun z t10 ⟨yk, H10, I10, r10, q10⟩ => thnF (pe.run _ t10 σ8 H10 _ I10 q10) fun z2 t11 ⟨yv, H11, I11, r11, pu⟩ => ?_
        exact putT_run (X := X.blk t3 H3 scope ce fp) hu I11 r10 r11 pu fun H12 t12 I12 nx => close I12 nx
theorem pe_dcT (hu : X.A.units + 1 < cLine) (hc : X.calm = true) (hN : X.N.Nodup) (hi : PI X tg iter wi) (ok : BlkOk X.N X.env.scope scope own) (hg : ∀ (s : Shared) (H : Hp) (C : Addr) (cl : List (Str × Addr)) (fp : List Addr), PG (X.blk s H scope (compEnvC scope cl C X.env) fp) tg g)
    (ht : ∀ (s : Shared) (H : Hp) (C : Addr) (cl : List (Str × Addr)) (fp : List Addr), PTs (X.blk s H scope (compEnvC scope cl C X.env) fp) ifs tt) (hk : ∀ (s : Shared) (H : Hp) (C : Addr) (cl : List (Str × Addr)) (fp : List Addr), PE (X.blk s H scope (compEnvC scope cl C X.env) fp) kx tk)
    (hv : ∀ (s : Shared) (H : Hp) (C : Addr) (cl : List (Str × Addr)) (fp : List Addr), PE (X.blk s H scope (compEnvC scope cl C X.env) fp) vx tv) (hs : ∀ x, foldedSetIterable iter X.env x = pure x := by intro _; rfl) :
    PE X (.DictComp kx vx [⟨tg, iter, ifs, 0⟩] scope pos) (tDcT wi g tt tk tv (own.map (·.2))) := by
  refine ⟨fun pins s σ H Q I h => ?_⟩
  rw [arm_eval_DictComp]
  refine dcT_core hu hc hN I hi ok hg ht hk hv hs h fun D C s' m H' I' q hn ⟨f0, f1, f2, f3, f4, f5⟩ => ⟨m, hn, fun h'' sb => ?_⟩
  exact ⟨.ref D, H', I'.turned (t' := s'.toks) (fun b o hb e => (sb.2 b hb).trans e) f0 f1 f3 f4 f5, rfl, q⟩
end
end VW

set_option maxHeartbeats 4000000
namespace VW
open PySem PySem.Spec PyProof.Rows L2

/-! ### enumerate(v) of whatever begins, above all of a tuple -/
theorem enum_newB {v : Value} {o : Obj} {G : Heap → Prop} (B : Begins v o G) :
    Meets (Builtin.«enumerate.__new__» ⟨[.type "enumerate", v], []⟩) (fun _ R s => G s.heap ∧
      R (.ok (.ret (.ref (s.heap.push o).objs.size))) { s with heap := (s.heap.push o).push { cls := .type "enumerate", data := .fields #[.none, .bool false, .ref s.heap.objs.size, rawInt 0, .none, .none] } }) := by
  refine .of_wp fun prog w A R s h => ?_
  obtain ⟨hp, g, d, tk, os⟩ := s
  obtain ⟨g1, h⟩ := h
  have z1 := sub_enumerate
  have z2 : ∀ {A' : Around} {E Q : Value → Shared → Prop}, Q (.ref hp.objs.size) ⟨hp.push o, g, d, tk, os⟩ → wpAny (model prog w) A' (pyIter v) Q E ⟨hp, g, d, tk, os⟩ := fun q => B.iter prog w _ _ _ _ g1 q
  wp_walk using z2
  refine wpAny_stack_any fun st => wpAny_pure ?_
  split
  · rename_i c _ _ _ _ _
    cases (c == Value.type "enumerate") <;> (wp_walk using z2; exact ⟨_, rfl, h⟩)
  · wp_walk using z2
    exact ⟨_, rfl, h⟩
section
variable {prog : Program} {w : World} {A : Around} {E : Value → Shared → Prop} {s : Shared}
theorem enum_one {v : Value} {o : Obj} {G : Heap → Prop} {Q : Value → Shared → Prop} (B : Begins v o G) (g1 : G s.heap)
    (h : ∀ h', IsEnum h' (s.heap.objs.size + 1) s.heap.objs.size 0 .none → h'.get? s.heap.objs.size = some o → (∀ b x, s.heap.get? b = some x → h'.get? b = some x) → Q (.ref (s.heap.objs.size + 1)) { s with heap := h' }) :
    wpAny (model prog w) A (call (.type "enumerate") [v]) Q E s := by
  refine callType_new F.called_enumerate (by decide) (F.typeCall_enumerate_1 _) (F.newCall_enumerate_1 _) (fun obj => F.args_object_init_2 obj _) F.entry_enumerate_new (enum_newB B) ⟨g1, ?_⟩
  have hz : (s.heap.push o).objs.size = s.heap.objs.size + 1 := Heap.size_push ..
  show _ ∧ _
  rw [hz]
  have he : IsEnum ((s.heap.push o).push { cls := .type "enumerate", data := .fields #[.none, .bool false, .ref s.heap.objs.size, rawInt 0, .none, .none] }) (s.heap.objs.size + 1) s.heap.objs.size 0 .none := by
    have e := Heap.get?_push_size (s.heap.push o) (o := { cls := .type "enumerate", data := .fields #[.none, .bool false, .ref s.heap.objs.size, rawInt 0, .none, .none] }) rfl
    rwa [hz] at e
  exact ⟨⟨_, he, rfl⟩, h _ he (Heap.get?_push_of_some _ (Heap.get?_push_size _ B.free)) fun b x e => Heap.get?_push_of_some _ (Heap.get?_push_of_some _ e)⟩
end
/-- the tuple at a, each item in a new pair -/
def IteT (K : PySem.W.Frag) (a : Addr) : It :=
  ⟨fun i H => ∃ (xs : List V) (x : V), SqT K H a xs ∧ xs[i]? = some x, fun i H v H' => ∃ T x, v = .ref T ∧ H T = none ∧ H' = upd H T (.tup [.int (i : Nat), x]) ∧ ∀ xs, SqT K H a xs → xs[i]? = some x,
    fun i H => ∃ xs : List V, SqT K H a xs ∧ xs.length ≤ i⟩
theorem turn_enumT {P : Program} {w : World} {K : PySem.W.Frag} {elts : List Expr} {kk : Nat} {tpos : Pos} (a e it : Addr) :
    Turn P w K (.Tuple elts kk tpos) (IteT K a) [e, it] e (fun i h => (∃ old, IsEnum h e it ((i : Nat) : Int) old) ∧ h.IsTupleIter it a i ∧ e ≠ it ∧ a ≠ e ∧ a ≠ it) where
  mem := by simp
  obj := fun i h st b hb => by
    obtain ⟨⟨old, he⟩, ⟨o, ho, hc, hd⟩, _⟩ := st
    rcases (show b = e ∨ b = it by simpa using hb) with rfl | rfl
    · exact ⟨_, he, fun v q => nomatch q⟩
    · exact ⟨o, ho, fun v q => by rw [hd] at q; cases q⟩
  keep := fun i h h' st k => let ⟨⟨old, he⟩, hi, hne⟩ := st; ⟨⟨old, k e (by simp) _ he⟩, hi.at fun o q => k it (by simp) o q, hne⟩
  item := by
    intro X hP hw hK hc i pins s σ H E I hf st hg
    subst hP hw hK
    obtain ⟨⟨old, he⟩, hit, hne, hae, hai⟩ := st
    obtain ⟨xs, x, hq, hx⟩ := hg
    obtain ⟨its, rv, p, hz⟩ := I.tuple hq
    obtain ⟨u, hu, ru⟩ := rv.get hx
    have hel : e < s.heap.objs.size := Heap.lt_size he
    have hil : it < s.heap.objs.size := let ⟨_, q, _⟩ := hit; Heap.lt_size q
    have hx2 : its.toArray[i]? = some u := by simpa using hu
    have hlt : i < its.toArray.size := by
      rcases Nat.lt_or_ge i its.toArray.size with z | z
      · exact z
      · rw [Array.getElem?_eq_none z] at hx2
        cases hx2
    have D := Draws.tuple (prog := X.prog) (w := X.w) (A := X.A.in1) (show X.A.in1.handled = none from I.ok.hd hc) it a hai its.toArray
    refine wpAny_pyNext_enum_itemC D he ⟨hit, show s.heap.IsTuple a its.toArray from p⟩ hlt hne (by simp [hne, hae.symm]) fun y h' tk hP ho hst' hT hsz hk => ?_
    have ey : y = u := Option.some.inj (hP.symm.trans hx2)
    subst ey
    refine ⟨_, rfl, wpAny_letOwnedTupleGo_enum (s := { s with heap := h', toks := tk + 1 }) ho fun h'' he' sb => ?_⟩
    have hT2 : h''.get? s.heap.objs.size = some { cls := .type "tuple", data := .seq #[.int i tk, y] } := (sb.2 _ (Nat.ne_of_gt hel)).trans hT
    have new : ObjOk X.prog X.w (upd H s.heap.objs.size (.tup [.int (i : Nat), x])) h'' s.heap.objs.size (.tup [.int (i : Nat), x]) :=
      ⟨by show 2 ≤ sizeLine; decide, [.int i tk, y], .cons ⟨_, rfl⟩ (.cons ru .nil), ⟨_, hT2, rfl, _, rfl⟩⟩
    have I1 : Inv X pins σ (upd H s.heap.objs.size (.tup [.int (i : Nat), x])) { s with heap := h'', toks := tk + 1 } :=
      I.turnedNew (ch := [e, it]) (fun b ob hb q => (sb.2 b (fun z => hb (by simp [z]))).trans (hk b ob (fun z => hb (by simp [z])) (fun z => hb (by simp [z])) q)) hf (Nat.le_refl _) new
    refine ⟨.ref s.heap.objs.size, _, I1, rfl, ⟨_, x, rfl, I.hok.fresh (Nat.le_refl _), rfl, fun ys hy => by rw [I.tuple_inj hy hq]; exact hx⟩, ⟨⟨y, ?_⟩, hst'.1.at fun o q => (sb.2 it (Ne.symm hne)).trans q, hne, hae, hai⟩, fun b hb => ?_⟩
    · have e1 : ((i + 1 : Nat) : Int) = (i : Int) + 1 := by omega
      rw [e1]
      exact he'
    · have hb' : b < s.heap.objs.size := by
        rcases (show b = e ∨ b = it by simpa using hb) with rfl | rfl
        · exact hel
        · exact hil
      rw [upd_ne (Nat.ne_of_lt hb')]
      exact (hf b hb).1
  done := by
    intro X hP hw hK hc i pins s σ H E I hf st hg
    subst hP hw hK
    obtain ⟨⟨old, he⟩, hit, hne, hae, hai⟩ := st
    obtain ⟨xs, hq, hx⟩ := hg
    obtain ⟨its, rv, p, hz⟩ := I.tuple hq
    obtain ⟨f0, f1, f2, f3, f4, f5⟩ := hf it (by simp)
    have hh : X.A.in1.handled = none := I.ok.hd hc
    have hn : its.toArray[i]? = none := by
      have hl := rv.length
      apply Array.getElem?_eq_none
      simp
      omega
    have D : Draws X.prog X.w X.A.in1 it [it, a] i (fun _ _ => True) (fun j h => j = i ∧ h.IsTupleIter it a i ∧ h.IsTuple a its.toArray) :=
      ⟨fun j h st' => let ⟨_, ⟨o, ho, _⟩, _⟩ := st'; ⟨o, ho⟩, fun j h h' st' k => ⟨st'.1, st'.2.1.at fun o q => k it (by simp) o q, st'.2.2.at fun o q => k a (by simp) o q⟩,
        fun j s' Q E' hj st' _ => absurd (st'.1 ▸ hj) (Nat.lt_irrefl _), fun s' Q E' st' hE => wpAny_nextOf_tuple_end hh st'.2.1 st'.2.2 hn hE⟩
    exact wpAny_pyNext_enum_endD D he ⟨rfl, hit, show s.heap.IsTuple a its.toArray from p⟩ fun h' eb => ⟨rfl, I.turned (t' := s.toks) (fun b o hb e => eb b o hb e) f0 f1 f3 f4 f5⟩
  self := fun A i s Q E st h => let ⟨⟨_, he⟩, _⟩ := st; wpAny_pyIter_enum he h
def iEnumT (K : PySem.W.Frag) (ta : TA) : TI := fun σ H R => ta σ H fun vs H1 => ∃ a xs, vs = [.ref a] ∧ SqT K H1 a xs ∧ R (IteT K a) H1
theorem pi_enumT {X : Cx} {e : Expr} {ta : TA} {p pos tpos : Pos} {elts : List Expr} {kk : Nat} (hg : Gl X "enumerate") (hm : X.mg "enumerate" = none) (ha : PA X [e] ta) (hs : starEach [e] X.env = [(false, eval e X.env)] := by rfl) :
    PI X (.Tuple elts kk tpos) (.Call (.Name "enumerate" p) [e] [] pos) (iEnumT X.K ta) := by
  refine ⟨fun pins s σ H R I h => Call_ (ld_blt I hg hm boot_enumerate (PyProof.Rows.callWith_type1 (thn (ha.run pos pins s σ H _ I h) fun us t1 ⟨vs, H1, I1, r1, q1⟩ => ?_) hs rfl))⟩
  obtain ⟨a, xs, ex, hq, q⟩ := q1
  subst ex
  rw [Vals.ref1 r1]
  obtain ⟨its, rv, pt, hz⟩ := I1.tuple hq
  have pt2 : t1.heap.IsTuple a its.toArray := pt
  have hal : a < t1.heap.objs.size := let ⟨_, e, _⟩ := pt2; Heap.lt_size e
  refine enum_one (begins_tuple a its.toArray) pt2 fun h' he hit hk => wpAny_pyIter_enum he ?_
  have I2 : Inv X pins σ H1 { t1 with heap := h' } := I1.kept (t' := t1.toks) hk
  refine ⟨t1.heap.objs.size + 1, [t1.heap.objs.size + 1, t1.heap.objs.size], _, _, H1, rfl, I2, turn_enumT a (t1.heap.objs.size + 1) t1.heap.objs.size, ⟨⟨.none, he⟩, ⟨_, hit, rfl, rfl⟩, Nat.succ_ne_self _, Nat.ne_of_lt (Nat.lt_succ_of_lt hal), Nat.ne_of_lt hal⟩, fun b hb => ?_, q⟩
  have hle : t1.heap.objs.size ≤ b := by
    rcases (show b = t1.heap.objs.size + 1 ∨ b = t1.heap.objs.size by simpa using hb) with rfl | rfl
    · exact Nat.le_add_right _ _
    · exact Nat.le_refl _
  exact I1.fpOk hle (I1.hok.fresh hle)
theorem walk_enumT {K : PySem.W.Frag} {a : Addr} {xs : List V} : Walk (IteT K a) xs.length (fun H => SqT K H a xs) (YPair (fun i => some (.int (i : Nat))) (fun i => xs[i]?)) := by
  refine ⟨fun i _ hi q => ⟨xs, xs[i], q, by simp [hi]⟩, fun _ q => ⟨xs, q, Nat.le_refl _⟩, fun i H v H' _ q y => ?_⟩
  obtain ⟨T, x, h1, h2, h3, h4⟩ := y
  exact ⟨T, .int (i : Nat), x, h1, h2, h3, rfl, h4 xs q⟩
end VW

set_option maxHeartbeats 4000000
/-! A def with a star parameter and defaults that no call leans on. -/
namespace VW
open PySem PySem.Spec PyProof.Rows L2
/-- what a call by position binds: ahead of the star all is written (defaults are looked at, not taken) -/
def StarD (K : PySem.W.Frag) (fd : FuncData) (ps : List Str) (pv : Str) : Prop := ∀ us rest : List Value, us.length = ps.length →
  bindArgs fd ⟨us ++ rest, []⟩ = (newTuple rest >>= fun t => pure (ps.zip us ++ [(pv, t)])) ∨
  ∃ (T : Addr) (o : Obj) (its : Array Value) (n : Nat) (k : Option (Array Value) → Sem (List (Str × Value))), K.lookup T = some o ∧ o.data = .seq its n ∧ bindArgs fd ⟨us ++ rest, []⟩ = seqItems? (.ref T) >>= k ∧
    k (some its) = (newTuple rest >>= fun t => pure (ps.zip us ++ [(pv, t)]))
section
variable {CX : CXT} {P : Program} {w : World} {K : PySem.W.Frag} {mg : Str → Option Value} {base : Heap} {k : Nat} {f : Addr} {x qual : Str} {pr : Arguments} {body : List Stmt} {scope : Scope} {dvs : List V} {fd : FuncData} {N ps : List Str} {sp : Sp}
theorem starD_run {pv : Str} (F : FunD K x qual pr body scope dvs [] f fd) (S : FnScope N (ps ++ [pv]) scope) (up : StX.CXUp CX) (hb : StarD K fd ps pv)
    (hbody : ∀ (cdv : Value) (A : Around) (outer : List Env) (s : Shared) (H : Hp) (vs : List V) (Q : VK) (E : XK), Room k (A.deeper (envOfC qual scope s.heap.objs.size f cdv)) → sp vs H Q E →
      ∃ t, PSs (cxOf CX P w K mg base N qual scope f cdv A outer s H E) body t ∧ t { nx := fun _ H' => Q .non H', rt := Q } (start N vs) H) :
    FnR P w K mg base CX (k + 1) f (fun vs H Q E => ∃ ws rest, vs = ws ++ rest ∧ ws.length = ps.length ∧ rest.length ≤ sizeLine ∧ ∀ p, H p = none → sp (ws ++ [V.ref p]) (upd H p (.tup rest)) Q E) := by
  obtain ⟨oc, od, dV, kV, doc, pm, an, cdv, ct, osl, rfl, lk, hcd, _, _⟩ := F.ex
  intro A outer s H us vs Q E room env rv hsp
  obtain ⟨ws, rest, rfl, hw, hsz, hq⟩ := hsp
  obtain ⟨u1, u2, rfl, r1, r2⟩ := StX.vals_split rv
  have free : H s.heap.objs.size = none := env.hok.fresh (Nat.le_refl _)
  have len1 : u1.length = ps.length := r1.length.symm.trans hw
  have len2 : u2.length ≤ sizeLine := by
    rw [← r2.length]
    exact hsz
  have kin : K.In s.heap := env.mod.kin.keeps fun b o e => (env.bs b o e).1
  refine StX.run_bnd (G := fun xs H2 => ∃ p, H p = none ∧ xs = ws ++ [V.ref p] ∧ H2 = upd H p (.tup rest)) lk hcd S room env (fun A' Ex Q' next => ?_) fun s2 H2 xs ⟨p, hp, e1, e2⟩ room2 => ?_
  · have fin : wpAny (model P w) A' (newTuple u2 >>= fun t => pure (ps.zip u1 ++ [(pv, t)])) Q' Ex s := by
      have made : ObjOk P w (upd H s.heap.objs.size (.tup rest)) (s.heap.push ({ cls := .type "tuple", data := .seq u2.toArray } : Obj)) s.heap.objs.size (.tup rest) := ⟨hsz, u2, r2, IsTup.new _ _⟩
      have un := StX.un_laid (fs := frs outer) (s := s) (o := ({ cls := .type "tuple", data := .seq u2.toArray } : Obj)) (u := .tup rest) free
      refine wpAny_bind (wpAny_newTuple (wpAny_pure ?_) len2)
      have z := next _ _ (ws ++ [V.ref s.heap.objs.size]) (u1 ++ [Value.ref s.heap.objs.size]) (StX.env0_laid env made) un rfl (fun e s' => up outer s H _ _ E e s' un (fun b o q => Heap.get?_push_of_some _ q) rfl) (r1.append (.cons rfl .nil))
        (by rw [List.length_append, hw, List.length_append] <;> rfl) ⟨_, free, rfl, rfl⟩
      rw [List.zip_append len1.symm] at z
      exact z
    rcases hb u1 u2 len1 with e | ⟨T, o, its, n, k', lT, oT, e3, e4⟩
    · rw [e]
      exact fin
    · rw [e3]
      refine wpAny_bind (wpAny_seqItems (kin _ _ lT) oT ?_)
      rw [e4]
      exact fin
  · subst e1 e2
    exact hbody cdv A outer s2 _ _ Q E room2 (hq p hp)
end
end VW

set_option maxHeartbeats 4000000
/-! The text by places; what the walk asks of it behind the top. Printed by wip/txt.py. -/
namespace VW
open PySem PySem.Spec PyProof.Rows L2
def topS (i : Nat) : Stmt := PySem.Challenge.pw_vectorwidths_k37_whole_bad_places.main.body.getD i (.Pass ⟨0, 0, 0, 0⟩)
abbrev s_is_integer : Stmt := topS 14
abbrev N_is_integer : List Str := ["value"]
theorem sc_is_integer : FnScope N_is_integer ["value"] (defScope s_is_integer) := ⟨rfl, rfl, rfl, by decide +kernel, rfl, by decide +kernel, by decide +kernel⟩
abbrev s_is_between : Stmt := topS 15
abbrev N_is_between : List Str := ["value", "low", "high"]
theorem sc_is_between : FnScope N_is_between ["value", "low", "high"] (defScope s_is_between) := ⟨rfl, rfl, rfl, by decide +kernel, rfl, by decide +kernel, by decide +kernel⟩
abbrev s_is_name : Stmt := topS 17
abbrev N_is_name : List Str := ["value", "sign"]
theorem sc_is_name : FnScope N_is_name ["value"] (defScope s_is_name) := ⟨rfl, rfl, rfl, by decide +kernel, rfl, by decide +kernel, by decide +kernel⟩
abbrev s_is_offset : Stmt := topS 18
abbrev N_is_offset : List Str := ["value"]
theorem sc_is_offset : FnScope N_is_offset ["value"] (defScope s_is_offset) := ⟨rfl, rfl, rfl, by decide +kernel, rfl, by decide +kernel, by decide +kernel⟩
abbrev s_is_ref : Stmt := topS 19
abbrev N_is_ref : List Str := ["value"]
theorem sc_is_ref : FnScope N_is_ref ["value"] (defScope s_is_ref) := ⟨rfl, rfl, rfl, by decide +kernel, rfl, by decide +kernel, by decide +kernel⟩
abbrev s_are_unlike : Stmt := topS 20
abbrev N_are_unlike : List Str := ["values", "at", "value"]
theorem sc_are_unlike : FnScope N_are_unlike ["values"] (defScope s_are_unlike) := ⟨rfl, rfl, rfl, by decide +kernel, rfl, by decide +kernel, by decide +kernel⟩
abbrev s_Line_init : Stmt := inClass (topS 21) 0
abbrev N_Line_init : List Str := ["self", "name", "stride"]
theorem sc_Line_init : FnScope N_Line_init ["self", "name", "stride"] (defScope s_Line_init) := ⟨rfl, rfl, rfl, by decide +kernel, rfl, by decide +kernel, by decide +kernel⟩
abbrev s_Line_name : Stmt := inClass (topS 21) 1
abbrev N_Line_name : List Str := ["self"]
theorem sc_Line_name : FnScope N_Line_name ["self"] (defScope s_Line_name) := ⟨rfl, rfl, rfl, by decide +kernel, rfl, by decide +kernel, by decide +kernel⟩
abbrev s_Line_stride : Stmt := inClass (topS 21) 2
abbrev N_Line_stride : List Str := ["self"]
theorem sc_Line_stride : FnScope N_Line_stride ["self"] (defScope s_Line_stride) := ⟨rfl, rfl, rfl, by decide +kernel, rfl, by decide +kernel, by decide +kernel⟩
abbrev s_Line_distance : Stmt := inClass (topS 21) 6
abbrev N_Line_distance : List Str := ["self", "first", "second", "offset"]
theorem sc_Line_distance : FnScope N_Line_distance ["self", "first", "second"] (defScope s_Line_distance) := ⟨rfl, rfl, rfl, by decide +kernel, rfl, by decide +kernel, by decide +kernel⟩
abbrev s_loads_of : Stmt := topS 23
abbrev N_loads_of : List Str := ["loop", "number", "at", "source"]
theorem sc_loads_of : FnScope N_loads_of ["loop", "number", "at"] (defScope s_loads_of) := ⟨rfl, rfl, rfl, by decide +kernel, rfl, by decide +kernel, by decide +kernel⟩
abbrev s_end_of : Stmt := topS 24
abbrev N_end_of : List Str := ["loop", "number", "at"]
theorem sc_end_of : FnScope N_end_of ["loop", "number", "at"] (defScope s_end_of) := ⟨rfl, rfl, rfl, by decide +kernel, rfl, by decide +kernel, by decide +kernel⟩
abbrev s_iteration_events : Stmt := topS 25
abbrev N_iteration_events : List Str := ["loop", "at", "numbers", "found", "number"]
theorem sc_iteration_events : FnScope N_iteration_events ["loop", "at", "numbers"] (defScope s_iteration_events) := ⟨rfl, rfl, rfl, by decide +kernel, rfl, by decide +kernel, by decide +kernel⟩
abbrev s_plain_list : Stmt := topS 26
abbrev N_plain_list : List Str := ["loop", "count", "found", "at"]
theorem sc_plain_list : FnScope N_plain_list ["loop", "count"] (defScope s_plain_list) := ⟨rfl, rfl, rfl, by decide +kernel, rfl, by decide +kernel, by decide +kernel⟩
abbrev s_cell_of : Stmt := topS 27
abbrev N_cell_of : List Str := ["loop", "event", "word", "number", "at", "source", "statement"]
theorem sc_cell_of : FnScope N_cell_of ["loop", "event"] (defScope s_cell_of) := ⟨rfl, rfl, rfl, by decide +kernel, rfl, by decide +kernel, by decide +kernel⟩
abbrev s_flow : Stmt := topS 28
abbrev N_flow : List Str := ["loop", "events", "origins", "writers", "event"]
theorem sc_flow : FnScope N_flow ["loop", "events"] (defScope s_flow) := ⟨rfl, rfl, rfl, by decide +kernel, rfl, by decide +kernel, by decide +kernel⟩
abbrev s_numbered_refs : Stmt := topS 30
abbrev N_numbered_refs : List Str := ["loop", "found", "number", "statement", "at", "source"]
theorem sc_numbered_refs : FnScope N_numbered_refs ["loop"] (defScope s_numbered_refs) := ⟨rfl, rfl, rfl, by decide +kernel, rfl, by decide +kernel, by decide +kernel⟩
abbrev s_meets : Stmt := topS 31
abbrev N_meets : List Str := ["loop", "found", "refs", "at", "one", "other", "distance"]
theorem sc_meets : FnScope N_meets ["loop"] (defScope s_meets) := ⟨rfl, rfl, rfl, by decide +kernel, rfl, by decide +kernel, by decide +kernel⟩
abbrev s_reach : Stmt := topS 32
abbrev N_reach : List Str := ["loop", "row"]
theorem sc_reach : FnScope N_reach ["loop"] (defScope s_reach) := ⟨rfl, rfl, rfl, by decide +kernel, rfl, by decide +kernel, by decide +kernel⟩
abbrev s_greatest_count : Stmt := topS 34
abbrev N_greatest_count : List Str := ["loop", "width"]
theorem sc_greatest_count : FnScope N_greatest_count ["loop", "width"] (defScope s_greatest_count) := ⟨rfl, rfl, rfl, by decide +kernel, rfl, by decide +kernel, by decide +kernel⟩
abbrev s_greatest_width : Stmt := topS 35
abbrev N_greatest_width : List Str := ["loop"]
theorem sc_greatest_width : FnScope N_greatest_width ["loop"] (defScope s_greatest_width) := ⟨rfl, rfl, rfl, by decide +kernel, rfl, by decide +kernel, by decide +kernel⟩
abbrev s_block_events : Stmt := topS 37
abbrev N_block_events : List Str := ["loop", "number", "place", "lanes", "found", "other", "loaded", "statement", "at", "event"]
theorem sc_block_events : FnScope N_block_events ["loop", "number", "place", "lanes"] (defScope s_block_events) := ⟨rfl, rfl, rfl, by decide +kernel, rfl, by decide +kernel, by decide +kernel⟩
abbrev s_free_list : Stmt := topS 38
abbrev N_free_list : List Str := ["loop", "number", "place", "width", "count", "found", "start", "lanes"]
theorem sc_free_list : FnScope N_free_list ["loop", "number", "place", "width", "count"] (defScope s_free_list) := ⟨rfl, rfl, rfl, by decide +kernel, rfl, by decide +kernel, by decide +kernel⟩
abbrev s_found_origins : Stmt := topS 39
abbrev N_found_origins : List Str := ["loop", "number", "place", "width", "count", "origins", "load"]
theorem sc_found_origins : FnScope N_found_origins ["loop", "number", "place", "width", "count"] (defScope s_found_origins) := ⟨rfl, rfl, rfl, by decide +kernel, rfl, by decide +kernel, by decide +kernel⟩
abbrev s_is_right_place : Stmt := topS 40
abbrev N_is_right_place : List Str := ["loop", "number", "place", "width", "count", "plain", "found", "load"]
theorem sc_is_right_place : FnScope N_is_right_place ["loop", "number", "place"] (defScope s_is_right_place) := ⟨rfl, rfl, rfl, by decide +kernel, rfl, by decide +kernel, by decide +kernel⟩
abbrev s_bad_places : Stmt := topS 41
abbrev N_bad_places : List Str := ["loop", "pairs", "number", "place"]
theorem sc_bad_places : FnScope N_bad_places ["loop"] (defScope s_bad_places) := ⟨rfl, rfl, rfl, by decide +kernel, rfl, by decide +kernel, by decide +kernel⟩
abbrev s_Statement_init : Stmt := inClass (topS 44) 0
abbrev N_Statement_init : List Str := ["self", "name", "target", "sources", "source"]
theorem sc_Statement_init : FnScope N_Statement_init ["self", "name", "target", "sources"] (defScope s_Statement_init) := ⟨rfl, rfl, rfl, by decide +kernel, rfl, by decide +kernel, by decide +kernel⟩
abbrev s_Statement_name : Stmt := inClass (topS 44) 1
abbrev N_Statement_name : List Str := ["self"]
theorem sc_Statement_name : FnScope N_Statement_name ["self"] (defScope s_Statement_name) := ⟨rfl, rfl, rfl, by decide +kernel, rfl, by decide +kernel, by decide +kernel⟩
abbrev s_Statement_target : Stmt := inClass (topS 44) 2
abbrev N_Statement_target : List Str := ["self"]
theorem sc_Statement_target : FnScope N_Statement_target ["self"] (defScope s_Statement_target) := ⟨rfl, rfl, rfl, by decide +kernel, rfl, by decide +kernel, by decide +kernel⟩
abbrev s_Statement_sources : Stmt := inClass (topS 44) 3
abbrev N_Statement_sources : List Str := ["self"]
theorem sc_Statement_sources : FnScope N_Statement_sources ["self"] (defScope s_Statement_sources) := ⟨rfl, rfl, rfl, by decide +kernel, rfl, by decide +kernel, by decide +kernel⟩
abbrev s_Statement_refs : Stmt := inClass (topS 44) 5
abbrev N_Statement_refs : List Str := ["self", "found"]
theorem sc_Statement_refs : FnScope N_Statement_refs ["self"] (defScope s_Statement_refs) := ⟨rfl, rfl, rfl, by decide +kernel, rfl, by decide +kernel, by decide +kernel⟩
abbrev s_are_lines : Stmt := topS 48
abbrev N_are_lines : List Str := ["value", "line"]
theorem sc_are_lines : FnScope N_are_lines ["value"] (defScope s_are_lines) := ⟨rfl, rfl, rfl, by decide +kernel, rfl, by decide +kernel, by decide +kernel⟩
abbrev s_are_statements : Stmt := topS 49
abbrev N_are_statements : List Str := ["value", "one"]
theorem sc_are_statements : FnScope N_are_statements ["value"] (defScope s_are_statements) := ⟨rfl, rfl, rfl, by decide +kernel, rfl, by decide +kernel, by decide +kernel⟩
abbrev s_Loop_init : Stmt := inClass (topS 50) 0
abbrev N_Loop_init : List Str := ["self", "lines", "statements", "names", "statement", "line", "ref"]
theorem sc_Loop_init : FnScope N_Loop_init ["self", "lines", "statements"] (defScope s_Loop_init) := ⟨rfl, rfl, rfl, by decide +kernel, rfl, by decide +kernel, by decide +kernel⟩
abbrev s_Loop_statements : Stmt := inClass (topS 50) 2
abbrev N_Loop_statements : List Str := ["self"]
theorem sc_Loop_statements : FnScope N_Loop_statements ["self"] (defScope s_Loop_statements) := ⟨rfl, rfl, rfl, by decide +kernel, rfl, by decide +kernel, by decide +kernel⟩
abbrev s_Loop_len : Stmt := inClass (topS 50) 4
abbrev N_Loop_len : List Str := ["self"]
theorem sc_Loop_len : FnScope N_Loop_len ["self"] (defScope s_Loop_len) := ⟨rfl, rfl, rfl, by decide +kernel, rfl, by decide +kernel, by decide +kernel⟩
abbrev s_Loop_add : Stmt := inClass (topS 50) 9
abbrev N_Loop_add : List Str := ["self", "statement", "statements"]
theorem sc_Loop_add : FnScope N_Loop_add ["self", "statement"] (defScope s_Loop_add) := ⟨rfl, rfl, rfl, by decide +kernel, rfl, by decide +kernel, by decide +kernel⟩
abbrev s_Loop_line : Stmt := inClass (topS 50) 10
abbrev N_Loop_line : List Str := ["self", "name", "line"]
theorem sc_Loop_line : FnScope N_Loop_line ["self", "name"] (defScope s_Loop_line) := ⟨rfl, rfl, rfl, by decide +kernel, rfl, by decide +kernel, by decide +kernel⟩
abbrev s_Loop_place : Stmt := inClass (topS 50) 11
abbrev N_Loop_place : List Str := ["self", "ref", "at"]
theorem sc_Loop_place : FnScope N_Loop_place ["self", "ref", "at"] (defScope s_Loop_place) := ⟨rfl, rfl, rfl, by decide +kernel, rfl, by decide +kernel, by decide +kernel⟩
abbrev s__law_begin : Stmt := topS 52
abbrev N__law_begin : List Str := ["script"]
theorem sc__law_begin : FnScope N__law_begin ["script"] (defScope s__law_begin) := ⟨rfl, rfl, rfl, by decide +kernel, rfl, by decide +kernel, by decide +kernel⟩
abbrev s__law_draw : Stmt := topS 53
abbrev N__law_draw : List Str := ["source", "limit", "cell", "digit"]
theorem sc__law_draw : FnScope N__law_draw ["source", "limit"] (defScope s__law_draw) := ⟨rfl, rfl, rfl, by decide +kernel, rfl, by decide +kernel, by decide +kernel⟩
abbrev s__law_pick : Stmt := topS 54
abbrev N__law_pick : List Str := ["source", "items"]
theorem sc__law_pick : FnScope N__law_pick ["source", "items"] (defScope s__law_pick) := ⟨rfl, rfl, rfl, by decide +kernel, rfl, by decide +kernel, by decide +kernel⟩
abbrev s__law_mixed : Stmt := topS 55
abbrev N__law_mixed : List Str := ["source", "items", "left", "found"]
theorem sc__law_mixed : FnScope N__law_mixed ["source", "items"] (defScope s__law_mixed) := ⟨rfl, rfl, rfl, by decide +kernel, rfl, by decide +kernel, by decide +kernel⟩
abbrev s__law_stem : Stmt := topS 56
abbrev N__law_stem : List Str := ["source", "letters"]
theorem sc__law_stem : FnScope N__law_stem ["source"] (defScope s__law_stem) := ⟨rfl, rfl, rfl, by decide +kernel, rfl, by decide +kernel, by decide +kernel⟩
abbrev s__law_names : Stmt := topS 57
abbrev N__law_names : List Str := ["source", "many", "stem", "letters", "letter"]
theorem sc__law_names : FnScope N__law_names ["source", "many"] (defScope s__law_names) := ⟨rfl, rfl, rfl, by decide +kernel, rfl, by decide +kernel, by decide +kernel⟩
abbrev s__law_ref : Stmt := topS 58
abbrev N__law_ref : List Str := ["source", "rows", "wide"]
theorem sc__law_ref : FnScope N__law_ref ["source", "rows", "wide"] (defScope s__law_ref) := ⟨rfl, rfl, rfl, by decide +kernel, rfl, by decide +kernel, by decide +kernel⟩
abbrev s__law_rows : Stmt := topS 59
abbrev N__law_rows : List Str := ["source", "most", "strides", "word"]
theorem sc__law_rows : FnScope N__law_rows ["source", "most", "strides"] (defScope s__law_rows) := ⟨rfl, rfl, rfl, by decide +kernel, rfl, by decide +kernel, by decide +kernel⟩
abbrev s__law_world : Stmt := topS 60
abbrev N__law_world : List Str := ["source", "many", "wide", "rows", "deeds", "word", "goal", "turn"]
theorem sc__law_world : FnScope N__law_world ["source", "many", "wide"] (defScope s__law_world) := ⟨rfl, rfl, rfl, by decide +kernel, rfl, by decide +kernel, by decide +kernel⟩
abbrev s__law_deed : Stmt := topS 61
abbrev N__law_deed : List Str := ["deed", "word", "goal", "loads"]
theorem sc__law_deed : FnScope N__law_deed ["deed"] (defScope s__law_deed) := ⟨rfl, rfl, rfl, by decide +kernel, rfl, by decide +kernel, by decide +kernel⟩
abbrev s__law_loop : Stmt := topS 62
abbrev N__law_loop : List Str := ["world", "found", "deed", "word", "step"]
theorem sc__law_loop : FnScope N__law_loop ["world"] (defScope s__law_loop) := ⟨rfl, rfl, rfl, by decide +kernel, rfl, by decide +kernel, by decide +kernel⟩
abbrev s__law_turn : Stmt := topS 63
abbrev N__law_turn : List Str := ["world", "number", "at", "found", "k"]
theorem sc__law_turn : FnScope N__law_turn ["world", "number", "at"] (defScope s__law_turn) := ⟨rfl, rfl, rfl, by decide +kernel, rfl, by decide +kernel, by decide +kernel⟩
abbrev s__law_turns : Stmt := topS 64
abbrev N__law_turns : List Str := ["world", "numbers", "at", "found", "number"]
theorem sc__law_turns : FnScope N__law_turns ["world", "numbers", "at"] (defScope s__law_turns) := ⟨rfl, rfl, rfl, by decide +kernel, rfl, by decide +kernel, by decide +kernel⟩
abbrev s__law_plain : Stmt := topS 65
abbrev N__law_plain : List Str := ["world", "first", "count", "found", "at"]
theorem sc__law_plain : FnScope N__law_plain ["world", "first", "count"] (defScope s__law_plain) := ⟨rfl, rfl, rfl, by decide +kernel, rfl, by decide +kernel, by decide +kernel⟩
abbrev s__law_cell : Stmt := topS 66
abbrev N__law_cell : List Str := ["world", "event", "deed", "word", "by", "step", "row"]
theorem sc__law_cell : FnScope N__law_cell ["world", "event"] (defScope s__law_cell) := ⟨rfl, rfl, rfl, by decide +kernel, rfl, by decide +kernel, by decide +kernel⟩
abbrev s__law_flow : Stmt := topS 67
abbrev N__law_flow : List Str := ["world", "happened", "gets", "last", "event"]
theorem sc__law_flow : FnScope N__law_flow ["world", "happened"] (defScope s__law_flow) := ⟨rfl, rfl, rfl, by decide +kernel, rfl, by decide +kernel, by decide +kernel⟩
abbrev s__law_far : Stmt := topS 68
abbrev N__law_far : List Str := ["world", "spots", "deed", "found", "one", "is_goal", "step", "other", "is_other", "ref", "row"]
theorem sc__law_far : FnScope N__law_far ["world"] (defScope s__law_far) := ⟨rfl, rfl, rfl, by decide +kernel, rfl, by decide +kernel, by decide +kernel⟩
abbrev s__law_free : Stmt := topS 69
abbrev N__law_free : List Str := ["world", "number", "place", "width", "count", "found", "first", "steps", "other", "at"]
theorem sc__law_free : FnScope N__law_free ["world", "number", "place", "width", "count"] (defScope s__law_free) := ⟨rfl, rfl, rfl, by decide +kernel, rfl, by decide +kernel, by decide +kernel⟩
abbrev s__law_top : Stmt := topS 70
abbrev N__law_top : List Str := ["world"]
theorem sc__law_top : FnScope N__law_top ["world"] (defScope s__law_top) := ⟨rfl, rfl, rfl, by decide +kernel, rfl, by decide +kernel, by decide +kernel⟩
abbrev s__law_bad_places : Stmt := topS 71
abbrev N__law_bad_places : List Str := ["world", "found", "far", "number", "place", "is_bad", "width", "count", "plain", "gets", "load"]
theorem sc__law_bad_places : FnScope N__law_bad_places ["world"] (defScope s__law_bad_places) := ⟨rfl, rfl, rfl, by decide +kernel, rfl, by decide +kernel, by decide +kernel⟩
abbrev s_law : Stmt := topS 72
abbrev N_law : List Str := ["script", "source", "turn", "world"]
theorem sc_law : FnScope N_law ["script"] (defScope s_law) := ⟨rfl, rfl, rfl, by decide +kernel, rfl, by decide +kernel, by decide +kernel⟩
/-- a def of the module -/
structure Df (K : PySem.W.Frag) (mg : Str → Option Value) (x : Str) (st : Stmt) (ps : List Str) where
  f : Addr
  fd : FuncData
  F : FunD K x x (defArgs st) (defBody st) (defScope st) [] [] f fd
  b : Binds K fd ps []
  g : mg x = some (.ref f)
/-- a method -/
structure Md (K : PySem.W.Frag) (C : Addr) (m qual : Str) (st : Stmt) (ps : List Str) where
  f : Addr
  fd : FuncData
  F : FunD K m qual (defArgs st) (defBody st) (defScope st) [] [] f fd
  b : Binds K fd ps []
  M : Meth K C m f
/-- a property's getter -/
structure Pd (K : PySem.W.Frag) (C : Addr) (m qual : Str) (st : Stmt) where
  f : Addr
  fd : FuncData
  F : FunD K m qual (defArgs st) (defBody st) (defScope st) [] [] f fd
  b : Binds K fd ["self"] []
  p : Addr
  P : PropOf K C m p f
/-- an __init__ -/
structure Id (K : PySem.W.Frag) (C : Addr) (qual : Str) (st : Stmt) (dvs : List V) where
  f : Addr
  fd : FuncData
  F : FunD K "__init__" qual (defArgs st) (defBody st) (defScope st) dvs [] f fd
  M : Mk K C f
/-- a class -/
structure Cd (K : PySem.W.Frag) (mg : Str → Option Value) (x : Str) where
  C : Addr
  cl : Cls K C
  g : mg x = some (.ref C)
  i1 : PySem.W.findIn K (.ref C) "__class__" = some (some (.builtin "object.__class__"))
  i2 : PySem.W.specialIn K (.builtin "object.__class__") "__get__" = some (some (.builtin "getset_descriptor.__get__"))
  i3 : PySem.W.takesIn K (.builtin "object.__class__") = some true
  i4 : PySem.W.mroIn K C (.type "object") = some true
  kit : PySem.W.kitOne K (.ref C) (.ref C) = some true
structure Txt (K : PySem.W.Frag) (mg : Str → Option Value) where
  cLine : Cd K mg "Line"
  cStatement : Cd K mg "Statement"
  cLoop : Cd K mg "Loop"
  is_integer : Df K mg "is_integer" s_is_integer ["value"]
  is_between : Df K mg "is_between" s_is_between ["value", "low", "high"]
  is_name : Df K mg "is_name" s_is_name ["value"]
  is_offset : Df K mg "is_offset" s_is_offset ["value"]
  is_ref : Df K mg "is_ref" s_is_ref ["value"]
  are_unlike : Df K mg "are_unlike" s_are_unlike ["values"]
  Line_init : Id K cLine.C "Line.__init__" s_Line_init [V.int 1]
  Line_name : Pd K cLine.C "name" "Line.name" s_Line_name
  Line_stride : Pd K cLine.C "stride" "Line.stride" s_Line_stride
  Line_distance : Md K cLine.C "distance" "Line.distance" s_Line_distance ["self", "first", "second"]
  loads_of : Df K mg "loads_of" s_loads_of ["loop", "number", "at"]
  end_of : Df K mg "end_of" s_end_of ["loop", "number", "at"]
  iteration_events : Df K mg "iteration_events" s_iteration_events ["loop", "at", "numbers"]
  plain_list : Df K mg "plain_list" s_plain_list ["loop", "count"]
  cell_of : Df K mg "cell_of" s_cell_of ["loop", "event"]
  flow : Df K mg "flow" s_flow ["loop", "events"]
  numbered_refs : Df K mg "numbered_refs" s_numbered_refs ["loop"]
  meets : Df K mg "meets" s_meets ["loop"]
  reach : Df K mg "reach" s_reach ["loop"]
  greatest_count : Df K mg "greatest_count" s_greatest_count ["loop", "width"]
  greatest_width : Df K mg "greatest_width" s_greatest_width ["loop"]
  block_events : Df K mg "block_events" s_block_events ["loop", "number", "place", "lanes"]
  free_list : Df K mg "free_list" s_free_list ["loop", "number", "place", "width", "count"]
  found_origins : Df K mg "found_origins" s_found_origins ["loop", "number", "place", "width", "count"]
  is_right_place : Df K mg "is_right_place" s_is_right_place ["loop", "number", "place"]
  bad_places : Df K mg "bad_places" s_bad_places ["loop"]
  Statement_init : Id K cStatement.C "Statement.__init__" s_Statement_init [V.non]
  Statement_name : Pd K cStatement.C "name" "Statement.name" s_Statement_name
  Statement_target : Pd K cStatement.C "target" "Statement.target" s_Statement_target
  Statement_sources : Pd K cStatement.C "sources" "Statement.sources" s_Statement_sources
  Statement_refs : Md K cStatement.C "refs" "Statement.refs" s_Statement_refs ["self"]
  are_lines : Df K mg "are_lines" s_are_lines ["value"]
  are_statements : Df K mg "are_statements" s_are_statements ["value"]
  Loop_init : Id K cLoop.C "Loop.__init__" s_Loop_init []
  Loop_statements : Pd K cLoop.C "statements" "Loop.statements" s_Loop_statements
  Loop_len : Md K cLoop.C "__len__" "Loop.__len__" s_Loop_len ["self"]
  Loop_add : Md K cLoop.C "__add__" "Loop.__add__" s_Loop_add ["self", "statement"]
  Loop_line : Md K cLoop.C "line" "Loop.line" s_Loop_line ["self", "name"]
  Loop_place : Md K cLoop.C "place" "Loop.place" s_Loop_place ["self", "ref", "at"]
  _law_begin : Df K mg "_law_begin" s__law_begin ["script"]
  _law_draw : Df K mg "_law_draw" s__law_draw ["source", "limit"]
  _law_pick : Df K mg "_law_pick" s__law_pick ["source", "items"]
  _law_mixed : Df K mg "_law_mixed" s__law_mixed ["source", "items"]
  _law_stem : Df K mg "_law_stem" s__law_stem ["source"]
  _law_names : Df K mg "_law_names" s__law_names ["source", "many"]
  _law_ref : Df K mg "_law_ref" s__law_ref ["source", "rows", "wide"]
  _law_rows : Df K mg "_law_rows" s__law_rows ["source", "most", "strides"]
  _law_world : Df K mg "_law_world" s__law_world ["source", "many", "wide"]
  _law_deed : Df K mg "_law_deed" s__law_deed ["deed"]
  _law_loop : Df K mg "_law_loop" s__law_loop ["world"]
  _law_turn : Df K mg "_law_turn" s__law_turn ["world", "number", "at"]
  _law_turns : Df K mg "_law_turns" s__law_turns ["world", "numbers", "at"]
  _law_plain : Df K mg "_law_plain" s__law_plain ["world", "first", "count"]
  _law_cell : Df K mg "_law_cell" s__law_cell ["world", "event"]
  _law_flow : Df K mg "_law_flow" s__law_flow ["world", "happened"]
  _law_far : Df K mg "_law_far" s__law_far ["world"]
  _law_free : Df K mg "_law_free" s__law_free ["world", "number", "place", "width", "count"]
  _law_top : Df K mg "_law_top" s__law_top ["world"]
  _law_bad_places : Df K mg "_law_bad_places" s__law_bad_places ["world"]
  law : Df K mg "law" s_law ["script"]
  Line_init_b : Binds K Line_init.fd ["self", "name", "stride"] []
  Statement_init_b : StarD K Statement_init.fd ["self", "name", "target"] "sources"
  Loop_init_b : StarD K Loop_init.fd ["self", "lines"] "statements"
  n1 : NoAttr K cLine.C "kept_name"
  n2 : NoAttr K cLine.C "kept_stride"
  n3 : NoAttr K cStatement.C "kept_name"
  n4 : NoAttr K cStatement.C "kept_target"
  n5 : NoAttr K cStatement.C "kept_sources"
  n6 : NoAttr K cLoop.C "kept_lines"
  n7 : NoAttr K cLoop.C "kept_statements"
  n8 : NoAttr K cLoop.C "strides"
  ne : cLoop.C ≠ cStatement.C
  a1 : PySem.W.selfFirst K cLoop.C = true
  a2 : mroTwo K cStatement.C = true
  a3 : PySem.W.findIn K (.ref cStatement.C) "__add__" = some none
  a4 : PySem.W.findIn K (.ref cStatement.C) "__radd__" = some none
  a5 : PySem.W.findIn K (.type "object") "__add__" = some none
  a6 : PySem.W.findIn K (.type "object") "__radd__" = some none
  isinstance_ : mg "isinstance" = none
  int_ : mg "int" = none
  bool_ : mg "bool" = none
  str_ : mg "str" = none
  len_ : mg "len" = none
  all_ : mg "all" = none
  enumerate_ : mg "enumerate" = none
  range_ : mg "range" = none
  list_ : mg "list" = none
  tuple_ : mg "tuple" = none
  sorted_ : mg "sorted" = none
  max_ : mg "max" = none
  min_ : mg "min" = none
  abs_ : mg "abs" = none
  t_MOST_LETTERS : Tok
  c_MOST_LETTERS : mg "MOST_LETTERS" = some (.int 8 t_MOST_LETTERS)
  t_MOST_STRIDE : Tok
  c_MOST_STRIDE : mg "MOST_STRIDE" = some (.int 6 t_MOST_STRIDE)
  t_MOST_OFFSET : Tok
  c_MOST_OFFSET : mg "MOST_OFFSET" = some (.int 9 t_MOST_OFFSET)
  t_MOST_SOURCES : Tok
  c_MOST_SOURCES : mg "MOST_SOURCES" = some (.int 3 t_MOST_SOURCES)
  t_MOST_LINES : Tok
  c_MOST_LINES : mg "MOST_LINES" = some (.int 3 t_MOST_LINES)
  t_MOST_STATEMENTS : Tok
  c_MOST_STATEMENTS : mg "MOST_STATEMENTS" = some (.int 5 t_MOST_STATEMENTS)
  t_LETTERS : Tok
  c_LETTERS : mg "LETTERS" = some (.str letters26 t_LETTERS)
/-! ### short words -/
section
variable {P : Program} {w : World} {K : PySem.W.Frag} {mg : Str → Option Value} {base : Heap} {x qual : Str} {pr : Arguments} {body : List Stmt} {scope : Scope} {dvs : List V} {f : Addr} {fd : FuncData}
/-- the rule of a def: no exception leaves it -/
theorem dok {N ps : List Str} {k : Nat} {sp : Sp} (F : FunD K x qual pr body scope dvs [] f fd) (S : FnScope N ps scope) (len : ∀ vs H Q E, sp vs H Q E → vs.length = ps.length)
    (hbody : ∀ (cdv : Value) (A : Around) (outer : List Env) (s : Shared) (H : Hp) (vs : List V) (Q : VK) (E : XK), Room k (A.deeper (envOfC qual scope s.heap.objs.size f cdv)) → sp vs H Q E →
      ∃ t, PSs (cxOf CX0 P w K mg base N qual scope f cdv A outer s H E).nox body t ∧ t { nx := fun _ H' => Q .non H', rt := Q } (start N vs) H) : FnOk P w K mg base CX0 (k + 1) f fd ps sp :=
  F.ok S len fun cdv A outer s H vs Q E hr h => let ⟨t, p, q⟩ := hbody cdv A outer s H vs Q E hr h; ⟨t, p.nox, q⟩
/-- the rule of a def with a star parameter, called by position -/
theorem dokS {N ps : List Str} {pv : Str} {k : Nat} {sp : Sp} (F : FunD K x qual pr body scope dvs [] f fd) (S : FnScope N (ps ++ [pv]) scope)
    (hb : StarD K fd ps pv)
    (hbody : ∀ (cdv : Value) (A : Around) (outer : List Env) (s : Shared) (H : Hp) (vs : List V) (Q : VK) (E : XK), Room k (A.deeper (envOfC qual scope s.heap.objs.size f cdv)) → sp vs H Q E →
      ∃ t, PSs (cxOf CX0 P w K mg base N qual scope f cdv A outer s H E).nox body t ∧ t { nx := fun _ H' => Q .non H', rt := Q } (start N vs) H) :
    FnR P w K mg base CX0 (k + 1) f (fun vs H Q E => ∃ ws rest, vs = ws ++ rest ∧ ws.length = ps.length ∧ rest.length ≤ sizeLine ∧ ∀ p, H p = none → sp (ws ++ [V.ref p]) (upd H p (.tup rest)) Q E) := by
  exact starD_run F S StX.cxUp_none hb fun cdv A outer s H vs Q E hr h => let ⟨t, p, q⟩ := hbody cdv A outer s H vs Q E hr h; ⟨t, p.nox, q⟩
end
section
variable {X : Cx} {k : Nat} {x m qual : Str} {st : Stmt} {ps : List Str} {sp : Sp} {e o : Expr} {es : List Expr} {t : TA} {ta : TE} {p pos apos : Pos} {C : Addr} {dvs : List V}
theorem pcall (D : Df X.K X.mg x st ps) (G : FnOk X.prog X.w X.K X.mg X.base CX0 k D.f D.fd ps sp) (hr : Room k X.A) (ha : PA X (e :: es) t) (hg : Gl X x := by rfl) (hdb : (x == ("__debug__" : Str)) = false := by decide)
    (he : starEach (e :: es) X.env = (false, eval e X.env) :: starEach es X.env := by rfl) (hpl : (backTo pos (starEach es X.env)).any (·.1) = false := by rfl) : PE X (.Call (.Name x p) (e :: es) [] pos) (tCall sp [] E0 t) :=
  pe_call G hr hg D.g D.F.kp D.b .nil pass0 ha hdb he hpl
theorem pmeth (D : Md X.K C m qual st ps) (c : Cls X.K C) (he : PE X o ta) (G : FnOk X.prog X.w X.K X.mg X.base CX0 k D.f D.fd ps sp) (hr : Room k X.A) (ha : PA X (e :: es) t) {pl : Sem Bool}
    (hst : starEach (e :: es) X.env = (false, eval e X.env) :: starEach es X.env := by rfl) (hpl : (backTo pos (starEach es X.env)).any (·.1) = false := by rfl)
    (ht : eval (.Call (.Attribute o m apos) (e :: es) [] pos) X.env = (do
      let ov ← eval o X.env
      standAt apos.atName
      let (f, first) ← holding [ov] (getMethod ov m pl)
      callWith pos f first (backTo pos (starEach (e :: es) X.env)) (backToKw pos (keywordEach [] X.env))) := by rfl) :
    PE X (.Call (.Attribute o m apos) (e :: es) [] pos) (tMeth C m sp [] E0 ta t) :=
  pe_meth he c D.M G hr D.b .nil pass0 ha hst hpl ht
theorem pmeth0 (D : Md X.K C m qual st ps) (c : Cls X.K C) (he : PE X o ta) (G : FnOk X.prog X.w X.K X.mg X.base CX0 k D.f D.fd ps sp) (hr : Room k X.A) {pl : Sem Bool}
    (ht : eval (.Call (.Attribute o m apos) [] [] pos) X.env = (do
      let ov ← eval o X.env
      standAt apos.atName
      let (f, first) ← holding [ov] (getMethod ov m pl)
      callWith pos f first (backTo pos (starEach [] X.env)) (backToKw pos (keywordEach [] X.env))) := by rfl) :
    PE X (.Call (.Attribute o m apos) [] [] pos) (tMeth C m sp [] E0 ta tNil) :=
  pe_meth0 he c D.M G hr D.b .nil pass0 ht
theorem pprop (D : Pd X.K C m qual st) (c : Cls X.K C) (he : PE X e ta) (G : FnOk X.prog X.w X.K X.mg X.base CX0 k D.f D.fd ["self"] sp) (hr : Room (k + 1) X.A) (hab : attributeBase e m X.env (eval e X.env) = eval e X.env := by rfl) :
    PE X (.Attribute e m pos) (tProp C sp [] E0 ta) := pe_prop he c D.P G hr D.b .nil pass0 hab
theorem pmake (c : Cd X.K X.mg x) (D : Id X.K c.C qual st dvs) (b : Binds X.K D.fd ps []) (G : FnOk X.prog X.w X.K X.mg X.base CX0 k D.f D.fd ps sp) (hr : Room (k + 1) X.A) (ha : PA X (e :: es) t) (hg : Gl X x := by rfl) (hdb : (x == ("__debug__" : Str)) = false := by decide)
    (he : starEach (e :: es) X.env = (false, eval e X.env) :: starEach es X.env := by rfl) (hpl : (backTo pos (starEach es X.env)).any (·.1) = false := by rfl) : PE X (.Call (.Name x p) (e :: es) [] pos) (tMake c.C sp [] E0 t) :=
  pe_make D.M G hr hg c.g b .nil pass0 ha hdb he hpl
theorem Txt.addO (T : Txt X.K X.mg) (G : FnOk X.prog X.w X.K X.mg X.base CX0 k T.Loop_add.f T.Loop_add.fd ["self", "statement"] sp) (hr : Room k X.A) : OpR X (binaryOp .Add) (rAddO T.cLoop.C T.cStatement.C sp E0) :=
  op_addO T.ne T.a1 T.Loop_add.M.at_ T.Loop_add.M.fn T.a2 T.a3 T.a4 T.a5 T.a6 G hr T.Loop_add.b pass0
theorem Txt.lenO (T : Txt X.K X.mg) (G : FnOk X.prog X.w X.K X.mg X.base CX0 k T.Loop_len.f T.Loop_len.fd ["self"] sp) (hr : Room (k + 1) X.A) : CallR X (.builtin "len") (rLenO T.cLoop.C sp E0) :=
  call_lenO T.Loop_len.M.at_ T.Loop_len.M.fn G hr T.Loop_len.b pass0
/-- a statement's ways joined behind it -/
def tCutW (t u : TS) : TS := fun D σ H => ∃ Mid : L2.St → Hp → Prop, t { D with nx := Mid } σ H ∧ ∀ σ' H', Mid σ' H' → u D σ' H'
theorem pss_cutW {s1 : Stmt} {rest : List Stmt} {t u : TS} (h1 : PS X s1 t) (h2 : PSs X rest u) : PSs X (s1 :: rest) (tCutW t u) := by
  refine ⟨fun pins s σ H D I ⟨Mid, a, b⟩ => wpAny_execs_cons (thn (h1.run pins s σ H { D with nx := Mid } I a) fun f t1 q => ?_)⟩
  cases f <;> first
    | exact q
    | (obtain ⟨σ2, H2, I2, q⟩ := q
       exact h2.run pins t1 σ2 H2 D I2 (b σ2 H2 q))
/-- a list or a tuple, walked -/
@[irreducible] def iAny (K : PySem.W.Frag) (tl : TE) : TI := fun σ H R => tl σ H fun x H1 => ∃ a, x = .ref a ∧ (((∃ xs, SqL K H1 a xs) ∧ R (Itl K a) H1) ∨ ((∃ xs, SqT K H1 a xs) ∧ R (Itt K a) H1))
theorem pi_any {tg l : Expr} {tl : TE} (hl : PE X l tl) : PI X tg l (iAny X.K tl) := by
  refine ⟨fun pins s σ H R I h => ?_⟩
  unfold iAny at h
  refine thn (hl.run pins s σ H _ I h) fun v t1 ⟨y, H1, I1, r1, q1⟩ => ?_
  obtain ⟨a, e, q⟩ := q1
  subst e
  cases r1
  have new : ∀ b ∈ [t1.heap.objs.size], FpOk X pins H1 b := fun b hb => by
    have e : b = t1.heap.objs.size := by simpa using hb
    rw [e]
    exact I1.fpOk (Nat.le_refl _) (I1.hok.fresh (Nat.le_refl _))
  rcases q with ⟨⟨xs, hq⟩, q⟩ | ⟨⟨xs, hq⟩, q⟩
  · obtain ⟨its, rv, p, hz⟩ := I1.list hq
    exact wpAny_pyIter_list p.isList ⟨t1.heap.objs.size, [t1.heap.objs.size], _, _, H1, rfl, I1.kept (t' := t1.toks) fun b o e => Heap.get?_push_of_some _ e, turn_list a _, ⟨_, Heap.get?_push_size _ rfl, rfl, rfl⟩, new, q⟩
  · obtain ⟨its, rv, p, hz⟩ := I1.tuple hq
    exact wpAny_pyIter_tuple (show t1.heap.IsTuple a its.toArray from p) ⟨t1.heap.objs.size, [t1.heap.objs.size], _, _, H1, rfl, I1.kept (t' := t1.toks) fun b o e => Heap.get?_push_of_some _ e, turn_tuple a _, ⟨_, Heap.get?_push_size _ rfl, rfl, rfl⟩, new, q⟩
end
end VW

set_option maxHeartbeats 4000000
/-! What a growing list does not touch; comprehensions and loops that gather. -/
namespace VW
open PySem PySem.Spec PyProof.Rows L2

theorem iteY {c A B : Prop} [Decidable c] (hc : c) (h : A) : if decide c = true then A else B := by
  rw [decide_eq_true hc]
  exact iteT h
theorem iteN {c A B : Prop} [Decidable c] (hc : ¬ c) (h : B) : if decide c = true then A else B := by
  rw [decide_eq_false hc]
  exact iteF h
/-- the negated test -/
theorem iteNY {c A B : Prop} [Decidable c] (hc : ¬ c) (h : A) : if (!decide c) = true then A else B := by
  rw [decide_eq_false hc]
  exact iteT h
theorem ite2D {c A B : Prop} [Decidable c] (h1 : c → A) (h2 : ¬ c → B) : if decide c = true then A else B := by
  by_cases h : c
  · exact iteY h (h1 h)
  · exact iteN h (h2 h)

/-- all objects but lists are as they were -/
def Keep (H H' : Hp) : Prop := ∀ b o, H b = some o → (∀ xs, o ≠ .lst xs) → H' b = some o
theorem Keep.refl {H : Hp} : Keep H H := fun _ _ h _ => h
theorem Keep.trans {H H1 H2 : Hp} (a : Keep H H1) (b : Keep H1 H2) : Keep H H2 := fun c o h n => b c o (a c o h n) n
theorem Same.keep {H H' : Hp} (s : Same H H') : Keep H H' := fun b o h _ => s b o h
theorem Keep.put {H : Hp} {p : Addr} {xs ys : List V} (h : H p = some (.lst xs)) : Keep H (upd H p (.lst ys)) := fun b o e n => by
  have hb : b ≠ p := fun z => by
    subst z
    rw [h] at e
    exact n xs (Option.some.inj e).symm
  rw [upd_ne hb]
  exact e
/-- a way of standing that reads no list -/
class ML {α : Type} (R : Rp α) : Prop where
  keep : ∀ {a : α} {v : V} {H H' : Hp}, Keep H H' → R a v H → R a v H'
theorem TupAt.keep {H H' : Hp} {v : V} {vs : List V} (s : Keep H H') (h : TupAt H v vs) : TupAt H' v vs := let ⟨a, e, h⟩ := h; ⟨a, e, s _ _ h fun _ z => nomatch z⟩
section
variable {α : Type} {R : Rp α} [ML R]
instance : ML rInt := ⟨fun _ h => h⟩
instance : ML rNat := ⟨fun _ h => h⟩
instance : ML rStr := ⟨fun _ h => h⟩
instance : ML rBl := ⟨fun _ h => h⟩
instance : ML (rOpt R) := ⟨fun {a v H H'} s h => by
  cases a with
  | none => exact h
  | some x => exact ML.keep (R := R) s h⟩
theorem All2.keep {H H' : Hp} {xs : List α} {vs : List V} (s : Keep H H') (h : All2 R H xs vs) : All2 R H' xs vs := h.imp fun _ _ q => ML.keep s q
instance : ML (rT R) := ⟨fun s h => let ⟨a, vs, e, h1, h2⟩ := h; ⟨a, vs, e, s _ _ h1 (fun _ z => nomatch z), h2.keep s⟩⟩
instance : ML rRef := ⟨fun s h => TupAt.keep s h⟩
instance : ML rNN := ⟨fun s h => TupAt.keep s h⟩
instance : ML rEv := ⟨fun s h => TupAt.keep s h⟩
instance : ML rIs := ⟨fun s h => TupAt.keep s h⟩
instance : ML rSpot := ⟨fun s h => let ⟨r, h1, h2⟩ := h; ⟨r, h1.keep s, ML.keep s h2⟩⟩
instance : ML rNum := ⟨fun s h => let ⟨r, h1, h2⟩ := h; ⟨r, h1.keep s, ML.keep s h2⟩⟩
instance {C : Addr} : ML (rLine C) := ⟨fun s h => let ⟨a, dx, e, h1⟩ := h; ⟨a, dx, e, s _ _ h1 fun _ z => nomatch z⟩⟩
instance {C : Addr} : ML (rStmt C) := ⟨fun s h => let ⟨a, dx, g, t, e, h1, h2, h3⟩ := h; ⟨a, dx, g, t, e, s _ _ h1 (fun _ z => nomatch z), ML.keep s h2, ML.keep s h3⟩⟩
instance {CL CS C : Addr} : ML (rLoop CL CS C) := ⟨fun s h => let ⟨a, dx, l, t, d, e, h1, h2, h3, h4⟩ := h; ⟨a, dx, l, t, d, e, s _ _ h1 (fun _ z => nomatch z), ML.keep s h2, ML.keep s h3, s _ _ h4 fun _ z => nomatch z⟩⟩
end

/-! ### a list under making: it stands at D, all that was tracked at H0 is kept -/
def Mk2 {β : Type} (S : Rp β) (H0 : Hp) (D : Addr) (bs : List β) (H : Hp) : Prop := Same H0 H ∧ ∃ acc, H D = some (.lst acc) ∧ All2 S H bs acc
section
variable {β : Type} {S : Rp β} [ML S] {H0 H H' : Hp} {D : Addr} {bs cs : List β} {acc zs : List V}
theorem Mk2.new (h : H0 D = none) : Mk2 S H0 D [] (upd H0 D (.lst [])) := ⟨same_new h, [], upd_same, True.intro⟩
theorem Mk2.grow (h0 : H0 D = none) (m : Mk2 S H0 D bs H) (s : Same H H') : Mk2 S H0 D bs H' :=
  let ⟨s0, acc, e, a⟩ := m; ⟨s0.trans s, acc, s _ _ e, a.keep (Same.keep s)⟩
/-- items behind it -/
theorem Mk2.app (h0 : H0 D = none) (s0 : Same H0 H) (e : H D = some (.lst acc)) (a : All2 S H bs acc) (z : All2 S H cs zs) : Mk2 S H0 D (bs ++ cs) (upd H D (.lst (acc ++ zs))) :=
  ⟨Same.put s0 h0, acc ++ zs, upd_same, (a.append z).keep (Keep.put e)⟩
theorem Mk2.snoc {c : β} {v : V} (h0 : H0 D = none) (s0 : Same H0 H) (e : H D = some (.lst acc)) (a : All2 S H bs acc) (z : S c v H) : Mk2 S H0 D (bs ++ [c]) (upd H D (.lst (acc ++ [v]))) :=
  Mk2.app h0 s0 e a ⟨z, True.intro⟩
theorem Mk2.done (m : Mk2 S H0 D bs H) : rL S bs (.ref D) H := let ⟨_, acc, e, a⟩ := m; ⟨D, acc, rfl, e, a⟩
end
theorem all2_len {α : Type} {S : Rp α} {H : Hp} {bs : List α} {acc : List V} (a : All2 S H bs acc) (h : bs.length ≤ 1000000) : acc.length < sizeLine := by
  rw [← a.length, sizeLine_eq]
  omega
theorem len_le {n : Nat} (h : n ≤ 1000000) : n < sizeLine := by
  rw [sizeLine_eq]
  omega

/-! ### comprehensions -/
section
variable {J : It} {n : Nat} {G : Hp → Prop} {Y : Nat → Hp → V → Hp → Prop} {β : Type} {S : Rp β} [ML S] {g : TG} {tt : TT} {te : TE} {vs : List Nat} {σ : L2.St} {H0 : Hp} {D : Addr} {Qd : Hp → Prop}
/-- each item that passes gives one; f: which, by the turn -/
theorem lc_opt (f : Nat → Option β) (w : Walk J n G Y) (h0 : H0 D = none) (hn : n ≤ 1000000) (hG : ∀ H, Same H0 H → G H)
    (hs : ∀ i x H H' (N : VK) (M : Hp → Prop), i < n → Same H0 H → Y i H x H' → (∀ c y H4, f i = some c → Same H H4 → S c y H4 → N y H4) → (∀ H4, f i = none → Same H H4 → M H4) →
      g x (wipe σ vs) H' fun σ2 H2 => wipe σ2 vs = wipe σ vs ∧ tt σ2 H2 fun b H3 => if b = true then te σ2 H3 N else M H3)
    (hd : ∀ H, Mk2 S H0 D ((List.range n).filterMap f) H → Qd H) :
    ∃ W : Nat → Nat → Hp → Prop, (∃ m, W 0 m (upd H0 D (.lst []))) ∧ ∀ i m H, W i m H →
      (J.stop i H ∧ Qd H) ∨ (J.go i H ∧ ∃ Nx : Hp → Prop, (∀ H', Nx H' → ∃ m', m' < m ∧ W (i + 1) m' H') ∧ ∀ x H', J.yld i H x H' → g x (wipe σ vs) H' fun σ2 H2 => wipe σ2 vs = wipe σ vs ∧ tt σ2 H2 fun b H3 =>
        if b = true then te σ2 H3 fun y H4 => ∃ acc, H4 D = some (.lst acc) ∧ acc.length < sizeLine ∧ Nx (upd H4 D (.lst (acc ++ [y]))) else Nx H3) := by
  refine lc_it w (fun i H => Mk2 S H0 D ((List.range i).filterMap f) H) (Mk2.new h0) (fun i H _ p => hG H p.1) (fun i x H H' hi p y => ?_) hd
  refine hs i x H H' _ _ hi p.1 y (fun c z H4 e s4 hz => ?_) fun H4 e s4 => ?_
  · obtain ⟨s0, acc, e1, a⟩ := p.grow h0 s4
    refine ⟨acc, e1, ?_, ?_⟩
    · refine all2_len a ?_
      have h1 : ((List.range i).filterMap f).length ≤ (List.range i).length := List.length_filterMap_le _ _
      rw [List.length_range] at h1
      omega
    · rw [List.range_succ, List.filterMap_append]
      simp only [List.filterMap_cons, e, List.filterMap_nil]
      exact Mk2.snoc h0 s0 e1 a hz
  · rw [List.range_succ, List.filterMap_append]
    simp only [List.filterMap_cons, e, List.filterMap_nil, List.append_nil]
    exact p.grow h0 s4
/-- without a test -/
theorem lc_map (f : Nat → β) (w : Walk J n G Y) (h0 : H0 D = none) (hn : n ≤ 1000000) (hG : ∀ H, Same H0 H → G H)
    (hs : ∀ i x H H' (N : VK), i < n → Same H0 H → Y i H x H' → (∀ y H4, Same H H4 → S (f i) y H4 → N y H4) → g x (wipe σ vs) H' fun σ2 H2 => wipe σ2 vs = wipe σ vs ∧ te σ2 H2 N)
    (hd : ∀ H, Mk2 S H0 D ((List.range n).map f) H → Qd H) :
    ∃ W : Nat → Nat → Hp → Prop, (∃ m, W 0 m (upd H0 D (.lst []))) ∧ ∀ i m H, W i m H →
      (J.stop i H ∧ Qd H) ∨ (J.go i H ∧ ∃ Nx : Hp → Prop, (∀ H', Nx H' → ∃ m', m' < m ∧ W (i + 1) m' H') ∧ ∀ x H', J.yld i H x H' → g x (wipe σ vs) H' fun σ2 H2 => wipe σ2 vs = wipe σ vs ∧ tYes σ2 H2 fun b H3 =>
        if b = true then te σ2 H3 fun y H4 => ∃ acc, H4 D = some (.lst acc) ∧ acc.length < sizeLine ∧ Nx (upd H4 D (.lst (acc ++ [y]))) else Nx H3) := by
  refine lc_it w (fun i H => Mk2 S H0 D ((List.range i).map f) H) (Mk2.new h0) (fun i H _ p => hG H p.1) (fun i x H H' hi p y => ?_) hd
  have step : ∀ (z : V) (H4 : Hp), Same H H4 → S (f i) z H4 → ∃ acc, H4 D = some (.lst acc) ∧ acc.length < sizeLine ∧ Mk2 S H0 D ((List.range (i + 1)).map f) (upd H4 D (.lst (acc ++ [z]))) := fun z H4 s4 hz => by
    obtain ⟨s0, acc, e1, a⟩ := p.grow h0 s4
    refine ⟨acc, e1, all2_len a (by simp; omega), ?_⟩
    rw [List.range_succ, List.map_append]
    exact Mk2.snoc h0 s0 e1 a hz
  have q := hs i x H H' _ hi p.1 y step
  have e : ∀ σ2 H2, (tYes σ2 H2 fun b H3 => if b = true then te σ2 H3 fun y H4 => ∃ acc, H4 D = some (.lst acc) ∧ acc.length < sizeLine ∧ Mk2 S H0 D ((List.range (i + 1)).map f) (upd H4 D (.lst (acc ++ [y]))) else Mk2 S H0 D ((List.range (i + 1)).map f) H3) =
      te σ2 H2 fun y H4 => ∃ acc, H4 D = some (.lst acc) ∧ acc.length < sizeLine ∧ Mk2 S H0 D ((List.range (i + 1)).map f) (upd H4 D (.lst (acc ++ [y]))) := fun σ2 H2 => by
    unfold tYes
    dsimp only
    rw [if_pos rfl]
  simp only [e]
  exact q
end
theorem range_map_get {α β : Type} [Inhabited α] (l : List α) (f : α → β) : (List.range l.length).map (fun i => f (l.getD i default)) = l.map f := by
  apply List.ext_getElem
  · simp
  · intro i h1 h2
    simp at h1
    simp [List.getD_eq_getElem?_getD, h1]
theorem range_filterMap_get {α β : Type} [Inhabited α] (l : List α) (f : α → Option β) : (List.range l.length).filterMap (fun i => f (l.getD i default)) = l.filterMap f := by
  have e : (List.range l.length).map (fun i => l.getD i default) = l := by
    rw [show (fun i => l.getD i default) = fun i => id (l.getD i default) from rfl, range_map_get l id, List.map_id]
  have e2 : (List.range l.length).filterMap (fun i => f (l.getD i default)) = ((List.range l.length).map (fun i => l.getD i default)).filterMap f := by
    rw [List.filterMap_map]
    rfl
  rw [e2, e]
end VW

set_option maxHeartbeats 4000000
/-! The layer's rules whose readings name the written part, with that part named ahead (a comprehension's block has it too). -/
namespace VW
open PySem PySem.Spec PyProof.Rows L2
section
variable {X : Cx} {K : PySem.W.Frag}
theorem sl_listK (e : X.K = K := by rfl) : SlR X (rSlL K) := by
  subst e
  exact sl_list
theorem sl_tupK (e : X.K = K := by rfl) : SlR X (rSlA K) := by
  subst e
  exact sl_tupA
theorem ix_listK (e : X.K = K := by rfl) : IxR X (rIxL K) := by
  subst e
  exact ix_list
theorem ix_tupK (e : X.K = K := by rfl) : IxR X (rIxT K) := by
  subst e
  exact ix_tup
theorem ix_seqK (e : X.K = K := by rfl) : IxR X (rIx K) := by
  subst e
  exact ix_seq
theorem op_inK (e : X.K = K := by rfl) : OpR X (compareOp .In) (rIn K false) := by
  subst e
  exact op_in_seq
theorem op_notInK (e : X.K = K := by rfl) : OpR X (compareOp .NotIn) (rIn K true) := by
  subst e
  exact op_notIn_seq
theorem op_eqDK (hu : X.A.units + 64 < cLine) (e : X.K = K := by rfl) : OpR X (compareOp .Eq) (rEqD K) := by
  subst e
  exact op_eqD hu
theorem op_neDK (hu : X.A.units + 64 < cLine) (e : X.K = K := by rfl) : OpR X (compareOp .NotEq) (rNeD K) := by
  subst e
  exact op_neD hu
theorem op_catTK (e : X.K = K := by rfl) : OpR X (binaryOp .Add) (rCatA K) := by
  subst e
  exact op_catA
def rLenS (K : PySem.W.Frag) : List V → Hp → VK → Prop := fun xs H Q => ∃ p ys, xs = [.ref p] ∧ (SqL K H p ys ∨ SqT K H p ys) ∧ Q (.int (ys.length : Int)) H
theorem call_lenK (e : X.K = K := by rfl) : CallR X (.builtin "len") (rLenS K) := by
  subst e
  exact call_len_seq
def rLenA (K : PySem.W.Frag) : List V → Hp → VK → Prop := fun xs H Q => ∃ x n, xs = [x] ∧ LenV K x H n ∧ Q (.int (n : Int)) H
theorem call_lenAK (e : X.K = K := by rfl) : CallR X (.builtin "len") (rLenA K) := by
  subst e
  exact call_len
def rListOf (K : PySem.W.Frag) : List V → Hp → VK → Prop := fun xs H Q => ∃ p ys, xs = [.ref p] ∧ (SqL K H p ys ∨ SqT K H p ys) ∧ ∀ l, H l = none → Q (.ref l) (upd H l (.lst ys))
theorem call_listK (e : X.K = K := by rfl) : CallR X (.type "list") (rListOf K) := by
  subst e
  exact call_list_of
def rTupOf (K : PySem.W.Frag) : List V → Hp → VK → Prop := fun xs H Q => ∃ p ys, xs = [.ref p] ∧ ((SqL K H p ys ∧ ∀ l, H l = none → Q (.ref l) (upd H l (.tup ys))) ∨ (SqT K H p ys ∧ Q (.ref p) H))
theorem call_tupleK (e : X.K = K := by rfl) : CallR X (.type "tuple") (rTupOf K) := by
  subst e
  exact call_tuple_of
theorem call_isiK2 (e : X.K = K := by rfl) : CallR X (.builtin "isinstance") (rIsi K) := by
  subst e
  exact call_isi
theorem call_isiTK (e : X.K = K := by rfl) : CallR X (.builtin "isinstance") (rIsiT K) := by
  subst e
  exact call_isiT
theorem cr_allK (hc : X.calm = true) (e : X.K = K := by rfl) : CallR X (.builtin "all") (rAll K) := by
  subst e
  exact cr_all hc
theorem cr_maxK (hc : X.calm = true) (e : X.K = K := by rfl) : CallR X (.builtin "max") (rMax K) := by
  subst e
  exact cr_max hc
theorem call_sortK (hu : X.A.units + 64 < cLine) (e : X.K = K := by rfl) : CallR X (.builtin "sorted") (rSortTs K) := by
  subst e
  exact call_sortTs hu
variable {l e o ex : Expr} {es : List Expr} {tl ta to te : TE} {t : TA} {tg : Expr} {f : Str} {pos apos cpos p tpos : Pos} {ts : TGs} {k n kk : Nat} {name : Str} {ty id : String} {r : V → List V → Hp → VK → Prop} {elts : List Expr}
theorem pi_listK (hl : PE X l tl) (q : X.K = K := by rfl) : PI X tg l (iList K tl) := by
  subst q
  exact pi_list hl
theorem pi_tupK (hl : PE X l tl) (q : X.K = K := by rfl) : PI X tg l (iTup K tl) := by
  subst q
  exact pi_tup hl
theorem pi_anyK (hl : PE X l tl) (q : X.K = K := by rfl) : PI X tg l (iAny K tl) := by
  subst q
  exact pi_any hl
theorem pe_fldK (he : PE X e ta) (hb : attributeBase e f X.env (eval e X.env) = eval e X.env) (q : X.K = K := by rfl) : PE X (.Attribute e f pos) (tFld K ta f) := by
  subst q
  exact pe_fld he hb
theorem pg_tupK (n : Nat) (hc : X.calm = true) (h : PGs X es ts) (hn : (assignEach es X.env).length = n := by rfl) (hst : (assignEach es X.env).findIdx? (·.1) = none := by rfl) (q : X.K = K := by rfl) : PG X (.Tuple es k pos) (gTup K n ts) := by
  subst q
  exact pg_tup hc h hn hst
theorem pg_unlK (n : Nat) (hc : X.calm = true) (h : PGs X es ts) (hn : (assignEach es X.env).length = n := by rfl) (hst : (assignEach es X.env).findIdx? (·.1) = none := by rfl) (q : X.K = K := by rfl) : PG X (.Tuple es k pos) (gUnl K n ts) := by
  subst q
  exact pg_unl hc h hn hst
theorem pe_bmK (pa : PlainAttrs ty) (slot : Slot ty name id) (hty : typeOf (.builtin id) = pure (.type "method_descriptor")) (hm : MtR X id r) (ho : PE X o to) (ha : PA X (e :: es) t)
    (hbase : attributeBase o name X.env (eval o X.env) = eval o X.env := by rfl)
    (hfew : ((backTo cpos (starEach (e :: es) X.env)).all (fun x => !x.1) && (backToKw cpos (keywordEach [] X.env)).all (fun x => x.1.isSome)
      && decide ((e :: es).length + ([] : List Keyword).length + (if ([] : List Keyword).isEmpty then 0 else 1) < 30)) = true := by rfl)
    (hline : (apos.endLine == cpos.line) = true := by rfl) (hs : starEach (e :: es) X.env = (false, eval e X.env) :: starEach es X.env := by rfl) (hplain : (backTo cpos (starEach es X.env)).any (·.1) = false := by rfl) (q : X.K = K := by rfl) :
    PE X (.Call (.Attribute o name apos) (e :: es) [] cpos) (tBM K ty r to t) := by
  subst q
  exact pe_bm pa slot hty hm ho ha hbase hfew hline hs hplain
theorem pi_enumK (hg : Gl X "enumerate") (hm : X.mg "enumerate" = none) (ha : PA X [e] t) (hs : starEach [e] X.env = [(false, eval e X.env)] := by rfl) (q : X.K = K := by rfl) : PI X (.Tuple elts kk tpos) (.Call (.Name "enumerate" p) [e] [] pos) (iEnum K t) := by
  subst q
  exact pi_enum hg hm ha hs
theorem pi_enumTK (hg : Gl X "enumerate") (hm : X.mg "enumerate" = none) (ha : PA X [e] t) (hs : starEach [e] X.env = [(false, eval e X.env)] := by rfl) (q : X.K = K := by rfl) : PI X (.Tuple elts kk tpos) (.Call (.Name "enumerate" p) [e] [] pos) (iEnumT K t) := by
  subst q
  exact pi_enumT hg hm ha hs
end
end VW

set_option maxHeartbeats 4000000
namespace VW
open PySem PySem.Spec PyProof.Rows L2
/-! ### the form of a promise: what stands in, what comes out; the heap only grows -/
def sp1 {α : Type} (A : α → V → Hp → Prop) (R : α → V → Hp → Prop) : Sp := fun vs H Q _ => ∃ x v, vs = [v] ∧ A x v H ∧ ∀ u H', Same H H' → R x u H' → Q u H'
def sp2 {α β : Type} (A : α → V → Hp → Prop) (B : α → β → V → Hp → Prop) (R : α → β → V → Hp → Prop) : Sp := fun vs H Q _ => ∃ x y v1 v2, vs = [v1, v2] ∧ A x v1 H ∧ B x y v2 H ∧ ∀ u H', Same H H' → R x y u H' → Q u H'
def sp3 {α β γ : Type} (A : α → V → Hp → Prop) (B : α → β → V → Hp → Prop) (C : α → β → γ → V → Hp → Prop) (R : α → β → γ → V → Hp → Prop) : Sp := fun vs H Q _ => ∃ x y z v1 v2 v3, vs = [v1, v2, v3] ∧ A x v1 H ∧ B x y v2 H ∧ C x y z v3 H ∧ ∀ u H', Same H H' → R x y z u H' → Q u H'
theorem sp1_len {α : Type} {A R : α → V → Hp → Prop} {vs H Q E} (h : sp1 A R vs H Q E) : vs.length = 1 := by
  obtain ⟨_, _, rfl, _⟩ := h
  rfl
theorem sp2_len {α β : Type} {A : α → V → Hp → Prop} {B R : α → β → V → Hp → Prop} {vs H Q E} (h : sp2 A B R vs H Q E) : vs.length = 2 := by
  obtain ⟨_, _, _, _, rfl, _⟩ := h
  rfl
theorem sp3_len {α β γ : Type} {A : α → V → Hp → Prop} {B : α → β → V → Hp → Prop} {C R : α → β → γ → V → Hp → Prop} {vs H Q E} (h : sp3 A B C R vs H Q E) : vs.length = 3 := by
  obtain ⟨_, _, _, _, _, _, rfl, _⟩ := h
  rfl
section
variable {P : Program} {w : World} {K : PySem.W.Frag} {mg : Str → Option Value} {base : Heap}
theorem ok_is_integer (T : Txt K mg) : FnOk P w K mg base CX0 1 T.is_integer.f T.is_integer.fd ["value"] (sp1 rInt (fun _ => rBl true)) := by
  refine dok T.is_integer.F sc_is_integer (fun vs H Q E h => ?_) (fun cdv A outer s H vs Q E hr h => ?_)
  · exact sp1_len h
  · obtain ⟨n, v, rfl, rfl, q⟩ := h
    refine ⟨_, (pss_one (ps_ret (pe_and (pe_callB (call_isiK2 (K := K)) (by rfl) T.isinstance_ (by decide +kernel) (pa_cons (pv 0) (pa_cons (pe_bltn (v := .ty "int") (by rfl) T.int_ (by decide +kernel) rfl) pa_nil))) (pe_one (pe_not (pe_callB (call_isiK2 (K := K)) (by rfl) T.isinstance_ (by decide +kernel) (pa_cons (pv 0) (pa_cons (pe_bltn (v := .ty "bool") (by rfl) T.bool_ (by decide +kernel) rfl) pa_nil)))))))), ?_⟩
    refine ⟨_, rfl, _, _, _, _, true, rfl, .ty "int", .base (.int n), kit_ty (by decide +kernel), true, rfl, iteT ?_⟩
    exact ⟨_, rfl, _, _, _, _, false, rfl, .ty "bool", .base (.int n), kit_ty (by decide +kernel), false, rfl, q _ _ (Same.refl _) rfl⟩
theorem ok_is_between (T : Txt K mg) : FnOk P w K mg base CX0 2 T.is_between.f T.is_between.fd ["value", "low", "high"] (sp3 rInt (fun _ => rInt) (fun _ _ => rInt) (fun n a b => rBl (decide (a ≤ n ∧ n ≤ b)))) := by
  refine dok T.is_between.F sc_is_between (fun vs H Q E h => ?_) (fun cdv A outer s H vs Q E hr h => ?_)
  · exact sp3_len h
  · obtain ⟨n, a, b, _, _, _, rfl, rfl, rfl, rfl, q⟩ := h
    refine ⟨_, (pss_one (ps_ret (pe_and (pcall T.is_integer (ok_is_integer T) (hr.mono (by decide)) (pa_cons (pv 0) pa_nil)) (pe_one (pe_chain op_le op_le (pv 1) (pv 0) (pv 2)))))), ?_⟩
    refine ⟨_, rfl, n, _, rfl, rfl, fun u H1 s1 hu => ?_⟩
    cases hu
    refine ⟨true, rfl, iteT ?_⟩
    refine ⟨_, rfl, _, rfl, a, n, rfl, rfl, _, rfl, ?_⟩
    by_cases h1 : a ≤ n
    · rw [decide_eq_true h1]
      refine iteT ⟨_, rfl, n, b, rfl, rfl, q _ _ s1 ?_⟩
      show V.bl (decide (n ≤ b)) = V.bl (decide (a ≤ n ∧ n ≤ b))
      simp [h1]
    · rw [decide_eq_false h1]
      refine iteF (q _ _ s1 ?_)
      show V.bl false = V.bl (decide (a ≤ n ∧ n ≤ b))
      simp [h1]
theorem ok_is_offset (T : Txt K mg) : FnOk P w K mg base CX0 3 T.is_offset.f T.is_offset.fd ["value"] (sp1 rInt (fun n => rBl (decide (-9 ≤ n ∧ n ≤ 9)))) := by
  refine dok T.is_offset.F sc_is_offset (fun vs H Q E h => ?_) (fun cdv A outer s H vs Q E hr h => ?_)
  · exact sp1_len h
  · obtain ⟨n, _, rfl, rfl, q⟩ := h
    refine ⟨_, (pss_one (ps_ret (pcall T.is_between (ok_is_between T) (hr.mono (by decide)) (pa_cons (pv 0) (pa_cons (pe_un un_neg (pe_glob (v := .int 9) rfl T.c_MOST_OFFSET ⟨_, rfl⟩)) (pa_cons (pe_glob (v := .int 9) rfl T.c_MOST_OFFSET ⟨_, rfl⟩) pa_nil)))))), ?_⟩
    exact ⟨_, rfl, 9, rfl, n, -9, 9, _, _, _, rfl, rfl, rfl, rfl, fun u H1 s1 hu => q _ _ s1 hu⟩
end
end VW

set_option maxHeartbeats 4000000
namespace VW
open PySem PySem.Spec PyProof.Rows L2
theorem all2_bl {H : Hp} : ∀ {bs : List Bool} {vs : List V}, All2 rBl H bs vs → vs = bs.map V.bl
  | [], [], _ => rfl
  | b :: bs, v :: vs, h => by
    have h1 : v = .bl b := h.1
    rw [h1, all2_bl h.2, List.map_cons]
  | [], _ :: _, h => h.elim
  | _ :: _, [], h => h.elim
theorem cut_take {α : Type} (xs : List V) (i : Nat) : cutV xs none (some (i : Int)) = xs.take i := by
  unfold cutV
  rw [show HT.sIx xs.length xs.length (some (i : Int)) = min i xs.length from HT.sIx_nat xs.length _ i, HT.sIx_none, List.drop_zero]
  rcases Nat.le_total i xs.length with h | h
  · rw [Nat.min_eq_left h, Nat.sub_zero]
  · rw [Nat.min_eq_right h, Nat.sub_zero, List.take_length, List.take_of_length_le h]
theorem flat_strs : ∀ zs : List Str, (zs.map V.str).all flatV = true
  | [] => rfl
  | z :: zs => by
    rw [List.map_cons, List.all_cons, flat_strs zs]
    rfl
theorem flat_ints : ∀ zs : List Int, (zs.map V.int).all flatV = true
  | [] => rfl
  | z :: zs => by
    rw [List.map_cons, List.all_cons, flat_ints zs]
    rfl
theorem inV_str (z : Str) : ∀ zs : List Str, inV (.str z) (zs.map V.str) = decide (z ∈ zs)
  | [] => by simp [inV]
  | a :: zs => by
    have ih := inV_str z zs
    unfold inV at ih ⊢
    rw [List.map_cons, List.any_cons, ih]
    show ((a == z) || decide (z ∈ zs)) = _
    by_cases e : a = z
    · subst e
      simp
    · have e2 : (a == z) = false := beq_eq_false_iff_ne.mpr e
      rw [e2, Bool.false_or]
      have e3 : ¬ z = a := fun q => e q.symm
      simp [e3]
section
variable {P : Program} {w : World} {K : PySem.W.Frag} {mg : Str → Option Value} {base : Heap}
theorem ok_is_name (T : Txt K mg) : FnOk P w K mg base CX0 1 T.is_name.f T.is_name.fd ["value"] (sp1 (fun z v H => rStr z v H ∧ NameOk z) (fun _ => rBl true)) := by
  refine dok T.is_name.F sc_is_name (fun vs H Q E h => ?_) (fun cdv A outer s H vs Q E hr h => ?_)
  · exact sp1_len h
  · obtain ⟨z, v, rfl, ⟨rfl, h1, h2, h3⟩, q⟩ := h
    have hz : z.length ≤ sizeLine := by
      rw [sizeLine_eq]
      omega
    refine ⟨_, (pss_cons (ps_if (PW.pt (pw_or (pt_not (pt_val (pe_callB (call_isiK2 (K := K)) (by rfl) T.isinstance_ (by decide +kernel) (pa_cons (pv 0) (pa_cons (pe_bltn (v := .ty "str") (by rfl) T.str_ (by decide +kernel) rfl) pa_nil))))) (pw_or1 (pt_not (pt_chain op_le op_le pe_int (pe_callB call_len_str (by rfl) T.len_ (by decide +kernel) (pa_cons (pv 0) pa_nil)) (pe_glob (v := .int 8) rfl T.c_MOST_LETTERS ⟨_, rfl⟩)))))) (pss_one (ps_ret pe_bl)) pss_nil)
      (pss_one (ps_ret (pe_callB (cr_allK (K := K) rfl) (by rfl) T.all_ (by decide +kernel) (pa_cons (pe_lc (own := [("sign", 1)]) rfl sc_is_name.nd (pi_str (pv 0)) (blkOk_by (own := [("sign", 1)]) (N := N_is_name) (sc := defScope s_is_name) (by decide +kernel)) (fun _ _ _ _ _ => (pg_name (i := 1) sc_is_name.nd rfl (.inl rfl))) (fun _ _ _ _ _ => pts_nil) (fun _ _ _ _ _ => (pe_cmpR op_in_sign (pv 1) (pe_glob (v := .str letters26) rfl T.c_LETTERS ⟨_, rfl⟩) (by with_unfolding_all rfl)))) pa_nil))))), ?_⟩
    refine ⟨_, rfl, _, _, _, _, true, rfl, .ty "str", .base (.str z), kit_ty (by decide +kernel), true, rfl, iteF ?_⟩
    refine ⟨_, rfl, z, rfl, hz, 1, z.length, rfl, rfl, _, rfl, iteY (by omega) ?_⟩
    refine ⟨z.length, 8, rfl, rfl, _, rfl, iteNS (by omega) ?_⟩
    refine ⟨_, rfl, z, rfl, fun D nD => lc_map (S := rBl) (fun _ => true) walk_str nD (by show z.cps.size ≤ 1000000; have e : z.length = z.cps.size := rfl; omega) (fun _ _ => True.intro) (fun i x H1 H2 N hi s1 hy k => ?_) fun H1 m => ?_⟩
    · obtain ⟨rfl, c, hc, rfl⟩ := hy
      refine ⟨rfl, _, rfl, c, letters26, rfl, rfl, k _ _ (Same.refl _) ?_⟩
      have hm : c ∈ z.cps.toList := by
        rw [List.mem_iff_getElem?]
        exact ⟨i, by simpa using hc⟩
      show V.bl (decide _) = V.bl true
      rw [decide_eq_true (h3 c hm)]
    · obtain ⟨s1, acc, e1, a1⟩ := m
      have e2 := all2_bl a1
      subst e2
      refine ⟨D, _, rfl, .inl (.inl e1), q _ _ s1 ?_⟩
      show V.bl (List.all _ id) = V.bl true
      simp
theorem ok_is_ref (T : Txt K mg) : FnOk P w K mg base CX0 4 T.is_ref.f T.is_ref.fd ["value"] (sp1 (fun r v H => rRef r v H ∧ NameOk r.1 ∧ -9 ≤ r.2 ∧ r.2 ≤ 9) (fun _ => rBl true)) := by
  refine dok T.is_ref.F sc_is_ref (fun vs H Q E h => ?_) (fun cdv A outer s H vs Q E hr h => ?_)
  · exact sp1_len h
  · obtain ⟨r, v, rfl, ⟨⟨a, rfl, ea⟩, hn, h1, h2⟩, q⟩ := h
    have hA : SqT K H a [.str r.1, .int r.2] := .inl (.inl ea)
    refine ⟨_, (pss_one (ps_ret (pe_and (pe_callB (call_isiK2 (K := K)) (by rfl) T.isinstance_ (by decide +kernel) (pa_cons (pv 0) (pa_cons (pe_bltn (v := .ty "tuple") (by rfl) T.tuple_ (by decide +kernel) rfl) pa_nil))) (pe_and (pe_cmpR op_eq (pe_callB (call_lenK (K := K)) (by rfl) T.len_ (by decide +kernel) (pa_cons (pv 0) pa_nil)) pe_int (nomark _)) (pe_and (pcall T.is_name (ok_is_name T) (hr.mono (by decide)) (pa_cons (pe_ix (ix_tupK (K := K)) (pv 0) pe_int (fun _ _ => rfl)) pa_nil)) (pe_one (pcall T.is_offset (ok_is_offset T) (hr.mono (by decide)) (pa_cons (pe_ix (ix_tupK (K := K)) (pv 0) pe_int (fun _ _ => rfl)) pa_nil)))))))), ?_⟩
    refine ⟨_, rfl, _, _, _, _, true, rfl, .ty "tuple", .base (.tup ea), kit_ty (by decide +kernel), true, rfl, iteT ?_⟩
    refine ⟨_, rfl, a, _, rfl, .inr hA, rfl, _, rfl, iteY rfl ?_⟩
    refine ⟨_, rfl, a, _, 0, .str r.1, rfl, rfl, hA, atI_nat (j := 0) rfl, r.1, _, rfl, ⟨rfl, hn⟩, fun u H1 s1 hu => ?_⟩
    cases hu
    refine ⟨true, rfl, iteT ?_⟩
    have hA1 : SqT K H1 a [.str r.1, .int r.2] := .inl (.inl (s1 _ _ ea))
    refine ⟨_, rfl, a, _, 1, .int r.2, rfl, rfl, hA1, atI_nat (j := 1) rfl, r.2, _, rfl, rfl, fun u H2 s2 hu => ?_⟩
    refine q _ _ (s1.trans s2) ?_
    rw [hu]
    show V.bl (decide _) = V.bl true
    rw [decide_eq_true ⟨h1, h2⟩]
theorem ok_are_unlike (T : Txt K mg) : FnOk P w K mg base CX0 1 T.are_unlike.f T.are_unlike.fd ["values"] (sp1 (fun zs v H => rL rStr zs v H ∧ zs.Nodup ∧ zs.length ≤ 1000) (fun _ => rBl true)) := by
  refine dok T.are_unlike.F sc_are_unlike (fun vs H Q E h => ?_) (fun cdv A outer s H vs Q E hr h => ?_)
  · exact sp1_len h
  · obtain ⟨zs, v, rfl, ⟨⟨a, vs, rfl, ea, h2⟩, hd, hl⟩, q⟩ := h
    have e2 := all2_str.mp h2
    subst e2
    refine ⟨_, (pss_one (ps_ret (pe_callB (cr_allK (K := K) rfl) (by rfl) T.all_ (by decide +kernel) (pa_cons (pe_lc (own := [("at", 1), ("value", 2)]) rfl sc_are_unlike.nd (pi_enumK (K := K) (by rfl) T.enumerate_ (pa_cons (pv 0) pa_nil)) (blkOk_by (own := [("at", 1), ("value", 2)]) (N := N_are_unlike) (sc := defScope s_are_unlike) (by decide +kernel)) (fun _ _ _ _ _ => (pg_tupK (K := K) 2 rfl (pgs_cons (pg_name (i := 1) sc_are_unlike.nd rfl (.inl rfl)) (pgs_cons (pg_name (i := 2) sc_are_unlike.nd rfl (.inl rfl)) pgs_nil)))) (fun _ _ _ _ _ => pts_nil) (fun _ _ _ _ _ => (pe_cmpR (op_notInK (K := K)) (pv 2) (pe_slice (sl_listK (K := K)) (pv 0) po_none (po_some (pv 1))) (by with_unfolding_all rfl)))) pa_nil)))), ?_⟩
    refine ⟨_, rfl, a, zs.map V.str, rfl, .inl (.inl ea), fun D nD => lc_map (S := rBl) (fun _ => true) walk_enum nD (by simp; omega) (fun H1 s1 => .inl (.inl (s1 _ _ ea))) (fun i x H1 H2 N hi s1 hy k => ?_) fun H1 m => ?_⟩
    · obtain ⟨Tp, x1, x2, rfl, nT, rfl, f1, f2⟩ := hy
      cases f1
      have s2 : Same H1 (upd H1 Tp (.tup [.int (i : Nat), x2])) := same_new nT
      have ea2 : (upd H1 Tp (.tup [.int (i : Nat), x2])) a = some (.lst (zs.map V.str)) := s2 _ _ (s1 _ _ ea)
      refine ⟨Tp, _, rfl, .inl (.inl upd_same), rfl, _, _, rfl, _, _, rfl, rfl, rfl, ?_⟩
      refine ⟨_, rfl, _, rfl, _, rfl, _, rfl, a, _, rfl, .inl (.inl ea2), fun p np => ?_⟩
      have f3 : (zs.map V.str)[i]? = some x2 := f2
      rw [List.getElem?_map] at f3
      obtain ⟨z, hz, rfl⟩ := Option.map_eq_some_iff.mp f3
      refine ⟨p, _, rfl, .inl (.inl (.inl upd_same)), rfl, ?_, k _ _ (s2.trans (same_new np)) ?_⟩
      · rw [cut_take (α := V), ← List.map_take]
        exact flat_strs _
      · rw [cut_take (α := V), ← List.map_take, inV_str]
        show V.bl (!decide _) = V.bl true
        have hni : z ∉ zs.take i := fun hm => by
          obtain ⟨j, hj⟩ := List.mem_iff_getElem?.mp hm
          have hji : j < i := by
            rcases Nat.lt_or_ge j i with c | c
            · exact c
            · rw [List.getElem?_take_eq_none c] at hj
              cases hj
          rw [List.getElem?_take_of_lt hji] at hj
          have := nd_ix hd hj hz
          omega
        rw [decide_eq_false hni]
        rfl
    · obtain ⟨s1, acc, e1, a1⟩ := m
      have e2 := all2_bl a1
      subst e2
      refine ⟨D, _, rfl, .inl (.inl e1), q _ _ s1 ?_⟩
      show V.bl (List.all _ id) = V.bl true
      simp
end
end VW

set_option maxHeartbeats 4000000
namespace VW
open PySem PySem.Spec PyProof.Rows L2
theorem lk_here {f : Str} {v : V} {r : List (Str × V)} : List.lookup f ((f, v) :: r) = some v := by
  have e : (f == f) = true := beq_self_eq_true f
  simp only [List.lookup, e]
theorem lk_next {f g : Str} {v : V} {x : Option V} {r : List (Str × V)} (h : (f == g) = false) (q : List.lookup f r = x) : List.lookup f ((g, v) :: r) = x := by
  simp only [List.lookup, h]
  exact q
theorem ks1 : (("kept_stride" : Str) == "kept_name") = false := by decide +kernel
theorem ks2 : (("kept_target" : Str) == "kept_name") = false := by decide +kernel
theorem ks3 : (("kept_sources" : Str) == "kept_name") = false := by decide +kernel
theorem ks4 : (("kept_sources" : Str) == "kept_target") = false := by decide +kernel
theorem ks5 : (("kept_statements" : Str) == "kept_lines") = false := by decide +kernel
theorem ks6 : (("strides" : Str) == "kept_lines") = false := by decide +kernel
theorem ks7 : (("strides" : Str) == "kept_statements") = false := by decide +kernel
theorem lineF_name (r : Str × Int) : (lineF r).lookup ("kept_name" : Str) = some (.str r.1) := lk_here
theorem lineF_stride (r : Str × Int) : (lineF r).lookup ("kept_stride" : Str) = some (.int r.2) := lk_next ks1 lk_here
theorem stmtF_name (d : Dd) (g s : V) : (stmtF d g s).lookup ("kept_name" : Str) = some (.str d.name) := lk_here
theorem stmtF_target (d : Dd) (g s : V) : (stmtF d g s).lookup ("kept_target" : Str) = some g := lk_next ks2 lk_here
theorem stmtF_sources (d : Dd) (g s : V) : (stmtF d g s).lookup ("kept_sources" : Str) = some s := lk_next ks3 (lk_next ks4 lk_here)
theorem loopF_lines (l s t : V) : (loopF l s t).lookup ("kept_lines" : Str) = some l := lk_here
theorem loopF_statements (l s t : V) : (loopF l s t).lookup ("kept_statements" : Str) = some s := lk_next ks5 lk_here
theorem loopF_strides (l s t : V) : (loopF l s t).lookup ("strides" : Str) = some t := lk_next ks6 (lk_next ks7 lk_here)
theorem putF_cons {f g : Str} {v x : V} {r : List (Str × V)} (h : ¬ g = f) : putF f v ((g, x) :: r) = (g, x) :: putF f v r := if_neg h
theorem lineF_put (r : Str × Int) : putF "kept_stride" (.int r.2) (putF "kept_name" (.str r.1) []) = lineF r := putF_cons (by decide +kernel)
theorem stmtF_put (d : Dd) (g s : V) : putF "kept_sources" s (putF "kept_target" g (putF "kept_name" (.str d.name) [])) = stmtF d g s := by
  rw [show putF "kept_target" g (putF "kept_name" (.str d.name) []) = ([("kept_name", .str d.name), ("kept_target", g)] : List (Str × V)) from putF_cons (by decide +kernel), putF_cons (by decide +kernel), putF_cons (by decide +kernel)]
  rfl
theorem loopF_put (l s t : V) : putF "strides" t (putF "kept_statements" s (putF "kept_lines" l [])) = loopF l s t := by
  rw [show putF "kept_statements" s (putF "kept_lines" l []) = ([("kept_lines", l), ("kept_statements", s)] : List (Str × V)) from putF_cons (by decide +kernel), putF_cons (by decide +kernel), putF_cons (by decide +kernel)]
  rfl
/-- all but p is as it was -/
def But (p : Addr) (H H' : Hp) : Prop := ∀ b o, H b = some o → b ≠ p → H' b = some o
theorem But.of {p : Addr} {H H' : Hp} (s : Same H H') : But p H H' := fun b o e _ => s b o e
theorem But.put {p : Addr} {H H' : Hp} {o : HO} (s : But p H H') : But p H (upd H' p o) := fun b x e n => by
  rw [upd_ne n]
  exact s b x e n
theorem But.then {p : Addr} {H H1 H2 : Hp} (s : But p H H1) (t : Same H1 H2) : But p H H2 := fun b x e n => t b x (s b x e n)
section
variable {P : Program} {w : World} {K : PySem.W.Frag} {mg : Str → Option Value} {base : Heap}
theorem ok_getter {C : Addr} {m qual f : Str} {st : Stmt} {fa : Addr} {fd : FuncData} {p1 p2 p3 : Pos} (F : FunD K m qual (defArgs st) (defBody st) (defScope st) [] [] fa fd) (S : FnScope ["self"] ["self"] (defScope st))
    (hb : defBody st = [.Return (some (.Attribute (.Name "self" p1) f p2)) p3]) (c : Cls K C) (n : NoAttr K C f) : FnOk P w K mg base CX0 1 fa fd ["self"] (getSp C f) := by
  obtain ⟨oc, od, dV, kV, doc, pm, an, cdv, ct, osl, rfl, lk, hcd, _, _⟩ := F.ex
  exact fn_getter lk hcd S rfl hb c n
theorem ok_Line_name (T : Txt K mg) : FnOk P w K mg base CX0 1 T.Line_name.f T.Line_name.fd ["self"] (getSp T.cLine.C "kept_name") := ok_getter T.Line_name.F sc_Line_name rfl T.cLine.cl T.n1
theorem ok_Line_stride (T : Txt K mg) : FnOk P w K mg base CX0 1 T.Line_stride.f T.Line_stride.fd ["self"] (getSp T.cLine.C "kept_stride") := ok_getter T.Line_stride.F sc_Line_stride rfl T.cLine.cl T.n2
theorem ok_Statement_name (T : Txt K mg) : FnOk P w K mg base CX0 1 T.Statement_name.f T.Statement_name.fd ["self"] (getSp T.cStatement.C "kept_name") := ok_getter T.Statement_name.F sc_Statement_name rfl T.cStatement.cl T.n3
theorem ok_Statement_target (T : Txt K mg) : FnOk P w K mg base CX0 1 T.Statement_target.f T.Statement_target.fd ["self"] (getSp T.cStatement.C "kept_target") := ok_getter T.Statement_target.F sc_Statement_target rfl T.cStatement.cl T.n4
theorem ok_Statement_sources (T : Txt K mg) : FnOk P w K mg base CX0 1 T.Statement_sources.f T.Statement_sources.fd ["self"] (getSp T.cStatement.C "kept_sources") := ok_getter T.Statement_sources.F sc_Statement_sources rfl T.cStatement.cl T.n5
theorem ok_Loop_statements (T : Txt K mg) : FnOk P w K mg base CX0 1 T.Loop_statements.f T.Loop_statements.fd ["self"] (getSp T.cLoop.C "kept_statements") := ok_getter T.Loop_statements.F sc_Loop_statements rfl T.cLoop.cl T.n7
/-- an __init__: the instance is filled -/
def spLineInit (C : Addr) : Sp := fun vs H Q _ => ∃ (p dx : Addr) (r : Str × Int), vs = [.ref p, .str r.1, .int r.2] ∧ H p = some (.ins C dx []) ∧ NameOk r.1 ∧ 1 ≤ r.2 ∧ r.2 ≤ 6 ∧
  ∀ H', But p H H' → H' p = some (.ins C dx (lineF r)) → Q .non H'
theorem ok_Line_init (T : Txt K mg) : FnOk P w K mg base CX0 3 T.Line_init.f T.Line_init.fd ["self", "name", "stride"] (spLineInit T.cLine.C) := by
  have F := T.Line_init.F
  obtain ⟨oc, od, dV, kV, doc, pm, an, cdv, ct, osl, ef, lk, hcd, _, _⟩ := F.ex
  rw [ef] at lk ⊢
  refine fn_of lk hcd sc_Line_init (fun vs H Q E h => ?_) fun A outer s H vs Q E hr h => ?_
  · obtain ⟨p, dx, r, rfl, _⟩ := h
    rfl
  · obtain ⟨p, dx, r, rfl, hp, hn, h1, h2, q⟩ := h
    suffices g : ∃ t, PSs (cxOf CX0 P w K mg base N_Line_init "Line.__init__" (defScope s_Line_init) T.Line_init.f cdv A outer s H E).nox (defBody s_Line_init) t ∧ t { nx := fun _ H' => Q .non H', rt := Q } (start N_Line_init [.ref p, .str r.1, .int r.2]) H from
      let ⟨t, a, b⟩ := g; ⟨t, a.nox, b⟩
    refine ⟨_, (pss_cons (ps_if (pt_not (pt_val (pcall T.is_name (ok_is_name T) (hr.mono (by decide)) (pa_cons (pv 1) pa_nil)))) (pss_one ps_never) pss_nil)
      (pss_cons (ps_if (pt_not (pt_val (pcall T.is_between (ok_is_between T) (hr.mono (by decide)) (pa_cons (pv 2) (pa_cons pe_int (pa_cons (pe_glob (v := .int 6) rfl T.c_MOST_STRIDE ⟨_, rfl⟩) pa_nil)))))) (pss_one ps_never) pss_nil)
      (pss_cons (ps_fld (pv 0) (pv 1) rfl)
      (pss_one (ps_fld (pv 0) (pv 2) rfl))))), ?_⟩
    refine ⟨_, rfl, r.1, _, rfl, ⟨rfl, hn⟩, fun u H1 s1 hu => ?_⟩
    cases hu
    refine ⟨true, rfl, iteF ?_⟩
    refine ⟨_, rfl, r.2, 1, 6, _, _, _, rfl, rfl, rfl, rfl, fun u H2 s2 hu => ?_⟩
    cases hu
    refine ⟨_, rfl, iteNS ⟨h1, h2⟩ ?_⟩
    have hp2 : H2 p = some (.ins T.cLine.C dx []) := s2 _ _ (s1 _ _ hp)
    refine ⟨_, rfl, _, rfl, p, T.cLine.C, dx, [], rfl, hp2, T.cLine.cl, T.n1, (by decide), ?_⟩
    refine ⟨_, rfl, _, rfl, p, T.cLine.C, dx, _, rfl, upd_same, T.cLine.cl, T.n2, (by show 1 < 1000; decide), ?_⟩
    refine q _ ((But.of (s1.trans s2)).put.put) ?_
    rw [upd_same, lineF_put]
theorem ok_Line_distance (T : Txt K mg) : FnOk P w K mg base CX0 4 T.Line_distance.f T.Line_distance.fd ["self", "first", "second"] (sp3 (fun (r : Str × Int) v H => rLine T.cLine.C r v H ∧ 1 ≤ r.2 ∧ r.2 ≤ 6) (fun _ a v _ => v = .int a ∧ -9 ≤ a ∧ a ≤ 9) (fun _ _ b v _ => v = .int b ∧ -9 ≤ b ∧ b ≤ 9) (fun r a b => rOpt rInt (dist r.2 a b))) := by
  refine dok T.Line_distance.F sc_Line_distance (fun vs H Q E h => ?_) (fun cdv A outer s H vs Q E hr h => ?_)
  · exact sp3_len h
  · obtain ⟨r, a, b, _, _, _, rfl, ⟨⟨p, dx, rfl, hp⟩, h1, h2⟩, ⟨rfl, a1, a2⟩, ⟨rfl, b1, b2⟩, q⟩ := h
    refine ⟨_, (pss_cons (ps_for PassesOwn.never rfl (pi_tupK (K := K) (pe_tup (pa_cons (pv 1) (pa_cons (pv 2) pa_nil)))) (pg_name (i := 3) sc_Line_distance.nd rfl (.inl rfl))
      (pss_one (ps_if (pt_not (pt_val (pcall T.is_offset (ok_is_offset T) (hr.mono (by decide)) (pa_cons (pv 3) pa_nil)))) (pss_one ps_never) pss_nil)))
      (pss_cons (ps_if (pt_cmpR op_ne (pe_op op_modN (pe_op op_sub (pv 1) (pv 2)) (pe_fldK (K := K) (pv 0) rfl)) pe_int (nomark _)) (pss_one (ps_ret pe_non)) pss_nil)
      (pss_one (ps_ret (pe_op op_fdivN (pe_op op_sub (pv 1) (pv 2)) (pe_fldK (K := K) (pv 0) rfl)))))), ?_⟩
    refine ⟨_, rfl, _, rfl, (by show 2 ≤ sizeLine; decide), fun t nt => ?_⟩
    refine ⟨t, rfl, ⟨_, .inl (.inl upd_same)⟩, for_it (walk_tup (xs := [.int a, .int b])) (fun i σ H' => ∃ o, σ = [some (.ref p), some (.int a), some (.int b), o] ∧ Same H H' ∧ H' t = some (.tup [.int a, .int b]))
      ⟨none, rfl, same_new nt, upd_same⟩ (fun i σ H' _ ⟨_, _, _, e⟩ => .inl (.inl e)) ?_ ?_⟩
    · rintro i x σ H1 H2 hi ⟨o, rfl, s1, et⟩ ⟨rfl, hx⟩
      obtain ⟨c, rfl, c1, c2⟩ : ∃ c : Int, x = .int c ∧ -9 ≤ c ∧ c ≤ 9 := by
        match i, hi, hx with
        | 0, _, hx => exact ⟨a, (Option.some.inj hx).symm, a1, a2⟩
        | 1, _, hx => exact ⟨b, (Option.some.inj hx).symm, b1, b2⟩
      refine ⟨_, rfl, c, _, rfl, rfl, fun u H3 s3 hu => ?_⟩
      cases hu
      exact ⟨_, rfl, iteNS ⟨c1, c2⟩ ⟨_, rfl, s1.trans s3, s3 _ _ et⟩⟩
    · rintro σ H1 ⟨o, rfl, s1, et⟩
      have hp1 := s1 _ _ hp
      refine ⟨_, rfl, _, rfl, a, b, rfl, rfl, ?_⟩
      refine ⟨_, rfl, p, T.cLine.C, dx, _, _, rfl, hp1, T.cLine.cl, T.n2, lineF_stride r, a - b, r.2, rfl, rfl, (by omega), rfl, _, rfl, ?_⟩
      by_cases hd : (a - b).fmod r.2 = 0
      · refine iteNS (congrArg V.int hd) ?_
        refine ⟨_, rfl, _, rfl, a, b, rfl, rfl, _, rfl, p, T.cLine.C, dx, _, _, rfl, hp1, T.cLine.cl, T.n2, lineF_stride r, a - b, r.2, rfl, rfl, ⟨by omega, by omega⟩, q _ _ s1 ?_⟩
        show rOpt rInt (dist r.2 a b) _ _
        unfold dist
        rw [if_pos hd]
        rfl
      · refine iteNY (fun z => hd (V.int.inj z)) ?_
        refine q _ _ s1 ?_
        show rOpt rInt (dist r.2 a b) _ _
        unfold dist
        rw [if_neg hd]
        rfl
end
end VW

set_option maxHeartbeats 4000000
namespace VW
open PySem PySem.Spec PyProof.Rows L2
/-! ### a list or a tuple -/
def Sq (K : PySem.W.Frag) (H : Hp) (a : Addr) (xs : List V) : Prop := SqL K H a xs ∨ SqT K H a xs
theorem same_sqT {K : PySem.W.Frag} {H H' : Hp} {a : Addr} {xs : List V} (s : Same H H') (h : SqT K H a xs) : SqT K H' a xs := by
  rcases h with (h | ⟨o, h⟩) | h
  · exact .inl (.inl (s _ _ h))
  · exact .inl (.inr ⟨o, s _ _ h⟩)
  · exact .inr h
def LTAt (H : Hp) (a : Addr) (xs : List V) : Prop := H a = some (.lst xs) ∨ H a = some (.tup xs)
theorem LTAt.mono {H H' : Hp} {a : Addr} {xs : List V} (s : Same H H') (h : LTAt H a xs) : LTAt H' a xs := h.elim (fun h => .inl (s _ _ h)) fun h => .inr (s _ _ h)
theorem LTAt.sq {K : PySem.W.Frag} {H : Hp} {a : Addr} {xs : List V} (h : LTAt H a xs) : SqL K H a xs ∨ SqT K H a xs := h.elim (fun h => .inl (.inl (.inl h))) fun h => .inr (.inl (.inl h))
def rA {α : Type} (R : Rp α) : Rp (List α) := fun xs v H => ∃ a vs, v = .ref a ∧ LTAt H a vs ∧ All2 R H xs vs
instance {α : Type} {R : Rp α} [Mono R] : Mono (rA R) := ⟨fun s h => let ⟨a, vs, e, h1, h2⟩ := h; ⟨a, vs, e, h1.mono s, h2.mono s⟩⟩
theorem iAny_go {K : PySem.W.Frag} {H : Hp} {a : Addr} {xs : List V} {i : Nat} {σ : L2.St} {R : It → Hp → Prop} (hv : σ[i]? = some (some (.ref a))) (h : LTAt H a xs) (k : ∀ (J : It) (G : Hp → Prop), Walk J xs.length G (YAt xs) → (∀ H', Same H H' → G H') → R J H) :
    iAny K (tVar i) σ H R := by
  unfold iAny
  refine ⟨_, hv, a, rfl, ?_⟩
  rcases h with h | h
  · exact .inl ⟨⟨xs, .inl (.inl h)⟩, k _ _ (walk_list (K := K)) fun H' s => .inl (.inl (s _ _ h))⟩
  · exact .inr ⟨⟨xs, .inl (.inl h)⟩, k _ _ (walk_tup (K := K)) fun H' s => .inl (.inl (s _ _ h))⟩
/-! ### a dict comprehension over a walk, its keys new each time -/
theorem valV_none {kvs : List (Key × V)} {k : Key} (h : k ∉ kvs.map (·.1)) : valV kvs k = none := by
  induction kvs with
  | nil => rfl
  | cons p r ih =>
    rw [List.map_cons, List.mem_cons, not_or] at h
    rw [valV_neg fun z => h.1 z.symm]
    exact ih h.2
theorem dc_new {J : It} {n : Nat} {G : Hp → Prop} {Y : Nat → Hp → V → Hp → Prop} {g : TG} {tk tv : TE} {vs : List Nat} {σ : L2.St} {H0 : Hp} {D : Addr} {Qd : Hp → Prop} (f : Nat → Key × V) (w : Walk J n G Y) (h0 : H0 D = none) (hn : n ≤ 1000000) (hG : ∀ H, Same H0 H → G H)
    (hf : ((List.range n).map fun i => (f i).1).Nodup)
    (hs : ∀ i x H H' (N : V → V → Hp → Prop), i < n → Same H0 H → Y i H x H' → (∀ H4, Same H H4 → N (kV (f i).1) (f i).2 H4) → g x (wipe σ vs) H' fun σ2 H2 => wipe σ2 vs = wipe σ vs ∧ tk σ2 H2 fun y H3 => tv σ2 H3 fun z H4 => N y z H4)
    (hd : ∀ H, Same H0 H → H D = some (.dK ((List.range n).map f)) → Qd H) :
    ∃ W : Nat → Nat → Hp → Prop, (∃ m, W 0 m (upd H0 D (.dK []))) ∧ ∀ i m H, W i m H →
      (J.stop i H ∧ Qd H) ∨ (J.go i H ∧ ∃ Nx : Hp → Prop, (∀ H', Nx H' → ∃ m', m' < m ∧ W (i + 1) m' H') ∧ ∀ x H', J.yld i H x H' → g x (wipe σ vs) H' fun σ2 H2 => wipe σ2 vs = wipe σ vs ∧ tYes σ2 H2 fun b H3 =>
        if b = true then tk σ2 H3 fun y H4 => tv σ2 H4 fun z H5 => ∃ kvs k, y = kV k ∧ H5 D = some (.dK kvs) ∧ kvs.length < sizeLine ∧ Nx (upd H5 D (.dK (putK kvs k z))) else Nx H3) := by
  refine ⟨fun i m H => m = n - i ∧ i ≤ n ∧ Same H0 H ∧ H D = some (.dK ((List.range i).map f)), ⟨n, by simp, Nat.zero_le _, same_new h0, upd_same⟩, ?_⟩
  rintro i m H ⟨rfl, hi, s0, eD⟩
  by_cases hlt : i < n
  · refine .inr ⟨w.goes i H hlt (hG H s0), fun H' => Same H0 H' ∧ H' D = some (.dK ((List.range (i + 1)).map f)), fun H' p => ⟨n - (i + 1), by omega, rfl, hlt, p⟩, fun x H' y => ?_⟩
    have step : ∀ H4, Same H H4 → ∃ kvs k, kV (f i).1 = kV k ∧ H4 D = some (.dK kvs) ∧ kvs.length < sizeLine ∧ Same H0 (upd H4 D (.dK (putK kvs k (f i).2))) ∧ (upd H4 D (.dK (putK kvs k (f i).2))) D = some (.dK ((List.range (i + 1)).map f)) := fun H4 s4 => by
      refine ⟨_, (f i).1, rfl, s4 _ _ eD, ?_, Same.put (s0.trans s4) h0, ?_⟩
      · rw [List.length_map, List.length_range]
        exact len_le (by omega)
      · rw [upd_same, putK_new, List.range_succ, List.map_append]
        · rfl
        · refine valV_none fun hm => ?_
          rw [List.map_map] at hm
          have hnd : ((List.range (i + 1)).map fun j => (f j).1).Nodup := by
            have e : ((List.range n).map fun j => (f j).1).take (i + 1) = (List.range (i + 1)).map fun j => (f j).1 := by
              rw [← List.map_take, List.take_range, Nat.min_eq_left (by omega)]
            rw [← e]
            exact hf.sublist (List.take_sublist _ _)
          rw [List.range_succ, List.map_append, List.nodup_append] at hnd
          exact hnd.2.2 _ hm _ (by simp) rfl
    have e : ∀ σ2 H2 (A : Hp → Prop) (B : Hp → Prop), (tYes σ2 H2 fun b H3 => if b = true then A H3 else B H3) = A H2 := fun σ2 H2 A B => by
      unfold tYes
      dsimp only
      rw [if_pos rfl]
    simp only [e]
    exact hs i x H H' _ hlt s0 (w.yields i H x H' hlt (hG H s0) y) step
  · have e : i = n := by omega
    subst e
    exact .inl ⟨w.stops H (hG H s0), hd H s0 eD⟩
theorem putF2_len {f g : Str} {v x : V} : (putF f v (putF g x [])).length < 1000 := by
  have h1 := length_putF f v (putF g x [])
  have h2 := length_putF g x []
  have h3 : ([] : List (Str × V)).length = 0 := rfl
  omega
def DOk (d : Dd) : Prop := NameOk d.name ∧ (∀ r ∈ refsOf d, NameOk r.1 ∧ -9 ≤ r.2 ∧ r.2 ≤ 9) ∧ d.loads.length ≤ 3
section
variable {P : Program} {w : World} {K : PySem.W.Frag} {mg : Str → Option Value} {base : Heap}
def spStmtInit (C : Addr) : Sp := fun vs H Q _ => ∃ (x dx t : Addr) (d : Dd) (g : V) (ls : List V), vs = [.ref x, .str d.name, g, .ref t] ∧ H x = some (.ins C dx []) ∧ rOpt rRef d.goal g H ∧ H t = some (.tup ls) ∧ All2 rRef H d.loads ls ∧ DOk d ∧
  ∀ H', But x H H' → H' x = some (.ins C dx (stmtF d g (.ref t))) → Q .non H'
theorem refsOf_load {d : Dd} {r : Str × Int} (h : r ∈ d.loads) : r ∈ refsOf d := List.mem_append.mpr (.inl h)
theorem refsOf_goal {d : Dd} {r : Str × Int} (h : d.goal = some r) : r ∈ refsOf d := List.mem_append.mpr (.inr (by rw [h]; simp))
theorem ok_Statement_init (T : Txt K mg) : FnR P w K mg base CX0 5 T.Statement_init.f (fun vs H Q E => ∃ ws rest, vs = ws ++ rest ∧ ws.length = (["self", "name", "target"] : List Str).length ∧ rest.length ≤ sizeLine ∧ ∀ p, H p = none → (spStmtInit T.cStatement.C) (ws ++ [V.ref p]) (upd H p (.tup rest)) Q E) := by
  refine dokS T.Statement_init.F sc_Statement_init T.Statement_init_b (fun cdv A outer s H vs Q E hr h => ?_)
  obtain ⟨x, dx, t, d, g, ls, rfl, hx, hg, ht, hl, ⟨h1, h2, h3⟩, q⟩ := h
  refine ⟨_, (pss_cons (ps_if (pt_not (pt_val (pcall T.is_name (ok_is_name T) (hr.mono (by decide)) (pa_cons (pv 1) pa_nil)))) (pss_one ps_never) pss_nil)
      (pss_cutW (ps_if (PW.pt (pw_and (pt_cmpR op_notN (pv 2) pe_non (nomark _)) (pw_and1 (pt_not (pt_val (pcall T.is_ref (ok_is_ref T) (hr.mono (by decide)) (pa_cons (pv 2) pa_nil))))))) (pss_one ps_never) pss_nil)
      (pss_cons (ps_if (pt_cmpR op_gt (pe_callB (call_lenK (K := K)) (by rfl) T.len_ (by decide +kernel) (pa_cons (pv 3) pa_nil)) (pe_glob (v := .int 3) rfl T.c_MOST_SOURCES ⟨_, rfl⟩) (nomark _)) (pss_one ps_never) pss_nil)
      (pss_cons (ps_for PassesOwn.never rfl (pi_tupK (K := K) (pv 3)) (pg_name (i := 4) sc_Statement_init.nd rfl (.inl rfl))
      (pss_one (ps_if (pt_not (pt_val (pcall T.is_ref (ok_is_ref T) (hr.mono (by decide)) (pa_cons (pv 4) pa_nil)))) (pss_one ps_never) pss_nil)))
      (pss_cons (ps_fld (pv 0) (pv 1) rfl)
      (pss_cons (ps_fld (pv 0) (pv 2) rfl)
      (pss_one (ps_fld (pv 0) (pe_callTy (call_tupleK (K := K)) (by rfl) T.tuple_ (by decide +kernel) (pa_cons (pv 3) pa_nil)) rfl)))))))), ?_⟩
  refine ⟨_, rfl, d.name, _, rfl, ⟨rfl, h1⟩, fun u H1 s1 hu => ?_⟩
  cases hu
  refine ⟨true, rfl, iteF ?_⟩
  -- the target
  refine ⟨fun σ' H' => σ' = start N_Statement_init [.ref x, .str d.name, g, .ref t] ∧ Same H H', ?_, ?_⟩
  · refine ⟨_, rfl, rfl, _, rfl, ?_⟩
    cases e : d.goal with
    | none =>
      rw [e] at hg
      cases (show g = V.non from hg)
      exact iteF (iteF ⟨rfl, s1⟩)
    | some r =>
      rw [e] at hg
      have hr1 : rRef r g H1 := Mono.mono s1 (show rRef r g H from hg)
      obtain ⟨b, rfl, hb⟩ := id hr1
      refine iteT ⟨_, rfl, r, _, rfl, ⟨⟨b, rfl, hb⟩, h2 r (refsOf_goal e)⟩, fun u H2 s2 hu => ?_⟩
      cases hu
      exact ⟨true, rfl, iteF ⟨rfl, s1.trans s2⟩⟩
  · rintro σ H2 ⟨rfl, s2⟩
    have hT : ∀ H', Same H H' → SqT K H' t ls := fun H' s => .inl (.inl (s _ _ ht))
    have hlen : ls.length ≤ 3 := by
      rw [← hl.length]
      exact h3
    refine ⟨_, rfl, t, ls, rfl, .inr (hT _ s2), _, _, rfl, rfl, _, rfl, iteN (by show ¬ (3 : Int) < (ls.length : Int); omega) ?_⟩
    refine ⟨_, rfl, t, rfl, ⟨_, hT _ s2⟩, for_it walk_tup (fun i σ' H' => ∃ o, σ' = [some (.ref x), some (.str d.name), some g, some (.ref t), o] ∧ Same H H') ⟨none, rfl, s2⟩ (fun i σ' H' _ ⟨_, _, s3⟩ => hT _ s3) ?_ ?_⟩
    · rintro i y σ' H3 H4 hi ⟨o, rfl, s3⟩ ⟨rfl, hy⟩
      obtain ⟨r, hr, rr⟩ := hl.getR hy
      obtain ⟨b, rfl, hb⟩ := id (Mono.mono (R := rRef) s3 rr)
      refine ⟨_, rfl, r, _, rfl, ⟨⟨b, rfl, hb⟩, h2 r (refsOf_load (List.mem_of_getElem? hr))⟩, fun u H5 s5 hu => ?_⟩
      cases hu
      exact ⟨true, rfl, iteF ⟨_, rfl, s3.trans s5⟩⟩
    · rintro σ' H3 ⟨o, rfl, s3⟩
      have hx3 := s3 _ _ hx
      have hn : ∀ (H' : Hp) (v : HO), x ≠ t := fun _ _ => ne_of hx ht (fun z => nomatch z)
      refine ⟨_, rfl, _, rfl, x, T.cStatement.C, dx, [], rfl, hx3, T.cStatement.cl, T.n3, (by decide), ?_⟩
      refine ⟨_, rfl, _, rfl, x, T.cStatement.C, dx, _, rfl, upd_same, T.cStatement.cl, T.n4, (by show 1 < 1000; decide), ?_⟩
      have ht3 : ∀ a b, (upd (upd H3 x a) x b) t = some (.tup ls) := fun a b => by
        rw [upd_ne (hn H3 a).symm, upd_ne (hn H3 a).symm]
        exact s3 _ _ ht
      refine ⟨_, rfl, t, ls, rfl, .inr ⟨.inl (.inl (ht3 _ _)), ?_⟩⟩
      refine ⟨_, rfl, x, T.cStatement.C, dx, _, rfl, upd_same, T.cStatement.cl, T.n5, putF2_len, ?_⟩
      refine q _ (((But.of s3).put.put).put) ?_
      rw [upd_same, stmtF_put]
theorem ok_Statement_refs (T : Txt K mg) : FnOk P w K mg base CX0 1 T.Statement_refs.f T.Statement_refs.fd ["self"] (sp1 (fun d v H => rStmt T.cStatement.C d v H ∧ d.loads.length ≤ 3) (fun d => rL rRef (refsOf d))) := by
  refine dok T.Statement_refs.F sc_Statement_refs (fun vs H Q E h => ?_) (fun cdv A outer s H vs Q E hr h => ?_)
  · exact sp1_len h
  · obtain ⟨d, _, rfl, ⟨⟨a, dx, g, s1, rfl, ha, hg, ⟨t, ls, rfl, ht, hl⟩⟩, h3⟩, q⟩ := h
    refine ⟨_, (pss_cons (ps_set (i := 1) sc_Statement_refs.nd rfl (.inl rfl) (pe_callTy (call_listK (K := K)) (by rfl) T.list_ (by decide +kernel) (pa_cons (pe_fldK (K := K) (pv 0) rfl) pa_nil)))
      (pss_cutW (ps_if (pt_cmpR op_notN (pe_fldK (K := K) (pv 0) rfl) pe_non (nomark _)) (pss_one (ps_expr (pe_bmK (K := K) PySem.F.plainAttrs_list PySem.F.slot_list_append PySem.F.type_list_append mt_append (pv 1) (pa_cons (pe_fldK (K := K) (pv 0) rfl) pa_nil)))) pss_nil)
      (pss_one (ps_ret (pv 1))))), ?_⟩
    refine ⟨_, rfl, a, _, dx, _, _, rfl, ha, T.cStatement.cl, T.n5, stmtF_sources _ _ _, t, ls, rfl, .inr (.inl (.inl ht)), fun l nl => ?_⟩
    have s1 : Same H (upd H l (.lst ls)) := same_new nl
    refine ⟨fun σ' H' => σ' = [some (.ref a), some (.ref l)] ∧ Mk2 rRef H l (refsOf d) H', ?_, ?_⟩
    · refine ⟨_, rfl, a, _, dx, _, _, rfl, s1 _ _ ha, T.cStatement.cl, T.n4, stmtF_target _ _ _, rfl, _, rfl, ?_⟩
      have m0 : Mk2 rRef H l d.loads (upd H l (.lst ls)) := ⟨s1, ls, upd_same, hl.mono s1⟩
      cases e : d.goal with
      | none =>
        rw [e] at hg
        cases (show g = V.non from hg)
        refine iteF ⟨rfl, ?_⟩
        have e2 : refsOf d = d.loads := by
          unfold refsOf
          rw [e]
          simp
        rw [e2]
        exact m0
      | some r =>
        rw [e] at hg
        have hg2 : rRef r g H := hg
        obtain ⟨b, rfl, hb⟩ := id hg2
        refine iteT ⟨_, rfl, .inl ⟨rfl, _, .inl (.inl upd_same)⟩, _, rfl, a, _, dx, _, _, rfl, s1 _ _ ha, T.cStatement.cl, T.n4, stmtF_target _ _ _, l, ls, _, rfl, rfl, upd_same, ?_, rfl, ?_⟩
        · exact all2_len hl (by omega)
        · have e2 : refsOf d = d.loads ++ [r] := by
            unfold refsOf
            rw [e]
            simp
          rw [e2]
          exact Mk2.snoc nl s1 upd_same (hl.mono s1) (Mono.mono s1 hg2)
    · rintro σ' H' ⟨rfl, m⟩
      exact ⟨_, rfl, q _ _ m.1 m.done⟩
end
end VW

set_option maxHeartbeats 4000000
namespace VW
open PySem PySem.Spec PyProof.Rows L2
theorem kit2a {K : PySem.W.Frag} : PySem.W.kitAny K (.type "list") [.type "list", .type "tuple"] = some true := kitAny_cons (kit_ty (a := "list") (b := "list") (r := true) (by decide +kernel)) (fun z => nomatch z) fun _ => rfl
theorem kit2b {K : PySem.W.Frag} : PySem.W.kitAny K (.type "tuple") [.type "list", .type "tuple"] = some true :=
  kitAny_cons (kit_ty (a := "tuple") (b := "list") (r := false) (by decide +kernel)) (fun _ => kitAny_cons (kit_ty (a := "tuple") (b := "tuple") (r := true) (by decide +kernel)) (fun z => nomatch z) fun _ => rfl) fun z => nomatch z
theorem LTAt.ty {K : PySem.W.Frag} {H : Hp} {a : Addr} {xs : List V} (h : LTAt H a xs) : ∃ ty, PySem.W.kitAny K ty [.type "list", .type "tuple"] = some true ∧ ∀ H', Same H H' → TyOf K H' (.ref a) ty := by
  rcases h with h | h
  · exact ⟨_, kit2a, fun H' s => .lst (s _ _ h)⟩
  · exact ⟨_, kit2b, fun H' s => .tup (s _ _ h)⟩
section
variable {P : Program} {w : World} {K : PySem.W.Frag} {mg : Str → Option Value} {base : Heap}
theorem Cd.tyX {x : Str} (c : Cd K mg x) {H : Hp} {a dx : Addr} {fs : List (Str × V)} (h : H a = some (.ins c.C dx fs)) : TyX K H (.ref a) (.ref c.C) := .base (.ins h c.cl c.i1 c.i2 c.i3 c.i4)
theorem ok_are_lines (T : Txt K mg) : FnOk P w K mg base CX0 3 T.are_lines.f T.are_lines.fd ["value"] (sp1 (fun rs v H => rA (rLine T.cLine.C) rs v H ∧ 1 ≤ rs.length ∧ rs.length ≤ 3 ∧ (rs.map (·.1)).Nodup) (fun _ => rBl true)) := by
  refine dok T.are_lines.F sc_are_lines (fun vs H Q E h => ?_) (fun cdv A outer s H vs Q E hr h => ?_)
  · exact sp1_len h
  · obtain ⟨rs, _, rfl, ⟨⟨a, vs, rfl, hA, hL⟩, h1, h2, h3⟩, q⟩ := h
    have hl := hL.length
    obtain ⟨ty, hk, hty⟩ := hA.ty (K := K)
    refine ⟨_, (pss_cons (ps_if (PW.pt (pw_or (pt_not (pt_val (pe_callB (call_isiTK (K := K)) (by rfl) T.isinstance_ (by decide +kernel) (pa_cons (pv 0) (pa_cons (pe_tup (pa_cons (pe_bltn (v := .ty "list") (by rfl) T.list_ (by decide +kernel) rfl) (pa_cons (pe_bltn (v := .ty "tuple") (by rfl) T.tuple_ (by decide +kernel) rfl) pa_nil))) pa_nil))))) (pw_or1 (pt_not (pt_chain op_le op_le pe_int (pe_callB (call_lenK (K := K)) (by rfl) T.len_ (by decide +kernel) (pa_cons (pv 0) pa_nil)) (pe_glob (v := .int 3) rfl T.c_MOST_LINES ⟨_, rfl⟩)))))) (pss_one (ps_ret pe_bl)) pss_nil)
      (pss_one (ps_ret (pe_and (pe_callB (cr_allK (K := K) rfl) (by rfl) T.all_ (by decide +kernel) (pa_cons (pe_lc (own := [("line", 1)]) rfl sc_are_lines.nd (pi_anyK (K := K) (pv 0)) (blkOk_by (own := [("line", 1)]) (N := N_are_lines) (sc := defScope s_are_lines) (by decide +kernel)) (fun _ _ _ _ _ => (pg_name (i := 1) sc_are_lines.nd rfl (.inl rfl))) (fun _ _ _ _ _ => pts_nil) (fun _ _ _ _ _ => (pe_callB (call_isiK2 (K := K)) (by rfl) T.isinstance_ (by decide +kernel) (pa_cons (pv 1) (pa_cons (pe_glob (v := .ref T.cLine.C) rfl T.cLine.g rfl) pa_nil))))) pa_nil)) (pe_one (pcall T.are_unlike (ok_are_unlike T) (hr.mono (by decide)) (pa_cons (pe_lc (own := [("line", 1)]) rfl sc_are_lines.nd (pi_anyK (K := K) (pv 0)) (blkOk_by (own := [("line", 1)]) (N := N_are_lines) (sc := defScope s_are_lines) (by decide +kernel)) (fun _ _ _ _ _ => (pg_name (i := 1) sc_are_lines.nd rfl (.inl rfl))) (fun _ _ _ _ _ => pts_nil) (fun _ _ _ _ _ => (pprop T.Line_name T.cLine.cl (pv 1) (ok_Line_name T) (hr.mono (by decide))))) pa_nil))))))), ?_⟩
    refine ⟨_, rfl, (by show 2 ≤ sizeLine; decide), fun tp ntp => ?_⟩
    have s0 : Same H (upd H tp (.tup [.ty "list", .ty "tuple"])) := same_new ntp
    refine ⟨_, tp, _, ty, _, true, rfl, upd_same, .cons (.ty _) (.cons (.ty _) .nil), .base (hty _ s0), hk, true, rfl, iteF ?_⟩
    refine ⟨_, rfl, a, vs, rfl, (hA.mono s0).sq, 1, vs.length, rfl, rfl, _, rfl, iteY (by omega) ?_⟩
    refine ⟨vs.length, 3, rfl, rfl, _, rfl, iteNS (by omega) ?_⟩
    refine iAny_go (i := 0) (a := a) ?_ (hA.mono s0) ?_
    · rfl
    intro J G wk hG D nD
    refine lc_map (S := rBl) (fun _ => true) wk nD (by omega) hG (fun i x H1 H2 N hi s1 hy k => ?_) fun H1 m => ?_
    · obtain ⟨rfl, hx⟩ := hy
      obtain ⟨r, hr, b, dx, rfl, hb⟩ := hL.getR hx
      have hb2 := s1 _ _ (s0 _ _ hb)
      exact ⟨rfl, _, rfl, _, _, _, _, true, rfl, .own _, T.cLine.tyX hb2, T.cLine.kit, k _ _ (Same.refl _) rfl⟩
    · obtain ⟨s1, acc, e1, a1⟩ := m
      have e2 := all2_bl a1
      subst e2
      have e3 : List.all ((List.range vs.length).map fun _ => true) id = true := by simp
      refine ⟨D, _, rfl, .inl (.inl e1), _, rfl, ?_⟩
      rw [e3]
      refine iteT ?_
      have sA := s0.trans s1
      refine iAny_go (i := 0) (a := a) ?_ (hA.mono sA) ?_
      · rfl
      intro J G wk hG D2 nD2
      refine lc_map (S := rStr) (fun i => (rs.getD i (Str.empty, 0)).1) wk nD2 (by omega) hG (fun i x H3 H4 N hi s3 hy k => ?_) fun H3 m => ?_
      · obtain ⟨rfl, hx⟩ := hy
        obtain ⟨r, hr, b, dx, rfl, hb⟩ := hL.getR hx
        have hb2 := s3 _ _ (sA _ _ hb)
        have e4 : rs.getD i (Str.empty, 0) = r := by rw [List.getD_eq_getElem?_getD, hr]; rfl
        refine ⟨rfl, _, rfl, b, dx, _, rfl, hb2, b, dx, _, _, rfl, hb2, lineF_name r, k _ _ (Same.refl _) ?_⟩
        rw [e4]
        rfl
      · have e4 : (List.range vs.length).map (fun i => (rs.getD i (Str.empty, 0)).1) = rs.map (·.1) := by
          rw [← hl]
          exact @range_map_get _ _ ⟨(Str.empty, 0)⟩ rs (·.1)
        rw [e4] at m
        refine ⟨_, _, rfl, ⟨m.done, h3, by simp; omega⟩, fun u H4 s4 hu => ?_⟩
        cases hu
        exact q _ _ ((sA.trans m.1).trans s4) rfl
theorem ok_are_statements (T : Txt K mg) : FnOk P w K mg base CX0 3 T.are_statements.f T.are_statements.fd ["value"] (sp1 (fun ds v H => rT (rStmt T.cStatement.C) ds v H ∧ 1 ≤ ds.length ∧ ds.length ≤ 5 ∧ (ds.map (·.name)).Nodup) (fun _ => rBl true)) := by
  refine dok T.are_statements.F sc_are_statements (fun vs H Q E h => ?_) (fun cdv A outer s H vs Q E hr h => ?_)
  · exact sp1_len h
  · obtain ⟨ds, _, rfl, ⟨⟨a, vs, rfl, hA, hL⟩, h1, h2, h3⟩, q⟩ := h
    have hl := hL.length
    have hT : ∀ H', Same H H' → SqT K H' a vs := fun H' s => .inl (.inl (s _ _ hA))
    refine ⟨_, (pss_cons (ps_if (PW.pt (pw_or (pt_not (pt_chain op_le op_le pe_int (pe_callB (call_lenK (K := K)) (by rfl) T.len_ (by decide +kernel) (pa_cons (pv 0) pa_nil)) (pe_glob (v := .int 5) rfl T.c_MOST_STATEMENTS ⟨_, rfl⟩))) (pw_or1 (pt_not (pt_val (pe_callB (cr_allK (K := K) rfl) (by rfl) T.all_ (by decide +kernel) (pa_cons (pe_lc (own := [("one", 1)]) rfl sc_are_statements.nd (pi_tupK (K := K) (pv 0)) (blkOk_by (own := [("one", 1)]) (N := N_are_statements) (sc := defScope s_are_statements) (by decide +kernel)) (fun _ _ _ _ _ => (pg_name (i := 1) sc_are_statements.nd rfl (.inl rfl))) (fun _ _ _ _ _ => pts_nil) (fun _ _ _ _ _ => (pe_callB (call_isiK2 (K := K)) (by rfl) T.isinstance_ (by decide +kernel) (pa_cons (pv 1) (pa_cons (pe_glob (v := .ref T.cStatement.C) rfl T.cStatement.g rfl) pa_nil))))) pa_nil))))))) (pss_one (ps_ret pe_bl)) pss_nil)
      (pss_one (ps_ret (pcall T.are_unlike (ok_are_unlike T) (hr.mono (by decide)) (pa_cons (pe_lc (own := [("one", 1)]) rfl sc_are_statements.nd (pi_tupK (K := K) (pv 0)) (blkOk_by (own := [("one", 1)]) (N := N_are_statements) (sc := defScope s_are_statements) (by decide +kernel)) (fun _ _ _ _ _ => (pg_name (i := 1) sc_are_statements.nd rfl (.inl rfl))) (fun _ _ _ _ _ => pts_nil) (fun _ _ _ _ _ => (pprop T.Statement_name T.cStatement.cl (pv 1) (ok_Statement_name T) (hr.mono (by decide))))) pa_nil))))), ?_⟩
    refine ⟨_, rfl, a, vs, rfl, .inr (hT _ (Same.refl _)), 1, vs.length, rfl, rfl, _, rfl, iteY (by omega) ?_⟩
    refine ⟨vs.length, 5, rfl, rfl, _, rfl, iteNS (by omega) ?_⟩
    refine ⟨_, rfl, a, rfl, ⟨_, hT _ (Same.refl _)⟩, fun D nD => lc_map (S := rBl) (fun _ => true) walk_tup nD (by omega) hT (fun i x H1 H2 N hi s1 hy k => ?_) fun H1 m => ?_⟩
    · obtain ⟨rfl, hx⟩ := hy
      obtain ⟨d, hd, b, dx, g, t, rfl, hb, _⟩ := hL.getR hx
      have hb2 := s1 _ _ hb
      exact ⟨rfl, _, rfl, _, _, _, _, true, rfl, .own _, T.cStatement.tyX hb2, T.cStatement.kit, k _ _ (Same.refl _) rfl⟩
    · obtain ⟨s1, acc, e1, a1⟩ := m
      have e2 := all2_bl a1
      subst e2
      have e3 : List.all ((List.range vs.length).map fun _ => true) id = true := by simp
      refine ⟨D, _, rfl, .inl (.inl e1), _, rfl, ?_⟩
      rw [e3]
      refine iteF ?_
      refine ⟨_, rfl, a, rfl, ⟨_, hT _ s1⟩, fun D2 nD2 => lc_map (S := rStr) (fun i => (ds.getD i ⟨Str.empty, none, []⟩).name) walk_tup nD2 (by omega) (fun H' s => hT _ (s1.trans s)) (fun i x H3 H4 N hi s3 hy k => ?_) fun H3 m => ?_⟩
      · obtain ⟨rfl, hx⟩ := hy
        obtain ⟨d, hd, b, dx, g, t, rfl, hb, _⟩ := hL.getR hx
        have hb2 := s3 _ _ (s1 _ _ hb)
        have e4 : ds.getD i ⟨Str.empty, none, []⟩ = d := by rw [List.getD_eq_getElem?_getD, hd]; rfl
        refine ⟨rfl, _, rfl, b, dx, _, rfl, hb2, b, dx, _, _, rfl, hb2, stmtF_name d g t, k _ _ (Same.refl _) ?_⟩
        rw [e4]
        rfl
      · have e4 : (List.range vs.length).map (fun i => (ds.getD i ⟨Str.empty, none, []⟩).name) = ds.map (·.name) := by
          rw [← hl]
          exact @range_map_get _ _ ⟨⟨Str.empty, none, []⟩⟩ ds (·.name)
        rw [e4] at m
        refine ⟨_, _, rfl, ⟨m.done, h3, by simp; omega⟩, fun u H4 s4 hu => ?_⟩
        cases hu
        exact q _ _ ((s1.trans m.1).trans s4) rfl
end
end VW

set_option maxHeartbeats 4000000
namespace VW
open PySem PySem.Spec PyProof.Rows L2
theorem WOk.dok {wd : Wd} (o : WOk wd) {d : Dd} (h : d ∈ wd.deeds) : DOk d := by
  refine ⟨o.dn d h, fun r hr => ?_, Nat.le_succ_of_le (o.dl d h)⟩
  obtain ⟨h1, h2, h3⟩ := o.dr d h r hr
  obtain ⟨p, hp, e⟩ := List.mem_map.mp h1
  refine ⟨?_, by omega, by omega⟩
  rw [← e]
  exact (o.rn p hp).1
theorem stmtF_refs (d : Dd) (g s : V) : (stmtF d g s).lookup ("refs" : Str) = none := lk_next (by decide +kernel) (lk_next (by decide +kernel) (lk_next (by decide +kernel) rfl))
section
variable {P : Program} {w : World} {K : PySem.W.Frag} {mg : Str → Option Value} {base : Heap}
def spLoopInit (CL CS C : Addr) : Sp := fun vs H Q _ => ∃ (H0 : Hp) (x dx : Addr) (lv : V) (t : Addr) (wd : Wd) (ss : List V), vs = [.ref x, lv, .ref t] ∧ H0 x = none ∧ Same H0 H ∧ H x = some (.ins C dx []) ∧ rA (rLine CL) wd.rows lv H0 ∧
  H t = some (.tup ss) ∧ All2 (rStmt CS) H0 wd.deeds ss ∧ WOk wd ∧ ∀ H', Same H0 H' → rLoop CL CS C wd (.ref x) H' → Q .non H'
theorem ok_Loop_init (T : Txt K mg) : FnR P w K mg base CX0 4 T.Loop_init.f (fun vs H Q E => ∃ ws rest, vs = ws ++ rest ∧ ws.length = (["self", "lines"] : List Str).length ∧ rest.length ≤ sizeLine ∧ ∀ p, H p = none → (spLoopInit T.cLine.C T.cStatement.C T.cLoop.C) (ws ++ [V.ref p]) (upd H p (.tup rest)) Q E) := by
  refine dokS T.Loop_init.F sc_Loop_init T.Loop_init_b (fun cdv A outer s H vs Q E hr h => ?_)
  obtain ⟨H0, x, dx, _, t, wd, ss, rfl, nx, s0, hx, ⟨a, vs, rfl, hA, hL⟩, ht, hS, o, q⟩ := h
  have hl := hL.length
  have hls := hS.length
  have r2 := o.r2
  have d2 := o.d2
  have htx : t ≠ x := ne_of ht hx (fun z => nomatch z)
  refine ⟨_, (pss_cons (ps_if (pt_not (pt_val (pcall T.are_lines (ok_are_lines T) (hr.mono (by decide)) (pa_cons (pv 1) pa_nil)))) (pss_one ps_never) pss_nil)
      (pss_cons (ps_if (pt_not (pt_val (pcall T.are_statements (ok_are_statements T) (hr.mono (by decide)) (pa_cons (pv 2) pa_nil)))) (pss_one ps_never) pss_nil)
      (pss_cons (ps_set (i := 3) sc_Loop_init.nd rfl (.inr rfl) (pe_lc (own := [("line", 5)]) rfl sc_Loop_init.nd (pi_anyK (K := K) (pv 1)) (blkOk_by (own := [("line", 5)]) (N := N_Loop_init) (sc := defScope s_Loop_init) (by decide +kernel)) (fun _ _ _ _ _ => (pg_name (i := 5) sc_Loop_init.nd rfl (.inl rfl))) (fun _ _ _ _ _ => pts_nil) (fun _ _ _ _ _ => (pprop T.Line_name T.cLine.cl (pv 5) (ok_Line_name T) (hr.mono (by decide))))))
      (pss_cons (ps_for PassesOwn.never rfl (pi_tupK (K := K) (pv 2)) (pg_name (i := 4) sc_Loop_init.nd rfl (.inl rfl))
      (pss_one (ps_if (pt_not (pt_val (pe_callB (cr_allK (K := K) rfl) (by rfl) T.all_ (by decide +kernel) (pa_cons (pe_lc (own := [("ref", 6)]) rfl sc_Loop_init.nd (pi_listK (K := K) (pmeth0 T.Statement_refs T.cStatement.cl (pv 4) (ok_Statement_refs T) (hr.mono (by decide)))) (blkOk_by (own := [("ref", 6)]) (N := N_Loop_init) (sc := defScope s_Loop_init) (by decide +kernel)) (fun _ _ _ _ _ => (pg_name (i := 6) sc_Loop_init.nd rfl (.inl rfl))) (fun _ _ _ _ _ => pts_nil) (fun _ _ _ _ _ => (pe_cmpR (op_inK (K := K)) (pe_ix (ix_tupK (K := K)) (pv 6) pe_int (fun _ _ => rfl)) (pv 3) (by with_unfolding_all rfl)))) pa_nil)))) (pss_one ps_never) pss_nil)))
      (pss_cutW (ps_fld (pv 0) (pe_callTy (call_tupleK (K := K)) (by rfl) T.tuple_ (by decide +kernel) (pa_cons (pv 1) pa_nil)) rfl)
      (pss_cons (ps_fld (pv 0) (pe_callTy (call_tupleK (K := K)) (by rfl) T.tuple_ (by decide +kernel) (pa_cons (pv 2) pa_nil)) rfl)
      (pss_one (ps_fld (pv 0) (pe_dc (own := [("line", 5)]) rfl sc_Loop_init.nd (pi_anyK (K := K) (pv 1)) (blkOk_by (own := [("line", 5)]) (N := N_Loop_init) (sc := defScope s_Loop_init) (by decide +kernel)) (fun _ _ _ _ _ => (pg_name (i := 5) sc_Loop_init.nd rfl (.inl rfl))) (fun _ _ _ _ _ => pts_nil) (fun _ _ _ _ _ => (pprop T.Line_name T.cLine.cl (pv 5) (ok_Line_name T) (hr.mono (by decide)))) (fun _ _ _ _ _ => (pprop T.Line_stride T.cLine.cl (pv 5) (ok_Line_stride T) (hr.mono (by decide))))) rfl)))))))), ?_⟩
  refine ⟨_, rfl, wd.rows, _, rfl, ⟨⟨a, vs, rfl, hA.mono s0, hL.mono s0⟩, o.r1, by omega, o.rd⟩, fun u H1 s1 hu => ?_⟩
  cases hu
  refine ⟨true, rfl, iteF ?_⟩
  refine ⟨_, rfl, wd.deeds, _, rfl, ⟨⟨t, ss, rfl, s1 _ _ ht, hS.mono (s0.trans s1)⟩, o.d1, by omega, o.dd⟩, fun u H2 s2 hu => ?_⟩
  cases hu
  refine ⟨true, rfl, iteF ?_⟩
  have sB := s1.trans s2
  have sC := s0.trans sB
  -- names
  refine iAny_go (i := 1) (a := a) ?_ (hA.mono sC) ?_
  · rfl
  intro J G wk hG D nD
  refine lc_map (S := rStr) (fun i => (wd.rows.getD i (Str.empty, 0)).1) wk nD (by omega) hG (fun i y H3 H4 N hi s3 hy k => ?_) fun H3 m => ?_
  · obtain ⟨rfl, hy⟩ := hy
    obtain ⟨r, hr, b, dy, rfl, hb⟩ := hL.getR hy
    have hb2 := s3 _ _ (sC _ _ hb)
    have e4 : wd.rows.getD i (Str.empty, 0) = r := by rw [List.getD_eq_getElem?_getD, hr]; rfl
    refine ⟨rfl, _, rfl, b, dy, _, rfl, hb2, b, dy, _, _, rfl, hb2, lineF_name r, k _ _ (Same.refl _) ?_⟩
    rw [e4]
    rfl
  · have e4 : (List.range vs.length).map (fun i => (wd.rows.getD i (Str.empty, 0)).1) = wd.rows.map (·.1) := by
      rw [← hl]
      exact @range_map_get _ _ ⟨(Str.empty, 0)⟩ wd.rows (·.1)
    rw [e4] at m
    obtain ⟨s3, acc, eD, aD⟩ := m
    have e5 := all2_str.mp aD
    subst e5
    have sD := sB.trans s3
    -- the statements' refs
    refine ⟨_, rfl, t, rfl, ⟨_, .inl (.inl (sD _ _ ht))⟩, for_it (walk_tup (K := K) (a := t) (xs := ss)) (fun i σ' H' => ∃ y, σ' = [some (.ref x), some (.ref a), some (.ref t), some (.ref D), y, none, none] ∧ Same H3 H') ⟨none, rfl, Same.refl _⟩
      (fun i σ' H' _ ⟨_, _, s4⟩ => .inl (.inl (s4 _ _ (sD _ _ ht)))) ?_ ?_⟩
    · rintro i y σ' H4 H5 hi ⟨y0, rfl, s4⟩ ⟨rfl, hy⟩
      obtain ⟨d, hd, hds⟩ := hS.getR hy
      have hdm := List.mem_of_getElem? hd
      have hd5 : rStmt T.cStatement.C d y H5 := Mono.mono ((s0.trans sD).trans s4) hds
      obtain ⟨b, dy, g, sv, rfl, hb, _⟩ := id hd5
      refine ⟨_, rfl, b, dy, _, rfl, hb, stmtF_refs _ _ _, d, _, rfl, ⟨hd5, (o.dok hdm).2.2⟩, fun u H6 s6 hu => ?_⟩
      obtain ⟨l, rs, rfl, hlr, hrr⟩ := hu
      refine ⟨l, rfl, ⟨_, .inl (.inl hlr)⟩, fun D2 nD2 => lc_map (S := rBl) (fun _ => true) (walk_list (K := K) (a := l) (xs := rs)) nD2 ?_ (fun H' s => .inl (.inl (s _ _ hlr))) (fun j z H7 H8 N hj s7 hz k => ?_) fun H7 m => ?_⟩
      · have e6 := hrr.length
        have e7 := (o.dok hdm).2.2
        have e8 : (refsOf d).length ≤ 4 := by
          unfold refsOf
          rw [List.length_append]
          cases d.goal <;> simp <;> omega
        omega
      · obtain ⟨rfl, hz⟩ := hz
        obtain ⟨r, hr, br, rfl, hbr⟩ := hrr.getR hz
        refine ⟨rfl, _, rfl, br, _, 0, .str r.1, rfl, rfl, .inl (.inl (s7 _ _ hbr)), atI_nat (j := 0) rfl, _, rfl, D, _, rfl, .inl (.inl (.inl (s7 _ _ (s6 _ _ (s4 _ _ eD))))), rfl, flat_strs _, k _ _ (Same.refl _) ?_⟩
        rw [inV_str]
        show V.bl (decide _) = V.bl true
        rw [decide_eq_true (o.dr d hdm r (List.mem_of_getElem? hr)).1]
      · obtain ⟨s7, acc, e1, a1⟩ := m
        have e2 := all2_bl a1
        subst e2
        have e3 : List.all ((List.range rs.length).map fun _ => true) id = true := by simp
        refine ⟨D2, _, rfl, .inl (.inl e1), _, rfl, ?_⟩
        rw [e3]
        exact iteF ⟨_, rfl, (s4.trans s6).trans s7⟩
    · rintro σ' H4 ⟨y0, rfl, s4⟩
      have sE := sD.trans s4
      -- tuple(lines)
      refine ⟨fun σ' H' => σ' = [some (.ref x), some (.ref a), some (.ref t), some (.ref D), y0, none, none] ∧ ∃ lp, Same H0 H' ∧ H' x = some (.ins T.cLoop.C dx [("kept_lines", .ref lp)]) ∧ H' lp = some (.tup vs) ∧ H' t = some (.tup ss), ?_, ?_⟩
      · have fin : ∀ (lp : Addr) (H5 : Hp), Same H4 H5 → H5 lp = some (.tup vs) →
            ∃ b C dx' fs, V.ref x = .ref b ∧ H5 b = some (.ins C dx' fs) ∧ Cls K C ∧ NoAttr K C "kept_lines" ∧ fs.length < 1000 ∧ ([some (V.ref x), some (.ref a), some (.ref t), some (.ref D), y0, none, none] = [some (V.ref x), some (.ref a), some (.ref t), some (.ref D), y0, none, none] ∧
              ∃ lp', Same H0 (upd H5 b (.ins C dx' (putF "kept_lines" (.ref lp) fs))) ∧ (upd H5 b (.ins C dx' (putF "kept_lines" (.ref lp) fs))) x = some (.ins T.cLoop.C dx [("kept_lines", .ref lp')]) ∧ (upd H5 b (.ins C dx' (putF "kept_lines" (.ref lp) fs))) lp' = some (.tup vs) ∧ (upd H5 b (.ins C dx' (putF "kept_lines" (.ref lp) fs))) t = some (.tup ss)) := fun lp H5 s5 hlp => by
          have hx5 := s5 _ _ (sE _ _ hx)
          have hne : lp ≠ x := ne_of hlp hx5 (fun z => nomatch z)
          refine ⟨x, T.cLoop.C, dx, [], rfl, hx5, T.cLoop.cl, T.n6, (by decide), rfl, lp, Same.put ((s0.trans sE).trans s5) nx, upd_same, ?_, ?_⟩
          · rw [upd_ne hne]
            exact hlp
          · rw [upd_ne htx]
            exact s5 _ _ (sE _ _ ht)
        rcases hA.mono (s0.trans sE) with h4 | h4
        · exact ⟨_, rfl, a, vs, rfl, .inl ⟨.inl (.inl h4), fun l nl => ⟨_, rfl, fin l _ (same_new nl) upd_same⟩⟩⟩
        · exact ⟨_, rfl, a, vs, rfl, .inr ⟨.inl (.inl h4), _, rfl, fin a _ (Same.refl _) h4⟩⟩
      · rintro σ' H5 ⟨rfl, lp, s5, hx5, hlp, ht5⟩
        -- tuple(statements)
        refine ⟨_, rfl, t, ss, rfl, .inr ⟨.inl (.inl ht5), _, rfl, x, T.cLoop.C, dx, _, rfl, hx5, T.cLoop.cl, T.n7, (by show 1 < 1000; decide), ?_⟩⟩
        have hne : lp ≠ x := ne_of hlp hx5 (fun z => nomatch z)
        generalize e6 : upd H5 x (.ins T.cLoop.C dx (putF "kept_statements" (.ref t) [("kept_lines", .ref lp)])) = H6
        have s6 : Same H0 H6 := by
          rw [← e6]
          exact Same.put s5 nx
        have hx6 : H6 x = some (.ins T.cLoop.C dx [("kept_lines", .ref lp), ("kept_statements", .ref t)]) := by
          rw [← e6, upd_same, putF_cons (by decide +kernel)]
          rfl
        have hlp6 : H6 lp = some (.tup vs) := by
          rw [← e6, upd_ne hne]
          exact hlp
        have ht6 : H6 t = some (.tup ss) := by
          rw [← e6, upd_ne htx]
          exact ht5
        -- the strides
        refine iAny_go (i := 1) (a := a) ?_ (hA.mono s6) ?_
        · rfl
        intro J2 G2 wk2 hG2 D2 nD2
        have e7 : (List.range vs.length).map (fun i => ((Sum.inr (wd.rows.getD i (Str.empty, 0)).1 : Key), V.int (wd.rows.getD i (Str.empty, 0)).2)) = strK wd.rows := by
          rw [← hl]
          exact @range_map_get _ _ ⟨(Str.empty, 0)⟩ wd.rows (fun r => ((Sum.inr r.1 : Key), V.int r.2))
        refine dc_new (fun i => ((Sum.inr (wd.rows.getD i (Str.empty, 0)).1 : Key), V.int (wd.rows.getD i (Str.empty, 0)).2)) wk2 nD2 (by omega) hG2 ?_ (fun i y H7 H8 N hi s7 hy k => ?_) fun H7 s7 hD7 => ?_
        · have e8 : (List.range vs.length).map (fun i => (Sum.inr (wd.rows.getD i (Str.empty, 0)).1 : Key)) = (wd.rows.map (·.1)).map Sum.inr := by
            rw [← hl, List.map_map]
            exact @range_map_get _ _ ⟨(Str.empty, 0)⟩ wd.rows (fun r => (Sum.inr r.1 : Key))
          show ((List.range vs.length).map (fun i => (Sum.inr (wd.rows.getD i (Str.empty, 0)).1 : Key))).Nodup
          rw [e8]
          exact List.Pairwise.map _ (fun a b h z => h (Sum.inr.inj z)) o.rd
        · obtain ⟨rfl, hy⟩ := hy
          obtain ⟨r, hr, b, dy, rfl, hb⟩ := hL.getR hy
          have hb2 := s7 _ _ (s6 _ _ hb)
          have e4 : wd.rows.getD i (Str.empty, 0) = r := by rw [List.getD_eq_getElem?_getD, hr]; rfl
          have kk := k _ (Same.refl _)
          rw [e4] at kk
          exact ⟨rfl, _, rfl, b, dy, _, rfl, hb2, b, dy, _, _, rfl, hb2, lineF_name r, _, rfl, b, dy, _, rfl, hb2, b, dy, _, _, rfl, hb2, lineF_stride r, kk⟩
        · rw [e7] at hD7
          refine ⟨_, rfl, x, T.cLoop.C, dx, _, rfl, s7 _ _ hx6, T.cLoop.cl, T.n8, (by show 2 < 1000; decide), ?_⟩
          have s8 := Same.put (o := .ins T.cLoop.C dx (putF "strides" (.ref D2) [("kept_lines", .ref lp), ("kept_statements", .ref t)])) (s6.trans s7) nx
          have hD2 : D2 ≠ x := fun z => by
            rw [z, hx6] at nD2
            cases nD2
          refine q _ s8 ⟨x, dx, .ref lp, .ref t, D2, rfl, ?_, ⟨lp, vs, rfl, ?_, hL.mono s8⟩, ⟨t, ss, rfl, ?_, hS.mono s8⟩, ?_⟩
          · rw [upd_same, putF_cons (by decide +kernel), putF_cons (by decide +kernel)]
            rfl
          · rw [upd_ne hne]
            exact s7 _ _ hlp6
          · rw [upd_ne htx]
            exact s7 _ _ ht6
          · rw [upd_ne hD2]
            exact hD7
end
end VW

set_option maxHeartbeats 4000000
namespace VW
open PySem PySem.Spec PyProof.Rows L2
theorem made_same {H : Hp} {x dx : Addr} {a b : HO} (nx : H x = none) (nd : H dx = none) : Same H (upd (upd H dx a) x b) := fun c o e => by
  rw [upd_ne (ne_of_none e nx), upd_ne (ne_of_none e nd)]
  exact e
/-! ### strides -/
theorem find_of : ∀ {l : List (Str × Int)} {x : Str}, x ∈ l.map (·.1) → ∃ r, r ∈ l ∧ r.1 = x ∧ (l.find? fun r => decide (r.1 = x)) = some r
  | [], x, h => by simp at h
  | p :: l, x, h => by
    by_cases e : p.1 = x
    · exact ⟨p, List.mem_cons_self, e, by simp [List.find?_cons, e]⟩
    · rw [List.map_cons, List.mem_cons] at h
      rcases h with h | h
      · exact absurd h.symm e
      · obtain ⟨r, h1, h2, h3⟩ := find_of h
        exact ⟨r, List.mem_cons_of_mem _ h1, h2, by simp [List.find?_cons, e, h3]⟩
theorem stride_of {wd : Wd} {x : Str} (h : x ∈ wd.rows.map (·.1)) : ∃ r, r ∈ wd.rows ∧ r.1 = x ∧ strideOf wd x = r.2 := by
  obtain ⟨r, h1, h2, h3⟩ := find_of h
  refine ⟨r, h1, h2, ?_⟩
  unfold strideOf
  rw [h3]
  rfl
theorem stride_nd : ∀ {l : List (Str × Int)} {r : Str × Int}, (l.map (·.1)).Nodup → r ∈ l → (l.find? fun q => decide (q.1 = r.1)) = some r
  | [], _, _, h => by simp at h
  | p :: l, r, hn, h => by
    rw [List.map_cons, List.nodup_cons] at hn
    rcases List.mem_cons.mp h with e | h
    · subst e
      simp [List.find?_cons]
    · have hne : ¬ p.1 = r.1 := fun z => hn.1 (by rw [z]; exact List.mem_map.mpr ⟨r, h, rfl⟩)
      rw [List.find?_cons]
      simp only [decide_eq_false hne]
      exact stride_nd hn.2 h
theorem stride_row {wd : Wd} (o : WOk wd) {r : Str × Int} (h : r ∈ wd.rows) : strideOf wd r.1 = r.2 := by
  unfold strideOf
  rw [stride_nd o.rd h]
  rfl
theorem stride_bd {wd : Wd} (o : WOk wd) {x : Str} (h : x ∈ wd.rows.map (·.1)) : 1 ≤ strideOf wd x ∧ strideOf wd x ≤ 2 := by
  obtain ⟨r, h1, h2, h3⟩ := stride_of h
  rw [h3]
  exact (o.rn r h1).2
theorem strK_val : ∀ {l : List (Str × Int)} {x : Str}, valV (strK l) (.inr x) = ((l.find? fun r => decide (r.1 = x)).map (·.2)).map V.int
  | [], x => rfl
  | p :: l, x => by
    have ih := strK_val (l := l) (x := x)
    show valV (((Sum.inr p.1 : Key), V.int p.2) :: strK l) (.inr x) = _
    by_cases e : p.1 = x
    · rw [valV_pos (p := ((Sum.inr p.1 : Key), V.int p.2)) (congrArg Sum.inr e)]
      simp [List.find?_cons, e]
    · rw [valV_neg (p := ((Sum.inr p.1 : Key), V.int p.2)) (fun z => e (Sum.inr.inj z)), ih]
      simp [List.find?_cons, e]
theorem strK_get {wd : Wd} {x : Str} (h : x ∈ wd.rows.map (·.1)) : valV (strK wd.rows) (.inr x) = some (.int (strideOf wd x)) := by
  obtain ⟨r, h1, h2, h3⟩ := find_of h
  rw [strK_val, h3]
  unfold strideOf
  rw [h3]
  rfl
section
variable {P : Program} {w : World} {K : PySem.W.Frag} {mg : Str → Option Value} {base : Heap}
/-- a loop that stands for a world -/
def LpOk (T : Txt K mg) : Rp Wd := fun wd v H => rLoop T.cLine.C T.cStatement.C T.cLoop.C wd v H ∧ WOk wd
instance {T : Txt K mg} : Mono (LpOk T) := ⟨fun s h => ⟨Mono.mono s h.1, h.2⟩⟩
theorem ok_Loop_len (T : Txt K mg) : FnOk P w K mg base CX0 1 T.Loop_len.f T.Loop_len.fd ["self"] (sp1 (LpOk T) (fun wd => rNat wd.deeds.length)) := by
  refine dok T.Loop_len.F sc_Loop_len (fun vs H Q E h => ?_) (fun cdv A outer s H vs Q E hr h => ?_)
  · exact sp1_len h
  · obtain ⟨wd, _, rfl, ⟨⟨a, dx, l, st, t, rfl, ha, hl, ⟨s, ss, rfl, hs, hS⟩, ht⟩, o⟩, q⟩ := h
    refine ⟨_, (pss_one (ps_ret (pe_callB (call_lenK (K := K)) (by rfl) T.len_ (by decide +kernel) (pa_cons (pe_fldK (K := K) (pv 0) rfl) pa_nil)))), ?_⟩
    refine ⟨_, rfl, a, _, dx, _, _, rfl, ha, T.cLoop.cl, T.n7, loopF_statements _ _ _, s, ss, rfl, .inr (.inl (.inl hs)), q _ _ (Same.refl _) ?_⟩
    show V.int (ss.length : Int) = V.int (wd.deeds.length : Int)
    rw [hS.length]
theorem ok_Loop_add (T : Txt K mg) : FnOk P w K mg base CX0 6 T.Loop_add.f T.Loop_add.fd ["self", "statement"] (sp2 (LpOk T) (fun wd d v H => rStmt T.cStatement.C d v H ∧ WOk ⟨wd.rows, wd.deeds ++ [d]⟩) (fun wd d => rLoop T.cLine.C T.cStatement.C T.cLoop.C ⟨wd.rows, wd.deeds ++ [d]⟩)) := by
  refine dok T.Loop_add.F sc_Loop_add (fun vs H Q E h => ?_) (fun cdv A outer s H vs Q E hr h => ?_)
  · exact sp2_len h
  · obtain ⟨wd, d, _, v2, rfl, ⟨⟨a, dx, _, st, t, rfl, ha, ⟨lp, ls, rfl, hlp, hL⟩, ⟨s, ss, rfl, hs, hS⟩, ht⟩, o⟩, ⟨hd, o2⟩, q⟩ := h
    have d2 := o.d2
    have hlS := hS.length
    have d1 := o.d1
    refine ⟨_, (pss_cons (ps_set (i := 2) sc_Loop_add.nd rfl (.inl rfl) (pe_op (op_catTK (K := K)) (pe_fldK (K := K) (pv 0) rfl) (pe_tup (pa_cons (pv 1) pa_nil))))
      (pss_one (ps_ret (pe_makeS T.Loop_init.M (ok_Loop_init T) (hr.mono (by decide)) (by rfl) T.cLoop.g pass0 (pa_cons (pe_fldK (K := K) (pv 0) rfl) (StX.pa_star (pv 2) pa_nil)))))), ?_⟩
    refine ⟨_, rfl, a, _, dx, _, _, rfl, ha, T.cLoop.cl, T.n7, loopF_statements _ _ _, _, rfl, (by show 1 ≤ sizeLine; decide), fun t1 n1 => ?_⟩
    have s1 : Same H (upd H t1 (.tup [v2])) := same_new n1
    have hne : ss ≠ [] := fun z => by
      rw [z] at hlS
      have e : ([] : List V).length = 0 := rfl
      omega
    refine ⟨s, t1, ss, [v2], rfl, rfl, .inl (.inl (s1 _ _ hs)), .inl (.inl upd_same), by rw [sizeLine_eq]; simp; omega, fun z => absurd z hne, fun _ z => (by cases z), fun _ _ t2 n2 => ?_⟩
    have s2 : Same H (upd (upd H t1 (.tup [v2])) t2 (.tup (ss ++ [v2]))) := s1.trans (same_new n2)
    refine ⟨_, rfl, a, _, dx, _, _, rfl, s2 _ _ ha, T.cLoop.cl, T.n6, loopF_lines _ _ _, _, rfl, t2, ss ++ [v2], rfl, .inl (.inl (.inl upd_same)), fun x dy nx ndy hxy => ?_⟩
    have s3 := fun (oo : HO) => same_new (o := oo) ndy
    refine ⟨[.ref x, .ref lp], ss ++ [v2], by simp, rfl, by rw [sizeLine_eq]; simp; omega, fun p np => ?_⟩
    refine ⟨upd (upd H t1 (.tup [v2])) t2 (.tup (ss ++ [v2])), x, dy, .ref lp, p, ⟨wd.rows, wd.deeds ++ [d]⟩, ss ++ [v2], rfl, nx, Same.new (made_same nx ndy) np, ?_, ⟨lp, ls, rfl, .inr (s2 _ _ hlp), hL.mono s2⟩, upd_same, (hS.mono s2).snoc (Mono.mono s2 hd), o2, fun H' s' hr' => ⟨rfl, q _ _ (s2.trans s') hr'⟩⟩
    rw [upd_ne (ne_of_none upd_same np), upd_same]
theorem ok_Loop_line (T : Txt K mg) : FnOk P w K mg base CX0 3 T.Loop_line.f T.Loop_line.fd ["self", "name"] (sp2 (LpOk T) (fun wd x v _ => v = .str x ∧ x ∈ wd.rows.map (·.1)) (fun wd x => rLine T.cLine.C (x, strideOf wd x))) := by
  refine dok T.Loop_line.F sc_Loop_line (fun vs H Q E h => ?_) (fun cdv A outer s H vs Q E hr h => ?_)
  · exact sp2_len h
  · obtain ⟨wd, x, _, _, rfl, ⟨⟨a, dx, _, st, t, rfl, ha, ⟨lp, ls, rfl, hlp, hL⟩, hS, ht⟩, o⟩, ⟨rfl, hx⟩, q⟩ := h
    have hll := hL.length
    refine ⟨_, (pss_cons (ps_for PassesOwn.never rfl (pi_tupK (K := K) (pe_fldK (K := K) (pv 0) rfl)) (pg_name (i := 2) sc_Loop_line.nd rfl (.inl rfl))
      (pss_one (ps_if (PW.pt (pw_and (pt_val (pe_callB (call_isiK2 (K := K)) (by rfl) T.isinstance_ (by decide +kernel) (pa_cons (pv 1) (pa_cons (pe_bltn (v := .ty "str") (by rfl) T.str_ (by decide +kernel) rfl) pa_nil)))) (pw_and1 (pt_cmpR op_eq (pprop T.Line_name T.cLine.cl (pv 2) (ok_Line_name T) (hr.mono (by decide))) (pv 1) (nomark _))))) (pss_one (ps_ret (pv 2))) pss_nil)))
      (pss_one ps_never)), ?_⟩
    refine ⟨_, rfl, a, _, dx, _, _, rfl, ha, T.cLoop.cl, T.n6, loopF_lines _ _ _, lp, rfl, ⟨_, .inl (.inl hlp)⟩, for_it (walk_tup (K := K) (a := lp) (xs := ls)) (fun i σ' H' => ∃ y, σ' = [some (.ref a), some (.str x), y] ∧ Same H H' ∧ ∀ r ∈ wd.rows.take i, r.1 ≠ x) ⟨none, rfl, Same.refl _, by simp⟩
      (fun i σ' H' _ ⟨_, _, s1, _⟩ => .inl (.inl (s1 _ _ hlp))) ?_ ?_⟩
    · rintro i y σ' H1 H2 hi ⟨y0, rfl, s1, hno⟩ ⟨rfl, hy⟩
      obtain ⟨r, hr, b, dy, rfl, hb⟩ := hL.getR hy
      have hb2 := s1 _ _ hb
      refine ⟨_, rfl, _, _, _, _, true, rfl, .ty "str", .base (.str x), kit_ty (by decide +kernel), true, rfl, iteT ?_⟩
      refine ⟨_, rfl, b, dy, _, rfl, hb2, b, dy, _, _, rfl, hb2, lineF_name r, _, rfl, rfl, _, rfl, ?_⟩
      by_cases e : r.1 = x
      · refine iteY (congrArg V.str e) ?_
        refine ⟨_, rfl, q _ _ s1 ⟨b, dy, rfl, ?_⟩⟩
        have e2 := stride_row o (List.mem_of_getElem? hr)
        rw [e] at e2
        rw [hb2, e2, ← e]
      · refine iteN (fun z => e (V.str.inj z)) ⟨_, rfl, s1, fun r' hr' => ?_⟩
        rw [List.take_add_one, hr] at hr'
        rcases List.mem_append.mp hr' with z | z
        · exact hno r' z
        · rw [show r' = r by simpa using z]
          exact e
    · rintro σ' H1 ⟨y0, rfl, s1, hno⟩
      obtain ⟨r, hr, e⟩ := List.mem_map.mp hx
      exact (hno r (by rw [← hll, List.take_length]; exact hr) e).elim
theorem ok_Loop_place (T : Txt K mg) : FnOk P w K mg base CX0 1 T.Loop_place.f T.Loop_place.fd ["self", "ref", "at"] (sp3 (LpOk T) (fun wd r v H => rRef r v H ∧ r.1 ∈ wd.rows.map (·.1)) (fun _ _ => rInt) (fun wd r i => rRef (r.1, strideOf wd r.1 * i + r.2))) := by
  refine dok T.Loop_place.F sc_Loop_place (fun vs H Q E h => ?_) (fun cdv A outer s H vs Q E hr h => ?_)
  · exact sp3_len h
  · obtain ⟨wd, r, i, _, _, _, rfl, ⟨⟨a, dx, l, st, t, rfl, ha, hL, hS, ht⟩, o⟩, ⟨⟨b, rfl, hb⟩, hx⟩, rfl, q⟩ := h
    have hbT : SqT K H b [.str r.1, .int r.2] := .inl (.inl hb)
    obtain ⟨b1, b2⟩ := stride_bd o hx
    refine ⟨_, (pss_one (ps_ret (pe_tup (pa_cons (pe_ix (ix_tupK (K := K)) (pv 1) pe_int (fun _ _ => rfl)) (pa_cons (pe_op op_add (pe_op op_mul (pe_dget (hu_of hr) (pe_fldK (K := K) (pv 0) rfl) (pe_ix (ix_tupK (K := K)) (pv 1) pe_int (fun _ _ => rfl)) (fun _ _ => rfl)) (pv 2)) (pe_ix (ix_tupK (K := K)) (pv 1) pe_int (fun _ _ => rfl))) pa_nil))))), ?_⟩
    refine ⟨_, rfl, b, _, 0, .str r.1, rfl, rfl, hbT, atI_nat (j := 0) rfl, ?_⟩
    refine ⟨_, rfl, a, _, dx, _, _, rfl, ha, T.cLoop.cl, T.n8, loopF_strides _ _ _, _, rfl, b, _, 0, .str r.1, rfl, rfl, hbT, atI_nat (j := 0) rfl, t, _, rfl, ?_, _, rfl, strideOf wd r.1, i, rfl, rfl, .inl ⟨by omega, by omega⟩, ?_⟩
    · rw [← strK_get hx]
      exact DGet.k (k := Sum.inr r.1) ht
    · refine ⟨_, rfl, b, _, 1, .int r.2, rfl, rfl, hbT, atI_nat (j := 1) rfl, _, r.2, rfl, rfl, (by show 2 ≤ sizeLine; decide), fun p np => q _ _ (same_new np) ⟨p, rfl, upd_same⟩⟩
end
end VW

set_option maxHeartbeats 4000000
namespace VW
open PySem PySem.Spec PyProof.Rows L2
theorem walk_r0 {n : Nat} : Walk (Itr 0 n) n (fun _ => True) (YFn fun i => .int (i : Nat)) :=
  walk_range.mono (fun _ h => h) fun i H x H' _ _ y => ⟨y.1, y.2.trans (congrArg V.int (Int.zero_add _))⟩
theorem rgV_0 (n : Nat) : rgV 0 (n : Int) = (List.range n).map fun i => V.int (i : Nat) := by
  unfold rgV
  simp
theorem all2_nat {H : Hp} : ∀ {ns : List Nat} {vs : List V}, All2 rNat H ns vs ↔ vs = ns.map fun i => V.int (i : Nat)
  | [], [] => ⟨fun _ => rfl, fun _ => True.intro⟩
  | n :: ns, v :: vs => ⟨fun h => by
      have h1 : v = .int (n : Nat) := h.1
      rw [h1, all2_nat.mp h.2, List.map_cons], fun h => by
      rw [List.map_cons] at h
      injection h with h1 h2
      exact ⟨h1, all2_nat.mpr h2⟩⟩
  | [], _ :: _ => ⟨fun h => h.elim, fun h => by simp at h⟩
  | _ :: _, [] => ⟨fun h => h.elim, fun h => by simp at h⟩
theorem flatMap_le {α β : Type} {f : α → List β} {B : Nat} : ∀ {l : List α}, (∀ x ∈ l, (f x).length ≤ B) → (l.flatMap f).length ≤ l.length * B
  | [], _ => by simp
  | x :: l, h => by
    have h1 := h x List.mem_cons_self
    have h2 := flatMap_le (l := l) fun y hy => h y (List.mem_cons_of_mem _ hy)
    rw [List.flatMap_cons, List.length_append, List.length_cons, Nat.succ_mul]
    omega
theorem range_flat {β : Type} (f : Nat → List β) (i : Nat) : (List.range (i + 1)).flatMap f = (List.range i).flatMap f ++ f i := by
  rw [List.range_succ, List.flatMap_append]
  simp
theorem take_flat {α β : Type} (f : α → List β) {l : List α} {i : Nat} {x : α} (h : l[i]? = some x) : (l.take (i + 1)).flatMap f = (l.take i).flatMap f ++ f x := by
  rw [List.take_add_one, h, List.flatMap_append]
  simp
theorem deedAt_of {wd : Wd} {j : Nat} {d : Dd} (h : wd.deeds[j]? = some d) : deedAt wd j = d := by
  unfold deedAt
  rw [List.getD_eq_getElem?_getD, h]
  rfl
theorem deed_get {wd : Wd} {j : Nat} (h : j < wd.deeds.length) : wd.deeds[j]? = some (deedAt wd j) := by
  rw [deedAt_of (d := wd.deeds[j]) (by simp [h])]
  simp [h]
theorem deed_mem {wd : Wd} {j : Nat} (h : j < wd.deeds.length) : deedAt wd j ∈ wd.deeds := List.mem_of_getElem? (deed_get h)
theorem loadsEv_le {wd : Wd} (o : WOk wd) {j : Nat} (h : j < wd.deeds.length) (i : Nat) : (loadsEv wd j i).length ≤ 2 := by
  unfold loadsEv
  rw [List.length_map, List.length_range]
  exact o.dl _ (deed_mem h)
theorem turnEv_le {wd : Wd} (o : WOk wd) {j : Nat} (h : j < wd.deeds.length) (i : Nat) : (turnEv wd j i).length ≤ 3 := by
  have := loadsEv_le o h i
  unfold turnEv
  rw [List.length_append, List.length_singleton]
  omega
theorem iterEv_le {wd : Wd} (o : WOk wd) (i : Nat) : (iterEv wd i).length ≤ 9 := by
  have h := flatMap_le (f := fun j => turnEv wd j i) (B := 3) (l := List.range wd.deeds.length) fun j hj => turnEv_le o (List.mem_range.mp hj) i
  rw [List.length_range] at h
  have := o.d2
  unfold iterEv
  omega
theorem plainEv_le {wd : Wd} (o : WOk wd) (c : Nat) : (plainEv wd c).length ≤ c * 9 := by
  have h := flatMap_le (f := fun i => iterEv wd i) (B := 9) (l := List.range c) fun i _ => iterEv_le o i
  rw [List.length_range] at h
  exact h
/-- an event of the world -/
def EvOk (wd : Wd) (e : Ev) : Prop := e.j < wd.deeds.length ∧ e.i ≤ 1000000 ∧ ((e.w = "load" ∧ e.k < (deedAt wd e.j).loads.length) ∨ (e.w = "store" ∧ ∃ r, (deedAt wd e.j).goal = some r) ∨ e.w = "add")
theorem loadsEv_ok {wd : Wd} {j i : Nat} (h : j < wd.deeds.length) (hi : i ≤ 1000000) : ∀ e ∈ loadsEv wd j i, EvOk wd e := fun e he => by
  obtain ⟨k, hk, rfl⟩ := List.mem_map.mp he
  exact ⟨h, hi, .inl ⟨rfl, List.mem_range.mp hk⟩⟩
theorem endEv_ok {wd : Wd} {j i : Nat} (h : j < wd.deeds.length) (hi : i ≤ 1000000) : EvOk wd (endEv wd j i) := by
  refine ⟨h, hi, .inr ?_⟩
  unfold endEv
  by_cases hg : (deedAt wd j).goal = none
  · exact .inr (if_pos hg)
  · refine .inl ⟨if_neg hg, ?_⟩
    cases e : (deedAt wd j).goal with
    | none => exact absurd e hg
    | some r => exact ⟨r, rfl⟩
theorem turnEv_ok {wd : Wd} {j i : Nat} (h : j < wd.deeds.length) (hi : i ≤ 1000000) : ∀ e ∈ turnEv wd j i, EvOk wd e := fun e he => by
  rcases List.mem_append.mp he with he | he
  · exact loadsEv_ok h hi e he
  · rw [List.mem_singleton.mp he]
    exact endEv_ok h hi
theorem plainEv_ok {wd : Wd} {c : Nat} (hc : c ≤ 1000000) : ∀ e ∈ plainEv wd c, EvOk wd e := fun e he => by
  obtain ⟨i, hi, he⟩ := List.mem_flatMap.mp he
  obtain ⟨j, hj, he⟩ := List.mem_flatMap.mp he
  have := List.mem_range.mp hi
  exact turnEv_ok (List.mem_range.mp hj) (by omega) e he
section
variable {P : Program} {w : World} {K : PySem.W.Frag} {mg : Str → Option Value} {base : Heap}
/-- a promise whose result is new -/
def sp3n {α β γ : Type} (A : α → V → Hp → Prop) (B : α → β → V → Hp → Prop) (C : α → β → γ → V → Hp → Prop) (R : α → β → γ → V → Hp → Prop) : Sp := fun vs H Q _ => ∃ x y z v1 v2 v3, vs = [v1, v2, v3] ∧ A x v1 H ∧ B x y v2 H ∧ C x y z v3 H ∧
  ∀ u H', Same H H' → R x y z u H' → (∃ b, u = .ref b ∧ H b = none) → Q u H'
theorem sp3n_len {α β γ : Type} {A : α → V → Hp → Prop} {B : α → β → V → Hp → Prop} {C R : α → β → γ → V → Hp → Prop} {vs H Q E} (h : sp3n A B C R vs H Q E) : vs.length = 3 := by
  obtain ⟨_, _, _, _, _, _, rfl, _⟩ := h
  rfl
abbrev rJ : Wd → Rp Nat := fun wd j v _ => v = .int (j : Nat) ∧ j < wd.deeds.length
theorem ok_loads_of (T : Txt K mg) : FnOk P w K mg base CX0 3 T.loads_of.f T.loads_of.fd ["loop", "number", "at"] (sp3n (LpOk T) rJ (fun _ _ => rNat) (fun wd j i => rL rEv (loadsEv wd j i))) := by
  refine dok T.loads_of.F sc_loads_of (fun vs H Q E h => ?_) (fun cdv A outer s H vs Q E hr h => ?_)
  · exact sp3n_len h
  · obtain ⟨wd, j, i, _, _, _, rfl, ⟨⟨a, dx, l, st, t, rfl, ha, hL, ⟨s, ss, rfl, hs, hS⟩, ht⟩, o⟩, ⟨rfl, hj⟩, rfl, q⟩ := h
    obtain ⟨v, hv, b, dy, g, sv, rfl, hb, hg, ls, lv, rfl, hls, hll⟩ := hS.get (deed_get hj)
    have hl := hll.length
    have dl := o.dl _ (deed_mem hj)
    refine ⟨_, (pss_one (ps_ret (pe_lc (own := [("source", 3)]) rfl sc_loads_of.nd (pi_range1 (by rfl) T.range_ (pa_cons (pe_callB (call_lenK (K := K)) (by rfl) T.len_ (by decide +kernel) (pa_cons (pprop T.Statement_sources T.cStatement.cl (pe_ix (ix_tupK (K := K)) (pprop T.Loop_statements T.cLoop.cl (pv 0) (ok_Loop_statements T) (hr.mono (by decide))) (pv 1) (fun _ _ => rfl)) (ok_Statement_sources T) (hr.mono (by decide))) pa_nil)) pa_nil)) (blkOk_by (own := [("source", 3)]) (N := N_loads_of) (sc := defScope s_loads_of) (by decide +kernel)) (fun _ _ _ _ _ => (pg_name (i := 3) sc_loads_of.nd rfl (.inl rfl))) (fun _ _ _ _ _ => pts_nil) (fun _ _ _ _ _ => (pe_tup (pa_cons pe_str (pa_cons (pv 1) (pa_cons (pv 2) (pa_cons (pv 3) pa_nil))))))))), ?_⟩
    refine ⟨_, rfl, a, dx, _, rfl, ha, a, dx, _, _, rfl, ha, loopF_statements _ _ _, _, rfl, s, ss, j, .ref b, rfl, rfl, .inl (.inl hs), atI_nat (j := j) hv, b, dy, _, rfl, hb, b, dy, _, _, rfl, hb, stmtF_sources _ _ _,
      ls, lv, rfl, .inr (.inl (.inl hls)), (lv.length : Int), rfl, by omega, by omega, fun D nD => ?_⟩
    refine lc_map (S := rEv) (fun k => ⟨"load", j, i, k⟩) walk_range nD (by simp; omega) (fun _ _ => True.intro) (fun k x H1 H2 N hk s1 hy kk => ?_) fun H1 m => ?_
    · obtain ⟨rfl, rfl⟩ := hy
      refine ⟨rfl, _, rfl, _, rfl, _, rfl, (by show 4 ≤ sizeLine; decide), fun p np => kk _ _ (same_new np) ⟨p, rfl, ?_⟩⟩
      rw [upd_same]
      simp
    · refine q _ _ m.1 ?_ ⟨D, rfl, nD⟩
      have e : (List.range (lv.length : Int).toNat).map (fun k => (⟨"load", j, i, k⟩ : Ev)) = loadsEv wd j i := by
        unfold loadsEv
        rw [hl]
        rfl
      show rL rEv (loadsEv wd j i) _ _
      rw [← e]
      exact m.done
theorem ok_end_of (T : Txt K mg) : FnOk P w K mg base CX0 3 T.end_of.f T.end_of.fd ["loop", "number", "at"] (sp3 (LpOk T) rJ (fun _ _ => rNat) (fun wd j i => rEv (endEv wd j i))) := by
  refine dok T.end_of.F sc_end_of (fun vs H Q E h => ?_) (fun cdv A outer s H vs Q E hr h => ?_)
  · exact sp3_len h
  · obtain ⟨wd, j, i, _, _, _, rfl, ⟨⟨a, dx, l, st, t, rfl, ha, hL, ⟨s, ss, rfl, hs, hS⟩, ht⟩, o⟩, ⟨rfl, hj⟩, rfl, q⟩ := h
    obtain ⟨v, hv, b, dy, g, sv, rfl, hb, hg, _⟩ := hS.get (deed_get hj)
    refine ⟨_, (pss_one (ps_ret (pe_tup (pa_cons (pe_ifExp (pt_cmpR op_isN (pprop T.Statement_target T.cStatement.cl (pe_ix (ix_tupK (K := K)) (pprop T.Loop_statements T.cLoop.cl (pv 0) (ok_Loop_statements T) (hr.mono (by decide))) (pv 1) (fun _ _ => rfl)) (ok_Statement_target T) (hr.mono (by decide))) pe_non (nomark _)) pe_str pe_str) (pa_cons (pv 1) (pa_cons (pv 2) (pa_cons pe_int pa_nil))))))), ?_⟩
    refine ⟨_, rfl, a, dx, _, rfl, ha, a, dx, _, _, rfl, ha, loopF_statements _ _ _, _, rfl, s, ss, j, .ref b, rfl, rfl, .inl (.inl hs), atI_nat (j := j) hv, b, dy, _, rfl, hb, b, dy, _, _, rfl, hb, stmtF_target _ _ _, rfl, _, rfl, ?_⟩
    have fin : ∀ (x : Str), (if (deedAt wd j).goal = none then ("add" : Str) else "store") = x → ∀ p, H p = none → Q (.ref p) (upd H p (.tup [.str x, .int (j : Nat), .int (i : Nat), .int 0])) := fun x hx p np => by
      refine q _ _ (same_new np) ⟨p, rfl, ?_⟩
      rw [upd_same, ← hx]
      rfl
    cases e : (deedAt wd j).goal with
    | none =>
      rw [e] at hg
      cases (show g = V.non from hg)
      exact iteT ⟨_, rfl, _, rfl, (by show 4 ≤ sizeLine; decide), fin "add" (if_pos e)⟩
    | some r =>
      rw [e] at hg
      obtain ⟨c, rfl, hc⟩ := show rRef r g H from hg
      exact iteF ⟨_, rfl, _, rfl, (by show 4 ≤ sizeLine; decide), fin "store" (if_neg (by rw [e]; exact fun z => nomatch z))⟩
theorem Mk2.ext {β : Type} {S : Rp β} [ML S] {H0 H : Hp} {D : Addr} {bs cs : List β} {u : V} (h0 : H0 D = none) (m : Mk2 S H0 D bs H) (z : rL S cs u H) (hl : bs.length + cs.length ≤ 1000000) :
    ∃ b acc zs, u = .ref b ∧ H D = some (.lst acc) ∧ H b = some (.lst zs) ∧ acc.length + zs.length ≤ sizeLine ∧ Mk2 S H0 D (bs ++ cs) (upd H D (.lst (acc ++ zs))) := by
  obtain ⟨b, zs, rfl, hb, hz⟩ := z
  obtain ⟨s0, acc, e, a⟩ := m
  refine ⟨b, acc, zs, rfl, e, hb, ?_, Mk2.app h0 s0 e a hz⟩
  rw [← a.length, ← hz.length, sizeLine_eq]
  omega
theorem Mk2.one {β : Type} {S : Rp β} [ML S] {H0 H : Hp} {D : Addr} {bs : List β} {c : β} {v : V} (h0 : H0 D = none) (m : Mk2 S H0 D bs H) (z : S c v H) (hl : bs.length ≤ 1000000) :
    ∃ acc, H D = some (.lst acc) ∧ acc.length < sizeLine ∧ Mk2 S H0 D (bs ++ [c]) (upd H D (.lst (acc ++ [v]))) := by
  obtain ⟨s0, acc, e, a⟩ := m
  exact ⟨acc, e, all2_len a hl, Mk2.snoc h0 s0 e a z⟩
theorem ok_iteration_events (T : Txt K mg) : FnOk P w K mg base CX0 4 T.iteration_events.f T.iteration_events.fd ["loop", "at", "numbers"] (sp3 (LpOk T) (fun _ => rNat) (fun wd _ ns v H => rL rNat ns v H ∧ ns.length ≤ 1000 ∧ ∀ j ∈ ns, j < wd.deeds.length) (fun wd i ns => rL rEv (ns.flatMap fun j => turnEv wd j i))) := by
  refine dok T.iteration_events.F sc_iteration_events (fun vs H Q E h => ?_) (fun cdv A outer s H vs Q E hr h => ?_)
  · exact sp3_len h
  · obtain ⟨wd, i, ns, x0, _, _, rfl, hlp, rfl, ⟨⟨b, vs, rfl, hb, hns⟩, hn, hj⟩, q⟩ := h
    have o := hlp.2
    have hl := hns.length
    refine ⟨_, (pss_cons (ps_set (i := 3) sc_iteration_events.nd rfl (.inl rfl) (pe_lst pa_nil))
      (pss_cons (ps_for PassesOwn.never rfl (pi_listK (K := K) (pv 2)) (pg_name (i := 4) sc_iteration_events.nd rfl (.inl rfl))
      (pss_cons (ps_expr (pe_bmK (K := K) PySem.F.plainAttrs_list PySem.F.slot_list_extend PySem.F.type_list_extend mt_extend (pv 3) (pa_cons (pcall T.loads_of (ok_loads_of T) (hr.mono (by decide)) (pa_cons (pv 0) (pa_cons (pv 4) (pa_cons (pv 1) pa_nil)))) pa_nil)))
      (pss_one (ps_expr (pe_bmK (K := K) PySem.F.plainAttrs_list PySem.F.slot_list_append PySem.F.type_list_append mt_append (pv 3) (pa_cons (pcall T.end_of (ok_end_of T) (hr.mono (by decide)) (pa_cons (pv 0) (pa_cons (pv 4) (pa_cons (pv 1) pa_nil)))) pa_nil))))))
      (pss_one (ps_ret (pv 3))))), ?_⟩
    refine ⟨(by show 0 ≤ sizeLine; decide), fun D nD => ?_⟩
    have sD : Same H (upd H D (.lst [])) := same_new nD
    refine ⟨_, rfl, b, rfl, ⟨_, .inl (.inl (sD _ _ hb))⟩, for_it (walk_list (K := K) (a := b) (xs := vs)) (fun n σ' H' => ∃ y, σ' = [some x0, some (.int (i : Nat)), some (.ref b), some (.ref D), y] ∧ Mk2 rEv H D ((ns.take n).flatMap fun j => turnEv wd j i) H')
      ⟨none, rfl, Mk2.new nD⟩ (fun n σ' H' _ ⟨_, _, m⟩ => .inl (.inl (m.1 _ _ hb))) ?_ ?_⟩
    · rintro n y σ' H1 H2 hi ⟨y0, rfl, m⟩ ⟨rfl, hy⟩
      obtain ⟨j, hj2, rfl⟩ := hns.getR hy
      have hjw := hj j (List.mem_of_getElem? hj2)
      have hb3 : ((ns.take n).flatMap fun j => turnEv wd j i).length ≤ (ns.take n).length * 3 := flatMap_le fun x hx => turnEv_le o (hj x (List.mem_of_mem_take hx)) i
      rw [List.length_take] at hb3
      have h2 := loadsEv_le o hjw i
      obtain ⟨acc0, e0, _⟩ := m.2
      refine ⟨_, rfl, .inl ⟨rfl, _, .inl (.inl e0)⟩, _, rfl, _, rfl, _, rfl, wd, j, i, _, _, _, rfl, Mono.mono m.1 hlp, ⟨rfl, hjw⟩, rfl, fun u H3 s3 hu _ => ?_⟩
      obtain ⟨b3, acc, zs, rfl, eD, e3, hle, m2⟩ := (m.grow nD s3).ext nD hu (by omega)
      refine ⟨D, b3, acc, zs, rfl, rfl, eD, e3, hle, ?_⟩
      obtain ⟨acc1, e1, _⟩ := m2.2
      refine ⟨_, rfl, .inl ⟨rfl, _, .inl (.inl e1)⟩, _, rfl, _, rfl, _, rfl, wd, j, i, _, _, _, rfl, Mono.mono m2.1 hlp, ⟨rfl, hjw⟩, rfl, fun u H4 s4 hu4 => ?_⟩
      obtain ⟨acc4, e4, hle4, m4⟩ := (m2.grow nD s4).one nD hu4 (by rw [List.length_append]; omega)
      refine ⟨D, acc4, _, rfl, rfl, e4, hle4, _, rfl, ?_⟩
      rw [take_flat _ hj2]
      unfold turnEv
      rw [← List.append_assoc]
      exact m4
    · rintro σ' H1 ⟨y0, rfl, m⟩
      rw [← hl, List.take_length] at m
      exact ⟨_, rfl, q _ _ m.1 m.done⟩
theorem ok_plain_list (T : Txt K mg) : FnOk P w K mg base CX0 5 T.plain_list.f T.plain_list.fd ["loop", "count"] (sp2 (LpOk T) (fun _ c v _ => v = .int (c : Nat) ∧ c ≤ 1000) (fun wd c => rL rEv (plainEv wd c))) := by
  refine dok T.plain_list.F sc_plain_list (fun vs H Q E h => ?_) (fun cdv A outer s H vs Q E hr h => ?_)
  · exact sp2_len h
  · obtain ⟨wd, c, x0, _, rfl, hlp, ⟨rfl, hc⟩, q⟩ := h
    have o := hlp.2
    refine ⟨_, (pss_cons (ps_set (i := 2) sc_plain_list.nd rfl (.inl rfl) (pe_lst pa_nil))
      (pss_cons (ps_for PassesOwn.never rfl (pi_range1 (by rfl) T.range_ (pa_cons (pv 1) pa_nil)) (pg_name (i := 3) sc_plain_list.nd rfl (.inl rfl))
      (pss_one (ps_expr (pe_bmK (K := K) PySem.F.plainAttrs_list PySem.F.slot_list_extend PySem.F.type_list_extend mt_extend (pv 2) (pa_cons (pcall T.iteration_events (ok_iteration_events T) (hr.mono (by decide)) (pa_cons (pv 0) (pa_cons (pv 3) (pa_cons (pe_listRg rfl (by rfl) T.list_ (prg_1 (by rfl) T.range_ (pe_callB (T.lenO (ok_Loop_len T) (hr.mono (by decide))) (by rfl) T.len_ (by decide +kernel) (pa_cons (pv 0) pa_nil)))) pa_nil)))) pa_nil)))))
      (pss_one (ps_ret (pv 2))))), ?_⟩
    refine ⟨(by show 0 ≤ sizeLine; decide), fun D nD => ?_⟩
    refine ⟨_, rfl, (c : Nat), rfl, by omega, by omega, for_it walk_r0 (fun n σ' H' => ∃ y, σ' = [some x0, some (.int (c : Nat)), some (.ref D), y] ∧ Mk2 rEv H D (plainEv wd n) H')
      ⟨none, rfl, Mk2.new nD⟩ (fun _ _ _ _ _ => True.intro) ?_ ?_⟩
    · rintro n y σ' H1 H2 hi ⟨y0, rfl, m⟩ ⟨rfl, rfl⟩
      have h1 := plainEv_le o n
      have h2 := iterEv_le o n
      have d2 := o.d2
      obtain ⟨acc0, e0, _⟩ := m.2
      have hlp2 := Mono.mono m.1 hlp
      obtain ⟨⟨al, dl, _, _, _, rfl, hal, _⟩, _⟩ := id hlp2
      refine ⟨_, rfl, .inl ⟨rfl, _, .inl (.inl e0)⟩, _, rfl, _, rfl, _, rfl, al, dl, _, rfl, hal, wd, _, rfl, hlp2, fun u H3 s3 hu => ⟨wd.deeds.length, hu, by omega, ?_⟩⟩
      cases hu
      refine ⟨_, rfl, RgOk.of_le (by omega) (by omega) (by omega) (by omega), fun z nz => ?_⟩
      have s4 := Same.new (o := .lst (rgV 0 (wd.deeds.length : Int))) s3 nz
      refine ⟨wd, n, List.range wd.deeds.length, _, _, _, rfl, Mono.mono s4 hlp2, rfl, ⟨⟨z, _, rfl, upd_same, all2_nat.mpr (rgV_0 _)⟩, by simp; omega, fun j hj => List.mem_range.mp hj⟩, fun u H5 s5 hu => ?_⟩
      obtain ⟨b3, acc, zs, rfl, eD, e3, hle, m2⟩ := (m.grow nD (s4.trans s5)).ext nD hu (by show _ + (iterEv wd n).length ≤ _; omega)
      refine ⟨D, b3, acc, zs, rfl, rfl, eD, e3, hle, _, rfl, ?_⟩
      have e9 : plainEv wd (n + 1) = plainEv wd n ++ iterEv wd n := range_flat _ n
      rw [e9]
      exact m2
    · rintro σ' H1 ⟨y0, rfl, m⟩
      exact ⟨_, rfl, q _ _ m.1 m.done⟩
end
end VW

set_option maxHeartbeats 4000000
namespace VW
open PySem PySem.Spec PyProof.Rows L2
/-! ### dicts with tuple keys, item by item -/
section
variable {β : Type} {R : Rp β} {H H' : Hp}
theorem kv_get : ∀ {l : List (List Key × β)} {kvs : List (List Key × V)} (k : List Key), All2 (KvR R) H l kvs → (getA l k = none ∧ valV kvs k = none) ∨ ∃ b v, getA l k = some b ∧ valV kvs k = some v ∧ R b v H
  | [], [], k, _ => .inl ⟨rfl, rfl⟩
  | p :: l, q :: kvs, k, h => by
    by_cases e : q.1 = k
    · have e2 : p.1 = k := h.1.1.trans e
      exact .inr ⟨p.2, q.2, by simp [getA, List.find?_cons, e2], valV_pos e, h.1.2⟩
    · have e2 : ¬ p.1 = k := fun z => e (h.1.1.symm.trans z)
      have e3 : getA (p :: l) k = getA l k := by simp [getA, List.find?_cons, e2]
      rw [valV_neg e, e3]
      exact kv_get k h.2
  | [], _ :: _, _, h => h.elim
  | _ :: _, [], _, h => h.elim
theorem kv_any : ∀ {l : List (List Key × β)} {kvs : List (List Key × V)} (k : List Key), All2 (KvR R) H l kvs → (l.any fun q => decide (q.1 = k)) = kvs.any fun q => decide (q.1 = k)
  | [], [], k, _ => rfl
  | p :: l, q :: kvs, k, h => by
    rw [List.any_cons, List.any_cons, kv_any k h.2, h.1.1]
  | [], _ :: _, _, h => h.elim
  | _ :: _, [], _, h => h.elim
theorem kv_map {k : List Key} {b : β} {v : V} (r : R b v H) : ∀ {l : List (List Key × β)} {kvs : List (List Key × V)}, All2 (KvR R) H l kvs →
    All2 (KvR R) H (l.map fun q => if q.1 = k then (q.1, b) else q) (kvs.map fun q => if q.1 = k then (q.1, v) else q)
  | [], [], _ => True.intro
  | p :: l, q :: kvs, h => by
    refine ⟨?_, kv_map r h.2⟩
    by_cases e : q.1 = k
    · have e2 : p.1 = k := h.1.1.trans e
      simp only [if_pos e, if_pos e2]
      exact ⟨h.1.1, r⟩
    · have e2 : ¬ p.1 = k := fun z => e (h.1.1.symm.trans z)
      simp only [if_neg e, if_neg e2]
      exact h.1
  | [], _ :: _, h => h.elim
  | _ :: _, [], h => h.elim
theorem kv_put {k : List Key} {b : β} {v : V} {l : List (List Key × β)} {kvs : List (List Key × V)} (h : All2 (KvR R) H l kvs) (r : R b v H) : All2 (KvR R) H (putA l k b) (putK kvs k v) := by
  unfold putA putK
  rw [kv_any k h]
  by_cases a : (kvs.any fun q => decide (q.1 = k)) = true
  · rw [if_pos a, if_pos a]
    exact kv_map r h
  · rw [if_neg a, if_neg a]
    exact h.snoc ⟨rfl, r⟩
theorem putA_len (l : List (List Key × β)) (k : List Key) (b : β) : (putA l k b).length ≤ l.length + 1 := by
  unfold putA
  by_cases e : (l.any fun q => decide (q.1 = k)) = true
  · rw [if_pos e, List.length_map]
    omega
  · rw [if_neg e, List.length_append, List.length_singleton]
    omega
end
/-- tuples are kept -/
def KeepT (H H' : Hp) : Prop := ∀ b xs, H b = some (.tup xs) → H' b = some (.tup xs)
theorem KeepT.of {H H' : Hp} (s : Same H H') : KeepT H H' := fun b xs h => s b _ h
theorem KeepT.put {H : Hp} {p : Addr} {kvs : List (List Key × V)} {o : HO} (h : H p = some (.dT kvs)) : KeepT H (upd H p o) := fun b xs e => by
  have hb : b ≠ p := fun z => by
    subst z
    rw [h] at e
    cases e
  rw [upd_ne hb]
  exact e
theorem kt_NN {x : Nat × Nat} {v : V} {H H' : Hp} (s : KeepT H H') (h : rNN x v H) : rNN x v H' := let ⟨a, e, h⟩ := h; ⟨a, e, s _ _ h⟩
theorem kt_oNN {x : Option (Nat × Nat)} {v : V} {H H' : Hp} (s : KeepT H H') (h : rOpt rNN x v H) : rOpt rNN x v H' := by
  cases x with
  | none => exact h
  | some y => exact kt_NN s h
theorem kv_kt {β : Type} {R : Rp β} (k : ∀ {x : β} {v : V} {H H' : Hp}, KeepT H H' → R x v H → R x v H') {H H' : Hp} {l : List (List Key × β)} {kvs : List (List Key × V)} (s : KeepT H H') (h : All2 (KvR R) H l kvs) : All2 (KvR R) H' l kvs :=
  h.imp fun _ _ q => ⟨q.1, k s q.2⟩
theorem flow_len (wd : Wd) : ∀ (l : List Ev) (st : Org × Wri), (l.foldl (flowStep wd) st).1.length ≤ st.1.length + l.length ∧ (l.foldl (flowStep wd) st).2.length ≤ st.2.length + l.length
  | [], st => ⟨Nat.le_refl _, Nat.le_refl _⟩
  | e :: l, st => by
    obtain ⟨h1, h2⟩ := flow_len wd l (flowStep wd st e)
    have h3 : (flowStep wd st e).1.length ≤ st.1.length + 1 ∧ (flowStep wd st e).2.length ≤ st.2.length + 1 := by
      unfold flowStep
      by_cases c1 : e.w = "load"
      · rw [if_pos c1]
        exact ⟨putA_len _ _ _, Nat.le_succ _⟩
      · rw [if_neg c1]
        by_cases c2 : e.w = "store"
        · rw [if_pos c2]
          exact ⟨Nat.le_succ _, putA_len _ _ _⟩
        · rw [if_neg c2]
          exact ⟨Nat.le_succ _, Nat.le_succ _⟩
    rw [List.foldl_cons, List.length_cons]
    exact ⟨by omega, by omega⟩
theorem flow_take (wd : Wd) {l : List Ev} {n : Nat} {e : Ev} (h : l[n]? = some e) : flowM wd (l.take (n + 1)) = flowStep wd (flowM wd (l.take n)) e := by
  unfold flowM
  rw [List.take_add_one, h, List.foldl_append]
  rfl
section
variable {P : Program} {w : World} {K : PySem.W.Frag} {mg : Str → Option Value} {base : Heap}
theorem loopF_place (l s t : V) : (loopF l s t).lookup ("place" : Str) = none := lk_next (by decide +kernel) (lk_next (by decide +kernel) (lk_next (by decide +kernel) rfl))
theorem ok_cell_of (T : Txt K mg) : FnOk P w K mg base CX0 3 T.cell_of.f T.cell_of.fd ["loop", "event"] (sp2 (LpOk T) (fun wd e v H => rEv e v H ∧ EvOk wd e ∧ e.w ≠ "add") (fun wd e => rRef (cellOf wd e))) := by
  refine dok T.cell_of.F sc_cell_of (fun vs H Q E h => ?_) (fun cdv A outer s H vs Q E hr h => ?_)
  · exact sp2_len h
  · obtain ⟨wd, e, _, _, rfl, hlp, ⟨⟨b, rfl, hb⟩, ⟨hj, hi, hw⟩, hn⟩, q⟩ := h
    obtain ⟨⟨a, dx, l, st, t, rfl, ha, hL, ⟨s, ss, rfl, hs, hS⟩, ht⟩, o⟩ := id hlp
    obtain ⟨v, hv, c, dy, g, sv, rfl, hc, hg, ls, lv, rfl, hls, hll⟩ := hS.get (deed_get hj)
    refine ⟨_, (pss_cons (ps_asg (pv 1) (pg_tupK (K := K) 4 rfl (pgs_cons (pg_name (i := 2) sc_cell_of.nd rfl (.inl rfl)) (pgs_cons (pg_name (i := 3) sc_cell_of.nd rfl (.inl rfl)) (pgs_cons (pg_name (i := 4) sc_cell_of.nd rfl (.inl rfl)) (pgs_cons (pg_name (i := 5) sc_cell_of.nd rfl (.inl rfl)) pgs_nil))))))
      (pss_cons (ps_set (i := 6) sc_cell_of.nd rfl (.inl rfl) (pe_ix (ix_tupK (K := K)) (pprop T.Loop_statements T.cLoop.cl (pv 0) (ok_Loop_statements T) (hr.mono (by decide))) (pv 3) (fun _ _ => rfl)))
      (pss_one (ps_ret (pmeth T.Loop_place T.cLoop.cl (pv 0) (ok_Loop_place T) (hr.mono (by decide)) (pa_cons (pe_ifExp (pt_cmpR op_eq (pv 2) pe_str (nomark _)) (pprop T.Statement_target T.cStatement.cl (pv 6) (ok_Statement_target T) (hr.mono (by decide))) (pe_ix (ix_tupK (K := K)) (pprop T.Statement_sources T.cStatement.cl (pv 6) (ok_Statement_sources T) (hr.mono (by decide))) (pv 5) (fun _ _ => rfl))) (pa_cons (pv 4) pa_nil))))))), ?_⟩
    have fin : ∀ (r : Str × Int) (y : V), refOf wd e = r → r ∈ refsOf (deedAt wd e.j) → rRef r y H → ∃ (wd' : Wd) (r' : Str × Int) (i' : Int) (v1 v2 v3 : V), [V.ref a, y, V.int (e.i : Nat)] = [v1, v2, v3] ∧ LpOk T wd' v1 H ∧ (rRef r' v2 H ∧ r'.1 ∈ wd'.rows.map (·.1)) ∧ v3 = V.int i' ∧
        ∀ u H', Same H H' → rRef (r'.1, strideOf wd' r'.1 * i' + r'.2) u H' → Q u H' := fun r y e1 hm hy => by
      refine ⟨wd, r, (e.i : Nat), _, _, _, rfl, hlp, ⟨hy, (o.dr _ (deed_mem hj) r hm).1⟩, rfl, fun u H' s1 hu => q u H' s1 ?_⟩
      show rRef (cellOf wd e) u H'
      unfold cellOf
      rw [e1]
      exact hu
    refine ⟨_, rfl, b, _, rfl, .inl (.inl hb), rfl, _, _, rfl, _, _, rfl, _, _, rfl, _, _, rfl, rfl, ?_⟩
    refine ⟨_, rfl, a, dx, _, rfl, ha, a, dx, _, _, rfl, ha, loopF_statements _ _ _, _, rfl, s, ss, e.j, .ref c, rfl, rfl, .inl (.inl hs), atI_nat (j := e.j) hv, ?_⟩
    refine ⟨_, rfl, a, dx, _, rfl, ha, loopF_place _ _ _, _, rfl, rfl, _, rfl, ?_⟩
    rcases hw with ⟨hw, hk⟩ | ⟨hw, r, hr1⟩ | hw
    · have hne : ¬ V.str e.w = V.str "store" := fun z => by
        rw [hw] at z
        exact absurd (V.str.inj z) (by decide +kernel)
      obtain ⟨r, hr1⟩ : ∃ r, (deedAt wd e.j).loads[e.k]? = some r := ⟨(deedAt wd e.j).loads[e.k], by simp [hk]⟩
      obtain ⟨y, hy, hyr⟩ := hll.get hr1
      refine iteN hne ?_
      refine ⟨_, rfl, c, dy, _, rfl, hc, c, dy, _, _, rfl, hc, stmtF_sources _ _ _, _, rfl, ls, lv, e.k, y, rfl, rfl, .inl (.inl hls), atI_nat (j := e.k) hy, _, rfl, ?_⟩
      refine fin r y ?_ (refsOf_load (List.mem_of_getElem? hr1)) hyr
      unfold refOf
      rw [if_neg (fun z => hne (congrArg V.str z)), List.getD_eq_getElem?_getD, hr1]
      rfl
    · rw [hr1] at hg
      refine iteY (congrArg V.str hw) ?_
      refine ⟨_, rfl, c, dy, _, rfl, hc, c, dy, _, _, rfl, hc, stmtF_target _ _ _, _, rfl, ?_⟩
      refine fin r g ?_ (refsOf_goal hr1) hg
      unfold refOf
      rw [if_pos hw, hr1]
      rfl
    · exact absurd hw hn
end
end VW

set_option maxHeartbeats 4000000
namespace VW
open PySem PySem.Spec PyProof.Rows L2
theorem cut_13 (a b c d : V) : cutV [a, b, c, d] (some 1) (some 3) = [b, c] := rfl
theorem cut_1n (a b c d : V) : cutV [a, b, c, d] (some 1) none = [b, c, d] := rfl
/-- two dicts that the flow makes -/
def FlowAt (H0 : Hp) (o w : Addr) (st : Org × Wri) (H : Hp) : Prop := Same H0 H ∧ ∃ ko kw, H o = some (.dT ko) ∧ H w = some (.dT kw) ∧ All2 (KvR (rOpt rNN)) H st.1 ko ∧ All2 (KvR rNN) H st.2 kw
theorem FlowAt.grow {H0 H H' : Hp} {o w : Addr} {st : Org × Wri} (f : FlowAt H0 o w st H) (s : Same H H') : FlowAt H0 o w st H' :=
  let ⟨s0, ko, kw, h1, h2, h3, h4⟩ := f
  ⟨s0.trans s, ko, kw, s _ _ h1, s _ _ h2, kv_kt (R := rOpt rNN) kt_oNN (KeepT.of s) h3, kv_kt (R := rNN) kt_NN (KeepT.of s) h4⟩
theorem FlowAt.load {H0 H : Hp} {o w b : Addr} {st : Org × Wri} {k : List Key} {x : Option (Nat × Nat)} {v : V} (ho : H0 o = none) (hne : o ≠ w) (hl : st.1.length < 1000000) (f : FlowAt H0 o w st H) (hb : H b = some (.tup (k.map kV))) (hv : rOpt rNN x v H) :
    ∃ H', DPut H o (.ref b) v H' ∧ FlowAt H0 o w (putA st.1 k x, st.2) H' := by
  obtain ⟨s0, ko, kw, h1, h2, h3, h4⟩ := f
  have kt := KeepT.put (o := .dT (putK ko k v)) h1
  have hl2 := h3.length
  exact ⟨_, DPut.t h1 hb (by rw [← hl2, sizeLine_eq]; omega), Same.put s0 ho, _, kw, upd_same, by rw [upd_ne hne.symm]; exact h2, kv_kt (R := rOpt rNN) kt_oNN kt (kv_put h3 hv), kv_kt (R := rNN) kt_NN kt h4⟩
theorem FlowAt.store {H0 H : Hp} {o w b : Addr} {st : Org × Wri} {k : List Key} {x : Nat × Nat} {v : V} (hw : H0 w = none) (hne : o ≠ w) (hl : st.2.length < 1000000) (f : FlowAt H0 o w st H) (hb : H b = some (.tup (k.map kV))) (hv : rNN x v H) :
    ∃ H', DPut H w (.ref b) v H' ∧ FlowAt H0 o w (st.1, putA st.2 k x) H' := by
  obtain ⟨s0, ko, kw, h1, h2, h3, h4⟩ := f
  have kt := KeepT.put (o := .dT (putK kw k v)) h2
  have hl2 := h4.length
  exact ⟨_, DPut.t h2 hb (by rw [← hl2, sizeLine_eq]; omega), Same.put s0 hw, ko, _, by rw [upd_ne hne]; exact h1, upd_same, kv_kt (R := rOpt rNN) kt_oNN kt h3, kv_kt (R := rNN) kt_NN kt (kv_put h4 hv)⟩
theorem FlowAt.get {H0 H : Hp} {o w b : Addr} {st : Org × Wri} {k : List Key} (f : FlowAt H0 o w st H) (hb : H b = some (.tup (k.map kV))) : ∃ r, DGet H w (.ref b) r ∧ rOpt rNN (getA st.2 k) (r.getD .non) H := by
  obtain ⟨s0, ko, kw, h1, h2, h3, h4⟩ := f
  refine ⟨_, DGet.t h2 hb, ?_⟩
  rcases kv_get k h4 with ⟨e1, e2⟩ | ⟨x, v, e1, e2, r⟩
  · rw [e1, e2]
    rfl
  · rw [e1, e2]
    exact r
theorem FlowAt.isD {H0 H : Hp} {o w : Addr} {st : Org × Wri} (f : FlowAt H0 o w st H) : IsD H w := let ⟨_, _, kw, _, h2, _⟩ := f; .inr ⟨kw, .inl h2⟩
theorem FlowAt.new {H : Hp} {o w : Addr} (ho : H o = none) (hw : (upd H o (.dT [])) w = none) : FlowAt H o w ([], []) (upd (upd H o (.dT [])) w (.dT [])) ∧ H w = none ∧ o ≠ w := by
  have hne : o ≠ w := fun z => by
    rw [← z, upd_same] at hw
    cases hw
  refine ⟨⟨Same.new (same_new ho) hw, [], [], by rw [upd_ne hne]; exact upd_same, upd_same, True.intro, True.intro⟩, ?_, hne⟩
  rw [upd_ne hne.symm] at hw
  exact hw
def rFlow : Rp (Org × Wri) := fun st v H => ∃ o w, TupAt H v [o, w] ∧ rD (rOpt rNN) st.1 o H ∧ rD rNN st.2 w H
section
variable {P : Program} {w : World} {K : PySem.W.Frag} {mg : Str → Option Value} {base : Heap}
theorem ok_flow (T : Txt K mg) : FnOk P w K mg base CX0 4 T.flow.f T.flow.fd ["loop", "events"] (sp2 (LpOk T) (fun wd l v H => rL rEv l v H ∧ (∀ e ∈ l, EvOk wd e) ∧ l.length ≤ 100000) (fun wd l => rFlow (flowM wd l))) := by
  refine dok T.flow.F sc_flow (fun vs H Q E h => ?_) (fun cdv A outer s H vs Q E hr h => ?_)
  · exact sp2_len h
  · obtain ⟨wd, l, x0, _, rfl, hlp, ⟨⟨eb, vs, rfl, hb, hl⟩, hok, hlen⟩, q⟩ := h
    have hll := hl.length
    refine ⟨_, (pss_cons (ps_par (i := 2) (j := 3) rfl sc_flow.nd rfl rfl (by decide) rfl rfl (pa_cons pe_dnewT (pa_cons pe_dnewT pa_nil)) (by rfl))
      (pss_cons (ps_for PassesOwn.never rfl (pi_listK (K := K) (pv 1)) (pg_name (i := 4) sc_flow.nd rfl (.inl rfl))
      (pss_one (ps_if (pt_cmpR op_eq (pe_ix (ix_tupK (K := K)) (pv 4) pe_int (fun _ _ => rfl)) pe_str (nomark _)) (pss_one (ps_dput (hu_of hr) (pv 2) (pe_slice (sl_tupK (K := K)) (pv 4) (po_some pe_int) po_none) (pe_dget2 (hu_of hr) (pv 3) (pcall T.cell_of (ok_cell_of T) (hr.mono (by decide)) (pa_cons (pv 0) (pa_cons (pv 4) pa_nil))) pe_non ⟨rfl, rfl, rfl, rfl⟩) rfl)) (pss_one (ps_if (pt_cmpR op_eq (pe_ix (ix_tupK (K := K)) (pv 4) pe_int (fun _ _ => rfl)) pe_str (nomark _)) (pss_one (ps_dput (hu_of hr) (pv 3) (pcall T.cell_of (ok_cell_of T) (hr.mono (by decide)) (pa_cons (pv 0) (pa_cons (pv 4) pa_nil))) (pe_slice (sl_tupK (K := K)) (pv 4) (po_some pe_int) (po_some pe_int)) rfl)) pss_nil)))))
      (pss_one (ps_ret (pe_tup (pa_cons (pv 2) (pa_cons (pv 3) pa_nil))))))), ?_⟩
    refine fun o no => fun w nw => ?_
    obtain ⟨f0, hw0, hne⟩ := FlowAt.new no nw
    refine ⟨_, _, rfl, _, rfl, eb, rfl, ⟨_, .inl (.inl (f0.1 _ _ hb))⟩, for_it (walk_list (K := K) (a := eb) (xs := vs)) (fun n σ' H' => ∃ y, σ' = [some x0, some (.ref eb), some (.ref o), some (.ref w), y] ∧ FlowAt H o w (flowM wd (l.take n)) H')
      ⟨none, rfl, f0⟩ (fun n σ' H' _ ⟨_, _, f⟩ => .inl (.inl (f.1 _ _ hb))) ?_ ?_⟩
    · rintro n y σ' H1 H2 hi ⟨y0, rfl, f⟩ ⟨rfl, hy⟩
      obtain ⟨e, he, ev, rfl, hev0⟩ := hl.getR hy
      have hem := List.mem_of_getElem? he
      have hev := f.1 _ _ hev0
      have hlen1 := flow_len wd (l.take n) ([], [])
      have hlen2 : (l.take n).length ≤ l.length := by rw [List.length_take]; omega
      have hlenN : ([] : List Nat).length = 0 := rfl
      have hst : (flowM wd (l.take n)).1.length < 1000000 ∧ (flowM wd (l.take n)).2.length < 1000000 := by
        have h1 := hlen1.1
        have h2 := hlen1.2
        simp only [List.length_nil] at h1 h2
        unfold flowM
        omega
      rw [flow_take wd he]
      unfold flowStep
      refine ⟨_, rfl, ev, _, 0, .str e.w, rfl, rfl, .inl (.inl hev), atI_nat (j := 0) rfl, rfl, _, rfl, ?_⟩
      by_cases c1 : e.w = "load"
      · rw [if_pos c1]
        have hna : e.w ≠ "add" := fun z => absurd (c1.symm.trans z) (by decide +kernel)
        refine iteY (congrArg V.str c1) ?_
        refine ⟨_, rfl, w, rfl, f.isD, _, rfl, _, rfl, wd, e, _, _, rfl, Mono.mono f.1 hlp, ⟨⟨ev, rfl, hev⟩, hok e hem, hna⟩, fun u H3 s3 hu => ?_⟩
        obtain ⟨cb, rfl, hcb⟩ := hu
        obtain ⟨r, hg, hr1⟩ := (f.grow s3).get (k := cellKey wd e) hcb
        refine ⟨r, hg, _, rfl, _, rfl, 1, rfl, ev, _, rfl, .inl (.inl (s3 _ _ hev)), fun z => absurd z.1 (show ¬ HT.sIx 4 0 (some 1) = 0 by decide), fun _ p np => ?_⟩
        rw [cut_1n]
        have f4 := f.grow (s3.trans (same_new (o := .tup [.int (e.j : Nat), .int (e.i : Nat), .int (e.k : Nat)]) np))
        obtain ⟨H5, hp, f5⟩ := f4.load (k := loadKey e) (b := p) no hne hst.1 upd_same (Mono.mono (R := rOpt rNN) (same_new np) hr1)
        exact ⟨o, H5, rfl, hp, _, rfl, f5⟩
      · rw [if_neg c1]
        refine iteN (fun z => c1 (V.str.inj z)) ?_
        refine ⟨_, rfl, ev, _, 0, .str e.w, rfl, rfl, .inl (.inl hev), atI_nat (j := 0) rfl, rfl, _, rfl, ?_⟩
        by_cases c2 : e.w = "store"
        · rw [if_pos c2]
          have hna : e.w ≠ "add" := fun z => absurd (c2.symm.trans z) (by decide +kernel)
          refine iteY (congrArg V.str c2) ?_
          refine ⟨_, rfl, 1, rfl, 3, rfl, ev, _, rfl, .inl (.inl hev), fun z => absurd z.1 (show ¬ HT.sIx 4 0 (some 1) = 0 by decide), fun _ p np => ?_⟩
          rw [cut_13]
          have s2 := same_new (o := .tup [.int (e.j : Nat), .int (e.i : Nat)]) np
          refine ⟨_, rfl, _, rfl, _, rfl, wd, e, _, _, rfl, Mono.mono s2 (Mono.mono f.1 hlp), ⟨⟨ev, rfl, s2 _ _ hev⟩, hok e hem, hna⟩, fun u H3 s3 hu => ?_⟩
          obtain ⟨cb, rfl, hcb⟩ := hu
          obtain ⟨H5, hp, f5⟩ := (f.grow (s2.trans s3)).store (k := cellKey wd e) (b := cb) (x := (e.j, e.i)) (v := .ref p) hw0 hne hst.2 hcb ⟨p, rfl, s3 _ _ upd_same⟩
          exact ⟨w, H5, rfl, hp, _, rfl, f5⟩
        · rw [if_neg c2]
          exact iteN (fun z => c2 (V.str.inj z)) ⟨_, rfl, f⟩
    · rintro σ' H1 ⟨y0, rfl, f⟩
      rw [← hll, List.take_length] at f
      refine ⟨_, rfl, _, rfl, (by show 2 ≤ sizeLine; decide), fun p np => ?_⟩
      have s2 := same_new (o := .tup [.ref o, .ref w]) np
      obtain ⟨s3, ko, kw, h1, h2, h3, h4⟩ := f.grow s2
      exact q _ _ s3 ⟨_, _, ⟨p, rfl, upd_same⟩, ⟨o, ko, rfl, h1, h3⟩, ⟨w, kw, rfl, h2, h4⟩⟩
end
end VW

set_option maxHeartbeats 4000000
namespace VW
open PySem PySem.Spec PyProof.Rows L2
theorem numRefsOf_le {wd : Wd} (o : WOk wd) {j : Nat} (h : j < wd.deeds.length) : (numRefsOf j (deedAt wd j)).length ≤ 3 := by
  have h1 := o.dl _ (deed_mem h)
  have h2 : (deedAt wd j).goal.toList.length ≤ 1 := by cases (deedAt wd j).goal <;> simp
  unfold numRefsOf
  rw [List.length_append, List.length_map, List.length_map, List.length_range]
  omega
theorem numTo_le {wd : Wd} (o : WOk wd) {n : Nat} (h : n ≤ wd.deeds.length) : ((List.range n).flatMap fun j => numRefsOf j (deedAt wd j)).length ≤ 9 := by
  have h1 := flatMap_le (f := fun j => numRefsOf j (deedAt wd j)) (B := 3) (l := List.range n) fun j hj => numRefsOf_le o (by have := List.mem_range.mp hj; omega)
  rw [List.length_range] at h1
  have := o.d2
  omega
theorem numRefs_le {wd : Wd} (o : WOk wd) : (numRefs wd).length ≤ 9 := numTo_le o (Nat.le_refl _)
theorem rNum_mk {H : Hp} {n k : Int} {r : Str × Int} {v : V} {p : Addr} (hp : H p = some (.tup [.int n, .int k, v])) (hr : rRef r v H) : rNum (n, k, r) (.ref p) H := ⟨v, ⟨p, rfl, hp⟩, hr⟩
section
variable {P : Program} {w : World} {K : PySem.W.Frag} {mg : Str → Option Value} {base : Heap}
theorem ok_numbered_refs (T : Txt K mg) : FnOk P w K mg base CX0 3 T.numbered_refs.f T.numbered_refs.fd ["loop"] (sp1 (LpOk T) (fun wd => rL rNum (numRefs wd))) := by
  refine dok T.numbered_refs.F sc_numbered_refs (fun vs H Q E h => ?_) (fun cdv A outer s H vs Q E hr h => ?_)
  · exact sp1_len h
  · obtain ⟨wd, x0, rfl, hlp, q⟩ := h
    obtain ⟨⟨a, dx, l, st, t, rfl, ha, hL, ⟨s, ss, rfl, hs, hS⟩, ht⟩, o⟩ := id hlp
    have hsl := hS.length
    refine ⟨_, (pss_cons (ps_set (i := 1) sc_numbered_refs.nd rfl (.inl rfl) (pe_lst pa_nil))
      (pss_cons (ps_for PassesOwn.never rfl (pi_enumTK (K := K) (by rfl) T.enumerate_ (pa_cons (pprop T.Loop_statements T.cLoop.cl (pv 0) (ok_Loop_statements T) (hr.mono (by decide))) pa_nil)) (pg_tupK (K := K) 2 rfl (pgs_cons (pg_name (i := 2) sc_numbered_refs.nd rfl (.inr rfl)) (pgs_cons (pg_name (i := 3) sc_numbered_refs.nd rfl (.inl rfl)) pgs_nil)))
      (pss_cutW (ps_if (pt_cmpR op_notN (pprop T.Statement_target T.cStatement.cl (pv 3) (ok_Statement_target T) (hr.mono (by decide))) pe_non (nomark _)) (pss_one (ps_expr (pe_bmK (K := K) PySem.F.plainAttrs_list PySem.F.slot_list_append PySem.F.type_list_append mt_append (pv 1) (pa_cons (pe_tup (pa_cons (pv 2) (pa_cons (pe_un un_neg pe_int) (pa_cons (pprop T.Statement_target T.cStatement.cl (pv 3) (ok_Statement_target T) (hr.mono (by decide))) pa_nil)))) pa_nil)))) pss_nil)
      (pss_one (ps_expr (pe_bmK (K := K) PySem.F.plainAttrs_list PySem.F.slot_list_extend PySem.F.type_list_extend mt_extend (pv 1) (pa_cons (pe_lc (own := [("at", 4), ("source", 5)]) rfl sc_numbered_refs.nd (pi_enumTK (K := K) (by rfl) T.enumerate_ (pa_cons (pprop T.Statement_sources T.cStatement.cl (pv 3) (ok_Statement_sources T) (hr.mono (by decide))) pa_nil)) (blkOk_by (own := [("at", 4), ("source", 5)]) (N := N_numbered_refs) (sc := defScope s_numbered_refs) (by decide +kernel)) (fun _ _ _ _ _ => (pg_tupK (K := K) 2 rfl (pgs_cons (pg_name (i := 4) sc_numbered_refs.nd rfl (.inl rfl)) (pgs_cons (pg_name (i := 5) sc_numbered_refs.nd rfl (.inl rfl)) pgs_nil)))) (fun _ _ _ _ _ => pts_nil) (fun _ _ _ _ _ => (pe_tup (pa_cons (pv 2) (pa_cons (pv 4) (pa_cons (pv 5) pa_nil)))))) pa_nil))))))
      (pss_one (ps_ret (pv 1))))), ?_⟩
    refine ⟨(by show 0 ≤ sizeLine; decide), fun D nD => ?_⟩
    have s0 : Same H (upd H D (.lst [])) := same_new nD
    refine ⟨_, rfl, a, dx, _, rfl, s0 _ _ ha, a, dx, _, _, rfl, s0 _ _ ha, loopF_statements _ _ _, s, ss, rfl, .inl (.inl (s0 _ _ hs)), for_it walk_enumT (fun n σ' H' => ∃ y z, σ' = [some (.ref a), some (.ref D), y, z, none, none] ∧ Mk2 rNum H D ((List.range n).flatMap fun j => numRefsOf j (deedAt wd j)) H')
      ⟨none, none, rfl, Mk2.new nD⟩ (fun n σ' H' _ ⟨_, _, _, m⟩ => .inl (.inl (m.1 _ _ hs))) ?_ ?_⟩
    · rintro n y σ' H1 H2 hi ⟨y0, z0, rfl, m⟩ hy
      obtain ⟨Tp, x1, x2, rfl, nT, rfl, f1, f2⟩ := hy
      cases f1
      have hn : n < wd.deeds.length := by omega
      obtain ⟨v, hv, b, dy, g, sv, rfl, hb, hg, ls, lv, rfl, hls, hll⟩ := hS.get (deed_get hn)
      have f3 : ss[n]? = some x2 := f2
      rw [hv] at f3
      cases f3
      have hlen := numTo_le o (Nat.le_of_lt hn)
      have hll2 := hll.length
      have hdl := o.dl _ (deed_mem hn)
      have m1 := m.grow nD (same_new (o := .tup [.int (n : Nat), .ref b]) nT)
      refine ⟨Tp, _, rfl, .inl (.inl upd_same), rfl, _, _, rfl, _, _, rfl, rfl, ?_⟩
      refine ⟨fun σ' H' => σ' = [some (.ref a), some (.ref D), some (.int (n : Nat)), some (.ref b), none, none] ∧ Mk2 rNum H D (((List.range n).flatMap fun j => numRefsOf j (deedAt wd j)) ++ ((deedAt wd n).goal.toList.map fun r => ((n : Int), (-1 : Int), r))) H', ?_, ?_⟩
      · have hb1 := m1.1 _ _ hb
        refine ⟨_, rfl, b, dy, _, rfl, hb1, b, dy, _, _, rfl, hb1, stmtF_target _ _ _, rfl, _, rfl, ?_⟩
        cases e : (deedAt wd n).goal with
        | none =>
          rw [e] at hg
          cases (show g = V.non from hg)
          refine iteF ⟨rfl, ?_⟩
          show Mk2 rNum H D (_ ++ []) _
          rw [List.append_nil]
          exact m1
        | some r =>
          rw [e] at hg
          obtain ⟨c, rfl, hc⟩ := show rRef r g H from hg
          obtain ⟨acc0, e0, _⟩ := m1.2
          refine iteT ⟨_, rfl, .inl ⟨rfl, _, .inl (.inl e0)⟩, _, rfl, 1, rfl, _, rfl, b, dy, _, rfl, hb1, b, dy, _, _, rfl, hb1, stmtF_target _ _ _, (by show 3 ≤ sizeLine; decide), fun p np => ?_⟩
          have hr2 : rNum ((n : Int), (-1 : Int), r) (.ref p) (upd (upd H1 Tp (.tup [.int (n : Nat), .ref b])) p (.tup [.int (n : Nat), .int (-1), .ref c])) := rNum_mk upd_same ⟨c, rfl, (same_new np) _ _ (m1.1 _ _ hc)⟩
          obtain ⟨acc, e1, h1, m2⟩ := (m1.grow nD (same_new np)).one nD hr2 (by omega)
          exact ⟨D, acc, _, rfl, rfl, e1, h1, rfl, m2⟩
      · rintro σ' H3 ⟨rfl, m3⟩
        have hb3 := m3.1 _ _ hb
        obtain ⟨acc0, e0, _⟩ := m3.2
        have hgl : (((deedAt wd n).goal.toList.map fun r => ((n : Int), (-1 : Int), r))).length ≤ 1 := by
          rw [List.length_map]
          cases (deedAt wd n).goal <;> simp
        refine ⟨_, rfl, .inl ⟨rfl, _, .inl (.inl e0)⟩, _, rfl, b, dy, _, rfl, hb3, b, dy, _, _, rfl, hb3, stmtF_sources _ _ _, ls, lv, rfl, .inl (.inl (m3.1 _ _ hls)), fun D2 nD2 => ?_⟩
        refine lc_map (S := rNum) (fun k => ((n : Int), ((k : Nat) : Int), (deedAt wd n).loads.getD k (Str.empty, 0))) walk_enumT nD2 (by omega) (fun H' s' => .inl (.inl (s' _ _ (m3.1 _ _ hls)))) (fun k y H4 H5 N hk s4 hy kk => ?_) fun H4 m4 => ?_
        · obtain ⟨Tp, x1, x2, rfl, nT, rfl, f1, f2⟩ := hy
          cases f1
          have f3 : lv[k]? = some x2 := f2
          obtain ⟨r, hr1, hr2⟩ := hll.getR f3
          refine ⟨Tp, _, rfl, .inl (.inl upd_same), rfl, _, _, rfl, _, _, rfl, rfl, rfl, ?_⟩
          refine ⟨_, rfl, _, rfl, _, rfl, (by show 3 ≤ sizeLine; decide), fun p np => kk _ _ (Same.new (same_new nT) np) ?_⟩
          rw [List.getD_eq_getElem?_getD, hr1]
          exact rNum_mk upd_same (Mono.mono (((m3.1.trans s4).trans (same_new nT)).trans (same_new np)) hr2)
        · obtain ⟨b3, acc, zs, h1, eD, e3, hle, m2⟩ := (m3.grow nD m4.1).ext nD m4.done (by simp only [List.length_append, List.length_map, List.length_range] at hgl ⊢; omega)
          cases h1
          refine ⟨D, D2, acc, zs, rfl, rfl, eD, e3, hle, _, _, rfl, ?_⟩
          rw [range_flat]
          unfold numRefsOf
          rw [← List.append_assoc, hll2]
          exact m2
    · rintro σ' H1 ⟨y0, z0, rfl, m⟩
      rw [← hsl] at m
      exact ⟨_, rfl, q _ _ m.1 m.done⟩
end
end VW

set_option maxHeartbeats 4000000
namespace VW
open PySem PySem.Spec PyProof.Rows L2
theorem cut_drop (xs : List V) (i : Nat) : cutV xs (some (i : Int)) none = xs.drop i := by
  unfold cutV
  rw [show HT.sIx xs.length 0 (some (i : Int)) = min i xs.length from HT.sIx_nat xs.length _ i, HT.sIx_none]
  rcases Nat.le_total i xs.length with h | h
  · rw [Nat.min_eq_left h]
    exact List.take_of_length_le (by rw [List.length_drop]; omega)
  · rw [Nat.min_eq_right h, List.drop_length, List.drop_of_length_le h]
    simp
theorem cut_02 (a b c : V) : cutV [a, b, c] none (some 2) = [a, b] := rfl
theorem inV_int2 (z a b : Int) : inV (.int z) [.int a, .int b] = decide (a = z ∨ b = z) := by
  have e : ∀ x : Int, (x == z) = decide (x = z) := fun x => by
    by_cases h : x = z
    · subst h
      simp
    · simp [h]
  show ((a == z) || ((b == z) || false)) = _
  rw [e, e, Bool.or_false]
  simp
theorem numRefs_ok {wd : Wd} (o : WOk wd) : ∀ p ∈ numRefs wd, p.2.2.1 ∈ wd.rows.map (·.1) ∧ -1 ≤ p.2.2.2 ∧ p.2.2.2 ≤ 1 := fun p hp => by
  obtain ⟨j, hj, hp⟩ := List.mem_flatMap.mp hp
  have hj2 := List.mem_range.mp hj
  have hm := deed_mem hj2
  rcases List.mem_append.mp hp with hp | hp
  · obtain ⟨r, hr, rfl⟩ := List.mem_map.mp hp
    have e : (deedAt wd j).goal = some r := by
      cases e : (deedAt wd j).goal with
      | none => rw [e] at hr; simp at hr
      | some x => rw [e] at hr; simp at hr; rw [hr]
    exact o.dr _ hm r (refsOf_goal e)
  · obtain ⟨k, hk, rfl⟩ := List.mem_map.mp hp
    have hk2 := List.mem_range.mp hk
    refine o.dr _ hm _ (refsOf_load ?_)
    rw [List.getD_eq_getElem?_getD, List.getElem?_eq_getElem hk2]
    exact List.getElem_mem hk2
theorem filterMap_le {α β : Type} (f : α → Option β) (l : List α) : (l.filterMap f).length ≤ l.length := List.length_filterMap_le f l
theorem meetRow_le {wd : Wd} (o : WOk wd) (a : Nat) : (meetRow wd a).length ≤ 9 := by
  have h1 := filterMap_le (fun other => meetOf wd ((numRefs wd).getD a (0, 0, (Str.empty, 0))) other) ((numRefs wd).drop (a + 1))
  have h2 := numRefs_le o
  rw [List.length_drop] at h1
  unfold meetRow
  omega
theorem meetTo_le {wd : Wd} (o : WOk wd) {n : Nat} (h : n ≤ (numRefs wd).length) : ((List.range n).flatMap fun a => meetRow wd a).length ≤ 81 := by
  have h1 := flatMap_le (f := fun a => meetRow wd a) (B := 9) (l := List.range n) fun a _ => meetRow_le o a
  rw [List.length_range] at h1
  have := numRefs_le o
  omega
theorem take_fm {α β : Type} (f : α → Option β) {l : List α} {i : Nat} {x : α} (h : l[i]? = some x) : (l.take (i + 1)).filterMap f = (l.take i).filterMap f ++ (f x).toList := by
  rw [List.take_add_one, h, List.filterMap_append]
  cases e : f x <;> simp [e]
section
variable {P : Program} {w : World} {K : PySem.W.Frag} {mg : Str → Option Value} {base : Heap}
/-- the list under making, the refs beside it -/
def MtAt (H0 : Hp) (D ra : Addr) (nr : List (Int × Int × (Str × Int))) (vs : List V) (bs : List (List Int)) (H : Hp) : Prop := Mk2 rIs H0 D bs H ∧ H ra = some (.lst vs) ∧ All2 rNum H nr vs
theorem MtAt.grow {H0 H H' : Hp} {D ra : Addr} {nr : List (Int × Int × (Str × Int))} {vs : List V} {bs : List (List Int)} (h0 : H0 D = none) (m : MtAt H0 D ra nr vs bs H) (s : Same H H') : MtAt H0 D ra nr vs bs H' := ⟨m.1.grow h0 s, s _ _ m.2.1, m.2.2.mono s⟩
theorem MtAt.one {H0 H : Hp} {D ra : Addr} {nr : List (Int × Int × (Str × Int))} {vs : List V} {bs : List (List Int)} {c : List Int} {v : V} (h0 : H0 D = none) (hne : ra ≠ D) (m : MtAt H0 D ra nr vs bs H) (z : rIs c v H) (hl : bs.length ≤ 1000000) :
    ∃ acc, H D = some (.lst acc) ∧ acc.length < sizeLine ∧ MtAt H0 D ra nr vs (bs ++ [c]) (upd H D (.lst (acc ++ [v]))) := by
  obtain ⟨acc, e, h, m2⟩ := m.1.one h0 z hl
  exact ⟨acc, e, h, m2, by rw [upd_ne hne]; exact m.2.1, m.2.2.keep (Keep.put e)⟩
def rMeets : Rp Wd := fun wd v H => ∃ mss, mss.Perm (meetsM wd) ∧ rL rIs mss v H
theorem loopF_line (l s t : V) : (loopF l s t).lookup ("line" : Str) = none := lk_next (by decide +kernel) (lk_next (by decide +kernel) (lk_next (by decide +kernel) rfl))
theorem lineF_distance (r : Str × Int) : (lineF r).lookup ("distance" : Str) = none := lk_next (by decide +kernel) (lk_next (by decide +kernel) rfl)
theorem ok_meets (T : Txt K mg) : FnOk P w K mg base CX0 5 T.meets.f T.meets.fd ["loop"] (sp1 (LpOk T) (fun wd => rMeets wd)) := by
  refine dok T.meets.F sc_meets (fun vs H Q E h => ?_) (fun cdv A outer s H vs Q E hr h => ?_)
  · exact sp1_len h
  · obtain ⟨wd, x0, rfl, hlp, q⟩ := h
    obtain ⟨⟨la, ldx, ll, lst, lt, rfl, hla, _⟩, o⟩ := id hlp
    refine ⟨_, (pss_cons (ps_set (i := 1) sc_meets.nd rfl (.inl rfl) (pe_lst pa_nil))
      (pss_cons (ps_set (i := 2) sc_meets.nd rfl (.inl rfl) (pcall T.numbered_refs (ok_numbered_refs T) (hr.mono (by decide)) (pa_cons (pv 0) pa_nil)))
      (pss_cons (ps_for PassesOwn.never rfl (pi_enumK (K := K) (by rfl) T.enumerate_ (pa_cons (pv 2) pa_nil)) (pg_tupK (K := K) 2 rfl (pgs_cons (pg_name (i := 3) sc_meets.nd rfl (.inl rfl)) (pgs_cons (pg_name (i := 4) sc_meets.nd rfl (.inl rfl)) pgs_nil)))
      (pss_one (ps_for PassesOwn.never rfl (pi_listK (K := K) (pe_slice (sl_listK (K := K)) (pv 2) (po_some (pe_op op_add (pv 3) pe_int)) po_none)) (pg_name (i := 5) sc_meets.nd rfl (.inl rfl))
      (pss_one (ps_if (PW.pt (pw_and (pt_cmpR op_eq (pe_ix (ix_tupK (K := K)) (pe_ix (ix_tupK (K := K)) (pv 4) pe_int (fun _ _ => rfl)) pe_int (fun _ _ => rfl)) (pe_ix (ix_tupK (K := K)) (pe_ix (ix_tupK (K := K)) (pv 5) pe_int (fun _ _ => rfl)) pe_int (fun _ _ => rfl)) (nomark _)) (pw_and1 (pt_cmpR (op_inK (K := K)) (pe_un un_neg pe_int) (pe_tup (pa_cons (pe_ix (ix_tupK (K := K)) (pv 4) pe_int (fun _ _ => rfl)) (pa_cons (pe_ix (ix_tupK (K := K)) (pv 5) pe_int (fun _ _ => rfl)) pa_nil))) (by with_unfolding_all rfl))))) (pss_cons (ps_set (i := 6) sc_meets.nd rfl (.inl rfl) (pmeth T.Line_distance T.cLine.cl (pmeth T.Loop_line T.cLoop.cl (pv 0) (ok_Loop_line T) (hr.mono (by decide)) (pa_cons (pe_ix (ix_tupK (K := K)) (pe_ix (ix_tupK (K := K)) (pv 4) pe_int (fun _ _ => rfl)) pe_int (fun _ _ => rfl)) pa_nil)) (ok_Line_distance T) (hr.mono (by decide)) (pa_cons (pe_ix (ix_tupK (K := K)) (pe_ix (ix_tupK (K := K)) (pv 4) pe_int (fun _ _ => rfl)) pe_int (fun _ _ => rfl)) (pa_cons (pe_ix (ix_tupK (K := K)) (pe_ix (ix_tupK (K := K)) (pv 5) pe_int (fun _ _ => rfl)) pe_int (fun _ _ => rfl)) pa_nil))))
      (pss_one (ps_if (pt_cmpR op_notN (pv 6) pe_non (nomark _)) (pss_one (ps_expr (pe_bmK (K := K) PySem.F.plainAttrs_list PySem.F.slot_list_append PySem.F.type_list_append mt_append (pv 1) (pa_cons (pe_op (op_catTK (K := K)) (pe_op (op_catTK (K := K)) (pe_slice (sl_tupK (K := K)) (pv 4) po_none (po_some pe_int)) (pe_slice (sl_tupK (K := K)) (pv 5) po_none (po_some pe_int))) (pe_tup (pa_cons (pv 6) pa_nil))) pa_nil)))) pss_nil))) pss_nil)))))
      (pss_one (ps_ret (pe_callB (call_sortK (K := K) hr.units) (by rfl) T.sorted_ (by decide +kernel) (pa_cons (pv 1) pa_nil))))))), ?_⟩
    refine ⟨(by show 0 ≤ sizeLine; decide), fun D nD => ?_⟩
    have s0 : Same H (upd H D (.lst [])) := same_new nD
    refine ⟨_, rfl, wd, _, rfl, Mono.mono s0 hlp, fun u H1 s1 hu => ?_⟩
    obtain ⟨ra, vs, rfl, hra, hvs⟩ := hu
    have hvl := hvs.length
    have hnl := numRefs_le o
    have m0 : Mk2 rIs H D [] H1 := (Mk2.new nD).grow nD s1
    -- the refs stand in a list made behind D
    have hrD : 0 < vs.length → ra ≠ D := fun hpos z => by
      have e := s1 _ _ (upd_same (H := H) (a := D) (o := .lst []))
      rw [z, e] at hra
      injection hra with hra
      injection hra with hra
      rw [← hra] at hpos
      exact absurd hpos (by decide)
    have mt0 : MtAt H D ra (numRefs wd) vs [] H1 := ⟨m0, hra, hvs⟩
    refine ⟨_, rfl, ra, vs, rfl, .inl (.inl hra), for_it walk_enum (fun n σ' H' => ∃ y3 y4 y5 y6, σ' = [some (.ref la), some (.ref D), some (.ref ra), y3, y4, y5, y6] ∧ MtAt H D ra (numRefs wd) vs ((List.range n).flatMap fun a => meetRow wd a) H')
      ⟨none, none, none, none, rfl, mt0⟩ (fun n σ' H' _ ⟨_, _, _, _, _, m⟩ => .inl (.inl m.2.1)) ?_ ?_⟩
    · rintro n y σ' H2 H3 hi ⟨y3, y4, y5, y6, rfl, m⟩ hy
      obtain ⟨Tp, x1, x2, rfl, nT, rfl, f1, f2⟩ := hy
      cases f1
      have f3 : vs[n]? = some x2 := f2
      obtain ⟨one, ho, ov, ⟨ot, rfl, hot⟩, ⟨otr, rfl, hotr⟩⟩ := m.2.2.getR f3
      have sT : Same H2 (upd H2 Tp (.tup [.int (n : Nat), .ref ot])) := same_new nT
      have m1 := m.grow nD sT
      refine ⟨Tp, _, rfl, .inl (.inl upd_same), rfl, _, _, rfl, _, _, rfl, rfl, ?_⟩
      refine ⟨_, rfl, _, rfl, n, 1, rfl, rfl, _, rfl, ra, vs, rfl, .inl (.inl m1.2.1), fun p np => ?_⟩
      have ec : cutV vs (some ((n : Int) + 1)) none = vs.drop (n + 1) := cut_drop vs (n + 1)
      rw [ec]
      have sp := same_new (o := .lst (vs.drop (n + 1))) np
      have m2 := m1.grow nD sp
      obtain ⟨acc0, e0, _⟩ := m1.1.2
      have hpD : p ≠ D := fun z => by rw [z, e0] at np; cases np
      have one_at : (numRefs wd).getD n (0, 0, (Str.empty, 0)) = one := by rw [List.getD_eq_getElem?_getD, ho]; rfl
      refine ⟨p, rfl, ⟨_, .inl (.inl upd_same)⟩, for_it (walk_list (K := K) (a := p) (xs := vs.drop (n + 1))) (fun k σ' H' => ∃ y5 y6, σ' = [some (.ref la), some (.ref D), some (.ref ra), some (.int (n : Nat)), some (.ref ot), y5, y6] ∧
          MtAt H D ra (numRefs wd) vs (((List.range n).flatMap fun a => meetRow wd a) ++ (((numRefs wd).drop (n + 1)).take k).filterMap (meetOf wd one)) H' ∧ H' p = some (.lst (vs.drop (n + 1))) ∧ H' ot = some (.tup [.int one.1, .int one.2.1, .ref otr]) ∧ H' otr = some (.tup [.str one.2.2.1, .int one.2.2.2]))
        ⟨_, _, rfl, by simpa using m2, upd_same, sp _ _ (sT _ _ hot), sp _ _ (sT _ _ hotr)⟩ (fun k σ' H' _ ⟨_, _, _, _, e, _⟩ => .inl (.inl e)) ?_ ?_⟩
      · rintro k y σ' H4 H5 hk ⟨z5, z6, rfl, m4, e4, hot4, hotr4⟩ ⟨rfl, hy⟩
        have hnr := m4.2.2.drop (n + 1)
        obtain ⟨other, hother, uv, ⟨ut, rfl, hut⟩, ⟨utr, rfl, hutr⟩⟩ := hnr.getR hy
        rw [take_fm _ hother]
        refine ⟨_, rfl, ot, _, 2, .ref otr, rfl, rfl, .inl (.inl hot4), atI_nat (j := 2) rfl, otr, _, 0, .str one.2.2.1, rfl, rfl, .inl (.inl hotr4), atI_nat (j := 0) rfl, ?_⟩
        refine ⟨_, rfl, ut, _, 2, .ref utr, rfl, rfl, .inl (.inl hut), atI_nat (j := 2) rfl, utr, _, 0, .str other.2.2.1, rfl, rfl, .inl (.inl hutr), atI_nat (j := 0) rfl, rfl, _, rfl, ?_⟩
        by_cases c1 : one.2.2.1 = other.2.2.1
        · refine iteY (congrArg V.str c1) ?_
          refine ⟨1, rfl, _, rfl, ot, _, 1, .int one.2.1, rfl, rfl, .inl (.inl hot4), atI_nat (j := 1) rfl, _, rfl, ut, _, 1, .int other.2.1, rfl, rfl, .inl (.inl hut), atI_nat (j := 1) rfl, (by show 2 ≤ sizeLine; decide), fun t nt => ?_⟩
          have st := same_new (o := .tup [.int one.2.1, .int other.2.1]) nt
          have m5 := m4.grow nD st
          refine ⟨t, _, rfl, .inr (.inl (.inl upd_same)), rfl, rfl, _, congrArg V.bl (inV_int2 _ _ _), ?_⟩
          have hop := numRefs_ok o one (List.mem_of_getElem? ho)
          have hup := numRefs_ok o other (List.mem_of_mem_drop (List.mem_of_getElem? hother))
          have hsb := stride_bd o hop.1
          have em : ¬ (one.2.1 = -1 ∨ other.2.1 = -1) → meetOf wd one other = none := fun z => if_neg fun y => z y.2
          by_cases c2 : one.2.1 = -1 ∨ other.2.1 = -1
          · refine iteY c2 ?_
            have hw5 : LpOk T wd (.ref la) _ := Mono.mono m5.1.1 hlp
            have hot5 := st _ _ hot4
            have hotr5 := st _ _ hotr4
            have hut5 := st _ _ hut
            have hutr5 := st _ _ hutr
            refine ⟨_, rfl, la, ldx, _, rfl, m5.1.1 _ _ hla, loopF_line _ _ _, _, rfl, ot, _, 2, .ref otr, rfl, rfl, .inl (.inl hot5), atI_nat (j := 2) rfl, otr, _, 0, .str one.2.2.1, rfl, rfl, .inl (.inl hotr5), atI_nat (j := 0) rfl,
              wd, one.2.2.1, _, _, rfl, hw5, ⟨rfl, hop.1⟩, fun u H6 s6 hu => ?_⟩
            obtain ⟨lb, ldy, rfl, hlb⟩ := hu
            have m6 := m5.grow nD s6
            have hot6 := s6 _ _ hot5
            have hotr6 := s6 _ _ hotr5
            have hut6 := s6 _ _ hut5
            have hutr6 := s6 _ _ hutr5
            refine ⟨lb, ldy, _, rfl, hlb, lineF_distance _, _, rfl, ot, _, 2, .ref otr, rfl, rfl, .inl (.inl hot6), atI_nat (j := 2) rfl, otr, _, 1, .int one.2.2.2, rfl, rfl, .inl (.inl hotr6), atI_nat (j := 1) rfl,
              _, rfl, ut, _, 2, .ref utr, rfl, rfl, .inl (.inl hut6), atI_nat (j := 2) rfl, utr, _, 1, .int other.2.2.2, rfl, rfl, .inl (.inl hutr6), atI_nat (j := 1) rfl,
              (one.2.2.1, strideOf wd one.2.2.1), one.2.2.2, other.2.2.2, _, _, _, rfl, ⟨⟨lb, ldy, rfl, hlb⟩, hsb.1, by show strideOf wd one.2.2.1 ≤ 6; omega⟩, ⟨rfl, by omega, by omega⟩, ⟨rfl, by omega, by omega⟩, fun u H7 s7 hu7 => ?_⟩
            have m7 := m6.grow nD s7
            have hot7 := s7 _ _ hot6
            have hotr7 := s7 _ _ hotr6
            have hut7 := s7 _ _ hut6
            have e7 := s7 _ _ (s6 _ _ (st _ _ e4))
            have em2 : meetOf wd one other = (dist (strideOf wd one.2.2.1) one.2.2.2 other.2.2.2).map fun d => [one.1, one.2.1, other.1, other.2.1, d] := if_pos ⟨c1, c2⟩
            have hu8 : rOpt rInt (dist (strideOf wd one.2.2.1) one.2.2.2 other.2.2.2) u H7 := hu7
            refine ⟨_, rfl, rfl, _, rfl, ?_⟩
            cases ed : dist (strideOf wd one.2.2.1) one.2.2.2 other.2.2.2 with
            | none =>
              rw [ed] at hu8 em2
              cases (show u = V.non from hu8)
              refine iteF ⟨_, _, rfl, ?_, e7, hot7, hotr7⟩
              rw [em2]
              show MtAt H D ra (numRefs wd) vs (_ ++ (_ ++ [])) _
              rw [List.append_nil]
              exact m7
            | some d =>
              rw [ed] at hu8 em2
              cases (show u = V.int d from hu8)
              obtain ⟨acc7, e07, _⟩ := m7.1.2
              refine iteT ⟨_, rfl, .inl ⟨rfl, _, .inl (.inl e07)⟩, _, rfl, 2, rfl, ot, _, rfl, .inl (.inl hot7), fun z => absurd z.2 (show ¬ HT.sIx 3 3 (some 2) = 3 by decide), fun _ p1 np1 => ?_⟩
              rw [cut_02]
              have t1 := same_new (o := .tup [.int one.1, .int one.2.1]) np1
              refine ⟨_, rfl, 2, rfl, ut, _, rfl, .inl (.inl (t1 _ _ hut7)), fun z => absurd z.2 (show ¬ HT.sIx 3 3 (some 2) = 3 by decide), fun _ p2 np2 => ?_⟩
              rw [cut_02]
              have t2 := Same.new (o := .tup [.int other.1, .int other.2.1]) t1 np2
              refine ⟨p1, p2, _, _, rfl, rfl, .inl (.inl ((same_new np2) _ _ upd_same)), .inl (.inl upd_same), (by show 4 ≤ sizeLine; decide), (fun z => nomatch z), (fun _ z => nomatch z), fun _ _ p3 np3 => ?_⟩
              have t3 := Same.new (o := .tup [.int one.1, .int one.2.1, .int other.1, .int other.2.1]) t2 np3
              refine ⟨_, rfl, (by show 1 ≤ sizeLine; decide), fun p4 np4 => ?_⟩
              have t4 := Same.new (o := .tup [.int d]) t3 np4
              refine ⟨p3, p4, _, _, rfl, rfl, .inl (.inl ((same_new np4) _ _ upd_same)), .inl (.inl upd_same), (by show 5 ≤ sizeLine; decide), (fun z => nomatch z), (fun _ z => nomatch z), fun _ _ p5 np5 => ?_⟩
              have t5 := Same.new (o := .tup [.int one.1, .int one.2.1, .int other.1, .int other.2.1, .int d]) t4 np5
              have hlen : (((List.range n).flatMap fun a => meetRow wd a) ++ (((numRefs wd).drop (n + 1)).take k).filterMap (meetOf wd one)).length ≤ 1000000 := by
                have h1 := meetTo_le o (n := n) (by omega)
                have h2 := filterMap_le (meetOf wd one) (((numRefs wd).drop (n + 1)).take k)
                rw [List.length_take, List.length_drop] at h2
                rw [List.length_append]
                omega
              obtain ⟨acc, e8, h8, m8⟩ := (m7.grow nD t5).one nD (hrD (by omega)) (c := [one.1, one.2.1, other.1, other.2.1, d]) (v := .ref p5) ⟨p5, rfl, upd_same⟩ hlen
              have hDot : ∀ (b : Addr) (xs : List V), (upd _ p5 (.tup [.int one.1, .int one.2.1, .int other.1, .int other.2.1, .int d])) b = some (.tup xs) → b ≠ D := fun b xs hb => ne_of hb e8 (fun z => nomatch z)
              refine ⟨D, acc, _, rfl, rfl, e8, h8, _, _, rfl, ?_, ?_, ?_, ?_⟩
              · rw [em2]
                show MtAt H D ra (numRefs wd) vs (_ ++ (_ ++ [_])) _
                rw [← List.append_assoc]
                exact m8
              · rw [upd_ne hpD]
                exact t5 _ _ e7
              · rw [upd_ne (hDot _ _ (t5 _ _ hot7))]
                exact t5 _ _ hot7
              · rw [upd_ne (hDot _ _ (t5 _ _ hotr7))]
                exact t5 _ _ hotr7
          · refine iteN c2 ⟨_, _, rfl, ?_, st _ _ e4, st _ _ hot4, st _ _ hotr4⟩
            rw [em c2]
            show MtAt H D ra (numRefs wd) vs (_ ++ (_ ++ [])) _
            rw [List.append_nil]
            exact m5
        · refine iteN (fun z => c1 (V.str.inj z)) (iteF ⟨_, _, rfl, ?_, e4, hot4, hotr4⟩)
          have em : meetOf wd one other = none := if_neg fun y => c1 y.1
          rw [em]
          show MtAt H D ra (numRefs wd) vs (_ ++ (_ ++ [])) _
          rw [List.append_nil]
          exact m4
      · rintro σ' H4 ⟨z5, z6, rfl, m4, e4, hot4, hotr4⟩
        refine ⟨_, _, _, _, rfl, ?_⟩
        have e9 : (((numRefs wd).drop (n + 1)).take (vs.drop (n + 1)).length).filterMap (meetOf wd one) = meetRow wd n := by
          unfold meetRow
          rw [one_at, List.take_of_length_le]
          rw [List.length_drop, List.length_drop]
          omega
        rw [range_flat, ← e9]
        exact m4
    · rintro σ' H2 ⟨y3, y4, y5, y6, rfl, m⟩
      rw [← hvl] at m
      obtain ⟨⟨sm, acc, eD, aD⟩, _⟩ := m
      refine ⟨_, rfl, D, acc, meetsM wd, rfl, .inl (.inl eD), aD, fun ns hns => ?_, fun p ys mss hp hm np => q _ _ (Same.new sm np) ⟨mss, hp, p, ys, rfl, upd_same, hm.mono (same_new np)⟩⟩
      obtain ⟨a, ha, hns⟩ := List.mem_flatMap.mp hns
      obtain ⟨other, _, hns⟩ := List.mem_filterMap.mp hns
      unfold meetOf at hns
      split at hns
      · obtain ⟨d, _, rfl⟩ := Option.map_eq_some_iff.mp hns
        exact fun z => nomatch z
      · cases hns
end
end VW

set_option maxHeartbeats 4000000
namespace VW
open PySem PySem.Spec PyProof.Rows L2
theorem foldMax_le : ∀ (l : List Int) (a : Int), a ≤ l.foldl maxI a ∧ ∀ y ∈ l, y ≤ l.foldl maxI a
  | [], a => ⟨Int.le_refl _, fun y h => by simp at h⟩
  | x :: l, a => by
    obtain ⟨h1, h2⟩ := foldMax_le l (maxI a x)
    have h3 : a ≤ maxI a x ∧ x ≤ maxI a x := by
      unfold maxI
      split <;> omega
    rw [List.foldl_cons]
    refine ⟨by omega, fun y hy => ?_⟩
    rcases List.mem_cons.mp hy with e | hy
    · rw [e]
      omega
    · exact h2 y hy
theorem foldMax_mem : ∀ (l : List Int) (a : Int), l.foldl maxI a = a ∨ l.foldl maxI a ∈ l
  | [], a => .inl rfl
  | x :: l, a => by
    rw [List.foldl_cons]
    rcases foldMax_mem l (maxI a x) with h | h
    · by_cases c : x > a
      · have e : maxI a x = x := if_pos c
        rw [h, e]
        exact .inr List.mem_cons_self
      · have e : maxI a x = a := if_neg c
        rw [h, e]
        exact .inl rfl
    · exact .inr (List.mem_cons_of_mem _ h)
/-- the greatest of a list and 0, by what it has -/
theorem foldMax_eq {l : List Int} {m : Int} (hm : m = 0 ∨ m ∈ l) (h0 : 0 ≤ m) (h : ∀ y ∈ l, y ≤ m) : l.foldl maxI 0 = m := by
  obtain ⟨h1, h2⟩ := foldMax_le l 0
  have h3 : m ≤ l.foldl maxI 0 := by
    rcases hm with e | e
    · rw [e]
      exact h1
    · exact h2 m e
  rcases foldMax_mem l 0 with e | e
  · omega
  · have := h _ e
    omega
theorem fdiv_bd {a s : Int} (hs : 1 ≤ s) (h1 : -2 ≤ a) (h2 : a ≤ 2) (hs2 : s ≤ 2) : -2 ≤ a.fdiv s ∧ a.fdiv s ≤ 2 := by
  have hs3 : s = 1 ∨ s = 2 := by omega
  have ha : a = -2 ∨ a = -1 ∨ a = 0 ∨ a = 1 ∨ a = 2 := by omega
  rcases hs3 with rfl | rfl <;> rcases ha with rfl | rfl | rfl | rfl | rfl <;> decide
theorem meets_form {wd : Wd} (o : WOk wd) : ∀ ns ∈ meetsM wd, ∃ a b c d e : Int, ns = [a, b, c, d, e] ∧ -2 ≤ e ∧ e ≤ 2 := fun ns hns => by
  obtain ⟨a, ha, hns⟩ := List.mem_flatMap.mp hns
  obtain ⟨other, hom, hns⟩ := List.mem_filterMap.mp hns
  have ha2 := List.mem_range.mp ha
  have h1 := numRefs_ok o ((numRefs wd).getD a (0, 0, (Str.empty, 0))) (by rw [List.getD_eq_getElem?_getD, List.getElem?_eq_getElem ha2]; exact List.getElem_mem ha2)
  have h2 := numRefs_ok o other (List.mem_of_mem_drop hom)
  have h3 := stride_bd o h1.1
  unfold meetOf at hns
  split at hns
  · obtain ⟨d, hd, rfl⟩ := Option.map_eq_some_iff.mp hns
    refine ⟨_, _, _, _, _, rfl, ?_⟩
    unfold dist at hd
    split at hd
    · cases hd
      exact fdiv_bd h3.1 (by omega) (by omega) h3.2
    · cases hd
  · cases hns
theorem reach_bd {wd : Wd} (o : WOk wd) : 0 ≤ reachM wd ∧ reachM wd ≤ 2 := by
  unfold reachM
  obtain ⟨h1, h2⟩ := foldMax_le ((meetsM wd).map fun r => absI (distOf r)) 0
  refine ⟨h1, ?_⟩
  rcases foldMax_mem ((meetsM wd).map fun r => absI (distOf r)) 0 with e | e
  · rw [e]
    decide
  · obtain ⟨ns, hns, e2⟩ := List.mem_map.mp e
    rw [← e2]
    obtain ⟨a, b, c, d, x, rfl, h3, h4⟩ := meets_form o ns hns
    show absI x ≤ 2
    unfold absI
    split <;> omega
theorem meetsM_le {wd : Wd} (o : WOk wd) : (meetsM wd).length ≤ 81 := meetTo_le o (Nat.le_refl _)
section
variable {P : Program} {w : World} {K : PySem.W.Frag} {mg : Str → Option Value} {base : Heap}
theorem ok_reach (T : Txt K mg) : FnOk P w K mg base CX0 6 T.reach.f T.reach.fd ["loop"] (sp1 (LpOk T) (fun wd => rInt (reachM wd))) := by
  refine dok T.reach.F sc_reach (fun vs H Q E h => ?_) (fun cdv A outer s H vs Q E hr h => ?_)
  · exact sp1_len h
  · obtain ⟨wd, x0, rfl, hlp, q⟩ := h
    have o := hlp.2
    have hml := meetsM_le o
    refine ⟨_, (pss_one (ps_ret (pe_callB (cr_maxK (K := K) rfl) (by rfl) T.max_ (by decide +kernel) (pa_cons (pe_op op_cat (pe_lst (pa_cons pe_int pa_nil)) (pe_lc (own := [("row", 1)]) rfl sc_reach.nd (pi_listK (K := K) (pcall T.meets (ok_meets T) (hr.mono (by decide)) (pa_cons (pv 0) pa_nil))) (blkOk_by (own := [("row", 1)]) (N := N_reach) (sc := defScope s_reach) (by decide +kernel)) (fun _ _ _ _ _ => (pg_name (i := 1) sc_reach.nd rfl (.inl rfl))) (fun _ _ _ _ _ => pts_nil) (fun _ _ _ _ _ => (pe_callB call_abs (by rfl) T.abs_ (by decide +kernel) (pa_cons (pe_ix (ix_tupK (K := K)) (pv 1) pe_int (fun _ _ => rfl)) pa_nil))))) pa_nil)))), ?_⟩
    refine ⟨(by show 1 ≤ sizeLine; decide), fun z nz => ?_⟩
    have s0 := same_new (o := .lst [.int 0]) nz
    refine ⟨_, rfl, wd, _, rfl, Mono.mono s0 hlp, fun u H1 s1 hu => ?_⟩
    obtain ⟨mss, hp, a, vs, rfl, ha, hvs⟩ := hu
    have hl := hvs.length
    have hpl := hp.length_eq
    refine ⟨a, rfl, ⟨_, .inl (.inl ha)⟩, fun D nD => lc_map (S := rInt) (fun i => absI (distOf (mss.getD i []))) walk_list nD (by omega) (fun H' s' => .inl (.inl (s' _ _ ha))) (fun i y H2 H3 N hi s2 hy k => ?_) fun H2 m => ?_⟩
    · obtain ⟨rfl, hy⟩ := hy
      obtain ⟨ns, hns, b, rfl, hb⟩ := hvs.getR hy
      obtain ⟨n1, n2, n3, n4, n5, rfl, _⟩ := meets_form o ns (hp.mem_iff.mp (List.mem_of_getElem? hns))
      refine ⟨rfl, _, rfl, b, _, 4, .int n5, rfl, rfl, .inl (.inl (s2 _ _ hb)), atI_nat (j := 4) rfl, n5, rfl, k _ _ (Same.refl _) ?_⟩
      rw [List.getD_eq_getElem?_getD, hns]
      rfl
    · have e : (List.range vs.length).map (fun i => absI (distOf (mss.getD i []))) = mss.map fun r => absI (distOf r) := by
        rw [← hl]
        exact @range_map_get _ _ ⟨[]⟩ mss (fun r => absI (distOf r))
      rw [e] at m
      obtain ⟨s2, acc, eD, aD⟩ := m
      have e2 := all2_int.mp aD
      subst e2
      refine ⟨z, D, _, _, rfl, rfl, s2 _ _ (s1 _ _ upd_same), eD, by rw [sizeLine_eq]; simp; omega, fun p np => ?_⟩
      refine ⟨p, 0 :: mss.map fun r => absI (distOf r), rfl, .inl (.inl upd_same), by simp, fun y hy hmax => ?_⟩
      refine q _ _ (((s0.trans s1).trans s2).trans (same_new np)) ?_
      have e3 : reachM wd = y := by
        have hmem : ∀ x, x ∈ (mss.map fun r => absI (distOf r)) ↔ x ∈ (meetsM wd).map fun r => absI (distOf r) := fun x => (hp.map _).mem_iff
        refine foldMax_eq ?_ (hmax 0 List.mem_cons_self) fun x hx => hmax x (List.mem_cons_of_mem _ ((hmem x).mpr hx))
        rcases List.mem_cons.mp hy with h | h
        · exact .inl h
        · exact .inr ((hmem y).mp h)
      show V.int y = V.int (reachM wd)
      rw [e3]
theorem ok_greatest_count (T : Txt K mg) : FnOk P w K mg base CX0 7 T.greatest_count.f T.greatest_count.fd ["loop", "width"] (sp2 (LpOk T) (fun _ n v _ => v = .int (n : Nat) ∧ n ≤ 1000) (fun wd n => rNat (countM wd n))) := by
  refine dok T.greatest_count.F sc_greatest_count (fun vs H Q E h => ?_) (fun cdv A outer s H vs Q E hr h => ?_)
  · exact sp2_len h
  · obtain ⟨wd, n, x0, _, rfl, hlp, ⟨rfl, hn⟩, q⟩ := h
    have o := hlp.2
    have hb := reach_bd o
    refine ⟨_, (pss_one (ps_ret (pe_op op_add (pe_op op_mul pe_int (pv 1)) (pe_op op_mul pe_int (pcall T.reach (ok_reach T) (hr.mono (by decide)) (pa_cons (pv 0) pa_nil)))))), ?_⟩
    refine ⟨_, rfl, 2, (n : Nat), rfl, rfl, .inl ⟨by omega, by omega⟩, _, rfl, wd, _, rfl, hlp, fun u H1 s1 hu => ?_⟩
    cases hu
    refine ⟨2, reachM wd, rfl, rfl, .inl ⟨by omega, by omega⟩, _, _, rfl, rfl, q _ _ s1 ?_⟩
    show V.int _ = V.int ((countM wd n : Nat) : Int)
    unfold countM
    congr 1
    omega
theorem ok_greatest_width (T : Txt K mg) : FnOk P w K mg base CX0 7 T.greatest_width.f T.greatest_width.fd ["loop"] (sp1 (LpOk T) (fun wd => rNat (topM wd))) := by
  refine dok T.greatest_width.F sc_greatest_width (fun vs H Q E h => ?_) (fun cdv A outer s H vs Q E hr h => ?_)
  · exact sp1_len h
  · obtain ⟨wd, x0, rfl, hlp, q⟩ := h
    have o := hlp.2
    have hb := reach_bd o
    refine ⟨_, (pss_one (ps_ret (pe_callB (call_max2 rfl) (by rfl) T.max_ (by decide +kernel) (pa_cons pe_int (pa_cons (pe_op op_add (pe_op op_mul pe_int (pcall T.reach (ok_reach T) (hr.mono (by decide)) (pa_cons (pv 0) pa_nil))) pe_int) pa_nil))))), ?_⟩
    refine ⟨_, rfl, wd, _, rfl, hlp, fun u H1 s1 hu => ?_⟩
    cases hu
    refine ⟨2, reachM wd, rfl, rfl, .inl ⟨by omega, by omega⟩, _, _, rfl, rfl, _, _, rfl, q _ _ s1 ?_⟩
    show V.int _ = V.int ((topM wd : Nat) : Int)
    unfold topM
    congr 1
    split <;> omega
end
end VW

set_option maxHeartbeats 4000000
namespace VW
open PySem PySem.Spec PyProof.Rows L2
def sp4 {α β γ δ : Type} (A : α → V → Hp → Prop) (B : α → β → V → Hp → Prop) (C : α → β → γ → V → Hp → Prop) (D : α → β → γ → δ → V → Hp → Prop) (R : α → β → γ → δ → V → Hp → Prop) : Sp := fun vs H Q _ => ∃ x y z t v1 v2 v3 v4, vs = [v1, v2, v3, v4] ∧ A x v1 H ∧ B x y v2 H ∧ C x y z v3 H ∧ D x y z t v4 H ∧
  ∀ u H', Same H H' → R x y z t u H' → Q u H'
theorem sp4_len {α β γ δ : Type} {A : α → V → Hp → Prop} {B : α → β → V → Hp → Prop} {C : α → β → γ → V → Hp → Prop} {D R : α → β → γ → δ → V → Hp → Prop} {vs H Q E} (h : sp4 A B C D R vs H Q E) : vs.length = 4 := by
  obtain ⟨_, _, _, _, _, _, _, _, rfl, _⟩ := h
  rfl
def sp5 {α β γ δ ε : Type} (A : α → V → Hp → Prop) (B : α → β → V → Hp → Prop) (C : α → β → γ → V → Hp → Prop) (D : α → β → γ → δ → V → Hp → Prop) (F : α → β → γ → δ → ε → V → Hp → Prop) (R : α → β → γ → δ → ε → V → Hp → Prop) : Sp := fun vs H Q _ => ∃ x y z t s v1 v2 v3 v4 v5,
  vs = [v1, v2, v3, v4, v5] ∧ A x v1 H ∧ B x y v2 H ∧ C x y z v3 H ∧ D x y z t v4 H ∧ F x y z t s v5 H ∧ ∀ u H', Same H H' → R x y z t s u H' → Q u H'
theorem sp5_len {α β γ δ ε : Type} {A : α → V → Hp → Prop} {B : α → β → V → Hp → Prop} {C : α → β → γ → V → Hp → Prop} {D : α → β → γ → δ → V → Hp → Prop} {F R : α → β → γ → δ → ε → V → Hp → Prop} {vs H Q E} (h : sp5 A B C D F R vs H Q E) : vs.length = 5 := by
  obtain ⟨_, _, _, _, _, _, _, _, _, _, rfl, _⟩ := h
  rfl
section
variable {J : It} {n : Nat} {G : Hp → Prop} {Y : Nat → Hp → V → Hp → Prop} {β : Type} {S : Rp β} [ML S] {g g1 : TG} {wi1 : TI} {te : TE} {vs vs1 : List Nat} {σ : L2.St} {H0 : Hp} {D : Addr} {Qd : Hp → Prop}
/-- a comprehension with two walks -/
theorem lc2_flat (f : Nat → List β) (w : Walk J n G Y) (h0 : H0 D = none) (hn : ∀ i, i ≤ n → ((List.range i).flatMap f).length ≤ 1000000) (hG : ∀ H, Same H0 H → G H)
    (hs : ∀ i x H H' (R1 : L2.St → It → Hp → Prop), i < n → Same H0 H → (∃ xs, H D = some (.lst xs)) → Y i H x H' →
      (∀ σ2 J1 H4 m1 G1 Y1, Same H H4 → Walk J1 m1 G1 Y1 → m1 = (f i).length → (∀ H5, SameBut D H4 H5 → G1 H5) →
        (∀ j y H5 H6 (N : VK), j < m1 → SameBut D H4 H5 → Same H0 H5 → Y1 j H5 y H6 → (∀ c z H7, (f i)[j]? = some c → Same H5 H7 → S c z H7 → N z H7) → g1 y (wipe σ2 vs1) H6 fun σ3 H7 => wipe σ3 vs1 = wipe σ2 vs1 ∧ te σ3 H7 N) → R1 σ2 J1 H4) →
      g x (wipe σ vs) H' fun σ2 H2 => wipe σ2 vs = wipe σ vs ∧ wi1 σ2 H2 (R1 σ2))
    (hd : ∀ H, Mk2 S H0 D ((List.range n).flatMap f) H → Qd H) :
    ∃ W : Nat → Nat → Hp → Prop, (∃ m, W 0 m (upd H0 D (.lst []))) ∧ ∀ i m H, W i m H →
      (J.stop i H ∧ Qd H) ∨ (J.go i H ∧ ∃ Nx : Hp → Prop, (∀ H', Nx H' → ∃ m', m' < m ∧ W (i + 1) m' H') ∧ ∀ x H', J.yld i H x H' → g x (wipe σ vs) H' fun σ2 H2 => wipe σ2 vs = wipe σ vs ∧ tYes σ2 H2 fun b H3 =>
        if b = true then wi1 σ2 H3 fun J1 H4 => ∃ W1 : Nat → Nat → Hp → Prop, (∃ m, W1 0 m H4) ∧ ∀ j k H, W1 j k H →
          (J1.stop j H ∧ Nx H) ∨ (J1.go j H ∧ ∃ Nx1 : Hp → Prop, (∀ H', Nx1 H' → ∃ k', k' < k ∧ W1 (j + 1) k' H') ∧ ∀ x H', J1.yld j H x H' → g1 x (wipe σ2 vs1) H' fun σ3 H5 => wipe σ3 vs1 = wipe σ2 vs1 ∧ tYes σ3 H5 fun b H6 =>
            if b = true then te σ3 H6 fun y H7 => ∃ acc, H7 D = some (.lst acc) ∧ acc.length < sizeLine ∧ Nx1 (upd H7 D (.lst (acc ++ [y]))) else Nx1 H6)
        else Nx H3) := by
  refine ⟨fun i m H => m = n - i ∧ i ≤ n ∧ Mk2 S H0 D ((List.range i).flatMap f) H, ⟨n, by simp, Nat.zero_le _, Mk2.new h0⟩, ?_⟩
  rintro i m H ⟨rfl, hi, mk⟩
  by_cases hlt : i < n
  · refine .inr ⟨w.goes i H hlt (hG H mk.1), fun H' => Mk2 S H0 D ((List.range (i + 1)).flatMap f) H', fun H' p => ⟨n - (i + 1), by omega, rfl, hlt, p⟩, fun x H' y => ?_⟩
    refine hs i x H H' _ hlt mk.1 (let ⟨acc, e, _⟩ := mk.2; ⟨acc, e⟩) (w.yields i H x H' hlt (hG H mk.1) y) fun σ2 J1 H4 m1 G1 Y1 s4 w1 hm1 hG1 hs1 => ?_
    have mk4 := mk.grow h0 s4
    refine ⟨fun j k H5 => k = m1 - j ∧ j ≤ m1 ∧ Mk2 S H0 D ((List.range i).flatMap f ++ (f i).take j) H5 ∧ SameBut D H4 H5, ⟨m1, by simp, Nat.zero_le _, by simpa using mk4, SameBut.refl⟩, ?_⟩
    rintro j k H5 ⟨rfl, hj, mk5, sb⟩
    by_cases hjl : j < m1
    · refine .inr ⟨w1.goes j H5 hjl (hG1 H5 sb), fun H' => Mk2 S H0 D ((List.range i).flatMap f ++ (f i).take (j + 1)) H' ∧ SameBut D H4 H', fun H' p => ⟨m1 - (j + 1), by omega, rfl, hjl, p⟩, fun y H6 yy => ?_⟩
      refine hs1 j y H5 H6 _ hjl sb mk5.1 (w1.yields j H5 y H6 hjl (hG1 H5 sb) yy) fun c z H7 hc s7 hz => ?_
      obtain ⟨s0, acc, e, a⟩ := mk5.grow h0 s7
      refine ⟨acc, e, all2_len a ?_, ?_, (sb.trans (Same.but s7)).put⟩
      · have h1 := hn (i + 1) hlt
        rw [range_flat, List.length_append] at h1
        rw [List.length_append, List.length_take]
        omega
      · rw [List.take_add_one, hc, ← List.append_assoc]
        exact Mk2.snoc h0 s0 e a hz
    · have ej : j = m1 := by omega
      subst ej
      refine .inl ⟨w1.stops H5 (hG1 H5 sb), ?_⟩
      rw [hm1, List.take_length] at mk5
      rw [range_flat]
      exact mk5
  · have e : i = n := by omega
    subst e
    exact .inl ⟨w.stops H (hG H mk.1), hd H mk⟩
end
end VW

set_option maxHeartbeats 4000000
namespace VW
open PySem PySem.Spec PyProof.Rows L2
theorem flat_map_le {α : Type} {wd : Wd} (o : WOk wd) {s : Nat} (hs : s < wd.deeds.length) (lanes : List Nat) : (lanes.flatMap fun a => loadsEv wd s a).length ≤ lanes.length * 2 := flatMap_le fun a _ => loadsEv_le o hs a
theorem loadedS_mem {n p o m : Nat} (hn : n < m) (ho : o < m) : ∀ s ∈ loadedS n p o, s < m := fun s hs => by
  unfold loadedS at hs
  rcases List.mem_append.mp hs with h | h
  · split at h
    · rw [List.mem_singleton.mp h]
      exact hn
    · simp at h
  · split at h
    · rw [List.mem_singleton.mp h]
      exact ho
    · simp at h
theorem loadedS_le (n p o : Nat) : (loadedS n p o).length ≤ 2 := by
  unfold loadedS
  rw [List.length_append]
  split <;> split <;> simp
theorem stmtEv_le {wd : Wd} (ok : WOk wd) {n p o : Nat} (lanes : List Nat) (hn : n < wd.deeds.length) (ho : o < wd.deeds.length) : (stmtEv wd lanes n p o).length ≤ lanes.length * 5 := by
  have h1 := flatMap_le (f := fun s => lanes.flatMap fun a => loadsEv wd s a) (B := lanes.length * 2) (l := loadedS n p o) fun s hs => flat_map_le (α := Nat) ok (loadedS_mem hn ho s hs) lanes
  have h2 := loadedS_le n p o
  have h3 : (loadedS n p o).length * (lanes.length * 2) ≤ 2 * (lanes.length * 2) := Nat.mul_le_mul_right _ h2
  unfold stmtEv
  rw [List.length_append, List.length_map]
  omega
theorem blockTo_le {wd : Wd} (ok : WOk wd) {n p m : Nat} (lanes : List Nat) (hn : n < wd.deeds.length) (hm : m ≤ wd.deeds.length) : ((List.range m).flatMap fun o => stmtEv wd lanes n p o).length ≤ lanes.length * 15 := by
  have h1 := flatMap_le (f := fun o => stmtEv wd lanes n p o) (B := lanes.length * 5) (l := List.range m) fun o ho => stmtEv_le ok lanes hn (by have := List.mem_range.mp ho; omega)
  rw [List.length_range] at h1
  have h2 := ok.d2
  have h3 : m * (lanes.length * 5) ≤ 3 * (lanes.length * 5) := Nat.mul_le_mul_right _ (by omega)
  omega
theorem vint_inj {a b : Nat} (h : V.int (a : Nat) = V.int (b : Nat)) : a = b := by
  injection h with h
  omega
theorem take_app_le {α : Type} {l : List α} {k : Nat} : (l.take k).length ≤ l.length := by
  rw [List.length_take]
  omega
section
variable {P : Program} {w : World} {K : PySem.W.Frag} {mg : Str → Option Value} {base : Heap}
abbrev rNatB (b : Nat) : Rp Nat := fun n v _ => v = .int (n : Nat) ∧ n ≤ b
theorem ok_block_events (T : Txt K mg) : FnOk P w K mg base CX0 4 T.block_events.f T.block_events.fd ["loop", "number", "place", "lanes"] (sp4 (LpOk T) rJ (fun _ _ => rNat) (fun _ _ _ lanes v H => rL rNat lanes v H ∧ lanes.length ≤ 1000) (fun wd n p lanes => rL rEv (blockEv wd n p lanes))) := by
  refine dok T.block_events.F sc_block_events (fun vs H Q E h => ?_) (fun cdv A outer s H vs Q E hr h => ?_)
  · exact sp4_len h
  · obtain ⟨wd, n, p, lanes, x0, _, _, _, rfl, hlp, ⟨rfl, hn⟩, rfl, ⟨⟨lb, lv, rfl, hlb, hlv⟩, hlen⟩, q⟩ := h
    have ok := hlp.2
    have hd2 := ok.d2
    have hll := hlv.length
    refine ⟨_, (pss_cons (ps_set (i := 4) sc_block_events.nd rfl (.inl rfl) (pe_lst pa_nil))
      (pss_cons (ps_for PassesOwn.never rfl (pi_range1 (by rfl) T.range_ (pa_cons (pe_callB (T.lenO (ok_Loop_len T) (hr.mono (by decide))) (by rfl) T.len_ (by decide +kernel) (pa_cons (pv 0) pa_nil)) pa_nil)) (pg_name (i := 5) sc_block_events.nd rfl (.inr rfl))
      (pss_cutW (ps_set (i := 6) sc_block_events.nd rfl (.inl rfl) (pe_ifExp (PW.pt (pw_and (pt_cmpR op_eq (pv 5) (pv 2) (nomark _)) (pw_and1 (pt_cmpR op_ne (pv 2) (pv 1) (nomark _))))) (pe_lst (pa_cons (pv 1) pa_nil)) (pe_lst pa_nil)))
      (pss_cutW (ps_if (PW.pt (pw_or (pt_cmpR op_ne (pv 5) (pv 1) (nomark _)) (pw_or1 (pt_cmpR op_eq (pv 2) (pv 1) (nomark _))))) (pss_one (ps_set (i := 6) sc_block_events.nd rfl (.inl rfl) (pe_op op_cat (pv 6) (pe_lst (pa_cons (pv 5) pa_nil))))) pss_nil)
      (pss_cons (ps_for PassesOwn.never rfl (pi_listK (K := K) (pv 6)) (pg_name (i := 7) sc_block_events.nd rfl (.inr rfl))
      (pss_one (ps_expr (pe_bmK (K := K) PySem.F.plainAttrs_list PySem.F.slot_list_extend PySem.F.type_list_extend mt_extend (pv 4) (pa_cons (pe_lc2 (own := [("at", 8), ("event", 9)]) (vs1 := [9]) rfl sc_block_events.nd (pi_listK (K := K) (pv 3)) (blkOk_by (own := [("at", 8), ("event", 9)]) (N := N_block_events) (sc := defScope s_block_events) (by decide +kernel)) (by decide) (fun _ _ _ _ _ => (pg_name (i := 8) sc_block_events.nd rfl (.inl rfl))) (fun _ _ _ _ _ => pts_nil) (fun _ _ _ _ _ => (pi_listK (K := K) (pcall T.loads_of (ok_loads_of T) (hr.mono (by decide)) (pa_cons (pv 0) (pa_cons (pv 7) (pa_cons (pv 8) pa_nil)))))) (fun _ _ _ _ _ => (pg_name (i := 9) sc_block_events.nd rfl (.inl rfl))) (fun _ _ _ _ _ => pts_nil) (fun _ _ _ _ _ => (pv 9))) pa_nil)))))
      (pss_one (ps_expr (pe_bmK (K := K) PySem.F.plainAttrs_list PySem.F.slot_list_extend PySem.F.type_list_extend mt_extend (pv 4) (pa_cons (pe_lc (own := [("at", 8)]) rfl sc_block_events.nd (pi_listK (K := K) (pv 3)) (blkOk_by (own := [("at", 8)]) (N := N_block_events) (sc := defScope s_block_events) (by decide +kernel)) (fun _ _ _ _ _ => (pg_name (i := 8) sc_block_events.nd rfl (.inl rfl))) (fun _ _ _ _ _ => pts_nil) (fun _ _ _ _ _ => (pcall T.end_of (ok_end_of T) (hr.mono (by decide)) (pa_cons (pv 0) (pa_cons (pv 5) (pa_cons (pv 8) pa_nil)))))) pa_nil))))))))
      (pss_one (ps_ret (pv 4))))), ?_⟩
    refine ⟨(by show 0 ≤ sizeLine; decide), fun D nD => ?_⟩
    have sD : Same H (upd H D (.lst [])) := same_new nD
    have hlp0 := Mono.mono sD hlp
    obtain ⟨⟨al, dl, _, _, _, rfl, hal, _⟩, _⟩ := id hlp0
    refine ⟨_, rfl, al, dl, _, rfl, hal, wd, _, rfl, hlp0, fun u H1 s1 hu => ⟨wd.deeds.length, hu, by omega, ?_⟩⟩
    cases hu
    refine ⟨(wd.deeds.length : Nat), rfl, by omega, by omega, for_it walk_r0 (fun o σ' H' => ∃ y5 y6 y7, σ' = [some (.ref al), some (.int (n : Nat)), some (.int (p : Nat)), some (.ref lb), some (.ref D), y5, y6, y7, none, none] ∧ Mk2 rEv H D ((List.range o).flatMap fun o => stmtEv wd lanes n p o) H')
      ⟨none, none, none, rfl, (Mk2.new nD).grow nD s1⟩ (fun _ _ _ _ _ => True.intro) ?_ ?_⟩
    · rintro o y σ' H2 H3 hi ⟨y5, y6, y7, rfl, m⟩ ⟨rfl, rfl⟩
      have ho : o < wd.deeds.length := by omega
      have hbt := blockTo_le ok (p := p) lanes hn (Nat.le_of_lt ho)
      have hse := stmtEv_le ok (p := p) lanes hn ho
      refine ⟨fun σ' H' => ∃ a1, σ' = [some (.ref al), some (.int (n : Nat)), some (.int (p : Nat)), some (.ref lb), some (.ref D), some (.int (o : Nat)), some (.ref a1), y7, none, none] ∧ Mk2 rEv H D ((List.range o).flatMap fun o => stmtEv wd lanes n p o) H' ∧ a1 ≠ D ∧ H' a1 = some (.lst ((if o = p ∧ p ≠ n then [n] else []).map fun (i : Nat) => V.int (i : Nat))), ?_, ?_⟩
      · obtain ⟨acc3, e3, _⟩ := m.2
        have neD : ∀ {H' : Hp} {a : Addr}, Same H3 H' → H' a = none → a ≠ D := fun s' na z => by
          rw [z, s' _ _ e3] at na
          cases na
        have fin0 : ¬ (o = p ∧ p ≠ n) → ∀ a1, H3 a1 = none → Mk2 rEv H D ((List.range o).flatMap fun o => stmtEv wd lanes n p o) (upd H3 a1 (.lst [])) ∧ a1 ≠ D ∧ (upd H3 a1 (.lst [])) a1 = some (.lst ((if o = p ∧ p ≠ n then [n] else []).map fun (i : Nat) => V.int (i : Nat))) := fun hc a1 na => by
          refine ⟨m.grow nD (same_new na), neD (Same.refl _) na, ?_⟩
          rw [upd_same, if_neg hc]
          rfl
        refine ⟨_, rfl, _, rfl, rfl, _, rfl, ?_⟩
        by_cases c1 : o = p
        · refine iteY (by rw [c1]) ⟨_, rfl, _, rfl, rfl, _, rfl, ?_⟩
          by_cases c2 : p = n
          · refine iteNS (by rw [c2]) ⟨(by show 0 ≤ sizeLine; decide), fun a1 na => ⟨a1, rfl, fin0 (fun z => z.2 c2) a1 na⟩⟩
          · refine iteNY (fun z => c2 (vint_inj z)) ⟨_, rfl, (by show 1 ≤ sizeLine; decide), fun a1 na => ⟨a1, rfl, m.grow nD (same_new na), neD (Same.refl _) na, ?_⟩⟩
            rw [upd_same, if_pos ⟨c1, c2⟩]
            rfl
        · exact iteN (fun z => c1 (vint_inj z)) (iteF ⟨(by show 0 ≤ sizeLine; decide), fun a1 na => ⟨a1, rfl, fin0 (fun z => c1 z.1) a1 na⟩⟩)
      · rintro σ' H4 ⟨a1, rfl, m4, ha1, ea1⟩
        refine ⟨fun σ' H' => ∃ a2, σ' = [some (.ref al), some (.int (n : Nat)), some (.int (p : Nat)), some (.ref lb), some (.ref D), some (.int (o : Nat)), some (.ref a2), y7, none, none] ∧ Mk2 rEv H D ((List.range o).flatMap fun o => stmtEv wd lanes n p o) H' ∧ a2 ≠ D ∧ H' a2 = some (.lst ((loadedS n p o).map fun (i : Nat) => V.int (i : Nat))), ?_, ?_⟩
        · obtain ⟨acc4, e4, _⟩ := m4.2
          have fin1 : (o ≠ n ∨ p = n) → ∀ b2, H4 b2 = none → ∃ l b xs zs, V.ref a1 = .ref l ∧ V.ref b2 = .ref b ∧ (upd H4 b2 (.lst [.int (o : Nat)])) l = some (.lst xs) ∧ (upd H4 b2 (.lst [.int (o : Nat)])) b = some (.lst zs) ∧ xs.length + zs.length ≤ sizeLine ∧
              ∀ p', (upd H4 b2 (.lst [.int (o : Nat)])) p' = none → ∃ a2, [some (.ref al), some (.int (n : Nat)), some (.int (p : Nat)), some (.ref lb), some (.ref D), some (.int (o : Nat)), some (.ref p'), y7, none, none] = [some (V.ref al), some (.int (n : Nat)), some (.int (p : Nat)), some (.ref lb), some (.ref D), some (.int (o : Nat)), some (.ref a2), y7, none, none] ∧
                Mk2 rEv H D ((List.range o).flatMap fun o => stmtEv wd lanes n p o) (upd (upd H4 b2 (.lst [.int (o : Nat)])) p' (.lst (xs ++ zs))) ∧ a2 ≠ D ∧ (upd (upd H4 b2 (.lst [.int (o : Nat)])) p' (.lst (xs ++ zs))) a2 = some (.lst ((loadedS n p o).map fun (i : Nat) => V.int (i : Nat))) := fun hc b2 nb2 => by
            have s5 := same_new (o := .lst [.int (o : Nat)]) nb2
            refine ⟨a1, b2, _, _, rfl, rfl, s5 _ _ ea1, upd_same, ?_, fun p' np => ⟨p', rfl, m4.grow nD (Same.new s5 np), fun z => ?_, ?_⟩⟩
            · rw [List.length_map, sizeLine_eq]
              split <;> simp
            · rw [z, s5 _ _ e4] at np
              cases np
            · rw [upd_same]
              unfold loadedS
              rw [if_pos hc, List.map_append]
              rfl
          refine ⟨_, rfl, _, rfl, rfl, _, rfl, ?_⟩
          by_cases c1 : o = n
          · refine iteNS (by rw [c1]) ⟨_, rfl, _, rfl, rfl, _, rfl, ?_⟩
            by_cases c2 : p = n
            · exact iteY (by rw [c2]) ⟨_, rfl, _, rfl, (by show 1 ≤ sizeLine; decide), fun b2 nb2 => fin1 (.inr c2) b2 nb2⟩
            · refine iteN (fun z => c2 (vint_inj z)) ⟨a1, rfl, m4, ha1, ?_⟩
              rw [ea1]
              unfold loadedS
              rw [if_neg (fun z : o ≠ n ∨ p = n => z.elim (fun y => y c1) c2), List.append_nil]
          · exact iteNY (fun z => c1 (vint_inj z)) (iteT ⟨_, rfl, _, rfl, (by show 1 ≤ sizeLine; decide), fun b2 nb2 => fin1 (.inl c1) b2 nb2⟩)
        · rintro σ' H5 ⟨a2, rfl, m5, ha2, ea2⟩
          refine ⟨_, rfl, a2, rfl, ⟨_, .inl (.inl ea2)⟩, for_it (walk_list (K := K) (a := a2) (xs := (loadedS n p o).map fun (i : Nat) => V.int (i : Nat))) (fun k σ' H' => ∃ y7, σ' = [some (.ref al), some (.int (n : Nat)), some (.int (p : Nat)), some (.ref lb), some (.ref D), some (.int (o : Nat)), some (.ref a2), y7, none, none] ∧
              Mk2 rEv H D (((List.range o).flatMap fun o => stmtEv wd lanes n p o) ++ ((loadedS n p o).take k).flatMap fun s => lanes.flatMap fun a => loadsEv wd s a) H' ∧ H' a2 = some (.lst ((loadedS n p o).map fun (i : Nat) => V.int (i : Nat))))
            ⟨_, rfl, by simpa using m5, ea2⟩ (fun k σ' H' _ ⟨_, _, _, e⟩ => .inl (.inl e)) ?_ ?_⟩
          · rintro k y σ' H6 H7 hk ⟨z7, rfl, m6, e6⟩ ⟨rfl, hy⟩
            rw [List.getElem?_map] at hy
            obtain ⟨s, hs, rfl⟩ := Option.map_eq_some_iff.mp hy
            have hsw := loadedS_mem hn ho s (List.mem_of_getElem? hs)
            have hfl := flat_map_le (α := Nat) ok hsw lanes
            have hll2 := loadedS_le n p o
            have hpre := flatMap_le (f := fun s => lanes.flatMap fun a => loadsEv wd s a) (B := lanes.length * 2) (l := (loadedS n p o).take k) fun s hs => flat_map_le (α := Nat) ok (loadedS_mem hn ho s (List.mem_of_mem_take hs)) lanes
            have htl := take_app_le (l := loadedS n p o) (k := k)
            have h3 : ((loadedS n p o).take k).length * (lanes.length * 2) ≤ 2 * (lanes.length * 2) := Nat.mul_le_mul_right _ (by omega)
            obtain ⟨acc6, eD6, _⟩ := m6.2
            refine ⟨_, rfl, .inl ⟨rfl, _, .inl (.inl eD6)⟩, _, rfl, lb, rfl, ⟨_, .inl (.inl (m6.1 _ _ hlb))⟩, fun D2 nD2 => ?_⟩
            refine lc2_flat (S := rEv) (fun i => loadsEv wd s (lanes.getD i 0)) (walk_list (K := K) (a := lb) (xs := lv)) nD2 (fun i hi => ?_) (fun H' s' => .inl (.inl (s' _ _ (m6.1 _ _ hlb)))) (fun i x H8 H9 R1 hi s8 hD8 hx hR => ?_) fun H8 m8 => ?_
            · have h := flatMap_le (f := fun i => loadsEv wd s (lanes.getD i 0)) (B := 2) (l := List.range i) fun a _ => loadsEv_le ok hsw _
              rw [List.length_range] at h
              omega
            · obtain ⟨rfl, hx⟩ := hx
              obtain ⟨a, ha, rfl⟩ := hlv.getR hx
              have ea : lanes.getD i 0 = a := by rw [List.getD_eq_getElem?_getD, ha]; rfl
              rw [ea] at hR
              refine ⟨rfl, _, rfl, _, rfl, _, rfl, wd, s, a, _, _, _, rfl, Mono.mono (m6.1.trans s8) hlp, ⟨rfl, hsw⟩, rfl, fun u H10 s10 hu hnew => ?_⟩
              obtain ⟨b, zs, rfl, hb, hz⟩ := hu
              obtain ⟨_, hbe, hbn⟩ := hnew
              cases hbe
              have hbD : b ≠ D2 := fun z => by
                obtain ⟨xs, hxs⟩ := hD8
                rw [z, hxs] at hbn
                cases hbn
              refine ⟨b, rfl, ⟨_, .inl (.inl hb)⟩, hR _ _ _ zs.length _ _ s10 (walk_list (K := K) (a := b) (xs := zs)) hz.length.symm (fun H5 sb => .inl (.inl (sb _ _ hbD hb))) fun j y H11 H12 N hj sb s0 hy kk => ?_⟩
              obtain ⟨rfl, hy⟩ := hy
              obtain ⟨c, hc, hcr⟩ := hz.getR hy
              refine ⟨rfl, _, rfl, kk c _ _ hc (Same.refl _) ?_⟩
              obtain ⟨t, e, ht⟩ := hcr
              refine ⟨t, e, sb _ _ (fun z => ?_) ht⟩
              obtain ⟨xs, hxs⟩ := hD8
              rw [z, s10 _ _ hxs] at ht
              cases ht
            · have e8 : (List.range lv.length).flatMap (fun i => loadsEv wd s (lanes.getD i 0)) = lanes.flatMap fun a => loadsEv wd s a := by
                rw [← hll, List.flatMap_def, List.flatMap_def]
                exact congrArg List.flatten (@range_map_get _ _ ⟨0⟩ lanes (fun a => loadsEv wd s a))
              rw [e8] at m8
              obtain ⟨b3, acc, zs, h1, eD, e3, hle, m9⟩ := (m6.grow nD m8.1).ext nD m8.done (by rw [List.length_append]; omega)
              cases h1
              refine ⟨D, D2, acc, zs, rfl, rfl, eD, e3, hle, _, rfl, ?_, ?_⟩
              · rw [take_flat _ hs, ← List.append_assoc]
                exact m9
              · rw [upd_ne ha2]
                exact m8.1 _ _ e6
          · rintro σ' H6 ⟨z7, rfl, m6, e6⟩
            rw [List.length_map, List.take_length] at m6
            obtain ⟨acc6, eD6, _⟩ := m6.2
            refine ⟨_, rfl, .inl ⟨rfl, _, .inl (.inl eD6)⟩, _, rfl, lb, rfl, ⟨_, .inl (.inl (m6.1 _ _ hlb))⟩, fun D2 nD2 => ?_⟩
            refine lc_map (S := rEv) (fun i => endEv wd o (lanes.getD i 0)) (walk_list (K := K) (a := lb) (xs := lv)) nD2 (by omega) (fun H' s' => .inl (.inl (s' _ _ (m6.1 _ _ hlb)))) (fun i x H8 H9 N hi s8 hx kk => ?_) fun H8 m8 => ?_
            · obtain ⟨rfl, hx⟩ := hx
              obtain ⟨a, ha, rfl⟩ := hlv.getR hx
              have ea : lanes.getD i 0 = a := by rw [List.getD_eq_getElem?_getD, ha]; rfl
              refine ⟨rfl, _, rfl, _, rfl, _, rfl, wd, o, a, _, _, _, rfl, Mono.mono (m6.1.trans s8) hlp, ⟨rfl, ho⟩, rfl, fun u H10 s10 hu => kk _ _ s10 ?_⟩
              rw [ea]
              exact hu
            · have e8 : (List.range lv.length).map (fun i => endEv wd o (lanes.getD i 0)) = lanes.map fun a => endEv wd o a := by
                rw [← hll]
                exact @range_map_get _ _ ⟨0⟩ lanes (fun a => endEv wd o a)
              rw [e8] at m8
              have hpre := flatMap_le (f := fun s => lanes.flatMap fun a => loadsEv wd s a) (B := lanes.length * 2) (l := loadedS n p o) fun s hs => flat_map_le (α := Nat) ok (loadedS_mem hn ho s hs) lanes
              have hll2 := loadedS_le n p o
              have h3 : (loadedS n p o).length * (lanes.length * 2) ≤ 2 * (lanes.length * 2) := Nat.mul_le_mul_right _ (by omega)
              obtain ⟨b3, acc, zs, h1, eD, e3, hle, m9⟩ := (m6.grow nD m8.1).ext nD m8.done (by rw [List.length_append, List.length_map]; omega)
              cases h1
              refine ⟨D, D2, acc, zs, rfl, rfl, eD, e3, hle, _, _, _, rfl, ?_⟩
              rw [range_flat]
              unfold stmtEv
              rw [← List.append_assoc]
              exact m9
    · rintro σ' H2 ⟨y5, y6, y7, rfl, m⟩
      exact ⟨_, rfl, q _ _ m.1 m.done⟩
end
end VW

set_option maxHeartbeats 4000000
namespace VW
open PySem PySem.Spec PyProof.Rows L2
theorem rgc_steps {c w : Nat} (h1 : 1 ≤ w) (h2 : w ≤ 1000) (h3 : c ≤ 1000) : RgC 0 (c : Nat) (w : Nat) ((c + w - 1) / w) := by
  have e : Builtin.Range.rangeSize 0 (c : Nat) (w : Nat) = (((c + w - 1) / w : Nat) : Int) := by
    rw [rangeSize_pos (by omega) (by omega)]
    have e1 : ((c : Nat) : Int) + (w : Nat) - 1 = ((c + w - 1 : Nat) : Int) := by omega
    rw [e1]
    rfl
  have hq : (c + w - 1) / w ≤ c + w - 1 := Nat.div_le_self _ _
  refine ⟨by omega, by omega, ?_, e⟩
  unfold Builtin.Range.small
  rw [e]
  simp only [Builtin.Range.rangeFitsLong, Bool.and_eq_true, Bool.or_eq_true, decide_eq_true_eq, beq_iff_eq]
  have hw : (w : Int) > 0 := by omega
  rw [if_pos hw]
  generalize (c + w - 1) / w = z at hq
  simp only [Bool.and_eq_true, decide_eq_true_eq]
  omega
theorem lanes_len (w c b : Nat) : (lanesAt w c b).length ≤ w := by
  unfold lanesAt
  rw [List.length_map, List.length_range]
  omega
theorem lanes_lt {w c b : Nat} : ∀ a ∈ lanesAt w c b, a < c := fun a ha => by
  obtain ⟨x, hx, rfl⟩ := List.mem_map.mp ha
  have := List.mem_range.mp hx
  omega
theorem rgV_lanes {w c b : Nat} {j : Int} (hj : j = ((min (b * w + w) c : Nat) : Int)) : rgV ((b * w : Nat) : Int) j = (lanesAt w c b).map fun (i : Nat) => V.int (i : Nat) := by
  subst hj
  unfold rgV lanesAt
  have e : (((min (b * w + w) c : Nat) : Int) - ((b * w : Nat) : Int)).toNat = min (b * w + w) c - b * w := by omega
  rw [e, List.map_map]
  refine List.map_congr_left fun i _ => ?_
  show V.int _ = V.int ((b * w + i : Nat) : Int)
  congr 1
theorem blockEv_le {wd : Wd} (ok : WOk wd) {n p : Nat} (lanes : List Nat) (hn : n < wd.deeds.length) : (blockEv wd n p lanes).length ≤ lanes.length * 15 := blockTo_le ok lanes hn (Nat.le_refl _)
theorem freeTo_le {wd : Wd} (ok : WOk wd) {n p w c : Nat} (hn : n < wd.deeds.length) (hw : w ≤ 20) (m : Nat) : ((List.range m).flatMap fun b => blockEv wd n p (lanesAt w c b)).length ≤ m * 300 := by
  have h := flatMap_le (f := fun b => blockEv wd n p (lanesAt w c b)) (B := 300) (l := List.range m) fun b _ => by
    have h1 := blockEv_le ok (p := p) (lanesAt w c b) hn
    have h2 := lanes_len w c b
    omega
  rw [List.length_range] at h
  exact h
theorem steps_le {w c : Nat} (h1 : 1 ≤ w) (h2 : w ≤ 20) (h3 : c ≤ 100) : (c + w - 1) / w ≤ 120 := by
  have hq : (c + w - 1) / w ≤ c + w - 1 := Nat.div_le_self _ _
  omega
theorem freeEv_le {wd : Wd} (ok : WOk wd) {n p w c : Nat} (hn : n < wd.deeds.length) (h1 : 1 ≤ w) (h2 : w ≤ 20) (h3 : c ≤ 100) : (freeEv wd n p w c).length ≤ 36000 := by
  have h := freeTo_le ok (p := p) (c := c) hn h2 ((c + w - 1) / w)
  have := steps_le h1 h2 h3
  unfold freeEv
  omega
theorem blockEv_ok {wd : Wd} {n p : Nat} {lanes : List Nat} (hn : n < wd.deeds.length) (hl : ∀ a ∈ lanes, a ≤ 1000000) : ∀ e ∈ blockEv wd n p lanes, EvOk wd e := fun e he => by
  obtain ⟨o, ho, he⟩ := List.mem_flatMap.mp he
  have ho2 := List.mem_range.mp ho
  rcases List.mem_append.mp he with he | he
  · obtain ⟨s, hs, he⟩ := List.mem_flatMap.mp he
    obtain ⟨a, ha, he⟩ := List.mem_flatMap.mp he
    exact loadsEv_ok (loadedS_mem hn ho2 s hs) (hl a ha) e he
  · obtain ⟨a, ha, rfl⟩ := List.mem_map.mp he
    exact endEv_ok ho2 (hl a ha)
theorem freeEv_ok {wd : Wd} {n p w c : Nat} (hn : n < wd.deeds.length) (hc : c ≤ 1000000) : ∀ e ∈ freeEv wd n p w c, EvOk wd e := fun e he => by
  obtain ⟨b, hb, he⟩ := List.mem_flatMap.mp he
  exact blockEv_ok hn (fun a ha => by have := lanes_lt a ha; omega) e he
section
variable {P : Program} {w : World} {K : PySem.W.Frag} {mg : Str → Option Value} {base : Heap}
abbrev rWidth : Rp Nat := fun n v _ => v = .int (n : Nat) ∧ 1 ≤ n ∧ n ≤ 20
abbrev rCount : Rp Nat := fun n v _ => v = .int (n : Nat) ∧ n ≤ 100
theorem ok_free_list (T : Txt K mg) : FnOk P w K mg base CX0 5 T.free_list.f T.free_list.fd ["loop", "number", "place", "width", "count"] (sp5 (LpOk T) rJ (fun _ _ => rNat) (fun _ _ _ => rWidth) (fun _ _ _ _ => rCount) (fun wd n p w c => rL rEv (freeEv wd n p w c))) := by
  refine dok T.free_list.F sc_free_list (fun vs H Q E h => ?_) (fun cdv A outer s H vs Q E hr h => ?_)
  · exact sp5_len h
  · obtain ⟨wd, n, p, wi, c, x0, _, _, _, _, rfl, hlp, ⟨rfl, hn⟩, rfl, ⟨rfl, hw1, hw2⟩, ⟨rfl, hc⟩, q⟩ := h
    have ok := hlp.2
    have hst := steps_le hw1 hw2 hc
    refine ⟨_, (pss_cons (ps_set (i := 5) sc_free_list.nd rfl (.inl rfl) (pe_lst pa_nil))
      (pss_cons (ps_for PassesOwn.never rfl (pi_range3 (by rfl) T.range_ (pa_cons pe_int (pa_cons (pv 4) (pa_cons (pv 3) pa_nil)))) (pg_name (i := 6) sc_free_list.nd rfl (.inl rfl))
      (pss_cons (ps_set (i := 7) sc_free_list.nd rfl (.inl rfl) (pe_listRg rfl (by rfl) T.list_ (prg_2 (by rfl) T.range_ (pv 6) (pe_callB (call_min2 rfl) (by rfl) T.min_ (by decide +kernel) (pa_cons (pe_op op_add (pv 6) (pv 3)) (pa_cons (pv 4) pa_nil))))))
      (pss_one (ps_expr (pe_bmK (K := K) PySem.F.plainAttrs_list PySem.F.slot_list_extend PySem.F.type_list_extend mt_extend (pv 5) (pa_cons (pcall T.block_events (ok_block_events T) (hr.mono (by decide)) (pa_cons (pv 0) (pa_cons (pv 1) (pa_cons (pv 2) (pa_cons (pv 7) pa_nil))))) pa_nil))))))
      (pss_one (ps_ret (pv 5))))), ?_⟩
    refine ⟨(by show 0 ≤ sizeLine; decide), fun D nD => ?_⟩
    refine ⟨_, rfl, _, rfl, 0, (c : Nat), (wi : Nat), _, rfl, rgc_steps hw1 (by omega) (by omega), for_it walk_rangeC (fun b σ' H' => ∃ y6 y7, σ' = [some x0, some (.int (n : Nat)), some (.int (p : Nat)), some (.int (wi : Nat)), some (.int (c : Nat)), some (.ref D), y6, y7] ∧ Mk2 rEv H D ((List.range b).flatMap fun b => blockEv wd n p (lanesAt wi c b)) H')
      ⟨none, none, rfl, Mk2.new nD⟩ (fun _ _ _ _ _ => True.intro) ?_ ?_⟩
    · rintro b y σ' H2 H3 hi ⟨y6, y7, rfl, m⟩ ⟨rfl, rfl⟩
      have hfb := freeTo_le ok (p := p) (c := c) hn hw2 b
      have hbe := blockEv_le ok (p := p) (lanesAt wi c b) hn
      have hll := lanes_len wi c b
      have hbw : b * wi ≤ 120 * 20 := Nat.mul_le_mul (by omega) hw2
      have es : (0 : Int) + ((b : Nat) : Int) * ((wi : Nat) : Int) = ((b * wi : Nat) : Int) := by
        rw [Int.zero_add]
        rfl
      simp only [es]
      refine ⟨_, rfl, _, rfl, _, rfl, _, _, rfl, rfl, _, rfl, _, _, rfl, _, _, rfl, rfl, RgOk.of_le (by omega) ?_ (by omega) ?_, fun l nl => ?_⟩
      · split <;> omega
      · split <;> omega
      · rw [rgV_lanes (w := wi) (c := c) (b := b) (by split <;> omega)]
        have sl := same_new (o := .lst ((lanesAt wi c b).map fun (i : Nat) => V.int (i : Nat))) nl
        obtain ⟨acc0, e0, _⟩ := m.2
        refine ⟨_, rfl, .inl ⟨rfl, _, .inl (.inl (sl _ _ e0))⟩, _, rfl, _, rfl, _, rfl, _, rfl, wd, n, p, lanesAt wi c b, _, _, _, _, rfl, Mono.mono (m.1.trans sl) hlp, ⟨rfl, hn⟩, rfl, ⟨⟨l, _, rfl, upd_same, all2_nat.mpr rfl⟩, by omega⟩, fun u H4 s4 hu => ?_⟩
        obtain ⟨b3, acc, zs, rfl, eD, e3, hle, m2⟩ := (m.grow nD (sl.trans s4)).ext nD hu (by omega)
        refine ⟨D, b3, acc, zs, rfl, rfl, eD, e3, hle, _, _, rfl, ?_⟩
        rw [range_flat]
        exact m2
    · rintro σ' H2 ⟨y6, y7, rfl, m⟩
      exact ⟨_, rfl, q _ _ m.1 m.done⟩
end
end VW

set_option maxHeartbeats 4000000
namespace VW
open PySem PySem.Spec PyProof.Rows L2
/-! ### origins as data -/
def dNN (x : Nat × Nat) : PyData := .tuple [.int (x.1 : Nat), .int (x.2 : Nat)]
def dOrg : Option (Nat × Nat) → PyData
  | none => .none
  | some x => dNN x
theorem dOrg_eqv (a b : Option (Nat × Nat)) : PyData.eqv (dOrg a) (dOrg b) = decide (a = b) := by
  cases a with
  | none =>
    cases b with
    | none => rfl
    | some y => rfl
  | some x =>
    cases b with
    | none => rfl
    | some y =>
      obtain ⟨x1, x2⟩ := x
      obtain ⟨y1, y2⟩ := y
      simp only [dOrg, dNN, PyData.eqv, PyData.eqvAll, Bool.and_true]
      rw [Bool.eq_iff_iff, Bool.and_eq_true, beq_iff_eq, beq_iff_eq, decide_eq_true_eq, Option.some.injEq, Prod.mk.injEq]
      omega
theorem dOrg_shaped (a : Option (Nat × Nat)) : SeqAt.shaped (dOrg a) = true := by
  cases a with
  | none => decide
  | some x => rfl
theorem dp_org {K : PySem.W.Frag} {H : Hp} {x : Option (Nat × Nat)} {v : V} (h : rOpt rNN x v H) : Dp K H v (dOrg x) := by
  cases x with
  | none =>
    cases (show v = V.non from h)
    exact .non
  | some y =>
    obtain ⟨a, rfl, ha⟩ := show rNN y v H from h
    exact .tup (.inl (.inl ha)) (.cons (.int _) (.cons (.int _) .nil))
/-! ### keys of the flow -/
theorem key_any {β : Type} {l : List (List Key × β)} {k : List Key} : (l.any fun q => decide (q.1 = k)) = true ↔ k ∈ l.map (·.1) := by
  rw [List.any_eq_true, List.mem_map]
  exact ⟨fun ⟨q, h1, h2⟩ => ⟨q, h1, of_decide_eq_true h2⟩, fun ⟨q, h1, h2⟩ => ⟨q, h1, decide_eq_true h2⟩⟩
theorem putA_keys {β : Type} (l : List (List Key × β)) (k : List Key) (b : β) : (k ∈ l.map (·.1) ∧ (putA l k b).map (·.1) = l.map (·.1)) ∨ (¬ k ∈ l.map (·.1) ∧ (putA l k b).map (·.1) = l.map (·.1) ++ [k]) := by
  unfold putA
  by_cases h : (l.any fun q => decide (q.1 = k)) = true
  · refine .inl ⟨key_any.mp h, ?_⟩
    rw [if_pos h, List.map_map]
    refine List.map_congr_left fun q _ => ?_
    show (if q.1 = k then (q.1, b) else q).1 = q.1
    split <;> rfl
  · refine .inr ⟨fun z => h (key_any.mpr z), ?_⟩
    rw [if_neg h, List.map_append]
    rfl
theorem putA_nodup {β : Type} {l : List (List Key × β)} {k : List Key} {b : β} (h : (l.map (·.1)).Nodup) : ((putA l k b).map (·.1)).Nodup := by
  rcases putA_keys l k b with ⟨_, e⟩ | ⟨hk, e⟩
  · rw [e]
    exact h
  · rw [e, List.nodup_append]
    refine ⟨h, by simp, fun a ha b hb => ?_⟩
    rw [List.mem_singleton.mp hb]
    exact fun z => hk (by rw [← z]; exact ha)
theorem flow_nodup (wd : Wd) : ∀ (l : List Ev) (st : Org × Wri), (st.1.map (·.1)).Nodup → ((l.foldl (flowStep wd) st).1.map (·.1)).Nodup
  | [], st, h => h
  | e :: l, st, h => by
    rw [List.foldl_cons]
    refine flow_nodup wd l _ ?_
    unfold flowStep
    split
    · exact putA_nodup h
    · split <;> exact h
theorem flow_keys (wd : Wd) : ∀ (l : List Ev) (st : Org × Wri) (k : List Key), k ∈ ((l.foldl (flowStep wd) st).1.map (·.1)) ↔ k ∈ st.1.map (·.1) ∨ ∃ e ∈ l, e.w = "load" ∧ loadKey e = k
  | [], st, k => by simp
  | e :: l, st, k => by
    rw [List.foldl_cons, flow_keys wd l]
    have h : k ∈ (flowStep wd st e).1.map (·.1) ↔ k ∈ st.1.map (·.1) ∨ (e.w = "load" ∧ loadKey e = k) := by
      unfold flowStep
      by_cases c1 : e.w = "load"
      · rw [if_pos c1]
        show k ∈ (putA st.1 (loadKey e) _).map (·.1) ↔ _
        rcases putA_keys st.1 (loadKey e) (getA st.2 (cellKey wd e)) with ⟨hk, e1⟩ | ⟨hk, e1⟩
        · rw [e1]
          exact ⟨.inl, fun z => z.elim id fun y => by rw [← y.2]; exact hk⟩
        · rw [e1, List.mem_append, List.mem_singleton]
          exact ⟨fun z => z.elim .inl fun y => .inr ⟨c1, y.symm⟩, fun z => z.elim .inl fun y => .inr y.2.symm⟩
      · rw [if_neg c1]
        split
        · exact ⟨.inl, fun z => z.elim id fun y => absurd y.1 c1⟩
        · exact ⟨.inl, fun z => z.elim id fun y => absurd y.1 c1⟩
    rw [h]
    constructor
    · rintro ((h1 | h1) | ⟨e', h1, h2⟩)
      · exact .inl h1
      · exact .inr ⟨e, List.mem_cons_self, h1⟩
      · exact .inr ⟨e', List.mem_cons_of_mem _ h1, h2⟩
    · rintro (h1 | ⟨e', h1, h2⟩)
      · exact .inl (.inl h1)
      · rcases List.mem_cons.mp h1 with h3 | h3
        · rw [h3] at h2
          exact .inl (.inr h2)
        · exact .inr ⟨e', h3, h2⟩
theorem flowM_nodup (wd : Wd) (l : List Ev) : ((flowM wd l).1.map (·.1)).Nodup := flow_nodup wd l _ List.nodup_nil
theorem flowM_keys (wd : Wd) (l : List Ev) (k : List Key) : k ∈ (flowM wd l).1.map (·.1) ↔ ∃ e ∈ l, e.w = "load" ∧ loadKey e = k := by
  unfold flowM
  rw [flow_keys]
  simp
/-- a key is three ints -/
theorem flow_key3 {wd : Wd} {l : List Ev} {q : List Key × Option (Nat × Nat)} (h : q ∈ (flowM wd l).1) : ∃ j i k : Nat, q.1 = [.inl (j : Int), .inl (i : Int), .inl (k : Int)] := by
  obtain ⟨e, _, _, h2⟩ := (flowM_keys wd l q.1).mp (List.mem_map.mpr ⟨q, h, rfl⟩)
  exact ⟨e.j, e.i, e.k, h2.symm⟩
theorem valV_noneG {κ : Type} [DecidableEq κ] {kvs : List (κ × V)} {k : κ} (h : ¬ k ∈ kvs.map (·.1)) : valV kvs k = none := by
  induction kvs with
  | nil => rfl
  | cons p r ih =>
    rw [List.map_cons, List.mem_cons, not_or] at h
    rw [valV_neg fun z => h.1 z.symm]
    exact ih h.2
/-! ### a dict comprehension with tuple keys: items that pass, keys new each time -/
section
variable {J : It} {n : Nat} {G : Hp → Prop} {Y : Nat → Hp → V → Hp → Prop} {β : Type} {R : Rp β} {g : TG} {tt : TT} {tk tv : TE} {vs : List Nat} {σ : L2.St} {H0 : Hp} {D : Addr} {Qd : Hp → Prop}
theorem dcT_opt (kt : ∀ {x : β} {v : V} {H H' : Hp}, KeepT H H' → R x v H → R x v H') (f : Nat → Option (List Key × β)) (w : Walk J n G Y) (h0 : H0 D = none) (hn : n ≤ 1000000) (hG : ∀ H, Same H0 H → G H)
    (hf : (((List.range n).filterMap f).map (·.1)).Nodup)
    (hs : ∀ i x H H' (N1 : V → V → Hp → Prop) (M : Hp → Prop), i < n → Same H0 H → Y i H x H' → (∀ p b v H4, f i = some p → Same H H4 → H4 b = some (.tup (p.1.map kV)) → R p.2 v H4 → N1 (.ref b) v H4) → (∀ H4, f i = none → Same H H4 → M H4) →
      g x (wipe σ vs) H' fun σ2 H2 => wipe σ2 vs = wipe σ vs ∧ tt σ2 H2 fun b H3 => if b = true then tk σ2 H3 fun y H4 => tv σ2 H4 fun z H5 => N1 y z H5 else M H3)
    (hd : ∀ H kvs, Same H0 H → H D = some (.dT kvs) → All2 (KvR R) H ((List.range n).filterMap f) kvs → Qd H) :
    ∃ W : Nat → Nat → Hp → Prop, (∃ m, W 0 m (upd H0 D (.dT []))) ∧ ∀ i m H, W i m H →
      (J.stop i H ∧ Qd H) ∨ (J.go i H ∧ ∃ Nx : Hp → Prop, (∀ H', Nx H' → ∃ m', m' < m ∧ W (i + 1) m' H') ∧
        ∀ x H', J.yld i H x H' → g x (wipe σ vs) H' fun σ2 H2 => wipe σ2 vs = wipe σ vs ∧ tt σ2 H2 fun b H3 => if b = true then tk σ2 H3 fun y H4 => tv σ2 H4 fun z H5 => PutT H5 D y z Nx else Nx H3) := by
  refine ⟨fun i m H => m = n - i ∧ i ≤ n ∧ Same H0 H ∧ ∃ kvs, H D = some (.dT kvs) ∧ All2 (KvR R) H ((List.range i).filterMap f) kvs, ⟨n, by simp, Nat.zero_le _, same_new h0, [], upd_same, True.intro⟩, ?_⟩
  rintro i m H ⟨rfl, hi, s0, kvs, eD, a⟩
  by_cases hlt : i < n
  · refine .inr ⟨w.goes i H hlt (hG H s0), fun H' => Same H0 H' ∧ ∃ kvs, H' D = some (.dT kvs) ∧ All2 (KvR R) H' ((List.range (i + 1)).filterMap f) kvs, fun H' p => ⟨n - (i + 1), by omega, rfl, hlt, p⟩, fun x H' y => ?_⟩
    refine hs i x H H' _ _ hlt s0 (w.yields i H x H' hlt (hG H s0) y) (fun p b v H4 hp s4 hb hv => ?_) fun H4 hp s4 => ?_
    · have a4 := kv_kt (R := R) kt (KeepT.of s4) a
      have hl := a4.length
      have h1 : ((List.range i).filterMap f).length ≤ (List.range i).length := List.length_filterMap_le _ _
      rw [List.length_range] at h1
      have eD4 := s4 _ _ eD
      have hnew : valV kvs p.1 = none := by
        refine valV_noneG fun hm => ?_
        have e1 : kvs.map (·.1) = ((List.range i).filterMap f).map (·.1) := by
          have : ∀ {l : List (List Key × β)} {kvs : List (List Key × V)}, All2 (KvR R) H l kvs → kvs.map (·.1) = l.map (·.1) := by
            intro l
            induction l with
            | nil => intro kvs h; rw [h.nil_inv]; rfl
            | cons x l ih =>
              intro kvs h
              obtain ⟨v, vs', rfl, h1, h2⟩ := h.cons_inv
              rw [List.map_cons, List.map_cons, ih h2, h1.1]
          exact this a
        rw [e1] at hm
        have hnd : (((List.range (i + 1)).filterMap f).map (·.1)).Nodup := by
          have e : (List.range (i + 1)) = (List.range n).take (i + 1) := by
            rw [List.take_range, Nat.min_eq_left (by omega)]
          rw [e]
          exact hf.sublist (((List.take_sublist _ _).filterMap f).map _)
        rw [List.range_succ, List.filterMap_append, List.map_append, List.nodup_append] at hnd
        exact hnd.2.2 _ hm p.1 (by simp [hp]) rfl
      refine ⟨kvs, p.1, b, rfl, hb, eD4, by rw [← hl, sizeLine_eq]; omega, Same.put (s0.trans s4) h0, _, upd_same, ?_⟩
      rw [putK_new _ hnew, List.range_succ, List.filterMap_append]
      simp only [List.filterMap_cons, hp, List.filterMap_nil]
      exact kv_kt (R := R) kt (KeepT.put eD4) (a4.snoc ⟨rfl, hv⟩)
    · rw [List.range_succ, List.filterMap_append]
      simp only [List.filterMap_cons, hp, List.filterMap_nil, List.append_nil]
      exact ⟨s0.trans s4, kvs, s4 _ _ eD, kv_kt (R := R) kt (KeepT.of s4) a⟩
  · have e : i = n := by omega
    subst e
    exact .inl ⟨w.stops H (hG H s0), hd H kvs s0 eD a⟩
end
theorem lock_same {H H' : Hp} {d : Addr} {u x : HO} (h : H d = some u) (s : Same (upd H d x) H') : Same H (upd H' d u) := fun b o e => by
  by_cases hb : b = d
  · subst hb
    rw [upd_same, ← e, h]
  · rw [upd_ne hb]
    exact s _ _ (by rw [upd_ne hb]; exact e)
theorem lock_kt {H H' : Hp} {d : Addr} {u x : HO} (h : ∀ xs, u ≠ .tup xs) (hd : H d = some u) (s : Same (upd H d x) H') : KeepT H H' := fun b xs e => by
  refine s _ _ ?_
  rw [upd_ne (fun z => ?_)]
  · exact e
  · rw [z, hd] at e
    exact h _ (Option.some.inj e)
theorem kv_nd : ∀ {β : Type} {l : List (List Key × β)} {q : List Key × β}, (l.map (·.1)).Nodup → q ∈ l → getA l q.1 = some q.2
  | _, [], q, _, h => by simp at h
  | _, p :: l, q, hn, h => by
    rw [List.map_cons, List.nodup_cons] at hn
    rcases List.mem_cons.mp h with e | h
    · subst e
      simp [getA, List.find?_cons]
    · have hne : ¬ p.1 = q.1 := fun z => hn.1 (by rw [z]; exact List.mem_map.mpr ⟨q, h, rfl⟩)
      have e : getA (p :: l) q.1 = getA l q.1 := by simp [getA, List.find?_cons, hne]
      rw [e]
      exact kv_nd hn.2 h
end VW

set_option maxHeartbeats 4000000
namespace VW
open PySem PySem.Spec PyProof.Rows L2
theorem kv_at {β : Type} {R : Rp β} {H : Hp} {l : List (List Key × β)} {kvs : List (List Key × V)} {k : List Key} {b : β} (h : All2 (KvR R) H l kvs) (e : getA l k = some b) : ∃ v, valV kvs k = some v ∧ R b v H := by
  rcases kv_get k h with ⟨e1, _⟩ | ⟨b', v, e1, e2, r⟩
  · rw [e] at e1
    cases e1
  · rw [e] at e1
    cases e1
    exact ⟨v, e2, r⟩
theorem kv_nth {β : Type} {R : Rp β} {H : Hp} {l : List (List Key × β)} {kvs : List (List Key × V)} {i : Nat} {k : List Key} {v : V} (h : All2 (KvR R) H l kvs) (e : kvs[i]? = some (k, v)) : ∃ q, l[i]? = some q ∧ q.1 = k ∧ R q.2 v H := by
  obtain ⟨q, h1, h2⟩ := h.getR e
  exact ⟨q, h1, h2.1, h2.2⟩
theorem found_map {wd : Wd} {n p w c : Nat} : (List.range (freeO wd n p w c).length).filterMap (fun i => if isOf n ((freeO wd n p w c).getD i ([], none)).1 = true then some ((freeO wd n p w c).getD i ([], none)) else none) = foundM wd n p w c := by
  have e := @range_filterMap_get _ _ ⟨(([], none) : List Key × Option (Nat × Nat))⟩ (freeO wd n p w c) (fun q => if isOf n q.1 = true then some q else none)
  refine e.trans ?_
  unfold foundM
  generalize freeO wd n p w c = l
  induction l with
  | nil => rfl
  | cons q l ih =>
    rw [List.filterMap_cons, List.filter_cons, ← ih]
    cases h : isOf n q.1 with
    | true => simp only [if_true]
    | false => simp only [Bool.false_eq_true, if_false]
theorem found_nodup (wd : Wd) (n p w c : Nat) : ((foundM wd n p w c).map (·.1)).Nodup := (flowM_nodup wd _).sublist (List.filter_sublist.map _)
section
variable {P : Program} {w : World} {K : PySem.W.Frag} {mg : Str → Option Value} {base : Heap}
theorem ok_found_origins (T : Txt K mg) : FnOk P w K mg base CX0 6 T.found_origins.f T.found_origins.fd ["loop", "number", "place", "width", "count"] (sp5 (LpOk T) rJ (fun _ _ => rNat) (fun _ _ _ => rWidth) (fun _ _ _ _ => rCount) (fun wd n p w c => rD (rOpt rNN) (foundM wd n p w c))) := by
  refine dok T.found_origins.F sc_found_origins (fun vs H Q E h => ?_) (fun cdv A outer s H vs Q E hr h => ?_)
  · exact sp5_len h
  · obtain ⟨wd, n, p, wi, c, x0, _, _, _, _, rfl, hlp, ⟨rfl, hn⟩, rfl, ⟨rfl, hw1, hw2⟩, ⟨rfl, hc⟩, q⟩ := h
    have ok := hlp.2
    have hfl := freeEv_le ok (p := p) hn hw1 hw2 hc
    refine ⟨_, (pss_cons (ps_set (i := 5) sc_found_origins.nd rfl (.inr rfl) (pe_ix (ix_tupK (K := K)) (pcall T.flow (ok_flow T) (hr.mono (by decide)) (pa_cons (pv 0) (pa_cons (pcall T.free_list (ok_free_list T) (hr.mono (by decide)) (pa_cons (pv 0) (pa_cons (pv 1) (pa_cons (pv 2) (pa_cons (pv 3) (pa_cons (pv 4) pa_nil)))))) pa_nil))) pe_int (fun _ _ => rfl)))
      (pss_one (ps_ret (pe_lock (pe_dcT (own := [("load", 6)]) (hu_of hr) rfl sc_found_origins.nd (pi_keys (pv 5)) (blkOk_by (own := [("load", 6)]) (N := N_found_origins) (sc := defScope s_found_origins) (by decide +kernel)) (fun _ _ _ _ _ => (pg_name (i := 6) sc_found_origins.nd rfl (.inl rfl))) (fun _ _ _ _ _ => (pts_one (pt_cmpR op_eq (pe_ix (ix_tupK (K := K)) (pv 6) pe_int (fun _ _ => rfl)) (pv 1) (nomark _)))) (fun _ _ _ _ _ => (pv 6)) (fun _ _ _ _ _ => (pe_dget (hu_of hr) (pv 5) (pv 6) (fun _ _ => rfl)))))))), ?_⟩
    refine ⟨_, rfl, _, rfl, _, rfl, _, rfl, _, rfl, _, rfl, wd, n, p, wi, c, _, _, _, _, _, rfl, hlp, ⟨rfl, hn⟩, rfl, ⟨rfl, hw1, hw2⟩, ⟨rfl, hc⟩, fun u H1 s1 hu => ?_⟩
    refine ⟨wd, freeEv wd n p wi c, _, _, rfl, Mono.mono s1 hlp, ⟨hu, freeEv_ok hn (by omega), by omega⟩, fun u2 H2 s2 hu2 => ?_⟩
    obtain ⟨ov, wv, ⟨tp, rfl, htp⟩, ⟨oa, kvs, rfl, hoa, hkvs⟩, _⟩ := hu2
    refine ⟨tp, _, 0, .ref oa, rfl, rfl, .inl (.inl htp), atI_nat (j := 0) rfl, ?_⟩
    have hkl := hkvs.length
    have hfo := (flow_len wd (freeEv wd n p wi c) ([], [])).1
    have hfo2 : (freeO wd n p wi c).length ≤ 36000 := by
      simp only [List.length_nil] at hfo
      unfold freeO flowM
      omega
    have e1 : (flowM wd (freeEv wd n p wi c)).1 = freeO wd n p wi c := rfl
    rw [e1] at hkvs hkl
    refine ⟨oa, _, hoa, True.intro, fun od => ?_⟩
    have hfz : (upd H2 oa (.frz od (.dT kvs))) oa = some (.frz od (.dT kvs)) := upd_same
    refine ⟨_, rfl, oa, od, rfl, .inr ⟨kvs, hfz, fun D nD => ?_⟩⟩
    have hD : D ≠ oa := fun z => by rw [z, hfz] at nD; cases nD
    refine dcT_opt (R := rOpt rNN) kt_oNN (fun i => if isOf n ((freeO wd n p wi c).getD i ([], none)).1 = true then some ((freeO wd n p wi c).getD i ([], none)) else none) walk_keysT nD (by omega) (fun H' s' => s' _ _ hfz) ?_ (fun i x H3 H4 N1 M hi s3 hx k1 k2 => ?_) fun H3 rs s3 eD a => ?_
    · rw [← hkl, found_map]
      exact found_nodup _ _ _ _ _
    · obtain ⟨rfl, k, v, qa, hk, rfl, hqa⟩ := hx
      obtain ⟨r, hr, rfl, hrv⟩ := kv_nth hkvs hk
      have er : (freeO wd n p wi c).getD i ([], none) = r := by rw [List.getD_eq_getElem?_getD, hr]; rfl
      rw [er] at k1 k2
      have hrm := List.mem_of_getElem? hr
      obtain ⟨j, i', k', hk3⟩ := flow_key3 (wd := wd) (l := freeEv wd n p wi c) hrm
      have hqa3 : H4 qa = some (.tup [.int (j : Nat), .int (i' : Nat), .int (k' : Nat)]) := by
        rw [hqa, hk3]
        rfl
      have eis : isOf n r.1 = decide (j = n) := by
        unfold isOf
        rw [hk3]
        simp [eq_comm]
        omega
      refine ⟨rfl, ?_⟩
      refine ⟨_, rfl, qa, _, 0, .int (j : Nat), rfl, rfl, .inl (.inl hqa3), atI_nat (j := 0) rfl, _, rfl, rfl, _, rfl, ?_⟩
      by_cases hj : j = n
      · refine iteY (by rw [hj]) ?_
        have et : isOf n r.1 = true := by rw [eis]; exact decide_eq_true hj
        obtain ⟨v', hv1, hv2⟩ := kv_at hkvs (kv_nd (flowM_nodup wd _) hrm)
        exact ⟨_, rfl, _, rfl, _, rfl, oa, v', rfl, .inr ⟨kvs, r.1, qa, .inr ⟨od, s3 _ _ hfz⟩, rfl, hqa, hv1.symm⟩, k1 r qa v' _ (if_pos et) (Same.refl _) hqa (kt_oNN (lock_kt (u := .dT kvs) (fun _ z => by cases z) hoa s3) hv2)⟩
      · refine iteN (fun z => hj (vint_inj z)) ?_
        have et : ¬ isOf n r.1 = true := by rw [eis, decide_eq_false hj]; decide
        exact k2 _ (if_neg et) (Same.refl _)
    · rw [← hkl, found_map] at a
      refine ⟨s3 _ _ hfz, q _ _ ((s1.trans s2).trans (lock_same hoa s3)) ⟨D, rs, rfl, ?_, kv_kt (R := rOpt rNN) kt_oNN (fun b xs e => ?_) a⟩⟩
      · rw [upd_ne hD]
        exact eD
      · have hb : b ≠ oa := fun z => by
          rw [z, s3 _ _ hfz] at e
          cases e
        rw [upd_ne hb]
        exact e
end
end VW

set_option maxHeartbeats 4000000
namespace VW
open PySem PySem.Spec PyProof.Rows L2
theorem loadsEv_mem {wd : Wd} {j i : Nat} {e : Ev} : e ∈ loadsEv wd j i ↔ e.w = "load" ∧ e.j = j ∧ e.i = i ∧ e.k < (deedAt wd j).loads.length := by
  constructor
  · intro h
    obtain ⟨k, hk, rfl⟩ := List.mem_map.mp h
    exact ⟨rfl, rfl, rfl, List.mem_range.mp hk⟩
  · rintro ⟨h1, h2, h3, h4⟩
    refine List.mem_map.mpr ⟨e.k, List.mem_range.mpr h4, ?_⟩
    obtain ⟨w, j', i', k⟩ := e
    cases h1
    cases h2
    cases h3
    rfl
theorem endEv_w {wd : Wd} {j i : Nat} : ¬ (endEv wd j i).w = "load" := by
  unfold endEv
  show ¬ (if (deedAt wd j).goal = none then ("add" : Str) else "store") = "load"
  split <;> decide +kernel
/-- a load of the free list is one of the plain list -/
theorem free_load {wd : Wd} {n p w c : Nat} (hn : n < wd.deeds.length) {e : Ev} (he : e ∈ freeEv wd n p w c) (hl : e.w = "load") : e.j < wd.deeds.length ∧ e.i < c ∧ e.k < (deedAt wd e.j).loads.length := by
  obtain ⟨b, hb, he⟩ := List.mem_flatMap.mp he
  obtain ⟨o, ho, he⟩ := List.mem_flatMap.mp he
  rcases List.mem_append.mp he with he | he
  · obtain ⟨s, hs, he⟩ := List.mem_flatMap.mp he
    obtain ⟨a, ha, he⟩ := List.mem_flatMap.mp he
    obtain ⟨h1, h2, h3, h4⟩ := loadsEv_mem.mp he
    have h5 := lanes_lt a ha
    rw [← h2] at h4
    exact ⟨by rw [h2]; exact loadedS_mem hn (List.mem_range.mp ho) s hs, by omega, h4⟩
  · obtain ⟨a, ha, rfl⟩ := List.mem_map.mp he
    exact absurd hl endEv_w
theorem plain_load {wd : Wd} {c : Nat} {e : Ev} (h1 : e.w = "load") (h2 : e.j < wd.deeds.length) (h3 : e.i < c) (h4 : e.k < (deedAt wd e.j).loads.length) : e ∈ plainEv wd c :=
  List.mem_flatMap.mpr ⟨e.i, List.mem_range.mpr h3, List.mem_flatMap.mpr ⟨e.j, List.mem_range.mpr h2, List.mem_append.mpr (.inl (loadsEv_mem.mpr ⟨h1, rfl, rfl, h4⟩))⟩⟩
theorem kv_has {β : Type} {l : List (List Key × β)} {k : List Key} (h : k ∈ l.map (·.1)) : ∃ b, getA l k = some b := by
  obtain ⟨q, h1, h2⟩ := List.mem_map.mp h
  cases e : getA l k with
  | some b => exact ⟨b, rfl⟩
  | none =>
    unfold getA at e
    rw [Option.map_eq_none_iff, List.find?_eq_none] at e
    exact absurd (decide_eq_true h2) (e q h1)
theorem free_has {wd : Wd} {n p w c : Nat} (hn : n < wd.deeds.length) {q : List Key × Option (Nat × Nat)} (h : q ∈ freeO wd n p w c) : ∃ o, getA (plainO wd c) q.1 = some o := by
  obtain ⟨e, h1, h2, h3⟩ := (flowM_keys wd (freeEv wd n p w c) q.1).mp (List.mem_map.mpr ⟨q, h, rfl⟩)
  obtain ⟨h4, h5, h6⟩ := free_load hn h1 h2
  exact kv_has ((flowM_keys wd (plainEv wd c) q.1).mpr ⟨e, plain_load h2 h4 h5 h6, h2, h3⟩)
theorem topM_le {wd : Wd} (o : WOk wd) : topM wd ≤ 5 ∧ 2 ≤ topM wd := by
  have := reach_bd o
  unfold topM
  omega
theorem countM_le {wd : Wd} (o : WOk wd) {w : Nat} : countM wd w ≤ 2 * w + 4 := by
  have := reach_bd o
  unfold countM
  omega
theorem all_range {f : Nat → Bool} {n : Nat} (h : ∀ i, i < n → f i = true) : (List.range n).all f = true := List.all_eq_true.mpr fun i hi => h i (List.mem_range.mp hi)
theorem all_range_not {f : Nat → Bool} {n i : Nat} (hi : i < n) (h : f i = false) : (List.range n).all f = false := by
  rw [List.all_eq_false]
  exact ⟨i, List.mem_range.mpr hi, by rw [h]; decide⟩
section
variable {P : Program} {w : World} {K : PySem.W.Frag} {mg : Str → Option Value} {base : Heap}
theorem ok_is_right_place (T : Txt K mg) : FnOk P w K mg base CX0 8 T.is_right_place.f T.is_right_place.fd ["loop", "number", "place"] (sp3 (LpOk T) rJ (fun _ _ => rNat) (fun wd n p => rBl (rightP wd n p))) := by
  refine dok T.is_right_place.F sc_is_right_place (fun vs H Q E h => ?_) (fun cdv A outer s H vs Q E hr h => ?_)
  · exact sp3_len h
  · obtain ⟨wd, n, p, x0, _, _, rfl, hlp, ⟨rfl, hn⟩, rfl, q⟩ := h
    have ok := hlp.2
    have htop := topM_le ok
    refine ⟨_, (pss_cons (ps_for PassesOwn.never rfl (pi_range2 (by rfl) T.range_ (pa_cons pe_int (pa_cons (pe_op op_add (pcall T.greatest_width (ok_greatest_width T) (hr.mono (by decide)) (pa_cons (pv 0) pa_nil)) pe_int) pa_nil))) (pg_name (i := 3) sc_is_right_place.nd rfl (.inl rfl))
      (pss_one (ps_for PassesOwn.never rfl (pi_range1 (by rfl) T.range_ (pa_cons (pe_op op_add (pcall T.greatest_count (ok_greatest_count T) (hr.mono (by decide)) (pa_cons (pv 0) (pa_cons (pv 3) pa_nil))) pe_int) pa_nil)) (pg_name (i := 4) sc_is_right_place.nd rfl (.inl rfl))
      (pss_cons (ps_set (i := 5) sc_is_right_place.nd rfl (.inr rfl) (pe_ix (ix_tupK (K := K)) (pcall T.flow (ok_flow T) (hr.mono (by decide)) (pa_cons (pv 0) (pa_cons (pcall T.plain_list (ok_plain_list T) (hr.mono (by decide)) (pa_cons (pv 0) (pa_cons (pv 4) pa_nil))) pa_nil))) pe_int (fun _ _ => rfl)))
      (pss_cons (ps_set (i := 6) sc_is_right_place.nd rfl (.inr rfl) (pcall T.found_origins (ok_found_origins T) (hr.mono (by decide)) (pa_cons (pv 0) (pa_cons (pv 1) (pa_cons (pv 2) (pa_cons (pv 3) (pa_cons (pv 4) pa_nil)))))))
      (pss_one (ps_if (pt_not (pt_val (pe_callB (cr_allK (K := K) rfl) (by rfl) T.all_ (by decide +kernel) (pa_cons (pe_lock (pe_lc (own := [("load", 7)]) rfl sc_is_right_place.nd (pi_keys (pv 6)) (blkOk_by (own := [("load", 7)]) (N := N_is_right_place) (sc := defScope s_is_right_place) (by decide +kernel)) (fun _ _ _ _ _ => (pg_name (i := 7) sc_is_right_place.nd rfl (.inl rfl))) (fun _ _ _ _ _ => pts_nil) (fun _ _ _ _ _ => (pe_cmpR (op_eqDK (K := K) hr.units) (pe_dget (hu_of hr) (pv 5) (pv 7) (fun _ _ => rfl)) (pe_dget (hu_of hr) (pv 6) (pv 7) (fun _ _ => rfl)) (nomark _))))) pa_nil)))) (pss_one (ps_ret pe_bl)) pss_nil)))))))
      (pss_one (ps_ret pe_bl))), ?_⟩
    refine ⟨_, rfl, wd, _, rfl, hlp, fun u H1 s1 hu => ?_⟩
    cases hu
    refine ⟨(topM wd : Nat), 1, rfl, rfl, 1, _, rfl, ⟨by omega, by omega, by omega, by omega⟩, for_it walk_range (fun i σ' H' => ∃ y3 y4 y5 y6, σ' = [some x0, some (.int (n : Nat)), some (.int (p : Nat)), y3, y4, y5, y6, none] ∧ Same H H' ∧ ∀ a, a < i → rightW wd n p (a + 1) = true)
      ⟨none, none, none, none, rfl, s1, fun a ha => absurd ha (Nat.not_lt_zero a)⟩ (fun _ _ _ _ _ => True.intro) ?_ ?_⟩
    · rintro i y σ' H2 H3 hi ⟨y3, y4, y5, y6, rfl, s2, hall⟩ ⟨rfl, rfl⟩
      have hi5 : i < topM wd := by omega
      have hcm := countM_le ok (w := i + 1)
      have e1 : (1 : Int) + ((i : Nat) : Int) = ((i + 1 : Nat) : Int) := by omega
      simp only [e1]
      refine ⟨_, rfl, _, rfl, wd, i + 1, _, _, rfl, Mono.mono s2 hlp, ⟨rfl, by omega⟩, fun u H4 s4 hu => ?_⟩
      cases hu
      refine ⟨(countM wd (i + 1) : Nat), 1, rfl, rfl, _, rfl, by omega, by omega, for_it walk_r0 (fun k σ' H' => ∃ y4 y5 y6, σ' = [some x0, some (.int (n : Nat)), some (.int (p : Nat)), some (.int ((i + 1 : Nat) : Int)), y4, y5, y6, none] ∧ Same H H' ∧ ∀ b, b < k → rightAt wd n p (i + 1) b = true)
        ⟨_, _, _, rfl, s2.trans s4, fun a ha => absurd ha (Nat.not_lt_zero a)⟩ (fun _ _ _ _ _ => True.intro) ?_ ?_⟩
      · rintro c y σ' H5 H6 hc ⟨z4, z5, z6, rfl, s5, hall2⟩ ⟨rfl, rfl⟩
        have hc2 : c < countM wd (i + 1) + 1 := by omega
        have hpl := plainEv_le ok c
        refine ⟨_, rfl, _, rfl, _, rfl, wd, c, _, _, rfl, Mono.mono s5 hlp, ⟨rfl, by omega⟩, fun u H7 s7 hu => ?_⟩
        refine ⟨wd, plainEv wd c, _, _, rfl, Mono.mono (s5.trans s7) hlp, ⟨hu, plainEv_ok (by omega), by omega⟩, fun u2 H8 s8 hu2 => ?_⟩
        obtain ⟨ov, wv, ⟨tp, rfl, htp⟩, ⟨pa, pk, rfl, hpa, hpk⟩, _⟩ := hu2
        have e2 : (flowM wd (plainEv wd c)).1 = plainO wd c := rfl
        rw [e2] at hpk
        refine ⟨tp, _, 0, .ref pa, rfl, rfl, .inl (.inl htp), atI_nat (j := 0) rfl, ?_⟩
        have s58 := (s5.trans s7).trans s8
        refine ⟨_, rfl, _, rfl, _, rfl, _, rfl, _, rfl, wd, n, p, i + 1, c, _, _, _, _, _, rfl, Mono.mono s58 hlp, ⟨rfl, hn⟩, rfl, ⟨rfl, by omega, by omega⟩, ⟨rfl, by omega⟩, fun u3 H9 s9 hu3 => ?_⟩
        obtain ⟨fa, fk, rfl, hfa, hfk⟩ := hu3
        have hpa9 := s9 _ _ hpa
        have hpk9 := kv_kt (R := rOpt rNN) kt_oNN (KeepT.of s9) hpk
        have hkl := hfk.length
        have hffl : (foundM wd n p (i + 1) c).length ≤ 36000 := by
          have h1 : (foundM wd n p (i + 1) c).length ≤ (freeO wd n p (i + 1) c).length := List.length_filter_le _ _
          have h2 := (flow_len wd (freeEv wd n p (i + 1) c) ([], [])).1
          have h3 := freeEv_le ok (p := p) (w := i + 1) (c := c) hn (by omega) (by omega) (by omega)
          simp only [List.length_nil] at h2
          have h4 : (freeO wd n p (i + 1) c).length ≤ 36000 := by
            unfold freeO flowM
            omega
          omega
        refine ⟨fa, _, hfa, True.intro, fun od => ?_⟩
        have hfz : (upd H9 fa (.frz od (.dT fk))) fa = some (.frz od (.dT fk)) := upd_same
        refine ⟨_, rfl, fa, od, rfl, .inr ⟨fk, hfz, fun D nD => ?_⟩⟩
        have hD : D ≠ fa := fun z => by rw [z, hfz] at nD; cases nD
        refine lc_map (S := rBl) (fun m => decide (getA (plainO wd c) ((foundM wd n p (i + 1) c).getD m ([], none)).1 = some ((foundM wd n p (i + 1) c).getD m ([], none)).2)) walk_keysT nD (by omega) (fun H' s' => s' _ _ hfz) (fun m x H10 H11 N hm s10 hx kk => ?_) fun H10 m => ?_
        · obtain ⟨rfl, k, v, qa, hk, rfl, hqa⟩ := hx
          obtain ⟨r, hr, rfl, hrv⟩ := kv_nth hfk hk
          have hrm := List.mem_of_getElem? hr
          have er : (foundM wd n p (i + 1) c).getD m ([], none) = r := by rw [List.getD_eq_getElem?_getD, hr]; rfl
          obtain ⟨o1, ho1⟩ := free_has (p := p) (w := i + 1) (c := c) hn (List.mem_filter.mp hrm).1
          obtain ⟨v1, hv1, hw1⟩ := kv_at hpk9 ho1
          obtain ⟨v2, hv2, hw2⟩ := kv_at hfk (kv_nd (found_nodup wd n p (i + 1) c) hrm)
          have kt10 : KeepT H9 H11 := lock_kt (u := .dT fk) (fun _ z => by cases z) hfa s10
          have hpz : ∃ u, Rd H11 pa (.dT u) ∧ u = pk := by
            by_cases hpf : pa = fa
            · subst hpf
              rw [hpa9] at hfa
              injection hfa with hfa
              injection hfa with hfa
              exact ⟨fk, .inr ⟨od, s10 _ _ hfz⟩, hfa.symm⟩
            · refine ⟨pk, .inl (s10 _ _ ?_), rfl⟩
              rw [upd_ne hpf]
              exact hpa9
          obtain ⟨_, hpz, rfl⟩ := hpz
          refine ⟨rfl, _, rfl, _, rfl, pa, v1, rfl, .inr ⟨_, r.1, qa, hpz, rfl, hqa, hv1.symm⟩, _, rfl, _, rfl, fa, v2, rfl, .inr ⟨fk, r.1, qa, .inr ⟨od, s10 _ _ hfz⟩, rfl, hqa, hv2.symm⟩,
            _, _, dp_org (kt_oNN kt10 hw1), dp_org (kt_oNN kt10 hw2), dOrg_shaped _, dOrg_shaped _, kk _ _ (Same.refl _) ?_⟩
          rw [er, ho1, dOrg_eqv]
          show V.bl (decide _) = V.bl (decide _)
          congr 1
          simp
        · have e3 : (List.range fk.length).map (fun m => decide (getA (plainO wd c) ((foundM wd n p (i + 1) c).getD m ([], none)).1 = some ((foundM wd n p (i + 1) c).getD m ([], none)).2)) = (foundM wd n p (i + 1) c).map fun q => decide (getA (plainO wd c) q.1 = some q.2) := by
            rw [← hkl]
            exact @range_map_get _ _ ⟨([], none)⟩ (foundM wd n p (i + 1) c) (fun q => decide (getA (plainO wd c) q.1 = some q.2))
          rw [e3] at m
          obtain ⟨s10, acc, eD, aD⟩ := m
          have e4 := all2_bl aD
          subst e4
          have sF := (s58.trans s9).trans (lock_same hfa s10)
          have eD2 : (upd H10 fa (.dT fk)) D = some (.lst (((foundM wd n p (i + 1) c).map fun q => decide (getA (plainO wd c) q.1 = some q.2)).map V.bl)) := by
            rw [upd_ne hD]
            exact eD
          refine ⟨s10 _ _ hfz, D, _, rfl, .inl (.inl eD2), _, rfl, ?_⟩
          have e5 : List.all ((foundM wd n p (i + 1) c).map fun q => decide (getA (plainO wd c) q.1 = some q.2)) id = rightAt wd n p (i + 1) c := by
            unfold rightAt
            rw [List.all_map]
            rfl
          rw [e5]
          cases hra : rightAt wd n p (i + 1) c with
          | true =>
            refine iteF ⟨_, _, _, rfl, sF, fun b hb => ?_⟩
            by_cases hbc : b = c
            · rw [hbc]
              exact hra
            · exact hall2 b (by omega)
          | false =>
            refine iteT (q _ _ sF ?_)
            show V.bl false = V.bl (rightP wd n p)
            have e6 : rightW wd n p (i + 1) = false := all_range_not hc2 hra
            have e7 : rightP wd n p = false := all_range_not (f := fun a => rightW wd n p (a + 1)) hi5 e6
            rw [e7]
      · rintro σ' H5 ⟨z4, z5, z6, rfl, s5, hall2⟩
        refine ⟨_, _, _, _, rfl, s5, fun a ha => ?_⟩
        by_cases hai : a = i
        · rw [hai]
          exact all_range fun b hb => hall2 b (by omega)
        · exact hall a (by omega)
    · rintro σ' H2 ⟨y3, y4, y5, y6, rfl, s2, hall⟩
      refine q _ _ s2 ?_
      show V.bl true = V.bl (rightP wd n p)
      have e7 : rightP wd n p = true := all_range fun a ha => hall a (by omega)
      rw [e7]
end
end VW

set_option maxHeartbeats 4000000
namespace VW
open PySem PySem.Spec PyProof.Rows L2
theorem pairsM_ok {wd : Wd} {q : Nat × Nat} (h : q ∈ pairsM wd) : q.1 < wd.deeds.length := by
  obtain ⟨n, hn, h⟩ := List.mem_flatMap.mp h
  obtain ⟨p, hp, rfl⟩ := List.mem_map.mp h
  exact List.mem_range.mp hn
theorem pairsTo_le {n : Nat} (h : n ≤ 3) : ((List.range n).flatMap fun n => (List.range (n + 1)).map fun p => (n, p)).length ≤ 9 := by
  have h1 := flatMap_le (f := fun n : Nat => (List.range (n + 1)).map fun p => (n, p)) (B := 3) (l := List.range n) fun x hx => by
    have := List.mem_range.mp hx
    rw [List.length_map, List.length_range]
    omega
  rw [List.length_range] at h1
  omega
theorem bad_map {wd : Wd} : (List.range (pairsM wd).length).filterMap (fun i => if rightP wd ((pairsM wd).getD i (0, 0)).1 ((pairsM wd).getD i (0, 0)).2 = true then none else some ((pairsM wd).getD i (0, 0))) = badM wd := by
  have e := @range_filterMap_get _ _ ⟨((0, 0) : Nat × Nat)⟩ (pairsM wd) (fun q => if rightP wd q.1 q.2 = true then none else some q)
  refine e.trans ?_
  unfold badM
  generalize pairsM wd = l
  induction l with
  | nil => rfl
  | cons q l ih =>
    rw [List.filterMap_cons, List.filter_cons, ← ih]
    cases h : rightP wd q.1 q.2 with
    | true => simp
    | false => simp
section
variable {P : Program} {w : World} {K : PySem.W.Frag} {mg : Str → Option Value} {base : Heap}
theorem ok_bad_places (T : Txt K mg) : FnOk P w K mg base CX0 9 T.bad_places.f T.bad_places.fd ["loop"] (sp1 (LpOk T) (fun wd => rL rNN (badM wd))) := by
  refine dok T.bad_places.F sc_bad_places (fun vs H Q E h => ?_) (fun cdv A outer s H vs Q E hr h => ?_)
  · exact sp1_len h
  · obtain ⟨wd, x0, rfl, hlp, q⟩ := h
    have ok := hlp.2
    have hd2 := ok.d2
    obtain ⟨⟨al, dl, _, _, _, rfl, hal, _⟩, _⟩ := id hlp
    refine ⟨_, (pss_cons (ps_setLc2 (i := 1) (own := [("number", 2), ("place", 3)]) (vs1 := [3]) rfl sc_bad_places.nd rfl rfl (sw_true rfl rfl rfl (by decide +kernel)) (pi_range1 (by rfl) T.range_ (pa_cons (pe_callB (T.lenO (ok_Loop_len T) (hr.mono (by decide))) (by rfl) T.len_ (by decide +kernel) (pa_cons (pv 0) pa_nil)) pa_nil)) (blkOk_by (own := [("number", 2), ("place", 3)]) (N := N_bad_places) (sc := defScope s_bad_places) (by decide +kernel)) (by decide) (fun _ _ _ _ _ => (pg_name (i := 2) sc_bad_places.nd rfl (.inl rfl))) (fun _ _ _ _ _ => pts_nil) (fun _ _ _ _ _ => (pi_range1 (by rfl) T.range_ (pa_cons (pe_op op_add (pv 2) pe_int) pa_nil))) (fun _ _ _ _ _ => (pg_name (i := 3) sc_bad_places.nd rfl (.inl rfl))) (fun _ _ _ _ _ => pts_nil) (fun _ _ _ _ _ => (pe_tup (pa_cons (pv 2) (pa_cons (pv 3) pa_nil)))))
      (pss_one (ps_ret (pe_lc (own := [("number", 2), ("place", 3)]) rfl sc_bad_places.nd (pi_listK (K := K) (pv 1)) (blkOk_by (own := [("number", 2), ("place", 3)]) (N := N_bad_places) (sc := defScope s_bad_places) (by decide +kernel)) (fun _ _ _ _ _ => (pg_tupK (K := K) 2 rfl (pgs_cons (pg_name (i := 2) sc_bad_places.nd rfl (.inl rfl)) (pgs_cons (pg_name (i := 3) sc_bad_places.nd rfl (.inl rfl)) pgs_nil)))) (fun _ _ _ _ _ => (pts_one (pt_not (pt_val (pcall T.is_right_place (ok_is_right_place T) (hr.mono (by decide)) (pa_cons (pv 0) (pa_cons (pv 2) (pa_cons (pv 3) pa_nil)))))))) (fun _ _ _ _ _ => (pe_tup (pa_cons (pv 2) (pa_cons (pv 3) pa_nil)))))))), ?_⟩
    refine ⟨_, rfl, al, dl, _, rfl, hal, wd, _, rfl, hlp, fun u H1 s1 hu => ⟨wd.deeds.length, hu, by omega, ?_⟩⟩
    cases hu
    refine ⟨(wd.deeds.length : Nat), rfl, by omega, by omega, fun D nD => ?_⟩
    refine lc2_flat (S := rNN) (fun n => (List.range (n + 1)).map fun p => (n, p)) walk_r0 nD (fun i hi => ?_) (fun _ _ => True.intro) (fun i x H2 H3 R1 hi s2 hD hx hR => ?_) fun H2 m2 => ?_
    · have := pairsTo_le (n := i) (by omega)
      omega
    · obtain ⟨rfl, rfl⟩ := hx
      refine ⟨rfl, _, rfl, (i : Nat), 1, rfl, rfl, _, rfl, by omega, by omega, ?_⟩
      refine hR _ _ _ _ _ _ (Same.refl _) walk_r0 (by simp) (fun _ _ => True.intro) fun j y H5 H6 N hj sb s0 hy kk => ?_
      obtain ⟨rfl, rfl⟩ := hy
      refine ⟨rfl, _, rfl, _, rfl, (by show 2 ≤ sizeLine; decide), fun t nt => kk (i, j) _ _ ?_ (same_new nt) ⟨t, rfl, upd_same⟩⟩
      rw [List.getElem?_map, List.getElem?_range (by omega)]
      rfl
    · have e1 : (List.range ((wd.deeds.length : Nat) : Int).toNat).flatMap (fun n => (List.range (n + 1)).map fun p => (n, p)) = pairsM wd := rfl
      rw [e1] at m2
      obtain ⟨s2, acc, eD, aD⟩ := m2
      have hpl := aD.length
      have hp9 : (pairsM wd).length ≤ 9 := pairsTo_le hd2
      refine ⟨_, rfl, D, rfl, ⟨_, .inl (.inl eD)⟩, fun D2 nD2 => ?_⟩
      refine lc_opt (S := rNN) (fun i => if rightP wd ((pairsM wd).getD i (0, 0)).1 ((pairsM wd).getD i (0, 0)).2 = true then none else some ((pairsM wd).getD i (0, 0))) (walk_list (K := K) (a := D) (xs := acc)) nD2 (by omega) (fun H' s' => .inl (.inl (s' _ _ eD))) (fun i x H3 H4 N M hi s3 hx k1 k2 => ?_) fun H3 m3 => ?_
      · obtain ⟨rfl, hx⟩ := hx
        obtain ⟨pr, hpr, t, rfl, ht⟩ := aD.getR hx
        have epr : (pairsM wd).getD i (0, 0) = pr := by rw [List.getD_eq_getElem?_getD, hpr]; rfl
        have hpo := pairsM_ok (List.mem_of_getElem? hpr)
        rw [epr] at k1 k2
        refine ⟨t, _, rfl, .inl (.inl (s3 _ _ ht)), rfl, _, _, rfl, _, _, rfl, rfl, rfl, ?_⟩
        refine ⟨_, rfl, _, rfl, _, rfl, wd, pr.1, pr.2, _, _, _, rfl, Mono.mono ((s1.trans s2).trans s3) hlp, ⟨rfl, hpo⟩, rfl, fun u H5 s5 hu => ?_⟩
        cases hu
        cases hrp : rightP wd pr.1 pr.2 with
        | true =>
          exact ⟨_, rfl, iteF (k2 _ (if_pos hrp) s5)⟩
        | false =>
          refine ⟨_, rfl, iteT ⟨_, rfl, _, rfl, (by show 2 ≤ sizeLine; decide), fun t2 nt2 => k1 pr _ _ (if_neg (by rw [hrp]; decide)) (Same.new s5 nt2) ⟨t2, rfl, upd_same⟩⟩⟩
      · rw [← hpl, bad_map] at m3
        exact q _ _ ((s1.trans s2).trans m3.1) m3.done
end
end VW

set_option maxHeartbeats 4000000
namespace VW
open PySem PySem.Spec PyProof.Rows L2
/-! ### the heap but for one address -/
def Off (a : Addr) (H : Hp) : Hp := fun b => if b = a then none else H b
section
variable {a b p q : Addr} {H H' : Hp} {o : HO}
theorem off_ne (h : b ≠ a) : Off a H b = H b := if_neg h
theorem off_at : Off a H a = none := if_pos rfl
theorem off_some (h : Off a H b = some o) : b ≠ a ∧ H b = some o := by
  by_cases e : b = a
  · subst e
    rw [off_at] at h
    cases h
  · rw [off_ne e] at h
    exact ⟨e, h⟩
theorem off_le : Same (Off a H) H := fun b o e => (off_some e).2
theorem off_mono (s : Same H H') : Same (Off a H) (Off a H') := fun b o e => by
  obtain ⟨h1, h2⟩ := off_some e
  rw [off_ne h1]
  exact s _ _ h2
theorem off_put : Off a (upd H a o) = Off a H := funext fun b => by
  by_cases e : b = a
  · subst e
    rw [off_at, off_at]
  · rw [off_ne e, off_ne e, upd_ne e]
theorem off_upd (h : p ≠ a) : Off a (upd H p o) = upd (Off a H) p o := funext fun b => by
  by_cases e : b = a
  · subst e
    rw [off_at, upd_ne (Ne.symm h), off_at]
  · rw [off_ne e]
    by_cases e2 : b = p
    · subst e2
      rw [upd_same, upd_same]
    · rw [upd_ne e2, upd_ne e2, off_ne e]
theorem off_none (h : H p = none) : Off a H p = none := by
  by_cases e : p = a
  · rw [e]
    exact off_at
  · rw [off_ne e]
    exact h
end
/-! ### the source -/
def SrcV (a ca : Addr) (zs : List Int) (H : Hp) : Prop := (∃ (i : Nat) (b d : Int), H a = some (.lst [.ref ca, .int (i : Nat), .int b, .int d])) ∧ H ca = some (.lst (zs.map V.int)) ∧ ca ≠ a
section
variable {a ca p : Addr} {zs : List Int} {H H' : Hp} {o : HO}
theorem SrcV.ne (s : SrcV a ca zs H) (h : H p = none) : p ≠ a := fun z => by
  obtain ⟨⟨_, _, _, e⟩, _⟩ := s
  rw [z, e] at h
  cases h
theorem SrcV.grow (s : SrcV a ca zs H) (h : Same H H') : SrcV a ca zs H' := let ⟨⟨i, b, d, e⟩, c, n⟩ := s; ⟨⟨i, b, d, h _ _ e⟩, h _ _ c, n⟩
theorem SrcV.new (s : SrcV a ca zs H) (h : H p = none) : SrcV a ca zs (upd H p o) := s.grow (same_new h)
theorem SrcV.put {i : Nat} {b d : Int} (s : SrcV a ca zs H) : SrcV a ca zs (upd H a (.lst [.ref ca, .int (i : Nat), .int b, .int d])) :=
  ⟨⟨i, b, d, upd_same⟩, by rw [upd_ne s.2.2]; exact s.2.1, s.2.2⟩
/-- a change of another tracked list -/
theorem SrcV.set {l : Addr} (s : SrcV a ca zs H) (h1 : l ≠ a) (h2 : l ≠ ca) : SrcV a ca zs (upd H l o) :=
  let ⟨⟨i, b, d, e⟩, c, n⟩ := s; ⟨⟨i, b, d, by rw [upd_ne (Ne.symm h1)]; exact e⟩, by rw [upd_ne (Ne.symm h2)]; exact c, n⟩
end
def spDraw : Sp := fun vs H Q _ => ∃ (a ca : Addr) (zs : List Int) (m : Nat), vs = [.ref a, .int (m : Nat)] ∧ 0 < m ∧ m ≤ 1000 ∧ SrcV a ca zs H ∧ ∀ (k : Nat) H', k < m → SrcV a ca zs H' → Off a H' = Off a H → Q (.int (k : Nat)) H'
section
variable {P : Program} {w : World} {K : PySem.W.Frag} {mg : Str → Option Value} {base : Heap}
theorem fmod_nat {b : Int} {m : Nat} (h : 0 < m) : ∃ k : Nat, k < m ∧ b.fmod (m : Nat) = (k : Int) := by
  have h1 : 0 ≤ b.fmod (m : Nat) := Int.fmod_nonneg_of_pos _ (by omega)
  have h2 : b.fmod (m : Nat) < (m : Nat) := Int.fmod_lt_of_pos _ (by omega)
  exact ⟨(b.fmod (m : Nat)).toNat, by omega, by omega⟩
theorem ok__law_draw (T : Txt K mg) : FnOk P w K mg base CX0 1 T._law_draw.f T._law_draw.fd ["source", "limit"] (spDraw) := by
  refine dok T._law_draw.F sc__law_draw (fun vs H Q E h => ?_) (fun cdv A outer s H vs Q E hr h => ?_)
  · obtain ⟨_, _, _, _, rfl, _⟩ := h
    rfl
  · obtain ⟨a, ca, zs, m, rfl, m0, m1, s, q⟩ := h
    have hmz : ((m : Nat) : Int) ≠ 0 := by omega
    refine ⟨_, (pss_cutW (ps_if (PW.pt (pw_and (pt_cmpR op_lt (pe_ix (ix_listK (K := K)) (pv 0) pe_int (fun _ _ => rfl)) (pe_op op_pow pe_int pe_int) (nomark _)) (pw_and1 (pt_cmpR op_lt (pe_ix (ix_listK (K := K)) (pv 0) pe_int (fun _ _ => rfl)) (pe_callB (call_lenK (K := K)) (by rfl) T.len_ (by decide +kernel) (pa_cons (pe_ix (ix_listK (K := K)) (pv 0) pe_int (fun _ _ => rfl)) pa_nil)) (nomark _))))) (pss_cons (ps_set (i := 2) sc__law_draw.nd rfl (.inl rfl) (pe_callTy call_int1 (by rfl) T.int_ (by decide +kernel) (pa_cons (pe_ix (ix_listK (K := K)) (pe_ix (ix_listK (K := K)) (pv 0) pe_int (fun _ _ => rfl)) (pe_ix (ix_listK (K := K)) (pv 0) pe_int (fun _ _ => rfl)) (fun _ _ => rfl)) pa_nil)))
      (pss_cons (ps_asg (pe_op op_add (pe_ix (ix_listK (K := K)) (pv 0) pe_int (fun _ _ => rfl)) pe_int) (pg_sub (pv 0) pe_int set_list))
      (pss_cons (ps_asg pe_int (pg_sub (pv 0) pe_int set_list))
      (pss_cutW (ps_if (pt_cmpR op_ge (pv 2) (pe_op op_pow pe_int pe_int) (nomark _)) (pss_one (ps_asg (pv 2) (pg_sub (pv 0) pe_int set_list))) pss_nil)
      (pss_one (ps_asg (pe_op op_modN (pe_callTy call_int1 (by rfl) T.int_ (by decide +kernel) (pa_cons (pe_op op_add (pe_op op_add (pe_op op_mul (pe_ix (ix_listK (K := K)) (pv 0) pe_int (fun _ _ => rfl)) pe_int) (pe_op op_modN (pv 2) pe_int)) pe_int) pa_nil)) pe_int) (pg_sub (pv 0) pe_int set_list))))))) pss_nil)
      (pss_cons (ps_if (pt_cmpR op_ge (pe_ix (ix_listK (K := K)) (pv 0) pe_int (fun _ _ => rfl)) (pe_op op_pow pe_int pe_int) (nomark _)) (pss_cons (ps_set (i := 3) sc__law_draw.nd rfl (.inl rfl) (pe_op op_modN (pe_callTy call_int1 (by rfl) T.int_ (by decide +kernel) (pa_cons (pe_ix (ix_listK (K := K)) (pv 0) pe_int (fun _ _ => rfl)) pa_nil)) (pv 1)))
      (pss_cons (ps_asg (pe_op op_fdivN (pe_ix (ix_listK (K := K)) (pv 0) pe_int (fun _ _ => rfl)) (pv 1)) (pg_sub (pv 0) pe_int set_list))
      (pss_one (ps_ret (pv 3))))) pss_nil)
      (pss_cons (ps_asg (pe_op op_modN (pe_callTy call_int1 (by rfl) T.int_ (by decide +kernel) (pa_cons (pe_op op_add (pe_op op_mul (pe_ix (ix_listK (K := K)) (pv 0) pe_int (fun _ _ => rfl)) pe_int) pe_int) pa_nil)) pe_int) (pg_sub (pv 0) pe_int set_list))
      (pss_one (ps_ret (pe_op op_modN (pe_callTy call_int1 (by rfl) T.int_ (by decide +kernel) (pa_cons (pe_op op_fdivN (pe_ix (ix_listK (K := K)) (pv 0) pe_int (fun _ _ => rfl)) pe_int) pa_nil)) (pv 1))))))), ?_⟩
    refine ⟨fun σ' H' => ∃ y2, σ' = [some (.ref a), some (.int (m : Nat)), y2, none] ∧ SrcV a ca zs H' ∧ Off a H' = Off a H, ?_, ?_⟩
    · obtain ⟨⟨i, b, d, e⟩, ec, nc⟩ := id s
      refine ⟨_, rfl, a, _, 2, .int b, rfl, rfl, .inl (.inl e), atI_nat (j := 2) rfl, 10, 18, rfl, rfl, ⟨by decide, by decide, by decide⟩, b, _, rfl, rfl, _, rfl, ?_⟩
      refine ite2D (fun _ => ?_) fun _ => iteF ⟨none, rfl, s, rfl⟩
      refine ⟨_, rfl, a, _, 1, .int (i : Nat), rfl, rfl, .inl (.inl e), atI_nat (j := 1) rfl, _, rfl, a, _, 0, .ref ca, rfl, rfl, .inl (.inl e), atI_nat (j := 0) rfl, ca, _, rfl, .inl (.inl (.inl ec)), (i : Nat), _, rfl, rfl, _, rfl, ?_⟩
      refine ite2D (fun hi => ?_) fun _ => ⟨none, rfl, s, rfl⟩
      rw [List.length_map] at hi
      have hi2 : i < zs.length := by omega
      obtain ⟨z, hz⟩ : ∃ z, zs[i]? = some z := ⟨zs[i], by simp [hi2]⟩
      have hz2 : (zs.map V.int)[i]? = some (.int z) := by rw [List.getElem?_map, hz]; rfl
      refine ⟨_, rfl, a, _, 0, .ref ca, rfl, rfl, .inl (.inl e), atI_nat (j := 0) rfl, _, rfl, a, _, 1, .int (i : Nat), rfl, rfl, .inl (.inl e), atI_nat (j := 1) rfl, ca, _, i, .int z, rfl, rfl, .inl (.inl ec), atI_nat (j := i) hz2, .inl ⟨z, rfl, ?_⟩⟩
      refine ⟨_, rfl, a, _, 1, .int (i : Nat), rfl, rfl, .inl (.inl e), atI_nat (j := 1) rfl, _, _, rfl, rfl, _, rfl, a, _, 1, 1, rfl, rfl, e, rfl, ?_⟩
      refine ⟨_, rfl, a, _, 2, 2, rfl, rfl, upd_same, rfl, ?_⟩
      refine ⟨fun σ' H' => σ' = [some (.ref a), some (.int (m : Nat)), some (.int z), none] ∧ ∃ b' d' : Int, H' a = some (.lst [.ref ca, .int ((i + 1 : Nat) : Int), .int b', .int d']) ∧ SrcV a ca zs H' ∧ Off a H' = Off a H, ?_, ?_⟩
      · have sA : SrcV a ca zs (upd H a (.lst [.ref ca, .int ((i + 1 : Nat) : Int), .int b, .int d])) := s.put
        have sB : SrcV a ca zs (upd (upd H a (.lst [.ref ca, .int ((i + 1 : Nat) : Int), .int b, .int d])) a (.lst [.ref ca, .int ((i + 1 : Nat) : Int), .int 0, .int d])) := sA.put
        refine ⟨_, rfl, 10, 18, rfl, rfl, ⟨by decide, by decide, by decide⟩, z, _, rfl, rfl, _, rfl, ?_⟩
        refine ite2D (fun _ => ?_) fun _ => ⟨rfl, 0, d, upd_same, sB, off_put.trans off_put⟩
        exact ⟨_, rfl, _, rfl, a, _, 2, 2, rfl, rfl, upd_same, rfl, rfl, z, d, upd_same, sB.put, off_put.trans (off_put.trans off_put)⟩
      · rintro σ' H2 ⟨rfl, b', d', e2, s2, o2⟩
        refine ⟨_, rfl, a, _, 3, .int d', rfl, rfl, .inl (.inl e2), atI_nat (j := 3) rfl, d', 48271, rfl, rfl, .inr ⟨by decide, by decide⟩, _, rfl, z, 2147483629, rfl, rfl, (show (2147483629 : Int) ≠ 0 by decide), _, _, rfl, rfl, _, _, rfl, rfl, .inl ⟨_, rfl, _, _, rfl, rfl, (show (2147483647 : Int) ≠ 0 by decide), ?_⟩⟩
        exact ⟨_, rfl, a, _, 3, 3, rfl, rfl, e2, rfl, _, rfl, s2.put (i := i + 1), off_put.trans o2⟩
    · rintro σ' H' ⟨y2, rfl, s2, eo⟩
      obtain ⟨⟨i, b, d, e⟩, ec, nc⟩ := id s2
      refine ⟨_, rfl, a, _, 2, .int b, rfl, rfl, .inl (.inl e), atI_nat (j := 2) rfl, 10, 18, rfl, rfl, ⟨by decide, by decide, by decide⟩, b, _, rfl, rfl, _, rfl, ?_⟩
      refine ite2D (fun _ => ?_) fun _ => ?_
      · obtain ⟨k, hk, ek⟩ := fmod_nat (b := b) m0
        refine ⟨_, rfl, a, _, 2, .int b, rfl, rfl, .inl (.inl e), atI_nat (j := 2) rfl, .inl ⟨b, rfl, _, rfl, b, (m : Nat), rfl, rfl, hmz, ?_⟩⟩
        refine ⟨_, rfl, a, _, 2, .int b, rfl, rfl, .inl (.inl e), atI_nat (j := 2) rfl, _, rfl, b, (m : Nat), rfl, rfl, ⟨hmz, by omega⟩, _, rfl, a, _, 2, 2, rfl, rfl, e, rfl, _, rfl, ?_⟩
        show Q (V.int (b.fmod (m : Nat))) _
        rw [ek]
        exact q k _ hk (s2.put (i := i)) (off_put.trans eo)
      · refine ⟨_, rfl, a, _, 3, .int d, rfl, rfl, .inl (.inl e), atI_nat (j := 3) rfl, d, 39373, rfl, rfl, .inr ⟨by decide, by decide⟩, _, _, rfl, rfl, .inl ⟨_, rfl, _, _, rfl, rfl, (show (2147483647 : Int) ≠ 0 by decide), ?_⟩⟩
        refine ⟨_, rfl, a, _, 3, 3, rfl, rfl, e, rfl, ?_⟩
        refine ⟨_, rfl, a, _, 3, _, rfl, rfl, .inl (.inl upd_same), atI_nat (j := 3) rfl, _, 16, rfl, rfl, ⟨by decide, by decide⟩, .inl ⟨_, rfl, _, rfl, _, (m : Nat), rfl, rfl, hmz, ?_⟩⟩
        obtain ⟨k, hk, ek⟩ := fmod_nat (b := ((d * 39373 + 12820163).fmod 2147483647).fdiv 16) m0
        show Q (V.int ((((d * 39373 + 12820163).fmod 2147483647).fdiv 16).fmod (m : Nat))) _
        rw [ek]
        exact q k _ hk (s2.put (i := i)) (off_put.trans eo)
end
end VW

set_option maxHeartbeats 4000000
namespace VW
open PySem PySem.Spec PyProof.Rows L2
def spBegin (K : PySem.W.Frag) : Sp := fun vs H Q _ => ∃ (sa : Addr) (zs : List Int), vs = [.ref sa] ∧ SqL K H sa (zs.map V.int) ∧ ∀ (a ca : Addr) (ws : List Int) H', SrcV a ca ws H' → Q (.ref a) H'
def spPick : Sp := fun vs H Q _ => ∃ (a ca : Addr) (zs : List Int) (x : V), vs = [.ref a, x] ∧ SrcV a ca zs H ∧
  ((∃ z : Str, x = .str z ∧ 0 < z.length ∧ z.length ≤ 1000 ∧ ∀ (c : Nat) H', c ∈ z.cps.toList → SrcV a ca zs H' → Off a H' = Off a H → Q (.str ⟨#[c]⟩) H') ∨
   (∃ (r : Addr) (xs : List V), x = .ref r ∧ Off a H r = some (.lst xs) ∧ 0 < xs.length ∧ xs.length ≤ 1000 ∧ ∀ v H', v ∈ xs → SrcV a ca zs H' → Off a H' = Off a H → Q v H'))
def spMixed : Sp := fun vs H Q _ => ∃ (a ca : Addr) (zs : List Int) (r : Addr) (xs : List Str), vs = [.ref a, .ref r] ∧ SrcV a ca zs H ∧ Off a H r = some (.lst (xs.map V.str)) ∧ xs.length ≤ 1000 ∧ (∀ z ∈ xs, PyData.strOk z = true) ∧
  ∀ (ys : List Str) u H', ys.Perm xs → SrcV a ca zs H' → Same (Off a H) (Off a H') → rL rStr ys u (Off a H') → Q u H'
def Low (s : Str) : Prop := ∀ c ∈ s.cps.toList, c ∈ letters26.cps.toList
def spStem : Sp := fun vs H Q _ => ∃ (a ca : Addr) (zs : List Int), vs = [.ref a] ∧ SrcV a ca zs H ∧ ∀ (s : Str) H', s.length ≤ 5 → Low s → SrcV a ca zs H' → Same (Off a H) (Off a H') → Q (.str s) H'
def spNames : Sp := fun vs H Q _ => ∃ (a ca : Addr) (zs : List Int) (m : Nat), vs = [.ref a, .int (m : Nat)] ∧ SrcV a ca zs H ∧ 1 ≤ m ∧ m ≤ 3 ∧
  ∀ (nms : List Str) u H', nms.length = m → (∀ x ∈ nms, NameOk x) → nms.Nodup → SrcV a ca zs H' → Same (Off a H) (Off a H') → rL rStr nms u (Off a H') → Q u H'
/-! ### texts as data -/
theorem strs_lay : ∀ zs : List Str, (∀ z ∈ zs, PyData.strOk z = true) → PyData.canLayAll0 (zs.map PyData.str) = true
  | [], _ => by simp [PyData.canLayAll0]
  | z :: zs, h => by
    have h1 := h z List.mem_cons_self
    have h2 := strs_lay zs fun y hy => h y (List.mem_cons_of_mem _ hy)
    simp [PyData.canLayAll0, PyData.canLay0, h1, h2]
theorem strs_depth : ∀ zs : List Str, PyData.depthAll (zs.map PyData.str) = 0
  | [] => by simp [PyData.depthAll]
  | z :: zs => by
    have h1 := strs_depth zs
    simp only [List.map_cons, PyData.depthAll, h1]
    rfl
theorem strs_shaped (zs : List Str) (hz : ∀ z ∈ zs, PyData.strOk z = true) : SeqAt.shaped (.list (zs.map PyData.str)) = true := by
  have h1 := strs_depth zs
  have h2 : PyData.depth (.list (zs.map PyData.str)) ≤ 64 := by
    simp only [PyData.depth]
    omega
  show (PyData.canLay0 (.list (zs.map PyData.str)) && decide (PyData.depth (.list (zs.map PyData.str)) ≤ 64)) = true
  rw [Bool.and_eq_true]
  exact ⟨by simp only [PyData.canLay0]; exact strs_lay zs hz, decide_eq_true h2⟩
theorem dp_strs {K : PySem.W.Frag} {H : Hp} : ∀ zs : List Str, DpAll K H (zs.map V.str) (zs.map PyData.str)
  | [] => .nil
  | z :: zs => .cons (.str z) (dp_strs zs)
theorem str_app (x y : Str) : (x ++ y).cps.toList = x.cps.toList ++ y.cps.toList := by
  show (x.cps ++ y.cps).toList = _
  simp
theorem str_len (x : Str) : x.length = x.cps.toList.length := by
  show x.cps.size = _
  simp
theorem map_erase {α β : Type} (g : α → β) : ∀ (l : List α) (k : Nat), (l.eraseIdx k).map g = (l.map g).eraseIdx k
  | [], _ => rfl
  | x :: l, 0 => rfl
  | x :: l, k + 1 => congrArg (g x :: ·) (map_erase g l k)
theorem erase_perm {α : Type} : ∀ {l : List α} {k : Nat} {x : α}, l[k]? = some x → (x :: l.eraseIdx k).Perm l
  | [], k, x, h => by simp at h
  | y :: l, 0, x, h => by
    simp at h
    subst h
    exact List.Perm.refl _
  | y :: l, k + 1, x, h => by
    have h2 : l[k]? = some x := by simpa using h
    exact (List.Perm.swap y x _).trans ((erase_perm h2).cons y)
section
variable {P : Program} {w : World} {K : PySem.W.Frag} {mg : Str → Option Value} {base : Heap}
theorem ok__law_begin (T : Txt K mg) : FnOk P w K mg base CX0 1 T._law_begin.f T._law_begin.fd ["script"] ((spBegin K)) := by
  refine dok T._law_begin.F sc__law_begin (fun vs H Q E h => ?_) (fun cdv A outer s H vs Q E hr h => ?_)
  · obtain ⟨_, _, rfl, _⟩ := h
    rfl
  · obtain ⟨sa, zs, rfl, e, q⟩ := h
    refine ⟨_, (pss_one (ps_ret (pe_lst (pa_cons (pe_callTy (call_listK (K := K)) (by rfl) T.list_ (by decide +kernel) (pa_cons (pe_slice (sl_listK (K := K)) (pv 0) po_none (po_some pe_int)) pa_nil)) (pa_cons pe_int (pa_cons pe_int (pa_cons pe_int pa_nil))))))), ?_⟩
    refine ⟨_, rfl, 63, rfl, sa, _, rfl, e, fun p np => ⟨p, _, rfl, .inl (.inl (.inl upd_same)), fun l nl => ⟨(by show 4 ≤ sizeLine; decide), fun a na => ?_⟩⟩⟩
    have ec : cutV (zs.map V.int) none (some (63 : Int)) = (zs.take 63).map V.int := (cut_take (α := V) (zs.map V.int) 63).trans (List.map_take).symm
    rw [ec] at nl na ⊢
    refine q a l (zs.take 63) _ ⟨⟨0, 0, 7, upd_same⟩, ?_, fun z => ?_⟩
    · exact (same_new na) _ _ upd_same
    · rw [← z, upd_same] at na
      cases na
theorem ok__law_pick (T : Txt K mg) : FnOk P w K mg base CX0 2 T._law_pick.f T._law_pick.fd ["source", "items"] (spPick) := by
  refine dok T._law_pick.F sc__law_pick (fun vs H Q E h => ?_) (fun cdv A outer s H vs Q E hr h => ?_)
  · obtain ⟨_, _, _, _, rfl, _⟩ := h
    rfl
  · obtain ⟨a, ca, zs, x, rfl, s, h⟩ := h
    refine ⟨_, (pss_one (ps_ret (pe_ix (ix_seqK (K := K)) (pv 1) (pcall T._law_draw (ok__law_draw T) (hr.mono (by decide)) (pa_cons (pv 0) (pa_cons (pe_callB (call_lenAK (K := K)) (by rfl) T.len_ (by decide +kernel) (pa_cons (pv 1) pa_nil)) pa_nil))) (fun _ _ => rfl)))), ?_⟩
    rcases h with ⟨z, rfl, h0, h1, q⟩ | ⟨r, xs, rfl, hr1, h0, h1, q⟩
    · refine ⟨_, rfl, _, rfl, _, rfl, _, z.length, rfl, ⟨by rw [sizeLine_eq]; omega, rfl⟩, a, ca, zs, z.length, rfl, h0, h1, s, fun k H' hk s' o' => .inr (.inr ?_)⟩
      obtain ⟨c, hc⟩ : ∃ c, z.cps.toList[k]? = some c := ⟨z.cps.toList[k]'(by rw [← str_len]; exact hk), by simp⟩
      exact ⟨z, (k : Nat), c, rfl, rfl, by rw [sizeLine_eq]; omega, atI_nat hc, q c H' (List.mem_of_getElem? hc) s' o'⟩
    · obtain ⟨n1, hr2⟩ := off_some hr1
      refine ⟨_, rfl, _, rfl, _, rfl, _, xs.length, rfl, .inl ⟨xs, .inl (.inl hr2), rfl⟩, a, ca, zs, xs.length, rfl, h0, h1, s, fun k H' hk s' o' => .inl ?_⟩
      have e : H' r = some (.lst xs) := by
        have h2 := congrFun o' r
        rw [hr1, off_ne n1] at h2
        exact h2
      obtain ⟨v, hv⟩ : ∃ v, xs[k]? = some v := ⟨xs[k], by simp [hk]⟩
      exact ⟨r, xs, (k : Nat), v, rfl, rfl, .inl (.inl e), atI_nat hv, q v H' (List.mem_of_getElem? hv) s' o'⟩
theorem ok__law_mixed (T : Txt K mg) : FnOk P w K mg base CX0 2 T._law_mixed.f T._law_mixed.fd ["source", "items"] (spMixed) := by
  refine dok T._law_mixed.F sc__law_mixed (fun vs H Q E h => ?_) (fun cdv A outer s H vs Q E hr h => ?_)
  · obtain ⟨_, _, _, _, _, rfl, _⟩ := h
    rfl
  · obtain ⟨a, ca, zs, r, xs, rfl, s, hr1, hn, hok, q⟩ := h
    obtain ⟨n1, hr2⟩ := off_some hr1
    refine ⟨_, (pss_cons (ps_par (i := 2) (j := 3) rfl sc__law_mixed.nd rfl rfl (by decide) rfl rfl (pa_cons (pe_callTy (call_listK (K := K)) (by rfl) T.list_ (by decide +kernel) (pa_cons (pv 1) pa_nil)) (pa_cons (pe_lst pa_nil) pa_nil)) (by rfl))
      (pss_cons (ps_while PassesOwn.never (pt_cmpR (op_neDK (K := K) hr.units) (pv 2) (pe_lst pa_nil) (nomark _)) (pss_one (ps_expr (pe_bmK (K := K) PySem.F.plainAttrs_list PySem.F.slot_list_append PySem.F.type_list_append mt_append (pv 3) (pa_cons (pe_bmK (K := K) PySem.F.plainAttrs_list PySem.F.slot_list_pop PySem.F.type_list_pop mt_popAt (pv 2) (pa_cons (pcall T._law_draw (ok__law_draw T) (hr.mono (by decide)) (pa_cons (pv 0) (pa_cons (pe_callB (call_lenK (K := K)) (by rfl) T.len_ (by decide +kernel) (pa_cons (pv 2) pa_nil)) pa_nil))) pa_nil)) pa_nil)))))
      (pss_one (ps_ret (pv 3))))), ?_⟩
    refine ⟨_, rfl, r, _, rfl, .inl (.inl (.inl hr2)), fun l nl => ⟨by show 0 ≤ sizeLine; decide, fun f nf => ?_⟩⟩
    have hla := s.ne nl
    have sl := s.new (o := .lst (xs.map V.str)) nl
    have hfa := sl.ne nf
    have hlf : l ≠ f := fun z => by rw [z, upd_same] at nf; cases nf
    have nf0 : H f = none := by rw [upd_ne (Ne.symm hlf)] at nf; exact nf
    refine ⟨_, _, rfl, fun m σ' H' => σ' = [some (.ref a), some (.ref r), some (.ref l), some (.ref f)] ∧ SrcV a ca zs H' ∧ Same (Off a H) (Off a H') ∧ ∃ ls fs : List Str, m = ls.length ∧ H' l = some (.lst (ls.map V.str)) ∧ H' f = some (.lst (fs.map V.str)) ∧ (fs ++ ls).Perm xs,
      ⟨xs.length, rfl, sl.new nf, ?_, xs, [], rfl, ?_, upd_same, List.Perm.refl _⟩, ?_⟩
    · exact (off_mono (same_new nl)).trans (off_mono (same_new nf))
    · rw [upd_ne hlf]
      exact upd_same
    · rintro m σ' H' ⟨rfl, s', so, ls, fs, rfl, el, ef, hp⟩
      have hlen := hp.length_eq
      rw [List.length_append] at hlen
      refine ⟨_, rfl, (by show 0 ≤ sizeLine; decide), fun e ne => ?_⟩
      have se := same_new (o := .lst []) ne
      refine ⟨.list (ls.map PyData.str), .list [], .lst (.inl (.inl (se _ _ el))) (dp_strs ls), .lst (.inl (.inl upd_same)) .nil, strs_shaped ls (fun z hz => hok z (hp.mem_iff.mp (List.mem_append_right _ hz))), strs_shaped [] (fun z hz => by simp at hz), _, rfl, ?_⟩
      have hq : (PyData.list (ls.map PyData.str)).eqv (PyData.list []) = decide (ls = []) := by
        cases ls with
        | nil => rfl
        | cons x0 ls0 => rfl
      rw [hq]
      have s2 := s'.grow se
      have so2 := so.trans (off_mono se)
      have el2 := se _ _ el
      have ef2 := se _ _ ef
      generalize upd H' e (.lst []) = H2 at s2 so2 el2 ef2
      by_cases hls : ls = []
      · subst hls
        refine iteNS rfl ⟨_, rfl, q fs (.ref f) H2 (by simpa using hp) s2 so2 ⟨f, _, rfl, ?_, all2_str.mpr rfl⟩⟩
        rw [off_ne hfa]
        exact ef2
      · have hpos : 0 < ls.length := List.length_pos_iff.mpr hls
        refine iteNY hls ⟨fun σ' H' => σ' = [some (.ref a), some (.ref r), some (.ref l), some (.ref f)] ∧ SrcV a ca zs H' ∧ Same (Off a H) (Off a H') ∧ ∃ ls2 fs2 : List Str, ls2.length + 1 = ls.length ∧ H' l = some (.lst (ls2.map V.str)) ∧ H' f = some (.lst (fs2.map V.str)) ∧ (fs2 ++ ls2).Perm xs,
          fun σ' H' ⟨h1, h2, h3, ls2, fs2, h4, h5, h6, h7⟩ => ⟨ls2.length, by omega, h1, h2, h3, ls2, fs2, rfl, h5, h6, h7⟩, ?_⟩
        refine ⟨_, rfl, .inl ⟨rfl, _, .inl (.inl ef2)⟩, _, rfl, .inl ⟨rfl, _, .inl (.inl el2)⟩, _, rfl, _, rfl, l, _, rfl, .inl (.inl (.inl el2)), a, ca, zs, ls.length, ?_, hpos, by omega, s2, fun k H3 hk s3 o3 => ?_⟩
        · rw [List.length_map]
          rfl
        · have hl3 : ∀ b, b ≠ a → H3 b = H2 b := fun b hb => by
            have h2 := congrFun o3 b
            rw [off_ne hb, off_ne hb] at h2
            exact h2
          obtain ⟨x, hx⟩ : ∃ x, ls[k]? = some x := ⟨ls[k], by simp [hk]⟩
          have hx2 : (ls.map V.str)[k]? = some (.str x) := by rw [List.getElem?_map, hx]; rfl
          have el3 : H3 l = some (.lst (ls.map V.str)) := by rw [hl3 l hla]; exact el2
          have ef3 : H3 f = some (.lst (fs.map V.str)) := by rw [hl3 f hfa]; exact ef2
          have hsi : seqIndex? ((k : Nat) : Int) (ls.map V.str).length = some k := by
            have h := PySem.seqIndex_of (k := ((k : Nat) : Int)) (n := (ls.map V.str).length) (by omega) (by rw [List.length_map]; omega)
            simpa using h
          refine ⟨l, _, (k : Nat), k, .str x, rfl, rfl, el3, by omega, by omega, hsi, hx2, ?_⟩
          have hlc : l ≠ ca := ne_of_none s.2.1 nl |>.symm
          have hfc : f ≠ ca := ne_of_none s.2.1 nf0 |>.symm
          have so3 : Same (Off a H) (Off a H3) := by
            rw [o3]
            exact so2
          have so4 : ∀ o1 o2, Same (Off a H) (Off a (upd (upd H3 l o1) f o2)) := fun o1 o2 => by
            rw [off_upd hfa, off_upd hla]
            exact Same.put (Same.put so3 (off_none nl)) (off_none nf0)
          have hlen2 : (ls.eraseIdx k).length + 1 = ls.length := by
            rw [List.length_eraseIdx]
            rw [if_pos hk]
            omega
          refine ⟨f, fs.map V.str, .str x, rfl, rfl, ?_, ?_, rfl, (s3.set hla hlc).set hfa hfc, so4 _ _, ls.eraseIdx k, fs ++ [x], hlen2, ?_, ?_, ?_⟩
          · rw [upd_ne (Ne.symm hlf)]
            exact ef3
          · rw [List.length_map, sizeLine_eq]
            omega
          · rw [upd_ne hlf, upd_same, map_erase]
          · rw [upd_same, List.map_append]
            rfl
          · refine List.Perm.trans ?_ hp
            rw [List.append_assoc]
            exact (erase_perm hx).append_left fs
theorem ok__law_stem (T : Txt K mg) : FnOk P w K mg base CX0 3 T._law_stem.f T._law_stem.fd ["source"] (spStem) := by
  refine dok T._law_stem.F sc__law_stem (fun vs H Q E h => ?_) (fun cdv A outer s H vs Q E hr h => ?_)
  · obtain ⟨_, _, _, rfl, _⟩ := h
    rfl
  · obtain ⟨a, ca, zs, rfl, s, q⟩ := h
    refine ⟨_, (pss_cons (ps_set (i := 1) sc__law_stem.nd rfl (.inl rfl) pe_str)
      (pss_one (ps_ret (pe_op op_add_str (pe_op op_mulS (pcall T._law_pick (ok__law_pick T) (hr.mono (by decide)) (pa_cons (pv 0) (pa_cons (pv 1) pa_nil))) (pcall T._law_draw (ok__law_draw T) (hr.mono (by decide)) (pa_cons (pv 0) (pa_cons pe_int pa_nil)))) (pcall T._law_pick (ok__law_pick T) (hr.mono (by decide)) (pa_cons (pv 0) (pa_cons (pe_lst (pa_cons pe_str (pa_cons pe_str (pa_cons pe_str pa_nil)))) pa_nil))))))), ?_⟩
    refine ⟨_, rfl, _, rfl, a, ca, zs, _, rfl, s, .inl ⟨letters26, rfl, by decide +kernel, by decide +kernel, fun c H1 hc s1 o1 => ?_⟩⟩
    refine ⟨_, rfl, a, ca, zs, 4, rfl, by decide, by decide, s1, fun k H2 hk s2 o2 => ?_⟩
    refine ⟨⟨#[c]⟩, (k : Nat), rfl, rfl, by omega, by omega, (by show 1 ≤ 1000; decide), fun t ht => ?_⟩
    have ht2 : t.cps.toList = (List.replicate k [c]).flatten := by simpa using ht
    have hlow1 : Low t := fun x hx => by
      rw [ht2] at hx
      obtain ⟨l, hl, hx⟩ := List.mem_flatten.mp hx
      rw [(List.mem_replicate.mp hl).2] at hx
      rw [List.mem_singleton.mp hx]
      exact hc
    have hlen1 : t.length ≤ 3 := by
      rw [str_len, ht2]
      simp
      omega
    refine ⟨_, rfl, (by show 3 ≤ sizeLine; decide), fun p np => ?_⟩
    have np2 := s2.ne np
    have s3 := s2.new (o := .lst [.str "", .str "q", .str "xy"]) np
    refine ⟨a, ca, zs, _, rfl, s3, .inr ⟨p, [.str "", .str "q", .str "xy"], rfl, ?_, (show 0 < 3 by decide), (show 3 ≤ 1000 by decide), fun v H4 hv s4 o4 => ?_⟩⟩
    · rw [off_ne np2]
      exact upd_same
    · have so : Same (Off a H) (Off a H4) := by
        rw [o4, ← o1, ← o2]
        exact off_mono (same_new np)
      have fin : ∀ y : Str, v = .str y → y.length ≤ 2 → Low y → ∃ i j : Str, V.str t = .str i ∧ v = .str j ∧ i.length + j.length ≤ sizeLine ∧ Q (.str (i ++ j)) H4 := fun y hy h1 h2 => by
        subst hy
        refine ⟨t, y, rfl, rfl, by rw [sizeLine_eq]; omega, q (t ++ y) H4 ?_ (fun x hx => ?_) s4 so⟩
        · rw [str_len, str_app, List.length_append, ← str_len, ← str_len]
          omega
        · rw [str_app] at hx
          exact (List.mem_append.mp hx).elim (hlow1 x) (h2 x)
      rcases List.mem_cons.mp hv with h | hv
      · exact fin "" h (by decide +kernel) (by unfold Low; decide +kernel)
      · rcases List.mem_cons.mp hv with h | hv
        · exact fin "q" h (by decide +kernel) (by unfold Low; decide +kernel)
        · exact fin "xy" (List.mem_singleton.mp hv) (by decide +kernel) (by unfold Low; decide +kernel)
def lets : List Str := letters26.cps.toList.map fun c => ⟨#[c]⟩
theorem lets_nodup : lets.Nodup := by decide +kernel
theorem lets_ok : ∀ z ∈ lets, PyData.strOk z = true := by decide +kernel
theorem lets_one : ∀ z ∈ lets, z.length = 1 ∧ Low z := by
  unfold Low
  decide +kernel
theorem lets_len : lets.length = 26 := by decide +kernel
theorem str_app_inj {s x y : Str} (h : s ++ x = s ++ y) : x = y := by
  have e : (s ++ x).cps.toList = (s ++ y).cps.toList := congrArg (fun z : Str => z.cps.toList) h
  rw [str_app, str_app] at e
  have e2 := List.append_cancel_left e
  obtain ⟨x⟩ := x
  obtain ⟨y⟩ := y
  exact congrArg Str.mk (Array.toList_inj.mp e2)
theorem ok__law_names (T : Txt K mg) : FnOk P w K mg base CX0 4 T._law_names.f T._law_names.fd ["source", "many"] (spNames) := by
  refine dok T._law_names.F sc__law_names (fun vs H Q E h => ?_) (fun cdv A outer s H vs Q E hr h => ?_)
  · obtain ⟨_, _, _, _, rfl, _⟩ := h
    rfl
  · obtain ⟨a, ca, zs, m, rfl, s, m1, m3, q⟩ := h
    refine ⟨_, (pss_cons (ps_set (i := 2) sc__law_names.nd rfl (.inr rfl) (pcall T._law_stem (ok__law_stem T) (hr.mono (by decide)) (pa_cons (pv 0) pa_nil)))
      (pss_cons (ps_set (i := 3) sc__law_names.nd rfl (.inl rfl) (pcall T._law_mixed (ok__law_mixed T) (hr.mono (by decide)) (pa_cons (pv 0) (pa_cons (pe_callTy (call_listS rfl) (by rfl) T.list_ (by decide +kernel) (pa_cons pe_str pa_nil)) pa_nil))))
      (pss_one (ps_ret (pe_lc (own := [("letter", 4)]) rfl sc__law_names.nd (pi_listK (K := K) (pe_slice (sl_listK (K := K)) (pv 3) po_none (po_some (pv 1)))) (blkOk_by (own := [("letter", 4)]) (N := N__law_names) (sc := defScope s__law_names) (by decide +kernel)) (fun _ _ _ _ _ => (pg_name (i := 4) sc__law_names.nd rfl (.inl rfl))) (fun _ _ _ _ _ => pts_nil) (fun _ _ _ _ _ => (pe_op op_add_str (pv 2) (pv 4)))))))), ?_⟩
    refine ⟨_, rfl, a, ca, zs, rfl, s, fun st H1 hst hlow s1 so1 => ?_⟩
    refine ⟨_, rfl, letters26, rfl, by decide +kernel, fun p np => ?_⟩
    have npa := s1.ne np
    have s2 := s1.new (o := .lst (letters26.cps.toList.map fun c => V.str ⟨#[c]⟩)) np
    have sn := off_mono (a := a) (same_new (o := .lst (letters26.cps.toList.map fun c => V.str ⟨#[c]⟩)) np)
    refine ⟨a, ca, zs, p, lets, rfl, s2, ?_, by rw [lets_len]; decide, lets_ok, fun ys u H2 hp s3 so3 hu => ?_⟩
    · rw [off_ne npa, upd_same]
      unfold lets
      rw [List.map_map]
      rfl
    · obtain ⟨l, vs, rfl, hl, hvs⟩ := hu
      have e := all2_str.mp hvs
      subst e
      obtain ⟨hla, hl2⟩ := off_some hl
      have hyl : ys.length = 26 := hp.length_eq.trans lets_len
      have ec : cutV (ys.map V.str) none (some ((m : Nat) : Int)) = (ys.take m).map V.str := (cut_take (α := V) (ys.map V.str) m).trans (List.map_take).symm
      have htl : (ys.take m).length = m := by
        rw [List.length_take, hyl]
        omega
      refine ⟨_, rfl, _, rfl, (m : Nat), rfl, l, _, rfl, .inl (.inl hl2), fun p2 np2 => ?_⟩
      rw [ec]
      have np2a := s3.ne np2
      have s4 := s3.new (o := .lst ((ys.take m).map V.str)) np2
      have so4 := off_mono (a := a) (same_new (o := .lst ((ys.take m).map V.str)) np2)
      refine ⟨p2, rfl, ⟨_, .inl (.inl upd_same)⟩, fun D nD => ?_⟩
      refine lc_map (S := rStr) (fun i => st ++ (ys.take m).getD i Str.empty) (walk_list (K := K) (a := p2) (xs := (ys.take m).map V.str)) nD (by rw [List.length_map, htl]; omega) (fun H' s' => .inl (.inl (s' _ _ upd_same))) (fun i x H4 H5 N hi s5 hx k => ?_) fun H4 m4 => ?_
      · obtain ⟨rfl, hx⟩ := hx
        rw [List.getElem?_map] at hx
        obtain ⟨y, hy, rfl⟩ := Option.map_eq_some_iff.mp hx
        have hy2 := lets_one y (hp.mem_iff.mp (List.mem_of_mem_take (List.mem_of_getElem? hy)))
        refine ⟨rfl, _, rfl, _, rfl, st, y, rfl, rfl, by rw [sizeLine_eq]; omega, k _ _ (Same.refl _) ?_⟩
        rw [List.getD_eq_getElem?_getD, hy]
        rfl
      · have e5 : (List.range ((ys.take m).map V.str).length).map (fun i => st ++ (ys.take m).getD i Str.empty) = (ys.take m).map (st ++ ·) := by
          rw [List.length_map]
          exact @range_map_get _ _ ⟨Str.empty⟩ (ys.take m) (st ++ ·)
        rw [e5] at m4
        have nDa := s4.ne nD
        obtain ⟨s6, acc, eD, aD⟩ := m4
        refine q ((ys.take m).map (st ++ ·)) _ _ (by rw [List.length_map, htl]) (fun x hx => ?_) ?_ (s4.grow s6) ((((so1.trans sn).trans so3).trans so4).trans (off_mono s6)) ⟨D, acc, rfl, ?_, all2_str.mpr (all2_str.mp aD)⟩
        · obtain ⟨y, hy, rfl⟩ := List.mem_map.mp hx
          have hy2 := lets_one y (hp.mem_iff.mp (List.mem_of_mem_take hy))
          have hlen : (st ++ y).length = st.length + y.length := by
            rw [str_len, str_app, List.length_append, ← str_len, ← str_len]
          refine ⟨by omega, by omega, fun c hc => ?_⟩
          rw [str_app] at hc
          exact (List.mem_append.mp hc).elim (hlow c) (hy2.2 c)
        · have hnd : (ys.take m).Nodup := ((hp.nodup_iff).mpr lets_nodup).sublist (List.take_sublist _ _)
          exact List.Pairwise.map _ (fun x y hxy z => hxy (str_app_inj z)) hnd
        · rw [off_ne nDa]
          exact eD
end
end VW

set_option maxHeartbeats 4000000
namespace VW
open PySem PySem.Spec PyProof.Rows L2
section
variable {J : It} {n : Nat} {G : Hp → Prop} {Y : Nat → Hp → V → Hp → Prop} {β : Type} {S : Rp β} [Mono S] {g : TG} {te : TE} {vs : List Nat} {σ : L2.St} {H0 : Hp} {D a ca : Addr} {zs : List Int} {Qd : Hp → Prop}
/-- items made while the source is drawn from -/
theorem lcS (Pj : Nat → β → Prop) (w : Walk J n G Y) (s0 : SrcV a ca zs H0) (h0 : H0 D = none) (hn : n ≤ 1000000) (hG : ∀ H, Same (Off a H0) (Off a H) → G H)
    (hs : ∀ i x H H' (N : VK), i < n → SrcV a ca zs H → Same (Off a H0) (Off a H) → (∃ xs, H D = some (.lst xs)) → Y i H x H' →
      (∀ b y H4, SrcV a ca zs H4 → Same (Off a H) (Off a H4) → Pj i b → S b y (Off D (Off a H4)) → N y H4) → g x (wipe σ vs) H' fun σ2 H2 => wipe σ2 vs = wipe σ vs ∧ te σ2 H2 N)
    (hd : ∀ H bs, SrcV a ca zs H → Same (Off a H0) (Off a H) → bs.length = n → (∀ j b, bs[j]? = some b → Pj j b) → rL S bs (.ref D) (Off a H) → Qd H) :
    ∃ W : Nat → Nat → Hp → Prop, (∃ m, W 0 m (upd H0 D (.lst []))) ∧ ∀ i m H, W i m H →
      (J.stop i H ∧ Qd H) ∨ (J.go i H ∧ ∃ Nx : Hp → Prop, (∀ H', Nx H' → ∃ m', m' < m ∧ W (i + 1) m' H') ∧ ∀ x H', J.yld i H x H' → g x (wipe σ vs) H' fun σ2 H2 => wipe σ2 vs = wipe σ vs ∧ tYes σ2 H2 fun b H3 =>
        if b = true then te σ2 H3 fun y H4 => ∃ acc, H4 D = some (.lst acc) ∧ acc.length < sizeLine ∧ Nx (upd H4 D (.lst (acc ++ [y]))) else Nx H3) := by
  have hDa := s0.ne h0
  have hDc : D ≠ ca := (ne_of_none s0.2.1 h0).symm
  refine lc_it w (fun i H => SrcV a ca zs H ∧ Same (Off a H0) (Off a H) ∧ ∃ bs acc, bs.length = i ∧ (∀ j b, bs[j]? = some b → Pj j b) ∧ H D = some (.lst acc) ∧ All2 S (Off D (Off a H)) bs acc)
    ⟨s0.new h0, off_mono (same_new h0), [], [], rfl, fun j b e => by simp at e, upd_same, True.intro⟩ (fun i H _ p => hG H p.2.1) (fun i x H H' hi p y => ?_) (fun H p => ?_)
  · obtain ⟨s1, so, bs, acc, hl, hP, eD, aS⟩ := p
    have step : ∀ b y H4, SrcV a ca zs H4 → Same (Off a H) (Off a H4) → Pj i b → S b y (Off D (Off a H4)) → ∃ acc, H4 D = some (.lst acc) ∧ acc.length < sizeLine ∧ (SrcV a ca zs (upd H4 D (.lst (acc ++ [y]))) ∧ Same (Off a H0) (Off a (upd H4 D (.lst (acc ++ [y])))) ∧ ∃ bs acc', bs.length = i + 1 ∧ (∀ j b, bs[j]? = some b → Pj j b) ∧ (upd H4 D (.lst (acc ++ [y]))) D = some (.lst acc') ∧ All2 S (Off D (Off a (upd H4 D (.lst (acc ++ [y]))))) bs acc') := fun b y H4 s4 so4 hP4 hS => by
      have eD4 : H4 D = some (.lst acc) := (off_some (so4 D (.lst acc) (by rw [off_ne hDa]; exact eD))).2
      refine ⟨acc, eD4, all2_len aS (by omega), s4.set hDa hDc, ?_, bs ++ [b], acc ++ [y], by rw [List.length_append, hl]; rfl, fun j b' e => ?_, upd_same, ?_⟩
      · rw [off_upd hDa]
        exact Same.put (so.trans so4) (off_none h0)
      · rcases Nat.lt_trichotomy j bs.length with h | h | h
        · rw [List.getElem?_append_left h] at e
          exact hP j b' e
        · subst h
          rw [List.getElem?_append_right (Nat.le_refl _)] at e
          simp at e
          rw [← e, hl]
          exact hP4
        · rw [List.getElem?_append_right (by omega)] at e
          have h2 : j - bs.length ≠ 0 := by omega
          obtain ⟨m, hm⟩ := Nat.exists_eq_succ_of_ne_zero h2
          rw [hm] at e
          simp at e
      · rw [off_upd hDa, off_put]
        exact (aS.mono (off_mono so4)).snoc hS
    have q := hs i x H H' _ hi s1 so ⟨acc, eD⟩ y step
    have e : ∀ σ2 H2, (tYes σ2 H2 fun b H3 => if b = true then te σ2 H3 fun y H4 => ∃ acc, H4 D = some (.lst acc) ∧ acc.length < sizeLine ∧ (SrcV a ca zs (upd H4 D (.lst (acc ++ [y]))) ∧ Same (Off a H0) (Off a (upd H4 D (.lst (acc ++ [y])))) ∧ ∃ bs acc', bs.length = i + 1 ∧ (∀ j b, bs[j]? = some b → Pj j b) ∧ (upd H4 D (.lst (acc ++ [y]))) D = some (.lst acc') ∧ All2 S (Off D (Off a (upd H4 D (.lst (acc ++ [y]))))) bs acc')
        else (SrcV a ca zs H3 ∧ Same (Off a H0) (Off a H3) ∧ ∃ bs acc, bs.length = i + 1 ∧ (∀ j b, bs[j]? = some b → Pj j b) ∧ H3 D = some (.lst acc) ∧ All2 S (Off D (Off a H3)) bs acc)) =
        te σ2 H2 fun y H4 => ∃ acc, H4 D = some (.lst acc) ∧ acc.length < sizeLine ∧ (SrcV a ca zs (upd H4 D (.lst (acc ++ [y]))) ∧ Same (Off a H0) (Off a (upd H4 D (.lst (acc ++ [y])))) ∧ ∃ bs acc', bs.length = i + 1 ∧ (∀ j b, bs[j]? = some b → Pj j b) ∧ (upd H4 D (.lst (acc ++ [y]))) D = some (.lst acc') ∧ All2 S (Off D (Off a (upd H4 D (.lst (acc ++ [y]))))) bs acc') := fun σ2 H2 => by
      unfold tYes
      dsimp only
      rw [if_pos rfl]
    simp only [e]
    exact q
  · obtain ⟨s1, so, bs, acc, hl, hP, eD, aS⟩ := p
    exact hd H bs s1 so hl hP ⟨D, acc, rfl, by rw [off_ne hDa]; exact eD, aS.mono off_le⟩
end
def RowOk (rows : List (Str × Int)) : Prop := 1 ≤ rows.length ∧ rows.length ≤ 2 ∧ (∀ r ∈ rows, NameOk r.1 ∧ 1 ≤ r.2 ∧ r.2 ≤ 2) ∧ (rows.map (·.1)).Nodup
def spRef : Sp := fun vs H Q _ => ∃ (a ca : Addr) (zs : List Int) (rv : V) (rows : List (Str × Int)), vs = [.ref a, rv, .int 1] ∧ SrcV a ca zs H ∧ rL rRow rows rv (Off a H) ∧ 1 ≤ rows.length ∧ rows.length ≤ 2 ∧
  ∀ (r : Str × Int) u H', r.1 ∈ rows.map (·.1) → -1 ≤ r.2 → r.2 ≤ 1 → SrcV a ca zs H' → Same (Off a H) (Off a H') → rRef r u (Off a H') → Q u H'
def spRows : Sp := fun vs H Q _ => ∃ (a ca : Addr) (zs : List Int), vs = [.ref a, .int 2, .int 2] ∧ SrcV a ca zs H ∧
  ∀ (rows : List (Str × Int)) u H', RowOk rows → SrcV a ca zs H' → Same (Off a H) (Off a H') → rL rRow rows u (Off a H') → Q u H'
def spWorld : Sp := fun vs H Q _ => ∃ (a ca : Addr) (zs : List Int), vs = [.ref a, .int 3, .int 1] ∧ SrcV a ca zs H ∧
  ∀ (wd : Wd) u H', WOk wd → SrcV a ca zs H' → Same (Off a H) (Off a H') → rWorld wd u (Off a H') → Q u H'
section
variable {P : Program} {w : World} {K : PySem.W.Frag} {mg : Str → Option Value} {base : Heap}
theorem ok__law_ref (T : Txt K mg) : FnOk P w K mg base CX0 3 T._law_ref.f T._law_ref.fd ["source", "rows", "wide"] (spRef) := by
  refine dok T._law_ref.F sc__law_ref (fun vs H Q E h => ?_) (fun cdv A outer s H vs Q E hr h => ?_)
  · obtain ⟨_, _, _, _, _, rfl, _⟩ := h
    rfl
  · obtain ⟨a, ca, zs, _, rows, rfl, s, ⟨r, vs, rfl, hr1, hrs⟩, h1, h2, q⟩ := h
    have hl := hrs.length
    refine ⟨_, (pss_one (ps_ret (pe_tup (pa_cons (pe_ix (ix_listK (K := K)) (pcall T._law_pick (ok__law_pick T) (hr.mono (by decide)) (pa_cons (pv 0) (pa_cons (pv 1) pa_nil))) pe_int (fun _ _ => rfl)) (pa_cons (pe_op op_sub (pcall T._law_draw (ok__law_draw T) (hr.mono (by decide)) (pa_cons (pv 0) (pa_cons (pe_op op_add (pe_op op_mul pe_int (pv 2)) pe_int) pa_nil))) (pv 2)) pa_nil))))), ?_⟩
    refine ⟨_, rfl, _, rfl, a, ca, zs, _, rfl, s, .inr ⟨r, vs, rfl, hr1, by omega, by omega, fun v H1 hv s1 o1 => ?_⟩⟩
    obtain ⟨i, hi⟩ := List.mem_iff_getElem?.mp hv
    obtain ⟨row, hrow, b, rfl, hb⟩ := hrs.getR hi
    have hb1 : Off a H1 b = some (.lst [.str row.1, .int row.2]) := by
      rw [o1]
      exact hb
    refine ⟨b, _, 0, .str row.1, rfl, rfl, .inl (.inl (off_some hb1).2), atI_nat (j := 0) rfl, ?_⟩
    refine ⟨_, rfl, _, rfl, 2, 1, rfl, rfl, .inl ⟨by decide, by decide⟩, _, _, rfl, rfl, a, ca, zs, 3, rfl, by decide, by decide, s1, fun k H2 hk s2 o2 => ?_⟩
    refine ⟨_, rfl, _, _, rfl, rfl, (by show 2 ≤ sizeLine; decide), fun p np => ?_⟩
    have npa := s2.ne np
    refine q (row.1, (k : Int) - 1) _ _ (List.mem_map.mpr ⟨row, List.mem_of_getElem? hrow, rfl⟩) (by show (-1 : Int) ≤ (k : Int) - 1; omega) (by show (k : Int) - 1 ≤ 1; omega) (s2.new np) ?_ ⟨p, rfl, ?_⟩
    · rw [← o1, ← o2]
      exact off_mono (same_new np)
    · rw [off_ne npa]
      exact upd_same
theorem ok__law_rows (T : Txt K mg) : FnOk P w K mg base CX0 5 T._law_rows.f T._law_rows.fd ["source", "most", "strides"] (spRows) := by
  refine dok T._law_rows.F sc__law_rows (fun vs H Q E h => ?_) (fun cdv A outer s H vs Q E hr h => ?_)
  · obtain ⟨_, _, _, rfl, _⟩ := h
    rfl
  · obtain ⟨a, ca, zs, rfl, s, q⟩ := h
    refine ⟨_, (pss_one (ps_ret (pe_lc (own := [("word", 3)]) rfl sc__law_rows.nd (pi_listK (K := K) (pcall T._law_names (ok__law_names T) (hr.mono (by decide)) (pa_cons (pv 0) (pa_cons (pe_op op_add pe_int (pcall T._law_draw (ok__law_draw T) (hr.mono (by decide)) (pa_cons (pv 0) (pa_cons (pv 1) pa_nil)))) pa_nil)))) (blkOk_by (own := [("word", 3)]) (N := N__law_rows) (sc := defScope s__law_rows) (by decide +kernel)) (fun _ _ _ _ _ => (pg_name (i := 3) sc__law_rows.nd rfl (.inl rfl))) (fun _ _ _ _ _ => pts_nil) (fun _ _ _ _ _ => (pe_lst (pa_cons (pv 3) (pa_cons (pe_op op_add pe_int (pcall T._law_draw (ok__law_draw T) (hr.mono (by decide)) (pa_cons (pv 0) (pa_cons (pv 2) pa_nil)))) pa_nil))))))), ?_⟩
    refine ⟨_, rfl, _, rfl, _, rfl, a, ca, zs, 2, rfl, by decide, by decide, s, fun k H1 hk s1 o1 => ?_⟩
    refine ⟨1, (k : Nat), rfl, rfl, a, ca, zs, 1 + k, ?_, s1, by omega, by omega, fun nms u H2 hnl hno hnd s2 so2 hu => ?_⟩
    · exact congrArg (fun z => [V.ref a, V.int z]) (by omega : (1 : Int) + ((k : Nat) : Int) = ((1 + k : Nat) : Int))
    · obtain ⟨nl, vs, rfl, hnl1, hvs⟩ := hu
      have e := all2_str.mp hvs
      subst e
      refine ⟨nl, rfl, ⟨_, .inl (.inl (off_some hnl1).2)⟩, fun D nD => ?_⟩
      refine lcS (S := rRow) (fun j b => nms[j]? = some b.1 ∧ 1 ≤ b.2 ∧ b.2 ≤ 2) (walk_list (K := K) (a := nl) (xs := nms.map V.str)) s2 nD (by rw [List.length_map]; omega) (fun H' s' => .inl (.inl (off_some (s' _ _ hnl1)).2)) (fun i x H3 H4 N hi s3 so3 hD hx kk => ?_) fun H3 bs s3 so3 hbl hbP hL => ?_
      · obtain ⟨rfl, hx⟩ := hx
        rw [List.getElem?_map] at hx
        obtain ⟨y, hy, rfl⟩ := Option.map_eq_some_iff.mp hx
        refine ⟨rfl, _, rfl, _, rfl, _, rfl, a, ca, zs, 2, rfl, by decide, by decide, s3, fun k2 H5 hk2 s5 o5 => ?_⟩
        refine ⟨1, (k2 : Nat), rfl, rfl, (by show 2 ≤ sizeLine; decide), fun p np => ?_⟩
        have npa := s5.ne np
        obtain ⟨xs, hxs⟩ := hD
        have hDa := s2.ne nD
        have hxs5 : H5 D = some (.lst xs) := by
          have h2 := congrFun o5 D
          rw [off_ne hDa, off_ne hDa] at h2
          rw [h2]
          exact hxs
        have hpD : p ≠ D := fun z => by rw [z, hxs5] at np; cases np
        refine kk (y, 1 + (k2 : Int)) _ _ (s5.new np) ?_ ⟨hy, by show (1 : Int) ≤ 1 + (k2 : Int); omega, by show 1 + (k2 : Int) ≤ 2; omega⟩ ⟨p, rfl, ?_⟩
        · rw [← o5]
          exact off_mono (same_new np)
        · rw [off_ne hpD, off_ne npa]
          exact upd_same
      · rw [List.length_map] at hbl
        have hmap : bs.map (·.1) = nms := by
          apply List.ext_getElem?
          intro j
          rw [List.getElem?_map]
          cases hb : bs[j]? with
          | none =>
            have h1 := List.getElem?_eq_none_iff.mp hb
            exact (List.getElem?_eq_none_iff.mpr (by omega)).symm
          | some b => exact (hbP j b hb).1.symm
        refine q bs _ _ ⟨by omega, by omega, fun r hr => ?_, by rw [hmap]; exact hnd⟩ s3 ?_ hL
        · obtain ⟨j, hj⟩ := List.mem_iff_getElem?.mp hr
          have h1 := hbP j r hj
          exact ⟨hno _ (List.mem_of_getElem? h1.1), h1.2⟩
        · rw [← o1]
          exact so2.trans so3
theorem off_ref {H : Hp} {D : Addr} {xs : List V} {r : Str × Int} {v : V} (h : rRef r v H) (e : H D = some (.lst xs)) : rRef r v (Off D H) := by
  obtain ⟨t, rfl, ht⟩ := h
  refine ⟨t, rfl, ?_⟩
  rw [off_ne (fun z => ?_)]
  · exact ht
  · rw [z, e] at ht
    cases ht
theorem off_opt {H : Hp} {D : Addr} {xs : List V} {r : Option (Str × Int)} {v : V} (h : rOpt rRef r v H) (e : H D = some (.lst xs)) : rOpt rRef r v (Off D H) := by
  cases r with
  | none => exact h
  | some r => exact off_ref (show rRef r v H from h) e
theorem rowOk_take {rows : List (Str × Int)} (h : RowOk rows) : RowOk (rows.take 1) := by
  obtain ⟨h1, h2, h3, h4⟩ := h
  refine ⟨by rw [List.length_take]; omega, by rw [List.length_take]; omega, fun r hr => h3 r (List.mem_of_mem_take hr), ?_⟩
  exact h4.sublist ((List.take_sublist _ _).map _)
/-- the deeds so far -/
def DeedP (rows : List (Str × Int)) (nms : List Str) (j : Nat) (d : Dd) : Prop := nms[j]? = some d.name ∧ d.loads.length ≤ 2 ∧ ∀ r ∈ refsOf d, r.1 ∈ rows.map (·.1) ∧ -1 ≤ r.2 ∧ r.2 ≤ 1
theorem ok__law_world (T : Txt K mg) : FnOk P w K mg base CX0 6 T._law_world.f T._law_world.fd ["source", "many", "wide"] (spWorld) := by
  refine dok T._law_world.F sc__law_world (fun vs H Q E h => ?_) (fun cdv A outer s H vs Q E hr h => ?_)
  · obtain ⟨_, _, _, rfl, _⟩ := h
    rfl
  · obtain ⟨a, ca, zs, rfl, s, q⟩ := h
    refine ⟨_, (pss_cons (ps_set (i := 3) sc__law_world.nd rfl (.inr rfl) (pcall T._law_rows (ok__law_rows T) (hr.mono (by decide)) (pa_cons (pv 0) (pa_cons pe_int (pa_cons pe_int pa_nil)))))
      (pss_cutW (ps_if (pt_cmpR op_eq (pcall T._law_draw (ok__law_draw T) (hr.mono (by decide)) (pa_cons (pv 0) (pa_cons pe_int pa_nil))) pe_int (nomark _)) (pss_one (ps_set (i := 3) sc__law_world.nd rfl (.inr rfl) (pe_slice (sl_listK (K := K)) (pv 3) po_none (po_some pe_int)))) pss_nil)
      (pss_cons (ps_set (i := 4) sc__law_world.nd rfl (.inl rfl) (pe_lst pa_nil))
      (pss_cons (ps_for PassesOwn.never rfl (pi_listK (K := K) (pcall T._law_names (ok__law_names T) (hr.mono (by decide)) (pa_cons (pv 0) (pa_cons (pe_op op_add pe_int (pcall T._law_draw (ok__law_draw T) (hr.mono (by decide)) (pa_cons (pv 0) (pa_cons (pv 1) pa_nil)))) pa_nil)))) (pg_name (i := 5) sc__law_world.nd rfl (.inl rfl))
      (pss_cons (ps_set (i := 6) sc__law_world.nd rfl (.inl rfl) pe_non)
      (pss_cutW (ps_if (pt_cmpR op_gt (pcall T._law_draw (ok__law_draw T) (hr.mono (by decide)) (pa_cons (pv 0) (pa_cons pe_int pa_nil))) pe_int (nomark _)) (pss_one (ps_set (i := 6) sc__law_world.nd rfl (.inl rfl) (pcall T._law_ref (ok__law_ref T) (hr.mono (by decide)) (pa_cons (pv 0) (pa_cons (pv 3) (pa_cons (pv 2) pa_nil)))))) pss_nil)
      (pss_one (ps_expr (pe_bmK (K := K) PySem.F.plainAttrs_list PySem.F.slot_list_append PySem.F.type_list_append mt_append (pv 4) (pa_cons (pe_lst (pa_cons (pv 5) (pa_cons (pv 6) (pa_cons (pe_lc (own := [("turn", 7)]) rfl sc__law_world.nd (pi_range1 (by rfl) T.range_ (pa_cons (pcall T._law_draw (ok__law_draw T) (hr.mono (by decide)) (pa_cons (pv 0) (pa_cons pe_int pa_nil))) pa_nil)) (blkOk_by (own := [("turn", 7)]) (N := N__law_world) (sc := defScope s__law_world) (by decide +kernel)) (fun _ _ _ _ _ => (pg_name (i := 7) sc__law_world.nd rfl (.inl rfl))) (fun _ _ _ _ _ => pts_nil) (fun _ _ _ _ _ => (pcall T._law_ref (ok__law_ref T) (hr.mono (by decide)) (pa_cons (pv 0) (pa_cons (pv 3) (pa_cons (pv 2) pa_nil)))))) pa_nil)))) pa_nil)))))))
      (pss_one (ps_ret (pe_lst (pa_cons (pv 3) (pa_cons (pv 4) pa_nil))))))))), ?_⟩
    refine ⟨_, rfl, a, ca, zs, rfl, s, fun rows0 rv0 H1 hok0 s1 so1 hrv0 => ?_⟩
    refine ⟨fun σ' H' => ∃ rv rows, σ' = [some (.ref a), some (.int 3), some (.int 1), some rv, none, none, none, none] ∧ RowOk rows ∧ SrcV a ca zs H' ∧ Same (Off a H) (Off a H') ∧ rL rRow rows rv (Off a H'), ?_, ?_⟩
    · refine ⟨_, rfl, a, ca, zs, 2, rfl, by decide, by decide, s1, fun k H2 hk s2 o2 => ?_⟩
      have so2 : Same (Off a H) (Off a H2) := by rw [o2]; exact so1
      refine ⟨rfl, _, rfl, ?_⟩
      refine ite2D (fun _ => ?_) fun _ => ⟨rv0, rows0, rfl, hok0, s2, so2, by rw [o2]; exact hrv0⟩
      obtain ⟨r, vs, rfl, hr, hrs⟩ := hrv0
      rw [← o2] at hr hrs
      refine ⟨_, rfl, 1, rfl, r, vs, rfl, .inl (.inl (off_some hr).2), fun p np => ?_⟩
      have ec : cutV vs none (some (1 : Int)) = vs.take 1 := cut_take (α := V) vs 1
      rw [ec]
      have npa := s2.ne np
      have so3 := off_mono (a := a) (same_new (o := .lst (vs.take 1)) np)
      exact ⟨.ref p, rows0.take 1, rfl, rowOk_take hok0, s2.new np, so2.trans so3, ⟨p, vs.take 1, rfl, by rw [off_ne npa]; exact upd_same, (hrs.take 1).mono so3⟩⟩
    · rintro σ' H2 ⟨rv, rows, rfl, hok, s2, so2, hrv⟩
      refine ⟨(by show 0 ≤ sizeLine; decide), fun D nD => ?_⟩
      have sD := s2.new (o := .lst []) nD
      have hDa := s2.ne nD
      have hDc : D ≠ ca := (ne_of_none s2.2.1 nD).symm
      have soD := off_mono (a := a) (same_new (o := .lst []) nD)
      refine ⟨_, rfl, _, rfl, _, rfl, a, ca, zs, 3, rfl, by decide, by decide, sD, fun k H3 hk s3 o3 => ?_⟩
      refine ⟨1, (k : Nat), rfl, rfl, a, ca, zs, 1 + k, ?_, s3, by omega, by omega, fun nms u H4 hnl hno hnd s4 so4 hu => ?_⟩
      · exact congrArg (fun z => [V.ref a, V.int z]) (by omega : (1 : Int) + ((k : Nat) : Int) = ((1 + k : Nat) : Int))
      rw [o3] at so4
      obtain ⟨nl, nvs, rfl, hnl1, hnvs⟩ := hu
      have e := all2_str.mp hnvs
      subst e
      have eD4 : Off a H4 D = some (.lst []) := so4 _ _ (by rw [off_ne hDa]; exact upd_same)
      have hnD : nl ≠ D := fun z => by
        rw [z, eD4] at hnl1
        injection hnl1 with hnl1
        injection hnl1 with hnl1
        have := congrArg List.length hnl1
        rw [List.length_map] at this
        simp at this
        omega
      have so24 : Same (Off a H2) (Off a H4) := soD.trans so4
      refine ⟨nl, rfl, ⟨_, .inl (.inl (off_some hnl1).2)⟩, for_it (walk_list (K := K) (a := nl) (xs := nms.map V.str)) (fun i σ' H' => ∃ y5 y6, σ' = [some (.ref a), some (.int 3), some (.int 1), some rv, some (.ref D), y5, y6, none] ∧ SrcV a ca zs H' ∧ Same (Off a H2) (Off a H') ∧ Off a H' nl = some (.lst (nms.map V.str)) ∧
          ∃ ds acc, ds.length = i ∧ (∀ j d, ds[j]? = some d → DeedP rows nms j d) ∧ H' D = some (.lst acc) ∧ All2 rDeed (Off D (Off a H')) ds acc)
        ⟨none, none, rfl, s4, so24, hnl1, [], [], rfl, fun j d e => by simp at e, (off_some eD4).2, True.intro⟩ (fun i σ' H' _ ⟨_, _, _, _, _, e, _⟩ => .inl (.inl (off_some e).2)) ?_ ?_⟩
      · rintro i y σ' H5 H6 hi ⟨y5, y6, rfl, s5, so5, hn5, ds, acc, hdl, hdP, eD5, aD5⟩ ⟨rfl, hy⟩
        rw [List.getElem?_map] at hy
        obtain ⟨nm, hnm, rfl⟩ := Option.map_eq_some_iff.mp hy
        refine ⟨fun σ' H' => ∃ g gv, σ' = [some (.ref a), some (.int 3), some (.int 1), some rv, some (.ref D), some (.str nm), some gv, none] ∧ SrcV a ca zs H' ∧ Same (Off a H6) (Off a H') ∧ rOpt rRef g gv (Off a H') ∧ ∀ r, g = some r → r.1 ∈ rows.map (·.1) ∧ -1 ≤ r.2 ∧ r.2 ≤ 1, ?_, ?_⟩
        · refine ⟨_, rfl, a, ca, zs, 6, rfl, by decide, by decide, s5, fun k7 H7 hk7 s7 o7 => ?_⟩
          refine ⟨(k7 : Nat), 0, rfl, rfl, _, rfl, ?_⟩
          refine ite2D (fun _ => ?_) fun _ => ⟨none, .non, rfl, s7, by rw [o7]; exact Same.refl _, rfl, fun r z => by cases z⟩
          refine ⟨_, rfl, _, rfl, _, rfl, a, ca, zs, rv, rows, rfl, s7, by rw [o7]; exact Mono.mono so5 hrv, hok.1, hok.2.1, fun r u H8 h1 h2 h3 s8 so8 hu => ?_⟩
          exact ⟨some r, u, rfl, s8, by rw [← o7]; exact so8, hu, fun r' z => by cases z; exact ⟨h1, h2, h3⟩⟩
        · rintro σ' H7 ⟨g, gv, rfl, s7, so7, hg, hgP⟩
          have eD7 : Off a H7 D = some (.lst acc) := so7 _ _ (by rw [off_ne hDa]; exact eD5)
          refine ⟨_, rfl, .inl ⟨rfl, _, .inl (.inl (off_some eD7).2)⟩, _, rfl, _, rfl, _, rfl, a, ca, zs, 3, rfl, by decide, by decide, s7, fun k8 H8 hk8 s8 o8 => ?_⟩
          refine ⟨(k8 : Nat), rfl, by omega, by omega, fun D2 nD2 => ?_⟩
          have so78 : Same (Off a H7) (Off a H8) := by rw [o8]; exact Same.refl _
          have eD8 := so78 _ _ eD7
          have hD2a := s8.ne nD2
          have hD2D : D2 ≠ D := fun z => by rw [z, (off_some eD8).2] at nD2; cases nD2
          refine lcS (S := rRef) (fun _ r => r.1 ∈ rows.map (·.1) ∧ -1 ≤ r.2 ∧ r.2 ≤ 1) walk_r0 s8 nD2 (by omega) (fun _ _ => True.intro) (fun j x H9 H10 N hj s9 so9 hD9 hx kk => ?_) fun H9 ls s9 so9 hll hlP hL => ?_
          · obtain ⟨rfl, rfl⟩ := hx
            refine ⟨rfl, _, rfl, _, rfl, _, rfl, a, ca, zs, rv, rows, rfl, s9, Mono.mono (((so5.trans so7).trans so78).trans so9) hrv, hok.1, hok.2.1, fun r u H11 h1 h2 h3 s11 so11 hu => ?_⟩
            obtain ⟨xs, hxs⟩ := hD9
            exact kk r u H11 s11 so11 ⟨h1, h2, h3⟩ (off_ref hu (so11 _ _ (by rw [off_ne hD2a]; exact hxs)))
          · have eD9 := so9 _ _ eD8
            refine ⟨(by show 3 ≤ sizeLine; decide), fun p np => ?_⟩
            have npa := s9.ne np
            have npD : p ≠ D := fun z => by rw [z, (off_some eD9).2] at np; cases np
            have sop := off_mono (a := a) (same_new (o := .lst [.str nm, gv, .ref D2]) np)
            have so59 := (so7.trans so78).trans so9
            refine ⟨D, acc, .ref p, rfl, rfl, (off_some (sop _ _ eD9)).2, all2_len aD5 (by rw [hdl]; rw [List.length_map] at hi; omega), _, _, rfl, (s9.new np).set hDa hDc, ?_, ?_, ds ++ [⟨nm, g, ls⟩], acc ++ [.ref p], by rw [List.length_append, hdl]; rfl, fun j d e => ?_, upd_same, ?_⟩
            · rw [off_upd hDa]
              exact Same.put ((so5.trans so59).trans sop) (off_none nD)
            · rw [off_upd hDa, upd_ne hnD]
              exact sop _ _ (so59 _ _ hn5)
            · rcases Nat.lt_trichotomy j ds.length with h | h | h
              · rw [List.getElem?_append_left h] at e
                exact hdP j d e
              · subst h
                rw [List.getElem?_append_right (Nat.le_refl _)] at e
                simp at e
                subst e
                refine ⟨by rw [hdl]; exact hnm, by show ls.length ≤ 2; omega, fun r hr => ?_⟩
                rcases List.mem_append.mp hr with h | h
                · obtain ⟨jj, hjj⟩ := List.mem_iff_getElem?.mp h
                  exact hlP jj r hjj
                · have h2 : r ∈ g.toList := h
                  cases g with
                  | none => simp at h2
                  | some r' =>
                    simp at h2
                    rw [h2]
                    exact hgP r' rfl
              · rw [List.getElem?_append_right (by omega)] at e
                have h2 : j - ds.length ≠ 0 := by omega
                obtain ⟨m, hm⟩ := Nat.exists_eq_succ_of_ne_zero h2
                rw [hm] at e
                simp at e
            · rw [off_upd hDa, off_put]
              refine ((aD5.mono (off_mono so59)).mono (off_mono sop)).snoc ⟨gv, .ref D2, ⟨p, rfl, ?_⟩, ?_, ?_⟩
              · rw [off_ne npD, off_ne npa]
                exact upd_same
              · exact off_opt (Mono.mono (R := rOpt rRef) sop (Mono.mono (R := rOpt rRef) (so78.trans so9) hg)) (sop _ _ eD9)
              · obtain ⟨_, lv, hz, hlv, hlva⟩ := hL
                cases hz
                refine ⟨D2, lv, rfl, ?_, (hlva.mono sop).imp fun _ _ q => off_ref q (sop _ _ eD9)⟩
                rw [off_ne hD2D]
                exact sop _ _ hlv
      · rintro σ' H5 ⟨y5, y6, rfl, s5, so5, hn5, ds, acc, hdl, hdP, eD5, aD5⟩
        rw [List.length_map] at hdl
        refine ⟨_, rfl, _, rfl, (by show 2 ≤ sizeLine; decide), fun p np => ?_⟩
        have npa := s5.ne np
        have sop := off_mono (a := a) (same_new (o := .lst [rv, .ref D]) np)
        have hmap : ds.map (·.name) = nms := by
          apply List.ext_getElem?
          intro j
          rw [List.getElem?_map]
          cases hb : ds[j]? with
          | none =>
            have h1 := List.getElem?_eq_none_iff.mp hb
            exact (List.getElem?_eq_none_iff.mpr (by omega)).symm
          | some b => exact (hdP j b hb).1.symm
        have hd : ∀ d ∈ ds, ∃ j, DeedP rows nms j d := fun d hd => by
          obtain ⟨j, hj⟩ := List.mem_iff_getElem?.mp hd
          exact ⟨j, hdP j d hj⟩
        refine q ⟨rows, ds⟩ _ _ ⟨hok.1, hok.2.1, hok.2.2.1, hok.2.2.2, by show 1 ≤ ds.length; omega, by show ds.length ≤ 3; omega, fun d h => ?_, ?_, fun d h => ?_, fun d h r hr => ?_⟩ (s5.new np) ((so2.trans so5).trans sop) ⟨rv, .ref D, ⟨p, rfl, ?_⟩, Mono.mono (so5.trans sop) hrv, ⟨D, acc, rfl, ?_, (aD5.mono off_le).mono sop⟩⟩
        · obtain ⟨j, hj⟩ := hd d h
          exact hno _ (List.mem_of_getElem? hj.1)
        · show (ds.map (·.name)).Nodup
          rw [hmap]
          exact hnd
        · obtain ⟨j, hj⟩ := hd d h
          exact hj.2.1
        · obtain ⟨j, hj⟩ := hd d h
          exact hj.2.2 r hr
        · rw [off_ne npa]
          exact upd_same
        · refine sop _ _ ?_
          rw [off_ne hDa]
          exact eD5
end
end VW

set_option maxHeartbeats 4000000
namespace VW
open PySem PySem.Spec PyProof.Rows L2
def rWo : Rp Wd := fun wd v H => rWorld wd v H ∧ WOk wd
instance : Mono rWo := ⟨fun s h => ⟨Mono.mono s h.1, h.2⟩⟩
theorem but_same {x : Addr} {H H1 H' : Hp} (nx : H x = none) (s : Same H H1) (b : But x H1 H') : Same H H' := fun c o e => b c o (s c o e) (ne_of_none e nx)
section
variable {X : Cx} {k : Nat} {x m qual : Str} {st : Stmt} {ps : List Str} {sp : Sp} {e : Expr} {es : List Expr} {t : TA} {p pos : Pos} {dvs : List V} {K : PySem.W.Frag} {mg : Str → Option Value}
theorem pmakeK (c : Cd K mg x) (D : Id K c.C qual st dvs) (b : Binds K D.fd ps []) (qK : X.K = K) (qm : X.mg = mg) (G : FnOk X.prog X.w K mg X.base CX0 k D.f D.fd ps sp) (hr : Room (k + 1) X.A) (ha : PA X (e :: es) t) (hg : Gl X x := by rfl) (hdb : (x == ("__debug__" : Str)) = false := by decide)
    (he : starEach (e :: es) X.env = (false, eval e X.env) :: starEach es X.env := by rfl) (hpl : (backTo pos (starEach es X.env)).any (·.1) = false := by rfl) : PE X (.Call (.Name x p) (e :: es) [] pos) (tMake c.C sp [] E0 t) := by
  subst qK qm
  exact pmake c D b G hr ha hg hdb he hpl
end
section
variable {P : Program} {w : World} {K : PySem.W.Frag} {mg : Str → Option Value} {base : Heap}
theorem deed_make (T : Txt K mg) {H : Hp} {d : Dd} {g : V} {lv : List V} (hd : DOk d) (hg : rOpt rRef d.goal g H) (hl : All2 rRef H d.loads lv) {x dy p : Addr} {o : HO} (nx : H x = none) (nd : H dy = none) (np : (upd (upd H dy o) x (.ins T.cStatement.C dy [])) p = none) {Q : VK} {E : XK}
    (q : ∀ H', Same H H' → rStmt T.cStatement.C d (.ref x) H' → Q .non H') : spStmtInit T.cStatement.C [.ref x, .str d.name, g, .ref p] (upd (upd (upd H dy o) x (.ins T.cStatement.C dy [])) p (.tup lv)) Q E := by
  have s1 : Same H (upd (upd (upd H dy o) x (.ins T.cStatement.C dy [])) p (.tup lv)) := Same.new (made_same nx nd) np
  have hpx : p ≠ x := fun z => by rw [z, upd_same] at np; cases np
  refine ⟨x, dy, p, d, g, lv, rfl, ?_, Mono.mono s1 hg, upd_same, hl.mono s1, hd, fun H' hb hx => ?_⟩
  · rw [upd_ne (Ne.symm hpx)]
    exact upd_same
  · have s2 := but_same nx s1 hb
    exact q H' s2 ⟨x, dy, g, .ref p, rfl, hx, Mono.mono s2 hg, p, lv, rfl, hb _ _ upd_same hpx, hl.mono s2⟩
theorem ok__law_deed (T : Txt K mg) : FnOk P w K mg base CX0 7 T._law_deed.f T._law_deed.fd ["deed"] (sp1 (fun d v H => rDeed d v H ∧ DOk d ∧ d.loads.length ≤ 2) (fun d => rStmt T.cStatement.C d)) := by
  refine dok T._law_deed.F sc__law_deed (fun vs H Q E h => ?_) (fun cdv A outer s H vs Q E hr h => ?_)
  · exact sp1_len h
  · obtain ⟨d, _, rfl, ⟨⟨g, l, ⟨b, rfl, hb⟩, hg, ⟨la, lv, rfl, hla, hlv⟩⟩, hd, h2⟩, q⟩ := h
    have hl := hlv.length
    refine ⟨_, (pss_cons (ps_asg (pv 0) (pg_unlK (K := K) 3 rfl (pgs_cons (pg_name (i := 1) sc__law_deed.nd rfl (.inl rfl)) (pgs_cons (pg_name (i := 2) sc__law_deed.nd rfl (.inl rfl)) (pgs_cons (pg_name (i := 3) sc__law_deed.nd rfl (.inl rfl)) pgs_nil)))))
      (pss_cons (ps_if (pt_cmpR op_eq (pe_callB (call_lenK (K := K)) (by rfl) T.len_ (by decide +kernel) (pa_cons (pv 3) pa_nil)) pe_int (nomark _)) (pss_one (ps_ret (StX.pe_makeR T.Statement_init.M (ok_Statement_init T) (hr.mono (by decide)) (by rfl) T.cStatement.g pass0 (pa_cons (pv 1) (pa_cons (pv 2) pa_nil))))) pss_nil)
      (pss_cons (ps_if (pt_cmpR op_eq (pe_callB (call_lenK (K := K)) (by rfl) T.len_ (by decide +kernel) (pa_cons (pv 3) pa_nil)) pe_int (nomark _)) (pss_one (ps_ret (StX.pe_makeR T.Statement_init.M (ok_Statement_init T) (hr.mono (by decide)) (by rfl) T.cStatement.g pass0 (pa_cons (pv 1) (pa_cons (pv 2) (pa_cons (pe_ix (ix_listK (K := K)) (pv 3) pe_int (fun _ _ => rfl)) pa_nil)))))) pss_nil)
      (pss_cons (ps_if (pt_cmpR op_eq (pe_callB (call_lenK (K := K)) (by rfl) T.len_ (by decide +kernel) (pa_cons (pv 3) pa_nil)) pe_int (nomark _)) (pss_one (ps_ret (StX.pe_makeR T.Statement_init.M (ok_Statement_init T) (hr.mono (by decide)) (by rfl) T.cStatement.g pass0 (pa_cons (pv 1) (pa_cons (pv 2) (pa_cons (pe_ix (ix_listK (K := K)) (pv 3) pe_int (fun _ _ => rfl)) (pa_cons (pe_ix (ix_listK (K := K)) (pv 3) pe_int (fun _ _ => rfl)) pa_nil))))))) pss_nil)
      (pss_one (ps_ret (StX.pe_makeR T.Statement_init.M (ok_Statement_init T) (hr.mono (by decide)) (by rfl) T.cStatement.g pass0 (pa_cons (pv 1) (pa_cons (pv 2) (pa_cons (pe_ix (ix_listK (K := K)) (pv 3) pe_int (fun _ _ => rfl)) (pa_cons (pe_ix (ix_listK (K := K)) (pv 3) pe_int (fun _ _ => rfl)) (pa_cons (pe_ix (ix_listK (K := K)) (pv 3) pe_int (fun _ _ => rfl)) pa_nil)))))))))))), ?_⟩
    refine ⟨_, rfl, b, _, rfl, .inl (.inl hb), rfl, _, _, rfl, _, _, rfl, _, _, rfl, rfl, ?_⟩
    have n10 : ¬ V.int ((1 : Nat) : Int) = V.int 0 := fun z => absurd (V.int.inj z) (by decide)
    have n20 : ¬ V.int ((2 : Nat) : Int) = V.int 0 := fun z => absurd (V.int.inj z) (by decide)
    have n21 : ¬ V.int ((2 : Nat) : Int) = V.int 1 := fun z => absurd (V.int.inj z) (by decide)
    match lv, hla, hlv, hl with
    | [], hla, hlv, hl =>
      refine ⟨_, rfl, la, _, rfl, .inl (.inl (.inl hla)), rfl, _, rfl, iteY rfl ?_⟩
      refine ⟨_, rfl, _, rfl, fun x dy nx nd hxy => ⟨[.ref x, .str d.name, g], [], by simp, rfl, by rw [sizeLine_eq]; simp, fun p np => ?_⟩⟩
      exact deed_make T hd hg hlv nx nd np fun H' s' hs' => ⟨rfl, q _ _ s' hs'⟩
    | [v0], hla, hlv, hl =>
      refine ⟨_, rfl, la, _, rfl, .inl (.inl (.inl hla)), rfl, _, rfl, iteN n10 ?_⟩
      refine ⟨_, rfl, la, _, rfl, .inl (.inl (.inl hla)), rfl, _, rfl, iteY rfl ?_⟩
      refine ⟨_, rfl, _, rfl, _, rfl, la, _, 0, v0, rfl, rfl, .inl (.inl hla), atI_nat (j := 0) rfl, fun x dy nx nd hxy => ⟨[.ref x, .str d.name, g], [v0], by simp, rfl, by rw [sizeLine_eq]; simp, fun p np => ?_⟩⟩
      exact deed_make T hd hg hlv nx nd np fun H' s' hs' => ⟨rfl, q _ _ s' hs'⟩
    | [v0, v1], hla, hlv, hl =>
      refine ⟨_, rfl, la, _, rfl, .inl (.inl (.inl hla)), rfl, _, rfl, iteN n20 ?_⟩
      refine ⟨_, rfl, la, _, rfl, .inl (.inl (.inl hla)), rfl, _, rfl, iteN n21 ?_⟩
      refine ⟨_, rfl, la, _, rfl, .inl (.inl (.inl hla)), rfl, _, rfl, iteY rfl ?_⟩
      refine ⟨_, rfl, _, rfl, _, rfl, la, _, 0, v0, rfl, rfl, .inl (.inl hla), atI_nat (j := 0) rfl, _, rfl, la, _, 1, v1, rfl, rfl, .inl (.inl hla), atI_nat (j := 1) rfl, fun x dy nx nd hxy => ⟨[.ref x, .str d.name, g], [v0, v1], by simp, rfl, by rw [sizeLine_eq]; simp, fun p np => ?_⟩⟩
      exact deed_make T hd hg hlv nx nd np fun H' s' hs' => ⟨rfl, q _ _ s' hs'⟩
    | v0 :: v1 :: v2 :: r, hla, hlv, hl =>
      simp at hl
      omega
theorem wok_prefix {wd : Wd} (o : WOk wd) {k : Nat} (hk : 1 ≤ k) : WOk ⟨wd.rows, wd.deeds.take k⟩ := by
  have d1 := o.d1
  have d2 := o.d2
  refine ⟨o.r1, o.r2, o.rn, o.rd, by show 1 ≤ (wd.deeds.take k).length; rw [List.length_take]; omega, by show (wd.deeds.take k).length ≤ 3; rw [List.length_take]; omega, fun d h => o.dn d (List.mem_of_mem_take h), ?_, fun d h => o.dl d (List.mem_of_mem_take h), fun d h => o.dr d (List.mem_of_mem_take h)⟩
  exact o.dd.sublist ((List.take_sublist _ _).map _)
theorem ok__law_loop (T : Txt K mg) : FnOk P w K mg base CX0 8 T._law_loop.f T._law_loop.fd ["world"] (sp1 rWo (fun wd => LpOk T wd)) := by
  refine dok T._law_loop.F sc__law_loop (fun vs H Q E h => ?_) (fun cdv A outer s H vs Q E hr h => ?_)
  · exact sp1_len h
  · obtain ⟨wd, _, rfl, ⟨⟨rv, dv, ⟨wa, rfl, hwa⟩, ⟨ra, rvs, rfl, hra, hrs⟩, ⟨da, dvs, rfl, hda, hds⟩⟩, o⟩, q⟩ := h
    have hrl := hrs.length
    have hdl := hds.length
    have r1 := o.r1
    have r2 := o.r2
    have d1 := o.d1
    have d2 := o.d2
    refine ⟨_, (pss_cons (ps_set (i := 1) sc__law_loop.nd rfl (.inl rfl) (StX.pe_makeR T.Loop_init.M (ok_Loop_init T) (hr.mono (by decide)) (by rfl) T.cLoop.g pass0 (pa_cons (pe_lc (own := [("word", 3), ("step", 4)]) rfl sc__law_loop.nd (pi_listK (K := K) (pe_ix (ix_listK (K := K)) (pv 0) pe_int (fun _ _ => rfl))) (blkOk_by (own := [("word", 3), ("step", 4)]) (N := N__law_loop) (sc := defScope s__law_loop) (by decide +kernel)) (fun _ _ _ _ _ => (pg_unlK (K := K) 2 rfl (pgs_cons (pg_name (i := 3) sc__law_loop.nd rfl (.inl rfl)) (pgs_cons (pg_name (i := 4) sc__law_loop.nd rfl (.inl rfl)) pgs_nil)))) (fun _ _ _ _ _ => pts_nil) (fun _ _ _ _ _ => (pmakeK T.cLine T.Line_init T.Line_init_b rfl rfl (ok_Line_init T) (hr.mono (by decide)) (pa_cons (pv 3) (pa_cons (pv 4) pa_nil))))) (pa_cons (pcall T._law_deed (ok__law_deed T) (hr.mono (by decide)) (pa_cons (pe_ix (ix_listK (K := K)) (pe_ix (ix_listK (K := K)) (pv 0) pe_int (fun _ _ => rfl)) pe_int (fun _ _ => rfl)) pa_nil)) pa_nil))))
      (pss_cons (ps_for PassesOwn.never rfl (pi_listK (K := K) (pe_slice (sl_listK (K := K)) (pe_ix (ix_listK (K := K)) (pv 0) pe_int (fun _ _ => rfl)) (po_some pe_int) po_none)) (pg_name (i := 2) sc__law_loop.nd rfl (.inl rfl))
      (pss_one (ps_set (i := 1) sc__law_loop.nd rfl (.inl rfl) (pe_op (T.addO (ok_Loop_add T) (hr.mono (by decide))) (pv 1) (pcall T._law_deed (ok__law_deed T) (hr.mono (by decide)) (pa_cons (pv 2) pa_nil))))))
      (pss_one (ps_ret (pv 1))))), ?_⟩
    refine ⟨_, rfl, wa, _, 0, .ref ra, rfl, rfl, .inl (.inl hwa), atI_nat (j := 0) rfl, ra, rfl, ⟨_, .inl (.inl hra)⟩, fun D nD => ?_⟩
    refine lc_map (S := rLine T.cLine.C) (fun i => wd.rows.getD i (Str.empty, 0)) (walk_list (K := K) (a := ra) (xs := rvs)) nD (by omega) (fun H' s' => .inl (.inl (s' _ _ hra))) (fun i x H1 H2 N hi s1 hx k => ?_) fun H1 m => ?_
    · obtain ⟨rfl, hx⟩ := hx
      obtain ⟨r, hr, b, rfl, hb⟩ := hrs.getR hx
      have er : wd.rows.getD i (Str.empty, 0) = r := by rw [List.getD_eq_getElem?_getD, hr]; rfl
      rw [er] at k
      have hro := o.rn r (List.mem_of_getElem? hr)
      refine ⟨b, _, rfl, .inl (.inl (s1 _ _ hb)), rfl, _, _, rfl, _, _, rfl, rfl, rfl, ?_⟩
      refine ⟨_, rfl, _, rfl, fun y dy ny nd hyd => ⟨y, dy, r, rfl, upd_same, hro.1, hro.2.1, by omega, fun H' hbut hy => ⟨rfl, k _ _ (but_same ny (made_same ny nd) hbut) ⟨y, dy, rfl, hy⟩⟩⟩⟩
    · have e : (List.range rvs.length).map (fun i => wd.rows.getD i (Str.empty, 0)) = wd.rows := by
        rw [← hrl]
        exact (@range_map_get _ _ ⟨(Str.empty, 0)⟩ wd.rows id).trans (List.map_id _)
      rw [e] at m
      have sm := m.1
      have hL := m.done
      obtain ⟨dv0, hdv0, hd0⟩ := hds.get (deed_get (wd := wd) (j := 0) (by omega))
      have hm0 := deed_mem (wd := wd) (j := 0) (by omega)
      refine ⟨_, rfl, wa, _, 1, .ref da, rfl, rfl, .inl (.inl (sm _ _ hwa)), atI_nat (j := 1) rfl, da, _, 0, dv0, rfl, rfl, .inl (.inl (sm _ _ hda)), atI_nat (j := 0) hdv0, ?_⟩
      refine ⟨deedAt wd 0, _, rfl, ⟨Mono.mono sm hd0, o.dok hm0, o.dl _ hm0⟩, fun u H2 s2 hu => ?_⟩
      intro x dx nx nd hxd
      refine ⟨[.ref x, .ref D], [u], by simp, rfl, by rw [sizeLine_eq]; simp, fun p np => ?_⟩
      have et : wd.deeds.take 1 = [deedAt wd 0] := by
        rw [List.take_add_one, deed_get (wd := wd) (j := 0) (by omega)]
        rfl
      have hpx : p ≠ x := fun z => by rw [z, upd_same] at np; cases np
      have sN : Same H2 (upd (upd (upd H2 dx (.own x)) x (.ins T.cLoop.C dx [])) p (.tup [u])) := Same.new (made_same nx nd) np
      obtain ⟨_, lvs, hz, hlvs, hlva⟩ := hL
      cases hz
      refine ⟨H2, x, dx, .ref D, p, ⟨wd.rows, wd.deeds.take 1⟩, [u], rfl, nx, sN, by rw [upd_ne (Ne.symm hpx)]; exact upd_same, ⟨D, lvs, rfl, .inl (s2 _ _ hlvs), hlva.mono s2⟩, upd_same, by rw [et]; exact ⟨hu, True.intro⟩, wok_prefix o (Nat.le_refl _), fun H3 s3 hlp => ⟨rfl, ?_⟩⟩
      have s03 := (sm.trans s2).trans s3
      refine ⟨_, rfl, wa, _, 1, .ref da, rfl, rfl, .inl (.inl (s03 _ _ hwa)), atI_nat (j := 1) rfl, 1, rfl, da, dvs, rfl, .inl (.inl (s03 _ _ hda)), fun p2 np2 => ?_⟩
      have ec : cutV dvs (some (1 : Int)) none = dvs.drop 1 := cut_drop dvs 1
      rw [ec]
      have s4 := same_new (o := .lst (dvs.drop 1)) np2
      generalize eH4 : upd H3 p2 (.lst (dvs.drop 1)) = H4 at s4
      have ep2 : H4 p2 = some (.lst (dvs.drop 1)) := by rw [← eH4]; exact upd_same
      have s04 := s03.trans s4
      refine ⟨p2, rfl, ⟨_, .inl (.inl ep2)⟩, for_it (walk_list (K := K) (a := p2) (xs := dvs.drop 1)) (fun i σ' H' => ∃ y2 lv, σ' = [some (.ref wa), some lv, y2, none, none] ∧ Same H4 H' ∧ LpOk T ⟨wd.rows, wd.deeds.take (i + 1)⟩ lv H')
        ⟨none, .ref x, rfl, Same.refl _, Mono.mono s4 ⟨hlp, wok_prefix o (Nat.le_refl _)⟩⟩ (fun i σ' H' _ ⟨_, _, _, s5, _⟩ => .inl (.inl (s5 _ _ ep2))) ?_ ?_⟩
      · rintro i y σ' H5 H6 hi ⟨y2, lv, rfl, s5, hlp5⟩ ⟨rfl, hy⟩
        rw [List.getElem?_drop] at hy
        obtain ⟨d, hd, hdr⟩ := hds.getR hy
        have hdm := List.mem_of_getElem? hd
        have htk : wd.deeds.take (i + 1) ++ [d] = wd.deeds.take (i + 1 + 1) := by
          rw [List.take_add_one (i := i + 1), show wd.deeds[i + 1]? = some d by rw [Nat.add_comm]; exact hd]
          rfl
        obtain ⟨⟨a, adx, ll, lst, lt, rfl, haa, _⟩, _⟩ := id hlp5
        refine ⟨_, rfl, _, rfl, d, _, rfl, ⟨Mono.mono (s04.trans s5) hdr, o.dok hdm, o.dl d hdm⟩, fun u6 H7 s7 hu6 => ?_⟩
        have hu7 : rStmt T.cStatement.C d u6 H7 := hu6
        obtain ⟨b, bdy, bg, bs, rfl, hbb, _⟩ := id hu7
        refine ⟨a, adx, _, b, bdy, _, rfl, rfl, s7 _ _ haa, hbb, ⟨wd.rows, wd.deeds.take (i + 1)⟩, d, _, _, rfl, Mono.mono s7 hlp5, ⟨hu7, by rw [htk]; exact wok_prefix o (by omega)⟩, fun u8 H8 s8 hu8 => ?_⟩
        have hu9 : rLoop T.cLine.C T.cStatement.C T.cLoop.C ⟨wd.rows, wd.deeds.take (i + 1) ++ [d]⟩ u8 H8 := hu8
        rw [htk] at hu9
        obtain ⟨c, _, _, _, _, rfl, _⟩ := id hu9
        exact ⟨⟨c, rfl⟩, _, _, rfl, (s5.trans s7).trans s8, hu9, wok_prefix o (by omega)⟩
      · rintro σ' H5 ⟨y2, lv, rfl, s5, hlp5⟩
        have ef : wd.deeds.take ((dvs.drop 1).length + 1) = wd.deeds := List.take_of_length_le (by rw [List.length_drop]; omega)
        rw [ef] at hlp5
        exact ⟨_, rfl, q _ _ (s04.trans s5) hlp5⟩
end
end VW

set_option maxHeartbeats 4000000
namespace VW
open PySem PySem.Spec PyProof.Rows L2
section
variable {P : Program} {w : World} {K : PySem.W.Frag} {mg : Str → Option Value} {base : Heap}
theorem ok__law_turn (T : Txt K mg) : FnOk P w K mg base CX0 1 T._law_turn.f T._law_turn.fd ["world", "number", "at"] (sp3 rWo rJ (fun _ _ => rNat) (fun wd j i => rL rEv (turnEv wd j i))) := by
  refine dok T._law_turn.F sc__law_turn (fun vs H Q E h => ?_) (fun cdv A outer s H vs Q E hr h => ?_)
  · exact sp3_len h
  · obtain ⟨wd, j, i, _, _, _, rfl, ⟨⟨rv, dv, ⟨wa, rfl, hwa⟩, hrows, ⟨da, dvs, rfl, hda, hds⟩⟩, o⟩, ⟨rfl, hj⟩, rfl, q⟩ := h
    obtain ⟨v, hv, g, l, ⟨b, rfl, hb⟩, hg, ⟨la, lvs, rfl, hla, hlv⟩⟩ := hds.get (deed_get hj)
    have hl := hlv.length
    have dl := o.dl _ (deed_mem hj)
    refine ⟨_, (pss_cons (ps_setLc (i := 3) (own := [("k", 4)]) rfl sc__law_turn.nd rfl rfl (sw_true rfl rfl rfl (by decide +kernel)) (pi_range1 (by rfl) T.range_ (pa_cons (pe_callB (call_lenK (K := K)) (by rfl) T.len_ (by decide +kernel) (pa_cons (pe_ix (ix_listK (K := K)) (pe_ix (ix_listK (K := K)) (pe_ix (ix_listK (K := K)) (pv 0) pe_int (fun _ _ => rfl)) (pv 1) (fun _ _ => rfl)) pe_int (fun _ _ => rfl)) pa_nil)) pa_nil)) (blkOk_by (own := [("k", 4)]) (N := N__law_turn) (sc := defScope s__law_turn) (by decide +kernel)) (fun _ _ _ _ _ => (pg_name (i := 4) sc__law_turn.nd rfl (.inl rfl))) (fun _ _ _ _ _ => pts_nil) (fun _ _ _ _ _ => (pe_tup (pa_cons pe_str (pa_cons (pv 1) (pa_cons (pv 2) (pa_cons (pv 4) pa_nil)))))))
      (pss_one (ps_ret (pe_op op_cat (pv 3) (pe_lst (pa_cons (pe_tup (pa_cons (pe_ifExp (pt_cmpR op_isN (pe_ix (ix_listK (K := K)) (pe_ix (ix_listK (K := K)) (pe_ix (ix_listK (K := K)) (pv 0) pe_int (fun _ _ => rfl)) (pv 1) (fun _ _ => rfl)) pe_int (fun _ _ => rfl)) pe_non (nomark _)) pe_str pe_str) (pa_cons (pv 1) (pa_cons (pv 2) (pa_cons pe_int pa_nil))))) pa_nil)))))), ?_⟩
    refine ⟨_, rfl, wa, _, 1, .ref da, rfl, rfl, .inl (.inl hwa), atI_nat (j := 1) rfl, _, rfl, da, dvs, j, .ref b, rfl, rfl, .inl (.inl hda), atI_nat (j := j) hv, b, _, 2, .ref la, rfl, rfl, .inl (.inl hb), atI_nat (j := 2) rfl,
      la, lvs, rfl, .inl (.inl (.inl hla)), (lvs.length : Int), rfl, by omega, by omega, fun D nD => ?_⟩
    refine lc_map (S := rEv) (fun k => ⟨"load", j, i, k⟩) walk_r0 nD (by omega) (fun _ _ => True.intro) (fun k x H1 H2 N hk s1 hy kk => ?_) fun H1 m => ?_
    · obtain ⟨rfl, rfl⟩ := hy
      exact ⟨rfl, _, rfl, _, rfl, _, rfl, (by show 4 ≤ sizeLine; decide), fun p np => kk _ _ (same_new np) ⟨p, rfl, upd_same⟩⟩
    · have e : (List.range ((lvs.length : Nat) : Int).toNat).map (fun k => (⟨"load", j, i, k⟩ : Ev)) = loadsEv wd j i := by
        unfold loadsEv
        rw [hl]
        rfl
      rw [e] at m
      obtain ⟨s1, acc, eD, aD⟩ := m
      have hacc := aD.length
      have hle := loadsEv_le o hj i
      have fin : ∀ (x : Str), (if (deedAt wd j).goal = none then ("add" : Str) else "store") = x → ∀ p, H1 p = none → 1 ≤ sizeLine ∧ ∀ l2, (upd H1 p (.tup [.str x, .int (j : Nat), .int (i : Nat), .int 0])) l2 = none →
          ∃ l b xs zs, V.ref D = .ref l ∧ V.ref l2 = .ref b ∧ (upd (upd H1 p (.tup [.str x, .int (j : Nat), .int (i : Nat), .int 0])) l2 (.lst [.ref p])) l = some (.lst xs) ∧ (upd (upd H1 p (.tup [.str x, .int (j : Nat), .int (i : Nat), .int 0])) l2 (.lst [.ref p])) b = some (.lst zs) ∧ xs.length + zs.length ≤ sizeLine ∧
            ∀ p2, (upd (upd H1 p (.tup [.str x, .int (j : Nat), .int (i : Nat), .int 0])) l2 (.lst [.ref p])) p2 = none → Q (.ref p2) (upd (upd (upd H1 p (.tup [.str x, .int (j : Nat), .int (i : Nat), .int 0])) l2 (.lst [.ref p])) p2 (.lst (xs ++ zs))) := fun x hx p np => by
        refine ⟨by decide, fun l2 nl2 => ?_⟩
        have sp := same_new (o := .tup [.str x, .int (j : Nat), .int (i : Nat), .int 0]) np
        have s2 := Same.new (o := .lst [.ref p]) sp nl2
        refine ⟨D, l2, acc, [.ref p], rfl, rfl, s2 _ _ eD, upd_same, by rw [sizeLine_eq, ← hacc]; simp; omega, fun p2 np2 => ?_⟩
        have s3 := Same.new (o := .lst (acc ++ [.ref p])) s2 np2
        refine q _ _ (s1.trans s3) ⟨p2, acc ++ [.ref p], rfl, upd_same, (aD.mono s3).append ⟨⟨p, rfl, ?_⟩, True.intro⟩⟩
        have e1 : (upd (upd (upd H1 p (.tup [.str x, .int (j : Nat), .int (i : Nat), .int 0])) l2 (.lst [.ref p])) p2 (.lst (acc ++ [.ref p]))) p = some (.tup [.str x, .int (j : Nat), .int (i : Nat), .int 0]) := (same_new np2) _ _ ((same_new nl2) _ _ upd_same)
        rw [e1, ← hx]
        rfl
      refine ⟨_, rfl, ?_⟩
      refine ⟨_, rfl, wa, _, 1, .ref da, rfl, rfl, .inl (.inl (s1 _ _ hwa)), atI_nat (j := 1) rfl, _, rfl, da, dvs, j, .ref b, rfl, rfl, .inl (.inl (s1 _ _ hda)), atI_nat (j := j) hv, b, _, 1, g, rfl, rfl, .inl (.inl (s1 _ _ hb)), atI_nat (j := 1) rfl, rfl, _, rfl, ?_⟩
      cases eg : (deedAt wd j).goal with
      | none =>
        rw [eg] at hg
        cases (show g = V.non from hg)
        exact iteT ⟨_, rfl, _, rfl, (by show 4 ≤ sizeLine; decide), fin "add" (if_pos eg)⟩
      | some r =>
        rw [eg] at hg
        obtain ⟨c, rfl, hc⟩ := show rRef r g H from hg
        exact iteF ⟨_, rfl, _, rfl, (by show 4 ≤ sizeLine; decide), fin "store" (if_neg (by rw [eg]; exact fun z => nomatch z))⟩
theorem ok__law_turns (T : Txt K mg) : FnOk P w K mg base CX0 2 T._law_turns.f T._law_turns.fd ["world", "numbers", "at"] (sp3 rWo (fun wd ns v H => rL rNat ns v H ∧ ns.length ≤ 1000 ∧ ∀ j ∈ ns, j < wd.deeds.length) (fun _ _ => rNat) (fun wd ns i => rL rEv (ns.flatMap fun j => turnEv wd j i))) := by
  refine dok T._law_turns.F sc__law_turns (fun vs H Q E h => ?_) (fun cdv A outer s H vs Q E hr h => ?_)
  · exact sp3_len h
  · obtain ⟨wd, ns, i, x0, _, _, rfl, hwo, ⟨⟨b, vs, rfl, hb, hns⟩, hn, hj⟩, rfl, q⟩ := h
    have o := hwo.2
    have hl := hns.length
    refine ⟨_, (pss_cons (ps_set (i := 3) sc__law_turns.nd rfl (.inl rfl) (pe_lst pa_nil))
      (pss_cons (ps_for PassesOwn.never rfl (pi_listK (K := K) (pv 1)) (pg_name (i := 4) sc__law_turns.nd rfl (.inl rfl))
      (pss_one (ps_expr (pe_bmK (K := K) PySem.F.plainAttrs_list PySem.F.slot_list_extend PySem.F.type_list_extend mt_extend (pv 3) (pa_cons (pcall T._law_turn (ok__law_turn T) (hr.mono (by decide)) (pa_cons (pv 0) (pa_cons (pv 4) (pa_cons (pv 2) pa_nil)))) pa_nil)))))
      (pss_one (ps_ret (pv 3))))), ?_⟩
    refine ⟨(by show 0 ≤ sizeLine; decide), fun D nD => ?_⟩
    have sD : Same H (upd H D (.lst [])) := same_new nD
    refine ⟨_, rfl, b, rfl, ⟨_, .inl (.inl (sD _ _ hb))⟩, for_it (walk_list (K := K) (a := b) (xs := vs)) (fun n σ' H' => ∃ y, σ' = [some x0, some (.ref b), some (.int (i : Nat)), some (.ref D), y] ∧ Mk2 rEv H D ((ns.take n).flatMap fun j => turnEv wd j i) H')
      ⟨none, rfl, Mk2.new nD⟩ (fun n σ' H' _ ⟨_, _, m⟩ => .inl (.inl (m.1 _ _ hb))) ?_ ?_⟩
    · rintro n y σ' H1 H2 hi ⟨y0, rfl, m⟩ ⟨rfl, hy⟩
      obtain ⟨j, hj2, rfl⟩ := hns.getR hy
      have hjw := hj j (List.mem_of_getElem? hj2)
      have hb3 : ((ns.take n).flatMap fun j => turnEv wd j i).length ≤ (ns.take n).length * 3 := flatMap_le fun x hx => turnEv_le o (hj x (List.mem_of_mem_take hx)) i
      rw [List.length_take] at hb3
      have h2 := turnEv_le o hjw i
      obtain ⟨acc0, e0, _⟩ := m.2
      refine ⟨_, rfl, .inl ⟨rfl, _, .inl (.inl e0)⟩, _, rfl, _, rfl, _, rfl, wd, j, i, _, _, _, rfl, Mono.mono m.1 hwo, ⟨rfl, hjw⟩, rfl, fun u H3 s3 hu => ?_⟩
      obtain ⟨b3, acc, zs, rfl, eD, e3, hle, m2⟩ := (m.grow nD s3).ext nD hu (by omega)
      refine ⟨D, b3, acc, zs, rfl, rfl, eD, e3, hle, _, rfl, ?_⟩
      rw [take_flat _ hj2]
      exact m2
    · rintro σ' H1 ⟨y0, rfl, m⟩
      rw [← hl, List.take_length] at m
      exact ⟨_, rfl, q _ _ m.1 m.done⟩
theorem ok__law_plain (T : Txt K mg) : FnOk P w K mg base CX0 3 T._law_plain.f T._law_plain.fd ["world", "first", "count"] (sp3 rWo (fun _ _ v _ => v = .int 0) (fun _ (_ : Unit) c v _ => v = .int (c : Nat) ∧ c ≤ 1000) (fun wd _ c => rL rEv (plainEv wd c))) := by
  refine dok T._law_plain.F sc__law_plain (fun vs H Q E h => ?_) (fun cdv A outer s H vs Q E hr h => ?_)
  · exact sp3_len h
  · obtain ⟨wd, _, c, x0, _, _, rfl, hwo, rfl, ⟨rfl, hc⟩, q⟩ := h
    have o := hwo.2
    refine ⟨_, (pss_cons (ps_set (i := 3) sc__law_plain.nd rfl (.inl rfl) (pe_lst pa_nil))
      (pss_cons (ps_for PassesOwn.never rfl (pi_range2 (by rfl) T.range_ (pa_cons (pv 1) (pa_cons (pv 2) pa_nil))) (pg_name (i := 4) sc__law_plain.nd rfl (.inl rfl))
      (pss_one (ps_expr (pe_bmK (K := K) PySem.F.plainAttrs_list PySem.F.slot_list_extend PySem.F.type_list_extend mt_extend (pv 3) (pa_cons (pcall T._law_turns (ok__law_turns T) (hr.mono (by decide)) (pa_cons (pv 0) (pa_cons (pe_listRg rfl (by rfl) T.list_ (prg_1 (by rfl) T.range_ (pe_callB (call_lenK (K := K)) (by rfl) T.len_ (by decide +kernel) (pa_cons (pe_ix (ix_listK (K := K)) (pv 0) pe_int (fun _ _ => rfl)) pa_nil)))) (pa_cons (pv 4) pa_nil)))) pa_nil)))))
      (pss_one (ps_ret (pv 3))))), ?_⟩
    refine ⟨(by show 0 ≤ sizeLine; decide), fun D nD => ?_⟩
    refine ⟨_, rfl, _, rfl, 0, (c : Nat), rfl, ⟨by omega, by omega, by omega, by omega⟩, for_it walk_r0 (fun n σ' H' => ∃ y, σ' = [some x0, some (.int 0), some (.int (c : Nat)), some (.ref D), y] ∧ Mk2 rEv H D (plainEv wd n) H')
      ⟨none, rfl, Mk2.new nD⟩ (fun _ _ _ _ _ => True.intro) ?_ ?_⟩
    · rintro n y σ' H1 H2 hi ⟨y0, rfl, m⟩ ⟨rfl, rfl⟩
      have h1 := plainEv_le o n
      have h2 := iterEv_le o n
      have d2 := o.d2
      obtain ⟨acc0, e0, _⟩ := m.2
      have hwo2 := Mono.mono m.1 hwo
      obtain ⟨⟨rv, dv, ⟨wa, rfl, hwa⟩, hrows, ⟨da, dvs, rfl, hda, hds⟩⟩, _⟩ := id hwo2
      have hdl := hds.length
      refine ⟨_, rfl, .inl ⟨rfl, _, .inl (.inl e0)⟩, _, rfl, _, rfl, wa, _, 1, .ref da, rfl, rfl, .inl (.inl hwa), atI_nat (j := 1) rfl, da, dvs, rfl, .inl (.inl (.inl hda)), _, rfl, RgOk.of_le (by omega) (by omega) (by omega) (by omega), fun z nz => ?_⟩
      rw [← hdl]
      have s4 := same_new (o := .lst (rgV 0 (wd.deeds.length : Int))) nz
      refine ⟨_, rfl, wd, List.range wd.deeds.length, n, _, _, _, rfl, Mono.mono s4 hwo2, ⟨⟨z, _, rfl, upd_same, all2_nat.mpr (rgV_0 _)⟩, by simp; omega, fun j hj => List.mem_range.mp hj⟩, rfl, fun u H5 s5 hu => ?_⟩
      obtain ⟨b3, acc, zs, rfl, eD, e3, hle, m2⟩ := (m.grow nD (s4.trans s5)).ext nD hu (by show _ + (iterEv wd n).length ≤ _; omega)
      refine ⟨D, b3, acc, zs, rfl, rfl, eD, e3, hle, _, rfl, ?_⟩
      have e9 : plainEv wd (n + 1) = plainEv wd n ++ iterEv wd n := range_flat _ n
      rw [e9]
      exact m2
    · rintro σ' H1 ⟨y0, rfl, m⟩
      have ec : (((c : Nat) : Int) - 0).toNat = c := by omega
      rw [ec] at m
      exact ⟨_, rfl, q _ _ m.1 m.done⟩
end
end VW

set_option maxHeartbeats 4000000
namespace VW
open PySem PySem.Spec PyProof.Rows L2
def pickOf (x : Str) (r : Str × Int) : Option Int := if r.1 = x then some r.2 else none
theorem pick_zero (x : Str) : ∀ l : List (Str × Int), (l.filterMap (pickOf x))[0]? = (l.find? fun r => decide (r.1 = x)).map (·.2)
  | [] => rfl
  | r :: l => by
    by_cases e : r.1 = x
    · have e1 : pickOf x r = some r.2 := if_pos e
      rw [List.filterMap_cons, e1, List.find?_cons, decide_eq_true e]
      rfl
    · have e1 : pickOf x r = none := if_neg e
      rw [List.filterMap_cons, e1, List.find?_cons, decide_eq_false e]
      exact pick_zero x l
theorem pick_stride {wd : Wd} {x : Str} (h : x ∈ wd.rows.map (·.1)) : (wd.rows.filterMap (pickOf x))[0]? = some (strideOf wd x) := by
  rw [pick_zero]
  obtain ⟨r, h1, h2, h3⟩ := find_of h
  unfold strideOf
  rw [h3]
  rfl
section
variable {P : Program} {w : World} {K : PySem.W.Frag} {mg : Str → Option Value} {base : Heap}
theorem ok__law_cell (T : Txt K mg) : FnOk P w K mg base CX0 1 T._law_cell.f T._law_cell.fd ["world", "event"] (sp2 rWo (fun wd e v H => rEv e v H ∧ EvOk wd e ∧ e.w ≠ "add") (fun wd e => rRef (cellOf wd e))) := by
  refine dok T._law_cell.F sc__law_cell (fun vs H Q E h => ?_) (fun cdv A outer s H vs Q E hr h => ?_)
  · exact sp2_len h
  · obtain ⟨wd, e, _, _, rfl, hwo, ⟨⟨eb, rfl, heb⟩, ⟨hj, hi, hw⟩, hn⟩, q⟩ := h
    obtain ⟨⟨rv, dv, ⟨wa, rfl, hwa⟩, ⟨ra, rvs, rfl, hra, hrs⟩, ⟨da, dvs, rfl, hda, hds⟩⟩, o⟩ := id hwo
    obtain ⟨v, hv, g, l, ⟨b, rfl, hb⟩, hg, ⟨la, lvs, rfl, hla, hlv⟩⟩ := hds.get (deed_get hj)
    have hrl := hrs.length
    have r2 := o.r2
    obtain ⟨r, y, hr1, hrm, c, hyc, hc, hbr⟩ : ∃ (r : Str × Int) (y : V), refOf wd e = r ∧ r ∈ refsOf (deedAt wd e.j) ∧ ∃ c, y = .ref c ∧ H c = some (.tup [.str r.1, .int r.2]) ∧
        ((e.w = "store" ∧ y = g) ∨ (¬ V.str e.w = V.str "store" ∧ lvs[e.k]? = some y)) := by
      rcases hw with ⟨hw, hk⟩ | ⟨hw, r, hr1⟩ | hw
      · have hne : ¬ V.str e.w = V.str "store" := fun z => by
          rw [hw] at z
          exact absurd (V.str.inj z) (by decide +kernel)
        obtain ⟨r, hr1⟩ : ∃ r, (deedAt wd e.j).loads[e.k]? = some r := ⟨(deedAt wd e.j).loads[e.k], by simp [hk]⟩
        obtain ⟨y, hy, c, hc1, hc2⟩ := hlv.get hr1
        refine ⟨r, y, ?_, refsOf_load (List.mem_of_getElem? hr1), c, hc1, hc2, .inr ⟨hne, hy⟩⟩
        unfold refOf
        rw [if_neg (fun z => hne (congrArg V.str z)), List.getD_eq_getElem?_getD, hr1]
        rfl
      · rw [hr1] at hg
        obtain ⟨c, hc1, hc2⟩ := show rRef r g H from hg
        refine ⟨r, g, ?_, refsOf_goal hr1, c, hc1, hc2, .inl ⟨hw, rfl⟩⟩
        unfold refOf
        rw [if_pos hw, hr1]
        rfl
      · exact absurd hw hn
    subst hyc
    have hx := (o.dr _ (deed_mem hj) r hrm).1
    have hsb := stride_bd o hx
    refine ⟨_, (pss_cons (ps_set (i := 2) sc__law_cell.nd rfl (.inl rfl) (pe_ix (ix_listK (K := K)) (pe_ix (ix_listK (K := K)) (pv 0) pe_int (fun _ _ => rfl)) (pe_ix (ix_tupK (K := K)) (pv 1) pe_int (fun _ _ => rfl)) (fun _ _ => rfl)))
      (pss_cutW (ps_asg (pe_ifExp (pt_cmpR op_eq (pe_ix (ix_tupK (K := K)) (pv 1) pe_int (fun _ _ => rfl)) pe_str (nomark _)) (pe_ix (ix_listK (K := K)) (pv 2) pe_int (fun _ _ => rfl)) (pe_ix (ix_listK (K := K)) (pe_ix (ix_listK (K := K)) (pv 2) pe_int (fun _ _ => rfl)) (pe_ix (ix_tupK (K := K)) (pv 1) pe_int (fun _ _ => rfl)) (fun _ _ => rfl))) (pg_tupK (K := K) 2 rfl (pgs_cons (pg_name (i := 3) sc__law_cell.nd rfl (.inr rfl)) (pgs_cons (pg_name (i := 4) sc__law_cell.nd rfl (.inl rfl)) pgs_nil))))
      (pss_cons (ps_set (i := 5) sc__law_cell.nd rfl (.inl rfl) (pe_ix (ix_listK (K := K)) (pe_lc (own := [("row", 6)]) rfl sc__law_cell.nd (pi_listK (K := K) (pe_ix (ix_listK (K := K)) (pv 0) pe_int (fun _ _ => rfl))) (blkOk_by (own := [("row", 6)]) (N := N__law_cell) (sc := defScope s__law_cell) (by decide +kernel)) (fun _ _ _ _ _ => (pg_name (i := 6) sc__law_cell.nd rfl (.inl rfl))) (fun _ _ _ _ _ => (pts_one (pt_cmpR op_eq (pe_ix (ix_listK (K := K)) (pv 6) pe_int (fun _ _ => rfl)) (pv 3) (nomark _)))) (fun _ _ _ _ _ => (pe_ix (ix_listK (K := K)) (pv 6) pe_int (fun _ _ => rfl)))) pe_int (fun _ _ => rfl)))
      (pss_one (ps_ret (pe_tup (pa_cons (pv 3) (pa_cons (pe_op op_add (pe_op op_mul (pv 5) (pe_ix (ix_tupK (K := K)) (pv 1) pe_int (fun _ _ => rfl))) (pv 4)) pa_nil)))))))), ?_⟩
    refine ⟨_, rfl, wa, _, 1, .ref da, rfl, rfl, .inl (.inl hwa), atI_nat (j := 1) rfl, _, rfl, eb, _, 1, .int (e.j : Nat), rfl, rfl, .inl (.inl heb), atI_nat (j := 1) rfl, da, dvs, e.j, .ref b, rfl, rfl, .inl (.inl hda), atI_nat (j := e.j) hv, ?_⟩
    refine ⟨fun σ' H' => σ' = [some (.ref wa), some (.ref eb), some (.ref b), some (.str r.1), some (.int r.2), none, none] ∧ H' = H, ?_, ?_⟩
    · refine ⟨_, rfl, eb, _, 0, .str e.w, rfl, rfl, .inl (.inl heb), atI_nat (j := 0) rfl, rfl, _, rfl, ?_⟩
      rcases hbr with ⟨hw1, rfl⟩ | ⟨hw1, hy⟩
      · exact iteY (congrArg V.str hw1) ⟨_, rfl, b, _, 1, .ref c, rfl, rfl, .inl (.inl hb), atI_nat (j := 1) rfl, c, _, rfl, .inl (.inl hc), rfl, _, _, rfl, _, _, rfl, rfl, rfl, rfl⟩
      · exact iteN hw1 ⟨_, rfl, b, _, 2, .ref la, rfl, rfl, .inl (.inl hb), atI_nat (j := 2) rfl, _, rfl, eb, _, 3, .int (e.k : Nat), rfl, rfl, .inl (.inl heb), atI_nat (j := 3) rfl, la, lvs, e.k, .ref c, rfl, rfl, .inl (.inl hla), atI_nat (j := e.k) hy, c, _, rfl, .inl (.inl hc), rfl, _, _, rfl, _, _, rfl, rfl, rfl, rfl⟩
    · rintro σ' H' ⟨rfl, rfl⟩
      refine ⟨_, rfl, wa, _, 0, .ref ra, rfl, rfl, .inl (.inl hwa), atI_nat (j := 0) rfl, ra, rfl, ⟨_, .inl (.inl hra)⟩, fun D nD => ?_⟩
      refine lc_opt (S := rInt) (fun i => pickOf r.1 (wd.rows.getD i (Str.empty, 0))) (walk_list (K := K) (a := ra) (xs := rvs)) nD (by omega) (fun H' s' => .inl (.inl (s' _ _ hra))) (fun i x H3 H4 N M hi s3 hx k1 k2 => ?_) fun H3 m3 => ?_
      · obtain ⟨rfl, hx⟩ := hx
        obtain ⟨row, hrow, rb, rfl, hrb⟩ := hrs.getR hx
        have er : wd.rows.getD i (Str.empty, 0) = row := by rw [List.getD_eq_getElem?_getD, hrow]; rfl
        rw [er] at k1 k2
        have hrb2 := s3 _ _ hrb
        refine ⟨rfl, _, rfl, rb, _, 0, .str row.1, rfl, rfl, .inl (.inl hrb2), atI_nat (j := 0) rfl, _, rfl, rfl, _, rfl, ?_⟩
        by_cases ew : row.1 = r.1
        · exact iteY (congrArg V.str ew) ⟨_, rfl, rb, _, 1, .int row.2, rfl, rfl, .inl (.inl hrb2), atI_nat (j := 1) rfl, k1 row.2 _ _ (if_pos ew) (Same.refl _) rfl⟩
        · exact iteN (fun z => ew (V.str.inj z)) (k2 _ (if_neg ew) (Same.refl _))
      · have e8 : (List.range rvs.length).filterMap (fun i => pickOf r.1 (wd.rows.getD i (Str.empty, 0))) = wd.rows.filterMap (pickOf r.1) := by
          rw [← hrl]
          exact @range_filterMap_get _ _ ⟨(Str.empty, 0)⟩ wd.rows (pickOf r.1)
        rw [e8] at m3
        obtain ⟨s3, acc, eD, aD⟩ := m3
        have e9 := all2_int.mp aD
        subst e9
        have hz : ((wd.rows.filterMap (pickOf r.1)).map V.int)[0]? = some (.int (strideOf wd r.1)) := by rw [List.getElem?_map, pick_stride hx]; rfl
        refine ⟨D, _, 0, _, rfl, rfl, .inl (.inl eD), atI_nat (j := 0) hz, ?_⟩
        refine ⟨_, rfl, _, rfl, _, rfl, eb, _, 2, .int (e.i : Nat), rfl, rfl, .inl (.inl (s3 _ _ heb)), atI_nat (j := 2) rfl, strideOf wd r.1, (e.i : Nat), rfl, rfl, .inl ⟨by omega, by omega⟩, _, rfl, _, _, rfl, rfl, (by show 2 ≤ sizeLine; decide), fun p np => ?_⟩
        refine q _ _ (s3.trans (same_new np)) ?_
        show rRef (cellOf wd e) _ _
        unfold cellOf
        rw [hr1]
        exact ⟨p, rfl, upd_same⟩
def rFlowL : Rp (Org × Wri) := fun st v H => ∃ o w, LstAt H v [o, w] ∧ rD (rOpt rNN) st.1 o H ∧ rD rNN st.2 w H
theorem ok__law_flow (T : Txt K mg) : FnOk P w K mg base CX0 2 T._law_flow.f T._law_flow.fd ["world", "happened"] (sp2 rWo (fun wd l v H => rL rEv l v H ∧ (∀ e ∈ l, EvOk wd e) ∧ l.length ≤ 100000) (fun wd l => rFlowL (flowM wd l))) := by
  refine dok T._law_flow.F sc__law_flow (fun vs H Q E h => ?_) (fun cdv A outer s H vs Q E hr h => ?_)
  · exact sp2_len h
  · obtain ⟨wd, l, x0, _, rfl, hlp, ⟨⟨eb, vs, rfl, hb, hl⟩, hok, hlen⟩, q⟩ := h
    have hll := hl.length
    refine ⟨_, (pss_cons (ps_par (i := 2) (j := 3) rfl sc__law_flow.nd rfl rfl (by decide) rfl rfl (pa_cons pe_dnewT (pa_cons pe_dnewT pa_nil)) (by rfl))
      (pss_cons (ps_for PassesOwn.never rfl (pi_listK (K := K) (pv 1)) (pg_name (i := 4) sc__law_flow.nd rfl (.inl rfl))
      (pss_cutW (ps_if (pt_cmpR op_eq (pe_ix (ix_tupK (K := K)) (pv 4) pe_int (fun _ _ => rfl)) pe_str (nomark _)) (pss_one (ps_dput (hu_of hr) (pv 2) (pe_slice (sl_tupK (K := K)) (pv 4) (po_some pe_int) po_none) (pe_dget2 (hu_of hr) (pv 3) (pcall T._law_cell (ok__law_cell T) (hr.mono (by decide)) (pa_cons (pv 0) (pa_cons (pv 4) pa_nil))) pe_non ⟨rfl, rfl, rfl, rfl⟩) rfl)) pss_nil)
      (pss_one (ps_if (pt_cmpR op_eq (pe_ix (ix_tupK (K := K)) (pv 4) pe_int (fun _ _ => rfl)) pe_str (nomark _)) (pss_one (ps_dput (hu_of hr) (pv 3) (pcall T._law_cell (ok__law_cell T) (hr.mono (by decide)) (pa_cons (pv 0) (pa_cons (pv 4) pa_nil))) (pe_slice (sl_tupK (K := K)) (pv 4) (po_some pe_int) (po_some pe_int)) rfl)) pss_nil))))
      (pss_one (ps_ret (pe_lst (pa_cons (pv 2) (pa_cons (pv 3) pa_nil))))))), ?_⟩
    refine fun o no => fun w nw => ?_
    obtain ⟨f0, hw0, hne⟩ := FlowAt.new no nw
    refine ⟨_, _, rfl, _, rfl, eb, rfl, ⟨_, .inl (.inl (f0.1 _ _ hb))⟩, for_it (walk_list (K := K) (a := eb) (xs := vs)) (fun n σ' H' => ∃ y, σ' = [some x0, some (.ref eb), some (.ref o), some (.ref w), y] ∧ FlowAt H o w (flowM wd (l.take n)) H')
      ⟨none, rfl, f0⟩ (fun n σ' H' _ ⟨_, _, f⟩ => .inl (.inl (f.1 _ _ hb))) ?_ ?_⟩
    · rintro n y σ' H1 H2 hi ⟨y0, rfl, f⟩ ⟨rfl, hy⟩
      obtain ⟨e, he, ev, rfl, hev0⟩ := hl.getR hy
      have hem := List.mem_of_getElem? he
      have hev := f.1 _ _ hev0
      have hlen1 := flow_len wd (l.take n) ([], [])
      have hlen2 : (l.take n).length ≤ l.length := by rw [List.length_take]; omega
      have hst : (flowM wd (l.take n)).1.length < 1000000 ∧ (flowM wd (l.take n)).2.length < 1000000 := by
        have h1 := hlen1.1
        have h2 := hlen1.2
        simp only [List.length_nil] at h1 h2
        unfold flowM
        omega
      rw [flow_take wd he]
      refine ⟨fun σ' H' => σ' = [some x0, some (.ref eb), some (.ref o), some (.ref w), some (.ref ev)] ∧ FlowAt H o w (if e.w = "load" then flowStep wd (flowM wd (l.take n)) e else flowM wd (l.take n)) H', ?_, ?_⟩
      · refine ⟨_, rfl, ev, _, 0, .str e.w, rfl, rfl, .inl (.inl hev), atI_nat (j := 0) rfl, rfl, _, rfl, ?_⟩
        by_cases c1 : e.w = "load"
        · rw [if_pos c1]
          unfold flowStep
          rw [if_pos c1]
          have hna : e.w ≠ "add" := fun z => absurd (c1.symm.trans z) (by decide +kernel)
          refine iteY (congrArg V.str c1) ?_
          refine ⟨_, rfl, w, rfl, f.isD, _, rfl, _, rfl, wd, e, _, _, rfl, Mono.mono f.1 hlp, ⟨⟨ev, rfl, hev⟩, hok e hem, hna⟩, fun u H3 s3 hu => ?_⟩
          obtain ⟨cb, rfl, hcb⟩ := hu
          obtain ⟨r, hg, hr1⟩ := (f.grow s3).get (k := cellKey wd e) hcb
          refine ⟨r, hg, _, rfl, _, rfl, 1, rfl, ev, _, rfl, .inl (.inl (s3 _ _ hev)), fun z => absurd z.1 (show ¬ HT.sIx 4 0 (some 1) = 0 by decide), fun _ p np => ?_⟩
          rw [cut_1n]
          have f4 := f.grow (s3.trans (same_new (o := .tup [.int (e.j : Nat), .int (e.i : Nat), .int (e.k : Nat)]) np))
          obtain ⟨H5, hp, f5⟩ := f4.load (k := loadKey e) (b := p) no hne hst.1 upd_same (Mono.mono (R := rOpt rNN) (same_new np) hr1)
          exact ⟨o, H5, rfl, hp, rfl, f5⟩
        · rw [if_neg c1]
          exact iteN (fun z => c1 (V.str.inj z)) ⟨rfl, f⟩
      · rintro σ' H3 ⟨rfl, f3⟩
        have hev3 := f3.1 _ _ hev0
        refine ⟨_, rfl, ev, _, 0, .str e.w, rfl, rfl, .inl (.inl hev3), atI_nat (j := 0) rfl, rfl, _, rfl, ?_⟩
        by_cases c2 : e.w = "store"
        · have c1 : ¬ e.w = "load" := fun z => absurd (c2.symm.trans z) (by decide +kernel)
          rw [if_neg c1] at f3
          have hna : e.w ≠ "add" := fun z => absurd (c2.symm.trans z) (by decide +kernel)
          refine iteY (congrArg V.str c2) ?_
          unfold flowStep
          rw [if_neg c1, if_pos c2]
          refine ⟨_, rfl, 1, rfl, 3, rfl, ev, _, rfl, .inl (.inl hev3), fun z => absurd z.1 (show ¬ HT.sIx 4 0 (some 1) = 0 by decide), fun _ p np => ?_⟩
          rw [cut_13]
          have s2 := same_new (o := .tup [.int (e.j : Nat), .int (e.i : Nat)]) np
          refine ⟨_, rfl, _, rfl, _, rfl, wd, e, _, _, rfl, Mono.mono s2 (Mono.mono f3.1 hlp), ⟨⟨ev, rfl, s2 _ _ hev3⟩, hok e hem, hna⟩, fun u H4 s4 hu => ?_⟩
          obtain ⟨cb, rfl, hcb⟩ := hu
          obtain ⟨H5, hp, f5⟩ := (f3.grow (s2.trans s4)).store (k := cellKey wd e) (b := cb) (x := (e.j, e.i)) (v := .ref p) hw0 hne hst.2 hcb ⟨p, rfl, s4 _ _ upd_same⟩
          exact ⟨w, H5, rfl, hp, _, rfl, f5⟩
        · refine iteN (fun z => c2 (V.str.inj z)) ⟨_, rfl, ?_⟩
          by_cases c1 : e.w = "load"
          · rw [if_pos c1] at f3
            exact f3
          · rw [if_neg c1] at f3
            unfold flowStep
            rw [if_neg c1, if_neg c2]
            exact f3
    · rintro σ' H1 ⟨y0, rfl, f⟩
      rw [← hll, List.take_length] at f
      refine ⟨_, rfl, _, rfl, (by show 2 ≤ sizeLine; decide), fun p np => ?_⟩
      have s2 := same_new (o := .lst [.ref o, .ref w]) np
      obtain ⟨s3, ko, kw, h1, h2, h3, h4⟩ := f.grow s2
      exact q _ _ s3 ⟨_, _, ⟨p, rfl, upd_same⟩, ⟨o, ko, rfl, h1, h3⟩, ⟨w, kw, rfl, h2, h4⟩⟩
end
end VW

set_option maxHeartbeats 4000000
namespace VW
open PySem PySem.Spec PyProof.Rows L2
def spotsOf (d : Dd) : List ((Str × Int) × Bool) := (d.loads.map fun r => (r, false)) ++ d.goal.toList.map fun r => (r, true)
theorem spots_eq (wd : Wd) : spots wd = wd.deeds.flatMap spotsOf := rfl
theorem spotsOf_le {d : Dd} (h : d.loads.length ≤ 2) : (spotsOf d).length ≤ 3 := by
  have h2 : d.goal.toList.length ≤ 1 := by cases d.goal <;> simp
  unfold spotsOf
  rw [List.length_append, List.length_map, List.length_map]
  omega
theorem spots_le {wd : Wd} (o : WOk wd) : (spots wd).length ≤ 9 := by
  have h := flatMap_le (f := spotsOf) (B := 3) (l := wd.deeds) fun d hd => spotsOf_le (o.dl d hd)
  have := o.d2
  rw [spots_eq]
  omega
theorem spots_ok {wd : Wd} (o : WOk wd) : ∀ p ∈ spots wd, p.1.1 ∈ wd.rows.map (·.1) ∧ -1 ≤ p.1.2 ∧ p.1.2 ≤ 1 := fun p hp => by
  rw [spots_eq] at hp
  obtain ⟨d, hd, hp⟩ := List.mem_flatMap.mp hp
  rcases List.mem_append.mp hp with hp | hp
  · obtain ⟨r, hr, rfl⟩ := List.mem_map.mp hp
    exact o.dr d hd r (refsOf_load hr)
  · obtain ⟨r, hr, rfl⟩ := List.mem_map.mp hp
    refine o.dr d hd r (refsOf_goal ?_)
    cases e : d.goal with
    | none => rw [e] at hr; simp at hr
    | some x => rw [e] at hr; simp at hr; rw [hr]
theorem tOr_bl {i j : Nat} {x y : Bool} {σ : L2.St} {H : Hp} {k : Bool → Hp → Prop} (hx : σ[i]? = some (some (.bl x))) (hy : σ[j]? = some (some (.bl y))) (h : k (x || y) H) : tOr (tB (tVar i)) (tB (tVar j)) σ H k := by
  cases x with
  | true => exact ⟨_, hx, true, rfl, iteT h⟩
  | false => exact ⟨_, hx, false, rfl, iteF ⟨_, hy, y, rfl, h⟩⟩
section
variable {P : Program} {w : World} {K : PySem.W.Frag} {mg : Str → Option Value} {base : Heap}
theorem ok__law_far (T : Txt K mg) : FnOk P w K mg base CX0 1 T._law_far.f T._law_far.fd ["world"] (sp1 rWo (fun wd => rInt (farM wd))) := by
  refine dok T._law_far.F sc__law_far (fun vs H Q E h => ?_) (fun cdv A outer s H vs Q E hr h => ?_)
  · exact sp1_len h
  · obtain ⟨wd, _, rfl, hwo, q⟩ := h
    obtain ⟨⟨rv, dv, ⟨wa, rfl, hwa⟩, ⟨ra, rvs, rfl, hra, hrs⟩, ⟨da, dvs, rfl, hda, hds⟩⟩, o⟩ := id hwo
    have hdl := hds.length
    have hrl := hrs.length
    have d2 := o.d2
    have r2 := o.r2
    have hsle := spots_le o
    refine ⟨_, (pss_cons (ps_set (i := 1) sc__law_far.nd rfl (.inl rfl) (pe_lst pa_nil))
      (pss_cons (ps_for PassesOwn.never rfl (pi_listK (K := K) (pe_ix (ix_listK (K := K)) (pv 0) pe_int (fun _ _ => rfl))) (pg_name (i := 2) sc__law_far.nd rfl (.inl rfl))
      (pss_one (ps_expr (pe_bmK (K := K) PySem.F.plainAttrs_list PySem.F.slot_list_extend PySem.F.type_list_extend mt_extend (pv 1) (pa_cons (pe_op op_cat (pe_lc (own := [("ref", 9)]) rfl sc__law_far.nd (pi_listK (K := K) (pe_ix (ix_listK (K := K)) (pv 2) pe_int (fun _ _ => rfl))) (blkOk_by (own := [("ref", 9)]) (N := N__law_far) (sc := defScope s__law_far) (by decide +kernel)) (fun _ _ _ _ _ => (pg_name (i := 9) sc__law_far.nd rfl (.inl rfl))) (fun _ _ _ _ _ => pts_nil) (fun _ _ _ _ _ => (pe_tup (pa_cons (pv 9) (pa_cons pe_bl pa_nil))))) (pe_op op_rep (pe_lst (pa_cons (pe_tup (pa_cons (pe_ix (ix_listK (K := K)) (pv 2) pe_int (fun _ _ => rfl)) (pa_cons pe_bl pa_nil))) pa_nil)) (pe_callTy call_int1 (by rfl) T.int_ (by decide +kernel) (pa_cons (pe_cmpR op_notN (pe_ix (ix_listK (K := K)) (pv 2) pe_int (fun _ _ => rfl)) pe_non (nomark _)) pa_nil)))) pa_nil)))))
      (pss_cons (ps_set (i := 3) sc__law_far.nd rfl (.inl rfl) pe_int)
      (pss_cons (ps_for PassesOwn.never rfl (pi_listK (K := K) (pv 1)) (pg_tupK (K := K) 2 rfl (pgs_cons (pg_name (i := 4) sc__law_far.nd rfl (.inr rfl)) (pgs_cons (pg_name (i := 5) sc__law_far.nd rfl (.inl rfl)) pgs_nil)))
      (pss_cons (ps_set (i := 6) sc__law_far.nd rfl (.inl rfl) (pe_ix (ix_listK (K := K)) (pe_lc (own := [("row", 10)]) rfl sc__law_far.nd (pi_listK (K := K) (pe_ix (ix_listK (K := K)) (pv 0) pe_int (fun _ _ => rfl))) (blkOk_by (own := [("row", 10)]) (N := N__law_far) (sc := defScope s__law_far) (by decide +kernel)) (fun _ _ _ _ _ => (pg_name (i := 10) sc__law_far.nd rfl (.inl rfl))) (fun _ _ _ _ _ => (pts_one (pt_cmpR op_eq (pe_ix (ix_listK (K := K)) (pv 10) pe_int (fun _ _ => rfl)) (pe_ix (ix_tupK (K := K)) (pv 4) pe_int (fun _ _ => rfl)) (nomark _)))) (fun _ _ _ _ _ => (pe_ix (ix_listK (K := K)) (pv 10) pe_int (fun _ _ => rfl)))) pe_int (fun _ _ => rfl)))
      (pss_one (ps_for PassesOwn.never rfl (pi_listK (K := K) (pv 1)) (pg_tupK (K := K) 2 rfl (pgs_cons (pg_name (i := 7) sc__law_far.nd rfl (.inl rfl)) (pgs_cons (pg_name (i := 8) sc__law_far.nd rfl (.inl rfl)) pgs_nil)))
      (pss_one (ps_if (PW.pt (pw_and (pt_cmpR op_eq (pe_ix (ix_tupK (K := K)) (pv 4) pe_int (fun _ _ => rfl)) (pe_ix (ix_tupK (K := K)) (pv 7) pe_int (fun _ _ => rfl)) (nomark _)) (pw_and (PW.pt (pw_or (pt_val (pv 5)) (pw_or1 (pt_val (pv 8))))) (pw_and1 (pt_cmpR op_eq (pe_op op_modN (pe_op op_sub (pe_ix (ix_tupK (K := K)) (pv 4) pe_int (fun _ _ => rfl)) (pe_ix (ix_tupK (K := K)) (pv 7) pe_int (fun _ _ => rfl))) (pv 6)) pe_int (nomark _)))))) (pss_one (ps_set (i := 3) sc__law_far.nd rfl (.inl rfl) (pe_callB (call_max2 rfl) (by rfl) T.max_ (by decide +kernel) (pa_cons (pv 3) (pa_cons (pe_op op_fdivN (pe_op op_sub (pe_ix (ix_tupK (K := K)) (pv 4) pe_int (fun _ _ => rfl)) (pe_ix (ix_tupK (K := K)) (pv 7) pe_int (fun _ _ => rfl))) (pv 6)) pa_nil))))) pss_nil))))))
      (pss_one (ps_ret (pv 3))))))), ?_⟩
    refine ⟨(by show 0 ≤ sizeLine; decide), fun D nD => ?_⟩
    have sD := same_new (o := .lst []) nD
    refine ⟨_, rfl, wa, _, 1, .ref da, rfl, rfl, .inl (.inl (sD _ _ hwa)), atI_nat (j := 1) rfl, da, rfl, ⟨_, .inl (.inl (sD _ _ hda))⟩, for_it (walk_list (K := K) (a := da) (xs := dvs)) (fun i σ' H' => ∃ y2, σ' = [some (.ref wa), some (.ref D), y2, none, none, none, none, none, none, none, none] ∧ Mk2 rSpot H D ((wd.deeds.take i).flatMap spotsOf) H')
      ⟨none, rfl, Mk2.new nD⟩ (fun i σ' H' _ ⟨_, _, m⟩ => .inl (.inl (m.1 _ _ hda))) ?_ ?_⟩
    · rintro i y σ' H1 H2 hi ⟨y2, rfl, m⟩ ⟨rfl, hy⟩
      obtain ⟨d, hd, g, l, ⟨b, rfl, hb⟩, hg, ⟨la, lvs, rfl, hla, hlv⟩⟩ := hds.getR hy
      have hdm := List.mem_of_getElem? hd
      have hll := hlv.length
      have hdl2 := o.dl d hdm
      have hpre := flatMap_le (f := spotsOf) (B := 3) (l := wd.deeds.take i) fun d hd => spotsOf_le (o.dl d (List.mem_of_mem_take hd))
      have htl := take_app_le (l := wd.deeds) (k := i)
      obtain ⟨acc0, e0, _⟩ := m.2
      refine ⟨_, rfl, .inl ⟨rfl, _, .inl (.inl e0)⟩, _, rfl, b, _, 2, .ref la, rfl, rfl, .inl (.inl (m.1 _ _ hb)), atI_nat (j := 2) rfl, la, rfl, ⟨_, .inl (.inl (m.1 _ _ hla))⟩, fun D2 nD2 => ?_⟩
      refine lc_map (S := rSpot) (fun k => (d.loads.getD k (Str.empty, 0), false)) (walk_list (K := K) (a := la) (xs := lvs)) nD2 (by omega) (fun H' s' => .inl (.inl (s' _ _ (m.1 _ _ hla)))) (fun k x H3 H4 N hk s3 hx kk => ?_) fun H3 m3 => ?_
      · obtain ⟨rfl, hx⟩ := hx
        obtain ⟨r, hr, hrr⟩ := hlv.getR hx
        have er : d.loads.getD k (Str.empty, 0) = r := by rw [List.getD_eq_getElem?_getD, hr]; rfl
        rw [er] at kk
        refine ⟨rfl, _, rfl, (by show 2 ≤ sizeLine; decide), fun t nt => kk _ _ (same_new nt) ⟨x, ⟨t, rfl, upd_same⟩, Mono.mono (R := rRef) (((m.1.trans s3)).trans (same_new nt)) hrr⟩⟩
      · have e8 : (List.range lvs.length).map (fun k => (d.loads.getD k (Str.empty, 0), false)) = d.loads.map fun r => (r, false) := by
          rw [← hll]
          exact @range_map_get _ _ ⟨(Str.empty, 0)⟩ d.loads (fun r => (r, false))
        rw [e8] at m3
        have hb3 := m3.1 _ _ (m.1 _ _ hb)
        refine ⟨_, rfl, b, _, 1, g, rfl, rfl, .inl (.inl hb3), atI_nat (j := 1) rfl, (by show 2 ≤ sizeLine; decide), fun t nt => ⟨(by show 1 ≤ sizeLine; decide), fun l1 nl1 => ?_⟩⟩
        have s4 := Same.new (o := .lst [.ref t]) (same_new (o := .tup [g, .bl true]) nt) nl1
        have hb4 := s4 _ _ hb3
        refine ⟨_, rfl, b, _, 1, g, rfl, rfl, .inl (.inl hb4), atI_nat (j := 1) rfl, rfl, .inr ⟨_, rfl, ?_⟩⟩
        have key : ∃ (k : Int) (us : List V), V.int (if (!decide (g = V.non)) = true then 1 else 0) = V.int k ∧ 0 ≤ k ∧ k ≤ 1 ∧ (List.replicate k.toNat [V.ref t]).flatten = us ∧ us.length ≤ 1 ∧ All2 rSpot (upd (upd H3 t (.tup [g, .bl true])) l1 (.lst [.ref t])) (d.goal.toList.map fun r => (r, true)) us := by
          cases eg : d.goal with
          | none =>
            rw [eg] at hg
            cases (show g = V.non from hg)
            exact ⟨0, [], rfl, by decide, by decide, rfl, by decide, True.intro⟩
          | some r =>
            rw [eg] at hg
            obtain ⟨c, rfl, hc⟩ := show rRef r g H from hg
            refine ⟨1, [.ref t], rfl, by decide, by decide, rfl, (by show 1 ≤ 1; decide), ⟨.ref c, ⟨t, rfl, (same_new nl1) _ _ upd_same⟩, c, rfl, s4 _ _ (m3.1 _ _ (m.1 _ _ hc))⟩, True.intro⟩
        obtain ⟨k, us, hk, k0, k1, hus, hul, hua⟩ := key
        refine ⟨l1, k, [.ref t], rfl, hk, upd_same, by omega, by omega, ?_, fun l2 nl2 => ?_⟩
        · have h1 : ([V.ref t] : List V).length = 1 := rfl
          rw [h1, sizeLine_eq]
          omega
        rw [hus]
        have s5 := Same.new (o := .lst us) s4 nl2
        obtain ⟨s3', acc3, eD2, aD2⟩ := m3
        have hacc3 := aD2.length
        rw [List.length_map] at hacc3
        refine ⟨D2, l2, acc3, us, rfl, rfl, s5 _ _ eD2, upd_same, by rw [sizeLine_eq]; omega, fun l3 nl3 => ?_⟩
        have s6 := Same.new (o := .lst (acc3 ++ us)) s5 nl3
        have s56 := (same_new (o := .lst us) nl2).trans (same_new (o := .lst (acc3 ++ us)) nl3)
        have hnew : rL rSpot (spotsOf d) (.ref l3) (upd (upd (upd (upd H3 t (.tup [g, .bl true])) l1 (.lst [.ref t])) l2 (.lst us)) l3 (.lst (acc3 ++ us))) :=
          ⟨l3, _, rfl, upd_same, (aD2.mono s6).append (hua.mono s56)⟩
        have hsl := spotsOf_le hdl2
        obtain ⟨b3, acc, zs, h1, eD, e3, hle, m9⟩ := (m.grow nD (s3'.trans s6)).ext nD hnew (by omega)
        cases h1
        refine ⟨D, l3, acc, zs, rfl, rfl, eD, e3, hle, _, rfl, ?_⟩
        rw [take_flat _ hd]
        exact m9
    · rintro σ' H1 ⟨y2, rfl, m⟩
      rw [← hdl, List.take_length, ← spots_eq] at m
      obtain ⟨s1, acc, eD, aD⟩ := m
      have hal := aD.length
      have hra1 := s1 _ _ hra
      refine ⟨_, rfl, D, rfl, ⟨_, .inl (.inl eD)⟩, for_it (walk_list (K := K) (a := D) (xs := acc)) (fun i σ' H' => ∃ y2 y4 y5 y6 y7 y8, σ' = [some (.ref wa), some (.ref D), y2, some (.int ((((spots wd).take i).flatMap fun one => (spots wd).filterMap fun other => farOf wd one other).foldl maxI 0)), y4, y5, y6, y7, y8, none, none] ∧ Same H1 H')
        ⟨_, _, _, _, _, _, rfl, Same.refl _⟩ (fun i σ' H' _ ⟨_, _, _, _, _, _, _, s2⟩ => .inl (.inl (s2 _ _ eD))) ?_ ?_⟩
      · rintro i y σ' H2 H3 hi ⟨y2, y4, y5, y6, y7, y8, rfl, s2⟩ ⟨rfl, hy⟩
        obtain ⟨one, hone, ov, ⟨ot, rfl, hot⟩, oc, rfl, hoc⟩ := aD.getR hy
        have hoo := spots_ok o one (List.mem_of_getElem? hone)
        have hsb := stride_bd o hoo.1
        have s12 := s1.trans s2
        rw [take_flat _ hone, List.foldl_append]
        generalize (((spots wd).take i).flatMap fun one => (spots wd).filterMap fun other => farOf wd one other).foldl maxI 0 = F0
        refine ⟨ot, _, rfl, .inl (.inl (s2 _ _ hot)), rfl, _, _, rfl, _, _, rfl, rfl, ?_⟩
        refine ⟨_, rfl, wa, _, 0, .ref ra, rfl, rfl, .inl (.inl (s12 _ _ hwa)), atI_nat (j := 0) rfl, ra, rfl, ⟨_, .inl (.inl (s12 _ _ hra))⟩, fun D3 nD3 => ?_⟩
        refine lc_opt (S := rInt) (fun i => pickOf one.1.1 (wd.rows.getD i (Str.empty, 0))) (walk_list (K := K) (a := ra) (xs := rvs)) nD3 (by omega) (fun H' s' => .inl (.inl (s' _ _ (s12 _ _ hra)))) (fun k x H4 H5 N M hk s4 hx k1 k2 => ?_) fun H4 m4 => ?_
        · obtain ⟨rfl, hx⟩ := hx
          obtain ⟨row, hrow, rb, rfl, hrb⟩ := hrs.getR hx
          have er : wd.rows.getD k (Str.empty, 0) = row := by rw [List.getD_eq_getElem?_getD, hrow]; rfl
          rw [er] at k1 k2
          have hrb2 := s4 _ _ (s12 _ _ hrb)
          refine ⟨rfl, _, rfl, rb, _, 0, .str row.1, rfl, rfl, .inl (.inl hrb2), atI_nat (j := 0) rfl, _, rfl, oc, _, 0, .str one.1.1, rfl, rfl, .inl (.inl (s4 _ _ (s2 _ _ hoc))), atI_nat (j := 0) rfl, rfl, _, rfl, ?_⟩
          by_cases ew : row.1 = one.1.1
          · exact iteY (congrArg V.str ew) ⟨_, rfl, rb, _, 1, .int row.2, rfl, rfl, .inl (.inl hrb2), atI_nat (j := 1) rfl, k1 row.2 _ _ (if_pos ew) (Same.refl _) rfl⟩
          · exact iteN (fun z => ew (V.str.inj z)) (k2 _ (if_neg ew) (Same.refl _))
        · have e8 : (List.range rvs.length).filterMap (fun i => pickOf one.1.1 (wd.rows.getD i (Str.empty, 0))) = wd.rows.filterMap (pickOf one.1.1) := by
            rw [← hrl]
            exact @range_filterMap_get _ _ ⟨(Str.empty, 0)⟩ wd.rows (pickOf one.1.1)
          rw [e8] at m4
          obtain ⟨s4, acc4, eD4, aD4⟩ := m4
          have e9 := all2_int.mp aD4
          subst e9
          have hz : ((wd.rows.filterMap (pickOf one.1.1)).map V.int)[0]? = some (.int (strideOf wd one.1.1)) := by rw [List.getElem?_map, pick_stride hoo.1]; rfl
          have s24 := s2.trans s4
          refine ⟨D3, _, 0, _, rfl, rfl, .inl (.inl eD4), atI_nat (j := 0) hz, ?_⟩
          refine ⟨_, rfl, D, rfl, ⟨_, .inl (.inl (s24 _ _ eD))⟩, for_it (walk_list (K := K) (a := D) (xs := acc)) (fun k σ' H' => ∃ y7 y8, σ' = [some (.ref wa), some (.ref D), y2, some (.int ((((spots wd).take k).filterMap fun other => farOf wd one other).foldl maxI F0)), some (.ref oc), some (.bl one.2), some (.int (strideOf wd one.1.1)), y7, y8, none, none] ∧ Same H1 H')
            ⟨_, _, rfl, s24⟩ (fun i σ' H' _ ⟨_, _, _, s5⟩ => .inl (.inl (s5 _ _ eD))) ?_ ?_⟩
          · rintro k y σ' H5 H6 hk ⟨y7, y8, rfl, s5⟩ ⟨rfl, hy2⟩
            obtain ⟨other, hother, uv, ⟨ut, rfl, hut⟩, uc, rfl, huc⟩ := aD.getR hy2
            rw [take_fm _ hother, List.foldl_append]
            generalize (((spots wd).take k).filterMap fun other => farOf wd one other).foldl maxI F0 = F1
            have hoc5 := s5 _ _ hoc
            have huc5 := s5 _ _ huc
            refine ⟨ut, _, rfl, .inl (.inl (s5 _ _ hut)), rfl, _, _, rfl, _, _, rfl, rfl, ?_⟩
            refine ⟨_, rfl, oc, _, 0, .str one.1.1, rfl, rfl, .inl (.inl hoc5), atI_nat (j := 0) rfl, _, rfl, uc, _, 0, .str other.1.1, rfl, rfl, .inl (.inl huc5), atI_nat (j := 0) rfl, rfl, _, rfl, ?_⟩
            have keep : farOf wd one other = none → ∃ y7' y8', [some (V.ref wa), some (.ref D), y2, some (.int F1), some (.ref oc), some (.bl one.2), some (.int (strideOf wd one.1.1)), some (.ref uc), some (.bl other.2), none, none] =
                [some (V.ref wa), some (.ref D), y2, some (.int ((farOf wd one other).toList.foldl maxI F1)), some (.ref oc), some (.bl one.2), some (.int (strideOf wd one.1.1)), y7', y8', none, none] ∧ Same H1 H6 := fun hf => by
              rw [hf]
              exact ⟨_, _, rfl, s5⟩
            by_cases c1 : one.1.1 = other.1.1
            · refine iteY (congrArg V.str c1) (tOr_bl (x := one.2) (y := other.2) rfl rfl ?_)
              cases c2 : (one.2 || other.2) with
              | false =>
                refine iteF (iteF (keep (if_neg fun z => ?_)))
                rw [Bool.or_eq_false_iff] at c2
                rcases z.2.1 with z1 | z1
                · rw [c2.1] at z1
                  cases z1
                · rw [c2.2] at z1
                  cases z1
              | true =>
                rw [Bool.or_eq_true] at c2
                refine iteT ⟨_, rfl, oc, _, 1, .int one.1.2, rfl, rfl, .inl (.inl hoc5), atI_nat (j := 1) rfl, _, rfl, uc, _, 1, .int other.1.2, rfl, rfl, .inl (.inl huc5), atI_nat (j := 1) rfl, _, _, rfl, rfl, _, rfl, _, strideOf wd one.1.1, rfl, rfl, (by omega), rfl, _, rfl, ?_⟩
                by_cases c3 : (one.1.2 - other.1.2).fmod (strideOf wd one.1.1) = 0
                · refine iteY (congrArg V.int c3) ?_
                  have hf : farOf wd one other = some ((one.1.2 - other.1.2).fdiv (strideOf wd one.1.1)) := if_pos ⟨c1, c2, c3⟩
                  rw [hf]
                  exact ⟨_, rfl, _, rfl, oc, _, 1, .int one.1.2, rfl, rfl, .inl (.inl hoc5), atI_nat (j := 1) rfl, _, rfl, uc, _, 1, .int other.1.2, rfl, rfl, .inl (.inl huc5), atI_nat (j := 1) rfl, _, _, rfl, rfl, _, rfl, _, strideOf wd one.1.1, rfl, rfl, ⟨by omega, by omega⟩, F1, _, rfl, _, _, rfl, s5⟩
                · exact iteN (fun z => c3 (V.int.inj z)) (keep (if_neg fun z => c3 z.2.2))
            · exact iteN (fun z => c1 (V.str.inj z)) (iteF (keep (if_neg fun z => c1 z.1)))
          · rintro σ' H5 ⟨y7, y8, rfl, s5⟩
            rw [← hal, List.take_length]
            exact ⟨_, _, _, _, _, _, rfl, s5⟩
      · rintro σ' H2 ⟨y2, y4, y5, y6, y7, y8, rfl, s2⟩
        refine ⟨_, rfl, q _ _ (s1.trans s2) ?_⟩
        rw [← hal, List.take_length]
        rfl
/-- the law's own top -/
def topL (wd : Wd) : Int := if 2 * farM wd + 1 > 2 then 2 * farM wd + 1 else 2
theorem ok__law_top (T : Txt K mg) : FnOk P w K mg base CX0 2 T._law_top.f T._law_top.fd ["world"] (sp1 rWo (fun wd => rInt (topL wd))) := by
  refine dok T._law_top.F sc__law_top (fun vs H Q E h => ?_) (fun cdv A outer s H vs Q E hr h => ?_)
  · exact sp1_len h
  · obtain ⟨wd, x0, rfl, hwo, q⟩ := h
    refine ⟨_, (pss_one (ps_ret (pe_callB (call_max2 rfl) (by rfl) T.max_ (by decide +kernel) (pa_cons pe_int (pa_cons (pe_op op_add (pe_op op_mul pe_int (pcall T._law_far (ok__law_far T) (hr.mono (by decide)) (pa_cons (pv 0) pa_nil))) pe_int) pa_nil))))), ?_⟩
    refine ⟨_, rfl, wd, _, rfl, hwo, fun u H1 s1 hu => ?_⟩
    cases hu
    exact ⟨2, farM wd, rfl, rfl, .inl ⟨by omega, by omega⟩, _, _, rfl, rfl, _, _, rfl, q _ _ s1 rfl⟩
end
end VW

set_option maxHeartbeats 4000000
namespace VW
open PySem PySem.Spec PyProof.Rows L2
theorem atI_neg1 {α : Type} {xs : List α} {v : α} (h : xs[xs.length - 1]? = some v) : atI xs (-1) = some v := by
  have hl : xs.length - 1 < xs.length := (List.getElem?_eq_some_iff.mp h).1
  have e : ixN xs.length (-1) = some (xs.length - 1) := by
    unfold ixN
    rw [if_neg (by decide), if_pos (by omega)]
    congr 1
    omega
  unfold atI
  rw [e]
  exact h
theorem cut_neg1 (xs : List V) : cutV xs none (some (-1)) = xs.take (xs.length - 1) := by
  unfold cutV
  have e : HT.sIx xs.length xs.length (some (-1)) = xs.length - 1 := by
    show (if (-1 : Int) < 0 then ((-1 : Int) + (xs.length : Int)).toNat else min (-1 : Int).toNat xs.length) = xs.length - 1
    rw [if_pos (by decide)]
    omega
  rw [e, HT.sIx_none, List.drop_zero, Nat.sub_zero]
theorem turn_front {wd : Wd} {j i : Nat} : (turnEv wd j i).take ((turnEv wd j i).length - 1) = loadsEv wd j i := by
  unfold turnEv
  rw [List.length_append, List.length_singleton, Nat.add_sub_cancel, List.take_left']
  rfl
theorem turn_last {wd : Wd} {j i : Nat} : (turnEv wd j i)[(turnEv wd j i).length - 1]? = some (endEv wd j i) := by
  unfold turnEv
  rw [List.length_append, List.length_singleton, Nat.add_sub_cancel, List.getElem?_append_right (Nat.le_refl _)]
  simp
theorem stmt_parts {wd : Wd} {lanes : List Nat} {n p o : Nat} : stmtEv wd lanes n p o = ((if o = p ∧ p ≠ n then lanes.flatMap (fun a => loadsEv wd n a) else []) ++ (if o ≠ n ∨ p = n then lanes.flatMap (fun a => loadsEv wd o a) else [])) ++ lanes.map fun a => endEv wd o a := by
  unfold stmtEv loadedS
  rw [List.flatMap_append]
  congr 1
  congr 1
  · split <;> simp
  · split <;> simp
section
variable {P : Program} {w : World} {K : PySem.W.Frag} {mg : Str → Option Value} {base : Heap}
theorem ok__law_free (T : Txt K mg) : FnOk P w K mg base CX0 2 T._law_free.f T._law_free.fd ["world", "number", "place", "width", "count"] (sp5 rWo rJ (fun _ n p v _ => v = .int (p : Nat) ∧ p ≤ n) (fun _ _ _ => rWidth) (fun _ _ _ _ => rCount) (fun wd n p w c => rL rEv (freeEv wd n p w c))) := by
  refine dok T._law_free.F sc__law_free (fun vs H Q E h => ?_) (fun cdv A outer s H vs Q E hr h => ?_)
  · exact sp5_len h
  · obtain ⟨wd, n, p, wi, c, x0, _, _, _, _, rfl, hwo, ⟨rfl, hn⟩, ⟨rfl, hpn⟩, ⟨rfl, hw1, hw2⟩, ⟨rfl, hc⟩, q⟩ := h
    have ok := hwo.2
    have hd2 := ok.d2
    have hst := steps_le hw1 hw2 hc
    refine ⟨_, (pss_cons (ps_set (i := 5) sc__law_free.nd rfl (.inl rfl) (pe_lst pa_nil))
      (pss_cons (ps_for PassesOwn.never rfl (pi_range3 (by rfl) T.range_ (pa_cons pe_int (pa_cons (pv 4) (pa_cons (pv 3) pa_nil)))) (pg_name (i := 6) sc__law_free.nd rfl (.inl rfl))
      (pss_cons (ps_set (i := 7) sc__law_free.nd rfl (.inl rfl) (pe_listRg rfl (by rfl) T.list_ (prg_2 (by rfl) T.range_ (pv 6) (pe_callB (call_min2 rfl) (by rfl) T.min_ (by decide +kernel) (pa_cons (pe_op op_add (pv 6) (pv 3)) (pa_cons (pv 4) pa_nil))))))
      (pss_one (ps_for PassesOwn.never rfl (pi_range1 (by rfl) T.range_ (pa_cons (pe_callB (call_lenK (K := K)) (by rfl) T.len_ (by decide +kernel) (pa_cons (pe_ix (ix_listK (K := K)) (pv 0) pe_int (fun _ _ => rfl)) pa_nil)) pa_nil)) (pg_name (i := 8) sc__law_free.nd rfl (.inr rfl))
      (pss_cutW (ps_if (PW.pt (pw_and (pt_cmpR op_eq (pv 8) (pv 2) (nomark _)) (pw_and1 (pt_cmpR op_lt (pv 2) (pv 1) (nomark _))))) (pss_one (ps_for PassesOwn.never rfl (pi_listK (K := K) (pv 7)) (pg_name (i := 9) sc__law_free.nd rfl (.inl rfl))
      (pss_one (ps_expr (pe_bmK (K := K) PySem.F.plainAttrs_list PySem.F.slot_list_extend PySem.F.type_list_extend mt_extend (pv 5) (pa_cons (pe_slice (sl_listK (K := K)) (pcall T._law_turn (ok__law_turn T) (hr.mono (by decide)) (pa_cons (pv 0) (pa_cons (pv 1) (pa_cons (pv 9) pa_nil)))) po_none (po_some (pe_un un_neg pe_int))) pa_nil)))))) pss_nil)
      (pss_cutW (ps_if (PW.pt (pw_or (pt_cmpR op_ne (pv 8) (pv 1) (nomark _)) (pw_or1 (pt_cmpR op_eq (pv 2) (pv 1) (nomark _))))) (pss_one (ps_for PassesOwn.never rfl (pi_listK (K := K) (pv 7)) (pg_name (i := 9) sc__law_free.nd rfl (.inl rfl))
      (pss_one (ps_expr (pe_bmK (K := K) PySem.F.plainAttrs_list PySem.F.slot_list_extend PySem.F.type_list_extend mt_extend (pv 5) (pa_cons (pe_slice (sl_listK (K := K)) (pcall T._law_turn (ok__law_turn T) (hr.mono (by decide)) (pa_cons (pv 0) (pa_cons (pv 8) (pa_cons (pv 9) pa_nil)))) po_none (po_some (pe_un un_neg pe_int))) pa_nil)))))) pss_nil)
      (pss_one (ps_expr (pe_bmK (K := K) PySem.F.plainAttrs_list PySem.F.slot_list_extend PySem.F.type_list_extend mt_extend (pv 5) (pa_cons (pe_lc (own := [("at", 9)]) rfl sc__law_free.nd (pi_listK (K := K) (pv 7)) (blkOk_by (own := [("at", 9)]) (N := N__law_free) (sc := defScope s__law_free) (by decide +kernel)) (fun _ _ _ _ _ => (pg_name (i := 9) sc__law_free.nd rfl (.inl rfl))) (fun _ _ _ _ _ => pts_nil) (fun _ _ _ _ _ => (pe_ix (ix_listK (K := K)) (pcall T._law_turn (ok__law_turn T) (hr.mono (by decide)) (pa_cons (pv 0) (pa_cons (pv 8) (pa_cons (pv 9) pa_nil)))) (pe_un un_neg pe_int) (fun _ _ => rfl)))) pa_nil))))))))))
      (pss_one (ps_ret (pv 5))))), ?_⟩
    refine ⟨(by show 0 ≤ sizeLine; decide), fun D nD => ?_⟩
    refine ⟨_, rfl, _, rfl, 0, (c : Nat), (wi : Nat), _, rfl, rgc_steps hw1 (by omega) (by omega), for_it walk_rangeC (fun b σ' H' => ∃ y6 y7 y8 y9, σ' = [some x0, some (.int (n : Nat)), some (.int (p : Nat)), some (.int (wi : Nat)), some (.int (c : Nat)), some (.ref D), y6, y7, y8, y9] ∧ Mk2 rEv H D ((List.range b).flatMap fun b => blockEv wd n p (lanesAt wi c b)) H')
      ⟨none, none, none, none, rfl, Mk2.new nD⟩ (fun _ _ _ _ _ => True.intro) ?_ ?_⟩
    · rintro b y σ' H2 H3 hi ⟨y6, y7, y8, y9, rfl, m⟩ ⟨rfl, rfl⟩
      have hfb := freeTo_le ok (p := p) (c := c) hn hw2 b
      have hll := lanes_len wi c b
      have hbw : b * wi ≤ 120 * 20 := Nat.mul_le_mul (by omega) hw2
      have es : (0 : Int) + ((b : Nat) : Int) * ((wi : Nat) : Int) = ((b * wi : Nat) : Int) := by
        rw [Int.zero_add]
        rfl
      simp only [es]
      refine ⟨_, rfl, _, rfl, _, rfl, _, _, rfl, rfl, _, rfl, _, _, rfl, _, _, rfl, rfl, RgOk.of_le (by omega) ?_ (by omega) ?_, fun l nl => ?_⟩
      · split <;> omega
      · split <;> omega
      · rw [rgV_lanes (w := wi) (c := c) (b := b) (by split <;> omega)]
        have sl := same_new (o := .lst ((lanesAt wi c b).map fun (i : Nat) => V.int (i : Nat))) nl
        obtain ⟨acc3, e3', _⟩ := m.2
        have hlD : l ≠ D := fun z => by
          rw [z, e3'] at nl
          cases nl
        have m4 := m.grow nD sl
        generalize eH4 : upd H3 l (.lst ((lanesAt wi c b).map fun (i : Nat) => V.int (i : Nat))) = H4 at sl m4
        have el4 : H4 l = some (.lst ((lanesAt wi c b).map fun (i : Nat) => V.int (i : Nat))) := by rw [← eH4]; exact upd_same
        obtain ⟨⟨rv, dv, ⟨wa, rfl, hwa⟩, hrows, ⟨da, dvs, rfl, hda, hds⟩⟩, _⟩ := id hwo
        have hdl := hds.length
        rw [range_flat]
        generalize ((List.range b).flatMap fun b => blockEv wd n p (lanesAt wi c b)) = pre at hfb m4
        refine ⟨_, rfl, wa, _, 1, .ref da, rfl, rfl, .inl (.inl (m4.1 _ _ hwa)), atI_nat (j := 1) rfl, da, dvs, rfl, .inl (.inl (.inl (m4.1 _ _ hda))), (dvs.length : Nat), rfl, by omega, by omega, ?_⟩
        refine for_it walk_r0 (fun o σ' H' => ∃ y8 y9, σ' = [some (.ref wa), some (.int (n : Nat)), some (.int (p : Nat)), some (.int (wi : Nat)), some (.int (c : Nat)), some (.ref D), some (.int ((b * wi : Nat) : Int)), some (.ref l), y8, y9] ∧ Mk2 rEv H D (pre ++ (List.range o).flatMap fun o => stmtEv wd (lanesAt wi c b) n p o) H' ∧ H' l = some (.lst ((lanesAt wi c b).map fun (i : Nat) => V.int (i : Nat))))
          ⟨_, _, rfl, by simpa using m4, el4⟩ (fun _ _ _ _ _ => True.intro) ?_ ?_
        · rintro o y σ' H5 H6 hio ⟨y8, y9, rfl, m5, e5⟩ ⟨rfl, rfl⟩
          have ho : o < wd.deeds.length := by omega
          have hbt := blockTo_le ok (p := p) (lanesAt wi c b) hn (Nat.le_of_lt ho)
          rw [range_flat, stmt_parts, ← List.append_assoc, ← List.append_assoc, ← List.append_assoc]
          have hpl : (pre ++ (List.range o).flatMap fun o => stmtEv wd (lanesAt wi c b) n p o).length ≤ 40000 := by
            rw [List.length_append]
            omega
          generalize (pre ++ (List.range o).flatMap fun o => stmtEv wd (lanesAt wi c b) n p o) = pre2 at hpl m5
          refine ⟨fun σ' H' => ∃ y9, σ' = [some (.ref wa), some (.int (n : Nat)), some (.int (p : Nat)), some (.int (wi : Nat)), some (.int (c : Nat)), some (.ref D), some (.int ((b * wi : Nat) : Int)), some (.ref l), some (.int (o : Nat)), y9] ∧ Mk2 rEv H D (pre2 ++ (if o = p ∧ p ≠ n then (lanesAt wi c b).flatMap (fun a => loadsEv wd n a) else [])) H' ∧ H' l = some (.lst ((lanesAt wi c b).map fun (i : Nat) => V.int (i : Nat))), ?_, ?_⟩
          · have no1 : ¬ (o = p ∧ p ≠ n) → ∃ y9', [some (V.ref wa), some (.int (n : Nat)), some (.int (p : Nat)), some (.int (wi : Nat)), some (.int (c : Nat)), some (.ref D), some (.int ((b * wi : Nat) : Int)), some (.ref l), some (.int (o : Nat)), y9] =
                [some (V.ref wa), some (.int (n : Nat)), some (.int (p : Nat)), some (.int (wi : Nat)), some (.int (c : Nat)), some (.ref D), some (.int ((b * wi : Nat) : Int)), some (.ref l), some (.int (o : Nat)), y9'] ∧ Mk2 rEv H D (pre2 ++ (if o = p ∧ p ≠ n then (lanesAt wi c b).flatMap (fun a => loadsEv wd n a) else [])) H6 ∧ H6 l = some (.lst ((lanesAt wi c b).map fun (i : Nat) => V.int (i : Nat))) := fun hno => by
              rw [if_neg hno, List.append_nil]
              exact ⟨_, rfl, m5, e5⟩
            refine ⟨_, rfl, _, rfl, rfl, _, rfl, ?_⟩
            by_cases c1 : o = p
            · refine iteY (by rw [c1]) ⟨_, rfl, _, rfl, _, _, rfl, rfl, _, rfl, ?_⟩
              by_cases c2 : p = n
              · exact iteN (by omega) (no1 fun z => z.2 c2)
              · refine iteY (by omega) ?_
                rw [if_pos (⟨c1, c2⟩ : o = p ∧ p ≠ n)]
                refine ⟨_, rfl, l, rfl, ⟨_, .inl (.inl e5)⟩, for_it (walk_list (K := K) (a := l) (xs := (lanesAt wi c b).map fun (i : Nat) => V.int (i : Nat))) (fun k σ' H' => ∃ y9, σ' = [some (.ref wa), some (.int (n : Nat)), some (.int (p : Nat)), some (.int (wi : Nat)), some (.int (c : Nat)), some (.ref D), some (.int ((b * wi : Nat) : Int)), some (.ref l), some (.int (o : Nat)), y9] ∧
                    Mk2 rEv H D (pre2 ++ ((lanesAt wi c b).take k).flatMap (fun a => loadsEv wd n a)) H' ∧ H' l = some (.lst ((lanesAt wi c b).map fun (i : Nat) => V.int (i : Nat))))
                  ⟨_, rfl, by simpa using m5, e5⟩ (fun k σ' H' _ ⟨_, _, _, e⟩ => .inl (.inl e)) ?_ ?_⟩
                · rintro k y σ' H7 H8 hk ⟨z9, rfl, m7, e7⟩ ⟨rfl, hy⟩
                  rw [List.getElem?_map] at hy
                  obtain ⟨a, ha, rfl⟩ := Option.map_eq_some_iff.mp hy
                  have h1 := flatMap_le (f := fun a => loadsEv wd n a) (B := 2) (l := (lanesAt wi c b).take k) fun a _ => loadsEv_le ok hn a
                  have h2 := take_app_le (l := lanesAt wi c b) (k := k)
                  have h3 := loadsEv_le ok hn a
                  obtain ⟨acc0, e0, _⟩ := m7.2
                  refine ⟨_, rfl, .inl ⟨rfl, _, .inl (.inl e0)⟩, _, rfl, _, rfl, _, rfl, wd, n, a, _, _, _, rfl, Mono.mono m7.1 hwo, ⟨rfl, hn⟩, rfl, fun u H9 s9 hu => ?_⟩
                  obtain ⟨tb, tv, rfl, htb, htv⟩ := hu
                  have htl := htv.length
                  refine ⟨1, rfl, -1, rfl, tb, tv, rfl, .inl (.inl htb), fun p1 np1 => ?_⟩
                  rw [cut_neg1]
                  have sp1' := same_new (o := .lst (tv.take (tv.length - 1))) np1
                  have hnew : rL rEv (loadsEv wd n a) (.ref p1) (upd H9 p1 (.lst (tv.take (tv.length - 1)))) := by
                    refine ⟨p1, _, rfl, upd_same, ?_⟩
                    have h5 := (htv.take (tv.length - 1)).mono sp1'
                    rw [← htl, turn_front] at h5
                    rw [← htl]
                    exact h5
                  obtain ⟨b3, acc, zs, h6, eD, e3, hle, m9⟩ := (m7.grow nD (s9.trans sp1')).ext nD hnew (by rw [List.length_append]; omega)
                  cases h6
                  refine ⟨D, p1, acc, zs, rfl, rfl, eD, e3, hle, _, rfl, ?_, ?_⟩
                  · rw [take_flat _ ha, ← List.append_assoc]
                    exact m9
                  · rw [upd_ne hlD]
                    exact sp1' _ _ (s9 _ _ e7)
                · rintro σ' H7 ⟨z9, rfl, m7, e7⟩
                  rw [List.length_map, List.take_length] at m7
                  exact ⟨_, rfl, m7, e7⟩
            · exact iteN (fun z => c1 (vint_inj z)) (iteF (no1 fun z => c1 z.1))
          · rintro σ' H6' ⟨y9', rfl, m6, e6⟩
            have hpl2 : (pre2 ++ (if o = p ∧ p ≠ n then (lanesAt wi c b).flatMap (fun a => loadsEv wd n a) else [])).length ≤ 41000 := by
              have h1 := flat_map_le (α := Nat) ok hn (lanesAt wi c b)
              rw [List.length_append]
              split
              · omega
              · simp
                omega
            generalize (pre2 ++ (if o = p ∧ p ≠ n then (lanesAt wi c b).flatMap (fun a => loadsEv wd n a) else [])) = pre3 at hpl2 m6
            refine ⟨fun σ' H' => ∃ y9, σ' = [some (.ref wa), some (.int (n : Nat)), some (.int (p : Nat)), some (.int (wi : Nat)), some (.int (c : Nat)), some (.ref D), some (.int ((b * wi : Nat) : Int)), some (.ref l), some (.int (o : Nat)), y9] ∧ Mk2 rEv H D (pre3 ++ (if o ≠ n ∨ p = n then (lanesAt wi c b).flatMap (fun a => loadsEv wd o a) else [])) H' ∧ H' l = some (.lst ((lanesAt wi c b).map fun (i : Nat) => V.int (i : Nat))), ?_, ?_⟩
            · have no2 : ¬ (o ≠ n ∨ p = n) → ∃ y9'', [some (V.ref wa), some (.int (n : Nat)), some (.int (p : Nat)), some (.int (wi : Nat)), some (.int (c : Nat)), some (.ref D), some (.int ((b * wi : Nat) : Int)), some (.ref l), some (.int (o : Nat)), y9'] =
                [some (V.ref wa), some (.int (n : Nat)), some (.int (p : Nat)), some (.int (wi : Nat)), some (.int (c : Nat)), some (.ref D), some (.int ((b * wi : Nat) : Int)), some (.ref l), some (.int (o : Nat)), y9''] ∧ Mk2 rEv H D (pre3 ++ (if o ≠ n ∨ p = n then (lanesAt wi c b).flatMap (fun a => loadsEv wd o a) else [])) H6' ∧ H6' l = some (.lst ((lanesAt wi c b).map fun (i : Nat) => V.int (i : Nat))) := fun hno => by
                rw [if_neg hno, List.append_nil]
                exact ⟨_, rfl, m6, e6⟩
              refine ⟨_, rfl, _, rfl, rfl, _, rfl, ?_⟩
              by_cases c1 : o = n
              · refine iteNS (by rw [c1]) ⟨_, rfl, _, rfl, rfl, _, rfl, ?_⟩
                by_cases c2 : p = n
                · refine iteY (by rw [c2]) ?_
                  rw [if_pos (.inr c2 : o ≠ n ∨ p = n)]
                  refine ⟨_, rfl, l, rfl, ⟨_, .inl (.inl e6)⟩, for_it (walk_list (K := K) (a := l) (xs := (lanesAt wi c b).map fun (i : Nat) => V.int (i : Nat))) (fun k σ' H' => ∃ y9, σ' = [some (.ref wa), some (.int (n : Nat)), some (.int (p : Nat)), some (.int (wi : Nat)), some (.int (c : Nat)), some (.ref D), some (.int ((b * wi : Nat) : Int)), some (.ref l), some (.int (o : Nat)), y9] ∧
                      Mk2 rEv H D (pre3 ++ ((lanesAt wi c b).take k).flatMap (fun a => loadsEv wd o a)) H' ∧ H' l = some (.lst ((lanesAt wi c b).map fun (i : Nat) => V.int (i : Nat))))
                    ⟨_, rfl, by simpa using m6, e6⟩ (fun k σ' H' _ ⟨_, _, _, e⟩ => .inl (.inl e)) ?_ ?_⟩
                  · rintro k y σ' H7 H8 hk ⟨z9, rfl, m7, e7⟩ ⟨rfl, hy⟩
                    rw [List.getElem?_map] at hy
                    obtain ⟨a, ha, rfl⟩ := Option.map_eq_some_iff.mp hy
                    have h1 := flatMap_le (f := fun a => loadsEv wd o a) (B := 2) (l := (lanesAt wi c b).take k) fun a _ => loadsEv_le ok ho a
                    have h2 := take_app_le (l := lanesAt wi c b) (k := k)
                    have h3 := loadsEv_le ok ho a
                    obtain ⟨acc0, e0, _⟩ := m7.2
                    refine ⟨_, rfl, .inl ⟨rfl, _, .inl (.inl e0)⟩, _, rfl, _, rfl, _, rfl, wd, o, a, _, _, _, rfl, Mono.mono m7.1 hwo, ⟨rfl, ho⟩, rfl, fun u H9 s9 hu => ?_⟩
                    obtain ⟨tb, tv, rfl, htb, htv⟩ := hu
                    have htl := htv.length
                    refine ⟨1, rfl, -1, rfl, tb, tv, rfl, .inl (.inl htb), fun p1 np1 => ?_⟩
                    rw [cut_neg1]
                    have sp1' := same_new (o := .lst (tv.take (tv.length - 1))) np1
                    have hnew : rL rEv (loadsEv wd o a) (.ref p1) (upd H9 p1 (.lst (tv.take (tv.length - 1)))) := by
                      refine ⟨p1, _, rfl, upd_same, ?_⟩
                      have h5 := (htv.take (tv.length - 1)).mono sp1'
                      rw [← htl, turn_front] at h5
                      rw [← htl]
                      exact h5
                    obtain ⟨b3, acc, zs, h6, eD, e3, hle, m9⟩ := (m7.grow nD (s9.trans sp1')).ext nD hnew (by rw [List.length_append]; omega)
                    cases h6
                    refine ⟨D, p1, acc, zs, rfl, rfl, eD, e3, hle, _, rfl, ?_, ?_⟩
                    · rw [take_flat _ ha, ← List.append_assoc]
                      exact m9
                    · rw [upd_ne hlD]
                      exact sp1' _ _ (s9 _ _ e7)
                  · rintro σ' H7 ⟨z9, rfl, m7, e7⟩
                    rw [List.length_map, List.take_length] at m7
                    exact ⟨_, rfl, m7, e7⟩
                · exact iteN (fun z => c2 (vint_inj z)) (no2 fun z => z.elim (fun y => y c1) c2)
              · refine iteNY (fun z => c1 (vint_inj z)) (iteT ?_)
                rw [if_pos (.inl c1 : o ≠ n ∨ p = n)]
                refine ⟨_, rfl, l, rfl, ⟨_, .inl (.inl e6)⟩, for_it (walk_list (K := K) (a := l) (xs := (lanesAt wi c b).map fun (i : Nat) => V.int (i : Nat))) (fun k σ' H' => ∃ y9, σ' = [some (.ref wa), some (.int (n : Nat)), some (.int (p : Nat)), some (.int (wi : Nat)), some (.int (c : Nat)), some (.ref D), some (.int ((b * wi : Nat) : Int)), some (.ref l), some (.int (o : Nat)), y9] ∧
                    Mk2 rEv H D (pre3 ++ ((lanesAt wi c b).take k).flatMap (fun a => loadsEv wd o a)) H' ∧ H' l = some (.lst ((lanesAt wi c b).map fun (i : Nat) => V.int (i : Nat))))
                  ⟨_, rfl, by simpa using m6, e6⟩ (fun k σ' H' _ ⟨_, _, _, e⟩ => .inl (.inl e)) ?_ ?_⟩
                · rintro k y σ' H7 H8 hk ⟨z9, rfl, m7, e7⟩ ⟨rfl, hy⟩
                  rw [List.getElem?_map] at hy
                  obtain ⟨a, ha, rfl⟩ := Option.map_eq_some_iff.mp hy
                  have h1 := flatMap_le (f := fun a => loadsEv wd o a) (B := 2) (l := (lanesAt wi c b).take k) fun a _ => loadsEv_le ok ho a
                  have h2 := take_app_le (l := lanesAt wi c b) (k := k)
                  have h3 := loadsEv_le ok ho a
                  obtain ⟨acc0, e0, _⟩ := m7.2
                  refine ⟨_, rfl, .inl ⟨rfl, _, .inl (.inl e0)⟩, _, rfl, _, rfl, _, rfl, wd, o, a, _, _, _, rfl, Mono.mono m7.1 hwo, ⟨rfl, ho⟩, rfl, fun u H9 s9 hu => ?_⟩
                  obtain ⟨tb, tv, rfl, htb, htv⟩ := hu
                  have htl := htv.length
                  refine ⟨1, rfl, -1, rfl, tb, tv, rfl, .inl (.inl htb), fun p1 np1 => ?_⟩
                  rw [cut_neg1]
                  have sp1' := same_new (o := .lst (tv.take (tv.length - 1))) np1
                  have hnew : rL rEv (loadsEv wd o a) (.ref p1) (upd H9 p1 (.lst (tv.take (tv.length - 1)))) := by
                    refine ⟨p1, _, rfl, upd_same, ?_⟩
                    have h5 := (htv.take (tv.length - 1)).mono sp1'
                    rw [← htl, turn_front] at h5
                    rw [← htl]
                    exact h5
                  obtain ⟨b3, acc, zs, h6, eD, e3, hle, m9⟩ := (m7.grow nD (s9.trans sp1')).ext nD hnew (by rw [List.length_append]; omega)
                  cases h6
                  refine ⟨D, p1, acc, zs, rfl, rfl, eD, e3, hle, _, rfl, ?_, ?_⟩
                  · rw [take_flat _ ha, ← List.append_assoc]
                    exact m9
                  · rw [upd_ne hlD]
                    exact sp1' _ _ (s9 _ _ e7)
                · rintro σ' H7 ⟨z9, rfl, m7, e7⟩
                  rw [List.length_map, List.take_length] at m7
                  exact ⟨_, rfl, m7, e7⟩
            · rintro σ' H7 ⟨y9'', rfl, m7, e7⟩
              have hpl3 : (pre3 ++ (if o ≠ n ∨ p = n then (lanesAt wi c b).flatMap (fun a => loadsEv wd o a) else [])).length ≤ 42000 := by
                have h1 := flat_map_le (α := Nat) ok ho (lanesAt wi c b)
                rw [List.length_append]
                split
                · omega
                · simp
                  omega
              generalize (pre3 ++ (if o ≠ n ∨ p = n then (lanesAt wi c b).flatMap (fun a => loadsEv wd o a) else [])) = pre4 at hpl3 m7
              obtain ⟨acc6, eD6, _⟩ := m7.2
              refine ⟨_, rfl, .inl ⟨rfl, _, .inl (.inl eD6)⟩, _, rfl, l, rfl, ⟨_, .inl (.inl e7)⟩, fun D2 nD2 => ?_⟩
              refine lc_map (S := rEv) (fun i => endEv wd o ((lanesAt wi c b).getD i 0)) (walk_list (K := K) (a := l) (xs := (lanesAt wi c b).map fun (i : Nat) => V.int (i : Nat))) nD2 (by rw [List.length_map]; omega) (fun H' s' => .inl (.inl (s' _ _ e7))) (fun i x H8 H9 N hi s8 hx kk => ?_) fun H8 m8 => ?_
              · obtain ⟨rfl, hx⟩ := hx
                rw [List.getElem?_map] at hx
                obtain ⟨a, ha, rfl⟩ := Option.map_eq_some_iff.mp hx
                have ea : (lanesAt wi c b).getD i 0 = a := by rw [List.getD_eq_getElem?_getD, ha]; rfl
                rw [ea] at kk
                refine ⟨rfl, _, rfl, _, rfl, _, rfl, wd, o, a, _, _, _, rfl, Mono.mono (m7.1.trans s8) hwo, ⟨rfl, ho⟩, rfl, fun u H10 s10 hu => ?_⟩
                obtain ⟨tb, tv, rfl, htb, htv⟩ := hu
                obtain ⟨v, hv, hve⟩ := htv.get turn_last
                rw [htv.length] at hv
                exact ⟨1, rfl, tb, tv, -1, v, rfl, rfl, .inl (.inl htb), atI_neg1 hv, kk _ _ s10 hve⟩
              · have e8 : (List.range ((lanesAt wi c b).map fun (i : Nat) => V.int (i : Nat)).length).map (fun i => endEv wd o ((lanesAt wi c b).getD i 0)) = (lanesAt wi c b).map fun a => endEv wd o a := by
                  rw [List.length_map]
                  exact @range_map_get _ _ ⟨0⟩ (lanesAt wi c b) (fun a => endEv wd o a)
                rw [e8] at m8
                obtain ⟨b3, acc, zs, h1, eD, e3, hle, m9⟩ := (m7.grow nD m8.1).ext nD m8.done (by rw [List.length_map]; omega)
                cases h1
                refine ⟨D, D2, acc, zs, rfl, rfl, eD, e3, hle, _, _, rfl, m9, ?_⟩
                rw [upd_ne hlD]
                exact m8.1 _ _ e7
        · rintro σ' H5 ⟨y8, y9, rfl, m5, e5⟩
          refine ⟨_, _, _, _, rfl, ?_⟩
          have ec : ((dvs.length : Nat) : Int).toNat = wd.deeds.length := by omega
          rw [ec] at m5
          exact m5
    · rintro σ' H2 ⟨y6, y7, y8, y9, rfl, m⟩
      exact ⟨_, rfl, q _ _ m.1 m.done⟩
end
end VW

set_option maxHeartbeats 4000000
namespace VW
open PySem L2
theorem deed_ix {wd : Wd} {d : Dd} (h : d ∈ wd.deeds) : ∃ j, j < wd.deeds.length ∧ deedAt wd j = d := by
  obtain ⟨j, hj⟩ := List.mem_iff_getElem?.mp h
  exact ⟨j, (List.getElem?_eq_some_iff.mp hj).1, deedAt_of hj⟩
theorem spot_num {wd : Wd} {x : (Str × Int) × Bool} (h : x ∈ spots wd) : ∃ p, p ∈ numRefs wd ∧ p.2.2 = x.1 ∧ (p.2.1 = -1 ↔ x.2 = true) := by
  rw [spots_eq] at h
  obtain ⟨d, hd, hx⟩ := List.mem_flatMap.mp h
  obtain ⟨j, hj, rfl⟩ := deed_ix hd
  rcases List.mem_append.mp hx with hx | hx
  · obtain ⟨r, hr, rfl⟩ := List.mem_map.mp hx
    obtain ⟨k, hk⟩ := List.mem_iff_getElem?.mp hr
    have hk2 := (List.getElem?_eq_some_iff.mp hk).1
    refine ⟨((j : Int), ((k : Nat) : Int), r), List.mem_flatMap.mpr ⟨j, List.mem_range.mpr hj, List.mem_append.mpr (.inr (List.mem_map.mpr ⟨k, List.mem_range.mpr hk2, ?_⟩))⟩, rfl, ?_⟩
    · rw [List.getD_eq_getElem?_getD, hk]
      rfl
    · constructor
      · intro z
        have z2 : ((k : Nat) : Int) = -1 := z
        omega
      · intro z
        cases z
  · obtain ⟨r, hr, rfl⟩ := List.mem_map.mp hx
    exact ⟨((j : Int), -1, r), List.mem_flatMap.mpr ⟨j, List.mem_range.mpr hj, List.mem_append.mpr (.inl (List.mem_map.mpr ⟨r, hr, rfl⟩))⟩, rfl, fun _ => rfl, fun _ => rfl⟩
theorem num_spot {wd : Wd} {p : Int × Int × (Str × Int)} (h : p ∈ numRefs wd) : ∃ x, x ∈ spots wd ∧ x.1 = p.2.2 ∧ (p.2.1 = -1 ↔ x.2 = true) := by
  obtain ⟨j, hj, h⟩ := List.mem_flatMap.mp h
  have hm := deed_mem (List.mem_range.mp hj)
  rcases List.mem_append.mp h with h | h
  · obtain ⟨r, hr, rfl⟩ := List.mem_map.mp h
    refine ⟨(r, true), ?_, rfl, fun _ => rfl, fun _ => rfl⟩
    rw [spots_eq]
    exact List.mem_flatMap.mpr ⟨_, hm, List.mem_append.mpr (.inr (List.mem_map.mpr ⟨r, hr, rfl⟩))⟩
  · obtain ⟨k, hk, rfl⟩ := List.mem_map.mp h
    have hk2 := List.mem_range.mp hk
    refine ⟨((deedAt wd j).loads.getD k (Str.empty, 0), false), ?_, rfl, ?_⟩
    · rw [spots_eq]
      refine List.mem_flatMap.mpr ⟨_, hm, List.mem_append.mpr (.inl (List.mem_map.mpr ⟨_, ?_, rfl⟩))⟩
      rw [List.getD_eq_getElem?_getD, List.getElem?_eq_getElem hk2]
      exact List.getElem_mem hk2
    · constructor
      · intro z
        have z2 : ((k : Nat) : Int) = -1 := z
        omega
      · intro z
        cases z
theorem meets_mem {wd : Wd} {a b : Nat} {p q : Int × Int × (Str × Int)} {ns : List Int} (hp : (numRefs wd)[a]? = some p) (hq : (numRefs wd)[b]? = some q) (hab : a < b) (h : meetOf wd p q = some ns) : ns ∈ meetsM wd := by
  have ha := (List.getElem?_eq_some_iff.mp hp).1
  refine List.mem_flatMap.mpr ⟨a, List.mem_range.mpr ha, List.mem_filterMap.mpr ⟨q, ?_, ?_⟩⟩
  · refine List.mem_iff_getElem?.mpr ⟨b - (a + 1), ?_⟩
    rw [List.getElem?_drop, show a + 1 + (b - (a + 1)) = b by omega]
    exact hq
  · rw [List.getD_eq_getElem?_getD, hp]
    exact h
theorem fdiv_cases {s z : Int} (h1 : 1 ≤ s) (h2 : s ≤ 2) (z1 : -2 ≤ z) (z2 : z ≤ 2) (hm : z.fmod s = 0) : (-z).fmod s = 0 ∧ (-z).fdiv s = -(z.fdiv s) := by
  have hs : s = 1 ∨ s = 2 := by omega
  have hz : z = -2 ∨ z = -1 ∨ z = 0 ∨ z = 1 ∨ z = 2 := by omega
  rcases hs with rfl | rfl <;> rcases hz with rfl | rfl | rfl | rfl | rfl <;> revert hm <;> decide
theorem absI_le {x m : Int} (h1 : x ≤ m) (h2 : -x ≤ m) : absI x ≤ m := by
  unfold absI
  split <;> omega
theorem far_reach {wd : Wd} (o : WOk wd) : farM wd = reachM wd := by
  have hr := reach_bd o
  obtain ⟨hf0, hfle⟩ := foldMax_le (farVals wd) 0
  obtain ⟨_, hrle⟩ := foldMax_le ((meetsM wd).map fun r => absI (distOf r)) 0
  -- what two spots give
  have farm : ∀ {x y : (Str × Int) × Bool} {v : Int}, x ∈ spots wd → y ∈ spots wd → farOf wd x y = some v → v ≤ farM wd := fun {x y v} hx hy h => hfle v (List.mem_flatMap.mpr ⟨x, hx, List.mem_filterMap.mpr ⟨y, hy, h⟩⟩)
  have reachm : ∀ {ns : List Int}, ns ∈ meetsM wd → absI (distOf ns) ≤ reachM wd := fun {ns} h => hrle _ (List.mem_map.mpr ⟨ns, h, rfl⟩)
  apply Int.le_antisymm
  · -- each far value is one of the program's
    unfold farM
    rcases foldMax_mem (farVals wd) 0 with e | e
    · rw [e]
      exact hr.1
    · generalize (farVals wd).foldl maxI 0 = v at e
      obtain ⟨x, hx, e⟩ := List.mem_flatMap.mp e
      obtain ⟨y, hy, e⟩ := List.mem_filterMap.mp e
      unfold farOf at e
      split at e
      · rename_i hc
        obtain ⟨c1, c2, c3⟩ := hc
        cases e
        have hxo := spots_ok o x hx
        have hyo := spots_ok o y hy
        have hs := stride_bd o hxo.1
        obtain ⟨p, hp, hpx, hpf⟩ := spot_num hx
        obtain ⟨q, hq, hqy, hqf⟩ := spot_num hy
        obtain ⟨a, ha⟩ := List.mem_iff_getElem?.mp hp
        obtain ⟨b, hb⟩ := List.mem_iff_getElem?.mp hq
        obtain ⟨n1, n2⟩ := fdiv_cases (z := x.1.2 - y.1.2) hs.1 hs.2 (by omega) (by omega) c3
        have nz : -(x.1.2 - y.1.2) = y.1.2 - x.1.2 := by omega
        rw [nz] at n1 n2
        rcases Nat.lt_trichotomy a b with h | h | h
        · have hm : meetOf wd p q = some [p.1, p.2.1, q.1, q.2.1, (x.1.2 - y.1.2).fdiv (strideOf wd x.1.1)] := by
            unfold meetOf dist
            rw [hpx, hqy, if_pos ⟨c1, c2.elim (fun z => .inl (hpf.mpr z)) fun z => .inr (hqf.mpr z)⟩, if_pos c3]
            rfl
          have h2 := reachm (meets_mem ha hb h hm)
          have h3 : absI ((x.1.2 - y.1.2).fdiv (strideOf wd x.1.1)) ≤ reachM wd := h2
          unfold absI at h3
          split at h3 <;> omega
        · have hpq : p = q := by
            rw [h, hb] at ha
            exact (Option.some.inj ha).symm
          have hxy : x.1 = y.1 := by rw [← hpx, ← hqy, hpq]
          have hz : (x.1.2 - y.1.2).fdiv (strideOf wd x.1.1) = 0 := by
            rw [hxy, Int.sub_self]
            exact Int.zero_fdiv _
          rw [hz]
          exact hr.1
        · have hm : meetOf wd q p = some [q.1, q.2.1, p.1, p.2.1, (y.1.2 - x.1.2).fdiv (strideOf wd x.1.1)] := by
            unfold meetOf dist
            rw [hpx, hqy, if_pos ⟨c1.symm, c2.elim (fun z => .inr (hpf.mpr z)) fun z => .inl (hqf.mpr z)⟩, ← c1, if_pos n1]
            rfl
          have h3 : absI ((y.1.2 - x.1.2).fdiv (strideOf wd x.1.1)) ≤ reachM wd := reachm (meets_mem hb ha h hm)
          rw [n2] at h3
          unfold absI at h3
          split at h3 <;> omega
      · cases e
  · unfold reachM
    rcases foldMax_mem ((meetsM wd).map fun r => absI (distOf r)) 0 with e | e
    · rw [e]
      exact hf0
    · generalize ((meetsM wd).map fun r => absI (distOf r)).foldl maxI 0 = v at e
      obtain ⟨ns, hns, rfl⟩ := List.mem_map.mp e
      obtain ⟨a, ha, hns⟩ := List.mem_flatMap.mp hns
      obtain ⟨q, hq, hns⟩ := List.mem_filterMap.mp hns
      have ha2 := List.mem_range.mp ha
      have hp : (numRefs wd).getD a (0, 0, (Str.empty, 0)) ∈ numRefs wd := by
        rw [List.getD_eq_getElem?_getD, List.getElem?_eq_getElem ha2]
        exact List.getElem_mem ha2
      generalize (numRefs wd).getD a (0, 0, (Str.empty, 0)) = p at hp hns
      have hpo := numRefs_ok o p hp
      have hqo := numRefs_ok o q (List.mem_of_mem_drop hq)
      obtain ⟨x, hx, hxp, hxf⟩ := num_spot hp
      obtain ⟨y, hy, hyq, hyf⟩ := num_spot (List.mem_of_mem_drop hq)
      have hs := stride_bd o hpo.1
      unfold meetOf dist at hns
      split at hns
      · rename_i hc
        split at hns
        · rename_i hm
          simp only [Option.map_some, Option.some.injEq] at hns
          subst hns
          obtain ⟨n1, n2⟩ := fdiv_cases (z := p.2.2.2 - q.2.2.2) hs.1 hs.2 (by omega) (by omega) hm
          have nz : -(p.2.2.2 - q.2.2.2) = q.2.2.2 - p.2.2.2 := by omega
          rw [nz] at n1 n2
          have f1 : farOf wd x y = some ((p.2.2.2 - q.2.2.2).fdiv (strideOf wd p.2.2.1)) := by
            unfold farOf
            rw [hxp, hyq]
            exact if_pos ⟨hc.1, hc.2.elim (fun z => .inl (hxf.mp z)) fun z => .inr (hyf.mp z), hm⟩
          have f2 : farOf wd y x = some ((q.2.2.2 - p.2.2.2).fdiv (strideOf wd p.2.2.1)) := by
            unfold farOf
            rw [hxp, hyq, ← hc.1]
            exact if_pos ⟨rfl, hc.2.elim (fun z => .inr (hxf.mp z)) fun z => .inl (hyf.mp z), n1⟩
          have g1 := farm hx hy f1
          have g2 := farm hy hx f2
          rw [n2] at g2
          exact absI_le g1 g2
        · cases hns
      · cases hns
theorem topL_top {wd : Wd} (o : WOk wd) : topL wd = ((topM wd : Nat) : Int) := by
  have h := reach_bd o
  unfold topL topM
  rw [far_reach o]
  split <;> omega
theorem count_law {wd : Wd} (o : WOk wd) (n : Nat) : 2 * ((n : Nat) : Int) + 2 * farM wd = ((countM wd n : Nat) : Int) := by
  have h := reach_bd o
  unfold countM
  rw [far_reach o]
  omega
end VW

set_option maxHeartbeats 4000000
namespace VW
open PySem PySem.Spec PyProof.Rows L2
/-! ### keys as data -/
def rKey : Rp (List Key) := fun k v H => TupAt H v (k.map kV)
instance : ML rKey := ⟨fun s h => TupAt.keep s h⟩
def tri (z : Nat × Nat × Nat) : PyData := .tuple [.int (z.1 : Nat), .int (z.2.1 : Nat), .int (z.2.2 : Nat)]
def triK (z : Nat × Nat × Nat) : List Key := [.inl ((z.1 : Nat) : Int), .inl ((z.2.1 : Nat) : Int), .inl ((z.2.2 : Nat) : Int)]
theorem tri_lay (z : Nat × Nat × Nat) : (tri z).canLay0 = true := by simp [tri, PyData.canLay0, PyData.canLayAll0]
theorem tri_depth (z : Nat × Nat × Nat) : (tri z).depth = 1 := by simp [tri, PyData.depth, PyData.depthAll]
theorem tris_lay : ∀ zs : List (Nat × Nat × Nat), PyData.canLayAll0 (zs.map tri) = true
  | [] => by simp [PyData.canLayAll0]
  | z :: zs => by simp [PyData.canLayAll0, tri_lay z, tris_lay zs]
theorem tris_depth : ∀ zs : List (Nat × Nat × Nat), PyData.depthAll (zs.map tri) ≤ 1
  | [] => by simp [PyData.depthAll]
  | z :: zs => by
    have h1 := tris_depth zs
    have h2 := tri_depth z
    simp only [List.map_cons, PyData.depthAll]
    omega
theorem tris_shaped (zs : List (Nat × Nat × Nat)) : SeqAt.shaped (.list (zs.map tri)) = true := by
  have h1 := tris_depth zs
  have h2 : PyData.depth (.list (zs.map tri)) ≤ 64 := by
    simp only [PyData.depth]
    omega
  show (PyData.canLay0 (.list (zs.map tri)) && decide (PyData.depth (.list (zs.map tri)) ≤ 64)) = true
  rw [Bool.and_eq_true]
  exact ⟨by simp only [PyData.canLay0]; exact tris_lay zs, decide_eq_true h2⟩
theorem nil_shaped : SeqAt.shaped (.list []) = true := tris_shaped []
theorem keys_tri : ∀ {l : List (List Key)}, (∀ k ∈ l, ∃ z, k = triK z) → ∃ zs : List (Nat × Nat × Nat), l = zs.map triK
  | [], _ => ⟨[], rfl⟩
  | k :: l, h => by
    obtain ⟨z, hz⟩ := h k List.mem_cons_self
    obtain ⟨zs, hzs⟩ := keys_tri (l := l) fun y hy => h y (List.mem_cons_of_mem _ hy)
    exact ⟨z :: zs, by rw [hz, hzs]; rfl⟩
theorem dp_tris {K : PySem.W.Frag} {H : Hp} : ∀ {zs : List (Nat × Nat × Nat)} {vs : List V}, All2 rKey H (zs.map triK) vs → DpAll K H vs (zs.map tri)
  | [], [], _ => .nil
  | z :: zs, v :: vs, h => by
    obtain ⟨⟨t, rfl, ht⟩, h2⟩ := h
    exact .cons (.tup (.inl (.inl ht)) (.cons (.int _) (.cons (.int _) (.cons (.int _) .nil)))) (dp_tris h2)
  | [], _ :: _, h => h.elim
  | _ :: _, [], h => h.elim
/-! ### the law's test -/
def wrongOf (wd : Wd) (n c : Nat) (q : List Key × Option (Nat × Nat)) : Option (List Key) := if isOf n q.1 = true ∧ ¬ getA (plainO wd c) q.1 = some q.2 then some q.1 else none
theorem wrong_right (wd : Wd) (n p w c : Nat) : decide ((freeO wd n p w c).filterMap (wrongOf wd n c) = []) = rightAt wd n p w c := by
  rw [Bool.eq_iff_iff, decide_eq_true_eq, List.filterMap_eq_nil_iff]
  unfold rightAt foundM
  rw [List.all_eq_true]
  constructor
  · intro h q hq
    obtain ⟨h1, h2⟩ := List.mem_filter.mp hq
    have h3 := h q h1
    unfold wrongOf at h3
    by_cases e : getA (plainO wd c) q.1 = some q.2
    · exact decide_eq_true e
    · rw [if_pos ⟨h2, e⟩] at h3
      cases h3
  · intro h q hq
    unfold wrongOf
    refine if_neg fun z => z.2 ?_
    exact of_decide_eq_true (h q (List.mem_filter.mpr ⟨hq, z.1⟩))
theorem wrong_keys {wd : Wd} {n p w c : Nat} : ∃ zs : List (Nat × Nat × Nat), (freeO wd n p w c).filterMap (wrongOf wd n c) = zs.map triK := by
  refine keys_tri fun k hk => ?_
  obtain ⟨q, hq, e⟩ := List.mem_filterMap.mp hk
  unfold wrongOf at e
  split at e
  · cases e
    obtain ⟨j, i, k', h3⟩ := flow_key3 (wd := wd) (l := freeEv wd n p w c) hq
    exact ⟨(j, i, k'), h3⟩
  · cases e
def badN (wd : Wd) (n m : Nat) : List (Nat × Nat) := ((List.range m).map fun p => (n, p)).filter fun q => !rightP wd q.1 q.2
theorem badN_succ (wd : Wd) (n m : Nat) : badN wd n (m + 1) = badN wd n m ++ (if rightP wd n m = true then [] else [(n, m)]) := by
  unfold badN
  rw [List.range_succ, List.map_append, List.filter_append]
  congr 1
  cases h : rightP wd n m <;> simp [h]
theorem badM_flat (wd : Wd) : badM wd = (List.range wd.deeds.length).flatMap fun n => badN wd n (n + 1) := by
  unfold badM pairsM badN
  rw [List.filter_flatMap]
theorem badN_le (wd : Wd) (n m : Nat) : (badN wd n m).length ≤ m := by
  have h : (badN wd n m).length ≤ ((List.range m).map fun p => (n, p)).length := List.length_filter_le _ _
  rw [List.length_map, List.length_range] at h
  exact h
section
variable {P : Program} {w : World} {K : PySem.W.Frag} {mg : Str → Option Value} {base : Heap}
theorem ok__law_bad_places (T : Txt K mg) : FnOk P w K mg base CX0 4 T._law_bad_places.f T._law_bad_places.fd ["world"] (sp1 rWo (fun wd => rL rNN (badM wd))) := by
  refine dok T._law_bad_places.F sc__law_bad_places (fun vs H Q E h => ?_) (fun cdv A outer s H vs Q E hr h => ?_)
  · exact sp1_len h
  · obtain ⟨wd, x0, rfl, hwo, q⟩ := h
    have ok := hwo.2
    have htop := topM_le ok
    have hd2 := ok.d2
    refine ⟨_, (pss_cons (ps_par (i := 1) (j := 2) rfl sc__law_bad_places.nd rfl rfl (by decide) rfl rfl (pa_cons (pe_lst pa_nil) (pa_cons (pcall T._law_far (ok__law_far T) (hr.mono (by decide)) (pa_cons (pv 0) pa_nil)) pa_nil)) (by rfl))
      (pss_cons (ps_for PassesOwn.never rfl (pi_range1 (by rfl) T.range_ (pa_cons (pe_callB (call_lenK (K := K)) (by rfl) T.len_ (by decide +kernel) (pa_cons (pe_ix (ix_listK (K := K)) (pv 0) pe_int (fun _ _ => rfl)) pa_nil)) pa_nil)) (pg_name (i := 3) sc__law_bad_places.nd rfl (.inr rfl))
      (pss_one (ps_for PassesOwn.never rfl (pi_range1 (by rfl) T.range_ (pa_cons (pe_op op_add (pv 3) pe_int) pa_nil)) (pg_name (i := 4) sc__law_bad_places.nd rfl (.inl rfl))
      (pss_cons (ps_set (i := 5) sc__law_bad_places.nd rfl (.inl rfl) pe_bl)
      (pss_cons (ps_for PassesOwn.never rfl (pi_range2 (by rfl) T.range_ (pa_cons pe_int (pa_cons (pe_op op_add (pcall T._law_top (ok__law_top T) (hr.mono (by decide)) (pa_cons (pv 0) pa_nil)) pe_int) pa_nil))) (pg_name (i := 6) sc__law_bad_places.nd rfl (.inl rfl))
      (pss_one (ps_for PassesOwn.never rfl (pi_range1 (by rfl) T.range_ (pa_cons (pe_op op_add (pe_op op_add (pe_op op_mul pe_int (pv 6)) (pe_op op_mul pe_int (pv 2))) pe_int) pa_nil)) (pg_name (i := 7) sc__law_bad_places.nd rfl (.inl rfl))
      (pss_one (ps_if (pt_not (pt_val (pv 5))) (pss_cons (ps_set (i := 8) sc__law_bad_places.nd rfl (.inr rfl) (pe_ix (ix_listK (K := K)) (pcall T._law_flow (ok__law_flow T) (hr.mono (by decide)) (pa_cons (pv 0) (pa_cons (pcall T._law_plain (ok__law_plain T) (hr.mono (by decide)) (pa_cons (pv 0) (pa_cons pe_int (pa_cons (pv 7) pa_nil)))) pa_nil))) pe_int (fun _ _ => rfl)))
      (pss_cons (ps_set (i := 9) sc__law_bad_places.nd rfl (.inr rfl) (pe_ix (ix_listK (K := K)) (pcall T._law_flow (ok__law_flow T) (hr.mono (by decide)) (pa_cons (pv 0) (pa_cons (pcall T._law_free (ok__law_free T) (hr.mono (by decide)) (pa_cons (pv 0) (pa_cons (pv 3) (pa_cons (pv 4) (pa_cons (pv 6) (pa_cons (pv 7) pa_nil)))))) pa_nil))) pe_int (fun _ _ => rfl)))
      (pss_one (ps_set (i := 5) sc__law_bad_places.nd rfl (.inl rfl) (pe_cmpR (op_neDK (K := K) hr.units) (pe_lock (pe_lc (own := [("load", 10)]) rfl sc__law_bad_places.nd (pi_keys (pv 9)) (blkOk_by (own := [("load", 10)]) (N := N__law_bad_places) (sc := defScope s__law_bad_places) (by decide +kernel)) (fun _ _ _ _ _ => (pg_name (i := 10) sc__law_bad_places.nd rfl (.inl rfl))) (fun _ _ _ _ _ => (pts_one (PW.pt (pw_and (pt_cmpR op_eq (pe_ix (ix_tupK (K := K)) (pv 10) pe_int (fun _ _ => rfl)) (pv 3) (nomark _)) (pw_and1 (pt_cmpR (op_neDK (K := K) hr.units) (pe_dget (hu_of hr) (pv 9) (pv 10) (fun _ _ => rfl)) (pe_dget (hu_of hr) (pv 8) (pv 10) (fun _ _ => rfl)) (nomark _))))))) (fun _ _ _ _ _ => (pv 10)))) (pe_lst pa_nil) (nomark _)))))) pss_nil)))))
      (pss_one (ps_if (pt_val (pv 5)) (pss_one (ps_expr (pe_bmK (K := K) PySem.F.plainAttrs_list PySem.F.slot_list_append PySem.F.type_list_append mt_append (pv 1) (pa_cons (pe_tup (pa_cons (pv 3) (pa_cons (pv 4) pa_nil))) pa_nil)))) pss_nil)))))))
      (pss_one (ps_ret (pv 1))))), ?_⟩
    refine ⟨(by show 0 ≤ sizeLine; decide), fun D nD => ?_⟩
    have sD := same_new (o := .lst []) nD
    refine ⟨_, rfl, wd, _, rfl, Mono.mono sD hwo, fun u H1 s1 hu => ?_⟩
    cases hu
    obtain ⟨⟨rv, dv, ⟨wa, rfl, hwa⟩, hrows, ⟨da, dvs, rfl, hda, hds⟩⟩, _⟩ := id hwo
    have hdl := hds.length
    have s01 := sD.trans s1
    refine ⟨_, _, rfl, ?_⟩
    refine ⟨_, rfl, wa, _, 1, .ref da, rfl, rfl, .inl (.inl (s01 _ _ hwa)), atI_nat (j := 1) rfl, da, dvs, rfl, .inl (.inl (.inl (s01 _ _ hda))), (dvs.length : Nat), rfl, by omega, by omega, ?_⟩
    refine for_it walk_r0 (fun n σ' H' => ∃ y3 y4 y5 y6 y7 y8 y9, σ' = [some (.ref wa), some (.ref D), some (.int (farM wd)), y3, y4, y5, y6, y7, y8, y9, none] ∧ Mk2 rNN H D ((List.range n).flatMap fun n => badN wd n (n + 1)) H')
      ⟨none, none, none, none, none, none, none, rfl, (Mk2.new nD).grow nD s1⟩ (fun _ _ _ _ _ => True.intro) ?_ ?_
    · rintro n y σ' H2 H3 hi ⟨y3, y4, y5, y6, y7, y8, y9, rfl, m⟩ ⟨rfl, rfl⟩
      have hn : n < wd.deeds.length := by omega
      rw [range_flat]
      have hpre : ((List.range n).flatMap fun n => badN wd n (n + 1)).length ≤ 9 := by
        have h := flatMap_le (f := fun n => badN wd n (n + 1)) (B := 3) (l := List.range n) fun x hx => by
          have h1 := badN_le wd x (x + 1)
          have h2 := List.mem_range.mp hx
          omega
        rw [List.length_range] at h
        omega
      generalize ((List.range n).flatMap fun n => badN wd n (n + 1)) = pre at hpre m
      refine ⟨_, rfl, (n : Nat), 1, rfl, rfl, _, rfl, by omega, by omega, ?_⟩
      refine for_it walk_r0 (fun p σ' H' => ∃ y4 y5 y6 y7 y8 y9, σ' = [some (.ref wa), some (.ref D), some (.int (farM wd)), some (.int (n : Nat)), y4, y5, y6, y7, y8, y9, none] ∧ Mk2 rNN H D (pre ++ badN wd n p) H')
        ⟨_, _, _, _, _, _, rfl, by simpa [badN] using m⟩ (fun _ _ _ _ _ => True.intro) ?_ ?_
      · rintro p y σ' H4 H5 hp ⟨y4, y5, y6, y7, y8, y9, rfl, m5⟩ ⟨rfl, rfl⟩
        have hpn : p ≤ n := by omega
        have hbn := badN_le wd n p
        refine ⟨_, rfl, wd, _, rfl, Mono.mono m5.1 hwo, fun u H6 s6 hu => ?_⟩
        cases hu
        rw [topL_top ok]
        have m6 := m5.grow nD s6
        refine ⟨(topM wd : Nat), 1, rfl, rfl, 1, _, rfl, ⟨by omega, by omega, by omega, by omega⟩, for_it walk_range (fun i σ' H' => ∃ y6 y7 y8 y9, σ' = [some (.ref wa), some (.ref D), some (.int (farM wd)), some (.int (n : Nat)), some (.int (p : Nat)), some (.bl (!((List.range i).all fun a => rightW wd n p (a + 1)))), y6, y7, y8, y9, none] ∧ Mk2 rNN H D (pre ++ badN wd n p) H')
          ⟨_, _, _, _, rfl, m6⟩ (fun _ _ _ _ _ => True.intro) ?_ ?_⟩
        · rintro i y σ' H7 H8 hi2 ⟨y6, y7, y8, y9, rfl, m7⟩ ⟨rfl, rfl⟩
          have hi5 : i < topM wd := by omega
          have hcm := countM_le ok (w := i + 1)
          have e1 : (1 : Int) + ((i : Nat) : Int) = ((i + 1 : Nat) : Int) := by omega
          simp only [e1]
          refine ⟨_, rfl, 2, ((i + 1 : Nat) : Int), rfl, rfl, .inl ⟨by decide, by decide⟩, _, rfl, 2, farM wd, rfl, rfl, .inl ⟨by decide, by decide⟩, _, _, rfl, rfl, _, _, rfl, rfl, ?_⟩
          have e2 : 2 * ((i + 1 : Nat) : Int) + 2 * farM wd + 1 = ((countM wd (i + 1) + 1 : Nat) : Int) := by
            rw [count_law ok]
            rfl
          refine ⟨((countM wd (i + 1) + 1 : Nat) : Int), congrArg (fun z => [V.int z]) e2, by omega, by omega, ?_⟩
          refine for_it walk_r0 (fun k σ' H' => ∃ y7 y8 y9, σ' = [some (.ref wa), some (.ref D), some (.int (farM wd)), some (.int (n : Nat)), some (.int (p : Nat)), some (.bl (!(((List.range i).all fun a => rightW wd n p (a + 1)) && (List.range k).all fun c => rightAt wd n p (i + 1) c))), some (.int ((i + 1 : Nat) : Int)), y7, y8, y9, none] ∧ Mk2 rNN H D (pre ++ badN wd n p) H')
            ⟨y7, y8, y9, by simp, m7⟩ (fun _ _ _ _ _ => True.intro) ?_ ?_
          · rintro c y σ' H9 H10 hc ⟨y7, y8, y9, rfl, m9⟩ ⟨rfl, rfl⟩
            have hc2 : c < countM wd (i + 1) + 1 := by omega
            have hall : ((List.range (c + 1)).all fun c => rightAt wd n p (i + 1) c) = (((List.range c).all fun c => rightAt wd n p (i + 1) c) && rightAt wd n p (i + 1) c) := by
              rw [List.range_succ, List.all_append]
              simp
            rw [hall]
            generalize ((List.range i).all fun a => rightW wd n p (a + 1)) = bw
            generalize ((List.range c).all fun c => rightAt wd n p (i + 1) c) = bc
            refine ⟨_, rfl, _, rfl, ?_⟩
            cases hb : (bw && bc) with
            | false =>
              rw [← Bool.and_assoc, hb, Bool.false_and]
              exact iteF ⟨_, _, _, rfl, m9⟩
            | true =>
              rw [← Bool.and_assoc, hb, Bool.true_and]
              refine iteT ?_
              have hpl := plainEv_le ok c
              have s9 := m9.1
              refine ⟨_, rfl, _, rfl, _, rfl, wd, (), c, _, _, _, rfl, Mono.mono s9 hwo, rfl, ⟨rfl, by omega⟩, fun u H11 s11 hu => ?_⟩
              refine ⟨wd, plainEv wd c, _, _, rfl, Mono.mono (s9.trans s11) hwo, ⟨hu, plainEv_ok (by omega), by omega⟩, fun u2 H12 s12 hu2 => ?_⟩
              obtain ⟨ov, wv, ⟨tp, rfl, htp⟩, ⟨pa, pk, rfl, hpa, hpk⟩, _⟩ := hu2
              have e2' : (flowM wd (plainEv wd c)).1 = plainO wd c := rfl
              rw [e2'] at hpk
              refine ⟨tp, _, 0, .ref pa, rfl, rfl, .inl (.inl htp), atI_nat (j := 0) rfl, ?_⟩
              have sA := (s9.trans s11).trans s12
              have hfe := freeEv_le ok (p := p) (w := i + 1) (c := c) hn (by omega) (by omega) (by omega)
              refine ⟨_, rfl, _, rfl, _, rfl, _, rfl, _, rfl, _, rfl, wd, n, p, i + 1, c, _, _, _, _, _, rfl, Mono.mono sA hwo, ⟨rfl, hn⟩, ⟨rfl, hpn⟩, ⟨rfl, by omega, by omega⟩, ⟨rfl, by omega⟩, fun u3 H13 s13 hu3 => ?_⟩
              refine ⟨wd, freeEv wd n p (i + 1) c, _, _, rfl, Mono.mono (sA.trans s13) hwo, ⟨hu3, freeEv_ok hn (by omega), by omega⟩, fun u4 H14 s14 hu4 => ?_⟩
              obtain ⟨ov2, wv2, ⟨tg, rfl, htg⟩, ⟨fa, fk, rfl, hfa, hfk⟩, _⟩ := hu4
              have e3' : (flowM wd (freeEv wd n p (i + 1) c)).1 = freeO wd n p (i + 1) c := rfl
              rw [e3'] at hfk
              have hkl := hfk.length
              have hffl : (freeO wd n p (i + 1) c).length ≤ 36000 := by
                have h2 := (flow_len wd (freeEv wd n p (i + 1) c) ([], [])).1
                simp only [List.length_nil] at h2
                unfold freeO flowM
                omega
              refine ⟨tg, _, 0, .ref fa, rfl, rfl, .inl (.inl htg), atI_nat (j := 0) rfl, ?_⟩
              have hpa14 := s14 _ _ (s13 _ _ hpa)
              have hpk14 := kv_kt (R := rOpt rNN) kt_oNN (KeepT.of (s13.trans s14)) hpk
              refine ⟨fa, _, hfa, True.intro, fun od => ?_⟩
              have hfz : (upd H14 fa (.frz od (.dT fk))) fa = some (.frz od (.dT fk)) := upd_same
              refine ⟨_, rfl, fa, od, rfl, .inr ⟨fk, hfz, fun D3 nD3 => ?_⟩⟩
              have hD3 : D3 ≠ fa := fun z => by rw [z, hfz] at nD3; cases nD3
              refine lc_opt (S := rKey) (fun m => wrongOf wd n c ((freeO wd n p (i + 1) c).getD m ([], none))) walk_keysT nD3 (by omega) (fun H' s' => s' _ _ hfz) (fun m x H15 H16 N M hm s15 hx k1 k2 => ?_) fun H15 mk => ?_
              · obtain ⟨rfl, k, v, qa, hk, rfl, hqa⟩ := hx
                obtain ⟨r, hr, rfl, hrv⟩ := kv_nth hfk hk
                have hrm := List.mem_of_getElem? hr
                have er : (freeO wd n p (i + 1) c).getD m ([], none) = r := by rw [List.getD_eq_getElem?_getD, hr]; rfl
                rw [er] at k1 k2
                obtain ⟨j, i', k', hk3⟩ := flow_key3 (wd := wd) (l := freeEv wd n p (i + 1) c) hrm
                have hqa3 : H16 qa = some (.tup [.int (j : Nat), .int (i' : Nat), .int (k' : Nat)]) := by
                  rw [hqa, hk3]
                  rfl
                have eis : isOf n r.1 = decide (j = n) := by
                  unfold isOf
                  rw [hk3]
                  simp [eq_comm]
                  omega
                refine ⟨rfl, ?_⟩
                refine ⟨_, rfl, qa, _, 0, .int (j : Nat), rfl, rfl, .inl (.inl hqa3), atI_nat (j := 0) rfl, _, rfl, rfl, _, rfl, ?_⟩
                by_cases hj : j = n
                · refine iteY (by rw [hj]) ?_
                  have et : isOf n r.1 = true := by rw [eis]; exact decide_eq_true hj
                  obtain ⟨o1, ho1⟩ := free_has (p := p) (w := i + 1) (c := c) hn hrm
                  obtain ⟨v1, hv1, hw1⟩ := kv_at hpk14 ho1
                  obtain ⟨v2, hv2, hw2⟩ := kv_at hfk (kv_nd (flowM_nodup wd _) hrm)
                  have kt10 : KeepT H14 H16 := lock_kt (u := .dT fk) (fun _ z => by cases z) hfa s15
                  have hpz : ∃ u, Rd H16 pa (.dT u) ∧ u = pk := by
                    by_cases hpf : pa = fa
                    · subst hpf
                      rw [hpa14] at hfa
                      injection hfa with hfa
                      injection hfa with hfa
                      exact ⟨fk, .inr ⟨od, s15 _ _ hfz⟩, hfa.symm⟩
                    · refine ⟨pk, .inl (s15 _ _ ?_), rfl⟩
                      rw [upd_ne hpf]
                      exact hpa14
                  obtain ⟨_, hpz, rfl⟩ := hpz
                  refine ⟨_, rfl, _, rfl, fa, v2, rfl, .inr ⟨fk, r.1, qa, .inr ⟨od, s15 _ _ hfz⟩, rfl, hqa, hv2.symm⟩, _, rfl, _, rfl, pa, v1, rfl, .inr ⟨_, r.1, qa, hpz, rfl, hqa, hv1.symm⟩,
                    _, _, dp_org (kt_oNN kt10 hw2), dp_org (kt_oNN kt10 hw1), dOrg_shaped _, dOrg_shaped _, _, rfl, ?_⟩
                  rw [dOrg_eqv]
                  by_cases eo : r.2 = o1
                  · refine iteNS eo (k2 _ (if_neg fun z => z.2 ?_) (Same.refl _))
                    rw [ho1, eo]
                  · refine iteNY eo ⟨_, rfl, k1 r.1 _ _ (if_pos ⟨et, fun z => eo ?_⟩) (Same.refl _) ⟨qa, rfl, hqa⟩⟩
                    rw [ho1] at z
                    exact (Option.some.inj z).symm
                · refine iteN (fun z => hj (vint_inj z)) ?_
                  have et : ¬ isOf n r.1 = true := by rw [eis, decide_eq_false hj]; decide
                  exact iteF (k2 _ (if_neg fun z => et z.1) (Same.refl _))
              · have e8 : (List.range fk.length).filterMap (fun m => wrongOf wd n c ((freeO wd n p (i + 1) c).getD m ([], none))) = (freeO wd n p (i + 1) c).filterMap (wrongOf wd n c) := by
                  rw [← hkl]
                  exact @range_filterMap_get _ _ ⟨([], none)⟩ (freeO wd n p (i + 1) c) (wrongOf wd n c)
                rw [e8] at mk
                have hwr := wrong_right wd n p (i + 1) c
                obtain ⟨zs, hzs⟩ := wrong_keys (wd := wd) (n := n) (p := p) (w := i + 1) (c := c)
                rw [hzs] at mk hwr
                obtain ⟨s15, acc, eD3, aD3⟩ := mk
                have eD3' : (upd H15 fa (.dT fk)) D3 = some (.lst acc) := by
                  rw [upd_ne hD3]
                  exact eD3
                have aD3' : All2 rKey (upd H15 fa (.dT fk)) (zs.map triK) acc := by
                  refine aD3.imp fun k v hk => ?_
                  obtain ⟨t, rfl, ht⟩ := hk
                  refine ⟨t, rfl, ?_⟩
                  have htf : t ≠ fa := fun z => by
                    rw [z, s15 _ _ hfz] at ht
                    cases ht
                  rw [upd_ne htf]
                  exact ht
                have sL := lock_same hfa s15
                refine ⟨s15 _ _ hfz, (by show 0 ≤ sizeLine; decide), fun e ne => ?_⟩
                have se := same_new (o := .lst []) ne
                refine ⟨.list (zs.map tri), .list [], .lst (.inl (.inl (se _ _ eD3'))) (dp_tris (aD3'.keep (Same.keep se))), .lst (.inl (.inl upd_same)) .nil, tris_shaped zs, nil_shaped, ?_⟩
                have heq : (PyData.list (zs.map tri)).eqv (PyData.list []) = rightAt wd n p (i + 1) c := by
                  rw [← hwr]
                  cases zs with
                  | nil => rfl
                  | cons z zs => rfl
                rw [heq]
                exact ⟨_, _, _, rfl, m9.grow nD ((((s11.trans s12).trans (s13.trans s14)).trans sL).trans se)⟩
          · rintro σ' H9 ⟨y7, y8, y9, rfl, m9⟩
            have e3 : ((List.range (i + 1)).all fun a => rightW wd n p (a + 1)) = (((List.range i).all fun a => rightW wd n p (a + 1)) && rightW wd n p (i + 1)) := by
              rw [List.range_succ, List.all_append]
              simp
            rw [e3]
            exact ⟨_, _, _, _, rfl, m9⟩
        · rintro σ' H7 ⟨y6, y7, y8, y9, rfl, m7⟩
          have e4 : (((topM wd : Nat) : Int) + 1 - 1).toNat = topM wd := by omega
          rw [e4]
          have e7 : ((List.range (topM wd)).all fun a => rightW wd n p (a + 1)) = rightP wd n p := rfl
          rw [e7, badN_succ]
          refine ⟨_, rfl, _, rfl, ?_⟩
          cases hrp : rightP wd n p with
          | true =>
            refine iteF ⟨_, _, _, _, _, _, rfl, ?_⟩
            rw [if_pos rfl, List.append_nil]
            exact m7
          | false =>
            obtain ⟨acc0, e0, _⟩ := m7.2
            refine iteT ⟨_, rfl, .inl ⟨rfl, _, .inl (.inl e0)⟩, _, rfl, _, rfl, (by show 2 ≤ sizeLine; decide), fun t nt => ?_⟩
            obtain ⟨acc, e8, h8, m8⟩ := (m7.grow nD (same_new (o := .tup [.int (n : Nat), .int (p : Nat)]) nt)).one nD (c := (n, p)) (v := .ref t) ⟨t, rfl, upd_same⟩ (by rw [List.length_append]; omega)
            refine ⟨D, acc, _, rfl, rfl, e8, h8, _, _, _, _, _, _, rfl, ?_⟩
            rw [if_neg (by decide), ← List.append_assoc]
            exact m8
      · rintro σ' H4 ⟨y4, y5, y6, y7, y8, y9, rfl, m5⟩
        have e5 : (((n : Nat) : Int) + 1).toNat = n + 1 := by omega
        rw [e5] at m5
        exact ⟨_, _, _, _, _, _, _, rfl, m5⟩
    · rintro σ' H2 ⟨y3, y4, y5, y6, y7, y8, y9, rfl, m⟩
      have e6 : ((dvs.length : Nat) : Int).toNat = wd.deeds.length := by omega
      rw [e6, ← badM_flat] at m
      exact ⟨_, rfl, q _ _ m.1 m.done⟩
end
end VW

set_option maxHeartbeats 4000000
namespace VW
open PySem PySem.Spec PyProof.Rows L2
theorem nn_lay : ∀ l : List (Nat × Nat), PyData.canLayAll0 (l.map dNN) = true
  | [] => by simp [PyData.canLayAll0]
  | z :: zs => by simp [PyData.canLayAll0, dNN, PyData.canLay0, nn_lay zs]
theorem nn_depth : ∀ l : List (Nat × Nat), PyData.depthAll (l.map dNN) ≤ 1
  | [] => by simp [PyData.depthAll]
  | z :: zs => by
    have h1 := nn_depth zs
    have h2 : (dNN z).depth = 1 := by simp [dNN, PyData.depth, PyData.depthAll]
    simp only [List.map_cons, PyData.depthAll]
    omega
theorem nn_shaped (l : List (Nat × Nat)) : SeqAt.shaped (.list (l.map dNN)) = true := by
  have h1 := nn_depth l
  have h2 : PyData.depth (.list (l.map dNN)) ≤ 64 := by
    simp only [PyData.depth]
    omega
  show (PyData.canLay0 (.list (l.map dNN)) && decide (PyData.depth (.list (l.map dNN)) ≤ 64)) = true
  rw [Bool.and_eq_true]
  exact ⟨by simp only [PyData.canLay0]; exact nn_lay l, decide_eq_true h2⟩
theorem nn_eqv (l : List (Nat × Nat)) : PyData.eqv (.list (l.map dNN)) (.list (l.map dNN)) = true := SeqAt.eqv_refl _ (by simp only [PyData.canLay0]; exact nn_lay l)
theorem dp_nns {K : PySem.W.Frag} {H : Hp} : ∀ {l : List (Nat × Nat)} {vs : List V}, All2 rNN H l vs → DpAll K H vs (l.map dNN)
  | [], [], _ => .nil
  | z :: zs, v :: vs, h => by
    obtain ⟨⟨t, rfl, ht⟩, h2⟩ := h
    exact .cons (.tup (.inl (.inl ht)) (.cons (.int _) (.cons (.int _) .nil))) (dp_nns h2)
  | [], _ :: _, h => h.elim
  | _ :: _, [], h => h.elim
theorem dp_list {K : PySem.W.Frag} {H : Hp} {l : List (Nat × Nat)} {v : V} (h : rL rNN l v H) : Dp K H v (.list (l.map dNN)) := by
  obtain ⟨a, vs, rfl, ha, hvs⟩ := h
  exact .lst (.inl (.inl ha)) (dp_nns hvs)
def spLaw (K : PySem.W.Frag) : Sp := fun vs H Q _ => ∃ (a : Addr) (ns : List Int), vs = [.ref a] ∧ SqL K H a (ns.map V.int) ∧ ∀ H', Q (.bl true) H'
section
variable {P : Program} {w : World} {K : PySem.W.Frag} {mg : Str → Option Value} {base : Heap}
theorem ok_law (T : Txt K mg) : FnOk P w K mg base CX0 10 T.law.f T.law.fd ["script"] ((spLaw K)) := by
  refine dok T.law.F sc_law (fun vs H Q E h => ?_) (fun cdv A outer s H vs Q E hr h => ?_)
  · obtain ⟨_, _, rfl, _⟩ := h
    rfl
  · obtain ⟨sa, ns, rfl, hS, q⟩ := h
    refine ⟨_, (pss_cons (ps_set (i := 1) sc_law.nd rfl (.inl rfl) (pcall T._law_begin (ok__law_begin T) (hr.mono (by decide)) (pa_cons (pv 0) pa_nil)))
      (pss_cons (ps_for PassesOwn.never rfl (pi_range1 (by rfl) T.range_ (pa_cons pe_int pa_nil)) (pg_name (i := 2) sc_law.nd rfl (.inl rfl))
      (pss_cons (ps_set (i := 3) sc_law.nd rfl (.inl rfl) (pcall T._law_world (ok__law_world T) (hr.mono (by decide)) (pa_cons (pv 1) (pa_cons pe_int (pa_cons pe_int pa_nil)))))
      (pss_one (ps_if (pt_cmpR (op_neDK (K := K) hr.units) (pcall T.bad_places (ok_bad_places T) (hr.mono (by decide)) (pa_cons (pcall T._law_loop (ok__law_loop T) (hr.mono (by decide)) (pa_cons (pv 3) pa_nil)) pa_nil)) (pcall T._law_bad_places (ok__law_bad_places T) (hr.mono (by decide)) (pa_cons (pv 3) pa_nil)) (nomark _)) (pss_one (ps_ret pe_bl)) pss_nil))))
      (pss_one (ps_ret pe_bl)))), ?_⟩
    refine ⟨_, rfl, sa, ns, rfl, hS, fun a ca ws H1 s1 => ?_⟩
    refine ⟨2, rfl, by decide, by decide, for_it walk_r0 (fun i σ' H' => ∃ y2 y3, σ' = [some (.ref sa), some (.ref a), y2, y3] ∧ SrcV a ca ws H') ⟨none, none, rfl, s1⟩ (fun _ _ _ _ _ => True.intro) ?_ ?_⟩
    · rintro i y σ' H2 H3 hi ⟨y2, y3, rfl, s2⟩ ⟨rfl, rfl⟩
      refine ⟨_, rfl, a, ca, ws, rfl, s2, fun wd u H4 hok s4 so4 hu => ?_⟩
      have hwo : rWo wd u H4 := ⟨Mono.mono off_le hu, hok⟩
      refine ⟨_, rfl, wd, u, rfl, hwo, fun u5 H5 s5 hu5 => ?_⟩
      refine ⟨wd, _, rfl, hu5, fun u6 H6 s6 hu6 => ?_⟩
      refine ⟨_, rfl, wd, u, rfl, Mono.mono (s5.trans s6) hwo, fun u7 H7 s7 hu7 => ?_⟩
      have h6 : rL rNN (badM wd) u6 H7 := Mono.mono s7 hu6
      refine ⟨_, _, dp_list h6, dp_list hu7, nn_shaped _, nn_shaped _, _, rfl, ?_⟩
      rw [nn_eqv]
      exact iteF ⟨_, _, rfl, ((s4.grow s5).grow s6).grow s7⟩
    · rintro σ' H2 ⟨y2, y3, rfl, s2⟩
      exact q _
end
end VW

set_option maxHeartbeats 4000000
/-! What the head tells of the text. Printed by wip/facts.py. -/
namespace VW
open PySem PySem.Spec PyProof.Rows L2
/-! ### a property's getter -/
def gAd (K : PySem.W.Frag) (c m : Str) : Addr := match PySem.W.recIn K (He.ma K (He.ga K c) m) "property" with
  | some (.ref g :: _) => g
  | _ => 0
structure GetD where
  cls : Str
  nm : Str
  qual : Str
  st : Stmt
def fnAt (K : PySem.W.Frag) (a : Addr) : He.FnW := match K.lookup a with
  | some ⟨_, _, .func u, _⟩ => some (u.name, u.qualname, u.params, u.body, u.scope, u.globals, u.closure, u.builtins)
  | _ => none
def GetD.due (d : GetD) : He.FnW := some (d.nm, d.qual, defArgs d.st, .stmts (defBody d.st), defScope d.st, mainGlobals, [], builtinsNs)
def GetD.holds (K : PySem.W.Frag) (d : GetD) : Bool := PySem.W.keepIn K (.ref (gAd K d.cls d.nm)) && (match K.lookup (gAd K d.cls d.nm) with
  | some ⟨_, _, .func u, _⟩ => PySem.W.codeIn K u.code d.qual && He.dflB K u.defaults []
  | _ => false)
theorem GetD.fn {K : PySem.W.Frag} {d : GetD} (e : fnAt K (gAd K d.cls d.nm) = d.due) (c : d.holds K = true) : ∃ fd, FunD K d.nm d.qual (defArgs d.st) (defBody d.st) (defScope d.st) [] [] (gAd K d.cls d.nm) fd := by
  obtain ⟨kp, h⟩ := He.ba c
  unfold fnAt at e
  cases q : K.lookup (gAd K d.cls d.nm) with
  | none =>
    rw [q] at e
    cases e
  | some ob =>
    obtain ⟨oc, od, dt, osl⟩ := ob
    rw [q] at h e
    cases dt with
    | func u =>
      obtain ⟨m1, m2, m3, m4, m5, m6, m7, m8, m9, m10, m11, m12, m13, m14, m15⟩ := u
      have e2 : (some (m1, m2, m3, m4, m5, m6, m7, m15) : He.FnW) = some (d.nm, d.qual, defArgs d.st, .stmts (defBody d.st), defScope d.st, mainGlobals, [], builtinsNs) := e
      simp only [Option.some.injEq, Prod.mk.injEq] at e2
      obtain ⟨a1, a2, a3, a4, a5, a6, a7, a8⟩ := e2
      subst a1 a2 a3 a4 a5 a6 a7 a8
      obtain ⟨b1, b2⟩ := He.ba (show (PySem.W.codeIn K m13 d.qual && He.dflB K m8 []) = true from h)
      exact ⟨_, ⟨oc, od, m8, m9, m10, m11, m12, m13, m14, osl, rfl, q, b1, He.dflB_ok b2, .inl rfl⟩, kp⟩
    | _ => cases e
def propB (K : PySem.W.Frag) (c m : Str) : Bool := He.eqO (PySem.W.findIn K (.ref (He.ga K c)) m) (some (some (.ref (He.ma K (He.ga K c) m)))) && (He.eqO (PySem.W.specialIn K (.ref (He.ma K (He.ga K c) m)) "__get__") (some (some (.builtin "property.__get__"))) &&
  (decide (PySem.W.takesIn K (.ref (He.ma K (He.ga K c) m)) = some true) && (match PySem.W.recIn K (He.ma K (He.ga K c) m) "property" with
    | some (.ref _ :: _) => true
    | _ => false)))
theorem propB_ok {K : PySem.W.Frag} {c m : Str} (h : propB K c m = true) : PropOf K (He.ga K c) m (He.ma K (He.ga K c) m) (gAd K c m) := by
  obtain ⟨h1, h⟩ := He.ba h
  obtain ⟨h2, h⟩ := He.ba h
  obtain ⟨h3, h4⟩ := He.ba h
  refine ⟨He.eqO_ok h1, He.eqO_ok h2, of_decide_eq_true h3, ?_⟩
  cases q : PySem.W.recIn K (He.ma K (He.ga K c) m) "property" with
  | none =>
    rw [q] at h4
    cases h4
  | some l =>
    rw [q] at h4
    cases l with
    | nil => cases h4
    | cons x r =>
      cases x with
      | ref g =>
        have e : gAd K c m = g := by
          unfold gAd
          rw [q]
        rw [e]
        exact ⟨r, rfl⟩
      | _ => cases h4
def clsB (K : PySem.W.Frag) (c : Str) : Bool := He.eqO (PySem.W.findIn K (.ref (He.ga K c)) "__class__") (some (some (.builtin "object.__class__"))) && (He.eqO (PySem.W.specialIn K (.builtin "object.__class__") "__get__") (some (some (.builtin "getset_descriptor.__get__"))) &&
  (decide (PySem.W.takesIn K (.builtin "object.__class__") = some true) && (decide (PySem.W.mroIn K (He.ga K c) (.type "object") = some true) && decide (PySem.W.kitOne K (.ref (He.ga K c)) (.ref (He.ga K c)) = some true))))
def addB (K : PySem.W.Frag) : Bool := decide (He.ga K "Loop" ≠ He.ga K "Statement") && (PySem.W.selfFirst K (He.ga K "Loop") && (mroTwo K (He.ga K "Statement") && (He.eqO (PySem.W.findIn K (.ref (He.ga K "Statement")) "__add__") (some none) &&
  (He.eqO (PySem.W.findIn K (.ref (He.ga K "Statement")) "__radd__") (some none) && (He.eqO (PySem.W.findIn K (.type "object") "__add__") (some none) && He.eqO (PySem.W.findIn K (.type "object") "__radd__") (some none))))))
theorem clsB_cd {K : PySem.W.Frag} {h : Heap} {mg : Str → Option Value} (X : K.In h) (G : h.Ns mainGlobals mg) {c : Str} (h1 : (He.Fa.glo c).ok K = true) (h2 : (He.Fa.cls c).ok K = true) (h3 : clsB K c = true) : ∃ d : Cd K mg c, d.C = He.ga K c := by
  obtain ⟨a1, a⟩ := He.ba h3
  obtain ⟨a2, a⟩ := He.ba a
  obtain ⟨a3, a⟩ := He.ba a
  obtain ⟨a4, a5⟩ := He.ba a
  exact ⟨⟨He.ga K c, He.cls_ok h2, He.glo_ok X G h1, He.eqO_ok a1, He.eqO_ok a2, of_decide_eq_true a3, of_decide_eq_true a4, of_decide_eq_true a5⟩, rfl⟩
def e_is_integer : He.DefD := ⟨("is_integer", none), "is_integer", "is_integer", defArgs s_is_integer, defBody s_is_integer, defScope s_is_integer, [], []⟩
def e_is_between : He.DefD := ⟨("is_between", none), "is_between", "is_between", defArgs s_is_between, defBody s_is_between, defScope s_is_between, [], []⟩
def e_is_name : He.DefD := ⟨("is_name", none), "is_name", "is_name", defArgs s_is_name, defBody s_is_name, defScope s_is_name, [], []⟩
def e_is_offset : He.DefD := ⟨("is_offset", none), "is_offset", "is_offset", defArgs s_is_offset, defBody s_is_offset, defScope s_is_offset, [], []⟩
def e_is_ref : He.DefD := ⟨("is_ref", none), "is_ref", "is_ref", defArgs s_is_ref, defBody s_is_ref, defScope s_is_ref, [], []⟩
def e_are_unlike : He.DefD := ⟨("are_unlike", none), "are_unlike", "are_unlike", defArgs s_are_unlike, defBody s_are_unlike, defScope s_are_unlike, [], []⟩
def e_loads_of : He.DefD := ⟨("loads_of", none), "loads_of", "loads_of", defArgs s_loads_of, defBody s_loads_of, defScope s_loads_of, [], []⟩
def e_end_of : He.DefD := ⟨("end_of", none), "end_of", "end_of", defArgs s_end_of, defBody s_end_of, defScope s_end_of, [], []⟩
def e_iteration_events : He.DefD := ⟨("iteration_events", none), "iteration_events", "iteration_events", defArgs s_iteration_events, defBody s_iteration_events, defScope s_iteration_events, [], []⟩
def e_plain_list : He.DefD := ⟨("plain_list", none), "plain_list", "plain_list", defArgs s_plain_list, defBody s_plain_list, defScope s_plain_list, [], []⟩
def e_cell_of : He.DefD := ⟨("cell_of", none), "cell_of", "cell_of", defArgs s_cell_of, defBody s_cell_of, defScope s_cell_of, [], []⟩
def e_flow : He.DefD := ⟨("flow", none), "flow", "flow", defArgs s_flow, defBody s_flow, defScope s_flow, [], []⟩
def e_numbered_refs : He.DefD := ⟨("numbered_refs", none), "numbered_refs", "numbered_refs", defArgs s_numbered_refs, defBody s_numbered_refs, defScope s_numbered_refs, [], []⟩
def e_meets : He.DefD := ⟨("meets", none), "meets", "meets", defArgs s_meets, defBody s_meets, defScope s_meets, [], []⟩
def e_reach : He.DefD := ⟨("reach", none), "reach", "reach", defArgs s_reach, defBody s_reach, defScope s_reach, [], []⟩
def e_greatest_count : He.DefD := ⟨("greatest_count", none), "greatest_count", "greatest_count", defArgs s_greatest_count, defBody s_greatest_count, defScope s_greatest_count, [], []⟩
def e_greatest_width : He.DefD := ⟨("greatest_width", none), "greatest_width", "greatest_width", defArgs s_greatest_width, defBody s_greatest_width, defScope s_greatest_width, [], []⟩
def e_block_events : He.DefD := ⟨("block_events", none), "block_events", "block_events", defArgs s_block_events, defBody s_block_events, defScope s_block_events, [], []⟩
def e_free_list : He.DefD := ⟨("free_list", none), "free_list", "free_list", defArgs s_free_list, defBody s_free_list, defScope s_free_list, [], []⟩
def e_found_origins : He.DefD := ⟨("found_origins", none), "found_origins", "found_origins", defArgs s_found_origins, defBody s_found_origins, defScope s_found_origins, [], []⟩
def e_is_right_place : He.DefD := ⟨("is_right_place", none), "is_right_place", "is_right_place", defArgs s_is_right_place, defBody s_is_right_place, defScope s_is_right_place, [], []⟩
def e_bad_places : He.DefD := ⟨("bad_places", none), "bad_places", "bad_places", defArgs s_bad_places, defBody s_bad_places, defScope s_bad_places, [], []⟩
def e_are_lines : He.DefD := ⟨("are_lines", none), "are_lines", "are_lines", defArgs s_are_lines, defBody s_are_lines, defScope s_are_lines, [], []⟩
def e_are_statements : He.DefD := ⟨("are_statements", none), "are_statements", "are_statements", defArgs s_are_statements, defBody s_are_statements, defScope s_are_statements, [], []⟩
def e__law_begin : He.DefD := ⟨("_law_begin", none), "_law_begin", "_law_begin", defArgs s__law_begin, defBody s__law_begin, defScope s__law_begin, [], []⟩
def e__law_draw : He.DefD := ⟨("_law_draw", none), "_law_draw", "_law_draw", defArgs s__law_draw, defBody s__law_draw, defScope s__law_draw, [], []⟩
def e__law_pick : He.DefD := ⟨("_law_pick", none), "_law_pick", "_law_pick", defArgs s__law_pick, defBody s__law_pick, defScope s__law_pick, [], []⟩
def e__law_mixed : He.DefD := ⟨("_law_mixed", none), "_law_mixed", "_law_mixed", defArgs s__law_mixed, defBody s__law_mixed, defScope s__law_mixed, [], []⟩
def e__law_stem : He.DefD := ⟨("_law_stem", none), "_law_stem", "_law_stem", defArgs s__law_stem, defBody s__law_stem, defScope s__law_stem, [], []⟩
def e__law_names : He.DefD := ⟨("_law_names", none), "_law_names", "_law_names", defArgs s__law_names, defBody s__law_names, defScope s__law_names, [], []⟩
def e__law_ref : He.DefD := ⟨("_law_ref", none), "_law_ref", "_law_ref", defArgs s__law_ref, defBody s__law_ref, defScope s__law_ref, [], []⟩
def e__law_rows : He.DefD := ⟨("_law_rows", none), "_law_rows", "_law_rows", defArgs s__law_rows, defBody s__law_rows, defScope s__law_rows, [], []⟩
def e__law_world : He.DefD := ⟨("_law_world", none), "_law_world", "_law_world", defArgs s__law_world, defBody s__law_world, defScope s__law_world, [], []⟩
def e__law_deed : He.DefD := ⟨("_law_deed", none), "_law_deed", "_law_deed", defArgs s__law_deed, defBody s__law_deed, defScope s__law_deed, [], []⟩
def e__law_loop : He.DefD := ⟨("_law_loop", none), "_law_loop", "_law_loop", defArgs s__law_loop, defBody s__law_loop, defScope s__law_loop, [], []⟩
def e__law_turn : He.DefD := ⟨("_law_turn", none), "_law_turn", "_law_turn", defArgs s__law_turn, defBody s__law_turn, defScope s__law_turn, [], []⟩
def e__law_turns : He.DefD := ⟨("_law_turns", none), "_law_turns", "_law_turns", defArgs s__law_turns, defBody s__law_turns, defScope s__law_turns, [], []⟩
def e__law_plain : He.DefD := ⟨("_law_plain", none), "_law_plain", "_law_plain", defArgs s__law_plain, defBody s__law_plain, defScope s__law_plain, [], []⟩
def e__law_cell : He.DefD := ⟨("_law_cell", none), "_law_cell", "_law_cell", defArgs s__law_cell, defBody s__law_cell, defScope s__law_cell, [], []⟩
def e__law_flow : He.DefD := ⟨("_law_flow", none), "_law_flow", "_law_flow", defArgs s__law_flow, defBody s__law_flow, defScope s__law_flow, [], []⟩
def e__law_far : He.DefD := ⟨("_law_far", none), "_law_far", "_law_far", defArgs s__law_far, defBody s__law_far, defScope s__law_far, [], []⟩
def e__law_free : He.DefD := ⟨("_law_free", none), "_law_free", "_law_free", defArgs s__law_free, defBody s__law_free, defScope s__law_free, [], []⟩
def e__law_top : He.DefD := ⟨("_law_top", none), "_law_top", "_law_top", defArgs s__law_top, defBody s__law_top, defScope s__law_top, [], []⟩
def e__law_bad_places : He.DefD := ⟨("_law_bad_places", none), "_law_bad_places", "_law_bad_places", defArgs s__law_bad_places, defBody s__law_bad_places, defScope s__law_bad_places, [], []⟩
def e_law : He.DefD := ⟨("law", none), "law", "law", defArgs s_law, defBody s_law, defScope s_law, [], []⟩
def e_Line_distance : He.DefD := ⟨("Line", some "distance"), "distance", "Line.distance", defArgs s_Line_distance, defBody s_Line_distance, defScope s_Line_distance, [], []⟩
def e_Statement_refs : He.DefD := ⟨("Statement", some "refs"), "refs", "Statement.refs", defArgs s_Statement_refs, defBody s_Statement_refs, defScope s_Statement_refs, [], []⟩
def e_Loop_len : He.DefD := ⟨("Loop", some "__len__"), "__len__", "Loop.__len__", defArgs s_Loop_len, defBody s_Loop_len, defScope s_Loop_len, [], []⟩
def e_Loop_add : He.DefD := ⟨("Loop", some "__add__"), "__add__", "Loop.__add__", defArgs s_Loop_add, defBody s_Loop_add, defScope s_Loop_add, [], []⟩
def e_Loop_line : He.DefD := ⟨("Loop", some "line"), "line", "Loop.line", defArgs s_Loop_line, defBody s_Loop_line, defScope s_Loop_line, [], []⟩
def e_Loop_place : He.DefD := ⟨("Loop", some "place"), "place", "Loop.place", defArgs s_Loop_place, defBody s_Loop_place, defScope s_Loop_place, [], []⟩
def e_Line_init : He.DefD := ⟨("Line", some "__init__"), "__init__", "Line.__init__", defArgs s_Line_init, defBody s_Line_init, defScope s_Line_init, [.int 1], []⟩
def e_Statement_init : He.DefD := ⟨("Statement", some "__init__"), "__init__", "Statement.__init__", defArgs s_Statement_init, defBody s_Statement_init, defScope s_Statement_init, [.non], []⟩
def e_Loop_init : He.DefD := ⟨("Loop", some "__init__"), "__init__", "Loop.__init__", defArgs s_Loop_init, defBody s_Loop_init, defScope s_Loop_init, [], []⟩
def g_Line_name : GetD := ⟨"Line", "name", "Line.name", s_Line_name⟩
def g_Line_stride : GetD := ⟨"Line", "stride", "Line.stride", s_Line_stride⟩
def g_Statement_name : GetD := ⟨"Statement", "name", "Statement.name", s_Statement_name⟩
def g_Statement_target : GetD := ⟨"Statement", "target", "Statement.target", s_Statement_target⟩
def g_Statement_sources : GetD := ⟨"Statement", "sources", "Statement.sources", s_Statement_sources⟩
def g_Loop_statements : GetD := ⟨"Loop", "statements", "Loop.statements", s_Loop_statements⟩
def tFn : List He.DefD := [e_is_integer, e_is_between, e_is_name, e_is_offset, e_is_ref, e_are_unlike, e_loads_of, e_end_of, e_iteration_events, e_plain_list, e_cell_of, e_flow, e_numbered_refs, e_meets, e_reach, e_greatest_count, e_greatest_width, e_block_events, e_free_list, e_found_origins, e_is_right_place, e_bad_places, e_are_lines, e_are_statements, e__law_begin, e__law_draw, e__law_pick, e__law_mixed, e__law_stem, e__law_names, e__law_ref, e__law_rows, e__law_world, e__law_deed, e__law_loop, e__law_turn, e__law_turns, e__law_plain, e__law_cell, e__law_flow, e__law_far, e__law_free, e__law_top, e__law_bad_places, e_law, e_Line_distance, e_Statement_refs, e_Loop_len, e_Loop_add, e_Loop_line, e_Loop_place, e_Line_init, e_Statement_init, e_Loop_init]
def tGs : List GetD := [g_Line_name, g_Line_stride, g_Statement_name, g_Statement_target, g_Statement_sources, g_Loop_statements]
def tNames0 : List Str := ["is_integer", "is_between", "is_name", "is_offset", "is_ref", "are_unlike", "loads_of", "end_of", "iteration_events", "plain_list", "cell_of", "flow", "numbered_refs", "meets", "reach", "greatest_count"]
def tNames1 : List Str := ["greatest_width", "block_events", "free_list", "found_origins", "is_right_place", "bad_places", "are_lines", "are_statements", "_law_begin", "_law_draw", "_law_pick", "_law_mixed", "_law_stem", "_law_names", "_law_ref", "_law_rows"]
def tNames2 : List Str := ["_law_world", "_law_deed", "_law_loop", "_law_turn", "_law_turns", "_law_plain", "_law_cell", "_law_flow", "_law_far", "_law_free", "_law_top", "_law_bad_places", "law"]
def tNames : List Str := tNames0 ++ tNames1 ++ tNames2
def tClss : List Str := ["Line", "Statement", "Loop"]
def tFa0 : List He.Fa := [.glo "is_integer", .glo "is_between", .glo "is_name", .glo "is_offset", .glo "is_ref", .glo "are_unlike", .glo "loads_of", .glo "end_of", .glo "iteration_events", .glo "plain_list", .glo "cell_of", .glo "flow", .glo "numbered_refs", .glo "meets", .glo "reach", .glo "greatest_count", .glo "greatest_width", .glo "block_events", .glo "free_list", .glo "found_origins", .glo "is_right_place", .glo "bad_places", .glo "are_lines", .glo "are_statements", .glo "_law_begin", .glo "_law_draw", .glo "_law_pick", .glo "_law_mixed", .glo "_law_stem", .glo "_law_names", .glo "_law_ref", .glo "_law_rows", .glo "_law_world", .glo "_law_deed", .glo "_law_loop", .glo "_law_turn", .glo "_law_turns", .glo "_law_plain"]
def tFa1 : List He.Fa := [.glo "_law_cell", .glo "_law_flow", .glo "_law_far", .glo "_law_free", .glo "_law_top", .glo "_law_bad_places", .glo "law", .glo "Line", .glo "Statement", .glo "Loop", .cls "Line", .cls "Statement", .cls "Loop", .free "isinstance", .free "int", .free "bool", .free "str", .free "len", .free "all", .free "enumerate", .free "range", .free "list", .free "tuple", .free "sorted", .free "max", .free "min", .free "abs", .int "MOST_LETTERS" 8, .int "MOST_STRIDE" 6, .int "MOST_OFFSET" 9, .int "MOST_SOURCES" 3, .int "MOST_LINES" 3, .int "MOST_STATEMENTS" 5, .str "LETTERS" letters26, .noat "Line" "kept_name", .noat "Line" "kept_stride", .noat "Statement" "kept_name", .noat "Statement" "kept_target"]
def tFa2 : List He.Fa := [.noat "Statement" "kept_sources", .noat "Loop" "kept_lines", .noat "Loop" "kept_statements", .noat "Loop" "strides", .meth "Line" "distance", .meth "Statement" "refs", .meth "Loop" "__len__", .meth "Loop" "__add__", .meth "Loop" "line", .meth "Loop" "place", .mkr "Line", .mkr "Statement", .mkr "Loop"]
def tFa : List He.Fa := tFa0 ++ tFa1 ++ tFa2
def tEx (K : PySem.W.Frag) : Bool := [clsB K "Line", clsB K "Statement", clsB K "Loop", addB K, propB K "Line" "name", propB K "Line" "stride", propB K "Statement" "name", propB K "Statement" "target", propB K "Statement" "sources", propB K "Loop" "statements"].all id
/-! ### the Hook -/
abbrev AlV : Type := He.AlD × Bool × List He.FnW
def obsV (K : PySem.W.Frag) : AlV := (He.obsD tFa tFn K, tEx K && tGs.all (fun d => d.holds K), tGs.map fun d => fnAt K (gAd K d.cls d.nm))

/-- written out: the kernel is not to hold the two tables against each other as they stand -/
def dueV : AlV := ((true, [e_is_integer.val, e_is_between.val, e_is_name.val, e_is_offset.val, e_is_ref.val, e_are_unlike.val, e_loads_of.val, e_end_of.val, e_iteration_events.val, e_plain_list.val, e_cell_of.val, e_flow.val, e_numbered_refs.val, e_meets.val, e_reach.val, e_greatest_count.val, e_greatest_width.val, e_block_events.val, e_free_list.val, e_found_origins.val, e_is_right_place.val, e_bad_places.val, e_are_lines.val, e_are_statements.val, e__law_begin.val, e__law_draw.val, e__law_pick.val, e__law_mixed.val, e__law_stem.val, e__law_names.val, e__law_ref.val, e__law_rows.val, e__law_world.val, e__law_deed.val, e__law_loop.val, e__law_turn.val, e__law_turns.val, e__law_plain.val, e__law_cell.val, e__law_flow.val, e__law_far.val, e__law_free.val, e__law_top.val, e__law_bad_places.val, e_law.val, e_Line_distance.val, e_Statement_refs.val, e_Loop_len.val, e_Loop_add.val, e_Loop_line.val, e_Loop_place.val, e_Line_init.val, e_Statement_init.val, e_Loop_init.val]), true, [g_Line_name.due, g_Line_stride.due, g_Statement_name.due, g_Statement_target.due, g_Statement_sources.due, g_Loop_statements.due])

def nsOf (g : Addr → Option Obj) (c : Addr) : List Addr := match g c with
  | some ⟨_, _, .cls cd, _⟩ => [cd.ns]
  | _ => []
def outOf (g : Addr → Option Obj) (a : Addr) : List Addr := match g a with
  | some o => He.refsO o
  | none => []
def clsA (g : Addr → Option Obj) : List Addr := tClss.map (He.ga (He.frG g [mainGlobals]))
def defA (g : Addr → Option Obj) : List Addr := tNames.map (He.ga (He.frG g [mainGlobals]))
def memA (g : Addr → Option Obj) : List Addr := ((clsA g).flatMap (nsOf g)).flatMap (outOf g)
def farA (g : Addr → Option Obj) : List Addr := (memA g).flatMap (outOf g)
/-- the objects that are looked at: the module's names, the classes, the defs, the members, what these name -/
def asV (g : Addr → Option Obj) : List Addr := mainGlobals :: (clsA g ++ ((clsA g).flatMap (nsOf g) ++ (defA g ++ (memA g ++ ((defA g).flatMap (outOf g) ++ (farA g ++ (farA g).flatMap (outOf g)))))))
def lookV (n : Nat) (g : Addr → Option Obj) : AlV := obsV (He.frG g (asV g))
def hookV (n : Nat) : PySem.W.Hook where
  α := AlV
  obs := fun s => lookV n s.heap.get?
  val := fun _ => dueV
  says := fun _ h => ∃ K : PySem.W.Frag, K.In h ∧ obsV K = dueV
  of := fun _ _ e => ⟨_, He.frG_in, e⟩
  keeps := fun _ _ _ ⟨K, hK, c⟩ k => ⟨K, PySem.W.Frag.In.keeps hK k, c⟩
theorem lookV_eq {n : Nat} {g : Addr → Option Obj} {s : Shared} (h : ∀ a, g a = s.heap.get? a) : lookV n g = (hookV n).obs s := by
  rw [show g = s.heap.get? from funext h]
  rfl
theorem binds_all {K : PySem.W.Frag} {x qual : Str} {pr : Arguments} {body : List Stmt} {scope : Scope} {v : V} {f : Addr} {fd : FuncData} {ps : List Str} (F : FunD K x qual pr body scope [v] [] f fd)
    (h : ∀ (T : Addr) (kV doc pm : Value) (an : Option Addr) (cdv ct : Value) (us its : List Value), us.length = ps.length → its.length = 1 →
      ∃ k, bindArgs (PySem.W.fnOf x qual pr body scope (.ref T) kV doc pm an cdv ct) ⟨us, []⟩ = seqItems? (.ref T) >>= k ∧ k (some its.toArray) = pure (ps.zip (us ++ its.drop 1))) : Binds K fd ps [] := by
  obtain ⟨ds, h1, h2⟩ := F.binds1 (ps := ps) ps.length 1 (List.cons_ne_nil _ _) (by simp) h
  have e : ds = [] := by
    cases h1
    rfl
  rw [e] at h2
  exact h2
theorem star_none {K : PySem.W.Frag} {x qual pv : Str} {pr : Arguments} {body : List Stmt} {scope : Scope} {f : Addr} {fd : FuncData} {ps : List Str} (F : FunD K x qual pr body scope [] [] f fd)
    (h : ∀ (kV doc pm : Value) (an : Option Addr) (cdv ct : Value) (us rest : List Value), us.length = ps.length → bindArgs (PySem.W.fnOf x qual pr body scope .none kV doc pm an cdv ct) ⟨us ++ rest, []⟩ = (newTuple rest >>= fun t => pure (ps.zip us ++ [(pv, t)]))) : StarD K fd ps pv := by
  obtain ⟨oc, od, dV, kV, doc, pm, an, cdv, ct, osl, rfl, lk, hcd, hD, _⟩ := F.ex
  rcases hD with ⟨_, rfl⟩ | ⟨e, _⟩
  · exact fun us rest hl => .inl (h kV doc pm an cdv ct us rest hl)
  · exact absurd rfl e
theorem star_dfl {K : PySem.W.Frag} {x qual pv : Str} {pr : Arguments} {body : List Stmt} {scope : Scope} {v : V} {f : Addr} {fd : FuncData} {ps : List Str} (F : FunD K x qual pr body scope [v] [] f fd)
    (h : ∀ (T : Addr) (kV doc pm : Value) (an : Option Addr) (cdv ct : Value) (us rest : List Value) (u : Value), us.length = ps.length →
      ∃ k, bindArgs (PySem.W.fnOf x qual pr body scope (.ref T) kV doc pm an cdv ct) ⟨us ++ rest, []⟩ = seqItems? (.ref T) >>= k ∧ k (some #[u]) = (newTuple rest >>= fun t => pure (ps.zip us ++ [(pv, t)]))) : StarD K fd ps pv := by
  obtain ⟨oc, od, dV, kV, doc, pm, an, cdv, ct, osl, rfl, lk, hcd, hD, _⟩ := F.ex
  rcases hD with ⟨e, _⟩ | ⟨_, T, o, its, m, rfl, lT, oT, rT⟩
  · exact absurd e (List.cons_ne_nil _ _)
  · obtain ⟨u, rfl, _⟩ := rT.one
    exact fun us rest hl => .inr (let ⟨k, e1, e2⟩ := h T kV doc pm an cdv ct us rest u hl; ⟨T, o, _, m, k, lT, oT, e1, e2⟩)
theorem facts {K : PySem.W.Frag} {h : Heap} {mg : Str → Option Value} (X : K.In h) (G : h.Ns mainGlobals mg) (c : obsV K = dueV) : Nonempty (Txt K mg) := by
  have cD : He.SaysD tFa tFn K := congrArg (fun z : AlV => z.1) c
  have cB : (tEx K && tGs.all (fun d => d.holds K)) = true := congrArg (fun z : AlV => z.2.1) c
  have cG : (tGs.map fun d => fnAt K (gAd K d.cls d.nm)) = tGs.map GetD.due := congrArg (fun z : AlV => z.2.2) c
  obtain ⟨cE, cH⟩ := He.ba cB
  have ex : ∀ b ∈ [clsB K "Line", clsB K "Statement", clsB K "Loop", addB K, propB K "Line" "name", propB K "Line" "stride", propB K "Statement" "name", propB K "Statement" "target", propB K "Statement" "sources", propB K "Loop" "statements"], b = true := List.all_eq_true.mp cE
  have gs : ∀ (i : Nat) (d : GetD), tGs[i]? = some d → ∃ fd, FunD K d.nm d.qual (defArgs d.st) (defBody d.st) (defScope d.st) [] [] (gAd K d.cls d.nm) fd := fun i d hi => by
    have e2 : (tGs.map fun d => fnAt K (gAd K d.cls d.nm))[i]? = (tGs.map GetD.due)[i]? := by rw [cG]
    rw [List.getElem?_map, List.getElem?_map, hi] at e2
    exact GetD.fn (Option.some.inj e2) (List.all_eq_true.mp cH d (List.mem_of_getElem? hi))
  obtain ⟨d_Line, q_Line⟩ := clsB_cd X G (cD.fact 45 (f := .glo "Line") rfl) (cD.fact 48 (f := .cls "Line") rfl) (ex _ (by simp) : clsB K "Line" = true)
  obtain ⟨d_Statement, q_Statement⟩ := clsB_cd X G (cD.fact 46 (f := .glo "Statement") rfl) (cD.fact 49 (f := .cls "Statement") rfl) (ex _ (by simp) : clsB K "Statement" = true)
  obtain ⟨d_Loop, q_Loop⟩ := clsB_cd X G (cD.fact 47 (f := .glo "Loop") rfl) (cD.fact 50 (f := .cls "Loop") rfl) (ex _ (by simp) : clsB K "Loop" = true)
  obtain ⟨fd_is_integer, F_is_integer⟩ := cD.def_ 0 (d := e_is_integer) rfl
  obtain ⟨fd_is_between, F_is_between⟩ := cD.def_ 1 (d := e_is_between) rfl
  obtain ⟨fd_is_name, F_is_name⟩ := cD.def_ 2 (d := e_is_name) rfl
  obtain ⟨fd_is_offset, F_is_offset⟩ := cD.def_ 3 (d := e_is_offset) rfl
  obtain ⟨fd_is_ref, F_is_ref⟩ := cD.def_ 4 (d := e_is_ref) rfl
  obtain ⟨fd_are_unlike, F_are_unlike⟩ := cD.def_ 5 (d := e_are_unlike) rfl
  obtain ⟨fd_loads_of, F_loads_of⟩ := cD.def_ 6 (d := e_loads_of) rfl
  obtain ⟨fd_end_of, F_end_of⟩ := cD.def_ 7 (d := e_end_of) rfl
  obtain ⟨fd_iteration_events, F_iteration_events⟩ := cD.def_ 8 (d := e_iteration_events) rfl
  obtain ⟨fd_plain_list, F_plain_list⟩ := cD.def_ 9 (d := e_plain_list) rfl
  obtain ⟨fd_cell_of, F_cell_of⟩ := cD.def_ 10 (d := e_cell_of) rfl
  obtain ⟨fd_flow, F_flow⟩ := cD.def_ 11 (d := e_flow) rfl
  obtain ⟨fd_numbered_refs, F_numbered_refs⟩ := cD.def_ 12 (d := e_numbered_refs) rfl
  obtain ⟨fd_meets, F_meets⟩ := cD.def_ 13 (d := e_meets) rfl
  obtain ⟨fd_reach, F_reach⟩ := cD.def_ 14 (d := e_reach) rfl
  obtain ⟨fd_greatest_count, F_greatest_count⟩ := cD.def_ 15 (d := e_greatest_count) rfl
  obtain ⟨fd_greatest_width, F_greatest_width⟩ := cD.def_ 16 (d := e_greatest_width) rfl
  obtain ⟨fd_block_events, F_block_events⟩ := cD.def_ 17 (d := e_block_events) rfl
  obtain ⟨fd_free_list, F_free_list⟩ := cD.def_ 18 (d := e_free_list) rfl
  obtain ⟨fd_found_origins, F_found_origins⟩ := cD.def_ 19 (d := e_found_origins) rfl
  obtain ⟨fd_is_right_place, F_is_right_place⟩ := cD.def_ 20 (d := e_is_right_place) rfl
  obtain ⟨fd_bad_places, F_bad_places⟩ := cD.def_ 21 (d := e_bad_places) rfl
  obtain ⟨fd_are_lines, F_are_lines⟩ := cD.def_ 22 (d := e_are_lines) rfl
  obtain ⟨fd_are_statements, F_are_statements⟩ := cD.def_ 23 (d := e_are_statements) rfl
  obtain ⟨fd__law_begin, F__law_begin⟩ := cD.def_ 24 (d := e__law_begin) rfl
  obtain ⟨fd__law_draw, F__law_draw⟩ := cD.def_ 25 (d := e__law_draw) rfl
  obtain ⟨fd__law_pick, F__law_pick⟩ := cD.def_ 26 (d := e__law_pick) rfl
  obtain ⟨fd__law_mixed, F__law_mixed⟩ := cD.def_ 27 (d := e__law_mixed) rfl
  obtain ⟨fd__law_stem, F__law_stem⟩ := cD.def_ 28 (d := e__law_stem) rfl
  obtain ⟨fd__law_names, F__law_names⟩ := cD.def_ 29 (d := e__law_names) rfl
  obtain ⟨fd__law_ref, F__law_ref⟩ := cD.def_ 30 (d := e__law_ref) rfl
  obtain ⟨fd__law_rows, F__law_rows⟩ := cD.def_ 31 (d := e__law_rows) rfl
  obtain ⟨fd__law_world, F__law_world⟩ := cD.def_ 32 (d := e__law_world) rfl
  obtain ⟨fd__law_deed, F__law_deed⟩ := cD.def_ 33 (d := e__law_deed) rfl
  obtain ⟨fd__law_loop, F__law_loop⟩ := cD.def_ 34 (d := e__law_loop) rfl
  obtain ⟨fd__law_turn, F__law_turn⟩ := cD.def_ 35 (d := e__law_turn) rfl
  obtain ⟨fd__law_turns, F__law_turns⟩ := cD.def_ 36 (d := e__law_turns) rfl
  obtain ⟨fd__law_plain, F__law_plain⟩ := cD.def_ 37 (d := e__law_plain) rfl
  obtain ⟨fd__law_cell, F__law_cell⟩ := cD.def_ 38 (d := e__law_cell) rfl
  obtain ⟨fd__law_flow, F__law_flow⟩ := cD.def_ 39 (d := e__law_flow) rfl
  obtain ⟨fd__law_far, F__law_far⟩ := cD.def_ 40 (d := e__law_far) rfl
  obtain ⟨fd__law_free, F__law_free⟩ := cD.def_ 41 (d := e__law_free) rfl
  obtain ⟨fd__law_top, F__law_top⟩ := cD.def_ 42 (d := e__law_top) rfl
  obtain ⟨fd__law_bad_places, F__law_bad_places⟩ := cD.def_ 43 (d := e__law_bad_places) rfl
  obtain ⟨fd_law, F_law⟩ := cD.def_ 44 (d := e_law) rfl
  obtain ⟨fd_Line_distance, F_Line_distance⟩ := cD.def_ 45 (d := e_Line_distance) rfl
  obtain ⟨fd_Statement_refs, F_Statement_refs⟩ := cD.def_ 46 (d := e_Statement_refs) rfl
  obtain ⟨fd_Loop_len, F_Loop_len⟩ := cD.def_ 47 (d := e_Loop_len) rfl
  obtain ⟨fd_Loop_add, F_Loop_add⟩ := cD.def_ 48 (d := e_Loop_add) rfl
  obtain ⟨fd_Loop_line, F_Loop_line⟩ := cD.def_ 49 (d := e_Loop_line) rfl
  obtain ⟨fd_Loop_place, F_Loop_place⟩ := cD.def_ 50 (d := e_Loop_place) rfl
  obtain ⟨fd_Line_init, F_Line_init⟩ := cD.def_ 51 (d := e_Line_init) rfl
  obtain ⟨fd_Statement_init, F_Statement_init⟩ := cD.def_ 52 (d := e_Statement_init) rfl
  obtain ⟨fd_Loop_init, F_Loop_init⟩ := cD.def_ 53 (d := e_Loop_init) rfl
  obtain ⟨fd_Line_name, F_Line_name⟩ := gs 0 g_Line_name rfl
  obtain ⟨fd_Line_stride, F_Line_stride⟩ := gs 1 g_Line_stride rfl
  obtain ⟨fd_Statement_name, F_Statement_name⟩ := gs 2 g_Statement_name rfl
  obtain ⟨fd_Statement_target, F_Statement_target⟩ := gs 3 g_Statement_target rfl
  obtain ⟨fd_Statement_sources, F_Statement_sources⟩ := gs 4 g_Statement_sources rfl
  obtain ⟨fd_Loop_statements, F_Loop_statements⟩ := gs 5 g_Loop_statements rfl
  have w_Line : d_Line.C = He.ga K "Line" := q_Line
  have w_Statement : d_Statement.C = He.ga K "Statement" := q_Statement
  have w_Loop : d_Loop.C = He.ga K "Loop" := q_Loop
  obtain ⟨t_MOST_LETTERS, c_MOST_LETTERS⟩ := He.int_ok X G (cD.fact 65 (f := .int "MOST_LETTERS" 8) rfl)
  obtain ⟨t_MOST_STRIDE, c_MOST_STRIDE⟩ := He.int_ok X G (cD.fact 66 (f := .int "MOST_STRIDE" 6) rfl)
  obtain ⟨t_MOST_OFFSET, c_MOST_OFFSET⟩ := He.int_ok X G (cD.fact 67 (f := .int "MOST_OFFSET" 9) rfl)
  obtain ⟨t_MOST_SOURCES, c_MOST_SOURCES⟩ := He.int_ok X G (cD.fact 68 (f := .int "MOST_SOURCES" 3) rfl)
  obtain ⟨t_MOST_LINES, c_MOST_LINES⟩ := He.int_ok X G (cD.fact 69 (f := .int "MOST_LINES" 3) rfl)
  obtain ⟨t_MOST_STATEMENTS, c_MOST_STATEMENTS⟩ := He.int_ok X G (cD.fact 70 (f := .int "MOST_STATEMENTS" 5) rfl)
  obtain ⟨t_LETTERS, c_LETTERS⟩ := He.str_ok X G (cD.fact 71 (f := .str "LETTERS" letters26) rfl)
  obtain ⟨a0, ad⟩ := He.ba (ex _ (by simp) : addB K = true)
  obtain ⟨a1, ad⟩ := He.ba ad
  obtain ⟨a2, ad⟩ := He.ba ad
  obtain ⟨a3, ad⟩ := He.ba ad
  obtain ⟨a4, ad⟩ := He.ba ad
  obtain ⟨a5, a6⟩ := He.ba ad
  obtain ⟨C_Line, cl_Line, g_Line, i1_Line, i2_Line, i3_Line, i4_Line, k_Line⟩ := d_Line
  cases (show C_Line = He.ga K "Line" from q_Line)
  obtain ⟨C_Statement, cl_Statement, g_Statement, i1_Statement, i2_Statement, i3_Statement, i4_Statement, k_Statement⟩ := d_Statement
  cases (show C_Statement = He.ga K "Statement" from q_Statement)
  obtain ⟨C_Loop, cl_Loop, g_Loop, i1_Loop, i2_Loop, i3_Loop, i4_Loop, k_Loop⟩ := d_Loop
  cases (show C_Loop = He.ga K "Loop" from q_Loop)
  refine ⟨{
    cLine := ⟨He.ga K "Line", cl_Line, g_Line, i1_Line, i2_Line, i3_Line, i4_Line, k_Line⟩
    cStatement := ⟨He.ga K "Statement", cl_Statement, g_Statement, i1_Statement, i2_Statement, i3_Statement, i4_Statement, k_Statement⟩
    cLoop := ⟨He.ga K "Loop", cl_Loop, g_Loop, i1_Loop, i2_Loop, i3_Loop, i4_Loop, k_Loop⟩
    is_integer := ⟨_, fd_is_integer, F_is_integer, F_is_integer.bindsN fun _ _ _ _ _ _ us hl => match us, hl with | [_], _ => rfl, He.glo_ok X G (cD.fact 0 (f := .glo "is_integer") rfl)⟩
    is_between := ⟨_, fd_is_between, F_is_between, F_is_between.bindsN fun _ _ _ _ _ _ us hl => match us, hl with | [_, _, _], _ => rfl, He.glo_ok X G (cD.fact 1 (f := .glo "is_between") rfl)⟩
    is_name := ⟨_, fd_is_name, F_is_name, F_is_name.bindsN fun _ _ _ _ _ _ us hl => match us, hl with | [_], _ => rfl, He.glo_ok X G (cD.fact 2 (f := .glo "is_name") rfl)⟩
    is_offset := ⟨_, fd_is_offset, F_is_offset, F_is_offset.bindsN fun _ _ _ _ _ _ us hl => match us, hl with | [_], _ => rfl, He.glo_ok X G (cD.fact 3 (f := .glo "is_offset") rfl)⟩
    is_ref := ⟨_, fd_is_ref, F_is_ref, F_is_ref.bindsN fun _ _ _ _ _ _ us hl => match us, hl with | [_], _ => rfl, He.glo_ok X G (cD.fact 4 (f := .glo "is_ref") rfl)⟩
    are_unlike := ⟨_, fd_are_unlike, F_are_unlike, F_are_unlike.bindsN fun _ _ _ _ _ _ us hl => match us, hl with | [_], _ => rfl, He.glo_ok X G (cD.fact 5 (f := .glo "are_unlike") rfl)⟩
    Line_init := ⟨_, fd_Line_init, F_Line_init, He.mkr_ok (cD.fact 86 (f := .mkr "Line") rfl)⟩
    Line_name := ⟨_, fd_Line_name, F_Line_name, F_Line_name.bindsN fun _ _ _ _ _ _ us hl => match us, hl with | [_], _ => rfl, _, propB_ok (ex _ (by simp) : propB K "Line" "name" = true)⟩
    Line_stride := ⟨_, fd_Line_stride, F_Line_stride, F_Line_stride.bindsN fun _ _ _ _ _ _ us hl => match us, hl with | [_], _ => rfl, _, propB_ok (ex _ (by simp) : propB K "Line" "stride" = true)⟩
    Line_distance := ⟨_, fd_Line_distance, F_Line_distance, F_Line_distance.bindsN fun _ _ _ _ _ _ us hl => match us, hl with | [_, _, _], _ => rfl, He.meth_ok (cD.fact 80 (f := .meth "Line" "distance") rfl)⟩
    loads_of := ⟨_, fd_loads_of, F_loads_of, F_loads_of.bindsN fun _ _ _ _ _ _ us hl => match us, hl with | [_, _, _], _ => rfl, He.glo_ok X G (cD.fact 6 (f := .glo "loads_of") rfl)⟩
    end_of := ⟨_, fd_end_of, F_end_of, F_end_of.bindsN fun _ _ _ _ _ _ us hl => match us, hl with | [_, _, _], _ => rfl, He.glo_ok X G (cD.fact 7 (f := .glo "end_of") rfl)⟩
    iteration_events := ⟨_, fd_iteration_events, F_iteration_events, F_iteration_events.bindsN fun _ _ _ _ _ _ us hl => match us, hl with | [_, _, _], _ => rfl, He.glo_ok X G (cD.fact 8 (f := .glo "iteration_events") rfl)⟩
    plain_list := ⟨_, fd_plain_list, F_plain_list, F_plain_list.bindsN fun _ _ _ _ _ _ us hl => match us, hl with | [_, _], _ => rfl, He.glo_ok X G (cD.fact 9 (f := .glo "plain_list") rfl)⟩
    cell_of := ⟨_, fd_cell_of, F_cell_of, F_cell_of.bindsN fun _ _ _ _ _ _ us hl => match us, hl with | [_, _], _ => rfl, He.glo_ok X G (cD.fact 10 (f := .glo "cell_of") rfl)⟩
    flow := ⟨_, fd_flow, F_flow, F_flow.bindsN fun _ _ _ _ _ _ us hl => match us, hl with | [_, _], _ => rfl, He.glo_ok X G (cD.fact 11 (f := .glo "flow") rfl)⟩
    numbered_refs := ⟨_, fd_numbered_refs, F_numbered_refs, F_numbered_refs.bindsN fun _ _ _ _ _ _ us hl => match us, hl with | [_], _ => rfl, He.glo_ok X G (cD.fact 12 (f := .glo "numbered_refs") rfl)⟩
    meets := ⟨_, fd_meets, F_meets, F_meets.bindsN fun _ _ _ _ _ _ us hl => match us, hl with | [_], _ => rfl, He.glo_ok X G (cD.fact 13 (f := .glo "meets") rfl)⟩
    reach := ⟨_, fd_reach, F_reach, F_reach.bindsN fun _ _ _ _ _ _ us hl => match us, hl with | [_], _ => rfl, He.glo_ok X G (cD.fact 14 (f := .glo "reach") rfl)⟩
    greatest_count := ⟨_, fd_greatest_count, F_greatest_count, F_greatest_count.bindsN fun _ _ _ _ _ _ us hl => match us, hl with | [_, _], _ => rfl, He.glo_ok X G (cD.fact 15 (f := .glo "greatest_count") rfl)⟩
    greatest_width := ⟨_, fd_greatest_width, F_greatest_width, F_greatest_width.bindsN fun _ _ _ _ _ _ us hl => match us, hl with | [_], _ => rfl, He.glo_ok X G (cD.fact 16 (f := .glo "greatest_width") rfl)⟩
    block_events := ⟨_, fd_block_events, F_block_events, F_block_events.bindsN fun _ _ _ _ _ _ us hl => match us, hl with | [_, _, _, _], _ => rfl, He.glo_ok X G (cD.fact 17 (f := .glo "block_events") rfl)⟩
    free_list := ⟨_, fd_free_list, F_free_list, F_free_list.bindsN fun _ _ _ _ _ _ us hl => match us, hl with | [_, _, _, _, _], _ => rfl, He.glo_ok X G (cD.fact 18 (f := .glo "free_list") rfl)⟩
    found_origins := ⟨_, fd_found_origins, F_found_origins, F_found_origins.bindsN fun _ _ _ _ _ _ us hl => match us, hl with | [_, _, _, _, _], _ => rfl, He.glo_ok X G (cD.fact 19 (f := .glo "found_origins") rfl)⟩
    is_right_place := ⟨_, fd_is_right_place, F_is_right_place, F_is_right_place.bindsN fun _ _ _ _ _ _ us hl => match us, hl with | [_, _, _], _ => rfl, He.glo_ok X G (cD.fact 20 (f := .glo "is_right_place") rfl)⟩
    bad_places := ⟨_, fd_bad_places, F_bad_places, F_bad_places.bindsN fun _ _ _ _ _ _ us hl => match us, hl with | [_], _ => rfl, He.glo_ok X G (cD.fact 21 (f := .glo "bad_places") rfl)⟩
    Statement_init := ⟨_, fd_Statement_init, F_Statement_init, He.mkr_ok (cD.fact 87 (f := .mkr "Statement") rfl)⟩
    Statement_name := ⟨_, fd_Statement_name, F_Statement_name, F_Statement_name.bindsN fun _ _ _ _ _ _ us hl => match us, hl with | [_], _ => rfl, _, propB_ok (ex _ (by simp) : propB K "Statement" "name" = true)⟩
    Statement_target := ⟨_, fd_Statement_target, F_Statement_target, F_Statement_target.bindsN fun _ _ _ _ _ _ us hl => match us, hl with | [_], _ => rfl, _, propB_ok (ex _ (by simp) : propB K "Statement" "target" = true)⟩
    Statement_sources := ⟨_, fd_Statement_sources, F_Statement_sources, F_Statement_sources.bindsN fun _ _ _ _ _ _ us hl => match us, hl with | [_], _ => rfl, _, propB_ok (ex _ (by simp) : propB K "Statement" "sources" = true)⟩
    Statement_refs := ⟨_, fd_Statement_refs, F_Statement_refs, F_Statement_refs.bindsN fun _ _ _ _ _ _ us hl => match us, hl with | [_], _ => rfl, He.meth_ok (cD.fact 81 (f := .meth "Statement" "refs") rfl)⟩
    are_lines := ⟨_, fd_are_lines, F_are_lines, F_are_lines.bindsN fun _ _ _ _ _ _ us hl => match us, hl with | [_], _ => rfl, He.glo_ok X G (cD.fact 22 (f := .glo "are_lines") rfl)⟩
    are_statements := ⟨_, fd_are_statements, F_are_statements, F_are_statements.bindsN fun _ _ _ _ _ _ us hl => match us, hl with | [_], _ => rfl, He.glo_ok X G (cD.fact 23 (f := .glo "are_statements") rfl)⟩
    Loop_init := ⟨_, fd_Loop_init, F_Loop_init, He.mkr_ok (cD.fact 88 (f := .mkr "Loop") rfl)⟩
    Loop_statements := ⟨_, fd_Loop_statements, F_Loop_statements, F_Loop_statements.bindsN fun _ _ _ _ _ _ us hl => match us, hl with | [_], _ => rfl, _, propB_ok (ex _ (by simp) : propB K "Loop" "statements" = true)⟩
    Loop_len := ⟨_, fd_Loop_len, F_Loop_len, F_Loop_len.bindsN fun _ _ _ _ _ _ us hl => match us, hl with | [_], _ => rfl, He.meth_ok (cD.fact 82 (f := .meth "Loop" "__len__") rfl)⟩
    Loop_add := ⟨_, fd_Loop_add, F_Loop_add, F_Loop_add.bindsN fun _ _ _ _ _ _ us hl => match us, hl with | [_, _], _ => rfl, He.meth_ok (cD.fact 83 (f := .meth "Loop" "__add__") rfl)⟩
    Loop_line := ⟨_, fd_Loop_line, F_Loop_line, F_Loop_line.bindsN fun _ _ _ _ _ _ us hl => match us, hl with | [_, _], _ => rfl, He.meth_ok (cD.fact 84 (f := .meth "Loop" "line") rfl)⟩
    Loop_place := ⟨_, fd_Loop_place, F_Loop_place, F_Loop_place.bindsN fun _ _ _ _ _ _ us hl => match us, hl with | [_, _, _], _ => rfl, He.meth_ok (cD.fact 85 (f := .meth "Loop" "place") rfl)⟩
    _law_begin := ⟨_, fd__law_begin, F__law_begin, F__law_begin.bindsN fun _ _ _ _ _ _ us hl => match us, hl with | [_], _ => rfl, He.glo_ok X G (cD.fact 24 (f := .glo "_law_begin") rfl)⟩
    _law_draw := ⟨_, fd__law_draw, F__law_draw, F__law_draw.bindsN fun _ _ _ _ _ _ us hl => match us, hl with | [_, _], _ => rfl, He.glo_ok X G (cD.fact 25 (f := .glo "_law_draw") rfl)⟩
    _law_pick := ⟨_, fd__law_pick, F__law_pick, F__law_pick.bindsN fun _ _ _ _ _ _ us hl => match us, hl with | [_, _], _ => rfl, He.glo_ok X G (cD.fact 26 (f := .glo "_law_pick") rfl)⟩
    _law_mixed := ⟨_, fd__law_mixed, F__law_mixed, F__law_mixed.bindsN fun _ _ _ _ _ _ us hl => match us, hl with | [_, _], _ => rfl, He.glo_ok X G (cD.fact 27 (f := .glo "_law_mixed") rfl)⟩
    _law_stem := ⟨_, fd__law_stem, F__law_stem, F__law_stem.bindsN fun _ _ _ _ _ _ us hl => match us, hl with | [_], _ => rfl, He.glo_ok X G (cD.fact 28 (f := .glo "_law_stem") rfl)⟩
    _law_names := ⟨_, fd__law_names, F__law_names, F__law_names.bindsN fun _ _ _ _ _ _ us hl => match us, hl with | [_, _], _ => rfl, He.glo_ok X G (cD.fact 29 (f := .glo "_law_names") rfl)⟩
    _law_ref := ⟨_, fd__law_ref, F__law_ref, F__law_ref.bindsN fun _ _ _ _ _ _ us hl => match us, hl with | [_, _, _], _ => rfl, He.glo_ok X G (cD.fact 30 (f := .glo "_law_ref") rfl)⟩
    _law_rows := ⟨_, fd__law_rows, F__law_rows, F__law_rows.bindsN fun _ _ _ _ _ _ us hl => match us, hl with | [_, _, _], _ => rfl, He.glo_ok X G (cD.fact 31 (f := .glo "_law_rows") rfl)⟩
    _law_world := ⟨_, fd__law_world, F__law_world, F__law_world.bindsN fun _ _ _ _ _ _ us hl => match us, hl with | [_, _, _], _ => rfl, He.glo_ok X G (cD.fact 32 (f := .glo "_law_world") rfl)⟩
    _law_deed := ⟨_, fd__law_deed, F__law_deed, F__law_deed.bindsN fun _ _ _ _ _ _ us hl => match us, hl with | [_], _ => rfl, He.glo_ok X G (cD.fact 33 (f := .glo "_law_deed") rfl)⟩
    _law_loop := ⟨_, fd__law_loop, F__law_loop, F__law_loop.bindsN fun _ _ _ _ _ _ us hl => match us, hl with | [_], _ => rfl, He.glo_ok X G (cD.fact 34 (f := .glo "_law_loop") rfl)⟩
    _law_turn := ⟨_, fd__law_turn, F__law_turn, F__law_turn.bindsN fun _ _ _ _ _ _ us hl => match us, hl with | [_, _, _], _ => rfl, He.glo_ok X G (cD.fact 35 (f := .glo "_law_turn") rfl)⟩
    _law_turns := ⟨_, fd__law_turns, F__law_turns, F__law_turns.bindsN fun _ _ _ _ _ _ us hl => match us, hl with | [_, _, _], _ => rfl, He.glo_ok X G (cD.fact 36 (f := .glo "_law_turns") rfl)⟩
    _law_plain := ⟨_, fd__law_plain, F__law_plain, F__law_plain.bindsN fun _ _ _ _ _ _ us hl => match us, hl with | [_, _, _], _ => rfl, He.glo_ok X G (cD.fact 37 (f := .glo "_law_plain") rfl)⟩
    _law_cell := ⟨_, fd__law_cell, F__law_cell, F__law_cell.bindsN fun _ _ _ _ _ _ us hl => match us, hl with | [_, _], _ => rfl, He.glo_ok X G (cD.fact 38 (f := .glo "_law_cell") rfl)⟩
    _law_flow := ⟨_, fd__law_flow, F__law_flow, F__law_flow.bindsN fun _ _ _ _ _ _ us hl => match us, hl with | [_, _], _ => rfl, He.glo_ok X G (cD.fact 39 (f := .glo "_law_flow") rfl)⟩
    _law_far := ⟨_, fd__law_far, F__law_far, F__law_far.bindsN fun _ _ _ _ _ _ us hl => match us, hl with | [_], _ => rfl, He.glo_ok X G (cD.fact 40 (f := .glo "_law_far") rfl)⟩
    _law_free := ⟨_, fd__law_free, F__law_free, F__law_free.bindsN fun _ _ _ _ _ _ us hl => match us, hl with | [_, _, _, _, _], _ => rfl, He.glo_ok X G (cD.fact 41 (f := .glo "_law_free") rfl)⟩
    _law_top := ⟨_, fd__law_top, F__law_top, F__law_top.bindsN fun _ _ _ _ _ _ us hl => match us, hl with | [_], _ => rfl, He.glo_ok X G (cD.fact 42 (f := .glo "_law_top") rfl)⟩
    _law_bad_places := ⟨_, fd__law_bad_places, F__law_bad_places, F__law_bad_places.bindsN fun _ _ _ _ _ _ us hl => match us, hl with | [_], _ => rfl, He.glo_ok X G (cD.fact 43 (f := .glo "_law_bad_places") rfl)⟩
    law := ⟨_, fd_law, F_law, F_law.bindsN fun _ _ _ _ _ _ us hl => match us, hl with | [_], _ => rfl, He.glo_ok X G (cD.fact 44 (f := .glo "law") rfl)⟩
    Line_init_b := binds_all F_Line_init fun _ _ _ _ _ _ _ us its hl hi => match us, its, hl, hi with | [_, _, _], [_], _, _ => ⟨_, rfl, rfl⟩
    Statement_init_b := star_dfl F_Statement_init fun _ _ _ _ _ _ _ us rest u hl => match us, rest, hl with
      | [_, _, _], [], _ => ⟨_, rfl, rfl⟩
      | [_, _, _], _ :: _, _ => ⟨_, rfl, rfl⟩
    Loop_init_b := star_none F_Loop_init fun _ _ _ _ _ _ us rest hl => match us, rest, hl with
      | [_, _], [], _ => rfl
      | [_, _], _ :: _, _ => rfl
    n1 := He.noat_ok (cD.fact 72 (f := .noat "Line" "kept_name") rfl)
    n2 := He.noat_ok (cD.fact 73 (f := .noat "Line" "kept_stride") rfl)
    n3 := He.noat_ok (cD.fact 74 (f := .noat "Statement" "kept_name") rfl)
    n4 := He.noat_ok (cD.fact 75 (f := .noat "Statement" "kept_target") rfl)
    n5 := He.noat_ok (cD.fact 76 (f := .noat "Statement" "kept_sources") rfl)
    n6 := He.noat_ok (cD.fact 77 (f := .noat "Loop" "kept_lines") rfl)
    n7 := He.noat_ok (cD.fact 78 (f := .noat "Loop" "kept_statements") rfl)
    n8 := He.noat_ok (cD.fact 79 (f := .noat "Loop" "strides") rfl)
    ne := of_decide_eq_true a0
    a1 := a1
    a2 := a2
    a3 := He.eqO_ok a3
    a4 := He.eqO_ok a4
    a5 := He.eqO_ok a5
    a6 := He.eqO_ok a6
    isinstance_ := He.free_ok X G (cD.fact 51 (f := .free "isinstance") rfl)
    int_ := He.free_ok X G (cD.fact 52 (f := .free "int") rfl)
    bool_ := He.free_ok X G (cD.fact 53 (f := .free "bool") rfl)
    str_ := He.free_ok X G (cD.fact 54 (f := .free "str") rfl)
    len_ := He.free_ok X G (cD.fact 55 (f := .free "len") rfl)
    all_ := He.free_ok X G (cD.fact 56 (f := .free "all") rfl)
    enumerate_ := He.free_ok X G (cD.fact 57 (f := .free "enumerate") rfl)
    range_ := He.free_ok X G (cD.fact 58 (f := .free "range") rfl)
    list_ := He.free_ok X G (cD.fact 59 (f := .free "list") rfl)
    tuple_ := He.free_ok X G (cD.fact 60 (f := .free "tuple") rfl)
    sorted_ := He.free_ok X G (cD.fact 61 (f := .free "sorted") rfl)
    max_ := He.free_ok X G (cD.fact 62 (f := .free "max") rfl)
    min_ := He.free_ok X G (cD.fact 63 (f := .free "min") rfl)
    abs_ := He.free_ok X G (cD.fact 64 (f := .free "abs") rfl)
    t_MOST_LETTERS := t_MOST_LETTERS
    c_MOST_LETTERS := c_MOST_LETTERS
    t_MOST_STRIDE := t_MOST_STRIDE
    c_MOST_STRIDE := c_MOST_STRIDE
    t_MOST_OFFSET := t_MOST_OFFSET
    c_MOST_OFFSET := c_MOST_OFFSET
    t_MOST_SOURCES := t_MOST_SOURCES
    c_MOST_SOURCES := c_MOST_SOURCES
    t_MOST_LINES := t_MOST_LINES
    c_MOST_LINES := c_MOST_LINES
    t_MOST_STATEMENTS := t_MOST_STATEMENTS
    c_MOST_STATEMENTS := c_MOST_STATEMENTS
    t_LETTERS := t_LETTERS
    c_LETTERS := c_LETTERS }⟩
end VW

set_option maxHeartbeats 0
/-! The head. Printed by wip/headgen.py. -/
namespace VW
open PySem PySem.Spec PyProof.Rows L2
def tNm0 : List Str := ["_wall", "WidthError", "InvalidNumber", "InvalidName", "InvalidRef", "InvalidLine", "InvalidStatement", "InvalidLoop", "LETTERS", "MOST_LETTERS", "MOST_STRIDE", "MOST_OFFSET", "is_integer", "is_between", "is_count", "is_name"]
def tNm1 : List Str := ["is_offset", "is_ref", "are_unlike", "Line", "loads_of", "end_of", "iteration_events", "plain_list", "cell_of", "flow", "numbered_refs", "meets", "reach", "greatest_count", "greatest_width", "block_events"]
def tNm2 : List Str := ["free_list", "found_origins", "is_right_place", "bad_places", "MOST_SOURCES", "Statement", "MOST_LINES", "MOST_STATEMENTS", "are_lines", "are_statements", "Loop", "_law_begin", "_law_draw", "_law_pick", "_law_mixed", "_law_stem"]
def tNm3 : List Str := ["_law_names", "_law_ref", "_law_rows", "_law_world", "_law_deed", "_law_loop", "_law_turn", "_law_turns", "_law_plain", "_law_cell", "_law_flow", "_law_far", "_law_free", "_law_top", "_law_bad_places"]
def tNm : List Str := tNm0 ++ tNm1 ++ tNm2 ++ tNm3
abbrev theRow : PySem.W.OpenRow := PySem.W.OpenLaw.row PySem.Challenge.rw_vectorwidths_k37_whole_bad_places
def obV (s : PySem.W.SharedT) : AlV := lookV 5 (HandSHeadRun.getT s)
theorem obV_eq (s : PySem.W.SharedT) : obV s = (hookV 5).obs s.abs := lookV_eq (HandSHeadRun.getT_eq s)
theorem theRun (w : World) : HandSHeadRun.RunEq theRow (PySem.W.view theRow.prog [72]) (hookV 5) obV 8000 tNm w := by
  intro os
  kernel_rfl
end VW
open PySem PySem.W PySem.Calls PyProof.Rows
theorem PySem.Challenge.cw_vectorwidths_k37_whole_bad_places_holds : PySem.Challenge.rw_vectorwidths_k37_whole_bad_places.Holds := by
  w_on; o_law
  refine HandSHeadRun.head_any (r := OpenLaw.row PySem.Challenge.rw_vectorwidths_k37_whole_bad_places) (q := view (OpenLaw.row PySem.Challenge.rw_vectorwidths_k37_whole_bad_places).prog [72]) (H := VW.hookV 5) (ob := VW.obV) (M := 8000) (loose := VW.tNm) (d := HandSHeadRun.topDef (OpenLaw.row PySem.Challenge.rw_vectorwidths_k37_whole_bad_places).prog 72) (kwd := []) VW.obV_eq
    (by kernel_rfl) (fun s => by kernel_rfl) VW.theRun (by kernel_rfl) (by kernel_rfl) (by kernel_rfl) (by rfl) (by first | assumption | decide +kernel) (by decide +kernel) ⟨rfl, rfl, rfl, rfl, rfl, by decide +kernel⟩ ?hw ?hc
  case hw => w_witness2
  case hc =>
    refine L2.walk_ofE (l := PySem.Challenge.rw_vectorwidths_k37_whole_bad_places) (n := 63) (k := 10) (x := "script") (CX := L2.CX0) rfl (by decide) (by kernel_rfl) ⟨rfl, by decide, by decide⟩ ?F (fun _ _ _ _ z => z)
    intro w mg fa h Y G hmg0
    obtain ⟨K, KX, c⟩ := Y
    obtain ⟨T⟩ := VW.facts KX G c
    have hmg : mg ("law" : PySem.Str) = some (.ref fa) := by
      have e : (HandSHeadRun.topDef (OpenLaw.row PySem.Challenge.rw_vectorwidths_k37_whole_bad_places).prog 72).name = ("law" : PySem.Str) := by kernel_rfl
      exact (congrArg mg e).symm.trans hmg0
    have ef : T.law.f = fa := Value.ref.inj (Option.some.inj (T.law.g.symm.trans hmg))
    clear c
    have hB := L2.FunD.bindsA (ps := ["script"]) T.law.F fun _ _ _ _ _ _ us hl => match us, hl with | [_], _ => rfl
    subst ef
    refine ⟨K, T.law.fd, VW.spLaw K, KX, fun s v => hB s [v] rfl, fun H a ns hl _ hS => ⟨a, ns, rfl, hS, fun _ => rfl⟩, fun base _ _ => ?_⟩
    exact VW.ok_law T
