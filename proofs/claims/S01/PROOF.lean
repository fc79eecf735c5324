import PyProof.Rows.All
import Wide.All
import OpenK.AllK
import Wide.FinOn
import PyProof.EqAt
import PyProof.EqKinds
import PyProof.TupleCall
import Open.SpecLaws
import KE.OsGo
import PySem.Challenge.RW_fellings_s01_answers
import HandS.ForSpec
import HandS.Comp
import HandS.Iter
import HandS.Walk
import HandS.Conv
import HandS.NoneIn
import HandS.Deep
import HandS.ExcInit
import HandS.ExcField
import KE.DataMinMax
set_option linter.all false
set_option maxRecDepth 10000
namespace Fe
/-- the forest as the program keeps it: pairs as they were told -/
structure F where
  periods : Nat
  apart : Nat
  least : Nat
  most : Nat
  stands : List (List Nat)
  pairs : List (Nat × Nat)
def norm (x : Nat × Nat) : Nat × Nat := Sw93.pair x.1 x.2
def F.up (f : F) : Sw93.Forest := ⟨f.periods, f.apart, f.least, f.most, f.stands, f.pairs.map norm⟩
def F.init : F := ⟨1, 0, 0, 1000000, [], []⟩
def F.bring (f : F) (i t : Nat) : Nat := (f.stands.getD i []).getD (t - 1) 0
def F.flow (f : F) (p : List Nat) (t : Nat) : Nat := (p.zipIdx.map fun x => if x.1 = t then f.bring x.2 t else 0).sum
def F.flows (f : F) (p : List Nat) : List Nat := (List.range f.periods).map fun t => f.flow p (t + 1)
def far2 (a b : Nat) : Nat := (a - b) + (b - a)
def F.near (f : F) (p : List Nat) (x : Nat × Nat) : Bool :=
  decide (0 < p.getD x.1 0) && (decide (0 < p.getD x.2 0) && decide (far2 (p.getD x.1 0) (p.getD x.2 0) ≤ f.apart))
def F.wrongPair (f : F) (p : List Nat) : Option Nat := f.pairs.findIdx? (f.near p)
def F.wrongFlow1 (f : F) (p : List Nat) (t : Nat) : Option (Nat × Nat) :=
  if f.flow p (t + 1) < f.least then some (2, t + 1) else if f.most < f.flow p (t + 1) then some (3, t + 1) else none
def F.wrongFlow (f : F) (p : List Nat) : Option (Nat × Nat) := (List.range f.periods).findSome? (f.wrongFlow1 p)
def F.wrong (f : F) (p : List Nat) : Option (Nat × Nat) := match f.wrongPair p with
  | some i => some (1, i)
  | none => f.wrongFlow p
def F.row (f : F) (t own : Nat) : List Nat := if 1 ≤ own ∧ own ≤ t then [own] else 0 :: (List.range (f.periods - t)).map fun k => t + 1 + k
def F.choices (f : F) (p : List Nat) (t : Nat) : List (List Nat) := p.map (f.row t)
def F.fitP (f : F) (p : List Nat) (x : Nat × Nat) : Bool := decide (max x.1 x.2 + 1 = p.length) && f.near p x
def F.fits (f : F) (p : List Nat) : Bool := (f.pairs.all fun x => !f.fitP p x) && (f.flows p).all fun v => decide (v ≤ f.most)
def F.grow1 (f : F) (p row : List Nat) : List (List Nat) := (row.map fun o => p ++ [o]).filter f.fits
def F.grow (f : F) (found : List (List Nat)) (row : List Nat) : List (List Nat) := found.flatMap fun p => f.grow1 p row
def F.allPlans (f : F) (some : List (List Nat)) : List (List Nat) := some.foldl f.grow [[]]
structure B where
  brings : Nat
  many : Nat
  plan : Option (List Nat)
def B.start : B := ⟨0, 0, none⟩
def F.lst (f : F) (p : List Nat) : Bool := (f.flows p).all fun v => decide (f.least ≤ v)
def B.put (b : B) (s : Nat) (p : List Nat) : B := if b.plan = none ∨ b.brings < s then ⟨s, 0, some p⟩ else b
def B.count (b : B) (s : Nat) : B := { b with many := b.many + if s = b.brings then 1 else 0 }
def F.bestStep (f : F) (b : B) (p : List Nat) : B := if f.lst p = true then (b.put (f.flows p).sum p).count (f.flows p).sum else b
def F.bestOf (f : F) (some : List (List Nat)) : B := (f.allPlans some).foldl f.bestStep B.start
/-- what's answered: in its order, or by a refusal -/
inductive R where
  | ok (l : List Int)
  | no (l : List Int)
def R.nums : R → List Int
  | .ok l => l
  | .no l => l
def asInts (l : List Nat) : List Int := l.map fun (n : Nat) => (n : Int)
def F.tell (f : F) (some : List (List Nat)) : R := match (f.bestOf some).plan with
  | none => .no [-6]
  | Option.some p => .ok (asInts ([(f.bestOf some).brings, 1, (f.bestOf some).many, p.length] ++ p ++ [(f.flows p).length] ++ f.flows p))
def F.pairOf (f : F) (i j : Nat) : Option (Nat × Nat) := if (i, j) ∈ f.pairs then some (i, j) else if (j, i) ∈ f.pairs then some (j, i) else none
def F.notPlan (f : F) (p : List Nat) : Prop := p.length ≠ f.stands.length ∨ (p.all fun t => decide (t ≤ f.periods)) = false
instance (f : F) (p : List Nat) : Decidable (f.notPlan p) := by unfold F.notPlan; infer_instance
def F.noStand (f : F) (l : List Nat) : Prop := l.length ≠ f.periods ∨ (l.all fun v => decide (v ≤ 1000000)) = false
instance (f : F) (l : List Nat) : Decidable (f.noStand l) := by unfold F.noStand; infer_instance
def noRules (t a l m : Nat) : Prop := t < 1 ∨ 4 < t ∨ t < a ∨ m < l ∨ 1000000 < m
instance (t a l m : Nat) : Decidable (noRules t a l m) := by unfold noRules; infer_instance
def F.maxes (f : F) : List Nat := f.stands.map fun l => l.foldl max 0
def F.drop (f : F) (g : Nat × Nat) : F := { f with pairs := f.pairs.filter fun x => x != g }
def F.begins (f : F) (t a l m : Nat) : F × R := if noRules t a l m then (f, .no [-1]) else (⟨t, a, l, m, [], []⟩, .ok [0])
def F.stand (f : F) (l : List Nat) : F × R := if f.noStand l then (f, .no [-1]) else if f.stands.length = 6 then (f, .no [-5]) else ({ f with stands := f.stands ++ [l] }, .ok [(f.stands.length : Int)])
def F.beNear (f : F) (i j : Nat) : F × R := if f.stands.length ≤ max i j then (f, .no [-2]) else if i = j ∨ f.pairOf i j ≠ none then (f, .no [-3]) else ({ f with pairs := f.pairs ++ [(i, j)] }, .ok [(f.pairs.length : Int)])
def F.beFar (f : F) (i j : Nat) : F × R := match f.pairOf i j with
  | none => (f, .no [-2])
  | some g => (f.drop g, .ok [((f.drop g).pairs.length : Int)])
def F.best (f : F) : R := f.tell (f.choices (List.replicate f.stands.length 0) 0)
def F.checkRight (f : F) (p : List Nat) : R := match f.wrong p with
  | some x => .no [-6, 2, (x.1 : Int), (x.2 : Int)]
  | none => .ok (asInts ([(f.flows p).sum, (f.flows p).length] ++ f.flows p))
def F.check (f : F) (p : List Nat) : R := if f.notPlan p then .no [-1] else f.checkRight p
def F.goesOn (f : F) (t : Nat) (p : List Nat) : R := if f.notPlan p then .no [-1] else if f.periods < t then .no [-1] else f.tell (f.choices p t)
def F.alone (f : F) : R := .ok (asInts ([f.maxes.sum, f.maxes.length] ++ f.maxes))
def F.step (f : F) : Sw93.Call → F × R
  | .begins t a l m => f.begins t a l m
  | .stand l => f.stand l
  | .near i j => f.beNear i j
  | .far i j => f.beFar i j
  | .best => (f, f.best)
  | .check p => (f, f.check p)
  | .goesOn t p => (f, f.goesOn t p)
  | .alone => (f, f.alone)
structure Ok (f : F) : Prop where
  p1 : 1 ≤ f.periods
  p4 : f.periods ≤ 4
  st : ∀ l ∈ f.stands, l.length = f.periods
  s6 : f.stands.length ≤ 6
  pr : ∀ x ∈ f.pairs, x.1 < f.stands.length ∧ x.2 < f.stands.length ∧ x.1 ≠ x.2
  nd : (f.pairs.map norm).Nodup
/-- a call's numbers -/
def flat : Sw93.Call → List Nat
  | .begins t a l m => [0, t, a, l, m]
  | .stand l => 1 :: l.length :: l
  | .near i j => [2, i, j]
  | .far i j => [3, i, j]
  | .best => [4]
  | .check p => 5 :: p.length :: p
  | .goesOn t p => 6 :: t :: p.length :: p
  | .alone => [7]
def rowOf : Sw93.Call → List Nat
  | .stand l => l
  | .check p => p
  | .goesOn _ p => p
  | _ => []
def run : F → List Sw93.Call → List (List Int)
  | _, [] => []
  | f, x :: r => (f.step x).2.nums :: run (f.step x).1 r

/-! ### sums -/
theorem total_sum (l : List Nat) : Sw93.total l = l.sum := by
  unfold Sw93.total
  exact List.sum_eq_foldl.symm
theorem sum_zero {α : Type} (l : List α) (g : α → Nat) (h : ∀ x ∈ l, g x = 0) : (l.map g).sum = 0 := by
  induction l with
  | nil => rfl
  | cons a r ih =>
    rw [List.map_cons, List.sum_cons, h a List.mem_cons_self, ih fun x hx => h x (List.mem_cons_of_mem _ hx)]
theorem sum_add {α : Type} (l : List α) (g k : α → Nat) : (l.map fun x => g x + k x).sum = (l.map g).sum + (l.map k).sum := by
  induction l with
  | nil => rfl
  | cons a r ih =>
    simp only [List.map_cons, List.sum_cons, ih]
    omega
theorem sum_swap {α β : Type} (l : List α) (m : List β) (g : α → β → Nat) : (l.map fun a => (m.map fun b => g a b).sum).sum = (m.map fun b => (l.map fun a => g a b).sum).sum := by
  induction l with
  | nil =>
    show 0 = _
    exact (sum_zero m _ fun x _ => rfl).symm
  | cons a r ih =>
    simp only [List.map_cons, List.sum_cons, ih, sum_add]
/-- one of a range -/
theorem sum_pick (n o : Nat) (v : Nat → Nat) (h : 1 ≤ o → o ≤ n → True) : ((List.range n).map fun t => if o = t + 1 then v (t + 1) else 0).sum = if 1 ≤ o ∧ o ≤ n then v o else 0 := by
  induction n with
  | zero =>
    rw [if_neg (by omega)]
    rfl
  | succ n ih =>
    rw [List.range_succ, List.map_append, List.sum_append, ih fun _ _ => trivial]
    simp only [List.map_cons, List.map_nil, List.sum_cons, List.sum_nil]
    by_cases e : o = n + 1
    · rw [if_neg (by omega), if_pos e, if_pos (by omega), e]
      omega
    · rw [if_neg e]
      by_cases q : 1 ≤ o ∧ o ≤ n
      · rw [if_pos q, if_pos (by omega)]
        rfl
      · rw [if_neg q, if_neg (by omega)]
        rfl
theorem up_flow (f : F) (p : List Nat) (t : Nat) (h : 0 < t) : f.up.flow p t = f.flow p t := by
  unfold Sw93.Forest.flow F.flow
  rw [total_sum]
  congr 1
  apply List.map_congr_left
  intro x _
  unfold Sw93.Forest.brings F.bring
  rw [if_neg (show ¬ t = 0 by omega)]
  rfl
theorem up_flows (f : F) (p : List Nat) : ((List.range f.up.periods).map fun t => f.up.flow p (t + 1)) = f.flows p := by
  apply List.map_congr_left
  intro t _
  exact up_flow f p _ (Nat.succ_pos t)
theorem mem_zipIdx_fst {p : List Nat} {x : Nat × Nat} (h : x ∈ p.zipIdx) : x.1 ∈ p := by
  obtain ⟨a, i⟩ := x
  exact List.fst_mem_of_mem_zipIdx h
/-- what a plan brings, period by period -/
theorem up_all (f : F) (p : List Nat) (h : ∀ o ∈ p, o ≤ f.periods) : (f.flows p).sum = f.up.all p := by
  unfold Sw93.Forest.all F.flows F.flow
  rw [total_sum, sum_swap]
  congr 1
  apply List.map_congr_left
  intro x hx
  have hm := h _ (mem_zipIdx_fst hx)
  have e := sum_pick f.periods x.1 (fun t => f.bring x.2 t) fun _ _ => trivial
  rw [e]
  unfold Sw93.Forest.brings
  by_cases z : x.1 = 0
  · rw [if_neg (by omega), if_pos z]
  · rw [if_pos (by omega), if_neg z]
    rfl
theorem flow_nil (f : F) (t : Nat) : f.flow [] t = 0 := rfl
theorem flow_snoc (f : F) (p : List Nat) (o t : Nat) : f.flow (p ++ [o]) t = f.flow p t + if o = t then f.bring p.length t else 0 := by
  unfold F.flow
  rw [List.zipIdx_append, List.map_append, List.sum_append]
  simp

/-! ### neighbours -/
theorem norm_comm (i j : Nat) : Sw93.pair i j = Sw93.pair j i := by
  unfold Sw93.pair
  by_cases h : i < j
  · rw [if_pos h, if_neg (by omega)]
  · by_cases g : j < i
    · rw [if_neg h, if_pos g]
    · have e : i = j := by omega
      subst e
      rw [if_neg h]
theorem norm_cases (x : Nat × Nat) : norm x = (x.1, x.2) ∨ norm x = (x.2, x.1) := by
  unfold norm Sw93.pair
  by_cases h : x.1 < x.2
  · exact .inl (if_pos h)
  · exact .inr (if_neg h)
theorem clear_near (ap a b : Nat) (f : Sw93.Forest) (h : f.apart = ap) : (!f.clear a b) = (decide (0 < a) && (decide (0 < b) && decide (far2 a b ≤ ap))) := by
  subst h
  unfold Sw93.Forest.clear far2
  rw [Bool.eq_iff_iff]
  simp only [Bool.not_eq_true', Bool.or_eq_false_iff, Bool.and_eq_true, decide_eq_true_eq, decide_eq_false_iff_not, beq_eq_false_iff_ne]
  omega
theorem far2_comm (a b : Nat) : far2 a b = far2 b a := by
  unfold far2
  omega
theorem up_near (f : F) (p : List Nat) (x : Nat × Nat) : (!f.up.clear (p.getD (norm x).1 0) (p.getD (norm x).2 0)) = f.near p x := by
  rw [clear_near f.apart _ _ f.up rfl]
  rcases norm_cases x with e | e
  · rw [e]
    rfl
  · rw [e]
    unfold F.near
    dsimp only
    rw [far2_comm, Bool.and_left_comm]
theorem up_wrongPair (f : F) (p : List Nat) : (f.up.near.findIdx? fun x => !f.up.clear (p.getD x.1 0) (p.getD x.2 0)) = f.wrongPair p := by
  show ((f.pairs.map norm).findIdx? _) = _
  rw [List.findIdx?_map]
  unfold F.wrongPair
  congr 1
  funext x
  exact up_near f p x
theorem up_wrongFlow (f : F) (p : List Nat) : ((List.range f.up.periods).findSome? fun t => if f.up.flow p (t + 1) < f.up.least then some (2, t + 1) else if f.up.most < f.up.flow p (t + 1) then some (3, t + 1) else none) = f.wrongFlow p := by
  unfold F.wrongFlow
  congr 1
  funext t
  unfold F.wrongFlow1
  rw [up_flow f p _ (Nat.succ_pos t)]
  rfl
theorem up_wrong (f : F) (p : List Nat) : f.up.wrong p = f.wrong p := by
  unfold Sw93.Forest.wrong F.wrong
  rw [up_wrongPair, up_wrongFlow]
  cases f.wrongPair p <;> rfl

/-! ### all plans -/
def prod (rows : List (List Nat)) : List (List Nat) := rows.foldl (fun found row => found.flatMap fun p => row.map fun o => p ++ [o]) [[]]
theorem fold_prod : ∀ (rows : List (List Nat)) (found : List (List Nat)), rows.foldl (fun found row => found.flatMap fun p => row.map fun o => p ++ [o]) found = found.flatMap fun p => (prod rows).map fun q => p ++ q
  | [], found => by
    show found = found.flatMap fun p => [p ++ []]
    induction found with
    | nil => rfl
    | cons a r ih =>
      rw [List.flatMap_cons, ← ih, List.append_nil]
      rfl
  | r :: rs, found => by
    have e : prod (r :: rs) = (r.map fun o => [o]).flatMap fun p => (prod rs).map fun q => p ++ q := by
      have h := fold_prod rs (r.map fun o => [o])
      rw [← h]
      unfold prod
      rw [List.foldl_cons]
      congr 1
      rw [List.flatMap_cons, List.flatMap_nil, List.append_nil]
      rfl
    rw [e, List.foldl_cons, fold_prod rs]
    rw [List.flatMap_assoc]
    congr 1
    funext p
    rw [List.map_flatMap, List.flatMap_map, List.flatMap_map]
    congr 1
    funext o
    rw [List.map_map]
    apply List.map_congr_left
    intro q _
    show p ++ [o] ++ q = p ++ ([o] ++ q)
    rw [List.append_assoc]
theorem prod_nil : prod [] = [[]] := rfl
theorem prod_cons (r : List Nat) (rs : List (List Nat)) : prod (r :: rs) = r.flatMap fun x => (prod rs).map fun q => x :: q := by
  have h := fold_prod rs (r.map fun o => [o])
  have e : prod (r :: rs) = (r.map fun o => [o]).flatMap fun p => (prod rs).map fun q => p ++ q := by
    rw [← h]
    unfold prod
    rw [List.foldl_cons]
    congr 1
    rw [List.flatMap_cons, List.flatMap_nil, List.append_nil]
    rfl
  rw [e, List.flatMap_map]
  rfl
theorem plans_prod (t : Nat) : ∀ k, Sw93.plans t k = prod (List.replicate k (List.range (t + 1)))
  | 0 => rfl
  | k + 1 => by
    rw [List.replicate_succ, prod_cons, ← plans_prod t k]
    rfl
theorem prod_len : ∀ {rows : List (List Nat)} {q : List Nat}, q ∈ prod rows → q.length = rows.length
  | [], q, h => by
    rw [prod_nil, List.mem_singleton] at h
    rw [h]
    rfl
  | r :: rs, q, h => by
    rw [prod_cons, List.mem_flatMap] at h
    obtain ⟨x, _, h⟩ := h
    rw [List.mem_map] at h
    obtain ⟨q', h, rfl⟩ := h
    rw [List.length_cons, List.length_cons, prod_len h]
theorem prod_all {c : Nat → Prop} : ∀ {rows : List (List Nat)} {q : List Nat}, (∀ r ∈ rows, ∀ o ∈ r, c o) → q ∈ prod rows → ∀ o ∈ q, c o
  | [], q, _, h => by
    rw [prod_nil, List.mem_singleton] at h
    rw [h]
    intro o ho
    cases ho
  | r :: rs, q, hr, h => by
    rw [prod_cons, List.mem_flatMap] at h
    obtain ⟨x, hx, h⟩ := h
    rw [List.mem_map] at h
    obtain ⟨q', h, rfl⟩ := h
    intro o ho
    rcases List.mem_cons.mp ho with rfl | ho
    · exact hr r List.mem_cons_self _ hx
    · exact prod_all (fun r' h' => hr r' (List.mem_cons_of_mem _ h')) h o ho
/-- rows that are parts of one row -/
theorem prod_filter (l : List Nat) (c : Nat → Nat → Bool) : ∀ p : List Nat, prod (p.map fun own => l.filter (c own)) = (prod (List.replicate p.length l)).filter fun q => (p.zip q).all fun x => c x.1 x.2
  | [] => rfl
  | own :: p => by
    rw [List.map_cons, prod_cons, prod_filter l c p, List.length_cons, List.replicate_succ, prod_cons, List.filter_flatMap]
    generalize prod (List.replicate p.length l) = P
    induction l with
    | nil => rfl
    | cons x l ih =>
      rw [List.flatMap_cons, ← ih, List.filter_map]
      by_cases h : c own x = true
      · rw [List.filter_cons_of_pos h, List.flatMap_cons]
        congr 2
        apply List.filter_congr
        intro q _
        show _ = (((own, x) :: p.zip q).all fun x => c x.1 x.2)
        rw [List.all_cons, h, Bool.true_and]
      · rw [List.filter_cons_of_neg h]
        have e : P.filter ((fun q => ((own :: p).zip q).all fun x => c x.1 x.2) ∘ fun q => x :: q) = [] := by
          rw [List.filter_eq_nil_iff]
          intro q _
          show ¬ (((own, x) :: p.zip q).all fun x => c x.1 x.2) = true
          rw [List.all_cons, Bool.eq_false_iff.mpr h, Bool.false_and]
          exact Bool.false_ne_true
        rw [e]
        rfl
def pick (t own y : Nat) : Bool := if 0 < own ∧ own ≤ t then y == own else (y == 0 || decide (t < y))
theorem filter_one (own : Nat) : ∀ n, own < n → (List.range n).filter (fun y => y == own) = [own]
  | 0, h => absurd h (Nat.not_lt_zero _)
  | n + 1, h => by
    rw [List.range_succ, List.filter_append]
    by_cases e : own = n
    · subst e
      have z : (List.range own).filter (fun y => y == own) = [] := by
        rw [List.filter_eq_nil_iff]
        intro y hy
        have := List.mem_range.mp hy
        simp
        omega
      rw [z]
      simp
    · rw [filter_one own n (by omega)]
      have z : (n == own) = false := by simp; omega
      simp [List.filter, z]
theorem filter_late (t : Nat) : ∀ d, (List.range (t + d + 1)).filter (fun y => y == 0 || decide (t < y)) = 0 :: (List.range d).map fun k => t + 1 + k
  | 0 => by
    rw [Nat.add_zero, List.range_succ_eq_map, List.filter_cons_of_pos rfl]
    congr 1
    rw [List.range_zero, List.map_nil, List.filter_eq_nil_iff]
    intro y hy
    rw [List.mem_map] at hy
    obtain ⟨z, hz, rfl⟩ := hy
    have := List.mem_range.mp hz
    simp
    omega
  | d + 1 => by
    rw [show t + (d + 1) + 1 = (t + d + 1) + 1 from rfl, List.range_succ, List.filter_append, filter_late t d, List.range_succ, List.map_append]
    have z : ((t + d + 1 == 0) || decide (t < t + d + 1)) = true := by simp; omega
    have z2 : [t + d + 1].filter (fun y => y == 0 || decide (t < y)) = [t + d + 1] := by
      exact List.filter_cons_of_pos (p := fun y => y == 0 || decide (t < y)) z
    rw [z2, List.cons_append]
    congr 2
    show [t + d + 1] = [t + 1 + d]
    congr 1
    omega
theorem row_pick (f : F) {t own : Nat} (ht : t ≤ f.periods) (ho : own ≤ f.periods) : f.row t own = (List.range (f.periods + 1)).filter (pick t own) := by
  unfold F.row
  by_cases h : 1 ≤ own ∧ own ≤ t
  · rw [if_pos h]
    have e : pick t own = fun y => y == own := by
      funext y
      exact if_pos h
    rw [e, filter_one own _ (by omega)]
  · rw [if_neg h]
    have e : pick t own = fun y => y == 0 || decide (t < y) := by
      funext y
      exact if_neg h
    have q := filter_late t (f.periods - t)
    rw [show t + (f.periods - t) + 1 = f.periods + 1 by omega] at q
    rw [e, q]
theorem choices_prod (f : F) {p : List Nat} {t : Nat} (ht : t ≤ f.periods) (ho : ∀ o ∈ p, o ≤ f.periods) :
    prod (f.choices p t) = (Sw93.plans f.periods p.length).filter fun q => Sw93.Forest.keeps p q t := by
  have e : f.choices p t = p.map fun own => (List.range (f.periods + 1)).filter (pick t own) := by
    apply List.map_congr_left
    intro o h
    exact row_pick f ht (ho o h)
  rw [e, prod_filter, plans_prod]
  apply List.filter_congr
  intro q hq
  have l := prod_len hq
  rw [List.length_replicate] at l
  unfold Sw93.Forest.keeps
  rw [l, beq_self_eq_true, Bool.true_and]
  congr 1
theorem keeps_none : ∀ (n : Nat) (q : List Nat), q.length = n → Sw93.Forest.keeps (List.replicate n 0) q 0 = true
  | 0, [], _ => rfl
  | n + 1, y :: q, h => by
    have ih := keeps_none n q (Nat.succ.inj h)
    unfold Sw93.Forest.keeps at ih ⊢
    rw [Bool.and_eq_true] at ih ⊢
    rw [List.replicate_succ, List.zip_cons_cons, List.all_cons, ih.2, Bool.and_true]
    refine ⟨by simpa using h.symm, ?_⟩
    simp
    omega

/-! ### pruning -/
def F.good (f : F) (p : List Nat) : Bool := (f.pairs.all fun x => !(decide (max x.1 x.2 < p.length) && f.near p x)) && (f.flows p).all fun v => decide (v ≤ f.most)
theorem near_snoc (f : F) (p : List Nat) (o : Nat) {x : Nat × Nat} (h : max x.1 x.2 < p.length) : f.near (p ++ [o]) x = f.near p x := by
  unfold F.near
  have h1 : (p ++ [o]).getD x.1 0 = p.getD x.1 0 := by
    simp only [List.getD_eq_getElem?_getD]
    rw [List.getElem?_append_left (by omega)]
  have h2 : (p ++ [o]).getD x.2 0 = p.getD x.2 0 := by
    simp only [List.getD_eq_getElem?_getD]
    rw [List.getElem?_append_left (by omega)]
  rw [h1, h2]
theorem good_snoc (f : F) (p : List Nat) (o : Nat) : f.good (p ++ [o]) = (f.fits (p ++ [o]) && f.good p) := by
  rw [Bool.eq_iff_iff]
  unfold F.good F.fits F.fitP F.flows
  simp only [Bool.and_eq_true, List.all_eq_true, Bool.not_eq_true', Bool.and_eq_false_iff, decide_eq_false_iff_not, decide_eq_true_eq, List.length_append, List.length_cons, List.length_nil, List.mem_map, List.mem_range, forall_exists_index, and_imp, forall_apply_eq_imp_iff₂, flow_snoc]
  constructor
  · rintro ⟨h1, h2⟩
    refine ⟨⟨fun x hx => ?_, h2⟩, fun x hx => ?_, fun t ht => ?_⟩
    · rcases h1 x hx with h | h
      · exact .inl (by omega)
      · exact .inr h
    · by_cases q : max x.1 x.2 < p.length
      · rcases h1 x hx with h | h
        · exact absurd (show max x.1 x.2 < p.length + (0 + 1) by omega) h
        · rw [near_snoc f p o q] at h
          exact .inr h
      · exact .inl q
    · have := h2 t ht
      omega
  · rintro ⟨⟨h1, h2⟩, h3, h4⟩
    refine ⟨fun x hx => ?_, h2⟩
    by_cases q : max x.1 x.2 < p.length
    · rcases h3 x hx with h | h
      · exact absurd q h
      · rw [near_snoc f p o q]
        exact .inr h
    · rcases h1 x hx with h | h
      · exact .inl (by omega)
      · exact .inr h
theorem grow_good (f : F) (row : List Nat) : ∀ found : List (List Nat), f.grow (found.filter f.good) row = (found.flatMap fun p => row.map fun o => p ++ [o]).filter f.good
  | [] => rfl
  | p :: r => by
    rw [List.flatMap_cons, List.filter_append, ← grow_good f row r]
    by_cases h : f.good p = true
    · rw [List.filter_cons_of_pos h]
      show f.grow1 p row ++ _ = _
      congr 1
      unfold F.grow1
      apply List.filter_congr
      intro q hq
      rw [List.mem_map] at hq
      obtain ⟨o, _, rfl⟩ := hq
      rw [good_snoc, h, Bool.and_true]
    · rw [List.filter_cons_of_neg h]
      have e : (row.map fun o => p ++ [o]).filter f.good = [] := by
        rw [List.filter_eq_nil_iff]
        intro q hq
        rw [List.mem_map] at hq
        obtain ⟨o, _, rfl⟩ := hq
        rw [good_snoc, Bool.eq_false_iff.mpr h, Bool.and_false]
        exact Bool.false_ne_true
      rw [e, List.nil_append]
theorem fold_good (f : F) : ∀ (rows found : List (List Nat)), rows.foldl f.grow (found.filter f.good) = (rows.foldl (fun found row => found.flatMap fun p => row.map fun o => p ++ [o]) found).filter f.good
  | [], _ => rfl
  | r :: rs, found => by
    rw [List.foldl_cons, List.foldl_cons, grow_good, fold_good f rs]
theorem good_nil (f : F) : f.good [] = true := by
  unfold F.good F.flows
  simp [flow_nil]
theorem allPlans_good (f : F) (rows : List (List Nat)) : f.allPlans rows = (prod rows).filter f.good := by
  have h := fold_good f rows [[]]
  rw [show [([] : List Nat)].filter f.good = [[]] by rw [List.filter_cons_of_pos (good_nil f)]; rfl] at h
  exact h

/-! ### right plans -/
theorem wrong_none (f : F) (p : List Nat) : (f.wrong p).isNone = true ↔ (∀ x ∈ f.pairs, f.near p x = false) ∧ ∀ t, t < f.periods → f.least ≤ f.flow p (t + 1) ∧ f.flow p (t + 1) ≤ f.most := by
  unfold F.wrong
  cases e : f.wrongPair p with
  | some i =>
    constructor
    · intro h
      cases h
    · rintro ⟨h, _⟩
      rw [F.wrongPair, List.findIdx?_eq_none_iff.mpr h] at e
      cases e
  | none =>
    have hp := List.findIdx?_eq_none_iff.mp e
    dsimp only
    rw [Option.isNone_iff_eq_none, F.wrongFlow, List.findSome?_eq_none_iff]
    constructor
    · intro h
      refine ⟨hp, fun t ht => ?_⟩
      have q := h t (List.mem_range.mpr ht)
      unfold F.wrongFlow1 at q
      by_cases h1 : f.flow p (t + 1) < f.least
      · rw [if_pos h1] at q
        cases q
      · rw [if_neg h1] at q
        by_cases h2 : f.most < f.flow p (t + 1)
        · rw [if_pos h2] at q
          cases q
        · omega
    · rintro ⟨_, h⟩ t ht
      have q := h t (List.mem_range.mp ht)
      unfold F.wrongFlow1
      rw [if_neg (by omega), if_neg (by omega)]
theorem right_good (f : F) (k : Ok f) {p : List Nat} (hl : p.length = f.stands.length) (ho : ∀ o ∈ p, o ≤ f.periods) : f.up.right p = (f.lst p && f.good p) := by
  unfold Sw93.Forest.right
  rw [up_wrong]
  have h1 : (p.length == f.up.stands.length) = true := by
    rw [hl]
    exact beq_self_eq_true _
  have h2 : (p.all fun t => decide (t ≤ f.up.periods)) = true := List.all_eq_true.mpr fun o h => decide_eq_true (ho o h)
  rw [h1, h2, Bool.true_and, Bool.true_and, Bool.eq_iff_iff, wrong_none]
  unfold F.good F.lst F.flows
  simp only [Bool.and_eq_true, List.all_eq_true, Bool.not_eq_true', Bool.and_eq_false_iff, decide_eq_false_iff_not, decide_eq_true_eq, List.mem_map, List.mem_range, forall_exists_index, and_imp, forall_apply_eq_imp_iff₂]
  constructor
  · rintro ⟨h3, h4⟩
    exact ⟨fun t ht => (h4 t ht).1, fun x hx => .inr (h3 x hx), fun t ht => (h4 t ht).2⟩
  · rintro ⟨h3, h4, h5⟩
    refine ⟨fun x hx => ?_, fun t ht => ⟨h3 t ht, h5 t ht⟩⟩
    rcases h4 x hx with h | h
    · have := k.pr x hx
      omega
    · exact h

/-! ### the best -/
def B.up (b : B) : Option Sw93.Best := b.plan.map fun p => ⟨b.brings, b.many, p⟩
theorem best_step (f : F) (b : B) (p : List Nat) (h : f.lst p = true) (e : (f.flows p).sum = f.up.all p) : (f.bestStep b p).up = Sw93.better b.up (some ⟨f.up.all p, 1, p⟩) := by
  unfold F.bestStep
  rw [if_pos h, e]
  obtain ⟨br, mn, pl⟩ := b
  cases pl with
  | none =>
    have z : (⟨br, mn, none⟩ : B).put (f.up.all p) p = ⟨f.up.all p, 0, some p⟩ := if_pos (.inl rfl)
    rw [z]
    unfold B.count B.up
    simp [Sw93.better]
  | some q =>
    by_cases c : br < f.up.all p
    · have z : (⟨br, mn, some q⟩ : B).put (f.up.all p) p = ⟨f.up.all p, 0, some p⟩ := if_pos (.inr c)
      rw [z]
      unfold B.count B.up
      simp [Sw93.better, c]
    · have z : (⟨br, mn, some q⟩ : B).put (f.up.all p) p = ⟨br, mn, some q⟩ := if_neg (by
        rintro (h | h)
        · cases h
        · exact c h)
      rw [z]
      unfold B.count B.up
      by_cases d : f.up.all p < br
      · have n : ¬ f.up.all p = br := by omega
        simp [Sw93.better, c, d, n]
      · have n : f.up.all p = br := by omega
        simp [Sw93.better, n]
theorem best_fold (f : F) : ∀ (l : List (List Nat)) (b : B), (∀ p ∈ l, (f.flows p).sum = f.up.all p) →
    (l.foldl f.bestStep b).up = ((l.filter f.lst).map fun p => some (⟨f.up.all p, 1, p⟩ : Sw93.Best)).foldl Sw93.better b.up
  | [], b, _ => rfl
  | p :: l, b, h => by
    have hl := fun q hq => h q (List.mem_cons_of_mem _ hq)
    rw [List.foldl_cons, best_fold f l _ hl]
    by_cases c : f.lst p = true
    · rw [List.filter_cons_of_pos c, List.map_cons, List.foldl_cons, best_step f b p c (h p List.mem_cons_self)]
    · rw [List.filter_cons_of_neg c]
      have z : f.bestStep b p = b := if_neg c
      rw [z]
theorem bestOf_up (f : F) (k : Ok f) {p : List Nat} {t : Nat} (ht : t ≤ f.periods) (hp : p.length = f.stands.length) (ho : ∀ o ∈ p, o ≤ f.periods) : (f.bestOf (f.choices p t)).up = f.up.goesOn p t := by
  have inP : ∀ q ∈ Sw93.plans f.periods p.length, q.length = f.stands.length ∧ ∀ o ∈ q, o ≤ f.periods := fun q hq => by
    rw [plans_prod] at hq
    refine ⟨?_, prod_all (fun r hr o h => ?_) hq⟩
    · rw [prod_len hq, List.length_replicate, hp]
    · rw [List.eq_of_mem_replicate hr] at h
      have := List.mem_range.mp h
      omega
  unfold F.bestOf
  rw [allPlans_good, choices_prod f ht ho, best_fold f _ _ (fun q hq => up_all f q (inP q (List.mem_filter.mp (List.mem_filter.mp hq).1).1).2)]
  unfold Sw93.Forest.goesOn
  congr 2
  rw [List.filter_filter, List.filter_filter, List.filter_filter]
  show _ = (Sw93.plans f.periods f.stands.length).filter _
  rw [← hp]
  apply List.filter_congr
  intro q hq
  obtain ⟨h1, h2⟩ := inP q hq
  rw [right_good f k h1 h2]
  cases f.lst q <;> cases f.good q <;> cases Sw93.Forest.keeps p q t <;> rfl
theorem goesOn_none (f : F) : f.up.goesOn (List.replicate f.stands.length 0) 0 = f.up.best := by
  unfold Sw93.Forest.goesOn Sw93.Forest.best
  congr 2
  rw [List.filter_filter]
  apply List.filter_congr
  intro q hq
  rw [plans_prod] at hq
  have e := prod_len hq
  rw [List.length_replicate] at e
  have z : Sw93.Forest.keeps (List.replicate f.stands.length 0) q 0 = true := keeps_none _ q e
  rw [z, Bool.true_and]

/-! ### pairs -/
theorem norm_eq {x y : Nat × Nat} (h : norm x = norm y) : x = y ∨ x = (y.2, y.1) := by
  obtain ⟨a, b⟩ := x
  obtain ⟨c, d⟩ := y
  rcases norm_cases (a, b) with e | e <;> rcases norm_cases (c, d) with g | g <;> rw [e, g] at h <;> injection h with h1 h2 <;> dsimp only at h1 h2 <;> subst h1 h2
  · exact .inl rfl
  · exact .inr rfl
  · exact .inr rfl
  · exact .inl rfl
theorem nodup_inj {α β : Type} (g : α → β) : ∀ {l : List α}, (l.map g).Nodup → ∀ {x y : α}, x ∈ l → y ∈ l → g x = g y → x = y
  | a :: l, h, x, y, hx, hy, e => by
    rw [List.map_cons, List.nodup_cons] at h
    rcases List.mem_cons.mp hx with rfl | hx'
    · rcases List.mem_cons.mp hy with rfl | hy'
      · rfl
      · exact absurd (e ▸ List.mem_map_of_mem hy') h.1
    · rcases List.mem_cons.mp hy with rfl | hy'
      · exact absurd (e ▸ List.mem_map_of_mem hx') h.1
      · exact nodup_inj g h.2 hx' hy' e
theorem pairOf_some {f : F} {i j : Nat} {g : Nat × Nat} (h : f.pairOf i j = some g) : g ∈ f.pairs ∧ norm g = Sw93.pair i j := by
  unfold F.pairOf at h
  by_cases a : (i, j) ∈ f.pairs
  · rw [if_pos a] at h
    cases h
    exact ⟨a, rfl⟩
  · rw [if_neg a] at h
    by_cases b : (j, i) ∈ f.pairs
    · rw [if_pos b] at h
      cases h
      exact ⟨b, norm_comm j i⟩
    · rw [if_neg b] at h
      cases h
theorem pairOf_none {f : F} {i j : Nat} (h : f.pairOf i j = none) : Sw93.pair i j ∉ f.pairs.map norm := by
  unfold F.pairOf at h
  by_cases a : (i, j) ∈ f.pairs
  · rw [if_pos a] at h
    cases h
  · rw [if_neg a] at h
    by_cases b : (j, i) ∈ f.pairs
    · rw [if_pos b] at h
      cases h
    · intro m
      rw [List.mem_map] at m
      obtain ⟨x, hx, e⟩ := m
      rcases norm_eq (y := (i, j)) e with e | e
      · rw [e] at hx
        exact a hx
      · rw [e] at hx
        exact b hx
theorem contains_iff (f : F) (i j : Nat) : f.up.near.contains (Sw93.pair i j) = (f.pairOf i j).isSome := by
  cases h : f.pairOf i j with
  | none =>
    have q := pairOf_none h
    show _ = false
    rw [Bool.eq_false_iff]
    intro z
    exact q (List.contains_iff_mem.mp z)
  | some g =>
    obtain ⟨h1, h2⟩ := pairOf_some h
    refine List.contains_iff_mem.mpr ?_
    rw [← h2]
    exact List.mem_map_of_mem h1
theorem filter_drop (f : F) (k : Ok f) {g : Nat × Nat} (hg : g ∈ f.pairs) : (f.drop g).pairs.map norm = (f.pairs.map norm).filter fun x => x != norm g := by
  rw [List.filter_map]
  show (f.pairs.filter _).map norm = _
  congr 1
  apply List.filter_congr
  intro x hx
  show (x != g) = (norm x != norm g)
  rw [Bool.eq_iff_iff, bne_iff_ne, bne_iff_ne]
  constructor
  · intro n e
    exact n (nodup_inj norm k.nd hx hg e)
  · intro n e
    exact n (by rw [e])
theorem filter_one_less {α : Type} [BEq α] [LawfulBEq α] (g : α) : ∀ {l : List α}, l.Nodup → g ∈ l → (l.filter fun x => x != g).length = l.length - 1
  | a :: l, h, m => by
    rw [List.nodup_cons] at h
    by_cases e : a = g
    · subst e
      have z : (l.filter fun x => x != a) = l := by
        rw [List.filter_eq_self]
        intro x hx
        rw [bne_iff_ne]
        intro q
        exact h.1 (q ▸ hx)
      rw [List.filter_cons_of_neg (by simp), z]
      rfl
    · rcases List.mem_cons.mp m with q | q
      · exact absurd q.symm e
      · rw [List.filter_cons_of_pos (by simpa using e), List.length_cons, filter_one_less g h.2 q, List.length_cons]
        have : 0 < l.length := List.length_pos_of_mem q
        omega
theorem pairs_few {α : Type} [DecidableEq α] : ∀ {l m : List α}, l.Nodup → (∀ x ∈ l, x ∈ m) → l.length ≤ m.length
  | [], _, _, _ => Nat.zero_le _
  | a :: l, m, h, s => by
    rw [List.nodup_cons] at h
    have ha := s a List.mem_cons_self
    have ih := pairs_few (l := l) (m := m.erase a) h.2 fun x hx => by
      have ne : x ≠ a := fun e => h.1 (e ▸ hx)
      exact (List.mem_erase_of_ne ne).mpr (s x (List.mem_cons_of_mem _ hx))
    have e := List.length_erase_of_mem ha
    have p : 0 < m.length := List.length_pos_of_mem ha
    rw [List.length_cons]
    omega
theorem Ok.few {f : F} (k : Ok f) : f.pairs.length ≤ 36 := by
  have h := pairs_few (l := f.pairs.map norm) (m := (List.range 6).flatMap fun i => (List.range 6).map fun j => (i, j)) k.nd fun x hx => by
    rw [List.mem_map] at hx
    obtain ⟨y, hy, rfl⟩ := hx
    obtain ⟨h1, h2, _⟩ := k.pr y hy
    have s := k.s6
    rw [List.mem_flatMap]
    rcases norm_cases y with e | e <;> rw [e]
    · exact ⟨y.1, List.mem_range.mpr (by omega), List.mem_map.mpr ⟨y.2, List.mem_range.mpr (by omega), rfl⟩⟩
    · exact ⟨y.2, List.mem_range.mpr (by omega), List.mem_map.mpr ⟨y.1, List.mem_range.mpr (by omega), rfl⟩⟩
  rw [List.length_map] at h
  exact h

/-! ### one call -/
theorem out_ok (v : Int) (l : List (List Nat)) : Sw93Neutral.out ⟨v, l⟩ = v :: l.flatMap fun w => (w.length : Int) :: asInts w := rfl
theorem flows_len (f : F) (p : List Nat) : (f.flows p).length = f.periods := by
  unfold F.flows
  rw [List.length_map, List.length_range]
theorem asInts_append (a b : List Nat) : asInts (a ++ b) = asInts a ++ asInts b := List.map_append
theorem asInts_cons (a : Nat) (b : List Nat) : asInts (a :: b) = (a : Int) :: asInts b := rfl
theorem tell_up (f : F) (some : List (List Nat)) : Sw93Neutral.out (Sw93.bestOut f.up (f.bestOf some).up) = (f.tell some).nums := by
  unfold F.tell
  generalize f.bestOf some = b
  obtain ⟨br, mn, pl⟩ := b
  cases pl with
  | none => rfl
  | some p =>
    show Sw93Neutral.out ⟨(br : Int), [[mn], p, (List.range f.up.periods).map fun t => f.up.flow p (t + 1)]⟩ = asInts ([br, 1, mn, p.length] ++ p ++ [(f.flows p).length] ++ f.flows p)
    rw [up_flows, out_ok]
    simp [asInts]
def StepOk (f : F) (x : Sw93.Call) : Prop := (Sw93.step f.up x).1 = (f.step x).1.up ∧ Sw93Neutral.out (Sw93.step f.up x).2 = (f.step x).2.nums ∧ Ok (f.step x).1
theorem step_begins (f : F) (k : Ok f) (t a l m : Nat) : StepOk f (.begins t a l m) := by
  unfold StepOk
  show (Sw93.step f.up (.begins t a l m)).1 = (f.begins t a l m).1.up ∧ _ = (f.begins t a l m).2.nums ∧ Ok (f.begins t a l m).1
  unfold F.begins
  by_cases c : noRules t a l m
  · have e : Sw93.step f.up (.begins t a l m) = (f.up, Sw93.ok (-1)) := if_pos c
    rw [e, if_pos c]
    exact ⟨rfl, rfl, k⟩
  · have e : Sw93.step f.up (.begins t a l m) = (⟨t, a, l, m, [], []⟩, Sw93.ok 0) := if_neg c
    rw [e, if_neg c]
    unfold noRules at c
    refine ⟨rfl, rfl, ⟨?_, ?_, ?_, ?_, ?_, ?_⟩⟩
    · show 1 ≤ t
      omega
    · show t ≤ 4
      omega
    · intro l h
      cases h
    · exact Nat.zero_le _
    · intro l h
      cases h
    · exact List.nodup_nil
theorem step_stand (f : F) (k : Ok f) (l : List Nat) : StepOk f (.stand l) := by
  unfold StepOk
  show (Sw93.step f.up (.stand l)).1 = (f.stand l).1.up ∧ _ = (f.stand l).2.nums ∧ Ok (f.stand l).1
  unfold F.stand
  by_cases c : f.noStand l
  · have e : Sw93.step f.up (.stand l) = (f.up, Sw93.ok (-1)) := if_pos c
    rw [e, if_pos c]
    exact ⟨rfl, rfl, k⟩
  · have e : Sw93.step f.up (.stand l) = if Sw93.STANDS ≤ f.up.stands.length then (f.up, Sw93.ok (-5)) else ({ f.up with stands := f.up.stands ++ [l] }, Sw93.ok (f.up.stands.length : Nat)) := if_neg c
    rw [e, if_neg c]
    have s6 := k.s6
    by_cases d : f.stands.length = 6
    · have d' : Sw93.STANDS ≤ f.up.stands.length := by
        show 6 ≤ f.stands.length
        omega
      rw [if_pos d, if_pos d']
      exact ⟨rfl, rfl, k⟩
    · have d' : ¬ Sw93.STANDS ≤ f.up.stands.length := by
        show ¬ 6 ≤ f.stands.length
        omega
      rw [if_neg d, if_neg d']
      refine ⟨rfl, rfl, ⟨k.p1, k.p4, fun x hx => ?_, ?_, fun x hx => ?_, k.nd⟩⟩
      · rcases List.mem_append.mp hx with h | h
        · exact k.st x h
        · rw [List.mem_singleton] at h
          rw [h]
          unfold F.noStand at c
          show l.length = f.periods
          omega
      · show (f.stands ++ [l]).length ≤ 6
        rw [List.length_append]
        show f.stands.length + 1 ≤ 6
        omega
      · obtain ⟨h1, h2, h3⟩ := k.pr x hx
        have e2 : (f.stands ++ [l]).length = f.stands.length + 1 := List.length_append
        refine ⟨?_, ?_, h3⟩
        · show x.1 < (f.stands ++ [l]).length
          omega
        · show x.2 < (f.stands ++ [l]).length
          omega
theorem step_near (f : F) (k : Ok f) (i j : Nat) : StepOk f (.near i j) := by
  unfold StepOk
  show (Sw93.step f.up (.near i j)).1 = (f.beNear i j).1.up ∧ _ = (f.beNear i j).2.nums ∧ Ok (f.beNear i j).1
  unfold F.beNear
  by_cases c : f.stands.length ≤ max i j
  · have c' : f.up.stands.length ≤ i ∨ f.up.stands.length ≤ j := by
      show f.stands.length ≤ i ∨ f.stands.length ≤ j
      omega
    have e : Sw93.step f.up (.near i j) = (f.up, Sw93.ok (-2)) := if_pos c'
    rw [e, if_pos c]
    exact ⟨rfl, rfl, k⟩
  · have c' : ¬ (f.up.stands.length ≤ i ∨ f.up.stands.length ≤ j) := by
      show ¬ (f.stands.length ≤ i ∨ f.stands.length ≤ j)
      omega
    have e : Sw93.step f.up (.near i j) = if i = j ∨ f.up.near.contains (Sw93.pair i j) = true then (f.up, Sw93.ok (-3)) else ({ f.up with near := f.up.near ++ [Sw93.pair i j] }, Sw93.ok (f.up.near.length : Nat)) := if_neg c'
    rw [e, if_neg c, contains_iff]
    by_cases d : i = j ∨ f.pairOf i j ≠ none
    · have d' : i = j ∨ (f.pairOf i j).isSome = true := by
        rcases d with d | d
        · exact .inl d
        · exact .inr (Option.isSome_iff_ne_none.mpr d)
      rw [if_pos d, if_pos d']
      exact ⟨rfl, rfl, k⟩
    · have d' : ¬ (i = j ∨ (f.pairOf i j).isSome = true) := by
        rintro (q | q)
        · exact d (.inl q)
        · exact d (.inr (Option.isSome_iff_ne_none.mp q))
      rw [if_neg d, if_neg d']
      have hij : i ≠ j := fun q => d (.inl q)
      have hno : f.pairOf i j = none := by
        cases q : f.pairOf i j with
        | none => rfl
        | some g => exact absurd (.inr (by rw [q]; intro z; cases z)) d
      refine ⟨?_, ?_, ⟨k.p1, k.p4, k.st, k.s6, fun x hx => ?_, ?_⟩⟩
      · show (⟨_, _, _, _, _, f.pairs.map norm ++ [norm (i, j)]⟩ : Sw93.Forest) = ⟨_, _, _, _, _, (f.pairs ++ [(i, j)]).map norm⟩
        rw [List.map_append]
        rfl
      · show [((f.pairs.map norm).length : Int)] = [(f.pairs.length : Int)]
        rw [List.length_map]
      · rcases List.mem_append.mp hx with h | h
        · exact k.pr x h
        · rw [List.mem_singleton] at h
          rw [h]
          refine ⟨?_, ?_, hij⟩
          · show i < f.stands.length
            omega
          · show j < f.stands.length
            omega
      · show ((f.pairs ++ [(i, j)]).map norm).Nodup
        rw [List.map_append, List.nodup_append]
        refine ⟨k.nd, ?_, fun a ha b hb => ?_⟩
        · show [norm (i, j)].Nodup
          simp
        · rw [List.map_cons, List.map_nil, List.mem_singleton] at hb
          rw [hb]
          intro q
          rw [q] at ha
          exact pairOf_none hno ha
theorem step_far (f : F) (k : Ok f) (i j : Nat) : StepOk f (.far i j) := by
  unfold StepOk
  show (Sw93.step f.up (.far i j)).1 = (f.beFar i j).1.up ∧ _ = (f.beFar i j).2.nums ∧ Ok (f.beFar i j).1
  unfold F.beFar
  have e : Sw93.step f.up (.far i j) = if f.up.near.contains (Sw93.pair i j) = false then (f.up, Sw93.ok (-2)) else ({ f.up with near := f.up.near.filter fun x => x != Sw93.pair i j }, Sw93.ok (f.up.near.length - 1 : Nat)) := rfl
  rw [e, contains_iff]
  cases h : f.pairOf i j with
  | none =>
    rw [if_pos (show (none : Option (Nat × Nat)).isSome = false from rfl)]
    exact ⟨rfl, rfl, k⟩
  | some g =>
    rw [if_neg (show ¬ (some g).isSome = false by simp)]
    obtain ⟨h1, h2⟩ := pairOf_some h
    have q := filter_drop f k h1
    have hm : norm g ∈ f.pairs.map norm := List.mem_map_of_mem h1
    have ql := filter_one_less (norm g) k.nd hm
    refine ⟨?_, ?_, ⟨k.p1, k.p4, k.st, k.s6, fun x hx => ?_, ?_⟩⟩
    · show (⟨_, _, _, _, _, (f.pairs.map norm).filter fun x => x != Sw93.pair i j⟩ : Sw93.Forest) = ⟨_, _, _, _, _, (f.drop g).pairs.map norm⟩
      rw [q, h2]
      rfl
    · show [(((f.pairs.map norm).length - 1 : Nat) : Int)] = [((f.drop g).pairs.length : Int)]
      rw [← ql, ← q, List.length_map]
    · exact k.pr x (List.mem_filter.mp hx).1
    · show ((f.drop g).pairs.map norm).Nodup
      rw [q]
      exact k.nd.filter _
theorem notPlan_bounds {f : F} {p : List Nat} (h : ¬ f.notPlan p) : p.length = f.stands.length ∧ ∀ o ∈ p, o ≤ f.periods := by
  unfold F.notPlan at h
  refine ⟨Classical.byContradiction fun c => h (.inl c), fun o ho => ?_⟩
  cases q : p.all fun t => decide (t ≤ f.periods) with
  | false => exact absurd (.inr q) h
  | true => exact of_decide_eq_true (List.all_eq_true.mp q o ho)
theorem step_check (f : F) (k : Ok f) (p : List Nat) : StepOk f (.check p) := by
  unfold StepOk
  show (Sw93.step f.up (.check p)).1 = f.up ∧ _ = (f.check p).nums ∧ Ok f
  unfold F.check
  by_cases c : f.notPlan p
  · have e : Sw93.step f.up (.check p) = (f.up, Sw93.ok (-1)) := if_pos c
    rw [e, if_pos c]
    exact ⟨rfl, rfl, k⟩
  · have e : Sw93.step f.up (.check p) = (f.up, match f.up.wrong p with
      | none => ⟨(f.up.all p : Nat), [(List.range f.up.periods).map fun t => f.up.flow p (t + 1)]⟩
      | some x => ⟨-6, [[x.1, x.2]]⟩) := if_neg c
    rw [e, if_neg c, up_wrong, up_flows, ← up_all f p (notPlan_bounds c).2]
    refine ⟨rfl, ?_, k⟩
    unfold F.checkRight
    cases f.wrong p with
    | none =>
      show Sw93Neutral.out ⟨((f.flows p).sum : Nat), [f.flows p]⟩ = asInts ([(f.flows p).sum, (f.flows p).length] ++ f.flows p)
      rw [out_ok]
      simp [asInts]
    | some x => rfl
theorem step_goesOn (f : F) (k : Ok f) (t : Nat) (p : List Nat) : StepOk f (.goesOn t p) := by
  unfold StepOk
  show (Sw93.step f.up (.goesOn t p)).1 = f.up ∧ _ = (f.goesOn t p).nums ∧ Ok f
  unfold F.goesOn
  have e : Sw93.step f.up (.goesOn t p) = if p.length ≠ f.stands.length ∨ (p.all fun t => decide (t ≤ f.periods)) = false ∨ f.periods < t then (f.up, Sw93.ok (-1)) else (f.up, Sw93.bestOut f.up (f.up.goesOn p t)) := rfl
  rw [e]
  by_cases c : f.notPlan p
  · have c' : p.length ≠ f.stands.length ∨ (p.all fun t => decide (t ≤ f.periods)) = false ∨ f.periods < t := by
      rcases c with c | c
      · exact .inl c
      · exact .inr (.inl c)
    rw [if_pos c, if_pos c']
    exact ⟨rfl, rfl, k⟩
  · rw [if_neg c]
    by_cases d : f.periods < t
    · rw [if_pos d, if_pos (.inr (.inr d))]
      exact ⟨rfl, rfl, k⟩
    · have c' : ¬ (p.length ≠ f.stands.length ∨ (p.all fun t => decide (t ≤ f.periods)) = false ∨ f.periods < t) := by
        rintro (q | q | q)
        · exact c (.inl q)
        · exact c (.inr q)
        · exact d q
      rw [if_neg d, if_neg c']
      obtain ⟨h1, h2⟩ := notPlan_bounds c
      refine ⟨rfl, ?_, k⟩
      rw [← tell_up, bestOf_up f k (by omega) h1 h2]
theorem step_best (f : F) (k : Ok f) : StepOk f .best := by
  unfold StepOk
  show (Sw93.step f.up .best).1 = f.up ∧ _ = f.best.nums ∧ Ok f
  refine ⟨rfl, ?_, k⟩
  unfold F.best
  rw [← tell_up, bestOf_up f k (Nat.zero_le _) (List.length_replicate) (fun o h => by rw [List.eq_of_mem_replicate h]; exact Nat.zero_le _), goesOn_none]
  rfl
theorem step_alone (f : F) (k : Ok f) : StepOk f .alone := by
  unfold StepOk
  show (Sw93.step f.up .alone).1 = f.up ∧ _ = f.alone.nums ∧ Ok f
  refine ⟨rfl, ?_, k⟩
  show Sw93Neutral.out ⟨(Sw93.total f.maxes : Nat), [f.maxes]⟩ = asInts ([f.maxes.sum, f.maxes.length] ++ f.maxes)
  rw [out_ok, total_sum]
  simp [asInts]
theorem step_up (f : F) (k : Ok f) (x : Sw93.Call) : StepOk f x := match x with
  | .begins t a l m => step_begins f k t a l m
  | .stand l => step_stand f k l
  | .near i j => step_near f k i j
  | .far i j => step_far f k i j
  | .best => step_best f k
  | .check p => step_check f k p
  | .goesOn t p => step_goesOn f k t p
  | .alone => step_alone f k
theorem Ok.init : Ok F.init := ⟨by decide, by decide, (fun l h => nomatch h), by decide, (fun l h => nomatch h), List.nodup_nil⟩
end Fe

set_option linter.all false
set_option maxRecDepth 10000
namespace Fe
/-! ### what is handed in, read -/
theorem nat_all {l : List Int} (h : l.all Sw93Neutral.nat = true) : asInts (l.map Int.toNat) = l := by
  induction l with
  | nil => rfl
  | cons a r ih =>
    rw [List.all_cons, Bool.and_eq_true] at h
    unfold asInts at ih ⊢
    rw [List.map_cons, List.map_cons, ih h.2]
    have q := h.1
    unfold Sw93Neutral.nat at q
    rw [Bool.and_eq_true, decide_eq_true_eq] at q
    rw [Int.toNat_of_nonneg q.1]
theorem callOf_some {l : List Int} {x : Sw93.Call} (h : Sw93Neutral.callOf l = some x) : Sw93Neutral.callIn (l.map Int.toNat) = some x ∧ asInts (l.map Int.toNat) = l := by
  unfold Sw93Neutral.callOf at h
  cases q : l.all Sw93Neutral.nat with
  | false =>
    rw [q, if_pos rfl] at h
    cases h
  | true =>
    rw [q, if_neg (by simp)] at h
    exact ⟨h, nat_all q⟩
theorem listIn_some {n : Nat} {l r : List Nat} (h : Sw93Neutral.listIn (n :: l) = some r) : r = l ∧ l.length = n ∧ l.length ≤ 20 := by
  unfold Sw93Neutral.listIn at h
  dsimp only at h
  by_cases c : n ≤ 20 ∧ l.length = n
  · rw [if_pos c] at h
    cases h
    exact ⟨rfl, c.2, by omega⟩
  · rw [if_neg c] at h
    cases h
theorem rows_one {l t : List Int} {xs : List (List Int)} (h : PyFlat.rows 1 l = some (xs, t)) : ∃ row : List Int, xs = [row] ∧ l = (row.length : Int) :: (row ++ t) := by
  unfold PyFlat.rows at h
  cases l with
  | nil => cases h
  | cons n r =>
    have e : PyFlat.row (n :: r) = if 0 ≤ n ∧ n.toNat ≤ r.length then some (r.take n.toNat, r.drop n.toNat) else none := rfl
    rw [e] at h
    by_cases c : 0 ≤ n ∧ n.toNat ≤ r.length
    · rw [if_pos c] at h
      have h' : some ([r.take n.toNat], r.drop n.toNat) = some (xs, t) := h
      injection h' with h'
      injection h' with h1 h2
      subst h1 h2
      refine ⟨_, rfl, ?_⟩
      rw [List.take_append_drop, List.length_take]
      congr 1
      omega
    · rw [if_neg c] at h
      cases h
theorem four {l : List Int} (h : ¬ l.length < 4) : ∃ a b c d r, l = a :: b :: c :: d :: r := match l, h with
  | [], h => absurd (by decide) h
  | [_], h => absurd (by simp) h
  | [_, _], h => absurd (by simp) h
  | [_, _, _], h => absurd (by simp) h
  | a :: b :: c :: d :: r, _ => ⟨a, b, c, d, r, rfl⟩
theorem two {l : List Int} (h : ¬ l.length < 2) : ∃ a b r, l = a :: b :: r := match l, h with
  | [], h => absurd (by decide) h
  | [_], h => absurd (by simp) h
  | a :: b :: r, _ => ⟨a, b, r, rfl⟩
theorem one {l : List Int} (h : ¬ l.length < 1) : ∃ a r, l = a :: r := match l, h with
  | [], h => absurd (by decide) h
  | a :: r, _ => ⟨a, r, rfl⟩
def Reads (l : List Int) (c : List (List Int)) (t : List Int) : Prop := ∀ x : Sw93.Call, Sw93Neutral.callOf ((PySw93.whole c).headD []) = some x → l = asInts (flat x) ++ t ∧ (rowOf x).length ≤ 20
theorem plain_call {n : Nat} {p : Int} {r t : List Int} {c : List (List Int)} (hs : PySw93.shape p = some (n, 0)) (h : PyFlat.call PySw93.shape (p :: r) = some (c, t)) : ¬ r.length < n ∧ c = [p :: r.take n] ∧ t = r.drop n := by
  unfold PyFlat.call at h
  dsimp only at h
  rw [hs] at h
  dsimp only at h
  by_cases q : r.length < n
  · rw [if_pos q] at h
    cases h
  · rw [if_neg q] at h
    have h' : some ([p :: r.take n], r.drop n) = some (c, t) := h
    injection h' with h'
    injection h' with h1 h2
    exact ⟨q, h1.symm, h2.symm⟩
theorem row_call {n : Nat} {p : Int} {r t : List Int} {c : List (List Int)} (hs : PySw93.shape p = some (n, 1)) (h : PyFlat.call PySw93.shape (p :: r) = some (c, t)) : ¬ r.length < n ∧ ∃ row : List Int, c = [p :: r.take n, row] ∧ r.drop n = (row.length : Int) :: (row ++ t) := by
  unfold PyFlat.call at h
  dsimp only at h
  rw [hs] at h
  dsimp only at h
  by_cases q : r.length < n
  · rw [if_pos q] at h
    cases h
  · rw [if_neg q] at h
    cases e : PyFlat.rows 1 (r.drop n) with
    | none =>
      rw [e] at h
      cases h
    | some z =>
      obtain ⟨xs, s⟩ := z
      rw [e] at h
      have h' : some ((p :: r.take n) :: xs, s) = some (c, t) := h
      injection h' with h'
      injection h' with h1 h2
      subst h2
      obtain ⟨row, e1, e2⟩ := rows_one e
      subst e1
      exact ⟨q, row, h1.symm, e2⟩
theorem asInts_len (l : List Nat) : (asInts l).length = l.length := List.length_map ..
theorem reads_row (l : List Int) (m : List Nat) (h : asInts m = l) : asInts (m.length :: m) = (l.length : Int) :: l := by
  rw [asInts_cons, h, ← h, asInts_len]
theorem read_call {l t : List Int} {c : List (List Int)} (h : PyFlat.call PySw93.shape l = some (c, t)) : Reads l c t := by
  intro x hx
  cases l with
  | nil => cases h
  | cons p r =>
    by_cases p0 : p = 0
    · subst p0
      obtain ⟨h1, h2, h3⟩ := plain_call (n := 4) rfl h
      obtain ⟨a, b, c', d, r', rfl⟩ := four h1
      subst h2 h3
      obtain ⟨g1, g2⟩ := callOf_some (l := [0, a, b, c', d]) hx
      have e : x = .begins a.toNat b.toNat c'.toNat d.toNat := (Option.some.inj g1).symm
      subst e
      exact ⟨by
        have z : asInts (flat (.begins a.toNat b.toNat c'.toNat d.toNat)) = [0, a, b, c', d] := g2
        rw [z]
        rfl, Nat.zero_le _⟩
    by_cases p1 : p = 1
    · subst p1
      obtain ⟨_, row, h2, h3⟩ := row_call (n := 0) rfl h
      have h3' : r = (row.length : Int) :: (row ++ t) := h3
      subst h2 h3'
      obtain ⟨g1, g2⟩ := callOf_some (l := 1 :: (row.length : Int) :: row) hx
      have g1' : (Sw93Neutral.listIn (row.length :: row.map Int.toNat)).map Sw93.Call.stand = some x := by
        exact g1
      have hr : asInts (row.map Int.toNat) = row := by
        have z : asInts ((1 : Int).toNat :: (row.length : Int).toNat :: row.map Int.toNat) = 1 :: (row.length : Int) :: row := g2
        rw [asInts_cons, asInts_cons] at z
        exact (List.cons.inj (List.cons.inj z).2).2
      cases e : Sw93Neutral.listIn (row.length :: row.map Int.toNat) with
      | none =>
        rw [e] at g1'
        cases g1'
      | some m =>
        rw [e] at g1'
        cases g1'
        obtain ⟨e1, e2, e3⟩ := listIn_some e
        subst e1
        refine ⟨?_, e3⟩
        show _ = asInts (1 :: (row.map Int.toNat).length :: row.map Int.toNat) ++ t
        rw [asInts_cons, reads_row row _ hr]
        rfl
    by_cases p2 : p = 2
    · subst p2
      obtain ⟨h1, h2, h3⟩ := plain_call (n := 2) rfl h
      obtain ⟨a, b, r', rfl⟩ := two h1
      subst h2 h3
      obtain ⟨g1, g2⟩ := callOf_some (l := [2, a, b]) hx
      have e : x = .near a.toNat b.toNat := (Option.some.inj g1).symm
      subst e
      exact ⟨by
        have z : asInts (flat (.near a.toNat b.toNat)) = [2, a, b] := g2
        rw [z]
        rfl, Nat.zero_le _⟩
    by_cases p3 : p = 3
    · subst p3
      obtain ⟨h1, h2, h3⟩ := plain_call (n := 2) rfl h
      obtain ⟨a, b, r', rfl⟩ := two h1
      subst h2 h3
      obtain ⟨g1, g2⟩ := callOf_some (l := [3, a, b]) hx
      have e : x = .far a.toNat b.toNat := (Option.some.inj g1).symm
      subst e
      exact ⟨by
        have z : asInts (flat (.far a.toNat b.toNat)) = [3, a, b] := g2
        rw [z]
        rfl, Nat.zero_le _⟩
    by_cases p4 : p = 4
    · subst p4
      obtain ⟨h1, h2, h3⟩ := plain_call (n := 0) rfl h
      subst h2 h3
      obtain ⟨g1, g2⟩ := callOf_some (l := [4]) hx
      have e : x = .best := (Option.some.inj g1).symm
      subst e
      exact ⟨rfl, Nat.zero_le _⟩
    by_cases p5 : p = 5
    · subst p5
      obtain ⟨_, row, h2, h3⟩ := row_call (n := 0) rfl h
      have h3' : r = (row.length : Int) :: (row ++ t) := h3
      subst h2 h3'
      obtain ⟨g1, g2⟩ := callOf_some (l := 5 :: (row.length : Int) :: row) hx
      have g1' : (Sw93Neutral.listIn (row.length :: row.map Int.toNat)).map Sw93.Call.check = some x := g1
      have hr : asInts (row.map Int.toNat) = row := by
        have z : asInts ((5 : Int).toNat :: (row.length : Int).toNat :: row.map Int.toNat) = 5 :: (row.length : Int) :: row := g2
        rw [asInts_cons, asInts_cons] at z
        exact (List.cons.inj (List.cons.inj z).2).2
      cases e : Sw93Neutral.listIn (row.length :: row.map Int.toNat) with
      | none =>
        rw [e] at g1'
        cases g1'
      | some m =>
        rw [e] at g1'
        cases g1'
        obtain ⟨e1, e2, e3⟩ := listIn_some e
        subst e1
        refine ⟨?_, e3⟩
        show _ = asInts (5 :: (row.map Int.toNat).length :: row.map Int.toNat) ++ t
        rw [asInts_cons, reads_row row _ hr]
        rfl
    by_cases p6 : p = 6
    · subst p6
      obtain ⟨h1, row, h2, h3⟩ := row_call (n := 1) rfl h
      obtain ⟨a, r', rfl⟩ := one h1
      have h3' : r' = (row.length : Int) :: (row ++ t) := h3
      subst h2 h3'
      obtain ⟨g1, g2⟩ := callOf_some (l := 6 :: a :: (row.length : Int) :: row) hx
      have g1' : (Sw93Neutral.listIn (row.length :: row.map Int.toNat)).map (fun p => Sw93.Call.goesOn a.toNat p) = some x := g1
      have z : asInts ((6 : Int).toNat :: a.toNat :: (row.length : Int).toNat :: row.map Int.toNat) = 6 :: a :: (row.length : Int) :: row := g2
      rw [asInts_cons, asInts_cons, asInts_cons] at z
      injection z with _ z
      injection z with ha z
      injection z with _ hr
      cases e : Sw93Neutral.listIn (row.length :: row.map Int.toNat) with
      | none =>
        rw [e] at g1'
        cases g1'
      | some m =>
        rw [e] at g1'
        cases g1'
        obtain ⟨e1, e2, e3⟩ := listIn_some e
        subst e1
        refine ⟨?_, e3⟩
        show _ = asInts (6 :: a.toNat :: (row.map Int.toNat).length :: row.map Int.toNat) ++ t
        rw [asInts_cons, asInts_cons, reads_row row _ hr, ha]
        rfl
    by_cases p7 : p = 7
    · subst p7
      obtain ⟨h1, h2, h3⟩ := plain_call (n := 0) rfl h
      subst h2 h3
      obtain ⟨g1, g2⟩ := callOf_some (l := [7]) hx
      have e : x = .alone := (Option.some.inj g1).symm
      subst e
      exact ⟨rfl, Nat.zero_le _⟩
    · exfalso
      have e : PySw93.shape p = none := by
        unfold PySw93.shape
        rw [if_neg p0, if_neg p1, if_neg p2, if_neg p3, if_neg p4, if_neg p5, if_neg p6, if_neg p7]
      unfold PyFlat.call at h
      dsimp only at h
      rw [e] at h
      cases h
abbrev top (c : List (List Int)) : List Int := (PySw93.whole c).headD []
theorem read_calls : ∀ (fuel : Nat) (l : List Int) (cs : List (List (List Int))), PyFlat.calls PySw93.shape fuel l = some cs → (∀ c ∈ cs, (Sw93Neutral.callOf (top c)).isSome = true) →
    ∃ xs : List Sw93.Call, l = asInts (xs.flatMap flat) ∧ cs.map (fun c => Sw93Neutral.callOf (top c)) = xs.map some ∧ ∀ x ∈ xs, (rowOf x).length ≤ 20
  | fuel, [], cs, h, _ => by
    have e : cs = [] := by
      cases fuel <;> exact (Option.some.inj h).symm
    subst e
    exact ⟨[], rfl, rfl, fun x hx => nomatch hx⟩
  | 0, p :: r, cs, h, _ => by cases h
  | fuel + 1, p :: r, cs, h, ha => by
    unfold PyFlat.calls at h
    cases e : PyFlat.call PySw93.shape (p :: r) with
    | none =>
      rw [e] at h
      cases h
    | some z =>
      obtain ⟨c, t⟩ := z
      rw [e] at h
      dsimp only at h
      cases e2 : PyFlat.calls PySw93.shape fuel t with
      | none =>
        rw [e2] at h
        cases h
      | some cs' =>
        rw [e2] at h
        have e3 : cs = c :: cs' := (Option.some.inj h).symm
        subst e3
        obtain ⟨xs, h1, h2, h3⟩ := read_calls fuel t cs' e2 fun c' hc => ha c' (List.mem_cons_of_mem _ hc)
        obtain ⟨x, hx⟩ := Option.isSome_iff_exists.mp (ha c List.mem_cons_self)
        obtain ⟨g1, g2⟩ := read_call e x hx
        refine ⟨x :: xs, ?_, ?_, ?_⟩
        · rw [List.flatMap_cons, asInts_append, ← h1]
          exact g1
        · rw [List.map_cons, List.map_cons, hx, h2]
        · intro y hy
          rcases List.mem_cons.mp hy with q | q
          · rw [q]
            exact g2
          · exact h3 y q
theorem step_is {f : F} (k : Ok f) {c : List Int} {x : Sw93.Call} (h : Sw93Neutral.callOf c = some x) : Sw93Neutral.step f.up c = ((f.step x).1.up, (f.step x).2.nums) := by
  unfold Sw93Neutral.step
  rw [h]
  obtain ⟨h1, h2, _⟩ := step_up f k x
  show ((Sw93.step f.up x).1, Sw93Neutral.out (Sw93.step f.up x).2) = _
  rw [h1, h2]
theorem run_is : ∀ (cs : List (List (List Int))) (xs : List Sw93.Call) (f : F), Ok f → cs.map (fun c => Sw93Neutral.callOf (top c)) = xs.map some →
    PyFlat.played (fun s c => Sw93Neutral.step s (c.headD [])) f.up (cs.map PySw93.whole) = run f xs ∧ Sw93Neutral.many f.up ((cs.map PySw93.whole).map fun c => c.headD []) = ((run f xs).map List.length).sum
  | [], [], _, _, _ => ⟨rfl, rfl⟩
  | [], _ :: _, _, _, h => by cases h
  | _ :: _, [], _, _, h => by cases h
  | c :: cs, x :: xs, f, k, h => by
    rw [List.map_cons, List.map_cons] at h
    injection h with h1 h2
    have st := step_is k h1
    have k' := (step_up f k x).2.2
    obtain ⟨i1, i2⟩ := run_is cs xs _ k' h2
    constructor
    · show (Sw93Neutral.step f.up (top c)).2 :: PyFlat.played _ (Sw93Neutral.step f.up (top c)).1 (cs.map PySw93.whole) = _
      rw [st]
      show (f.step x).2.nums :: PyFlat.played _ (f.step x).1.up (cs.map PySw93.whole) = _
      rw [i1]
      rfl
    · show (Sw93Neutral.step f.up (top c)).2.length + Sw93Neutral.many (Sw93Neutral.step f.up (top c)).1 ((cs.map PySw93.whole).map fun c => c.headD []) = _
      rw [st]
      show (f.step x).2.nums.length + Sw93Neutral.many (f.step x).1.up _ = _
      rw [i2]
      rfl
theorem told_len : ∀ l : List (List Int), (PyFlat.told l).length = (l.map List.length).sum + l.length
  | [] => rfl
  | a :: l => by
    show (((a.length : Int) :: a) ++ PyFlat.told l).length = _
    rw [List.length_append, told_len l]
    simp only [List.length_cons, List.map_cons, List.sum_cons]
    omega
theorem run_len : ∀ (xs : List Sw93.Call) (f : F), (run f xs).length = xs.length
  | [], _ => rfl
  | x :: xs, f => by
    show (run (f.step x).1 xs).length + 1 = _
    rw [run_len xs]
    rfl
theorem read_all {ns : List Int} (h : PySw93.answers_asked ns = true) :
    ∃ xs : List Sw93.Call, ns = asInts (xs.flatMap flat) ∧ PySw93.answers ns = PyFlat.told (run F.init xs) ∧ (PyFlat.told (run F.init xs)).length ≤ 1000040 ∧ ∀ x ∈ xs, (rowOf x).length ≤ 20 := by
  unfold PySw93.answers_asked at h
  cases e : PySw93.calls ns with
  | none =>
    rw [e] at h
    cases h
  | some ws =>
    rw [e] at h
    dsimp only at h
    have e' := e
    unfold PySw93.calls at e'
    cases g : PyFlat.calls PySw93.shape ns.length ns with
    | none =>
      rw [g] at e'
      cases e'
    | some cs =>
      rw [g] at e'
      have e2 : ws = cs.map PySw93.whole := (Option.some.inj e').symm
      subst e2
      rw [Bool.and_eq_true] at h
      obtain ⟨_, h⟩ := h
      unfold Sw93Neutral.asked at h
      rw [Bool.and_eq_true, Bool.and_eq_true, Bool.and_eq_true, decide_eq_true_eq, decide_eq_true_eq, decide_eq_true_eq] at h
      obtain ⟨ha, _, hl, hm⟩ := h
      have ha' : ∀ c ∈ cs, (Sw93Neutral.callOf (top c)).isSome = true := fun c hc =>
        List.all_eq_true.mp ha _ (List.mem_map_of_mem (List.mem_map_of_mem hc))
      obtain ⟨xs, h1, h2, h3⟩ := read_calls _ _ _ g ha'
      obtain ⟨r1, r2⟩ := run_is cs xs F.init Ok.init h2
      refine ⟨xs, h1, ?_, ?_, h3⟩
      · unfold PySw93.answers
        rw [e]
        exact congrArg PyFlat.told r1
      · rw [told_len, run_len]
        have lx : xs.length = cs.length := by
          have q := congrArg List.length h2
          rw [List.length_map, List.length_map] at q
          exact q.symm
        rw [List.length_map, List.length_map] at hl
        have hm' : Sw93Neutral.many F.init.up ((cs.map PySw93.whole).map fun c => c.headD []) ≤ 1000000 := hm
        rw [r2] at hm'
        omega
end Fe

set_option Elab.async false
set_option linter.all false
set_option maxRecDepth 100000
set_option maxHeartbeats 4000000
namespace Fw
open PySem PySem.Spec PyProof.Rows L2
/-! ### the text by places -/
def top (i : Nat) : Stmt := PySem.Challenge.pw_fellings_s01_answers.main.body.getD i (.Pass ⟨0, 0, 0, 0⟩)
abbrev sForestI : Stmt := inClass (top 4) 0
abbrev sBestI : Stmt := inClass (top 5) 0
abbrev sTooNear : Stmt := top 6
abbrev sBroughtIn : Stmt := top 7
abbrev sAllBrought : Stmt := top 8
abbrev sWrongPair : Stmt := top 9
abbrev sWrongWith : Stmt := top 10
abbrev sChoices : Stmt := top 11
abbrev sFits : Stmt := top 12
abbrev sAllPlans : Stmt := top 13
abbrev sBestOf : Stmt := top 14
abbrev sRefusalI : Stmt := inClass (top 26) 0
abbrev sDeskI : Stmt := inClass (top 27) 0
abbrev sRefuseIf : Stmt := top 28
abbrev sBegins : Stmt := top 29
abbrev sStand : Stmt := top 30
abbrev sPairOf : Stmt := top 31
abbrev sNear : Stmt := top 32
abbrev sFar : Stmt := top 33
abbrev sToldBest : Stmt := top 34
abbrev sBest : Stmt := top 35
abbrev sCheckPlan : Stmt := top 36
abbrev sCheck : Stmt := top 37
abbrev sGoesOn : Stmt := top 38
abbrev sAlone : Stmt := top 39
abbrev sCallOn : Stmt := top 40
abbrev sAnswerTo : Stmt := top 41
abbrev sAnswers : Stmt := top 42
/-! ### a def of the text, called -/
/-- it stands in the module -/
def Def (K : PySem.W.Frag) (mg : Str → Option Value) (x : Str) (st : Stmt) : Prop := ∃ (f : Addr) (fd : FuncData), Fun K x x st f fd ∧ mg x = some (.ref f)
/-- it keeps its promise -/
def Has (P : Program) (w : World) (K : PySem.W.Frag) (mg : Str → Option Value) (base : Heap) (CX : CXT) (k : Nat) (x : Str) (ps : List Str) (sp : Sp) : Prop :=
  ∃ (f : Addr) (fd : FuncData), FnOk P w K mg base CX k f fd ps sp ∧ mg x = some (.ref f) ∧ PySem.W.keepIn K (.ref f) = true ∧ Binds K fd ps []
/-! ### numbers -/
def L (l : List Nat) : List V := (Fe.asInts l).map V.int
theorem L_len (l : List Nat) : (L l).length = l.length := by
  unfold L
  rw [List.length_map, Fe.asInts_len]
theorem L_get {l : List Nat} {i n : Nat} (h : l[i]? = some n) : (L l)[i]? = some (.int (n : Int)) := by
  unfold L Fe.asInts
  rw [List.getElem?_map, List.getElem?_map, h]
  rfl
theorem L_of {l : List Nat} {i : Nat} {x : V} (h : (L l)[i]? = some x) : ∃ n, l[i]? = some n ∧ x = .int (n : Int) := by
  unfold L Fe.asInts at h
  rw [List.getElem?_map, List.getElem?_map] at h
  cases e : l[i]? with
  | none =>
    rw [e] at h
    cases h
  | some n =>
    rw [e] at h
    exact ⟨n, rfl, (Option.some.inj h).symm⟩
theorem L_append (a b : List Nat) : L (a ++ b) = L a ++ L b := by
  unfold L
  rw [Fe.asInts_append, List.map_append]
theorem L_inj {a b : List Nat} (h : L a = L b) : a = b := by
  apply List.ext_getElem?
  intro i
  cases e : a[i]? with
  | some n =>
    have q := L_get e
    rw [h] at q
    obtain ⟨m, h1, h2⟩ := L_of q
    rw [h1]
    injection h2 with h2
    congr 1
    omega
  | none =>
    have l1 := L_len a
    have l2 := L_len b
    rw [h] at l1
    have := List.getElem?_eq_none_iff.mp e
    exact (List.getElem?_eq_none_iff.mpr (by omega)).symm
theorem getD_get {l : List Nat} {i : Nat} (h : i < l.length) : l[i]? = some (l.getD i 0) := by
  rw [List.getD_eq_getElem?_getD, List.getElem?_eq_getElem h]
  rfl
theorem L_getD {l : List Nat} {i : Nat} (h : i < l.length) : (L l)[i]? = some (.int (l.getD i 0 : Nat)) := L_get (getD_get h)
/-! ### the forest in the heap -/
def fF (f : Fe.F) (sA pA : Addr) : List (Str × V) := [("periods", .int (f.periods : Int)), ("apart", .int (f.apart : Int)), ("least", .int (f.least : Int)), ("most", .int (f.most : Int)), ("stands", .ref sA), ("pairs", .ref pA)]
def prV (x : Nat × Nat) : List V := [.int (x.1 : Int), .int (x.2 : Int)]
structure FoIn (C : Addr) (H : Hp) (a : Addr) (f : Fe.F) (dx sA pA : Addr) (ss ps : List Addr) : Prop where
  ins : H a = some (.ins C dx (fF f sA pA))
  st : H sA = some (.lst (ss.map V.ref))
  pr : H pA = some (.lst (ps.map V.ref))
  sn : ss.length = f.stands.length
  sl : ∀ (i : Nat) (b : Addr) (l : List Nat), ss[i]? = some b → f.stands[i]? = some l → H b = some (.lst (L l))
  pn : ps.length = f.pairs.length
  pl : ∀ (i : Nat) (b : Addr) (x : Nat × Nat), ps[i]? = some b → f.pairs[i]? = some x → H b = some (.tup (prV x))
  ne : sA ≠ pA
  sne : ∀ b ∈ ss, b ≠ sA ∧ b ≠ pA
def foot (a sA pA : Addr) (ss ps : List Addr) : List Addr := a :: sA :: pA :: (ss ++ ps)
def FoAt (C : Addr) (H : Hp) (a : Addr) (f : Fe.F) (fp : List Addr) : Prop := ∃ dx sA pA ss ps, FoIn C H a f dx sA pA ss ps ∧ fp = foot a sA pA ss ps
theorem FoIn.same {C : Addr} {H H' : Hp} {a : Addr} {f : Fe.F} {dx sA pA : Addr} {ss ps : List Addr} (x : FoIn C H a f dx sA pA ss ps) (k : ∀ b o, b ∈ foot a sA pA ss ps → H b = some o → H' b = some o) : FoIn C H' a f dx sA pA ss ps :=
  ⟨k _ _ (by simp [foot]) x.ins, k _ _ (by simp [foot]) x.st, k _ _ (by simp [foot]) x.pr, x.sn, fun i b l h1 h2 => k _ _ (by have := List.mem_of_getElem? h1; simp [foot, this]) (x.sl i b l h1 h2), x.pn,
    fun i b l h1 h2 => k _ _ (by have := List.mem_of_getElem? h1; simp [foot, this]) (x.pl i b l h1 h2), x.ne, x.sne⟩
theorem FoAt.same {C : Addr} {H H' : Hp} {a : Addr} {f : Fe.F} {fp : List Addr} (x : FoAt C H a f fp) (k : Same H H') : FoAt C H' a f fp := by
  obtain ⟨dx, sA, pA, ss, ps, h, e⟩ := x
  exact ⟨dx, sA, pA, ss, ps, h.same fun b o _ q => k b o q, e⟩
theorem FoAt.keep {C : Addr} {H H' : Hp} {a : Addr} {f : Fe.F} {fp : List Addr} (x : FoAt C H a f fp) (k : ∀ b o, b ∈ fp → H b = some o → H' b = some o) : FoAt C H' a f fp := by
  obtain ⟨dx, sA, pA, ss, ps, h, e⟩ := x
  subst e
  exact ⟨dx, sA, pA, ss, ps, h.same k, rfl⟩
/-- what is read of it stands -/
theorem FoAt.there {C : Addr} {H : Hp} {a : Addr} {f : Fe.F} {fp : List Addr} (x : FoAt C H a f fp) : ∀ b ∈ fp, ∃ o, H b = some o := by
  obtain ⟨dx, sA, pA, ss, ps, h, e⟩ := x
  subst e
  intro b hb
  simp only [foot, List.mem_cons, List.mem_append] at hb
  rcases hb with rfl | rfl | rfl | hb | hb
  · exact ⟨_, h.ins⟩
  · exact ⟨_, h.st⟩
  · exact ⟨_, h.pr⟩
  · obtain ⟨i, hi, e⟩ := List.mem_iff_getElem.mp hb
    have hs := h.sn
    exact ⟨_, h.sl i b (f.stands[i]'(by omega)) (by rw [List.getElem?_eq_getElem hi, e]) (List.getElem?_eq_getElem _)⟩
  · obtain ⟨i, hi, e⟩ := List.mem_iff_getElem.mp hb
    have hs := h.pn
    exact ⟨_, h.pl i b (f.pairs[i]'(by omega)) (by rw [List.getElem?_eq_getElem hi, e]) (List.getElem?_eq_getElem _)⟩
theorem lk_here {k : Str} {v : V} {r : List (Str × V)} : List.lookup k ((k, v) :: r) = some v := by
  have e : (k == k) = true := beq_self_eq_true k
  simp only [List.lookup, e]
theorem lk_past {k g : Str} {v : V} {r : List (Str × V)} (h : (k == g) = false) : List.lookup k ((g, v) :: r) = List.lookup k r := by
  simp only [List.lookup, h]
theorem put_here {f : Str} {v x : V} {r : List (Str × V)} : putF f v ((f, x) :: r) = (f, v) :: r := if_pos rfl
theorem put_past {f g : Str} {v x : V} {r : List (Str × V)} (h : ¬ g = f) : putF f v ((g, x) :: r) = (g, x) :: putF f v r := if_neg h
section
variable (f : Fe.F) (sA pA : Addr)
theorem lkPeriods : (fF f sA pA).lookup ("periods" : Str) = some (.int (f.periods : Int)) := lk_here
theorem lkApart : (fF f sA pA).lookup ("apart" : Str) = some (.int (f.apart : Int)) := (lk_past (by decide +kernel)).trans lk_here
theorem lkLeast : (fF f sA pA).lookup ("least" : Str) = some (.int (f.least : Int)) := (lk_past (by decide +kernel)).trans ((lk_past (by decide +kernel)).trans lk_here)
theorem lkMost : (fF f sA pA).lookup ("most" : Str) = some (.int (f.most : Int)) := (lk_past (by decide +kernel)).trans ((lk_past (by decide +kernel)).trans ((lk_past (by decide +kernel)).trans lk_here))
theorem lkStands : (fF f sA pA).lookup ("stands" : Str) = some (.ref sA) := (lk_past (by decide +kernel)).trans ((lk_past (by decide +kernel)).trans ((lk_past (by decide +kernel)).trans ((lk_past (by decide +kernel)).trans lk_here)))
theorem lkPairs : (fF f sA pA).lookup ("pairs" : Str) = some (.ref pA) := (lk_past (by decide +kernel)).trans ((lk_past (by decide +kernel)).trans ((lk_past (by decide +kernel)).trans ((lk_past (by decide +kernel)).trans ((lk_past (by decide +kernel)).trans lk_here))))
theorem putPairs (g : Fe.F) (h : g = { f with pairs := g.pairs }) (pB : Addr) : putF "pairs" (.ref pB) (fF f sA pA) = fF g sA pB := by
  rw [h]
  exact (put_past (by decide +kernel)).trans (congrArg _ ((put_past (by decide +kernel)).trans (congrArg _ ((put_past (by decide +kernel)).trans (congrArg _ ((put_past (by decide +kernel)).trans (congrArg _ ((put_past (by decide +kernel)).trans (congrArg _ put_here)))))))))
theorem newForest : putF "pairs" (.ref pA) (putF "stands" (.ref sA) (putF "most" (.int (f.most : Int)) (putF "least" (.int (f.least : Int)) (putF "apart" (.int (f.apart : Int)) (putF "periods" (.int (f.periods : Int)) []))))) = fF f sA pA := by
  have n1 : ¬ (("periods" : Str) = "apart") := by decide +kernel
  have n2 : ¬ (("periods" : Str) = "least") := by decide +kernel
  have n3 : ¬ (("apart" : Str) = "least") := by decide +kernel
  have n4 : ¬ (("periods" : Str) = "most") := by decide +kernel
  have n5 : ¬ (("apart" : Str) = "most") := by decide +kernel
  have n6 : ¬ (("least" : Str) = "most") := by decide +kernel
  have n7 : ¬ (("periods" : Str) = "stands") := by decide +kernel
  have n8 : ¬ (("apart" : Str) = "stands") := by decide +kernel
  have n9 : ¬ (("least" : Str) = "stands") := by decide +kernel
  have n10 : ¬ (("most" : Str) = "stands") := by decide +kernel
  have n11 : ¬ (("periods" : Str) = "pairs") := by decide +kernel
  have n12 : ¬ (("apart" : Str) = "pairs") := by decide +kernel
  have n13 : ¬ (("least" : Str) = "pairs") := by decide +kernel
  have n14 : ¬ (("most" : Str) = "pairs") := by decide +kernel
  have n15 : ¬ (("stands" : Str) = "pairs") := by decide +kernel
  simp only [putF, n1, n2, n3, n4, n5, n6, n7, n8, n9, n10, n11, n12, n13, n14, n15, if_false]
  rfl
end
/-! ### the best in the heap -/
def bF (b : Fe.B) (v : V) : List (Str × V) := [("brings", .int (b.brings : Int)), ("many", .int (b.many : Int)), ("plan", v)]
section
variable (b : Fe.B) (v : V)
theorem lkBrings : (bF b v).lookup ("brings" : Str) = some (.int (b.brings : Int)) := lk_here
theorem lkMany : (bF b v).lookup ("many" : Str) = some (.int (b.many : Int)) := (lk_past (by decide +kernel)).trans lk_here
theorem lkPlan : (bF b v).lookup ("plan" : Str) = some v := (lk_past (by decide +kernel)).trans ((lk_past (by decide +kernel)).trans lk_here)
end
/-- the plan that it has: none, or a list -/
def PlanV (H : Hp) (p : Option (List Nat)) (v : V) : Prop := match p with
  | none => v = .non
  | some q => ∃ a, v = .ref a ∧ H a = some (.lst (L q))
def BestAt (C : Addr) (H : Hp) (a : Addr) (b : Fe.B) : Prop := ∃ dx v, H a = some (.ins C dx (bF b v)) ∧ PlanV H b.plan v
/-! ### what the top has written -/
structure Txt (K : PySem.W.Frag) (mg : Str → Option Value) (C CB CD CR : Addr) : Prop where
  clF : Cls K C
  fP : NoAttr K C "periods"
  fA : NoAttr K C "apart"
  fL : NoAttr K C "least"
  fM : NoAttr K C "most"
  fS : NoAttr K C "stands"
  fR : NoAttr K C "pairs"
  clB : Cls K CB
  bB : NoAttr K CB "brings"
  bM : NoAttr K CB "many"
  bP : NoAttr K CB "plan"
  clD : Cls K CD
  dF : NoAttr K CD "forest"
  gF : mg "Forest" = some (.ref C)
  gB : mg "Best" = some (.ref CB)
  gD : mg "Desk" = some (.ref CD)
  gR : mg "Refusal" = some (.ref CR)
  oex : OexC K CR
  xfc : XfC K CR
  rN : PySem.W.findIn K (.ref CR) "numbers" = some none
  te : PySem.W.exmOne K (.ref CR) (.ref CR) = some true
  nAbs : mg "abs" = none
  nEnum : mg "enumerate" = none
  nRange : mg "range" = none
  nLen : mg "len" = none
  nMax : mg "max" = none
  nMin : mg "min" = none
  nSum : mg "sum" = none
  nInt : mg "int" = none
  nList : mg "list" = none
  cNE : ∃ t, mg "NEIGHBOURS" = some (.int 1 t)
  cTL : ∃ t, mg "TOO_LITTLE" = some (.int 2 t)
  cTM : ∃ t, mg "TOO_MUCH" = some (.int 3 t)
  cOut : ∃ t, mg "OUT" = some (.int (-1) t)
  cNoSt : ∃ t, mg "NO_STAND" = some (.int (-2) t)
  cIsSo : ∃ t, mg "IS_SO" = some (.int (-3) t)
  cFull : ∃ t, mg "FULL" = some (.int (-5) t)
  cNoPl : ∃ t, mg "NO_PLAN" = some (.int (-6) t)
  cMP : ∃ t, mg "MOST_PERIODS" = some (.int 4 t)
  cMS : ∃ t, mg "MOST_STANDS" = some (.int 6 t)
  cMB : ∃ t, mg "MOST_BROUGHT" = some (.int 1000000 t)
  tNum : ∃ a, mg "NUMBERS" = some (.ref a) ∧ ∀ H, SqT K H a (L [4, 0, 2, 2, 0, 0, 1, 0])
  tLis : ∃ a, mg "LISTED" = some (.ref a) ∧ ∀ H, SqT K H a (L [1, 5, 6])
theorem bAbs : bootBuiltins "abs" = some (.builtin "abs") := by decide +kernel
theorem bLen : bootBuiltins "len" = some (.builtin "len") := by decide +kernel
theorem bMax : bootBuiltins "max" = some (.builtin "max") := by decide +kernel
theorem bMin : bootBuiltins "min" = some (.builtin "min") := by decide +kernel
theorem bSum : bootBuiltins "sum" = some (.builtin "sum") := by decide +kernel
theorem bInt : bootBuiltins "int" = some (.type "int") := by decide +kernel
theorem bList : bootBuiltins "list" = some (.type "list") := by decide +kernel
/-! ### tests -/
theorem if_true_of {c : Bool} {A B : Prop} (hc : c = true) (h : A) : if c = true then A else B := by
  rw [if_pos hc]
  exact h
theorem if_false_of {c : Bool} {A B : Prop} (hc : c = false) (h : B) : if c = true then A else B := by
  rw [hc, if_neg Bool.false_ne_true]
  exact h
/-! ### pairs as data -/
def prD (x : Nat × Nat) : PyData := .tuple [.int (x.1 : Int), .int (x.2 : Int)]
/-- many of them can be laid, one deep -/
theorem prDs_flat (zs : List (Nat × Nat)) : PyData.canLayAll0 (zs.map prD) = true ∧ PyData.depthAll (zs.map prD) ≤ 1 := by
  induction zs with
  | nil => exact ⟨by simp [PyData.canLayAll0], by simp [PyData.depthAll]⟩
  | cons x r ih =>
    obtain ⟨ih1, ih2⟩ := ih
    refine ⟨?_, ?_⟩
    · simp [PyData.canLayAll0, PyData.canLay0, prD, ih1]
    · simp only [List.map_cons, PyData.depthAll, PyData.depth, prD] at ih2 ⊢
      omega
theorem prD_shaped (x : Nat × Nat) : SeqAt.shaped (prD x) = true := by
  unfold SeqAt.shaped
  simp [prD, PyData.canLay0, PyData.canLayAll0, PyData.depth, PyData.depthAll]
theorem prDs_shaped (zs : List (Nat × Nat)) : SeqAt.shaped (.list (zs.map prD)) = true := by
  obtain ⟨h1, h2⟩ := prDs_flat zs
  have h3 : PyData.depth (.list (zs.map prD)) ≤ 64 := by
    rw [PyData.depth]
    omega
  unfold SeqAt.shaped
  rw [decide_eq_true h3, Bool.and_true, PyData.canLay0]
  exact h1
theorem prD_eqv (x y : Nat × Nat) : PyData.eqv (prD x) (prD y) = decide (x = y) := by
  have split : PyData.eqv (prD x) (prD y) = (((x.1 : Int) == (y.1 : Int)) && (((x.2 : Int) == (y.2 : Int)) && true)) := by simp only [prD, PyData.eqv, PyData.eqvAll]
  rw [split, Bool.eq_iff_iff, Bool.and_true, Bool.and_eq_true, beq_iff_eq, beq_iff_eq, decide_eq_true_eq]
  constructor
  · rintro ⟨p, q⟩
    exact Prod.ext (by omega) (by omega)
  · intro e
    rw [e]
    exact ⟨rfl, rfl⟩
theorem dp_pair {K : PySem.W.Frag} {H : Hp} {a : Addr} {x : Nat × Nat} (h : H a = some (.tup (prV x))) : Dp K H (.ref a) (prD x) :=
  .tup (SqT.of h) (.cons (.int _) (.cons (.int _) .nil))
theorem dp_all {K : PySem.W.Frag} {H : Hp} : ∀ {ps : List Addr} {zs : List (Nat × Nat)}, ps.length = zs.length → (∀ (i : Nat) (b : Addr) (x : Nat × Nat), ps[i]? = some b → zs[i]? = some x → H b = some (.tup (prV x))) → DpAll K H (ps.map V.ref) (zs.map prD)
  | [], [], _, _ => .nil
  | [], _ :: _, h, _ => by cases h
  | _ :: _, [], h, _ => by cases h
  | p :: ps, z :: zs, h, g => .cons (dp_pair (g 0 p z rfl rfl)) (dp_all (Nat.succ.inj h) fun i b x h1 h2 => g (i + 1) b x (by simpa using h1) (by simpa using h2))
theorem any_eqv (zs : List (Nat × Nat)) (x : Nat × Nat) : ((zs.map prD).any fun z => PyData.eqv z (prD x)) = decide (x ∈ zs) := by
  rw [Bool.eq_iff_iff, List.any_eq_true, decide_eq_true_eq]
  constructor
  · rintro ⟨d, hd, e⟩
    rw [List.mem_map] at hd
    obtain ⟨z, hz, rfl⟩ := hd
    rw [prD_eqv, decide_eq_true_eq] at e
    rw [← e]
    exact hz
  · intro h
    exact ⟨prD x, List.mem_map_of_mem h, by rw [prD_eqv, decide_eq_true_eq]⟩

/-! ### a list of lists in the heap: q holds refs to lists of numbers, none of which is q -/
structure LL (H : Hp) (q : Addr) (as : List Addr) (rows : List (List Nat)) : Prop where
  at_ : H q = some (.lst (as.map V.ref))
  len : as.length = rows.length
  row : ∀ (i : Nat) (b : Addr) (r : List Nat), as[i]? = some b → rows[i]? = some r → H b = some (.lst (L r))
  ne : ∀ b ∈ as, b ≠ q
theorem LL.get {H : Hp} {q : Addr} {as : List Addr} {rows : List (List Nat)} (x : LL H q as rows) {i : Nat} {v : V} (h : (as.map V.ref)[i]? = some v) : ∃ b r, v = .ref b ∧ as[i]? = some b ∧ rows[i]? = some r ∧ H b = some (.lst (L r)) := by
  rw [List.getElem?_map] at h
  cases e : as[i]? with
  | none =>
    rw [e] at h
    cases h
  | some b =>
    rw [e] at h
    have hi : i < as.length := by
      have := List.getElem?_eq_some_iff.mp e
      exact this.1
    have hr : rows[i]? = some (rows[i]'(by have := x.len; omega)) := List.getElem?_eq_getElem _
    exact ⟨b, _, (Option.some.inj h).symm, rfl, hr, x.row i b _ e hr⟩
theorem LL.same {H H' : Hp} {q : Addr} {as : List Addr} {rows : List (List Nat)} (x : LL H q as rows) (k : ∀ b xs, H b = some (.lst xs) → H' b = some (.lst xs)) : LL H' q as rows := by
  refine ⟨k _ _ x.at_, x.len, fun i b r h1 h2 => k _ _ (x.row i b r h1 h2), x.ne⟩
theorem LL.push {H : Hp} {q p : Addr} {as : List Addr} {rows : List (List Nat)} {r : List Nat} (x : LL H q as rows) (hp : H p = some (.lst (L r))) (ne : p ≠ q) : LL (upd H q (.lst (as.map V.ref ++ [.ref p]))) q (as ++ [p]) (rows ++ [r]) := by
  refine ⟨?_, ?_, fun i b r' h1 h2 => ?_, fun b hb => ?_⟩
  · rw [upd_same, List.map_append]
    rfl
  · rw [List.length_append, List.length_append, x.len]
    rfl
  · have hl := x.len
    by_cases hi : i < as.length
    · rw [List.getElem?_append_left hi] at h1
      rw [List.getElem?_append_left (by omega)] at h2
      rw [upd_ne (x.ne b (List.mem_of_getElem? h1))]
      exact x.row i b r' h1 h2
    · rw [List.getElem?_append_right (by omega)] at h1
      rw [List.getElem?_append_right (by omega)] at h2
      have e : i - as.length = 0 := by
        cases z : i - as.length with
        | zero => rfl
        | succ n =>
          rw [z] at h1
          cases h1
      have e2 : i - rows.length = 0 := by omega
      rw [e] at h1
      rw [e2] at h2
      cases h1
      cases h2
      rw [upd_ne ne]
      exact hp
  · rcases List.mem_append.mp hb with h | h
    · exact x.ne b h
    · rw [List.mem_singleton] at h
      rw [h]
      exact ne
theorem LL.nil {H : Hp} {q : Addr} (h : H q = some (.lst [])) : LL H q [] [] := ⟨h, rfl, (fun i b r h1 => nomatch h1), (fun b hb => nomatch hb)⟩
theorem LL.nlen {H : Hp} {q : Addr} {as : List Addr} {rows : List (List Nat)} (x : LL H q as rows) : (as.map V.ref).length = rows.length := by
  rw [List.length_map, x.len]
/-! ### max of a pair -/
def rMaxP (K : PySem.W.Frag) : List V → Hp → VK → Prop := fun vs H Q => ∃ (a : Addr) (x : Nat × Nat), vs = [V.ref a] ∧ SqT K H a (prV x) ∧ Q (.int (max x.1 x.2 : Nat)) H
theorem cr_maxP {X : Cx} (hc : X.calm = true) (hu : X.A.units + 64 < cLine) : CallR X (.builtin "max") (rMaxP X.K) := by
  intro pins s σ H vs us Q I r h
  obtain ⟨a, x, rfl, hs, q⟩ := h
  obtain ⟨its, rv, hl, _⟩ := I.tuple hs
  rw [Vals.ref1 r]
  obtain ⟨u, v, rfl, ⟨t1, rfl⟩, ⟨t2, rfl⟩⟩ := Vals.two rv
  have hr : ReadsAll s.heap [Value.int (x.1 : Int) t1, Value.int (x.2 : Int) t2] [.int (x.1 : Int), .int (x.2 : Int)] _ := ReadsAll.cons (Reads.int _ t1) (ReadsAll.cons (Reads.int _ t2) ReadsAll.nil)
  refine PySem.W.max_tuple_data (I.ok.hd hc) (show s.heap.IsTuple a _ from hl) hr ⟨fun y hy z hz => ?_, fun y hy => ?_⟩ ?_ fun i v h' tk bs hv hrd hk => ?_
  · simp only [List.mem_cons, List.not_mem_nil, or_false] at hy hz
    rcases hy with rfl | rfl <;> rcases hz with rfl | rfl <;> rfl
  · simp only [List.mem_cons, List.not_mem_nil, or_false] at hy
    rcases hy with rfl | rfl <;> exact fun z => nomatch z
  · simp only [PyData.depthAll, PyData.depth]
    omega
  · have e := PySem.W.maxD_ints (x.1 : Int) [(x.2 : Int)]
    rw [show [PyData.int (x.2 : Int)] = [(x.2 : Int)].map PyData.int from rfl, e] at hrd
    have ev : ∃ t, v = .int (max (x.1 : Int) (x.2 : Int)) t := by
      have hrd' : Reads h' v (.int (max (x.1 : Int) (x.2 : Int))) bs := hrd
      cases hrd' with
      | int _ t => exact ⟨t, rfl⟩
    obtain ⟨t, rfl⟩ := ev
    refine ⟨.int (max x.1 x.2 : Nat), H, I.kept hk, ⟨t, ?_⟩, q⟩
    congr 1
    omega
end Fw

set_option Elab.async false
set_option linter.all false
set_option maxRecDepth 100000
set_option maxHeartbeats 4000000
namespace Fw
open PySem PySem.Spec PyProof.Rows L2
section
variable {P : Program} {w : World} {K : PySem.W.Frag} {mg : Str → Option Value} {base : Heap} {C CB CD CR : Addr}
/-! ### is_too_near -/
theorem scTN : FnScope ["forest", "plan", "pair", "one", "other"] ["forest", "plan", "pair"] (defScope sTooNear) := ⟨rfl, rfl, rfl, by decide +kernel, rfl, by decide +kernel, by decide +kernel⟩
def spTooNear (K : PySem.W.Frag) (C : Addr) : Sp := fun vs H Q _ => ∃ (a pa ta : Addr) (f : Fe.F) (fp : List Addr) (p : List Nat) (x : Nat × Nat), vs = [.ref a, .ref pa, .ref ta] ∧
  FoAt C H a f fp ∧ SqL K H pa (L p) ∧ SqT K H ta (prV x) ∧ x.1 < p.length ∧ x.2 < p.length ∧ Q (.bl (f.near p x)) H
theorem near_eq (a b ap : Nat) : decide ((if (a : Int) - b < 0 then -((a : Int) - b) else (a : Int) - b) ≤ (ap : Int)) = decide (Fe.far2 a b ≤ ap) := by
  rw [Bool.eq_iff_iff, decide_eq_true_eq, decide_eq_true_eq]
  unfold Fe.far2
  by_cases h : (a : Int) - b < 0
  · rw [if_pos h]
    omega
  · rw [if_neg h]
    omega
theorem pos_eq (a : Nat) : decide ((0 : Int) < (a : Int)) = decide (0 < a) := by
  rw [Bool.eq_iff_iff, decide_eq_true_eq, decide_eq_true_eq]
  omega
theorem has_tooNear (D : Def K mg "is_too_near" sTooNear) (T : Txt K mg C CB CD CR) : Has P w K mg base CX0 1 "is_too_near" ["forest", "plan", "pair"] (spTooNear K C) := by
  obtain ⟨f, fd, F, m⟩ := D
  refine ⟨f, fd, ?_, m, F.kp, F.binds fun _ _ _ _ _ _ us hl => match us, hl with | [_, _, _], _ => rfl⟩
  refine F.ok scTN (fun vs H Q E h => ?_) (fun cdv A outer s H vs Q E hr h => ?_)
  · obtain ⟨_, _, _, _, _, _, _, rfl, _⟩ := h
    rfl
  · refine ⟨_, pss_cons (ps_set (i := 3) scTN.nd rfl (Or.inl rfl) (pe_ix ix_list (pv 1) (pe_ix ix_tup (pv 2) pe_int (fun _ _ => rfl)) (fun _ _ => rfl)))
      (pss_cons (ps_set (i := 4) scTN.nd rfl (Or.inl rfl) (pe_ix ix_list (pv 1) (pe_ix ix_tup (pv 2) pe_int (fun _ _ => rfl)) (fun _ _ => rfl)))
      (pss_one (ps_ret (pe_and (pe_cmpR op_gt (pv 3) pe_int (nomark _)) (pe_and (pe_cmpR op_gt (pv 4) pe_int (nomark _)) (pe_one (pe_cmpR op_le (pe_callB call_abs (by rfl) T.nAbs bAbs (pa_cons (pe_op op_sub (pv 3) (pv 4)) pa_nil)) (pe_fld (pv 0) rfl) (nomark _)))))))), ?_⟩
    obtain ⟨a, pa, ta, f, fp, p, x, rfl, ⟨dx, sA, pA, ss, ps, hF, _⟩, hp, ht, h1, h2, q⟩ := h
    refine ⟨_, rfl, _, rfl, ta, _, _, _, rfl, rfl, ht, atI_nat (j := 0) rfl, pa, _, _, _, rfl, rfl, hp, atI_nat (L_getD h1), ?_⟩
    refine ⟨_, rfl, _, rfl, ta, _, _, _, rfl, rfl, ht, atI_nat (j := 1) rfl, pa, _, _, _, rfl, rfl, hp, atI_nat (L_getD h2), ?_⟩
    unfold Fe.F.near at q
    refine ⟨_, rfl, _, _, rfl, rfl, _, rfl, ?_⟩
    rw [pos_eq]
    cases c1 : decide (0 < p.getD x.1 0) with
    | false =>
      rw [c1, Bool.false_and] at q
      exact iteF q
    | true =>
      rw [c1, Bool.true_and] at q
      refine iteT ?_
      refine ⟨_, rfl, _, _, rfl, rfl, _, rfl, ?_⟩
      rw [pos_eq]
      cases c2 : decide (0 < p.getD x.2 0) with
      | false =>
        rw [c2, Bool.false_and] at q
        exact iteF q
      | true =>
        rw [c2, Bool.true_and] at q
        refine iteT ?_
        refine ⟨_, rfl, _, rfl, _, _, rfl, rfl, _, rfl, _, rfl, a, C, dx, _, _, rfl, hF.ins, T.clF, T.fA, lkApart f sA pA, _, _, rfl, rfl, ?_⟩
        rw [← near_eq] at q
        exact q
/-! ### brought_in -/
theorem take_one {α : Type} {l : List α} {i : Nat} {x : α} (h : l[i]? = some x) : l.take (i + 1) = l.take i ++ [x] := by
  rw [List.take_succ, h]
  rfl
theorem sum_take1 {α : Type} {l : List α} {i : Nat} {x : α} (g : α → Nat) (h : l[i]? = some x) : ((l.take (i + 1)).map g).sum = ((l.take i).map g).sum + g x := by
  rw [take_one h, List.map_append, List.sum_append]
  simp
theorem scBI : FnScope ["forest", "plan", "period", "found", "stand", "own"] ["forest", "plan", "period"] (defScope sBroughtIn) := ⟨rfl, rfl, rfl, by decide +kernel, rfl, by decide +kernel, by decide +kernel⟩
def spBroughtIn (K : PySem.W.Frag) (C : Addr) : Sp := fun vs H Q _ => ∃ (a pa : Addr) (z : Int) (f : Fe.F) (fp : List Addr) (p : List Nat) (t : Nat), vs = [.ref a, .ref pa, .int z] ∧ z = (t : Int) ∧
  FoAt C H a f fp ∧ SqL K H pa (L p) ∧ p.length ≤ f.stands.length ∧ 1 ≤ t ∧ t ≤ f.periods ∧ Fe.Ok f ∧ ∀ H', Same H H' → Q (.int (f.flow p t : Nat)) H'
def bsum (f : Fe.F) (p : List Nat) (t i : Nat) : Nat := ((p.zipIdx.take i).map fun x => if x.1 = t then f.bring x.2 t else 0).sum
theorem bsum_succ {f : Fe.F} {p : List Nat} {t i own : Nat} (h : p[i]? = some own) : bsum f p t (i + 1) = bsum f p t i + if own = t then f.bring i t else 0 := by
  have e : p.zipIdx[i]? = some (own, i) := by
    rw [List.getElem?_zipIdx, h]
    simp
  exact sum_take1 _ e
theorem bsum_all (f : Fe.F) (p : List Nat) (t : Nat) : bsum f p t p.length = f.flow p t := by
  unfold bsum Fe.F.flow
  rw [List.take_of_length_le (by rw [List.length_zipIdx]; exact Nat.le_refl _)]
theorem Same.new {H : Hp} {p : Addr} {o : HO} (h : H p = none) : Same H (upd H p o) := fun b u e => by
  rw [upd_ne (ne_of_none e h)]
  exact e
theorem has_broughtIn (D : Def K mg "brought_in" sBroughtIn) (T : Txt K mg C CB CD CR) : Has P w K mg base CX0 1 "brought_in" ["forest", "plan", "period"] (spBroughtIn K C) := by
  obtain ⟨f, fd, F, m⟩ := D
  refine ⟨f, fd, ?_, m, F.kp, F.binds fun _ _ _ _ _ _ us hl => match us, hl with | [_, _, _], _ => rfl⟩
  refine F.ok scBI (fun vs H Q E h => ?_) (fun cdv A outer s H vs Q E hr h => ?_)
  · obtain ⟨_, _, _, _, _, _, _, rfl, _⟩ := h
    rfl
  · refine ⟨_, pss_cons (ps_set (i := 3) scBI.nd rfl (Or.inl rfl) pe_int)
      (pss_cons (ps_for PassesOwn.never rfl (pi_enum (by rfl) T.nEnum (pa_cons (pv 1) pa_nil)) (pg_tup rfl (pgs_cons (pg_name (i := 4) scBI.nd rfl (Or.inl rfl)) (pgs_cons (pg_name (i := 5) scBI.nd rfl (Or.inl rfl)) pgs_nil)))
        (pss_one (ps_if (pt_cmpR op_eq (pv 5) (pv 2) (nomark _)) (pss_one (ps_set (i := 3) scBI.nd rfl (Or.inl rfl) (pe_op op_add (pv 3) (pe_ix ix_list (pe_ix ix_list (pe_fld (pv 0) rfl) (pv 4) (fun _ _ => rfl)) (pe_op op_sub (pv 2) pe_int) (fun _ _ => rfl))))) pss_nil)))
      (pss_one (ps_ret (pv 3)))), ?_⟩
    obtain ⟨a, pa, z, f, fp, p, t, rfl, rfl, hF, hp, hl, h1, h2, ok, q⟩ := h
    refine ⟨_, rfl, pa, L p, rfl, hp, for_it walk_enum (fun i σ H' => ∃ v4 v5, σ = [some (.ref a), some (.ref pa), some (.int (t : Int)), some (.int (bsum f p t i : Nat)), v4, v5] ∧ Same H H') ⟨none, none, rfl, Same.refl H⟩ (fun i σ H' _ ⟨_, _, _, sm⟩ => sm.seq hp) ?_ ?_⟩
    · rintro i x σ H1 H2 hi ⟨v4, v5, rfl, sm⟩ ⟨TT, x1, y1, rfl, hT, rfl, e1, e2⟩
      cases e1
      obtain ⟨own, e3, rfl⟩ := L_of e2
      have sm2 : Same H (upd H1 TT (.tup [.int (i : Nat), .int (own : Int)])) := sm.trans (Same.new hT)
      refine ⟨TT, _, rfl, SqT.of upd_same, rfl, _, _, rfl, _, _, rfl, rfl, ?_⟩
      refine ⟨_, rfl, _, rfl, rfl, _, rfl, ?_⟩
      have st := bsum_succ (f := f) (t := t) e3
      by_cases c : own = t
      · subst c
        rw [if_pos rfl] at st
        refine if_true_of (decide_eq_true rfl) ?_
        obtain ⟨dx, sA, pA, ss, ps, hI, _⟩ := hF.same sm2
        have hil : i < f.stands.length := by
          rw [L_len] at hi
          omega
        have hs := hI.sn
        obtain ⟨b, hb⟩ : ∃ b, ss[i]? = some b := ⟨_, List.getElem?_eq_getElem (by omega)⟩
        have hbl : f.stands[i]? = some (f.stands[i]'hil) := List.getElem?_eq_getElem _
        have hbL := hI.sl i _ _ hb hbl
        have hbr : f.bring i own = (f.stands[i]'hil).getD (own - 1) 0 := by
          have e : f.stands.getD i [] = f.stands[i]'hil := by
            rw [List.getD_eq_getElem?_getD, hbl]
            rfl
          unfold Fe.F.bring
          rw [e]
        have hlen : own - 1 < (f.stands[i]'hil).length := by
          rw [ok.st _ (List.getElem_mem hil)]
          omega
        refine ⟨_, rfl, _, rfl, a, C, dx, _, _, rfl, hI.ins, T.clF, T.fS, lkStands f sA pA, _, rfl, sA, _, _, _, rfl, rfl, SqL.of hI.st, atI_nat (j := i) (v := .ref b) (by rw [List.getElem?_map, hb] <;> rfl), _, rfl, _, _, rfl, rfl,
          _, _, _, _, rfl, rfl, SqL.of hbL, at_of (j := own - 1) (by omega) (L_getD hlen), _, _, rfl, rfl, ?_⟩
        refine ⟨some (.int (i : Nat)), some (.int (own : Int)), ?_, sm2⟩
        rw [st, hbr]
        rfl
      · rw [if_neg c] at st
        refine if_false_of (decide_eq_false fun e => c (by injection e with e; omega)) ?_
        refine ⟨some (.int (i : Nat)), some (.int (own : Int)), ?_, sm2⟩
        rw [st]
        rfl
    · rintro σ H1 ⟨v4, v5, rfl, sm⟩
      rw [L_len, bsum_all]
      exact ⟨_, rfl, q _ sm⟩
/-! ### all_brought -/
theorem scAB : FnScope ["forest", "plan", "period"] ["forest", "plan"] (defScope sAllBrought) := ⟨rfl, rfl, rfl, by decide +kernel, rfl, by decide +kernel, by decide +kernel⟩
def spAllBrought (K : PySem.W.Frag) (C : Addr) : Sp := fun vs H Q _ => ∃ (a pa : Addr) (f : Fe.F) (fp : List Addr) (p : List Nat), vs = [.ref a, .ref pa] ∧
  FoAt C H a f fp ∧ SqL K H pa (L p) ∧ p.length ≤ f.stands.length ∧ Fe.Ok f ∧ ∀ H' q, Same H H' → H q = none → H' q = some (.lst (L (f.flows p))) → Q (.ref q) H'
theorem flows_get {f : Fe.F} {p : List Nat} {i : Nat} (h : i < f.periods) : (f.flows p)[i]? = some (f.flow p (i + 1)) := by
  unfold Fe.F.flows
  rw [List.getElem?_map, List.getElem?_range h]
  rfl
theorem has_allBrought (D : Def K mg "all_brought" sAllBrought) (T : Txt K mg C CB CD CR) (h1 : Has P w K mg base CX0 1 "brought_in" ["forest", "plan", "period"] (spBroughtIn K C)) :
    Has P w K mg base CX0 2 "all_brought" ["forest", "plan"] (spAllBrought K C) := by
  obtain ⟨f, fd, F, m⟩ := D
  obtain ⟨f1, fd1, G1, m1, k1, b1⟩ := h1
  refine ⟨f, fd, ?_, m, F.kp, F.binds fun _ _ _ _ _ _ us hl => match us, hl with | [_, _], _ => rfl⟩
  refine F.ok scAB (fun vs H Q E h => ?_) (fun cdv A outer s H vs Q E hr h => ?_)
  · obtain ⟨_, _, _, _, _, rfl, _⟩ := h
    rfl
  · refine ⟨_, pss_one (ps_ret (pe_lc (own := [("period", 2)]) (g := gName 2) (tt := tYes) rfl scAB.nd (pi_range2 (by rfl) T.nRange (pa_cons pe_int (pa_cons (pe_op op_add (pe_fld (pv 0) rfl) pe_int) pa_nil)))
      (blkOk_by (own := [("period", 2)]) (N := ["forest", "plan", "period"]) (sc := defScope sAllBrought) (by decide +kernel)) (fun _ _ _ _ _ => pg_name (i := 2) scAB.nd rfl (Or.inl rfl)) (fun _ _ _ _ _ => pts_nil)
      (fun _ _ _ _ _ => pe_call G1 hr rfl m1 k1 b1 .nil pass0 (pa_cons (pv 0) (pa_cons (pv 1) (pa_cons (pv 2) pa_nil)))))), ?_⟩
    obtain ⟨a, pa, f, fp, p, rfl, hF, hp, hl, ok, q⟩ := h
    obtain ⟨dx, sA, pA, ss, ps, hI, _⟩ := id hF
    have p4 := ok.p4
    have len := Fe.flows_len f p
    refine ⟨_, rfl, a, C, dx, _, _, rfl, hI.ins, T.clF, T.fP, lkPeriods f sA pA, _, _, rfl, rfl, 1, _, rfl, ⟨by omega, by omega, by omega, by omega⟩, fun DD hD => ?_⟩
    refine lc_range (fun i H' => Same H H' ∧ H' DD = some (.lst ((L (f.flows p)).take i))) ⟨Same.new hD, upd_same⟩ ?_ ?_
    · rintro i H1 hi ⟨sm, hDD⟩
      have hi' : i < f.periods := by omega
      refine ⟨rfl, ?_⟩
      refine ⟨_, rfl, _, rfl, _, rfl, a, pa, _, f, fp, p, i + 1, rfl, by omega, hF.same sm, sm.seq hp, hl, by omega, by omega, ok, fun H2 sm2 => ?_⟩
      refine ⟨_, sm2 _ _ hDD, ?_, ?_, ?_⟩
      · rw [List.length_take, L_len, len, sizeLine_eq]
        omega
      · exact fun b o e => by
          rw [upd_ne (ne_of_none e hD)]
          exact sm2 _ _ (sm _ _ e)
      · rw [upd_same, take_one (L_get (flows_get hi'))]
    · rintro H1 ⟨sm, hDD⟩
      refine q H1 DD sm hD ?_
      rw [hDD, List.take_of_length_le]
      rw [L_len, len]
      omega
end
end Fw

set_option Elab.async false
set_option linter.all false
set_option maxRecDepth 100000
set_option maxHeartbeats 4000000
namespace Fw
open PySem PySem.Spec PyProof.Rows L2
section
variable {P : Program} {w : World} {K : PySem.W.Frag} {mg : Str → Option Value} {base : Heap} {C CB CD CR : Addr}
/-! ### wrong_pair -/
theorem scWP : FnScope ["forest", "plan", "place", "pair"] ["forest", "plan"] (defScope sWrongPair) := ⟨rfl, rfl, rfl, by decide +kernel, rfl, by decide +kernel, by decide +kernel⟩
def optV : Option Nat → V
  | none => .non
  | some i => .int (i : Nat)
def spWrongPair (K : PySem.W.Frag) (C : Addr) : Sp := fun vs H Q _ => ∃ (a pa : Addr) (f : Fe.F) (fp : List Addr) (p : List Nat), vs = [.ref a, .ref pa] ∧
  FoAt C H a f fp ∧ SqL K H pa (L p) ∧ p.length = f.stands.length ∧ Fe.Ok f ∧ ∀ H', Same H H' → Q (optV (f.wrongPair p)) H'
theorem pair_at {C : Addr} {H : Hp} {a : Addr} {f : Fe.F} {dx sA pA : Addr} {ss ps : List Addr} (h : FoIn C H a f dx sA pA ss ps) {i : Nat} {v : V} (e : (ps.map V.ref)[i]? = some v) : ∃ b x, v = .ref b ∧ f.pairs[i]? = some x ∧ H b = some (.tup (prV x)) := by
  rw [List.getElem?_map] at e
  cases q : ps[i]? with
  | none =>
    rw [q] at e
    cases e
  | some b =>
    rw [q] at e
    have hi : i < ps.length := (List.getElem?_eq_some_iff.mp q).1
    have hn := h.pn
    have hx : f.pairs[i]? = some (f.pairs[i]'(by omega)) := List.getElem?_eq_getElem _
    exact ⟨b, _, (Option.some.inj e).symm, hx, h.pl i b _ q hx⟩
theorem pairs_len {C : Addr} {H : Hp} {a : Addr} {f : Fe.F} {dx sA pA : Addr} {ss ps : List Addr} (h : FoIn C H a f dx sA pA ss ps) : (ps.map V.ref).length = f.pairs.length := by
  rw [List.length_map, h.pn]
theorem has_wrongPair (D : Def K mg "wrong_pair" sWrongPair) (T : Txt K mg C CB CD CR) (h1 : Has P w K mg base CX0 1 "is_too_near" ["forest", "plan", "pair"] (spTooNear K C)) :
    Has P w K mg base CX0 2 "wrong_pair" ["forest", "plan"] (spWrongPair K C) := by
  obtain ⟨f, fd, F, m⟩ := D
  obtain ⟨f1, fd1, G1, m1, k1, b1⟩ := h1
  refine ⟨f, fd, ?_, m, F.kp, F.binds fun _ _ _ _ _ _ us hl => match us, hl with | [_, _], _ => rfl⟩
  refine F.ok scWP (fun vs H Q E h => ?_) (fun cdv A outer s H vs Q E hr h => ?_)
  · obtain ⟨_, _, _, _, _, rfl, _⟩ := h
    rfl
  · refine ⟨_, pss_cons (ps_for PassesOwn.never rfl (pi_enum (by rfl) T.nEnum (pa_cons (pe_fld (pv 0) rfl) pa_nil)) (pg_tup rfl (pgs_cons (pg_name (i := 2) scWP.nd rfl (Or.inl rfl)) (pgs_cons (pg_name (i := 3) scWP.nd rfl (Or.inl rfl)) pgs_nil)))
        (pss_one (ps_if (pt_val (pe_call G1 hr rfl m1 k1 b1 .nil pass0 (pa_cons (pv 0) (pa_cons (pv 1) (pa_cons (pv 3) pa_nil))))) (pss_one (ps_ret (pv 2))) pss_nil)))
      (pss_one (ps_ret pe_non)), ?_⟩
    obtain ⟨a, pa, f, fp, p, rfl, hF, hp, hl, ok, q⟩ := h
    obtain ⟨dx, sA, pA, ss, ps, hI, efp⟩ := id hF
    refine ⟨_, rfl, a, C, dx, _, _, rfl, hI.ins, T.clF, T.fR, lkPairs f sA pA, pA, ps.map V.ref, rfl, SqL.of hI.pr, ?_⟩
    refine for_it walk_enum (fun i σ H' => ∃ v2 v3, σ = [some (.ref a), some (.ref pa), v2, v3] ∧ Same H H' ∧ ∀ j y, j < i → f.pairs[j]? = some y → f.near p y = false) ⟨none, none, rfl, Same.refl H, fun j y hj => absurd hj (Nat.not_lt_zero _)⟩
      (fun i σ H' _ ⟨_, _, _, sm, _⟩ => sm.seq (SqL.of hI.pr)) ?_ ?_
    · rintro i x σ H1 H2 hi ⟨v2, v3, rfl, sm, no⟩ ⟨TT, x1, y1, rfl, hT, rfl, e1, e2⟩
      cases e1
      obtain ⟨b, x, rfl, hx, hb⟩ := pair_at hI e2
      have sm2 : Same H (upd H1 TT (.tup [.int (i : Nat), .ref b])) := sm.trans (Same.new hT)
      have hpr := ok.pr x (List.mem_of_getElem? hx)
      refine ⟨TT, _, rfl, SqT.of upd_same, rfl, _, _, rfl, _, _, rfl, rfl, ?_⟩
      refine ⟨_, rfl, _, rfl, _, rfl, a, pa, b, f, fp, p, x, rfl, hF.same sm2, sm2.seq hp, SqT.of (sm2 _ _ hb), by omega, by omega, _, rfl, ?_⟩
      cases c : f.near p x with
      | true =>
        refine iteT ⟨_, rfl, ?_⟩
        have e : f.wrongPair p = some i := by
          unfold Fe.F.wrongPair
          rw [List.findIdx?_eq_some_iff_getElem]
          obtain ⟨hi', ex⟩ := List.getElem?_eq_some_iff.mp hx
          refine ⟨hi', by rw [ex]; exact c, fun j hj => ?_⟩
          rw [no j _ hj (List.getElem?_eq_getElem (by omega))]
          exact Bool.false_ne_true
        have q' := q _ sm2
        rw [e] at q'
        exact q'
      | false =>
        refine iteF ⟨some (.int (i : Nat)), some (.ref b), rfl, sm2, fun j y hj ey => ?_⟩
        by_cases z : j = i
        · subst z
          rw [hx] at ey
          cases ey
          exact c
        · exact no j y (by omega) ey
    · rintro σ H1 ⟨v2, v3, rfl, sm, no⟩
      have e : f.wrongPair p = none := by
        unfold Fe.F.wrongPair
        rw [List.findIdx?_eq_none_iff]
        intro y hy
        obtain ⟨j, hj, ey⟩ := List.mem_iff_getElem.mp hy
        exact no j y (by rw [pairs_len hI]; exact hj) (by rw [List.getElem?_eq_getElem hj, ey])
      have q' := q _ sm
      rw [e] at q'
      exact q'
/-! ### wrong_with -/
theorem scWW : FnScope ["forest", "plan", "place", "at", "brings"] ["forest", "plan"] (defScope sWrongWith) := ⟨rfl, rfl, rfl, by decide +kernel, rfl, by decide +kernel, by decide +kernel⟩
def spWrongWith (K : PySem.W.Frag) (C : Addr) : Sp := fun vs H Q _ => ∃ (a pa : Addr) (f : Fe.F) (fp : List Addr) (p : List Nat), vs = [.ref a, .ref pa] ∧
  FoAt C H a f fp ∧ SqL K H pa (L p) ∧ p.length = f.stands.length ∧ Fe.Ok f ∧ (f.wrong p = none → ∀ H', Same H H' → Q .non H') ∧
  (∀ x, f.wrong p = some x → ∀ H' t, Same H H' → H' t = some (.tup (prV x)) → Q (.ref t) H')
theorem has_wrongWith (D : Def K mg "wrong_with" sWrongWith) (T : Txt K mg C CB CD CR) (h1 : Has P w K mg base CX0 2 "wrong_pair" ["forest", "plan"] (spWrongPair K C))
    (h2 : Has P w K mg base CX0 2 "all_brought" ["forest", "plan"] (spAllBrought K C)) : Has P w K mg base CX0 3 "wrong_with" ["forest", "plan"] (spWrongWith K C) := by
  obtain ⟨f, fd, F, m⟩ := D
  obtain ⟨f1, fd1, G1, m1, k1, b1⟩ := h1
  obtain ⟨f2, fd2, G2, m2, k2, b2⟩ := h2
  obtain ⟨tk1, cNE⟩ := T.cNE
  obtain ⟨tk2, cTL⟩ := T.cTL
  obtain ⟨tk3, cTM⟩ := T.cTM
  refine ⟨f, fd, ?_, m, F.kp, F.binds fun _ _ _ _ _ _ us hl => match us, hl with | [_, _], _ => rfl⟩
  refine F.ok scWW (fun vs H Q E h => ?_) (fun cdv A outer s H vs Q E hr h => ?_)
  · obtain ⟨_, _, _, _, _, rfl, _⟩ := h
    rfl
  · refine ⟨_, pss_cons (ps_set (i := 2) scWW.nd rfl (Or.inl rfl) (pe_call G1 hr rfl m1 k1 b1 .nil pass0 (pa_cons (pv 0) (pa_cons (pv 1) pa_nil))))
      (pss_cons (ps_if (pt_cmpR op_notN (pv 2) pe_non (nomark _)) (pss_one (ps_ret (pe_tup (pa_cons (pe_glob (v := .int 1) rfl cNE ⟨_, rfl⟩) (pa_cons (pv 2) pa_nil))))) pss_nil)
      (pss_cons (ps_for PassesOwn.never rfl (pi_enum (by rfl) T.nEnum (pa_cons (pe_call G2 hr rfl m2 k2 b2 .nil pass0 (pa_cons (pv 0) (pa_cons (pv 1) pa_nil))) pa_nil)) (pg_tup rfl (pgs_cons (pg_name (i := 3) scWW.nd rfl (Or.inl rfl)) (pgs_cons (pg_name (i := 4) scWW.nd rfl (Or.inl rfl)) pgs_nil)))
        (pss_cons (ps_if (pt_cmpR op_lt (pv 4) (pe_fld (pv 0) rfl) (nomark _)) (pss_one (ps_ret (pe_tup (pa_cons (pe_glob (v := .int 2) rfl cTL ⟨_, rfl⟩) (pa_cons (pe_op op_add (pv 3) pe_int) pa_nil))))) pss_nil)
        (pss_one (ps_if (pt_cmpR op_gt (pv 4) (pe_fld (pv 0) rfl) (nomark _)) (pss_one (ps_ret (pe_tup (pa_cons (pe_glob (v := .int 3) rfl cTM ⟨_, rfl⟩) (pa_cons (pe_op op_add (pv 3) pe_int) pa_nil))))) pss_nil))))
      (pss_one (ps_ret pe_non)))), ?_⟩
    obtain ⟨a, pa, f, fp, p, rfl, hF, hp, hl, ok, qN, qS⟩ := h
    refine ⟨_, rfl, _, rfl, a, pa, f, fp, p, rfl, hF, hp, hl, ok, fun H0 sm0 => ?_⟩
    refine ⟨_, rfl, rfl, _, rfl, ?_⟩
    cases e : f.wrongPair p with
    | some i =>
      have ew : f.wrong p = some (1, i) := by
        unfold Fe.F.wrong
        rw [e]
      refine if_true_of (by rw [decide_eq_false (by intro z; cases z)]; rfl) ?_
      refine ⟨_, rfl, by show 2 ≤ sizeLine; decide, fun t ht => ?_⟩
      exact qS _ ew _ t (sm0.trans (Same.new ht)) upd_same
    | none =>
      have ew : f.wrong p = f.wrongFlow p := by
        unfold Fe.F.wrong
        rw [e]
      refine if_false_of (by rw [show optV none = V.non from rfl, decide_eq_true rfl]; rfl) ?_
      refine ⟨_, rfl, _, rfl, a, pa, f, fp, p, rfl, hF.same sm0, sm0.seq hp, by omega, ok, fun H1 bA sm1 hb hbA => ?_⟩
      have sm01 := sm0.trans sm1
      refine ⟨bA, L (f.flows p), rfl, SqL.of hbA, ?_⟩
      refine for_it walk_enum (fun i σ H' => ∃ v2 v3 v4, σ = [some (.ref a), some (.ref pa), v2, v3, v4] ∧ Same H1 H' ∧ ∀ j, j < i → j < f.periods → f.wrongFlow1 p j = none) ⟨_, _, _, rfl, Same.refl _, fun j hj => absurd hj (Nat.not_lt_zero _)⟩
        (fun i σ H' _ ⟨_, _, _, _, sm, _⟩ => sm.seq (SqL.of hbA)) ?_ ?_
      · rintro i x σ H2 H3 hi ⟨v2, v3, v4, rfl, sm, no⟩ ⟨TT, x1, y1, rfl, hT, rfl, e1, e2⟩
        cases e1
        rw [L_len, Fe.flows_len] at hi
        have e3 := L_get (flows_get (p := p) hi)
        have e2' : (L (f.flows p))[i]? = some y1 := e2
        rw [e3] at e2'
        cases e2'
        have sm2 : Same H1 (upd H2 TT (.tup [.int (i : Nat), .int (f.flow p (i + 1) : Nat)])) := sm.trans (Same.new hT)
        have smA := sm01.trans sm2
        obtain ⟨dx, sA, pA, ss, ps, hI, _⟩ := hF.same smA
        refine ⟨TT, _, rfl, SqT.of upd_same, rfl, _, _, rfl, _, _, rfl, rfl, ?_⟩
        have found : ∀ r, f.wrongFlow1 p i = some r → f.wrong p = some r := fun r hr => by
          rw [ew]
          unfold Fe.F.wrongFlow
          have e5 : List.range f.periods = List.range i ++ i :: (List.range' (i + 1) (f.periods - (i + 1))) := by
            rw [List.range_eq_range', List.range_eq_range', show f.periods = i + (1 + (f.periods - (i + 1))) by omega, ← List.range'_append_1, ← List.range'_append_1]
            simp
            omega
          rw [e5, List.findSome?_append]
          have e6 : (List.range i).findSome? (f.wrongFlow1 p) = none := by
            rw [List.findSome?_eq_none_iff]
            intro j hj
            have := List.mem_range.mp hj
            exact no j this (by omega)
          rw [e6, Option.none_or, List.findSome?_cons, hr]
        refine ⟨_, rfl, _, rfl, a, C, dx, _, _, rfl, hI.ins, T.clF, T.fL, lkLeast f sA pA, _, _, rfl, rfl, _, rfl, ?_⟩
        by_cases c1 : f.flow p (i + 1) < f.least
        · have w1 : f.wrongFlow1 p i = some (2, i + 1) := if_pos c1
          refine if_true_of (decide_eq_true (by omega)) ?_
          refine ⟨_, rfl, _, _, rfl, rfl, by show 2 ≤ sizeLine; decide, fun t ht => ?_⟩
          exact qS _ (found _ w1) _ t (smA.trans (Same.new ht)) upd_same
        · refine if_false_of (decide_eq_false (by omega)) ?_
          refine ⟨_, rfl, _, rfl, a, C, dx, _, _, rfl, hI.ins, T.clF, T.fM, lkMost f sA pA, _, _, rfl, rfl, _, rfl, ?_⟩
          by_cases c2 : f.most < f.flow p (i + 1)
          · have w1 : f.wrongFlow1 p i = some (3, i + 1) := (if_neg c1).trans (if_pos c2)
            refine if_true_of (decide_eq_true (by omega)) ?_
            refine ⟨_, rfl, _, _, rfl, rfl, by show 2 ≤ sizeLine; decide, fun t ht => ?_⟩
            exact qS _ (found _ w1) _ t (smA.trans (Same.new ht)) upd_same
          · have w1 : f.wrongFlow1 p i = none := (if_neg c1).trans (if_neg c2)
            refine if_false_of (decide_eq_false (by omega)) ?_
            refine ⟨_, some (.int (i : Nat)), some (.int (f.flow p (i + 1) : Nat)), rfl, sm2, fun j hj hjp => ?_⟩
            by_cases z : j = i
            · rw [z]
              exact w1
            · exact no j (by omega) hjp
      · rintro σ H2 ⟨v2, v3, v4, rfl, sm, no⟩
        rw [L_len, Fe.flows_len] at no
        refine qN ?_ _ (sm01.trans sm)
        rw [ew]
        unfold Fe.F.wrongFlow
        rw [List.findSome?_eq_none_iff]
        intro j hj
        have := List.mem_range.mp hj
        exact no j this this
end
end Fw

set_option Elab.async false
set_option linter.all false
set_option maxRecDepth 100000
set_option maxHeartbeats 4000000
namespace Fw
open PySem PySem.Spec PyProof.Rows L2
section
variable {P : Program} {w : World} {K : PySem.W.Frag} {mg : Str → Option Value} {base : Heap} {C CB CD CR : Addr}
/-! ### choices -/
theorem scCh : FnScope ["forest", "given", "t", "found", "own"] ["forest", "given", "t"] (defScope sChoices) := ⟨rfl, rfl, rfl, by decide +kernel, rfl, by decide +kernel, by decide +kernel⟩
def spChoices (K : PySem.W.Frag) (C : Addr) : Sp := fun vs H Q _ => ∃ (a ga : Addr) (z : Int) (f : Fe.F) (fp : List Addr) (p : List Nat) (t : Nat), vs = [.ref a, .ref ga, .int z] ∧ z = (t : Int) ∧
  FoAt C H a f fp ∧ SqL K H ga (L p) ∧ t ≤ f.periods ∧ p.length ≤ 6 ∧ Fe.Ok f ∧ ∀ H' q as, Same H H' → LL H' q as (f.choices p t) → Q (.ref q) H'
theorem rg_L (t n : Nat) (h : t ≤ n) : rgV ((t : Int) + 1) ((n : Int) + 1) = L ((List.range (n - t)).map fun k => t + 1 + k) := by
  unfold rgV L Fe.asInts
  rw [List.map_map, List.map_map, show (((n : Int) + 1) - ((t : Int) + 1)).toNat = n - t by omega]
  apply List.map_congr_left
  intro k _
  show V.int ((t : Int) + 1 + (k : Nat)) = V.int ((t + 1 + k : Nat) : Int)
  congr 1
theorem has_choices (D : Def K mg "choices" sChoices) (T : Txt K mg C CB CD CR) : Has P w K mg base CX0 1 "choices" ["forest", "given", "t"] (spChoices K C) := by
  obtain ⟨f, fd, F, m⟩ := D
  refine ⟨f, fd, ?_, m, F.kp, F.binds fun _ _ _ _ _ _ us hl => match us, hl with | [_, _, _], _ => rfl⟩
  refine F.ok scCh (fun vs H Q E h => ?_) (fun cdv A outer s H vs Q E hr h => ?_)
  · obtain ⟨_, _, _, _, _, _, _, rfl, _⟩ := h
    rfl
  · refine ⟨_, pss_cons (ps_set (i := 3) scCh.nd rfl (Or.inl rfl) (pe_lst pa_nil))
      (pss_cons (ps_for PassesOwn.never rfl (pi_list (pv 1)) (pg_name (i := 4) scCh.nd rfl (Or.inl rfl))
        (pss_one (ps_if (pt_chain op_le op_le pe_int (pv 4) (pv 2))
          (pss_one (ps_expr (pe_bm PySem.F.plainAttrs_list PySem.F.slot_list_append PySem.F.type_list_append mt_append (pv 3) (pa_cons (pe_lst (pa_cons (pv 4) pa_nil)) pa_nil))))
          (pss_one (ps_expr (pe_bm PySem.F.plainAttrs_list PySem.F.slot_list_append PySem.F.type_list_append mt_append (pv 3) (pa_cons (pe_op op_cat (pe_lst (pa_cons pe_int pa_nil))
            (pe_listRg rfl (by rfl) T.nList (prg_2 (by rfl) T.nRange (pe_op op_add (pv 2) pe_int) (pe_op op_add (pe_fld (pv 0) rfl) pe_int)))) pa_nil)))))))
      (pss_one (ps_ret (pv 3)))), ?_⟩
    obtain ⟨a, ga, z, f, fp, p, t, rfl, rfl, hF, hp, ht, hl, ok, q⟩ := h
    have p4 := ok.p4
    refine ⟨by show 0 ≤ sizeLine; decide, fun r hr0 => ?_⟩
    refine ⟨_, rfl, ga, rfl, ⟨_, (Same.new hr0).seq hp⟩, for_list (K := K) (a := ga) (xs := L p) (fun i σ H' => ∃ v4 as, σ = [some (.ref a), some (.ref ga), some (.int (t : Int)), some (.ref r), v4] ∧ Same H H' ∧ LL H' r as ((p.take i).map (f.row t)))
      ⟨none, [], rfl, Same.new hr0, LL.nil upd_same⟩ (fun i σ H' _ ⟨_, _, _, sm, _⟩ => sm.seq hp) ?_ ?_⟩
    · rintro i x σ H1 hi ⟨v4, as, rfl, sm, ll⟩
      obtain ⟨own, e3, rfl⟩ := L_of hi
      have hil : i < p.length := (List.getElem?_eq_some_iff.mp e3).1
      have erow : (p.take (i + 1)).map (f.row t) = (p.take i).map (f.row t) ++ [f.row t own] := by
        rw [take_one e3, List.map_append]
        rfl
      have small : (as.map V.ref).length < sizeLine := by
        rw [ll.nlen, List.length_map, List.length_take, sizeLine_eq]
        omega
      -- what is behind an append of a new list
      have fin : ∀ H2 b, Same H1 H2 → H2 b = some (.lst (L (f.row t own))) → b ≠ r → ∃ (l : Addr) (xs : List V) (y : V), V.ref r = .ref l ∧ [V.ref b] = [y] ∧ H2 l = some (.lst xs) ∧ xs.length < sizeLine ∧
          (∃ v4' as', [some (V.ref a), some (V.ref ga), some (V.int (t : Int)), some (V.ref r), some (V.int (own : Int))] = [some (V.ref a), some (V.ref ga), some (V.int (t : Int)), some (V.ref r), v4'] ∧ Same H (upd H2 l (.lst (xs ++ [y]))) ∧ LL (upd H2 l (.lst (xs ++ [y]))) r as' ((p.take (i + 1)).map (f.row t))) := fun H2 b sm2 hb hne => by
        refine ⟨r, as.map V.ref, .ref b, rfl, rfl, sm2 _ _ ll.at_, small, some (.int (own : Int)), as ++ [b], rfl, ?_, ?_⟩
        · intro c o e
          rw [upd_ne (ne_of_none e hr0)]
          exact sm2 _ _ (sm _ _ e)
        · rw [erow]
          exact (ll.same fun c xs e => sm2 _ _ e).push hb hne
      refine ⟨_, rfl, _, _, rfl, rfl, _, rfl, ?_⟩
      by_cases c1 : 1 ≤ own
      · refine if_true_of (decide_eq_true (by omega)) ?_
        refine ⟨_, rfl, _, _, rfl, rfl, _, rfl, ?_⟩
        by_cases c2 : own ≤ t
        · refine if_true_of (decide_eq_true (by omega)) ?_
          refine ⟨_, rfl, Or.inl ⟨rfl, _, SqL.of ll.at_⟩, _, rfl, by show 1 ≤ sizeLine; decide, fun b hb => ?_⟩
          have er : f.row t own = [own] := if_pos ⟨c1, c2⟩
          exact fin _ b (Same.new hb) (by rw [upd_same, er]; rfl) (fun z => by rw [z, ll.at_] at hb; cases hb)
        · refine if_false_of (decide_eq_false (by omega)) ?_
          have er : f.row t own = 0 :: (List.range (f.periods - t)).map fun k => t + 1 + k := if_neg fun z => c2 z.2
          refine ⟨_, rfl, Or.inl ⟨rfl, _, SqL.of ll.at_⟩, by show 1 ≤ sizeLine; decide, fun b1 hb1 => ?_⟩
          obtain ⟨dx, sA, pA, ss, ps, hI, _⟩ := hF.same (sm.trans (Same.new hb1))
          refine ⟨_, rfl, _, _, rfl, rfl, _, rfl, a, C, dx, _, _, rfl, hI.ins, T.clF, T.fP, lkPeriods f sA pA, _, _, rfl, rfl, _, _, rfl, rfl, RgOk.of_le (by omega) (by omega) (by omega) (by omega), fun b2 hb2 => ?_⟩
          rw [rg_L t f.periods ht]
          have ne12 : b1 ≠ b2 := ne_of_none upd_same hb2
          have hlen : ((List.range (f.periods - t)).map fun k => t + 1 + k).length = f.periods - t := by rw [List.length_map, List.length_range]
          refine ⟨b1, b2, [.int 0], L ((List.range (f.periods - t)).map fun k => t + 1 + k), rfl, rfl, by rw [upd_ne ne12, upd_same], upd_same, ?_, fun b3 hb3 => ?_⟩
          · rw [L_len, hlen, sizeLine_eq]
            show 1 + (f.periods - t) ≤ 16777216
            omega
          · have s12 := (Same.new (o := HO.lst [V.int 0]) hb1).trans (Same.new (o := HO.lst (L ((List.range (f.periods - t)).map fun k => t + 1 + k))) hb2)
            exact fin _ b3 (s12.trans (Same.new hb3)) (by rw [upd_same, er]; rfl) (Ne.symm (ne_of_none (s12 _ _ ll.at_) hb3))
      · refine if_false_of (decide_eq_false (by omega)) ?_
        refine ⟨_, rfl, ?_⟩
        have er : f.row t own = 0 :: (List.range (f.periods - t)).map fun k => t + 1 + k := if_neg fun z => c1 z.1
        refine if_false_of rfl ?_
        refine ⟨_, rfl, Or.inl ⟨rfl, _, SqL.of ll.at_⟩, by show 1 ≤ sizeLine; decide, fun b1 hb1 => ?_⟩
        obtain ⟨dx, sA, pA, ss, ps, hI, _⟩ := hF.same (sm.trans (Same.new hb1))
        refine ⟨_, rfl, _, _, rfl, rfl, _, rfl, a, C, dx, _, _, rfl, hI.ins, T.clF, T.fP, lkPeriods f sA pA, _, _, rfl, rfl, _, _, rfl, rfl, RgOk.of_le (by omega) (by omega) (by omega) (by omega), fun b2 hb2 => ?_⟩
        rw [rg_L t f.periods ht]
        have ne12 : b1 ≠ b2 := ne_of_none upd_same hb2
        have hlen : ((List.range (f.periods - t)).map fun k => t + 1 + k).length = f.periods - t := by rw [List.length_map, List.length_range]
        refine ⟨b1, b2, [.int 0], L ((List.range (f.periods - t)).map fun k => t + 1 + k), rfl, rfl, by rw [upd_ne ne12, upd_same], upd_same, ?_, fun b3 hb3 => ?_⟩
        · rw [L_len, hlen, sizeLine_eq]
          show 1 + (f.periods - t) ≤ 16777216
          omega
        · have s12 := (Same.new (o := HO.lst [V.int 0]) hb1).trans (Same.new (o := HO.lst (L ((List.range (f.periods - t)).map fun k => t + 1 + k))) hb2)
          exact fin _ b3 (s12.trans (Same.new hb3)) (by rw [upd_same, er]; rfl) (Ne.symm (ne_of_none (s12 _ _ ll.at_) hb3))
    · rintro σ H1 ⟨v4, as, rfl, sm, ll⟩
      rw [L_len, List.take_length] at ll
      exact ⟨_, rfl, q _ r as sm ll⟩
/-! ### fits -/
theorem scFi : FnScope ["forest", "plan", "last", "pair"] ["forest", "plan"] (defScope sFits) := ⟨rfl, rfl, rfl, by decide +kernel, rfl, by decide +kernel, by decide +kernel⟩
def spFits (K : PySem.W.Frag) (C : Addr) : Sp := fun vs H Q _ => ∃ (a pa : Addr) (f : Fe.F) (fp : List Addr) (p : List Nat), vs = [.ref a, .ref pa] ∧
  FoAt C H a f fp ∧ SqL K H pa (L p) ∧ 1 ≤ p.length ∧ p.length ≤ f.stands.length ∧ Fe.Ok f ∧ ∀ H', Same H H' → Q (.bl (f.fits p)) H'
theorem all_le_max {l : List Nat} {m : Int} (bound : Nat) (h1 : m ∈ (0 : Int) :: Fe.asInts l) (h2 : ∀ y ∈ (0 : Int) :: Fe.asInts l, y ≤ m) : decide (m ≤ (bound : Int)) = l.all fun v => decide (v ≤ bound) := by
  rw [Bool.eq_iff_iff, decide_eq_true_eq, List.all_eq_true]
  constructor
  · intro h v hv
    have := h2 (v : Int) (List.mem_cons_of_mem _ (List.mem_map_of_mem hv))
    exact decide_eq_true (by omega)
  · intro h
    rcases List.mem_cons.mp h1 with e | e
    · rw [e]
      exact Int.natCast_nonneg _
    · obtain ⟨v, hv, e⟩ := List.mem_map.mp e
      have := of_decide_eq_true (h v hv)
      rw [← e]
      omega
theorem has_fits (D : Def K mg "fits" sFits) (T : Txt K mg C CB CD CR) (h1 : Has P w K mg base CX0 1 "is_too_near" ["forest", "plan", "pair"] (spTooNear K C))
    (h2 : Has P w K mg base CX0 2 "all_brought" ["forest", "plan"] (spAllBrought K C)) : Has P w K mg base CX0 3 "fits" ["forest", "plan"] (spFits K C) := by
  obtain ⟨f, fd, F, m⟩ := D
  obtain ⟨f1, fd1, G1, m1, k1, b1⟩ := h1
  obtain ⟨f2, fd2, G2, m2, k2, b2⟩ := h2
  refine ⟨f, fd, ?_, m, F.kp, F.binds fun _ _ _ _ _ _ us hl => match us, hl with | [_, _], _ => rfl⟩
  refine F.ok scFi (fun vs H Q E h => ?_) (fun cdv A outer s H vs Q E hr h => ?_)
  · obtain ⟨_, _, _, _, _, rfl, _⟩ := h
    rfl
  · have hr1 : Room 1 _ := hr.mono (by decide)
    refine ⟨_, pss_cons (ps_set (i := 2) scFi.nd rfl (Or.inl rfl) (pe_op op_sub (pe_callB call_len_seq (by rfl) T.nLen bLen (pa_cons (pv 1) pa_nil)) pe_int))
      (pss_cons (ps_for PassesOwn.never rfl (pi_list (pe_fld (pv 0) rfl)) (pg_name (i := 3) scFi.nd rfl (Or.inl rfl))
        (pss_one (ps_if (PW.pt (pw_and (pt_cmpR op_eq (pe_callB (cr_maxP rfl hr.units) (by rfl) T.nMax bMax (pa_cons (pv 3) pa_nil)) (pv 2) (nomark _)) (pw_and1 (pt_val (pe_call G1 hr1 rfl m1 k1 b1 .nil pass0 (pa_cons (pv 0) (pa_cons (pv 1) (pa_cons (pv 3) pa_nil))))))))
          (pss_one (ps_ret pe_bl)) pss_nil)))
      (pss_one (ps_ret (pe_cmpR op_le (pe_callB (cr_max rfl) (by rfl) T.nMax bMax (pa_cons (pe_op op_cat (pe_lst (pa_cons pe_int pa_nil)) (pe_call G2 hr rfl m2 k2 b2 .nil pass0 (pa_cons (pv 0) (pa_cons (pv 1) pa_nil)))) pa_nil)) (pe_fld (pv 0) rfl) (nomark _))))), ?_⟩
    obtain ⟨a, pa, f, fp, p, rfl, hF, hp, h1, hl, ok, q⟩ := h
    obtain ⟨dx, sA, pA, ss, ps, hI, efp⟩ := id hF
    have p4 := ok.p4
    have p1 := ok.p1
    refine ⟨_, rfl, pa, _, rfl, .inl hp, _, _, rfl, rfl, ?_⟩
    rw [L_len]
    refine ⟨_, rfl, a, C, dx, _, _, rfl, hI.ins, T.clF, T.fR, lkPairs f sA pA, pA, rfl, ⟨_, SqL.of hI.pr⟩, ?_⟩
    refine for_list (K := K) (a := pA) (xs := ps.map V.ref) (fun i σ H' => ∃ v3, σ = [some (.ref a), some (.ref pa), some (.int ((p.length : Int) - 1)), v3] ∧ H' = H ∧ ∀ j y, j < i → f.pairs[j]? = some y → f.fitP p y = false) ⟨_, rfl, rfl, fun j y hj => absurd hj (Nat.not_lt_zero _)⟩
      (fun i σ H' _ ⟨_, _, e, _⟩ => by rw [e]; exact SqL.of hI.pr) ?_ ?_
    · rintro i x σ H1 hi ⟨v3, rfl, rfl, no⟩
      obtain ⟨b, y, rfl, hy, hb⟩ := pair_at hI hi
      have hpr := ok.pr y (List.mem_of_getElem? hy)
      refine ⟨_, rfl, b, y, rfl, SqT.of hb, _, rfl, rfl, _, rfl, ?_⟩
      have next : f.fitP p y = false → ∃ v3, [some (V.ref a), some (V.ref pa), some (V.int ((p.length : Int) - 1)), some (V.ref b)] = [some (V.ref a), some (V.ref pa), some (V.int ((p.length : Int) - 1)), v3] ∧ H1 = H1 ∧ ∀ j y, j < i + 1 → f.pairs[j]? = some y → f.fitP p y = false := fun e => by
        refine ⟨_, rfl, rfl, fun j z hj ez => ?_⟩
        by_cases zz : j = i
        · subst zz
          rw [hy] at ez
          cases ez
          exact e
        · exact no j z (by omega) ez
      by_cases c1 : max y.1 y.2 + 1 = p.length
      · refine if_true_of (decide_eq_true (by congr 1; omega)) ?_
        refine ⟨_, rfl, _, rfl, _, rfl, a, pa, b, f, fp, p, y, rfl, hF, hp, SqT.of hb, by omega, by omega, _, rfl, ?_⟩
        cases c2 : f.near p y with
        | true =>
          have e : f.fits p = false := by
            unfold Fe.F.fits
            have e2 : (f.pairs.all fun x => !f.fitP p x) = false := by
              rw [List.all_eq_false]
              refine ⟨y, List.mem_of_getElem? hy, ?_⟩
              unfold Fe.F.fitP
              rw [c2, decide_eq_true c1]
              decide
            rw [e2, Bool.false_and]
          have q' := q _ (Same.refl _)
          rw [e] at q'
          exact q'
        | false =>
          refine next ?_
          unfold Fe.F.fitP
          rw [c2, Bool.and_false]
      · refine if_false_of (decide_eq_false fun z => c1 (by injection z with z; omega)) ?_
        refine next ?_
        unfold Fe.F.fitP
        rw [decide_eq_false c1, Bool.false_and]
    · rintro σ H1 ⟨v3, rfl, rfl, no⟩
      have e1 : (f.pairs.all fun x => !f.fitP p x) = true := by
        rw [List.all_eq_true]
        intro y hy
        obtain ⟨j, hj, ey⟩ := List.mem_iff_getElem.mp hy
        rw [no j y (by rw [pairs_len hI]; exact hj) (by rw [List.getElem?_eq_getElem hj, ey])]
        rfl
      refine ⟨by show 1 ≤ sizeLine; decide, fun b1 hb1 => ?_⟩
      have s1 := Same.new (o := HO.lst [V.int 0]) hb1
      refine ⟨_, rfl, _, rfl, a, pa, f, fp, p, rfl, hF.same s1, s1.seq hp, hl, ok, fun H2 b2 s2 hb2 hb2A => ?_⟩
      have hlen := Fe.flows_len f p
      refine ⟨b1, b2, [.int 0], L (f.flows p), rfl, rfl, s2 _ _ upd_same, hb2A, ?_, fun b3 hb3 => ?_⟩
      · rw [L_len, hlen, sizeLine_eq]
        show 1 + f.periods ≤ 16777216
        omega
      · refine ⟨b3, (0 : Int) :: Fe.asInts (f.flows p), rfl, SqL.of (by rw [upd_same]; rfl), by simp, fun mm hm1 hm2 => ?_⟩
        have sA' := (s1.trans s2).trans (Same.new (o := HO.lst ([V.int 0] ++ L (f.flows p))) hb3)
        obtain ⟨dx, sA, pA, ss, ps, hI', _⟩ := hF.same sA'
        refine ⟨_, rfl, a, C, dx, _, _, rfl, hI'.ins, T.clF, T.fM, lkMost f sA pA, _, _, rfl, rfl, ?_⟩
        have q' := q _ sA'
        unfold Fe.F.fits at q'
        rw [e1, Bool.true_and, ← all_le_max f.most hm1 hm2] at q'
        exact q'
end
end Fw

set_option Elab.async false
set_option linter.all false
set_option maxRecDepth 100000
set_option maxHeartbeats 4000000
namespace Fw
open PySem PySem.Spec PyProof.Rows L2
/-! ### how many plans there are -/
theorem flat_len {α β : Type} (g : α → List β) (n : Nat) : ∀ l : List α, (∀ x ∈ l, (g x).length ≤ n) → (l.flatMap g).length ≤ l.length * n
  | [], _ => by simp
  | a :: l, h => by
    have ih := flat_len g n l fun x hx => h x (List.mem_cons_of_mem _ hx)
    have ha := h a List.mem_cons_self
    rw [List.flatMap_cons, List.length_append, List.length_cons, Nat.succ_mul]
    omega
theorem grow1_len (f : Fe.F) (p row : List Nat) : (f.grow1 p row).length ≤ row.length := by
  unfold Fe.F.grow1
  exact Nat.le_trans (List.length_filter_le _ _) (by rw [List.length_map]; exact Nat.le_refl _)
theorem grow_len (f : Fe.F) (found : List (List Nat)) (row : List Nat) : (f.grow found row).length ≤ found.length * row.length :=
  flat_len _ _ _ fun p _ => grow1_len f p row
theorem fold_len (f : Fe.F) : ∀ (rows found : List (List Nat)), (∀ r ∈ rows, r.length ≤ 5) → (rows.foldl f.grow found).length ≤ found.length * 5 ^ rows.length
  | [], found, _ => by simp
  | r :: rs, found, h => by
    have ih := fold_len f rs (f.grow found r) fun x hx => h x (List.mem_cons_of_mem _ hx)
    have g := grow_len f found r
    have hr := h r List.mem_cons_self
    rw [List.foldl_cons, List.length_cons, Nat.pow_succ]
    refine Nat.le_trans ih ?_
    have e : found.length * (5 ^ rs.length * 5) = (found.length * 5) * 5 ^ rs.length := by
      rw [Nat.mul_comm (5 ^ rs.length) 5, Nat.mul_assoc]
    rw [e]
    exact Nat.mul_le_mul_right _ (Nat.le_trans g (Nat.mul_le_mul_left _ hr))
theorem grow_each {f : Fe.F} {found : List (List Nat)} {row : List Nat} {n : Nat} (h : ∀ p ∈ found, p.length = n) : ∀ p ∈ f.grow found row, p.length = n + 1 := by
  intro p hp
  unfold Fe.F.grow at hp
  rw [List.mem_flatMap] at hp
  obtain ⟨q, hq, hp⟩ := hp
  unfold Fe.F.grow1 at hp
  obtain ⟨o, _, e⟩ := List.mem_map.mp (List.mem_filter.mp hp).1
  rw [← e, List.length_append, h q hq]
  rfl
theorem fold_each (f : Fe.F) : ∀ (rows found : List (List Nat)) (n : Nat), (∀ p ∈ found, p.length = n) → ∀ p ∈ rows.foldl f.grow found, p.length = n + rows.length
  | [], found, n, h => h
  | r :: rs, found, n, h => by
    intro p hp
    have ih := fold_each f rs (f.grow found r) (n + 1) (grow_each h) p hp
    rw [List.length_cons]
    omega
def upto (f : Fe.F) (rows : List (List Nat)) (i : Nat) : List (List Nat) := (rows.take i).foldl f.grow [[]]
theorem upto_succ {f : Fe.F} {rows : List (List Nat)} {i : Nat} {r : List Nat} (h : rows[i]? = some r) : upto f rows (i + 1) = f.grow (upto f rows i) r := by
  unfold upto
  rw [take_one h, List.foldl_append]
  rfl
theorem upto_len {f : Fe.F} {rows : List (List Nat)} {i : Nat} (h : ∀ r ∈ rows, r.length ≤ 5) (hi : i ≤ 6) : (upto f rows i).length ≤ 15625 := by
  have q := fold_len f (rows.take i) [[]] fun r hr => h r (List.mem_of_mem_take hr)
  have l : (rows.take i).length ≤ 6 := by
    rw [List.length_take]
    omega
  have z : 5 ^ (rows.take i).length ≤ 5 ^ 6 := Nat.pow_le_pow_right (by decide) l
  have e : ([[]] : List (List Nat)).length = 1 := rfl
  rw [e, Nat.one_mul] at q
  exact Nat.le_trans q z
theorem upto_each {f : Fe.F} {rows : List (List Nat)} {i : Nat} (hi : i ≤ rows.length) : ∀ p ∈ upto f rows i, p.length = i := by
  intro p hp
  have q := fold_each f (rows.take i) [[]] 0 (fun p hp => by rw [List.mem_singleton] at hp; rw [hp]; rfl) p hp
  rw [q, List.length_take]
  omega
theorem upto_all (f : Fe.F) (rows : List (List Nat)) : upto f rows rows.length = f.allPlans rows := by
  unfold upto Fe.F.allPlans
  rw [List.take_length]
def part (f : Fe.F) (found : List (List Nat)) (row : List Nat) (j : Nat) : List (List Nat) := (found.take j).flatMap fun p => f.grow1 p row
def part1 (f : Fe.F) (p row : List Nat) (k : Nat) : List (List Nat) := ((row.take k).map fun o => p ++ [o]).filter f.fits
theorem part_succ {f : Fe.F} {found : List (List Nat)} {row p : List Nat} {j : Nat} (h : found[j]? = some p) : part f found row (j + 1) = part f found row j ++ part1 f p row row.length := by
  unfold part part1
  rw [take_one h, List.flatMap_append, List.take_length]
  simp [Fe.F.grow1]
theorem part1_succ {f : Fe.F} {p row : List Nat} {k o : Nat} (h : row[k]? = some o) : part1 f p row (k + 1) = part1 f p row k ++ if f.fits (p ++ [o]) = true then [p ++ [o]] else [] := by
  unfold part1
  rw [take_one h, List.map_append, List.filter_append]
  congr 1
  show [p ++ [o]].filter f.fits = _
  by_cases c : f.fits (p ++ [o]) = true
  · rw [if_pos c, List.filter_cons_of_pos c]
    rfl
  · rw [if_neg c, List.filter_cons_of_neg c]
    rfl
theorem part_len (f : Fe.F) (found : List (List Nat)) (row : List Nat) (j : Nat) (h : row.length ≤ 5) : (part f found row j).length ≤ found.length * 5 := by
  have q := flat_len (fun p => f.grow1 p row) 5 (found.take j) fun p _ => Nat.le_trans (grow1_len f p row) h
  have l : (found.take j).length ≤ found.length := by
    rw [List.length_take]
    omega
  exact Nat.le_trans q (Nat.mul_le_mul_right _ l)
theorem part1_len (f : Fe.F) (p row : List Nat) (k : Nat) (h : row.length ≤ 5) : (part1 f p row k).length ≤ 5 := by
  unfold part1
  refine Nat.le_trans (List.length_filter_le _ _) ?_
  rw [List.length_map, List.length_take]
  omega
section
variable {P : Program} {w : World} {K : PySem.W.Frag} {mg : Str → Option Value} {base : Heap} {C CB CD CR : Addr}
/-! ### all_plans -/
theorem scAP : FnScope ["forest", "some", "found", "row", "longer", "plan", "own"] ["forest", "some"] (defScope sAllPlans) := ⟨rfl, rfl, rfl, by decide +kernel, rfl, by decide +kernel, by decide +kernel⟩
def spAllPlans (K : PySem.W.Frag) (C : Addr) : Sp := fun vs H Q _ => ∃ (a sa : Addr) (f : Fe.F) (fp : List Addr) (ra : List Addr) (rows : List (List Nat)), vs = [.ref a, .ref sa] ∧
  FoAt C H a f fp ∧ LL H sa ra rows ∧ rows.length = f.stands.length ∧ (∀ r ∈ rows, r.length ≤ 5) ∧ Fe.Ok f ∧ ∀ H' q as, Same H H' → LL H' q as (f.allPlans rows) → Q (.ref q) H'
theorem has_allPlans (D : Def K mg "all_plans" sAllPlans) (T : Txt K mg C CB CD CR) (h1 : Has P w K mg base CX0 3 "fits" ["forest", "plan"] (spFits K C)) :
    Has P w K mg base CX0 4 "all_plans" ["forest", "some"] (spAllPlans K C) := by
  obtain ⟨f, fd, F, m⟩ := D
  obtain ⟨f1, fd1, G1, m1, k1, b1⟩ := h1
  refine ⟨f, fd, ?_, m, F.kp, F.binds fun _ _ _ _ _ _ us hl => match us, hl with | [_, _], _ => rfl⟩
  refine F.ok scAP (fun vs H Q E h => ?_) (fun cdv A outer s H vs Q E hr h => ?_)
  · obtain ⟨_, _, _, _, _, _, rfl, _⟩ := h
    rfl
  · refine ⟨_, pss_cons (ps_set (i := 2) scAP.nd rfl (Or.inl rfl) (pe_lst (pa_cons (pe_lst pa_nil) pa_nil)))
      (pss_cons (ps_for PassesOwn.never rfl (pi_list (pv 1)) (pg_name (i := 3) scAP.nd rfl (Or.inl rfl))
        (pss_cons (ps_set (i := 4) scAP.nd rfl (Or.inl rfl) (pe_lst pa_nil))
        (pss_cons (ps_for PassesOwn.never rfl (pi_list (pv 2)) (pg_name (i := 5) scAP.nd rfl (Or.inl rfl))
          (pss_one (ps_for PassesOwn.never rfl (pi_list (pv 3)) (pg_name (i := 6) scAP.nd rfl (Or.inl rfl))
            (pss_one (ps_if (pt_val (pe_call G1 hr rfl m1 k1 b1 .nil pass0 (pa_cons (pv 0) (pa_cons (pe_op op_cat (pv 5) (pe_lst (pa_cons (pv 6) pa_nil))) pa_nil))))
              (pss_one (ps_expr (pe_bm PySem.F.plainAttrs_list PySem.F.slot_list_append PySem.F.type_list_append mt_append (pv 4) (pa_cons (pe_op op_cat (pv 5) (pe_lst (pa_cons (pv 6) pa_nil))) pa_nil)))) pss_nil)))))
        (pss_one (ps_set (i := 2) scAP.nd rfl (Or.inl rfl) (pv 4))))))
      (pss_one (ps_ret (pv 2)))), ?_⟩
    obtain ⟨a, sa, f, fp, ra, rows, rfl, hF, hll, hn, h5, ok, q⟩ := h
    have s6 := ok.s6
    refine ⟨by show 0 ≤ sizeLine; decide, fun z0 hz0 => ⟨by show 1 ≤ sizeLine; decide, fun q0 hq0 => ?_⟩⟩
    have ne0 : z0 ≠ q0 := ne_of_none upd_same hq0
    have sm0 : Same H (upd (upd H z0 (.lst [])) q0 (.lst [.ref z0])) := (Same.new hz0).trans (Same.new hq0)
    have ll0 : LL (upd (upd H z0 (.lst [])) q0 (.lst [.ref z0])) q0 [z0] [[]] := by
      refine ⟨upd_same, rfl, fun i b r h1 h2 => ?_, fun b hb => ?_⟩
      · match i, h1, h2 with
        | 0, h1, h2 =>
          cases h1
          cases h2
          rw [upd_ne ne0, upd_same]
          rfl
      · rw [List.mem_singleton] at hb
        rw [hb]
        exact ne0
    refine ⟨_, rfl, sa, rfl, ⟨_, sm0.seq (SqL.of hll.at_)⟩, for_list (K := K) (a := sa) (xs := ra.map V.ref) (fun i σ H' => ∃ q as v3 v4 v5 v6, σ = [some (.ref a), some (.ref sa), some (.ref q), v3, v4, v5, v6] ∧ Same H H' ∧ LL H' q as (upto f rows i))
      ⟨q0, [z0], _, _, _, _, rfl, sm0, ll0⟩ (fun i σ H' _ ⟨_, _, _, _, _, _, _, sm, _⟩ => sm.seq (SqL.of hll.at_)) ?_ ?_⟩
    · rintro i x σ H1 hi ⟨qa, as, v3, v4, v5, v6, rfl, sm, ll⟩
      obtain ⟨b0, row, rfl, _, hrow, hb0⟩ := hll.get hi
      have hb0' := sm _ _ hb0
      have hi6 : i < rows.length := (List.getElem?_eq_some_iff.mp hrow).1
      have hrow5 := h5 row (List.mem_of_getElem? hrow)
      have many := upto_len (f := f) (i := i) h5 (by omega)
      have each := upto_each (f := f) (rows := rows) (i := i) (by omega)
      refine ⟨by show 0 ≤ sizeLine; decide, fun r hr1 => ?_⟩
      refine ⟨_, rfl, qa, rfl, ⟨_, (Same.new hr1).seq (SqL.of ll.at_)⟩, for_list (K := K) (a := qa) (xs := as.map V.ref) (fun j σ H' => ∃ bs v5 v6, σ = [some (.ref a), some (.ref sa), some (.ref qa), some (.ref b0), some (.ref r), v5, v6] ∧ Same H1 H' ∧ LL H' r bs (part f (upto f rows i) row j))
        ⟨[], _, _, rfl, Same.new hr1, LL.nil upd_same⟩ (fun j σ H' _ ⟨_, _, _, _, sm, _⟩ => sm.seq (SqL.of ll.at_)) ?_ ?_⟩
      · rintro j x σ H2 hj ⟨bs, v5', v6', rfl, sm2, ll2⟩
        obtain ⟨pb, p, rfl, _, hpj, hpb⟩ := ll.get hj
        have hp := each p (List.mem_of_getElem? hpj)
        refine ⟨_, rfl, b0, rfl, ⟨_, sm2.seq (SqL.of hb0')⟩, for_list (K := K) (a := b0) (xs := L row) (fun k σ H' => ∃ bs v6, σ = [some (.ref a), some (.ref sa), some (.ref qa), some (.ref b0), some (.ref r), some (.ref pb), v6] ∧ Same H1 H' ∧ LL H' r bs (part f (upto f rows i) row j ++ part1 f p row k))
          ⟨bs, _, rfl, sm2, by rw [show part1 f p row 0 = [] from rfl, List.append_nil]; exact ll2⟩ (fun k σ H' _ ⟨_, _, _, sm, _⟩ => sm.seq (SqL.of hb0')) ?_ ?_⟩
        · rintro k x σ H3 hk ⟨cs, v6'', rfl, sm3, ll3⟩
          obtain ⟨own, hown, rfl⟩ := L_of hk
          have hpb3 := sm3 _ _ hpb
          have p1 := part1_succ (f := f) (p := p) hown
          have small : (cs.map V.ref).length < sizeLine := by
            have l1 := part_len f (upto f rows i) row j hrow5
            have l2 := part1_len f p row k hrow5
            rw [ll3.nlen, List.length_append, sizeLine_eq]
            omega
          have psmall : (L p).length + 1 ≤ sizeLine := by
            rw [L_len, sizeLine_eq]
            omega
          refine ⟨_, rfl, _, rfl, _, rfl, by show 1 ≤ sizeLine; decide, fun c hc => ?_⟩
          have sc := Same.new (o := HO.lst [V.int (own : Int)]) hc
          refine ⟨pb, c, L p, [.int (own : Int)], rfl, rfl, sc _ _ hpb3, upd_same, psmall, fun d hd => ?_⟩
          have sd := sc.trans (Same.new (o := HO.lst (L p ++ [V.int (own : Int)])) hd)
          refine ⟨a, d, f, fp, p ++ [own], rfl, hF.same ((sm.trans sm3).trans sd), SqL.of (by rw [upd_same, L_append]; rfl), by rw [List.length_append]; exact Nat.le_add_left _ _, ?_, ok, fun H4 sm4 => ?_⟩
          · rw [List.length_append]
            show p.length + 1 ≤ _
            omega
          · have s4 := sd.trans sm4
            refine ⟨_, rfl, ?_⟩
            cases c1 : f.fits (p ++ [own]) with
            | true =>
              rw [if_pos c1] at p1
              refine iteT ?_
              refine ⟨_, rfl, Or.inl ⟨rfl, _, SqL.of (s4 _ _ ll3.at_)⟩, _, rfl, _, rfl, by show 1 ≤ sizeLine; decide, fun c' hc' => ?_⟩
              have sc' := Same.new (o := HO.lst [V.int (own : Int)]) hc'
              refine ⟨pb, c', L p, [.int (own : Int)], rfl, rfl, sc' _ _ (s4 _ _ hpb3), upd_same, psmall, fun d' hd' => ?_⟩
              have s5 := (s4.trans sc').trans (Same.new (o := HO.lst (L p ++ [V.int (own : Int)])) hd')
              refine ⟨r, cs.map V.ref, .ref d', rfl, rfl, s5 _ _ ll3.at_, small, cs ++ [d'], _, rfl, ?_, ?_⟩
              · intro b o e
                rw [upd_ne (ne_of_none e hr1)]
                exact s5 _ _ (sm3 _ _ e)
              · rw [p1, ← List.append_assoc]
                exact (ll3.same fun b xs e => s5 _ _ e).push (by rw [upd_same, L_append]; rfl) (Ne.symm (ne_of_none ((s4.trans sc') _ _ ll3.at_) hd'))
            | false =>
              rw [if_neg (by rw [c1]; exact Bool.false_ne_true), List.append_nil] at p1
              refine iteF ⟨cs, _, rfl, sm3.trans s4, ?_⟩
              rw [p1]
              exact ll3.same fun b xs e => s4 _ _ e
        · rintro σ H3 ⟨cs, v6'', rfl, sm3, ll3⟩
          rw [L_len] at ll3
          refine ⟨cs, _, _, rfl, sm3, ?_⟩
          rw [part_succ hpj]
          exact ll3
      · rintro σ H2 ⟨bs, v5', v6', rfl, sm2, ll2⟩
        rw [ll.nlen] at ll2
        refine ⟨_, rfl, r, bs, _, _, _, _, rfl, sm.trans sm2, ?_⟩
        rw [upto_succ hrow]
        unfold part at ll2
        rw [List.take_length] at ll2
        exact ll2
    · rintro σ H1 ⟨qa, as, v3, v4, v5, v6, rfl, sm, ll⟩
      rw [hll.nlen, upto_all] at ll
      exact ⟨_, rfl, q _ qa as sm ll⟩
end
end Fw

set_option Elab.async false
set_option linter.all false
set_option maxRecDepth 100000
set_option maxHeartbeats 4000000
namespace Fw
open PySem PySem.Spec PyProof.Rows L2
theorem put_small {fs : List (Str × V)} {f : Str} {v : V} {k : Nat} (h : fs.length ≤ k) : (putF f v fs).length ≤ k + 1 := Nat.le_trans (length_putF f v fs) (Nat.succ_le_succ h)
theorem p0 : ([] : List (Str × V)).length ≤ 0 := Nat.le_refl 0
/-- an __init__ of the text -/
def DefI (K : PySem.W.Frag) (C : Addr) (q : Str) (st : Stmt) : Prop := ∃ (f : Addr) (fd : FuncData), Fun K "__init__" q st f fd ∧ Mk K C f
def HasI (P : Program) (w : World) (K : PySem.W.Frag) (mg : Str → Option Value) (base : Heap) (C : Addr) (k : Nat) (ps : List Str) (sp : Sp) : Prop :=
  ∃ (f : Addr) (fd : FuncData), FnOk P w K mg base CX0 k f fd ps sp ∧ Mk K C f ∧ Binds K fd ps []
def DeskAt (CD C : Addr) (H : Hp) (d : Addr) (f : Fe.F) (fp : List Addr) : Prop := ∃ dx a fp', H d = some (.ins CD dx [("forest", .ref a)]) ∧ FoAt C H a f fp' ∧ fp = d :: fp'
section
variable {P : Program} {w : World} {K : PySem.W.Frag} {mg : Str → Option Value} {base : Heap} {C CB CD CR : Addr}
/-! ### Forest.__init__ -/
theorem scFI : FnScope ["self", "periods", "apart", "least", "most"] ["self", "periods", "apart", "least", "most"] (defScope sForestI) := ⟨rfl, rfl, rfl, by decide +kernel, rfl, by decide +kernel, by decide +kernel⟩
def spForestI (C : Addr) : Sp := fun vs H Q _ => ∃ (p dx : Addr) (z1 z2 z3 z4 : Int) (t a l m : Nat), vs = [.ref p, .int z1, .int z2, .int z3, .int z4] ∧ z1 = (t : Int) ∧ z2 = (a : Int) ∧ z3 = (l : Int) ∧ z4 = (m : Int) ∧ H p = some (.ins C dx []) ∧
  ∀ H' fp, FoAt C H' p ⟨t, a, l, m, [], []⟩ fp → (∀ b ∈ fp, b = p ∨ H b = none) → (∀ b o, H b = some o → b ≠ p → H' b = some o) → Q .non H'
theorem hasForestI (D : DefI K C "Forest.__init__" sForestI) (T : Txt K mg C CB CD CR) : HasI P w K mg base C 1 ["self", "periods", "apart", "least", "most"] (spForestI C) := by
  obtain ⟨f, fd, F, m⟩ := D
  refine ⟨f, fd, ?_, m, F.binds fun _ _ _ _ _ _ us hl => match us, hl with | [_, _, _, _, _], _ => rfl⟩
  refine F.ok scFI (fun vs H Q E h => ?_) (fun cdv A outer s H vs Q E hr h => ?_)
  · obtain ⟨_, _, _, _, _, _, _, _, _, _, rfl, _⟩ := h
    rfl
  · refine ⟨_, pss_cons (ps_fld (pv 0) (pv 1) rfl) (pss_cons (ps_fld (pv 0) (pv 2) rfl) (pss_cons (ps_fld (pv 0) (pv 3) rfl) (pss_cons (ps_fld (pv 0) (pv 4) rfl)
      (pss_cons (ps_fld (pv 0) (pe_lst pa_nil) rfl) (pss_one (ps_fld (pv 0) (pe_lst pa_nil) rfl)))))), ?_⟩
    obtain ⟨p, dx, z1, z2, z3, z4, t, a, l, m, rfl, rfl, rfl, rfl, rfl, hp, q⟩ := h
    refine ⟨_, rfl, _, rfl, p, C, dx, _, rfl, hp, T.clF, T.fP, (by show 0 < 1000; decide), ?_⟩
    refine ⟨_, rfl, _, rfl, p, C, dx, _, rfl, upd_same, T.clF, T.fA, (Nat.lt_of_le_of_lt (put_small p0) (by decide)), ?_⟩
    refine ⟨_, rfl, _, rfl, p, C, dx, _, rfl, upd_same, T.clF, T.fL, (Nat.lt_of_le_of_lt (put_small (put_small p0)) (by decide)), ?_⟩
    refine ⟨_, rfl, _, rfl, p, C, dx, _, rfl, upd_same, T.clF, T.fM, (Nat.lt_of_le_of_lt (put_small (put_small (put_small p0))) (by decide)), ?_⟩
    refine ⟨by show 0 ≤ sizeLine; decide, fun sA hsA => ?_⟩
    have n1 : p ≠ sA := ne_of_none upd_same hsA
    refine ⟨_, rfl, p, C, dx, _, rfl, (upd_ne n1).trans upd_same, T.clF, T.fS, (Nat.lt_of_le_of_lt (put_small (put_small (put_small (put_small p0)))) (by decide)), ?_⟩
    refine ⟨by show 0 ≤ sizeLine; decide, fun pA hpA => ?_⟩
    have n2 : p ≠ pA := ne_of_none upd_same hpA
    have n3 : sA ≠ pA := ne_of_none ((upd_ne (Ne.symm n1)).trans upd_same) hpA
    refine ⟨_, rfl, p, C, dx, _, rfl, (upd_ne n2).trans upd_same, T.clF, T.fR, (Nat.lt_of_le_of_lt (put_small (put_small (put_small (put_small (put_small p0))))) (by decide)), ?_⟩
    simp only [upd_ne (Ne.symm n1)] at hsA
    rw [upd_ne (Ne.symm n2), upd_ne (Ne.symm n3)] at hpA
    simp only [upd_ne (Ne.symm n2)] at hpA
    refine q _ (foot p sA pA [] []) ⟨dx, sA, pA, [], [], ⟨?_, ?_, ?_, rfl, fun i b l h => (by cases h), rfl, fun i b l h => (by cases h), n3, fun b h => (by cases h)⟩, rfl⟩ ?_ ?_
    · rw [upd_same, newForest ⟨t, a, l, m, [], []⟩ sA pA]
    · rw [upd_ne (Ne.symm n1), upd_ne n3, upd_ne (Ne.symm n1), upd_same]
      rfl
    · rw [upd_ne (Ne.symm n2), upd_same]
      rfl
    · intro b hb
      simp only [foot, List.append_nil, List.mem_cons, List.not_mem_nil, or_false] at hb
      rcases hb with rfl | rfl | rfl
      · exact .inl rfl
      · exact .inr hsA
      · exact .inr hpA
    · intro b o e hb
      have m1 : b ≠ sA := ne_of_none e hsA
      have m2 : b ≠ pA := ne_of_none e hpA
      simp only [upd_ne hb, upd_ne m1, upd_ne m2]
      exact e
/-! ### Best.__init__ -/
theorem scBsI : FnScope ["self"] ["self"] (defScope sBestI) := ⟨rfl, rfl, rfl, by decide +kernel, rfl, by decide +kernel, by decide +kernel⟩
theorem newBest : putF "plan" .non (putF "many" (.int 0) (putF "brings" (.int 0) [])) = bF Fe.B.start .non := by
  have n1 : ¬ (("brings" : Str) = "many") := by decide +kernel
  have n2 : ¬ (("brings" : Str) = "plan") := by decide +kernel
  have n3 : ¬ (("many" : Str) = "plan") := by decide +kernel
  simp only [putF, n1, n2, n3, if_false]
  rfl
def spBestI (CB : Addr) : Sp := fun vs H Q _ => ∃ (p dx : Addr), vs = [.ref p] ∧ H p = some (.ins CB dx []) ∧ ∀ H', H' p = some (.ins CB dx (bF Fe.B.start .non)) → (∀ b o, H b = some o → b ≠ p → H' b = some o) → Q .non H'
theorem hasBestI (D : DefI K CB "Best.__init__" sBestI) (T : Txt K mg C CB CD CR) : HasI P w K mg base CB 1 ["self"] (spBestI CB) := by
  obtain ⟨f, fd, F, m⟩ := D
  refine ⟨f, fd, ?_, m, F.binds fun _ _ _ _ _ _ us hl => match us, hl with | [_], _ => rfl⟩
  refine F.ok scBsI (fun vs H Q E h => ?_) (fun cdv A outer s H vs Q E hr h => ?_)
  · obtain ⟨_, _, rfl, _⟩ := h
    rfl
  · refine ⟨_, pss_cons (ps_fld (pv 0) pe_int rfl) (pss_cons (ps_fld (pv 0) pe_int rfl) (pss_one (ps_fld (pv 0) pe_non rfl))), ?_⟩
    obtain ⟨p, dx, rfl, hp, q⟩ := h
    refine ⟨_, rfl, p, CB, dx, _, rfl, hp, T.clB, T.bB, (by show 0 < 1000; decide), ?_⟩
    refine ⟨_, rfl, p, CB, dx, _, rfl, upd_same, T.clB, T.bM, (Nat.lt_of_le_of_lt (put_small p0) (by decide)), ?_⟩
    refine ⟨_, rfl, p, CB, dx, _, rfl, upd_same, T.clB, T.bP, (Nat.lt_of_le_of_lt (put_small (put_small p0)) (by decide)), ?_⟩
    refine q _ ?_ ?_
    · rw [upd_same, newBest]
    · intro b o e hb
      simp only [upd_ne hb]
      exact e
/-! ### Desk.__init__ -/
theorem scDI : FnScope ["self"] ["self"] (defScope sDeskI) := ⟨rfl, rfl, rfl, by decide +kernel, rfl, by decide +kernel, by decide +kernel⟩
def spDeskI (CD C : Addr) : Sp := fun vs H Q _ => ∃ (p dx : Addr), vs = [.ref p] ∧ H p = some (.ins CD dx []) ∧ ∀ H' fp, DeskAt CD C H' p Fe.F.init fp → (∀ b ∈ fp, b = p ∨ H b = none) → (∀ b o, H b = some o → b ≠ p → H' b = some o) → Q .non H'
theorem hasDeskI (D : DefI K CD "Desk.__init__" sDeskI) (T : Txt K mg C CB CD CR) (h1 : HasI P w K mg base C 1 ["self", "periods", "apart", "least", "most"] (spForestI C)) : HasI P w K mg base CD 3 ["self"] (spDeskI CD C) := by
  obtain ⟨f, fd, F, m⟩ := D
  obtain ⟨f1, fd1, G1, m1, b1⟩ := h1
  obtain ⟨tk, cMB⟩ := T.cMB
  refine ⟨f, fd, ?_, m, F.binds fun _ _ _ _ _ _ us hl => match us, hl with | [_], _ => rfl⟩
  refine F.ok scDI (fun vs H Q E h => ?_) (fun cdv A outer s H vs Q E hr h => ?_)
  · obtain ⟨_, _, rfl, _⟩ := h
    rfl
  · refine ⟨_, pss_one (ps_fld (pv 0) (pe_make m1 G1 hr rfl T.gF b1 .nil pass0 (pa_cons pe_int (pa_cons pe_int (pa_cons pe_int (pa_cons (pe_glob (v := .int 1000000) rfl cMB ⟨_, rfl⟩) pa_nil))))) rfl), ?_⟩
    obtain ⟨p, dx, rfl, hp, q⟩ := h
    intro x dx1 hx hdx1 ne
    refine ⟨x, dx1, 1, 0, 0, 1000000, 1, 0, 0, 1000000, rfl, rfl, rfl, rfl, rfl, upd_same, fun H2 fp hF hfp keep => ⟨rfl, ?_⟩⟩
    have npx : p ≠ x := ne_of_none hp hx
    have npd : p ≠ dx1 := ne_of_none hp hdx1
    have old : ∀ b o, H b = some o → H2 b = some o := fun b o e => keep b o (by rw [upd_ne (ne_of_none e hx), upd_ne (ne_of_none e hdx1)]; exact e) (ne_of_none e hx)
    refine ⟨_, rfl, p, CD, dx, _, rfl, old _ _ hp, T.clD, T.dF, (by show 0 < 1000; decide), ?_⟩
    have pn : p ∉ fp := fun z => by
      rcases hfp p z with e | e
      · exact npx e
      · rw [upd_ne npx, upd_ne npd, hp] at e
        cases e
    refine q _ (p :: fp) ⟨dx, x, fp, upd_same, hF.keep fun b o hb e => by rw [upd_ne (fun z : b = p => pn (z ▸ hb))]; exact e, rfl⟩ ?_ ?_
    · intro b hb
      rcases List.mem_cons.mp hb with e | e
      · exact .inl e
      · rcases hfp b e with z | z
        · rw [z]
          exact .inr hx
        · by_cases z1 : b = x
          · rw [z1]
            exact .inr hx
          · by_cases z2 : b = dx1
            · rw [z2]
              exact .inr hdx1
            · rw [upd_ne z1, upd_ne z2] at z
              exact .inr z
    · intro b o e hb
      rw [upd_ne hb]
      exact old b o e
/-! ### Refusal.__init__ -/
theorem scRI : FnScope ["self", "numbers"] ["self", "numbers"] (defScope sRefusalI) := ⟨rfl, rfl, rfl, by decide +kernel, rfl, by decide +kernel, by decide +kernel⟩
def spRefusalI (CR : Addr) : Sp := fun vs H Q _ => ∃ (e : Addr) (v : V), vs = [.ref e, v] ∧ H e = some (exo e CR none) ∧ ∀ dx, H dx = none → dx ≠ e → Q .non (upd (upd H dx (exd dx [("numbers", v)])) e (exo e CR (some dx)))
/-- Refusal, whose __init__ keeps that -/
def HasR (P : Program) (w : World) (K : PySem.W.Frag) (mg : Str → Option Value) (base : Heap) (CR : Addr) : Prop :=
  ∃ (f : Addr) (fd : FuncData), FnOk P w K mg base CX0 1 f fd ["self", "numbers"] (spRefusalI CR) ∧ PySem.W.findIn K (.ref CR) "__init__" = some (some (.ref f)) ∧ PySem.W.typeIn K (.ref f) = some (.type "function") ∧ Binds K fd ["self", "numbers"] []
def DefR (K : PySem.W.Frag) (CR : Addr) : Prop := ∃ (f : Addr) (fd : FuncData), Fun K "__init__" "Refusal.__init__" sRefusalI f fd ∧ PySem.W.findIn K (.ref CR) "__init__" = some (some (.ref f)) ∧ PySem.W.typeIn K (.ref f) = some (.type "function")
theorem hasRefusalI (D : DefR K CR) (T : Txt K mg C CB CD CR) : HasR P w K mg base CR := by
  obtain ⟨f, fd, F, m, t⟩ := D
  refine ⟨f, fd, ?_, m, t, F.binds fun _ _ _ _ _ _ us hl => match us, hl with | [_, _], _ => rfl⟩
  refine F.ok scRI (fun vs H Q E h => ?_) (fun cdv A outer s H vs Q E hr h => ?_)
  · obtain ⟨_, _, rfl, _⟩ := h
    rfl
  · refine ⟨_, pss_one (ps_ost (pv 0) (pv 1)), ?_⟩
    obtain ⟨e, v, rfl, he, q⟩ := h
    exact ⟨_, rfl, _, rfl, e, CR, rfl, T.oex, T.rN, Or.inl ⟨he, fun dx hd ne => q dx hd ne⟩⟩
/-! ### refuse_if -/
/-- an error that bears these numbers; what was tracked stands -/
def EX (CR : Addr) (nums : List Int) (H : Hp) (E : XK) : Prop := ∀ d p H', Same H H' → H' d = some (.xd [("numbers", .ref p)]) → H' p = some (.lst (nums.map V.int)) → E (.ref CR) (some d) H'
theorem EX.mono {nums : List Int} {H H1 : Hp} {E : XK} (h : EX CR nums H E) (s : Same H H1) : EX CR nums H1 E := fun d p H' s' h1 h2 => h d p H' (s.trans s') h1 h2
/-- what a raise of Refusal(list) asks: the list stands at p -/
theorem ex_made {nums : List Int} {H H1 : Hp} {E : XK} {p : Addr} (h : EX CR nums H E) (s : Same H H1) (hp : H1 p = some (.lst (nums.map V.int))) : ∀ a, H1 a = none →
    spRefusalI CR [.ref a, .ref p] (upd H1 a (exo a CR none)) (fun v H2 => v = .non ∧ ∃ (d : Addr) (fs : List (Str × V)), H2 a = some (exo a CR (some d)) ∧ H2 d = some (exd d fs) ∧ H1 d = none ∧ E (.ref CR) (some d) (upd (del H2 a) d (.xd fs))) (fun _ _ _ => False) := by
  intro a ha
  refine ⟨a, .ref p, rfl, upd_same, fun dx hd ne => ⟨rfl, dx, _, upd_same, (upd_ne ne).trans upd_same, ?_, ?_⟩⟩
  · rw [upd_ne ne] at hd
    exact hd
  · rw [upd_ne ne] at hd
    refine h dx p _ ?_ upd_same ?_
    · intro b o e
      have e1 := s _ _ e
      have n1 := ne_of_none e1 hd
      have n2 := ne_of_none e1 ha
      rw [upd_ne n1, del_ne n2, upd_ne n2, upd_ne n1, upd_ne n2]
      exact e1
    · have n1 := ne_of_none hp hd
      have n2 := ne_of_none hp ha
      rw [upd_ne n1, del_ne n2, upd_ne n2, upd_ne n1, upd_ne n2]
      exact hp
theorem scRf : FnScope ["asked", "number"] ["asked", "number"] (defScope sRefuseIf) := ⟨rfl, rfl, rfl, by decide +kernel, rfl, by decide +kernel, by decide +kernel⟩
def spRefuseIf (CR : Addr) : Sp := fun vs H Q E => ∃ (b : Bool) (n : Int), vs = [.bl b, .int n] ∧ (b = true → EX CR [n] H E) ∧ (b = false → Q .non H)
theorem has_refuseIf (D : Def K mg "refuse_if" sRefuseIf) (T : Txt K mg C CB CD CR) (R : HasR P w K mg base CR) : Has P w K mg base (L2.CX P w) 3 "refuse_if" ["asked", "number"] (spRefuseIf CR) := by
  obtain ⟨f, fd, F, m⟩ := D
  obtain ⟨fR, fdR, GR, iR, tR, bR⟩ := R
  refine ⟨f, fd, ?_, m, F.kp, F.binds fun _ _ _ _ _ _ us hl => match us, hl with | [_, _], _ => rfl⟩
  refine F.okX scRf (fun vs H Q E h => ?_) (fun cdv A outer s H vs Q E hr h => ?_)
  · obtain ⟨_, _, rfl, _⟩ := h
    rfl
  · refine ⟨_, pss_one (ps_if (pt_val (pv 0)) (pss_one (ps_raise rfl (takes_of rfl rfl rfl rfl) (pmk_oex T.oex iR tR GR hr bR .nil pass0 rfl T.gR (pa_cons (pe_lst (pa_cons (pv 1) pa_nil)) pa_nil)))) pss_nil), ?_⟩
    obtain ⟨b, n, rfl, kT, kF⟩ := h
    refine ⟨_, rfl, _, rfl, ?_⟩
    cases b with
    | true =>
      refine iteT ⟨_, rfl, by show 1 ≤ sizeLine; decide, fun p hp => ?_⟩
      exact ⟨by show 1 ≤ 1000; decide, ex_made (kT rfl) (Same.new hp) upd_same⟩
    | false => exact iteF (kF rfl)
end
end Fw

set_option Elab.async false
set_option linter.all false
set_option maxRecDepth 100000
set_option maxHeartbeats 4000000
namespace Fw
open PySem PySem.Spec PyProof.Rows L2
/-! ### the best, step by step -/
def bst (f : Fe.F) (l : List (List Nat)) (i : Nat) : Fe.B := (l.take i).foldl f.bestStep Fe.B.start
theorem bst_succ {f : Fe.F} {l : List (List Nat)} {i : Nat} {p : List Nat} (h : l[i]? = some p) : bst f l (i + 1) = f.bestStep (bst f l i) p := by
  unfold bst
  rw [take_one h, List.foldl_append]
  rfl
theorem bst_all (f : Fe.F) (rows : List (List Nat)) : bst f (f.allPlans rows) (f.allPlans rows).length = f.bestOf rows := by
  unfold bst Fe.F.bestOf
  rw [List.take_length]
theorem bst_plan (f : Fe.F) : ∀ (l : List (List Nat)) (b : Fe.B) (q : List Nat), (l.foldl f.bestStep b).plan = some q → b.plan = some q ∨ q ∈ l
  | [], b, q, h => .inl h
  | p :: l, b, q, h => by
    rcases bst_plan f l _ q h with e | e
    · have z : (f.bestStep b p).plan = b.plan ∨ (f.bestStep b p).plan = some p := by
        unfold Fe.F.bestStep
        by_cases c : f.lst p = true
        · rw [if_pos c]
          unfold Fe.B.count Fe.B.put
          by_cases d : b.plan = none ∨ b.brings < (f.flows p).sum
          · rw [if_pos d]
            exact .inr rfl
          · rw [if_neg d]
            exact .inl rfl
        · rw [if_neg c]
          exact .inl rfl
      rcases z with z | z
      · rw [z] at e
        exact .inl e
      · rw [z] at e
        cases e
        exact .inr List.mem_cons_self
    · exact .inr (List.mem_cons_of_mem _ e)
theorem bestOf_len {f : Fe.F} {rows : List (List Nat)} {q : List Nat} (h : (f.bestOf rows).plan = some q) : q.length = rows.length := by
  rcases bst_plan f _ _ q h with e | e
  · cases e
  · have z := fold_each f rows [[]] 0 (fun p hp => by rw [List.mem_singleton] at hp; rw [hp]; rfl) q e
    omega
theorem ints_sum (l : List Nat) : (Fe.asInts l).sum = ((l.sum : Nat) : Int) := by
  induction l with
  | nil => rfl
  | cons a r ih =>
    rw [Fe.asInts_cons, List.sum_cons, ih, List.sum_cons]
    omega
theorem min_ge {l : List Nat} {m : Int} (bound : Nat) (h1 : m ∈ Fe.asInts l) (h2 : ∀ y ∈ Fe.asInts l, m ≤ y) : decide ((bound : Int) ≤ m) = l.all fun v => decide (bound ≤ v) := by
  rw [Bool.eq_iff_iff, decide_eq_true_eq, List.all_eq_true]
  constructor
  · intro h v hv
    have := h2 (v : Int) (List.mem_map_of_mem hv)
    exact decide_eq_true (by omega)
  · intro h
    obtain ⟨v, hv, e⟩ := List.mem_map.mp h1
    have := of_decide_eq_true (h v hv)
    rw [← e]
    omega
theorem putBest (b : Fe.B) (v : V) (s : Nat) (pb : Addr) (p : List Nat) : putF "plan" (.ref pb) (putF "many" (.int 0) (putF "brings" (.int (s : Int)) (bF b v))) = bF ⟨s, 0, some p⟩ (.ref pb) := by
  have n1 : ¬ (("brings" : Str) = "many") := by decide +kernel
  have n2 : ¬ (("brings" : Str) = "plan") := by decide +kernel
  have n3 : ¬ (("many" : Str) = "plan") := by decide +kernel
  unfold bF
  simp only [putF, n1, n2, n3, if_false, if_true]
  rfl
theorem putMany (b : Fe.B) (v : V) (z : Nat) : putF "many" (.int (z : Int)) (bF b v) = bF { b with many := z } v := by
  have n1 : ¬ (("brings" : Str) = "many") := by decide +kernel
  unfold bF
  simp only [putF, n1, if_false, if_true]
section
variable {P : Program} {w : World} {K : PySem.W.Frag} {mg : Str → Option Value} {base : Heap} {C CB CD CR : Addr}
/-! ### best_of -/
theorem scBO : FnScope ["forest", "some", "found", "plan", "brought", "brings"] ["forest", "some"] (defScope sBestOf) := ⟨rfl, rfl, rfl, by decide +kernel, rfl, by decide +kernel, by decide +kernel⟩
def rInt1 : List V → Hp → VK → Prop := fun xs H Q => (∃ i, xs = [.int i] ∧ Q (.int i) H) ∨ ∃ k, xs = [.bl k] ∧ Q (.int (if k then 1 else 0)) H
theorem tail_ok {D : Ends} {σ : L2.St} {H : Hp} {x dx : Addr} {b : Fe.B} {v : V} {s : Nat} (T : Txt K mg C CB CD CR) (h2 : σ[2]? = some (some (.ref x))) (h5 : σ[5]? = some (some (.int (s : Int)))) (hx : H x = some (.ins CB dx (bF b v)))
    (next : D.nx σ (upd H x (.ins CB dx (bF (b.count s) v)))) :
    sFld K (tVar 2) (tOp (rI0 fun i j => .int (i + j)) (tFld K (tVar 2) "many") (tCB rInt1 (tCons (tOp rEq (tVar 5) (tFld K (tVar 2) "brings")) tNil))) "many" D σ H := by
  refine ⟨_, h2, x, CB, dx, _, _, rfl, hx, T.clB, T.bM, lkMany b v, _, h5, _, h2, x, CB, dx, _, _, rfl, hx, T.clB, T.bB, lkBrings b v, rfl, Or.inr ⟨_, rfl, _, _, rfl, rfl, ?_⟩⟩
  refine ⟨_, h2, x, CB, dx, _, rfl, hx, T.clB, T.bM, by show 3 < 1000; decide, ?_⟩
  have e : (b.many : Int) + (if decide (V.int (s : Int) = V.int (b.brings : Int)) = true then 1 else 0) = ((b.many + if s = b.brings then 1 else 0 : Nat) : Int) := by
    by_cases c : s = b.brings
    · rw [if_pos c, if_pos (decide_eq_true (by rw [c]))]
      rfl
    · rw [if_neg c, if_neg (by rw [decide_eq_true_eq]; intro z; injection z with z; exact c (by omega))]
      omega
  show D.nx σ (upd H x (.ins CB dx (putF "many" (.int ((b.many : Int) + (if decide (V.int (s : Int) = V.int (b.brings : Int)) = true then 1 else 0))) (bF b v))))
  rw [e, putMany]
  exact next
def spBestOf (K : PySem.W.Frag) (C CB : Addr) : Sp := fun vs H Q _ => ∃ (a sa : Addr) (f : Fe.F) (fp : List Addr) (ra : List Addr) (rows : List (List Nat)), vs = [.ref a, .ref sa] ∧
  FoAt C H a f fp ∧ LL H sa ra rows ∧ rows.length = f.stands.length ∧ (∀ r ∈ rows, r.length ≤ 5) ∧ Fe.Ok f ∧ ∀ H' x, Same H H' → BestAt CB H' x (f.bestOf rows) → Q (.ref x) H'
theorem has_bestOf (D : Def K mg "best_of" sBestOf) (T : Txt K mg C CB CD CR) (h1 : Has P w K mg base CX0 4 "all_plans" ["forest", "some"] (spAllPlans K C)) (h2 : Has P w K mg base CX0 2 "all_brought" ["forest", "plan"] (spAllBrought K C))
    (hI : HasI P w K mg base CB 1 ["self"] (spBestI CB)) : Has P w K mg base CX0 5 "best_of" ["forest", "some"] (spBestOf K C CB) := by
  obtain ⟨f, fd, F, m⟩ := D
  obtain ⟨f1, fd1, G1, m1, k1, b1⟩ := h1
  obtain ⟨f2, fd2, G2, m2, k2, b2⟩ := h2
  obtain ⟨f3, fd3, G3, m3, b3⟩ := hI
  refine ⟨f, fd, ?_, m, F.kp, F.binds fun _ _ _ _ _ _ us hl => match us, hl with | [_, _], _ => rfl⟩
  refine F.ok scBO (fun vs H Q E h => ?_) (fun cdv A outer s H vs Q E hr h => ?_)
  · obtain ⟨_, _, _, _, _, _, rfl, _⟩ := h
    rfl
  · have hr2 : Room 2 _ := hr.mono (by decide)
    refine ⟨_, pss_cons (ps_set (i := 2) scBO.nd rfl (Or.inl rfl) (pe_make0 m3 G3 hr2 rfl T.gB b3 .nil pass0))
      (pss_cons (ps_for PassesOwn.never rfl (pi_list (pe_call G1 hr rfl m1 k1 b1 .nil pass0 (pa_cons (pv 0) (pa_cons (pv 1) pa_nil)))) (pg_name (i := 3) scBO.nd rfl (Or.inl rfl))
        (pss_cons (ps_set (i := 4) scBO.nd rfl (Or.inl rfl) (pe_call G2 hr2 rfl m2 k2 b2 .nil pass0 (pa_cons (pv 0) (pa_cons (pv 3) pa_nil))))
        (pss_one (ps_if (pt_cmpR op_ge (pe_callB (cr_min rfl) (by rfl) T.nMin bMin (pa_cons (pv 4) pa_nil)) (pe_fld (pv 0) rfl) (nomark _))
          (pss_cons (ps_set (i := 5) scBO.nd rfl (Or.inl rfl) (pe_callB (cr_sum rfl) (by rfl) T.nSum bSum (pa_cons (pv 4) pa_nil)))
          (pss_cons (ps_if (PW.pt (pw_or (pt_cmpR op_isN (pe_fld (pv 2) rfl) pe_non (nomark _)) (pw_or1 (pt_cmpR op_gt (pv 5) (pe_fld (pv 2) rfl) (nomark _)))))
            (pss_cons (ps_fld (pv 2) (pv 5) rfl) (pss_cons (ps_fld (pv 2) pe_int rfl) (pss_one (ps_fld (pv 2) (pv 3) rfl)))) pss_nil)
          (pss_one (ps_fld (pv 2) (pe_op op_add (pe_fld (pv 2) rfl) (pe_callTy call_int1 (by rfl) T.nInt bInt (pa_cons (pe_cmpR op_eq (pv 5) (pe_fld (pv 2) rfl) (nomark _)) pa_nil))) rfl)))) pss_nil))))
      (pss_one (ps_ret (pv 2)))), ?_⟩
    obtain ⟨a, sa, f, fp, ra, rows, rfl, hF, hll, hn, h5, ok, q⟩ := h
    have s6 := ok.s6
    have p1 := ok.p1
    intro x dx hx hdx ne
    refine ⟨x, dx, rfl, upd_same, fun H1 hH1 keep => ⟨rfl, ?_⟩⟩
    have s1 : Same H H1 := Same.made hx hdx keep
    refine ⟨_, rfl, _, rfl, a, sa, f, fp, ra, rows, rfl, hF.same s1, hll.same fun b xs e => s1 _ _ e, hn, h5, ok, fun H2 qa as sm2 ll2 => ?_⟩
    have each := upto_each (f := f) (rows := rows) (Nat.le_refl _)
    rw [upto_all] at each
    refine ⟨qa, rfl, ⟨_, SqL.of ll2.at_⟩, for_list (K := K) (a := qa) (xs := as.map V.ref) (fun i σ H' => ∃ v3 v4 v5 v, σ = [some (.ref a), some (.ref sa), some (.ref x), v3, v4, v5] ∧ Same H H' ∧ LL H' qa as (f.allPlans rows) ∧
        H' x = some (.ins CB dx (bF (bst f (f.allPlans rows) i) v)) ∧ PlanV H' (bst f (f.allPlans rows) i).plan v)
      ⟨none, none, none, .non, rfl, s1.trans sm2, ll2, sm2 _ _ hH1, rfl⟩ (fun i σ H' _ ⟨_, _, _, _, _, _, ll, _⟩ => SqL.of ll.at_) ?_ ?_⟩
    · rintro i y σ H3 hi ⟨v3, v4, v5, v, rfl, sm, ll, hx3, hv⟩
      obtain ⟨pb, p, rfl, _, hpi, hpb⟩ := ll.get hi
      have hpl := each p (List.mem_of_getElem? hpi)
      have st := bst_succ (f := f) hpi
      generalize hb : bst f (f.allPlans rows) i = b at *
      refine ⟨_, rfl, _, rfl, a, pb, f, fp, p, rfl, hF.same sm, SqL.of hpb, by omega, ok, fun H4 bA sm4 hbA hbL => ?_⟩
      have smA := sm.trans sm4
      have hx4 := sm4 _ _ hx3
      have ll4 : LL H4 qa as (f.allPlans rows) := ll.same fun b xs e => sm4 _ _ e
      have hpb4 := sm4 _ _ hpb
      have hv4 : PlanV H4 b.plan v := by
        cases e : b.plan with
        | none =>
          rw [e] at hv
          exact hv
        | some r =>
          rw [e] at hv
          obtain ⟨a0, h1, h2⟩ := hv
          exact ⟨a0, h1, sm4 _ _ h2⟩
      obtain ⟨dxF, sA, pA, ss, ps, hI, _⟩ := hF.same smA
      have hlen := Fe.flows_len f p
      -- what is behind a change of the best alone
      have fin : ∀ (b' : Fe.B) (v' : V) H5, H5 x = some (.ins CB dx (bF b' v')) → (∀ c, c ≠ x → H5 c = H4 c) → PlanV H4 b'.plan v' → Same H H5 ∧ LL H5 qa as (f.allPlans rows) ∧ PlanV H5 b'.plan v' := fun b' v' H5 h1 h2 h3 => by
        have lst : ∀ c xs, H4 c = some (.lst xs) → H5 c = some (.lst xs) := fun c xs e => by
          rw [h2 c (fun z => by rw [z, hx4] at e; cases e)]
          exact e
        refine ⟨fun c o e => ?_, ll4.same lst, ?_⟩
        · rw [h2 c (ne_of_none e hx)]
          exact smA _ _ e
        · cases e : b'.plan with
          | none =>
            rw [e] at h3
            exact h3
          | some r =>
            rw [e] at h3
            obtain ⟨a0, g1, g2⟩ := h3
            exact ⟨a0, g1, lst _ _ g2⟩
      refine ⟨_, rfl, bA, Fe.asInts (f.flows p), rfl, SqL.of hbL, by rw [Fe.asInts_len]; omega, fun mm hm1 hm2 => ?_⟩
      refine ⟨_, rfl, a, C, dxF, _, _, rfl, hI.ins, T.clF, T.fL, lkLeast f sA pA, _, _, rfl, rfl, _, rfl, ?_⟩
      have el : decide ((f.least : Int) ≤ mm) = f.lst p := min_ge f.least hm1 hm2
      rw [el]
      cases c : f.lst p with
      | false =>
        have stF : f.bestStep b p = b := if_neg (by rw [c]; exact Bool.false_ne_true)
        rw [stF] at st
        obtain ⟨g1, g2, g3⟩ := fin b v H4 hx4 (fun _ _ => rfl) hv4
        refine iteF ⟨_, _, _, v, rfl, g1, g2, ?_, ?_⟩
        · rw [st]
          exact hx4
        · rw [st]
          exact g3
      | true =>
        have stT : f.bestStep b p = (b.put (f.flows p).sum p).count (f.flows p).sum := if_pos c
        rw [stT] at st
        refine iteT ?_
        refine ⟨_, rfl, bA, Fe.asInts (f.flows p), rfl, SqL.of hbL, ?_⟩
        rw [ints_sum]
        generalize (f.flows p).sum = s at *
        refine ⟨_, rfl, x, CB, dx, _, _, rfl, hx4, T.clB, T.bP, lkPlan b v, rfl, _, rfl, ?_⟩
        -- the plan is put in
        have done : ∀ (b' : Fe.B) (v' : V) (hb' : b' = b.put s p) H5, H5 x = some (.ins CB dx (bF b' v')) → (∀ c, c ≠ x → H5 c = H4 c) → PlanV H4 b'.plan v' →
            ∃ v3 v4 v5 v, [some (V.ref a), some (V.ref sa), some (V.ref x), some (V.ref pb), some (V.ref bA), some (V.int (s : Int))] = [some (V.ref a), some (V.ref sa), some (V.ref x), v3, v4, v5] ∧ Same H (upd H5 x (.ins CB dx (bF (b'.count s) v'))) ∧ LL (upd H5 x (.ins CB dx (bF (b'.count s) v'))) qa as (f.allPlans rows) ∧
              upd H5 x (.ins CB dx (bF (b'.count s) v')) x = some (.ins CB dx (bF (bst f (f.allPlans rows) (i + 1)) v)) ∧ PlanV (upd H5 x (.ins CB dx (bF (b'.count s) v'))) (bst f (f.allPlans rows) (i + 1)).plan v := fun b' v' hb' H5 h1 h2 h3 => by
          obtain ⟨g1, g2, g3⟩ := fin (b'.count s) v' (upd H5 x (.ins CB dx (bF (b'.count s) v'))) upd_same (fun c hc => by rw [upd_ne hc, h2 c hc]) h3
          rw [st, ← hb']
          exact ⟨_, _, _, v', rfl, g1, g2, upd_same, g3⟩
        have putIt : ∀ (hb' : (⟨s, 0, some p⟩ : Fe.B) = b.put s p), _ := fun hb' => done ⟨s, 0, some p⟩ (.ref pb) hb'
        cases e : b.plan with
        | none =>
          rw [e] at hv4
          have hvn : v = .non := hv4
          refine if_true_of (decide_eq_true hvn) (if_true_of rfl ?_)
          refine ⟨_, rfl, _, rfl, x, CB, dx, _, rfl, hx4, T.clB, T.bB, (by show 3 < 1000; decide), ?_⟩
          refine ⟨_, rfl, x, CB, dx, _, rfl, upd_same, T.clB, T.bM, (Nat.lt_of_le_of_lt (put_small (k := 3) (Nat.le_refl 3)) (by decide)), ?_⟩
          refine ⟨_, rfl, _, rfl, x, CB, dx, _, rfl, upd_same, T.clB, T.bP, (Nat.lt_of_le_of_lt (put_small (put_small (k := 3) (Nat.le_refl 3))) (by decide)), ?_⟩
          rw [putBest b v s pb p, upd_upd, upd_upd]
          refine tail_ok T rfl rfl upd_same ?_
          exact putIt (if_pos (.inl e)).symm _ upd_same (fun c hc => upd_ne hc) ⟨pb, rfl, hpb4⟩
        | some r =>
          rw [e] at hv4
          obtain ⟨a0, hva, hr0⟩ := id hv4
          refine if_false_of (decide_eq_false (by rw [hva]; intro z; cases z)) ?_
          refine ⟨_, rfl, _, rfl, x, CB, dx, _, _, rfl, hx4, T.clB, T.bB, lkBrings b v, _, _, rfl, rfl, _, rfl, ?_⟩
          by_cases d : b.brings < s
          · refine if_true_of (decide_eq_true (by omega)) ?_
            refine ⟨_, rfl, _, rfl, x, CB, dx, _, rfl, hx4, T.clB, T.bB, (by show 3 < 1000; decide), ?_⟩
            refine ⟨_, rfl, x, CB, dx, _, rfl, upd_same, T.clB, T.bM, (Nat.lt_of_le_of_lt (put_small (k := 3) (Nat.le_refl 3)) (by decide)), ?_⟩
            refine ⟨_, rfl, _, rfl, x, CB, dx, _, rfl, upd_same, T.clB, T.bP, (Nat.lt_of_le_of_lt (put_small (put_small (k := 3) (Nat.le_refl 3))) (by decide)), ?_⟩
            rw [putBest b v s pb p, upd_upd, upd_upd]
            refine tail_ok T rfl rfl upd_same ?_
            exact putIt (if_pos (.inr d)).symm _ upd_same (fun c hc => upd_ne hc) ⟨pb, rfl, hpb4⟩
          · refine if_false_of (decide_eq_false (by omega)) ?_
            refine tail_ok T rfl rfl hx4 ?_
            have ep : b = b.put s p := (if_neg (fun z => z.elim (fun z => by rw [e] at z; cases z) d)).symm
            exact done b v ep H4 hx4 (fun _ _ => rfl) (by rw [e]; exact hv4)
    · rintro σ H3 ⟨v3, v4, v5, v, rfl, sm, ll, hx3, hv⟩
      rw [ll2.nlen, bst_all] at hx3 hv
      exact ⟨_, rfl, q _ x sm ⟨dx, v, hx3, hv⟩⟩
end
end Fw

set_option Elab.async false
set_option linter.all false
set_option maxRecDepth 100000
set_option maxHeartbeats 4000000
namespace Fw
open PySem PySem.Spec PyProof.Rows L2
/-- what's answered: a list, or an error that bears it -/
def Ans (CR : Addr) (r : Fe.R) (H : Hp) (Q : VK) (E : XK) : Prop := match r with
  | .ok nums => ∀ H' q, Same H H' → H q = none → H' q = some (.lst (nums.map V.int)) → Q (.ref q) H'
  | .no nums => EX CR nums H E
theorem Ans.mono {CR : Addr} {r : Fe.R} {H H1 : Hp} {Q : VK} {E : XK} (h : Ans CR r H Q E) (s : Same H H1) : Ans CR r H1 Q E := by
  cases r with
  | ok nums => exact fun H' q s' f e => h H' q (s.trans s') (s.free f) e
  | no nums => exact EX.mono h s
theorem choices_len (f : Fe.F) (p : List Nat) (t : Nat) : (f.choices p t).length = p.length := List.length_map ..
theorem choices_5 {f : Fe.F} (k : Fe.Ok f) (p : List Nat) (t : Nat) : ∀ r ∈ f.choices p t, r.length ≤ 5 := by
  intro r hr
  obtain ⟨o, _, e⟩ := List.mem_map.mp hr
  rw [← e]
  unfold Fe.F.row
  have p4 := k.p4
  by_cases c : 1 ≤ o ∧ o ≤ t
  · rw [if_pos c]
    show 1 ≤ 5
    decide
  · rw [if_neg c, List.length_cons, List.length_map, List.length_range]
    omega
section
variable {P : Program} {w : World} {K : PySem.W.Frag} {mg : Str → Option Value} {base : Heap} {C CB CD CR : Addr}
/-! ### told_best -/
theorem scTB : FnScope ["forest", "some", "found", "brought"] ["forest", "some"] (defScope sToldBest) := ⟨rfl, rfl, rfl, by decide +kernel, rfl, by decide +kernel, by decide +kernel⟩
def spToldBest (K : PySem.W.Frag) (C CR : Addr) : Sp := fun vs H Q E => ∃ (a sa : Addr) (f : Fe.F) (fp : List Addr) (ra : List Addr) (rows : List (List Nat)), vs = [.ref a, .ref sa] ∧
  FoAt C H a f fp ∧ LL H sa ra rows ∧ rows.length = f.stands.length ∧ (∀ r ∈ rows, r.length ≤ 5) ∧ Fe.Ok f ∧ Ans CR (f.tell rows) H Q E
theorem has_toldBest (D : Def K mg "told_best" sToldBest) (T : Txt K mg C CB CD CR) (h1 : Has P w K mg base CX0 5 "best_of" ["forest", "some"] (spBestOf K C CB)) (h2 : Has P w K mg base CX0 2 "all_brought" ["forest", "plan"] (spAllBrought K C))
    (h3 : Has P w K mg base (L2.CX P w) 3 "refuse_if" ["asked", "number"] (spRefuseIf CR)) : Has P w K mg base (L2.CX P w) 6 "told_best" ["forest", "some"] (spToldBest K C CR) := by
  obtain ⟨f, fd, F, m⟩ := D
  obtain ⟨f1, fd1, G1, m1, k1, b1⟩ := h1
  obtain ⟨f2, fd2, G2, m2, k2, b2⟩ := h2
  obtain ⟨f3, fd3, G3, m3, k3, b3⟩ := h3
  obtain ⟨tk, cNoPl⟩ := T.cNoPl
  refine ⟨f, fd, ?_, m, F.kp, F.binds fun _ _ _ _ _ _ us hl => match us, hl with | [_, _], _ => rfl⟩
  refine F.okX scTB (fun vs H Q E h => ?_) (fun cdv A outer s H vs Q E hr h => ?_)
  · obtain ⟨_, _, _, _, _, _, rfl, _⟩ := h
    rfl
  · have hr2 : Room 2 _ := hr.mono (by decide)
    have hr3 : Room 3 _ := hr.mono (by decide)
    refine ⟨_, pss_cons (ps_set (i := 2) scTB.nd rfl (Or.inl rfl) (pe_call G1 hr rfl m1 k1 b1 .nil pass0 (pa_cons (pv 0) (pa_cons (pv 1) pa_nil))))
      (pss_cons (ps_expr (pe_call G3 hr3 rfl m3 k3 b3 .nil (passes_call (takes_of rfl rfl rfl rfl) (fun _ _ _ _ h => h)) (pa_cons (pe_cmpR op_isN (pe_fld (pv 2) rfl) pe_non (nomark _)) (pa_cons (pe_glob (v := .int (-6)) rfl cNoPl ⟨_, rfl⟩) pa_nil))))
      (pss_cons (ps_set (i := 3) scTB.nd rfl (Or.inl rfl) (pe_call G2 hr2 rfl m2 k2 b2 .nil pass0 (pa_cons (pv 0) (pa_cons (pe_fld (pv 2) rfl) pa_nil))))
      (pss_one (ps_ret (pe_op op_cat (pe_op op_cat (pe_op op_cat (pe_lst (pa_cons (pe_fld (pv 2) rfl) (pa_cons pe_int (pa_cons (pe_fld (pv 2) rfl) (pa_cons (pe_callB call_len_seq (by rfl) T.nLen bLen (pa_cons (pe_fld (pv 2) rfl) pa_nil)) pa_nil))))) (pe_fld (pv 2) rfl))
        (pe_lst (pa_cons (pe_callB call_len_seq (by rfl) T.nLen bLen (pa_cons (pv 3) pa_nil)) pa_nil))) (pv 3)))))), ?_⟩
    obtain ⟨a, sa, f, fp, ra, rows, rfl, hF, hll, hn, h5, ok, q⟩ := h
    have s6 := ok.s6
    have p4 := ok.p4
    refine ⟨_, rfl, _, rfl, a, sa, f, fp, ra, rows, rfl, hF, hll, hn, h5, ok, fun H1 x sm1 hB => ?_⟩
    obtain ⟨dx, v, hx, hv⟩ := hB
    refine ⟨_, rfl, x, CB, dx, _, _, rfl, hx, T.clB, T.bP, lkPlan _ v, rfl, _, _, rfl, ?_, ?_⟩
    · intro e
      have en : (f.bestOf rows).plan = none := by
        cases z : (f.bestOf rows).plan with
        | none => rfl
        | some r =>
          rw [z] at hv
          obtain ⟨a0, e0, _⟩ := hv
          rw [e0] at e
          exact absurd (of_decide_eq_true e) (fun z => by cases z)
      unfold Fe.F.tell at q
      rw [en] at q
      exact EX.mono q sm1
    · intro e
      cases z : (f.bestOf rows).plan with
      | none =>
        rw [z] at hv
        have hv' : v = .non := hv
        rw [hv'] at e
        exact absurd rfl (of_decide_eq_false e)
      | some r =>
        rw [z] at hv
        obtain ⟨a0, rfl, ha0⟩ := hv
        have hlr := bestOf_len z
        refine ⟨_, rfl, _, rfl, x, CB, dx, _, _, rfl, hx, T.clB, T.bP, lkPlan _ _, a, a0, f, fp, r, rfl, hF.same sm1, SqL.of ha0, by omega, ok, fun H2 bA sm2 hbA hbL => ?_⟩
        have hx2 := sm2 _ _ hx
        have ha2 := sm2 _ _ ha0
        have hlen := Fe.flows_len f r
        refine ⟨_, rfl, x, CB, dx, _, _, rfl, hx2, T.clB, T.bB, lkBrings _ _, _, rfl, x, CB, dx, _, _, rfl, hx2, T.clB, T.bM, lkMany _ _, _, rfl, x, CB, dx, _, _, rfl, hx2, T.clB, T.bP, lkPlan _ _, a0, _, rfl, .inl (SqL.of ha2), by show 4 ≤ sizeLine; decide, fun c1 hc1 => ?_⟩
        have t1 := Same.new (o := HO.lst [V.int ((f.bestOf rows).brings : Int), V.int 1, V.int ((f.bestOf rows).many : Int), V.int ((L r).length : Nat)]) hc1
        refine ⟨_, rfl, x, CB, dx, _, _, rfl, t1 _ _ hx2, T.clB, T.bP, lkPlan _ _, c1, a0, _, _, rfl, rfl, upd_same, t1 _ _ ha2, ?_, fun c2 hc2 => ?_⟩
        · rw [L_len, sizeLine_eq]
          show 4 + r.length ≤ 16777216
          omega
        · have t2 := t1.trans (Same.new (o := HO.lst ([V.int ((f.bestOf rows).brings : Int), V.int 1, V.int ((f.bestOf rows).many : Int), V.int ((L r).length : Nat)] ++ L r)) hc2)
          refine ⟨_, rfl, bA, _, rfl, .inl (SqL.of (t2 _ _ hbL)), by show 1 ≤ sizeLine; decide, fun c3 hc3 => ?_⟩
          have n23 : c2 ≠ c3 := ne_of_none upd_same hc3
          have t3 := t2.trans (Same.new (o := HO.lst [V.int ((L (f.flows r)).length : Nat)]) hc3)
          refine ⟨c2, c3, _, _, rfl, rfl, (upd_ne n23).trans upd_same, upd_same, ?_, fun c4 hc4 => ?_⟩
          · rw [List.length_append, L_len, sizeLine_eq]
            show 4 + r.length + 1 ≤ 16777216
            omega
          · have t4 := t3.trans (Same.new (o := HO.lst (([V.int ((f.bestOf rows).brings : Int), V.int 1, V.int ((f.bestOf rows).many : Int), V.int ((L r).length : Nat)] ++ L r) ++ [V.int ((L (f.flows r)).length : Nat)])) hc4)
            refine ⟨_, rfl, c4, bA, _, _, rfl, rfl, upd_same, t4 _ _ hbL, ?_, fun c5 hc5 => ?_⟩
            · rw [List.length_append, List.length_append, L_len, L_len, sizeLine_eq]
              show 4 + r.length + 1 + (f.flows r).length ≤ 16777216
              omega
            · unfold Fe.F.tell at q
              rw [z] at q
              refine q _ c5 (((sm1.trans sm2).trans t4).trans (Same.new hc5)) (((sm1.trans sm2).trans t4).free hc5) ?_
              rw [upd_same]
              congr 2
              simp only [L_len]
              simp only [L, Fe.asInts_append, List.map_append]
              rfl
/-! ### best -/
theorem scBe : FnScope ["forest"] ["forest"] (defScope sBest) := ⟨rfl, rfl, rfl, by decide +kernel, rfl, by decide +kernel, by decide +kernel⟩
def spBest (C CR : Addr) : Sp := fun vs H Q E => ∃ (a : Addr) (f : Fe.F) (fp : List Addr), vs = [.ref a] ∧ FoAt C H a f fp ∧ Fe.Ok f ∧ Ans CR f.best H Q E
theorem rep_L : ∀ n : Nat, (List.replicate n [V.int 0]).flatten = L (List.replicate n 0)
  | 0 => rfl
  | n + 1 => by
    rw [List.replicate_succ, List.replicate_succ, List.flatten_cons, rep_L n]
    rfl
theorem has_best (D : Def K mg "best" sBest) (T : Txt K mg C CB CD CR) (h1 : Has P w K mg base CX0 1 "choices" ["forest", "given", "t"] (spChoices K C)) (h2 : Has P w K mg base (L2.CX P w) 6 "told_best" ["forest", "some"] (spToldBest K C CR)) :
    Has P w K mg base (L2.CX P w) 7 "best" ["forest"] (spBest C CR) := by
  obtain ⟨f, fd, F, m⟩ := D
  obtain ⟨f1, fd1, G1, m1, k1, b1⟩ := h1
  obtain ⟨f2, fd2, G2, m2, k2, b2⟩ := h2
  refine ⟨f, fd, ?_, m, F.kp, F.binds fun _ _ _ _ _ _ us hl => match us, hl with | [_], _ => rfl⟩
  refine F.okX scBe (fun vs H Q E h => ?_) (fun cdv A outer s H vs Q E hr h => ?_)
  · obtain ⟨_, _, _, rfl, _⟩ := h
    rfl
  · have hr1 : Room 1 _ := hr.mono (by decide)
    refine ⟨_, pss_one (ps_ret (pe_call G2 hr rfl m2 k2 b2 .nil (passes_call (takes_of rfl rfl rfl rfl) (fun _ _ _ _ h => h)) (pa_cons (pv 0) (pa_cons (pe_call G1 hr1 rfl m1 k1 b1 .nil pass0 (pa_cons (pv 0) (pa_cons (pe_op op_rep (pe_lst (pa_cons pe_int pa_nil)) (pe_callB call_len_seq (by rfl) T.nLen bLen (pa_cons (pe_fld (pv 0) rfl) pa_nil))) (pa_cons pe_int pa_nil)))) pa_nil)))), ?_⟩
    obtain ⟨a, f, fp, rfl, hF, ok, q⟩ := h
    have s6 := ok.s6
    refine ⟨_, rfl, _, rfl, by show 1 ≤ sizeLine; decide, fun c hc => ?_⟩
    have s1 := Same.new (o := HO.lst [V.int 0]) hc
    obtain ⟨dx, sA, pA, ss, ps, hI, _⟩ := hF.same s1
    refine ⟨_, rfl, a, C, dx, _, _, rfl, hI.ins, T.clF, T.fS, lkStands f sA pA, sA, _, rfl, .inl (SqL.of hI.st), ?_⟩
    have hss : (ss.map V.ref).length = f.stands.length := by rw [List.length_map, hI.sn]
    rw [hss]
    refine ⟨c, _, _, rfl, rfl, upd_same, by omega, by omega, ?_, fun d hd => ?_⟩
    · rw [sizeLine_eq]
      show 1 * f.stands.length ≤ 16777216
      omega
    · rw [show ((f.stands.length : Nat) : Int).toNat = f.stands.length from rfl, rep_L]
      have s2 := s1.trans (Same.new (o := HO.lst (L (List.replicate f.stands.length 0))) hd)
      refine ⟨a, d, 0, f, fp, List.replicate f.stands.length 0, 0, rfl, rfl, hF.same s2, SqL.of upd_same, Nat.zero_le _, by rw [List.length_replicate]; omega, ok, fun H3 qa as s3 ll => ?_⟩
      refine ⟨a, qa, f, fp, as, _, rfl, hF.same (s2.trans s3), ll, by rw [choices_len, List.length_replicate], choices_5 ok _ _, ok, Ans.mono q (s2.trans s3)⟩
/-! ### check_plan -/
theorem scCP : FnScope ["forest", "plan"] ["forest", "plan"] (defScope sCheckPlan) := ⟨rfl, rfl, rfl, by decide +kernel, rfl, by decide +kernel, by decide +kernel⟩
def spCheckPlan (C CR : Addr) : Sp := fun vs H Q E => ∃ (a pa : Addr) (f : Fe.F) (fp : List Addr) (p : List Nat), vs = [.ref a, .ref pa] ∧ FoAt C H a f fp ∧ H pa = some (.lst (L p)) ∧ p.length ≤ 20 ∧ Fe.Ok f ∧
  (f.notPlan p → EX CR [-1] H E) ∧ (¬ f.notPlan p → ∀ H', Same H H' → Q .non H')
theorem gt_max {l : List Nat} {m : Int} (bound : Nat) (h1 : m ∈ (0 : Int) :: Fe.asInts l) (h2 : ∀ y ∈ (0 : Int) :: Fe.asInts l, y ≤ m) : decide ((bound : Int) < m) = !(l.all fun v => decide (v ≤ bound)) := by
  rw [← all_le_max bound h1 h2]
  by_cases c : m ≤ (bound : Int)
  · rw [decide_eq_true c, decide_eq_false (by omega)]
    rfl
  · rw [decide_eq_false c, decide_eq_true (by omega)]
    rfl
theorem ne_int (a b : Nat) : (!decide (V.int (a : Int) = V.int (b : Int))) = decide (a ≠ b) := by
  by_cases c : a = b
  · subst c
    simp
  · have n : ¬ (V.int (a : Int) = V.int (b : Int)) := fun z => by
      injection z with z
      exact c (by omega)
    simp [c, n]
theorem has_checkPlan (D : Def K mg "check_plan" sCheckPlan) (T : Txt K mg C CB CD CR) (h3 : Has P w K mg base (L2.CX P w) 3 "refuse_if" ["asked", "number"] (spRefuseIf CR)) :
    Has P w K mg base (L2.CX P w) 4 "check_plan" ["forest", "plan"] (spCheckPlan C CR) := by
  obtain ⟨f, fd, F, m⟩ := D
  obtain ⟨f3, fd3, G3, m3, k3, b3⟩ := h3
  obtain ⟨tk, cOut⟩ := T.cOut
  refine ⟨f, fd, ?_, m, F.kp, F.binds fun _ _ _ _ _ _ us hl => match us, hl with | [_, _], _ => rfl⟩
  refine F.okX scCP (fun vs H Q E h => ?_) (fun cdv A outer s H vs Q E hr h => ?_)
  · obtain ⟨_, _, _, _, _, rfl, _⟩ := h
    rfl
  · refine ⟨_, pss_one (ps_expr (pe_call G3 hr rfl m3 k3 b3 .nil (passes_call (takes_of rfl rfl rfl rfl) (fun _ _ _ _ h => h)) (pa_cons (pe_or (pe_cmpR op_ne (pe_callB call_len_seq (by rfl) T.nLen bLen (pa_cons (pv 1) pa_nil)) (pe_callB call_len_seq (by rfl) T.nLen bLen (pa_cons (pe_fld (pv 0) rfl) pa_nil)) (nomark _))
      (pe_one (pe_cmpR op_gt (pe_callB (cr_max rfl) (by rfl) T.nMax bMax (pa_cons (pe_op op_cat (pe_lst (pa_cons pe_int pa_nil)) (pv 1)) pa_nil)) (pe_fld (pv 0) rfl) (nomark _)))) (pa_cons (pe_glob (v := .int (-1)) rfl cOut ⟨_, rfl⟩) pa_nil)))), ?_⟩
    obtain ⟨a, pa, f, fp, p, rfl, hF, hp, h20, ok, kT, kF⟩ := h
    obtain ⟨dx, sA, pA, ss, ps, hI, _⟩ := id hF
    have hss : (ss.map V.ref).length = f.stands.length := by rw [List.length_map, hI.sn]
    refine ⟨_, rfl, pa, _, rfl, .inl (SqL.of hp), _, rfl, a, C, dx, _, _, rfl, hI.ins, T.clF, T.fS, lkStands f sA pA, sA, _, rfl, .inl (SqL.of hI.st), rfl, _, rfl, ?_⟩
    rw [hss, L_len, ne_int]
    by_cases c : p.length ≠ f.stands.length
    · refine if_true_of (decide_eq_true c) ?_
      exact ⟨_, _, rfl, fun _ => kT (.inl c), fun z => by cases z⟩
    · refine if_false_of (decide_eq_false c) ?_
      refine ⟨by show 1 ≤ sizeLine; decide, fun b1 hb1 => ?_⟩
      have s1 := Same.new (o := HO.lst [V.int 0]) hb1
      refine ⟨_, rfl, b1, pa, _, _, rfl, rfl, upd_same, s1 _ _ hp, ?_, fun b2 hb2 => ?_⟩
      · rw [L_len, sizeLine_eq]
        show 1 + p.length ≤ 16777216
        omega
      · have s2 := s1.trans (Same.new (o := HO.lst ([V.int 0] ++ L p)) hb2)
        obtain ⟨dx, sA, pA, ss, ps, hI, _⟩ := hF.same s2
        refine ⟨b2, (0 : Int) :: Fe.asInts p, rfl, SqL.of (by rw [upd_same]; rfl), by simp, fun mm hm1 hm2 => ?_⟩
        refine ⟨_, rfl, a, C, dx, _, _, rfl, hI.ins, T.clF, T.fP, lkPeriods f sA pA, _, _, rfl, rfl, ?_⟩
        refine ⟨_, _, rfl, ?_, ?_⟩
        · intro e
          rw [gt_max f.periods hm1 hm2] at e
          refine EX.mono (kT (.inr ?_)) s2
          cases z : p.all fun v => decide (v ≤ f.periods) with
          | false => rfl
          | true =>
            rw [z] at e
            cases e
        · intro e
          rw [gt_max f.periods hm1 hm2] at e
          refine kF ?_ _ s2
          rintro (z | z)
          · exact c z
          · rw [z] at e
            cases e
/-! ### check -/
theorem scCk : FnScope ["forest", "plan", "wrong", "brought"] ["forest", "plan"] (defScope sCheck) := ⟨rfl, rfl, rfl, by decide +kernel, rfl, by decide +kernel, by decide +kernel⟩
def spCheck (C CR : Addr) : Sp := fun vs H Q E => ∃ (a pa : Addr) (f : Fe.F) (fp : List Addr) (p : List Nat), vs = [.ref a, .ref pa] ∧ FoAt C H a f fp ∧ H pa = some (.lst (L p)) ∧ p.length ≤ 20 ∧ Fe.Ok f ∧ Ans CR (f.check p) H Q E
theorem has_check (D : Def K mg "check" sCheck) (T : Txt K mg C CB CD CR) (h1 : Has P w K mg base (L2.CX P w) 4 "check_plan" ["forest", "plan"] (spCheckPlan C CR)) (h2 : Has P w K mg base CX0 3 "wrong_with" ["forest", "plan"] (spWrongWith K C))
    (h3 : Has P w K mg base CX0 2 "all_brought" ["forest", "plan"] (spAllBrought K C)) (R : HasR P w K mg base CR) : Has P w K mg base (L2.CX P w) 5 "check" ["forest", "plan"] (spCheck C CR) := by
  obtain ⟨f, fd, F, m⟩ := D
  obtain ⟨f1, fd1, G1, m1, k1, b1⟩ := h1
  obtain ⟨f2, fd2, G2, m2, k2, b2⟩ := h2
  obtain ⟨f3, fd3, G3, m3, k3, b3⟩ := h3
  obtain ⟨fR, fdR, GR, iR, tR, bR⟩ := R
  obtain ⟨tk, cNoPl⟩ := T.cNoPl
  refine ⟨f, fd, ?_, m, F.kp, F.binds fun _ _ _ _ _ _ us hl => match us, hl with | [_, _], _ => rfl⟩
  refine F.okX scCk (fun vs H Q E h => ?_) (fun cdv A outer s H vs Q E hr h => ?_)
  · obtain ⟨_, _, _, _, _, rfl, _⟩ := h
    rfl
  · have hr2 : Room 2 _ := hr.mono (by decide)
    have hr3 : Room 3 _ := hr.mono (by decide)
    refine ⟨_, pss_cons (ps_expr (pe_call G1 hr rfl m1 k1 b1 .nil (passes_call (takes_of rfl rfl rfl rfl) (fun _ _ _ _ h => h)) (pa_cons (pv 0) (pa_cons (pv 1) pa_nil))))
      (pss_cons (ps_set (i := 2) scCk.nd rfl (Or.inl rfl) (pe_call G2 hr3 rfl m2 k2 b2 .nil pass0 (pa_cons (pv 0) (pa_cons (pv 1) pa_nil))))
      (pss_cons (ps_if (pt_cmpR op_notN (pv 2) pe_non (nomark _)) (pss_one (ps_raise rfl (takes_of rfl rfl rfl rfl) (pmk_oex T.oex iR tR GR hr2 bR .nil pass0 rfl T.gR
        (pa_cons (pe_op op_cat (pe_lst (pa_cons (pe_glob (v := .int (-6)) rfl cNoPl ⟨_, rfl⟩) (pa_cons pe_int pa_nil))) (pe_callTy call_list_of (by rfl) T.nList bList (pa_cons (pv 2) pa_nil))) pa_nil)))) pss_nil)
      (pss_cons (ps_set (i := 3) scCk.nd rfl (Or.inl rfl) (pe_call G3 hr2 rfl m3 k3 b3 .nil pass0 (pa_cons (pv 0) (pa_cons (pv 1) pa_nil))))
      (pss_one (ps_ret (pe_op op_cat (pe_lst (pa_cons (pe_callB (cr_sum rfl) (by rfl) T.nSum bSum (pa_cons (pv 3) pa_nil)) (pa_cons (pe_callB call_len_seq (by rfl) T.nLen bLen (pa_cons (pv 3) pa_nil)) pa_nil))) (pv 3))))))), ?_⟩
    obtain ⟨a, pa, f, fp, p, rfl, hF, hp, h20, ok, q⟩ := h
    have p4 := ok.p4
    unfold Fe.F.check at q
    refine ⟨_, rfl, _, rfl, a, pa, f, fp, p, rfl, hF, hp, h20, ok, fun c => ?_, fun c H1 s1 => ?_⟩
    · rw [if_pos c] at q
      exact q
    · rw [if_neg c] at q
      obtain ⟨hl, _⟩ := Fe.notPlan_bounds c
      unfold Fe.F.checkRight at q
      refine ⟨_, rfl, _, rfl, a, pa, f, fp, p, rfl, hF.same s1, s1.seq (SqL.of hp), hl, ok, fun ew H2 s2 => ?_, fun x ew H2 t s2 ht => ?_⟩
      · rw [ew] at q
        have s12 := s1.trans s2
        refine ⟨_, rfl, rfl, _, rfl, if_false_of rfl ?_⟩
        refine ⟨_, rfl, _, rfl, a, pa, f, fp, p, rfl, hF.same s12, s12.seq (SqL.of hp), by omega, ok, fun H3 bA s3 hbA hbL => ?_⟩
        have hlen := Fe.flows_len f p
        refine ⟨_, rfl, bA, Fe.asInts (f.flows p), rfl, SqL.of hbL, _, rfl, bA, _, rfl, .inl (SqL.of hbL), by show 2 ≤ sizeLine; decide, fun c1 hc1 => ?_⟩
        have t1 := Same.new (o := HO.lst [V.int (Fe.asInts (f.flows p)).sum, V.int ((L (f.flows p)).length : Nat)]) hc1
        refine ⟨_, rfl, c1, bA, _, _, rfl, rfl, upd_same, t1 _ _ hbL, ?_, fun c2 hc2 => ?_⟩
        · rw [L_len, sizeLine_eq]
          show 2 + (f.flows p).length ≤ 16777216
          omega
        · refine q _ c2 (((s12.trans s3).trans t1).trans (Same.new hc2)) (((s12.trans s3).trans t1).free hc2) ?_
          rw [upd_same]
          congr 2
          simp only [L_len, ints_sum]
          simp only [L, Fe.asInts_append, List.map_append]
          rfl
      · rw [ew] at q
        have s12 := s1.trans s2
        refine ⟨_, rfl, rfl, _, rfl, if_true_of rfl ?_⟩
        refine ⟨by show 2 ≤ sizeLine; decide, fun c1 hc1 => ?_⟩
        have t1 := Same.new (o := HO.lst [V.int (-6), V.int 2]) hc1
        refine ⟨_, rfl, t, _, rfl, .inr (SqT.of (t1 _ _ ht)), fun c2 hc2 => ?_⟩
        have n12 : c1 ≠ c2 := ne_of_none upd_same hc2
        have t2 := t1.trans (Same.new (o := HO.lst (prV x)) hc2)
        refine ⟨c1, c2, _, _, rfl, rfl, (upd_ne n12).trans upd_same, upd_same, by show 4 ≤ sizeLine; decide, fun c3 hc3 => ?_⟩
        have t3 := t2.trans (Same.new (o := HO.lst ([V.int (-6), V.int 2] ++ prV x)) hc3)
        exact ⟨by show 1 ≤ 1000; decide, ex_made q (s12.trans t3) upd_same⟩
/-! ### goes_on -/
theorem scGo : FnScope ["forest", "t", "plan"] ["forest", "t", "plan"] (defScope sGoesOn) := ⟨rfl, rfl, rfl, by decide +kernel, rfl, by decide +kernel, by decide +kernel⟩
def spGoesOn (C CR : Addr) : Sp := fun vs H Q E => ∃ (a pa : Addr) (z : Int) (f : Fe.F) (fp : List Addr) (t : Nat) (p : List Nat), vs = [.ref a, .int z, .ref pa] ∧ z = (t : Int) ∧ FoAt C H a f fp ∧ H pa = some (.lst (L p)) ∧ p.length ≤ 20 ∧ Fe.Ok f ∧ Ans CR (f.goesOn t p) H Q E
theorem has_goesOn (D : Def K mg "goes_on" sGoesOn) (T : Txt K mg C CB CD CR) (h1 : Has P w K mg base (L2.CX P w) 4 "check_plan" ["forest", "plan"] (spCheckPlan C CR)) (h2 : Has P w K mg base CX0 1 "choices" ["forest", "given", "t"] (spChoices K C))
    (h3 : Has P w K mg base (L2.CX P w) 3 "refuse_if" ["asked", "number"] (spRefuseIf CR)) (h4 : Has P w K mg base (L2.CX P w) 6 "told_best" ["forest", "some"] (spToldBest K C CR)) :
    Has P w K mg base (L2.CX P w) 7 "goes_on" ["forest", "t", "plan"] (spGoesOn C CR) := by
  obtain ⟨f, fd, F, m⟩ := D
  obtain ⟨f1, fd1, G1, m1, k1, b1⟩ := h1
  obtain ⟨f2, fd2, G2, m2, k2, b2⟩ := h2
  obtain ⟨f3, fd3, G3, m3, k3, b3⟩ := h3
  obtain ⟨f4, fd4, G4, m4, k4, b4⟩ := h4
  obtain ⟨tk, cOut⟩ := T.cOut
  refine ⟨f, fd, ?_, m, F.kp, F.binds fun _ _ _ _ _ _ us hl => match us, hl with | [_, _, _], _ => rfl⟩
  refine F.okX scGo (fun vs H Q E h => ?_) (fun cdv A outer s H vs Q E hr h => ?_)
  · obtain ⟨_, _, _, _, _, _, _, rfl, _⟩ := h
    rfl
  · have hr1 : Room 1 _ := hr.mono (by decide)
    have hr3 : Room 3 _ := hr.mono (by decide)
    have hr4 : Room 4 _ := hr.mono (by decide)
    refine ⟨_, pss_cons (ps_expr (pe_call G1 hr4 rfl m1 k1 b1 .nil (passes_call (takes_of rfl rfl rfl rfl) (fun _ _ _ _ h => h)) (pa_cons (pv 0) (pa_cons (pv 2) pa_nil))))
      (pss_cons (ps_expr (pe_call G3 hr3 rfl m3 k3 b3 .nil (passes_call (takes_of rfl rfl rfl rfl) (fun _ _ _ _ h => h)) (pa_cons (pe_cmpR op_gt (pv 1) (pe_fld (pv 0) rfl) (nomark _)) (pa_cons (pe_glob (v := .int (-1)) rfl cOut ⟨_, rfl⟩) pa_nil))))
      (pss_one (ps_ret (pe_call G4 hr rfl m4 k4 b4 .nil (passes_call (takes_of rfl rfl rfl rfl) (fun _ _ _ _ h => h)) (pa_cons (pv 0) (pa_cons (pe_call G2 hr1 rfl m2 k2 b2 .nil pass0 (pa_cons (pv 0) (pa_cons (pv 2) (pa_cons (pv 1) pa_nil)))) pa_nil)))))), ?_⟩
    obtain ⟨a, pa, z, f, fp, t, p, rfl, rfl, hF, hp, h20, ok, q⟩ := h
    have s6 := ok.s6
    unfold Fe.F.goesOn at q
    refine ⟨_, rfl, _, rfl, a, pa, f, fp, p, rfl, hF, hp, h20, ok, fun c => ?_, fun c H1 s1 => ?_⟩
    · rw [if_pos c] at q
      exact q
    · rw [if_neg c] at q
      obtain ⟨hl, _⟩ := Fe.notPlan_bounds c
      obtain ⟨dx, sA, pA, ss, ps, hI, _⟩ := hF.same s1
      refine ⟨_, rfl, _, rfl, a, C, dx, _, _, rfl, hI.ins, T.clF, T.fP, lkPeriods f sA pA, _, _, rfl, rfl, _, _, rfl, fun e => ?_, fun e => ?_⟩
      · have d : f.periods < t := by
          have := of_decide_eq_true e
          omega
        rw [if_pos d] at q
        exact EX.mono q s1
      · have d : ¬ f.periods < t := by
          have := of_decide_eq_false e
          omega
        rw [if_neg d] at q
        refine ⟨_, rfl, _, rfl, _, rfl, _, rfl, a, pa, t, f, fp, p, t, rfl, rfl, hF.same s1, s1.seq (SqL.of hp), by omega, by omega, ok, fun H2 qa as s2 ll => ?_⟩
        exact ⟨a, qa, f, fp, as, _, rfl, hF.same (s1.trans s2), ll, by rw [choices_len]; exact hl, choices_5 ok _ _, ok, Ans.mono q (s1.trans s2)⟩
/-! ### alone -/
theorem scAl : FnScope ["forest", "some", "brings"] ["forest"] (defScope sAlone) := ⟨rfl, rfl, rfl, by decide +kernel, rfl, by decide +kernel, by decide +kernel⟩
def spAlone (C : Addr) : Sp := fun vs H Q _ => ∃ (a : Addr) (f : Fe.F) (fp : List Addr), vs = [.ref a] ∧ FoAt C H a f fp ∧ Fe.Ok f ∧ ∀ H' q, Same H H' → H q = none → H' q = some (.lst (f.alone.nums.map V.int)) → Q (.ref q) H'
theorem fold_max : ∀ (l : List Nat) (n : Nat), n ≤ l.foldl max n ∧ (∀ y ∈ l, y ≤ l.foldl max n) ∧ (l.foldl max n = n ∨ l.foldl max n ∈ l)
  | [], n => ⟨Nat.le_refl _, (fun y h => nomatch h), .inl rfl⟩
  | a :: l, n => by
    obtain ⟨h1, h2, h3⟩ := fold_max l (max n a)
    rw [List.foldl_cons]
    refine ⟨by omega, fun y hy => ?_, ?_⟩
    · rcases List.mem_cons.mp hy with e | e
      · rw [e]
        omega
      · exact h2 y e
    · rcases h3 with h3 | h3
      · rcases Nat.le_total n a with c | c
        · exact .inr (by rw [h3, Nat.max_eq_right c]; exact List.mem_cons_self)
        · exact .inl (by rw [h3, Nat.max_eq_left c])
      · exact .inr (List.mem_cons_of_mem _ h3)
theorem max_is {l : List Nat} {m : Int} (h1 : m ∈ Fe.asInts l) (h2 : ∀ y ∈ Fe.asInts l, y ≤ m) : m = ((l.foldl max 0 : Nat) : Int) := by
  obtain ⟨v, hv, e⟩ := List.mem_map.mp h1
  obtain ⟨_, g2, g3⟩ := fold_max l 0
  have a := g2 v hv
  rcases g3 with g3 | g3
  · omega
  · have := h2 (l.foldl max 0 : Nat) (List.mem_map_of_mem g3)
    omega
theorem stand_at {C : Addr} {H : Hp} {a : Addr} {f : Fe.F} {dx sA pA : Addr} {ss ps : List Addr} (h : FoIn C H a f dx sA pA ss ps) {i : Nat} {v : V} (e : (ss.map V.ref)[i]? = some v) : ∃ b l, v = .ref b ∧ f.stands[i]? = some l ∧ H b = some (.lst (L l)) := by
  rw [List.getElem?_map] at e
  cases q : ss[i]? with
  | none =>
    rw [q] at e
    cases e
  | some b =>
    rw [q] at e
    have hi : i < ss.length := (List.getElem?_eq_some_iff.mp q).1
    have hn := h.sn
    have hx : f.stands[i]? = some (f.stands[i]'(by omega)) := List.getElem?_eq_getElem _
    exact ⟨b, _, (Option.some.inj e).symm, hx, h.sl i b _ q hx⟩
theorem has_alone (D : Def K mg "alone" sAlone) (T : Txt K mg C CB CD CR) : Has P w K mg base CX0 1 "alone" ["forest"] (spAlone C) := by
  obtain ⟨f, fd, F, m⟩ := D
  refine ⟨f, fd, ?_, m, F.kp, F.binds fun _ _ _ _ _ _ us hl => match us, hl with | [_], _ => rfl⟩
  refine F.ok scAl (fun vs H Q E h => ?_) (fun cdv A outer s H vs Q E hr h => ?_)
  · obtain ⟨_, _, _, rfl, _⟩ := h
    rfl
  · refine ⟨_, pss_cons (ps_setLc (i := 1) (own := [("brings", 2)]) (g := gName 2) (tt := tYes) (by rfl) scAl.nd rfl rfl (sw_true rfl rfl rfl (by decide +kernel)) (pi_list (pe_fld (pv 0) rfl)) (blkOk_by (own := [("brings", 2)]) (N := ["forest", "some", "brings"]) (sc := defScope sAlone) (by decide +kernel))
        (fun _ _ _ _ _ => pg_name (i := 2) scAl.nd rfl (Or.inl rfl)) (fun _ _ _ _ _ => pts_nil) (te := tCB (rMax K) (tCons (tVar 2) tNil)) (fun _ _ _ _ _ => pe_callB (r := rMax K) (cr_max rfl) (by rfl) T.nMax bMax (pa_cons (pv 2) pa_nil)))
      (pss_one (ps_ret (pe_op op_cat (pe_lst (pa_cons (pe_callB (cr_sum rfl) (by rfl) T.nSum bSum (pa_cons (pv 1) pa_nil)) (pa_cons (pe_callB call_len_seq (by rfl) T.nLen bLen (pa_cons (pv 1) pa_nil)) pa_nil))) (pv 1)))), ?_⟩
    obtain ⟨a, f, fp, rfl, hF, ok, q⟩ := h
    have s6 := ok.s6
    have p1 := ok.p1
    obtain ⟨dx, sA, pA, ss, ps, hI, _⟩ := id hF
    have hss : (ss.map V.ref).length = f.stands.length := by rw [List.length_map, hI.sn]
    have hml : f.maxes.length = f.stands.length := List.length_map ..
    refine ⟨_, rfl, a, C, dx, _, _, rfl, hI.ins, T.clF, T.fS, lkStands f sA pA, sA, rfl, ⟨_, SqL.of hI.st⟩, fun DD hD => ?_⟩
    refine lc_list (K := K) (a := sA) (xs := ss.map V.ref) (fun i H' => Same H H' ∧ H' DD = some (.lst (L (f.maxes.take i)))) ⟨Same.new hD, upd_same⟩ (fun i H' _ ⟨sm, _⟩ => sm.seq (SqL.of hI.st)) ?_ ?_
    · rintro i x H1 hi ⟨sm, hDD⟩
      obtain ⟨b, l, rfl, hl, hb⟩ := stand_at hI hi
      have hlen := ok.st l (List.mem_of_getElem? hl)
      refine ⟨rfl, ?_⟩
      refine ⟨_, rfl, b, Fe.asInts l, rfl, SqL.of (sm _ _ hb), by rw [Fe.asInts_len]; omega, fun mm hm1 hm2 => ?_⟩
      refine ⟨_, hDD, ?_, ?_, ?_⟩
      · rw [L_len, List.length_take, sizeLine_eq]
        omega
      · exact fun c o e => by
          rw [upd_ne (ne_of_none e hD)]
          exact sm _ _ e
      · have e : f.maxes[i]? = some (l.foldl max 0) := by
          unfold Fe.F.maxes
          rw [List.getElem?_map, hl]
          rfl
        rw [upd_same, take_one e, L_append, max_is hm1 hm2]
        rfl
    · rintro H1 ⟨sm, hDD⟩
      rw [hss, ← hml, List.take_length] at hDD
      refine ⟨_, rfl, DD, Fe.asInts f.maxes, rfl, SqL.of hDD, _, rfl, DD, _, rfl, .inl (SqL.of hDD), by show 2 ≤ sizeLine; decide, fun c1 hc1 => ?_⟩
      have t1 := Same.new (o := HO.lst [V.int (Fe.asInts f.maxes).sum, V.int ((L f.maxes).length : Nat)]) hc1
      refine ⟨_, rfl, c1, DD, _, _, rfl, rfl, upd_same, t1 _ _ hDD, ?_, fun c2 hc2 => ?_⟩
      · rw [L_len, sizeLine_eq]
        show 2 + f.maxes.length ≤ 16777216
        omega
      · refine q _ c2 ((sm.trans t1).trans (Same.new hc2)) ((sm.trans t1).free hc2) ?_
        rw [upd_same]
        congr 2
        unfold Fe.F.alone
        simp only [L_len, ints_sum]
        simp only [L, Fe.R.nums, Fe.asInts_append, List.map_append]
        rfl
end
end Fw

set_option Elab.async false
set_option linter.all false
set_option maxRecDepth 100000
set_option maxHeartbeats 4000000
namespace Fw
open PySem PySem.Spec PyProof.Rows L2
/-- what was tracked outside of fp stands; fp' is of fp or new -/
structure Chg (H H' : Hp) (fp fp' : List Addr) : Prop where
  keep : ∀ b o, H b = some o → b ∉ fp → H' b = some o
  foot : ∀ b ∈ fp', b ∈ fp ∨ H b = none
theorem Chg.of_same {H H' : Hp} {fp : List Addr} (s : Same H H') : Chg H H' fp fp := ⟨fun b o e _ => s b o e, fun b h => .inl h⟩
theorem Chg.before {H H1 H' : Hp} {fp fp' : List Addr} (c : Chg H1 H' fp fp') (s : Same H H1) : Chg H H' fp fp' := ⟨fun b o e n => c.keep b o (s b o e) n, fun b h => (c.foot b h).imp id s.free⟩
theorem Chg.after {H H1 H' : Hp} {fp fp' : List Addr} (c : Chg H H1 fp fp') (s : Same H1 H') : Chg H H' fp fp' := ⟨fun b o e n => s b o (c.keep b o e n), c.foot⟩
/-- answered by a def that changes the forest at a -/
def AnsF (C CR a : Addr) (r : Fe.F × Fe.R) (H : Hp) (fp : List Addr) (Q : VK) (E : XK) : Prop := match r.2 with
  | .ok nums => ∀ H' q fp', FoAt C H' a r.1 fp' → Chg H H' fp fp' → H q = none → H' q = some (.lst (nums.map V.int)) → Q (.ref q) H'
  | .no nums => EX CR nums H E
def AnsD (CD C CR d : Addr) (r : Fe.F × Fe.R) (H : Hp) (fp : List Addr) (Q : VK) (E : XK) : Prop := match r.2 with
  | .ok nums => ∀ H' q fp', DeskAt CD C H' d r.1 fp' → Chg H H' fp fp' → H q = none → H' q = some (.lst (nums.map V.int)) → Q (.ref q) H'
  | .no nums => EX CR nums H E
theorem gt_all {l : List Nat} {m : Int} (bound : Nat) (h1 : m ∈ Fe.asInts l) (h2 : ∀ y ∈ Fe.asInts l, y ≤ m) : decide ((bound : Int) < m) = !(l.all fun v => decide (v ≤ bound)) := by
  obtain ⟨v, hv, e⟩ := List.mem_map.mp h1
  refine gt_max bound (List.mem_cons_of_mem _ h1) fun y hy => ?_
  rcases List.mem_cons.mp hy with z | z
  · rw [z, ← e]
    exact Int.natCast_nonneg _
  · exact h2 y z
theorem eq_int (a b : Nat) : decide (V.int (a : Int) = V.int (b : Int)) = decide (a = b) := by
  by_cases c : a = b
  · subst c
    simp
  · have n : ¬ (V.int (a : Int) = V.int (b : Int)) := fun z => by
      injection z with z
      exact c (by omega)
    simp [c, n]
section
variable {P : Program} {w : World} {K : PySem.W.Frag} {mg : Str → Option Value} {base : Heap} {C CB CD CR : Addr}
/-! ### begins -/
theorem scBg : FnScope ["desk", "n", "periods", "apart", "least", "most"] ["desk", "n"] (defScope sBegins) := ⟨rfl, rfl, rfl, by decide +kernel, rfl, by decide +kernel, by decide +kernel⟩
def spBegins (K : PySem.W.Frag) (CD C CR : Addr) : Sp := fun vs H Q E => ∃ (d na : Addr) (f : Fe.F) (fp : List Addr) (t a l m : Nat), vs = [.ref d, .ref na] ∧ DeskAt CD C H d f fp ∧ SqL K H na (L [t, a, l, m]) ∧ AnsD CD C CR d (f.begins t a l m) H fp Q E
theorem putForest (v v' : V) : putF "forest" v ([("forest", v')] : List (Str × V)) = ([("forest", v)] : List (Str × V)) := put_here
theorem has_begins (D : Def K mg "begins" sBegins) (T : Txt K mg C CB CD CR) (h1 : Has P w K mg base (L2.CX P w) 3 "refuse_if" ["asked", "number"] (spRefuseIf CR)) (hI : HasI P w K mg base C 1 ["self", "periods", "apart", "least", "most"] (spForestI C)) :
    Has P w K mg base (L2.CX P w) 4 "begins" ["desk", "n"] (spBegins K CD C CR) := by
  obtain ⟨f, fd, F, m⟩ := D
  obtain ⟨f1, fd1, G1, m1, k1, b1⟩ := h1
  obtain ⟨f2, fd2, G2, m2, b2⟩ := hI
  obtain ⟨tk1, cOut⟩ := T.cOut
  obtain ⟨tk2, cMP⟩ := T.cMP
  obtain ⟨tk3, cMB⟩ := T.cMB
  refine ⟨f, fd, ?_, m, F.kp, F.binds fun _ _ _ _ _ _ us hl => match us, hl with | [_, _], _ => rfl⟩
  refine F.okX scBg (fun vs H Q E h => ?_) (fun cdv A outer s H vs Q E hr h => ?_)
  · obtain ⟨_, _, _, _, _, _, _, _, rfl, _⟩ := h
    rfl
  · have hr2 : Room 2 _ := hr.mono (by decide)
    refine ⟨_, pss_cons (ps_asg (pv 1) (pg_unl rfl (pgs_cons (pg_name (i := 2) scBg.nd rfl (Or.inl rfl)) (pgs_cons (pg_name (i := 3) scBg.nd rfl (Or.inl rfl)) (pgs_cons (pg_name (i := 4) scBg.nd rfl (Or.inl rfl)) (pgs_cons (pg_name (i := 5) scBg.nd rfl (Or.inl rfl)) pgs_nil))))))
      (pss_cons (ps_expr (pe_call G1 hr rfl m1 k1 b1 .nil (passes_call (takes_of rfl rfl rfl rfl) (fun _ _ _ _ h => h)) (pa_cons (pe_or (pe_not (pe_chain op_le op_le pe_int (pv 2) (pe_glob (v := .int 4) rfl cMP ⟨_, rfl⟩)))
        (pe_or (pe_cmpR op_gt (pv 3) (pv 2) (nomark _)) (pe_or (pe_cmpR op_lt (pv 5) (pv 4) (nomark _)) (pe_one (pe_cmpR op_gt (pv 5) (pe_glob (v := .int 1000000) rfl cMB ⟨_, rfl⟩) (nomark _)))))) (pa_cons (pe_glob (v := .int (-1)) rfl cOut ⟨_, rfl⟩) pa_nil))))
      (pss_cons (ps_fld (pv 0) (pe_make m2 G2 hr2 rfl T.gF b2 .nil pass0 (pa_cons (pv 2) (pa_cons (pv 3) (pa_cons (pv 4) (pa_cons (pv 5) pa_nil))))) rfl)
      (pss_one (ps_ret (pe_lst (pa_cons pe_int pa_nil)))))), ?_⟩
    obtain ⟨d, na, f, fp, t, a, l, m, rfl, hD, hn, q⟩ := h
    refine ⟨_, rfl, na, [.int (t : Int), .int (a : Int), .int (l : Int), .int (m : Int)], rfl, hn, rfl, _, _, rfl, _, _, rfl, _, _, rfl, _, _, rfl, rfl, ?_⟩
    unfold Fe.F.begins at q
    -- refused, or not
    have bad : ∀ (c : Fe.noRules t a l m), AnsD CD C CR d (f, .no [-1]) H fp Q E := fun c => by
      rw [if_pos c] at q
      exact q
    have good : ∀ (c : ¬ Fe.noRules t a l m), AnsD CD C CR d (⟨t, a, l, m, [], []⟩, .ok [0]) H fp Q E := fun c => by
      rw [if_neg c] at q
      exact q
    have rest : (¬ Fe.noRules t a l m) → tSeq (sFld K (tVar 0) (tMake C (spForestI C) [] E0 (tCons (tVar 2) (tCons (tVar 3) (tCons (tVar 4) (tCons (tVar 5) tNil))))) "forest") (tRet (tLst (tCons (tC (.int 0)) tNil))) { nx := fun _ H' => Q .non H', rt := Q }
        [some (.ref d), some (.ref na), some (.int (t : Int)), some (.int (a : Int)), some (.int (l : Int)), some (.int (m : Int))] H := fun c => by
      have q' := good c
      obtain ⟨dx, fo, fp0, hd, hF, rfl⟩ := hD
      refine ⟨_, rfl, _, rfl, _, rfl, _, rfl, ?_⟩
      intro x dx1 hx hdx1 ne
      refine ⟨x, dx1, _, _, _, _, t, a, l, m, rfl, rfl, rfl, rfl, rfl, upd_same, fun H2 fp2 hF2 hfp2 keep => ⟨rfl, ?_⟩⟩
      have old : Same H H2 := fun b o e => keep b o (by rw [upd_ne (ne_of_none e hx), upd_ne (ne_of_none e hdx1)]; exact e) (ne_of_none e hx)
      have fresh2 : ∀ b ∈ fp2, H b = none := fun b hb => by
        rcases hfp2 b hb with z | z
        · rw [z]
          exact hx
        · by_cases z1 : b = x
          · rw [z1]
            exact hx
          · by_cases z2 : b = dx1
            · rw [z2]
              exact hdx1
            · rw [upd_ne z1, upd_ne z2] at z
              exact z
      have dn : d ∉ fp2 := fun z => by
        have := fresh2 d z
        rw [hd] at this
        cases this
      refine ⟨_, rfl, d, CD, dx, _, rfl, old _ _ hd, T.clD, T.dF, (by show 1 < 1000; decide), ?_⟩
      rw [putForest]
      refine ⟨by show 1 ≤ sizeLine; decide, fun c1 hc1 => ?_⟩
      have sc := Same.new (o := HO.lst [V.int 0]) hc1
      have hcd : c1 ≠ d := fun z => by
        rw [z, upd_same] at hc1
        cases hc1
      have hc1' : H2 c1 = none := by
        rw [upd_ne hcd] at hc1
        exact hc1
      refine q' _ c1 (d :: fp2) ⟨dx, x, fp2, sc _ _ upd_same, (hF2.keep fun b o hb e => by rw [upd_ne (fun z : b = d => dn (z ▸ hb))]; exact e).same sc, rfl⟩ ⟨fun b o e hb => ?_, fun b hb => ?_⟩ (old.free hc1') upd_same
      · refine sc _ _ ?_
        rw [upd_ne (fun z : b = d => hb (z ▸ List.mem_cons_self))]
        exact old b o e
      · rcases List.mem_cons.mp hb with z | z
        · rw [z]
          exact .inl List.mem_cons_self
        · exact .inr (fresh2 b z)
    refine ⟨_, rfl, _, _, rfl, rfl, _, rfl, ?_⟩
    by_cases c1 : 1 ≤ t
    · refine if_true_of (decide_eq_true (by omega)) ?_
      refine ⟨_, _, rfl, rfl, _, rfl, _, rfl, ?_⟩
      by_cases c2 : t ≤ 4
      · refine if_false_of (by rw [decide_eq_true (by omega)]; rfl) ?_
        refine ⟨_, rfl, _, rfl, _, _, rfl, rfl, _, rfl, ?_⟩
        by_cases c3 : t < a
        · refine if_true_of (decide_eq_true (by omega)) ?_
          exact ⟨_, _, rfl, fun _ => bad (.inr (.inr (.inl c3))), fun z => by cases z⟩
        · refine if_false_of (decide_eq_false (by omega)) ?_
          refine ⟨_, rfl, _, rfl, _, _, rfl, rfl, _, rfl, ?_⟩
          by_cases c4 : m < l
          · refine if_true_of (decide_eq_true (by omega)) ?_
            exact ⟨_, _, rfl, fun _ => bad (.inr (.inr (.inr (.inl c4)))), fun z => by cases z⟩
          · refine if_false_of (decide_eq_false (by omega)) ?_
            refine ⟨_, rfl, _, _, rfl, rfl, _, _, rfl, fun e => ?_, fun e => ?_⟩
            · have := of_decide_eq_true e
              exact bad (.inr (.inr (.inr (.inr (by omega)))))
            · have := of_decide_eq_false e
              exact rest (by unfold Fe.noRules; omega)
      · refine if_true_of (by rw [decide_eq_false (by omega)]; rfl) ?_
        exact ⟨_, _, rfl, fun _ => bad (.inr (.inl (by omega))), fun z => by cases z⟩
    · refine if_false_of (decide_eq_false (by omega)) ?_
      refine ⟨_, rfl, _, rfl, if_true_of rfl ?_⟩
      exact ⟨_, _, rfl, fun _ => bad (.inl (by omega)), fun z => by cases z⟩
/-! ### stand -/
theorem scSt : FnScope ["forest", "brings"] ["forest", "brings"] (defScope sStand) := ⟨rfl, rfl, rfl, by decide +kernel, rfl, by decide +kernel, by decide +kernel⟩
def spStand (K : PySem.W.Frag) (C CR : Addr) : Sp := fun vs H Q E => ∃ (a ba : Addr) (f : Fe.F) (fp : List Addr) (l : List Nat), vs = [.ref a, .ref ba] ∧ FoAt C H a f fp ∧ SqL K H ba (L l) ∧ Fe.Ok f ∧ AnsF C CR a (f.stand l) H fp Q E
theorem has_stand (D : Def K mg "stand" sStand) (T : Txt K mg C CB CD CR) (h1 : Has P w K mg base (L2.CX P w) 3 "refuse_if" ["asked", "number"] (spRefuseIf CR)) : Has P w K mg base (L2.CX P w) 4 "stand" ["forest", "brings"] (spStand K C CR) := by
  obtain ⟨f, fd, F, m⟩ := D
  obtain ⟨f1, fd1, G1, m1, k1, b1⟩ := h1
  obtain ⟨tk1, cOut⟩ := T.cOut
  obtain ⟨tk2, cMS⟩ := T.cMS
  obtain ⟨tk3, cMB⟩ := T.cMB
  obtain ⟨tk4, cFull⟩ := T.cFull
  refine ⟨f, fd, ?_, m, F.kp, F.binds fun _ _ _ _ _ _ us hl => match us, hl with | [_, _], _ => rfl⟩
  refine F.okX scSt (fun vs H Q E h => ?_) (fun cdv A outer s H vs Q E hr h => ?_)
  · obtain ⟨_, _, _, _, _, rfl, _⟩ := h
    rfl
  · refine ⟨_, pss_cons (ps_expr (pe_call G1 hr rfl m1 k1 b1 .nil (passes_call (takes_of rfl rfl rfl rfl) (fun _ _ _ _ h => h)) (pa_cons (pe_or (pe_cmpR op_ne (pe_callB call_len_seq (by rfl) T.nLen bLen (pa_cons (pv 1) pa_nil)) (pe_fld (pv 0) rfl) (nomark _))
        (pe_one (pe_cmpR op_gt (pe_callB (cr_max rfl) (by rfl) T.nMax bMax (pa_cons (pv 1) pa_nil)) (pe_glob (v := .int 1000000) rfl cMB ⟨_, rfl⟩) (nomark _)))) (pa_cons (pe_glob (v := .int (-1)) rfl cOut ⟨_, rfl⟩) pa_nil))))
      (pss_cons (ps_expr (pe_call G1 hr rfl m1 k1 b1 .nil (passes_call (takes_of rfl rfl rfl rfl) (fun _ _ _ _ h => h)) (pa_cons (pe_cmpR op_eq (pe_callB call_len_seq (by rfl) T.nLen bLen (pa_cons (pe_fld (pv 0) rfl) pa_nil)) (pe_glob (v := .int 6) rfl cMS ⟨_, rfl⟩) (nomark _)) (pa_cons (pe_glob (v := .int (-5)) rfl cFull ⟨_, rfl⟩) pa_nil))))
      (pss_cons (ps_expr (pe_bm PySem.F.plainAttrs_list PySem.F.slot_list_append PySem.F.type_list_append mt_append (pe_fld (pv 0) rfl) (pa_cons (pe_callTy call_list_of (by rfl) T.nList bList (pa_cons (pv 1) pa_nil)) pa_nil)))
      (pss_one (ps_ret (pe_lst (pa_cons (pe_op op_sub (pe_callB call_len_seq (by rfl) T.nLen bLen (pa_cons (pe_fld (pv 0) rfl) pa_nil)) pe_int) pa_nil)))))), ?_⟩
    obtain ⟨a, ba, f, fp, l, rfl, hF, hb, ok, q⟩ := h
    obtain ⟨dx, sA, pA, ss, ps, hI, rfl⟩ := hF
    have s6 := ok.s6
    have p1 := ok.p1
    have hss : (ss.map V.ref).length = f.stands.length := by rw [List.length_map, hI.sn]
    unfold Fe.F.stand at q
    have rest : (¬ f.noStand l) → AnsF C CR a (if f.stands.length = 6 then (f, .no [-5]) else ({ f with stands := f.stands ++ [l] }, .ok [(f.stands.length : Int)])) H (foot a sA pA ss ps) Q E := fun c => by
      rw [if_neg c] at q
      exact q
    have bad : f.noStand l → EX CR [-1] H E := fun c => by
      rw [if_pos c] at q
      exact q
    refine ⟨_, rfl, ba, _, rfl, .inl hb, _, rfl, a, C, dx, _, _, rfl, hI.ins, T.clF, T.fP, lkPeriods f sA pA, rfl, _, rfl, ?_⟩
    rw [L_len, ne_int]
    by_cases c : l.length ≠ f.periods
    · refine if_true_of (decide_eq_true c) ?_
      exact ⟨_, _, rfl, fun _ => bad (.inl c), fun z => by cases z⟩
    · refine if_false_of (decide_eq_false c) ?_
      refine ⟨_, rfl, ba, Fe.asInts l, rfl, hb, by rw [Fe.asInts_len]; omega, fun mm hm1 hm2 => ?_⟩
      have eg := gt_all 1000000 hm1 hm2
      refine ⟨_, _, rfl, rfl, _, _, rfl, fun e => ?_, fun e => ?_⟩
      · have e' : decide (((1000000 : Nat) : Int) < mm) = true := e
        rw [eg] at e'
        refine bad (.inr ?_)
        cases z : l.all fun v => decide (v ≤ 1000000) with
        | false => rfl
        | true =>
          rw [z] at e'
          cases e'
      · have e' : decide (((1000000 : Nat) : Int) < mm) = false := e
        rw [eg] at e'
        have q' := rest (by
          rintro (z | z)
          · exact c z
          · rw [z] at e'
            cases e')
        refine ⟨_, rfl, a, C, dx, _, _, rfl, hI.ins, T.clF, T.fS, lkStands f sA pA, sA, _, rfl, .inl (SqL.of hI.st), rfl, ?_⟩
        rw [hss]
        refine ⟨_, _, rfl, fun e6 => ?_, fun e6 => ?_⟩
        · have e6' : decide (V.int (f.stands.length : Int) = V.int ((6 : Nat) : Int)) = true := e6
          rw [eq_int] at e6'
          rw [if_pos (of_decide_eq_true e6')] at q'
          exact q'
        · have e6' : decide (V.int (f.stands.length : Int) = V.int ((6 : Nat) : Int)) = false := e6
          rw [eq_int] at e6'
          rw [if_neg (of_decide_eq_false e6')] at q'
          refine ⟨_, rfl, a, C, dx, _, _, rfl, hI.ins, T.clF, T.fS, lkStands f sA pA, Or.inl ⟨rfl, _, SqL.of hI.st⟩, _, rfl, ba, _, rfl, .inl hb, fun b hb0 => ?_⟩
          have s1 := Same.new (o := HO.lst (L l)) hb0
          have nbs : b ≠ sA := Ne.symm (ne_of_none hI.st hb0)
          have nbp : b ≠ pA := Ne.symm (ne_of_none hI.pr hb0)
          have nas : a ≠ sA := ne_of hI.ins hI.st (by intro z; cases z)
          have nps : pA ≠ sA := Ne.symm hI.ne
          refine ⟨sA, ss.map V.ref, .ref b, rfl, rfl, s1 _ _ hI.st, by rw [hss, sizeLine_eq]; omega, ?_⟩
          -- the forest, one stand more
          have hI2 : FoIn C (upd (upd H b (.lst (L l))) sA (.lst (ss.map V.ref ++ [.ref b]))) a { f with stands := f.stands ++ [l] } dx sA pA (ss ++ [b]) ps := by
            refine ⟨?_, ?_, ?_, ?_, fun i b' l' h1 h2 => ?_, hI.pn, fun i b' x h1 h2 => ?_, hI.ne, fun b' hb' => ?_⟩
            · rw [upd_ne nas]
              exact s1 _ _ hI.ins
            · rw [upd_same, List.map_append]
              rfl
            · rw [upd_ne nps]
              exact s1 _ _ hI.pr
            · show (ss ++ [b]).length = (f.stands ++ [l]).length
              rw [List.length_append, List.length_append, hI.sn]
              rfl
            · have h2' : (f.stands ++ [l])[i]? = some l' := h2
              by_cases hi : i < ss.length
              · rw [List.getElem?_append_left hi] at h1
                rw [List.getElem?_append_left (by have := hI.sn; omega)] at h2'
                rw [upd_ne (hI.sne b' (List.mem_of_getElem? h1)).1]
                exact s1 _ _ (hI.sl i b' l' h1 h2')
              · have hn := hI.sn
                rw [List.getElem?_append_right (by omega)] at h1
                rw [List.getElem?_append_right (by omega)] at h2'
                have e0 : i - ss.length = 0 := by
                  cases z : i - ss.length with
                  | zero => rfl
                  | succ n =>
                    rw [z] at h1
                    cases h1
                rw [e0] at h1
                rw [show i - f.stands.length = 0 by omega] at h2'
                cases h1
                cases h2'
                rw [upd_ne nbs, upd_same]
            · have h3 := hI.pl i b' x h1 h2
              rw [upd_ne (ne_of h3 hI.st (by intro z; cases z))]
              exact s1 _ _ h3
            · rcases List.mem_append.mp hb' with z | z
              · exact hI.sne b' z
              · rw [List.mem_singleton] at z
                rw [z]
                exact ⟨nbs, nbp⟩
          refine ⟨_, rfl, a, C, dx, _, _, rfl, hI2.ins, T.clF, T.fS, lkStands _ sA pA, sA, _, rfl, .inl (SqL.of hI2.st), _, _, rfl, rfl, by show 1 ≤ sizeLine; decide, fun c1 hc1 => ?_⟩
          have s3 := Same.new (o := HO.lst [V.int (((ss ++ [b]).map V.ref).length - 1 : Int)]) hc1
          refine q' _ c1 (foot a sA pA (ss ++ [b]) ps) (FoAt.same ⟨dx, sA, pA, _, _, hI2, rfl⟩ s3) ⟨fun b' o e hb' => ?_, fun b' hb' => ?_⟩ ?_ ?_
          · refine s3 _ _ ?_
            rw [upd_ne (fun z => hb' (by rw [z]; simp [foot]))]
            exact s1 _ _ e
          · simp only [foot, List.mem_cons, List.mem_append, List.not_mem_nil, or_false] at hb'
            simp only [foot, List.mem_cons, List.mem_append]
            rcases hb' with z | z | z | (z | z) | z
            · exact .inl (.inl z)
            · exact .inl (.inr (.inl z))
            · exact .inl (.inr (.inr (.inl z)))
            · exact .inl (.inr (.inr (.inr (.inl z))))
            · rw [z]
              exact .inr hb0
            · exact .inl (.inr (.inr (.inr (.inr z))))
          · have ncs : c1 ≠ sA := fun z => by
              rw [z, upd_same] at hc1
              cases hc1
            rw [upd_ne ncs] at hc1
            exact s1.free hc1
          · rw [upd_same]
            congr 2
            show [V.int ((((ss ++ [b]).map V.ref).length : Int) - 1)] = [V.int (f.stands.length : Int)]
            rw [List.length_map, List.length_append, hI.sn]
            congr 2
            show ((f.stands.length + 1 : Nat) : Int) - 1 = _
            omega
end
end Fw

set_option Elab.async false
set_option linter.all false
set_option maxRecDepth 100000
set_option maxHeartbeats 4000000
namespace Fw
open PySem PySem.Spec PyProof.Rows L2
section
variable {P : Program} {w : World} {K : PySem.W.Frag} {mg : Str → Option Value} {base : Heap} {C CB CD CR : Addr}
/-! ### pair_of -/
theorem scPO : FnScope ["forest", "i", "j", "pair"] ["forest", "i", "j"] (defScope sPairOf) := ⟨rfl, rfl, rfl, by decide +kernel, rfl, by decide +kernel, by decide +kernel⟩
def spPairOf (C : Addr) : Sp := fun vs H Q _ => ∃ (a : Addr) (f : Fe.F) (fp : List Addr) (i j : Nat), vs = [.ref a, .int (i : Int), .int (j : Int)] ∧ FoAt C H a f fp ∧
  (f.pairOf i j = none → ∀ H', Same H H' → Q .non H') ∧ (∀ g, f.pairOf i j = some g → ∀ H' t, Same H H' → H' t = some (.tup (prV g)) → Q (.ref t) H')
theorem dp_pairs {H : Hp} {a : Addr} {f : Fe.F} {dx sA pA : Addr} {ss ps : List Addr} (h : FoIn C H a f dx sA pA ss ps) : Dp K H (.ref pA) (.list (f.pairs.map prD)) :=
  .lst (SqL.of h.pr) (dp_all h.pn h.pl)
theorem has_pairOf (D : Def K mg "pair_of" sPairOf) (T : Txt K mg C CB CD CR) : Has P w K mg base CX0 1 "pair_of" ["forest", "i", "j"] (spPairOf C) := by
  obtain ⟨f, fd, F, m⟩ := D
  refine ⟨f, fd, ?_, m, F.kp, F.binds fun _ _ _ _ _ _ us hl => match us, hl with | [_, _, _], _ => rfl⟩
  refine F.ok scPO (fun vs H Q E h => ?_) (fun cdv A outer s H vs Q E hr h => ?_)
  · obtain ⟨_, _, _, _, _, rfl, _⟩ := h
    rfl
  · have hu : A.units + 3 + 65 < cLine := by
      have := hr.un
      have e : (A.deeper (envOfC "pair_of" (defScope sPairOf) s.heap.objs.size f cdv)).units = A.units + 3 := rfl
      rw [e] at this
      omega
    refine ⟨_, pss_cons (ps_for PassesOwn.never rfl (pi_tup (pe_tup (pa_cons (pe_tup (pa_cons (pv 1) (pa_cons (pv 2) pa_nil))) (pa_cons (pe_tup (pa_cons (pv 2) (pa_cons (pv 1) pa_nil))) pa_nil)))) (pg_name (i := 3) scPO.nd rfl (Or.inl rfl))
        (pss_one (ps_if (pt_cmpR (op_inD hu) (pv 3) (pe_fld (pv 0) rfl) rfl) (pss_one (ps_ret (pv 3))) pss_nil)))
      (pss_one (ps_ret pe_non)), ?_⟩
    obtain ⟨a, f, fp, i, j, rfl, hF, qN, qS⟩ := h
    refine ⟨_, rfl, _, rfl, by show 2 ≤ sizeLine; decide, fun t1 ht1 => ⟨_, rfl, _, rfl, by show 2 ≤ sizeLine; decide, fun t2 ht2 => ⟨by show 2 ≤ sizeLine; decide, fun t3 ht3 => ?_⟩⟩⟩
    have n12 : t1 ≠ t2 := ne_of_none upd_same ht2
    have n23 : t2 ≠ t3 := ne_of_none upd_same ht3
    have n13 : t1 ≠ t3 := ne_of_none ((upd_ne n12).trans upd_same) ht3
    have s3 : Same H _ := ((Same.new (o := HO.tup [.int (i : Int), .int (j : Int)]) ht1).trans (Same.new (o := HO.tup [.int (j : Int), .int (i : Int)]) ht2)).trans (Same.new (o := HO.tup [.ref t1, .ref t2]) ht3)
    have h1 : upd (upd (upd H t1 (.tup [.int (i : Int), .int (j : Int)])) t2 (.tup [.int (j : Int), .int (i : Int)])) t3 (.tup [.ref t1, .ref t2]) t1 = some (.tup (prV (i, j))) := (upd_ne n13).trans ((upd_ne n12).trans upd_same)
    have h2 : upd (upd (upd H t1 (.tup [.int (i : Int), .int (j : Int)])) t2 (.tup [.int (j : Int), .int (i : Int)])) t3 (.tup [.ref t1, .ref t2]) t2 = some (.tup (prV (j, i))) := (upd_ne n23).trans upd_same
    generalize hH3 : upd (upd (upd H t1 (.tup [.int (i : Int), .int (j : Int)])) t2 (.tup [.int (j : Int), .int (i : Int)])) t3 (.tup [.ref t1, .ref t2]) = H3 at *
    have ht : H3 t3 = some (.tup [.ref t1, .ref t2]) := by
      rw [← hH3]
      exact upd_same
    obtain ⟨dx, sA, pA, ss, ps, hI, _⟩ := hF.same s3
    refine ⟨t3, rfl, ⟨_, SqT.of ht⟩, for_tup (K := K) (a := t3) (xs := [.ref t1, .ref t2]) (fun k σ H' => ∃ v3, σ = [some (.ref a), some (.int (i : Int)), some (.int (j : Int)), v3] ∧ H' = H3 ∧ (1 ≤ k → (i, j) ∉ f.pairs) ∧ (2 ≤ k → (j, i) ∉ f.pairs))
      ⟨none, rfl, rfl, fun z => absurd z (by decide), fun z => absurd z (by decide)⟩ (fun k σ H' _ ⟨_, _, e, _⟩ => by rw [e]; exact SqT.of ht) ?_ ?_⟩
    · rintro k x σ H4 hk ⟨v3, rfl, rfl, no1, no2⟩
      match k, hk with
      | 0, hk =>
        cases hk
        refine ⟨_, rfl, _, rfl, a, C, dx, _, _, rfl, hI.ins, T.clF, T.fR, lkPairs f sA pA, _, _, dp_pair h1, dp_pairs hI, prD_shaped _, prDs_shaped _, _, rfl, ?_⟩
        rw [any_eqv]
        by_cases c : (i, j) ∈ f.pairs
        · refine if_true_of (decide_eq_true c) ⟨_, rfl, ?_⟩
          exact qS (i, j) (if_pos c) _ t1 s3 h1
        · refine if_false_of (decide_eq_false c) ⟨_, rfl, rfl, fun _ => c, fun z => absurd z (by decide)⟩
      | 1, hk =>
        cases hk
        have c := no1 (Nat.le_refl _)
        refine ⟨_, rfl, _, rfl, a, C, dx, _, _, rfl, hI.ins, T.clF, T.fR, lkPairs f sA pA, _, _, dp_pair h2, dp_pairs hI, prD_shaped _, prDs_shaped _, _, rfl, ?_⟩
        rw [any_eqv]
        by_cases c2 : (j, i) ∈ f.pairs
        · refine if_true_of (decide_eq_true c2) ⟨_, rfl, ?_⟩
          exact qS (j, i) ((if_neg c).trans (if_pos c2)) _ t2 s3 h2
        · refine if_false_of (decide_eq_false c2) ⟨_, rfl, rfl, fun _ => c, fun _ => c2⟩
      | k + 2, hk => cases hk
    · rintro σ H4 ⟨v3, rfl, rfl, no1, no2⟩
      have c := no1 (by show 1 ≤ 2; decide)
      have c2 := no2 (by show 2 ≤ 2; decide)
      exact qN ((if_neg c).trans (if_neg c2)) _ s3
/-! ### near -/
theorem scNe : FnScope ["forest", "i", "j"] ["forest", "i", "j"] (defScope sNear) := ⟨rfl, rfl, rfl, by decide +kernel, rfl, by decide +kernel, by decide +kernel⟩
def spNear (C CR : Addr) : Sp := fun vs H Q E => ∃ (a : Addr) (f : Fe.F) (fp : List Addr) (i j : Nat), vs = [.ref a, .int (i : Int), .int (j : Int)] ∧ FoAt C H a f fp ∧ Fe.Ok f ∧ AnsF C CR a (f.beNear i j) H fp Q E
theorem has_near (D : Def K mg "near" sNear) (T : Txt K mg C CB CD CR) (h1 : Has P w K mg base (L2.CX P w) 3 "refuse_if" ["asked", "number"] (spRefuseIf CR)) (h2 : Has P w K mg base CX0 1 "pair_of" ["forest", "i", "j"] (spPairOf C)) :
    Has P w K mg base (L2.CX P w) 4 "near" ["forest", "i", "j"] (spNear C CR) := by
  obtain ⟨f, fd, F, m⟩ := D
  obtain ⟨f1, fd1, G1, m1, k1, b1⟩ := h1
  obtain ⟨f2, fd2, G2, m2, k2, b2⟩ := h2
  obtain ⟨tk1, cNoSt⟩ := T.cNoSt
  obtain ⟨tk2, cIsSo⟩ := T.cIsSo
  refine ⟨f, fd, ?_, m, F.kp, F.binds fun _ _ _ _ _ _ us hl => match us, hl with | [_, _, _], _ => rfl⟩
  refine F.okX scNe (fun vs H Q E h => ?_) (fun cdv A outer s H vs Q E hr h => ?_)
  · obtain ⟨_, _, _, _, _, rfl, _⟩ := h
    rfl
  · have hr1 : Room 1 _ := hr.mono (by decide)
    refine ⟨_, pss_cons (ps_expr (pe_call G1 hr rfl m1 k1 b1 .nil (passes_call (takes_of rfl rfl rfl rfl) (fun _ _ _ _ h => h)) (pa_cons (pe_cmpR op_ge (pe_callB (call_max2 rfl) (by rfl) T.nMax bMax (pa_cons (pv 1) (pa_cons (pv 2) pa_nil))) (pe_callB call_len_seq (by rfl) T.nLen bLen (pa_cons (pe_fld (pv 0) rfl) pa_nil)) (nomark _))
        (pa_cons (pe_glob (v := .int (-2)) rfl cNoSt ⟨_, rfl⟩) pa_nil))))
      (pss_cons (ps_expr (pe_call G1 hr rfl m1 k1 b1 .nil (passes_call (takes_of rfl rfl rfl rfl) (fun _ _ _ _ h => h)) (pa_cons (pe_or (pe_cmpR op_eq (pv 1) (pv 2) (nomark _)) (pe_one (pe_cmpR op_notN (pe_call G2 hr1 rfl m2 k2 b2 .nil pass0 (pa_cons (pv 0) (pa_cons (pv 1) (pa_cons (pv 2) pa_nil)))) pe_non (nomark _))))
        (pa_cons (pe_glob (v := .int (-3)) rfl cIsSo ⟨_, rfl⟩) pa_nil))))
      (pss_cons (ps_expr (pe_bm PySem.F.plainAttrs_list PySem.F.slot_list_append PySem.F.type_list_append mt_append (pe_fld (pv 0) rfl) (pa_cons (pe_tup (pa_cons (pv 1) (pa_cons (pv 2) pa_nil))) pa_nil)))
      (pss_one (ps_ret (pe_lst (pa_cons (pe_op op_sub (pe_callB call_len_seq (by rfl) T.nLen bLen (pa_cons (pe_fld (pv 0) rfl) pa_nil)) pe_int) pa_nil)))))), ?_⟩
    obtain ⟨a, f, fp, i, j, rfl, hF, ok, q⟩ := h
    obtain ⟨dx, sA, pA, ss, ps, hI, rfl⟩ := id hF
    have few := ok.few
    have hss : (ss.map V.ref).length = f.stands.length := by rw [List.length_map, hI.sn]
    have hps : (ps.map V.ref).length = f.pairs.length := by rw [List.length_map, hI.pn]
    unfold Fe.F.beNear at q
    refine ⟨_, rfl, _, rfl, _, _, rfl, _, rfl, a, C, dx, _, _, rfl, hI.ins, T.clF, T.fS, lkStands f sA pA, sA, _, rfl, .inl (SqL.of hI.st), _, _, rfl, rfl, ?_⟩
    rw [hss]
    have emax : decide ((f.stands.length : Int) ≤ (if (j : Int) > (i : Int) then (j : Int) else (i : Int))) = decide (f.stands.length ≤ max i j) := by
      rw [Bool.eq_iff_iff, decide_eq_true_eq, decide_eq_true_eq]
      by_cases c : (j : Int) > (i : Int)
      · rw [if_pos c]
        omega
      · rw [if_neg c]
        omega
    refine ⟨_, _, rfl, fun e => ?_, fun e => ?_⟩
    · rw [emax] at e
      rw [if_pos (of_decide_eq_true e)] at q
      exact q
    · rw [emax] at e
      rw [if_neg (of_decide_eq_false e)] at q
      refine ⟨_, rfl, _, rfl, rfl, _, rfl, ?_⟩
      rw [eq_int]
      by_cases c : i = j
      · refine if_true_of (decide_eq_true c) ?_
        rw [if_pos (.inl c)] at q
        exact ⟨_, _, rfl, fun _ => q, fun z => by cases z⟩
      · refine if_false_of (decide_eq_false c) ?_
        refine ⟨_, rfl, _, rfl, _, rfl, a, f, _, i, j, rfl, hF, fun hn H1 s1 => ?_, fun g hg H1 t s1 ht => ?_⟩
        · rw [if_neg (fun z => z.elim c fun z => z hn)] at q
          obtain ⟨dx', sA', pA', ss', ps', hI1', e'⟩ := hF.same s1
          refine ⟨rfl, _, _, rfl, (fun z => by cases z), fun _ => ?_⟩
          have hI1 := hI.same (fun b o _ z => s1 b o z)
          refine ⟨_, rfl, a, C, dx, _, _, rfl, hI1.ins, T.clF, T.fR, lkPairs f sA pA, Or.inl ⟨rfl, _, SqL.of hI1.pr⟩, _, rfl, _, rfl, by show 2 ≤ sizeLine; decide, fun b hb0 => ?_⟩
          have s2 := Same.new (o := HO.tup [.int (i : Int), .int (j : Int)]) hb0
          have s12 := s1.trans s2
          have nbp : b ≠ pA := Ne.symm (ne_of_none hI1.pr hb0)
          have nap : a ≠ pA := ne_of hI.ins hI.pr (by intro z; cases z)
          refine ⟨pA, ps.map V.ref, .ref b, rfl, rfl, s2 _ _ hI1.pr, by rw [hps, sizeLine_eq]; omega, ?_⟩
          have hI2 : FoIn C (upd (upd H1 b (.tup [.int (i : Int), .int (j : Int)])) pA (.lst (ps.map V.ref ++ [.ref b]))) a { f with pairs := f.pairs ++ [(i, j)] } dx sA pA ss (ps ++ [b]) := by
            refine ⟨?_, ?_, ?_, hI.sn, fun k b' l' h1 h2 => ?_, ?_, fun k b' x h1 h2 => ?_, hI.ne, hI.sne⟩
            · rw [upd_ne nap]
              exact s2 _ _ hI1.ins
            · rw [upd_ne hI.ne]
              exact s2 _ _ hI1.st
            · rw [upd_same, List.map_append]
              rfl
            · rw [upd_ne (hI.sne b' (List.mem_of_getElem? h1)).2]
              exact s2 _ _ (hI1.sl k b' l' h1 h2)
            · show (ps ++ [b]).length = (f.pairs ++ [(i, j)]).length
              rw [List.length_append, List.length_append, hI.pn]
              rfl
            · have h2' : (f.pairs ++ [(i, j)])[k]? = some x := h2
              by_cases hi : k < ps.length
              · rw [List.getElem?_append_left hi] at h1
                rw [List.getElem?_append_left (by have := hI.pn; omega)] at h2'
                have h3 := hI1.pl k b' x h1 h2'
                rw [upd_ne (ne_of h3 hI1.pr (by intro z; cases z))]
                exact s2 _ _ h3
              · have hn := hI.pn
                rw [List.getElem?_append_right (by omega)] at h1
                rw [List.getElem?_append_right (by omega)] at h2'
                have e0 : k - ps.length = 0 := by
                  cases z : k - ps.length with
                  | zero => rfl
                  | succ n =>
                    rw [z] at h1
                    cases h1
                rw [e0] at h1
                rw [show k - f.pairs.length = 0 by omega] at h2'
                cases h1
                cases h2'
                rw [upd_ne nbp, upd_same]
                rfl
          refine ⟨_, rfl, a, C, dx, _, _, rfl, hI2.ins, T.clF, T.fR, lkPairs _ sA pA, pA, _, rfl, .inl (SqL.of hI2.pr), _, _, rfl, rfl, by show 1 ≤ sizeLine; decide, fun c1 hc1 => ?_⟩
          have s3 := Same.new (o := HO.lst [V.int (((ps ++ [b]).map V.ref).length - 1 : Int)]) hc1
          refine q _ c1 (foot a sA pA ss (ps ++ [b])) (FoAt.same ⟨dx, sA, pA, _, _, hI2, rfl⟩ s3) ⟨fun b' o e hb' => ?_, fun b' hb' => ?_⟩ ?_ ?_
          · refine s3 _ _ ?_
            rw [upd_ne (fun z => hb' (by rw [z]; simp [foot]))]
            exact s12 _ _ e
          · simp only [foot, List.mem_cons, List.mem_append, List.not_mem_nil, or_false] at hb'
            simp only [foot, List.mem_cons, List.mem_append]
            rcases hb' with z | z | z | z | z | z
            · exact .inl (.inl z)
            · exact .inl (.inr (.inl z))
            · exact .inl (.inr (.inr (.inl z)))
            · exact .inl (.inr (.inr (.inr (.inl z))))
            · exact .inl (.inr (.inr (.inr (.inr z))))
            · rw [z]
              exact .inr (s1.free hb0)
          · have ncs : c1 ≠ pA := fun z => by
              rw [z, upd_same] at hc1
              cases hc1
            rw [upd_ne ncs] at hc1
            exact s12.free hc1
          · rw [upd_same]
            congr 2
            show [V.int ((((ps ++ [b]).map V.ref).length : Int) - 1)] = [V.int (f.pairs.length : Int)]
            rw [List.length_map, List.length_append, hI.pn]
            congr 2
            show ((f.pairs.length + 1 : Nat) : Int) - 1 = _
            omega
        · rw [if_pos (.inr (by rw [hg]; intro z; cases z))] at q
          exact ⟨rfl, _, _, rfl, fun _ => EX.mono q s1, fun z => by cases z⟩
/-! ### far -/
theorem scFr : FnScope ["forest", "i", "j", "gone", "pair"] ["forest", "i", "j"] (defScope sFar) := ⟨rfl, rfl, rfl, by decide +kernel, rfl, by decide +kernel, by decide +kernel⟩
def spFar (C CR : Addr) : Sp := fun vs H Q E => ∃ (a : Addr) (f : Fe.F) (fp : List Addr) (i j : Nat), vs = [.ref a, .int (i : Int), .int (j : Int)] ∧ FoAt C H a f fp ∧ Fe.Ok f ∧ AnsF C CR a (f.beFar i j) H fp Q E
theorem has_far (D : Def K mg "far" sFar) (T : Txt K mg C CB CD CR) (h1 : Has P w K mg base (L2.CX P w) 3 "refuse_if" ["asked", "number"] (spRefuseIf CR)) (h2 : Has P w K mg base CX0 1 "pair_of" ["forest", "i", "j"] (spPairOf C)) :
    Has P w K mg base (L2.CX P w) 4 "far" ["forest", "i", "j"] (spFar C CR) := by
  obtain ⟨f, fd, F, m⟩ := D
  obtain ⟨f1, fd1, G1, m1, k1, b1⟩ := h1
  obtain ⟨f2, fd2, G2, m2, k2, b2⟩ := h2
  obtain ⟨tk1, cNoSt⟩ := T.cNoSt
  refine ⟨f, fd, ?_, m, F.kp, F.binds fun _ _ _ _ _ _ us hl => match us, hl with | [_, _, _], _ => rfl⟩
  refine F.okX scFr (fun vs H Q E h => ?_) (fun cdv A outer s H vs Q E hr h => ?_)
  · obtain ⟨_, _, _, _, _, rfl, _⟩ := h
    rfl
  · have hr1 : Room 1 _ := hr.mono (by decide)
    refine ⟨_, pss_cons (ps_set (i := 3) scFr.nd rfl (Or.inr rfl) (pe_call G2 hr1 rfl m2 k2 b2 .nil pass0 (pa_cons (pv 0) (pa_cons (pv 1) (pa_cons (pv 2) pa_nil)))))
      (pss_cons (ps_expr (pe_call G1 hr rfl m1 k1 b1 .nil (passes_call (takes_of rfl rfl rfl rfl) (fun _ _ _ _ h => h)) (pa_cons (pe_cmpR op_isN (pv 3) pe_non (nomark _)) (pa_cons (pe_glob (v := .int (-2)) rfl cNoSt ⟨_, rfl⟩) pa_nil))))
      (pss_cons (ps_fld (pv 0) (pe_lc (own := [("pair", 4)]) (g := gName 4) (tt := tTest (tOp (rNeD K) (tVar 4) (tVar 3))) (te := tVar 4) rfl scFr.nd (pi_list (pe_fld (pv 0) rfl)) (blkOk_by (own := [("pair", 4)]) (N := ["forest", "i", "j", "gone", "pair"]) (sc := defScope sFar) (by decide +kernel))
        (fun _ _ _ _ _ => pg_name (i := 4) scFr.nd rfl (Or.inl rfl)) (fun _ _ _ _ _ => pts_one (pt_cmpR (r := rNeD K) (op_neD hr.units) (pv 4) (pv 3) (nomark _))) (fun _ _ _ _ _ => pv 4)) rfl)
      (pss_one (ps_ret (pe_lst (pa_cons (pe_callB call_len_seq (by rfl) T.nLen bLen (pa_cons (pe_fld (pv 0) rfl) pa_nil)) pa_nil)))))), ?_⟩
    obtain ⟨a, f, fp, i, j, rfl, hF, ok, q⟩ := h
    obtain ⟨dx, sA, pA, ss, ps, hI, rfl⟩ := id hF
    have few := ok.few
    unfold Fe.F.beFar at q
    refine ⟨_, rfl, _, rfl, _, rfl, a, f, _, i, j, rfl, hF, fun hn H1 s1 => ?_, fun g hg H1 t s1 ht => ?_⟩
    · rw [hn] at q
      exact ⟨_, rfl, rfl, _, _, rfl, fun _ => EX.mono q s1, fun z => by cases z⟩
    · rw [hg] at q
      refine ⟨_, rfl, rfl, _, _, rfl, (fun z => by cases z), fun _ => ?_⟩
      have hI1 := hI.same (fun b o _ z => s1 b o z)
      refine ⟨_, rfl, a, C, dx, _, _, rfl, hI1.ins, T.clF, T.fR, lkPairs f sA pA, pA, rfl, ⟨_, SqL.of hI1.pr⟩, fun DD hD => ?_⟩
      refine lc_list (K := K) (a := pA) (xs := ps.map V.ref) (fun k H' => Same H1 H' ∧ ∃ qs : List Addr, H' DD = some (.lst (qs.map V.ref)) ∧ qs.length = ((f.pairs.take k).filter fun x => x != g).length ∧
          (∀ (n : Nat) (b : Addr) (x : Nat × Nat), qs[n]? = some b → ((f.pairs.take k).filter fun x => x != g)[n]? = some x → H1 b = some (.tup (prV x))) ∧ (∀ b ∈ qs, b ∈ ps) ∧ qs.length ≤ k)
        ⟨Same.new hD, [], upd_same, rfl, (fun n b x h => by cases h), (fun b h => by cases h), Nat.le_refl _⟩ (fun k H' _ ⟨sm, _⟩ => sm.seq (SqL.of hI1.pr)) ?_ ?_
      · rintro k v H2 hk ⟨sm, qs, hDD, hl, hc, hm, hk2⟩
        obtain ⟨b, x, rfl, hx, hb⟩ := pair_at hI1 hk
        have hbm : b ∈ ps := by
          rw [List.getElem?_map] at hk
          cases z : ps[k]? with
          | none =>
            rw [z] at hk
            cases hk
          | some b' =>
            rw [z] at hk
            injection hk with hk
            injection hk with hk
            rw [← hk]
            exact List.mem_of_getElem? z
        have hkp : k < f.pairs.length := (List.getElem?_eq_some_iff.mp hx).1
        refine ⟨rfl, ?_⟩
        refine ⟨_, rfl, _, rfl, _, _, dp_pair (sm _ _ hb), dp_pair (sm _ _ ht), prD_shaped _, prD_shaped _, _, rfl, ?_⟩
        rw [prD_eqv]
        by_cases c : x = g
        · refine if_false_of (by rw [decide_eq_true c]; rfl) ⟨sm, qs, hDD, ?_, ?_, hm, by omega⟩
          · rw [take_one hx, List.filter_append, List.filter_cons_of_neg (by simp [c]), List.filter_nil, List.append_nil]
            exact hl
          · rw [take_one hx, List.filter_append, List.filter_cons_of_neg (by simp [c]), List.filter_nil, List.append_nil]
            exact hc
        · have ef : (f.pairs.take (k + 1)).filter (fun x => x != g) = (f.pairs.take k).filter (fun x => x != g) ++ [x] := by
            rw [take_one hx, List.filter_append, List.filter_cons_of_pos (by simpa using c), List.filter_nil]
          refine if_true_of (by rw [decide_eq_false c]; rfl) ⟨_, rfl, _, hDD, ?_, ?_, qs ++ [b], ?_, ?_, ?_, ?_, ?_⟩
          · rw [List.length_map, sizeLine_eq]
            omega
          · exact fun c o e => by
              rw [upd_ne (ne_of_none e hD)]
              exact sm _ _ e
          · rw [upd_same, List.map_append]
            rfl
          · rw [ef, List.length_append, List.length_append, hl]
            rfl
          · intro n b' x' h1 h2
            rw [ef] at h2
            by_cases hi : n < qs.length
            · rw [List.getElem?_append_left hi] at h1
              rw [List.getElem?_append_left (by omega)] at h2
              exact hc n b' x' h1 h2
            · rw [List.getElem?_append_right (by omega)] at h1
              rw [List.getElem?_append_right (by omega)] at h2
              have e0 : n - qs.length = 0 := by
                cases z : n - qs.length with
                | zero => rfl
                | succ n =>
                  rw [z] at h1
                  cases h1
              rw [e0] at h1
              rw [← hl, e0] at h2
              cases h1
              cases h2
              exact hb
          · intro b' hb'
            rcases List.mem_append.mp hb' with z | z
            · exact hm b' z
            · rw [List.mem_singleton] at z
              rw [z]
              exact hbm
          · rw [List.length_append]
            show qs.length + 1 ≤ k + 1
            omega
      · rintro H2 ⟨sm, qs, hDD, hl, hc, hm, hk2⟩
        rw [pairs_len hI1, List.take_length] at hl hc
        have nDs : sA ≠ DD := ne_of_none hI1.st hD
        have naD : a ≠ DD := ne_of_none hI1.ins hD
        refine ⟨_, rfl, a, C, dx, _, rfl, sm _ _ hI1.ins, T.clF, T.fR, (by show 6 < 1000; decide), ?_⟩
        rw [putPairs f sA pA (f.drop g) rfl DD]
        have hI2 : FoIn C (upd H2 a (.ins C dx (fF (f.drop g) sA DD))) a (f.drop g) dx sA DD ss qs := by
          have nsa : sA ≠ a := ne_of hI1.st hI1.ins (by intro z; cases z)
          refine ⟨upd_same, ?_, ?_, hI.sn, fun k b' l' h1 h2 => ?_, hl, fun k b' x h1 h2 => ?_, nDs, fun b' hb' => ⟨(hI.sne b' hb').1, ?_⟩⟩
          · rw [upd_ne nsa]
            exact sm _ _ hI1.st
          · rw [upd_ne (Ne.symm naD)]
            exact hDD
          · have h3 := hI1.sl k b' l' h1 h2
            rw [upd_ne (ne_of h3 hI1.ins (by intro z; cases z))]
            exact sm _ _ h3
          · have h3 := hc k b' x h1 h2
            rw [upd_ne (ne_of h3 hI1.ins (by intro z; cases z))]
            exact sm _ _ h3
          · obtain ⟨k, hk, e⟩ := List.mem_iff_getElem.mp hb'
            have hn := hI.sn
            have h3 := hI1.sl k b' (f.stands[k]'(by omega)) (by rw [List.getElem?_eq_getElem hk, e]) (List.getElem?_eq_getElem _)
            exact ne_of_none h3 hD
        refine ⟨_, rfl, a, C, dx, _, _, rfl, hI2.ins, T.clF, T.fR, lkPairs _ sA DD, DD, _, rfl, .inl (SqL.of hI2.pr), by show 1 ≤ sizeLine; decide, fun c1 hc1 => ?_⟩
        have s3 := Same.new (o := HO.lst [V.int ((qs.map V.ref).length : Nat)]) hc1
        refine q _ c1 (foot a sA DD ss qs) (FoAt.same ⟨dx, sA, DD, _, _, hI2, rfl⟩ s3) ⟨fun b' o e hb' => ?_, fun b' hb' => ?_⟩ ?_ ?_
        · refine s3 _ _ ?_
          rw [upd_ne (fun z => hb' (by rw [z]; simp [foot]))]
          exact sm _ _ (s1 _ _ e)
        · simp only [foot, List.mem_cons, List.mem_append] at hb'
          simp only [foot, List.mem_cons, List.mem_append]
          rcases hb' with z | z | z | z | z
          · exact .inl (.inl z)
          · exact .inl (.inr (.inl z))
          · rw [z]
            exact .inr (s1.free hD)
          · exact .inl (.inr (.inr (.inr (.inl z))))
          · exact .inl (.inr (.inr (.inr (.inr (hm _ z)))))
        · have nca : c1 ≠ a := fun z => by
            rw [z, upd_same] at hc1
            cases hc1
          rw [upd_ne nca] at hc1
          exact s1.free (sm.free hc1)
        · rw [upd_same]
          congr 2
          show [V.int ((qs.map V.ref).length : Int)] = [V.int ((f.drop g).pairs.length : Int)]
          rw [List.length_map, hl]
          rfl
end
end Fw

set_option Elab.async false
set_option linter.all false
set_option maxRecDepth 100000
set_option maxHeartbeats 4000000
namespace Fw
open PySem PySem.Spec PyProof.Rows L2
def callNo : Sw93.Call → Nat
  | .begins _ _ _ _ => 0
  | .stand _ => 1
  | .near _ _ => 2
  | .far _ _ => 3
  | .best => 4
  | .check _ => 5
  | .goesOn _ _ => 6
  | .alone => 7
def numsOf : Sw93.Call → List Nat
  | .begins t a l m => [t, a, l, m]
  | .near i j => [i, j]
  | .far i j => [i, j]
  | .goesOn t _ => [t]
  | _ => []
theorem step_no (f : Fe.F) (x : Sw93.Call) (nums : List Int) (h : (f.step x).2 = .no nums) : (f.step x).1 = f := by
  cases x with
  | begins t a l m =>
    have h' : (f.begins t a l m).2 = .no nums := h
    show (f.begins t a l m).1 = f
    unfold Fe.F.begins at h' ⊢
    by_cases c : Fe.noRules t a l m
    · rw [if_pos c]
    · rw [if_neg c] at h'
      cases h'
  | stand l =>
    have h' : (f.stand l).2 = .no nums := h
    show (f.stand l).1 = f
    unfold Fe.F.stand at h' ⊢
    by_cases c : f.noStand l
    · rw [if_pos c]
    · rw [if_neg c] at h' ⊢
      by_cases d : f.stands.length = 6
      · rw [if_pos d]
      · rw [if_neg d] at h'
        cases h'
  | near i j =>
    have h' : (f.beNear i j).2 = .no nums := h
    show (f.beNear i j).1 = f
    unfold Fe.F.beNear at h' ⊢
    by_cases c : f.stands.length ≤ max i j
    · rw [if_pos c]
    · rw [if_neg c] at h' ⊢
      by_cases d : i = j ∨ f.pairOf i j ≠ none
      · rw [if_pos d]
      · rw [if_neg d] at h'
        cases h'
  | far i j =>
    have h' : (f.beFar i j).2 = .no nums := h
    show (f.beFar i j).1 = f
    unfold Fe.F.beFar at h' ⊢
    cases e : f.pairOf i j with
    | none => rfl
    | some g =>
      rw [e] at h'
      cases h'
  | best => rfl
  | check p => rfl
  | goesOn t p => rfl
  | alone => rfl
section
variable {P : Program} {w : World} {K : PySem.W.Frag} {mg : Str → Option Value} {base : Heap} {C CB CD CR : Addr}
theorem desk_out {H : Hp} {d dx a : Addr} {v : V} {f : Fe.F} {fp : List Addr} (hd : H d = some (.ins CD dx [("forest", v)])) (hF : FoAt C H a f fp) : d ∉ fp := by
  obtain ⟨dx', sA, pA, ss, ps, h, rfl⟩ := hF
  intro hb
  simp only [foot, List.mem_cons, List.mem_append] at hb
  rcases hb with rfl | rfl | rfl | hb | hb
  · have e := h.ins
    rw [hd] at e
    injection e with e
    injection e with _ _ e
    have := congrArg List.length e
    cases this
  · have e := h.st
    rw [hd] at e
    cases e
  · have e := h.pr
    rw [hd] at e
    cases e
  · obtain ⟨k, hk, e⟩ := List.mem_iff_getElem.mp hb
    have hn := h.sn
    have e3 := h.sl k d (f.stands[k]'(by omega)) (by rw [List.getElem?_eq_getElem hk, e]) (List.getElem?_eq_getElem _)
    rw [hd] at e3
    cases e3
  · obtain ⟨k, hk, e⟩ := List.mem_iff_getElem.mp hb
    have hn := h.pn
    have e3 := h.pl k d (f.pairs[k]'(by omega)) (by rw [List.getElem?_eq_getElem hk, e]) (List.getElem?_eq_getElem _)
    rw [hd] at e3
    cases e3
theorem DeskAt.same {H H' : Hp} {d : Addr} {f : Fe.F} {fp : List Addr} (x : DeskAt CD C H d f fp) (k : Same H H') : DeskAt CD C H' d f fp := by
  obtain ⟨dx, a, fp', hd, hF, e⟩ := x
  exact ⟨dx, a, fp', k _ _ hd, hF.same k, e⟩
theorem DeskAt.keep {H H' : Hp} {d : Addr} {f : Fe.F} {fp : List Addr} (x : DeskAt CD C H d f fp) (k : ∀ b o, b ∈ fp → H b = some o → H' b = some o) : DeskAt CD C H' d f fp := by
  obtain ⟨dx, a, fp', hd, hF, e⟩ := x
  subst e
  exact ⟨dx, a, fp', k _ _ List.mem_cons_self hd, hF.keep fun b o hb => k b o (List.mem_cons_of_mem _ hb), rfl⟩
theorem DeskAt.there {H : Hp} {d : Addr} {f : Fe.F} {fp : List Addr} (x : DeskAt CD C H d f fp) : ∀ b ∈ fp, ∃ o, H b = some o := by
  obtain ⟨dx, a, fp', hd, hF, e⟩ := x
  subst e
  intro b hb
  rcases List.mem_cons.mp hb with z | z
  · rw [z]
    exact ⟨_, hd⟩
  · exact hF.there b z
theorem ansF_of {H : Hp} {d dx a : Addr} {f : Fe.F} {fp : List Addr} {r : Fe.F × Fe.R} {Q : VK} {E : XK} (hd : H d = some (.ins CD dx [("forest", .ref a)])) (hF : FoAt C H a f fp) (h : AnsD CD C CR d r H (d :: fp) Q E) : AnsF C CR a r H fp Q E := by
  obtain ⟨g, r⟩ := r
  cases r with
  | no nums => exact h
  | ok nums =>
    intro H' q fp' hF' c hq hq'
    have dn := desk_out hd hF
    refine h H' q (d :: fp') ⟨dx, a, fp', c.keep d _ hd dn, hF', rfl⟩ ⟨fun b o e hb => c.keep b o e fun z => hb (List.mem_cons_of_mem _ z), fun b hb => ?_⟩ hq hq'
    rcases List.mem_cons.mp hb with z | z
    · exact .inl (z ▸ List.mem_cons_self)
    · exact (c.foot b z).imp (List.mem_cons_of_mem _) id
theorem ans_of {H : Hp} {d : Addr} {f : Fe.F} {fp : List Addr} {r : Fe.R} {Q : VK} {E : XK} (hD : DeskAt CD C H d f fp) (h : AnsD CD C CR d (f, r) H fp Q E) : Ans CR r H Q E := by
  cases r with
  | no nums => exact h
  | ok nums => exact fun H' q sm hq hq' => h H' q fp (hD.same sm) (Chg.of_same sm) hq hq'
/-! ### call_on -/
theorem scCO : FnScope ["desk", "call", "n", "some", "forest"] ["desk", "call", "n", "some"] (defScope sCallOn) := ⟨rfl, rfl, rfl, by decide +kernel, rfl, by decide +kernel, by decide +kernel⟩
def spCallOn (K : PySem.W.Frag) (CD C CR : Addr) : Sp := fun vs H Q E => ∃ (d na sa : Addr) (c : Int) (f : Fe.F) (fp : List Addr) (x : Sw93.Call), vs = [.ref d, .int c, .ref na, .ref sa] ∧ c = (callNo x : Nat) ∧
  DeskAt CD C H d f fp ∧ SqL K H na (L (numsOf x)) ∧ H sa = some (.lst (L (Fe.rowOf x))) ∧ (Fe.rowOf x).length ≤ 20 ∧ Fe.Ok f ∧ AnsD CD C CR d (f.step x) H fp Q E
theorem has_callOn (D : Def K mg "call_on" sCallOn) (T : Txt K mg C CB CD CR) (h0 : Has P w K mg base (L2.CX P w) 4 "begins" ["desk", "n"] (spBegins K CD C CR)) (h1 : Has P w K mg base (L2.CX P w) 4 "stand" ["forest", "brings"] (spStand K C CR))
    (h2 : Has P w K mg base (L2.CX P w) 4 "near" ["forest", "i", "j"] (spNear C CR)) (h3 : Has P w K mg base (L2.CX P w) 4 "far" ["forest", "i", "j"] (spFar C CR)) (h4 : Has P w K mg base (L2.CX P w) 7 "best" ["forest"] (spBest C CR))
    (h5 : Has P w K mg base (L2.CX P w) 5 "check" ["forest", "plan"] (spCheck C CR)) (h6 : Has P w K mg base (L2.CX P w) 7 "goes_on" ["forest", "t", "plan"] (spGoesOn C CR)) (h7 : Has P w K mg base CX0 1 "alone" ["forest"] (spAlone C)) :
    Has P w K mg base (L2.CX P w) 8 "call_on" ["desk", "call", "n", "some"] (spCallOn K CD C CR) := by
  obtain ⟨f, fd, F, m⟩ := D
  obtain ⟨f0, fd0, G0, m0, k0, b0⟩ := h0
  obtain ⟨f1, fd1, G1, m1, k1, b1⟩ := h1
  obtain ⟨f2, fd2, G2, m2, k2, b2⟩ := h2
  obtain ⟨f3, fd3, G3, m3, k3, b3⟩ := h3
  obtain ⟨f4, fd4, G4, m4, k4, b4⟩ := h4
  obtain ⟨f5, fd5, G5, m5, k5, b5⟩ := h5
  obtain ⟨f6, fd6, G6, m6, k6, b6⟩ := h6
  obtain ⟨f7, fd7, G7, m7, k7, b7⟩ := h7
  refine ⟨f, fd, ?_, m, F.kp, F.binds fun _ _ _ _ _ _ us hl => match us, hl with | [_, _, _, _], _ => rfl⟩
  refine F.okX scCO (fun vs H Q E h => ?_) (fun cdv A outer s H vs Q E hr h => ?_)
  · obtain ⟨_, _, _, _, _, _, _, rfl, _⟩ := h
    rfl
  · have hr4 : Room 4 _ := hr.mono (by decide)
    have hr5 : Room 5 _ := hr.mono (by decide)
    have hr1 : Room 1 _ := hr.mono (by decide)
    refine ⟨_, pss_cons (ps_set (i := 4) scCO.nd rfl (Or.inl rfl) (pe_fld (pv 0) rfl))
      (pss_cons (ps_if (pt_cmpR op_eq (pv 1) pe_int (nomark _)) (pss_one (ps_ret (pe_call G0 hr4 rfl m0 k0 b0 .nil (passes_call (takes_of rfl rfl rfl rfl) (fun _ _ _ _ h => h)) (pa_cons (pv 0) (pa_cons (pv 2) pa_nil))))) pss_nil)
      (pss_cons (ps_if (pt_cmpR op_eq (pv 1) pe_int (nomark _)) (pss_one (ps_ret (pe_call G1 hr4 rfl m1 k1 b1 .nil (passes_call (takes_of rfl rfl rfl rfl) (fun _ _ _ _ h => h)) (pa_cons (pv 4) (pa_cons (pv 3) pa_nil))))) pss_nil)
      (pss_cons (ps_if (pt_cmpR op_eq (pv 1) pe_int (nomark _)) (pss_one (ps_ret (pe_call G2 hr4 rfl m2 k2 b2 .nil (passes_call (takes_of rfl rfl rfl rfl) (fun _ _ _ _ h => h)) (pa_cons (pv 4) (pa_cons (pe_ix ix_list (pv 2) pe_int (fun _ _ => rfl)) (pa_cons (pe_ix ix_list (pv 2) pe_int (fun _ _ => rfl)) pa_nil)))))) pss_nil)
      (pss_cons (ps_if (pt_cmpR op_eq (pv 1) pe_int (nomark _)) (pss_one (ps_ret (pe_call G3 hr4 rfl m3 k3 b3 .nil (passes_call (takes_of rfl rfl rfl rfl) (fun _ _ _ _ h => h)) (pa_cons (pv 4) (pa_cons (pe_ix ix_list (pv 2) pe_int (fun _ _ => rfl)) (pa_cons (pe_ix ix_list (pv 2) pe_int (fun _ _ => rfl)) pa_nil)))))) pss_nil)
      (pss_cons (ps_if (pt_cmpR op_eq (pv 1) pe_int (nomark _)) (pss_one (ps_ret (pe_call G4 hr rfl m4 k4 b4 .nil (passes_call (takes_of rfl rfl rfl rfl) (fun _ _ _ _ h => h)) (pa_cons (pv 4) pa_nil)))) pss_nil)
      (pss_cons (ps_if (pt_cmpR op_eq (pv 1) pe_int (nomark _)) (pss_one (ps_ret (pe_call G5 hr5 rfl m5 k5 b5 .nil (passes_call (takes_of rfl rfl rfl rfl) (fun _ _ _ _ h => h)) (pa_cons (pv 4) (pa_cons (pv 3) pa_nil))))) pss_nil)
      (pss_cons (ps_if (pt_cmpR op_eq (pv 1) pe_int (nomark _)) (pss_one (ps_ret (pe_call G6 hr rfl m6 k6 b6 .nil (passes_call (takes_of rfl rfl rfl rfl) (fun _ _ _ _ h => h)) (pa_cons (pv 4) (pa_cons (pe_ix ix_list (pv 2) pe_int (fun _ _ => rfl)) (pa_cons (pv 3) pa_nil)))))) pss_nil)
      (pss_one (ps_ret (pe_call G7 hr1 rfl m7 k7 b7 .nil pass0 (pa_cons (pv 4) pa_nil))))))))))), ?_⟩
    obtain ⟨d, na, sa, c, f, fp, x, rfl, rfl, hD, hn, hs, h20, ok, q⟩ := h
    obtain ⟨dx, a, fp0, hd, hF, rfl⟩ := id hD
    refine ⟨_, rfl, d, CD, dx, _, _, rfl, hd, T.clD, T.dF, lk_here, ?_⟩
    cases x with
    | begins t a' l m =>
      refine ⟨_, rfl, rfl, _, rfl, if_true_of rfl ?_⟩
      exact ⟨_, rfl, _, rfl, d, na, f, _, t, a', l, m, rfl, hD, hn, q⟩
    | stand l =>
      refine ⟨_, rfl, rfl, _, rfl, if_false_of rfl ?_⟩
      refine ⟨_, rfl, rfl, _, rfl, if_true_of rfl ?_⟩
      exact ⟨_, rfl, _, rfl, a, sa, f, fp0, l, rfl, hF, SqL.of hs, ok, ansF_of hd hF q⟩
    | near i j =>
      refine ⟨_, rfl, rfl, _, rfl, if_false_of rfl ?_⟩
      refine ⟨_, rfl, rfl, _, rfl, if_false_of rfl ?_⟩
      refine ⟨_, rfl, rfl, _, rfl, if_true_of rfl ?_⟩
      exact ⟨_, rfl, _, rfl, na, _, _, _, rfl, rfl, hn, atI_nat (j := 0) rfl, _, rfl, na, _, _, _, rfl, rfl, hn, atI_nat (j := 1) rfl, a, f, fp0, i, j, rfl, hF, ok, ansF_of hd hF q⟩
    | far i j =>
      refine ⟨_, rfl, rfl, _, rfl, if_false_of rfl ?_⟩
      refine ⟨_, rfl, rfl, _, rfl, if_false_of rfl ?_⟩
      refine ⟨_, rfl, rfl, _, rfl, if_false_of rfl ?_⟩
      refine ⟨_, rfl, rfl, _, rfl, if_true_of rfl ?_⟩
      exact ⟨_, rfl, _, rfl, na, _, _, _, rfl, rfl, hn, atI_nat (j := 0) rfl, _, rfl, na, _, _, _, rfl, rfl, hn, atI_nat (j := 1) rfl, a, f, fp0, i, j, rfl, hF, ok, ansF_of hd hF q⟩
    | best =>
      refine ⟨_, rfl, rfl, _, rfl, if_false_of rfl ?_⟩
      refine ⟨_, rfl, rfl, _, rfl, if_false_of rfl ?_⟩
      refine ⟨_, rfl, rfl, _, rfl, if_false_of rfl ?_⟩
      refine ⟨_, rfl, rfl, _, rfl, if_false_of rfl ?_⟩
      refine ⟨_, rfl, rfl, _, rfl, if_true_of rfl ?_⟩
      exact ⟨_, rfl, a, f, fp0, rfl, hF, ok, ans_of hD q⟩
    | check p =>
      refine ⟨_, rfl, rfl, _, rfl, if_false_of rfl ?_⟩
      refine ⟨_, rfl, rfl, _, rfl, if_false_of rfl ?_⟩
      refine ⟨_, rfl, rfl, _, rfl, if_false_of rfl ?_⟩
      refine ⟨_, rfl, rfl, _, rfl, if_false_of rfl ?_⟩
      refine ⟨_, rfl, rfl, _, rfl, if_false_of rfl ?_⟩
      refine ⟨_, rfl, rfl, _, rfl, if_true_of rfl ?_⟩
      exact ⟨_, rfl, _, rfl, a, sa, f, fp0, p, rfl, hF, hs, h20, ok, ans_of hD q⟩
    | goesOn t p =>
      refine ⟨_, rfl, rfl, _, rfl, if_false_of rfl ?_⟩
      refine ⟨_, rfl, rfl, _, rfl, if_false_of rfl ?_⟩
      refine ⟨_, rfl, rfl, _, rfl, if_false_of rfl ?_⟩
      refine ⟨_, rfl, rfl, _, rfl, if_false_of rfl ?_⟩
      refine ⟨_, rfl, rfl, _, rfl, if_false_of rfl ?_⟩
      refine ⟨_, rfl, rfl, _, rfl, if_false_of rfl ?_⟩
      refine ⟨_, rfl, rfl, _, rfl, if_true_of rfl ?_⟩
      exact ⟨_, rfl, _, rfl, na, _, _, _, rfl, rfl, hn, atI_nat (j := 0) rfl, _, rfl, a, sa, _, f, fp0, t, p, rfl, rfl, hF, hs, h20, ok, ans_of hD q⟩
    | alone =>
      refine ⟨_, rfl, rfl, _, rfl, if_false_of rfl ?_⟩
      refine ⟨_, rfl, rfl, _, rfl, if_false_of rfl ?_⟩
      refine ⟨_, rfl, rfl, _, rfl, if_false_of rfl ?_⟩
      refine ⟨_, rfl, rfl, _, rfl, if_false_of rfl ?_⟩
      refine ⟨_, rfl, rfl, _, rfl, if_false_of rfl ?_⟩
      refine ⟨_, rfl, rfl, _, rfl, if_false_of rfl ?_⟩
      refine ⟨_, rfl, rfl, _, rfl, if_false_of rfl ?_⟩
      exact ⟨_, rfl, a, f, fp0, rfl, hF, ok, ans_of (r := f.alone) hD q⟩
/-! ### answer_to -/
theorem scAT : FnScope ["desk", "call", "n", "some", "refusal"] ["desk", "call", "n", "some"] (defScope sAnswerTo) := ⟨rfl, rfl, rfl, by decide +kernel, rfl, by decide +kernel, by decide +kernel⟩
def spAnswerTo (K : PySem.W.Frag) (CD C : Addr) : Sp := fun vs H Q _ => ∃ (d na sa : Addr) (c : Int) (f : Fe.F) (fp : List Addr) (x : Sw93.Call), vs = [.ref d, .int c, .ref na, .ref sa] ∧ c = (callNo x : Nat) ∧
  DeskAt CD C H d f fp ∧ SqL K H na (L (numsOf x)) ∧ H sa = some (.lst (L (Fe.rowOf x))) ∧ (Fe.rowOf x).length ≤ 20 ∧ Fe.Ok f ∧
  ∀ H' q fp', DeskAt CD C H' d (f.step x).1 fp' → Chg H H' fp fp' → H q = none → H' q = some (.lst ((f.step x).2.nums.map V.int)) → Q (.ref q) H'
def rListOf (K : PySem.W.Frag) : List V → Hp → VK → Prop := fun xs H Q => ∃ p ys, xs = [.ref p] ∧ (SqL K H p ys ∨ SqT K H p ys) ∧ ∀ l, H l = none → Q (.ref l) (upd H l (.lst ys))
theorem has_answerTo (D : Def K mg "answer_to" sAnswerTo) (T : Txt K mg C CB CD CR) (h1 : Has P w K mg base (L2.CX P w) 8 "call_on" ["desk", "call", "n", "some"] (spCallOn K CD C CR)) :
    Has P w K mg base CX0 9 "answer_to" ["desk", "call", "n", "some"] (spAnswerTo K CD C) := by
  obtain ⟨f, fd, F, m⟩ := D
  obtain ⟨f1, fd1, G1, m1, k1, b1⟩ := h1
  refine ⟨f, fd, ?_, m, F.kp, F.binds fun _ _ _ _ _ _ us hl => match us, hl with | [_, _, _, _], _ => rfl⟩
  refine F.ok scAT (fun vs H Q E h => ?_) (fun cdv A outer s H vs Q E hr h => ?_)
  · obtain ⟨_, _, _, _, _, _, _, rfl, _⟩ := h
    rfl
  · refine ⟨_, pss_one (ps_try_as (i := 4) (tb := fun W => tRet (tCallS (spCallOn K CD C CR) (WE W) (tCons (tVar 0) (tCons (tVar 1) (tCons (tVar 2) (tCons (tVar 3) tNil))))))
        (ts := fun a cls d => tRet (tCB (rListOf K) (tCons (tXf a cls d CR "numbers" (tVar 4)) tNil))) (Wout := fun _ _ _ _ => False) rfl rfl scAT.nd rfl rfl ⟨rfl, by decide, Or.inl T.gR⟩ takes0
        (fun W pn xe tk _ => pss_one (ps_ret (pe_callS G1 hr rfl m1 k1 b1 (fun σ => passAt tk σ) (by exact (pa_cons (pv 0) (pa_cons (pv 1) (pa_cons (pv 2) (pa_cons (pv 3) pa_nil))))))))
        (fun a oe cls d pn hz hf => pss_one (ps_ret (pe_callTy (r := rListOf K) call_list_of (by rfl) T.nList bList (pa_cons (pe_xf T.xfc T.rN hz hf (pv 4)) pa_nil))))), ?_⟩
    obtain ⟨d, na, sa, c, f, fp, x, rfl, rfl, hD, hn, hs, h20, ok, q⟩ := h
    refine ⟨_, rfl, _, rfl, _, rfl, _, rfl, d, na, sa, _, f, fp, x, rfl, rfl, hD, hn, hs, h20, ok, ?_⟩
    have hno := step_no f x
    generalize f.step x = r at *
    obtain ⟨g, r⟩ := r
    cases r with
    | ok nums => exact q
    | no nums =>
      have eg : g = f := hno nums rfl
      subst eg
      intro d' p H' sm hd' hp'
      refine ⟨true, T.te, fun _ a0 _ => ?_, fun z => Bool.noConfusion z⟩
      refine ⟨_, rfl, rfl, rfl, d', _, _, rfl, hd', lk_here, p, _, rfl, .inl (SqL.of hp'), fun l hl => ?_⟩
      have s2 := sm.trans (Same.new (o := HO.lst (nums.map V.int)) hl)
      exact q _ l fp (hD.same s2) (Chg.of_same s2) (sm.free hl) upd_same
end
end Fw

set_option Elab.async false
set_option linter.all false
set_option maxRecDepth 100000
set_option maxHeartbeats 4000000
namespace Fw
open PySem PySem.Spec PyProof.Rows L2
/-! ### the calls, one behind another -/
def stateAt (xs : List Sw93.Call) (i : Nat) : Fe.F := (xs.take i).foldl (fun f x => (f.step x).1) Fe.F.init
def outAt (xs : List Sw93.Call) (i : Nat) : List Int := PyFlat.told (Fe.run Fe.F.init (xs.take i))
def placeAt (xs : List Sw93.Call) (i : Nat) : Nat := ((xs.take i).flatMap Fe.flat).length
theorem run_append : ∀ (xs ys : List Sw93.Call) (f : Fe.F), Fe.run f (xs ++ ys) = Fe.run f xs ++ Fe.run (xs.foldl (fun f x => (f.step x).1) f) ys
  | [], ys, f => rfl
  | x :: xs, ys, f => by
    show (f.step x).2.nums :: Fe.run (f.step x).1 (xs ++ ys) = _
    rw [run_append xs ys]
    rfl
theorem told_append (a b : List (List Int)) : PyFlat.told (a ++ b) = PyFlat.told a ++ PyFlat.told b := by
  unfold PyFlat.told
  rw [List.flatMap_append]
theorem stateAt_succ {xs : List Sw93.Call} {i : Nat} {x : Sw93.Call} (h : xs[i]? = some x) : stateAt xs (i + 1) = ((stateAt xs i).step x).1 := by
  unfold stateAt
  rw [take_one h, List.foldl_append]
  rfl
theorem outAt_succ {xs : List Sw93.Call} {i : Nat} {x : Sw93.Call} (h : xs[i]? = some x) : outAt xs (i + 1) = outAt xs i ++ ((((stateAt xs i).step x).2.nums.length : Int) :: ((stateAt xs i).step x).2.nums) := by
  unfold outAt
  rw [take_one h, run_append, told_append]
  congr 1
  show (((((stateAt xs i).step x).2.nums.length : Int) :: ((stateAt xs i).step x).2.nums) ++ []) = _
  rw [List.append_nil]
theorem outAt_le (xs : List Sw93.Call) (i : Nat) : (outAt xs i).length ≤ (PyFlat.told (Fe.run Fe.F.init xs)).length := by
  have e : (PyFlat.told (Fe.run Fe.F.init (xs.take i ++ xs.drop i))).length = (PyFlat.told (Fe.run Fe.F.init xs)).length := by rw [List.take_append_drop]
  rw [run_append, told_append, List.length_append] at e
  unfold outAt
  omega
theorem placeAt_succ {xs : List Sw93.Call} {i : Nat} {x : Sw93.Call} (h : xs[i]? = some x) : placeAt xs (i + 1) = placeAt xs i + (Fe.flat x).length := by
  unfold placeAt
  rw [take_one h, List.flatMap_append, List.length_append]
  simp
theorem split_at {xs : List Sw93.Call} {i : Nat} {x : Sw93.Call} (h : xs[i]? = some x) : ∃ A B : List Nat, xs.flatMap Fe.flat = A ++ (Fe.flat x ++ B) ∧ A.length = placeAt xs i := by
  refine ⟨(xs.take i).flatMap Fe.flat, (xs.drop (i + 1)).flatMap Fe.flat, ?_, rfl⟩
  have hi := (List.getElem?_eq_some_iff.mp h)
  obtain ⟨hi, e⟩ := hi
  have e2 : xs = xs.take i ++ x :: xs.drop (i + 1) := by
    rw [← e, ← List.drop_eq_getElem_cons hi, List.take_append_drop]
  have e3 : xs.flatMap Fe.flat = (xs.take i ++ x :: xs.drop (i + 1)).flatMap Fe.flat := by rw [← e2]
  rw [List.flatMap_append, List.flatMap_cons] at e3
  exact e3
def listed (x : Sw93.Call) : Bool := inV (.int (callNo x : Nat)) (L [1, 5, 6])
theorem flat_plain {x : Sw93.Call} (h : listed x = false) : Fe.flat x = callNo x :: numsOf x ∧ Fe.rowOf x = [] := by
  cases x with
  | stand l => exact absurd h (by show ¬ true = false; decide)
  | check l => exact absurd h (by show ¬ true = false; decide)
  | goesOn t l => exact absurd h (by show ¬ true = false; decide)
  | _ => exact ⟨rfl, rfl⟩
theorem flat_listed {x : Sw93.Call} (h : listed x = true) : Fe.flat x = callNo x :: (numsOf x ++ (Fe.rowOf x).length :: Fe.rowOf x) := by
  cases x with
  | begins t a l m => exact absurd h (by show ¬ false = true; decide)
  | near i j => exact absurd h (by show ¬ false = true; decide)
  | far i j => exact absurd h (by show ¬ false = true; decide)
  | best => exact absurd h (by show ¬ false = true; decide)
  | alone => exact absurd h (by show ¬ false = true; decide)
  | _ => rfl
theorem flat_head (x : Sw93.Call) : ∃ r, Fe.flat x = callNo x :: (numsOf x ++ r) := by
  cases h : listed x with
  | false => exact ⟨[], by rw [(flat_plain h).1, List.append_nil]⟩
  | true => exact ⟨_, flat_listed h⟩
theorem nums_at (x : Sw93.Call) : (L [4, 0, 2, 2, 0, 0, 1, 0])[callNo x]? = some (.int ((numsOf x).length : Nat)) := by
  cases x <;> rfl
theorem no_le (x : Sw93.Call) : (numsOf x).length ≤ 4 := by
  cases x <;> (simp [numsOf])
theorem cut_mid {xs a b c : List Nat} {lo hi : Int} (e : xs = a ++ (b ++ c)) (h1 : lo = (a.length : Nat)) (h2 : hi = (a.length + b.length : Nat)) : cutV (L xs) (some lo) (some hi) = L b := by
  subst e h1 h2
  have hl : (L (a ++ (b ++ c))).length = a.length + (b.length + c.length) := by rw [L_len, List.length_append, List.length_append]
  unfold cutV
  rw [HT.sIx_nat, HT.sIx_nat, hl, show min a.length (a.length + (b.length + c.length)) = a.length by omega, show min (a.length + b.length) (a.length + (b.length + c.length)) = a.length + b.length by omega, show a.length + b.length - a.length = b.length by omega]
  rw [L_append, L_append, List.drop_append_of_le_length (by rw [L_len]; exact Nat.le_refl _)]
  rw [List.drop_of_length_le (by rw [L_len]; exact Nat.le_refl _), List.nil_append]
  rw [List.take_append_of_le_length (by rw [L_len]; exact Nat.le_refl _), List.take_of_length_le (by rw [L_len]; exact Nat.le_refl _)]
theorem get_mid {xs a c : List Nat} {n : Nat} {z : Int} (e : xs = a ++ (n :: c)) (h : z = (a.length : Nat)) : atI (L xs) z = some (.int (n : Int)) := by
  subst e
  refine at_of h (L_get ?_)
  rw [List.getElem?_append_right (Nat.le_refl _), Nat.sub_self]
  rfl
theorem Ok_at (xs : List Sw93.Call) : ∀ i, Fe.Ok (stateAt xs i) := by
  intro i
  unfold stateAt
  have gen : ∀ (l : List Sw93.Call) (f : Fe.F), Fe.Ok f → Fe.Ok (l.foldl (fun f x => (f.step x).1) f) := by
    intro l
    induction l with
    | nil => exact fun f h => h
    | cons x l ih => exact fun f h => ih _ (Fe.step_up f h x).2.2
  exact gen _ _ Fe.Ok.init
section
variable {P : Program} {w : World} {K : PySem.W.Frag} {mg : Str → Option Value} {base : Heap} {C CB CD CR : Addr}
/-! ### answers -/
theorem scAn : FnScope ["calls", "desk", "found", "at", "call", "end", "numbers", "some", "answer"] ["calls"] (defScope sAnswers) := ⟨rfl, rfl, rfl, by decide +kernel, rfl, by decide +kernel, by decide +kernel⟩
def spAnswers (K : PySem.W.Frag) : Sp := fun vs H Q _ => ∃ (a : Addr) (ns : List Int), vs = [.ref a] ∧ SqL K H a (ns.map V.int) ∧ PySw93.answers_asked ns = true ∧
  ∀ H' p, H' p = some (.lst ((PySw93.answers ns).map V.int)) → Q (.ref p) H'
/-- how far at is from the end -/
def left (n : Nat) (σ : L2.St) : Nat := match σ[3]? with
  | some (some (V.int z)) => n - z.toNat
  | _ => 0
def rLenS (K : PySem.W.Frag) : List V → Hp → VK → Prop := fun xs H Q => ∃ p ys, xs = [.ref p] ∧ (SqL K H p ys ∨ SqT K H p ys) ∧ Q (.int ys.length) H
/-- what holds between two turns -/
def Turn (CD C : Addr) (xs : List Sw93.Call) (H0 : Hp) (ca d fA : Addr) (i : Nat) (σ : L2.St) (H : Hp) : Prop :=
  ∃ v4 v5 v6 v7 v8 fp, σ = [some (.ref ca), some (.ref d), some (.ref fA), some (.int (placeAt xs i : Nat)), v4, v5, v6, v7, v8] ∧ Same H0 H ∧ (∀ b ∈ fp, H0 b = none) ∧ fA ∉ fp ∧ H0 fA = none ∧
    H fA = some (.lst ((outAt xs i).map V.int)) ∧ DeskAt CD C H d (stateAt xs i) fp
/-- a turn from the answer on -/
theorem turn_tail {D : Ends} {xs : List Sw93.Call} {H0 H : Hp} {ca d fA nA sA : Addr} {i : Nat} {x : Sw93.Call} {e c : Int} {v8 : Option V} {fp : List Addr} (hx : xs[i]? = some x) (hend : e = (placeAt xs (i + 1) : Nat)) (hc : c = (callNo x : Nat)) (h20 : (Fe.rowOf x).length ≤ 20)
    (hlen : (PyFlat.told (Fe.run Fe.F.init xs)).length ≤ 1000040) (s0 : Same H0 H) (hfp : ∀ b ∈ fp, H0 b = none) (hfA : fA ∉ fp) (hfA0 : H0 fA = none) (hout : H fA = some (.lst ((outAt xs i).map V.int))) (hD : DeskAt CD C H d (stateAt xs i) fp)
    (hn : H nA = some (.lst (L (numsOf x)))) (hs : H sA = some (.lst (L (Fe.rowOf x)))) (next : ∀ σ' H', Turn CD C xs H0 ca d fA (i + 1) σ' H' → D.nx σ' H') :
    tSeq (tAsg (tCall (spAnswerTo K CD C) [] E0 (tCons (tVar 1) (tCons (tVar 4) (tCons (tVar 6) (tCons (tVar 7) tNil))))) (gName 8))
      (tSeq (tDrop (tBM K "list" rAppend (tVar 2) (tCons (tCB (rLenS K) (tCons (tVar 8) tNil)) tNil)))
      (tSeq (tDrop (tBM K "list" rExtend (tVar 2) (tCons (tVar 8) tNil))) (tAsg (tVar 5) (gName 3)))) D
      [some (.ref ca), some (.ref d), some (.ref fA), some (.int (placeAt xs i : Nat)), some (.int c), some (.int e), some (.ref nA), some (.ref sA), v8] H := by
  have ok := Ok_at xs i
  have hou := outAt_succ hx
  have hle := outAt_le xs (i + 1)
  have hst := stateAt_succ hx
  refine ⟨_, rfl, _, rfl, _, rfl, _, rfl, d, nA, sA, c, stateAt xs i, fp, x, rfl, hc, hD, SqL.of hn, hs, h20, ok, fun H2 q fp2 hD2 chg hq hq2 => ?_⟩
  have hq' : q ≠ fA := fun z => by
    rw [z, hout] at hq
    cases hq
  have out2 : H2 fA = some (.lst ((outAt xs i).map V.int)) := chg.keep fA _ hout hfA
  have hfA2 : fA ∉ fp2 := fun z => by
    rcases chg.foot fA z with y | y
    · exact hfA y
    · rw [hout] at y
      cases y
  have s2 : Same H0 H2 := fun b o e => chg.keep b o (s0 b o e) fun z => by
    have := hfp b z
    rw [e] at this
    cases this
  have hfp2 : ∀ b ∈ fp2, H0 b = none := fun b hb => by
    rcases chg.foot b hb with y | y
    · exact hfp b y
    · exact s0.free y
  rw [hou, List.length_append, List.length_cons] at hle
  refine ⟨_, rfl, Or.inl ⟨rfl, _, SqL.of out2⟩, _, rfl, q, _, rfl, .inl (SqL.of hq2), fA, _, _, rfl, rfl, out2, ?_, ?_⟩
  · rw [List.length_map, sizeLine_eq]
    omega
  · refine ⟨_, rfl, Or.inl ⟨rfl, _, SqL.of upd_same⟩, _, rfl, fA, q, _, _, rfl, rfl, upd_same, (upd_ne hq').trans hq2, ?_, ?_⟩
    · rw [List.length_append, List.length_map, List.length_map, sizeLine_eq]
      show (outAt xs i).length + 1 + _ ≤ 16777216
      omega
    · rw [upd_upd]
      refine ⟨_, rfl, ?_⟩
      refine next _ _ ⟨_, _, _, _, _, fp2, by rw [hend]; rfl, fun b o e => ?_, hfp2, hfA2, hfA0, ?_, ?_⟩
      · rw [upd_ne (ne_of_none e hfA0)]
        exact s2 b o e
      · rw [upd_same, hou, List.map_append, List.append_assoc, List.length_map]
        rfl
      · rw [hst]
        exact hD2.keep fun b o hb e => by
          rw [upd_ne (fun z : b = fA => hfA2 (z ▸ hb))]
          exact e
theorem has_answers {f : Addr} {fd : FuncData} (F : Fun K "answers" "answers" sAnswers f fd) (T : Txt K mg C CB CD CR) (h1 : Has P w K mg base CX0 9 "answer_to" ["desk", "call", "n", "some"] (spAnswerTo K CD C)) (hI : HasI P w K mg base CD 3 ["self"] (spDeskI CD C)) :
    FnOk P w K mg base CX0 10 f fd ["calls"] (spAnswers K) := by
  obtain ⟨f1, fd1, G1, m1, k1, b1⟩ := h1
  obtain ⟨f2, fd2, G2, m2, b2⟩ := hI
  obtain ⟨tN, cNum, hNum⟩ := T.tNum
  obtain ⟨tL, cLis, hLis⟩ := T.tLis
  refine F.ok scAn (fun vs H Q E h => ?_) (fun cdv A outer s H vs Q E hr h => ?_)
  · obtain ⟨_, _, rfl, _⟩ := h
    rfl
  · have hr4 : Room 4 _ := hr.mono (by decide)
    refine ⟨_, pss_cons (ps_set (i := 1) scAn.nd rfl (Or.inl rfl) (pe_make0 m2 G2 hr4 rfl T.gD b2 .nil pass0))
      (pss_cons (ps_set (i := 2) scAn.nd rfl (Or.inl rfl) (pe_lst pa_nil))
      (pss_cons (ps_set (i := 3) scAn.nd rfl (Or.inl rfl) pe_int)
      (pss_cons (ps_while PassesOwn.never (pt_cmpR op_lt (pv 3) (pe_callB (r := rLenS K) call_len_seq (by rfl) T.nLen bLen (pa_cons (pv 0) pa_nil)) (nomark _))
        (pss_cons (ps_set (i := 4) scAn.nd rfl (Or.inl rfl) (pe_ix ix_list (pv 0) (pv 3) (fun _ _ => rfl)))
        (pss_cons (ps_set (i := 5) scAn.nd rfl (Or.inl rfl) (pe_op op_add (pe_op op_add (pv 3) pe_int) (pe_ix ix_tup (pe_glob (v := .ref tN) rfl cNum rfl) (pv 4) (fun _ _ => rfl))))
        (pss_cons (ps_set (i := 6) scAn.nd rfl (Or.inl rfl) (pe_slice sl_list (pv 0) (po_some (pe_op op_add (pv 3) pe_int)) (po_some (pv 5))))
        (pss_cons (ps_set (i := 7) scAn.nd rfl (Or.inl rfl) (pe_lst pa_nil))
        (pss_cons (ps_if (pt_cmpR op_in_seq (pv 4) (pe_glob (v := .ref tL) rfl cLis rfl) rfl)
          (pss_cons (ps_set (i := 7) scAn.nd rfl (Or.inl rfl) (pe_slice sl_list (pv 0) (po_some (pe_op op_add (pv 5) pe_int)) (po_some (pe_op op_add (pe_op op_add (pv 5) pe_int) (pe_ix ix_list (pv 0) (pv 5) (fun _ _ => rfl))))))
          (pss_one (ps_set (i := 5) scAn.nd rfl (Or.inl rfl) (pe_op op_add (pe_op op_add (pv 5) pe_int) (pe_callB (r := rLenS K) call_len_seq (by rfl) T.nLen bLen (pa_cons (pv 7) pa_nil)))))) pss_nil)
        (pss_cons (ps_set (i := 8) scAn.nd rfl (Or.inl rfl) (pe_call G1 hr rfl m1 k1 b1 .nil pass0 (pa_cons (pv 1) (pa_cons (pv 4) (pa_cons (pv 6) (pa_cons (pv 7) pa_nil))))))
        (pss_cons (ps_expr (pe_bm PySem.F.plainAttrs_list PySem.F.slot_list_append PySem.F.type_list_append mt_append (pv 2) (pa_cons (pe_callB (r := rLenS K) call_len_seq (by rfl) T.nLen bLen (pa_cons (pv 8) pa_nil)) pa_nil)))
        (pss_cons (ps_expr (pe_bm PySem.F.plainAttrs_list PySem.F.slot_list_extend PySem.F.type_list_extend mt_extend (pv 2) (pa_cons (pv 8) pa_nil)))
        (pss_one (ps_set (i := 3) scAn.nd rfl (Or.inl rfl) (pv 5))))))))))))
      (pss_one (ps_ret (pv 2)))))), ?_⟩
    obtain ⟨ca, ns, rfl, hca, hask, q⟩ := h
    obtain ⟨xs, rfl, hans, hlen, h20⟩ := Fe.read_all hask
    rw [hans] at q
    have hca' : SqL K H ca (L (xs.flatMap Fe.flat)) := hca
    intro d dx hd hdx ne
    refine ⟨d, dx, rfl, upd_same, fun H1 fp hD hfp keep => ⟨rfl, ?_⟩⟩
    have s1 : Same H H1 := Same.made hd hdx keep
    have hfp0 : ∀ b ∈ fp, H b = none := fun b hb => by
      rcases hfp b hb with z | z
      · rw [z]
        exact hd
      · by_cases z1 : b = d
        · rw [z1]
          exact hd
        · by_cases z2 : b = dx
          · rw [z2]
            exact hdx
          · rw [upd_ne z1, upd_ne z2] at z
            exact z
    refine ⟨by show 0 ≤ sizeLine; decide, fun fA hfA => ?_⟩
    have hfAfp : fA ∉ fp := fun z => by
      obtain ⟨o, e⟩ := hD.there fA z
      rw [hfA] at e
      cases e
    refine while_by (fun σ H' => ∃ i, i ≤ xs.length ∧ Turn CD C xs H ca d fA i σ H') (fun σ _ => left (xs.flatMap Fe.flat).length σ) ⟨0, Nat.zero_le _, none, none, none, none, none, fp, rfl, s1.trans (Same.new hfA), hfp0, hfAfp, s1.free hfA, upd_same, hD.same (Same.new hfA)⟩ ?_ ?_
    · rintro σ H2 ⟨i, hi, v4, v5, v6, v7, v8, fp2, rfl, s2, hfp2, hfA2, hfA0, hout, hD2⟩
      have hca2 := s2.seq hca'
      refine ⟨_, rfl, _, rfl, ca, _, rfl, .inl hca2, _, _, rfl, rfl, _, rfl, ?_⟩
      rw [L_len]
      by_cases hlast : i = xs.length
      · -- the end
        subst hlast
        have ep : placeAt xs xs.length = (xs.flatMap Fe.flat).length := by
          unfold placeAt
          rw [List.take_length]
        refine if_false_of (decide_eq_false (by rw [ep]; omega)) ?_
        refine ⟨_, rfl, q _ fA ?_⟩
        have eo : outAt xs xs.length = PyFlat.told (Fe.run Fe.F.init xs) := by
          unfold outAt
          rw [List.take_length]
        rw [hout, eo]
      · obtain ⟨x, hx⟩ : ∃ x, xs[i]? = some x := ⟨_, List.getElem?_eq_getElem (by omega)⟩
        obtain ⟨AA, BB, eall, hA⟩ := split_at hx
        obtain ⟨rr, ehead⟩ := flat_head x
        have hsucc := placeAt_succ hx
        have hx20 := h20 x (List.mem_of_getElem? hx)
        have hno := no_le x
        have ltot : (xs.flatMap Fe.flat).length = placeAt xs i + ((Fe.flat x).length + BB.length) := by
          rw [eall, List.length_append, List.length_append, hA]
        have lflat : (Fe.flat x).length = 1 + ((numsOf x).length + rr.length) := by
          rw [ehead, List.length_cons, List.length_append]
          omega
        refine if_true_of (decide_eq_true (by omega)) ?_
        -- call = calls[at]
        have e1 : xs.flatMap Fe.flat = AA ++ (callNo x :: ((numsOf x ++ rr) ++ BB)) := by
          rw [eall, ehead]
          rfl
        refine ⟨_, rfl, _, rfl, ca, _, _, _, rfl, rfl, hca2, get_mid e1 (by rw [hA]), ?_⟩
        -- end
        refine ⟨_, rfl, _, _, rfl, rfl, _, rfl, tN, _, _, _, rfl, rfl, hNum H2, atI_nat (nums_at x), _, _, rfl, rfl, ?_⟩
        -- numbers
        have e2 : xs.flatMap Fe.flat = (AA ++ [callNo x]) ++ (numsOf x ++ (rr ++ BB)) := by
          rw [e1]
          simp
        have hAl : (AA ++ [callNo x]).length = placeAt xs i + 1 := by
          rw [List.length_append, hA]
          rfl
        have ecut : cutV (L (xs.flatMap Fe.flat)) (some ((placeAt xs i : Nat) + 1 : Int)) (some ((placeAt xs i : Nat) + 1 + ((numsOf x).length : Nat) : Int)) = L (numsOf x) := cut_mid e2 (by rw [hAl]; omega) (by rw [hAl]; omega)
        refine ⟨_, rfl, _, rfl, _, _, rfl, rfl, _, rfl, _, rfl, _, rfl, ca, _, rfl, hca2, fun nA hnA => ?_⟩
        have sN := Same.new (o := HO.lst (L (numsOf x))) hnA
        have hn3 : upd H2 nA (.lst (cutV (L (xs.flatMap Fe.flat)) (some ((placeAt xs i : Nat) + 1 : Int)) (some ((placeAt xs i : Nat) + 1 + ((numsOf x).length : Nat) : Int)))) = upd H2 nA (.lst (L (numsOf x))) := by rw [ecut]
        generalize hH3 : upd H2 nA (.lst (L (numsOf x))) = H3 at *
        rw [hn3]
        have hnA3 : H3 nA = some (.lst (L (numsOf x))) := by
          rw [← hH3]
          exact upd_same
        -- some = []
        refine ⟨by show 0 ≤ sizeLine; decide, fun sA hsA => ?_⟩
        have sS := Same.new (o := HO.lst []) hsA
        have s23 := sN.trans sS
        -- if call in LISTED
        refine ⟨_, rfl, tL, _, rfl, .inr (hLis _), rfl, rfl, _, rfl, ?_⟩
        have finish : ∀ (σ' : L2.St) (H' : Hp), Turn CD C xs H ca d fA (i + 1) σ' H' → (∃ i, i ≤ xs.length ∧ Turn CD C xs H ca d fA i σ' H') ∧ left (xs.flatMap Fe.flat).length σ' < left (xs.flatMap Fe.flat).length [some (V.ref ca), some (V.ref d), some (V.ref fA), some (V.int (placeAt xs i : Nat)), v4, v5, v6, v7, v8] := fun σ' H' tt => by
          refine ⟨⟨i + 1, by omega, tt⟩, ?_⟩
          obtain ⟨w4, w5, w6, w7, w8, fpp, rfl, _⟩ := tt
          show (xs.flatMap Fe.flat).length - ((placeAt xs (i + 1) : Nat) : Int).toNat < (xs.flatMap Fe.flat).length - ((placeAt xs i : Nat) : Int).toNat
          rw [Int.toNat_natCast, Int.toNat_natCast]
          omega
        cases hl : listed x with
        | true =>
          refine if_true_of hl ?_
          have ef := flat_listed hl
          have e3 : xs.flatMap Fe.flat = (AA ++ (callNo x :: numsOf x)) ++ ((Fe.rowOf x).length :: (Fe.rowOf x ++ BB)) := by
            rw [eall, ef]
            simp
          have hBl : (AA ++ (callNo x :: numsOf x)).length = placeAt xs i + 1 + (numsOf x).length := by
            rw [List.length_append, hA, List.length_cons]
            omega
          have e4 : xs.flatMap Fe.flat = ((AA ++ (callNo x :: numsOf x)) ++ [(Fe.rowOf x).length]) ++ (Fe.rowOf x ++ BB) := by
            rw [e3]
            simp
          have hCl : ((AA ++ (callNo x :: numsOf x)) ++ [(Fe.rowOf x).length]).length = placeAt xs i + 1 + (numsOf x).length + 1 := by
            rw [List.length_append, hBl]
            rfl
          have hca3 := s23.seq hca2
          have ecut2 : cutV (L (xs.flatMap Fe.flat)) (some ((placeAt xs i : Nat) + 1 + ((numsOf x).length : Nat) + 1 : Int)) (some ((placeAt xs i : Nat) + 1 + ((numsOf x).length : Nat) + 1 + ((Fe.rowOf x).length : Nat) : Int)) = L (Fe.rowOf x) := cut_mid e4 (by rw [hCl]; omega) (by rw [hCl]; omega)
          refine ⟨_, rfl, _, rfl, _, _, rfl, rfl, _, rfl, _, rfl, _, _, rfl, rfl, _, rfl, _, rfl, ca, _, _, _, rfl, rfl, hca3, get_mid e3 (by rw [hBl]; omega), _, _, rfl, rfl, _, rfl, ca, _, rfl, hca3, fun rA hrA => ?_⟩
          have sR := Same.new (o := HO.lst (L (Fe.rowOf x))) hrA
          have hr4' : ∀ (H' : Hp), upd H' rA (.lst (cutV (L (xs.flatMap Fe.flat)) (some ((placeAt xs i : Nat) + 1 + ((numsOf x).length : Nat) + 1 : Int)) (some ((placeAt xs i : Nat) + 1 + ((numsOf x).length : Nat) + 1 + ((Fe.rowOf x).length : Nat) : Int)))) = upd H' rA (.lst (L (Fe.rowOf x))) := fun H' => by rw [ecut2]
          rw [hr4']
          refine ⟨_, rfl, _, _, rfl, rfl, _, rfl, rA, _, rfl, .inl (SqL.of upd_same), _, _, rfl, rfl, ?_⟩
          have s4 := s23.trans sR
          have lf : (Fe.flat x).length = 1 + ((numsOf x).length + (1 + (Fe.rowOf x).length)) := by
            rw [ef, List.length_cons, List.length_append, List.length_cons]
            omega
          rw [L_len]
          exact turn_tail hx (by omega) rfl hx20 hlen (s2.trans s4) hfp2 hfA2 hfA0 (s4 _ _ hout) (hD2.same s4) ((sS.trans sR) _ _ hnA3) upd_same finish
        | false =>
          refine if_false_of hl ?_
          obtain ⟨ef, er⟩ := flat_plain hl
          have lf : (Fe.flat x).length = 1 + (numsOf x).length := by
            rw [ef, List.length_cons]
            omega
          exact turn_tail hx (by omega) rfl hx20 hlen (s2.trans s23) hfp2 hfA2 hfA0 (s23 _ _ hout) (hD2.same s23) (sS _ _ hnA3) (by rw [upd_same, er]; rfl) finish
    · rintro σ H2 Q1 Q2 hQ ⟨v, h3, p, ys, u, h0, hp, hy, i, j, e1, e2, k, hk, g⟩
      exact ⟨v, h3, p, ys, u, h0, hp, hy, i, j, e1, e2, k, hk, hQ _ _ g⟩
end
end Fw

set_option Elab.async false
set_option linter.all false
set_option maxRecDepth 100000
set_option maxHeartbeats 4000000
namespace Fw
open PySem PySem.Spec PyProof.Rows L2
/-! ### what the written part tells -/
section
variable {K : PySem.W.Frag} {h : Heap} {mg : Str → Option Value}
def DefIn (K : PySem.W.Frag) (x : Str) (st : Stmt) : Prop := ∃ (f : Addr) (oc : Value) (od an : Option Addr) (sl : Array (Option Value)) (kV dc pm cd ct : Value), PySem.W.nsIn K mainGlobals x = some (some (.ref f)) ∧
  K.lookup f = some ⟨oc, od, .func (PySem.W.fnOf x x (defArgs st) (defBody st) (defScope st) .none kV dc pm an cd ct), sl⟩ ∧ PySem.W.codeIn K cd x = true ∧ PySem.W.keepIn K (.ref f) = true
theorem defIn_mk {x : Str} {st : Stmt} {f : Addr} {oc : Value} {od an : Option Addr} {sl : Array (Option Value)} {kV dc pm cd ct : Value} (a : PySem.W.nsIn K mainGlobals x = some (some (.ref f)))
    (l : K.lookup f = some ⟨oc, od, .func (PySem.W.fnOf x x (defArgs st) (defBody st) (defScope st) .none kV dc pm an cd ct), sl⟩) (c : PySem.W.codeIn K cd x = true) (k : PySem.W.keepIn K (.ref f) = true) : DefIn K x st :=
  ⟨f, oc, od, an, sl, kV, dc, pm, cd, ct, a, l, c, k⟩
theorem DefIn.here {x : Str} {st : Stmt} (X : K.In h) (G : h.Ns mainGlobals mg) (d : DefIn K x st) : Def K mg x st := by
  obtain ⟨f, oc, od, an, sl, kV, dc, pm, cd, ct, a, l, c, k⟩ := d
  exact ⟨f, _, fun_mk l c k, PySem.W.mg_of X G a⟩
/-- an __init__ in a class of the module -/
structure InitIn (K : PySem.W.Frag) (C : Addr) (q : Str) (st : Stmt) (f : Addr) : Prop where
  a : PySem.W.findIn K (.ref C) "__init__" = some (some (.ref f))
  l : ∃ (oc : Value) (od an : Option Addr) (sl : Array (Option Value)) (kV dc pm cd ct : Value), K.lookup f = some ⟨oc, od, .func (PySem.W.fnOf "__init__" q (defArgs st) (defBody st) (defScope st) .none kV dc pm an cd ct), sl⟩ ∧ PySem.W.codeIn K cd q = true
  k : PySem.W.keepIn K (.ref f) = true
theorem initIn_mk {C f : Addr} {q : Str} {st : Stmt} {oc : Value} {od an : Option Addr} {sl : Array (Option Value)} {kV dc pm cd ct : Value} (a : PySem.W.findIn K (.ref C) "__init__" = some (some (.ref f)))
    (l : K.lookup f = some ⟨oc, od, .func (PySem.W.fnOf "__init__" q (defArgs st) (defBody st) (defScope st) .none kV dc pm an cd ct), sl⟩) (c : PySem.W.codeIn K cd q = true) (k : PySem.W.keepIn K (.ref f) = true) : InitIn K C q st f :=
  ⟨a, ⟨oc, od, an, sl, kV, dc, pm, cd, ct, l, c⟩, k⟩
theorem InitIn.fn {C f : Addr} {q : Str} {st : Stmt} (x : InitIn K C q st f) : ∃ fd : FuncData, Fun K "__init__" q st f fd := by
  obtain ⟨a, ⟨oc, od, an, sl, kV, dc, pm, cd, ct, l, c⟩, k⟩ := x
  exact ⟨_, fun_mk l c k⟩
/-- a plain class of the module -/
structure ClsIn (K : PySem.W.Frag) (x : Str) (C : Addr) (q : Str) (st : Stmt) : Prop where
  a : PySem.W.nsIn K mainGlobals x = some (some (.ref C))
  init : ∃ f, InitIn K C q st f ∧ PySem.W.isFn K (.ref f) = true
  pg : PySem.W.plainGet K C Str.empty = true
  hd : PySem.W.hasDictIn K C = true
  po : PySem.W.plainOver K C = true
  sa : PySem.W.findIn K (.ref C) "__setattr__" = some (some (.builtin "object.__setattr__"))
  mks : PySem.W.makesIn K C = true
  kc : PySem.W.keepIn K (.ref C) = true
theorem clsIn_mk {x q : Str} {C f : Addr} {st : Stmt} (a : PySem.W.nsIn K mainGlobals x = some (some (.ref C))) (i : InitIn K C q st f) (n : PySem.W.isFn K (.ref f) = true) (pg : PySem.W.plainGet K C Str.empty = true) (hd : PySem.W.hasDictIn K C = true) (po : PySem.W.plainOver K C = true)
    (sa : PySem.W.findIn K (.ref C) "__setattr__" = some (some (.builtin "object.__setattr__"))) (mk : PySem.W.makesIn K C = true) (kc : PySem.W.keepIn K (.ref C) = true) : ClsIn K x C q st := ⟨a, ⟨f, i, n⟩, pg, hd, po, sa, mk, kc⟩
theorem ClsIn.cls {x q : Str} {C : Addr} {st : Stmt} (c : ClsIn K x C q st) : Cls K C := ⟨c.pg, c.hd, c.po, c.sa⟩
theorem ClsIn.defI {x q : Str} {C : Addr} {st : Stmt} (c : ClsIn K x C q st) : DefI K C q st := by
  obtain ⟨f, i, n⟩ := c.init
  obtain ⟨fd, F⟩ := i.fn
  exact ⟨f, fd, F, c.mks, i.a, n, c.kc⟩
/-- a constant, a tuple of the module -/
def ConIn (K : PySem.W.Frag) (x : Str) (v : Int) : Prop := ∃ t, PySem.W.nsIn K mainGlobals x = some (some (.int v t))
theorem conIn_mk {x : Str} {v : Int} {t : Tok} (a : PySem.W.nsIn K mainGlobals x = some (some (.int v t))) : ConIn K x v := ⟨t, a⟩
theorem ConIn.here {x : Str} {v : Int} (X : K.In h) (G : h.Ns mainGlobals mg) (c : ConIn K x v) : ∃ t, mg x = some (.int v t) := by
  obtain ⟨t, a⟩ := c
  exact ⟨t, PySem.W.mg_of X G a⟩
def TupIn (K : PySem.W.Frag) (x : Str) (l : List Nat) : Prop := ∃ a, PySem.W.nsIn K mainGlobals x = some (some (.ref a)) ∧ ∀ H, SqT K H a (L l)
theorem tupIn_mk {x : Str} {l : List Nat} {a : Addr} {dd : Option Addr} {its : Array Value} {n : Nat} {sl : Array (Option Value)} (e : PySem.W.nsIn K mainGlobals x = some (some (.ref a))) (o : K.lookup a = some ⟨.type "tuple", dd, .seq its n, sl⟩) (z : its.size ≤ 1000) (v : Vals (L l) its.toList) : TupIn K x l :=
  ⟨a, e, fun H => .inr ⟨_, its, n, o, rfl, rfl, Nat.le_trans z (by rw [sizeLine_eq]; decide), v⟩⟩
theorem TupIn.here {x : Str} {l : List Nat} (X : K.In h) (G : h.Ns mainGlobals mg) (c : TupIn K x l) : ∃ a, mg x = some (.ref a) ∧ ∀ H, SqT K H a (L l) := by
  obtain ⟨a, e, q⟩ := c
  exact ⟨a, PySem.W.mg_of X G e, q⟩
/-- the class of the errors -/
structure RefIn (K : PySem.W.Frag) (CR : Addr) : Prop where
  a : PySem.W.nsIn K mainGlobals "Refusal" = some (some (.ref CR))
  init : ∃ f, InitIn K CR "Refusal.__init__" sRefusalI f ∧ PySem.W.typeIn K (.ref f) = some (.type "function")
  oex : OexC K CR
  xfc : XfC K CR
  rN : PySem.W.findIn K (.ref CR) "numbers" = some none
  te : PySem.W.exmOne K (.ref CR) (.ref CR) = some true
theorem exm_self {S : Addr} (h1 : PySem.W.subIn K (.ref S) (.type "BaseException") = some true) (h2 : PySem.W.isClsIn K S = true) (h3 : PySem.W.typeIn K (.ref S) = some (.type "type")) (h4 : PySem.W.subIn K (.ref S) (.ref S) = some true) :
    PySem.W.exmOne K (.ref S) (.ref S) = some true := by
  have e1 : (PySem.W.subIn K (.ref S) (.type "BaseException") == some true) = true := by rw [h1] <;> rfl
  have e2 : ((PySem.W.clsIn K S).isSome && PySem.W.typeIn K (.ref S) == some (.type "type")) = true := by
    have h2' : (PySem.W.clsIn K S).isSome = true := h2
    rw [h2', h3] <;> rfl
  show (if (PySem.W.subIn K (.ref S) (.type "BaseException") == some true) = true then (if ((PySem.W.clsIn K S).isSome && PySem.W.typeIn K (.ref S) == some (.type "type")) = true then PySem.W.subIn K (.ref S) (.ref S) else none) else none) = some true
  rw [if_pos e1, if_pos e2]
  exact h4
theorem refIn_mk {CR f : Addr} {nm q : Str} {N : Addr} {bs : List Value} {sn : List Str} {sub : List Value} {ab : Bool} {col : Option Bool} {dd : Option Addr} {m0 m1 m2 m3 m5 : Option Value} (a : PySem.W.nsIn K mainGlobals "Refusal" = some (some (.ref CR)))
    (i : InitIn K CR "Refusal.__init__" sRefusalI f) (t : PySem.W.typeIn K (.ref f) = some (.type "function"))
    (xL : K.lookup CR = some (excClassObj nm q CR N bs [.type "ValueError", .type "Exception", .type "BaseException", .type "object"] true sn sub ab col dd m0 m1 m2 m3 m5 "ValueError.__new__"))
    (sa : PySem.W.findIn K (.ref CR) "__setattr__" = some (some (.builtin "object.__setattr__"))) (ga : PySem.W.findIn K (.ref CR) "__getattribute__" = some (some (.builtin "BaseException.__getattribute__"))) (gg : PySem.W.findIn K (.ref CR) "__getattr__" = some none)
    (nb : PySem.W.findIn K (.ref CR) "numbers" = some none) (kC : PySem.W.keepIn K (.ref CR) = true) (eC : PySem.W.subIn K (.ref CR) (.type "BaseException") = some true) (tC : PySem.W.typeIn K (.ref CR) = some (.type "type")) (hC : PySem.W.hasDictIn K CR = true) (iC : PySem.W.isClsIn K CR = true)
    (sC : PySem.W.subIn K (.ref CR) (.ref CR) = some true) : RefIn K CR :=
  ⟨a, ⟨f, i, t⟩, ⟨⟨nm, q, N, bs, _, sn, sub, ab, col, dd, m0, m1, m2, m3, m5, xL, by decide +kernel⟩, sa, eC, tC, kC⟩, ⟨ga, gg, eC, hC⟩, nb, exm_self eC iC tC sC⟩
end
/-! ### all defs together -/
theorem all_mk {P : Program} {w : World} {K : PySem.W.Frag} {h : Heap} {mg : Str → Option Value} {fa C CB CD CR : Addr} (X : K.In h) (G : h.Ns mainGlobals mg) (hfa : mg "answers" = some (.ref fa))
    (kF : ClsIn K "Forest" C "Forest.__init__" sForestI) (kB : ClsIn K "Best" CB "Best.__init__" sBestI) (kD : ClsIn K "Desk" CD "Desk.__init__" sDeskI) (kR : RefIn K CR)
    (fP : PySem.W.findIn K (.ref C) "periods" = some none)
    (fA : PySem.W.findIn K (.ref C) "apart" = some none)
    (fL : PySem.W.findIn K (.ref C) "least" = some none)
    (fM : PySem.W.findIn K (.ref C) "most" = some none)
    (fS : PySem.W.findIn K (.ref C) "stands" = some none)
    (fR : PySem.W.findIn K (.ref C) "pairs" = some none)
    (bB : PySem.W.findIn K (.ref CB) "brings" = some none)
    (bM : PySem.W.findIn K (.ref CB) "many" = some none)
    (bP : PySem.W.findIn K (.ref CB) "plan" = some none)
    (dF : PySem.W.findIn K (.ref CD) "forest" = some none)
    (cNE : ConIn K "NEIGHBOURS" 1)
    (cTL : ConIn K "TOO_LITTLE" 2)
    (cTM : ConIn K "TOO_MUCH" 3)
    (cOut : ConIn K "OUT" (-1))
    (cNoSt : ConIn K "NO_STAND" (-2))
    (cIsSo : ConIn K "IS_SO" (-3))
    (cFull : ConIn K "FULL" (-5))
    (cNoPl : ConIn K "NO_PLAN" (-6))
    (cMP : ConIn K "MOST_PERIODS" 4)
    (cMS : ConIn K "MOST_STANDS" 6)
    (cMB : ConIn K "MOST_BROUGHT" 1000000)
    (tNum : TupIn K "NUMBERS" [4, 0, 2, 2, 0, 0, 1, 0])
    (tLis : TupIn K "LISTED" [1, 5, 6])
    (nAbs : PySem.W.nsIn K mainGlobals "abs" = some none)
    (nEnum : PySem.W.nsIn K mainGlobals "enumerate" = some none)
    (nRange : PySem.W.nsIn K mainGlobals "range" = some none)
    (nLen : PySem.W.nsIn K mainGlobals "len" = some none)
    (nMax : PySem.W.nsIn K mainGlobals "max" = some none)
    (nMin : PySem.W.nsIn K mainGlobals "min" = some none)
    (nSum : PySem.W.nsIn K mainGlobals "sum" = some none)
    (nInt : PySem.W.nsIn K mainGlobals "int" = some none)
    (nList : PySem.W.nsIn K mainGlobals "list" = some none)
    (d_is_too_near : DefIn K "is_too_near" sTooNear)
    (d_brought_in : DefIn K "brought_in" sBroughtIn)
    (d_all_brought : DefIn K "all_brought" sAllBrought)
    (d_wrong_pair : DefIn K "wrong_pair" sWrongPair)
    (d_wrong_with : DefIn K "wrong_with" sWrongWith)
    (d_choices : DefIn K "choices" sChoices)
    (d_fits : DefIn K "fits" sFits)
    (d_all_plans : DefIn K "all_plans" sAllPlans)
    (d_best_of : DefIn K "best_of" sBestOf)
    (d_refuse_if : DefIn K "refuse_if" sRefuseIf)
    (d_begins : DefIn K "begins" sBegins)
    (d_stand : DefIn K "stand" sStand)
    (d_pair_of : DefIn K "pair_of" sPairOf)
    (d_near : DefIn K "near" sNear)
    (d_far : DefIn K "far" sFar)
    (d_told_best : DefIn K "told_best" sToldBest)
    (d_best : DefIn K "best" sBest)
    (d_check_plan : DefIn K "check_plan" sCheckPlan)
    (d_check : DefIn K "check" sCheck)
    (d_goes_on : DefIn K "goes_on" sGoesOn)
    (d_alone : DefIn K "alone" sAlone)
    (d_call_on : DefIn K "call_on" sCallOn)
    (d_answer_to : DefIn K "answer_to" sAnswerTo)
    (d_answers : DefIn K "answers" sAnswers)
    : ∃ fd : FuncData, (∀ (s : Shared) (us : List Value), us.length = (["calls"] : List Str).length → BindsTo s fd ⟨us, []⟩ ((["calls"] : List Str).zip us)) ∧ ∀ base : Heap, K.In base → base.Ns mainGlobals mg → FnOk P w K mg base CX0 10 fa fd ["calls"] (spAnswers K) := by
  have T : Txt K mg C CB CD CR := {
    clF := kF.cls, clB := kB.cls, clD := kD.cls, gF := PySem.W.mg_of X G kF.a, gB := PySem.W.mg_of X G kB.a, gD := PySem.W.mg_of X G kD.a, gR := PySem.W.mg_of X G kR.a, oex := kR.oex, xfc := kR.xfc, rN := kR.rN, te := kR.te,
    fP := fP, fA := fA, fL := fL, fM := fM, fS := fS, fR := fR, bB := bB, bM := bM, bP := bP, dF := dF,
    cNE := cNE.here X G, cTL := cTL.here X G, cTM := cTM.here X G, cOut := cOut.here X G, cNoSt := cNoSt.here X G, cIsSo := cIsSo.here X G, cFull := cFull.here X G, cNoPl := cNoPl.here X G, cMP := cMP.here X G, cMS := cMS.here X G, cMB := cMB.here X G,
    tNum := tNum.here X G, tLis := tLis.here X G,
    nAbs := PySem.W.mg_none_of X G nAbs, nEnum := PySem.W.mg_none_of X G nEnum, nRange := PySem.W.mg_none_of X G nRange, nLen := PySem.W.mg_none_of X G nLen, nMax := PySem.W.mg_none_of X G nMax, nMin := PySem.W.mg_none_of X G nMin, nSum := PySem.W.mg_none_of X G nSum, nInt := PySem.W.mg_none_of X G nInt, nList := PySem.W.mg_none_of X G nList }
  obtain ⟨f0, oc, od, an, sl, kV, dc, pm, cd, ct, a0, l0, c0, k0⟩ := d_answers
  have e := hfa.symm.trans (PySem.W.mg_of X G a0)
  cases e
  refine ⟨PySem.W.fnOf "answers" "answers" (defArgs sAnswers) (defBody sAnswers) (defScope sAnswers) .none kV dc pm an cd ct, fun s us hu => match us, hu with | [_], _ => .of_eq rfl, fun base _ _ => ?_⟩
  obtain ⟨fR, iR, tR⟩ := kR.init
  obtain ⟨fdR, FR⟩ := iR.fn
  have R : HasR P w K mg base CR := hasRefusalI ⟨fR, fdR, FR, iR.a, tR⟩ T
  have iF := hasForestI (P := P) (w := w) (base := base) kF.defI T
  have iB := hasBestI (P := P) (w := w) (base := base) kB.defI T
  have iD := hasDeskI (P := P) (w := w) (base := base) kD.defI T iF
  have h1 := has_tooNear (P := P) (w := w) (base := base) (d_is_too_near.here X G) T
  have h2 := has_broughtIn (P := P) (w := w) (base := base) (d_brought_in.here X G) T
  have h3 := has_allBrought (d_all_brought.here X G) T h2
  have h4 := has_wrongPair (d_wrong_pair.here X G) T h1
  have h5 := has_wrongWith (d_wrong_with.here X G) T h4 h3
  have h6 := has_choices (P := P) (w := w) (base := base) (d_choices.here X G) T
  have h7 := has_fits (d_fits.here X G) T h1 h3
  have h8 := has_allPlans (d_all_plans.here X G) T h7
  have h9 := has_bestOf (d_best_of.here X G) T h8 h3 iB
  have r1 := has_refuseIf (d_refuse_if.here X G) T R
  have r2 := has_begins (d_begins.here X G) T r1 iF
  have r3 := has_stand (d_stand.here X G) T r1
  have r4 := has_pairOf (P := P) (w := w) (base := base) (d_pair_of.here X G) T
  have r5 := has_near (d_near.here X G) T r1 r4
  have r6 := has_far (d_far.here X G) T r1 r4
  have r7 := has_toldBest (d_told_best.here X G) T h9 h3 r1
  have r8 := has_best (d_best.here X G) T h6 r7
  have r9 := has_checkPlan (d_check_plan.here X G) T r1
  have t1 := has_check (d_check.here X G) T r9 h5 h3 R
  have t2 := has_goesOn (d_goes_on.here X G) T r9 h6 r1 r7
  have t3 := has_alone (P := P) (w := w) (base := base) (d_alone.here X G) T
  have t4 := has_callOn (d_call_on.here X G) T r2 r3 r5 r6 r8 t1 t2 t3
  have t5 := has_answerTo (d_answer_to.here X G) T t4
  exact has_answers (fun_mk l0 c0 k0) T t5 iD
end Fw

set_option Elab.async false
set_option linter.all false
open PySem PySem.W PyProof.Rows
set_option maxRecDepth 100000 in
set_option maxHeartbeats 8000000 in
theorem PySem.Challenge.cw_fellings_s01_answers_holds : PySem.Challenge.rw_fellings_s01_answers.Holds := by
  w_on; k_headS; (case hw => exact ⟨[.list [.int 4]], by decide +kernel, by decide +kernel⟩)
  k_fillS
  refine L2.walk_specK (r := PySem.Challenge.rw_fellings_s01_answers) (k := 10) (CX := L2.CX0) (ps := ["calls"]) (sp := Fw.spAnswers) (by decide +kernel) rfl rfl ⟨rfl, by decide, by decide⟩ (fun w h Y => PySem.W.kIn_of Y) ?F ?S (fun _ _ _ _ z => z)
  case F =>
    intro w mg fa h Y KX G hmg
    refine' Fw.all_mk KX G hmg ?kF ?kB ?kD ?kR ?fP ?fA ?fL ?fM ?fS ?fR ?bB ?bM ?bP ?dF ?cNE ?cTL ?cTM ?cOut ?cNoSt ?cIsSo ?cFull ?cNoPl ?cMP ?cMS ?cMB ?tNum ?tLis ?nAbs ?nEnum ?nRange ?nLen ?nMax ?nMin ?nSum ?nInt ?nList ?d_is_too_near ?d_brought_in ?d_all_brought ?d_wrong_pair ?d_wrong_with ?d_choices ?d_fits ?d_all_plans ?d_best_of ?d_refuse_if ?d_begins ?d_stand ?d_pair_of ?d_near ?d_far ?d_told_best ?d_best ?d_check_plan ?d_check ?d_goes_on ?d_alone ?d_call_on ?d_answer_to ?d_answers
    (case kF => refine' Fw.clsIn_mk ?a (Fw.initIn_mk ?ia ?il ?ic ?ik) ?n ?pg ?hd ?po ?sa ?mk ?kc; (case a => k_is); (case ia => k_is); (case il => k_is); (case ic => k_is); (case ik => k_is); (case n => k_is); (case pg => k_is); (case hd => k_is); (case po => k_is); (case sa => k_is); (case mk => k_is); (case kc => k_is))
    (case kB => refine' Fw.clsIn_mk ?a (Fw.initIn_mk ?ia ?il ?ic ?ik) ?n ?pg ?hd ?po ?sa ?mk ?kc; (case a => k_is); (case ia => k_is); (case il => k_is); (case ic => k_is); (case ik => k_is); (case n => k_is); (case pg => k_is); (case hd => k_is); (case po => k_is); (case sa => k_is); (case mk => k_is); (case kc => k_is))
    (case kD => refine' Fw.clsIn_mk ?a (Fw.initIn_mk ?ia ?il ?ic ?ik) ?n ?pg ?hd ?po ?sa ?mk ?kc; (case a => k_is); (case ia => k_is); (case il => k_is); (case ic => k_is); (case ik => k_is); (case n => k_is); (case pg => k_is); (case hd => k_is); (case po => k_is); (case sa => k_is); (case mk => k_is); (case kc => k_is))
    (case kR => refine' Fw.refIn_mk ?a (Fw.initIn_mk ?ia ?il ?ic ?ik) ?t ?xL ?sa ?ga ?gg ?nb ?kC ?eC ?tC ?hC ?iC ?sC; (case a => k_is); (case ia => k_is); (case il => k_is); (case ic => k_is); (case ik => k_is); (case t => k_is); (case xL => k_is); (case sa => k_is); (case ga => k_is); (case gg => k_is); (case nb => k_is); (case kC => k_is); (case eC => k_is); (case tC => k_is); (case hC => k_is); (case iC => k_is); (case sC => first | rfl | k_is))
    (case fP => k_is)
    (case fA => k_is)
    (case fL => k_is)
    (case fM => k_is)
    (case fS => k_is)
    (case fR => k_is)
    (case bB => k_is)
    (case bM => k_is)
    (case bP => k_is)
    (case dF => k_is)
    (case cNE => refine' Fw.conIn_mk ?a; (case a => k_is))
    (case cTL => refine' Fw.conIn_mk ?a; (case a => k_is))
    (case cTM => refine' Fw.conIn_mk ?a; (case a => k_is))
    (case cOut => refine' Fw.conIn_mk ?a; (case a => k_is))
    (case cNoSt => refine' Fw.conIn_mk ?a; (case a => k_is))
    (case cIsSo => refine' Fw.conIn_mk ?a; (case a => k_is))
    (case cFull => refine' Fw.conIn_mk ?a; (case a => k_is))
    (case cNoPl => refine' Fw.conIn_mk ?a; (case a => k_is))
    (case cMP => refine' Fw.conIn_mk ?a; (case a => k_is))
    (case cMS => refine' Fw.conIn_mk ?a; (case a => k_is))
    (case cMB => refine' Fw.conIn_mk ?a; (case a => k_is))
    (case tNum => refine' Fw.tupIn_mk ?e ?o ?z ?v; (case e => k_is); (case o => k_is); (case z => decide +kernel); (case v => exact (.cons ⟨_, rfl⟩ (.cons ⟨_, rfl⟩ (.cons ⟨_, rfl⟩ (.cons ⟨_, rfl⟩ (.cons ⟨_, rfl⟩ (.cons ⟨_, rfl⟩ (.cons ⟨_, rfl⟩ (.cons ⟨_, rfl⟩ .nil))))))))))
    (case tLis => refine' Fw.tupIn_mk ?e ?o ?z ?v; (case e => k_is); (case o => k_is); (case z => decide +kernel); (case v => exact (.cons ⟨_, rfl⟩ (.cons ⟨_, rfl⟩ (.cons ⟨_, rfl⟩ .nil)))))
    (case nAbs => k_is)
    (case nEnum => k_is)
    (case nRange => k_is)
    (case nLen => k_is)
    (case nMax => k_is)
    (case nMin => k_is)
    (case nSum => k_is)
    (case nInt => k_is)
    (case nList => k_is)
    (case d_is_too_near => refine' Fw.defIn_mk ?a ?l ?c ?k; (case a => k_is); (case l => k_is); (case c => k_is); (case k => k_is))
    (case d_brought_in => refine' Fw.defIn_mk ?a ?l ?c ?k; (case a => k_is); (case l => k_is); (case c => k_is); (case k => k_is))
    (case d_all_brought => refine' Fw.defIn_mk ?a ?l ?c ?k; (case a => k_is); (case l => k_is); (case c => k_is); (case k => k_is))
    (case d_wrong_pair => refine' Fw.defIn_mk ?a ?l ?c ?k; (case a => k_is); (case l => k_is); (case c => k_is); (case k => k_is))
    (case d_wrong_with => refine' Fw.defIn_mk ?a ?l ?c ?k; (case a => k_is); (case l => k_is); (case c => k_is); (case k => k_is))
    (case d_choices => refine' Fw.defIn_mk ?a ?l ?c ?k; (case a => k_is); (case l => k_is); (case c => k_is); (case k => k_is))
    (case d_fits => refine' Fw.defIn_mk ?a ?l ?c ?k; (case a => k_is); (case l => k_is); (case c => k_is); (case k => k_is))
    (case d_all_plans => refine' Fw.defIn_mk ?a ?l ?c ?k; (case a => k_is); (case l => k_is); (case c => k_is); (case k => k_is))
    (case d_best_of => refine' Fw.defIn_mk ?a ?l ?c ?k; (case a => k_is); (case l => k_is); (case c => k_is); (case k => k_is))
    (case d_refuse_if => refine' Fw.defIn_mk ?a ?l ?c ?k; (case a => k_is); (case l => k_is); (case c => k_is); (case k => k_is))
    (case d_begins => refine' Fw.defIn_mk ?a ?l ?c ?k; (case a => k_is); (case l => k_is); (case c => k_is); (case k => k_is))
    (case d_stand => refine' Fw.defIn_mk ?a ?l ?c ?k; (case a => k_is); (case l => k_is); (case c => k_is); (case k => k_is))
    (case d_pair_of => refine' Fw.defIn_mk ?a ?l ?c ?k; (case a => k_is); (case l => k_is); (case c => k_is); (case k => k_is))
    (case d_near => refine' Fw.defIn_mk ?a ?l ?c ?k; (case a => k_is); (case l => k_is); (case c => k_is); (case k => k_is))
    (case d_far => refine' Fw.defIn_mk ?a ?l ?c ?k; (case a => k_is); (case l => k_is); (case c => k_is); (case k => k_is))
    (case d_told_best => refine' Fw.defIn_mk ?a ?l ?c ?k; (case a => k_is); (case l => k_is); (case c => k_is); (case k => k_is))
    (case d_best => refine' Fw.defIn_mk ?a ?l ?c ?k; (case a => k_is); (case l => k_is); (case c => k_is); (case k => k_is))
    (case d_check_plan => refine' Fw.defIn_mk ?a ?l ?c ?k; (case a => k_is); (case l => k_is); (case c => k_is); (case k => k_is))
    (case d_check => refine' Fw.defIn_mk ?a ?l ?c ?k; (case a => k_is); (case l => k_is); (case c => k_is); (case k => k_is))
    (case d_goes_on => refine' Fw.defIn_mk ?a ?l ?c ?k; (case a => k_is); (case l => k_is); (case c => k_is); (case k => k_is))
    (case d_alone => refine' Fw.defIn_mk ?a ?l ?c ?k; (case a => k_is); (case l => k_is); (case c => k_is); (case k => k_is))
    (case d_call_on => refine' Fw.defIn_mk ?a ?l ?c ?k; (case a => k_is); (case l => k_is); (case c => k_is); (case k => k_is))
    (case d_answer_to => refine' Fw.defIn_mk ?a ?l ?c ?k; (case a => k_is); (case l => k_is); (case c => k_is); (case k => k_is))
    (case d_answers => refine' Fw.defIn_mk ?a ?l ?c ?k; (case a => k_is); (case l => k_is); (case c => k_is); (case k => k_is))
  case S =>
    intro K H xs a hO hwi hask hx
    cases hx with
    | cons h1 h2 =>
      cases h2
      cases h1 with
      | lst hs ha =>
        have e := L2.ints_dw a.1 _ ha
        subst e
        exact ⟨_, a.1, rfl, hs, hask, fun H' p hp => .lst (L2.SqL.of hp) (L2.dw_ints _)⟩
#print axioms PySem.Challenge.cw_fellings_s01_answers_holds
