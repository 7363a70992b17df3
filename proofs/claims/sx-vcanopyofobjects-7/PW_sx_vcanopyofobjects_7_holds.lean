import PyProof.Rows.All
import Wide.All
import OpenK.AllK
import Wide.FinOn
import PySem.Challenge.RW_sx_vcanopyofobjects_7
set_option Elab.async false
set_option linter.all false
set_option compiler.extract_closed false
namespace Mine

inductive Tr where
  | node (ks vs : List Int) (ts : List Tr)

namespace Tr
noncomputable def ks : Tr → List Int | .node ks _ _ => ks
noncomputable def vs : Tr → List Int | .node _ vs _ => vs
noncomputable def ts : Tr → List Tr | .node _ _ ts => ts
end Tr

theorem Tr.ind {P : Tr → Prop} (h : ∀ ks vs ts, (∀ t ∈ ts, P t) → P (.node ks vs ts)) : ∀ t, P t := by
  intro t
  induction t using Tr.rec (motive_2 := fun ts => ∀ t ∈ ts, P t) with
  | node ks vs ts ih => exact h ks vs ts ih
  | nil => rename_i ht; cases ht
  | cons t r i1 i2 =>
    rename_i u hu
    rcases List.mem_cons.mp hu with rfl | hu
    · exact i1
    · exact i2 u hu

abbrev Pr := Int × Int
abbrev Qd := Int × Int × Int × Int

/-- the keys' pairs of one node -/
noncomputable def prs (ks vs : List Int) : List Pr := ks.zip vs

/-- the j-th part: the j-th child's, then the j-th key's -/
noncomputable def segs {α : Type} (n : Nat) (c k : Nat → List α) : List α := (List.range n).flatMap fun j => c j ++ k j

mutual
noncomputable def Tr.flat : Tr → List Int
  | .node ks vs ts => [(ks.length : Int)] ++ ks ++ vs ++ [(ts.length : Int)] ++ (flatL ts).flatten
noncomputable def flatL : List Tr → List (List Int)
  | [] => []
  | t :: r => t.flat :: flatL r
end
theorem flatL_eq (ts : List Tr) : flatL ts = ts.map Tr.flat := by
  induction ts with
  | nil => simp [flatL]
  | cons t r ih => simp [flatL, ih]
theorem Tr.flat_node (ks vs : List Int) (ts : List Tr) : (Tr.node ks vs ts).flat = [(ks.length : Int)] ++ ks ++ vs ++ [(ts.length : Int)] ++ ts.flatMap Tr.flat := by
  rw [Tr.flat, flatL_eq, List.flatMap]

/-- in order -/
noncomputable def nodePairs (ks vs : List Int) (ps : List (List Pr)) : List Pr := segs (ks.length + 1) (fun j => ps.getD j []) fun j => ((prs ks vs)[j]?).toList
mutual
noncomputable def Tr.pairs : Tr → List Pr
  | .node ks vs ts => nodePairs ks vs (pairsL ts)
noncomputable def pairsL : List Tr → List (List Pr)
  | [] => []
  | t :: r => t.pairs :: pairsL r
end
theorem pairsL_eq (ts : List Tr) : pairsL ts = ts.map Tr.pairs := by
  induction ts with
  | nil => simp [pairsL]
  | cons t r ih => simp [pairsL, ih]

/-- the law's walk -/
noncomputable def leftOf (ks : List Int) (j : Nat) : Int := if 0 < j then ks.getD (j - 1) 0 else -99
noncomputable def rightOf (ks : List Int) (j : Nat) : Int := if j < ks.length then ks.getD j 0 else 99
noncomputable def clip (l r : Int) (q : Qd) : Qd := (q.1, q.2.1, max l q.2.2.1, min r q.2.2.2)
noncomputable def wide (p : Pr) : Qd := (p.1, p.2, -99, 99)
noncomputable def slim (q : Qd) : Pr := (q.1, q.2.1)
noncomputable def walkSeg (ks vs : List Int) (ws : List (List Qd)) (j : Nat) : List Qd := (ws.getD j []).map (clip (leftOf ks j) (rightOf ks j)) ++ (((prs ks vs)[j]?).toList).map wide
noncomputable def nodeWalk (ks vs : List Int) (ws : List (List Qd)) : List Qd := (List.range (ks.length + 1)).flatMap (walkSeg ks vs ws)
mutual
noncomputable def Tr.walk : Tr → List Qd
  | .node ks vs ts => nodeWalk ks vs (walkL ts)
noncomputable def walkL : List Tr → List (List Qd)
  | [] => []
  | t :: r => t.walk :: walkL r
end
theorem walkL_eq (ts : List Tr) : walkL ts = ts.map Tr.walk := by
  induction ts with
  | nil => simp [walkL]
  | cons t r ih => simp [walkL, ih]
theorem Tr.walk_node (ks vs : List Int) (ts : List Tr) : (Tr.node ks vs ts).walk = nodeWalk ks vs (ts.map Tr.walk) := by rw [Tr.walk, walkL_eq]
theorem Tr.pairs_node (ks vs : List Int) (ts : List Tr) : (Tr.node ks vs ts).pairs = nodePairs ks vs (ts.map Tr.pairs) := by rw [Tr.pairs, pairsL_eq]

/-- slim of the walk: the pairs -/
theorem flatMap_congr' {α β : Type} {l : List α} {f g : α → List β} (h : ∀ a ∈ l, f a = g a) : l.flatMap f = l.flatMap g := by
  induction l with
  | nil => rfl
  | cons a r ih => simp only [List.flatMap_cons]; rw [h a (.head _), ih fun b hb => h b (.tail _ hb)]
theorem map_flatMap' {α β γ : Type} (l : List α) (f : α → List β) (g : β → γ) : (l.flatMap f).map g = l.flatMap fun a => (f a).map g := by
  induction l with
  | nil => rfl
  | cons a r ih => simp [ih]
theorem filter_flatMap' {α β : Type} (l : List α) (f : α → List β) (p : β → Bool) : (l.flatMap f).filter p = l.flatMap fun a => (f a).filter p := by
  induction l with
  | nil => rfl
  | cons a r ih => simp [ih]

theorem slim_clip (l r : Int) (q : Qd) : slim (clip l r q) = slim q := rfl
theorem slim_wide (p : Pr) : slim (wide p) = p := rfl
theorem getD_map {α β : Type} (f : α → β) (l : List α) (j : Nat) (d : α) (e : β) (h : f d = e) : (l.map f).getD j e = f (l.getD j d) := by
  simp only [List.getD_eq_getElem?_getD, List.getElem?_map]
  cases l[j]? <;> simp [h]

theorem walk_slim : ∀ t : Tr, t.walk.map slim = t.pairs := by
  intro t
  induction t using Tr.ind with
  | h ks vs ts ih =>
    rw [Tr.walk_node, Tr.pairs_node, nodeWalk, nodePairs, segs, map_flatMap']
    refine flatMap_congr' fun j _ => ?_
    simp only [walkSeg, List.map_append, List.map_map]
    have e1 : slim ∘ wide = id := rfl
    rw [e1, List.map_id]
    congr 1
    simp only [List.getD_eq_getElem?_getD, List.getElem?_map]
    cases hq : ts[j]? with
    | none => simp
    | some t =>
      have hm : t ∈ ts := List.mem_of_getElem? hq
      simp only [Option.map_some, Option.getD_some]
      rw [← ih t hm]
      exact List.map_congr_left fun q _ => rfl

/-- the range -/
noncomputable def inR (lo hi : Int) (p : Pr) : Bool := decide (lo ≤ p.1) && decide (p.1 ≤ hi)
noncomputable def near (lo hi : Int) (q : Qd) : Bool := decide (lo ≤ q.1) && decide (q.1 ≤ hi) && decide (lo < q.2.2.2) && decide (q.2.2.1 < hi)
noncomputable def openAt (lo hi : Int) (ks : List Int) (j : Nat) : Bool := decide (lo < rightOf ks j) && decide (leftOf ks j < hi)
noncomputable def nodeRng (lo hi : Int) (ks vs : List Int) (rs : List (List Pr)) : List Pr :=
  segs (ks.length + 1) (fun j => if openAt lo hi ks j then rs.getD j [] else []) fun j => (((prs ks vs)[j]?).toList).filter (inR lo hi)
mutual
noncomputable def Tr.rng (lo hi : Int) : Tr → List Pr
  | .node ks vs ts => nodeRng lo hi ks vs (rngL lo hi ts)
noncomputable def rngL (lo hi : Int) : List Tr → List (List Pr)
  | [] => []
  | t :: r => t.rng lo hi :: rngL lo hi r
end
theorem rngL_eq (lo hi : Int) (ts : List Tr) : rngL lo hi ts = ts.map (Tr.rng lo hi) := by
  induction ts with
  | nil => simp [rngL]
  | cons t r ih => simp [rngL, ih]
theorem Tr.rng_node (lo hi : Int) (ks vs : List Int) (ts : List Tr) : (Tr.node ks vs ts).rng lo hi = nodeRng lo hi ks vs (ts.map (Tr.rng lo hi)) := by rw [Tr.rng, rngL_eq]

theorem and6 : ∀ a b c d e f : Bool, (a && b && (c && d) && (e && f)) = (c && e && (a && b && d && f)) := by decide
theorem near_clip (lo hi l r : Int) (q : Qd) : near lo hi (clip l r q) = (decide (lo < r) && decide (l < hi) && near lo hi q) := by
  have e1 : decide (lo < min r q.2.2.2) = (decide (lo < r) && decide (lo < q.2.2.2)) := by
    rw [← Bool.decide_and]; exact decide_eq_decide.mpr Int.lt_min
  have e2 : decide (max l q.2.2.1 < hi) = (decide (l < hi) && decide (q.2.2.1 < hi)) := by
    rw [← Bool.decide_and]; exact decide_eq_decide.mpr Int.max_lt
  show (decide (lo ≤ q.1) && decide (q.1 ≤ hi) && decide (lo < min r q.2.2.2) && decide (max l q.2.2.1 < hi)) = _
  rw [e1, e2]
  exact and6 ..
theorem near_wide (lo hi : Int) (h1 : lo < 99) (h2 : -99 < hi) (p : Pr) : near lo hi (wide p) = inR lo hi p := by
  show (decide (lo ≤ p.1) && decide (p.1 ≤ hi) && decide (lo < 99) && decide (-99 < hi)) = _
  rw [decide_eq_true h1, decide_eq_true h2, Bool.and_true, Bool.and_true]
  rfl

theorem walk_rng (lo hi : Int) (h1 : lo < 99) (h2 : -99 < hi) : ∀ t : Tr, (t.walk.filter (near lo hi)).map slim = t.rng lo hi := by
  intro t
  induction t using Tr.ind with
  | h ks vs ts ih =>
    rw [Tr.walk_node, Tr.rng_node, nodeWalk, nodeRng, segs, filter_flatMap', map_flatMap']
    refine flatMap_congr' fun j _ => ?_
    simp only [walkSeg, List.filter_append, List.map_append, List.filter_map, List.map_map]
    have e1 : slim ∘ wide = id := rfl
    have e2 : near lo hi ∘ wide = inR lo hi := funext fun p => near_wide lo hi h1 h2 p
    rw [e1, e2, List.map_id]
    congr 1
    have e3 : slim ∘ clip (leftOf ks j) (rightOf ks j) = slim := rfl
    have e4 : near lo hi ∘ clip (leftOf ks j) (rightOf ks j) = fun q => openAt lo hi ks j && near lo hi q := funext fun q => near_clip lo hi _ _ q
    rw [e3, e4]
    simp only [List.getD_eq_getElem?_getD, List.getElem?_map]
    cases hq : ts[j]? with
    | none => simp
    | some t =>
      have hm : t ∈ ts := List.mem_of_getElem? hq
      simp only [Option.map_some, Option.getD_some]
      rw [← ih t hm]
      cases openAt lo hi ks j <;> simp

/-- a shift of the parts: the key ahead of its child -/
noncomputable def before {α : Type} (k : Nat → List α) : Nat → List α
  | 0 => []
  | j + 1 => k j
theorem segs_shift {α : Type} (c k : Nat → List α) : ∀ n, segs (n + 1) c k = ((List.range (n + 1)).flatMap fun j => before k j ++ c j) ++ k n := by
  intro n
  induction n with
  | zero => simp [segs, before]
  | succ n ih =>
    have e : segs (n + 1 + 1) c k = segs (n + 1) c k ++ (c (n + 1) ++ k (n + 1)) := by
      simp only [segs]
      rw [List.range_succ (n := n + 1), List.flatMap_append]
      simp
    rw [e, ih, List.range_succ (n := n + 1), List.flatMap_append]
    simp [before]

/-- well laid: as many values as keys, no more children than keys + 1, at every depth -/
inductive Tr.Ok : Tr → Prop where
  | node {ks vs ts} : vs.length = ks.length → ts.length ≤ ks.length + 1 → (∀ t ∈ ts, Tr.Ok t) → Tr.Ok (.node ks vs ts)

theorem prs_length {ks vs : List Int} (h : vs.length = ks.length) : (prs ks vs).length = ks.length := by simp [prs, h]

theorem flatMap_toList {α : Type} (l : List α) : (List.range (l.length + 1)).flatMap (fun j => (l[j]?).toList) = l := by
  have : ∀ (n : Nat), (List.range n).flatMap (fun j => (l[j]?).toList) = l.take n := by
    intro n
    induction n with
    | zero => simp
    | succ n ih => rw [List.range_succ, List.flatMap_append, ih, List.take_add_one]; simp
  rw [this, List.take_of_length_le (Nat.le_succ _)]

theorem Tr.pairs_leaf {ks vs : List Int} (h : vs.length = ks.length) : (Tr.node ks vs []).pairs = prs ks vs := by
  rw [Tr.pairs_node, nodePairs, segs]
  have := flatMap_toList (prs ks vs)
  rw [prs_length h] at this
  simpa using this
theorem Tr.rng_leaf {lo hi : Int} {ks vs : List Int} (h : vs.length = ks.length) : (Tr.node ks vs []).rng lo hi = (prs ks vs).filter (inR lo hi) := by
  have e := congrArg (List.filter (inR lo hi)) (flatMap_toList (prs ks vs))
  rw [prs_length h, filter_flatMap'] at e
  rw [Tr.rng_node, nodeRng, segs]
  simpa using e

end Mine

namespace Mine

mutual
noncomputable def Tr.wt : Tr → Nat
  | .node ks _ ts => 1 + ks.length + (wtL ts).sum
noncomputable def wtL : List Tr → List Nat
  | [] => []
  | t :: r => t.wt :: wtL r
end
theorem wtL_eq (ts : List Tr) : wtL ts = ts.map Tr.wt := by
  induction ts with
  | nil => simp [wtL]
  | cons t r ih => simp [wtL, ih]
theorem Tr.wt_node (ks vs : List Int) (ts : List Tr) : (Tr.node ks vs ts).wt = 1 + ks.length + (ts.map Tr.wt).sum := by rw [Tr.wt, wtL_eq]

/-- what a stack still has to write; its top is its last -/
noncomputable def due {α β : Type} (f : α → List β) (st : List α) : List β := st.reverse.flatMap f
theorem due_nil {α β : Type} (f : α → List β) : due f [] = [] := rfl
theorem due_append {α β : Type} (f : α → List β) (st tl : List α) : due f (st ++ tl) = due f tl ++ due f st := by
  simp [due]
theorem due_snoc {α β : Type} (f : α → List β) (st : List α) (a : α) : due f (st ++ [a]) = f a ++ due f st := by
  simp [due]
noncomputable def load {α : Type} (f : α → Nat) (st : List α) : Nat := (st.map f).sum
theorem load_append {α : Type} (f : α → Nat) (st tl : List α) : load f (st ++ tl) = load f st + load f tl := by simp [load]
theorem load_one {α : Type} (f : α → Nat) (a : α) : load f [a] = f a := by simp [load]

theorem flat_step (out : List Int) (st : List Tr) (ks vs : List Int) (ts : List Tr) :
    out ++ due Tr.flat (st ++ [.node ks vs ts]) = (out ++ [(ks.length : Int)] ++ ks ++ vs ++ [(ts.length : Int)]) ++ due Tr.flat (st ++ ts.reverse) := by
  rw [due_snoc, due_append, Tr.flat_node]
  simp [due, List.append_assoc]
theorem flat_load (st : List Tr) (ks vs : List Int) (ts : List Tr) : load Tr.wt (st ++ ts.reverse) < load Tr.wt (st ++ [.node ks vs ts]) := by
  rw [load_append, load_append, load_one, Tr.wt_node]
  simp only [load, List.map_reverse, List.sum_reverse]
  lia

/-- an item of the stack: a whole node, or one key of it -/
abbrev It := Tr × Option Nat
noncomputable def It.wt : It → Nat
  | (t, none) => t.wt
  | (_, some _) => 1
noncomputable def It.pairs : It → List Pr
  | (t, none) => t.pairs
  | (t, some i) => ((prs t.ks t.vs)[i]?).toList
noncomputable def It.rng (lo hi : Int) : It → List Pr
  | (t, none) => t.rng lo hi
  | (t, some i) => ((prs t.ks t.vs)[i]?).toList
/-- the items are of use: the node is well laid, the key's place is in it -/
noncomputable def It.Ok : It → Prop
  | (t, none) => t.Ok
  | (t, some i) => t.Ok ∧ i < t.ks.length

noncomputable def pushP (t : Tr) (j : Nat) : List It := ((t.ts[j]?).toList.map fun c => (c, none)) ++ (if 0 < j then [(t, some (j - 1))] else [])
noncomputable def pushR (lo hi : Int) (t : Tr) (j : Nat) : List It :=
  (if openAt lo hi t.ks j then (t.ts[j]?).toList.map fun c => (c, none) else []) ++ (if 0 < j ∧ lo ≤ t.ks.getD (j - 1) 0 ∧ t.ks.getD (j - 1) 0 ≤ hi then [(t, some (j - 1))] else [])
/-- the places from n down, i of them -/
noncomputable def downs (n i : Nat) : List Nat := (List.range i).map fun d => n - d
theorem downs_succ (n i : Nat) : downs n (i + 1) = downs n i ++ [n - i] := by simp [downs, List.range_succ]
theorem downs_all (n : Nat) : downs n (n + 1) = (List.range (n + 1)).reverse := by
  apply List.ext_getElem
  · simp [downs]
  · intro i h1 h2
    simp [downs] at h1 h2 ⊢

theorem due_push {β : Type} (f : It → List β) (push : Nat → List It) (n : Nat) (st : List It) :
    due f (st ++ (downs n (n + 1)).flatMap push) = ((List.range (n + 1)).flatMap fun j => due f (push j)) ++ due f st := by
  rw [due_append, downs_all]
  congr 1
  simp only [due, List.reverse_flatMap, List.reverse_reverse]
  rw [List.flatMap_assoc]
  rfl

theorem toList_flatMap {α β : Type} (o : Option α) (f : α → List β) (g : α → List β) (h : ∀ a, o = some a → f a = g a) : o.toList.flatMap f = o.toList.flatMap g := by
  cases o with
  | none => rfl
  | some a => simp [h a rfl]

theorem prs_none {ks vs : List Int} (h : vs.length = ks.length) : (prs ks vs)[ks.length]? = none := by
  rw [List.getElem?_eq_none_iff, prs_length h]; exact Nat.le_refl _

theorem pairs_step {ks vs : List Int} {ts : List Tr} (h : vs.length = ks.length) (st : List It) :
    due It.pairs (st ++ [(.node ks vs ts, none)]) = due It.pairs (st ++ (downs ks.length (ks.length + 1)).flatMap (pushP (.node ks vs ts))) := by
  rw [due_snoc, due_push]
  congr 1
  show (Tr.node ks vs ts).pairs = _
  rw [Tr.pairs_node, nodePairs, segs_shift, prs_none h, Option.toList_none, List.append_nil]
  refine flatMap_congr' fun j _ => ?_
  simp only [due, pushP, List.reverse_append, List.flatMap_append]
  congr 1
  · cases j with
    | zero => rfl
    | succ j => simp [before, It.pairs, Tr.ks, Tr.vs]
  · simp only [List.getD_eq_getElem?_getD, List.getElem?_map, Tr.ts]
    cases ts[j]? <;> simp [It.pairs]

theorem rng_step {lo hi : Int} {ks vs : List Int} {ts : List Tr} (h : vs.length = ks.length) (st : List It) :
    due (It.rng lo hi) (st ++ [(.node ks vs ts, none)]) = due (It.rng lo hi) (st ++ (downs ks.length (ks.length + 1)).flatMap (pushR lo hi (.node ks vs ts))) := by
  rw [due_snoc, due_push]
  congr 1
  show (Tr.node ks vs ts).rng lo hi = _
  rw [Tr.rng_node, nodeRng, segs_shift, prs_none h, Option.toList_none, List.filter_nil, List.append_nil]
  refine flatMap_congr' fun j hj => ?_
  have hj' : j < ks.length + 1 := List.mem_range.mp hj
  simp only [due, pushR, List.reverse_append, List.flatMap_append]
  congr 1
  · cases j with
    | zero => rfl
    | succ j =>
      have hk : j < ks.length := by lia
      have hv : j < vs.length := by lia
      have e : (prs ks vs)[j]? = some (ks[j], vs[j]) := by
        rw [List.getElem?_eq_getElem (by rw [prs_length h]; exact hk)]; simp [prs]
      have e2 : ks.getD j 0 = ks[j] := by simp [List.getD_eq_getElem?_getD, hk]
      simp only [before, e, Tr.ks, Nat.add_sub_cancel, e2, Nat.zero_lt_succ, true_and, Option.toList_some]
      by_cases hc : lo ≤ ks[j] ∧ ks[j] ≤ hi
      · have : inR lo hi (ks[j], vs[j]) = true := by simp [inR, hc]
        rw [if_pos hc]
        simp [this, It.rng, Tr.ks, Tr.vs, e]
      · have : inR lo hi (ks[j], vs[j]) = false := by
          simp only [inR, Bool.and_eq_false_iff, decide_eq_false_iff_not]
          by_cases h1 : lo ≤ ks[j]
          · exact .inr fun h2 => hc ⟨h1, h2⟩
          · exact .inl h1
        rw [if_neg hc]
        simp [this]
  · show (if openAt lo hi ks j = true then _ else _) = List.flatMap (It.rng lo hi) (if openAt lo hi ks j = true then List.map (fun c => (c, none)) (ts[j]?).toList else []).reverse
    simp only [List.getD_eq_getElem?_getD, List.getElem?_map]
    by_cases hb : openAt lo hi ks j = true
    · rw [if_pos hb, if_pos hb]; cases ts[j]? <;> simp [It.rng]
    · rw [if_neg hb, if_neg hb]; rfl

theorem load_flatMap {α β : Type} (f : β → Nat) (l : List α) (g : α → List β) : load f (l.flatMap g) = (l.map fun a => load f (g a)).sum := by
  induction l with
  | nil => rfl
  | cons a r ih => simp only [List.flatMap_cons, load_append, List.map_cons, List.sum_cons, ih]
theorem sum_le {α : Type} {f g : α → Nat} : ∀ {l : List α}, (∀ a ∈ l, f a ≤ g a) → (l.map f).sum ≤ (l.map g).sum
  | [], _ => Nat.le_refl _
  | a :: r, h => by
    simp only [List.map_cons, List.sum_cons]
    exact Nat.add_le_add (h a (.head _)) (sum_le fun b hb => h b (.tail _ hb))
theorem sum_add {α : Type} (f g : α → Nat) : ∀ (l : List α), (l.map fun a => f a + g a).sum = (l.map f).sum + (l.map g).sum
  | [] => rfl
  | a :: r => by simp only [List.map_cons, List.sum_cons, sum_add f g r]; lia
theorem sum_ones (n : Nat) : ((List.range (n + 1)).map fun j => if 0 < j then 1 else 0).sum = n := by
  induction n with
  | zero => rfl
  | succ n ih => rw [List.range_succ, List.map_append, List.sum_append, ih]; simp
theorem sum_at {α : Type} (f : α → Nat) (l : List α) : ∀ n, ((List.range n).map fun j => load f (l[j]?).toList).sum ≤ (l.map f).sum := by
  intro n
  have : ((List.range n).map fun j => load f (l[j]?).toList).sum = load f (l.take n) := by
    induction n with
    | zero => rfl
    | succ n ih => rw [List.range_succ, List.map_append, List.sum_append, ih, List.take_add_one, load_append]; simp
  rw [this]
  have e : (l.map f).sum = load f (l.take n) + load f (l.drop n) := by rw [← load_append, List.take_append_drop]; rfl
  lia

theorem push_load {ks vs : List Int} {ts : List Tr} {push : Nat → List It}
    (hp : ∀ j, load It.wt (push j) ≤ load Tr.wt (ts[j]?).toList + (if 0 < j then 1 else 0)) (st : List It) :
    load It.wt (st ++ (downs ks.length (ks.length + 1)).flatMap push) < load It.wt (st ++ [(.node ks vs ts, none)]) := by
  rw [load_append, load_append, load_one, downs_all, load_flatMap]
  show _ < _ + (Tr.node ks vs ts).wt
  rw [Tr.wt_node]
  have h1 := sum_le (f := fun j => load It.wt (push j)) (g := fun j => load Tr.wt (ts[j]?).toList + (if 0 < j then 1 else 0)) (l := (List.range (ks.length + 1)).reverse) fun j _ => hp j
  rw [sum_add, List.map_reverse, List.map_reverse, List.map_reverse, List.sum_reverse, List.sum_reverse, List.sum_reverse, sum_ones] at h1
  have h2 := sum_at Tr.wt ts (ks.length + 1)
  rw [List.map_reverse, List.sum_reverse]
  lia
theorem pairs_load (st : List It) (ks vs : List Int) (ts : List Tr) :
    load It.wt (st ++ (downs ks.length (ks.length + 1)).flatMap (pushP (.node ks vs ts))) < load It.wt (st ++ [(.node ks vs ts, none)]) := by
  refine push_load (fun j => ?_) st
  rw [pushP, load_append]
  refine Nat.add_le_add (Nat.le_of_eq ?_) ?_
  · cases h : (Tr.node ks vs ts).ts[j]? <;> simp [Tr.ts] at h <;> simp [h, load, It.wt]
  · by_cases hj : 0 < j <;> simp [hj, load, It.wt]
theorem rng_load (lo hi : Int) (st : List It) (ks vs : List Int) (ts : List Tr) :
    load It.wt (st ++ (downs ks.length (ks.length + 1)).flatMap (pushR lo hi (.node ks vs ts))) < load It.wt (st ++ [(.node ks vs ts, none)]) := by
  refine push_load (fun j => ?_) st
  rw [pushR, load_append]
  refine Nat.add_le_add ?_ ?_
  · cases openAt lo hi (Tr.node ks vs ts).ks j
    · simp [load]
    · refine Nat.le_of_eq ?_
      cases h : (Tr.node ks vs ts).ts[j]? <;> simp [Tr.ts] at h <;> simp [h, load, It.wt]
  · by_cases hj : 0 < j
    · rw [if_pos hj]
      split <;> simp [load, It.wt]
    · rw [if_neg hj, if_neg fun h => hj h.1]; simp [load]

end Mine

namespace Mine

noncomputable def joinT (ks : List Int) (seed : Int) (ts : List Tr) : Tr := .node ks (ks.map fun k => seed - k) ts
noncomputable def formTo (ks : List Int) (seed : Int) (ts : List Tr) (j : Nat) : List Int := [(ks.length : Int)] ++ ks ++ (ks.map fun k => seed - k) ++ [(ts.length : Int)] ++ (ts.take j).flatMap Tr.flat
noncomputable def walkTo (ks : List Int) (seed : Int) (ts : List Tr) (j : Nat) : List Qd := (List.range j).flatMap (walkSeg ks (ks.map fun k => seed - k) (ts.map Tr.walk))
theorem formTo_succ (ks : List Int) (seed : Int) (ts : List Tr) (j : Nat) : formTo ks seed ts (j + 1) = formTo ks seed ts j ++ ((ts[j]?).toList).flatMap Tr.flat := by
  simp only [formTo, List.take_add_one, List.flatMap_append, List.append_assoc]
theorem formTo_end (ks : List Int) (seed : Int) (ts : List Tr) (h : ts.length ≤ ks.length + 1) : formTo ks seed ts (ks.length + 1) = (joinT ks seed ts).flat := by
  rw [formTo, List.take_of_length_le h, joinT, Tr.flat_node]
theorem walkTo_succ (ks : List Int) (seed : Int) (ts : List Tr) (j : Nat) : walkTo ks seed ts (j + 1) = walkTo ks seed ts j ++ walkSeg ks (ks.map fun k => seed - k) (ts.map Tr.walk) j := by
  simp [walkTo, List.range_succ, List.flatMap_append]
theorem walkTo_end (ks : List Int) (seed : Int) (ts : List Tr) : walkTo ks seed ts (ks.length + 1) = (joinT ks seed ts).walk := by
  rw [joinT, Tr.walk_node, walkTo, nodeWalk]
theorem joinT_ok {ks : List Int} {seed : Int} {ts : List Tr} (h : ts.length ≤ ks.length + 1) (ht : ∀ t ∈ ts, t.Ok) : (joinT ks seed ts).Ok := .node (by simp) h ht

noncomputable def roomOf (n x : Int) : Int := if x = 0 then 0 else if x = 1 then n else n + 1
noncomputable def sizeAt (sizes : Int) (i : Int) : Int := (sizes % 3 + i * (sizes / 3)) % 3
noncomputable def leafT (base shift seed sizes : Int) (i : Int) : Tr := joinT ([base + 4 * i + 1 + shift, base + 4 * i + 1 + shift + 1].take (sizeAt sizes i).toNat) seed []
noncomputable def kidsTo (f : Int → Tr) (room : Int) (j : Nat) : List Tr := ((List.range j).filter fun (i : Nat) => decide ((i : Int) < room)).map fun (i : Nat) => f (i : Int)
theorem kidsTo_succ (f : Int → Tr) (room : Int) (j : Nat) : kidsTo f room (j + 1) = kidsTo f room j ++ (if (j : Int) < room then [f (j : Int)] else []) := by
  by_cases h : (j : Int) < room <;> simp [kidsTo, List.range_succ, List.filter_append, h]
theorem kidsTo_eq (f : Int → Tr) (room : Int) (j : Nat) : kidsTo f room j = (List.range (min j room.toNat)).map fun (i : Nat) => f (i : Int) := by
  induction j with
  | zero => simp [kidsTo]
  | succ j ih =>
    rw [kidsTo_succ, ih]
    by_cases h : (j : Int) < room
    · rw [if_pos h, Nat.min_eq_left (by lia), Nat.min_eq_left (by lia), List.range_succ, List.map_append]; rfl
    · rw [if_neg h, Nat.min_eq_right (by lia), Nat.min_eq_right (by lia), List.append_nil]
noncomputable def midT (base shape sizes shift seed : Int) : Tr := joinT ([base + 3, base + 7].take (shape % 3).toNat) seed (kidsTo (leafT base shift seed sizes) (roomOf (shape % 3) (shape / 3)) 3)

theorem kidsTo_length (f : Int → Tr) {room : Int} (h : room ≤ 3) : ((kidsTo f room 3).length : Int) = max room 0 := by
  rw [kidsTo_eq, List.length_map, List.length_range]; lia
theorem mem_kidsTo {f : Int → Tr} {room : Int} {j : Nat} {t : Tr} (h : t ∈ kidsTo f room j) : ∃ i : Nat, i < j ∧ (i : Int) < room ∧ t = f i := by
  obtain ⟨i, hi, rfl⟩ := List.mem_map.mp h
  obtain ⟨h1, h2⟩ := List.mem_filter.mp hi
  exact ⟨i, List.mem_range.mp h1, by simpa using h2, rfl⟩
theorem roomOf_le {n x : Int} (h0 : 0 ≤ n) : 0 ≤ roomOf n x ∧ roomOf n x ≤ n + 1 := by
  unfold roomOf; split <;> (try split) <;> lia
theorem take_len {a b : Int} {n : Int} (h0 : 0 ≤ n) (h2 : n ≤ 2) : (([a, b].take n.toNat).length : Int) = n := by
  rw [List.length_take]; simp; lia
theorem leafT_ok (base shift seed sizes i : Int) : (leafT base shift seed sizes i).Ok := joinT_ok (Nat.zero_le _) fun _ h => nomatch h
theorem kids_fit {f : Int → Tr} {a b n x : Int} (h0 : 0 ≤ n) (h2 : n ≤ 2) : (kidsTo f (roomOf n x) 3).length ≤ ([a, b].take n.toNat).length + 1 := by
  have h := roomOf_le (x := x) h0
  have h1 := kidsTo_length f (room := roomOf n x) (by lia)
  have h3 := take_len (a := a) (b := b) h0 h2
  lia
theorem midT_ok (base shape sizes shift seed : Int) : (midT base shape sizes shift seed).Ok := by
  refine joinT_ok (kids_fit (Int.emod_nonneg _ (by decide)) (by lia)) fun t ht => ?_
  obtain ⟨i, _, _, rfl⟩ := mem_kidsTo ht
  exact leafT_ok ..

/-- rising, and between two bounds -/
noncomputable def Rises (lo hi : Int) (l : List Pr) : Prop := l.Pairwise (fun p q => p.1 < q.1) ∧ ∀ p ∈ l, lo < p.1 ∧ p.1 < hi
theorem Rises.nil {lo hi : Int} : Rises lo hi [] := ⟨.nil, fun _ h => nomatch h⟩
theorem Rises.wide {lo hi lo' hi' : Int} {l : List Pr} (h : Rises lo hi l) (h1 : lo' ≤ lo) (h2 : hi ≤ hi') : Rises lo' hi' l :=
  ⟨h.1, fun p hp => by have := h.2 p hp; lia⟩
theorem Rises.join {lo hi : Int} {a b : List Pr} {p : Pr} (ha : Rises lo p.1 a) (hb : Rises p.1 hi b) (h1 : lo < p.1) (h2 : p.1 < hi) : Rises lo hi (a ++ p :: b) := by
  refine ⟨List.pairwise_append.mpr ⟨ha.1, List.pairwise_cons.mpr ⟨fun q hq => (hb.2 q hq).1, hb.1⟩, fun x hx y hy => ?_⟩, fun q hq => ?_⟩
  · rcases List.mem_cons.mp hy with rfl | hy
    · exact (ha.2 x hx).2
    · exact Int.lt_trans (ha.2 x hx).2 (hb.2 y hy).1
  · rcases List.mem_append.mp hq with hq | hq
    · have := ha.2 q hq; lia
    · rcases List.mem_cons.mp hq with rfl | hq
      · exact ⟨h1, h2⟩
      · have := hb.2 q hq; lia

theorem rises_at {lo hi : Int} {f : Int → Tr} {room : Int} {j i : Nat} (h : Rises lo hi (f i).pairs) : Rises lo hi (((kidsTo f room j).map Tr.pairs).getD i []) := by
  rw [List.getD_eq_getElem?_getD, List.getElem?_map]
  cases e : (kidsTo f room j)[i]? with
  | none => exact .nil
  | some t =>
    rw [kidsTo_eq, List.getElem?_map] at e
    cases e2 : (List.range (min j room.toNat))[i]? with
    | none => rw [e2] at e; cases e
    | some k =>
      have hk : k = i := by
        rw [List.getElem?_eq_some_iff] at e2
        obtain ⟨h1, h2⟩ := e2
        simp at h2; exact h2.symm
      rw [e2, hk] at e
      cases e
      exact h

theorem rises_node {f : Int → Tr} {room seed a b lo hi n : Int} (h0 : 0 ≤ n) (h2 : n ≤ 2) (ha : lo < a) (hab : a < b) (hb : b < hi)
    (f0 : Rises lo a (f 0).pairs) (f1 : Rises a b (f 1).pairs) (f2 : Rises b hi (f 2).pairs) : Rises lo hi (joinT ([a, b].take n.toNat) seed (kidsTo f room 3)).pairs := by
  have g0 := rises_at (room := room) (j := 3) (i := 0) f0
  have g1 := rises_at (room := room) (j := 3) (i := 1) f1
  have g2 := rises_at (room := room) (j := 3) (i := 2) f2
  have hn : n = 0 ∨ n = 1 ∨ n = 2 := by lia
  rw [joinT, Tr.pairs_node, nodePairs, segs]
  generalize (kidsTo f room 3).map Tr.pairs = ps at g0 g1 g2 ⊢
  rcases hn with rfl | rfl | rfl
  · simp [prs, List.range_succ]
    exact g0.wide (Int.le_refl _) (by lia)
  · simp [prs, List.range_succ]
    exact Rises.join (p := (a, seed - a)) g0 (g1.wide (Int.le_refl _) (by lia)) ha (by lia)
  · simp [prs, List.range_succ]
    exact Rises.join (p := (a, seed - a)) g0 (Rises.join (p := (b, seed - b)) g1 g2 hab hb) ha (by lia)

theorem leaf_rises {a seed : Int} {n : Nat} : Rises (a - 1) (a + 2) (joinT ([a, a + 1].take n) seed []).pairs := by
  rw [joinT, Tr.pairs_leaf (by simp), prs]
  match n with
  | 0 => exact .nil
  | 1 =>
    simp only [List.take_succ_cons, List.take_zero, List.map_cons, List.map_nil, List.zip_cons_cons, List.zip_nil_left]
    exact ⟨List.pairwise_singleton .., fun p hp => by rw [List.mem_singleton.mp hp]; show a - 1 < a ∧ a < a + 2; lia⟩
  | n + 2 =>
    simp only [List.take_succ_cons, List.take_nil, List.map_cons, List.map_nil, List.zip_cons_cons, List.zip_nil_left]
    refine ⟨List.pairwise_cons.mpr ⟨fun p hp => by rw [List.mem_singleton.mp hp]; show a < a + 1; lia, List.pairwise_singleton ..⟩, fun p hp => ?_⟩
    rcases List.mem_cons.mp hp with rfl | hp
    · show a - 1 < a ∧ a < a + 2; lia
    · rw [List.mem_singleton.mp hp]; show a - 1 < a + 1 ∧ a + 1 < a + 2; lia

theorem mid_rises {base shape sizes seed : Int} : Rises base (base + 11) (midT base shape sizes 0 seed).pairs := by
  have hs0 := Int.emod_nonneg shape (show (3 : Int) ≠ 0 by decide)
  refine rises_node hs0 (by lia) (by lia) (by lia) (by lia) ?_ ?_ ?_
  · exact leaf_rises.wide (by lia) (by lia)
  · exact leaf_rises.wide (by lia) (by lia)
  · exact leaf_rises.wide (by lia) (by lia)

/-- the model's put, as its loop goes -/
noncomputable def putStep (key value : Int) (c : List Pr × Bool) (p : Pr) : List Pr × Bool :=
  let c := if c.2 = false ∧ key < p.1 then (c.1 ++ [(key, value)], true) else c
  if p.1 = key then (c.1 ++ [(key, value)], true) else (c.1 ++ [p], c.2)
noncomputable def putEnd (key value : Int) (c : List Pr × Bool) : List Pr := if c.2 = false then c.1 ++ [(key, value)] else c.1
noncomputable def putSt (key value : Int) (l : List Pr) : List Pr × Bool :=
  (l.filter (fun p => decide (p.1 < key)) ++ (if l.any (fun p => decide (key ≤ p.1)) then [(key, value)] else []) ++ l.filter (fun p => decide (key < p.1)), l.any fun p => decide (key ≤ p.1))
theorem putSt_step (key value : Int) (l : List Pr) (p : Pr) (h : ∀ q ∈ l, q.1 < p.1) : putStep key value (putSt key value l) p = putSt key value (l ++ [p]) := by
  have hlow : p.1 ≤ key → l.any (fun q => decide (key ≤ q.1)) = false := fun hk => by
    rw [List.any_eq_false]; intro q hq; have := h q hq; simp; lia
  have hnone : l.any (fun q => decide (key ≤ q.1)) = false → l.filter (fun q => decide (key < q.1)) = [] := fun e => by
    rw [List.any_eq_false] at e
    rw [List.filter_eq_nil_iff]; intro q hq; have := e q hq; simp at this ⊢; lia
  unfold putStep putSt
  rcases Int.lt_trichotomy p.1 key with hk | hk | hk
  · have e1 := hlow (by lia)
    have e2 := hnone e1
    have c1 : ¬ (key < p.1) := by lia
    have c2 : ¬ (p.1 = key) := by lia
    have c3 : ¬ (key ≤ p.1) := by lia
    simp [e1, e2, hk, c1, c2, c3, List.filter_append]
  · have e1 := hlow (by lia)
    have e2 := hnone e1
    have c1 : ¬ (key < p.1) := by lia
    have c2 : ¬ (p.1 < key) := by lia
    have c3 : key ≤ p.1 := by lia
    simp [e1, e2, hk, c1, c2, c3, List.filter_append]
  · have c1 : ¬ (p.1 < key) := by lia
    have c2 : ¬ (p.1 = key) := by lia
    have c3 : key ≤ p.1 := by lia
    cases e1 : l.any (fun q => decide (key ≤ q.1)) with
    | true =>
      simp only [e1, Bool.true_eq_false, false_and, if_false, if_true, if_neg c2, List.filter_append, List.any_append, Bool.true_or]
      simp [hk, c1]
    | false =>
      have e2 := hnone e1
      simp [e1, e2, hk, c1, c2, c3, List.filter_append]
theorem putSt_end (key value : Int) (l : List Pr) : putEnd key value (putSt key value l) = l.filter (fun p => decide (p.1 < key)) ++ [(key, value)] ++ l.filter (fun p => decide (key < p.1)) := by
  unfold putEnd putSt
  cases e1 : l.any (fun q => decide (key ≤ q.1)) with
  | true => simp
  | false =>
    have e2 : l.filter (fun q => decide (key < q.1)) = [] := by
      rw [List.any_eq_false] at e1
      rw [List.filter_eq_nil_iff]; intro q hq; have := e1 q hq; simp at this ⊢; lia
    simp [e2]

/-- the whole nest -/
noncomputable def topT (n room seed shift : Int) (sh sz : Int → Int) : Tr := joinT ([11, 23].take n.toNat) seed (kidsTo (fun j => midT (12 * j) (sh j) (sz j) shift seed) room 3)
theorem topT_ok {n x seed shift : Int} {sh sz : Int → Int} (h0 : 0 ≤ n) (h2 : n ≤ 2) : (topT n (roomOf n x) seed shift sh sz).Ok := by
  refine joinT_ok (kids_fit h0 h2) fun t ht => ?_
  obtain ⟨i, _, _, rfl⟩ := mem_kidsTo ht
  exact midT_ok ..
theorem top_rises {n room seed : Int} {sh sz : Int → Int} (h0 : 0 ≤ n) (h2 : n ≤ 2) : Rises 0 36 (topT n room seed 0 sh sz).pairs := by
  refine rises_node h0 h2 (by lia) (by lia) (by lia) ?_ ?_ ?_
  · exact mid_rises.wide (by lia) (by lia)
  · exact mid_rises.wide (by lia) (by lia)
  · exact mid_rises.wide (by lia) (by lia)

end Mine

namespace Mine

theorem length_flatMap' {α β : Type} (l : List α) (f : α → List β) : (l.flatMap f).length = (l.map fun a => (f a).length).sum := by
  induction l with
  | nil => rfl
  | cons a r ih => simp [ih]
theorem sum_le_mem {α : Type} {f : α → Nat} {g : α → Nat} {l : List α} (h : ∀ a ∈ l, f a ≤ g a) : (l.map f).sum ≤ (l.map g).sum := sum_le h

theorem flat_length : ∀ {t : Tr}, t.Ok → t.flat.length = 2 * t.wt := by
  intro t
  induction t using Tr.ind with
  | h ks vs ts ih =>
    intro h
    cases h with
    | node h1 h2 h3 =>
      rw [Tr.flat_node, Tr.wt_node]
      have e : (ts.map fun t => t.flat.length).sum = 2 * (ts.map Tr.wt).sum := by
        clear h2
        induction ts with
        | nil => rfl
        | cons t r ihr =>
          simp only [List.map_cons, List.sum_cons]
          rw [ih t (.head _) (h3 t (.head _)), ihr (fun u hu => ih u (.tail _ hu)) (fun u hu => h3 u (.tail _ hu))]
          lia
      simp only [List.length_append, List.length_cons, List.length_nil, length_flatMap', e, h1]
      lia

theorem segs_length {α : Type} (ks : List Int) (ps : List (List α)) (c k : Nat → List α) (hc : ∀ j, (c j).length ≤ load List.length (ps[j]?).toList) (hk : ∀ j, (k j).length ≤ if j < ks.length then 1 else 0) :
    (segs (ks.length + 1) c k).length ≤ ks.length + (ps.map List.length).sum := by
  rw [segs, length_flatMap']
  have h1 : ((List.range (ks.length + 1)).map fun j => (c j ++ k j).length).sum ≤ ((List.range (ks.length + 1)).map fun j => load List.length (ps[j]?).toList + (if j < ks.length then 1 else 0)).sum :=
    sum_le fun j _ => by rw [List.length_append]; exact Nat.add_le_add (hc j) (hk j)
  rw [sum_add] at h1
  have h2 := sum_at List.length ps (ks.length + 1)
  have h3 : ∀ n m, ((List.range n).map fun j => if j < m then 1 else 0).sum ≤ m := by
    intro n m
    have : ((List.range n).map fun j => if j < m then 1 else 0).sum = min n m := by
      induction n with
      | zero => simp
      | succ n ih => rw [List.range_succ, List.map_append, List.sum_append, ih]; simp; split <;> lia
    lia
  have h4 := h3 (ks.length + 1) ks.length
  lia

theorem prs_toList_length {ks vs : List Int} (h : vs.length = ks.length) (j : Nat) : (((prs ks vs)[j]?).toList).length ≤ if j < ks.length then 1 else 0 := by
  cases e : (prs ks vs)[j]? with
  | none => simp
  | some p =>
    have : j < ks.length := by
      rw [← prs_length h]
      exact (List.getElem?_eq_some_iff.mp e).1
    simp [this]
theorem getD_length {α : Type} (ps : List (List α)) (j : Nat) : (ps.getD j []).length ≤ load List.length (ps[j]?).toList := by
  rw [List.getD_eq_getElem?_getD]
  cases ps[j]? <;> simp [load]
theorem pairs_length : ∀ {t : Tr}, t.Ok → t.pairs.length ≤ t.wt := by
  intro t
  induction t using Tr.ind with
  | h ks vs ts ih =>
    intro h
    cases h with
    | node h1 h2 h3 =>
      rw [Tr.pairs_node, Tr.wt_node, nodePairs]
      have h4 := segs_length ks (ts.map Tr.pairs) (fun j => (ts.map Tr.pairs).getD j []) (fun j => ((prs ks vs)[j]?).toList) (getD_length _) (prs_toList_length h1)
      rw [List.map_map] at h4
      have h5 : (ts.map (List.length ∘ Tr.pairs)).sum ≤ (ts.map Tr.wt).sum := sum_le fun t ht => ih t ht (h3 t ht)
      lia
theorem rng_length (lo hi : Int) : ∀ {t : Tr}, t.Ok → (t.rng lo hi).length ≤ t.wt := by
  intro t
  induction t using Tr.ind with
  | h ks vs ts ih =>
    intro h
    cases h with
    | node h1 h2 h3 =>
      rw [Tr.rng_node, Tr.wt_node, nodeRng]
      have h4 := segs_length ks (ts.map (Tr.rng lo hi)) (fun j => if openAt lo hi ks j then (ts.map (Tr.rng lo hi)).getD j [] else []) (fun j => (((prs ks vs)[j]?).toList).filter (inR lo hi))
        (fun j => by
          by_cases hb : openAt lo hi ks j = true
          · simp only [hb, if_true]; exact getD_length _ _
          · simp [hb]) (fun j => Nat.le_trans (List.length_filter_le ..) (prs_toList_length h1 j))
      rw [List.map_map] at h4
      have h5 : (ts.map (List.length ∘ Tr.rng lo hi)).sum ≤ (ts.map Tr.wt).sum := sum_le fun t ht => ih t ht (h3 t ht)
      lia
theorem walk_length {t : Tr} (h : t.Ok) : t.walk.length ≤ t.wt := by
  have := pairs_length h
  rw [← walk_slim, List.length_map] at this
  exact this
theorem wt_pos : ∀ t : Tr, 1 ≤ t.wt
  | .node ks vs ts => by rw [Tr.wt_node]; lia
theorem stack_length (st : List Tr) : st.length ≤ load Tr.wt st := by
  induction st with
  | nil => exact Nat.le_refl _
  | cons t r ih => simp only [load, List.map_cons, List.sum_cons, List.length_cons] at ih ⊢; have := wt_pos t; lia
theorem It.wt_pos : ∀ i : It, 1 ≤ i.wt
  | (t, none) => Mine.wt_pos t
  | (_, some _) => Nat.le_refl _
theorem stackI_length (st : List It) : st.length ≤ load It.wt st := by
  induction st with
  | nil => exact Nat.le_refl _
  | cons t r ih => simp only [load, List.map_cons, List.sum_cons, List.length_cons] at ih ⊢; have := It.wt_pos t; lia

theorem kidsTo_wt {f : Int → Tr} {room : Int} {b : Nat} (h : ∀ i, (f i).wt ≤ b) : ((kidsTo f room 3).map Tr.wt).sum ≤ 3 * b := by
  rw [kidsTo_eq, List.map_map]
  have h1 : ((List.range (min 3 room.toNat)).map (Tr.wt ∘ fun (i : Nat) => f (i : Int))).sum ≤ ((List.range (min 3 room.toNat)).map fun _ => b).sum := sum_le fun i _ => h i
  have h2 : ∀ n, ((List.range n).map fun _ => b).sum = n * b := by
    intro n
    induction n with
    | zero => simp
    | succ n ih => rw [List.range_succ, List.map_append, List.sum_append, ih]; simp [Nat.succ_mul]
  rw [h2] at h1
  have h3 : min 3 room.toNat * b ≤ 3 * b := Nat.mul_le_mul_right _ (Nat.min_le_left ..)
  lia
theorem take_len_le (a b : Int) (n : Nat) : ([a, b].take n).length ≤ 2 := by rw [List.length_take]; simp; lia
theorem leafT_wt (base shift seed sizes i : Int) : (leafT base shift seed sizes i).wt ≤ 3 := by
  rw [leafT, joinT, Tr.wt_node]
  have := take_len_le (base + 4 * i + 1 + shift) (base + 4 * i + 1 + shift + 1) (sizeAt sizes i).toNat
  simp only [List.map_nil, List.sum_nil]
  lia
theorem midT_wt (base shape sizes shift seed : Int) : (midT base shape sizes shift seed).wt ≤ 12 := by
  rw [midT, joinT, Tr.wt_node]
  have h1 := take_len_le (base + 3) (base + 7) (shape % 3).toNat
  have h2 := kidsTo_wt (room := roomOf (shape % 3) (shape / 3)) (leafT_wt base shift seed sizes)
  lia
theorem topT_wt (n room seed shift : Int) (sh sz : Int → Int) : (topT n room seed shift sh sz).wt ≤ 39 := by
  rw [topT, joinT, Tr.wt_node]
  have h1 := take_len_le 11 23 n.toNat
  have h2 := kidsTo_wt (f := fun j => midT (12 * j) (sh j) (sz j) shift seed) (room := room) (b := 12) fun i => midT_wt ..
  lia
end Mine
namespace Mine
theorem take_flat_le (ts : List Tr) (j : Nat) : ((ts.take j).flatMap Tr.flat).length ≤ (ts.flatMap Tr.flat).length := by
  have h : ts.flatMap Tr.flat = (ts.take j).flatMap Tr.flat ++ (ts.drop j).flatMap Tr.flat := by
    rw [← List.flatMap_append, List.take_append_drop]
  rw [h, List.length_append]; lia
theorem formTo_len (ks : List Int) (seed : Int) (ts : List Tr) (j : Nat) : (formTo ks seed ts j).length ≤ (joinT ks seed ts).flat.length := by
  have := take_flat_le ts j
  rw [joinT, Tr.flat_node, formTo]
  simp only [List.length_append] at this ⊢
  lia
theorem walkTo_mono (ks : List Int) (seed : Int) (ts : List Tr) {j k : Nat} (h : j ≤ k) : (walkTo ks seed ts j).length ≤ (walkTo ks seed ts k).length := by
  induction k with
  | zero => obtain rfl : j = 0 := by lia
            exact Nat.le_refl _
  | succ k ih =>
    by_cases hj : j = k + 1
    · rw [hj]; exact Nat.le_refl _
    · have := ih (by lia)
      rw [walkTo_succ, List.length_append]; lia
theorem walkTo_len {ks : List Int} {seed : Int} {ts : List Tr} {j : Nat} (h : j ≤ ks.length + 1) : (walkTo ks seed ts j).length ≤ (joinT ks seed ts).walk.length := by
  rw [← walkTo_end]; exact walkTo_mono _ _ _ h
end Mine

namespace Mine
theorem put_fold (key value : Int) : ∀ (suf pre : List Pr), (pre ++ suf).Pairwise (fun p q => p.1 < q.1) → suf.foldl (putStep key value) (putSt key value pre) = putSt key value (pre ++ suf)
  | [], pre, _ => by simp
  | p :: suf, pre, h => by
    have h1 : ∀ q ∈ pre, q.1 < p.1 := fun q hq => (List.pairwise_append.mp h).2.2 q hq p (.head _)
    have h2 : ((pre ++ [p]) ++ suf).Pairwise (fun p q => p.1 < q.1) := by rw [List.append_assoc]; exact h
    rw [List.foldl_cons, putSt_step key value pre p h1, put_fold key value suf (pre ++ [p]) h2, List.append_assoc]; rfl
theorem put_all {key value : Int} {ps : List Pr} {lo hi : Int} (h : Rises lo hi ps) :
    putEnd key value (ps.foldl (putStep key value) ([], false)) = ps.filter (fun p => decide (p.1 < key)) ++ [(key, value)] ++ ps.filter (fun p => decide (key < p.1)) := by
  have e : putSt key value [] = ([], false) := by simp [putSt]
  rw [← e, put_fold key value ps [] (by simpa using h.1), putSt_end]; rfl
theorem walk_pairs_len (t : Tr) : t.walk.length = t.pairs.length := by rw [← walk_slim t, List.length_map]
theorem mem_kids_ok {f : Int → Tr} {R : Int} {b : Nat} (h : ∀ i, (f i).Ok ∧ (f i).wt ≤ b) : ∀ t ∈ kidsTo f R 3, t.Ok ∧ t.wt ≤ b := fun t ht => by
  obtain ⟨i, _, _, rfl⟩ := mem_kidsTo ht
  exact h i
theorem filter_true {α : Type} (l : List α) : l.filter (fun _ => true) = l := by induction l with
  | nil => rfl
  | cons a r ih => rw [List.filter_cons, if_pos rfl, ih]
theorem ok00 : (Tr.node [] [] []).Ok := .node rfl (Nat.zero_le _) (fun _ h => nomatch h)
theorem wt00 : (Tr.node [] [] []).wt ≤ 1000 := by rw [Tr.wt_node]; decide
theorem flat00 (tv : Int) : tv :: (Tr.node [] [] []).flat = [tv, 0, 0] := by rw [Tr.flat_node]; rfl
theorem pairs00 : (Tr.node [] [] []).pairs = [] := (Tr.pairs_leaf rfl).trans rfl
theorem rng00 (lo hi : Int) : (Tr.node [] [] []).rng lo hi = [] := (Tr.rng_leaf rfl).trans rfl
theorem walk_near {t : Tr} {lo hi : Int} (h1 : lo < 99) (h2 : -99 < hi) : t.rng lo hi = (t.walk.filter (near lo hi)).map slim := (walk_rng lo hi h1 h2 t).symm
theorem walk_all (t : Tr) : t.pairs = (t.walk.filter (fun _ => true)).map slim := by rw [filter_true, walk_slim]
theorem near_iff {lo hi : Int} {q : Qd} : near lo hi q = true ↔ lo ≤ q.1 ∧ q.1 ≤ hi ∧ lo < q.2.2.2 ∧ q.2.2.1 < hi := by
  simp only [near, Bool.and_eq_true, decide_eq_true_eq, and_assoc]
theorem near_not {lo hi : Int} {q : Qd} (h : ¬ (lo ≤ q.1 ∧ q.1 ≤ hi ∧ lo < q.2.2.2 ∧ q.2.2.1 < hi)) : near lo hi q = false := by
  rw [← Bool.not_eq_true]; exact fun e => h (near_iff.mp e)
end Mine

open PySem PySem.W PyProof.Rows
namespace Mine
open PySem PySem.Spec PySem.Calls PyProof.Rows PySem.W

section
variable {prog : Program} {w : World} {A : Around} {E : Value → Shared → Prop} {s : Shared} {env : Env} {h₀ : Heap} {x : Str} {body : List Stmt} {Q : Flow → Shared → Prop}

theorem range_inv {r : Addr} {a₀ b₀ c₀ : Int} {t₀ u₀ v₀ : Tok} {n : Nat} {m₀ : Str → Option Value} {news : List (Addr × Obj)} (J : Nat → (Str → Option Value) → List (Addr × Obj) → Prop)
    (hh : A.handled = none) (hr : IsRange s.heap r a₀ b₀ c₀ t₀ u₀ v₀) (hsmall : Builtin.Range.small a₀ b₀ c₀ = true) (hsz : Builtin.Range.rangeSize a₀ b₀ c₀ = (n : Int)) (F : Fr h₀ env.locals s.heap m₀) (N : News h₀ env.locals s.heap news) (hj : J 0 m₀ news)
    (turn : ∀ (i : Nat) t m₁ nx h tk own, i < n → OwnOff own (nx.map (·.1)) → J i m₁ nx → Fr h₀ env.locals h (fun y => if y = x then some (.int (a₀ + i * c₀) t) else m₁ y) → News h₀ env.locals h (nx ++ own) →
      wpAny (model prog w) A (execs body env) (InvPostG h₀ env.locals (J (i + 1)) own { s with heap := h, toks := tk } Q) E { s with heap := h, toks := tk })
    (done : ∀ m₁ nx h tk, J n m₁ nx → Fr h₀ env.locals h m₁ → News h₀ env.locals h nx → Q .next { s with heap := h, toks := tk }) :
    wpAny (model prog w) A (pyIter (.ref r)) (fun it s₂ => LoopAtV prog w A h₀ env x body Q E it s₂) E s := by
  refine wpAny_pyIter_range hr hsmall ?_
  have W : Walks prog w A s.heap.objs.size [s.heap.objs.size] [s.heap.objs.size] n (fun i v => i < n ∧ ∃ t, v = .int (a₀ + i * c₀) t)
      (fun i h => IsRangeIter h s.heap.objs.size (a₀ + (i : Nat) * c₀) ((n : Int) - (i : Nat)) c₀) := (Walks.range hh _ a₀ c₀ n).bound
  refine kdr_loop J W (fun _ h => h) (fun _ h => h) ?_ ?_ ?_ ?_ (by show IsRangeIter _ _ _ _ _; rw [hsz]; simpa using Heap.get?_push_size _ rfl) (F.push _) (fun p hp => ⟨Heap.get?_push_of_some _ (N p hp).1, (N p hp).2⟩) hj ?_ ?_
  · intro i h hi b hb
    rw [List.mem_singleton.mp hb]
    exact ⟨_, hi⟩
  · intro hm
    exact absurd F.ns.lt ((List.mem_singleton.mp hm) ▸ Nat.lt_irrefl _)
  · intro b hb
    rw [List.mem_singleton.mp hb]
    exact next_is_new F
  · intro p hp hI
    exact absurd (Heap.lt_size (N p hp).1) ((List.mem_singleton.mp hI) ▸ Nat.lt_irrefl _)
  · rintro i v m₁ nx h tk own hi ⟨_, t, rfl⟩ hoff hJ F₁ N₁
    exact turn i t m₁ nx h tk own hi hoff hJ F₁ N₁
  · rintro m₁ nx h tk hJ F₁ N₁
    exact done m₁ nx h tk hJ F₁ N₁

/-- a frame with its names said -/
theorem fr_said {L : Addr} {h : Heap} {m₁ : Str → Option Value} {ps : List (Str × Value)} (h1 : ∀ p ∈ ps, m₁ p.1 = some p.2) (F : Fr h₀ L h m₁) : Fr h₀ L h (kstB m₁ ps) := by
  have e : kstB m₁ ps = m₁ := funext fun y => kstB_eq h1 fun _ => rfl
  rw [e]; exact F
theorem fr_saidX {L : Addr} {h : Heap} {m₁ : Str → Option Value} {v : Value} {ps : List (Str × Value)} (h1 : ∀ p ∈ ps, m₁ p.1 = some p.2) (F : Fr h₀ L h (fun y => if y = x then some v else m₁ y)) :
    Fr h₀ L h (fun y => if y = x then some v else kstB m₁ ps y) := by
  have e : kstB m₁ ps = m₁ := funext fun y => kstB_eq h1 fun _ => rfl
  rw [e]; exact F
end

theorem erase_last (sv : List Value) (v : Value) : (sv ++ [v]).toArray.eraseIdxIfInBounds sv.length = sv.toArray := by
  have h : sv.length < (sv ++ [v]).toArray.size := by simp
  rw [Array.eraseIdxIfInBounds, dif_pos h]
  apply Array.ext'
  simp [List.eraseIdx_append_of_length_le]

section
variable {prog : Program} {w : World} {A : Around} {E : Value → Shared → Prop} {s : Shared} {h₀ : Heap} {L D : Addr} {m : Str → Option Value} {news news' : List (Addr × Obj)}

/-- del xs[len(xs) - 1] -/
theorem del_last {sv : List Value} {v : Value} {n : Nat} {k : Int} {u : Tok} {Q : Unit → Shared → Prop} (F : Fr h₀ L s.heap m) (N : News h₀ L s.heap news) (U : Upd D (listOf (sv ++ [v]).toArray n) (listOf sv.toArray (n + 1)) news news')
    (hk : k = (sv.length : Int)) (hsz : sv.length + 1 ≤ sizeLine)
    (h : ∀ h', Fr h₀ L h' m → News h₀ L h' news' → Q () { s with heap := h' }) : wpAny (model prog w) A (delItem (.ref D) (.int k u)) Q E s := by
  obtain ⟨pre, post, rfl, rfl, a, b⟩ := U.split
  have z := N (D, listOf (sv ++ [v]).toArray n) (List.mem_append.mpr (.inr (.head _)))
  have hs' : (sv ++ [v]).toArray.size = sv.length + 1 := by simp
  have hlim := sizeLine_eq
  refine P.delItem_list (n := n) (k := sv.length) (items := (sv ++ [v]).toArray) z.1 ?_ ?_ ?_ (by rw [hs']; exact hsz)
  · rw [hk]; unfold Builtin.List.listFitsIndex; simp only [Bool.and_eq_true, decide_eq_true_eq]; lia
  · rw [hk, hs']; unfold seqIndex?; simp; lia
  · have hz := IsL.update (n := n) z.1 (fun xs => xs.eraseIdxIfInBounds sv.length)
    rw [erase_last, hs', List.size_toArray] at hz
    have hne : (sv.length == sv.length + 1) = false := by simp
    rw [hne] at hz
    exact h _ (F.change (Heap.SameBut.update ..) z.2.1 z.2.2) (news_set N a b (Heap.SameBut.update ..) hz)
end
end Mine

namespace Mine
open PySem PySem.Spec PySem.Calls PyProof.Rows PySem.W

abbrev Led := List (Addr × Obj)

inductive Each {α : Type} (R : Value → α → Prop) : List Value → List α → Prop
  | nil : Each R [] []
  | cons {v : Value} {a : α} {vs : List Value} {as : List α} : R v a → Each R vs as → Each R (v :: vs) (a :: as)
namespace Each
variable {α : Type} {R R' : Value → α → Prop} {vs us : List Value} {as bs : List α}
theorem length (h : Each R vs as) : vs.length = as.length := by
  induction h with
  | nil => rfl
  | cons _ _ ih => simp [ih]
theorem mono (h : Each R vs as) (hm : ∀ v a, a ∈ as → R v a → R' v a) : Each R' vs as := by
  induction h with
  | nil => exact .nil
  | cons h _ ih => exact .cons (hm _ _ (.head _) h) (ih fun v a ha => hm v a (.tail _ ha))
theorem append (h : Each R vs as) (k : Each R us bs) : Each R (vs ++ us) (as ++ bs) := by
  induction h with
  | nil => exact k
  | cons h _ ih => exact .cons h ih
theorem one {v : Value} {a : α} (h : R v a) : Each R [v] [a] := .cons h .nil
theorem get (h : Each R vs as) {i : Nat} {a : α} (e : as[i]? = some a) : ∃ v, vs[i]? = some v ∧ R v a := by
  induction h generalizing i with
  | nil => cases e
  | @cons v b vs as h _ ih =>
    cases i with
    | zero => cases e; exact ⟨v, rfl, h⟩
    | succ i => exact ih e
theorem getL (h : Each R vs as) {i : Nat} {v : Value} (e : vs[i]? = some v) : ∃ a, as[i]? = some a ∧ R v a := by
  induction h generalizing i with
  | nil => cases e
  | @cons v b vs as h _ ih =>
    cases i with
    | zero => cases e; exact ⟨b, rfl, h⟩
    | succ i => exact ih e
theorem snoc {a : α} (h : Each R vs (as ++ [a])) : ∃ us v, vs = us ++ [v] ∧ Each R us as ∧ R v a := by
  induction as generalizing vs with
  | nil =>
    cases h with
    | cons h r => cases r; exact ⟨[], _, rfl, .nil, h⟩
  | cons b as ih =>
    cases h with
    | cons h r =>
      obtain ⟨us, v, rfl, hu, hv⟩ := ih r
      exact ⟨_ :: us, v, rfl, .cons h hu, hv⟩
theorem nil_of (h : Each R vs []) : vs = [] := by cases h; rfl
end Each

section
variable (P : Params) (C : Addr) (nw : Led)

/-- the three lists of a node -/
inductive NodeIn (P : Params) (C : Addr) (nw : Led) (x kr vr cr : Addr) : Prop
  | mk (dx : Addr) (n : Nat) (t₁ t₂ t₃ : Tok) (f1 : (x, instObj C dx) ∈ nw) (f2 : (dx, dictOf [⟨PyData.keyHash P (Str.ofString "key_row"), .str (Str.ofString "key_row") t₁, .ref kr⟩, ⟨PyData.keyHash P (Str.ofString "value_row"), .str (Str.ofString "value_row") t₂, .ref vr⟩, ⟨PyData.keyHash P (Str.ofString "children"), .str (Str.ofString "children") t₃, .ref cr⟩] n) ∈ nw) : NodeIn P C nw x kr vr cr
inductive IntsIn (nw : Led) (a : Addr) (ns : List Int) : Prop
  | mk (vs : List Value) (n : Nat) (f1 : (a, listOf vs.toArray n) ∈ nw) (f2 : IntsAre vs ns) : IntsIn nw a ns

mutual
noncomputable def TreeIn : Tr → Value → Prop
  | .node ks vs ts => fun v => ∃ (x kr vr cr : Addr) (cvs : List Value) (n : Nat), v = .ref x ∧ NodeIn P C nw x kr vr cr ∧ IntsIn nw kr ks ∧ IntsIn nw vr vs ∧ (cr, listOf cvs.toArray n) ∈ nw ∧ TreesIn ts cvs
noncomputable def TreesIn : List Tr → List Value → Prop
  | [] => fun vs => vs = []
  | t :: ts => fun vs => ∃ v r, vs = v :: r ∧ TreeIn t v ∧ TreesIn ts r
end
abbrev TrAt : Value → Tr → Prop := fun v t => TreeIn P C nw t v
end

section
variable {P : Params} {C : Addr} {nw nw' : Led}
theorem treesIn_each (ts : List Tr) : ∀ vs, TreesIn P C nw ts vs ↔ Each (TrAt P C nw) vs ts := by
  induction ts with
  | nil =>
    intro vs
    rw [TreesIn]
    exact ⟨fun h => h ▸ .nil, fun h => h.nil_of⟩
  | cons t ts ih =>
    intro vs
    rw [TreesIn]
    constructor
    · rintro ⟨v, r, rfl, h1, h2⟩
      exact .cons h1 ((ih r).mp h2)
    · intro h
      cases h with
      | cons h r => exact ⟨_, _, rfl, h, (ih _).mpr r⟩
inductive NodeAt (P : Params) (C : Addr) (nw : Led) (ks vs : List Int) (ts : List Tr) (v : Value) : Prop
  | mk (x kr vr cr : Addr) (cvs : List Value) (n : Nat) (f1 : v = .ref x) (f2 : NodeIn P C nw x kr vr cr) (f3 : IntsIn nw kr ks) (f4 : IntsIn nw vr vs) (f5 : (cr, listOf cvs.toArray n) ∈ nw) (f6 : Each (TrAt P C nw) cvs ts) : NodeAt P C nw ks vs ts v
theorem treeIn_node {ks vs : List Int} {ts : List Tr} {v : Value} : TreeIn P C nw (.node ks vs ts) v ↔ NodeAt P C nw ks vs ts v := by
  rw [TreeIn]
  constructor
  · rintro ⟨x, kr, vr, cr, cvs, n, h1, h2, h3, h4, h5, h6⟩
    exact ⟨x, kr, vr, cr, cvs, n, h1, h2, h3, h4, h5, (treesIn_each ts cvs).mp h6⟩
  · rintro ⟨x, kr, vr, cr, cvs, n, h1, h2, h3, h4, h5, h6⟩
    exact ⟨x, kr, vr, cr, cvs, n, h1, h2, h3, h4, h5, (treesIn_each ts cvs).mpr h6⟩
theorem NodeIn.mono (hs : ∀ p ∈ nw, p ∈ nw') {x kr vr cr : Addr} (h : NodeIn P C nw x kr vr cr) : NodeIn P C nw' x kr vr cr := by
  obtain ⟨dx, n, t₁, t₂, t₃, h1, h2⟩ := h
  exact ⟨dx, n, t₁, t₂, t₃, hs _ h1, hs _ h2⟩
theorem IntsIn.mono (hs : ∀ p ∈ nw, p ∈ nw') {a : Addr} {ns : List Int} (h : IntsIn nw a ns) : IntsIn nw' a ns := by
  obtain ⟨vs, n, h1, h2⟩ := h
  exact ⟨vs, n, hs _ h1, h2⟩
theorem TreeIn.mono (hs : ∀ p ∈ nw, p ∈ nw') : ∀ {t : Tr} {v : Value}, TreeIn P C nw t v → TreeIn P C nw' t v := by
  intro t
  induction t using Tr.ind with
  | h ks vs ts ih =>
    intro v h
    obtain ⟨x, kr, vr, cr, cvs, n, rfl, h1, h2, h3, h4, h5⟩ := treeIn_node.mp h
    exact treeIn_node.mpr ⟨x, kr, vr, cr, cvs, n, rfl, h1.mono hs, h2.mono hs, h3.mono hs, hs _ h4, h5.mono fun v a ha h => ih a ha h⟩

/-- an item of the stack: a tuple of a node and a place -/
inductive ItIn (P : Params) (C : Addr) (nw : Led) (v : Value) (it : It) : Prop
  | mk (a : Addr) (nv : Value) (k : Int) (tk : Tok) (n : Nat) (f1 : v = .ref a) (f2 : (a, ({ cls := .type "tuple", data := .seq #[nv, .int k tk] n } : Obj)) ∈ nw) (f3 : TreeIn P C nw it.1 nv) (f4 : (match it.2 with | none => k = -1 | some i => k = (i : Int))) : ItIn P C nw v it
theorem ItIn.mono (hs : ∀ p ∈ nw, p ∈ nw') {v : Value} {it : It} (h : ItIn P C nw v it) : ItIn P C nw' v it := by
  obtain ⟨a, nv, k, tk, n, h1, h2, h3, h4⟩ := h
  exact ⟨a, nv, k, tk, n, h1, hs _ h2, h3.mono hs, h4⟩

/-- a pair, four -/
noncomputable def prD (p : Pr) : Dat := .tuple [.int p.1, .int p.2]
noncomputable def qdD (q : Qd) : Dat := .tuple [.int q.1, .int q.2.1, .int q.2.2.1, .int q.2.2.2]
inductive PrsIn (nw : Led) (a : Addr) (ps : List Pr) : Prop
  | mk (vs : List Value) (n : Nat) (f1 : (a, listOf vs.toArray n) ∈ nw) (f2 : DatAll nw vs (ps.map prD)) : PrsIn nw a ps
inductive QdsIn (nw : Led) (a : Addr) (qs : List Qd) : Prop
  | mk (vs : List Value) (n : Nat) (f1 : (a, listOf vs.toArray n) ∈ nw) (f2 : DatAll nw vs (qs.map qdD)) : QdsIn nw a qs
theorem PrsIn.mono (hs : ∀ p ∈ nw, p ∈ nw') {a : Addr} {ps : List Pr} (h : PrsIn nw a ps) : PrsIn nw' a ps := by
  obtain ⟨vs, n, h1, h2⟩ := h
  exact ⟨vs, n, hs _ h1, h2.mono hs⟩
theorem QdsIn.mono (hs : ∀ p ∈ nw, p ∈ nw') {a : Addr} {ps : List Qd} (h : QdsIn nw a ps) : QdsIn nw' a ps := by
  obtain ⟨vs, n, h1, h2⟩ := h
  exact ⟨vs, n, hs _ h1, h2.mono hs⟩

/-- a part: the node, its flat form, its walk, the number of its children -/
inductive PartIn (P : Params) (C : Addr) (nw : Led) (v : Value) (t : Tr) : Prop
  | mk (a x f q : Addr) (tk : Tok) (n : Nat) (f1 : v = .ref a) (f2 : (a, ({ cls := .type "tuple", data := .seq #[.ref x, .ref f, .ref q, .int (t.ts.length : Int) tk] n } : Obj)) ∈ nw) (f3 : TreeIn P C nw t (.ref x)) (f4 : IntsIn nw f t.flat) (f5 : QdsIn nw q t.walk) : PartIn P C nw v t
theorem PartIn.mono (hs : ∀ p ∈ nw, p ∈ nw') {v : Value} {t : Tr} (h : PartIn P C nw v t) : PartIn P C nw' v t := by
  obtain ⟨a, x, f, q, tk, n, h1, h2, h3, h4, h5⟩ := h
  exact ⟨a, x, f, q, tk, n, h1, hs _ h2, h3.mono hs, h4.mono hs, h5.mono hs⟩
end
end Mine

namespace Mine
theorem all_cons {α : Type} {P : α → Prop} {a : α} {l : List α} (h : P a) (t : ∀ p ∈ l, P p) : ∀ p ∈ a :: l, P p := List.forall_mem_cons.mpr ⟨h, t⟩
theorem all_app {α : Type} {P : α → Prop} {a b : List α} (h : ∀ p ∈ a, P p) (t : ∀ p ∈ b, P p) : ∀ p ∈ a ++ b, P p := List.forall_mem_append.mpr ⟨h, t⟩
end Mine
namespace Mine
open PySem PySem.Spec PySem.Calls PyProof.Rows PySem.W

section
variable {prog : Program} {w : World} {A : Around} {E : Value → Shared → Prop} {s : Shared} {h₀ : Heap} {L l : Addr} {m : Str → Option Value} {news news' : List (Addr × Obj)} {us sv : List Value} {v : Value} {n : Nat} {k : Int} {u : Tok}

theorem len_led {Q : Value → Shared → Prop} (N : News h₀ L s.heap news) (hm : (l, listOf us.toArray n) ∈ news) (hfit : (us.length : Int) < 2 ^ 63)
    (h : Q (.int (us.length : Int) (s.toks + 1)) { s with toks := s.toks + 1 + 1 }) : wpAny (model prog w) A (call (.builtin "len") [.ref l]) Q E s := by
  have hl : s.heap.IsList l us.toArray := ⟨_, (N _ hm).1, rfl, n, rfl⟩
  have e : us.toArray.size = us.length := List.size_toArray ..
  exact len_list hl (by rw [e]; exact hfit) (by rw [e]; exact h)
theorem len_snoc {Q : Value → Shared → Prop} (N : News h₀ L s.heap news) (hm : (l, listOf (sv ++ [v]).toArray n) ∈ news) (hfit : (sv.length : Int) + 1 < 2 ^ 63)
    (h : Q (.int ((sv.length : Int) + 1) (s.toks + 1)) { s with toks := s.toks + 1 + 1 }) : wpAny (model prog w) A (call (.builtin "len") [.ref l]) Q E s := by
  have e : ((sv ++ [v]).length : Int) = (sv.length : Int) + 1 := by simp
  exact len_led N hm (by rw [e]; exact hfit) (by rw [e]; exact h)
theorem len_intsL {ns : List Int} {Q : Value → Shared → Prop} (N : News h₀ L s.heap news) (hm : (l, listOf us.toArray n) ∈ news) (hi : IntsAre us ns) (hfit : (ns.length : Int) < 2 ^ 63)
    (h : Q (.int (ns.length : Int) (s.toks + 1)) { s with toks := s.toks + 1 + 1 }) : wpAny (model prog w) A (call (.builtin "len") [.ref l]) Q E s := by
  have e : us.length = ns.length := hi.length
  exact len_led N hm (by rw [e]; exact hfit) (by rw [e]; exact h)
theorem len_each {α : Type} {R : Value → α → Prop} {as : List α} {Q : Value → Shared → Prop} (N : News h₀ L s.heap news) (hm : (l, listOf us.toArray n) ∈ news) (hi : Each R us as) (hfit : (as.length : Int) < 2 ^ 63)
    (h : Q (.int (as.length : Int) (s.toks + 1)) { s with toks := s.toks + 1 + 1 }) : wpAny (model prog w) A (call (.builtin "len") [.ref l]) Q E s := by
  have e : us.length = as.length := hi.length
  exact len_led N hm (by rw [e]; exact hfit) (by rw [e]; exact h)

theorem item_led {value slice : PySem.Expr} {Q : Value → Shared → Prop} (N : News h₀ L s.heap news) (hm : (l, listOf us.toArray n) ∈ news) (h0 : 0 ≤ k) (hfit : k < 2 ^ 63) (hx : us[k.toNat]? = some v) (h : Q v s)
    (hs : subscripted slice false (.ref l) (.int k u) = operate [.ref l, .int k u] (getItem (.ref l) (.int k u)) := by with_unfolding_all rfl) :
    wpAny (model prog w) A (subscriptTail value slice (.ref l) (.int k u)) Q E s := by
  have hl : s.heap.IsList l us.toArray := ⟨_, (N _ hm).1, rfl, n, rfl⟩
  exact tail_any hl.typeIs slot_list_getitem.lookup (wpAny_getItem_list hl h0 hfit (by simpa using hx) h) hs
theorem item_last {value slice : PySem.Expr} {Q : Value → Shared → Prop} (N : News h₀ L s.heap news) (hm : (l, listOf (sv ++ [v]).toArray n) ∈ news) (hk : k = (sv.length : Int)) (hfit : (sv.length : Int) < 2 ^ 63) (h : Q v s)
    (hs : subscripted slice false (.ref l) (.int k u) = operate [.ref l, .int k u] (getItem (.ref l) (.int k u)) := by with_unfolding_all rfl) :
    wpAny (model prog w) A (subscriptTail value slice (.ref l) (.int k u)) Q E s :=
  item_led N hm (by lia) (by lia) (by rw [hk]; simp) h hs
/-- an int of a list of ints -/
theorem item_intsL {ns : List Int} {value slice : PySem.Expr} {Q : Value → Shared → Prop} (N : News h₀ L s.heap news) (hm : (l, listOf us.toArray n) ∈ news) (hi : IntsAre us ns) (h0 : 0 ≤ k) (h1 : k < (ns.length : Int)) (hfit : (ns.length : Int) < 2 ^ 63)
    (h : ∀ t, Q (.int (ns.getD k.toNat 0) t) s)
    (hs : subscripted slice false (.ref l) (.int k u) = operate [.ref l, .int k u] (getItem (.ref l) (.int k u)) := by with_unfolding_all rfl) :
    wpAny (model prog w) A (subscriptTail value slice (.ref l) (.int k u)) Q E s := by
  have hlt : k.toNat < ns.length := by lia
  obtain ⟨t, ht⟩ := hi.get k.toNat (ns[k.toNat]'hlt) (List.getElem?_eq_getElem hlt)
  have e : ns.getD k.toNat 0 = ns[k.toNat]'hlt := by simp [List.getD_eq_getElem?_getD, hlt]
  exact item_led N hm h0 (by lia) ht (by rw [← e]; exact h t) hs
/-- an item of a list of letters -/
theorem item_each {α : Type} {R : Value → α → Prop} {as : List α} {value slice : PySem.Expr} {Q : Value → Shared → Prop} (N : News h₀ L s.heap news) (hm : (l, listOf us.toArray n) ∈ news) (hi : Each R us as) (h0 : 0 ≤ k) (h1 : k < (as.length : Int)) (hfit : (as.length : Int) < 2 ^ 63)
    (h : ∀ v a, as[k.toNat]? = some a → R v a → Q v s)
    (hs : subscripted slice false (.ref l) (.int k u) = operate [.ref l, .int k u] (getItem (.ref l) (.int k u)) := by with_unfolding_all rfl) :
    wpAny (model prog w) A (subscriptTail value slice (.ref l) (.int k u)) Q E s := by
  have hlt : k.toNat < as.length := by lia
  obtain ⟨v, hv, hr⟩ := hi.get (List.getElem?_eq_getElem hlt)
  exact item_led N hm h0 (by lia) hv (h v _ (List.getElem?_eq_getElem hlt) hr) hs
end
end Mine
namespace Mine
open PySem PySem.Spec PySem.Calls PyProof.Rows PySem.W
theorem push_take {ov kvs : List Value} {i : Nat} {u : Value} (h : kvs[i]? = some u) : (ov ++ kvs.take i).toArray.push u = (ov ++ kvs.take (i + 1)).toArray := by
  rw [List.push_toArray, List.append_assoc, List.take_add_one, h]; rfl
theorem sub_app {a b : Led} : ∀ p ∈ a, p ∈ a ++ b := fun _ h => List.mem_append.mpr (.inl h)
theorem own_app {a b : Led} : ∀ p ∈ b, p ∈ a ++ b := fun _ h => List.mem_append.mpr (.inr h)
theorem two_sub {x y : Addr × Obj} {a b : Led} : ∀ p ∈ x :: y :: a, p ∈ x :: y :: (a ++ b) := fun _ h => by
  rcases List.mem_cons.mp h with rfl | h
  · exact .head _
  · rcases List.mem_cons.mp h with rfl | h
    · exact .tail _ (.head _)
    · exact .tail _ (.tail _ (sub_app _ h))
theorem two_own {x y : Addr × Obj} {a b : Led} : ∀ p ∈ b, p ∈ x :: y :: (a ++ b) := fun _ h => .tail _ (.tail _ (own_app _ h))
theorem intsApp {us vs : List Value} {ns ms : List Int} (h : IntsAre us ns) (k : IntsAre vs ms) : IntsAre (us ++ vs) (ns ++ ms) := by
  induction h with
  | nil => exact k
  | cons n t _ ih => exact .cons n t ih
theorem intsOne (n : Int) (t : Tok) : IntsAre [.int n t] [n] := .cons n t .nil
end Mine
namespace Mine
open PySem PySem.Spec PySem.Calls PyProof.Rows PySem.W
noncomputable def Fresh (news tl : Led) : Prop := ∀ p ∈ tl, ∀ q ∈ news, q.1 ≠ p.1
theorem Fresh.cons {news tl : Led} {a : Addr} {o : Obj} (h : Fresh news tl) (k : ∀ q ∈ news, q.1 ≠ a) : Fresh news ((a, o) :: tl) := fun p hp => by
  rcases List.mem_cons.mp hp with rfl | hp
  · exact k
  · exact h p hp
theorem prs_get {ks vs : List Int} {i : Nat} (h : vs.length = ks.length) (hi : i < ks.length) : (prs ks vs)[i]? = some (ks.getD i 0, vs.getD i 0) := by
  rw [List.getElem?_eq_getElem (by rw [prs_length h]; exact hi)]
  have h2 : i < vs.length := by lia
  simp [prs, List.getD_eq_getElem?_getD, hi, h2]
theorem sub_cons {q : Addr × Obj} {a b : Led} : ∀ p ∈ a ++ b, p ∈ a ++ (q :: b) := fun _ hp => (List.mem_append.mp hp).elim (fun h => List.mem_append.mpr (.inl h)) fun h => List.mem_append.mpr (.inr (.tail _ h))
theorem lt_ne {a : Addr} {l : Led} (h : AllLt a l) : ∀ p ∈ l, p.1 ≠ a := fun p hp => Nat.ne_of_lt (tb_ltOf h p hp)
theorem datPr {tl : Led} {a : Addr} {k v : Int} {t u : Tok} {n : Nat} (h : (a, ({ cls := .type "tuple", data := .seq #[.int k t, .int v u] n } : Obj)) ∈ tl) : DatIn tl (.ref a) (prD (k, v)) :=
  DatIn.tuple (vs := [.int k t, .int v u]) h (.cons (.int _ _) (.cons (.int _ _) .nil))
theorem wt_mem {ts : List Tr} {t : Tr} (h : t ∈ ts) : t.wt ≤ (ts.map Tr.wt).sum := by
  induction ts with
  | nil => cases h
  | cons a r ih =>
    simp only [List.map_cons, List.sum_cons]
    rcases List.mem_cons.mp h with rfl | h
    · lia
    · have := ih h; lia
end Mine
namespace Mine
open PySem PySem.Spec PySem.Calls PyProof.Rows PySem.W
theorem news_sub {h₀ h : Heap} {L : Addr} {l l' : Led} (N : News h₀ L h l) (k : ∀ p ∈ l', p ∈ l) : News h₀ L h l' := fun p hp => N p (k p hp)
theorem news_move1 {h₀ h : Heap} {L : Addr} {q x y : Addr × Obj} {a b : Led} (N : News h₀ L h (q :: x :: y :: (a ++ b))) : News h₀ L h (x :: y :: (a ++ (q :: b))) := news_sub N fun p hp => by
  simp only [List.mem_cons, List.mem_append] at hp ⊢
  rcases hp with h | h | h | h | h <;> simp [h]
theorem news_move2 {h₀ h : Heap} {L : Addr} {q r x y : Addr × Obj} {a b : Led} (N : News h₀ L h (q :: r :: x :: y :: (a ++ b))) : News h₀ L h (x :: y :: (a ++ (q :: r :: b))) := news_sub N fun p hp => by
  simp only [List.mem_cons, List.mem_append] at hp ⊢
  rcases hp with h | h | h | h | h | h <;> simp [h]
end Mine
namespace Mine
open PySem PySem.Spec PySem.Calls PyProof.Rows PySem.W
theorem news_own1 {h₀ h : Heap} {L : Addr} {q x y : Addr × Obj} {a b o : Led} (N : News h₀ L h (q :: x :: y :: (a ++ b ++ o))) : News h₀ L h ((x :: y :: (a ++ (q :: b))) ++ o) := news_sub N fun p hp => by
  simp only [List.cons_append, List.mem_cons, List.mem_append] at hp ⊢
  rcases hp with h | h | (h | h | h) | h <;> simp [h]
theorem news_own2 {h₀ h : Heap} {L : Addr} {q r x y : Addr × Obj} {a b o : Led} (N : News h₀ L h (q :: r :: x :: y :: (a ++ b ++ o))) : News h₀ L h ((x :: y :: (a ++ (q :: r :: b))) ++ o) := news_sub N fun p hp => by
  simp only [List.cons_append, List.mem_cons, List.mem_append] at hp ⊢
  rcases hp with h | h | (h | h | h | h) | h <;> simp [h]
/-- a turn's end, the ledger with the loop's own part behind -/
theorem inv_end {h₀ h' : Heap} {L : Addr} {J : (Str → Option Value) → Led → Prop} {m' : Str → Option Value} {own nx : Led} {s₁ : Shared} {tk : Nat} (F : Fr h₀ L h' m') (N : News h₀ L h' (nx ++ own)) (ha : OwnOff own (nx.map (·.1))) (hj : J m' nx) :
    InvEndG h₀ L J own s₁ { s₁ with heap := h', toks := tk } := InvEndG.intro F N hj ha sub_app own_app
theorem own_off1 {own : Led} {q x y x' y' : Addr × Obj} {a b : Led} (h : OwnOff own ((x :: y :: (a ++ b)).map (·.1))) (hq : ∀ p ∈ own, p.1 ≠ q.1) (hx : x'.1 = x.1) (hy : y'.1 = y.1) : OwnOff own ((x' :: y' :: (a ++ (q :: b))).map (·.1)) := by
  intro p hp b' hb
  simp only [List.map_cons, List.map_append, List.mem_cons, List.mem_append] at hb
  have k : ∀ c, c ∈ (x :: y :: (a ++ b)).map (·.1) → p.1 ≠ c := fun c hc => h p hp c hc
  simp only [List.map_cons, List.map_append, List.mem_cons, List.mem_append] at k
  rcases hb with h1 | h1 | h1 | h1 | h1
  · exact k _ (.inl (by rw [h1, hx]))
  · exact k _ (.inr (.inl (by rw [h1, hy])))
  · exact k _ (.inr (.inr (.inl h1)))
  · rw [h1]; exact hq p hp
  · exact k _ (.inr (.inr (.inr h1)))
theorem allLt_app {a : Addr} {x y : Led} (h : AllLt a (x ++ y)) : AllLt a x ∧ AllLt a y :=
  ⟨allLt_of fun p hp => tb_ltOf h p (List.mem_append.mpr (.inl hp)), allLt_of fun p hp => tb_ltOf h p (List.mem_append.mpr (.inr hp))⟩
theorem take_prs {ks vs : List Int} {i : Nat} (h : vs.length = ks.length) (hi : i < ks.length) : (prs ks vs).take (i + 1) = (prs ks vs).take i ++ [(ks.getD i 0, vs.getD i 0)] := by
  rw [List.take_add_one, prs_get h hi]; rfl
end Mine
namespace Mine
open PySem PySem.Spec PySem.Calls PyProof.Rows PySem.W
theorem toList_len {α : Type} (o : Option α) : o.toList.length ≤ 1 := by cases o <;> simp
theorem pushP_len (t : Tr) (j : Nat) : (pushP t j).length ≤ 2 := by
  unfold pushP
  have := toList_len t.ts[j]?
  rw [List.length_append, List.length_map]
  split <;> simp <;> lia
theorem pushR_len (lo hi : Int) (t : Tr) (j : Nat) : (pushR lo hi t j).length ≤ 2 := by
  unfold pushR
  have := toList_len t.ts[j]?
  rw [List.length_append]
  split <;> split <;> simp <;> lia
theorem downs_len {push : Nat → List It} (h : ∀ j, (push j).length ≤ 2) (n i : Nat) : ((downs n i).flatMap push).length ≤ 2 * i := by
  induction i with
  | zero => simp [downs]
  | succ i ih => rw [downs_succ, List.flatMap_append, List.length_append, List.flatMap_singleton]; have := h (n - i); lia
theorem downs_step (push : Nat → List It) (st : List It) (n i : Nat) : st ++ (downs n (i + 1)).flatMap push = (st ++ (downs n i).flatMap push) ++ push (n - i) := by
  rw [downs_succ, List.flatMap_append, List.append_assoc]; simp
theorem push_A {ks vs : List Int} {ts : List Tr} {j : Nat} {c : Tr} (h : ts[j]? = some c) (h0 : 0 < j) : pushP (.node ks vs ts) j = [(c, none)] ++ [(.node ks vs ts, some (j - 1))] := by
  simp [pushP, Tr.ts, h, h0]
theorem push_B {ks vs : List Int} {ts : List Tr} {j : Nat} {c : Tr} (h : ts[j]? = some c) (h0 : ¬ 0 < j) : pushP (.node ks vs ts) j = [(c, none)] := by
  simp [pushP, Tr.ts, h, h0]
theorem push_C {ks vs : List Int} {ts : List Tr} {j : Nat} (h : ts.length ≤ j) (h0 : 0 < j) : pushP (.node ks vs ts) j = [(.node ks vs ts, some (j - 1))] := by
  simp [pushP, Tr.ts, List.getElem?_eq_none h, h0]
theorem push_D {ks vs : List Int} {ts : List Tr} {j : Nat} (h : ts.length ≤ j) (h0 : ¬ 0 < j) : pushP (.node ks vs ts) j = [] := by
  simp [pushP, Tr.ts, List.getElem?_eq_none h, h0]
theorem itWhole {P : Params} {C : Addr} {nw : Led} {a : Addr} {nv : Value} {tk : Tok} {n : Nat} {t : Tr} (h : (a, ({ cls := .type "tuple", data := .seq #[nv, .int (-1) tk] n } : Obj)) ∈ nw) (k : TreeIn P C nw t nv) : ItIn P C nw (.ref a) (t, none) :=
  ⟨a, nv, -1, tk, n, rfl, h, k, rfl⟩
theorem itKey {P : Params} {C : Addr} {nw : Led} {a : Addr} {nv : Value} {tk : Tok} {n : Nat} {t : Tr} {k : Int} {i : Nat} (h : (a, ({ cls := .type "tuple", data := .seq #[nv, .int k tk] n } : Obj)) ∈ nw) (q : TreeIn P C nw t nv) (e : k = (i : Int)) : ItIn P C nw (.ref a) (t, some i) :=
  ⟨a, nv, k, tk, n, rfl, h, q, e⟩
theorem own_off2 {own : Led} {q r x y x' y' : Addr × Obj} {a b : Led} (h : OwnOff own ((x :: y :: (a ++ b)).map (·.1))) (hq : ∀ p ∈ own, p.1 ≠ q.1) (hr : ∀ p ∈ own, p.1 ≠ r.1) (hx : x'.1 = x.1) (hy : y'.1 = y.1) : OwnOff own ((x' :: y' :: (a ++ (q :: r :: b))).map (·.1)) :=
  own_off1 (own_off1 h hr rfl rfl) hq hx hy
theorem own_off0 {own : Led} {x y x' y' : Addr × Obj} {a : Led} (h : OwnOff own ((x :: y :: a).map (·.1))) (hx : x'.1 = x.1) (hy : y'.1 = y.1) : OwnOff own ((x' :: y' :: a).map (·.1)) := by
  simpa [hx, hy] using h
theorem sub_cons2 {q r : Addr × Obj} {a b : Led} : ∀ p ∈ a ++ b, p ∈ a ++ (q :: r :: b) := fun p hp => sub_cons p (sub_cons p hp)
end Mine
namespace Mine
open PySem PySem.Spec PySem.Calls PyProof.Rows PySem.W
section
variable {lo hi : Int} {ks vs : List Int} {ts : List Tr} {j : Nat} {c : Tr}
theorem openAt_iff (h1 : lo < 99) (h2 : -99 < hi) : openAt lo hi ks j = true ↔ ¬ (j < ks.length ∧ ks.getD j 0 ≤ lo) ∧ ¬ (0 < j ∧ hi ≤ ks.getD (j - 1) 0) := by
  unfold openAt rightOf leftOf
  simp only [Bool.and_eq_true, decide_eq_true_eq]
  by_cases a : j < ks.length <;> by_cases b : 0 < j
  · rw [if_pos a, if_pos b]; lia
  · rw [if_pos a, if_neg b]; lia
  · rw [if_neg a, if_pos b]; lia
  · rw [if_neg a, if_neg b]; lia
theorem pushR_A (h1 : lo < 99) (h2 : -99 < hi) (h : ts[j]? = some c) (c1 : ¬ (j < ks.length ∧ ks.getD j 0 ≤ lo)) (c2 : ¬ (0 < j ∧ hi ≤ ks.getD (j - 1) 0)) (c3 : 0 < j ∧ lo ≤ ks.getD (j - 1) 0 ∧ ks.getD (j - 1) 0 ≤ hi) :
    pushR lo hi (.node ks vs ts) j = [(c, none)] ++ [(.node ks vs ts, some (j - 1))] := by
  have o : openAt lo hi ks j = true := (openAt_iff h1 h2).mpr ⟨c1, c2⟩
  show (if openAt lo hi ks j = true then (ts[j]?).toList.map (fun c => (c, none)) else []) ++ (if 0 < j ∧ lo ≤ ks.getD (j - 1) 0 ∧ ks.getD (j - 1) 0 ≤ hi then _ else []) = _
  rw [if_pos o, if_pos c3, h]; rfl
theorem pushR_B (h1 : lo < 99) (h2 : -99 < hi) (h : ts[j]? = some c) (c1 : ¬ (j < ks.length ∧ ks.getD j 0 ≤ lo)) (c2 : ¬ (0 < j ∧ hi ≤ ks.getD (j - 1) 0)) (c3 : ¬ (0 < j ∧ lo ≤ ks.getD (j - 1) 0 ∧ ks.getD (j - 1) 0 ≤ hi)) :
    pushR lo hi (.node ks vs ts) j = [(c, none)] := by
  have o : openAt lo hi ks j = true := (openAt_iff h1 h2).mpr ⟨c1, c2⟩
  show (if openAt lo hi ks j = true then (ts[j]?).toList.map (fun c => (c, none)) else []) ++ (if 0 < j ∧ lo ≤ ks.getD (j - 1) 0 ∧ ks.getD (j - 1) 0 ≤ hi then _ else []) = _
  rw [if_pos o, if_neg c3, h]; rfl
theorem shut (h1 : lo < 99) (h2 : -99 < hi) (c1 : ts.length ≤ j ∨ (j < ks.length ∧ ks.getD j 0 ≤ lo) ∨ (0 < j ∧ hi ≤ ks.getD (j - 1) 0)) : (if openAt lo hi ks j = true then (ts[j]?).toList.map (fun c => ((c, none) : It)) else []) = [] := by
  by_cases o : openAt lo hi ks j = true
  · have := (openAt_iff h1 h2).mp o
    rw [if_pos o, List.getElem?_eq_none (by lia)]; rfl
  · rw [if_neg o]
theorem pushR_C (h1 : lo < 99) (h2 : -99 < hi) (c1 : ts.length ≤ j ∨ (j < ks.length ∧ ks.getD j 0 ≤ lo) ∨ (0 < j ∧ hi ≤ ks.getD (j - 1) 0)) (c3 : 0 < j ∧ lo ≤ ks.getD (j - 1) 0 ∧ ks.getD (j - 1) 0 ≤ hi) :
    pushR lo hi (.node ks vs ts) j = [(.node ks vs ts, some (j - 1))] := by
  show (if openAt lo hi ks j = true then (ts[j]?).toList.map (fun c => (c, none)) else []) ++ (if 0 < j ∧ lo ≤ ks.getD (j - 1) 0 ∧ ks.getD (j - 1) 0 ≤ hi then _ else []) = _
  rw [shut h1 h2 c1, if_pos c3]; rfl
theorem pushR_D (h1 : lo < 99) (h2 : -99 < hi) (c1 : ts.length ≤ j ∨ (j < ks.length ∧ ks.getD j 0 ≤ lo) ∨ (0 < j ∧ hi ≤ ks.getD (j - 1) 0)) (c3 : ¬ (0 < j ∧ lo ≤ ks.getD (j - 1) 0 ∧ ks.getD (j - 1) 0 ≤ hi)) :
    pushR lo hi (.node ks vs ts) j = [] := by
  show (if openAt lo hi ks j = true then (ts[j]?).toList.map (fun c => (c, none)) else []) ++ (if 0 < j ∧ lo ≤ ks.getD (j - 1) 0 ∧ ks.getD (j - 1) 0 ≤ hi then _ else []) = _
  rw [shut h1 h2 c1, if_neg c3]; rfl
theorem filt_T {i : Nat} (h : vs.length = ks.length) (hi' : i < ks.length) (c : lo ≤ ks.getD i 0 ∧ ks.getD i 0 ≤ hi) : ((prs ks vs).take (i + 1)).filter (inR lo hi) = ((prs ks vs).take i).filter (inR lo hi) ++ [(ks.getD i 0, vs.getD i 0)] := by
  rw [take_prs h hi', List.filter_append]
  congr 1
  simp only [List.filter_cons, List.filter_nil, inR, c.1, c.2, decide_true, Bool.and_self, if_true]
theorem filt_F {i : Nat} (h : vs.length = ks.length) (hi' : i < ks.length) (c : ¬ (lo ≤ ks.getD i 0 ∧ ks.getD i 0 ≤ hi)) : ((prs ks vs).take (i + 1)).filter (inR lo hi) = ((prs ks vs).take i).filter (inR lo hi) := by
  rw [take_prs h hi', List.filter_append]
  have : inR lo hi (ks.getD i 0, vs.getD i 0) = false := by
    rw [← Bool.not_eq_true]; intro e; simp only [inR, Bool.and_eq_true, decide_eq_true_eq] at e; exact c e
  rw [List.filter_cons, this]
  simp
end
end Mine
namespace Mine
open PySem PySem.Spec PySem.Calls PyProof.Rows PySem.W
theorem news_own0 {h₀ h : Heap} {L : Addr} {x y : Addr × Obj} {a b o : Led} (N : News h₀ L h (x :: y :: (a ++ b ++ o))) : News h₀ L h ((x :: y :: (a ++ b)) ++ o) := N
end Mine
namespace Mine
open PySem PySem.Spec PySem.Calls PyProof.Rows PySem.W
section
variable {prog : Program} {w : World} {A : Around} {E : Value → Shared → Prop} {s : Shared} {h₀ : Heap} {L a b : Addr} {m : Str → Option Value} {news : List (Addr × Obj)} {us vs : List Value} {n n' : Nat} {Q : Value → Shared → Prop}
theorem add_led (F : Fr h₀ L s.heap m) (N : News h₀ L s.heap news) (ma : (a, listOf us.toArray n) ∈ news) (mb : (b, listOf vs.toArray n') ∈ news) (hz : us.length + vs.length ≤ sizeLine)
    (h : ∀ D h', Fr h₀ L h' m → News h₀ L h' ((D, listOf (us ++ vs).toArray 0) :: news) → (∀ p ∈ news, p.1 < D) → Q (.ref D) { s with heap := h' }) : wpAny (model prog w) A (binaryOp .Add (.ref a) (.ref b)) Q E s := by
  have ha : s.heap.IsList a us.toArray := ⟨_, (N _ ma).1, rfl, n, rfl⟩
  have hb : s.heap.IsList b vs.toArray := ⟨_, (N _ mb).1, rfl, n', rfl⟩
  have k := @add_lists prog w A E s h₀ L m news a b us vs Q F N ha hb
  refine k (fun h' F' N' => ?_) ?_
  · have z : ∀ p ∈ news, p.1 < s.heap.objs.size := fun p hp => Heap.lt_size (N p hp).1
    exact h s.heap.objs.size h' F' N' z
  · exact hz
end
theorem off1_ne {D : Addr} (l : Led) : LCg.Off1 D l → ∀ p ∈ l, p.1 ≠ D := by
  induction l with
  | nil => intro _ p hp; cases hp
  | cons q r ih =>
    intro h p hp
    rcases List.mem_cons.mp hp with rfl | hp
    · exact h.1
    · exact ih h.2 p hp
end Mine
namespace Mine
open PySem PySem.Spec PySem.Calls PyProof.Rows PySem.W
theorem wp_execs_app {M : Model} {Γ : PySem.Ctx} {env : Env} {rest : List Stmt} {Q : Flow → Pos → Shared → Prop} {E : Value → Pos → Shared → Prop} (l : List Stmt) : ∀ p s,
    Sem.wp M Γ (execs l env) (fun f p' s' => match f with | .next => Sem.wp M Γ (execs rest env) Q E p' s' | f => Q f p' s') E p s → Sem.wp M Γ (execs (l ++ rest) env) Q E p s := by
  induction l with
  | nil => intro p s h; exact h
  | cons st r ih =>
    intro p s h
    rw [execs_cons, Sem.wp_bind'] at h
    show Sem.wp M Γ (execs (st :: (r ++ rest)) env) Q E p s
    rw [execs_cons, Sem.wp_bind']
    refine Sem.wp_mono M Γ _ (fun f p' s' h' => ?_) (fun _ _ _ h' => h') _ _ h
    cases f <;> first | exact ih _ _ h' | exact h'
/-- some statements first, then the rest -/
theorem execs_app {M : Model} {A : Around} {env : Env} {l rest : List Stmt} {Q : Flow → Shared → Prop} {E : Value → Shared → Prop} {s : Shared}
    (h : wpAny M A (execs l env) (fun f s' => match f with | .next => wpAny M A (execs rest env) Q E s' | f => Q f s') E s) : wpAny M A (execs (l ++ rest) env) Q E s := fun Γ p hΓ => by
  refine wp_execs_app l p s (Sem.wp_mono M Γ _ (fun f p' s' h' => ?_) (fun _ _ _ h' => h') _ _ (h Γ p hΓ))
  cases f <;> first | exact h' Γ p' hΓ | exact h'
noncomputable def CutPost (Mid : Shared → Prop) (f : Flow) (s' : Shared) : Prop := f = .next ∧ Mid s'
/-- what stands between two parts: a state said by Mid -/
theorem execs_cut {M : Model} {A : Around} {env : Env} {l rest : List Stmt} {Q : Flow → Shared → Prop} {E : Value → Shared → Prop} {s : Shared} (Mid : Shared → Prop)
    (h : wpAny M A (execs l env) (CutPost Mid) E s) (k : ∀ s', Mid s' → wpAny M A (execs rest env) Q E s') : wpAny M A (execs (l ++ rest) env) Q E s :=
  execs_app (wpAny_mono h (fun f s' hm => by obtain ⟨rfl, hm⟩ := hm; exact k s' hm) fun _ _ e => e)
end Mine
namespace Mine
open PySem PySem.Spec PySem.Calls PyProof.Rows PySem.W
theorem cell_is {o : Obj} {v v' : Int} {t : Tok} (d : o.data = .cell (some (.int v t))) (e : v = v') : o.data = .cell (some (.int v' t)) := e ▸ d
end Mine
namespace Mine
open PySem PySem.Spec PySem.Calls PyProof.Rows PySem.W
theorem dat_int {nw : Led} {v : Value} {k : Int} (h : DatIn nw v (.int k)) : ∃ t, v = .int k t := by cases h; exact ⟨_, rfl⟩
theorem dat_tup {nw : Led} {v : Value} {ds : List Dat} (h : DatIn nw v (.tuple ds)) : ∃ a vs n, v = .ref a ∧ (a, ({ cls := .type "tuple", data := .seq (List.toArray vs) n } : Obj)) ∈ nw ∧ DatAll nw vs ds := by
  cases h with | tuple hm r => exact ⟨_, _, _, rfl, hm, r⟩
theorem dat_cons {nw : Led} {vs : List Value} {d : Dat} {ds : List Dat} (h : DatAll nw vs (d :: ds)) : ∃ v us, vs = v :: us ∧ DatIn nw v d ∧ DatAll nw us ds := by
  cases h with | cons a r => exact ⟨_, _, rfl, a, r⟩
theorem dat_nil {nw : Led} {vs : List Value} (h : DatAll nw vs []) : vs = [] := by cases h; rfl
theorem dat_int1 {nw : Led} {vs : List Value} {k : Int} {ds : List Dat} (h : DatAll nw vs (.int k :: ds)) : ∃ t us, vs = .int k t :: us ∧ DatAll nw us ds :=
  let ⟨_, us, e, hd, hr⟩ := dat_cons h
  let ⟨t, et⟩ := dat_int hd
  ⟨t, us, et ▸ e, hr⟩
theorem qd_open {nw : Led} {v : Value} {q : Qd} (h : DatIn nw v (qdD q)) : ∃ (a : Addr) (t1 t2 t3 t4 : Tok) (n : Nat), v = .ref a ∧ (a, ({ cls := .type "tuple", data := .seq #[.int q.1 t1, .int q.2.1 t2, .int q.2.2.1 t3, .int q.2.2.2 t4] n } : Obj)) ∈ nw := by
  obtain ⟨a, vs, n, e, hm, r⟩ := dat_tup h
  obtain ⟨t1, us1, e1, r1⟩ := dat_int1 r
  obtain ⟨t2, us2, e2, r2⟩ := dat_int1 r1
  obtain ⟨t3, us3, e3, r3⟩ := dat_int1 r2
  obtain ⟨t4, us4, e4, r4⟩ := dat_int1 r3
  rw [e1, e2, e3, e4, dat_nil r4] at hm
  exact ⟨a, t1, t2, t3, t4, n, e, hm⟩
theorem datQd {tl : Led} {a : Addr} {k v x y : Int} {t u t' u' : Tok} {n : Nat} (h : (a, ({ cls := .type "tuple", data := .seq #[.int k t, .int v u, .int x t', .int y u'] n } : Obj)) ∈ tl) : DatIn tl (.ref a) (qdD (k, v, x, y)) :=
  DatIn.tuple (vs := [.int k t, .int v u, .int x t', .int y u']) h (.cons (.int _ _) (.cons (.int _ _) (.cons (.int _ _) (.cons (.int _ _) .nil))))
theorem datGet {nw : Led} {vs : List Value} {ds : List Dat} (h : DatAll nw vs ds) {i : Nat} {v : Value} (e : vs[i]? = some v) : ∃ d, ds[i]? = some d ∧ DatIn nw v d := by
  have hl := h.length
  have hi : i < ds.length := by rw [← hl]; exact (List.getElem?_eq_some_iff.mp e).1
  obtain ⟨v', e', hd⟩ := h.get hi
  rw [e] at e'
  cases e'
  exact ⟨_, List.getElem?_eq_getElem hi, hd⟩
theorem Fresh.app {news tl tl' : Led} (h : Fresh news tl) (k : Fresh news tl') : Fresh news (tl ++ tl') := fun p hp => (List.mem_append.mp hp).elim (h p) (k p)
theorem Fresh.nil {news : Led} : Fresh news [] := fun _ h => nomatch h
theorem Fresh.sub {news news' tl : Led} (h : Fresh news tl) (k : ∀ p ∈ news', p ∈ news) : Fresh news' tl := fun p hp q hq => h p hp q (k q hq)
theorem Fresh.tail {news tl : Led} {q : Addr × Obj} (h : Fresh (q :: news) tl) : Fresh news tl := h.sub fun _ hp => .tail _ hp
theorem Fresh.of_lt {news : Led} {a : Addr} {o : Obj} (h : AllLt a news) : Fresh news [(a, o)] := fun p hp => by rw [List.mem_singleton.mp hp]; exact lt_ne h
end Mine
namespace Mine
open PySem PySem.Spec PySem.Calls PyProof.Rows PySem.W
theorem max_if (l a : Int) : (if a > l then a else l) = max l a := by split <;> lia
theorem min_if (r b : Int) : (if b < r then b else r) = min r b := by split <;> lia
theorem comp_sub {q a b c : Addr × Obj} {l : Led} : ∀ p ∈ a :: b :: c :: (q :: l), p ∈ q :: a :: b :: c :: l := fun p hp => by
  simp only [List.mem_cons] at hp ⊢
  rcases hp with h | h | h | h | h <;> simp [h]
end Mine
namespace Mine
open PySem PySem.Spec PySem.Calls PyProof.Rows PySem.W
theorem pickA {h₀ h : Heap} {L : Addr} {x1 x2 x3 x4 x5 x6 : Addr × Obj} {tu b : Led} (N : News h₀ L h (x1 :: x2 :: x3 :: x4 :: x5 :: (tu ++ (x6 :: b)))) : News h₀ L h ((x1 :: x3 :: (tu ++ [x6])) ++ b) := news_sub N fun p hp => by
  simp only [List.cons_append, List.mem_cons, List.mem_append, List.not_mem_nil, or_false] at hp ⊢
  rcases hp with h | h | (h | h) | h <;> simp [h]
theorem pickB {h₀ h : Heap} {L : Addr} {x1 x2 x6 : Addr × Obj} {tu b : Led} (N : News h₀ L h (x1 :: x2 :: (tu ++ (x6 :: b)))) : News h₀ L h ((x1 :: (tu ++ [x6])) ++ b) := news_sub N fun p hp => by
  simp only [List.cons_append, List.mem_cons, List.mem_append, List.not_mem_nil, or_false] at hp ⊢
  rcases hp with h | (h | h) | h <;> simp [h]
theorem pickC {h₀ h : Heap} {L : Addr} {x1 x2 x3 : Addr × Obj} {b : Led} (N : News h₀ L h (x1 :: x2 :: x3 :: b)) : News h₀ L h ([x1, x3] ++ b) := news_sub N fun p hp => by
  simp only [List.cons_append, List.nil_append, List.mem_cons] at hp ⊢
  rcases hp with h | h | h <;> simp [h]
theorem walkSeg_kid {ks vs : List Int} {ts : List Tr} {i : Nat} (hi : i < ts.length) : walkSeg ks vs (ts.map Tr.walk) i = (ts[i].walk).map (clip (leftOf ks i) (rightOf ks i)) ++ (((prs ks vs)[i]?).toList).map wide := by
  rw [walkSeg, List.getD_eq_getElem?_getD, List.getElem?_map, List.getElem?_eq_getElem hi]; rfl
theorem walkSeg_none {ks vs : List Int} {ts : List Tr} {i : Nat} (hi : ts.length ≤ i) : walkSeg ks vs (ts.map Tr.walk) i = (((prs ks vs)[i]?).toList).map wide := by
  rw [walkSeg, List.getD_eq_getElem?_getD, List.getElem?_map, List.getElem?_eq_none hi]; rfl
theorem prs_map {ks : List Int} {seed : Int} {i : Nat} (hi : i < ks.length) : (prs ks (ks.map fun k => seed - k))[i]? = some (ks.getD i 0, (ks.map fun k => seed - k).getD i 0) := prs_get (by simp) hi
theorem prs_mapN {ks : List Int} {seed : Int} {i : Nat} (hi : ks.length ≤ i) : (prs ks (ks.map fun k => seed - k))[i]? = none := by
  rw [List.getElem?_eq_none_iff, prs_length (by simp)]; exact hi
theorem formTo_kid {ks : List Int} {seed : Int} {ts : List Tr} {i : Nat} (hi : i < ts.length) : formTo ks seed ts (i + 1) = formTo ks seed ts i ++ ts[i].flat := by
  rw [formTo_succ, List.getElem?_eq_getElem hi]; simp
theorem formTo_none {ks : List Int} {seed : Int} {ts : List Tr} {i : Nat} (hi : ts.length ≤ i) : formTo ks seed ts (i + 1) = formTo ks seed ts i := by
  rw [formTo_succ, List.getElem?_eq_none hi]; simp
end Mine
namespace Mine
open PySem PySem.Spec PySem.Calls PyProof.Rows PySem.W
theorem pickD {h₀ h : Heap} {L : Addr} {x1 x2 x3 x4 x5 x6 : Addr × Obj} {a b : Led} (N : News h₀ L h (x1 :: x2 :: x3 :: x4 :: x5 :: x6 :: (a ++ b))) : News h₀ L h (a ++ (x1 :: x2 :: x3 :: x4 :: b)) := news_sub N fun p hp => by
  simp only [List.mem_cons, List.mem_append] at hp ⊢
  rcases hp with h | h | h | h | h | h <;> simp [h]
end Mine
namespace Mine
open PySem PySem.Spec PySem.Calls PyProof.Rows PySem.W
/-- names for what stands in a ledger -/
theorem nmGL {g h : Heap} {L : Addr} {l : Led} (_ : News g L h l) : ∃ (g' : Heap) (L' : Addr), g' = g ∧ L' = L := ⟨g, L, rfl, rfl⟩
theorem nm1 {g h : Heap} {L a : Addr} {x : Obj} {l : Led} (_ : News g L h ((a, x) :: l)) : ∃ a' : Addr, a' = a := ⟨a, rfl⟩
theorem nm2 {g h : Heap} {L a b : Addr} {x y : Obj} {l : Led} (_ : News g L h ((a, x) :: (b, y) :: l)) : ∃ a' b' : Addr, a' = a ∧ b' = b := ⟨a, b, rfl, rfl⟩
theorem nmW1 {g h : Heap} {L a : Addr} {ws : List Value} {n : Nat} {l : Led} (_ : News g L h ((a, listOf ws.toArray n) :: l)) : ∃ (a' : Addr) (ws' : List Value), a' = a ∧ ws' = ws := ⟨a, ws, rfl, rfl⟩
theorem nmW2 {g h : Heap} {L a b : Addr} {x : Obj} {ws : List Value} {n : Nat} {l : Led} (_ : News g L h ((a, x) :: (b, listOf ws.toArray n) :: l)) : ∃ (a' b' : Addr) (ws' : List Value), a' = a ∧ b' = b ∧ ws' = ws := ⟨a, b, ws, rfl, rfl, rfl⟩
theorem nmJ {g h : Heap} {L a1 a2 a3 a4 a5 a6 a7 : Addr} {x1 x3 x4 x5 x6 : Obj} {w2 y7 : List Value} {n2 : Nat} {l : Led} (_ : News g L h ((a1, x1) :: (a2, listOf w2.toArray n2) :: (a3, x3) :: (a4, x4) :: (a5, x5) :: (a6, x6) :: (a7, LCg.lst y7) :: l)) : ∃ (b1 b2 b7 : Addr) (v2 z7 : List Value), b1 = a1 ∧ b2 = a2 ∧ b7 = a7 ∧ v2 = w2 ∧ z7 = y7 := ⟨a1, a2, a7, w2, y7, rfl, rfl, rfl, rfl, rfl⟩
theorem nmT {g h : Heap} {L a b c : Addr} {x y : Obj} {l : Led} {v : Value} {k : Int} {t : Tok} {n : Nat} (_ : News g L h ((a, x) :: (c, ({ cls := .type "tuple", data := .seq #[v, .int k t] n } : Obj)) :: (b, y) :: l)) : ∃ (a' c' b' : Addr) (t' : Tok), a' = a ∧ c' = c ∧ b' = b ∧ t' = t := ⟨a, c, b, t, rfl, rfl, rfl, rfl⟩
end Mine
namespace Mine
noncomputable def pushA (lo hi : Int) (ks : List Int) (ts : List Tr) (j : Nat) : List It := if openAt lo hi ks j = true then (ts[j]?).toList.map (fun c => ((c, none) : It)) else []
noncomputable def pushB (lo hi : Int) (ks vs : List Int) (ts : List Tr) (j : Nat) : List It := if 0 < j ∧ lo ≤ ks.getD (j - 1) 0 ∧ ks.getD (j - 1) 0 ≤ hi then [(.node ks vs ts, some (j - 1))] else []
theorem pushR_two (lo hi : Int) (ks vs : List Int) (ts : List Tr) (j : Nat) : pushR lo hi (.node ks vs ts) j = pushA lo hi ks ts j ++ pushB lo hi ks vs ts j := rfl
theorem pushA_yes {lo hi : Int} {ks : List Int} {ts : List Tr} {j : Nat} {c : Tr} (h1 : lo < 99) (h2 : -99 < hi) (h : ts[j]? = some c) (c1 : ¬ (j < ks.length ∧ ks.getD j 0 ≤ lo)) (c2 : ¬ (0 < j ∧ hi ≤ ks.getD (j - 1) 0)) : pushA lo hi ks ts j = [(c, none)] := by
  rw [pushA, if_pos ((openAt_iff h1 h2).mpr ⟨c1, c2⟩), h]; rfl
theorem pushA_no {lo hi : Int} {ks : List Int} {ts : List Tr} {j : Nat} (h1 : lo < 99) (h2 : -99 < hi) (c1 : ts.length ≤ j ∨ (j < ks.length ∧ ks.getD j 0 ≤ lo) ∨ (0 < j ∧ hi ≤ ks.getD (j - 1) 0)) : pushA lo hi ks ts j = [] := shut h1 h2 c1
theorem pushB_yes {lo hi : Int} {ks vs : List Int} {ts : List Tr} {j : Nat} (h : 0 < j ∧ lo ≤ ks.getD (j - 1) 0 ∧ ks.getD (j - 1) 0 ≤ hi) : pushB lo hi ks vs ts j = [(.node ks vs ts, some (j - 1))] := if_pos h
theorem pushB_no {lo hi : Int} {ks vs : List Int} {ts : List Tr} {j : Nat} (h : ¬ (0 < j ∧ lo ≤ ks.getD (j - 1) 0 ∧ ks.getD (j - 1) 0 ≤ hi)) : pushB lo hi ks vs ts j = [] := if_neg h
theorem fitI {n : Nat} (h : n ≤ 10000) : (n : Int) < 2 ^ 63 := Int.lt_of_le_of_lt (Int.ofNat_le.mpr h) (by decide)
theorem fitI1 {n : Nat} (h : n ≤ 10000) : (n : Int) + 1 < 2 ^ 63 := Int.lt_of_le_of_lt (Int.add_le_add_right (Int.ofNat_le.mpr h) 1) (by decide)
theorem fitS {n : Nat} (h : n ≤ 10000) : n ≤ 16777216 := Nat.le_trans h (by decide)
theorem fitS1 {n : Nat} (h : n ≤ 10000) : n + 1 ≤ 16777216 := Nat.le_trans (Nat.add_le_add_right h 1) (by decide)
theorem fit62 {n : Nat} (h : n ≤ 10000) : (n : Int) < 2 ^ 62 := Int.lt_of_le_of_lt (Int.ofNat_le.mpr h) (by decide)
theorem pos1 (n : Nat) : (0 : Int) < (n : Int) + 1 := Int.lt_add_one_of_le (Int.natCast_nonneg n)
theorem toNat_pred : ∀ j : Nat, ((j : Int) - 1).toNat = j - 1
  | 0 => rfl
  | j + 1 => by rw [Int.natCast_add, Int.natCast_one, Int.add_sub_cancel]; rfl
theorem tk_gen {M : Model} {A : Around} {α : Type} {x : Sem α} {Q : α → Shared → Prop} {E : Value → Shared → Prop} {hp : Heap} {g d o} {n : Nat} (h : ∀ tk, wpAny M A x Q E (Shared.mk hp g d tk o)) : wpAny M A x Q E (Shared.mk hp g d n o) := h n
end Mine

namespace Mine
open PySem PySem.Spec PySem.Calls PyProof.Rows PyProof.Rows.LCg

/-- the tests of one turn -/
abbrev tests4 (ifs : List Expr) (env : Env) : Sem Bool := forIn ifs true fun c r => if r = true then do let ok ← isTrue c env (eval c env); pure (ForInStep.yield ok) else pure (ForInStep.yield r)

/-- what is due behind the assignment of a turn -/
noncomputable def Aft4 (prog : Program) (w : World) (A : Around) (elt : Expr) (ifs : List Expr) (acc : Value) (env : Env) (R : Result → Shared → Prop) (I : Nat → Shared → Prop) (n : Nat) (s₂ : Shared) : Prop :=
  wpAny (model prog w) A (tests4 ifs env) (fun ok s₃ =>
    if ok = true then wpAny (model prog w) A (eval elt env) (fun x s₄ =>
      wpAny (model prog w) A (call (.builtin "list.append") [acc, x]) (fun _ s₅ => ∃ m, m < n ∧ I m s₅) (notedBy (model prog w) A env fun e s' => R (.error e) s') s₄) (notedBy (model prog w) A env fun e s' => R (.error e) s') s₃
    else ∃ m, m < n ∧ I m s₃) (notedBy (model prog w) A env fun e s' => R (.error e) s') s₂
section
variable {prog : Program} {w : World} {A : Around} {E : Value → Shared → Prop} {s : Shared} {h₀ : Heap} {L : Addr} {m : Str → Option Value} {env : Env}

theorem compLoop4 {elt iter : Expr} {elts : List Expr} {x1 : Nat} {tp : Pos} {ifs : List Expr} {scope : Scope} {pos : Pos} {it acc : Value} {env : Env} {R : Result → Shared → Prop} (I : Nat → Shared → Prop)
    (turn : ∀ n s, I n s → wpAny (model prog w) A (pyNext it) (fun r s₁ => match r with
      | none => R (.ok .next) s₁
      | some v => wpAny (model prog w) A (letOwnedTupleGo (.Tuple elts x1 tp) it v) (fun _ s₁' => wpAny (model prog w) A (assign (.Tuple elts x1 tp) env v) (fun _ s₂ => Aft4 prog w A elt ifs acc env R I n s₂)
          (notedBy (model prog w) A env fun e s' => R (.error e) s') s₁') (notedBy (model prog w) A env fun e s' => R (.error e) s') s₁) (notedBy (model prog w) A env fun e s' => R (.error e) s') s)
    (n : Nat) (h : I n s) : codeAny (model prog w) A (.compLoop (.ListComp elt [⟨.Tuple elts x1 tp, iter, ifs, 0⟩] scope pos) 0 it acc env) R s := by
  refine codeAny_loop rfl I (fun n s hI => ?_) n h
  show wpAny _ A ((compTurn (.ListComp elt [⟨.Tuple elts x1 tp, iter, ifs, 0⟩] scope pos) 0 it acc env).onRaise (fun x => do noteFrame x env; theTreesLotGoes x)) _ _ s
  refine wpAny_noted ?_
  rw [compTurn_list]
  refine wpAny_bind (wpAny_standAt (wpAny_bind (wpAny_mono (turn n s hI) (fun r s₁ h₁ => ?_) fun _ _ h' => h')))
  cases r with
  | none => exact wpAny_pure h₁
  | some v =>
    refine wpAny_bind (wpAny_mono h₁ (fun _ s₁' h₁' => ?_) fun _ _ h' => h')
    refine wpAny_bind (wpAny_mono h₁' (fun _ s₂ h₂ => wpAny_bind (wpAny_mono h₂ (fun ok s₃ h₃ => ?_) fun _ _ h' => h')) fun _ _ h' => h')
    cases ok with
    | false => exact wpAny_pure ⟨rfl, h₃⟩
    | true =>
      exact wpAny_bind (wpAny_bind (wpAny_mono h₃ (fun x s₄ h₄ => wpAny_bind (wpAny_mono h₄ (fun _ s₅ h₅ => wpAny_pure (wpAny_pure ⟨rfl, h₅⟩)) fun _ _ h' => h')) fun _ _ h' => h'))
end

/-- a turn's end -/
noncomputable def End4 (h₀ : Heap) (L : Addr) (m : Str → Option Value) (s₁ : Shared) (I : Addr) (oI : Obj) (C : Addr) (oC : Obj) (D : Addr) (oD : Obj) (R : List (Addr × Obj) → Prop) (s₂ : Shared) : Prop :=
  ∃ h' tk nx, s₂ = { s₁ with heap := h', toks := tk } ∧ Fr h₀ L h' m ∧ News h₀ L h' ((I, oI) :: (C, oC) :: (D, oD) :: nx) ∧ Off3 I C D nx ∧ R nx
theorem End4.intro {h₀ : Heap} {L I C D : Addr} {m : Str → Option Value} {s₁ : Shared} {oI oC oD : Obj} {R : List (Addr × Obj) → Prop} {h' : Heap} {tk : Nat} {all : List (Addr × Obj)}
    (F : Fr h₀ L h' m) (N : News h₀ L h' all) (nx : List (Addr × Obj)) (sub : ∀ p ∈ (I, oI) :: (C, oC) :: (D, oD) :: nx, p ∈ all) (off : Off3 I C D nx) (r : R nx) :
    End4 h₀ L m s₁ I oI C oC D oD R { s₁ with heap := h', toks := tk } := ⟨h', tk, nx, rfl, F, fun p hp => N p (sub p hp), off, r⟩

/-- a turn of the four-place loop -/
inductive Turn4 (prog : Program) (w : World) (A : Around) (h₀ : Heap) (L : Addr) (m : Str → Option Value) (env : Env) (elt : Expr) (x₁ x₂ x₃ x₄ : Str) (ifs : List Expr) (scope : Scope) (cl : List (Str × Addr)) (s₁ : Shared) (ax : Addr) (vs : List Value) (nn : Nat)
    (J : Nat → List Value → List (Addr × Obj) → Prop) (i : Nat) (v : Value) (ys : List Value) (nx : List (Addr × Obj)) : Prop
  | mk (t : Addr) (ot : Obj) (v₁ v₂ v₃ v₄ : Value) (nt : Nat) (f1 : v = .ref t) (f2 : (t, ot) ∈ nx) (f3 : ot.cls = .type "tuple") (f4 : ot.data = .seq #[v₁, v₂, v₃, v₄] nt) (f5 : ∀ I oI C oC D m₂ h tk (E' : Value → Shared → Prop), NsObj oC m₂ → m₂ x₁ = some v₁ → m₂ x₂ = some v₂ → m₂ x₃ = some v₃ → m₂ x₄ = some v₄ → Fr h₀ L h m → News h₀ L h ((I, oI) :: (C, oC) :: (D, lst ys) :: nx) → Off3 I C D nx → ((@Ne Nat I C) ∧ (@Ne Nat I D) ∧ (@Ne Nat C D)) → wpAny (model prog w) A (tests4 ifs (compEnvC scope cl C env)) (fun ok s' => if ok = true then wpAny (model prog w) A (eval elt (compEnvC scope cl C env)) (fun y => End4 h₀ L m { s₁ with heap := h, toks := tk } I oI C oC D (lst ys) fun nx' => (ax, listOf vs.toArray nn) ∈ nx' ∧ J (i + 1) (ys ++ [y]) nx') E' s' else End4 h₀ L m { s₁ with heap := h, toks := tk } I oI C oC D (lst ys) (fun nx' => (ax, listOf vs.toArray nn) ∈ nx' ∧ J (i + 1) ys nx') s') E' { s₁ with heap := h, toks := tk }) : Turn4 prog w A h₀ L m env elt x₁ x₂ x₃ x₄ ifs scope cl s₁ ax vs nn J i v ys nx
/-- the source of a four-place comprehension: a list of the ledger, an invariant, a turn, an end -/
inductive Src4 (prog : Program) (w : World) (A : Around) (h₀ : Heap) (L : Addr) (m : Str → Option Value) (env : Env) (elt : Expr) (x₁ x₂ x₃ x₄ : Str) (ifs : List Expr) (scope : Scope) (cl : List (Str × Addr))
    (Fin : Shared → List Value → List (Addr × Obj) → Prop) (xv : Value) (s₁ : Shared) : Prop
  | mk (ax : Addr) (vs : List Value) (nn : Nat) (news : List (Addr × Obj)) (J : Nat → List Value → List (Addr × Obj) → Prop) (f1 : xv = .ref ax) (f2 : A.handled = none) (f3 : Fr h₀ L s₁.heap m) (f4 : News h₀ L s₁.heap news) (f5 : (ax, listOf vs.toArray nn) ∈ news) (f6 : vs.length ≤ sizeLine) (f7 : J 0 [] news) (f8 : (∀ (i : Nat) (v : Value) (ys : List Value) (nx : List (Addr × Obj)), vs[i]? = some v → J i ys nx → (ax, listOf vs.toArray nn) ∈ nx → Turn4 prog w A h₀ L m env elt x₁ x₂ x₃ x₄ ifs scope cl s₁ ax vs nn J i v ys nx)) (f9 : (∀ ys nx, J vs.length ys nx → Fin s₁ ys nx)) : Src4 prog w A h₀ L m env elt x₁ x₂ x₃ x₄ ifs scope cl Fin xv s₁

/-- the invariant of the four-place loop -/
inductive BlkI (h₀ : Heap) (L : Addr) (m : Str → Option Value) (s₁ : Shared) (I C D ax : Addr) (vs : List Value) (nn : Nat) (J : Nat → List Value → List (Addr × Obj) → Prop) (k : Nat) (s' : Shared) : Prop
  | mk (h' : Heap) (tk i : Nat) (ys : List Value) (m' : Str → Option Value) (nx : List (Addr × Obj)) (f1 : s' = { s₁ with heap := h', toks := tk }) (f2 : i ≤ vs.length) (f3 : k = vs.length + 1 - i) (f4 : ys.length ≤ i) (f5 : (h'.IsListIter I ax i ∧ h'.IsList ax vs.toArray)) (f6 : Fr h₀ L h' m) (f7 : h'.Ns C m') (f8 : News h₀ L h' ((D, lst ys) :: nx)) (f9 : Off3 I C D nx) (f10 : (ax, listOf vs.toArray nn) ∈ nx) (f11 : J i ys nx) : BlkI h₀ L m s₁ I C D ax vs nn J k s'
section
variable {prog : Program} {w : World} {A : Around} {E : Value → Shared → Prop} {s : Shared} {h₀ : Heap} {L : Addr} {m : Str → Option Value} {env : Env}

theorem block4 {elt iter : Expr} {x₁ x₂ x₃ x₄ : Str} {p₁ p₂ p₃ p₄ tp : Pos} {tkn : Nat} {ifs : List Expr} {scope : Scope} {cl : List (Str × Addr)} {pos : Pos} {s₁ : Shared} {ax : Addr} {vs : List Value} {nn : Nat} {news : List (Addr × Obj)}
    {J : Nat → List Value → List (Addr × Obj) → Prop} {RR : Value → Addr → Result → Shared → Prop}
    (hsz : vs.length ≤ sizeLine) (hcell : ∀ y ∈ scope.names, y.2 ≠ .cell) (hkind : scope.kind = .function)
    (hx₁ : scope.names.lookup x₁ = some .local) (hx₂ : scope.names.lookup x₂ = some .local) (hx₃ : scope.names.lookup x₃ = some .local) (hx₄ : scope.names.lookup x₄ = some .local)
    (hd : x₁ ≠ x₂ ∧ x₁ ≠ x₃ ∧ x₁ ≠ x₄ ∧ x₂ ≠ x₃ ∧ x₂ ≠ x₄ ∧ x₃ ≠ x₄) (hh : A.handled = none) (F : Fr h₀ L s₁.heap m) (N : News h₀ L s₁.heap news) (hl : (ax, listOf vs.toArray nn) ∈ news) (hj : J 0 [] news)
    (turn : ∀ (i : Nat) (v : Value) (ys : List Value) (nx : List (Addr × Obj)), vs[i]? = some v → J i ys nx → (ax, listOf vs.toArray nn) ∈ nx → Turn4 prog w A h₀ L m env elt x₁ x₂ x₃ x₄ ifs scope cl s₁ ax vs nn J i v ys nx)
    (hRR : ∀ D C h tk m' ys nx, Fr h₀ L h m → News h₀ L h ((D, lst ys) :: nx) → Off1 D nx → h.Ns C m' → h₀.get? C = none → h₀.get? D = none → C ≠ L → D ≠ L → C ≠ D → (∀ p ∈ nx, p.1 ≠ C) → J vs.length ys nx → RR (.ref D) C (.ok .next) { s₁ with heap := h, toks := tk }) :
    wpAny (model prog w) A (pyIter (.ref ax)) (fun it s₂ => wpAny (model prog w) A (newList []) (fun acc s₃ => wpAny (model prog w) A (newFunctionEnv scope env.globals cl [] env.qual none .none (some env)) (fun cenv s₄ =>
      codeAny (model prog w) A (.compStart (.ListComp elt [⟨.Tuple [.Name x₁ p₁, .Name x₂ p₂, .Name x₃ p₃, .Name x₄ p₄] tkn tp, iter, ifs, 0⟩] scope pos) 0 it acc { cenv with scope := relabel scope env }) (RR acc cenv.locals) s₄) E s₃) E s₂) E s₁ := by
  have hls : s₁.heap.IsList ax vs.toArray := ⟨_, (N _ hl).1, rfl, nn, rfl⟩
  have hlt : ax < s₁.heap.objs.size := Heap.lt_size (N _ hl).1
  refine wpAny_pyIter_list hls ?_
  obtain ⟨I, hI⟩ : ∃ I, s₁.heap.objs.size = I := ⟨_, rfl⟩
  rw [hI]
  have W := Walks.list (prog := prog) (w := w) hh I ax (hI ▸ Nat.ne_of_lt hlt) vs.toArray
  obtain ⟨G, hG⟩ : ∃ G, s₁.heap.push { cls := .type "list_iterator", data := .fields #[.ref ax, .int 0 0] } = G := ⟨_, rfl⟩
  rw [hG]
  have hGs : G.objs.size = I + 1 := by rw [← hG, Heap.size_push, hI]
  have up : ∀ b o, s₁.heap.get? b = some o → G.get? b = some o := fun b o e => hG ▸ Heap.get?_push_of_some _ e
  have hst₀ : G.IsListIter I ax 0 ∧ G.IsList ax vs.toArray := ⟨⟨_, by rw [← hG, ← hI]; exact Heap.get?_push_size _ rfl, rfl, rfl⟩, hls.at fun o e => up _ o e⟩
  refine wpAny_newObj_type (wpAny_newFunctionEnv hcell (by intro y hy; simp at hy) (fun h₁ hns₁ hsb₁ => ?_) hkind)
  dsimp only at hns₁ hsb₁ ⊢
  obtain ⟨H2, hH2⟩ : ∃ H2, G.push { cls := .type "list", dict := none, data := .seq ([] : List Value).toArray } = H2 := ⟨_, rfl⟩
  rw [hH2] at hns₁ hsb₁ ⊢
  have hC : H2.objs.size = I + 2 := by rw [← hH2, Heap.size_push, hGs]
  obtain ⟨C, hCe⟩ : ∃ C, H2.objs.size = C := ⟨_, rfl⟩
  rw [hCe] at hns₁ hsb₁ hC ⊢
  obtain ⟨D, hDe⟩ : ∃ D, G.objs.size = D := ⟨_, rfl⟩
  rw [hDe] at hGs ⊢
  have hDC : D ≠ C := by lia
  have hID : I ≠ D := by lia
  have hIC : I ≠ C := by lia
  have below : ∀ b, b < I → b ≠ C ∧ b ≠ D ∧ b ≠ I := fun b hb => ⟨by lia, by lia, by lia⟩
  have lowN : ∀ p ∈ news, p.1 < I := fun p hp => hI ▸ Heap.lt_size (N p hp).1
  have old : ∀ b o, s₁.heap.get? b = some o → h₁.get? b = some o := fun b o e =>
    hsb₁.extBut b o (below b (hI ▸ Heap.lt_size e)).1 (Heap.get?_push_of_some _ (hH2 ▸ Heap.get?_push_of_some _ (up b o e)))
  have hacc : h₁.get? D = some (lst []) := hsb₁.extBut _ _ hDC (Heap.get?_push_of_some _ (by rw [← hH2, ← hDe]; exact Heap.get?_push_size _ rfl))
  have hst₁ : h₁.IsListIter I ax 0 ∧ h₁.IsList ax vs.toArray := W.frame 0 _ _ hst₀ fun b hb o e => by
    refine hsb₁.extBut b o ?_ (Heap.get?_push_of_some _ (hH2 ▸ Heap.get?_push_of_some _ e))
    rcases List.mem_cons.mp hb with rfl | hb
    · exact hIC
    · rw [List.mem_singleton.mp hb]; exact (below ax (hI ▸ hlt)).1
  have fresh₀ : ∀ a, I ≤ a → h₀.get? a = none := fun a ha => by
    cases e : h₀.get? a with
    | none => rfl
    | some o' => exact absurd (Heap.lt_size (F.keep a o' e)) (by rw [hI]; exact Nat.not_lt.mpr ha)
  have hI₀ : h₀.get? I = none := fresh₀ _ (Nat.le_refl _)
  have hD₀ : h₀.get? D = none := fresh₀ _ (by lia)
  have hC₀ : h₀.get? C = none := fresh₀ _ (by lia)
  have hLlt : L < I := hI ▸ F.ns.lt
  have hIL : L ≠ I := (below L hLlt).2.2
  have hDL : D ≠ L := Ne.symm (below L hLlt).2.1
  have hCL : C ≠ L := Ne.symm (below L hLlt).1
  have off₀ : Off3 I C D news := Off3.of fun p hp => ⟨(below _ (lowN p hp)).2.2, (below _ (lowN p hp)).1, (below _ (lowN p hp)).2.1⟩
  have loop : ∀ s₃ : Shared, (∃ tk, s₃ = { s₁ with heap := h₁, toks := tk }) →
      codeAny (model prog w) A (.compLoop (.ListComp elt [⟨.Tuple [.Name x₁ p₁, .Name x₂ p₂, .Name x₃ p₃, .Name x₄ p₄] tkn tp, iter, ifs, 0⟩] scope pos) 0 (.ref I) (.ref D) (compEnvC scope cl C env))
        (RR (.ref D) C) s₃ := by
    rintro s₃ ⟨tk₀, rfl⟩
    refine compLoop4
      (BlkI h₀ L m s₁ I C D ax vs nn J) ?_ (vs.length + 1)
      ⟨h₁, _, 0, [], _, news, rfl, Nat.zero_le _, rfl, Nat.zero_le _, hst₁, F.keeps old, hns₁, fun p hp => ?_, off₀, hl, hj⟩
    · rintro k s' ⟨h', tk, i, ys, m', nx, rfl, hi, rfl, hyl, hst', F', hn', N', off', hl', hJ⟩
      by_cases hlt' : i < vs.length
      · refine W.item i _ _ _ (by simpa using hlt') hst' fun v h₂ tk₂ hPv hst₂ hk₂ => ?_
        have hPv' : vs[i]? = some v := by simpa using hPv
        obtain ⟨t, ot, v₁, v₂, v₃, v₄, nt, rfl, hmt, hct, hdt, R''⟩ := turn i v ys nx hPv' hJ hl'
        have off3 := off'.mem
        have N₂ : News h₀ L h₂ ((D, lst ys) :: nx) := news_but N' hk₂ fun p hp => by
          rcases List.mem_cons.mp hp with rfl | hp
          · exact Ne.symm hID
          · exact (off3 p hp).1
        have ht : IsTup h₂ t #[v₁, v₂, v₃, v₄] := ⟨ot, (N₂ _ (List.mem_cons_of_mem _ hmt)).1, hct, nt, hdt⟩
        refine wpAny_letOwnedTupleGo_listiter hst₂.1 ?_
        refine assign_Tuple_tuple hh ht rfl rfl fun h₅ he => ?_
        have he' : ∀ b o, h₂.get? b = some o → h₅.get? b = some o := fun b o e => he b o (Nat.ne_of_lt (Heap.lt_size e)) e
        have kk : (((compEnvC scope cl C env).scope.kind == ScopeKind.class) || ((compEnvC scope cl C env).scope.kind == ScopeKind.module && (compEnvC scope cl C env).locals != (compEnvC scope cl C env).globals)) = false := by simp [compEnvC, relabel, hkind]
        refine assignInOrder_cons (wpAny_assign_Name (wpAny_storeName_local (lookup_relabel_local hx₁) ((hn'.at' fun o e => hk₂ _ o (by simpa using Ne.symm hIC) e).at' fun o e => he' _ o e) (fun h₆ hn₆ hs₆ => ?_) kk))
        refine assignInOrder_cons (wpAny_assign_Name (wpAny_storeName_local (lookup_relabel_local hx₂) hn₆ (fun h₇ hn₇ hs₇ => ?_) kk))
        refine assignInOrder_cons (wpAny_assign_Name (wpAny_storeName_local (lookup_relabel_local hx₃) hn₇ (fun h₈ hn₈ hs₈ => ?_) kk))
        refine assignInOrder_cons (wpAny_assign_Name (wpAny_storeName_local (lookup_relabel_local hx₄) hn₈ (fun h₃ hn₃ hs₃ => ?_) kk))
        refine assignInOrder_nil ?_
        unfold Aft4
        have old3 : ∀ b o, b ≠ C → h₂.get? b = some o → h₃.get? b = some o := fun b o hb e => hs₃.extBut b o hb (hs₈.extBut b o hb (hs₇.extBut b o hb (hs₆.extBut b o hb (he' b o e))))
        have hst₃ : h₃.IsListIter I ax (i + 1) ∧ h₃.IsList ax vs.toArray := W.frame _ _ _ hst₂ fun b hb o e => old3 b o (by
          rcases List.mem_cons.mp hb with rfl | hb
          · exact hIC
          · rw [List.mem_singleton.mp hb]; exact (below ax (hI ▸ hlt)).1) e
        obtain ⟨oI, heI, _⟩ := id hst₃.1
        obtain ⟨oC, heC, hoC⟩ := ns_obj hn₃
        have F₃ : Fr h₀ L h₃ m := (((((fr_but F' hk₂ hIL hI₀).keeps he').change hs₆ hCL hC₀).change hs₇ hCL hC₀).change hs₈ hCL hC₀).change hs₃ hCL hC₀
        have N₃ : News h₀ L h₃ ((I, oI) :: (C, oC) :: (D, lst ys) :: nx) := fun p hp => by
          rcases List.mem_cons.mp hp with rfl | hp
          · exact ⟨heI, Ne.symm hIL, hI₀⟩
          · rcases List.mem_cons.mp hp with rfl | hp
            · exact ⟨heC, hCL, hC₀⟩
            · have z := N₂ p hp
              refine ⟨old3 _ _ ?_ z.1, z.2⟩
              rcases List.mem_cons.mp hp with rfl | hp
              · exact hDC
              · exact (off3 p hp).2.1
        obtain ⟨d12, d13, d14, d23, d24, d34⟩ := hd
        refine wpAny_mono (R'' I oI C oC D _ h₃ _ _ hoC (by simp [d12, d13, d14]) (by simp [d23, d24]) (by simp [d34]) (by simp) F₃ N₃ off' ⟨hIC, hID, Ne.symm hDC⟩) (fun ok s₄ h₄ => ?_) fun _ _ e => e
        have back : ∀ ys' s₅, ys'.length ≤ i + 1 → (∃ h₅ tk₅ nx₅, s₅ = { s₁ with heap := h₅, toks := tk₅ } ∧ Fr h₀ L h₅ m ∧ News h₀ L h₅ ((I, oI) :: (C, oC) :: (D, lst ys') :: nx₅) ∧ Off3 I C D nx₅ ∧ (ax, listOf vs.toArray nn) ∈ nx₅ ∧ J (i + 1) ys' nx₅) →
            ∃ k', k' < vs.length + 1 - i ∧ BlkI h₀ L m s₁ I C D ax vs nn J k' s₅ := by
          rintro ys' s₅ hlen ⟨h₅, tk₅, nx₅, rfl, F₅, N₅, off₅, hl₅, hJ₅⟩
          have zI := (N₅ (I, oI) List.mem_cons_self).1
          have zC := (N₅ (C, oC) (List.mem_cons_of_mem _ List.mem_cons_self)).1
          have zA := (N₅ _ (List.mem_cons_of_mem _ (List.mem_cons_of_mem _ (List.mem_cons_of_mem _ hl₅)))).1
          refine ⟨vs.length + 1 - (i + 1), by lia, h₅, tk₅, i + 1, ys', _, nx₅, rfl, hlt', rfl, hlen, ?_, F₅, hoC.ns zC, fun p hp => N₅ p (List.mem_cons_of_mem _ (List.mem_cons_of_mem _ hp)), off₅, hl₅, hJ₅⟩
          obtain ⟨⟨o1, e1, r1⟩, _⟩ := hst₃
          rw [heI] at e1
          cases e1
          exact ⟨⟨_, zI, r1⟩, ⟨_, zA, rfl, nn, rfl⟩⟩
        cases ok with
        | false =>
          obtain ⟨h₅, tk₅, nx₅, rfl, F₅, N₅, off₅, hl₅, hJ₅⟩ := h₄
          exact back ys _ (Nat.le_succ_of_le hyl) ⟨h₅, tk₅, nx₅, rfl, F₅, N₅, off₅, hl₅, hJ₅⟩
        | true =>
          refine wpAny_mono h₄ (fun y s₅ h₅ => ?_) fun _ _ e => e
          obtain ⟨h₅, tk₅, nx₅, rfl, F₅, N₅, off₅, hl₅, hJ₅⟩ := h₅
          have zD := (N₅ (D, lst ys) (List.mem_cons_of_mem _ (List.mem_cons_of_mem _ List.mem_cons_self))).1
          refine append_at (hsz := by show ys.toArray.size ≤ sizeLine; rw [List.size_toArray]; exact Nat.le_trans hyl (Nat.le_trans hi hsz)) zD fun h₆ hs₆ hD₆ => ?_
          refine back (ys ++ [y]) _ (by rw [List.length_append, List.length_singleton]; lia) ⟨h₆, tk₅, nx₅, rfl, F₅.change hs₆ hDL hD₀, fun p hp => ?_, off₅, hl₅, hJ₅⟩
          have z : p ≠ (D, lst (ys ++ [y])) → p ∈ (I, oI) :: (C, oC) :: nx₅ := fun hne => by
            rcases List.mem_cons.mp hp with rfl | hp
            · exact List.mem_cons_self
            · rcases List.mem_cons.mp hp with rfl | hp
              · exact List.mem_cons_of_mem _ List.mem_cons_self
              · rcases List.mem_cons.mp hp with rfl | hp
                · exact absurd rfl hne
                · exact List.mem_cons_of_mem _ (List.mem_cons_of_mem _ hp)
          by_cases hpe : p = (D, lst (ys ++ [y]))
          · subst hpe
            exact ⟨hD₆.trans (congrArg some (lst_snoc ys y)), hDL, hD₀⟩
          · have hp' := z hpe
            have pD : p.1 ≠ D := by
              rcases List.mem_cons.mp hp' with rfl | hp'
              · exact hID
              · rcases List.mem_cons.mp hp' with rfl | hp'
                · exact Ne.symm hDC
                · exact (off₅.mem p hp').2.2
            have q : p ∈ (I, oI) :: (C, oC) :: (D, lst ys) :: nx₅ := by
              rcases List.mem_cons.mp hp' with rfl | hp'
              · exact List.mem_cons_self
              · rcases List.mem_cons.mp hp' with rfl | hp'
                · exact List.mem_cons_of_mem _ List.mem_cons_self
                · exact List.mem_cons_of_mem _ (List.mem_cons_of_mem _ (List.mem_cons_of_mem _ hp'))
            exact ⟨hs₆.extBut _ _ pD (N₅ p q).1, (N₅ p q).2⟩
      · obtain rfl : i = vs.length := Nat.le_antisymm hi (Nat.not_lt.mp hlt')
        have hst'' : (h'.IsListIter I ax vs.toArray.size ∧ h'.IsList ax vs.toArray) := by rw [List.size_toArray]; exact hst'
        refine W.done _ _ _ hst'' fun h₂ tk₂ hk₂ => ?_
        have off3 := off'.mem
        exact hRR _ _ h₂ tk₂ _ ys nx (fr_but F' hk₂ hIL hI₀) (news_but N' hk₂ fun p hp => by
          rcases List.mem_cons.mp hp with rfl | hp
          · exact Ne.symm hID
          · exact (off3 p hp).1) off'.one (hn'.at' fun o e => hk₂ _ o (by simpa using Ne.symm hIC) e) hC₀ hD₀ hCL hDL (Ne.symm hDC) (fun p hp => (off3 p hp).2.1) hJ
    · rcases List.mem_cons.mp hp with rfl | hp
      · exact ⟨hacc, hDL, hD₀⟩
      · exact ⟨old _ _ (N p hp).1, (N p hp).2⟩
  exact codeAny_compStart_list (loop _ ⟨_, rfl⟩) (W.self 0 _ _ _ hst₁ (loop _ ⟨_, rfl⟩))

theorem ListComp_4 {elt iter : Expr} {x₁ x₂ x₃ x₄ : Str} {p₁ p₂ p₃ p₄ tp : Pos} {tkn : Nat} {ifs : List Expr} {scope : Scope} {cl : List (Str × Addr)} {pos : Pos} {Q : Value → Shared → Prop} (_F₀ : Fr h₀ L s.heap m)
    (hclos : closureFor scope env = pure cl) (hcell : ∀ y ∈ scope.names, y.2 ≠ .cell) (hkind : scope.kind = .function)
    (hnames : ∀ y ∈ scope.names, y.2 = .local → scope.names.lookup y.1 = some .local)
    (hx₁ : scope.names.lookup x₁ = some .local) (hx₂ : scope.names.lookup x₂ = some .local) (hx₃ : scope.names.lookup x₃ = some .local) (hx₄ : scope.names.lookup x₄ = some .local)
    (hd : x₁ ≠ x₂ ∧ x₁ ≠ x₃ ∧ x₁ ≠ x₄ ∧ x₂ ≠ x₃ ∧ x₂ ≠ x₄ ∧ x₃ ≠ x₄)
    (h : wpAny (model prog w) A (eval iter env) (Src4 prog w A h₀ L m env elt x₁ x₂ x₃ x₄ ifs scope cl (fun s₁ ys nx => ∀ D h tk, Fr h₀ L h m → News h₀ L h ((D, lst ys) :: nx) → Off1 D nx → Q (.ref D) { s₁ with heap := h, toks := tk })) E s)
    (hs : ∀ x, foldedSetIterable iter env x = pure x := by intro _; rfl) :
    wpAny (model prog w) A (eval (.ListComp elt [⟨.Tuple [.Name x₁ p₁, .Name x₂ p₂, .Name x₃ p₃, .Name x₄ p₄] tkn tp, iter, ifs, 0⟩] scope pos) env) Q E s := by
  rw [eval_ListComp]
  refine wpAny_comprehension_free (use := none) rfl hs hclos hkind hnames (wpAny_mono h (fun xv s₁ h₁ => ?_) fun _ _ e => e)
  obtain ⟨ax, vs, nn, news, J, rfl, hh, F, N, hl, hsz, hj, turn, fin⟩ := h₁
  refine block4 hsz hcell hkind hx₁ hx₂ hx₃ hx₄ hd hh F N hl hj turn ?_
  intro D C h tk m' ys nx F' N' o1 hn hC₀ hD₀ hCL hDL hCD offC hJ
  refine ⟨m', hn, fun h'' hs'' => fin ys nx hJ D h'' tk (F'.change hs'' hCL hC₀) (fun p hp => ?_) o1⟩
  refine ⟨hs''.extBut _ _ ?_ (N' p hp).1, (N' p hp).2⟩
  rcases List.mem_cons.mp hp with rfl | hp
  · exact Ne.symm hCD
  · exact offC p hp

theorem Assign_ListComp_4 {elt iter : Expr} {y x₁ x₂ x₃ x₄ : Str} {py p₁ p₂ p₃ p₄ tp : Pos} {tkn : Nat} {ifs : List Expr} {scope : Scope} {cl : List (Str × Addr)} {pos spos : Pos} {Q : Flow → Shared → Prop} (_F₀ : Fr h₀ L s.heap m) (hLe : env.locals = L)
    (hsw : swapsWith (.ListComp elt [⟨.Tuple [.Name x₁ p₁, .Name x₂ p₂, .Name x₃ p₃, .Name x₄ p₄] tkn tp, iter, ifs, 0⟩] scope pos) (some (.Name y py)) spos.line env = pure true)
    (hclos : closureFor scope env = pure cl) (hcell : ∀ z ∈ scope.names, z.2 ≠ .cell) (hkind : scope.kind = .function)
    (hnames : ∀ z ∈ scope.names, z.2 = .local → scope.names.lookup z.1 = some .local)
    (hx₁ : scope.names.lookup x₁ = some .local) (hx₂ : scope.names.lookup x₂ = some .local) (hx₃ : scope.names.lookup x₃ = some .local) (hx₄ : scope.names.lookup x₄ = some .local)
    (hd : x₁ ≠ x₂ ∧ x₁ ≠ x₃ ∧ x₁ ≠ x₄ ∧ x₂ ≠ x₃ ∧ x₂ ≠ x₄ ∧ x₃ ≠ x₄)
    (hy : env.kindOf y = some .local) (hp : (env.scope.kind == .class || (env.scope.kind == .module && env.locals != env.globals)) = false)
    (h : wpAny (model prog w) A (eval iter env) (Src4 prog w A h₀ L m env elt x₁ x₂ x₃ x₄ ifs scope cl (fun s₁ ys nx => ∀ D h tk, Fr h₀ L h (fun z => if z = y then some (.ref D) else m z) → News h₀ L h ((D, lst ys) :: nx) → Off1 D nx → Q .next { s₁ with heap := h, toks := tk })) E s)
    (hs : ∀ x, foldedSetIterable iter env x = pure x := by intro _; rfl) :
    wpAny (model prog w) A (exec (.Assign [.Name y py] (.ListComp elt [⟨.Tuple [.Name x₁ p₁, .Name x₂ p₂, .Name x₃ p₃, .Name x₄ p₄] tkn tp, iter, ifs, 0⟩] scope pos) spos) env) Q E s := by
  subst hLe
  rw [exec_Assign_Name_used _ _ _ _ hsw]
  refine wpAny_bind (wpAny_standAt (wpAny_bind ?_))
  show wpAny _ A (do let _ ← comprehension (.ListComp elt [⟨.Tuple [.Name x₁ p₁, .Name x₂ p₂, .Name x₃ p₃, .Name x₄ p₄] tkn tp, iter, ifs, 0⟩] scope pos) scope env _ (newList []) false (eval iter env) (some (assign (.Name y py) env))) _ _ s
  refine wpAny_bind (wpAny_mono (wpAny_comprehension_free (use := some (assign (.Name y py) env)) (Q := fun _ s' => Q .next s') rfl hs hclos hkind hnames
    (wpAny_mono h (fun xv s₁ h₁ => ?_) fun _ _ e => e)) (fun _ s' hq => wpAny_pure (wpAny_pure hq)) fun _ _ e => e)
  obtain ⟨ax, vs, nn, news, J, rfl, hh, F, N, hl, hsz, hj, turn, fin⟩ := h₁
  refine block4 hsz hcell hkind hx₁ hx₂ hx₃ hx₄ hd hh F N hl hj turn ?_
  intro D C h' tk m' ys nx F' N' o1 hn hC₀ hD₀ hCL hDL hCD offC hJ
  show wpAny _ A (assign (.Name y py) env (.ref D)) _ _ _
  refine wpAny_assign_Name (wpAny_storeName_local hy F'.ns (fun h₂ hn₂ hs₂ => ?_) hp)
  have hL₀ : h₀.get? env.locals = none := Heap.get?_none_of_le F'.above
  have F₂ : Fr h₀ env.locals h₂ (fun z => if z = y then some (.ref D) else m z) := ⟨hn₂, fun b o e => hs₂.extBut b o (fun q => by rw [q, hL₀] at e; cases e) (F'.keep b o e), F'.above⟩
  refine ⟨m', hn.sameBut hs₂ hCL, fun h'' hs'' => fin ys nx hJ D h'' _ (F₂.change hs'' hCL hC₀) (fun p hp => ?_) o1⟩
  have z : h₂.get? p.1 = some p.2 := hs₂.extBut _ _ (N' p hp).2.1 (N' p hp).1
  refine ⟨hs''.extBut _ _ ?_ z, (N' p hp).2⟩
  rcases List.mem_cons.mp hp with rfl | hp
  · exact Ne.symm hCD
  · exact offC p hp
end
end Mine
namespace Mine
open PySem PySem.Spec PySem.Calls PyProof.Rows PyProof.Rows.LCg
section
variable {prog : Program} {w : World} {A : Around} {E : Value → Shared → Prop} {s : Shared} {h₀ : Heap} {L : Addr} {m : Str → Option Value} {env : Env}
theorem compRest_J {elt : Expr} {x : Str} {scope : Scope} {cl : List (Str × Addr)} {S : List (Addr × Obj) → Prop} {vs : List Value} {Fin : List Value → List (Addr × Obj) → Prop} (J : Nat → List Value → List (Addr × Obj) → Prop)
    (turn : ∀ (i : Nat) (v : Value) (ys : List Value) (nx : List (Addr × Obj)) I oI C oC D m₂ h tk (E' : Value → Shared → Prop), vs[i]? = some v → J i ys nx → S nx → NsObj oC m₂ → m₂ x = some v → Fr h₀ L h m → News h₀ L h ((I, oI) :: (C, oC) :: (D, lst ys) :: nx) → Off3 I C D nx → ((@Ne Nat I C) ∧ (@Ne Nat I D) ∧ (@Ne Nat C D)) →
      wpAny (model prog w) A (eval elt (compEnvC scope cl C env)) (CompEnd h₀ L m { s with heap := h, toks := tk } I oI C oC D (lst ys) S fun y nx' => J (i + 1) (ys ++ [y]) nx') E' { s with heap := h, toks := tk })
    (fin : ∀ ys nx, J vs.length ys nx → Fin ys nx) : ∀ k i ys nx, k + i = vs.length → J i ys nx → S nx → CompRest prog w A h₀ L m env elt x scope cl s S (fun i v => vs.toArray[i]? = some v) Fin k i ys nx := by
  intro k
  induction k with
  | zero =>
    intro i ys nx hk hJ _
    obtain rfl : i = vs.length := by lia
    exact CompRest.zero (fin ys nx hJ)
  | succ k ih =>
    intro i ys nx hk hJ hS
    refine CompRest.succ fun v I oI C oC D m₂ h tk E' hP hN hx F N off ne => ?_
    refine wpAny_mono (turn i v ys nx I oI C oC D m₂ h tk E' (by simpa using hP) hJ hS hN hx F N off ne) (fun y s' hy => ?_) fun _ _ e => e
    obtain ⟨h', tk', nx', e, F', N', off', hS', hJ'⟩ := hy
    exact ⟨h', tk', nx', e, F', N', off', hS', ih (i + 1) _ nx' (by lia) hJ' hS'⟩
theorem src_led {elt : Expr} {x : Str} {scope : Scope} {cl : List (Str × Addr)} {Fin : Shared → List Value → List (Addr × Obj) → Prop} {ax : Addr} {vs : List Value} {nn : Nat} {news : List (Addr × Obj)} {s₁ : Shared} (J : Nat → List Value → List (Addr × Obj) → Prop)
    (hh : A.handled = none) (F : Fr h₀ L s₁.heap m) (N : News h₀ L s₁.heap news) (hm : (ax, PySem.W.listOf vs.toArray nn) ∈ news) (hsz : vs.length ≤ sizeLine) (hj : J 0 [] news)
    (turn : ∀ (i : Nat) (v : Value) (ys : List Value) (nx : List (Addr × Obj)) I oI C oC D m₂ h tk (E' : Value → Shared → Prop), vs[i]? = some v → J i ys nx → SrcAt h₀ ax vs.toArray nx → NsObj oC m₂ → m₂ x = some v → Fr h₀ L h m → News h₀ L h ((I, oI) :: (C, oC) :: (D, lst ys) :: nx) → Off3 I C D nx → ((@Ne Nat I C) ∧ (@Ne Nat I D) ∧ (@Ne Nat C D)) →
      wpAny (model prog w) A (eval elt (compEnvC scope cl C env)) (CompEnd h₀ L m { s₁ with heap := h, toks := tk } I oI C oC D (lst ys) (SrcAt h₀ ax vs.toArray) fun y nx' => J (i + 1) (ys ++ [y]) nx') E' { s₁ with heap := h, toks := tk })
    (fin : ∀ g ys nx, J vs.length ys nx → Fin { s₁ with heap := g } ys nx) : CompSrc prog w A h₀ L m env elt x scope cl Fin (.ref ax) s₁ := by
  refine CompSrc.ledger hh F N hm (by rw [List.size_toArray]; exact hsz) fun g => ?_
  rw [List.size_toArray]
  exact compRest_J (s := { s₁ with heap := g }) J (fun i v ys nx I oI C oC D m₂ h tk E' a b c d e f g' h' i' => turn i v ys nx I oI C oC D m₂ h tk E' a b c d e f g' h' i') (fun ys nx hJ => fin g ys nx hJ) vs.length 0 [] news (by lia) hj (.inr ⟨_, hm, rfl, _, rfl⟩)
end
end Mine

namespace Mine
open PySem PySem.Spec PySem.Calls PyProof.Rows PyProof.Rows.LCg PySem.W
theorem pr_open {nw : Led} {v : Value} {q : Pr} (h : DatIn nw v (prD q)) : ∃ (a : Addr) (t1 t2 : Tok) (n : Nat), v = .ref a ∧ (a, ({ cls := .type "tuple", data := .seq #[.int q.1 t1, .int q.2 t2] n } : Obj)) ∈ nw := by
  obtain ⟨a, vs, n, e, hm, r⟩ := dat_tup h
  obtain ⟨t1, us1, e1, r1⟩ := dat_int1 r
  obtain ⟨t2, us2, e2, r2⟩ := dat_int1 r1
  rw [e1, e2, dat_nil r2] at hm
  exact ⟨a, t1, t2, n, e, hm⟩
section
variable {prog : Program} {w : World} {A : Around} {E : Value → Shared → Prop} {s : Shared} {h₀ : Heap} {L : Addr} {m : Str → Option Value} {env : Env}
theorem compRestT_J {ct elt : Expr} {x : Str} {scope : Scope} {cl : List (Str × Addr)} {S : List (Addr × Obj) → Prop} {vs : List Value} {Fin : List Value → List (Addr × Obj) → Prop} (J : Nat → List Value → List (Addr × Obj) → Prop)
    (turn : ∀ (i : Nat) (v : Value) (ys : List Value) (nx : List (Addr × Obj)) I oI C oC D m₂ h tk (E' : Value → Shared → Prop), vs[i]? = some v → J i ys nx → S nx → NsObj oC m₂ → m₂ x = some v → Fr h₀ L h m → News h₀ L h ((I, oI) :: (C, oC) :: (D, lst ys) :: nx) → Off3 I C D nx → ((@Ne Nat I C) ∧ (@Ne Nat I D) ∧ (@Ne Nat C D)) →
      wpAny (model prog w) A (isTrue ct (compEnvC scope cl C env) (eval ct (compEnvC scope cl C env))) (fun ok s' => if ok = true then
        wpAny (model prog w) A (eval elt (compEnvC scope cl C env)) (CompEnd h₀ L m { s with heap := h, toks := tk } I oI C oC D (lst ys) S fun y nx' => J (i + 1) (ys ++ [y]) nx') E' s'
        else CompEnd h₀ L m { s with heap := h, toks := tk } I oI C oC D (lst ys) S (fun _ nx' => J (i + 1) ys nx') Value.none s') E' { s with heap := h, toks := tk })
    (fin : ∀ ys nx, J vs.length ys nx → Fin ys nx) : ∀ k i ys nx, k + i = vs.length → J i ys nx → S nx → LCt.CompRestT prog w A h₀ L m env ct elt x scope cl s S (fun i v => vs.toArray[i]? = some v) Fin k i ys nx := by
  intro k
  induction k with
  | zero =>
    intro i ys nx hk hJ _
    obtain rfl : i = vs.length := by lia
    exact LCt.CompRestT.zero (fin ys nx hJ)
  | succ k ih =>
    intro i ys nx hk hJ hS
    refine LCt.CompRestT.succ fun v I oI C oC D m₂ h tk E' hP hN hx F N off ne => ?_
    refine wpAny_mono (turn i v ys nx I oI C oC D m₂ h tk E' (by simpa using hP) hJ hS hN hx F N off ne) (fun ok s' hy => ?_) fun _ _ e => e
    cases ok with
    | true =>
      refine wpAny_mono hy (fun y s'' hz => ?_) fun _ _ e => e
      obtain ⟨h', tk', nx', e, F', N', off', hS', hJ'⟩ := hz
      exact ⟨h', tk', nx', e, F', N', off', hS', ih (i + 1) _ nx' (by lia) hJ' hS'⟩
    | false =>
      obtain ⟨h', tk', nx', e, F', N', off', hS', hJ'⟩ := hy
      exact ⟨h', tk', nx', e, F', N', off', hS', ih (i + 1) _ nx' (by lia) hJ' hS'⟩

/-- a state of this shape, with a fact -/
noncomputable def FiltEnd (h₀ : Heap) (L : Addr) (m : Str → Option Value) (s₁ : Shared) (led : Led) (b : Prop) (s' : Shared) : Prop := b ∧ ∃ h' tk', s' = { s₁ with heap := h', toks := tk' } ∧ Fr h₀ L h' m ∧ News h₀ L h' led
theorem FiltEnd.intro {s₁ : Shared} {led : Led} {b : Prop} {h' : Heap} {tk' : Nat} (hb : b) (F : Fr h₀ L h' m) (N : News h₀ L h' led) : FiltEnd h₀ L m s₁ led b { s₁ with heap := h', toks := tk' } := ⟨hb, _, _, rfl, F, N⟩

theorem filt_led {ct elt : Expr} {x : Str} {scope : Scope} {cl : List (Str × Addr)} {Fin : Shared → List Value → List (Addr × Obj) → Prop} {ax : Addr} {vs : List Value} {nn : Nat} {nw news : Led} {s₁ : Shared} {ps : List Pr} (f : Pr → Bool)
    (hh : A.handled = none) (F : Fr h₀ L s₁.heap m) (N : News h₀ L s₁.heap news) (hs : ∀ p ∈ nw, p ∈ news) (hm : (ax, PySem.W.listOf vs.toArray nn) ∈ nw) (hD : DatAll nw vs (ps.map prD)) (hsz : ps.length ≤ 1000)
    (turn : ∀ (q : Pr) (qa : Addr) (t1 t2 : Tok) (n : Nat) (ys : List Value) I oI C oC D m₂ h tk (E' : Value → Shared → Prop), (qa, ({ cls := .type "tuple", data := .seq #[.int q.1 t1, .int q.2 t2] n } : Obj)) ∈ news → NsObj oC m₂ → m₂ x = some (.ref qa) → Fr h₀ L h m → News h₀ L h ((I, oI) :: (C, oC) :: (D, lst ys) :: news) → Off3 I C D news → ((@Ne Nat I C) ∧ (@Ne Nat I D) ∧ (@Ne Nat C D)) →
      wpAny (model prog w) A (isTrue ct (compEnvC scope cl C env) (eval ct (compEnvC scope cl C env))) (fun ok s' => if ok = true then
        wpAny (model prog w) A (eval elt (compEnvC scope cl C env)) (fun y => FiltEnd h₀ L m { s₁ with heap := h, toks := tk } ((I, oI) :: (C, oC) :: (D, lst ys) :: news) (f q = true ∧ y = .ref qa)) E' s'
        else FiltEnd h₀ L m { s₁ with heap := h, toks := tk } ((I, oI) :: (C, oC) :: (D, lst ys) :: news) (f q = false) s') E' { s₁ with heap := h, toks := tk })
    (fin : ∀ g ys, DatAll nw ys ((ps.filter f).map prD) → Fin { s₁ with heap := g } ys news) : LCt.CompSrcT prog w A h₀ L m env ct elt x scope cl Fin (.ref ax) s₁ := by
  have hl := hD.length
  rw [List.length_map] at hl
  refine LCt.CompSrcT.ledger hh F N (hs _ hm) (by rw [List.size_toArray, sizeLine_eq]; lia) fun g => ?_
  rw [List.size_toArray]
  refine compRestT_J (s := { s₁ with heap := g }) (fun c ys nx => nx = news ∧ DatAll nw ys (((ps.take c).filter f).map prD)) ?_ ?_ vs.length 0 [] news (by lia) ⟨rfl, by simpa using DatAll.nil⟩ (.inr ⟨_, hs _ hm, rfl, _, rfl⟩)
  · rintro i v ys nx I oI C oC D m₂ h tk E' hv ⟨rfl, hJ⟩ hS hC hx F' N' off ne
    obtain ⟨d, hdd, hdv⟩ := datGet hD hv
    rw [List.getElem?_map] at hdd
    cases hq : ps[i]? with
    | none => rw [hq] at hdd; cases hdd
    | some q =>
      rw [hq] at hdd
      cases hdd
      obtain ⟨qa, qt1, qt2, qn, rfl, mqa⟩ := pr_open hdv
      refine wpAny_mono (turn q qa qt1 qt2 qn ys I oI C oC D m₂ h tk E' (hs _ mqa) hC hx F' N' off ne) (fun ok s' hy => ?_) fun _ _ e => e
      have ht : (ps.take (i + 1)).filter f = (ps.take i).filter f ++ (if f q = true then [q] else []) := by
        rw [List.take_add_one, hq, List.filter_append]
        cases hf : f q <;> simp [hf]
      cases ok with
      | true =>
        rw [if_pos rfl] at hy ⊢
        refine wpAny_mono hy (fun y s'' hz => ?_) fun _ _ e => e
        obtain ⟨⟨hf, rfl⟩, h', tk', rfl, F'', N''⟩ := hz
        refine ⟨h', tk', _, rfl, F'', N'', off, hS, rfl, ?_⟩
        rw [ht, if_pos hf, List.map_append]
        exact hJ.append (.one hdv)
      | false =>
        rw [if_neg (by decide)] at hy ⊢
        obtain ⟨hf, h', tk', rfl, F'', N''⟩ := hy
        refine ⟨h', tk', _, rfl, F'', N'', off, hS, rfl, ?_⟩
        rw [ht, hf, if_neg (by decide), List.append_nil]
        exact hJ
  · rintro ys nx ⟨rfl, hJ⟩
    refine fin g ys ?_
    rw [hl, List.take_length] at hJ
    exact hJ
end
end Mine

namespace Mine
open PySem PySem.Spec PySem.Calls PyProof.Rows PyProof.Rows.LCg PySem.W
section
variable {prog : Program} {w : World} {A : Around} {E : Value → Shared → Prop} {s : Shared} {h₀ : Heap} {L : Addr} {m : Str → Option Value} {env : Env}
noncomputable def PickEnd (h₀ : Heap) (L : Addr) (m : Str → Option Value) (s₁ : Shared) (led : Led) (b : Prop) (q : Qd) (y : Value) (s' : Shared) : Prop :=
  b ∧ ∃ (a : Addr) (u1 u2 : Tok) (n : Nat) (h' : Heap) (tk' : Nat), y = .ref a ∧ s' = { s₁ with heap := h', toks := tk' } ∧ Fr h₀ L h' m ∧ News h₀ L h' ((a, ({ cls := .type "tuple", data := .seq #[.int q.1 u1, .int q.2.1 u2] n } : Obj)) :: led) ∧ AllLt a led
theorem PickEnd.intro {s₁ : Shared} {led : Led} {b : Prop} {q : Qd} {a : Addr} {u1 u2 : Tok} {n : Nat} {h' : Heap} {tk' : Nat} (hb : b) (F : Fr h₀ L h' m) (N : News h₀ L h' ((a, ({ cls := .type "tuple", data := .seq #[.int q.1 u1, .int q.2.1 u2] n } : Obj)) :: led)) (l : AllLt a led) :
    PickEnd h₀ L m s₁ led b q (.ref a) { s₁ with heap := h', toks := tk' } := ⟨hb, a, u1, u2, n, h', tk', rfl, rfl, F, N, l⟩

theorem pick4 {elt : Expr} {x₁ x₂ x₃ x₄ : Str} {ifs : List Expr} {scope : Scope} {cl : List (Str × Addr)} {Fin : Shared → List Value → List (Addr × Obj) → Prop} {ax : Addr} {vs : List Value} {nn : Nat} {nw news : Led} {s₁ : Shared} {qs : List Qd} (f : Qd → Bool)
    (hh : A.handled = none) (F : Fr h₀ L s₁.heap m) (N : News h₀ L s₁.heap news) (hs : ∀ p ∈ nw, p ∈ news) (hm : (ax, PySem.W.listOf vs.toArray nn) ∈ nw) (hD : DatAll nw vs (qs.map qdD)) (hsz : qs.length ≤ 1000)
    (turn : ∀ (q : Qd) (t1 t2 t3 t4 : Tok) (tl : Led) (ys : List Value) I oI C oC D m₂ h tk (E' : Value → Shared → Prop), NsObj oC m₂ → m₂ x₁ = some (.int q.1 t1) → m₂ x₂ = some (.int q.2.1 t2) → m₂ x₃ = some (.int q.2.2.1 t3) → m₂ x₄ = some (.int q.2.2.2 t4) → Fr h₀ L h m → News h₀ L h ((I, oI) :: (C, oC) :: (D, lst ys) :: (tl ++ news)) → Off3 I C D (tl ++ news) → ((@Ne Nat I C) ∧ (@Ne Nat I D) ∧ (@Ne Nat C D)) →
      wpAny (model prog w) A (tests4 ifs (compEnvC scope cl C env)) (fun ok s' => if ok = true then
        wpAny (model prog w) A (eval elt (compEnvC scope cl C env)) (PickEnd h₀ L m { s₁ with heap := h, toks := tk } ((I, oI) :: (C, oC) :: (D, lst ys) :: (tl ++ news)) (f q = true) q) E' s'
        else FiltEnd h₀ L m { s₁ with heap := h, toks := tk } ((I, oI) :: (C, oC) :: (D, lst ys) :: (tl ++ news)) (f q = false) s') E' { s₁ with heap := h, toks := tk })
    (fin : ∀ ys tl, DatAll tl ys (((qs.filter f).map slim).map prD) → Fresh news tl → Fin s₁ ys (tl ++ news)) : Src4 prog w A h₀ L m env elt x₁ x₂ x₃ x₄ ifs scope cl Fin (.ref ax) s₁ := by
  have hl := hD.length
  rw [List.length_map] at hl
  refine ⟨ax, vs, nn, news, fun c yv nx => ∃ tu, nx = tu ++ news ∧ DatAll tu yv ((((qs.take c).filter f).map slim).map prD) ∧ Fresh news tu, rfl, hh, F, N, hs _ hm, by rw [sizeLine_eq]; lia, ⟨[], rfl, by simpa using DatAll.nil, .nil⟩, ?_, ?_⟩
  · rintro c v yv nx hv ⟨tu, rfl, hdat, hfu⟩ hax
    obtain ⟨d, hd, hdv⟩ := datGet hD hv
    rw [List.getElem?_map] at hd
    cases hq : qs[c]? with
    | none => rw [hq] at hd; cases hd
    | some q =>
      rw [hq] at hd
      cases hd
      obtain ⟨qa, qt1, qt2, qt3, qt4, qnn, rfl, mqa⟩ := qd_open hdv
      refine ⟨qa, _, _, _, _, _, _, rfl, own_app _ (hs _ mqa), rfl, rfl, ?_⟩
      intro I oI C oC D m₃ h₃ tk₃ E' hC hx1 hx2 hx3 hx4 F2 N2 off ne
      refine wpAny_mono (turn q qt1 qt2 qt3 qt4 tu yv I oI C oC D m₃ h₃ tk₃ E' hC hx1 hx2 hx3 hx4 F2 N2 off ne) (fun ok s' hy => ?_) fun _ _ e => e
      have ht : (qs.take (c + 1)).filter f = (qs.take c).filter f ++ (if f q = true then [q] else []) := by
        rw [List.take_add_one, hq, List.filter_append]
        cases hf : f q <;> simp [hf]
      cases ok with
      | true =>
        rw [if_pos rfl] at hy ⊢
        refine wpAny_mono hy (fun y s'' hz => ?_) fun _ _ e => e
        obtain ⟨hf, a, u1, u2, n, h', tk', rfl, rfl, F3, N3, l9a, l9b, l9c, l9d⟩ := hz
        obtain ⟨l9e, l9f⟩ := allLt_app l9d
        refine End4.intro F3 N3 (_ :: (tu ++ news)) comp_sub ⟨⟨Nat.ne_of_gt l9a, Nat.ne_of_gt l9b, Nat.ne_of_gt l9c⟩, off⟩ ⟨.tail _ (own_app _ (hs _ hm)), _ :: tu, rfl, ?_, hfu.cons (lt_ne l9f)⟩
        rw [ht, if_pos hf, List.map_append, List.map_append]
        exact (hdat.mono fun p hp => .tail _ hp).append (.one (datPr (.head _)))
      | false =>
        rw [if_neg (by decide)] at hy ⊢
        obtain ⟨hf, h', tk', rfl, F3, N3⟩ := hy
        refine End4.intro F3 N3 (tu ++ news) (fun _ h => h) off ⟨own_app _ (hs _ hm), tu, rfl, ?_, hfu⟩
        rw [ht, hf, if_neg (by decide), List.append_nil]
        exact hdat
  · rintro yv nx ⟨tu, rfl, hdat, hfu⟩
    rw [hl, List.take_length] at hdat
    exact fin yv tu hdat hfu
end

theorem news_name {h₀ h : Heap} {L : Addr} {l : Led} (N : News h₀ L h l) : ∃ l', l' = l ∧ News h₀ L h l' := ⟨l, rfl, N⟩
theorem ints_at {us : List Value} {ns : List Int} (h : IntsAre us ns) {i : Nat} {v : Value} (e : us[i]? = some v) : ∃ k t, v = .int k t := by
  induction h generalizing i with
  | nil => cases e
  | cons n t _ ih =>
    cases i with
    | zero => cases e; exact ⟨n, t, rfl⟩
    | succ i => exact ih e
theorem ints_dat {nw : Led} {us : List Value} {ns : List Int} (h : IntsAre us ns) : DatAll nw us (ns.map Dat.int) := by
  induction h with
  | nil => exact .nil
  | cons n t _ ih => exact .cons (.int _ _) ih
section
variable {prog : Program} {w : World} {A : Around} {E : Value → Shared → Prop} {s : Shared} {h₀ : Heap} {L a b : Addr} {n₁ n₂ news : Led} {Q : Value → Shared → Prop}
theorem ne_prs {ps qs : List Pr} (N : News h₀ L s.heap news) (hu : A.units + 64 < cLine) (s1 : ∀ p ∈ n₁, p ∈ news) (s2 : ∀ p ∈ n₂, p ∈ news) (Pa : PrsIn n₁ a ps) (Pb : PrsIn n₂ b qs) (e : ps = qs) (h : Q (.bool false) s) :
    wpAny (model prog w) A (compareOp .NotEq (.ref a) (.ref b)) Q E s := by
  subst e
  obtain ⟨us, n, m1, d1⟩ := Pa
  obtain ⟨vs, n', m2, d2⟩ := Pb
  have ok : ∀ d ∈ ps.map prD, kqdOk 8 d = true := fun d hd => by
    obtain ⟨x, _, rfl⟩ := List.mem_map.mp hd
    rfl
  exact kqd_ne N (s1 _ m1) rfl rfl d1 s1 (s2 _ m2) rfl rfl d2 s2 ok ok hu (by simpa using h)
theorem ne_ints {ns ms : List Int} (N : News h₀ L s.heap news) (hu : A.units + 64 < cLine) (s1 : ∀ p ∈ n₁, p ∈ news) (s2 : ∀ p ∈ n₂, p ∈ news) (Pa : IntsIn n₁ a ns) (Pb : IntsIn n₂ b ms) (e : ns = ms) (h : Q (.bool false) s) :
    wpAny (model prog w) A (compareOp .NotEq (.ref a) (.ref b)) Q E s := by
  subst e
  obtain ⟨us, n, m1, i1⟩ := Pa
  obtain ⟨vs, n', m2, i2⟩ := Pb
  have ok : ∀ d ∈ ns.map Dat.int, kqdOk 8 d = true := fun d hd => by
    obtain ⟨x, _, rfl⟩ := List.mem_map.mp hd
    rfl
  exact kqd_ne N (s1 _ m1) rfl rfl (ints_dat (nw := n₁) i1) s1 (s2 _ m2) rfl rfl (ints_dat (nw := n₂) i2) s2 ok ok hu (by simpa using h)
end

/-- a map: its three attributes -/
inductive MapIn (P : Params) (nw : Led) (x : Addr) (tv rt sz : Value) : Prop
  | mk (dx : Addr) (n : Nat) (t₁ t₂ t₃ : Tok) (f1 : (x, instObj 255 dx) ∈ nw) (f2 : (dx, dictOf [⟨PyData.keyHash P (Str.ofString "t"), .str (Str.ofString "t") t₁, tv⟩, ⟨PyData.keyHash P (Str.ofString "root"), .str (Str.ofString "root") t₂, rt⟩, ⟨PyData.keyHash P (Str.ofString "size"), .str (Str.ofString "size") t₃, sz⟩] n) ∈ nw) : MapIn P nw x tv rt sz
theorem MapIn.mono {P : Params} {nw nw' : Led} (hs : ∀ p ∈ nw, p ∈ nw') {x : Addr} {tv rt sz : Value} (h : MapIn P nw x tv rt sz) : MapIn P nw' x tv rt sz := by
  obtain ⟨dx, n, t₁, t₂, t₃, h1, h2⟩ := h
  exact ⟨dx, n, t₁, t₂, t₃, hs _ h1, hs _ h2⟩
end Mine

namespace Mine
abbrev r0 : OpenRow := { PySem.Challenge.rw_sx_vcanopyofobjects_7.row with pre := .not (.lt (.lit (.int 0)) (.len (.arg 0))) }
set_option maxRecDepth 100000 in
theorem saidL : PySem.Challenge.rw_sx_vcanopyofobjects_7.wellSaid = true := by decide +kernel
theorem said_pre (r : OpenRow) (t : WTm) (h : r.wellSaid = true) (hs : ({ r.toRowW with pre := t } : RowW).solid = true) (hl : t.litsOk = true) : ({ r with pre := t } : OpenRow).wellSaid = true := by
  unfold OpenRow.wellSaid OpenRow.partSaid at h ⊢
  simp only [Bool.and_eq_true] at h ⊢
  obtain ⟨⟨⟨⟨⟨⟨⟨⟨⟨⟨⟨⟨⟨⟨⟨h1, h2⟩, h3⟩, h4⟩, h5⟩, h6⟩, h7⟩, h8⟩, h9⟩, h10⟩, h11⟩, h12⟩, h13⟩, h14⟩, h15⟩, h16⟩ := h
  exact ⟨⟨⟨⟨⟨⟨⟨⟨⟨⟨⟨⟨⟨⟨⟨h1, h2⟩, h3⟩, h4⟩, h5⟩, h6⟩, h7⟩, hs⟩, hl⟩, h10⟩, h11⟩, h12⟩, h13⟩, h14⟩, h15⟩, h16⟩
set_option maxRecDepth 100000 in
theorem said0 : r0.wellSaid = true := said_pre _ _ (row_said saidL) (by decide +kernel) (by decide)
theorem h0.tw9636162430350437923 : True := trivial
theorem h0.tw12060618688741047819 : True := trivial
theorem h0.tw17644042637451415569 : True := trivial
theorem h0.tw12559817606532261806 : True := trivial
theorem h0.tw10890663050331558012 : True := trivial
theorem h0.tw708699609108303529 : True := trivial
theorem h0.tw1328145561267232140 : True := trivial
theorem h0.tw17894108204605613392 : True := trivial
theorem h0.tw8178348772169755637 : True := trivial
theorem h0.tw14542117356804866864 : True := trivial
theorem h0.tw17612549788027229062 : True := trivial
theorem h0.tw6352206803697432067 : True := trivial
theorem h0.tw7732227690703949348 : True := trivial
theorem h0.tw11783800251234250412 : True := trivial
theorem h0.tw3022704754037198753 : True := trivial
theorem h0.tw13185829796889642515 : True := trivial
theorem h0.tw16212399793595145887 : True := trivial
theorem h0.tw2152123244109758300 : True := trivial
theorem h0.tw6119156069459854105 : True := trivial
theorem h0.tw15904550311919063610 : True := trivial
theorem h0.tw1734226601470752215 : True := trivial
theorem h0.tw17563155538075125883 : True := trivial
theorem h0.tw309009825020243456 : True := trivial
theorem h0.tw8359033805367166379 : True := trivial
theorem h0.tw10580115063282698534 : True := trivial
theorem h0.tw905219014857253098 : True := trivial
theorem h0.tw3921903420096232037 : True := trivial
theorem h0.tw1845744135987840802 : True := trivial
theorem h0.tw3820884695609932291 : True := trivial
theorem h0.tw12212024663201924829 : True := trivial
theorem h0.tw17020515755695874886 : True := trivial
theorem h0.tw15348358148177970164 : True := trivial
theorem h0.tw4955733730220032979 : True := trivial
theorem h0.tw2612460510383841583 : True := trivial
theorem h0.tw1238828662806013023 : True := trivial
theorem h0.tw12603569780659806318 : True := trivial
theorem h0.tw16354368192709152269 : True := trivial
theorem h0.tw13998453111060538446 : True := trivial
theorem h0.tw2381745293521861919 : True := trivial
theorem h0.tw10525995108388078686 : True := trivial
theorem h0.tw10119472602172212655 : True := trivial
theorem h0.tw3112274479899902563 : True := trivial
theorem h0.tw18341644848587327342 : True := trivial
theorem h0.tw16590870679435226228 : True := trivial
theorem h0.tw7947282165923294660 : True := trivial
theorem h0.tw11298601072899375484 : True := trivial
theorem h0.tw5668707088059778417 : True := trivial
theorem h0.tw2617617001648382052 : True := trivial
theorem h0.tw17469380542069495786 : True := trivial
theorem h0.tw11093744472524343213 : True := trivial
theorem h0.tw10039722105886331212 : True := trivial
theorem h0.tw8530318749001738232 : True := trivial
theorem h0.tw11880079704871210817 : True := trivial
theorem h0.tw2980852105064871180 : True := trivial
theorem h0.tw12716486199993907529 : True := trivial
theorem h0.tw9492828882142629918 : True := trivial
theorem h0.tw2962677157670693669 : True := trivial
theorem h0.tw10930868481771794492 : True := trivial
theorem h0.tw3352868831914529549 : True := trivial
theorem h0.tw3028020904904987531 : True := trivial
theorem h0.tw16067910495121874047 : True := trivial
theorem h0.tw16019657911929878948 : True := trivial
theorem h0.tw14437580271843073067 : True := trivial
theorem h0.tw5511373502424188203 : True := trivial
theorem h0.tw7227032913547724285 : True := trivial
theorem h0.tw14890587444832257506 : True := trivial
theorem h0.tw17798662673846769023 : True := trivial
theorem h0.tw17267586775167970483 : True := trivial
theorem h0.tw5585174963456173400 : True := trivial
theorem h0.tw4197778175967263855 : True := trivial
theorem h0.tw13174085689672465585 : True := trivial
theorem h0.tw1905285797561709967 : True := trivial
theorem h0.tw9890401828787048779 : True := trivial
theorem h0.tw15100298481008233714 : True := trivial
theorem h0.tw3391596905396101797 : True := trivial
theorem h0.tw1344623626192521210 : True := trivial
theorem h0.tw7502377700484918466 : True := trivial
theorem h0.tw6297617762009510678 : True := trivial
theorem h0.tw256485394379975661 : True := trivial
theorem h0.tw9067025432760835197 : True := trivial
theorem h0.tw13306268735910616298 : True := trivial
theorem h0.tw15501184942930984010 : True := trivial
theorem h0.tw3914410902411777622 : True := trivial
theorem h0.tw5526453943723232899 : True := trivial
theorem h0.tw10076327799927492316 : True := trivial
theorem h0.tw6424241345488092306 : True := trivial
theorem h0.tw17650389268097828633 : True := trivial
theorem h0.tw14684463680145934037 : True := trivial
theorem h0.tw8452621382147104840 : True := trivial
theorem h0.tw1702602245502786946 : True := trivial
theorem h0.tw9257273931457151013 : True := trivial
theorem h0.tw14988737796021823748 : True := trivial
theorem h0.tw2620008734136862272 : True := trivial
theorem h0.tw201636225645789219 : True := trivial
theorem h0.tw6094247076961636732 : True := trivial
theorem h0.tw465717048940477243 : True := trivial
theorem h0.tw7963456635684166951 : True := trivial
theorem h0.tw5598798885378788522 : True := trivial
theorem h0.tw16981243746944155839 : True := trivial
theorem h0.tw2540601054191465860 : True := trivial
theorem h0.tw11751182580749157501 : True := trivial
theorem h0.tw5217798318023353604 : True := trivial
theorem h0.tw13077191033295257382 : True := trivial
theorem h0.tw6723776367554735689 : True := trivial
theorem h0.tw14725554973861892178 : True := trivial
theorem h0.tw9198075654626600789 : True := trivial
theorem h0.tw13624650487294844052 : True := trivial
theorem h0.tw6944712029667455450 : True := trivial
theorem h0.tw13067032873628234245 : True := trivial
theorem h0.tw2395727450626748908 : True := trivial
theorem h0.tw6729373472634832600 : True := trivial
theorem h0.tw6049671950177758757 : True := trivial
theorem h0.tw14857240474300831897 : True := trivial
theorem h0.tw14358126514579283187 : True := trivial
theorem h0.tw5200276743111997080 : True := trivial
theorem h0.tw11548809930054366048 : True := trivial
theorem h0.tw11890164214695412072 : True := trivial
theorem h0.tw593086735438457924 : True := trivial
theorem h0.tw17159167289931748480 : True := trivial
theorem h0.tw3794273830223084892 : True := trivial
theorem h0.tw5950045311063005598 : True := trivial
theorem h0.tw8179261026223156886 : True := trivial
theorem h0.tw14506297956194944699 : True := trivial
theorem h0.tw2366935224961629442 : True := trivial
theorem h0.tw16317100390893273581 : True := trivial
theorem h0.tw10281256548511197775 : True := trivial
theorem h0.tw16474424210907479407 : True := trivial
theorem h0.tw11071046176416253267 : True := trivial
theorem h0.tw16904704665910080589 : True := trivial
theorem h0.tw14410061699392674544 : True := trivial
theorem h0.tw9289677306843623407 : True := trivial
theorem h0.tw14978068108432239910 : True := trivial
theorem h0.tw14090881560157066099 : True := trivial
theorem h0.tw15961621921749540523 : True := trivial
theorem h0.tw8987227157700081827 : True := trivial
theorem h0.tw9343939105921984331 : True := trivial
theorem h0.tw460443236203682826 : True := trivial
theorem h0.tw10892123203788353049 : True := trivial
theorem h0.tw2480271536287283598 : True := trivial
theorem h0.tw9533406109128153449 : True := trivial
theorem h0.tw8433256737139960426 : True := trivial
theorem h0.tw13328550180969373674 : True := trivial
theorem h0.tw2770762502134461607 : True := trivial
theorem h0.tw13191219111141356256 : True := trivial
theorem h0.tw4599759783317492591 : True := trivial
theorem h0.tw11139410820804778098 : True := trivial
theorem h0.tw10284619381204720380 : True := trivial
theorem h0.tw11944189544237638714 : True := trivial
theorem h0.tw4551350642886292950 : True := trivial
theorem h0.tw5037780682272510220 : True := trivial
theorem h0.tw15657344652490148328 : True := trivial
theorem h0.tw12542273519702649171 : True := trivial
theorem h0.tw540371531147120950 : True := trivial
theorem h0.tw9530369851709841175 : True := trivial
theorem h0.tw434899700373981922 : True := trivial
theorem h0.tw821131117658752424 : True := trivial
theorem h0.tw4994793263345285894 : True := trivial
theorem h0.tw17205318104488847615 : True := trivial
theorem h0.tw13177096144220635079 : True := trivial
theorem h0.tw14790534842872491299 : True := trivial
theorem h0.tw17865150398256425274 : True := trivial
theorem h0.tw4725419018234412406 : True := trivial
theorem h0.tw484497197556925362 : True := trivial
theorem h0.tw15145753427235556085 : True := trivial
theorem h0.tw8932456324082354792 : True := trivial
theorem h0.tw17727772164012788889 : True := trivial
theorem h0.tw5095109543398993034 : True := trivial
theorem h0.tw3579440117514247243 : True := trivial
theorem h0.tw12147153187168351353 : True := trivial
theorem h0.tw3922364397615804898 : True := trivial
theorem h0.tw12242694416072533575 : True := trivial
theorem h0.tw8114333337559660526 : True := trivial
theorem h0.tw6338962096104415412 : True := trivial
theorem h0.tw14988566313389725209 : True := trivial
theorem h0.tw6113771130717379868 : True := trivial
theorem h0.tw16765483113403897725 : True := trivial
theorem h0.tw14403125572704176100 : True := trivial
theorem h0.tw11027897056979390844 : True := trivial
theorem h0.tw18193496173243652561 : True := trivial
theorem h0.tw5571925363956168481 : True := trivial
theorem h0.tw17548386544411616054 : True := trivial
theorem h0.tw17080180758655679191 : True := trivial
theorem h0.tw7558379923973224192 : True := trivial
theorem h0.tw4091625341231492703 : True := trivial
theorem h0.tw4815130955182674186 : True := trivial
theorem h0.tw9579212137174275591 : True := trivial
theorem h0.tw8528402420080813730 : True := trivial
theorem h0.tw10128879752551204940 : True := trivial
theorem h0.tw11557201728913098701 : True := trivial
theorem h0.tw4600916986806250454 : True := trivial
theorem h0.tw1524268239902235216 : True := trivial
theorem h0.tw14549961491672753858 : True := trivial
theorem h0.tw17815447980298288222 : True := trivial
theorem h0.tw2291059708349509821 : True := trivial
theorem h0.tw3283794507980794194 : True := trivial
theorem h0.tw18172574551403924839 : True := trivial
theorem h0.tw3707493426992295555 : True := trivial
theorem h0.tw7480202386591885793 : True := trivial
theorem h0.tw11156156193053338651 : True := trivial
theorem h0.tw5013893581291427881 : True := trivial
theorem h0.tw6557711320453919821 : True := trivial
theorem h0.tw16120852249111291926 : True := trivial
theorem h0.tw4509868253164738065 : True := trivial
theorem h0.tw5600681607793470359 : True := trivial
theorem h0.tw1026102559349117412 : True := trivial
theorem h0.tw17983578503797544568 : True := trivial
theorem h0.tw10788250826918944707 : True := trivial
theorem h0.tw17975128789629174793 : True := trivial
theorem h0.tw7937895932737364410 : True := trivial
theorem h0.tw3504213483016479671 : True := trivial
theorem h0.tw7895532891837162810 : True := trivial
theorem h0.tw10204521627066959284 : True := trivial
theorem h0.tw11410646843959637478 : True := trivial
theorem h0.tw11368380489344339413 : True := trivial
theorem h0.tw17592142925427602674 : True := trivial
theorem h0.tw9924778399668603250 : True := trivial
theorem h0.tw4653268549698064191 : True := trivial
theorem h0.tw12976892419175772481 : True := trivial
theorem h0.tw7734630803607459070 : True := trivial
set_option maxRecDepth 100000 in
set_option maxHeartbeats 8000000 in
set_option Elab.async true in
theorem h0 : r0.Holds := by
  have said := said0
  w_on; k_head
  case hw => w_witness2
  k_go0
  all_goals (try k_fold)
  dsimp only
  repeat (first | (k_unfold; (try dsimp only)) | walk1 | (dsimp only; walk1))
  k_end; wrow_close
end Mine

namespace Mine
noncomputable abbrev H0 : Hook := kHook h0.heap_1_1 [2, 3, 15, 17, 18, 20, 21, 29, 31, 32, 34, 35, 36, 38, 39, 41, 42, 43, 45, 46, 48, 49, 50, 52, 53, 55, 56, 57, 58, 59, 60, 61, 71, 73, 74, 76, 77, 78, 80, 81, 83, 84, 85, 87, 88, 90, 91, 92, 94, 95, 97, 98, 99, 101, 102, 104, 105, 106, 108, 109, 111, 112, 113, 115, 116, 118, 119, 120, 122, 123, 125, 126, 127, 129, 130, 132, 133, 134, 136, 137, 139, 140, 141, 143, 144, 146, 147, 148, 150, 151, 153, 154, 155, 157, 158, 160, 161, 162, 164, 165, 167, 168, 169, 171, 172, 174, 175, 176, 178, 179, 181, 182, 183, 185, 186, 188, 189, 190, 192, 193, 195, 196, 197, 199, 200, 202, 203, 204, 206, 207, 209, 210, 211, 213, 214, 216, 217, 218, 220, 221, 223, 224, 225, 227, 228, 230, 231, 232, 234, 235, 237, 238, 239, 241, 242, 244, 245, 246, 248, 249, 251, 252, 253, 254, 255, 256, 257, 260, 262, 263, 265, 266, 267, 270, 271, 272, 273, 275, 276, 278, 279, 280, 283, 284, 285, 287, 288, 290, 291, 292, 295, 296] (fun _ => by kernel_rfl)
theorem hl : LeftO PySem.Challenge.rw_sx_vcanopyofobjects_7.row.toRowW.1 h0.view_1_2 [] (fun s => xlAt h0.view_1_2 [] s && recOk (RowW.records (OpenRow.toRowW PySem.Challenge.rw_sx_vcanopyofobjects_7.row)) s) (Hook.obs H0) (Hook.val H0) 3376 :=
  LeftO.of_pieces (boot_open h0._proof_1_5 (by decide) h0._proof_1_6) h0._proof_1_495 h0._proof_1_493 (by decide) fun w => funext fun os => h0._proof_1_526 w os
end Mine

namespace Mine
open PySem PySem.Spec PySem.Calls PyProof.Rows PySem.W PyProof.Rows.LCg
local macro_rules | `(tactic| omega) => `(tactic| first | with_reducible assumption | omega +splitDisjunctions | lia)
local macro_rules | `(tactic| walk_at "call builtin:len") => `(tactic| (k_here; k_dflt (first | refine len_snoc (by k_asm) (by k_mem) (by omega) ?_ | refine len_intsL (by k_asm) (by k_mem) (by assumption) (by omega) ?_ | refine len_each (by k_asm) (by k_mem) (by assumption) (by omega) ?_ | refine len_led (by k_asm) (by k_mem) (by omega) ?_)))
local macro_rules | `(tactic| walk_at "subscriptTail") => `(tactic| (k_here; (with_reducible show wpAny _ _ (subscriptTail _ _ _ (Value.int _ _)) _ _ _); k_dflt (first | (refine' item_led ?a ?b ?c ?d ?e ?_; (case a => k_asm); (case b => k_mem); (case e => assumption); (case c => omega); (case d => omega); k_whole) | refine item_tupleT (News.isTup (by k_asm) (by k_mem)) (by decide) (by decide) (by rfl) (by rfl) ?_ | (refine item_each (by k_asm) (by k_mem) (by assumption) (by omega) (by omega) (by omega) ?_; intro _ _ _ _) | refine item_last (by k_asm) (by k_mem) (by omega) (by omega) ?_ | (refine item_intsL (by k_asm) (by k_mem) (by assumption) (by omega) (by omega) (by omega) ?_; intro _))))
local macro_rules | `(tactic| walk_at "delItem") => `(tactic| (k_here; k_dflt (refine del_last (by k_asm) (by k_asm) (by k_upd) (by omega) (by rw [sizeLine_eq]; omega) ?_); intro h' F' N'; (try k_sweep)))
local macro_rules | `(tactic| walk_at "delete Subscript") => `(tactic| refine wpAny_delete_Subscript ?_)
local macro_rules | `(tactic| k_all) => `(tactic| first | assumption | exact all_app (by k_all) (by k_all))
local macro_rules | `(tactic| k_mem) => `(tactic| first | (change (_ : Addr × Obj) ∈ (_ : List (Addr × Obj)); ktr_member) | (change (_ : Addr × Obj) ∈ (_ ++ _ : List (Addr × Obj)); first | exact List.mem_append.mpr (Or.inl (by k_mem)) | exact List.mem_append.mpr (Or.inr (by k_mem))))
local macro_rules | `(tactic| k_in) => `(tactic| first | with_reducible assumption | exact Frag.In.keeps (by k_asm) (Fr.keep (by k_asm)))
local macro_rules | `(tactic| k_room) => `(tactic| ktr_room)
local macro_rules | `(tactic| walk_at "binaryOp Add ref ref") => `(tactic| (k_here; k_dflt (refine add_led (by k_asm) (by k_asm) (by k_mem) (by k_mem) (by rw [sizeLine_eq]; (try simp only [List.length_append, List.length_cons, List.length_nil]); omega) ?_); intro D' h' F' N' l1; (try k_lt l1); (try k_sweep)))
local macro_rules | `(tactic| walk_at "binaryOp Add ref ref") => `(tactic| (k_here; k_dflt (refine kmk_add_ints (by k_asm) (by k_asm) (by kmk_list) (by kmk_list) (by l_ints) (by l_ints) ?_ (by rw [sizeLine_eq]; (try simp only [List.length_append, List.length_cons, List.length_nil]); omega)); intro D' ws' h' F' N' l1 hI'; (try k_lt l1); (try k_sweep)))
local macro_rules | `(tactic| walk_at "eval ListComp") => `(tactic| (k_here; (with_reducible show wpAny _ _ (eval (Expr.ListComp _ [Comprehension.mk (Expr.Tuple _ _ _) _ _ _] _ _) _) _ _ _); k_dflt (refine ListComp_4 (by k_asm) (by with_unfolding_all rfl) (by decide) (by rfl) (by decide) (by rfl) (by rfl) (by rfl) (by rfl) (by decide) ?_)))
local macro_rules | `(tactic| walk_at "eval ListComp") => `(tactic| (k_here; (with_reducible show wpAny _ _ (eval (Expr.ListComp _ [Comprehension.mk (Expr.Name _ _) _ [] _] _ _) _) _ _ _); k_dflt (refine LCg.ListComp_U (F₀ := by k_asm) (by with_unfolding_all rfl) (by decide) (by rfl) (by decide) (by rfl) ?_)))
local macro_rules | `(tactic| walk_at "eval ListComp") => `(tactic| (k_here; (with_reducible show wpAny _ _ (eval (Expr.ListComp _ [Comprehension.mk (Expr.Name _ _) _ [_] _] _ _) _) _ _ _); k_dflt (refine LCt.ListComp_T (F₀ := by k_asm) (by with_unfolding_all rfl) (by decide) (by rfl) (by decide) (by rfl) ?_)))
local macro_rules | `(tactic| walk_at "exec Assign cons ListComp") => `(tactic| (k_here; (with_reducible show wpAny _ _ (exec (Stmt.Assign _ (Expr.ListComp _ [Comprehension.mk (Expr.Tuple _ _ _) _ _ _] _ _) _) _) _ _ _); k_dflt (refine Assign_ListComp_4 (by k_asm) (by rfl) (by with_unfolding_all rfl) (by with_unfolding_all rfl) (by decide) (by rfl) (by decide) (by rfl) (by rfl) (by rfl) (by rfl) (by decide) (by rfl) (by rfl) ?_)))

theorem tree_inst {P : Params} {nw : Led} {t : Tr} {x : Addr} (h : TreeIn P 59 nw t (.ref x)) : ∃ kr vr cr, NodeIn P 59 nw x kr vr cr := by
  obtain ⟨ks, vs, ts⟩ := t
  obtain ⟨x9, kr9, vr9, cr9, cvs9, n9, e9, h1, _⟩ := treeIn_node.mp h
  obtain rfl : x = x9 := by cases e9; rfl
  exact ⟨kr9, vr9, cr9, h1⟩
set_option maxRecDepth 100000 in
set_option maxHeartbeats 8000000 in
theorem leaf_contract {w : World} {dp un : Nat} {gd : Option (List Code)} {cn : Str} {cs : Scope} {a : Addr} {ccd : Value} {cl : List (Str × Addr)} {outer : List Env} {A₀ : Around} {base h₀ : Heap} {L : Addr} {m : Str → Option Value} {nw news : Led} {s : Shared}
    {Q E : Value → Shared → Prop} {p : Program} {loose : List Str} {mean : ExcName → Option Value} {mg mb : Str → Option Value} {x : Addr} {t : Tr}
    (B : Below A₀ base outer h₀) (F : Fr h₀ L s.heap m) (X : (h0.heap_1_1 w.params).In h₀) (N : News h₀ L s.heap news) (T : Top p loose mean mg mb h₀) (hk : cs.kind = .function)
    (hs : ∀ p ∈ nw, p ∈ news) (hR : TreeIn w.params 59 nw t (.ref x)) (hw : t.wt ≤ 1000) (hd' : dp + 3 < recursionLimit)
    (ret : ∀ h' tk', Fr h₀ L h' m → News h₀ L h' news → Q (.bool (decide ((t.ts.length : Int) = 0))) { s with heap := h', toks := tk' }) :
    wpAny (model PySem.Challenge.rw_sx_vcanopyofobjects_7.row.prog w) (ktrTop dp un gd cn cs L a ccd cl outer) (call (.ref 42) [.ref x]) Q E s := by
  revert X; k_fill; intro X
  refine wpAny_call ?_
  k_dflt ktr_enter
  refine (let AA := _; (?_ : wpAny _ AA _ _ _ _))
  refine (let EE := _; (?_ : wpAny _ _ (execs _ EE) _ _ _))
  obtain ⟨ks, vs, ts⟩ := t
  obtain ⟨x9, kr9, vr9, cr9, cvs9, n9, e9, ⟨dx9, nd9, w1, w2, w3, no1, no2⟩, _, _, mc9, hc9⟩ := treeIn_node.mp hR
  obtain rfl : x = x9 := by cases e9; rfl
  have no1' := hs _ no1
  have no2' := hs _ no2
  have mc9' := hs _ mc9
  have lts : ts.length ≤ 1000 := by
    have h1 := stack_length ts
    rw [Tr.wt_node] at hw
    unfold load at h1
    omega
  clear no1 no2 mc9
  (repeat (first | ((with_reducible show wpAny _ _ (exec _ _) _ _ (Shared.mk _ _ _ (_ + 1) _)); refine tk_gen ?_; intro tk9) | ((with_reducible show wpAny _ _ (exec _ _) _ _ _); k_fold) | ((fail_if_success (with_reducible show wpAny _ _ (exec (Stmt.While _ _ _ _) _) _ _ _)); (fail_if_success (with_reducible show wpAny _ _ (exec (Stmt.For _ _ _ _ _) _) _ _ _)); (fail_if_success (with_reducible show wpAny _ _ (pyIter _) _ _ _)); (first | (k_unfold; (try dsimp only)) | walk1 | (dsimp only; walk1)))))
  (rename Fr h₀ L _ _ => kF); (rename News h₀ L _ _ => kN)
  exact ret _ _ kF kN


inductive FlatJ (P : Params) (nw news : Led) (lO lS : Addr) (F : List Int) (n : Nat) (m : Str → Option Value) (nx : Led) : Prop
  | mk (ovs : List Value) (no : Nat) (svs : List Value) (ns : Nat) (out : List Int) (st : List Tr) (f1 : nx = (lS, listOf svs.toArray ns) :: (lO, listOf ovs.toArray no) :: news) (f2 : m (Str.ofString "stack") = some (.ref lS)) (f3 : m (Str.ofString "out") = some (.ref lO)) (f4 : IntsAre ovs out) (f5 : Each (TrAt P 59 nw) svs st) (f6 : (∀ t ∈ st, t.Ok)) (f7 : out ++ due Tr.flat st = F) (f8 : load Tr.wt st = n) (f9 : n ≤ 1000) : FlatJ P nw news lO lS F n m nx

inductive FlatK (P : Params) (nw news : Led) (lS lO : Addr) (ov4 : List Value) (no4 : Nat) (st' ts : List Tr) (x : Addr) (i : Nat) (m₂ : Str → Option Value) (nx : Led) : Prop
  | mk (svs : List Value) (c : Nat) (f1 : nx = (lS, listOf svs.toArray c) :: (lO, listOf ov4.toArray no4) :: news) (f2 : Each (TrAt P 59 nw) svs (st' ++ ts.reverse.take i)) (f3 : m₂ (Str.ofString "here") = some (.ref x)) (f4 : m₂ (Str.ofString "stack") = some (.ref lS)) (f5 : m₂ (Str.ofString "out") = some (.ref lO)) : FlatK P nw news lS lO ov4 no4 st' ts x i m₂ nx
set_option maxRecDepth 100000 in
set_option maxHeartbeats 8000000 in
theorem flat_contract {w : World} {dp un : Nat} {gd : Option (List Code)} {cn : Str} {cs : Scope} {a : Addr} {ccd : Value} {cl : List (Str × Addr)} {outer : List Env} {A₀ : Around} {base h₀ : Heap} {L : Addr} {m : Str → Option Value} {nw news : Led} {s : Shared}
    {Q E : Value → Shared → Prop} {p : Program} {loose : List Str} {mean : ExcName → Option Value} {mg mb : Str → Option Value} {self v : Value} {t : Tr}
    (B : Below A₀ base outer h₀) (F : Fr h₀ L s.heap m) (X : (h0.heap_1_1 w.params).In h₀) (N : News h₀ L s.heap news) (T : Top p loose mean mg mb h₀) (hk : cs.kind = .function)
    (hs : ∀ p ∈ nw, p ∈ news) (hR : TreeIn w.params 59 nw t v) (ok : t.Ok) (hw : t.wt ≤ 1000) (hd' : dp + 8 < recursionLimit) (hu : un + 200 < cLine)
    (ret : ∀ o vs n h' tk', Fr h₀ L h' m → News h₀ L h' ((o, listOf vs.toArray n) :: news) → (∀ p ∈ news, p.1 < o) → IntsAre vs t.flat → Q (.ref o) { s with heap := h', toks := tk' }) :
    wpAny (model PySem.Challenge.rw_sx_vcanopyofobjects_7.row.prog w) (ktrTop dp un gd cn cs L a ccd cl outer) (call (.ref 245) [self, v]) Q E s := by
  revert X; k_fill; intro X
  refine wpAny_call ?_
  k_dflt ktr_enter
  refine (let AA := _; (?_ : wpAny _ AA _ _ _ _))
  refine (let EE := _; (?_ : wpAny _ _ (execs _ EE) _ _ _))
  repeat (first | ((with_reducible show wpAny _ _ (exec _ _) _ _ (Shared.mk _ _ _ (_ + 1) _)); refine tk_gen ?_; intro tk9) | ((with_reducible show wpAny _ _ (exec _ _) _ _ _); k_fold) | ((fail_if_success (with_reducible show wpAny _ _ (exec (Stmt.While _ _ _ _) _) _ _ _)); (first | (k_unfold; (try dsimp only)) | walk1 | (dsimp only; walk1))))
  (rename Fr _ _ _ _ => F1); (rename News _ _ _ _ => N1)
  obtain ⟨lS, lO, rfl, rfl⟩ := nm2 N1
  (rename ∀ (p : Addr × Obj), p ∈ news → p.1 < lO => l1O); (rename _ ∧ AllLt lS news => l1S)
  let Inv1 : Nat → (Str → Option Value) → Led → Prop := (FlatJ w.params nw news lO lS t.flat)
  refine While_inv2 Inv1 (n₀ := t.wt) F1 N1 ⟨[], 0, [v], 0, [], [t], rfl, rfl, rfl, .nil, .one hR, by simpa using ok, by simp [due], by simp [load], hw⟩ ?_
  clear F1 N1
  rintro n m₁ nx h₁ tk₁ F₁ N₁ ⟨ovs, no, svs, ns, out, st, rfl, hmS, hmO, hO, hS, hok, hF, hn, hn'⟩
  have F₂ := fr_said (ps := [(Str.ofString "stack", .ref lS), (Str.ofString "out", .ref lO)]) (all_cons hmS (all_cons hmO (List.forall_mem_nil _))) F₁
  dsimp only [kstB] at F₂
  clear F₁ hmS hmO
  rcases List.eq_nil_or_concat st with rfl | ⟨st', a, rfl⟩
  · obtain rfl := hS.nil_of
    repeat (first | ((with_reducible show wpAny _ _ (exec _ _) _ _ (Shared.mk _ _ _ (_ + 1) _)); refine tk_gen ?_; intro tk9) | ((with_reducible show wpAny _ _ (exec _ _) _ _ _); k_fold) | (k_unfold; (try dsimp only)) | walk1 | (dsimp only; walk1))
    (rename Fr h₀ L _ m => kF); (rename News h₀ L _ _ => kN)
    refine ret lO ovs no _ _ kF (fun p hp => kN p (.tail _ hp)) l1O ?_
    rw [due_nil, List.append_nil] at hF
    exact hF ▸ hO
  · rw [List.concat_eq_append] at hS hok hF hn
    obtain ⟨sv, v', rfl, hS', hv⟩ := hS.snoc
    obtain ⟨ks, vs, ts⟩ := a
    obtain ⟨x, kr, vr, cr, cvs, nc, rfl, ⟨dx, nd, t₁, t₂, t₃, mx, md⟩, ⟨kvs, nk, mk, ik⟩, ⟨vvs, nv, mv, iv⟩, mc, hc⟩ := treeIn_node.mp hv
    have hoO : ∀ p ∈ news, p.1 ≠ lO := fun p hp => Nat.ne_of_lt (l1O p hp)
    have hoS : ∀ p ∈ news, p.1 ≠ lS := fun p hp => Nat.ne_of_lt (tb_ltOf l1S.2 p hp)
    have hOS : lO < lS := l1S.1
    have mx' := hs _ mx; have md' := hs _ md; have mk' := hs _ mk; have mv' := hs _ mv; have mc' := hs _ mc
    have okn := hok (.node ks vs ts) (by simp)
    have hfl := congrArg List.length hF
    rw [List.length_append, flat_length ok] at hfl
    have hst := stack_length st'
    have hsl : sv.length = st'.length := hS'.length
    have htl := stack_length ts
    rw [load_append, load_one, Tr.wt_node] at hn
    have htw : load Tr.wt ts = (ts.map Tr.wt).sum := rfl
    have hvl : vs.length = ks.length := by cases okn; assumption
    have hol : ovs.length = out.length := hO.length
    repeat (first | ((with_reducible show wpAny _ _ (exec _ _) _ _ (Shared.mk _ _ _ (_ + 1) _)); refine tk_gen ?_; intro tk9) | ((with_reducible show wpAny _ _ (exec _ _) _ _ _); k_fold) | (k_unfold; (try dsimp only)) | walk1 | (dsimp only; walk1))
    (rename Fr _ _ _ _ => F1); (rename News _ _ _ _ => N1)
    generalize hov : ovs ++ [Value.int _ _] = ov1 at N1
    generalize hno : no + 1 = no1 at N1
    let Inv2 : Nat → (Str → Option Value) → Led → Prop := (fun i m₂ nx => nx = (lS, listOf sv.toArray (ns + 1)) :: (lO, listOf (ov1 ++ kvs.take i).toArray (no1 + i)) :: news ∧ m₂ (Str.ofString "here") = some (.ref x) ∧ m₂ (Str.ofString "stack") = some (.ref lS) ∧ m₂ (Str.ofString "out") = some (.ref lO))
    refine kdl_iter Inv2 rfl (by k_mem) F1 N1 ⟨by simp, rfl, rfl, rfl⟩ ?_ ?_
    · clear F1 N1
      rintro i u m₂ nx h₂ tk₂ own hu hoff _ ⟨rfl, hm1, hm2, hm3⟩ F1 N1
      have F2 := fr_saidX (ps := [(Str.ofString "here", .ref x), (Str.ofString "stack", .ref lS), (Str.ofString "out", .ref lO)]) (all_cons hm1 (all_cons hm2 (all_cons hm3 (List.forall_mem_nil _)))) F1
      dsimp only [kstB] at F2
      clear F1
      have q1 : ∀ p ∈ own, p.1 ≠ lO := fun p hp => hoff p hp _ (by first | exact .head _ | exact .tail _ (.head _))
      have q2 : ∀ p ∈ own, p.1 ≠ lS := fun p hp => hoff p hp _ (by first | exact .head _ | exact .tail _ (.head _))
      dsimp only [List.cons_append] at N1
      have hbd : (ov1 ++ kvs.take i).length ≤ 10000 := by
        rw [← hov, List.length_append, List.length_append, List.length_take, List.length_singleton, ik.length]; omega
      repeat (first | ((with_reducible show wpAny _ _ (exec _ _) _ _ (Shared.mk _ _ _ (_ + 1) _)); refine tk_gen ?_; intro tk9) | ((with_reducible show wpAny _ _ (exec _ _) _ _ _); k_fold) | (k_unfold; (try dsimp only)) | walk1 | (dsimp only; walk1))
      (rename Fr _ _ _ _ => F1); (rename News _ _ _ _ => N1)
      rw [push_take hu] at N1
      exact InvEndG.intro F1 N1 ⟨by k_mem, rfl, rfl, rfl, rfl⟩ (by exact hoff) two_sub two_own
    clear F1 N1
    rintro m₂ nx h₂ tk₂ ⟨rfl, hm1, hm2, hm3⟩ F1 N1
    have F2 := fr_said (ps := [(Str.ofString "here", .ref x), (Str.ofString "stack", .ref lS), (Str.ofString "out", .ref lO)]) (all_cons hm1 (all_cons hm2 (all_cons hm3 (List.forall_mem_nil _)))) F1
    dsimp only [kstB] at F2
    clear F1
    rw [List.take_length] at N1
    have io1 : IntsAre (ov1 ++ kvs) (out ++ [(ks.length : Int)] ++ ks) := hov ▸ intsApp (intsApp hO (intsOne _ _)) ik
    generalize ov1 ++ kvs = ov2 at N1 io1
    generalize no1 + kvs.length = no2 at N1
    clear hov
    repeat (first | ((with_reducible show wpAny _ _ (exec _ _) _ _ (Shared.mk _ _ _ (_ + 1) _)); refine tk_gen ?_; intro tk9) | ((with_reducible show wpAny _ _ (exec _ _) _ _ _); k_fold) | (k_unfold; (try dsimp only)) | walk1 | (dsimp only; walk1))
    (rename Fr _ _ _ _ => F1); (rename News _ _ _ _ => N1)
    let Inv3 : Nat → (Str → Option Value) → Led → Prop := (fun i m₂ nx => nx = (lS, listOf sv.toArray (ns + 1)) :: (lO, listOf (ov2 ++ vvs.take i).toArray (no2 + i)) :: news ∧ m₂ (Str.ofString "here") = some (.ref x) ∧ m₂ (Str.ofString "stack") = some (.ref lS) ∧ m₂ (Str.ofString "out") = some (.ref lO))
    refine kdl_iter Inv3 rfl (by k_mem) F1 N1 ⟨by simp, rfl, rfl, rfl⟩ ?_ ?_
    · clear F1 N1
      rintro i u m₂ nx h₂ tk₂ own hu hoff _ ⟨rfl, hm1, hm2, hm3⟩ F1 N1
      have F2 := fr_saidX (ps := [(Str.ofString "here", .ref x), (Str.ofString "stack", .ref lS), (Str.ofString "out", .ref lO)]) (all_cons hm1 (all_cons hm2 (all_cons hm3 (List.forall_mem_nil _)))) F1
      dsimp only [kstB] at F2
      clear F1
      have q1 : ∀ p ∈ own, p.1 ≠ lO := fun p hp => hoff p hp _ (by first | exact .head _ | exact .tail _ (.head _))
      have q2 : ∀ p ∈ own, p.1 ≠ lS := fun p hp => hoff p hp _ (by first | exact .head _ | exact .tail _ (.head _))
      dsimp only [List.cons_append] at N1
      have hbd : (ov2 ++ vvs.take i).length ≤ 10000 := by
        rw [List.length_append, io1.length, List.length_append, List.length_append, List.length_take, List.length_singleton, iv.length]; omega
      repeat (first | ((with_reducible show wpAny _ _ (exec _ _) _ _ (Shared.mk _ _ _ (_ + 1) _)); refine tk_gen ?_; intro tk9) | ((with_reducible show wpAny _ _ (exec _ _) _ _ _); k_fold) | (k_unfold; (try dsimp only)) | walk1 | (dsimp only; walk1))
      (rename Fr _ _ _ _ => F1); (rename News _ _ _ _ => N1)
      rw [push_take hu] at N1
      exact InvEndG.intro F1 N1 ⟨by k_mem, rfl, rfl, rfl, rfl⟩ (by exact hoff) two_sub two_own
    clear F1 N1
    rintro m₂ nx h₂ tk₂ ⟨rfl, hm1, hm2, hm3⟩ F1 N1
    have F2 := fr_said (ps := [(Str.ofString "here", .ref x), (Str.ofString "stack", .ref lS), (Str.ofString "out", .ref lO)]) (all_cons hm1 (all_cons hm2 (all_cons hm3 (List.forall_mem_nil _)))) F1
    dsimp only [kstB] at F2
    clear F1
    rw [List.take_length] at N1
    have io2 := intsApp io1 iv
    generalize ov2 ++ vvs = ov3 at N1 io2
    generalize no2 + vvs.length = no3 at N1
    have hl3 := io2.length
    simp only [List.length_append, List.length_singleton] at hl3
    repeat (first | ((with_reducible show wpAny _ _ (exec _ _) _ _ (Shared.mk _ _ _ (_ + 1) _)); refine tk_gen ?_; intro tk9) | ((with_reducible show wpAny _ _ (exec _ _) _ _ _); k_fold) | (k_unfold; (try dsimp only)) | walk1 | (dsimp only; walk1))
    (rename Fr _ _ _ _ => F1); (rename News _ _ _ _ => N1); (rename IsRange _ _ _ _ _ _ _ _ => R1)
    generalize hov : ov3 ++ [Value.int _ _] = ov4 at N1
    have io4 : IntsAre ov4 (out ++ [(ks.length : Int)] ++ ks ++ vs ++ [(ts.length : Int)]) := hov ▸ intsApp io2 (intsOne _ _)
    generalize no3 + 1 = no4 at N1
    let Inv4 : Nat → (Str → Option Value) → Led → Prop := (FlatK w.params nw news lS lO ov4 no4 st' ts x)
    refine range_inv (n := ts.length) Inv4 rfl R1 (small_down (by omega) (by omega) (by omega) (by omega)) (by rw [rangeSize_downNat]; omega) F1 N1 ⟨sv, ns + 1, rfl, by simpa using hS', rfl, rfl, rfl⟩ ?_ ?_
    · clear F1 N1 R1
      rintro i tj m₂ nx h₂ tk₂ own hi hoff ⟨svs, c, rfl, hE, hm1, hm2, hm3⟩ F1 N1
      have F2 := fr_saidX (ps := [(Str.ofString "here", .ref x), (Str.ofString "stack", .ref lS), (Str.ofString "out", .ref lO)]) (all_cons hm1 (all_cons hm2 (all_cons hm3 (List.forall_mem_nil _)))) F1
      dsimp only [kstB] at F2
      clear F1
      have q1 : ∀ p ∈ own, p.1 ≠ lO := fun p hp => hoff p hp _ (by first | exact .head _ | exact .tail _ (.head _))
      have q2 : ∀ p ∈ own, p.1 ≠ lS := fun p hp => hoff p hp _ (by first | exact .head _ | exact .tail _ (.head _))
      dsimp only [List.cons_append] at N1
      have hbd : svs.length ≤ 10000 := by
        rw [hE.length, List.length_append, List.length_take]; omega
      repeat (first | ((with_reducible show wpAny _ _ (exec _ _) _ _ (Shared.mk _ _ _ (_ + 1) _)); refine tk_gen ?_; intro tk9) | ((with_reducible show wpAny _ _ (exec _ _) _ _ _); k_fold) | (k_unfold; (try dsimp only)) | walk1 | (dsimp only; walk1))
      (rename Fr _ _ _ _ => F1); (rename News _ _ _ _ => N1); (rename ts[_]? = some _ => hg); (rename TrAt _ _ _ _ _ => hr)
      rw [List.push_toArray] at N1
      refine InvEndG.intro F1 N1 ⟨_, _, rfl, ?_, rfl, rfl, rfl⟩ (by exact hoff) two_sub two_own
      rw [show ((ts.length : Int) - 1 + (i : Int) * -1).toNat = ts.length - 1 - i by omega, ← List.getElem?_reverse (by omega)] at hg
      rw [List.take_add_one, hg, ← List.append_assoc]
      exact hE.append (.one hr)
    · clear F1 N1 R1
      rintro m₂ nx h₂ tk₂ ⟨svs, c, rfl, hE, hm1, hm2, hm3⟩ F1 N1
      refine wpAny_execs_nil ?_
      refine ⟨h₂, _, m₂, _, load Tr.wt (st' ++ ts.reverse), rfl, F1, N1, ?_, ov4, no4, svs, c, _, st' ++ ts.reverse, rfl, hm2, hm3, io4, ?_, ?_, ?_, rfl, ?_⟩
      · have := flat_load st' ks vs ts
        rw [load_append _ _ [_], load_one, Tr.wt_node] at this
        omega
      · rw [← List.length_reverse, List.take_length] at hE
        exact hE
      · intro t ht
        rcases List.mem_append.mp ht with ht | ht
        · exact hok t (List.mem_append.mpr (.inl ht))
        · cases okn with
          | node h1 h2 h3 => exact h3 t (List.mem_reverse.mp ht)
      · rw [← hF, flat_step]
      · have := flat_load st' ks vs ts
        rw [load_append _ _ [_], load_one, Tr.wt_node] at this
        omega


inductive PairsJ (P : Params) (nw news : Led) (lO lS : Addr) (F : List Pr) (n : Nat) (m : Str → Option Value) (nx : Led) : Prop
  | mk (ovs : List Value) (no : Nat) (svs : List Value) (ns : Nat) (out : List Pr) (st : List It) (tl : Led) (f1 : nx = (lS, listOf svs.toArray ns) :: (lO, listOf ovs.toArray no) :: (news ++ tl)) (f2 : m (Str.ofString "stack") = some (.ref lS)) (f3 : m (Str.ofString "out") = some (.ref lO)) (f4 : DatAll tl ovs (out.map prD)) (f5 : Each (ItIn P 59 (nw ++ tl)) svs st) (f6 : (∀ i ∈ st, i.Ok ∧ i.1.wt ≤ 1000)) (f7 : out ++ due It.pairs st = F) (f8 : load It.wt st = n) (f9 : n ≤ 1000) (f10 : Fresh news tl) (f11 : (∀ p ∈ tl, p.1 ≠ lO)) (f12 : (∀ p ∈ tl, p.1 ≠ lS)) : PairsJ P nw news lO lS F n m nx

inductive PairsK (lS lO x : Addr) (sv : List Value) (ns : Nat) (news tl : Led) (out : List Pr) (ks vs : List Int) (i : Nat) (m₂ : Str → Option Value) (nx : Led) : Prop
  | mk (ovs' : List Value) (c : Nat) (tl' : Led) (f1 : nx = (lS, listOf sv.toArray (ns + 1)) :: (lO, listOf ovs'.toArray c) :: (news ++ tl')) (f2 : DatAll tl' ovs' ((out ++ (prs ks vs).take i).map prD)) (f3 : (∀ p ∈ tl, p ∈ tl')) (f4 : Fresh news tl') (f5 : (∀ p ∈ tl', p.1 ≠ lO)) (f6 : (∀ p ∈ tl', p.1 ≠ lS)) (f7 : m₂ (Str.ofString "here") = some (.ref x)) (f8 : m₂ (Str.ofString "stack") = some (.ref lS)) (f9 : m₂ (Str.ofString "out") = some (.ref lO)) : PairsK lS lO x sv ns news tl out ks vs i m₂ nx
inductive PairsN (P : Params) (nw news tl : Led) (lS lO x : Addr) (ovs : List Value) (no : Nat) (st' : List It) (ks vs : List Int) (ts : List Tr) (i : Nat) (m₂ : Str → Option Value) (nx : Led) : Prop
  | mk (svs' : List Value) (c : Nat) (tl' : Led) (f1 : nx = (lS, listOf svs'.toArray c) :: (lO, listOf ovs.toArray no) :: (news ++ tl')) (f2 : Each (ItIn P 59 (nw ++ tl')) svs' (st' ++ (downs ks.length i).flatMap (pushP (.node ks vs ts)))) (f3 : (∀ p ∈ tl, p ∈ tl')) (f4 : Fresh news tl') (f5 : (∀ p ∈ tl', p.1 ≠ lO)) (f6 : (∀ p ∈ tl', p.1 ≠ lS)) (f7 : m₂ (Str.ofString "here") = some (.ref x)) (f8 : m₂ (Str.ofString "stack") = some (.ref lS)) (f9 : m₂ (Str.ofString "out") = some (.ref lO)) : PairsN P nw news tl lS lO x ovs no st' ks vs ts i m₂ nx
set_option maxRecDepth 100000 in
set_option maxHeartbeats 8000000 in
theorem pairs_contract {w : World} {dp un : Nat} {gd : Option (List Code)} {cn : Str} {cs : Scope} {a : Addr} {ccd : Value} {cl : List (Str × Addr)} {outer : List Env} {A₀ : Around} {base h₀ : Heap} {L : Addr} {m : Str → Option Value} {nw news : Led} {s : Shared}
    {Q E : Value → Shared → Prop} {p : Program} {loose : List Str} {mean : ExcName → Option Value} {mg mb : Str → Option Value} {self v : Value} {t : Tr}
    (B : Below A₀ base outer h₀) (F : Fr h₀ L s.heap m) (X : (h0.heap_1_1 w.params).In h₀) (N : News h₀ L s.heap news) (T : Top p loose mean mg mb h₀) (hk : cs.kind = .function)
    (hs : ∀ p ∈ nw, p ∈ news) (hR : TreeIn w.params 59 nw t v) (ok : t.Ok) (hw : t.wt ≤ 1000) (hd' : dp + 8 < recursionLimit) (hu : un + 200 < cLine)
    (ret : ∀ o tl h' tk', Fr h₀ L h' m → News h₀ L h' (news ++ tl) → Fresh news tl → PrsIn tl o t.pairs → Q (.ref o) { s with heap := h', toks := tk' }) :
    wpAny (model PySem.Challenge.rw_sx_vcanopyofobjects_7.row.prog w) (ktrTop dp un gd cn cs L a ccd cl outer) (call (.ref 168) [self, v]) Q E s := by
  revert X; k_fill; intro X
  refine wpAny_call ?_
  k_dflt ktr_enter
  refine (let AA := _; (?_ : wpAny _ AA _ _ _ _))
  refine (let EE := _; (?_ : wpAny _ _ (execs _ EE) _ _ _))
  repeat (first | ((with_reducible show wpAny _ _ (exec _ _) _ _ (Shared.mk _ _ _ (_ + 1) _)); refine tk_gen ?_; intro tk9) | ((with_reducible show wpAny _ _ (exec _ _) _ _ _); k_fold) | ((fail_if_success (with_reducible show wpAny _ _ (exec (Stmt.While _ _ _ _) _) _ _ _)); (first | (k_unfold; (try dsimp only)) | walk1 | (dsimp only; walk1))))
  (rename Fr _ _ _ _ => F1); (rename News _ _ _ _ => N1)
  obtain ⟨lS, lD, lO, tD, rfl, rfl, rfl, eT⟩ := nmT N1
  rw [← eT] at N1
  (rename ∀ (p : Addr × Obj), p ∈ news → p.1 < lO => l1O); (rename _ ∧ AllLt lD news => l1D); (rename _ ∧ _ ∧ AllLt lS news => l1S)
  obtain ⟨l1Da, l1Db⟩ := l1D
  obtain ⟨l1Sa, l1Sb, l1Sc⟩ := l1S
  have hoO : ∀ p ∈ news, p.1 ≠ lO := fun p hp => Nat.ne_of_lt (l1O p hp)
  have hoS : ∀ p ∈ news, p.1 ≠ lS := fun p hp => Nat.ne_of_lt (tb_ltOf l1Sc p hp)
  have hoD : ∀ p ∈ news, p.1 ≠ lD := fun p hp => Nat.ne_of_lt (tb_ltOf l1Db p hp)
  let Inv1 : Nat → (Str → Option Value) → Led → Prop := (PairsJ w.params nw news lO lS t.pairs)
  refine While_inv2 Inv1 (n₀ := t.wt) (news := (lS, listOf #[.ref lD] 0) :: (lO, listOf #[] 0) :: (news ++ [(lD, { cls := Value.type "tuple", data := Data.seq #[v, Value.int (-1) tD] })])) F1 (fun p hp => N1 p (by simp only [List.mem_cons, List.mem_append, List.not_mem_nil, or_false] at hp ⊢; rcases hp with h | h | h | h <;> simp [h]))
    ⟨[], 0, [.ref lD], 0, [], [(t, none)], _, rfl, rfl, rfl, .nil, .one ⟨lD, v, -1, _, _, rfl, own_app _ (.head _), hR.mono sub_app, rfl⟩, by intro i hi; rw [List.mem_singleton.mp hi]; exact ⟨ok, hw⟩, by simp [due, It.pairs], by simp [load, It.wt], hw, by intro p hp; rw [List.mem_singleton.mp hp]; exact hoD, by intro p hp; rw [List.mem_singleton.mp hp]; exact Nat.ne_of_gt l1Da, by intro p hp; rw [List.mem_singleton.mp hp]; exact Nat.ne_of_lt l1Sa⟩ ?_
  clear F1 N1
  rintro n m₁ nx h₁ tk₁ F₁ N₁ ⟨ovs, no, svs, ns, out, st, tl, rfl, hmS, hmO, hO, hS, hok, hF, hn, hn', hfr, htO, htS⟩
  have F₂ := fr_said (ps := [(Str.ofString "stack", .ref lS), (Str.ofString "out", .ref lO)]) (all_cons hmS (all_cons hmO (List.forall_mem_nil _))) F₁
  dsimp only [kstB] at F₂
  clear F₁ hmS hmO
  rcases List.eq_nil_or_concat st with rfl | ⟨st', it, rfl⟩
  · obtain rfl := hS.nil_of
    repeat (first | ((with_reducible show wpAny _ _ (exec _ _) _ _ (Shared.mk _ _ _ (_ + 1) _)); refine tk_gen ?_; intro tk9) | ((with_reducible show wpAny _ _ (exec _ _) _ _ _); k_fold) | (k_unfold; (try dsimp only)) | walk1 | (dsimp only; walk1))
    (rename Fr h₀ L _ m => kF); (rename News h₀ L _ _ => kN)
    refine ret lO ((lO, listOf ovs.toArray no) :: tl) _ _ kF (fun p hp => kN p (by simp only [List.mem_cons, List.mem_append] at hp ⊢; rcases hp with h | h | h <;> simp [h])) ?_ ?_
    · intro p hp
      rcases List.mem_cons.mp hp with rfl | hp
      · exact hoO
      · exact hfr p hp
    · rw [due_nil, List.append_nil] at hF
      exact ⟨ovs, no, .head _, hF ▸ hO.mono fun p hp => .tail _ hp⟩
  · rw [List.concat_eq_append] at hS hok hF hn
    obtain ⟨sv, v', rfl, hS', hv⟩ := hS.snoc
    obtain ⟨tt, pl⟩ := it
    obtain ⟨ta, nv, k, tkk, nt', rfl, mt, hT, hpl⟩ := hv
    obtain ⟨ks, vs, ts⟩ := tt
    obtain ⟨x, kr, vr, cr, cvs, nc, rfl, ⟨dx, nd, t₁, t₂, t₃, mx, md⟩, ⟨kvs, nk, mk, ik⟩, ⟨vvs, nv, mv, iv⟩, mc, hc⟩ := treeIn_node.mp hT
    have hs' : ∀ p ∈ nw ++ tl, p ∈ news ++ tl := fun p hp => (List.mem_append.mp hp).elim (fun h => sub_app _ (hs _ h)) fun h => own_app _ h
    have mt' := hs' _ mt; have mx' := hs' _ mx; have md' := hs' _ md; have mk' := hs' _ mk; have mv' := hs' _ mv; have mc' := hs' _ mc
    obtain ⟨okn, hww⟩ := hok (.node ks vs ts, pl) (by simp)
    have hww : 1 + ks.length + (ts.map Tr.wt).sum ≤ 1000 := by rw [← Tr.wt_node]; exact hww
    have hfl := congrArg List.length hF
    rw [List.length_append] at hfl
    have hpl2 := pairs_length ok
    have hst := stackI_length st'
    have hsl : sv.length = st'.length := hS'.length
    rw [load_append, load_one] at hn
    have hol : ovs.length = out.length := by rw [hO.length, List.length_map]
    have qO : ∀ p ∈ news ++ tl, p.1 ≠ lO := all_app hoO htO
    have qS : ∀ p ∈ news ++ tl, p.1 ≠ lS := all_app hoS htS
    generalize hnt : news ++ tl = nt at N₁ mt' mx' md' mk' mv' mc' qO qS
    cases pl with
    | some i =>
      obtain ⟨okn, hik⟩ := okn
      have hkl : i < ks.length := hik
      obtain rfl : k = (i : Int) := hpl
      have hvl : vs.length = ks.length := by cases okn; assumption
      repeat (first | ((with_reducible show wpAny _ _ (exec _ _) _ _ (Shared.mk _ _ _ (_ + 1) _)); refine tk_gen ?_; intro tk9) | ((with_reducible show wpAny _ _ (exec _ _) _ _ _); k_fold) | (k_unfold; (try dsimp only)) | walk1 | (dsimp only; walk1))
      (rename Fr _ _ _ _ => F1); (rename News _ _ _ _ => N1); (rename _ ∧ _ ∧ AllLt _ _ => l9)
      obtain ⟨l9a, l9b, l9c⟩ := l9
      subst hnt
      have e9 := lt_ne l9c
      rw [List.push_toArray] at N1
      refine ⟨_, _, _, _, load It.wt st', rfl, F1, news_move1 N1, ?_, ovs ++ [_], _, sv, _, out ++ [(ks.getD i 0, vs.getD i 0)], st', _, rfl, rfl, rfl, ?_, hS'.mono (fun _ _ _ h => h.mono sub_cons), (fun i hi => hok i (List.mem_append.mpr (.inl hi))), ?_, rfl, ?_, hfr.cons (fun q hq => e9 q (sub_app _ hq)), ?_, ?_⟩
      · have : It.wt (.node ks vs ts, some i) = 1 := rfl
        omega
      · rw [List.map_append]
        exact (hO.mono fun p hp => .tail _ hp).append (.one (datPr (.head _)))
      · rw [← hF, due_snoc, List.append_assoc]
        congr 1
        show _ = (prs ks vs)[i]?.toList ++ _
        rw [prs_get hvl hkl]
        rfl
      · have : It.wt (.node ks vs ts, some i) = 1 := rfl
        omega
      · exact all_cons (Nat.ne_of_gt l9b) htO
      · exact all_cons (Nat.ne_of_gt l9a) htS
    | none =>
      obtain rfl : k = -1 := hpl
      have okn : Tr.Ok (.node ks vs ts) := okn
      have hvl : vs.length = ks.length := by cases okn; assumption
      have htl : ts.length ≤ ks.length + 1 := by cases okn; assumption
      (repeat (first | ((with_reducible show wpAny _ _ (exec _ _) _ _ (Shared.mk _ _ _ (_ + 1) _)); refine tk_gen ?_; intro tk9) | ((with_reducible show wpAny _ _ (exec _ _) _ _ _); k_fold) | ((fail_if_success (with_reducible show wpAny _ _ (exec (Stmt.While _ _ _ _) _) _ _ _)); (fail_if_success (with_reducible show wpAny _ _ (exec (Stmt.For _ _ _ _ _) _) _ _ _)); (fail_if_success (with_reducible show wpAny _ _ (pyIter _) _ _ _)); (fail_if_success (with_reducible show wpAny _ _ (call (Value.ref 42) _) _ _ _)); (first | (k_unfold; (try dsimp only)) | walk1 | (dsimp only; walk1)))))
      (rename News _ _ _ _ => N3); (rename Fr _ _ _ _ => F3)
      k_dflt (refine' leaf_contract (nw := nw ++ tl) (t := .node ks vs ts) ?k1 F3 ?k3 N3 ?k5 ?k6 ?ksub9 hT ?kw ?k7 ?_; (case k1 => k_asm); (case k3 => k_asm); (case k5 => k_asm); (case k6 => first | exact rfl | assumption); (case ksub9 => exact fun p hp => .tail _ (.tail _ (hnt ▸ hs' p hp))); (case kw => exact hww); (case k7 => ktr_room); k_whole)
      clear F3 N3
      intro h9 tk9 F3 N3
      by_cases hts : ((List.length ts : Nat) : Int) = 0
      · -- a leaf
        rw [show decide (((Tr.node ks vs ts).ts.length : Int) = 0) = true from decide_eq_true hts]
        (repeat (first | ((with_reducible show wpAny _ _ (exec _ _) _ _ (Shared.mk _ _ _ (_ + 1) _)); refine tk_gen ?_; intro tk9) | ((with_reducible show wpAny _ _ (exec _ _) _ _ _); k_fold) | ((fail_if_success (with_reducible show wpAny _ _ (exec (Stmt.While _ _ _ _) _) _ _ _)); (fail_if_success (with_reducible show wpAny _ _ (exec (Stmt.For _ _ _ _ _) _) _ _ _)); (fail_if_success (with_reducible show wpAny _ _ (pyIter _) _ _ _)); (first | (k_unfold; (try dsimp only)) | walk1 | (dsimp only; walk1)))))
        (((rename Fr _ _ _ _ => lF9); (with_unfolding_all refine' For_invVF lF9 ?k1 ?k2 ?_; (case k1 => exact rfl); (case k2 => exact rfl)); (repeat (first | ((with_reducible show wpAny _ _ (exec _ _) _ _ (Shared.mk _ _ _ (_ + 1) _)); refine tk_gen ?_; intro tk9) | ((with_reducible show wpAny _ _ (exec _ _) _ _ _); k_fold) | ((fail_if_success (with_reducible show wpAny _ _ (exec (Stmt.While _ _ _ _) _) _ _ _)); (fail_if_success (with_reducible show wpAny _ _ (exec (Stmt.For _ _ _ _ _) _) _ _ _)); (fail_if_success (with_reducible show wpAny _ _ (pyIter _) _ _ _)); (first | (k_unfold; (try dsimp only)) | walk1 | (dsimp only; walk1)))))))
        (rename Fr _ _ _ _ => F1); (rename News _ _ _ _ => N1); (rename IsRange _ _ _ _ _ _ _ _ => R1)
        subst hnt
        let Inv2 : Nat → (Str → Option Value) → Led → Prop := (PairsK lS lO x sv ns news tl out ks vs)
        refine range_inv (n := ks.length) Inv2 rfl R1 (small_one (by omega) (by omega) (by omega) (by omega)) (by rw [rangeSize_nat]; omega) F1 N1 ⟨ovs, no, tl, rfl, by simpa using hO, fun _ h => h, hfr, htO, htS, rfl, rfl, rfl⟩ ?_ ?_
        · clear F1 N1 R1
          rintro i tj m₂ nx h₂ tk₂ own hi hoff ⟨ovs', c, tl', rfl, hO', hup, hfr', htO', htS', hm1, hm2, hm3⟩ F1 N1
          have F2 := fr_saidX (ps := [(Str.ofString "here", .ref x), (Str.ofString "stack", .ref lS), (Str.ofString "out", .ref lO)]) (all_cons hm1 (all_cons hm2 (all_cons hm3 (List.forall_mem_nil _)))) F1
          dsimp only [kstB] at F2
          clear F1
          have q1 : ∀ p ∈ own, p.1 ≠ lO := fun p hp => hoff p hp _ (by first | exact .head _ | exact .tail _ (.head _))
          have q2 : ∀ p ∈ own, p.1 ≠ lS := fun p hp => hoff p hp _ (by first | exact .head _ | exact .tail _ (.head _))
          dsimp only [List.cons_append] at N1
          have hbd : ovs'.length ≤ 10000 := by
            rw [hO'.length, List.length_map, List.length_append, List.length_take, prs_length hvl]; omega
          have up : ∀ p ∈ news ++ tl, p ∈ news ++ tl' := fun p hp => (List.mem_append.mp hp).elim (fun h => sub_app _ h) fun h => own_app _ (hup _ h)
          have mx' := up _ mx'; have md' := up _ md'; have mk' := up _ mk'; have mv' := up _ mv'
          (repeat (first | ((with_reducible show wpAny _ _ (exec _ _) _ _ (Shared.mk _ _ _ (_ + 1) _)); refine tk_gen ?_; intro tk9) | ((with_reducible show wpAny _ _ (exec _ _) _ _ _); k_fold) | ((fail_if_success (with_reducible show wpAny _ _ (exec (Stmt.While _ _ _ _) _) _ _ _)); (fail_if_success (with_reducible show wpAny _ _ (exec (Stmt.For _ _ _ _ _) _) _ _ _)); (fail_if_success (with_reducible show wpAny _ _ (pyIter _) _ _ _)); (first | (k_unfold; (try dsimp only)) | walk1 | (dsimp only; walk1)))))
          (rename Fr _ _ _ _ => F1); (rename News _ _ _ _ => N1); (rename _ ∧ _ ∧ AllLt _ _ => l9)
          obtain ⟨l9a, l9b, l9c⟩ := l9
          obtain ⟨l9d, l9e⟩ := allLt_app l9c
          have e9 := lt_ne l9d
          rw [List.push_toArray, show (0 + (i : Int) * 1).toNat = i by omega] at N1
          refine inv_end F1 (news_own1 N1) (own_off1 hoff (lt_ne l9e) rfl rfl) ⟨ovs' ++ [_], _, _, rfl, ?_, fun p hp => .tail _ (hup p hp), hfr'.cons (fun q hq => e9 q (sub_app _ hq)), all_cons (Nat.ne_of_gt l9b) htO', all_cons (Nat.ne_of_gt l9a) htS', rfl, rfl, rfl⟩
          rw [take_prs hvl hi, ← List.append_assoc, List.map_append]
          exact (hO'.mono fun p hp => .tail _ hp).append (.one (datPr (.head _)))
        · clear F1 N1 R1
          rintro m₂ nx h₂ tk₂ ⟨ovs', c, tl', rfl, hO', hup, hfr', htO', htS', hm1, hm2, hm3⟩ F1 N1
          (repeat (first | ((with_reducible show wpAny _ _ (exec _ _) _ _ (Shared.mk _ _ _ (_ + 1) _)); refine tk_gen ?_; intro tk9) | ((with_reducible show wpAny _ _ (exec _ _) _ _ _); k_fold) | ((fail_if_success (with_reducible show wpAny _ _ (exec (Stmt.While _ _ _ _) _) _ _ _)); (fail_if_success (with_reducible show wpAny _ _ (exec (Stmt.For _ _ _ _ _) _) _ _ _)); (fail_if_success (with_reducible show wpAny _ _ (pyIter _) _ _ _)); (first | (k_unfold; (try dsimp only)) | walk1 | (dsimp only; walk1)))))
          have hts' : ts = [] := List.length_eq_zero_iff.mp (by omega)
          subst hts'
          rw [← prs_length hvl, List.take_length] at hO'
          have hwn : It.wt (.node ks vs [], none) = (Tr.node ks vs []).wt := rfl
          have hwp := wt_pos (.node ks vs [])
          refine ⟨_, _, _, _, load It.wt st', rfl, F1, N1, ?_, ovs', _, sv, _, out ++ prs ks vs, st', _, rfl, hm2, hm3, hO', hS'.mono (fun _ _ _ h => h.mono fun p hp => (List.mem_append.mp hp).elim (fun h => sub_app _ h) fun h => own_app _ (hup _ h)), (fun i hi => hok i (List.mem_append.mpr (.inl hi))), ?_, rfl, ?_, hfr', htO', htS'⟩
          · omega
          · rw [← hF, due_snoc, List.append_assoc]
            congr 1
            show _ = (Tr.node ks vs []).pairs ++ _
            rw [Tr.pairs_leaf hvl]
          · omega
      · -- an inner node
        rw [show decide (((Tr.node ks vs ts).ts.length : Int) = 0) = false from decide_eq_false hts]
        (repeat (first | ((with_reducible show wpAny _ _ (exec _ _) _ _ (Shared.mk _ _ _ (_ + 1) _)); refine tk_gen ?_; intro tk9) | ((with_reducible show wpAny _ _ (exec _ _) _ _ _); k_fold) | ((fail_if_success (with_reducible show wpAny _ _ (exec (Stmt.While _ _ _ _) _) _ _ _)); (fail_if_success (with_reducible show wpAny _ _ (exec (Stmt.For _ _ _ _ _) _) _ _ _)); (fail_if_success (with_reducible show wpAny _ _ (pyIter _) _ _ _)); (first | (k_unfold; (try dsimp only)) | walk1 | (dsimp only; walk1)))))
        (((rename Fr _ _ _ _ => lF9); (with_unfolding_all refine' For_invVF lF9 ?k1 ?k2 ?_; (case k1 => exact rfl); (case k2 => exact rfl)); (repeat (first | ((with_reducible show wpAny _ _ (exec _ _) _ _ (Shared.mk _ _ _ (_ + 1) _)); refine tk_gen ?_; intro tk9) | ((with_reducible show wpAny _ _ (exec _ _) _ _ _); k_fold) | ((fail_if_success (with_reducible show wpAny _ _ (exec (Stmt.While _ _ _ _) _) _ _ _)); (fail_if_success (with_reducible show wpAny _ _ (exec (Stmt.For _ _ _ _ _) _) _ _ _)); (fail_if_success (with_reducible show wpAny _ _ (pyIter _) _ _ _)); (first | (k_unfold; (try dsimp only)) | walk1 | (dsimp only; walk1)))))))
        (rename Fr _ _ _ _ => F1); (rename News _ _ _ _ => N1); (rename IsRange _ _ _ _ _ _ _ _ => R1)
        subst hnt
        rw [show (if (ks.length : Int) + 1 > (ts.length : Int) then (ks.length : Int) + 1 else (ts.length : Int)) - 1 = (ks.length : Int) by split <;> omega] at R1
        let Inv3 : Nat → (Str → Option Value) → Led → Prop := (PairsN w.params nw news tl lS lO x ovs no st' ks vs ts)
        refine range_inv (n := ks.length + 1) Inv3 rfl R1 (small_down (by omega) (by omega) (by omega) (by omega)) (by rw [rangeSize_downNat]; omega) F1 N1 ⟨sv, ns + 1, tl, rfl, by simpa [downs] using hS', fun _ h => h, hfr, htO, htS, rfl, rfl, rfl⟩ ?_ ?_
        · clear F1 N1 R1
          rintro i tj m₂ nx h₂ tk₂ own hi hoff ⟨svs', c, tl', rfl, hS2, hup, hfr', htO', htS', hm1, hm2, hm3⟩ F1 N1
          have F2 := fr_saidX (ps := [(Str.ofString "here", .ref x), (Str.ofString "stack", .ref lS), (Str.ofString "out", .ref lO)]) (all_cons hm1 (all_cons hm2 (all_cons hm3 (List.forall_mem_nil _)))) F1
          dsimp only [kstB] at F2
          clear F1
          have q1 : ∀ p ∈ own, p.1 ≠ lO := fun p hp => hoff p hp _ (by first | exact .head _ | exact .tail _ (.head _))
          have q2 : ∀ p ∈ own, p.1 ≠ lS := fun p hp => hoff p hp _ (by first | exact .head _ | exact .tail _ (.head _))
          dsimp only [List.cons_append] at N1
          have hbd : svs'.length ≤ 10000 := by
            have := downs_len (pushP_len (.node ks vs ts)) ks.length i
            rw [hS2.length, List.length_append]; omega
          have up : ∀ p ∈ news ++ tl, p ∈ news ++ tl' := fun p hp => (List.mem_append.mp hp).elim (fun h => sub_app _ h) fun h => own_app _ (hup _ h)
          have up2 : ∀ p ∈ nw ++ tl, p ∈ nw ++ tl' := fun p hp => (List.mem_append.mp hp).elim (fun h => sub_app _ h) fun h => own_app _ (hup _ h)
          have mx' := up _ mx'; have md' := up _ md'; have mk' := up _ mk'; have mv' := up _ mv'; have mc' := up _ mc'
          have hc := hc.mono fun v a _ h => TreeIn.mono up2 h
          have hT' := TreeIn.mono up2 hT
          obtain ⟨jn, hjn⟩ : ∃ jn : Nat, ks.length - i = jn := ⟨_, rfl⟩
          rw [show (ks.length : Int) + (i : Int) * -1 = (jn : Int) by omega] at F2
          (repeat (first | ((with_reducible show wpAny _ _ (exec _ _) _ _ (Shared.mk _ _ _ (_ + 1) _)); refine tk_gen ?_; intro tk9) | ((with_reducible show wpAny _ _ (exec _ _) _ _ _); k_fold) | ((fail_if_success (with_reducible show wpAny _ _ (exec (Stmt.While _ _ _ _) _) _ _ _)); (fail_if_success (with_reducible show wpAny _ _ (exec (Stmt.For _ _ _ _ _) _) _ _ _)); (fail_if_success (with_reducible show wpAny _ _ (pyIter _) _ _ _)); (first | (k_unfold; (try dsimp only)) | walk1 | (dsimp only; walk1)))))
          · (rename Fr _ _ _ _ => F1); (rename News _ _ _ _ => N1); (rename _ ∧ _ ∧ _ ∧ AllLt _ _ => l9); (rename ts[_]? = some _ => hg); (rename TrAt _ _ _ _ _ => hr); (rename _ ∧ _ ∧ AllLt _ _ => l8)
            obtain ⟨l9x, l9a, l9b, l9c⟩ := l9
            obtain ⟨l8a, l8b, l8c⟩ := l8
            obtain ⟨l9d, l9e⟩ := allLt_app l9c
            obtain ⟨l8d, l8e⟩ := allLt_app l8c
            rw [List.push_toArray, List.push_toArray, List.append_assoc] at N1
            refine inv_end F1 (news_own2 N1) (own_off2 hoff (lt_ne l9e) (lt_ne l8e) rfl rfl) ⟨svs' ++ ([_] ++ [_]), _, _, rfl, ?_, fun p hp => .tail _ (.tail _ (hup p hp)), (hfr'.cons (fun q hq => lt_ne l8d q (sub_app _ hq))).cons (fun q hq => lt_ne l9d q (sub_app _ hq)), all_cons (Nat.ne_of_gt l9b) (all_cons (Nat.ne_of_gt l8b) htO'), all_cons (Nat.ne_of_gt l9a) (all_cons (Nat.ne_of_gt l8a) htS'), rfl, rfl, rfl⟩
            rw [Int.toNat_natCast] at hg
            rw [downs_step, hjn, push_A hg (by omega)]
            exact (hS2.mono fun _ _ _ h => h.mono sub_cons2).append ((Each.one (itWhole (own_app _ (.tail _ (.head _))) (hr.mono sub_cons2))).append (.one (itKey (own_app _ (.head _)) (hT'.mono sub_cons2) (by omega))))
          · (repeat (first | ((with_reducible show wpAny _ _ (exec _ _) _ _ (Shared.mk _ _ _ (_ + 1) _)); refine tk_gen ?_; intro tk9) | ((with_reducible show wpAny _ _ (exec _ _) _ _ _); k_fold) | ((fail_if_success (with_reducible show wpAny _ _ (exec (Stmt.While _ _ _ _) _) _ _ _)); (fail_if_success (with_reducible show wpAny _ _ (exec (Stmt.For _ _ _ _ _) _) _ _ _)); (fail_if_success (with_reducible show wpAny _ _ (pyIter _) _ _ _)); (first | (k_unfold; (try dsimp only)) | walk1 | (dsimp only; walk1)))))
            (rename Fr _ _ _ _ => F1); (rename News _ _ _ _ => N1); (rename ts[_]? = some _ => hg); (rename TrAt _ _ _ _ _ => hr); (rename _ ∧ _ ∧ AllLt _ _ => l8)
            obtain ⟨l8a, l8b, l8c⟩ := l8
            obtain ⟨l8d, l8e⟩ := allLt_app l8c
            rw [List.push_toArray] at N1
            refine inv_end F1 (news_own1 N1) (own_off1 hoff (lt_ne l8e) rfl rfl) ⟨svs' ++ [_], _, _, rfl, ?_, fun p hp => .tail _ (hup p hp), hfr'.cons (fun q hq => lt_ne l8d q (sub_app _ hq)), all_cons (Nat.ne_of_gt l8b) htO', all_cons (Nat.ne_of_gt l8a) htS', rfl, rfl, rfl⟩
            rw [Int.toNat_natCast] at hg
            rw [downs_step, hjn, push_B hg (by omega)]
            exact (hS2.mono fun _ _ _ h => h.mono sub_cons).append (.one (itWhole (own_app _ (.head _)) (hr.mono sub_cons)))
          · (repeat (first | ((with_reducible show wpAny _ _ (exec _ _) _ _ (Shared.mk _ _ _ (_ + 1) _)); refine tk_gen ?_; intro tk9) | ((with_reducible show wpAny _ _ (exec _ _) _ _ _); k_fold) | ((fail_if_success (with_reducible show wpAny _ _ (exec (Stmt.While _ _ _ _) _) _ _ _)); (fail_if_success (with_reducible show wpAny _ _ (exec (Stmt.For _ _ _ _ _) _) _ _ _)); (fail_if_success (with_reducible show wpAny _ _ (pyIter _) _ _ _)); (first | (k_unfold; (try dsimp only)) | walk1 | (dsimp only; walk1)))))
            · (rename Fr _ _ _ _ => F1); (rename News _ _ _ _ => N1); (rename _ ∧ _ ∧ AllLt _ _ => l8)
              obtain ⟨l8a, l8b, l8c⟩ := l8
              obtain ⟨l8d, l8e⟩ := allLt_app l8c
              rw [List.push_toArray] at N1
              refine inv_end F1 (news_own1 N1) (own_off1 hoff (lt_ne l8e) rfl rfl) ⟨svs' ++ [_], _, _, rfl, ?_, fun p hp => .tail _ (hup p hp), hfr'.cons (fun q hq => lt_ne l8d q (sub_app _ hq)), all_cons (Nat.ne_of_gt l8b) htO', all_cons (Nat.ne_of_gt l8a) htS', rfl, rfl, rfl⟩
              rw [downs_step, hjn, push_C (by omega) (by omega)]
              exact (hS2.mono fun _ _ _ h => h.mono sub_cons).append (.one (itKey (own_app _ (.head _)) (hT'.mono sub_cons) (by omega)))
        · clear F1 N1 R1
          rintro m₂ nx h₂ tk₂ ⟨svs', c, tl', rfl, hS2, hup, hfr', htO', htS', hm1, hm2, hm3⟩ F1 N1
          (repeat (first | ((with_reducible show wpAny _ _ (exec _ _) _ _ (Shared.mk _ _ _ (_ + 1) _)); refine tk_gen ?_; intro tk9) | ((with_reducible show wpAny _ _ (exec _ _) _ _ _); k_fold) | ((fail_if_success (with_reducible show wpAny _ _ (exec (Stmt.While _ _ _ _) _) _ _ _)); (fail_if_success (with_reducible show wpAny _ _ (exec (Stmt.For _ _ _ _ _) _) _ _ _)); (fail_if_success (with_reducible show wpAny _ _ (pyIter _) _ _ _)); (first | (k_unfold; (try dsimp only)) | walk1 | (dsimp only; walk1)))))
          have hld := pairs_load st' ks vs ts
          rw [load_append _ _ [_], load_one] at hld
          refine ⟨_, _, _, _, load It.wt (st' ++ (downs ks.length (ks.length + 1)).flatMap (pushP (.node ks vs ts))), rfl, F1, N1, by omega, ovs, _, svs', _, out, _, _, rfl, hm2, hm3, hO.mono hup, hS2, ?_, ?_, rfl, by omega, hfr', htO', htS'⟩
          · intro it hit
            rcases List.mem_append.mp hit with hit | hit
            · exact hok it (List.mem_append.mpr (.inl hit))
            · obtain ⟨j, hj, hjt⟩ := List.mem_flatMap.mp hit
              rw [downs_all] at hj
              have hj := List.mem_range.mp (List.mem_reverse.mp hj)
              rcases List.mem_append.mp hjt with hjt | hjt
              · obtain ⟨c, hc1, rfl⟩ := List.mem_map.mp hjt
                have hcm : c ∈ ts := List.mem_of_getElem? (Option.mem_toList.mp hc1)
                have := wt_mem hcm
                cases okn with
                | node h1 h2 h3 => exact ⟨h3 c hcm, by show c.wt ≤ 1000; omega⟩
              · split at hjt
                · rw [List.mem_singleton.mp hjt]
                  exact ⟨⟨okn, by show j - 1 < ks.length; omega⟩, hww⟩
                · cases hjt
          · rw [← hF, pairs_step hvl]


inductive RangeJ (P : Params) (nw news : Led) (lO lS : Addr) (lo hi : Int) (vlo vhi : Value) (F : List Pr) (n : Nat) (m : Str → Option Value) (nx : Led) : Prop
  | mk (ovs : List Value) (no : Nat) (svs : List Value) (ns : Nat) (out : List Pr) (st : List It) (tl : Led) (f1 : nx = (lS, listOf svs.toArray ns) :: (lO, listOf ovs.toArray no) :: (news ++ tl)) (f2 : m (Str.ofString "stack") = some (.ref lS)) (f3 : m (Str.ofString "out") = some (.ref lO)) (f4 : m (Str.ofString "low") = some vlo) (f5 : m (Str.ofString "high") = some vhi) (f6 : DatAll tl ovs (out.map prD)) (f7 : Each (ItIn P 59 (nw ++ tl)) svs st) (f8 : (∀ i ∈ st, i.Ok ∧ i.1.wt ≤ 1000)) (f9 : out ++ due (It.rng lo hi) st = F) (f10 : load It.wt st = n) (f11 : n ≤ 1000) (f12 : Fresh news tl) (f13 : (∀ p ∈ tl, p.1 ≠ lO)) (f14 : (∀ p ∈ tl, p.1 ≠ lS)) : RangeJ P nw news lO lS lo hi vlo vhi F n m nx

inductive RangeK (lS lO x kr : Addr) (sv : List Value) (ns : Nat) (news tl : Led) (out : List Pr) (ks vs : List Int) (lo hi : Int) (tlo thi : Tok) (i : Nat) (m₂ : Str → Option Value) (nx : Led) : Prop
  | mk (ovs' : List Value) (c : Nat) (tl' : Led) (f1 : nx = (lS, listOf sv.toArray (ns + 1)) :: (lO, listOf ovs'.toArray c) :: (news ++ tl')) (f2 : DatAll tl' ovs' ((out ++ ((prs ks vs).take i).filter (inR lo hi)).map prD)) (f3 : (∀ p ∈ tl, p ∈ tl')) (f4 : Fresh news tl') (f5 : (∀ p ∈ tl', p.1 ≠ lO)) (f6 : (∀ p ∈ tl', p.1 ≠ lS)) (f7 : m₂ (Str.ofString "here") = some (.ref x)) (f8 : m₂ (Str.ofString "row") = some (.ref kr)) (f9 : m₂ (Str.ofString "stack") = some (.ref lS)) (f10 : m₂ (Str.ofString "out") = some (.ref lO)) (f11 : m₂ (Str.ofString "low") = some (.int lo tlo)) (f12 : m₂ (Str.ofString "high") = some (.int hi thi)) : RangeK lS lO x kr sv ns news tl out ks vs lo hi tlo thi i m₂ nx
inductive RangeN (P : Params) (nw news tl : Led) (lS lO x kr : Addr) (ovs : List Value) (no : Nat) (st' : List It) (ks vs : List Int) (ts : List Tr) (lo hi : Int) (tlo thi : Tok) (i : Nat) (m₂ : Str → Option Value) (nx : Led) : Prop
  | mk (svs' : List Value) (c : Nat) (tl' : Led) (f1 : nx = (lS, listOf svs'.toArray c) :: (lO, listOf ovs.toArray no) :: (news ++ tl')) (f2 : Each (ItIn P 59 (nw ++ tl')) svs' (st' ++ (downs ks.length i).flatMap (pushR lo hi (.node ks vs ts)))) (f3 : (∀ p ∈ tl, p ∈ tl')) (f4 : Fresh news tl') (f5 : (∀ p ∈ tl', p.1 ≠ lO)) (f6 : (∀ p ∈ tl', p.1 ≠ lS)) (f7 : m₂ (Str.ofString "here") = some (.ref x)) (f8 : m₂ (Str.ofString "row") = some (.ref kr)) (f9 : m₂ (Str.ofString "stack") = some (.ref lS)) (f10 : m₂ (Str.ofString "out") = some (.ref lO)) (f11 : m₂ (Str.ofString "low") = some (.int lo tlo)) (f12 : m₂ (Str.ofString "high") = some (.int hi thi)) : RangeN P nw news tl lS lO x kr ovs no st' ks vs ts lo hi tlo thi i m₂ nx
inductive RangeC4 (s : Shared) (gg : Heap) (LL lS lO x kr : Addr) (m₂ : Str → Option Value) (ovs : List Value) (no : Nat) (svs' : List Value) (c : Nat) (news tl' own : Led) (ks : List Int) (jn : Nat) (lo hi : Int) (tlo thi tj : Tok) (s' : Shared) : Prop
  | mk (bb ab : Bool) (h3 : Heap) (tk3 : Nat) (f1 : s' = { s with heap := h3, toks := tk3 }) (f2 : (bb = true ↔ (jn < ks.length ∧ ks.getD jn 0 ≤ lo))) (f3 : (ab = true ↔ (0 < jn ∧ hi ≤ ks.getD (jn - 1) 0))) (f4 : Fr gg LL h3 (fun y => if y = Str.ofString "above" then some (.bool ab) else if y = Str.ofString "below" then some (.bool bb) else if y = Str.ofString "j" then some (.int (jn : Int) tj) else kstB m₂ [(Str.ofString "here", .ref x), (Str.ofString "row", .ref kr), (Str.ofString "stack", .ref lS), (Str.ofString "out", .ref lO), (Str.ofString "low", .int lo tlo), (Str.ofString "high", .int hi thi)] y)) (f5 : News gg LL h3 ((lS, listOf svs'.toArray c) :: (lO, listOf ovs.toArray no) :: (news ++ tl' ++ own))) : RangeC4 s gg LL lS lO x kr m₂ ovs no svs' c news tl' own ks jn lo hi tlo thi tj s'
inductive RangeC5 (P : Params) (s : Shared) (gg : Heap) (LL lS lO x kr : Addr) (m₂ : Str → Option Value) (ovs : List Value) (no : Nat) (nw news tl' own : Led) (st' : List It) (ks vs : List Int) (ts : List Tr) (i jn : Nat) (lo hi : Int) (tlo thi tj : Tok) (bb ab : Bool) (s' : Shared) : Prop
  | mk (svs2 : List Value) (c2 : Nat) (tl2 : Led) (h4 : Heap) (tk4 : Nat) (f1 : s' = { s with heap := h4, toks := tk4 }) (f2 : Each (ItIn P 59 (nw ++ tl2)) svs2 (st' ++ (downs ks.length i).flatMap (pushR lo hi (.node ks vs ts)) ++ pushA lo hi ks ts jn)) (f3 : (∀ p ∈ tl', p ∈ tl2)) (f4 : Fresh news tl2) (f5 : (∀ p ∈ tl2, p.1 ≠ lO)) (f6 : (∀ p ∈ tl2, p.1 ≠ lS)) (f7 : OwnOff own (((lS, listOf svs2.toArray c2) :: (lO, listOf ovs.toArray no) :: (news ++ tl2)).map (·.1))) (f8 : Fr gg LL h4 (fun y => if y = Str.ofString "above" then some (.bool ab) else if y = Str.ofString "below" then some (.bool bb) else if y = Str.ofString "j" then some (.int (jn : Int) tj) else kstB m₂ [(Str.ofString "here", .ref x), (Str.ofString "row", .ref kr), (Str.ofString "stack", .ref lS), (Str.ofString "out", .ref lO), (Str.ofString "low", .int lo tlo), (Str.ofString "high", .int hi thi)] y)) (f9 : News gg LL h4 ((lS, listOf svs2.toArray c2) :: (lO, listOf ovs.toArray no) :: (news ++ tl2 ++ own))) : RangeC5 P s gg LL lS lO x kr m₂ ovs no nw news tl' own st' ks vs ts i jn lo hi tlo thi tj bb ab s'
set_option maxRecDepth 100000 in
set_option maxHeartbeats 8000000 in
theorem range_contract {w : World} {dp un : Nat} {gd : Option (List Code)} {cn : Str} {cs : Scope} {a : Addr} {ccd : Value} {cl : List (Str × Addr)} {outer : List Env} {A₀ : Around} {base h₀ : Heap} {L : Addr} {m : Str → Option Value} {nw news : Led} {s : Shared}
    {Q E : Value → Shared → Prop} {p : Program} {loose : List Str} {mean : ExcName → Option Value} {mg mb : Str → Option Value} {self v : Value} {t : Tr} {lo hi : Int} {tlo thi : Tok}
    (B : Below A₀ base outer h₀) (F : Fr h₀ L s.heap m) (X : (h0.heap_1_1 w.params).In h₀) (N : News h₀ L s.heap news) (T : Top p loose mean mg mb h₀) (hk : cs.kind = .function)
    (hs : ∀ p ∈ nw, p ∈ news) (hR : TreeIn w.params 59 nw t v) (ok : t.Ok) (hw : t.wt ≤ 1000) (hd' : dp + 8 < recursionLimit) (hu : un + 200 < cLine) (b1 : lo < 99) (b2 : -99 < hi)
    (ret : ∀ o tl h' tk', Fr h₀ L h' m → News h₀ L h' (news ++ tl) → Fresh news tl → PrsIn tl o (t.rng lo hi) → Q (.ref o) { s with heap := h', toks := tk' }) :
    wpAny (model PySem.Challenge.rw_sx_vcanopyofobjects_7.row.prog w) (ktrTop dp un gd cn cs L a ccd cl outer) (call (.ref 210) [self, v, .int lo tlo, .int hi thi]) Q E s := by
  revert X; k_fill; intro X
  refine wpAny_call ?_
  k_dflt ktr_enter
  refine (let AA := _; (?_ : wpAny _ AA _ _ _ _))
  refine (let EE := _; (?_ : wpAny _ _ (execs _ EE) _ _ _))
  repeat (first | ((with_reducible show wpAny _ _ (exec _ _) _ _ (Shared.mk _ _ _ (_ + 1) _)); refine tk_gen ?_; intro tk9) | ((with_reducible show wpAny _ _ (exec _ _) _ _ _); k_fold) | ((fail_if_success (with_reducible show wpAny _ _ (exec (Stmt.While _ _ _ _) _) _ _ _)); (first | (k_unfold; (try dsimp only)) | walk1 | (dsimp only; walk1))))
  (rename Fr _ _ _ _ => F1); (rename News _ _ _ _ => N1)
  obtain ⟨gg, LL, rfl, rfl⟩ := nmGL N1
  obtain ⟨lS, lD, lO, tD, rfl, rfl, rfl, eT⟩ := nmT N1
  rw [← eT] at N1
  (rename ∀ (p : Addr × Obj), p ∈ news → p.1 < lO => l1O); (rename _ ∧ AllLt lD news => l1D); (rename _ ∧ _ ∧ AllLt lS news => l1S)
  obtain ⟨l1Da, l1Db⟩ := l1D
  obtain ⟨l1Sa, l1Sb, l1Sc⟩ := l1S
  have hoO : ∀ p ∈ news, p.1 ≠ lO := fun p hp => Nat.ne_of_lt (l1O p hp)
  have hoS : ∀ p ∈ news, p.1 ≠ lS := fun p hp => Nat.ne_of_lt (tb_ltOf l1Sc p hp)
  have hoD : ∀ p ∈ news, p.1 ≠ lD := fun p hp => Nat.ne_of_lt (tb_ltOf l1Db p hp)
  let Inv1 : Nat → (Str → Option Value) → Led → Prop := (RangeJ w.params nw news lO lS lo hi (.int lo tlo) (.int hi thi) (t.rng lo hi))
  refine While_inv2 Inv1 (n₀ := t.wt) (news := (lS, listOf #[.ref lD] 0) :: (lO, listOf #[] 0) :: (news ++ [(lD, { cls := Value.type "tuple", data := Data.seq #[v, Value.int (-1) tD] })])) F1 (fun p hp => N1 p (by simp only [List.mem_cons, List.mem_append, List.not_mem_nil, or_false] at hp ⊢; rcases hp with h | h | h | h <;> simp [h]))
    ⟨[], 0, [.ref lD], 0, [], [(t, none)], _, rfl, rfl, rfl, rfl, rfl, .nil, .one ⟨lD, v, -1, _, _, rfl, own_app _ (.head _), hR.mono sub_app, rfl⟩, by intro i hi; rw [List.mem_singleton.mp hi]; exact ⟨ok, hw⟩, by simp [due, It.rng], by simp [load, It.wt], hw, by intro p hp; rw [List.mem_singleton.mp hp]; exact hoD, by intro p hp; rw [List.mem_singleton.mp hp]; exact Nat.ne_of_gt l1Da, by intro p hp; rw [List.mem_singleton.mp hp]; exact Nat.ne_of_lt l1Sa⟩ ?_
  clear F1 N1
  rintro n m₁ nx h₁ tk₁ F₁ N₁ ⟨ovs, no, svs, ns, out, st, tl, rfl, hmS, hmO, hmL, hmH, hO, hS, hok, hF, hn, hn', hfr, htO, htS⟩
  have F₂ := fr_said (ps := [(Str.ofString "stack", .ref lS), (Str.ofString "out", .ref lO), (Str.ofString "low", .int lo tlo), (Str.ofString "high", .int hi thi)]) (all_cons hmS (all_cons hmO (all_cons hmL (all_cons hmH (List.forall_mem_nil _))))) F₁
  dsimp only [kstB] at F₂
  clear F₁ hmS hmO hmL hmH
  rcases List.eq_nil_or_concat st with rfl | ⟨st', it, rfl⟩
  · obtain rfl := hS.nil_of
    repeat (first | ((with_reducible show wpAny _ _ (exec _ _) _ _ (Shared.mk _ _ _ (_ + 1) _)); refine tk_gen ?_; intro tk9) | ((with_reducible show wpAny _ _ (exec _ _) _ _ _); k_fold) | (k_unfold; (try dsimp only)) | walk1 | (dsimp only; walk1))
    (rename Fr h₀ L _ m => kF); (rename News h₀ L _ _ => kN)
    refine ret lO ((lO, listOf ovs.toArray no) :: tl) _ _ kF (fun p hp => kN p (by simp only [List.mem_cons, List.mem_append] at hp ⊢; rcases hp with h | h | h <;> simp [h])) ?_ ?_
    · intro p hp
      rcases List.mem_cons.mp hp with rfl | hp
      · exact hoO
      · exact hfr p hp
    · rw [due_nil, List.append_nil] at hF
      exact ⟨ovs, no, .head _, hF ▸ hO.mono fun p hp => .tail _ hp⟩
  · rw [List.concat_eq_append] at hS hok hF hn
    obtain ⟨sv, v', rfl, hS', hv⟩ := hS.snoc
    obtain ⟨tt, pl⟩ := it
    obtain ⟨ta, nv, k, tkk, nt', rfl, mt, hT, hpl⟩ := hv
    obtain ⟨ks, vs, ts⟩ := tt
    obtain ⟨x, kr, vr, cr, cvs, nc, rfl, ⟨dx, nd, t₁, t₂, t₃, mx, md⟩, ⟨kvs, nk, mk, ik⟩, ⟨vvs, nv, mv, iv⟩, mc, hc⟩ := treeIn_node.mp hT
    have hs' : ∀ p ∈ nw ++ tl, p ∈ news ++ tl := fun p hp => (List.mem_append.mp hp).elim (fun h => sub_app _ (hs _ h)) fun h => own_app _ h
    have mt' := hs' _ mt; have mx' := hs' _ mx; have md' := hs' _ md; have mk' := hs' _ mk; have mv' := hs' _ mv; have mc' := hs' _ mc
    obtain ⟨okn, hww⟩ := hok (.node ks vs ts, pl) (by simp)
    have hww : 1 + ks.length + (ts.map Tr.wt).sum ≤ 1000 := by rw [← Tr.wt_node]; exact hww
    have hfl := congrArg List.length hF
    rw [List.length_append] at hfl
    have hpl2 := rng_length lo hi ok
    have hst := stackI_length st'
    have hsl : sv.length = st'.length := hS'.length
    rw [load_append, load_one] at hn
    have hol : ovs.length = out.length := by rw [hO.length, List.length_map]
    have qO : ∀ p ∈ news ++ tl, p.1 ≠ lO := all_app hoO htO
    have qS : ∀ p ∈ news ++ tl, p.1 ≠ lS := all_app hoS htS
    generalize hnt : news ++ tl = nt at N₁ mt' mx' md' mk' mv' mc' qO qS
    cases pl with
    | some i =>
      obtain ⟨okn, hik⟩ := okn
      have hkl : i < ks.length := hik
      obtain rfl : k = (i : Int) := hpl
      have hvl : vs.length = ks.length := by cases okn; assumption
      repeat (first | ((with_reducible show wpAny _ _ (exec _ _) _ _ (Shared.mk _ _ _ (_ + 1) _)); refine tk_gen ?_; intro tk9) | ((with_reducible show wpAny _ _ (exec _ _) _ _ _); k_fold) | (k_unfold; (try dsimp only)) | walk1 | (dsimp only; walk1))
      (rename Fr _ _ _ _ => F1); (rename News _ _ _ _ => N1); (rename _ ∧ _ ∧ AllLt _ _ => l9)
      obtain ⟨l9a, l9b, l9c⟩ := l9
      subst hnt
      have e9 := lt_ne l9c
      rw [List.push_toArray] at N1
      refine ⟨_, _, _, _, load It.wt st', rfl, F1, news_move1 N1, ?_, ovs ++ [_], _, sv, _, out ++ [(ks.getD i 0, vs.getD i 0)], st', _, rfl, rfl, rfl, rfl, rfl, ?_, hS'.mono (fun _ _ _ h => h.mono sub_cons), (fun i hi => hok i (List.mem_append.mpr (.inl hi))), ?_, rfl, ?_, hfr.cons (fun q hq => e9 q (sub_app _ hq)), ?_, ?_⟩
      · have : It.wt (.node ks vs ts, some i) = 1 := rfl
        omega
      · rw [List.map_append]
        exact (hO.mono fun p hp => .tail _ hp).append (.one (datPr (.head _)))
      · rw [← hF, due_snoc, List.append_assoc]
        congr 1
        show _ = (prs ks vs)[i]?.toList ++ _
        rw [prs_get hvl hkl]
        rfl
      · have : It.wt (.node ks vs ts, some i) = 1 := rfl
        omega
      · exact all_cons (Nat.ne_of_gt l9b) htO
      · exact all_cons (Nat.ne_of_gt l9a) htS
    | none =>
      obtain rfl : k = -1 := hpl
      have okn : Tr.Ok (.node ks vs ts) := okn
      have hvl : vs.length = ks.length := by cases okn; assumption
      have htl : ts.length ≤ ks.length + 1 := by cases okn; assumption
      (repeat (first | ((with_reducible show wpAny _ _ (exec _ _) _ _ (Shared.mk _ _ _ (_ + 1) _)); refine tk_gen ?_; intro tk9) | ((with_reducible show wpAny _ _ (exec _ _) _ _ _); k_fold) | ((fail_if_success (with_reducible show wpAny _ _ (exec (Stmt.While _ _ _ _) _) _ _ _)); (fail_if_success (with_reducible show wpAny _ _ (exec (Stmt.For _ _ _ _ _) _) _ _ _)); (fail_if_success (with_reducible show wpAny _ _ (pyIter _) _ _ _)); (fail_if_success (with_reducible show wpAny _ _ (call (Value.ref 42) _) _ _ _)); (first | (k_unfold; (try dsimp only)) | walk1 | (dsimp only; walk1)))))
      (rename News _ _ _ _ => N3); (rename Fr _ _ _ _ => F3)
      k_dflt (refine' leaf_contract (nw := nw ++ tl) (t := .node ks vs ts) ?k1 F3 ?k3 N3 ?k5 ?k6 ?ksub9 hT ?kw ?k7 ?_; (case k1 => k_asm); (case k3 => k_asm); (case k5 => k_asm); (case k6 => first | exact rfl | assumption); (case ksub9 => exact fun p hp => .tail _ (.tail _ (hnt ▸ hs' p hp))); (case kw => exact hww); (case k7 => ktr_room); k_whole)
      clear F3 N3
      intro h9 tk9 F3 N3
      by_cases hts : ((List.length ts : Nat) : Int) = 0
      · -- a leaf
        rw [show decide (((Tr.node ks vs ts).ts.length : Int) = 0) = true from decide_eq_true hts]
        (repeat (first | ((with_reducible show wpAny _ _ (exec _ _) _ _ (Shared.mk _ _ _ (_ + 1) _)); refine tk_gen ?_; intro tk9) | ((with_reducible show wpAny _ _ (exec _ _) _ _ _); k_fold) | ((fail_if_success (with_reducible show wpAny _ _ (exec (Stmt.While _ _ _ _) _) _ _ _)); (fail_if_success (with_reducible show wpAny _ _ (exec (Stmt.For _ _ _ _ _) _) _ _ _)); (fail_if_success (with_reducible show wpAny _ _ (pyIter _) _ _ _)); (first | (k_unfold; (try dsimp only)) | walk1 | (dsimp only; walk1)))))
        (((rename Fr _ _ _ _ => lF9); (with_unfolding_all refine' For_invVF lF9 ?k1 ?k2 ?_; (case k1 => exact rfl); (case k2 => exact rfl)); (repeat (first | ((with_reducible show wpAny _ _ (exec _ _) _ _ (Shared.mk _ _ _ (_ + 1) _)); refine tk_gen ?_; intro tk9) | ((with_reducible show wpAny _ _ (exec _ _) _ _ _); k_fold) | ((fail_if_success (with_reducible show wpAny _ _ (exec (Stmt.While _ _ _ _) _) _ _ _)); (fail_if_success (with_reducible show wpAny _ _ (exec (Stmt.For _ _ _ _ _) _) _ _ _)); (fail_if_success (with_reducible show wpAny _ _ (pyIter _) _ _ _)); (first | (k_unfold; (try dsimp only)) | walk1 | (dsimp only; walk1)))))))
        (rename Fr _ _ _ _ => F1); (rename News _ _ _ _ => N1); (rename IsRange _ _ _ _ _ _ _ _ => R1)
        subst hnt
        let Inv2 : Nat → (Str → Option Value) → Led → Prop := (RangeK lS lO x kr sv ns news tl out ks vs lo hi tlo thi)
        refine range_inv (n := ks.length) Inv2 rfl R1 (small_one (by omega) (by omega) (by omega) (by omega)) (by rw [rangeSize_nat]; omega) F1 N1 ⟨ovs, no, tl, rfl, by simpa using hO, fun _ h => h, hfr, htO, htS, rfl, rfl, rfl, rfl, rfl, rfl⟩ ?_ ?_
        · clear F1 N1 R1
          rintro i tj m₂ nx h₂ tk₂ own hi' hoff ⟨ovs', c, tl', rfl, hO', hup, hfr', htO', htS', hm1, hm2, hm3, hm4, hm5, hm6⟩ F1 N1
          have F2 := fr_saidX (ps := [(Str.ofString "here", .ref x), (Str.ofString "row", .ref kr), (Str.ofString "stack", .ref lS), (Str.ofString "out", .ref lO), (Str.ofString "low", .int lo tlo), (Str.ofString "high", .int hi thi)]) (all_cons hm1 (all_cons hm2 (all_cons hm3 (all_cons hm4 (all_cons hm5 (all_cons hm6 (List.forall_mem_nil _))))))) F1
          dsimp only [kstB] at F2
          clear F1
          have q1 : ∀ p ∈ own, p.1 ≠ lO := fun p hp => hoff p hp _ (by first | exact .head _ | exact .tail _ (.head _))
          have q2 : ∀ p ∈ own, p.1 ≠ lS := fun p hp => hoff p hp _ (by first | exact .head _ | exact .tail _ (.head _))
          dsimp only [List.cons_append] at N1
          have hbd : ovs'.length ≤ 10000 := by
            have := List.length_filter_le (inR lo hi) ((prs ks vs).take i)
            rw [List.length_take, prs_length hvl] at this
            rw [hO'.length, List.length_map, List.length_append]; omega
          have up : ∀ p ∈ news ++ tl, p ∈ news ++ tl' := fun p hp => (List.mem_append.mp hp).elim (fun h => sub_app _ h) fun h => own_app _ (hup _ h)
          have mx' := up _ mx'; have md' := up _ md'; have mk' := up _ mk'; have mv' := up _ mv'
          rw [show 0 + (i : Int) * 1 = (i : Int) by omega] at F2
          have e1 : ks.getD ((i : Int)).toNat 0 = ks.getD i 0 := by rw [Int.toNat_natCast]
          (repeat (first | ((with_reducible show wpAny _ _ (exec _ _) _ _ (Shared.mk _ _ _ (_ + 1) _)); refine tk_gen ?_; intro tk9) | ((with_reducible show wpAny _ _ (exec _ _) _ _ _); k_fold) | ((fail_if_success (with_reducible show wpAny _ _ (exec (Stmt.While _ _ _ _) _) _ _ _)); (fail_if_success (with_reducible show wpAny _ _ (exec (Stmt.For _ _ _ _ _) _) _ _ _)); (fail_if_success (with_reducible show wpAny _ _ (pyIter _) _ _ _)); (first | (k_unfold; (try dsimp only)) | walk1 | (dsimp only; walk1)))))
          · (rename Fr _ _ _ _ => F1); (rename News _ _ _ _ => N1); (rename _ ∧ _ ∧ AllLt _ _ => l9)
            obtain ⟨l9a, l9b, l9c⟩ := l9
            obtain ⟨l9d, l9e⟩ := allLt_app l9c
            have e9 := lt_ne l9d
            rw [List.push_toArray, Int.toNat_natCast] at N1
            refine inv_end F1 (news_own1 N1) (own_off1 hoff (lt_ne l9e) rfl rfl) ⟨ovs' ++ [_], _, _, rfl, ?_, fun p hp => .tail _ (hup p hp), hfr'.cons (fun q hq => e9 q (sub_app _ hq)), all_cons (Nat.ne_of_gt l9b) htO', all_cons (Nat.ne_of_gt l9a) htS', rfl, rfl, rfl, rfl, rfl, rfl⟩
            rw [filt_T hvl hi' (by omega), ← List.append_assoc, List.map_append]
            exact (hO'.mono fun p hp => .tail _ hp).append (.one (datPr (.head _)))
          all_goals (
            (repeat (first | ((with_reducible show wpAny _ _ (exec _ _) _ _ (Shared.mk _ _ _ (_ + 1) _)); refine tk_gen ?_; intro tk9) | ((with_reducible show wpAny _ _ (exec _ _) _ _ _); k_fold) | ((fail_if_success (with_reducible show wpAny _ _ (exec (Stmt.While _ _ _ _) _) _ _ _)); (fail_if_success (with_reducible show wpAny _ _ (exec (Stmt.For _ _ _ _ _) _) _ _ _)); (fail_if_success (with_reducible show wpAny _ _ (pyIter _) _ _ _)); (first | (k_unfold; (try dsimp only)) | walk1 | (dsimp only; walk1)))))
            (rename Fr _ _ _ _ => F1); (rename News _ _ _ _ => N1)
            refine inv_end F1 N1 hoff ⟨ovs', _, _, rfl, ?_, hup, hfr', htO', htS', rfl, rfl, rfl, rfl, rfl, rfl⟩
            rw [filt_F hvl hi' (by omega)]
            exact hO')
        · clear F1 N1 R1
          rintro m₂ nx h₂ tk₂ ⟨ovs', c, tl', rfl, hO', hup, hfr', htO', htS', hm1, hm2, hm3, hm4, hm5, hm6⟩ F1 N1
          (repeat (first | ((with_reducible show wpAny _ _ (exec _ _) _ _ (Shared.mk _ _ _ (_ + 1) _)); refine tk_gen ?_; intro tk9) | ((with_reducible show wpAny _ _ (exec _ _) _ _ _); k_fold) | ((fail_if_success (with_reducible show wpAny _ _ (exec (Stmt.While _ _ _ _) _) _ _ _)); (fail_if_success (with_reducible show wpAny _ _ (exec (Stmt.For _ _ _ _ _) _) _ _ _)); (fail_if_success (with_reducible show wpAny _ _ (pyIter _) _ _ _)); (first | (k_unfold; (try dsimp only)) | walk1 | (dsimp only; walk1)))))
          have hts' : ts = [] := List.length_eq_zero_iff.mp (by omega)
          subst hts'
          rw [← prs_length hvl, List.take_length] at hO'
          have hwn : It.wt (.node ks vs [], none) = (Tr.node ks vs []).wt := rfl
          have hwp := wt_pos (.node ks vs [])
          refine ⟨_, _, _, _, load It.wt st', rfl, F1, N1, ?_, ovs', _, sv, _, out ++ (prs ks vs).filter (inR lo hi), st', _, rfl, hm3, hm4, hm5, hm6, hO', hS'.mono (fun _ _ _ h => h.mono fun p hp => (List.mem_append.mp hp).elim (fun h => sub_app _ h) fun h => own_app _ (hup _ h)), (fun i hi => hok i (List.mem_append.mpr (.inl hi))), ?_, rfl, ?_, hfr', htO', htS'⟩
          · omega
          · rw [← hF, due_snoc, List.append_assoc]
            congr 1
            show _ = (Tr.node ks vs []).rng lo hi ++ _
            rw [Tr.rng_leaf hvl]
          · omega
      · -- an inner node
        rw [show decide (((Tr.node ks vs ts).ts.length : Int) = 0) = false from decide_eq_false hts]
        (repeat (first | ((with_reducible show wpAny _ _ (exec _ _) _ _ (Shared.mk _ _ _ (_ + 1) _)); refine tk_gen ?_; intro tk9) | ((with_reducible show wpAny _ _ (exec _ _) _ _ _); k_fold) | ((fail_if_success (with_reducible show wpAny _ _ (exec (Stmt.While _ _ _ _) _) _ _ _)); (fail_if_success (with_reducible show wpAny _ _ (exec (Stmt.For _ _ _ _ _) _) _ _ _)); (fail_if_success (with_reducible show wpAny _ _ (pyIter _) _ _ _)); (first | (k_unfold; (try dsimp only)) | walk1 | (dsimp only; walk1)))))
        (((rename Fr _ _ _ _ => lF9); (with_unfolding_all refine' For_invVF lF9 ?k1 ?k2 ?_; (case k1 => exact rfl); (case k2 => exact rfl)); (repeat (first | ((with_reducible show wpAny _ _ (exec _ _) _ _ (Shared.mk _ _ _ (_ + 1) _)); refine tk_gen ?_; intro tk9) | ((with_reducible show wpAny _ _ (exec _ _) _ _ _); k_fold) | ((fail_if_success (with_reducible show wpAny _ _ (exec (Stmt.While _ _ _ _) _) _ _ _)); (fail_if_success (with_reducible show wpAny _ _ (exec (Stmt.For _ _ _ _ _) _) _ _ _)); (fail_if_success (with_reducible show wpAny _ _ (pyIter _) _ _ _)); (first | (k_unfold; (try dsimp only)) | walk1 | (dsimp only; walk1)))))))
        (rename Fr _ _ _ _ => F1); (rename News _ _ _ _ => N1); (rename IsRange _ _ _ _ _ _ _ _ => R1)
        subst hnt
        rw [show (if (ks.length : Int) + 1 > (ts.length : Int) then (ks.length : Int) + 1 else (ts.length : Int)) - 1 = (ks.length : Int) by split <;> omega] at R1
        let Inv3 : Nat → (Str → Option Value) → Led → Prop := (RangeN w.params nw news tl lS lO x kr ovs no st' ks vs ts lo hi tlo thi)
        refine range_inv (n := ks.length + 1) Inv3 rfl R1 (small_down (by omega) (by omega) (by omega) (by omega)) (by rw [rangeSize_downNat]; omega) F1 N1 ⟨sv, ns + 1, tl, rfl, by simpa [downs] using hS', fun _ h => h, hfr, htO, htS, rfl, rfl, rfl, rfl, rfl, rfl⟩ ?_ ?_
        · clear F1 N1 R1
          rintro i tj m₂ nx h₂ tk₂ own hi' hoff ⟨svs', c, tl', rfl, hS2, hup, hfr', htO', htS', hm1, hm2, hm3, hm4, hm5, hm6⟩ F1 N1
          have F2 := fr_saidX (ps := [(Str.ofString "here", .ref x), (Str.ofString "row", .ref kr), (Str.ofString "stack", .ref lS), (Str.ofString "out", .ref lO), (Str.ofString "low", .int lo tlo), (Str.ofString "high", .int hi thi)]) (all_cons hm1 (all_cons hm2 (all_cons hm3 (all_cons hm4 (all_cons hm5 (all_cons hm6 (List.forall_mem_nil _))))))) F1
          dsimp only [kstB] at F2
          clear F1
          have q1 : ∀ p ∈ own, p.1 ≠ lO := fun p hp => hoff p hp _ (by first | exact .head _ | exact .tail _ (.head _))
          have q2 : ∀ p ∈ own, p.1 ≠ lS := fun p hp => hoff p hp _ (by first | exact .head _ | exact .tail _ (.head _))
          dsimp only [List.cons_append] at N1
          have hbd : svs'.length ≤ 10000 := by
            have := downs_len (pushR_len lo hi (.node ks vs ts)) ks.length i
            rw [hS2.length, List.length_append]; omega
          have up : ∀ p ∈ news ++ tl, p ∈ news ++ tl' := fun p hp => (List.mem_append.mp hp).elim (fun h => sub_app _ h) fun h => own_app _ (hup _ h)
          have up2 : ∀ p ∈ nw ++ tl, p ∈ nw ++ tl' := fun p hp => (List.mem_append.mp hp).elim (fun h => sub_app _ h) fun h => own_app _ (hup _ h)
          have mx' := up _ mx'; have md' := up _ md'; have mk' := up _ mk'; have mv' := up _ mv'; have mc' := up _ mc'
          have hc := hc.mono fun v a _ h => TreeIn.mono up2 h
          have hT' := TreeIn.mono up2 hT
          obtain ⟨jn, hjn⟩ : ∃ jn : Nat, ks.length - i = jn := ⟨_, rfl⟩
          rw [show (ks.length : Int) + (i : Int) * -1 = (jn : Int) by omega] at F2
          have e1 : ks.getD ((jn : Int)).toNat 0 = ks.getD jn 0 := by rw [Int.toNat_natCast]
          have e0 : ks.getD ((jn : Int) - 1).toNat 0 = ks.getD (jn - 1) 0 := by rw [toNat_pred]
          let Cut4 : Shared → Prop := (RangeC4 s gg LL lS lO x kr m₂ ovs no svs' c news tl' own ks jn lo hi tlo thi tj)
          with_unfolding_all refine' execs_cut (l := [_, _]) (rest := [_, _]) Cut4 ?_ ?_
          · (repeat' (first | ((with_reducible show wpAny _ _ (exec _ _) _ _ (Shared.mk _ _ _ (_ + 1) _)); refine tk_gen ?_; intro tk9) | ((with_reducible show wpAny _ _ (exec _ _) _ _ _); k_fold) | ((fail_if_success (with_reducible show wpAny _ _ (exec (Stmt.While _ _ _ _) _) _ _ _)); (fail_if_success (with_reducible show wpAny _ _ (exec (Stmt.For _ _ _ _ _) _) _ _ _)); (fail_if_success (with_reducible show wpAny _ _ (pyIter _) _ _ _)); (first | (k_unfold; (try dsimp only)) | walk1 | (dsimp only; walk1)))))
            all_goals (
              (rename Fr _ _ _ _ => F1); (rename News _ _ _ _ => N1)
              refine ⟨rfl, _, _, _, _, rfl, ?ba, ?bb, F1, N1⟩
              case ba => first | omega | (simp only [decide_eq_true_eq, Bool.false_eq_true, false_iff, true_iff]; omega)
              case bb => first | omega | (simp only [decide_eq_true_eq, Bool.false_eq_true, false_iff, true_iff]; omega))
          · clear F2 N1
            rintro s' ⟨bb, ab, h3, tk3, rfl, hbb, hab, F1, N1⟩
            dsimp only [kstB] at F1
            let Cut5 : Shared → Prop := (RangeC5 w.params s gg LL lS lO x kr m₂ ovs no nw news tl' own st' ks vs ts i jn lo hi tlo thi tj bb ab)
            with_unfolding_all refine' execs_cut (l := [_]) (rest := [_]) Cut5 ?_ ?_
            · cases bb <;> cases ab <;> (repeat' (first | ((with_reducible show wpAny _ _ (exec _ _) _ _ (Shared.mk _ _ _ (_ + 1) _)); refine tk_gen ?_; intro tk9) | ((with_reducible show wpAny _ _ (exec _ _) _ _ _); k_fold) | ((fail_if_success (with_reducible show wpAny _ _ (exec (Stmt.While _ _ _ _) _) _ _ _)); (fail_if_success (with_reducible show wpAny _ _ (exec (Stmt.For _ _ _ _ _) _) _ _ _)); (fail_if_success (with_reducible show wpAny _ _ (pyIter _) _ _ _)); (first | (k_unfold; (try dsimp only)) | walk1 | (dsimp only; walk1)))))
              all_goals first
              | ((rename Fr _ _ _ _ => F1); (rename News _ _ _ _ => N1); (rename ts[_]? = some _ => hg); (rename TrAt _ _ _ _ _ => hr); (rename _ ∧ _ ∧ AllLt _ _ => l8)
                 obtain ⟨l8a, l8b, l8c⟩ := l8
                 obtain ⟨l8d, l8e⟩ := allLt_app l8c
                 rw [List.push_toArray] at N1
                 rw [Int.toNat_natCast] at hg
                 refine ⟨rfl, svs' ++ [_], _, _ :: tl', _, _, rfl, ?_, fun p hp => .tail _ hp, hfr'.cons (fun q hq => lt_ne l8d q (sub_app _ hq)), all_cons (Nat.ne_of_gt l8b) htO', all_cons (Nat.ne_of_gt l8a) htS', own_off1 hoff (lt_ne l8e) rfl rfl, F1, news_own1 N1⟩
                 rw [pushA_yes b1 b2 hg (fun h => Bool.noConfusion (hbb.mpr h)) (fun h => Bool.noConfusion (hab.mpr h))]
                 exact (hS2.mono fun _ _ _ h => h.mono sub_cons).append (.one (itWhole (own_app _ (.head _)) (hr.mono sub_cons))))
              | ((rename Fr _ _ _ _ => F1); (rename News _ _ _ _ => N1)
                 refine ⟨rfl, svs', _, tl', _, _, rfl, ?_, fun _ h => h, hfr', htO', htS', hoff, F1, N1⟩
                 rw [pushA_no b1 b2 (by first | exact .inl (by omega) | exact .inr (.inl (hbb.mp rfl)) | exact .inr (.inr (hab.mp rfl))), List.append_nil]
                 exact hS2)
            · clear F1 N1 hbb hab
              rintro s' ⟨svs2, c2, tl2, h4, tk4, rfl, hS3, hup3, hfr3, htO3, htS3, hoff3, F1, N1⟩
              dsimp only [kstB] at F1
              have up3 : ∀ p ∈ news ++ tl', p ∈ news ++ tl2 := fun p hp => (List.mem_append.mp hp).elim (fun h => sub_app _ h) fun h => own_app _ (hup3 _ h)
              have mx' := up3 _ mx'
              have md' := up3 _ md'
              have mk' := up3 _ mk'
              have hbd3 : svs2.length ≤ 10001 := by
                have h1 := downs_len (pushR_len lo hi (.node ks vs ts)) ks.length i
                have h2 : (pushA lo hi ks ts jn).length ≤ 1 := by
                  unfold pushA
                  split
                  · cases ts[jn]? <;> simp
                  · simp
                rw [hS3.length, List.length_append, List.length_append]; omega
              have hT3 := hT'.mono fun p hp => (List.mem_append.mp hp).elim (fun h => sub_app _ h) fun h => own_app (b := tl2) _ (hup3 _ h)
              (repeat' (first | ((with_reducible show wpAny _ _ (exec _ _) _ _ (Shared.mk _ _ _ (_ + 1) _)); refine tk_gen ?_; intro tk9) | ((with_reducible show wpAny _ _ (exec _ _) _ _ _); k_fold) | ((fail_if_success (with_reducible show wpAny _ _ (exec (Stmt.While _ _ _ _) _) _ _ _)); (fail_if_success (with_reducible show wpAny _ _ (exec (Stmt.For _ _ _ _ _) _) _ _ _)); (fail_if_success (with_reducible show wpAny _ _ (pyIter _) _ _ _)); (first | (k_unfold; (try dsimp only)) | walk1 | (dsimp only; walk1)))))
              all_goals first
              | ((rename Fr _ _ _ _ => F1); (rename News _ _ _ _ => N1); (rename _ ∧ _ ∧ AllLt _ _ => l8)
                 obtain ⟨l8a, l8b, l8c⟩ := l8
                 obtain ⟨l8d, l8e⟩ := allLt_app l8c
                 rw [List.push_toArray] at N1
                 refine inv_end F1 (news_own1 N1) (own_off1 hoff3 (lt_ne l8e) rfl rfl) ⟨svs2 ++ [_], _, _, rfl, ?_, fun p hp => .tail _ (hup3 _ (hup p hp)), hfr3.cons (fun q hq => lt_ne l8d q (sub_app _ hq)), all_cons (Nat.ne_of_gt l8b) htO3, all_cons (Nat.ne_of_gt l8a) htS3, rfl, rfl, rfl, rfl, rfl, rfl⟩
                 rw [downs_step, hjn, pushR_two, pushB_yes (by omega), ← List.append_assoc]
                 exact (hS3.mono fun _ _ _ h => h.mono sub_cons).append (.one (itKey (own_app _ (.head _)) (hT3.mono sub_cons) (by omega))))
              | ((rename Fr _ _ _ _ => F1); (rename News _ _ _ _ => N1)
                 refine inv_end F1 (news_own0 N1) hoff3 ⟨svs2, _, _, rfl, ?_, fun p hp => hup3 _ (hup p hp), hfr3, htO3, htS3, rfl, rfl, rfl, rfl, rfl, rfl⟩
                 rw [downs_step, hjn, pushR_two, pushB_no (by omega), List.append_nil]
                 exact hS3)
        · clear F1 N1 R1
          rintro m₂ nx h₂ tk₂ ⟨svs', c, tl', rfl, hS2, hup, hfr', htO', htS', hm1, hm2, hm3, hm4, hm5, hm6⟩ F1 N1
          (repeat (first | ((with_reducible show wpAny _ _ (exec _ _) _ _ (Shared.mk _ _ _ (_ + 1) _)); refine tk_gen ?_; intro tk9) | ((with_reducible show wpAny _ _ (exec _ _) _ _ _); k_fold) | ((fail_if_success (with_reducible show wpAny _ _ (exec (Stmt.While _ _ _ _) _) _ _ _)); (fail_if_success (with_reducible show wpAny _ _ (exec (Stmt.For _ _ _ _ _) _) _ _ _)); (fail_if_success (with_reducible show wpAny _ _ (pyIter _) _ _ _)); (first | (k_unfold; (try dsimp only)) | walk1 | (dsimp only; walk1)))))
          have hld := rng_load lo hi st' ks vs ts
          rw [load_append _ _ [_], load_one] at hld
          refine ⟨_, _, _, _, load It.wt (st' ++ (downs ks.length (ks.length + 1)).flatMap (pushR lo hi (.node ks vs ts))), rfl, F1, N1, by omega, ovs, _, svs', _, out, _, _, rfl, hm3, hm4, hm5, hm6, hO.mono hup, hS2, ?_, ?_, rfl, by omega, hfr', htO', htS'⟩
          · intro it hit
            rcases List.mem_append.mp hit with hit | hit
            · exact hok it (List.mem_append.mpr (.inl hit))
            · obtain ⟨j, hj, hjt⟩ := List.mem_flatMap.mp hit
              rw [downs_all] at hj
              have hj := List.mem_range.mp (List.mem_reverse.mp hj)
              rcases List.mem_append.mp hjt with hjt | hjt
              · split at hjt
                · obtain ⟨c, hc1, rfl⟩ := List.mem_map.mp hjt
                  have hcm : c ∈ ts := List.mem_of_getElem? (Option.mem_toList.mp hc1)
                  have := wt_mem hcm
                  cases okn with
                  | node h1 h2 h3 => exact ⟨h3 c hcm, by show c.wt ≤ 1000; omega⟩
                · cases hjt
              · split at hjt
                · rename_i hjc
                  have hjc := hjc.1
                  rw [List.mem_singleton.mp hjt]
                  exact ⟨⟨okn, by show j - 1 < ks.length; omega⟩, hww⟩
                · cases hjt
          · rw [← hF, rng_step hvl]


set_option maxRecDepth 100000 in
set_option maxHeartbeats 8000000 in
theorem room_contract {w : World} {dp un : Nat} {gd : Option (List Code)} {cn : Str} {cs : Scope} {a : Addr} {ccd : Value} {cl : List (Str × Addr)} {outer : List Env} {A₀ : Around} {base h₀ : Heap} {L : Addr} {m : Str → Option Value} {news : Led} {s : Shared}
    {Q E : Value → Shared → Prop} {p : Program} {loose : List Str} {mean : ExcName → Option Value} {mg mb : Str → Option Value} {n x : Int} {tn tx : Tok}
    (B : Below A₀ base outer h₀) (F : Fr h₀ L s.heap m) (X : (h0.heap_1_1 w.params).In h₀) (N : News h₀ L s.heap news) (T : Top p loose mean mg mb h₀) (hk : cs.kind = .function) (hd' : dp + 2 < recursionLimit)
    (ret : ∀ t h' tk', Fr h₀ L h' m → News h₀ L h' news → Q (.int (roomOf n x) t) { s with heap := h', toks := tk' }) :
    wpAny (model PySem.Challenge.rw_sx_vcanopyofobjects_7.row.prog w) (ktrTop dp un gd cn cs L a ccd cl outer) (call (.ref 279) [.int n tn, .int x tx]) Q E s := by
  revert X; k_fill; intro X
  refine wpAny_call ?_
  k_dflt ktr_enter
  (repeat' (first | ((with_reducible show wpAny _ _ (exec _ _) _ _ (Shared.mk _ _ _ (_ + 1) _)); refine tk_gen ?_; intro tk9) | ((with_reducible show wpAny _ _ (exec _ _) _ _ _); k_fold) | ((fail_if_success (with_reducible show wpAny _ _ (exec (Stmt.While _ _ _ _) _) _ _ _)); (fail_if_success (with_reducible show wpAny _ _ (exec (Stmt.For _ _ _ _ _) _) _ _ _)); (fail_if_success (with_reducible show wpAny _ _ (pyIter _) _ _ _)); (first | (k_unfold; (try dsimp only)) | walk1 | (dsimp only; walk1)))))
  all_goals ((rename Fr h₀ L _ _ => kF); (rename News h₀ L _ _ => kN))
  · have e : roomOf n x = 0 := by unfold roomOf; rw [if_pos (by assumption)]
    rw [e] at ret; exact ret _ _ _ kF kN
  · have e : roomOf n x = n := by unfold roomOf; rw [if_neg (by assumption), if_pos (by assumption)]
    rw [e] at ret; exact ret _ _ _ kF kN
  · have e : roomOf n x = n + 1 := by unfold roomOf; rw [if_neg (by assumption), if_neg (by assumption)]
    rw [e] at ret; exact ret _ _ _ kF kN


inductive JoinJ (P : Params) (nw news : Led) (L' : Addr) (oS : Obj) (ka kk dV : Addr) (ys : List Value) (ks : List Int) (seed : Int) (ts : List Tr) (i : Nat) (m : Str → Option Value) (nx : Led) : Prop
  | mk (oR oL : Obj) (tl : Led) (fa wa : Addr) (f1 : nx = (L' + 1 + 1 + 1, oR) :: (L' + 1 + 1, oL) :: (news ++ tl)) (f2 : (∃ x, oR.data = .cell x)) (f3 : (∃ x, oL.data = .cell x)) (f4 : (L' + 1, oS) ∈ tl) (f5 : (dV, lst ys) ∈ tl) (f6 : IntsIn tl fa (formTo ks seed ts i)) (f7 : QdsIn tl wa (walkTo ks seed ts i)) (f8 : Fresh news tl) (f9 : (∀ p ∈ tl, p.1 ≠ L' + 1 + 1)) (f10 : (∀ p ∈ tl, p.1 ≠ L' + 1 + 1 + 1)) (f11 : m (Str.ofString "form") = some (.ref fa) ∧ m (Str.ofString "walk") = some (.ref wa) ∧ m (Str.ofString "keys") = some (.ref ka) ∧ m (Str.ofString "kids") = some (.ref kk) ∧ m (Str.ofString "values") = some (.ref dV)) : JoinJ P nw news L' oS ka kk dV ys ks seed ts i m nx

theorem join_end {P : Params} {nw news tl own new : Led} {g h : Heap} {L' : Addr} {oS oR oL oR0 oL0 : Obj} {ka kk dV fa wa : Addr} {ys : List Value} {ks : List Int} {seed : Int} {ts : List Tr} {i : Nat} {m' : Str → Option Value} {s₁ : Shared} {tk : Nat}
    (F : Fr g L' h m') (N : News g L' h (new ++ ((L' + 1 + 1 + 1, oR) :: (L' + 1 + 1, oL) :: (news ++ tl ++ own)))) (hf : Fresh ((L' + 1 + 1 + 1, oR) :: (L' + 1 + 1, oL) :: (news ++ tl ++ own)) new)
    (hoff : OwnOff own (((L' + 1 + 1 + 1, oR0) :: (L' + 1 + 1, oL0) :: (news ++ tl)).map (·.1))) (hfr : Fresh news tl) (hcL : ∀ p ∈ tl, p.1 ≠ L' + 1 + 1) (hcR : ∀ p ∈ tl, p.1 ≠ L' + 1 + 1 + 1)
    (dR : ∃ x, oR.data = .cell x) (dL : ∃ x, oL.data = .cell x) (mS : (L' + 1, oS) ∈ tl) (mV : (dV, lst ys) ∈ tl) (hI : IntsIn (new ++ tl) fa (formTo ks seed ts (i + 1))) (hQ : QdsIn (new ++ tl) wa (walkTo ks seed ts (i + 1)))
    (hm : m' (Str.ofString "form") = some (.ref fa) ∧ m' (Str.ofString "walk") = some (.ref wa) ∧ m' (Str.ofString "keys") = some (.ref ka) ∧ m' (Str.ofString "kids") = some (.ref kk) ∧ m' (Str.ofString "values") = some (.ref dV)) :
    InvEndG g L' (JoinJ P nw news L' oS ka kk dV ys ks seed ts (i + 1)) own s₁ { s₁ with heap := h, toks := tk } := by
  refine inv_end (nx := (L' + 1 + 1 + 1, oR) :: (L' + 1 + 1, oL) :: (news ++ (new ++ tl))) F (news_sub N fun p hp => ?_) ?_ ⟨oR, oL, new ++ tl, fa, wa, rfl, dR, dL, own_app _ mS, own_app _ mV, hI, hQ, ?_, ?_, ?_, hm⟩
  · simp only [List.cons_append, List.mem_cons, List.mem_append] at hp ⊢
    rcases hp with h | h | (h | h | h) | h <;> simp [h]
  · intro p hp b hb
    simp only [List.map_cons, List.map_append, List.mem_cons, List.mem_append] at hb
    have k : ∀ c, c ∈ ((L' + 1 + 1 + 1, oR0) :: (L' + 1 + 1, oL0) :: (news ++ tl)).map (·.1) → p.1 ≠ c := fun c hc => hoff p hp c hc
    simp only [List.map_cons, List.map_append, List.mem_cons, List.mem_append] at k
    rcases hb with h1 | h1 | h1 | h1 | h1
    · exact k _ (.inl h1)
    · exact k _ (.inr (.inl h1))
    · exact k _ (.inr (.inr (.inl h1)))
    · obtain ⟨q, hq, rfl⟩ := List.mem_map.mp h1
      exact hf q hq p (.tail _ (.tail _ (own_app _ hp)))
    · exact k _ (.inr (.inr (.inr h1)))
  · exact (hf.sub fun p hp => .tail _ (.tail _ (sub_app _ (sub_app _ hp)))).app hfr
  · exact all_app (fun p hp => (hf p hp (L' + 1 + 1, oL) (.tail _ (.head _))).symm) hcL
  · exact all_app (fun p hp => (hf p hp (L' + 1 + 1 + 1, oR) (.head _)).symm) hcR

inductive JoinC (s : Shared) (g' : Heap) (L' : Addr) (m₂ : Str → Option Value) (fa wa ka kk dV : Addr) (news tl own : Led) (ks : List Int) (i : Nat) (tj : Tok) (s' : Shared) : Prop
  | mk (oR2 oL2 : Obj) (t1 t2 : Tok) (h3 : Heap) (tk3 : Nat) (f1 : s' = { s with heap := h3, toks := tk3 }) (f2 : oL2.data = .cell (some (.int (leftOf ks i) t1))) (f3 : oR2.data = .cell (some (.int (rightOf ks i) t2))) (f4 : Fr g' L' h3 (fun y => if y = Str.ofString "j" then some (.int (i : Int) tj) else kstB m₂ [(Str.ofString "form", .ref fa), (Str.ofString "walk", .ref wa), (Str.ofString "keys", .ref ka), (Str.ofString "kids", .ref kk), (Str.ofString "values", .ref dV)] y)) (f5 : News g' L' h3 ((L' + 1 + 1 + 1, oR2) :: (L' + 1 + 1, oL2) :: (news ++ tl ++ own))) : JoinC s g' L' m₂ fa wa ka kk dV news tl own ks i tj s'
set_option maxRecDepth 100000 in
set_option maxHeartbeats 8000000 in
theorem join_contract {w : World} {dp un : Nat} {gd : Option (List Code)} {cn : Str} {cs : Scope} {a : Addr} {ccd : Value} {cl : List (Str × Addr)} {outer : List Env} {A₀ : Around} {base h₀ : Heap} {L : Addr} {m : Str → Option Value} {nw news : Led} {s : Shared}
    {Q E : Value → Shared → Prop} {p : Program} {loose : List Str} {mean : ExcName → Option Value} {mg mb : Str → Option Value} {ka kk : Addr} {ks : List Int} {seed : Int} {tse : Tok} {kvs : List Value} {nk : Nat} {ts : List Tr}
    (B : Below A₀ base outer h₀) (F : Fr h₀ L s.heap m) (X : (h0.heap_1_1 w.params).In h₀) (N : News h₀ L s.heap news) (T : Top p loose mean mg mb h₀) (hk : cs.kind = .function)
    (hs : ∀ p ∈ nw, p ∈ news) (hK : IntsIn nw ka ks) (mk : (kk, listOf kvs.toArray nk) ∈ nw) (hP : Each (PartIn w.params 59 nw) kvs ts) (hok : ∀ t ∈ ts, t.Ok) (hkl : ks.length ≤ 2) (htl : ts.length ≤ ks.length + 1) (hwt : (joinT ks seed ts).wt ≤ 1000) (hd' : dp + 8 < recursionLimit) (hu : un + 200 < cLine)
    (ret : ∀ r tl h' tk', Fr h₀ L h' m → News h₀ L h' (news ++ tl) → Fresh news tl → PartIn w.params 59 (nw ++ tl) r (joinT ks seed ts) → Q r { s with heap := h', toks := tk' }) :
    wpAny (model PySem.Challenge.rw_sx_vcanopyofobjects_7.row.prog w) (ktrTop dp un gd cn cs L a ccd cl outer) (call (.ref 284) [.ref ka, .int seed tse, .ref kk]) Q E s := by
  revert X; k_fill; intro X
  refine wpAny_call ?_
  k_dflt (refine' code_defC ?k1 ?k2 ?k3 ?k4 ?k5 ?kA ?kF ?kK ?k6 ?k7 ?k8 ?k9 ?kB ?kD ?_ ?c2 ?c3 ?c4; (case kA => exact rfl); (case kF => exact rfl); (case kK => assumption); (case k1 => k_asm); (case k2 => k_asm); (case k3 => k_asm); (case k4 => k_asm); (case k5 => k_asm); (case k6 => k_is); (case k7 => k_is); (case k8 => ktr_room); (case k9 => exact BindsTo.of_eq rfl); (case kB => exact rfl); (case kD => decide +kernel); (case c2 => exact rfl); (case c3 => exact rfl); (case c4 => exact rfl); k_whole; intro g' L' h' tk' cells' FG' F' N' Y' B' X' T' l1; k_cells Y'; (try simp only [List.cons_append, List.nil_append] at N'); (try dsimp only); (try k_fold))
  refine (let AA := _; (?_ : wpAny _ AA _ _ _ _))
  refine (let EE := _; (?_ : wpAny _ _ (execs _ EE) _ _ _))
  rename_i oR oL oS dR dL dS
  have dS : oS.data = .cell (some (.int seed tse)) := dS
  have dL : oL.data = .cell none := dL
  have dR : oR.data = .cell none := dR
  obtain ⟨kvs0, nk0, mk0, ik0⟩ := hK
  have mk0' := hs _ mk0; have mk' := hs _ mk
  have oS1 : ∀ p ∈ news, p.1 ≠ L' + 1 := fun p hp => Nat.ne_of_lt (Nat.lt_succ_of_lt (l1 p hp))
  have oL1 : ∀ p ∈ news, p.1 ≠ L' + 1 + 1 := fun p hp => Nat.ne_of_lt (Nat.lt_succ_of_lt (Nat.lt_succ_of_lt (l1 p hp)))
  have oR1 : ∀ p ∈ news, p.1 ≠ L' + 1 + 1 + 1 := fun p hp => Nat.ne_of_lt (Nat.lt_succ_of_lt (Nat.lt_succ_of_lt (Nat.lt_succ_of_lt (l1 p hp))))
  have hkl0 := ik0.length
  (repeat (first | ((with_reducible show wpAny _ _ (exec _ _) _ _ (Shared.mk _ _ _ (_ + 1) _)); refine tk_gen ?_; intro tk9) | ((with_reducible show wpAny _ _ (exec _ _) _ _ _); k_fold) | ((fail_if_success (with_reducible show wpAny _ _ (exec (Stmt.While _ _ _ _) _) _ _ _)); (fail_if_success (with_reducible show wpAny _ _ (exec (Stmt.For _ _ _ _ _) _) _ _ _)); (fail_if_success (with_reducible show wpAny _ _ (pyIter _) _ _ _)); (first | (k_unfold; (try dsimp only)) | walk1 | (dsimp only; walk1)))))
  (((rename Fr _ _ _ _ => lF9); (with_unfolding_all refine' For_invVF lF9 ?k1 ?k2 ?_; (case k1 => exact rfl); (case k2 => exact rfl)); (repeat (first | ((with_reducible show wpAny _ _ (exec _ _) _ _ (Shared.mk _ _ _ (_ + 1) _)); refine tk_gen ?_; intro tk9) | ((with_reducible show wpAny _ _ (exec _ _) _ _ _); k_fold) | ((fail_if_success (with_reducible show wpAny _ _ (exec (Stmt.While _ _ _ _) _) _ _ _)); (fail_if_success (with_reducible show wpAny _ _ (exec (Stmt.For _ _ _ _ _) _) _ _ _)); (fail_if_success (with_reducible show wpAny _ _ (pyIter _) _ _ _)); (first | (k_unfold; (try dsimp only)) | walk1 | (dsimp only; walk1)))))))
  (rename Fr g' L' _ _ => F1); (rename News g' L' _ _ => N1); (rename IsRange _ _ _ _ _ _ _ _ => R1); (rename IntsAre _ (List.map (fun k' => seed - k') ks) => iV)
  obtain ⟨aW, aF, dV, wF, ys, rfl, rfl, rfl, rfl, rfl⟩ := nmJ N1
  (rename _ ∧ _ ∧ _ ∧ LCg.Off1 dV news => oV); (rename IntsAre wF _ => iF); (rename _ ∧ _ ∧ _ ∧ _ ∧ _ ∧ _ ∧ _ ∧ _ ∧ AllLt aF news => lF); (rename _ ∧ _ ∧ _ ∧ _ ∧ _ ∧ _ ∧ _ ∧ _ ∧ _ ∧ AllLt aW news => lW)
  obtain ⟨oV1, oV2, oV3, oV4⟩ := oV
  have nV := off1_ne _ oV4
  have nF : ∀ p ∈ news, p.1 ≠ aF := lt_ne (by simp only [lF])
  have nW : ∀ p ∈ news, p.1 ≠ aW := lt_ne (by simp only [lW])
  have c1 : aW ≠ L' + 1 + 1 ∧ aW ≠ L' + 1 + 1 + 1 ∧ aF ≠ L' + 1 + 1 ∧ aF ≠ L' + 1 + 1 + 1 ∧ dV ≠ L' + 1 + 1 ∧ dV ≠ L' + 1 + 1 + 1 := by
    refine ⟨neN ?_, neN ?_, neN ?_, neN ?_, neN ?_, neN ?_⟩ <;> omega
  have okT : (joinT ks seed ts).Ok := joinT_ok htl hok
  have hfl := flat_length okT
  have hwl := walk_length okT
  let Inv1 : Nat → (Str → Option Value) → Led → Prop := (JoinJ w.params nw news L' oS ka kk dV ys ks seed ts)
  refine range_inv (n := ks.length + 1) Inv1 rfl R1 (small_one (by omega) (by omega) (by omega) (by omega)) (by rw [rangeSize_nat]; omega) F1
    (news := (L' + 1 + 1 + 1, oR) :: (L' + 1 + 1, oL) :: (news ++ [(aW, listOf #[] 0), (aF, listOf wF.toArray 0), (dV, lst ys), (L' + 1, oS)])) (news_sub N1 fun p hp => by
      simp only [List.mem_cons, List.mem_append, List.not_mem_nil, or_false] at hp ⊢
      rcases hp with h | h | h | h | h | h | h <;> simp [h])
    ⟨oR, oL, _, aF, aW, rfl, ⟨_, dR⟩, ⟨_, dL⟩, by simp, by simp, ⟨wF, 0, by simp, by simpa [formTo] using iF⟩, ⟨[], 0, by simp, by simpa [walkTo] using DatAll.nil⟩, ?_, ?_, ?_, rfl, rfl, rfl, rfl, rfl⟩ ?_ ?_
  · exact all_cons nW (all_cons nF (all_cons nV (all_cons oS1 (List.forall_mem_nil _))))
  · exact all_cons c1.1 (all_cons c1.2.2.1 (all_cons c1.2.2.2.2.1 (all_cons (Nat.ne_of_lt (Nat.lt_succ_self _)) (List.forall_mem_nil _))))
  · exact all_cons c1.2.1 (all_cons c1.2.2.2.1 (all_cons c1.2.2.2.2.2 (all_cons (Nat.ne_of_lt (Nat.lt_succ_of_lt (Nat.lt_succ_self _))) (List.forall_mem_nil _))))
  · clear F1 N1 R1
    rintro i tj m₂ nx h₂ tk₂ own hi hoff ⟨oR', oL', tl, fa, wa, rfl, ⟨xR, dR'⟩, ⟨xL, dL'⟩, mS, mV, ⟨fvs, nf, mf, jf⟩, ⟨wvs, nwv, mw, jw⟩, hfr, hcL, hcR, hm1, hm2, hm3, hm4, hm5⟩ F1 N1
    have F2 := fr_saidX (ps := [(Str.ofString "form", .ref fa), (Str.ofString "walk", .ref wa), (Str.ofString "keys", .ref ka), (Str.ofString "kids", .ref kk), (Str.ofString "values", .ref dV)]) (all_cons hm1 (all_cons hm2 (all_cons hm3 (all_cons hm4 (all_cons hm5 (List.forall_mem_nil _)))))) F1
    dsimp only [kstB] at F2
    clear F1
    have q1 : ∀ p ∈ own, p.1 ≠ L' + 1 + 1 := fun p hp => hoff p hp _ (by first | exact .head _ | exact .tail _ (.head _))
    have q2 : ∀ p ∈ own, p.1 ≠ L' + 1 + 1 + 1 := fun p hp => hoff p hp _ (by first | exact .head _ | exact .tail _ (.head _))
    dsimp only [List.cons_append] at N1
    rw [show 0 + (i : Int) * 1 = (i : Int) by omega] at F2
    have e1 : (i : Int).toNat = i := Int.toNat_natCast i
    have e0 : ((i : Int) - 1).toNat = i - 1 := by omega
    have bf := formTo_len ks seed ts i
    have bw := walkTo_len (seed := seed) (ts := ts) (show i ≤ ks.length + 1 by omega)
    have lf := jf.length
    have lw := jw.length
    rw [List.length_map] at lw
    have qL : ∀ p ∈ news ++ tl ++ own, p.1 ≠ L' + 1 + 1 := all_app (all_app oL1 hcL) q1
    have qR : ∀ p ∈ news ++ tl ++ own, p.1 ≠ L' + 1 + 1 + 1 := all_app (all_app oR1 hcR) q2
    let Cut2 : Shared → Prop := (JoinC s g' L' m₂ fa wa ka kk dV news tl own ks i tj)
    with_unfolding_all refine' execs_cut (l := [_, _, _, _]) (rest := [_, _]) Cut2 ?_ ?_
    · (repeat' (first | ((with_reducible show wpAny _ _ (exec _ _) _ _ (Shared.mk _ _ _ (_ + 1) _)); refine tk_gen ?_; intro tk9) | ((with_reducible show wpAny _ _ (exec _ _) _ _ _); k_fold) | ((fail_if_success (with_reducible show wpAny _ _ (exec (Stmt.While _ _ _ _) _) _ _ _)); (fail_if_success (with_reducible show wpAny _ _ (exec (Stmt.For _ _ _ _ _) _) _ _ _)); (fail_if_success (with_reducible show wpAny _ _ (pyIter _) _ _ _)); (first | (k_unfold; (try dsimp only)) | walk1 | (dsimp only; walk1)))))
      all_goals (
        (rename Fr _ _ _ _ => F1); (rename News _ _ _ _ => N1)
        refine' ⟨rfl, _, _, _, _, _, _, rfl, ?da, ?db, F1, N1⟩
        case da => exact cell_is (by assumption) (by first | (rw [leftOf, if_pos (by omega), e0]) | (rw [leftOf, if_neg (by omega)]))
        case db => exact cell_is (by assumption) (by first | (rw [rightOf, if_pos (by omega), e1]) | (rw [rightOf, if_neg (by omega)])))
    · clear F2 N1
      rintro s' ⟨oR2, oL2, t1, t2, h3, tk3, rfl, dL2, dR2, F1, N1⟩
      dsimp only [kstB] at F1
      by_cases hjt : i < ts.length
      · obtain ⟨pv, hpv, pa, px, pf, pq, ptk, pn, rfl, mp, hpT, ⟨gvs, gn, mg', jg⟩, ⟨qvs, qn, mq, jq⟩⟩ := hP.get (List.getElem?_eq_getElem hjt)
        have hpv' : kvs[(i : Int).toNat]? = some (.ref pa) := by rw [e1]; exact hpv
        have mp' := hs _ mp; have mg'' := hs _ mg'; have mq' := hs _ mq
        have okt := hok _ (List.getElem_mem hjt)
        have hwj : (joinT ks seed ts).wt = 1 + ks.length + (ts.map Tr.wt).sum := Tr.wt_node ..
        have hwm := wt_mem (List.getElem_mem hjt)
        have bg := flat_length okt
        have bq := walk_length okt
        have lg := jg.length
        have lq := jq.length
        rw [List.length_map] at lq
        (repeat (first | ((with_reducible show wpAny _ _ (exec _ _) _ _ (Shared.mk _ _ _ (_ + 1) _)); refine tk_gen ?_; intro tk9) | ((with_reducible show wpAny _ _ (exec _ _) _ _ _); k_fold) | ((fail_if_success (with_reducible show wpAny _ _ (exec (Stmt.While _ _ _ _) _) _ _ _)); (fail_if_success (with_reducible show wpAny _ _ (exec (Stmt.For _ _ _ _ _) _) _ _ _)); (fail_if_success (with_reducible show wpAny _ _ (pyIter _) _ _ _)); (first | (k_unfold; (try dsimp only)) | walk1 | (dsimp only; walk1)))))
        (rename Fr _ _ _ _ => F2); (rename News _ _ _ _ => N2); (rename IntsAre _ (formTo ks seed ts i ++ _) => iF2); (rename _ ∧ _ ∧ AllLt _ _ => l8)
        obtain ⟨aG, wG, rfl, rfl⟩ := nmW1 N2
        obtain ⟨l8a, l8b, l8c⟩ := l8
        have m1 : ∀ p ∈ news, p ∈ news ++ tl ++ own := fun p hp => sub_app _ (sub_app _ hp)
        have m2 : ∀ p ∈ tl, p ∈ news ++ tl ++ own := fun p hp => sub_app _ (own_app _ hp)
        obtain ⟨bs, hbs⟩ : ∃ bs, bs = (aG, listOf wG.toArray 0) :: (L' + 1 + 1 + 1, oR2) :: (L' + 1 + 1, oL2) :: (news ++ tl ++ own) := ⟨_, rfl⟩
        rw [← hbs] at N2
        have ub : ∀ p ∈ news ++ tl ++ own, p ∈ bs := fun p hp => by rw [hbs]; exact .tail _ (.tail _ (.tail _ hp))
        have u1 : (L' + 1 + 1, oL2) ∈ bs := by rw [hbs]; exact .tail _ (.tail _ (.head _))
        have u2 : (L' + 1 + 1 + 1, oR2) ∈ bs := by rw [hbs]; exact .tail _ (.head _)
        have u3 := ub _ (m2 _ mw)
        have u4 := ub _ (m1 _ mk0')
        have u5 := ub _ (m2 _ mV)
        have u6 := ub _ (m1 _ mq')
        have u7 := ub _ (m2 _ mS)
        have unw : ∀ p ∈ nw, p ∈ bs := fun p hp => ub _ (m1 _ (hs p hp))
        refine ⟨pq, qvs, qn, bs, fun c yv nx => ∃ tu, nx = tu ++ bs ∧ DatAll tu yv (((ts[i].walk.take c).map (clip (leftOf ks i) (rightOf ks i))).map qdD) ∧ Fresh bs tu, rfl, rfl, F2, N2, u6, by rw [sizeLine_eq]; omega, ⟨[], rfl, by simpa using DatAll.nil, .nil⟩, ?_, ?_⟩
        · clear F2 N2
          rintro c v yv nx hv ⟨tu, rfl, hdat, hfu⟩ hax
          obtain ⟨d, hd, hdv⟩ := datGet jq hv
          rw [List.getElem?_map] at hd
          cases hq : ts[i].walk[c]? with
          | none => rw [hq] at hd; cases hd
          | some q =>
            rw [hq] at hd
            cases hd
            obtain ⟨qa, qt1, qt2, qt3, qt4, qnn, rfl, mqa⟩ := qd_open hdv
            refine ⟨qa, _, _, _, _, _, _, rfl, own_app _ (unw _ mqa), rfl, rfl, ?_⟩
            intro I oI C oC D m₃ h₃ tk₃ E' hC hx1 hx2 hx3 hx4 F2 N2 off ne
            refine wpAny_tests_nil ?_
            rw [if_pos rfl]
            (repeat (first | ((with_reducible show wpAny _ _ (exec _ _) _ _ (Shared.mk _ _ _ (_ + 1) _)); refine tk_gen ?_; intro tk9) | ((with_reducible show wpAny _ _ (exec _ _) _ _ _); k_fold) | ((fail_if_success (with_reducible show wpAny _ _ (exec (Stmt.While _ _ _ _) _) _ _ _)); (fail_if_success (with_reducible show wpAny _ _ (exec (Stmt.For _ _ _ _ _) _) _ _ _)); (fail_if_success (with_reducible show wpAny _ _ (pyIter _) _ _ _)); (first | (k_unfold; (try dsimp only)) | walk1 | (dsimp only; walk1)))))
            (rename Fr _ _ _ _ => F3); (rename News _ _ _ _ => N3); (rename _ ∧ _ ∧ _ ∧ AllLt _ _ => l9)
            obtain ⟨l9a, l9b, l9c, l9d⟩ := l9
            obtain ⟨l9e, l9f⟩ := allLt_app l9d
            rw [max_if, min_if] at N3
            refine End4.intro F3 N3 (_ :: (tu ++ bs)) comp_sub ⟨⟨Nat.ne_of_gt l9a, Nat.ne_of_gt l9b, Nat.ne_of_gt l9c⟩, off⟩ ⟨.tail _ (own_app _ u6), _ :: tu, rfl, ?_, hfu.cons (lt_ne l9f)⟩
            rw [List.take_add_one, hq, List.map_append, List.map_append]
            exact (hdat.mono fun p hp => .tail _ hp).append (.one (datQd (.head _)))
        · clear F2 N2
          rintro yv nx ⟨tu, rfl, hdat, hfu⟩ D h₃ tk₃ F2 N2 off
          have nD := off1_ne _ off
          have hlq : qvs.length = ts[i].walk.length := lq
          rw [hlq, List.take_length] at hdat
          have lyv := hdat.length
          rw [List.length_map, List.length_map] at lyv
          have hbf : ∀ p ∈ (L' + 1 + 1 + 1, oR2) :: (L' + 1 + 1, oL2) :: (news ++ tl ++ own), p ∈ bs := fun p hp => by rw [hbs]; exact .tail _ hp
          have hfG : Fresh ((L' + 1 + 1 + 1, oR2) :: (L' + 1 + 1, oL2) :: (news ++ tl ++ own)) [(aG, listOf wG.toArray 0)] := Fresh.of_lt ⟨l8a, l8b, l8c⟩
          (repeat (first | ((with_reducible show wpAny _ _ (exec _ _) _ _ (Shared.mk _ _ _ (_ + 1) _)); refine tk_gen ?_; intro tk9) | ((with_reducible show wpAny _ _ (exec _ _) _ _ _); k_fold) | ((fail_if_success (with_reducible show wpAny _ _ (exec (Stmt.While _ _ _ _) _) _ _ _)); (fail_if_success (with_reducible show wpAny _ _ (exec (Stmt.For _ _ _ _ _) _) _ _ _)); (fail_if_success (with_reducible show wpAny _ _ (pyIter _) _ _ _)); (first | (k_unfold; (try dsimp only)) | walk1 | (dsimp only; walk1)))))
          · (rename Fr _ _ _ _ => F3); (rename News _ _ _ _ => N3); (rename _ ∧ _ ∧ _ ∧ _ ∧ AllLt _ _ => l5); (rename _ ∧ _ ∧ AllLt _ _ => l3); (rename ((i : Nat) : Int) < ((List.length ks : Nat) : Int) => hik)
            have l5' := allLt_app l5.2.2.2.2
            have l3' := allLt_app l3.2.2
            rw [e1, hbs] at N3
            refine join_end F3 (pickA N3) (((((hfu.sub hbf).app hfG).cons fun q hq => lt_ne l3'.2 q (hbf q hq)).cons fun q hq => lt_ne l5'.2 q (hbf q hq))) hoff hfr hcL hcR ⟨_, dR2⟩ ⟨_, dL2⟩ mS mV ⟨wG, 0, ?_, ?_⟩ ⟨wvs ++ yv ++ [_], 0, .head _, ?_⟩ ⟨rfl, rfl, rfl, rfl, rfl⟩
            · exact sub_app _ (.tail _ (.tail _ (own_app _ (.head _))))
            · rw [formTo_kid hjt]; exact iF2
            · rw [walkTo_succ, walkSeg_kid hjt, prs_map (by omega), ← List.append_assoc, List.map_append, List.map_append]
              exact ((jw.mono fun p hp => own_app _ hp).append (hdat.mono fun p hp => sub_app _ (.tail _ (.tail _ (sub_app _ hp))))).append (.one (datQd (.tail _ (.head _))))
          · (repeat (first | ((with_reducible show wpAny _ _ (exec _ _) _ _ (Shared.mk _ _ _ (_ + 1) _)); refine tk_gen ?_; intro tk9) | ((with_reducible show wpAny _ _ (exec _ _) _ _ _); k_fold) | ((fail_if_success (with_reducible show wpAny _ _ (exec (Stmt.While _ _ _ _) _) _ _ _)); (fail_if_success (with_reducible show wpAny _ _ (exec (Stmt.For _ _ _ _ _) _) _ _ _)); (fail_if_success (with_reducible show wpAny _ _ (pyIter _) _ _ _)); (first | (k_unfold; (try dsimp only)) | walk1 | (dsimp only; walk1)))))
            (rename Fr _ _ _ _ => F3); (rename News _ _ _ _ => N3); (rename _ ∧ AllLt _ _ => l2); (rename ¬ ((i : Nat) : Int) < ((List.length ks : Nat) : Int) => hik)
            have l2' := allLt_app l2.2
            rw [hbs] at N3
            refine join_end F3 (pickB N3) ((((hfu.sub hbf).app hfG).cons fun q hq => lt_ne l2'.2 q (hbf q hq))) hoff hfr hcL hcR ⟨_, dR2⟩ ⟨_, dL2⟩ mS mV ⟨wG, 0, ?_, ?_⟩ ⟨wvs ++ yv, 0, .head _, ?_⟩ ⟨rfl, rfl, rfl, rfl, rfl⟩
            · exact sub_app _ (.tail _ (own_app _ (.head _)))
            · rw [formTo_kid hjt]; exact iF2
            · rw [walkTo_succ, walkSeg_kid hjt, prs_mapN (by omega), List.map_append]
              simp only [Option.toList_none, List.map_nil, List.append_nil]
              exact (jw.mono fun p hp => own_app _ hp).append (hdat.mono fun p hp => sub_app _ (.tail _ (sub_app _ hp)))
      · have u3 : (wa, listOf wvs.toArray nwv) ∈ news ++ tl ++ own := sub_app _ (own_app _ mw)
        have u4 : (ka, listOf kvs0.toArray nk0) ∈ news ++ tl ++ own := sub_app _ (sub_app _ mk0')
        have u5 : (dV, lst ys) ∈ news ++ tl ++ own := sub_app _ (own_app _ mV)
        (repeat (first | ((with_reducible show wpAny _ _ (exec _ _) _ _ (Shared.mk _ _ _ (_ + 1) _)); refine tk_gen ?_; intro tk9) | ((with_reducible show wpAny _ _ (exec _ _) _ _ _); k_fold) | ((fail_if_success (with_reducible show wpAny _ _ (exec (Stmt.While _ _ _ _) _) _ _ _)); (fail_if_success (with_reducible show wpAny _ _ (exec (Stmt.For _ _ _ _ _) _) _ _ _)); (fail_if_success (with_reducible show wpAny _ _ (pyIter _) _ _ _)); (first | (k_unfold; (try dsimp only)) | walk1 | (dsimp only; walk1)))))
        · (rename Fr _ _ _ _ => F3); (rename News _ _ _ _ => N3); (rename _ ∧ _ ∧ _ ∧ _ ∧ AllLt _ _ => l5); (rename _ ∧ _ ∧ AllLt _ _ => l3); (rename ((i : Nat) : Int) < ((List.length ks : Nat) : Int) => hik)
          rw [e1] at N3
          refine join_end F3 (pickC N3) (((Fresh.nil).cons (all_cons (Nat.ne_of_lt l3.1) (all_cons (Nat.ne_of_lt l3.2.1) (lt_ne l3.2.2)))).cons (all_cons (Nat.ne_of_lt l5.2.2.1) (all_cons (Nat.ne_of_lt l5.2.2.2.1) (lt_ne l5.2.2.2.2)))) hoff hfr hcL hcR ⟨_, dR2⟩ ⟨_, dL2⟩ mS mV ⟨fvs, nf, own_app _ mf, ?_⟩ ⟨wvs ++ [_], 0, .head _, ?_⟩ ⟨rfl, rfl, rfl, rfl, rfl⟩
          · rw [formTo_none (by omega)]; exact jf
          · rw [walkTo_succ, walkSeg_none (by omega), prs_map (by omega), List.map_append]
            exact (jw.mono fun p hp => own_app _ hp).append (.one (datQd (.tail _ (.head _))))
        · (repeat (first | ((with_reducible show wpAny _ _ (exec _ _) _ _ (Shared.mk _ _ _ (_ + 1) _)); refine tk_gen ?_; intro tk9) | ((with_reducible show wpAny _ _ (exec _ _) _ _ _); k_fold) | ((fail_if_success (with_reducible show wpAny _ _ (exec (Stmt.While _ _ _ _) _) _ _ _)); (fail_if_success (with_reducible show wpAny _ _ (exec (Stmt.For _ _ _ _ _) _) _ _ _)); (fail_if_success (with_reducible show wpAny _ _ (pyIter _) _ _ _)); (first | (k_unfold; (try dsimp only)) | walk1 | (dsimp only; walk1)))))
          (rename Fr _ _ _ _ => F3); (rename News _ _ _ _ => N3); (rename ¬ ((i : Nat) : Int) < ((List.length ks : Nat) : Int) => hik)
          refine join_end (new := []) F3 N3 Fresh.nil hoff hfr hcL hcR ⟨_, dR2⟩ ⟨_, dL2⟩ mS mV ⟨fvs, nf, mf, ?_⟩ ⟨wvs, nwv, mw, ?_⟩ ⟨rfl, rfl, rfl, rfl, rfl⟩
          · rw [formTo_none (by omega)]; exact jf
          · rw [walkTo_succ, walkSeg_none (by omega), prs_mapN (by omega)]
            simpa using jw
  · clear F1 N1 R1
    rintro m₂ nx h₂ tk₂ ⟨oR', oL', tl, fa, wa, rfl, ⟨xR, dR'⟩, ⟨xL, dL'⟩, mS, mV, ⟨fvs, nf, mf, jf⟩, ⟨wvs, nwv, mw, jw⟩, hfr, hcL, hcR, hm1, hm2, hm3, hm4, hm5⟩ F1 N1
    have F2 := fr_said (ps := [(Str.ofString "form", .ref fa), (Str.ofString "walk", .ref wa), (Str.ofString "keys", .ref ka), (Str.ofString "kids", .ref kk), (Str.ofString "values", .ref dV)]) (all_cons hm1 (all_cons hm2 (all_cons hm3 (all_cons hm4 (all_cons hm5 (List.forall_mem_nil _)))))) F1
    dsimp only [kstB] at F2
    clear F1
    have u1 : (kk, listOf kvs.toArray nk) ∈ news ++ tl := sub_app _ mk'
    have u2 : (dV, lst ys) ∈ news ++ tl := own_app _ mV
    have u3 : (ka, listOf kvs0.toArray nk0) ∈ news ++ tl := sub_app _ mk0'
    have lkv := hP.length
    (repeat (first | ((with_reducible show wpAny _ _ (exec _ _) _ _ (Shared.mk _ _ _ (_ + 1) _)); refine tk_gen ?_; intro tk9) | ((with_reducible show wpAny _ _ (exec _ _) _ _ _); k_fold) | ((fail_if_success (with_reducible show wpAny _ _ (exec (Stmt.While _ _ _ _) _) _ _ _)); (fail_if_success (with_reducible show wpAny _ _ (exec (Stmt.For _ _ _ _ _) _) _ _ _)); (fail_if_success (with_reducible show wpAny _ _ (pyIter _) _ _ _)); (first | (k_unfold; (try dsimp only)) | walk1 | (dsimp only; walk1)))))
    (rename Fr g' L' _ _ => F1); (rename News g' L' _ _ => N1)
    refine src_led (fun c yv nx => nx = (L' + 1 + 1 + 1, oR') :: (L' + 1 + 1, oL') :: (news ++ tl) ∧ Each (TrAt w.params 59 nw) yv (ts.take c)) rfl F1 N1 (by k_mem) (by rw [sizeLine_eq]; omega) ⟨rfl, .nil⟩ ?_ ?_
    · clear F1 N1
      rintro c v yv nx I oI C oC D m₃ h₃ tk₃ E' hv ⟨rfl, hy⟩ hS hC hx F1 N1 off ne
      obtain ⟨t, ht, pa, px, pf, pq, ptk, pn, rfl, mp, hpT, _, _⟩ := hP.getL hv
      have mp' : _ ∈ news ++ tl := sub_app _ (hs _ mp)
      (repeat (first | ((with_reducible show wpAny _ _ (exec _ _) _ _ (Shared.mk _ _ _ (_ + 1) _)); refine tk_gen ?_; intro tk9) | ((with_reducible show wpAny _ _ (exec _ _) _ _ _); k_fold) | ((fail_if_success (with_reducible show wpAny _ _ (exec (Stmt.While _ _ _ _) _) _ _ _)); (fail_if_success (with_reducible show wpAny _ _ (exec (Stmt.For _ _ _ _ _) _) _ _ _)); (fail_if_success (with_reducible show wpAny _ _ (pyIter _) _ _ _)); (first | (k_unfold; (try dsimp only)) | walk1 | (dsimp only; walk1)))))
      (rename Fr _ _ _ _ => F2); (rename News _ _ _ _ => N2)
      refine CompEnd.intro F2 N2 _ (fun p hp => hp) off hS ⟨rfl, ?_⟩
      rw [List.take_add_one, ht]
      exact hy.append (.one hpT)
    · clear F1 N1
      rintro gg yv nx ⟨rfl, hy⟩ D h₃ tk₃ F1 N1 off
      rw [lkv, List.take_length] at hy
      obtain ⟨of1, of2, of3⟩ := off
      have nD := off1_ne _ of3
      (try dsimp only [AA]); (try dsimp only [EE])
      (repeat (first | ((with_reducible show wpAny _ _ (exec _ _) _ _ (Shared.mk _ _ _ (_ + 1) _)); refine tk_gen ?_; intro tk9) | ((with_reducible show wpAny _ _ (exec _ _) _ _ _); k_fold) | ((fail_if_success (with_reducible show wpAny _ _ (exec (Stmt.While _ _ _ _) _) _ _ _)); (fail_if_success (with_reducible show wpAny _ _ (exec (Stmt.For _ _ _ _ _) _) _ _ _)); (fail_if_success (with_reducible show wpAny _ _ (pyIter _) _ _ _)); (first | (k_unfold; (try dsimp only)) | walk1 | (dsimp only; walk1)))))
      (rename Fr h₀ L _ _ => kF); (rename News h₀ L _ _ => kN); (rename _ ∧ _ ∧ _ ∧ _ ∧ _ ∧ AllLt _ _ => l6); (rename _ ∧ _ ∧ _ ∧ AllLt _ _ => l4)
      have l6' := (allLt_app l6.2.2.2.2.2).1
      have l4' := (allLt_app l4.2.2.2).1
      have nx' : ∀ q ∈ news, q.1 ≠ _ := fun q hq => Nat.ne_of_lt (Nat.lt_trans (tb_ltOf l4' q hq) (by assumption))
      refine ret _ _ _ _ kF (pickD kN) ((((hfr.cons fun q hq => nD q (sub_app _ hq)).cons (lt_ne l4')).cons nx').cons (lt_ne l6')) ?_
      refine ⟨_, _, fa, wa, _, _, rfl, own_app _ (.head _), treeIn_node.mpr ⟨_, ka, dV, D, yv, _, rfl, ⟨_, _, _, _, _, own_app _ (.tail _ (.head _)), own_app _ (.tail _ (.tail _ (.head _)))⟩, ⟨kvs0, nk0, sub_app _ mk0, ik0⟩, ⟨ys, _, own_app _ (.tail _ (.tail _ (.tail _ (.tail _ mV)))), iV⟩, own_app _ (.tail _ (.tail _ (.tail _ (.head _)))), hy.mono fun v a _ h => TreeIn.mono sub_app h⟩, ⟨fvs, nf, own_app _ (.tail _ (.tail _ (.tail _ (.tail _ mf)))), ?_⟩, ⟨wvs, nwv, own_app _ (.tail _ (.tail _ (.tail _ (.tail _ mw)))), ?_⟩⟩
      · rw [← formTo_end ks seed ts htl]; exact jf
      · rw [← walkTo_end]; exact jw.mono fun p hp => own_app _ (.tail _ (.tail _ (.tail _ (.tail _ hp))))

local macro_rules | `(tactic| walk_at "call ref") => `(tactic| (k_here; (with_reducible show wpAny _ _ (call (Value.ref 279) [Value.int _ _, Value.int _ _]) _ _ _); k_dflt (refine' room_contract ?k1 ?k2 ?k3 ?k4 ?k5 ?k6 ?k7 ?_; (case k1 => k_asm); (case k2 => k_asm); (case k3 => k_asm); (case k4 => k_asm); (case k5 => k_asm); (case k6 => first | exact rfl | assumption); (case k7 => ktr_room); k_whole); intro t9 h9 tk9 F9 N9; (try k_sweep)))


theorem kidsTo_le (f : Int → Tr) (R : Int) (i : Nat) : (kidsTo f R i).length ≤ i := by
  rw [kidsTo_eq, List.length_map, List.length_range]; omega
inductive MidJ (P : Params) (news : Led) (lK : Addr) (ps : List (Str × Value)) (f : Int → Tr) (R : Int) (i : Nat) (m : Str → Option Value) (nx : Led) : Prop
  | mk (kvs : List Value) (c : Nat) (tl : Led) (f1 : nx = (lK, listOf kvs.toArray c) :: (news ++ tl)) (f2 : Fresh news tl) (f3 : (∀ p ∈ tl, p.1 ≠ lK)) (f4 : Each (PartIn P 59 tl) kvs (kidsTo f R i)) (f5 : ∀ p ∈ ps, m p.1 = some p.2) : MidJ P news lK ps f R i m nx
theorem kids_end {P : Params} {news tl own new l : Led} {g h : Heap} {L' lK : Addr} {o0 o1 : Obj} {kvs : List Value} {c : Nat} {r : Value} {ps : List (Str × Value)} {f : Int → Tr} {R : Int} {i : Nat} {m' : Str → Option Value} {s₁ : Shared} {tk : Nat}
    (F : Fr g L' h m') (N : News g L' h l) (hK : (lK, listOf (kvs.toArray.push r) c) ∈ l) (hsub : ∀ p ∈ news ++ tl ++ own, p ∈ l) (hnew : ∀ p ∈ new, p ∈ l)
    (hf : Fresh ((lK, o0) :: (news ++ tl ++ own)) new) (hoff : OwnOff own (((lK, o1) :: (news ++ tl)).map (·.1))) (hfr : Fresh news tl) (hoK : ∀ p ∈ tl, p.1 ≠ lK) (hE : Each (PartIn P 59 tl) kvs (kidsTo f R i)) (hr : (i : Int) < R) (hP : PartIn P 59 (new ++ tl) r (f i)) (hm : ∀ p ∈ ps, m' p.1 = some p.2) :
    InvEndG g L' (MidJ P news lK ps f R (i + 1)) own s₁ { s₁ with heap := h, toks := tk } := by
  rw [List.push_toArray] at hK
  refine inv_end (nx := (lK, listOf (kvs ++ [r]).toArray c) :: (news ++ (new ++ tl))) F (news_sub N fun p hp => ?_) ?_ ⟨kvs ++ [r], c, new ++ tl, rfl, ?_, ?_, ?_, hm⟩
  · simp only [List.cons_append, List.mem_cons, List.mem_append] at hp
    rcases hp with h | (h | h | h) | h
    · rw [h]; exact hK
    · exact hsub _ (by simp [h])
    · exact hnew _ h
    · exact hsub _ (by simp [h])
    · exact hsub _ (by simp [h])
  · intro p hp b hb
    simp only [List.map_cons, List.map_append, List.mem_cons, List.mem_append] at hb
    have k : ∀ c, c ∈ ((lK, o1) :: (news ++ tl)).map (·.1) → p.1 ≠ c := fun c hc => hoff p hp c hc
    simp only [List.map_cons, List.map_append, List.mem_cons, List.mem_append] at k
    rcases hb with h1 | h1 | h1 | h1
    · exact k _ (.inl h1)
    · exact k _ (.inr (.inl h1))
    · obtain ⟨q, hq, rfl⟩ := List.mem_map.mp h1
      exact hf q hq p (.tail _ (own_app _ hp))
    · exact k _ (.inr (.inr h1))
  · exact (hf.sub fun p hp => .tail _ (sub_app _ (sub_app _ hp))).app hfr
  · exact all_app (fun p hp => (hf p hp (lK, o0) (.head _)).symm) hoK
  · rw [kidsTo_succ, if_pos hr]
    exact (hE.mono fun v a _ h => h.mono own_app).append (.one hP)
theorem kids_skip {P : Params} {news tl own : Led} {g h : Heap} {L' lK : Addr} {o1 : Obj} {kvs : List Value} {c : Nat} {ps : List (Str × Value)} {f : Int → Tr} {R : Int} {i : Nat} {m' : Str → Option Value} {s₁ : Shared} {tk : Nat}
    (F : Fr g L' h m') (N : News g L' h ((lK, listOf kvs.toArray c) :: (news ++ tl ++ own))) (hoff : OwnOff own (((lK, o1) :: (news ++ tl)).map (·.1))) (hfr : Fresh news tl) (hoK : ∀ p ∈ tl, p.1 ≠ lK) (hE : Each (PartIn P 59 tl) kvs (kidsTo f R i)) (hr : ¬ (i : Int) < R) (hm : ∀ p ∈ ps, m' p.1 = some p.2) :
    InvEndG g L' (MidJ P news lK ps f R (i + 1)) own s₁ { s₁ with heap := h, toks := tk } := by
  refine inv_end (nx := (lK, listOf kvs.toArray c) :: (news ++ tl)) F N hoff ⟨kvs, c, tl, rfl, hfr, hoK, ?_, hm⟩
  rw [kidsTo_succ, if_neg hr, List.append_nil]; exact hE

set_option maxRecDepth 100000 in
set_option maxHeartbeats 8000000 in
theorem mid_contract {w : World} {dp un : Nat} {gd : Option (List Code)} {cn : Str} {cs : Scope} {a : Addr} {ccd : Value} {cl : List (Str × Addr)} {outer : List Env} {A₀ : Around} {base h₀ : Heap} {L : Addr} {m : Str → Option Value} {news : Led} {s : Shared}
    {Q E : Value → Shared → Prop} {p : Program} {loose : List Str} {mean : ExcName → Option Value} {mg mb : Str → Option Value} {bs sh sz sf sd : Int} {t1 t2 t3 t4 t5 : Tok}
    (B : Below A₀ base outer h₀) (F : Fr h₀ L s.heap m) (X : (h0.heap_1_1 w.params).In h₀) (N : News h₀ L s.heap news) (T : Top p loose mean mg mb h₀) (hk : cs.kind = .function) (b1 : 0 ≤ sh) (b2 : sh < 12) (b3 : 0 ≤ sz) (b4 : sz < 9) (hd' : dp + 20 < recursionLimit) (hu : un + 1000 < cLine)
    (ret : ∀ r tl h' tk', Fr h₀ L h' m → News h₀ L h' (news ++ tl) → Fresh news tl → PartIn w.params 59 tl r (midT bs sh sz sf sd) → Q r { s with heap := h', toks := tk' }) :
    wpAny (model PySem.Challenge.rw_sx_vcanopyofobjects_7.row.prog w) (ktrTop dp un gd cn cs L a ccd cl outer) (call (.ref 291) [.int bs t1, .int sh t2, .int sz t3, .int sf t4, .int sd t5]) Q E s := by
  revert X; k_fill; intro X
  refine wpAny_call ?_
  k_dflt ktr_enter
  refine (let AA := _; (?_ : wpAny _ AA _ _ _ _))
  refine (let EE := _; (?_ : wpAny _ _ (execs _ EE) _ _ _))
  (repeat (first | ((with_reducible show wpAny _ _ (exec _ _) _ _ (Shared.mk _ _ _ (_ + 1) _)); refine tk_gen ?_; intro tk9) | ((with_reducible show wpAny _ _ (exec _ _) _ _ _); k_fold) | ((fail_if_success (with_reducible show wpAny _ _ (exec (Stmt.While _ _ _ _) _) _ _ _)); (fail_if_success (with_reducible show wpAny _ _ (exec (Stmt.For _ _ _ _ _) _) _ _ _)); (fail_if_success (with_reducible show wpAny _ _ (pyIter _) _ _ _)); (fail_if_success (with_reducible show wpAny _ _ (call (Value.ref 284) _) _ _ _)); (first | (k_unfold; (try dsimp only)) | walk1 | (dsimp only; walk1)))))
  (((rename Fr _ _ _ _ => lF9); (with_unfolding_all refine' For_invVF lF9 ?k1 ?k2 ?_; (case k1 => exact rfl); (case k2 => exact rfl)); (repeat (first | ((with_reducible show wpAny _ _ (exec _ _) _ _ (Shared.mk _ _ _ (_ + 1) _)); refine tk_gen ?_; intro tk9) | ((with_reducible show wpAny _ _ (exec _ _) _ _ _); k_fold) | ((fail_if_success (with_reducible show wpAny _ _ (exec (Stmt.While _ _ _ _) _) _ _ _)); (fail_if_success (with_reducible show wpAny _ _ (exec (Stmt.For _ _ _ _ _) _) _ _ _)); (fail_if_success (with_reducible show wpAny _ _ (pyIter _) _ _ _)); (fail_if_success (with_reducible show wpAny _ _ (call (Value.ref 284) _) _ _ _)); (first | (k_unfold; (try dsimp only)) | walk1 | (dsimp only; walk1)))))))
  (rename Fr _ _ _ _ => F1); (rename News _ _ _ _ => N1); (rename IsRange _ _ _ _ _ _ _ _ => R1)
  obtain ⟨lK, rfl⟩ := nm1 N1
  (rename ∀ (p : Addr × Obj), p ∈ news → p.1 < lK => l1)
  have e3 : Int.fmod sh 3 = sh % 3 := Int.fmod_eq_emod_of_nonneg _ (by decide)
  have e4 : Int.fdiv sh 3 = sh / 3 := Int.fdiv_eq_ediv_of_nonneg _ (by decide)
  rw [e3, e4] at F1
  have nK : ∀ p ∈ news, p.1 ≠ lK := fun p hp => Nat.ne_of_lt (l1 p hp)
  have n0 := Int.emod_nonneg sh (show (3 : Int) ≠ 0 by decide)
  have n3 := Int.emod_lt_of_pos sh (show (0 : Int) < 3 by decide)
  generalize hn : sh % 3 = n at F1 n0 n3
  generalize hR : roomOf n (sh / 3) = R at F1
  have hRb := roomOf_le (x := sh / 3) n0
  rw [hR] at hRb
  refine range_inv (n := 3) (MidJ w.params news lK [(Str.ofString "kids", .ref lK), (Str.ofString "room", .int R _), (Str.ofString "n", .int n _), (Str.ofString "base", .int bs t1), (Str.ofString "sizes", .int sz t3), (Str.ofString "shift", .int sf t4), (Str.ofString "seed", .int sd t5)] (leafT bs sf sd sz) R) rfl R1 (small_one (by omega) (by omega) (by omega) (by omega)) (by decide) F1 N1
    ⟨[], 0, [], by simp, .nil, by simp, .nil, by (repeat (first | exact List.forall_mem_nil _ | refine all_cons rfl ?_))⟩ ?_ ?_
  · clear F1 N1 R1
    rintro i tj m₂ nx h₂ tk₂ own hi hoff ⟨kvs, c, tl, rfl, hfr, hoK, hE, hm⟩ F1 N1
    have lkv : kvs.length ≤ 2 := by have h1 := hE.length; have h2 := kidsTo_le (leafT bs sf sd sz) R i; omega
    have F2 := fr_saidX hm F1
    dsimp only [kstB] at F2
    clear F1
    rw [show 0 + (i : Int) * 1 = (i : Int) by omega] at F2
    dsimp only [List.cons_append] at N1
    (repeat (first | ((with_reducible show wpAny _ _ (exec _ _) _ _ (Shared.mk _ _ _ (_ + 1) _)); refine tk_gen ?_; intro tk9) | ((with_reducible show wpAny _ _ (exec _ _) _ _ _); k_fold) | ((fail_if_success (with_reducible show wpAny _ _ (exec (Stmt.While _ _ _ _) _) _ _ _)); (fail_if_success (with_reducible show wpAny _ _ (exec (Stmt.For _ _ _ _ _) _) _ _ _)); (fail_if_success (with_reducible show wpAny _ _ (pyIter _) _ _ _)); (fail_if_success (with_reducible show wpAny _ _ (call (Value.ref 284) _) _ _ _)); (first | (k_unfold; (try dsimp only)) | walk1 | (dsimp only; walk1)))))
    · (rename IntsAre _ _ => hI); (rename News _ _ _ _ => N2); (rename Fr _ _ _ _ => F3); (rename _ ∧ _ ∧ _ ∧ AllLt _ _ => l4); (rename _ ∧ _ ∧ AllLt _ _ => l3)
      obtain ⟨lE, D, ws, rfl, rfl, rfl⟩ := nmW2 N2
      have es : Int.fmod (Int.fmod sz 3 + ↑i * Int.fdiv sz 3) 3 = sizeAt sz i := by
        rw [Int.fmod_eq_emod_of_nonneg _ (by decide), Int.fmod_eq_emod_of_nonneg _ (by decide), Int.fdiv_eq_ediv_of_nonneg _ (by decide)]; rfl
      rw [es] at hI
      have a1 : ∀ p ∈ own, p.1 ≠ lK := fun p hp => hoff p hp _ (by first | exact .head _ | exact .tail _ (.head _))
      refine' join_contract (nw := [(lE, listOf ([] : List Value).toArray 0), (D, listOf ws.toArray 0)]) (ts := []) ?k1 F3 ?k3 N2 ?k5 rfl ?hs ⟨ws, 0, .tail _ (.head _), hI⟩ (.head _) .nil (fun _ h => nomatch h) (take_len_le ..) (Nat.zero_le _) (Nat.le_trans (leafT_wt bs sf sd sz i) (by decide)) ?hd ?hu ?_
      case hd => ktr_room
      case hu => show un + 3 + 200 < cLine; omega
      case k1 => k_asm
      case k3 => k_asm
      case k5 => k_asm
      case hs => intro p hp; rcases List.mem_cons.mp hp with rfl | hp; · exact .head _
                 · rw [List.mem_singleton.mp hp]; exact .tail _ (.head _)
      clear F3 N2
      intro r tl2 h3 tk3 F3 N2 hf2 hP2
      dsimp only [List.cons_append] at N2
      have a2 : ∀ p ∈ tl2, p.1 ≠ lK := fun p hp => (hf2 p hp _ (.tail _ (.tail _ (.tail _ (.head _))))).symm
      (repeat (first | ((with_reducible show wpAny _ _ (exec _ _) _ _ (Shared.mk _ _ _ (_ + 1) _)); refine tk_gen ?_; intro tk9) | ((with_reducible show wpAny _ _ (exec _ _) _ _ _); k_fold) | ((fail_if_success (with_reducible show wpAny _ _ (exec (Stmt.While _ _ _ _) _) _ _ _)); (fail_if_success (with_reducible show wpAny _ _ (exec (Stmt.For _ _ _ _ _) _) _ _ _)); (fail_if_success (with_reducible show wpAny _ _ (pyIter _) _ _ _)); (fail_if_success (with_reducible show wpAny _ _ (call (Value.ref 284) _) _ _ _)); (first | (k_unfold; (try dsimp only)) | walk1 | (dsimp only; walk1)))))
      (rename News _ _ _ _ => N3); (rename Fr _ _ _ _ => F4)
      refine kids_end (o0 := listOf kvs.toArray c) (new := [(lE, listOf ([] : List Value).toArray 0), (D, listOf ws.toArray 0)] ++ tl2) F4 N3 (.tail _ (.tail _ (.tail _ (.head _)))) (fun p hp => .tail _ (.tail _ (.tail _ (.tail _ (sub_app _ hp))))) (fun p hp => ?_) ?_ hoff hfr hoK hE (by assumption) (hP2.mono sub_app) (by (repeat (first | exact List.forall_mem_nil _ | refine all_cons rfl ?_)))
      · rcases List.mem_append.mp hp with hp | hp
        · rcases List.mem_cons.mp hp with rfl | hp
          · exact .head _
          · rw [List.mem_singleton.mp hp]; exact .tail _ (.head _)
        · exact .tail _ (.tail _ (.tail _ (.tail _ (own_app _ hp))))
      · have l4' : AllLt lE ((lK, listOf kvs.toArray c) :: (news ++ tl ++ own)) := l4.2.2
        have l3' : AllLt D ((lK, listOf kvs.toArray c) :: (news ++ tl ++ own)) := l3.2
        exact (((hf2.sub fun p hp => .tail _ (.tail _ (.tail _ hp))).cons (lt_ne l3')).cons (lt_ne l4'))
    · (repeat (first | ((with_reducible show wpAny _ _ (exec _ _) _ _ (Shared.mk _ _ _ (_ + 1) _)); refine tk_gen ?_; intro tk9) | ((with_reducible show wpAny _ _ (exec _ _) _ _ _); k_fold) | ((fail_if_success (with_reducible show wpAny _ _ (exec (Stmt.While _ _ _ _) _) _ _ _)); (fail_if_success (with_reducible show wpAny _ _ (exec (Stmt.For _ _ _ _ _) _) _ _ _)); (fail_if_success (with_reducible show wpAny _ _ (pyIter _) _ _ _)); (fail_if_success (with_reducible show wpAny _ _ (call (Value.ref 284) _) _ _ _)); (first | (k_unfold; (try dsimp only)) | walk1 | (dsimp only; walk1)))))
      (rename News _ _ _ _ => N3); (rename Fr _ _ _ _ => F4)
      exact kids_skip F4 N3 hoff hfr hoK hE (by assumption) (by (repeat (first | exact List.forall_mem_nil _ | refine all_cons rfl ?_)))
  · clear F1 N1 R1
    rintro m₂ nx h₂ tk₂ ⟨kvs, c, tl, rfl, hfr, hoK, hE, hm⟩ F1 N1
    have F2 := fr_said hm F1
    dsimp only [kstB] at F2
    clear F1
    (repeat (first | ((with_reducible show wpAny _ _ (exec _ _) _ _ (Shared.mk _ _ _ (_ + 1) _)); refine tk_gen ?_; intro tk9) | ((with_reducible show wpAny _ _ (exec _ _) _ _ _); k_fold) | ((fail_if_success (with_reducible show wpAny _ _ (exec (Stmt.While _ _ _ _) _) _ _ _)); (fail_if_success (with_reducible show wpAny _ _ (exec (Stmt.For _ _ _ _ _) _) _ _ _)); (fail_if_success (with_reducible show wpAny _ _ (pyIter _) _ _ _)); (fail_if_success (with_reducible show wpAny _ _ (call (Value.ref 284) _) _ _ _)); (first | (k_unfold; (try dsimp only)) | walk1 | (dsimp only; walk1)))))
    (rename IntsAre _ _ => hI); (rename News _ _ _ _ => N2); (rename Fr _ _ _ _ => F3); (rename _ ∧ _ ∧ AllLt _ _ => l3)
    obtain ⟨D, ws, rfl, rfl⟩ := nmW1 N2
    have hmw := midT_wt bs sh sz sf sd
    have hok := midT_ok bs sh sz sf sd
    rw [midT, hn, hR] at hmw hok ret
    refine' join_contract (nw := [(D, listOf ws.toArray 0), (lK, listOf kvs.toArray c)] ++ tl) (kvs := kvs) (ts := kidsTo (leafT bs sf sd sz) R 3) ?k1 F3 ?k3 N2 ?k5 rfl ?hs ⟨ws, 0, sub_app _ (.head _), hI⟩ (sub_app _ (.tail _ (.head _))) (hE.mono fun v a _ h => h.mono own_app) ?ok (take_len_le ..) ?fit (Nat.le_trans hmw (by decide)) ?hd ?hu ?_
    case hd => ktr_room
    case hu => show un + 3 + 200 < cLine; omega
    case k1 => k_asm
    case k3 => k_asm
    case k5 => k_asm
    case ok => cases hok; assumption
    case fit => cases hok; assumption
    case hs => intro p hp; rcases List.mem_append.mp hp with hp | hp
               · rcases List.mem_cons.mp hp with rfl | hp
                 · exact .head _
                 · rw [List.mem_singleton.mp hp]; exact .tail _ (.tail _ (.head _))
               · exact .tail _ (.tail _ (.tail _ (own_app _ hp)))
    clear F3 N2
    intro r tl2 h3 tk3 F3 N2 hf2 hP2
    (repeat (first | ((with_reducible show wpAny _ _ (exec _ _) _ _ (Shared.mk _ _ _ (_ + 1) _)); refine tk_gen ?_; intro tk9) | ((with_reducible show wpAny _ _ (exec _ _) _ _ _); k_fold) | ((fail_if_success (with_reducible show wpAny _ _ (exec (Stmt.While _ _ _ _) _) _ _ _)); (fail_if_success (with_reducible show wpAny _ _ (exec (Stmt.For _ _ _ _ _) _) _ _ _)); (fail_if_success (with_reducible show wpAny _ _ (pyIter _) _ _ _)); (fail_if_success (with_reducible show wpAny _ _ (call (Value.ref 284) _) _ _ _)); (first | (k_unfold; (try dsimp only)) | walk1 | (dsimp only; walk1)))))
    (rename Fr h₀ L _ _ => kF); (rename News h₀ L _ _ => kN)
    refine ret _ ([(D, listOf ws.toArray 0), (lK, listOf kvs.toArray c)] ++ tl ++ tl2) _ _ kF (news_sub kN fun p hp => ?_) ?_ hP2
    · rcases List.mem_append.mp hp with hp | hp
      · exact .tail _ (.tail _ (.tail _ (sub_app _ (sub_app _ hp))))
      · rcases List.mem_append.mp hp with hp | hp
        · rcases List.mem_append.mp hp with hp | hp
          · rcases List.mem_cons.mp hp with rfl | hp
            · exact .head _
            · rw [List.mem_singleton.mp hp]; exact .tail _ (.tail _ (.head _))
          · exact .tail _ (.tail _ (.tail _ (sub_app _ (own_app _ hp))))
        · exact .tail _ (.tail _ (.tail _ (own_app _ hp)))
    · exact Fresh.app ((hfr.cons nK).cons (lt_ne (allLt_app l3.2.2).1)) (hf2.sub fun p hp => .tail _ (.tail _ (.tail _ (sub_app _ hp))))


theorem push2 (l : List Value) (a b : Value) : (l.toArray.push a).push b = (l ++ [a] ++ [b]).toArray := by rw [List.push_toArray, List.push_toArray]
theorem putStep_A {key value : Int} {ol : List Pr} {q : Pr} (h : key < q.1) (k : q.1 ≠ key) : putStep key value (ol, false) q = (ol ++ [(key, value)] ++ [q], true) := by simp [putStep, h, k]
theorem putStep_B {key value : Int} {ol : List Pr} {ob : Bool} {q : Pr} (h : ob = true ∨ ¬ key < q.1) (k : q.1 = key) : putStep key value (ol, ob) q = (ol ++ [(key, value)], true) := by
  have : ¬ (ob = false ∧ key < q.1) := by rintro ⟨rfl, h2⟩; rcases h with h | h; · cases h
                                          · exact h h2
  simp only [putStep]; rw [if_neg this, if_pos k]
theorem putStep_C {key value : Int} {ol : List Pr} {ob : Bool} {q : Pr} (h : ob = true ∨ ¬ key < q.1) (k : q.1 ≠ key) : putStep key value (ol, ob) q = (ol ++ [q], ob) := by
  have : ¬ (ob = false ∧ key < q.1) := by rintro ⟨rfl, h2⟩; rcases h with h | h; · cases h
                                          · exact h h2
  simp only [putStep]; rw [if_neg this, if_neg k]
theorem pickP {h₀ h : Heap} {L lO : Addr} {x1 : Addr × Obj} {ovs : List Value} {v : Value} {c : Nat} {a b : Led} (N : News h₀ L h (x1 :: (lO, listOf (ovs.toArray.push v) c) :: (a ++ b))) : News h₀ L h (a ++ ((lO, listOf (ovs ++ [v]).toArray c) :: x1 :: b)) := news_sub N fun p hp => by
  rw [← List.push_toArray] at hp
  rcases List.mem_append.mp hp with hp | hp
  · exact .tail _ (.tail _ (sub_app _ hp))
  · rcases List.mem_cons.mp hp with rfl | hp
    · exact .tail _ (.head _)
    · rcases List.mem_cons.mp hp with rfl | hp
      · exact .head _
      · exact .tail _ (.tail _ (own_app _ hp))
noncomputable def putAt (key value : Int) (ps : List Pr) (i : Nat) : List Pr × Bool := (ps.take i).foldl (putStep key value) ([], false)
theorem putAt_succ {key value : Int} {ps : List Pr} {i : Nat} {p : Pr} (h : ps[i]? = some p) : putAt key value ps (i + 1) = putStep key value (putAt key value ps i) p := by
  unfold putAt; rw [List.take_add_one, h, List.foldl_append]; rfl
theorem putStep_len (key value : Int) (c : List Pr × Bool) (p : Pr) : (putStep key value c p).1.length ≤ c.1.length + 2 := by
  unfold putStep; dsimp only
  split <;> split <;> simp
theorem putAt_len (key value : Int) (ps : List Pr) (i : Nat) : (putAt key value ps i).1.length ≤ 2 * i := by
  induction i with
  | zero => simp [putAt]
  | succ i ih =>
    by_cases h : i < ps.length
    · rw [putAt_succ (List.getElem?_eq_getElem h)]; have := putStep_len key value (putAt key value ps i) ps[i]; omega
    · have : putAt key value ps (i + 1) = putAt key value ps i := by unfold putAt; rw [List.take_of_length_le (by omega), List.take_of_length_le (by omega)]
      rw [this]; omega
inductive PutJ (nw news : Led) (lO : Addr) (xs : List (Str × Value)) (st : Nat → List Pr × Bool) (i : Nat) (m : Str → Option Value) (nx : Led) : Prop
  | mk (ovs : List Value) (c : Nat) (tl : Led) (f1 : nx = (lO, listOf ovs.toArray c) :: (news ++ tl)) (f2 : Fresh news tl) (f3 : (∀ p ∈ tl, p.1 ≠ lO)) (f4 : DatAll (nw ++ tl) ovs ((st i).1.map prD)) (f5 : m (Str.ofString "placed") = some (.bool (st i).2)) (f6 : ∀ p ∈ xs, m p.1 = some p.2) : PutJ nw news lO xs st i m nx
theorem put_fin {nw news tl own new l : Led} {g h : Heap} {L' lO pa : Addr} {o0 o1 : Obj} {ovs pvs : List Value} {A : Array Value} {c pn : Nat} {xs : List (Str × Value)} {st : Nat → List Pr × Bool} {i : Nat} {m' : Str → Option Value} {s₁ : Shared} {tk : Nat}
    (F : Fr g L' h m') (N : News g L' h l) (hK : (lO, listOf A c) ∈ l) (hA : A = ovs.toArray) (hsub : ∀ p ∈ news ++ tl ++ own, p ∈ l) (hnew : ∀ p ∈ new, p ∈ l) (hpa : (pa, listOf pvs.toArray pn) ∈ news)
    (hf : Fresh ((lO, o0) :: (news ++ tl ++ own)) new) (hoff : OwnOff own (((lO, o1) :: (news ++ tl)).map (·.1))) (hfr : Fresh news tl) (hoK : ∀ p ∈ tl, p.1 ≠ lO) (hD : DatAll (nw ++ (new ++ tl)) ovs ((st (i + 1)).1.map prD)) (hb : m' (Str.ofString "placed") = some (.bool (st (i + 1)).2)) (hm : ∀ p ∈ xs, m' p.1 = some p.2) :
    InvEndG g L' (fun m' nx => (pa, listOf pvs.toArray pn) ∈ nx ∧ PutJ nw news lO xs st (i + 1) m' nx) own s₁ { s₁ with heap := h, toks := tk } := by
  subst hA
  refine inv_end (nx := (lO, listOf ovs.toArray c) :: (news ++ (new ++ tl))) F (news_sub N fun p hp => ?_) ?_ ⟨.tail _ (sub_app _ hpa), ovs, c, new ++ tl, rfl, ?_, ?_, hD, hb, hm⟩
  · simp only [List.cons_append, List.mem_cons, List.mem_append] at hp
    rcases hp with h | (h | h | h) | h
    · rw [h]; exact hK
    · exact hsub _ (by simp [h])
    · exact hnew _ h
    · exact hsub _ (by simp [h])
    · exact hsub _ (by simp [h])
  · intro p hp b hb
    simp only [List.map_cons, List.map_append, List.mem_cons, List.mem_append] at hb
    have k : ∀ c, c ∈ ((lO, o1) :: (news ++ tl)).map (·.1) → p.1 ≠ c := fun c hc => hoff p hp c hc
    simp only [List.map_cons, List.map_append, List.mem_cons, List.mem_append] at k
    rcases hb with h1 | h1 | h1 | h1
    · exact k _ (.inl h1)
    · exact k _ (.inr (.inl h1))
    · obtain ⟨q, hq, rfl⟩ := List.mem_map.mp h1
      exact hf q hq p (.tail _ (own_app _ hp))
    · exact k _ (.inr (.inr h1))
  · exact (hf.sub fun p hp => .tail _ (sub_app _ (sub_app _ hp))).app hfr
  · exact all_app (fun p hp => (hf p hp (lO, o0) (.head _)).symm) hoK

set_option maxRecDepth 100000 in
set_option maxHeartbeats 8000000 in
theorem put_contract {w : World} {dp un : Nat} {gd : Option (List Code)} {cn : Str} {cs : Scope} {a : Addr} {ccd : Value} {cl : List (Str × Addr)} {outer : List Env} {A₀ : Around} {base h₀ : Heap} {L : Addr} {m : Str → Option Value} {nw news : Led} {s : Shared}
    {Q E : Value → Shared → Prop} {p : Program} {loose : List Str} {mean : ExcName → Option Value} {mg mb : Str → Option Value} {pa : Addr} {key value : Int} {t1 t2 : Tok} {ps : List Pr}
    (B : Below A₀ base outer h₀) (F : Fr h₀ L s.heap m) (X : (h0.heap_1_1 w.params).In h₀) (N : News h₀ L s.heap news) (T : Top p loose mean mg mb h₀) (hk : cs.kind = .function)
    (hs : ∀ p ∈ nw, p ∈ news) (hP : PrsIn nw pa ps) (hl : ps.length ≤ 100) (hd' : dp + 8 < recursionLimit) (hu : un + 200 < cLine)
    (ret : ∀ r tl h' tk', Fr h₀ L h' m → News h₀ L h' (news ++ tl) → Fresh news tl → PrsIn (nw ++ tl) r (putEnd key value (ps.foldl (putStep key value) ([], false))) → Q (.ref r) { s with heap := h', toks := tk' }) :
    wpAny (model PySem.Challenge.rw_sx_vcanopyofobjects_7.row.prog w) (ktrTop dp un gd cn cs L a ccd cl outer) (call (.ref 266) [.ref pa, .int key t1, .int value t2]) Q E s := by
  revert X; k_fill; intro X
  refine wpAny_call ?_
  k_dflt ktr_enter
  refine (let AA := _; (?_ : wpAny _ AA _ _ _ _))
  refine (let EE := _; (?_ : wpAny _ _ (execs _ EE) _ _ _))
  obtain ⟨pvs, pn, mp, jp⟩ := hP
  have mp' := hs _ mp
  have lp := jp.length
  rw [List.length_map] at lp
  (repeat (first | ((with_reducible show wpAny _ _ (exec _ _) _ _ (Shared.mk _ _ _ (_ + 1) _)); refine tk_gen ?_; intro tk9) | ((with_reducible show wpAny _ _ (exec _ _) _ _ _); k_fold) | ((fail_if_success (with_reducible show wpAny _ _ (exec (Stmt.While _ _ _ _) _) _ _ _)); (fail_if_success (with_reducible show wpAny _ _ (exec (Stmt.For _ _ _ _ _) _) _ _ _)); (fail_if_success (with_reducible show wpAny _ _ (pyIter _) _ _ _)); (first | (k_unfold; (try dsimp only)) | walk1 | (dsimp only; walk1)))))
  (((rename Fr _ _ _ _ => lF9); (with_unfolding_all refine' For_invVF lF9 ?k1 ?k2 ?_; (case k1 => exact rfl); (case k2 => exact rfl)); (repeat (first | ((with_reducible show wpAny _ _ (exec _ _) _ _ (Shared.mk _ _ _ (_ + 1) _)); refine tk_gen ?_; intro tk9) | ((with_reducible show wpAny _ _ (exec _ _) _ _ _); k_fold) | ((fail_if_success (with_reducible show wpAny _ _ (exec (Stmt.While _ _ _ _) _) _ _ _)); (fail_if_success (with_reducible show wpAny _ _ (exec (Stmt.For _ _ _ _ _) _) _ _ _)); (fail_if_success (with_reducible show wpAny _ _ (pyIter _) _ _ _)); (first | (k_unfold; (try dsimp only)) | walk1 | (dsimp only; walk1)))))))
  (rename Fr _ _ _ _ => F1); (rename News _ _ _ _ => N1)
  obtain ⟨lO, rfl⟩ := nm1 N1
  (rename ∀ (p : Addr × Obj), p ∈ news → p.1 < lO => l1)
  have nO : ∀ p ∈ news, p.1 ≠ lO := fun p hp => Nat.ne_of_lt (l1 p hp)
  let Inv1 : Nat → (Str → Option Value) → Led → Prop := (PutJ nw news lO [(Str.ofString "out", .ref lO), (Str.ofString "key", .int key t1), (Str.ofString "value", .int value t2)] (putAt key value ps))
  refine kdl_iter Inv1 rfl (.tail _ mp') F1 N1 ⟨[], 0, [], by simp, .nil, by simp, by simpa [putAt] using DatAll.nil, rfl, by (repeat (first | exact List.forall_mem_nil _ | refine all_cons rfl ?_))⟩ ?_ ?_
  · clear F1 N1
    rintro i v m₂ nx h₂ tk₂ own hv hoff hin ⟨ovs, c, tl, rfl, hfr, hoK, hD, hb, hm⟩ F1 N1
    obtain ⟨d, hdd, hdv⟩ := datGet jp hv
    rw [List.getElem?_map] at hdd
    cases hq : ps[i]? with
    | none => rw [hq] at hdd; cases hdd
    | some q =>
      rw [hq] at hdd
      cases hdd
      have hst := putAt_succ (key := key) (value := value) hq
      obtain ⟨qa, qt1, qt2, qn, rfl, mqa⟩ := pr_open hdv
      have mqa' : _ ∈ news ++ tl ++ own := sub_app _ (sub_app _ (hs _ mqa))
      have li := (List.getElem?_eq_some_iff.mp hq).1
      have lo := putAt_len key value ps i
      have ld := hD.length
      rw [List.length_map] at ld
      have a1 : ∀ p ∈ own, p.1 ≠ lO := fun p hp => hoff p hp _ (by first | exact .head _ | exact .tail _ (.head _))
      generalize hc : putAt key value ps i = cc at hst hb hD lo ld
      obtain ⟨ol, ob⟩ := cc
      dsimp only at hb hD lo ld
      have F2 := fr_saidX (ps := [(Str.ofString "placed", .bool ob), (Str.ofString "out", .ref lO), (Str.ofString "key", .int key t1), (Str.ofString "value", .int value t2)]) (all_cons hb hm) F1
      dsimp only [kstB] at F2
      clear F1
      dsimp only [List.cons_append] at N1
      cases ob
      · (repeat' (first | ((with_reducible show wpAny _ _ (exec _ _) _ _ (Shared.mk _ _ _ (_ + 1) _)); refine tk_gen ?_; intro tk9) | ((with_reducible show wpAny _ _ (exec _ _) _ _ _); k_fold) | ((fail_if_success (with_reducible show wpAny _ _ (exec (Stmt.While _ _ _ _) _) _ _ _)); (fail_if_success (with_reducible show wpAny _ _ (exec (Stmt.For _ _ _ _ _) _) _ _ _)); (fail_if_success (with_reducible show wpAny _ _ (pyIter _) _ _ _)); (first | (k_unfold; (try dsimp only)) | walk1 | (dsimp only; walk1)))))
        · have hst : putAt key value ps (i + 1) = (ol ++ [(key, value)] ++ [q], true) := by
            rw [hst]; exact putStep_A (by assumption) (by omega)
          (rename Fr _ _ _ _ => F3); (rename News _ _ _ _ => N3); (rename _ ∧ AllLt _ _ => l2)
          have l2' : AllLt _ ((lO, listOf ovs.toArray c) :: (news ++ tl ++ own)) := l2
          refine put_fin (ovs := ovs ++ [_] ++ [_]) (new := [_]) F3 N3 (.tail _ (.head _)) (push2 ..) (fun p hp => .tail _ (.tail _ hp)) (fun p hp => by rw [List.mem_singleton.mp hp]; exact .head _) mp' (Fresh.of_lt l2') hoff hfr hoK ?_ (by rw [hst]; rfl) (by (repeat (first | exact List.forall_mem_nil _ | refine all_cons rfl ?_)))
          rw [hst, List.map_append, List.map_append]
          exact ((hD.mono fun p hp => (List.mem_append.mp hp).elim (sub_app _) fun h => own_app _ (.tail _ h)).append (.one (datPr (own_app _ (.head _))))).append (.one (hdv.mono sub_app))
        · have hst : putAt key value ps (i + 1) = (ol ++ [(key, value)], true) := by
            rw [hst]; exact putStep_B (.inr (by assumption)) (by assumption)
          (rename Fr _ _ _ _ => F3); (rename News _ _ _ _ => N3); (rename _ ∧ AllLt _ _ => l2)
          have l2' : AllLt _ ((lO, listOf ovs.toArray c) :: (news ++ tl ++ own)) := l2
          refine put_fin (ovs := ovs ++ [_]) (new := [_]) F3 N3 (.tail _ (.head _)) (List.push_toArray ..) (fun p hp => .tail _ (.tail _ hp)) (fun p hp => by rw [List.mem_singleton.mp hp]; exact .head _) mp' (Fresh.of_lt l2') hoff hfr hoK ?_ (by rw [hst]; rfl) (by (repeat (first | exact List.forall_mem_nil _ | refine all_cons rfl ?_)))
          rw [hst, List.map_append]
          exact (hD.mono fun p hp => (List.mem_append.mp hp).elim (sub_app _) fun h => own_app _ (.tail _ h)).append (.one (datPr (own_app _ (.head _))))
        · have hst : putAt key value ps (i + 1) = (ol ++ [q], false) := by
            rw [hst]; exact putStep_C (.inr (by assumption)) (by assumption)
          (rename Fr _ _ _ _ => F3); (rename News _ _ _ _ => N3)
          refine put_fin (ovs := ovs ++ [_]) (new := []) (o0 := listOf ovs.toArray c) F3 N3 (.head _) (List.push_toArray ..) (fun p hp => .tail _ hp) (fun p hp => nomatch hp) mp' Fresh.nil hoff hfr hoK ?_ (by rw [hst]; rfl) (by (repeat (first | exact List.forall_mem_nil _ | refine all_cons rfl ?_)))
          rw [hst, List.map_append]
          exact hD.append (.one (hdv.mono sub_app))
      · (repeat' (first | ((with_reducible show wpAny _ _ (exec _ _) _ _ (Shared.mk _ _ _ (_ + 1) _)); refine tk_gen ?_; intro tk9) | ((with_reducible show wpAny _ _ (exec _ _) _ _ _); k_fold) | ((fail_if_success (with_reducible show wpAny _ _ (exec (Stmt.While _ _ _ _) _) _ _ _)); (fail_if_success (with_reducible show wpAny _ _ (exec (Stmt.For _ _ _ _ _) _) _ _ _)); (fail_if_success (with_reducible show wpAny _ _ (pyIter _) _ _ _)); (first | (k_unfold; (try dsimp only)) | walk1 | (dsimp only; walk1)))))
        · have hst : putAt key value ps (i + 1) = (ol ++ [(key, value)], true) := by
            rw [hst]; exact putStep_B (.inl rfl) (by assumption)
          (rename Fr _ _ _ _ => F3); (rename News _ _ _ _ => N3); (rename _ ∧ AllLt _ _ => l2)
          have l2' : AllLt _ ((lO, listOf ovs.toArray c) :: (news ++ tl ++ own)) := l2
          refine put_fin (ovs := ovs ++ [_]) (new := [_]) F3 N3 (.tail _ (.head _)) (List.push_toArray ..) (fun p hp => .tail _ (.tail _ hp)) (fun p hp => by rw [List.mem_singleton.mp hp]; exact .head _) mp' (Fresh.of_lt l2') hoff hfr hoK ?_ (by rw [hst]; rfl) (by (repeat (first | exact List.forall_mem_nil _ | refine all_cons rfl ?_)))
          rw [hst, List.map_append]
          exact (hD.mono fun p hp => (List.mem_append.mp hp).elim (sub_app _) fun h => own_app _ (.tail _ h)).append (.one (datPr (own_app _ (.head _))))
        · have hst : putAt key value ps (i + 1) = (ol ++ [q], true) := by
            rw [hst]; exact putStep_C (.inl rfl) (by assumption)
          (rename Fr _ _ _ _ => F3); (rename News _ _ _ _ => N3)
          refine put_fin (ovs := ovs ++ [_]) (new := []) (o0 := listOf ovs.toArray c) F3 N3 (.head _) (List.push_toArray ..) (fun p hp => .tail _ hp) (fun p hp => nomatch hp) mp' Fresh.nil hoff hfr hoK ?_ (by rw [hst]; rfl) (by (repeat (first | exact List.forall_mem_nil _ | refine all_cons rfl ?_)))
          rw [hst, List.map_append]
          exact hD.append (.one (hdv.mono sub_app))
  · clear F1 N1
    rintro m₂ nx h₂ tk₂ ⟨ovs, c, tl, rfl, hfr, hoK, hD, hb, hm⟩ F1 N1
    have hall : putAt key value ps pvs.length = ps.foldl (putStep key value) ([], false) := by unfold putAt; rw [lp, List.take_length]
    have lo := putAt_len key value ps pvs.length
    have ld := hD.length
    rw [List.length_map] at ld
    rw [hall] at hb hD ld lo
    generalize ps.foldl (putStep key value) ([], false) = cc at hb hD ld lo ret
    obtain ⟨ol, ob⟩ := cc
    dsimp only at hb hD lo ld
    have F2 := fr_said (ps := [(Str.ofString "placed", .bool ob), (Str.ofString "out", .ref lO), (Str.ofString "key", .int key t1), (Str.ofString "value", .int value t2)]) (all_cons hb hm) F1
    dsimp only [kstB] at F2
    clear F1
    cases ob
    · (repeat' (first | ((with_reducible show wpAny _ _ (exec _ _) _ _ (Shared.mk _ _ _ (_ + 1) _)); refine tk_gen ?_; intro tk9) | ((with_reducible show wpAny _ _ (exec _ _) _ _ _); k_fold) | ((fail_if_success (with_reducible show wpAny _ _ (exec (Stmt.While _ _ _ _) _) _ _ _)); (fail_if_success (with_reducible show wpAny _ _ (exec (Stmt.For _ _ _ _ _) _) _ _ _)); (fail_if_success (with_reducible show wpAny _ _ (pyIter _) _ _ _)); (first | (k_unfold; (try dsimp only)) | walk1 | (dsimp only; walk1)))))
      (rename Fr h₀ L _ _ => kF); (rename News h₀ L _ _ => kN); (rename _ ∧ AllLt _ _ => l2)
      refine ret lO _ _ _ kF (pickP kN) ((hfr.cons (lt_ne (allLt_app l2.2).1)).cons nO) ⟨_, _, own_app _ (.head _), ?_⟩
      · show DatAll _ _ ((ol ++ [(key, value)]).map prD)
        rw [List.map_append]
        exact (hD.mono fun p hp => (List.mem_append.mp hp).elim (sub_app _) fun h => own_app _ (.tail _ (.tail _ h))).append (.one (datPr (own_app _ (.tail _ (.head _)))))
    · (repeat' (first | ((with_reducible show wpAny _ _ (exec _ _) _ _ (Shared.mk _ _ _ (_ + 1) _)); refine tk_gen ?_; intro tk9) | ((with_reducible show wpAny _ _ (exec _ _) _ _ _); k_fold) | ((fail_if_success (with_reducible show wpAny _ _ (exec (Stmt.While _ _ _ _) _) _ _ _)); (fail_if_success (with_reducible show wpAny _ _ (exec (Stmt.For _ _ _ _ _) _) _ _ _)); (fail_if_success (with_reducible show wpAny _ _ (pyIter _) _ _ _)); (first | (k_unfold; (try dsimp only)) | walk1 | (dsimp only; walk1)))))
      (rename Fr h₀ L _ _ => kF); (rename News h₀ L _ _ => kN)
      refine ret lO ((lO, listOf ovs.toArray c) :: tl) _ _ kF (news_sub kN fun p hp => ?_) (hfr.cons nO) ⟨_, _, own_app _ (.head _), hD.mono fun p hp => (List.mem_append.mp hp).elim (sub_app _) fun h => own_app _ (.tail _ h)⟩
      · rcases List.mem_append.mp hp with hp | hp
        · exact .tail _ (sub_app _ hp)
        · rcases List.mem_cons.mp hp with rfl | hp
          · exact .head _
          · exact .tail _ (own_app _ hp)


set_option maxRecDepth 100000 in
set_option maxHeartbeats 8000000 in
theorem del_contract {w : World} {dp un : Nat} {gd : Option (List Code)} {cn : Str} {cs : Scope} {a : Addr} {ccd : Value} {cl : List (Str × Addr)} {outer : List Env} {A₀ : Around} {base h₀ : Heap} {L : Addr} {m : Str → Option Value} {nw news : Led} {s : Shared}
    {Q E : Value → Shared → Prop} {p : Program} {loose : List Str} {mean : ExcName → Option Value} {mg mb : Str → Option Value} {pa : Addr} {key : Int} {t1 : Tok} {ps : List Pr}
    (B : Below A₀ base outer h₀) (F : Fr h₀ L s.heap m) (X : (h0.heap_1_1 w.params).In h₀) (N : News h₀ L s.heap news) (T : Top p loose mean mg mb h₀) (hk : cs.kind = .function)
    (hs : ∀ p ∈ nw, p ∈ news) (hP : PrsIn nw pa ps) (hl : ps.length ≤ 100) (hd' : dp + 8 < recursionLimit) (hu : un + 200 < cLine)
    (ret : ∀ r tl h' tk', Fr h₀ L h' m → News h₀ L h' (news ++ tl) → Fresh news tl → PrsIn (nw ++ tl) r (ps.filter fun p => decide (p.1 ≠ key)) → Q (.ref r) { s with heap := h', toks := tk' }) :
    wpAny (model PySem.Challenge.rw_sx_vcanopyofobjects_7.row.prog w) (ktrTop dp un gd cn cs L a ccd cl outer) (call (.ref 271) [.ref pa, .int key t1]) Q E s := by
  revert X; k_fill; intro X
  refine wpAny_call ?_
  k_dflt (refine' code_defC ?k1 ?k2 ?k3 ?k4 ?k5 ?kA ?kF ?kK ?k6 ?k7 ?k8 ?k9 ?kB ?kD ?_ ?c2 ?c3 ?c4; (case kA => exact rfl); (case kF => exact rfl); (case kK => assumption); (case k1 => k_asm); (case k2 => k_asm); (case k3 => k_asm); (case k4 => k_asm); (case k5 => k_asm); (case k6 => k_is); (case k7 => k_is); (case k8 => ktr_room); (case k9 => exact BindsTo.of_eq rfl); (case kB => exact rfl); (case kD => decide +kernel); (case c2 => exact rfl); (case c3 => exact rfl); (case c4 => exact rfl); k_whole; intro g' L' h' tk' cells' FG' F' N' Y' B' X' T' l1; k_cells Y'; (try simp only [List.cons_append, List.nil_append] at N'); (try dsimp only); (try k_fold))
  rename_i oK dK
  have dK : oK.data = .cell (some (.int key t1)) := dK
  obtain ⟨pvs, pn, mp, jp⟩ := hP
  have mp' := hs _ mp
  (repeat (first | ((with_reducible show wpAny _ _ (exec _ _) _ _ (Shared.mk _ _ _ (_ + 1) _)); refine tk_gen ?_; intro tk9) | ((with_reducible show wpAny _ _ (exec _ _) _ _ _); k_fold) | ((fail_if_success (with_reducible show wpAny _ _ (exec (Stmt.While _ _ _ _) _) _ _ _)); (fail_if_success (with_reducible show wpAny _ _ (exec (Stmt.For _ _ _ _ _) _) _ _ _)); (fail_if_success (with_reducible show wpAny _ _ (pyIter _) _ _ _)); (first | (k_unfold; (try dsimp only)) | walk1 | (dsimp only; walk1)))))
  (rename Fr g' L' _ _ => F1); (rename News g' L' _ _ => N1)
  refine filt_led (nw := nw) (fun p => decide (p.1 ≠ key)) rfl F1 N1 (fun p hp => .tail _ (hs p hp)) mp jp (by omega) ?_ ?_
  · clear F1 N1
    intro q qa q1 q2 qn ys I oI C oC D m₂ h tk E' mqa hC hx F1 N1 off ne
    (repeat' (first | ((with_reducible show wpAny _ _ (exec _ _) _ _ (Shared.mk _ _ _ (_ + 1) _)); refine tk_gen ?_; intro tk9) | ((with_reducible show wpAny _ _ (exec _ _) _ _ _); k_fold) | ((fail_if_success (with_reducible show wpAny _ _ (exec (Stmt.While _ _ _ _) _) _ _ _)); (fail_if_success (with_reducible show wpAny _ _ (exec (Stmt.For _ _ _ _ _) _) _ _ _)); (fail_if_success (with_reducible show wpAny _ _ (pyIter _) _ _ _)); (first | (k_unfold; (try dsimp only)) | walk1 | (dsimp only; walk1)))))
    · (rename Fr g' L' _ _ => F2); (rename News g' L' _ _ => N2)
      exact FiltEnd.intro ⟨by simpa using by assumption, rfl⟩ F2 N2
    · (rename Fr g' L' _ _ => F2); (rename News g' L' _ _ => N2)
      exact FiltEnd.intro (by simpa using by assumption) F2 N2
  · clear F1 N1
    intro g ys hD D h₃ tk₃ F1 N1 off
    (repeat (first | ((with_reducible show wpAny _ _ (exec _ _) _ _ (Shared.mk _ _ _ (_ + 1) _)); refine tk_gen ?_; intro tk9) | ((with_reducible show wpAny _ _ (exec _ _) _ _ _); k_fold) | ((fail_if_success (with_reducible show wpAny _ _ (exec (Stmt.While _ _ _ _) _) _ _ _)); (fail_if_success (with_reducible show wpAny _ _ (exec (Stmt.For _ _ _ _ _) _) _ _ _)); (fail_if_success (with_reducible show wpAny _ _ (pyIter _) _ _ _)); (first | (k_unfold; (try dsimp only)) | walk1 | (dsimp only; walk1)))))
    (rename Fr h₀ L _ _ => kF); (rename News h₀ L _ _ => kN)
    refine ret D [(D, lst ys)] _ _ kF (news_sub kN fun p hp => ?_) (Fresh.cons .nil fun q hq => off1_ne _ off q (.tail _ hq)) ⟨ys, _, own_app _ (.head _), hD.mono sub_app⟩
    rcases List.mem_append.mp hp with hp | hp
    · exact .tail _ (.tail _ hp)
    · rw [List.mem_singleton.mp hp]; exact .head _



set_option maxRecDepth 100000 in
set_option maxHeartbeats 8000000 in
theorem mpairs_contract {w : World} {dp un : Nat} {gd : Option (List Code)} {cn : Str} {cs : Scope} {a : Addr} {ccd : Value} {cl : List (Str × Addr)} {outer : List Env} {A₀ : Around} {base h₀ : Heap} {L : Addr} {m : Str → Option Value} {nw news : Led} {s : Shared}
    {Q E : Value → Shared → Prop} {p : Program} {loose : List Str} {mean : ExcName → Option Value} {mg mb : Str → Option Value} {mA rx : Addr} {tv sz : Value} {t : Tr}
    (B : Below A₀ base outer h₀) (F : Fr h₀ L s.heap m) (X : (h0.heap_1_1 w.params).In h₀) (N : News h₀ L s.heap news) (T : Top p loose mean mg mb h₀) (hk : cs.kind = .function)
    (hs : ∀ p ∈ nw, p ∈ news) (hM : MapIn w.params nw mA tv (.ref rx) sz) (hR : TreeIn w.params 59 nw t (.ref rx)) (ok : t.Ok) (hw : t.wt ≤ 1000) (hd' : dp + 20 < recursionLimit) (hu : un + 1000 < cLine)
    (ret : ∀ o tl h' tk', Fr h₀ L h' m → News h₀ L h' (news ++ tl) → Fresh news tl → PrsIn tl o t.pairs → Q (.ref o) { s with heap := h', toks := tk' }) :
    wpAny (model PySem.Challenge.rw_sx_vcanopyofobjects_7.row.prog w) (ktrTop dp un gd cn cs L a ccd cl outer) (call (.ref 175) [.ref mA]) Q E s := by
  revert X; k_fill; intro X
  refine wpAny_call ?_
  k_dflt ktr_enter
  refine (let EE := _; (?_ : wpAny _ _ (execs _ EE) _ _ _))
  obtain ⟨dx, n0, t₁, t₂, t₃, m1, m2⟩ := hM
  have m1' := hs _ m1; have m2' := hs _ m2
  (repeat (first | ((with_reducible show wpAny _ _ (exec _ _) _ _ (Shared.mk _ _ _ (_ + 1) _)); refine tk_gen ?_; intro tk9) | ((with_reducible show wpAny _ _ (exec _ _) _ _ _); k_fold) | ((fail_if_success (with_reducible show wpAny _ _ (exec (Stmt.While _ _ _ _) _) _ _ _)); (fail_if_success (with_reducible show wpAny _ _ (exec (Stmt.For _ _ _ _ _) _) _ _ _)); (fail_if_success (with_reducible show wpAny _ _ (pyIter _) _ _ _)); (fail_if_success (with_reducible show wpAny _ _ (call (Value.ref 252) _) _ _ _)); (fail_if_success (with_reducible show wpAny _ _ (call (Value.ref 175) _) _ _ _)); (fail_if_success (with_reducible show wpAny _ _ (compareOp CmpOp.NotEq (Value.ref _) (Value.ref _)) _ _ _)); (fail_if_success (with_reducible show wpAny _ _ (call (Value.ref 284) _) _ _ _)); (fail_if_success (with_reducible show wpAny _ _ (call (Value.ref 291) _) _ _ _)); (fail_if_success (with_reducible show wpAny _ _ (call (Value.ref 245) _) _ _ _)); (fail_if_success (with_reducible show wpAny _ _ (call (Value.ref 168) _) _ _ _)); (fail_if_success (with_reducible show wpAny _ _ (call (Value.ref 210) _) _ _ _)); (fail_if_success (with_reducible show wpAny _ _ (call (Value.ref 266) _) _ _ _)); (fail_if_success (with_reducible show wpAny _ _ (call (Value.ref 271) _) _ _ _)); (first | (k_unfold; (try dsimp only)) | walk1 | (dsimp only; walk1)))))
  (rename News _ _ _ _ => N3); (rename Fr _ _ _ _ => F3)
  k_dflt (refine' pairs_contract (nw := nw) ?k1 ?k2 ?k3 ?k4 ?k5 ?k6 ?ks hR ok hw ?hd ?hu ?_; (case k1 => k_asm); (case k2 => k_asm); (case k3 => k_asm); (case k4 => k_asm); (case k5 => k_asm); (case k6 => first | exact rfl | assumption); (case ks => exact hs); (case hd => ktr_room); (case hu => (show un + 3 + 200 < cLine; omega)); k_whole)
  clear F3 N3
  intro o tl h3 tk3 F3 N3 hf hP
  (repeat (first | ((with_reducible show wpAny _ _ (exec _ _) _ _ (Shared.mk _ _ _ (_ + 1) _)); refine tk_gen ?_; intro tk9) | ((with_reducible show wpAny _ _ (exec _ _) _ _ _); k_fold) | ((fail_if_success (with_reducible show wpAny _ _ (exec (Stmt.While _ _ _ _) _) _ _ _)); (fail_if_success (with_reducible show wpAny _ _ (exec (Stmt.For _ _ _ _ _) _) _ _ _)); (fail_if_success (with_reducible show wpAny _ _ (pyIter _) _ _ _)); (fail_if_success (with_reducible show wpAny _ _ (call (Value.ref 252) _) _ _ _)); (fail_if_success (with_reducible show wpAny _ _ (call (Value.ref 175) _) _ _ _)); (fail_if_success (with_reducible show wpAny _ _ (compareOp CmpOp.NotEq (Value.ref _) (Value.ref _)) _ _ _)); (fail_if_success (with_reducible show wpAny _ _ (call (Value.ref 284) _) _ _ _)); (fail_if_success (with_reducible show wpAny _ _ (call (Value.ref 291) _) _ _ _)); (fail_if_success (with_reducible show wpAny _ _ (call (Value.ref 245) _) _ _ _)); (fail_if_success (with_reducible show wpAny _ _ (call (Value.ref 168) _) _ _ _)); (fail_if_success (with_reducible show wpAny _ _ (call (Value.ref 210) _) _ _ _)); (fail_if_success (with_reducible show wpAny _ _ (call (Value.ref 266) _) _ _ _)); (fail_if_success (with_reducible show wpAny _ _ (call (Value.ref 271) _) _ _ _)); (first | (k_unfold; (try dsimp only)) | walk1 | (dsimp only; walk1)))))
  (rename Fr h₀ L _ _ => kF); (rename News h₀ L _ _ => kN)
  exact ret _ tl _ _ kF kN hf hP

set_option maxRecDepth 100000 in
set_option maxHeartbeats 8000000 in
theorem mflat_contract {w : World} {dp un : Nat} {gd : Option (List Code)} {cn : Str} {cs : Scope} {a : Addr} {ccd : Value} {cl : List (Str × Addr)} {outer : List Env} {A₀ : Around} {base h₀ : Heap} {L : Addr} {m : Str → Option Value} {nw news : Led} {s : Shared}
    {Q E : Value → Shared → Prop} {p : Program} {loose : List Str} {mean : ExcName → Option Value} {mg mb : Str → Option Value} {mA rx : Addr} {tv : Int} {tt : Tok} {sz : Value} {t : Tr}
    (B : Below A₀ base outer h₀) (F : Fr h₀ L s.heap m) (X : (h0.heap_1_1 w.params).In h₀) (N : News h₀ L s.heap news) (T : Top p loose mean mg mb h₀) (hk : cs.kind = .function)
    (hs : ∀ p ∈ nw, p ∈ news) (hM : MapIn w.params nw mA (.int tv tt) (.ref rx) sz) (hR : TreeIn w.params 59 nw t (.ref rx)) (ok : t.Ok) (hw : t.wt ≤ 1000) (hd' : dp + 20 < recursionLimit) (hu : un + 1000 < cLine)
    (ret : ∀ o tl h' tk', Fr h₀ L h' m → News h₀ L h' (news ++ tl) → Fresh news tl → IntsIn tl o (tv :: t.flat) → Q (.ref o) { s with heap := h', toks := tk' }) :
    wpAny (model PySem.Challenge.rw_sx_vcanopyofobjects_7.row.prog w) (ktrTop dp un gd cn cs L a ccd cl outer) (call (.ref 252) [.ref mA]) Q E s := by
  revert X; k_fill; intro X
  refine wpAny_call ?_
  k_dflt ktr_enter
  refine (let EE := _; (?_ : wpAny _ _ (execs _ EE) _ _ _))
  obtain ⟨dx, n0, t₁, t₂, t₃, m1, m2⟩ := hM
  have m1' := hs _ m1; have m2' := hs _ m2
  have hfl := flat_length ok
  (repeat (first | ((with_reducible show wpAny _ _ (exec _ _) _ _ (Shared.mk _ _ _ (_ + 1) _)); refine tk_gen ?_; intro tk9) | ((with_reducible show wpAny _ _ (exec _ _) _ _ _); k_fold) | ((fail_if_success (with_reducible show wpAny _ _ (exec (Stmt.While _ _ _ _) _) _ _ _)); (fail_if_success (with_reducible show wpAny _ _ (exec (Stmt.For _ _ _ _ _) _) _ _ _)); (fail_if_success (with_reducible show wpAny _ _ (pyIter _) _ _ _)); (fail_if_success (with_reducible show wpAny _ _ (call (Value.ref 252) _) _ _ _)); (fail_if_success (with_reducible show wpAny _ _ (call (Value.ref 175) _) _ _ _)); (fail_if_success (with_reducible show wpAny _ _ (compareOp CmpOp.NotEq (Value.ref _) (Value.ref _)) _ _ _)); (fail_if_success (with_reducible show wpAny _ _ (call (Value.ref 284) _) _ _ _)); (fail_if_success (with_reducible show wpAny _ _ (call (Value.ref 291) _) _ _ _)); (fail_if_success (with_reducible show wpAny _ _ (call (Value.ref 245) _) _ _ _)); (fail_if_success (with_reducible show wpAny _ _ (call (Value.ref 168) _) _ _ _)); (fail_if_success (with_reducible show wpAny _ _ (call (Value.ref 210) _) _ _ _)); (fail_if_success (with_reducible show wpAny _ _ (call (Value.ref 266) _) _ _ _)); (fail_if_success (with_reducible show wpAny _ _ (call (Value.ref 271) _) _ _ _)); (first | (k_unfold; (try dsimp only)) | walk1 | (dsimp only; walk1)))))
  (rename News _ _ _ _ => N3); (rename Fr _ _ _ _ => F3)
  rename_i D z1 l1
  k_dflt (refine' flat_contract (nw := nw) ?k1 ?k2 ?k3 ?k4 ?k5 ?k6 ?ks hR ok hw ?hd ?hu ?_; (case k1 => k_asm); (case k2 => k_asm); (case k3 => k_asm); (case k4 => k_asm); (case k5 => k_asm); (case k6 => first | exact rfl | assumption); (case ks => exact fun p hp => .tail _ (hs p hp)); (case hd => ktr_room); (case hu => (show un + 3 + 200 < cLine; omega)); k_whole)
  clear F3 N3
  intro o vs n h3 tk3 F3 N3 l2 hI
  have hl := hI.length
  (repeat (first | ((with_reducible show wpAny _ _ (exec _ _) _ _ (Shared.mk _ _ _ (_ + 1) _)); refine tk_gen ?_; intro tk9) | ((with_reducible show wpAny _ _ (exec _ _) _ _ _); k_fold) | ((fail_if_success (with_reducible show wpAny _ _ (exec (Stmt.While _ _ _ _) _) _ _ _)); (fail_if_success (with_reducible show wpAny _ _ (exec (Stmt.For _ _ _ _ _) _) _ _ _)); (fail_if_success (with_reducible show wpAny _ _ (pyIter _) _ _ _)); (fail_if_success (with_reducible show wpAny _ _ (call (Value.ref 252) _) _ _ _)); (fail_if_success (with_reducible show wpAny _ _ (call (Value.ref 175) _) _ _ _)); (fail_if_success (with_reducible show wpAny _ _ (compareOp CmpOp.NotEq (Value.ref _) (Value.ref _)) _ _ _)); (fail_if_success (with_reducible show wpAny _ _ (call (Value.ref 284) _) _ _ _)); (fail_if_success (with_reducible show wpAny _ _ (call (Value.ref 291) _) _ _ _)); (fail_if_success (with_reducible show wpAny _ _ (call (Value.ref 245) _) _ _ _)); (fail_if_success (with_reducible show wpAny _ _ (call (Value.ref 168) _) _ _ _)); (fail_if_success (with_reducible show wpAny _ _ (call (Value.ref 210) _) _ _ _)); (fail_if_success (with_reducible show wpAny _ _ (call (Value.ref 266) _) _ _ _)); (fail_if_success (with_reducible show wpAny _ _ (call (Value.ref 271) _) _ _ _)); (first | (k_unfold; (try dsimp only)) | walk1 | (dsimp only; walk1)))))
  (rename Fr h₀ L _ _ => kF); (rename News h₀ L _ _ => kN); (rename IntsAre _ ([tv] ++ t.flat) => hI2); (rename _ ∧ _ ∧ AllLt _ _ => l3)
  refine ret _ [(_, W.listOf _ 0)] _ _ kF (news_sub kN fun p hp => ?_) (Fresh.of_lt l3.2.2) ⟨_, 0, .head _, hI2⟩
  rcases List.mem_append.mp hp with hp | hp
  · exact .tail _ (.tail _ (.tail _ hp))
  · rw [List.mem_singleton.mp hp]; exact .head _



/-- a state of the law: its names, its ledger -/
inductive LawSt (h₀ : Heap) (L : Addr) (s₁ : Shared) (xs : List (Str × Value)) (led : Led) (s' : Shared) : Prop
  | mk (m : Str → Option Value) (h : Heap) (tk : Nat) (f1 : s' = { s₁ with heap := h, toks := tk }) (f2 : (∀ p ∈ xs, m p.1 = some p.2)) (f3 : Fr h₀ L h m) (f4 : News h₀ L h led) : LawSt h₀ L s₁ xs led s'
noncomputable def LawV (tv n x sd sf lo hi key va a0 a1 a2 z0 z1 z2 : Int) : Prop := (0 ≤ n ∧ n < 3) ∧ (0 ≤ a0 ∧ a0 < 12) ∧ (0 ≤ a1 ∧ a1 < 12) ∧ (0 ≤ a2 ∧ a2 < 12) ∧ (0 ≤ z0 ∧ z0 < 9) ∧ (0 ≤ z1 ∧ z1 < 9) ∧ (0 ≤ z2 ∧ z2 < 9) ∧ (-1 ≤ lo ∧ lo < 13) ∧ (-3 ≤ hi ∧ hi < 30)
theorem fmod_bd (a : Int) {b : Int} (h : 0 < b) : 0 ≤ Int.fmod a b ∧ Int.fmod a b < b := by
  rw [Int.fmod_eq_emod_of_nonneg _ (Int.le_of_lt h)]
  exact ⟨Int.emod_nonneg _ (by omega), Int.emod_lt_of_pos _ h⟩
abbrev Names (t1 t2 t3 t4 t5 t6 : Tok) (aS aZ : Addr) (tv n R sd sf va : Int) : List (Str × Value) :=
  [(Str.ofString "t", .int tv t1), (Str.ofString "n", .int n t2), (Str.ofString "room", .int R t3), (Str.ofString "shapes", .ref aS), (Str.ofString "sizes", .ref aZ), (Str.ofString "seed", .int sd t4), (Str.ofString "shift", .int sf t5), (Str.ofString "value", .int va t6)]
inductive Mid1 (h₀ : Heap) (L : Addr) (s₁ : Shared) (s' : Shared) : Prop
  | mk (tv n x sd sf lo hi key va a0 a1 a2 z0 z1 z2 : Int) (t1 t2 t3 t4 t5 t6 t7 t8 t9 : Tok) (aS aZ lK : Addr) (vS vZ : List Value) (oLo oHi oKy : Obj) (f1 : LawV tv n x sd sf lo hi key va a0 a1 a2 z0 z1 z2) (f2 : oLo.data = .cell (some (.int lo t7))) (f3 : oHi.data = .cell (some (.int hi t8))) (f4 : oKy.data = .cell (some (.int key t9))) (f5 : IntsAre vS [a0, a1, a2]) (f6 : IntsAre vZ [z0, z1, z2]) (f7 : (∀ p ∈ [(aZ, listOf vZ.toArray 0), (aS, listOf vS.toArray 0), (L + 1 + 1 + 1, oKy), (L + 1 + 1, oHi), (L + 1, oLo)], p.1 ≠ lK)) (f8 : LawSt h₀ L s₁ ((Str.ofString "kids", .ref lK) :: Names t1 t2 t3 t4 t5 t6 aS aZ tv n (roomOf n x) sd sf va) [(lK, listOf #[] 0), (aZ, listOf vZ.toArray 0), (aS, listOf vS.toArray 0), (L + 1 + 1 + 1, oKy), (L + 1 + 1, oHi), (L + 1, oLo)] s') : Mid1 h₀ L s₁ s'
noncomputable def shAt (a b c : Int) (j : Int) : Int := [a, b, c].getD j.toNat 0
theorem shAt_bd {a b c u : Int} (ha : 0 ≤ a ∧ a < u) (hb : 0 ≤ b ∧ b < u) (hc : 0 ≤ c ∧ c < u) {i : Nat} (hi : i < 3) : 0 ≤ shAt a b c i ∧ shAt a b c i < u := by
  rcases (by omega : i = 0 ∨ i = 1 ∨ i = 2) with rfl | rfl | rfl
  · exact ha
  · exact hb
  · exact hc
inductive Mid2 (P : Params) (h₀ : Heap) (L : Addr) (s₁ : Shared) (lK : Addr) (nm : List (Str × Value)) (n R sd sf a0 a1 a2 z0 z1 z2 : Int) (oLo oHi oKy : Obj) (s' : Shared) : Prop
  | mk (nw : Led) (kvs : List Value) (c : Nat) (tp : Addr) (f1 : (L + 1, oLo) ∈ nw) (f2 : (L + 1 + 1, oHi) ∈ nw) (f3 : (L + 1 + 1 + 1, oKy) ∈ nw) (f4 : (lK, listOf kvs.toArray c) ∈ nw) (f5 : Each (PartIn P 59 nw) kvs (kidsTo (fun j => midT (12 * j) (shAt a0 a1 a2 j) (shAt z0 z1 z2 j) sf sd) R 3)) (f6 : PartIn P 59 nw (.ref tp) (topT n R sd sf (shAt a0 a1 a2) (shAt z0 z1 z2))) (f7 : LawSt h₀ L s₁ ((Str.ofString "top", .ref tp) :: (Str.ofString "kids", .ref lK) :: nm) nw s') : Mid2 P h₀ L s₁ lK nm n R sd sf a0 a1 a2 z0 z1 z2 oLo oHi oKy s'
abbrev MapDict (P : Params) (u1 u2 u3 : Tok) (tv rt sz : Value) (n : Nat) : Obj :=
  dictOf [⟨PyData.keyHash P (Str.ofString "t"), .str (Str.ofString "t") u1, tv⟩, ⟨PyData.keyHash P (Str.ofString "root"), .str (Str.ofString "root") u2, rt⟩, ⟨PyData.keyHash P (Str.ofString "size"), .str (Str.ofString "size") u3, sz⟩] n
inductive MidA (P : Params) (h₀ : Heap) (L : Addr) (s₁ : Shared) (nm : List (Str × Value)) (nw : Led) (tv : Int) (t1 : Tok) (s' : Shared) : Prop
  | mk (mA dM x0 : Addr) (rest : Led) (u1 u2 u3 u4 : Tok) (f1 : (∀ p ∈ nw, p ∈ rest)) (f2 : (∀ p ∈ rest, p.1 ≠ dM)) (f3 : (mA, instObj 255 dM) ∈ rest) (f4 : TreeIn P 59 rest (.node [] [] []) (.ref x0)) (f5 : LawSt h₀ L s₁ ((Str.ofString "m", .ref mA) :: nm) ((dM, MapDict P u1 u2 u3 (.int tv t1) (.ref x0) (.int 0 u4) 3) :: rest) s') : MidA P h₀ L s₁ nm nw tv t1 s'

theorem midA_intro {P : Params} {h₀ h : Heap} {L : Addr} {s₁ : Shared} {nm : List (Str × Value)} {nw : Led} {tv : Int} {t1 : Tok} {mA dM x0 d0 k0 v0 c0 : Addr} {nd n1 n2 n3 : Nat} {u1 u2 u3 u4 w1 w2 w3 : Tok} {m' : Str → Option Value} {tk : Nat}
    (F : Fr h₀ L h m') (N : News h₀ L h ((x0, instObj 59 d0) :: (d0, dictOf [⟨PyData.keyHash P (Str.ofString "key_row"), .str (Str.ofString "key_row") w1, .ref k0⟩, ⟨PyData.keyHash P (Str.ofString "value_row"), .str (Str.ofString "value_row") w2, .ref v0⟩, ⟨PyData.keyHash P (Str.ofString "children"), .str (Str.ofString "children") w3, .ref c0⟩] nd) :: (c0, W.listOf #[] n3) :: (v0, W.listOf #[] n2) :: (k0, W.listOf #[] n1) :: (mA, instObj 255 dM) :: (dM, MapDict P u1 u2 u3 (.int tv t1) (.ref x0) (.int 0 u4) 3) :: nw))
    (l1 : ∀ p ∈ nw, p.1 < dM) (l2 : @LT.lt Nat _ dM mA) (l3 : @LT.lt Nat _ dM k0) (l4 : @LT.lt Nat _ dM v0) (l5 : @LT.lt Nat _ dM c0) (l6 : @LT.lt Nat _ dM d0) (l7 : @LT.lt Nat _ dM x0) (hm : ∀ p ∈ (Str.ofString "m", .ref mA) :: nm, m' p.1 = some p.2) :
    MidA P h₀ L s₁ nm nw tv t1 { s₁ with heap := h, toks := tk } := by
  refine ⟨mA, dM, x0, (x0, instObj 59 d0) :: (d0, dictOf [⟨PyData.keyHash P (Str.ofString "key_row"), .str (Str.ofString "key_row") w1, .ref k0⟩, ⟨PyData.keyHash P (Str.ofString "value_row"), .str (Str.ofString "value_row") w2, .ref v0⟩, ⟨PyData.keyHash P (Str.ofString "children"), .str (Str.ofString "children") w3, .ref c0⟩] nd) :: (c0, W.listOf #[] n3) :: (v0, W.listOf #[] n2) :: (k0, W.listOf #[] n1) :: (mA, instObj 255 dM) :: nw, u1, u2, u3, u4, fun p hp => .tail _ (.tail _ (.tail _ (.tail _ (.tail _ (.tail _ hp))))), ?_, .tail _ (.tail _ (.tail _ (.tail _ (.tail _ (.head _))))), ?_, m', h, tk, rfl, hm, F, news_sub N fun p hp => ?_⟩
  · exact all_cons (Nat.ne_of_gt l7) (all_cons (Nat.ne_of_gt l6) (all_cons (Nat.ne_of_gt l5) (all_cons (Nat.ne_of_gt l4) (all_cons (Nat.ne_of_gt l3) (all_cons (Nat.ne_of_gt l2) (fun p hp => Nat.ne_of_lt (l1 p hp)))))))
  · exact treeIn_node.mpr ⟨x0, k0, v0, c0, [], n3, rfl, ⟨d0, nd, w1, w2, w3, .head _, .tail _ (.head _)⟩, ⟨[], n1, .tail _ (.tail _ (.tail _ (.tail _ (.head _)))), .nil⟩, ⟨[], n2, .tail _ (.tail _ (.tail _ (.head _))), .nil⟩, .tail _ (.tail _ (.head _)), .nil⟩
  · exact (List.perm_middle (l₁ := [_, _, _, _, _, _])).mem_iff.mpr hp

theorem tabL : PySem.Challenge.rw_sx_vcanopyofobjects_7.row.prog.tablesWhole = true := h0._proof_1_4
theorem postL (args : List WData) : PySem.Challenge.rw_sx_vcanopyofobjects_7.row.toRowW.claim.post args (.bool true) args = true := by
  refine postW_of (X := true) (by rfl) ?_ rfl
  show WTm.value _ (.eq .res (.lit (.bool true))) _ = _
  simp [WTm.value, W.same]
set_option maxRecDepth 100000 in
set_option maxHeartbeats 8000000 in
theorem law_holds : PySem.Challenge.rw_sx_vcanopyofobjects_7.Holds := by
  w_on
  refine holds_law saidL fun said => ?_
  refine holds_open (q := h0.view_1_2) (loose := []) (Xt := fun s => xlAt h0.view_1_2 [] s && recOk (RowW.records (OpenRow.toRowW PySem.Challenge.rw_sx_vcanopyofobjects_7.row)) s) (XP := XL h0.view_1_2 []) (Yf := Hook.obs H0) (Ya := Hook.val H0) (YP := Hook.says H0) (N := 3376) hl (Hook.of H0) (Hook.keeps H0) (fun s e => xl_of s (Bool.and_eq_true_iff.mp e).1) XL.keeps (by rfl) (by rfl) (by rfl) (fun s e => recFacts_of (Bool.and_eq_true_iff.mp e).2) (by rfl) said (by decide +kernel) ⟨rfl, rfl, rfl, rfl, rfl, tabL⟩ ?hw ?hc
  case hw => w_witness2
  clear said
  k_go0
  all_goals (try k_fold)
  dsimp only
  rename_i w s₀ s₁ mg mb G Y fa o pm doc ho hg KX X V GL T TB TE TW w1 w2 M w3 w4 hcd ns hs0 hlay0 hLy hr0 hl2 w6 w7 ar vs w8 hL ra wl r0 hI hr1 hc1 hc2 K0 hD h₁ tk₁ F o1 o2 o3 d1 d2 d3 N0 X0
  replace KX : (h0.heap_1_1 w.params).In s₁.heap := KX
  revert KX; k_fill; intro KX
  (repeat (first | ((with_reducible show wpAny _ _ (exec _ _) _ _ (Shared.mk _ _ _ (_ + 1) _)); refine tk_gen ?_; intro tk9) | ((with_reducible show wpAny _ _ (exec _ _) _ _ _); k_fold) | ((with_reducible show wpAny _ _ (exec _ _) _ _ _); (fail_if_success (with_reducible show wpAny _ _ (exec (Stmt.While _ _ _ _) _) _ _ _)); (fail_if_success (with_reducible show wpAny _ _ (exec (Stmt.For _ _ _ _ _) _) _ _ _)); (first | (k_unfold; (try dsimp only)) | walk1 | (dsimp only; walk1))) | ((with_reducible show wpAny _ _ (call (Value.ref _) _) _ _ _); (fail_if_success (with_reducible show wpAny _ _ (call (Value.ref 42) _) _ _ _)); (fail_if_success (with_reducible show wpAny _ _ (call (Value.ref 252) _) _ _ _)); (fail_if_success (with_reducible show wpAny _ _ (call (Value.ref 175) _) _ _ _)); (fail_if_success (with_reducible show wpAny _ _ (call (Value.ref 284) _) _ _ _)); (fail_if_success (with_reducible show wpAny _ _ (call (Value.ref 291) _) _ _ _)); (fail_if_success (with_reducible show wpAny _ _ (call (Value.ref 245) _) _ _ _)); (fail_if_success (with_reducible show wpAny _ _ (call (Value.ref 168) _) _ _ _)); (fail_if_success (with_reducible show wpAny _ _ (call (Value.ref 210) _) _ _ _)); (fail_if_success (with_reducible show wpAny _ _ (call (Value.ref 266) _) _ _ _)); (fail_if_success (with_reducible show wpAny _ _ (call (Value.ref 271) _) _ _ _)); (first | (k_unfold; (try dsimp only)) | walk1 | (dsimp only; walk1))) | ((fail_if_success (with_reducible show wpAny _ _ (exec _ _) _ _ _)); (fail_if_success (with_reducible show wpAny _ _ (call (Value.ref _) _) _ _ _)); (fail_if_success (with_reducible show wpAny _ _ (pyIter _) _ _ _)); (fail_if_success (with_reducible show wpAny _ _ (subscriptTail _ (PySem.Expr.Slice _ _ _ _) _ _) _ _ _)); (fail_if_success (with_reducible show wpAny _ _ (compareOp CmpOp.NotEq (Value.ref _) (Value.ref _)) _ _ _)); (first | (k_unfold; (try dsimp only)) | walk1 | (dsimp only; walk1)))))
  · k_end; wrow_close
  · repeat ((fail_if_success (with_reducible show wpAny _ _ (execs (_ :: _) _) _ _ _)); (first | walk1 | (dsimp only; walk1) | dsimp only))
    let Cut1 : Shared → Prop := (Mid1 s₁.heap s₁.heap.objs.size s₁)
    with_unfolding_all refine' execs_cut (l := [_, _, _, _, _, _, _, _, _, _, _, _]) (rest := [_, _, _, _, _, _, _, _, _, _, _, _, _, _, _, _, _, _, _, _, _, _, _, _, _, _]) Cut1 ?_ ?_
    · (repeat (first | ((with_reducible show wpAny _ _ (exec _ _) _ _ (Shared.mk _ _ _ (_ + 1) _)); refine tk_gen ?_; intro tk9) | ((with_reducible show wpAny _ _ (exec _ _) _ _ _); k_fold) | ((with_reducible show wpAny _ _ (exec _ _) _ _ _); (fail_if_success (with_reducible show wpAny _ _ (exec (Stmt.While _ _ _ _) _) _ _ _)); (fail_if_success (with_reducible show wpAny _ _ (exec (Stmt.For _ _ _ _ _) _) _ _ _)); (first | (k_unfold; (try dsimp only)) | walk1 | (dsimp only; walk1))) | ((with_reducible show wpAny _ _ (call (Value.ref _) _) _ _ _); (fail_if_success (with_reducible show wpAny _ _ (call (Value.ref 42) _) _ _ _)); (fail_if_success (with_reducible show wpAny _ _ (call (Value.ref 252) _) _ _ _)); (fail_if_success (with_reducible show wpAny _ _ (call (Value.ref 175) _) _ _ _)); (fail_if_success (with_reducible show wpAny _ _ (call (Value.ref 284) _) _ _ _)); (fail_if_success (with_reducible show wpAny _ _ (call (Value.ref 291) _) _ _ _)); (fail_if_success (with_reducible show wpAny _ _ (call (Value.ref 245) _) _ _ _)); (fail_if_success (with_reducible show wpAny _ _ (call (Value.ref 168) _) _ _ _)); (fail_if_success (with_reducible show wpAny _ _ (call (Value.ref 210) _) _ _ _)); (fail_if_success (with_reducible show wpAny _ _ (call (Value.ref 266) _) _ _ _)); (fail_if_success (with_reducible show wpAny _ _ (call (Value.ref 271) _) _ _ _)); (first | (k_unfold; (try dsimp only)) | walk1 | (dsimp only; walk1))) | ((fail_if_success (with_reducible show wpAny _ _ (exec _ _) _ _ _)); (fail_if_success (with_reducible show wpAny _ _ (call (Value.ref _) _) _ _ _)); (fail_if_success (with_reducible show wpAny _ _ (pyIter _) _ _ _)); (fail_if_success (with_reducible show wpAny _ _ (subscriptTail _ (PySem.Expr.Slice _ _ _ _) _ _) _ _ _)); (fail_if_success (with_reducible show wpAny _ _ (compareOp CmpOp.NotEq (Value.ref _) (Value.ref _)) _ _ _)); (first | (k_unfold; (try dsimp only)) | walk1 | (dsimp only; walk1)))))
      (rename Fr _ _ _ _ => F1); (rename News _ _ _ _ => N1)
      refine ⟨rfl, _, _, _, _, _, _, _, _, _, _, _, _, _, _, _, _, _, _, _, _, _, _, _, _, _, _, _, [_, _, _], [_, _, _], _, _, _, ?v, by assumption, by assumption, by assumption, .cons _ _ (.cons _ _ (.cons _ _ .nil)), .cons _ _ (.cons _ _ (.cons _ _ .nil)), ?off, _, _, _, rfl, all_cons rfl (all_cons rfl (all_cons rfl (all_cons rfl (all_cons rfl (all_cons rfl (all_cons rfl (all_cons rfl (all_cons rfl (List.forall_mem_nil _))))))))), F1, N1⟩
      case v =>
        refine ⟨fmod_bd _ (by decide), fmod_bd _ (by decide), fmod_bd _ (by decide), fmod_bd _ (by decide), fmod_bd _ (by decide), fmod_bd _ (by decide), fmod_bd _ (by decide), ?_, ?_⟩
        · have h1 := fmod_bd (ns.getD (Int.toNat 11) 0) (show (0:Int) < 14 by decide); omega
        · have h1 := fmod_bd (ns.getD (Int.toNat 11) 0) (show (0:Int) < 14 by decide); have h2 := fmod_bd (ns.getD (Int.toNat 12) 0) (show (0:Int) < 14 by decide); omega
      case off =>
        (rename _ ∧ _ ∧ _ ∧ _ ∧ _ => l5)
        exact all_cons (Nat.ne_of_lt l5.1) (all_cons (Nat.ne_of_lt l5.2.1) (all_cons (Nat.ne_of_lt l5.2.2.1) (all_cons (Nat.ne_of_lt l5.2.2.2.1) (all_cons (Nat.ne_of_lt l5.2.2.2.2) (List.forall_mem_nil _)))))
    · (try clear X0); (try clear N0); (try clear F); (try clear d1 d2 d3)
      rintro s' ⟨tv, n, x, sd, sf, lo, hi, key, va, a0, a1, a2, z0, z1, z2, t1, t2, t3, t4, t5, t6, t7, t8, t9, aS, aZ, lK, vS, vZ, oLo, oHi, oKy, hV, dLo, dHi, dKy, iS, iZ, offK, m₁, h1, tk1, rfl, hm, F1, N1⟩
      obtain ⟨nw0, hnw0⟩ : ∃ nw0 : Led, nw0 = [(aZ, listOf vZ.toArray 0), (aS, listOf vS.toArray 0), (s₁.heap.objs.size + 1 + 1 + 1, oKy), (s₁.heap.objs.size + 1 + 1, oHi), (s₁.heap.objs.size + 1, oLo)] := ⟨_, rfl⟩
      have uZ : (aZ, listOf vZ.toArray 0) ∈ nw0 := by rw [hnw0]; exact .head _
      have uS : (aS, listOf vS.toArray 0) ∈ nw0 := by rw [hnw0]; exact .tail _ (.head _)
      have uK : (s₁.heap.objs.size + 1 + 1 + 1, oKy) ∈ nw0 := by rw [hnw0]; exact .tail _ (.tail _ (.head _))
      have uH : (s₁.heap.objs.size + 1 + 1, oHi) ∈ nw0 := by rw [hnw0]; exact .tail _ (.tail _ (.tail _ (.head _)))
      have uL : (s₁.heap.objs.size + 1, oLo) ∈ nw0 := by rw [hnw0]; exact .tail _ (.tail _ (.tail _ (.tail _ (.head _))))
      rw [← hnw0] at N1 offK
      clear hnw0
      generalize hR : roomOf n x = R at hm
      have hRb := roomOf_le (x := x) hV.1.1
      rw [hR] at hRb
      have hn3 := hV.1.2
      have hn0 := hV.1.1
      let Cut2 : Shared → Prop := (Mid2 w.params s₁.heap s₁.heap.objs.size s₁ lK (Names t1 t2 t3 t4 t5 t6 aS aZ tv n R sd sf va) n R sd sf a0 a1 a2 z0 z1 z2 oLo oHi oKy)
      with_unfolding_all refine' execs_cut (l := [_, _]) (rest := [_, _, _, _, _, _, _, _, _, _, _, _, _, _, _, _, _, _, _, _, _, _, _, _]) Cut2 ?_ ?_
      · have F2 := fr_said hm F1
        dsimp only [kstB] at F2
        clear F1
        (repeat (first | ((with_reducible show wpAny _ _ (exec _ _) _ _ (Shared.mk _ _ _ (_ + 1) _)); refine tk_gen ?_; intro tk9) | ((with_reducible show wpAny _ _ (exec _ _) _ _ _); k_fold) | ((with_reducible show wpAny _ _ (exec _ _) _ _ _); (fail_if_success (with_reducible show wpAny _ _ (exec (Stmt.While _ _ _ _) _) _ _ _)); (fail_if_success (with_reducible show wpAny _ _ (exec (Stmt.For _ _ _ _ _) _) _ _ _)); (first | (k_unfold; (try dsimp only)) | walk1 | (dsimp only; walk1))) | ((with_reducible show wpAny _ _ (call (Value.ref _) _) _ _ _); (fail_if_success (with_reducible show wpAny _ _ (call (Value.ref 42) _) _ _ _)); (fail_if_success (with_reducible show wpAny _ _ (call (Value.ref 252) _) _ _ _)); (fail_if_success (with_reducible show wpAny _ _ (call (Value.ref 175) _) _ _ _)); (fail_if_success (with_reducible show wpAny _ _ (call (Value.ref 284) _) _ _ _)); (fail_if_success (with_reducible show wpAny _ _ (call (Value.ref 291) _) _ _ _)); (fail_if_success (with_reducible show wpAny _ _ (call (Value.ref 245) _) _ _ _)); (fail_if_success (with_reducible show wpAny _ _ (call (Value.ref 168) _) _ _ _)); (fail_if_success (with_reducible show wpAny _ _ (call (Value.ref 210) _) _ _ _)); (fail_if_success (with_reducible show wpAny _ _ (call (Value.ref 266) _) _ _ _)); (fail_if_success (with_reducible show wpAny _ _ (call (Value.ref 271) _) _ _ _)); (first | (k_unfold; (try dsimp only)) | walk1 | (dsimp only; walk1))) | ((fail_if_success (with_reducible show wpAny _ _ (exec _ _) _ _ _)); (fail_if_success (with_reducible show wpAny _ _ (call (Value.ref _) _) _ _ _)); (fail_if_success (with_reducible show wpAny _ _ (pyIter _) _ _ _)); (fail_if_success (with_reducible show wpAny _ _ (subscriptTail _ (PySem.Expr.Slice _ _ _ _) _ _) _ _ _)); (fail_if_success (with_reducible show wpAny _ _ (compareOp CmpOp.NotEq (Value.ref _) (Value.ref _)) _ _ _)); (first | (k_unfold; (try dsimp only)) | walk1 | (dsimp only; walk1)))))
        (((rename Fr _ _ _ _ => lF9); (with_unfolding_all refine' For_invVF lF9 ?k1 ?k2 ?_; (case k1 => exact rfl); (case k2 => exact rfl)); (repeat (first | ((with_reducible show wpAny _ _ (exec _ _) _ _ (Shared.mk _ _ _ (_ + 1) _)); refine tk_gen ?_; intro tk9) | ((with_reducible show wpAny _ _ (exec _ _) _ _ _); k_fold) | ((with_reducible show wpAny _ _ (exec _ _) _ _ _); (fail_if_success (with_reducible show wpAny _ _ (exec (Stmt.While _ _ _ _) _) _ _ _)); (fail_if_success (with_reducible show wpAny _ _ (exec (Stmt.For _ _ _ _ _) _) _ _ _)); (first | (k_unfold; (try dsimp only)) | walk1 | (dsimp only; walk1))) | ((with_reducible show wpAny _ _ (call (Value.ref _) _) _ _ _); (fail_if_success (with_reducible show wpAny _ _ (call (Value.ref 42) _) _ _ _)); (fail_if_success (with_reducible show wpAny _ _ (call (Value.ref 252) _) _ _ _)); (fail_if_success (with_reducible show wpAny _ _ (call (Value.ref 175) _) _ _ _)); (fail_if_success (with_reducible show wpAny _ _ (call (Value.ref 284) _) _ _ _)); (fail_if_success (with_reducible show wpAny _ _ (call (Value.ref 291) _) _ _ _)); (fail_if_success (with_reducible show wpAny _ _ (call (Value.ref 245) _) _ _ _)); (fail_if_success (with_reducible show wpAny _ _ (call (Value.ref 168) _) _ _ _)); (fail_if_success (with_reducible show wpAny _ _ (call (Value.ref 210) _) _ _ _)); (fail_if_success (with_reducible show wpAny _ _ (call (Value.ref 266) _) _ _ _)); (fail_if_success (with_reducible show wpAny _ _ (call (Value.ref 271) _) _ _ _)); (first | (k_unfold; (try dsimp only)) | walk1 | (dsimp only; walk1))) | ((fail_if_success (with_reducible show wpAny _ _ (exec _ _) _ _ _)); (fail_if_success (with_reducible show wpAny _ _ (call (Value.ref _) _) _ _ _)); (fail_if_success (with_reducible show wpAny _ _ (pyIter _) _ _ _)); (fail_if_success (with_reducible show wpAny _ _ (subscriptTail _ (PySem.Expr.Slice _ _ _ _) _ _) _ _ _)); (fail_if_success (with_reducible show wpAny _ _ (compareOp CmpOp.NotEq (Value.ref _) (Value.ref _)) _ _ _)); (first | (k_unfold; (try dsimp only)) | walk1 | (dsimp only; walk1)))))))
        (rename Fr _ _ _ _ => F1); (rename News _ _ _ _ => N2); (rename IsRange _ _ _ _ _ _ _ _ => R1)
        let Inv3 : Nat → (Str → Option Value) → Led → Prop := (MidJ w.params nw0 lK ((Str.ofString "kids", .ref lK) :: Names t1 t2 t3 t4 t5 t6 aS aZ tv n R sd sf va) (fun j => midT (12 * j) (shAt a0 a1 a2 j) (shAt z0 z1 z2 j) sf sd) R)
        refine range_inv (n := 3) Inv3 rfl R1 (small_one (by omega) (by omega) (by omega) (by omega)) (by decide) F1 N2
          ⟨[], 0, [], by simp, .nil, by simp, .nil, by (repeat (first | exact List.forall_mem_nil _ | refine all_cons rfl ?_))⟩ ?_ ?_
        · clear F1 N2 R1
          rintro i tj m₂ nx h₂ tk₂ own hi' hoff ⟨kvs, c, tl, rfl, hfr, hoK, hE, hm'⟩ F1 N2
          have lkv : kvs.length ≤ 2 := by have h1 := hE.length; have h2 := kidsTo_le (fun j => midT (12 * j) (shAt a0 a1 a2 j) (shAt z0 z1 z2 j) sf sd) R i; omega
          have F2 := fr_saidX hm' F1
          dsimp only [kstB] at F2
          clear F1
          rw [show 0 + (i : Int) * 1 = (i : Int) by omega] at F2
          dsimp only [List.cons_append] at N2
          have uZ' : (aZ, listOf vZ.toArray 0) ∈ nw0 ++ tl ++ own := sub_app _ (sub_app _ uZ)
          have uS' : (aS, listOf vS.toArray 0) ∈ nw0 ++ tl ++ own := sub_app _ (sub_app _ uS)
          have k3 : ([a0, a1, a2].length : Int) = 3 := rfl
          have k4 : ([z0, z1, z2].length : Int) = 3 := rfl
          (repeat (first | ((with_reducible show wpAny _ _ (exec _ _) _ _ (Shared.mk _ _ _ (_ + 1) _)); refine tk_gen ?_; intro tk9) | ((with_reducible show wpAny _ _ (exec _ _) _ _ _); k_fold) | ((with_reducible show wpAny _ _ (exec _ _) _ _ _); (fail_if_success (with_reducible show wpAny _ _ (exec (Stmt.While _ _ _ _) _) _ _ _)); (fail_if_success (with_reducible show wpAny _ _ (exec (Stmt.For _ _ _ _ _) _) _ _ _)); (first | (k_unfold; (try dsimp only)) | walk1 | (dsimp only; walk1))) | ((with_reducible show wpAny _ _ (call (Value.ref _) _) _ _ _); (fail_if_success (with_reducible show wpAny _ _ (call (Value.ref 42) _) _ _ _)); (fail_if_success (with_reducible show wpAny _ _ (call (Value.ref 252) _) _ _ _)); (fail_if_success (with_reducible show wpAny _ _ (call (Value.ref 175) _) _ _ _)); (fail_if_success (with_reducible show wpAny _ _ (call (Value.ref 284) _) _ _ _)); (fail_if_success (with_reducible show wpAny _ _ (call (Value.ref 291) _) _ _ _)); (fail_if_success (with_reducible show wpAny _ _ (call (Value.ref 245) _) _ _ _)); (fail_if_success (with_reducible show wpAny _ _ (call (Value.ref 168) _) _ _ _)); (fail_if_success (with_reducible show wpAny _ _ (call (Value.ref 210) _) _ _ _)); (fail_if_success (with_reducible show wpAny _ _ (call (Value.ref 266) _) _ _ _)); (fail_if_success (with_reducible show wpAny _ _ (call (Value.ref 271) _) _ _ _)); (first | (k_unfold; (try dsimp only)) | walk1 | (dsimp only; walk1))) | ((fail_if_success (with_reducible show wpAny _ _ (exec _ _) _ _ _)); (fail_if_success (with_reducible show wpAny _ _ (call (Value.ref _) _) _ _ _)); (fail_if_success (with_reducible show wpAny _ _ (pyIter _) _ _ _)); (fail_if_success (with_reducible show wpAny _ _ (subscriptTail _ (PySem.Expr.Slice _ _ _ _) _ _) _ _ _)); (fail_if_success (with_reducible show wpAny _ _ (compareOp CmpOp.NotEq (Value.ref _) (Value.ref _)) _ _ _)); (first | (k_unfold; (try dsimp only)) | walk1 | (dsimp only; walk1)))))
          · (rename News _ _ _ _ => N3); (rename Fr _ _ _ _ => F3)
            have a1' : ∀ p ∈ own, p.1 ≠ lK := fun p hp => hoff p hp _ (by simp)
            have hsi : (0 ≤ shAt a0 a1 a2 i ∧ shAt a0 a1 a2 i < 12) ∧ (0 ≤ shAt z0 z1 z2 i ∧ shAt z0 z1 z2 i < 9) := ⟨shAt_bd hV.2.1 hV.2.2.1 hV.2.2.2.1 hi', shAt_bd hV.2.2.2.2.1 hV.2.2.2.2.2.1 hV.2.2.2.2.2.2.1 hi'⟩
            k_dflt (refine' mid_contract ?k1 ?k2 ?k3 ?k4 ?k5 ?k6 ?b1 ?b2 ?b3 ?b4 ?k7 ?k8 ?_; (case k1 => k_asm); (case k2 => k_asm); (case k3 => k_asm); (case k4 => k_asm); (case k5 => k_asm); (case k6 => first | exact rfl | assumption); (case b1 => exact hsi.1.1); (case b2 => exact hsi.1.2); (case b3 => exact hsi.2.1); (case b4 => exact hsi.2.2); (case k7 => ktr_room); (case k8 => decide +kernel); k_whole)
            clear F3 N3
            intro r tl2 h3 tk3 F3 N3 hf2 hP2
            dsimp only [List.cons_append] at N3
            have a2' : ∀ p ∈ tl2, p.1 ≠ lK := fun p hp => (hf2 p hp _ (.head _)).symm
            (repeat (first | ((with_reducible show wpAny _ _ (exec _ _) _ _ (Shared.mk _ _ _ (_ + 1) _)); refine tk_gen ?_; intro tk9) | ((with_reducible show wpAny _ _ (exec _ _) _ _ _); k_fold) | ((with_reducible show wpAny _ _ (exec _ _) _ _ _); (fail_if_success (with_reducible show wpAny _ _ (exec (Stmt.While _ _ _ _) _) _ _ _)); (fail_if_success (with_reducible show wpAny _ _ (exec (Stmt.For _ _ _ _ _) _) _ _ _)); (first | (k_unfold; (try dsimp only)) | walk1 | (dsimp only; walk1))) | ((with_reducible show wpAny _ _ (call (Value.ref _) _) _ _ _); (fail_if_success (with_reducible show wpAny _ _ (call (Value.ref 42) _) _ _ _)); (fail_if_success (with_reducible show wpAny _ _ (call (Value.ref 252) _) _ _ _)); (fail_if_success (with_reducible show wpAny _ _ (call (Value.ref 175) _) _ _ _)); (fail_if_success (with_reducible show wpAny _ _ (call (Value.ref 284) _) _ _ _)); (fail_if_success (with_reducible show wpAny _ _ (call (Value.ref 291) _) _ _ _)); (fail_if_success (with_reducible show wpAny _ _ (call (Value.ref 245) _) _ _ _)); (fail_if_success (with_reducible show wpAny _ _ (call (Value.ref 168) _) _ _ _)); (fail_if_success (with_reducible show wpAny _ _ (call (Value.ref 210) _) _ _ _)); (fail_if_success (with_reducible show wpAny _ _ (call (Value.ref 266) _) _ _ _)); (fail_if_success (with_reducible show wpAny _ _ (call (Value.ref 271) _) _ _ _)); (first | (k_unfold; (try dsimp only)) | walk1 | (dsimp only; walk1))) | ((fail_if_success (with_reducible show wpAny _ _ (exec _ _) _ _ _)); (fail_if_success (with_reducible show wpAny _ _ (call (Value.ref _) _) _ _ _)); (fail_if_success (with_reducible show wpAny _ _ (pyIter _) _ _ _)); (fail_if_success (with_reducible show wpAny _ _ (subscriptTail _ (PySem.Expr.Slice _ _ _ _) _ _) _ _ _)); (fail_if_success (with_reducible show wpAny _ _ (compareOp CmpOp.NotEq (Value.ref _) (Value.ref _)) _ _ _)); (first | (k_unfold; (try dsimp only)) | walk1 | (dsimp only; walk1)))))
            (rename News _ _ _ _ => N4); (rename Fr _ _ _ _ => F4)
            exact kids_end (o0 := listOf kvs.toArray c) (new := tl2) F4 N4 (.head _) (fun p hp => .tail _ (sub_app _ hp)) (fun p hp => .tail _ (own_app _ hp)) hf2 hoff hfr hoK hE (by assumption) (hP2.mono sub_app) (by (repeat (first | exact List.forall_mem_nil _ | refine all_cons rfl ?_)))
          · (repeat (first | ((with_reducible show wpAny _ _ (exec _ _) _ _ (Shared.mk _ _ _ (_ + 1) _)); refine tk_gen ?_; intro tk9) | ((with_reducible show wpAny _ _ (exec _ _) _ _ _); k_fold) | ((with_reducible show wpAny _ _ (exec _ _) _ _ _); (fail_if_success (with_reducible show wpAny _ _ (exec (Stmt.While _ _ _ _) _) _ _ _)); (fail_if_success (with_reducible show wpAny _ _ (exec (Stmt.For _ _ _ _ _) _) _ _ _)); (first | (k_unfold; (try dsimp only)) | walk1 | (dsimp only; walk1))) | ((with_reducible show wpAny _ _ (call (Value.ref _) _) _ _ _); (fail_if_success (with_reducible show wpAny _ _ (call (Value.ref 42) _) _ _ _)); (fail_if_success (with_reducible show wpAny _ _ (call (Value.ref 252) _) _ _ _)); (fail_if_success (with_reducible show wpAny _ _ (call (Value.ref 175) _) _ _ _)); (fail_if_success (with_reducible show wpAny _ _ (call (Value.ref 284) _) _ _ _)); (fail_if_success (with_reducible show wpAny _ _ (call (Value.ref 291) _) _ _ _)); (fail_if_success (with_reducible show wpAny _ _ (call (Value.ref 245) _) _ _ _)); (fail_if_success (with_reducible show wpAny _ _ (call (Value.ref 168) _) _ _ _)); (fail_if_success (with_reducible show wpAny _ _ (call (Value.ref 210) _) _ _ _)); (fail_if_success (with_reducible show wpAny _ _ (call (Value.ref 266) _) _ _ _)); (fail_if_success (with_reducible show wpAny _ _ (call (Value.ref 271) _) _ _ _)); (first | (k_unfold; (try dsimp only)) | walk1 | (dsimp only; walk1))) | ((fail_if_success (with_reducible show wpAny _ _ (exec _ _) _ _ _)); (fail_if_success (with_reducible show wpAny _ _ (call (Value.ref _) _) _ _ _)); (fail_if_success (with_reducible show wpAny _ _ (pyIter _) _ _ _)); (fail_if_success (with_reducible show wpAny _ _ (subscriptTail _ (PySem.Expr.Slice _ _ _ _) _ _) _ _ _)); (fail_if_success (with_reducible show wpAny _ _ (compareOp CmpOp.NotEq (Value.ref _) (Value.ref _)) _ _ _)); (first | (k_unfold; (try dsimp only)) | walk1 | (dsimp only; walk1)))))
            (rename News _ _ _ _ => N4); (rename Fr _ _ _ _ => F4)
            exact kids_skip F4 N4 hoff hfr hoK hE (by assumption) (by (repeat (first | exact List.forall_mem_nil _ | refine all_cons rfl ?_)))
        · clear F1 N2 R1
          rintro m₂ nx h₂ tk₂ ⟨kvs, c, tl, rfl, hfr, hoK, hE, hm'⟩ F1 N2
          have F2 := fr_said hm' F1
          dsimp only [kstB] at F2
          clear F1
          (repeat (first | ((with_reducible show wpAny _ _ (exec _ _) _ _ (Shared.mk _ _ _ (_ + 1) _)); refine tk_gen ?_; intro tk9) | ((with_reducible show wpAny _ _ (exec _ _) _ _ _); k_fold) | ((with_reducible show wpAny _ _ (exec _ _) _ _ _); (fail_if_success (with_reducible show wpAny _ _ (exec (Stmt.While _ _ _ _) _) _ _ _)); (fail_if_success (with_reducible show wpAny _ _ (exec (Stmt.For _ _ _ _ _) _) _ _ _)); (first | (k_unfold; (try dsimp only)) | walk1 | (dsimp only; walk1))) | ((with_reducible show wpAny _ _ (call (Value.ref _) _) _ _ _); (fail_if_success (with_reducible show wpAny _ _ (call (Value.ref 42) _) _ _ _)); (fail_if_success (with_reducible show wpAny _ _ (call (Value.ref 252) _) _ _ _)); (fail_if_success (with_reducible show wpAny _ _ (call (Value.ref 175) _) _ _ _)); (fail_if_success (with_reducible show wpAny _ _ (call (Value.ref 284) _) _ _ _)); (fail_if_success (with_reducible show wpAny _ _ (call (Value.ref 291) _) _ _ _)); (fail_if_success (with_reducible show wpAny _ _ (call (Value.ref 245) _) _ _ _)); (fail_if_success (with_reducible show wpAny _ _ (call (Value.ref 168) _) _ _ _)); (fail_if_success (with_reducible show wpAny _ _ (call (Value.ref 210) _) _ _ _)); (fail_if_success (with_reducible show wpAny _ _ (call (Value.ref 266) _) _ _ _)); (fail_if_success (with_reducible show wpAny _ _ (call (Value.ref 271) _) _ _ _)); (first | (k_unfold; (try dsimp only)) | walk1 | (dsimp only; walk1))) | ((fail_if_success (with_reducible show wpAny _ _ (exec _ _) _ _ _)); (fail_if_success (with_reducible show wpAny _ _ (call (Value.ref _) _) _ _ _)); (fail_if_success (with_reducible show wpAny _ _ (pyIter _) _ _ _)); (fail_if_success (with_reducible show wpAny _ _ (subscriptTail _ (PySem.Expr.Slice _ _ _ _) _ _) _ _ _)); (fail_if_success (with_reducible show wpAny _ _ (compareOp CmpOp.NotEq (Value.ref _) (Value.ref _)) _ _ _)); (first | (k_unfold; (try dsimp only)) | walk1 | (dsimp only; walk1)))))
          ((k_dflt (refine kba_turn (value' := PySem.Expr.Name (PySem.Str.ofString "v") ⟨0, 0, 0, 0⟩) (fun _ => rfl) ?_); k_dflt (refine' kmk_slice_ints ?sl9F ?sl9N ?sl9l ?sl9p ?sl9q ?sl9i ?sl9m ?sl9c ?_ ?sl9s ?sl9t ?sl9z; (case sl9F => k_asm); (case sl9N => k_asm); (case sl9l => kmk_list); (case sl9p => kmk_part); (case sl9q => kmk_part); (case sl9i => l_ints); (case sl9m => exact kmk_upto (by l_ints) (by assumption)); (case sl9c => exact rfl); (case sl9s => with_unfolding_all rfl); (case sl9t => kmk_pure); (case sl9z => exact Nat.le_of_ble_eq_true rfl))))
          intro D ws h4 F1 N1 lD hI2 _ _
          clear lD
          (repeat (first | ((with_reducible show wpAny _ _ (exec _ _) _ _ (Shared.mk _ _ _ (_ + 1) _)); refine tk_gen ?_; intro tk9) | ((with_reducible show wpAny _ _ (exec _ _) _ _ _); k_fold) | ((with_reducible show wpAny _ _ (exec _ _) _ _ _); (fail_if_success (with_reducible show wpAny _ _ (exec (Stmt.While _ _ _ _) _) _ _ _)); (fail_if_success (with_reducible show wpAny _ _ (exec (Stmt.For _ _ _ _ _) _) _ _ _)); (first | (k_unfold; (try dsimp only)) | walk1 | (dsimp only; walk1))) | ((with_reducible show wpAny _ _ (call (Value.ref _) _) _ _ _); (fail_if_success (with_reducible show wpAny _ _ (call (Value.ref 42) _) _ _ _)); (fail_if_success (with_reducible show wpAny _ _ (call (Value.ref 252) _) _ _ _)); (fail_if_success (with_reducible show wpAny _ _ (call (Value.ref 175) _) _ _ _)); (fail_if_success (with_reducible show wpAny _ _ (call (Value.ref 284) _) _ _ _)); (fail_if_success (with_reducible show wpAny _ _ (call (Value.ref 291) _) _ _ _)); (fail_if_success (with_reducible show wpAny _ _ (call (Value.ref 245) _) _ _ _)); (fail_if_success (with_reducible show wpAny _ _ (call (Value.ref 168) _) _ _ _)); (fail_if_success (with_reducible show wpAny _ _ (call (Value.ref 210) _) _ _ _)); (fail_if_success (with_reducible show wpAny _ _ (call (Value.ref 266) _) _ _ _)); (fail_if_success (with_reducible show wpAny _ _ (call (Value.ref 271) _) _ _ _)); (first | (k_unfold; (try dsimp only)) | walk1 | (dsimp only; walk1))) | ((fail_if_success (with_reducible show wpAny _ _ (exec _ _) _ _ _)); (fail_if_success (with_reducible show wpAny _ _ (call (Value.ref _) _) _ _ _)); (fail_if_success (with_reducible show wpAny _ _ (pyIter _) _ _ _)); (fail_if_success (with_reducible show wpAny _ _ (subscriptTail _ (PySem.Expr.Slice _ _ _ _) _ _) _ _ _)); (fail_if_success (with_reducible show wpAny _ _ (compareOp CmpOp.NotEq (Value.ref _) (Value.ref _)) _ _ _)); (first | (k_unfold; (try dsimp only)) | walk1 | (dsimp only; walk1)))))
          (rename News _ _ _ _ => N3); (rename Fr _ _ _ _ => F3)
          have hmw := topT_wt n R sd sf (shAt a0 a1 a2) (shAt z0 z1 z2)
          have hok := topT_ok (n := n) (x := x) (seed := sd) (shift := sf) (sh := shAt a0 a1 a2) (sz := shAt z0 z1 z2) hn0 (by omega)
          rw [hR, topT] at hok
          rw [topT] at hmw
          k_dflt (refine' join_contract (kvs := kvs) (ts := kidsTo (fun j => midT (12 * j) (shAt a0 a1 a2 j) (shAt z0 z1 z2 j) sf sd) R 3) (ks := [11, 23].take n.toNat) ?k1 ?k2 ?k3 ?k4 ?k5 ?k6 ?ks ?kI ?mk ?hP ?ok (take_len_le ..) ?fit ?wt ?k7 ?k8 ?_; (case k1 => k_asm); (case k2 => exact F3); (case k3 => k_asm); (case k4 => exact N3); (case k5 => k_asm); (case k6 => first | exact rfl | assumption); (case ks => exact fun _ h => h); (case kI => exact ⟨ws, 0, .head _, hI2⟩); (case mk => exact .tail _ (.tail _ (.head _))); (case hP => exact hE.mono fun v a _ h => h.mono fun p hp => .tail _ (.tail _ (.tail _ (own_app _ hp)))); (case ok => (cases hok; assumption)); (case fit => (cases hok; assumption)); (case wt => exact Nat.le_trans hmw (by decide)); (case k7 => ktr_room); (case k8 => decide +kernel); k_whole)
          clear F3 N3
          intro r tl2 h5 tk5 F3 N3 hf2 hP2
          obtain ⟨tp, rfl⟩ : ∃ tp, r = .ref tp := by
            obtain ⟨a, _, _, _, _, _, h, _⟩ := hP2
            exact ⟨a, h⟩
          (repeat (first | ((with_reducible show wpAny _ _ (exec _ _) _ _ (Shared.mk _ _ _ (_ + 1) _)); refine tk_gen ?_; intro tk9) | ((with_reducible show wpAny _ _ (exec _ _) _ _ _); k_fold) | ((with_reducible show wpAny _ _ (exec _ _) _ _ _); (fail_if_success (with_reducible show wpAny _ _ (exec (Stmt.While _ _ _ _) _) _ _ _)); (fail_if_success (with_reducible show wpAny _ _ (exec (Stmt.For _ _ _ _ _) _) _ _ _)); (first | (k_unfold; (try dsimp only)) | walk1 | (dsimp only; walk1))) | ((with_reducible show wpAny _ _ (call (Value.ref _) _) _ _ _); (fail_if_success (with_reducible show wpAny _ _ (call (Value.ref 42) _) _ _ _)); (fail_if_success (with_reducible show wpAny _ _ (call (Value.ref 252) _) _ _ _)); (fail_if_success (with_reducible show wpAny _ _ (call (Value.ref 175) _) _ _ _)); (fail_if_success (with_reducible show wpAny _ _ (call (Value.ref 284) _) _ _ _)); (fail_if_success (with_reducible show wpAny _ _ (call (Value.ref 291) _) _ _ _)); (fail_if_success (with_reducible show wpAny _ _ (call (Value.ref 245) _) _ _ _)); (fail_if_success (with_reducible show wpAny _ _ (call (Value.ref 168) _) _ _ _)); (fail_if_success (with_reducible show wpAny _ _ (call (Value.ref 210) _) _ _ _)); (fail_if_success (with_reducible show wpAny _ _ (call (Value.ref 266) _) _ _ _)); (fail_if_success (with_reducible show wpAny _ _ (call (Value.ref 271) _) _ _ _)); (first | (k_unfold; (try dsimp only)) | walk1 | (dsimp only; walk1))) | ((fail_if_success (with_reducible show wpAny _ _ (exec _ _) _ _ _)); (fail_if_success (with_reducible show wpAny _ _ (call (Value.ref _) _) _ _ _)); (fail_if_success (with_reducible show wpAny _ _ (pyIter _) _ _ _)); (fail_if_success (with_reducible show wpAny _ _ (subscriptTail _ (PySem.Expr.Slice _ _ _ _) _ _) _ _ _)); (fail_if_success (with_reducible show wpAny _ _ (compareOp CmpOp.NotEq (Value.ref _) (Value.ref _)) _ _ _)); (first | (k_unfold; (try dsimp only)) | walk1 | (dsimp only; walk1)))))
          (rename News _ _ _ _ => N4); (rename Fr _ _ _ _ => F4)
          obtain ⟨led, hled, N5⟩ := news_name N4
          have up : ∀ p ∈ nw0, p ∈ led := by rw [hled]; exact fun p hp => sub_app _ (.tail _ (.tail _ (.tail _ (sub_app _ hp))))
          have up2 : ∀ p ∈ tl, p ∈ led := by rw [hled]; exact fun p hp => sub_app _ (.tail _ (.tail _ (.tail _ (own_app _ hp))))
          have uC : (lK, W.listOf kvs.toArray c) ∈ led := by rw [hled]; exact sub_app _ (.tail _ (.tail _ (.head _)))
          have hP3 : PartIn w.params 59 led (.ref tp) (topT n R sd sf (shAt a0 a1 a2) (shAt z0 z1 z2)) := by rw [hled]; exact hP2
          exact ⟨rfl, led, kvs, c, tp, up _ uL, up _ uH, up _ uK, uC, hE.mono fun v a _ h => h.mono up2, hP3, _, _, _, rfl, by (repeat (first | exact List.forall_mem_nil _ | refine all_cons rfl ?_)), F4, N5⟩
      · clear F1 N1 hm uZ uS uK uH uL offK iS iZ
        rintro s' ⟨nw, kvs, c, tp, vL, vH, vK, vC, hE, hP, m₂, h2, tk2, rfl, hm2, F1, N1⟩
        obtain ⟨Tt, hTt⟩ : ∃ Tt, Tt = topT n R sd sf (shAt a0 a1 a2) (shAt z0 z1 z2) := ⟨_, rfl⟩
        have okT : Tt.Ok := by rw [hTt, ← hR]; exact topT_ok hV.1.1 (by omega)
        have wtT : Tt.wt ≤ 39 := by rw [hTt]; exact topT_wt ..
        have ksT : Tt.ks = [11, 23].take n.toNat := by rw [hTt]; rfl
        have tsT : Tt.ts = kidsTo (fun j => midT (12 * j) (shAt a0 a1 a2 j) (shAt z0 z1 z2 j) sf sd) R 3 := by rw [hTt]; rfl
        rw [← hTt] at hP
        obtain ⟨Ks, hKs⟩ : ∃ Ks, Ks = kidsTo (fun j => midT (12 * j) (shAt a0 a1 a2 j) (shAt z0 z1 z2 j) sf sd) R 3 := ⟨_, rfl⟩
        have okK : ∀ t ∈ Ks, t.Ok ∧ t.wt ≤ 12 := by rw [hKs]; exact mem_kids_ok fun i => ⟨midT_ok .., midT_wt ..⟩
        have lKs : (Ks.length : Int) = R := by rw [hKs, kidsTo_length _ (by omega)]; omega
        rw [← hKs] at hE tsT
        clear hKs
        have hP' := hP
        obtain ⟨tp', x1, f1, q1, ptk, pn, e, mp, hT, ⟨fvs, fn, mf, jf⟩, ⟨qvs, qn, mq, jq⟩⟩ := hP'
        obtain rfl : tp = tp' := by cases e; rfl
        clear e
        have lq : qvs.length = Tt.walk.length := by have := jq.length; rw [List.length_map] at this; exact this
        have bq := walk_length okT
        have hlo := hV.2.2.2.2.2.2.2.1
        have hhi := hV.2.2.2.2.2.2.2.2
        have bf := flat_length okT
        have bp := walk_pairs_len Tt
        let Cut4 : Shared → Prop := (MidA w.params s₁.heap s₁.heap.objs.size s₁ ((Str.ofString "top", .ref tp) :: (Str.ofString "kids", .ref lK) :: Names t1 t2 t3 t4 t5 t6 aS aZ tv n R sd sf va) nw tv t1)
        with_unfolding_all refine' execs_cut (l := [_]) (rest := [_, _, _, _, _, _, _, _, _, _, _, _, _, _, _, _, _, _, _, _, _, _, _]) Cut4 ?ca1 ?cb1
        case ca1 =>
          have F2 := fr_said hm2 F1
          dsimp only [kstB] at F2
          clear F1
          (repeat (first | ((with_reducible show wpAny _ _ (exec _ _) _ _ (Shared.mk _ _ _ (_ + 1) _)); refine tk_gen ?_; intro tk9) | ((with_reducible show wpAny _ _ (exec _ _) _ _ _); k_fold) | ((with_reducible show wpAny _ _ (exec _ _) _ _ _); (fail_if_success (with_reducible show wpAny _ _ (exec (Stmt.While _ _ _ _) _) _ _ _)); (fail_if_success (with_reducible show wpAny _ _ (exec (Stmt.For _ _ _ _ _) _) _ _ _)); (first | (k_unfold; (try dsimp only)) | walk1 | (dsimp only; walk1))) | ((with_reducible show wpAny _ _ (call (Value.ref _) _) _ _ _); (fail_if_success (with_reducible show wpAny _ _ (call (Value.ref 42) _) _ _ _)); (fail_if_success (with_reducible show wpAny _ _ (call (Value.ref 252) _) _ _ _)); (fail_if_success (with_reducible show wpAny _ _ (call (Value.ref 175) _) _ _ _)); (fail_if_success (with_reducible show wpAny _ _ (call (Value.ref 284) _) _ _ _)); (fail_if_success (with_reducible show wpAny _ _ (call (Value.ref 291) _) _ _ _)); (fail_if_success (with_reducible show wpAny _ _ (call (Value.ref 245) _) _ _ _)); (fail_if_success (with_reducible show wpAny _ _ (call (Value.ref 168) _) _ _ _)); (fail_if_success (with_reducible show wpAny _ _ (call (Value.ref 210) _) _ _ _)); (fail_if_success (with_reducible show wpAny _ _ (call (Value.ref 266) _) _ _ _)); (fail_if_success (with_reducible show wpAny _ _ (call (Value.ref 271) _) _ _ _)); (first | (k_unfold; (try dsimp only)) | walk1 | (dsimp only; walk1))) | ((fail_if_success (with_reducible show wpAny _ _ (exec _ _) _ _ _)); (fail_if_success (with_reducible show wpAny _ _ (call (Value.ref _) _) _ _ _)); (fail_if_success (with_reducible show wpAny _ _ (pyIter _) _ _ _)); (fail_if_success (with_reducible show wpAny _ _ (subscriptTail _ (PySem.Expr.Slice _ _ _ _) _ _) _ _ _)); (fail_if_success (with_reducible show wpAny _ _ (compareOp CmpOp.NotEq (Value.ref _) (Value.ref _)) _ _ _)); (first | (k_unfold; (try dsimp only)) | walk1 | (dsimp only; walk1)))))
          (rename News _ _ _ _ => N4); (rename Fr _ _ _ _ => F4)
          exact ⟨rfl, midA_intro F4 N4 (by assumption) (by assumption) (ltN (by omega)) (ltN (by omega)) (ltN (by omega)) (ltN (by omega)) (ltN (by omega)) (by (repeat (first | exact List.forall_mem_nil _ | refine all_cons rfl ?_)))⟩
        clear F1 N1 hm2
        rintro s' ⟨mA, dM, x0, rest, u1, u2, u3, u4, sub, offM, mM, hT0, m₂, h2, tk2, rfl, hm2, F1, N1⟩
        obtain ⟨NX1, hNX1⟩ : ∃ l : List (Str × Value), l = (Str.ofString "m", .ref mA) :: (Str.ofString "top", .ref tp) :: (Str.ofString "kids", .ref lK) :: Names t1 t2 t3 t4 t5 t6 aS aZ tv n R sd sf va := ⟨_, rfl⟩
        rw [← hNX1] at hm2
        let Cut5 : Shared → Prop := (LawSt s₁.heap s₁.heap.objs.size s₁ NX1 ((dM, MapDict w.params u1 u2 u3 (.int tv t1) (.ref x0) (.int 0 u4) 3) :: rest))
        with_unfolding_all refine' execs_cut (l := [_, _, _, _, _]) (rest := [_, _, _, _, _, _, _, _, _, _, _, _, _, _, _, _, _, _]) Cut5 ?ca2 ?cb2
        case ca2 =>
          have F2 := fr_said (ps := [(Str.ofString "m", .ref mA), (Str.ofString "t", .int tv t1)]) (all_cons (hm2 _ (by rw [hNX1]; exact .head _)) (all_cons (hm2 _ (by rw [hNX1]; exact .tail _ (.tail _ (.tail _ (.head _))))) (List.forall_mem_nil _))) F1
          dsimp only [kstB] at F2
          clear F1
          obtain ⟨led, hled⟩ : ∃ led : Led, led = (dM, MapDict w.params u1 u2 u3 (.int tv t1) (.ref x0) (.int 0 u4) 3) :: rest := ⟨_, rfl⟩
          rw [← hled] at N1
          have mM' : (mA, instObj 255 dM) ∈ led := by rw [hled]; exact .tail _ mM
          have mD' : (dM, dictOf [⟨PyData.keyHash w.params (Str.ofString "t"), .str (Str.ofString "t") u1, .int tv t1⟩, ⟨PyData.keyHash w.params (Str.ofString "root"), .str (Str.ofString "root") u2, .ref x0⟩, ⟨PyData.keyHash w.params (Str.ofString "size"), .str (Str.ofString "size") u3, .int 0 u4⟩] 3) ∈ led := by rw [hled]; exact .head _
          have vL' : (s₁.heap.objs.size + 1, oLo) ∈ led := by rw [hled]; exact .tail _ (sub _ vL)
          have vH' : (s₁.heap.objs.size + 1 + 1, oHi) ∈ led := by rw [hled]; exact .tail _ (sub _ vH)
          have hM0 : MapIn w.params led mA (.int tv t1) (.ref x0) (.int 0 u4) := ⟨dM, 3, u1, u2, u3, mM', mD'⟩
          have hT1 : TreeIn w.params 59 led (.node [] [] []) (.ref x0) := by rw [hled]; exact hT0.mono fun p hp => .tail _ hp
          (repeat (first | ((with_reducible show wpAny _ _ (exec _ _) _ _ (Shared.mk _ _ _ (_ + 1) _)); refine tk_gen ?_; intro tk9) | ((with_reducible show wpAny _ _ (exec _ _) _ _ _); k_fold) | ((with_reducible show wpAny _ _ (exec _ _) _ _ _); (fail_if_success (with_reducible show wpAny _ _ (exec (Stmt.While _ _ _ _) _) _ _ _)); (fail_if_success (with_reducible show wpAny _ _ (exec (Stmt.For _ _ _ _ _) _) _ _ _)); (first | (k_unfold; (try dsimp only)) | walk1 | (dsimp only; walk1))) | ((with_reducible show wpAny _ _ (call (Value.ref _) _) _ _ _); (fail_if_success (with_reducible show wpAny _ _ (call (Value.ref 42) _) _ _ _)); (fail_if_success (with_reducible show wpAny _ _ (call (Value.ref 252) _) _ _ _)); (fail_if_success (with_reducible show wpAny _ _ (call (Value.ref 175) _) _ _ _)); (fail_if_success (with_reducible show wpAny _ _ (call (Value.ref 284) _) _ _ _)); (fail_if_success (with_reducible show wpAny _ _ (call (Value.ref 291) _) _ _ _)); (fail_if_success (with_reducible show wpAny _ _ (call (Value.ref 245) _) _ _ _)); (fail_if_success (with_reducible show wpAny _ _ (call (Value.ref 168) _) _ _ _)); (fail_if_success (with_reducible show wpAny _ _ (call (Value.ref 210) _) _ _ _)); (fail_if_success (with_reducible show wpAny _ _ (call (Value.ref 266) _) _ _ _)); (fail_if_success (with_reducible show wpAny _ _ (call (Value.ref 271) _) _ _ _)); (first | (k_unfold; (try dsimp only)) | walk1 | (dsimp only; walk1))) | ((fail_if_success (with_reducible show wpAny _ _ (exec _ _) _ _ _)); (fail_if_success (with_reducible show wpAny _ _ (call (Value.ref _) _) _ _ _)); (fail_if_success (with_reducible show wpAny _ _ (pyIter _) _ _ _)); (fail_if_success (with_reducible show wpAny _ _ (subscriptTail _ (PySem.Expr.Slice _ _ _ _) _ _) _ _ _)); (fail_if_success (with_reducible show wpAny _ _ (compareOp CmpOp.NotEq (Value.ref _) (Value.ref _)) _ _ _)); (first | (k_unfold; (try dsimp only)) | walk1 | (dsimp only; walk1)))))
          (rename News _ _ _ _ => N3); (rename Fr _ _ _ _ => F3)
          k_dflt (refine' mflat_contract (t := .node [] [] []) ?k1 F3 ?k3 N3 ?k5 ?k6 (fun _ h => h) hM0 hT1 ok00 wt00 ?k7 ?k8 ?_; (case k1 => k_asm); (case k3 => k_asm); (case k5 => k_asm); (case k6 => first | exact rfl | assumption); (case k7 => ktr_room); (case k8 => decide +kernel); k_whole)
          clear F3 N3
          intro o1 tl1 h3 tk3 F3 N3 hf1 hI1
          (repeat (first | ((with_reducible show wpAny _ _ (exec _ _) _ _ (Shared.mk _ _ _ (_ + 1) _)); refine tk_gen ?_; intro tk9) | ((with_reducible show wpAny _ _ (exec _ _) _ _ _); k_fold) | ((with_reducible show wpAny _ _ (exec _ _) _ _ _); (fail_if_success (with_reducible show wpAny _ _ (exec (Stmt.While _ _ _ _) _) _ _ _)); (fail_if_success (with_reducible show wpAny _ _ (exec (Stmt.For _ _ _ _ _) _) _ _ _)); (first | (k_unfold; (try dsimp only)) | walk1 | (dsimp only; walk1))) | ((with_reducible show wpAny _ _ (call (Value.ref _) _) _ _ _); (fail_if_success (with_reducible show wpAny _ _ (call (Value.ref 42) _) _ _ _)); (fail_if_success (with_reducible show wpAny _ _ (call (Value.ref 252) _) _ _ _)); (fail_if_success (with_reducible show wpAny _ _ (call (Value.ref 175) _) _ _ _)); (fail_if_success (with_reducible show wpAny _ _ (call (Value.ref 284) _) _ _ _)); (fail_if_success (with_reducible show wpAny _ _ (call (Value.ref 291) _) _ _ _)); (fail_if_success (with_reducible show wpAny _ _ (call (Value.ref 245) _) _ _ _)); (fail_if_success (with_reducible show wpAny _ _ (call (Value.ref 168) _) _ _ _)); (fail_if_success (with_reducible show wpAny _ _ (call (Value.ref 210) _) _ _ _)); (fail_if_success (with_reducible show wpAny _ _ (call (Value.ref 266) _) _ _ _)); (fail_if_success (with_reducible show wpAny _ _ (call (Value.ref 271) _) _ _ _)); (first | (k_unfold; (try dsimp only)) | walk1 | (dsimp only; walk1))) | ((fail_if_success (with_reducible show wpAny _ _ (exec _ _) _ _ _)); (fail_if_success (with_reducible show wpAny _ _ (call (Value.ref _) _) _ _ _)); (fail_if_success (with_reducible show wpAny _ _ (pyIter _) _ _ _)); (fail_if_success (with_reducible show wpAny _ _ (subscriptTail _ (PySem.Expr.Slice _ _ _ _) _ _) _ _ _)); (fail_if_success (with_reducible show wpAny _ _ (compareOp CmpOp.NotEq (Value.ref _) (Value.ref _)) _ _ _)); (first | (k_unfold; (try dsimp only)) | walk1 | (dsimp only; walk1)))))
          (rename News _ _ _ _ => N4)
          refine ne_ints N4 (by first | ke_room | decide +kernel) (fun p hp => .tail _ (own_app _ hp)) (fun _ h => h) hI1 ⟨[_, _, _], 0, .head _, .cons _ _ (.cons _ _ (.cons _ _ .nil))⟩ (flat00 tv) ?_
          have N5 := news_sub (l' := led) N4 fun p hp => .tail _ (sub_app _ hp)
          clear N4 hI1 hf1
          (repeat (first | ((with_reducible show wpAny _ _ (exec _ _) _ _ (Shared.mk _ _ _ (_ + 1) _)); refine tk_gen ?_; intro tk9) | ((with_reducible show wpAny _ _ (exec _ _) _ _ _); k_fold) | ((with_reducible show wpAny _ _ (exec _ _) _ _ _); (fail_if_success (with_reducible show wpAny _ _ (exec (Stmt.While _ _ _ _) _) _ _ _)); (fail_if_success (with_reducible show wpAny _ _ (exec (Stmt.For _ _ _ _ _) _) _ _ _)); (first | (k_unfold; (try dsimp only)) | walk1 | (dsimp only; walk1))) | ((with_reducible show wpAny _ _ (call (Value.ref _) _) _ _ _); (fail_if_success (with_reducible show wpAny _ _ (call (Value.ref 42) _) _ _ _)); (fail_if_success (with_reducible show wpAny _ _ (call (Value.ref 252) _) _ _ _)); (fail_if_success (with_reducible show wpAny _ _ (call (Value.ref 175) _) _ _ _)); (fail_if_success (with_reducible show wpAny _ _ (call (Value.ref 284) _) _ _ _)); (fail_if_success (with_reducible show wpAny _ _ (call (Value.ref 291) _) _ _ _)); (fail_if_success (with_reducible show wpAny _ _ (call (Value.ref 245) _) _ _ _)); (fail_if_success (with_reducible show wpAny _ _ (call (Value.ref 168) _) _ _ _)); (fail_if_success (with_reducible show wpAny _ _ (call (Value.ref 210) _) _ _ _)); (fail_if_success (with_reducible show wpAny _ _ (call (Value.ref 266) _) _ _ _)); (fail_if_success (with_reducible show wpAny _ _ (call (Value.ref 271) _) _ _ _)); (first | (k_unfold; (try dsimp only)) | walk1 | (dsimp only; walk1))) | ((fail_if_success (with_reducible show wpAny _ _ (exec _ _) _ _ _)); (fail_if_success (with_reducible show wpAny _ _ (call (Value.ref _) _) _ _ _)); (fail_if_success (with_reducible show wpAny _ _ (pyIter _) _ _ _)); (fail_if_success (with_reducible show wpAny _ _ (subscriptTail _ (PySem.Expr.Slice _ _ _ _) _ _) _ _ _)); (fail_if_success (with_reducible show wpAny _ _ (compareOp CmpOp.NotEq (Value.ref _) (Value.ref _)) _ _ _)); (first | (k_unfold; (try dsimp only)) | walk1 | (dsimp only; walk1)))))
          (rename News _ _ _ _ => N3); (rename Fr _ _ _ _ => F3)
          k_dflt (refine' mpairs_contract (t := .node [] [] []) ?k1 F3 ?k3 N3 ?k5 ?k6 (fun _ h => h) hM0 hT1 ok00 wt00 ?k7 ?k8 ?_; (case k1 => k_asm); (case k3 => k_asm); (case k5 => k_asm); (case k6 => first | exact rfl | assumption); (case k7 => ktr_room); (case k8 => decide +kernel); k_whole)
          clear F3 N3
          intro o2 tl2 h4 tk4 F3 N3 hf1 hI1
          (repeat (first | ((with_reducible show wpAny _ _ (exec _ _) _ _ (Shared.mk _ _ _ (_ + 1) _)); refine tk_gen ?_; intro tk9) | ((with_reducible show wpAny _ _ (exec _ _) _ _ _); k_fold) | ((with_reducible show wpAny _ _ (exec _ _) _ _ _); (fail_if_success (with_reducible show wpAny _ _ (exec (Stmt.While _ _ _ _) _) _ _ _)); (fail_if_success (with_reducible show wpAny _ _ (exec (Stmt.For _ _ _ _ _) _) _ _ _)); (first | (k_unfold; (try dsimp only)) | walk1 | (dsimp only; walk1))) | ((with_reducible show wpAny _ _ (call (Value.ref _) _) _ _ _); (fail_if_success (with_reducible show wpAny _ _ (call (Value.ref 42) _) _ _ _)); (fail_if_success (with_reducible show wpAny _ _ (call (Value.ref 252) _) _ _ _)); (fail_if_success (with_reducible show wpAny _ _ (call (Value.ref 175) _) _ _ _)); (fail_if_success (with_reducible show wpAny _ _ (call (Value.ref 284) _) _ _ _)); (fail_if_success (with_reducible show wpAny _ _ (call (Value.ref 291) _) _ _ _)); (fail_if_success (with_reducible show wpAny _ _ (call (Value.ref 245) _) _ _ _)); (fail_if_success (with_reducible show wpAny _ _ (call (Value.ref 168) _) _ _ _)); (fail_if_success (with_reducible show wpAny _ _ (call (Value.ref 210) _) _ _ _)); (fail_if_success (with_reducible show wpAny _ _ (call (Value.ref 266) _) _ _ _)); (fail_if_success (with_reducible show wpAny _ _ (call (Value.ref 271) _) _ _ _)); (first | (k_unfold; (try dsimp only)) | walk1 | (dsimp only; walk1))) | ((fail_if_success (with_reducible show wpAny _ _ (exec _ _) _ _ _)); (fail_if_success (with_reducible show wpAny _ _ (call (Value.ref _) _) _ _ _)); (fail_if_success (with_reducible show wpAny _ _ (pyIter _) _ _ _)); (fail_if_success (with_reducible show wpAny _ _ (subscriptTail _ (PySem.Expr.Slice _ _ _ _) _ _) _ _ _)); (fail_if_success (with_reducible show wpAny _ _ (compareOp CmpOp.NotEq (Value.ref _) (Value.ref _)) _ _ _)); (first | (k_unfold; (try dsimp only)) | walk1 | (dsimp only; walk1)))))
          (rename News _ _ _ _ => N4)
          refine ne_prs N4 (by first | ke_room | decide +kernel) (fun p hp => .tail _ (own_app _ hp)) (fun _ h => h) hI1 ⟨[], 0, .head _, .nil⟩ pairs00 ?_
          have N5 := news_sub (l' := led) N4 fun p hp => .tail _ (sub_app _ hp)
          clear N4 hI1 hf1
          (repeat (first | ((with_reducible show wpAny _ _ (exec _ _) _ _ (Shared.mk _ _ _ (_ + 1) _)); refine tk_gen ?_; intro tk9) | ((with_reducible show wpAny _ _ (exec _ _) _ _ _); k_fold) | ((with_reducible show wpAny _ _ (exec _ _) _ _ _); (fail_if_success (with_reducible show wpAny _ _ (exec (Stmt.While _ _ _ _) _) _ _ _)); (fail_if_success (with_reducible show wpAny _ _ (exec (Stmt.For _ _ _ _ _) _) _ _ _)); (first | (k_unfold; (try dsimp only)) | walk1 | (dsimp only; walk1))) | ((with_reducible show wpAny _ _ (call (Value.ref _) _) _ _ _); (fail_if_success (with_reducible show wpAny _ _ (call (Value.ref 42) _) _ _ _)); (fail_if_success (with_reducible show wpAny _ _ (call (Value.ref 252) _) _ _ _)); (fail_if_success (with_reducible show wpAny _ _ (call (Value.ref 175) _) _ _ _)); (fail_if_success (with_reducible show wpAny _ _ (call (Value.ref 284) _) _ _ _)); (fail_if_success (with_reducible show wpAny _ _ (call (Value.ref 291) _) _ _ _)); (fail_if_success (with_reducible show wpAny _ _ (call (Value.ref 245) _) _ _ _)); (fail_if_success (with_reducible show wpAny _ _ (call (Value.ref 168) _) _ _ _)); (fail_if_success (with_reducible show wpAny _ _ (call (Value.ref 210) _) _ _ _)); (fail_if_success (with_reducible show wpAny _ _ (call (Value.ref 266) _) _ _ _)); (fail_if_success (with_reducible show wpAny _ _ (call (Value.ref 271) _) _ _ _)); (first | (k_unfold; (try dsimp only)) | walk1 | (dsimp only; walk1))) | ((fail_if_success (with_reducible show wpAny _ _ (exec _ _) _ _ _)); (fail_if_success (with_reducible show wpAny _ _ (call (Value.ref _) _) _ _ _)); (fail_if_success (with_reducible show wpAny _ _ (pyIter _) _ _ _)); (fail_if_success (with_reducible show wpAny _ _ (subscriptTail _ (PySem.Expr.Slice _ _ _ _) _ _) _ _ _)); (fail_if_success (with_reducible show wpAny _ _ (compareOp CmpOp.NotEq (Value.ref _) (Value.ref _)) _ _ _)); (first | (k_unfold; (try dsimp only)) | walk1 | (dsimp only; walk1)))))
          (rename News _ _ _ _ => N3); (rename Fr _ _ _ _ => F3)
          k_dflt (refine' range_contract (t := .node [] [] []) ?k1 F3 ?k3 N3 ?k5 ?k6 (fun _ h => h) hT1 ok00 wt00 ?k7 ?k8 ?b1 ?b2 ?_; (case k1 => k_asm); (case k3 => k_asm); (case k5 => k_asm); (case k6 => first | exact rfl | assumption); (case k7 => ktr_room); (case k8 => decide +kernel); (case b1 => omega); (case b2 => omega); k_whole)
          clear F3 N3
          intro o3 tl3 h5 tk5 F3 N3 hf1 hI1
          (repeat (first | ((with_reducible show wpAny _ _ (exec _ _) _ _ (Shared.mk _ _ _ (_ + 1) _)); refine tk_gen ?_; intro tk9) | ((with_reducible show wpAny _ _ (exec _ _) _ _ _); k_fold) | ((with_reducible show wpAny _ _ (exec _ _) _ _ _); (fail_if_success (with_reducible show wpAny _ _ (exec (Stmt.While _ _ _ _) _) _ _ _)); (fail_if_success (with_reducible show wpAny _ _ (exec (Stmt.For _ _ _ _ _) _) _ _ _)); (first | (k_unfold; (try dsimp only)) | walk1 | (dsimp only; walk1))) | ((with_reducible show wpAny _ _ (call (Value.ref _) _) _ _ _); (fail_if_success (with_reducible show wpAny _ _ (call (Value.ref 42) _) _ _ _)); (fail_if_success (with_reducible show wpAny _ _ (call (Value.ref 252) _) _ _ _)); (fail_if_success (with_reducible show wpAny _ _ (call (Value.ref 175) _) _ _ _)); (fail_if_success (with_reducible show wpAny _ _ (call (Value.ref 284) _) _ _ _)); (fail_if_success (with_reducible show wpAny _ _ (call (Value.ref 291) _) _ _ _)); (fail_if_success (with_reducible show wpAny _ _ (call (Value.ref 245) _) _ _ _)); (fail_if_success (with_reducible show wpAny _ _ (call (Value.ref 168) _) _ _ _)); (fail_if_success (with_reducible show wpAny _ _ (call (Value.ref 210) _) _ _ _)); (fail_if_success (with_reducible show wpAny _ _ (call (Value.ref 266) _) _ _ _)); (fail_if_success (with_reducible show wpAny _ _ (call (Value.ref 271) _) _ _ _)); (first | (k_unfold; (try dsimp only)) | walk1 | (dsimp only; walk1))) | ((fail_if_success (with_reducible show wpAny _ _ (exec _ _) _ _ _)); (fail_if_success (with_reducible show wpAny _ _ (call (Value.ref _) _) _ _ _)); (fail_if_success (with_reducible show wpAny _ _ (pyIter _) _ _ _)); (fail_if_success (with_reducible show wpAny _ _ (subscriptTail _ (PySem.Expr.Slice _ _ _ _) _ _) _ _ _)); (fail_if_success (with_reducible show wpAny _ _ (compareOp CmpOp.NotEq (Value.ref _) (Value.ref _)) _ _ _)); (first | (k_unfold; (try dsimp only)) | walk1 | (dsimp only; walk1)))))
          (rename News _ _ _ _ => N4)
          refine ne_prs N4 (by first | ke_room | decide +kernel) (fun p hp => .tail _ (own_app _ hp)) (fun _ h => h) hI1 ⟨[], 0, .head _, .nil⟩ (rng00 lo hi) ?_
          have N5 := news_sub (l' := led) N4 fun p hp => .tail _ (sub_app _ hp)
          clear N4 hI1 hf1
          (repeat (first | ((with_reducible show wpAny _ _ (exec _ _) _ _ (Shared.mk _ _ _ (_ + 1) _)); refine tk_gen ?_; intro tk9) | ((with_reducible show wpAny _ _ (exec _ _) _ _ _); k_fold) | ((with_reducible show wpAny _ _ (exec _ _) _ _ _); (fail_if_success (with_reducible show wpAny _ _ (exec (Stmt.While _ _ _ _) _) _ _ _)); (fail_if_success (with_reducible show wpAny _ _ (exec (Stmt.For _ _ _ _ _) _) _ _ _)); (first | (k_unfold; (try dsimp only)) | walk1 | (dsimp only; walk1))) | ((with_reducible show wpAny _ _ (call (Value.ref _) _) _ _ _); (fail_if_success (with_reducible show wpAny _ _ (call (Value.ref 42) _) _ _ _)); (fail_if_success (with_reducible show wpAny _ _ (call (Value.ref 252) _) _ _ _)); (fail_if_success (with_reducible show wpAny _ _ (call (Value.ref 175) _) _ _ _)); (fail_if_success (with_reducible show wpAny _ _ (call (Value.ref 284) _) _ _ _)); (fail_if_success (with_reducible show wpAny _ _ (call (Value.ref 291) _) _ _ _)); (fail_if_success (with_reducible show wpAny _ _ (call (Value.ref 245) _) _ _ _)); (fail_if_success (with_reducible show wpAny _ _ (call (Value.ref 168) _) _ _ _)); (fail_if_success (with_reducible show wpAny _ _ (call (Value.ref 210) _) _ _ _)); (fail_if_success (with_reducible show wpAny _ _ (call (Value.ref 266) _) _ _ _)); (fail_if_success (with_reducible show wpAny _ _ (call (Value.ref 271) _) _ _ _)); (first | (k_unfold; (try dsimp only)) | walk1 | (dsimp only; walk1))) | ((fail_if_success (with_reducible show wpAny _ _ (exec _ _) _ _ _)); (fail_if_success (with_reducible show wpAny _ _ (call (Value.ref _) _) _ _ _)); (fail_if_success (with_reducible show wpAny _ _ (pyIter _) _ _ _)); (fail_if_success (with_reducible show wpAny _ _ (subscriptTail _ (PySem.Expr.Slice _ _ _ _) _ _) _ _ _)); (fail_if_success (with_reducible show wpAny _ _ (compareOp CmpOp.NotEq (Value.ref _) (Value.ref _)) _ _ _)); (first | (k_unfold; (try dsimp only)) | walk1 | (dsimp only; walk1)))))
          (rename News _ _ _ _ => N4); (rename Fr _ _ _ _ => F4)
          exact ⟨rfl, _, _, _, rfl, (by rw [hNX1]; exact all_cons rfl (all_cons (hm2 (Str.ofString "top", .ref tp) (by rw [hNX1]; exact .tail _ (.head _))) (all_cons (hm2 (Str.ofString "kids", .ref lK) (by rw [hNX1]; exact .tail _ (.tail _ (.head _)))) (all_cons rfl (all_cons (hm2 (Str.ofString "n", .int n t2) (by rw [hNX1]; exact .tail _ (.tail _ (.tail _ (.tail _ (.head _)))))) (all_cons (hm2 (Str.ofString "room", .int R t3) (by rw [hNX1]; exact .tail _ (.tail _ (.tail _ (.tail _ (.tail _ (.head _))))))) (all_cons (hm2 (Str.ofString "shapes", .ref aS) (by rw [hNX1]; exact .tail _ (.tail _ (.tail _ (.tail _ (.tail _ (.tail _ (.head _)))))))) (all_cons (hm2 (Str.ofString "sizes", .ref aZ) (by rw [hNX1]; exact .tail _ (.tail _ (.tail _ (.tail _ (.tail _ (.tail _ (.tail _ (.head _))))))))) (all_cons (hm2 (Str.ofString "seed", .int sd t4) (by rw [hNX1]; exact .tail _ (.tail _ (.tail _ (.tail _ (.tail _ (.tail _ (.tail _ (.tail _ (.head _)))))))))) (all_cons (hm2 (Str.ofString "shift", .int sf t5) (by rw [hNX1]; exact .tail _ (.tail _ (.tail _ (.tail _ (.tail _ (.tail _ (.tail _ (.tail _ (.tail _ (.head _))))))))))) (all_cons (hm2 (Str.ofString "value", .int va t6) (by rw [hNX1]; exact .tail _ (.tail _ (.tail _ (.tail _ (.tail _ (.tail _ (.tail _ (.tail _ (.tail _ (.tail _ (.head _)))))))))))) (List.forall_mem_nil _)))))))))))), F4, hled ▸ N4⟩
        clear F1 N1 hm2
        rintro s' ⟨m₂, h2, tk2, rfl, hm2, F1, N1⟩
        let Cut6 : Shared → Prop := (fun s' => ∃ u5, LawSt s₁.heap s₁.heap.objs.size s₁ NX1 ((dM, MapDict w.params u1 u2 u3 (.int tv t1) (.ref x1) (.int (Tt.walk.length : Int) u5) 3) :: rest) s')
        with_unfolding_all refine' execs_cut (l := [_]) (rest := [_, _, _, _, _, _, _, _, _, _, _, _, _, _, _, _, _]) Cut6 ?ca3 ?cb3
        case ca3 =>
          have F2 := fr_said (ps := [(Str.ofString "m", .ref mA), (Str.ofString "top", .ref tp)]) (all_cons (hm2 _ (by rw [hNX1]; exact .head _)) (all_cons (hm2 _ (by rw [hNX1]; exact .tail _ (.head _))) (List.forall_mem_nil _))) F1
          dsimp only [kstB] at F2
          clear F1
          dsimp only [MapDict] at N1
          have mp' := sub _ mp
          have mq' := sub _ mq
          (repeat (first | ((with_reducible show wpAny _ _ (exec _ _) _ _ (Shared.mk _ _ _ (_ + 1) _)); refine tk_gen ?_; intro tk9) | ((with_reducible show wpAny _ _ (exec _ _) _ _ _); k_fold) | ((with_reducible show wpAny _ _ (exec _ _) _ _ _); (fail_if_success (with_reducible show wpAny _ _ (exec (Stmt.While _ _ _ _) _) _ _ _)); (fail_if_success (with_reducible show wpAny _ _ (exec (Stmt.For _ _ _ _ _) _) _ _ _)); (first | (k_unfold; (try dsimp only)) | walk1 | (dsimp only; walk1))) | ((with_reducible show wpAny _ _ (call (Value.ref _) _) _ _ _); (fail_if_success (with_reducible show wpAny _ _ (call (Value.ref 42) _) _ _ _)); (fail_if_success (with_reducible show wpAny _ _ (call (Value.ref 252) _) _ _ _)); (fail_if_success (with_reducible show wpAny _ _ (call (Value.ref 175) _) _ _ _)); (fail_if_success (with_reducible show wpAny _ _ (call (Value.ref 284) _) _ _ _)); (fail_if_success (with_reducible show wpAny _ _ (call (Value.ref 291) _) _ _ _)); (fail_if_success (with_reducible show wpAny _ _ (call (Value.ref 245) _) _ _ _)); (fail_if_success (with_reducible show wpAny _ _ (call (Value.ref 168) _) _ _ _)); (fail_if_success (with_reducible show wpAny _ _ (call (Value.ref 210) _) _ _ _)); (fail_if_success (with_reducible show wpAny _ _ (call (Value.ref 266) _) _ _ _)); (fail_if_success (with_reducible show wpAny _ _ (call (Value.ref 271) _) _ _ _)); (first | (k_unfold; (try dsimp only)) | walk1 | (dsimp only; walk1))) | ((fail_if_success (with_reducible show wpAny _ _ (exec _ _) _ _ _)); (fail_if_success (with_reducible show wpAny _ _ (call (Value.ref _) _) _ _ _)); (fail_if_success (with_reducible show wpAny _ _ (pyIter _) _ _ _)); (fail_if_success (with_reducible show wpAny _ _ (subscriptTail _ (PySem.Expr.Slice _ _ _ _) _ _) _ _ _)); (fail_if_success (with_reducible show wpAny _ _ (compareOp CmpOp.NotEq (Value.ref _) (Value.ref _)) _ _ _)); (first | (k_unfold; (try dsimp only)) | walk1 | (dsimp only; walk1)))))
          (rename News _ _ _ _ => N4); (rename Fr _ _ _ _ => F4)
          rw [lq] at N4
          exact ⟨rfl, _, _, _, _, rfl, (by rw [hNX1]; exact all_cons rfl (all_cons rfl (all_cons (hm2 (Str.ofString "kids", .ref lK) (by rw [hNX1]; exact .tail _ (.tail _ (.head _)))) (all_cons (hm2 (Str.ofString "t", .int tv t1) (by rw [hNX1]; exact .tail _ (.tail _ (.tail _ (.head _))))) (all_cons (hm2 (Str.ofString "n", .int n t2) (by rw [hNX1]; exact .tail _ (.tail _ (.tail _ (.tail _ (.head _)))))) (all_cons (hm2 (Str.ofString "room", .int R t3) (by rw [hNX1]; exact .tail _ (.tail _ (.tail _ (.tail _ (.tail _ (.head _))))))) (all_cons (hm2 (Str.ofString "shapes", .ref aS) (by rw [hNX1]; exact .tail _ (.tail _ (.tail _ (.tail _ (.tail _ (.tail _ (.head _)))))))) (all_cons (hm2 (Str.ofString "sizes", .ref aZ) (by rw [hNX1]; exact .tail _ (.tail _ (.tail _ (.tail _ (.tail _ (.tail _ (.tail _ (.head _))))))))) (all_cons (hm2 (Str.ofString "seed", .int sd t4) (by rw [hNX1]; exact .tail _ (.tail _ (.tail _ (.tail _ (.tail _ (.tail _ (.tail _ (.tail _ (.head _)))))))))) (all_cons (hm2 (Str.ofString "shift", .int sf t5) (by rw [hNX1]; exact .tail _ (.tail _ (.tail _ (.tail _ (.tail _ (.tail _ (.tail _ (.tail _ (.tail _ (.head _))))))))))) (all_cons (hm2 (Str.ofString "value", .int va t6) (by rw [hNX1]; exact .tail _ (.tail _ (.tail _ (.tail _ (.tail _ (.tail _ (.tail _ (.tail _ (.tail _ (.tail _ (.head _)))))))))))) (List.forall_mem_nil _)))))))))))), F4, N4⟩
        clear F1 N1 hm2
        rintro s' ⟨u5, m₂, h2, tk2, rfl, hm2, F1, N1⟩
        obtain ⟨nz, hnz⟩ : ∃ nz : Led, nz = (dM, MapDict w.params u1 u2 u3 (.int tv t1) (.ref x1) (.int (Tt.walk.length : Int) u5) 3) :: rest := ⟨_, rfl⟩
        rw [← hnz] at N1
        have mD : (dM, dictOf [⟨PyData.keyHash w.params (Str.ofString "t"), .str (Str.ofString "t") u1, .int tv t1⟩, ⟨PyData.keyHash w.params (Str.ofString "root"), .str (Str.ofString "root") u2, .ref x1⟩, ⟨PyData.keyHash w.params (Str.ofString "size"), .str (Str.ofString "size") u3, .int (Tt.walk.length : Int) u5⟩] 3) ∈ nz := by rw [hnz]; exact .head _
        have up : ∀ p ∈ nw, p ∈ nz := by rw [hnz]; exact fun p hp => .tail _ (sub _ hp)
        replace mM : (mA, instObj 255 dM) ∈ nz := by rw [hnz]; exact .tail _ mM
        have hM : MapIn w.params nz mA (.int tv t1) (.ref x1) (.int (Tt.walk.length : Int) u5) := ⟨dM, 3, u1, u2, u3, mM, mD⟩
        replace vL := up _ vL
        replace vH := up _ vH
        replace vK := up _ vK
        replace vC := up _ vC
        replace mp := up _ mp
        replace mf := up _ mf
        replace mq := up _ mq
        replace hE := hE.mono fun v a _ h => PartIn.mono up h
        replace hP := PartIn.mono up hP
        replace hT := TreeIn.mono up hT
        replace jq := jq.mono up
        clear hnz up sub offM hT0
        let Cut7 : Shared → Prop := (LawSt s₁.heap s₁.heap.objs.size s₁ NX1 nz)
        with_unfolding_all refine' execs_cut (l := [_, _, _]) (rest := [_, _, _, _, _, _, _, _, _, _, _, _, _, _]) Cut7 ?ca4 ?cb4
        case ca4 =>
          have F2 := fr_said (ps := [(Str.ofString "m", .ref mA), (Str.ofString "t", .int tv t1), (Str.ofString "top", .ref tp)]) (all_cons (hm2 _ (by rw [hNX1]; exact .head _)) (all_cons (hm2 _ (by rw [hNX1]; exact .tail _ (.tail _ (.tail _ (.head _))))) (all_cons (hm2 _ (by rw [hNX1]; exact .tail _ (.head _))) (List.forall_mem_nil _)))) F1
          dsimp only [kstB] at F2
          clear F1
          have lf := jf.length
          (repeat (first | ((with_reducible show wpAny _ _ (exec _ _) _ _ (Shared.mk _ _ _ (_ + 1) _)); refine tk_gen ?_; intro tk9) | ((with_reducible show wpAny _ _ (exec _ _) _ _ _); k_fold) | ((with_reducible show wpAny _ _ (exec _ _) _ _ _); (fail_if_success (with_reducible show wpAny _ _ (exec (Stmt.While _ _ _ _) _) _ _ _)); (fail_if_success (with_reducible show wpAny _ _ (exec (Stmt.For _ _ _ _ _) _) _ _ _)); (first | (k_unfold; (try dsimp only)) | walk1 | (dsimp only; walk1))) | ((with_reducible show wpAny _ _ (call (Value.ref _) _) _ _ _); (fail_if_success (with_reducible show wpAny _ _ (call (Value.ref 42) _) _ _ _)); (fail_if_success (with_reducible show wpAny _ _ (call (Value.ref 252) _) _ _ _)); (fail_if_success (with_reducible show wpAny _ _ (call (Value.ref 175) _) _ _ _)); (fail_if_success (with_reducible show wpAny _ _ (call (Value.ref 284) _) _ _ _)); (fail_if_success (with_reducible show wpAny _ _ (call (Value.ref 291) _) _ _ _)); (fail_if_success (with_reducible show wpAny _ _ (call (Value.ref 245) _) _ _ _)); (fail_if_success (with_reducible show wpAny _ _ (call (Value.ref 168) _) _ _ _)); (fail_if_success (with_reducible show wpAny _ _ (call (Value.ref 210) _) _ _ _)); (fail_if_success (with_reducible show wpAny _ _ (call (Value.ref 266) _) _ _ _)); (fail_if_success (with_reducible show wpAny _ _ (call (Value.ref 271) _) _ _ _)); (first | (k_unfold; (try dsimp only)) | walk1 | (dsimp only; walk1))) | ((fail_if_success (with_reducible show wpAny _ _ (exec _ _) _ _ _)); (fail_if_success (with_reducible show wpAny _ _ (call (Value.ref _) _) _ _ _)); (fail_if_success (with_reducible show wpAny _ _ (pyIter _) _ _ _)); (fail_if_success (with_reducible show wpAny _ _ (subscriptTail _ (PySem.Expr.Slice _ _ _ _) _ _) _ _ _)); (fail_if_success (with_reducible show wpAny _ _ (compareOp CmpOp.NotEq (Value.ref _) (Value.ref _)) _ _ _)); (first | (k_unfold; (try dsimp only)) | walk1 | (dsimp only; walk1)))))
          (rename News _ _ _ _ => N3); (rename Fr _ _ _ _ => F3)
          k_dflt (refine' mflat_contract (nw := nz) (t := Tt) ?k1 F3 ?k3 N3 ?k5 ?k6 (fun _ h => h) hM hT okT (by omega) ?k7 ?k8 ?_; (case k1 => k_asm); (case k3 => k_asm); (case k5 => k_asm); (case k6 => first | exact rfl | assumption); (case k7 => ktr_room); (case k8 => decide +kernel); k_whole)
          clear F3 N3
          intro oW tlW h3 tk3 F3 N3 hf1 hI1
          (repeat (first | ((with_reducible show wpAny _ _ (exec _ _) _ _ (Shared.mk _ _ _ (_ + 1) _)); refine tk_gen ?_; intro tk9) | ((with_reducible show wpAny _ _ (exec _ _) _ _ _); k_fold) | ((with_reducible show wpAny _ _ (exec _ _) _ _ _); (fail_if_success (with_reducible show wpAny _ _ (exec (Stmt.While _ _ _ _) _) _ _ _)); (fail_if_success (with_reducible show wpAny _ _ (exec (Stmt.For _ _ _ _ _) _) _ _ _)); (first | (k_unfold; (try dsimp only)) | walk1 | (dsimp only; walk1))) | ((with_reducible show wpAny _ _ (call (Value.ref _) _) _ _ _); (fail_if_success (with_reducible show wpAny _ _ (call (Value.ref 42) _) _ _ _)); (fail_if_success (with_reducible show wpAny _ _ (call (Value.ref 252) _) _ _ _)); (fail_if_success (with_reducible show wpAny _ _ (call (Value.ref 175) _) _ _ _)); (fail_if_success (with_reducible show wpAny _ _ (call (Value.ref 284) _) _ _ _)); (fail_if_success (with_reducible show wpAny _ _ (call (Value.ref 291) _) _ _ _)); (fail_if_success (with_reducible show wpAny _ _ (call (Value.ref 245) _) _ _ _)); (fail_if_success (with_reducible show wpAny _ _ (call (Value.ref 168) _) _ _ _)); (fail_if_success (with_reducible show wpAny _ _ (call (Value.ref 210) _) _ _ _)); (fail_if_success (with_reducible show wpAny _ _ (call (Value.ref 266) _) _ _ _)); (fail_if_success (with_reducible show wpAny _ _ (call (Value.ref 271) _) _ _ _)); (first | (k_unfold; (try dsimp only)) | walk1 | (dsimp only; walk1))) | ((fail_if_success (with_reducible show wpAny _ _ (exec _ _) _ _ _)); (fail_if_success (with_reducible show wpAny _ _ (call (Value.ref _) _) _ _ _)); (fail_if_success (with_reducible show wpAny _ _ (pyIter _) _ _ _)); (fail_if_success (with_reducible show wpAny _ _ (subscriptTail _ (PySem.Expr.Slice _ _ _ _) _ _) _ _ _)); (fail_if_success (with_reducible show wpAny _ _ (compareOp CmpOp.NotEq (Value.ref _) (Value.ref _)) _ _ _)); (first | (k_unfold; (try dsimp only)) | walk1 | (dsimp only; walk1)))))
          (rename News _ _ _ _ => N4)
          (rename IntsAre _ ([tv] ++ _) => hI2)
          refine ne_ints N4 (by first | ke_room | decide +kernel) (fun p hp => .tail _ (.tail _ (own_app _ hp))) (fun _ h => h) hI1 ⟨_, 0, .head _, hI2⟩ rfl ?_
          have N5 := news_sub (l' := nz ++ tlW) N4 fun p hp => .tail _ (.tail _ hp)
          clear N4
          obtain ⟨wvs, wn, mw, iw⟩ := hI1
          have mw' : _ ∈ nz ++ tlW := own_app _ mw
          (repeat (first | ((with_reducible show wpAny _ _ (exec _ _) _ _ (Shared.mk _ _ _ (_ + 1) _)); refine tk_gen ?_; intro tk9) | ((with_reducible show wpAny _ _ (exec _ _) _ _ _); k_fold) | ((with_reducible show wpAny _ _ (exec _ _) _ _ _); (fail_if_success (with_reducible show wpAny _ _ (exec (Stmt.While _ _ _ _) _) _ _ _)); (fail_if_success (with_reducible show wpAny _ _ (exec (Stmt.For _ _ _ _ _) _) _ _ _)); (first | (k_unfold; (try dsimp only)) | walk1 | (dsimp only; walk1))) | ((with_reducible show wpAny _ _ (call (Value.ref _) _) _ _ _); (fail_if_success (with_reducible show wpAny _ _ (call (Value.ref 42) _) _ _ _)); (fail_if_success (with_reducible show wpAny _ _ (call (Value.ref 252) _) _ _ _)); (fail_if_success (with_reducible show wpAny _ _ (call (Value.ref 175) _) _ _ _)); (fail_if_success (with_reducible show wpAny _ _ (call (Value.ref 284) _) _ _ _)); (fail_if_success (with_reducible show wpAny _ _ (call (Value.ref 291) _) _ _ _)); (fail_if_success (with_reducible show wpAny _ _ (call (Value.ref 245) _) _ _ _)); (fail_if_success (with_reducible show wpAny _ _ (call (Value.ref 168) _) _ _ _)); (fail_if_success (with_reducible show wpAny _ _ (call (Value.ref 210) _) _ _ _)); (fail_if_success (with_reducible show wpAny _ _ (call (Value.ref 266) _) _ _ _)); (fail_if_success (with_reducible show wpAny _ _ (call (Value.ref 271) _) _ _ _)); (first | (k_unfold; (try dsimp only)) | walk1 | (dsimp only; walk1))) | ((fail_if_success (with_reducible show wpAny _ _ (exec _ _) _ _ _)); (fail_if_success (with_reducible show wpAny _ _ (call (Value.ref _) _) _ _ _)); (fail_if_success (with_reducible show wpAny _ _ (pyIter _) _ _ _)); (fail_if_success (with_reducible show wpAny _ _ (subscriptTail _ (PySem.Expr.Slice _ _ _ _) _ _) _ _ _)); (fail_if_success (with_reducible show wpAny _ _ (compareOp CmpOp.NotEq (Value.ref _) (Value.ref _)) _ _ _)); (first | (k_unfold; (try dsimp only)) | walk1 | (dsimp only; walk1)))))
          (((rename Fr _ _ _ _ => lF9); (with_unfolding_all refine' For_invVF lF9 ?k1 ?k2 ?_; (case k1 => exact rfl); (case k2 => exact rfl)); (repeat (first | ((with_reducible show wpAny _ _ (exec _ _) _ _ (Shared.mk _ _ _ (_ + 1) _)); refine tk_gen ?_; intro tk9) | ((with_reducible show wpAny _ _ (exec _ _) _ _ _); k_fold) | ((with_reducible show wpAny _ _ (exec _ _) _ _ _); (fail_if_success (with_reducible show wpAny _ _ (exec (Stmt.While _ _ _ _) _) _ _ _)); (fail_if_success (with_reducible show wpAny _ _ (exec (Stmt.For _ _ _ _ _) _) _ _ _)); (first | (k_unfold; (try dsimp only)) | walk1 | (dsimp only; walk1))) | ((with_reducible show wpAny _ _ (call (Value.ref _) _) _ _ _); (fail_if_success (with_reducible show wpAny _ _ (call (Value.ref 42) _) _ _ _)); (fail_if_success (with_reducible show wpAny _ _ (call (Value.ref 252) _) _ _ _)); (fail_if_success (with_reducible show wpAny _ _ (call (Value.ref 175) _) _ _ _)); (fail_if_success (with_reducible show wpAny _ _ (call (Value.ref 284) _) _ _ _)); (fail_if_success (with_reducible show wpAny _ _ (call (Value.ref 291) _) _ _ _)); (fail_if_success (with_reducible show wpAny _ _ (call (Value.ref 245) _) _ _ _)); (fail_if_success (with_reducible show wpAny _ _ (call (Value.ref 168) _) _ _ _)); (fail_if_success (with_reducible show wpAny _ _ (call (Value.ref 210) _) _ _ _)); (fail_if_success (with_reducible show wpAny _ _ (call (Value.ref 266) _) _ _ _)); (fail_if_success (with_reducible show wpAny _ _ (call (Value.ref 271) _) _ _ _)); (first | (k_unfold; (try dsimp only)) | walk1 | (dsimp only; walk1))) | ((fail_if_success (with_reducible show wpAny _ _ (exec _ _) _ _ _)); (fail_if_success (with_reducible show wpAny _ _ (call (Value.ref _) _) _ _ _)); (fail_if_success (with_reducible show wpAny _ _ (pyIter _) _ _ _)); (fail_if_success (with_reducible show wpAny _ _ (subscriptTail _ (PySem.Expr.Slice _ _ _ _) _ _) _ _ _)); (fail_if_success (with_reducible show wpAny _ _ (compareOp CmpOp.NotEq (Value.ref _) (Value.ref _)) _ _ _)); (first | (k_unfold; (try dsimp only)) | walk1 | (dsimp only; walk1)))))))
          (rename News _ _ _ _ => N3); (rename Fr _ _ _ _ => F3)
          let Inv8 : Nat → (Str → Option Value) → Led → Prop := (fun _ m' nx => nx = nz ++ tlW ∧ ∀ p ∈ NX1, m' p.1 = some p.2)
          refine kdl_iter Inv8 rfl mw' F3 N3 ⟨rfl, (by rw [hNX1]; exact all_cons rfl (all_cons rfl (all_cons (hm2 (Str.ofString "kids", .ref lK) (by rw [hNX1]; exact .tail _ (.tail _ (.head _)))) (all_cons rfl (all_cons (hm2 (Str.ofString "n", .int n t2) (by rw [hNX1]; exact .tail _ (.tail _ (.tail _ (.tail _ (.head _)))))) (all_cons (hm2 (Str.ofString "room", .int R t3) (by rw [hNX1]; exact .tail _ (.tail _ (.tail _ (.tail _ (.tail _ (.head _))))))) (all_cons (hm2 (Str.ofString "shapes", .ref aS) (by rw [hNX1]; exact .tail _ (.tail _ (.tail _ (.tail _ (.tail _ (.tail _ (.head _)))))))) (all_cons (hm2 (Str.ofString "sizes", .ref aZ) (by rw [hNX1]; exact .tail _ (.tail _ (.tail _ (.tail _ (.tail _ (.tail _ (.tail _ (.head _))))))))) (all_cons (hm2 (Str.ofString "seed", .int sd t4) (by rw [hNX1]; exact .tail _ (.tail _ (.tail _ (.tail _ (.tail _ (.tail _ (.tail _ (.tail _ (.head _)))))))))) (all_cons (hm2 (Str.ofString "shift", .int sf t5) (by rw [hNX1]; exact .tail _ (.tail _ (.tail _ (.tail _ (.tail _ (.tail _ (.tail _ (.tail _ (.tail _ (.head _))))))))))) (all_cons (hm2 (Str.ofString "value", .int va t6) (by rw [hNX1]; exact .tail _ (.tail _ (.tail _ (.tail _ (.tail _ (.tail _ (.tail _ (.tail _ (.tail _ (.tail _ (.head _)))))))))))) (List.forall_mem_nil _))))))))))))⟩ ?_ ?_
          · clear F3 N3
            rintro i v m₃ nx h4 tk4 own hv hoff hin ⟨rfl, hm3⟩ F3 N3
            obtain ⟨k, tt, rfl⟩ := ints_at iw hv
            (repeat (first | ((with_reducible show wpAny _ _ (exec _ _) _ _ (Shared.mk _ _ _ (_ + 1) _)); refine tk_gen ?_; intro tk9) | ((with_reducible show wpAny _ _ (exec _ _) _ _ _); k_fold) | ((with_reducible show wpAny _ _ (exec _ _) _ _ _); (fail_if_success (with_reducible show wpAny _ _ (exec (Stmt.While _ _ _ _) _) _ _ _)); (fail_if_success (with_reducible show wpAny _ _ (exec (Stmt.For _ _ _ _ _) _) _ _ _)); (first | (k_unfold; (try dsimp only)) | walk1 | (dsimp only; walk1))) | ((with_reducible show wpAny _ _ (call (Value.ref _) _) _ _ _); (fail_if_success (with_reducible show wpAny _ _ (call (Value.ref 42) _) _ _ _)); (fail_if_success (with_reducible show wpAny _ _ (call (Value.ref 252) _) _ _ _)); (fail_if_success (with_reducible show wpAny _ _ (call (Value.ref 175) _) _ _ _)); (fail_if_success (with_reducible show wpAny _ _ (call (Value.ref 284) _) _ _ _)); (fail_if_success (with_reducible show wpAny _ _ (call (Value.ref 291) _) _ _ _)); (fail_if_success (with_reducible show wpAny _ _ (call (Value.ref 245) _) _ _ _)); (fail_if_success (with_reducible show wpAny _ _ (call (Value.ref 168) _) _ _ _)); (fail_if_success (with_reducible show wpAny _ _ (call (Value.ref 210) _) _ _ _)); (fail_if_success (with_reducible show wpAny _ _ (call (Value.ref 266) _) _ _ _)); (fail_if_success (with_reducible show wpAny _ _ (call (Value.ref 271) _) _ _ _)); (first | (k_unfold; (try dsimp only)) | walk1 | (dsimp only; walk1))) | ((fail_if_success (with_reducible show wpAny _ _ (exec _ _) _ _ _)); (fail_if_success (with_reducible show wpAny _ _ (call (Value.ref _) _) _ _ _)); (fail_if_success (with_reducible show wpAny _ _ (pyIter _) _ _ _)); (fail_if_success (with_reducible show wpAny _ _ (subscriptTail _ (PySem.Expr.Slice _ _ _ _) _ _) _ _ _)); (fail_if_success (with_reducible show wpAny _ _ (compareOp CmpOp.NotEq (Value.ref _) (Value.ref _)) _ _ _)); (first | (k_unfold; (try dsimp only)) | walk1 | (dsimp only; walk1)))))
            (rename News _ _ _ _ => N7); (rename Fr _ _ _ _ => F7)
            exact inv_end F7 N7 hoff ⟨hin, rfl, (by rw [hNX1]; exact all_cons (hm3 (Str.ofString "m", .ref mA) (by rw [hNX1]; exact .head _)) (all_cons (hm3 (Str.ofString "top", .ref tp) (by rw [hNX1]; exact .tail _ (.head _))) (all_cons (hm3 (Str.ofString "kids", .ref lK) (by rw [hNX1]; exact .tail _ (.tail _ (.head _)))) (all_cons (hm3 (Str.ofString "t", .int tv t1) (by rw [hNX1]; exact .tail _ (.tail _ (.tail _ (.head _))))) (all_cons (hm3 (Str.ofString "n", .int n t2) (by rw [hNX1]; exact .tail _ (.tail _ (.tail _ (.tail _ (.head _)))))) (all_cons (hm3 (Str.ofString "room", .int R t3) (by rw [hNX1]; exact .tail _ (.tail _ (.tail _ (.tail _ (.tail _ (.head _))))))) (all_cons (hm3 (Str.ofString "shapes", .ref aS) (by rw [hNX1]; exact .tail _ (.tail _ (.tail _ (.tail _ (.tail _ (.tail _ (.head _)))))))) (all_cons (hm3 (Str.ofString "sizes", .ref aZ) (by rw [hNX1]; exact .tail _ (.tail _ (.tail _ (.tail _ (.tail _ (.tail _ (.tail _ (.head _))))))))) (all_cons (hm3 (Str.ofString "seed", .int sd t4) (by rw [hNX1]; exact .tail _ (.tail _ (.tail _ (.tail _ (.tail _ (.tail _ (.tail _ (.tail _ (.head _)))))))))) (all_cons (hm3 (Str.ofString "shift", .int sf t5) (by rw [hNX1]; exact .tail _ (.tail _ (.tail _ (.tail _ (.tail _ (.tail _ (.tail _ (.tail _ (.tail _ (.head _))))))))))) (all_cons (hm3 (Str.ofString "value", .int va t6) (by rw [hNX1]; exact .tail _ (.tail _ (.tail _ (.tail _ (.tail _ (.tail _ (.tail _ (.tail _ (.tail _ (.tail _ (.head _)))))))))))) (List.forall_mem_nil _))))))))))))⟩
          · clear F3 N3
            rintro m₃ nx h4 tk4 ⟨rfl, hm3⟩ F3 N3
            (repeat (first | ((with_reducible show wpAny _ _ (exec _ _) _ _ (Shared.mk _ _ _ (_ + 1) _)); refine tk_gen ?_; intro tk9) | ((with_reducible show wpAny _ _ (exec _ _) _ _ _); k_fold) | ((with_reducible show wpAny _ _ (exec _ _) _ _ _); (fail_if_success (with_reducible show wpAny _ _ (exec (Stmt.While _ _ _ _) _) _ _ _)); (fail_if_success (with_reducible show wpAny _ _ (exec (Stmt.For _ _ _ _ _) _) _ _ _)); (first | (k_unfold; (try dsimp only)) | walk1 | (dsimp only; walk1))) | ((with_reducible show wpAny _ _ (call (Value.ref _) _) _ _ _); (fail_if_success (with_reducible show wpAny _ _ (call (Value.ref 42) _) _ _ _)); (fail_if_success (with_reducible show wpAny _ _ (call (Value.ref 252) _) _ _ _)); (fail_if_success (with_reducible show wpAny _ _ (call (Value.ref 175) _) _ _ _)); (fail_if_success (with_reducible show wpAny _ _ (call (Value.ref 284) _) _ _ _)); (fail_if_success (with_reducible show wpAny _ _ (call (Value.ref 291) _) _ _ _)); (fail_if_success (with_reducible show wpAny _ _ (call (Value.ref 245) _) _ _ _)); (fail_if_success (with_reducible show wpAny _ _ (call (Value.ref 168) _) _ _ _)); (fail_if_success (with_reducible show wpAny _ _ (call (Value.ref 210) _) _ _ _)); (fail_if_success (with_reducible show wpAny _ _ (call (Value.ref 266) _) _ _ _)); (fail_if_success (with_reducible show wpAny _ _ (call (Value.ref 271) _) _ _ _)); (first | (k_unfold; (try dsimp only)) | walk1 | (dsimp only; walk1))) | ((fail_if_success (with_reducible show wpAny _ _ (exec _ _) _ _ _)); (fail_if_success (with_reducible show wpAny _ _ (call (Value.ref _) _) _ _ _)); (fail_if_success (with_reducible show wpAny _ _ (pyIter _) _ _ _)); (fail_if_success (with_reducible show wpAny _ _ (subscriptTail _ (PySem.Expr.Slice _ _ _ _) _ _) _ _ _)); (fail_if_success (with_reducible show wpAny _ _ (compareOp CmpOp.NotEq (Value.ref _) (Value.ref _)) _ _ _)); (first | (k_unfold; (try dsimp only)) | walk1 | (dsimp only; walk1)))))
            exact ⟨rfl, _, _, _, rfl, hm3, F3, news_sub N3 sub_app⟩
        clear F1 N1 hm2
        rintro s' ⟨m₂, h2, tk2, rfl, hm2, F1, N1⟩
        let Cut9 : Shared → Prop := (LawSt s₁.heap s₁.heap.objs.size s₁ NX1 nz)
        with_unfolding_all refine' execs_cut (l := [_]) (rest := [_, _, _, _, _, _, _, _, _, _, _, _, _]) Cut9 ?ca5 ?cb5
        case ca5 =>
          have F2 := fr_said (ps := [(Str.ofString "top", .ref tp), (Str.ofString "kids", .ref lK)]) (all_cons (hm2 _ (by rw [hNX1]; exact .tail _ (.head _))) (all_cons (hm2 _ (by rw [hNX1]; exact .tail _ (.tail _ (.head _)))) (List.forall_mem_nil _))) F1
          dsimp only [kstB] at F2
          clear F1
          have lkv := hE.length
          (repeat (first | ((with_reducible show wpAny _ _ (exec _ _) _ _ (Shared.mk _ _ _ (_ + 1) _)); refine tk_gen ?_; intro tk9) | ((with_reducible show wpAny _ _ (exec _ _) _ _ _); k_fold) | ((with_reducible show wpAny _ _ (exec _ _) _ _ _); (fail_if_success (with_reducible show wpAny _ _ (exec (Stmt.While _ _ _ _) _) _ _ _)); (fail_if_success (with_reducible show wpAny _ _ (exec (Stmt.For _ _ _ _ _) _) _ _ _)); (first | (k_unfold; (try dsimp only)) | walk1 | (dsimp only; walk1))) | ((with_reducible show wpAny _ _ (call (Value.ref _) _) _ _ _); (fail_if_success (with_reducible show wpAny _ _ (call (Value.ref 42) _) _ _ _)); (fail_if_success (with_reducible show wpAny _ _ (call (Value.ref 252) _) _ _ _)); (fail_if_success (with_reducible show wpAny _ _ (call (Value.ref 175) _) _ _ _)); (fail_if_success (with_reducible show wpAny _ _ (call (Value.ref 284) _) _ _ _)); (fail_if_success (with_reducible show wpAny _ _ (call (Value.ref 291) _) _ _ _)); (fail_if_success (with_reducible show wpAny _ _ (call (Value.ref 245) _) _ _ _)); (fail_if_success (with_reducible show wpAny _ _ (call (Value.ref 168) _) _ _ _)); (fail_if_success (with_reducible show wpAny _ _ (call (Value.ref 210) _) _ _ _)); (fail_if_success (with_reducible show wpAny _ _ (call (Value.ref 266) _) _ _ _)); (fail_if_success (with_reducible show wpAny _ _ (call (Value.ref 271) _) _ _ _)); (first | (k_unfold; (try dsimp only)) | walk1 | (dsimp only; walk1))) | ((fail_if_success (with_reducible show wpAny _ _ (exec _ _) _ _ _)); (fail_if_success (with_reducible show wpAny _ _ (call (Value.ref _) _) _ _ _)); (fail_if_success (with_reducible show wpAny _ _ (pyIter _) _ _ _)); (fail_if_success (with_reducible show wpAny _ _ (subscriptTail _ (PySem.Expr.Slice _ _ _ _) _ _) _ _ _)); (fail_if_success (with_reducible show wpAny _ _ (compareOp CmpOp.NotEq (Value.ref _) (Value.ref _)) _ _ _)); (first | (k_unfold; (try dsimp only)) | walk1 | (dsimp only; walk1)))))
          (((rename Fr _ _ _ _ => lF9); (with_unfolding_all refine' For_invVF lF9 ?k1 ?k2 ?_; (case k1 => exact rfl); (case k2 => exact rfl)); (repeat (first | ((with_reducible show wpAny _ _ (exec _ _) _ _ (Shared.mk _ _ _ (_ + 1) _)); refine tk_gen ?_; intro tk9) | ((with_reducible show wpAny _ _ (exec _ _) _ _ _); k_fold) | ((with_reducible show wpAny _ _ (exec _ _) _ _ _); (fail_if_success (with_reducible show wpAny _ _ (exec (Stmt.While _ _ _ _) _) _ _ _)); (fail_if_success (with_reducible show wpAny _ _ (exec (Stmt.For _ _ _ _ _) _) _ _ _)); (first | (k_unfold; (try dsimp only)) | walk1 | (dsimp only; walk1))) | ((with_reducible show wpAny _ _ (call (Value.ref _) _) _ _ _); (fail_if_success (with_reducible show wpAny _ _ (call (Value.ref 42) _) _ _ _)); (fail_if_success (with_reducible show wpAny _ _ (call (Value.ref 252) _) _ _ _)); (fail_if_success (with_reducible show wpAny _ _ (call (Value.ref 175) _) _ _ _)); (fail_if_success (with_reducible show wpAny _ _ (call (Value.ref 284) _) _ _ _)); (fail_if_success (with_reducible show wpAny _ _ (call (Value.ref 291) _) _ _ _)); (fail_if_success (with_reducible show wpAny _ _ (call (Value.ref 245) _) _ _ _)); (fail_if_success (with_reducible show wpAny _ _ (call (Value.ref 168) _) _ _ _)); (fail_if_success (with_reducible show wpAny _ _ (call (Value.ref 210) _) _ _ _)); (fail_if_success (with_reducible show wpAny _ _ (call (Value.ref 266) _) _ _ _)); (fail_if_success (with_reducible show wpAny _ _ (call (Value.ref 271) _) _ _ _)); (first | (k_unfold; (try dsimp only)) | walk1 | (dsimp only; walk1))) | ((fail_if_success (with_reducible show wpAny _ _ (exec _ _) _ _ _)); (fail_if_success (with_reducible show wpAny _ _ (call (Value.ref _) _) _ _ _)); (fail_if_success (with_reducible show wpAny _ _ (pyIter _) _ _ _)); (fail_if_success (with_reducible show wpAny _ _ (subscriptTail _ (PySem.Expr.Slice _ _ _ _) _ _) _ _ _)); (fail_if_success (with_reducible show wpAny _ _ (compareOp CmpOp.NotEq (Value.ref _) (Value.ref _)) _ _ _)); (first | (k_unfold; (try dsimp only)) | walk1 | (dsimp only; walk1)))))))
          (rename News _ _ _ _ => N3); (rename Fr _ _ _ _ => F3)
          obtain ⟨lz, hlz, N5⟩ := news_name N3
          have upz : ∀ p ∈ nz, p ∈ lz := by rw [hlz]; exact fun p hp => .tail _ (.tail _ hp)
          have hEA : Each (PartIn w.params 59 nz) ([.ref tp] ++ kvs) (Tt :: Ks) := .cons hP hE
          let Inv10 : Nat → (Str → Option Value) → Led → Prop := (fun _ m' nx => lz = nx ∧ ∀ p ∈ NX1, m' p.1 = some p.2)
          refine kdl_iter (vs := [.ref tp] ++ kvs) (nn := 0) Inv10 rfl (by rw [hlz]; exact .head _) F3 N5 ⟨rfl, (by rw [hNX1]; exact all_cons (hm2 (Str.ofString "m", .ref mA) (by rw [hNX1]; exact .head _)) (all_cons rfl (all_cons rfl (all_cons (hm2 (Str.ofString "t", .int tv t1) (by rw [hNX1]; exact .tail _ (.tail _ (.tail _ (.head _))))) (all_cons (hm2 (Str.ofString "n", .int n t2) (by rw [hNX1]; exact .tail _ (.tail _ (.tail _ (.tail _ (.head _)))))) (all_cons (hm2 (Str.ofString "room", .int R t3) (by rw [hNX1]; exact .tail _ (.tail _ (.tail _ (.tail _ (.tail _ (.head _))))))) (all_cons (hm2 (Str.ofString "shapes", .ref aS) (by rw [hNX1]; exact .tail _ (.tail _ (.tail _ (.tail _ (.tail _ (.tail _ (.head _)))))))) (all_cons (hm2 (Str.ofString "sizes", .ref aZ) (by rw [hNX1]; exact .tail _ (.tail _ (.tail _ (.tail _ (.tail _ (.tail _ (.tail _ (.head _))))))))) (all_cons (hm2 (Str.ofString "seed", .int sd t4) (by rw [hNX1]; exact .tail _ (.tail _ (.tail _ (.tail _ (.tail _ (.tail _ (.tail _ (.tail _ (.head _)))))))))) (all_cons (hm2 (Str.ofString "shift", .int sf t5) (by rw [hNX1]; exact .tail _ (.tail _ (.tail _ (.tail _ (.tail _ (.tail _ (.tail _ (.tail _ (.tail _ (.head _))))))))))) (all_cons (hm2 (Str.ofString "value", .int va t6) (by rw [hNX1]; exact .tail _ (.tail _ (.tail _ (.tail _ (.tail _ (.tail _ (.tail _ (.tail _ (.tail _ (.tail _ (.head _)))))))))))) (List.forall_mem_nil _))))))))))))⟩ ?_ ?_
          · clear F3 N3 N5 hlz
            rintro i v m₃ nx h4 tk4 own hv hoff hin ⟨rfl, hm3⟩ F3 N3
            obtain ⟨t, ht, pa, px, pf, pq, ptk3, pn3, rfl, mp3, hT3, ⟨gvs, gn, mg3, jg3⟩, ⟨qvs3, qn3, mq3, jq3⟩⟩ := hEA.getL hv
            have okt : t.Ok ∧ t.wt ≤ 39 := by
              rcases List.mem_cons.mp (List.mem_of_getElem? ht) with h | h
              · rw [h]; exact ⟨okT, wtT⟩
              · have := okK _ h; exact ⟨this.1, by omega⟩
            have bt := walk_length okt.1
            obtain ⟨bz, hbz, N5⟩ := news_name N3
            have um : ∀ p ∈ nz, p ∈ bz := by rw [hbz]; exact fun p hp => sub_app _ (upz p hp)
            have mp3' := um _ mp3
            have mq3' := um _ mq3
            have F6 := fr_saidX (ps := [(Str.ofString "m", .ref mA)]) (all_cons (hm3 _ (by rw [hNX1]; exact .head _)) (List.forall_mem_nil _)) F3
            dsimp only [kstB] at F6
            clear F3 N3
            (repeat (first | ((with_reducible show wpAny _ _ (exec _ _) _ _ (Shared.mk _ _ _ (_ + 1) _)); refine tk_gen ?_; intro tk9) | ((with_reducible show wpAny _ _ (exec _ _) _ _ _); k_fold) | ((with_reducible show wpAny _ _ (exec _ _) _ _ _); (fail_if_success (with_reducible show wpAny _ _ (exec (Stmt.While _ _ _ _) _) _ _ _)); (fail_if_success (with_reducible show wpAny _ _ (exec (Stmt.For _ _ _ _ _) _) _ _ _)); (first | (k_unfold; (try dsimp only)) | walk1 | (dsimp only; walk1))) | ((with_reducible show wpAny _ _ (call (Value.ref _) _) _ _ _); (fail_if_success (with_reducible show wpAny _ _ (call (Value.ref 42) _) _ _ _)); (fail_if_success (with_reducible show wpAny _ _ (call (Value.ref 252) _) _ _ _)); (fail_if_success (with_reducible show wpAny _ _ (call (Value.ref 175) _) _ _ _)); (fail_if_success (with_reducible show wpAny _ _ (call (Value.ref 284) _) _ _ _)); (fail_if_success (with_reducible show wpAny _ _ (call (Value.ref 291) _) _ _ _)); (fail_if_success (with_reducible show wpAny _ _ (call (Value.ref 245) _) _ _ _)); (fail_if_success (with_reducible show wpAny _ _ (call (Value.ref 168) _) _ _ _)); (fail_if_success (with_reducible show wpAny _ _ (call (Value.ref 210) _) _ _ _)); (fail_if_success (with_reducible show wpAny _ _ (call (Value.ref 266) _) _ _ _)); (fail_if_success (with_reducible show wpAny _ _ (call (Value.ref 271) _) _ _ _)); (first | (k_unfold; (try dsimp only)) | walk1 | (dsimp only; walk1))) | ((fail_if_success (with_reducible show wpAny _ _ (exec _ _) _ _ _)); (fail_if_success (with_reducible show wpAny _ _ (call (Value.ref _) _) _ _ _)); (fail_if_success (with_reducible show wpAny _ _ (pyIter _) _ _ _)); (fail_if_success (with_reducible show wpAny _ _ (subscriptTail _ (PySem.Expr.Slice _ _ _ _) _ _) _ _ _)); (fail_if_success (with_reducible show wpAny _ _ (compareOp CmpOp.NotEq (Value.ref _) (Value.ref _)) _ _ _)); (first | (k_unfold; (try dsimp only)) | walk1 | (dsimp only; walk1)))))
            (rename News _ _ _ _ => N3); (rename Fr _ _ _ _ => F3)
            refine pick4 (fun _ => true) rfl F3 N3 um mq3 jq3 (by omega) ?_ ?_
            · clear F3 N3
              intro q' t1' t2' t3' t4' tl3 ys I oI C oC D m₄ h5 tk5 E' hC hx1 hx2 hx3 hx4 F3 N3 off ne
              refine wpAny_tests_nil ?_
              rw [if_pos rfl]
              (repeat (first | ((with_reducible show wpAny _ _ (exec _ _) _ _ (Shared.mk _ _ _ (_ + 1) _)); refine tk_gen ?_; intro tk9) | ((with_reducible show wpAny _ _ (exec _ _) _ _ _); k_fold) | ((with_reducible show wpAny _ _ (exec _ _) _ _ _); (fail_if_success (with_reducible show wpAny _ _ (exec (Stmt.While _ _ _ _) _) _ _ _)); (fail_if_success (with_reducible show wpAny _ _ (exec (Stmt.For _ _ _ _ _) _) _ _ _)); (first | (k_unfold; (try dsimp only)) | walk1 | (dsimp only; walk1))) | ((with_reducible show wpAny _ _ (call (Value.ref _) _) _ _ _); (fail_if_success (with_reducible show wpAny _ _ (call (Value.ref 42) _) _ _ _)); (fail_if_success (with_reducible show wpAny _ _ (call (Value.ref 252) _) _ _ _)); (fail_if_success (with_reducible show wpAny _ _ (call (Value.ref 175) _) _ _ _)); (fail_if_success (with_reducible show wpAny _ _ (call (Value.ref 284) _) _ _ _)); (fail_if_success (with_reducible show wpAny _ _ (call (Value.ref 291) _) _ _ _)); (fail_if_success (with_reducible show wpAny _ _ (call (Value.ref 245) _) _ _ _)); (fail_if_success (with_reducible show wpAny _ _ (call (Value.ref 168) _) _ _ _)); (fail_if_success (with_reducible show wpAny _ _ (call (Value.ref 210) _) _ _ _)); (fail_if_success (with_reducible show wpAny _ _ (call (Value.ref 266) _) _ _ _)); (fail_if_success (with_reducible show wpAny _ _ (call (Value.ref 271) _) _ _ _)); (first | (k_unfold; (try dsimp only)) | walk1 | (dsimp only; walk1))) | ((fail_if_success (with_reducible show wpAny _ _ (exec _ _) _ _ _)); (fail_if_success (with_reducible show wpAny _ _ (call (Value.ref _) _) _ _ _)); (fail_if_success (with_reducible show wpAny _ _ (pyIter _) _ _ _)); (fail_if_success (with_reducible show wpAny _ _ (subscriptTail _ (PySem.Expr.Slice _ _ _ _) _ _) _ _ _)); (fail_if_success (with_reducible show wpAny _ _ (compareOp CmpOp.NotEq (Value.ref _) (Value.ref _)) _ _ _)); (first | (k_unfold; (try dsimp only)) | walk1 | (dsimp only; walk1)))))
              (rename News _ _ _ _ => N8); (rename Fr _ _ _ _ => F8); (rename _ ∧ _ ∧ _ ∧ AllLt _ _ => l9)
              exact PickEnd.intro (by trivial) F8 N8 l9
            · clear F3 N3
              rintro ys tl3 hd3 hf3 wA h5 tk5 F3 N3 off
              have pW : PrsIn ((wA, lst ys) :: (tl3 ++ bz)) wA t.pairs := ⟨ys, _, .head _, by rw [walk_all]; exact hd3.mono fun p hp => .tail _ (sub_app _ hp)⟩
              obtain ⟨bs, hbs, N5⟩ := news_name N3
              rw [← hbs] at pW
              have us : ∀ p ∈ bz, p ∈ bs := by rw [hbs]; exact fun p hp => .tail _ (own_app _ hp)
              have mp4 := us _ mp3'
              have mq4 := us _ mq3'
              have vL4 := us _ (um _ vL)
              have vH4 := us _ (um _ vH)
              clear N3 hd3 hf3 off hbs mp3' mq3'
              (repeat (first | ((with_reducible show wpAny _ _ (exec _ _) _ _ (Shared.mk _ _ _ (_ + 1) _)); refine tk_gen ?_; intro tk9) | ((with_reducible show wpAny _ _ (exec _ _) _ _ _); k_fold) | ((with_reducible show wpAny _ _ (exec _ _) _ _ _); (fail_if_success (with_reducible show wpAny _ _ (exec (Stmt.While _ _ _ _) _) _ _ _)); (fail_if_success (with_reducible show wpAny _ _ (exec (Stmt.For _ _ _ _ _) _) _ _ _)); (first | (k_unfold; (try dsimp only)) | walk1 | (dsimp only; walk1))) | ((with_reducible show wpAny _ _ (call (Value.ref _) _) _ _ _); (fail_if_success (with_reducible show wpAny _ _ (call (Value.ref 42) _) _ _ _)); (fail_if_success (with_reducible show wpAny _ _ (call (Value.ref 252) _) _ _ _)); (fail_if_success (with_reducible show wpAny _ _ (call (Value.ref 175) _) _ _ _)); (fail_if_success (with_reducible show wpAny _ _ (call (Value.ref 284) _) _ _ _)); (fail_if_success (with_reducible show wpAny _ _ (call (Value.ref 291) _) _ _ _)); (fail_if_success (with_reducible show wpAny _ _ (call (Value.ref 245) _) _ _ _)); (fail_if_success (with_reducible show wpAny _ _ (call (Value.ref 168) _) _ _ _)); (fail_if_success (with_reducible show wpAny _ _ (call (Value.ref 210) _) _ _ _)); (fail_if_success (with_reducible show wpAny _ _ (call (Value.ref 266) _) _ _ _)); (fail_if_success (with_reducible show wpAny _ _ (call (Value.ref 271) _) _ _ _)); (first | (k_unfold; (try dsimp only)) | walk1 | (dsimp only; walk1))) | ((fail_if_success (with_reducible show wpAny _ _ (exec _ _) _ _ _)); (fail_if_success (with_reducible show wpAny _ _ (call (Value.ref _) _) _ _ _)); (fail_if_success (with_reducible show wpAny _ _ (pyIter _) _ _ _)); (fail_if_success (with_reducible show wpAny _ _ (subscriptTail _ (PySem.Expr.Slice _ _ _ _) _ _) _ _ _)); (fail_if_success (with_reducible show wpAny _ _ (compareOp CmpOp.NotEq (Value.ref _) (Value.ref _)) _ _ _)); (first | (k_unfold; (try dsimp only)) | walk1 | (dsimp only; walk1)))))
              (rename News _ _ _ _ => N3); (rename Fr _ _ _ _ => F3)
              refine pick4 (near lo hi) rfl F3 N3 (fun p hp => us _ (um _ hp)) mq3 jq3 (by omega) ?_ ?_
              · clear F3 N3
                intro q' t1' t2' t3' t4' tl4 ys4 I oI C oC D m₄ h6 tk6 E' hC hx1 hx2 hx3 hx4 F3 N3 off ne
                have vL5 : _ ∈ tl4 ++ bs := own_app _ vL4
                have vH5 : _ ∈ tl4 ++ bs := own_app _ vH4
                refine wpAny_tests_one ?_
                (repeat' (first | ((with_reducible show wpAny _ _ (exec _ _) _ _ (Shared.mk _ _ _ (_ + 1) _)); refine tk_gen ?_; intro tk9) | ((with_reducible show wpAny _ _ (exec _ _) _ _ _); k_fold) | ((with_reducible show wpAny _ _ (exec _ _) _ _ _); (fail_if_success (with_reducible show wpAny _ _ (exec (Stmt.While _ _ _ _) _) _ _ _)); (fail_if_success (with_reducible show wpAny _ _ (exec (Stmt.For _ _ _ _ _) _) _ _ _)); (first | (k_unfold; (try dsimp only)) | walk1 | (dsimp only; walk1))) | ((with_reducible show wpAny _ _ (call (Value.ref _) _) _ _ _); (fail_if_success (with_reducible show wpAny _ _ (call (Value.ref 42) _) _ _ _)); (fail_if_success (with_reducible show wpAny _ _ (call (Value.ref 252) _) _ _ _)); (fail_if_success (with_reducible show wpAny _ _ (call (Value.ref 175) _) _ _ _)); (fail_if_success (with_reducible show wpAny _ _ (call (Value.ref 284) _) _ _ _)); (fail_if_success (with_reducible show wpAny _ _ (call (Value.ref 291) _) _ _ _)); (fail_if_success (with_reducible show wpAny _ _ (call (Value.ref 245) _) _ _ _)); (fail_if_success (with_reducible show wpAny _ _ (call (Value.ref 168) _) _ _ _)); (fail_if_success (with_reducible show wpAny _ _ (call (Value.ref 210) _) _ _ _)); (fail_if_success (with_reducible show wpAny _ _ (call (Value.ref 266) _) _ _ _)); (fail_if_success (with_reducible show wpAny _ _ (call (Value.ref 271) _) _ _ _)); (first | (k_unfold; (try dsimp only)) | walk1 | (dsimp only; walk1))) | ((fail_if_success (with_reducible show wpAny _ _ (exec _ _) _ _ _)); (fail_if_success (with_reducible show wpAny _ _ (call (Value.ref _) _) _ _ _)); (fail_if_success (with_reducible show wpAny _ _ (pyIter _) _ _ _)); (fail_if_success (with_reducible show wpAny _ _ (subscriptTail _ (PySem.Expr.Slice _ _ _ _) _ _) _ _ _)); (fail_if_success (with_reducible show wpAny _ _ (compareOp CmpOp.NotEq (Value.ref _) (Value.ref _)) _ _ _)); (first | (k_unfold; (try dsimp only)) | walk1 | (dsimp only; walk1)))))
                · (rename News _ _ _ _ => N8); (rename Fr _ _ _ _ => F8); (rename _ ∧ _ ∧ _ ∧ AllLt _ _ => l9)
                  exact PickEnd.intro (near_iff.mpr ⟨by omega, by omega, by omega, by omega⟩) F8 N8 l9
                all_goals (
                  (rename News _ _ _ _ => N8); (rename Fr _ _ _ _ => F8)
                  exact FiltEnd.intro (near_not (by omega)) F8 N8)
              · clear F3 N3
                rintro ys4 tl4 hd4 hf4 nA h6 tk6 F3 N3 off
                have pN : PrsIn ((nA, lst ys4) :: (tl4 ++ bs)) nA (t.rng lo hi) := ⟨ys4, _, .head _, by rw [walk_near (by omega) (by omega)]; exact hd4.mono fun p hp => .tail _ (sub_app _ hp)⟩
                obtain ⟨cz, hcz, N5⟩ := news_name N3
                rw [← hcz] at pN
                have uc : ∀ p ∈ bs, p ∈ cz := by rw [hcz]; exact fun p hp => .tail _ (own_app _ hp)
                have un : ∀ p ∈ nz, p ∈ cz := fun p hp => uc _ (us _ (um _ hp))
                have ub : ∀ p ∈ lz ++ own, p ∈ cz := fun p hp => uc _ (us _ (by rw [hbz]; exact hp))
                replace pW := pW.mono uc
                have mp5 := un _ mp3
                have mg5 := un _ mg3
                have mM5 := un _ mM
                have mD5 := un _ mD
                have vL6 := un _ vL
                have vH6 := un _ vH
                clear N3 hd4 hf4 off hcz mp4 mq4 vL4 vH4 hbz
                (repeat (first | ((with_reducible show wpAny _ _ (exec _ _) _ _ (Shared.mk _ _ _ (_ + 1) _)); refine tk_gen ?_; intro tk9) | ((with_reducible show wpAny _ _ (exec _ _) _ _ _); k_fold) | ((with_reducible show wpAny _ _ (exec _ _) _ _ _); (fail_if_success (with_reducible show wpAny _ _ (exec (Stmt.While _ _ _ _) _) _ _ _)); (fail_if_success (with_reducible show wpAny _ _ (exec (Stmt.For _ _ _ _ _) _) _ _ _)); (first | (k_unfold; (try dsimp only)) | walk1 | (dsimp only; walk1))) | ((with_reducible show wpAny _ _ (call (Value.ref _) _) _ _ _); (fail_if_success (with_reducible show wpAny _ _ (call (Value.ref 42) _) _ _ _)); (fail_if_success (with_reducible show wpAny _ _ (call (Value.ref 252) _) _ _ _)); (fail_if_success (with_reducible show wpAny _ _ (call (Value.ref 175) _) _ _ _)); (fail_if_success (with_reducible show wpAny _ _ (call (Value.ref 284) _) _ _ _)); (fail_if_success (with_reducible show wpAny _ _ (call (Value.ref 291) _) _ _ _)); (fail_if_success (with_reducible show wpAny _ _ (call (Value.ref 245) _) _ _ _)); (fail_if_success (with_reducible show wpAny _ _ (call (Value.ref 168) _) _ _ _)); (fail_if_success (with_reducible show wpAny _ _ (call (Value.ref 210) _) _ _ _)); (fail_if_success (with_reducible show wpAny _ _ (call (Value.ref 266) _) _ _ _)); (fail_if_success (with_reducible show wpAny _ _ (call (Value.ref 271) _) _ _ _)); (first | (k_unfold; (try dsimp only)) | walk1 | (dsimp only; walk1))) | ((fail_if_success (with_reducible show wpAny _ _ (exec _ _) _ _ _)); (fail_if_success (with_reducible show wpAny _ _ (call (Value.ref _) _) _ _ _)); (fail_if_success (with_reducible show wpAny _ _ (pyIter _) _ _ _)); (fail_if_success (with_reducible show wpAny _ _ (subscriptTail _ (PySem.Expr.Slice _ _ _ _) _ _) _ _ _)); (fail_if_success (with_reducible show wpAny _ _ (compareOp CmpOp.NotEq (Value.ref _) (Value.ref _)) _ _ _)); (first | (k_unfold; (try dsimp only)) | walk1 | (dsimp only; walk1)))))
                (rename News _ _ _ _ => N3); (rename Fr _ _ _ _ => F3)
                k_dflt (refine' flat_contract (nw := nz) (t := t) ?k1 F3 ?k3 N3 ?k5 ?k6 un hT3 okt.1 (by omega) ?k7 ?k8 ?_; (case k1 => k_asm); (case k3 => k_asm); (case k5 => k_asm); (case k6 => first | exact rfl | assumption); (case k7 => ktr_room); (case k8 => decide +kernel); k_whole)
                clear F3 N3
                intro o1 vs1 nn1 h7 tk7 F3 N3 l1 hI1
                (repeat (first | ((with_reducible show wpAny _ _ (exec _ _) _ _ (Shared.mk _ _ _ (_ + 1) _)); refine tk_gen ?_; intro tk9) | ((with_reducible show wpAny _ _ (exec _ _) _ _ _); k_fold) | ((with_reducible show wpAny _ _ (exec _ _) _ _ _); (fail_if_success (with_reducible show wpAny _ _ (exec (Stmt.While _ _ _ _) _) _ _ _)); (fail_if_success (with_reducible show wpAny _ _ (exec (Stmt.For _ _ _ _ _) _) _ _ _)); (first | (k_unfold; (try dsimp only)) | walk1 | (dsimp only; walk1))) | ((with_reducible show wpAny _ _ (call (Value.ref _) _) _ _ _); (fail_if_success (with_reducible show wpAny _ _ (call (Value.ref 42) _) _ _ _)); (fail_if_success (with_reducible show wpAny _ _ (call (Value.ref 252) _) _ _ _)); (fail_if_success (with_reducible show wpAny _ _ (call (Value.ref 175) _) _ _ _)); (fail_if_success (with_reducible show wpAny _ _ (call (Value.ref 284) _) _ _ _)); (fail_if_success (with_reducible show wpAny _ _ (call (Value.ref 291) _) _ _ _)); (fail_if_success (with_reducible show wpAny _ _ (call (Value.ref 245) _) _ _ _)); (fail_if_success (with_reducible show wpAny _ _ (call (Value.ref 168) _) _ _ _)); (fail_if_success (with_reducible show wpAny _ _ (call (Value.ref 210) _) _ _ _)); (fail_if_success (with_reducible show wpAny _ _ (call (Value.ref 266) _) _ _ _)); (fail_if_success (with_reducible show wpAny _ _ (call (Value.ref 271) _) _ _ _)); (first | (k_unfold; (try dsimp only)) | walk1 | (dsimp only; walk1))) | ((fail_if_success (with_reducible show wpAny _ _ (exec _ _) _ _ _)); (fail_if_success (with_reducible show wpAny _ _ (call (Value.ref _) _) _ _ _)); (fail_if_success (with_reducible show wpAny _ _ (pyIter _) _ _ _)); (fail_if_success (with_reducible show wpAny _ _ (subscriptTail _ (PySem.Expr.Slice _ _ _ _) _ _) _ _ _)); (fail_if_success (with_reducible show wpAny _ _ (compareOp CmpOp.NotEq (Value.ref _) (Value.ref _)) _ _ _)); (first | (k_unfold; (try dsimp only)) | walk1 | (dsimp only; walk1)))))
                (rename News _ _ _ _ => N4)
                refine ne_ints N4 (by first | ke_room | decide +kernel) (fun _ h => h) (fun _ h => h) ⟨_, _, .head _, hI1⟩ ⟨_, _, .tail _ mg5, jg3⟩ rfl ?_
                have N5 := news_sub (l' := cz) N4 fun p hp => .tail _ hp
                clear N4 hI1 l1
                (repeat (first | ((with_reducible show wpAny _ _ (exec _ _) _ _ (Shared.mk _ _ _ (_ + 1) _)); refine tk_gen ?_; intro tk9) | ((with_reducible show wpAny _ _ (exec _ _) _ _ _); k_fold) | ((with_reducible show wpAny _ _ (exec _ _) _ _ _); (fail_if_success (with_reducible show wpAny _ _ (exec (Stmt.While _ _ _ _) _) _ _ _)); (fail_if_success (with_reducible show wpAny _ _ (exec (Stmt.For _ _ _ _ _) _) _ _ _)); (first | (k_unfold; (try dsimp only)) | walk1 | (dsimp only; walk1))) | ((with_reducible show wpAny _ _ (call (Value.ref _) _) _ _ _); (fail_if_success (with_reducible show wpAny _ _ (call (Value.ref 42) _) _ _ _)); (fail_if_success (with_reducible show wpAny _ _ (call (Value.ref 252) _) _ _ _)); (fail_if_success (with_reducible show wpAny _ _ (call (Value.ref 175) _) _ _ _)); (fail_if_success (with_reducible show wpAny _ _ (call (Value.ref 284) _) _ _ _)); (fail_if_success (with_reducible show wpAny _ _ (call (Value.ref 291) _) _ _ _)); (fail_if_success (with_reducible show wpAny _ _ (call (Value.ref 245) _) _ _ _)); (fail_if_success (with_reducible show wpAny _ _ (call (Value.ref 168) _) _ _ _)); (fail_if_success (with_reducible show wpAny _ _ (call (Value.ref 210) _) _ _ _)); (fail_if_success (with_reducible show wpAny _ _ (call (Value.ref 266) _) _ _ _)); (fail_if_success (with_reducible show wpAny _ _ (call (Value.ref 271) _) _ _ _)); (first | (k_unfold; (try dsimp only)) | walk1 | (dsimp only; walk1))) | ((fail_if_success (with_reducible show wpAny _ _ (exec _ _) _ _ _)); (fail_if_success (with_reducible show wpAny _ _ (call (Value.ref _) _) _ _ _)); (fail_if_success (with_reducible show wpAny _ _ (pyIter _) _ _ _)); (fail_if_success (with_reducible show wpAny _ _ (subscriptTail _ (PySem.Expr.Slice _ _ _ _) _ _) _ _ _)); (fail_if_success (with_reducible show wpAny _ _ (compareOp CmpOp.NotEq (Value.ref _) (Value.ref _)) _ _ _)); (first | (k_unfold; (try dsimp only)) | walk1 | (dsimp only; walk1)))))
                (rename News _ _ _ _ => N3); (rename Fr _ _ _ _ => F3)
                k_dflt (refine' pairs_contract (nw := nz) (t := t) ?k1 F3 ?k3 N3 ?k5 ?k6 un hT3 okt.1 (by omega) ?k7 ?k8 ?_; (case k1 => k_asm); (case k3 => k_asm); (case k5 => k_asm); (case k6 => first | exact rfl | assumption); (case k7 => ktr_room); (case k8 => decide +kernel); k_whole)
                clear F3 N3
                intro o2 tl5 h8 tk8 F3 N3 hf5 hI5
                (repeat (first | ((with_reducible show wpAny _ _ (exec _ _) _ _ (Shared.mk _ _ _ (_ + 1) _)); refine tk_gen ?_; intro tk9) | ((with_reducible show wpAny _ _ (exec _ _) _ _ _); k_fold) | ((with_reducible show wpAny _ _ (exec _ _) _ _ _); (fail_if_success (with_reducible show wpAny _ _ (exec (Stmt.While _ _ _ _) _) _ _ _)); (fail_if_success (with_reducible show wpAny _ _ (exec (Stmt.For _ _ _ _ _) _) _ _ _)); (first | (k_unfold; (try dsimp only)) | walk1 | (dsimp only; walk1))) | ((with_reducible show wpAny _ _ (call (Value.ref _) _) _ _ _); (fail_if_success (with_reducible show wpAny _ _ (call (Value.ref 42) _) _ _ _)); (fail_if_success (with_reducible show wpAny _ _ (call (Value.ref 252) _) _ _ _)); (fail_if_success (with_reducible show wpAny _ _ (call (Value.ref 175) _) _ _ _)); (fail_if_success (with_reducible show wpAny _ _ (call (Value.ref 284) _) _ _ _)); (fail_if_success (with_reducible show wpAny _ _ (call (Value.ref 291) _) _ _ _)); (fail_if_success (with_reducible show wpAny _ _ (call (Value.ref 245) _) _ _ _)); (fail_if_success (with_reducible show wpAny _ _ (call (Value.ref 168) _) _ _ _)); (fail_if_success (with_reducible show wpAny _ _ (call (Value.ref 210) _) _ _ _)); (fail_if_success (with_reducible show wpAny _ _ (call (Value.ref 266) _) _ _ _)); (fail_if_success (with_reducible show wpAny _ _ (call (Value.ref 271) _) _ _ _)); (first | (k_unfold; (try dsimp only)) | walk1 | (dsimp only; walk1))) | ((fail_if_success (with_reducible show wpAny _ _ (exec _ _) _ _ _)); (fail_if_success (with_reducible show wpAny _ _ (call (Value.ref _) _) _ _ _)); (fail_if_success (with_reducible show wpAny _ _ (pyIter _) _ _ _)); (fail_if_success (with_reducible show wpAny _ _ (subscriptTail _ (PySem.Expr.Slice _ _ _ _) _ _) _ _ _)); (fail_if_success (with_reducible show wpAny _ _ (compareOp CmpOp.NotEq (Value.ref _) (Value.ref _)) _ _ _)); (first | (k_unfold; (try dsimp only)) | walk1 | (dsimp only; walk1)))))
                (rename News _ _ _ _ => N4)
                refine ne_prs N4 (by first | ke_room | decide +kernel) own_app sub_app hI5 pW rfl ?_
                have N5 := news_sub (l' := cz) N4 sub_app
                clear N4 hI5 hf5
                (repeat (first | ((with_reducible show wpAny _ _ (exec _ _) _ _ (Shared.mk _ _ _ (_ + 1) _)); refine tk_gen ?_; intro tk9) | ((with_reducible show wpAny _ _ (exec _ _) _ _ _); k_fold) | ((with_reducible show wpAny _ _ (exec _ _) _ _ _); (fail_if_success (with_reducible show wpAny _ _ (exec (Stmt.While _ _ _ _) _) _ _ _)); (fail_if_success (with_reducible show wpAny _ _ (exec (Stmt.For _ _ _ _ _) _) _ _ _)); (first | (k_unfold; (try dsimp only)) | walk1 | (dsimp only; walk1))) | ((with_reducible show wpAny _ _ (call (Value.ref _) _) _ _ _); (fail_if_success (with_reducible show wpAny _ _ (call (Value.ref 42) _) _ _ _)); (fail_if_success (with_reducible show wpAny _ _ (call (Value.ref 252) _) _ _ _)); (fail_if_success (with_reducible show wpAny _ _ (call (Value.ref 175) _) _ _ _)); (fail_if_success (with_reducible show wpAny _ _ (call (Value.ref 284) _) _ _ _)); (fail_if_success (with_reducible show wpAny _ _ (call (Value.ref 291) _) _ _ _)); (fail_if_success (with_reducible show wpAny _ _ (call (Value.ref 245) _) _ _ _)); (fail_if_success (with_reducible show wpAny _ _ (call (Value.ref 168) _) _ _ _)); (fail_if_success (with_reducible show wpAny _ _ (call (Value.ref 210) _) _ _ _)); (fail_if_success (with_reducible show wpAny _ _ (call (Value.ref 266) _) _ _ _)); (fail_if_success (with_reducible show wpAny _ _ (call (Value.ref 271) _) _ _ _)); (first | (k_unfold; (try dsimp only)) | walk1 | (dsimp only; walk1))) | ((fail_if_success (with_reducible show wpAny _ _ (exec _ _) _ _ _)); (fail_if_success (with_reducible show wpAny _ _ (call (Value.ref _) _) _ _ _)); (fail_if_success (with_reducible show wpAny _ _ (pyIter _) _ _ _)); (fail_if_success (with_reducible show wpAny _ _ (subscriptTail _ (PySem.Expr.Slice _ _ _ _) _ _) _ _ _)); (fail_if_success (with_reducible show wpAny _ _ (compareOp CmpOp.NotEq (Value.ref _) (Value.ref _)) _ _ _)); (first | (k_unfold; (try dsimp only)) | walk1 | (dsimp only; walk1)))))
                (rename News _ _ _ _ => N3); (rename Fr _ _ _ _ => F3)
                k_dflt (refine' range_contract (nw := nz) (t := t) ?k1 F3 ?k3 N3 ?k5 ?k6 un hT3 okt.1 (by omega) ?k7 ?k8 ?b1 ?b2 ?_; (case k1 => k_asm); (case k3 => k_asm); (case k5 => k_asm); (case k6 => first | exact rfl | assumption); (case k7 => ktr_room); (case k8 => decide +kernel); (case b1 => omega); (case b2 => omega); k_whole)
                clear F3 N3
                intro o3 tl6 h9 tk9 F3 N3 hf6 hI6
                (repeat (first | ((with_reducible show wpAny _ _ (exec _ _) _ _ (Shared.mk _ _ _ (_ + 1) _)); refine tk_gen ?_; intro tk9) | ((with_reducible show wpAny _ _ (exec _ _) _ _ _); k_fold) | ((with_reducible show wpAny _ _ (exec _ _) _ _ _); (fail_if_success (with_reducible show wpAny _ _ (exec (Stmt.While _ _ _ _) _) _ _ _)); (fail_if_success (with_reducible show wpAny _ _ (exec (Stmt.For _ _ _ _ _) _) _ _ _)); (first | (k_unfold; (try dsimp only)) | walk1 | (dsimp only; walk1))) | ((with_reducible show wpAny _ _ (call (Value.ref _) _) _ _ _); (fail_if_success (with_reducible show wpAny _ _ (call (Value.ref 42) _) _ _ _)); (fail_if_success (with_reducible show wpAny _ _ (call (Value.ref 252) _) _ _ _)); (fail_if_success (with_reducible show wpAny _ _ (call (Value.ref 175) _) _ _ _)); (fail_if_success (with_reducible show wpAny _ _ (call (Value.ref 284) _) _ _ _)); (fail_if_success (with_reducible show wpAny _ _ (call (Value.ref 291) _) _ _ _)); (fail_if_success (with_reducible show wpAny _ _ (call (Value.ref 245) _) _ _ _)); (fail_if_success (with_reducible show wpAny _ _ (call (Value.ref 168) _) _ _ _)); (fail_if_success (with_reducible show wpAny _ _ (call (Value.ref 210) _) _ _ _)); (fail_if_success (with_reducible show wpAny _ _ (call (Value.ref 266) _) _ _ _)); (fail_if_success (with_reducible show wpAny _ _ (call (Value.ref 271) _) _ _ _)); (first | (k_unfold; (try dsimp only)) | walk1 | (dsimp only; walk1))) | ((fail_if_success (with_reducible show wpAny _ _ (exec _ _) _ _ _)); (fail_if_success (with_reducible show wpAny _ _ (call (Value.ref _) _) _ _ _)); (fail_if_success (with_reducible show wpAny _ _ (pyIter _) _ _ _)); (fail_if_success (with_reducible show wpAny _ _ (subscriptTail _ (PySem.Expr.Slice _ _ _ _) _ _) _ _ _)); (fail_if_success (with_reducible show wpAny _ _ (compareOp CmpOp.NotEq (Value.ref _) (Value.ref _)) _ _ _)); (first | (k_unfold; (try dsimp only)) | walk1 | (dsimp only; walk1)))))
                (rename News _ _ _ _ => N4)
                refine ne_prs N4 (by first | ke_room | decide +kernel) own_app sub_app hI6 pN rfl ?_
                have N5 := news_sub (l' := cz) N4 sub_app
                clear N4 hI6 hf6 pN pW
                obtain ⟨kr9, vr9, cr9, dx9, nd9, y1, y2, y3, no1, no2⟩ := tree_inst hT3
                have no1' := un _ no1
                have no2' := un _ no2
                clear no1 no2
                clear mM5 mD5 mg5 vL6 vH6 mg3 jg3 mq3 jq3 hv ht bt uc us um upz
                (repeat (first | ((with_reducible show wpAny _ _ (exec _ _) _ _ (Shared.mk _ _ _ (_ + 1) _)); refine tk_gen ?_; intro tk9) | ((with_reducible show wpAny _ _ (exec _ _) _ _ _); k_fold) | ((with_reducible show wpAny _ _ (exec _ _) _ _ _); (fail_if_success (with_reducible show wpAny _ _ (exec (Stmt.While _ _ _ _) _) _ _ _)); (fail_if_success (with_reducible show wpAny _ _ (exec (Stmt.For _ _ _ _ _) _) _ _ _)); (first | (k_unfold; (try dsimp only)) | walk1 | (dsimp only; walk1))) | ((with_reducible show wpAny _ _ (call (Value.ref _) _) _ _ _); (fail_if_success (with_reducible show wpAny _ _ (call (Value.ref 42) _) _ _ _)); (fail_if_success (with_reducible show wpAny _ _ (call (Value.ref 252) _) _ _ _)); (fail_if_success (with_reducible show wpAny _ _ (call (Value.ref 175) _) _ _ _)); (fail_if_success (with_reducible show wpAny _ _ (call (Value.ref 284) _) _ _ _)); (fail_if_success (with_reducible show wpAny _ _ (call (Value.ref 291) _) _ _ _)); (fail_if_success (with_reducible show wpAny _ _ (call (Value.ref 245) _) _ _ _)); (fail_if_success (with_reducible show wpAny _ _ (call (Value.ref 168) _) _ _ _)); (fail_if_success (with_reducible show wpAny _ _ (call (Value.ref 210) _) _ _ _)); (fail_if_success (with_reducible show wpAny _ _ (call (Value.ref 266) _) _ _ _)); (fail_if_success (with_reducible show wpAny _ _ (call (Value.ref 271) _) _ _ _)); (first | (k_unfold; (try dsimp only)) | walk1 | (dsimp only; walk1))) | ((fail_if_success (with_reducible show wpAny _ _ (exec _ _) _ _ _)); (fail_if_success (with_reducible show wpAny _ _ (call (Value.ref _) _) _ _ _)); (fail_if_success (with_reducible show wpAny _ _ (pyIter _) _ _ _)); (fail_if_success (with_reducible show wpAny _ _ (subscriptTail _ (PySem.Expr.Slice _ _ _ _) _ _) _ _ _)); (fail_if_success (with_reducible show wpAny _ _ (compareOp CmpOp.NotEq (Value.ref _) (Value.ref _)) _ _ _)); (first | (k_unfold; (try dsimp only)) | walk1 | (dsimp only; walk1)))))
                (rename News _ _ _ _ => N3); (rename Fr _ _ _ _ => F3)
                k_dflt (refine' leaf_contract (nw := nz) (t := t) ?k1 F3 ?k3 N3 ?k5 ?k6 un hT3 ?kw ?k7 ?_; (case k1 => k_asm); (case k3 => k_asm); (case k5 => k_asm); (case k6 => first | exact rfl | assumption); (case kw => omega); (case k7 => ktr_room); k_whole)
                clear F3 N3
                intro h10 tk10 F3 N3
                repeat ((fail_if_success (with_reducible show wpAny _ _ (compareOp CmpOp.NotEq _ _) _ _ _)); (first | (k_unfold; (try dsimp only)) | walk1 | (dsimp only; walk1)))
                rw [show ((t.ts.length : Int) == 0) = decide ((t.ts.length : Int) = 0) from rfl]
                generalize decide ((t.ts.length : Int) = 0) = sb
                cases sb
                all_goals (
                  (repeat (first | ((with_reducible show wpAny _ _ (exec _ _) _ _ (Shared.mk _ _ _ (_ + 1) _)); refine tk_gen ?_; intro tk9) | ((with_reducible show wpAny _ _ (exec _ _) _ _ _); k_fold) | ((with_reducible show wpAny _ _ (exec _ _) _ _ _); (fail_if_success (with_reducible show wpAny _ _ (exec (Stmt.While _ _ _ _) _) _ _ _)); (fail_if_success (with_reducible show wpAny _ _ (exec (Stmt.For _ _ _ _ _) _) _ _ _)); (first | (k_unfold; (try dsimp only)) | walk1 | (dsimp only; walk1))) | ((with_reducible show wpAny _ _ (call (Value.ref _) _) _ _ _); (fail_if_success (with_reducible show wpAny _ _ (call (Value.ref 42) _) _ _ _)); (fail_if_success (with_reducible show wpAny _ _ (call (Value.ref 252) _) _ _ _)); (fail_if_success (with_reducible show wpAny _ _ (call (Value.ref 175) _) _ _ _)); (fail_if_success (with_reducible show wpAny _ _ (call (Value.ref 284) _) _ _ _)); (fail_if_success (with_reducible show wpAny _ _ (call (Value.ref 291) _) _ _ _)); (fail_if_success (with_reducible show wpAny _ _ (call (Value.ref 245) _) _ _ _)); (fail_if_success (with_reducible show wpAny _ _ (call (Value.ref 168) _) _ _ _)); (fail_if_success (with_reducible show wpAny _ _ (call (Value.ref 210) _) _ _ _)); (fail_if_success (with_reducible show wpAny _ _ (call (Value.ref 266) _) _ _ _)); (fail_if_success (with_reducible show wpAny _ _ (call (Value.ref 271) _) _ _ _)); (first | (k_unfold; (try dsimp only)) | walk1 | (dsimp only; walk1))) | ((fail_if_success (with_reducible show wpAny _ _ (exec _ _) _ _ _)); (fail_if_success (with_reducible show wpAny _ _ (call (Value.ref _) _) _ _ _)); (fail_if_success (with_reducible show wpAny _ _ (pyIter _) _ _ _)); (fail_if_success (with_reducible show wpAny _ _ (subscriptTail _ (PySem.Expr.Slice _ _ _ _) _ _) _ _ _)); (fail_if_success (with_reducible show wpAny _ _ (compareOp CmpOp.NotEq (Value.ref _) (Value.ref _)) _ _ _)); (first | (k_unfold; (try dsimp only)) | walk1 | (dsimp only; walk1)))))
                  (rename News _ _ _ _ => N7); (rename Fr _ _ _ _ => F7)
                  exact inv_end F7 (news_sub N7 ub) hoff ⟨hin, rfl, (by rw [hNX1]; exact all_cons rfl (all_cons (hm3 (Str.ofString "top", .ref tp) (by rw [hNX1]; exact .tail _ (.head _))) (all_cons (hm3 (Str.ofString "kids", .ref lK) (by rw [hNX1]; exact .tail _ (.tail _ (.head _)))) (all_cons (hm3 (Str.ofString "t", .int tv t1) (by rw [hNX1]; exact .tail _ (.tail _ (.tail _ (.head _))))) (all_cons (hm3 (Str.ofString "n", .int n t2) (by rw [hNX1]; exact .tail _ (.tail _ (.tail _ (.tail _ (.head _)))))) (all_cons (hm3 (Str.ofString "room", .int R t3) (by rw [hNX1]; exact .tail _ (.tail _ (.tail _ (.tail _ (.tail _ (.head _))))))) (all_cons (hm3 (Str.ofString "shapes", .ref aS) (by rw [hNX1]; exact .tail _ (.tail _ (.tail _ (.tail _ (.tail _ (.tail _ (.head _)))))))) (all_cons (hm3 (Str.ofString "sizes", .ref aZ) (by rw [hNX1]; exact .tail _ (.tail _ (.tail _ (.tail _ (.tail _ (.tail _ (.tail _ (.head _))))))))) (all_cons (hm3 (Str.ofString "seed", .int sd t4) (by rw [hNX1]; exact .tail _ (.tail _ (.tail _ (.tail _ (.tail _ (.tail _ (.tail _ (.tail _ (.head _)))))))))) (all_cons (hm3 (Str.ofString "shift", .int sf t5) (by rw [hNX1]; exact .tail _ (.tail _ (.tail _ (.tail _ (.tail _ (.tail _ (.tail _ (.tail _ (.tail _ (.head _))))))))))) (all_cons (hm3 (Str.ofString "value", .int va t6) (by rw [hNX1]; exact .tail _ (.tail _ (.tail _ (.tail _ (.tail _ (.tail _ (.tail _ (.tail _ (.tail _ (.tail _ (.head _)))))))))))) (List.forall_mem_nil _))))))))))))⟩)
          · clear F3 N3 N5
            rintro m₃ nx h4 tk4 ⟨rfl, hm3⟩ F3 N3
            (repeat (first | ((with_reducible show wpAny _ _ (exec _ _) _ _ (Shared.mk _ _ _ (_ + 1) _)); refine tk_gen ?_; intro tk9) | ((with_reducible show wpAny _ _ (exec _ _) _ _ _); k_fold) | ((with_reducible show wpAny _ _ (exec _ _) _ _ _); (fail_if_success (with_reducible show wpAny _ _ (exec (Stmt.While _ _ _ _) _) _ _ _)); (fail_if_success (with_reducible show wpAny _ _ (exec (Stmt.For _ _ _ _ _) _) _ _ _)); (first | (k_unfold; (try dsimp only)) | walk1 | (dsimp only; walk1))) | ((with_reducible show wpAny _ _ (call (Value.ref _) _) _ _ _); (fail_if_success (with_reducible show wpAny _ _ (call (Value.ref 42) _) _ _ _)); (fail_if_success (with_reducible show wpAny _ _ (call (Value.ref 252) _) _ _ _)); (fail_if_success (with_reducible show wpAny _ _ (call (Value.ref 175) _) _ _ _)); (fail_if_success (with_reducible show wpAny _ _ (call (Value.ref 284) _) _ _ _)); (fail_if_success (with_reducible show wpAny _ _ (call (Value.ref 291) _) _ _ _)); (fail_if_success (with_reducible show wpAny _ _ (call (Value.ref 245) _) _ _ _)); (fail_if_success (with_reducible show wpAny _ _ (call (Value.ref 168) _) _ _ _)); (fail_if_success (with_reducible show wpAny _ _ (call (Value.ref 210) _) _ _ _)); (fail_if_success (with_reducible show wpAny _ _ (call (Value.ref 266) _) _ _ _)); (fail_if_success (with_reducible show wpAny _ _ (call (Value.ref 271) _) _ _ _)); (first | (k_unfold; (try dsimp only)) | walk1 | (dsimp only; walk1))) | ((fail_if_success (with_reducible show wpAny _ _ (exec _ _) _ _ _)); (fail_if_success (with_reducible show wpAny _ _ (call (Value.ref _) _) _ _ _)); (fail_if_success (with_reducible show wpAny _ _ (pyIter _) _ _ _)); (fail_if_success (with_reducible show wpAny _ _ (subscriptTail _ (PySem.Expr.Slice _ _ _ _) _ _) _ _ _)); (fail_if_success (with_reducible show wpAny _ _ (compareOp CmpOp.NotEq (Value.ref _) (Value.ref _)) _ _ _)); (first | (k_unfold; (try dsimp only)) | walk1 | (dsimp only; walk1)))))
            exact ⟨rfl, _, _, _, rfl, hm3, F3, news_sub N3 upz⟩
        clear F1 N1 hm2
        rintro s' ⟨m₂, h2, tk2, rfl, hm2, F1, N1⟩
        let Cut11 : Shared → Prop := (fun s' => ∃ rA hA tl, PrsIn (nz ++ tl) rA Tt.pairs ∧ PrsIn (nz ++ tl) hA Tt.pairs ∧ LawSt s₁.heap s₁.heap.objs.size s₁ ((Str.ofString "row", .ref rA) :: (Str.ofString "handed", .ref hA) :: NX1) (nz ++ tl) s')
        with_unfolding_all refine' execs_cut (l := [_, _, _, _]) (rest := [_, _, _, _, _, _, _, _, _]) Cut11 ?ca6 ?cb6
        case ca6 =>
          have F2 := fr_said (ps := [(Str.ofString "m", .ref mA), (Str.ofString "top", .ref tp)]) (all_cons (hm2 _ (by rw [hNX1]; exact .head _)) (all_cons (hm2 _ (by rw [hNX1]; exact .tail _ (.head _))) (List.forall_mem_nil _))) F1
          dsimp only [kstB] at F2
          clear F1
          (repeat (first | ((with_reducible show wpAny _ _ (exec _ _) _ _ (Shared.mk _ _ _ (_ + 1) _)); refine tk_gen ?_; intro tk9) | ((with_reducible show wpAny _ _ (exec _ _) _ _ _); k_fold) | ((with_reducible show wpAny _ _ (exec _ _) _ _ _); (fail_if_success (with_reducible show wpAny _ _ (exec (Stmt.While _ _ _ _) _) _ _ _)); (fail_if_success (with_reducible show wpAny _ _ (exec (Stmt.For _ _ _ _ _) _) _ _ _)); (first | (k_unfold; (try dsimp only)) | walk1 | (dsimp only; walk1))) | ((with_reducible show wpAny _ _ (call (Value.ref _) _) _ _ _); (fail_if_success (with_reducible show wpAny _ _ (call (Value.ref 42) _) _ _ _)); (fail_if_success (with_reducible show wpAny _ _ (call (Value.ref 252) _) _ _ _)); (fail_if_success (with_reducible show wpAny _ _ (call (Value.ref 175) _) _ _ _)); (fail_if_success (with_reducible show wpAny _ _ (call (Value.ref 284) _) _ _ _)); (fail_if_success (with_reducible show wpAny _ _ (call (Value.ref 291) _) _ _ _)); (fail_if_success (with_reducible show wpAny _ _ (call (Value.ref 245) _) _ _ _)); (fail_if_success (with_reducible show wpAny _ _ (call (Value.ref 168) _) _ _ _)); (fail_if_success (with_reducible show wpAny _ _ (call (Value.ref 210) _) _ _ _)); (fail_if_success (with_reducible show wpAny _ _ (call (Value.ref 266) _) _ _ _)); (fail_if_success (with_reducible show wpAny _ _ (call (Value.ref 271) _) _ _ _)); (first | (k_unfold; (try dsimp only)) | walk1 | (dsimp only; walk1))) | ((fail_if_success (with_reducible show wpAny _ _ (exec _ _) _ _ _)); (fail_if_success (with_reducible show wpAny _ _ (call (Value.ref _) _) _ _ _)); (fail_if_success (with_reducible show wpAny _ _ (pyIter _) _ _ _)); (fail_if_success (with_reducible show wpAny _ _ (subscriptTail _ (PySem.Expr.Slice _ _ _ _) _ _) _ _ _)); (fail_if_success (with_reducible show wpAny _ _ (compareOp CmpOp.NotEq (Value.ref _) (Value.ref _)) _ _ _)); (first | (k_unfold; (try dsimp only)) | walk1 | (dsimp only; walk1)))))
          (rename News _ _ _ _ => N3); (rename Fr _ _ _ _ => F3)
          refine pick4 (fun _ => true) rfl F3 N3 (fun _ h => h) mq jq (by omega) ?_ ?_
          · clear F3 N3
            intro q' t1' t2' t3' t4' tl3 ys I oI C oC D m₄ h5 tk5 E' hC hx1 hx2 hx3 hx4 F3 N3 off ne
            refine wpAny_tests_nil ?_
            rw [if_pos rfl]
            (repeat (first | ((with_reducible show wpAny _ _ (exec _ _) _ _ (Shared.mk _ _ _ (_ + 1) _)); refine tk_gen ?_; intro tk9) | ((with_reducible show wpAny _ _ (exec _ _) _ _ _); k_fold) | ((with_reducible show wpAny _ _ (exec _ _) _ _ _); (fail_if_success (with_reducible show wpAny _ _ (exec (Stmt.While _ _ _ _) _) _ _ _)); (fail_if_success (with_reducible show wpAny _ _ (exec (Stmt.For _ _ _ _ _) _) _ _ _)); (first | (k_unfold; (try dsimp only)) | walk1 | (dsimp only; walk1))) | ((with_reducible show wpAny _ _ (call (Value.ref _) _) _ _ _); (fail_if_success (with_reducible show wpAny _ _ (call (Value.ref 42) _) _ _ _)); (fail_if_success (with_reducible show wpAny _ _ (call (Value.ref 252) _) _ _ _)); (fail_if_success (with_reducible show wpAny _ _ (call (Value.ref 175) _) _ _ _)); (fail_if_success (with_reducible show wpAny _ _ (call (Value.ref 284) _) _ _ _)); (fail_if_success (with_reducible show wpAny _ _ (call (Value.ref 291) _) _ _ _)); (fail_if_success (with_reducible show wpAny _ _ (call (Value.ref 245) _) _ _ _)); (fail_if_success (with_reducible show wpAny _ _ (call (Value.ref 168) _) _ _ _)); (fail_if_success (with_reducible show wpAny _ _ (call (Value.ref 210) _) _ _ _)); (fail_if_success (with_reducible show wpAny _ _ (call (Value.ref 266) _) _ _ _)); (fail_if_success (with_reducible show wpAny _ _ (call (Value.ref 271) _) _ _ _)); (first | (k_unfold; (try dsimp only)) | walk1 | (dsimp only; walk1))) | ((fail_if_success (with_reducible show wpAny _ _ (exec _ _) _ _ _)); (fail_if_success (with_reducible show wpAny _ _ (call (Value.ref _) _) _ _ _)); (fail_if_success (with_reducible show wpAny _ _ (pyIter _) _ _ _)); (fail_if_success (with_reducible show wpAny _ _ (subscriptTail _ (PySem.Expr.Slice _ _ _ _) _ _) _ _ _)); (fail_if_success (with_reducible show wpAny _ _ (compareOp CmpOp.NotEq (Value.ref _) (Value.ref _)) _ _ _)); (first | (k_unfold; (try dsimp only)) | walk1 | (dsimp only; walk1)))))
            (rename News _ _ _ _ => N8); (rename Fr _ _ _ _ => F8); (rename _ ∧ _ ∧ _ ∧ AllLt _ _ => l9)
            exact PickEnd.intro (by trivial) F8 N8 l9
          · clear F3 N3
            rintro ys tl3 hd3 hf3 rA h5 tk5 F3 N3 off
            have pR : PrsIn ((rA, lst ys) :: (tl3 ++ nz)) rA Tt.pairs := ⟨ys, _, .head _, by rw [walk_all]; exact hd3.mono fun p hp => .tail _ (sub_app _ hp)⟩
            obtain ⟨bz, hbz, N5⟩ := news_name N3
            rw [← hbz] at pR
            have um : ∀ p ∈ nz, p ∈ bz := by rw [hbz]; exact fun p hp => .tail _ (own_app _ hp)
            have mM3 := um _ mM
            have mD3 := um _ mD
            clear hd3 hf3 off N3 hbz
            (repeat (first | ((with_reducible show wpAny _ _ (exec _ _) _ _ (Shared.mk _ _ _ (_ + 1) _)); refine tk_gen ?_; intro tk9) | ((with_reducible show wpAny _ _ (exec _ _) _ _ _); k_fold) | ((with_reducible show wpAny _ _ (exec _ _) _ _ _); (fail_if_success (with_reducible show wpAny _ _ (exec (Stmt.While _ _ _ _) _) _ _ _)); (fail_if_success (with_reducible show wpAny _ _ (exec (Stmt.For _ _ _ _ _) _) _ _ _)); (first | (k_unfold; (try dsimp only)) | walk1 | (dsimp only; walk1))) | ((with_reducible show wpAny _ _ (call (Value.ref _) _) _ _ _); (fail_if_success (with_reducible show wpAny _ _ (call (Value.ref 42) _) _ _ _)); (fail_if_success (with_reducible show wpAny _ _ (call (Value.ref 252) _) _ _ _)); (fail_if_success (with_reducible show wpAny _ _ (call (Value.ref 175) _) _ _ _)); (fail_if_success (with_reducible show wpAny _ _ (call (Value.ref 284) _) _ _ _)); (fail_if_success (with_reducible show wpAny _ _ (call (Value.ref 291) _) _ _ _)); (fail_if_success (with_reducible show wpAny _ _ (call (Value.ref 245) _) _ _ _)); (fail_if_success (with_reducible show wpAny _ _ (call (Value.ref 168) _) _ _ _)); (fail_if_success (with_reducible show wpAny _ _ (call (Value.ref 210) _) _ _ _)); (fail_if_success (with_reducible show wpAny _ _ (call (Value.ref 266) _) _ _ _)); (fail_if_success (with_reducible show wpAny _ _ (call (Value.ref 271) _) _ _ _)); (first | (k_unfold; (try dsimp only)) | walk1 | (dsimp only; walk1))) | ((fail_if_success (with_reducible show wpAny _ _ (exec _ _) _ _ _)); (fail_if_success (with_reducible show wpAny _ _ (call (Value.ref _) _) _ _ _)); (fail_if_success (with_reducible show wpAny _ _ (pyIter _) _ _ _)); (fail_if_success (with_reducible show wpAny _ _ (subscriptTail _ (PySem.Expr.Slice _ _ _ _) _ _) _ _ _)); (fail_if_success (with_reducible show wpAny _ _ (compareOp CmpOp.NotEq (Value.ref _) (Value.ref _)) _ _ _)); (first | (k_unfold; (try dsimp only)) | walk1 | (dsimp only; walk1)))))
            (rename News _ _ _ _ => N3); (rename Fr _ _ _ _ => F3)
            k_dflt (refine' mpairs_contract (nw := nz) (t := Tt) ?k1 F3 ?k3 N3 ?k5 ?k6 um hM hT okT (by omega) ?k7 ?k8 ?_; (case k1 => k_asm); (case k3 => k_asm); (case k5 => k_asm); (case k6 => first | exact rfl | assumption); (case k7 => ktr_room); (case k8 => decide +kernel); k_whole)
            clear F3 N3
            intro hA tlH h6 tk6 F3 N3 hf1 hI1
            obtain ⟨cz, hcz, N5⟩ := news_name N3
            have uc : ∀ p ∈ nz, p ∈ cz := by rw [hcz]; exact fun p hp => sub_app _ (um _ hp)
            have pR2 : PrsIn cz rA Tt.pairs := by rw [hcz]; exact pR.mono sub_app
            have pH2 : PrsIn cz hA Tt.pairs := by rw [hcz]; exact hI1.mono own_app
            clear hf1 hI1 N3 hcz pR
            (repeat (first | ((with_reducible show wpAny _ _ (exec _ _) _ _ (Shared.mk _ _ _ (_ + 1) _)); refine tk_gen ?_; intro tk9) | ((with_reducible show wpAny _ _ (exec _ _) _ _ _); k_fold) | ((with_reducible show wpAny _ _ (exec _ _) _ _ _); (fail_if_success (with_reducible show wpAny _ _ (exec (Stmt.While _ _ _ _) _) _ _ _)); (fail_if_success (with_reducible show wpAny _ _ (exec (Stmt.For _ _ _ _ _) _) _ _ _)); (first | (k_unfold; (try dsimp only)) | walk1 | (dsimp only; walk1))) | ((with_reducible show wpAny _ _ (call (Value.ref _) _) _ _ _); (fail_if_success (with_reducible show wpAny _ _ (call (Value.ref 42) _) _ _ _)); (fail_if_success (with_reducible show wpAny _ _ (call (Value.ref 252) _) _ _ _)); (fail_if_success (with_reducible show wpAny _ _ (call (Value.ref 175) _) _ _ _)); (fail_if_success (with_reducible show wpAny _ _ (call (Value.ref 284) _) _ _ _)); (fail_if_success (with_reducible show wpAny _ _ (call (Value.ref 291) _) _ _ _)); (fail_if_success (with_reducible show wpAny _ _ (call (Value.ref 245) _) _ _ _)); (fail_if_success (with_reducible show wpAny _ _ (call (Value.ref 168) _) _ _ _)); (fail_if_success (with_reducible show wpAny _ _ (call (Value.ref 210) _) _ _ _)); (fail_if_success (with_reducible show wpAny _ _ (call (Value.ref 266) _) _ _ _)); (fail_if_success (with_reducible show wpAny _ _ (call (Value.ref 271) _) _ _ _)); (first | (k_unfold; (try dsimp only)) | walk1 | (dsimp only; walk1))) | ((fail_if_success (with_reducible show wpAny _ _ (exec _ _) _ _ _)); (fail_if_success (with_reducible show wpAny _ _ (call (Value.ref _) _) _ _ _)); (fail_if_success (with_reducible show wpAny _ _ (pyIter _) _ _ _)); (fail_if_success (with_reducible show wpAny _ _ (subscriptTail _ (PySem.Expr.Slice _ _ _ _) _ _) _ _ _)); (fail_if_success (with_reducible show wpAny _ _ (compareOp CmpOp.NotEq (Value.ref _) (Value.ref _)) _ _ _)); (first | (k_unfold; (try dsimp only)) | walk1 | (dsimp only; walk1)))))
            (rename News _ _ _ _ => N4)
            refine ne_prs N4 (by first | ke_room | decide +kernel) (fun _ h => h) (fun _ h => h) pH2 pR2 rfl ?_
            obtain ⟨hvs, hn, mH, jH⟩ := id pH2
            (repeat (first | ((with_reducible show wpAny _ _ (exec _ _) _ _ (Shared.mk _ _ _ (_ + 1) _)); refine tk_gen ?_; intro tk9) | ((with_reducible show wpAny _ _ (exec _ _) _ _ _); k_fold) | ((with_reducible show wpAny _ _ (exec _ _) _ _ _); (fail_if_success (with_reducible show wpAny _ _ (exec (Stmt.While _ _ _ _) _) _ _ _)); (fail_if_success (with_reducible show wpAny _ _ (exec (Stmt.For _ _ _ _ _) _) _ _ _)); (first | (k_unfold; (try dsimp only)) | walk1 | (dsimp only; walk1))) | ((with_reducible show wpAny _ _ (call (Value.ref _) _) _ _ _); (fail_if_success (with_reducible show wpAny _ _ (call (Value.ref 42) _) _ _ _)); (fail_if_success (with_reducible show wpAny _ _ (call (Value.ref 252) _) _ _ _)); (fail_if_success (with_reducible show wpAny _ _ (call (Value.ref 175) _) _ _ _)); (fail_if_success (with_reducible show wpAny _ _ (call (Value.ref 284) _) _ _ _)); (fail_if_success (with_reducible show wpAny _ _ (call (Value.ref 291) _) _ _ _)); (fail_if_success (with_reducible show wpAny _ _ (call (Value.ref 245) _) _ _ _)); (fail_if_success (with_reducible show wpAny _ _ (call (Value.ref 168) _) _ _ _)); (fail_if_success (with_reducible show wpAny _ _ (call (Value.ref 210) _) _ _ _)); (fail_if_success (with_reducible show wpAny _ _ (call (Value.ref 266) _) _ _ _)); (fail_if_success (with_reducible show wpAny _ _ (call (Value.ref 271) _) _ _ _)); (first | (k_unfold; (try dsimp only)) | walk1 | (dsimp only; walk1))) | ((fail_if_success (with_reducible show wpAny _ _ (exec _ _) _ _ _)); (fail_if_success (with_reducible show wpAny _ _ (call (Value.ref _) _) _ _ _)); (fail_if_success (with_reducible show wpAny _ _ (pyIter _) _ _ _)); (fail_if_success (with_reducible show wpAny _ _ (subscriptTail _ (PySem.Expr.Slice _ _ _ _) _ _) _ _ _)); (fail_if_success (with_reducible show wpAny _ _ (compareOp CmpOp.NotEq (Value.ref _) (Value.ref _)) _ _ _)); (first | (k_unfold; (try dsimp only)) | walk1 | (dsimp only; walk1)))))
            (((rename Fr _ _ _ _ => lF9); (with_unfolding_all refine' For_invVF lF9 ?k1 ?k2 ?_; (case k1 => exact rfl); (case k2 => exact rfl)); (repeat (first | ((with_reducible show wpAny _ _ (exec _ _) _ _ (Shared.mk _ _ _ (_ + 1) _)); refine tk_gen ?_; intro tk9) | ((with_reducible show wpAny _ _ (exec _ _) _ _ _); k_fold) | ((with_reducible show wpAny _ _ (exec _ _) _ _ _); (fail_if_success (with_reducible show wpAny _ _ (exec (Stmt.While _ _ _ _) _) _ _ _)); (fail_if_success (with_reducible show wpAny _ _ (exec (Stmt.For _ _ _ _ _) _) _ _ _)); (first | (k_unfold; (try dsimp only)) | walk1 | (dsimp only; walk1))) | ((with_reducible show wpAny _ _ (call (Value.ref _) _) _ _ _); (fail_if_success (with_reducible show wpAny _ _ (call (Value.ref 42) _) _ _ _)); (fail_if_success (with_reducible show wpAny _ _ (call (Value.ref 252) _) _ _ _)); (fail_if_success (with_reducible show wpAny _ _ (call (Value.ref 175) _) _ _ _)); (fail_if_success (with_reducible show wpAny _ _ (call (Value.ref 284) _) _ _ _)); (fail_if_success (with_reducible show wpAny _ _ (call (Value.ref 291) _) _ _ _)); (fail_if_success (with_reducible show wpAny _ _ (call (Value.ref 245) _) _ _ _)); (fail_if_success (with_reducible show wpAny _ _ (call (Value.ref 168) _) _ _ _)); (fail_if_success (with_reducible show wpAny _ _ (call (Value.ref 210) _) _ _ _)); (fail_if_success (with_reducible show wpAny _ _ (call (Value.ref 266) _) _ _ _)); (fail_if_success (with_reducible show wpAny _ _ (call (Value.ref 271) _) _ _ _)); (first | (k_unfold; (try dsimp only)) | walk1 | (dsimp only; walk1))) | ((fail_if_success (with_reducible show wpAny _ _ (exec _ _) _ _ _)); (fail_if_success (with_reducible show wpAny _ _ (call (Value.ref _) _) _ _ _)); (fail_if_success (with_reducible show wpAny _ _ (pyIter _) _ _ _)); (fail_if_success (with_reducible show wpAny _ _ (subscriptTail _ (PySem.Expr.Slice _ _ _ _) _ _) _ _ _)); (fail_if_success (with_reducible show wpAny _ _ (compareOp CmpOp.NotEq (Value.ref _) (Value.ref _)) _ _ _)); (first | (k_unfold; (try dsimp only)) | walk1 | (dsimp only; walk1)))))))
            (rename News _ _ _ _ => N3); (rename Fr _ _ _ _ => F3)
            let Inv12 : Nat → (Str → Option Value) → Led → Prop := (fun _ m' nx => cz = nx ∧ ∀ p ∈ (Str.ofString "row", .ref rA) :: (Str.ofString "handed", .ref hA) :: NX1, m' p.1 = some p.2)
            refine kdl_iter Inv12 rfl mH F3 N3 ⟨rfl, (by exact all_cons rfl (all_cons rfl (by rw [hNX1]; exact all_cons rfl (all_cons rfl (all_cons (hm2 (Str.ofString "kids", .ref lK) (by rw [hNX1]; exact .tail _ (.tail _ (.head _)))) (all_cons (hm2 (Str.ofString "t", .int tv t1) (by rw [hNX1]; exact .tail _ (.tail _ (.tail _ (.head _))))) (all_cons (hm2 (Str.ofString "n", .int n t2) (by rw [hNX1]; exact .tail _ (.tail _ (.tail _ (.tail _ (.head _)))))) (all_cons (hm2 (Str.ofString "room", .int R t3) (by rw [hNX1]; exact .tail _ (.tail _ (.tail _ (.tail _ (.tail _ (.head _))))))) (all_cons (hm2 (Str.ofString "shapes", .ref aS) (by rw [hNX1]; exact .tail _ (.tail _ (.tail _ (.tail _ (.tail _ (.tail _ (.head _)))))))) (all_cons (hm2 (Str.ofString "sizes", .ref aZ) (by rw [hNX1]; exact .tail _ (.tail _ (.tail _ (.tail _ (.tail _ (.tail _ (.tail _ (.head _))))))))) (all_cons (hm2 (Str.ofString "seed", .int sd t4) (by rw [hNX1]; exact .tail _ (.tail _ (.tail _ (.tail _ (.tail _ (.tail _ (.tail _ (.tail _ (.head _)))))))))) (all_cons (hm2 (Str.ofString "shift", .int sf t5) (by rw [hNX1]; exact .tail _ (.tail _ (.tail _ (.tail _ (.tail _ (.tail _ (.tail _ (.tail _ (.tail _ (.head _))))))))))) (all_cons (hm2 (Str.ofString "value", .int va t6) (by rw [hNX1]; exact .tail _ (.tail _ (.tail _ (.tail _ (.tail _ (.tail _ (.tail _ (.tail _ (.tail _ (.tail _ (.head _)))))))))))) (List.forall_mem_nil _))))))))))))))⟩ ?_ ?_
            · clear F3 N3
              rintro i v m₃ nx h4 tk4 own hv hoff hin ⟨rfl, hm3⟩ F3 N3
              obtain ⟨d, hdd, hdv⟩ := datGet jH hv
              rw [List.getElem?_map] at hdd
              cases hq : Tt.pairs[i]? with
              | none => rw [hq] at hdd; cases hdd
              | some q =>
                rw [hq] at hdd
                cases hdd
                obtain ⟨qa, qt1, qt2, qnn, rfl, mqa⟩ := pr_open hdv
                have mqa' : _ ∈ cz ++ own := sub_app _ mqa
                (repeat (first | ((with_reducible show wpAny _ _ (exec _ _) _ _ (Shared.mk _ _ _ (_ + 1) _)); refine tk_gen ?_; intro tk9) | ((with_reducible show wpAny _ _ (exec _ _) _ _ _); k_fold) | ((with_reducible show wpAny _ _ (exec _ _) _ _ _); (fail_if_success (with_reducible show wpAny _ _ (exec (Stmt.While _ _ _ _) _) _ _ _)); (fail_if_success (with_reducible show wpAny _ _ (exec (Stmt.For _ _ _ _ _) _) _ _ _)); (first | (k_unfold; (try dsimp only)) | walk1 | (dsimp only; walk1))) | ((with_reducible show wpAny _ _ (call (Value.ref _) _) _ _ _); (fail_if_success (with_reducible show wpAny _ _ (call (Value.ref 42) _) _ _ _)); (fail_if_success (with_reducible show wpAny _ _ (call (Value.ref 252) _) _ _ _)); (fail_if_success (with_reducible show wpAny _ _ (call (Value.ref 175) _) _ _ _)); (fail_if_success (with_reducible show wpAny _ _ (call (Value.ref 284) _) _ _ _)); (fail_if_success (with_reducible show wpAny _ _ (call (Value.ref 291) _) _ _ _)); (fail_if_success (with_reducible show wpAny _ _ (call (Value.ref 245) _) _ _ _)); (fail_if_success (with_reducible show wpAny _ _ (call (Value.ref 168) _) _ _ _)); (fail_if_success (with_reducible show wpAny _ _ (call (Value.ref 210) _) _ _ _)); (fail_if_success (with_reducible show wpAny _ _ (call (Value.ref 266) _) _ _ _)); (fail_if_success (with_reducible show wpAny _ _ (call (Value.ref 271) _) _ _ _)); (first | (k_unfold; (try dsimp only)) | walk1 | (dsimp only; walk1))) | ((fail_if_success (with_reducible show wpAny _ _ (exec _ _) _ _ _)); (fail_if_success (with_reducible show wpAny _ _ (call (Value.ref _) _) _ _ _)); (fail_if_success (with_reducible show wpAny _ _ (pyIter _) _ _ _)); (fail_if_success (with_reducible show wpAny _ _ (subscriptTail _ (PySem.Expr.Slice _ _ _ _) _ _) _ _ _)); (fail_if_success (with_reducible show wpAny _ _ (compareOp CmpOp.NotEq (Value.ref _) (Value.ref _)) _ _ _)); (first | (k_unfold; (try dsimp only)) | walk1 | (dsimp only; walk1)))))
                (rename News _ _ _ _ => N7); (rename Fr _ _ _ _ => F7)
                exact inv_end F7 N7 hoff ⟨hin, rfl, (by exact all_cons (hm3 _ (.head _)) (all_cons (hm3 _ (.tail _ (.head _))) (by rw [hNX1]; exact all_cons (hm3 (Str.ofString "m", .ref mA) (.tail _ (.tail _ (by rw [hNX1]; exact .head _)))) (all_cons (hm3 (Str.ofString "top", .ref tp) (.tail _ (.tail _ (by rw [hNX1]; exact .tail _ (.head _))))) (all_cons (hm3 (Str.ofString "kids", .ref lK) (.tail _ (.tail _ (by rw [hNX1]; exact .tail _ (.tail _ (.head _)))))) (all_cons (hm3 (Str.ofString "t", .int tv t1) (.tail _ (.tail _ (by rw [hNX1]; exact .tail _ (.tail _ (.tail _ (.head _))))))) (all_cons (hm3 (Str.ofString "n", .int n t2) (.tail _ (.tail _ (by rw [hNX1]; exact .tail _ (.tail _ (.tail _ (.tail _ (.head _)))))))) (all_cons (hm3 (Str.ofString "room", .int R t3) (.tail _ (.tail _ (by rw [hNX1]; exact .tail _ (.tail _ (.tail _ (.tail _ (.tail _ (.head _))))))))) (all_cons (hm3 (Str.ofString "shapes", .ref aS) (.tail _ (.tail _ (by rw [hNX1]; exact .tail _ (.tail _ (.tail _ (.tail _ (.tail _ (.tail _ (.head _)))))))))) (all_cons (hm3 (Str.ofString "sizes", .ref aZ) (.tail _ (.tail _ (by rw [hNX1]; exact .tail _ (.tail _ (.tail _ (.tail _ (.tail _ (.tail _ (.tail _ (.head _))))))))))) (all_cons (hm3 (Str.ofString "seed", .int sd t4) (.tail _ (.tail _ (by rw [hNX1]; exact .tail _ (.tail _ (.tail _ (.tail _ (.tail _ (.tail _ (.tail _ (.tail _ (.head _)))))))))))) (all_cons (hm3 (Str.ofString "shift", .int sf t5) (.tail _ (.tail _ (by rw [hNX1]; exact .tail _ (.tail _ (.tail _ (.tail _ (.tail _ (.tail _ (.tail _ (.tail _ (.tail _ (.head _))))))))))))) (all_cons (hm3 (Str.ofString "value", .int va t6) (.tail _ (.tail _ (by rw [hNX1]; exact .tail _ (.tail _ (.tail _ (.tail _ (.tail _ (.tail _ (.tail _ (.tail _ (.tail _ (.tail _ (.head _)))))))))))))) (List.forall_mem_nil _))))))))))))))⟩
            · clear F3 N3
              rintro m₃ nx h4 tk4 ⟨rfl, hm3⟩ F3 N3
              (repeat (first | ((with_reducible show wpAny _ _ (exec _ _) _ _ (Shared.mk _ _ _ (_ + 1) _)); refine tk_gen ?_; intro tk9) | ((with_reducible show wpAny _ _ (exec _ _) _ _ _); k_fold) | ((with_reducible show wpAny _ _ (exec _ _) _ _ _); (fail_if_success (with_reducible show wpAny _ _ (exec (Stmt.While _ _ _ _) _) _ _ _)); (fail_if_success (with_reducible show wpAny _ _ (exec (Stmt.For _ _ _ _ _) _) _ _ _)); (first | (k_unfold; (try dsimp only)) | walk1 | (dsimp only; walk1))) | ((with_reducible show wpAny _ _ (call (Value.ref _) _) _ _ _); (fail_if_success (with_reducible show wpAny _ _ (call (Value.ref 42) _) _ _ _)); (fail_if_success (with_reducible show wpAny _ _ (call (Value.ref 252) _) _ _ _)); (fail_if_success (with_reducible show wpAny _ _ (call (Value.ref 175) _) _ _ _)); (fail_if_success (with_reducible show wpAny _ _ (call (Value.ref 284) _) _ _ _)); (fail_if_success (with_reducible show wpAny _ _ (call (Value.ref 291) _) _ _ _)); (fail_if_success (with_reducible show wpAny _ _ (call (Value.ref 245) _) _ _ _)); (fail_if_success (with_reducible show wpAny _ _ (call (Value.ref 168) _) _ _ _)); (fail_if_success (with_reducible show wpAny _ _ (call (Value.ref 210) _) _ _ _)); (fail_if_success (with_reducible show wpAny _ _ (call (Value.ref 266) _) _ _ _)); (fail_if_success (with_reducible show wpAny _ _ (call (Value.ref 271) _) _ _ _)); (first | (k_unfold; (try dsimp only)) | walk1 | (dsimp only; walk1))) | ((fail_if_success (with_reducible show wpAny _ _ (exec _ _) _ _ _)); (fail_if_success (with_reducible show wpAny _ _ (call (Value.ref _) _) _ _ _)); (fail_if_success (with_reducible show wpAny _ _ (pyIter _) _ _ _)); (fail_if_success (with_reducible show wpAny _ _ (subscriptTail _ (PySem.Expr.Slice _ _ _ _) _ _) _ _ _)); (fail_if_success (with_reducible show wpAny _ _ (compareOp CmpOp.NotEq (Value.ref _) (Value.ref _)) _ _ _)); (first | (k_unfold; (try dsimp only)) | walk1 | (dsimp only; walk1)))))
              exact ⟨rfl, rA, hA, cz, pR2.mono own_app, pH2.mono own_app, _, _, _, rfl, hm3, F3, news_sub N3 fun p hp => (List.mem_append.mp hp).elim (uc p) id⟩
        clear F1 N1 hm2
        rintro s' ⟨rA, hA, tl, pR, pH, m₂, h2, tk2, rfl, hm2, F1, N1⟩
        obtain ⟨NX2, hNX2⟩ : ∃ l : List (Str × Value), l = (Str.ofString "row", .ref rA) :: (Str.ofString "handed", .ref hA) :: NX1 := ⟨_, rfl⟩
        rw [← hNX2] at hm2
        obtain ⟨ny, hny⟩ : ∃ ny : Led, ny = nz ++ tl := ⟨_, rfl⟩
        rw [← hny] at N1 pR pH
        have up : ∀ p ∈ nz, p ∈ ny := by rw [hny]; exact fun p hp => sub_app _ hp
        replace vL := up _ vL
        replace vH := up _ vH
        replace vK := up _ vK
        replace vC := up _ vC
        replace mp := up _ mp
        replace mf := up _ mf
        replace mq := up _ mq
        replace mM := up _ mM
        replace mD := up _ mD
        replace hM := hM.mono up
        replace hT := TreeIn.mono up hT
        clear hny up hE hP jq
        let Cut13 : Shared → Prop := (LawSt s₁.heap s₁.heap.objs.size s₁ NX2 ny)
        with_unfolding_all refine' execs_cut (l := [_, _]) (rest := [_, _, _, _, _, _, _]) Cut13 ?ca7 ?cb7
        case ca7 =>
          have F2 := fr_said (ps := [(Str.ofString "row", .ref rA), (Str.ofString "handed", .ref hA), (Str.ofString "shift", .int sf t5), (Str.ofString "value", .int va t6)]) (all_cons (hm2 _ (by rw [hNX2]; exact .head _)) (all_cons (hm2 _ (by rw [hNX2]; exact .tail _ (.head _))) (all_cons (hm2 _ (by rw [hNX2]; exact .tail _ (.tail _ (by rw [hNX1]; exact .tail _ (.tail _ (.tail _ (.tail _ (.tail _ (.tail _ (.tail _ (.tail _ (.tail _ (.head _))))))))))))) (all_cons (hm2 _ (by rw [hNX2]; exact .tail _ (.tail _ (by rw [hNX1]; exact .tail _ (.tail _ (.tail _ (.tail _ (.tail _ (.tail _ (.tail _ (.tail _ (.tail _ (.tail _ (.head _)))))))))))))) (List.forall_mem_nil _))))) F1
          dsimp only [kstB] at F2
          clear F1
          obtain ⟨rvs, rn, mR, jR⟩ := id pR
          (repeat (first | ((with_reducible show wpAny _ _ (exec _ _) _ _ (Shared.mk _ _ _ (_ + 1) _)); refine tk_gen ?_; intro tk9) | ((with_reducible show wpAny _ _ (exec _ _) _ _ _); k_fold) | ((with_reducible show wpAny _ _ (exec _ _) _ _ _); (fail_if_success (with_reducible show wpAny _ _ (exec (Stmt.While _ _ _ _) _) _ _ _)); (fail_if_success (with_reducible show wpAny _ _ (exec (Stmt.For _ _ _ _ _) _) _ _ _)); (first | (k_unfold; (try dsimp only)) | walk1 | (dsimp only; walk1))) | ((with_reducible show wpAny _ _ (call (Value.ref _) _) _ _ _); (fail_if_success (with_reducible show wpAny _ _ (call (Value.ref 42) _) _ _ _)); (fail_if_success (with_reducible show wpAny _ _ (call (Value.ref 252) _) _ _ _)); (fail_if_success (with_reducible show wpAny _ _ (call (Value.ref 175) _) _ _ _)); (fail_if_success (with_reducible show wpAny _ _ (call (Value.ref 284) _) _ _ _)); (fail_if_success (with_reducible show wpAny _ _ (call (Value.ref 291) _) _ _ _)); (fail_if_success (with_reducible show wpAny _ _ (call (Value.ref 245) _) _ _ _)); (fail_if_success (with_reducible show wpAny _ _ (call (Value.ref 168) _) _ _ _)); (fail_if_success (with_reducible show wpAny _ _ (call (Value.ref 210) _) _ _ _)); (fail_if_success (with_reducible show wpAny _ _ (call (Value.ref 266) _) _ _ _)); (fail_if_success (with_reducible show wpAny _ _ (call (Value.ref 271) _) _ _ _)); (first | (k_unfold; (try dsimp only)) | walk1 | (dsimp only; walk1))) | ((fail_if_success (with_reducible show wpAny _ _ (exec _ _) _ _ _)); (fail_if_success (with_reducible show wpAny _ _ (call (Value.ref _) _) _ _ _)); (fail_if_success (with_reducible show wpAny _ _ (pyIter _) _ _ _)); (fail_if_success (with_reducible show wpAny _ _ (subscriptTail _ (PySem.Expr.Slice _ _ _ _) _ _) _ _ _)); (fail_if_success (with_reducible show wpAny _ _ (compareOp CmpOp.NotEq (Value.ref _) (Value.ref _)) _ _ _)); (first | (k_unfold; (try dsimp only)) | walk1 | (dsimp only; walk1)))))
          (rename News _ _ _ _ => N3); (rename Fr _ _ _ _ => F3)
          k_dflt (refine' del_contract (nw := ny) (ps := Tt.pairs) ?k1 F3 ?k3 N3 ?k5 ?k6 (fun _ h => h) pH ?bl ?k7 ?k8 ?_; (case k1 => k_asm); (case k3 => k_asm); (case k5 => k_asm); (case k6 => first | exact rfl | assumption); (case k7 => ktr_room); (case k8 => decide +kernel); (case bl => omega); k_whole)
          clear F3 N3
          intro dA tlD h3 tk3 F3 N3 hf1 pD
          obtain ⟨cz, hcz, N5⟩ := news_name N3
          have uc : ∀ p ∈ ny, p ∈ cz := by rw [hcz]; exact sub_app
          rw [← hcz] at pD
          have vK' := uc _ vK
          have mR' := uc _ mR
          clear hcz N3 hf1
          (repeat (first | ((with_reducible show wpAny _ _ (exec _ _) _ _ (Shared.mk _ _ _ (_ + 1) _)); refine tk_gen ?_; intro tk9) | ((with_reducible show wpAny _ _ (exec _ _) _ _ _); k_fold) | ((with_reducible show wpAny _ _ (exec _ _) _ _ _); (fail_if_success (with_reducible show wpAny _ _ (exec (Stmt.While _ _ _ _) _) _ _ _)); (fail_if_success (with_reducible show wpAny _ _ (exec (Stmt.For _ _ _ _ _) _) _ _ _)); (first | (k_unfold; (try dsimp only)) | walk1 | (dsimp only; walk1))) | ((with_reducible show wpAny _ _ (call (Value.ref _) _) _ _ _); (fail_if_success (with_reducible show wpAny _ _ (call (Value.ref 42) _) _ _ _)); (fail_if_success (with_reducible show wpAny _ _ (call (Value.ref 252) _) _ _ _)); (fail_if_success (with_reducible show wpAny _ _ (call (Value.ref 175) _) _ _ _)); (fail_if_success (with_reducible show wpAny _ _ (call (Value.ref 284) _) _ _ _)); (fail_if_success (with_reducible show wpAny _ _ (call (Value.ref 291) _) _ _ _)); (fail_if_success (with_reducible show wpAny _ _ (call (Value.ref 245) _) _ _ _)); (fail_if_success (with_reducible show wpAny _ _ (call (Value.ref 168) _) _ _ _)); (fail_if_success (with_reducible show wpAny _ _ (call (Value.ref 210) _) _ _ _)); (fail_if_success (with_reducible show wpAny _ _ (call (Value.ref 266) _) _ _ _)); (fail_if_success (with_reducible show wpAny _ _ (call (Value.ref 271) _) _ _ _)); (first | (k_unfold; (try dsimp only)) | walk1 | (dsimp only; walk1))) | ((fail_if_success (with_reducible show wpAny _ _ (exec _ _) _ _ _)); (fail_if_success (with_reducible show wpAny _ _ (call (Value.ref _) _) _ _ _)); (fail_if_success (with_reducible show wpAny _ _ (pyIter _) _ _ _)); (fail_if_success (with_reducible show wpAny _ _ (subscriptTail _ (PySem.Expr.Slice _ _ _ _) _ _) _ _ _)); (fail_if_success (with_reducible show wpAny _ _ (compareOp CmpOp.NotEq (Value.ref _) (Value.ref _)) _ _ _)); (fail_if_success (with_reducible show LCt.CompSrcT _ _ _ _ _ _ _ _ _ _ _ _ _ _ _)); (first | (k_unfold; (try dsimp only)) | walk1 | (dsimp only; walk1)))))
          (rename News _ _ _ _ => N3); (rename Fr _ _ _ _ => F3)
          refine filt_led (nw := ny) (fun p => decide (p.1 ≠ key)) rfl F3 N3 uc mR jR (by omega) ?_ ?_
          · clear F3 N3
            intro q qa q1' q2' qn' ys I oI C oC D m₃ h4 tk4 E' mqa hC hx F3 N3 off ne
            (repeat' (first | ((with_reducible show wpAny _ _ (exec _ _) _ _ (Shared.mk _ _ _ (_ + 1) _)); refine tk_gen ?_; intro tk9) | ((with_reducible show wpAny _ _ (exec _ _) _ _ _); k_fold) | ((with_reducible show wpAny _ _ (exec _ _) _ _ _); (fail_if_success (with_reducible show wpAny _ _ (exec (Stmt.While _ _ _ _) _) _ _ _)); (fail_if_success (with_reducible show wpAny _ _ (exec (Stmt.For _ _ _ _ _) _) _ _ _)); (first | (k_unfold; (try dsimp only)) | walk1 | (dsimp only; walk1))) | ((with_reducible show wpAny _ _ (call (Value.ref _) _) _ _ _); (fail_if_success (with_reducible show wpAny _ _ (call (Value.ref 42) _) _ _ _)); (fail_if_success (with_reducible show wpAny _ _ (call (Value.ref 252) _) _ _ _)); (fail_if_success (with_reducible show wpAny _ _ (call (Value.ref 175) _) _ _ _)); (fail_if_success (with_reducible show wpAny _ _ (call (Value.ref 284) _) _ _ _)); (fail_if_success (with_reducible show wpAny _ _ (call (Value.ref 291) _) _ _ _)); (fail_if_success (with_reducible show wpAny _ _ (call (Value.ref 245) _) _ _ _)); (fail_if_success (with_reducible show wpAny _ _ (call (Value.ref 168) _) _ _ _)); (fail_if_success (with_reducible show wpAny _ _ (call (Value.ref 210) _) _ _ _)); (fail_if_success (with_reducible show wpAny _ _ (call (Value.ref 266) _) _ _ _)); (fail_if_success (with_reducible show wpAny _ _ (call (Value.ref 271) _) _ _ _)); (first | (k_unfold; (try dsimp only)) | walk1 | (dsimp only; walk1))) | ((fail_if_success (with_reducible show wpAny _ _ (exec _ _) _ _ _)); (fail_if_success (with_reducible show wpAny _ _ (call (Value.ref _) _) _ _ _)); (fail_if_success (with_reducible show wpAny _ _ (pyIter _) _ _ _)); (fail_if_success (with_reducible show wpAny _ _ (subscriptTail _ (PySem.Expr.Slice _ _ _ _) _ _) _ _ _)); (fail_if_success (with_reducible show wpAny _ _ (compareOp CmpOp.NotEq (Value.ref _) (Value.ref _)) _ _ _)); (first | (k_unfold; (try dsimp only)) | walk1 | (dsimp only; walk1)))))
            · (rename Fr _ _ _ _ => F4); (rename News _ _ _ _ => N4)
              exact FiltEnd.intro ⟨by simpa using by assumption, rfl⟩ F4 N4
            · (rename Fr _ _ _ _ => F4); (rename News _ _ _ _ => N4)
              exact FiltEnd.intro (by simpa using by assumption) F4 N4
          · clear F3 N3
            intro g ys hD D h4 tk4 F3 N3 off
            (repeat (first | ((with_reducible show wpAny _ _ (exec _ _) _ _ (Shared.mk _ _ _ (_ + 1) _)); refine tk_gen ?_; intro tk9) | ((with_reducible show wpAny _ _ (exec _ _) _ _ _); k_fold) | ((with_reducible show wpAny _ _ (exec _ _) _ _ _); (fail_if_success (with_reducible show wpAny _ _ (exec (Stmt.While _ _ _ _) _) _ _ _)); (fail_if_success (with_reducible show wpAny _ _ (exec (Stmt.For _ _ _ _ _) _) _ _ _)); (first | (k_unfold; (try dsimp only)) | walk1 | (dsimp only; walk1))) | ((with_reducible show wpAny _ _ (call (Value.ref _) _) _ _ _); (fail_if_success (with_reducible show wpAny _ _ (call (Value.ref 42) _) _ _ _)); (fail_if_success (with_reducible show wpAny _ _ (call (Value.ref 252) _) _ _ _)); (fail_if_success (with_reducible show wpAny _ _ (call (Value.ref 175) _) _ _ _)); (fail_if_success (with_reducible show wpAny _ _ (call (Value.ref 284) _) _ _ _)); (fail_if_success (with_reducible show wpAny _ _ (call (Value.ref 291) _) _ _ _)); (fail_if_success (with_reducible show wpAny _ _ (call (Value.ref 245) _) _ _ _)); (fail_if_success (with_reducible show wpAny _ _ (call (Value.ref 168) _) _ _ _)); (fail_if_success (with_reducible show wpAny _ _ (call (Value.ref 210) _) _ _ _)); (fail_if_success (with_reducible show wpAny _ _ (call (Value.ref 266) _) _ _ _)); (fail_if_success (with_reducible show wpAny _ _ (call (Value.ref 271) _) _ _ _)); (first | (k_unfold; (try dsimp only)) | walk1 | (dsimp only; walk1))) | ((fail_if_success (with_reducible show wpAny _ _ (exec _ _) _ _ _)); (fail_if_success (with_reducible show wpAny _ _ (call (Value.ref _) _) _ _ _)); (fail_if_success (with_reducible show wpAny _ _ (pyIter _) _ _ _)); (fail_if_success (with_reducible show wpAny _ _ (subscriptTail _ (PySem.Expr.Slice _ _ _ _) _ _) _ _ _)); (fail_if_success (with_reducible show wpAny _ _ (compareOp CmpOp.NotEq (Value.ref _) (Value.ref _)) _ _ _)); (fail_if_success (with_reducible show LCt.CompSrcT _ _ _ _ _ _ _ _ _ _ _ _ _ _ _)); (first | (k_unfold; (try dsimp only)) | walk1 | (dsimp only; walk1)))))
            (rename News _ _ _ _ => N4)
            refine ne_prs N4 (by first | ke_room | decide +kernel) (fun p hp => .tail _ hp) (fun _ h => h) pD ⟨ys, _, .head _, hD.mono fun p hp => .tail _ (uc _ hp)⟩ rfl ?_
            have N5 := news_sub (l' := ny) N4 fun p hp => .tail _ (uc _ hp)
            clear N4 hD off pD vK' mR'
            (repeat (first | ((with_reducible show wpAny _ _ (exec _ _) _ _ (Shared.mk _ _ _ (_ + 1) _)); refine tk_gen ?_; intro tk9) | ((with_reducible show wpAny _ _ (exec _ _) _ _ _); k_fold) | ((with_reducible show wpAny _ _ (exec _ _) _ _ _); (fail_if_success (with_reducible show wpAny _ _ (exec (Stmt.While _ _ _ _) _) _ _ _)); (fail_if_success (with_reducible show wpAny _ _ (exec (Stmt.For _ _ _ _ _) _) _ _ _)); (first | (k_unfold; (try dsimp only)) | walk1 | (dsimp only; walk1))) | ((with_reducible show wpAny _ _ (call (Value.ref _) _) _ _ _); (fail_if_success (with_reducible show wpAny _ _ (call (Value.ref 42) _) _ _ _)); (fail_if_success (with_reducible show wpAny _ _ (call (Value.ref 252) _) _ _ _)); (fail_if_success (with_reducible show wpAny _ _ (call (Value.ref 175) _) _ _ _)); (fail_if_success (with_reducible show wpAny _ _ (call (Value.ref 284) _) _ _ _)); (fail_if_success (with_reducible show wpAny _ _ (call (Value.ref 291) _) _ _ _)); (fail_if_success (with_reducible show wpAny _ _ (call (Value.ref 245) _) _ _ _)); (fail_if_success (with_reducible show wpAny _ _ (call (Value.ref 168) _) _ _ _)); (fail_if_success (with_reducible show wpAny _ _ (call (Value.ref 210) _) _ _ _)); (fail_if_success (with_reducible show wpAny _ _ (call (Value.ref 266) _) _ _ _)); (fail_if_success (with_reducible show wpAny _ _ (call (Value.ref 271) _) _ _ _)); (first | (k_unfold; (try dsimp only)) | walk1 | (dsimp only; walk1))) | ((fail_if_success (with_reducible show wpAny _ _ (exec _ _) _ _ _)); (fail_if_success (with_reducible show wpAny _ _ (call (Value.ref _) _) _ _ _)); (fail_if_success (with_reducible show wpAny _ _ (pyIter _) _ _ _)); (fail_if_success (with_reducible show wpAny _ _ (subscriptTail _ (PySem.Expr.Slice _ _ _ _) _ _) _ _ _)); (fail_if_success (with_reducible show wpAny _ _ (compareOp CmpOp.NotEq (Value.ref _) (Value.ref _)) _ _ _)); (fail_if_success (with_reducible show LCt.CompSrcT _ _ _ _ _ _ _ _ _ _ _ _ _ _ _)); (first | (k_unfold; (try dsimp only)) | walk1 | (dsimp only; walk1)))))
            · (rename sf = 0 => hsf)
              have hr : Rises 0 36 Tt.pairs := by rw [hTt, hsf]; exact top_rises hn0 (by omega)
              (rename News _ _ _ _ => N3); (rename Fr _ _ _ _ => F3)
              refine filt_led (nw := ny) (fun p => decide (p.1 < key)) rfl F3 N3 (fun _ h => h) mR jR (by omega) ?_ ?_
              · clear F3 N3
                intro q qa q1' q2' qn' ys' I oI C oC D' m₃ h5 tk5 E' mqa hC hx F3 N3 off ne
                (repeat' (first | ((with_reducible show wpAny _ _ (exec _ _) _ _ (Shared.mk _ _ _ (_ + 1) _)); refine tk_gen ?_; intro tk9) | ((with_reducible show wpAny _ _ (exec _ _) _ _ _); k_fold) | ((with_reducible show wpAny _ _ (exec _ _) _ _ _); (fail_if_success (with_reducible show wpAny _ _ (exec (Stmt.While _ _ _ _) _) _ _ _)); (fail_if_success (with_reducible show wpAny _ _ (exec (Stmt.For _ _ _ _ _) _) _ _ _)); (first | (k_unfold; (try dsimp only)) | walk1 | (dsimp only; walk1))) | ((with_reducible show wpAny _ _ (call (Value.ref _) _) _ _ _); (fail_if_success (with_reducible show wpAny _ _ (call (Value.ref 42) _) _ _ _)); (fail_if_success (with_reducible show wpAny _ _ (call (Value.ref 252) _) _ _ _)); (fail_if_success (with_reducible show wpAny _ _ (call (Value.ref 175) _) _ _ _)); (fail_if_success (with_reducible show wpAny _ _ (call (Value.ref 284) _) _ _ _)); (fail_if_success (with_reducible show wpAny _ _ (call (Value.ref 291) _) _ _ _)); (fail_if_success (with_reducible show wpAny _ _ (call (Value.ref 245) _) _ _ _)); (fail_if_success (with_reducible show wpAny _ _ (call (Value.ref 168) _) _ _ _)); (fail_if_success (with_reducible show wpAny _ _ (call (Value.ref 210) _) _ _ _)); (fail_if_success (with_reducible show wpAny _ _ (call (Value.ref 266) _) _ _ _)); (fail_if_success (with_reducible show wpAny _ _ (call (Value.ref 271) _) _ _ _)); (first | (k_unfold; (try dsimp only)) | walk1 | (dsimp only; walk1))) | ((fail_if_success (with_reducible show wpAny _ _ (exec _ _) _ _ _)); (fail_if_success (with_reducible show wpAny _ _ (call (Value.ref _) _) _ _ _)); (fail_if_success (with_reducible show wpAny _ _ (pyIter _) _ _ _)); (fail_if_success (with_reducible show wpAny _ _ (subscriptTail _ (PySem.Expr.Slice _ _ _ _) _ _) _ _ _)); (fail_if_success (with_reducible show wpAny _ _ (compareOp CmpOp.NotEq (Value.ref _) (Value.ref _)) _ _ _)); (first | (k_unfold; (try dsimp only)) | walk1 | (dsimp only; walk1)))))
                · (rename Fr _ _ _ _ => F4); (rename News _ _ _ _ => N4)
                  exact FiltEnd.intro ⟨decide_eq_true (by omega), rfl⟩ F4 N4
                · (rename Fr _ _ _ _ => F4); (rename News _ _ _ _ => N4)
                  exact FiltEnd.intro (decide_eq_false (by omega)) F4 N4
              · clear F3 N3
                intro g1 ys1 hD1 D1 h5 tk5 F3 N3 off1
                have b1 : ys1.length ≤ 39 := by
                  have h1 := hD1.length
                  have h2 := List.length_filter_le (fun p : Pr => decide (p.1 < key)) Tt.pairs
                  rw [List.length_map] at h1
                  omega
                have uD : (D1, lst ys1) ∈ (D1, lst ys1) :: ny := .head _
                obtain ⟨cz, hcz, N5⟩ := news_name N3
                rw [← hcz] at uD
                have uy : ∀ p ∈ ny, p ∈ cz := by rw [hcz]; exact fun p hp => .tail _ hp
                have vK2 := uy _ vK
                have mR2 := uy _ mR
                clear N3 hcz off1
                (repeat (first | ((with_reducible show wpAny _ _ (exec _ _) _ _ (Shared.mk _ _ _ (_ + 1) _)); refine tk_gen ?_; intro tk9) | ((with_reducible show wpAny _ _ (exec _ _) _ _ _); k_fold) | ((with_reducible show wpAny _ _ (exec _ _) _ _ _); (fail_if_success (with_reducible show wpAny _ _ (exec (Stmt.While _ _ _ _) _) _ _ _)); (fail_if_success (with_reducible show wpAny _ _ (exec (Stmt.For _ _ _ _ _) _) _ _ _)); (first | (k_unfold; (try dsimp only)) | walk1 | (dsimp only; walk1))) | ((with_reducible show wpAny _ _ (call (Value.ref _) _) _ _ _); (fail_if_success (with_reducible show wpAny _ _ (call (Value.ref 42) _) _ _ _)); (fail_if_success (with_reducible show wpAny _ _ (call (Value.ref 252) _) _ _ _)); (fail_if_success (with_reducible show wpAny _ _ (call (Value.ref 175) _) _ _ _)); (fail_if_success (with_reducible show wpAny _ _ (call (Value.ref 284) _) _ _ _)); (fail_if_success (with_reducible show wpAny _ _ (call (Value.ref 291) _) _ _ _)); (fail_if_success (with_reducible show wpAny _ _ (call (Value.ref 245) _) _ _ _)); (fail_if_success (with_reducible show wpAny _ _ (call (Value.ref 168) _) _ _ _)); (fail_if_success (with_reducible show wpAny _ _ (call (Value.ref 210) _) _ _ _)); (fail_if_success (with_reducible show wpAny _ _ (call (Value.ref 266) _) _ _ _)); (fail_if_success (with_reducible show wpAny _ _ (call (Value.ref 271) _) _ _ _)); (first | (k_unfold; (try dsimp only)) | walk1 | (dsimp only; walk1))) | ((fail_if_success (with_reducible show wpAny _ _ (exec _ _) _ _ _)); (fail_if_success (with_reducible show wpAny _ _ (call (Value.ref _) _) _ _ _)); (fail_if_success (with_reducible show wpAny _ _ (pyIter _) _ _ _)); (fail_if_success (with_reducible show wpAny _ _ (subscriptTail _ (PySem.Expr.Slice _ _ _ _) _ _) _ _ _)); (fail_if_success (with_reducible show wpAny _ _ (compareOp CmpOp.NotEq (Value.ref _) (Value.ref _)) _ _ _)); (fail_if_success (with_reducible show LCt.CompSrcT _ _ _ _ _ _ _ _ _ _ _ _ _ _ _)); (first | (k_unfold; (try dsimp only)) | walk1 | (dsimp only; walk1)))))
                (rename News _ _ _ _ => N3); (rename Fr _ _ _ _ => F3)
                refine filt_led (nw := ny) (fun p => decide (key < p.1)) rfl F3 N3 (fun p hp => .tail _ (.tail _ (.tail _ (uy p hp)))) mR jR (by omega) ?_ ?_
                · clear F3 N3
                  intro q qa q1' q2' qn' ys' I oI C oC D' m₃ h5 tk5 E' mqa hC hx F3 N3 off ne
                  (repeat' (first | ((with_reducible show wpAny _ _ (exec _ _) _ _ (Shared.mk _ _ _ (_ + 1) _)); refine tk_gen ?_; intro tk9) | ((with_reducible show wpAny _ _ (exec _ _) _ _ _); k_fold) | ((with_reducible show wpAny _ _ (exec _ _) _ _ _); (fail_if_success (with_reducible show wpAny _ _ (exec (Stmt.While _ _ _ _) _) _ _ _)); (fail_if_success (with_reducible show wpAny _ _ (exec (Stmt.For _ _ _ _ _) _) _ _ _)); (first | (k_unfold; (try dsimp only)) | walk1 | (dsimp only; walk1))) | ((with_reducible show wpAny _ _ (call (Value.ref _) _) _ _ _); (fail_if_success (with_reducible show wpAny _ _ (call (Value.ref 42) _) _ _ _)); (fail_if_success (with_reducible show wpAny _ _ (call (Value.ref 252) _) _ _ _)); (fail_if_success (with_reducible show wpAny _ _ (call (Value.ref 175) _) _ _ _)); (fail_if_success (with_reducible show wpAny _ _ (call (Value.ref 284) _) _ _ _)); (fail_if_success (with_reducible show wpAny _ _ (call (Value.ref 291) _) _ _ _)); (fail_if_success (with_reducible show wpAny _ _ (call (Value.ref 245) _) _ _ _)); (fail_if_success (with_reducible show wpAny _ _ (call (Value.ref 168) _) _ _ _)); (fail_if_success (with_reducible show wpAny _ _ (call (Value.ref 210) _) _ _ _)); (fail_if_success (with_reducible show wpAny _ _ (call (Value.ref 266) _) _ _ _)); (fail_if_success (with_reducible show wpAny _ _ (call (Value.ref 271) _) _ _ _)); (first | (k_unfold; (try dsimp only)) | walk1 | (dsimp only; walk1))) | ((fail_if_success (with_reducible show wpAny _ _ (exec _ _) _ _ _)); (fail_if_success (with_reducible show wpAny _ _ (call (Value.ref _) _) _ _ _)); (fail_if_success (with_reducible show wpAny _ _ (pyIter _) _ _ _)); (fail_if_success (with_reducible show wpAny _ _ (subscriptTail _ (PySem.Expr.Slice _ _ _ _) _ _) _ _ _)); (fail_if_success (with_reducible show wpAny _ _ (compareOp CmpOp.NotEq (Value.ref _) (Value.ref _)) _ _ _)); (first | (k_unfold; (try dsimp only)) | walk1 | (dsimp only; walk1)))))
                  · (rename Fr _ _ _ _ => F4); (rename News _ _ _ _ => N4)
                    exact FiltEnd.intro ⟨decide_eq_true (by omega), rfl⟩ F4 N4
                  · (rename Fr _ _ _ _ => F4); (rename News _ _ _ _ => N4)
                    exact FiltEnd.intro (decide_eq_false (by omega)) F4 N4
                · clear F3 N3
                  intro g2 ys2 hD2 D2 h6 tk6 F3 N3 off2
                  have b2 : ys2.length ≤ 39 := by
                    have h1 := hD2.length
                    have h2 := List.length_filter_le (fun p : Pr => decide (key < p.1)) Tt.pairs
                    rw [List.length_map] at h1
                    omega
                  (repeat (first | ((with_reducible show wpAny _ _ (exec _ _) _ _ (Shared.mk _ _ _ (_ + 1) _)); refine tk_gen ?_; intro tk9) | ((with_reducible show wpAny _ _ (exec _ _) _ _ _); k_fold) | ((with_reducible show wpAny _ _ (exec _ _) _ _ _); (fail_if_success (with_reducible show wpAny _ _ (exec (Stmt.While _ _ _ _) _) _ _ _)); (fail_if_success (with_reducible show wpAny _ _ (exec (Stmt.For _ _ _ _ _) _) _ _ _)); (first | (k_unfold; (try dsimp only)) | walk1 | (dsimp only; walk1))) | ((with_reducible show wpAny _ _ (call (Value.ref _) _) _ _ _); (fail_if_success (with_reducible show wpAny _ _ (call (Value.ref 42) _) _ _ _)); (fail_if_success (with_reducible show wpAny _ _ (call (Value.ref 252) _) _ _ _)); (fail_if_success (with_reducible show wpAny _ _ (call (Value.ref 175) _) _ _ _)); (fail_if_success (with_reducible show wpAny _ _ (call (Value.ref 284) _) _ _ _)); (fail_if_success (with_reducible show wpAny _ _ (call (Value.ref 291) _) _ _ _)); (fail_if_success (with_reducible show wpAny _ _ (call (Value.ref 245) _) _ _ _)); (fail_if_success (with_reducible show wpAny _ _ (call (Value.ref 168) _) _ _ _)); (fail_if_success (with_reducible show wpAny _ _ (call (Value.ref 210) _) _ _ _)); (fail_if_success (with_reducible show wpAny _ _ (call (Value.ref 266) _) _ _ _)); (fail_if_success (with_reducible show wpAny _ _ (call (Value.ref 271) _) _ _ _)); (first | (k_unfold; (try dsimp only)) | walk1 | (dsimp only; walk1))) | ((fail_if_success (with_reducible show wpAny _ _ (exec _ _) _ _ _)); (fail_if_success (with_reducible show wpAny _ _ (call (Value.ref _) _) _ _ _)); (fail_if_success (with_reducible show wpAny _ _ (pyIter _) _ _ _)); (fail_if_success (with_reducible show wpAny _ _ (subscriptTail _ (PySem.Expr.Slice _ _ _ _) _ _) _ _ _)); (fail_if_success (with_reducible show wpAny _ _ (compareOp CmpOp.NotEq (Value.ref _) (Value.ref _)) _ _ _)); (first | (k_unfold; (try dsimp only)) | walk1 | (dsimp only; walk1)))))
                  (rename News _ _ _ _ => N3); (rename Fr _ _ _ _ => F3)
                  k_dflt (refine' put_contract (nw := ny) (ps := Tt.pairs) ?k1 F3 ?k3 N3 ?k5 ?k6 ?ks pH ?bl ?k7 ?k8 ?_; (case k1 => k_asm); (case k3 => k_asm); (case k5 => k_asm); (case k6 => first | exact rfl | assumption); (case k7 => ktr_room); (case k8 => decide +kernel); (case ks => exact fun p hp => .tail _ (.tail _ (.tail _ (.tail _ (.tail _ (uy p hp)))))); (case bl => omega); k_whole)
                  clear F3 N3
                  intro pA tlP h7 tk7 F3 N3 hf7 pP
                  (repeat (first | ((with_reducible show wpAny _ _ (exec _ _) _ _ (Shared.mk _ _ _ (_ + 1) _)); refine tk_gen ?_; intro tk9) | ((with_reducible show wpAny _ _ (exec _ _) _ _ _); k_fold) | ((with_reducible show wpAny _ _ (exec _ _) _ _ _); (fail_if_success (with_reducible show wpAny _ _ (exec (Stmt.While _ _ _ _) _) _ _ _)); (fail_if_success (with_reducible show wpAny _ _ (exec (Stmt.For _ _ _ _ _) _) _ _ _)); (first | (k_unfold; (try dsimp only)) | walk1 | (dsimp only; walk1))) | ((with_reducible show wpAny _ _ (call (Value.ref _) _) _ _ _); (fail_if_success (with_reducible show wpAny _ _ (call (Value.ref 42) _) _ _ _)); (fail_if_success (with_reducible show wpAny _ _ (call (Value.ref 252) _) _ _ _)); (fail_if_success (with_reducible show wpAny _ _ (call (Value.ref 175) _) _ _ _)); (fail_if_success (with_reducible show wpAny _ _ (call (Value.ref 284) _) _ _ _)); (fail_if_success (with_reducible show wpAny _ _ (call (Value.ref 291) _) _ _ _)); (fail_if_success (with_reducible show wpAny _ _ (call (Value.ref 245) _) _ _ _)); (fail_if_success (with_reducible show wpAny _ _ (call (Value.ref 168) _) _ _ _)); (fail_if_success (with_reducible show wpAny _ _ (call (Value.ref 210) _) _ _ _)); (fail_if_success (with_reducible show wpAny _ _ (call (Value.ref 266) _) _ _ _)); (fail_if_success (with_reducible show wpAny _ _ (call (Value.ref 271) _) _ _ _)); (first | (k_unfold; (try dsimp only)) | walk1 | (dsimp only; walk1))) | ((fail_if_success (with_reducible show wpAny _ _ (exec _ _) _ _ _)); (fail_if_success (with_reducible show wpAny _ _ (call (Value.ref _) _) _ _ _)); (fail_if_success (with_reducible show wpAny _ _ (pyIter _) _ _ _)); (fail_if_success (with_reducible show wpAny _ _ (subscriptTail _ (PySem.Expr.Slice _ _ _ _) _ _) _ _ _)); (fail_if_success (with_reducible show wpAny _ _ (compareOp CmpOp.NotEq (Value.ref _) (Value.ref _)) _ _ _)); (first | (k_unfold; (try dsimp only)) | walk1 | (dsimp only; walk1)))))
                  (rename News _ _ _ _ => N4)
                  refine ne_prs N4 (by first | ke_room | decide +kernel) (fun p hp => (List.mem_append.mp hp).elim (fun h => sub_app _ (.tail _ (.tail _ (.tail _ (.tail _ (.tail _ (uy p h))))))) (own_app p)) sub_app pP ⟨_, 0, .head _, ?dat⟩ (put_all hr) ?_
                  case dat =>
                    rw [List.map_append, List.map_append]
                    exact ((hD1.mono fun p hp => .tail _ (.tail _ (.tail _ (.tail _ (.tail _ (uy p hp)))))).append (.one (datPr (.tail _ (.tail _ (.tail _ (.tail _ (.head _)))))))).append (hD2.mono fun p hp => .tail _ (.tail _ (.tail _ (.tail _ (.tail _ (uy p hp))))))
                  have N5 := news_sub (l' := ny) N4 fun p hp => sub_app _ (.tail _ (.tail _ (.tail _ (.tail _ (.tail _ (uy p hp))))))
                  clear N4
                  (repeat (first | ((with_reducible show wpAny _ _ (exec _ _) _ _ (Shared.mk _ _ _ (_ + 1) _)); refine tk_gen ?_; intro tk9) | ((with_reducible show wpAny _ _ (exec _ _) _ _ _); k_fold) | ((with_reducible show wpAny _ _ (exec _ _) _ _ _); (fail_if_success (with_reducible show wpAny _ _ (exec (Stmt.While _ _ _ _) _) _ _ _)); (fail_if_success (with_reducible show wpAny _ _ (exec (Stmt.For _ _ _ _ _) _) _ _ _)); (first | (k_unfold; (try dsimp only)) | walk1 | (dsimp only; walk1))) | ((with_reducible show wpAny _ _ (call (Value.ref _) _) _ _ _); (fail_if_success (with_reducible show wpAny _ _ (call (Value.ref 42) _) _ _ _)); (fail_if_success (with_reducible show wpAny _ _ (call (Value.ref 252) _) _ _ _)); (fail_if_success (with_reducible show wpAny _ _ (call (Value.ref 175) _) _ _ _)); (fail_if_success (with_reducible show wpAny _ _ (call (Value.ref 284) _) _ _ _)); (fail_if_success (with_reducible show wpAny _ _ (call (Value.ref 291) _) _ _ _)); (fail_if_success (with_reducible show wpAny _ _ (call (Value.ref 245) _) _ _ _)); (fail_if_success (with_reducible show wpAny _ _ (call (Value.ref 168) _) _ _ _)); (fail_if_success (with_reducible show wpAny _ _ (call (Value.ref 210) _) _ _ _)); (fail_if_success (with_reducible show wpAny _ _ (call (Value.ref 266) _) _ _ _)); (fail_if_success (with_reducible show wpAny _ _ (call (Value.ref 271) _) _ _ _)); (first | (k_unfold; (try dsimp only)) | walk1 | (dsimp only; walk1))) | ((fail_if_success (with_reducible show wpAny _ _ (exec _ _) _ _ _)); (fail_if_success (with_reducible show wpAny _ _ (call (Value.ref _) _) _ _ _)); (fail_if_success (with_reducible show wpAny _ _ (pyIter _) _ _ _)); (fail_if_success (with_reducible show wpAny _ _ (subscriptTail _ (PySem.Expr.Slice _ _ _ _) _ _) _ _ _)); (fail_if_success (with_reducible show wpAny _ _ (compareOp CmpOp.NotEq (Value.ref _) (Value.ref _)) _ _ _)); (first | (k_unfold; (try dsimp only)) | walk1 | (dsimp only; walk1)))))
                  (rename News _ _ _ _ => N4); (rename Fr _ _ _ _ => F4)
                  exact ⟨rfl, _, _, _, rfl, (by rw [hNX2]; exact all_cons rfl (all_cons rfl (by rw [hNX1]; exact all_cons (hm2 (Str.ofString "m", .ref mA) (by rw [hNX2]; exact .tail _ (.tail _ (by rw [hNX1]; exact .head _)))) (all_cons (hm2 (Str.ofString "top", .ref tp) (by rw [hNX2]; exact .tail _ (.tail _ (by rw [hNX1]; exact .tail _ (.head _))))) (all_cons (hm2 (Str.ofString "kids", .ref lK) (by rw [hNX2]; exact .tail _ (.tail _ (by rw [hNX1]; exact .tail _ (.tail _ (.head _)))))) (all_cons (hm2 (Str.ofString "t", .int tv t1) (by rw [hNX2]; exact .tail _ (.tail _ (by rw [hNX1]; exact .tail _ (.tail _ (.tail _ (.head _))))))) (all_cons (hm2 (Str.ofString "n", .int n t2) (by rw [hNX2]; exact .tail _ (.tail _ (by rw [hNX1]; exact .tail _ (.tail _ (.tail _ (.tail _ (.head _)))))))) (all_cons (hm2 (Str.ofString "room", .int R t3) (by rw [hNX2]; exact .tail _ (.tail _ (by rw [hNX1]; exact .tail _ (.tail _ (.tail _ (.tail _ (.tail _ (.head _))))))))) (all_cons (hm2 (Str.ofString "shapes", .ref aS) (by rw [hNX2]; exact .tail _ (.tail _ (by rw [hNX1]; exact .tail _ (.tail _ (.tail _ (.tail _ (.tail _ (.tail _ (.head _)))))))))) (all_cons (hm2 (Str.ofString "sizes", .ref aZ) (by rw [hNX2]; exact .tail _ (.tail _ (by rw [hNX1]; exact .tail _ (.tail _ (.tail _ (.tail _ (.tail _ (.tail _ (.tail _ (.head _))))))))))) (all_cons (hm2 (Str.ofString "seed", .int sd t4) (by rw [hNX2]; exact .tail _ (.tail _ (by rw [hNX1]; exact .tail _ (.tail _ (.tail _ (.tail _ (.tail _ (.tail _ (.tail _ (.tail _ (.head _)))))))))))) (all_cons rfl (all_cons rfl (List.forall_mem_nil _)))))))))))))), F4, N4⟩
            · (repeat (first | ((with_reducible show wpAny _ _ (exec _ _) _ _ (Shared.mk _ _ _ (_ + 1) _)); refine tk_gen ?_; intro tk9) | ((with_reducible show wpAny _ _ (exec _ _) _ _ _); k_fold) | ((with_reducible show wpAny _ _ (exec _ _) _ _ _); (fail_if_success (with_reducible show wpAny _ _ (exec (Stmt.While _ _ _ _) _) _ _ _)); (fail_if_success (with_reducible show wpAny _ _ (exec (Stmt.For _ _ _ _ _) _) _ _ _)); (first | (k_unfold; (try dsimp only)) | walk1 | (dsimp only; walk1))) | ((with_reducible show wpAny _ _ (call (Value.ref _) _) _ _ _); (fail_if_success (with_reducible show wpAny _ _ (call (Value.ref 42) _) _ _ _)); (fail_if_success (with_reducible show wpAny _ _ (call (Value.ref 252) _) _ _ _)); (fail_if_success (with_reducible show wpAny _ _ (call (Value.ref 175) _) _ _ _)); (fail_if_success (with_reducible show wpAny _ _ (call (Value.ref 284) _) _ _ _)); (fail_if_success (with_reducible show wpAny _ _ (call (Value.ref 291) _) _ _ _)); (fail_if_success (with_reducible show wpAny _ _ (call (Value.ref 245) _) _ _ _)); (fail_if_success (with_reducible show wpAny _ _ (call (Value.ref 168) _) _ _ _)); (fail_if_success (with_reducible show wpAny _ _ (call (Value.ref 210) _) _ _ _)); (fail_if_success (with_reducible show wpAny _ _ (call (Value.ref 266) _) _ _ _)); (fail_if_success (with_reducible show wpAny _ _ (call (Value.ref 271) _) _ _ _)); (first | (k_unfold; (try dsimp only)) | walk1 | (dsimp only; walk1))) | ((fail_if_success (with_reducible show wpAny _ _ (exec _ _) _ _ _)); (fail_if_success (with_reducible show wpAny _ _ (call (Value.ref _) _) _ _ _)); (fail_if_success (with_reducible show wpAny _ _ (pyIter _) _ _ _)); (fail_if_success (with_reducible show wpAny _ _ (subscriptTail _ (PySem.Expr.Slice _ _ _ _) _ _) _ _ _)); (fail_if_success (with_reducible show wpAny _ _ (compareOp CmpOp.NotEq (Value.ref _) (Value.ref _)) _ _ _)); (first | (k_unfold; (try dsimp only)) | walk1 | (dsimp only; walk1)))))
              (rename News _ _ _ _ => N4); (rename Fr _ _ _ _ => F4)
              exact ⟨rfl, _, _, _, rfl, (by rw [hNX2]; exact all_cons rfl (all_cons rfl (by rw [hNX1]; exact all_cons (hm2 (Str.ofString "m", .ref mA) (by rw [hNX2]; exact .tail _ (.tail _ (by rw [hNX1]; exact .head _)))) (all_cons (hm2 (Str.ofString "top", .ref tp) (by rw [hNX2]; exact .tail _ (.tail _ (by rw [hNX1]; exact .tail _ (.head _))))) (all_cons (hm2 (Str.ofString "kids", .ref lK) (by rw [hNX2]; exact .tail _ (.tail _ (by rw [hNX1]; exact .tail _ (.tail _ (.head _)))))) (all_cons (hm2 (Str.ofString "t", .int tv t1) (by rw [hNX2]; exact .tail _ (.tail _ (by rw [hNX1]; exact .tail _ (.tail _ (.tail _ (.head _))))))) (all_cons (hm2 (Str.ofString "n", .int n t2) (by rw [hNX2]; exact .tail _ (.tail _ (by rw [hNX1]; exact .tail _ (.tail _ (.tail _ (.tail _ (.head _)))))))) (all_cons (hm2 (Str.ofString "room", .int R t3) (by rw [hNX2]; exact .tail _ (.tail _ (by rw [hNX1]; exact .tail _ (.tail _ (.tail _ (.tail _ (.tail _ (.head _))))))))) (all_cons (hm2 (Str.ofString "shapes", .ref aS) (by rw [hNX2]; exact .tail _ (.tail _ (by rw [hNX1]; exact .tail _ (.tail _ (.tail _ (.tail _ (.tail _ (.tail _ (.head _)))))))))) (all_cons (hm2 (Str.ofString "sizes", .ref aZ) (by rw [hNX2]; exact .tail _ (.tail _ (by rw [hNX1]; exact .tail _ (.tail _ (.tail _ (.tail _ (.tail _ (.tail _ (.tail _ (.head _))))))))))) (all_cons (hm2 (Str.ofString "seed", .int sd t4) (by rw [hNX2]; exact .tail _ (.tail _ (by rw [hNX1]; exact .tail _ (.tail _ (.tail _ (.tail _ (.tail _ (.tail _ (.tail _ (.tail _ (.head _)))))))))))) (all_cons rfl (all_cons rfl (List.forall_mem_nil _)))))))))))))), F4, N4⟩
        clear F1 N1 hm2
        rintro s' ⟨m₂, h2, tk2, rfl, hm2, F1, N1⟩
        have F2 := fr_said (ps := [(Str.ofString "row", .ref rA), (Str.ofString "handed", .ref hA), (Str.ofString "m", .ref mA), (Str.ofString "n", .int n t2), (Str.ofString "room", .int R t3), (Str.ofString "t", .int tv t1), (Str.ofString "top", .ref tp)]) (all_cons (hm2 _ (by rw [hNX2]; exact .head _)) (all_cons (hm2 _ (by rw [hNX2]; exact .tail _ (.head _))) (all_cons (hm2 _ (by rw [hNX2]; exact .tail _ (.tail _ (by rw [hNX1]; exact .head _)))) (all_cons (hm2 _ (by rw [hNX2]; exact .tail _ (.tail _ (by rw [hNX1]; exact .tail _ (.tail _ (.tail _ (.tail _ (.head _)))))))) (all_cons (hm2 _ (by rw [hNX2]; exact .tail _ (.tail _ (by rw [hNX1]; exact .tail _ (.tail _ (.tail _ (.tail _ (.tail _ (.head _))))))))) (all_cons (hm2 _ (by rw [hNX2]; exact .tail _ (.tail _ (by rw [hNX1]; exact .tail _ (.tail _ (.tail _ (.head _))))))) (all_cons (hm2 _ (by rw [hNX2]; exact .tail _ (.tail _ (by rw [hNX1]; exact .tail _ (.head _))))) (List.forall_mem_nil _)))))))) F1
        dsimp only [kstB] at F2
        clear F1
        clear hTt
        obtain ⟨ks3, vs3, ts3⟩ := Tt
        dsimp only [Tr.ks, Tr.ts] at ksT tsT mp
        obtain ⟨x9, kr9, vr9, cr9, cvs9, n9, e9, ⟨dx9, nd9, w1, w2, w3, no1, no2⟩, ⟨kvs9, kn9, mk9, ik9⟩, _, mc9, hc9⟩ := treeIn_node.mp hT
        obtain rfl : x1 = x9 := by cases e9; rfl
        obtain ⟨rvs, rn, mR, jR⟩ := id pR
        have lR := jR.length
        rw [List.length_map] at lR
        have lT : (ts3.length : Int) = R := by rw [tsT]; exact lKs
        have lf := jf.length
        (repeat (first | ((with_reducible show wpAny _ _ (exec _ _) _ _ (Shared.mk _ _ _ (_ + 1) _)); refine tk_gen ?_; intro tk9) | ((with_reducible show wpAny _ _ (exec _ _) _ _ _); k_fold) | ((with_reducible show wpAny _ _ (exec _ _) _ _ _); (fail_if_success (with_reducible show wpAny _ _ (exec (Stmt.While _ _ _ _) _) _ _ _)); (fail_if_success (with_reducible show wpAny _ _ (exec (Stmt.For _ _ _ _ _) _) _ _ _)); (first | (k_unfold; (try dsimp only)) | walk1 | (dsimp only; walk1))) | ((with_reducible show wpAny _ _ (call (Value.ref _) _) _ _ _); (fail_if_success (with_reducible show wpAny _ _ (call (Value.ref 42) _) _ _ _)); (fail_if_success (with_reducible show wpAny _ _ (call (Value.ref 252) _) _ _ _)); (fail_if_success (with_reducible show wpAny _ _ (call (Value.ref 175) _) _ _ _)); (fail_if_success (with_reducible show wpAny _ _ (call (Value.ref 284) _) _ _ _)); (fail_if_success (with_reducible show wpAny _ _ (call (Value.ref 291) _) _ _ _)); (fail_if_success (with_reducible show wpAny _ _ (call (Value.ref 245) _) _ _ _)); (fail_if_success (with_reducible show wpAny _ _ (call (Value.ref 168) _) _ _ _)); (fail_if_success (with_reducible show wpAny _ _ (call (Value.ref 210) _) _ _ _)); (fail_if_success (with_reducible show wpAny _ _ (call (Value.ref 266) _) _ _ _)); (fail_if_success (with_reducible show wpAny _ _ (call (Value.ref 271) _) _ _ _)); (first | (k_unfold; (try dsimp only)) | walk1 | (dsimp only; walk1))) | ((fail_if_success (with_reducible show wpAny _ _ (exec _ _) _ _ _)); (fail_if_success (with_reducible show wpAny _ _ (call (Value.ref _) _) _ _ _)); (fail_if_success (with_reducible show wpAny _ _ (pyIter _) _ _ _)); (fail_if_success (with_reducible show wpAny _ _ (subscriptTail _ (PySem.Expr.Slice _ _ _ _) _ _) _ _ _)); (fail_if_success (with_reducible show wpAny _ _ (compareOp CmpOp.NotEq (Value.ref _) (Value.ref _)) _ _ _)); (first | (k_unfold; (try dsimp only)) | walk1 | (dsimp only; walk1)))))
        (rename News _ _ _ _ => N4)
        refine ne_prs N4 (by first | ke_room | decide +kernel) (fun _ h => h) (fun _ h => h) pH pR rfl ?_
        (repeat (first | ((with_reducible show wpAny _ _ (exec _ _) _ _ (Shared.mk _ _ _ (_ + 1) _)); refine tk_gen ?_; intro tk9) | ((with_reducible show wpAny _ _ (exec _ _) _ _ _); k_fold) | ((with_reducible show wpAny _ _ (exec _ _) _ _ _); (fail_if_success (with_reducible show wpAny _ _ (exec (Stmt.While _ _ _ _) _) _ _ _)); (fail_if_success (with_reducible show wpAny _ _ (exec (Stmt.For _ _ _ _ _) _) _ _ _)); (first | (k_unfold; (try dsimp only)) | walk1 | (dsimp only; walk1))) | ((with_reducible show wpAny _ _ (call (Value.ref _) _) _ _ _); (fail_if_success (with_reducible show wpAny _ _ (call (Value.ref 42) _) _ _ _)); (fail_if_success (with_reducible show wpAny _ _ (call (Value.ref 252) _) _ _ _)); (fail_if_success (with_reducible show wpAny _ _ (call (Value.ref 175) _) _ _ _)); (fail_if_success (with_reducible show wpAny _ _ (call (Value.ref 284) _) _ _ _)); (fail_if_success (with_reducible show wpAny _ _ (call (Value.ref 291) _) _ _ _)); (fail_if_success (with_reducible show wpAny _ _ (call (Value.ref 245) _) _ _ _)); (fail_if_success (with_reducible show wpAny _ _ (call (Value.ref 168) _) _ _ _)); (fail_if_success (with_reducible show wpAny _ _ (call (Value.ref 210) _) _ _ _)); (fail_if_success (with_reducible show wpAny _ _ (call (Value.ref 266) _) _ _ _)); (fail_if_success (with_reducible show wpAny _ _ (call (Value.ref 271) _) _ _ _)); (first | (k_unfold; (try dsimp only)) | walk1 | (dsimp only; walk1))) | ((fail_if_success (with_reducible show wpAny _ _ (exec _ _) _ _ _)); (fail_if_success (with_reducible show wpAny _ _ (call (Value.ref _) _) _ _ _)); (fail_if_success (with_reducible show wpAny _ _ (pyIter _) _ _ _)); (fail_if_success (with_reducible show wpAny _ _ (subscriptTail _ (PySem.Expr.Slice _ _ _ _) _ _) _ _ _)); (fail_if_success (with_reducible show wpAny _ _ (compareOp CmpOp.NotEq (Value.ref _) (Value.ref _)) _ _ _)); (first | (k_unfold; (try dsimp only)) | walk1 | (dsimp only; walk1)))))
        · (repeat (first | ((with_reducible show wpAny _ _ (exec _ _) _ _ (Shared.mk _ _ _ (_ + 1) _)); refine tk_gen ?_; intro tk9) | ((with_reducible show wpAny _ _ (exec _ _) _ _ _); k_fold) | ((with_reducible show wpAny _ _ (exec _ _) _ _ _); (fail_if_success (with_reducible show wpAny _ _ (exec (Stmt.While _ _ _ _) _) _ _ _)); (fail_if_success (with_reducible show wpAny _ _ (exec (Stmt.For _ _ _ _ _) _) _ _ _)); (first | (k_unfold; (try dsimp only)) | walk1 | (dsimp only; walk1))) | ((with_reducible show wpAny _ _ (call (Value.ref _) _) _ _ _); (fail_if_success (with_reducible show wpAny _ _ (call (Value.ref 42) _) _ _ _)); (fail_if_success (with_reducible show wpAny _ _ (call (Value.ref 252) _) _ _ _)); (fail_if_success (with_reducible show wpAny _ _ (call (Value.ref 175) _) _ _ _)); (fail_if_success (with_reducible show wpAny _ _ (call (Value.ref 284) _) _ _ _)); (fail_if_success (with_reducible show wpAny _ _ (call (Value.ref 291) _) _ _ _)); (fail_if_success (with_reducible show wpAny _ _ (call (Value.ref 245) _) _ _ _)); (fail_if_success (with_reducible show wpAny _ _ (call (Value.ref 168) _) _ _ _)); (fail_if_success (with_reducible show wpAny _ _ (call (Value.ref 210) _) _ _ _)); (fail_if_success (with_reducible show wpAny _ _ (call (Value.ref 266) _) _ _ _)); (fail_if_success (with_reducible show wpAny _ _ (call (Value.ref 271) _) _ _ _)); (first | (k_unfold; (try dsimp only)) | walk1 | (dsimp only; walk1))) | ((fail_if_success (with_reducible show wpAny _ _ (exec _ _) _ _ _)); (fail_if_success (with_reducible show wpAny _ _ (call (Value.ref _) _) _ _ _)); (fail_if_success (with_reducible show wpAny _ _ (pyIter _) _ _ _)); (fail_if_success (with_reducible show wpAny _ _ (subscriptTail _ (PySem.Expr.Slice _ _ _ _) _ _) _ _ _)); (fail_if_success (with_reducible show wpAny _ _ (compareOp CmpOp.NotEq (Value.ref _) (Value.ref _)) _ _ _)); (first | (k_unfold; (try dsimp only)) | walk1 | (dsimp only; walk1)))))
          ((k_dflt (refine kba_turn (value' := PySem.Expr.Name (PySem.Str.ofString "v") ⟨0, 0, 0, 0⟩) (fun _ => rfl) ?_); k_dflt (refine' kmk_slice_ints ?sl9F ?sl9N ?sl9l ?sl9p ?sl9q ?sl9i ?sl9m ?sl9c ?_ ?sl9s ?sl9t ?sl9z; (case sl9F => k_asm); (case sl9N => k_asm); (case sl9l => kmk_list); (case sl9p => kmk_part); (case sl9q => kmk_part); (case sl9i => l_ints); (case sl9m => exact kmk_upto (by l_ints) (by assumption)); (case sl9c => exact rfl); (case sl9s => with_unfolding_all rfl); (case sl9t => kmk_pure); (case sl9z => exact Nat.le_of_ble_eq_true rfl))))
          intro D ws h3 F3 N3 lD hI2 _ _
          clear lD
          (repeat (first | ((with_reducible show wpAny _ _ (exec _ _) _ _ (Shared.mk _ _ _ (_ + 1) _)); refine tk_gen ?_; intro tk9) | ((with_reducible show wpAny _ _ (exec _ _) _ _ _); k_fold) | ((with_reducible show wpAny _ _ (exec _ _) _ _ _); (fail_if_success (with_reducible show wpAny _ _ (exec (Stmt.While _ _ _ _) _) _ _ _)); (fail_if_success (with_reducible show wpAny _ _ (exec (Stmt.For _ _ _ _ _) _) _ _ _)); (first | (k_unfold; (try dsimp only)) | walk1 | (dsimp only; walk1))) | ((with_reducible show wpAny _ _ (call (Value.ref _) _) _ _ _); (fail_if_success (with_reducible show wpAny _ _ (call (Value.ref 42) _) _ _ _)); (fail_if_success (with_reducible show wpAny _ _ (call (Value.ref 252) _) _ _ _)); (fail_if_success (with_reducible show wpAny _ _ (call (Value.ref 175) _) _ _ _)); (fail_if_success (with_reducible show wpAny _ _ (call (Value.ref 284) _) _ _ _)); (fail_if_success (with_reducible show wpAny _ _ (call (Value.ref 291) _) _ _ _)); (fail_if_success (with_reducible show wpAny _ _ (call (Value.ref 245) _) _ _ _)); (fail_if_success (with_reducible show wpAny _ _ (call (Value.ref 168) _) _ _ _)); (fail_if_success (with_reducible show wpAny _ _ (call (Value.ref 210) _) _ _ _)); (fail_if_success (with_reducible show wpAny _ _ (call (Value.ref 266) _) _ _ _)); (fail_if_success (with_reducible show wpAny _ _ (call (Value.ref 271) _) _ _ _)); (first | (k_unfold; (try dsimp only)) | walk1 | (dsimp only; walk1))) | ((fail_if_success (with_reducible show wpAny _ _ (exec _ _) _ _ _)); (fail_if_success (with_reducible show wpAny _ _ (call (Value.ref _) _) _ _ _)); (fail_if_success (with_reducible show wpAny _ _ (pyIter _) _ _ _)); (fail_if_success (with_reducible show wpAny _ _ (subscriptTail _ (PySem.Expr.Slice _ _ _ _) _ _) _ _ _)); (fail_if_success (with_reducible show wpAny _ _ (compareOp CmpOp.NotEq (Value.ref _) (Value.ref _)) _ _ _)); (first | (k_unfold; (try dsimp only)) | walk1 | (dsimp only; walk1)))))
          (rename News _ _ _ _ => N4)
          refine ne_ints N4 (by first | ke_room | decide +kernel) (fun p hp => .tail _ (.tail _ hp)) (fun _ h => h) ⟨kvs9, kn9, mk9, ik9⟩ ⟨ws, 0, .head _, hI2⟩ ksT ?_
          have N5 := news_sub (l' := ny) N4 fun p hp => .tail _ (.tail _ hp)
          clear N4 hI2
          (repeat (first | ((with_reducible show wpAny _ _ (exec _ _) _ _ (Shared.mk _ _ _ (_ + 1) _)); refine tk_gen ?_; intro tk9) | ((with_reducible show wpAny _ _ (exec _ _) _ _ _); k_fold) | ((with_reducible show wpAny _ _ (exec _ _) _ _ _); (fail_if_success (with_reducible show wpAny _ _ (exec (Stmt.While _ _ _ _) _) _ _ _)); (fail_if_success (with_reducible show wpAny _ _ (exec (Stmt.For _ _ _ _ _) _) _ _ _)); (first | (k_unfold; (try dsimp only)) | walk1 | (dsimp only; walk1))) | ((with_reducible show wpAny _ _ (call (Value.ref _) _) _ _ _); (fail_if_success (with_reducible show wpAny _ _ (call (Value.ref 42) _) _ _ _)); (fail_if_success (with_reducible show wpAny _ _ (call (Value.ref 252) _) _ _ _)); (fail_if_success (with_reducible show wpAny _ _ (call (Value.ref 175) _) _ _ _)); (fail_if_success (with_reducible show wpAny _ _ (call (Value.ref 284) _) _ _ _)); (fail_if_success (with_reducible show wpAny _ _ (call (Value.ref 291) _) _ _ _)); (fail_if_success (with_reducible show wpAny _ _ (call (Value.ref 245) _) _ _ _)); (fail_if_success (with_reducible show wpAny _ _ (call (Value.ref 168) _) _ _ _)); (fail_if_success (with_reducible show wpAny _ _ (call (Value.ref 210) _) _ _ _)); (fail_if_success (with_reducible show wpAny _ _ (call (Value.ref 266) _) _ _ _)); (fail_if_success (with_reducible show wpAny _ _ (call (Value.ref 271) _) _ _ _)); (first | (k_unfold; (try dsimp only)) | walk1 | (dsimp only; walk1))) | ((fail_if_success (with_reducible show wpAny _ _ (exec _ _) _ _ _)); (fail_if_success (with_reducible show wpAny _ _ (call (Value.ref _) _) _ _ _)); (fail_if_success (with_reducible show wpAny _ _ (pyIter _) _ _ _)); (fail_if_success (with_reducible show wpAny _ _ (subscriptTail _ (PySem.Expr.Slice _ _ _ _) _ _) _ _ _)); (fail_if_success (with_reducible show wpAny _ _ (compareOp CmpOp.NotEq (Value.ref _) (Value.ref _)) _ _ _)); (first | (k_unfold; (try dsimp only)) | walk1 | (dsimp only; walk1)))))
          · (repeat (first | ((with_reducible show wpAny _ _ (exec _ _) _ _ (Shared.mk _ _ _ (_ + 1) _)); refine tk_gen ?_; intro tk9) | ((with_reducible show wpAny _ _ (exec _ _) _ _ _); k_fold) | ((with_reducible show wpAny _ _ (exec _ _) _ _ _); (fail_if_success (with_reducible show wpAny _ _ (exec (Stmt.While _ _ _ _) _) _ _ _)); (fail_if_success (with_reducible show wpAny _ _ (exec (Stmt.For _ _ _ _ _) _) _ _ _)); (first | (k_unfold; (try dsimp only)) | walk1 | (dsimp only; walk1))) | ((with_reducible show wpAny _ _ (call (Value.ref _) _) _ _ _); (fail_if_success (with_reducible show wpAny _ _ (call (Value.ref 42) _) _ _ _)); (fail_if_success (with_reducible show wpAny _ _ (call (Value.ref 252) _) _ _ _)); (fail_if_success (with_reducible show wpAny _ _ (call (Value.ref 175) _) _ _ _)); (fail_if_success (with_reducible show wpAny _ _ (call (Value.ref 284) _) _ _ _)); (fail_if_success (with_reducible show wpAny _ _ (call (Value.ref 291) _) _ _ _)); (fail_if_success (with_reducible show wpAny _ _ (call (Value.ref 245) _) _ _ _)); (fail_if_success (with_reducible show wpAny _ _ (call (Value.ref 168) _) _ _ _)); (fail_if_success (with_reducible show wpAny _ _ (call (Value.ref 210) _) _ _ _)); (fail_if_success (with_reducible show wpAny _ _ (call (Value.ref 266) _) _ _ _)); (fail_if_success (with_reducible show wpAny _ _ (call (Value.ref 271) _) _ _ _)); (first | (k_unfold; (try dsimp only)) | walk1 | (dsimp only; walk1))) | ((fail_if_success (with_reducible show wpAny _ _ (exec _ _) _ _ _)); (fail_if_success (with_reducible show wpAny _ _ (call (Value.ref _) _) _ _ _)); (fail_if_success (with_reducible show wpAny _ _ (pyIter _) _ _ _)); (fail_if_success (with_reducible show wpAny _ _ (subscriptTail _ (PySem.Expr.Slice _ _ _ _) _ _) _ _ _)); (fail_if_success (with_reducible show wpAny _ _ (compareOp CmpOp.NotEq (Value.ref _) (Value.ref _)) _ _ _)); (first | (k_unfold; (try dsimp only)) | walk1 | (dsimp only; walk1)))))
            (rename News _ _ _ _ => N3); (rename Fr _ _ _ _ => F3)
            k_dflt (refine' mflat_contract (nw := ny) (t := .node ks3 vs3 ts3) ?k1 F3 ?k3 N3 ?k5 ?k6 (fun _ h => h) hM hT okT (by omega) ?k7 ?k8 ?_; (case k1 => k_asm); (case k3 => k_asm); (case k5 => k_asm); (case k6 => first | exact rfl | assumption); (case k7 => ktr_room); (case k8 => decide +kernel); k_whole)
            clear F3 N3
            intro oW tlW h3 tk3 F3 N3 hf1 hI1
            (repeat (first | ((with_reducible show wpAny _ _ (exec _ _) _ _ (Shared.mk _ _ _ (_ + 1) _)); refine tk_gen ?_; intro tk9) | ((with_reducible show wpAny _ _ (exec _ _) _ _ _); k_fold) | ((with_reducible show wpAny _ _ (exec _ _) _ _ _); (fail_if_success (with_reducible show wpAny _ _ (exec (Stmt.While _ _ _ _) _) _ _ _)); (fail_if_success (with_reducible show wpAny _ _ (exec (Stmt.For _ _ _ _ _) _) _ _ _)); (first | (k_unfold; (try dsimp only)) | walk1 | (dsimp only; walk1))) | ((with_reducible show wpAny _ _ (call (Value.ref _) _) _ _ _); (fail_if_success (with_reducible show wpAny _ _ (call (Value.ref 42) _) _ _ _)); (fail_if_success (with_reducible show wpAny _ _ (call (Value.ref 252) _) _ _ _)); (fail_if_success (with_reducible show wpAny _ _ (call (Value.ref 175) _) _ _ _)); (fail_if_success (with_reducible show wpAny _ _ (call (Value.ref 284) _) _ _ _)); (fail_if_success (with_reducible show wpAny _ _ (call (Value.ref 291) _) _ _ _)); (fail_if_success (with_reducible show wpAny _ _ (call (Value.ref 245) _) _ _ _)); (fail_if_success (with_reducible show wpAny _ _ (call (Value.ref 168) _) _ _ _)); (fail_if_success (with_reducible show wpAny _ _ (call (Value.ref 210) _) _ _ _)); (fail_if_success (with_reducible show wpAny _ _ (call (Value.ref 266) _) _ _ _)); (fail_if_success (with_reducible show wpAny _ _ (call (Value.ref 271) _) _ _ _)); (first | (k_unfold; (try dsimp only)) | walk1 | (dsimp only; walk1))) | ((fail_if_success (with_reducible show wpAny _ _ (exec _ _) _ _ _)); (fail_if_success (with_reducible show wpAny _ _ (call (Value.ref _) _) _ _ _)); (fail_if_success (with_reducible show wpAny _ _ (pyIter _) _ _ _)); (fail_if_success (with_reducible show wpAny _ _ (subscriptTail _ (PySem.Expr.Slice _ _ _ _) _ _) _ _ _)); (fail_if_success (with_reducible show wpAny _ _ (compareOp CmpOp.NotEq (Value.ref _) (Value.ref _)) _ _ _)); (first | (k_unfold; (try dsimp only)) | walk1 | (dsimp only; walk1)))))
            (rename News _ _ _ _ => N4); (rename IntsAre _ ([tv] ++ _) => hI2)
            refine ne_ints N4 (by first | ke_room | decide +kernel) (fun p hp => .tail _ (.tail _ (own_app _ hp))) (fun _ h => h) hI1 ⟨_, 0, .head _, hI2⟩ rfl ?_
            have N5 := news_sub (l' := ny) N4 fun p hp => .tail _ (.tail _ (sub_app _ hp))
            clear N4
            (repeat (first | ((with_reducible show wpAny _ _ (exec _ _) _ _ (Shared.mk _ _ _ (_ + 1) _)); refine tk_gen ?_; intro tk9) | ((with_reducible show wpAny _ _ (exec _ _) _ _ _); k_fold) | ((with_reducible show wpAny _ _ (exec _ _) _ _ _); (fail_if_success (with_reducible show wpAny _ _ (exec (Stmt.While _ _ _ _) _) _ _ _)); (fail_if_success (with_reducible show wpAny _ _ (exec (Stmt.For _ _ _ _ _) _) _ _ _)); (first | (k_unfold; (try dsimp only)) | walk1 | (dsimp only; walk1))) | ((with_reducible show wpAny _ _ (call (Value.ref _) _) _ _ _); (fail_if_success (with_reducible show wpAny _ _ (call (Value.ref 42) _) _ _ _)); (fail_if_success (with_reducible show wpAny _ _ (call (Value.ref 252) _) _ _ _)); (fail_if_success (with_reducible show wpAny _ _ (call (Value.ref 175) _) _ _ _)); (fail_if_success (with_reducible show wpAny _ _ (call (Value.ref 284) _) _ _ _)); (fail_if_success (with_reducible show wpAny _ _ (call (Value.ref 291) _) _ _ _)); (fail_if_success (with_reducible show wpAny _ _ (call (Value.ref 245) _) _ _ _)); (fail_if_success (with_reducible show wpAny _ _ (call (Value.ref 168) _) _ _ _)); (fail_if_success (with_reducible show wpAny _ _ (call (Value.ref 210) _) _ _ _)); (fail_if_success (with_reducible show wpAny _ _ (call (Value.ref 266) _) _ _ _)); (fail_if_success (with_reducible show wpAny _ _ (call (Value.ref 271) _) _ _ _)); (first | (k_unfold; (try dsimp only)) | walk1 | (dsimp only; walk1))) | ((fail_if_success (with_reducible show wpAny _ _ (exec _ _) _ _ _)); (fail_if_success (with_reducible show wpAny _ _ (call (Value.ref _) _) _ _ _)); (fail_if_success (with_reducible show wpAny _ _ (pyIter _) _ _ _)); (fail_if_success (with_reducible show wpAny _ _ (subscriptTail _ (PySem.Expr.Slice _ _ _ _) _ _) _ _ _)); (fail_if_success (with_reducible show wpAny _ _ (compareOp CmpOp.NotEq (Value.ref _) (Value.ref _)) _ _ _)); (first | (k_unfold; (try dsimp only)) | walk1 | (dsimp only; walk1)))))
            k_end; w_end; (show GoodW _ _ _ _ _ (.ok (.ret (.bool _))) _); refine goodW_bool (by assumption) (by assumption) (raisesW_false ?_) ?_
            · wrow_none_raised
            · exact postL _


end Mine
theorem PySem.Challenge.cw_sx_vcanopyofobjects_7_holds : PySem.Challenge.rw_sx_vcanopyofobjects_7.Holds :=
  Mine.law_holds
