import PyProof.Rows.All
import Wide.All
import OpenK.AllK
import Wide.FinOn
import Open.SpecLaws
import KE.OsHead
import KE.OsGo
import HandS.ForSpec
import HandS.Comp
import HandS.Iter
import HandS.Zip
import HandS.Sort
import HandS.SortRule
import HandS.Wide
import HandS.NoneIn
import PySem.Challenge.RW_averagesea_s01_answers
set_option Elab.async false
set_option linter.all false
set_option maxRecDepth 100000
set_option maxHeartbeats 2000000
/-! Plain mathematics, part A: bounds, forms of the reckoned numbers, shares by a sorted list. No program in sight. -/
namespace AvM
/-! ### bounds -/
structure WfI (x : Kg88.Interest) : Prop where
  vlo : 1 ≤ x.value
  vhi : x.value ≤ 1000000000
  dlo : 1 ≤ x.declared
  dhi : x.declared ≤ 1000000000
  lost : x.lost ≤ x.value
  given : x.given ≤ 1000000000
structure Wf (s : Kg88.State) : Prop where
  com : s.commission ≤ 10
  ilen : s.interests.length ≤ 20
  elen : s.expenses.length ≤ 30
  wint : ∀ x ∈ s.interests, WfI x
  wexp : ∀ e ∈ s.expenses, e.amount ≤ 1000000000
  none_ : s.begun = false → s.interests = []
theorem given_le (x : Kg88.Interest) : x.given_ ≤ x.value - x.lost := by
  unfold Kg88.Interest.given_
  omega
theorem good_le (x : Kg88.Interest) : x.good ≤ x.given_ := by
  unfold Kg88.Interest.good
  split
  · exact Nat.zero_le _
  · split
    · rename_i h
      refine Nat.div_le_of_le_mul ?_
      rw [Nat.mul_comm]
      exact Nat.mul_le_mul_right _ (Nat.le_of_lt h)
    · exact Nat.le_refl _
theorem good_le_value (x : Kg88.Interest) : x.good ≤ x.value := by
  have h1 := good_le x
  have h2 := given_le x
  omega
theorem left_good_le (x : Kg88.Interest) : x.left + x.good ≤ x.value := by
  have h1 := good_le x
  have h2 := given_le x
  unfold Kg88.Interest.left
  omega
theorem base_le (x : Kg88.Interest) : x.base ≤ x.value := by
  unfold Kg88.Interest.base
  split
  · exact Nat.zero_le _
  · exact left_good_le x
theorem sum_le {α : Type} (f : α → Nat) (m : Nat) : ∀ (l : List α), (∀ x ∈ l, f x ≤ m) → (l.map f).sum ≤ l.length * m
  | [], _ => by simp
  | x :: r, h => by
    have ih := sum_le f m r fun y hy => h y (List.mem_cons_of_mem _ hy)
    have hx := h x List.mem_cons_self
    rw [List.map_cons, List.sum_cons, List.length_cons, Nat.succ_mul]
    omega
theorem goods_le {s : Kg88.State} (W : Wf s) : (s.interests.map Kg88.Interest.good).sum ≤ 20000000000 := by
  have h := sum_le Kg88.Interest.good 1000000000 s.interests fun x hx => Nat.le_trans (good_le_value x) (W.wint x hx).vhi
  have h2 := Nat.mul_le_mul_right 1000000000 W.ilen
  omega
theorem whole_le {s : Kg88.State} (W : Wf s) : s.whole ≤ 20000000000 := by
  have h := sum_le Kg88.Interest.base 1000000000 s.interests fun x hx => Nat.le_trans (base_le x) (W.wint x hx).vhi
  have h2 := Nat.mul_le_mul_right 1000000000 W.ilen
  unfold Kg88.State.whole Kg88.State.bases
  omega
theorem e_allowed_le (e : Kg88.Expense) : e.allowed ≤ e.amount := by
  unfold Kg88.Expense.allowed
  split
  · exact Nat.le_refl _
  · exact Nat.min_le_left _ _
theorem allowed_le {s : Kg88.State} (W : Wf s) {e : Kg88.Expense} (h : e.amount ≤ 1000000000) : s.allowed e ≤ 1100000000 := by
  have h1 := e_allowed_le e
  have h2 := W.com
  unfold Kg88.State.allowed
  have h3 : e.allowed * s.commission ≤ 1000000000 * 10 := Nat.mul_le_mul (by omega) h2
  omega
theorem alloweds_le {s : Kg88.State} (W : Wf s) : (s.expenses.map s.allowed).sum ≤ 33000000000 := by
  have h := sum_le s.allowed 1100000000 s.expenses fun e he => allowed_le W (W.wexp e he)
  have h2 := Nat.mul_le_mul_right 1100000000 W.elen
  omega
theorem shared_le {s : Kg88.State} (W : Wf s) : s.shared ≤ 53000000000 := by
  have h1 := goods_le W
  have h2 := alloweds_le W
  unfold Kg88.State.shared
  omega
/-! ### the numbers as the program reckons them -/
theorem cnt_int {x : Kg88.Interest} (W : WfI x) : (if ((x.value : Int) - (x.lost : Int)) < (x.given : Int) then ((x.value : Int) - (x.lost : Int)) else (x.given : Int)) = ((x.given_ : Nat) : Int) := by
  have h := W.lost
  unfold Kg88.Interest.given_
  split <;> omega
theorem left_int {x : Kg88.Interest} (W : WfI x) : (x.value : Int) - (x.lost : Int) - ((x.given_ : Nat) : Int) = ((x.left : Nat) : Int) := by
  have h := W.lost
  have h2 := given_le x
  unfold Kg88.Interest.left
  omega
theorem good_deck {x : Kg88.Interest} (h : x.deck = true) : x.good = 0 := by
  unfold Kg88.Interest.good
  rw [if_pos h]
theorem good_part {x : Kg88.Interest} (h : x.deck = false) (h2 : (x.declared : Int) < (x.value : Int)) : ((x.given_ : Nat) : Int) * (x.declared : Int) / (x.value : Int) = ((x.good : Nat) : Int) := by
  unfold Kg88.Interest.good
  rw [if_neg (by rw [h]; decide), if_pos (by omega)]
  rw [← Int.natCast_mul, ← Int.natCast_ediv]
theorem good_full {x : Kg88.Interest} (h : x.deck = false) (h2 : ¬ (x.declared : Int) < (x.value : Int)) : x.given_ = x.good := by
  unfold Kg88.Interest.good
  rw [if_neg (by rw [h]; decide), if_neg (by omega)]
theorem base_exempt {x : Kg88.Interest} (h : x.exempt = true) : x.base = 0 := by
  unfold Kg88.Interest.base
  rw [if_pos h]
theorem base_not {x : Kg88.Interest} (h : x.exempt = false) : ((x.left : Nat) : Int) + ((x.good : Nat) : Int) = ((x.base : Nat) : Int) := by
  unfold Kg88.Interest.base
  rw [if_neg (by rw [h]; decide)]
  omega
theorem cast_sum : ∀ l : List Nat, (l.map fun n : Nat => (n : Int)).sum = ((l.sum : Nat) : Int)
  | [] => rfl
  | x :: r => by
    rw [List.map_cons, List.sum_cons, List.sum_cons, cast_sum r]
    omega
theorem cast_sum_map {α : Type} (f : α → Nat) (l : List α) : (l.map fun x => ((f x : Nat) : Int)).sum = (((l.map f).sum : Nat) : Int) := by
  rw [← cast_sum, List.map_map]
  rfl
/-! ### a list by its first n places -/
theorem take_more {α : Type} : ∀ {l : List α} {i : Nat} {x : α}, l[i]? = some x → l.take (i + 1) = l.take i ++ [x]
  | [], i, x, h => by simp at h
  | a :: l, 0, x, h => by
    have e : a = x := Option.some.inj h
    subst e
    rfl
  | a :: l, i + 1, x, h => by
    have ih := take_more (l := l) (i := i) (x := x) h
    show a :: l.take (i + 1) = a :: l.take i ++ [x]
    rw [ih]
    rfl
/-! ### shares: who stands among the first m of the sorted list -/
/-- the order of two places by their rests -/
theorem ahead_iff (r : List Nat) (i j : Nat) : Kg88.ahead r i j = true ↔ (r.getD j 0 < r.getD i 0 ∨ (r.getD i 0 = r.getD j 0 ∧ i < j)) := by
  unfold Kg88.ahead
  rw [Bool.or_eq_true, Bool.and_eq_true, decide_eq_true_iff, decide_eq_true_iff, beq_iff_eq]
theorem mem_take_iff {r : List Nat} {n : Nat} : ∀ {ks : List Nat} (m i : Nat), ks.Pairwise (fun a b => Kg88.ahead r a b = true) → i ∈ ks → (i ∈ ks.take m ↔ (ks.filter fun j => Kg88.ahead r j i).length < m)
  | [], _, _, _, h => by simp at h
  | k :: ks, 0, i, _, _ => by simp
  | k :: ks, m + 1, i, hp, hi => by
    obtain ⟨h1, h2⟩ := List.pairwise_cons.mp hp
    have irr : ∀ a, Kg88.ahead r a a = false := fun a => by
      cases e : Kg88.ahead r a a with
      | false => rfl
      | true => have := (ahead_iff r a a).mp e; omega
    have asy : ∀ a b, Kg88.ahead r a b = true → Kg88.ahead r b a = false := fun a b h => by
      cases e : Kg88.ahead r b a with
      | false => rfl
      | true =>
        have q1 := (ahead_iff r a b).mp h
        have q2 := (ahead_iff r b a).mp e
        omega
    by_cases e : i = k
    · subst e
      have hz : (ks.filter fun j => Kg88.ahead r j i) = [] := List.filter_eq_nil_iff.mpr fun j hj q => by
        rw [asy i j (h1 j hj)] at q
        cases q
      rw [List.take_succ_cons, List.filter_cons_of_neg (by rw [irr]; decide), hz]
      simp
    · have hi' : i ∈ ks := by
        rcases List.mem_cons.mp hi with q | q
        · exact absurd q e
        · exact q
      have ih := mem_take_iff (r := r) (n := n) (ks := ks) m i h2 hi'
      rw [List.take_succ_cons, List.filter_cons_of_pos (p := fun j => Kg88.ahead r j i) (h1 i hi'), List.length_cons, List.mem_cons]
      constructor
      · rintro (q | q)
        · exact absurd q e
        · have := ih.mp q
          omega
      · intro q
        exact .inr (ih.mpr (by omega))
theorem perm_filter_length {p : Nat → Bool} {l m : List Nat} (h : l.Perm m) : (l.filter p).length = (m.filter p).length := (h.filter p).length_eq
/-- the shares by the sorted list of places: those among the first (missing) get one more -/
theorem shares_take {total : Nat} {l ks : List Nat} (hs : l.sum ≠ 0) (hp : ks.Perm (List.range l.length)) (ho : ks.Pairwise fun a b => Kg88.ahead (Kg88.rests total l) a b = true) :
    Kg88.shares total l = ((l.map fun b => total * b / l.sum).zipIdx.map fun x => x.1 + if x.2 ∈ ks.take (total - (l.map fun b => total * b / l.sum).sum) then 1 else 0) := by
  unfold Kg88.shares
  rw [if_neg hs]
  refine List.map_congr_left fun x hx => ?_
  have hlt : x.2 < l.length := by
    have := (List.mem_zipIdx' hx).1
    rw [List.length_map] at this
    exact this
  have hm : x.2 ∈ ks := hp.mem_iff.mpr (List.mem_range.mpr hlt)
  have q := mem_take_iff (r := Kg88.rests total l) (n := l.length) (total - (l.map fun b => total * b / l.sum).sum) x.2 ho hm
  rw [perm_filter_length hp] at q
  congr 1
  by_cases c : x.2 ∈ ks.take (total - (l.map fun b => total * b / l.sum).sum)
  · rw [if_pos c, if_pos (q.mp c)]
  · rw [if_neg c, if_neg (fun z => c (q.mpr z))]
/-- one turn of the loop that hands out the missing units -/
def bump (low ks : List Nat) (t : Nat) : List Nat := low.zipIdx.map fun x => x.1 + if x.2 ∈ ks.take t then 1 else 0
theorem bump_length (low ks : List Nat) (t : Nat) : (bump low ks t).length = low.length := by
  unfold bump
  rw [List.length_map, List.length_zipIdx]
theorem bump_get (low ks : List Nat) (t i : Nat) : (bump low ks t)[i]? = (low[i]?).map fun b => b + if i ∈ ks.take t then 1 else 0 := by
  unfold bump
  rw [List.getElem?_map, List.getElem?_zipIdx]
  cases low[i]? with
  | none => rfl
  | some b => simp
theorem bump_zero (low ks : List Nat) : bump low ks 0 = low := by
  refine List.ext_getElem? fun i => ?_
  rw [bump_get]
  cases low[i]? with
  | none => rfl
  | some b => simp
theorem bump_step {low ks : List Nat} {t k : Nat} (nd : ks.Nodup) (hk : ks[t]? = some k) (hl : k < low.length) : ∃ v, (bump low ks t)[k]? = some v ∧ (bump low ks t).set k (v + 1) = bump low ks (t + 1) := by
  have hb : low[k]? = some low[k] := List.getElem?_eq_getElem hl
  have hn : k ∉ ks.take t := fun h => by
    obtain ⟨j, hj, e⟩ := List.mem_iff_getElem?.mp h |>.imp fun j e => (⟨(by
      have := (List.getElem?_eq_some_iff.mp e).1
      rw [List.length_take] at this
      omega : j < t), e⟩ : j < t ∧ _)
    rw [List.getElem?_take, if_pos hj] at e
    have h1 := (List.getElem?_eq_some_iff.mp e)
    have h2 := (List.getElem?_eq_some_iff.mp hk)
    exact List.pairwise_iff_getElem.mp nd j t h1.1 h2.1 hj (h1.2.trans h2.2.symm)
  refine ⟨low[k], ?_, ?_⟩
  · rw [bump_get, hb, if_neg hn]
    rfl
  · refine List.ext_getElem? fun i => ?_
    rw [List.getElem?_set, bump_get, bump_get, take_more hk, bump_length]
    by_cases e : k = i
    · subst e
      rw [if_pos rfl, if_pos hl, hb, if_pos (List.mem_append_right _ List.mem_cons_self)]
      rfl
    · rw [if_neg e]
      have : (i ∈ ks.take t ++ [k]) ↔ i ∈ ks.take t := by
        rw [List.mem_append, List.mem_singleton]
        constructor
        · rintro (q | q)
          · exact q
          · exact absurd q.symm e
        · exact .inl
      simp only [this]
theorem nodup_range_perm {ks : List Nat} {n : Nat} (h : ks.Perm (List.range n)) : ks.Nodup := h.nodup_iff.mpr List.nodup_range
/-! ### the sorted pairs as a list of places -/
theorem getD_rests {total : Nat} {l : List Nat} {i : Nat} (h : i < l.length) : (Kg88.rests total l).getD i 0 = total * l[i] % l.sum := by
  unfold Kg88.rests
  rw [List.getD_eq_getElem?_getD, List.getElem?_map, List.getElem?_eq_getElem h]
  rfl
/-- pairs (0 - rest, place), all of them, in order: their places are in the order of «ahead» -/
theorem places_of {total : Nat} {l : List Nat} {zs : List (Int × Int)} (hp : zs.Perm ((List.range l.length).map fun i => (0 - ((total * l.getD i 0 % l.sum : Nat) : Int), (i : Int))))
    (ho : zs.Pairwise fun x y => x.1 < y.1 ∨ (x.1 = y.1 ∧ x.2 ≤ y.2)) :
    (zs.map fun z => z.2.toNat).Perm (List.range l.length) ∧ (zs.map fun z => z.2.toNat).Pairwise fun a b => Kg88.ahead (Kg88.rests total l) a b = true := by
  have hp2 : (zs.map fun z => z.2.toNat).Perm (List.range l.length) := by
    have q := hp.map fun z : Int × Int => z.2.toNat
    rw [List.map_map] at q
    have e : ((fun z : Int × Int => z.2.toNat) ∘ fun i : Nat => (0 - ((total * l.getD i 0 % l.sum : Nat) : Int), (i : Int))) = id := funext fun i => by simp
    rw [e, List.map_id] at q
    exact q
  refine ⟨hp2, ?_⟩
  have nd := nodup_range_perm hp2
  have nd2 : zs.Pairwise fun x y => x.2.toNat ≠ y.2.toNat := List.pairwise_map.mp nd
  have sh : ∀ z ∈ zs, ∃ i, i < l.length ∧ z = (0 - ((total * l.getD i 0 % l.sum : Nat) : Int), (i : Int)) := fun z hz => by
    obtain ⟨i, hi, e⟩ := List.mem_map.mp (hp.mem_iff.mp hz)
    exact ⟨i, List.mem_range.mp hi, e.symm⟩
  refine List.pairwise_map.mpr ((ho.and nd2).imp_of_mem fun {x y} hx hy h => ?_)
  obtain ⟨i, hi, rfl⟩ := sh x hx
  obtain ⟨j, hj, rfl⟩ := sh y hy
  obtain ⟨h1, h2⟩ := h
  refine (ahead_iff _ _ _).mpr ?_
  simp only [Int.toNat_natCast] at h2 ⊢
  rw [getD_rests hi, getD_rests hj]
  have gi : l.getD i 0 = l[i] := by rw [List.getD_eq_getElem?_getD, List.getElem?_eq_getElem hi]; rfl
  have gj : l.getD j 0 = l[j] := by rw [List.getD_eq_getElem?_getD, List.getElem?_eq_getElem hj]; rfl
  simp only [gi, gj] at h1
  omega
end AvM

/-! Plain mathematics, part B: payments; the calls read off the list; the bounds stay. No program in sight. -/
namespace AvM
/-! ### payments -/
def payersOf (l : List Int) : List Nat := (List.range l.length).filter fun i => decide (0 < l.getD i 0)
def paidOf (l : List Int) : List Nat := (List.range l.length).filter fun i => decide (l.getD i 0 < 0)
theorem head_of (p : Int → Bool) (l : List Int) : ((List.range l.length).filter fun i => p (l.getD i 0)).head? = l.findIdx? p := by
  rw [List.head?_filter]
  cases e : l.findIdx? p with
  | none =>
    refine List.find?_eq_none.mpr fun i hi q => ?_
    have hl := List.mem_range.mp hi
    have := List.findIdx?_eq_none_iff.mp e l[i] (List.getElem_mem hl)
    rw [List.getD_eq_getElem?_getD, List.getElem?_eq_getElem hl] at q
    rw [show (some l[i]).getD 0 = l[i] from rfl, this] at q
    cases q
  | some i =>
    obtain ⟨hl, h1, h2⟩ := List.findIdx?_eq_some_iff_getElem.mp e
    refine List.find?_range_eq_some.mpr ⟨?_, List.mem_range.mpr hl, fun j hj => ?_⟩
    · rw [List.getD_eq_getElem?_getD, List.getElem?_eq_getElem hl]
      exact h1
    · have hlj : j < l.length := Nat.lt_trans hj hl
      rw [List.getD_eq_getElem?_getD, List.getElem?_eq_getElem hlj]
      have := h2 j hj
      show (!p l[j]) = true
      cases q : p l[j] with
      | false => rfl
      | true => exact absurd q this
theorem settle_stop (f : Nat) {l : List Int} (h : payersOf l = [] ∨ paidOf l = []) : Kg88.settle f l = [] := by
  cases f with
  | zero => rfl
  | succ f =>
    unfold Kg88.settle
    rcases h with h | h
    · have e := head_of (fun z => decide (0 < z)) l
      rw [show ((List.range l.length).filter fun i => (fun z : Int => decide (0 < z)) (l.getD i 0)) = [] from h] at e
      rw [← e]
      rfl
    · have e := head_of (fun z => decide (z < 0)) l
      rw [show ((List.range l.length).filter fun i => (fun z : Int => decide (z < 0)) (l.getD i 0)) = [] from h] at e
      rw [← e]
      cases (l.findIdx? fun z => decide (0 < z)) <;> rfl
/-- what a payment is: the lesser of both balances -/
def unit (l : List Int) (i j : Nat) : Int := if 0 - l.getD j 0 < l.getD i 0 then 0 - l.getD j 0 else l.getD i 0
def paidUp (l : List Int) (i j : Nat) : List Int := (l.set i (l.getD i 0 - unit l i j)).set j (l.getD j 0 + unit l i j)
structure Turn (l : List Int) (i j : Nat) : Prop where
  hi : i < l.length
  hj : j < l.length
  pi_ : 0 < l.getD i 0
  pj : l.getD j 0 < 0
theorem turn_of {l : List Int} {i j : Nat} {ps qs : List Nat} (h1 : payersOf l = i :: ps) (h2 : paidOf l = j :: qs) : Turn l i j := by
  have a : i ∈ payersOf l := by rw [h1]; exact List.mem_cons_self
  have b : j ∈ paidOf l := by rw [h2]; exact List.mem_cons_self
  obtain ⟨a1, a2⟩ := List.mem_filter.mp a
  obtain ⟨b1, b2⟩ := List.mem_filter.mp b
  exact ⟨List.mem_range.mp a1, List.mem_range.mp b1, of_decide_eq_true a2, of_decide_eq_true b2⟩
theorem Turn.ne {l : List Int} {i j : Nat} (T : Turn l i j) : i ≠ j := fun e => by
  have h1 := T.pi_
  have h2 := T.pj
  rw [e] at h1
  omega
theorem Turn.pos {l : List Int} {i j : Nat} (T : Turn l i j) : 0 < unit l i j := by
  have h1 := T.pi_
  have h2 := T.pj
  unfold unit
  split <;> omega
theorem paidUp_length (l : List Int) (i j : Nat) : (paidUp l i j).length = l.length := by
  unfold paidUp
  rw [List.length_set, List.length_set]
theorem paidUp_get {l : List Int} {i j : Nat} (T : Turn l i j) (k : Nat) : (paidUp l i j).getD k 0 = if k = j then l.getD j 0 + unit l i j else if k = i then l.getD i 0 - unit l i j else l.getD k 0 := by
  unfold paidUp
  rw [List.getD_eq_getElem?_getD, List.getElem?_set, List.length_set, List.getElem?_set]
  by_cases e : j = k
  · subst e
    rw [if_pos rfl, if_pos T.hj, if_pos rfl]
    rfl
  · rw [if_neg e, if_neg (Ne.symm e)]
    by_cases e2 : i = k
    · subst e2
      rw [if_pos rfl, if_pos T.hi, if_pos rfl]
      rfl
    · rw [if_neg e2, if_neg (Ne.symm e2), List.getD_eq_getElem?_getD]
theorem Turn.payers {l : List Int} {i j : Nat} (T : Turn l i j) : (payersOf l).filter (fun k => decide (0 < (paidUp l i j).getD k 0)) = payersOf (paidUp l i j) := by
  unfold payersOf
  rw [List.filter_filter, paidUp_length]
  refine List.filter_congr fun k _ => ?_
  have h1 := T.pi_
  have h2 := T.pj
  have hu : unit l i j ≤ - l.getD j 0 := by unfold unit; split <;> omega
  rw [paidUp_get T]
  by_cases e : k = j
  · subst e
    rw [if_pos rfl]
    rw [decide_eq_false (by omega : ¬ 0 < l.getD k 0 + unit l i k)]
    rfl
  · rw [if_neg e]
    by_cases e2 : k = i
    · subst e2
      rw [if_pos rfl, decide_eq_true h1, Bool.and_true]
    · rw [if_neg e2, Bool.and_self]
theorem Turn.paid {l : List Int} {i j : Nat} (T : Turn l i j) : (paidOf l).filter (fun k => decide ((paidUp l i j).getD k 0 < 0)) = paidOf (paidUp l i j) := by
  unfold paidOf
  rw [List.filter_filter, paidUp_length]
  refine List.filter_congr fun k _ => ?_
  have h1 := T.pi_
  have h2 := T.pj
  have hu : unit l i j ≤ l.getD i 0 := by unfold unit; split <;> omega
  rw [paidUp_get T]
  by_cases e : k = j
  · subst e
    rw [if_pos rfl, decide_eq_true h2, Bool.and_true]
  · rw [if_neg e]
    by_cases e2 : k = i
    · subst e2
      rw [if_pos rfl]
      rw [decide_eq_false (by omega : ¬ l.getD k 0 - unit l k j < 0)]
      rfl
    · rw [if_neg e2, Bool.and_self]
/-- how many balances are left -/
def open_ (l : List Int) : Nat := (payersOf l).length + (paidOf l).length
theorem Turn.fewer {l : List Int} {i j : Nat} (T : Turn l i j) : open_ (paidUp l i j) < open_ l := by
  have h1 := T.pi_
  have h2 := T.pj
  have a : (payersOf (paidUp l i j)).length ≤ (payersOf l).length := by rw [← T.payers]; exact List.length_filter_le _ _
  have b : (paidOf (paidUp l i j)).length ≤ (paidOf l).length := by rw [← T.paid]; exact List.length_filter_le _ _
  unfold open_
  by_cases c : 0 - l.getD j 0 < l.getD i 0
  · have hu : unit l i j = 0 - l.getD j 0 := if_pos c
    have b2 : (paidOf (paidUp l i j)).length < (paidOf l).length := by
      rw [← T.paid]
      refine List.length_filter_lt_length_iff_exists.mpr ⟨j, List.mem_filter.mpr ⟨List.mem_range.mpr T.hj, decide_eq_true h2⟩, ?_⟩
      rw [paidUp_get T, if_pos rfl, decide_eq_true_iff]
      omega
    omega
  · have hu : unit l i j = l.getD i 0 := if_neg c
    have a2 : (payersOf (paidUp l i j)).length < (payersOf l).length := by
      rw [← T.payers]
      refine List.length_filter_lt_length_iff_exists.mpr ⟨i, List.mem_filter.mpr ⟨List.mem_range.mpr T.hi, decide_eq_true h1⟩, ?_⟩
      rw [paidUp_get T, if_neg T.ne, if_pos rfl, decide_eq_true_iff]
      omega
    omega
theorem settle_turn (f : Nat) {l : List Int} {i j : Nat} {ps qs : List Nat} (h1 : payersOf l = i :: ps) (h2 : paidOf l = j :: qs) :
    Kg88.settle (f + 1) l = (i, j, (unit l i j).toNat) :: Kg88.settle f (paidUp l i j) := by
  have e1 := head_of (fun z => decide (0 < z)) l
  rw [show ((List.range l.length).filter fun i => (fun z : Int => decide (0 < z)) (l.getD i 0)) = i :: ps from h1] at e1
  have e2 := head_of (fun z => decide (z < 0)) l
  rw [show ((List.range l.length).filter fun i => (fun z : Int => decide (z < 0)) (l.getD i 0)) = j :: qs from h2] at e2
  have eu : min (l.getD i 0) (-(l.getD j 0)) = unit l i j := by
    unfold unit
    split <;> omega
  rw [Kg88.settle, ← e1, ← e2]
  show (i, j, (min (l.getD i 0) (-(l.getD j 0))).toNat) :: Kg88.settle f ((l.set i (l.getD i 0 - min (l.getD i 0) (-(l.getD j 0)))).set j (l.getD j 0 + min (l.getD i 0) (-(l.getD j 0)))) = _
  rw [eu]
  rfl
theorem filter_disjoint_length {α : Type} (p q : α → Bool) : ∀ (l : List α), (l.filter p).length + (l.filter q).length ≤ 2 * l.length := fun l => by
  have a := List.length_filter_le p l
  have b := List.length_filter_le q l
  omega
theorem open_le (l : List Int) : open_ l ≤ 2 * l.length := by
  have h := filter_disjoint_length (fun i => decide (0 < l.getD i 0)) (fun i => decide (l.getD i 0 < 0)) (List.range l.length)
  rw [List.length_range] at h
  exact h
theorem settle_length : ∀ (f : Nat) (l : List Int), (Kg88.settle f l).length ≤ f
  | 0, _ => Nat.le_refl _
  | f + 1, l => by
    cases e1 : payersOf l with
    | nil => rw [settle_stop _ (.inl e1)]; exact Nat.zero_le _
    | cons i ps =>
      cases e2 : paidOf l with
      | nil => rw [settle_stop _ (.inr e2)]; exact Nat.zero_le _
      | cons j qs =>
        rw [settle_turn f e1 e2, List.length_cons]
        exact Nat.succ_le_succ (settle_length f _)
/-! ### shapes -/
theorem shares_length (t : Nat) (l : List Nat) : (Kg88.shares t l).length = l.length := by
  unfold Kg88.shares
  split
  · rw [List.length_map]
  · rw [List.length_map, List.length_zipIdx, List.length_map]
theorem contributions_length (s : Kg88.State) : s.contributions.length = s.interests.length := by
  unfold Kg88.State.contributions
  rw [shares_length]
  unfold Kg88.State.bases
  rw [List.length_map]
theorem balances_length (s : Kg88.State) : s.balances.length = s.interests.length := by
  unfold Kg88.State.balances
  rw [List.length_map, List.length_zipIdx, contributions_length]
theorem balances_get (s : Kg88.State) (i : Nat) : s.balances[i]? = (s.contributions[i]?).map fun c => (c : Int) - (s.credit i : Int) := by
  unfold Kg88.State.balances
  rw [List.getElem?_map, List.getElem?_zipIdx]
  cases s.contributions[i]? with
  | none => rfl
  | some b => simp
/-- the missing units: no less than 0 -/
theorem low_sum_le (total : Nat) (l : List Nat) : (l.map fun b => total * b / l.sum).sum ≤ total := by
  by_cases h : l.sum = 0
  · rw [h]
    have : (l.map fun b => total * b / 0) = l.map fun _ => 0 := List.map_congr_left fun _ _ => Nat.div_zero _
    rw [this]
    have := sum_le (fun _ : Nat => 0) 0 l fun _ _ => Nat.le_refl _
    omega
  · have key : ∀ k : List Nat, (k.map fun b => total * b / l.sum).sum * l.sum ≤ total * k.sum := fun k => by
      induction k with
      | nil => simp
      | cons x r ih =>
        rw [List.map_cons, List.sum_cons, List.sum_cons, Nat.add_mul, Nat.mul_add]
        exact Nat.add_le_add (Nat.div_mul_le_self _ _) ih
    exact Nat.le_of_mul_le_mul_right (key l) (Nat.pos_of_ne_zero h)
/-! ### the calls read off the list -/
theorem whole_id (c : List (List Int)) : PyKg88.whole c = c := by
  unfold PyKg88.whole
  split <;> rfl
theorem shape_rows {p : Int} {n k : Nat} (h : PyKg88.shape p = some (n, k)) : k = 0 := by
  unfold PyKg88.shape at h
  repeat' split at h
  all_goals first
    | (cases h; done)
    | (injection h with h; injection h with _ h; exact h.symm)
theorem calls_cons {f : Nat} {p : Int} {r : List Int} {cs : List (List (List Int))} (h : PyFlat.calls PyKg88.shape f (p :: r) = some cs) :
    ∃ n f' cs', PyKg88.shape p = some (n, 0) ∧ n ≤ r.length ∧ cs = [p :: r.take n] :: cs' ∧ PyFlat.calls PyKg88.shape f' (r.drop n) = some cs' := by
  cases f with
  | zero => cases h
  | succ f =>
    unfold PyFlat.calls at h
    cases e : PyFlat.call PyKg88.shape (p :: r) with
    | none => rw [e] at h; cases h
    | some ct =>
      obtain ⟨c, t⟩ := ct
      rw [e] at h
      simp only at h
      rw [PyFlat.call] at e
      cases es : PyKg88.shape p with
      | none => rw [es] at e; cases e
      | some nk =>
        obtain ⟨n, k⟩ := nk
        obtain rfl := shape_rows es
        rw [es] at e
        simp only at e
        by_cases hl : r.length < n
        · rw [if_pos hl] at e
          cases e
        · rw [if_neg hl] at e
          have e' : some ((p :: r.take n) :: ([] : List (List Int)), r.drop n) = some (c, t) := e
          injection e' with e'
          injection e' with e1 e2
          subst e1 e2
          cases ec : PyFlat.calls PyKg88.shape f (r.drop n) with
          | none => rw [ec] at h; cases h
          | some cs' =>
            rw [ec] at h
            simp only at h
            injection h with h
            exact ⟨n, f, cs', rfl, by omega, h.symm, ec⟩
theorem calls_nil {f : Nat} {cs : List (List (List Int))} (h : PyFlat.calls PyKg88.shape f [] = some cs) : cs = [] := by
  cases f <;> (unfold PyFlat.calls at h; injection h with h; exact h.symm)
def toldFrom (s : Kg88.State) (cs : List (List (List Int))) : List Int := PyFlat.told (PyFlat.played Kg88Neutral.step s cs)
theorem told_cons (s : Kg88.State) (c : List (List Int)) (cs : List (List (List Int))) :
    toldFrom s (c :: cs) = ((Kg88Neutral.step s c).2.length : Int) :: ((Kg88Neutral.step s c).2 ++ toldFrom (Kg88Neutral.step s c).1 cs) := by
  unfold toldFrom PyFlat.told
  rw [PyFlat.played, List.flatMap_cons]
  rfl
theorem answers_eq {l : List Int} {cs : List (List (List Int))} (h : PyFlat.calls PyKg88.shape l.length l = some cs) : PyKg88.answers l = toldFrom Kg88.init cs := by
  unfold PyKg88.answers PyKg88.calls
  rw [h]
  simp only
  have e : cs.map PyKg88.whole = cs := by
    have : PyKg88.whole = id := funext whole_id
    rw [this, List.map_id]
  rw [e]
  rfl
theorem asked_of {l : List Int} (h : PyKg88.answers_asked l = true) : ∃ cs, PyFlat.calls PyKg88.shape l.length l = some cs ∧ (PyKg88.answers l).length ≤ 10000000 := by
  unfold PyKg88.answers_asked at h
  cases e : PyFlat.calls PyKg88.shape l.length l with
  | none => rw [e] at h; cases h
  | some cs =>
    rw [e] at h
    simp only at h
    rw [Bool.and_eq_true] at h
    exact ⟨cs, rfl, of_decide_eq_true h.2⟩
/-! ### the bounds stay -/
theorem within_iff {z lo hi : Int} : Kg88.within z lo hi = true ↔ lo ≤ z ∧ z ≤ hi := by
  unfold Kg88.within
  rw [Bool.and_eq_true, decide_eq_true_iff, decide_eq_true_iff]
theorem mem_set_of {α : Type} {l : List α} {i : Nat} {x y : α} (h : y ∈ l.set i x) : y ∈ l ∨ y = x := List.mem_or_eq_of_mem_set h
theorem wf_init : Wf Kg88.init := ⟨by decide, by decide, by decide, (fun x h => by cases h), (fun e h => by cases h), fun _ => rfl⟩
theorem wf_begin {p : Int} (h : Kg88.within p 0 10 = true) : Wf ⟨p.toNat, [], [], true⟩ := by
  have q := within_iff.mp h
  exact ⟨by show p.toNat ≤ 10; omega, by show 0 ≤ 20; decide, by show 0 ≤ 30; decide, (fun x h => by cases h), (fun e h => by cases h), fun z => by cases z⟩
theorem wf_put {s : Kg88.State} (W : Wf s) {i : Nat} {x y : Kg88.Interest} (hx : s.interests[i]? = some x) (hy : WfI y) : Wf (Kg88.put s i y) := by
  refine ⟨W.com, by show (s.interests.set i y).length ≤ 20; rw [List.length_set]; exact W.ilen, W.elen, fun z hz => ?_, W.wexp, fun hb => ?_⟩
  · rcases mem_set_of (show z ∈ s.interests.set i y from hz) with q | q
    · exact W.wint z q
    · rw [q]; exact hy
  · rw [W.none_ hb] at hx
    cases hx
theorem wfi_of {s : Kg88.State} (W : Wf s) {i : Nat} {x : Kg88.Interest} (hx : s.interests[i]? = some x) : WfI x := W.wint x (List.mem_of_getElem? hx)
theorem wfi_lose {x : Kg88.Interest} (W : WfI x) {n : Int} (h : Kg88.within n 0 Kg88.MOST = true) (h2 : ¬ (x.value : Int) < n) : WfI { x with lost := n.toNat } := by
  have q := within_iff.mp h
  exact ⟨W.vlo, W.vhi, W.dlo, W.dhi, by show n.toNat ≤ x.value; omega, W.given⟩
theorem wfi_give {x : Kg88.Interest} (W : WfI x) {n : Int} (h : Kg88.within n 0 Kg88.MOST = true) : WfI { x with given := n.toNat } := by
  have q := within_iff.mp h
  unfold Kg88.MOST at q
  exact ⟨W.vlo, W.vhi, W.dlo, W.dhi, W.lost, by show n.toNat ≤ 1000000000; omega⟩
theorem wfi_new {v d k e : Int} (hv : Kg88.within v 1 Kg88.MOST = true) (hd : Kg88.within d 1 Kg88.MOST = true) : WfI ⟨v.toNat, d.toNat, 0, 0, k == 1, e == 1⟩ := by
  have q := within_iff.mp hv
  have q2 := within_iff.mp hd
  unfold Kg88.MOST at q q2
  exact ⟨by show 1 ≤ v.toNat; omega, by show v.toNat ≤ 1000000000; omega, by show 1 ≤ d.toNat; omega, by show d.toNat ≤ 1000000000; omega, Nat.zero_le _, Nat.zero_le _⟩
theorem wf_interest {s : Kg88.State} (W : Wf s) {y : Kg88.Interest} (hy : WfI y) (hb : s.begun = true) (hl : ¬ 20 ≤ s.interests.length) : Wf { s with interests := s.interests ++ [y] } := by
  refine ⟨W.com, by show (s.interests ++ [y]).length ≤ 20; rw [List.length_append, List.length_singleton]; omega, W.elen, fun z hz => ?_, W.wexp, fun q => ?_⟩
  · rcases List.mem_append.mp hz with q | q
    · exact W.wint z q
    · rw [List.mem_singleton.mp q]; exact hy
  · rw [show s.begun = false from q] at hb
    cases hb
theorem wf_expense {s : Kg88.State} (W : Wf s) {e : Kg88.Expense} (he : e.amount ≤ 1000000000) (hl : ¬ 30 ≤ s.expenses.length) : Wf { s with expenses := s.expenses ++ [e] } := by
  refine ⟨W.com, W.ilen, by show (s.expenses ++ [e]).length ≤ 30; rw [List.length_append, List.length_singleton]; omega, W.wint, fun z hz => ?_, W.none_⟩
  rcases List.mem_append.mp hz with q | q
  · exact W.wexp z q
  · rw [List.mem_singleton.mp q]; exact he
theorem onOne_none {s : Kg88.State} {i : Int} {f : Nat → Kg88.Interest → Kg88.State × Kg88.Ans} (h : i < 0 ∨ s.interests.length ≤ i.toNat) : Kg88.onOne s i f = (s, Kg88.num (-1)) := by
  unfold Kg88.onOne
  by_cases c : i < 0
  · rw [if_pos c]
  · rw [if_neg c, List.getElem?_eq_none (by omega)]
theorem onOne_some {s : Kg88.State} {i : Int} {k : Nat} {x : Kg88.Interest} {f : Nat → Kg88.Interest → Kg88.State × Kg88.Ans} (h : i = (k : Int)) (hx : s.interests[k]? = some x) : Kg88.onOne s i f = f k x := by
  subst h
  unfold Kg88.onOne
  rw [if_neg (by omega), Int.toNat_natCast, hx]
theorem onOne_cases (s : Kg88.State) (i : Int) : (i < 0 ∨ s.interests.length ≤ i.toNat) ∨ ∃ k x, i = ((k : Nat) : Int) ∧ s.interests[k]? = some x := by
  by_cases c : i < 0 ∨ s.interests.length ≤ i.toNat
  · exact .inl c
  · have h1 : ¬ i < 0 := fun q => c (.inl q)
    have h2 : i.toNat < s.interests.length := Nat.lt_of_not_le fun q => c (.inr q)
    exact .inr ⟨i.toNat, s.interests[i.toNat], by omega, List.getElem?_eq_getElem h2⟩
theorem wf_spec {s : Kg88.State} (W : Wf s) (c : Kg88.Call) : Wf (Kg88.spec s c).1 := by
  cases c with
  | begin_ p =>
    show Wf (if Kg88.within p 0 10 = false then (s, Kg88.num (-1)) else (⟨p.toNat, [], [], true⟩, Kg88.num 0)).1
    cases e : Kg88.within p 0 10 with
    | false => exact W
    | true => exact wf_begin e
  | interest v d k e =>
    unfold Kg88.spec
    simp only
    cases e1 : (Kg88.within v 1 Kg88.MOST && (Kg88.within d 1 Kg88.MOST && (Kg88.within k 0 1 && Kg88.within e 0 1))) with
    | false => exact W
    | true =>
      rw [Bool.and_eq_true, Bool.and_eq_true] at e1
      rw [if_neg (by decide)]
      cases e2 : s.begun with
      | false => exact W
      | true =>
        rw [if_neg (by decide)]
        by_cases c : 20 ≤ s.interests.length
        · rw [if_pos c]; exact W
        · rw [if_neg c]
          have q := wf_interest W (wfi_new (k := k) (e := e) e1.1 e1.2.1) e2 c
          rw [e2] at q
          exact q
  | lose i n =>
    unfold Kg88.spec
    simp only
    rcases onOne_cases s i with h | ⟨k, x, e, hx⟩
    · rw [onOne_none h]; exact W
    · rw [onOne_some e hx]
      cases e1 : Kg88.within n 0 Kg88.MOST with
      | false => exact W
      | true =>
        rw [if_neg (by decide)]
        by_cases c : (x.value : Int) < n
        · rw [if_pos c]; exact W
        · rw [if_neg c]
          exact wf_put W hx (wfi_lose (wfi_of W hx) e1 c)
  | give i n =>
    unfold Kg88.spec
    simp only
    rcases onOne_cases s i with h | ⟨k, x, e, hx⟩
    · rw [onOne_none h]; exact W
    · rw [onOne_some e hx]
      cases e1 : Kg88.within n 0 Kg88.MOST with
      | false => exact W
      | true =>
        rw [if_neg (by decide)]
        by_cases c : (x.value : Int) < (x.lost : Int) + n
        · rw [if_pos c]; exact W
        · rw [if_neg c]
          exact wf_put W hx (wfi_give (wfi_of W hx) e1)
  | expense n p i =>
    unfold Kg88.spec
    simp only
    cases e1 : (Kg88.within n 1 Kg88.MOST && (Kg88.within p 0 ((s.interests.length : Int) - 1) && Kg88.within i (-1) Kg88.MOST)) with
    | false => exact W
    | true =>
      rw [Bool.and_eq_true, Bool.and_eq_true] at e1
      rw [if_neg (by decide)]
      by_cases c : 30 ≤ s.expenses.length
      · rw [if_pos c]; exact W
      · rw [if_neg c]
        have q := within_iff.mp e1.1
        unfold Kg88.MOST at q
        exact wf_expense W (by show n.toNat ≤ 1000000000; omega) c
  | sums =>
    unfold Kg88.spec
    simp only
    split <;> exact W
  | one i =>
    unfold Kg88.spec
    simp only
    rcases onOne_cases s i with h | ⟨k, x, e, hx⟩
    · rw [onOne_none h]; exact W
    · rw [onOne_some e hx]; exact W
  | adjust =>
    unfold Kg88.spec
    simp only
    split
    · exact W
    · split <;> exact W
  | transfers =>
    unfold Kg88.spec
    simp only
    split
    · exact W
    · split <;> exact W
  | rate =>
    unfold Kg88.spec
    simp only
    split
    · exact W
    · split <;> exact W
theorem wf_step {s : Kg88.State} (W : Wf s) (c : List (List Int)) : Wf (Kg88Neutral.step s c).1 := by
  unfold Kg88Neutral.step
  split
  · exact wf_spec W _
  · exact W
end AvM

namespace Av
open PySem PySem.Spec PyProof.Rows L2
open AvM (Wf WfI)
/-! ### the text by places -/
def top (i : Nat) : Stmt := PySem.Challenge.pw_averagesea_s01_answers.main.body.getD i (.Pass ⟨0, 0, 0, 0⟩)
abbrev sInitI : Stmt := inClass (top 6) 0
abbrev sInitE : Stmt := inClass (top 7) 0
abbrev sInitA : Stmt := inClass (top 8) 0
abbrev sWithin : Stmt := top 9
abbrev sCounted : Stmt := top 10
abbrev sLeftOf : Stmt := top 11
abbrev sMadeGood : Stmt := top 12
abbrev sContributesBy : Stmt := top 13
abbrev sAllowedFor : Stmt := top 14
abbrev sAllGood : Stmt := top 15
abbrev sAllAllowed : Stmt := top 16
abbrev sShared : Stmt := top 17
abbrev sAllBy : Stmt := top 18
abbrev sCan : Stmt := top 19
abbrev sContributions : Stmt := top 20
abbrev sOwed : Stmt := top 21
abbrev sBalances : Stmt := top 22
abbrev sPayments : Stmt := top 23
abbrev sInitD : Stmt := inClass (top 32) 0
abbrev sBegin : Stmt := top 33
abbrev sPutInterest : Stmt := top 34
abbrev sIsInterest : Stmt := top 35
abbrev sStands : Stmt := top 36
abbrev sLose : Stmt := top 37
abbrev sGive : Stmt := top 38
abbrev sPutExpense : Stmt := top 39
abbrev sSums : Stmt := top 40
abbrev sOne : Stmt := top 41
abbrev sAdjust : Stmt := top 42
abbrev sTransfers : Stmt := top 43
abbrev sAdjusted : Stmt := top 44
abbrev sAnswered : Stmt := top 45
abbrev sAnswers : Stmt := top 46
/-! ### attributes -/
theorem lk_here {k : Str} {v : V} {r : List (Str × V)} : List.lookup k ((k, v) :: r) = some v := by
  have e : (k == k) = true := beq_self_eq_true k
  simp only [List.lookup, e]
theorem lk_past {k g : Str} {v : V} {r : List (Str × V)} (h : (k == g) = false) : List.lookup k ((g, v) :: r) = List.lookup k r := by
  simp only [List.lookup, h]
theorem put_here {f : Str} {v x : V} {r : List (Str × V)} : putF f v ((f, x) :: r) = (f, v) :: r := if_pos rfl
theorem put_past {f g : Str} {v x : V} {r : List (Str × V)} (h : ¬ g = f) : putF f v ((g, x) :: r) = (g, x) :: putF f v r := if_neg h
/-- an interest's, as __init__ sets them -/
def iF (x : Kg88.Interest) : List (Str × V) := [("value", .int x.value), ("declared", .int x.declared), ("on_deck", .bl x.deck), ("is_exempt", .bl x.exempt), ("lost", .int x.lost), ("given", .int x.given)]
def eF (p a : Int) : List (Str × V) := [("payer", .int p), ("allowed", .int a)]
def aF (c : Int) (li le : Addr) : List (Str × V) := [("hundredths", .int c), ("interests", .ref li), ("expenses", .ref le)]
def dF (v : V) : List (Str × V) := [("average", v)]
theorem iF_value (x : Kg88.Interest) : (iF x).lookup ("value" : Str) = some (.int x.value) := lk_here
theorem iF_declared (x : Kg88.Interest) : (iF x).lookup ("declared" : Str) = some (.int x.declared) := (lk_past (by decide +kernel)).trans lk_here
theorem iF_deck (x : Kg88.Interest) : (iF x).lookup ("on_deck" : Str) = some (.bl x.deck) := (lk_past (by decide +kernel)).trans ((lk_past (by decide +kernel)).trans lk_here)
theorem iF_exempt (x : Kg88.Interest) : (iF x).lookup ("is_exempt" : Str) = some (.bl x.exempt) := (lk_past (by decide +kernel)).trans ((lk_past (by decide +kernel)).trans ((lk_past (by decide +kernel)).trans lk_here))
theorem iF_lost (x : Kg88.Interest) : (iF x).lookup ("lost" : Str) = some (.int x.lost) := (lk_past (by decide +kernel)).trans ((lk_past (by decide +kernel)).trans ((lk_past (by decide +kernel)).trans ((lk_past (by decide +kernel)).trans lk_here)))
theorem iF_given (x : Kg88.Interest) : (iF x).lookup ("given" : Str) = some (.int x.given) := (lk_past (by decide +kernel)).trans ((lk_past (by decide +kernel)).trans ((lk_past (by decide +kernel)).trans ((lk_past (by decide +kernel)).trans ((lk_past (by decide +kernel)).trans lk_here))))
theorem iF_putLost (x : Kg88.Interest) (n : Nat) : putF "lost" (.int n) (iF x) = iF { x with lost := n } :=
  (put_past (by decide +kernel)).trans (congrArg _ ((put_past (by decide +kernel)).trans (congrArg _ ((put_past (by decide +kernel)).trans (congrArg _ ((put_past (by decide +kernel)).trans (congrArg _ put_here)))))))
theorem iF_putGiven (x : Kg88.Interest) (n : Nat) : putF "given" (.int n) (iF x) = iF { x with given := n } :=
  (put_past (by decide +kernel)).trans (congrArg _ ((put_past (by decide +kernel)).trans (congrArg _ ((put_past (by decide +kernel)).trans (congrArg _ ((put_past (by decide +kernel)).trans (congrArg _ ((put_past (by decide +kernel)).trans (congrArg _ put_here)))))))))
theorem put_nil {f : Str} {v : V} : putF f v [] = [(f, v)] := rfl
theorem put_2 {a f : Str} {x v : V} (h1 : ¬ a = f) : putF f v [(a, x)] = [(a, x), (f, v)] := put_past h1
theorem put_3 {a b f : Str} {x y v : V} (h1 : ¬ a = f) (h2 : ¬ b = f) : putF f v [(a, x), (b, y)] = [(a, x), (b, y), (f, v)] := (put_past h1).trans (congrArg _ (put_2 h2))
theorem put_4 {a b c f : Str} {x y z v : V} (h1 : ¬ a = f) (h2 : ¬ b = f) (h3 : ¬ c = f) : putF f v [(a, x), (b, y), (c, z)] = [(a, x), (b, y), (c, z), (f, v)] := (put_past h1).trans (congrArg _ (put_3 h2 h3))
theorem put_5 {a b c d f : Str} {x y z u v : V} (h1 : ¬ a = f) (h2 : ¬ b = f) (h3 : ¬ c = f) (h4 : ¬ d = f) : putF f v [(a, x), (b, y), (c, z), (d, u)] = [(a, x), (b, y), (c, z), (d, u), (f, v)] := (put_past h1).trans (congrArg _ (put_4 h2 h3 h4))
theorem put_6 {a b c d e f : Str} {x y z u t v : V} (h1 : ¬ a = f) (h2 : ¬ b = f) (h3 : ¬ c = f) (h4 : ¬ d = f) (h5 : ¬ e = f) : putF f v [(a, x), (b, y), (c, z), (d, u), (e, t)] = [(a, x), (b, y), (c, z), (d, u), (e, t), (f, v)] := (put_past h1).trans (congrArg _ (put_5 h2 h3 h4 h5))
theorem iF_new (v d : Int) (k e : V) : putF "given" (.int 0) (putF "lost" (.int 0) (putF "is_exempt" e (putF "on_deck" k (putF "declared" (.int d) (putF "value" (.int v) []))))) =
    [(("value" : Str), V.int v), ("declared", .int d), ("on_deck", k), ("is_exempt", e), ("lost", .int 0), ("given", .int 0)] := by
  rw [put_nil, put_2 (by decide +kernel), put_3 (by decide +kernel) (by decide +kernel), put_4 (by decide +kernel) (by decide +kernel) (by decide +kernel), put_5 (by decide +kernel) (by decide +kernel) (by decide +kernel) (by decide +kernel),
    put_6 (by decide +kernel) (by decide +kernel) (by decide +kernel) (by decide +kernel) (by decide +kernel)]
theorem eF_payer (p a : Int) : (eF p a).lookup ("payer" : Str) = some (.int p) := lk_here
theorem eF_allowed (p a : Int) : (eF p a).lookup ("allowed" : Str) = some (.int a) := (lk_past (by decide +kernel)).trans lk_here
theorem eF_new (p a : Int) : putF "allowed" (.int a) (putF "payer" (.int p) []) = eF p a := (put_past (by decide +kernel)).trans rfl
theorem aF_h (c : Int) (li le : Addr) : (aF c li le).lookup ("hundredths" : Str) = some (.int c) := lk_here
theorem aF_i (c : Int) (li le : Addr) : (aF c li le).lookup ("interests" : Str) = some (.ref li) := (lk_past (by decide +kernel)).trans lk_here
theorem aF_e (c : Int) (li le : Addr) : (aF c li le).lookup ("expenses" : Str) = some (.ref le) := (lk_past (by decide +kernel)).trans ((lk_past (by decide +kernel)).trans lk_here)
theorem aF_new (c : Int) (li le : Addr) : putF "expenses" (.ref le) (putF "interests" (.ref li) (putF "hundredths" (.int c) [])) = aF c li le := by
  rw [put_nil, put_2 (by decide +kernel), put_3 (by decide +kernel) (by decide +kernel)]
  rfl
theorem dF_av (v : V) : (dF v).lookup ("average" : Str) = some v := lk_here
theorem dF_put (v u : V) : putF "average" u (dF v) = dF u := put_here
/-! ### the heap -/
theorem same_upd {H : Hp} {p : Addr} {o : HO} (h : H p = none) : Same H (upd H p o) := fun b x e => by
  rw [upd_ne (ne_of_none e h)]
  exact e
def IntAt (CI : Addr) (H : Hp) (a : Addr) (x : Kg88.Interest) : Prop := ∃ dx, H a = some (.ins CI dx (iF x))
def ExpAt (CE : Addr) (H : Hp) (a : Addr) (p n : Int) : Prop := ∃ dx, H a = some (.ins CE dx (eF p n))
theorem IntAt.same {CI a : Addr} {H H' : Hp} {x : Kg88.Interest} (h : IntAt CI H a x) (s : Same H H') : IntAt CI H' a x := let ⟨dx, e⟩ := h; ⟨dx, s _ _ e⟩
theorem ExpAt.same {CE a : Addr} {H H' : Hp} {p n : Int} (h : ExpAt CE H a p n) (s : Same H H') : ExpAt CE H' a p n := let ⟨dx, e⟩ := h; ⟨dx, s _ _ e⟩
/-- the classes' addresses -/
structure Cs where
  i : Addr
  e : Addr
  a : Addr
  d : Addr
/-- an average stands at a: its lists at li, le, which hold the instances at is, es -/
structure AvAt (C : Cs) (H : Hp) (a : Addr) (s : Kg88.State) (li le : Addr) (is es : List Addr) : Prop where
  ins : ∃ dx, H a = some (.ins C.a dx (aF s.commission li le))
  il : H li = some (.lst (is.map V.ref))
  el : H le = some (.lst (es.map V.ref))
  ilen : is.length = s.interests.length
  elen : es.length = s.expenses.length
  iat : ∀ (j : Nat) (i : Addr) (x : Kg88.Interest), is[j]? = some i → s.interests[j]? = some x → IntAt C.i H i x
  eat : ∀ (j : Nat) (i : Addr) (e : Kg88.Expense), es[j]? = some i → s.expenses[j]? = some e → ExpAt C.e H i e.payer (s.allowed e)
theorem AvAt.same {C : Cs} {H H' : Hp} {a li le : Addr} {s : Kg88.State} {is es : List Addr} (h : AvAt C H a s li le is es) (z : Same H H') : AvAt C H' a s li le is es :=
  ⟨h.ins.imp fun _ e => z _ _ e, z _ _ h.il, z _ _ h.el, h.ilen, h.elen, fun j i x e1 e2 => (h.iat j i x e1 e2).same z, fun j i e e1 e2 => (h.eat j i e e1 e2).same z⟩
theorem AvAt.int {C : Cs} {H : Hp} {a li le : Addr} {s : Kg88.State} {is es : List Addr} (h : AvAt C H a s li le is es) {j : Nat} {i : Addr} (e : is[j]? = some i) : ∃ x, s.interests[j]? = some x ∧ IntAt C.i H i x := by
  have hl : j < s.interests.length := by rw [← h.ilen]; exact (List.getElem?_eq_some_iff.mp e).1
  exact ⟨_, List.getElem?_eq_getElem hl, h.iat j i _ e (List.getElem?_eq_getElem hl)⟩
theorem AvAt.exp {C : Cs} {H : Hp} {a li le : Addr} {s : Kg88.State} {is es : List Addr} (h : AvAt C H a s li le is es) {j : Nat} {i : Addr} (e : es[j]? = some i) : ∃ x, s.expenses[j]? = some x ∧ ExpAt C.e H i x.payer (s.allowed x) := by
  have hl : j < s.expenses.length := by rw [← h.elen]; exact (List.getElem?_eq_some_iff.mp e).1
  exact ⟨_, List.getElem?_eq_getElem hl, h.eat j i _ e (List.getElem?_eq_getElem hl)⟩
theorem map_at {α : Type} {f : α → V} {l : List α} {i : Nat} {y : V} (h : (l.map f)[i]? = some y) : ∃ z, l[i]? = some z ∧ y = f z := by
  rw [List.getElem?_map] at h
  cases e : l[i]? with
  | none =>
    rw [e] at h
    cases h
  | some z =>
    rw [e] at h
    exact ⟨z, rfl, (Option.some.inj h).symm⟩
/-! ### what the top has written -/
structure Txt (K : PySem.W.Frag) (mg : Str → Option Value) (C : Cs) : Prop where
  clI : Cls K C.i
  clE : Cls K C.e
  clA : Cls K C.a
  clD : Cls K C.d
  i_value : NoAttr K C.i "value"
  i_declared : NoAttr K C.i "declared"
  i_deck : NoAttr K C.i "on_deck"
  i_exempt : NoAttr K C.i "is_exempt"
  i_lost : NoAttr K C.i "lost"
  i_given : NoAttr K C.i "given"
  e_payer : NoAttr K C.e "payer"
  e_allowed : NoAttr K C.e "allowed"
  a_h : NoAttr K C.a "hundredths"
  a_i : NoAttr K C.a "interests"
  a_e : NoAttr K C.a "expenses"
  d_a : NoAttr K C.d "average"
  gI : mg "Interest" = some (.ref C.i)
  gE : mg "Expense" = some (.ref C.e)
  gA : mg "Average" = some (.ref C.a)
  gD : mg "Desk" = some (.ref C.d)
  min : mg "min" = none
  sum : mg "sum" = none
  sorted : mg "sorted" = none
  range : mg "range" = none
  len : mg "len" = none
  zip : mg "zip" = none
  cMI : ∃ t, mg "MOST_INTERESTS" = some (.int 20 t)
  cME : ∃ t, mg "MOST_EXPENSES" = some (.int 30 t)
  cMH : ∃ t, mg "MOST_HUNDREDTHS" = some (.int 10 t)
  cMU : ∃ t, mg "MOST_UNITS" = some (.int 1000000000 t)
  cNT : ∃ t, mg "NOT_TOLD" = some (.int (-1) t)
  cNR : ∃ t, mg "NOT_RIGHT" = some (.int (-1) t)
  cNA : ∃ t, mg "NO_AVERAGE" = some (.int (-2) t)
  cTM : ∃ t, mg "TOO_MUCH" = some (.int (-4) t)
  cFU : ∃ t, mg "FULL" = some (.int (-5) t)
  cCA : ∃ t, mg "CANNOT" = some (.int (-6) t)
  cRA : ∃ t, mg "RATE" = some (.int 10000 t)
/-- a def of the module as it stands behind the top -/
structure DefAt (K : PySem.W.Frag) (mg : Str → Option Value) (x : Str) (st : Stmt) (ps : List Str) : Prop where
  ex : ∃ f fd, Fun K x x st f fd ∧ Binds K fd ps [] ∧ mg x = some (.ref f)
/-- a class's __init__ -/
structure InitAt (K : PySem.W.Frag) (qual : Str) (st : Stmt) (C : Addr) (ps : List Str) : Prop where
  ex : ∃ f fd, Fun K "__init__" qual st f fd ∧ Binds K fd ps [] ∧ Mk K C f
/-- the def of that name keeps its promise -/
def Has (P : Program) (w : World) (K : PySem.W.Frag) (mg : Str → Option Value) (base : Heap) (k : Nat) (x : Str) (ps : List Str) (sp : Sp) : Prop :=
  ∃ f fd, FnOk P w K mg base CX0 k f fd ps sp ∧ Binds K fd ps [] ∧ mg x = some (.ref f) ∧ PySem.W.keepIn K (.ref f) = true
def HasI (P : Program) (w : World) (K : PySem.W.Frag) (mg : Str → Option Value) (base : Heap) (k : Nat) (C : Addr) (ps : List Str) (sp : Sp) : Prop :=
  ∃ f fd, FnOk P w K mg base CX0 k f fd ps sp ∧ Binds K fd ps [] ∧ Mk K C f
/-! ### promises -/
def spInitI (C : Cs) : Sp := fun vs H Q _ => ∃ (p dx : Addr) (v d : Int) (k e : Bool), vs = [.ref p, .int v, .int d, .bl k, .bl e] ∧ H p = some (.ins C.i dx []) ∧
  Q .non (upd H p (.ins C.i dx [("value", .int v), ("declared", .int d), ("on_deck", .bl k), ("is_exempt", .bl e), ("lost", .int 0), ("given", .int 0)]))
def spInitE (C : Cs) : Sp := fun vs H Q _ => ∃ (p dx : Addr) (n a : Int), vs = [.ref p, .int n, .int a] ∧ H p = some (.ins C.e dx []) ∧ Q .non (upd H p (.ins C.e dx (eF n a)))
def spInitA (C : Cs) : Sp := fun vs H Q _ => ∃ (p dx : Addr) (c : Int), vs = [.ref p, .int c] ∧ H p = some (.ins C.a dx []) ∧
  ∀ H' li le, H' p = some (.ins C.a dx (aF c li le)) → H' li = some (.lst []) → H' le = some (.lst []) → li ≠ le → H li = none → H le = none → (∀ b o, b ≠ p → H b = some o → H' b = some o) → Q .non H'
def spInitD (C : Cs) : Sp := fun vs H Q _ => ∃ (p dx : Addr), vs = [.ref p] ∧ H p = some (.ins C.d dx []) ∧ Q .non (upd H p (.ins C.d dx (dF .non)))
def spWithin : Sp := fun vs H Q _ => ∃ z lo hi : Int, vs = [.int z, .int lo, .int hi] ∧ Q (.bl (Kg88.within z lo hi)) H
/-- a def of one interest that gives a number -/
def spI (C : Cs) (f : Kg88.Interest → Nat) : Sp := fun vs H Q _ => ∃ (a : Addr) (x : Kg88.Interest), vs = [.ref a] ∧ IntAt C.i H a x ∧ WfI x ∧ Q (.int (f x)) H
section
variable {P : Program} {w : World} {K : PySem.W.Frag} {mg : Str → Option Value} {base : Heap} {C : Cs}
theorem scInitI : FnScope ["self", "value", "declared", "on_deck", "is_exempt"] ["self", "value", "declared", "on_deck", "is_exempt"] (defScope sInitI) := ⟨rfl, rfl, rfl, by decide +kernel, rfl, by decide +kernel, by decide +kernel⟩
theorem ok_initI (D : InitAt K "Interest.__init__" sInitI C.i ["self", "value", "declared", "on_deck", "is_exempt"]) (T : Txt K mg C) : HasI P w K mg base 1 C.i ["self", "value", "declared", "on_deck", "is_exempt"] (spInitI C) := by
  obtain ⟨f, fd, F, b, M⟩ := D.ex
  refine ⟨f, fd, F.ok scInitI (fun vs H Q E h => ?_) (fun cdv A outer s H vs Q E hr h => ?_), b, M⟩
  · obtain ⟨p, dx, v, d, k, e, rfl, _⟩ := h
    rfl
  · obtain ⟨p, dx, v, d, k, e, rfl, hp, q⟩ := h
    refine ⟨_, pss_cons (ps_fld (pv 0) (pv 1) rfl) (pss_cons (ps_fld (pv 0) (pv 2) rfl) (pss_cons (ps_fld (pv 0) (pv 3) rfl) (pss_cons (ps_fld (pv 0) (pv 4) rfl) (pss_cons (ps_fld (pv 0) pe_int rfl) (pss_one (ps_fld (pv 0) pe_int rfl)))))), ?_⟩
    refine ⟨_, rfl, _, rfl, p, C.i, dx, [], rfl, hp, T.clI, T.i_value, (by show 0 < 1000; decide), ?_⟩
    refine ⟨_, rfl, _, rfl, p, C.i, dx, _, rfl, upd_same, T.clI, T.i_declared, (by show 1 < 1000; decide), ?_⟩
    refine ⟨_, rfl, _, rfl, p, C.i, dx, _, rfl, upd_same, T.clI, T.i_deck, (by show (putF _ _ [_]).length < 1000; rw [put_2 (by decide +kernel)]; show 2 < 1000; decide), ?_⟩
    refine ⟨_, rfl, _, rfl, p, C.i, dx, _, rfl, upd_same, T.clI, T.i_exempt, (by rw [put_nil, put_2 (by decide +kernel), put_3 (by decide +kernel) (by decide +kernel)]; show 3 < 1000; decide), ?_⟩
    refine ⟨_, rfl, p, C.i, dx, _, rfl, upd_same, T.clI, T.i_lost, (by rw [put_nil, put_2 (by decide +kernel), put_3 (by decide +kernel) (by decide +kernel), put_4 (by decide +kernel) (by decide +kernel) (by decide +kernel)]; show 4 < 1000; decide), ?_⟩
    refine ⟨_, rfl, p, C.i, dx, _, rfl, upd_same, T.clI, T.i_given, (by rw [put_nil, put_2 (by decide +kernel), put_3 (by decide +kernel) (by decide +kernel), put_4 (by decide +kernel) (by decide +kernel) (by decide +kernel), put_5 (by decide +kernel) (by decide +kernel) (by decide +kernel) (by decide +kernel)]; show 5 < 1000; decide), ?_⟩
    rw [iF_new, upd_upd, upd_upd, upd_upd, upd_upd, upd_upd]
    exact q
theorem scInitE : FnScope ["self", "payer", "allowed"] ["self", "payer", "allowed"] (defScope sInitE) := ⟨rfl, rfl, rfl, by decide +kernel, rfl, by decide +kernel, by decide +kernel⟩
theorem ok_initE (D : InitAt K "Expense.__init__" sInitE C.e ["self", "payer", "allowed"]) (T : Txt K mg C) : HasI P w K mg base 1 C.e ["self", "payer", "allowed"] (spInitE C) := by
  obtain ⟨f, fd, F, b, M⟩ := D.ex
  refine ⟨f, fd, F.ok scInitE (fun vs H Q E h => ?_) (fun cdv A outer s H vs Q E hr h => ?_), b, M⟩
  · obtain ⟨p, dx, n, a, rfl, _⟩ := h
    rfl
  · obtain ⟨p, dx, n, a, rfl, hp, q⟩ := h
    refine ⟨_, pss_cons (ps_fld (pv 0) (pv 1) rfl) (pss_one (ps_fld (pv 0) (pv 2) rfl)), ?_⟩
    refine ⟨_, rfl, _, rfl, p, C.e, dx, [], rfl, hp, T.clE, T.e_payer, (by show 0 < 1000; decide), ?_⟩
    refine ⟨_, rfl, _, rfl, p, C.e, dx, _, rfl, upd_same, T.clE, T.e_allowed, (by show 1 < 1000; decide), ?_⟩
    rw [eF_new, upd_upd]
    exact q
theorem scInitA : FnScope ["self", "hundredths"] ["self", "hundredths"] (defScope sInitA) := ⟨rfl, rfl, rfl, by decide +kernel, rfl, by decide +kernel, by decide +kernel⟩
theorem ok_initA (D : InitAt K "Average.__init__" sInitA C.a ["self", "hundredths"]) (T : Txt K mg C) : HasI P w K mg base 1 C.a ["self", "hundredths"] (spInitA C) := by
  obtain ⟨f, fd, F, b, M⟩ := D.ex
  refine ⟨f, fd, F.ok scInitA (fun vs H Q E h => ?_) (fun cdv A outer s H vs Q E hr h => ?_), b, M⟩
  · obtain ⟨p, dx, c, rfl, _⟩ := h
    rfl
  · obtain ⟨p, dx, c, rfl, hp, q⟩ := h
    refine ⟨_, pss_cons (ps_fld (pv 0) (pv 1) rfl) (pss_cons (ps_fld (pv 0) (pe_lst pa_nil) rfl) (pss_one (ps_fld (pv 0) (pe_lst pa_nil) rfl))), ?_⟩
    refine ⟨_, rfl, _, rfl, p, C.a, dx, [], rfl, hp, T.clA, T.a_h, (by show 0 < 1000; decide), ?_⟩
    refine ⟨Nat.zero_le _, fun li hli => ?_⟩
    have n1 : li ≠ p := fun e => by
      rw [e, upd_same] at hli
      cases hli
    have hli0 : H li = Option.none := by
      rw [upd_ne n1] at hli
      exact hli
    refine ⟨_, rfl, p, C.a, dx, _, rfl, Eq.trans (upd_ne n1.symm) upd_same, T.clA, T.a_i, (by show 1 < 1000; decide), ?_⟩
    refine ⟨Nat.zero_le _, fun le hle => ?_⟩
    have n2 : le ≠ p := fun e => by
      rw [e, upd_same] at hle
      cases hle
    have n3 : le ≠ li := fun e => by
      rw [e, upd_ne n1, upd_same] at hle
      cases hle
    have hle0 : H le = Option.none := by
      rw [upd_ne n2, upd_ne n3, upd_ne n2] at hle
      exact hle
    refine ⟨_, rfl, p, C.a, dx, _, rfl, Eq.trans (upd_ne n2.symm) upd_same, T.clA, T.a_e, (by rw [put_nil, put_2 (by decide +kernel)]; show 2 < 1000; decide), ?_⟩
    rw [aF_new]
    refine q _ li le upd_same ?_ ?_ n3.symm hli0 hle0 fun b o hb e => ?_
    · rw [upd_ne n1, upd_ne n3.symm, upd_ne n1, upd_same]
    · rw [upd_ne n2, upd_same]
    · rw [upd_ne hb, upd_ne (ne_of_none e hle0), upd_ne hb, upd_ne (ne_of_none e hli0), upd_ne hb]
      exact e
theorem scInitD : FnScope ["self"] ["self"] (defScope sInitD) := ⟨rfl, rfl, rfl, by decide +kernel, rfl, by decide +kernel, by decide +kernel⟩
theorem ok_initD (D : InitAt K "Desk.__init__" sInitD C.d ["self"]) (T : Txt K mg C) : HasI P w K mg base 1 C.d ["self"] (spInitD C) := by
  obtain ⟨f, fd, F, b, M⟩ := D.ex
  refine ⟨f, fd, F.ok scInitD (fun vs H Q E h => ?_) (fun cdv A outer s H vs Q E hr h => ?_), b, M⟩
  · obtain ⟨p, dx, rfl, _⟩ := h
    rfl
  · obtain ⟨p, dx, rfl, hp, q⟩ := h
    refine ⟨_, pss_one (ps_fld (pv 0) pe_non rfl), ?_⟩
    exact ⟨_, rfl, p, C.d, dx, [], rfl, hp, T.clD, T.d_a, (by show 0 < 1000; decide), q⟩
theorem scWithin : FnScope ["number", "least", "most"] ["number", "least", "most"] (defScope sWithin) := ⟨rfl, rfl, rfl, by decide +kernel, rfl, by decide +kernel, by decide +kernel⟩
theorem ok_within (D : DefAt K mg "within" sWithin ["number", "least", "most"]) : Has P w K mg base 1 "within" ["number", "least", "most"] spWithin := by
  obtain ⟨f, fd, F, b, m⟩ := D.ex
  refine ⟨f, fd, F.ok scWithin (fun vs H Q E h => ?_) (fun cdv A outer s H vs Q E hr h => ?_), b, m, F.kp⟩
  · obtain ⟨z, lo, hi, rfl, _⟩ := h
    rfl
  · obtain ⟨z, lo, hi, rfl, q⟩ := h
    refine ⟨_, pss_one (ps_ret (pe_and (pe_cmpR op_le (pv 1) (pv 0) (nomark _)) (pe_one (pe_cmpR op_le (pv 0) (pv 2) (nomark _))))), ?_⟩
    refine ⟨_, rfl, _, rfl, _, _, rfl, rfl, _, rfl, ?_⟩
    unfold Kg88.within at q
    refine ite2 (fun c => ?_) (fun c => ?_)
    · refine ⟨_, rfl, _, rfl, _, _, rfl, rfl, ?_⟩
      rw [c, Bool.true_and] at q
      exact q
    · rw [Bool.not_eq_true] at c
      rw [c, Bool.false_and] at q
      exact q
theorem scCounted : FnScope ["interest"] ["interest"] (defScope sCounted) := ⟨rfl, rfl, rfl, by decide +kernel, rfl, by decide +kernel, by decide +kernel⟩
theorem ok_counted (D : DefAt K mg "counted" sCounted ["interest"]) (T : Txt K mg C) : Has P w K mg base 1 "counted" ["interest"] (spI C Kg88.Interest.given_) := by
  obtain ⟨f, fd, F, b, m⟩ := D.ex
  refine ⟨f, fd, F.ok scCounted (fun vs H Q E h => ?_) (fun cdv A outer s H vs Q E hr h => ?_), b, m, F.kp⟩
  · obtain ⟨a, x, rfl, _⟩ := h
    rfl
  · obtain ⟨a, x, rfl, ⟨dx, ha⟩, W, q⟩ := h
    refine ⟨_, pss_one (ps_ret (pe_callB (call_min2 rfl) (by rfl) T.min (by decide +kernel) (pa_cons (pe_fld (pv 0) rfl) (pa_cons (pe_op op_sub (pe_fld (pv 0) rfl) (pe_fld (pv 0) rfl)) pa_nil)))), ?_⟩
    refine ⟨_, rfl, a, C.i, dx, _, _, rfl, ha, T.clI, T.i_given, iF_given x, _, rfl, a, C.i, dx, _, _, rfl, ha, T.clI, T.i_value, iF_value x, _, rfl, a, C.i, dx, _, _, rfl, ha, T.clI, T.i_lost, iF_lost x, _, _, rfl, rfl, _, _, rfl, ?_⟩
    rw [AvM.cnt_int W]
    exact q
theorem scLeftOf : FnScope ["interest"] ["interest"] (defScope sLeftOf) := ⟨rfl, rfl, rfl, by decide +kernel, rfl, by decide +kernel, by decide +kernel⟩
theorem ok_leftOf (D : DefAt K mg "left_of" sLeftOf ["interest"]) (T : Txt K mg C) (hC : Has P w K mg base 1 "counted" ["interest"] (spI C Kg88.Interest.given_)) : Has P w K mg base 2 "left_of" ["interest"] (spI C Kg88.Interest.left) := by
  obtain ⟨f, fd, F, b, m⟩ := D.ex
  obtain ⟨fc, fdc, GC, bC, mC, kC⟩ := hC
  refine ⟨f, fd, F.ok scLeftOf (fun vs H Q E h => ?_) (fun cdv A outer s H vs Q E hr h => ?_), b, m, F.kp⟩
  · obtain ⟨a, x, rfl, _⟩ := h
    rfl
  · obtain ⟨a, x, rfl, ⟨dx, ha⟩, W, q⟩ := h
    refine ⟨_, pss_one (ps_ret (pe_op op_sub (pe_op op_sub (pe_fld (pv 0) rfl) (pe_fld (pv 0) rfl)) (pe_call GC hr rfl mC kC bC .nil pass0 (pa_cons (pv 0) pa_nil)))), ?_⟩
    refine ⟨_, rfl, a, C.i, dx, _, _, rfl, ha, T.clI, T.i_value, iF_value x, _, rfl, a, C.i, dx, _, _, rfl, ha, T.clI, T.i_lost, iF_lost x, _, _, rfl, rfl, _, rfl, a, x, rfl, ⟨dx, ha⟩, W, _, _, rfl, rfl, ?_⟩
    show Q (.int ((x.value : Int) - (x.lost : Int) - ((x.given_ : Nat) : Int))) H
    rw [AvM.left_int W]
    exact q
theorem scMadeGood : FnScope ["interest"] ["interest"] (defScope sMadeGood) := ⟨rfl, rfl, rfl, by decide +kernel, rfl, by decide +kernel, by decide +kernel⟩
theorem ok_madeGood (D : DefAt K mg "made_good" sMadeGood ["interest"]) (T : Txt K mg C) (hC : Has P w K mg base 1 "counted" ["interest"] (spI C Kg88.Interest.given_)) : Has P w K mg base 2 "made_good" ["interest"] (spI C Kg88.Interest.good) := by
  obtain ⟨f, fd, F, b, m⟩ := D.ex
  obtain ⟨fc, fdc, GC, bC, mC, kC⟩ := hC
  refine ⟨f, fd, F.ok scMadeGood (fun vs H Q E h => ?_) (fun cdv A outer s H vs Q E hr h => ?_), b, m, F.kp⟩
  · obtain ⟨a, x, rfl, _⟩ := h
    rfl
  · obtain ⟨a, x, rfl, ⟨dx, ha⟩, W, q⟩ := h
    refine ⟨_, pss_cons (ps_if (pt_val (pe_fld (pv 0) rfl)) (pss_one (ps_ret pe_int)) pss_nil)
      (pss_cons (ps_if (pt_cmpR op_lt (pe_fld (pv 0) rfl) (pe_fld (pv 0) rfl) (nomark _))
        (pss_one (ps_ret (pe_op op_fdiv (pe_op op_mul (pe_call GC hr rfl mC kC bC .nil pass0 (pa_cons (pv 0) pa_nil)) (pe_fld (pv 0) rfl)) (pe_fld (pv 0) rfl)))) pss_nil)
      (pss_one (ps_ret (pe_call GC hr rfl mC kC bC .nil pass0 (pa_cons (pv 0) pa_nil))))), ?_⟩
    refine ⟨_, rfl, a, C.i, dx, _, _, rfl, ha, T.clI, T.i_deck, iF_deck x, _, rfl, ?_⟩
    refine ite2 (fun c => ?_) (fun c => ?_)
    · rw [AvM.good_deck c] at q
      exact q
    · rw [Bool.not_eq_true] at c
      refine ⟨_, rfl, a, C.i, dx, _, _, rfl, ha, T.clI, T.i_declared, iF_declared x, _, rfl, a, C.i, dx, _, _, rfl, ha, T.clI, T.i_value, iF_value x, _, _, rfl, rfl, _, rfl, ?_⟩
      refine ite2 (fun c2 => ?_) (fun c2 => ?_)
      · have c2' := of_decide_eq_true c2
        have hv := W.vhi
        have hl := W.vlo
        have hg := AvM.given_le x
        refine ⟨_, rfl, a, x, rfl, ⟨dx, ha⟩, W, _, rfl, a, C.i, dx, _, _, rfl, ha, T.clI, T.i_declared, iF_declared x, _, _, rfl, rfl, .inl ⟨by omega, by omega⟩, _, rfl, a, C.i, dx, _, _, rfl, ha, T.clI, T.i_value, iF_value x, _, _, rfl, rfl, ⟨by omega, by omega⟩, ?_⟩
        show Q (.int (((x.given_ : Nat) : Int) * (x.declared : Int) / (x.value : Int))) H
        rw [AvM.good_part c c2']
        exact q
      · have c2' : ¬ (x.declared : Int) < (x.value : Int) := fun z => c2 (decide_eq_true z)
        refine ⟨_, rfl, a, x, rfl, ⟨dx, ha⟩, W, ?_⟩
        rw [← AvM.good_full c c2'] at q
        exact q
theorem scContributesBy : FnScope ["interest"] ["interest"] (defScope sContributesBy) := ⟨rfl, rfl, rfl, by decide +kernel, rfl, by decide +kernel, by decide +kernel⟩
theorem ok_contributesBy (D : DefAt K mg "contributes_by" sContributesBy ["interest"]) (T : Txt K mg C) (hL : Has P w K mg base 2 "left_of" ["interest"] (spI C Kg88.Interest.left)) (hG : Has P w K mg base 2 "made_good" ["interest"] (spI C Kg88.Interest.good)) :
    Has P w K mg base 3 "contributes_by" ["interest"] (spI C Kg88.Interest.base) := by
  obtain ⟨f, fd, F, b, m⟩ := D.ex
  obtain ⟨fl, fdl, GL, bL, mL, kL⟩ := hL
  obtain ⟨fg, fdg, GG, bG, mG, kG⟩ := hG
  refine ⟨f, fd, F.ok scContributesBy (fun vs H Q E h => ?_) (fun cdv A outer s H vs Q E hr h => ?_), b, m, F.kp⟩
  · obtain ⟨a, x, rfl, _⟩ := h
    rfl
  · obtain ⟨a, x, rfl, ⟨dx, ha⟩, W, q⟩ := h
    refine ⟨_, pss_cons (ps_if (pt_val (pe_fld (pv 0) rfl)) (pss_one (ps_ret pe_int)) pss_nil)
      (pss_one (ps_ret (pe_op op_add (pe_call GL hr rfl mL kL bL .nil pass0 (pa_cons (pv 0) pa_nil)) (pe_call GG hr rfl mG kG bG .nil pass0 (pa_cons (pv 0) pa_nil))))), ?_⟩
    refine ⟨_, rfl, a, C.i, dx, _, _, rfl, ha, T.clI, T.i_exempt, iF_exempt x, _, rfl, ?_⟩
    refine ite2 (fun c => ?_) (fun c => ?_)
    · rw [AvM.base_exempt c] at q
      exact q
    · rw [Bool.not_eq_true] at c
      refine ⟨_, rfl, a, x, rfl, ⟨dx, ha⟩, W, _, rfl, a, x, rfl, ⟨dx, ha⟩, W, _, _, rfl, rfl, ?_⟩
      show Q (.int (((x.left : Nat) : Int) + ((x.good : Nat) : Int))) H
      rw [AvM.base_not c]
      exact q
end
end Av

namespace Av
open PySem PySem.Spec PyProof.Rows L2
open AvM (Wf WfI)
/-! ### a comprehension that grows a list told beforehand: A i stands behind i turns -/
theorem lc_grow {K : PySem.W.Frag} {a D : Addr} {xs : List V} {g : TG} {tt : TT} {te : TE} {vs : List Nat} {σ : L2.St} {H1 : Hp} {Qd : Hp → Prop} (A : Nat → List V) (hD : H1 D = none) (hq : SqL K H1 a xs) (h0 : A 0 = []) (hA : ∀ i, i ≤ xs.length → (A i).length < sizeLine)
    (hs : ∀ i x H' (Q : VK) (R : Hp → Prop), xs[i]? = some x → Same H1 H' → (∀ H4 y, Same H' H4 → A (i + 1) = A i ++ [y] → Q y H4) → (∀ H4, Same H' H4 → A (i + 1) = A i → R H4) →
      g x (wipe σ vs) H' fun σ2 H2 => wipe σ2 vs = wipe σ vs ∧ tt σ2 H2 fun b H3 => if b = true then te σ2 H3 Q else R H3)
    (hd : ∀ H', Same H1 H' → H' D = some (.lst (A xs.length)) → Qd H') :
    ∃ W : Nat → Nat → Hp → Prop, (∃ m, W 0 m (upd H1 D (.lst []))) ∧ ∀ i m H, W i m H →
      ((Itl K a).stop i H ∧ Qd H) ∨ ((Itl K a).go i H ∧ ∃ Nx : Hp → Prop, (∀ H', Nx H' → ∃ m', m' < m ∧ W (i + 1) m' H') ∧ ∀ x H', (Itl K a).yld i H x H' → g x (wipe σ vs) H' fun σ2 H2 => wipe σ2 vs = wipe σ vs ∧ tt σ2 H2 fun b H3 =>
        if b = true then te σ2 H3 fun y H4 => ∃ acc, H4 D = some (.lst acc) ∧ acc.length < sizeLine ∧ Nx (upd H4 D (.lst (acc ++ [y]))) else Nx H3) := by
  refine lc_list (K := K) (a := a) (xs := xs) (fun i H' => Same H1 H' ∧ H' D = some (.lst (A i))) ⟨same_upd hD, by rw [upd_same, h0]⟩ (fun i H' _ h => h.1.seq hq) (fun i x H' hx h => ?_) fun H' h => hd H' h.1 h.2
  refine hs i x H' _ _ hx h.1 (fun H4 y s4 e => ?_) (fun H4 s4 e => ?_)
  · refine ⟨A i, s4 _ _ h.2, hA i (Nat.le_of_lt (List.getElem?_eq_some_iff.mp hx).1), ?_, ?_⟩
    · intro b o hb
      rw [upd_ne (ne_of_none hb hD)]
      exact s4 _ _ (h.1 _ _ hb)
    · rw [upd_same, e]
  · exact ⟨h.1.trans s4, by rw [e]; exact s4 _ _ h.2⟩
theorem lc_growR {D : Addr} {n : Nat} {g : TG} {tt : TT} {te : TE} {vs : List Nat} {σ : L2.St} {H1 : Hp} {Qd : Hp → Prop} (A : Nat → List V) (hD : H1 D = none) (h0 : A 0 = []) (hA : ∀ i, i ≤ n → (A i).length < sizeLine)
    (hs : ∀ i H' (Q : VK) (R : Hp → Prop), i < n → Same H1 H' → (∀ H4 y, Same H' H4 → A (i + 1) = A i ++ [y] → Q y H4) → (∀ H4, Same H' H4 → A (i + 1) = A i → R H4) →
      g (.int (0 + (i : Int))) (wipe σ vs) H' fun σ2 H2 => wipe σ2 vs = wipe σ vs ∧ tt σ2 H2 fun b H3 => if b = true then te σ2 H3 Q else R H3)
    (hd : ∀ H', Same H1 H' → H' D = some (.lst (A n)) → Qd H') :
    ∃ W : Nat → Nat → Hp → Prop, (∃ m, W 0 m (upd H1 D (.lst []))) ∧ ∀ i m H, W i m H →
      ((Itr 0 n).stop i H ∧ Qd H) ∨ ((Itr 0 n).go i H ∧ ∃ Nx : Hp → Prop, (∀ H', Nx H' → ∃ m', m' < m ∧ W (i + 1) m' H') ∧ ∀ x H', (Itr 0 n).yld i H x H' → g x (wipe σ vs) H' fun σ2 H2 => wipe σ2 vs = wipe σ vs ∧ tt σ2 H2 fun b H3 =>
        if b = true then te σ2 H3 fun y H4 => ∃ acc, H4 D = some (.lst acc) ∧ acc.length < sizeLine ∧ Nx (upd H4 D (.lst (acc ++ [y]))) else Nx H3) := by
  refine lc_range (lo := 0) (n := n) (fun i H' => Same H1 H' ∧ H' D = some (.lst (A i))) ⟨same_upd hD, by rw [upd_same, h0]⟩ (fun i H' hi h => ?_) fun H' h => hd H' h.1 h.2
  refine hs i H' _ _ hi h.1 (fun H4 y s4 e => ?_) (fun H4 s4 e => ?_)
  · refine ⟨A i, s4 _ _ h.2, hA i (Nat.le_of_lt hi), ?_, ?_⟩
    · intro b o hb
      rw [upd_ne (ne_of_none hb hD)]
      exact s4 _ _ (h.1 _ _ hb)
    · rw [upd_same, e]
  · exact ⟨h.1.trans s4, by rw [e]; exact s4 _ _ h.2⟩
theorem yes_of {σ : L2.St} {H : Hp} {A B : Hp → Prop} (h : A H) : tYes σ H (fun b H3 => if b = true then A H3 else B H3) := by
  show if true = true then A H else B H
  rw [if_pos rfl]
  exact h
/-- the first i items of a list of ints -/
def tk (l : List Int) (i : Nat) : List V := (l.take i).map V.int
theorem tk_zero (l : List Int) : tk l 0 = [] := rfl
theorem tk_more {l : List Int} {i : Nat} {z : Int} (h : l[i]? = some z) : tk l (i + 1) = tk l i ++ [.int z] := by
  unfold tk
  rw [AvM.take_more h, List.map_append]
  rfl
theorem tk_all {l : List Int} {n : Nat} (h : n = l.length) : tk l n = l.map V.int := by
  unfold tk
  rw [h, List.take_length]
theorem tk_len (l : List Int) (i : Nat) : (tk l i).length ≤ l.length := by
  unfold tk
  rw [List.length_map, List.length_take]
  exact Nat.min_le_right _ _
theorem tk_small {l : List Int} (h : l.length ≤ 1000) (i : Nat) : (tk l i).length < sizeLine := small1000 (Nat.le_trans (tk_len l i) h)
/-! ### promises -/
/-- a def of an average that gives a number -/
def spA (C : Cs) (f : Kg88.State → Nat) : Sp := fun vs H Q _ => ∃ (a : Addr) (s : Kg88.State) (li le : Addr) (is es : List Addr), vs = [.ref a] ∧ AvAt C H a s li le is es ∧ Wf s ∧ ∀ H', Same H H' → Q (.int (f s)) H'
def spCan (C : Cs) : Sp := fun vs H Q _ => ∃ (a : Addr) (s : Kg88.State) (li le : Addr) (is es : List Addr), vs = [.ref a] ∧ AvAt C H a s li le is es ∧ Wf s ∧ ∀ H', Same H H' → Q (.bl s.can) H'
def spOwed (C : Cs) : Sp := fun vs H Q _ => ∃ (a : Addr) (s : Kg88.State) (li le : Addr) (is es : List Addr) (k : Nat), vs = [.ref a, .int k] ∧ k < s.interests.length ∧ AvAt C H a s li le is es ∧ Wf s ∧ ∀ H', Same H H' → Q (.int (s.credit k)) H'
def goods (s : Kg88.State) : Nat := (s.interests.map Kg88.Interest.good).sum
def alloweds (s : Kg88.State) : Nat := (s.expenses.map s.allowed).sum
/-- what is allowed, as the program reckons it -/
def spAllowed (C : Cs) : Sp := fun vs H Q _ => ∃ (a : Addr) (s : Kg88.State) (li le : Addr) (is es : List Addr) (n o : Int), vs = [.ref a, .int n, .int o] ∧ AvAt C H a s li le is es ∧ Wf s ∧ 0 ≤ n ∧ n ≤ 1000000000 ∧ -1 ≤ o ∧
  Q (.int (s.allowed ⟨n.toNat, 0, if o = -1 then none else some o.toNat⟩)) H
section
variable {P : Program} {w : World} {K : PySem.W.Frag} {mg : Str → Option Value} {base : Heap} {C : Cs}
theorem scAllowedFor : FnScope ["average", "amount", "otherwise", "allowed"] ["average", "amount", "otherwise"] (defScope sAllowedFor) := ⟨rfl, rfl, rfl, by decide +kernel, rfl, by decide +kernel, by decide +kernel⟩
theorem ok_allowedFor (D : DefAt K mg "allowed_for" sAllowedFor ["average", "amount", "otherwise"]) (T : Txt K mg C) : Has P w K mg base 1 "allowed_for" ["average", "amount", "otherwise"] (spAllowed C) := by
  obtain ⟨f, fd, F, b, m⟩ := D.ex
  obtain ⟨tn, gN⟩ := T.cNT
  refine ⟨f, fd, F.ok scAllowedFor (fun vs H Q E h => ?_) (fun cdv A outer s H vs Q E hr h => ?_), b, m, F.kp⟩
  · obtain ⟨a, s, li, le, is, es, n, o, rfl, _⟩ := h
    rfl
  · obtain ⟨a, s, li, le, is, es, n, o, rfl, hA, W, n0, n1, o1, q⟩ := h
    refine ⟨_, pss_cons (ps_set (i := 3) scAllowedFor.nd rfl (Or.inl rfl) (pv 1))
      (pss_cons (ps_if (pt_cmpR op_ne (pv 2) (pe_glob (v := .int (-1)) rfl gN ⟨_, rfl⟩) (nomark _)) (pss_one (ps_set (i := 3) scAllowedFor.nd rfl (Or.inl rfl) (pe_callB (call_min2 rfl) (by rfl) T.min (by decide +kernel) (pa_cons (pv 1) (pa_cons (pv 2) pa_nil))))) pss_nil)
      (pss_one (ps_ret (pe_op op_add (pv 3) (pe_op op_fdiv (pe_op op_mul (pv 3) (pe_fld (pv 0) rfl)) pe_int))))), ?_⟩
    obtain ⟨dx, ha⟩ := hA.ins
    have hc := W.com
    refine ⟨_, rfl, _, rfl, rfl, _, rfl, ?_⟩
    refine ite2 (fun c => ?_) (fun c => ?_)
    · have c' : ¬ o = -1 := fun e => by
        rw [e] at c
        revert c
        decide
      refine ⟨_, rfl, _, rfl, _, _, rfl, _, rfl, _, rfl, _, rfl, a, C.a, dx, _, _, rfl, ha, T.clA, T.a_h, aF_h _ _ _, _, _, rfl, rfl, .inr ⟨by omega, by omega⟩, _, _, rfl, rfl, ⟨by decide, by decide⟩, _, _, rfl, rfl, ?_⟩
      show Q (.int ((if o < n then o else n) + (if o < n then o else n) * (s.commission : Int) / 100)) H
      rw [if_neg c'] at q
      have e : (if o < n then o else n) = ((Kg88.Expense.allowed ⟨n.toNat, 0, some o.toNat⟩ : Nat) : Int) := by
        show _ = ((min n.toNat o.toNat : Nat) : Int)
        split <;> omega
      rw [e]
      unfold Kg88.State.allowed at q
      exact q
    · have c' : o = -1 := by
        by_cases e : o = -1
        · exact e
        · refine absurd ?_ c
          show (!decide (V.int o = V.int (-1))) = true
          rw [decide_eq_false (fun z => e (V.int.inj z))]
          rfl
      refine ⟨_, rfl, _, rfl, _, rfl, a, C.a, dx, _, _, rfl, ha, T.clA, T.a_h, aF_h _ _ _, _, _, rfl, rfl, .inr ⟨by omega, by omega⟩, _, _, rfl, rfl, ⟨by decide, by decide⟩, _, _, rfl, rfl, ?_⟩
      show Q (.int (n + n * (s.commission : Int) / 100)) H
      rw [if_pos c'] at q
      have e : n = ((Kg88.Expense.allowed ⟨n.toNat, 0, none⟩ : Nat) : Int) := by
        show _ = ((n.toNat : Nat) : Int)
        omega
      rw [e]
      unfold Kg88.State.allowed at q
      exact q
theorem scAllGood : FnScope ["average", "interest"] ["average"] (defScope sAllGood) := ⟨rfl, rfl, rfl, by decide +kernel, rfl, by decide +kernel, by decide +kernel⟩
theorem ok_allGood (D : DefAt K mg "all_good" sAllGood ["average"]) (T : Txt K mg C) (hG : Has P w K mg base 2 "made_good" ["interest"] (spI C Kg88.Interest.good)) : Has P w K mg base 3 "all_good" ["average"] (spA C goods) := by
  obtain ⟨f, fd, F, b, m⟩ := D.ex
  obtain ⟨fg, fdg, GG, bG, mG, kG⟩ := hG
  refine ⟨f, fd, F.ok scAllGood (fun vs H Q E h => ?_) (fun cdv A outer s H vs Q E hr h => ?_), b, m, F.kp⟩
  · obtain ⟨a, s, li, le, is, es, rfl, _⟩ := h
    rfl
  · obtain ⟨a, s, li, le, is, es, rfl, hA, W, q⟩ := h
    refine ⟨_, pss_one (ps_ret (pe_callB (cr_sum rfl) (by rfl) T.sum (by decide +kernel) (pa_cons (pe_lc (own := [("interest", 1)]) (g := gName 1) (tt := tYes) rfl scAllGood.nd (pi_list (pe_fld (pv 0) rfl))
      (blkOk_by (own := [("interest", 1)]) (N := ["average", "interest"]) (sc := defScope sAllGood) (by decide +kernel)) (fun _ _ _ _ _ => pg_name (i := 1) scAllGood.nd rfl (Or.inl rfl)) (fun _ _ _ _ _ => pts_nil)
      (fun _ _ _ _ _ => pe_call GG hr rfl mG kG bG .nil pass0 (pa_cons (pv 1) pa_nil))) pa_nil))), ?_⟩
    obtain ⟨dx, ha⟩ := hA.ins
    have hl : (s.interests.map fun x => ((x.good : Nat) : Int)).length ≤ 1000 := by
      rw [List.length_map]
      exact Nat.le_trans W.ilen (by decide)
    refine ⟨_, rfl, a, C.a, dx, _, _, rfl, ha, T.clA, T.a_i, aF_i _ _ _, li, rfl, ⟨_, SqL.of hA.il⟩, fun R hR => ?_⟩
    refine lc_grow (K := K) (a := li) (xs := is.map V.ref) (tk (s.interests.map fun x => ((x.good : Nat) : Int))) hR (SqL.of hA.il) rfl (fun i _ => tk_small hl i) (fun i x H' Q' R' hx s1 k1 k2 => ?_) (fun H' s1 hl' => ?_)
    · obtain ⟨i', hi', rfl⟩ := map_at hx
      obtain ⟨y, hy, ia⟩ := hA.int hi'
      refine ⟨rfl, yes_of ?_⟩
      refine ⟨_, rfl, i', y, rfl, ia.same s1, AvM.wfi_of W hy, k1 _ _ (Same.refl _) (tk_more ?_)⟩
      rw [List.getElem?_map, hy]
      rfl
    · refine ⟨R, s.interests.map (fun x => ((x.good : Nat) : Int)), rfl, SqL.of (hl'.trans ?_), ?_⟩
      · rw [tk_all (by rw [List.length_map, List.length_map]; exact hA.ilen)]
      · rw [AvM.cast_sum_map]
        exact q H' s1
theorem scAllAllowed : FnScope ["average", "expense"] ["average"] (defScope sAllAllowed) := ⟨rfl, rfl, rfl, by decide +kernel, rfl, by decide +kernel, by decide +kernel⟩
theorem ok_allAllowed (D : DefAt K mg "all_allowed" sAllAllowed ["average"]) (T : Txt K mg C) : Has P w K mg base 1 "all_allowed" ["average"] (spA C alloweds) := by
  obtain ⟨f, fd, F, b, m⟩ := D.ex
  refine ⟨f, fd, F.ok scAllAllowed (fun vs H Q E h => ?_) (fun cdv A outer s H vs Q E hr h => ?_), b, m, F.kp⟩
  · obtain ⟨a, s, li, le, is, es, rfl, _⟩ := h
    rfl
  · obtain ⟨a, s, li, le, is, es, rfl, hA, W, q⟩ := h
    refine ⟨_, pss_one (ps_ret (pe_callB (cr_sum rfl) (by rfl) T.sum (by decide +kernel) (pa_cons (pe_lc (own := [("expense", 1)]) (g := gName 1) (tt := tYes) (te := tFld K (tVar 1) "allowed") rfl scAllAllowed.nd (pi_list (pe_fld (pv 0) rfl))
      (blkOk_by (own := [("expense", 1)]) (N := ["average", "expense"]) (sc := defScope sAllAllowed) (by decide +kernel)) (fun _ _ _ _ _ => pg_name (i := 1) scAllAllowed.nd rfl (Or.inl rfl)) (fun _ _ _ _ _ => pts_nil)
      (fun _ _ _ _ _ => by exact (pe_fld (pv 1) rfl))) pa_nil))), ?_⟩
    obtain ⟨dx, ha⟩ := hA.ins
    have hl : (s.expenses.map fun x => ((s.allowed x : Nat) : Int)).length ≤ 1000 := by
      rw [List.length_map]
      exact Nat.le_trans W.elen (by decide)
    refine ⟨_, rfl, a, C.a, dx, _, _, rfl, ha, T.clA, T.a_e, aF_e _ _ _, le, rfl, ⟨_, SqL.of hA.el⟩, fun R hR => ?_⟩
    refine lc_grow (K := K) (a := le) (xs := es.map V.ref) (tk (s.expenses.map fun x => ((s.allowed x : Nat) : Int))) hR (SqL.of hA.el) rfl (fun i _ => tk_small hl i) (fun i x H' Q' R' hx s1 k1 k2 => ?_) (fun H' s1 hl' => ?_)
    · obtain ⟨i', hi', rfl⟩ := map_at hx
      obtain ⟨y, hy, ia⟩ := hA.exp hi'
      obtain ⟨de, he⟩ := ia.same s1
      refine ⟨rfl, yes_of ?_⟩
      refine ⟨_, rfl, i', C.e, de, _, _, rfl, he, T.clE, T.e_allowed, eF_allowed _ _, k1 _ _ (Same.refl _) (tk_more ?_)⟩
      rw [List.getElem?_map, hy]
      rfl
    · refine ⟨R, s.expenses.map (fun x => ((s.allowed x : Nat) : Int)), rfl, SqL.of (hl'.trans ?_), ?_⟩
      · rw [tk_all (by rw [List.length_map, List.length_map]; exact hA.elen)]
      · rw [AvM.cast_sum_map]
        exact q H' s1
theorem scShared : FnScope ["average"] ["average"] (defScope sShared) := ⟨rfl, rfl, rfl, by decide +kernel, rfl, by decide +kernel, by decide +kernel⟩
theorem ok_shared (D : DefAt K mg "shared" sShared ["average"]) (hG : Has P w K mg base 3 "all_good" ["average"] (spA C goods)) (hL : Has P w K mg base 1 "all_allowed" ["average"] (spA C alloweds)) : Has P w K mg base 4 "shared" ["average"] (spA C Kg88.State.shared) := by
  obtain ⟨f, fd, F, b, m⟩ := D.ex
  obtain ⟨fg, fdg, GG, bG, mG, kG⟩ := hG
  obtain ⟨fl, fdl, GL, bL, mL, kL⟩ := hL
  refine ⟨f, fd, F.ok scShared (fun vs H Q E h => ?_) (fun cdv A outer s H vs Q E hr h => ?_), b, m, F.kp⟩
  · obtain ⟨a, s, li, le, is, es, rfl, _⟩ := h
    rfl
  · obtain ⟨a, s, li, le, is, es, rfl, hA, W, q⟩ := h
    refine ⟨_, pss_one (ps_ret (pe_op op_add (pe_call GG hr rfl mG kG bG .nil pass0 (pa_cons (pv 0) pa_nil)) (pe_call GL (hr.mono (by decide)) rfl mL kL bL .nil pass0 (pa_cons (pv 0) pa_nil)))), ?_⟩
    refine ⟨_, rfl, a, s, li, le, is, es, rfl, hA, W, fun H1 s1 => ?_⟩
    refine ⟨_, rfl, a, s, li, le, is, es, rfl, hA.same s1, W, fun H2 s2 => ?_⟩
    refine ⟨_, _, rfl, rfl, ?_⟩
    have z := q H2 (s1.trans s2)
    have e : ((goods s : Nat) : Int) + ((alloweds s : Nat) : Int) = ((s.shared : Nat) : Int) := by
      unfold Kg88.State.shared goods alloweds
      omega
    show Q (.int (((goods s : Nat) : Int) + ((alloweds s : Nat) : Int))) H2
    rw [e]
    exact z
theorem scAllBy : FnScope ["average", "interest"] ["average"] (defScope sAllBy) := ⟨rfl, rfl, rfl, by decide +kernel, rfl, by decide +kernel, by decide +kernel⟩
theorem ok_allBy (D : DefAt K mg "all_by" sAllBy ["average"]) (T : Txt K mg C) (hG : Has P w K mg base 3 "contributes_by" ["interest"] (spI C Kg88.Interest.base)) : Has P w K mg base 4 "all_by" ["average"] (spA C Kg88.State.whole) := by
  obtain ⟨f, fd, F, b, m⟩ := D.ex
  obtain ⟨fg, fdg, GG, bG, mG, kG⟩ := hG
  refine ⟨f, fd, F.ok scAllBy (fun vs H Q E h => ?_) (fun cdv A outer s H vs Q E hr h => ?_), b, m, F.kp⟩
  · obtain ⟨a, s, li, le, is, es, rfl, _⟩ := h
    rfl
  · obtain ⟨a, s, li, le, is, es, rfl, hA, W, q⟩ := h
    refine ⟨_, pss_one (ps_ret (pe_callB (cr_sum rfl) (by rfl) T.sum (by decide +kernel) (pa_cons (pe_lc (own := [("interest", 1)]) (g := gName 1) (tt := tYes) rfl scAllBy.nd (pi_list (pe_fld (pv 0) rfl))
      (blkOk_by (own := [("interest", 1)]) (N := ["average", "interest"]) (sc := defScope sAllBy) (by decide +kernel)) (fun _ _ _ _ _ => pg_name (i := 1) scAllBy.nd rfl (Or.inl rfl)) (fun _ _ _ _ _ => pts_nil)
      (fun _ _ _ _ _ => pe_call GG hr rfl mG kG bG .nil pass0 (pa_cons (pv 1) pa_nil))) pa_nil))), ?_⟩
    obtain ⟨dx, ha⟩ := hA.ins
    have hl : (s.interests.map fun x => ((x.base : Nat) : Int)).length ≤ 1000 := by
      rw [List.length_map]
      exact Nat.le_trans W.ilen (by decide)
    refine ⟨_, rfl, a, C.a, dx, _, _, rfl, ha, T.clA, T.a_i, aF_i _ _ _, li, rfl, ⟨_, SqL.of hA.il⟩, fun R hR => ?_⟩
    refine lc_grow (K := K) (a := li) (xs := is.map V.ref) (tk (s.interests.map fun x => ((x.base : Nat) : Int))) hR (SqL.of hA.il) rfl (fun i _ => tk_small hl i) (fun i x H' Q' R' hx s1 k1 k2 => ?_) (fun H' s1 hl' => ?_)
    · obtain ⟨i', hi', rfl⟩ := map_at hx
      obtain ⟨y, hy, ia⟩ := hA.int hi'
      refine ⟨rfl, yes_of ?_⟩
      refine ⟨_, rfl, i', y, rfl, ia.same s1, AvM.wfi_of W hy, k1 _ _ (Same.refl _) (tk_more ?_)⟩
      rw [List.getElem?_map, hy]
      rfl
    · refine ⟨R, s.interests.map (fun x => ((x.base : Nat) : Int)), rfl, SqL.of (hl'.trans ?_), ?_⟩
      · rw [tk_all (by rw [List.length_map, List.length_map]; exact hA.ilen)]
      · rw [AvM.cast_sum_map]
        exact q H' s1
theorem scCan : FnScope ["average"] ["average"] (defScope sCan) := ⟨rfl, rfl, rfl, by decide +kernel, rfl, by decide +kernel, by decide +kernel⟩
theorem ok_can (D : DefAt K mg "can_be_adjusted" sCan ["average"]) (hB : Has P w K mg base 4 "all_by" ["average"] (spA C Kg88.State.whole)) (hS : Has P w K mg base 4 "shared" ["average"] (spA C Kg88.State.shared)) : Has P w K mg base 5 "can_be_adjusted" ["average"] (spCan C) := by
  obtain ⟨f, fd, F, b, m⟩ := D.ex
  obtain ⟨fg, fdg, GB, bB, mB, kB⟩ := hB
  obtain ⟨fl, fdl, GS, bS, mS, kS⟩ := hS
  refine ⟨f, fd, F.ok scCan (fun vs H Q E h => ?_) (fun cdv A outer s H vs Q E hr h => ?_), b, m, F.kp⟩
  · obtain ⟨a, s, li, le, is, es, rfl, _⟩ := h
    rfl
  · obtain ⟨a, s, li, le, is, es, rfl, hA, W, q⟩ := h
    refine ⟨_, pss_one (ps_ret (pe_and (pe_cmpR op_gt (pe_call GB hr rfl mB kB bB .nil pass0 (pa_cons (pv 0) pa_nil)) pe_int (nomark _))
      (pe_one (pe_cmpR op_ge (pe_call GB hr rfl mB kB bB .nil pass0 (pa_cons (pv 0) pa_nil)) (pe_call GS hr rfl mS kS bS .nil pass0 (pa_cons (pv 0) pa_nil)) (nomark _))))), ?_⟩
    refine ⟨_, rfl, a, s, li, le, is, es, rfl, hA, W, fun H1 s1 => ?_⟩
    refine ⟨_, _, rfl, rfl, _, rfl, ?_⟩
    have e1 : decide ((0 : Int) < ((s.whole : Nat) : Int)) = decide (0 < s.whole) := decide_eq_decide.mpr (by omega)
    have e2 : decide (((s.shared : Nat) : Int) ≤ ((s.whole : Nat) : Int)) = decide (s.shared ≤ s.whole) := decide_eq_decide.mpr (by omega)
    unfold Kg88.State.can at q
    refine ite2 (fun c => ?_) (fun c => ?_)
    · refine ⟨_, rfl, a, s, li, le, is, es, rfl, hA.same s1, W, fun H2 s2 => ?_⟩
      refine ⟨_, rfl, a, s, li, le, is, es, rfl, hA.same (s1.trans s2), W, fun H3 s3 => ?_⟩
      refine ⟨_, _, rfl, rfl, ?_⟩
      have z := q H3 ((s1.trans s2).trans s3)
      rw [← e1, ← e2, c, Bool.true_and] at z
      exact z
    · have z := q H1 s1
      rw [Bool.not_eq_true] at c
      rw [← e1, c, Bool.false_and] at z
      exact z
theorem scOwed : FnScope ["average", "number", "paid", "expense"] ["average", "number"] (defScope sOwed) := ⟨rfl, rfl, rfl, by decide +kernel, rfl, by decide +kernel, by decide +kernel⟩
theorem ok_owed (D : DefAt K mg "owed" sOwed ["average", "number"]) (T : Txt K mg C) (hG : Has P w K mg base 2 "made_good" ["interest"] (spI C Kg88.Interest.good)) : Has P w K mg base 3 "owed" ["average", "number"] (spOwed C) := by
  obtain ⟨f, fd, F, b, m⟩ := D.ex
  obtain ⟨fg, fdg, GG, bG, mG, kG⟩ := hG
  refine ⟨f, fd, F.ok scOwed (fun vs H Q E h => ?_) (fun cdv A outer s H vs Q E hr h => ?_), b, m, F.kp⟩
  · obtain ⟨a, s, li, le, is, es, k, rfl, _⟩ := h
    rfl
  · obtain ⟨a, s, li, le, is, es, k, rfl, hk, hA, W, q⟩ := h
    refine ⟨_, pss_cons (ps_set (i := 2) scOwed.nd rfl (Or.inl rfl) (pe_callB (cr_sum rfl) (by rfl) T.sum (by decide +kernel) (pa_cons (pe_lc (own := [("expense", 3)]) (g := gName 3) (tt := tTest (tOp rEq (tFld K (tVar 3) "payer") (tVar 1))) (te := tFld K (tVar 3) "allowed") rfl scOwed.nd (pi_list (pe_fld (pv 0) rfl))
      (blkOk_by (own := [("expense", 3)]) (N := ["average", "number", "paid", "expense"]) (sc := defScope sOwed) (by decide +kernel)) (fun _ _ _ _ _ => pg_name (i := 3) scOwed.nd rfl (Or.inl rfl))
      (fun _ _ _ _ _ => by exact (pts_one (pt_cmpR op_eq (pe_fld (pv 3) rfl) (pv 1) (nomark _))))
      (fun _ _ _ _ _ => by exact (pe_fld (pv 3) rfl))) pa_nil)))
      (pss_one (ps_ret (pe_op op_add (pe_call GG hr rfl mG kG bG .nil pass0 (pa_cons (pe_ix ix_list (pe_fld (pv 0) rfl) (pv 1) (fun _ _ => rfl)) pa_nil)) (pv 2)))), ?_⟩
    obtain ⟨dx, ha⟩ := hA.ins
    refine ⟨_, rfl, a, C.a, dx, _, _, rfl, ha, T.clA, T.a_e, aF_e _ _ _, le, rfl, ⟨_, SqL.of hA.el⟩, fun R hR => ?_⟩
    have hlen : ∀ i, (((s.expenses.take i).filter fun e => e.payer == k).map fun e => V.int ((s.allowed e : Nat) : Int)).length < sizeLine := fun i => by
      rw [List.length_map]
      have h1 := List.length_filter_le (fun e : Kg88.Expense => e.payer == k) (s.expenses.take i)
      rw [List.length_take] at h1
      have h2 := W.elen
      exact small1000 (by omega)
    refine lc_grow (K := K) (a := le) (xs := es.map V.ref) (fun i => ((s.expenses.take i).filter fun e => e.payer == k).map fun e => V.int ((s.allowed e : Nat) : Int)) hR (SqL.of hA.el) rfl (fun i _ => hlen i) (fun i x H' Q' R' hx s1 k1 k2 => ?_) (fun H' s1 hl' => ?_)
    · obtain ⟨i', hi', rfl⟩ := map_at hx
      obtain ⟨y, hy, ia⟩ := hA.exp hi'
      obtain ⟨de, he⟩ := ia.same s1
      refine ⟨rfl, ?_⟩
      refine ⟨_, rfl, i', C.e, de, _, _, rfl, he, T.clE, T.e_payer, eF_payer _ _, _, rfl, rfl, _, rfl, ?_⟩
      refine ite2 (fun c => ?_) (fun c => ?_)
      · have c' : (y.payer == k) = true := by
          have := V.int.inj (of_decide_eq_true c)
          exact beq_iff_eq.mpr (by omega)
        refine ⟨_, rfl, i', C.e, de, _, _, rfl, he, T.clE, T.e_allowed, eF_allowed _ _, k1 _ _ (Same.refl _) ?_⟩
        rw [AvM.take_more hy, List.filter_append, List.filter_cons_of_pos (p := fun e : Kg88.Expense => e.payer == k) c', List.map_append]
        rfl
      · have c' : ¬ (y.payer == k) = true := fun z => c (decide_eq_true (by rw [beq_iff_eq.mp z]))
        refine k2 _ (Same.refl _) ?_
        rw [AvM.take_more hy, List.filter_append, List.filter_cons_of_neg (p := fun e : Kg88.Expense => e.payer == k) c', List.filter_nil, List.append_nil]
    · refine ⟨R, ((s.expenses.filter fun e => e.payer == k).map fun e => ((s.allowed e : Nat) : Int)), rfl, SqL.of (hl'.trans ?_), ?_⟩
      · rw [List.length_map, hA.elen, List.take_length, List.map_map]
        rfl
      · rw [AvM.cast_sum_map]
        obtain ⟨ik, hik⟩ : ∃ ik, is[k]? = some ik := ⟨_, List.getElem?_eq_getElem (by rw [hA.ilen]; exact hk)⟩
        obtain ⟨x, hx, ix⟩ := hA.int hik
        refine ⟨_, rfl, a, C.a, dx, _, _, rfl, s1 _ _ ha, T.clA, T.a_i, aF_i _ _ _, _, rfl, li, _, _, _, rfl, rfl, SqL.of (s1 _ _ hA.il), at_of (j := k) (v := V.ref ik) rfl (by rw [List.getElem?_map, hik]; rfl), ?_⟩
        refine ⟨ik, x, rfl, ix.same s1, AvM.wfi_of W hx, ?_⟩
        refine ⟨_, rfl, _, _, rfl, rfl, ?_⟩
        have z := q H' s1
        unfold Kg88.State.credit at z
        rw [hx] at z
        show Q (.int (((x.good : Nat) : Int) + ((((s.expenses.filter fun e => e.payer == k).map s.allowed).sum : Nat) : Int))) H'
        rw [← Int.natCast_add]
        exact z
end
end Av

namespace Av
open PySem PySem.Spec PyProof.Rows L2
open AvM (Wf WfI)
/-! ### promises -/
def spL (C : Cs) (f : Kg88.State → List Int) : Sp := fun vs H Q _ => ∃ (a : Addr) (s : Kg88.State) (li le : Addr) (is es : List Addr), vs = [.ref a] ∧ AvAt C H a s li le is es ∧ Wf s ∧ s.can = true ∧
  ∀ H' p, Same H H' → H p = none → H' p = some (.lst ((f s).map V.int)) → Q (.ref p) H'
def contribs (s : Kg88.State) : List Int := s.contributions.map fun n : Nat => (n : Int)
theorem can_of {s : Kg88.State} (h : s.can = true) : 0 < s.whole ∧ s.shared ≤ s.whole := by
  unfold Kg88.State.can at h
  rw [Bool.and_eq_true, decide_eq_true_iff, decide_eq_true_iff] at h
  exact h
/-! ### the pairs at the addresses -/
def pairAt (H : Hp) (x : V) : Int × Int := match x with
  | .ref t => match H t with
    | some (.tup [.int i, .int j]) => (i, j)
    | _ => (0, 0)
  | _ => (0, 0)
theorem pairAt_of {H : Hp} {t : Addr} {i j : Int} (h : H t = some (.tup [.int i, .int j])) : pairAt H (.ref t) = (i, j) := by
  show (match H t with
    | some (.tup [.int i, .int j]) => (i, j)
    | _ => (0, 0)) = (i, j)
  rw [h]
def negRest (T : Nat) (B : List Nat) (i : Nat) : Int := 0 - ((T * B.getD i 0 % B.sum : Nat) : Int)
theorem cut_to (xs : List V) (m : Nat) : cutV xs none (some (m : Int)) = xs.take m := by
  unfold cutV
  rw [HT.sIx_none, HT.sIx_nat, List.drop_zero, Nat.sub_zero]
  by_cases h : m ≤ xs.length
  · rw [Nat.min_eq_left h]
  · rw [Nat.min_eq_right (by omega), List.take_length, List.take_of_length_le (by omega)]
theorem bump_min (low ks : List Nat) (m : Nat) : AvM.bump low ks (min m ks.length) = AvM.bump low ks m := by
  unfold AvM.bump
  have e : ks.take (min m ks.length) = ks.take m := by rw [← List.take_take, List.take_length]
  rw [e]
/-- what sorted gives: the places in the order of «ahead» -/
theorem sorted_places {T : Nat} {B : List Nat} {H : Hp} {ts : List Addr} {ys : List V} (hl : ts.length = B.length) (ht : ∀ (j : Nat) (t : Addr), ts[j]? = some t → H t = some (.tup [.int (negRest T B j), .int (j : Int)]))
    (ho : SrtO.Srtd (ltP (pairAt H)) ys) (hp : ys.Perm (ts.map V.ref)) :
    (ys.map fun y => (pairAt H y).2.toNat).Perm (List.range B.length) ∧ (ys.map fun y => (pairAt H y).2.toNat).Pairwise (fun a b => Kg88.ahead (Kg88.rests T B) a b = true) := by
  have e0 : (ts.map V.ref).map (pairAt H) = (List.range B.length).map fun i => (0 - ((T * B.getD i 0 % B.sum : Nat) : Int), (i : Int)) := by
    refine List.ext_getElem? fun j => ?_
    rw [List.getElem?_map, List.getElem?_map, List.getElem?_map]
    by_cases hj : j < B.length
    · have h1 : ts[j]? = some (ts[j]'(by omega)) := List.getElem?_eq_getElem (by omega)
      rw [h1, List.getElem?_range hj]
      show some (pairAt H (.ref _)) = _
      rw [pairAt_of (ht j _ h1)]
      rfl
    · rw [List.getElem?_eq_none (by omega), List.getElem?_eq_none (by rw [List.length_range]; omega)]
      rfl
  have hp2 : (ys.map (pairAt H)).Perm ((List.range B.length).map fun i => (0 - ((T * B.getD i 0 % B.sum : Nat) : Int), (i : Int))) := by
    rw [← e0]
    exact hp.map _
  have ho2 : (ys.map (pairAt H)).Pairwise fun x y => x.1 < y.1 ∨ (x.1 = y.1 ∧ x.2 ≤ y.2) := List.pairwise_map.mpr (ho.imp fun {x y} h => by
    have := SrtO.lexB_no.mp h
    omega)
  have r := AvM.places_of hp2 ho2
  rw [List.map_map] at r
  exact r
section
variable {P : Program} {w : World} {K : PySem.W.Frag} {mg : Str → Option Value} {base : Heap} {C : Cs}
abbrev nContributions : List Str := ["average", "whole", "by_all", "products", "found", "rests", "rest", "number", "interest", "product", "k"]
theorem scContributions : FnScope nContributions ["average"] (defScope sContributions) := ⟨rfl, rfl, rfl, by decide +kernel, rfl, by decide +kernel, by decide +kernel⟩
/-- the loop that hands out the missing units, and the end -/
theorem contributions_loop {s : Kg88.State} {H0 H1 : Hp} {Q : VK} {a pr fo rs p : Addr} {ys : List V} {ks low : List Nat} {m : Nat} {v1 v2 : V}
    (hs0 : ∀ b o, b ≠ fo → H0 b = some o → H1 b = some o) (hfo : H0 fo = none) (hf : H1 fo = some (.lst (low.map fun n : Nat => V.int (n : Int)))) (hpf : p ≠ fo) (hp : H1 p = some (.lst (ys.take m)))
    (hks : ks.Perm (List.range low.length)) (hky : ∀ (i : Nat) (y : V), ys[i]? = some y → ∃ t r k, y = .ref t ∧ ks[i]? = some k ∧ t ≠ fo ∧ H1 t = some (.tup [.int r, .int (k : Int)])) (hyl : ys.length = ks.length)
    (q : ∀ H', Same H0 H' → H' fo = some (.lst ((AvM.bump low ks m).map fun n : Nat => V.int (n : Int))) → Q (.ref fo) H') :
    ∃ W : Nat → Nat → L2.St → Hp → Prop, (∃ m, W 0 m [some (.ref a), some v1, some v2, some (.ref pr), some (.ref fo), some (.ref rs), none, none, none, none, none] H1) ∧ ∀ i m σ H, W i m σ H →
      ((Itl K p).stop i H ∧ (tRet (tVar 4)) { nx := fun _ H' => Q .non H', rt := Q } σ H) ∨
      ((Itl K p).go i H ∧ ∃ N : L2.St → Hp → Prop, (∀ σ' H', N σ' H' → ∃ m', m' < m ∧ W (i + 1) m' σ' H') ∧ ∀ x H', (Itl K p).yld i H x H' → (gTup K 2 (gCons (gName 6) (gCons (gName 7) gNil))) x σ H' fun σ2 H2 =>
        (tAsg (tOp (rI0 fun i j => .int (i + j)) (tOp (rIxL K) (tVar 4) (tVar 7)) (tC (.int 1))) (gSub (tVar 4) (tVar 7) rSetL)) { ({ nx := (tRet (tVar 4)) { nx := fun _ H' => Q .non H', rt := Q }, rt := Q } : Ends) with nx := N, ct := N, bk := (tRet (tVar 4)) { nx := fun _ H' => Q .non H', rt := Q } } σ2 H2) := by
  have nd := AvM.nodup_range_perm hks
  refine for_list (K := K) (a := p) (xs := ys.take m) (D := { nx := (tRet (tVar 4)) { nx := fun _ H' => Q .non H', rt := Q }, rt := Q }) (fun i σ H => ∃ v6 v7 : Option V, σ = [some (.ref a), some v1, some v2, some (.ref pr), some (.ref fo), some (.ref rs), v6, v7, none, none, none] ∧
      (∀ b o, b ≠ fo → H1 b = some o → H b = some o) ∧ H fo = some (.lst ((AvM.bump low ks i).map fun n : Nat => V.int (n : Int)))) ⟨none, none, rfl, fun _ _ _ e => e, by rw [AvM.bump_zero]; exact hf⟩ ?_ ?_ ?_
  · rintro i σ H _ ⟨_, _, _, hk, _⟩
    exact SqL.of (hk _ _ hpf hp)
  · rintro i x σ H hx ⟨v6, v7, rfl, hk, hF⟩
    rw [List.getElem?_take] at hx
    by_cases him : i < m
    · rw [if_pos him] at hx
      obtain ⟨t, r, k, rfl, hki, htf, ht⟩ := hky i x hx
      have hkl : k < low.length := List.mem_range.mp (hks.mem_iff.mp (List.mem_of_getElem? hki))
      obtain ⟨v, hv, hset⟩ := AvM.bump_step nd hki hkl
      have hlen : ((AvM.bump low ks i).map fun n : Nat => V.int (n : Int)).length = low.length := by rw [List.length_map, AvM.bump_length]
      refine ⟨t, _, rfl, SqT.of (hk _ _ htf ht), rfl, _, _, rfl, _, _, rfl, rfl, ?_⟩
      refine ⟨_, rfl, _, rfl, fo, _, _, _, rfl, rfl, SqL.of hF, at_of (j := k) (v := V.int (v : Int)) rfl (by rw [List.getElem?_map, hv]; rfl), _, _, rfl, rfl, ?_⟩
      refine ⟨_, rfl, _, rfl, fo, _, _, k, rfl, rfl, hF, ?_, ?_⟩
      · unfold ixN
        rw [if_pos (by omega), if_pos (by rw [hlen]; omega), Int.toNat_natCast]
      · refine ⟨_, _, rfl, fun b o hb e => by rw [upd_ne hb]; exact hk b o hb e, ?_⟩
        rw [upd_same, ← hset, List.map_set]
        rfl
    · rw [if_neg him] at hx
      cases hx
  · rintro σ H ⟨v6, v7, rfl, hk, hF⟩
    refine ⟨_, rfl, ?_⟩
    rw [List.length_take, hyl, bump_min] at hF
    exact q H (fun b o e => hk b o (ne_of_none e hfo) (hs0 b o (ne_of_none e hfo) e)) hF
theorem ok_contributions (D : DefAt K mg "contributions" sContributions ["average"]) (T : Txt K mg C) (hS : Has P w K mg base 4 "shared" ["average"] (spA C Kg88.State.shared)) (hB : Has P w K mg base 4 "all_by" ["average"] (spA C Kg88.State.whole))
    (hC : Has P w K mg base 3 "contributes_by" ["interest"] (spI C Kg88.Interest.base)) : Has P w K mg base 5 "contributions" ["average"] (spL C contribs) := by
  obtain ⟨f, fd, F, b, m⟩ := D.ex
  obtain ⟨fs, fds, GS, bS, mS, kS⟩ := hS
  obtain ⟨fb, fdb, GB, bB, mB, kB⟩ := hB
  obtain ⟨fc, fdc, GC, bC, mC, kC⟩ := hC
  refine ⟨f, fd, F.ok scContributions (fun vs H Q E h => ?_) (fun cdv A outer s H vs Q E hr h => ?_), b, m, F.kp⟩
  · obtain ⟨a, s, li, le, is, es, rfl, _⟩ := h
    rfl
  · obtain ⟨a, s, li, le, is, es, rfl, hA, W, hcan, q⟩ := h
    obtain ⟨hw0, hsw⟩ := can_of hcan
    have hr3 : Room 3 _ := hr.mono (by decide)
    refine ⟨_, pss_cons (ps_set (i := 1) scContributions.nd rfl (Or.inr rfl) (pe_call GS hr rfl mS kS bS .nil pass0 (pa_cons (pv 0) pa_nil)))
      (pss_cons (ps_set (i := 2) scContributions.nd rfl (Or.inr rfl) (pe_call GB hr rfl mB kB bB .nil pass0 (pa_cons (pv 0) pa_nil)))
      (pss_cons (ps_set (i := 3) scContributions.nd rfl (Or.inr rfl) (pe_lc (own := [("interest", 8)]) (g := gName 8) (tt := tYes) (te := tOp (rI CMul fun i j => .int (i * j)) (tVar 1) (tCall (spI C Kg88.Interest.base) [] E0 (tCons (tVar 8) tNil))) rfl scContributions.nd (pi_list (pe_fld (pv 0) rfl))
        (blkOk_by (own := [("interest", 8)]) (N := nContributions) (sc := defScope sContributions) (by decide +kernel)) (fun _ _ _ _ _ => pg_name (i := 8) scContributions.nd rfl (Or.inl rfl)) (fun _ _ _ _ _ => pts_nil)
        (fun _ _ _ _ _ => by exact (pe_op op_mul (pv 1) (pe_call GC hr3 rfl mC kC bC .nil pass0 (pa_cons (pv 8) pa_nil))))))
      (pss_cons (ps_setLc (i := 4) (own := [("product", 9)]) (g := gName 9) (tt := tYes) (te := tOp (rI CDivW fun i j => .int (i / j)) (tVar 9) (tVar 2)) rfl scContributions.nd rfl rfl (sw_true rfl rfl rfl (by decide +kernel)) (pi_list (pv 3))
        (blkOk_by (own := [("product", 9)]) (N := nContributions) (sc := defScope sContributions) (by decide +kernel)) (fun _ _ _ _ _ => pg_name (i := 9) scContributions.nd rfl (Or.inl rfl)) (fun _ _ _ _ _ => pts_nil)
        (fun _ _ _ _ _ => by exact (pe_op op_fdivW (pv 9) (pv 2))))
      (pss_cons (ps_set (i := 5) scContributions.nd rfl (Or.inl rfl) (pe_callB cr_sortedPO (by rfl) T.sorted (by decide +kernel) (pa_cons (pe_lc (own := [("k", 10)]) (g := gName 10) (tt := tYes)
          (te := tTup (tCons (tOp (rI0 fun i j => .int (i - j)) (tC (.int 0)) (tOp (rI (fun _ j => 0 < j) fun i j => .int (i % j)) (tOp (rIxL K) (tVar 3) (tVar 10)) (tVar 2))) (tCons (tVar 10) tNil))) rfl scContributions.nd
          (pi_range1 rfl T.range (pa_cons (pe_callB call_len_seq (by rfl) T.len PySem.boot_len (pa_cons (pv 3) pa_nil)) pa_nil))
        (blkOk_by (own := [("k", 10)]) (N := nContributions) (sc := defScope sContributions) (by decide +kernel)) (fun _ _ _ _ _ => pg_name (i := 10) scContributions.nd rfl (Or.inl rfl)) (fun _ _ _ _ _ => pts_nil)
        (fun _ _ _ _ _ => by exact (pe_tup (pa_cons (pe_op op_sub pe_int (pe_op op_mod (pe_ix ix_list (pv 3) (pv 10) (fun _ _ => rfl)) (pv 2))) (pa_cons (pv 10) pa_nil))))) pa_nil)))
      (pss_cons (ps_for PassesOwn.never rfl (pi_list (pe_slice sl_list (pv 5) po_none (po_some (pe_op op_sub (pv 1) (pe_callB (cr_sum rfl) (by rfl) T.sum (by decide +kernel) (pa_cons (pv 4) pa_nil))))))
        (pg_tup rfl (pgs_cons (pg_name (i := 6) scContributions.nd rfl (Or.inl rfl)) (pgs_cons (pg_name (i := 7) scContributions.nd rfl (Or.inl rfl)) pgs_nil)))
        (pss_one (ps_asg (pe_op op_add (pe_ix ix_list (pv 4) (pv 7) (fun _ _ => rfl)) pe_int) (pg_sub (pv 4) (pv 7) set_list))))
      (pss_one (ps_ret (pv 4)))))))), ?_⟩
    have hil : s.bases.length = s.interests.length := by
      unfold Kg88.State.bases
      rw [List.length_map]
    have hsl := AvM.shared_le W
    have hwl := AvM.whole_le W
    -- whole = shared(average); by_all = all_by(average)
    refine ⟨_, rfl, a, s, li, le, is, es, rfl, hA, W, fun H1 s1 => ?_⟩
    refine ⟨_, rfl, a, s, li, le, is, es, rfl, hA.same s1, W, fun H2 s2 => ?_⟩
    have A2 := hA.same (s1.trans s2)
    obtain ⟨dx, ha⟩ := A2.ins
    -- products
    have lP : (s.bases.map fun b => ((s.shared * b : Nat) : Int)).length ≤ 1000 := by
      rw [List.length_map, hil]
      exact Nat.le_trans W.ilen (by decide)
    have lF : (s.bases.map fun b => ((s.shared * b / s.bases.sum : Nat) : Int)).length ≤ 1000 := by
      rw [List.length_map, hil]
      exact Nat.le_trans W.ilen (by decide)
    refine ⟨_, rfl, a, C.a, dx, _, _, rfl, ha, T.clA, T.a_i, aF_i _ _ _, li, rfl, ⟨_, SqL.of A2.il⟩, fun pr hpr => ?_⟩
    refine lc_grow (K := K) (a := li) (xs := is.map V.ref) (tk (s.bases.map fun b => ((s.shared * b : Nat) : Int))) hpr (SqL.of A2.il) rfl (fun i _ => tk_small lP i) (fun i x H' Q' R' hx z1 k1 k2 => ?_) (fun H3 s3 h3 => ?_)
    · obtain ⟨i', hi', rfl⟩ := map_at hx
      obtain ⟨y, hy, ia⟩ := A2.int hi'
      refine ⟨rfl, yes_of ?_⟩
      refine ⟨_, rfl, _, rfl, i', y, rfl, ia.same z1, AvM.wfi_of W hy, _, _, rfl, rfl, .inl ⟨by omega, by omega⟩, k1 _ _ (Same.refl _) (tk_more ?_)⟩
      unfold Kg88.State.bases
      rw [List.getElem?_map, List.getElem?_map, hy]
      show some (((s.shared * y.base : Nat) : Int)) = some (((s.shared : Nat) : Int) * ((y.base : Nat) : Int))
      rw [Int.natCast_mul]
    · rw [tk_all (by rw [List.length_map, List.length_map, hil]; exact A2.ilen)] at h3
      -- found
      refine ⟨_, rfl, pr, rfl, ⟨_, SqL.of h3⟩, fun fo hfo => ?_⟩
      refine lc_grow (K := K) (a := pr) (xs := (s.bases.map fun b => ((s.shared * b : Nat) : Int)).map V.int) (tk (s.bases.map fun b => ((s.shared * b / s.bases.sum : Nat) : Int))) hfo (SqL.of h3) rfl (fun i _ => tk_small lF i) (fun i x H' Q' R' hx z1 k1 k2 => ?_) (fun H4 s4 h4 => ?_)
      · obtain ⟨z, hz, rfl⟩ := map_at hx
        rw [List.getElem?_map] at hz
        cases eb : s.bases[i]? with
        | none =>
          rw [eb] at hz
          cases hz
        | some y =>
          rw [eb] at hz
          have ez : ((s.shared * y : Nat) : Int) = z := Option.some.inj hz
          subst ez
          refine ⟨rfl, yes_of ?_⟩
          refine ⟨_, rfl, _, rfl, _, _, rfl, rfl, wide_div (b := 64) (by omega) (by omega) (by decide) (by decide), k1 _ _ (Same.refl _) (tk_more ?_)⟩
          rw [List.getElem?_map, eb]
          show some (((s.shared * y / s.bases.sum : Nat) : Int)) = some (((s.shared * y : Nat) : Int) / ((s.whole : Nat) : Int))
          rw [Int.natCast_ediv]
          rfl
      · rw [tk_all (by rw [List.length_map, List.length_map, List.length_map])] at h4
        -- rests
        refine ⟨_, rfl, pr, _, rfl, .inl (SqL.of (s4 _ _ h3)), ((s.bases.map fun b => ((s.shared * b : Nat) : Int)).map V.int).length, rfl, by omega, ?_, ?_⟩
        · rw [List.length_map]
          omega
        · intro D hD
          have hn : ((s.bases.map fun b => ((s.shared * b : Nat) : Int)).map V.int).length = s.bases.length := by rw [List.length_map, List.length_map]
          refine lc_range (lo := 0) (n := ((s.bases.map fun b => ((s.shared * b : Nat) : Int)).map V.int).length) (fun i H' => Same H4 H' ∧ ∃ ts : List Addr, ts.length = i ∧ H' D = some (.lst (ts.map V.ref)) ∧ (∀ t ∈ ts, H4 t = none) ∧ ∀ (j : Nat) (t : Addr), ts[j]? = some t → H' t = some (.tup [.int (negRest s.shared s.bases j), .int (j : Int)]))
            ⟨same_upd hD, [], rfl, upd_same, (fun _ z => by cases z), (fun j t z => by simp at z)⟩ (fun i H' hi hPv => ?_) (fun H5 hPv => ?_)
          · obtain ⟨z1, ts, htl, hDl, hnew, hts⟩ := hPv
            rw [hn] at hi
            refine ⟨rfl, yes_of ?_⟩
            have gi : s.bases[i]? = some s.bases[i] := List.getElem?_eq_getElem hi
            refine ⟨_, rfl, _, rfl, pr, _, _, _, rfl, rfl, SqL.of (z1 _ _ (s4 _ _ h3)), at_of (j := i) (v := V.int ((s.shared * s.bases[i] : Nat) : Int)) (by omega) (by rw [List.getElem?_map, List.getElem?_map, gi]; rfl), _, rfl, _, _, rfl, rfl, (by omega), _, _, rfl, rfl, _, rfl, (by show 2 ≤ sizeLine; decide), fun t ht => ?_⟩
            have ntD : D ≠ t := ne_of_none hDl ht
            refine ⟨ts.map V.ref, by rw [upd_ne ntD]; exact hDl, ?_, ?_, ts ++ [t], ?_, ?_, ?_, ?_⟩
            · rw [List.length_map, htl]
              exact small1000 (by have := W.ilen; omega)
            · intro b o e
              rw [upd_ne (ne_of_none e hD), upd_ne (ne_of_none (z1 _ _ e) ht)]
              exact z1 _ _ e
            · rw [List.length_append, htl]
              rfl
            · rw [upd_same, List.map_append]
              rfl
            · intro u hu
              rcases List.mem_append.mp hu with z | z
              · exact hnew u z
              · rw [List.mem_singleton.mp z]
                exact z1.free ht
            · intro j u hu
              by_cases hj : j < ts.length
              · rw [List.getElem?_append_left hj] at hu
                have e := hts j u hu
                have nuD : u ≠ D := ne_of e hDl (by intro z; cases z)
                rw [upd_ne nuD, upd_ne (ne_of_none e ht)]
                exact e
              · rw [List.getElem?_append_right (by omega)] at hu
                have ej : j = ts.length := by
                  by_cases e : j = ts.length
                  · exact e
                  · rw [List.getElem?_eq_none (by simp; omega)] at hu
                    cases hu
                subst ej
                rw [Nat.sub_self] at hu
                have eu : t = u := Option.some.inj hu
                subst eu
                rw [upd_ne ntD.symm, upd_same, htl]
                unfold negRest
                rw [List.getD_eq_getElem?_getD, gi]
                show some (HO.tup [.int (0 - ((s.shared * s.bases[i] : Nat) : Int) % ((s.whole : Nat) : Int)), .int (0 + (i : Int))]) = _
                rw [Int.zero_add, ← Int.natCast_emod]
                rfl
          · obtain ⟨z5, ts, htl, hDl, hnew, hts⟩ := hPv
            rw [hn] at htl
            refine ⟨D, ts.map V.ref, pairAt H5, rfl, SqL.of hDl, ?_, fun ys rs hsrt hstb hrs => ?_⟩
            · intro x hx
              obtain ⟨t, ht, rfl⟩ := List.mem_map.mp hx
              obtain ⟨j, hj⟩ := List.mem_iff_getElem?.mp ht
              have e := hts j t hj
              exact ⟨t, rfl, by rw [pairAt_of e]; exact e⟩
            · obtain ⟨hks, hah⟩ := sorted_places (T := s.shared) (B := s.bases) (H := H5) htl hts hsrt hstb.perm
              have hF5 : H5 fo = some (.lst ((s.bases.map fun b => ((s.shared * b / s.bases.sum : Nat) : Int)).map V.int)) := z5 _ _ h4
              have hF6 : (upd H5 rs (.lst ys)) fo = some (.lst ((s.bases.map fun b => ((s.shared * b / s.bases.sum : Nat) : Int)).map V.int)) := by rw [upd_ne (ne_of_none hF5 hrs)]; exact hF5
              -- rests[:whole - sum(found)]
              refine ⟨_, rfl, _, rfl, _, rfl, fo, _, rfl, SqL.of hF6, _, _, rfl, rfl, _, rfl, rs, ys, rfl, SqL.of upd_same, fun p hp => ?_⟩
              have el : (s.bases.map fun b => ((s.shared * b / s.bases.sum : Nat) : Int)).sum = (((s.bases.map fun b => s.shared * b / s.bases.sum).sum : Nat) : Int) := AvM.cast_sum_map _ _
              have hle := AvM.low_sum_le s.shared s.bases
              have em : ((s.shared : Nat) : Int) - (s.bases.map fun b => ((s.shared * b / s.bases.sum : Nat) : Int)).sum = ((s.shared - (s.bases.map fun b => s.shared * b / s.bases.sum).sum : Nat) : Int) := by
                rw [el]
                omega
              refine ⟨p, rfl, ⟨_, SqL.of upd_same⟩, ?_⟩
              have hfoN : H fo = none := ((s1.trans s2).trans s3).free hfo
              have npf : p ≠ fo := (ne_of_none hF6 hp).symm
              refine contributions_loop (K := K) (s := s) (H0 := H) (ys := ys) (ks := ys.map fun y => (pairAt H5 y).2.toNat) (low := s.bases.map fun b => s.shared * b / s.bases.sum) (m := s.shared - (s.bases.map fun b => s.shared * b / s.bases.sum).sum) ?_ hfoN ?_ npf ?_ ?_ ?_ ?_ ?_
              · intro b o hb e
                have e5 := z5 _ _ (s4 _ _ (s3 _ _ (s2 _ _ (s1 _ _ e))))
                have e6 : (upd H5 rs (.lst ys)) b = some o := by rw [upd_ne (ne_of_none e5 hrs)]; exact e5
                rw [upd_ne (ne_of_none e6 hp)]
                exact e6
              · rw [upd_ne npf.symm, hF6, List.map_map, List.map_map]
                rfl
              · rw [upd_same]
                show some (HO.lst (cutV ys none (some (((s.shared : Nat) : Int) - (s.bases.map fun b => ((s.shared * b / s.bases.sum : Nat) : Int)).sum)))) = _
                rw [em, cut_to]
              · rw [List.length_map]
                exact hks
              · intro i y hy
                have hyts := hstb.perm.mem_iff.mp (List.mem_of_getElem? hy)
                obtain ⟨t, ht, rfl⟩ := List.mem_map.mp hyts
                obtain ⟨j, hj⟩ := List.mem_iff_getElem?.mp ht
                have e := hts j t hj
                have e6 : (upd H5 rs (.lst ys)) t = some (.tup [.int (negRest s.shared s.bases j), .int (j : Int)]) := by rw [upd_ne (ne_of_none e hrs)]; exact e
                refine ⟨t, _, j, rfl, ?_, ne_of e hF5 (by intro z; cases z), by rw [upd_ne (ne_of_none e6 hp)]; exact e6⟩
                rw [List.getElem?_map, hy]
                show some ((pairAt H5 (.ref t)).2.toNat) = some j
                rw [pairAt_of e]
                rfl
              · rw [List.length_map]
              · intro H' sH hH
                refine q H' fo sH hfoN ?_
                rw [hH]
                unfold contribs Kg88.State.contributions
                rw [AvM.shares_take (by show s.bases.sum ≠ 0; exact Nat.pos_iff_ne_zero.mp hw0) hks hah, List.map_map]
                rfl
end
end Av

namespace Av
open PySem PySem.Spec PyProof.Rows L2
open AvM (Wf WfI)
/-! ### a list of ints against the empty list -/
theorem canLay_ints : ∀ ns : List Int, PyData.canLayAll0 (ns.map PyData.int) = true
  | [] => rfl
  | n :: r => by
    rw [List.map_cons, PyData.canLayAll0, canLay_ints r]
    rfl
theorem depth_ints : ∀ ns : List Int, PyData.depthAll (ns.map PyData.int) = 0
  | [] => rfl
  | n :: r => by
    rw [List.map_cons, PyData.depthAll, depth_ints r]
    rfl
theorem shaped_ints (ns : List Int) : SeqAt.shaped (.list (ns.map PyData.int)) = true := by
  unfold SeqAt.shaped
  rw [PyData.canLay0, PyData.depth, canLay_ints, depth_ints]
  rfl
theorem dp_ints {K : PySem.W.Frag} {H : Hp} : ∀ ns : List Int, DpAll K H (ns.map V.int) (ns.map PyData.int)
  | [] => .nil
  | n :: r => .cons (.int n) (dp_ints r)
theorem eqv_nil (ns : List Int) : PyData.eqv (.list (ns.map PyData.int)) (.list (([] : List Int).map PyData.int)) = ns.isEmpty := by
  cases ns with
  | nil => rw [PyData.eqv]; rfl
  | cons n r => rw [PyData.eqv]; rfl
section
variable {P : Program} {w : World} {K : PySem.W.Frag} {mg : Str → Option Value} {base : Heap} {C : Cs}
abbrev nBalances : List Str := ["average", "row", "number"]
theorem scBalances : FnScope nBalances ["average"] (defScope sBalances) := ⟨rfl, rfl, rfl, by decide +kernel, rfl, by decide +kernel, by decide +kernel⟩
theorem ok_balances (D : DefAt K mg "balances" sBalances ["average"]) (T : Txt K mg C) (hC : Has P w K mg base 5 "contributions" ["average"] (spL C contribs)) (hO : Has P w K mg base 3 "owed" ["average", "number"] (spOwed C)) : Has P w K mg base 6 "balances" ["average"] (spL C Kg88.State.balances) := by
  obtain ⟨f, fd, F, b, m⟩ := D.ex
  obtain ⟨fc, fdc, GC, bC, mC, kC⟩ := hC
  obtain ⟨fo, fdo, GO, bO, mO, kO⟩ := hO
  refine ⟨f, fd, F.ok scBalances (fun vs H Q E h => ?_) (fun cdv A outer s H vs Q E hr h => ?_), b, m, F.kp⟩
  · obtain ⟨a, s, li, le, is, es, rfl, _⟩ := h
    rfl
  · obtain ⟨a, s, li, le, is, es, rfl, hA, W, hcan, q⟩ := h
    have hr3 : Room 3 _ := hr.mono (by decide)
    refine ⟨_, pss_cons (ps_set (i := 1) scBalances.nd rfl (Or.inr rfl) (pe_call GC hr rfl mC kC bC .nil pass0 (pa_cons (pv 0) pa_nil)))
      (pss_one (ps_ret (pe_lc (own := [("number", 2)]) (g := gName 2) (tt := tYes) (te := tOp (rI0 fun i j => .int (i - j)) (tOp (rIxL K) (tVar 1) (tVar 2)) (tCall (spOwed C) [] E0 (tCons (tVar 0) (tCons (tVar 2) tNil)))) rfl scBalances.nd
        (pi_range1 rfl T.range (pa_cons (pe_callB call_len_seq (by rfl) T.len PySem.boot_len (pa_cons (pv 1) pa_nil)) pa_nil))
        (blkOk_by (own := [("number", 2)]) (N := nBalances) (sc := defScope sBalances) (by decide +kernel)) (fun _ _ _ _ _ => pg_name (i := 2) scBalances.nd rfl (Or.inl rfl)) (fun _ _ _ _ _ => pts_nil)
        (fun _ _ _ _ _ => by exact (pe_op op_sub (pe_ix ix_list (pv 1) (pv 2) (fun _ _ => rfl)) (pe_call GO hr3 rfl mO kO bO .nil pass0 (pa_cons (pv 0) (pa_cons (pv 2) pa_nil)))))))), ?_⟩
    have hcl := AvM.contributions_length s
    have hbl := AvM.balances_length s
    have hi20 := W.ilen
    refine ⟨_, rfl, a, s, li, le, is, es, rfl, hA, W, hcan, fun H1 row s1 hrow h1 => ?_⟩
    have lB : s.balances.length ≤ 1000 := by omega
    have hn : ((contribs s).map V.int).length = s.interests.length := by
      unfold contribs
      rw [List.length_map, List.length_map, hcl]
    refine ⟨_, rfl, row, _, rfl, .inl (SqL.of h1), (((contribs s).map V.int).length : Nat), rfl, by omega, by omega, fun R hR => ?_⟩
    refine lc_growR (n := ((contribs s).map V.int).length) (tk s.balances) hR rfl (fun i _ => tk_small lB i) (fun i H' Q' R' hi z1 k1 k2 => ?_) (fun H' z1 hl' => ?_)
    · rw [hn] at hi
      have hc : s.contributions[i]? = some (s.contributions[i]'(by omega)) := List.getElem?_eq_getElem (by omega)
      refine ⟨rfl, yes_of ?_⟩
      refine ⟨_, rfl, _, rfl, row, _, _, _, rfl, rfl, SqL.of (z1 _ _ h1), at_of (j := i) (v := V.int ((s.contributions[i]'(by omega) : Nat) : Int)) (by omega) (by unfold contribs; rw [List.getElem?_map, List.getElem?_map, hc]; rfl), ?_⟩
      refine ⟨_, rfl, _, rfl, a, s, li, le, is, es, i, ?_, hi, hA.same (s1.trans z1), W, fun H2 z2 => ?_⟩
      · show [V.ref a, V.int (0 + (i : Int))] = [V.ref a, V.int (i : Int)]
        rw [Int.zero_add]
      · refine ⟨_, _, rfl, rfl, k1 _ _ z2 (tk_more ?_)⟩
        rw [AvM.balances_get, hc]
        rfl
    · refine q H' R (s1.trans z1) (s1.free hR) ?_
      rw [hl', tk_all (by rw [hn, hbl])]
/-! ### payments -/
/-- the payments' tuples stand at ts -/
def PaysAt (H : Hp) (ts : List Addr) (ps : List (Nat × Nat × Nat)) : Prop := ts.length = ps.length ∧ ∀ (j : Nat) (t : Addr) (p : Nat × Nat × Nat), ts[j]? = some t → ps[j]? = some p → H t = some (.tup [.int (p.1 : Int), .int (p.2.1 : Int), .int (p.2.2 : Int)])
def spPayments (C : Cs) : Sp := fun vs H Q _ => ∃ (a : Addr) (s : Kg88.State) (li le : Addr) (is es : List Addr), vs = [.ref a] ∧ AvAt C H a s li le is es ∧ Wf s ∧ s.can = true ∧
  ∀ H' p ts, Same H H' → H p = none → H' p = some (.lst (ts.map V.ref)) → PaysAt H' ts s.transfers → Q (.ref p) H'
def nats (l : List Nat) : List V := l.map fun n : Nat => V.int (n : Int)
theorem nats_eq (l : List Nat) : nats l = (l.map fun n : Nat => (n : Int)).map V.int := by
  unfold nats
  rw [List.map_map]
  rfl
theorem nats_len (l : List Nat) : (nats l).length = l.length := by
  unfold nats
  rw [List.length_map]
theorem range_filter_more (p : Nat → Bool) (i : Nat) : (List.range (i + 1)).filter p = (List.range i).filter p ++ if p i = true then [i] else [] := by
  rw [List.range_succ, List.filter_append]
  by_cases h : p i = true
  · rw [if_pos h, List.filter_cons_of_pos h]
    rfl
  · rw [if_neg h, List.filter_cons_of_neg h]
    rfl
theorem getD_at {l : List Int} {i : Nat} (h : i < l.length) : (l.map V.int)[i]? = some (V.int (l.getD i 0)) := by
  rw [List.getElem?_map, List.getElem?_eq_getElem h, List.getD_eq_getElem?_getD, List.getElem?_eq_getElem h]
  rfl
abbrev nPayments : List Str := ["average", "left", "found", "payers", "paid", "payer", "other", "units", "number"]
theorem scPayments : FnScope nPayments ["average"] (defScope sPayments) := ⟨rfl, rfl, rfl, by decide +kernel, rfl, by decide +kernel, by decide +kernel⟩
/-- [number for number in range(len(left)) if left[number] .. 0]: its list -/
theorem lc_who {D lf : Addr} {l : List Int} {σ : L2.St} {H1 : Hp} {Qd : Hp → Prop} {r : R2} {p : Int → Bool} {n : Nat} (hσ : ∀ v, ((wipe σ [8]).set 8 (some v))[1]? = some (some (.ref lf))) (hσ8 : ∀ v, ((wipe σ [8]).set 8 (some v))[8]? = some (some v)) (hw : ∀ v, wipe ((wipe σ [8]).set 8 (some v)) [8] = wipe σ [8])
    (hr : ∀ z H (Q : VK), Q (.bl (p z)) H → r (.int z) (.int 0) H Q) (hD : H1 D = none) (hlf : H1 lf = some (.lst (l.map V.int))) (hn : n = l.length) (hl : l.length ≤ 1000)
    (hd : ∀ H', Same H1 H' → H' D = some (.lst (nats ((List.range l.length).filter fun i => p (l.getD i 0)))) → Qd H') :
    ∃ W : Nat → Nat → Hp → Prop, (∃ m, W 0 m (upd H1 D (.lst []))) ∧ ∀ i m H, W i m H →
      ((Itr 0 n).stop i H ∧ Qd H) ∨ ((Itr 0 n).go i H ∧ ∃ Nx : Hp → Prop, (∀ H', Nx H' → ∃ m', m' < m ∧ W (i + 1) m' H') ∧ ∀ x H', (Itr 0 n).yld i H x H' → (gName 8) x (wipe σ [8]) H' fun σ2 H2 => wipe σ2 [8] = wipe σ [8] ∧ (tTest (tOp r (tOp (rIxL K) (tVar 1) (tVar 8)) (tC (.int 0)))) σ2 H2 fun b H3 =>
        if b = true then (tVar 8) σ2 H3 fun y H4 => ∃ acc, H4 D = some (.lst acc) ∧ acc.length < sizeLine ∧ Nx (upd H4 D (.lst (acc ++ [y]))) else Nx H3) := by
  subst hn
  refine lc_growR (n := l.length) (fun i => nats ((List.range i).filter fun i => p (l.getD i 0))) hD rfl (fun i hi => ?_) (fun i H' Q' R' hi z1 k1 k2 => ?_) hd
  · rw [nats_len]
    have := List.length_filter_le (fun i => p (l.getD i 0)) (List.range i)
    rw [List.length_range] at this
    exact small1000 (by omega)
  · refine ⟨hw _, ?_⟩
    refine ⟨_, hσ _, _, hσ8 _, lf, _, _, _, rfl, rfl, SqL.of (z1 _ _ hlf), at_of (j := i) (v := V.int (l.getD i 0)) (by omega) (getD_at hi), hr _ _ _ ?_⟩
    refine ⟨_, rfl, ?_⟩
    have more := range_filter_more (fun i => p (l.getD i 0)) i
    refine ite2 (fun c => ?_) (fun c => ?_)
    · refine ⟨_, hσ8 _, k1 _ _ (Same.refl _) ?_⟩
      show nats ((List.range (i + 1)).filter fun i => p (l.getD i 0)) = _
      rw [more, if_pos c]
      unfold nats
      rw [List.map_append, Int.zero_add]
      rfl
    · refine k2 _ (Same.refl _) ?_
      show nats ((List.range (i + 1)).filter fun i => p (l.getD i 0)) = _
      rw [more, if_neg c, List.append_nil]
/-- [number for number in LIST if left[number] .. 0]: its list -/
theorem lc_still {D lf pa : Addr} {l : List Int} {ns : List Nat} {σ : L2.St} {H1 : Hp} {Qd : Hp → Prop} {r : R2} {p : Int → Bool} (hσ : ∀ v, ((wipe σ [8]).set 8 (some v))[1]? = some (some (.ref lf))) (hσ8 : ∀ v, ((wipe σ [8]).set 8 (some v))[8]? = some (some v)) (hw : ∀ v, wipe ((wipe σ [8]).set 8 (some v)) [8] = wipe σ [8])
    (hr : ∀ z H (Q : VK), Q (.bl (p z)) H → r (.int z) (.int 0) H Q) (hD : H1 D = none) (hlf : H1 lf = some (.lst (l.map V.int))) (hpa : H1 pa = some (.lst (nats ns))) (hns : ∀ i ∈ ns, i < l.length) (hl : ns.length ≤ 1000)
    (hd : ∀ H', Same H1 H' → H' D = some (.lst (nats (ns.filter fun i => p (l.getD i 0)))) → Qd H') :
    ∃ W : Nat → Nat → Hp → Prop, (∃ m, W 0 m (upd H1 D (.lst []))) ∧ ∀ i m H, W i m H →
      ((Itl K pa).stop i H ∧ Qd H) ∨ ((Itl K pa).go i H ∧ ∃ Nx : Hp → Prop, (∀ H', Nx H' → ∃ m', m' < m ∧ W (i + 1) m' H') ∧ ∀ x H', (Itl K pa).yld i H x H' → (gName 8) x (wipe σ [8]) H' fun σ2 H2 => wipe σ2 [8] = wipe σ [8] ∧ (tTest (tOp r (tOp (rIxL K) (tVar 1) (tVar 8)) (tC (.int 0)))) σ2 H2 fun b H3 =>
        if b = true then (tVar 8) σ2 H3 fun y H4 => ∃ acc, H4 D = some (.lst acc) ∧ acc.length < sizeLine ∧ Nx (upd H4 D (.lst (acc ++ [y]))) else Nx H3) := by
  refine lc_grow (K := K) (a := pa) (xs := nats ns) (fun i => nats ((ns.take i).filter fun i => p (l.getD i 0))) hD (SqL.of hpa) rfl (fun i hi => ?_) (fun i x H' Q' R' hx z1 k1 k2 => ?_) (fun H' z1 h => hd H' z1 ?_)
  · rw [nats_len]
    have := List.length_filter_le (fun i => p (l.getD i 0)) (ns.take i)
    rw [List.length_take] at this
    exact small1000 (by omega)
  · obtain ⟨k, hk, rfl⟩ := map_at (f := fun n : Nat => V.int (n : Int)) hx
    have hkl := hns k (List.mem_of_getElem? hk)
    refine ⟨hw _, ?_⟩
    refine ⟨_, hσ _, _, hσ8 _, lf, _, _, _, rfl, rfl, SqL.of (z1 _ _ hlf), at_of (j := k) (v := V.int (l.getD k 0)) rfl (getD_at hkl), hr _ _ _ ?_⟩
    refine ⟨_, rfl, ?_⟩
    refine ite2 (fun c => ?_) (fun c => ?_)
    · refine ⟨_, hσ8 _, k1 _ _ (Same.refl _) ?_⟩
      show nats ((ns.take (i + 1)).filter fun i => p (l.getD i 0)) = _
      rw [AvM.take_more hk, List.filter_append, List.filter_cons_of_pos (p := fun i => p (l.getD i 0)) c]
      unfold nats
      rw [List.map_append]
      rfl
    · refine k2 _ (Same.refl _) ?_
      show nats ((ns.take (i + 1)).filter fun i => p (l.getD i 0)) = _
      rw [AvM.take_more hk, List.filter_append, List.filter_cons_of_neg (p := fun i => p (l.getD i 0)) c, List.filter_nil, List.append_nil]
  · rw [h, nats_len, List.take_length]
/-- between two turns of the loop -/
structure Open (H0 H : Hp) (s : Kg88.State) (lf fo pa pd : Addr) (l : List Int) (ts : List Addr) (done : List (Nat × Nat × Nat)) (f : Nat) : Prop where
  same : Same H0 H
  nlf : H0 lf = none
  nfo : H0 fo = none
  lf_fo : lf ≠ fo
  lf_pa : lf ≠ pa
  lf_pd : lf ≠ pd
  fo_pa : fo ≠ pa
  fo_pd : fo ≠ pd
  hlf : H lf = some (.lst (l.map V.int))
  hfo : H fo = some (.lst (ts.map V.ref))
  hpa : H pa = some (.lst (nats (AvM.payersOf l)))
  hpd : H pd = some (.lst (nats (AvM.paidOf l)))
  len : l.length = s.interests.length
  pays : PaysAt H ts done
  eq : done ++ Kg88.settle f l = s.transfers
  fuel : AvM.open_ l ≤ f
theorem payers_mem {l : List Int} : ∀ i ∈ AvM.payersOf l, i < l.length := fun i hi => List.mem_range.mp (List.mem_filter.mp hi).1
theorem paid_mem {l : List Int} : ∀ i ∈ AvM.paidOf l, i < l.length := fun i hi => List.mem_range.mp (List.mem_filter.mp hi).1
theorem payers_len (l : List Int) : (AvM.payersOf l).length ≤ l.length := by
  have := List.length_filter_le (fun i => decide (0 < l.getD i 0)) (List.range l.length)
  rw [List.length_range] at this
  exact this
theorem paid_len (l : List Int) : (AvM.paidOf l).length ≤ l.length := by
  have := List.length_filter_le (fun i => decide (l.getD i 0 < 0)) (List.range l.length)
  rw [List.length_range] at this
  exact this
theorem PaysAt.same {H H' : Hp} {ts : List Addr} {ps : List (Nat × Nat × Nat)} (h : PaysAt H ts ps) (z : Same H H') : PaysAt H' ts ps := ⟨h.1, fun j t p e1 e2 => z _ _ (h.2 j t p e1 e2)⟩
theorem PaysAt.more {H : Hp} {ts : List Addr} {ps : List (Nat × Nat × Nat)} {t : Addr} {p : Nat × Nat × Nat} (h : PaysAt H ts ps) (e : H t = some (.tup [.int (p.1 : Int), .int (p.2.1 : Int), .int (p.2.2 : Int)])) : PaysAt H (ts ++ [t]) (ps ++ [p]) := by
  refine ⟨by rw [List.length_append, List.length_append, h.1]; rfl, fun j u r e1 e2 => ?_⟩
  by_cases hj : j < ts.length
  · rw [List.getElem?_append_left hj] at e1
    rw [List.getElem?_append_left (by rw [← h.1]; exact hj)] at e2
    exact h.2 j u r e1 e2
  · rw [List.getElem?_append_right (by omega)] at e1
    rw [List.getElem?_append_right (by rw [← h.1]; omega), ← h.1] at e2
    have hz : j - ts.length = 0 := by
      by_cases e : j - ts.length = 0
      · exact e
      · rw [List.getElem?_eq_none (by simp; omega)] at e1
        cases e1
    rw [hz] at e1 e2
    have e3 : t = u := Option.some.inj e1
    have e4 : p = r := Option.some.inj e2
    subst e3 e4
    exact e
/-- a list of the loop changes: no tuple does -/
theorem PaysAt.upd {H : Hp} {ts : List Addr} {ps : List (Nat × Nat × Nat)} {b : Addr} {xs ys : List V} (h : PaysAt H ts ps) (hb : H b = some (.lst xs)) : PaysAt (upd H b (.lst ys)) ts ps :=
  ⟨h.1, fun j t p e1 e2 => by
    have e := h.2 j t p e1 e2
    rw [upd_ne (ne_of e hb (by intro z; cases z))]
    exact e⟩
end
end Av

namespace Av
open PySem PySem.Spec PyProof.Rows L2
open AvM (Wf WfI)
theorem if_true_of {c : Bool} {A B : Prop} (hc : c = true) (h : A) : if c = true then A else B := by
  rw [if_pos hc]
  exact h
theorem if_false_of {c : Bool} {A B : Prop} (hc : c = false) (h : B) : if c = true then A else B := by
  rw [hc, if_neg Bool.false_ne_true]
  exact h
section
variable {P : Program} {w : World} {K : PySem.W.Frag} {mg : Str → Option Value} {base : Heap} {C : Cs}
theorem ixN_of {n k : Nat} (h : k < n) : ixN n (k : Int) = some k := by
  unfold ixN
  rw [if_pos (by omega), if_pos (by omega), Int.toNat_natCast]
/-- the heap behind one turn's stores -/
theorem turn_heap {H0 H : Hp} {s : Kg88.State} {lf fo pa pd t : Addr} {l : List Int} {ts : List Addr} {done : List (Nat × Nat × Nat)} {f : Nat} {i j : Nat} {ps qs : List Nat} (O : Open H0 H s lf fo pa pd l ts done (f + 1)) (e1 : AvM.payersOf l = i :: ps) (e2 : AvM.paidOf l = j :: qs)
    (ht : H t = none) {x y : List V} (hy : y = (AvM.paidUp l i j).map V.int) :
    let H5 := upd (upd (upd (upd H t (.tup [.int (i : Int), .int (j : Int), .int (AvM.unit l i j)])) fo (.lst (ts.map V.ref ++ [.ref t]))) lf (.lst x)) lf (.lst y)
    Same H0 H5 ∧ H5 lf = some (.lst ((AvM.paidUp l i j).map V.int)) ∧ H5 fo = some (.lst ((ts ++ [t]).map V.ref)) ∧ H5 pa = some (.lst (nats (AvM.payersOf l))) ∧ H5 pd = some (.lst (nats (AvM.paidOf l))) ∧ PaysAt H5 (ts ++ [t]) (done ++ [(i, j, (AvM.unit l i j).toNat)]) := by
  have T := AvM.turn_of e1 e2
  have hu := T.pos
  have n1 : fo ≠ t := ne_of_none O.hfo ht
  have n2 : lf ≠ t := ne_of_none O.hlf ht
  have n3 : pa ≠ t := ne_of_none O.hpa ht
  have n4 : pd ≠ t := ne_of_none O.hpd ht
  have hz : Same H (upd H t (.tup [.int (i : Int), .int (j : Int), .int (AvM.unit l i j)])) := same_upd ht
  have hfo1 : (upd H t (.tup [.int (i : Int), .int (j : Int), .int (AvM.unit l i j)])) fo = some (.lst (ts.map V.ref)) := hz _ _ O.hfo
  refine ⟨fun b o e => ?_, ?_, ?_, ?_, ?_, ?_⟩
  · rw [upd_upd, upd_ne (ne_of_none e O.nlf), upd_ne (ne_of_none e O.nfo)]
    exact hz _ _ (O.same _ _ e)
  · rw [upd_same, hy]
  · rw [upd_upd, upd_ne O.lf_fo.symm, upd_same, List.map_append]
    rfl
  · rw [upd_upd, upd_ne O.lf_pa.symm, upd_ne O.fo_pa.symm]
    exact hz _ _ O.hpa
  · rw [upd_upd, upd_ne O.lf_pd.symm, upd_ne O.fo_pd.symm]
    exact hz _ _ O.hpd
  · rw [upd_upd]
    have hlf1 : (upd (upd H t (.tup [.int (i : Int), .int (j : Int), .int (AvM.unit l i j)])) fo (.lst (ts.map V.ref ++ [.ref t]))) lf = some (.lst (l.map V.int)) := by
      rw [upd_ne O.lf_fo]
      exact hz _ _ O.hlf
    refine PaysAt.upd (PaysAt.upd (PaysAt.more (O.pays.same hz) ?_) hfo1) hlf1
    rw [upd_same]
    show some (HO.tup [.int (i : Int), .int (j : Int), .int (AvM.unit l i j)]) = some (HO.tup [.int (i : Int), .int (j : Int), .int (((AvM.unit l i j).toNat : Nat) : Int)])
    rw [Int.toNat_of_nonneg (by omega)]
theorem ok_payments (D : DefAt K mg "payments" sPayments ["average"]) (T : Txt K mg C) (hB : Has P w K mg base 6 "balances" ["average"] (spL C Kg88.State.balances)) : Has P w K mg base 7 "payments" ["average"] (spPayments C) := by
  obtain ⟨f, fd, F, b, m⟩ := D.ex
  obtain ⟨fb, fdb, GB, bB, mB, kB⟩ := hB
  refine ⟨f, fd, F.ok scPayments (fun vs H Q E h => ?_) (fun cdv A outer s H vs Q E hr h => ?_), b, m, F.kp⟩
  · obtain ⟨a, s, li, le, is, es, rfl, _⟩ := h
    rfl
  · obtain ⟨a, s, li, le, is, es, rfl, hA, W, hcan, q⟩ := h
    refine ⟨_, pss_cons (ps_set (i := 1) scPayments.nd rfl (Or.inr rfl) (pe_call GB hr rfl mB kB bB .nil pass0 (pa_cons (pv 0) pa_nil)))
      (pss_cons (ps_set (i := 2) scPayments.nd rfl (Or.inl rfl) (pe_lst pa_nil))
      (pss_cons (ps_setLc (i := 3) (own := [("number", 8)]) (g := gName 8) (tt := tTest (tOp (rI0 fun i j => .bl (decide (j < i))) (tOp (rIxL K) (tVar 1) (tVar 8)) (tC (.int 0)))) (te := tVar 8) rfl scPayments.nd rfl rfl (sw_true rfl rfl rfl (by decide +kernel))
        (pi_range1 rfl T.range (pa_cons (pe_callB call_len_seq (by rfl) T.len PySem.boot_len (pa_cons (pv 1) pa_nil)) pa_nil))
        (blkOk_by (own := [("number", 8)]) (N := nPayments) (sc := defScope sPayments) (by decide +kernel)) (fun _ _ _ _ _ => pg_name (i := 8) scPayments.nd rfl (Or.inl rfl))
        (fun _ _ _ _ _ => by exact (pts_one (pt_cmpR op_gt (pe_ix ix_list (pv 1) (pv 8) (fun _ _ => rfl)) pe_int (nomark _)))) (fun _ _ _ _ _ => by exact (pv 8)))
      (pss_cons (ps_setLc (i := 4) (own := [("number", 8)]) (g := gName 8) (tt := tTest (tOp (rI0 fun i j => .bl (decide (i < j))) (tOp (rIxL K) (tVar 1) (tVar 8)) (tC (.int 0)))) (te := tVar 8) rfl scPayments.nd rfl rfl (sw_true rfl rfl rfl (by decide +kernel))
        (pi_range1 rfl T.range (pa_cons (pe_callB call_len_seq (by rfl) T.len PySem.boot_len (pa_cons (pv 1) pa_nil)) pa_nil))
        (blkOk_by (own := [("number", 8)]) (N := nPayments) (sc := defScope sPayments) (by decide +kernel)) (fun _ _ _ _ _ => pg_name (i := 8) scPayments.nd rfl (Or.inl rfl))
        (fun _ _ _ _ _ => by exact (pts_one (pt_cmpR op_lt (pe_ix ix_list (pv 1) (pv 8) (fun _ _ => rfl)) pe_int (nomark _)))) (fun _ _ _ _ _ => by exact (pv 8)))
      (pss_cons (ps_while PassesOwn.never (PW.pt (pw_and (pt_cmpR (op_neD hr.units) (pv 3) (pe_lst pa_nil) (nomark _)) (pw_and1 (pt_cmpR (op_neD hr.units) (pv 4) (pe_lst pa_nil) (nomark _)))))
        (pss_cons (ps_set (i := 5) scPayments.nd rfl (Or.inl rfl) (pe_ix ix_list (pv 3) pe_int (fun _ _ => rfl)))
        (pss_cons (ps_set (i := 6) scPayments.nd rfl (Or.inl rfl) (pe_ix ix_list (pv 4) pe_int (fun _ _ => rfl)))
        (pss_cons (ps_set (i := 7) scPayments.nd rfl (Or.inl rfl) (pe_callB (call_min2 rfl) (by rfl) T.min (by decide +kernel) (pa_cons (pe_ix ix_list (pv 1) (pv 5) (fun _ _ => rfl)) (pa_cons (pe_op op_sub pe_int (pe_ix ix_list (pv 1) (pv 6) (fun _ _ => rfl))) pa_nil))))
        (pss_cons (ps_expr (pe_bm PySem.F.plainAttrs_list PySem.F.slot_list_append PySem.F.type_list_append mt_append (pv 2) (pa_cons (pe_tup (pa_cons (pv 5) (pa_cons (pv 6) (pa_cons (pv 7) pa_nil)))) pa_nil)))
        (pss_cons (ps_asg (pe_op op_sub (pe_ix ix_list (pv 1) (pv 5) (fun _ _ => rfl)) (pv 7)) (pg_sub (pv 1) (pv 5) set_list))
        (pss_cons (ps_asg (pe_op op_add (pe_ix ix_list (pv 1) (pv 6) (fun _ _ => rfl)) (pv 7)) (pg_sub (pv 1) (pv 6) set_list))
        (pss_cons (ps_setLc (i := 3) (own := [("number", 8)]) (g := gName 8) (tt := tTest (tOp (rI0 fun i j => .bl (decide (j < i))) (tOp (rIxL K) (tVar 1) (tVar 8)) (tC (.int 0)))) (te := tVar 8) rfl scPayments.nd rfl rfl (sw_true rfl rfl rfl (by decide +kernel)) (pi_list (pv 3))
          (blkOk_by (own := [("number", 8)]) (N := nPayments) (sc := defScope sPayments) (by decide +kernel)) (fun _ _ _ _ _ => pg_name (i := 8) scPayments.nd rfl (Or.inl rfl))
          (fun _ _ _ _ _ => by exact (pts_one (pt_cmpR op_gt (pe_ix ix_list (pv 1) (pv 8) (fun _ _ => rfl)) pe_int (nomark _)))) (fun _ _ _ _ _ => by exact (pv 8)))
        (pss_one (ps_setLc (i := 4) (own := [("number", 8)]) (g := gName 8) (tt := tTest (tOp (rI0 fun i j => .bl (decide (i < j))) (tOp (rIxL K) (tVar 1) (tVar 8)) (tC (.int 0)))) (te := tVar 8) rfl scPayments.nd rfl rfl (sw_true rfl rfl rfl (by decide +kernel)) (pi_list (pv 4))
          (blkOk_by (own := [("number", 8)]) (N := nPayments) (sc := defScope sPayments) (by decide +kernel)) (fun _ _ _ _ _ => pg_name (i := 8) scPayments.nd rfl (Or.inl rfl))
          (fun _ _ _ _ _ => by exact (pts_one (pt_cmpR op_lt (pe_ix ix_list (pv 1) (pv 8) (fun _ _ => rfl)) pe_int (nomark _)))) (fun _ _ _ _ _ => by exact (pv 8))))))))))))
      (pss_one (ps_ret (pv 2))))))), ?_⟩
    have hbl := AvM.balances_length s
    have hi20 := W.ilen
    have htl : s.transfers.length ≤ 40 := by
      unfold Kg88.State.transfers
      have := AvM.settle_length (2 * s.interests.length) s.balances
      omega
    -- left = balances(average); found = []
    refine ⟨_, rfl, a, s, li, le, is, es, rfl, hA, W, hcan, fun H1 lf s1 hlf h1 => ?_⟩
    refine ⟨Nat.zero_le _, fun fo hfo => ?_⟩
    have s2 : Same H1 (upd H1 fo (.lst [])) := same_upd hfo
    have lf_fo : lf ≠ fo := ne_of_none h1 hfo
    -- payers
    refine ⟨_, rfl, lf, _, rfl, .inl (SqL.of (s2 _ _ h1)), ((s.balances.map V.int).length : Nat), rfl, by omega, by rw [List.length_map]; omega, fun pa hpa => ?_⟩
    refine lc_who (l := s.balances) (lf := lf) (p := fun z => decide (0 < z)) (fun v => rfl) (fun v => rfl) (fun v => rfl) (fun z H Q q => ⟨z, 0, rfl, rfl, q⟩) hpa (s2 _ _ h1) (List.length_map _) (by omega) (fun H3 s3 h3 => ?_)
    -- paid
    refine ⟨_, rfl, lf, _, rfl, .inl (SqL.of (s3 _ _ (s2 _ _ h1))), ((s.balances.map V.int).length : Nat), rfl, by omega, by rw [List.length_map]; omega, fun pd hpd => ?_⟩
    refine lc_who (l := s.balances) (lf := lf) (p := fun z => decide (z < 0)) (fun v => rfl) (fun v => rfl) (fun v => rfl) (fun z H Q q => ⟨z, 0, rfl, rfl, q⟩) hpd (s3 _ _ (s2 _ _ h1)) (List.length_map _) (by omega) (fun H4 s4 h4 => ?_)
    have h1' := s4 _ _ (s3 _ _ (s2 _ _ h1))
    have hfo4 : H4 fo = some (.lst []) := s4 _ _ (s3 _ _ upd_same)
    have O0 : Open H H4 s lf fo pa pd s.balances [] [] (2 * s.interests.length) :=
      ⟨((s1.trans s2).trans s3).trans s4, hlf, s1.free hfo, lf_fo, ne_of_none (s2 _ _ h1) hpa, ne_of_none (s3 _ _ (s2 _ _ h1)) hpd, ne_of_none upd_same hpa, ne_of_none (s3 _ _ upd_same) hpd, h1', hfo4, s4 _ _ h3, h4, hbl, ⟨rfl, fun j t p e => by simp at e⟩, rfl, by rw [← hbl]; exact AvM.open_le _⟩
    -- the loop
    refine ⟨fun m σ H' => ∃ (l : List Int) (ts : List Addr) (done : List (Nat × Nat × Nat)) (f : Nat) (pa pd : Addr) (v5 v6 v7 : Option V), m = AvM.open_ l ∧ σ = [some (.ref a), some (.ref lf), some (.ref fo), some (.ref pa), some (.ref pd), v5, v6, v7, none] ∧ Open H H' s lf fo pa pd l ts done f,
      ⟨_, s.balances, [], [], _, pa, pd, none, none, none, rfl, rfl, O0⟩, ?_⟩
    clear O0 hfo4 h1' h4 s4 hpd h3 s3 hpa s2 h1 s1 hfo
    rintro m σ H' ⟨l, ts, done, fu, pa, pd, v5, v6, v7, rfl, rfl, O⟩
    refine ⟨_, rfl, Nat.zero_le _, fun n1 hn1 => ?_⟩
    have z1 : Same H' (upd H' n1 (.lst [])) := same_upd hn1
    refine ⟨_, _, .lst (xs := ((AvM.payersOf l).map fun n : Nat => (n : Int)).map V.int) (SqL.of ((z1 _ _ O.hpa).trans (by rw [nats_eq]))) (dp_ints _), .lst (xs := ([] : List Int).map V.int) (SqL.of upd_same) (dp_ints _), shaped_ints _, shaped_ints _, ?_⟩
    refine ⟨_, rfl, ?_⟩
    have fin : ∀ H2, Same H' H2 → (AvM.payersOf l = [] ∨ AvM.paidOf l = []) → Q (.ref fo) H2 := fun H2 z h => by
      refine q H2 fo ts (O.same.trans z) O.nfo (z _ _ O.hfo) ?_
      have e := O.eq
      rw [AvM.settle_stop fu h, List.append_nil] at e
      rw [← e]
      exact O.pays.same z
    cases e1 : AvM.payersOf l with
    | nil =>
      refine if_false_of (by rw [eqv_nil]; rfl) ?_
      refine if_false_of rfl ?_
      exact ⟨_, rfl, fin _ z1 (.inl e1)⟩
    | cons i ps =>
      refine if_true_of (by rw [eqv_nil]; rfl) ?_
      refine ⟨_, rfl, Nat.zero_le _, fun n2 hn2 => ?_⟩
      have z2 : Same H' (upd (upd H' n1 (.lst [])) n2 (.lst [])) := z1.trans (same_upd hn2)
      refine ⟨_, _, .lst (xs := ((AvM.paidOf l).map fun n : Nat => (n : Int)).map V.int) (SqL.of ((z2 _ _ O.hpd).trans (by rw [nats_eq]))) (dp_ints _), .lst (xs := ([] : List Int).map V.int) (SqL.of upd_same) (dp_ints _), shaped_ints _, shaped_ints _, ?_⟩
      refine ⟨_, rfl, ?_⟩
      cases e2 : AvM.paidOf l with
      | nil =>
        refine if_false_of (by rw [eqv_nil]; rfl) ?_
        exact ⟨_, rfl, fin _ z2 (.inr e2)⟩
      | cons j qs =>
        refine if_true_of (by rw [eqv_nil]; rfl) ?_
        have Tn := AvM.turn_of e1 e2
        have hi := Tn.hi
        have hj := Tn.hj
        obtain ⟨f', rfl⟩ : ∃ f', fu = f' + 1 := by
          have := O.fuel
          unfold AvM.open_ at this
          rw [e1, List.length_cons] at this
          exact ⟨fu - 1, by omega⟩
        have O2 : Open H (upd (upd H' n1 (.lst [])) n2 (.lst [])) s lf fo pa pd l ts done (f' + 1) :=
          ⟨O.same.trans z2, O.nlf, O.nfo, O.lf_fo, O.lf_pa, O.lf_pd, O.fo_pa, O.fo_pd, z2 _ _ O.hlf, z2 _ _ O.hfo, z2 _ _ O.hpa, z2 _ _ O.hpd, O.len, O.pays.same z2, O.eq, O.fuel⟩
        generalize (upd (upd H' n1 (.lst [])) n2 (.lst [])) = H2 at O2
        refine ⟨fun σ' H' => ∃ m', m' < AvM.open_ l ∧ ∃ (l : List Int) (ts : List Addr) (done : List (Nat × Nat × Nat)) (f : Nat) (pa pd : Addr) (v5 v6 v7 : Option V), m' = AvM.open_ l ∧ σ' = [some (.ref a), some (.ref lf), some (.ref fo), some (.ref pa), some (.ref pd), v5, v6, v7, none] ∧ Open H H' s lf fo pa pd l ts done f, fun _ _ h => h, ?_⟩
        have hdl : ts.length ≤ 40 := by
          rw [O2.pays.1]
          have := congrArg List.length O2.eq
          rw [List.length_append] at this
          omega
        -- payer = payers[0]; other = paid[0]
        refine ⟨_, rfl, pa, _, _, _, rfl, rfl, SqL.of O2.hpa, at_of (j := 0) (v := V.int (i : Int)) rfl (by rw [e1]; rfl), ?_⟩
        refine ⟨_, rfl, pd, _, _, _, rfl, rfl, SqL.of O2.hpd, at_of (j := 0) (v := V.int (j : Int)) rfl (by rw [e2]; rfl), ?_⟩
        -- units
        refine ⟨_, rfl, _, rfl, lf, _, _, _, rfl, rfl, SqL.of O2.hlf, at_of (j := i) (v := V.int (l.getD i 0)) rfl (getD_at hi), _, rfl, _, rfl, lf, _, _, _, rfl, rfl, SqL.of O2.hlf, at_of (j := j) (v := V.int (l.getD j 0)) rfl (getD_at hj), _, _, rfl, rfl, _, _, rfl, ?_⟩
        -- found.append((payer, other, units))
        refine ⟨_, rfl, .inl ⟨rfl, _, SqL.of O2.hfo⟩, _, rfl, _, rfl, _, rfl, (by show 3 ≤ sizeLine; decide), fun t ht => ?_⟩
        have zt : Same H2 (upd H2 t (.tup [.int (i : Int), .int (j : Int), .int (AvM.unit l i j)])) := same_upd ht
        refine ⟨fo, _, _, rfl, rfl, zt _ _ O2.hfo, by rw [List.length_map]; exact small1000 (by omega), ?_⟩
        have hlf1 : (upd (upd H2 t (.tup [.int (i : Int), .int (j : Int), .int (AvM.unit l i j)])) fo (.lst (ts.map V.ref ++ [.ref t]))) lf = some (.lst (l.map V.int)) := by
          rw [upd_ne O2.lf_fo]
          exact zt _ _ O2.hlf
        -- left[payer] = left[payer] - units
        refine ⟨_, rfl, _, rfl, lf, _, _, _, rfl, rfl, SqL.of hlf1, at_of (j := i) (v := V.int (l.getD i 0)) rfl (getD_at hi), _, rfl, _, _, rfl, rfl, ?_⟩
        refine ⟨_, rfl, _, rfl, lf, _, _, i, rfl, rfl, hlf1, ixN_of (by rw [List.length_map]; exact hi), ?_⟩
        -- left[other] = left[other] + units
        refine ⟨_, rfl, _, rfl, lf, _, _, _, rfl, rfl, SqL.of upd_same, at_of (j := j) (v := V.int (l.getD j 0)) rfl (by rw [List.getElem?_set_ne Tn.ne]; exact getD_at hj), _, rfl, _, _, rfl, rfl, ?_⟩
        refine ⟨_, rfl, _, rfl, lf, _, _, j, rfl, rfl, upd_same, ixN_of (by rw [List.length_set, List.length_map]; exact hj), ?_⟩
        obtain ⟨t1, t2, t3, t4, t5, t6⟩ := turn_heap (x := (l.map V.int).set i (V.int (l.getD i 0 - AvM.unit l i j))) (y := ((l.map V.int).set i (V.int (l.getD i 0 - AvM.unit l i j))).set j (V.int (l.getD j 0 + AvM.unit l i j))) O2 e1 e2 ht (by unfold AvM.paidUp; rw [List.map_set, List.map_set])
        have hpl := AvM.paidUp_length l i j
        have hp1 := payers_len l
        have hp2 := paid_len l
        have hlen := O2.len
        -- payers, paid
        refine ⟨_, rfl, pa, rfl, ⟨_, SqL.of t4⟩, fun pa' hpa' => ?_⟩
        refine lc_still (l := AvM.paidUp l i j) (ns := AvM.payersOf l) (lf := lf) (p := fun z => decide (0 < z)) (fun v => rfl) (fun v => rfl) (fun v => rfl) (fun z H Q q => ⟨z, 0, rfl, rfl, q⟩) hpa' t2 t4 (fun k hk => by rw [hpl]; exact payers_mem k hk) (by omega) (fun H6 s6 h6 => ?_)
        refine ⟨_, rfl, pd, rfl, ⟨_, SqL.of (s6 _ _ t5)⟩, fun pd' hpd' => ?_⟩
        refine lc_still (l := AvM.paidUp l i j) (ns := AvM.paidOf l) (lf := lf) (p := fun z => decide (z < 0)) (fun v => rfl) (fun v => rfl) (fun v => rfl) (fun z H Q q => ⟨z, 0, rfl, rfl, q⟩) hpd' (s6 _ _ t2) (s6 _ _ t5) (fun k hk => by rw [hpl]; exact paid_mem k hk) (by omega) (fun H7 s7 h7 => ?_)
        have z7 := s6.trans s7
        have ff := Tn.fewer
        have hfu := O2.fuel
        refine ⟨_, ff, AvM.paidUp l i j, ts ++ [t], done ++ [(i, j, (AvM.unit l i j).toNat)], f', pa', pd', _, _, _, rfl, rfl, ?_⟩
        refine ⟨t1.trans z7, O2.nlf, O2.nfo, O2.lf_fo, ne_of_none t2 hpa', ne_of_none (s6 _ _ t2) hpd', ne_of_none t3 hpa', ne_of_none (s6 _ _ t3) hpd', z7 _ _ t2, z7 _ _ t3, (s7 _ _ h6).trans ?_, h7.trans ?_, hpl.trans hlen, t6.same z7, ?_, by omega⟩
        · rw [Tn.payers]
        · rw [Tn.paid]
        · have e := O2.eq
          rw [AvM.settle_turn f' e1 e2] at e
          rw [List.append_assoc]
          exact e
end
end Av

namespace Av
open PySem PySem.Spec PyProof.Rows L2
open AvM (Wf WfI)
def adjL (s : Kg88.State) : List Int := ((s.shared : Nat) : Int) :: (s.contributions.zip s.balances).flatMap fun x => [((x.1 : Nat) : Int), x.2]
def traL (s : Kg88.State) : List Int := ((s.transfers.length : Nat) : Int) :: s.transfers.flatMap fun x => Kg88.whole [x.1, x.2.1, x.2.2]
theorem flat_more {α β : Type} {f : α → List β} {l : List α} {i : Nat} {x : α} (h : l[i]? = some x) : (l.take (i + 1)).flatMap f = (l.take i).flatMap f ++ f x := by
  rw [AvM.take_more h, List.flatMap_append, List.flatMap_cons, List.flatMap_nil, List.append_nil]
theorem flat_len {α β : Type} {f : α → List β} {n : Nat} (hf : ∀ x, (f x).length = n) : ∀ l : List α, (l.flatMap f).length = l.length * n
  | [] => by simp
  | x :: r => by
    rw [List.flatMap_cons, List.length_append, hf, flat_len hf r, List.length_cons, Nat.succ_mul]
    omega
section
variable {P : Program} {w : World} {K : PySem.W.Frag} {mg : Str → Option Value} {base : Heap} {C : Cs}
abbrev nAdjust : List Str := ["average", "found", "contribution", "balance"]
theorem scAdjust : FnScope nAdjust ["average"] (defScope sAdjust) := ⟨rfl, rfl, rfl, by decide +kernel, rfl, by decide +kernel, by decide +kernel⟩
theorem ok_adjust (D : DefAt K mg "adjust" sAdjust ["average"]) (T : Txt K mg C) (hS : Has P w K mg base 4 "shared" ["average"] (spA C Kg88.State.shared)) (hC : Has P w K mg base 5 "contributions" ["average"] (spL C contribs)) (hB : Has P w K mg base 6 "balances" ["average"] (spL C Kg88.State.balances)) :
    Has P w K mg base 7 "adjust" ["average"] (spL C adjL) := by
  obtain ⟨f, fd, F, b, m⟩ := D.ex
  obtain ⟨fs, fds, GS, bS, mS, kS⟩ := hS
  obtain ⟨fc, fdc, GC, bC, mC, kC⟩ := hC
  obtain ⟨fb, fdb, GB, bB, mB, kB⟩ := hB
  refine ⟨f, fd, F.ok scAdjust (fun vs H Q E h => ?_) (fun cdv A outer s H vs Q E hr h => ?_), b, m, F.kp⟩
  · obtain ⟨a, s, li, le, is, es, rfl, _⟩ := h
    rfl
  · obtain ⟨a, s, li, le, is, es, rfl, hA, W, hcan, q⟩ := h
    have hr4 : Room 4 _ := hr.mono (by decide)
    have hr5 : Room 5 _ := hr.mono (by decide)
    refine ⟨_, pss_cons (ps_set (i := 1) scAdjust.nd rfl (Or.inl rfl) (pe_lst (pa_cons (pe_call GS hr4 rfl mS kS bS .nil pass0 (pa_cons (pv 0) pa_nil)) pa_nil)))
      (pss_cons (ps_for PassesOwn.never rfl (pi_zip (by rfl) T.zip (pa_cons (pe_call GC hr5 rfl mC kC bC .nil pass0 (pa_cons (pv 0) pa_nil)) (pa_cons (pe_call GB hr rfl mB kB bB .nil pass0 (pa_cons (pv 0) pa_nil)) pa_nil)))
        (pg_tup rfl (pgs_cons (pg_name (i := 2) scAdjust.nd rfl (Or.inl rfl)) (pgs_cons (pg_name (i := 3) scAdjust.nd rfl (Or.inl rfl)) pgs_nil)))
        (pss_one (ps_expr (pe_bm PySem.F.plainAttrs_list PySem.F.slot_list_extend PySem.F.type_list_extend mt_extend (pv 1) (pa_cons (pe_lst (pa_cons (pv 2) (pa_cons (pv 3) pa_nil))) pa_nil)))))
      (pss_one (ps_ret (pv 1)))), ?_⟩
    have hcl := AvM.contributions_length s
    have hbl := AvM.balances_length s
    have hi20 := W.ilen
    refine ⟨_, rfl, a, s, li, le, is, es, rfl, hA, W, fun H1 s1 => ⟨(by show 1 ≤ sizeLine; decide), fun fo hfo => ?_⟩⟩
    have s2 : Same H1 (upd H1 fo (.lst [.int ((s.shared : Nat) : Int)])) := same_upd hfo
    have s12 := s1.trans s2
    refine ⟨_, rfl, a, s, li, le, is, es, rfl, hA.same s12, W, hcan, fun H3 cs s3 hcs h3 => ?_⟩
    refine ⟨_, rfl, a, s, li, le, is, es, rfl, hA.same (s12.trans s3), W, hcan, fun H4 bs s4 hbs h4 => ?_⟩
    have h3' := s4 _ _ h3
    have hfo4 : H4 fo = some (.lst [.int ((s.shared : Nat) : Int)]) := s4 _ _ (s3 _ _ upd_same)
    have n1 : cs ≠ fo := (ne_of_none upd_same hcs).symm
    have n2 : bs ≠ fo := (ne_of_none (s3 _ _ upd_same) hbs).symm
    have hlz : (s.contributions.zip s.balances).length = s.interests.length := by
      rw [List.length_zip, hcl, hbl, Nat.min_self]
    have hlc : ((contribs s).map V.int).length = s.interests.length := by
      unfold contribs
      rw [List.length_map, List.length_map, hcl]
    refine ⟨cs, bs, _, _, rfl, SqL.of h3', SqL.of h4, ?_⟩
    refine RZ.for_zipL (K := K) (a := cs) (b := bs) (xs := (contribs s).map V.int) (ys := s.balances.map V.int) (by rw [hlc, List.length_map, hbl])
      (fun i σ H' => ∃ v2 v3 : Option V, σ = [some (.ref a), some (.ref fo), v2, v3] ∧ Same H H' ∧ H' cs = some (.lst ((contribs s).map V.int)) ∧ H' bs = some (.lst (s.balances.map V.int)) ∧
        H' fo = some (.lst ((((s.shared : Nat) : Int) :: ((s.contributions.zip s.balances).take i).flatMap fun x => [((x.1 : Nat) : Int), x.2]).map V.int))) ⟨none, none, rfl, (s12.trans s3).trans s4, h3', h4, hfo4⟩ ?_ ?_ ?_
    · rintro i σ H' ⟨_, _, _, _, e1, e2, _⟩
      exact ⟨SqL.of e1, SqL.of e2⟩
    · rintro i x y tt σ H' hx hy ⟨v2, v3, rfl, z, e1, e2, e3⟩ ht
      obtain ⟨c, hc, rfl⟩ := map_at hx
      obtain ⟨d, hd, rfl⟩ := map_at hy
      unfold contribs at hc
      rw [List.getElem?_map] at hc
      cases ec : s.contributions[i]? with
      | none =>
        rw [ec] at hc
        cases hc
      | some c' =>
        rw [ec] at hc
        have ecc : ((c' : Nat) : Int) = c := Option.some.inj hc
        subst ecc
        have hz : (s.contributions.zip s.balances)[i]? = some (c', d) := by
          rw [List.getElem?_zip_eq_some]
          exact ⟨ec, hd⟩
        have zt : Same H' (upd H' tt (.tup [.int ((c' : Nat) : Int), .int d])) := same_upd ht
        refine ⟨tt, _, rfl, SqT.of upd_same, rfl, _, _, rfl, _, _, rfl, rfl, ?_⟩
        refine ⟨_, rfl, .inl ⟨rfl, _, SqL.of (zt _ _ e3)⟩, _, rfl, _, rfl, (by show 2 ≤ sizeLine; decide), fun p hp => ?_⟩
        have zp : Same (upd H' tt (.tup [.int ((c' : Nat) : Int), .int d])) (upd (upd H' tt (.tup [.int ((c' : Nat) : Int), .int d])) p (.lst [.int ((c' : Nat) : Int), .int d])) := same_upd hp
        have z2 := zt.trans zp
        have hsz : ((((s.shared : Nat) : Int) :: ((s.contributions.zip s.balances).take i).flatMap fun x => [((x.1 : Nat) : Int), x.2]).map V.int).length + [V.int ((c' : Nat) : Int), V.int d].length ≤ sizeLine := by
          rw [List.length_map, List.length_cons, flat_len (n := 2) (fun _ => rfl), List.length_take, hlz]
          show min i s.interests.length * 2 + 1 + 2 ≤ sizeLine
          refine Nat.le_of_lt (small1000 ?_)
          omega
        refine ⟨fo, p, _, _, rfl, rfl, z2 _ _ e3, upd_same, hsz, ?_⟩
        refine ⟨_, _, rfl, fun b o e => ?_, ?_, ?_, ?_⟩
        · rw [upd_ne (ne_of_none e (s1.free hfo))]
          exact z2 _ _ (z _ _ e)
        · rw [upd_ne n1]
          exact z2 _ _ e1
        · rw [upd_ne n2]
          exact z2 _ _ e2
        · rw [upd_same, flat_more hz, ← List.cons_append, List.map_append]
          rfl
    · rintro σ H' ⟨v2, v3, rfl, z, e1, e2, e3⟩
      refine ⟨_, rfl, q H' fo z (s1.free hfo) (e3.trans ?_)⟩
      rw [hlc, ← hlz, List.take_length]
      rfl
abbrev nTransfers : List Str := ["average", "row", "found", "payer", "other", "units"]
theorem scTransfers : FnScope nTransfers ["average"] (defScope sTransfers) := ⟨rfl, rfl, rfl, by decide +kernel, rfl, by decide +kernel, by decide +kernel⟩
theorem ok_transfers (D : DefAt K mg "transfers" sTransfers ["average"]) (T : Txt K mg C) (hP : Has P w K mg base 7 "payments" ["average"] (spPayments C)) : Has P w K mg base 8 "transfers" ["average"] (spL C traL) := by
  obtain ⟨f, fd, F, b, m⟩ := D.ex
  obtain ⟨fp, fdp, GP, bP, mP, kP⟩ := hP
  refine ⟨f, fd, F.ok scTransfers (fun vs H Q E h => ?_) (fun cdv A outer s H vs Q E hr h => ?_), b, m, F.kp⟩
  · obtain ⟨a, s, li, le, is, es, rfl, _⟩ := h
    rfl
  · obtain ⟨a, s, li, le, is, es, rfl, hA, W, hcan, q⟩ := h
    refine ⟨_, pss_cons (ps_set (i := 1) scTransfers.nd rfl (Or.inl rfl) (pe_call GP hr rfl mP kP bP .nil pass0 (pa_cons (pv 0) pa_nil)))
      (pss_cons (ps_set (i := 2) scTransfers.nd rfl (Or.inl rfl) (pe_lst (pa_cons (pe_callB call_len_seq (by rfl) T.len PySem.boot_len (pa_cons (pv 1) pa_nil)) pa_nil)))
      (pss_cons (ps_for PassesOwn.never rfl (pi_list (pv 1))
        (pg_tup rfl (pgs_cons (pg_name (i := 3) scTransfers.nd rfl (Or.inl rfl)) (pgs_cons (pg_name (i := 4) scTransfers.nd rfl (Or.inl rfl)) (pgs_cons (pg_name (i := 5) scTransfers.nd rfl (Or.inl rfl)) pgs_nil))))
        (pss_one (ps_expr (pe_bm PySem.F.plainAttrs_list PySem.F.slot_list_extend PySem.F.type_list_extend mt_extend (pv 2) (pa_cons (pe_lst (pa_cons (pv 3) (pa_cons (pv 4) (pa_cons (pv 5) pa_nil)))) pa_nil)))))
      (pss_one (ps_ret (pv 2))))), ?_⟩
    have hi20 := W.ilen
    have htl : s.transfers.length ≤ 40 := by
      unfold Kg88.State.transfers
      have := AvM.settle_length (2 * s.interests.length) s.balances
      omega
    refine ⟨_, rfl, a, s, li, le, is, es, rfl, hA, W, hcan, fun H1 row ts s1 hrow h1 pays => ?_⟩
    refine ⟨_, rfl, row, _, rfl, .inl (SqL.of h1), (by show 1 ≤ sizeLine; decide), fun fo hfo => ?_⟩
    have s2 : Same H1 (upd H1 fo (.lst [.int (((ts.map V.ref).length : Nat) : Int)])) := same_upd hfo
    have n1 : row ≠ fo := ne_of_none h1 hfo
    have hln : (ts.map V.ref).length = s.transfers.length := by rw [List.length_map, pays.1]
    refine ⟨_, rfl, row, rfl, ⟨_, SqL.of (s2 _ _ h1)⟩, ?_⟩
    refine for_list (K := K) (a := row) (xs := ts.map V.ref) (fun i σ H' => ∃ v3 v4 v5 : Option V, σ = [some (.ref a), some (.ref row), some (.ref fo), v3, v4, v5] ∧ Same H1 H' ∧
        H' fo = some (.lst ((((s.transfers.length : Nat) : Int) :: (s.transfers.take i).flatMap fun x => Kg88.whole [x.1, x.2.1, x.2.2]).map V.int))) ⟨none, none, none, rfl, s2, by rw [upd_same, hln]; rfl⟩ ?_ ?_ ?_
    · rintro i σ H' _ ⟨_, _, _, _, z, _⟩
      exact SqL.of (z _ _ h1)
    · rintro i x σ H' hx ⟨v3, v4, v5, rfl, z, e3⟩
      obtain ⟨t, ht, rfl⟩ := map_at hx
      have hi : i < s.transfers.length := by
        rw [← pays.1]
        exact (List.getElem?_eq_some_iff.mp ht).1
      have hp := List.getElem?_eq_getElem hi
      have et := z _ _ (pays.2 i t _ ht hp)
      refine ⟨t, _, rfl, SqT.of et, rfl, _, _, rfl, _, _, rfl, _, _, rfl, rfl, ?_⟩
      refine ⟨_, rfl, .inl ⟨rfl, _, SqL.of e3⟩, _, rfl, _, rfl, _, rfl, (by show 3 ≤ sizeLine; decide), fun p hpn => ?_⟩
      have z2 : Same H' (upd H' p (.lst [.int ((s.transfers[i].1 : Nat) : Int), .int ((s.transfers[i].2.1 : Nat) : Int), .int ((s.transfers[i].2.2 : Nat) : Int)])) := same_upd hpn
      have hsz : ((((s.transfers.length : Nat) : Int) :: (s.transfers.take i).flatMap fun x => Kg88.whole [x.1, x.2.1, x.2.2]).map V.int).length + [V.int ((s.transfers[i].1 : Nat) : Int), .int ((s.transfers[i].2.1 : Nat) : Int), .int ((s.transfers[i].2.2 : Nat) : Int)].length ≤ sizeLine := by
        rw [List.length_map, List.length_cons, flat_len (n := 3) (fun _ => rfl), List.length_take]
        show min i s.transfers.length * 3 + 1 + 3 ≤ sizeLine
        refine Nat.le_of_lt (small1000 ?_)
        omega
      refine ⟨fo, p, _, _, rfl, rfl, z2 _ _ e3, upd_same, hsz, ?_⟩
      refine ⟨_, _, _, rfl, fun b o e => ?_, ?_⟩
      · rw [upd_ne (ne_of_none e hfo)]
        exact z2 _ _ (z _ _ e)
      · rw [upd_same, flat_more hp, ← List.cons_append, List.map_append]
        rfl
    · rintro σ H' ⟨v3, v4, v5, rfl, z, e3⟩
      refine ⟨_, rfl, q H' fo (s1.trans z) (s1.free hfo) (e3.trans ?_)⟩
      rw [hln, List.take_length]
      rfl
end
end Av

namespace Av
open PySem PySem.Spec PyProof.Rows L2
open AvM (Wf WfI)
/-! ### the desk: H0 is a part of the heap in which nothing of the desk's stands -/
structure OwnAt (C : Cs) (H0 H : Hp) (a : Addr) (s : Kg88.State) (li le : Addr) (is es : List Addr) : Prop where
  av : AvAt C H a s li le is es
  na : H0 a = none
  nli : H0 li = none
  nle : H0 le = none
  nis : ∀ i ∈ is, H0 i = none
  nd : is.Nodup
  ll : li ≠ le
def DeskAt (C : Cs) (H0 H : Hp) (d : Addr) (s : Kg88.State) : Prop := Same H0 H ∧ H0 d = none ∧ ∃ dx,
  (s.begun = false ∧ H d = some (.ins C.d dx (dF .non))) ∨ (s.begun = true ∧ ∃ a li le is es, H d = some (.ins C.d dx (dF (.ref a))) ∧ OwnAt C H0 H a s li le is es)
theorem OwnAt.same {C : Cs} {H0 H H' : Hp} {a li le : Addr} {s : Kg88.State} {is es : List Addr} (h : OwnAt C H0 H a s li le is es) (z : Same H H') : OwnAt C H0 H' a s li le is es := ⟨h.av.same z, h.na, h.nli, h.nle, h.nis, h.nd, h.ll⟩
theorem DeskAt.same {C : Cs} {H0 H H' : Hp} {d : Addr} {s : Kg88.State} (h : DeskAt C H0 H d s) (z : Same H H') : DeskAt C H0 H' d s := by
  obtain ⟨z0, nd, dx, h⟩ := h
  refine ⟨z0.trans z, nd, dx, ?_⟩
  rcases h with ⟨hb, h⟩ | ⟨hb, a, li, le, is, es, h, o⟩
  · exact .inl ⟨hb, z _ _ h⟩
  · exact .inr ⟨hb, a, li, le, is, es, z _ _ h, o.same z⟩
/-- a list of H0 changes -/
theorem DeskAt.updL {C : Cs} {H0 H : Hp} {d l : Addr} {s : Kg88.State} {xs : List V} {o' : HO} (h : DeskAt C H0 H d s) (hl : H0 l = some (.lst xs)) : DeskAt C (upd H0 l o') (upd H l o') d s := by
  obtain ⟨z0, nd, dx, h⟩ := h
  have hH : H l = some (.lst xs) := z0 _ _ hl
  have nn : ∀ b, H0 b = none → b ≠ l := fun b e => (ne_of_none hl e).symm
  have ni : ∀ b C' dx' fs, H b = some (.ins C' dx' fs) → (upd H l o') b = some (.ins C' dx' fs) := fun b C' dx' fs e => by
    rw [upd_ne (ne_of e hH (by intro z; cases z))]
    exact e
  have n0 : ∀ b, H0 b = none → (upd H0 l o') b = none := fun b e => by
    rw [upd_ne (nn b e)]
    exact e
  refine ⟨fun b o e => ?_, n0 _ nd, dx, ?_⟩
  · by_cases hb : b = l
    · subst hb
      rw [upd_same] at e
      rw [upd_same]
      exact e
    · rw [upd_ne hb] at e
      rw [upd_ne hb]
      exact z0 _ _ e
  · rcases h with ⟨hb, h⟩ | ⟨hb, a, li, le, is, es, h, o⟩
    · exact .inl ⟨hb, ni _ _ _ _ h⟩
    · refine .inr ⟨hb, a, li, le, is, es, ni _ _ _ _ h, ⟨o.av.ins.imp fun _ e => ni _ _ _ _ e, ?_, ?_, o.av.ilen, o.av.elen, fun j i x e1 e2 => (o.av.iat j i x e1 e2).imp fun _ e => ni _ _ _ _ e, fun j i x e1 e2 => (o.av.eat j i x e1 e2).imp fun _ e => ni _ _ _ _ e⟩, n0 _ o.na, n0 _ o.nli, n0 _ o.nle, fun i hi => n0 _ (o.nis i hi), o.nd, o.ll⟩
      · rw [upd_ne (nn _ o.nli)]
        exact o.av.il
      · rw [upd_ne (nn _ o.nle)]
        exact o.av.el
/-- the attributes of unlike classes differ -/
theorem iF_ne_a {x : Kg88.Interest} {c : Int} {li le : Addr} : iF x ≠ aF c li le := fun e => by
  have := congrArg List.length e
  simp [iF, aF] at this
theorem iF_ne_e {x : Kg88.Interest} {p n : Int} : iF x ≠ eF p n := fun e => by
  have := congrArg List.length e
  simp [iF, eF] at this
theorem iF_ne_d {x : Kg88.Interest} {v : V} : iF x ≠ dF v := fun e => by
  have := congrArg List.length e
  simp [iF, dF] at this
theorem dF_ne_a {v : V} {c : Int} {li le : Addr} : dF v ≠ aF c li le := fun e => by
  have := congrArg List.length e
  simp [dF, aF] at this
theorem dF_ne_e {v : V} {p n : Int} : dF v ≠ eF p n := fun e => by
  have := congrArg List.length e
  simp [dF, eF] at this
theorem ins_ne {C C' dx dx' : Addr} {fs fs' : List (Str × V)} (h : fs ≠ fs') : HO.ins C dx fs ≠ HO.ins C' dx' fs' := fun e => by
  injection e with _ _ e
  exact h e
/-- an interest changes -/
theorem desk_put {C : Cs} {H0 H : Hp} {d dx a li le ia di : Addr} {s : Kg88.State} {is es : List Addr} {k : Nat} {x y : Kg88.Interest} (z0 : Same H0 H) (nd : H0 d = none) (hb : s.begun = true) (hd : H d = some (.ins C.d dx (dF (.ref a)))) (o : OwnAt C H0 H a s li le is es)
    (hk : is[k]? = some ia) (hi : H ia = some (.ins C.i di (iF x))) : DeskAt C H0 (upd H ia (.ins C.i di (iF y))) d (Kg88.put s k y) := by
  have nia := o.nis ia (List.mem_of_getElem? hk)
  refine ⟨fun b u e => ?_, nd, dx, .inr ⟨hb, a, li, le, is, es, ?_, ⟨?_, ?_, ?_, ?_, o.av.elen, ?_, ?_⟩, o.na, o.nli, o.nle, o.nis, o.nd, o.ll⟩⟩
  · rw [upd_ne (ne_of_none e nia)]
    exact z0 _ _ e
  · rw [upd_ne (ne_of hd hi (ins_ne iF_ne_d.symm))]
    exact hd
  · exact o.av.ins.imp fun _ e => by
      rw [upd_ne (ne_of e hi (ins_ne iF_ne_a.symm))]
      exact e
  · rw [upd_ne (ne_of o.av.il hi (by intro z; cases z))]
    exact o.av.il
  · rw [upd_ne (ne_of o.av.el hi (by intro z; cases z))]
    exact o.av.el
  · show is.length = (s.interests.set k y).length
    rw [List.length_set]
    exact o.av.ilen
  · intro j i u e1 e2
    have e2' : (s.interests.set k y)[j]? = some u := e2
    rw [List.getElem?_set] at e2'
    by_cases hj : k = j
    · subst hj
      have hl : k < s.interests.length := by
        rw [← o.av.ilen]
        exact (List.getElem?_eq_some_iff.mp hk).1
      rw [if_pos rfl, if_pos hl] at e2'
      have eu : y = u := Option.some.inj e2'
      have ei : ia = i := Option.some.inj (hk.symm.trans e1)
      subst eu ei
      exact ⟨di, upd_same⟩
    · rw [if_neg hj] at e2'
      have ni : i ≠ ia := fun e => hj (nd_ix o.nd hk (e ▸ e1))
      obtain ⟨dj, h⟩ := o.av.iat j i u e1 e2'
      exact ⟨dj, by rw [upd_ne ni]; exact h⟩
  · intro j i e e1 e2
    obtain ⟨dj, h⟩ := o.av.eat j i e e1 e2
    exact ⟨dj, by rw [upd_ne (ne_of h hi (ins_ne iF_ne_e.symm))]; exact h⟩
/-! ### promises -/
def ansV (x : Kg88.Ans) : List V := (x.value :: x.out).map V.int
def Tells (C : Cs) (H0 : Hp) (d : Addr) (x : Kg88.State × Kg88.Ans) (Q : VK) : Prop := ∀ (H' : Hp) (p : Addr), DeskAt C H0 H' d x.1 → H0 p = none → H' p = some (.lst (ansV x.2)) → Q (.ref p) H'
def spBegin (C : Cs) : Sp := fun vs H Q _ => ∃ (H0 : Hp) (d : Addr) (s : Kg88.State) (h : Int), vs = [.ref d, .int h] ∧ DeskAt C H0 H d s ∧ Wf s ∧ Tells C H0 d (Kg88.spec s (.begin_ h)) Q
def spPutInterest (C : Cs) : Sp := fun vs H Q _ => ∃ (H0 : Hp) (d wa : Addr) (s : Kg88.State) (v u k e : Int), vs = [.ref d, .ref wa] ∧ DeskAt C H0 H d s ∧ Wf s ∧ H wa = some (.lst [.int v, .int u, .int k, .int e]) ∧ Tells C H0 d (Kg88.spec s (.interest v u k e)) Q
def spIsInterest (C : Cs) : Sp := fun vs H Q _ => ∃ (H0 : Hp) (d : Addr) (s : Kg88.State) (i : Int), vs = [.ref d, .int i] ∧ DeskAt C H0 H d s ∧ Wf s ∧ Q (.bl (Kg88.within i 0 ((s.interests.length : Int) - 1))) H
def spStands (C : Cs) : Sp := fun vs H Q _ => ∃ (a : Addr) (x : Kg88.Interest), vs = [.ref a] ∧ IntAt C.i H a x ∧ WfI x ∧ ∀ p, H p = none → Q (.ref p) (upd H p (.lst [.int (x.left : Nat), .int (x.good : Nat), .int (x.base : Nat)]))
def spLose (C : Cs) : Sp := fun vs H Q _ => ∃ (H0 : Hp) (d : Addr) (s : Kg88.State) (i n : Int), vs = [.ref d, .int i, .int n] ∧ DeskAt C H0 H d s ∧ Wf s ∧ Tells C H0 d (Kg88.spec s (.lose i n)) Q
def spGive (C : Cs) : Sp := fun vs H Q _ => ∃ (H0 : Hp) (d : Addr) (s : Kg88.State) (i n : Int), vs = [.ref d, .int i, .int n] ∧ DeskAt C H0 H d s ∧ Wf s ∧ Tells C H0 d (Kg88.spec s (.give i n)) Q
def spPutExpense (C : Cs) : Sp := fun vs H Q _ => ∃ (H0 : Hp) (d wa : Addr) (s : Kg88.State) (n p o : Int), vs = [.ref d, .ref wa] ∧ DeskAt C H0 H d s ∧ Wf s ∧ H wa = some (.lst [.int n, .int p, .int o]) ∧ Tells C H0 d (Kg88.spec s (.expense n p o)) Q
def spSums (C : Cs) : Sp := fun vs H Q _ => ∃ (H0 : Hp) (d : Addr) (s : Kg88.State), vs = [.ref d] ∧ DeskAt C H0 H d s ∧ Wf s ∧ Tells C H0 d (Kg88.spec s .sums) Q
def spOne (C : Cs) : Sp := fun vs H Q _ => ∃ (H0 : Hp) (d : Addr) (s : Kg88.State) (i : Int), vs = [.ref d, .int i] ∧ DeskAt C H0 H d s ∧ Wf s ∧ Tells C H0 d (Kg88.spec s (.one i)) Q
def adjCall (k : Int) : Kg88.Call := if k = 8 then .adjust else if k = 9 then .transfers else .rate
def spAdjusted (C : Cs) : Sp := fun vs H Q _ => ∃ (H0 : Hp) (d : Addr) (s : Kg88.State) (k : Int), vs = [.ref d, .int k] ∧ DeskAt C H0 H d s ∧ Wf s ∧ Tells C H0 d (Kg88.spec s (adjCall k)) Q
/-- a refusal: a new list of one number -/
theorem tells_num {C : Cs} {H0 H : Hp} {d : Addr} {s : Kg88.State} {Q : VK} {z : Int} {x : Kg88.State × Kg88.Ans} (D : DeskAt C H0 H d s) (t : Tells C H0 d x Q) (e : x = (s, Kg88.num z)) (p : Addr) (hp : H p = none) : Q (.ref p) (upd H p (.lst [.int z])) := by
  subst e
  exact t _ p (D.same (same_upd hp)) (D.1.free hp) upd_same
section
variable {P : Program} {w : World} {K : PySem.W.Frag} {mg : Str → Option Value} {base : Heap} {C : Cs}
theorem scBegin : FnScope ["desk", "hundredths"] ["desk", "hundredths"] (defScope sBegin) := ⟨rfl, rfl, rfl, by decide +kernel, rfl, by decide +kernel, by decide +kernel⟩
theorem ok_begin (D : DefAt K mg "begin" sBegin ["desk", "hundredths"]) (T : Txt K mg C) (hW : Has P w K mg base 1 "within" ["number", "least", "most"] spWithin) (hI : HasI P w K mg base 1 C.a ["self", "hundredths"] (spInitA C)) : Has P w K mg base 3 "begin" ["desk", "hundredths"] (spBegin C) := by
  obtain ⟨f, fd, F, b, m⟩ := D.ex
  obtain ⟨fw, fdw, GW, bW, mW, kW⟩ := hW
  obtain ⟨fi, fdi, GI, bI, MI⟩ := hI
  obtain ⟨t1, g1⟩ := T.cMH
  obtain ⟨t2, g2⟩ := T.cNR
  refine ⟨f, fd, F.ok scBegin (fun vs H Q E h => ?_) (fun cdv A outer s H vs Q E hr h => ?_), b, m, F.kp⟩
  · obtain ⟨H0, d, s, h, rfl, _⟩ := h
    rfl
  · obtain ⟨H0, d, s, z, rfl, hD, W, q⟩ := h
    have hr1 : Room 1 _ := hr.mono (by decide)
    refine ⟨_, pss_cons (ps_if (pt_not (pt_val (pe_call GW hr1 rfl mW kW bW .nil pass0 (pa_cons (pv 1) (pa_cons pe_int (pa_cons (pe_glob (v := .int 10) rfl g1 ⟨_, rfl⟩) pa_nil)))))) (pss_one (ps_ret (pe_lst (pa_cons (pe_glob (v := .int (-1)) rfl g2 ⟨_, rfl⟩) pa_nil)))) pss_nil)
      (pss_cons (ps_fld (pv 0) (pe_make MI GI hr rfl T.gA bI .nil pass0 (pa_cons (pv 1) pa_nil)) rfl)
      (pss_one (ps_ret (pe_lst (pa_cons pe_int pa_nil))))), ?_⟩
    refine ⟨_, rfl, z, 0, 10, rfl, _, rfl, ?_⟩
    cases e : Kg88.within z 0 10 with
    | false =>
      refine if_true_of rfl ?_
      refine ⟨(by show 1 ≤ sizeLine; decide), fun p hp => tells_num (z := -1) hD q ?_ p hp⟩
      show (if Kg88.within z 0 10 = false then (s, Kg88.num (-1)) else _) = _
      rw [if_pos e]
    | true =>
      refine if_false_of rfl ?_
      obtain ⟨z0, n0, dx, hd⟩ := hD
      have hdd : ∃ v, H d = some (.ins C.d dx (dF v)) := by
        rcases hd with ⟨_, h⟩ | ⟨_, a, _, _, _, _, h, _⟩
        · exact ⟨_, h⟩
        · exact ⟨_, h⟩
      obtain ⟨v, hdd⟩ := hdd
      refine ⟨_, rfl, fun x xd hx hxd hne => ?_⟩
      have sx : Same H (upd (upd H xd (.own x)) x (.ins C.a xd [])) := fun b o eb => by
        rw [upd_ne (ne_of_none eb hx), upd_ne (ne_of_none eb hxd)]
        exact eb
      refine ⟨x, xd, z, rfl, upd_same, fun H2 li le h1 h2 h3 nll hli hle hk => ?_⟩
      have s2 : Same H H2 := fun b o eb => hk b o (ne_of_none eb hx) (sx _ _ eb)
      refine ⟨rfl, _, rfl, d, C.d, dx, _, rfl, s2 _ _ hdd, T.clD, T.d_a, (by show 1 < 1000; decide), ?_⟩
      refine ⟨(by show 1 ≤ sizeLine; decide), fun p hp => ?_⟩
      have fl : H li = none := sx.free hli
      have fe : H le = none := sx.free hle
      have nxd : x ≠ d := (ne_of_none hdd hx).symm
      have nld : li ≠ d := (ne_of_none hdd fl).symm
      have ned : le ≠ d := (ne_of_none hdd fe).symm
      have hs : Kg88.spec s (.begin_ z) = (⟨z.toNat, [], [], true⟩, Kg88.num 0) := by
        show (if Kg88.within z 0 10 = false then (s, Kg88.num (-1)) else _) = _
        rw [if_neg (by rw [e]; decide)]
      have wz := AvM.within_iff.mp e
      rw [hs] at q
      have dk : DeskAt C H0 (upd H2 d (.ins C.d dx (putF "average" (.ref x) (dF v)))) d ⟨z.toNat, [], [], true⟩ := by
        refine ⟨fun b o eb => ?_, n0, dx, .inr ⟨rfl, x, li, le, [], [], ?_, ⟨⟨xd, ?_⟩, ?_, ?_, rfl, rfl, fun j i u e1 => ?_, fun j i u e1 => ?_⟩, z0.free hx, z0.free fl, z0.free fe, (fun i hi => by cases hi), List.nodup_nil, nll⟩⟩
        · rw [upd_ne (ne_of_none eb n0)]
          exact s2 _ _ (z0 _ _ eb)
        · rw [upd_same, dF_put]
        · rw [upd_ne nxd, h1]
          show some (HO.ins C.a xd (aF z li le)) = some (HO.ins C.a xd (aF ((z.toNat : Nat) : Int) li le))
          rw [Int.toNat_of_nonneg wz.1]
        · rw [upd_ne nld]
          exact h2
        · rw [upd_ne ned]
          exact h3
        · simp at e1
        · simp at e1
      exact q _ p (dk.same (same_upd hp)) (dk.1.free hp) upd_same
theorem scIsInterest : FnScope ["desk", "number"] ["desk", "number"] (defScope sIsInterest) := ⟨rfl, rfl, rfl, by decide +kernel, rfl, by decide +kernel, by decide +kernel⟩
theorem ok_isInterest (D : DefAt K mg "is_interest" sIsInterest ["desk", "number"]) (T : Txt K mg C) (hW : Has P w K mg base 1 "within" ["number", "least", "most"] spWithin) : Has P w K mg base 2 "is_interest" ["desk", "number"] (spIsInterest C) := by
  obtain ⟨f, fd, F, b, m⟩ := D.ex
  obtain ⟨fw, fdw, GW, bW, mW, kW⟩ := hW
  refine ⟨f, fd, F.ok scIsInterest (fun vs H Q E h => ?_) (fun cdv A outer s H vs Q E hr h => ?_), b, m, F.kp⟩
  · obtain ⟨H0, d, s, i, rfl, _⟩ := h
    rfl
  · obtain ⟨H0, d, s, i, rfl, hD, W, q⟩ := h
    refine ⟨_, pss_one (ps_ret (pe_and (pe_cmpR op_notN (pe_fld (pv 0) rfl) pe_non (nomark _)) (pe_one (pe_call GW hr rfl mW kW bW .nil pass0 (pa_cons (pv 1) (pa_cons pe_int (pa_cons (pe_op op_sub (pe_callB call_len_seq (by rfl) T.len PySem.boot_len (pa_cons (pe_fld (pe_fld (pv 0) rfl) rfl) pa_nil)) pe_int) pa_nil))))))), ?_⟩
    obtain ⟨z0, n0, dx, hd⟩ := hD
    rcases hd with ⟨hb, h⟩ | ⟨hb, a, li, le, is, es, h, o⟩
    · refine ⟨_, rfl, d, C.d, dx, _, _, rfl, h, T.clD, T.d_a, dF_av _, rfl, _, rfl, ?_⟩
      refine if_false_of (by decide) ?_
      have e : Kg88.within i 0 ((s.interests.length : Int) - 1) = false := by
        rw [W.none_ hb]
        cases c : Kg88.within i 0 ((([] : List Kg88.Interest).length : Int) - 1) with
        | false => rfl
        | true =>
          have := AvM.within_iff.mp c
          simp at this
          omega
      rw [e] at q
      exact q
    · obtain ⟨da, ha⟩ := o.av.ins
      refine ⟨_, rfl, d, C.d, dx, _, _, rfl, h, T.clD, T.d_a, dF_av _, rfl, _, rfl, ?_⟩
      refine if_true_of (by rw [decide_eq_false (by intro z; cases z)]; rfl) ?_
      refine ⟨_, rfl, _, rfl, d, C.d, dx, _, _, rfl, h, T.clD, T.d_a, dF_av _, a, C.a, da, _, _, rfl, ha, T.clA, T.a_i, aF_i _ _ _, li, _, rfl, .inl (SqL.of o.av.il), _, _, rfl, rfl, i, 0, _, rfl, ?_⟩
      rw [List.length_map, o.av.ilen]
      exact q
theorem scStands : FnScope ["interest"] ["interest"] (defScope sStands) := ⟨rfl, rfl, rfl, by decide +kernel, rfl, by decide +kernel, by decide +kernel⟩
theorem ok_stands (D : DefAt K mg "stands" sStands ["interest"]) (hL : Has P w K mg base 2 "left_of" ["interest"] (spI C Kg88.Interest.left)) (hG : Has P w K mg base 2 "made_good" ["interest"] (spI C Kg88.Interest.good)) (hB : Has P w K mg base 3 "contributes_by" ["interest"] (spI C Kg88.Interest.base)) :
    Has P w K mg base 4 "stands" ["interest"] (spStands C) := by
  obtain ⟨f, fd, F, b, m⟩ := D.ex
  obtain ⟨fl, fdl, GL, bL, mL, kL⟩ := hL
  obtain ⟨fg, fdg, GG, bG, mG, kG⟩ := hG
  obtain ⟨fb, fdb, GB, bB, mB, kB⟩ := hB
  refine ⟨f, fd, F.ok scStands (fun vs H Q E h => ?_) (fun cdv A outer s H vs Q E hr h => ?_), b, m, F.kp⟩
  · obtain ⟨a, x, rfl, _⟩ := h
    rfl
  · obtain ⟨a, x, rfl, hx, W, q⟩ := h
    have hr2 : Room 2 _ := hr.mono (by decide)
    refine ⟨_, pss_one (ps_ret (pe_lst (pa_cons (pe_call GL hr2 rfl mL kL bL .nil pass0 (pa_cons (pv 0) pa_nil)) (pa_cons (pe_call GG hr2 rfl mG kG bG .nil pass0 (pa_cons (pv 0) pa_nil)) (pa_cons (pe_call GB hr rfl mB kB bB .nil pass0 (pa_cons (pv 0) pa_nil)) pa_nil))))), ?_⟩
    exact ⟨_, rfl, a, x, rfl, hx, W, _, rfl, a, x, rfl, hx, W, _, rfl, a, x, rfl, hx, W, (by show 3 ≤ sizeLine; decide), fun p hp => q p hp⟩
end
end Av

namespace Av
open PySem PySem.Spec PyProof.Rows L2
open AvM (Wf WfI)
theorem in01 (k : Int) : inV (.int k) [.int 0, .int 1] = Kg88.within k 0 1 := by
  show (((0 : Int) == k) || (((1 : Int) == k) || false)) = _
  by_cases h0 : k = 0
  · subst h0
    rfl
  · by_cases h1 : k = 1
    · subst h1
      rfl
    · have e : Kg88.within k 0 1 = false := by
        cases c : Kg88.within k 0 1 with
        | false => rfl
        | true =>
          have := AvM.within_iff.mp c
          omega
      rw [e, beq_eq_false_iff_ne.mpr (Ne.symm h0), beq_eq_false_iff_ne.mpr (Ne.symm h1)]
      rfl
theorem within_place {s : Kg88.State} {i : Int} (h : i < 0 ∨ s.interests.length ≤ i.toNat) : Kg88.within i 0 ((s.interests.length : Int) - 1) = false := by
  cases c : Kg88.within i 0 ((s.interests.length : Int) - 1) with
  | false => rfl
  | true =>
    have := AvM.within_iff.mp c
    omega
theorem within_place' {s : Kg88.State} {k : Nat} {x : Kg88.Interest} (h : s.interests[k]? = some x) : Kg88.within ((k : Nat) : Int) 0 ((s.interests.length : Int) - 1) = true := by
  have := (List.getElem?_eq_some_iff.mp h).1
  exact AvM.within_iff.mpr ⟨by omega, by omega⟩
/-- an interest more -/
theorem desk_addI {C : Cs} {H0 H H1 : Hp} {d dx a li le x xd : Addr} {s : Kg88.State} {is es : List Addr} {y : Kg88.Interest} (z0 : Same H0 H) (nd : H0 d = none) (hb : s.begun = true) (hd : H d = some (.ins C.d dx (dF (.ref a)))) (o : OwnAt C H0 H a s li le is es)
    (z1 : Same H H1) (hx : H x = none) (h1 : H1 x = some (.ins C.i xd (iF y))) : DeskAt C H0 (upd H1 li (.lst (is.map V.ref ++ [.ref x]))) d { s with interests := s.interests ++ [y] } := by
  have hl1 := z1 _ _ o.av.il
  have ni : ∀ b C' dx' fs, H1 b = some (.ins C' dx' fs) → (upd H1 li (.lst (is.map V.ref ++ [.ref x]))) b = some (.ins C' dx' fs) := fun b C' dx' fs e => by
    rw [upd_ne (ne_of e hl1 (by intro z; cases z))]
    exact e
  refine ⟨fun b u e => ?_, nd, dx, .inr ⟨hb, a, li, le, is ++ [x], es, ni _ _ _ _ (z1 _ _ hd), ⟨o.av.ins.imp fun _ e => ni _ _ _ _ (z1 _ _ e), ?_, ?_, ?_, o.av.elen, fun j i u e1 e2 => ?_, fun j i e e1 e2 => (o.av.eat j i e e1 e2).imp fun _ q => ni _ _ _ _ (z1 _ _ q)⟩, o.na, o.nli, o.nle, fun i hi => ?_, ?_, o.ll⟩⟩
  · rw [upd_ne (ne_of_none e o.nli)]
    exact z1 _ _ (z0 _ _ e)
  · rw [upd_same, List.map_append]
    rfl
  · rw [upd_ne o.ll.symm]
    exact z1 _ _ o.av.el
  · show (is ++ [x]).length = (s.interests ++ [y]).length
    rw [List.length_append, List.length_append, o.av.ilen]
    rfl
  · have e2' : (s.interests ++ [y])[j]? = some u := e2
    have hl := o.av.ilen
    by_cases hj : j < is.length
    · rw [List.getElem?_append_left hj] at e1
      rw [List.getElem?_append_left (by omega)] at e2'
      exact (o.av.iat j i u e1 e2').imp fun _ q => ni _ _ _ _ (z1 _ _ q)
    · rw [List.getElem?_append_right (by omega)] at e1
      rw [List.getElem?_append_right (by omega), ← hl] at e2'
      have hz : j - is.length = 0 := by
        by_cases e : j - is.length = 0
        · exact e
        · rw [List.getElem?_eq_none (by simp; omega)] at e1
          cases e1
      rw [hz] at e1 e2'
      have e3 : x = i := Option.some.inj e1
      have e4 : y = u := Option.some.inj e2'
      subst e3 e4
      exact ⟨xd, ni _ _ _ _ h1⟩
  · rcases List.mem_append.mp hi with q | q
    · exact o.nis i q
    · rw [List.mem_singleton.mp q]
      exact z0.free hx
  · refine List.nodup_append.mpr ⟨o.nd, by simp, fun u hu v hv e => ?_⟩
    rw [List.mem_singleton.mp hv] at e
    obtain ⟨j, hj⟩ := List.mem_iff_getElem?.mp hu
    obtain ⟨z, _, dz, q⟩ := o.av.int hj
    rw [e, hx] at q
    cases q
/-- an expense more -/
theorem desk_addE {C : Cs} {H0 H H1 : Hp} {d dx a li le x xd : Addr} {s : Kg88.State} {is es : List Addr} {e : Kg88.Expense} (z0 : Same H0 H) (nd : H0 d = none) (hb : s.begun = true) (hd : H d = some (.ins C.d dx (dF (.ref a)))) (o : OwnAt C H0 H a s li le is es)
    (z1 : Same H H1) (h1 : H1 x = some (.ins C.e xd (eF e.payer (s.allowed e : Nat)))) : DeskAt C H0 (upd H1 le (.lst (es.map V.ref ++ [.ref x]))) d { s with expenses := s.expenses ++ [e] } := by
  have hl1 := z1 _ _ o.av.el
  have ni : ∀ b C' dx' fs, H1 b = some (.ins C' dx' fs) → (upd H1 le (.lst (es.map V.ref ++ [.ref x]))) b = some (.ins C' dx' fs) := fun b C' dx' fs e => by
    rw [upd_ne (ne_of e hl1 (by intro z; cases z))]
    exact e
  refine ⟨fun b u q => ?_, nd, dx, .inr ⟨hb, a, li, le, is, es ++ [x], ni _ _ _ _ (z1 _ _ hd), ⟨o.av.ins.imp fun _ q => ni _ _ _ _ (z1 _ _ q), ?_, ?_, o.av.ilen, ?_, fun j i u e1 e2 => (o.av.iat j i u e1 e2).imp fun _ q => ni _ _ _ _ (z1 _ _ q), fun j i u e1 e2 => ?_⟩, o.na, o.nli, o.nle, o.nis, o.nd, o.ll⟩⟩
  · rw [upd_ne (ne_of_none q o.nle)]
    exact z1 _ _ (z0 _ _ q)
  · rw [upd_ne o.ll]
    exact z1 _ _ o.av.il
  · rw [upd_same, List.map_append]
    rfl
  · show (es ++ [x]).length = (s.expenses ++ [e]).length
    rw [List.length_append, List.length_append, o.av.elen]
    rfl
  · have e2' : (s.expenses ++ [e])[j]? = some u := e2
    have hl := o.av.elen
    by_cases hj : j < es.length
    · rw [List.getElem?_append_left hj] at e1
      rw [List.getElem?_append_left (by omega)] at e2'
      exact (o.av.eat j i u e1 e2').imp fun _ q => ni _ _ _ _ (z1 _ _ q)
    · rw [List.getElem?_append_right (by omega)] at e1
      rw [List.getElem?_append_right (by omega), ← hl] at e2'
      have hz : j - es.length = 0 := by
        by_cases q : j - es.length = 0
        · exact q
        · rw [List.getElem?_eq_none (by simp; omega)] at e1
          cases e1
      rw [hz] at e1 e2'
      have e3 : x = i := Option.some.inj e1
      have e4 : e = u := Option.some.inj e2'
      subst e3 e4
      exact ⟨xd, ni _ _ _ _ h1⟩
section
variable {P : Program} {w : World} {K : PySem.W.Frag} {mg : Str → Option Value} {base : Heap} {C : Cs}
abbrev nPutInterest : List Str := ["desk", "wholes", "value", "declared", "on_deck", "is_exempt"]
theorem scPutInterest : FnScope nPutInterest ["desk", "wholes"] (defScope sPutInterest) := ⟨rfl, rfl, rfl, by decide +kernel, rfl, by decide +kernel, by decide +kernel⟩
theorem ok_putInterest (D : DefAt K mg "put_interest" sPutInterest ["desk", "wholes"]) (T : Txt K mg C) (hW : Has P w K mg base 1 "within" ["number", "least", "most"] spWithin)
    (hI : HasI P w K mg base 1 C.i ["self", "value", "declared", "on_deck", "is_exempt"] (spInitI C)) : Has P w K mg base 3 "put_interest" ["desk", "wholes"] (spPutInterest C) := by
  obtain ⟨f, fd, F, b, m⟩ := D.ex
  obtain ⟨fw, fdw, GW, bW, mW, kW⟩ := hW
  obtain ⟨fi, fdi, GI, bI, MI⟩ := hI
  obtain ⟨t1, g1⟩ := T.cMU
  obtain ⟨t2, g2⟩ := T.cNR
  obtain ⟨t3, g3⟩ := T.cNA
  obtain ⟨t4, g4⟩ := T.cMI
  obtain ⟨t5, g5⟩ := T.cFU
  refine ⟨f, fd, F.ok scPutInterest (fun vs H Q E h => ?_) (fun cdv A outer s H vs Q E hr h => ?_), b, m, F.kp⟩
  · obtain ⟨H0, d, wa, s, v, u, k, e, rfl, _⟩ := h
    rfl
  · obtain ⟨H0, d, wa, s, v, u, k, e, rfl, hD, W, hwa, q⟩ := h
    have hr1 : Room 1 _ := hr.mono (by decide)
    refine ⟨_, pss_cons (ps_asg (pv 1) (pg_unl rfl (pgs_cons (pg_name (i := 2) scPutInterest.nd rfl (Or.inl rfl)) (pgs_cons (pg_name (i := 3) scPutInterest.nd rfl (Or.inl rfl)) (pgs_cons (pg_name (i := 4) scPutInterest.nd rfl (Or.inl rfl)) (pgs_cons (pg_name (i := 5) scPutInterest.nd rfl (Or.inl rfl)) pgs_nil))))))
      (pss_cons (ps_if (PW.pt (pw_or (pt_not (pt_val (pe_call GW hr1 rfl mW kW bW .nil pass0 (pa_cons (pv 2) (pa_cons pe_int (pa_cons (pe_glob (v := .int 1000000000) rfl g1 ⟨_, rfl⟩) pa_nil))))))
          (pw_or1 (pt_not (pt_val (pe_call GW hr1 rfl mW kW bW .nil pass0 (pa_cons (pv 3) (pa_cons pe_int (pa_cons (pe_glob (v := .int 1000000000) rfl g1 ⟨_, rfl⟩) pa_nil)))))))))
        (pss_one (ps_ret (pe_lst (pa_cons (pe_glob (v := .int (-1)) rfl g2 ⟨_, rfl⟩) pa_nil)))) pss_nil)
      (pss_cons (ps_if (PW.pt (pw_or (pt_cmpR op_notIn_seq (pv 4) (pe_tup (pa_cons pe_int (pa_cons pe_int pa_nil))) rfl) (pw_or1 (pt_cmpR op_notIn_seq (pv 5) (pe_tup (pa_cons pe_int (pa_cons pe_int pa_nil))) rfl))))
        (pss_one (ps_ret (pe_lst (pa_cons (pe_glob (v := .int (-1)) rfl g2 ⟨_, rfl⟩) pa_nil)))) pss_nil)
      (pss_cons (ps_if (pt_cmpR op_isN (pe_fld (pv 0) rfl) pe_non (nomark _)) (pss_one (ps_ret (pe_lst (pa_cons (pe_glob (v := .int (-2)) rfl g3 ⟨_, rfl⟩) pa_nil)))) pss_nil)
      (pss_cons (ps_if (pt_cmpR op_eq (pe_callB call_len_seq (by rfl) T.len PySem.boot_len (pa_cons (pe_fld (pe_fld (pv 0) rfl) rfl) pa_nil)) (pe_glob (v := .int 20) rfl g4 ⟨_, rfl⟩) (nomark _)) (pss_one (ps_ret (pe_lst (pa_cons (pe_glob (v := .int (-5)) rfl g5 ⟨_, rfl⟩) pa_nil)))) pss_nil)
      (pss_cons (ps_expr (pe_bm PySem.F.plainAttrs_list PySem.F.slot_list_append PySem.F.type_list_append mt_append (pe_fld (pe_fld (pv 0) rfl) rfl)
        (pa_cons (pe_make MI GI hr rfl T.gI bI .nil pass0 (pa_cons (pv 2) (pa_cons (pv 3) (pa_cons (pe_cmpR op_eq (pv 4) pe_int (nomark _)) (pa_cons (pe_cmpR op_eq (pv 5) pe_int (nomark _)) pa_nil))))) pa_nil)))
      (pss_one (ps_ret (pe_lst (pa_cons (pe_op op_sub (pe_callB call_len_seq (by rfl) T.len PySem.boot_len (pa_cons (pe_fld (pe_fld (pv 0) rfl) rfl) pa_nil)) pe_int) pa_nil))))))))), ?_⟩
    refine ⟨_, rfl, wa, _, rfl, SqL.of hwa, rfl, _, _, rfl, _, _, rfl, _, _, rfl, _, _, rfl, rfl, ?_⟩
    have ref1 : (Kg88.within v 1 Kg88.MOST && (Kg88.within u 1 Kg88.MOST && (Kg88.within k 0 1 && Kg88.within e 0 1))) = false → ∀ H1, Same H H1 → ∀ p, H1 p = none → Q (.ref p) (upd H1 p (.lst [.int (-1)])) := fun c H1 z p hp => by
      refine tells_num (z := -1) (hD.same z) q ?_ p hp
      unfold Kg88.spec
      simp only
      rw [if_pos c]
    -- value
    refine ⟨_, rfl, v, 1, 1000000000, rfl, _, rfl, ?_⟩
    cases e1 : Kg88.within v 1 1000000000 with
    | false =>
      refine if_true_of rfl ?_
      refine if_true_of rfl ?_
      exact ⟨(by show 1 ≤ sizeLine; decide), fun p hp => ref1 (by rw [show Kg88.within v 1 Kg88.MOST = false from e1]; rfl) _ (Same.refl _) p hp⟩
    | true =>
      refine if_false_of rfl ?_
      refine ⟨_, rfl, u, 1, 1000000000, rfl, _, rfl, ?_⟩
      cases e2 : Kg88.within u 1 1000000000 with
      | false =>
        refine if_true_of rfl ?_
        exact ⟨(by show 1 ≤ sizeLine; decide), fun p hp => ref1 (by rw [show Kg88.within u 1 Kg88.MOST = false from e2, Bool.false_and, Bool.and_false]) _ (Same.refl _) p hp⟩
      | true =>
        refine if_false_of rfl ?_
        -- on_deck, is_exempt
        refine ⟨_, rfl, (by show 2 ≤ sizeLine; decide), fun a1 ha1 => ?_⟩
        have y1 : Same H (upd H a1 (.tup [.int 0, .int 1])) := same_upd ha1
        refine ⟨a1, _, rfl, .inr (SqT.of upd_same), rfl, rfl, _, rfl, ?_⟩
        have i1 := in01 k
        cases e3 : Kg88.within k 0 1 with
        | false =>
          refine if_true_of (by show (!inV (V.int k) [V.int 0, V.int 1]) = true; rw [i1, e3]; rfl) ?_
          refine if_true_of rfl ?_
          exact ⟨(by show 1 ≤ sizeLine; decide), fun p hp => ref1 (by rw [e3, Bool.false_and, Bool.and_false, Bool.and_false]) _ y1 p hp⟩
        | true =>
          refine if_false_of (by show (!inV (V.int k) [V.int 0, V.int 1]) = false; rw [i1, e3]; rfl) ?_
          refine ⟨_, rfl, (by show 2 ≤ sizeLine; decide), fun a2 ha2 => ?_⟩
          have y2 : Same H (upd (upd H a1 (.tup [.int 0, .int 1])) a2 (.tup [.int 0, .int 1])) := y1.trans (same_upd ha2)
          refine ⟨a2, _, rfl, .inr (SqT.of upd_same), rfl, rfl, _, rfl, ?_⟩
          have i2 := in01 e
          cases e4 : Kg88.within e 0 1 with
          | false =>
            refine if_true_of (by show (!inV (V.int e) [V.int 0, V.int 1]) = true; rw [i2, e4]; rfl) ?_
            exact ⟨(by show 1 ≤ sizeLine; decide), fun p hp => ref1 (by rw [e4, Bool.and_false, Bool.and_false, Bool.and_false]) _ y2 p hp⟩
          | true =>
            refine if_false_of (by show (!inV (V.int e) [V.int 0, V.int 1]) = false; rw [i2, e4]; rfl) ?_
            have D2 := hD.same y2
            generalize (upd (upd H a1 (.tup [.int 0, .int 1])) a2 (.tup [.int 0, .int 1])) = H2 at D2
            have hall : (Kg88.within v 1 Kg88.MOST && (Kg88.within u 1 Kg88.MOST && (Kg88.within k 0 1 && Kg88.within e 0 1))) = true := by
              rw [show Kg88.within v 1 Kg88.MOST = true from e1, show Kg88.within u 1 Kg88.MOST = true from e2, e3, e4]
              rfl
            have Dk := D2
            obtain ⟨z0, n0, dx, hd⟩ := D2
            rcases hd with ⟨hb, h⟩ | ⟨hb, a, li, le, is, es, h, o⟩
            · -- there's no average
              refine ⟨_, rfl, d, C.d, dx, _, _, rfl, h, T.clD, T.d_a, dF_av _, rfl, _, rfl, ?_⟩
              refine if_true_of (by decide) ?_
              refine ⟨(by show 1 ≤ sizeLine; decide), fun p hp => tells_num (z := -2) Dk q ?_ p hp⟩
              unfold Kg88.spec
              simp only
              rw [if_neg (by rw [hall]; decide), if_pos hb]
            · obtain ⟨da, ha⟩ := o.av.ins
              refine ⟨_, rfl, d, C.d, dx, _, _, rfl, h, T.clD, T.d_a, dF_av _, rfl, _, rfl, ?_⟩
              refine if_false_of (decide_eq_false (by intro z; cases z)) ?_
              refine ⟨_, rfl, d, C.d, dx, _, _, rfl, h, T.clD, T.d_a, dF_av _, a, C.a, da, _, _, rfl, ha, T.clA, T.a_i, aF_i _ _ _, li, _, rfl, .inl (SqL.of o.av.il), rfl, _, rfl, ?_⟩
              have hil := W.ilen
              have hl2 := o.av.ilen
              have hl3 : (is.map V.ref).length = s.interests.length := by rw [List.length_map, hl2]
              rw [hl3]
              refine ite2 (fun c => ?_) (fun c => ?_)
              · -- 20
                have c' := V.int.inj (of_decide_eq_true c)
                refine ⟨(by show 1 ≤ sizeLine; decide), fun p hp => tells_num (z := -5) Dk q ?_ p hp⟩
                unfold Kg88.spec
                simp only
                rw [if_neg (by rw [hall]; decide), if_neg (by rw [hb]; decide), if_pos (by omega)]
              · have c' : ¬ 20 ≤ s.interests.length := fun z => c (decide_eq_true (by rw [show s.interests.length = 20 by omega]; rfl))
                have hs : Kg88.spec s (.interest v u k e) = ({ s with interests := s.interests ++ [⟨v.toNat, u.toNat, 0, 0, k == 1, e == 1⟩] }, Kg88.num s.interests.length) := by
                  unfold Kg88.spec
                  simp only
                  rw [if_neg (by rw [hall]; decide), if_neg (by rw [hb]; decide), if_neg c']
                rw [hs] at q
                have wv := AvM.within_iff.mp e1
                have wu := AvM.within_iff.mp e2
                refine ⟨_, rfl, d, C.d, dx, _, _, rfl, h, T.clD, T.d_a, dF_av _, a, C.a, da, _, _, rfl, ha, T.clA, T.a_i, aF_i _ _ _, .inl ⟨rfl, _, SqL.of o.av.il⟩, _, rfl, _, rfl, _, rfl, rfl, _, rfl, rfl, fun x xd hx hxd hne => ?_⟩
                refine ⟨x, xd, v, u, _, _, rfl, upd_same, rfl, ?_⟩
                rw [upd_upd]
                have zx : Same H2 (upd (upd H2 xd (.own x)) x (.ins C.i xd [("value", .int v), ("declared", .int u), ("on_deck", .bl (decide (V.int k = V.int 1))), ("is_exempt", .bl (decide (V.int e = V.int 1))), ("lost", .int 0), ("given", .int 0)])) := fun b o eb => by
                  rw [upd_ne (ne_of_none eb hx), upd_ne (ne_of_none eb hxd)]
                  exact eb
                refine ⟨li, _, _, rfl, rfl, zx _ _ o.av.il, by rw [hl3]; exact small1000 (by omega), ?_⟩
                have dk := desk_addI (x := x) (xd := xd) (y := ⟨v.toNat, u.toNat, 0, 0, k == 1, e == 1⟩) z0 n0 hb h o zx hx (by
                  rw [upd_same, dec_int, dec_int]
                  show _ = some (HO.ins C.i xd [("value", .int ((v.toNat : Nat) : Int)), ("declared", .int ((u.toNat : Nat) : Int)), ("on_deck", .bl (k == 1)), ("is_exempt", .bl (e == 1)), ("lost", .int ((0 : Nat) : Int)), ("given", .int ((0 : Nat) : Int))])
                  rw [Int.toNat_of_nonneg (by omega), Int.toNat_of_nonneg (by omega)]
                  rfl)
                generalize hH3 : (upd (upd (upd H2 xd (.own x)) x (.ins C.i xd [("value", .int v), ("declared", .int u), ("on_deck", .bl (decide (V.int k = V.int 1))), ("is_exempt", .bl (decide (V.int e = V.int 1))), ("lost", .int 0), ("given", .int 0)])) li (.lst (is.map V.ref ++ [.ref x]))) = H3 at dk ⊢
                have dk' := dk
                obtain ⟨z3, n3, dx3, hd3⟩ := dk'
                rcases hd3 with ⟨hb3, _⟩ | ⟨hb3, a3, li3, le3, is3, es3, h3, o3⟩
                · rw [show s.begun = false from hb3] at hb
                  cases hb
                · obtain ⟨da3, ha3⟩ := o3.av.ins
                  refine ⟨_, rfl, d, C.d, dx3, _, _, rfl, h3, T.clD, T.d_a, dF_av _, a3, C.a, da3, _, _, rfl, ha3, T.clA, T.a_i, aF_i _ _ _, li3, _, rfl, .inl (SqL.of o3.av.il), _, _, rfl, rfl, (by show 1 ≤ sizeLine; decide), fun p hp => ?_⟩
                  refine q _ p (dk.same (same_upd hp)) (dk.1.free hp) ?_
                  have hl4 : is3.length = s.interests.length + 1 := by
                    rw [o3.av.ilen]
                    show (s.interests ++ [_]).length = _
                    rw [List.length_append]
                    rfl
                  rw [upd_same, List.length_map, hl4]
                  show some (HO.lst [.int (((s.interests.length + 1 : Nat) : Int) - 1)]) = some (HO.lst [.int (s.interests.length : Int)])
                  rw [show (((s.interests.length + 1 : Nat) : Int) - 1) = (s.interests.length : Int) by omega]
end
end Av

namespace Av
open PySem PySem.Spec PyProof.Rows L2
open AvM (Wf WfI)
theorem spec_lose_no {s : Kg88.State} {i n : Int} (h : i < 0 ∨ s.interests.length ≤ i.toNat) : Kg88.spec s (.lose i n) = (s, Kg88.num (-1)) := by
  unfold Kg88.spec
  simp only
  exact AvM.onOne_none h
theorem spec_lose {s : Kg88.State} {n : Int} {k : Nat} {x : Kg88.Interest} (hx : s.interests[k]? = some x) : Kg88.spec s (.lose ((k : Nat) : Int) n) = (if Kg88.within n 0 Kg88.MOST = false then (s, Kg88.num (-1)) else if (x.value : Int) < n then (s, Kg88.num (-4)) else
    (Kg88.put s k { x with lost := n.toNat }, ⟨(({ x with lost := n.toNat } : Kg88.Interest).left : Nat), [((({ x with lost := n.toNat } : Kg88.Interest).good : Nat) : Int), ((({ x with lost := n.toNat } : Kg88.Interest).base : Nat) : Int)]⟩)) := by
  unfold Kg88.spec
  simp only
  exact AvM.onOne_some rfl hx
theorem spec_give_no {s : Kg88.State} {i n : Int} (h : i < 0 ∨ s.interests.length ≤ i.toNat) : Kg88.spec s (.give i n) = (s, Kg88.num (-1)) := by
  unfold Kg88.spec
  simp only
  exact AvM.onOne_none h
theorem spec_give {s : Kg88.State} {n : Int} {k : Nat} {x : Kg88.Interest} (hx : s.interests[k]? = some x) : Kg88.spec s (.give ((k : Nat) : Int) n) = (if Kg88.within n 0 Kg88.MOST = false then (s, Kg88.num (-1)) else if (x.value : Int) < (x.lost : Int) + n then (s, Kg88.num (-4)) else
    (Kg88.put s k { x with given := n.toNat }, ⟨(({ x with given := n.toNat } : Kg88.Interest).left : Nat), [((({ x with given := n.toNat } : Kg88.Interest).good : Nat) : Int), ((({ x with given := n.toNat } : Kg88.Interest).base : Nat) : Int)]⟩)) := by
  unfold Kg88.spec
  simp only
  exact AvM.onOne_some rfl hx
/-- a desk with an interest has an average -/
theorem desk_begun {C : Cs} {H0 H : Hp} {d : Addr} {s : Kg88.State} {k : Nat} {x : Kg88.Interest} (h : DeskAt C H0 H d s) (W : Wf s) (hx : s.interests[k]? = some x) :
    s.begun = true ∧ ∃ dx a li le is es ia, H d = some (.ins C.d dx (dF (.ref a))) ∧ OwnAt C H0 H a s li le is es ∧ is[k]? = some ia := by
  obtain ⟨_, _, dx, hd⟩ := h
  rcases hd with ⟨hb, _⟩ | ⟨hb, a, li, le, is, es, h, o⟩
  · rw [W.none_ hb] at hx
    simp at hx
  · have hk : k < is.length := by
      rw [o.av.ilen]
      exact (List.getElem?_eq_some_iff.mp hx).1
    exact ⟨hb, dx, a, li, le, is, es, _, h, o, List.getElem?_eq_getElem hk⟩
section
variable {P : Program} {w : World} {K : PySem.W.Frag} {mg : Str → Option Value} {base : Heap} {C : Cs}
abbrev nLose : List Str := ["desk", "number", "units", "interest"]
theorem scLose : FnScope nLose ["desk", "number", "units"] (defScope sLose) := ⟨rfl, rfl, rfl, by decide +kernel, rfl, by decide +kernel, by decide +kernel⟩
theorem ok_lose (D : DefAt K mg "lose" sLose ["desk", "number", "units"]) (T : Txt K mg C) (hW : Has P w K mg base 1 "within" ["number", "least", "most"] spWithin) (hI : Has P w K mg base 2 "is_interest" ["desk", "number"] (spIsInterest C)) (hS : Has P w K mg base 4 "stands" ["interest"] (spStands C)) :
    Has P w K mg base 5 "lose" ["desk", "number", "units"] (spLose C) := by
  obtain ⟨f, fd, F, b, m⟩ := D.ex
  obtain ⟨fw, fdw, GW, bW, mW, kW⟩ := hW
  obtain ⟨fi, fdi, GI, bI, mI, kI⟩ := hI
  obtain ⟨fs, fds, GS, bS, mS, kS⟩ := hS
  obtain ⟨t1, g1⟩ := T.cMU
  obtain ⟨t2, g2⟩ := T.cNR
  obtain ⟨t3, g3⟩ := T.cTM
  refine ⟨f, fd, F.ok scLose (fun vs H Q E h => ?_) (fun cdv A outer s H vs Q E hr h => ?_), b, m, F.kp⟩
  · obtain ⟨H0, d, s, i, n, rfl, _⟩ := h
    rfl
  · obtain ⟨H0, d, s, i, n, rfl, hD, W, q⟩ := h
    have hr1 : Room 1 _ := hr.mono (by decide)
    have hr2 : Room 2 _ := hr.mono (by decide)
    refine ⟨_, pss_cons (ps_if (PW.pt (pw_or (pt_not (pt_val (pe_call GI hr2 rfl mI kI bI .nil pass0 (pa_cons (pv 0) (pa_cons (pv 1) pa_nil)))))
          (pw_or1 (pt_not (pt_val (pe_call GW hr1 rfl mW kW bW .nil pass0 (pa_cons (pv 2) (pa_cons pe_int (pa_cons (pe_glob (v := .int 1000000000) rfl g1 ⟨_, rfl⟩) pa_nil)))))))))
        (pss_one (ps_ret (pe_lst (pa_cons (pe_glob (v := .int (-1)) rfl g2 ⟨_, rfl⟩) pa_nil)))) pss_nil)
      (pss_cons (ps_set (i := 3) scLose.nd rfl (Or.inl rfl) (pe_ix ix_list (pe_fld (pe_fld (pv 0) rfl) rfl) (pv 1) (fun _ _ => rfl)))
      (pss_cons (ps_if (pt_cmpR op_gt (pv 2) (pe_fld (pv 3) rfl) (nomark _)) (pss_one (ps_ret (pe_lst (pa_cons (pe_glob (v := .int (-4)) rfl g3 ⟨_, rfl⟩) pa_nil)))) pss_nil)
      (pss_cons (ps_fld (pv 3) (pv 2) rfl)
      (pss_one (ps_ret (pe_call GS hr rfl mS kS bS .nil pass0 (pa_cons (pv 3) pa_nil))))))), ?_⟩
    refine ⟨_, rfl, _, rfl, H0, d, s, i, rfl, hD, W, _, rfl, ?_⟩
    rcases AvM.onOne_cases s i with hn | ⟨k, x, rfl, hx⟩
    · refine if_true_of (by rw [within_place hn]; rfl) ?_
      refine if_true_of rfl ?_
      refine ⟨(by show 1 ≤ sizeLine; decide), fun p hp => tells_num (z := -1) hD q ?_ p hp⟩
      exact spec_lose_no hn
    · refine if_false_of (by rw [within_place' hx]; rfl) ?_
      have hs := spec_lose (n := n) hx
      refine ⟨_, rfl, n, 0, 1000000000, rfl, _, rfl, ?_⟩
      cases e1 : Kg88.within n 0 1000000000 with
      | false =>
        refine if_true_of rfl ?_
        refine ⟨(by show 1 ≤ sizeLine; decide), fun p hp => tells_num (z := -1) hD q ?_ p hp⟩
        rw [hs, if_pos (show Kg88.within n 0 Kg88.MOST = false from e1)]
      | true =>
        refine if_false_of rfl ?_
        obtain ⟨hb, dx, a, li, le, is, es, ia, h, o, hia⟩ := desk_begun hD W hx
        obtain ⟨da, ha⟩ := o.av.ins
        obtain ⟨di, hi⟩ := o.av.iat k ia x hia hx
        refine ⟨_, rfl, d, C.d, dx, _, _, rfl, h, T.clD, T.d_a, dF_av _, a, C.a, da, _, _, rfl, ha, T.clA, T.a_i, aF_i _ _ _, _, rfl, li, _, _, _, rfl, rfl, SqL.of o.av.il, at_of (j := k) (v := V.ref ia) rfl (by rw [List.getElem?_map, hia]; rfl), ?_⟩
        refine ⟨_, rfl, _, rfl, ia, C.i, di, _, _, rfl, hi, T.clI, T.i_value, iF_value x, _, _, rfl, rfl, _, rfl, ?_⟩
        refine ite2 (fun c => ?_) (fun c => ?_)
        · have c' := of_decide_eq_true c
          refine ⟨(by show 1 ≤ sizeLine; decide), fun p hp => tells_num (z := -4) hD q ?_ p hp⟩
          rw [hs, if_neg (by rw [show Kg88.within n 0 Kg88.MOST = true from e1]; decide), if_pos c']
        · have c' : ¬ (x.value : Int) < n := fun z => c (decide_eq_true z)
          have wn := AvM.within_iff.mp e1
          rw [hs, if_neg (by rw [show Kg88.within n 0 Kg88.MOST = true from e1]; decide), if_neg c'] at q
          refine ⟨_, rfl, _, rfl, ia, C.i, di, _, rfl, hi, T.clI, T.i_lost, (by show 6 < 1000; decide), ?_⟩
          have ep : putF "lost" (.int n) (iF x) = iF { x with lost := n.toNat } := by
            have := iF_putLost x n.toNat
            rw [Int.toNat_of_nonneg wn.1] at this
            exact this
          rw [ep]
          have dk := desk_put (y := { x with lost := n.toNat }) hD.1 hD.2.1 hb h o hia hi
          refine ⟨_, rfl, ia, { x with lost := n.toNat }, rfl, ⟨di, upd_same⟩, AvM.wfi_lose (AvM.wfi_of W hx) e1 c', fun p hp => ?_⟩
          exact q _ p (dk.same (same_upd hp)) (dk.1.free hp) upd_same
abbrev nGive : List Str := ["desk", "number", "units", "interest"]
theorem scGive : FnScope nGive ["desk", "number", "units"] (defScope sGive) := ⟨rfl, rfl, rfl, by decide +kernel, rfl, by decide +kernel, by decide +kernel⟩
theorem ok_give (D : DefAt K mg "give" sGive ["desk", "number", "units"]) (T : Txt K mg C) (hW : Has P w K mg base 1 "within" ["number", "least", "most"] spWithin) (hI : Has P w K mg base 2 "is_interest" ["desk", "number"] (spIsInterest C)) (hS : Has P w K mg base 4 "stands" ["interest"] (spStands C)) :
    Has P w K mg base 5 "give" ["desk", "number", "units"] (spGive C) := by
  obtain ⟨f, fd, F, b, m⟩ := D.ex
  obtain ⟨fw, fdw, GW, bW, mW, kW⟩ := hW
  obtain ⟨fi, fdi, GI, bI, mI, kI⟩ := hI
  obtain ⟨fs, fds, GS, bS, mS, kS⟩ := hS
  obtain ⟨t1, g1⟩ := T.cMU
  obtain ⟨t2, g2⟩ := T.cNR
  obtain ⟨t3, g3⟩ := T.cTM
  refine ⟨f, fd, F.ok scGive (fun vs H Q E h => ?_) (fun cdv A outer s H vs Q E hr h => ?_), b, m, F.kp⟩
  · obtain ⟨H0, d, s, i, n, rfl, _⟩ := h
    rfl
  · obtain ⟨H0, d, s, i, n, rfl, hD, W, q⟩ := h
    have hr1 : Room 1 _ := hr.mono (by decide)
    have hr2 : Room 2 _ := hr.mono (by decide)
    refine ⟨_, pss_cons (ps_if (PW.pt (pw_or (pt_not (pt_val (pe_call GI hr2 rfl mI kI bI .nil pass0 (pa_cons (pv 0) (pa_cons (pv 1) pa_nil)))))
          (pw_or1 (pt_not (pt_val (pe_call GW hr1 rfl mW kW bW .nil pass0 (pa_cons (pv 2) (pa_cons pe_int (pa_cons (pe_glob (v := .int 1000000000) rfl g1 ⟨_, rfl⟩) pa_nil)))))))))
        (pss_one (ps_ret (pe_lst (pa_cons (pe_glob (v := .int (-1)) rfl g2 ⟨_, rfl⟩) pa_nil)))) pss_nil)
      (pss_cons (ps_set (i := 3) scGive.nd rfl (Or.inl rfl) (pe_ix ix_list (pe_fld (pe_fld (pv 0) rfl) rfl) (pv 1) (fun _ _ => rfl)))
      (pss_cons (ps_if (pt_cmpR op_gt (pv 2) (pe_op op_sub (pe_fld (pv 3) rfl) (pe_fld (pv 3) rfl)) (nomark _)) (pss_one (ps_ret (pe_lst (pa_cons (pe_glob (v := .int (-4)) rfl g3 ⟨_, rfl⟩) pa_nil)))) pss_nil)
      (pss_cons (ps_fld (pv 3) (pv 2) rfl)
      (pss_one (ps_ret (pe_call GS hr rfl mS kS bS .nil pass0 (pa_cons (pv 3) pa_nil))))))), ?_⟩
    refine ⟨_, rfl, _, rfl, H0, d, s, i, rfl, hD, W, _, rfl, ?_⟩
    rcases AvM.onOne_cases s i with hn | ⟨k, x, rfl, hx⟩
    · refine if_true_of (by rw [within_place hn]; rfl) ?_
      refine if_true_of rfl ?_
      refine ⟨(by show 1 ≤ sizeLine; decide), fun p hp => tells_num (z := -1) hD q ?_ p hp⟩
      exact spec_give_no hn
    · refine if_false_of (by rw [within_place' hx]; rfl) ?_
      have hs := spec_give (n := n) hx
      refine ⟨_, rfl, n, 0, 1000000000, rfl, _, rfl, ?_⟩
      cases e1 : Kg88.within n 0 1000000000 with
      | false =>
        refine if_true_of rfl ?_
        refine ⟨(by show 1 ≤ sizeLine; decide), fun p hp => tells_num (z := -1) hD q ?_ p hp⟩
        rw [hs, if_pos (show Kg88.within n 0 Kg88.MOST = false from e1)]
      | true =>
        refine if_false_of rfl ?_
        obtain ⟨hb, dx, a, li, le, is, es, ia, h, o, hia⟩ := desk_begun hD W hx
        obtain ⟨da, ha⟩ := o.av.ins
        obtain ⟨di, hi⟩ := o.av.iat k ia x hia hx
        refine ⟨_, rfl, d, C.d, dx, _, _, rfl, h, T.clD, T.d_a, dF_av _, a, C.a, da, _, _, rfl, ha, T.clA, T.a_i, aF_i _ _ _, _, rfl, li, _, _, _, rfl, rfl, SqL.of o.av.il, at_of (j := k) (v := V.ref ia) rfl (by rw [List.getElem?_map, hia]; rfl), ?_⟩
        refine ⟨_, rfl, _, rfl, ia, C.i, di, _, _, rfl, hi, T.clI, T.i_value, iF_value x, _, rfl, ia, C.i, di, _, _, rfl, hi, T.clI, T.i_lost, iF_lost x, _, _, rfl, rfl, _, _, rfl, rfl, _, rfl, ?_⟩
        refine ite2 (fun c => ?_) (fun c => ?_)
        · have c' := of_decide_eq_true c
          refine ⟨(by show 1 ≤ sizeLine; decide), fun p hp => tells_num (z := -4) hD q ?_ p hp⟩
          rw [hs, if_neg (by rw [show Kg88.within n 0 Kg88.MOST = true from e1]; decide), if_pos (by omega)]
        · have c' : ¬ (x.value : Int) < (x.lost : Int) + n := fun z => c (decide_eq_true (by omega))
          have wn := AvM.within_iff.mp e1
          rw [hs, if_neg (by rw [show Kg88.within n 0 Kg88.MOST = true from e1]; decide), if_neg c'] at q
          refine ⟨_, rfl, _, rfl, ia, C.i, di, _, rfl, hi, T.clI, T.i_given, (by show 6 < 1000; decide), ?_⟩
          have ep : putF "given" (.int n) (iF x) = iF { x with given := n.toNat } := by
            have := iF_putGiven x n.toNat
            rw [Int.toNat_of_nonneg wn.1] at this
            exact this
          rw [ep]
          have dk := desk_put (y := { x with given := n.toNat }) hD.1 hD.2.1 hb h o hia hi
          refine ⟨_, rfl, ia, { x with given := n.toNat }, rfl, ⟨di, upd_same⟩, AvM.wfi_give (AvM.wfi_of W hx) e1, fun p hp => ?_⟩
          exact q _ p (dk.same (same_upd hp)) (dk.1.free hp) upd_same
abbrev nPutExpense : List Str := ["desk", "wholes", "amount", "payer", "otherwise", "average", "allowed"]
theorem scPutExpense : FnScope nPutExpense ["desk", "wholes"] (defScope sPutExpense) := ⟨rfl, rfl, rfl, by decide +kernel, rfl, by decide +kernel, by decide +kernel⟩
theorem ok_putExpense (D : DefAt K mg "put_expense" sPutExpense ["desk", "wholes"]) (T : Txt K mg C) (hW : Has P w K mg base 1 "within" ["number", "least", "most"] spWithin) (hI : Has P w K mg base 2 "is_interest" ["desk", "number"] (spIsInterest C))
    (hA : Has P w K mg base 1 "allowed_for" ["average", "amount", "otherwise"] (spAllowed C)) (hE : HasI P w K mg base 1 C.e ["self", "payer", "allowed"] (spInitE C)) : Has P w K mg base 3 "put_expense" ["desk", "wholes"] (spPutExpense C) := by
  obtain ⟨f, fd, F, b, m⟩ := D.ex
  obtain ⟨fw, fdw, GW, bW, mW, kW⟩ := hW
  obtain ⟨fi, fdi, GI, bI, mI, kI⟩ := hI
  obtain ⟨fa, fda, GA, bA, mA, kA⟩ := hA
  obtain ⟨fe, fde, GE, bE, ME⟩ := hE
  obtain ⟨t1, g1⟩ := T.cMU
  obtain ⟨t2, g2⟩ := T.cNR
  obtain ⟨t3, g3⟩ := T.cNT
  obtain ⟨t4, g4⟩ := T.cME
  obtain ⟨t5, g5⟩ := T.cFU
  refine ⟨f, fd, F.ok scPutExpense (fun vs H Q E h => ?_) (fun cdv A outer s H vs Q E hr h => ?_), b, m, F.kp⟩
  · obtain ⟨H0, d, wa, s, n, p, o, rfl, _⟩ := h
    rfl
  · obtain ⟨H0, d, wa, s, n, pp, oo, rfl, hD, W, hwa, q⟩ := h
    have hr1 : Room 1 _ := hr.mono (by decide)
    refine ⟨_, pss_cons (ps_asg (pv 1) (pg_unl rfl (pgs_cons (pg_name (i := 2) scPutExpense.nd rfl (Or.inl rfl)) (pgs_cons (pg_name (i := 3) scPutExpense.nd rfl (Or.inl rfl)) (pgs_cons (pg_name (i := 4) scPutExpense.nd rfl (Or.inl rfl)) pgs_nil)))))
      (pss_cons (ps_if (PW.pt (pw_or (pt_not (pt_val (pe_call GW hr1 rfl mW kW bW .nil pass0 (pa_cons (pv 2) (pa_cons pe_int (pa_cons (pe_glob (v := .int 1000000000) rfl g1 ⟨_, rfl⟩) pa_nil))))))
          (pw_or (pt_not (pt_val (pe_call GI hr rfl mI kI bI .nil pass0 (pa_cons (pv 0) (pa_cons (pv 3) pa_nil)))))
          (pw_or1 (pt_not (pt_val (pe_call GW hr1 rfl mW kW bW .nil pass0 (pa_cons (pv 4) (pa_cons (pe_glob (v := .int (-1)) rfl g3 ⟨_, rfl⟩) (pa_cons (pe_glob (v := .int 1000000000) rfl g1 ⟨_, rfl⟩) pa_nil))))))))))
        (pss_one (ps_ret (pe_lst (pa_cons (pe_glob (v := .int (-1)) rfl g2 ⟨_, rfl⟩) pa_nil)))) pss_nil)
      (pss_cons (ps_set (i := 5) scPutExpense.nd rfl (Or.inl rfl) (pe_fld (pv 0) rfl))
      (pss_cons (ps_if (pt_cmpR op_eq (pe_callB call_len_seq (by rfl) T.len PySem.boot_len (pa_cons (pe_fld (pv 5) rfl) pa_nil)) (pe_glob (v := .int 30) rfl g4 ⟨_, rfl⟩) (nomark _)) (pss_one (ps_ret (pe_lst (pa_cons (pe_glob (v := .int (-5)) rfl g5 ⟨_, rfl⟩) pa_nil)))) pss_nil)
      (pss_cons (ps_set (i := 6) scPutExpense.nd rfl (Or.inl rfl) (pe_call GA hr1 rfl mA kA bA .nil pass0 (pa_cons (pv 5) (pa_cons (pv 2) (pa_cons (pv 4) pa_nil)))))
      (pss_cons (ps_expr (pe_bm PySem.F.plainAttrs_list PySem.F.slot_list_append PySem.F.type_list_append mt_append (pe_fld (pv 5) rfl) (pa_cons (pe_make ME GE hr rfl T.gE bE .nil pass0 (pa_cons (pv 3) (pa_cons (pv 6) pa_nil))) pa_nil)))
      (pss_one (ps_ret (pe_lst (pa_cons (pv 6) (pa_cons (pe_op op_sub (pe_callB call_len_seq (by rfl) T.len PySem.boot_len (pa_cons (pe_fld (pv 5) rfl) pa_nil)) pe_int) pa_nil)))))))))), ?_⟩
    refine ⟨_, rfl, wa, _, rfl, SqL.of hwa, rfl, _, _, rfl, _, _, rfl, _, _, rfl, rfl, ?_⟩
    have ref1 : (Kg88.within n 1 Kg88.MOST && (Kg88.within pp 0 ((s.interests.length : Int) - 1) && Kg88.within oo (-1) Kg88.MOST)) = false → ∀ p, H p = none → Q (.ref p) (upd H p (.lst [.int (-1)])) := fun c p hp => by
      refine tells_num (z := -1) hD q ?_ p hp
      unfold Kg88.spec
      simp only
      rw [if_pos c]
    refine ⟨_, rfl, n, 1, 1000000000, rfl, _, rfl, ?_⟩
    cases e1 : Kg88.within n 1 1000000000 with
    | false =>
      refine if_true_of rfl ?_
      refine if_true_of rfl ?_
      exact ⟨(by show 1 ≤ sizeLine; decide), fun p hp => ref1 (by rw [show Kg88.within n 1 Kg88.MOST = false from e1]; rfl) p hp⟩
    | true =>
      refine if_false_of rfl ?_
      refine ⟨_, rfl, _, rfl, H0, d, s, pp, rfl, hD, W, _, rfl, ?_⟩
      cases e2 : Kg88.within pp 0 ((s.interests.length : Int) - 1) with
      | false =>
        refine if_true_of rfl ?_
        refine if_true_of rfl ?_
        exact ⟨(by show 1 ≤ sizeLine; decide), fun p hp => ref1 (by rw [e2, Bool.false_and, Bool.and_false]) p hp⟩
      | true =>
        refine if_false_of rfl ?_
        refine ⟨_, rfl, oo, -1, 1000000000, rfl, _, rfl, ?_⟩
        cases e3 : Kg88.within oo (-1) 1000000000 with
        | false =>
          refine if_true_of rfl ?_
          exact ⟨(by show 1 ≤ sizeLine; decide), fun p hp => ref1 (by rw [show Kg88.within oo (-1) Kg88.MOST = false from e3, Bool.and_false, Bool.and_false]) p hp⟩
        | true =>
          refine if_false_of rfl ?_
          have hall : (Kg88.within n 1 Kg88.MOST && (Kg88.within pp 0 ((s.interests.length : Int) - 1) && Kg88.within oo (-1) Kg88.MOST)) = true := by
            rw [show Kg88.within n 1 Kg88.MOST = true from e1, e2, show Kg88.within oo (-1) Kg88.MOST = true from e3]
            rfl
          have w1 := AvM.within_iff.mp e1
          have w2 := AvM.within_iff.mp e2
          have w3 := AvM.within_iff.mp e3
          have hpl : pp.toNat < s.interests.length := by omega
          obtain ⟨hb, dx, a, li, le, is, es, ia, h, o, hia⟩ := desk_begun hD W (List.getElem?_eq_getElem hpl)
          obtain ⟨da, ha⟩ := o.av.ins
          refine ⟨_, rfl, d, C.d, dx, _, _, rfl, h, T.clD, T.d_a, dF_av _, ?_⟩
          refine ⟨_, rfl, a, C.a, da, _, _, rfl, ha, T.clA, T.a_e, aF_e _ _ _, le, _, rfl, .inl (SqL.of o.av.el), rfl, _, rfl, ?_⟩
          have hel := W.elen
          have hl3 : (es.map V.ref).length = s.expenses.length := by rw [List.length_map, o.av.elen]
          rw [hl3]
          refine ite2 (fun c => ?_) (fun c => ?_)
          · have c' := V.int.inj (of_decide_eq_true c)
            refine ⟨(by show 1 ≤ sizeLine; decide), fun p hp => tells_num (z := -5) hD q ?_ p hp⟩
            unfold Kg88.spec
            simp only
            rw [if_neg (by rw [hall]; decide), if_pos (by omega)]
          · have c' : ¬ 30 ≤ s.expenses.length := fun z => c (decide_eq_true (by rw [show s.expenses.length = 30 by omega]; rfl))
            have hs : Kg88.spec s (.expense n pp oo) = ({ s with expenses := s.expenses ++ [⟨n.toNat, pp.toNat, if oo = -1 then none else some oo.toNat⟩] }, ⟨(s.allowed ⟨n.toNat, pp.toNat, if oo = -1 then none else some oo.toNat⟩ : Nat), [(s.expenses.length : Int)]⟩) := by
              unfold Kg88.spec
              simp only
              rw [if_neg (by rw [hall]; decide), if_neg c']
            rw [hs] at q
            refine ⟨_, rfl, _, rfl, _, rfl, a, s, li, le, is, es, n, oo, rfl, o.av, W, by omega, w1.2, w3.1, ?_⟩
            refine ⟨_, rfl, a, C.a, da, _, _, rfl, ha, T.clA, T.a_e, aF_e _ _ _, .inl ⟨rfl, _, SqL.of o.av.el⟩, _, rfl, _, rfl, fun x xd hx hxd hne => ?_⟩
            refine ⟨x, xd, pp, _, rfl, upd_same, rfl, ?_⟩
            rw [upd_upd]
            have zx : Same H (upd (upd H xd (.own x)) x (.ins C.e xd (eF pp ((s.allowed ⟨n.toNat, 0, if oo = -1 then none else some oo.toNat⟩ : Nat) : Int)))) := fun b o eb => by
              rw [upd_ne (ne_of_none eb hx), upd_ne (ne_of_none eb hxd)]
              exact eb
            refine ⟨le, _, _, rfl, rfl, zx _ _ o.av.el, by rw [hl3]; exact small1000 (by omega), ?_⟩
            have dk := desk_addE (x := x) (xd := xd) (e := ⟨n.toNat, pp.toNat, if oo = -1 then none else some oo.toNat⟩) hD.1 hD.2.1 hb h o zx (by
              rw [upd_same]
              show _ = some (HO.ins C.e xd (eF ((pp.toNat : Nat) : Int) _))
              rw [Int.toNat_of_nonneg w2.1]
              rfl)
            have nale : a ≠ le := ne_of ha o.av.el (by intro z; cases z)
            refine ⟨_, rfl, _, rfl, a, C.a, da, _, _, rfl, Eq.trans (upd_ne nale) (zx _ _ ha), T.clA, T.a_e, aF_e _ _ _, le, _, rfl, .inl (SqL.of upd_same), _, _, rfl, rfl, (by show 2 ≤ sizeLine; decide), fun p hp => ?_⟩
            refine q _ p (dk.same (same_upd hp)) (dk.1.free hp) ?_
            rw [upd_same, List.length_append, hl3]
            show some (HO.lst [.int ((s.allowed ⟨n.toNat, pp.toNat, if oo = -1 then none else some oo.toNat⟩ : Nat) : Int), .int (((s.expenses.length + 1 : Nat) : Int) - 1)]) = some (HO.lst [.int ((s.allowed ⟨n.toNat, pp.toNat, if oo = -1 then none else some oo.toNat⟩ : Nat) : Int), .int (s.expenses.length : Int)])
            rw [show (((s.expenses.length + 1 : Nat) : Int) - 1) = (s.expenses.length : Int) by omega]
end
end Av

namespace Av
open PySem PySem.Spec PyProof.Rows L2
open AvM (Wf WfI)
theorem spec_one_no {s : Kg88.State} {i : Int} (h : i < 0 ∨ s.interests.length ≤ i.toNat) : Kg88.spec s (.one i) = (s, Kg88.num (-1)) := by
  unfold Kg88.spec
  simp only
  exact AvM.onOne_none h
theorem spec_one {s : Kg88.State} {k : Nat} {x : Kg88.Interest} (hx : s.interests[k]? = some x) : Kg88.spec s (.one ((k : Nat) : Int)) =
    (s, ⟨(x.left : Nat), Kg88.whole [x.good, x.base, s.credit k] ++ (if s.can = true then [((s.contributions.getD k 0 : Nat) : Int), s.balances.getD k 0] else [])⟩) := by
  unfold Kg88.spec
  simp only
  exact AvM.onOne_some rfl hx
section
variable {P : Program} {w : World} {K : PySem.W.Frag} {mg : Str → Option Value} {base : Heap} {C : Cs}
theorem scSums : FnScope ["desk", "average"] ["desk"] (defScope sSums) := ⟨rfl, rfl, rfl, by decide +kernel, rfl, by decide +kernel, by decide +kernel⟩
theorem ok_sums (D : DefAt K mg "sums" sSums ["desk"]) (T : Txt K mg C) (hS : Has P w K mg base 4 "shared" ["average"] (spA C Kg88.State.shared)) (hG : Has P w K mg base 3 "all_good" ["average"] (spA C goods)) (hL : Has P w K mg base 1 "all_allowed" ["average"] (spA C alloweds))
    (hB : Has P w K mg base 4 "all_by" ["average"] (spA C Kg88.State.whole)) : Has P w K mg base 5 "sums" ["desk"] (spSums C) := by
  obtain ⟨f, fd, F, b, m⟩ := D.ex
  obtain ⟨fs, fds, GS, bS, mS, kS⟩ := hS
  obtain ⟨fg, fdg, GG, bG, mG, kG⟩ := hG
  obtain ⟨fl, fdl, GL, bL, mL, kL⟩ := hL
  obtain ⟨fb, fdb, GB, bB, mB, kB⟩ := hB
  obtain ⟨t1, g1⟩ := T.cNA
  refine ⟨f, fd, F.ok scSums (fun vs H Q E h => ?_) (fun cdv A outer s H vs Q E hr h => ?_), b, m, F.kp⟩
  · obtain ⟨H0, d, s, rfl, _⟩ := h
    rfl
  · obtain ⟨H0, d, s, rfl, hD, W, q⟩ := h
    have hr1 : Room 1 _ := hr.mono (by decide)
    have hr3 : Room 3 _ := hr.mono (by decide)
    refine ⟨_, pss_cons (ps_if (pt_cmpR op_isN (pe_fld (pv 0) rfl) pe_non (nomark _)) (pss_one (ps_ret (pe_lst (pa_cons (pe_glob (v := .int (-2)) rfl g1 ⟨_, rfl⟩) pa_nil)))) pss_nil)
      (pss_cons (ps_set (i := 1) scSums.nd rfl (Or.inl rfl) (pe_fld (pv 0) rfl))
      (pss_one (ps_ret (pe_lst (pa_cons (pe_call GS hr rfl mS kS bS .nil pass0 (pa_cons (pv 1) pa_nil)) (pa_cons (pe_call GG hr3 rfl mG kG bG .nil pass0 (pa_cons (pv 1) pa_nil)) (pa_cons (pe_call GL hr1 rfl mL kL bL .nil pass0 (pa_cons (pv 1) pa_nil)) (pa_cons (pe_call GB hr rfl mB kB bB .nil pass0 (pa_cons (pv 1) pa_nil)) pa_nil)))))))), ?_⟩
    have Dk := hD
    obtain ⟨z0, n0, dx, hd⟩ := hD
    rcases hd with ⟨hb, h⟩ | ⟨hb, a, li, le, is, es, h, o⟩
    · refine ⟨_, rfl, d, C.d, dx, _, _, rfl, h, T.clD, T.d_a, dF_av _, rfl, _, rfl, ?_⟩
      refine if_true_of (by decide) ?_
      refine ⟨(by show 1 ≤ sizeLine; decide), fun p hp => tells_num (z := -2) Dk q ?_ p hp⟩
      unfold Kg88.spec
      simp only
      rw [if_pos hb]
    · refine ⟨_, rfl, d, C.d, dx, _, _, rfl, h, T.clD, T.d_a, dF_av _, rfl, _, rfl, ?_⟩
      refine if_false_of (decide_eq_false (by intro z; cases z)) ?_
      refine ⟨_, rfl, d, C.d, dx, _, _, rfl, h, T.clD, T.d_a, dF_av _, ?_⟩
      refine ⟨_, rfl, a, s, li, le, is, es, rfl, o.av, W, fun H1 s1 => ?_⟩
      refine ⟨_, rfl, a, s, li, le, is, es, rfl, o.av.same s1, W, fun H2 s2 => ?_⟩
      refine ⟨_, rfl, a, s, li, le, is, es, rfl, o.av.same (s1.trans s2), W, fun H3 s3 => ?_⟩
      refine ⟨_, rfl, a, s, li, le, is, es, rfl, o.av.same ((s1.trans s2).trans s3), W, fun H4 s4 => ?_⟩
      refine ⟨(by show 4 ≤ sizeLine; decide), fun p hp => ?_⟩
      have hs : Kg88.spec s .sums = (s, ⟨(s.shared : Nat), Kg88.whole [(s.interests.map Kg88.Interest.good).sum, (s.expenses.map s.allowed).sum, s.whole]⟩) := by
        unfold Kg88.spec
        simp only
        rw [if_neg (by rw [hb]; decide)]
      rw [hs] at q
      have z4 := ((s1.trans s2).trans s3).trans s4
      exact q _ p (Dk.same (z4.trans (same_upd hp))) ((Dk.1.trans z4).free hp) upd_same
abbrev nOne : List Str := ["desk", "number", "average", "found"]
theorem scOne : FnScope nOne ["desk", "number"] (defScope sOne) := ⟨rfl, rfl, rfl, by decide +kernel, rfl, by decide +kernel, by decide +kernel⟩
theorem ok_one (D : DefAt K mg "one" sOne ["desk", "number"]) (T : Txt K mg C) (hI : Has P w K mg base 2 "is_interest" ["desk", "number"] (spIsInterest C)) (hS : Has P w K mg base 4 "stands" ["interest"] (spStands C)) (hO : Has P w K mg base 3 "owed" ["average", "number"] (spOwed C))
    (hA : Has P w K mg base 5 "can_be_adjusted" ["average"] (spCan C)) (hC : Has P w K mg base 5 "contributions" ["average"] (spL C contribs)) (hB : Has P w K mg base 6 "balances" ["average"] (spL C Kg88.State.balances)) : Has P w K mg base 7 "one" ["desk", "number"] (spOne C) := by
  obtain ⟨f, fd, F, b, m⟩ := D.ex
  obtain ⟨fi, fdi, GI, bI, mI, kI⟩ := hI
  obtain ⟨fs, fds, GS, bS, mS, kS⟩ := hS
  obtain ⟨fo, fdo, GO, bO, mO, kO⟩ := hO
  obtain ⟨fa, fda, GA, bA, mA, kA⟩ := hA
  obtain ⟨fc, fdc, GC, bC, mC, kC⟩ := hC
  obtain ⟨fb, fdb, GB, bB, mB, kB⟩ := hB
  obtain ⟨t1, g1⟩ := T.cNR
  refine ⟨f, fd, F.ok scOne (fun vs H Q E h => ?_) (fun cdv A outer s H vs Q E hr h => ?_), b, m, F.kp⟩
  · obtain ⟨H0, d, s, i, rfl, _⟩ := h
    rfl
  · obtain ⟨H0, d, s, i, rfl, hD, W, q⟩ := h
    have hr2 : Room 2 _ := hr.mono (by decide)
    have hr3 : Room 3 _ := hr.mono (by decide)
    have hr4 : Room 4 _ := hr.mono (by decide)
    have hr5 : Room 5 _ := hr.mono (by decide)
    refine ⟨_, pss_cons (ps_if (pt_not (pt_val (pe_call GI hr2 rfl mI kI bI .nil pass0 (pa_cons (pv 0) (pa_cons (pv 1) pa_nil))))) (pss_one (ps_ret (pe_lst (pa_cons (pe_glob (v := .int (-1)) rfl g1 ⟨_, rfl⟩) pa_nil)))) pss_nil)
      (pss_cons (ps_set (i := 2) scOne.nd rfl (Or.inl rfl) (pe_fld (pv 0) rfl))
      (pss_cons (ps_set (i := 3) scOne.nd rfl (Or.inl rfl) (pe_op op_cat (pe_call GS hr4 rfl mS kS bS .nil pass0 (pa_cons (pe_ix ix_list (pe_fld (pv 2) rfl) (pv 1) (fun _ _ => rfl)) pa_nil)) (pe_lst (pa_cons (pe_call GO hr3 rfl mO kO bO .nil pass0 (pa_cons (pv 2) (pa_cons (pv 1) pa_nil))) pa_nil))))
      (pss_cons (ps_if (pt_val (pe_call GA hr5 rfl mA kA bA .nil pass0 (pa_cons (pv 2) pa_nil)))
        (pss_one (ps_set (i := 3) scOne.nd rfl (Or.inl rfl) (pe_op op_cat (pv 3) (pe_lst (pa_cons (pe_ix ix_list (pe_call GC hr5 rfl mC kC bC .nil pass0 (pa_cons (pv 2) pa_nil)) (pv 1) (fun _ _ => rfl)) (pa_cons (pe_ix ix_list (pe_call GB hr rfl mB kB bB .nil pass0 (pa_cons (pv 2) pa_nil)) (pv 1) (fun _ _ => rfl)) pa_nil)))))) pss_nil)
      (pss_one (ps_ret (pv 3)))))), ?_⟩
    refine ⟨_, rfl, _, rfl, H0, d, s, i, rfl, hD, W, _, rfl, ?_⟩
    rcases AvM.onOne_cases s i with hn | ⟨k, x, rfl, hx⟩
    · refine if_true_of (by rw [within_place hn]; rfl) ?_
      exact ⟨(by show 1 ≤ sizeLine; decide), fun p hp => tells_num (z := -1) hD q (spec_one_no hn) p hp⟩
    · refine if_false_of (by rw [within_place' hx]; rfl) ?_
      have hkl := (List.getElem?_eq_some_iff.mp hx).1
      obtain ⟨hb, dx, a, li, le, is, es, ia, h, o, hia⟩ := desk_begun hD W hx
      obtain ⟨da, ha⟩ := o.av.ins
      have hi := o.av.iat k ia x hia hx
      rw [spec_one hx] at q
      refine ⟨_, rfl, d, C.d, dx, _, _, rfl, h, T.clD, T.d_a, dF_av _, ?_⟩
      -- stands(..) + [owed(..)]
      refine ⟨_, rfl, a, C.a, da, _, _, rfl, ha, T.clA, T.a_i, aF_i _ _ _, _, rfl, li, _, _, _, rfl, rfl, SqL.of o.av.il, at_of (j := k) (v := V.ref ia) rfl (by rw [List.getElem?_map, hia]; rfl), ia, x, rfl, hi, AvM.wfi_of W hx, fun p1 hp1 => ?_⟩
      have s1 : Same H (upd H p1 (.lst [.int (x.left : Nat), .int (x.good : Nat), .int (x.base : Nat)])) := same_upd hp1
      refine ⟨_, rfl, _, rfl, a, s, li, le, is, es, k, rfl, hkl, o.av.same s1, W, fun H2 s2 => ?_⟩
      refine ⟨(by show 1 ≤ sizeLine; decide), fun p2 hp2 => ?_⟩
      have s3 : Same H2 (upd H2 p2 (.lst [.int (s.credit k : Nat)])) := same_upd hp2
      refine ⟨p1, p2, _, _, rfl, rfl, s3 _ _ (s2 _ _ upd_same), upd_same, (by show 4 ≤ sizeLine; decide), fun p3 hp3 => ?_⟩
      have s4 : Same H (upd (upd H2 p2 (.lst [.int (s.credit k : Nat)])) p3 (.lst ([.int (x.left : Nat), .int (x.good : Nat), .int (x.base : Nat)] ++ [.int (s.credit k : Nat)]))) := ((s1.trans s2).trans s3).trans (same_upd hp3)
      have h4 : (upd (upd H2 p2 (.lst [.int (s.credit k : Nat)])) p3 (.lst ([.int (x.left : Nat), .int (x.good : Nat), .int (x.base : Nat)] ++ [.int (s.credit k : Nat)]))) p3 = some (.lst ([.int (x.left : Nat), .int (x.good : Nat), .int (x.base : Nat)] ++ [.int (s.credit k : Nat)])) := upd_same
      have f3 : H p3 = none := ((s1.trans s2).trans s3).free hp3
      generalize (upd (upd H2 p2 (.lst [.int (s.credit k : Nat)])) p3 (.lst ([.int (x.left : Nat), .int (x.good : Nat), .int (x.base : Nat)] ++ [.int (s.credit k : Nat)]))) = H4 at s4 h4
      -- can_be_adjusted
      refine ⟨_, rfl, a, s, li, le, is, es, rfl, o.av.same s4, W, fun H5 s5 => ⟨_, rfl, ?_⟩⟩
      cases hc : s.can with
      | false =>
        refine if_false_of rfl ?_
        refine ⟨_, rfl, ?_⟩
        rw [hc] at q
        exact q _ p3 (hD.same (s4.trans s5)) (hD.1.free f3) (s5 _ _ h4)
      | true =>
        refine if_true_of rfl ?_
        rw [hc, if_pos rfl] at q
        have hcl := AvM.contributions_length s
        have hbl := AvM.balances_length s
        have ek1 : s.contributions[k]? = some (s.contributions.getD k 0) := by
          rw [List.getD_eq_getElem?_getD, List.getElem?_eq_getElem (by omega)]
          rfl
        have ek2 : s.balances[k]? = some (s.balances.getD k 0) := by
          rw [List.getD_eq_getElem?_getD, List.getElem?_eq_getElem (by omega)]
          rfl
        refine ⟨_, rfl, _, rfl, a, s, li, le, is, es, rfl, o.av.same (s4.trans s5), W, hc, fun H6 cs s6 hcs h6 => ?_⟩
        refine ⟨_, rfl, cs, _, _, _, rfl, rfl, SqL.of h6, at_of (j := k) (v := V.int ((s.contributions.getD k 0 : Nat) : Int)) rfl (by unfold contribs; rw [List.getElem?_map, List.getElem?_map, ek1]; rfl), ?_⟩
        refine ⟨_, rfl, a, s, li, le, is, es, rfl, o.av.same ((s4.trans s5).trans s6), W, hc, fun H7 bs s7 hbs h7 => ?_⟩
        refine ⟨_, rfl, bs, _, _, _, rfl, rfl, SqL.of h7, at_of (j := k) (v := V.int (s.balances.getD k 0)) rfl (by rw [List.getElem?_map, ek2]; rfl), ?_⟩
        refine ⟨(by show 2 ≤ sizeLine; decide), fun p4 hp4 => ?_⟩
        have s8 : Same H7 (upd H7 p4 (.lst [.int ((s.contributions.getD k 0 : Nat) : Int), .int (s.balances.getD k 0)])) := same_upd hp4
        refine ⟨p3, p4, _, _, rfl, rfl, s8 _ _ (s7 _ _ (s6 _ _ (s5 _ _ h4))), upd_same, (by show 6 ≤ sizeLine; decide), fun p5 hp5 => ?_⟩
        have z8 := (((s4.trans s5).trans s6).trans s7).trans s8
        refine ⟨_, rfl, ?_⟩
        exact q _ p5 (hD.same (z8.trans (same_upd hp5))) ((hD.1.trans z8).free hp5) upd_same
abbrev nAdjusted : List Str := ["desk", "kind", "average"]
theorem scAdjusted : FnScope nAdjusted ["desk", "kind"] (defScope sAdjusted) := ⟨rfl, rfl, rfl, by decide +kernel, rfl, by decide +kernel, by decide +kernel⟩
theorem ok_adjusted (D : DefAt K mg "adjusted" sAdjusted ["desk", "kind"]) (T : Txt K mg C) (hA : Has P w K mg base 5 "can_be_adjusted" ["average"] (spCan C)) (hJ : Has P w K mg base 7 "adjust" ["average"] (spL C adjL)) (hT : Has P w K mg base 8 "transfers" ["average"] (spL C traL))
    (hS : Has P w K mg base 4 "shared" ["average"] (spA C Kg88.State.shared)) (hB : Has P w K mg base 4 "all_by" ["average"] (spA C Kg88.State.whole)) : Has P w K mg base 9 "adjusted" ["desk", "kind"] (spAdjusted C) := by
  obtain ⟨f, fd, F, b, m⟩ := D.ex
  obtain ⟨fa, fda, GA, bA, mA, kA⟩ := hA
  obtain ⟨fj, fdj, GJ, bJ, mJ, kJ⟩ := hJ
  obtain ⟨ft, fdt, GT, bT, mT, kT⟩ := hT
  obtain ⟨fs, fds, GS, bS, mS, kS⟩ := hS
  obtain ⟨fb, fdb, GB, bB, mB, kB⟩ := hB
  obtain ⟨t1, g1⟩ := T.cNA
  obtain ⟨t2, g2⟩ := T.cCA
  obtain ⟨t3, g3⟩ := T.cRA
  refine ⟨f, fd, F.ok scAdjusted (fun vs H Q E h => ?_) (fun cdv A outer s H vs Q E hr h => ?_), b, m, F.kp⟩
  · obtain ⟨H0, d, s, k, rfl, _⟩ := h
    rfl
  · obtain ⟨H0, d, s, k, rfl, hD, W, q⟩ := h
    have hr4 : Room 4 _ := hr.mono (by decide)
    have hr5 : Room 5 _ := hr.mono (by decide)
    have hr7 : Room 7 _ := hr.mono (by decide)
    refine ⟨_, pss_cons (ps_if (pt_cmpR op_isN (pe_fld (pv 0) rfl) pe_non (nomark _)) (pss_one (ps_ret (pe_lst (pa_cons (pe_glob (v := .int (-2)) rfl g1 ⟨_, rfl⟩) pa_nil)))) pss_nil)
      (pss_cons (ps_set (i := 2) scAdjusted.nd rfl (Or.inl rfl) (pe_fld (pv 0) rfl))
      (pss_cons (ps_if (pt_not (pt_val (pe_call GA hr5 rfl mA kA bA .nil pass0 (pa_cons (pv 2) pa_nil)))) (pss_one (ps_ret (pe_lst (pa_cons (pe_glob (v := .int (-6)) rfl g2 ⟨_, rfl⟩) pa_nil)))) pss_nil)
      (pss_cons (ps_if (pt_cmpR op_eq (pv 1) pe_int (nomark _)) (pss_one (ps_ret (pe_call GJ hr7 rfl mJ kJ bJ .nil pass0 (pa_cons (pv 2) pa_nil)))) pss_nil)
      (pss_cons (ps_if (pt_cmpR op_eq (pv 1) pe_int (nomark _)) (pss_one (ps_ret (pe_call GT hr rfl mT kT bT .nil pass0 (pa_cons (pv 2) pa_nil)))) pss_nil)
      (pss_one (ps_ret (pe_lst (pa_cons (pe_op op_fdivW (pe_op op_mul (pe_glob (v := .int 10000) rfl g3 ⟨_, rfl⟩) (pe_call GS hr4 rfl mS kS bS .nil pass0 (pa_cons (pv 2) pa_nil))) (pe_call GB hr4 rfl mB kB bB .nil pass0 (pa_cons (pv 2) pa_nil))) pa_nil)))))))), ?_⟩
    have Dk := hD
    obtain ⟨z0, n0, dx, hd⟩ := hD
    have hno : s.begun = false → Kg88.spec s (adjCall k) = (s, Kg88.num (-2)) := fun hb => by
      unfold adjCall
      split
      · unfold Kg88.spec
        simp only
        rw [if_pos hb]
      · split
        · unfold Kg88.spec
          simp only
          rw [if_pos hb]
        · unfold Kg88.spec
          simp only
          rw [if_pos hb]
    have hcan : s.begun = true → s.can = false → Kg88.spec s (adjCall k) = (s, Kg88.num (-6)) := fun hb hc => by
      unfold adjCall
      split
      · unfold Kg88.spec
        simp only
        rw [if_neg (by rw [hb]; decide), if_pos hc]
      · split
        · unfold Kg88.spec
          simp only
          rw [if_neg (by rw [hb]; decide), if_pos hc]
        · unfold Kg88.spec
          simp only
          rw [if_neg (by rw [hb]; decide), if_pos hc]
    rcases hd with ⟨hb, h⟩ | ⟨hb, a, li, le, is, es, h, o⟩
    · refine ⟨_, rfl, d, C.d, dx, _, _, rfl, h, T.clD, T.d_a, dF_av _, rfl, _, rfl, ?_⟩
      refine if_true_of (by decide) ?_
      exact ⟨(by show 1 ≤ sizeLine; decide), fun p hp => tells_num (z := -2) Dk q (hno hb) p hp⟩
    · refine ⟨_, rfl, d, C.d, dx, _, _, rfl, h, T.clD, T.d_a, dF_av _, rfl, _, rfl, ?_⟩
      refine if_false_of (decide_eq_false (by intro z; cases z)) ?_
      refine ⟨_, rfl, d, C.d, dx, _, _, rfl, h, T.clD, T.d_a, dF_av _, ?_⟩
      refine ⟨_, rfl, a, s, li, le, is, es, rfl, o.av, W, fun H1 s1 => ⟨_, rfl, ?_⟩⟩
      cases hc : s.can with
      | false =>
        refine if_true_of rfl ?_
        exact ⟨(by show 1 ≤ sizeLine; decide), fun p hp => tells_num (z := -6) (Dk.same s1) q (hcan hb hc) p hp⟩
      | true =>
        refine if_false_of rfl ?_
        refine ⟨_, rfl, rfl, _, rfl, ?_⟩
        refine ite2 (fun c8 => ?_) (fun c8 => ?_)
        · have c8' : k = 8 := V.int.inj (of_decide_eq_true c8)
          subst c8'
          have hs : Kg88.spec s (adjCall 8) = (s, ⟨(s.shared : Nat), (s.contributions.zip s.balances).flatMap fun x => [(x.1 : Int), x.2]⟩) := by
            show Kg88.spec s .adjust = _
            unfold Kg88.spec
            simp only
            rw [if_neg (by rw [hb]; decide), if_neg (by rw [hc]; decide)]
          rw [hs] at q
          refine ⟨_, rfl, a, s, li, le, is, es, rfl, o.av.same s1, W, hc, fun H2 p s2 hp h2 => ?_⟩
          exact q _ p (Dk.same (s1.trans s2)) ((Dk.1.trans s1).free hp) h2
        · have c8' : ¬ k = 8 := fun z => c8 (decide_eq_true (by rw [z]))
          refine ⟨_, rfl, rfl, _, rfl, ?_⟩
          refine ite2 (fun c9 => ?_) (fun c9 => ?_)
          · have c9' : k = 9 := V.int.inj (of_decide_eq_true c9)
            subst c9'
            have hs : Kg88.spec s (adjCall 9) = (s, ⟨(s.transfers.length : Nat), s.transfers.flatMap fun x => Kg88.whole [x.1, x.2.1, x.2.2]⟩) := by
              show Kg88.spec s .transfers = _
              unfold Kg88.spec
              simp only
              rw [if_neg (by rw [hb]; decide), if_neg (by rw [hc]; decide)]
            rw [hs] at q
            refine ⟨_, rfl, a, s, li, le, is, es, rfl, o.av.same s1, W, hc, fun H2 p s2 hp h2 => ?_⟩
            exact q _ p (Dk.same (s1.trans s2)) ((Dk.1.trans s1).free hp) h2
          · have c9' : ¬ k = 9 := fun z => c9 (decide_eq_true (by rw [z]))
            have hs : Kg88.spec s (adjCall k) = (s, Kg88.num (s.rate : Nat)) := by
              unfold adjCall
              rw [if_neg c8', if_neg c9']
              unfold Kg88.spec
              simp only
              rw [if_neg (by rw [hb]; decide), if_neg (by rw [hc]; decide)]
            have hw0 := (can_of hc).1
            have hwl := AvM.whole_le W
            refine ⟨_, rfl, a, s, li, le, is, es, rfl, o.av.same s1, W, fun H2 s2 => ?_⟩
            refine ⟨_, _, rfl, rfl, .inl ⟨by decide, by decide⟩, ?_⟩
            refine ⟨_, rfl, a, s, li, le, is, es, rfl, o.av.same (s1.trans s2), W, fun H3 s3 => ?_⟩
            refine ⟨_, _, rfl, rfl, wide_div (b := 64) (by omega) (by omega) (by decide) (by decide), (by show 1 ≤ sizeLine; decide), fun p hp => ?_⟩
            have e : (10000 : Int) * ((s.shared : Nat) : Int) / ((s.whole : Nat) : Int) = ((s.rate : Nat) : Int) := by
              unfold Kg88.State.rate
              rw [Int.natCast_ediv, Int.natCast_mul]
              rfl
            have z3 := (s1.trans s2).trans s3
            have r := tells_num (z := ((s.rate : Nat) : Int)) (Dk.same z3) q hs p hp
            rw [← e] at r
            exact r
end
end Av

namespace Av
open PySem PySem.Spec PyProof.Rows L2
open AvM (Wf WfI)
/-! ### a written dict with ints for keys and values: d[k] -/
def IntKeys (l : List DictEntry) : Bool := l.all fun e => match e.key with
  | .int k _ => e.hash == hashInt k
  | _ => false
theorem IntKeys.all {l : List DictEntry} (h : IntKeys l = true) : ∀ e ∈ l, ∃ k t, e.key = .int k t ∧ e.hash = hashInt k := fun e he => by
  have q := List.all_eq_true.mp h e he
  cases ek : e.key with
  | int k t =>
    rw [ek] at q
    exact ⟨k, t, rfl, beq_iff_eq.mp q⟩
  | _ =>
    rw [ek] at q
    cases q
def KIntD (K : PySem.W.Frag) (a : Addr) (k v : Int) : Prop := ∃ es n tv, K.lookup a = some ⟨.type "dict", none, .dict es n, #[]⟩ ∧ IntKeys es.toList = true ∧ findBy Value.isInt es k = some (.int v tv)
def rIxI (K : PySem.W.Frag) : R2 := fun x y H Q => ∃ p i v, x = .ref p ∧ y = .int i ∧ KIntD K p i v ∧ Q (.int v) H
theorem ix_kint {X : Cx} : IxR X (rIxI X.K) := by
  intro value slice pins s σ H x y v u Q I rx ry h hs
  obtain ⟨p, i, z, rfl, rfl, ⟨es, n, tv, hl, hk, e⟩, q⟩ := h
  obtain rfl : v = Value.ref p := rx
  obtain ⟨t, rfl⟩ := ry
  have hm : s.heap.MapOf (intKind X.prog X.w) p (fun k => findBy Value.isInt es k) := ⟨_, es, n, I.kIn _ _ hl, ⟨rfl, rfl, rfl⟩, rfl, fun d hd => by
    obtain ⟨k, t', e1, e2⟩ := IntKeys.all hk d (Array.mem_toList_iff.mpr hd)
    exact ⟨k, by rw [e1]; show Value.isInt k (.int k t') = true; simp [Value.isInt], e2⟩, fun _ => rfl⟩
  exact tail_any hm.typeIs slot_dict_getitem.lookup (wpAny_getItem_of (show (intKind X.prog X.w).is i (.int i t) = true by show Value.isInt i (.int i t) = true; simp [Value.isInt]) hm e ⟨.int z, H, I.tok _, ⟨tv, rfl⟩, q⟩) hs
/-! ### a call's shape -/
theorem shape_cases {p : Int} {n : Nat} (h : PyKg88.shape p = some (n, 0)) : (p = 1 ∧ n = 1) ∨ (p = 2 ∧ n = 4) ∨ (p = 3 ∧ n = 2) ∨ (p = 4 ∧ n = 2) ∨ (p = 5 ∧ n = 3) ∨ (p = 6 ∧ n = 0) ∨ (p = 7 ∧ n = 1) ∨ (p = 8 ∧ n = 0) ∨ (p = 9 ∧ n = 0) ∨ (p = 10 ∧ n = 0) := by
  unfold PyKg88.shape at h
  repeat' split at h
  all_goals first
    | (cases h; done)
    | (injection h with h; injection h with h _; omega)
theorem len0 {l : List Int} (h : l.length = 0) : l = [] := List.length_eq_zero_iff.mp h
theorem len1 {l : List Int} (h : l.length = 1) : ∃ a, l = [a] := List.length_eq_one_iff.mp h
theorem len2 : ∀ {l : List Int}, l.length = 2 → ∃ a b, l = [a, b]
  | [a, b], _ => ⟨a, b, rfl⟩
theorem len3 : ∀ {l : List Int}, l.length = 3 → ∃ a b c, l = [a, b, c]
  | [a, b, c], _ => ⟨a, b, c, rfl⟩
theorem len4 : ∀ {l : List Int}, l.length = 4 → ∃ a b c d, l = [a, b, c, d]
  | [a, b, c, d], _ => ⟨a, b, c, d, rfl⟩
def spAnswered (C : Cs) : Sp := fun vs H Q _ => ∃ (H0 : Hp) (d wa : Addr) (s : Kg88.State) (k : Int) (ns : List Int), vs = [.ref d, .int k, .ref wa] ∧ DeskAt C H0 H d s ∧ Wf s ∧ H wa = some (.lst (ns.map V.int)) ∧ PyKg88.shape k = some (ns.length, 0) ∧
  ∀ (H' : Hp) (p : Addr), DeskAt C H0 H' d (Kg88Neutral.step s [k :: ns]).1 → H0 p = none → H' p = some (.lst ((Kg88Neutral.step s [k :: ns]).2.map V.int)) → Q (.ref p) H'
section
variable {P : Program} {w : World} {K : PySem.W.Frag} {mg : Str → Option Value} {base : Heap} {C : Cs}
theorem scAnswered : FnScope ["desk", "kind", "wholes"] ["desk", "kind", "wholes"] (defScope sAnswered) := ⟨rfl, rfl, rfl, by decide +kernel, rfl, by decide +kernel, by decide +kernel⟩
theorem ok_answered (D : DefAt K mg "answered" sAnswered ["desk", "kind", "wholes"]) (h1 : Has P w K mg base 3 "begin" ["desk", "hundredths"] (spBegin C)) (h2 : Has P w K mg base 3 "put_interest" ["desk", "wholes"] (spPutInterest C)) (h3 : Has P w K mg base 5 "lose" ["desk", "number", "units"] (spLose C))
    (h4 : Has P w K mg base 5 "give" ["desk", "number", "units"] (spGive C)) (h5 : Has P w K mg base 3 "put_expense" ["desk", "wholes"] (spPutExpense C)) (h6 : Has P w K mg base 5 "sums" ["desk"] (spSums C)) (h7 : Has P w K mg base 7 "one" ["desk", "number"] (spOne C)) (h8 : Has P w K mg base 9 "adjusted" ["desk", "kind"] (spAdjusted C)) :
    Has P w K mg base 10 "answered" ["desk", "kind", "wholes"] (spAnswered C) := by
  obtain ⟨f, fd, F, b, m⟩ := D.ex
  obtain ⟨f1, fd1, G1, b1, m1, k1⟩ := h1
  obtain ⟨f2, fd2, G2, b2, m2, k2⟩ := h2
  obtain ⟨f3, fd3, G3, b3, m3, k3⟩ := h3
  obtain ⟨f4, fd4, G4, b4, m4, k4⟩ := h4
  obtain ⟨f5, fd5, G5, b5, m5, k5⟩ := h5
  obtain ⟨f6, fd6, G6, b6, m6, k6⟩ := h6
  obtain ⟨f7, fd7, G7, b7, m7, k7⟩ := h7
  obtain ⟨f8, fd8, G8, b8, m8, k8⟩ := h8
  refine ⟨f, fd, F.ok scAnswered (fun vs H Q E h => ?_) (fun cdv A outer s H vs Q E hr h => ?_), b, m, F.kp⟩
  · obtain ⟨H0, d, wa, s, k, ns, rfl, _⟩ := h
    rfl
  · obtain ⟨H0, d, wa, s, k, ns, rfl, hD, W, hwa, hsh, q⟩ := h
    have hr3 : Room 3 _ := hr.mono (by decide)
    have hr5 : Room 5 _ := hr.mono (by decide)
    have hr7 : Room 7 _ := hr.mono (by decide)
    refine ⟨_, pss_cons (ps_if (pt_cmpR op_eq (pv 1) pe_int (nomark _)) (pss_one (ps_ret (pe_call G1 hr3 rfl m1 k1 b1 .nil pass0 (pa_cons (pv 0) (pa_cons (pe_ix ix_list (pv 2) pe_int (fun _ _ => rfl)) pa_nil))))) pss_nil)
      (pss_cons (ps_if (pt_cmpR op_eq (pv 1) pe_int (nomark _)) (pss_one (ps_ret (pe_call G2 hr3 rfl m2 k2 b2 .nil pass0 (pa_cons (pv 0) (pa_cons (pv 2) pa_nil))))) pss_nil)
      (pss_cons (ps_if (pt_cmpR op_eq (pv 1) pe_int (nomark _)) (pss_one (ps_ret (pe_call G3 hr5 rfl m3 k3 b3 .nil pass0 (pa_cons (pv 0) (pa_cons (pe_ix ix_list (pv 2) pe_int (fun _ _ => rfl)) (pa_cons (pe_ix ix_list (pv 2) pe_int (fun _ _ => rfl)) pa_nil)))))) pss_nil)
      (pss_cons (ps_if (pt_cmpR op_eq (pv 1) pe_int (nomark _)) (pss_one (ps_ret (pe_call G4 hr5 rfl m4 k4 b4 .nil pass0 (pa_cons (pv 0) (pa_cons (pe_ix ix_list (pv 2) pe_int (fun _ _ => rfl)) (pa_cons (pe_ix ix_list (pv 2) pe_int (fun _ _ => rfl)) pa_nil)))))) pss_nil)
      (pss_cons (ps_if (pt_cmpR op_eq (pv 1) pe_int (nomark _)) (pss_one (ps_ret (pe_call G5 hr3 rfl m5 k5 b5 .nil pass0 (pa_cons (pv 0) (pa_cons (pv 2) pa_nil))))) pss_nil)
      (pss_cons (ps_if (pt_cmpR op_eq (pv 1) pe_int (nomark _)) (pss_one (ps_ret (pe_call G6 hr5 rfl m6 k6 b6 .nil pass0 (pa_cons (pv 0) pa_nil)))) pss_nil)
      (pss_cons (ps_if (pt_cmpR op_eq (pv 1) pe_int (nomark _)) (pss_one (ps_ret (pe_call G7 hr7 rfl m7 k7 b7 .nil pass0 (pa_cons (pv 0) (pa_cons (pe_ix ix_list (pv 2) pe_int (fun _ _ => rfl)) pa_nil))))) pss_nil)
      (pss_one (ps_ret (pe_call G8 hr rfl m8 k8 b8 .nil pass0 (pa_cons (pv 0) (pa_cons (pv 1) pa_nil))))))))))), ?_⟩
    rcases shape_cases hsh with ⟨e, n⟩ | ⟨e, n⟩ | ⟨e, n⟩ | ⟨e, n⟩ | ⟨e, n⟩ | ⟨e, n⟩ | ⟨e, n⟩ | ⟨e, n⟩ | ⟨e, n⟩ | ⟨e, n⟩
    · obtain ⟨x0, rfl⟩ := len1 n
      subst e
      refine ⟨_, rfl, rfl, _, rfl, if_true_of (by decide) ?_⟩
      refine ⟨_, rfl, _, rfl, wa, _, _, _, rfl, rfl, SqL.of hwa, at_of (j := 0) (v := V.int x0) rfl rfl, H0, d, s, x0, rfl, hD, W, ?_⟩
      exact fun H' p h1 h2 h3 => q H' p h1 h2 h3
    · obtain ⟨x0, x1, x2, x3, rfl⟩ := len4 n
      subst e
      refine ⟨_, rfl, rfl, _, rfl, if_false_of (by decide) ?_⟩
      refine ⟨_, rfl, rfl, _, rfl, if_true_of (by decide) ?_⟩
      refine ⟨_, rfl, _, rfl, H0, d, wa, s, x0, x1, x2, x3, rfl, hD, W, hwa, ?_⟩
      exact fun H' p h1 h2 h3 => q H' p h1 h2 h3
    · obtain ⟨x0, x1, rfl⟩ := len2 n
      subst e
      refine ⟨_, rfl, rfl, _, rfl, if_false_of (by decide) ?_⟩
      refine ⟨_, rfl, rfl, _, rfl, if_false_of (by decide) ?_⟩
      refine ⟨_, rfl, rfl, _, rfl, if_true_of (by decide) ?_⟩
      refine ⟨_, rfl, _, rfl, wa, _, _, _, rfl, rfl, SqL.of hwa, at_of (j := 0) (v := V.int x0) rfl rfl, _, rfl, wa, _, _, _, rfl, rfl, SqL.of hwa, at_of (j := 1) (v := V.int x1) rfl rfl, H0, d, s, x0, x1, rfl, hD, W, ?_⟩
      exact fun H' p h1 h2 h3 => q H' p h1 h2 h3
    · obtain ⟨x0, x1, rfl⟩ := len2 n
      subst e
      refine ⟨_, rfl, rfl, _, rfl, if_false_of (by decide) ?_⟩
      refine ⟨_, rfl, rfl, _, rfl, if_false_of (by decide) ?_⟩
      refine ⟨_, rfl, rfl, _, rfl, if_false_of (by decide) ?_⟩
      refine ⟨_, rfl, rfl, _, rfl, if_true_of (by decide) ?_⟩
      refine ⟨_, rfl, _, rfl, wa, _, _, _, rfl, rfl, SqL.of hwa, at_of (j := 0) (v := V.int x0) rfl rfl, _, rfl, wa, _, _, _, rfl, rfl, SqL.of hwa, at_of (j := 1) (v := V.int x1) rfl rfl, H0, d, s, x0, x1, rfl, hD, W, ?_⟩
      exact fun H' p h1 h2 h3 => q H' p h1 h2 h3
    · obtain ⟨x0, x1, x2, rfl⟩ := len3 n
      subst e
      refine ⟨_, rfl, rfl, _, rfl, if_false_of (by decide) ?_⟩
      refine ⟨_, rfl, rfl, _, rfl, if_false_of (by decide) ?_⟩
      refine ⟨_, rfl, rfl, _, rfl, if_false_of (by decide) ?_⟩
      refine ⟨_, rfl, rfl, _, rfl, if_false_of (by decide) ?_⟩
      refine ⟨_, rfl, rfl, _, rfl, if_true_of (by decide) ?_⟩
      refine ⟨_, rfl, _, rfl, H0, d, wa, s, x0, x1, x2, rfl, hD, W, hwa, ?_⟩
      exact fun H' p h1 h2 h3 => q H' p h1 h2 h3
    · have e0 := len0 n
      subst e e0
      refine ⟨_, rfl, rfl, _, rfl, if_false_of (by decide) ?_⟩
      refine ⟨_, rfl, rfl, _, rfl, if_false_of (by decide) ?_⟩
      refine ⟨_, rfl, rfl, _, rfl, if_false_of (by decide) ?_⟩
      refine ⟨_, rfl, rfl, _, rfl, if_false_of (by decide) ?_⟩
      refine ⟨_, rfl, rfl, _, rfl, if_false_of (by decide) ?_⟩
      refine ⟨_, rfl, rfl, _, rfl, if_true_of (by decide) ?_⟩
      refine ⟨_, rfl, H0, d, s, rfl, hD, W, ?_⟩
      exact fun H' p h1 h2 h3 => q H' p h1 h2 h3
    · obtain ⟨x0, rfl⟩ := len1 n
      subst e
      refine ⟨_, rfl, rfl, _, rfl, if_false_of (by decide) ?_⟩
      refine ⟨_, rfl, rfl, _, rfl, if_false_of (by decide) ?_⟩
      refine ⟨_, rfl, rfl, _, rfl, if_false_of (by decide) ?_⟩
      refine ⟨_, rfl, rfl, _, rfl, if_false_of (by decide) ?_⟩
      refine ⟨_, rfl, rfl, _, rfl, if_false_of (by decide) ?_⟩
      refine ⟨_, rfl, rfl, _, rfl, if_false_of (by decide) ?_⟩
      refine ⟨_, rfl, rfl, _, rfl, if_true_of (by decide) ?_⟩
      refine ⟨_, rfl, _, rfl, wa, _, _, _, rfl, rfl, SqL.of hwa, at_of (j := 0) (v := V.int x0) rfl rfl, H0, d, s, x0, rfl, hD, W, ?_⟩
      exact fun H' p h1 h2 h3 => q H' p h1 h2 h3
    · have e0 := len0 n
      subst e e0
      refine ⟨_, rfl, rfl, _, rfl, if_false_of (by decide) ?_⟩
      refine ⟨_, rfl, rfl, _, rfl, if_false_of (by decide) ?_⟩
      refine ⟨_, rfl, rfl, _, rfl, if_false_of (by decide) ?_⟩
      refine ⟨_, rfl, rfl, _, rfl, if_false_of (by decide) ?_⟩
      refine ⟨_, rfl, rfl, _, rfl, if_false_of (by decide) ?_⟩
      refine ⟨_, rfl, rfl, _, rfl, if_false_of (by decide) ?_⟩
      refine ⟨_, rfl, rfl, _, rfl, if_false_of (by decide) ?_⟩
      refine ⟨_, rfl, _, rfl, H0, d, s, 8, rfl, hD, W, ?_⟩
      exact fun H' p h1 h2 h3 => q H' p h1 h2 h3
    · have e0 := len0 n
      subst e e0
      refine ⟨_, rfl, rfl, _, rfl, if_false_of (by decide) ?_⟩
      refine ⟨_, rfl, rfl, _, rfl, if_false_of (by decide) ?_⟩
      refine ⟨_, rfl, rfl, _, rfl, if_false_of (by decide) ?_⟩
      refine ⟨_, rfl, rfl, _, rfl, if_false_of (by decide) ?_⟩
      refine ⟨_, rfl, rfl, _, rfl, if_false_of (by decide) ?_⟩
      refine ⟨_, rfl, rfl, _, rfl, if_false_of (by decide) ?_⟩
      refine ⟨_, rfl, rfl, _, rfl, if_false_of (by decide) ?_⟩
      refine ⟨_, rfl, _, rfl, H0, d, s, 9, rfl, hD, W, ?_⟩
      exact fun H' p h1 h2 h3 => q H' p h1 h2 h3
    · have e0 := len0 n
      subst e e0
      refine ⟨_, rfl, rfl, _, rfl, if_false_of (by decide) ?_⟩
      refine ⟨_, rfl, rfl, _, rfl, if_false_of (by decide) ?_⟩
      refine ⟨_, rfl, rfl, _, rfl, if_false_of (by decide) ?_⟩
      refine ⟨_, rfl, rfl, _, rfl, if_false_of (by decide) ?_⟩
      refine ⟨_, rfl, rfl, _, rfl, if_false_of (by decide) ?_⟩
      refine ⟨_, rfl, rfl, _, rfl, if_false_of (by decide) ?_⟩
      refine ⟨_, rfl, rfl, _, rfl, if_false_of (by decide) ?_⟩
      refine ⟨_, rfl, _, rfl, H0, d, s, 10, rfl, hD, W, ?_⟩
      exact fun H' p h1 h2 h3 => q H' p h1 h2 h3
end
end Av

namespace Av
open PySem PySem.Spec PyProof.Rows L2
open AvM (Wf WfI)
theorem cut_at {ns : List Int} {i n : Nat} {p : Int} {r : List Int} (h : ns.drop i = p :: r) (hn : n ≤ r.length) : cutV (ns.map V.int) (some ((i : Int) + 1)) (some ((i : Int) + 1 + (n : Int))) = (r.take n).map V.int := by
  have hl : ns.length = i + (r.length + 1) := by
    have := congrArg List.length h
    rw [List.length_drop, List.length_cons] at this
    omega
  have hr : ns.drop (i + 1) = r := by
    rw [← List.drop_drop, h]
    rfl
  unfold cutV
  rw [List.length_map, show ((i : Int) + 1) = ((i + 1 : Nat) : Int) by omega, show (((i + 1 : Nat) : Int) + (n : Int)) = ((i + 1 + n : Nat) : Int) by omega, HT.sIx_nat, HT.sIx_nat, Nat.min_eq_left (by omega), Nat.min_eq_left (by omega), ← List.map_drop, hr, ← List.map_take, show i + 1 + n - (i + 1) = n by omega]
/-- answers': a list of ints is handed in, the specification's list comes out -/
def spAns (K : PySem.W.Frag) : Sp := fun vs H Q _ => ∃ (a : Addr) (ns : List Int), vs = [.ref a] ∧ SqL K H a (ns.map V.int) ∧ PyKg88.answers_asked ns = true ∧ ∀ (H' : Hp) (p : Addr), H' p = some (.lst ((PyKg88.answers ns).map V.int)) → Q (.ref p) H'
section
variable {P : Program} {w : World} {K : PySem.W.Frag} {mg : Str → Option Value} {base : Heap} {C : Cs}
/-- between two turns of the loop -/
structure Mid (C : Cs) (Hi H : Hp) (ns : List Int) (d fo : Addr) (H0 : Hp) (i : Nat) (s : Kg88.State) (f : Nat) (cs : List (List (List Int))) (out : List Int) : Prop where
  same : Same Hi H0
  nfo : Hi fo = none
  le : i ≤ ns.length
  calls : PyFlat.calls PyKg88.shape f (ns.drop i) = some cs
  wf : Wf s
  desk : DeskAt C H0 H d s
  hfo : H0 fo = some (.lst (out.map V.int))
  eq : out ++ AvM.toldFrom s cs = PyKg88.answers ns
abbrev nAnswers : List Str := ["calls", "desk", "found", "at", "kind", "end", "numbers"]
theorem scAnswers : FnScope nAnswers ["calls"] (defScope sAnswers) := ⟨rfl, rfl, rfl, by decide +kernel, rfl, by decide +kernel, by decide +kernel⟩
theorem ok_answers {aW f : Addr} {fd : FuncData} (F : Fun K "answers" "answers" sAnswers f fd) (T : Txt K mg C) (gW : mg "WHOLES" = some (.ref aW)) (hW : ∀ (p : Int) (n : Nat), PyKg88.shape p = some (n, 0) → KIntD K aW p (n : Int)) (hD : HasI P w K mg base 1 C.d ["self"] (spInitD C))
    (hA : Has P w K mg base 10 "answered" ["desk", "kind", "wholes"] (spAnswered C)) : FnOk P w K mg base CX0 11 f fd ["calls"] (spAns K) := by
  obtain ⟨fa, fda, GA, bA, mA, kA⟩ := hA
  obtain ⟨fi, fdi, GI, bI, MI⟩ := hD
  refine F.ok scAnswers (fun vs H Q E h => ?_) (fun cdv A outer s H vs Q E hr h => ?_)
  · obtain ⟨a, ns, rfl, _⟩ := h
    rfl
  · obtain ⟨a, ns, rfl, hS, hask, q⟩ := h
    have hr2 : Room 2 _ := hr.mono (by decide)
    refine ⟨_, pss_cons (ps_set (i := 1) scAnswers.nd rfl (Or.inl rfl) (pe_make0 MI GI hr2 rfl T.gD bI .nil pass0))
      (pss_cons (ps_set (i := 2) scAnswers.nd rfl (Or.inl rfl) (pe_lst pa_nil))
      (pss_cons (ps_set (i := 3) scAnswers.nd rfl (Or.inl rfl) pe_int)
      (pss_cons (ps_while PassesOwn.never (pt_cmpR op_lt (pv 3) (pe_callB call_len_seq (by rfl) T.len PySem.boot_len (pa_cons (pv 0) pa_nil)) (nomark _))
        (pss_cons (ps_set (i := 4) scAnswers.nd rfl (Or.inl rfl) (pe_ix ix_list (pv 0) (pv 3) (fun _ _ => rfl)))
        (pss_cons (ps_set (i := 5) scAnswers.nd rfl (Or.inl rfl) (pe_op op_add (pe_op op_add (pv 3) pe_int) (pe_ix ix_kint (pe_glob (v := .ref aW) rfl gW rfl) (pv 4) (fun _ _ => rfl))))
        (pss_cons (ps_set (i := 6) scAnswers.nd rfl (Or.inl rfl) (pe_call GA hr rfl mA kA bA .nil pass0 (pa_cons (pv 1) (pa_cons (pv 4) (pa_cons (pe_slice sl_list (pv 0) (po_some (pe_op op_add (pv 3) pe_int)) (po_some (pv 5))) pa_nil)))))
        (pss_cons (ps_expr (pe_bm PySem.F.plainAttrs_list PySem.F.slot_list_append PySem.F.type_list_append mt_append (pv 2) (pa_cons (pe_callB call_len_seq (by rfl) T.len PySem.boot_len (pa_cons (pv 6) pa_nil)) pa_nil)))
        (pss_cons (ps_expr (pe_bm PySem.F.plainAttrs_list PySem.F.slot_list_extend PySem.F.type_list_extend mt_extend (pv 2) (pa_cons (pv 6) pa_nil)))
        (pss_one (ps_set (i := 3) scAnswers.nd rfl (Or.inl rfl) (pv 5)))))))))
      (pss_one (ps_ret (pv 2)))))), ?_⟩
    obtain ⟨cs0, hcs0, hshort⟩ := AvM.asked_of hask
    -- desk = Desk(); found = []; at = 0
    intro d dx nd ndx ne
    refine ⟨d, dx, rfl, upd_same, rfl, ?_⟩
    rw [upd_upd]
    have s1 : Same H (upd (upd H dx (.own d)) d (.ins C.d dx (dF .non))) := fun b o e => by
      rw [upd_ne (ne_of_none e nd), upd_ne (ne_of_none e ndx)]
      exact e
    refine ⟨Nat.zero_le _, fun fo hfo => ?_⟩
    have nfd : d ≠ fo := ne_of_none upd_same hfo
    have fH : H fo = none := s1.free hfo
    have M0 : Mid C H (upd (upd (upd H dx (.own d)) d (.ins C.d dx (dF .non))) fo (.lst [])) ns d fo (upd H fo (.lst [])) 0 Kg88.init ns.length cs0 [] := by
      refine ⟨same_upd fH, fH, Nat.zero_le _, hcs0, AvM.wf_init, ⟨fun b o e => ?_, ?_, dx, .inl ⟨rfl, ?_⟩⟩, upd_same, ?_⟩
      · by_cases hb : b = fo
        · subst hb
          rw [upd_same] at e
          rw [upd_same]
          exact e
        · rw [upd_ne hb] at e
          rw [upd_ne hb]
          exact s1 _ _ e
      · rw [upd_ne nfd]
        exact nd
      · rw [upd_ne nfd, upd_same]
      · rw [List.nil_append]
        exact (AvM.answers_eq hcs0).symm
    -- the loop
    refine ⟨fun m σ H' => ∃ (H0 : Hp) (i : Nat) (s : Kg88.State) (f : Nat) (cs : List (List (List Int))) (out : List Int) (v4 v5 v6 : Option V), m = ns.length - i ∧ σ = [some (.ref a), some (.ref d), some (.ref fo), some (.int (i : Int)), v4, v5, v6] ∧ Mid C H H' ns d fo H0 i s f cs out,
      ⟨_, _, 0, Kg88.init, _, cs0, [], none, none, none, rfl, rfl, M0⟩, ?_⟩
    clear M0 nfd hfo s1
    rintro m σ H' ⟨H0, i, s, fu, cs, out, v4, v5, v6, rfl, rfl, M⟩
    have hS' : ∀ H2, Same H' H2 → SqL K H2 a (ns.map V.int) := fun H2 z => z.seq (M.desk.1.seq (M.same.seq hS))
    refine ⟨_, rfl, _, rfl, a, _, rfl, .inl (hS' _ (Same.refl _)), _, _, rfl, rfl, _, rfl, ?_⟩
    refine ite2 (fun c => ?_) (fun c => ?_)
    · have c1 := of_decide_eq_true c
      rw [List.length_map] at c1
      have hi : i < ns.length := by omega
      refine ⟨fun σ' H' => ∃ m', m' < ns.length - i ∧ ∃ (H0 : Hp) (i : Nat) (s : Kg88.State) (f : Nat) (cs : List (List (List Int))) (out : List Int) (v4 v5 v6 : Option V), m' = ns.length - i ∧ σ' = [some (.ref a), some (.ref d), some (.ref fo), some (.int (i : Int)), v4, v5, v6] ∧ Mid C H H' ns d fo H0 i s f cs out, fun _ _ h => h, ?_⟩
      obtain ⟨p, r, hdr⟩ : ∃ p r, ns.drop i = p :: r := ⟨ns[i], ns.drop (i + 1), List.drop_eq_getElem_cons hi⟩
      have hp : ns[i]? = some p := by
        have e : (ns.drop i)[0]? = some p := by rw [hdr]; rfl
        rw [List.getElem?_drop] at e
        exact e
      have hcl := M.calls
      rw [hdr] at hcl
      obtain ⟨n, f', cs', hsh, hnr, hcs, hcl'⟩ := AvM.calls_cons hcl
      subst hcs
      have hrl : ns.length = i + (r.length + 1) := by
        have := congrArg List.length hdr
        rw [List.length_drop, List.length_cons] at this
        omega
      -- kind, end
      refine ⟨_, rfl, _, rfl, a, _, _, _, rfl, rfl, hS' _ (Same.refl _), at_of (j := i) (v := V.int p) rfl (by rw [List.getElem?_map, hp]; rfl), ?_⟩
      refine ⟨_, rfl, _, _, rfl, rfl, _, rfl, aW, p, _, rfl, rfl, hW p n hsh, _, _, rfl, rfl, ?_⟩
      -- answered
      refine ⟨_, rfl, _, rfl, _, rfl, _, rfl, _, _, rfl, rfl, _, rfl, _, rfl, _, rfl, a, _, rfl, hS' _ (Same.refl _), fun wa hwa => ?_⟩
      have zw : Same H' (upd H' wa (.lst (cutV (ns.map V.int) (some ((i : Int) + 1)) (some ((i : Int) + 1 + (n : Int)))))) := same_upd hwa
      refine ⟨H0, d, wa, s, p, r.take n, rfl, M.desk.same zw, M.wf, Eq.trans upd_same (by rw [cut_at hdr hnr]), by rw [List.length_take, Nat.min_eq_left hnr]; exact hsh, fun H4 nb D4 hnb h4 => ?_⟩
      have hfo4 : H4 fo = some (.lst (out.map V.int)) := D4.1 _ _ M.hfo
      have nbf : nb ≠ fo := (ne_of_none M.hfo hnb).symm
      have heq := M.eq
      rw [AvM.told_cons] at heq
      have hlen : out.length + (1 + ((Kg88Neutral.step s [p :: r.take n]).2.length + (AvM.toldFrom (Kg88Neutral.step s [p :: r.take n]).1 cs').length)) = (PyKg88.answers ns).length := by
        rw [← heq, List.length_append, List.length_cons, List.length_append]
        omega
      have hbig : 10000000 < sizeLine := by decide
      -- found.append(len(numbers))
      refine ⟨_, rfl, .inl ⟨rfl, _, SqL.of hfo4⟩, _, rfl, nb, _, rfl, .inl (SqL.of h4), fo, _, _, rfl, rfl, hfo4, by rw [List.length_map]; omega, ?_⟩
      -- found.extend(numbers)
      refine ⟨_, rfl, .inl ⟨rfl, _, SqL.of upd_same⟩, _, rfl, fo, nb, _, _, rfl, rfl, upd_same, Eq.trans (upd_ne nbf) h4, by rw [List.length_append, List.length_map, List.length_map]; show out.length + 1 + _ ≤ sizeLine; omega, ?_⟩
      rw [upd_upd]
      -- at = end
      refine ⟨_, rfl, ?_⟩
      refine ⟨ns.length - (i + 1 + n), by omega, upd H0 fo (.lst (out.map V.int ++ [V.int (((Kg88Neutral.step s [p :: r.take n]).2.map V.int).length : Nat)] ++ (Kg88Neutral.step s [p :: r.take n]).2.map V.int)), i + 1 + n, (Kg88Neutral.step s [p :: r.take n]).1, f', cs', out ++ (((Kg88Neutral.step s [p :: r.take n]).2.length : Int) :: (Kg88Neutral.step s [p :: r.take n]).2), some (V.int p), some (V.int ((i : Int) + 1 + (n : Int))), some (V.ref nb), rfl, ?_, ?_⟩
      · show [some (V.ref a), some (V.ref d), some (V.ref fo), some (V.int ((i : Int) + 1 + (n : Int))), some (V.int p), some (V.int ((i : Int) + 1 + (n : Int))), some (V.ref nb)] = _
        rw [show ((i + 1 + n : Nat) : Int) = (i : Int) + 1 + (n : Int) by omega]
      · refine ⟨fun b o e => ?_, M.nfo, by omega, ?_, AvM.wf_step M.wf _, D4.updL M.hfo, ?_, ?_⟩
        · rw [upd_ne (ne_of_none e M.nfo)]
          exact M.same _ _ e
        · have e : ns.drop (i + 1 + n) = r.drop n := by
            rw [← List.drop_drop, show ns.drop (i + 1) = r by rw [← List.drop_drop, hdr]; rfl]
          rw [e]
          exact hcl'
        · rw [upd_same, List.map_append, List.map_cons, List.append_assoc, List.length_map]
          rfl
        · rw [List.append_assoc]
          exact heq
    · have hi : i = ns.length := by
        have := M.le
        by_cases e : i = ns.length
        · exact e
        · exact absurd (decide_eq_true (by rw [List.length_map]; omega)) c
      have hcl := M.calls
      rw [hi, List.drop_length] at hcl
      have hcs := AvM.calls_nil hcl
      have heq := M.eq
      rw [hcs] at heq
      have heq' : out = PyKg88.answers ns := by
        rw [← heq]
        exact (List.append_nil out).symm
      refine ⟨_, rfl, ?_⟩
      refine q _ fo ?_
      rw [← heq']
      exact M.desk.1 _ _ M.hfo
end
end Av

namespace Av
open PySem PySem.Spec PyProof.Rows L2
open AvM (Wf WfI)
/-! ### what the top has written -/
section
variable {K : PySem.W.Frag} {h : Heap} {mg : Str → Option Value}
theorem def_within {f : Addr} {od an : Option Addr} {sl : Array (Option Value)} {oc kV dc pm cd ct : Value} (X : K.In h) (G : h.Ns mainGlobals mg) (a : PySem.W.nsIn K mainGlobals "within" = some (some (.ref f))) (l : K.lookup f = some ⟨oc, od, .func (PySem.W.fnOf "within" "within" (defArgs sWithin) (defBody sWithin) (defScope sWithin) .none kV dc pm an cd ct), sl⟩) (c : PySem.W.codeIn K cd "within" = true) (k : PySem.W.keepIn K (.ref f) = true) : DefAt K mg "within" sWithin ["number", "least", "most"] :=
  ⟨_, _, fun_mk (st := sWithin) l c k, (fun_mk (st := sWithin) l c k).binds (ps := ["number", "least", "most"]) fun _ _ _ _ _ _ us hl => match us, hl with | [_, _, _], _ => rfl, PySem.W.mg_of X G a⟩
theorem def_counted {f : Addr} {od an : Option Addr} {sl : Array (Option Value)} {oc kV dc pm cd ct : Value} (X : K.In h) (G : h.Ns mainGlobals mg) (a : PySem.W.nsIn K mainGlobals "counted" = some (some (.ref f))) (l : K.lookup f = some ⟨oc, od, .func (PySem.W.fnOf "counted" "counted" (defArgs sCounted) (defBody sCounted) (defScope sCounted) .none kV dc pm an cd ct), sl⟩) (c : PySem.W.codeIn K cd "counted" = true) (k : PySem.W.keepIn K (.ref f) = true) : DefAt K mg "counted" sCounted ["interest"] :=
  ⟨_, _, fun_mk (st := sCounted) l c k, (fun_mk (st := sCounted) l c k).binds (ps := ["interest"]) fun _ _ _ _ _ _ us hl => match us, hl with | [_], _ => rfl, PySem.W.mg_of X G a⟩
theorem def_left_of {f : Addr} {od an : Option Addr} {sl : Array (Option Value)} {oc kV dc pm cd ct : Value} (X : K.In h) (G : h.Ns mainGlobals mg) (a : PySem.W.nsIn K mainGlobals "left_of" = some (some (.ref f))) (l : K.lookup f = some ⟨oc, od, .func (PySem.W.fnOf "left_of" "left_of" (defArgs sLeftOf) (defBody sLeftOf) (defScope sLeftOf) .none kV dc pm an cd ct), sl⟩) (c : PySem.W.codeIn K cd "left_of" = true) (k : PySem.W.keepIn K (.ref f) = true) : DefAt K mg "left_of" sLeftOf ["interest"] :=
  ⟨_, _, fun_mk (st := sLeftOf) l c k, (fun_mk (st := sLeftOf) l c k).binds (ps := ["interest"]) fun _ _ _ _ _ _ us hl => match us, hl with | [_], _ => rfl, PySem.W.mg_of X G a⟩
theorem def_made_good {f : Addr} {od an : Option Addr} {sl : Array (Option Value)} {oc kV dc pm cd ct : Value} (X : K.In h) (G : h.Ns mainGlobals mg) (a : PySem.W.nsIn K mainGlobals "made_good" = some (some (.ref f))) (l : K.lookup f = some ⟨oc, od, .func (PySem.W.fnOf "made_good" "made_good" (defArgs sMadeGood) (defBody sMadeGood) (defScope sMadeGood) .none kV dc pm an cd ct), sl⟩) (c : PySem.W.codeIn K cd "made_good" = true) (k : PySem.W.keepIn K (.ref f) = true) : DefAt K mg "made_good" sMadeGood ["interest"] :=
  ⟨_, _, fun_mk (st := sMadeGood) l c k, (fun_mk (st := sMadeGood) l c k).binds (ps := ["interest"]) fun _ _ _ _ _ _ us hl => match us, hl with | [_], _ => rfl, PySem.W.mg_of X G a⟩
theorem def_contributes_by {f : Addr} {od an : Option Addr} {sl : Array (Option Value)} {oc kV dc pm cd ct : Value} (X : K.In h) (G : h.Ns mainGlobals mg) (a : PySem.W.nsIn K mainGlobals "contributes_by" = some (some (.ref f))) (l : K.lookup f = some ⟨oc, od, .func (PySem.W.fnOf "contributes_by" "contributes_by" (defArgs sContributesBy) (defBody sContributesBy) (defScope sContributesBy) .none kV dc pm an cd ct), sl⟩) (c : PySem.W.codeIn K cd "contributes_by" = true) (k : PySem.W.keepIn K (.ref f) = true) : DefAt K mg "contributes_by" sContributesBy ["interest"] :=
  ⟨_, _, fun_mk (st := sContributesBy) l c k, (fun_mk (st := sContributesBy) l c k).binds (ps := ["interest"]) fun _ _ _ _ _ _ us hl => match us, hl with | [_], _ => rfl, PySem.W.mg_of X G a⟩
theorem def_allowed_for {f : Addr} {od an : Option Addr} {sl : Array (Option Value)} {oc kV dc pm cd ct : Value} (X : K.In h) (G : h.Ns mainGlobals mg) (a : PySem.W.nsIn K mainGlobals "allowed_for" = some (some (.ref f))) (l : K.lookup f = some ⟨oc, od, .func (PySem.W.fnOf "allowed_for" "allowed_for" (defArgs sAllowedFor) (defBody sAllowedFor) (defScope sAllowedFor) .none kV dc pm an cd ct), sl⟩) (c : PySem.W.codeIn K cd "allowed_for" = true) (k : PySem.W.keepIn K (.ref f) = true) : DefAt K mg "allowed_for" sAllowedFor ["average", "amount", "otherwise"] :=
  ⟨_, _, fun_mk (st := sAllowedFor) l c k, (fun_mk (st := sAllowedFor) l c k).binds (ps := ["average", "amount", "otherwise"]) fun _ _ _ _ _ _ us hl => match us, hl with | [_, _, _], _ => rfl, PySem.W.mg_of X G a⟩
theorem def_all_good {f : Addr} {od an : Option Addr} {sl : Array (Option Value)} {oc kV dc pm cd ct : Value} (X : K.In h) (G : h.Ns mainGlobals mg) (a : PySem.W.nsIn K mainGlobals "all_good" = some (some (.ref f))) (l : K.lookup f = some ⟨oc, od, .func (PySem.W.fnOf "all_good" "all_good" (defArgs sAllGood) (defBody sAllGood) (defScope sAllGood) .none kV dc pm an cd ct), sl⟩) (c : PySem.W.codeIn K cd "all_good" = true) (k : PySem.W.keepIn K (.ref f) = true) : DefAt K mg "all_good" sAllGood ["average"] :=
  ⟨_, _, fun_mk (st := sAllGood) l c k, (fun_mk (st := sAllGood) l c k).binds (ps := ["average"]) fun _ _ _ _ _ _ us hl => match us, hl with | [_], _ => rfl, PySem.W.mg_of X G a⟩
theorem def_all_allowed {f : Addr} {od an : Option Addr} {sl : Array (Option Value)} {oc kV dc pm cd ct : Value} (X : K.In h) (G : h.Ns mainGlobals mg) (a : PySem.W.nsIn K mainGlobals "all_allowed" = some (some (.ref f))) (l : K.lookup f = some ⟨oc, od, .func (PySem.W.fnOf "all_allowed" "all_allowed" (defArgs sAllAllowed) (defBody sAllAllowed) (defScope sAllAllowed) .none kV dc pm an cd ct), sl⟩) (c : PySem.W.codeIn K cd "all_allowed" = true) (k : PySem.W.keepIn K (.ref f) = true) : DefAt K mg "all_allowed" sAllAllowed ["average"] :=
  ⟨_, _, fun_mk (st := sAllAllowed) l c k, (fun_mk (st := sAllAllowed) l c k).binds (ps := ["average"]) fun _ _ _ _ _ _ us hl => match us, hl with | [_], _ => rfl, PySem.W.mg_of X G a⟩
theorem def_shared {f : Addr} {od an : Option Addr} {sl : Array (Option Value)} {oc kV dc pm cd ct : Value} (X : K.In h) (G : h.Ns mainGlobals mg) (a : PySem.W.nsIn K mainGlobals "shared" = some (some (.ref f))) (l : K.lookup f = some ⟨oc, od, .func (PySem.W.fnOf "shared" "shared" (defArgs sShared) (defBody sShared) (defScope sShared) .none kV dc pm an cd ct), sl⟩) (c : PySem.W.codeIn K cd "shared" = true) (k : PySem.W.keepIn K (.ref f) = true) : DefAt K mg "shared" sShared ["average"] :=
  ⟨_, _, fun_mk (st := sShared) l c k, (fun_mk (st := sShared) l c k).binds (ps := ["average"]) fun _ _ _ _ _ _ us hl => match us, hl with | [_], _ => rfl, PySem.W.mg_of X G a⟩
theorem def_all_by {f : Addr} {od an : Option Addr} {sl : Array (Option Value)} {oc kV dc pm cd ct : Value} (X : K.In h) (G : h.Ns mainGlobals mg) (a : PySem.W.nsIn K mainGlobals "all_by" = some (some (.ref f))) (l : K.lookup f = some ⟨oc, od, .func (PySem.W.fnOf "all_by" "all_by" (defArgs sAllBy) (defBody sAllBy) (defScope sAllBy) .none kV dc pm an cd ct), sl⟩) (c : PySem.W.codeIn K cd "all_by" = true) (k : PySem.W.keepIn K (.ref f) = true) : DefAt K mg "all_by" sAllBy ["average"] :=
  ⟨_, _, fun_mk (st := sAllBy) l c k, (fun_mk (st := sAllBy) l c k).binds (ps := ["average"]) fun _ _ _ _ _ _ us hl => match us, hl with | [_], _ => rfl, PySem.W.mg_of X G a⟩
theorem def_can_be_adjusted {f : Addr} {od an : Option Addr} {sl : Array (Option Value)} {oc kV dc pm cd ct : Value} (X : K.In h) (G : h.Ns mainGlobals mg) (a : PySem.W.nsIn K mainGlobals "can_be_adjusted" = some (some (.ref f))) (l : K.lookup f = some ⟨oc, od, .func (PySem.W.fnOf "can_be_adjusted" "can_be_adjusted" (defArgs sCan) (defBody sCan) (defScope sCan) .none kV dc pm an cd ct), sl⟩) (c : PySem.W.codeIn K cd "can_be_adjusted" = true) (k : PySem.W.keepIn K (.ref f) = true) : DefAt K mg "can_be_adjusted" sCan ["average"] :=
  ⟨_, _, fun_mk (st := sCan) l c k, (fun_mk (st := sCan) l c k).binds (ps := ["average"]) fun _ _ _ _ _ _ us hl => match us, hl with | [_], _ => rfl, PySem.W.mg_of X G a⟩
theorem def_contributions {f : Addr} {od an : Option Addr} {sl : Array (Option Value)} {oc kV dc pm cd ct : Value} (X : K.In h) (G : h.Ns mainGlobals mg) (a : PySem.W.nsIn K mainGlobals "contributions" = some (some (.ref f))) (l : K.lookup f = some ⟨oc, od, .func (PySem.W.fnOf "contributions" "contributions" (defArgs sContributions) (defBody sContributions) (defScope sContributions) .none kV dc pm an cd ct), sl⟩) (c : PySem.W.codeIn K cd "contributions" = true) (k : PySem.W.keepIn K (.ref f) = true) : DefAt K mg "contributions" sContributions ["average"] :=
  ⟨_, _, fun_mk (st := sContributions) l c k, (fun_mk (st := sContributions) l c k).binds (ps := ["average"]) fun _ _ _ _ _ _ us hl => match us, hl with | [_], _ => rfl, PySem.W.mg_of X G a⟩
theorem def_owed {f : Addr} {od an : Option Addr} {sl : Array (Option Value)} {oc kV dc pm cd ct : Value} (X : K.In h) (G : h.Ns mainGlobals mg) (a : PySem.W.nsIn K mainGlobals "owed" = some (some (.ref f))) (l : K.lookup f = some ⟨oc, od, .func (PySem.W.fnOf "owed" "owed" (defArgs sOwed) (defBody sOwed) (defScope sOwed) .none kV dc pm an cd ct), sl⟩) (c : PySem.W.codeIn K cd "owed" = true) (k : PySem.W.keepIn K (.ref f) = true) : DefAt K mg "owed" sOwed ["average", "number"] :=
  ⟨_, _, fun_mk (st := sOwed) l c k, (fun_mk (st := sOwed) l c k).binds (ps := ["average", "number"]) fun _ _ _ _ _ _ us hl => match us, hl with | [_, _], _ => rfl, PySem.W.mg_of X G a⟩
theorem def_balances {f : Addr} {od an : Option Addr} {sl : Array (Option Value)} {oc kV dc pm cd ct : Value} (X : K.In h) (G : h.Ns mainGlobals mg) (a : PySem.W.nsIn K mainGlobals "balances" = some (some (.ref f))) (l : K.lookup f = some ⟨oc, od, .func (PySem.W.fnOf "balances" "balances" (defArgs sBalances) (defBody sBalances) (defScope sBalances) .none kV dc pm an cd ct), sl⟩) (c : PySem.W.codeIn K cd "balances" = true) (k : PySem.W.keepIn K (.ref f) = true) : DefAt K mg "balances" sBalances ["average"] :=
  ⟨_, _, fun_mk (st := sBalances) l c k, (fun_mk (st := sBalances) l c k).binds (ps := ["average"]) fun _ _ _ _ _ _ us hl => match us, hl with | [_], _ => rfl, PySem.W.mg_of X G a⟩
theorem def_payments {f : Addr} {od an : Option Addr} {sl : Array (Option Value)} {oc kV dc pm cd ct : Value} (X : K.In h) (G : h.Ns mainGlobals mg) (a : PySem.W.nsIn K mainGlobals "payments" = some (some (.ref f))) (l : K.lookup f = some ⟨oc, od, .func (PySem.W.fnOf "payments" "payments" (defArgs sPayments) (defBody sPayments) (defScope sPayments) .none kV dc pm an cd ct), sl⟩) (c : PySem.W.codeIn K cd "payments" = true) (k : PySem.W.keepIn K (.ref f) = true) : DefAt K mg "payments" sPayments ["average"] :=
  ⟨_, _, fun_mk (st := sPayments) l c k, (fun_mk (st := sPayments) l c k).binds (ps := ["average"]) fun _ _ _ _ _ _ us hl => match us, hl with | [_], _ => rfl, PySem.W.mg_of X G a⟩
theorem def_begin {f : Addr} {od an : Option Addr} {sl : Array (Option Value)} {oc kV dc pm cd ct : Value} (X : K.In h) (G : h.Ns mainGlobals mg) (a : PySem.W.nsIn K mainGlobals "begin" = some (some (.ref f))) (l : K.lookup f = some ⟨oc, od, .func (PySem.W.fnOf "begin" "begin" (defArgs sBegin) (defBody sBegin) (defScope sBegin) .none kV dc pm an cd ct), sl⟩) (c : PySem.W.codeIn K cd "begin" = true) (k : PySem.W.keepIn K (.ref f) = true) : DefAt K mg "begin" sBegin ["desk", "hundredths"] :=
  ⟨_, _, fun_mk (st := sBegin) l c k, (fun_mk (st := sBegin) l c k).binds (ps := ["desk", "hundredths"]) fun _ _ _ _ _ _ us hl => match us, hl with | [_, _], _ => rfl, PySem.W.mg_of X G a⟩
theorem def_put_interest {f : Addr} {od an : Option Addr} {sl : Array (Option Value)} {oc kV dc pm cd ct : Value} (X : K.In h) (G : h.Ns mainGlobals mg) (a : PySem.W.nsIn K mainGlobals "put_interest" = some (some (.ref f))) (l : K.lookup f = some ⟨oc, od, .func (PySem.W.fnOf "put_interest" "put_interest" (defArgs sPutInterest) (defBody sPutInterest) (defScope sPutInterest) .none kV dc pm an cd ct), sl⟩) (c : PySem.W.codeIn K cd "put_interest" = true) (k : PySem.W.keepIn K (.ref f) = true) : DefAt K mg "put_interest" sPutInterest ["desk", "wholes"] :=
  ⟨_, _, fun_mk (st := sPutInterest) l c k, (fun_mk (st := sPutInterest) l c k).binds (ps := ["desk", "wholes"]) fun _ _ _ _ _ _ us hl => match us, hl with | [_, _], _ => rfl, PySem.W.mg_of X G a⟩
theorem def_is_interest {f : Addr} {od an : Option Addr} {sl : Array (Option Value)} {oc kV dc pm cd ct : Value} (X : K.In h) (G : h.Ns mainGlobals mg) (a : PySem.W.nsIn K mainGlobals "is_interest" = some (some (.ref f))) (l : K.lookup f = some ⟨oc, od, .func (PySem.W.fnOf "is_interest" "is_interest" (defArgs sIsInterest) (defBody sIsInterest) (defScope sIsInterest) .none kV dc pm an cd ct), sl⟩) (c : PySem.W.codeIn K cd "is_interest" = true) (k : PySem.W.keepIn K (.ref f) = true) : DefAt K mg "is_interest" sIsInterest ["desk", "number"] :=
  ⟨_, _, fun_mk (st := sIsInterest) l c k, (fun_mk (st := sIsInterest) l c k).binds (ps := ["desk", "number"]) fun _ _ _ _ _ _ us hl => match us, hl with | [_, _], _ => rfl, PySem.W.mg_of X G a⟩
theorem def_stands {f : Addr} {od an : Option Addr} {sl : Array (Option Value)} {oc kV dc pm cd ct : Value} (X : K.In h) (G : h.Ns mainGlobals mg) (a : PySem.W.nsIn K mainGlobals "stands" = some (some (.ref f))) (l : K.lookup f = some ⟨oc, od, .func (PySem.W.fnOf "stands" "stands" (defArgs sStands) (defBody sStands) (defScope sStands) .none kV dc pm an cd ct), sl⟩) (c : PySem.W.codeIn K cd "stands" = true) (k : PySem.W.keepIn K (.ref f) = true) : DefAt K mg "stands" sStands ["interest"] :=
  ⟨_, _, fun_mk (st := sStands) l c k, (fun_mk (st := sStands) l c k).binds (ps := ["interest"]) fun _ _ _ _ _ _ us hl => match us, hl with | [_], _ => rfl, PySem.W.mg_of X G a⟩
theorem def_lose {f : Addr} {od an : Option Addr} {sl : Array (Option Value)} {oc kV dc pm cd ct : Value} (X : K.In h) (G : h.Ns mainGlobals mg) (a : PySem.W.nsIn K mainGlobals "lose" = some (some (.ref f))) (l : K.lookup f = some ⟨oc, od, .func (PySem.W.fnOf "lose" "lose" (defArgs sLose) (defBody sLose) (defScope sLose) .none kV dc pm an cd ct), sl⟩) (c : PySem.W.codeIn K cd "lose" = true) (k : PySem.W.keepIn K (.ref f) = true) : DefAt K mg "lose" sLose ["desk", "number", "units"] :=
  ⟨_, _, fun_mk (st := sLose) l c k, (fun_mk (st := sLose) l c k).binds (ps := ["desk", "number", "units"]) fun _ _ _ _ _ _ us hl => match us, hl with | [_, _, _], _ => rfl, PySem.W.mg_of X G a⟩
theorem def_give {f : Addr} {od an : Option Addr} {sl : Array (Option Value)} {oc kV dc pm cd ct : Value} (X : K.In h) (G : h.Ns mainGlobals mg) (a : PySem.W.nsIn K mainGlobals "give" = some (some (.ref f))) (l : K.lookup f = some ⟨oc, od, .func (PySem.W.fnOf "give" "give" (defArgs sGive) (defBody sGive) (defScope sGive) .none kV dc pm an cd ct), sl⟩) (c : PySem.W.codeIn K cd "give" = true) (k : PySem.W.keepIn K (.ref f) = true) : DefAt K mg "give" sGive ["desk", "number", "units"] :=
  ⟨_, _, fun_mk (st := sGive) l c k, (fun_mk (st := sGive) l c k).binds (ps := ["desk", "number", "units"]) fun _ _ _ _ _ _ us hl => match us, hl with | [_, _, _], _ => rfl, PySem.W.mg_of X G a⟩
theorem def_put_expense {f : Addr} {od an : Option Addr} {sl : Array (Option Value)} {oc kV dc pm cd ct : Value} (X : K.In h) (G : h.Ns mainGlobals mg) (a : PySem.W.nsIn K mainGlobals "put_expense" = some (some (.ref f))) (l : K.lookup f = some ⟨oc, od, .func (PySem.W.fnOf "put_expense" "put_expense" (defArgs sPutExpense) (defBody sPutExpense) (defScope sPutExpense) .none kV dc pm an cd ct), sl⟩) (c : PySem.W.codeIn K cd "put_expense" = true) (k : PySem.W.keepIn K (.ref f) = true) : DefAt K mg "put_expense" sPutExpense ["desk", "wholes"] :=
  ⟨_, _, fun_mk (st := sPutExpense) l c k, (fun_mk (st := sPutExpense) l c k).binds (ps := ["desk", "wholes"]) fun _ _ _ _ _ _ us hl => match us, hl with | [_, _], _ => rfl, PySem.W.mg_of X G a⟩
theorem def_sums {f : Addr} {od an : Option Addr} {sl : Array (Option Value)} {oc kV dc pm cd ct : Value} (X : K.In h) (G : h.Ns mainGlobals mg) (a : PySem.W.nsIn K mainGlobals "sums" = some (some (.ref f))) (l : K.lookup f = some ⟨oc, od, .func (PySem.W.fnOf "sums" "sums" (defArgs sSums) (defBody sSums) (defScope sSums) .none kV dc pm an cd ct), sl⟩) (c : PySem.W.codeIn K cd "sums" = true) (k : PySem.W.keepIn K (.ref f) = true) : DefAt K mg "sums" sSums ["desk"] :=
  ⟨_, _, fun_mk (st := sSums) l c k, (fun_mk (st := sSums) l c k).binds (ps := ["desk"]) fun _ _ _ _ _ _ us hl => match us, hl with | [_], _ => rfl, PySem.W.mg_of X G a⟩
theorem def_one {f : Addr} {od an : Option Addr} {sl : Array (Option Value)} {oc kV dc pm cd ct : Value} (X : K.In h) (G : h.Ns mainGlobals mg) (a : PySem.W.nsIn K mainGlobals "one" = some (some (.ref f))) (l : K.lookup f = some ⟨oc, od, .func (PySem.W.fnOf "one" "one" (defArgs sOne) (defBody sOne) (defScope sOne) .none kV dc pm an cd ct), sl⟩) (c : PySem.W.codeIn K cd "one" = true) (k : PySem.W.keepIn K (.ref f) = true) : DefAt K mg "one" sOne ["desk", "number"] :=
  ⟨_, _, fun_mk (st := sOne) l c k, (fun_mk (st := sOne) l c k).binds (ps := ["desk", "number"]) fun _ _ _ _ _ _ us hl => match us, hl with | [_, _], _ => rfl, PySem.W.mg_of X G a⟩
theorem def_adjust {f : Addr} {od an : Option Addr} {sl : Array (Option Value)} {oc kV dc pm cd ct : Value} (X : K.In h) (G : h.Ns mainGlobals mg) (a : PySem.W.nsIn K mainGlobals "adjust" = some (some (.ref f))) (l : K.lookup f = some ⟨oc, od, .func (PySem.W.fnOf "adjust" "adjust" (defArgs sAdjust) (defBody sAdjust) (defScope sAdjust) .none kV dc pm an cd ct), sl⟩) (c : PySem.W.codeIn K cd "adjust" = true) (k : PySem.W.keepIn K (.ref f) = true) : DefAt K mg "adjust" sAdjust ["average"] :=
  ⟨_, _, fun_mk (st := sAdjust) l c k, (fun_mk (st := sAdjust) l c k).binds (ps := ["average"]) fun _ _ _ _ _ _ us hl => match us, hl with | [_], _ => rfl, PySem.W.mg_of X G a⟩
theorem def_transfers {f : Addr} {od an : Option Addr} {sl : Array (Option Value)} {oc kV dc pm cd ct : Value} (X : K.In h) (G : h.Ns mainGlobals mg) (a : PySem.W.nsIn K mainGlobals "transfers" = some (some (.ref f))) (l : K.lookup f = some ⟨oc, od, .func (PySem.W.fnOf "transfers" "transfers" (defArgs sTransfers) (defBody sTransfers) (defScope sTransfers) .none kV dc pm an cd ct), sl⟩) (c : PySem.W.codeIn K cd "transfers" = true) (k : PySem.W.keepIn K (.ref f) = true) : DefAt K mg "transfers" sTransfers ["average"] :=
  ⟨_, _, fun_mk (st := sTransfers) l c k, (fun_mk (st := sTransfers) l c k).binds (ps := ["average"]) fun _ _ _ _ _ _ us hl => match us, hl with | [_], _ => rfl, PySem.W.mg_of X G a⟩
theorem def_adjusted {f : Addr} {od an : Option Addr} {sl : Array (Option Value)} {oc kV dc pm cd ct : Value} (X : K.In h) (G : h.Ns mainGlobals mg) (a : PySem.W.nsIn K mainGlobals "adjusted" = some (some (.ref f))) (l : K.lookup f = some ⟨oc, od, .func (PySem.W.fnOf "adjusted" "adjusted" (defArgs sAdjusted) (defBody sAdjusted) (defScope sAdjusted) .none kV dc pm an cd ct), sl⟩) (c : PySem.W.codeIn K cd "adjusted" = true) (k : PySem.W.keepIn K (.ref f) = true) : DefAt K mg "adjusted" sAdjusted ["desk", "kind"] :=
  ⟨_, _, fun_mk (st := sAdjusted) l c k, (fun_mk (st := sAdjusted) l c k).binds (ps := ["desk", "kind"]) fun _ _ _ _ _ _ us hl => match us, hl with | [_, _], _ => rfl, PySem.W.mg_of X G a⟩
theorem def_answered {f : Addr} {od an : Option Addr} {sl : Array (Option Value)} {oc kV dc pm cd ct : Value} (X : K.In h) (G : h.Ns mainGlobals mg) (a : PySem.W.nsIn K mainGlobals "answered" = some (some (.ref f))) (l : K.lookup f = some ⟨oc, od, .func (PySem.W.fnOf "answered" "answered" (defArgs sAnswered) (defBody sAnswered) (defScope sAnswered) .none kV dc pm an cd ct), sl⟩) (c : PySem.W.codeIn K cd "answered" = true) (k : PySem.W.keepIn K (.ref f) = true) : DefAt K mg "answered" sAnswered ["desk", "kind", "wholes"] :=
  ⟨_, _, fun_mk (st := sAnswered) l c k, (fun_mk (st := sAnswered) l c k).binds (ps := ["desk", "kind", "wholes"]) fun _ _ _ _ _ _ us hl => match us, hl with | [_, _, _], _ => rfl, PySem.W.mg_of X G a⟩
theorem init_Interest {f : Addr} {od an : Option Addr} {sl : Array (Option Value)} {oc kV dc pm cd ct : Value} {C : Addr} (a : PySem.W.findIn K (.ref C) "__init__" = some (some (.ref f))) (i : PySem.W.isFn K (.ref f) = true) (l : K.lookup f = some ⟨oc, od, .func (PySem.W.fnOf "__init__" "Interest.__init__" (defArgs sInitI) (defBody sInitI) (defScope sInitI) .none kV dc pm an cd ct), sl⟩) (c : PySem.W.codeIn K cd "Interest.__init__" = true) (k : PySem.W.keepIn K (.ref f) = true) (mk : PySem.W.makesIn K C = true) (kc : PySem.W.keepIn K (.ref C) = true) : InitAt K "Interest.__init__" sInitI C ["self", "value", "declared", "on_deck", "is_exempt"] :=
  ⟨_, _, fun_mk (st := sInitI) l c k, (fun_mk (st := sInitI) l c k).binds (ps := ["self", "value", "declared", "on_deck", "is_exempt"]) fun _ _ _ _ _ _ us hl => match us, hl with | [_, _, _, _, _], _ => rfl, ⟨mk, a, i, kc⟩⟩
theorem init_Expense {f : Addr} {od an : Option Addr} {sl : Array (Option Value)} {oc kV dc pm cd ct : Value} {C : Addr} (a : PySem.W.findIn K (.ref C) "__init__" = some (some (.ref f))) (i : PySem.W.isFn K (.ref f) = true) (l : K.lookup f = some ⟨oc, od, .func (PySem.W.fnOf "__init__" "Expense.__init__" (defArgs sInitE) (defBody sInitE) (defScope sInitE) .none kV dc pm an cd ct), sl⟩) (c : PySem.W.codeIn K cd "Expense.__init__" = true) (k : PySem.W.keepIn K (.ref f) = true) (mk : PySem.W.makesIn K C = true) (kc : PySem.W.keepIn K (.ref C) = true) : InitAt K "Expense.__init__" sInitE C ["self", "payer", "allowed"] :=
  ⟨_, _, fun_mk (st := sInitE) l c k, (fun_mk (st := sInitE) l c k).binds (ps := ["self", "payer", "allowed"]) fun _ _ _ _ _ _ us hl => match us, hl with | [_, _, _], _ => rfl, ⟨mk, a, i, kc⟩⟩
theorem init_Average {f : Addr} {od an : Option Addr} {sl : Array (Option Value)} {oc kV dc pm cd ct : Value} {C : Addr} (a : PySem.W.findIn K (.ref C) "__init__" = some (some (.ref f))) (i : PySem.W.isFn K (.ref f) = true) (l : K.lookup f = some ⟨oc, od, .func (PySem.W.fnOf "__init__" "Average.__init__" (defArgs sInitA) (defBody sInitA) (defScope sInitA) .none kV dc pm an cd ct), sl⟩) (c : PySem.W.codeIn K cd "Average.__init__" = true) (k : PySem.W.keepIn K (.ref f) = true) (mk : PySem.W.makesIn K C = true) (kc : PySem.W.keepIn K (.ref C) = true) : InitAt K "Average.__init__" sInitA C ["self", "hundredths"] :=
  ⟨_, _, fun_mk (st := sInitA) l c k, (fun_mk (st := sInitA) l c k).binds (ps := ["self", "hundredths"]) fun _ _ _ _ _ _ us hl => match us, hl with | [_, _], _ => rfl, ⟨mk, a, i, kc⟩⟩
theorem init_Desk {f : Addr} {od an : Option Addr} {sl : Array (Option Value)} {oc kV dc pm cd ct : Value} {C : Addr} (a : PySem.W.findIn K (.ref C) "__init__" = some (some (.ref f))) (i : PySem.W.isFn K (.ref f) = true) (l : K.lookup f = some ⟨oc, od, .func (PySem.W.fnOf "__init__" "Desk.__init__" (defArgs sInitD) (defBody sInitD) (defScope sInitD) .none kV dc pm an cd ct), sl⟩) (c : PySem.W.codeIn K cd "Desk.__init__" = true) (k : PySem.W.keepIn K (.ref f) = true) (mk : PySem.W.makesIn K C = true) (kc : PySem.W.keepIn K (.ref C) = true) : InitAt K "Desk.__init__" sInitD C ["self"] :=
  ⟨_, _, fun_mk (st := sInitD) l c k, (fun_mk (st := sInitD) l c k).binds (ps := ["self"]) fun _ _ _ _ _ _ us hl => match us, hl with | [_], _ => rfl, ⟨mk, a, i, kc⟩⟩
theorem cls_mk {C : Addr} (pg : PySem.W.plainGet K C Str.empty = true) (hd : PySem.W.hasDictIn K C = true) (po : PySem.W.plainOver K C = true) (sa : PySem.W.findIn K (.ref C) "__setattr__" = some (some (.builtin "object.__setattr__"))) : Cls K C := ⟨pg, hd, po, sa⟩
theorem const_mk {x : Str} {z : Int} {t : Tok} (X : K.In h) (G : h.Ns mainGlobals mg) (a : PySem.W.nsIn K mainGlobals x = some (some (.int z t))) : ∃ t, mg x = some (.int z t) := ⟨t, PySem.W.mg_of X G a⟩
def tabOk (es : Array DictEntry) : Bool := ([(1, 1), (2, 4), (3, 2), (4, 2), (5, 3), (6, 0), (7, 1), (8, 0), (9, 0), (10, 0)] : List (Int × Int)).all fun p => match findBy Value.isInt es p.1 with
  | some (.int v _) => v == p.2
  | _ => false
theorem tab_at {es : Array DictEntry} (h : tabOk es = true) {k v : Int} (m : (k, v) ∈ ([(1, 1), (2, 4), (3, 2), (4, 2), (5, 3), (6, 0), (7, 1), (8, 0), (9, 0), (10, 0)] : List (Int × Int))) : ∃ t, findBy Value.isInt es k = some (.int v t) := by
  have q := List.all_eq_true.mp h _ m
  dsimp only at q
  split at q
  · rename_i z t e
    have ez : z = v := beq_iff_eq.mp q
    subst ez
    exact ⟨t, e⟩
  · cases q
theorem wholes_mk {aW : Addr} {es : Array DictEntry} {n : Nat} (l : K.lookup aW = some ⟨.type "dict", none, .dict es n, #[]⟩) (k : IntKeys es.toList = true) (t : tabOk es = true) (p : Int) (m : Nat) (hs : PyKg88.shape p = some (m, 0)) : KIntD K aW p (m : Int) := by
  have go : ∀ v : Int, (p, v) ∈ ([(1, 1), (2, 4), (3, 2), (4, 2), (5, 3), (6, 0), (7, 1), (8, 0), (9, 0), (10, 0)] : List (Int × Int)) → v = (m : Int) → KIntD K aW p (m : Int) := fun v hm e => by
    obtain ⟨tv, q⟩ := tab_at t hm
    rw [e] at q
    exact ⟨es, n, tv, l, k, q⟩
  rcases shape_cases hs with ⟨rfl, rfl⟩ | ⟨rfl, rfl⟩ | ⟨rfl, rfl⟩ | ⟨rfl, rfl⟩ | ⟨rfl, rfl⟩ | ⟨rfl, rfl⟩ | ⟨rfl, rfl⟩ | ⟨rfl, rfl⟩ | ⟨rfl, rfl⟩ | ⟨rfl, rfl⟩
  · exact go 1 (by decide) rfl
  · exact go 4 (by decide) rfl
  · exact go 2 (by decide) rfl
  · exact go 2 (by decide) rfl
  · exact go 3 (by decide) rfl
  · exact go 0 (by decide) rfl
  · exact go 1 (by decide) rfl
  · exact go 0 (by decide) rfl
  · exact go 0 (by decide) rfl
  · exact go 0 (by decide) rfl
end
theorem all_mk {P : Program} {w : World} {K : PySem.W.Frag} {h : Heap} {mg : Str → Option Value} {fa CI CE CA CD aW : Addr} {f : Addr} {od an : Option Addr} {sl : Array (Option Value)} {oc kV dc pm cd ct : Value} (X : K.In h) (G : h.Ns mainGlobals mg) (hfa : mg "answers" = some (.ref fa))
    (gI : PySem.W.nsIn K mainGlobals "Interest" = some (some (.ref CI))) (gE : PySem.W.nsIn K mainGlobals "Expense" = some (some (.ref CE))) (gA : PySem.W.nsIn K mainGlobals "Average" = some (some (.ref CA))) (gD : PySem.W.nsIn K mainGlobals "Desk" = some (some (.ref CD)))
    (gW : PySem.W.nsIn K mainGlobals "WHOLES" = some (some (.ref aW))) (hW : ∀ (p : Int) (n : Nat), PyKg88.shape p = some (n, 0) → KIntD K aW p (n : Int))
    (a : PySem.W.nsIn K mainGlobals "answers" = some (some (.ref f))) (l : K.lookup f = some ⟨oc, od, .func (PySem.W.fnOf "answers" "answers" (defArgs sAnswers) (defBody sAnswers) (defScope sAnswers) .none kV dc pm an cd ct), sl⟩) (c : PySem.W.codeIn K cd "answers" = true) (k : PySem.W.keepIn K (.ref f) = true)
    (clI : Cls K CI) (clE : Cls K CE) (clA : Cls K CA) (clD : Cls K CD)
    (i_value : PySem.W.findIn K (.ref CI) "value" = some none) (i_declared : PySem.W.findIn K (.ref CI) "declared" = some none) (i_deck : PySem.W.findIn K (.ref CI) "on_deck" = some none) (i_exempt : PySem.W.findIn K (.ref CI) "is_exempt" = some none) (i_lost : PySem.W.findIn K (.ref CI) "lost" = some none) (i_given : PySem.W.findIn K (.ref CI) "given" = some none) (e_payer : PySem.W.findIn K (.ref CE) "payer" = some none) (e_allowed : PySem.W.findIn K (.ref CE) "allowed" = some none) (a_h : PySem.W.findIn K (.ref CA) "hundredths" = some none) (a_i : PySem.W.findIn K (.ref CA) "interests" = some none) (a_e : PySem.W.findIn K (.ref CA) "expenses" = some none) (d_a : PySem.W.findIn K (.ref CD) "average" = some none)
    (z_min : PySem.W.nsIn K mainGlobals "min" = some none) (z_sum : PySem.W.nsIn K mainGlobals "sum" = some none) (z_sorted : PySem.W.nsIn K mainGlobals "sorted" = some none) (z_range : PySem.W.nsIn K mainGlobals "range" = some none) (z_len : PySem.W.nsIn K mainGlobals "len" = some none) (z_zip : PySem.W.nsIn K mainGlobals "zip" = some none)
    (cMI : ∃ t, mg "MOST_INTERESTS" = some (.int 20 t)) (cME : ∃ t, mg "MOST_EXPENSES" = some (.int 30 t)) (cMH : ∃ t, mg "MOST_HUNDREDTHS" = some (.int 10 t)) (cMU : ∃ t, mg "MOST_UNITS" = some (.int 1000000000 t)) (cNT : ∃ t, mg "NOT_TOLD" = some (.int (-1) t)) (cNR : ∃ t, mg "NOT_RIGHT" = some (.int (-1) t)) (cNA : ∃ t, mg "NO_AVERAGE" = some (.int (-2) t)) (cTM : ∃ t, mg "TOO_MUCH" = some (.int (-4) t)) (cFU : ∃ t, mg "FULL" = some (.int (-5) t)) (cCA : ∃ t, mg "CANNOT" = some (.int (-6) t)) (cRA : ∃ t, mg "RATE" = some (.int 10000 t))
    (i_Interest : InitAt K "Interest.__init__" sInitI CI ["self", "value", "declared", "on_deck", "is_exempt"]) (i_Expense : InitAt K "Expense.__init__" sInitE CE ["self", "payer", "allowed"]) (i_Average : InitAt K "Average.__init__" sInitA CA ["self", "hundredths"]) (i_Desk : InitAt K "Desk.__init__" sInitD CD ["self"])
    (d_within : DefAt K mg "within" sWithin ["number", "least", "most"]) (d_counted : DefAt K mg "counted" sCounted ["interest"]) (d_left_of : DefAt K mg "left_of" sLeftOf ["interest"]) (d_made_good : DefAt K mg "made_good" sMadeGood ["interest"]) (d_contributes_by : DefAt K mg "contributes_by" sContributesBy ["interest"]) (d_allowed_for : DefAt K mg "allowed_for" sAllowedFor ["average", "amount", "otherwise"]) (d_all_good : DefAt K mg "all_good" sAllGood ["average"]) (d_all_allowed : DefAt K mg "all_allowed" sAllAllowed ["average"]) (d_shared : DefAt K mg "shared" sShared ["average"]) (d_all_by : DefAt K mg "all_by" sAllBy ["average"]) (d_can_be_adjusted : DefAt K mg "can_be_adjusted" sCan ["average"]) (d_contributions : DefAt K mg "contributions" sContributions ["average"]) (d_owed : DefAt K mg "owed" sOwed ["average", "number"]) (d_balances : DefAt K mg "balances" sBalances ["average"]) (d_payments : DefAt K mg "payments" sPayments ["average"]) (d_begin : DefAt K mg "begin" sBegin ["desk", "hundredths"]) (d_put_interest : DefAt K mg "put_interest" sPutInterest ["desk", "wholes"]) (d_is_interest : DefAt K mg "is_interest" sIsInterest ["desk", "number"]) (d_stands : DefAt K mg "stands" sStands ["interest"]) (d_lose : DefAt K mg "lose" sLose ["desk", "number", "units"]) (d_give : DefAt K mg "give" sGive ["desk", "number", "units"]) (d_put_expense : DefAt K mg "put_expense" sPutExpense ["desk", "wholes"]) (d_sums : DefAt K mg "sums" sSums ["desk"]) (d_one : DefAt K mg "one" sOne ["desk", "number"]) (d_adjust : DefAt K mg "adjust" sAdjust ["average"]) (d_transfers : DefAt K mg "transfers" sTransfers ["average"]) (d_adjusted : DefAt K mg "adjusted" sAdjusted ["desk", "kind"]) (d_answered : DefAt K mg "answered" sAnswered ["desk", "kind", "wholes"]) :
    ∃ fd : FuncData, (∀ (s : Shared) (us : List Value), us.length = (["calls"] : List Str).length → BindsTo s fd ⟨us, []⟩ ((["calls"] : List Str).zip us)) ∧ ∀ base : Heap, K.In base → base.Ns mainGlobals mg → FnOk P w K mg base CX0 11 fa fd ["calls"] (spAns K) := by
  have e := hfa.symm.trans (PySem.W.mg_of X G a)
  cases e
  have T : Txt K mg ⟨CI, CE, CA, CD⟩ := ⟨clI, clE, clA, clD, i_value, i_declared, i_deck, i_exempt, i_lost, i_given, e_payer, e_allowed, a_h, a_i, a_e, d_a, PySem.W.mg_of X G gI, PySem.W.mg_of X G gE, PySem.W.mg_of X G gA, PySem.W.mg_of X G gD, PySem.W.mg_none_of X G z_min, PySem.W.mg_none_of X G z_sum, PySem.W.mg_none_of X G z_sorted, PySem.W.mg_none_of X G z_range, PySem.W.mg_none_of X G z_len, PySem.W.mg_none_of X G z_zip, cMI, cME, cMH, cMU, cNT, cNR, cNA, cTM, cFU, cCA, cRA⟩
  have F := fun_mk (st := sAnswers) l c k
  refine ⟨PySem.W.fnOf "answers" "answers" (defArgs sAnswers) (defBody sAnswers) (defScope sAnswers) .none kV dc pm an cd ct, fun s us hu => match us, hu with | [_], _ => .of_eq rfl, fun base _ _ => ?_⟩
  have hWi := ok_within (P := P) (w := w) (base := base) d_within
  have hCo := ok_counted (P := P) (w := w) (base := base) d_counted T
  have hLe := ok_leftOf (P := P) (w := w) (base := base) d_left_of T hCo
  have hGo := ok_madeGood (P := P) (w := w) (base := base) d_made_good T hCo
  have hBy := ok_contributesBy (P := P) (w := w) (base := base) d_contributes_by T hLe hGo
  have hAf := ok_allowedFor (P := P) (w := w) (base := base) d_allowed_for T
  have hAg := ok_allGood (P := P) (w := w) (base := base) d_all_good T hGo
  have hAa := ok_allAllowed (P := P) (w := w) (base := base) d_all_allowed T
  have hSh := ok_shared (P := P) (w := w) (base := base) d_shared hAg hAa
  have hAb := ok_allBy (P := P) (w := w) (base := base) d_all_by T hBy
  have hCa := ok_can (P := P) (w := w) (base := base) d_can_be_adjusted hAb hSh
  have hCn := ok_contributions (P := P) (w := w) (base := base) d_contributions T hSh hAb hBy
  have hOw := ok_owed (P := P) (w := w) (base := base) d_owed T hGo
  have hBa := ok_balances (P := P) (w := w) (base := base) d_balances T hCn hOw
  have hPa := ok_payments (P := P) (w := w) (base := base) d_payments T hBa
  have hBe := ok_begin (P := P) (w := w) (base := base) d_begin T hWi (ok_initA i_Average T)
  have hPi := ok_putInterest (P := P) (w := w) (base := base) d_put_interest T hWi (ok_initI i_Interest T)
  have hIs := ok_isInterest (P := P) (w := w) (base := base) d_is_interest T hWi
  have hSt := ok_stands (P := P) (w := w) (base := base) d_stands hLe hGo hBy
  have hLo := ok_lose (P := P) (w := w) (base := base) d_lose T hWi hIs hSt
  have hGi := ok_give (P := P) (w := w) (base := base) d_give T hWi hIs hSt
  have hPe := ok_putExpense (P := P) (w := w) (base := base) d_put_expense T hWi hIs hAf (ok_initE i_Expense T)
  have hSu := ok_sums (P := P) (w := w) (base := base) d_sums T hSh hAg hAa hAb
  have hOn := ok_one (P := P) (w := w) (base := base) d_one T hIs hSt hOw hCa hCn hBa
  have hAj := ok_adjust (P := P) (w := w) (base := base) d_adjust T hSh hCn hBa
  have hTr := ok_transfers (P := P) (w := w) (base := base) d_transfers T hPa
  have hAd := ok_adjusted (P := P) (w := w) (base := base) d_adjusted T hCa hAj hTr hSh hAb
  have hAn := ok_answered (P := P) (w := w) (base := base) d_answered hBe hPi hLo hGi hPe hSu hOn hAd
  exact ok_answers F T (PySem.W.mg_of X G gW) hW (ok_initD i_Desk T) hAn
end Av
open PySem PySem.W PyProof.Rows
set_option maxRecDepth 100000 in
set_option maxHeartbeats 0 in
theorem PySem.Challenge.cw_averagesea_s01_answers_holds : PySem.Challenge.rw_averagesea_s01_answers.Holds := by
  w_on; k_headS; (case hw => exact ⟨[.list [.int 6]], by decide +kernel, by decide +kernel⟩)
  k_fillS
  refine L2.walk_specK (r := PySem.Challenge.rw_averagesea_s01_answers) (k := 11) (CX := L2.CX0) (ps := ["calls"]) (sp := Av.spAns) (by decide +kernel) rfl rfl ⟨rfl, by decide, by decide⟩ (fun w h Y => PySem.W.kIn_of Y) ?F ?S (fun _ _ _ _ z => z)
  case F =>
    intro w mg fa h Y KX G hmg
    refine' Av.all_mk KX G hmg ?gI ?gE ?gA ?gD ?gW ?hW ?a ?l ?c ?k ?clI ?clE ?clA ?clD ?i_value ?i_declared ?i_deck ?i_exempt ?i_lost ?i_given ?e_payer ?e_allowed ?a_h ?a_i ?a_e ?d_a ?z_min ?z_sum ?z_sorted ?z_range ?z_len ?z_zip ?cMI ?cME ?cMH ?cMU ?cNT ?cNR ?cNA ?cTM ?cFU ?cCA ?cRA ?i_Interest ?i_Expense ?i_Average ?i_Desk ?d_within ?d_counted ?d_left_of ?d_made_good ?d_contributes_by ?d_allowed_for ?d_all_good ?d_all_allowed ?d_shared ?d_all_by ?d_can_be_adjusted ?d_contributions ?d_owed ?d_balances ?d_payments ?d_begin ?d_put_interest ?d_is_interest ?d_stands ?d_lose ?d_give ?d_put_expense ?d_sums ?d_one ?d_adjust ?d_transfers ?d_adjusted ?d_answered
    (case gI => k_is)
    (case gE => k_is)
    (case gA => k_is)
    (case gD => k_is)
    (case gW => k_is)
    (case hW => refine' Av.wholes_mk ?wl ?wk ?wt; (case wl => k_is); (case wk => decide +kernel); (case wt => decide +kernel))
    (case a => k_is)
    (case l => k_is)
    (case c => k_is)
    (case k => k_is)
    (case clI => refine' Av.cls_mk ?p1 ?p2 ?p3 ?p4; (case p1 => k_is); (case p2 => k_is); (case p3 => k_is); (case p4 => k_is))
    (case clE => refine' Av.cls_mk ?p1 ?p2 ?p3 ?p4; (case p1 => k_is); (case p2 => k_is); (case p3 => k_is); (case p4 => k_is))
    (case clA => refine' Av.cls_mk ?p1 ?p2 ?p3 ?p4; (case p1 => k_is); (case p2 => k_is); (case p3 => k_is); (case p4 => k_is))
    (case clD => refine' Av.cls_mk ?p1 ?p2 ?p3 ?p4; (case p1 => k_is); (case p2 => k_is); (case p3 => k_is); (case p4 => k_is))
    (case i_value => k_is)
    (case i_declared => k_is)
    (case i_deck => k_is)
    (case i_exempt => k_is)
    (case i_lost => k_is)
    (case i_given => k_is)
    (case e_payer => k_is)
    (case e_allowed => k_is)
    (case a_h => k_is)
    (case a_i => k_is)
    (case a_e => k_is)
    (case d_a => k_is)
    (case z_min => k_is)
    (case z_sum => k_is)
    (case z_sorted => k_is)
    (case z_range => k_is)
    (case z_len => k_is)
    (case z_zip => k_is)
    (case cMI => refine' Av.const_mk KX G ?p1; (case p1 => k_is))
    (case cME => refine' Av.const_mk KX G ?p1; (case p1 => k_is))
    (case cMH => refine' Av.const_mk KX G ?p1; (case p1 => k_is))
    (case cMU => refine' Av.const_mk KX G ?p1; (case p1 => k_is))
    (case cNT => refine' Av.const_mk KX G ?p1; (case p1 => k_is))
    (case cNR => refine' Av.const_mk KX G ?p1; (case p1 => k_is))
    (case cNA => refine' Av.const_mk KX G ?p1; (case p1 => k_is))
    (case cTM => refine' Av.const_mk KX G ?p1; (case p1 => k_is))
    (case cFU => refine' Av.const_mk KX G ?p1; (case p1 => k_is))
    (case cCA => refine' Av.const_mk KX G ?p1; (case p1 => k_is))
    (case cRA => refine' Av.const_mk KX G ?p1; (case p1 => k_is))
    (case i_Interest => refine' Av.init_Interest ?p1 ?p2 ?p3 ?p4 ?p5 ?p6 ?p7; (case p1 => k_is); (case p2 => k_is); (case p3 => k_is); (case p4 => k_is); (case p5 => k_is); (case p6 => k_is); (case p7 => k_is))
    (case i_Expense => refine' Av.init_Expense ?p1 ?p2 ?p3 ?p4 ?p5 ?p6 ?p7; (case p1 => k_is); (case p2 => k_is); (case p3 => k_is); (case p4 => k_is); (case p5 => k_is); (case p6 => k_is); (case p7 => k_is))
    (case i_Average => refine' Av.init_Average ?p1 ?p2 ?p3 ?p4 ?p5 ?p6 ?p7; (case p1 => k_is); (case p2 => k_is); (case p3 => k_is); (case p4 => k_is); (case p5 => k_is); (case p6 => k_is); (case p7 => k_is))
    (case i_Desk => refine' Av.init_Desk ?p1 ?p2 ?p3 ?p4 ?p5 ?p6 ?p7; (case p1 => k_is); (case p2 => k_is); (case p3 => k_is); (case p4 => k_is); (case p5 => k_is); (case p6 => k_is); (case p7 => k_is))
    (case d_within => refine' Av.def_within KX G ?p1 ?p2 ?p3 ?p4; (case p1 => k_is); (case p2 => k_is); (case p3 => k_is); (case p4 => k_is))
    (case d_counted => refine' Av.def_counted KX G ?p1 ?p2 ?p3 ?p4; (case p1 => k_is); (case p2 => k_is); (case p3 => k_is); (case p4 => k_is))
    (case d_left_of => refine' Av.def_left_of KX G ?p1 ?p2 ?p3 ?p4; (case p1 => k_is); (case p2 => k_is); (case p3 => k_is); (case p4 => k_is))
    (case d_made_good => refine' Av.def_made_good KX G ?p1 ?p2 ?p3 ?p4; (case p1 => k_is); (case p2 => k_is); (case p3 => k_is); (case p4 => k_is))
    (case d_contributes_by => refine' Av.def_contributes_by KX G ?p1 ?p2 ?p3 ?p4; (case p1 => k_is); (case p2 => k_is); (case p3 => k_is); (case p4 => k_is))
    (case d_allowed_for => refine' Av.def_allowed_for KX G ?p1 ?p2 ?p3 ?p4; (case p1 => k_is); (case p2 => k_is); (case p3 => k_is); (case p4 => k_is))
    (case d_all_good => refine' Av.def_all_good KX G ?p1 ?p2 ?p3 ?p4; (case p1 => k_is); (case p2 => k_is); (case p3 => k_is); (case p4 => k_is))
    (case d_all_allowed => refine' Av.def_all_allowed KX G ?p1 ?p2 ?p3 ?p4; (case p1 => k_is); (case p2 => k_is); (case p3 => k_is); (case p4 => k_is))
    (case d_shared => refine' Av.def_shared KX G ?p1 ?p2 ?p3 ?p4; (case p1 => k_is); (case p2 => k_is); (case p3 => k_is); (case p4 => k_is))
    (case d_all_by => refine' Av.def_all_by KX G ?p1 ?p2 ?p3 ?p4; (case p1 => k_is); (case p2 => k_is); (case p3 => k_is); (case p4 => k_is))
    (case d_can_be_adjusted => refine' Av.def_can_be_adjusted KX G ?p1 ?p2 ?p3 ?p4; (case p1 => k_is); (case p2 => k_is); (case p3 => k_is); (case p4 => k_is))
    (case d_contributions => refine' Av.def_contributions KX G ?p1 ?p2 ?p3 ?p4; (case p1 => k_is); (case p2 => k_is); (case p3 => k_is); (case p4 => k_is))
    (case d_owed => refine' Av.def_owed KX G ?p1 ?p2 ?p3 ?p4; (case p1 => k_is); (case p2 => k_is); (case p3 => k_is); (case p4 => k_is))
    (case d_balances => refine' Av.def_balances KX G ?p1 ?p2 ?p3 ?p4; (case p1 => k_is); (case p2 => k_is); (case p3 => k_is); (case p4 => k_is))
    (case d_payments => refine' Av.def_payments KX G ?p1 ?p2 ?p3 ?p4; (case p1 => k_is); (case p2 => k_is); (case p3 => k_is); (case p4 => k_is))
    (case d_begin => refine' Av.def_begin KX G ?p1 ?p2 ?p3 ?p4; (case p1 => k_is); (case p2 => k_is); (case p3 => k_is); (case p4 => k_is))
    (case d_put_interest => refine' Av.def_put_interest KX G ?p1 ?p2 ?p3 ?p4; (case p1 => k_is); (case p2 => k_is); (case p3 => k_is); (case p4 => k_is))
    (case d_is_interest => refine' Av.def_is_interest KX G ?p1 ?p2 ?p3 ?p4; (case p1 => k_is); (case p2 => k_is); (case p3 => k_is); (case p4 => k_is))
    (case d_stands => refine' Av.def_stands KX G ?p1 ?p2 ?p3 ?p4; (case p1 => k_is); (case p2 => k_is); (case p3 => k_is); (case p4 => k_is))
    (case d_lose => refine' Av.def_lose KX G ?p1 ?p2 ?p3 ?p4; (case p1 => k_is); (case p2 => k_is); (case p3 => k_is); (case p4 => k_is))
    (case d_give => refine' Av.def_give KX G ?p1 ?p2 ?p3 ?p4; (case p1 => k_is); (case p2 => k_is); (case p3 => k_is); (case p4 => k_is))
    (case d_put_expense => refine' Av.def_put_expense KX G ?p1 ?p2 ?p3 ?p4; (case p1 => k_is); (case p2 => k_is); (case p3 => k_is); (case p4 => k_is))
    (case d_sums => refine' Av.def_sums KX G ?p1 ?p2 ?p3 ?p4; (case p1 => k_is); (case p2 => k_is); (case p3 => k_is); (case p4 => k_is))
    (case d_one => refine' Av.def_one KX G ?p1 ?p2 ?p3 ?p4; (case p1 => k_is); (case p2 => k_is); (case p3 => k_is); (case p4 => k_is))
    (case d_adjust => refine' Av.def_adjust KX G ?p1 ?p2 ?p3 ?p4; (case p1 => k_is); (case p2 => k_is); (case p3 => k_is); (case p4 => k_is))
    (case d_transfers => refine' Av.def_transfers KX G ?p1 ?p2 ?p3 ?p4; (case p1 => k_is); (case p2 => k_is); (case p3 => k_is); (case p4 => k_is))
    (case d_adjusted => refine' Av.def_adjusted KX G ?p1 ?p2 ?p3 ?p4; (case p1 => k_is); (case p2 => k_is); (case p3 => k_is); (case p4 => k_is))
    (case d_answered => refine' Av.def_answered KX G ?p1 ?p2 ?p3 ?p4; (case p1 => k_is); (case p2 => k_is); (case p3 => k_is); (case p4 => k_is))
  case S =>
    intro K H xs a hO hwi hask hx
    cases hx with
    | cons h1 h2 =>
      cases h2
      cases h1 with
      | lst hs ha =>
        have e := L2.ints_dw a.1 _ ha
        subst e
        exact ⟨_, a.1, rfl, hs, hask, fun H' p hp => .lst (L2.SqL.of hp) (L2.dw_ints _)⟩
#print axioms PySem.Challenge.cw_averagesea_s01_answers_holds
