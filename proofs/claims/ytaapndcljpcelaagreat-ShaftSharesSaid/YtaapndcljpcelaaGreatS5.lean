/- What this law alone rests on. -/
import Derived.Test.YtaapndcljpcelaaGreatP5
/- More weighings, and fewer. -/
set_option linter.unusedVariables false
set_option linter.unusedSimpArgs false
namespace Go.Shaft
def moreW (k : Kn) (w : Wg) : Kn := { k with weighs := k.weighs ++ [w] }
theorem more_sub (k : Kn) (w : Wg) : ∀ t ∈ tiesM k, t ∈ tiesM (moreW k w) := by
  intro t ht
  have e3 : ties3 (moreW k w) = ties3 k ++ both (weighedM k w).1 (weighedM k w).2 w.sum w.id := by
    unfold ties3
    show List.flatMap _ (k.weighs ++ [w]) = _
    rw [List.flatMap_append]
    simp only [List.flatMap_cons, List.flatMap_nil, List.append_nil]
    rfl
  have e1 : ties1 (moreW k w) = ties1 k := rfl
  have e2 : ties2 (moreW k w) = ties2 k := rfl
  have e4 : ties4 (moreW k w) = ties4 k := rfl
  have e5 : ties5 (moreW k w) = ties5 k := rfl
  rw [tiesM, e1, e2, e3, e4, e5]
  simp only [tiesM, List.mem_append] at ht ⊢
  rcases ht with h | h | h | h | h
  · exact .inl h
  · exact .inr (.inl h)
  · exact .inr (.inr (.inl (.inl h)))
  · exact .inr (.inr (.inr (.inl h)))
  · exact .inr (.inr (.inr (.inr h)))
theorem less_sub (k : Kn) (ids : List Int) : ∀ t ∈ tiesM (withoutM k ids), t ∈ tiesM k := by
  intro t ht
  have e3 : ties3 (withoutM k ids) = (k.weighs.filter fun w => !decide (w.id ∈ ids)).flatMap fun w => both (weighedM k w).1 (weighedM k w).2 w.sum w.id := rfl
  have e1 : ties1 (withoutM k ids) = ties1 k := rfl
  have e2 : ties2 (withoutM k ids) = ties2 k := rfl
  have e4 : ties4 (withoutM k ids) = ties4 k := rfl
  have e5 : ties5 (withoutM k ids) = ties5 k := rfl
  rw [tiesM, e1, e2, e3, e4, e5] at ht
  simp only [tiesM, List.mem_append] at ht ⊢
  rcases ht with h | h | h | h | h
  · exact .inl h
  · exact .inr (.inl h)
  · refine .inr (.inr (.inl ?_))
    obtain ⟨w, hw, h⟩ := List.mem_flatMap.1 h
    exact List.mem_flatMap.2 ⟨w, (List.mem_filter.1 hw).1, h⟩
  · exact .inr (.inr (.inr (.inl h)))
  · exact .inr (.inr (.inr (.inr h)))
theorem feas_of_more {k : Kn} {w : Wg} {H : Int → Int} (f : Feas (netM (moreW k w) []) H) : Feas (netM k []) H := by
  intro t ht
  rw [links0] at ht
  exact f t (by rw [links0]; exact more_sub k w t ht)
theorem feas_less {k : Kn} {ids : List Int} {H : Int → Int} (f : Feas (netM k []) H) : Feas (netM (withoutM k ids) []) H := by
  intro t ht
  rw [links0] at ht
  exact f t (by rw [links0]; exact less_sub k ids t ht)
/-- What is told without an error. -/
theorem above_zero {k : Kn} {a b : Int} (h : (aboveC k a b).2 = 0) : check k = 0 ∧ (0 ≤ a ∧ a < marksM k) ∧ (0 ≤ b ∧ b < marksM k) ∧ fin? (netM k []) a = true ∧ (aboveC k a b).1.most = dst (netM k []) a b := by
  have hm : markedM k [a, b] = 0 := by
    refine Classical.byContradiction fun hn => ?_
    unfold aboveC at h
    rw [if_pos hn] at h
    exact hn h
  obtain ⟨hc, hin⟩ := marked_ok hm
  have ha := hin a (by simp)
  have hb := hin b (by simp)
  obtain ⟨e1, m1⟩ := aboveC_eq hc ha.1 ha.2 hb.1 hb.2
  have hF : fin? (netM k []) a = true := by
    cases hf : fin? (netM k []) a with
    | true => rfl
    | false => rw [h, hf] at e1; cases e1
  exact ⟨hc, ha, hb, hF, m1 hF⟩
/-- A further weighing moves no end outwards; what contradicts itself stays so. -/
theorem more_le {k : Kn} (hc : check k = 0) {w : Wg} {a b : Int} (h : (aboveC (moreW k w) a b).2 = 0) : fin? (netM k []) a = true ∧ (aboveC (moreW k w) a b).1.most ≤ (aboveC k a b).1.most := by
  obtain ⟨hc2, ha, hb, hF, hm⟩ := above_zero h
  have ha' : 0 ≤ a ∧ a < marksM k := ha
  have hb' : 0 ≤ b ∧ b < marksM k := hb
  have N := Net.base hc
  have N2 := Net.base hc2
  have f := feas_of_more (N2.feas ha.1 ha.2 hF)
  have hF2 := N.fin_of ha'.1 ha'.2 f
  have h1 := N.le ha'.1 ha'.2 hb'.1 hb'.2 f
  rw [N2.zero ha.1 ha.2 hF] at h1
  rw [hm, (aboveC_eq hc ha'.1 ha'.2 hb'.1 hb'.2).2 hF2]
  exact ⟨hF2, by omega⟩
theorem ins_mem (l : List Int) (x y : Int) : y ∈ insM l x ↔ y = x ∨ y ∈ l := by
  unfold insM
  rw [List.mem_append, List.mem_cons]
  have e : l = l.takeWhile (fun y => !decide (x < y)) ++ l.dropWhile (fun y => !decide (x < y)) := (List.takeWhile_append_dropWhile).symm
  constructor
  · rintro (h | h | h)
    · exact .inr (by rw [e]; exact List.mem_append_left _ h)
    · exact .inl h
    · exact .inr (by rw [e]; exact List.mem_append_right _ h)
  · rintro (h | h)
    · exact .inr (.inl h)
    · rw [e, List.mem_append] at h
      rcases h with h | h
      · exact .inl h
      · exact .inr (.inr h)
theorem sort_mem : ∀ (l acc : List Int) (y : Int), y ∈ l.foldl insM acc ↔ y ∈ l ∨ y ∈ acc
  | [], acc, y => by simp
  | x :: l, acc, y => by
    rw [List.foldl_cons, sort_mem l _ y, ins_mem, List.mem_cons]
    constructor
    · rintro (h | h | h)
      · exact .inl (.inr h)
      · exact .inl (.inl h)
      · exact .inr h
    · rintro ((h | h) | h)
      · exact .inr (.inl h)
      · exact .inl h
      · exact .inr (.inr h)
theorem sortM_mem (l : List Int) (y : Int) : y ∈ sortM l ↔ y ∈ l := by
  rw [sortM, sort_mem]
  simp
theorem chosen_mem (k : Kn) (is : Kn → Bool) (y : Int) : y ∈ chosenM k is ↔ (∃ w ∈ k.weighs, w.id = y) ∧ is (withoutM k [y]) = true := by
  rw [chosenM, sortM_mem, List.mem_filter, List.mem_map]
/-- The weighings on which it rests. -/
theorem rests_ok {k : Kn} (hc : check k = 0) {a b : Int} (a0 : 0 ≤ a) (a1 : a < marksM k) (b0 : 0 ≤ b) (b1 : b < marksM k) (hF : fin? (netM k []) a = true) : (restsM k a b).2 = 0 ∧ ∀ w ∈ k.weighs, (w.id ∈ (restsM k a b).1 ↔ dst (netM (withoutM k [w.id]) []) a b ≠ dst (netM k []) a b) := by
  have e : restsM k a b = (chosenM k (fun less => decide ((aboveM (netM less []) a b).1 ≠ (aboveM (netM k []) a b).1)), 0) := by
    unfold restsM
    rw [marked_two hc a0 a1 b0 b1, if_neg (by simp), if_neg]
    rw [above_eq]
    simp only [hF]
    simp
  rw [e]
  refine ⟨rfl, fun w hw => ?_⟩
  simp only
  rw [chosen_mem]
  simp only [above_eq, decide_eq_true_eq]
  exact ⟨fun h => of_decide_eq_true h.2, fun h => ⟨⟨w, hw, rfl⟩, decide_eq_true h⟩⟩
theorem less_ok {k : Kn} (hc : check k = 0) {a b : Int} (a0 : 0 ≤ a) (a1 : a < marksM k) (b0 : 0 ≤ b) (b1 : b < marksM k) (hF : fin? (netM k []) a = true) (id : Int) : (withoutE k [id]) = (withoutM k [id], 0) ∧ (aboveC (withoutM k [id]) a b).2 = 0 ∧ (aboveC (withoutM k [id]) a b).1.most = dst (netM (withoutM k [id]) []) a b := by
  have hc2 := check_without hc [id]
  have N := Net.base hc
  have N2 := Net.base hc2
  have hF2 : fin? (netM (withoutM k [id]) []) a = true := N2.fin_of (k := withoutM k [id]) a0 a1 (feas_less (N.feas a0 a1 hF))
  obtain ⟨e1, m1⟩ := aboveC_eq (k := withoutM k [id]) hc2 a0 a1 b0 b1
  exact ⟨by rw [withoutE, if_neg (by simp [hc])], by rw [e1, if_pos hF2], m1 hF2⟩
theorem suspects_ok {k : Kn} (hc : check k = 0) (hF : fin? (netM k []) 0 = false) : (suspectsM k).2 = 0 ∧ ∀ id ∈ (suspectsM k).1, (findM (withoutM k [id])).2 = 0 ∧ withoutE k [id] = (withoutM k [id], 0) := by
  have e : suspectsM k = (chosenM k (fun less => (aboveM (netM less []) 0 0).2), 0) := by
    unfold suspectsM
    rw [if_neg (by simp [hc]), if_neg]
    rw [above_eq]
    simp [hF]
  rw [e]
  refine ⟨rfl, fun id h => ?_⟩
  obtain ⟨_, h⟩ := (chosen_mem k (fun less => (aboveM (netM less []) 0 0).2) id).1 h
  have hc2 := check_without hc [id]
  refine ⟨?_, by rw [withoutE, if_neg (by simp [hc])]⟩
  unfold findM
  rw [if_neg (by simp [hc2]), if_pos]
  rw [above_eq] at h
  exact h
theorem chosen_len (k : Kn) (is : Kn → Bool) : (chosenM k is).length ≤ k.weighs.length := by
  rw [chosenM, sortM_len]
  refine Nat.le_trans (List.length_filter_le _ _) ?_
  simp
theorem sus_len (k : Kn) : (suspectsM k).1.length ≤ k.weighs.length := by
  unfold suspectsM
  split
  · simp
  · split
    · simp
    · exact chosen_len k (fun less => (aboveM (netM less []) 0 0).2)
theorem rests_len (k : Kn) (a b : Int) : (restsM k a b).1.length ≤ k.weighs.length := by
  unfold restsM
  split
  · simp
  · split
    · simp
    · exact chosen_len k (fun less => decide ((aboveM (netM less []) a b).1 ≠ (aboveM (netM k []) a b).1))
end Go.Shaft
/- True weights: what is told of loads and draws holds of them. -/
set_option linter.unusedVariables false
set_option linter.unusedSimpArgs false
namespace Go.Shaft
def inS (n : Int) (s : Sp) : Bool := decide (s.lo ≤ n ∧ n ≤ s.hi)
/-- The height of a mark, by weights. -/
def hgtM (k : Kn) (t : Tr) (m : Int) : Int := if m ≤ k.loads.length then pfx t.loads m.toNat else pfx t.draws (m - k.loads.length).toNat
theorem hgt_b {k : Kn} {t : Tr} (ht : TrOk k t) {m : Int} (h : m ≤ 60) : 0 ≤ hgtM k t m ∧ hgtM k t m ≤ 1006632960 := by
  unfold hgtM
  split
  · have := pfx_bound ht.l m.toNat; omega
  · have := pfx_bound ht.d (m - k.loads.length).toNat; omega
def takenM (k : Kn) (t : Tr) (j i : Int) : Int := mxI 0 (mnI (hgtM k t (i + 1)) (hgtM k t (k.loads.length + j + 1)) - mxI (hgtM k t i) (if 0 < j then hgtM k t (k.loads.length + j) else 0))
theorem tdiv_b {z d : Int} (d0 : 1 ≤ d) (z0 : -1125899906842624 ≤ z) (z1 : z ≤ 1125899906842624) : -1125899906842624 ≤ z.tdiv d ∧ z.tdiv d ≤ 1125899906842624 := by
  rcases Int.lt_or_le z 0 with h | h
  · obtain ⟨p, rfl⟩ : ∃ p, z = -p := ⟨-z, by omega⟩
    rw [Int.neg_tdiv, Int.tdiv_eq_ediv_of_nonneg (by omega)]
    have h1 := Int.ediv_le_self d (show 0 ≤ p by omega)
    have h2 := Int.ediv_nonneg (show 0 ≤ p by omega) (show 0 ≤ d by omega)
    omega
  · rw [Int.tdiv_eq_ediv_of_nonneg h]
    have h1 := Int.ediv_le_self d h
    have h2 := Int.ediv_nonneg h (show 0 ≤ d by omega)
    omega

theorem floor_eq (n d : Int) (d0 : 0 < d) : (if n.tmod d < 0 then n.tdiv d - 1 else n.tdiv d) = floorM n d := by
  unfold floorM
  rcases Int.lt_or_le n 0 with h | h
  · rw [if_pos h]
    obtain ⟨p, rfl⟩ : ∃ p, n = -p := ⟨-n, by omega⟩
    rw [Int.neg_tmod, Int.neg_tdiv, Int.neg_neg, Int.tmod_eq_emod_of_nonneg (by omega), Int.tdiv_eq_ediv_of_nonneg (by omega), Int.tdiv_eq_ediv_of_nonneg (by omega)]
    have h1 := Int.emod_nonneg p (show d ≠ 0 by omega)
    have h2 := Int.emod_lt_of_pos p d0
    have h3 := Int.emod_add_mul_ediv p d
    generalize hr : p % d = r at *
    generalize hq : p / d = q at *
    have h4 : (p + d - 1) / d = if r = 0 then q else q + 1 := by
      split
      · rename_i e
        rw [show p + d - 1 = (d - 1) + d * q by omega, Int.add_mul_ediv_left _ _ (by omega), Int.ediv_eq_zero_of_lt (by omega) (by omega)]
        omega
      · rename_i e
        rw [show p + d - 1 = (r - 1) + d * (q + 1) by rw [Int.mul_add]; omega, Int.add_mul_ediv_left _ _ (by omega), Int.ediv_eq_zero_of_lt (by omega) (by omega)]
        omega
    rw [h4]
    by_cases e : r = 0
    · rw [if_neg (by omega), if_pos e]
    · rw [if_pos (by omega), if_neg e]
      omega
  · rw [if_neg (by have := Int.tmod_nonneg d h; omega), if_neg (by omega)]
theorem hgt_rai {k : Kn} (r : Right k) (t : Tr) {v : Int} (v0 : 0 ≤ v) (v1 : v < marksM k) : gt (raisedM k t) v = hgtM k t v := by
  rw [gt_rai r t v0 v1, hgtM]
  split
  · rfl
  · congr 1
    omega
theorem find_id {l : List Ld} (hn : (l.map (·.id)).Nodup) {i : Nat} {x : Ld} (hx : l[i]? = some x) : find l x.id = i := by
  refine find_at hx rfl fun j y hj hy e => ?_
  have h1 : (l.map (·.id))[j]? = some x.id := by rw [List.getElem?_map, hy]; simp [e]
  have h2 : (l.map (·.id))[i]? = some x.id := by rw [List.getElem?_map, hx]; rfl
  have hjl := (List.getElem?_eq_some_iff.1 h1).1
  have hil := (List.getElem?_eq_some_iff.1 h2).1
  have := List.pairwise_iff_getElem.1 hn j i hjl hil hj
  rw [(List.getElem?_eq_some_iff.1 h1).2, (List.getElem?_eq_some_iff.1 h2).2] at this
  exact this rfl
theorem nodup_l {k : Kn} (o : Order k) : (k.loads.map (·.id)).Nodup := (List.nodup_append.1 o.ids).1
theorem nodup_d {k : Kn} (o : Order k) : (k.draws.map (·.id)).Nodup := (List.nodup_append.1 (List.nodup_append.1 o.ids).2.1).1
theorem not_load {k : Kn} (o : Order k) {x : Ld} (hx : x ∈ k.draws) : find k.loads x.id = -1 := by
  refine find_none fun j y hj hy e => ?_
  have h := (List.nodup_append.1 o.ids).2.2 y.id (List.mem_map_of_mem (List.mem_of_getElem? hy)) x.id (List.mem_append_left _ (List.mem_map_of_mem hx))
  exact h e
/-- What is told of two marks holds of true heights. -/
theorem between_in {k : Kn} (hc : check k = 0) {H : Int → Int} (f : Feas (netM k []) H) {a b : Int} (a0 : 0 ≤ a) (a1 : a < marksM k) (b0 : 0 ≤ b) (b1 : b < marksM k) : (betweenM k a b).2 = 0 ∧ inS (H b - H a) (betweenM k a b).1 = true := by
  have N := Net.base hc
  have h1 := N.le a0 a1 b0 b1 f
  have h2 := N.le b0 b1 a0 a1 f
  have hF := N.fin_of a0 a1 f
  unfold betweenM
  rw [above_eq, above_eq, if_pos hF]
  refine ⟨rfl, ?_⟩
  simp only [inS, decide_eq_true_eq]
  omega
theorem hgt_load {k : Kn} {t : Tr} {i : Nat} {n : Int} (hi : i < k.loads.length) (hn : t.loads[i]? = some n) : hgtM k t ((i : Int) + 1) - hgtM k t i = n := by
  unfold hgtM
  rw [if_pos (by omega), if_pos (by omega), show ((i : Int) + 1).toNat = i + 1 by omega, show ((i : Nat) : Int).toNat = i by omega, pfx_succ hn]
  omega
theorem hgt_drawn (k : Kn) (t : Tr) {j : Nat} : hgtM k t (drawnM k j) = pfx t.draws j := by
  unfold drawnM
  split
  · rename_i e
    obtain rfl : j = 0 := by omega
    unfold hgtM
    rw [if_pos (by omega)]
    simp
  · unfold hgtM
    rw [if_neg (by omega), show ((k.loads.length : Int) + (j : Int) - k.loads.length).toNat = j by omega]
theorem hgt_draw {k : Kn} {t : Tr} {j : Nat} {n : Int} (hn : t.draws[j]? = some n) : hgtM k t (drawnM k ((j : Int) + 1)) - hgtM k t (drawnM k j) = n := by
  have h1 := hgt_drawn k t (j := j + 1)
  have h2 := hgt_drawn k t (j := j)
  rw [show ((j : Int) + 1) = ((j + 1 : Nat) : Int) by push_cast; rfl, h1, h2, pfx_succ hn]
  omega
theorem run_load {k : Kn} (hc : check k = 0) {i : Nat} {x : Ld} (hx : k.loads[i]? = some x) : runM k x.id x.id = betweenM k i ((i : Int) + 1) := by
  have hf := find_id (nodup_l (order_of_check hc)) hx
  unfold runM
  rw [if_neg (by simp [hc])]
  have hr : reachM k x.id x.id = ((i : Int), (i : Int) + 1, true) := by
    unfold reachM
    rw [hf, if_pos (by omega)]
  have ho : orderedB k.loads x.id x.id = true := by
    simp only [orderedB, hf, decide_eq_true_eq]
    omega
  simp [hr, ho]
theorem run_draw {k : Kn} (hc : check k = 0) {j : Nat} {x : Ld} (hx : k.draws[j]? = some x) : runM k x.id x.id = betweenM k (drawnM k j) (drawnM k ((j : Int) + 1)) := by
  have o := order_of_check hc
  have hf := find_id (nodup_d o) hx
  have hn := not_load o (List.mem_of_getElem? hx)
  unfold runM
  rw [if_neg (by simp [hc])]
  have hr : reachM k x.id x.id = (drawnM k j, drawnM k ((j : Int) + 1), true) := by
    unfold reachM
    rw [hn, hf, if_neg (by omega)]
    have e : (if (j : Int) > 0 then (j : Int) else 0) = j := by split <;> omega
    rw [e]
    simp
  have ho : orderedB k.draws x.id x.id = true := by
    simp only [orderedB, hf, decide_eq_true_eq]
    omega
  simp [hr, ho]
end Go.Shaft
/- What a draw takes: least and most. -/
set_option linter.unusedVariables false
set_option linter.unusedSimpArgs false
namespace Go.Shaft
theorem great_congr {is is' : Int → Bool} : ∀ (f : Nat) (lo hi : Int), 0 ≤ lo → (∀ x, lo ≤ x → x ≤ hi → is x = is' x) → greatM is f lo hi = greatM is' f lo hi
  | 0, lo, hi, _, _ => rfl
  | f + 1, lo, hi, h0, h => by
    rw [greatM, greatM]
    by_cases hl : lo ≤ hi
    · rw [if_pos hl, if_pos hl]
      have hm := mid_in h0 hl
      rw [← h _ hm.1 hm.2]
      split
      · exact great_congr f _ _ (by omega) (fun x x0 x1 => h x (by omega) x1)
      · exact great_congr f _ _ h0 (fun x x0 x1 => h x x0 (by omega))
    · rw [if_neg hl, if_neg hl]
/-- It can be so much. -/
def canR (k : Kn) (o : Ov) (z : Int) : Bool := if z < 1 then true else if z ≤ 1048576 then canM k o z else false
theorem can_iff {k : Kn} (r : Right k) {o : Ov} (h : OvIn k o) {z : Int} (z0 : 0 ≤ z) (z1 : z ≤ 1048576) : canM k o z = true ↔ ∃ H, Feas (netM k (moreM o z)) H := by
  have N : Net k (moreM o z) := ⟨more_wf r h z0 z1⟩
  have n0 : (0 : Int) < marksM k := by have := N.wf.n0; rw [netn] at this; exact this
  exact N.fin_iff (a := 0) (by omega) n0
theorem feas_z {k : Kn} {o : Ov} {H : Int → Int} {z : Int} : Feas (netM k (moreM o z)) H ↔ Feas (netM k []) H ∧ ∀ p ∈ pairsL o, z ≤ H p.2 - H p.1 := by
  constructor
  · intro f
    refine ⟨fun t ht => f t ?_, fun p hp => ?_⟩
    · rw [links0] at ht
      exact List.mem_append_left _ ht
    · have := f ⟨p.2, p.1, -z, 0⟩ (List.mem_append_right _ (List.mem_map.2 ⟨p, hp, rfl⟩))
      simp only at this
      omega
  · rintro ⟨f, g⟩ t ht
    rcases List.mem_append.1 ht with ht | ht
    · exact f t (by rw [links0]; exact ht)
    · obtain ⟨p, hp, rfl⟩ := List.mem_map.1 ht
      have := g p hp
      simp only
      omega
theorem can_mono {k : Kn} (r : Right k) {o : Ov} (h : OvIn k o) : ∀ x y : Int, x ≤ y → canR k o y = true → canR k o x = true := by
  intro x y hxy hy
  unfold canR at hy ⊢
  by_cases h1 : x < 1
  · rw [if_pos h1]
  · rw [if_neg h1]
    rw [if_neg (by omega)] at hy
    by_cases h2 : y ≤ 1048576
    · rw [if_pos h2] at hy
      rw [if_pos (by omega)]
      obtain ⟨H, f⟩ := (can_iff r h (by omega) h2).1 hy
      obtain ⟨f1, f2⟩ := feas_z.1 f
      exact (can_iff r h (by omega) (by omega)).2 ⟨H, feas_z.2 ⟨f1, fun p hp => by have := f2 p hp; omega⟩⟩
    · rw [if_neg h2] at hy
      cases hy
theorem most_spec {k : Kn} (r : Right k) {o : Ov} (h : OvIn k o) {z : Int} (z1 : 1 ≤ z) (z2 : z ≤ 1048576) : (∃ H, Feas (netM k (moreM o z)) H) ↔ z ≤ mostN k o := by
  have e : mostN k o = greatM (canR k o) 1048577 1 1048576 := by
    unfold mostN
    exact great_congr _ _ _ (by omega) (fun x x0 x1 => by rw [canR, if_neg (by omega), if_pos x1])
  rw [e, ← great_spec (canR k o) (can_mono r h) 1048577 1 1048576 (by omega) (by omega) (by omega) z z1 z2, ← can_iff r h (by omega) z2, canR, if_neg (by omega), if_pos z2]
theorem least_fold {k : Kn} : ∀ (l : List (Int × Int)) (q : Int × Tr), ∃ r, l.foldl (stepL k) (some q) = some r ∧ r.1 ≤ q.1 ∧ (∀ p ∈ l, r.1 ≤ loOf k p) ∧ (r.1 = q.1 ∨ ∃ p ∈ l, r.1 = loOf k p)
  | [], q => ⟨q, rfl, Int.le_refl _, by simp, .inl rfl⟩
  | p :: l, q => by
    rw [List.foldl_cons]
    by_cases h : loOf k p < q.1
    · have e : stepL k (some q) p = some (loOf k p, weightsM k (settleM (netM k []) p.2).1) := if_pos h
      rw [e]
      obtain ⟨r, e1, h1, h2, h3⟩ := least_fold l (loOf k p, weightsM k (settleM (netM k []) p.2).1)
      refine ⟨r, e1, by simp only at h1; omega, ?_, ?_⟩
      · intro x hx
        rcases List.mem_cons.1 hx with rfl | hx
        · exact h1
        · exact h2 x hx
      · rcases h3 with h3 | ⟨x, hx, h3⟩
        · exact .inr ⟨p, List.mem_cons_self, h3⟩
        · exact .inr ⟨x, List.mem_cons_of_mem _ hx, h3⟩
    · have e : stepL k (some q) p = some q := if_neg h
      rw [e]
      obtain ⟨r, e1, h1, h2, h3⟩ := least_fold l q
      refine ⟨r, e1, h1, ?_, ?_⟩
      · intro x hx
        rcases List.mem_cons.1 hx with rfl | hx
        · omega
        · exact h2 x hx
      · rcases h3 with h3 | ⟨x, hx, h3⟩
        · exact .inl h3
        · exact .inr ⟨x, List.mem_cons_of_mem _ hx, h3⟩
theorem least_spec (k : Kn) (o : Ov) : (∀ p ∈ pairsL o, (leastM k o).1 ≤ loOf k p) ∧ ∃ p ∈ pairsL o, (leastM k o).1 = loOf k p := by
  unfold leastM
  rw [pairsL, List.foldl_cons]
  have e : stepL k none (o.a, o.b) = some (loOf k (o.a, o.b), weightsM k (settleM (netM k []) (o.a, o.b).2).1) := rfl
  rw [e]
  obtain ⟨r, e1, h1, h2, h3⟩ := least_fold (k := k) [(o.c, o.b), (o.a, o.d), (o.c, o.d)] (loOf k (o.a, o.b), weightsM k (settleM (netM k []) (o.a, o.b).2).1)
  rw [e1]
  refine ⟨?_, ?_⟩
  · intro p hp
    rcases List.mem_cons.1 hp with rfl | hp
    · exact h1
    · exact h2 p hp
  · rcases h3 with h3 | ⟨p, hp, h3⟩
    · exact ⟨_, List.mem_cons_self, h3⟩
    · exact ⟨p, List.mem_cons_of_mem _ hp, h3⟩
end Go.Shaft
/- What is told of what a draw takes holds of true weights. -/
set_option linter.unusedVariables false
set_option linter.unusedSimpArgs false
namespace Go.Shaft
def ovOf (k : Kn) (j i : Int) : Ov := ⟨i, i + 1, drawnM k j, drawnM k (j + 1)⟩
theorem takes_at {k : Kn} (hc : check k = 0) (hF : fin? (netM k []) 0 = true) {i j : Nat} {x y : Ld} (hx : k.loads[i]? = some x) (hy : k.draws[j]? = some y) : takesM k y.id x.id = (ovOf k j i, 0) := by
  have o := order_of_check hc
  have h1 := find_id (nodup_l o) hx
  have h2 := find_id (nodup_d o) hy
  unfold takesM
  rw [if_neg (by simp [hc]), h1, h2, if_neg (by omega), if_neg (by rw [above_eq]; simp [hF])]
  rfl
theorem taken_eq {k : Kn} {t : Tr} (ht : TrOk k t) {j i : Nat} (hj : j < k.draws.length) (hi : i < k.loads.length) : takenM k t j i = mxI 0 (mnI (hgtM k t ((i : Int) + 1)) (hgtM k t (drawnM k ((j : Int) + 1))) - mxI (hgtM k t i) (hgtM k t (drawnM k j))) := by
  have e1 : drawnM k ((j : Int) + 1) = k.loads.length + (j : Int) + 1 := by
    unfold drawnM
    rw [if_neg (by omega)]
    omega
  have e2 : hgtM k t (drawnM k j) = if 0 < (j : Int) then hgtM k t (k.loads.length + (j : Int)) else 0 := by
    unfold drawnM
    by_cases h : (j : Int) = 0
    · rw [if_pos h, if_neg (by omega), hgtM, if_pos (by omega)]
      simp
    · rw [if_neg h, if_pos (by omega)]
  rw [takenM, e1, e2]
theorem ov_in {k : Kn} {j i : Nat} (hj : j < k.draws.length) (hi : i < k.loads.length) : OvIn k (ovOf k j i) := by
  have hm : (marksM k : Int) = 1 + k.loads.length + k.draws.length := by simp [marksM]
  have d1 := drawn_in (k := k) (a := (j : Int)) (by omega) (by omega)
  have d2 := drawn_in (k := k) (a := (j : Int) + 1) (by omega) (by omega)
  refine ⟨?_, ?_, ?_, ?_, ?_, ?_, ?_, ?_⟩ <;> simp only [ovOf] <;> omega
/-- What a draw takes lies within what is told. -/
theorem took_in {k : Kn} (hc : check k = 0) {t : Tr} (ht : TrOk k t) (f : Feas (netM k []) (gt (raisedM k t))) {i j : Nat} {x y : Ld} (hx : k.loads[i]? = some x) (hy : k.draws[j]? = some y) : (tookM k y.id x.id).2 = 0 ∧ inS (takenM k t j i) (tookM k y.id x.id).1 = true := by
  have N := Net.base hc
  have r := right_of_check hc
  have n0 : (0 : Int) < marksM k := by have := N.wf.n0; rw [netn] at this; exact this
  have hF := N.fin_of (a := 0) (by omega) n0 f
  have hil := (List.getElem?_eq_some_iff.1 hx).1
  have hjl := (List.getElem?_eq_some_iff.1 hy).1
  have hin := ov_in (k := k) hjl hil
  have hH : ∀ v : Int, 0 ≤ v → v < marksM k → gt (raisedM k t) v = hgtM k t v := fun v v0 v1 => hgt_rai r t v0 v1
  have e : tookM k y.id x.id = (⟨(leastM k (ovOf k j i)).1, (mostM k (ovOf k j i)).1⟩, 0) := by
    unfold tookM
    rw [takes_at hc hF hx hy]
    rw [if_neg (by simp)]
  have hT := taken_eq ht hjl hil
  have ga : gt (raisedM k t) (ovOf k j i).a = hgtM k t i := hH _ hin.a0 hin.a1
  have gb : gt (raisedM k t) (ovOf k j i).b = hgtM k t ((i : Int) + 1) := hH _ hin.b0 hin.b1
  have gc : gt (raisedM k t) (ovOf k j i).c = hgtM k t (drawnM k j) := hH _ hin.c0 hin.c1
  have gd : gt (raisedM k t) (ovOf k j i).d = hgtM k t (drawnM k ((j : Int) + 1)) := hH _ hin.d0 hin.d1
  have hlo : ∀ p ∈ pairsL (ovOf k j i), loOf k p ≤ mxI 0 (gt (raisedM k t) p.2 - gt (raisedM k t) p.1) := by
    intro p hp
    obtain ⟨q0, q1, q2, q3⟩ := pairs_in hin p hp
    have h1 := N.le q2 q3 q0 q1 f
    have h2 : loOf k p = mxI 0 (-dst (netM k []) p.2 p.1) := rfl
    rw [h2]
    unfold mxI
    split <;> split <;> omega
  obtain ⟨hl, _⟩ := least_spec k (ovOf k j i)
  have mem : ∀ p, p ∈ pairsL (ovOf k j i) ↔ p = ((ovOf k j i).a, (ovOf k j i).b) ∨ p = ((ovOf k j i).c, (ovOf k j i).b) ∨ p = ((ovOf k j i).a, (ovOf k j i).d) ∨ p = ((ovOf k j i).c, (ovOf k j i).d) := by
    intro p
    simp [pairsL]
  have l1 := Int.le_trans (hl _ ((mem _).2 (.inl rfl))) (hlo _ ((mem _).2 (.inl rfl)))
  have l2 := Int.le_trans (hl _ ((mem _).2 (.inr (.inl rfl)))) (hlo _ ((mem _).2 (.inr (.inl rfl))))
  have l3 := Int.le_trans (hl _ ((mem _).2 (.inr (.inr (.inl rfl))))) (hlo _ ((mem _).2 (.inr (.inr (.inl rfl)))))
  have l4 := Int.le_trans (hl _ ((mem _).2 (.inr (.inr (.inr rfl))))) (hlo _ ((mem _).2 (.inr (.inr (.inr rfl)))))
  simp only [ga, gb, gc, gd] at l1 l2 l3 l4
  have hw := load_in f hx
  have hr := r.l x (List.mem_of_getElem? hx)
  have ha := hH i (by omega) (by have := hin.a1; exact this)
  have hb := hH ((i : Int) + 1) (by omega) (by have := hin.b1; exact this)
  rw [ha, hb] at hw
  have hmost : takenM k t j i ≤ (mostM k (ovOf k j i)).1 := by
    have hmm : (mostM k (ovOf k j i)).1 = mostN k (ovOf k j i) ∨ (mostM k (ovOf k j i)).1 = 0 ∧ mostN k (ovOf k j i) < 1 := by
      unfold mostM
      split
      · rename_i h; exact .inr ⟨rfl, h⟩
      · exact .inl rfl
    have hn := mostN_in k (ovOf k j i)
    by_cases hz : 1 ≤ takenM k t j i
    · have h1 : ∀ p ∈ pairsL (ovOf k j i), takenM k t j i ≤ gt (raisedM k t) p.2 - gt (raisedM k t) p.1 := by
        intro p hp
        rcases (mem p).1 hp with rfl | rfl | rfl | rfl <;> simp only [ga, gb, gc, gd] <;> rw [hT] at hz ⊢ <;> unfold mxI mnI at hz ⊢ <;> (repeat' split at hz) <;> (repeat' split) <;> omega
      have h2 : takenM k t j i ≤ 1048576 := by
        have := h1 _ ((mem _).2 (.inl rfl))
        simp only [ga, gb] at this
        omega
      have := (most_spec r hin hz h2).1 ⟨_, feas_z.2 ⟨f, h1⟩⟩
      omega
    · omega
  rw [e]
  refine ⟨rfl, ?_⟩
  simp only [inS, decide_eq_true_eq]
  refine ⟨?_, hmost⟩
  rw [hT]
  unfold mxI mnI at *
  (repeat' split at l1) <;> (repeat' split at l2) <;> (repeat' split at l3) <;> (repeat' split at l4) <;> (repeat' split) <;> omega
end Go.Shaft
/- True weights: hours, feet, and what is taken together. -/
set_option linter.unusedVariables false
set_option linter.unusedSimpArgs false
namespace Go.Shaft
theorem pfx_step {l : List Int} (h : ∀ n ∈ l, 0 ≤ n ∧ n ≤ 16777216) (i : Nat) : pfx l i ≤ pfx l (i + 1) := by
  cases e : l[i]? with
  | some n =>
    rw [pfx_succ e]
    have := h n (List.mem_of_getElem? e)
    omega
  | none =>
    have : l.length ≤ i := List.getElem?_eq_none_iff.1 e
    unfold pfx
    rw [List.take_of_length_le this, List.take_of_length_le (by omega)]
    omega
theorem pfx_mono {l : List Int} (h : ∀ n ∈ l, 0 ≤ n ∧ n ≤ 16777216) (i : Nat) : ∀ d : Nat, pfx l i ≤ pfx l (i + d)
  | 0 => Int.le_refl _
  | d + 1 => Int.le_trans (pfx_mono h i d) (pfx_step h (i + d))
theorem floor_ediv (n d : Int) (d0 : 0 < d) : floorM n d = n / d := by
  unfold floorM
  split
  · rename_i h
    obtain ⟨p, rfl⟩ : ∃ p, n = -p := ⟨-n, by omega⟩
    rw [Int.neg_neg, Int.tdiv_eq_ediv_of_nonneg (by omega)]
    have h2 := Int.emod_lt_of_pos (p + d - 1) d0
    have h1 := Int.emod_nonneg (p + d - 1) (show d ≠ 0 by omega)
    have h3 := Int.emod_add_mul_ediv (p + d - 1) d
    generalize (p + d - 1) / d = q at *
    generalize (p + d - 1) % d = r at *
    rw [show -p = (d - 1 - r) + d * (-q) by rw [Int.mul_neg]; omega, Int.add_mul_ediv_left _ _ (by omega), Int.ediv_eq_zero_of_lt (by omega) (by omega)]
    omega
  · rw [Int.tdiv_eq_ediv_of_nonneg (by omega)]
theorem floor_mono {a b d : Int} (d0 : 0 < d) (h : a ≤ b) : floorM a d ≤ floorM b d := by
  rw [floor_ediv _ _ d0, floor_ediv _ _ d0]
  exact Int.ediv_le_ediv d0 h
def cutN (n m : Nat) : Nat := if n ≤ m then n else m
theorem cut_all {n m : Nat} (h : m ≤ n) : cutN n m = m := by unfold cutN; split <;> omega
theorem cut_yes {l : List Ld} (hp : l.Pairwise (fun x y => x.hour ≤ y.hour)) {at_ : Int} {n : Nat} {v : Ld} (hv : l[n]? = some v) (h : v.hour ≤ at_) : cutN (n + 1) (byHr l at_) = n + 1 := by
  have := (byHr_sorted hp at_ n v hv).1 h
  unfold cutN
  rw [if_pos (by omega)]
theorem cut_no {l : List Ld} (hp : l.Pairwise (fun x y => x.hour ≤ y.hour)) {at_ : Int} {n : Nat} {v : Ld} (hv : l[n]? = some v) (h : ¬ v.hour ≤ at_) : cutN (n + 1) (byHr l at_) = cutN n (byHr l at_) := by
  have : ¬ n < byHr l at_ := fun h' => h ((byHr_sorted hp at_ n v hv).2 h')
  unfold cutN
  split <;> split <;> omega
theorem cut_zero (m : Nat) : cutN 0 m = 0 := rfl
theorem cut_le (n m : Nat) : cutN n m ≤ n := by unfold cutN; split <;> omega
theorem hgt_zero (k : Kn) (t : Tr) : hgtM k t 0 = 0 := by
  unfold hgtM
  rw [if_pos (by omega)]
  simp
theorem hgt_ld {k : Kn} (t : Tr) {i : Nat} (h : i ≤ k.loads.length) : hgtM k t i = pfx t.loads i := by
  unfold hgtM
  rw [if_pos (by omega)]
  rfl
theorem hgt_dr (k : Kn) (t : Tr) (j : Nat) : hgtM k t ((k.loads.length : Int) + j + 1) = pfx t.draws (j + 1) := by
  have := hgt_drawn k t (j := j + 1)
  rw [← this]
  unfold drawnM
  rw [if_neg (by omega)]
  congr 1
/-- What all draws take of a load: the first so many. -/
def allM (k : Kn) (t : Tr) (i m : Nat) : Int := mxI 0 (mnI (pfx t.loads (i + 1)) (pfx t.draws m) - pfx t.loads i)
/-- What a draw takes of all loads: the first so many. -/
def mineM (k : Kn) (t : Tr) (j m : Nat) : Int := mxI 0 (mnI (pfx t.draws (j + 1)) (pfx t.loads m) - pfx t.draws j)
theorem taken_pfx {k : Kn} {t : Tr} (ht : TrOk k t) {j i : Nat} (hj : j < k.draws.length) (hi : i < k.loads.length) : takenM k t j i = mxI 0 (mnI (pfx t.loads (i + 1)) (pfx t.draws (j + 1)) - mxI (pfx t.loads i) (pfx t.draws j)) := by
  have e1 := hgt_ld t (k := k) (i := i) (by omega)
  have e2 := hgt_ld t (k := k) (i := i + 1) (by omega)
  have e3 := hgt_drawn k t (j := j)
  have e4 := hgt_drawn k t (j := j + 1)
  rw [taken_eq ht hj hi, ← e1, ← e3, ← e2, ← e4]
  push_cast
  rfl
theorem all_zero (k : Kn) {t : Tr} (ht : TrOk k t) (i : Nat) : allM k t i 0 = 0 := by
  have h1 := pfx_bound ht.l i
  have h2 := pfx_bound ht.l (i + 1)
  unfold allM mxI mnI
  rw [pfx_zero]
  split <;> split <;> omega
theorem all_step {k : Kn} {t : Tr} (ht : TrOk k t) {j i : Nat} (hj : j < k.draws.length) (hi : i < k.loads.length) : allM k t i j + takenM k t j i = allM k t i (j + 1) := by
  rw [taken_pfx ht hj hi]
  have h1 := pfx_step ht.l i
  have h2 := pfx_step ht.d j
  have h3 := pfx_bound ht.l i
  have h4 := pfx_bound ht.d j
  unfold allM mxI mnI
  (repeat' split) <;> omega
theorem all_b {k : Kn} {t : Tr} (ht : TrOk k t) {i : Nat} {n : Int} (hn : t.loads[i]? = some n) (m : Nat) : 0 ≤ allM k t i m ∧ allM k t i m ≤ n := by
  have e := pfx_succ hn
  have h := ht.l n (List.mem_of_getElem? hn)
  unfold allM mxI mnI
  (repeat' split) <;> omega
theorem mine_zero (k : Kn) {t : Tr} (ht : TrOk k t) (j : Nat) : mineM k t j 0 = 0 := by
  have h1 := pfx_bound ht.d j
  have h2 := pfx_bound ht.d (j + 1)
  unfold mineM mxI mnI
  rw [pfx_zero]
  split <;> split <;> omega
theorem mine_step {k : Kn} {t : Tr} (ht : TrOk k t) {j i : Nat} (hj : j < k.draws.length) (hi : i < k.loads.length) : mineM k t j i + takenM k t j i = mineM k t j (i + 1) := by
  rw [taken_pfx ht hj hi]
  have h1 := pfx_step ht.l i
  have h2 := pfx_step ht.d j
  have h3 := pfx_bound ht.l i
  have h4 := pfx_bound ht.d j
  unfold mineM mxI mnI
  (repeat' split) <;> omega
theorem mine_b {k : Kn} {t : Tr} (ht : TrOk k t) {j : Nat} {n : Int} (hn : t.draws[j]? = some n) (m : Nat) : 0 ≤ mineM k t j m ∧ mineM k t j m ≤ n := by
  have e := pfx_succ hn
  have h := ht.d n (List.mem_of_getElem? hn)
  unfold mineM mxI mnI
  (repeat' split) <;> omega
/-- A draw is of loads that are charged. -/
theorem mine_all {k : Kn} (r : Right k) {t : Tr} (ht : TrOk k t) (f : Feas (netM k []) (gt (raisedM k t))) {j : Nat} {y : Ld} {n : Int} (hy : k.draws[j]? = some y) (hn : t.draws[j]? = some n) : mineM k t j k.loads.length = n := by
  have hj := (List.getElem?_eq_some_iff.1 hy).1
  have h1 := f _ (tie_mem (more := []) (tie4 hy))
  have hb := byHr_le k.loads y.hour
  have hm : (marksM k : Int) = 1 + k.loads.length + k.draws.length := by simp [marksM]
  have d1 := drawn_in (k := k) (a := (j : Int) + 1) (by omega) (by omega)
  simp only at h1
  rw [hgt_rai r t (by omega) (by omega), hgt_rai r t (by omega) (by omega), hgt_ld t hb] at h1
  have e4 := hgt_drawn k t (j := j + 1)
  rw [show ((j : Int) + 1) = ((j + 1 : Nat) : Int) by push_cast; rfl, e4] at h1
  have hmo := pfx_mono ht.l (byHr k.loads y.hour) (k.loads.length - byHr k.loads y.hour)
  rw [show byHr k.loads y.hour + (k.loads.length - byHr k.loads y.hour) = k.loads.length by omega] at hmo
  have e := pfx_succ hn
  have h := ht.d n (List.mem_of_getElem? hn)
  unfold mineM mxI mnI
  (repeat' split) <;> omega
theorem timed_ok {k : Kn} (hc : check k = 0) {h : Int} (h0 : 0 ≤ h) (h1 : h ≤ 16384) : timedM k h = 0 := by
  unfold timedM
  rw [if_neg (by simp [hc]), if_pos (by simp [inB]; omega)]
/-- What is held, truly. -/
theorem held_in {k : Kn} (hc : check k = 0) {t : Tr} (f : Feas (netM k []) (gt (raisedM k t))) {h : Int} (h0 : 0 ≤ h) (h1 : h ≤ 16384) : (heldM k h).2 = 0 ∧ inS (hgtM k t (byHr k.loads h) - pfx t.draws (byHr k.draws h)) (heldM k h).1 = true := by
  have r := right_of_check hc
  have hb := byHr_le k.loads h
  have hd := byHr_le k.draws h
  have hm : (marksM k : Int) = 1 + k.loads.length + k.draws.length := by simp [marksM]
  have d1 := drawn_in (k := k) (a := (byHr k.draws h : Int)) (by omega) (by omega)
  unfold heldM
  rw [timed_ok hc h0 h1, if_neg (by simp)]
  have := between_in hc f (a := drawnM k (byHr k.draws h)) (b := byHr k.loads h) (by omega) (by omega) (by omega) (by omega)
  rw [hgt_rai r t (by omega) (by omega), hgt_rai r t (by omega) (by omega), hgt_drawn] at this
  exact this
/-- Where a load lies, truly. -/
theorem below_in {k : Kn} (hc : check k = 0) {t : Tr} (f : Feas (netM k []) (gt (raisedM k t))) {h : Int} (h0 : 0 ≤ h) (h1 : h ≤ 16384) {i : Nat} {x : Ld} (hx : k.loads[i]? = some x) :
    (x.hour ≤ h ∧ (belowM k x.id h).2 = 0 ∧ (feetM k x.id h).2 = 0 ∧ inS (hgtM k t i - pfx t.draws (byHr k.draws h)) (belowM k x.id h).1 = true ∧ inS (floorM (hgtM k t i - pfx t.draws (byHr k.draws h)) k.per) (feetM k x.id h).1 = true) ∨
    (h < x.hour ∧ (belowM k x.id h).2 = 1 ∧ (feetM k x.id h).2 = 1) := by
  have r := right_of_check hc
  have hil := (List.getElem?_eq_some_iff.1 hx).1
  have hf := find_id (nodup_l (order_of_check hc)) hx
  have hd := byHr_le k.draws h
  have hm : (marksM k : Int) = 1 + k.loads.length + k.draws.length := by simp [marksM]
  have d1 := drawn_in (k := k) (a := (byHr k.draws h : Int)) (by omega) (by omega)
  have hg : k.loads.getD (find k.loads x.id).toNat default = x := by rw [hf, List.getD, show ((i : Int)).toNat = i by omega, hx]; rfl
  have hb : belowM k x.id h = if x.hour > h then (zSp, 1) else betweenM k (drawnM k (byHr k.draws h)) i := by
    unfold belowM
    rw [timed_ok hc h0 h1, if_neg (by simp), if_neg (by omega), hg, hf]
  by_cases hh : x.hour > h
  · right
    rw [if_pos hh] at hb
    refine ⟨hh, by rw [hb], ?_⟩
    unfold feetM
    rw [hb]
    simp
  · left
    rw [if_neg hh] at hb
    have := between_in hc f (a := drawnM k (byHr k.draws h)) (b := i) (by omega) (by omega) (by omega) (by omega)
    rw [hgt_rai r t (by omega) (by omega), hgt_rai r t (by omega) (by omega), hgt_drawn, ← hb] at this
    refine ⟨by omega, this.1, ?_, this.2, ?_⟩
    · unfold feetM
      rw [if_neg (by rw [this.1]; simp)]
    · unfold feetM
      rw [if_neg (by rw [this.1]; simp)]
      have h2 := this.2
      simp only [inS, decide_eq_true_eq] at h2 ⊢
      have hp := r.per
      exact ⟨floor_mono (by omega) h2.1, floor_mono (by omega) h2.2⟩
theorem hgt_cut_b {k : Kn} {t : Tr} (ht : TrOk k t) (hl : k.loads.length ≤ 20) (hd : k.draws.length ≤ 20) (n m : Nat) : 0 ≤ pfx t.loads (cutN n m) ∧ 0 ≤ pfx t.draws (cutN n m) := ⟨(pfx_bound ht.l _).1, (pfx_bound ht.d _).1⟩
end Go.Shaft
/- What a draw takes of all loads together; those between two sure ones. -/
set_option linter.unusedVariables false
set_option linter.unusedSimpArgs false
namespace Go.Shaft
/-- Heights of loads do not fall. -/
theorem load_mono {k : Kn} (r : Right k) {H : Int → Int} (f : Feas (netM k []) H) (i : Nat) : ∀ d : Nat, i + d ≤ k.loads.length → H i ≤ H ((i + d : Nat) : Int)
  | 0, _ => Int.le_refl _
  | d + 1, h => by
    have ih := load_mono r f i d (by omega)
    obtain ⟨x, hx⟩ : ∃ x, k.loads[i + d]? = some x := ⟨_, List.getElem?_eq_getElem (by omega)⟩
    have h1 := load_in f hx
    have h2 := r.l x (List.mem_of_getElem? hx)
    have e : ((i + d : Nat) : Int) + 1 = ((i + (d + 1) : Nat) : Int) := by push_cast; omega
    rw [e] at h1
    omega
theorem load_le {k : Kn} (r : Right k) {H : Int → Int} (f : Feas (netM k []) H) {i j : Nat} (hij : i ≤ j) (hj : j ≤ k.loads.length) : H i ≤ H j := by
  have := load_mono r f i (j - i) (by omega)
  rw [show i + (j - i) = j by omega] at this
  exact this
/-- Nothing is taken of a load that is charged later. -/
theorem most_late {k : Kn} (hc : check k = 0) {i j : Nat} {x y : Ld} (hx : k.loads[i]? = some x) (hy : k.draws[j]? = some y) (h : y.hour < x.hour) : mostN k (ovOf k j i) ≤ 0 := by
  have r := right_of_check hc
  have hil := (List.getElem?_eq_some_iff.1 hx).1
  have hjl := (List.getElem?_eq_some_iff.1 hy).1
  have hin := ov_in (k := k) hjl hil
  have hn := mostN_in k (ovOf k j i)
  rcases Int.lt_or_le 0 (mostN k (ovOf k j i)) with h0 | h0
  · obtain ⟨H, fH⟩ := (most_spec r hin (z := mostN k (ovOf k j i)) (by omega) (by omega)).2 (Int.le_refl _)
    obtain ⟨f, g⟩ := feas_z.1 fH
    have h1 : mostN k (ovOf k j i) ≤ H (drawnM k ((j : Int) + 1)) - H i := g ((ovOf k j i).a, (ovOf k j i).d) (by simp [pairsL])
    have h2 := f _ (tie_mem (more := []) (tie4 hy))
    simp only at h2
    have h3 : byHr k.loads y.hour ≤ i := by
      rcases Nat.lt_or_ge i (byHr k.loads y.hour) with h' | h'
      · have := (byHr_sorted (order_of_check hc).l y.hour i x hx).2 h'
        omega
      · exact h'
    have h4 := load_le r f h3 (by omega)
    omega
  · exact h0
theorem took_ok {k : Kn} (hc : check k = 0) (hF : fin? (netM k []) 0 = true) {i j : Nat} {x y : Ld} (hx : k.loads[i]? = some x) (hy : k.draws[j]? = some y) : tookM k y.id x.id = (⟨(leastM k (ovOf k j i)).1, (mostM k (ovOf k j i)).1⟩, 0) := by
  unfold tookM
  rw [takes_at hc hF hx hy]
  rw [if_neg (by simp)]
theorem most_fst (k : Kn) (o : Ov) : (mostM k o).1 = mostN k o := by
  have := mostN_in k o
  unfold mostM
  split
  · simp only; omega
  · rfl
/-- Surely something is taken exactly if all four differences are surely more than nothing. -/
theorem least_pos (k : Kn) (o : Ov) : 0 < (leastM k o).1 ↔ ∀ p ∈ pairsL o, dst (netM k []) p.2 p.1 < 0 := by
  obtain ⟨h1, p, hp, h2⟩ := least_spec k o
  have e : ∀ p, loOf k p = mxI 0 (-dst (netM k []) p.2 p.1) := fun _ => rfl
  constructor
  · intro h q hq
    have := h1 q hq
    rw [e] at this
    unfold mxI at this
    split at this <;> omega
  · intro h
    rw [h2, e]
    have := h p hp
    unfold mxI
    split <;> omega
theorem least_b {k : Kn} (r : Right k) (N : Net k []) (hF : fin? (netM k []) 0 = true) {o : Ov} (hin : OvIn k o) : 0 ≤ (leastM k o).1 := by
  obtain ⟨h1, p, hp, h2⟩ := least_spec k o
  have e : ∀ p, loOf k p = mxI 0 (-dst (netM k []) p.2 p.1) := fun _ => rfl
  rw [h2, e]
  unfold mxI
  split <;> omega
theorem dst_down {k : Kn} (r : Right k) (N : Net k []) (hF : fin? (netM k []) 0 = true) {i j : Nat} (hij : i ≤ j) (hj : j ≤ k.loads.length) : dst (netM k []) j i ≤ 0 := by
  have hm : (marksM k : Int) = 1 + k.loads.length + k.draws.length := by simp [marksM]
  have hFj : fin? (netM k []) j = true := by rw [N.same (a := (j : Int)) (b := 0) (by omega) (by omega) (by omega) (by omega)]; exact hF
  have f := N.feas (a := (j : Int)) (by omega) (by omega) hFj
  have h0 := N.zero (a := (j : Int)) (by omega) (by omega) hFj
  have := load_le r f hij hj
  omega
/-- A load between two sure ones that surely weighs something is sure. -/
theorem sure_between {k : Kn} (hc : check k = 0) (hF : fin? (netM k []) 0 = true) {a i b j : Nat} (hj : j < k.draws.length) (hai : a ≤ i) (hib : i ≤ b) (hb : b < k.loads.length)
    (h1 : 0 < (leastM k (ovOf k j a)).1) (h2 : 0 < (leastM k (ovOf k j b)).1) (h3 : 0 < (betweenM k i ((i : Int) + 1)).1.lo) : 0 < (leastM k (ovOf k j i)).1 := by
  have r := right_of_check hc
  have N := Net.base hc
  have hm : (marksM k : Int) = 1 + k.loads.length + k.draws.length := by simp [marksM]
  have d1 := drawn_in (k := k) (a := (j : Int)) (by omega) (by omega)
  have d2 := drawn_in (k := k) (a := (j : Int) + 1) (by omega) (by omega)
  have fin : ∀ v : Int, 0 ≤ v → v < marksM k → fin? (netM k []) v = true := fun v v0 v1 => by rw [N.same v0 v1 (b := 0) (by omega) (by omega)]; exact hF
  rw [least_pos] at h1 h2 ⊢
  have g1 := h1 ((ovOf k j a).c, (ovOf k j a).b) (by simp [pairsL])
  have g2 := h1 ((ovOf k j a).c, (ovOf k j a).d) (by simp [pairsL])
  have g3 := h2 ((ovOf k j b).a, (ovOf k j b).d) (by simp [pairsL])
  simp only [ovOf] at g1 g2 g3
  have e3 : 0 < -dst (netM k []) ((i : Int) + 1) i := by
    unfold betweenM at h3
    rw [above_eq, above_eq] at h3
    simp only [fin i (by omega) (by omega), if_true] at h3
    exact h3
  have t1 := N.tri (a := (i : Int) + 1) (b := (a : Int) + 1) (c := drawnM k j) (by omega) (by omega) (by omega) (by omega) (by omega) (by omega) (fin _ (by omega) (by omega))
  have t2 := N.tri (a := drawnM k ((j : Int) + 1)) (b := (b : Int)) (c := (i : Int)) (by omega) (by omega) (by omega) (by omega) (by omega) (by omega) (fin _ (by omega) (by omega))
  have u1 := dst_down r N hF (i := a + 1) (j := i + 1) (by omega) (by omega)
  have u2 := dst_down r N hF (i := i) (j := b) hib (by omega)
  push_cast at u1
  intro p hp
  simp only [pairsL, List.mem_cons, List.not_mem_nil, or_false, ovOf] at hp
  rcases hp with rfl | rfl | rfl | rfl <;> simp only <;> omega
/-- A kiln that is not contradicted has true weights. -/
theorem some_true {k : Kn} (hc : check k = 0) (hF : fin? (netM k []) 0 = true) : ∃ t, TrOk k t ∧ Feas (netM k []) (gt (raisedM k t)) := by
  have r := right_of_check hc
  have N := Net.base hc
  have n0 : (0 : Int) < marksM k := by have := N.wf.n0; rw [netn] at this; exact this
  have f := N.feas (a := 0) (by omega) n0 hF
  exact ⟨weightsM k (settleM (netM k []) 0).1, weights_ok r f, feas_raised r f⟩
theorem there_iff {k : Kn} (hc : check k = 0) {j : Nat} {y : Ld} (hy : k.draws[j]? = some y) : thereM k (decide (0 ≤ find k.draws y.id)) = if fin? (netM k []) 0 then 0 else 9 := by
  have h2 := find_id (nodup_d (order_of_check hc)) hy
  unfold thereM
  rw [if_neg (by simp [hc]), h2, if_neg (by simp), above_eq]
  cases fin? (netM k []) 0 <;> simp
theorem sources_eq {k : Kn} (hc : check k = 0) {j : Nat} {y : Ld} (hy : k.draws[j]? = some y) (hF : fin? (netM k []) 0 = true) : sourcesM k y.id = ((sortedM k.loads (fun i => (tookM k y.id i).1)).1, (sortedM k.loads (fun i => (tookM k y.id i).1)).2, 0) := by
  unfold sourcesM
  rw [there_iff hc hy, hF, if_neg (by simp)]
theorem sources_err {k : Kn} (hc : check k = 0) {j : Nat} {y : Ld} (hy : k.draws[j]? = some y) (hF : fin? (netM k []) 0 = false) : sourcesM k y.id = ([], [], 9) := by
  unfold sourcesM
  rw [there_iff hc hy, hF]
  simp
theorem sources_bad {k : Kn} (hc : check k ≠ 0) (d : Int) : (sourcesM k d).2.2 = check k := by
  have e : thereM k (decide (0 ≤ find k.draws d)) = check k := by unfold thereM; rw [if_pos hc]
  unfold sourcesM
  rw [e, if_pos hc]
theorem run_bad {k : Kn} (hc : check k ≠ 0) (a b : Int) : (runM k a b).2 = check k := by
  unfold runM
  rw [if_pos hc]
theorem run_draw_err {k : Kn} (hc : check k = 0) {j : Nat} {y : Ld} (hy : k.draws[j]? = some y) : (runM k y.id y.id).2 = if fin? (netM k []) 0 then 0 else 9 := by
  have N := Net.base hc
  have hjl := (List.getElem?_eq_some_iff.1 hy).1
  have hm : (marksM k : Int) = 1 + k.loads.length + k.draws.length := by simp [marksM]
  have d1 := drawn_in (k := k) (a := (j : Int)) (by omega) (by omega)
  rw [run_draw hc hy]
  unfold betweenM
  rw [above_eq, above_eq, N.same d1.1 d1.2 (b := 0) (by omega) (by omega)]
  cases fin? (netM k []) 0 <;> rfl
theorem run_load_err {k : Kn} (hc : check k = 0) {i : Nat} {x : Ld} (hx : k.loads[i]? = some x) (hF : fin? (netM k []) 0 = true) : (runM k x.id x.id).2 = 0 := by
  have N := Net.base hc
  have hil := (List.getElem?_eq_some_iff.1 hx).1
  have hm : (marksM k : Int) = 1 + k.loads.length + k.draws.length := by simp [marksM]
  rw [run_load hc hx]
  unfold betweenM
  rw [above_eq, above_eq, N.same (a := (i : Int)) (by omega) (by omega) (b := 0) (by omega) (by omega), hF]
  rfl
theorem sorted_fst {l : List Ld} {took : Int → Sp} {x : Ld} (hx : x ∈ l) : decide (x.id ∈ (sortedM l took).1) = decide (0 < (took x.id).lo) := by
  simp only [sortedM, List.mem_filter, List.mem_map, decide_eq_decide, decide_eq_true_eq]
  exact ⟨fun h => h.2, fun h => ⟨⟨x, hx, rfl⟩, h⟩⟩
theorem sorted_snd {l : List Ld} {took : Int → Sp} {x : Ld} (hx : x ∈ l) : decide (x.id ∈ (sortedM l took).2) = decide (0 < (took x.id).hi) := by
  simp only [sortedM, List.mem_filter, List.mem_map, decide_eq_decide, decide_eq_true_eq]
  exact ⟨fun h => h.2, fun h => ⟨⟨x, hx, rfl⟩, h⟩⟩
theorem sorted_len (l : List Ld) (took : Int → Sp) : (sortedM l took).1.length ≤ l.length ∧ (sortedM l took).2.length ≤ l.length := by
  have h1 := List.length_filter_le (fun i => decide (0 < (took i).lo)) (l.map (·.id))
  have h2 := List.length_filter_le (fun i => decide (0 < (took i).hi)) (l.map (·.id))
  simp only [List.length_map] at h1 h2
  exact ⟨h1, h2⟩
end Go.Shaft
/- What a draw takes of the loads in turn: sums, and the first and the last sure one. -/
set_option linter.unusedVariables false
set_option linter.unusedSimpArgs false
namespace Go.Shaft
def loN (k : Kn) (j i : Nat) : Int := (leastM k (ovOf k j i)).1
def ShI (k : Kn) (t : Tr) (j i : Nat) (l m f la : Int) : Prop :=
  0 ≤ l ∧ l ≤ mineM k t j i ∧ mineM k t j i ≤ m ∧ m ≤ 1048576 * i ∧ ((f = -1 ∧ la = -1) ∨ ∃ a b : Nat, f = a ∧ la = b ∧ a ≤ b ∧ b < i ∧ 0 < loN k j a ∧ 0 < loN k j b)
theorem ShI.zero (k : Kn) {t : Tr} (ht : TrOk k t) (j : Nat) : ShI k t j 0 0 0 (-1) (-1) := by
  have := mine_zero k ht j
  exact ⟨by omega, by omega, by omega, by omega, .inl ⟨rfl, rfl⟩⟩
structure Sh1 (k : Kn) (t : Tr) (j i : Nat) (x y : Ld) (q : Sp) : Prop where
  took : tookM k y.id x.id = (q, 0)
  lo : q.lo = loN k j i
  l0 : 0 ≤ q.lo
  l1 : q.lo ≤ takenM k t j i
  h0 : takenM k t j i ≤ q.hi
  h1 : q.hi ≤ 1048576
  late : y.hour < x.hour → ¬ 0 < q.hi
theorem sh1 {k : Kn} (hc : check k = 0) {t : Tr} (ht : TrOk k t) (f : Feas (netM k []) (gt (raisedM k t))) {i j : Nat} {x y : Ld} (hx : k.loads[i]? = some x) (hy : k.draws[j]? = some y) : ∃ q, Sh1 k t j i x y q := by
  have N := Net.base hc
  have r := right_of_check hc
  have n0 : (0 : Int) < marksM k := by have := N.wf.n0; rw [netn] at this; exact this
  have hF := N.fin_of (a := 0) (by omega) n0 f
  have hil := (List.getElem?_eq_some_iff.1 hx).1
  have hjl := (List.getElem?_eq_some_iff.1 hy).1
  have h1 := took_ok hc hF hx hy
  have h2 := took_in hc ht f hx hy
  rw [h1] at h2
  have h3 := h2.2
  simp only [inS, decide_eq_true_eq] at h3
  refine ⟨_, h1, rfl, least_b r N hF (ov_in hjl hil), h3.1, h3.2, ?_, ?_⟩
  · simp only
    rw [most_fst]
    exact (mostN_in k _).2
  · intro h
    simp only
    rw [most_fst]
    have := most_late hc hx hy h
    omega
section
variable {k : Kn} {t : Tr} {j i : Nat} {l m f la : Int} {x y : Ld} {q : Sp} (h : ShI k t j i l m f la) (s : Sh1 k t j i x y q) (ht : TrOk k t) (hj : j < k.draws.length) (hi : i < k.loads.length)
include h s ht hj hi
theorem ShI.sums : 0 ≤ l + q.lo ∧ l + q.lo ≤ mineM k t j (i + 1) ∧ mineM k t j (i + 1) ≤ m + q.hi ∧ m + q.hi ≤ 1048576 * ((i + 1 : Nat) : Int) := by
  obtain ⟨h1, h2, h3, h4, _⟩ := h
  have e := mine_step ht hj hi
  have := s.l0; have := s.l1; have := s.h0; have := s.h1
  push_cast
  omega
theorem ShI.none (h0 : ¬ 0 < q.lo) : ShI k t j (i + 1) (l + q.lo) (m + q.hi) f la := by
  obtain ⟨g1, g2, g3, g4⟩ := ShI.sums h s ht hj hi
  obtain ⟨_, _, _, _, h5⟩ := h
  refine ⟨g1, g2, g3, g4, ?_⟩
  rcases h5 with h5 | ⟨a, b, e1, e2, e3, e4, e5, e6⟩
  · exact .inl h5
  · exact .inr ⟨a, b, e1, e2, e3, by omega, e5, e6⟩
theorem ShI.first (h0 : 0 < q.lo) (hf : f < 0) : ShI k t j (i + 1) (l + q.lo) (m + q.hi) i i := by
  obtain ⟨g1, g2, g3, g4⟩ := ShI.sums h s ht hj hi
  have h1 := s.lo
  exact ⟨g1, g2, g3, g4, .inr ⟨i, i, rfl, rfl, Nat.le_refl _, by omega, by omega, by omega⟩⟩
theorem ShI.later (h0 : 0 < q.lo) (hf : ¬ f < 0) : ShI k t j (i + 1) (l + q.lo) (m + q.hi) f i := by
  obtain ⟨g1, g2, g3, g4⟩ := ShI.sums h s ht hj hi
  have h1 := s.lo
  obtain ⟨_, _, _, _, h5⟩ := h
  rcases h5 with ⟨h5, _⟩ | ⟨a, b, e1, e2, e3, e4, e5, e6⟩
  · omega
  · exact ⟨g1, g2, g3, g4, .inr ⟨a, i, e1, rfl, by omega, by omega, e5, by omega⟩⟩
end
theorem sources_run {k : Kn} {j : Nat} {y : Ld} (hy : k.draws[j]? = some y) : (sourcesM k y.id).2.2 = (runM k y.id y.id).2 := by
  by_cases hc : check k = 0
  · rw [run_draw_err hc hy]
    cases hF : fin? (netM k []) 0 with
    | true => rw [sources_eq hc hy hF]; rfl
    | false => rw [sources_err hc hy hF]; rfl
  · rw [sources_bad hc, run_bad hc]
theorem run_zero {k : Kn} {j : Nat} {y : Ld} (hy : k.draws[j]? = some y) (h : (runM k y.id y.id).2 = 0) : check k = 0 ∧ fin? (netM k []) 0 = true := by
  by_cases hc : check k = 0
  · rw [run_draw_err hc hy] at h
    refine ⟨hc, ?_⟩
    cases hF : fin? (netM k []) 0 with
    | true => rfl
    | false => rw [hF] at h; simp at h
  · rw [run_bad hc] at h
    exact (hc h).elim
/-- A load between the first and the last sure one. -/
theorem ShI.mid {k : Kn} {t : Tr} {j i : Nat} {l m f la : Int} (h : ShI k t j i l m f la) {n : Nat} (hn : f + n < la) : ∃ c : Nat, f + n = c ∧ c < i ∧ ∃ a b : Nat, a ≤ c ∧ c ≤ b ∧ b < i ∧ 0 < loN k j a ∧ 0 < loN k j b := by
  obtain ⟨_, _, _, _, h5⟩ := h
  rcases h5 with ⟨h5, h6⟩ | ⟨a, b, e1, e2, e3, e4, e5, e6⟩
  · omega
  · exact ⟨a + n, by push_cast; omega, by omega, a, b, by omega, by omega, e4, e5, e6⟩
end Go.Shaft
/- Law: what a draw takes of all loads. -/
set_option linter.unusedVariables false
set_option linter.unusedSimpArgs false
set_option maxRecDepth 100000
set_option maxHeartbeats 2000000
namespace Go.Abs
open Go.RowKit Go.Proofs Go.Shaft
attribute [simp] ti22 ti23 ti24 ti26 ti30 ti42 ti45 ti52 ti122 ti125 ti88 ti92 ti46
attribute [simp] ti134 ti131 ti48 ti85 ti143 ti189 ti190 ti192 ti204 ti208 ti218 ti9 ti5 ti27 ti28 ti141 ti30 ti45
@[simp] theorem us4 : E.P.underlying 4 = some TypeDesc.bool := by kernel_rfl
theorem nat_in {a n : Int} (a0 : 0 ≤ a) (n0 : 0 < n) : ∃ u : Nat, a.tmod n = u ∧ (u : Int) < n := by
 obtain ⟨u, h1, h2, h3⟩ := tmod_in a0 n0
 exact ⟨u.toNat, by omega, by omega⟩

theorem c32 (l : List Int) (hl : l.length ≤ 1000) (x : Int) : Con E 32 [eInts l, I x] (.bool (decide (x ∈ l))) := by
 intro n H hH
 have h00 := hh3 hH
 have ⟨hHs, hH', hpl⟩ := h00
 refine at_start (fn := Tryz.f32) [.tmp 4] 17 H.length rfl rfl rfl rfl (by kernel_rfl) (by kernel_rfl) (by simp) (Nat.le_refl _) ?_
 refine sq ?_
 refine at_regK [0, 1] rfl ?_
 try simp [h00, o_i, f_a]
 refine sq ?_
 refine sq ?_
 refine at_regK [1, 7, 8, 9] rfl ?_
 try simp [h00, o_i, f_a]
 refine at_block rfl ?_
 refine at_count l.length (fun i s => x ∉ l.take i ∧ s = ⟨[(1, I x), (7, eInts l), (8, I l.length), (9, I i)], [], H⟩) rfl ⟨by simp, rfl⟩ ?_
 rintro i s hi ⟨hno, rfl⟩
 refine sq ?_
 refine at_regK [1, 7, 8, 9, 10] rfl ?_
 try simp [h00, o_i, f_a]
 refine sq ?_
 refine at_cond rfl rfl (fun hb10 => ?_) (fun hb10 => ?_)
 ·
  try simp at hb10
  obtain ⟨y, hy⟩ : ∃ y, l[i]? = some y := ⟨_, List.getElem?_eq_getElem (by omega)⟩
  have i0 : (i : Int) < l.length := by omega
  refine at_skip (by kernel_rfl) ?_
  try simp [h00, o_i, f_a, hy, i0]
  refine sq ?_
  refine at_block rfl ?_
  refine sq ?_
  refine at_regK [1, 6, 7, 8, 9] rfl ?_
  try simp [h00, o_i, f_a, hy, i0]
  refine sq ?_
  refine at_regK [1, 7, 8, 9, 15] rfl ?_
  try simp [h00, o_i, f_a, hy, i0]
  refine at_cond rfl rfl (fun hb15 => ?_) (fun hb15 => ?_)
  ·
   try simp at hb15
   refine sq ?_
   refine at_regK [4] rfl ?_
   try simp [h00, o_i, f_a, hy, i0]
   refine at_ret (by kernel_rfl) ?_
   try simp [h00, o_i, f_a, hy, i0]
   rw [← hb15]
   exact List.mem_of_getElem? hy
  ·
   try simp at hb15
   refine at_skip (by kernel_rfl) ?_
   try simp [h00, o_i, f_a, hy, i0]
   refine at_regK [1, 7, 8, 9] rfl ?_
   try simp [h00, o_i, f_a, hy, i0]
   refine ⟨by omega, ?_, ?_⟩
   ·rw [List.take_add_one, hy]
    simp
    exact ⟨hno, fun h => hb15 h.symm⟩
   ·exact wrap_id (by omega) (by omega)
 ·
  try simp at hb10
  refine at_exit rfl ?_
  try simp [h00, o_i, f_a]
  refine sq ?_
  refine at_regK [4] rfl ?_
  try simp [h00, o_i, f_a]
  refine at_ret (by kernel_rfl) ?_
  try simp [h00, o_i, f_a]
  rw [List.take_of_length_le (by omega)] at hno
  exact hno

theorem c5 (k : Kn) (b : Int) (b0 : 0 ≤ b) (b1 : b ≤ 255) : Con E 5 [eKn k, .int .u8 b] (.bool true) := by
 intro n H hH
 have h00 := hh3 hH
 have ⟨hHs, hH', hpl⟩ := h00
 have wb : IntKind.i64.wrap b = b := wrap_id (by omega) (by omega)
 refine at_start (fn := Tryz.f5) [.tmp 4] 200 H.length rfl rfl rfl rfl (by kernel_rfl) (by kernel_rfl) (by simp) (Nat.le_refl _) ?_
 refine sq ?_
 refine at_regK [1, 2] rfl ?_
 try simp [h00, o_i, f_a, wb]
 refine sq ?_
 refine sq ?_
 refine at_regK [1, 2, 43] rfl ?_
 try simp [h00, o_i, f_a, wb]
 refine pops_split 26 rfl (fun hg1 => ?_) (fun hg1 => ?_)
 ·
  try simp [h00, o_i, f_a, wb, hg1]
  refine at_cond rfl rfl (fun hb43 => ?_) (fun hb43 => by simp at hb43)
  refine sq ?_
  refine at_regK [4] rfl ?_
  try simp [h00, o_i, f_a, wb]
  refine c17.use hH ?_
  try simp [h00, o_i, f_a, wb]
  refine at_ret (by kernel_rfl) ?_
  try simp [h00, o_i, f_a, wb]
 ·
  try simp [h00, o_i, f_a, wb, hg1]
  refine pops_split 32 rfl (fun hg2 => ?_) (fun hg2 => ?_)
  ·
   try simp [h00, o_i, f_a, wb, hg2]
   refine at_cond rfl rfl (fun hb43 => ?_) (fun hb43 => by simp at hb43)
   refine sq ?_
   refine at_regK [4] rfl ?_
   try simp [h00, o_i, f_a, wb]
   refine c17.use hH ?_
   try simp [h00, o_i, f_a, wb]
   refine at_ret (by kernel_rfl) ?_
   try simp [h00, o_i, f_a, wb]
  ·
   try simp [h00, o_i, f_a, wb, hg2]
   refine pops_split 38 rfl (fun hg3 => ?_) (fun hg3 => ?_)
   ·
    try simp [h00, o_i, f_a, wb, hg3]
    refine at_cond rfl rfl (fun hb43 => ?_) (fun hb43 => by simp at hb43)
    refine sq ?_
    refine at_regK [4] rfl ?_
    try simp [h00, o_i, f_a, wb]
    refine c17.use hH ?_
    try simp [h00, o_i, f_a, wb]
    refine at_ret (by kernel_rfl) ?_
    try simp [h00, o_i, f_a, wb]
   ·
    try simp [h00, o_i, f_a, wb, hg3]
    refine at_cond rfl rfl (fun hb43 => ?_) (fun hb43 => ?_)
    ·
     try simp at hb43
     refine sq ?_
     refine at_regK [4] rfl ?_
     try simp [h00, o_i, f_a, wb]
     refine c17.use hH ?_
     try simp [h00, o_i, f_a, wb]
     refine at_ret (by kernel_rfl) ?_
     try simp [h00, o_i, f_a, wb]
    ·
     try simp at hb43
     have g1 : k.loads.length ≤ 4 := by simp at hg1; omega
     have g2 : k.draws.length ≤ 4 := by simp at hg2; omega
     have g3 : k.weighs.length ≤ 4 := by simp at hg3; omega
     have hk : Few k := ⟨by omega, by omega, by omega⟩
     have nd0 : 0 < k.draws.length := List.length_pos_iff.2 (by intro e; simp [e] at hb43)
     obtain ⟨j, hj, jl⟩ := nat_in b0 (show (0 : Int) < k.draws.length by omega)
     obtain ⟨y, hy⟩ : ∃ x, k.draws[j]? = some x := ⟨_, List.getElem?_eq_getElem (by omega)⟩
     have nd1 : ¬ (k.draws.length : Int) = 0 := by omega
     have nd2 : ¬ k.draws = [] := by intro e; simp [e] at nd0
     have hse := sources_run hy
     refine at_skip (by kernel_rfl) ?_
     try simp [h00, o_i, f_a, wb, hj, jl, hy, nd1, nd2, hse]
     refine sq ?_
     refine at_draw [2, 5] [0, 1, 0, 0, 0, 1, 0, 0, 0, 1, 2, 3] [] rfl Efol (by kernel_rfl) (by simp) ?_
     try simp [h00, o_i, f_a, wb, hj, jl, hy, nd1, nd2, hse]
     refine sq ?_
     refine at_regK [2, 5, 6, 7] rfl ?_
     try simp [h00, o_i, f_a, wb, hj, jl, hy, nd1, nd2, hse]
     refine (c18 k hk y.id).use hH ?_
     try simp [h00, o_i, f_a, wb, hj, jl, hy, nd1, nd2, hse]
     refine sq ?_
     refine at_regK [2, 5, 6, 7, 8, 9, 10] rfl ?_
     try simp [h00, o_i, f_a, wb, hj, jl, hy, nd1, nd2, hse]
     refine (c30 k hk y.id).use hH ?_
     try simp [h00, o_i, f_a, wb, hj, jl, hy, nd1, nd2, hse]
     refine sq ?_
     refine sq ?_
     refine at_regK [2, 5, 6, 7, 8, 9, 10, 71] rfl ?_
     try simp [h00, o_i, f_a, wb, hj, jl, hy, nd1, nd2, hse]
     refine at_cond rfl rfl (fun hb71 => ?_) (fun hb71 => ?_)
     ·
      try simp at hb71
      refine sq ?_
      refine at_regK [4] rfl ?_
      try simp [h00, o_i, f_a, wb, hj, jl, hy, nd1, nd2, hse]
      refine c17.use hH ?_
      try simp [h00, o_i, f_a, wb, hj, jl, hy, nd1, nd2, hse]
      refine at_ret (by kernel_rfl) ?_
      try simp [h00, o_i, f_a, wb, hj, jl, hy, nd1, nd2, hse]
     ·
      try simp at hb71
      have e0 : (runM k y.id y.id).2 = 0 := by simpa using hb71
      obtain ⟨hck, hF⟩ := run_zero hy e0
      obtain ⟨t, ht, hfe⟩ := some_true hck hF
      have r := right_of_check hck
      have hsr := sources_eq hck hy hF
      obtain ⟨sl, hsl⟩ : ∃ l, l = (sourcesM k y.id).1 := ⟨_, rfl⟩
      obtain ⟨ml, hml⟩ : ∃ l, l = (sourcesM k y.id).2.1 := ⟨_, rfl⟩
      have hsl2 : sl = (sortedM k.loads (fun i => (tookM k y.id i).1)).1 := by rw [hsl, hsr]
      have hml2 : ml = (sortedM k.loads (fun i => (tookM k y.id i).1)).2 := by rw [hml, hsr]
      have hlen := sorted_len k.loads (fun i => (tookM k y.id i).1)
      rw [← hsl2, ← hml2] at hlen
      have hm : (marksM k : Int) = 1 + k.loads.length + k.draws.length := by simp [marksM]
      have d1 := drawn_in (k := k) (a := (j : Int)) (by omega) (by omega)
      have d2 := drawn_in (k := k) (a := (j : Int) + 1) (by omega) (by omega)
      have td := ht.dl
      obtain ⟨qd, hqd⟩ : ∃ x, t.draws[j]? = some x := ⟨_, List.getElem?_eq_getElem (by omega)⟩
      obtain ⟨f3, f4⟩ := between_in hck hfe (a := drawnM k (j : Int)) (b := drawnM k ((j : Int) + 1)) (by omega) (by omega) (by omega) (by omega)
      rw [← Go.Shaft.run_draw hck hy, hgt_rai r t (by omega) (by omega), hgt_rai r t (by omega) (by omega), hgt_draw hqd] at f4
      simp only [inS, decide_eq_true_eq] at f4
      have bq := ht.d qd (List.mem_of_getElem? hqd)
      have minea := mine_all r ht hfe hy hqd
      refine at_skip (by kernel_rfl) ?_
      try simp [h00, o_i, f_a, wb, hj, jl, hy, nd1, nd2, hse, e0, ← hsl, ← hml]
      refine sq ?_
      refine sq ?_
      refine at_regK [2, 5, 6, 8, 9, 79] rfl ?_
      try simp [h00, o_i, f_a, wb, hj, jl, hy, nd1, nd2, hse, e0, ← hsl, ← hml]
      refine at_cond rfl rfl (fun hb79 => by simp at hb79) (fun hb79 => ?_)
      refine at_skip (by kernel_rfl) ?_
      try simp [h00, o_i, f_a, wb, hj, jl, hy, nd1, nd2, hse, e0, ← hsl, ← hml]
      refine sq ?_
      refine at_regK [2, 5, 6, 8, 9, 11, 12, 13, 14] rfl ?_
      try simp [h00, o_i, f_a, wb, hj, jl, hy, nd1, nd2, hse, e0, ← hsl, ← hml]
      refine sq ?_
      refine sq ?_
      refine at_regK [2, 5, 6, 8, 9, 11, 12, 13, 14, 81, 82, 83] rfl ?_
      try simp [h00, o_i, f_a, wb, hj, jl, hy, nd1, nd2, hse, e0, ← hsl, ← hml]
      refine at_block rfl ?_
      refine at_count k.loads.length (fun i s => ∃ l m f la, ShI k t j i l m f la ∧ s = ⟨[(2, .ref false 0 0 [] 0), (5, .ref false 1 0 [] 0), (6, .ref false 2 0 [] 0), (8, eInts sl), (9, eInts ml), (11, I l), (12, I m), (13, I f), (14, I la), (81, eLds k.loads), (82, I k.loads.length), (83, I i)], [.cell (eKn k), .cell (eLd y), .cell (eSp (runM k y.id y.id).1)], H⟩) rfl ⟨0, 0, -1, -1, ShI.zero k ht j, rfl⟩ ?_
      rintro i s hi ⟨l, m, f, la, hS, rfl⟩
      refine sq ?_
      refine at_regK [2, 5, 6, 8, 9, 11, 12, 13, 14, 81, 82, 83, 84] rfl ?_
      try simp [h00, o_i, f_a, wb, hj, jl, hy, nd1, nd2, hse, e0, ← hsl, ← hml]
      refine sq ?_
      refine at_cond rfl rfl (fun hb84 => ?_) (fun hb84 => ?_)
      ·
       try simp at hb84
       obtain ⟨x, hx⟩ : ∃ v, k.loads[i]? = some v := ⟨_, List.getElem?_eq_getElem (by omega)⟩
       have i0 : (i : Int) < k.loads.length := by omega
       have wn : IntKind.i64.wrap ((i : Int) + 1) = (i : Int) + 1 := wrap_id (by omega) (by omega)
       obtain ⟨q, hq⟩ := sh1 hck ht hfe hx hy
       have htk := hq.took
       have hd1 : decide (x.id ∈ sl) = decide (0 < q.lo) := by rw [hsl2, sorted_fst (List.mem_of_getElem? hx), htk]
       have hd2 : decide (x.id ∈ ml) = decide (0 < q.hi) := by rw [hml2, sorted_snd (List.mem_of_getElem? hx), htk]
       have hsm := hS.sums hq ht (by omega) (by omega)
       have hmb := mine_b ht hqd (i + 1)
       have wl : IntKind.i64.wrap (l + q.lo) = l + q.lo := wrap_id (by omega) (by omega)
       have wm : IntKind.i64.wrap (m + q.hi) = m + q.hi := wrap_id (by omega) (by omega)
       refine at_skip (by kernel_rfl) ?_
       try simp [h00, o_i, f_a, wb, hj, jl, hy, nd1, nd2, hse, e0, ← hsl, ← hml, hx, i0, wn, htk, hd1, hd2, wl, wm]
       refine sq ?_
       refine at_block rfl ?_
       refine sq ?_
       refine at_regK [2, 5, 6, 8, 9, 11, 12, 13, 14, 15, 16, 81, 82, 83] rfl ?_
       try simp [h00, o_i, f_a, wb, hj, jl, hy, nd1, nd2, hse, e0, ← hsl, ← hml, hx, i0, wn, htk, hd1, hd2, wl, wm]
       refine sq ?_
       refine at_regK [2, 5, 6, 8, 9, 11, 12, 13, 14, 15, 16, 17, 18, 81, 82, 83] rfl ?_
       try simp [h00, o_i, f_a, wb, hj, jl, hy, nd1, nd2, hse, e0, ← hsl, ← hml, hx, i0, wn, htk, hd1, hd2, wl, wm]
       refine (c31 k hk y.id x.id).use hH ?_
       rw [htk]
       try simp [h00, o_i, f_a, wb, hj, jl, hy, nd1, nd2, hse, e0, ← hsl, ← hml, hx, i0, wn, htk, hd1, hd2, wl, wm]
       refine sq ?_
       refine sq ?_
       refine at_join ⟨[(2, .ref false 0 0 [] 0), (5, .ref false 1 0 [] 0), (6, .ref false 2 0 [] 0), (8, eInts sl), (9, eInts ml), (11, I l), (12, I m), (13, I f), (14, I la), (15, I i), (17, .ref false 4 0 [] 0), (81, eLds k.loads), (82, I k.loads.length), (83, I i), (130, .bool false)], [.cell (eKn k), .cell (eLd y), .cell (eSp (runM k y.id y.id).1), .cell (eLd x), .cell (eSp q)], H⟩ ?_ ?_
       ·
        refine at_draw [2, 5, 6, 8, 9, 11, 12, 13, 14, 15, 17, 81, 82, 83, 130] [0, 0, 0, 0, 0, 1, 1, 0, 1, 0, 0, 0, 0, 0, 0, 1, 1, 0, 1, 0, 0, 0, 0, 0, 1, 0, 1, 0, 0, 0, 1, 0, 0, 0] [] rfl Efol (by kernel_rfl) (by simp) ?_
        try simp [h00, o_i, f_a, wb, hj, jl, hy, nd1, nd2, hse, e0, ← hsl, ← hml, hx, i0, wn, htk, hd1, hd2, wl, wm]
        refine (c32 sl (by omega) x.id).draw hH ?_
        rw [hd1]
        try simp [h00, o_i, f_a, wb, hj, jl, hy, nd1, nd2, hse, e0, ← hsl, ← hml, hx, i0, wn, htk, hd1, hd2, wl, wm]
        refine (c32 ml (by omega) x.id).draw hH ?_
        rw [hd2]
        try simp [h00, o_i, f_a, wb, hj, jl, hy, nd1, nd2, hse, e0, ← hsl, ← hml, hx, i0, wn, htk, hd1, hd2, wl, wm]
        refine dps_split 125 rfl (fun hg4 => ?_) (fun hg4 => ?_)
        ·
         have hlt := hq.late (by simpa using hg4)
         try simp [h00, o_i, f_a, wb, hj, jl, hy, nd1, nd2, hse, e0, ← hsl, ← hml, hx, i0, wn, htk, hd1, hd2, wl, wm, hlt, hg4]
        ·
         try simp [h00, o_i, f_a, wb, hj, jl, hy, nd1, nd2, hse, e0, ← hsl, ← hml, hx, i0, wn, htk, hd1, hd2, wl, wm, hg4]
       ·
        try simp [h00, o_i, f_a, wb, hj, jl, hy, nd1, nd2, hse, e0, ← hsl, ← hml, hx, i0, wn, htk, hd1, hd2, wl, wm]
        refine at_cond rfl rfl (fun hb130 => by simp at hb130) (fun hb130 => ?_)
        refine at_skip (by kernel_rfl) ?_
        try simp [h00, o_i, f_a, wb, hj, jl, hy, nd1, nd2, hse, e0, ← hsl, ← hml, hx, i0, wn, htk, hd1, hd2, wl, wm]
        refine sq ?_
        refine at_regK [2, 5, 6, 8, 9, 11, 12, 13, 14, 15, 17, 81, 82, 83] rfl ?_
        try simp [h00, o_i, f_a, wb, hj, jl, hy, nd1, nd2, hse, e0, ← hsl, ← hml, hx, i0, wn, htk, hd1, hd2, wl, wm]
        refine sq ?_
        refine at_regK [2, 5, 6, 8, 9, 11, 12, 13, 14, 15, 17, 81, 82, 83] rfl ?_
        try simp [h00, o_i, f_a, wb, hj, jl, hy, nd1, nd2, hse, e0, ← hsl, ← hml, hx, i0, wn, htk, hd1, hd2, wl, wm]
        refine sq ?_
        refine sq ?_
        refine at_regK [2, 5, 6, 8, 9, 11, 12, 13, 14, 15, 17, 81, 82, 83, 145] rfl ?_
        try simp [h00, o_i, f_a, wb, hj, jl, hy, nd1, nd2, hse, e0, ← hsl, ← hml, hx, i0, wn, htk, hd1, hd2, wl, wm]
        refine pops_split 142 rfl (fun hg5 => ?_) (fun hg5 => ?_)
        ·
         try simp [h00, o_i, f_a, wb, hj, jl, hy, nd1, nd2, hse, e0, ← hsl, ← hml, hx, i0, wn, htk, hd1, hd2, wl, wm, hg5]
         refine at_cond rfl rfl (fun hb145 => ?_) (fun hb145 => ?_)
         ·
          try simp at hb145
          refine at_regK [2, 5, 6, 8, 9, 11, 12, 13, 14, 15, 17, 81, 82, 83] rfl ?_
          try simp [h00, o_i, f_a, wb, hj, jl, hy, nd1, nd2, hse, e0, ← hsl, ← hml, hx, i0, wn, htk, hd1, hd2, wl, wm]
          refine sq ?_
          refine at_regK [2, 5, 6, 8, 9, 11, 12, 13, 14, 15, 81, 82, 83, 149] rfl ?_
          try simp [h00, o_i, f_a, wb, hj, jl, hy, nd1, nd2, hse, e0, ← hsl, ← hml, hx, i0, wn, htk, hd1, hd2, wl, wm]
          refine at_cond rfl rfl (fun hb149 => ?_) (fun hb149 => ?_)
          ·
           try simp at hb149
           refine at_regK [2, 5, 6, 8, 9, 11, 12, 13, 14, 81, 82, 83] rfl ?_
           try simp [h00, o_i, f_a, wb, hj, jl, hy, nd1, nd2, hse, e0, ← hsl, ← hml, hx, i0, wn, htk, hd1, hd2, wl, wm]
           refine at_regC 3 [2, 5, 6, 8, 9, 11, 12, 13, 14, 81, 82, 83] rfl ?_
           try simp [h00, o_i, f_a, wb, hj, jl, hy, nd1, nd2, hse, e0, ← hsl, ← hml, hx, i0, wn, htk, hd1, hd2, wl, wm]
           try simp at hg5
           refine ⟨by omega, _, _, _, _, ?_, rfl, rfl, rfl, rfl⟩
           first
           | (exfalso; omega)
           | exact hS.none hq ht (by omega) (by omega) (by omega)
           | exact hS.first hq ht (by omega) (by omega) (by omega) (by omega)
           | exact hS.later hq ht (by omega) (by omega) (by omega) (by omega)
          ·
           try simp at hb149
           refine at_skip (by kernel_rfl) ?_
           try simp [h00, o_i, f_a, wb, hj, jl, hy, nd1, nd2, hse, e0, ← hsl, ← hml, hx, i0, wn, htk, hd1, hd2, wl, wm]
           refine at_regC 3 [2, 5, 6, 8, 9, 11, 12, 13, 14, 81, 82, 83] rfl ?_
           try simp [h00, o_i, f_a, wb, hj, jl, hy, nd1, nd2, hse, e0, ← hsl, ← hml, hx, i0, wn, htk, hd1, hd2, wl, wm]
           try simp at hg5
           refine ⟨by omega, _, _, _, _, ?_, rfl, rfl, rfl, rfl⟩
           first
           | (exfalso; omega)
           | exact hS.none hq ht (by omega) (by omega) (by omega)
           | exact hS.first hq ht (by omega) (by omega) (by omega) (by omega)
           | exact hS.later hq ht (by omega) (by omega) (by omega) (by omega)
         ·
          try simp at hb145
          refine at_skip (by kernel_rfl) ?_
          try simp [h00, o_i, f_a, wb, hj, jl, hy, nd1, nd2, hse, e0, ← hsl, ← hml, hx, i0, wn, htk, hd1, hd2, wl, wm]
          refine sq ?_
          refine at_regK [2, 5, 6, 8, 9, 11, 12, 13, 14, 15, 81, 82, 83, 149] rfl ?_
          try simp [h00, o_i, f_a, wb, hj, jl, hy, nd1, nd2, hse, e0, ← hsl, ← hml, hx, i0, wn, htk, hd1, hd2, wl, wm]
          refine at_cond rfl rfl (fun hb149 => ?_) (fun hb149 => ?_)
          ·
           try simp at hb149
           refine at_regK [2, 5, 6, 8, 9, 11, 12, 13, 14, 81, 82, 83] rfl ?_
           try simp [h00, o_i, f_a, wb, hj, jl, hy, nd1, nd2, hse, e0, ← hsl, ← hml, hx, i0, wn, htk, hd1, hd2, wl, wm]
           refine at_regC 3 [2, 5, 6, 8, 9, 11, 12, 13, 14, 81, 82, 83] rfl ?_
           try simp [h00, o_i, f_a, wb, hj, jl, hy, nd1, nd2, hse, e0, ← hsl, ← hml, hx, i0, wn, htk, hd1, hd2, wl, wm]
           try simp at hg5
           refine ⟨by omega, _, _, _, _, ?_, rfl, rfl, rfl, rfl⟩
           first
           | (exfalso; omega)
           | exact hS.none hq ht (by omega) (by omega) (by omega)
           | exact hS.first hq ht (by omega) (by omega) (by omega) (by omega)
           | exact hS.later hq ht (by omega) (by omega) (by omega) (by omega)
          ·
           try simp at hb149
           refine at_skip (by kernel_rfl) ?_
           try simp [h00, o_i, f_a, wb, hj, jl, hy, nd1, nd2, hse, e0, ← hsl, ← hml, hx, i0, wn, htk, hd1, hd2, wl, wm]
           refine at_regC 3 [2, 5, 6, 8, 9, 11, 12, 13, 14, 81, 82, 83] rfl ?_
           try simp [h00, o_i, f_a, wb, hj, jl, hy, nd1, nd2, hse, e0, ← hsl, ← hml, hx, i0, wn, htk, hd1, hd2, wl, wm]
           try simp at hg5
           refine ⟨by omega, _, _, _, _, ?_, rfl, rfl, rfl, rfl⟩
           first
           | (exfalso; omega)
           | exact hS.none hq ht (by omega) (by omega) (by omega)
           | exact hS.first hq ht (by omega) (by omega) (by omega) (by omega)
           | exact hS.later hq ht (by omega) (by omega) (by omega) (by omega)
        ·
         try simp [h00, o_i, f_a, wb, hj, jl, hy, nd1, nd2, hse, e0, ← hsl, ← hml, hx, i0, wn, htk, hd1, hd2, wl, wm, hg5]
         refine at_cond rfl rfl (fun hb145 => by simp at hb145) (fun hb145 => ?_)
         refine at_skip (by kernel_rfl) ?_
         try simp [h00, o_i, f_a, wb, hj, jl, hy, nd1, nd2, hse, e0, ← hsl, ← hml, hx, i0, wn, htk, hd1, hd2, wl, wm]
         refine sq ?_
         refine at_regK [2, 5, 6, 8, 9, 11, 12, 13, 14, 15, 81, 82, 83, 149] rfl ?_
         try simp [h00, o_i, f_a, wb, hj, jl, hy, nd1, nd2, hse, e0, ← hsl, ← hml, hx, i0, wn, htk, hd1, hd2, wl, wm]
         refine at_cond rfl rfl (fun hb149 => ?_) (fun hb149 => ?_)
         ·
          try simp at hb149
          refine at_regK [2, 5, 6, 8, 9, 11, 12, 13, 14, 81, 82, 83] rfl ?_
          try simp [h00, o_i, f_a, wb, hj, jl, hy, nd1, nd2, hse, e0, ← hsl, ← hml, hx, i0, wn, htk, hd1, hd2, wl, wm]
          refine at_regC 3 [2, 5, 6, 8, 9, 11, 12, 13, 14, 81, 82, 83] rfl ?_
          try simp [h00, o_i, f_a, wb, hj, jl, hy, nd1, nd2, hse, e0, ← hsl, ← hml, hx, i0, wn, htk, hd1, hd2, wl, wm]
          try simp at hg5
          refine ⟨by omega, _, _, _, _, ?_, rfl, rfl, rfl, rfl⟩
          first
          | (exfalso; omega)
          | exact hS.none hq ht (by omega) (by omega) (by omega)
          | exact hS.first hq ht (by omega) (by omega) (by omega) (by omega)
          | exact hS.later hq ht (by omega) (by omega) (by omega) (by omega)
         ·
          try simp at hb149
          refine at_skip (by kernel_rfl) ?_
          try simp [h00, o_i, f_a, wb, hj, jl, hy, nd1, nd2, hse, e0, ← hsl, ← hml, hx, i0, wn, htk, hd1, hd2, wl, wm]
          refine at_regC 3 [2, 5, 6, 8, 9, 11, 12, 13, 14, 81, 82, 83] rfl ?_
          try simp [h00, o_i, f_a, wb, hj, jl, hy, nd1, nd2, hse, e0, ← hsl, ← hml, hx, i0, wn, htk, hd1, hd2, wl, wm]
          try simp at hg5
          refine ⟨by omega, _, _, _, _, ?_, rfl, rfl, rfl, rfl⟩
          first
          | (exfalso; omega)
          | exact hS.none hq ht (by omega) (by omega) (by omega)
          | exact hS.first hq ht (by omega) (by omega) (by omega) (by omega)
          | exact hS.later hq ht (by omega) (by omega) (by omega) (by omega)
      ·
       try simp at hb84
       have hiN : i = k.loads.length := by omega
       subst hiN
       have hS2 := hS
       obtain ⟨_, hs2, hs3, _⟩ := hS2
       rw [minea] at hs2 hs3
       have hz1 : l ≤ (runM k y.id y.id).1.hi := by omega
       have hz2 : (runM k y.id y.id).1.lo ≤ m := by omega
       refine at_exit rfl ?_
       try simp [h00, o_i, f_a, wb, hj, jl, hy, nd1, nd2, hse, e0, ← hsl, ← hml]
       refine sq ?_
       refine sq ?_
       refine at_regK [2, 6, 8, 11, 12, 14, 19] rfl ?_
       try simp [h00, o_i, f_a, wb, hj, jl, hy, nd1, nd2, hse, e0, ← hsl, ← hml]
       refine at_block rfl ?_
       refine at_count (la - f).toNat (fun n s => s = ⟨[(2, .ref false 0 0 [] 0), (6, .ref false 2 0 [] 0), (8, eInts sl), (11, I l), (12, I m), (14, I la), (19, I (f + n))], [.cell (eKn k), .cell (eLd y), .cell (eSp (runM k y.id y.id).1)], H⟩) rfl (by simp) ?_
       rintro n s hn rfl
       refine sq ?_
       refine sq ?_
       refine at_regK [2, 6, 8, 11, 12, 14, 19, 155] rfl ?_
       try simp [h00, o_i, f_a, wb, hj, jl, hy, nd1, nd2, hse, e0, ← hsl, ← hml]
       refine at_cond rfl rfl (fun hb155 => ?_) (fun hb155 => ?_)
       ·
        try simp at hb155
        obtain ⟨c, hc, ci, a, b, ac, cb, bi, la0, lb0⟩ := hS.mid hb155
        obtain ⟨x, hx⟩ : ∃ v, k.loads[c]? = some v := ⟨_, List.getElem?_eq_getElem (by omega)⟩
        have c0 : (c : Int) < k.loads.length := by omega
        have hr0 := run_load_err hck hx hF
        have wn : IntKind.i64.wrap ((c : Int) + 1) = (c : Int) + 1 := wrap_id (by omega) (by omega)
        have hto := took_ok hck hF hx hy
        have hd1 : decide (x.id ∈ sl) = decide (0 < loN k j c) := by rw [hsl2, sorted_fst (List.mem_of_getElem? hx), hto]; rfl
        refine at_skip (by kernel_rfl) ?_
        try simp [h00, o_i, f_a, wb, hj, jl, hy, nd1, nd2, hse, e0, ← hsl, ← hml, hc, hx, c0, wn, hr0]
        refine sq ?_
        refine at_block rfl ?_
        refine sq ?_
        refine at_draw [2, 6, 8, 11, 12, 14, 19, 20, 21] [1, 0, 1, 0, 0, 0, 1, 1, 0, 0, 0, 2, 3, 0] [] rfl Efol (by kernel_rfl) (by simp) ?_
        try simp [h00, o_i, f_a, wb, hj, jl, hy, nd1, nd2, hse, e0, ← hsl, ← hml, hc, hx, c0, wn, hr0]
        refine (c18 k hk x.id).draw hH ?_
        try simp [h00, o_i, f_a, wb, hj, jl, hy, nd1, nd2, hse, e0, ← hsl, ← hml, hc, hx, c0, wn, hr0]
        refine sq ?_
        refine at_regK [2, 6, 8, 11, 12, 14, 19, 186] rfl ?_
        try simp [h00, o_i, f_a, wb, hj, jl, hy, nd1, nd2, hse, e0, ← hsl, ← hml, hc, hx, c0, wn, hr0]
        refine pops_split 175 rfl (fun hg6 => ?_) (fun hg6 => ?_)
        ·
         have hsb := sure_between hck hF (by omega) ac cb (by omega) la0 lb0 (by rw [← Go.Shaft.run_load hck hx]; simpa using hg6)
         have hd2 : decide (x.id ∈ sl) = true := by rw [hd1]; exact decide_eq_true hsb
         try simp [h00, o_i, f_a, wb, hj, jl, hy, nd1, nd2, hse, e0, ← hsl, ← hml, hc, hx, c0, wn, hr0, hd2, hg6]
         refine (c32 sl (by omega) x.id).use hH ?_
         try simp [h00, o_i, f_a, wb, hj, jl, hy, nd1, nd2, hse, e0, ← hsl, ← hml, hc, hx, c0, wn, hr0, hd2]
         refine at_cond rfl rfl (fun hb186 => by simp at hb186) (fun hb186 => ?_)
         refine at_skip (by kernel_rfl) ?_
         try simp [h00, o_i, f_a, wb, hj, jl, hy, nd1, nd2, hse, e0, ← hsl, ← hml, hc, hx, c0, wn, hr0, hd2]
         refine at_regC 3 [2, 6, 8, 11, 12, 14, 19] rfl ?_
         try simp [h00, o_i, f_a, wb, hj, jl, hy, nd1, nd2, hse, e0, ← hsl, ← hml, hc, hx, c0, wn, hr0, hd2]
         exact ⟨by omega, by omega⟩
        ·
         try simp [h00, o_i, f_a, wb, hj, jl, hy, nd1, nd2, hse, e0, ← hsl, ← hml, hc, hx, c0, wn, hr0, hg6]
         refine at_cond rfl rfl (fun hb186 => by simp at hb186) (fun hb186 => ?_)
         refine at_skip (by kernel_rfl) ?_
         try simp [h00, o_i, f_a, wb, hj, jl, hy, nd1, nd2, hse, e0, ← hsl, ← hml, hc, hx, c0, wn, hr0]
         refine at_regC 3 [2, 6, 8, 11, 12, 14, 19] rfl ?_
         try simp [h00, o_i, f_a, wb, hj, jl, hy, nd1, nd2, hse, e0, ← hsl, ← hml, hc, hx, c0, wn, hr0]
         exact ⟨by omega, by omega⟩
       ·
        try simp at hb155
        refine at_exit rfl ?_
        try simp [h00, o_i, f_a, wb, hj, jl, hy, nd1, nd2, hse, e0, ← hsl, ← hml]
        refine sq ?_
        refine at_regK [4] rfl ?_
        try simp [h00, o_i, f_a, hz1, hz2, hj, jl, hy, nd1, nd2, hse, e0, ← hsl, ← hml]
        refine c17.use hH ?_
        try simp [h00, o_i, f_a, hz1, hz2, hj, jl, hy, nd1, nd2, hse, e0, ← hsl, ← hml]
        refine at_ret (by kernel_rfl) ?_
        try simp [h00, o_i, f_a, wb, hj, jl, hy, nd1, nd2, hse, e0, ← hsl, ← hml]
end Go.Abs
