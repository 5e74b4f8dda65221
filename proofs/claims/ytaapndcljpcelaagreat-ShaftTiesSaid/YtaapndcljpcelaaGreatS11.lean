/- What this law alone rests on. -/
import Derived.Test.YtaapndcljpcelaaGreatP5
/- More weighings, and fewer. -/
set_option linter.unusedVariables false
set_option linter.unusedSimpArgs false
namespace Go.Shaft
def moreW (k : Kn) (w : Wg) : Kn := { k with weighs := k.weighs ++ [w] }
theorem more_sub (k : Kn) (w : Wg) : ∀ t ∈ tiesM k, t ∈ tiesM (moreW k w) := by
  intro t ht
  have e3 : ties3 (moreW k w) = ties3 k ++ both (weighedM k w).1 (weighedM k w).2 w.sum w.id := by
    unfold ties3
    show List.flatMap _ (k.weighs ++ [w]) = _
    rw [List.flatMap_append]
    simp only [List.flatMap_cons, List.flatMap_nil, List.append_nil]
    rfl
  have e1 : ties1 (moreW k w) = ties1 k := rfl
  have e2 : ties2 (moreW k w) = ties2 k := rfl
  have e4 : ties4 (moreW k w) = ties4 k := rfl
  have e5 : ties5 (moreW k w) = ties5 k := rfl
  rw [tiesM, e1, e2, e3, e4, e5]
  simp only [tiesM, List.mem_append] at ht ⊢
  rcases ht with h | h | h | h | h
  · exact .inl h
  · exact .inr (.inl h)
  · exact .inr (.inr (.inl (.inl h)))
  · exact .inr (.inr (.inr (.inl h)))
  · exact .inr (.inr (.inr (.inr h)))
theorem less_sub (k : Kn) (ids : List Int) : ∀ t ∈ tiesM (withoutM k ids), t ∈ tiesM k := by
  intro t ht
  have e3 : ties3 (withoutM k ids) = (k.weighs.filter fun w => !decide (w.id ∈ ids)).flatMap fun w => both (weighedM k w).1 (weighedM k w).2 w.sum w.id := rfl
  have e1 : ties1 (withoutM k ids) = ties1 k := rfl
  have e2 : ties2 (withoutM k ids) = ties2 k := rfl
  have e4 : ties4 (withoutM k ids) = ties4 k := rfl
  have e5 : ties5 (withoutM k ids) = ties5 k := rfl
  rw [tiesM, e1, e2, e3, e4, e5] at ht
  simp only [tiesM, List.mem_append] at ht ⊢
  rcases ht with h | h | h | h | h
  · exact .inl h
  · exact .inr (.inl h)
  · refine .inr (.inr (.inl ?_))
    obtain ⟨w, hw, h⟩ := List.mem_flatMap.1 h
    exact List.mem_flatMap.2 ⟨w, (List.mem_filter.1 hw).1, h⟩
  · exact .inr (.inr (.inr (.inl h)))
  · exact .inr (.inr (.inr (.inr h)))
theorem feas_of_more {k : Kn} {w : Wg} {H : Int → Int} (f : Feas (netM (moreW k w) []) H) : Feas (netM k []) H := by
  intro t ht
  rw [links0] at ht
  exact f t (by rw [links0]; exact more_sub k w t ht)
theorem feas_less {k : Kn} {ids : List Int} {H : Int → Int} (f : Feas (netM k []) H) : Feas (netM (withoutM k ids) []) H := by
  intro t ht
  rw [links0] at ht
  exact f t (by rw [links0]; exact less_sub k ids t ht)
/-- What is told without an error. -/
theorem above_zero {k : Kn} {a b : Int} (h : (aboveC k a b).2 = 0) : check k = 0 ∧ (0 ≤ a ∧ a < marksM k) ∧ (0 ≤ b ∧ b < marksM k) ∧ fin? (netM k []) a = true ∧ (aboveC k a b).1.most = dst (netM k []) a b := by
  have hm : markedM k [a, b] = 0 := by
    refine Classical.byContradiction fun hn => ?_
    unfold aboveC at h
    rw [if_pos hn] at h
    exact hn h
  obtain ⟨hc, hin⟩ := marked_ok hm
  have ha := hin a (by simp)
  have hb := hin b (by simp)
  obtain ⟨e1, m1⟩ := aboveC_eq hc ha.1 ha.2 hb.1 hb.2
  have hF : fin? (netM k []) a = true := by
    cases hf : fin? (netM k []) a with
    | true => rfl
    | false => rw [h, hf] at e1; cases e1
  exact ⟨hc, ha, hb, hF, m1 hF⟩
/-- A further weighing moves no end outwards; what contradicts itself stays so. -/
theorem more_le {k : Kn} (hc : check k = 0) {w : Wg} {a b : Int} (h : (aboveC (moreW k w) a b).2 = 0) : fin? (netM k []) a = true ∧ (aboveC (moreW k w) a b).1.most ≤ (aboveC k a b).1.most := by
  obtain ⟨hc2, ha, hb, hF, hm⟩ := above_zero h
  have ha' : 0 ≤ a ∧ a < marksM k := ha
  have hb' : 0 ≤ b ∧ b < marksM k := hb
  have N := Net.base hc
  have N2 := Net.base hc2
  have f := feas_of_more (N2.feas ha.1 ha.2 hF)
  have hF2 := N.fin_of ha'.1 ha'.2 f
  have h1 := N.le ha'.1 ha'.2 hb'.1 hb'.2 f
  rw [N2.zero ha.1 ha.2 hF] at h1
  rw [hm, (aboveC_eq hc ha'.1 ha'.2 hb'.1 hb'.2).2 hF2]
  exact ⟨hF2, by omega⟩
theorem ins_mem (l : List Int) (x y : Int) : y ∈ insM l x ↔ y = x ∨ y ∈ l := by
  unfold insM
  rw [List.mem_append, List.mem_cons]
  have e : l = l.takeWhile (fun y => !decide (x < y)) ++ l.dropWhile (fun y => !decide (x < y)) := (List.takeWhile_append_dropWhile).symm
  constructor
  · rintro (h | h | h)
    · exact .inr (by rw [e]; exact List.mem_append_left _ h)
    · exact .inl h
    · exact .inr (by rw [e]; exact List.mem_append_right _ h)
  · rintro (h | h)
    · exact .inr (.inl h)
    · rw [e, List.mem_append] at h
      rcases h with h | h
      · exact .inl h
      · exact .inr (.inr h)
theorem sort_mem : ∀ (l acc : List Int) (y : Int), y ∈ l.foldl insM acc ↔ y ∈ l ∨ y ∈ acc
  | [], acc, y => by simp
  | x :: l, acc, y => by
    rw [List.foldl_cons, sort_mem l _ y, ins_mem, List.mem_cons]
    constructor
    · rintro (h | h | h)
      · exact .inl (.inr h)
      · exact .inl (.inl h)
      · exact .inr h
    · rintro ((h | h) | h)
      · exact .inr (.inl h)
      · exact .inl h
      · exact .inr (.inr h)
theorem sortM_mem (l : List Int) (y : Int) : y ∈ sortM l ↔ y ∈ l := by
  rw [sortM, sort_mem]
  simp
theorem chosen_mem (k : Kn) (is : Kn → Bool) (y : Int) : y ∈ chosenM k is ↔ (∃ w ∈ k.weighs, w.id = y) ∧ is (withoutM k [y]) = true := by
  rw [chosenM, sortM_mem, List.mem_filter, List.mem_map]
/-- The weighings on which it rests. -/
theorem rests_ok {k : Kn} (hc : check k = 0) {a b : Int} (a0 : 0 ≤ a) (a1 : a < marksM k) (b0 : 0 ≤ b) (b1 : b < marksM k) (hF : fin? (netM k []) a = true) : (restsM k a b).2 = 0 ∧ ∀ w ∈ k.weighs, (w.id ∈ (restsM k a b).1 ↔ dst (netM (withoutM k [w.id]) []) a b ≠ dst (netM k []) a b) := by
  have e : restsM k a b = (chosenM k (fun less => decide ((aboveM (netM less []) a b).1 ≠ (aboveM (netM k []) a b).1)), 0) := by
    unfold restsM
    rw [marked_two hc a0 a1 b0 b1, if_neg (by simp), if_neg]
    rw [above_eq]
    simp only [hF]
    simp
  rw [e]
  refine ⟨rfl, fun w hw => ?_⟩
  simp only
  rw [chosen_mem]
  simp only [above_eq, decide_eq_true_eq]
  exact ⟨fun h => of_decide_eq_true h.2, fun h => ⟨⟨w, hw, rfl⟩, decide_eq_true h⟩⟩
theorem less_ok {k : Kn} (hc : check k = 0) {a b : Int} (a0 : 0 ≤ a) (a1 : a < marksM k) (b0 : 0 ≤ b) (b1 : b < marksM k) (hF : fin? (netM k []) a = true) (id : Int) : (withoutE k [id]) = (withoutM k [id], 0) ∧ (aboveC (withoutM k [id]) a b).2 = 0 ∧ (aboveC (withoutM k [id]) a b).1.most = dst (netM (withoutM k [id]) []) a b := by
  have hc2 := check_without hc [id]
  have N := Net.base hc
  have N2 := Net.base hc2
  have hF2 : fin? (netM (withoutM k [id]) []) a = true := N2.fin_of (k := withoutM k [id]) a0 a1 (feas_less (N.feas a0 a1 hF))
  obtain ⟨e1, m1⟩ := aboveC_eq (k := withoutM k [id]) hc2 a0 a1 b0 b1
  exact ⟨by rw [withoutE, if_neg (by simp [hc])], by rw [e1, if_pos hF2], m1 hF2⟩
theorem suspects_ok {k : Kn} (hc : check k = 0) (hF : fin? (netM k []) 0 = false) : (suspectsM k).2 = 0 ∧ ∀ id ∈ (suspectsM k).1, (findM (withoutM k [id])).2 = 0 ∧ withoutE k [id] = (withoutM k [id], 0) := by
  have e : suspectsM k = (chosenM k (fun less => (aboveM (netM less []) 0 0).2), 0) := by
    unfold suspectsM
    rw [if_neg (by simp [hc]), if_neg]
    rw [above_eq]
    simp [hF]
  rw [e]
  refine ⟨rfl, fun id h => ?_⟩
  obtain ⟨_, h⟩ := (chosen_mem k (fun less => (aboveM (netM less []) 0 0).2) id).1 h
  have hc2 := check_without hc [id]
  refine ⟨?_, by rw [withoutE, if_neg (by simp [hc])]⟩
  unfold findM
  rw [if_neg (by simp [hc2]), if_pos]
  rw [above_eq] at h
  exact h
theorem chosen_len (k : Kn) (is : Kn → Bool) : (chosenM k is).length ≤ k.weighs.length := by
  rw [chosenM, sortM_len]
  refine Nat.le_trans (List.length_filter_le _ _) ?_
  simp
theorem sus_len (k : Kn) : (suspectsM k).1.length ≤ k.weighs.length := by
  unfold suspectsM
  split
  · simp
  · split
    · simp
    · exact chosen_len k (fun less => (aboveM (netM less []) 0 0).2)
theorem rests_len (k : Kn) (a b : Int) : (restsM k a b).1.length ≤ k.weighs.length := by
  unfold restsM
  split
  · simp
  · split
    · simp
    · exact chosen_len k (fun less => decide ((aboveM (netM less []) a b).1 ≠ (aboveM (netM k []) a b).1))
end Go.Shaft
/- True weights: what is told of loads and draws holds of them. -/
set_option linter.unusedVariables false
set_option linter.unusedSimpArgs false
namespace Go.Shaft
def inS (n : Int) (s : Sp) : Bool := decide (s.lo ≤ n ∧ n ≤ s.hi)
/-- The height of a mark, by weights. -/
def hgtM (k : Kn) (t : Tr) (m : Int) : Int := if m ≤ k.loads.length then pfx t.loads m.toNat else pfx t.draws (m - k.loads.length).toNat
theorem hgt_b {k : Kn} {t : Tr} (ht : TrOk k t) {m : Int} (h : m ≤ 60) : 0 ≤ hgtM k t m ∧ hgtM k t m ≤ 1006632960 := by
  unfold hgtM
  split
  · have := pfx_bound ht.l m.toNat; omega
  · have := pfx_bound ht.d (m - k.loads.length).toNat; omega
def takenM (k : Kn) (t : Tr) (j i : Int) : Int := mxI 0 (mnI (hgtM k t (i + 1)) (hgtM k t (k.loads.length + j + 1)) - mxI (hgtM k t i) (if 0 < j then hgtM k t (k.loads.length + j) else 0))
theorem tdiv_b {z d : Int} (d0 : 1 ≤ d) (z0 : -1125899906842624 ≤ z) (z1 : z ≤ 1125899906842624) : -1125899906842624 ≤ z.tdiv d ∧ z.tdiv d ≤ 1125899906842624 := by
  rcases Int.lt_or_le z 0 with h | h
  · obtain ⟨p, rfl⟩ : ∃ p, z = -p := ⟨-z, by omega⟩
    rw [Int.neg_tdiv, Int.tdiv_eq_ediv_of_nonneg (by omega)]
    have h1 := Int.ediv_le_self d (show 0 ≤ p by omega)
    have h2 := Int.ediv_nonneg (show 0 ≤ p by omega) (show 0 ≤ d by omega)
    omega
  · rw [Int.tdiv_eq_ediv_of_nonneg h]
    have h1 := Int.ediv_le_self d h
    have h2 := Int.ediv_nonneg h (show 0 ≤ d by omega)
    omega

theorem floor_eq (n d : Int) (d0 : 0 < d) : (if n.tmod d < 0 then n.tdiv d - 1 else n.tdiv d) = floorM n d := by
  unfold floorM
  rcases Int.lt_or_le n 0 with h | h
  · rw [if_pos h]
    obtain ⟨p, rfl⟩ : ∃ p, n = -p := ⟨-n, by omega⟩
    rw [Int.neg_tmod, Int.neg_tdiv, Int.neg_neg, Int.tmod_eq_emod_of_nonneg (by omega), Int.tdiv_eq_ediv_of_nonneg (by omega), Int.tdiv_eq_ediv_of_nonneg (by omega)]
    have h1 := Int.emod_nonneg p (show d ≠ 0 by omega)
    have h2 := Int.emod_lt_of_pos p d0
    have h3 := Int.emod_add_mul_ediv p d
    generalize hr : p % d = r at *
    generalize hq : p / d = q at *
    have h4 : (p + d - 1) / d = if r = 0 then q else q + 1 := by
      split
      · rename_i e
        rw [show p + d - 1 = (d - 1) + d * q by omega, Int.add_mul_ediv_left _ _ (by omega), Int.ediv_eq_zero_of_lt (by omega) (by omega)]
        omega
      · rename_i e
        rw [show p + d - 1 = (r - 1) + d * (q + 1) by rw [Int.mul_add]; omega, Int.add_mul_ediv_left _ _ (by omega), Int.ediv_eq_zero_of_lt (by omega) (by omega)]
        omega
    rw [h4]
    by_cases e : r = 0
    · rw [if_neg (by omega), if_pos e]
    · rw [if_pos (by omega), if_neg e]
      omega
  · rw [if_neg (by have := Int.tmod_nonneg d h; omega), if_neg (by omega)]
theorem hgt_rai {k : Kn} (r : Right k) (t : Tr) {v : Int} (v0 : 0 ≤ v) (v1 : v < marksM k) : gt (raisedM k t) v = hgtM k t v := by
  rw [gt_rai r t v0 v1, hgtM]
  split
  · rfl
  · congr 1
    omega
theorem find_id {l : List Ld} (hn : (l.map (·.id)).Nodup) {i : Nat} {x : Ld} (hx : l[i]? = some x) : find l x.id = i := by
  refine find_at hx rfl fun j y hj hy e => ?_
  have h1 : (l.map (·.id))[j]? = some x.id := by rw [List.getElem?_map, hy]; simp [e]
  have h2 : (l.map (·.id))[i]? = some x.id := by rw [List.getElem?_map, hx]; rfl
  have hjl := (List.getElem?_eq_some_iff.1 h1).1
  have hil := (List.getElem?_eq_some_iff.1 h2).1
  have := List.pairwise_iff_getElem.1 hn j i hjl hil hj
  rw [(List.getElem?_eq_some_iff.1 h1).2, (List.getElem?_eq_some_iff.1 h2).2] at this
  exact this rfl
theorem nodup_l {k : Kn} (o : Order k) : (k.loads.map (·.id)).Nodup := (List.nodup_append.1 o.ids).1
theorem nodup_d {k : Kn} (o : Order k) : (k.draws.map (·.id)).Nodup := (List.nodup_append.1 (List.nodup_append.1 o.ids).2.1).1
theorem not_load {k : Kn} (o : Order k) {x : Ld} (hx : x ∈ k.draws) : find k.loads x.id = -1 := by
  refine find_none fun j y hj hy e => ?_
  have h := (List.nodup_append.1 o.ids).2.2 y.id (List.mem_map_of_mem (List.mem_of_getElem? hy)) x.id (List.mem_append_left _ (List.mem_map_of_mem hx))
  exact h e
/-- What is told of two marks holds of true heights. -/
theorem between_in {k : Kn} (hc : check k = 0) {H : Int → Int} (f : Feas (netM k []) H) {a b : Int} (a0 : 0 ≤ a) (a1 : a < marksM k) (b0 : 0 ≤ b) (b1 : b < marksM k) : (betweenM k a b).2 = 0 ∧ inS (H b - H a) (betweenM k a b).1 = true := by
  have N := Net.base hc
  have h1 := N.le a0 a1 b0 b1 f
  have h2 := N.le b0 b1 a0 a1 f
  have hF := N.fin_of a0 a1 f
  unfold betweenM
  rw [above_eq, above_eq, if_pos hF]
  refine ⟨rfl, ?_⟩
  simp only [inS, decide_eq_true_eq]
  omega
theorem hgt_load {k : Kn} {t : Tr} {i : Nat} {n : Int} (hi : i < k.loads.length) (hn : t.loads[i]? = some n) : hgtM k t ((i : Int) + 1) - hgtM k t i = n := by
  unfold hgtM
  rw [if_pos (by omega), if_pos (by omega), show ((i : Int) + 1).toNat = i + 1 by omega, show ((i : Nat) : Int).toNat = i by omega, pfx_succ hn]
  omega
theorem hgt_drawn (k : Kn) (t : Tr) {j : Nat} : hgtM k t (drawnM k j) = pfx t.draws j := by
  unfold drawnM
  split
  · rename_i e
    obtain rfl : j = 0 := by omega
    unfold hgtM
    rw [if_pos (by omega)]
    simp
  · unfold hgtM
    rw [if_neg (by omega), show ((k.loads.length : Int) + (j : Int) - k.loads.length).toNat = j by omega]
theorem hgt_draw {k : Kn} {t : Tr} {j : Nat} {n : Int} (hn : t.draws[j]? = some n) : hgtM k t (drawnM k ((j : Int) + 1)) - hgtM k t (drawnM k j) = n := by
  have h1 := hgt_drawn k t (j := j + 1)
  have h2 := hgt_drawn k t (j := j)
  rw [show ((j : Int) + 1) = ((j + 1 : Nat) : Int) by push_cast; rfl, h1, h2, pfx_succ hn]
  omega
theorem run_load {k : Kn} (hc : check k = 0) {i : Nat} {x : Ld} (hx : k.loads[i]? = some x) : runM k x.id x.id = betweenM k i ((i : Int) + 1) := by
  have hf := find_id (nodup_l (order_of_check hc)) hx
  unfold runM
  rw [if_neg (by simp [hc])]
  have hr : reachM k x.id x.id = ((i : Int), (i : Int) + 1, true) := by
    unfold reachM
    rw [hf, if_pos (by omega)]
  have ho : orderedB k.loads x.id x.id = true := by
    simp only [orderedB, hf, decide_eq_true_eq]
    omega
  simp [hr, ho]
theorem run_draw {k : Kn} (hc : check k = 0) {j : Nat} {x : Ld} (hx : k.draws[j]? = some x) : runM k x.id x.id = betweenM k (drawnM k j) (drawnM k ((j : Int) + 1)) := by
  have o := order_of_check hc
  have hf := find_id (nodup_d o) hx
  have hn := not_load o (List.mem_of_getElem? hx)
  unfold runM
  rw [if_neg (by simp [hc])]
  have hr : reachM k x.id x.id = (drawnM k j, drawnM k ((j : Int) + 1), true) := by
    unfold reachM
    rw [hn, hf, if_neg (by omega)]
    have e : (if (j : Int) > 0 then (j : Int) else 0) = j := by split <;> omega
    rw [e]
    simp
  have ho : orderedB k.draws x.id x.id = true := by
    simp only [orderedB, hf, decide_eq_true_eq]
    omega
  simp [hr, ho]
end Go.Shaft
/- What a draw takes: least and most. -/
set_option linter.unusedVariables false
set_option linter.unusedSimpArgs false
namespace Go.Shaft
theorem great_congr {is is' : Int → Bool} : ∀ (f : Nat) (lo hi : Int), 0 ≤ lo → (∀ x, lo ≤ x → x ≤ hi → is x = is' x) → greatM is f lo hi = greatM is' f lo hi
  | 0, lo, hi, _, _ => rfl
  | f + 1, lo, hi, h0, h => by
    rw [greatM, greatM]
    by_cases hl : lo ≤ hi
    · rw [if_pos hl, if_pos hl]
      have hm := mid_in h0 hl
      rw [← h _ hm.1 hm.2]
      split
      · exact great_congr f _ _ (by omega) (fun x x0 x1 => h x (by omega) x1)
      · exact great_congr f _ _ h0 (fun x x0 x1 => h x x0 (by omega))
    · rw [if_neg hl, if_neg hl]
/-- It can be so much. -/
def canR (k : Kn) (o : Ov) (z : Int) : Bool := if z < 1 then true else if z ≤ 1048576 then canM k o z else false
theorem can_iff {k : Kn} (r : Right k) {o : Ov} (h : OvIn k o) {z : Int} (z0 : 0 ≤ z) (z1 : z ≤ 1048576) : canM k o z = true ↔ ∃ H, Feas (netM k (moreM o z)) H := by
  have N : Net k (moreM o z) := ⟨more_wf r h z0 z1⟩
  have n0 : (0 : Int) < marksM k := by have := N.wf.n0; rw [netn] at this; exact this
  exact N.fin_iff (a := 0) (by omega) n0
theorem feas_z {k : Kn} {o : Ov} {H : Int → Int} {z : Int} : Feas (netM k (moreM o z)) H ↔ Feas (netM k []) H ∧ ∀ p ∈ pairsL o, z ≤ H p.2 - H p.1 := by
  constructor
  · intro f
    refine ⟨fun t ht => f t ?_, fun p hp => ?_⟩
    · rw [links0] at ht
      exact List.mem_append_left _ ht
    · have := f ⟨p.2, p.1, -z, 0⟩ (List.mem_append_right _ (List.mem_map.2 ⟨p, hp, rfl⟩))
      simp only at this
      omega
  · rintro ⟨f, g⟩ t ht
    rcases List.mem_append.1 ht with ht | ht
    · exact f t (by rw [links0]; exact ht)
    · obtain ⟨p, hp, rfl⟩ := List.mem_map.1 ht
      have := g p hp
      simp only
      omega
theorem can_mono {k : Kn} (r : Right k) {o : Ov} (h : OvIn k o) : ∀ x y : Int, x ≤ y → canR k o y = true → canR k o x = true := by
  intro x y hxy hy
  unfold canR at hy ⊢
  by_cases h1 : x < 1
  · rw [if_pos h1]
  · rw [if_neg h1]
    rw [if_neg (by omega)] at hy
    by_cases h2 : y ≤ 1048576
    · rw [if_pos h2] at hy
      rw [if_pos (by omega)]
      obtain ⟨H, f⟩ := (can_iff r h (by omega) h2).1 hy
      obtain ⟨f1, f2⟩ := feas_z.1 f
      exact (can_iff r h (by omega) (by omega)).2 ⟨H, feas_z.2 ⟨f1, fun p hp => by have := f2 p hp; omega⟩⟩
    · rw [if_neg h2] at hy
      cases hy
theorem most_spec {k : Kn} (r : Right k) {o : Ov} (h : OvIn k o) {z : Int} (z1 : 1 ≤ z) (z2 : z ≤ 1048576) : (∃ H, Feas (netM k (moreM o z)) H) ↔ z ≤ mostN k o := by
  have e : mostN k o = greatM (canR k o) 1048577 1 1048576 := by
    unfold mostN
    exact great_congr _ _ _ (by omega) (fun x x0 x1 => by rw [canR, if_neg (by omega), if_pos x1])
  rw [e, ← great_spec (canR k o) (can_mono r h) 1048577 1 1048576 (by omega) (by omega) (by omega) z z1 z2, ← can_iff r h (by omega) z2, canR, if_neg (by omega), if_pos z2]
theorem least_fold {k : Kn} : ∀ (l : List (Int × Int)) (q : Int × Tr), ∃ r, l.foldl (stepL k) (some q) = some r ∧ r.1 ≤ q.1 ∧ (∀ p ∈ l, r.1 ≤ loOf k p) ∧ (r.1 = q.1 ∨ ∃ p ∈ l, r.1 = loOf k p)
  | [], q => ⟨q, rfl, Int.le_refl _, by simp, .inl rfl⟩
  | p :: l, q => by
    rw [List.foldl_cons]
    by_cases h : loOf k p < q.1
    · have e : stepL k (some q) p = some (loOf k p, weightsM k (settleM (netM k []) p.2).1) := if_pos h
      rw [e]
      obtain ⟨r, e1, h1, h2, h3⟩ := least_fold l (loOf k p, weightsM k (settleM (netM k []) p.2).1)
      refine ⟨r, e1, by simp only at h1; omega, ?_, ?_⟩
      · intro x hx
        rcases List.mem_cons.1 hx with rfl | hx
        · exact h1
        · exact h2 x hx
      · rcases h3 with h3 | ⟨x, hx, h3⟩
        · exact .inr ⟨p, List.mem_cons_self, h3⟩
        · exact .inr ⟨x, List.mem_cons_of_mem _ hx, h3⟩
    · have e : stepL k (some q) p = some q := if_neg h
      rw [e]
      obtain ⟨r, e1, h1, h2, h3⟩ := least_fold l q
      refine ⟨r, e1, h1, ?_, ?_⟩
      · intro x hx
        rcases List.mem_cons.1 hx with rfl | hx
        · omega
        · exact h2 x hx
      · rcases h3 with h3 | ⟨x, hx, h3⟩
        · exact .inl h3
        · exact .inr ⟨x, List.mem_cons_of_mem _ hx, h3⟩
theorem least_spec (k : Kn) (o : Ov) : (∀ p ∈ pairsL o, (leastM k o).1 ≤ loOf k p) ∧ ∃ p ∈ pairsL o, (leastM k o).1 = loOf k p := by
  unfold leastM
  rw [pairsL, List.foldl_cons]
  have e : stepL k none (o.a, o.b) = some (loOf k (o.a, o.b), weightsM k (settleM (netM k []) (o.a, o.b).2).1) := rfl
  rw [e]
  obtain ⟨r, e1, h1, h2, h3⟩ := least_fold (k := k) [(o.c, o.b), (o.a, o.d), (o.c, o.d)] (loOf k (o.a, o.b), weightsM k (settleM (netM k []) (o.a, o.b).2).1)
  rw [e1]
  refine ⟨?_, ?_⟩
  · intro p hp
    rcases List.mem_cons.1 hp with rfl | hp
    · exact h1
    · exact h2 p hp
  · rcases h3 with h3 | ⟨p, hp, h3⟩
    · exact ⟨_, List.mem_cons_self, h3⟩
    · exact ⟨p, List.mem_cons_of_mem _ hp, h3⟩
end Go.Shaft
/- What is told of what a draw takes holds of true weights. -/
set_option linter.unusedVariables false
set_option linter.unusedSimpArgs false
namespace Go.Shaft
def ovOf (k : Kn) (j i : Int) : Ov := ⟨i, i + 1, drawnM k j, drawnM k (j + 1)⟩
theorem takes_at {k : Kn} (hc : check k = 0) (hF : fin? (netM k []) 0 = true) {i j : Nat} {x y : Ld} (hx : k.loads[i]? = some x) (hy : k.draws[j]? = some y) : takesM k y.id x.id = (ovOf k j i, 0) := by
  have o := order_of_check hc
  have h1 := find_id (nodup_l o) hx
  have h2 := find_id (nodup_d o) hy
  unfold takesM
  rw [if_neg (by simp [hc]), h1, h2, if_neg (by omega), if_neg (by rw [above_eq]; simp [hF])]
  rfl
theorem taken_eq {k : Kn} {t : Tr} (ht : TrOk k t) {j i : Nat} (hj : j < k.draws.length) (hi : i < k.loads.length) : takenM k t j i = mxI 0 (mnI (hgtM k t ((i : Int) + 1)) (hgtM k t (drawnM k ((j : Int) + 1))) - mxI (hgtM k t i) (hgtM k t (drawnM k j))) := by
  have e1 : drawnM k ((j : Int) + 1) = k.loads.length + (j : Int) + 1 := by
    unfold drawnM
    rw [if_neg (by omega)]
    omega
  have e2 : hgtM k t (drawnM k j) = if 0 < (j : Int) then hgtM k t (k.loads.length + (j : Int)) else 0 := by
    unfold drawnM
    by_cases h : (j : Int) = 0
    · rw [if_pos h, if_neg (by omega), hgtM, if_pos (by omega)]
      simp
    · rw [if_neg h, if_pos (by omega)]
  rw [takenM, e1, e2]
theorem ov_in {k : Kn} {j i : Nat} (hj : j < k.draws.length) (hi : i < k.loads.length) : OvIn k (ovOf k j i) := by
  have hm : (marksM k : Int) = 1 + k.loads.length + k.draws.length := by simp [marksM]
  have d1 := drawn_in (k := k) (a := (j : Int)) (by omega) (by omega)
  have d2 := drawn_in (k := k) (a := (j : Int) + 1) (by omega) (by omega)
  refine ⟨?_, ?_, ?_, ?_, ?_, ?_, ?_, ?_⟩ <;> simp only [ovOf] <;> omega
/-- What a draw takes lies within what is told. -/
theorem took_in {k : Kn} (hc : check k = 0) {t : Tr} (ht : TrOk k t) (f : Feas (netM k []) (gt (raisedM k t))) {i j : Nat} {x y : Ld} (hx : k.loads[i]? = some x) (hy : k.draws[j]? = some y) : (tookM k y.id x.id).2 = 0 ∧ inS (takenM k t j i) (tookM k y.id x.id).1 = true := by
  have N := Net.base hc
  have r := right_of_check hc
  have n0 : (0 : Int) < marksM k := by have := N.wf.n0; rw [netn] at this; exact this
  have hF := N.fin_of (a := 0) (by omega) n0 f
  have hil := (List.getElem?_eq_some_iff.1 hx).1
  have hjl := (List.getElem?_eq_some_iff.1 hy).1
  have hin := ov_in (k := k) hjl hil
  have hH : ∀ v : Int, 0 ≤ v → v < marksM k → gt (raisedM k t) v = hgtM k t v := fun v v0 v1 => hgt_rai r t v0 v1
  have e : tookM k y.id x.id = (⟨(leastM k (ovOf k j i)).1, (mostM k (ovOf k j i)).1⟩, 0) := by
    unfold tookM
    rw [takes_at hc hF hx hy]
    rw [if_neg (by simp)]
  have hT := taken_eq ht hjl hil
  have ga : gt (raisedM k t) (ovOf k j i).a = hgtM k t i := hH _ hin.a0 hin.a1
  have gb : gt (raisedM k t) (ovOf k j i).b = hgtM k t ((i : Int) + 1) := hH _ hin.b0 hin.b1
  have gc : gt (raisedM k t) (ovOf k j i).c = hgtM k t (drawnM k j) := hH _ hin.c0 hin.c1
  have gd : gt (raisedM k t) (ovOf k j i).d = hgtM k t (drawnM k ((j : Int) + 1)) := hH _ hin.d0 hin.d1
  have hlo : ∀ p ∈ pairsL (ovOf k j i), loOf k p ≤ mxI 0 (gt (raisedM k t) p.2 - gt (raisedM k t) p.1) := by
    intro p hp
    obtain ⟨q0, q1, q2, q3⟩ := pairs_in hin p hp
    have h1 := N.le q2 q3 q0 q1 f
    have h2 : loOf k p = mxI 0 (-dst (netM k []) p.2 p.1) := rfl
    rw [h2]
    unfold mxI
    split <;> split <;> omega
  obtain ⟨hl, _⟩ := least_spec k (ovOf k j i)
  have mem : ∀ p, p ∈ pairsL (ovOf k j i) ↔ p = ((ovOf k j i).a, (ovOf k j i).b) ∨ p = ((ovOf k j i).c, (ovOf k j i).b) ∨ p = ((ovOf k j i).a, (ovOf k j i).d) ∨ p = ((ovOf k j i).c, (ovOf k j i).d) := by
    intro p
    simp [pairsL]
  have l1 := Int.le_trans (hl _ ((mem _).2 (.inl rfl))) (hlo _ ((mem _).2 (.inl rfl)))
  have l2 := Int.le_trans (hl _ ((mem _).2 (.inr (.inl rfl)))) (hlo _ ((mem _).2 (.inr (.inl rfl))))
  have l3 := Int.le_trans (hl _ ((mem _).2 (.inr (.inr (.inl rfl))))) (hlo _ ((mem _).2 (.inr (.inr (.inl rfl)))))
  have l4 := Int.le_trans (hl _ ((mem _).2 (.inr (.inr (.inr rfl))))) (hlo _ ((mem _).2 (.inr (.inr (.inr rfl)))))
  simp only [ga, gb, gc, gd] at l1 l2 l3 l4
  have hw := load_in f hx
  have hr := r.l x (List.mem_of_getElem? hx)
  have ha := hH i (by omega) (by have := hin.a1; exact this)
  have hb := hH ((i : Int) + 1) (by omega) (by have := hin.b1; exact this)
  rw [ha, hb] at hw
  have hmost : takenM k t j i ≤ (mostM k (ovOf k j i)).1 := by
    have hmm : (mostM k (ovOf k j i)).1 = mostN k (ovOf k j i) ∨ (mostM k (ovOf k j i)).1 = 0 ∧ mostN k (ovOf k j i) < 1 := by
      unfold mostM
      split
      · rename_i h; exact .inr ⟨rfl, h⟩
      · exact .inl rfl
    have hn := mostN_in k (ovOf k j i)
    by_cases hz : 1 ≤ takenM k t j i
    · have h1 : ∀ p ∈ pairsL (ovOf k j i), takenM k t j i ≤ gt (raisedM k t) p.2 - gt (raisedM k t) p.1 := by
        intro p hp
        rcases (mem p).1 hp with rfl | rfl | rfl | rfl <;> simp only [ga, gb, gc, gd] <;> rw [hT] at hz ⊢ <;> unfold mxI mnI at hz ⊢ <;> (repeat' split at hz) <;> (repeat' split) <;> omega
      have h2 : takenM k t j i ≤ 1048576 := by
        have := h1 _ ((mem _).2 (.inl rfl))
        simp only [ga, gb] at this
        omega
      have := (most_spec r hin hz h2).1 ⟨_, feas_z.2 ⟨f, h1⟩⟩
      omega
    · omega
  rw [e]
  refine ⟨rfl, ?_⟩
  simp only [inS, decide_eq_true_eq]
  refine ⟨?_, hmost⟩
  rw [hT]
  unfold mxI mnI at *
  (repeat' split at l1) <;> (repeat' split at l2) <;> (repeat' split at l3) <;> (repeat' split at l4) <;> (repeat' split) <;> omega
end Go.Shaft
/- True weights: hours, feet, and what is taken together. -/
set_option linter.unusedVariables false
set_option linter.unusedSimpArgs false
namespace Go.Shaft
theorem pfx_step {l : List Int} (h : ∀ n ∈ l, 0 ≤ n ∧ n ≤ 16777216) (i : Nat) : pfx l i ≤ pfx l (i + 1) := by
  cases e : l[i]? with
  | some n =>
    rw [pfx_succ e]
    have := h n (List.mem_of_getElem? e)
    omega
  | none =>
    have : l.length ≤ i := List.getElem?_eq_none_iff.1 e
    unfold pfx
    rw [List.take_of_length_le this, List.take_of_length_le (by omega)]
    omega
theorem pfx_mono {l : List Int} (h : ∀ n ∈ l, 0 ≤ n ∧ n ≤ 16777216) (i : Nat) : ∀ d : Nat, pfx l i ≤ pfx l (i + d)
  | 0 => Int.le_refl _
  | d + 1 => Int.le_trans (pfx_mono h i d) (pfx_step h (i + d))
theorem floor_ediv (n d : Int) (d0 : 0 < d) : floorM n d = n / d := by
  unfold floorM
  split
  · rename_i h
    obtain ⟨p, rfl⟩ : ∃ p, n = -p := ⟨-n, by omega⟩
    rw [Int.neg_neg, Int.tdiv_eq_ediv_of_nonneg (by omega)]
    have h2 := Int.emod_lt_of_pos (p + d - 1) d0
    have h1 := Int.emod_nonneg (p + d - 1) (show d ≠ 0 by omega)
    have h3 := Int.emod_add_mul_ediv (p + d - 1) d
    generalize (p + d - 1) / d = q at *
    generalize (p + d - 1) % d = r at *
    rw [show -p = (d - 1 - r) + d * (-q) by rw [Int.mul_neg]; omega, Int.add_mul_ediv_left _ _ (by omega), Int.ediv_eq_zero_of_lt (by omega) (by omega)]
    omega
  · rw [Int.tdiv_eq_ediv_of_nonneg (by omega)]
theorem floor_mono {a b d : Int} (d0 : 0 < d) (h : a ≤ b) : floorM a d ≤ floorM b d := by
  rw [floor_ediv _ _ d0, floor_ediv _ _ d0]
  exact Int.ediv_le_ediv d0 h
def cutN (n m : Nat) : Nat := if n ≤ m then n else m
theorem cut_all {n m : Nat} (h : m ≤ n) : cutN n m = m := by unfold cutN; split <;> omega
theorem cut_yes {l : List Ld} (hp : l.Pairwise (fun x y => x.hour ≤ y.hour)) {at_ : Int} {n : Nat} {v : Ld} (hv : l[n]? = some v) (h : v.hour ≤ at_) : cutN (n + 1) (byHr l at_) = n + 1 := by
  have := (byHr_sorted hp at_ n v hv).1 h
  unfold cutN
  rw [if_pos (by omega)]
theorem cut_no {l : List Ld} (hp : l.Pairwise (fun x y => x.hour ≤ y.hour)) {at_ : Int} {n : Nat} {v : Ld} (hv : l[n]? = some v) (h : ¬ v.hour ≤ at_) : cutN (n + 1) (byHr l at_) = cutN n (byHr l at_) := by
  have : ¬ n < byHr l at_ := fun h' => h ((byHr_sorted hp at_ n v hv).2 h')
  unfold cutN
  split <;> split <;> omega
theorem cut_zero (m : Nat) : cutN 0 m = 0 := rfl
theorem cut_le (n m : Nat) : cutN n m ≤ n := by unfold cutN; split <;> omega
theorem hgt_zero (k : Kn) (t : Tr) : hgtM k t 0 = 0 := by
  unfold hgtM
  rw [if_pos (by omega)]
  simp
theorem hgt_ld {k : Kn} (t : Tr) {i : Nat} (h : i ≤ k.loads.length) : hgtM k t i = pfx t.loads i := by
  unfold hgtM
  rw [if_pos (by omega)]
  rfl
theorem hgt_dr (k : Kn) (t : Tr) (j : Nat) : hgtM k t ((k.loads.length : Int) + j + 1) = pfx t.draws (j + 1) := by
  have := hgt_drawn k t (j := j + 1)
  rw [← this]
  unfold drawnM
  rw [if_neg (by omega)]
  congr 1
/-- What all draws take of a load: the first so many. -/
def allM (k : Kn) (t : Tr) (i m : Nat) : Int := mxI 0 (mnI (pfx t.loads (i + 1)) (pfx t.draws m) - pfx t.loads i)
/-- What a draw takes of all loads: the first so many. -/
def mineM (k : Kn) (t : Tr) (j m : Nat) : Int := mxI 0 (mnI (pfx t.draws (j + 1)) (pfx t.loads m) - pfx t.draws j)
theorem taken_pfx {k : Kn} {t : Tr} (ht : TrOk k t) {j i : Nat} (hj : j < k.draws.length) (hi : i < k.loads.length) : takenM k t j i = mxI 0 (mnI (pfx t.loads (i + 1)) (pfx t.draws (j + 1)) - mxI (pfx t.loads i) (pfx t.draws j)) := by
  have e1 := hgt_ld t (k := k) (i := i) (by omega)
  have e2 := hgt_ld t (k := k) (i := i + 1) (by omega)
  have e3 := hgt_drawn k t (j := j)
  have e4 := hgt_drawn k t (j := j + 1)
  rw [taken_eq ht hj hi, ← e1, ← e3, ← e2, ← e4]
  push_cast
  rfl
theorem all_zero (k : Kn) {t : Tr} (ht : TrOk k t) (i : Nat) : allM k t i 0 = 0 := by
  have h1 := pfx_bound ht.l i
  have h2 := pfx_bound ht.l (i + 1)
  unfold allM mxI mnI
  rw [pfx_zero]
  split <;> split <;> omega
theorem all_step {k : Kn} {t : Tr} (ht : TrOk k t) {j i : Nat} (hj : j < k.draws.length) (hi : i < k.loads.length) : allM k t i j + takenM k t j i = allM k t i (j + 1) := by
  rw [taken_pfx ht hj hi]
  have h1 := pfx_step ht.l i
  have h2 := pfx_step ht.d j
  have h3 := pfx_bound ht.l i
  have h4 := pfx_bound ht.d j
  unfold allM mxI mnI
  (repeat' split) <;> omega
theorem all_b {k : Kn} {t : Tr} (ht : TrOk k t) {i : Nat} {n : Int} (hn : t.loads[i]? = some n) (m : Nat) : 0 ≤ allM k t i m ∧ allM k t i m ≤ n := by
  have e := pfx_succ hn
  have h := ht.l n (List.mem_of_getElem? hn)
  unfold allM mxI mnI
  (repeat' split) <;> omega
theorem mine_zero (k : Kn) {t : Tr} (ht : TrOk k t) (j : Nat) : mineM k t j 0 = 0 := by
  have h1 := pfx_bound ht.d j
  have h2 := pfx_bound ht.d (j + 1)
  unfold mineM mxI mnI
  rw [pfx_zero]
  split <;> split <;> omega
theorem mine_step {k : Kn} {t : Tr} (ht : TrOk k t) {j i : Nat} (hj : j < k.draws.length) (hi : i < k.loads.length) : mineM k t j i + takenM k t j i = mineM k t j (i + 1) := by
  rw [taken_pfx ht hj hi]
  have h1 := pfx_step ht.l i
  have h2 := pfx_step ht.d j
  have h3 := pfx_bound ht.l i
  have h4 := pfx_bound ht.d j
  unfold mineM mxI mnI
  (repeat' split) <;> omega
theorem mine_b {k : Kn} {t : Tr} (ht : TrOk k t) {j : Nat} {n : Int} (hn : t.draws[j]? = some n) (m : Nat) : 0 ≤ mineM k t j m ∧ mineM k t j m ≤ n := by
  have e := pfx_succ hn
  have h := ht.d n (List.mem_of_getElem? hn)
  unfold mineM mxI mnI
  (repeat' split) <;> omega
/-- A draw is of loads that are charged. -/
theorem mine_all {k : Kn} (r : Right k) {t : Tr} (ht : TrOk k t) (f : Feas (netM k []) (gt (raisedM k t))) {j : Nat} {y : Ld} {n : Int} (hy : k.draws[j]? = some y) (hn : t.draws[j]? = some n) : mineM k t j k.loads.length = n := by
  have hj := (List.getElem?_eq_some_iff.1 hy).1
  have h1 := f _ (tie_mem (more := []) (tie4 hy))
  have hb := byHr_le k.loads y.hour
  have hm : (marksM k : Int) = 1 + k.loads.length + k.draws.length := by simp [marksM]
  have d1 := drawn_in (k := k) (a := (j : Int) + 1) (by omega) (by omega)
  simp only at h1
  rw [hgt_rai r t (by omega) (by omega), hgt_rai r t (by omega) (by omega), hgt_ld t hb] at h1
  have e4 := hgt_drawn k t (j := j + 1)
  rw [show ((j : Int) + 1) = ((j + 1 : Nat) : Int) by push_cast; rfl, e4] at h1
  have hmo := pfx_mono ht.l (byHr k.loads y.hour) (k.loads.length - byHr k.loads y.hour)
  rw [show byHr k.loads y.hour + (k.loads.length - byHr k.loads y.hour) = k.loads.length by omega] at hmo
  have e := pfx_succ hn
  have h := ht.d n (List.mem_of_getElem? hn)
  unfold mineM mxI mnI
  (repeat' split) <;> omega
theorem timed_ok {k : Kn} (hc : check k = 0) {h : Int} (h0 : 0 ≤ h) (h1 : h ≤ 16384) : timedM k h = 0 := by
  unfold timedM
  rw [if_neg (by simp [hc]), if_pos (by simp [inB]; omega)]
/-- What is held, truly. -/
theorem held_in {k : Kn} (hc : check k = 0) {t : Tr} (f : Feas (netM k []) (gt (raisedM k t))) {h : Int} (h0 : 0 ≤ h) (h1 : h ≤ 16384) : (heldM k h).2 = 0 ∧ inS (hgtM k t (byHr k.loads h) - pfx t.draws (byHr k.draws h)) (heldM k h).1 = true := by
  have r := right_of_check hc
  have hb := byHr_le k.loads h
  have hd := byHr_le k.draws h
  have hm : (marksM k : Int) = 1 + k.loads.length + k.draws.length := by simp [marksM]
  have d1 := drawn_in (k := k) (a := (byHr k.draws h : Int)) (by omega) (by omega)
  unfold heldM
  rw [timed_ok hc h0 h1, if_neg (by simp)]
  have := between_in hc f (a := drawnM k (byHr k.draws h)) (b := byHr k.loads h) (by omega) (by omega) (by omega) (by omega)
  rw [hgt_rai r t (by omega) (by omega), hgt_rai r t (by omega) (by omega), hgt_drawn] at this
  exact this
/-- Where a load lies, truly. -/
theorem below_in {k : Kn} (hc : check k = 0) {t : Tr} (f : Feas (netM k []) (gt (raisedM k t))) {h : Int} (h0 : 0 ≤ h) (h1 : h ≤ 16384) {i : Nat} {x : Ld} (hx : k.loads[i]? = some x) :
    (x.hour ≤ h ∧ (belowM k x.id h).2 = 0 ∧ (feetM k x.id h).2 = 0 ∧ inS (hgtM k t i - pfx t.draws (byHr k.draws h)) (belowM k x.id h).1 = true ∧ inS (floorM (hgtM k t i - pfx t.draws (byHr k.draws h)) k.per) (feetM k x.id h).1 = true) ∨
    (h < x.hour ∧ (belowM k x.id h).2 = 1 ∧ (feetM k x.id h).2 = 1) := by
  have r := right_of_check hc
  have hil := (List.getElem?_eq_some_iff.1 hx).1
  have hf := find_id (nodup_l (order_of_check hc)) hx
  have hd := byHr_le k.draws h
  have hm : (marksM k : Int) = 1 + k.loads.length + k.draws.length := by simp [marksM]
  have d1 := drawn_in (k := k) (a := (byHr k.draws h : Int)) (by omega) (by omega)
  have hg : k.loads.getD (find k.loads x.id).toNat default = x := by rw [hf, List.getD, show ((i : Int)).toNat = i by omega, hx]; rfl
  have hb : belowM k x.id h = if x.hour > h then (zSp, 1) else betweenM k (drawnM k (byHr k.draws h)) i := by
    unfold belowM
    rw [timed_ok hc h0 h1, if_neg (by simp), if_neg (by omega), hg, hf]
  by_cases hh : x.hour > h
  · right
    rw [if_pos hh] at hb
    refine ⟨hh, by rw [hb], ?_⟩
    unfold feetM
    rw [hb]
    simp
  · left
    rw [if_neg hh] at hb
    have := between_in hc f (a := drawnM k (byHr k.draws h)) (b := i) (by omega) (by omega) (by omega) (by omega)
    rw [hgt_rai r t (by omega) (by omega), hgt_rai r t (by omega) (by omega), hgt_drawn, ← hb] at this
    refine ⟨by omega, this.1, ?_, this.2, ?_⟩
    · unfold feetM
      rw [if_neg (by rw [this.1]; simp)]
    · unfold feetM
      rw [if_neg (by rw [this.1]; simp)]
      have h2 := this.2
      simp only [inS, decide_eq_true_eq] at h2 ⊢
      have hp := r.per
      exact ⟨floor_mono (by omega) h2.1, floor_mono (by omega) h2.2⟩
theorem hgt_cut_b {k : Kn} {t : Tr} (ht : TrOk k t) (hl : k.loads.length ≤ 20) (hd : k.draws.length ≤ 20) (n m : Nat) : 0 ≤ pfx t.loads (cutN n m) ∧ 0 ≤ pfx t.draws (cutN n m) := ⟨(pfx_bound ht.l _).1, (pfx_bound ht.d _).1⟩
end Go.Shaft
/- What a draw takes of all loads together; those between two sure ones. -/
set_option linter.unusedVariables false
set_option linter.unusedSimpArgs false
namespace Go.Shaft
/-- Heights of loads do not fall. -/
theorem load_mono {k : Kn} (r : Right k) {H : Int → Int} (f : Feas (netM k []) H) (i : Nat) : ∀ d : Nat, i + d ≤ k.loads.length → H i ≤ H ((i + d : Nat) : Int)
  | 0, _ => Int.le_refl _
  | d + 1, h => by
    have ih := load_mono r f i d (by omega)
    obtain ⟨x, hx⟩ : ∃ x, k.loads[i + d]? = some x := ⟨_, List.getElem?_eq_getElem (by omega)⟩
    have h1 := load_in f hx
    have h2 := r.l x (List.mem_of_getElem? hx)
    have e : ((i + d : Nat) : Int) + 1 = ((i + (d + 1) : Nat) : Int) := by push_cast; omega
    rw [e] at h1
    omega
theorem load_le {k : Kn} (r : Right k) {H : Int → Int} (f : Feas (netM k []) H) {i j : Nat} (hij : i ≤ j) (hj : j ≤ k.loads.length) : H i ≤ H j := by
  have := load_mono r f i (j - i) (by omega)
  rw [show i + (j - i) = j by omega] at this
  exact this
/-- Nothing is taken of a load that is charged later. -/
theorem most_late {k : Kn} (hc : check k = 0) {i j : Nat} {x y : Ld} (hx : k.loads[i]? = some x) (hy : k.draws[j]? = some y) (h : y.hour < x.hour) : mostN k (ovOf k j i) ≤ 0 := by
  have r := right_of_check hc
  have hil := (List.getElem?_eq_some_iff.1 hx).1
  have hjl := (List.getElem?_eq_some_iff.1 hy).1
  have hin := ov_in (k := k) hjl hil
  have hn := mostN_in k (ovOf k j i)
  rcases Int.lt_or_le 0 (mostN k (ovOf k j i)) with h0 | h0
  · obtain ⟨H, fH⟩ := (most_spec r hin (z := mostN k (ovOf k j i)) (by omega) (by omega)).2 (Int.le_refl _)
    obtain ⟨f, g⟩ := feas_z.1 fH
    have h1 : mostN k (ovOf k j i) ≤ H (drawnM k ((j : Int) + 1)) - H i := g ((ovOf k j i).a, (ovOf k j i).d) (by simp [pairsL])
    have h2 := f _ (tie_mem (more := []) (tie4 hy))
    simp only at h2
    have h3 : byHr k.loads y.hour ≤ i := by
      rcases Nat.lt_or_ge i (byHr k.loads y.hour) with h' | h'
      · have := (byHr_sorted (order_of_check hc).l y.hour i x hx).2 h'
        omega
      · exact h'
    have h4 := load_le r f h3 (by omega)
    omega
  · exact h0
theorem took_ok {k : Kn} (hc : check k = 0) (hF : fin? (netM k []) 0 = true) {i j : Nat} {x y : Ld} (hx : k.loads[i]? = some x) (hy : k.draws[j]? = some y) : tookM k y.id x.id = (⟨(leastM k (ovOf k j i)).1, (mostM k (ovOf k j i)).1⟩, 0) := by
  unfold tookM
  rw [takes_at hc hF hx hy]
  rw [if_neg (by simp)]
theorem most_fst (k : Kn) (o : Ov) : (mostM k o).1 = mostN k o := by
  have := mostN_in k o
  unfold mostM
  split
  · simp only; omega
  · rfl
/-- Surely something is taken exactly if all four differences are surely more than nothing. -/
theorem least_pos (k : Kn) (o : Ov) : 0 < (leastM k o).1 ↔ ∀ p ∈ pairsL o, dst (netM k []) p.2 p.1 < 0 := by
  obtain ⟨h1, p, hp, h2⟩ := least_spec k o
  have e : ∀ p, loOf k p = mxI 0 (-dst (netM k []) p.2 p.1) := fun _ => rfl
  constructor
  · intro h q hq
    have := h1 q hq
    rw [e] at this
    unfold mxI at this
    split at this <;> omega
  · intro h
    rw [h2, e]
    have := h p hp
    unfold mxI
    split <;> omega
theorem least_b {k : Kn} (r : Right k) (N : Net k []) (hF : fin? (netM k []) 0 = true) {o : Ov} (hin : OvIn k o) : 0 ≤ (leastM k o).1 := by
  obtain ⟨h1, p, hp, h2⟩ := least_spec k o
  have e : ∀ p, loOf k p = mxI 0 (-dst (netM k []) p.2 p.1) := fun _ => rfl
  rw [h2, e]
  unfold mxI
  split <;> omega
theorem dst_down {k : Kn} (r : Right k) (N : Net k []) (hF : fin? (netM k []) 0 = true) {i j : Nat} (hij : i ≤ j) (hj : j ≤ k.loads.length) : dst (netM k []) j i ≤ 0 := by
  have hm : (marksM k : Int) = 1 + k.loads.length + k.draws.length := by simp [marksM]
  have hFj : fin? (netM k []) j = true := by rw [N.same (a := (j : Int)) (b := 0) (by omega) (by omega) (by omega) (by omega)]; exact hF
  have f := N.feas (a := (j : Int)) (by omega) (by omega) hFj
  have h0 := N.zero (a := (j : Int)) (by omega) (by omega) hFj
  have := load_le r f hij hj
  omega
/-- A load between two sure ones that surely weighs something is sure. -/
theorem sure_between {k : Kn} (hc : check k = 0) (hF : fin? (netM k []) 0 = true) {a i b j : Nat} (hj : j < k.draws.length) (hai : a ≤ i) (hib : i ≤ b) (hb : b < k.loads.length)
    (h1 : 0 < (leastM k (ovOf k j a)).1) (h2 : 0 < (leastM k (ovOf k j b)).1) (h3 : 0 < (betweenM k i ((i : Int) + 1)).1.lo) : 0 < (leastM k (ovOf k j i)).1 := by
  have r := right_of_check hc
  have N := Net.base hc
  have hm : (marksM k : Int) = 1 + k.loads.length + k.draws.length := by simp [marksM]
  have d1 := drawn_in (k := k) (a := (j : Int)) (by omega) (by omega)
  have d2 := drawn_in (k := k) (a := (j : Int) + 1) (by omega) (by omega)
  have fin : ∀ v : Int, 0 ≤ v → v < marksM k → fin? (netM k []) v = true := fun v v0 v1 => by rw [N.same v0 v1 (b := 0) (by omega) (by omega)]; exact hF
  rw [least_pos] at h1 h2 ⊢
  have g1 := h1 ((ovOf k j a).c, (ovOf k j a).b) (by simp [pairsL])
  have g2 := h1 ((ovOf k j a).c, (ovOf k j a).d) (by simp [pairsL])
  have g3 := h2 ((ovOf k j b).a, (ovOf k j b).d) (by simp [pairsL])
  simp only [ovOf] at g1 g2 g3
  have e3 : 0 < -dst (netM k []) ((i : Int) + 1) i := by
    unfold betweenM at h3
    rw [above_eq, above_eq] at h3
    simp only [fin i (by omega) (by omega), if_true] at h3
    exact h3
  have t1 := N.tri (a := (i : Int) + 1) (b := (a : Int) + 1) (c := drawnM k j) (by omega) (by omega) (by omega) (by omega) (by omega) (by omega) (fin _ (by omega) (by omega))
  have t2 := N.tri (a := drawnM k ((j : Int) + 1)) (b := (b : Int)) (c := (i : Int)) (by omega) (by omega) (by omega) (by omega) (by omega) (by omega) (fin _ (by omega) (by omega))
  have u1 := dst_down r N hF (i := a + 1) (j := i + 1) (by omega) (by omega)
  have u2 := dst_down r N hF (i := i) (j := b) hib (by omega)
  push_cast at u1
  intro p hp
  simp only [pairsL, List.mem_cons, List.not_mem_nil, or_false, ovOf] at hp
  rcases hp with rfl | rfl | rfl | rfl <;> simp only <;> omega
/-- A kiln that is not contradicted has true weights. -/
theorem some_true {k : Kn} (hc : check k = 0) (hF : fin? (netM k []) 0 = true) : ∃ t, TrOk k t ∧ Feas (netM k []) (gt (raisedM k t)) := by
  have r := right_of_check hc
  have N := Net.base hc
  have n0 : (0 : Int) < marksM k := by have := N.wf.n0; rw [netn] at this; exact this
  have f := N.feas (a := 0) (by omega) n0 hF
  exact ⟨weightsM k (settleM (netM k []) 0).1, weights_ok r f, feas_raised r f⟩
theorem there_iff {k : Kn} (hc : check k = 0) {j : Nat} {y : Ld} (hy : k.draws[j]? = some y) : thereM k (decide (0 ≤ find k.draws y.id)) = if fin? (netM k []) 0 then 0 else 9 := by
  have h2 := find_id (nodup_d (order_of_check hc)) hy
  unfold thereM
  rw [if_neg (by simp [hc]), h2, if_neg (by simp), above_eq]
  cases fin? (netM k []) 0 <;> simp
theorem sources_eq {k : Kn} (hc : check k = 0) {j : Nat} {y : Ld} (hy : k.draws[j]? = some y) (hF : fin? (netM k []) 0 = true) : sourcesM k y.id = ((sortedM k.loads (fun i => (tookM k y.id i).1)).1, (sortedM k.loads (fun i => (tookM k y.id i).1)).2, 0) := by
  unfold sourcesM
  rw [there_iff hc hy, hF, if_neg (by simp)]
theorem sources_err {k : Kn} (hc : check k = 0) {j : Nat} {y : Ld} (hy : k.draws[j]? = some y) (hF : fin? (netM k []) 0 = false) : sourcesM k y.id = ([], [], 9) := by
  unfold sourcesM
  rw [there_iff hc hy, hF]
  simp
theorem sources_bad {k : Kn} (hc : check k ≠ 0) (d : Int) : (sourcesM k d).2.2 = check k := by
  have e : thereM k (decide (0 ≤ find k.draws d)) = check k := by unfold thereM; rw [if_pos hc]
  unfold sourcesM
  rw [e, if_pos hc]
theorem run_bad {k : Kn} (hc : check k ≠ 0) (a b : Int) : (runM k a b).2 = check k := by
  unfold runM
  rw [if_pos hc]
theorem run_draw_err {k : Kn} (hc : check k = 0) {j : Nat} {y : Ld} (hy : k.draws[j]? = some y) : (runM k y.id y.id).2 = if fin? (netM k []) 0 then 0 else 9 := by
  have N := Net.base hc
  have hjl := (List.getElem?_eq_some_iff.1 hy).1
  have hm : (marksM k : Int) = 1 + k.loads.length + k.draws.length := by simp [marksM]
  have d1 := drawn_in (k := k) (a := (j : Int)) (by omega) (by omega)
  rw [run_draw hc hy]
  unfold betweenM
  rw [above_eq, above_eq, N.same d1.1 d1.2 (b := 0) (by omega) (by omega)]
  cases fin? (netM k []) 0 <;> rfl
theorem run_load_err {k : Kn} (hc : check k = 0) {i : Nat} {x : Ld} (hx : k.loads[i]? = some x) (hF : fin? (netM k []) 0 = true) : (runM k x.id x.id).2 = 0 := by
  have N := Net.base hc
  have hil := (List.getElem?_eq_some_iff.1 hx).1
  have hm : (marksM k : Int) = 1 + k.loads.length + k.draws.length := by simp [marksM]
  rw [run_load hc hx]
  unfold betweenM
  rw [above_eq, above_eq, N.same (a := (i : Int)) (by omega) (by omega) (b := 0) (by omega) (by omega), hF]
  rfl
theorem sorted_fst {l : List Ld} {took : Int → Sp} {x : Ld} (hx : x ∈ l) : decide (x.id ∈ (sortedM l took).1) = decide (0 < (took x.id).lo) := by
  simp only [sortedM, List.mem_filter, List.mem_map, decide_eq_decide, decide_eq_true_eq]
  exact ⟨fun h => h.2, fun h => ⟨⟨x, hx, rfl⟩, h⟩⟩
theorem sorted_snd {l : List Ld} {took : Int → Sp} {x : Ld} (hx : x ∈ l) : decide (x.id ∈ (sortedM l took).2) = decide (0 < (took x.id).hi) := by
  simp only [sortedM, List.mem_filter, List.mem_map, decide_eq_decide, decide_eq_true_eq]
  exact ⟨fun h => h.2, fun h => ⟨⟨x, hx, rfl⟩, h⟩⟩
theorem sorted_len (l : List Ld) (took : Int → Sp) : (sortedM l took).1.length ≤ l.length ∧ (sortedM l took).2.length ≤ l.length := by
  have h1 := List.length_filter_le (fun i => decide (0 < (took i).lo)) (l.map (·.id))
  have h2 := List.length_filter_le (fun i => decide (0 < (took i).hi)) (l.map (·.id))
  simp only [List.length_map] at h1 h2
  exact ⟨h1, h2⟩
end Go.Shaft
/- The specification's table tells what settling tells; its models. -/
set_option linter.unusedVariables false
set_option linter.unusedSimpArgs false
namespace Go.Shaft
/-- The table of ties between a kiln's marks. -/
def tb (k : Kn) (l : List Tie) : Tb := tabT (marksM k) l
def tokB (k : Kn) (l : List Tie) : Bool := okT (marksM k) (tb k l)
theorem tab_ok {k : Kn} {more : List Tie} (N : Net k more) {a : Int} (a0 : 0 ≤ a) (a1 : a < marksM k) : tokB k (tiesM k ++ more) = fin? (netM k more) a := by
  have w := N.wf
  have hn : (netM k more).n.toNat = marksM k := by simp [netM]
  cases h : fin? (netM k more) a with
  | true =>
    have := ((N.settled a0 a1 h).tab w a0 (by rw [netn]; exact a1) (Net.conn a0 a1)).1
    rw [hn] at this
    exact this
  | false =>
    rcases settle_cases w a0 (by rw [netn]; exact a1) with ⟨h', b, e, s⟩ | ⟨h', b, v, e, g, tm, v0, v1, hk⟩
    · rw [fin?, e] at h
      cases h
    · obtain ⟨u, u0, u1, hp, hs, _⟩ := circle_spec w g tm v0 v1 hk
      have := tab_clash w hp u0 u1 hs
      rw [hn] at this
      exact this
theorem tab_at {k : Kn} {more : List Tie} (N : Net k more) {a v : Int} (a0 : 0 ≤ a) (a1 : a < marksM k) (v0 : 0 ≤ v) (v1 : v < marksM k) (h : fin? (netM k more) a = true) : g2 (tb k (tiesM k ++ more)) a.toNat v.toNat = dst (netM k more) a v := by
  have hn : (netM k more).n.toNat = marksM k := by simp [netM]
  have := ((N.settled a0 a1 h).tab N.wf a0 (by rw [netn]; exact a1) (Net.conn a0 a1)).2 v v0 (by rw [netn]; exact v1)
  rw [hn] at this
  exact this
/-- What the specification tells of two marks. -/
def betweenR (k : Kn) (a b : Int) : Sp × Int := if tokB k (tiesM k) then (⟨0 - g2 (tb k (tiesM k)) b.toNat a.toNat, g2 (tb k (tiesM k)) a.toNat b.toNat⟩, 0) else (zSp, 9)
theorem between_eq {k : Kn} (hc : check k = 0) {a b : Int} (a0 : 0 ≤ a) (a1 : a < marksM k) (b0 : 0 ≤ b) (b1 : b < marksM k) : betweenR k a b = betweenM k a b := by
  have N := Net.base hc
  have h1 := tab_ok N a0 a1
  rw [List.append_nil] at h1
  unfold betweenR betweenM
  rw [h1, above_eq, above_eq]
  simp only
  cases hF : fin? (netM k []) a with
  | false => rfl
  | true =>
    have g1 := tab_at N a0 a1 b0 b1 hF
    have g2 := tab_at N b0 b1 a0 a1 (by rw [N.same b0 b1 a0 a1]; exact hF)
    rw [List.append_nil] at g1 g2
    simp only [if_true]
    rw [g1, g2]
    simp
theorem tok_b {k : Kn} (hc : check k = 0) : tokB k (tiesM k) = fin? (netM k []) 0 := by
  have N := Net.base hc
  have n0 : (0 : Int) < marksM k := by have := N.wf.n0; rw [netn] at this; exact this
  have := tab_ok N (a := 0) (by omega) n0
  rw [List.append_nil] at this
  exact this
def mostR (k : Kn) (a b : Int) : Int × Int :=
  if markedM k [a, b] ≠ 0 then (0, markedM k [a, b]) else if tokB k (tiesM k) then (g2 (tb k (tiesM k)) a.toNat b.toNat, 0) else (0, 9)
theorem most_eq (k : Kn) (a b : Int) : (mostR k a b).2 = (aboveC k a b).2 ∧ (mostR k a b).1 = (aboveC k a b).1.most := by
  unfold mostR aboveC
  by_cases hm : markedM k [a, b] = 0
  · obtain ⟨hc, hin⟩ := marked_ok hm
    obtain ⟨a0, a1⟩ := hin a (by simp)
    obtain ⟨b0, b1⟩ := hin b (by simp)
    have N := Net.base hc
    have h1 := tab_ok N a0 a1
    rw [List.append_nil] at h1
    simp only [hm, ne_eq, not_true_eq_false, if_false, h1]
    unfold fin?
    cases hF : (settleM (netM k []) a).2.2 with
    | some c => exact ⟨rfl, rfl⟩
    | none =>
      have hF' : fin? (netM k []) a = true := by rw [fin?, hF]; rfl
      have g1 := tab_at N a0 a1 b0 b1 hF'
      rw [List.append_nil] at g1
      refine ⟨rfl, ?_⟩
      simp only [Option.isNone_none, if_true]
      rw [g1]
      rfl
  · refine ⟨?_, ?_⟩
    · simp only [hm, ne_eq, not_false_eq_true, if_true]
    · simp only [hm, ne_eq, not_false_eq_true, if_true]; rfl
/-- What the specification tells of runs. -/
def runR (k : Kn) (a b : Int) : Sp × Int :=
  if check k ≠ 0 then (zSp, check k)
  else if (find k.loads a < 0 ∨ find k.loads b < 0) ∧ (find k.draws a < 0 ∨ find k.draws b < 0) then (zSp, 5)
  else if find k.loads b < find k.loads a ∨ find k.draws b < find k.draws a then (zSp, 1)
  else if 0 ≤ find k.loads a then betweenR k (find k.loads a) (find k.loads b + 1)
  else betweenR k (drawnM k (find k.draws a)) (drawnM k (find k.draws b + 1))
theorem load_or_draw {k : Kn} (o : Order k) {a : Int} (h1 : 0 ≤ find k.loads a) : find k.draws a = -1 := by
  refine find_none fun j y hj hy e => ?_
  have hm : a ∈ k.loads.map (·.id) := by
    unfold find at h1
    split at h1
    · rename_i i hi
      rw [List.idxOf?_eq_some_iff] at hi
      obtain ⟨hi, e, _⟩ := hi
      rw [← e]
      exact List.getElem_mem _
    · omega
  have := (List.nodup_append.1 o.ids).2.2 a hm y.id (List.mem_append_left _ (List.mem_map_of_mem (List.mem_of_getElem? hy)))
  exact this e.symm
theorem run_eq (k : Kn) (a b : Int) : runR k a b = runM k a b := by
  unfold runR runM
  by_cases hc : check k = 0
  · simp only [hc, ne_eq, not_true_eq_false, if_false]
    have o := order_of_check hc
    have hm : (marksM k : Int) = 1 + k.loads.length + k.draws.length := by simp [marksM]
    have fa := find_le k.loads a; have fb := find_le k.loads b; have ga := find_le k.draws a; have gb := find_le k.draws b
    have xa := fun h => load_or_draw o (a := a) h
    have xb := fun h => load_or_draw o (a := b) h
    unfold reachM orderedB
    by_cases h1 : 0 ≤ find k.loads a ∧ 0 ≤ find k.loads b
    · have ya := xa h1.1
      have yb := xb h1.2
      rw [if_pos h1, if_neg (by omega)]
      simp only [Bool.true_eq_false, if_false]
      by_cases h2 : find k.loads b < find k.loads a
      · rw [if_pos (.inl h2), if_pos]
        rw [ya]
        exact ⟨by simp; omega, by simp⟩
      · rw [if_neg (by omega), if_pos h1.1, if_neg]
        · exact between_eq hc (by omega) (by omega) (by omega) (by omega)
        · simp; omega
    · rw [if_neg h1]
      by_cases h2 : 0 ≤ find k.draws a ∧ 0 ≤ find k.draws b
      · have na : find k.loads a < 0 := by
          rcases Int.lt_or_le (find k.loads a) 0 with h | h
          · exact h
          · have := xa h; omega
        have nb : find k.loads b < 0 := by
          rcases Int.lt_or_le (find k.loads b) 0 with h | h
          · exact h
          · have := xb h; omega
        have e1 : find k.loads a = -1 := by omega
        have e2 : find k.loads b = -1 := by omega
        rw [if_neg (by omega)]
        simp only [h2, and_self, decide_true, Bool.true_eq_false, if_false]
        have d1 := drawn_in (k := k) (a := find k.draws a) (by omega) (by omega)
        have d2 := drawn_in (k := k) (a := find k.draws b + 1) (by omega) (by omega)
        by_cases h3 : find k.draws b < find k.draws a
        · rw [if_pos (.inr h3), if_pos]
          rw [e1]
          refine ⟨by simp, by simp; omega⟩
        · rw [if_neg (by omega), if_neg (by omega), if_neg (by simp; omega)]
          have e : (if find k.draws a > 0 then find k.draws a else 0) = find k.draws a := by split <;> omega
          rw [e]
          exact between_eq hc d1.1 d1.2 d2.1 d2.2
      · have hbad : (find k.loads a < 0 ∨ find k.loads b < 0) ∧ (find k.draws a < 0 ∨ find k.draws b < 0) := ⟨by omega, by omega⟩
        rw [if_pos hbad]
        simp only [decide_eq_false h2, if_true]
  · simp only [hc, ne_eq, not_false_eq_true, if_true]
/-- What the specification tells of a load or a draw. -/
def weightR (k : Kn) (a : Int) : Sp × Int :=
  if check k ≠ 0 then (zSp, check k)
  else if 0 ≤ find k.loads a then betweenR k (find k.loads a) (find k.loads a + 1)
  else if 0 ≤ find k.draws a then betweenR k (drawnM k (find k.draws a)) (drawnM k (find k.draws a + 1))
  else (zSp, 5)
theorem weight_eq (k : Kn) (a : Int) : weightR k a = runM k a a := by
  rw [← run_eq]
  unfold weightR runR
  by_cases hc : check k = 0
  · simp only [hc, ne_eq, not_true_eq_false, if_false]
    by_cases h1 : 0 ≤ find k.loads a
    · rw [if_pos h1, if_neg (by omega), if_neg (by omega), if_pos h1]
    · rw [if_neg h1]
      by_cases h2 : 0 ≤ find k.draws a
      · rw [if_pos h2, if_neg (by omega), if_neg (by omega), if_neg h1]
      · rw [if_neg h2, if_pos (by omega)]
  · simp only [hc, ne_eq, not_false_eq_true, if_true]
def heldR (k : Kn) (h : Int) : Sp × Int :=
  if check k ≠ 0 then (zSp, check k) else if inB h 0 16384 = false then (zSp, 1) else betweenR k (drawnM k (byHr k.draws h)) (byHr k.loads h)
theorem held_eq (k : Kn) (h : Int) : heldR k h = heldM k h := by
  unfold heldR heldM timedM
  by_cases hc : check k = 0
  · have hm : (marksM k : Int) = 1 + k.loads.length + k.draws.length := by simp [marksM]
    have hb := byHr_le k.loads h
    have hd := byHr_le k.draws h
    have d1 := drawn_in (k := k) (a := (byHr k.draws h : Int)) (by omega) (by omega)
    simp only [hc, ne_eq, not_true_eq_false, if_false]
    cases hi : inB h 0 16384 with
    | false => simp
    | true =>
      simp only [Bool.true_eq_false, if_false, if_true, ne_eq, not_true_eq_false]
      exact between_eq hc d1.1 d1.2 (by omega) (by omega)
  · simp only [hc, ne_eq, not_false_eq_true, if_true]
def belowR (k : Kn) (a h : Int) : Sp × Int :=
  if check k ≠ 0 then (zSp, check k) else if inB h 0 16384 = false then (zSp, 1)
  else if find k.loads a < 0 then (zSp, 5)
  else if h < (k.loads.getD (find k.loads a).toNat default).hour then (zSp, 1)
  else betweenR k (drawnM k (byHr k.draws h)) (find k.loads a)
theorem below_eq (k : Kn) (a h : Int) : belowR k a h = belowM k a h := by
  unfold belowR belowM timedM
  by_cases hc : check k = 0
  · have hm : (marksM k : Int) = 1 + k.loads.length + k.draws.length := by simp [marksM]
    have fa := find_le k.loads a
    have hd := byHr_le k.draws h
    have d1 := drawn_in (k := k) (a := (byHr k.draws h : Int)) (by omega) (by omega)
    simp only [hc, ne_eq, not_true_eq_false, if_false]
    cases hi : inB h 0 16384 with
    | false => simp
    | true =>
      simp only [Bool.true_eq_false, if_false, if_true, ne_eq, not_true_eq_false, gt_iff_lt]
      by_cases h1 : find k.loads a < 0
      · rw [if_pos h1, if_pos h1]
      · rw [if_neg h1, if_neg h1]
        split
        · rfl
        · exact between_eq hc d1.1 d1.2 (by omega) (by omega)
  · simp only [hc, ne_eq, not_false_eq_true, if_true]
def footR (n d : Int) : Int := if 0 ≤ n then n.tdiv d else 0 - (d - 1 - n).tdiv d
theorem foot_eq (n d : Int) : footR n d = floorM n d := by
  unfold footR floorM
  by_cases h : n < 0
  · rw [if_neg (by omega), if_pos h, show d - 1 - n = -n + d - 1 by omega, Int.zero_sub]
  · rw [if_pos (by omega), if_neg h]
/-- A draw takes at least so much: the specification's ties. -/
theorem atLeast_eq (k : Kn) (j i z : Int) : tiesM k ++ moreM (ovOf k j i) z = tiesM k ++ [⟨i + 1, i, -z, 0⟩, ⟨i + 1, drawnM k j, -z, 0⟩, ⟨drawnM k (j + 1), i, -z, 0⟩, ⟨drawnM k (j + 1), drawnM k j, -z, 0⟩] := rfl
/-- The specification's search. -/
def searchR (is : Int → Bool) : Nat → Int → Int → Int
  | 0, lo, _ => lo
  | f + 1, lo, hi => if lo < hi then (if is ((lo + hi + 1).tdiv 2) then searchR is f ((lo + hi + 1).tdiv 2) hi else searchR is f lo ((lo + hi + 1).tdiv 2 - 1)) else lo
theorem mid2 {lo hi : Int} (h0 : 0 ≤ lo) (h : lo < hi) : lo < (lo + hi + 1).tdiv 2 ∧ (lo + hi + 1).tdiv 2 ≤ hi := by
  rw [Int.tdiv_eq_ediv_of_nonneg (by omega)]
  omega
theorem search_in (is : Int → Bool) : ∀ (f : Nat) (lo hi : Int), 0 ≤ lo → lo ≤ hi → lo ≤ searchR is f lo hi ∧ searchR is f lo hi ≤ hi
  | 0, lo, hi, h0, h => by simp only [searchR]; omega
  | f + 1, lo, hi, h0, h => by
    rw [searchR]
    split
    · rename_i hl
      have := mid2 h0 hl
      split
      · have := search_in is f ((lo + hi + 1).tdiv 2) hi (by omega) (by omega)
        omega
      · have := search_in is f lo ((lo + hi + 1).tdiv 2 - 1) h0 (by omega)
        omega
    · omega
theorem search_spec (is : Int → Bool) (hmono : ∀ x y : Int, x ≤ y → is y = true → is x = true) : ∀ (f : Nat) (lo hi : Int), 0 ≤ lo → lo ≤ hi → hi - lo ≤ f → ∀ x, lo < x → x ≤ hi → (is x = true ↔ x ≤ searchR is f lo hi)
  | 0, lo, hi, h0, h, hf, x, x0, x1 => by omega
  | f + 1, lo, hi, h0, h, hf, x, x0, x1 => by
    rw [searchR, if_pos (by omega)]
    have hm := mid2 h0 (show lo < hi by omega)
    split
    · rename_i his
      have hg := search_in is f ((lo + hi + 1).tdiv 2) hi (by omega) (by omega)
      rcases Int.lt_or_le ((lo + hi + 1).tdiv 2) x with h1 | h1
      · exact search_spec is hmono f _ _ (by omega) (by omega) (by omega) x h1 x1
      · exact ⟨fun _ => by omega, fun _ => hmono x _ h1 his⟩
    · rename_i his
      have hg := search_in is f lo ((lo + hi + 1).tdiv 2 - 1) h0 (by omega)
      rcases Int.lt_or_le x ((lo + hi + 1).tdiv 2) with h1 | h1
      · exact search_spec is hmono f _ _ h0 (by omega) (by omega) x x0 (by omega)
      · refine ⟨fun hx => (his (hmono _ _ h1 hx)).elim, fun hx => by omega⟩
theorem search_congr {is is' : Int → Bool} : ∀ (f : Nat) (lo hi : Int), 0 ≤ lo → (∀ x, lo < x → x ≤ hi → is x = is' x) → searchR is f lo hi = searchR is' f lo hi
  | 0, lo, hi, _, _ => rfl
  | f + 1, lo, hi, h0, h => by
    rw [searchR, searchR]
    by_cases hl : lo < hi
    · rw [if_pos hl, if_pos hl]
      have hm := mid2 h0 hl
      rw [← h _ hm.1 hm.2]
      split
      · exact search_congr f _ _ (by omega) (fun x x0 x1 => h x (by omega) x1)
      · exact search_congr f _ _ h0 (fun x x0 x1 => h x x0 (by omega))
    · rw [if_neg hl, if_neg hl]
theorem mn_spec (a b : Int) : mnI a b ≤ a ∧ mnI a b ≤ b ∧ (mnI a b = a ∨ mnI a b = b) := by
  unfold mnI
  split <;> omega
theorem mx_mono {a b : Int} (h : a ≤ b) : mxI 0 a ≤ mxI 0 b := by
  unfold mxI
  split <;> split <;> omega
theorem min4 {w x1 x2 x3 x4 : Int} (q1 : w ≤ mxI 0 x1) (q2 : w ≤ mxI 0 x2) (q3 : w ≤ mxI 0 x3) (q4 : w ≤ mxI 0 x4) (h : w = mxI 0 x1 ∨ w = mxI 0 x2 ∨ w = mxI 0 x3 ∨ w = mxI 0 x4) : mxI 0 (mnI (mnI x1 x2) (mnI x3 x4)) = w := by
  obtain ⟨a1, a2, a3⟩ := mn_spec x1 x2
  obtain ⟨b1, b2, b3⟩ := mn_spec x3 x4
  obtain ⟨c1, c2, c3⟩ := mn_spec (mnI x1 x2) (mnI x3 x4)
  generalize mnI x1 x2 = u at *
  generalize mnI x3 x4 = v at *
  generalize mnI u v = m at *
  have h1 := mx_mono (show m ≤ x1 by omega)
  have h2 := mx_mono (show m ≤ x2 by omega)
  have h3 := mx_mono (show m ≤ x3 by omega)
  have h4 := mx_mono (show m ≤ x4 by omega)
  have h5 : w ≤ mxI 0 m := by
    have : m = x1 ∨ m = x2 ∨ m = x3 ∨ m = x4 := by omega
    rcases this with e | e | e | e <;> rw [e] <;> assumption
  omega
def canT (k : Kn) (o : Ov) (z : Int) : Bool := tokB k (tiesM k ++ moreM o z)
/-- What the specification tells of a draw and a load, by their places. -/
def shareR (k : Kn) (j i : Int) : Sp :=
  ⟨mxI 0 (mnI (mnI (0 - g2 (tb k (tiesM k)) (i + 1).toNat i.toNat) (0 - g2 (tb k (tiesM k)) (i + 1).toNat (drawnM k j).toNat)) (mnI (0 - g2 (tb k (tiesM k)) (drawnM k (j + 1)).toNat i.toNat) (0 - g2 (tb k (tiesM k)) (drawnM k (j + 1)).toNat (drawnM k j).toNat))),
   searchR (canT k (ovOf k j i)) 1048576 0 1048576⟩
theorem search_most {k : Kn} (r : Right k) {o : Ov} (h : OvIn k o) : searchR (canT k o) 1048576 0 1048576 = mostN k o := by
  have hT : ∀ z : Int, 0 ≤ z → z ≤ 1048576 → canT k o z = canM k o z := by
    intro z z0 z1
    have N : Net k (moreM o z) := ⟨more_wf r h z0 z1⟩
    have n0 : (0 : Int) < marksM k := by have := N.wf.n0; rw [netn] at this; exact this
    exact tab_ok N (a := 0) (by omega) n0
  have e : searchR (canT k o) 1048576 0 1048576 = searchR (canR k o) 1048576 0 1048576 := by
    refine search_congr _ _ _ (by omega) (fun x x0 x1 => ?_)
    rw [hT x (by omega) x1, canR, if_neg (by omega), if_pos x1]
  have h1 := search_in (canR k o) 1048576 0 1048576 (by omega) (by omega)
  have h2 := mostN_in k o
  have key : ∀ x : Int, 0 < x → x ≤ 1048576 → (x ≤ searchR (canR k o) 1048576 0 1048576 ↔ x ≤ mostN k o) := by
    intro x x0 x1
    rw [← search_spec (canR k o) (can_mono r h) 1048576 0 1048576 (by omega) (by omega) (by omega) x x0 x1, ← most_spec r h (by omega) x1, ← can_iff r h (by omega) x1, canR, if_neg (by omega), if_pos x1]
  rw [e]
  generalize searchR (canR k o) 1048576 0 1048576 = p at *
  generalize mostN k o = q at *
  rcases Int.lt_trichotomy p q with h3 | h3 | h3
  · have := (key q (by omega) (by omega)).2 (Int.le_refl _); omega
  · exact h3
  · have := (key p (by omega) (by omega)).1 (Int.le_refl _); omega
theorem share_eq {k : Kn} (hc : check k = 0) (hF : fin? (netM k []) 0 = true) {j i : Nat} (hj : j < k.draws.length) (hi : i < k.loads.length) : shareR k j i = ⟨(leastM k (ovOf k j i)).1, (mostM k (ovOf k j i)).1⟩ := by
  have r := right_of_check hc
  have N := Net.base hc
  have hin := ov_in (k := k) hj hi
  have hm : (marksM k : Int) = 1 + k.loads.length + k.draws.length := by simp [marksM]
  have fin : ∀ v : Int, 0 ≤ v → v < marksM k → fin? (netM k []) v = true := fun v v0 v1 => by rw [N.same v0 v1 (b := 0) (by omega) (by omega)]; exact hF
  have g : ∀ a v : Int, 0 ≤ a → a < marksM k → 0 ≤ v → v < marksM k → g2 (tb k (tiesM k)) a.toNat v.toNat = dst (netM k []) a v := by
    intro a v a0 a1 v0 v1
    have := tab_at N a0 a1 v0 v1 (fin a a0 a1)
    rw [List.append_nil] at this
    exact this
  have a0 := hin.a0; have a1 := hin.a1; have b0 := hin.b0; have b1 := hin.b1; have c0 := hin.c0; have c1 := hin.c1; have d0 := hin.d0; have d1 := hin.d1
  simp only [ovOf] at a0 a1 b0 b1 c0 c1 d0 d1
  unfold shareR
  rw [search_most r hin, most_fst, g _ _ b0 b1 a0 a1, g _ _ b0 b1 c0 c1, g _ _ d0 d1 a0 a1, g _ _ d0 d1 c0 c1]
  congr 1
  obtain ⟨h1, p, hp, h2⟩ := least_spec k (ovOf k j i)
  have e : ∀ p, loOf k p = mxI 0 (-dst (netM k []) p.2 p.1) := fun _ => rfl
  have q1 := h1 ((i : Int), (i : Int) + 1) (by simp [pairsL, ovOf])
  have q2 := h1 (drawnM k j, (i : Int) + 1) (by simp [pairsL, ovOf])
  have q3 := h1 ((i : Int), drawnM k ((j : Int) + 1)) (by simp [pairsL, ovOf])
  have q4 := h1 (drawnM k j, drawnM k ((j : Int) + 1)) (by simp [pairsL, ovOf])
  rw [e] at q1 q2 q3 q4 h2
  simp only at q1 q2 q3 q4
  generalize (leastM k (ovOf k j i)).1 = w at *
  have hcase : w = mxI 0 (-dst (netM k []) ((i : Int) + 1) i) ∨ w = mxI 0 (-dst (netM k []) ((i : Int) + 1) (drawnM k j)) ∨ w = mxI 0 (-dst (netM k []) (drawnM k ((j : Int) + 1)) i) ∨ w = mxI 0 (-dst (netM k []) (drawnM k ((j : Int) + 1)) (drawnM k j)) := by
    simp only [pairsL, List.mem_cons, List.not_mem_nil, or_false, ovOf] at hp
    rcases hp with rfl | rfl | rfl | rfl
    · exact .inl h2
    · exact .inr (.inl h2)
    · exact .inr (.inr (.inl h2))
    · exact .inr (.inr (.inr h2))
  generalize dst (netM k []) ((i : Int) + 1) i = x1 at *
  generalize dst (netM k []) ((i : Int) + 1) (drawnM k j) = x2 at *
  generalize dst (netM k []) (drawnM k ((j : Int) + 1)) i = x3 at *
  generalize dst (netM k []) (drawnM k ((j : Int) + 1)) (drawnM k j) = x4 at *
  clear h1 h2 e hp g
  simp only [Int.zero_sub]
  exact min4 q1 q2 q3 q4 hcase
/-- What the specification tells of a draw and a load. -/
def tookR (k : Kn) (dr ld : Int) : Sp × Int :=
  if check k ≠ 0 then (zSp, check k) else if find k.draws dr < 0 ∨ find k.loads ld < 0 then (zSp, 5)
  else if tokB k (tiesM k) = false then (zSp, 9) else (shareR k (find k.draws dr) (find k.loads ld), 0)
theorem took_eq (k : Kn) (dr ld : Int) : tookR k dr ld = tookM k dr ld := by
  unfold tookR tookM takesM
  by_cases hc : check k = 0
  · rw [if_neg (by simp [hc])]
    simp only [hc, ne_eq, not_true_eq_false, if_false]
    by_cases h1 : find k.draws dr < 0 ∨ find k.loads ld < 0
    · simp [h1, h1.symm]
    · have h1' : ¬ (find k.loads ld < 0 ∨ find k.draws dr < 0) := fun h => h1 h.symm
      simp only [h1, h1', if_false, tok_b hc, above_eq]
      by_cases hF : fin? (netM k []) 0 = false
      · simp [hF]
      · have fa := find_le k.loads ld; have ga := find_le k.draws dr
        have hF : fin? (netM k []) 0 = true := by simpa using hF
        simp only [hF, Bool.true_eq_false, if_false]
        obtain ⟨i, hi⟩ : ∃ i : Nat, find k.loads ld = i := ⟨(find k.loads ld).toNat, by omega⟩
        obtain ⟨j, hj⟩ : ∃ j : Nat, find k.draws dr = j := ⟨(find k.draws dr).toNat, by omega⟩
        rw [hi, hj, share_eq hc hF (by omega) (by omega)]
        simp [ovOf]
  · rw [if_pos hc]
    simp only [ne_eq, hc, not_false_eq_true, if_true]
end Go.Shaft
/- The specification's heights, and which tie is not kept. -/
set_option linter.unusedVariables false
set_option linter.unusedSimpArgs false
namespace Go.Shaft
/-- Heights of so many loads. -/
def hL (l : List Int) (i : Nat) : List Int := (List.range (i + 1)).map (pfx l)
/-- Heights of so many draws. -/
def hD (d : List Int) (j : Nat) : List Int := (List.range j).map fun i => pfx d (i + 1)
def htsT (t : Tr) : List Int := hL t.loads t.loads.length ++ hD t.draws t.draws.length
@[simp] theorem hL_len (l : List Int) (i : Nat) : (hL l i).length = i + 1 := by simp [hL]
@[simp] theorem hD_len (l : List Int) (i : Nat) : (hD l i).length = i := by simp [hD]
theorem hL_zero (l : List Int) : hL l 0 = [0] := by simp [hL]
theorem hL_succ (l : List Int) (i : Nat) : hL l (i + 1) = hL l i ++ [pfx l (i + 1)] := by rw [hL, List.range_succ, List.map_append]; rfl
theorem hD_zero (l : List Int) : hD l 0 = [] := by simp [hD]
theorem hD_succ (l : List Int) (i : Nat) : hD l (i + 1) = hD l i ++ [pfx l (i + 1)] := by rw [hD, List.range_succ, List.map_append]; rfl
theorem htsT_len (t : Tr) : (htsT t).length = t.loads.length + 1 + t.draws.length := by simp [htsT]
theorem htsT_at {k : Kn} {t : Tr} (ht : TrOk k t) {v : Int} (v0 : 0 ≤ v) (v1 : v < marksM k) : (htsT t)[v.toNat]? = some (hgtM k t v) := by
  have hm : (marksM k : Int) = 1 + k.loads.length + k.draws.length := by simp [marksM]
  have h1 := ht.ll; have h2 := ht.dl
  unfold htsT hgtM
  by_cases e : v ≤ k.loads.length
  · rw [if_pos e, List.getElem?_append_left (by simp; omega), hL, List.getElem?_map, List.getElem?_range (by omega)]
    rfl
  · rw [if_neg e, List.getElem?_append_right (by simp; omega), hL_len, hD, List.getElem?_map, List.getElem?_range (by omega)]
    simp only [Option.map_some, Option.some.injEq]
    congr 1
    omega
theorem gt_hts {k : Kn} {t : Tr} (ht : TrOk k t) {v : Int} (v0 : 0 ≤ v) (v1 : v < marksM k) : gt (htsT t) v = hgtM k t v := by
  rw [gt, List.getD_eq_getElem?_getD, htsT_at ht v0 v1]
  rfl
theorem htsT_b {k : Kn} {t : Tr} (ht : TrOk k t) (h1 : t.loads.length ≤ 60) (h2 : t.draws.length ≤ 60) : ∀ x ∈ htsT t, 0 ≤ x ∧ x ≤ 1100000000 := by
  intro x hx
  simp only [htsT, hL, hD, List.mem_append, List.mem_map, List.mem_range] at hx
  rcases hx with ⟨i, hi, rfl⟩ | ⟨i, hi, rfl⟩
  · have := pfx_bound ht.l i; omega
  · have := pfx_bound ht.d (i + 1); omega
theorem idxP_congr {α : Type} {l : List α} {p q : α → Bool} (h : ∀ x ∈ l, p x = q x) : idxP l p = idxP l q := by
  have key : l.findIdx? p = l.findIdx? q := by
    induction l with
    | nil => rfl
    | cons x l ih =>
      rw [List.findIdx?_cons, List.findIdx?_cons, h x List.mem_cons_self, ih (fun y hy => h y (List.mem_cons_of_mem _ hy))]
  unfold idxP
  rw [key]
/-- The first tie that is not kept. -/
def keptR (l : List Tie) (h : List Int) : Int × Bool := if 0 ≤ idxP l (offP h) then (idxP l (offP h), false) else (0, true)
theorem kept_eq {k : Kn} (r : Right k) {t : Tr} (ht : TrOk k t) : keptR (tiesM k) (htsT t) = (if 0 ≤ breaksM k (raisedM k t) then (breaksM k (raisedM k t), false) else (0, true)) := by
  have : idxP (tiesM k) (offP (htsT t)) = breaksM k (raisedM k t) := by
    refine idxP_congr fun x hx => ?_
    obtain ⟨f0, f1, t0, t1, _⟩ := ties_in r x hx
    unfold offP
    rw [gt_hts ht f0 f1, gt_hts ht t0 t1, hgt_rai r t f0 f1, hgt_rai r t t0 t1]
  unfold keptR
  rw [this]
end Go.Shaft
/- Contracts: what the specification tells of weights. -/
set_option linter.unusedVariables false
set_option linter.unusedSimpArgs false
set_option maxRecDepth 100000
set_option maxHeartbeats 2000000
namespace Go.Abs
open Go.RowKit Go.Proofs Go.Shaft
attribute [simp] ti22 ti23 ti24 ti26 ti30 ti42 ti45 ti52 ti122 ti125 ti88 ti92 ti46
attribute [simp] ti134 ti131 ti48 ti60 ti99 ti85 ti143 ti189 ti190 ti192 ti204 ti208 ti218 ti9 ti5 ti27 ti28 ti141 ti30 ti45
@[simp] theorem us4b : E.P.underlying 4 = some TypeDesc.bool := by kernel_rfl
@[simp] def eKp (n : Int) (b : Bool) (e : Int) : AV := .agg [I n, .bool b, I e]
@[simp] def eTd (l : List Tie) (e : Int) : AV := .agg [eTies l, I e]

theorem c102 (k : Kn) (hk : Few k) (t : Tr) (h1 : t.loads.length ≤ 1000) (h2 : t.draws.length ≤ 1000) : Con E 102 [eKn k, eTr t] (.bool (toldB k t)) := by
 intro n H hH
 have h00 := hh3 hH
 have ⟨hHs, hH', hpl⟩ := h00
 have hl := hk.l; have hd := hk.d
 refine at_start (fn := Tryz.f102) [.tmp 4] 51 H.length rfl rfl rfl rfl (by kernel_rfl) (by kernel_rfl) (by simp) (Nat.le_refl _) ?_
 refine sq ?_
 refine at_regK [2, 3] rfl ?_
 try simp [h00, o_i, f_a]
 refine sq ?_
 refine sq ?_
 refine at_regK [3, 22] rfl ?_
 try simp [h00, o_i, f_a]
 refine pops_split 14 rfl (fun hg1 => ?_) (fun hg1 => ?_)
 ·
  try simp [h00, o_i, f_a, hg1]
  refine at_cond rfl rfl (fun hb22 => ?_) (fun hb22 => by simp at hb22)
  refine sq ?_
  refine at_regK [4] rfl ?_
  try simp [h00, o_i, f_a]
  refine at_ret (by kernel_rfl) ?_
  try simp [h00, o_i, f_a]
  simp at hg1
  simp [toldB, hg1]
  intro e
  omega
 ·
  try simp [h00, o_i, f_a, hg1]
  refine at_cond rfl rfl (fun hb22 => ?_) (fun hb22 => ?_)
  ·
   try simp at hb22
   refine sq ?_
   refine at_regK [4] rfl ?_
   try simp [h00, o_i, f_a]
   refine at_ret (by kernel_rfl) ?_
   try simp [h00, o_i, f_a]
   simp at hg1
   simp [toldB, hg1, hb22]
   intro _ e
   omega
  ·
   try simp at hb22
   refine at_skip (by kernel_rfl) ?_
   try simp [h00, o_i, f_a]
   refine sq ?_
   refine sq ?_
   refine at_regK [3, 5] rfl ?_
   try simp [h00, o_i, f_a]
   refine at_block rfl ?_
   refine at_count t.loads.length (fun i s => (∀ n ∈ t.loads.take i, inB n 0 16777216 = true) ∧ s = ⟨[(3, .ref false 1 0 [] 0), (5, I i)], [.cell (eKn k), .cell (eTr t)], H⟩) rfl ⟨by simp, rfl⟩ ?_
   rintro i s hi ⟨hall, rfl⟩
   refine sq ?_
   refine sq ?_
   refine at_regK [3, 5, 27] rfl ?_
   try simp [h00, o_i, f_a]
   refine at_cond rfl rfl (fun hb27 => ?_) (fun hb27 => ?_)
   ·
    try simp at hb27
    obtain ⟨x, hx⟩ : ∃ x, t.loads[i]? = some x := ⟨_, List.getElem?_eq_getElem (by omega)⟩
    have i0 : (i : Int) < t.loads.length := by omega
    refine at_skip (by kernel_rfl) ?_
    try simp [h00, o_i, f_a, hx, i0]
    refine sq ?_
    refine at_block rfl ?_
    refine sq ?_
    refine at_regK [3, 5, 36] rfl ?_
    try simp [h00, o_i, f_a, hx, i0]
    refine (c126 _ _ _).use hH ?_
    try simp [h00, o_i, f_a, hx, i0]
    refine at_cond rfl rfl (fun hb36 => ?_) (fun hb36 => ?_)
    ·
     try simp at hb36
     refine sq ?_
     refine at_regK [4] rfl ?_
     try simp [h00, o_i, f_a, hx, i0]
     refine at_ret (by kernel_rfl) ?_
     try simp [h00, o_i, f_a, hx, i0]
     refine ?_
     unfold toldB
     have hx0 : (t.loads.any fun n => !inB n 0 16777216) = true := List.any_eq_true.2 ⟨x, List.mem_of_getElem? hx, by simpa using hb36⟩
     simp [hx0]
    ·
     try simp at hb36
     refine at_skip (by kernel_rfl) ?_
     try simp [h00, o_i, f_a, hx, i0]
     refine at_regK [3, 5] rfl ?_
     try simp [h00, o_i, f_a, hx, i0]
     refine ⟨by omega, ?_, wrap_id (by omega) (by omega)⟩
     intro n hn
     rw [List.take_add_one, hx] at hn
     simp at hn
     rcases hn with hn | rfl
     ·exact hall n hn
     ·simpa using hb36
   ·
    try simp at hb27
    rw [List.take_of_length_le (by omega)] at hall
    have hall0 := hall
    clear hall
    refine at_exit rfl ?_
    try simp [h00, o_i, f_a]
    refine sq ?_
    refine sq ?_
    refine at_regK [3, 6] rfl ?_
    try simp [h00, o_i, f_a]
    refine at_block rfl ?_
    refine at_count t.draws.length (fun i s => (∀ n ∈ t.draws.take i, inB n 0 16777216 = true) ∧ s = ⟨[(3, .ref false 1 0 [] 0), (6, I i)], [.cell (eKn k), .cell (eTr t)], H⟩) rfl ⟨by simp, rfl⟩ ?_
    rintro i s hi ⟨hall, rfl⟩
    refine sq ?_
    refine sq ?_
    refine at_regK [3, 6, 41] rfl ?_
    try simp [h00, o_i, f_a]
    refine at_cond rfl rfl (fun hb41 => ?_) (fun hb41 => ?_)
    ·
     try simp at hb41
     obtain ⟨x, hx⟩ : ∃ x, t.draws[i]? = some x := ⟨_, List.getElem?_eq_getElem (by omega)⟩
     have i0 : (i : Int) < t.draws.length := by omega
     refine at_skip (by kernel_rfl) ?_
     try simp [h00, o_i, f_a, hx, i0]
     refine sq ?_
     refine at_block rfl ?_
     refine sq ?_
     refine at_regK [3, 6, 50] rfl ?_
     try simp [h00, o_i, f_a, hx, i0]
     refine (c126 _ _ _).use hH ?_
     try simp [h00, o_i, f_a, hx, i0]
     refine at_cond rfl rfl (fun hb50 => ?_) (fun hb50 => ?_)
     ·
      try simp at hb50
      refine sq ?_
      refine at_regK [4] rfl ?_
      try simp [h00, o_i, f_a, hx, i0]
      refine at_ret (by kernel_rfl) ?_
      try simp [h00, o_i, f_a, hx, i0]
      refine ?_
      unfold toldB
      have hx0 : (t.draws.any fun n => !inB n 0 16777216) = true := List.any_eq_true.2 ⟨x, List.mem_of_getElem? hx, by simpa using hb50⟩
      simp [hx0]
     ·
      try simp at hb50
      refine at_skip (by kernel_rfl) ?_
      try simp [h00, o_i, f_a, hx, i0]
      refine at_regK [3, 6] rfl ?_
      try simp [h00, o_i, f_a, hx, i0]
      refine ⟨by omega, ?_, wrap_id (by omega) (by omega)⟩
      intro n hn
      rw [List.take_add_one, hx] at hn
      simp at hn
      rcases hn with hn | rfl
      ·exact hall n hn
      ·simpa using hb50
    ·
     try simp at hb41
     refine at_exit rfl ?_
     try simp [h00, o_i, f_a]
     refine sq ?_
     refine at_regK [4] rfl ?_
     try simp [h00, o_i, f_a]
     refine at_ret (by kernel_rfl) ?_
     try simp [h00, o_i, f_a]
     rw [List.take_of_length_le (by omega)] at hall
     simp at hg1
     unfold toldB
     have e1 : (t.loads.any fun n => !inB n 0 16777216) = false := List.any_eq_false.2 fun n hn => by simp [hall0 n hn]
     have e2 : (t.draws.any fun n => !inB n 0 16777216) = false := List.any_eq_false.2 fun n hn => by simp [hall n hn]
     rw [e1, e2]
     simp [hg1, hb22]
     omega

theorem c105 (t : Tr) (h1 : t.loads.length ≤ 60) (h2 : t.draws.length ≤ 60) (hl : ∀ n ∈ t.loads, 0 ≤ n ∧ n ≤ 16777216) (hd : ∀ n ∈ t.draws, 0 ≤ n ∧ n ≤ 16777216) : Con E 105 [eTr t] (eInts (htsT t)) := by
 intro n H hH
 have h00 := hh3 hH
 have ⟨hHs, hH', hpl⟩ := h00
 refine ACall.frz ?_
 refine at_start (fn := Tryz.f105) [.tmp 2] 45 H.length rfl rfl rfl rfl (by kernel_rfl) (by kernel_rfl) (by simp) (Nat.le_refl _) ?_
 refine sq ?_
 refine at_regK [1] rfl ?_
 try simp [h00, o_i, f_a]
 refine sq ?_
 refine at_regK [1, 3] rfl ?_
 try simp [h00, o_i, f_a]
 refine sq ?_
 refine at_regK [1, 3, 4] rfl ?_
 try simp [h00, o_i, f_a]
 refine sq ?_
 refine sq ?_
 refine at_regK [1, 3, 4, 5] rfl ?_
 try simp [h00, o_i, f_a]
 refine at_block rfl ?_
 refine at_count t.loads.length (fun i s => s = ⟨[(1, .ref false 0 0 [] 0), (3, .own false 1 (i + 1)), (4, I (pfx t.loads i)), (5, I i)], [.cell (eTr t), .row 1 ((hL t.loads i).map I)], H⟩) rfl (by simp [hL_zero]) ?_
 rintro i s hi rfl
 have pb := pfx_bound hl i
 refine sq ?_
 refine sq ?_
 refine at_regK [1, 3, 4, 5, 12] rfl ?_
 try simp [h00, o_i, f_a]
 refine at_cond rfl rfl (fun hb12 => ?_) (fun hb12 => ?_)
 ·
  try simp at hb12
  obtain ⟨x, hx⟩ : ∃ x, t.loads[i]? = some x := ⟨_, List.getElem?_eq_getElem (by omega)⟩
  have i0 : (i : Int) < t.loads.length := by omega
  have xb := hl x (List.mem_of_getElem? hx)
  have wx : IntKind.i64.wrap (pfx t.loads i + x) = pfx t.loads (i + 1) := by rw [pfx_succ hx]; exact wrap_id (by omega) (by omega)
  refine at_skip (by kernel_rfl) ?_
  try simp [h00, o_i, f_a, hx, i0, wx]
  refine sq ?_
  refine at_block rfl ?_
  refine sq ?_
  refine at_regK [1, 3, 4, 5] rfl ?_
  try simp [h00, o_i, f_a, hx, i0, wx]
  refine at_regK [1, 3, 4, 5] rfl ?_
  try simp [h00, o_i, f_a, hx, i0, wx]
  refine ⟨by omega, ?_⟩
  refine at_regC 2 [1, 3, 4, 5] rfl ?_
  try simp [h00, o_i, f_a, hx, i0, wx]
  refine ⟨by omega, wrap_id (by omega) (by omega), ?_⟩
  rw [hL_succ]; simp
 ·
  try simp at hb12
  have hi2 : i = t.loads.length := by omega
  subst hi2
  refine at_exit rfl ?_
  try simp [h00, o_i, f_a]
  refine sq ?_
  refine at_regK [1, 3, 4] rfl ?_
  try simp [h00, o_i, f_a]
  refine sq ?_
  refine sq ?_
  refine at_regK [1, 3, 4, 6] rfl ?_
  try simp [h00, o_i, f_a]
  refine at_block rfl ?_
  refine at_count t.draws.length (fun i s => s = ⟨[(1, .ref false 0 0 [] 0), (3, .own false 1 (t.loads.length + 1 + i)), (4, I (pfx t.draws i)), (6, I i)], [.cell (eTr t), .row 1 ((hL t.loads t.loads.length ++ hD t.draws i).map I)], H⟩) rfl (by simp [hD_zero]) ?_
  rintro i s hi rfl
  have pb := pfx_bound hd i
  refine sq ?_
  refine sq ?_
  refine at_regK [1, 3, 4, 6, 30] rfl ?_
  try simp [h00, o_i, f_a]
  refine at_cond rfl rfl (fun hb30 => ?_) (fun hb30 => ?_)
  ·
   try simp at hb30
   obtain ⟨x, hx⟩ : ∃ x, t.draws[i]? = some x := ⟨_, List.getElem?_eq_getElem (by omega)⟩
   have i0 : (i : Int) < t.draws.length := by omega
   have xb := hd x (List.mem_of_getElem? hx)
   have wx : IntKind.i64.wrap (pfx t.draws i + x) = pfx t.draws (i + 1) := by rw [pfx_succ hx]; exact wrap_id (by omega) (by omega)
   refine at_skip (by kernel_rfl) ?_
   try simp [h00, o_i, f_a, hx, i0, wx]
   refine sq ?_
   refine at_block rfl ?_
   refine sq ?_
   refine at_regK [1, 3, 4, 6] rfl ?_
   try simp [h00, o_i, f_a, hx, i0, wx]
   refine at_regK [1, 3, 4, 6] rfl ?_
   try simp [h00, o_i, f_a, hx, i0, wx]
   refine ⟨by omega, ?_⟩
   refine at_regC 2 [1, 3, 4, 6] rfl ?_
   try simp [h00, o_i, f_a, hx, i0, wx]
   refine ⟨by omega, ⟨by omega, wrap_id (by omega) (by omega)⟩, ?_⟩
   rw [hD_succ]; simp
  ·
   try simp at hb30
   have hi2 : i = t.draws.length := by omega
   subst hi2
   refine at_exit rfl ?_
   try simp [h00, o_i, f_a]
   refine sq ?_
   refine at_regK [2] rfl ?_
   try simp [h00, o_i, f_a]
   refine at_ret (by kernel_rfl) ?_
   try simp [h00, o_i, f_a]
   simp [AS.frzV, AS.expo, AS.expos, AS.setMem, AV.ok, AV.oks, eInts, hHs, htsT, -List.map_append]
   rw [List.map_append]


theorem c103 (l : List Tie) (hl : l.length ≤ 1000) (h : List Int) (hh : h.length ≤ 1000) (hin : ∀ t ∈ l, 0 ≤ t.frm ∧ t.frm < h.length ∧ 0 ≤ t.to ∧ t.to < h.length) (hb : ∀ x ∈ h, 0 ≤ x ∧ x ≤ 1100000000) : Con E 103 [eTies l, eInts h] (eKp (keptR l h).1 (keptR l h).2 0) := by
 intro n H hH
 have h00 := hh3 hH
 have ⟨hHs, hH', hpl⟩ := h00
 refine at_start (fn := Tryz.f103) [.cell 4 60] 38 H.length rfl rfl rfl rfl (by kernel_rfl) (by kernel_rfl) (by simp) (Nat.le_refl _) ?_
 refine sq ?_
 refine at_regK [0, 1, 4] rfl ?_
 try simp [h00, o_i, f_a]
 refine sq ?_
 refine sq ?_
 refine at_regK [0, 1, 4, 5] rfl ?_
 try simp [h00, o_i, f_a]
 refine at_block rfl ?_
 refine at_count l.length (fun i s => (∀ j y, j < i → l[j]? = some y → offP h y = false) ∧ s = ⟨[(0, eTies l), (1, eInts h), (4, .ref false 0 0 [] 0), (5, I i)], [.cell (.agg [I 0, .bool false, I 0])], H⟩) rfl ⟨by intro j y hj; omega, rfl⟩ ?_
 rintro i s hi ⟨hno, rfl⟩
 refine sq ?_
 refine sq ?_
 refine at_regK [0, 1, 4, 5, 9] rfl ?_
 try simp [h00, o_i, f_a]
 refine at_cond rfl rfl (fun hb9 => ?_) (fun hb9 => ?_)
 ·
  try simp at hb9
  obtain ⟨t, ht⟩ : ∃ t, l[i]? = some t := ⟨_, List.getElem?_eq_getElem (by omega)⟩
  have i0 : (i : Int) < l.length := by omega
  obtain ⟨f0, f1, t0, t1⟩ := hin t (List.mem_of_getElem? ht)
  have hp : h[t.frm.toNat]? = some (gt h t.frm) := gt_some f0 f1
  have hq : h[t.to.toNat]? = some (gt h t.to) := gt_some t0 t1
  have hp' : ∀ p, h[t.frm.toNat]'p = gt h t.frm := fun p => (List.getElem?_eq_some_iff.1 hp).2
  have hq' : ∀ p, h[t.to.toNat]'p = gt h t.to := fun p => (List.getElem?_eq_some_iff.1 hq).2
  have b1 := hb _ (List.mem_of_getElem? hp)
  have b2 := hb _ (List.mem_of_getElem? hq)
  have wx : IntKind.i64.wrap (gt h t.to - gt h t.frm) = gt h t.to - gt h t.frm := wrap_id (by omega) (by omega)
  refine at_skip (by kernel_rfl) ?_
  try simp [h00, o_i, f_a, ht, i0, f0, f1, t0, t1, hp, hq, hp', hq', wx]
  refine sq ?_
  refine at_block rfl ?_
  refine sq ?_
  refine at_draw [0, 1, 4, 5, 34] [0, 0, 0, 0, 0, 1, 0, 1, 0, 0, 0, 0, 0, 1, 0, 1, 0, 0, 0, 0, 0, 1, 0] [] rfl Efol (by kernel_rfl) (by simp) ?_
  try simp [h00, o_i, f_a, ht, i0, f0, f1, t0, t1, hp, hq, hp', hq', wx]
  refine at_cond rfl rfl (fun hb34 => ?_) (fun hb34 => ?_)
  ·
   try simp at hb34
   refine sq ?_
   refine at_regK [4] rfl ?_
   try simp [h00, o_i, f_a, ht, i0, f0, f1, t0, t1, hp, hq, hp', hq', wx]
   refine at_ret (by kernel_rfl) ?_
   try simp [h00, o_i, f_a, ht, i0, f0, f1, t0, t1, hp, hq, hp', hq', wx]
   have e := idxP_at (p := offP h) ht (by unfold offP; simpa using hb34) hno
   simp [keptR, e, eKp]
  ·
   try simp at hb34
   refine at_skip (by kernel_rfl) ?_
   try simp [h00, o_i, f_a, ht, i0, f0, f1, t0, t1, hp, hq, hp', hq', wx]
   refine at_regK [0, 1, 4, 5] rfl ?_
   try simp [h00, o_i, f_a, ht, i0, f0, f1, t0, t1, hp, hq, hp', hq', wx]
   refine ⟨by omega, ?_, wrap_id (by omega) (by omega)⟩
   intro j y hj hy
   rcases Nat.lt_or_ge j i with h1 | h1
   ·exact hno j y h1 hy
   ·have : j = i := by omega
    subst this
    rw [ht] at hy
    cases hy
    unfold offP
    simpa using hb34
 ·
  try simp at hb9
  refine at_exit rfl ?_
  try simp [h00, o_i, f_a]
  refine sq ?_
  refine at_regK [4] rfl ?_
  try simp [h00, o_i, f_a]
  refine at_ret (by kernel_rfl) ?_
  try simp [h00, o_i, f_a]
  have e := idxP_none (p := offP h) (fun j y hj hy => hno j y (by omega) hy)
  simp [keptR, e, eKp]

theorem c57a (k : Kn) (hk : Few k) : Con E 57 [eKn k] (.agg [if check k ≠ 0 then .nilS else eTies (tiesM k), I (check k)]) := by
 intro n H hH
 have h00 := hh3 hH
 have ⟨hHs, hH', hpl⟩ := h00
 refine at_start (fn := Tryz.f57) [.cell 2 99] 13 H.length rfl rfl rfl rfl (by kernel_rfl) (by kernel_rfl) (by simp) (Nat.le_refl _) ?_
 refine sq ?_
 refine at_regK [1, 2] rfl ?_
 try simp [h00, o_i, f_a]
 refine sq ?_
 refine at_regK [1, 2, 3] rfl ?_
 try simp [h00, o_i, f_a]
 refine (c53 k hk).use hH ?_
 try simp [h00, o_i, f_a]
 refine sq ?_
 refine sq ?_
 refine at_regK [1, 2, 3, 7] rfl ?_
 try simp [h00, o_i, f_a]
 refine at_cond rfl rfl (fun hb7 => ?_) (fun hb7 => ?_)
 ·
  try simp at hb7
  refine sq ?_
  refine at_regK [2] rfl ?_
  try simp [h00, o_i, f_a]
  refine at_ret (by kernel_rfl) ?_
  try simp [h00, o_i, f_a]
  simp [hb7]
 ·
  try simp at hb7
  have o := order_of_check (by simpa using hb7 : check k = 0)
  have f := fine_of_check (by simpa using hb7 : check k = 0)
  refine at_skip (by kernel_rfl) ?_
  try simp [h00, o_i, f_a]
  refine sq ?_
  refine at_regK [2] rfl ?_
  try simp [h00, o_i, f_a]
  refine (c104 k hk o f.lo).use hH ?_
  try simp [h00, o_i, f_a]
  refine at_ret (by kernel_rfl) ?_
  try simp [h00, o_i, f_a]
  simp [hb7]

theorem c57 (k : Kn) (hk : Few k) : Con E 57 [eKn k] (eTd (tiesAll k).1 (tiesAll k).2) := by
 refine (c57a k hk).weak ?_
 unfold tiesAll eTd
 split
 ·exact fun c m => (Wk.agg (.cons (Wk.nil 4) (.cons (Wk.refl _) .nil))).VR rfl
 ·rename_i h
  simp at h
  rw [h]
  exact fun _ _ h => h

theorem c35 (k : Kn) (hk : Few k) (t : Tr) (h1 : t.loads.length ≤ 60) (h2 : t.draws.length ≤ 60) : Con E 35 [eKn k, eTr t] (eKp (fitsM k t).1 (fitsM k t).2.1 (fitsM k t).2.2) := by
 intro n H hH
 have h00 := hh3 hH
 have ⟨hHs, hH', hpl⟩ := h00
 refine at_start (fn := Tryz.f35) [.cell 4 60] 24 H.length rfl rfl rfl rfl (by kernel_rfl) (by kernel_rfl) (by simp) (Nat.le_refl _) ?_
 refine sq ?_
 refine at_regK [2, 3, 4] rfl ?_
 try simp [h00, o_i, f_a]
 refine sq ?_
 refine at_regK [2, 3, 4, 5] rfl ?_
 try simp [h00, o_i, f_a]
 refine (c53 k hk).use hH ?_
 try simp [h00, o_i, f_a]
 refine sq ?_
 refine sq ?_
 refine at_regK [2, 3, 4, 5, 10] rfl ?_
 try simp [h00, o_i, f_a]
 refine at_cond rfl rfl (fun hb10 => ?_) (fun hb10 => ?_)
 ·
  try simp at hb10
  refine sq ?_
  refine at_regK [4] rfl ?_
  try simp [h00, o_i, f_a]
  refine at_ret (by kernel_rfl) ?_
  try simp [h00, o_i, f_a]
  simp [fitsM, hb10, eKp]
 ·
  try simp at hb10
  have hck : check k = 0 := by simpa using hb10
  have o := order_of_check hck
  have f := fine_of_check hck
  have r := right_of_check hck
  refine at_skip (by kernel_rfl) ?_
  try simp [h00, o_i, f_a]
  refine sq ?_
  refine at_regK [2, 3, 4, 6] rfl ?_
  try simp [h00, o_i, f_a]
  refine (c102 k hk t (by omega) (by omega)).use hH ?_
  try simp [h00, o_i, f_a]
  refine sq ?_
  refine sq ?_
  refine at_regK [2, 3, 4, 17] rfl ?_
  try simp [h00, o_i, f_a]
  refine at_cond rfl rfl (fun hb17 => ?_) (fun hb17 => ?_)
  ·
   try simp at hb17
   refine sq ?_
   refine at_regK [4] rfl ?_
   try simp [h00, o_i, f_a]
   refine at_ret (by kernel_rfl) ?_
   try simp [h00, o_i, f_a]
   simp [fitsM, hck, hb17, eKp]
  ·
   try simp at hb17
   have ht := told_iff.1 hb17
   have hlt := tiesLen k
   have nl := r.nl; have nd := r.nd; have nw := r.nw
   have hm : (marksM k : Int) = 1 + k.loads.length + k.draws.length := by simp [marksM]
   have hlen : ((htsT t).length : Int) = marksM k := by have := ht.ll; have := ht.dl; rw [htsT_len]; omega
   refine at_skip (by kernel_rfl) ?_
   try simp [h00, o_i, f_a]
   refine sq ?_
   refine at_draw [4] [1, 1, 1, 1, 1, 3] [] rfl Efol (by kernel_rfl) (by simp) ?_
   try simp [h00, o_i, f_a]
   refine (c104 k hk o f.lo).draw hH ?_
   try simp [h00, o_i, f_a]
   refine (c105 t h1 h2 ht.l ht.d).draw hH ?_
   try simp [h00, o_i, f_a]
   refine (c103 (tiesM k) (by omega) (htsT t) (by omega) (fun x hx => by rw [hlen]; obtain ⟨g0, g1, g2, g3, _⟩ := ties_in r x hx; exact ⟨g0, g1, g2, g3⟩) (htsT_b ht h1 h2)).draw hH ?_
   try simp [h00, o_i, f_a]
   refine at_ret (by kernel_rfl) ?_
   try simp [h00, o_i, f_a]
   rw [kept_eq r ht]
   unfold fitsM
   simp only [hck, hb17, ne_eq, not_true_eq_false, if_false, Bool.true_eq_false]
   split <;> exact ⟨rfl, rfl, rfl⟩

theorem c59 (a b : List Tie) (ha : a.length ≤ 1000) (hb : b.length ≤ 1000) : Con E 59 [eTies a, eTies b] (.bool (decide (a = b))) := by
 intro n H hH
 have h00 := hh3 hH
 have ⟨hHs, hH', hpl⟩ := h00
 refine at_start (fn := Tryz.f59) [.tmp 4] 26 H.length rfl rfl rfl rfl (by kernel_rfl) (by kernel_rfl) (by simp) (Nat.le_refl _) ?_
 refine sq ?_
 refine at_regK [0, 1] rfl ?_
 try simp [h00, o_i, f_a]
 refine sq ?_
 refine sq ?_
 refine at_regK [0, 1, 10] rfl ?_
 try simp [h00, o_i, f_a]
 refine at_cond rfl rfl (fun hb10 => ?_) (fun hb10 => ?_)
 ·
  try simp at hb10
  refine sq ?_
  refine at_regK [4] rfl ?_
  try simp [h00, o_i, f_a]
  refine at_ret (by kernel_rfl) ?_
  try simp [h00, o_i, f_a]
  intro h; rw [h] at hb10; exact hb10 rfl
 ·
  try simp at hb10
  refine at_skip (by kernel_rfl) ?_
  try simp [h00, o_i, f_a]
  refine sq ?_
  refine sq ?_
  refine at_regK [0, 1, 5] rfl ?_
  try simp [h00, o_i, f_a]
  refine at_block rfl ?_
  have hll : a.length = b.length := by omega
  refine at_count a.length (fun i s => a.take i = b.take i ∧ s = ⟨[(0, eTies a), (1, eTies b), (5, I i)], [], H⟩) rfl ⟨by simp, rfl⟩ ?_
  rintro i s hi ⟨hab, rfl⟩
  refine sq ?_
  refine sq ?_
  refine at_regK [0, 1, 5, 14] rfl ?_
  try simp [h00, o_i, f_a]
  refine at_cond rfl rfl (fun hb14 => ?_) (fun hb14 => ?_)
  ·
   try simp at hb14
   obtain ⟨x, hx⟩ : ∃ x, a[i]? = some x := ⟨_, List.getElem?_eq_getElem (by omega)⟩
   obtain ⟨y, hy⟩ : ∃ x, b[i]? = some x := ⟨_, List.getElem?_eq_getElem (by omega)⟩
   have i0 : (i : Int) < a.length := by omega
   have i1 : (i : Int) < b.length := by omega
   refine at_skip (by kernel_rfl) ?_
   try simp [h00, o_i, f_a, hx, hy, i0, i1]
   refine sq ?_
   refine at_block rfl ?_
   refine sq ?_
   refine at_draw [0, 1, 5, 25] [0, 0, 0, 1, 0, 0, 0, 1, 0] [] rfl Efol (by kernel_rfl) (by simp) ?_
   try simp [h00, o_i, f_a, hx, hy, i0, i1]
   refine at_cond rfl rfl (fun hb25 => ?_) (fun hb25 => ?_)
   ·
    try simp at hb25
    refine sq ?_
    refine at_regK [4] rfl ?_
    try simp [h00, o_i, f_a, hx, hy, i0, i1]
    refine at_ret (by kernel_rfl) ?_
    try simp [h00, o_i, f_a, hx, hy, i0, i1]
    intro h; rw [h, hy] at hx; cases hx; exact hb25 rfl
   ·
    try simp at hb25
    refine at_skip (by kernel_rfl) ?_
    try simp [h00, o_i, f_a, hx, hy, i0, i1]
    refine at_regK [0, 1, 5] rfl ?_
    try simp [h00, o_i, f_a, hx, hy, i0, i1]
    refine ⟨hb14, ?_, wrap_id (by omega) (by omega)⟩
    rw [List.take_add_one, List.take_add_one, hx, hy, hab, hb25]
  ·
   try simp at hb14
   refine at_exit rfl ?_
   try simp [h00, o_i, f_a]
   refine sq ?_
   refine at_regK [4] rfl ?_
   try simp [h00, o_i, f_a]
   refine at_ret (by kernel_rfl) ?_
   try simp [h00, o_i, f_a]
   rw [List.take_of_length_le hb14, List.take_of_length_le (by omega)] at hab
   exact hab
end Go.Abs
/- Law: ties, and whether weights are true. -/
set_option linter.unusedVariables false
set_option linter.unusedSimpArgs false
set_option maxRecDepth 100000
set_option maxHeartbeats 2000000
namespace Go.Abs
open Go.RowKit Go.Proofs Go.Shaft
attribute [simp] ti22 ti23 ti24 ti26 ti30 ti42 ti45 ti52 ti122 ti125 ti88 ti92 ti46
attribute [simp] ti134 ti131 ti48 ti60 ti99 ti85 ti143 ti189 ti190 ti192 ti204 ti208 ti218 ti9 ti5 ti27 ti28 ti141 ti30 ti45
theorem tiesAll_len {k : Kn} (hk : Few k) : (tiesAll k).1.length ≤ 1000 := by
 have h := tiesLen k
 have h1 := hk.l; have h2 := hk.d; have h3 := hk.w
 unfold tiesAll
 split
 ·simp
 ·simp only; omega

theorem c11 (k : Kn) (t : Tr) : Con E 11 [eKn k, eTr t] (.bool true) := by
 intro n H hH
 have h00 := hh3 hH
 have ⟨hHs, hH', hpl⟩ := h00
 refine at_start (fn := Tryz.f11) [.tmp 4] 83 H.length rfl rfl rfl rfl (by kernel_rfl) (by kernel_rfl) (by simp) (Nat.le_refl _) ?_
 refine sq ?_
 refine at_regK [2, 3] rfl ?_
 try simp [h00, o_i, f_a]
 refine sq ?_
 refine sq ?_
 refine at_regK [2, 3, 26] rfl ?_
 try simp [h00, o_i, f_a]
 refine (c16 _).use hH ?_
 try simp [h00, o_i, f_a]
 refine pops_split 15 rfl (fun hg1 => ?_) (fun hg1 => ?_)
 ·
  try simp [h00, o_i, f_a, hg1]
  refine at_cond rfl rfl (fun hb26 => ?_) (fun hb26 => by simp at hb26)
  refine sq ?_
  refine at_regK [4] rfl ?_
  try simp [h00, o_i, f_a]
  refine c17.use hH ?_
  try simp [h00, o_i, f_a]
  refine at_ret (by kernel_rfl) ?_
  try simp [h00, o_i, f_a]
 ·
  have hfw : fewB k = true := by simpa using hg1
  have hk := fewB_few hfw
  try simp [h00, o_i, f_a, hg1]
  refine pops_split 21 rfl (fun hg2 => ?_) (fun hg2 => ?_)
  ·
   try simp [h00, o_i, f_a, hg2]
   refine at_cond rfl rfl (fun hb26 => ?_) (fun hb26 => by simp at hb26)
   refine sq ?_
   refine at_regK [4] rfl ?_
   try simp [h00, o_i, f_a]
   refine c17.use hH ?_
   try simp [h00, o_i, f_a]
   refine at_ret (by kernel_rfl) ?_
   try simp [h00, o_i, f_a]
  ·
   try simp [h00, o_i, f_a, hg2]
   refine at_cond rfl rfl (fun hb26 => ?_) (fun hb26 => ?_)
   ·
    try simp at hb26
    refine sq ?_
    refine at_regK [4] rfl ?_
    try simp [h00, o_i, f_a]
    refine c17.use hH ?_
    try simp [h00, o_i, f_a]
    refine at_ret (by kernel_rfl) ?_
    try simp [h00, o_i, f_a]
   ·
    try simp at hb26
    have l5 : t.loads.length ≤ 60 := by simp at hg2; omega
    have l6 : t.draws.length ≤ 60 := by omega
    have hk' := hk
    have tl := tiesAll_len hk
    refine at_skip (by kernel_rfl) ?_
    try simp [h00, o_i, f_a]
    refine sq ?_
    refine at_regK [2, 3, 5, 6] rfl ?_
    try simp [h00, o_i, f_a]
    refine (c51 k hk).use hH ?_
    try simp [h00, o_i, f_a]
    refine sq ?_
    refine at_regK [2, 3, 5, 6, 7] rfl ?_
    try simp [h00, o_i, f_a]
    refine (c57 k hk).use hH ?_
    try simp [h00, o_i, f_a]
    refine sq ?_
    refine at_regK [2, 3, 5, 6, 7, 8, 9, 10] rfl ?_
    try simp [h00, o_i, f_a]
    refine (c58 k hk t (by omega) (by omega)).use hH ?_
    try simp [h00, o_i, f_a]
    refine sq ?_
    refine at_regK [2, 5, 6, 7, 8, 9, 10, 11] rfl ?_
    try simp [h00, o_i, f_a]
    refine (c35 k hk t l5 l6).use hH ?_
    try simp [h00, o_i, f_a]
    refine sq ?_
    refine at_draw [4] [1, 0, 1, 1, 1, 1, 0, 0, 0, 0, 0, 1, 1, 0, 0, 0, 0, 1, 0, 0, 0, 0, 0, 1, 0, 0, 0, 0, 0, 1, 0, 0, 0, 0, 0, 1, 0, 0, 0] [] rfl Efol (by kernel_rfl) (by simp) ?_
    try simp [h00, o_i, f_a]
    refine c17.draw hH ?_
    try simp [h00, o_i, f_a]
    refine (c48 k hk).draw hH ?_
    try simp [h00, o_i, f_a]
    refine (c53 k hk).draw hH ?_
    try simp [h00, o_i, f_a]
    refine (c59 _ _ tl tl).draw hH ?_
    try simp [h00, o_i, f_a]
    refine at_ret (by kernel_rfl) ?_
    try simp [h00, o_i, f_a]
end Go.Abs
