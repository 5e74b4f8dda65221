/- What this law alone rests on. -/
import Derived.Test.YtaapndcljpcelaaGreatP5
/- More weighings, and fewer. -/
set_option linter.unusedVariables false
set_option linter.unusedSimpArgs false
namespace Go.Shaft
def moreW (k : Kn) (w : Wg) : Kn := { k with weighs := k.weighs ++ [w] }
theorem more_sub (k : Kn) (w : Wg) : ∀ t ∈ tiesM k, t ∈ tiesM (moreW k w) := by
  intro t ht
  have e3 : ties3 (moreW k w) = ties3 k ++ both (weighedM k w).1 (weighedM k w).2 w.sum w.id := by
    unfold ties3
    show List.flatMap _ (k.weighs ++ [w]) = _
    rw [List.flatMap_append]
    simp only [List.flatMap_cons, List.flatMap_nil, List.append_nil]
    rfl
  have e1 : ties1 (moreW k w) = ties1 k := rfl
  have e2 : ties2 (moreW k w) = ties2 k := rfl
  have e4 : ties4 (moreW k w) = ties4 k := rfl
  have e5 : ties5 (moreW k w) = ties5 k := rfl
  rw [tiesM, e1, e2, e3, e4, e5]
  simp only [tiesM, List.mem_append] at ht ⊢
  rcases ht with h | h | h | h | h
  · exact .inl h
  · exact .inr (.inl h)
  · exact .inr (.inr (.inl (.inl h)))
  · exact .inr (.inr (.inr (.inl h)))
  · exact .inr (.inr (.inr (.inr h)))
theorem less_sub (k : Kn) (ids : List Int) : ∀ t ∈ tiesM (withoutM k ids), t ∈ tiesM k := by
  intro t ht
  have e3 : ties3 (withoutM k ids) = (k.weighs.filter fun w => !decide (w.id ∈ ids)).flatMap fun w => both (weighedM k w).1 (weighedM k w).2 w.sum w.id := rfl
  have e1 : ties1 (withoutM k ids) = ties1 k := rfl
  have e2 : ties2 (withoutM k ids) = ties2 k := rfl
  have e4 : ties4 (withoutM k ids) = ties4 k := rfl
  have e5 : ties5 (withoutM k ids) = ties5 k := rfl
  rw [tiesM, e1, e2, e3, e4, e5] at ht
  simp only [tiesM, List.mem_append] at ht ⊢
  rcases ht with h | h | h | h | h
  · exact .inl h
  · exact .inr (.inl h)
  · refine .inr (.inr (.inl ?_))
    obtain ⟨w, hw, h⟩ := List.mem_flatMap.1 h
    exact List.mem_flatMap.2 ⟨w, (List.mem_filter.1 hw).1, h⟩
  · exact .inr (.inr (.inr (.inl h)))
  · exact .inr (.inr (.inr (.inr h)))
theorem feas_of_more {k : Kn} {w : Wg} {H : Int → Int} (f : Feas (netM (moreW k w) []) H) : Feas (netM k []) H := by
  intro t ht
  rw [links0] at ht
  exact f t (by rw [links0]; exact more_sub k w t ht)
theorem feas_less {k : Kn} {ids : List Int} {H : Int → Int} (f : Feas (netM k []) H) : Feas (netM (withoutM k ids) []) H := by
  intro t ht
  rw [links0] at ht
  exact f t (by rw [links0]; exact less_sub k ids t ht)
/-- What is told without an error. -/
theorem above_zero {k : Kn} {a b : Int} (h : (aboveC k a b).2 = 0) : check k = 0 ∧ (0 ≤ a ∧ a < marksM k) ∧ (0 ≤ b ∧ b < marksM k) ∧ fin? (netM k []) a = true ∧ (aboveC k a b).1.most = dst (netM k []) a b := by
  have hm : markedM k [a, b] = 0 := by
    refine Classical.byContradiction fun hn => ?_
    unfold aboveC at h
    rw [if_pos hn] at h
    exact hn h
  obtain ⟨hc, hin⟩ := marked_ok hm
  have ha := hin a (by simp)
  have hb := hin b (by simp)
  obtain ⟨e1, m1⟩ := aboveC_eq hc ha.1 ha.2 hb.1 hb.2
  have hF : fin? (netM k []) a = true := by
    cases hf : fin? (netM k []) a with
    | true => rfl
    | false => rw [h, hf] at e1; cases e1
  exact ⟨hc, ha, hb, hF, m1 hF⟩
/-- A further weighing moves no end outwards; what contradicts itself stays so. -/
theorem more_le {k : Kn} (hc : check k = 0) {w : Wg} {a b : Int} (h : (aboveC (moreW k w) a b).2 = 0) : fin? (netM k []) a = true ∧ (aboveC (moreW k w) a b).1.most ≤ (aboveC k a b).1.most := by
  obtain ⟨hc2, ha, hb, hF, hm⟩ := above_zero h
  have ha' : 0 ≤ a ∧ a < marksM k := ha
  have hb' : 0 ≤ b ∧ b < marksM k := hb
  have N := Net.base hc
  have N2 := Net.base hc2
  have f := feas_of_more (N2.feas ha.1 ha.2 hF)
  have hF2 := N.fin_of ha'.1 ha'.2 f
  have h1 := N.le ha'.1 ha'.2 hb'.1 hb'.2 f
  rw [N2.zero ha.1 ha.2 hF] at h1
  rw [hm, (aboveC_eq hc ha'.1 ha'.2 hb'.1 hb'.2).2 hF2]
  exact ⟨hF2, by omega⟩
theorem ins_mem (l : List Int) (x y : Int) : y ∈ insM l x ↔ y = x ∨ y ∈ l := by
  unfold insM
  rw [List.mem_append, List.mem_cons]
  have e : l = l.takeWhile (fun y => !decide (x < y)) ++ l.dropWhile (fun y => !decide (x < y)) := (List.takeWhile_append_dropWhile).symm
  constructor
  · rintro (h | h | h)
    · exact .inr (by rw [e]; exact List.mem_append_left _ h)
    · exact .inl h
    · exact .inr (by rw [e]; exact List.mem_append_right _ h)
  · rintro (h | h)
    · exact .inr (.inl h)
    · rw [e, List.mem_append] at h
      rcases h with h | h
      · exact .inl h
      · exact .inr (.inr h)
theorem sort_mem : ∀ (l acc : List Int) (y : Int), y ∈ l.foldl insM acc ↔ y ∈ l ∨ y ∈ acc
  | [], acc, y => by simp
  | x :: l, acc, y => by
    rw [List.foldl_cons, sort_mem l _ y, ins_mem, List.mem_cons]
    constructor
    · rintro (h | h | h)
      · exact .inl (.inr h)
      · exact .inl (.inl h)
      · exact .inr h
    · rintro ((h | h) | h)
      · exact .inr (.inl h)
      · exact .inl h
      · exact .inr (.inr h)
theorem sortM_mem (l : List Int) (y : Int) : y ∈ sortM l ↔ y ∈ l := by
  rw [sortM, sort_mem]
  simp
theorem chosen_mem (k : Kn) (is : Kn → Bool) (y : Int) : y ∈ chosenM k is ↔ (∃ w ∈ k.weighs, w.id = y) ∧ is (withoutM k [y]) = true := by
  rw [chosenM, sortM_mem, List.mem_filter, List.mem_map]
/-- The weighings on which it rests. -/
theorem rests_ok {k : Kn} (hc : check k = 0) {a b : Int} (a0 : 0 ≤ a) (a1 : a < marksM k) (b0 : 0 ≤ b) (b1 : b < marksM k) (hF : fin? (netM k []) a = true) : (restsM k a b).2 = 0 ∧ ∀ w ∈ k.weighs, (w.id ∈ (restsM k a b).1 ↔ dst (netM (withoutM k [w.id]) []) a b ≠ dst (netM k []) a b) := by
  have e : restsM k a b = (chosenM k (fun less => decide ((aboveM (netM less []) a b).1 ≠ (aboveM (netM k []) a b).1)), 0) := by
    unfold restsM
    rw [marked_two hc a0 a1 b0 b1, if_neg (by simp), if_neg]
    rw [above_eq]
    simp only [hF]
    simp
  rw [e]
  refine ⟨rfl, fun w hw => ?_⟩
  simp only
  rw [chosen_mem]
  simp only [above_eq, decide_eq_true_eq]
  exact ⟨fun h => of_decide_eq_true h.2, fun h => ⟨⟨w, hw, rfl⟩, decide_eq_true h⟩⟩
theorem less_ok {k : Kn} (hc : check k = 0) {a b : Int} (a0 : 0 ≤ a) (a1 : a < marksM k) (b0 : 0 ≤ b) (b1 : b < marksM k) (hF : fin? (netM k []) a = true) (id : Int) : (withoutE k [id]) = (withoutM k [id], 0) ∧ (aboveC (withoutM k [id]) a b).2 = 0 ∧ (aboveC (withoutM k [id]) a b).1.most = dst (netM (withoutM k [id]) []) a b := by
  have hc2 := check_without hc [id]
  have N := Net.base hc
  have N2 := Net.base hc2
  have hF2 : fin? (netM (withoutM k [id]) []) a = true := N2.fin_of (k := withoutM k [id]) a0 a1 (feas_less (N.feas a0 a1 hF))
  obtain ⟨e1, m1⟩ := aboveC_eq (k := withoutM k [id]) hc2 a0 a1 b0 b1
  exact ⟨by rw [withoutE, if_neg (by simp [hc])], by rw [e1, if_pos hF2], m1 hF2⟩
theorem suspects_ok {k : Kn} (hc : check k = 0) (hF : fin? (netM k []) 0 = false) : (suspectsM k).2 = 0 ∧ ∀ id ∈ (suspectsM k).1, (findM (withoutM k [id])).2 = 0 ∧ withoutE k [id] = (withoutM k [id], 0) := by
  have e : suspectsM k = (chosenM k (fun less => (aboveM (netM less []) 0 0).2), 0) := by
    unfold suspectsM
    rw [if_neg (by simp [hc]), if_neg]
    rw [above_eq]
    simp [hF]
  rw [e]
  refine ⟨rfl, fun id h => ?_⟩
  obtain ⟨_, h⟩ := (chosen_mem k (fun less => (aboveM (netM less []) 0 0).2) id).1 h
  have hc2 := check_without hc [id]
  refine ⟨?_, by rw [withoutE, if_neg (by simp [hc])]⟩
  unfold findM
  rw [if_neg (by simp [hc2]), if_pos]
  rw [above_eq] at h
  exact h
theorem chosen_len (k : Kn) (is : Kn → Bool) : (chosenM k is).length ≤ k.weighs.length := by
  rw [chosenM, sortM_len]
  refine Nat.le_trans (List.length_filter_le _ _) ?_
  simp
theorem sus_len (k : Kn) : (suspectsM k).1.length ≤ k.weighs.length := by
  unfold suspectsM
  split
  · simp
  · split
    · simp
    · exact chosen_len k (fun less => (aboveM (netM less []) 0 0).2)
theorem rests_len (k : Kn) (a b : Int) : (restsM k a b).1.length ≤ k.weighs.length := by
  unfold restsM
  split
  · simp
  · split
    · simp
    · exact chosen_len k (fun less => decide ((aboveM (netM less []) a b).1 ≠ (aboveM (netM k []) a b).1))
end Go.Shaft
/- True weights: what is told of loads and draws holds of them. -/
set_option linter.unusedVariables false
set_option linter.unusedSimpArgs false
namespace Go.Shaft
def inS (n : Int) (s : Sp) : Bool := decide (s.lo ≤ n ∧ n ≤ s.hi)
/-- The height of a mark, by weights. -/
def hgtM (k : Kn) (t : Tr) (m : Int) : Int := if m ≤ k.loads.length then pfx t.loads m.toNat else pfx t.draws (m - k.loads.length).toNat
theorem hgt_b {k : Kn} {t : Tr} (ht : TrOk k t) {m : Int} (h : m ≤ 60) : 0 ≤ hgtM k t m ∧ hgtM k t m ≤ 1006632960 := by
  unfold hgtM
  split
  · have := pfx_bound ht.l m.toNat; omega
  · have := pfx_bound ht.d (m - k.loads.length).toNat; omega
def takenM (k : Kn) (t : Tr) (j i : Int) : Int := mxI 0 (mnI (hgtM k t (i + 1)) (hgtM k t (k.loads.length + j + 1)) - mxI (hgtM k t i) (if 0 < j then hgtM k t (k.loads.length + j) else 0))
theorem tdiv_b {z d : Int} (d0 : 1 ≤ d) (z0 : -1125899906842624 ≤ z) (z1 : z ≤ 1125899906842624) : -1125899906842624 ≤ z.tdiv d ∧ z.tdiv d ≤ 1125899906842624 := by
  rcases Int.lt_or_le z 0 with h | h
  · obtain ⟨p, rfl⟩ : ∃ p, z = -p := ⟨-z, by omega⟩
    rw [Int.neg_tdiv, Int.tdiv_eq_ediv_of_nonneg (by omega)]
    have h1 := Int.ediv_le_self d (show 0 ≤ p by omega)
    have h2 := Int.ediv_nonneg (show 0 ≤ p by omega) (show 0 ≤ d by omega)
    omega
  · rw [Int.tdiv_eq_ediv_of_nonneg h]
    have h1 := Int.ediv_le_self d h
    have h2 := Int.ediv_nonneg h (show 0 ≤ d by omega)
    omega

theorem floor_eq (n d : Int) (d0 : 0 < d) : (if n.tmod d < 0 then n.tdiv d - 1 else n.tdiv d) = floorM n d := by
  unfold floorM
  rcases Int.lt_or_le n 0 with h | h
  · rw [if_pos h]
    obtain ⟨p, rfl⟩ : ∃ p, n = -p := ⟨-n, by omega⟩
    rw [Int.neg_tmod, Int.neg_tdiv, Int.neg_neg, Int.tmod_eq_emod_of_nonneg (by omega), Int.tdiv_eq_ediv_of_nonneg (by omega), Int.tdiv_eq_ediv_of_nonneg (by omega)]
    have h1 := Int.emod_nonneg p (show d ≠ 0 by omega)
    have h2 := Int.emod_lt_of_pos p d0
    have h3 := Int.emod_add_mul_ediv p d
    generalize hr : p % d = r at *
    generalize hq : p / d = q at *
    have h4 : (p + d - 1) / d = if r = 0 then q else q + 1 := by
      split
      · rename_i e
        rw [show p + d - 1 = (d - 1) + d * q by omega, Int.add_mul_ediv_left _ _ (by omega), Int.ediv_eq_zero_of_lt (by omega) (by omega)]
        omega
      · rename_i e
        rw [show p + d - 1 = (r - 1) + d * (q + 1) by rw [Int.mul_add]; omega, Int.add_mul_ediv_left _ _ (by omega), Int.ediv_eq_zero_of_lt (by omega) (by omega)]
        omega
    rw [h4]
    by_cases e : r = 0
    · rw [if_neg (by omega), if_pos e]
    · rw [if_pos (by omega), if_neg e]
      omega
  · rw [if_neg (by have := Int.tmod_nonneg d h; omega), if_neg (by omega)]
theorem hgt_rai {k : Kn} (r : Right k) (t : Tr) {v : Int} (v0 : 0 ≤ v) (v1 : v < marksM k) : gt (raisedM k t) v = hgtM k t v := by
  rw [gt_rai r t v0 v1, hgtM]
  split
  · rfl
  · congr 1
    omega
theorem find_id {l : List Ld} (hn : (l.map (·.id)).Nodup) {i : Nat} {x : Ld} (hx : l[i]? = some x) : find l x.id = i := by
  refine find_at hx rfl fun j y hj hy e => ?_
  have h1 : (l.map (·.id))[j]? = some x.id := by rw [List.getElem?_map, hy]; simp [e]
  have h2 : (l.map (·.id))[i]? = some x.id := by rw [List.getElem?_map, hx]; rfl
  have hjl := (List.getElem?_eq_some_iff.1 h1).1
  have hil := (List.getElem?_eq_some_iff.1 h2).1
  have := List.pairwise_iff_getElem.1 hn j i hjl hil hj
  rw [(List.getElem?_eq_some_iff.1 h1).2, (List.getElem?_eq_some_iff.1 h2).2] at this
  exact this rfl
theorem nodup_l {k : Kn} (o : Order k) : (k.loads.map (·.id)).Nodup := (List.nodup_append.1 o.ids).1
theorem nodup_d {k : Kn} (o : Order k) : (k.draws.map (·.id)).Nodup := (List.nodup_append.1 (List.nodup_append.1 o.ids).2.1).1
theorem not_load {k : Kn} (o : Order k) {x : Ld} (hx : x ∈ k.draws) : find k.loads x.id = -1 := by
  refine find_none fun j y hj hy e => ?_
  have h := (List.nodup_append.1 o.ids).2.2 y.id (List.mem_map_of_mem (List.mem_of_getElem? hy)) x.id (List.mem_append_left _ (List.mem_map_of_mem hx))
  exact h e
/-- What is told of two marks holds of true heights. -/
theorem between_in {k : Kn} (hc : check k = 0) {H : Int → Int} (f : Feas (netM k []) H) {a b : Int} (a0 : 0 ≤ a) (a1 : a < marksM k) (b0 : 0 ≤ b) (b1 : b < marksM k) : (betweenM k a b).2 = 0 ∧ inS (H b - H a) (betweenM k a b).1 = true := by
  have N := Net.base hc
  have h1 := N.le a0 a1 b0 b1 f
  have h2 := N.le b0 b1 a0 a1 f
  have hF := N.fin_of a0 a1 f
  unfold betweenM
  rw [above_eq, above_eq, if_pos hF]
  refine ⟨rfl, ?_⟩
  simp only [inS, decide_eq_true_eq]
  omega
theorem hgt_load {k : Kn} {t : Tr} {i : Nat} {n : Int} (hi : i < k.loads.length) (hn : t.loads[i]? = some n) : hgtM k t ((i : Int) + 1) - hgtM k t i = n := by
  unfold hgtM
  rw [if_pos (by omega), if_pos (by omega), show ((i : Int) + 1).toNat = i + 1 by omega, show ((i : Nat) : Int).toNat = i by omega, pfx_succ hn]
  omega
theorem hgt_drawn (k : Kn) (t : Tr) {j : Nat} : hgtM k t (drawnM k j) = pfx t.draws j := by
  unfold drawnM
  split
  · rename_i e
    obtain rfl : j = 0 := by omega
    unfold hgtM
    rw [if_pos (by omega)]
    simp
  · unfold hgtM
    rw [if_neg (by omega), show ((k.loads.length : Int) + (j : Int) - k.loads.length).toNat = j by omega]
theorem hgt_draw {k : Kn} {t : Tr} {j : Nat} {n : Int} (hn : t.draws[j]? = some n) : hgtM k t (drawnM k ((j : Int) + 1)) - hgtM k t (drawnM k j) = n := by
  have h1 := hgt_drawn k t (j := j + 1)
  have h2 := hgt_drawn k t (j := j)
  rw [show ((j : Int) + 1) = ((j + 1 : Nat) : Int) by push_cast; rfl, h1, h2, pfx_succ hn]
  omega
theorem run_load {k : Kn} (hc : check k = 0) {i : Nat} {x : Ld} (hx : k.loads[i]? = some x) : runM k x.id x.id = betweenM k i ((i : Int) + 1) := by
  have hf := find_id (nodup_l (order_of_check hc)) hx
  unfold runM
  rw [if_neg (by simp [hc])]
  have hr : reachM k x.id x.id = ((i : Int), (i : Int) + 1, true) := by
    unfold reachM
    rw [hf, if_pos (by omega)]
  have ho : orderedB k.loads x.id x.id = true := by
    simp only [orderedB, hf, decide_eq_true_eq]
    omega
  simp [hr, ho]
theorem run_draw {k : Kn} (hc : check k = 0) {j : Nat} {x : Ld} (hx : k.draws[j]? = some x) : runM k x.id x.id = betweenM k (drawnM k j) (drawnM k ((j : Int) + 1)) := by
  have o := order_of_check hc
  have hf := find_id (nodup_d o) hx
  have hn := not_load o (List.mem_of_getElem? hx)
  unfold runM
  rw [if_neg (by simp [hc])]
  have hr : reachM k x.id x.id = (drawnM k j, drawnM k ((j : Int) + 1), true) := by
    unfold reachM
    rw [hn, hf, if_neg (by omega)]
    have e : (if (j : Int) > 0 then (j : Int) else 0) = j := by split <;> omega
    rw [e]
    simp
  have ho : orderedB k.draws x.id x.id = true := by
    simp only [orderedB, hf, decide_eq_true_eq]
    omega
  simp [hr, ho]
end Go.Shaft
/- What a draw takes: least and most. -/
set_option linter.unusedVariables false
set_option linter.unusedSimpArgs false
namespace Go.Shaft
theorem great_congr {is is' : Int → Bool} : ∀ (f : Nat) (lo hi : Int), 0 ≤ lo → (∀ x, lo ≤ x → x ≤ hi → is x = is' x) → greatM is f lo hi = greatM is' f lo hi
  | 0, lo, hi, _, _ => rfl
  | f + 1, lo, hi, h0, h => by
    rw [greatM, greatM]
    by_cases hl : lo ≤ hi
    · rw [if_pos hl, if_pos hl]
      have hm := mid_in h0 hl
      rw [← h _ hm.1 hm.2]
      split
      · exact great_congr f _ _ (by omega) (fun x x0 x1 => h x (by omega) x1)
      · exact great_congr f _ _ h0 (fun x x0 x1 => h x x0 (by omega))
    · rw [if_neg hl, if_neg hl]
/-- It can be so much. -/
def canR (k : Kn) (o : Ov) (z : Int) : Bool := if z < 1 then true else if z ≤ 1048576 then canM k o z else false
theorem can_iff {k : Kn} (r : Right k) {o : Ov} (h : OvIn k o) {z : Int} (z0 : 0 ≤ z) (z1 : z ≤ 1048576) : canM k o z = true ↔ ∃ H, Feas (netM k (moreM o z)) H := by
  have N : Net k (moreM o z) := ⟨more_wf r h z0 z1⟩
  have n0 : (0 : Int) < marksM k := by have := N.wf.n0; rw [netn] at this; exact this
  exact N.fin_iff (a := 0) (by omega) n0
theorem feas_z {k : Kn} {o : Ov} {H : Int → Int} {z : Int} : Feas (netM k (moreM o z)) H ↔ Feas (netM k []) H ∧ ∀ p ∈ pairsL o, z ≤ H p.2 - H p.1 := by
  constructor
  · intro f
    refine ⟨fun t ht => f t ?_, fun p hp => ?_⟩
    · rw [links0] at ht
      exact List.mem_append_left _ ht
    · have := f ⟨p.2, p.1, -z, 0⟩ (List.mem_append_right _ (List.mem_map.2 ⟨p, hp, rfl⟩))
      simp only at this
      omega
  · rintro ⟨f, g⟩ t ht
    rcases List.mem_append.1 ht with ht | ht
    · exact f t (by rw [links0]; exact ht)
    · obtain ⟨p, hp, rfl⟩ := List.mem_map.1 ht
      have := g p hp
      simp only
      omega
theorem can_mono {k : Kn} (r : Right k) {o : Ov} (h : OvIn k o) : ∀ x y : Int, x ≤ y → canR k o y = true → canR k o x = true := by
  intro x y hxy hy
  unfold canR at hy ⊢
  by_cases h1 : x < 1
  · rw [if_pos h1]
  · rw [if_neg h1]
    rw [if_neg (by omega)] at hy
    by_cases h2 : y ≤ 1048576
    · rw [if_pos h2] at hy
      rw [if_pos (by omega)]
      obtain ⟨H, f⟩ := (can_iff r h (by omega) h2).1 hy
      obtain ⟨f1, f2⟩ := feas_z.1 f
      exact (can_iff r h (by omega) (by omega)).2 ⟨H, feas_z.2 ⟨f1, fun p hp => by have := f2 p hp; omega⟩⟩
    · rw [if_neg h2] at hy
      cases hy
theorem most_spec {k : Kn} (r : Right k) {o : Ov} (h : OvIn k o) {z : Int} (z1 : 1 ≤ z) (z2 : z ≤ 1048576) : (∃ H, Feas (netM k (moreM o z)) H) ↔ z ≤ mostN k o := by
  have e : mostN k o = greatM (canR k o) 1048577 1 1048576 := by
    unfold mostN
    exact great_congr _ _ _ (by omega) (fun x x0 x1 => by rw [canR, if_neg (by omega), if_pos x1])
  rw [e, ← great_spec (canR k o) (can_mono r h) 1048577 1 1048576 (by omega) (by omega) (by omega) z z1 z2, ← can_iff r h (by omega) z2, canR, if_neg (by omega), if_pos z2]
theorem least_fold {k : Kn} : ∀ (l : List (Int × Int)) (q : Int × Tr), ∃ r, l.foldl (stepL k) (some q) = some r ∧ r.1 ≤ q.1 ∧ (∀ p ∈ l, r.1 ≤ loOf k p) ∧ (r.1 = q.1 ∨ ∃ p ∈ l, r.1 = loOf k p)
  | [], q => ⟨q, rfl, Int.le_refl _, by simp, .inl rfl⟩
  | p :: l, q => by
    rw [List.foldl_cons]
    by_cases h : loOf k p < q.1
    · have e : stepL k (some q) p = some (loOf k p, weightsM k (settleM (netM k []) p.2).1) := if_pos h
      rw [e]
      obtain ⟨r, e1, h1, h2, h3⟩ := least_fold l (loOf k p, weightsM k (settleM (netM k []) p.2).1)
      refine ⟨r, e1, by simp only at h1; omega, ?_, ?_⟩
      · intro x hx
        rcases List.mem_cons.1 hx with rfl | hx
        · exact h1
        · exact h2 x hx
      · rcases h3 with h3 | ⟨x, hx, h3⟩
        · exact .inr ⟨p, List.mem_cons_self, h3⟩
        · exact .inr ⟨x, List.mem_cons_of_mem _ hx, h3⟩
    · have e : stepL k (some q) p = some q := if_neg h
      rw [e]
      obtain ⟨r, e1, h1, h2, h3⟩ := least_fold l q
      refine ⟨r, e1, h1, ?_, ?_⟩
      · intro x hx
        rcases List.mem_cons.1 hx with rfl | hx
        · omega
        · exact h2 x hx
      · rcases h3 with h3 | ⟨x, hx, h3⟩
        · exact .inl h3
        · exact .inr ⟨x, List.mem_cons_of_mem _ hx, h3⟩
theorem least_spec (k : Kn) (o : Ov) : (∀ p ∈ pairsL o, (leastM k o).1 ≤ loOf k p) ∧ ∃ p ∈ pairsL o, (leastM k o).1 = loOf k p := by
  unfold leastM
  rw [pairsL, List.foldl_cons]
  have e : stepL k none (o.a, o.b) = some (loOf k (o.a, o.b), weightsM k (settleM (netM k []) (o.a, o.b).2).1) := rfl
  rw [e]
  obtain ⟨r, e1, h1, h2, h3⟩ := least_fold (k := k) [(o.c, o.b), (o.a, o.d), (o.c, o.d)] (loOf k (o.a, o.b), weightsM k (settleM (netM k []) (o.a, o.b).2).1)
  rw [e1]
  refine ⟨?_, ?_⟩
  · intro p hp
    rcases List.mem_cons.1 hp with rfl | hp
    · exact h1
    · exact h2 p hp
  · rcases h3 with h3 | ⟨p, hp, h3⟩
    · exact ⟨_, List.mem_cons_self, h3⟩
    · exact ⟨p, List.mem_cons_of_mem _ hp, h3⟩
end Go.Shaft
/- What is told of what a draw takes holds of true weights. -/
set_option linter.unusedVariables false
set_option linter.unusedSimpArgs false
namespace Go.Shaft
def ovOf (k : Kn) (j i : Int) : Ov := ⟨i, i + 1, drawnM k j, drawnM k (j + 1)⟩
theorem takes_at {k : Kn} (hc : check k = 0) (hF : fin? (netM k []) 0 = true) {i j : Nat} {x y : Ld} (hx : k.loads[i]? = some x) (hy : k.draws[j]? = some y) : takesM k y.id x.id = (ovOf k j i, 0) := by
  have o := order_of_check hc
  have h1 := find_id (nodup_l o) hx
  have h2 := find_id (nodup_d o) hy
  unfold takesM
  rw [if_neg (by simp [hc]), h1, h2, if_neg (by omega), if_neg (by rw [above_eq]; simp [hF])]
  rfl
theorem taken_eq {k : Kn} {t : Tr} (ht : TrOk k t) {j i : Nat} (hj : j < k.draws.length) (hi : i < k.loads.length) : takenM k t j i = mxI 0 (mnI (hgtM k t ((i : Int) + 1)) (hgtM k t (drawnM k ((j : Int) + 1))) - mxI (hgtM k t i) (hgtM k t (drawnM k j))) := by
  have e1 : drawnM k ((j : Int) + 1) = k.loads.length + (j : Int) + 1 := by
    unfold drawnM
    rw [if_neg (by omega)]
    omega
  have e2 : hgtM k t (drawnM k j) = if 0 < (j : Int) then hgtM k t (k.loads.length + (j : Int)) else 0 := by
    unfold drawnM
    by_cases h : (j : Int) = 0
    · rw [if_pos h, if_neg (by omega), hgtM, if_pos (by omega)]
      simp
    · rw [if_neg h, if_pos (by omega)]
  rw [takenM, e1, e2]
theorem ov_in {k : Kn} {j i : Nat} (hj : j < k.draws.length) (hi : i < k.loads.length) : OvIn k (ovOf k j i) := by
  have hm : (marksM k : Int) = 1 + k.loads.length + k.draws.length := by simp [marksM]
  have d1 := drawn_in (k := k) (a := (j : Int)) (by omega) (by omega)
  have d2 := drawn_in (k := k) (a := (j : Int) + 1) (by omega) (by omega)
  refine ⟨?_, ?_, ?_, ?_, ?_, ?_, ?_, ?_⟩ <;> simp only [ovOf] <;> omega
/-- What a draw takes lies within what is told. -/
theorem took_in {k : Kn} (hc : check k = 0) {t : Tr} (ht : TrOk k t) (f : Feas (netM k []) (gt (raisedM k t))) {i j : Nat} {x y : Ld} (hx : k.loads[i]? = some x) (hy : k.draws[j]? = some y) : (tookM k y.id x.id).2 = 0 ∧ inS (takenM k t j i) (tookM k y.id x.id).1 = true := by
  have N := Net.base hc
  have r := right_of_check hc
  have n0 : (0 : Int) < marksM k := by have := N.wf.n0; rw [netn] at this; exact this
  have hF := N.fin_of (a := 0) (by omega) n0 f
  have hil := (List.getElem?_eq_some_iff.1 hx).1
  have hjl := (List.getElem?_eq_some_iff.1 hy).1
  have hin := ov_in (k := k) hjl hil
  have hH : ∀ v : Int, 0 ≤ v → v < marksM k → gt (raisedM k t) v = hgtM k t v := fun v v0 v1 => hgt_rai r t v0 v1
  have e : tookM k y.id x.id = (⟨(leastM k (ovOf k j i)).1, (mostM k (ovOf k j i)).1⟩, 0) := by
    unfold tookM
    rw [takes_at hc hF hx hy]
    rw [if_neg (by simp)]
  have hT := taken_eq ht hjl hil
  have ga : gt (raisedM k t) (ovOf k j i).a = hgtM k t i := hH _ hin.a0 hin.a1
  have gb : gt (raisedM k t) (ovOf k j i).b = hgtM k t ((i : Int) + 1) := hH _ hin.b0 hin.b1
  have gc : gt (raisedM k t) (ovOf k j i).c = hgtM k t (drawnM k j) := hH _ hin.c0 hin.c1
  have gd : gt (raisedM k t) (ovOf k j i).d = hgtM k t (drawnM k ((j : Int) + 1)) := hH _ hin.d0 hin.d1
  have hlo : ∀ p ∈ pairsL (ovOf k j i), loOf k p ≤ mxI 0 (gt (raisedM k t) p.2 - gt (raisedM k t) p.1) := by
    intro p hp
    obtain ⟨q0, q1, q2, q3⟩ := pairs_in hin p hp
    have h1 := N.le q2 q3 q0 q1 f
    have h2 : loOf k p = mxI 0 (-dst (netM k []) p.2 p.1) := rfl
    rw [h2]
    unfold mxI
    split <;> split <;> omega
  obtain ⟨hl, _⟩ := least_spec k (ovOf k j i)
  have mem : ∀ p, p ∈ pairsL (ovOf k j i) ↔ p = ((ovOf k j i).a, (ovOf k j i).b) ∨ p = ((ovOf k j i).c, (ovOf k j i).b) ∨ p = ((ovOf k j i).a, (ovOf k j i).d) ∨ p = ((ovOf k j i).c, (ovOf k j i).d) := by
    intro p
    simp [pairsL]
  have l1 := Int.le_trans (hl _ ((mem _).2 (.inl rfl))) (hlo _ ((mem _).2 (.inl rfl)))
  have l2 := Int.le_trans (hl _ ((mem _).2 (.inr (.inl rfl)))) (hlo _ ((mem _).2 (.inr (.inl rfl))))
  have l3 := Int.le_trans (hl _ ((mem _).2 (.inr (.inr (.inl rfl))))) (hlo _ ((mem _).2 (.inr (.inr (.inl rfl)))))
  have l4 := Int.le_trans (hl _ ((mem _).2 (.inr (.inr (.inr rfl))))) (hlo _ ((mem _).2 (.inr (.inr (.inr rfl)))))
  simp only [ga, gb, gc, gd] at l1 l2 l3 l4
  have hw := load_in f hx
  have hr := r.l x (List.mem_of_getElem? hx)
  have ha := hH i (by omega) (by have := hin.a1; exact this)
  have hb := hH ((i : Int) + 1) (by omega) (by have := hin.b1; exact this)
  rw [ha, hb] at hw
  have hmost : takenM k t j i ≤ (mostM k (ovOf k j i)).1 := by
    have hmm : (mostM k (ovOf k j i)).1 = mostN k (ovOf k j i) ∨ (mostM k (ovOf k j i)).1 = 0 ∧ mostN k (ovOf k j i) < 1 := by
      unfold mostM
      split
      · rename_i h; exact .inr ⟨rfl, h⟩
      · exact .inl rfl
    have hn := mostN_in k (ovOf k j i)
    by_cases hz : 1 ≤ takenM k t j i
    · have h1 : ∀ p ∈ pairsL (ovOf k j i), takenM k t j i ≤ gt (raisedM k t) p.2 - gt (raisedM k t) p.1 := by
        intro p hp
        rcases (mem p).1 hp with rfl | rfl | rfl | rfl <;> simp only [ga, gb, gc, gd] <;> rw [hT] at hz ⊢ <;> unfold mxI mnI at hz ⊢ <;> (repeat' split at hz) <;> (repeat' split) <;> omega
      have h2 : takenM k t j i ≤ 1048576 := by
        have := h1 _ ((mem _).2 (.inl rfl))
        simp only [ga, gb] at this
        omega
      have := (most_spec r hin hz h2).1 ⟨_, feas_z.2 ⟨f, h1⟩⟩
      omega
    · omega
  rw [e]
  refine ⟨rfl, ?_⟩
  simp only [inS, decide_eq_true_eq]
  refine ⟨?_, hmost⟩
  rw [hT]
  unfold mxI mnI at *
  (repeat' split at l1) <;> (repeat' split at l2) <;> (repeat' split at l3) <;> (repeat' split at l4) <;> (repeat' split) <;> omega
end Go.Shaft
/- True weights: hours, feet, and what is taken together. -/
set_option linter.unusedVariables false
set_option linter.unusedSimpArgs false
namespace Go.Shaft
theorem pfx_step {l : List Int} (h : ∀ n ∈ l, 0 ≤ n ∧ n ≤ 16777216) (i : Nat) : pfx l i ≤ pfx l (i + 1) := by
  cases e : l[i]? with
  | some n =>
    rw [pfx_succ e]
    have := h n (List.mem_of_getElem? e)
    omega
  | none =>
    have : l.length ≤ i := List.getElem?_eq_none_iff.1 e
    unfold pfx
    rw [List.take_of_length_le this, List.take_of_length_le (by omega)]
    omega
theorem pfx_mono {l : List Int} (h : ∀ n ∈ l, 0 ≤ n ∧ n ≤ 16777216) (i : Nat) : ∀ d : Nat, pfx l i ≤ pfx l (i + d)
  | 0 => Int.le_refl _
  | d + 1 => Int.le_trans (pfx_mono h i d) (pfx_step h (i + d))
theorem floor_ediv (n d : Int) (d0 : 0 < d) : floorM n d = n / d := by
  unfold floorM
  split
  · rename_i h
    obtain ⟨p, rfl⟩ : ∃ p, n = -p := ⟨-n, by omega⟩
    rw [Int.neg_neg, Int.tdiv_eq_ediv_of_nonneg (by omega)]
    have h2 := Int.emod_lt_of_pos (p + d - 1) d0
    have h1 := Int.emod_nonneg (p + d - 1) (show d ≠ 0 by omega)
    have h3 := Int.emod_add_mul_ediv (p + d - 1) d
    generalize (p + d - 1) / d = q at *
    generalize (p + d - 1) % d = r at *
    rw [show -p = (d - 1 - r) + d * (-q) by rw [Int.mul_neg]; omega, Int.add_mul_ediv_left _ _ (by omega), Int.ediv_eq_zero_of_lt (by omega) (by omega)]
    omega
  · rw [Int.tdiv_eq_ediv_of_nonneg (by omega)]
theorem floor_mono {a b d : Int} (d0 : 0 < d) (h : a ≤ b) : floorM a d ≤ floorM b d := by
  rw [floor_ediv _ _ d0, floor_ediv _ _ d0]
  exact Int.ediv_le_ediv d0 h
def cutN (n m : Nat) : Nat := if n ≤ m then n else m
theorem cut_all {n m : Nat} (h : m ≤ n) : cutN n m = m := by unfold cutN; split <;> omega
theorem cut_yes {l : List Ld} (hp : l.Pairwise (fun x y => x.hour ≤ y.hour)) {at_ : Int} {n : Nat} {v : Ld} (hv : l[n]? = some v) (h : v.hour ≤ at_) : cutN (n + 1) (byHr l at_) = n + 1 := by
  have := (byHr_sorted hp at_ n v hv).1 h
  unfold cutN
  rw [if_pos (by omega)]
theorem cut_no {l : List Ld} (hp : l.Pairwise (fun x y => x.hour ≤ y.hour)) {at_ : Int} {n : Nat} {v : Ld} (hv : l[n]? = some v) (h : ¬ v.hour ≤ at_) : cutN (n + 1) (byHr l at_) = cutN n (byHr l at_) := by
  have : ¬ n < byHr l at_ := fun h' => h ((byHr_sorted hp at_ n v hv).2 h')
  unfold cutN
  split <;> split <;> omega
theorem cut_zero (m : Nat) : cutN 0 m = 0 := rfl
theorem cut_le (n m : Nat) : cutN n m ≤ n := by unfold cutN; split <;> omega
theorem hgt_zero (k : Kn) (t : Tr) : hgtM k t 0 = 0 := by
  unfold hgtM
  rw [if_pos (by omega)]
  simp
theorem hgt_ld {k : Kn} (t : Tr) {i : Nat} (h : i ≤ k.loads.length) : hgtM k t i = pfx t.loads i := by
  unfold hgtM
  rw [if_pos (by omega)]
  rfl
theorem hgt_dr (k : Kn) (t : Tr) (j : Nat) : hgtM k t ((k.loads.length : Int) + j + 1) = pfx t.draws (j + 1) := by
  have := hgt_drawn k t (j := j + 1)
  rw [← this]
  unfold drawnM
  rw [if_neg (by omega)]
  congr 1
/-- What all draws take of a load: the first so many. -/
def allM (k : Kn) (t : Tr) (i m : Nat) : Int := mxI 0 (mnI (pfx t.loads (i + 1)) (pfx t.draws m) - pfx t.loads i)
/-- What a draw takes of all loads: the first so many. -/
def mineM (k : Kn) (t : Tr) (j m : Nat) : Int := mxI 0 (mnI (pfx t.draws (j + 1)) (pfx t.loads m) - pfx t.draws j)
theorem taken_pfx {k : Kn} {t : Tr} (ht : TrOk k t) {j i : Nat} (hj : j < k.draws.length) (hi : i < k.loads.length) : takenM k t j i = mxI 0 (mnI (pfx t.loads (i + 1)) (pfx t.draws (j + 1)) - mxI (pfx t.loads i) (pfx t.draws j)) := by
  have e1 := hgt_ld t (k := k) (i := i) (by omega)
  have e2 := hgt_ld t (k := k) (i := i + 1) (by omega)
  have e3 := hgt_drawn k t (j := j)
  have e4 := hgt_drawn k t (j := j + 1)
  rw [taken_eq ht hj hi, ← e1, ← e3, ← e2, ← e4]
  push_cast
  rfl
theorem all_zero (k : Kn) {t : Tr} (ht : TrOk k t) (i : Nat) : allM k t i 0 = 0 := by
  have h1 := pfx_bound ht.l i
  have h2 := pfx_bound ht.l (i + 1)
  unfold allM mxI mnI
  rw [pfx_zero]
  split <;> split <;> omega
theorem all_step {k : Kn} {t : Tr} (ht : TrOk k t) {j i : Nat} (hj : j < k.draws.length) (hi : i < k.loads.length) : allM k t i j + takenM k t j i = allM k t i (j + 1) := by
  rw [taken_pfx ht hj hi]
  have h1 := pfx_step ht.l i
  have h2 := pfx_step ht.d j
  have h3 := pfx_bound ht.l i
  have h4 := pfx_bound ht.d j
  unfold allM mxI mnI
  (repeat' split) <;> omega
theorem all_b {k : Kn} {t : Tr} (ht : TrOk k t) {i : Nat} {n : Int} (hn : t.loads[i]? = some n) (m : Nat) : 0 ≤ allM k t i m ∧ allM k t i m ≤ n := by
  have e := pfx_succ hn
  have h := ht.l n (List.mem_of_getElem? hn)
  unfold allM mxI mnI
  (repeat' split) <;> omega
theorem mine_zero (k : Kn) {t : Tr} (ht : TrOk k t) (j : Nat) : mineM k t j 0 = 0 := by
  have h1 := pfx_bound ht.d j
  have h2 := pfx_bound ht.d (j + 1)
  unfold mineM mxI mnI
  rw [pfx_zero]
  split <;> split <;> omega
theorem mine_step {k : Kn} {t : Tr} (ht : TrOk k t) {j i : Nat} (hj : j < k.draws.length) (hi : i < k.loads.length) : mineM k t j i + takenM k t j i = mineM k t j (i + 1) := by
  rw [taken_pfx ht hj hi]
  have h1 := pfx_step ht.l i
  have h2 := pfx_step ht.d j
  have h3 := pfx_bound ht.l i
  have h4 := pfx_bound ht.d j
  unfold mineM mxI mnI
  (repeat' split) <;> omega
theorem mine_b {k : Kn} {t : Tr} (ht : TrOk k t) {j : Nat} {n : Int} (hn : t.draws[j]? = some n) (m : Nat) : 0 ≤ mineM k t j m ∧ mineM k t j m ≤ n := by
  have e := pfx_succ hn
  have h := ht.d n (List.mem_of_getElem? hn)
  unfold mineM mxI mnI
  (repeat' split) <;> omega
/-- A draw is of loads that are charged. -/
theorem mine_all {k : Kn} (r : Right k) {t : Tr} (ht : TrOk k t) (f : Feas (netM k []) (gt (raisedM k t))) {j : Nat} {y : Ld} {n : Int} (hy : k.draws[j]? = some y) (hn : t.draws[j]? = some n) : mineM k t j k.loads.length = n := by
  have hj := (List.getElem?_eq_some_iff.1 hy).1
  have h1 := f _ (tie_mem (more := []) (tie4 hy))
  have hb := byHr_le k.loads y.hour
  have hm : (marksM k : Int) = 1 + k.loads.length + k.draws.length := by simp [marksM]
  have d1 := drawn_in (k := k) (a := (j : Int) + 1) (by omega) (by omega)
  simp only at h1
  rw [hgt_rai r t (by omega) (by omega), hgt_rai r t (by omega) (by omega), hgt_ld t hb] at h1
  have e4 := hgt_drawn k t (j := j + 1)
  rw [show ((j : Int) + 1) = ((j + 1 : Nat) : Int) by push_cast; rfl, e4] at h1
  have hmo := pfx_mono ht.l (byHr k.loads y.hour) (k.loads.length - byHr k.loads y.hour)
  rw [show byHr k.loads y.hour + (k.loads.length - byHr k.loads y.hour) = k.loads.length by omega] at hmo
  have e := pfx_succ hn
  have h := ht.d n (List.mem_of_getElem? hn)
  unfold mineM mxI mnI
  (repeat' split) <;> omega
theorem timed_ok {k : Kn} (hc : check k = 0) {h : Int} (h0 : 0 ≤ h) (h1 : h ≤ 16384) : timedM k h = 0 := by
  unfold timedM
  rw [if_neg (by simp [hc]), if_pos (by simp [inB]; omega)]
/-- What is held, truly. -/
theorem held_in {k : Kn} (hc : check k = 0) {t : Tr} (f : Feas (netM k []) (gt (raisedM k t))) {h : Int} (h0 : 0 ≤ h) (h1 : h ≤ 16384) : (heldM k h).2 = 0 ∧ inS (hgtM k t (byHr k.loads h) - pfx t.draws (byHr k.draws h)) (heldM k h).1 = true := by
  have r := right_of_check hc
  have hb := byHr_le k.loads h
  have hd := byHr_le k.draws h
  have hm : (marksM k : Int) = 1 + k.loads.length + k.draws.length := by simp [marksM]
  have d1 := drawn_in (k := k) (a := (byHr k.draws h : Int)) (by omega) (by omega)
  unfold heldM
  rw [timed_ok hc h0 h1, if_neg (by simp)]
  have := between_in hc f (a := drawnM k (byHr k.draws h)) (b := byHr k.loads h) (by omega) (by omega) (by omega) (by omega)
  rw [hgt_rai r t (by omega) (by omega), hgt_rai r t (by omega) (by omega), hgt_drawn] at this
  exact this
/-- Where a load lies, truly. -/
theorem below_in {k : Kn} (hc : check k = 0) {t : Tr} (f : Feas (netM k []) (gt (raisedM k t))) {h : Int} (h0 : 0 ≤ h) (h1 : h ≤ 16384) {i : Nat} {x : Ld} (hx : k.loads[i]? = some x) :
    (x.hour ≤ h ∧ (belowM k x.id h).2 = 0 ∧ (feetM k x.id h).2 = 0 ∧ inS (hgtM k t i - pfx t.draws (byHr k.draws h)) (belowM k x.id h).1 = true ∧ inS (floorM (hgtM k t i - pfx t.draws (byHr k.draws h)) k.per) (feetM k x.id h).1 = true) ∨
    (h < x.hour ∧ (belowM k x.id h).2 = 1 ∧ (feetM k x.id h).2 = 1) := by
  have r := right_of_check hc
  have hil := (List.getElem?_eq_some_iff.1 hx).1
  have hf := find_id (nodup_l (order_of_check hc)) hx
  have hd := byHr_le k.draws h
  have hm : (marksM k : Int) = 1 + k.loads.length + k.draws.length := by simp [marksM]
  have d1 := drawn_in (k := k) (a := (byHr k.draws h : Int)) (by omega) (by omega)
  have hg : k.loads.getD (find k.loads x.id).toNat default = x := by rw [hf, List.getD, show ((i : Int)).toNat = i by omega, hx]; rfl
  have hb : belowM k x.id h = if x.hour > h then (zSp, 1) else betweenM k (drawnM k (byHr k.draws h)) i := by
    unfold belowM
    rw [timed_ok hc h0 h1, if_neg (by simp), if_neg (by omega), hg, hf]
  by_cases hh : x.hour > h
  · right
    rw [if_pos hh] at hb
    refine ⟨hh, by rw [hb], ?_⟩
    unfold feetM
    rw [hb]
    simp
  · left
    rw [if_neg hh] at hb
    have := between_in hc f (a := drawnM k (byHr k.draws h)) (b := i) (by omega) (by omega) (by omega) (by omega)
    rw [hgt_rai r t (by omega) (by omega), hgt_rai r t (by omega) (by omega), hgt_drawn, ← hb] at this
    refine ⟨by omega, this.1, ?_, this.2, ?_⟩
    · unfold feetM
      rw [if_neg (by rw [this.1]; simp)]
    · unfold feetM
      rw [if_neg (by rw [this.1]; simp)]
      have h2 := this.2
      simp only [inS, decide_eq_true_eq] at h2 ⊢
      have hp := r.per
      exact ⟨floor_mono (by omega) h2.1, floor_mono (by omega) h2.2⟩
theorem hgt_cut_b {k : Kn} {t : Tr} (ht : TrOk k t) (hl : k.loads.length ≤ 20) (hd : k.draws.length ≤ 20) (n m : Nat) : 0 ≤ pfx t.loads (cutN n m) ∧ 0 ≤ pfx t.draws (cutN n m) := ⟨(pfx_bound ht.l _).1, (pfx_bound ht.d _).1⟩
end Go.Shaft
/- Heights, and what a draw takes, as the law reckons them. -/
set_option linter.unusedVariables false
set_option linter.unusedSimpArgs false
set_option maxRecDepth 100000
set_option maxHeartbeats 2000000
namespace Go.Abs
open Go.RowKit Go.Proofs Go.Shaft
attribute [simp] ti22 ti23 ti24 ti26 ti30 ti42 ti45 ti52 ti122 ti125 ti88 ti92 ti46
attribute [simp] ti134 ti131 ti48 ti85 ti143 ti189 ti190 ti192 ti204 ti208 ti218 ti9 ti5 ti27 ti28 ti141 ti30 ti45
@[simp] theorem us4 : E.P.underlying 4 = some TypeDesc.bool := by kernel_rfl

theorem c60 (z : Int) (s : Sp) : Con E 60 [I z, eSp s] (.bool (inS z s)) := by
 intro n H hH
 have h00 := hh3 hH
 have ⟨hHs, hH', hpl⟩ := h00
 refine at_start (fn := Tryz.f60) [.tmp 4] 15 H.length rfl rfl rfl rfl (by kernel_rfl) (by kernel_rfl) (by simp) (Nat.le_refl _) ?_
 refine sq ?_
 refine at_regK [0, 3] rfl ?_
 try simp [h00, o_i, f_a]
 refine sq ?_
 refine at_regK [4] rfl ?_
 try simp [h00, o_i, f_a]
 refine pops_split 9 rfl (fun hg1 => ?_) (fun hg1 => ?_)
 ·
  try simp [h00, o_i, f_a, hg1]
  refine at_ret (by kernel_rfl) ?_
  try simp [h00, o_i, f_a]
  simp [inS]
  simp at hg1
  omega
 ·
  try simp [h00, o_i, f_a, hg1]
  refine at_ret (by kernel_rfl) ?_
  try simp [h00, o_i, f_a]
  simp [inS]
  simp at hg1
  omega

theorem c62 (k : Kn) (hk : Few k) (t : Tr) (ht : TrOk k t) (hn : k.loads.length ≤ 20) (hd : k.draws.length ≤ 20) (m : Int) (m0 : 0 ≤ m) (m1 : m < marksM k) : Con E 62 [eKn k, eTr t, I m] (I (hgtM k t m)) := by
 intro n H hH
 have h00 := hh3 hH
 have ⟨hHs, hH', hpl⟩ := h00
 have hll := ht.ll; have hdl := ht.dl
 have hmm : (marksM k : Int) = 1 + k.loads.length + k.draws.length := by simp [marksM]
 have wm : IntKind.i64.wrap (m - k.loads.length) = m - k.loads.length := wrap_id (by omega) (by omega)
 refine at_start (fn := Tryz.f62) [.tmp 6] 42 H.length rfl rfl rfl rfl (by kernel_rfl) (by kernel_rfl) (by simp) (Nat.le_refl _) ?_
 refine sq ?_
 refine at_regK [2, 3, 4] rfl ?_
 try simp [h00, o_i, f_a, wm]
 refine sq ?_
 refine at_regK [2, 3, 4, 7] rfl ?_
 try simp [h00, o_i, f_a, wm]
 refine sq ?_
 refine sq ?_
 refine at_regK [2, 3, 4, 7, 16] rfl ?_
 try simp [h00, o_i, f_a, wm]
 refine at_cond rfl rfl (fun hb16 => ?_) (fun hb16 => ?_)
 ·
  try simp at hb16
  refine at_draw [2, 7] [0, 1, 0, 0, 1, 0, 0, 0, 0] [] rfl Efol (by kernel_rfl) (by simp) ?_
  try simp [h00, o_i, f_a, wm]
  refine sq ?_
  refine at_regK [2, 7, 8] rfl ?_
  try simp [h00, o_i, f_a, wm]
  refine sq ?_
  refine sq ?_
  refine at_regK [2, 7, 8, 9] rfl ?_
  try simp [h00, o_i, f_a, wm]
  refine at_block rfl ?_
  refine at_count (m - k.loads.length).toNat (fun i s => s = ⟨[(2, I (m - k.loads.length)), (7, eInts t.draws), (8, I (pfx t.draws i)), (9, I i)], [.cell (eKn k), .cell (eTr t)], H⟩) rfl (by simp) ?_
  rintro i s hi rfl
  have pb := pfx_bound ht.d i
  refine sq ?_
  refine sq ?_
  refine at_regK [2, 7, 8, 9, 32] rfl ?_
  try simp [h00, o_i, f_a, wm]
  refine pops_split 27 rfl (fun hg1 => ?_) (fun hg1 => ?_)
  ·
   try simp [h00, o_i, f_a, wm, hg1]
   refine at_cond rfl rfl (fun hb32 => ?_) (fun hb32 => ?_)
   ·
    try simp at hb32
    first
    | (obtain ⟨z, hz⟩ : ∃ z, t.draws[i]? = some z := ⟨_, List.getElem?_eq_getElem (by omega)⟩; have i0 : (i : Int) < t.draws.length := (by omega); have zb := ht.d z (List.mem_of_getElem? hz); have ps := pfx_succ hz; have wz : IntKind.i64.wrap (pfx t.draws i + z) = pfx t.draws (i + 1) := by rw [ps]; exact wrap_id (by omega) (by omega))
    | (obtain ⟨z, hz⟩ : ∃ z, t.loads[i]? = some z := ⟨_, List.getElem?_eq_getElem (by omega)⟩; have i0 : (i : Int) < t.loads.length := (by omega); have zb := ht.l z (List.mem_of_getElem? hz); have ps := pfx_succ hz; have wz : IntKind.i64.wrap (pfx t.loads i + z) = pfx t.loads (i + 1) := by rw [ps]; exact wrap_id (by omega) (by omega))
    refine at_skip (by kernel_rfl) ?_
    try simp [h00, o_i, f_a, wm, hz, i0, wz]
    refine sq ?_
    refine at_block rfl ?_
    refine at_regK [2, 7, 8, 9] rfl ?_
    try simp [h00, o_i, f_a, wm, hz, i0, wz]
    refine at_regK [2, 7, 8, 9] rfl ?_
    try simp [h00, o_i, f_a, wm, hz, i0, wz]
    refine ⟨?_, wrap_id (by omega) (by omega)⟩
    first
    | (simp at hg1; omega)
    | (simp at hg2; omega)
   ·
    try simp at hb32
    refine at_exit rfl ?_
    try simp [h00, o_i, f_a, wm]
    refine sq ?_
    refine at_regK [6] rfl ?_
    try simp [h00, o_i, f_a, wm]
    refine at_ret (by kernel_rfl) ?_
    try simp [h00, o_i, f_a, wm]
    try simp at hg1
    try simp at hg2
    unfold hgtM
    first
    | (exfalso; omega)
    | (rw [if_pos (by omega), show m.toNat = i by omega])
    | (rw [if_neg (by omega), show (m - k.loads.length).toNat = i by omega])
  ·
   try simp [h00, o_i, f_a, wm, hg1]
   refine at_cond rfl rfl (fun hb32 => by simp at hb32) (fun hb32 => ?_)
   refine at_exit rfl ?_
   try simp [h00, o_i, f_a, wm]
   refine sq ?_
   refine at_regK [6] rfl ?_
   try simp [h00, o_i, f_a, wm]
   refine at_ret (by kernel_rfl) ?_
   try simp [h00, o_i, f_a, wm]
   try simp at hg1
   try simp at hg2
   unfold hgtM
   first
   | (exfalso; omega)
   | (rw [if_pos (by omega), show m.toNat = i by omega])
   | (rw [if_neg (by omega), show (m - k.loads.length).toNat = i by omega])
 ·
  try simp at hb16
  refine at_skip (by kernel_rfl) ?_
  try simp [h00, o_i, f_a, wm]
  refine sq ?_
  refine at_regK [2, 7, 8] rfl ?_
  try simp [h00, o_i, f_a, wm]
  refine sq ?_
  refine sq ?_
  refine at_regK [2, 7, 8, 9] rfl ?_
  try simp [h00, o_i, f_a, wm]
  refine at_block rfl ?_
  refine at_count (m).toNat (fun i s => s = ⟨[(2, I (m)), (7, eInts t.loads), (8, I (pfx t.loads i)), (9, I i)], [.cell (eKn k), .cell (eTr t)], H⟩) rfl (by simp) ?_
  rintro i s hi rfl
  have pb := pfx_bound ht.l i
  refine sq ?_
  refine sq ?_
  refine at_regK [2, 7, 8, 9, 32] rfl ?_
  try simp [h00, o_i, f_a, wm]
  refine pops_split 27 rfl (fun hg2 => ?_) (fun hg2 => ?_)
  ·
   try simp [h00, o_i, f_a, wm, hg2]
   refine at_cond rfl rfl (fun hb32 => ?_) (fun hb32 => ?_)
   ·
    try simp at hb32
    first
    | (obtain ⟨z, hz⟩ : ∃ z, t.draws[i]? = some z := ⟨_, List.getElem?_eq_getElem (by omega)⟩; have i0 : (i : Int) < t.draws.length := (by omega); have zb := ht.d z (List.mem_of_getElem? hz); have ps := pfx_succ hz; have wz : IntKind.i64.wrap (pfx t.draws i + z) = pfx t.draws (i + 1) := by rw [ps]; exact wrap_id (by omega) (by omega))
    | (obtain ⟨z, hz⟩ : ∃ z, t.loads[i]? = some z := ⟨_, List.getElem?_eq_getElem (by omega)⟩; have i0 : (i : Int) < t.loads.length := (by omega); have zb := ht.l z (List.mem_of_getElem? hz); have ps := pfx_succ hz; have wz : IntKind.i64.wrap (pfx t.loads i + z) = pfx t.loads (i + 1) := by rw [ps]; exact wrap_id (by omega) (by omega))
    refine at_skip (by kernel_rfl) ?_
    try simp [h00, o_i, f_a, wm, hz, i0, wz]
    refine sq ?_
    refine at_block rfl ?_
    refine at_regK [2, 7, 8, 9] rfl ?_
    try simp [h00, o_i, f_a, wm, hz, i0, wz]
    refine at_regK [2, 7, 8, 9] rfl ?_
    try simp [h00, o_i, f_a, wm, hz, i0, wz]
    refine ⟨?_, wrap_id (by omega) (by omega)⟩
    first
    | (simp at hg1; omega)
    | (simp at hg2; omega)
   ·
    try simp at hb32
    refine at_exit rfl ?_
    try simp [h00, o_i, f_a, wm]
    refine sq ?_
    refine at_regK [6] rfl ?_
    try simp [h00, o_i, f_a, wm]
    refine at_ret (by kernel_rfl) ?_
    try simp [h00, o_i, f_a, wm]
    try simp at hg1
    try simp at hg2
    unfold hgtM
    first
    | (exfalso; omega)
    | (rw [if_pos (by omega), show m.toNat = i by omega])
    | (rw [if_neg (by omega), show (m - k.loads.length).toNat = i by omega])
  ·
   try simp [h00, o_i, f_a, wm, hg2]
   refine at_cond rfl rfl (fun hb32 => by simp at hb32) (fun hb32 => ?_)
   refine at_exit rfl ?_
   try simp [h00, o_i, f_a, wm]
   refine sq ?_
   refine at_regK [6] rfl ?_
   try simp [h00, o_i, f_a, wm]
   refine at_ret (by kernel_rfl) ?_
   try simp [h00, o_i, f_a, wm]
   try simp at hg1
   try simp at hg2
   unfold hgtM
   first
   | (exfalso; omega)
   | (rw [if_pos (by omega), show m.toNat = i by omega])
   | (rw [if_neg (by omega), show (m - k.loads.length).toNat = i by omega])

theorem c61 (k : Kn) (hk : Few k) (t : Tr) (ht : TrOk k t) (hn : k.loads.length ≤ 20) (hd : k.draws.length ≤ 20) (j i : Int) (j0 : 0 ≤ j) (j1 : j < k.draws.length) (i0 : 0 ≤ i) (i1 : i < k.loads.length) : Con E 61 [eKn k, eTr t, I j, I i] (I (takenM k t j i)) := by
 intro n H hH
 have h00 := hh3 hH
 have ⟨hHs, hH', hpl⟩ := h00
 have hmm : (marksM k : Int) = 1 + k.loads.length + k.draws.length := by simp [marksM]
 have w1 : IntKind.i64.wrap ((k.loads.length : Int) + j) = k.loads.length + j := wrap_id (by omega) (by omega)
 have w2 : IntKind.i64.wrap ((k.loads.length : Int) + j + 1) = k.loads.length + j + 1 := wrap_id (by omega) (by omega)
 have w3 : IntKind.i64.wrap (i + 1) = i + 1 := wrap_id (by omega) (by omega)
 have h1 := hgt_b ht (m := i) (by omega)
 have h2 := hgt_b ht (m := i + 1) (by omega)
 have h3 := hgt_b ht (m := (k.loads.length : Int) + j) (by omega)
 have h4 := hgt_b ht (m := (k.loads.length : Int) + j + 1) (by omega)
 refine at_start (fn := Tryz.f61) [.tmp 8] 43 H.length rfl rfl rfl rfl (by kernel_rfl) (by kernel_rfl) (by simp) (Nat.le_refl _) ?_
 refine sq ?_
 refine at_regK [2, 3, 4, 5] rfl ?_
 try simp [h00, o_i, f_a, w1, w2, w3]
 refine sq ?_
 refine at_regK [2, 3, 4, 5, 9] rfl ?_
 try simp [h00, o_i, f_a, w1, w2, w3]
 refine sq ?_
 refine sq ?_
 refine at_regK [2, 3, 4, 5, 9, 11] rfl ?_
 try simp [h00, o_i, f_a, w1, w2, w3]
 refine at_cond rfl rfl (fun hb11 => ?_) (fun hb11 => ?_)
 ·
  try simp at hb11
  refine at_regK [2, 3, 4, 5, 9] rfl ?_
  try simp [h00, o_i, f_a, w1, w2, w3]
  refine (c62 k hk t ht hn hd ((k.loads.length : Int) + j) (by omega) (by omega)).use hH ?_
  try simp [h00, o_i, f_a, w1, w2, w3]
  refine sq ?_
  refine at_draw [8] [1, 1, 0, 0, 1, 1, 1, 0, 1, 0, 0, 0, 0, 1, 0, 1, 1, 0, 1, 0, 0, 0, 0, 0] [] rfl Efol (by kernel_rfl) (by simp) ?_
  try simp [h00, o_i, f_a, w1, w2, w3]
  refine (c62 k hk t ht hn hd (i + 1) (by omega) (by omega)).draw hH ?_
  try simp [h00, o_i, f_a, w1, w2, w3]
  refine (c62 k hk t ht hn hd ((k.loads.length : Int) + j + 1) (by omega) (by omega)).draw hH ?_
  try simp [h00, o_i, f_a, w1, w2, w3]
  refine (c62 k hk t ht hn hd (i) (by omega) (by omega)).draw hH ?_
  try simp [h00, o_i, f_a, w1, w2, w3]
  refine at_ret (by kernel_rfl) ?_
  try simp [h00, o_i, f_a, w1, w2, w3]
  rw [wrap_id (by split <;> split <;> omega) (by split <;> split <;> omega), takenM, if_pos hb11]
  rfl
 ·
  try simp at hb11
  refine at_skip (by kernel_rfl) ?_
  try simp [h00, o_i, f_a, w1, w2, w3]
  refine sq ?_
  refine at_draw [8] [1, 1, 0, 0, 1, 1, 1, 0, 1, 0, 0, 0, 0, 1, 0, 1, 1, 0, 1, 0, 0, 0, 0, 0] [] rfl Efol (by kernel_rfl) (by simp) ?_
  try simp [h00, o_i, f_a, w1, w2, w3]
  refine (c62 k hk t ht hn hd (i + 1) (by omega) (by omega)).draw hH ?_
  try simp [h00, o_i, f_a, w1, w2, w3]
  refine (c62 k hk t ht hn hd ((k.loads.length : Int) + j + 1) (by omega) (by omega)).draw hH ?_
  try simp [h00, o_i, f_a, w1, w2, w3]
  refine (c62 k hk t ht hn hd (i) (by omega) (by omega)).draw hH ?_
  try simp [h00, o_i, f_a, w1, w2, w3]
  refine at_ret (by kernel_rfl) ?_
  try simp [h00, o_i, f_a, w1, w2, w3]
  rw [wrap_id (by split <;> split <;> omega) (by split <;> split <;> omega), takenM, show (if 0 < j then hgtM k t ((k.loads.length : Int) + j) else 0) = 0 from if_neg (by omega)]
  rfl

theorem c63 (z d : Int) (d0 : 1 ≤ d) (d1 : d ≤ 65536) (z0 : -1125899906842624 ≤ z) (z1 : z ≤ 1125899906842624) : Con E 63 [I z, I d] (I (floorM z d)) := by
 intro n H hH
 have h00 := hh3 hH
 have ⟨hHs, hH', hpl⟩ := h00
 have dn : ¬ d = 0 := by omega
 have dq : (d == 0) = false := by simp; omega
 refine at_start (fn := Tryz.f63) [.tmp 4] 16 H.length rfl rfl rfl rfl (by kernel_rfl) (by kernel_rfl) (by simp) (Nat.le_refl _) ?_
 refine sq ?_
 refine at_regK [0, 1] rfl ?_
 try simp [h00, o_i, f_a, dn, dq]
 refine sq ?_
 refine at_regK [0, 1, 5] rfl ?_
 try simp [h00, o_i, f_a, dn, dq]
 refine sq ?_
 refine sq ?_
 refine at_regK [5, 12] rfl ?_
 try simp [h00, o_i, f_a, dn, dq]
 refine at_cond rfl rfl (fun hb12 => ?_) (fun hb12 => ?_)
 ·
  try simp at hb12
  refine at_regK [5] rfl ?_
  try simp [h00, o_i, f_a, dn, dq]
  refine sq ?_
  refine at_regK [4] rfl ?_
  try simp [h00, o_i, f_a, dn, dq]
  refine at_ret (by kernel_rfl) ?_
  try simp [h00, o_i, f_a, dn, dq]
  have tb := tdiv_b d0 z0 z1
  rw [wrap_id (n := z.tdiv d) (by omega) (by omega), wrap_id (by omega) (by omega), ← floor_eq z d (by omega), if_pos hb12]
 ·
  try simp at hb12
  refine at_skip (by kernel_rfl) ?_
  try simp [h00, o_i, f_a, dn, dq]
  refine sq ?_
  refine at_regK [4] rfl ?_
  try simp [h00, o_i, f_a, dn, dq]
  refine at_ret (by kernel_rfl) ?_
  try simp [h00, o_i, f_a, dn, dq]
  have tb := tdiv_b d0 z0 z1
  rw [wrap_id (by omega) (by omega), ← floor_eq z d (by omega), if_neg (by omega)]
end Go.Abs
/- Law: what is told holds of true weights. -/
set_option linter.unusedVariables false
set_option linter.unusedSimpArgs false
set_option maxRecDepth 100000
set_option maxHeartbeats 2000000
namespace Go.Abs
open Go.RowKit Go.Proofs Go.Shaft
attribute [simp] ti22 ti23 ti24 ti26 ti30 ti42 ti45 ti52 ti122 ti125 ti88 ti92 ti46
attribute [simp] ti134 ti131 ti48 ti85 ti143 ti189 ti190 ti192 ti204 ti208 ti218 ti9 ti5 ti27 ti28 ti141 ti30 ti45
theorem fits_ok {k : Kn} {t : Tr} (h : (fitsM k t).2.1 = true) : check k = 0 ∧ (fitsM k t).2.2 = 0 := by
 unfold fitsM at h ⊢
 by_cases hc : check k = 0
 ·rw [if_neg (by simp [hc])] at h ⊢
  refine ⟨hc, ?_⟩
  split at h
  ·cases h
  ·rename_i h1
   rw [if_neg h1]
   split <;> rfl
 ·rw [if_pos hc] at h
  cases h
theorem nat_in {a n : Int} (a0 : 0 ≤ a) (n0 : 0 < n) : ∃ u : Nat, a.tmod n = u ∧ (u : Int) < n := by
 obtain ⟨u, h1, h2, h3⟩ := tmod_in a0 n0
 exact ⟨u.toNat, by omega, by omega⟩

theorem c12 (k : Kn) (t : Tr) (a b hour : Int) (a0 : 0 ≤ a) (a1 : a ≤ 255) (b0 : 0 ≤ b) (b1 : b ≤ 255) (h0 : 0 ≤ hour) (h1 : hour ≤ 65535) : Con E 12 [eKn k, eTr t, .int .u8 a, .int .u8 b, .int .u16 hour] (.bool true) := by
 intro n H hH
 have h00 := hh3 hH
 have ⟨hHs, hH', hpl⟩ := h00
 have wa : IntKind.i64.wrap a = a := wrap_id (by omega) (by omega)
 have wb : IntKind.i64.wrap b = b := wrap_id (by omega) (by omega)
 have wh : IntKind.i64.wrap hour = hour := wrap_id (by omega) (by omega)
 refine at_start (fn := Tryz.f12) [.tmp 10] 347 H.length rfl rfl rfl rfl (by kernel_rfl) (by kernel_rfl) (by simp) (Nat.le_refl _) ?_
 refine sq ?_
 refine at_regK [2, 3, 4, 5, 6] rfl ?_
 try simp [h00, o_i, f_a, wa, wb, wh]
 refine sq ?_
 refine sq ?_
 refine at_regK [2, 3, 4, 5, 6, 66] rfl ?_
 try simp [h00, o_i, f_a, wa, wb, wh]
 refine (c16 _).use hH ?_
 try simp [h00, o_i, f_a, wa, wb, wh]
 refine pops_split 43 rfl (fun hg1 => ?_) (fun hg1 => ?_)
 ·
  try simp [h00, o_i, f_a, wa, wb, wh, hg1]
  refine at_cond rfl rfl (fun hb66 => ?_) (fun hb66 => by simp at hb66)
  refine sq ?_
  refine at_regK [10] rfl ?_
  try simp [h00, o_i, f_a, wa, wb, wh]
  refine c17.use hH ?_
  try simp [h00, o_i, f_a, wa, wb, wh]
  refine at_ret (by kernel_rfl) ?_
  try simp [h00, o_i, f_a, wa, wb, wh]
 ·
  have hfw : fewB k = true := by simpa using hg1
  have hk := fewB_few hfw
  try simp [h00, o_i, f_a, wa, wb, wh, hg1]
  refine pops_split 49 rfl (fun hg2 => ?_) (fun hg2 => ?_)
  ·
   try simp [h00, o_i, f_a, wa, wb, wh, hg2]
   refine at_cond rfl rfl (fun hb66 => ?_) (fun hb66 => by simp at hb66)
   refine sq ?_
   refine at_regK [10] rfl ?_
   try simp [h00, o_i, f_a, wa, wb, wh]
   refine c17.use hH ?_
   try simp [h00, o_i, f_a, wa, wb, wh]
   refine at_ret (by kernel_rfl) ?_
   try simp [h00, o_i, f_a, wa, wb, wh]
  ·
   try simp [h00, o_i, f_a, wa, wb, wh, hg2]
   refine pops_split 55 rfl (fun hg3 => ?_) (fun hg3 => ?_)
   ·
    try simp [h00, o_i, f_a, wa, wb, wh, hg3]
    refine at_cond rfl rfl (fun hb66 => ?_) (fun hb66 => by simp at hb66)
    refine sq ?_
    refine at_regK [10] rfl ?_
    try simp [h00, o_i, f_a, wa, wb, wh]
    refine c17.use hH ?_
    try simp [h00, o_i, f_a, wa, wb, wh]
    refine at_ret (by kernel_rfl) ?_
    try simp [h00, o_i, f_a, wa, wb, wh]
   ·
    try simp [h00, o_i, f_a, wa, wb, wh, hg3]
    refine pops_split 61 rfl (fun hg4 => ?_) (fun hg4 => ?_)
    ·
     try simp [h00, o_i, f_a, wa, wb, wh, hg4]
     refine at_cond rfl rfl (fun hb66 => ?_) (fun hb66 => by simp at hb66)
     refine sq ?_
     refine at_regK [10] rfl ?_
     try simp [h00, o_i, f_a, wa, wb, wh]
     refine c17.use hH ?_
     try simp [h00, o_i, f_a, wa, wb, wh]
     refine at_ret (by kernel_rfl) ?_
     try simp [h00, o_i, f_a, wa, wb, wh]
    ·
     try simp [h00, o_i, f_a, wa, wb, wh, hg4]
     refine at_cond rfl rfl (fun hb66 => ?_) (fun hb66 => ?_)
     ·
      try simp at hb66
      refine sq ?_
      refine at_regK [10] rfl ?_
      try simp [h00, o_i, f_a, wa, wb, wh]
      refine c17.use hH ?_
      try simp [h00, o_i, f_a, wa, wb, wh]
      refine at_ret (by kernel_rfl) ?_
      try simp [h00, o_i, f_a, wa, wb, wh]
     ·
      try simp at hb66
      have l5 : t.loads.length ≤ 60 := by simp at hg2; omega
      have l6 : t.draws.length ≤ 60 := by simp at hg3; omega
      have nl0 : 0 < k.loads.length := List.length_pos_iff.2 (by intro e; simp [e] at hg4)
      have nd0 : 0 < k.draws.length := List.length_pos_iff.2 (by intro e; simp [e] at hb66)
      refine at_skip (by kernel_rfl) ?_
      try simp [h00, o_i, f_a, wa, wb, wh]
      refine sq ?_
      refine at_regK [2, 3, 4, 5, 6, 12, 13] rfl ?_
      try simp [h00, o_i, f_a, wa, wb, wh]
      refine (c58 k hk t (by omega) (by omega)).use hH ?_
      try simp [h00, o_i, f_a, wa, wb, wh]
      refine sq ?_
      refine sq ?_
      refine at_regK [2, 3, 4, 5, 6, 80] rfl ?_
      try simp [h00, o_i, f_a, wa, wb, wh]
      refine pops_split 77 rfl (fun hg5 => ?_) (fun hg5 => ?_)
      ·
       try simp [h00, o_i, f_a, wa, wb, wh, hg5]
       refine at_cond rfl rfl (fun hb80 => ?_) (fun hb80 => by simp at hb80)
       refine sq ?_
       refine at_regK [10] rfl ?_
       try simp [h00, o_i, f_a, wa, wb, wh]
       refine c17.use hH ?_
       try simp [h00, o_i, f_a, wa, wb, wh]
       refine at_ret (by kernel_rfl) ?_
       try simp [h00, o_i, f_a, wa, wb, wh]
      ·
       try simp [h00, o_i, f_a, wa, wb, wh, hg5]
       refine at_cond rfl rfl (fun hb80 => ?_) (fun hb80 => ?_)
       ·
        try simp at hb80
        refine sq ?_
        refine at_regK [10] rfl ?_
        try simp [h00, o_i, f_a, wa, wb, wh]
        refine c17.use hH ?_
        try simp [h00, o_i, f_a, wa, wb, wh]
        refine at_ret (by kernel_rfl) ?_
        try simp [h00, o_i, f_a, wa, wb, wh]
       ·
        try simp at hb80
        have hfit : (fitsM k t).2.1 = true := by simpa using hb80
        obtain ⟨hck, _⟩ := fits_ok hfit
        obtain ⟨ht, hfe⟩ := (fits_iff hck).1 hfit
        have r := right_of_check hck
        have nl := r.nl; have nd := r.nd
        have rp := r.per
        obtain ⟨i, hi, il⟩ := nat_in a0 (show (0 : Int) < k.loads.length by omega)
        obtain ⟨j, hj, jl⟩ := nat_in b0 (show (0 : Int) < k.draws.length by omega)
        obtain ⟨h, hh, hl0, hl1⟩ := tmod_in h0 (show (0 : Int) < 16385 by omega)
        obtain ⟨x, hx⟩ : ∃ x, k.loads[i]? = some x := ⟨_, List.getElem?_eq_getElem (by omega)⟩
        obtain ⟨y, hy⟩ : ∃ x, k.draws[j]? = some x := ⟨_, List.getElem?_eq_getElem (by omega)⟩
        have tl := ht.ll; have td := ht.dl
        obtain ⟨p, hp⟩ : ∃ x, t.loads[i]? = some x := ⟨_, List.getElem?_eq_getElem (by omega)⟩
        obtain ⟨q, hq⟩ : ∃ x, t.draws[j]? = some x := ⟨_, List.getElem?_eq_getElem (by omega)⟩
        have il' : (i : Int) < t.loads.length := by omega
        have jl' : (j : Int) < t.draws.length := by omega
        have nl1 : ¬ (k.loads.length : Int) = 0 := by omega
        have nd1 : ¬ (k.draws.length : Int) = 0 := by omega
        have nl2 : ¬ k.loads = [] := by intro e; simp [e] at nl0
        have nd2 : ¬ k.draws = [] := by intro e; simp [e] at nd0
        have hmm : (marksM k : Int) = 1 + k.loads.length + k.draws.length := by simp [marksM]
        obtain ⟨f1, f2⟩ := between_in hck hfe (a := (i : Int)) (b := (i : Int) + 1) (by omega) (by omega) (by omega) (by omega)
        rw [← Go.Shaft.run_load hck hx] at f1 f2
        rw [hgt_rai r t (by omega) (by omega), hgt_rai r t (by omega) (by omega), hgt_load (by omega) hp] at f2
        have d1 := drawn_in (k := k) (a := (j : Int)) (by omega) (by omega)
        have d2 := drawn_in (k := k) (a := (j : Int) + 1) (by omega) (by omega)
        obtain ⟨f3, f4⟩ := between_in hck hfe (a := drawnM k (j : Int)) (b := drawnM k ((j : Int) + 1)) (by omega) (by omega) (by omega) (by omega)
        rw [← Go.Shaft.run_draw hck hy] at f3 f4
        rw [hgt_rai r t (by omega) (by omega), hgt_rai r t (by omega) (by omega), hgt_draw hq] at f4
        obtain ⟨f5, f6⟩ := held_in hck hfe (h := h) (by omega) (by omega)
        obtain ⟨f7, f8⟩ := took_in hck ht hfe hx hy
        have hbl := below_in hck hfe (h := h) (by omega) (by omega) hx
        obtain ⟨m, hm⟩ : ∃ m, m = (belowM k x.id h).2 := ⟨_, rfl⟩
        have hfm : (feetM k x.id h).2 = m := by rcases hbl with ⟨_, e1, e2, _⟩ | ⟨_, e1, e2⟩ <;> omega
        have hyes : m = 0 → inS (hgtM k t i - pfx t.draws (byHr k.draws h)) (belowM k x.id h).1 = true ∧ inS (floorM (hgtM k t i - pfx t.draws (byHr k.draws h)) k.per) (feetM k x.id h).1 = true := by
         intro e
         rcases hbl with ⟨_, _, _, g1, g2⟩ | ⟨_, g, _⟩
         ·exact ⟨g1, g2⟩
         ·omega
        have hno : ¬ m = 0 → ¬ x.hour ≤ h := by
         intro e
         rcases hbl with ⟨_, g, _⟩ | ⟨g, _⟩
         ·omega
         ·omega
        have bp := ht.l p (List.mem_of_getElem? hp)
        have bq := ht.d q (List.mem_of_getElem? hq)
        have all0 := all_zero k ht i
        have mine0 := mine_zero k ht j
        have minea := mine_all r ht hfe hy hq
        have b1 := hgt_b ht (m := (i : Int)) (by omega)
        have b2 := hgt_b ht (m := (byHr k.loads h : Int)) (by have := byHr_le k.loads h; omega)
        have b3 := pfx_bound ht.d (byHr k.draws h)
        have b4 := byHr_le k.draws h
        have b5 := byHr_le k.loads h
        have w1 : IntKind.i64.wrap (hgtM k t i - pfx t.draws (byHr k.draws h)) = hgtM k t i - pfx t.draws (byHr k.draws h) := wrap_id (by omega) (by omega)
        have w2 : IntKind.i64.wrap (hgtM k t (byHr k.loads h) - pfx t.draws (byHr k.draws h)) = hgtM k t (byHr k.loads h) - pfx t.draws (byHr k.draws h) := wrap_id (by omega) (by omega)
        refine at_skip (by kernel_rfl) ?_
        try simp [h00, o_i, f_a, wa, wb, wh, hi, hj, hh, hx, hy, hp, hq, il, jl, il', jl', nl1, nd1, nl2, nd2, f1, f2, f3, f4, f5, f6, f7, f8, ← hm, hfm, w1, w2]
        refine sq ?_
        refine at_draw [5, 6, 14, 15, 16] [0, 0, 0, 1, 0, 0, 0, 0, 0, 1, 0, 0, 0, 0, 0, 0, 0, 0] [] rfl Efol (by kernel_rfl) (by simp) ?_
        try simp [h00, o_i, f_a, wa, wb, wh, hi, hj, hh, hx, hy, hp, hq, il, jl, il', jl', nl1, nd1, nl2, nd2, f1, f2, f3, f4, f5, f6, f7, f8, ← hm, hfm, w1, w2]
        refine sq ?_
        refine at_draw [5, 6, 14, 15, 16, 17, 18] [1, 0, 1, 0, 0, 0, 1, 1, 0, 0, 0, 2, 3, 0] [] rfl Efol (by kernel_rfl) (by simp) ?_
        try simp [h00, o_i, f_a, wa, wb, wh, hi, hj, hh, hx, hy, hp, hq, il, jl, il', jl', nl1, nd1, nl2, nd2, f1, f2, f3, f4, f5, f6, f7, f8, ← hm, hfm, w1, w2]
        refine (c18 k hk x.id).draw hH ?_
        try simp [h00, o_i, f_a, wa, wb, wh, hi, hj, hh, hx, hy, hp, hq, il, jl, il', jl', nl1, nd1, nl2, nd2, f1, f2, f3, f4, f5, f6, f7, f8, ← hm, hfm, w1, w2]
        refine sq ?_
        refine at_draw [5, 6, 14, 15, 16, 17, 18, 19, 20] [1, 0, 1, 0, 0, 0, 1, 1, 0, 0, 0, 2, 3, 0] [] rfl Efol (by kernel_rfl) (by simp) ?_
        try simp [h00, o_i, f_a, wa, wb, wh, hi, hj, hh, hx, hy, hp, hq, il, jl, il', jl', nl1, nd1, nl2, nd2, f1, f2, f3, f4, f5, f6, f7, f8, ← hm, hfm, w1, w2]
        refine (c18 k hk y.id).draw hH ?_
        try simp [h00, o_i, f_a, wa, wb, wh, hi, hj, hh, hx, hy, hp, hq, il, jl, il', jl', nl1, nd1, nl2, nd2, f1, f2, f3, f4, f5, f6, f7, f8, ← hm, hfm, w1, w2]
        refine sq ?_
        refine at_regK [5, 6, 14, 15, 16, 17, 18, 19, 20, 21, 22] rfl ?_
        try simp [h00, o_i, f_a, wa, wb, wh, hi, hj, hh, hx, hy, hp, hq, il, jl, il', jl', nl1, nd1, nl2, nd2, f1, f2, f3, f4, f5, f6, f7, f8, ← hm, hfm, w1, w2]
        refine (c22 k hk h).use hH ?_
        try simp [h00, o_i, f_a, wa, wb, wh, hi, hj, hh, hx, hy, hp, hq, il, jl, il', jl', nl1, nd1, nl2, nd2, f1, f2, f3, f4, f5, f6, f7, f8, ← hm, hfm, w1, w2]
        refine sq ?_
        refine at_draw [5, 6, 14, 15, 16, 17, 18, 19, 20, 21, 22, 23, 24] [1, 0, 1, 0, 0, 0, 1, 0, 1, 0, 0, 0, 1, 1, 0, 0, 0, 2, 3, 0] [] rfl Efol (by kernel_rfl) (by simp) ?_
        try simp [h00, o_i, f_a, wa, wb, wh, hi, hj, hh, hx, hy, hp, hq, il, jl, il', jl', nl1, nd1, nl2, nd2, f1, f2, f3, f4, f5, f6, f7, f8, ← hm, hfm, w1, w2]
        refine (c31 k hk y.id x.id).draw hH ?_
        try simp [h00, o_i, f_a, wa, wb, wh, hi, hj, hh, hx, hy, hp, hq, il, jl, il', jl', nl1, nd1, nl2, nd2, f1, f2, f3, f4, f5, f6, f7, f8, ← hm, hfm, w1, w2]
        refine sq ?_
        refine sq ?_
        refine at_draw [5, 6, 14, 15, 16, 21, 185] [0, 0, 0, 0, 0, 0, 0, 0, 0, 0, 0, 0, 0, 0, 0, 0, 1, 0, 0, 1, 1, 1, 0, 0, 0, 0, 1, 0, 0, 1, 1, 1, 0, 0, 0, 1, 1, 0, 0, 1, 1, 1, 0, 0] [] rfl Efol (by kernel_rfl) (by simp) ?_
        try simp [h00, o_i, f_a, wa, wb, wh, hi, hj, hh, hx, hy, hp, hq, il, jl, il', jl', nl1, nd1, nl2, nd2, f1, f2, f3, f4, f5, f6, f7, f8, ← hm, hfm, w1, w2]
        refine (c60 p _).draw hH ?_
        try simp [h00, o_i, f_a, wa, wb, wh, hi, hj, hh, hx, hy, hp, hq, il, jl, il', jl', nl1, nd1, nl2, nd2, f1, f2, f3, f4, f5, f6, f7, f8, ← hm, hfm, w1, w2]
        refine (c60 q _).draw hH ?_
        try simp [h00, o_i, f_a, wa, wb, wh, hi, hj, hh, hx, hy, hp, hq, il, jl, il', jl', nl1, nd1, nl2, nd2, f1, f2, f3, f4, f5, f6, f7, f8, ← hm, hfm, w1, w2]
        refine (c61 k hk t ht nl nd j i (by omega) (by omega) (by omega) (by omega)).draw hH ?_
        try simp [h00, o_i, f_a, wa, wb, wh, hi, hj, hh, hx, hy, hp, hq, il, jl, il', jl', nl1, nd1, nl2, nd2, f1, f2, f3, f4, f5, f6, f7, f8, ← hm, hfm, w1, w2]
        refine (c60 _ _).draw hH ?_
        try simp [h00, o_i, f_a, wa, wb, wh, hi, hj, hh, hx, hy, hp, hq, il, jl, il', jl', nl1, nd1, nl2, nd2, f1, f2, f3, f4, f5, f6, f7, f8, ← hm, hfm, w1, w2]
        refine at_cond rfl rfl (fun hb185 => by simp at hb185) (fun hb185 => ?_)
        refine at_skip (by kernel_rfl) ?_
        try simp [h00, o_i, f_a, wa, wb, wh, hi, hj, hh, hx, hy, hp, hq, il, jl, il', jl', nl1, nd1, nl2, nd2, f1, f2, f3, f4, f5, f6, f7, f8, ← hm, hfm, w1, w2]
        refine sq ?_
        refine at_regK [5, 6, 14, 15, 16, 21, 25, 26] rfl ?_
        try simp [h00, o_i, f_a, wa, wb, wh, hi, hj, hh, hx, hy, hp, hq, il, jl, il', jl', nl1, nd1, nl2, nd2, f1, f2, f3, f4, f5, f6, f7, f8, ← hm, hfm, w1, w2]
        refine sq ?_
        refine sq ?_
        refine at_regK [5, 6, 14, 15, 16, 21, 25, 26, 187, 188, 189] rfl ?_
        try simp [h00, o_i, f_a, wa, wb, wh, hi, hj, hh, hx, hy, hp, hq, il, jl, il', jl', nl1, nd1, nl2, nd2, f1, f2, f3, f4, f5, f6, f7, f8, ← hm, hfm, w1, w2]
        refine at_block rfl ?_
        refine at_count k.loads.length (fun n s => s = ⟨[(5, .ref false 0 0 [] 0), (6, .ref false 1 0 [] 0), (14, I i), (15, I j), (16, I h), (21, .ref false 4 0 [] 0), (25, I (hgtM k t (cutN n (byHr k.loads h) : Nat))), (26, I (0)), (187, eLds k.loads), (188, I k.loads.length), (189, I n)], [.cell (eKn k), .cell (eTr t), .cell (eSp (runM k x.id x.id).1), .cell (eSp (runM k y.id y.id).1), .cell (eSp (heldM k h).1), .cell (eSp (tookM k y.id x.id).1)], H⟩) rfl (by simp [cut_zero, hgt_zero]) ?_
        rintro n s hn rfl
        have hcl := cut_le n (byHr k.loads h)
        refine sq ?_
        refine at_regK [5, 6, 14, 15, 16, 21, 25, 26, 187, 188, 189, 190] rfl ?_
        try simp [h00, o_i, f_a, wa, wb, wh, hi, hj, hh, hx, hy, hp, hq, il, jl, il', jl', nl1, nd1, nl2, nd2, f1, f2, f3, f4, f5, f6, f7, f8, ← hm, hfm, w1, w2]
        refine sq ?_
        refine at_cond rfl rfl (fun hb190 => ?_) (fun hb190 => ?_)
        ·
         try simp at hb190
         obtain ⟨v, hv⟩ : ∃ v, k.loads[n]? = some v := ⟨_, List.getElem?_eq_getElem (by omega)⟩
         have n0 : (n : Int) < k.loads.length := by omega
         have wn : IntKind.i64.wrap ((n : Int) + 1) = (n : Int) + 1 := wrap_id (by omega) (by omega)
         refine at_skip (by kernel_rfl) ?_
         try simp [h00, o_i, f_a, wa, wb, wh, hi, hj, hh, hx, hy, hp, hq, il, jl, il', jl', nl1, nd1, nl2, nd2, f1, f2, f3, f4, f5, f6, f7, f8, ← hm, hfm, w1, w2, hv, n0, wn]
         refine sq ?_
         refine at_block rfl ?_
         refine sq ?_
         refine at_regK [5, 6, 14, 15, 16, 21, 25, 26, 27, 28, 187, 188, 189] rfl ?_
         try simp [h00, o_i, f_a, wa, wb, wh, hi, hj, hh, hx, hy, hp, hq, il, jl, il', jl', nl1, nd1, nl2, nd2, f1, f2, f3, f4, f5, f6, f7, f8, ← hm, hfm, w1, w2, hv, n0, wn]
         refine sq ?_
         refine at_regK [5, 6, 14, 15, 16, 21, 25, 26, 27, 187, 188, 189, 197] rfl ?_
         try simp [h00, o_i, f_a, wa, wb, wh, hi, hj, hh, hx, hy, hp, hq, il, jl, il', jl', nl1, nd1, nl2, nd2, f1, f2, f3, f4, f5, f6, f7, f8, ← hm, hfm, w1, w2, hv, n0, wn]
         refine at_cond rfl rfl (fun hb197 => ?_) (fun hb197 => ?_)
         ·
          try simp at hb197
          have hcy := cut_yes (order_of_check hck).l hv hb197
          refine at_regK [5, 6, 14, 15, 16, 21, 25, 26, 187, 188, 189] rfl ?_
          try simp [h00, o_i, f_a, wa, wb, wh, hi, hj, hh, hx, hy, hp, hq, il, jl, il', jl', nl1, nd1, nl2, nd2, f1, f2, f3, f4, f5, f6, f7, f8, ← hm, hfm, w1, w2, hv, n0, wn]
          refine (c62 k hk t ht nl nd ((n : Int) + 1) (by omega) (by omega)).use hH ?_
          try simp [h00, o_i, f_a, wa, wb, wh, hi, hj, hh, hx, hy, hp, hq, il, jl, il', jl', nl1, nd1, nl2, nd2, f1, f2, f3, f4, f5, f6, f7, f8, ← hm, hfm, w1, w2, hv, n0, wn]
          refine at_regC 6 [5, 6, 14, 15, 16, 21, 25, 26, 187, 188, 189] rfl ?_
          try simp [h00, o_i, f_a, wa, wb, wh, hi, hj, hh, hx, hy, hp, hq, il, jl, il', jl', nl1, nd1, nl2, nd2, f1, f2, f3, f4, f5, f6, f7, f8, ← hm, hfm, w1, w2, hv, n0, wn]
          refine ⟨by omega, ?_⟩
          first
          | (rw [hcy]; push_cast; rfl)
          | rw [hcn]
         ·
          try simp at hb197
          have hcn := cut_no (at_ := h) (order_of_check hck).l hv (by omega)
          refine at_skip (by kernel_rfl) ?_
          try simp [h00, o_i, f_a, wa, wb, wh, hi, hj, hh, hx, hy, hp, hq, il, jl, il', jl', nl1, nd1, nl2, nd2, f1, f2, f3, f4, f5, f6, f7, f8, ← hm, hfm, w1, w2, hv, n0, wn]
          refine at_regC 6 [5, 6, 14, 15, 16, 21, 25, 26, 187, 188, 189] rfl ?_
          try simp [h00, o_i, f_a, wa, wb, wh, hi, hj, hh, hx, hy, hp, hq, il, jl, il', jl', nl1, nd1, nl2, nd2, f1, f2, f3, f4, f5, f6, f7, f8, ← hm, hfm, w1, w2, hv, n0, wn]
          refine ⟨by omega, ?_⟩
          first
          | (rw [hcy]; push_cast; rfl)
          | rw [hcn]
        ·
         try simp at hb190
         have hca : cutN n (byHr k.loads h) = byHr k.loads h := cut_all (by omega)
         rw [hca]
         refine at_exit rfl ?_
         try simp [h00, o_i, f_a, wa, wb, wh, hi, hj, hh, hx, hy, hp, hq, il, jl, il', jl', nl1, nd1, nl2, nd2, f1, f2, f3, f4, f5, f6, f7, f8, ← hm, hfm, w1, w2]
         refine sq ?_
         refine sq ?_
         refine at_regK [5, 6, 14, 15, 16, 21, 25, 26, 205, 206, 207] rfl ?_
         try simp [h00, o_i, f_a, wa, wb, wh, hi, hj, hh, hx, hy, hp, hq, il, jl, il', jl', nl1, nd1, nl2, nd2, f1, f2, f3, f4, f5, f6, f7, f8, ← hm, hfm, w1, w2]
         refine at_block rfl ?_
         refine at_count k.draws.length (fun n s => s = ⟨[(5, .ref false 0 0 [] 0), (6, .ref false 1 0 [] 0), (14, I i), (15, I j), (16, I h), (21, .ref false 4 0 [] 0), (25, I (hgtM k t (byHr k.loads h))), (26, I (pfx t.draws (cutN n (byHr k.draws h)))), (205, eLds k.draws), (206, I k.draws.length), (207, I n)], [.cell (eKn k), .cell (eTr t), .cell (eSp (runM k x.id x.id).1), .cell (eSp (runM k y.id y.id).1), .cell (eSp (heldM k h).1), .cell (eSp (tookM k y.id x.id).1)], H⟩) rfl (by simp [cut_zero]) ?_
         rintro n s hn rfl
         have hcl := cut_le n (byHr k.draws h)
         refine sq ?_
         refine at_regK [5, 6, 14, 15, 16, 21, 25, 26, 205, 206, 207, 208] rfl ?_
         try simp [h00, o_i, f_a, wa, wb, wh, hi, hj, hh, hx, hy, hp, hq, il, jl, il', jl', nl1, nd1, nl2, nd2, f1, f2, f3, f4, f5, f6, f7, f8, ← hm, hfm, w1, w2]
         refine sq ?_
         refine at_cond rfl rfl (fun hb208 => ?_) (fun hb208 => ?_)
         ·
          try simp at hb208
          obtain ⟨v, hv⟩ : ∃ v, k.draws[n]? = some v := ⟨_, List.getElem?_eq_getElem (by omega)⟩
          have n0 : (n : Int) < k.draws.length := by omega
          have wn : IntKind.i64.wrap ((n : Int) + 1) = (n : Int) + 1 := wrap_id (by omega) (by omega)
          have wm : IntKind.i64.wrap ((k.loads.length : Int) + n) = k.loads.length + n := wrap_id (by omega) (by omega)
          have wm1 : IntKind.i64.wrap ((k.loads.length : Int) + n + 1) = k.loads.length + n + 1 := wrap_id (by omega) (by omega)
          have hdr := hgt_dr k t n
          refine at_skip (by kernel_rfl) ?_
          try simp [h00, o_i, f_a, wa, wb, wh, hi, hj, hh, hx, hy, hp, hq, il, jl, il', jl', nl1, nd1, nl2, nd2, f1, f2, f3, f4, f5, f6, f7, f8, ← hm, hfm, w1, w2, hv, n0, wn, wm, wm1, hdr]
          refine sq ?_
          refine at_block rfl ?_
          refine sq ?_
          refine at_regK [5, 6, 14, 15, 16, 21, 25, 26, 29, 30, 205, 206, 207] rfl ?_
          try simp [h00, o_i, f_a, wa, wb, wh, hi, hj, hh, hx, hy, hp, hq, il, jl, il', jl', nl1, nd1, nl2, nd2, f1, f2, f3, f4, f5, f6, f7, f8, ← hm, hfm, w1, w2, hv, n0, wn, wm, wm1, hdr]
          refine sq ?_
          refine at_regK [5, 6, 14, 15, 16, 21, 25, 26, 29, 205, 206, 207, 215] rfl ?_
          try simp [h00, o_i, f_a, wa, wb, wh, hi, hj, hh, hx, hy, hp, hq, il, jl, il', jl', nl1, nd1, nl2, nd2, f1, f2, f3, f4, f5, f6, f7, f8, ← hm, hfm, w1, w2, hv, n0, wn, wm, wm1, hdr]
          refine at_cond rfl rfl (fun hb215 => ?_) (fun hb215 => ?_)
          ·
           try simp at hb215
           have hcy := cut_yes (order_of_check hck).d hv hb215
           refine at_regK [5, 6, 14, 15, 16, 21, 25, 26, 205, 206, 207] rfl ?_
           try simp [h00, o_i, f_a, wa, wb, wh, hi, hj, hh, hx, hy, hp, hq, il, jl, il', jl', nl1, nd1, nl2, nd2, f1, f2, f3, f4, f5, f6, f7, f8, ← hm, hfm, w1, w2, hv, n0, wn, wm, wm1, hdr]
           refine (c62 k hk t ht nl nd ((k.loads.length : Int) + n + 1) (by omega) (by omega)).use hH ?_
           try simp [h00, o_i, f_a, wa, wb, wh, hi, hj, hh, hx, hy, hp, hq, il, jl, il', jl', nl1, nd1, nl2, nd2, f1, f2, f3, f4, f5, f6, f7, f8, ← hm, hfm, w1, w2, hv, n0, wn, wm, wm1, hdr]
           refine at_regC 6 [5, 6, 14, 15, 16, 21, 25, 26, 205, 206, 207] rfl ?_
           try simp [h00, o_i, f_a, wa, wb, wh, hi, hj, hh, hx, hy, hp, hq, il, jl, il', jl', nl1, nd1, nl2, nd2, f1, f2, f3, f4, f5, f6, f7, f8, ← hm, hfm, w1, w2, hv, n0, wn, wm, wm1, hdr]
           refine ⟨by omega, ?_⟩
           first
           | rw [hcy]
           | rw [hcn]
          ·
           try simp at hb215
           have hcn := cut_no (at_ := h) (order_of_check hck).d hv (by omega)
           refine at_skip (by kernel_rfl) ?_
           try simp [h00, o_i, f_a, wa, wb, wh, hi, hj, hh, hx, hy, hp, hq, il, jl, il', jl', nl1, nd1, nl2, nd2, f1, f2, f3, f4, f5, f6, f7, f8, ← hm, hfm, w1, w2, hv, n0, wn, wm, wm1, hdr]
           refine at_regC 6 [5, 6, 14, 15, 16, 21, 25, 26, 205, 206, 207] rfl ?_
           try simp [h00, o_i, f_a, wa, wb, wh, hi, hj, hh, hx, hy, hp, hq, il, jl, il', jl', nl1, nd1, nl2, nd2, f1, f2, f3, f4, f5, f6, f7, f8, ← hm, hfm, w1, w2, hv, n0, wn, wm, wm1, hdr]
           refine ⟨by omega, ?_⟩
           first
           | rw [hcy]
           | rw [hcn]
         ·
          try simp at hb208
          have hca : cutN n (byHr k.draws h) = byHr k.draws h := cut_all (by omega)
          rw [hca]
          refine at_exit rfl ?_
          try simp [h00, o_i, f_a, wa, wb, wh, hi, hj, hh, hx, hy, hp, hq, il, jl, il', jl', nl1, nd1, nl2, nd2, f1, f2, f3, f4, f5, f6, f7, f8, ← hm, hfm, w1, w2]
          refine sq ?_
          refine at_draw [5, 6, 14, 15, 16, 21, 25, 26, 31, 32] [1, 0, 1, 0, 0, 0, 1, 0, 1, 0, 0, 0, 2, 3, 0] [] rfl Efol (by kernel_rfl) (by simp) ?_
          try simp [h00, o_i, f_a, wa, wb, wh, hi, hj, hh, hx, hy, hp, hq, il, jl, il', jl', nl1, nd1, nl2, nd2, f1, f2, f3, f4, f5, f6, f7, f8, ← hm, hfm, w1, w2]
          refine (c24 k hk x.id h).draw hH ?_
          try simp [h00, o_i, f_a, wa, wb, wh, hi, hj, hh, hx, hy, hp, hq, il, jl, il', jl', nl1, nd1, nl2, nd2, f1, f2, f3, f4, f5, f6, f7, f8, ← hm, hfm, w1, w2]
          refine sq ?_
          refine at_draw [5, 6, 14, 15, 16, 21, 25, 26, 31, 32, 33, 34] [1, 0, 1, 0, 0, 0, 1, 0, 1, 0, 0, 0, 2, 3, 0] [] rfl Efol (by kernel_rfl) (by simp) ?_
          try simp [h00, o_i, f_a, wa, wb, wh, hi, hj, hh, hx, hy, hp, hq, il, jl, il', jl', nl1, nd1, nl2, nd2, f1, f2, f3, f4, f5, f6, f7, f8, ← hm, hfm, w1, w2]
          refine (c26 k hk x.id h).draw hH ?_
          try simp [h00, o_i, f_a, wa, wb, wh, hi, hj, hh, hx, hy, hp, hq, il, jl, il', jl', nl1, nd1, nl2, nd2, f1, f2, f3, f4, f5, f6, f7, f8, ← hm, hfm, w1, w2]
          refine sq ?_
          refine at_regK [5, 6, 14, 15, 16, 21, 25, 26, 31, 32, 33, 34, 35] rfl ?_
          try simp [h00, o_i, f_a, wa, wb, wh, hi, hj, hh, hx, hy, hp, hq, il, jl, il', jl', nl1, nd1, nl2, nd2, f1, f2, f3, f4, f5, f6, f7, f8, ← hm, hfm, w1, w2]
          refine (c62 k hk t ht nl nd (i : Int) (by omega) (by omega)).use hH ?_
          try simp [h00, o_i, f_a, wa, wb, wh, hi, hj, hh, hx, hy, hp, hq, il, jl, il', jl', nl1, nd1, nl2, nd2, f1, f2, f3, f4, f5, f6, f7, f8, ← hm, hfm, w1, w2]
          refine sq ?_
          refine sq ?_
          refine at_join ⟨[(5, .ref false 0 0 [] 0), (6, .ref false 1 0 [] 0), (14, I i), (15, I j), (299, .bool false)], [.cell (eKn k), .cell (eTr t), .cell (eSp (runM k x.id x.id).1), .cell (eSp (runM k y.id y.id).1), .cell (eSp (heldM k h).1), .cell (eSp (tookM k y.id x.id).1), .cell (eSp (belowM k x.id h).1), .cell (eSp (feetM k x.id h).1)], H⟩ ?_ ?_
          ·
           refine at_draw [5, 6, 14, 15, 299] [0, 0, 0, 1, 1, 0, 0, 0, 0, 0, 0, 0, 0, 0, 0, 0, 1, 1, 0, 0, 0, 0, 1, 1, 1, 1, 0, 0, 0, 0, 0, 0, 0, 0, 0, 1, 0, 0, 0, 1, 0, 0, 0, 0] [] rfl Efol (by kernel_rfl) (by simp) ?_
           try simp [h00, o_i, f_a, wa, wb, wh, hi, hj, hh, hx, hy, hp, hq, il, jl, il', jl', nl1, nd1, nl2, nd2, f1, f2, f3, f4, f5, f6, f7, f8, ← hm, hfm, w1, w2]
           refine (c60 _ _).draw hH ?_
           try simp [h00, o_i, f_a, wa, wb, wh, hi, hj, hh, hx, hy, hp, hq, il, jl, il', jl', nl1, nd1, nl2, nd2, f1, f2, f3, f4, f5, f6, f7, f8, ← hm, hfm, w1, w2]
           refine dps_split 270 rfl (fun hg6 => ?_) (fun hg6 => ?_)
           ·
            obtain ⟨g4, g5⟩ := hyes (by simpa using hg6)
            have hm0 : m = 0 := by simpa using hg6
            try simp [h00, o_i, f_a, wa, wb, wh, hi, hj, hh, hx, hy, hp, hq, il, jl, il', jl', nl1, nd1, nl2, nd2, f1, f2, f3, f4, f5, f6, f7, f8, ← hm, hfm, w1, w2, g4, g5, hm0, hg6]
            refine (c60 _ _).draw hH ?_
            try simp [h00, o_i, f_a, wa, wb, wh, hi, hj, hh, hx, hy, hp, hq, il, jl, il', jl', nl1, nd1, nl2, nd2, f1, f2, f3, f4, f5, f6, f7, f8, ← hm, hfm, w1, w2, g4, g5, hm0]
            refine (c63 _ k.per rp.1 rp.2 (by omega) (by omega)).draw hH ?_
            try simp [h00, o_i, f_a, wa, wb, wh, hi, hj, hh, hx, hy, hp, hq, il, jl, il', jl', nl1, nd1, nl2, nd2, f1, f2, f3, f4, f5, f6, f7, f8, ← hm, hfm, w1, w2, g4, g5, hm0]
            refine (c60 _ _).draw hH ?_
            try simp [h00, o_i, f_a, wa, wb, wh, hi, hj, hh, hx, hy, hp, hq, il, jl, il', jl', nl1, nd1, nl2, nd2, f1, f2, f3, f4, f5, f6, f7, f8, ← hm, hfm, w1, w2, g4, g5, hm0]
           ·
            have g6 := hno (by simpa using hg6)
            have hm1 : ¬ m = 0 := by simpa using hg6
            try simp [h00, o_i, f_a, wa, wb, wh, hi, hj, hh, hx, hy, hp, hq, il, jl, il', jl', nl1, nd1, nl2, nd2, f1, f2, f3, f4, f5, f6, f7, f8, ← hm, hfm, w1, w2, g6, hm1, hg6]
          ·
           try simp [h00, o_i, f_a, wa, wb, wh, hi, hj, hh, hx, hy, hp, hq, il, jl, il', jl', nl1, nd1, nl2, nd2, f1, f2, f3, f4, f5, f6, f7, f8, ← hm, hfm, w1, w2]
           refine at_cond rfl rfl (fun hb299 => by simp at hb299) (fun hb299 => ?_)
           refine at_skip (by kernel_rfl) ?_
           try simp [h00, o_i, f_a, wa, wb, wh, hi, hj, hh, hx, hy, hp, hq, il, jl, il', jl', nl1, nd1, nl2, nd2, f1, f2, f3, f4, f5, f6, f7, f8, ← hm, hfm, w1, w2]
           refine sq ?_
           refine at_regK [5, 6, 14, 15, 36, 37] rfl ?_
           try simp [h00, o_i, f_a, wa, wb, wh, hi, hj, hh, hx, hy, hp, hq, il, jl, il', jl', nl1, nd1, nl2, nd2, f1, f2, f3, f4, f5, f6, f7, f8, ← hm, hfm, w1, w2]
           refine sq ?_
           refine sq ?_
           refine at_regK [5, 6, 14, 15, 36, 37, 302, 303] rfl ?_
           try simp [h00, o_i, f_a, wa, wb, wh, hi, hj, hh, hx, hy, hp, hq, il, jl, il', jl', nl1, nd1, nl2, nd2, f1, f2, f3, f4, f5, f6, f7, f8, ← hm, hfm, w1, w2]
           refine at_block rfl ?_
           refine at_count k.draws.length (fun n s => s = ⟨[(5, .ref false 0 0 [] 0), (6, .ref false 1 0 [] 0), (14, I i), (15, I j), (36, I (allM k t i n)), (37, I 0), (302, I k.draws.length), (303, I n)], [.cell (eKn k), .cell (eTr t), .cell (eSp (runM k x.id x.id).1), .cell (eSp (runM k y.id y.id).1), .cell (eSp (heldM k h).1), .cell (eSp (tookM k y.id x.id).1), .cell (eSp (belowM k x.id h).1), .cell (eSp (feetM k x.id h).1)], H⟩) rfl (by simp [all0]) ?_
           rintro n s hn rfl
           refine sq ?_
           refine at_regK [5, 6, 14, 15, 36, 37, 302, 303, 304] rfl ?_
           try simp [h00, o_i, f_a, wa, wb, wh, hi, hj, hh, hx, hy, hp, hq, il, jl, il', jl', nl1, nd1, nl2, nd2, f1, f2, f3, f4, f5, f6, f7, f8, ← hm, hfm, w1, w2]
           refine sq ?_
           refine at_cond rfl rfl (fun hb304 => ?_) (fun hb304 => ?_)
           ·
            try simp at hb304
            have n0 : (n : Int) < k.draws.length := by omega
            have hst := all_step ht (j := n) (i := i) (by omega) (by omega)
            have ab := all_b ht hp (n + 1)
            have wn : IntKind.i64.wrap ((n : Int) + 1) = (n : Int) + 1 := wrap_id (by omega) (by omega)
            have ws : IntKind.i64.wrap (allM k t i n + takenM k t n i) = allM k t i (n + 1) := by rw [hst]; exact wrap_id (by omega) (by omega)
            refine at_skip (by kernel_rfl) ?_
            try simp [h00, o_i, f_a, wa, wb, wh, hi, hj, hh, hx, hy, hp, hq, il, jl, il', jl', nl1, nd1, nl2, nd2, f1, f2, f3, f4, f5, f6, f7, f8, ← hm, hfm, w1, w2, n0, wn, ws]
            refine sq ?_
            refine at_block rfl ?_
            refine sq ?_
            refine at_regK [5, 6, 14, 15, 36, 37, 38, 302, 303] rfl ?_
            try simp [h00, o_i, f_a, wa, wb, wh, hi, hj, hh, hx, hy, hp, hq, il, jl, il', jl', nl1, nd1, nl2, nd2, f1, f2, f3, f4, f5, f6, f7, f8, ← hm, hfm, w1, w2, n0, wn, ws]
            refine at_regK [5, 6, 14, 15, 36, 37, 302, 303] rfl ?_
            try simp [h00, o_i, f_a, wa, wb, wh, hi, hj, hh, hx, hy, hp, hq, il, jl, il', jl', nl1, nd1, nl2, nd2, f1, f2, f3, f4, f5, f6, f7, f8, ← hm, hfm, w1, w2, n0, wn, ws]
            refine (c61 k hk t ht nl nd (n : Int) (i : Int) (by omega) (by omega) (by omega) (by omega)).use hH ?_
            try simp [h00, o_i, f_a, wa, wb, wh, hi, hj, hh, hx, hy, hp, hq, il, jl, il', jl', nl1, nd1, nl2, nd2, f1, f2, f3, f4, f5, f6, f7, f8, ← hm, hfm, w1, w2, n0, wn, ws]
            refine at_regK [5, 6, 14, 15, 36, 37, 302, 303] rfl ?_
            try simp [h00, o_i, f_a, wa, wb, wh, hi, hj, hh, hx, hy, hp, hq, il, jl, il', jl', nl1, nd1, nl2, nd2, f1, f2, f3, f4, f5, f6, f7, f8, ← hm, hfm, w1, w2, n0, wn, ws]
            omega
           ·
            try simp at hb304
            have hna : n = k.draws.length := by omega
            subst hna
            refine at_exit rfl ?_
            try simp [h00, o_i, f_a, wa, wb, wh, hi, hj, hh, hx, hy, hp, hq, il, jl, il', jl', nl1, nd1, nl2, nd2, f1, f2, f3, f4, f5, f6, f7, f8, ← hm, hfm, w1, w2]
            refine sq ?_
            refine sq ?_
            refine at_regK [5, 6, 14, 15, 36, 37, 316, 317] rfl ?_
            try simp [h00, o_i, f_a, wa, wb, wh, hi, hj, hh, hx, hy, hp, hq, il, jl, il', jl', nl1, nd1, nl2, nd2, f1, f2, f3, f4, f5, f6, f7, f8, ← hm, hfm, w1, w2]
            refine at_block rfl ?_
            refine at_count k.loads.length (fun n s => s = ⟨[(5, .ref false 0 0 [] 0), (6, .ref false 1 0 [] 0), (14, I i), (15, I j), (36, I (allM k t i k.draws.length)), (37, I (mineM k t j n)), (316, I k.loads.length), (317, I n)], [.cell (eKn k), .cell (eTr t), .cell (eSp (runM k x.id x.id).1), .cell (eSp (runM k y.id y.id).1), .cell (eSp (heldM k h).1), .cell (eSp (tookM k y.id x.id).1), .cell (eSp (belowM k x.id h).1), .cell (eSp (feetM k x.id h).1)], H⟩) rfl (by simp [mine0]) ?_
            rintro n s hn rfl
            refine sq ?_
            refine at_regK [5, 6, 14, 15, 36, 37, 316, 317, 318] rfl ?_
            try simp [h00, o_i, f_a, wa, wb, wh, hi, hj, hh, hx, hy, hp, hq, il, jl, il', jl', nl1, nd1, nl2, nd2, f1, f2, f3, f4, f5, f6, f7, f8, ← hm, hfm, w1, w2]
            refine sq ?_
            refine at_cond rfl rfl (fun hb318 => ?_) (fun hb318 => ?_)
            ·
             try simp at hb318
             have n0 : (n : Int) < k.loads.length := by omega
             have hst := mine_step ht (j := j) (i := n) (by omega) (by omega)
             have ab := mine_b ht hq (n + 1)
             have wn : IntKind.i64.wrap ((n : Int) + 1) = (n : Int) + 1 := wrap_id (by omega) (by omega)
             have ws : IntKind.i64.wrap (mineM k t j n + takenM k t j n) = mineM k t j (n + 1) := by rw [hst]; exact wrap_id (by omega) (by omega)
             refine at_skip (by kernel_rfl) ?_
             try simp [h00, o_i, f_a, wa, wb, wh, hi, hj, hh, hx, hy, hp, hq, il, jl, il', jl', nl1, nd1, nl2, nd2, f1, f2, f3, f4, f5, f6, f7, f8, ← hm, hfm, w1, w2, n0, wn, ws]
             refine sq ?_
             refine at_block rfl ?_
             refine sq ?_
             refine at_regK [5, 6, 14, 15, 36, 37, 39, 316, 317] rfl ?_
             try simp [h00, o_i, f_a, wa, wb, wh, hi, hj, hh, hx, hy, hp, hq, il, jl, il', jl', nl1, nd1, nl2, nd2, f1, f2, f3, f4, f5, f6, f7, f8, ← hm, hfm, w1, w2, n0, wn, ws]
             refine at_regK [5, 6, 14, 15, 36, 37, 316, 317] rfl ?_
             try simp [h00, o_i, f_a, wa, wb, wh, hi, hj, hh, hx, hy, hp, hq, il, jl, il', jl', nl1, nd1, nl2, nd2, f1, f2, f3, f4, f5, f6, f7, f8, ← hm, hfm, w1, w2, n0, wn, ws]
             refine (c61 k hk t ht nl nd (j : Int) (n : Int) (by omega) (by omega) (by omega) (by omega)).use hH ?_
             try simp [h00, o_i, f_a, wa, wb, wh, hi, hj, hh, hx, hy, hp, hq, il, jl, il', jl', nl1, nd1, nl2, nd2, f1, f2, f3, f4, f5, f6, f7, f8, ← hm, hfm, w1, w2, n0, wn, ws]
             refine at_regK [5, 6, 14, 15, 36, 37, 316, 317] rfl ?_
             try simp [h00, o_i, f_a, wa, wb, wh, hi, hj, hh, hx, hy, hp, hq, il, jl, il', jl', nl1, nd1, nl2, nd2, f1, f2, f3, f4, f5, f6, f7, f8, ← hm, hfm, w1, w2, n0, wn, ws]
             omega
            ·
             try simp at hb318
             have hna : n = k.loads.length := by omega
             subst hna
             have abl := (all_b ht hp k.draws.length).2
             refine at_exit rfl ?_
             try simp [h00, o_i, f_a, wa, wb, wh, hi, hj, hh, hx, hy, hp, hq, il, jl, il', jl', nl1, nd1, nl2, nd2, f1, f2, f3, f4, f5, f6, f7, f8, ← hm, hfm, w1, w2]
             refine sq ?_
             refine at_regK [10] rfl ?_
             try simp [h00, o_i, f_a, minea, abl, hi, hj, hh, hx, hy, hp, hq, il, jl, il', jl', nl1, nd1, nl2, nd2, f1, f2, f3, f4, f5, f6, f7, f8, ← hm, hfm, w1, w2]
             refine c17.use hH ?_
             try simp [h00, o_i, f_a, minea, abl, hi, hj, hh, hx, hy, hp, hq, il, jl, il', jl', nl1, nd1, nl2, nd2, f1, f2, f3, f4, f5, f6, f7, f8, ← hm, hfm, w1, w2]
             refine at_ret (by kernel_rfl) ?_
             try simp [h00, o_i, f_a, wa, wb, wh, hi, hj, hh, hx, hy, hp, hq, il, jl, il', jl', nl1, nd1, nl2, nd2, f1, f2, f3, f4, f5, f6, f7, f8, ← hm, hfm, w1, w2]
end Go.Abs
