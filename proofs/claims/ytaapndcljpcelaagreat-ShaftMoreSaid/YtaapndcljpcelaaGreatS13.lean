/- What this law alone rests on. -/
import Derived.Test.YtaapndcljpcelaaGreatP5
/- More weighings, and fewer. -/
set_option linter.unusedVariables false
set_option linter.unusedSimpArgs false
namespace Go.Shaft
def moreW (k : Kn) (w : Wg) : Kn := { k with weighs := k.weighs ++ [w] }
theorem more_sub (k : Kn) (w : Wg) : ∀ t ∈ tiesM k, t ∈ tiesM (moreW k w) := by
  intro t ht
  have e3 : ties3 (moreW k w) = ties3 k ++ both (weighedM k w).1 (weighedM k w).2 w.sum w.id := by
    unfold ties3
    show List.flatMap _ (k.weighs ++ [w]) = _
    rw [List.flatMap_append]
    simp only [List.flatMap_cons, List.flatMap_nil, List.append_nil]
    rfl
  have e1 : ties1 (moreW k w) = ties1 k := rfl
  have e2 : ties2 (moreW k w) = ties2 k := rfl
  have e4 : ties4 (moreW k w) = ties4 k := rfl
  have e5 : ties5 (moreW k w) = ties5 k := rfl
  rw [tiesM, e1, e2, e3, e4, e5]
  simp only [tiesM, List.mem_append] at ht ⊢
  rcases ht with h | h | h | h | h
  · exact .inl h
  · exact .inr (.inl h)
  · exact .inr (.inr (.inl (.inl h)))
  · exact .inr (.inr (.inr (.inl h)))
  · exact .inr (.inr (.inr (.inr h)))
theorem less_sub (k : Kn) (ids : List Int) : ∀ t ∈ tiesM (withoutM k ids), t ∈ tiesM k := by
  intro t ht
  have e3 : ties3 (withoutM k ids) = (k.weighs.filter fun w => !decide (w.id ∈ ids)).flatMap fun w => both (weighedM k w).1 (weighedM k w).2 w.sum w.id := rfl
  have e1 : ties1 (withoutM k ids) = ties1 k := rfl
  have e2 : ties2 (withoutM k ids) = ties2 k := rfl
  have e4 : ties4 (withoutM k ids) = ties4 k := rfl
  have e5 : ties5 (withoutM k ids) = ties5 k := rfl
  rw [tiesM, e1, e2, e3, e4, e5] at ht
  simp only [tiesM, List.mem_append] at ht ⊢
  rcases ht with h | h | h | h | h
  · exact .inl h
  · exact .inr (.inl h)
  · refine .inr (.inr (.inl ?_))
    obtain ⟨w, hw, h⟩ := List.mem_flatMap.1 h
    exact List.mem_flatMap.2 ⟨w, (List.mem_filter.1 hw).1, h⟩
  · exact .inr (.inr (.inr (.inl h)))
  · exact .inr (.inr (.inr (.inr h)))
theorem feas_of_more {k : Kn} {w : Wg} {H : Int → Int} (f : Feas (netM (moreW k w) []) H) : Feas (netM k []) H := by
  intro t ht
  rw [links0] at ht
  exact f t (by rw [links0]; exact more_sub k w t ht)
theorem feas_less {k : Kn} {ids : List Int} {H : Int → Int} (f : Feas (netM k []) H) : Feas (netM (withoutM k ids) []) H := by
  intro t ht
  rw [links0] at ht
  exact f t (by rw [links0]; exact less_sub k ids t ht)
/-- What is told without an error. -/
theorem above_zero {k : Kn} {a b : Int} (h : (aboveC k a b).2 = 0) : check k = 0 ∧ (0 ≤ a ∧ a < marksM k) ∧ (0 ≤ b ∧ b < marksM k) ∧ fin? (netM k []) a = true ∧ (aboveC k a b).1.most = dst (netM k []) a b := by
  have hm : markedM k [a, b] = 0 := by
    refine Classical.byContradiction fun hn => ?_
    unfold aboveC at h
    rw [if_pos hn] at h
    exact hn h
  obtain ⟨hc, hin⟩ := marked_ok hm
  have ha := hin a (by simp)
  have hb := hin b (by simp)
  obtain ⟨e1, m1⟩ := aboveC_eq hc ha.1 ha.2 hb.1 hb.2
  have hF : fin? (netM k []) a = true := by
    cases hf : fin? (netM k []) a with
    | true => rfl
    | false => rw [h, hf] at e1; cases e1
  exact ⟨hc, ha, hb, hF, m1 hF⟩
/-- A further weighing moves no end outwards; what contradicts itself stays so. -/
theorem more_le {k : Kn} (hc : check k = 0) {w : Wg} {a b : Int} (h : (aboveC (moreW k w) a b).2 = 0) : fin? (netM k []) a = true ∧ (aboveC (moreW k w) a b).1.most ≤ (aboveC k a b).1.most := by
  obtain ⟨hc2, ha, hb, hF, hm⟩ := above_zero h
  have ha' : 0 ≤ a ∧ a < marksM k := ha
  have hb' : 0 ≤ b ∧ b < marksM k := hb
  have N := Net.base hc
  have N2 := Net.base hc2
  have f := feas_of_more (N2.feas ha.1 ha.2 hF)
  have hF2 := N.fin_of ha'.1 ha'.2 f
  have h1 := N.le ha'.1 ha'.2 hb'.1 hb'.2 f
  rw [N2.zero ha.1 ha.2 hF] at h1
  rw [hm, (aboveC_eq hc ha'.1 ha'.2 hb'.1 hb'.2).2 hF2]
  exact ⟨hF2, by omega⟩
theorem ins_mem (l : List Int) (x y : Int) : y ∈ insM l x ↔ y = x ∨ y ∈ l := by
  unfold insM
  rw [List.mem_append, List.mem_cons]
  have e : l = l.takeWhile (fun y => !decide (x < y)) ++ l.dropWhile (fun y => !decide (x < y)) := (List.takeWhile_append_dropWhile).symm
  constructor
  · rintro (h | h | h)
    · exact .inr (by rw [e]; exact List.mem_append_left _ h)
    · exact .inl h
    · exact .inr (by rw [e]; exact List.mem_append_right _ h)
  · rintro (h | h)
    · exact .inr (.inl h)
    · rw [e, List.mem_append] at h
      rcases h with h | h
      · exact .inl h
      · exact .inr (.inr h)
theorem sort_mem : ∀ (l acc : List Int) (y : Int), y ∈ l.foldl insM acc ↔ y ∈ l ∨ y ∈ acc
  | [], acc, y => by simp
  | x :: l, acc, y => by
    rw [List.foldl_cons, sort_mem l _ y, ins_mem, List.mem_cons]
    constructor
    · rintro (h | h | h)
      · exact .inl (.inr h)
      · exact .inl (.inl h)
      · exact .inr h
    · rintro ((h | h) | h)
      · exact .inr (.inl h)
      · exact .inl h
      · exact .inr (.inr h)
theorem sortM_mem (l : List Int) (y : Int) : y ∈ sortM l ↔ y ∈ l := by
  rw [sortM, sort_mem]
  simp
theorem chosen_mem (k : Kn) (is : Kn → Bool) (y : Int) : y ∈ chosenM k is ↔ (∃ w ∈ k.weighs, w.id = y) ∧ is (withoutM k [y]) = true := by
  rw [chosenM, sortM_mem, List.mem_filter, List.mem_map]
/-- The weighings on which it rests. -/
theorem rests_ok {k : Kn} (hc : check k = 0) {a b : Int} (a0 : 0 ≤ a) (a1 : a < marksM k) (b0 : 0 ≤ b) (b1 : b < marksM k) (hF : fin? (netM k []) a = true) : (restsM k a b).2 = 0 ∧ ∀ w ∈ k.weighs, (w.id ∈ (restsM k a b).1 ↔ dst (netM (withoutM k [w.id]) []) a b ≠ dst (netM k []) a b) := by
  have e : restsM k a b = (chosenM k (fun less => decide ((aboveM (netM less []) a b).1 ≠ (aboveM (netM k []) a b).1)), 0) := by
    unfold restsM
    rw [marked_two hc a0 a1 b0 b1, if_neg (by simp), if_neg]
    rw [above_eq]
    simp only [hF]
    simp
  rw [e]
  refine ⟨rfl, fun w hw => ?_⟩
  simp only
  rw [chosen_mem]
  simp only [above_eq, decide_eq_true_eq]
  exact ⟨fun h => of_decide_eq_true h.2, fun h => ⟨⟨w, hw, rfl⟩, decide_eq_true h⟩⟩
theorem less_ok {k : Kn} (hc : check k = 0) {a b : Int} (a0 : 0 ≤ a) (a1 : a < marksM k) (b0 : 0 ≤ b) (b1 : b < marksM k) (hF : fin? (netM k []) a = true) (id : Int) : (withoutE k [id]) = (withoutM k [id], 0) ∧ (aboveC (withoutM k [id]) a b).2 = 0 ∧ (aboveC (withoutM k [id]) a b).1.most = dst (netM (withoutM k [id]) []) a b := by
  have hc2 := check_without hc [id]
  have N := Net.base hc
  have N2 := Net.base hc2
  have hF2 : fin? (netM (withoutM k [id]) []) a = true := N2.fin_of (k := withoutM k [id]) a0 a1 (feas_less (N.feas a0 a1 hF))
  obtain ⟨e1, m1⟩ := aboveC_eq (k := withoutM k [id]) hc2 a0 a1 b0 b1
  exact ⟨by rw [withoutE, if_neg (by simp [hc])], by rw [e1, if_pos hF2], m1 hF2⟩
theorem suspects_ok {k : Kn} (hc : check k = 0) (hF : fin? (netM k []) 0 = false) : (suspectsM k).2 = 0 ∧ ∀ id ∈ (suspectsM k).1, (findM (withoutM k [id])).2 = 0 ∧ withoutE k [id] = (withoutM k [id], 0) := by
  have e : suspectsM k = (chosenM k (fun less => (aboveM (netM less []) 0 0).2), 0) := by
    unfold suspectsM
    rw [if_neg (by simp [hc]), if_neg]
    rw [above_eq]
    simp [hF]
  rw [e]
  refine ⟨rfl, fun id h => ?_⟩
  obtain ⟨_, h⟩ := (chosen_mem k (fun less => (aboveM (netM less []) 0 0).2) id).1 h
  have hc2 := check_without hc [id]
  refine ⟨?_, by rw [withoutE, if_neg (by simp [hc])]⟩
  unfold findM
  rw [if_neg (by simp [hc2]), if_pos]
  rw [above_eq] at h
  exact h
theorem chosen_len (k : Kn) (is : Kn → Bool) : (chosenM k is).length ≤ k.weighs.length := by
  rw [chosenM, sortM_len]
  refine Nat.le_trans (List.length_filter_le _ _) ?_
  simp
theorem sus_len (k : Kn) : (suspectsM k).1.length ≤ k.weighs.length := by
  unfold suspectsM
  split
  · simp
  · split
    · simp
    · exact chosen_len k (fun less => (aboveM (netM less []) 0 0).2)
theorem rests_len (k : Kn) (a b : Int) : (restsM k a b).1.length ≤ k.weighs.length := by
  unfold restsM
  split
  · simp
  · split
    · simp
    · exact chosen_len k (fun less => decide ((aboveM (netM less []) a b).1 ≠ (aboveM (netM k []) a b).1))
end Go.Shaft
/- Law: more weighings, and fewer. -/
set_option linter.unusedVariables false
set_option linter.unusedSimpArgs false
set_option maxRecDepth 100000
set_option maxHeartbeats 2000000
namespace Go.Abs
open Go.RowKit Go.Proofs Go.Shaft
attribute [simp] ti22 ti23 ti24 ti26 ti30 ti42 ti45 ti52 ti122 ti125 ti88 ti92 ti46
attribute [simp] ti134 ti131 ti48 ti85 ti143 ti189 ti190 ti192 ti204 ti208 ti218 ti9 ti5 ti27 ti28 ti141 ti30 ti45
@[simp] theorem us4 : E.P.underlying 4 = some TypeDesc.bool := by kernel_rfl
theorem more_lit (k : Kn) (w : Wg) : eKn (moreW k w) = .agg [I k.room, I k.per, eLds k.loads, eLds k.draws, .lit 6 (k.weighs.map eWg ++ [eWg w])] := by
 rw [show k.weighs.map eWg ++ [eWg w] = (k.weighs ++ [w]).map eWg by simp]
 rfl
theorem eKn_own (k : Kn) (sh : Bool) (j v : Nat) : (eKn k).upd [4] (.own sh j v) = some (.agg [I k.room, I k.per, eLds k.loads, eLds k.draws, .own sh j v]) := by simp [eKn, AV.upd]

theorem c32 (l : List Int) (hl : l.length ≤ 1000) (x : Int) : Con E 32 [eInts l, I x] (.bool (decide (x ∈ l))) := by
 intro n H hH
 have h00 := hh3 hH
 have ⟨hHs, hH', hpl⟩ := h00
 refine at_start (fn := Tryz.f32) [.tmp 4] 17 H.length rfl rfl rfl rfl (by kernel_rfl) (by kernel_rfl) (by simp) (Nat.le_refl _) ?_
 refine sq ?_
 refine at_regK [0, 1] rfl ?_
 try simp [h00, o_i, f_a]
 refine sq ?_
 refine sq ?_
 refine at_regK [1, 7, 8, 9] rfl ?_
 try simp [h00, o_i, f_a]
 refine at_block rfl ?_
 refine at_count l.length (fun i s => x ∉ l.take i ∧ s = ⟨[(1, I x), (7, eInts l), (8, I l.length), (9, I i)], [], H⟩) rfl ⟨by simp, rfl⟩ ?_
 rintro i s hi ⟨hno, rfl⟩
 refine sq ?_
 refine at_regK [1, 7, 8, 9, 10] rfl ?_
 try simp [h00, o_i, f_a]
 refine sq ?_
 refine at_cond rfl rfl (fun hb10 => ?_) (fun hb10 => ?_)
 ·
  try simp at hb10
  obtain ⟨y, hy⟩ : ∃ y, l[i]? = some y := ⟨_, List.getElem?_eq_getElem (by omega)⟩
  have i0 : (i : Int) < l.length := by omega
  refine at_skip (by kernel_rfl) ?_
  try simp [h00, o_i, f_a, hy, i0]
  refine sq ?_
  refine at_block rfl ?_
  refine sq ?_
  refine at_regK [1, 6, 7, 8, 9] rfl ?_
  try simp [h00, o_i, f_a, hy, i0]
  refine sq ?_
  refine at_regK [1, 7, 8, 9, 15] rfl ?_
  try simp [h00, o_i, f_a, hy, i0]
  refine at_cond rfl rfl (fun hb15 => ?_) (fun hb15 => ?_)
  ·
   try simp at hb15
   refine sq ?_
   refine at_regK [4] rfl ?_
   try simp [h00, o_i, f_a, hy, i0]
   refine at_ret (by kernel_rfl) ?_
   try simp [h00, o_i, f_a, hy, i0]
   rw [← hb15]
   exact List.mem_of_getElem? hy
  ·
   try simp at hb15
   refine at_skip (by kernel_rfl) ?_
   try simp [h00, o_i, f_a, hy, i0]
   refine at_regK [1, 7, 8, 9] rfl ?_
   try simp [h00, o_i, f_a, hy, i0]
   refine ⟨by omega, ?_, ?_⟩
   ·rw [List.take_add_one, hy]
    simp
    exact ⟨hno, fun h => hb15 h.symm⟩
   ·exact wrap_id (by omega) (by omega)
 ·
  try simp at hb10
  refine at_exit rfl ?_
  try simp [h00, o_i, f_a]
  refine sq ?_
  refine at_regK [4] rfl ?_
  try simp [h00, o_i, f_a]
  refine at_ret (by kernel_rfl) ?_
  try simp [h00, o_i, f_a]
  rw [List.take_of_length_le (by omega)] at hno
  exact hno

theorem c13 (k : Kn) (a b : Int) (a0 : 0 ≤ a) (a1 : a ≤ 255) (b0 : 0 ≤ b) (b1 : b ≤ 255) (w : Wg) : Con E 13 [eKn k, .int .u8 a, .int .u8 b, eWg w] (.bool true) := by
 intro n H hH
 have h00 := hh3 hH
 have ⟨hHs, hH', hpl⟩ := h00
 have wa : IntKind.i64.wrap a = a := wrap_id (by omega) (by omega)
 have wb : IntKind.i64.wrap b = b := wrap_id (by omega) (by omega)
 refine at_start (fn := Tryz.f13) [.tmp 8] 187 H.length rfl rfl rfl rfl (by kernel_rfl) (by kernel_rfl) (by simp) (Nat.le_refl _) ?_
 refine sq ?_
 refine at_regK [1, 2, 4, 7] rfl ?_
 try simp [h00, o_i, f_a, wa, wb]
 refine sq ?_
 refine sq ?_
 refine at_regK [1, 2, 4, 7, 45] rfl ?_
 try simp [h00, o_i, f_a, wa, wb]
 refine (c16 _).use hH ?_
 try simp [h00, o_i, f_a, wa, wb]
 refine pops_split 35 rfl (fun hg1 => ?_) (fun hg1 => ?_)
 ·
  try simp [h00, o_i, f_a, wa, wb, hg1]
  refine at_cond rfl rfl (fun hb45 => ?_) (fun hb45 => by simp at hb45)
  refine sq ?_
  refine at_regK [8] rfl ?_
  try simp [h00, o_i, f_a, wa, wb]
  refine c17.use hH ?_
  try simp [h00, o_i, f_a, wa, wb]
  refine at_ret (by kernel_rfl) ?_
  try simp [h00, o_i, f_a, wa, wb]
 ·
  have hfw : fewB k = true := by simpa using hg1
  have hk := fewB_few hfw
  try simp [h00, o_i, f_a, wa, wb, hg1]
  refine (c48 k hk).use hH ?_
  try simp [h00, o_i, f_a, wa, wb]
  refine pops_split 40 rfl (fun hg2 => ?_) (fun hg2 => ?_)
  ·
   try simp [h00, o_i, f_a, wa, wb, hg2]
   refine at_cond rfl rfl (fun hb45 => ?_) (fun hb45 => by simp at hb45)
   refine sq ?_
   refine at_regK [8] rfl ?_
   try simp [h00, o_i, f_a, wa, wb]
   refine c17.use hH ?_
   try simp [h00, o_i, f_a, wa, wb]
   refine at_ret (by kernel_rfl) ?_
   try simp [h00, o_i, f_a, wa, wb]
  ·
   try simp [h00, o_i, f_a, wa, wb, hg2]
   refine at_cond rfl rfl (fun hb45 => ?_) (fun hb45 => ?_)
   ·
    try simp at hb45
    refine sq ?_
    refine at_regK [8] rfl ?_
    try simp [h00, o_i, f_a, wa, wb]
    refine c17.use hH ?_
    try simp [h00, o_i, f_a, wa, wb]
    refine at_ret (by kernel_rfl) ?_
    try simp [h00, o_i, f_a, wa, wb]
   ·
    try simp at hb45
    have hck : check k = 0 := by simpa using hg2
    have f := fine_of_check hck
    have N := Net.base hck
    have rt := right_of_check hck
    obtain ⟨nl, nd, nw⟩ := fewB_w hfw hck
    have hkm : Few (moreW k w) := ⟨hk.l, hk.d, by simp [moreW]; omega⟩
    have n0 : (0 : Int) < marksM k := by have := f.wf.n0; rw [netn] at this; exact this
    have nn : ¬ marksM k = 0 := by omega
    obtain ⟨u, hu, u0, u1⟩ := tmod_in a0 n0
    obtain ⟨v, hv, v0, v1⟩ := tmod_in b0 n0
    obtain ⟨e1, m1⟩ := aboveC_eq hck u0 u1 v0 v1
    obtain ⟨e, he⟩ : ∃ e, e = (aboveC k u v).2 := ⟨_, rfl⟩
    obtain ⟨e2, he2⟩ : ∃ e, e = (aboveC (moreW k w) u v).2 := ⟨_, rfl⟩
    obtain ⟨p, hp⟩ : ∃ p, p = (aboveC k u v).1 := ⟨_, rfl⟩
    obtain ⟨q, hq⟩ : ∃ p, p = (aboveC (moreW k w) u v).1 := ⟨_, rfl⟩
    have hmo : e2 = 0 → fin? (netM k []) u = true ∧ q.most ≤ p.most := by
     intro h
     rw [hp, hq]
     exact more_le hck (by rw [← he2]; exact h)
    have he9 : e = if fin? (netM k []) u then 0 else 9 := by rw [he, e1]
    have hF0 : fin? (netM k []) 0 = fin? (netM k []) u := N.same (by omega) n0 u0 u1
    refine at_skip (by kernel_rfl) ?_
    try simp [h00, o_i, f_a, wa, wb, nn, hu, hv, ← he, ← he2, ← hp, ← hq]
    refine sq ?_
    refine at_draw [4, 7, 9, 10] [0, 0, 1, 1, 0, 0, 0, 1, 1, 0, 0, 0] [] rfl Efol (by kernel_rfl) (by simp) ?_
    try simp [h00, o_i, f_a, wa, wb, nn, hu, hv, ← he, ← he2, ← hp, ← hq]
    refine (c49 k hk).draw hH ?_
    try simp [h00, o_i, f_a, wa, wb, nn, hu, hv, ← he, ← he2, ← hp, ← hq]
    refine (c49 k hk).draw hH ?_
    try simp [h00, o_i, f_a, wa, wb, nn, hu, hv, ← he, ← he2, ← hp, ← hq]
    refine sq ?_
    refine at_regK [4, 7, 9, 10, 11, 12] rfl ?_
    try simp [h00, o_i, f_a, wa, wb, nn, hu, hv, ← he, ← he2, ← hp, ← hq]
    refine (c50 k hk u v).use hH ?_
    try simp [h00, o_i, f_a, wa, wb, nn, hu, hv, ← he, ← he2, ← hp, ← hq]
    refine sq ?_
    refine at_regK [4, 7, 9, 10, 11, 12, 13] rfl ?_
    try simp [h00, o_i, f_a, wa, wb, nn, hu, hv, ← he, ← he2, ← hp, ← hq]
    refine sq ?_
    refine at_join ⟨[(4, .ref false 0 0 [] 0), (9, I u), (10, I v), (11, .ref false 2 0 [] 0), (12, I e), (13, .ref false 3 0 [] 0)], [.cell (eKn k), .cell (eWg w), .cell (eCh p), .cell (eKn (moreW k w))], H⟩ ?_ ?_
    ·rcases hwz : k.weighs with _ | ⟨w0, wr⟩
     ·refine AWP.post ?_
      refine at_drawD [4, 9, 10, 11, 12, 13] [2,0,4,0,4,2,2,0,3] [0, 1] rfl Efol (by kernel_rfl) (by simp) ?_
      refine DRun.build0 rfl rfl rfl rfl rfl rfl (by decide) ?_
      simp
      refine DRun.dv rfl ?_
      simp
      refine DRun.dv rfl ?_
      simp
      refine DRun.append0 rfl rfl rfl rfl rfl rfl rfl rfl (show eWgs k.weighs = .lit 6 [] by rw [hwz]; rfl) ?_
      simp
      refine DRun.dv rfl ?_
      simp
      refine DRun.dv rfl ?_
      simp
      refine DRun.appendX (ys := [eWg w]) rfl rfl rfl rfl rfl rfl rfl rfl (by decide) rfl rfl rfl (by simp) rfl (by simp) (by simp) ?_
      simp
      refine DRun.dv rfl ?_
      simp
      refine DRun.dv rfl ?_
      simp [eKn_own]
      refine DRun.nil ?_
      simp
      refine (leads_freezeC (q := 6) (j := 3) (i := 4) rfl rfl (by decide) (by simp)).trans ?_
      have hm := more_lit k w
      simp only [hwz, List.map_nil, List.nil_append] at hm
      simp
      rw [← hm]
      exact leads_cutK (n := 4) (ks := [4, 9, 10, 11, 12, 13]) (by simp [cutOK, hpl])
     ·refine AWP.post ?_
      refine at_drawD [4, 9, 10, 11, 12, 13] [2,0,4,2,4,2,3,0,3] [0, 1] rfl Efol (by kernel_rfl) (by simp) ?_
      refine DRun.build0 rfl rfl rfl rfl rfl rfl (by decide) ?_
      simp
      refine DRun.dv rfl ?_
      simp
      refine DRun.dv rfl ?_
      simp
      refine DRun.appendX (ys := k.weighs.map eWg) rfl rfl rfl rfl rfl rfl rfl rfl (by decide) rfl rfl rfl (by simp [hwz]) rfl (by simp; omega) (by simp) ?_
      simp
      refine DRun.dv rfl ?_
      simp
      refine DRun.dv rfl ?_
      simp
      refine DRun.dv rfl ?_
      simp
      refine ⟨by omega, ?_⟩
      refine DRun.dv rfl ?_
      simp
      refine DRun.dv rfl ?_
      simp [eKn_own]
      refine DRun.nil ?_
      simp
      refine (leads_freezeC (q := 5) (j := 3) (i := 4) rfl rfl (by decide) (by simp)).trans ?_
      have hm := more_lit k w
      simp
      rw [← hm]
      exact leads_cutK (n := 4) (ks := [4, 9, 10, 11, 12, 13]) (by simp [cutOK, hpl])
    
    refine sq ?_
    refine at_regK [4, 9, 10, 11, 12, 14, 15] rfl ?_
    try simp [h00, o_i, f_a, wa, wb, nn, hu, hv, ← he, ← he2, ← hp, ← hq]
    refine (c50 (moreW k w) hkm u v).use hH ?_
    try simp [h00, o_i, f_a, wa, wb, nn, hu, hv, ← he, ← he2, ← hp, ← hq]
    refine sq ?_
    refine sq ?_
    refine at_regK [4, 9, 10, 11, 12, 100] rfl ?_
    try simp [h00, o_i, f_a, wa, wb, nn, hu, hv, ← he, ← he2, ← hp, ← hq]
    refine pops_split 82 rfl (fun hg3 => ?_) (fun hg3 => ?_)
    ·
     have hez : e = 0 := by simpa using hg3
     subst hez
     have hF : fin? (netM k []) u = true := by
      cases h : fin? (netM k []) u with
      | true => rfl
      | false => rw [h] at he9; simp at he9
     obtain ⟨r2, r3⟩ := rests_ok hck u0 u1 v0 v1 hF
     obtain ⟨rl, hrl⟩ : ∃ rl, rl = (restsM k u v).1 := ⟨_, rfl⟩
     rw [← hrl] at r3
     have rll : rl.length ≤ 100 := by
      have e0 := rests_len k u v
      rw [hrl]; omega
     have hpm : p.most = dst (netM k []) u v := by rw [hp]; exact m1 hF
     try simp [h00, o_i, f_a, wa, wb, nn, hu, hv, ← he, ← he2, ← hp, ← hq, r2, ← hrl, hg3]
     refine pops_split 86 rfl (fun hg4 => ?_) (fun hg4 => ?_)
     ·
      have h2 : e2 = 0 := by simpa using hg4
      have hng : ¬ p.most < q.most := by have := (hmo h2).2; omega
      try simp [h00, o_i, f_a, wa, wb, nn, hu, hv, ← he, ← he2, ← hp, ← hq, r2, ← hrl, hng, hg4]
      refine at_cond rfl rfl (fun hb100 => by simp at hb100) (fun hb100 => ?_)
      refine at_skip (by kernel_rfl) ?_
      try simp [h00, o_i, f_a, wa, wb, nn, hu, hv, ← he, ← he2, ← hp, ← hq, r2, ← hrl, hng]
      refine sq ?_
      refine sq ?_
      refine at_regK [4, 9, 10, 11, 102] rfl ?_
      try simp [h00, o_i, f_a, wa, wb, nn, hu, hv, ← he, ← he2, ← hp, ← hq, r2, ← hrl, hng]
      refine at_cond rfl rfl (fun hb102 => by simp at hb102) (fun hb102 => ?_)
      refine at_skip (by kernel_rfl) ?_
      try simp [h00, o_i, f_a, wa, wb, nn, hu, hv, ← he, ← he2, ← hp, ← hq, r2, ← hrl, hng]
      refine sq ?_
      refine at_regK [4, 9, 10, 11, 24, 25] rfl ?_
      try simp [h00, o_i, f_a, wa, wb, nn, hu, hv, ← he, ← he2, ← hp, ← hq, r2, ← hrl, hng]
      refine (c41 k hk (fun _ => by omega) u v).use hH ?_
      try simp [h00, o_i, f_a, wa, wb, nn, hu, hv, ← he, ← he2, ← hp, ← hq, r2, ← hrl, hng]
      refine sq ?_
      refine sq ?_
      refine at_regK [4, 9, 10, 11, 24, 144] rfl ?_
      try simp [h00, o_i, f_a, wa, wb, nn, hu, hv, ← he, ← he2, ← hp, ← hq, r2, ← hrl, hng]
      refine at_cond rfl rfl (fun hb144 => by simp at hb144) (fun hb144 => ?_)
      refine at_skip (by kernel_rfl) ?_
      try simp [h00, o_i, f_a, wa, wb, nn, hu, hv, ← he, ← he2, ← hp, ← hq, r2, ← hrl, hng]
      refine sq ?_
      refine sq ?_
      refine at_regC 3 [4, 9, 10, 11, 24, 146, 147, 148] rfl ?_
      try simp [h00, o_i, f_a, wa, wb, nn, hu, hv, ← he, ← he2, ← hp, ← hq, r2, ← hrl, hng]
      refine at_block rfl ?_
      refine at_count k.weighs.length (fun i s => s = ⟨[(4, .ref false 0 0 [] 0), (9, I u), (10, I v), (11, .ref false 2 0 [] 0), (24, eInts rl), (146, eWgs k.weighs), (147, I k.weighs.length), (148, I i)], [.cell (eKn k), .cell (eWg w), .cell (eCh p)], H⟩) rfl rfl ?_
      rintro i s hi rfl
      refine sq ?_
      refine at_regK [4, 9, 10, 11, 24, 146, 147, 148, 149] rfl ?_
      try simp [h00, o_i, f_a, wa, wb, nn, hu, hv, ← he, ← he2, ← hp, ← hq, r2, ← hrl, hng]
      refine sq ?_
      refine at_cond rfl rfl (fun hb149 => ?_) (fun hb149 => ?_)
      ·
       try simp at hb149
       obtain ⟨x, hx⟩ : ∃ x, k.weighs[i]? = some x := ⟨_, List.getElem?_eq_getElem (by omega)⟩
       have i0 : (i : Int) < k.weighs.length := by omega
       have hxm := List.mem_of_getElem? hx
       obtain ⟨g1, g2, g3⟩ := less_ok hck u0 u1 v0 v1 hF x.id
       have hd : decide (x.id ∈ rl) = ((aboveC (withoutM k [x.id]) u v).1.most != p.most) := by
        rw [g3, hpm, Bool.eq_iff_iff, decide_eq_true_eq, r3 x hxm]
        simp
       refine at_skip (by kernel_rfl) ?_
       try simp [h00, o_i, f_a, wa, wb, nn, hu, hv, ← he, ← he2, ← hp, ← hq, r2, ← hrl, hng, hx, i0, g2, hd]
       refine sq ?_
       refine at_block rfl ?_
       refine sq ?_
       refine at_regK [4, 9, 10, 11, 24, 27, 146, 147, 148] rfl ?_
       try simp [h00, o_i, f_a, wa, wb, nn, hu, hv, ← he, ← he2, ← hp, ← hq, r2, ← hrl, hng, hx, i0, g2, hd]
       refine sq ?_
       refine at_regK [4, 9, 10, 11, 24, 27, 28, 29, 146, 147, 148] rfl ?_
       try simp [h00, o_i, f_a, wa, wb, nn, hu, hv, ← he, ← he2, ← hp, ← hq, r2, ← hrl, hng, hx, i0, g2, hd]
       refine (c45 k hk [x.id] (by simp)).use hH ?_
       rw [g1]
       try simp [h00, o_i, f_a, wa, wb, nn, hu, hv, ← he, ← he2, ← hp, ← hq, r2, ← hrl, hng, hx, i0, g2, hd]
       refine sq ?_
       refine at_regK [4, 9, 10, 11, 24, 27, 29, 30, 31, 146, 147, 148] rfl ?_
       try simp [h00, o_i, f_a, wa, wb, nn, hu, hv, ← he, ← he2, ← hp, ← hq, r2, ← hrl, hng, hx, i0, g2, hd]
       refine (c50 (withoutM k [x.id]) (few_without hk _) u v).use hH ?_
       try simp [h00, o_i, f_a, wa, wb, nn, hu, hv, ← he, ← he2, ← hp, ← hq, r2, ← hrl, hng, hx, i0, g2, hd]
       refine sq ?_
       refine at_draw [4, 9, 10, 11, 24, 146, 147, 148, 184] [0, 0, 0, 0, 0, 0, 0, 0, 1, 0, 1, 0, 0, 0, 1, 1, 0, 0] [] rfl Efol (by kernel_rfl) (by simp) ?_
       try simp [h00, o_i, f_a, wa, wb, nn, hu, hv, ← he, ← he2, ← hp, ← hq, r2, ← hrl, hng, hx, i0, g2, hd]
       refine (c32 rl (by omega) x.id).draw hH ?_
       try simp [h00, o_i, f_a, wa, wb, nn, hu, hv, ← he, ← he2, ← hp, ← hq, r2, ← hrl, hng, hx, i0, g2, hd]
       refine at_cond rfl rfl (fun hb184 => by simp at hb184) (fun hb184 => ?_)
       refine at_skip (by kernel_rfl) ?_
       try simp [h00, o_i, f_a, wa, wb, nn, hu, hv, ← he, ← he2, ← hp, ← hq, r2, ← hrl, hng, hx, i0, g2, hd]
       refine at_regC 3 [4, 9, 10, 11, 24, 146, 147, 148] rfl ?_
       try simp [h00, o_i, f_a, wa, wb, nn, hu, hv, ← he, ← he2, ← hp, ← hq, r2, ← hrl, hng, hx, i0, g2, hd]
       exact ⟨by omega, wrap_id (by omega) (by omega)⟩
      ·
       try simp at hb149
       refine at_exit rfl ?_
       try simp [h00, o_i, f_a, wa, wb, nn, hu, hv, ← he, ← he2, ← hp, ← hq, r2, ← hrl, hng]
       refine sq ?_
       refine at_regK [8] rfl ?_
       try simp [h00, o_i, f_a, wa, wb, nn, hu, hv, ← he, ← he2, ← hp, ← hq, r2, ← hrl, hng]
       refine c17.use hH ?_
       try simp [h00, o_i, f_a, wa, wb, nn, hu, hv, ← he, ← he2, ← hp, ← hq, r2, ← hrl, hng]
       refine at_ret (by kernel_rfl) ?_
       try simp [h00, o_i, f_a, wa, wb, nn, hu, hv, ← he, ← he2, ← hp, ← hq, r2, ← hrl, hng]
     ·
      try simp [h00, o_i, f_a, wa, wb, nn, hu, hv, ← he, ← he2, ← hp, ← hq, r2, ← hrl, hg4]
      refine at_cond rfl rfl (fun hb100 => by simp at hb100) (fun hb100 => ?_)
      refine at_skip (by kernel_rfl) ?_
      try simp [h00, o_i, f_a, wa, wb, nn, hu, hv, ← he, ← he2, ← hp, ← hq, r2, ← hrl]
      refine sq ?_
      refine sq ?_
      refine at_regK [4, 9, 10, 11, 102] rfl ?_
      try simp [h00, o_i, f_a, wa, wb, nn, hu, hv, ← he, ← he2, ← hp, ← hq, r2, ← hrl]
      refine at_cond rfl rfl (fun hb102 => by simp at hb102) (fun hb102 => ?_)
      refine at_skip (by kernel_rfl) ?_
      try simp [h00, o_i, f_a, wa, wb, nn, hu, hv, ← he, ← he2, ← hp, ← hq, r2, ← hrl]
      refine sq ?_
      refine at_regK [4, 9, 10, 11, 24, 25] rfl ?_
      try simp [h00, o_i, f_a, wa, wb, nn, hu, hv, ← he, ← he2, ← hp, ← hq, r2, ← hrl]
      refine (c41 k hk (fun _ => by omega) u v).use hH ?_
      try simp [h00, o_i, f_a, wa, wb, nn, hu, hv, ← he, ← he2, ← hp, ← hq, r2, ← hrl]
      refine sq ?_
      refine sq ?_
      refine at_regK [4, 9, 10, 11, 24, 144] rfl ?_
      try simp [h00, o_i, f_a, wa, wb, nn, hu, hv, ← he, ← he2, ← hp, ← hq, r2, ← hrl]
      refine at_cond rfl rfl (fun hb144 => by simp at hb144) (fun hb144 => ?_)
      refine at_skip (by kernel_rfl) ?_
      try simp [h00, o_i, f_a, wa, wb, nn, hu, hv, ← he, ← he2, ← hp, ← hq, r2, ← hrl]
      refine sq ?_
      refine sq ?_
      refine at_regC 3 [4, 9, 10, 11, 24, 146, 147, 148] rfl ?_
      try simp [h00, o_i, f_a, wa, wb, nn, hu, hv, ← he, ← he2, ← hp, ← hq, r2, ← hrl]
      refine at_block rfl ?_
      refine at_count k.weighs.length (fun i s => s = ⟨[(4, .ref false 0 0 [] 0), (9, I u), (10, I v), (11, .ref false 2 0 [] 0), (24, eInts rl), (146, eWgs k.weighs), (147, I k.weighs.length), (148, I i)], [.cell (eKn k), .cell (eWg w), .cell (eCh p)], H⟩) rfl rfl ?_
      rintro i s hi rfl
      refine sq ?_
      refine at_regK [4, 9, 10, 11, 24, 146, 147, 148, 149] rfl ?_
      try simp [h00, o_i, f_a, wa, wb, nn, hu, hv, ← he, ← he2, ← hp, ← hq, r2, ← hrl]
      refine sq ?_
      refine at_cond rfl rfl (fun hb149 => ?_) (fun hb149 => ?_)
      ·
       try simp at hb149
       obtain ⟨x, hx⟩ : ∃ x, k.weighs[i]? = some x := ⟨_, List.getElem?_eq_getElem (by omega)⟩
       have i0 : (i : Int) < k.weighs.length := by omega
       have hxm := List.mem_of_getElem? hx
       obtain ⟨g1, g2, g3⟩ := less_ok hck u0 u1 v0 v1 hF x.id
       have hd : decide (x.id ∈ rl) = ((aboveC (withoutM k [x.id]) u v).1.most != p.most) := by
        rw [g3, hpm, Bool.eq_iff_iff, decide_eq_true_eq, r3 x hxm]
        simp
       refine at_skip (by kernel_rfl) ?_
       try simp [h00, o_i, f_a, wa, wb, nn, hu, hv, ← he, ← he2, ← hp, ← hq, r2, ← hrl, hx, i0, g2, hd]
       refine sq ?_
       refine at_block rfl ?_
       refine sq ?_
       refine at_regK [4, 9, 10, 11, 24, 27, 146, 147, 148] rfl ?_
       try simp [h00, o_i, f_a, wa, wb, nn, hu, hv, ← he, ← he2, ← hp, ← hq, r2, ← hrl, hx, i0, g2, hd]
       refine sq ?_
       refine at_regK [4, 9, 10, 11, 24, 27, 28, 29, 146, 147, 148] rfl ?_
       try simp [h00, o_i, f_a, wa, wb, nn, hu, hv, ← he, ← he2, ← hp, ← hq, r2, ← hrl, hx, i0, g2, hd]
       refine (c45 k hk [x.id] (by simp)).use hH ?_
       rw [g1]
       try simp [h00, o_i, f_a, wa, wb, nn, hu, hv, ← he, ← he2, ← hp, ← hq, r2, ← hrl, hx, i0, g2, hd]
       refine sq ?_
       refine at_regK [4, 9, 10, 11, 24, 27, 29, 30, 31, 146, 147, 148] rfl ?_
       try simp [h00, o_i, f_a, wa, wb, nn, hu, hv, ← he, ← he2, ← hp, ← hq, r2, ← hrl, hx, i0, g2, hd]
       refine (c50 (withoutM k [x.id]) (few_without hk _) u v).use hH ?_
       try simp [h00, o_i, f_a, wa, wb, nn, hu, hv, ← he, ← he2, ← hp, ← hq, r2, ← hrl, hx, i0, g2, hd]
       refine sq ?_
       refine at_draw [4, 9, 10, 11, 24, 146, 147, 148, 184] [0, 0, 0, 0, 0, 0, 0, 0, 1, 0, 1, 0, 0, 0, 1, 1, 0, 0] [] rfl Efol (by kernel_rfl) (by simp) ?_
       try simp [h00, o_i, f_a, wa, wb, nn, hu, hv, ← he, ← he2, ← hp, ← hq, r2, ← hrl, hx, i0, g2, hd]
       refine (c32 rl (by omega) x.id).draw hH ?_
       try simp [h00, o_i, f_a, wa, wb, nn, hu, hv, ← he, ← he2, ← hp, ← hq, r2, ← hrl, hx, i0, g2, hd]
       refine at_cond rfl rfl (fun hb184 => by simp at hb184) (fun hb184 => ?_)
       refine at_skip (by kernel_rfl) ?_
       try simp [h00, o_i, f_a, wa, wb, nn, hu, hv, ← he, ← he2, ← hp, ← hq, r2, ← hrl, hx, i0, g2, hd]
       refine at_regC 3 [4, 9, 10, 11, 24, 146, 147, 148] rfl ?_
       try simp [h00, o_i, f_a, wa, wb, nn, hu, hv, ← he, ← he2, ← hp, ← hq, r2, ← hrl, hx, i0, g2, hd]
       exact ⟨by omega, wrap_id (by omega) (by omega)⟩
      ·
       try simp at hb149
       refine at_exit rfl ?_
       try simp [h00, o_i, f_a, wa, wb, nn, hu, hv, ← he, ← he2, ← hp, ← hq, r2, ← hrl]
       refine sq ?_
       refine at_regK [8] rfl ?_
       try simp [h00, o_i, f_a, wa, wb, nn, hu, hv, ← he, ← he2, ← hp, ← hq, r2, ← hrl]
       refine c17.use hH ?_
       try simp [h00, o_i, f_a, wa, wb, nn, hu, hv, ← he, ← he2, ← hp, ← hq, r2, ← hrl]
       refine at_ret (by kernel_rfl) ?_
       try simp [h00, o_i, f_a, wa, wb, nn, hu, hv, ← he, ← he2, ← hp, ← hq, r2, ← hrl]
    ·
     have hez : ¬ e = 0 := by simpa using hg3
     have hF : fin? (netM k []) u = false := by
      cases h : fin? (netM k []) u with
      | false => rfl
      | true => rw [h] at he9; exact (hez (by simpa using he9)).elim
     have hez9 : e = 9 := by rw [he9, hF]; rfl
     subst hez9
     have h20a : ¬ e2 = 0 := fun h => by rw [(hmo h).1] at hF; cases hF
     have h20 : (e2 == 0) = false := by simpa using h20a
     obtain ⟨s2, s3⟩ := suspects_ok hck (by rw [hF0]; exact hF)
     obtain ⟨sl, hsl⟩ : ∃ sl, sl = (suspectsM k).1 := ⟨_, rfl⟩
     rw [← hsl] at s3
     have sll : sl.length ≤ 100 := by
      have e0 : (suspectsM k).1.length ≤ k.weighs.length := sus_len k
      rw [hsl]; omega
     try simp [h00, o_i, f_a, wa, wb, nn, hu, hv, ← he, ← he2, ← hp, ← hq, h20, s2, ← hsl, hg3]
     refine at_cond rfl rfl (fun hb100 => by simp at hb100) (fun hb100 => ?_)
     refine at_skip (by kernel_rfl) ?_
     try simp [h00, o_i, f_a, wa, wb, nn, hu, hv, ← he, ← he2, ← hp, ← hq, h20, s2, ← hsl]
     refine sq ?_
     refine sq ?_
     refine at_regK [4, 9, 10, 11, 102] rfl ?_
     try simp [h00, o_i, f_a, wa, wb, nn, hu, hv, ← he, ← he2, ← hp, ← hq, h20, s2, ← hsl]
     refine at_cond rfl rfl (fun hb102 => ?_) (fun hb102 => by simp at hb102)
     refine sq ?_
     refine at_regK [4, 16, 17] rfl ?_
     try simp [h00, o_i, f_a, wa, wb, nn, hu, hv, ← he, ← he2, ← hp, ← hq, h20, s2, ← hsl]
     refine (c43 k hk (fun _ => by omega)).use hH ?_
     try simp [h00, o_i, f_a, wa, wb, nn, hu, hv, ← he, ← he2, ← hp, ← hq, h20, s2, ← hsl]
     refine sq ?_
     refine sq ?_
     refine at_regK [4, 16, 109] rfl ?_
     try simp [h00, o_i, f_a, wa, wb, nn, hu, hv, ← he, ← he2, ← hp, ← hq, h20, s2, ← hsl]
     refine at_cond rfl rfl (fun hb109 => by simp at hb109) (fun hb109 => ?_)
     refine at_skip (by kernel_rfl) ?_
     try simp [h00, o_i, f_a, wa, wb, nn, hu, hv, ← he, ← he2, ← hp, ← hq, h20, s2, ← hsl]
     refine sq ?_
     refine sq ?_
     refine at_regC 3 [4, 110, 111, 112] rfl ?_
     try simp [h00, o_i, f_a, wa, wb, nn, hu, hv, ← he, ← he2, ← hp, ← hq, h20, s2, ← hsl]
     refine at_block rfl ?_
     refine at_count sl.length (fun i s => s = ⟨[(4, .ref false 0 0 [] 0), (110, eInts sl), (111, I sl.length), (112, I i)], [.cell (eKn k), .cell (eWg w), .cell (eCh p)], H⟩) rfl rfl ?_
     rintro i s hi rfl
     refine sq ?_
     refine at_regK [4, 110, 111, 112, 113] rfl ?_
     try simp [h00, o_i, f_a, wa, wb, nn, hu, hv, ← he, ← he2, ← hp, ← hq, h20, s2, ← hsl]
     refine sq ?_
     refine at_cond rfl rfl (fun hb113 => ?_) (fun hb113 => ?_)
     ·
      try simp at hb113
      obtain ⟨x, hx⟩ : ∃ x, sl[i]? = some x := ⟨_, List.getElem?_eq_getElem (by omega)⟩
      have i0 : (i : Int) < sl.length := by omega
      obtain ⟨g1, g2⟩ := s3 x (List.mem_of_getElem? hx)
      refine at_skip (by kernel_rfl) ?_
      try simp [h00, o_i, f_a, wa, wb, nn, hu, hv, ← he, ← he2, ← hp, ← hq, h20, s2, ← hsl, hx, i0, g1]
      refine sq ?_
      refine at_block rfl ?_
      refine sq ?_
      refine at_regK [4, 19, 110, 111, 112] rfl ?_
      try simp [h00, o_i, f_a, wa, wb, nn, hu, hv, ← he, ← he2, ← hp, ← hq, h20, s2, ← hsl, hx, i0, g1]
      refine sq ?_
      refine at_regK [4, 20, 21, 110, 111, 112] rfl ?_
      try simp [h00, o_i, f_a, wa, wb, nn, hu, hv, ← he, ← he2, ← hp, ← hq, h20, s2, ← hsl, hx, i0, g1]
      refine (c45 k hk [x] (by simp)).use hH ?_
      rw [g2]
      try simp [h00, o_i, f_a, wa, wb, nn, hu, hv, ← he, ← he2, ← hp, ← hq, h20, s2, ← hsl, hx, i0, g1]
      refine sq ?_
      refine at_regK [4, 21, 23, 110, 111, 112] rfl ?_
      try simp [h00, o_i, f_a, wa, wb, nn, hu, hv, ← he, ← he2, ← hp, ← hq, h20, s2, ← hsl, hx, i0, g1]
      refine (c29 (withoutM k [x]) (few_without hk _)).use hH ?_
      try simp [h00, o_i, f_a, wa, wb, nn, hu, hv, ← he, ← he2, ← hp, ← hq, h20, s2, ← hsl, hx, i0, g1]
      refine sq ?_
      refine at_regK [4, 110, 111, 112, 133] rfl ?_
      try simp [h00, o_i, f_a, wa, wb, nn, hu, hv, ← he, ← he2, ← hp, ← hq, h20, s2, ← hsl, hx, i0, g1]
      refine at_cond rfl rfl (fun hb133 => by simp at hb133) (fun hb133 => ?_)
      refine at_skip (by kernel_rfl) ?_
      try simp [h00, o_i, f_a, wa, wb, nn, hu, hv, ← he, ← he2, ← hp, ← hq, h20, s2, ← hsl, hx, i0, g1]
      refine at_regC 3 [4, 110, 111, 112] rfl ?_
      try simp [h00, o_i, f_a, wa, wb, nn, hu, hv, ← he, ← he2, ← hp, ← hq, h20, s2, ← hsl, hx, i0, g1]
      exact ⟨by omega, wrap_id (by omega) (by omega)⟩
     ·
      try simp at hb113
      refine at_exit rfl ?_
      try simp [h00, o_i, f_a, wa, wb, nn, hu, hv, ← he, ← he2, ← hp, ← hq, h20, s2, ← hsl]
      refine sq ?_
      refine at_regK [8] rfl ?_
      try simp [h00, o_i, f_a, wa, wb, nn, hu, hv, ← he, ← he2, ← hp, ← hq, h20, s2, ← hsl]
      refine c17.use hH ?_
      try simp [h00, o_i, f_a, wa, wb, nn, hu, hv, ← he, ← he2, ← hp, ← hq, h20, s2, ← hsl]
      refine at_ret (by kernel_rfl) ?_
      try simp [h00, o_i, f_a, wa, wb, nn, hu, hv, ← he, ← he2, ← hp, ← hq, h20, s2, ← hsl]
end Go.Abs
