/- What this law alone rests on. -/
import Derived.Test.YtaapndcljpcelaaGreatP5
/- A copy of a slice: what is appended to an empty literal; such copies frozen where they lie. -/
set_option linter.unusedVariables false
set_option linter.unusedSimpArgs false
namespace Go.Abs
open Go.RowKit

/-- A row that is a copy: without room if it is empty. -/
def rowX (sz : Nat) (ys : List AV) : AO := if ys = [] then .xrow sz [] else .row sz ys
def rowXf (sz : Nat) (ys : List AV) : AO := if ys = [] then .xrow sz [] else .frow sz ys
theorem rowX_ne {sz : Nat} {ys : List AV} (h : ys ≠ []) : rowX sz ys = .row sz ys := if_neg h
@[simp] theorem rowX_ver (sz : Nat) (ys : List AV) : (rowX sz ys).ver = ys.length := by
  unfold rowX
  split
  · rename_i h; subst h; rfl
  · rfl
theorem sima_copyX {x : X} {o : Oper} {s : AS} {y q : Operand} {t t2 e e2 : TypeId} {esz esz2 : Nat} {i i2 ie : TI} {j : Nat} {ys : List AV} (h : o.op = .call { callee := .builtin .append, args := #[y, q], argTypes := #[t, t2] }) (hi : x.ti t = some i) (hk : i.k = .slice esz e) (hi2 : x.ti t2 = some i2) (hk2 : i2.k = .slice esz2 e2) (he : x.ti e = some ie)
    (hz : ie.zero.size = esz) (hb : 0 < ie.bytes) (hy : s.ev y = .own false j 0) (hrow : s.loc[j]? = some (.xrow esz [])) (hq : s.elems esz (s.ev q) = some ys) (hfit : ys.length * ie.bytes ≤ 140737488355328) :
    SimA x.P o s (.own false s.loc.length ys.length) (rowX esz ys) := by
  by_cases hys : ys = []
  · subst hys
    intro c ρ hM ho
    have hkc := (tok x hi).k
    rw [hk] at hkc
    obtain ⟨hu, hsz⟩ := k_slice hkc
    have hkc2 := (tok x hi2).k
    rw [hk2] at hkc2
    obtain ⟨hu2, _⟩ := k_slice hkc2
    obtain ⟨inf, z, h1, h2, h3, h4, cs, h5, h6, h7⟩ := (tok x he).inf
    have hyv := ho y (by simp [h, Op.operands, Call.operands])
    rw [hy] at hyv
    obtain ⟨sa, scap, hl, hn0, hvy⟩ := VR_own hyv
    obtain ⟨a, cap, css, hvq, k1, k2, k3⟩ := elems_cells hM (ho q (by simp [h, Op.operands, Call.operands])) hq
    have hob := hM.obj false j (.xrow esz []) _ (by simpa [AS.mem] using hrow) hl
    obtain ⟨h0, hpos, css0, b5, hcap, hcm, _⟩ := hob
    simp only [List.length_nil] at hcap
    subst hcap
    have hr := app_room (P := x.P) (ty := o.type) hu hu2 h1 (w := c.w) (w' := c.w) (sa := sa) (n := 0) (cap := 0) (m := 0) (x := .slice a 0 cap) (news := []) (fun w => lenOf_run w) (by cases a <;> simp [Builtin.firstCells, loadCells, loadCellsFrom]) (by omega) (by cases sa with | none => rfl | some ad => simp [storeCells])
    have hp := push_obj hM false (o := .xrow esz []) (pl := (sa, 0)) (Turn.refl c.w (fun _ => False)) ⟨by simp, hpos, [], by rw [CRs], rfl, by simp [maxLen], fun h => (h rfl).elim⟩ ?_
    · have hp1 := hp.1
      have hp2 := hp.2
      rw [← AS.mem_push] at hp1 hp2
      refine ⟨.slice sa 0 0, _, _, ?_, ⟨[.slice sa 0 0], ?_, rfl⟩, hp1, hp2, rfl, rfl, Turn.refl _ _⟩
      · simp [execOp, h, resolve, invoke, builtin, hvy, hvq] at hr ⊢
        rw [hr]; rfl
      · rw [CR]
        refine ⟨sa, 0, ?_, ⟨fun _ => rfl, Nat.le_refl _⟩, rfl⟩
        rw [← mem_len_false]
        exact updL_same _ _ _ _ _
    · intro ho; simp [AO.owned] at ho
  · rw [rowX_ne hys]
    have := sima_appendX h hi hk hi2 hk2 he hz hb hy hrow rfl hys hq (by simpa using hfit)
    simpa using this
theorem DRun.copyX {x : X} {ops : List Oper} {J : List Nat} {K : AS → Prop} {o : Oper} {rest : List Oper} {cs : List Nat} {s : AS} {y q : Operand} {t t2 e e2 : TypeId} {esz esz2 : Nat} {i i2 ie : TI} {j : Nat} {ys : List AV} (hg : o.guard = none) (h : o.op = .call { callee := .builtin .append, args := #[y, q], argTypes := #[t, t2] }) (hi : x.ti t = some i) (hk : i.k = .slice esz e) (hi2 : x.ti t2 = some i2) (hk2 : i2.k = .slice esz2 e2) (he : x.ti e = some ie)
    (hz : ie.zero.size = esz) (hb : 0 < ie.bytes) (hy : s.ev y = .own false j 0) (hrow : s.loc[j]? = some (.xrow esz [])) (hq : s.elems esz (s.ev q) = some ys) (hfit : ys.length * ie.bytes ≤ 140737488355328) (hok : AV.oks (pl s.loc.length) ys = true)
    (hK : DRun x ops J K rest cs ((s.push (rowX esz ys)).put o.dst (.own false s.loc.length ys.length))) : DRun x ops J K (o :: rest) (2 :: cs) s := by
  refine .cons (.make (by simp [wantA, hg]) rfl (fun i => .own false i ys.length) (rowX esz ys) rfl (fun L hL => ?_) (.inr (by rw [rowX_ver])) (by unfold rowX; split; rfl; exact hok) rfl) hK
  refine sima_copyX (s := ⟨s.t, L, s.H⟩) h hi hk hi2 hk2 he hz hb hy ?_ (elems_ext hL hq) hfit
  obtain ⟨T, rfl⟩ := hL
  rw [List.getElem?_append_left (List.getElem?_eq_some_iff.1 hrow).1]
  exact hrow
end Go.Abs
/- Copies in a variable's fields, frozen where they lie. -/
set_option linter.unusedVariables false
set_option linter.unusedSimpArgs false
namespace Go.Abs
open Go.RowKit

theorem cr_aggset {c d : Cx} (hle : c.le d) {u v : AV} (hconv : ∀ cs, CR c u cs → CR d v cs) {us : List AV} {k : Nat} (hk : us[k]? = some u) : ∀ cs, CR c (.agg us) cs → CR d (.agg (us.set k v)) cs := by
  intro cs h
  rw [CR] at h ⊢
  obtain ⟨css, h, e⟩ := h
  exact ⟨css, crs_set hle hconv hk h, e⟩
theorem leads_litX {s : AS} {q j sz : Nat} {o o' : AO} (hq : s.loc[q]? = some (.xrow sz [])) (hj : s.loc[j]? = some o) (hv : o'.ver = o.ver) (ho : o'.owned = o.owned)
    (hk : ∀ (c : Cx) pl, (∀ cs, CR c (.own false q 0) cs → CR c (.lit sz []) cs) → ObjAt c pl o → ObjAt c pl o') : Leads s ⟨s.t, s.loc.set j o', s.H⟩ := by
  intro x N c0 H0 c a h0 hi
  have hx : (s.mem false)[j]? = some o := hj
  have hconv : ∀ cs, CR c (.own false q 0) cs → CR c (.lit sz []) cs := by
    obtain ⟨d, e1, hM, hS, hle, _, _, h5⟩ := becomes_litX (s := s) hq c hi.mem
    intro cs hc
    rw [CR] at hc
    obtain ⟨a, cap, hl, hn, rfl⟩ := hc
    have hob := hi.mem.obj false q (.xrow sz []) (a, cap) hq hl
    obtain ⟨g0, gz, css, k1, k2, k3, k4⟩ := hob
    rw [CR]
    exact ⟨g0, a, cap, css, k1, rfl, Nat.le_of_eq k2.symm, k3, k4⟩
  obtain ⟨g1, g2⟩ := reobj hi.mem hx hv ho (fun pl h => hk c pl hconv h)
  have es : setM s.mem false j o' = (AS.mk s.t (s.loc.set j o') s.H).mem := by
    funext b
    cases b <;> simp [AS.mem, setM]
  rw [es] at g1 g2
  exact ⟨c, rfl, hi.step g2 g1 rfl⟩
/-- A copy in a variable is frozen. -/
theorem leads_freezeXO {s : AS} {q j sz : Nat} {ws vs vs' : List AV} (hq : s.loc[q]? = some (rowX sz ws)) (hj : s.loc[j]? = some (.cell (.agg vs))) (hne : j ≠ q)
    (hk : ∀ (c d : Cx), c.le d → (∀ cs, CR c (.own false q ws.length) cs → CR d (.lit sz ws) cs) → ∀ cs, CR c (.agg vs) cs → CR d (.agg vs') cs) : Leads s ⟨s.t, (s.loc.set q (rowXf sz ws)).set j (.cell (.agg vs')), s.H⟩ := by
  by_cases h : ws = []
  · subst h
    have e : rowX sz [] = .xrow sz [] := rfl
    have e2 : rowXf sz [] = .xrow sz [] := rfl
    rw [e] at hq
    have es : s.loc.set q (rowXf sz []) = s.loc := by
      rw [e2]
      have := List.getElem?_eq_some_iff.1 hq
      obtain ⟨h1, h2⟩ := this
      rw [← h2, List.set_getElem_self]
    rw [es]
    refine leads_litX hq hj rfl rfl ?_
    rintro c pl hconv ⟨m, t, cs, h1, h2, h3⟩
    exact ⟨m, t, cs, h1, hk c c (Cx.le.refl c) hconv cs h2, h3⟩
  · rw [rowX_ne h] at hq
    have e2 : rowXf sz ws = .frow sz ws := if_neg h
    rw [e2]
    refine leads_freezeO hq hj hne rfl rfl ?_
    rintro c d pl hle hw hconv ⟨m, t, cs, h1, h2, h3⟩
    exact ⟨m, t, cs, h1, hk c d hle hconv cs h2, by rw [hw]; exact h3⟩
theorem leads_freezeX1 {s : AS} {q j sz i : Nat} {ws vs : List AV} (hq : s.loc[q]? = some (rowX sz ws)) (hj : s.loc[j]? = some (.cell (.agg vs))) (hne : j ≠ q) (hi : vs[i]? = some (.own false q ws.length)) : Leads s ⟨s.t, (s.loc.set q (rowXf sz ws)).set j (.cell (.agg (vs.set i (.lit sz ws)))), s.H⟩ :=
  leads_freezeXO hq hj hne (fun c d hle hconv => cr_aggset hle hconv hi)
theorem leads_freezeX2 {s : AS} {q j sz i k : Nat} {ws vs us : List AV} (hq : s.loc[q]? = some (rowX sz ws)) (hj : s.loc[j]? = some (.cell (.agg vs))) (hne : j ≠ q) (hi : vs[i]? = some (.agg us)) (hk : us[k]? = some (.own false q ws.length)) : Leads s ⟨s.t, (s.loc.set q (rowXf sz ws)).set j (.cell (.agg (vs.set i (.agg (us.set k (.lit sz ws)))))), s.H⟩ :=
  leads_freezeXO hq hj hne (fun c d hle hconv => cr_aggset hle (cr_aggset hle hconv hk) hi)
end Go.Abs
/- More weighings, and fewer. -/
set_option linter.unusedVariables false
set_option linter.unusedSimpArgs false
namespace Go.Shaft
def moreW (k : Kn) (w : Wg) : Kn := { k with weighs := k.weighs ++ [w] }
theorem more_sub (k : Kn) (w : Wg) : ∀ t ∈ tiesM k, t ∈ tiesM (moreW k w) := by
  intro t ht
  have e3 : ties3 (moreW k w) = ties3 k ++ both (weighedM k w).1 (weighedM k w).2 w.sum w.id := by
    unfold ties3
    show List.flatMap _ (k.weighs ++ [w]) = _
    rw [List.flatMap_append]
    simp only [List.flatMap_cons, List.flatMap_nil, List.append_nil]
    rfl
  have e1 : ties1 (moreW k w) = ties1 k := rfl
  have e2 : ties2 (moreW k w) = ties2 k := rfl
  have e4 : ties4 (moreW k w) = ties4 k := rfl
  have e5 : ties5 (moreW k w) = ties5 k := rfl
  rw [tiesM, e1, e2, e3, e4, e5]
  simp only [tiesM, List.mem_append] at ht ⊢
  rcases ht with h | h | h | h | h
  · exact .inl h
  · exact .inr (.inl h)
  · exact .inr (.inr (.inl (.inl h)))
  · exact .inr (.inr (.inr (.inl h)))
  · exact .inr (.inr (.inr (.inr h)))
theorem less_sub (k : Kn) (ids : List Int) : ∀ t ∈ tiesM (withoutM k ids), t ∈ tiesM k := by
  intro t ht
  have e3 : ties3 (withoutM k ids) = (k.weighs.filter fun w => !decide (w.id ∈ ids)).flatMap fun w => both (weighedM k w).1 (weighedM k w).2 w.sum w.id := rfl
  have e1 : ties1 (withoutM k ids) = ties1 k := rfl
  have e2 : ties2 (withoutM k ids) = ties2 k := rfl
  have e4 : ties4 (withoutM k ids) = ties4 k := rfl
  have e5 : ties5 (withoutM k ids) = ties5 k := rfl
  rw [tiesM, e1, e2, e3, e4, e5] at ht
  simp only [tiesM, List.mem_append] at ht ⊢
  rcases ht with h | h | h | h | h
  · exact .inl h
  · exact .inr (.inl h)
  · refine .inr (.inr (.inl ?_))
    obtain ⟨w, hw, h⟩ := List.mem_flatMap.1 h
    exact List.mem_flatMap.2 ⟨w, (List.mem_filter.1 hw).1, h⟩
  · exact .inr (.inr (.inr (.inl h)))
  · exact .inr (.inr (.inr (.inr h)))
theorem feas_of_more {k : Kn} {w : Wg} {H : Int → Int} (f : Feas (netM (moreW k w) []) H) : Feas (netM k []) H := by
  intro t ht
  rw [links0] at ht
  exact f t (by rw [links0]; exact more_sub k w t ht)
theorem feas_less {k : Kn} {ids : List Int} {H : Int → Int} (f : Feas (netM k []) H) : Feas (netM (withoutM k ids) []) H := by
  intro t ht
  rw [links0] at ht
  exact f t (by rw [links0]; exact less_sub k ids t ht)
/-- What is told without an error. -/
theorem above_zero {k : Kn} {a b : Int} (h : (aboveC k a b).2 = 0) : check k = 0 ∧ (0 ≤ a ∧ a < marksM k) ∧ (0 ≤ b ∧ b < marksM k) ∧ fin? (netM k []) a = true ∧ (aboveC k a b).1.most = dst (netM k []) a b := by
  have hm : markedM k [a, b] = 0 := by
    refine Classical.byContradiction fun hn => ?_
    unfold aboveC at h
    rw [if_pos hn] at h
    exact hn h
  obtain ⟨hc, hin⟩ := marked_ok hm
  have ha := hin a (by simp)
  have hb := hin b (by simp)
  obtain ⟨e1, m1⟩ := aboveC_eq hc ha.1 ha.2 hb.1 hb.2
  have hF : fin? (netM k []) a = true := by
    cases hf : fin? (netM k []) a with
    | true => rfl
    | false => rw [h, hf] at e1; cases e1
  exact ⟨hc, ha, hb, hF, m1 hF⟩
/-- A further weighing moves no end outwards; what contradicts itself stays so. -/
theorem more_le {k : Kn} (hc : check k = 0) {w : Wg} {a b : Int} (h : (aboveC (moreW k w) a b).2 = 0) : fin? (netM k []) a = true ∧ (aboveC (moreW k w) a b).1.most ≤ (aboveC k a b).1.most := by
  obtain ⟨hc2, ha, hb, hF, hm⟩ := above_zero h
  have ha' : 0 ≤ a ∧ a < marksM k := ha
  have hb' : 0 ≤ b ∧ b < marksM k := hb
  have N := Net.base hc
  have N2 := Net.base hc2
  have f := feas_of_more (N2.feas ha.1 ha.2 hF)
  have hF2 := N.fin_of ha'.1 ha'.2 f
  have h1 := N.le ha'.1 ha'.2 hb'.1 hb'.2 f
  rw [N2.zero ha.1 ha.2 hF] at h1
  rw [hm, (aboveC_eq hc ha'.1 ha'.2 hb'.1 hb'.2).2 hF2]
  exact ⟨hF2, by omega⟩
theorem ins_mem (l : List Int) (x y : Int) : y ∈ insM l x ↔ y = x ∨ y ∈ l := by
  unfold insM
  rw [List.mem_append, List.mem_cons]
  have e : l = l.takeWhile (fun y => !decide (x < y)) ++ l.dropWhile (fun y => !decide (x < y)) := (List.takeWhile_append_dropWhile).symm
  constructor
  · rintro (h | h | h)
    · exact .inr (by rw [e]; exact List.mem_append_left _ h)
    · exact .inl h
    · exact .inr (by rw [e]; exact List.mem_append_right _ h)
  · rintro (h | h)
    · exact .inr (.inl h)
    · rw [e, List.mem_append] at h
      rcases h with h | h
      · exact .inl h
      · exact .inr (.inr h)
theorem sort_mem : ∀ (l acc : List Int) (y : Int), y ∈ l.foldl insM acc ↔ y ∈ l ∨ y ∈ acc
  | [], acc, y => by simp
  | x :: l, acc, y => by
    rw [List.foldl_cons, sort_mem l _ y, ins_mem, List.mem_cons]
    constructor
    · rintro (h | h | h)
      · exact .inl (.inr h)
      · exact .inl (.inl h)
      · exact .inr h
    · rintro ((h | h) | h)
      · exact .inr (.inl h)
      · exact .inl h
      · exact .inr (.inr h)
theorem sortM_mem (l : List Int) (y : Int) : y ∈ sortM l ↔ y ∈ l := by
  rw [sortM, sort_mem]
  simp
theorem chosen_mem (k : Kn) (is : Kn → Bool) (y : Int) : y ∈ chosenM k is ↔ (∃ w ∈ k.weighs, w.id = y) ∧ is (withoutM k [y]) = true := by
  rw [chosenM, sortM_mem, List.mem_filter, List.mem_map]
/-- The weighings on which it rests. -/
theorem rests_ok {k : Kn} (hc : check k = 0) {a b : Int} (a0 : 0 ≤ a) (a1 : a < marksM k) (b0 : 0 ≤ b) (b1 : b < marksM k) (hF : fin? (netM k []) a = true) : (restsM k a b).2 = 0 ∧ ∀ w ∈ k.weighs, (w.id ∈ (restsM k a b).1 ↔ dst (netM (withoutM k [w.id]) []) a b ≠ dst (netM k []) a b) := by
  have e : restsM k a b = (chosenM k (fun less => decide ((aboveM (netM less []) a b).1 ≠ (aboveM (netM k []) a b).1)), 0) := by
    unfold restsM
    rw [marked_two hc a0 a1 b0 b1, if_neg (by simp), if_neg]
    rw [above_eq]
    simp only [hF]
    simp
  rw [e]
  refine ⟨rfl, fun w hw => ?_⟩
  simp only
  rw [chosen_mem]
  simp only [above_eq, decide_eq_true_eq]
  exact ⟨fun h => of_decide_eq_true h.2, fun h => ⟨⟨w, hw, rfl⟩, decide_eq_true h⟩⟩
theorem less_ok {k : Kn} (hc : check k = 0) {a b : Int} (a0 : 0 ≤ a) (a1 : a < marksM k) (b0 : 0 ≤ b) (b1 : b < marksM k) (hF : fin? (netM k []) a = true) (id : Int) : (withoutE k [id]) = (withoutM k [id], 0) ∧ (aboveC (withoutM k [id]) a b).2 = 0 ∧ (aboveC (withoutM k [id]) a b).1.most = dst (netM (withoutM k [id]) []) a b := by
  have hc2 := check_without hc [id]
  have N := Net.base hc
  have N2 := Net.base hc2
  have hF2 : fin? (netM (withoutM k [id]) []) a = true := N2.fin_of (k := withoutM k [id]) a0 a1 (feas_less (N.feas a0 a1 hF))
  obtain ⟨e1, m1⟩ := aboveC_eq (k := withoutM k [id]) hc2 a0 a1 b0 b1
  exact ⟨by rw [withoutE, if_neg (by simp [hc])], by rw [e1, if_pos hF2], m1 hF2⟩
theorem suspects_ok {k : Kn} (hc : check k = 0) (hF : fin? (netM k []) 0 = false) : (suspectsM k).2 = 0 ∧ ∀ id ∈ (suspectsM k).1, (findM (withoutM k [id])).2 = 0 ∧ withoutE k [id] = (withoutM k [id], 0) := by
  have e : suspectsM k = (chosenM k (fun less => (aboveM (netM less []) 0 0).2), 0) := by
    unfold suspectsM
    rw [if_neg (by simp [hc]), if_neg]
    rw [above_eq]
    simp [hF]
  rw [e]
  refine ⟨rfl, fun id h => ?_⟩
  obtain ⟨_, h⟩ := (chosen_mem k (fun less => (aboveM (netM less []) 0 0).2) id).1 h
  have hc2 := check_without hc [id]
  refine ⟨?_, by rw [withoutE, if_neg (by simp [hc])]⟩
  unfold findM
  rw [if_neg (by simp [hc2]), if_pos]
  rw [above_eq] at h
  exact h
theorem chosen_len (k : Kn) (is : Kn → Bool) : (chosenM k is).length ≤ k.weighs.length := by
  rw [chosenM, sortM_len]
  refine Nat.le_trans (List.length_filter_le _ _) ?_
  simp
theorem sus_len (k : Kn) : (suspectsM k).1.length ≤ k.weighs.length := by
  unfold suspectsM
  split
  · simp
  · split
    · simp
    · exact chosen_len k (fun less => (aboveM (netM less []) 0 0).2)
theorem rests_len (k : Kn) (a b : Int) : (restsM k a b).1.length ≤ k.weighs.length := by
  unfold restsM
  split
  · simp
  · split
    · simp
    · exact chosen_len k (fun less => decide ((aboveM (netM less []) a b).1 ≠ (aboveM (netM k []) a b).1))
end Go.Shaft
/- True weights: what is told of loads and draws holds of them. -/
set_option linter.unusedVariables false
set_option linter.unusedSimpArgs false
namespace Go.Shaft
def inS (n : Int) (s : Sp) : Bool := decide (s.lo ≤ n ∧ n ≤ s.hi)
/-- The height of a mark, by weights. -/
def hgtM (k : Kn) (t : Tr) (m : Int) : Int := if m ≤ k.loads.length then pfx t.loads m.toNat else pfx t.draws (m - k.loads.length).toNat
theorem hgt_b {k : Kn} {t : Tr} (ht : TrOk k t) {m : Int} (h : m ≤ 60) : 0 ≤ hgtM k t m ∧ hgtM k t m ≤ 1006632960 := by
  unfold hgtM
  split
  · have := pfx_bound ht.l m.toNat; omega
  · have := pfx_bound ht.d (m - k.loads.length).toNat; omega
def takenM (k : Kn) (t : Tr) (j i : Int) : Int := mxI 0 (mnI (hgtM k t (i + 1)) (hgtM k t (k.loads.length + j + 1)) - mxI (hgtM k t i) (if 0 < j then hgtM k t (k.loads.length + j) else 0))
theorem tdiv_b {z d : Int} (d0 : 1 ≤ d) (z0 : -1125899906842624 ≤ z) (z1 : z ≤ 1125899906842624) : -1125899906842624 ≤ z.tdiv d ∧ z.tdiv d ≤ 1125899906842624 := by
  rcases Int.lt_or_le z 0 with h | h
  · obtain ⟨p, rfl⟩ : ∃ p, z = -p := ⟨-z, by omega⟩
    rw [Int.neg_tdiv, Int.tdiv_eq_ediv_of_nonneg (by omega)]
    have h1 := Int.ediv_le_self d (show 0 ≤ p by omega)
    have h2 := Int.ediv_nonneg (show 0 ≤ p by omega) (show 0 ≤ d by omega)
    omega
  · rw [Int.tdiv_eq_ediv_of_nonneg h]
    have h1 := Int.ediv_le_self d h
    have h2 := Int.ediv_nonneg h (show 0 ≤ d by omega)
    omega

theorem floor_eq (n d : Int) (d0 : 0 < d) : (if n.tmod d < 0 then n.tdiv d - 1 else n.tdiv d) = floorM n d := by
  unfold floorM
  rcases Int.lt_or_le n 0 with h | h
  · rw [if_pos h]
    obtain ⟨p, rfl⟩ : ∃ p, n = -p := ⟨-n, by omega⟩
    rw [Int.neg_tmod, Int.neg_tdiv, Int.neg_neg, Int.tmod_eq_emod_of_nonneg (by omega), Int.tdiv_eq_ediv_of_nonneg (by omega), Int.tdiv_eq_ediv_of_nonneg (by omega)]
    have h1 := Int.emod_nonneg p (show d ≠ 0 by omega)
    have h2 := Int.emod_lt_of_pos p d0
    have h3 := Int.emod_add_mul_ediv p d
    generalize hr : p % d = r at *
    generalize hq : p / d = q at *
    have h4 : (p + d - 1) / d = if r = 0 then q else q + 1 := by
      split
      · rename_i e
        rw [show p + d - 1 = (d - 1) + d * q by omega, Int.add_mul_ediv_left _ _ (by omega), Int.ediv_eq_zero_of_lt (by omega) (by omega)]
        omega
      · rename_i e
        rw [show p + d - 1 = (r - 1) + d * (q + 1) by rw [Int.mul_add]; omega, Int.add_mul_ediv_left _ _ (by omega), Int.ediv_eq_zero_of_lt (by omega) (by omega)]
        omega
    rw [h4]
    by_cases e : r = 0
    · rw [if_neg (by omega), if_pos e]
    · rw [if_pos (by omega), if_neg e]
      omega
  · rw [if_neg (by have := Int.tmod_nonneg d h; omega), if_neg (by omega)]
theorem hgt_rai {k : Kn} (r : Right k) (t : Tr) {v : Int} (v0 : 0 ≤ v) (v1 : v < marksM k) : gt (raisedM k t) v = hgtM k t v := by
  rw [gt_rai r t v0 v1, hgtM]
  split
  · rfl
  · congr 1
    omega
theorem find_id {l : List Ld} (hn : (l.map (·.id)).Nodup) {i : Nat} {x : Ld} (hx : l[i]? = some x) : find l x.id = i := by
  refine find_at hx rfl fun j y hj hy e => ?_
  have h1 : (l.map (·.id))[j]? = some x.id := by rw [List.getElem?_map, hy]; simp [e]
  have h2 : (l.map (·.id))[i]? = some x.id := by rw [List.getElem?_map, hx]; rfl
  have hjl := (List.getElem?_eq_some_iff.1 h1).1
  have hil := (List.getElem?_eq_some_iff.1 h2).1
  have := List.pairwise_iff_getElem.1 hn j i hjl hil hj
  rw [(List.getElem?_eq_some_iff.1 h1).2, (List.getElem?_eq_some_iff.1 h2).2] at this
  exact this rfl
theorem nodup_l {k : Kn} (o : Order k) : (k.loads.map (·.id)).Nodup := (List.nodup_append.1 o.ids).1
theorem nodup_d {k : Kn} (o : Order k) : (k.draws.map (·.id)).Nodup := (List.nodup_append.1 (List.nodup_append.1 o.ids).2.1).1
theorem not_load {k : Kn} (o : Order k) {x : Ld} (hx : x ∈ k.draws) : find k.loads x.id = -1 := by
  refine find_none fun j y hj hy e => ?_
  have h := (List.nodup_append.1 o.ids).2.2 y.id (List.mem_map_of_mem (List.mem_of_getElem? hy)) x.id (List.mem_append_left _ (List.mem_map_of_mem hx))
  exact h e
/-- What is told of two marks holds of true heights. -/
theorem between_in {k : Kn} (hc : check k = 0) {H : Int → Int} (f : Feas (netM k []) H) {a b : Int} (a0 : 0 ≤ a) (a1 : a < marksM k) (b0 : 0 ≤ b) (b1 : b < marksM k) : (betweenM k a b).2 = 0 ∧ inS (H b - H a) (betweenM k a b).1 = true := by
  have N := Net.base hc
  have h1 := N.le a0 a1 b0 b1 f
  have h2 := N.le b0 b1 a0 a1 f
  have hF := N.fin_of a0 a1 f
  unfold betweenM
  rw [above_eq, above_eq, if_pos hF]
  refine ⟨rfl, ?_⟩
  simp only [inS, decide_eq_true_eq]
  omega
theorem hgt_load {k : Kn} {t : Tr} {i : Nat} {n : Int} (hi : i < k.loads.length) (hn : t.loads[i]? = some n) : hgtM k t ((i : Int) + 1) - hgtM k t i = n := by
  unfold hgtM
  rw [if_pos (by omega), if_pos (by omega), show ((i : Int) + 1).toNat = i + 1 by omega, show ((i : Nat) : Int).toNat = i by omega, pfx_succ hn]
  omega
theorem hgt_drawn (k : Kn) (t : Tr) {j : Nat} : hgtM k t (drawnM k j) = pfx t.draws j := by
  unfold drawnM
  split
  · rename_i e
    obtain rfl : j = 0 := by omega
    unfold hgtM
    rw [if_pos (by omega)]
    simp
  · unfold hgtM
    rw [if_neg (by omega), show ((k.loads.length : Int) + (j : Int) - k.loads.length).toNat = j by omega]
theorem hgt_draw {k : Kn} {t : Tr} {j : Nat} {n : Int} (hn : t.draws[j]? = some n) : hgtM k t (drawnM k ((j : Int) + 1)) - hgtM k t (drawnM k j) = n := by
  have h1 := hgt_drawn k t (j := j + 1)
  have h2 := hgt_drawn k t (j := j)
  rw [show ((j : Int) + 1) = ((j + 1 : Nat) : Int) by push_cast; rfl, h1, h2, pfx_succ hn]
  omega
theorem run_load {k : Kn} (hc : check k = 0) {i : Nat} {x : Ld} (hx : k.loads[i]? = some x) : runM k x.id x.id = betweenM k i ((i : Int) + 1) := by
  have hf := find_id (nodup_l (order_of_check hc)) hx
  unfold runM
  rw [if_neg (by simp [hc])]
  have hr : reachM k x.id x.id = ((i : Int), (i : Int) + 1, true) := by
    unfold reachM
    rw [hf, if_pos (by omega)]
  have ho : orderedB k.loads x.id x.id = true := by
    simp only [orderedB, hf, decide_eq_true_eq]
    omega
  simp [hr, ho]
theorem run_draw {k : Kn} (hc : check k = 0) {j : Nat} {x : Ld} (hx : k.draws[j]? = some x) : runM k x.id x.id = betweenM k (drawnM k j) (drawnM k ((j : Int) + 1)) := by
  have o := order_of_check hc
  have hf := find_id (nodup_d o) hx
  have hn := not_load o (List.mem_of_getElem? hx)
  unfold runM
  rw [if_neg (by simp [hc])]
  have hr : reachM k x.id x.id = (drawnM k j, drawnM k ((j : Int) + 1), true) := by
    unfold reachM
    rw [hn, hf, if_neg (by omega)]
    have e : (if (j : Int) > 0 then (j : Int) else 0) = j := by split <;> omega
    rw [e]
    simp
  have ho : orderedB k.draws x.id x.id = true := by
    simp only [orderedB, hf, decide_eq_true_eq]
    omega
  simp [hr, ho]
end Go.Shaft
/- The specification's table tells what settling tells; its models. -/
set_option linter.unusedVariables false
set_option linter.unusedSimpArgs false
namespace Go.Shaft
/-- The table of ties between a kiln's marks. -/
def tb (k : Kn) (l : List Tie) : Tb := tabT (marksM k) l
def tokB (k : Kn) (l : List Tie) : Bool := okT (marksM k) (tb k l)
theorem tab_ok {k : Kn} {more : List Tie} (N : Net k more) {a : Int} (a0 : 0 ≤ a) (a1 : a < marksM k) : tokB k (tiesM k ++ more) = fin? (netM k more) a := by
  have w := N.wf
  have hn : (netM k more).n.toNat = marksM k := by simp [netM]
  cases h : fin? (netM k more) a with
  | true =>
    have := ((N.settled a0 a1 h).tab w a0 (by rw [netn]; exact a1) (Net.conn a0 a1)).1
    rw [hn] at this
    exact this
  | false =>
    rcases settle_cases w a0 (by rw [netn]; exact a1) with ⟨h', b, e, s⟩ | ⟨h', b, v, e, g, tm, v0, v1, hk⟩
    · rw [fin?, e] at h
      cases h
    · obtain ⟨u, u0, u1, hp, hs, _⟩ := circle_spec w g tm v0 v1 hk
      have := tab_clash w hp u0 u1 hs
      rw [hn] at this
      exact this
theorem tab_at {k : Kn} {more : List Tie} (N : Net k more) {a v : Int} (a0 : 0 ≤ a) (a1 : a < marksM k) (v0 : 0 ≤ v) (v1 : v < marksM k) (h : fin? (netM k more) a = true) : g2 (tb k (tiesM k ++ more)) a.toNat v.toNat = dst (netM k more) a v := by
  have hn : (netM k more).n.toNat = marksM k := by simp [netM]
  have := ((N.settled a0 a1 h).tab N.wf a0 (by rw [netn]; exact a1) (Net.conn a0 a1)).2 v v0 (by rw [netn]; exact v1)
  rw [hn] at this
  exact this
/-- What the specification tells of two marks. -/
def betweenR (k : Kn) (a b : Int) : Sp × Int := if tokB k (tiesM k) then (⟨0 - g2 (tb k (tiesM k)) b.toNat a.toNat, g2 (tb k (tiesM k)) a.toNat b.toNat⟩, 0) else (zSp, 9)
theorem between_eq {k : Kn} (hc : check k = 0) {a b : Int} (a0 : 0 ≤ a) (a1 : a < marksM k) (b0 : 0 ≤ b) (b1 : b < marksM k) : betweenR k a b = betweenM k a b := by
  have N := Net.base hc
  have h1 := tab_ok N a0 a1
  rw [List.append_nil] at h1
  unfold betweenR betweenM
  rw [h1, above_eq, above_eq]
  simp only
  cases hF : fin? (netM k []) a with
  | false => rfl
  | true =>
    have g1 := tab_at N a0 a1 b0 b1 hF
    have g2 := tab_at N b0 b1 a0 a1 (by rw [N.same b0 b1 a0 a1]; exact hF)
    rw [List.append_nil] at g1 g2
    simp only [if_true]
    rw [g1, g2]
    simp
theorem tok_b {k : Kn} (hc : check k = 0) : tokB k (tiesM k) = fin? (netM k []) 0 := by
  have N := Net.base hc
  have n0 : (0 : Int) < marksM k := by have := N.wf.n0; rw [netn] at this; exact this
  have := tab_ok N (a := 0) (by omega) n0
  rw [List.append_nil] at this
  exact this
def mostR (k : Kn) (a b : Int) : Int × Int :=
  if markedM k [a, b] ≠ 0 then (0, markedM k [a, b]) else if tokB k (tiesM k) then (g2 (tb k (tiesM k)) a.toNat b.toNat, 0) else (0, 9)
theorem most_eq (k : Kn) (a b : Int) : (mostR k a b).2 = (aboveC k a b).2 ∧ (mostR k a b).1 = (aboveC k a b).1.most := by
  unfold mostR aboveC
  by_cases hm : markedM k [a, b] = 0
  · obtain ⟨hc, hin⟩ := marked_ok hm
    obtain ⟨a0, a1⟩ := hin a (by simp)
    obtain ⟨b0, b1⟩ := hin b (by simp)
    have N := Net.base hc
    have h1 := tab_ok N a0 a1
    rw [List.append_nil] at h1
    simp only [hm, ne_eq, not_true_eq_false, if_false, h1]
    unfold fin?
    cases hF : (settleM (netM k []) a).2.2 with
    | some c => exact ⟨rfl, rfl⟩
    | none =>
      have hF' : fin? (netM k []) a = true := by rw [fin?, hF]; rfl
      have g1 := tab_at N a0 a1 b0 b1 hF'
      rw [List.append_nil] at g1
      refine ⟨rfl, ?_⟩
      simp only [Option.isNone_none, if_true]
      rw [g1]
      rfl
  · refine ⟨?_, ?_⟩
    · simp only [hm, ne_eq, not_false_eq_true, if_true]
    · simp only [hm, ne_eq, not_false_eq_true, if_true]; rfl
/-- What the specification tells of runs. -/
def runR (k : Kn) (a b : Int) : Sp × Int :=
  if check k ≠ 0 then (zSp, check k)
  else if (find k.loads a < 0 ∨ find k.loads b < 0) ∧ (find k.draws a < 0 ∨ find k.draws b < 0) then (zSp, 5)
  else if find k.loads b < find k.loads a ∨ find k.draws b < find k.draws a then (zSp, 1)
  else if 0 ≤ find k.loads a then betweenR k (find k.loads a) (find k.loads b + 1)
  else betweenR k (drawnM k (find k.draws a)) (drawnM k (find k.draws b + 1))
theorem load_or_draw {k : Kn} (o : Order k) {a : Int} (h1 : 0 ≤ find k.loads a) : find k.draws a = -1 := by
  refine find_none fun j y hj hy e => ?_
  have hm : a ∈ k.loads.map (·.id) := by
    unfold find at h1
    split at h1
    · rename_i i hi
      rw [List.idxOf?_eq_some_iff] at hi
      obtain ⟨hi, e, _⟩ := hi
      rw [← e]
      exact List.getElem_mem _
    · omega
  have := (List.nodup_append.1 o.ids).2.2 a hm y.id (List.mem_append_left _ (List.mem_map_of_mem (List.mem_of_getElem? hy)))
  exact this e.symm
theorem run_eq (k : Kn) (a b : Int) : runR k a b = runM k a b := by
  unfold runR runM
  by_cases hc : check k = 0
  · simp only [hc, ne_eq, not_true_eq_false, if_false]
    have o := order_of_check hc
    have hm : (marksM k : Int) = 1 + k.loads.length + k.draws.length := by simp [marksM]
    have fa := find_le k.loads a; have fb := find_le k.loads b; have ga := find_le k.draws a; have gb := find_le k.draws b
    have xa := fun h => load_or_draw o (a := a) h
    have xb := fun h => load_or_draw o (a := b) h
    unfold reachM orderedB
    by_cases h1 : 0 ≤ find k.loads a ∧ 0 ≤ find k.loads b
    · have ya := xa h1.1
      have yb := xb h1.2
      rw [if_pos h1, if_neg (by omega)]
      simp only [Bool.true_eq_false, if_false]
      by_cases h2 : find k.loads b < find k.loads a
      · rw [if_pos (.inl h2), if_pos]
        rw [ya]
        exact ⟨by simp; omega, by simp⟩
      · rw [if_neg (by omega), if_pos h1.1, if_neg]
        · exact between_eq hc (by omega) (by omega) (by omega) (by omega)
        · simp; omega
    · rw [if_neg h1]
      by_cases h2 : 0 ≤ find k.draws a ∧ 0 ≤ find k.draws b
      · have na : find k.loads a < 0 := by
          rcases Int.lt_or_le (find k.loads a) 0 with h | h
          · exact h
          · have := xa h; omega
        have nb : find k.loads b < 0 := by
          rcases Int.lt_or_le (find k.loads b) 0 with h | h
          · exact h
          · have := xb h; omega
        have e1 : find k.loads a = -1 := by omega
        have e2 : find k.loads b = -1 := by omega
        rw [if_neg (by omega)]
        simp only [h2, and_self, decide_true, Bool.true_eq_false, if_false]
        have d1 := drawn_in (k := k) (a := find k.draws a) (by omega) (by omega)
        have d2 := drawn_in (k := k) (a := find k.draws b + 1) (by omega) (by omega)
        by_cases h3 : find k.draws b < find k.draws a
        · rw [if_pos (.inr h3), if_pos]
          rw [e1]
          refine ⟨by simp, by simp; omega⟩
        · rw [if_neg (by omega), if_neg (by omega), if_neg (by simp; omega)]
          have e : (if find k.draws a > 0 then find k.draws a else 0) = find k.draws a := by split <;> omega
          rw [e]
          exact between_eq hc d1.1 d1.2 d2.1 d2.2
      · have hbad : (find k.loads a < 0 ∨ find k.loads b < 0) ∧ (find k.draws a < 0 ∨ find k.draws b < 0) := ⟨by omega, by omega⟩
        rw [if_pos hbad]
        simp only [decide_eq_false h2, if_true]
  · simp only [hc, ne_eq, not_false_eq_true, if_true]
/-- What the specification tells of a load or a draw. -/
def weightR (k : Kn) (a : Int) : Sp × Int :=
  if check k ≠ 0 then (zSp, check k)
  else if 0 ≤ find k.loads a then betweenR k (find k.loads a) (find k.loads a + 1)
  else if 0 ≤ find k.draws a then betweenR k (drawnM k (find k.draws a)) (drawnM k (find k.draws a + 1))
  else (zSp, 5)
theorem weight_eq (k : Kn) (a : Int) : weightR k a = runM k a a := by
  rw [← run_eq]
  unfold weightR runR
  by_cases hc : check k = 0
  · simp only [hc, ne_eq, not_true_eq_false, if_false]
    by_cases h1 : 0 ≤ find k.loads a
    · rw [if_pos h1, if_neg (by omega), if_neg (by omega), if_pos h1]
    · rw [if_neg h1]
      by_cases h2 : 0 ≤ find k.draws a
      · rw [if_pos h2, if_neg (by omega), if_neg (by omega), if_neg h1]
      · rw [if_neg h2, if_pos (by omega)]
  · simp only [hc, ne_eq, not_false_eq_true, if_true]
def heldR (k : Kn) (h : Int) : Sp × Int :=
  if check k ≠ 0 then (zSp, check k) else if inB h 0 16384 = false then (zSp, 1) else betweenR k (drawnM k (byHr k.draws h)) (byHr k.loads h)
theorem held_eq (k : Kn) (h : Int) : heldR k h = heldM k h := by
  unfold heldR heldM timedM
  by_cases hc : check k = 0
  · have hm : (marksM k : Int) = 1 + k.loads.length + k.draws.length := by simp [marksM]
    have hb := byHr_le k.loads h
    have hd := byHr_le k.draws h
    have d1 := drawn_in (k := k) (a := (byHr k.draws h : Int)) (by omega) (by omega)
    simp only [hc, ne_eq, not_true_eq_false, if_false]
    cases hi : inB h 0 16384 with
    | false => simp
    | true =>
      simp only [Bool.true_eq_false, if_false, if_true, ne_eq, not_true_eq_false]
      exact between_eq hc d1.1 d1.2 (by omega) (by omega)
  · simp only [hc, ne_eq, not_false_eq_true, if_true]
def belowR (k : Kn) (a h : Int) : Sp × Int :=
  if check k ≠ 0 then (zSp, check k) else if inB h 0 16384 = false then (zSp, 1)
  else if find k.loads a < 0 then (zSp, 5)
  else if h < (k.loads.getD (find k.loads a).toNat default).hour then (zSp, 1)
  else betweenR k (drawnM k (byHr k.draws h)) (find k.loads a)
theorem below_eq (k : Kn) (a h : Int) : belowR k a h = belowM k a h := by
  unfold belowR belowM timedM
  by_cases hc : check k = 0
  · have hm : (marksM k : Int) = 1 + k.loads.length + k.draws.length := by simp [marksM]
    have fa := find_le k.loads a
    have hd := byHr_le k.draws h
    have d1 := drawn_in (k := k) (a := (byHr k.draws h : Int)) (by omega) (by omega)
    simp only [hc, ne_eq, not_true_eq_false, if_false]
    cases hi : inB h 0 16384 with
    | false => simp
    | true =>
      simp only [Bool.true_eq_false, if_false, if_true, ne_eq, not_true_eq_false, gt_iff_lt]
      by_cases h1 : find k.loads a < 0
      · rw [if_pos h1, if_pos h1]
      · rw [if_neg h1, if_neg h1]
        split
        · rfl
        · exact between_eq hc d1.1 d1.2 (by omega) (by omega)
  · simp only [hc, ne_eq, not_false_eq_true, if_true]
def footR (n d : Int) : Int := if 0 ≤ n then n.tdiv d else 0 - (d - 1 - n).tdiv d
theorem foot_eq (n d : Int) : footR n d = floorM n d := by
  unfold footR floorM
  by_cases h : n < 0
  · rw [if_neg (by omega), if_pos h, show d - 1 - n = -n + d - 1 by omega, Int.zero_sub]
  · rw [if_pos (by omega), if_neg h]
end Go.Shaft
/- The specification's heights, and which tie is not kept. -/
set_option linter.unusedVariables false
set_option linter.unusedSimpArgs false
namespace Go.Shaft
/-- Heights of so many loads. -/
def hL (l : List Int) (i : Nat) : List Int := (List.range (i + 1)).map (pfx l)
/-- Heights of so many draws. -/
def hD (d : List Int) (j : Nat) : List Int := (List.range j).map fun i => pfx d (i + 1)
def htsT (t : Tr) : List Int := hL t.loads t.loads.length ++ hD t.draws t.draws.length
@[simp] theorem hL_len (l : List Int) (i : Nat) : (hL l i).length = i + 1 := by simp [hL]
@[simp] theorem hD_len (l : List Int) (i : Nat) : (hD l i).length = i := by simp [hD]
theorem hL_zero (l : List Int) : hL l 0 = [0] := by simp [hL]
theorem hL_succ (l : List Int) (i : Nat) : hL l (i + 1) = hL l i ++ [pfx l (i + 1)] := by rw [hL, List.range_succ, List.map_append]; rfl
theorem hD_zero (l : List Int) : hD l 0 = [] := by simp [hD]
theorem hD_succ (l : List Int) (i : Nat) : hD l (i + 1) = hD l i ++ [pfx l (i + 1)] := by rw [hD, List.range_succ, List.map_append]; rfl
theorem htsT_len (t : Tr) : (htsT t).length = t.loads.length + 1 + t.draws.length := by simp [htsT]
theorem htsT_at {k : Kn} {t : Tr} (ht : TrOk k t) {v : Int} (v0 : 0 ≤ v) (v1 : v < marksM k) : (htsT t)[v.toNat]? = some (hgtM k t v) := by
  have hm : (marksM k : Int) = 1 + k.loads.length + k.draws.length := by simp [marksM]
  have h1 := ht.ll; have h2 := ht.dl
  unfold htsT hgtM
  by_cases e : v ≤ k.loads.length
  · rw [if_pos e, List.getElem?_append_left (by simp; omega), hL, List.getElem?_map, List.getElem?_range (by omega)]
    rfl
  · rw [if_neg e, List.getElem?_append_right (by simp; omega), hL_len, hD, List.getElem?_map, List.getElem?_range (by omega)]
    simp only [Option.map_some, Option.some.injEq]
    congr 1
    omega
theorem gt_hts {k : Kn} {t : Tr} (ht : TrOk k t) {v : Int} (v0 : 0 ≤ v) (v1 : v < marksM k) : gt (htsT t) v = hgtM k t v := by
  rw [gt, List.getD_eq_getElem?_getD, htsT_at ht v0 v1]
  rfl
theorem htsT_b {k : Kn} {t : Tr} (ht : TrOk k t) (h1 : t.loads.length ≤ 60) (h2 : t.draws.length ≤ 60) : ∀ x ∈ htsT t, 0 ≤ x ∧ x ≤ 1100000000 := by
  intro x hx
  simp only [htsT, hL, hD, List.mem_append, List.mem_map, List.mem_range] at hx
  rcases hx with ⟨i, hi, rfl⟩ | ⟨i, hi, rfl⟩
  · have := pfx_bound ht.l i; omega
  · have := pfx_bound ht.d (i + 1); omega
theorem idxP_congr {α : Type} {l : List α} {p q : α → Bool} (h : ∀ x ∈ l, p x = q x) : idxP l p = idxP l q := by
  have key : l.findIdx? p = l.findIdx? q := by
    induction l with
    | nil => rfl
    | cons x l ih =>
      rw [List.findIdx?_cons, List.findIdx?_cons, h x List.mem_cons_self, ih (fun y hy => h y (List.mem_cons_of_mem _ hy))]
  unfold idxP
  rw [key]
/-- The first tie that is not kept. -/
def keptR (l : List Tie) (h : List Int) : Int × Bool := if 0 ≤ idxP l (offP h) then (idxP l (offP h), false) else (0, true)
theorem kept_eq {k : Kn} (r : Right k) {t : Tr} (ht : TrOk k t) : keptR (tiesM k) (htsT t) = (if 0 ≤ breaksM k (raisedM k t) then (breaksM k (raisedM k t), false) else (0, true)) := by
  have : idxP (tiesM k) (offP (htsT t)) = breaksM k (raisedM k t) := by
    refine idxP_congr fun x hx => ?_
    obtain ⟨f0, f1, t0, t1, _⟩ := ties_in r x hx
    unfold offP
    rw [gt_hts ht f0 f1, gt_hts ht t0 t1, hgt_rai r t f0 f1, hgt_rai r t t0 t1]
  unfold keptR
  rw [this]
end Go.Shaft
/- Contracts: what the specification tells of weights. -/
set_option linter.unusedVariables false
set_option linter.unusedSimpArgs false
set_option maxRecDepth 100000
set_option maxHeartbeats 2000000
namespace Go.Abs
open Go.RowKit Go.Proofs Go.Shaft
attribute [simp] ti22 ti23 ti24 ti26 ti30 ti42 ti45 ti52 ti122 ti125 ti88 ti92 ti46
attribute [simp] ti134 ti131 ti48 ti60 ti99 ti85 ti143 ti189 ti190 ti192 ti204 ti208 ti218 ti9 ti5 ti27 ti28 ti141 ti30 ti45
@[simp] theorem us4b : E.P.underlying 4 = some TypeDesc.bool := by kernel_rfl
@[simp] def eKp (n : Int) (b : Bool) (e : Int) : AV := .agg [I n, .bool b, I e]
@[simp] def eTd (l : List Tie) (e : Int) : AV := .agg [eTies l, I e]

theorem c102 (k : Kn) (hk : Few k) (t : Tr) (h1 : t.loads.length ≤ 1000) (h2 : t.draws.length ≤ 1000) : Con E 102 [eKn k, eTr t] (.bool (toldB k t)) := by
 intro n H hH
 have h00 := hh3 hH
 have ⟨hHs, hH', hpl⟩ := h00
 have hl := hk.l; have hd := hk.d
 refine at_start (fn := Tryz.f102) [.tmp 4] 51 H.length rfl rfl rfl rfl (by kernel_rfl) (by kernel_rfl) (by simp) (Nat.le_refl _) ?_
 refine sq ?_
 refine at_regK [2, 3] rfl ?_
 try simp [h00, o_i, f_a]
 refine sq ?_
 refine sq ?_
 refine at_regK [3, 22] rfl ?_
 try simp [h00, o_i, f_a]
 refine pops_split 14 rfl (fun hg1 => ?_) (fun hg1 => ?_)
 ·
  try simp [h00, o_i, f_a, hg1]
  refine at_cond rfl rfl (fun hb22 => ?_) (fun hb22 => by simp at hb22)
  refine sq ?_
  refine at_regK [4] rfl ?_
  try simp [h00, o_i, f_a]
  refine at_ret (by kernel_rfl) ?_
  try simp [h00, o_i, f_a]
  simp at hg1
  simp [toldB, hg1]
  intro e
  omega
 ·
  try simp [h00, o_i, f_a, hg1]
  refine at_cond rfl rfl (fun hb22 => ?_) (fun hb22 => ?_)
  ·
   try simp at hb22
   refine sq ?_
   refine at_regK [4] rfl ?_
   try simp [h00, o_i, f_a]
   refine at_ret (by kernel_rfl) ?_
   try simp [h00, o_i, f_a]
   simp at hg1
   simp [toldB, hg1, hb22]
   intro _ e
   omega
  ·
   try simp at hb22
   refine at_skip (by kernel_rfl) ?_
   try simp [h00, o_i, f_a]
   refine sq ?_
   refine sq ?_
   refine at_regK [3, 5] rfl ?_
   try simp [h00, o_i, f_a]
   refine at_block rfl ?_
   refine at_count t.loads.length (fun i s => (∀ n ∈ t.loads.take i, inB n 0 16777216 = true) ∧ s = ⟨[(3, .ref false 1 0 [] 0), (5, I i)], [.cell (eKn k), .cell (eTr t)], H⟩) rfl ⟨by simp, rfl⟩ ?_
   rintro i s hi ⟨hall, rfl⟩
   refine sq ?_
   refine sq ?_
   refine at_regK [3, 5, 27] rfl ?_
   try simp [h00, o_i, f_a]
   refine at_cond rfl rfl (fun hb27 => ?_) (fun hb27 => ?_)
   ·
    try simp at hb27
    obtain ⟨x, hx⟩ : ∃ x, t.loads[i]? = some x := ⟨_, List.getElem?_eq_getElem (by omega)⟩
    have i0 : (i : Int) < t.loads.length := by omega
    refine at_skip (by kernel_rfl) ?_
    try simp [h00, o_i, f_a, hx, i0]
    refine sq ?_
    refine at_block rfl ?_
    refine sq ?_
    refine at_regK [3, 5, 36] rfl ?_
    try simp [h00, o_i, f_a, hx, i0]
    refine (c126 _ _ _).use hH ?_
    try simp [h00, o_i, f_a, hx, i0]
    refine at_cond rfl rfl (fun hb36 => ?_) (fun hb36 => ?_)
    ·
     try simp at hb36
     refine sq ?_
     refine at_regK [4] rfl ?_
     try simp [h00, o_i, f_a, hx, i0]
     refine at_ret (by kernel_rfl) ?_
     try simp [h00, o_i, f_a, hx, i0]
     refine ?_
     unfold toldB
     have hx0 : (t.loads.any fun n => !inB n 0 16777216) = true := List.any_eq_true.2 ⟨x, List.mem_of_getElem? hx, by simpa using hb36⟩
     simp [hx0]
    ·
     try simp at hb36
     refine at_skip (by kernel_rfl) ?_
     try simp [h00, o_i, f_a, hx, i0]
     refine at_regK [3, 5] rfl ?_
     try simp [h00, o_i, f_a, hx, i0]
     refine ⟨by omega, ?_, wrap_id (by omega) (by omega)⟩
     intro n hn
     rw [List.take_add_one, hx] at hn
     simp at hn
     rcases hn with hn | rfl
     ·exact hall n hn
     ·simpa using hb36
   ·
    try simp at hb27
    rw [List.take_of_length_le (by omega)] at hall
    have hall0 := hall
    clear hall
    refine at_exit rfl ?_
    try simp [h00, o_i, f_a]
    refine sq ?_
    refine sq ?_
    refine at_regK [3, 6] rfl ?_
    try simp [h00, o_i, f_a]
    refine at_block rfl ?_
    refine at_count t.draws.length (fun i s => (∀ n ∈ t.draws.take i, inB n 0 16777216 = true) ∧ s = ⟨[(3, .ref false 1 0 [] 0), (6, I i)], [.cell (eKn k), .cell (eTr t)], H⟩) rfl ⟨by simp, rfl⟩ ?_
    rintro i s hi ⟨hall, rfl⟩
    refine sq ?_
    refine sq ?_
    refine at_regK [3, 6, 41] rfl ?_
    try simp [h00, o_i, f_a]
    refine at_cond rfl rfl (fun hb41 => ?_) (fun hb41 => ?_)
    ·
     try simp at hb41
     obtain ⟨x, hx⟩ : ∃ x, t.draws[i]? = some x := ⟨_, List.getElem?_eq_getElem (by omega)⟩
     have i0 : (i : Int) < t.draws.length := by omega
     refine at_skip (by kernel_rfl) ?_
     try simp [h00, o_i, f_a, hx, i0]
     refine sq ?_
     refine at_block rfl ?_
     refine sq ?_
     refine at_regK [3, 6, 50] rfl ?_
     try simp [h00, o_i, f_a, hx, i0]
     refine (c126 _ _ _).use hH ?_
     try simp [h00, o_i, f_a, hx, i0]
     refine at_cond rfl rfl (fun hb50 => ?_) (fun hb50 => ?_)
     ·
      try simp at hb50
      refine sq ?_
      refine at_regK [4] rfl ?_
      try simp [h00, o_i, f_a, hx, i0]
      refine at_ret (by kernel_rfl) ?_
      try simp [h00, o_i, f_a, hx, i0]
      refine ?_
      unfold toldB
      have hx0 : (t.draws.any fun n => !inB n 0 16777216) = true := List.any_eq_true.2 ⟨x, List.mem_of_getElem? hx, by simpa using hb50⟩
      simp [hx0]
     ·
      try simp at hb50
      refine at_skip (by kernel_rfl) ?_
      try simp [h00, o_i, f_a, hx, i0]
      refine at_regK [3, 6] rfl ?_
      try simp [h00, o_i, f_a, hx, i0]
      refine ⟨by omega, ?_, wrap_id (by omega) (by omega)⟩
      intro n hn
      rw [List.take_add_one, hx] at hn
      simp at hn
      rcases hn with hn | rfl
      ·exact hall n hn
      ·simpa using hb50
    ·
     try simp at hb41
     refine at_exit rfl ?_
     try simp [h00, o_i, f_a]
     refine sq ?_
     refine at_regK [4] rfl ?_
     try simp [h00, o_i, f_a]
     refine at_ret (by kernel_rfl) ?_
     try simp [h00, o_i, f_a]
     rw [List.take_of_length_le (by omega)] at hall
     simp at hg1
     unfold toldB
     have e1 : (t.loads.any fun n => !inB n 0 16777216) = false := List.any_eq_false.2 fun n hn => by simp [hall0 n hn]
     have e2 : (t.draws.any fun n => !inB n 0 16777216) = false := List.any_eq_false.2 fun n hn => by simp [hall n hn]
     rw [e1, e2]
     simp [hg1, hb22]
     omega

theorem c105 (t : Tr) (h1 : t.loads.length ≤ 60) (h2 : t.draws.length ≤ 60) (hl : ∀ n ∈ t.loads, 0 ≤ n ∧ n ≤ 16777216) (hd : ∀ n ∈ t.draws, 0 ≤ n ∧ n ≤ 16777216) : Con E 105 [eTr t] (eInts (htsT t)) := by
 intro n H hH
 have h00 := hh3 hH
 have ⟨hHs, hH', hpl⟩ := h00
 refine ACall.frz ?_
 refine at_start (fn := Tryz.f105) [.tmp 2] 45 H.length rfl rfl rfl rfl (by kernel_rfl) (by kernel_rfl) (by simp) (Nat.le_refl _) ?_
 refine sq ?_
 refine at_regK [1] rfl ?_
 try simp [h00, o_i, f_a]
 refine sq ?_
 refine at_regK [1, 3] rfl ?_
 try simp [h00, o_i, f_a]
 refine sq ?_
 refine at_regK [1, 3, 4] rfl ?_
 try simp [h00, o_i, f_a]
 refine sq ?_
 refine sq ?_
 refine at_regK [1, 3, 4, 5] rfl ?_
 try simp [h00, o_i, f_a]
 refine at_block rfl ?_
 refine at_count t.loads.length (fun i s => s = ⟨[(1, .ref false 0 0 [] 0), (3, .own false 1 (i + 1)), (4, I (pfx t.loads i)), (5, I i)], [.cell (eTr t), .row 1 ((hL t.loads i).map I)], H⟩) rfl (by simp [hL_zero]) ?_
 rintro i s hi rfl
 have pb := pfx_bound hl i
 refine sq ?_
 refine sq ?_
 refine at_regK [1, 3, 4, 5, 12] rfl ?_
 try simp [h00, o_i, f_a]
 refine at_cond rfl rfl (fun hb12 => ?_) (fun hb12 => ?_)
 ·
  try simp at hb12
  obtain ⟨x, hx⟩ : ∃ x, t.loads[i]? = some x := ⟨_, List.getElem?_eq_getElem (by omega)⟩
  have i0 : (i : Int) < t.loads.length := by omega
  have xb := hl x (List.mem_of_getElem? hx)
  have wx : IntKind.i64.wrap (pfx t.loads i + x) = pfx t.loads (i + 1) := by rw [pfx_succ hx]; exact wrap_id (by omega) (by omega)
  refine at_skip (by kernel_rfl) ?_
  try simp [h00, o_i, f_a, hx, i0, wx]
  refine sq ?_
  refine at_block rfl ?_
  refine sq ?_
  refine at_regK [1, 3, 4, 5] rfl ?_
  try simp [h00, o_i, f_a, hx, i0, wx]
  refine at_regK [1, 3, 4, 5] rfl ?_
  try simp [h00, o_i, f_a, hx, i0, wx]
  refine ⟨by omega, ?_⟩
  refine at_regC 2 [1, 3, 4, 5] rfl ?_
  try simp [h00, o_i, f_a, hx, i0, wx]
  refine ⟨by omega, wrap_id (by omega) (by omega), ?_⟩
  rw [hL_succ]; simp
 ·
  try simp at hb12
  have hi2 : i = t.loads.length := by omega
  subst hi2
  refine at_exit rfl ?_
  try simp [h00, o_i, f_a]
  refine sq ?_
  refine at_regK [1, 3, 4] rfl ?_
  try simp [h00, o_i, f_a]
  refine sq ?_
  refine sq ?_
  refine at_regK [1, 3, 4, 6] rfl ?_
  try simp [h00, o_i, f_a]
  refine at_block rfl ?_
  refine at_count t.draws.length (fun i s => s = ⟨[(1, .ref false 0 0 [] 0), (3, .own false 1 (t.loads.length + 1 + i)), (4, I (pfx t.draws i)), (6, I i)], [.cell (eTr t), .row 1 ((hL t.loads t.loads.length ++ hD t.draws i).map I)], H⟩) rfl (by simp [hD_zero]) ?_
  rintro i s hi rfl
  have pb := pfx_bound hd i
  refine sq ?_
  refine sq ?_
  refine at_regK [1, 3, 4, 6, 30] rfl ?_
  try simp [h00, o_i, f_a]
  refine at_cond rfl rfl (fun hb30 => ?_) (fun hb30 => ?_)
  ·
   try simp at hb30
   obtain ⟨x, hx⟩ : ∃ x, t.draws[i]? = some x := ⟨_, List.getElem?_eq_getElem (by omega)⟩
   have i0 : (i : Int) < t.draws.length := by omega
   have xb := hd x (List.mem_of_getElem? hx)
   have wx : IntKind.i64.wrap (pfx t.draws i + x) = pfx t.draws (i + 1) := by rw [pfx_succ hx]; exact wrap_id (by omega) (by omega)
   refine at_skip (by kernel_rfl) ?_
   try simp [h00, o_i, f_a, hx, i0, wx]
   refine sq ?_
   refine at_block rfl ?_
   refine sq ?_
   refine at_regK [1, 3, 4, 6] rfl ?_
   try simp [h00, o_i, f_a, hx, i0, wx]
   refine at_regK [1, 3, 4, 6] rfl ?_
   try simp [h00, o_i, f_a, hx, i0, wx]
   refine ⟨by omega, ?_⟩
   refine at_regC 2 [1, 3, 4, 6] rfl ?_
   try simp [h00, o_i, f_a, hx, i0, wx]
   refine ⟨by omega, ⟨by omega, wrap_id (by omega) (by omega)⟩, ?_⟩
   rw [hD_succ]; simp
  ·
   try simp at hb30
   have hi2 : i = t.draws.length := by omega
   subst hi2
   refine at_exit rfl ?_
   try simp [h00, o_i, f_a]
   refine sq ?_
   refine at_regK [2] rfl ?_
   try simp [h00, o_i, f_a]
   refine at_ret (by kernel_rfl) ?_
   try simp [h00, o_i, f_a]
   simp [AS.frzV, AS.expo, AS.expos, AS.setMem, AV.ok, AV.oks, eInts, hHs, htsT, -List.map_append]
   rw [List.map_append]


theorem c103 (l : List Tie) (hl : l.length ≤ 1000) (h : List Int) (hh : h.length ≤ 1000) (hin : ∀ t ∈ l, 0 ≤ t.frm ∧ t.frm < h.length ∧ 0 ≤ t.to ∧ t.to < h.length) (hb : ∀ x ∈ h, 0 ≤ x ∧ x ≤ 1100000000) : Con E 103 [eTies l, eInts h] (eKp (keptR l h).1 (keptR l h).2 0) := by
 intro n H hH
 have h00 := hh3 hH
 have ⟨hHs, hH', hpl⟩ := h00
 refine at_start (fn := Tryz.f103) [.cell 4 60] 38 H.length rfl rfl rfl rfl (by kernel_rfl) (by kernel_rfl) (by simp) (Nat.le_refl _) ?_
 refine sq ?_
 refine at_regK [0, 1, 4] rfl ?_
 try simp [h00, o_i, f_a]
 refine sq ?_
 refine sq ?_
 refine at_regK [0, 1, 4, 5] rfl ?_
 try simp [h00, o_i, f_a]
 refine at_block rfl ?_
 refine at_count l.length (fun i s => (∀ j y, j < i → l[j]? = some y → offP h y = false) ∧ s = ⟨[(0, eTies l), (1, eInts h), (4, .ref false 0 0 [] 0), (5, I i)], [.cell (.agg [I 0, .bool false, I 0])], H⟩) rfl ⟨by intro j y hj; omega, rfl⟩ ?_
 rintro i s hi ⟨hno, rfl⟩
 refine sq ?_
 refine sq ?_
 refine at_regK [0, 1, 4, 5, 9] rfl ?_
 try simp [h00, o_i, f_a]
 refine at_cond rfl rfl (fun hb9 => ?_) (fun hb9 => ?_)
 ·
  try simp at hb9
  obtain ⟨t, ht⟩ : ∃ t, l[i]? = some t := ⟨_, List.getElem?_eq_getElem (by omega)⟩
  have i0 : (i : Int) < l.length := by omega
  obtain ⟨f0, f1, t0, t1⟩ := hin t (List.mem_of_getElem? ht)
  have hp : h[t.frm.toNat]? = some (gt h t.frm) := gt_some f0 f1
  have hq : h[t.to.toNat]? = some (gt h t.to) := gt_some t0 t1
  have hp' : ∀ p, h[t.frm.toNat]'p = gt h t.frm := fun p => (List.getElem?_eq_some_iff.1 hp).2
  have hq' : ∀ p, h[t.to.toNat]'p = gt h t.to := fun p => (List.getElem?_eq_some_iff.1 hq).2
  have b1 := hb _ (List.mem_of_getElem? hp)
  have b2 := hb _ (List.mem_of_getElem? hq)
  have wx : IntKind.i64.wrap (gt h t.to - gt h t.frm) = gt h t.to - gt h t.frm := wrap_id (by omega) (by omega)
  refine at_skip (by kernel_rfl) ?_
  try simp [h00, o_i, f_a, ht, i0, f0, f1, t0, t1, hp, hq, hp', hq', wx]
  refine sq ?_
  refine at_block rfl ?_
  refine sq ?_
  refine at_draw [0, 1, 4, 5, 34] [0, 0, 0, 0, 0, 1, 0, 1, 0, 0, 0, 0, 0, 1, 0, 1, 0, 0, 0, 0, 0, 1, 0] [] rfl Efol (by kernel_rfl) (by simp) ?_
  try simp [h00, o_i, f_a, ht, i0, f0, f1, t0, t1, hp, hq, hp', hq', wx]
  refine at_cond rfl rfl (fun hb34 => ?_) (fun hb34 => ?_)
  ·
   try simp at hb34
   refine sq ?_
   refine at_regK [4] rfl ?_
   try simp [h00, o_i, f_a, ht, i0, f0, f1, t0, t1, hp, hq, hp', hq', wx]
   refine at_ret (by kernel_rfl) ?_
   try simp [h00, o_i, f_a, ht, i0, f0, f1, t0, t1, hp, hq, hp', hq', wx]
   have e := idxP_at (p := offP h) ht (by unfold offP; simpa using hb34) hno
   simp [keptR, e, eKp]
  ·
   try simp at hb34
   refine at_skip (by kernel_rfl) ?_
   try simp [h00, o_i, f_a, ht, i0, f0, f1, t0, t1, hp, hq, hp', hq', wx]
   refine at_regK [0, 1, 4, 5] rfl ?_
   try simp [h00, o_i, f_a, ht, i0, f0, f1, t0, t1, hp, hq, hp', hq', wx]
   refine ⟨by omega, ?_, wrap_id (by omega) (by omega)⟩
   intro j y hj hy
   rcases Nat.lt_or_ge j i with h1 | h1
   ·exact hno j y h1 hy
   ·have : j = i := by omega
    subst this
    rw [ht] at hy
    cases hy
    unfold offP
    simpa using hb34
 ·
  try simp at hb9
  refine at_exit rfl ?_
  try simp [h00, o_i, f_a]
  refine sq ?_
  refine at_regK [4] rfl ?_
  try simp [h00, o_i, f_a]
  refine at_ret (by kernel_rfl) ?_
  try simp [h00, o_i, f_a]
  have e := idxP_none (p := offP h) (fun j y hj hy => hno j y (by omega) hy)
  simp [keptR, e, eKp]

theorem c57a (k : Kn) (hk : Few k) : Con E 57 [eKn k] (.agg [if check k ≠ 0 then .nilS else eTies (tiesM k), I (check k)]) := by
 intro n H hH
 have h00 := hh3 hH
 have ⟨hHs, hH', hpl⟩ := h00
 refine at_start (fn := Tryz.f57) [.cell 2 99] 13 H.length rfl rfl rfl rfl (by kernel_rfl) (by kernel_rfl) (by simp) (Nat.le_refl _) ?_
 refine sq ?_
 refine at_regK [1, 2] rfl ?_
 try simp [h00, o_i, f_a]
 refine sq ?_
 refine at_regK [1, 2, 3] rfl ?_
 try simp [h00, o_i, f_a]
 refine (c53 k hk).use hH ?_
 try simp [h00, o_i, f_a]
 refine sq ?_
 refine sq ?_
 refine at_regK [1, 2, 3, 7] rfl ?_
 try simp [h00, o_i, f_a]
 refine at_cond rfl rfl (fun hb7 => ?_) (fun hb7 => ?_)
 ·
  try simp at hb7
  refine sq ?_
  refine at_regK [2] rfl ?_
  try simp [h00, o_i, f_a]
  refine at_ret (by kernel_rfl) ?_
  try simp [h00, o_i, f_a]
  simp [hb7]
 ·
  try simp at hb7
  have o := order_of_check (by simpa using hb7 : check k = 0)
  have f := fine_of_check (by simpa using hb7 : check k = 0)
  refine at_skip (by kernel_rfl) ?_
  try simp [h00, o_i, f_a]
  refine sq ?_
  refine at_regK [2] rfl ?_
  try simp [h00, o_i, f_a]
  refine (c104 k hk o f.lo).use hH ?_
  try simp [h00, o_i, f_a]
  refine at_ret (by kernel_rfl) ?_
  try simp [h00, o_i, f_a]
  simp [hb7]

theorem c57 (k : Kn) (hk : Few k) : Con E 57 [eKn k] (eTd (tiesAll k).1 (tiesAll k).2) := by
 refine (c57a k hk).weak ?_
 unfold tiesAll eTd
 split
 ·exact fun c m => (Wk.agg (.cons (Wk.nil 4) (.cons (Wk.refl _) .nil))).VR rfl
 ·rename_i h
  simp at h
  rw [h]
  exact fun _ _ h => h

theorem c35 (k : Kn) (hk : Few k) (t : Tr) (h1 : t.loads.length ≤ 60) (h2 : t.draws.length ≤ 60) : Con E 35 [eKn k, eTr t] (eKp (fitsM k t).1 (fitsM k t).2.1 (fitsM k t).2.2) := by
 intro n H hH
 have h00 := hh3 hH
 have ⟨hHs, hH', hpl⟩ := h00
 refine at_start (fn := Tryz.f35) [.cell 4 60] 24 H.length rfl rfl rfl rfl (by kernel_rfl) (by kernel_rfl) (by simp) (Nat.le_refl _) ?_
 refine sq ?_
 refine at_regK [2, 3, 4] rfl ?_
 try simp [h00, o_i, f_a]
 refine sq ?_
 refine at_regK [2, 3, 4, 5] rfl ?_
 try simp [h00, o_i, f_a]
 refine (c53 k hk).use hH ?_
 try simp [h00, o_i, f_a]
 refine sq ?_
 refine sq ?_
 refine at_regK [2, 3, 4, 5, 10] rfl ?_
 try simp [h00, o_i, f_a]
 refine at_cond rfl rfl (fun hb10 => ?_) (fun hb10 => ?_)
 ·
  try simp at hb10
  refine sq ?_
  refine at_regK [4] rfl ?_
  try simp [h00, o_i, f_a]
  refine at_ret (by kernel_rfl) ?_
  try simp [h00, o_i, f_a]
  simp [fitsM, hb10, eKp]
 ·
  try simp at hb10
  have hck : check k = 0 := by simpa using hb10
  have o := order_of_check hck
  have f := fine_of_check hck
  have r := right_of_check hck
  refine at_skip (by kernel_rfl) ?_
  try simp [h00, o_i, f_a]
  refine sq ?_
  refine at_regK [2, 3, 4, 6] rfl ?_
  try simp [h00, o_i, f_a]
  refine (c102 k hk t (by omega) (by omega)).use hH ?_
  try simp [h00, o_i, f_a]
  refine sq ?_
  refine sq ?_
  refine at_regK [2, 3, 4, 17] rfl ?_
  try simp [h00, o_i, f_a]
  refine at_cond rfl rfl (fun hb17 => ?_) (fun hb17 => ?_)
  ·
   try simp at hb17
   refine sq ?_
   refine at_regK [4] rfl ?_
   try simp [h00, o_i, f_a]
   refine at_ret (by kernel_rfl) ?_
   try simp [h00, o_i, f_a]
   simp [fitsM, hck, hb17, eKp]
  ·
   try simp at hb17
   have ht := told_iff.1 hb17
   have hlt := tiesLen k
   have nl := r.nl; have nd := r.nd; have nw := r.nw
   have hm : (marksM k : Int) = 1 + k.loads.length + k.draws.length := by simp [marksM]
   have hlen : ((htsT t).length : Int) = marksM k := by have := ht.ll; have := ht.dl; rw [htsT_len]; omega
   refine at_skip (by kernel_rfl) ?_
   try simp [h00, o_i, f_a]
   refine sq ?_
   refine at_draw [4] [1, 1, 1, 1, 1, 3] [] rfl Efol (by kernel_rfl) (by simp) ?_
   try simp [h00, o_i, f_a]
   refine (c104 k hk o f.lo).draw hH ?_
   try simp [h00, o_i, f_a]
   refine (c105 t h1 h2 ht.l ht.d).draw hH ?_
   try simp [h00, o_i, f_a]
   refine (c103 (tiesM k) (by omega) (htsT t) (by omega) (fun x hx => by rw [hlen]; obtain ⟨g0, g1, g2, g3, _⟩ := ties_in r x hx; exact ⟨g0, g1, g2, g3⟩) (htsT_b ht h1 h2)).draw hH ?_
   try simp [h00, o_i, f_a]
   refine at_ret (by kernel_rfl) ?_
   try simp [h00, o_i, f_a]
   rw [kept_eq r ht]
   unfold fitsM
   simp only [hck, hb17, ne_eq, not_true_eq_false, if_false, Bool.true_eq_false]
   split <;> exact ⟨rfl, rfl, rfl⟩

theorem c59 (a b : List Tie) (ha : a.length ≤ 1000) (hb : b.length ≤ 1000) : Con E 59 [eTies a, eTies b] (.bool (decide (a = b))) := by
 intro n H hH
 have h00 := hh3 hH
 have ⟨hHs, hH', hpl⟩ := h00
 refine at_start (fn := Tryz.f59) [.tmp 4] 26 H.length rfl rfl rfl rfl (by kernel_rfl) (by kernel_rfl) (by simp) (Nat.le_refl _) ?_
 refine sq ?_
 refine at_regK [0, 1] rfl ?_
 try simp [h00, o_i, f_a]
 refine sq ?_
 refine sq ?_
 refine at_regK [0, 1, 10] rfl ?_
 try simp [h00, o_i, f_a]
 refine at_cond rfl rfl (fun hb10 => ?_) (fun hb10 => ?_)
 ·
  try simp at hb10
  refine sq ?_
  refine at_regK [4] rfl ?_
  try simp [h00, o_i, f_a]
  refine at_ret (by kernel_rfl) ?_
  try simp [h00, o_i, f_a]
  intro h; rw [h] at hb10; exact hb10 rfl
 ·
  try simp at hb10
  refine at_skip (by kernel_rfl) ?_
  try simp [h00, o_i, f_a]
  refine sq ?_
  refine sq ?_
  refine at_regK [0, 1, 5] rfl ?_
  try simp [h00, o_i, f_a]
  refine at_block rfl ?_
  have hll : a.length = b.length := by omega
  refine at_count a.length (fun i s => a.take i = b.take i ∧ s = ⟨[(0, eTies a), (1, eTies b), (5, I i)], [], H⟩) rfl ⟨by simp, rfl⟩ ?_
  rintro i s hi ⟨hab, rfl⟩
  refine sq ?_
  refine sq ?_
  refine at_regK [0, 1, 5, 14] rfl ?_
  try simp [h00, o_i, f_a]
  refine at_cond rfl rfl (fun hb14 => ?_) (fun hb14 => ?_)
  ·
   try simp at hb14
   obtain ⟨x, hx⟩ : ∃ x, a[i]? = some x := ⟨_, List.getElem?_eq_getElem (by omega)⟩
   obtain ⟨y, hy⟩ : ∃ x, b[i]? = some x := ⟨_, List.getElem?_eq_getElem (by omega)⟩
   have i0 : (i : Int) < a.length := by omega
   have i1 : (i : Int) < b.length := by omega
   refine at_skip (by kernel_rfl) ?_
   try simp [h00, o_i, f_a, hx, hy, i0, i1]
   refine sq ?_
   refine at_block rfl ?_
   refine sq ?_
   refine at_draw [0, 1, 5, 25] [0, 0, 0, 1, 0, 0, 0, 1, 0] [] rfl Efol (by kernel_rfl) (by simp) ?_
   try simp [h00, o_i, f_a, hx, hy, i0, i1]
   refine at_cond rfl rfl (fun hb25 => ?_) (fun hb25 => ?_)
   ·
    try simp at hb25
    refine sq ?_
    refine at_regK [4] rfl ?_
    try simp [h00, o_i, f_a, hx, hy, i0, i1]
    refine at_ret (by kernel_rfl) ?_
    try simp [h00, o_i, f_a, hx, hy, i0, i1]
    intro h; rw [h, hy] at hx; cases hx; exact hb25 rfl
   ·
    try simp at hb25
    refine at_skip (by kernel_rfl) ?_
    try simp [h00, o_i, f_a, hx, hy, i0, i1]
    refine at_regK [0, 1, 5] rfl ?_
    try simp [h00, o_i, f_a, hx, hy, i0, i1]
    refine ⟨hb14, ?_, wrap_id (by omega) (by omega)⟩
    rw [List.take_add_one, List.take_add_one, hx, hy, hab, hb25]
  ·
   try simp at hb14
   refine at_exit rfl ?_
   try simp [h00, o_i, f_a]
   refine sq ?_
   refine at_regK [4] rfl ?_
   try simp [h00, o_i, f_a]
   refine at_ret (by kernel_rfl) ?_
   try simp [h00, o_i, f_a]
   rw [List.take_of_length_le hb14, List.take_of_length_le (by omega)] at hab
   exact hab
end Go.Abs
/- Contracts: the specification's table. -/
set_option linter.unusedVariables false
set_option linter.unusedSimpArgs false
set_option maxRecDepth 100000
set_option maxHeartbeats 2000000
namespace Go.Abs
open Go.RowKit Go.Proofs Go.Shaft
attribute [simp] ti22 ti23 ti24 ti26 ti30 ti42 ti45 ti52 ti122 ti125 ti88 ti92 ti46
attribute [simp] ti134 ti131 ti48 ti60 ti178 ti99 ti85 ti143 ti189 ti190 ti192 ti204 ti208 ti218 ti9 ti5 ti27 ti28 ti141 ti30 ti45
def ownL (i n : Nat) : List AV := (List.range i).map fun q => .own false (q + 1) n
def rowO (r : List Int) : AO := .row 1 (r.map I)
/-- A table of own rows: the row of rows first. -/
def LT (i n : Nat) (D : Tb) : List AO := .row 1 (ownL i n) :: D.map rowO
@[simp] theorem ownL_len (i n : Nat) : (ownL i n).length = i := by simp [ownL]
theorem ownL_succ (i n : Nat) : ownL (i + 1) n = ownL i n ++ [.own false (i + 1) n] := by simp [ownL, List.range_succ]
theorem ownL_at {i n q : Nat} (h : q < i) : (ownL i n)[q]? = some (.own false (q + 1) n) := by simp [ownL, h]
theorem ownL_ok {i n m : Nat} (h : i < m) : AV.oks (pl m) (ownL i n) = true := by
  rw [oks_eq, List.all_eq_true]
  intro v hv
  simp only [ownL, List.mem_map, List.mem_range] at hv
  obtain ⟨q, hq, rfl⟩ := hv
  simp [pl]
  omega
@[simp] theorem LT_len (i n : Nat) (D : Tb) : (LT i n D).length = D.length + 1 := by simp [LT]
@[simp] theorem LT_0 (i n : Nat) (D : Tb) (L : List AO) : (LT i n D ++ L)[0]? = some (.row 1 (ownL i n)) := rfl
@[simp] theorem LT_0' (i n : Nat) (D : Tb) : (LT i n D)[0]? = some (.row 1 (ownL i n)) := rfl
@[simp] theorem LT_g0 (i n : Nat) (D : Tb) (p) : (LT i n D)[0]'p = .row 1 (ownL i n) := rfl
@[simp] theorem LT_s0 (i n : Nat) (D : Tb) (vs : List AV) : (LT i n D).set 0 (.row 1 vs) = .row 1 vs :: D.map rowO := rfl
theorem LT_row {n i : Nat} {D : Tb} {r : List Int} (m : Nat) (h : D[i]? = some r) : (LT m n D)[i + 1]? = some (.row 1 (r.map I)) := by simp [LT, h, rowO]
theorem LT_set (m n i : Nat) (D : Tb) (r : List Int) : (LT m n D).set (i + 1) (.row 1 (r.map I)) = LT m n (D.set i r) := by simp [LT, rowO, List.map_set]
theorem LT_set0 (m n : Nat) (D : Tb) (L : List AO) (vs : List AV) : (LT m n D ++ L).set 0 (.row 1 vs) = .row 1 vs :: (D.map rowO ++ L) := rfl
theorem LTa_get {m n i : Nat} {D : Tb} (h : D.length = i) (r : AO) (L : List AO) : (LT m n D ++ r :: L)[i + 1]? = some r := by
  rw [List.getElem?_append_right (by simp; omega)]
  simp [h]
theorem LTa_set {m n i : Nat} {D : Tb} (h : D.length = i) (r r' : AO) (L : List AO) : (LT m n D ++ r :: L).set (i + 1) r' = LT m n D ++ r' :: L := by
  rw [List.set_append_right _ _ (by simp; omega)]
  simp [h]
theorem LTa_take {m n i : Nat} {D : Tb} (h : D.length = i) (r : AO) (L : List AO) : (LT m n D ++ r :: L).take (i + 2) = LT m n D ++ [r] := by
  rw [List.take_append, List.take_of_length_le (by simp; omega)]
  simp [h]
theorem LT_ok {i n m : Nat} {D : Tb} (h : i < m) (hD : D.length < m) : ∀ o ∈ LT i n D, o.ok (pl m) = true := by
  intro o ho
  simp only [LT, List.mem_cons, List.mem_map] at ho
  rcases ho with rfl | ⟨r, _, rfl⟩
  · exact ownL_ok h
  · simp [rowO, AO.ok]
theorem LT_set2 (m n i b : Nat) (D : Tb) (r : List Int) (v : Int) : (LT m n D).set (i + 1) (.row 1 ((r.map I).set b (I v))) = LT m n (D.set i (r.set b v)) := by rw [← List.map_set, LT_set]
theorem LT_next (i z : Nat) (D : Tb) (x : AO) : .row 1 (ownL i z ++ [.own false (i + 1) z]) :: (D.map rowO ++ [.row 1 ((List.replicate z (I farT)).set i (.int .i64 0)), x]) = LT (i + 1) z (D ++ [rowT z i]) ++ [x] := by simp [LT, ownL_succ, rowO, rowT, List.map_set]
theorem LT_take1 {m n i : Nat} {D : Tb} (h : D.length = i) (x : AO) : (LT m n D ++ [x]).take (i + 1) = LT m n D := by
  rw [List.take_append, List.take_of_length_le (by simp; omega)]
  simp [h]
def eTb (D : Tb) : AV := .lit 1 (D.map eInts)
@[simp] theorem eTb_ok (p : Bool → Nat → Bool) (D : Tb) : (eTb D).ok p = true := by
  rw [eTb, AV.ok, oks_eq, List.all_eq_true]
  intro v hv
  obtain ⟨r, _, rfl⟩ := List.mem_map.1 hv
  simp
@[simp] theorem eTb_solid (D : Tb) : (eTb D).solid = true := rfl
@[simp] theorem eTb_agg (D : Tb) : (eTb D).isAgg = false := rfl
@[simp] theorem eTb_size (D : Tb) : (eTb D).size = 1 := rfl
@[simp] theorem eTb_notTup (D : Tb) : notTup (eTb D) = true := rfl
@[simp] theorem lenV_eTb (D : Tb) : lenV (eTb D) = some D.length := by simp [eTb, lenV]
@[simp] theorem pIx_B {s : AS} {e : TypeId} {a b : Nat} {z : AV} {k : IntKind} {n : Int} {K : AV → AS → Prop} (D : Tb) : pIndexAddr s ⟨.slice 1 e, a, b, z⟩ (eTb D) (.int k n) K = (0 ≤ n ∧ got D[n.toNat]? fun r => K (.pin (eInts r)) s) := by
  rw [eTb, pIx_lit]
  simp [got, List.getElem?_map]
  cases D[n.toNat]? <;> simp
def frowO (r : List Int) : AO := .frow 1 (r.map I)
def LM (k z : Nat) (D : Tb) : List AO := .row 1 ((D.take k).map eInts ++ (ownL z z).drop k) :: ((D.take k).map frowO ++ (D.drop k).map rowO)
theorem LM_zero (z : Nat) (D : Tb) : LM 0 z D = LT z z D := by simp [LM, LT]
theorem LM_step {k z : Nat} {D : Tb} (hl : D.length = z) (hr : ∀ r ∈ D, r.length = z) (hk : k < z) (T : List (Nat × AV)) (H : List AO) : Leads ⟨T, LM k z D, H⟩ ⟨T, LM (k + 1) z D, H⟩ := by
  obtain ⟨r, hrk⟩ : ∃ r, D[k]? = some r := ⟨_, List.getElem?_eq_getElem (by omega)⟩
  have hrl := hr r (List.mem_of_getElem? hrk)
  have hdr : D.drop k = r :: D.drop (k + 1) := by
    have := List.drop_eq_getElem_cons (show k < D.length by omega)
    rw [this]
    congr 1
    exact (List.getElem?_eq_some_iff.1 hrk).2
  have hdo : (ownL z z).drop k = .own false (k + 1) z :: (ownL z z).drop (k + 1) := by
    have := List.drop_eq_getElem_cons (show k < (ownL z z).length by simp; omega)
    rw [this]
    congr 1
    exact (List.getElem?_eq_some_iff.1 (ownL_at (n := z) hk)).2
  have htl : (D.take k).length = k := by simp; omega
  have g1 : (LM k z D)[k + 1]? = some (.row 1 (r.map I)) := by
    rw [LM, List.getElem?_cons_succ, List.getElem?_append_right (by simp; omega), hdr]
    simp [htl, rowO, hl, show k - min k z = 0 by omega]
  have g2 : ((D.take k).map eInts ++ (ownL z z).drop k)[k]? = some (.own false (k + 1) (r.map I).length) := by
    rw [List.getElem?_append_right (by simp; omega), hdo]
    simp [hl, hrl, show k - min k z = 0 by omega]
  have h := leads_freezeR (s := ⟨T, LM k z D, H⟩) (q := k + 1) (j := 0) (i := k) g1 rfl (by omega) g2
  have e : ((LM k z D).set (k + 1) (.frow 1 (r.map I))).set 0 (.row 1 (((D.take k).map eInts ++ (ownL z z).drop k).set k (.lit 1 (r.map I)))) = LM (k + 1) z D := by
    have e1 : D.take (k + 1) = D.take k ++ [r] := by rw [List.take_add_one, hrk]; rfl
    have e2 : ((D.take k).map eInts ++ (ownL z z).drop k).set k (.lit 1 (r.map I)) = (D.take (k + 1)).map eInts ++ (ownL z z).drop (k + 1) := by
      rw [List.set_append_right _ _ (by simp; omega), hdo, e1]
      simp [hl, show k - min k z = 0 by omega, eInts]
    rw [e2, LM, List.set_cons_succ, List.set_append_right _ _ (by simp; omega), hdr, LM, e1]
    simp [hl, show k - min k z = 0 by omega, frowO]
  rw [← e]
  exact h
theorem LM_all {z : Nat} {D : Tb} (hl : D.length = z) (hr : ∀ r ∈ D, r.length = z) (T : List (Nat × AV)) (H : List AO) : ∀ k, k ≤ z → Leads ⟨T, LT z z D, H⟩ ⟨T, LM k z D, H⟩
  | 0, _ => by rw [LM_zero]; exact fun x N c0 H0 c a h0 hi => ⟨c, rfl, hi⟩
  | k + 1, h => (LM_all hl hr T H k (by omega)).trans (LM_step hl hr (by omega) T H)
/-- A table of own rows is frozen. -/
theorem leads_tab {z : Nat} {D : Tb} (hl : D.length = z) (hr : ∀ r ∈ D, r.length = z) {H : List AO} (hH : ∀ o ∈ H, o.ok (pl 0) = true) : Leads ⟨[(0, I z), (6, .own false 0 z), (14, I 0)], LT z z D, H⟩ ⟨[(0, I z), (6, eTb D), (14, I 0)], [], H⟩ := by
  refine (LM_all hl hr _ H z (Nat.le_refl _)).trans ?_
  have e : LM z z D = .row 1 (D.map eInts) :: D.map frowO := by
    rw [LM, List.take_of_length_le (by omega), List.drop_of_length_le (by simp), List.drop_of_length_le (by omega)]
    simp
  rw [e]
  refine (leads_freeze 6 0 rfl rfl (by simp [hl])).trans ?_
  exact leads_cutK (n := 0) (ks := [0, 6, 14]) ⟨by
    intro k hk
    simp at hk
    rcases hk with rfl | rfl | rfl <;> simp [AS.get]
    exact eTb_ok _ _, by simp, hH⟩
theorem _root_.Go.Shaft.Bd.rows {z : Nat} {D : Tb} (b : Bd z D) : ∀ r ∈ D, r.length = z := by
  intro r hr
  obtain ⟨i, hi⟩ := List.getElem?_of_mem hr
  have hl := (List.getElem?_eq_some_iff.1 hi).1
  have := b.row i (by rw [← b.len]; exact hl)
  rw [List.getD_eq_getElem?_getD, hi] at this
  exact this
theorem d0T_succ (n i : Nat) : (List.range (i + 1)).map (rowT n) = (List.range i).map (rowT n) ++ [rowT n i] := by simp [List.range_succ]

theorem c133 (z : Nat) (hz : z ≤ 1000) (l : List Tie) (hl : l.length ≤ 1000) (hin : ∀ t ∈ l, 0 ≤ t.frm ∧ t.frm < z ∧ 0 ≤ t.to ∧ t.to < z ∧ -16777216 ≤ t.most ∧ t.most ≤ 16777216) : Con E 133 [I z, eTies l] (.tup [eTb (tabT z l), .bool (okT z (tabT z l))]) := by
  intro n H hH
  have h00 := hh3 hH
  have ⟨hHs, hH', hpl⟩ := h00
  refine at_start (fn := Tryz.f133) [.tmp 4, .tmp 5] 154 H.length rfl rfl rfl rfl (by kernel_rfl) (by kernel_rfl) (by simp) (Nat.le_refl _) ?_
  refine sq ?_
  refine at_regK [0, 1] rfl ?_
  try simp [h00, o_i, f_a]
  refine sq ?_
  refine at_regK [0, 1, 6] rfl ?_
  try simp [h00, o_i, f_a]
  refine sq ?_
  refine sq ?_
  refine at_regK [0, 1, 6, 7] rfl ?_
  try simp [h00, o_i, f_a]
  refine at_block rfl ?_
  refine at_leads (leads_nilT 6 1 rfl (by decide)) ?_
  refine at_leads (leads_keep _ [0, 1, 6, 7]) ?_
  simp
  refine at_count z (fun i s => s = ⟨[(0, I z), (1, eTies l), (6, .own false 0 i), (7, I i)], LT i z ((List.range i).map (rowT z)), H⟩) rfl (by simp [LT, ownL]) ?_
  rintro i s hi rfl
  obtain ⟨D, hD⟩ : ∃ D, D = (List.range i).map (rowT z) := ⟨_, rfl⟩
  have hDl : D.length = i := by rw [hD]; simp
  rw [← hD]
  have hL0 := ownL_len i z
  have hk2 : (∀ o ∈ LT i z D, o.ok (pl (i + 2)) = true) ↔ True := iff_true_intro (LT_ok (by omega) (by omega))
  have hk3 : (∀ o ∈ LT (i + 1) z ((List.range (i + 1)).map (rowT z)), o.ok (pl (i + 2)) = true) ↔ True := iff_true_intro (LT_ok (by omega) (by simp))
  have hDl3 : ((List.range (i + 1)).map (rowT z)).length = i + 1 := by simp
  refine sq ?_
  refine sq ?_
  refine at_regK [0, 1, 6, 7, 17] rfl ?_
  try simp [h00, o_i, f_a]
  refine at_cond rfl rfl (fun hb17 => ?_) (fun hb17 => ?_)
  ·
    try simp at hb17
    refine at_skip (by kernel_rfl) ?_
    try simp [h00, o_i, f_a, hb17]
    refine sq ?_
    refine at_block rfl ?_
    refine sq ?_
    refine at_regK [0, 1, 6, 7, 8] rfl ?_
    try simp [h00, o_i, f_a, hb17]
    refine sq ?_
    refine sq ?_
    refine at_regK [0, 1, 6, 7, 8, 9] rfl ?_
    try simp [h00, o_i, f_a, hb17]
    refine at_block rfl ?_
    refine at_leads (leads_nilT 8 1 rfl (by decide)) ?_
    refine at_leads (leads_keep _ [0, 1, 6, 7, 8, 9]) ?_
    simp [hDl]
    refine at_count z (fun j s => s = ⟨[(0, I z), (1, eTies l), (6, .own false 0 i), (7, I i), (8, .own false (i + 1) j), (9, I j)], LT i z D ++ [.row 1 ((List.replicate j farT).map I)], H⟩) rfl (by simp) ?_
    rintro j s hj rfl
    refine sq ?_
    refine sq ?_
    refine at_regK [0, 1, 6, 7, 8, 9, 22] rfl ?_
    try simp [h00, o_i, f_a, hb17]
    refine at_cond rfl rfl (fun hb22 => ?_) (fun hb22 => ?_)
    ·
      try simp at hb22
      refine at_skip (by kernel_rfl) ?_
      try simp [h00, o_i, f_a, hb17]
      refine sq ?_
      refine at_block rfl ?_
      refine at_regK [0, 1, 6, 7, 8, 9] rfl ?_
      try simp [h00, o_i, f_a, LTa_get hDl, LTa_set hDl, hb17]
      refine ⟨by omega, ?_⟩
      refine at_regC (i + 2) [0, 1, 6, 7, 8, 9] rfl ?_
      try simp [h00, o_i, f_a, LTa_take hDl, hk2, hb17]
      refine ⟨hb22, wrap_id (by omega) (by omega), ?_⟩
      rw [List.replicate_succ']
      rfl
    ·
      try simp at hb22
      have hjz : j = z := by omega
      rw [hjz]
      refine at_exit rfl ?_
      try simp [h00, o_i, f_a, hb17]
      refine sq ?_
      refine at_regK [0, 1, 6, 7, 8] rfl ?_
      try simp [h00, o_i, f_a, LTa_get hDl, LTa_set hDl, hb17]
      refine at_regK [0, 1, 6, 7] rfl ?_
      try simp [h00, o_i, f_a, LTa_get hDl, LTa_set hDl, LT_set0, hb17]
      refine ⟨by omega, ?_⟩
      rw [LT_next, hD, ← d0T_succ]
      refine at_regC (i + 2) [0, 1, 6, 7] rfl ?_
      try simp [h00, o_i, f_a, LT_take1 hDl3, hk3, hb17]
      exact wrap_id (by omega) (by omega)
  ·
    try simp at hb17
    have hiz : i = z := by omega
    rw [hD, hiz]
    refine at_exit rfl ?_
    try simp [h00, o_i, f_a]
    refine sq ?_
    refine sq ?_
    refine at_regK [0, 1, 6, 10] rfl ?_
    try simp [h00, o_i, f_a]
    refine at_block rfl ?_
    have hd0 := Bd.d0 z
    refine at_count l.length (fun q s => s = ⟨[(0, I z), (1, eTies l), (6, .own false 0 z), (10, I q)], LT z z ((l.take q).foldl putT (d0T z)), H⟩) rfl (by simp [d0T]) ?_
    rintro q s hq rfl
    obtain ⟨F, hE⟩ : ∃ D, D = (l.take q).foldl putT (d0T z) := ⟨_, rfl⟩
    have bE : Bd z F := by rw [hE]; exact (puts_mono _ (fun t ht => hin t (List.mem_of_mem_take ht)) hd0).1
    rw [← hE]
    refine sq ?_
    refine sq ?_
    refine at_regK [0, 1, 6, 10, 38] rfl ?_
    try simp [h00, o_i, f_a]
    refine at_cond rfl rfl (fun hb38 => ?_) (fun hb38 => ?_)
    ·
      try simp at hb38
      obtain ⟨t, ht⟩ : ∃ t, l[q]? = some t := ⟨_, List.getElem?_eq_getElem (by omega)⟩
      have q0 : (q : Int) < l.length := by omega
      have wq : IntKind.i64.wrap ((q : Int) + 1) = (q : Int) + 1 := wrap_id (by omega) (by omega)
      obtain ⟨f0, f1, g0, g1, _⟩ := hin t (List.mem_of_getElem? ht)
      obtain ⟨a, ha⟩ : ∃ a : Nat, t.frm = a := ⟨t.frm.toNat, by omega⟩
      obtain ⟨b, hb⟩ : ∃ a : Nat, t.to = a := ⟨t.to.toNat, by omega⟩
      have az : a < z := by omega
      have bz : b < z := by omega
      have hEl := bE.len
      obtain ⟨r, hr⟩ : ∃ r, F[a]? = some r := ⟨_, List.getElem?_eq_getElem (by omega)⟩
      have hrl : r.length = z := by have := bE.row a az; rw [List.getD_eq_getElem?_getD, hr] at this; exact this
      obtain ⟨v, hv⟩ : ∃ v, r[b]? = some v := ⟨_, List.getElem?_eq_getElem (by omega)⟩
      have hgr : F.getD a [] = r := by rw [List.getD_eq_getElem?_getD, hr]; rfl
      have hv2 : g2 F a b = v := by rw [g2, hgr, List.getD_eq_getElem?_getD, hv]; rfl
      have hLr := LT_row (n := z) z hr
      have hst : F.set a (r.set b (if t.most < v then t.most else v)) = (l.take (q + 1)).foldl putT (d0T z) := by
        rw [List.take_add_one, ht]
        simp only [Option.toList_some, List.foldl_append, List.foldl_cons, List.foldl_nil]
        rw [← hE, putT, s2, ha, hb]
        simp only [Int.toNat_natCast]
        rw [hgr, hv2]
        rfl
      have hox := ownL_at (n := z) az
      have hox' : ∀ p, (ownL z z)[a]'p = .own false (a + 1) z := fun p => (List.getElem?_eq_some_iff.1 hox).2
      have hLr' : ∀ p, (LT z z F)[a + 1]'p = .row 1 (r.map I) := fun p => (List.getElem?_eq_some_iff.1 hLr).2
      have hv' : ∀ p, r[b]'p = v := fun p => (List.getElem?_eq_some_iff.1 hv).2
      refine at_skip (by kernel_rfl) ?_
      try simp [h00, o_i, f_a, ht, q0, wq, ha, hb, az, bz, hEl, hrl, hv, hLr, hox, hox', hLr', hv', LT_set2]
      refine sq ?_
      refine at_block rfl ?_
      refine at_draw [0, 1, 6, 10] [0, 0, 0, 0, 0, 1, 0, 1, 0, 0, 0, 0, 1, 0, 0, 0, 0, 0, 1, 0, 1, 0, 0, 0, 0, 1, 0, 1, 0, 0, 0, 0, 1, 0, 0, 3] [] rfl Efol (by kernel_rfl) (by simp) ?_
      try simp [h00, o_i, f_a, ht, q0, wq, ha, hb, az, bz, hEl, hrl, hv, hLr, hox, hox', hLr', hv', LT_set2]
      refine at_regK [0, 1, 6, 10] rfl ?_
      try simp [h00, o_i, f_a, ht, q0, wq, ha, hb, az, bz, hEl, hrl, hv, hLr, hox, hox', hLr', hv', LT_set2]
      rw [hst]
      exact ⟨hb38, rfl⟩
    ·
      try simp at hb38
      have hql : l.take q = l := List.take_of_length_le (by omega)
      rw [hE, hql]
      refine at_exit rfl ?_
      try simp [h00, o_i, f_a]
      refine sq ?_
      refine sq ?_
      refine at_regK [0, 6, 11] rfl ?_
      try simp [h00, o_i, f_a]
      refine at_block rfl ?_
      obtain ⟨G0, hG0⟩ : ∃ D, D = l.foldl putT (d0T z) := ⟨_, rfl⟩
      have bG0 : Bd z G0 := by rw [hG0]; exact (puts_mono l hin hd0).1
      rw [← hG0]
      refine at_count z (fun m s => s = ⟨[(0, I z), (6, .own false 0 z), (11, I m)], LT z z (itr (roundT z) m G0), H⟩) rfl (by simp [itr]) ?_
      rintro m s hm rfl
      obtain ⟨G1, hG1⟩ : ∃ D, D = itr (roundT z) m G0 := ⟨_, rfl⟩
      have bG1 : Bd z G1 := by rw [hG1]; exact (itr_mono (fun k d hk b => roundT_mono hk b) bG0 m hm).1
      rw [← hG1]
      refine sq ?_
      refine sq ?_
      refine at_regK [0, 6, 11, 78] rfl ?_
      try simp [h00, o_i, f_a]
      refine at_cond rfl rfl (fun hb78 => ?_) (fun hb78 => ?_)
      ·
        try simp at hb78
        refine at_skip (by kernel_rfl) ?_
        try simp [h00, o_i, f_a, hb78]
        refine sq ?_
        refine at_block rfl ?_
        refine sq ?_
        refine at_regK [0, 6, 11, 12] rfl ?_
        try simp [h00, o_i, f_a, hb78]
        refine at_block rfl ?_
        refine at_count z (fun i s => s = ⟨[(0, I z), (6, .own false 0 z), (11, I m), (12, I i)], LT z z (itr (lineT z m) i G1), H⟩) rfl (by simp [itr]) ?_
        rintro i s hi rfl
        obtain ⟨G2, hG2⟩ : ∃ D, D = itr (lineT z m) i G1 := ⟨_, rfl⟩
        have bG2 : Bd z G2 := by rw [hG2]; exact (itr_mono (fun k d hk b => line_mono hb78 hk b) bG1 i hi).1
        rw [← hG2]
        refine sq ?_
        refine sq ?_
        refine at_regK [0, 6, 11, 12, 83] rfl ?_
        try simp [h00, o_i, f_a, hb78]
        refine at_cond rfl rfl (fun hb83 => ?_) (fun hb83 => ?_)
        ·
          try simp at hb83
          refine at_skip (by kernel_rfl) ?_
          try simp [h00, o_i, f_a, hb78, hb83]
          refine sq ?_
          refine at_block rfl ?_
          refine sq ?_
          refine at_regK [0, 6, 11, 12, 13] rfl ?_
          try simp [h00, o_i, f_a, hb78, hb83]
          refine at_block rfl ?_
          refine at_count z (fun j s => s = ⟨[(0, I z), (6, .own false 0 z), (11, I m), (12, I i), (13, I j)], LT z z (itr (Go.Shaft.stepT m i) j G2), H⟩) rfl (by simp [itr]) ?_
          rintro j s hj rfl
          obtain ⟨G3, hG3⟩ : ∃ D, D = itr (Go.Shaft.stepT m i) j G2 := ⟨_, rfl⟩
          have bG3 : Bd z G3 := by rw [hG3]; exact (itr_mono (fun k d hk b => step_mono b hb78 hb83 hk) bG2 j hj).1
          rw [← hG3]
          refine sq ?_
          refine sq ?_
          refine at_regK [0, 6, 11, 12, 13, 88] rfl ?_
          try simp [h00, o_i, f_a, hb78, hb83]
          refine at_cond rfl rfl (fun hb88 => ?_) (fun hb88 => ?_)
          ·
            try simp at hb88
            have wj : IntKind.i64.wrap ((j : Int) + 1) = (j : Int) + 1 := wrap_id (by omega) (by omega)
            have hGl := bG3.len
            obtain ⟨r, hr⟩ : ∃ r, G3[i]? = some r := ⟨_, List.getElem?_eq_getElem (by omega)⟩
            obtain ⟨w, hw⟩ : ∃ r, G3[m]? = some r := ⟨_, List.getElem?_eq_getElem (by omega)⟩
            have hgr : G3.getD i [] = r := by rw [List.getD_eq_getElem?_getD, hr]; rfl
            have hgw : G3.getD m [] = w := by rw [List.getD_eq_getElem?_getD, hw]; rfl
            have hrl : r.length = z := by rw [← hgr]; exact bG3.row i hb83
            have hwl : w.length = z := by rw [← hgw]; exact bG3.row m hb78
            obtain ⟨v0, hv0⟩ : ∃ v, r[j]? = some v := ⟨_, List.getElem?_eq_getElem (by omega)⟩
            obtain ⟨v1, hv1⟩ : ∃ v, r[m]? = some v := ⟨_, List.getElem?_eq_getElem (by omega)⟩
            obtain ⟨v2, hv2⟩ : ∃ v, w[j]? = some v := ⟨_, List.getElem?_eq_getElem (by omega)⟩
            have e0 : g2 G3 i j = v0 := by rw [g2, hgr, List.getD_eq_getElem?_getD, hv0]; rfl
            have e1 : g2 G3 i m = v1 := by rw [g2, hgr, List.getD_eq_getElem?_getD, hv1]; rfl
            have e2 : g2 G3 m j = v2 := by rw [g2, hgw, List.getD_eq_getElem?_getD, hv2]; rfl
            have b1 := bG3.lo i m hb83 hb78
            have b2 := bG3.lo m j hb78 hb88
            have b3 := bG3.hi i m hb83 hb78
            have b4 := bG3.hi m j hb78 hb88
            have hfar : farT = 1099511627776 := rfl
            rw [e1] at b1 b3
            rw [e2] at b2 b4
            have ww : IntKind.i64.wrap (v1 + v2) = v1 + v2 := wrap_id (by omega) (by omega)
            have hLi := LT_row (n := z) z hr
            have hLm := LT_row (n := z) z hw
            have hLi' : ∀ p, (LT z z G3)[i + 1]'p = .row 1 (r.map I) := fun p => (List.getElem?_eq_some_iff.1 hLi).2
            have hLm' : ∀ p, (LT z z G3)[m + 1]'p = .row 1 (w.map I) := fun p => (List.getElem?_eq_some_iff.1 hLm).2
            have hoi := ownL_at (n := z) hb83
            have hom := ownL_at (n := z) hb78
            have hoi' : ∀ p, (ownL z z)[i]'p = .own false (i + 1) z := fun p => (List.getElem?_eq_some_iff.1 hoi).2
            have hom' : ∀ p, (ownL z z)[m]'p = .own false (m + 1) z := fun p => (List.getElem?_eq_some_iff.1 hom).2
            have hv0' : ∀ p, r[j]'p = v0 := fun p => (List.getElem?_eq_some_iff.1 hv0).2
            have hv1' : ∀ p, r[m]'p = v1 := fun p => (List.getElem?_eq_some_iff.1 hv1).2
            have hv2' : ∀ p, w[j]'p = v2 := fun p => (List.getElem?_eq_some_iff.1 hv2).2
            have hnx : itr (Go.Shaft.stepT m i) (j + 1) G2 = Go.Shaft.stepT m i j G3 := by rw [hG3]; rfl
            refine at_skip (by kernel_rfl) ?_
            try simp [h00, o_i, f_a, hb78, hb83, hb88, wj, hGl, hrl, hwl, hv0, hv1, hv2, ww, hLi, hLm, hLi', hLm', hoi, hom, hoi', hom', hv0', hv1', hv2', LT_set2]
            refine sq ?_
            refine at_block rfl ?_
            refine sq ?_
            refine at_regK [0, 6, 11, 12, 13, 108] rfl ?_
            try simp [h00, o_i, f_a, hb78, hb83, hb88, wj, hGl, hrl, hwl, hv0, hv1, hv2, ww, hLi, hLm, hLi', hLm', hoi, hom, hoi', hom', hv0', hv1', hv2', LT_set2]
            refine pops_split 99 rfl (fun hg1 => ?_) (fun hg1 => ?_)
            ·
              try simp [h00, o_i, f_a, hb78, hb83, hb88, wj, hGl, hrl, hwl, hv0, hv1, hv2, ww, hLi, hLm, hLi', hLm', hoi, hom, hoi', hom', hv0', hv1', hv2', LT_set2, hg1]
              refine at_cond rfl rfl (fun hb108 => ?_) (fun hb108 => ?_)
              ·
                try simp at hb108
                refine at_draw [0, 6, 11, 12, 13] [0, 0, 0, 1, 0, 0, 0, 0, 1, 0, 0, 1, 0, 0, 0, 1, 0, 0, 1, 0, 0, 0, 1, 0, 0, 1, 0, 0, 0, 0, 3] [] rfl Efol (by kernel_rfl) (by simp) ?_
                try simp [h00, o_i, f_a, hb78, hb83, hb88, wj, hGl, hrl, hwl, hv0, hv1, hv2, ww, hLi, hLm, hLi', hLm', hoi, hom, hoi', hom', hv0', hv1', hv2', LT_set2]
                refine at_regK [0, 6, 11, 12, 13] rfl ?_
                try simp [h00, o_i, f_a, hb78, hb83, hb88, wj, hGl, hrl, hwl, hv0, hv1, hv2, ww, hLi, hLm, hLi', hLm', hoi, hom, hoi', hom', hv0', hv1', hv2', LT_set2]
                try simp at hg1
                have hky : Go.Shaft.stepT m i j G3 = if v1 < farT ∧ v2 < farT then G3.set i (r.set j (mxI (-farT) (mnI v0 (v1 + v2)))) else G3 := by rw [Go.Shaft.stepT, e0, e1, e2, s2, hgr]
                rw [hnx, hky]
                first
                | (rw [if_pos (show v1 < farT ∧ v2 < farT by rw [hfar]; omega)]; rfl)
                | rw [if_neg (show ¬ (v1 < farT ∧ v2 < farT) by rw [hfar]; omega)]
              ·
                try simp at hb108
                refine at_skip (by kernel_rfl) ?_
                try simp [h00, o_i, f_a, hb78, hb83, hb88, wj, hGl, hrl, hwl, hv0, hv1, hv2, ww, hLi, hLm, hLi', hLm', hoi, hom, hoi', hom', hv0', hv1', hv2', LT_set2]
                refine at_regK [0, 6, 11, 12, 13] rfl ?_
                try simp [h00, o_i, f_a, hb78, hb83, hb88, wj, hGl, hrl, hwl, hv0, hv1, hv2, ww, hLi, hLm, hLi', hLm', hoi, hom, hoi', hom', hv0', hv1', hv2', LT_set2]
                try simp at hg1
                have hky : Go.Shaft.stepT m i j G3 = if v1 < farT ∧ v2 < farT then G3.set i (r.set j (mxI (-farT) (mnI v0 (v1 + v2)))) else G3 := by rw [Go.Shaft.stepT, e0, e1, e2, s2, hgr]
                rw [hnx, hky]
                first
                | (rw [if_pos (show v1 < farT ∧ v2 < farT by rw [hfar]; omega)]; rfl)
                | rw [if_neg (show ¬ (v1 < farT ∧ v2 < farT) by rw [hfar]; omega)]
            ·
              try simp [h00, o_i, f_a, hb78, hb83, hb88, wj, hGl, hrl, hwl, hv0, hv1, hv2, ww, hLi, hLm, hLi', hLm', hoi, hom, hoi', hom', hv0', hv1', hv2', LT_set2, hg1]
              refine at_cond rfl rfl (fun hb108 => by simp at hb108) (fun hb108 => ?_)
              refine at_skip (by kernel_rfl) ?_
              try simp [h00, o_i, f_a, hb78, hb83, hb88, wj, hGl, hrl, hwl, hv0, hv1, hv2, ww, hLi, hLm, hLi', hLm', hoi, hom, hoi', hom', hv0', hv1', hv2', LT_set2]
              refine at_regK [0, 6, 11, 12, 13] rfl ?_
              try simp [h00, o_i, f_a, hb78, hb83, hb88, wj, hGl, hrl, hwl, hv0, hv1, hv2, ww, hLi, hLm, hLi', hLm', hoi, hom, hoi', hom', hv0', hv1', hv2', LT_set2]
              try simp at hg1
              have hky : Go.Shaft.stepT m i j G3 = if v1 < farT ∧ v2 < farT then G3.set i (r.set j (mxI (-farT) (mnI v0 (v1 + v2)))) else G3 := by rw [Go.Shaft.stepT, e0, e1, e2, s2, hgr]
              rw [hnx, hky]
              first
              | (rw [if_pos (show v1 < farT ∧ v2 < farT by rw [hfar]; omega)]; rfl)
              | rw [if_neg (show ¬ (v1 < farT ∧ v2 < farT) by rw [hfar]; omega)]
          ·
            try simp at hb88
            refine at_exit rfl ?_
            try simp [h00, o_i, f_a, hb78, hb83]
            refine at_regK [0, 6, 11, 12] rfl ?_
            try simp [h00, o_i, f_a, hb78, hb83]
            refine ⟨wrap_id (by omega) (by omega), ?_⟩
            rw [hG3, show j = z by omega, hG2]
            rfl
        ·
          try simp at hb83
          refine at_exit rfl ?_
          try simp [h00, o_i, f_a, hb78]
          refine at_regK [0, 6, 11] rfl ?_
          try simp [h00, o_i, f_a, hb78]
          refine ⟨wrap_id (by omega) (by omega), ?_⟩
          rw [hG2, show i = z by omega, hG1]
          rfl
      ·
        try simp at hb78
        have htb : G1 = tabT z l := by rw [hG1, show m = z by omega, hG0]; rfl
        rw [htb] at bG1 ⊢
        obtain ⟨P, hP⟩ : ∃ P, P = tabT z l := ⟨_, rfl⟩
        rw [← hP] at bG1 ⊢
        refine at_exit rfl ?_
        try simp [h00, o_i, f_a]
        refine sq ?_
        refine sq ?_
        refine at_regK [0, 6, 14] rfl ?_
        try simp [h00, o_i, f_a]
        refine at_block rfl ?_
        refine at_leads (leads_tab bG1.len bG1.rows (okH_pl hH 0)) ?_
        refine at_count z (fun q s => (∀ c, c < q → ¬ g2 P c c < 0) ∧ s = ⟨[(0, I z), (6, eTb P), (14, I q)], [], H⟩) rfl ⟨by omega, rfl⟩ ?_
        rintro q s hq ⟨hno, rfl⟩
        refine sq ?_
        refine sq ?_
        refine at_regK [0, 6, 14, 141] rfl ?_
        try simp [h00, o_i, f_a]
        refine at_cond rfl rfl (fun hb141 => ?_) (fun hb141 => ?_)
        ·
          try simp at hb141
          have wq : IntKind.i64.wrap ((q : Int) + 1) = (q : Int) + 1 := wrap_id (by omega) (by omega)
          have hPl := bG1.len
          obtain ⟨r, hr⟩ : ∃ r, P[q]? = some r := ⟨_, List.getElem?_eq_getElem (by omega)⟩
          have hgr : P.getD q [] = r := by rw [List.getD_eq_getElem?_getD, hr]; rfl
          have hrl : r.length = z := by rw [← hgr]; exact bG1.row q hb141
          obtain ⟨v, hv⟩ : ∃ v, r[q]? = some v := ⟨_, List.getElem?_eq_getElem (by omega)⟩
          have e0 : g2 P q q = v := by rw [g2, hgr, List.getD_eq_getElem?_getD, hv]; rfl
          have hr' : ∀ p, P[q]'p = r := fun p => (List.getElem?_eq_some_iff.1 hr).2
          have hv' : ∀ p, r[q]'p = v := fun p => (List.getElem?_eq_some_iff.1 hv).2
          refine at_skip (by kernel_rfl) ?_
          try simp [h00, o_i, f_a, hb141, wq, hPl, hrl, hr, hv, hr', hv']
          refine sq ?_
          refine at_block rfl ?_
          refine sq ?_
          refine at_regK [0, 6, 14, 151] rfl ?_
          try simp [h00, o_i, f_a, hb141, wq, hPl, hrl, hr, hv, hr', hv']
          refine at_cond rfl rfl (fun hb151 => ?_) (fun hb151 => ?_)
          ·
            try simp at hb151
            refine sq ?_
            refine at_regK [4, 5] rfl ?_
            try simp [h00, o_i, f_a, hb141, wq, hPl, hrl, hr, hv, hr', hv']
            refine at_ret (by kernel_rfl) ?_
            try simp [h00, o_i, f_a, hb141, wq, hPl, hrl, hr, hv, hr', hv']
            first
            | (unfold okT
               rw [List.all_eq_false]
               exact ⟨q, List.mem_range.2 hb141, by simp; omega⟩)
            | (unfold okT
               rw [List.all_eq_true]
               intro c hc
               have := hno c (by have := List.mem_range.1 hc; omega)
               simpa using this)
          ·
            try simp at hb151
            refine at_skip (by kernel_rfl) ?_
            try simp [h00, o_i, f_a, hb141, wq, hPl, hrl, hr, hv, hr', hv']
            refine at_regK [0, 6, 14] rfl ?_
            try simp [h00, o_i, f_a, hb141, wq, hPl, hrl, hr, hv, hr', hv']
            intro c hc
            rcases Nat.lt_or_ge c q with h | h
            · have := hno c h
              omega
            · have : c = q := by omega
              subst this
              rw [e0]
              omega
        ·
          try simp at hb141
          refine at_exit rfl ?_
          try simp [h00, o_i, f_a]
          refine sq ?_
          refine at_regK [4, 5] rfl ?_
          try simp [h00, o_i, f_a]
          refine at_ret (by kernel_rfl) ?_
          try simp [h00, o_i, f_a]
          first
          | (unfold okT
             rw [List.all_eq_false]
             exact ⟨q, List.mem_range.2 hb141, by simp; omega⟩)
          | (unfold okT
             rw [List.all_eq_true]
             intro c hc
             have := hno c (by have := List.mem_range.1 hc; omega)
             simpa using this)
end Go.Abs
/- Contracts: what the specification tells of two marks. -/
set_option linter.unusedVariables false
set_option linter.unusedSimpArgs false
set_option maxRecDepth 100000
set_option maxHeartbeats 2000000
namespace Go.Abs
open Go.RowKit Go.Proofs Go.Shaft
attribute [simp] ti22 ti23 ti24 ti26 ti30 ti42 ti45 ti52 ti122 ti125 ti88 ti92 ti46
attribute [simp] ti134 ti131 ti48 ti60 ti35 ti178 ti99 ti85 ti143 ti189 ti190 ti192 ti204 ti208 ti218 ti9 ti5 ti27 ti28 ti141 ti30 ti45
@[simp] def eEn (q : Sp × Int) : AV := .agg [eSp q.1, I q.2]
theorem tbl {n : Nat} {P : Tb} (b : Bd n P) {a c : Nat} (ha : a < n) (hc : c < n) : ∃ r, P[a]? = some r ∧ (∀ p, P[a]'p = r) ∧ r.length = n ∧ r[c]? = some (g2 P a c) ∧ (∀ p, r[c]'p = g2 P a c) ∧ -farT ≤ g2 P a c ∧ g2 P a c ≤ farT := by
 have hl := b.len
 obtain ⟨r, hr⟩ : ∃ r, P[a]? = some r := ⟨_, List.getElem?_eq_getElem (by omega)⟩
 have hgr : P.getD a [] = r := by rw [List.getD_eq_getElem?_getD, hr]; rfl
 have hrl : r.length = n := by rw [← hgr]; exact b.row a ha
 obtain ⟨v, hv⟩ : ∃ v, r[c]? = some v := ⟨_, List.getElem?_eq_getElem (by omega)⟩
 have e0 : g2 P a c = v := by rw [g2, hgr, List.getD_eq_getElem?_getD, hv]; rfl
 refine ⟨r, hr, fun p => (List.getElem?_eq_some_iff.1 hr).2, hrl, by rw [e0]; exact hv, fun p => by rw [e0]; exact (List.getElem?_eq_some_iff.1 hv).2, b.lo a c ha hc, b.hi a c ha hc⟩
theorem tb_bd {k : Kn} {more : List Tie} (N : Net k more) : Bd (marksM k) (tb k (tiesM k ++ more)) := by
 have := tab_bd N.wf
 have hn : (netM k more).n.toNat = marksM k := by simp [netM]
 rw [hn] at this
 exact this
theorem tb_bd0 {k : Kn} (hc : check k = 0) : Bd (marksM k) (tb k (tiesM k)) := by
 have := tb_bd (Net.base hc)
 rw [List.append_nil] at this
 exact this
theorem below_err {k : Kn} {a h : Int} (e : ¬ (belowM k a h).2 = 0) : (belowM k a h).1 = zSp := by
 unfold belowM at e ⊢
 split
 ·rfl
 ·rename_i h1
  rw [if_neg h1] at e
  split
  ·rfl
  ·rename_i h2
   rw [if_neg h2] at e
   split
   ·rfl
   ·rename_i h3
    rw [if_neg h3] at e
    unfold betweenM at e ⊢
    split
    ·rename_i h4
     rw [if_pos h4] at e
     exact (e rfl).elim
    ·rfl
theorem marks_le {k : Kn} (r : Right k) : marksM k ≤ 41 := by
 have h1 := r.nl; have h2 := r.nd
 simp [marksM]
 omega
theorem ties_le {k : Kn} (r : Right k) : (tiesM k).length ≤ 160 := by
 have h := tiesLen k
 have h1 := r.nl; have h2 := r.nd; have h3 := r.nw
 omega

theorem c134 (k : Kn) (hk : Few k) : Con E 134 [eKn k] (I (marksM k)) := by
 intro n H hH
 have h00 := hh3 hH
 have ⟨hHs, hH', hpl⟩ := h00
 refine at_start (fn := Tryz.f134) [.tmp 2] 11 H.length rfl rfl rfl rfl (by kernel_rfl) (by kernel_rfl) (by simp) (Nat.le_refl _) ?_
 refine sq ?_
 refine at_regK [1] rfl ?_
 try simp [h00, o_i, f_a]
 refine sq ?_
 refine at_regK [2] rfl ?_
 try simp [h00, o_i, f_a]
 refine at_ret (by kernel_rfl) ?_
 try simp [h00, o_i, f_a]
 have := hk.l
 have := hk.d
 rw [wrap_id (n := (k.loads.length : Int) + k.draws.length) (by omega) (by omega), wrap_id (by omega) (by omega)]
 simp [marksM]
 omega

theorem c56 (k : Kn) (hk : Few k) (hc : check k = 0) : Con E 56 [eKn k] (.bool (tokB k (tiesM k))) := by
 intro n H hH
 have h00 := hh3 hH
 have ⟨hHs, hH', hpl⟩ := h00
 have f := fine_of_check hc
 have o := order_of_check hc
 have r := right_of_check hc
 have hml := marks_le r
 have htl := ties_le r
 have htb : tabT (marksM k) (tiesM k) = tb k (tiesM k) := rfl
 have htok : okT (marksM k) (tb k (tiesM k)) = tokB k (tiesM k) := rfl
 refine at_start (fn := Tryz.f56) [.tmp 2] 14 H.length rfl rfl rfl rfl (by kernel_rfl) (by kernel_rfl) (by simp) (Nat.le_refl _) ?_
 refine sq ?_
 refine at_regK [1] rfl ?_
 try simp [h00, o_i, f_a]
 refine sq ?_
 refine at_draw [4] [1, 1, 1, 1, 1, 0, 0, 0, 0, 0] [] rfl Efol (by kernel_rfl) (by simp) ?_
 try simp [h00, o_i, f_a]
 refine (c134 k hk).draw hH ?_
 try simp [h00, o_i, f_a]
 refine (c104 k hk o f.lo).draw hH ?_
 try simp [h00, o_i, f_a]
 refine (c133 (marksM k) (by omega) (tiesM k) (by omega) (ties_in r)).draw hH ?_
 rw [htb, htok]
 try simp [h00, o_i, f_a]
 refine sq ?_
 refine at_regK [2] rfl ?_
 try simp [h00, o_i, f_a]
 refine at_ret (by kernel_rfl) ?_
 try simp [h00, o_i, f_a]

theorem c71 (k : Kn) (hk : Few k) (hc : check k = 0) (a b : Int) (a0 : 0 ≤ a) (a1 : a < marksM k) (b0 : 0 ≤ b) (b1 : b < marksM k) : Con E 71 [eKn k, I a, I b] (eEn (betweenM k a b)) := by
 intro n H hH
 have h00 := hh3 hH
 have ⟨hHs, hH', hpl⟩ := h00
 have f := fine_of_check hc
 have o := order_of_check hc
 have r := right_of_check hc
 have hml := marks_le r
 have htl := ties_le r
 have htb : tabT (marksM k) (tiesM k) = tb k (tiesM k) := rfl
 have htok : okT (marksM k) (tb k (tiesM k)) = tokB k (tiesM k) := rfl
 rw [← between_eq hc a0 a1 b0 b1]
 obtain ⟨p, rfl⟩ : ∃ p : Nat, a = p := ⟨a.toNat, by omega⟩
 obtain ⟨q, rfl⟩ : ∃ p : Nat, b = p := ⟨b.toNat, by omega⟩
 obtain ⟨r1, p1, p2, p3, p4, p5, p6, p7⟩ := tbl (tb_bd0 hc) (a := p) (c := q) (by omega) (by omega)
 obtain ⟨r2, q1, q2, q3, q4, q5, q6, q7⟩ := tbl (tb_bd0 hc) (a := q) (c := p) (by omega) (by omega)
 have hfar : farT = 1099511627776 := rfl
 have wm : IntKind.i64.wrap (-g2 (tb k (tiesM k)) q p) = -g2 (tb k (tiesM k)) q p := wrap_id (by omega) (by omega)
 have hPl := (tb_bd0 hc).len
 have pz : p < marksM k := by omega
 have qz : q < marksM k := by omega
 refine at_start (fn := Tryz.f71) [.cell 6 35] 37 H.length rfl rfl rfl rfl (by kernel_rfl) (by kernel_rfl) (by simp) (Nat.le_refl _) ?_
 refine sq ?_
 refine at_regK [1, 2, 3, 6] rfl ?_
 try simp [h00, o_i, f_a]
 refine sq ?_
 refine at_draw [1, 2, 6, 7, 8] [1, 1, 1, 1, 1, 0, 0, 0, 0, 0] [] rfl Efol (by kernel_rfl) (by simp) ?_
 try simp [h00, o_i, f_a]
 refine (c134 k hk).draw hH ?_
 try simp [h00, o_i, f_a]
 refine (c104 k hk o f.lo).draw hH ?_
 try simp [h00, o_i, f_a]
 refine (c133 (marksM k) (by omega) (tiesM k) (by omega) (ties_in r)).draw hH ?_
 rw [htb, htok]
 try simp [h00, o_i, f_a]
 refine sq ?_
 refine sq ?_
 refine at_regK [1, 2, 6, 7, 18] rfl ?_
 try simp [h00, o_i, f_a]
 refine at_cond rfl rfl (fun hb18 => ?_) (fun hb18 => ?_)
 ·
  try simp at hb18
  refine sq ?_
  refine at_regK [6] rfl ?_
  try simp [h00, o_i, f_a]
  refine at_ret (by kernel_rfl) ?_
  try simp [h00, o_i, f_a]
  simp [betweenR, hb18, zSp]
  rfl
 ·
  try simp at hb18
  refine at_skip (by kernel_rfl) ?_
  try simp [h00, o_i, f_a]
  refine sq ?_
  refine at_draw [6] [0, 0, 0, 1, 0, 0, 1, 0, 0, 0, 0, 1, 0, 0, 1, 0, 0, 3] [] rfl Efol (by kernel_rfl) (by simp) ?_
  try simp [h00, o_i, f_a, p1, p2, p3, p4, p5, q1, q2, q3, q4, q5, wm, hPl, pz, qz]
  refine at_ret (by kernel_rfl) ?_
  try simp [h00, o_i, f_a]
  simp [betweenR, hb18]
  rfl

theorem c19 (k : Kn) (hk : Few k) (a : Int) : Con E 19 [eKn k, I a] (eEn (runM k a a)) := by
 intro n H hH
 have h00 := hh3 hH
 have ⟨hHs, hH', hpl⟩ := h00
 rw [← weight_eq]
 refine at_start (fn := Tryz.f19) [.cell 4 35] 39 H.length rfl rfl rfl rfl (by kernel_rfl) (by kernel_rfl) (by simp) (Nat.le_refl _) ?_
 refine sq ?_
 refine at_regK [1, 2, 4] rfl ?_
 try simp [h00, o_i, f_a]
 refine sq ?_
 refine at_regK [1, 2, 4, 5] rfl ?_
 try simp [h00, o_i, f_a]
 refine (c53 k hk).use hH ?_
 try simp [h00, o_i, f_a]
 refine sq ?_
 refine sq ?_
 refine at_regK [1, 2, 4, 5, 11] rfl ?_
 try simp [h00, o_i, f_a]
 refine at_cond rfl rfl (fun hb11 => ?_) (fun hb11 => ?_)
 ·
  try simp at hb11
  refine sq ?_
  refine at_regK [4] rfl ?_
  try simp [h00, o_i, f_a]
  refine at_ret (by kernel_rfl) ?_
  try simp [h00, o_i, f_a]
  simp [weightR, hb11, zSp]
  rfl
 ·
  try simp at hb11
  have hc : check k = 0 := by simpa using hb11
  have f := fine_of_check hc
  have o := order_of_check hc
  have r := right_of_check hc
  have hml := marks_le r
  have htl := ties_le r
  have htb : tabT (marksM k) (tiesM k) = tb k (tiesM k) := rfl
  have htok : okT (marksM k) (tb k (tiesM k)) = tokB k (tiesM k) := rfl
  have hm : (marksM k : Int) = 1 + k.loads.length + k.draws.length := by simp [marksM]
  have nl := r.nl; have nd := r.nd
  have fa := find_le k.loads a; have ga := find_le k.draws a
  have w1 : IntKind.i64.wrap (find k.loads a + 1) = find k.loads a + 1 := wrap_id (by omega) (by omega)
  have w2 : IntKind.i64.wrap (find k.draws a + 1) = find k.draws a + 1 := wrap_id (by omega) (by omega)
  refine at_skip (by kernel_rfl) ?_
  try simp [h00, o_i, f_a, w1, w2]
  refine sq ?_
  refine at_regK [1, 2, 4, 6] rfl ?_
  try simp [h00, o_i, f_a, w1, w2]
  refine (c69 k hk _).use hH ?_
  try simp [h00, o_i, f_a, w1, w2]
  refine sq ?_
  refine at_regK [2, 4, 6, 7] rfl ?_
  try simp [h00, o_i, f_a, w1, w2]
  refine (c70 k hk _).use hH ?_
  try simp [h00, o_i, f_a, w1, w2]
  refine sq ?_
  refine sq ?_
  refine at_regK [2, 4, 6, 7, 21] rfl ?_
  try simp [h00, o_i, f_a, w1, w2]
  refine at_cond rfl rfl (fun hb21 => ?_) (fun hb21 => ?_)
  ·
   try simp at hb21
   refine sq ?_
   refine at_regK [4] rfl ?_
   try simp [h00, o_i, f_a, w1, w2]
   refine (c71 k hk hc (find k.loads a) (find k.loads a + 1) (by omega) (by omega) (by omega) (by omega)).use hH ?_
   rw [← between_eq hc (by omega) (by omega) (by omega) (by omega)]
   try simp [h00, o_i, f_a, w1, w2]
   refine at_ret (by kernel_rfl) ?_
   try simp [h00, o_i, f_a, w1, w2]
   simp [weightR, hc, hb21]
  ·
   try simp at hb21
   refine at_skip (by kernel_rfl) ?_
   try simp [h00, o_i, f_a, w1, w2]
   refine sq ?_
   refine sq ?_
   refine at_regK [2, 4, 7, 28] rfl ?_
   try simp [h00, o_i, f_a, w1, w2]
   refine at_cond rfl rfl (fun hb28 => ?_) (fun hb28 => ?_)
   ·
    try simp at hb28
    have d1 := drawn_in (k := k) (a := find k.draws a) (by omega) (by omega)
    have d2 := drawn_in (k := k) (a := find k.draws a + 1) (by omega) (by omega)
    refine sq ?_
    refine at_draw [4] [1, 1, 0, 1, 1, 0, 0, 1, 1, 3] [] rfl Efol (by kernel_rfl) (by simp) ?_
    try simp [h00, o_i, f_a, w1, w2]
    refine (c72 k hk _ (by omega) (by omega)).draw hH ?_
    try simp [h00, o_i, f_a, w1, w2]
    refine (c72 k hk _ (by omega) (by omega)).draw hH ?_
    try simp [h00, o_i, f_a, w1, w2]
    refine (c71 k hk hc (drawnM k (find k.draws a)) (drawnM k (find k.draws a + 1)) (by omega) (by omega) (by omega) (by omega)).draw hH ?_
    rw [← between_eq hc (by omega) (by omega) (by omega) (by omega)]
    try simp [h00, o_i, f_a, w1, w2]
    refine at_ret (by kernel_rfl) ?_
    try simp [h00, o_i, f_a, w1, w2]
    have hb21 : ¬ 0 ≤ find k.loads a := by omega
    simp [weightR, hc, hb21, hb28]
   ·
    try simp at hb28
    refine at_skip (by kernel_rfl) ?_
    try simp [h00, o_i, f_a, w1, w2]
    refine sq ?_
    refine at_regK [4] rfl ?_
    try simp [h00, o_i, f_a, w1, w2]
    refine at_ret (by kernel_rfl) ?_
    try simp [h00, o_i, f_a, w1, w2]
    have hb21 : ¬ 0 ≤ find k.loads a := by omega
    have hb28 : ¬ 0 ≤ find k.draws a := by omega
    simp [weightR, hc, hb21, hb28, zSp]
    rfl

theorem c83 (z : Int) : Con E 83 [I z] (.bool (inB z 0 16384)) := by
 intro n H hH
 have h00 := hh3 hH
 have ⟨hHs, hH', hpl⟩ := h00
 refine at_start (fn := Tryz.f83) [.tmp 2] 5 H.length rfl rfl rfl rfl (by kernel_rfl) (by kernel_rfl) (by simp) (Nat.le_refl _) ?_
 refine sq ?_
 refine at_regK [0] rfl ?_
 try simp [h00, o_i, f_a]
 refine sq ?_
 refine at_regK [2] rfl ?_
 try simp [h00, o_i, f_a]
 refine (c126 _ _ _).use hH ?_
 try simp [h00, o_i, f_a]
 refine at_ret (by kernel_rfl) ?_
 try simp [h00, o_i, f_a]

theorem c23 (k : Kn) (hk : Few k) (h : Int) : Con E 23 [eKn k, I h] (eEn (heldM k h)) := by
 intro n H hH
 have h00 := hh3 hH
 have ⟨hHs, hH', hpl⟩ := h00
 rw [← held_eq]
 refine at_start (fn := Tryz.f23) [.cell 4 35] 26 H.length rfl rfl rfl rfl (by kernel_rfl) (by kernel_rfl) (by simp) (Nat.le_refl _) ?_
 refine sq ?_
 refine at_regK [1, 2, 4] rfl ?_
 try simp [h00, o_i, f_a]
 refine sq ?_
 refine at_regK [1, 2, 4, 5] rfl ?_
 try simp [h00, o_i, f_a]
 refine (c53 k hk).use hH ?_
 try simp [h00, o_i, f_a]
 refine sq ?_
 refine sq ?_
 refine at_regK [1, 2, 4, 5, 10] rfl ?_
 try simp [h00, o_i, f_a]
 refine at_cond rfl rfl (fun hb10 => ?_) (fun hb10 => ?_)
 ·
  try simp at hb10
  refine sq ?_
  refine at_regK [4] rfl ?_
  try simp [h00, o_i, f_a]
  refine at_ret (by kernel_rfl) ?_
  try simp [h00, o_i, f_a]
  simp [heldR, hb10, zSp]
  rfl
 ·
  try simp at hb10
  have hc : check k = 0 := by simpa using hb10
  have f := fine_of_check hc
  have o := order_of_check hc
  have r := right_of_check hc
  have hml := marks_le r
  have htl := ties_le r
  have htb : tabT (marksM k) (tiesM k) = tb k (tiesM k) := rfl
  have htok : okT (marksM k) (tb k (tiesM k)) = tokB k (tiesM k) := rfl
  have hm : (marksM k : Int) = 1 + k.loads.length + k.draws.length := by simp [marksM]
  have nl := r.nl; have nd := r.nd
  have hb := byHr_le k.loads h
  have hd := byHr_le k.draws h
  have d1 := drawn_in (k := k) (a := (byHr k.draws h : Int)) (by omega) (by omega)
  refine at_skip (by kernel_rfl) ?_
  try simp [h00, o_i, f_a]
  refine sq ?_
  refine at_regK [1, 2, 4, 6] rfl ?_
  try simp [h00, o_i, f_a]
  refine (c83 _).use hH ?_
  try simp [h00, o_i, f_a]
  refine sq ?_
  refine sq ?_
  refine at_regK [1, 2, 4, 16] rfl ?_
  try simp [h00, o_i, f_a]
  refine at_cond rfl rfl (fun hb16 => ?_) (fun hb16 => ?_)
  ·
   try simp at hb16
   refine sq ?_
   refine at_regK [4] rfl ?_
   try simp [h00, o_i, f_a]
   refine at_ret (by kernel_rfl) ?_
   try simp [h00, o_i, f_a]
   simp [heldR, hc, hb16, zSp]
   rfl
  ·
   try simp at hb16
   refine at_skip (by kernel_rfl) ?_
   try simp [h00, o_i, f_a]
   refine sq ?_
   refine at_draw [4] [1, 1, 0, 1, 1, 0, 1, 1, 3] [] rfl Efol (by kernel_rfl) (by simp) ?_
   try simp [h00, o_i, f_a]
   refine (c84 k hk o.d _).draw hH ?_
   try simp [h00, o_i, f_a]
   refine (c85 k hk o.l _).draw hH ?_
   try simp [h00, o_i, f_a]
   refine (c71 k hk hc (drawnM k (byHr k.draws h)) (byHr k.loads h) (by omega) (by omega) (by omega) (by omega)).draw hH ?_
   rw [← between_eq hc (by omega) (by omega) (by omega) (by omega)]
   try simp [h00, o_i, f_a]
   refine at_ret (by kernel_rfl) ?_
   try simp [h00, o_i, f_a]
   simp [heldR, hc, hb16]

theorem c25 (k : Kn) (hk : Few k) (a h : Int) : Con E 25 [eKn k, I a, I h] (eEn (belowM k a h)) := by
 intro n H hH
 have h00 := hh3 hH
 have ⟨hHs, hH', hpl⟩ := h00
 rw [← below_eq]
 refine at_start (fn := Tryz.f25) [.cell 6 35] 43 H.length rfl rfl rfl rfl (by kernel_rfl) (by kernel_rfl) (by simp) (Nat.le_refl _) ?_
 refine sq ?_
 refine at_regK [1, 2, 3, 6] rfl ?_
 try simp [h00, o_i, f_a]
 refine sq ?_
 refine at_regK [1, 2, 3, 6, 7] rfl ?_
 try simp [h00, o_i, f_a]
 refine (c53 k hk).use hH ?_
 try simp [h00, o_i, f_a]
 refine sq ?_
 refine sq ?_
 refine at_regK [1, 2, 3, 6, 7, 13] rfl ?_
 try simp [h00, o_i, f_a]
 refine at_cond rfl rfl (fun hb13 => ?_) (fun hb13 => ?_)
 ·
  try simp at hb13
  refine sq ?_
  refine at_regK [6] rfl ?_
  try simp [h00, o_i, f_a]
  refine at_ret (by kernel_rfl) ?_
  try simp [h00, o_i, f_a]
  simp [belowR, hb13, zSp]
  rfl
 ·
  try simp at hb13
  have hc : check k = 0 := by simpa using hb13
  have f := fine_of_check hc
  have o := order_of_check hc
  have r := right_of_check hc
  have hml := marks_le r
  have htl := ties_le r
  have htb : tabT (marksM k) (tiesM k) = tb k (tiesM k) := rfl
  have htok : okT (marksM k) (tb k (tiesM k)) = tokB k (tiesM k) := rfl
  have hm : (marksM k : Int) = 1 + k.loads.length + k.draws.length := by simp [marksM]
  have nl := r.nl; have nd := r.nd
  have fa := find_le k.loads a
  have hd := byHr_le k.draws h
  have d1 := drawn_in (k := k) (a := (byHr k.draws h : Int)) (by omega) (by omega)
  refine at_skip (by kernel_rfl) ?_
  try simp [h00, o_i, f_a]
  refine sq ?_
  refine at_regK [1, 2, 3, 6, 8] rfl ?_
  try simp [h00, o_i, f_a]
  refine (c83 _).use hH ?_
  try simp [h00, o_i, f_a]
  refine sq ?_
  refine sq ?_
  refine at_regK [1, 2, 3, 6, 19] rfl ?_
  try simp [h00, o_i, f_a]
  refine at_cond rfl rfl (fun hb19 => ?_) (fun hb19 => ?_)
  ·
   try simp at hb19
   refine sq ?_
   refine at_regK [6] rfl ?_
   try simp [h00, o_i, f_a]
   refine at_ret (by kernel_rfl) ?_
   try simp [h00, o_i, f_a]
   simp [belowR, hc, hb19, zSp]
   rfl
  ·
   try simp at hb19
   refine at_skip (by kernel_rfl) ?_
   try simp [h00, o_i, f_a]
   refine sq ?_
   refine at_regK [2, 3, 6, 9] rfl ?_
   try simp [h00, o_i, f_a]
   refine (c69 k hk _).use hH ?_
   try simp [h00, o_i, f_a]
   refine sq ?_
   refine sq ?_
   refine at_regK [2, 3, 6, 9, 25] rfl ?_
   try simp [h00, o_i, f_a]
   refine at_cond rfl rfl (fun hb25 => ?_) (fun hb25 => ?_)
   ·
    try simp at hb25
    refine sq ?_
    refine at_regK [6] rfl ?_
    try simp [h00, o_i, f_a]
    refine at_ret (by kernel_rfl) ?_
    try simp [h00, o_i, f_a]
    simp [belowR, hc, hb19, hb25, zSp]
    rfl
   ·
    try simp at hb25
    obtain ⟨i, hi⟩ : ∃ i : Nat, find k.loads a = i := ⟨(find k.loads a).toNat, by omega⟩
    obtain ⟨x, hx⟩ : ∃ x, k.loads[i]? = some x := ⟨_, List.getElem?_eq_getElem (by omega)⟩
    have i0 : (i : Int) < k.loads.length := by omega
    have hni : ¬ (i : Int) < 0 := by omega
    have hmx : (if 0 < i then (i : Int) else 0) = i := by split <;> omega
    have hgd : k.loads.getD i default = x := by rw [List.getD_eq_getElem?_getD, hx]; rfl
    refine at_skip (by kernel_rfl) ?_
    try simp [h00, o_i, f_a, hi, hx, i0, hmx]
    refine sq ?_
    refine sq ?_
    refine at_regK [2, 3, 6, 9, 35] rfl ?_
    try simp [h00, o_i, f_a, hi, hx, i0, hmx]
    refine at_cond rfl rfl (fun hb35 => ?_) (fun hb35 => ?_)
    ·
     try simp at hb35
     refine sq ?_
     refine at_regK [6] rfl ?_
     try simp [h00, o_i, f_a, hi, hx, i0, hmx]
     refine at_ret (by kernel_rfl) ?_
     try simp [h00, o_i, f_a, hi, hx, i0, hmx]
     simp [belowR, hc, hb19, hi, hx, hni, hb35, zSp]
     rfl
    ·
     try simp at hb35
     refine at_skip (by kernel_rfl) ?_
     try simp [h00, o_i, f_a, hi, hx, i0, hmx]
     refine sq ?_
     refine at_draw [6] [1, 1, 0, 1, 0, 1, 3] [] rfl Efol (by kernel_rfl) (by simp) ?_
     try simp [h00, o_i, f_a, hi, hx, i0, hmx]
     refine (c84 k hk o.d _).draw hH ?_
     try simp [h00, o_i, f_a, hi, hx, i0, hmx]
     refine (c71 k hk hc (drawnM k (byHr k.draws h)) (i) (by omega) (by omega) (by omega) (by omega)).draw hH ?_
     rw [← between_eq hc (by omega) (by omega) (by omega) (by omega)]
     try simp [h00, o_i, f_a, hi, hx, i0, hmx]
     refine at_ret (by kernel_rfl) ?_
     try simp [h00, o_i, f_a, hi, hx, i0, hmx]
     have hb36 : ¬ h < x.hour := by omega
     simp [belowR, hc, hb19, hi, hx, hni, hb36]

theorem c88 (z d : Int) (d0 : 1 ≤ d) (d1 : d ≤ 65536) (z0 : -1125899906842624 ≤ z) (z1 : z ≤ 1125899906842624) : Con E 88 [I z, I d] (I (floorM z d)) := by
 intro n H hH
 have h00 := hh3 hH
 have ⟨hHs, hH', hpl⟩ := h00
 rw [← foot_eq]
 have dn : ¬ d = 0 := by omega
 have dq : (d == 0) = false := by simp; omega
 have tb := tdiv_b d0 z0 z1
 have w1 : IntKind.i64.wrap (d - 1) = d - 1 := wrap_id (by omega) (by omega)
 have w2 : IntKind.i64.wrap (d - 1 - z) = d - 1 - z := wrap_id (by omega) (by omega)
 have w3 : IntKind.i64.wrap (z.tdiv d) = z.tdiv d := wrap_id (by omega) (by omega)
 refine at_start (fn := Tryz.f88) [.tmp 4] 17 H.length rfl rfl rfl rfl (by kernel_rfl) (by kernel_rfl) (by simp) (Nat.le_refl _) ?_
 refine sq ?_
 refine at_regK [0, 1] rfl ?_
 try simp [h00, o_i, f_a, dn, dq, w1, w2, w3]
 refine sq ?_
 refine sq ?_
 refine at_regK [0, 1, 6] rfl ?_
 try simp [h00, o_i, f_a, dn, dq, w1, w2, w3]
 refine at_cond rfl rfl (fun hb6 => ?_) (fun hb6 => ?_)
 ·
  try simp at hb6
  refine sq ?_
  refine at_regK [4] rfl ?_
  try simp [h00, o_i, f_a, dn, dq, w1, w2, w3]
  refine at_ret (by kernel_rfl) ?_
  try simp [h00, o_i, f_a, dn, dq, w1, w2, w3]
  simp [footR, hb6]
 ·
  try simp at hb6
  have hz : z < 0 := by omega
  have tq : (d - 1 - z).tdiv d = (d - 1 - z) / d := Int.tdiv_eq_ediv_of_nonneg (by omega)
  have t1 := Int.ediv_le_self d (show 0 ≤ d - 1 - z by omega)
  have t2 := Int.ediv_nonneg (show 0 ≤ d - 1 - z by omega) (show 0 ≤ d by omega)
  have w4 : IntKind.i64.wrap ((d - 1 - z).tdiv d) = (d - 1 - z).tdiv d := wrap_id (by omega) (by omega)
  have w5 : IntKind.i64.wrap (-(d - 1 - z).tdiv d) = -(d - 1 - z).tdiv d := wrap_id (by omega) (by omega)
  refine at_skip (by kernel_rfl) ?_
  try simp [h00, o_i, f_a, dn, dq, w1, w2, w3, w4, w5]
  refine sq ?_
  refine at_regK [4] rfl ?_
  try simp [h00, o_i, f_a, dn, dq, w1, w2, w3, w4, w5]
  refine at_ret (by kernel_rfl) ?_
  try simp [h00, o_i, f_a, dn, dq, w1, w2, w3, w4, w5]
  have hb6 : ¬ 0 ≤ z := by omega
  simp [footR, hb6]

theorem c27 (k : Kn) (hk : Few k) (a h : Int) : Con E 27 [eKn k, I a, I h] (eEn (feetM k a h)) := by
 intro n H hH
 have h00 := hh3 hH
 have ⟨hHs, hH', hpl⟩ := h00
 refine at_start (fn := Tryz.f27) [.cell 6 35] 30 H.length rfl rfl rfl rfl (by kernel_rfl) (by kernel_rfl) (by simp) (Nat.le_refl _) ?_
 refine sq ?_
 refine at_regK [1, 2, 3, 6] rfl ?_
 try simp [h00, o_i, f_a]
 refine sq ?_
 refine at_regK [3, 6, 7] rfl ?_
 try simp [h00, o_i, f_a]
 refine (c25 k hk a h).use hH ?_
 try simp [h00, o_i, f_a]
 refine sq ?_
 refine sq ?_
 refine at_regK [3, 6, 7, 14] rfl ?_
 try simp [h00, o_i, f_a]
 refine at_cond rfl rfl (fun hb14 => ?_) (fun hb14 => ?_)
 ·
  try simp at hb14
  refine sq ?_
  refine at_regK [6] rfl ?_
  try simp [h00, o_i, f_a]
  refine at_ret (by kernel_rfl) ?_
  try simp [h00, o_i, f_a]
  simp [feetM, hb14, below_err hb14]
 ·
  try simp at hb14
  have he : (belowM k a h).2 = 0 := by simpa using hb14
  obtain ⟨p0, p1, b0, b1, b2, b3⟩ := below_b k a h he
  refine at_skip (by kernel_rfl) ?_
  try simp [h00, o_i, f_a]
  refine sq ?_
  refine at_draw [6] [0, 0, 1, 0, 1, 1, 0, 0, 1, 0, 1, 1, 0, 0, 3] [] rfl Efol (by kernel_rfl) (by simp) ?_
  try simp [h00, o_i, f_a]
  refine (c88 _ _ p0 p1 (by omega) (by omega)).draw hH ?_
  try simp [h00, o_i, f_a]
  refine (c88 _ _ p0 p1 (by omega) (by omega)).draw hH ?_
  try simp [h00, o_i, f_a]
  refine at_ret (by kernel_rfl) ?_
  try simp [h00, o_i, f_a]
  simp [feetM, he]
  rfl
end Go.Abs
/- Contracts: the specification's chains. -/
set_option linter.unusedVariables false
set_option linter.unusedSimpArgs false
set_option maxRecDepth 100000
set_option maxHeartbeats 2000000
namespace Go.Abs
open Go.RowKit Go.Proofs Go.Shaft
attribute [simp] ti22 ti23 ti24 ti26 ti30 ti42 ti45 ti52 ti122 ti125 ti88 ti92 ti46
attribute [simp] ti134 ti131 ti48 ti60 ti35 ti178 ti99 ti85 ti143 ti189 ti190 ti192 ti204 ti208 ti218 ti9 ti5 ti27 ti28 ti141 ti30 ti45

theorem c138 (k : Kn) (hk : Few k) (a b : Int) : Con E 138 [eKn k, I a, I b] (I (markedM k [a, b])) := by
 intro n H hH
 have h00 := hh3 hH
 have ⟨hHs, hH', hpl⟩ := h00
 refine at_start (fn := Tryz.f138) [.tmp 6] 28 H.length rfl rfl rfl rfl (by kernel_rfl) (by kernel_rfl) (by simp) (Nat.le_refl _) ?_
 refine sq ?_
 refine at_regK [1, 2, 3] rfl ?_
 try simp [h00, o_i, f_a]
 refine sq ?_
 refine at_regK [1, 2, 3, 7] rfl ?_
 try simp [h00, o_i, f_a]
 refine (c53 k hk).use hH ?_
 try simp [h00, o_i, f_a]
 refine sq ?_
 refine sq ?_
 refine at_regK [1, 2, 3, 7, 12] rfl ?_
 try simp [h00, o_i, f_a]
 refine at_cond rfl rfl (fun hb12 => ?_) (fun hb12 => ?_)
 ·
  try simp at hb12
  refine sq ?_
  refine at_regK [6] rfl ?_
  try simp [h00, o_i, f_a]
  refine at_ret (by kernel_rfl) ?_
  try simp [h00, o_i, f_a]
  simp [markedM, hb12]
 ·
  try simp at hb12
  have hc : check k = 0 := by simpa using hb12
  have f := fine_of_check hc
  have o := order_of_check hc
  have r := right_of_check hc
  have hml := marks_le r
  have htl := ties_le r
  have htb : tabT (marksM k) (tiesM k) = tb k (tiesM k) := rfl
  have htok : okT (marksM k) (tb k (tiesM k)) = tokB k (tiesM k) := rfl
  have hm : (marksM k : Int) = 1 + k.loads.length + k.draws.length := by simp [marksM]
  have nl := r.nl; have nd := r.nd
  have wm : IntKind.i64.wrap ((marksM k : Int) - 1) = (marksM k : Int) - 1 := wrap_id (by omega) (by omega)
  refine at_skip (by kernel_rfl) ?_
  try simp [h00, o_i, f_a, wm]
  refine sq ?_
  refine at_regK [1, 2, 8] rfl ?_
  try simp [h00, o_i, f_a, wm]
  refine (c134 k hk).use hH ?_
  try simp [h00, o_i, f_a, wm]
  refine sq ?_
  refine sq ?_
  refine at_regK [27] rfl ?_
  try simp [h00, o_i, f_a, wm]
  refine (c126 _ _ _).use hH ?_
  try simp [h00, o_i, f_a, wm]
  refine pops_split 21 rfl (fun hg1 => ?_) (fun hg1 => ?_)
  ·
   try simp [h00, o_i, f_a, wm, hg1]
   refine at_cond rfl rfl (fun hb27 => ?_) (fun hb27 => by simp at hb27)
   refine sq ?_
   refine at_regK [6] rfl ?_
   try simp [h00, o_i, f_a, wm]
   refine at_ret (by kernel_rfl) ?_
   try simp [h00, o_i, f_a, wm]
   simp at hg1
   simp_all [markedM]
  ·
   try simp [h00, o_i, f_a, wm, hg1]
   refine (c126 _ _ _).use hH ?_
   try simp [h00, o_i, f_a, wm]
   refine at_cond rfl rfl (fun hb27 => ?_) (fun hb27 => ?_)
   ·
    try simp at hb27
    refine sq ?_
    refine at_regK [6] rfl ?_
    try simp [h00, o_i, f_a, wm]
    refine at_ret (by kernel_rfl) ?_
    try simp [h00, o_i, f_a, wm]
    simp at hg1
    simp_all [markedM]
   ·
    try simp at hb27
    refine at_skip (by kernel_rfl) ?_
    try simp [h00, o_i, f_a, wm]
    refine sq ?_
    refine at_regK [6] rfl ?_
    try simp [h00, o_i, f_a, wm]
    refine at_ret (by kernel_rfl) ?_
    try simp [h00, o_i, f_a, wm]
    simp at hg1
    simp_all [markedM]

theorem c64 (k : Kn) (hk : Few k) (a b : Int) : Con E 64 [eKn k, I a, I b] (.tup [I (mostR k a b).1, I (mostR k a b).2]) := by
 intro n H hH
 have h00 := hh3 hH
 have ⟨hHs, hH', hpl⟩ := h00
 refine at_start (fn := Tryz.f64) [.tmp 6, .tmp 7] 35 H.length rfl rfl rfl rfl (by kernel_rfl) (by kernel_rfl) (by simp) (Nat.le_refl _) ?_
 refine sq ?_
 refine at_regK [1, 2, 3] rfl ?_
 try simp [h00, o_i, f_a]
 refine sq ?_
 refine at_regK [1, 2, 3, 8] rfl ?_
 try simp [h00, o_i, f_a]
 refine (c138 k hk a b).use hH ?_
 try simp [h00, o_i, f_a]
 refine sq ?_
 refine sq ?_
 refine at_regK [1, 2, 3, 8, 16] rfl ?_
 try simp [h00, o_i, f_a]
 refine at_cond rfl rfl (fun hb16 => ?_) (fun hb16 => ?_)
 ·
  try simp at hb16
  refine sq ?_
  refine at_regK [6, 7] rfl ?_
  try simp [h00, o_i, f_a]
  refine at_ret (by kernel_rfl) ?_
  try simp [h00, o_i, f_a]
  simp [mostR, hb16]
 ·
  try simp at hb16
  have hmk : markedM k [a, b] = 0 := by simpa using hb16
  obtain ⟨hc, hin⟩ := marked_ok hmk
  obtain ⟨a0, a1⟩ := hin a (by simp)
  obtain ⟨b0, b1⟩ := hin b (by simp)
  have f := fine_of_check hc
  have o := order_of_check hc
  have r := right_of_check hc
  have hml := marks_le r
  have htl := ties_le r
  have htb : tabT (marksM k) (tiesM k) = tb k (tiesM k) := rfl
  have htok : okT (marksM k) (tb k (tiesM k)) = tokB k (tiesM k) := rfl
  obtain ⟨p, rfl⟩ : ∃ p : Nat, a = p := ⟨a.toNat, by omega⟩
  obtain ⟨q, rfl⟩ : ∃ p : Nat, b = p := ⟨b.toNat, by omega⟩
  obtain ⟨r1, p1, p2, p3, p4, p5, p6, p7⟩ := tbl (tb_bd0 hc) (a := p) (c := q) (by omega) (by omega)
  have hPl := (tb_bd0 hc).len
  have pz : p < marksM k := by omega
  have qz : q < marksM k := by omega
  refine at_skip (by kernel_rfl) ?_
  try simp [h00, o_i, f_a]
  refine sq ?_
  refine at_draw [1, 2, 9, 10] [1, 1, 1, 1, 1, 0, 0, 0, 0, 0] [] rfl Efol (by kernel_rfl) (by simp) ?_
  try simp [h00, o_i, f_a]
  refine (c134 k hk).draw hH ?_
  try simp [h00, o_i, f_a]
  refine (c104 k hk o f.lo).draw hH ?_
  try simp [h00, o_i, f_a]
  refine (c133 (marksM k) (by omega) (tiesM k) (by omega) (ties_in r)).draw hH ?_
  rw [htb, htok]
  try simp [h00, o_i, f_a]
  refine sq ?_
  refine sq ?_
  refine at_regK [1, 2, 9, 27] rfl ?_
  try simp [h00, o_i, f_a]
  refine at_cond rfl rfl (fun hb27 => ?_) (fun hb27 => ?_)
  ·
   try simp at hb27
   refine sq ?_
   refine at_regK [6, 7] rfl ?_
   try simp [h00, o_i, f_a]
   refine at_ret (by kernel_rfl) ?_
   try simp [h00, o_i, f_a]
   simp [mostR, hmk, hb27]
  ·
   try simp at hb27
   refine at_skip (by kernel_rfl) ?_
   try simp [h00, o_i, f_a]
   refine sq ?_
   refine at_regK [6, 7] rfl ?_
   try simp [h00, o_i, f_a, p1, p2, p3, p4, p5, hPl, pz, qz]
   refine at_ret (by kernel_rfl) ?_
   try simp [h00, o_i, f_a]
   simp [mostR, hmk, hb27]

theorem c65 (k : Kn) (hk : Few k) (a b : Int) (c : Ch) (h1 : c.path.length ≤ 1000) (h2 : c.tr.loads.length ≤ 60) (h3 : c.tr.draws.length ≤ 60) : Con E 65 [eKn k, I a, I b, eCh c] (I (checkAboveM k a b c)) := by
 intro n H hH
 have h00 := hh3 hH
 have ⟨hHs, hH', hpl⟩ := h00
 refine at_start (fn := Tryz.f65) [.tmp 8] 77 H.length rfl rfl rfl rfl (by kernel_rfl) (by kernel_rfl) (by simp) (Nat.le_refl _) ?_
 refine sq ?_
 refine at_regK [1, 2, 4, 7] rfl ?_
 try simp [h00, o_i, f_a]
 refine sq ?_
 refine at_regK [1, 2, 4, 7, 9] rfl ?_
 try simp [h00, o_i, f_a]
 refine (c138 k hk a b).use hH ?_
 try simp [h00, o_i, f_a]
 refine sq ?_
 refine sq ?_
 refine at_regK [1, 2, 4, 7, 9, 21] rfl ?_
 try simp [h00, o_i, f_a]
 refine at_cond rfl rfl (fun hb21 => ?_) (fun hb21 => ?_)
 ·
  try simp at hb21
  refine sq ?_
  refine at_regK [8] rfl ?_
  try simp [h00, o_i, f_a]
  refine at_ret (by kernel_rfl) ?_
  try simp [h00, o_i, f_a]
  simp [checkAboveM, hb21]
 ·
  try simp at hb21
  have hmk : markedM k [a, b] = 0 := by simpa using hb21
  obtain ⟨hc, hin⟩ := marked_ok hmk
  obtain ⟨a0, a1⟩ := hin a (by simp)
  obtain ⟨b0, b1⟩ := hin b (by simp)
  have f := fine_of_check hc
  have o := order_of_check hc
  have r := right_of_check hc
  have hml := marks_le r
  have htl := ties_le r
  have htb : tabT (marksM k) (tiesM k) = tb k (tiesM k) := rfl
  have htok : okT (marksM k) (tb k (tiesM k)) = tokB k (tiesM k) := rfl
  have nl := r.nl; have nd := r.nd
  have hm : (marksM k : Int) = 1 + k.loads.length + k.draws.length := by simp [marksM]
  have hN : (netM k []).links = tiesM k := links0 k
  have hlm : ∀ t ∈ (netM k []).links, -16777216 ≤ t.most ∧ t.most ≤ 16777216 := fun t ht => by rw [hN] at ht; exact (ties_in r t ht).2.2.2.2
  obtain ⟨s, hs⟩ : ∃ s, s = sumM (netM k []) a 0 c.path := ⟨_, rfl⟩
  have hpr : pathR (netM k []) a b c.path = (s.1, s.2.2 && decide (s.2.1 = b)) := by rw [pathR, hs]
  have hca : ¬ 200 < c.path.length → checkAboveM k a b c = if s.2.2 = false ∨ s.2.1 ≠ b ∨ s.1 ≠ c.most ∨ toldB k c.tr = false then 8 else if 0 ≤ breaksM k (raisedM k c.tr) ∨ gt (raisedM k c.tr) b - gt (raisedM k c.tr) a ≠ s.1 then 8 else 0 := by
   intro h
   unfold checkAboveM
   rw [if_neg (by simp [hmk]), if_neg h, hs]
  refine at_skip (by kernel_rfl) ?_
  try simp [h00, o_i, f_a]
  refine sq ?_
  refine sq ?_
  refine at_regK [1, 2, 4, 7, 26] rfl ?_
  try simp [h00, o_i, f_a]
  refine at_cond rfl rfl (fun hb26 => ?_) (fun hb26 => ?_)
  ·
   try simp at hb26
   refine sq ?_
   refine at_regK [8] rfl ?_
   try simp [h00, o_i, f_a]
   refine at_ret (by kernel_rfl) ?_
   try simp [h00, o_i, f_a]
   simp [checkAboveM, hmk]
   intro h
   omega
  ·
   try simp at hb26
   refine at_skip (by kernel_rfl) ?_
   try simp [h00, o_i, f_a]
   refine sq ?_
   refine at_regK [1, 2, 4, 7, 10] rfl ?_
   try simp [h00, o_i, f_a]
   refine (c104 k hk o f.lo).use hH ?_
   try simp [h00, o_i, f_a]
   refine sq ?_
   refine at_regK [1, 2, 4, 7, 10, 11, 12] rfl ?_
   try simp [h00, o_i, f_a]
   rw [← hN]
   refine (c132 (netM k []) a b c.path (by rw [hN]; omega) hlm h1).use hH ?_
   rw [hpr, hN]
   try simp [h00, o_i, f_a]
   refine sq ?_
   refine at_regK [1, 2, 7, 10, 11, 12, 13] rfl ?_
   try simp [h00, o_i, f_a]
   refine (c102 k hk c.tr (by omega) (by omega)).use hH ?_
   try simp [h00, o_i, f_a]
   refine sq ?_
   refine sq ?_
   refine at_regK [1, 2, 7, 10, 53] rfl ?_
   try simp [h00, o_i, f_a]
   refine pops_split 44 rfl (fun hg1 => ?_) (fun hg1 => ?_)
   ·
    try simp [h00, o_i, f_a, hg1]
    refine at_cond rfl rfl (fun hb53 => ?_) (fun hb53 => by simp at hb53)
    refine sq ?_
    refine at_regK [8] rfl ?_
    try simp [h00, o_i, f_a]
    refine at_ret (by kernel_rfl) ?_
    try simp [h00, o_i, f_a]
    rw [hca (by omega), if_pos]
    simp at hg1
    rcases hg1 with h | h
    ·exact .inl h
    ·exact .inr (.inl h)
   ·
    try simp [h00, o_i, f_a, hg1]
    refine pops_split 50 rfl (fun hg2 => ?_) (fun hg2 => ?_)
    ·
     try simp [h00, o_i, f_a, hg2]
     refine at_cond rfl rfl (fun hb53 => ?_) (fun hb53 => by simp at hb53)
     refine sq ?_
     refine at_regK [8] rfl ?_
     try simp [h00, o_i, f_a]
     refine at_ret (by kernel_rfl) ?_
     try simp [h00, o_i, f_a]
     rw [hca (by omega), if_pos]
     simp at hg2
     exact .inr (.inr (.inl hg2))
    ·
     try simp [h00, o_i, f_a, hg2]
     refine at_cond rfl rfl (fun hb53 => ?_) (fun hb53 => ?_)
     ·
      try simp at hb53
      refine sq ?_
      refine at_regK [8] rfl ?_
      try simp [h00, o_i, f_a]
      refine at_ret (by kernel_rfl) ?_
      try simp [h00, o_i, f_a]
      rw [hca (by omega), if_pos]
      exact .inr (.inr (.inr (by simpa using hb53)))
     ·
      try simp at hb53
      have hto : toldB k c.tr = true := by simpa using hb53
      have ht := told_iff.1 hto
      have hlen : ((htsT c.tr).length : Int) = marksM k := by have := ht.ll; have := ht.dl; rw [htsT_len]; omega
      have ga := htsT_at ht a0 a1
      have gb := htsT_at ht b0 b1
      have ga' : ∀ p, (htsT c.tr)[a.toNat]'p = hgtM k c.tr a := fun p => (List.getElem?_eq_some_iff.1 ga).2
      have gb' : ∀ p, (htsT c.tr)[b.toNat]'p = hgtM k c.tr b := fun p => (List.getElem?_eq_some_iff.1 gb).2
      have ba := hgt_b ht (m := a) (by omega)
      have bb := hgt_b ht (m := b) (by omega)
      have wd : IntKind.i64.wrap (hgtM k c.tr b - hgtM k c.tr a) = hgtM k c.tr b - hgtM k c.tr a := wrap_id (by omega) (by omega)
      have hke := kept_eq r ht
      have ra := hgt_rai r c.tr a0 a1
      have rb := hgt_rai r c.tr b0 b1
      have hk2 : (keptR (tiesM k) (htsT c.tr)).2 = decide (¬ 0 ≤ breaksM k (raisedM k c.tr)) := by
       rw [hke]
       by_cases h : 0 ≤ breaksM k (raisedM k c.tr)
       ·rw [if_pos h]; simp [h]
       ·rw [if_neg h]; simp [h]
      refine at_skip (by kernel_rfl) ?_
      try simp [h00, o_i, f_a, a0, b0, ga, gb, ga', gb', wd, hk2]
      refine sq ?_
      refine at_regK [1, 2, 7, 10, 14] rfl ?_
      try simp [h00, o_i, f_a, a0, b0, ga, gb, ga', gb', wd, hk2]
      refine (c105 c.tr h2 h3 ht.l ht.d).use hH ?_
      try simp [h00, o_i, f_a, a0, b0, ga, gb, ga', gb', wd, hk2]
      refine sq ?_
      refine at_regK [1, 2, 7, 14, 15] rfl ?_
      try simp [h00, o_i, f_a, a0, b0, ga, gb, ga', gb', wd, hk2]
      refine (c103 (tiesM k) (by omega) (htsT c.tr) (by omega) (fun x hx => by rw [hlen]; obtain ⟨g0, g1, g2, g3, _⟩ := ties_in r x hx; exact ⟨g0, g1, g2, g3⟩) (htsT_b ht h2 h3)).use hH ?_
      try simp [h00, o_i, f_a, a0, b0, ga, gb, ga', gb', wd, hk2]
      refine sq ?_
      refine sq ?_
      refine at_draw [76] [0, 1, 0, 0, 0, 0, 0, 1, 0, 0, 0, 1, 0, 0, 1, 0, 0] [] rfl Efol (by kernel_rfl) (by simp) ?_
      try simp [h00, o_i, f_a, a0, b0, ga, gb, ga', gb', wd, hk2]
      refine dps_split 63 rfl (fun hg3 => ?_) (fun hg3 => ?_)
      ·
       try simp [h00, o_i, f_a, a0, b0, ga, gb, ga', gb', wd, hk2, hg3]
       refine at_cond rfl rfl (fun hb76 => ?_) (fun hb76 => by simp at hb76)
       refine sq ?_
       refine at_regK [8] rfl ?_
       try simp [h00, o_i, f_a, a0, b0, ga, gb, ga', gb', wd, hk2]
       refine at_ret (by kernel_rfl) ?_
       try simp [h00, o_i, f_a, a0, b0, ga, gb, ga', gb', wd, hk2]
       rw [hca (by omega), if_neg, if_pos]
       ·simp at hg3
        exact .inl (by omega)
       ·simp at hg1 hg2
        simp [hg1, hg2, hto]
      ·
       try simp [h00, o_i, f_a, a0, b0, ga, gb, ga', gb', wd, hk2, hg3]
       refine at_cond rfl rfl (fun hb76 => ?_) (fun hb76 => ?_)
       ·
        try simp at hb76
        refine sq ?_
        refine at_regK [8] rfl ?_
        try simp [h00, o_i, f_a, a0, b0, ga, gb, ga', gb', wd, hk2]
        refine at_ret (by kernel_rfl) ?_
        try simp [h00, o_i, f_a, a0, b0, ga, gb, ga', gb', wd, hk2]
        rw [hca (by omega), if_neg, if_pos]
        ·simp at hg2
         rw [ra, rb, hg2]
         exact .inr (by simpa using hb76)
        ·simp at hg1 hg2
         simp [hg1, hg2, hto]
       ·
        try simp at hb76
        refine at_skip (by kernel_rfl) ?_
        try simp [h00, o_i, f_a, a0, b0, ga, gb, ga', gb', wd, hk2]
        refine sq ?_
        refine at_regK [8] rfl ?_
        try simp [h00, o_i, f_a, a0, b0, ga, gb, ga', gb', wd, hk2]
        refine at_ret (by kernel_rfl) ?_
        try simp [h00, o_i, f_a, a0, b0, ga, gb, ga', gb', wd, hk2]
        rw [hca (by omega), if_neg, if_neg]
        ·simp at hg2 hg3
         rw [ra, rb, hg2]
         try simp at hb76
         intro h
         rcases h with h | h
         ·omega
         ·exact h hb76
        ·simp at hg1 hg2
         simp [hg1, hg2, hto]
end Go.Abs
/- Law: chains. -/
set_option linter.unusedVariables false
set_option linter.unusedSimpArgs false
set_option maxRecDepth 100000
set_option maxHeartbeats 2000000
namespace Go.Abs
open Go.RowKit Go.Proofs Go.Shaft
attribute [simp] ti22 ti23 ti24 ti26 ti30 ti42 ti45 ti52 ti122 ti125 ti88 ti92 ti46
attribute [simp] ti134 ti131 ti48 ti60 ti35 ti178 ti99 ti85 ti143 ti189 ti190 ti192 ti204 ti208 ti218 ti9 ti5 ti27 ti28 ti141 ti30 ti45
abbrev bL (o0 o1 x2 o3 x4 o5 x6 o7 o8 : AO) : List AO := [o0, o1, x2, o3, x4, o5, x6, o7, o8]
theorem bent_path {T : List (Nat × AV)} {H : List AO} {o0 o1 x2 o3 x4 o5 x6 o7 : AO} {m : Int} {p : List Int} {vp vl vd : Nat} (h3 : o3 = rowX 1 (p.map I)) (hp : vp = p.length) :
  Leads ⟨T, [o0, o1, x2, o3, x4, o5, x6, o7, .cell (.agg [I m, .own false 3 vp, .agg [.own false 5 vl, .own false 7 vd]])], H⟩ ⟨T, [o0, o1, x2, rowXf 1 (p.map I), x4, o5, x6, o7, .cell (.agg [I m, eInts p, .agg [.own false 5 vl, .own false 7 vd]])], H⟩ := by
 subst h3 hp
 exact leads_freezeX1 (s := ⟨T, bL o0 o1 x2 (rowX 1 (p.map I)) x4 o5 x6 o7 (.cell (.agg [I m, .own false 3 p.length, .agg [.own false 5 vl, .own false 7 vd]])), H⟩) (q := 3) (j := 8) (i := 1) (sz := 1) (ws := p.map I) (vs := [I m, .own false 3 p.length, .agg [.own false 5 vl, .own false 7 vd]]) rfl rfl (by decide) (by simp)
theorem bent_rest {T : List (Nat × AV)} {H : List AO} {o0 o1 x2 o3 x4 o5 x6 o7 : AO} {m : Int} {p l d : List Int} {vl vd : Nat} (h5 : o5 = rowX 1 (l.map I)) (h7 : o7 = rowX 1 (d.map I)) (hl : vl = l.length) (hd : vd = d.length) :
  Leads ⟨T, [o0, o1, x2, o3, x4, o5, x6, o7, .cell (.agg [I m, eInts p, .agg [.own false 5 vl, .own false 7 vd]])], H⟩ ⟨T, [o0, o1, x2, o3, x4, rowXf 1 (l.map I), x6, rowXf 1 (d.map I), .cell (eCh ⟨m, p, ⟨l, d⟩⟩)], H⟩ := by
 subst h5 h7 hl hd
 have a1 := leads_freezeX2 (s := ⟨T, bL o0 o1 x2 o3 x4 (rowX 1 (l.map I)) x6 (rowX 1 (d.map I)) (.cell (.agg [I m, eInts p, .agg [.own false 5 l.length, .own false 7 d.length]])), H⟩) (q := 5) (j := 8) (i := 2) (k := 0) (sz := 1) (ws := l.map I) (vs := [I m, eInts p, .agg [.own false 5 l.length, .own false 7 d.length]]) (us := [.own false 5 l.length, .own false 7 d.length]) rfl rfl (by decide) rfl (by simp)
 have a2 := leads_freezeX2 (s := ⟨T, bL o0 o1 x2 o3 x4 (rowXf 1 (l.map I)) x6 (rowX 1 (d.map I)) (.cell (.agg [I m, eInts p, .agg [eInts l, .own false 7 d.length]])), H⟩) (q := 7) (j := 8) (i := 2) (k := 1) (sz := 1) (ws := d.map I) (vs := [I m, eInts p, .agg [eInts l, .own false 7 d.length]]) (us := [eInts l, .own false 7 d.length]) rfl rfl (by decide) rfl (by simp)
 exact Leads.trans a1 a2
theorem bent_end {T : List (Nat × AV)} {H : List AO} {o0 o1 x2 o3 x4 o5 x6 o7 : AO} {m : Int} {p l d : List Int} {vp vl vd : Nat} (h3 : o3 = rowX 1 (p.map I)) (h5 : o5 = rowX 1 (l.map I)) (h7 : o7 = rowX 1 (d.map I)) (hp : vp = p.length) (hl : vl = l.length) (hd : vd = d.length) :
  Leads ⟨T, [o0, o1, x2, o3, x4, o5, x6, o7, .cell (.agg [I m, .own false 3 vp, .agg [.own false 5 vl, .own false 7 vd]])], H⟩ ⟨T, [o0, o1, x2, rowXf 1 (p.map I), x4, rowXf 1 (l.map I), x6, rowXf 1 (d.map I), .cell (eCh ⟨m, p, ⟨l, d⟩⟩)], H⟩ := Leads.trans (bent_path h3 hp) (bent_rest h5 h7 hl hd)
theorem nat_in {a n : Int} (a0 : 0 ≤ a) (n0 : 0 < n) : ∃ u : Nat, a.tmod n = u ∧ (u : Int) < n := by
 obtain ⟨u, h1, h2, h3⟩ := tmod_in a0 n0
 exact ⟨u.toNat, by omega, by omega⟩
def bentAt (w : Int) (l : List Int) : Nat := ((w.tdiv 5).tmod l.length).toNat
/-- A chain of which something is changed. -/
def bentM (c : Ch) (w n : Int) : Ch :=
 if w.tmod 5 = 0 then ⟨IntKind.i64.wrap (c.most + n), c.path, c.tr⟩
 else if w.tmod 5 = 1 then (if 0 < c.path.length then ⟨c.most, c.path.set (bentAt w c.path) n, c.tr⟩ else c)
 else if w.tmod 5 = 2 then (if 0 < c.path.length then ⟨c.most, c.path.tail, c.tr⟩ else c)
 else if w.tmod 5 = 3 then (if 0 < c.tr.loads.length then ⟨c.most, c.path, ⟨c.tr.loads.set (bentAt w c.tr.loads) (IntKind.i64.wrap (c.tr.loads.getD (bentAt w c.tr.loads) 0 + n)), c.tr.draws⟩⟩ else c)
 else if 0 < c.tr.draws.length then ⟨c.most, c.path, ⟨c.tr.loads, c.tr.draws.set (bentAt w c.tr.draws) (IntKind.i64.wrap (c.tr.draws.getD (bentAt w c.tr.draws) 0 + n))⟩⟩ else c

theorem c66 (c : Ch) (w z : Int) (w0 : 0 ≤ w) (w1 : w ≤ 255) (h1 : c.path.length ≤ 1000) (h2 : c.tr.loads.length ≤ 1000) (h3 : c.tr.draws.length ≤ 1000) : Con E 66 [eCh c, .int .u8 w, I z] (eCh (bentM c w z)) := by
 intro n H hH
 have h00 := hh3 hH
 have ⟨hHs, hH', hpl⟩ := h00
 obtain ⟨q, hq⟩ : ∃ q, q = w.tdiv 5 := ⟨_, rfl⟩
 have q0 : 0 ≤ q ∧ q ≤ 255 := by
  rw [hq, Int.tdiv_eq_ediv_of_nonneg w0]
  omega
 obtain ⟨r, hr⟩ : ∃ r, r = w.tmod 5 := ⟨_, rfl⟩
 have r0 : 0 ≤ r ∧ r ≤ 4 := by
  rw [hr, Int.tmod_eq_emod_of_nonneg w0]
  omega
 have e1 : IntKind.u8.wrap q = q := by simp [IntKind.wrap, IntKind.signed, IntKind.bits]; omega
 have e2 : IntKind.u8.wrap r = r := by simp [IntKind.wrap, IntKind.signed, IntKind.bits]; omega
 have e3 : IntKind.i64.wrap q = q := wrap_id (by omega) (by omega)
 refine at_start (fn := Tryz.f66) [.cell 6 85] 105 H.length rfl rfl rfl rfl (by kernel_rfl) (by kernel_rfl) (by simp) (Nat.le_refl _) ?_
 refine sq ?_
 refine at_regK [1, 2, 3, 6] rfl ?_
 try simp [h00, o_i, f_a, ← hq, ← hr, e1, e2, e3]
 refine sq ?_
 refine at_drawD [1, 2, 6, 7] [0,1,2,0,1,2,2,0,0,1,2,2,0,0,1,2,0,0,2,3] [] rfl Efol (by kernel_rfl) (by simp) ?_
 refine DRun.dv rfl ?_
 simp
 refine DRun.dv rfl ?_
 simp
 refine DRun.build0 rfl rfl rfl rfl rfl rfl (by decide) ?_
 simp
 refine DRun.dv rfl ?_
 simp
 refine DRun.dv rfl ?_
 simp
 refine DRun.copyX (ys := c.path.map I) rfl rfl rfl rfl rfl rfl rfl rfl (by decide) rfl rfl rfl (by simp; omega) (by simp) ?_
 simp
 refine DRun.build0 rfl rfl rfl rfl rfl rfl (by decide) ?_
 simp
 refine DRun.dv rfl ?_
 simp
 refine DRun.dv rfl ?_
 simp
 refine DRun.dv rfl ?_
 simp
 refine DRun.copyX (ys := c.tr.loads.map I) rfl rfl rfl rfl rfl rfl rfl rfl (by decide) rfl rfl rfl (by simp; omega) (by simp) ?_
 simp
 refine DRun.build0 rfl rfl rfl rfl rfl rfl (by decide) ?_
 simp
 refine DRun.dv rfl ?_
 simp
 refine DRun.dv rfl ?_
 simp
 refine DRun.dv rfl ?_
 simp
 refine DRun.copyX (ys := c.tr.draws.map I) rfl rfl rfl rfl rfl rfl rfl rfl (by decide) rfl rfl rfl (by simp; omega) (by simp) ?_
 simp
 refine DRun.dv rfl ?_
 simp
 refine DRun.dv rfl ?_
 simp
 refine DRun.dv rfl ?_
 simp
 refine DRun.dv rfl ?_
 simp
 refine DRun.nil ?_
 simp
 refine sq ?_
 refine at_regK [1, 2, 6, 7, 8] rfl ?_
 try simp [h00, o_i, f_a, ← hq, ← hr, e1, e2, e3]
 refine sq ?_
 refine sq ?_
 refine at_regK [2, 6, 7, 8, 31] rfl ?_
 try simp [h00, o_i, f_a, ← hq, ← hr, e1, e2, e3]
 refine at_block rfl ?_
 refine sq ?_
 refine at_regK [2, 6, 7, 8, 31, 51] rfl ?_
 try simp [h00, o_i, f_a, ← hq, ← hr, e1, e2, e3]
 refine at_cond rfl rfl (fun hb51 => ?_) (fun hb51 => ?_)
 ·
  try simp at hb51
  refine at_regK [6, 7] rfl ?_
  try simp [h00, o_i, f_a, ← hq, ← hr, e1, e2, e3]
  refine sq ?_
  first
  | refine at_leads (bent_end (p := c.path.set i1 z) (l := c.tr.loads) (d := c.tr.draws) (by rw [rowX_ne (by simp [hne1]), List.map_set]) rfl rfl (by simp) rfl rfl) ?_
  | refine at_leads (bent_end (p := c.path) (l := c.tr.loads.set i3 (IntKind.i64.wrap (v3 + z))) (d := c.tr.draws) rfl (by rw [rowX_ne (by simp [hne3]), List.map_set]) rfl rfl (by simp) rfl) ?_
  | refine at_leads (bent_end (p := c.path) (l := c.tr.loads) (d := c.tr.draws.set i4 (IntKind.i64.wrap (v4 + z))) rfl rfl (by rw [rowX_ne (by simp [hne4]), List.map_set]) rfl rfl (by simp)) ?_
  | refine at_leads (bent_end (p := c.path) (l := c.tr.loads) (d := c.tr.draws) rfl rfl rfl rfl rfl rfl) ?_
  | refine at_leads (bent_rest (p := c.path.tail) (l := c.tr.loads) (d := c.tr.draws) rfl rfl rfl rfl) ?_
  refine at_regK [6] rfl ?_
  try simp [h00, o_i, f_a, ← hq, ← hr, e1, e2, e3]
  refine at_ret (by kernel_rfl) ?_
  try simp [h00, o_i, f_a, ← hq, ← hr, e1, e2, e3]
  congr 1
  unfold bentM
  rw [← hr]
  clear hr hq
  first
  | (simp [*]; done)
  | (rcases c with ⟨cm, cp, cl, cd⟩; simp_all; done)
 ·
  try simp at hb51
  refine sq ?_
  refine at_regK [2, 6, 7, 8, 31, 58] rfl ?_
  try simp [h00, o_i, f_a, ← hq, ← hr, e1, e2, e3]
  refine at_cond rfl rfl (fun hb58 => ?_) (fun hb58 => ?_)
  ·
   try simp at hb58
   refine sq ?_
   refine at_regK [2, 6, 7, 8, 63] rfl ?_
   try simp [h00, o_i, f_a, ← hq, ← hr, e1, e2, e3]
   refine at_cond rfl rfl (fun hb63 => ?_) (fun hb63 => ?_)
   ·
    try simp at hb63
    have hne1 : c.path ≠ [] := by intro e; simp [e] at hb63
    have hle1 : 0 < c.path.length := List.length_pos_iff.2 hne1
    obtain ⟨i1, hi1, il1⟩ := nat_in q0.1 (show (0 : Int) < c.path.length by omega)
    have hrx1 : rowX 1 (c.path.map I) = .row 1 (c.path.map I) := rowX_ne (by simpa using hne1)
    have hln1 : ¬ (c.path.length : Int) = 0 := by omega
    have hbt1 : bentAt w c.path = i1 := by unfold bentAt; rw [← hq, hi1]; rfl
    obtain ⟨v1, hv1⟩ : ∃ v, c.path[i1]? = some v := ⟨_, List.getElem?_eq_getElem (by omega)⟩
    have hv1a : ∀ p, c.path[i1]'p = v1 := fun p => (List.getElem?_eq_some_iff.1 hv1).2
    have hvd1 : c.path.getD i1 0 = v1 := by rw [List.getD_eq_getElem?_getD, hv1]; rfl
    refine at_draw [6, 7] [0, 1, 0, 0, 1, 0, 0, 0, 0, 3] [] rfl Efol (by kernel_rfl) (by simp) ?_
    try simp [h00, o_i, f_a, ← hq, ← hr, e1, e2, e3, hv1, hv1a, hi1, il1, hrx1, hln1, hle1, hne1]
    refine sq ?_
    first
    | refine at_leads (bent_end (p := c.path.set i1 z) (l := c.tr.loads) (d := c.tr.draws) (by rw [rowX_ne (by simp [hne1]), List.map_set]) rfl rfl (by simp) rfl rfl) ?_
    | refine at_leads (bent_end (p := c.path) (l := c.tr.loads.set i3 (IntKind.i64.wrap (v3 + z))) (d := c.tr.draws) rfl (by rw [rowX_ne (by simp [hne3]), List.map_set]) rfl rfl (by simp) rfl) ?_
    | refine at_leads (bent_end (p := c.path) (l := c.tr.loads) (d := c.tr.draws.set i4 (IntKind.i64.wrap (v4 + z))) rfl rfl (by rw [rowX_ne (by simp [hne4]), List.map_set]) rfl rfl (by simp)) ?_
    | refine at_leads (bent_end (p := c.path) (l := c.tr.loads) (d := c.tr.draws) rfl rfl rfl rfl rfl rfl) ?_
    | refine at_leads (bent_rest (p := c.path.tail) (l := c.tr.loads) (d := c.tr.draws) rfl rfl rfl rfl) ?_
    refine at_regK [6] rfl ?_
    try simp [h00, o_i, f_a, ← hq, ← hr, e1, e2, e3, hv1, hv1a, hi1, il1, hrx1, hln1, hle1, hne1]
    refine at_ret (by kernel_rfl) ?_
    try simp [h00, o_i, f_a, ← hq, ← hr, e1, e2, e3, hv1, hv1a, hi1, il1, hrx1, hln1, hle1, hne1]
    congr 1
    unfold bentM
    rw [← hr]
    clear hr hq
    first
    | (simp [*]; done)
    | (rcases c with ⟨cm, cp, cl, cd⟩; simp_all; done)
   ·
    try simp at hb63
    refine at_skip (by kernel_rfl) ?_
    try simp [h00, o_i, f_a, ← hq, ← hr, e1, e2, e3]
    refine sq ?_
    first
    | refine at_leads (bent_end (p := c.path.set i1 z) (l := c.tr.loads) (d := c.tr.draws) (by rw [rowX_ne (by simp [hne1]), List.map_set]) rfl rfl (by simp) rfl rfl) ?_
    | refine at_leads (bent_end (p := c.path) (l := c.tr.loads.set i3 (IntKind.i64.wrap (v3 + z))) (d := c.tr.draws) rfl (by rw [rowX_ne (by simp [hne3]), List.map_set]) rfl rfl (by simp) rfl) ?_
    | refine at_leads (bent_end (p := c.path) (l := c.tr.loads) (d := c.tr.draws.set i4 (IntKind.i64.wrap (v4 + z))) rfl rfl (by rw [rowX_ne (by simp [hne4]), List.map_set]) rfl rfl (by simp)) ?_
    | refine at_leads (bent_end (p := c.path) (l := c.tr.loads) (d := c.tr.draws) rfl rfl rfl rfl rfl rfl) ?_
    | refine at_leads (bent_rest (p := c.path.tail) (l := c.tr.loads) (d := c.tr.draws) rfl rfl rfl rfl) ?_
    refine at_regK [6] rfl ?_
    try simp [h00, o_i, f_a, ← hq, ← hr, e1, e2, e3]
    refine at_ret (by kernel_rfl) ?_
    try simp [h00, o_i, f_a, ← hq, ← hr, e1, e2, e3]
    congr 1
    unfold bentM
    rw [← hr]
    clear hr hq
    first
    | (simp [*]; done)
    | (rcases c with ⟨cm, cp, cl, cd⟩; simp_all; done)
  ·
   try simp at hb58
   refine sq ?_
   refine at_regK [2, 6, 7, 8, 31, 73] rfl ?_
   try simp [h00, o_i, f_a, ← hq, ← hr, e1, e2, e3]
   refine at_cond rfl rfl (fun hb73 => ?_) (fun hb73 => ?_)
   ·
    try simp at hb73
    refine sq ?_
    refine at_regK [6, 7, 78] rfl ?_
    try simp [h00, o_i, f_a, ← hq, ← hr, e1, e2, e3]
    refine at_cond rfl rfl (fun hb78 => ?_) (fun hb78 => ?_)
    ·
     try simp at hb78
     have hle2 : 1 ≤ c.path.length := by omega
     refine at_leads (bent_path (p := c.path) rfl rfl) ?_
     refine at_regK [6, 7] rfl ?_
     try simp [h00, o_i, f_a, ← hq, ← hr, e1, e2, e3, hle2]
     refine sq ?_
     first
     | refine at_leads (bent_end (p := c.path.set i1 z) (l := c.tr.loads) (d := c.tr.draws) (by rw [rowX_ne (by simp [hne1]), List.map_set]) rfl rfl (by simp) rfl rfl) ?_
     | refine at_leads (bent_end (p := c.path) (l := c.tr.loads.set i3 (IntKind.i64.wrap (v3 + z))) (d := c.tr.draws) rfl (by rw [rowX_ne (by simp [hne3]), List.map_set]) rfl rfl (by simp) rfl) ?_
     | refine at_leads (bent_end (p := c.path) (l := c.tr.loads) (d := c.tr.draws.set i4 (IntKind.i64.wrap (v4 + z))) rfl rfl (by rw [rowX_ne (by simp [hne4]), List.map_set]) rfl rfl (by simp)) ?_
     | refine at_leads (bent_end (p := c.path) (l := c.tr.loads) (d := c.tr.draws) rfl rfl rfl rfl rfl rfl) ?_
     | refine at_leads (bent_rest (p := c.path.tail) (l := c.tr.loads) (d := c.tr.draws) rfl rfl rfl rfl) ?_
     refine at_regK [6] rfl ?_
     try simp [h00, o_i, f_a, ← hq, ← hr, e1, e2, e3, hle2]
     refine at_ret (by kernel_rfl) ?_
     try simp [h00, o_i, f_a, ← hq, ← hr, e1, e2, e3, hle2]
     congr 1
     unfold bentM
     rw [← hr]
     clear hr hq
     first
     | (simp [*]; done)
     | (rcases c with ⟨cm, cp, cl, cd⟩; simp_all; done)
    ·
     try simp at hb78
     refine at_skip (by kernel_rfl) ?_
     try simp [h00, o_i, f_a, ← hq, ← hr, e1, e2, e3]
     refine sq ?_
     first
     | refine at_leads (bent_end (p := c.path.set i1 z) (l := c.tr.loads) (d := c.tr.draws) (by rw [rowX_ne (by simp [hne1]), List.map_set]) rfl rfl (by simp) rfl rfl) ?_
     | refine at_leads (bent_end (p := c.path) (l := c.tr.loads.set i3 (IntKind.i64.wrap (v3 + z))) (d := c.tr.draws) rfl (by rw [rowX_ne (by simp [hne3]), List.map_set]) rfl rfl (by simp) rfl) ?_
     | refine at_leads (bent_end (p := c.path) (l := c.tr.loads) (d := c.tr.draws.set i4 (IntKind.i64.wrap (v4 + z))) rfl rfl (by rw [rowX_ne (by simp [hne4]), List.map_set]) rfl rfl (by simp)) ?_
     | refine at_leads (bent_end (p := c.path) (l := c.tr.loads) (d := c.tr.draws) rfl rfl rfl rfl rfl rfl) ?_
     | refine at_leads (bent_rest (p := c.path.tail) (l := c.tr.loads) (d := c.tr.draws) rfl rfl rfl rfl) ?_
     refine at_regK [6] rfl ?_
     try simp [h00, o_i, f_a, ← hq, ← hr, e1, e2, e3]
     refine at_ret (by kernel_rfl) ?_
     try simp [h00, o_i, f_a, ← hq, ← hr, e1, e2, e3]
     congr 1
     unfold bentM
     rw [← hr]
     clear hr hq
     first
     | (simp [*]; done)
     | (rcases c with ⟨cm, cp, cl, cd⟩; simp_all; done)
   ·
    try simp at hb73
    refine sq ?_
    refine at_regK [2, 6, 7, 8, 83] rfl ?_
    try simp [h00, o_i, f_a, ← hq, ← hr, e1, e2, e3]
    refine at_cond rfl rfl (fun hb83 => ?_) (fun hb83 => ?_)
    ·
     try simp at hb83
     refine sq ?_
     refine at_regK [2, 6, 7, 8, 89] rfl ?_
     try simp [h00, o_i, f_a, ← hq, ← hr, e1, e2, e3]
     refine at_cond rfl rfl (fun hb89 => ?_) (fun hb89 => ?_)
     ·
      try simp at hb89
      have hne3 : c.tr.loads ≠ [] := by intro e; simp [e] at hb89
      have hle3 : 0 < c.tr.loads.length := List.length_pos_iff.2 hne3
      obtain ⟨i3, hi3, il3⟩ := nat_in q0.1 (show (0 : Int) < c.tr.loads.length by omega)
      have hrx3 : rowX 1 (c.tr.loads.map I) = .row 1 (c.tr.loads.map I) := rowX_ne (by simpa using hne3)
      have hln3 : ¬ (c.tr.loads.length : Int) = 0 := by omega
      have hbt3 : bentAt w c.tr.loads = i3 := by unfold bentAt; rw [← hq, hi3]; rfl
      obtain ⟨v3, hv3⟩ : ∃ v, c.tr.loads[i3]? = some v := ⟨_, List.getElem?_eq_getElem (by omega)⟩
      have hv3a : ∀ p, c.tr.loads[i3]'p = v3 := fun p => (List.getElem?_eq_some_iff.1 hv3).2
      have hvd3 : c.tr.loads.getD i3 0 = v3 := by rw [List.getD_eq_getElem?_getD, hv3]; rfl
      refine at_draw [6, 7] [0, 0, 1, 0, 0, 0, 1, 0, 0, 0, 1, 0, 0, 0, 3] [] rfl Efol (by kernel_rfl) (by simp) ?_
      try simp [h00, o_i, f_a, ← hq, ← hr, e1, e2, e3, hi3, il3, hrx3, hln3, hle3, hne3, hv3, hv3a]
      refine sq ?_
      first
      | refine at_leads (bent_end (p := c.path.set i1 z) (l := c.tr.loads) (d := c.tr.draws) (by rw [rowX_ne (by simp [hne1]), List.map_set]) rfl rfl (by simp) rfl rfl) ?_
      | refine at_leads (bent_end (p := c.path) (l := c.tr.loads.set i3 (IntKind.i64.wrap (v3 + z))) (d := c.tr.draws) rfl (by rw [rowX_ne (by simp [hne3]), List.map_set]) rfl rfl (by simp) rfl) ?_
      | refine at_leads (bent_end (p := c.path) (l := c.tr.loads) (d := c.tr.draws.set i4 (IntKind.i64.wrap (v4 + z))) rfl rfl (by rw [rowX_ne (by simp [hne4]), List.map_set]) rfl rfl (by simp)) ?_
      | refine at_leads (bent_end (p := c.path) (l := c.tr.loads) (d := c.tr.draws) rfl rfl rfl rfl rfl rfl) ?_
      | refine at_leads (bent_rest (p := c.path.tail) (l := c.tr.loads) (d := c.tr.draws) rfl rfl rfl rfl) ?_
      refine at_regK [6] rfl ?_
      try simp [h00, o_i, f_a, ← hq, ← hr, e1, e2, e3, hi3, il3, hrx3, hln3, hle3, hne3, hv3, hv3a]
      refine at_ret (by kernel_rfl) ?_
      try simp [h00, o_i, f_a, ← hq, ← hr, e1, e2, e3, hi3, il3, hrx3, hln3, hle3, hne3, hv3, hv3a]
      congr 1
      unfold bentM
      rw [← hr]
      clear hr hq
      first
      | (simp [*]; done)
      | (rcases c with ⟨cm, cp, cl, cd⟩; simp_all; done)
     ·
      try simp at hb89
      refine at_skip (by kernel_rfl) ?_
      try simp [h00, o_i, f_a, ← hq, ← hr, e1, e2, e3]
      refine sq ?_
      first
      | refine at_leads (bent_end (p := c.path.set i1 z) (l := c.tr.loads) (d := c.tr.draws) (by rw [rowX_ne (by simp [hne1]), List.map_set]) rfl rfl (by simp) rfl rfl) ?_
      | refine at_leads (bent_end (p := c.path) (l := c.tr.loads.set i3 (IntKind.i64.wrap (v3 + z))) (d := c.tr.draws) rfl (by rw [rowX_ne (by simp [hne3]), List.map_set]) rfl rfl (by simp) rfl) ?_
      | refine at_leads (bent_end (p := c.path) (l := c.tr.loads) (d := c.tr.draws.set i4 (IntKind.i64.wrap (v4 + z))) rfl rfl (by rw [rowX_ne (by simp [hne4]), List.map_set]) rfl rfl (by simp)) ?_
      | refine at_leads (bent_end (p := c.path) (l := c.tr.loads) (d := c.tr.draws) rfl rfl rfl rfl rfl rfl) ?_
      | refine at_leads (bent_rest (p := c.path.tail) (l := c.tr.loads) (d := c.tr.draws) rfl rfl rfl rfl) ?_
      refine at_regK [6] rfl ?_
      try simp [h00, o_i, f_a, ← hq, ← hr, e1, e2, e3]
      refine at_ret (by kernel_rfl) ?_
      try simp [h00, o_i, f_a, ← hq, ← hr, e1, e2, e3]
      congr 1
      unfold bentM
      rw [← hr]
      clear hr hq
      first
      | (simp [*]; done)
      | (rcases c with ⟨cm, cp, cl, cd⟩; simp_all; done)
    ·
     try simp at hb83
     refine sq ?_
     refine at_regK [2, 6, 7, 8, 36] rfl ?_
     try simp [h00, o_i, f_a, ← hq, ← hr, e1, e2, e3]
     refine at_cond rfl rfl (fun hb36 => ?_) (fun hb36 => ?_)
     ·
      try simp at hb36
      have hne4 : c.tr.draws ≠ [] := by intro e; simp [e] at hb36
      have hle4 : 0 < c.tr.draws.length := List.length_pos_iff.2 hne4
      obtain ⟨i4, hi4, il4⟩ := nat_in q0.1 (show (0 : Int) < c.tr.draws.length by omega)
      have hrx4 : rowX 1 (c.tr.draws.map I) = .row 1 (c.tr.draws.map I) := rowX_ne (by simpa using hne4)
      have hln4 : ¬ (c.tr.draws.length : Int) = 0 := by omega
      have hbt4 : bentAt w c.tr.draws = i4 := by unfold bentAt; rw [← hq, hi4]; rfl
      obtain ⟨v4, hv4⟩ : ∃ v, c.tr.draws[i4]? = some v := ⟨_, List.getElem?_eq_getElem (by omega)⟩
      have hv4a : ∀ p, c.tr.draws[i4]'p = v4 := fun p => (List.getElem?_eq_some_iff.1 hv4).2
      have hvd4 : c.tr.draws.getD i4 0 = v4 := by rw [List.getD_eq_getElem?_getD, hv4]; rfl
      refine at_draw [6, 7] [0, 0, 1, 0, 0, 0, 1, 0, 0, 0, 1, 0, 0, 0, 3] [] rfl Efol (by kernel_rfl) (by simp) ?_
      try simp [h00, o_i, f_a, ← hq, ← hr, e1, e2, e3, hi4, il4, hrx4, hln4, hle4, hne4, hv4, hv4a]
      refine sq ?_
      first
      | refine at_leads (bent_end (p := c.path.set i1 z) (l := c.tr.loads) (d := c.tr.draws) (by rw [rowX_ne (by simp [hne1]), List.map_set]) rfl rfl (by simp) rfl rfl) ?_
      | refine at_leads (bent_end (p := c.path) (l := c.tr.loads.set i3 (IntKind.i64.wrap (v3 + z))) (d := c.tr.draws) rfl (by rw [rowX_ne (by simp [hne3]), List.map_set]) rfl rfl (by simp) rfl) ?_
      | refine at_leads (bent_end (p := c.path) (l := c.tr.loads) (d := c.tr.draws.set i4 (IntKind.i64.wrap (v4 + z))) rfl rfl (by rw [rowX_ne (by simp [hne4]), List.map_set]) rfl rfl (by simp)) ?_
      | refine at_leads (bent_end (p := c.path) (l := c.tr.loads) (d := c.tr.draws) rfl rfl rfl rfl rfl rfl) ?_
      | refine at_leads (bent_rest (p := c.path.tail) (l := c.tr.loads) (d := c.tr.draws) rfl rfl rfl rfl) ?_
      refine at_regK [6] rfl ?_
      try simp [h00, o_i, f_a, ← hq, ← hr, e1, e2, e3, hi4, il4, hrx4, hln4, hle4, hne4, hv4, hv4a]
      refine at_ret (by kernel_rfl) ?_
      try simp [h00, o_i, f_a, ← hq, ← hr, e1, e2, e3, hi4, il4, hrx4, hln4, hle4, hne4, hv4, hv4a]
      congr 1
      unfold bentM
      rw [← hr]
      clear hr hq
      first
      | (simp [*]; done)
      | (rcases c with ⟨cm, cp, cl, cd⟩; simp_all; done)
     ·
      try simp at hb36
      refine at_skip (by kernel_rfl) ?_
      try simp [h00, o_i, f_a, ← hq, ← hr, e1, e2, e3]
      refine sq ?_
      first
      | refine at_leads (bent_end (p := c.path.set i1 z) (l := c.tr.loads) (d := c.tr.draws) (by rw [rowX_ne (by simp [hne1]), List.map_set]) rfl rfl (by simp) rfl rfl) ?_
      | refine at_leads (bent_end (p := c.path) (l := c.tr.loads.set i3 (IntKind.i64.wrap (v3 + z))) (d := c.tr.draws) rfl (by rw [rowX_ne (by simp [hne3]), List.map_set]) rfl rfl (by simp) rfl) ?_
      | refine at_leads (bent_end (p := c.path) (l := c.tr.loads) (d := c.tr.draws.set i4 (IntKind.i64.wrap (v4 + z))) rfl rfl (by rw [rowX_ne (by simp [hne4]), List.map_set]) rfl rfl (by simp)) ?_
      | refine at_leads (bent_end (p := c.path) (l := c.tr.loads) (d := c.tr.draws) rfl rfl rfl rfl rfl rfl) ?_
      | refine at_leads (bent_rest (p := c.path.tail) (l := c.tr.loads) (d := c.tr.draws) rfl rfl rfl rfl) ?_
      refine at_regK [6] rfl ?_
      try simp [h00, o_i, f_a, ← hq, ← hr, e1, e2, e3]
      refine at_ret (by kernel_rfl) ?_
      try simp [h00, o_i, f_a, ← hq, ← hr, e1, e2, e3]
      congr 1
      unfold bentM
      rw [← hr]
      clear hr hq
      first
      | (simp [*]; done)
      | (rcases c with ⟨cm, cp, cl, cd⟩; simp_all; done)

theorem bent_len (c : Ch) (w n : Int) : (bentM c w n).path.length ≤ c.path.length ∧ (bentM c w n).tr.loads.length = c.tr.loads.length ∧ (bentM c w n).tr.draws.length = c.tr.draws.length := by
 unfold bentM
 (repeat' split) <;> simp
theorem above_err {k : Kn} {a b : Int} (h : ¬ (aboveC k a b).2 = 0) : (aboveC k a b).1 = zCh := by
 unfold aboveC at h ⊢
 split
 ·rfl
 ·rename_i h1
  rw [if_neg h1] at h
  split
  ·rfl
  ·rename_i h2
   rw [if_neg h2] at h
   exact (h rfl).elim
theorem above_lens (k : Kn) (a b : Int) : (aboveC k a b).1.path.length ≤ 41 ∧ (aboveC k a b).1.tr.loads.length ≤ 20 ∧ (aboveC k a b).1.tr.draws.length ≤ 20 := by
 by_cases h : (aboveC k a b).2 = 0
 ·obtain ⟨hc, ⟨a0, a1⟩, ⟨b0, b1⟩, hF, _⟩ := above_zero h
  exact aboveC_len hc a0 a1 b0 b1 hF
 ·rw [above_err h]
  exact ⟨by decide, by decide, by decide⟩

theorem c14 (k : Kn) (a b : Int) (c : Ch) (w z : Int) (w0 : 0 ≤ w) (w1 : w ≤ 255) : Con E 14 [eKn k, I a, I b, eCh c, .int .u8 w, I z] (.bool true) := by
 intro n H hH
 have h00 := hh3 hH
 have ⟨hHs, hH', hpl⟩ := h00
 refine at_start (fn := Tryz.f14) [.tmp 12] 132 H.length rfl rfl rfl rfl (by kernel_rfl) (by kernel_rfl) (by simp) (Nat.le_refl _) ?_
 refine sq ?_
 refine at_regK [1, 2, 4, 5, 6, 9] rfl ?_
 try simp [h00, o_i, f_a]
 refine sq ?_
 refine sq ?_
 refine at_regK [1, 2, 4, 5, 6, 9, 40] rfl ?_
 try simp [h00, o_i, f_a]
 refine (c16 _).use hH ?_
 try simp [h00, o_i, f_a]
 refine pops_split 21 rfl (fun hg1 => ?_) (fun hg1 => ?_)
 ·
  try simp [h00, o_i, f_a, hg1]
  refine at_cond rfl rfl (fun hb40 => ?_) (fun hb40 => by simp at hb40)
  refine sq ?_
  refine at_regK [12] rfl ?_
  try simp [h00, o_i, f_a]
  refine c17.use hH ?_
  try simp [h00, o_i, f_a]
  refine at_ret (by kernel_rfl) ?_
  try simp [h00, o_i, f_a]
 ·
  have hfw : fewB k = true := by simpa using hg1
  have hk := fewB_few hfw
  try simp [h00, o_i, f_a, hg1]
  refine pops_split 27 rfl (fun hg2 => ?_) (fun hg2 => ?_)
  ·
   try simp [h00, o_i, f_a, hg2]
   refine at_cond rfl rfl (fun hb40 => ?_) (fun hb40 => by simp at hb40)
   refine sq ?_
   refine at_regK [12] rfl ?_
   try simp [h00, o_i, f_a]
   refine c17.use hH ?_
   try simp [h00, o_i, f_a]
   refine at_ret (by kernel_rfl) ?_
   try simp [h00, o_i, f_a]
  ·
   try simp [h00, o_i, f_a, hg2]
   refine pops_split 34 rfl (fun hg3 => ?_) (fun hg3 => ?_)
   ·
    try simp [h00, o_i, f_a, hg3]
    refine at_cond rfl rfl (fun hb40 => ?_) (fun hb40 => by simp at hb40)
    refine sq ?_
    refine at_regK [12] rfl ?_
    try simp [h00, o_i, f_a]
    refine c17.use hH ?_
    try simp [h00, o_i, f_a]
    refine at_ret (by kernel_rfl) ?_
    try simp [h00, o_i, f_a]
   ·
    try simp [h00, o_i, f_a, hg3]
    refine at_cond rfl rfl (fun hb40 => ?_) (fun hb40 => ?_)
    ·
     try simp at hb40
     refine sq ?_
     refine at_regK [12] rfl ?_
     try simp [h00, o_i, f_a]
     refine c17.use hH ?_
     try simp [h00, o_i, f_a]
     refine at_ret (by kernel_rfl) ?_
     try simp [h00, o_i, f_a]
    ·
     try simp at hb40
     have l2 : c.path.length ≤ 250 := by simp at hg2; omega
     have l3 : c.tr.loads.length ≤ 60 := by simp at hg3; omega
     have l4 : c.tr.draws.length ≤ 60 := by omega
     obtain ⟨me1, me2⟩ := most_eq k a b
     obtain ⟨pl1, pl2, pl3⟩ := above_lens k a b
     obtain ⟨e, he⟩ : ∃ e, e = (aboveC k a b).2 := ⟨_, rfl⟩
     obtain ⟨p, hp⟩ : ∃ p, p = (aboveC k a b).1 := ⟨_, rfl⟩
     rw [← hp] at pl1 pl2 pl3 me2
     rw [← he] at me1
     obtain ⟨bl1, bl2, bl3⟩ := bent_len p w z
     have hself : e = 0 → checkAboveM k a b p = 0 := by
      intro h
      rw [he] at h
      obtain ⟨hc, ⟨a0, a1⟩, ⟨b0, b1⟩, hF, _⟩ := above_zero h
      rw [hp]
      exact above_self hc a0 a1 b0 b1 hF
     have herr : ¬ e = 0 → p = zCh := by
      intro h
      rw [he] at h
      rw [hp]
      exact above_err h
     have hz1 : zCh.path = [] := rfl
     have hz2 : zCh.tr.loads = [] := rfl
     have hz3 : zCh.tr.draws = [] := rfl
     refine at_skip (by kernel_rfl) ?_
     try simp [h00, o_i, f_a, ← he, ← hp, me1, me2]
     refine sq ?_
     refine at_regK [1, 2, 4, 5, 6, 9, 13, 14] rfl ?_
     try simp [h00, o_i, f_a, ← he, ← hp, me1, me2]
     refine (c50 k hk a b).use hH ?_
     try simp [h00, o_i, f_a, ← he, ← hp, me1, me2]
     refine sq ?_
     refine at_regK [1, 2, 4, 5, 6, 9, 13, 14, 15, 16] rfl ?_
     try simp [h00, o_i, f_a, ← he, ← hp, me1, me2]
     refine (c64 k hk a b).use hH ?_
     try simp [h00, o_i, f_a, ← he, ← hp, me1, me2]
     refine sq ?_
     refine sq ?_
     refine at_join ⟨[(1, I a), (2, I b), (4, .int .u8 w), (5, I z), (6, .ref false 0 0 [] 0), (9, .ref false 1 0 [] 0), (13, .ref false 2 0 [] 0), (100, .bool false)], [.cell (eKn k), .cell (eCh c), .cell (eCh p)], H⟩ ?_ ?_
     ·
      refine at_regK [1, 2, 4, 5, 6, 9, 13, 100] rfl ?_
      try simp [h00, o_i, f_a, ← he, ← hp, me1, me2]
      refine pops_split 68 rfl (fun hg4 => ?_) (fun hg4 => ?_)
      ·
       have hs := hself (by simpa using hg4)
       have hez : e = 0 := by simpa using hg4
       try simp [h00, o_i, f_a, ← he, ← hp, me1, me2, hs, hez, hg4]
       refine (c65 k hk a b p (by omega) (by omega) (by omega)).use hH ?_
       try simp [h00, o_i, f_a, ← he, ← hp, me1, me2, hs, hez]
      ·
       have hs := herr (by simpa using hg4)
       have hez : ¬ e = 0 := by simpa using hg4
       try simp [h00, o_i, f_a, ← he, ← hp, me1, me2, hs, hez, hz1, hz2, hz3, hg4]
     ·
      try simp [h00, o_i, f_a, ← he, ← hp, me1, me2]
      refine at_cond rfl rfl (fun hb100 => by simp at hb100) (fun hb100 => ?_)
      refine at_skip (by kernel_rfl) ?_
      try simp [h00, o_i, f_a, ← he, ← hp, me1, me2]
      refine sq ?_
      refine at_regK [1, 2, 6, 9, 17] rfl ?_
      try simp [h00, o_i, f_a, ← he, ← hp, me1, me2]
      refine (c66 p w z w0 w1 (by omega) (by omega) (by omega)).use hH ?_
      try simp [h00, o_i, f_a, ← he, ← hp, me1, me2]
      refine sq ?_
      refine at_draw [12] [1, 0, 1, 0, 0, 1, 1, 1, 0, 0, 1, 1, 0, 0, 0, 1, 0, 0, 1, 1, 1, 0, 0, 1, 1, 0, 0, 0] [] rfl Efol (by kernel_rfl) (by simp) ?_
      try simp [h00, o_i, f_a, ← he, ← hp, me1, me2]
      refine c17.draw hH ?_
      try simp [h00, o_i, f_a, ← he, ← hp, me1, me2]
      refine (c67 k hk a b c (by omega) (by omega) (by omega)).draw hH ?_
      try simp [h00, o_i, f_a, ← he, ← hp, me1, me2]
      refine (c65 k hk a b c (by omega) (by omega) (by omega)).draw hH ?_
      try simp [h00, o_i, f_a, ← he, ← hp, me1, me2]
      refine (c67 k hk a b (bentM p w z) (by omega) (by omega) (by omega)).draw hH ?_
      try simp [h00, o_i, f_a, ← he, ← hp, me1, me2]
      refine (c65 k hk a b (bentM p w z) (by omega) (by omega) (by omega)).draw hH ?_
      try simp [h00, o_i, f_a, ← he, ← hp, me1, me2]
      refine at_ret (by kernel_rfl) ?_
      try simp [h00, o_i, f_a, ← he, ← hp, me1, me2]
end Go.Abs
