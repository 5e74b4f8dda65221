/- What this law alone rests on. -/
import Derived.Test.YtaapndcljpcelaaGreatK5
/- Each weight between its ends is that of some weights that are true; beyond them there are none. -/
set_option linter.unusedVariables false
set_option linter.unusedSimpArgs false
namespace Go.Shaft
def idsK (k : Kn) : List Int := k.loads.map (·.id) ++ (k.draws.map (·.id) ++ k.weighs.map (·.id))
theorem chkW_app {k : Kn} : ∀ (l : List Wg) (m : List Wg) (sn : List Int), chkW k l sn = 0 → chkW k (l ++ m) sn = chkW k m (sn ++ l.map (·.id))
  | [], m, sn, _ => by simp
  | w :: l, m, sn, h => by
    rw [chkW] at h
    rw [List.cons_append, chkW]
    split at h
    · rename_i hw
      rw [if_pos hw]
      split at h
      · simp at h
      · rename_i hn
        rw [if_neg hn, chkW_app l m _ h]
        simp
    · simp at h
theorem weighB_more (k : Kn) (w v : Wg) : weighB (moreW k w) v = weighB k v := rfl
theorem chkW_cong {k k' : Kn} (h : ∀ w, weighB k' w = weighB k w) : ∀ (l : List Wg) (sn : List Int), chkW k' l sn = chkW k l sn
  | [], _ => rfl
  | w :: l, sn => by rw [chkW, chkW, h, chkW_cong h l]
theorem check_more {k : Kn} (hc : check k = 0) {w : Wg} (hw : weighB k w = true) (hid : w.id ∉ idsK k) (hl : k.weighs.length < 20) : check (moreW k w) = 0 := by
  unfold check at hc ⊢
  split at hc
  · rename_i h1
    rw [if_pos (show (inB (moreW k w).room 0 16777216 && inB (moreW k w).per 1 65536) = true from h1)]
    split at hc
    · simp at hc
    · rename_i h2
      rw [if_neg (by simp only [moreW, List.length_append, List.length_cons, List.length_nil]; omega)]
      simp only at hc
      show (if (chk k.loads 0 []).1 ≠ 0 then _ else if (chk k.draws 0 (chk k.loads 0 []).2).1 ≠ 0 then _ else _) = (0 : Int)
      split at hc
      · rename_i h3; exact (h3 hc).elim
      · rename_i h3
        rw [if_neg h3]
        split at hc
        · rename_i h4; exact (h4 hc).elim
        · rename_i h4
          rw [if_neg h4]
          obtain ⟨e1, n1, _⟩ := chk_more k.loads 0 [] (by simpa using h3) (by simp)
          obtain ⟨e2, n2, _⟩ := chk_more k.draws 0 (chk k.loads 0 []).2 (by simpa using h4) (by rw [e1]; exact n1)
          show chkW (moreW k w) (k.weighs ++ [w]) (chk k.draws 0 (chk k.loads 0 []).2).2 = 0
          rw [chkW_cong (weighB_more k w), chkW_app _ _ _ hc, chkW, if_pos hw, if_neg]
          · rfl
          · rw [e2, e1]
            unfold idsK at hid
            simpa using hid
  · simp at hc
/-- A load is weighed alone. -/
def loneW (id more lo hi : Int) : Wg := ⟨more, 1, id, id, ⟨lo, hi⟩⟩
theorem lone_right {k : Kn} {i : Nat} {x : Ld} (o : Order k) (hx : k.loads[i]? = some x) {more lo hi : Int} (m0 : 1 ≤ more) (m1 : more ≤ 1099511627776) (l0 : 0 ≤ lo) (lh : lo ≤ hi) (h1 : hi ≤ 16777216) : weighB k (loneW x.id more lo hi) = true := by
  have h := find_id (nodup_l o) hx
  unfold weighB loneW orderedB inB spanB
  simp only [h]
  simp
  omega
theorem lone_feas {k : Kn} {i : Nat} {x : Ld} (o : Order k) (hx : k.loads[i]? = some x) {more lo hi : Int} {H : Int → Int} : Feas (netM (moreW k (loneW x.id more lo hi)) []) H ↔ Feas (netM k []) H ∧ lo ≤ H ((i : Int) + 1) - H i ∧ H ((i : Int) + 1) - H i ≤ hi := by
  have h := find_id (nodup_l o) hx
  have hw : weighedM (moreW k (loneW x.id more lo hi)) (loneW x.id more lo hi) = ((i : Int), (i : Int) + 1) := by
    unfold weighedM
    rw [if_pos (show (loneW x.id more lo hi).kind = 1 from rfl)]
    show (find k.loads x.id, find k.loads x.id + 1) = _
    rw [h]
  have hl : (moreW k (loneW x.id more lo hi)).weighs[k.weighs.length]? = some (loneW x.id more lo hi) := by simp [moreW]
  have e3 : ties3 (moreW k (loneW x.id more lo hi)) = ties3 k ++ both (i : Int) ((i : Int) + 1) ⟨lo, hi⟩ more := by
    unfold ties3
    show List.flatMap _ (k.weighs ++ [_]) = _
    rw [List.flatMap_append]
    simp only [List.flatMap_cons, List.flatMap_nil, List.append_nil]
    rw [hw]
    rfl
  constructor
  · intro f
    refine ⟨feas_of_more f, ?_⟩
    have hm : ∀ t ∈ both (i : Int) ((i : Int) + 1) ⟨lo, hi⟩ more, t ∈ (netM (moreW k (loneW x.id more lo hi)) []).links := by
      intro t ht
      rw [links0, tiesM, e3]
      simp only [List.mem_append]
      exact .inr (.inr (.inl (.inr ht)))
    have f1 := f _ (hm ⟨i, (i : Int) + 1, hi, more⟩ (by simp [both]))
    have f2 := f _ (hm ⟨(i : Int) + 1, i, -lo, more⟩ (by simp [both]))
    simp only at f1 f2
    omega
  · rintro ⟨f, g1, g2⟩ t ht
    rw [links0, tiesM, e3] at ht
    have e1 : ties1 (moreW k (loneW x.id more lo hi)) = ties1 k := rfl
    have e2 : ties2 (moreW k (loneW x.id more lo hi)) = ties2 k := rfl
    have e4 : ties4 (moreW k (loneW x.id more lo hi)) = ties4 k := rfl
    have e5 : ties5 (moreW k (loneW x.id more lo hi)) = ties5 k := rfl
    rw [e1, e2, e4, e5] at ht
    have key : t ∈ tiesM k ∨ t ∈ both (i : Int) ((i : Int) + 1) ⟨lo, hi⟩ more := by
      simp only [tiesM, List.mem_append] at ht ⊢
      rcases ht with h | h | (h | h) | h | h
      · exact .inl (.inl h)
      · exact .inl (.inr (.inl h))
      · exact .inl (.inr (.inr (.inl h)))
      · exact .inr h
      · exact .inl (.inr (.inr (.inr (.inl h))))
      · exact .inl (.inr (.inr (.inr (.inr h))))
    rcases key with h | h
    · exact f t (by rw [links0]; exact h)
    · simp only [both, List.mem_cons, List.not_mem_nil, or_false] at h
      rcases h with rfl | rfl <;> simp only <;> omega
/-- What is told of a load's weight. -/
structure Told (k : Kn) (i : Nat) (s : Sp) : Prop where
  fin : fin? (netM k []) 0 = true
  lo : s.lo = -dst (netM k []) ((i : Int) + 1) i
  hi : s.hi = dst (netM k []) i ((i : Int) + 1)
  l0 : 0 ≤ s.lo
  lh : s.lo ≤ s.hi
  h1 : s.hi ≤ 1048576
theorem told_of {k : Kn} {i : Nat} {x : Ld} (hx : k.loads[i]? = some x) (h : (runM k x.id x.id).2 = 0) : check k = 0 ∧ Told k i (runM k x.id x.id).1 := by
  have hc : check k = 0 := by
    refine Classical.byContradiction fun hn => ?_
    unfold runM at h
    rw [if_pos hn] at h
    exact hn h
  have r := right_of_check hc
  have N := Net.base hc
  have hil := (List.getElem?_eq_some_iff.1 hx).1
  have hm : (marksM k : Int) = 1 + k.loads.length + k.draws.length := by simp [marksM]
  rw [run_load hc hx] at h ⊢
  have i0 : (0 : Int) ≤ i := by omega
  have i1 : (i : Int) < marksM k := by omega
  have j0 : (0 : Int) ≤ (i : Int) + 1 := by omega
  have j1 : (i : Int) + 1 < marksM k := by omega
  unfold betweenM at h ⊢
  rw [above_eq, above_eq] at h ⊢
  simp only at h ⊢
  split at h
  · rename_i hF
    rw [if_pos hF]
    have f := N.feas i0 i1 hF
    have g1 := load_in f hx
    have F2 : fin? (netM k []) ((i : Int) + 1) = true := by rw [N.same j0 j1 i0 i1]; exact hF
    have f2 := N.feas j0 j1 F2
    have g2 := load_in f2 hx
    have z1 := N.zero i0 i1 hF
    have z2 := N.zero j0 j1 F2
    have l1 := N.le i0 i1 j0 j1 f2
    have rx := r.l x (List.mem_of_getElem? hx)
    exact ⟨hc, by rw [N.same (a := 0) (by omega) (by omega) i0 i1]; exact hF, rfl, rfl, by simp only; omega, by simp only; omega, by simp only; omega⟩
  · simp at h
theorem feas_min {x : Nt} {G H : Int → Int} (f : Feas x G) (g : Feas x H) : Feas x (fun v => mnI (G v) (H v)) := by
  intro t ht
  have h1 := f t ht
  have h2 := g t ht
  show mnI (G t.to) (H t.to) ≤ mnI (G t.frm) (H t.frm) + t.most
  unfold mnI
  split <;> split <;> omega
theorem feas_add {x : Nt} {G : Int → Int} (f : Feas x G) (c : Int) : Feas x (fun v => G v + c) := by
  intro t ht
  have h1 := f t ht
  show G t.to + c ≤ G t.frm + c + t.most
  omega
/-- There are weights by which the load weighs just so much. -/
theorem mid_feas {k : Kn} (hc : check k = 0) {i : Nat} {x : Ld} (hx : k.loads[i]? = some x) {s : Sp} (T : Told k i s) {n : Int} (n0 : s.lo ≤ n) (n1 : n ≤ s.hi) : ∃ H, Feas (netM k []) H ∧ H ((i : Int) + 1) - H i = n := by
  have N := Net.base hc
  have hil := (List.getElem?_eq_some_iff.1 hx).1
  have hm : (marksM k : Int) = 1 + k.loads.length + k.draws.length := by simp [marksM]
  have i0 : (0 : Int) ≤ i := by omega
  have i1 : (i : Int) < marksM k := by omega
  have j0 : (0 : Int) ≤ (i : Int) + 1 := by omega
  have j1 : (i : Int) + 1 < marksM k := by omega
  have F1 : fin? (netM k []) i = true := by rw [N.same i0 i1 (b := 0) (by omega) (by omega)]; exact T.fin
  have F2 : fin? (netM k []) ((i : Int) + 1) = true := by rw [N.same j0 j1 (b := 0) (by omega) (by omega)]; exact T.fin
  have z1 := N.zero i0 i1 F1
  have z2 := N.zero j0 j1 F2
  have lo := T.lo
  have hi := T.hi
  refine ⟨_, feas_min (N.feas i0 i1 F1) (feas_add (N.feas j0 j1 F2) n), ?_⟩
  show mnI (dst (netM k []) i ((i : Int) + 1)) (dst (netM k []) ((i : Int) + 1) ((i : Int) + 1) + n) - mnI (dst (netM k []) i i) (dst (netM k []) ((i : Int) + 1) i + n) = n
  rw [z1, z2]
  unfold mnI
  split <;> split <;> omega
theorem lone_mid {k : Kn} (hc : check k = 0) (hl : k.weighs.length < 20) {i : Nat} {x : Ld} (hx : k.loads[i]? = some x) {s : Sp} (T : Told k i s) {n : Int} (n0 : s.lo ≤ n) (n1 : n ≤ s.hi) {more : Int} (m0 : 1 ≤ more) (m1 : more ≤ 1099511627776) (hid : more ∉ idsK k) :
    (findM (moreW k (loneW x.id more n n))).2 = 0 ∧ (findM (moreW k (loneW x.id more n n))).1.loads[i]? = some n ∧ (findM (moreW k (loneW x.id more n n))).1.loads.length = k.loads.length := by
  have o := order_of_check hc
  have l0 := T.l0; have h1 := T.h1
  have hil := (List.getElem?_eq_some_iff.1 hx).1
  have hc2 := check_more hc (lone_right (lo := n) (hi := n) o hx m0 m1 (by omega) (by omega) (by omega)) hid hl
  have N2 := Net.base hc2
  have hm : (marksM k : Int) = 1 + k.loads.length + k.draws.length := by simp [marksM]
  have hm2 : marksM (moreW k (loneW x.id more n n)) = marksM k := rfl
  obtain ⟨H, f, g⟩ := mid_feas hc hx T n0 n1
  have f2 := (lone_feas (more := more) (lo := n) (hi := n) o hx).2 ⟨f, by omega, by omega⟩
  have F2 := N2.fin_of (a := 0) (by omega) (by rw [hm2]; omega) f2
  have f3 := N2.feas (a := 0) (by omega) (by rw [hm2]; omega) F2
  have f4 := (lone_feas (more := more) (lo := n) (hi := n) o hx).1 f3
  have e : findM (moreW k (loneW x.id more n n)) = (weightsM (moreW k (loneW x.id more n n)) (settleM (netM (moreW k (loneW x.id more n n)) []) 0).1, 0) := by
    unfold findM
    rw [if_neg (by simp [hc2]), if_pos]
    exact F2
  rw [e]
  refine ⟨rfl, ?_, ?_⟩
  · have hw := weights_load (k := moreW k (loneW x.id more n n)) (settleM (netM (moreW k (loneW x.id more n n)) []) 0).1 (i := i) hil
    rw [hw]
    have e5 : gt (settleM (netM (moreW k (loneW x.id more n n)) []) 0).1 ((i : Int) + 1) - gt (settleM (netM (moreW k (loneW x.id more n n)) []) 0).1 i = n := by
      have := f4.2
      simp only [dst] at this
      omega
    rw [e5]
  · show ((List.range k.loads.length).map _).length = k.loads.length
    simp
theorem lone_out {k : Kn} (hc : check k = 0) (hl : k.weighs.length < 20) {i : Nat} {x : Ld} (hx : k.loads[i]? = some x) {s : Sp} (T : Told k i s) {lo hi : Int} (l0 : 0 ≤ lo) (lh : lo ≤ hi) (h1 : hi ≤ 16777216) (hout : s.hi < lo ∨ hi < s.lo) {more : Int} (m0 : 1 ≤ more) (m1 : more ≤ 1099511627776) (hid : more ∉ idsK k) :
    findM (moreW k (loneW x.id more lo hi)) = (zTr, 9) := by
  have o := order_of_check hc
  have N := Net.base hc
  have hil := (List.getElem?_eq_some_iff.1 hx).1
  have hc2 := check_more hc (lone_right (lo := lo) (hi := hi) o hx m0 m1 l0 lh h1) hid hl
  have N2 := Net.base hc2
  have hm : (marksM k : Int) = 1 + k.loads.length + k.draws.length := by simp [marksM]
  have hm2 : marksM (moreW k (loneW x.id more lo hi)) = marksM k := rfl
  have F2 : ¬ fin? (netM (moreW k (loneW x.id more lo hi)) []) 0 = true := by
    intro F2
    obtain ⟨f, g1, g2⟩ := (lone_feas (more := more) (lo := lo) (hi := hi) o hx).1 (N2.feas (a := 0) (by omega) (by rw [hm2]; omega) F2)
    have b1 := N.le (a := i) (v := (i : Int) + 1) (by omega) (by omega) (by omega) (by omega) f
    have b2 := N.le (a := (i : Int) + 1) (v := i) (by omega) (by omega) (by omega) (by omega) f
    have t1 := T.lo; have t2 := T.hi
    omega
  unfold findM
  rw [if_neg (by simp [hc2]), if_neg]
  exact F2
/-- How many IDs are not less. -/
def leftI (l : List Int) (m : Int) : Nat := (l.filter fun x => decide (m ≤ x)).length
theorem left_step {l : List Int} {m : Int} (h : m ∈ l) : leftI l (m + 1) < leftI l m := by
  unfold leftI
  induction l with
  | nil => simp at h
  | cons x l ih =>
    rcases List.mem_cons.1 h with rfl | h
    · rw [List.filter_cons_of_neg (by simp; omega), List.filter_cons_of_pos (by simp)]
      have : (l.filter fun x => decide (m + 1 ≤ x)).length ≤ (l.filter fun x => decide (m ≤ x)).length := by
        clear ih h
        induction l with
        | nil => simp
        | cons y l ih2 =>
          by_cases h1 : m + 1 ≤ y
          · rw [List.filter_cons_of_pos (by simpa using h1), List.filter_cons_of_pos (by simp; omega)]
            simp only [List.length_cons]; omega
          · by_cases h2 : m ≤ y
            · rw [List.filter_cons_of_neg (by simpa using h1), List.filter_cons_of_pos (by simpa using h2)]
              simp only [List.length_cons]; omega
            · rw [List.filter_cons_of_neg (by simpa using h1), List.filter_cons_of_neg (by simpa using h2)]
              exact ih2
      simp only [List.length_cons]
      omega
    · have := ih h
      by_cases h1 : m + 1 ≤ x
      · rw [List.filter_cons_of_pos (by simpa using h1), List.filter_cons_of_pos (by simp; omega)]
        simp only [List.length_cons]; omega
      · by_cases h2 : m ≤ x
        · rw [List.filter_cons_of_neg (by simpa using h1), List.filter_cons_of_pos (by simpa using h2)]
          simp only [List.length_cons]; omega
        · rw [List.filter_cons_of_neg (by simpa using h1), List.filter_cons_of_neg (by simpa using h2)]
          exact this
theorem left_le (l : List Int) (m : Int) : leftI l m ≤ l.length := List.length_filter_le _ _
end Go.Shaft
/- A copy of a slice: what is appended to an empty literal; such copies frozen where they lie. -/
set_option linter.unusedVariables false
set_option linter.unusedSimpArgs false
namespace Go.Abs
open Go.RowKit

/-- A row that is a copy: without room if it is empty. -/
def rowX (sz : Nat) (ys : List AV) : AO := if ys = [] then .xrow sz [] else .row sz ys
@[simp] theorem rowX_ver (sz : Nat) (ys : List AV) : (rowX sz ys).ver = ys.length := by
  unfold rowX
  split
  · rename_i h; subst h; rfl
  · rfl
end Go.Abs
/- Copies in a variable's fields, frozen where they lie. -/
set_option linter.unusedVariables false
set_option linter.unusedSimpArgs false
namespace Go.Abs
open Go.RowKit

end Go.Abs
/- What is lent to another function: a row that was handed over and may be written behind the call. -/
set_option linter.unusedVariables false
set_option linter.unusedSimpArgs false
namespace Go.Abs
open Go.RowKit

mutual
/-- A value that refers to nothing but objects of one's own from 'n' on. -/
def AV.lnt (n : Nat) : AV → Bool
  | .any | .bool _ | .int _ _ | .str _ | .nilS | .nilP | .nilF | .nilM | .nilI => true
  | .agg vs => AV.lnts n vs
  | .arr _ vs => AV.lnts n vs
  | .tup vs => AV.lnts n vs
  | .lit _ vs => vs.isEmpty
  | .own false j _ => decide (n ≤ j)
  | _ => false
def AV.lnts (n : Nat) : List AV → Bool
  | [] => true
  | v :: vs => v.lnt n && AV.lnts n vs
end
mutual
theorem lnt_CR {c d : Cx} {n : Nat} (hl : ∀ j ver q, n ≤ j → c.lam false j ver = some q → d.lam false j ver = some q) : ∀ (v : AV) (cs : List Value), v.lnt n = true → CR c v cs → CR d v cs
  | .any, cs, _, h => by rw [CR] at h ⊢; exact h
  | .bool _, cs, _, h => by rw [CR] at h ⊢; exact h
  | .int _ _, cs, _, h => by rw [CR] at h ⊢; exact h
  | .str _, cs, _, h => by rw [CR] at h ⊢; exact h
  | .nilS, cs, _, h => by rw [CR] at h ⊢; exact h
  | .nilP, cs, _, h => by rw [CR] at h ⊢; exact h
  | .nilF, cs, _, h => by rw [CR] at h ⊢; exact h
  | .nilM, cs, _, h => by rw [CR] at h ⊢; exact h
  | .nilI, cs, _, h => by rw [CR] at h ⊢; exact h
  | .agg vs, cs, o, h => by
    rw [CR] at h ⊢
    rw [AV.lnt] at o
    obtain ⟨css, h, e⟩ := h
    exact ⟨css, lnts_CR hl vs css o h, e⟩
  | .arr sz vs, cs, o, h => by
    rw [CR] at h ⊢
    rw [AV.lnt] at o
    obtain ⟨h0, css, h, e⟩ := h
    exact ⟨h0, css, lnts_CR hl vs css o h, e⟩
  | .tup _, cs, _, h => by rw [CR] at h; exact h.elim
  | .lit sz vs, cs, o, h => by
    rw [AV.lnt, List.isEmpty_iff] at o
    subst o
    rw [CR] at h ⊢
    obtain ⟨h0, a, cap, css, h1, e, h2, h3, _⟩ := h
    rw [CRs] at h1
    subst h1
    exact ⟨h0, a, cap, [], by rw [CRs], e, h2, h3, fun hn => (hn rfl).elim⟩
  | .own false j ver, cs, o, h => by
    rw [CR] at h ⊢
    rw [AV.lnt, decide_eq_true_eq] at o
    obtain ⟨a, cap, h, e⟩ := h
    exact ⟨a, cap, hl _ _ _ o h, e⟩
  | .own true _ _, cs, o, _ => by simp [AV.lnt] at o
  | .pin _, cs, o, _ => by simp [AV.lnt] at o
  | .ref _ _ _ _ _, cs, o, _ => by simp [AV.lnt] at o
  | .func _ _ _, cs, o, _ => by simp [AV.lnt] at o
  | .mapr _ _, cs, o, _ => by simp [AV.lnt] at o
  | .iface _ _, cs, o, _ => by simp [AV.lnt] at o
  | .yld _ _, cs, o, _ => by simp [AV.lnt] at o
  | .win _ _ _ _ _, cs, o, _ => by simp [AV.lnt] at o
theorem lnts_CR {c d : Cx} {n : Nat} (hl : ∀ j ver q, n ≤ j → c.lam false j ver = some q → d.lam false j ver = some q) : ∀ (vs : List AV) (css : List (List Value)), AV.lnts n vs = true → CRs c vs css → CRs d vs css
  | [], css, _, h => by rw [CRs] at h ⊢; exact h
  | v :: vs, css, o, h => by
    rw [CRs] at h ⊢
    rw [AV.lnts, Bool.and_eq_true] at o
    obtain ⟨x, xs, e, h1, h2⟩ := h
    exact ⟨x, xs, e, lnt_CR hl v x o.1 h1, lnts_CR hl vs xs o.2 h2⟩
end
theorem lnt_VR1 {c d : Cx} {n : Nat} (hl : ∀ j ver q, n ≤ j → c.lam false j ver = some q → d.lam false j ver = some q) {v : AV} {m : Value} (o : v.lnt n = true) (h : VR1 c v m) : VR1 d v m := by
  obtain ⟨cs, h, e⟩ := h
  exact ⟨cs, lnt_CR hl v cs o h, e⟩
theorem lnts_get {n : Nat} : ∀ {vs : List AV}, AV.lnts n vs = true → ∀ {i : Nat} {v : AV}, vs[i]? = some v → v.lnt n = true
  | [], _, i, v, h => by simp at h
  | u :: us, o, 0, v, h => by
    rw [AV.lnts, Bool.and_eq_true] at o
    simp at h
    subst h
    exact o.1
  | u :: us, o, i + 1, v, h => by
    rw [AV.lnts, Bool.and_eq_true] at o
    exact lnts_get o.2 (by simpa using h)
theorem lnt_VR {c d : Cx} {n : Nat} (hl : ∀ j ver q, n ≤ j → c.lam false j ver = some q → d.lam false j ver = some q) : ∀ {v : AV} {m : Value}, v.lnt n = true → VR c v m → VR d v m := by
  intro v m o h
  cases v with
  | any => trivial
  | tup vs =>
    obtain ⟨ms, e, h1, h2⟩ := h
    rw [AV.lnt] at o
    refine ⟨ms, e, h1, fun i u x hu hx => (h2 i u x hu hx).imp id (lnt_VR1 hl (lnts_get o hu))⟩
  | _ => exact (VR_solid rfl).2 (lnt_VR1 hl o ((VR_solid rfl).1 h))
/-- An object of such values. -/
def AO.lnt (n : Nat) : AO → Bool
  | .dead => true
  | .cell v => v.lnt n
  | .row _ vs => AV.lnts n vs
  | _ => false
theorem lnt_obj {c d : Cx} {n : Nat} (hw : d.w = c.w) (hl : ∀ j ver q, n ≤ j → c.lam false j ver = some q → d.lam false j ver = some q) {o : AO} {pl : Option Addr × Nat} (ho : o.lnt n = true) (h : ObjAt c pl o) : ObjAt d pl o := by
  cases o with
  | dead => trivial
  | cell v =>
    obtain ⟨m, t, cs, e, h1, h2⟩ := h
    exact ⟨m, t, cs, e, lnt_CR hl v cs ho h1, by rw [hw]; exact h2⟩
  | row sz vs =>
    obtain ⟨h0, hz, h⟩ := h
    refine ⟨h0, hz, h.imp id ?_⟩
    rintro ⟨m, cap, cur, t, css, e, h1, h2, h3, h4, h5, h6⟩
    exact ⟨m, cap, cur, t, css, e, by rw [hw]; exact h1, h2, h3, h4, lnts_CR hl vs css ho h5, h6⟩
  | _ => simp [AO.lnt] at ho

/-- Back from a call to which nothing was handed for good: the caller's own objects as they were, beside what the callee made. -/
theorem backL {c d : Cx} {s : AS} {R : List AO} (hM : MemR c s.mem) (hH : s.H = []) {Fz1 : Nat → Prop} {lam1 : Lam}
    (hM' : MemR d (mem (List.replicate s.loc.length .dead ++ R) [])) (hE : Ev ⟨c.w, Fz1, lam1⟩ [] d (mem (List.replicate s.loc.length .dead ++ R) [])) (hR : ∀ o ∈ R, o.lnt s.loc.length = true) :
    let d' : Cx := ⟨d.w, c.Fz, fun sh j ver => if sh = false ∧ s.loc.length ≤ j then d.lam false j ver else c.lam sh j ver⟩
    MemR d' (mem (s.loc ++ R) []) ∧ Step c s.mem d' (mem (s.loc ++ R) []) ∧ ∀ j ver q, s.loc.length ≤ j → d.lam false j ver = some q → d'.lam false j ver = some q := by
  intro d'
  have hno : ∀ j m, ¬ Owns lam1 (mem [] []) true j m := by
    rintro j m ⟨o, a, cap, h1, _⟩
    simp at h1
  have hnoC : ∀ j m, ¬ Owns c.lam s.mem true j m := by
    rintro j m ⟨o, a, cap, h1, _⟩
    simp [AS.mem, hH] at h1
  have hct : ∀ j ver, c.lam true j ver = none := by
    intro j ver
    cases h : c.lam true j ver with
    | none => rfl
    | some q =>
      obtain ⟨o, ho, _⟩ := hM.dom true j ver q h
      simp [AS.mem, hH] at ho
  have hsame : ∀ m, m < c.w.heap.size → d.w.heap[m]? = c.w.heap[m]? := fun m h => hE.same m h (fun j => hno j m)
  have hnew : ∀ j ver q, s.loc.length ≤ j → d.lam false j ver = some q → d'.lam false j ver = some q := by
    intro j ver q h hq
    simp [d', h, hq]
  have hlamN : ∀ j ver, s.loc.length ≤ j → d'.lam false j ver = d.lam false j ver := by
    intro j ver h
    simp [d', h]
  have hlamO : ∀ j ver, j < s.loc.length → d'.lam false j ver = c.lam false j ver := by
    intro j ver h
    have : ¬ s.loc.length ≤ j := by omega
    simp [d', this]
  have hlamT : ∀ j ver, d'.lam true j ver = c.lam true j ver := by
    intro j ver
    simp [d']
  have hle : c.le d' := by
    refine ⟨fun _ h => h, fun m h => hsame m (hM.fzl m h), ?_⟩
    intro sh j ver q hq
    cases sh with
    | true => rw [hct] at hq; cases hq
    | false =>
      obtain ⟨o, ho, _⟩ := hM.dom _ _ _ _ hq
      have hlt : j < s.loc.length := by
        have := (List.getElem?_eq_some_iff.1 ho).1
        simpa [AS.mem] using this
      rw [hlamO j ver hlt]
      exact hq
  have hmem : ∀ sh j o, (mem (s.loc ++ R) [] sh)[j]? = some o → sh = false ∧ ((j < s.loc.length ∧ (s.mem false)[j]? = some o) ∨ (s.loc.length ≤ j ∧ o ∈ R ∧ (mem (List.replicate s.loc.length .dead ++ R) [] false)[j]? = some o)) := by
    intro sh j o ho
    cases sh with
    | true => simp at ho
    | false =>
      refine ⟨rfl, ?_⟩
      simp only [mem_false] at ho
      rcases Nat.lt_or_ge j s.loc.length with hl | hl
      · rw [List.getElem?_append_left hl] at ho
        exact .inl ⟨hl, by simpa [AS.mem] using ho⟩
      · rw [List.getElem?_append_right hl] at ho
        refine .inr ⟨hl, List.mem_of_getElem? ho, ?_⟩
        simp only [mem_false]
        rw [List.getElem?_append_right (by simpa using hl)]
        simpa using ho
  have hown : ∀ sh j m, Owns d'.lam (mem (s.loc ++ R) []) sh j m → sh = false ∧ ((j < s.loc.length ∧ Owns c.lam s.mem false j m) ∨ (s.loc.length ≤ j ∧ Owns d.lam (mem (List.replicate s.loc.length .dead ++ R) []) false j m)) := by
    rintro sh j m ⟨o, a, cap, h1, h2, h3, rfl⟩
    obtain ⟨rfl, ⟨hl, h4⟩ | ⟨hl, _, h4⟩⟩ := hmem sh j o h1
    · rw [hlamO _ _ hl] at h3
      exact ⟨rfl, .inl ⟨hl, o, a, cap, h4, h2, h3, rfl⟩⟩
    · rw [hlamN _ _ hl] at h3
      exact ⟨rfl, .inr ⟨hl, o, a, cap, h4, h2, h3, rfl⟩⟩
  have hdown : ∀ j m, Owns d.lam (mem (List.replicate s.loc.length .dead ++ R) []) false j m → c.w.heap.size ≤ m := by
    intro j m h
    rcases hE.own false j m h with h | ⟨j', h⟩
    · exact h
    · exact (hno j' m h).elim
  refine ⟨⟨?_, ?_, ?_, ?_, fun m h => Nat.lt_of_lt_of_le (hM.fzl m h) hE.size⟩, ⟨⟨hE.size, hE.os, hE.tape, hE.output, fun m h1 _ => hsame m h1⟩, fun _ h => h, fun m h => .inl h, hle.lam, ?_, ?_, ?_, ?_⟩, hnew⟩
  · intro sh j o pl h1 h2
    obtain ⟨rfl, ⟨hl, h4⟩ | ⟨hl, hr, h4⟩⟩ := hmem sh j o h1
    · rw [hlamO _ _ hl] at h2
      refine ObjAt_keep (hM.obj false j o pl h4 h2) hle ?_
      intro ho a ha
      obtain ⟨pa, pc⟩ := pl
      simp only at ha
      subst ha
      have hoo : Owns c.lam s.mem false j a.block := ⟨o, a, pc, h4, ho, h2, rfl⟩
      exact hsame _ (hoo.lt hM)
    · rw [hlamN _ _ hl] at h2
      exact lnt_obj (c := d) (d := d') rfl hnew (hR o hr) (hM'.obj false j o pl h4 h2)
  · intro sh j ver pl h
    cases sh with
    | true => rw [hlamT, hct] at h; cases h
    | false =>
      rcases Nat.lt_or_ge j s.loc.length with hl | hl
      · rw [hlamO _ _ hl] at h
        obtain ⟨o, ho, hv⟩ := hM.dom false j ver pl h
        refine ⟨o, ?_, hv⟩
        simp only [mem_false]
        rw [List.getElem?_append_left hl]
        simpa [AS.mem] using ho
      · rw [hlamN _ _ hl] at h
        obtain ⟨o, ho, hv⟩ := hM'.dom false j ver pl h
        refine ⟨o, ?_, hv⟩
        simp only [mem_false] at ho ⊢
        rw [List.getElem?_append_right (by simpa using hl)] at ho
        rw [List.getElem?_append_right hl]
        simpa using ho
  · intro sh j sh' j' m h h'
    obtain ⟨rfl, ⟨e, h⟩ | ⟨e, h⟩⟩ := hown sh j m h <;> obtain ⟨rfl, ⟨e', h'⟩ | ⟨e', h'⟩⟩ := hown sh' j' m h'
    · exact hM.sep _ _ _ _ m h h'
    · have := h.lt hM; have := hdown _ _ h'; omega
    · have := h'.lt hM; have := hdown _ _ h; omega
    · exact hM'.sep _ _ _ _ m h h'
  · intro sh j m h hf
    obtain ⟨rfl, ⟨e, h⟩ | ⟨e, h⟩⟩ := hown sh j m h
    · exact hM.unf _ _ m h hf
    · have := hM.fzl m hf; have := hdown _ _ h; omega
  · intro sh j m h
    obtain ⟨rfl, ⟨e, h⟩ | ⟨e, h⟩⟩ := hown sh j m h
    · exact .inr ⟨false, j, h⟩
    · exact .inl (hdown _ _ h)
  · simp [AS.mem, hH]
  · simp [AS.mem]
  · intro j hj hn ver
    rw [hlamO _ _ (by simpa [AS.mem] using hj)]
    exact hn ver

/-- A call to which rows of one's own are lent. -/
theorem opw_lend {x : X} {o : Oper} {s : AS} {K : AV → AS → Prop} {call : Call} {f : Operand} {fid : FuncId} (h : o.op = .call call) (hc : call.callee = .value f) (hf : s.ev f = .func (.func fid) [] [])
    (hsol : ∀ v ∈ call.args.toList.map s.ev, v.solid = true) (hok : ∀ v ∈ (s.expos (call.args.toList.map s.ev)).1, v.ok shd = true) (hH : s.H = []) (hH1 : (s.expos (call.args.toList.map s.ev)).2.H = []) (hl1 : (s.expos (call.args.toList.map s.ev)).2.loc.length = s.loc.length)
    (hcall : ACall x fid (s.expos (call.args.toList.map s.ev)).1 s.loc.length [] (fun r R H' => H' = [] ∧ r.lnt s.loc.length = true ∧ (∀ o ∈ R, o.lnt s.loc.length = true) ∧ K r { s with loc := s.loc ++ R, H := [] })) : OpW x o s K := by
  intro c a Q hM ho
  generalize hL : call.args.toList.map s.ev = L at *
  have hfv := ho f (by obtain ⟨ce, ar, at'⟩ := call; simp only at hc; subst hc; simp [h, Op.operands, Call.operands])
  rw [hf] at hfv
  obtain ⟨fcs, hfc, hfe⟩ := hfv
  rw [CR] at hfc
  obtain ⟨fs, gs, k1, k2, rfl⟩ := hfc
  rw [CRs] at k1 k2
  subst k1 k2
  have hfe' : a.eval f = .func (.func fid) #[] #[] := by rw [hfe]; rfl
  have hargs : ∃ css, CRs c L css ∧ call.args.toList.map a.eval = (L.zip css).map (fun p => vOf p.1 p.2) := by
    refine CRs_of_VR1 (by rw [← hL]; simp) ?_
    intro i v m hv hm
    have hvs : v.solid = true := hsol v (List.mem_of_getElem? hv)
    rw [← hL] at hv
    rw [List.getElem?_map] at hv hm
    cases hy : call.args.toList[i]? with
    | none => rw [hy] at hv; cases hv
    | some y =>
      rw [hy] at hv hm
      simp at hv hm
      subst hv; subst hm
      exact (VR_solid hvs).1 (ho y (by
        have hy' := List.mem_of_getElem? hy
        obtain ⟨ce, ar, at'⟩ := call; simp only at hc hy'; subst hc; simp [h, Op.operands, Call.operands]; right; simpa using hy'))
  obtain ⟨css, hcs, hms⟩ := hargs
  obtain ⟨d, hdw, hMd, hSt, hled, g1, g2, g3⟩ := expos_becomes s L c hM
  generalize hr : s.expos L = r at *
  obtain ⟨vs, s1⟩ := r
  simp only at *
  have hcs' := g3 css hcs
  have hms' : (L.zip css).map (fun p => vOf p.1 p.2) = (vs.zip css).map (fun p => vOf p.1 p.2) := zip_vOf g1
  have hc0 : MemR (shOnly d) (mem [] ([] : List AO)) := by
    have := toShared hMd (fun ob hob => by simp [AS.mem, hH1] at hob)
    simpa [AS.mem, hH1] using this
  obtain ⟨hent, hcl⟩ := hcall
  have hrun := hcl (shOnly d) ((vs.zip css).map fun p => vOf p.1 p.2) hc0 (by simp [CRs_length hcs']) (by
    intro i v m hv hm
    exact shOnly_VR (hok v (List.mem_of_getElem? hv)) (by
      obtain ⟨cs, q1, q2⟩ := VR1_of_CRs hcs' rfl i v m hv hm
      rw [q2]
      exact VR_of_CR q1))
  unfold Oper.wpX
  have hexec : (execOp a.eval o).run x.P c.w = .ok (.enter fid (((vs.zip css).map fun p => vOf p.1 p.2).toArray)) c.w := by
    have h9 := hent (((vs.zip css).map fun p => vOf p.1 p.2).toArray) c.w
    rw [← hms', ← hms] at h9 ⊢
    obtain ⟨callee, args, ats⟩ := call
    simp only at hc
    subst hc
    simp only [execOp, h, resolve, hfe', Deferred.ofValue, Sem.run_bind, Sem.run_pure, Result.andThen_ok, invoke]
    have e2 : (#[] ++ args.map a.eval ++ #[]) = (args.toList.map a.eval).toArray := by
      cases args; simp
    rw [e2]
    exact h9
  rw [hexec]
  rw [Oper.uponIn_enter]
  refine ⟨fun hh => by simp [fen, Fence.wide] at hh, calls_fen _ _ ?_⟩
  have hw : (shOnly d).w = c.w := hdw
  rw [hw] at hrun
  refine hrun.mono ?_
  rintro e w' ⟨m, r, R, H', d2, rfl, rfl, ⟨rfl, q0, q1, qK⟩, q2, q3, q4, q5, q6⟩
  have q4' : Ev ⟨c.w, (shOnly d).Fz, (shOnly d).lam⟩ [] d2 (mem (List.replicate s.loc.length .dead ++ R) []) := by
    have e : shOnly d = ⟨c.w, (shOnly d).Fz, (shOnly d).lam⟩ := by rw [← hw]
    rw [← e]
    exact q4
  obtain ⟨b1, b2, b3⟩ := backL (s := s) hM hH q3 q4' q1
  exact ⟨r, { s with loc := s.loc ++ R, H := [] }, ⟨d2.w, c.Fz, fun sh j ver => if sh = false ∧ s.loc.length ≤ j then d2.lam false j ver else c.lam sh j ver⟩, m, rfl, rfl, qK, lnt_VR b3 q0 q2, b1, b2, rfl⟩
theorem opw_appendA {x : X} {o : Oper} {s : AS} {y q : Operand} {t t2 e e2 : TypeId} {esz esz2 : Nat} {i i2 ie : TI} {j ver : Nat} {vs ys : List AV} {K : AV → AS → Prop} (h : o.op = .call { callee := .builtin .append, args := #[y, q], argTypes := #[t, t2] }) (hi : x.ti t = some i) (hk : i.k = .slice esz e) (hi2 : x.ti t2 = some i2) (hk2 : i2.k = .slice esz2 e2) (he : x.ti e = some ie)
    (hz : ie.zero.size = esz) (hb : 0 < ie.bytes) (hy : s.ev y = .own false j ver) (hrow : s.loc[j]? = some (.xrow esz vs)) (hver : vs.length = ver) (hys : ys ≠ []) (hq : s.elems esz (s.ev q) = some ys) (hfit : (vs.length + ys.length) * ie.bytes ≤ 140737488355328)
    (hK : K (.own false s.loc.length (vs.length + ys.length)) (s.push (.row esz (vs ++ ys)))) : OpW x o s K :=
  OpW.of_sim (sima_appendX h hi hk hi2 hk2 he hz hb hy hrow hver hys hq hfit).sim rfl hK
theorem opw_append0 {x : X} {o : Oper} {s : AS} {y q : Operand} {t t2 e e2 : TypeId} {esz esz2 sz : Nat} {i i2 ie : TI} {sh : Bool} {j ver : Nat} {K : AV → AS → Prop} (h : o.op = .call { callee := .builtin .append, args := #[y, q], argTypes := #[t, t2] }) (hi : x.ti t = some i) (hk : i.k = .slice esz e) (hi2 : x.ti t2 = some i2) (hk2 : i2.k = .slice esz2 e2) (he : x.ti e = some ie)
    (hy : s.ev y = .own sh j ver) (hq : s.ev q = .lit sz []) (hK : K (.own sh j ver) s) : OpW x o s K :=
  OpW.of_pure (pure_append0 h hi hk hi2 hk2 he hy hq) hK
end Go.Abs
/- Law: each weight between its ends. -/
set_option linter.unusedVariables false
set_option linter.unusedSimpArgs false
set_option maxRecDepth 100000
set_option maxHeartbeats 2000000
namespace Go.Abs
open Go.RowKit Go.Proofs Go.Shaft
attribute [simp] ti22 ti23 ti24 ti26 ti30 ti42 ti45 ti52 ti122 ti125 ti88 ti92 ti46
attribute [simp] ti134 ti131 ti48 ti60 ti35 ti45 ti178 ti99 ti85 ti143 ti189 ti190 ti192 ti204 ti208 ti218 ti9 ti5 ti27 ti28 ti141 ti30 ti45
def eTrR (n : Nat) (t : Tr) : AV := .agg [.own false n t.loads.length, .own false (n + 1) t.draws.length]
def rTr (t : Tr) : List AO := [.row 1 (t.loads.map I), .row 1 (t.draws.map I)]

theorem c91r (k : Kn) (hk : Few k) (h : List Int) (hl : h.length = 41) (hm : marksM k ≤ 41) (hb : ∀ v : Int, 0 ≤ v → v < marksM k → -1125899906842624 ≤ gt h v ∧ gt h v ≤ 1125899906842624) : ConR E 91 [eKn k, hA h] (fun n => eTrR n (weightsM k h)) (rTr (weightsM k h)) := by
 intro n H hH
 have h00 := hh3 hH
 have ⟨hHs, hH', hpl⟩ := h00
 have hL := hk.l; have hD := hk.d
 have hmk : (marksM k : Int) = 1 + k.loads.length + k.draws.length := by simp [marksM]
 refine at_start (fn := Tryz.f91) [.cell 4 48] 53 H.length rfl rfl rfl rfl (by kernel_rfl) (by kernel_rfl) (by simp) (Nat.le_refl _) ?_
 refine sq ?_
 refine at_regK [2, 3, 4] rfl ?_
 try simp [h00, o_i, f_a]
 refine sq ?_
 refine at_regK [2, 3, 4, 5] rfl ?_
 try simp [h00, o_i, f_a]
 refine at_leads (leads_nilC 3 1 [0] rfl rfl rfl (by decide)) ?_
 simp
 refine at_leads (leads_nilC 3 1 [1] rfl rfl rfl (by decide)) ?_
 simp
 refine sq ?_
 refine sq ?_
 refine at_regK [2, 3, 4, 5, 10, 11] rfl ?_
 try simp [h00, o_i, f_a]
 refine at_block rfl ?_
 refine at_count k.loads.length (fun i s => s = ⟨[(2, .ref false 0 0 [] 0), (3, .ref false 1 0 [] 0), (4, .ref false 2 0 [] 0), (5, .ref false 3 0 [] 0), (10, I k.loads.length), (11, I i)], [.cell (eKn k), .cell (hA h), .cell (.agg [.nilS, .nilS]), .cell (.agg [.own false 4 i, .own false 5 0]), .row 1 ((wL h i).map I), .row 1 ((wD k h 0).map I)], H⟩) rfl rfl ?_
 rintro i s hi rfl
 refine sq ?_
 refine at_regK [2, 3, 4, 5, 10, 11, 12] rfl ?_
 try simp [h00, o_i, f_a]
 refine sq ?_
 refine at_cond rfl rfl (fun hb12 => ?_) (fun hb12 => ?_)
 ·
  try simp at hb12
  have g0 := gt_some (h := h) (v := i) (by omega) (by omega)
  have g1 := gt_some (h := h) (v := (i : Int) + 1) (by omega) (by omega)
  have b0 := hb i (by omega) (by omega)
  have b1 := hb ((i : Int) + 1) (by omega) (by omega)
  have w1 : IntKind.i64.wrap ((i : Int) + 1) = (i : Int) + 1 := wrap_id (by omega) (by omega)
  have i41 : (i : Int) < 41 := by omega
  have j41 : (i : Int) + 1 < 41 := by omega
  have j0 : 0 ≤ (i : Int) + 1 := by omega
  simp only [Int.toNat_natCast] at g0
  rw [show ((i : Int) + 1).toNat = i + 1 by omega] at g1
  refine at_skip (by kernel_rfl) ?_
  try simp [h00, o_i, f_a]
  refine sq ?_
  refine at_block rfl ?_
  refine sq ?_
  refine at_regK [2, 3, 4, 5, 6, 10, 11] rfl ?_
  try simp [h00, o_i, f_a]
  refine at_draw [2, 3, 4, 5, 10, 11] [0, 1, 0, 0, 0, 1, 0, 0, 1, 0, 2, 3, 0, 3] [] rfl Efol (by kernel_rfl) (by simp) ?_
  try simp [h00, o_i, f_a, g0, g1, w1, i41, j41, j0]
  refine ⟨by omega, ?_⟩
  refine at_regC 6 [2, 3, 4, 5, 10, 11] rfl ?_
  try simp [h00, o_i, f_a]
  refine ⟨hb12, w1, ?_⟩
  rw [wL_succ, wrap_id (by omega) (by omega), List.map_append]
  rfl
 ·
  try simp at hb12
  refine at_exit rfl ?_
  try simp [h00, o_i, f_a]
  refine sq ?_
  refine sq ?_
  refine at_regK [2, 3, 4, 5, 30, 31] rfl ?_
  try simp [h00, o_i, f_a]
  refine at_block rfl ?_
  rw [show i = k.loads.length by omega]
  refine at_count k.draws.length (fun i s => s = ⟨[(2, .ref false 0 0 [] 0), (3, .ref false 1 0 [] 0), (4, .ref false 2 0 [] 0), (5, .ref false 3 0 [] 0), (30, I k.draws.length), (31, I i)], [.cell (eKn k), .cell (hA h), .cell (.agg [.nilS, .nilS]), .cell (.agg [.own false 4 k.loads.length, .own false 5 i]), .row 1 ((wL h k.loads.length).map I), .row 1 ((wD k h i).map I)], H⟩) rfl rfl ?_
  clear hi
  rintro i s hi rfl
  refine sq ?_
  refine at_regK [2, 3, 4, 5, 30, 31, 32] rfl ?_
  try simp [h00, o_i, f_a]
  refine sq ?_
  refine at_cond rfl rfl (fun hb32 => ?_) (fun hb32 => ?_)
  ·
   try simp at hb32
   have q0 := drawn_in (k := k) (a := (i : Int)) (by omega) (by omega)
   have q1 := drawn_in (k := k) (a := (i : Int) + 1) (by omega) (by omega)
   have g0 := gt_some (h := h) (v := drawnM k i) (by omega) (by omega)
   have g1 := gt_some (h := h) (v := drawnM k ((i : Int) + 1)) (by omega) (by omega)
   have b0 := hb (drawnM k i) (by omega) (by omega)
   have b1 := hb (drawnM k ((i : Int) + 1)) (by omega) (by omega)
   have w1 : IntKind.i64.wrap ((i : Int) + 1) = (i : Int) + 1 := wrap_id (by omega) (by omega)
   have i41 : drawnM k i < 41 := by omega
   have j41 : drawnM k ((i : Int) + 1) < 41 := by omega
   have i0 := q0.1
   have j0 := q1.1
   refine at_skip (by kernel_rfl) ?_
   try simp [h00, o_i, f_a]
   refine sq ?_
   refine at_block rfl ?_
   refine sq ?_
   refine at_regK [2, 3, 4, 5, 7, 30, 31] rfl ?_
   try simp [h00, o_i, f_a]
   refine at_draw [2, 3, 4, 5, 30, 31] [0, 1, 1, 0, 0, 1, 0, 1, 1, 0, 1, 0, 1, 0, 2, 3, 0, 3] [] rfl Efol (by kernel_rfl) (by simp) ?_
   try simp [h00, o_i, f_a, g0, g1, w1, i41, j41, i0, j0]
   refine (c80 k hk ((i : Int) + 1) (by omega) (by omega)).draw hH ?_
   try simp [h00, o_i, f_a, g0, g1, w1, i41, j41, i0, j0]
   refine (c80 k hk (i : Int) (by omega) (by omega)).draw hH ?_
   try simp [h00, o_i, f_a, g0, g1, w1, i41, j41, i0, j0]
   refine ⟨by omega, ?_⟩
   refine at_regC 6 [2, 3, 4, 5, 30, 31] rfl ?_
   try simp [h00, o_i, f_a]
   refine ⟨hb32, w1, ?_⟩
   rw [wD_succ, wrap_id (by omega) (by omega), List.map_append]
   rfl
  ·
   try simp at hb32
   refine at_exit rfl ?_
   try simp [h00, o_i, f_a]
   refine sq ?_
   refine at_regK [4] rfl ?_
   try simp [h00, o_i, f_a]
   refine at_ret (by kernel_rfl) ?_
   try simp [h00, o_i, f_a]
   rw [show i = k.draws.length by omega]
   simp [List.idxOf?, List.findIdx?, List.findIdx?.go, eTrR, rTr, weights_eq]

theorem c29r (k : Kn) (hk : Few k) (h0 : (findM k).2 = 0) : ConR E 29 [eKn k] (fun n => .tup [eTrR n (findM k).1, I 0]) (rTr (findM k).1) := by
 intro n H hH
 have h00 := hh3 hH
 have ⟨hHs, hH', hpl⟩ := h00
 refine at_start (fn := Tryz.f29) [.cell 2 48, .tmp 3] 27 H.length rfl rfl rfl rfl (by kernel_rfl) (by kernel_rfl) (by simp) (Nat.le_refl _) ?_
 refine sq ?_
 refine at_regK [1, 2] rfl ?_
 try simp [h00, o_i, f_a]
 refine sq ?_
 refine sq ?_
 refine at_regK [1, 2, 4] rfl ?_
 try simp [h00, o_i, f_a]
 refine (c48 _ hk).use hH ?_
 try simp [h00, o_i, f_a]
 refine sq ?_
 refine at_regK [1, 2, 4, 11] rfl ?_
 try simp [h00, o_i, f_a]
 refine at_cond rfl rfl (fun hb11 => ?_) (fun hb11 => ?_)
 ·
  try simp at hb11
  refine sq ?_
  refine at_regK [2, 3] rfl ?_
  try simp [h00, o_i, f_a]
  refine at_ret (by kernel_rfl) ?_
  try simp [h00, o_i, f_a]
  refine (hb11 ?_).elim
  unfold findM at h0
  rw [if_pos hb11] at h0
  exact h0
 ·
  try simp at hb11
  have f := fine_of_check hb11
  have rt := right_of_check hb11
  have nl := rt.nl; have nd := rt.nd
  obtain ⟨⟨h, q, o⟩, hr⟩ : ∃ r, settleM (netM k []) 0 = r := ⟨_, rfl⟩
  have hne : o ≠ some [] := fun e => settle_ne f.wf.n0 (a := 0) (l := []) (by rw [hr, e]) rfl
  have hlen : h.length = 41 := by have := settle_len f.wf (a := 0) (by omega) (by have := f.wf.n0; exact this); rwa [hr] at this
  have hbo : ∀ v : Int, 0 ≤ v → v < marksM k → -1125899906842624 ≤ gt h v ∧ gt h v ≤ 1125899906842624 := fun v v0 v1 => by have := settle_bound f.wf (a := 0) (by omega) (by have := f.wf.n0; exact this) v0 v1; rwa [hr] at this
  refine at_skip (by kernel_rfl) ?_
  try simp [h00, o_i, f_a, hlen, hne]
  refine sq ?_
  refine at_regK [1, 2, 5, 7] rfl ?_
  try simp [h00, o_i, f_a, hlen, hne]
  refine (c89n k f).use hH ?_
  try simp [h00, o_i, f_a, hlen, hne]
  refine (c90 (netM k []) f.wf 0 (by omega) (by have := f.wf.n0; exact this)).use hH ?_
  rw [hr]
  simp only [eSet]
  try simp [h00, o_i, f_a, hlen, hne]
  refine sq ?_
  refine sq ?_
  refine at_regK [1, 2, 5, 22] rfl ?_
  try simp [h00, o_i, f_a, hlen, hne]
  refine at_cond rfl rfl (fun hb22 => ?_) (fun hb22 => ?_)
  ·
   try simp at hb22
   refine sq ?_
   refine at_regK [2, 3] rfl ?_
   try simp [h00, o_i, f_a, hlen, hne]
   refine at_ret (by kernel_rfl) ?_
   try simp [h00, o_i, f_a, hlen, hne]
   have hs : o.isSome = true := by cases o <;> simp_all
   unfold findM at h0
   rw [if_neg (by simp [hb11]), hr, if_neg (by cases o <;> simp_all)] at h0
   simp at h0
  ·
   try simp at hb22
   refine at_skip (by kernel_rfl) ?_
   try simp [h00, o_i, f_a, hlen, hne]
   refine sq ?_
   refine at_regK [2, 3] rfl ?_
   try simp [h00, o_i, f_a, hlen, hne]
   refine (c91r k hk h hlen (by have := f.wf.n1; have e : (netM k []).n = (marksM k : Int) := rfl; omega) hbo).use hH ?_
   simp only [eTrR, rTr]
   try simp [h00, o_i, f_a, hlen, hne]
   refine at_ret (by kernel_rfl) ?_
   try simp [h00, o_i, f_a, hlen, hne]
   have hs : o = none := by cases o <;> simp_all
   have e : (findM k).1 = weightsM k h := by unfold findM; rw [if_neg (by simp [hb11]), hr, hs]; rfl
   rw [e]
   simp [List.idxOf?, List.findIdx?, List.findIdx?.go, eTrR, rTr, weights_eq]

theorem c28 (k : Kn) (hk : Few k) (z : Int) : Con E 28 [eKn k, I z] (.bool (decide (z ∈ idsK k))) := by
 intro n H hH
 have h00 := hh3 hH
 have ⟨hHs, hH', hpl⟩ := h00
 have hL := hk.l; have hD := hk.d; have hW := hk.w
 refine at_start (fn := Tryz.f28) [.tmp 4] 47 H.length rfl rfl rfl rfl (by kernel_rfl) (by kernel_rfl) (by simp) (Nat.le_refl _) ?_
 refine sq ?_
 refine at_regK [1, 2] rfl ?_
 try simp [h00, o_i, f_a]
 refine sq ?_
 refine sq ?_
 refine at_regK [1, 2, 12, 13, 14] rfl ?_
 try simp [h00, o_i, f_a]
 refine at_block rfl ?_
 refine at_count k.loads.length (fun i s => z ∉ (k.loads.take i).map (·.id) ∧ s = ⟨[(1, I z), (2, .ref false 0 0 [] 0), (12, eLds k.loads), (13, I k.loads.length), (14, I i)], [.cell (eKn k)], H⟩) rfl ⟨by simp, rfl⟩ ?_
 rintro i s hi ⟨hall, rfl⟩
 refine sq ?_
 refine at_regK [1, 2, 12, 13, 14, 15] rfl ?_
 try simp [h00, o_i, f_a]
 refine sq ?_
 refine at_cond rfl rfl (fun hb15 => ?_) (fun hb15 => ?_)
 ·
  try simp at hb15
  obtain ⟨x, hx⟩ : ∃ x, k.loads[i]? = some x := ⟨_, List.getElem?_eq_getElem (by omega)⟩
  have i0 : (i : Int) < k.loads.length := by omega
  have hxm := List.mem_of_getElem? hx
  have wi : IntKind.i64.wrap ((i : Int) + 1) = (i : Int) + 1 := wrap_id (by omega) (by omega)
  refine at_skip (by kernel_rfl) ?_
  try simp [h00, o_i, f_a, hx, i0, wi, eLd]
  refine sq ?_
  refine at_block rfl ?_
  refine sq ?_
  refine at_regK [1, 2, 6, 12, 13, 14] rfl ?_
  try simp [h00, o_i, f_a, hx, i0, wi, eLd]
  refine sq ?_
  refine at_regK [1, 2, 12, 13, 14, 21] rfl ?_
  try simp [h00, o_i, f_a, hx, i0, wi, eLd]
  refine at_cond rfl rfl (fun hb21 => ?_) (fun hb21 => ?_)
  ·
   try simp at hb21
   refine sq ?_
   refine at_regK [4] rfl ?_
   try simp [h00, o_i, f_a, hx, i0, wi, eLd]
   refine at_ret (by kernel_rfl) ?_
   try simp [h00, o_i, f_a, hx, i0, wi, eLd]
   subst hb21
   exact List.mem_append_left _ (List.mem_map_of_mem hxm)
  ·
   try simp at hb21
   refine at_skip (by kernel_rfl) ?_
   try simp [h00, o_i, f_a, hx, i0, wi, eLd]
   refine at_regC 1 [1, 2, 12, 13, 14] rfl ?_
   try simp [h00, o_i, f_a, hx, i0, wi, eLd]
   refine ⟨by omega, ?_⟩
   rw [← List.map_take, List.take_add_one, hx, List.map_append, List.mem_append]
   rintro (h | h)
   ·exact hall h
   ·simp at h
    exact hb21 h.symm
 ·
  try simp at hb15
  have n1 : z ∉ k.loads.map (·.id) := by rw [List.take_of_length_le (by omega)] at hall; exact hall
  refine at_exit rfl ?_
  try simp [h00, o_i, f_a]
  refine sq ?_
  refine sq ?_
  refine at_regK [1, 2, 24, 25, 26] rfl ?_
  try simp [h00, o_i, f_a]
  refine at_block rfl ?_
  refine at_count k.draws.length (fun i s => z ∉ (k.draws.take i).map (·.id) ∧ s = ⟨[(1, I z), (2, .ref false 0 0 [] 0), (24, eLds k.draws), (25, I k.draws.length), (26, I i)], [.cell (eKn k)], H⟩) rfl ⟨by simp, rfl⟩ ?_
  clear hall hi
  rintro i s hi ⟨hall, rfl⟩
  refine sq ?_
  refine at_regK [1, 2, 24, 25, 26, 27] rfl ?_
  try simp [h00, o_i, f_a]
  refine sq ?_
  refine at_cond rfl rfl (fun hb27 => ?_) (fun hb27 => ?_)
  ·
   try simp at hb27
   obtain ⟨x, hx⟩ : ∃ x, k.draws[i]? = some x := ⟨_, List.getElem?_eq_getElem (by omega)⟩
   have i0 : (i : Int) < k.draws.length := by omega
   have hxm := List.mem_of_getElem? hx
   have wi : IntKind.i64.wrap ((i : Int) + 1) = (i : Int) + 1 := wrap_id (by omega) (by omega)
   refine at_skip (by kernel_rfl) ?_
   try simp [h00, o_i, f_a, hx, i0, wi, eLd]
   refine sq ?_
   refine at_block rfl ?_
   refine sq ?_
   refine at_regK [1, 2, 8, 24, 25, 26] rfl ?_
   try simp [h00, o_i, f_a, hx, i0, wi, eLd]
   refine sq ?_
   refine at_regK [1, 2, 24, 25, 26, 33] rfl ?_
   try simp [h00, o_i, f_a, hx, i0, wi, eLd]
   refine at_cond rfl rfl (fun hb33 => ?_) (fun hb33 => ?_)
   ·
    try simp at hb33
    refine sq ?_
    refine at_regK [4] rfl ?_
    try simp [h00, o_i, f_a, hx, i0, wi, eLd]
    refine at_ret (by kernel_rfl) ?_
    try simp [h00, o_i, f_a, hx, i0, wi, eLd]
    subst hb33
    exact List.mem_append_right _ (List.mem_append_left _ (List.mem_map_of_mem hxm))
   ·
    try simp at hb33
    refine at_skip (by kernel_rfl) ?_
    try simp [h00, o_i, f_a, hx, i0, wi, eLd]
    refine at_regC 1 [1, 2, 24, 25, 26] rfl ?_
    try simp [h00, o_i, f_a, hx, i0, wi, eLd]
    refine ⟨by omega, ?_⟩
    rw [← List.map_take, List.take_add_one, hx, List.map_append, List.mem_append]
    rintro (h | h)
    ·exact hall h
    ·simp at h
     exact hb33 h.symm
  ·
   try simp at hb27
   have n2 : z ∉ k.draws.map (·.id) := by rw [List.take_of_length_le (by omega)] at hall; exact hall
   refine at_exit rfl ?_
   try simp [h00, o_i, f_a]
   refine sq ?_
   refine sq ?_
   refine at_regK [1, 36, 37, 38] rfl ?_
   try simp [h00, o_i, f_a]
   refine at_block rfl ?_
   refine at_count k.weighs.length (fun i s => z ∉ (k.weighs.take i).map (·.id) ∧ s = ⟨[(1, I z), (36, eWgs k.weighs), (37, I k.weighs.length), (38, I i)], [.cell (eKn k)], H⟩) rfl ⟨by simp, rfl⟩ ?_
   clear hall hi
   rintro i s hi ⟨hall, rfl⟩
   refine sq ?_
   refine at_regK [1, 36, 37, 38, 39] rfl ?_
   try simp [h00, o_i, f_a]
   refine sq ?_
   refine at_cond rfl rfl (fun hb39 => ?_) (fun hb39 => ?_)
   ·
    try simp at hb39
    obtain ⟨x, hx⟩ : ∃ x, k.weighs[i]? = some x := ⟨_, List.getElem?_eq_getElem (by omega)⟩
    have i0 : (i : Int) < k.weighs.length := by omega
    have hxm := List.mem_of_getElem? hx
    have wi : IntKind.i64.wrap ((i : Int) + 1) = (i : Int) + 1 := wrap_id (by omega) (by omega)
    refine at_skip (by kernel_rfl) ?_
    try simp [h00, o_i, f_a, hx, i0, wi, eWg]
    refine sq ?_
    refine at_block rfl ?_
    refine sq ?_
    refine at_regK [1, 10, 36, 37, 38] rfl ?_
    try simp [h00, o_i, f_a, hx, i0, wi, eWg]
    refine sq ?_
    refine at_regK [1, 36, 37, 38, 45] rfl ?_
    try simp [h00, o_i, f_a, hx, i0, wi, eWg]
    refine at_cond rfl rfl (fun hb45 => ?_) (fun hb45 => ?_)
    ·
     try simp at hb45
     refine sq ?_
     refine at_regK [4] rfl ?_
     try simp [h00, o_i, f_a, hx, i0, wi, eWg]
     refine at_ret (by kernel_rfl) ?_
     try simp [h00, o_i, f_a, hx, i0, wi, eWg]
     subst hb45
     exact List.mem_append_right _ (List.mem_append_right _ (List.mem_map_of_mem hxm))
    ·
     try simp at hb45
     refine at_skip (by kernel_rfl) ?_
     try simp [h00, o_i, f_a, hx, i0, wi, eWg]
     refine at_regC 1 [1, 36, 37, 38] rfl ?_
     try simp [h00, o_i, f_a, hx, i0, wi, eWg]
     refine ⟨by omega, ?_⟩
     rw [← List.map_take, List.take_add_one, hx, List.map_append, List.mem_append]
     rintro (h | h)
     ·exact hall h
     ·simp at h
      exact hb45 h.symm
   ·
    try simp at hb39
    have n3 : z ∉ k.weighs.map (·.id) := by rw [List.take_of_length_le (by omega)] at hall; exact hall
    refine at_exit rfl ?_
    try simp [h00, o_i, f_a]
    refine sq ?_
    refine at_regK [4] rfl ?_
    try simp [h00, o_i, f_a]
    refine at_ret (by kernel_rfl) ?_
    try simp [h00, o_i, f_a]
    unfold idsK
    simp only [List.mem_append]
    rintro (h | h | h)
    ·exact n1 h
    ·exact n2 h
    ·exact n3 h

theorem more_litB (k : Kn) (w : Wg) : eKn (moreW k w) = .agg [I k.room, I k.per, eLds k.loads, eLds k.draws, .lit 6 (k.weighs.map eWg ++ [eWg w])] := by
 rw [show k.weighs.map eWg ++ [eWg w] = (k.weighs ++ [w]).map eWg by simp]
 rfl
theorem eKn_ownB (k : Kn) (sh : Bool) (j v : Nat) : (eKn k).upd [4] (.own sh j v) = some (.agg [I k.room, I k.per, eLds k.loads, eLds k.draws, .own sh j v]) := by simp [eKn, AV.upd]
theorem nat_inB {a n : Int} (a0 : 0 ≤ a) (n0 : 0 < n) : ∃ u : Nat, a.tmod n = u ∧ (u : Int) < n := by
 obtain ⟨u, h1, h2, h3⟩ := tmod_in a0 n0
 exact ⟨u.toNat, by omega, by omega⟩

theorem awp_eqB {x : X} {N : Nat} {c : Code} {s s' : AS} {Q : Exit → AS → Prop} (h : s' = s) (k : AWP x N c s' Q) : AWP x N c s Q := h ▸ k
theorem lone_upd (a b c d e f : Int) : (eWg (loneW a b c d)).upd [4] (.agg [I e, I f]) = some (eWg (loneW a b e f)) := by simp [eWg, loneW, eSp, AV.upd, AV.size, AV.sizes]
theorem lendFind {o : Oper} {s : AS} {K : AV → AS → Prop} {call : Call} {f : Operand} {q : Nat} {k : Kn} {w : Wg} (h : o.op = .call call) (hc : call.callee = .value f) (hf : s.ev f = .func (.func 29) [] []) (ha : call.args.toList.map s.ev = [.agg [I k.room, I k.per, eLds k.loads, eLds k.draws, .own false q (k.weighs.length + 1)]])
  (hq : s.loc[q]? = some (.row 6 (k.weighs.map eWg ++ [eWg w]))) (hH : s.H = []) (hcall : ACall E 29 [eKn (moreW k w)] s.loc.length [] (fun r R H' => H' = [] ∧ r.lnt s.loc.length = true ∧ (∀ o ∈ R, o.lnt s.loc.length = true) ∧ K r { s with loc := s.loc ++ R, H := [] })) : OpW E o s K := by
 have he : s.expos (call.args.toList.map s.ev) = ([eKn (moreW k w)], s.setMem false q (.frow 6 (k.weighs.map eWg ++ [eWg w]))) := by
  rw [ha, more_litB]
  simp [AS.expos, AS.expo, hq, AV.ok, AV.oks, eLds]
 refine opw_lend h hc hf (by rw [ha]; simp [AV.solid]) (by rw [he]; simp) hH (by rw [he]; exact hH) (by rw [he]; simp [AS.setMem]) ?_
 rw [he]
 exact hcall
theorem lendOK {o : Oper} {s : AS} {K : AV → AS → Prop} {call : Call} {f : Operand} {q : Nat} {k : Kn} {w : Wg} (h : o.op = .call call) (hc : call.callee = .value f) (hf : s.ev f = .func (.func 29) [] []) (ha : call.args.toList.map s.ev = [.agg [I k.room, I k.per, eLds k.loads, eLds k.draws, .own false q (k.weighs.length + 1)]])
  (hq : s.loc[q]? = some (.row 6 (k.weighs.map eWg ++ [eWg w]))) (hH : s.H = []) (hk : Few (moreW k w)) (h0 : (findM (moreW k w)).2 = 0) (hK : K (.tup [eTrR s.loc.length (findM (moreW k w)).1, I 0]) ⟨s.t, s.loc ++ rTr (findM (moreW k w)).1, []⟩) : OpW E o s K := by
 refine lendFind h hc hf ha hq hH ((c29r (moreW k w) hk h0).use okH_nil ⟨rfl, by simp [eTrR, AV.lnt, AV.lnts], ?_, hK⟩)
 have hi : ∀ (n : Nat) (l : List Int), AV.lnts n (l.map I) = true := by
  intro n l
  induction l with
  | nil => rfl
  | cons a l ih => simp [AV.lnts, AV.lnt, ih]
 simp [rTr, AO.lnt, hi]
theorem lendErr {o : Oper} {s : AS} {K : AV → AS → Prop} {call : Call} {f : Operand} {q : Nat} {k : Kn} {w : Wg} (h : o.op = .call call) (hc : call.callee = .value f) (hf : s.ev f = .func (.func 29) [] []) (ha : call.args.toList.map s.ev = [.agg [I k.room, I k.per, eLds k.loads, eLds k.draws, .own false q (k.weighs.length + 1)]])
  (hq : s.loc[q]? = some (.row 6 (k.weighs.map eWg ++ [eWg w]))) (hH : s.H = []) (hk : Few (moreW k w)) (h9 : findM (moreW k w) = (zTr, 9)) (hK : K (.tup [eTr zTr, I 9]) ⟨s.t, s.loc, []⟩) : OpW E o s K := by
 have hc29 := c29 (moreW k w) hk
 rw [h9] at hc29
 refine lendFind h hc hf ha hq hH (hc29.use okH_nil ⟨rfl, by simp [eTr, eInts, zTr, AV.lnt, AV.lnts], by simp, ?_⟩)
 rw [List.append_nil]
 exact hK

theorem c4n (k : Kn) (hwz : k.weighs ≠ []) (a w : Int) (a0 : 0 ≤ a) (a1 : a ≤ 255) (w0 : 0 ≤ w) (w1 : w ≤ 4294967295) (n : Nat) : ACall E 4 [eKn k, .int .u8 a, .int .u32 w] n [] (Is (.bool true) [] []) := by
 have hH : okH [] := okH_nil
 have wa : IntKind.i64.wrap a = a := wrap_id (by omega) (by omega)
 have ww : IntKind.i64.wrap w = w := wrap_id (by omega) (by omega)
 refine at_start (fn := Tryz.f4) [.tmp 6] 164 ([] : List AO).length rfl rfl rfl rfl (by kernel_rfl) (by kernel_rfl) (by simp) (Nat.le_refl _) ?_
 refine sq ?_
 refine at_regK [1, 2, 3] rfl ?_
 try simp [or_imp, forall_and, wa, ww]
 refine sq ?_
 refine sq ?_
 refine at_regK [1, 2, 3, 34] rfl ?_
 try simp [or_imp, forall_and, wa, ww]
 refine (c16 k).use hH ?_
 try simp [or_imp, forall_and, wa, ww]
 refine pops_split 23 rfl (fun hg1 => ?_) (fun hg1 => ?_)
 ·
  try simp [or_imp, forall_and, wa, ww, hg1]
  refine at_cond rfl rfl (fun hb34 => ?_) (fun hb34 => by simp at hb34)
  refine sq ?_
  refine at_regK [6] rfl ?_
  try simp [or_imp, forall_and, wa, ww]
  refine c17.use hH ?_
  try simp [or_imp, forall_and, wa, ww]
  refine at_ret (by kernel_rfl) ?_
  try simp [or_imp, forall_and, wa, ww]
 ·
  have hfw : fewB k = true := by simpa using hg1
  have hk := fewB_few hfw
  try simp [or_imp, forall_and, wa, ww, hg1]
  refine pops_split 29 rfl (fun hg2 => ?_) (fun hg2 => ?_)
  ·
   try simp [or_imp, forall_and, wa, ww, hg2]
   refine at_cond rfl rfl (fun hb34 => ?_) (fun hb34 => by simp at hb34)
   refine sq ?_
   refine at_regK [6] rfl ?_
   try simp [or_imp, forall_and, wa, ww]
   refine c17.use hH ?_
   try simp [or_imp, forall_and, wa, ww]
   refine at_ret (by kernel_rfl) ?_
   try simp [or_imp, forall_and, wa, ww]
  ·
   have hl0 : 0 < k.loads.length := by simp at hg2; exact List.length_pos_iff.2 hg2
   try simp [or_imp, forall_and, wa, ww, hg2]
   refine at_cond rfl rfl (fun hb34 => ?_) (fun hb34 => ?_)
   ·
    try simp at hb34
    refine sq ?_
    refine at_regK [6] rfl ?_
    try simp [or_imp, forall_and, wa, ww]
    refine c17.use hH ?_
    try simp [or_imp, forall_and, wa, ww]
    refine at_ret (by kernel_rfl) ?_
    try simp [or_imp, forall_and, wa, ww]
   ·
    try simp at hb34
    have hl0 : 0 < k.loads.length := List.length_pos_iff.2 (by intro e; simp [e] at hg2)
    have nw : k.weighs.length ≤ 5 := by omega
    obtain ⟨i, hi, il⟩ := nat_inB a0 (show (0 : Int) < k.loads.length by omega)
    have hln : ¬ k.loads = [] := by intro e; simp [e] at hl0
    obtain ⟨x, hx⟩ : ∃ x, k.loads[i]? = some x := ⟨_, List.getElem?_eq_getElem (by omega)⟩
    obtain ⟨S, hS⟩ : ∃ S, S = runM k x.id x.id := ⟨_, rfl⟩
    refine at_skip (by kernel_rfl) ?_
    try simp [or_imp, forall_and, wa, ww, hi, il, hx, ← hS, hln, eLd]
    refine sq ?_
    refine at_regK [2, 3, 7] rfl ?_
    try simp [or_imp, forall_and, wa, ww, hi, il, hx, ← hS, hln, eLd]
    refine sq ?_
    refine at_regK [2, 3, 7, 8] rfl ?_
    try simp [or_imp, forall_and, wa, ww, hi, il, hx, ← hS, hln, eLd]
    refine sq ?_
    refine at_regK [2, 3, 7, 8, 9, 10] rfl ?_
    try simp [or_imp, forall_and, wa, ww, hi, il, hx, ← hS, hln, eLd]
    refine (c18 k hk x.id).use hH ?_
    try simp [or_imp, forall_and, wa, ww, hi, il, hx, ← hS, hln, eLd]
    refine sq ?_
    refine sq ?_
    refine at_regK [2, 3, 7, 8, 9, 55] rfl ?_
    try simp [or_imp, forall_and, wa, ww, hi, il, hx, ← hS, hln, eLd]
    refine at_cond rfl rfl (fun hb55 => ?_) (fun hb55 => ?_)
    ·
     try simp at hb55
     refine sq ?_
     refine at_regK [6] rfl ?_
     try simp [or_imp, forall_and, wa, ww, hi, il, hx, ← hS, hln, eLd]
     refine c17.use hH ?_
     try simp [or_imp, forall_and, wa, ww, hi, il, hx, ← hS, hln, eLd]
     refine at_ret (by kernel_rfl) ?_
     try simp [or_imp, forall_and, wa, ww, hi, il, hx, ← hS, hln, eLd]
    ·
     try simp at hb55
     obtain ⟨hc, T⟩ := told_of hx (by rw [← hS]; simpa using hb55)
     rw [← hS] at T
     have r := right_of_check hc
     have o := order_of_check hc
     have l0 := T.l0; have lh := T.lh; have h1 := T.h1
     have nl := r.nl; have nd := r.nd
     have hil : (idsK k).length ≤ 45 := by simp [idsK]; omega
     refine at_skip (by kernel_rfl) ?_
     try simp [or_imp, forall_and, wa, ww, hi, il, hx, ← hS, hln, eLd]
     refine sq ?_
     refine at_regK [2, 3, 7, 8, 9, 11] rfl ?_
     try simp [or_imp, forall_and, wa, ww, hi, il, hx, ← hS, hln, eLd]
     refine sq ?_
     refine at_block rfl ?_
     refine at_meas (fun s => match s.get 11 with | .int _ m => leftI (idsK k) m | _ => 0) (fun s => ∃ m : Int, 1 ≤ m ∧ m + leftI (idsK k) m ≤ 1 + (idsK k).length ∧ s = ⟨[(2, .int .u32 w), (3, .ref false 0 0 [] 0), (7, I i), (8, I x.id), (9, .ref false 1 0 [] 0), (11, I m)], [.cell (eKn k), .cell (eSp S.1)], []⟩) rfl ⟨1, by omega, by have := left_le (idsK k) 1; omega, rfl⟩ ?_
     rintro s ⟨m, m0, m1, rfl⟩
     refine sq ?_
     refine sq ?_
     refine at_regK [2, 3, 7, 8, 9, 11, 59] rfl ?_
     try simp [or_imp, forall_and, wa, ww, hi, il, hx, ← hS, hln, eLd]
     refine (c28 k hk m).use hH ?_
     try simp [or_imp, forall_and, wa, ww, hi, il, hx, ← hS, hln, eLd]
     refine at_cond rfl rfl (fun hb59 => ?_) (fun hb59 => ?_)
     ·
      try simp at hb59
      have wm : IntKind.i64.wrap (m + 1) = m + 1 := wrap_id (by omega) (by omega)
      refine at_skip (by kernel_rfl) ?_
      try simp [or_imp, forall_and, wa, ww, hi, il, hx, ← hS, hln, eLd, wm]
      refine at_block rfl ?_
      refine at_regK [2, 3, 7, 8, 9, 11] rfl ?_
      try simp [or_imp, forall_and, wa, ww, hi, il, hx, ← hS, hln, eLd, wm]
      have := left_step hb59
      exact ⟨this, by omega, by omega⟩
     ·
      try simp at hb59
      obtain ⟨u, hu, u0, u1⟩ := tmod_in w0 (show (0 : Int) < S.1.hi - S.1.lo + 1 by omega)
      have wd : IntKind.i64.wrap (S.1.hi - S.1.lo) = S.1.hi - S.1.lo := wrap_id (by omega) (by omega)
      have wd1 : IntKind.i64.wrap (S.1.hi - S.1.lo + 1) = S.1.hi - S.1.lo + 1 := wrap_id (by omega) (by omega)
      have wu : IntKind.i64.wrap u = u := wrap_id (by omega) (by omega)
      have dn : ¬ S.1.hi - S.1.lo + 1 = 0 := by omega
      obtain ⟨z, hz⟩ : ∃ z, z = S.1.lo + u := ⟨_, rfl⟩
      have wz : IntKind.i64.wrap z = z := wrap_id (by omega) (by omega)
      have hml : m ≤ 1099511627776 := by omega
      obtain ⟨e1, e2, e3⟩ := lone_mid hc (by omega) hx T (n := z) (by omega) (by omega) m0 hml hb59
      obtain ⟨F, hF⟩ : ∃ F, F = (findM (moreW k (loneW x.id m z z))).1 := ⟨_, rfl⟩
      rw [← hF] at e2 e3
      have il2 : ¬ (k.loads.length : Int) ≤ i := by omega
      have hkm : Few (moreW k (loneW x.id m z z)) := ⟨hk.l, hk.d, by simp [moreW]; omega⟩
      have o1 := lone_out hc (by omega) hx T (lo := S.1.hi + 1) (hi := S.1.hi + 1) (by omega) (by omega) (by omega) (.inl (by omega)) m0 hml hb59
      have wh1 : IntKind.i64.wrap (S.1.hi + 1) = S.1.hi + 1 := wrap_id (by omega) (by omega)
      have wl1 : IntKind.i64.wrap (S.1.lo - 1) = S.1.lo - 1 := wrap_id (by omega) (by omega)
      have hwn : (k.weighs.length : Int) < k.weighs.length + 1 := by omega
      have hkm1 : Few (moreW k (loneW x.id m (S.1.hi + 1) (S.1.hi + 1))) := ⟨hk.l, hk.d, by simp [moreW]; omega⟩
      have hkm2 : Few (moreW k (loneW x.id m 0 (S.1.lo - 1))) := ⟨hk.l, hk.d, by simp [moreW]; omega⟩
      refine at_exit rfl ?_
      try simp [or_imp, forall_and, wa, ww, hi, il, hx, ← hS, hln, eLd, hu, wd, wd1, wz, wu, dn, ← hz, eSp, ← hF, e2, e3, il2, wh1, wl1, hwn, lone_upd]
      refine sq ?_
      refine at_draw [3, 7, 8, 9, 11, 12] [0,1,0,0,0,1,0,1,0,0,0,0,0] [] rfl Efol (by kernel_rfl) (by simp) ?_
      try simp [or_imp, forall_and, wa, ww, hi, il, hx, ← hS, hln, eLd, hu, wd, wd1, wz, wu, dn, ← hz, eSp, ← hF, e2, e3, il2, wh1, wl1, hwn, lone_upd]
      refine sq ?_
      refine at_regK [3, 7, 8, 9, 11, 12, 13] rfl ?_
      try simp [or_imp, forall_and, wa, ww, hi, il, hx, ← hS, hln, eLd, hu, wd, wd1, wz, wu, dn, ← hz, eSp, ← hF, e2, e3, il2, wh1, wl1, hwn, lone_upd]
      refine sq ?_
      refine at_regA [3, 7, 9, 12, 13] rfl ?_
      simp only [AOps, guardP]
      refine opw_buildX rfl rfl rfl rfl rfl (by decide) (by decide) (by simp [fits]) ?_
      simp [setAll, AS.push]
      refine pv_sound ?_
      simp
      refine pv_sound ?_
      simp
      refine opw_appendA (ys := k.weighs.map eWg) rfl rfl rfl rfl rfl rfl rfl (by decide) rfl rfl rfl (by simp [hwz]) rfl (by simp; omega) ?_
      simp
      refine pv_sound ?_
      simp
      refine pv_sound ?_
      simp
      refine pv_sound ?_
      simp
      refine pv_sound ?_
      simp
      refine pv_sound ?_
      simp
      refine pv_sound ?_
      simp
      refine pv_sound ?_
      simp
      refine pv_sound ?_
      simp
      refine pv_sound ?_
      simp
      refine ⟨by omega, ?_⟩
      refine pv_sound ?_
      simp
      refine pv_sound ?_
      simp [eKn_ownB]
      refine awp_eqB (s' := ⟨[(3, .ref false 0 0 [] 0), (7, I i), (9, .ref false 1 0 [] 0), (12, I z), (13, .ref false 2 0 [] 0)], [.cell (eKn k), .cell (.agg [I S.1.lo, I S.1.hi]), .cell (AV.agg [I k.room, I k.per, eLds k.loads, eLds k.draws, .own false 4 (k.weighs.length + 1)]), .xrow 6 [], .row 6 (k.weighs.map eWg ++ [eWg (loneW x.id m z z)]), .row 6 [eWg (loneW x.id m z z)]], []⟩) (by simp [eWg, eSp, loneW]) ?_
      refine sq ?_
      refine at_regA [3, 7, 9, 12, 13, 14, 15] rfl ?_
      simp only [AOps, guardP]
      refine pv_sound ?_
      simp
      refine lendOK (q := 4) (k := k) (w := loneW x.id m z z) rfl rfl rfl rfl rfl rfl hkm e1 ?_
      simp [eTrR, rTr, ← hF]
      refine pv_sound ?_
      simp
      refine pv_sound ?_
      simp
      refine pv_sound ?_
      simp
      refine pv_sound ?_
      simp
      refine pv_sound ?_
      simp
      refine pv_sound ?_
      simp
      refine sq ?_
      refine sq ?_
      refine at_regK [3, 9, 13, 111] rfl ?_
      try simp [or_imp, forall_and, wa, ww, hi, il, hx, ← hS, hln, eLd, hu, wd, wd1, wz, wu, dn, ← hz, eSp, ← hF, e2, e3, il2, wh1, wl1, hwn, lone_upd]
      refine at_cond rfl rfl (fun hb111 => by simp at hb111) (fun hb111 => ?_)
      refine at_skip (by kernel_rfl) ?_
      try simp [or_imp, forall_and, wa, ww, hi, il, hx, ← hS, hln, eLd, hu, wd, wd1, wz, wu, dn, ← hz, eSp, ← hF, e2, e3, il2, wh1, wl1, hwn, lone_upd]
      refine sq ?_
      refine at_regK [3, 9, 13] rfl ?_
      try simp [or_imp, forall_and, wa, ww, hi, il, hx, ← hS, hln, eLd, hu, wd, wd1, wz, wu, dn, ← hz, eSp, ← hF, e2, e3, il2, wh1, wl1, hwn, lone_upd]
      refine sq ?_
      refine at_regA [3, 9, 13, 17] rfl ?_
      simp only [AOps, guardP]
      refine pv_sound ?_
      simp
      refine lendErr (q := 4) (k := k) (w := loneW x.id m (S.1.hi + 1) (S.1.hi + 1)) rfl rfl rfl rfl rfl rfl hkm1 o1 ?_
      simp
      refine pv_sound ?_
      simp
      refine pv_sound ?_
      simp
      refine pv_sound ?_
      simp
      refine pv_sound ?_
      simp
      refine pv_sound ?_
      simp
      refine pv_sound ?_
      simp
      refine sq ?_
      refine sq ?_
      refine at_regK [3, 9, 13, 17, 133] rfl ?_
      try simp [or_imp, forall_and, eSp, hi, il, hx, ← hS, hln, eLd, hu, wd, wd1, wz, wu, dn, ← hz, eSp, ← hF, e2, e3, il2, wh1, wl1, hwn, lone_upd]
      refine at_cond rfl rfl (fun hb133 => ?_) (fun hb133 => ?_)
      ·
       try simp at hb133
       refine sq ?_
       refine at_regK [6] rfl ?_
       try simp [or_imp, forall_and, wa, ww, hi, il, hx, ← hS, hln, eLd, hu, wd, wd1, wz, wu, dn, ← hz, eSp, ← hF, e2, e3, il2, wh1, wl1, hwn, lone_upd]
       refine c17.use hH ?_
       try simp [or_imp, forall_and, wa, ww, hi, il, hx, ← hS, hln, eLd, hu, wd, wd1, wz, wu, dn, ← hz, eSp, ← hF, e2, e3, il2, wh1, wl1, hwn, lone_upd]
       refine at_ret (by kernel_rfl) ?_
       try simp [or_imp, forall_and, wa, ww, hi, il, hx, ← hS, hln, eLd, hu, wd, wd1, wz, wu, dn, ← hz, eSp, ← hF, e2, e3, il2, wh1, wl1, hwn, lone_upd]
      ·
       try simp at hb133
       have o2 := lone_out hc (by omega) hx T (lo := 0) (hi := S.1.lo - 1) (by omega) (by omega) (by omega) (.inr (by omega)) m0 hml hb59
       refine at_skip (by kernel_rfl) ?_
       try simp [or_imp, forall_and, wa, ww, hi, il, hx, ← hS, hln, eLd, hu, wd, wd1, wz, wu, dn, ← hz, eSp, ← hF, e2, e3, il2, wh1, wl1, hwn, lone_upd]
       refine sq ?_
       refine at_regK [13, 17] rfl ?_
       try simp [or_imp, forall_and, wa, ww, hi, il, hx, ← hS, hln, eLd, hu, wd, wd1, wz, wu, dn, ← hz, eSp, ← hF, e2, e3, il2, wh1, wl1, hwn, lone_upd]
       refine sq ?_
       refine at_regA [17, 19] rfl ?_
       simp only [AOps, guardP]
       refine pv_sound ?_
       simp
       refine lendErr (q := 4) (k := k) (w := loneW x.id m 0 (S.1.lo - 1)) rfl rfl rfl rfl rfl rfl hkm2 o2 ?_
       simp
       refine pv_sound ?_
       simp
       refine pv_sound ?_
       simp
       refine pv_sound ?_
       simp
       refine pv_sound ?_
       simp
       refine pv_sound ?_
       simp
       refine pv_sound ?_
       simp
       refine sq ?_
       refine at_regK [6] rfl ?_
       try simp [or_imp, forall_and, wa, ww, hi, il, hx, ← hS, hln, eLd, hu, wd, wd1, wz, wu, dn, ← hz, eSp, ← hF, e2, e3, il2, wh1, wl1, hwn, lone_upd]
       refine c17.use hH ?_
       try simp [or_imp, forall_and, wa, ww, hi, il, hx, ← hS, hln, eLd, hu, wd, wd1, wz, wu, dn, ← hz, eSp, ← hF, e2, e3, il2, wh1, wl1, hwn, lone_upd]
       refine at_ret (by kernel_rfl) ?_
       try simp [or_imp, forall_and, wa, ww, hi, il, hx, ← hS, hln, eLd, hu, wd, wd1, wz, wu, dn, ← hz, eSp, ← hF, e2, e3, il2, wh1, wl1, hwn, lone_upd]

theorem c4e (k : Kn) (hwz : k.weighs = []) (a w : Int) (a0 : 0 ≤ a) (a1 : a ≤ 255) (w0 : 0 ≤ w) (w1 : w ≤ 4294967295) (n : Nat) : ACall E 4 [eKn k, .int .u8 a, .int .u32 w] n [] (Is (.bool true) [] []) := by
 have hH : okH [] := okH_nil
 have wa : IntKind.i64.wrap a = a := wrap_id (by omega) (by omega)
 have ww : IntKind.i64.wrap w = w := wrap_id (by omega) (by omega)
 refine at_start (fn := Tryz.f4) [.tmp 6] 164 ([] : List AO).length rfl rfl rfl rfl (by kernel_rfl) (by kernel_rfl) (by simp) (Nat.le_refl _) ?_
 refine sq ?_
 refine at_regK [1, 2, 3] rfl ?_
 try simp [or_imp, forall_and, wa, ww]
 refine sq ?_
 refine sq ?_
 refine at_regK [1, 2, 3, 34] rfl ?_
 try simp [or_imp, forall_and, wa, ww]
 refine (c16 k).use hH ?_
 try simp [or_imp, forall_and, wa, ww]
 refine pops_split 23 rfl (fun hg1 => ?_) (fun hg1 => ?_)
 ·
  try simp [or_imp, forall_and, wa, ww, hg1]
  refine at_cond rfl rfl (fun hb34 => ?_) (fun hb34 => by simp at hb34)
  refine sq ?_
  refine at_regK [6] rfl ?_
  try simp [or_imp, forall_and, wa, ww]
  refine c17.use hH ?_
  try simp [or_imp, forall_and, wa, ww]
  refine at_ret (by kernel_rfl) ?_
  try simp [or_imp, forall_and, wa, ww]
 ·
  have hfw : fewB k = true := by simpa using hg1
  have hk := fewB_few hfw
  try simp [or_imp, forall_and, wa, ww, hg1]
  refine pops_split 29 rfl (fun hg2 => ?_) (fun hg2 => ?_)
  ·
   try simp [or_imp, forall_and, wa, ww, hg2]
   refine at_cond rfl rfl (fun hb34 => ?_) (fun hb34 => by simp at hb34)
   refine sq ?_
   refine at_regK [6] rfl ?_
   try simp [or_imp, forall_and, wa, ww]
   refine c17.use hH ?_
   try simp [or_imp, forall_and, wa, ww]
   refine at_ret (by kernel_rfl) ?_
   try simp [or_imp, forall_and, wa, ww]
  ·
   have hl0 : 0 < k.loads.length := by simp at hg2; exact List.length_pos_iff.2 hg2
   try simp [or_imp, forall_and, wa, ww, hg2]
   refine at_cond rfl rfl (fun hb34 => ?_) (fun hb34 => ?_)
   ·
    try simp at hb34
    refine sq ?_
    refine at_regK [6] rfl ?_
    try simp [or_imp, forall_and, wa, ww]
    refine c17.use hH ?_
    try simp [or_imp, forall_and, wa, ww]
    refine at_ret (by kernel_rfl) ?_
    try simp [or_imp, forall_and, wa, ww]
   ·
    try simp at hb34
    have hl0 : 0 < k.loads.length := List.length_pos_iff.2 (by intro e; simp [e] at hg2)
    have nw : k.weighs.length ≤ 5 := by omega
    obtain ⟨i, hi, il⟩ := nat_inB a0 (show (0 : Int) < k.loads.length by omega)
    have hln : ¬ k.loads = [] := by intro e; simp [e] at hl0
    obtain ⟨x, hx⟩ : ∃ x, k.loads[i]? = some x := ⟨_, List.getElem?_eq_getElem (by omega)⟩
    obtain ⟨S, hS⟩ : ∃ S, S = runM k x.id x.id := ⟨_, rfl⟩
    refine at_skip (by kernel_rfl) ?_
    try simp [or_imp, forall_and, wa, ww, hi, il, hx, ← hS, hln, eLd]
    refine sq ?_
    refine at_regK [2, 3, 7] rfl ?_
    try simp [or_imp, forall_and, wa, ww, hi, il, hx, ← hS, hln, eLd]
    refine sq ?_
    refine at_regK [2, 3, 7, 8] rfl ?_
    try simp [or_imp, forall_and, wa, ww, hi, il, hx, ← hS, hln, eLd]
    refine sq ?_
    refine at_regK [2, 3, 7, 8, 9, 10] rfl ?_
    try simp [or_imp, forall_and, wa, ww, hi, il, hx, ← hS, hln, eLd]
    refine (c18 k hk x.id).use hH ?_
    try simp [or_imp, forall_and, wa, ww, hi, il, hx, ← hS, hln, eLd]
    refine sq ?_
    refine sq ?_
    refine at_regK [2, 3, 7, 8, 9, 55] rfl ?_
    try simp [or_imp, forall_and, wa, ww, hi, il, hx, ← hS, hln, eLd]
    refine at_cond rfl rfl (fun hb55 => ?_) (fun hb55 => ?_)
    ·
     try simp at hb55
     refine sq ?_
     refine at_regK [6] rfl ?_
     try simp [or_imp, forall_and, wa, ww, hi, il, hx, ← hS, hln, eLd]
     refine c17.use hH ?_
     try simp [or_imp, forall_and, wa, ww, hi, il, hx, ← hS, hln, eLd]
     refine at_ret (by kernel_rfl) ?_
     try simp [or_imp, forall_and, wa, ww, hi, il, hx, ← hS, hln, eLd]
    ·
     try simp at hb55
     obtain ⟨hc, T⟩ := told_of hx (by rw [← hS]; simpa using hb55)
     rw [← hS] at T
     have r := right_of_check hc
     have o := order_of_check hc
     have l0 := T.l0; have lh := T.lh; have h1 := T.h1
     have nl := r.nl; have nd := r.nd
     have hil : (idsK k).length ≤ 45 := by simp [idsK]; omega
     refine at_skip (by kernel_rfl) ?_
     try simp [or_imp, forall_and, wa, ww, hi, il, hx, ← hS, hln, eLd]
     refine sq ?_
     refine at_regK [2, 3, 7, 8, 9, 11] rfl ?_
     try simp [or_imp, forall_and, wa, ww, hi, il, hx, ← hS, hln, eLd]
     refine sq ?_
     refine at_block rfl ?_
     refine at_meas (fun s => match s.get 11 with | .int _ m => leftI (idsK k) m | _ => 0) (fun s => ∃ m : Int, 1 ≤ m ∧ m + leftI (idsK k) m ≤ 1 + (idsK k).length ∧ s = ⟨[(2, .int .u32 w), (3, .ref false 0 0 [] 0), (7, I i), (8, I x.id), (9, .ref false 1 0 [] 0), (11, I m)], [.cell (eKn k), .cell (eSp S.1)], []⟩) rfl ⟨1, by omega, by have := left_le (idsK k) 1; omega, rfl⟩ ?_
     rintro s ⟨m, m0, m1, rfl⟩
     refine sq ?_
     refine sq ?_
     refine at_regK [2, 3, 7, 8, 9, 11, 59] rfl ?_
     try simp [or_imp, forall_and, wa, ww, hi, il, hx, ← hS, hln, eLd]
     refine (c28 k hk m).use hH ?_
     try simp [or_imp, forall_and, wa, ww, hi, il, hx, ← hS, hln, eLd]
     refine at_cond rfl rfl (fun hb59 => ?_) (fun hb59 => ?_)
     ·
      try simp at hb59
      have wm : IntKind.i64.wrap (m + 1) = m + 1 := wrap_id (by omega) (by omega)
      refine at_skip (by kernel_rfl) ?_
      try simp [or_imp, forall_and, wa, ww, hi, il, hx, ← hS, hln, eLd, wm]
      refine at_block rfl ?_
      refine at_regK [2, 3, 7, 8, 9, 11] rfl ?_
      try simp [or_imp, forall_and, wa, ww, hi, il, hx, ← hS, hln, eLd, wm]
      have := left_step hb59
      exact ⟨this, by omega, by omega⟩
     ·
      try simp at hb59
      obtain ⟨u, hu, u0, u1⟩ := tmod_in w0 (show (0 : Int) < S.1.hi - S.1.lo + 1 by omega)
      have wd : IntKind.i64.wrap (S.1.hi - S.1.lo) = S.1.hi - S.1.lo := wrap_id (by omega) (by omega)
      have wd1 : IntKind.i64.wrap (S.1.hi - S.1.lo + 1) = S.1.hi - S.1.lo + 1 := wrap_id (by omega) (by omega)
      have wu : IntKind.i64.wrap u = u := wrap_id (by omega) (by omega)
      have dn : ¬ S.1.hi - S.1.lo + 1 = 0 := by omega
      obtain ⟨z, hz⟩ : ∃ z, z = S.1.lo + u := ⟨_, rfl⟩
      have wz : IntKind.i64.wrap z = z := wrap_id (by omega) (by omega)
      have hml : m ≤ 1099511627776 := by omega
      obtain ⟨e1, e2, e3⟩ := lone_mid hc (by omega) hx T (n := z) (by omega) (by omega) m0 hml hb59
      obtain ⟨F, hF⟩ : ∃ F, F = (findM (moreW k (loneW x.id m z z))).1 := ⟨_, rfl⟩
      rw [← hF] at e2 e3
      have il2 : ¬ (k.loads.length : Int) ≤ i := by omega
      have hkm : Few (moreW k (loneW x.id m z z)) := ⟨hk.l, hk.d, by simp [moreW]; omega⟩
      have o1 := lone_out hc (by omega) hx T (lo := S.1.hi + 1) (hi := S.1.hi + 1) (by omega) (by omega) (by omega) (.inl (by omega)) m0 hml hb59
      have wh1 : IntKind.i64.wrap (S.1.hi + 1) = S.1.hi + 1 := wrap_id (by omega) (by omega)
      have wl1 : IntKind.i64.wrap (S.1.lo - 1) = S.1.lo - 1 := wrap_id (by omega) (by omega)
      have hwn : (k.weighs.length : Int) < k.weighs.length + 1 := by omega
      have hkm1 : Few (moreW k (loneW x.id m (S.1.hi + 1) (S.1.hi + 1))) := ⟨hk.l, hk.d, by simp [moreW]; omega⟩
      have hkm2 : Few (moreW k (loneW x.id m 0 (S.1.lo - 1))) := ⟨hk.l, hk.d, by simp [moreW]; omega⟩
      refine at_exit rfl ?_
      try simp [or_imp, forall_and, wa, ww, hi, il, hx, ← hS, hln, eLd, hu, wd, wd1, wz, wu, dn, ← hz, eSp, ← hF, e2, e3, il2, wh1, wl1, hwn, lone_upd]
      refine sq ?_
      refine at_draw [3, 7, 8, 9, 11, 12] [0,1,0,0,0,1,0,1,0,0,0,0,0] [] rfl Efol (by kernel_rfl) (by simp) ?_
      try simp [or_imp, forall_and, wa, ww, hi, il, hx, ← hS, hln, eLd, hu, wd, wd1, wz, wu, dn, ← hz, eSp, ← hF, e2, e3, il2, wh1, wl1, hwn, lone_upd]
      refine sq ?_
      refine at_regK [3, 7, 8, 9, 11, 12, 13] rfl ?_
      try simp [or_imp, forall_and, wa, ww, hi, il, hx, ← hS, hln, eLd, hu, wd, wd1, wz, wu, dn, ← hz, eSp, ← hF, e2, e3, il2, wh1, wl1, hwn, lone_upd]
      refine sq ?_
      refine at_regA [3, 7, 9, 12, 13] rfl ?_
      simp only [AOps, guardP]
      refine opw_buildX rfl rfl rfl rfl rfl (by decide) (by decide) (by simp [fits]) ?_
      simp [setAll, AS.push]
      refine pv_sound ?_
      simp
      refine pv_sound ?_
      simp
      refine opw_append0 rfl rfl rfl rfl rfl rfl rfl (show eWgs k.weighs = .lit 6 [] by rw [hwz]; rfl) ?_
      simp
      refine pv_sound ?_
      simp
      refine pv_sound ?_
      simp
      refine pv_sound ?_
      simp
      refine pv_sound ?_
      simp
      refine pv_sound ?_
      simp
      refine pv_sound ?_
      simp
      refine pv_sound ?_
      simp
      refine pv_sound ?_
      simp
      refine opw_appendA (ys := [eWg (loneW x.id m z z)]) rfl rfl rfl rfl rfl rfl rfl (by decide) rfl rfl rfl (by simp) rfl (by simp) ?_
      simp
      refine pv_sound ?_
      simp
      refine pv_sound ?_
      simp [eKn_ownB]
      refine awp_eqB (s' := ⟨[(3, .ref false 0 0 [] 0), (7, I i), (9, .ref false 1 0 [] 0), (12, I z), (13, .ref false 2 0 [] 0)], [.cell (eKn k), .cell (.agg [I S.1.lo, I S.1.hi]), .cell (AV.agg [I k.room, I k.per, eLds k.loads, eLds k.draws, .own false 5 (k.weighs.length + 1)]), .xrow 6 [], .row 6 [eWg (loneW x.id m z z)], .row 6 (k.weighs.map eWg ++ [eWg (loneW x.id m z z)])], []⟩) (by simp [hwz, eWg, eSp, loneW]) ?_
      refine sq ?_
      refine at_regA [3, 7, 9, 12, 13, 14, 15] rfl ?_
      simp only [AOps, guardP]
      refine pv_sound ?_
      simp
      refine lendOK (q := 5) (k := k) (w := loneW x.id m z z) rfl rfl rfl rfl rfl rfl hkm e1 ?_
      simp [eTrR, rTr, ← hF]
      refine pv_sound ?_
      simp
      refine pv_sound ?_
      simp
      refine pv_sound ?_
      simp
      refine pv_sound ?_
      simp
      refine pv_sound ?_
      simp
      refine pv_sound ?_
      simp
      refine sq ?_
      refine sq ?_
      refine at_regK [3, 9, 13, 111] rfl ?_
      try simp [or_imp, forall_and, wa, ww, hi, il, hx, ← hS, hln, eLd, hu, wd, wd1, wz, wu, dn, ← hz, eSp, ← hF, e2, e3, il2, wh1, wl1, hwn, lone_upd]
      refine at_cond rfl rfl (fun hb111 => by simp at hb111) (fun hb111 => ?_)
      refine at_skip (by kernel_rfl) ?_
      try simp [or_imp, forall_and, wa, ww, hi, il, hx, ← hS, hln, eLd, hu, wd, wd1, wz, wu, dn, ← hz, eSp, ← hF, e2, e3, il2, wh1, wl1, hwn, lone_upd]
      refine sq ?_
      refine at_regK [3, 9, 13] rfl ?_
      try simp [or_imp, forall_and, wa, ww, hi, il, hx, ← hS, hln, eLd, hu, wd, wd1, wz, wu, dn, ← hz, eSp, ← hF, e2, e3, il2, wh1, wl1, hwn, lone_upd]
      refine sq ?_
      refine at_regA [3, 9, 13, 17] rfl ?_
      simp only [AOps, guardP]
      refine pv_sound ?_
      simp
      refine lendErr (q := 5) (k := k) (w := loneW x.id m (S.1.hi + 1) (S.1.hi + 1)) rfl rfl rfl rfl rfl rfl hkm1 o1 ?_
      simp
      refine pv_sound ?_
      simp
      refine pv_sound ?_
      simp
      refine pv_sound ?_
      simp
      refine pv_sound ?_
      simp
      refine pv_sound ?_
      simp
      refine pv_sound ?_
      simp
      refine sq ?_
      refine sq ?_
      refine at_regK [3, 9, 13, 17, 133] rfl ?_
      try simp [or_imp, forall_and, eSp, hi, il, hx, ← hS, hln, eLd, hu, wd, wd1, wz, wu, dn, ← hz, eSp, ← hF, e2, e3, il2, wh1, wl1, hwn, lone_upd]
      refine at_cond rfl rfl (fun hb133 => ?_) (fun hb133 => ?_)
      ·
       try simp at hb133
       refine sq ?_
       refine at_regK [6] rfl ?_
       try simp [or_imp, forall_and, wa, ww, hi, il, hx, ← hS, hln, eLd, hu, wd, wd1, wz, wu, dn, ← hz, eSp, ← hF, e2, e3, il2, wh1, wl1, hwn, lone_upd]
       refine c17.use hH ?_
       try simp [or_imp, forall_and, wa, ww, hi, il, hx, ← hS, hln, eLd, hu, wd, wd1, wz, wu, dn, ← hz, eSp, ← hF, e2, e3, il2, wh1, wl1, hwn, lone_upd]
       refine at_ret (by kernel_rfl) ?_
       try simp [or_imp, forall_and, wa, ww, hi, il, hx, ← hS, hln, eLd, hu, wd, wd1, wz, wu, dn, ← hz, eSp, ← hF, e2, e3, il2, wh1, wl1, hwn, lone_upd]
      ·
       try simp at hb133
       have o2 := lone_out hc (by omega) hx T (lo := 0) (hi := S.1.lo - 1) (by omega) (by omega) (by omega) (.inr (by omega)) m0 hml hb59
       refine at_skip (by kernel_rfl) ?_
       try simp [or_imp, forall_and, wa, ww, hi, il, hx, ← hS, hln, eLd, hu, wd, wd1, wz, wu, dn, ← hz, eSp, ← hF, e2, e3, il2, wh1, wl1, hwn, lone_upd]
       refine sq ?_
       refine at_regK [13, 17] rfl ?_
       try simp [or_imp, forall_and, wa, ww, hi, il, hx, ← hS, hln, eLd, hu, wd, wd1, wz, wu, dn, ← hz, eSp, ← hF, e2, e3, il2, wh1, wl1, hwn, lone_upd]
       refine sq ?_
       refine at_regA [17, 19] rfl ?_
       simp only [AOps, guardP]
       refine pv_sound ?_
       simp
       refine lendErr (q := 5) (k := k) (w := loneW x.id m 0 (S.1.lo - 1)) rfl rfl rfl rfl rfl rfl hkm2 o2 ?_
       simp
       refine pv_sound ?_
       simp
       refine pv_sound ?_
       simp
       refine pv_sound ?_
       simp
       refine pv_sound ?_
       simp
       refine pv_sound ?_
       simp
       refine pv_sound ?_
       simp
       refine sq ?_
       refine at_regK [6] rfl ?_
       try simp [or_imp, forall_and, wa, ww, hi, il, hx, ← hS, hln, eLd, hu, wd, wd1, wz, wu, dn, ← hz, eSp, ← hF, e2, e3, il2, wh1, wl1, hwn, lone_upd]
       refine c17.use hH ?_
       try simp [or_imp, forall_and, wa, ww, hi, il, hx, ← hS, hln, eLd, hu, wd, wd1, wz, wu, dn, ← hz, eSp, ← hF, e2, e3, il2, wh1, wl1, hwn, lone_upd]
       refine at_ret (by kernel_rfl) ?_
       try simp [or_imp, forall_and, wa, ww, hi, il, hx, ← hS, hln, eLd, hu, wd, wd1, wz, wu, dn, ← hz, eSp, ← hF, e2, e3, il2, wh1, wl1, hwn, lone_upd]

theorem c4 (k : Kn) (a w : Int) (a0 : 0 ≤ a) (a1 : a ≤ 255) (w0 : 0 ≤ w) (w1 : w ≤ 4294967295) (n : Nat) : ACall E 4 [eKn k, .int .u8 a, .int .u32 w] n [] (Is (.bool true) [] []) := by
 by_cases h : k.weighs = []
 ·exact c4e k h a w a0 a1 w0 w1 n
 ·exact c4n k h a w a0 a1 w0 w1 n
end Go.Abs
