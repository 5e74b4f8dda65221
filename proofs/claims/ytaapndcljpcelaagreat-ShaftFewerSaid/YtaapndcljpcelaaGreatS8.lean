/- What this law alone rests on. -/
import Derived.Test.YtaapndcljpcelaaGreatK5
/- What a draw takes: least and most. -/
set_option linter.unusedVariables false
set_option linter.unusedSimpArgs false
namespace Go.Shaft
theorem great_congr {is is' : Int → Bool} : ∀ (f : Nat) (lo hi : Int), 0 ≤ lo → (∀ x, lo ≤ x → x ≤ hi → is x = is' x) → greatM is f lo hi = greatM is' f lo hi
  | 0, lo, hi, _, _ => rfl
  | f + 1, lo, hi, h0, h => by
    rw [greatM, greatM]
    by_cases hl : lo ≤ hi
    · rw [if_pos hl, if_pos hl]
      have hm := mid_in h0 hl
      rw [← h _ hm.1 hm.2]
      split
      · exact great_congr f _ _ (by omega) (fun x x0 x1 => h x (by omega) x1)
      · exact great_congr f _ _ h0 (fun x x0 x1 => h x x0 (by omega))
    · rw [if_neg hl, if_neg hl]
/-- It can be so much. -/
def canR (k : Kn) (o : Ov) (z : Int) : Bool := if z < 1 then true else if z ≤ 1048576 then canM k o z else false
theorem can_iff {k : Kn} (r : Right k) {o : Ov} (h : OvIn k o) {z : Int} (z0 : 0 ≤ z) (z1 : z ≤ 1048576) : canM k o z = true ↔ ∃ H, Feas (netM k (moreM o z)) H := by
  have N : Net k (moreM o z) := ⟨more_wf r h z0 z1⟩
  have n0 : (0 : Int) < marksM k := by have := N.wf.n0; rw [netn] at this; exact this
  exact N.fin_iff (a := 0) (by omega) n0
theorem feas_z {k : Kn} {o : Ov} {H : Int → Int} {z : Int} : Feas (netM k (moreM o z)) H ↔ Feas (netM k []) H ∧ ∀ p ∈ pairsL o, z ≤ H p.2 - H p.1 := by
  constructor
  · intro f
    refine ⟨fun t ht => f t ?_, fun p hp => ?_⟩
    · rw [links0] at ht
      exact List.mem_append_left _ ht
    · have := f ⟨p.2, p.1, -z, 0⟩ (List.mem_append_right _ (List.mem_map.2 ⟨p, hp, rfl⟩))
      simp only at this
      omega
  · rintro ⟨f, g⟩ t ht
    rcases List.mem_append.1 ht with ht | ht
    · exact f t (by rw [links0]; exact ht)
    · obtain ⟨p, hp, rfl⟩ := List.mem_map.1 ht
      have := g p hp
      simp only
      omega
theorem can_mono {k : Kn} (r : Right k) {o : Ov} (h : OvIn k o) : ∀ x y : Int, x ≤ y → canR k o y = true → canR k o x = true := by
  intro x y hxy hy
  unfold canR at hy ⊢
  by_cases h1 : x < 1
  · rw [if_pos h1]
  · rw [if_neg h1]
    rw [if_neg (by omega)] at hy
    by_cases h2 : y ≤ 1048576
    · rw [if_pos h2] at hy
      rw [if_pos (by omega)]
      obtain ⟨H, f⟩ := (can_iff r h (by omega) h2).1 hy
      obtain ⟨f1, f2⟩ := feas_z.1 f
      exact (can_iff r h (by omega) (by omega)).2 ⟨H, feas_z.2 ⟨f1, fun p hp => by have := f2 p hp; omega⟩⟩
    · rw [if_neg h2] at hy
      cases hy
theorem most_spec {k : Kn} (r : Right k) {o : Ov} (h : OvIn k o) {z : Int} (z1 : 1 ≤ z) (z2 : z ≤ 1048576) : (∃ H, Feas (netM k (moreM o z)) H) ↔ z ≤ mostN k o := by
  have e : mostN k o = greatM (canR k o) 1048577 1 1048576 := by
    unfold mostN
    exact great_congr _ _ _ (by omega) (fun x x0 x1 => by rw [canR, if_neg (by omega), if_pos x1])
  rw [e, ← great_spec (canR k o) (can_mono r h) 1048577 1 1048576 (by omega) (by omega) (by omega) z z1 z2, ← can_iff r h (by omega) z2, canR, if_neg (by omega), if_pos z2]
theorem least_fold {k : Kn} : ∀ (l : List (Int × Int)) (q : Int × Tr), ∃ r, l.foldl (stepL k) (some q) = some r ∧ r.1 ≤ q.1 ∧ (∀ p ∈ l, r.1 ≤ loOf k p) ∧ (r.1 = q.1 ∨ ∃ p ∈ l, r.1 = loOf k p)
  | [], q => ⟨q, rfl, Int.le_refl _, by simp, .inl rfl⟩
  | p :: l, q => by
    rw [List.foldl_cons]
    by_cases h : loOf k p < q.1
    · have e : stepL k (some q) p = some (loOf k p, weightsM k (settleM (netM k []) p.2).1) := if_pos h
      rw [e]
      obtain ⟨r, e1, h1, h2, h3⟩ := least_fold l (loOf k p, weightsM k (settleM (netM k []) p.2).1)
      refine ⟨r, e1, by simp only at h1; omega, ?_, ?_⟩
      · intro x hx
        rcases List.mem_cons.1 hx with rfl | hx
        · exact h1
        · exact h2 x hx
      · rcases h3 with h3 | ⟨x, hx, h3⟩
        · exact .inr ⟨p, List.mem_cons_self, h3⟩
        · exact .inr ⟨x, List.mem_cons_of_mem _ hx, h3⟩
    · have e : stepL k (some q) p = some q := if_neg h
      rw [e]
      obtain ⟨r, e1, h1, h2, h3⟩ := least_fold l q
      refine ⟨r, e1, h1, ?_, ?_⟩
      · intro x hx
        rcases List.mem_cons.1 hx with rfl | hx
        · omega
        · exact h2 x hx
      · rcases h3 with h3 | ⟨x, hx, h3⟩
        · exact .inl h3
        · exact .inr ⟨x, List.mem_cons_of_mem _ hx, h3⟩
theorem least_spec (k : Kn) (o : Ov) : (∀ p ∈ pairsL o, (leastM k o).1 ≤ loOf k p) ∧ ∃ p ∈ pairsL o, (leastM k o).1 = loOf k p := by
  unfold leastM
  rw [pairsL, List.foldl_cons]
  have e : stepL k none (o.a, o.b) = some (loOf k (o.a, o.b), weightsM k (settleM (netM k []) (o.a, o.b).2).1) := rfl
  rw [e]
  obtain ⟨r, e1, h1, h2, h3⟩ := least_fold (k := k) [(o.c, o.b), (o.a, o.d), (o.c, o.d)] (loOf k (o.a, o.b), weightsM k (settleM (netM k []) (o.a, o.b).2).1)
  rw [e1]
  refine ⟨?_, ?_⟩
  · intro p hp
    rcases List.mem_cons.1 hp with rfl | hp
    · exact h1
    · exact h2 p hp
  · rcases h3 with h3 | ⟨p, hp, h3⟩
    · exact ⟨_, List.mem_cons_self, h3⟩
    · exact ⟨p, List.mem_cons_of_mem _ hp, h3⟩
end Go.Shaft
/- What is told of what a draw takes holds of true weights. -/
set_option linter.unusedVariables false
set_option linter.unusedSimpArgs false
namespace Go.Shaft
def ovOf (k : Kn) (j i : Int) : Ov := ⟨i, i + 1, drawnM k j, drawnM k (j + 1)⟩
theorem takes_at {k : Kn} (hc : check k = 0) (hF : fin? (netM k []) 0 = true) {i j : Nat} {x y : Ld} (hx : k.loads[i]? = some x) (hy : k.draws[j]? = some y) : takesM k y.id x.id = (ovOf k j i, 0) := by
  have o := order_of_check hc
  have h1 := find_id (nodup_l o) hx
  have h2 := find_id (nodup_d o) hy
  unfold takesM
  rw [if_neg (by simp [hc]), h1, h2, if_neg (by omega), if_neg (by rw [above_eq]; simp [hF])]
  rfl
theorem taken_eq {k : Kn} {t : Tr} (ht : TrOk k t) {j i : Nat} (hj : j < k.draws.length) (hi : i < k.loads.length) : takenM k t j i = mxI 0 (mnI (hgtM k t ((i : Int) + 1)) (hgtM k t (drawnM k ((j : Int) + 1))) - mxI (hgtM k t i) (hgtM k t (drawnM k j))) := by
  have e1 : drawnM k ((j : Int) + 1) = k.loads.length + (j : Int) + 1 := by
    unfold drawnM
    rw [if_neg (by omega)]
    omega
  have e2 : hgtM k t (drawnM k j) = if 0 < (j : Int) then hgtM k t (k.loads.length + (j : Int)) else 0 := by
    unfold drawnM
    by_cases h : (j : Int) = 0
    · rw [if_pos h, if_neg (by omega), hgtM, if_pos (by omega)]
      simp
    · rw [if_neg h, if_pos (by omega)]
  rw [takenM, e1, e2]
theorem ov_in {k : Kn} {j i : Nat} (hj : j < k.draws.length) (hi : i < k.loads.length) : OvIn k (ovOf k j i) := by
  have hm : (marksM k : Int) = 1 + k.loads.length + k.draws.length := by simp [marksM]
  have d1 := drawn_in (k := k) (a := (j : Int)) (by omega) (by omega)
  have d2 := drawn_in (k := k) (a := (j : Int) + 1) (by omega) (by omega)
  refine ⟨?_, ?_, ?_, ?_, ?_, ?_, ?_, ?_⟩ <;> simp only [ovOf] <;> omega
/-- What a draw takes lies within what is told. -/
theorem took_in {k : Kn} (hc : check k = 0) {t : Tr} (ht : TrOk k t) (f : Feas (netM k []) (gt (raisedM k t))) {i j : Nat} {x y : Ld} (hx : k.loads[i]? = some x) (hy : k.draws[j]? = some y) : (tookM k y.id x.id).2 = 0 ∧ inS (takenM k t j i) (tookM k y.id x.id).1 = true := by
  have N := Net.base hc
  have r := right_of_check hc
  have n0 : (0 : Int) < marksM k := by have := N.wf.n0; rw [netn] at this; exact this
  have hF := N.fin_of (a := 0) (by omega) n0 f
  have hil := (List.getElem?_eq_some_iff.1 hx).1
  have hjl := (List.getElem?_eq_some_iff.1 hy).1
  have hin := ov_in (k := k) hjl hil
  have hH : ∀ v : Int, 0 ≤ v → v < marksM k → gt (raisedM k t) v = hgtM k t v := fun v v0 v1 => hgt_rai r t v0 v1
  have e : tookM k y.id x.id = (⟨(leastM k (ovOf k j i)).1, (mostM k (ovOf k j i)).1⟩, 0) := by
    unfold tookM
    rw [takes_at hc hF hx hy]
    rw [if_neg (by simp)]
  have hT := taken_eq ht hjl hil
  have ga : gt (raisedM k t) (ovOf k j i).a = hgtM k t i := hH _ hin.a0 hin.a1
  have gb : gt (raisedM k t) (ovOf k j i).b = hgtM k t ((i : Int) + 1) := hH _ hin.b0 hin.b1
  have gc : gt (raisedM k t) (ovOf k j i).c = hgtM k t (drawnM k j) := hH _ hin.c0 hin.c1
  have gd : gt (raisedM k t) (ovOf k j i).d = hgtM k t (drawnM k ((j : Int) + 1)) := hH _ hin.d0 hin.d1
  have hlo : ∀ p ∈ pairsL (ovOf k j i), loOf k p ≤ mxI 0 (gt (raisedM k t) p.2 - gt (raisedM k t) p.1) := by
    intro p hp
    obtain ⟨q0, q1, q2, q3⟩ := pairs_in hin p hp
    have h1 := N.le q2 q3 q0 q1 f
    have h2 : loOf k p = mxI 0 (-dst (netM k []) p.2 p.1) := rfl
    rw [h2]
    unfold mxI
    split <;> split <;> omega
  obtain ⟨hl, _⟩ := least_spec k (ovOf k j i)
  have mem : ∀ p, p ∈ pairsL (ovOf k j i) ↔ p = ((ovOf k j i).a, (ovOf k j i).b) ∨ p = ((ovOf k j i).c, (ovOf k j i).b) ∨ p = ((ovOf k j i).a, (ovOf k j i).d) ∨ p = ((ovOf k j i).c, (ovOf k j i).d) := by
    intro p
    simp [pairsL]
  have l1 := Int.le_trans (hl _ ((mem _).2 (.inl rfl))) (hlo _ ((mem _).2 (.inl rfl)))
  have l2 := Int.le_trans (hl _ ((mem _).2 (.inr (.inl rfl)))) (hlo _ ((mem _).2 (.inr (.inl rfl))))
  have l3 := Int.le_trans (hl _ ((mem _).2 (.inr (.inr (.inl rfl))))) (hlo _ ((mem _).2 (.inr (.inr (.inl rfl)))))
  have l4 := Int.le_trans (hl _ ((mem _).2 (.inr (.inr (.inr rfl))))) (hlo _ ((mem _).2 (.inr (.inr (.inr rfl)))))
  simp only [ga, gb, gc, gd] at l1 l2 l3 l4
  have hw := load_in f hx
  have hr := r.l x (List.mem_of_getElem? hx)
  have ha := hH i (by omega) (by have := hin.a1; exact this)
  have hb := hH ((i : Int) + 1) (by omega) (by have := hin.b1; exact this)
  rw [ha, hb] at hw
  have hmost : takenM k t j i ≤ (mostM k (ovOf k j i)).1 := by
    have hmm : (mostM k (ovOf k j i)).1 = mostN k (ovOf k j i) ∨ (mostM k (ovOf k j i)).1 = 0 ∧ mostN k (ovOf k j i) < 1 := by
      unfold mostM
      split
      · rename_i h; exact .inr ⟨rfl, h⟩
      · exact .inl rfl
    have hn := mostN_in k (ovOf k j i)
    by_cases hz : 1 ≤ takenM k t j i
    · have h1 : ∀ p ∈ pairsL (ovOf k j i), takenM k t j i ≤ gt (raisedM k t) p.2 - gt (raisedM k t) p.1 := by
        intro p hp
        rcases (mem p).1 hp with rfl | rfl | rfl | rfl <;> simp only [ga, gb, gc, gd] <;> rw [hT] at hz ⊢ <;> unfold mxI mnI at hz ⊢ <;> (repeat' split at hz) <;> (repeat' split) <;> omega
      have h2 : takenM k t j i ≤ 1048576 := by
        have := h1 _ ((mem _).2 (.inl rfl))
        simp only [ga, gb] at this
        omega
      have := (most_spec r hin hz h2).1 ⟨_, feas_z.2 ⟨f, h1⟩⟩
      omega
    · omega
  rw [e]
  refine ⟨rfl, ?_⟩
  simp only [inS, decide_eq_true_eq]
  refine ⟨?_, hmost⟩
  rw [hT]
  unfold mxI mnI at *
  (repeat' split at l1) <;> (repeat' split at l2) <;> (repeat' split at l3) <;> (repeat' split at l4) <;> (repeat' split) <;> omega
end Go.Shaft
/- True weights: hours, feet, and what is taken together. -/
set_option linter.unusedVariables false
set_option linter.unusedSimpArgs false
namespace Go.Shaft
end Go.Shaft
/- What a draw takes of all loads together; those between two sure ones. -/
set_option linter.unusedVariables false
set_option linter.unusedSimpArgs false
namespace Go.Shaft
theorem most_fst (k : Kn) (o : Ov) : (mostM k o).1 = mostN k o := by
  have := mostN_in k o
  unfold mostM
  split
  · simp only; omega
  · rfl
end Go.Shaft
/- The specification's table tells what settling tells; its models. -/
set_option linter.unusedVariables false
set_option linter.unusedSimpArgs false
namespace Go.Shaft
/-- The table of ties between a kiln's marks. -/
def tb (k : Kn) (l : List Tie) : Tb := tabT (marksM k) l
def tokB (k : Kn) (l : List Tie) : Bool := okT (marksM k) (tb k l)
theorem tab_ok {k : Kn} {more : List Tie} (N : Net k more) {a : Int} (a0 : 0 ≤ a) (a1 : a < marksM k) : tokB k (tiesM k ++ more) = fin? (netM k more) a := by
  have w := N.wf
  have hn : (netM k more).n.toNat = marksM k := by simp [netM]
  cases h : fin? (netM k more) a with
  | true =>
    have := ((N.settled a0 a1 h).tab w a0 (by rw [netn]; exact a1) (Net.conn a0 a1)).1
    rw [hn] at this
    exact this
  | false =>
    rcases settle_cases w a0 (by rw [netn]; exact a1) with ⟨h', b, e, s⟩ | ⟨h', b, v, e, g, tm, v0, v1, hk⟩
    · rw [fin?, e] at h
      cases h
    · obtain ⟨u, u0, u1, hp, hs, _⟩ := circle_spec w g tm v0 v1 hk
      have := tab_clash w hp u0 u1 hs
      rw [hn] at this
      exact this
theorem tab_at {k : Kn} {more : List Tie} (N : Net k more) {a v : Int} (a0 : 0 ≤ a) (a1 : a < marksM k) (v0 : 0 ≤ v) (v1 : v < marksM k) (h : fin? (netM k more) a = true) : g2 (tb k (tiesM k ++ more)) a.toNat v.toNat = dst (netM k more) a v := by
  have hn : (netM k more).n.toNat = marksM k := by simp [netM]
  have := ((N.settled a0 a1 h).tab N.wf a0 (by rw [netn]; exact a1) (Net.conn a0 a1)).2 v v0 (by rw [netn]; exact v1)
  rw [hn] at this
  exact this
theorem tok_b {k : Kn} (hc : check k = 0) : tokB k (tiesM k) = fin? (netM k []) 0 := by
  have N := Net.base hc
  have n0 : (0 : Int) < marksM k := by have := N.wf.n0; rw [netn] at this; exact this
  have := tab_ok N (a := 0) (by omega) n0
  rw [List.append_nil] at this
  exact this
def mostR (k : Kn) (a b : Int) : Int × Int :=
  if markedM k [a, b] ≠ 0 then (0, markedM k [a, b]) else if tokB k (tiesM k) then (g2 (tb k (tiesM k)) a.toNat b.toNat, 0) else (0, 9)
theorem most_eq (k : Kn) (a b : Int) : (mostR k a b).2 = (aboveC k a b).2 ∧ (mostR k a b).1 = (aboveC k a b).1.most := by
  unfold mostR aboveC
  by_cases hm : markedM k [a, b] = 0
  · obtain ⟨hc, hin⟩ := marked_ok hm
    obtain ⟨a0, a1⟩ := hin a (by simp)
    obtain ⟨b0, b1⟩ := hin b (by simp)
    have N := Net.base hc
    have h1 := tab_ok N a0 a1
    rw [List.append_nil] at h1
    simp only [hm, ne_eq, not_true_eq_false, if_false, h1]
    unfold fin?
    cases hF : (settleM (netM k []) a).2.2 with
    | some c => exact ⟨rfl, rfl⟩
    | none =>
      have hF' : fin? (netM k []) a = true := by rw [fin?, hF]; rfl
      have g1 := tab_at N a0 a1 b0 b1 hF'
      rw [List.append_nil] at g1
      refine ⟨rfl, ?_⟩
      simp only [Option.isNone_none, if_true]
      rw [g1]
      rfl
  · refine ⟨?_, ?_⟩
    · simp only [hm, ne_eq, not_false_eq_true, if_true]
    · simp only [hm, ne_eq, not_false_eq_true, if_true]; rfl
end Go.Shaft
/- The specification's heights, and which tie is not kept. -/
set_option linter.unusedVariables false
set_option linter.unusedSimpArgs false
namespace Go.Shaft
/-- Heights of so many loads. -/
def hL (l : List Int) (i : Nat) : List Int := (List.range (i + 1)).map (pfx l)
/-- Heights of so many draws. -/
def hD (d : List Int) (j : Nat) : List Int := (List.range j).map fun i => pfx d (i + 1)
def htsT (t : Tr) : List Int := hL t.loads t.loads.length ++ hD t.draws t.draws.length
@[simp] theorem hL_len (l : List Int) (i : Nat) : (hL l i).length = i + 1 := by simp [hL]
@[simp] theorem hD_len (l : List Int) (i : Nat) : (hD l i).length = i := by simp [hD]
theorem hL_zero (l : List Int) : hL l 0 = [0] := by simp [hL]
theorem hL_succ (l : List Int) (i : Nat) : hL l (i + 1) = hL l i ++ [pfx l (i + 1)] := by rw [hL, List.range_succ, List.map_append]; rfl
theorem hD_zero (l : List Int) : hD l 0 = [] := by simp [hD]
theorem hD_succ (l : List Int) (i : Nat) : hD l (i + 1) = hD l i ++ [pfx l (i + 1)] := by rw [hD, List.range_succ, List.map_append]; rfl
theorem htsT_len (t : Tr) : (htsT t).length = t.loads.length + 1 + t.draws.length := by simp [htsT]
theorem htsT_at {k : Kn} {t : Tr} (ht : TrOk k t) {v : Int} (v0 : 0 ≤ v) (v1 : v < marksM k) : (htsT t)[v.toNat]? = some (hgtM k t v) := by
  have hm : (marksM k : Int) = 1 + k.loads.length + k.draws.length := by simp [marksM]
  have h1 := ht.ll; have h2 := ht.dl
  unfold htsT hgtM
  by_cases e : v ≤ k.loads.length
  · rw [if_pos e, List.getElem?_append_left (by simp; omega), hL, List.getElem?_map, List.getElem?_range (by omega)]
    rfl
  · rw [if_neg e, List.getElem?_append_right (by simp; omega), hL_len, hD, List.getElem?_map, List.getElem?_range (by omega)]
    simp only [Option.map_some, Option.some.injEq]
    congr 1
    omega
theorem gt_hts {k : Kn} {t : Tr} (ht : TrOk k t) {v : Int} (v0 : 0 ≤ v) (v1 : v < marksM k) : gt (htsT t) v = hgtM k t v := by
  rw [gt, List.getD_eq_getElem?_getD, htsT_at ht v0 v1]
  rfl
theorem htsT_b {k : Kn} {t : Tr} (ht : TrOk k t) (h1 : t.loads.length ≤ 60) (h2 : t.draws.length ≤ 60) : ∀ x ∈ htsT t, 0 ≤ x ∧ x ≤ 1100000000 := by
  intro x hx
  simp only [htsT, hL, hD, List.mem_append, List.mem_map, List.mem_range] at hx
  rcases hx with ⟨i, hi, rfl⟩ | ⟨i, hi, rfl⟩
  · have := pfx_bound ht.l i; omega
  · have := pfx_bound ht.d (i + 1); omega
theorem idxP_congr {α : Type} {l : List α} {p q : α → Bool} (h : ∀ x ∈ l, p x = q x) : idxP l p = idxP l q := by
  have key : l.findIdx? p = l.findIdx? q := by
    induction l with
    | nil => rfl
    | cons x l ih =>
      rw [List.findIdx?_cons, List.findIdx?_cons, h x List.mem_cons_self, ih (fun y hy => h y (List.mem_cons_of_mem _ hy))]
  unfold idxP
  rw [key]
/-- The first tie that is not kept. -/
def keptR (l : List Tie) (h : List Int) : Int × Bool := if 0 ≤ idxP l (offP h) then (idxP l (offP h), false) else (0, true)
theorem kept_eq {k : Kn} (r : Right k) {t : Tr} (ht : TrOk k t) : keptR (tiesM k) (htsT t) = (if 0 ≤ breaksM k (raisedM k t) then (breaksM k (raisedM k t), false) else (0, true)) := by
  have : idxP (tiesM k) (offP (htsT t)) = breaksM k (raisedM k t) := by
    refine idxP_congr fun x hx => ?_
    obtain ⟨f0, f1, t0, t1, _⟩ := ties_in r x hx
    unfold offP
    rw [gt_hts ht f0 f1, gt_hts ht t0 t1, hgt_rai r t f0 f1, hgt_rai r t t0 t1]
  unfold keptR
  rw [this]
end Go.Shaft
/- The specification's table tells what settling tells: what a draw takes. -/
set_option linter.unusedVariables false
set_option linter.unusedSimpArgs false
namespace Go.Shaft
/-- A draw takes at least so much: the specification's ties. -/
theorem atLeast_eq (k : Kn) (j i z : Int) : tiesM k ++ moreM (ovOf k j i) z = tiesM k ++ [⟨i + 1, i, -z, 0⟩, ⟨i + 1, drawnM k j, -z, 0⟩, ⟨drawnM k (j + 1), i, -z, 0⟩, ⟨drawnM k (j + 1), drawnM k j, -z, 0⟩] := rfl
/-- The specification's search. -/
def searchR (is : Int → Bool) : Nat → Int → Int → Int
  | 0, lo, _ => lo
  | f + 1, lo, hi => if lo < hi then (if is ((lo + hi + 1).tdiv 2) then searchR is f ((lo + hi + 1).tdiv 2) hi else searchR is f lo ((lo + hi + 1).tdiv 2 - 1)) else lo
theorem mid2 {lo hi : Int} (h0 : 0 ≤ lo) (h : lo < hi) : lo < (lo + hi + 1).tdiv 2 ∧ (lo + hi + 1).tdiv 2 ≤ hi := by
  rw [Int.tdiv_eq_ediv_of_nonneg (by omega)]
  omega
theorem search_in (is : Int → Bool) : ∀ (f : Nat) (lo hi : Int), 0 ≤ lo → lo ≤ hi → lo ≤ searchR is f lo hi ∧ searchR is f lo hi ≤ hi
  | 0, lo, hi, h0, h => by simp only [searchR]; omega
  | f + 1, lo, hi, h0, h => by
    rw [searchR]
    split
    · rename_i hl
      have := mid2 h0 hl
      split
      · have := search_in is f ((lo + hi + 1).tdiv 2) hi (by omega) (by omega)
        omega
      · have := search_in is f lo ((lo + hi + 1).tdiv 2 - 1) h0 (by omega)
        omega
    · omega
theorem search_spec (is : Int → Bool) (hmono : ∀ x y : Int, x ≤ y → is y = true → is x = true) : ∀ (f : Nat) (lo hi : Int), 0 ≤ lo → lo ≤ hi → hi - lo ≤ f → ∀ x, lo < x → x ≤ hi → (is x = true ↔ x ≤ searchR is f lo hi)
  | 0, lo, hi, h0, h, hf, x, x0, x1 => by omega
  | f + 1, lo, hi, h0, h, hf, x, x0, x1 => by
    rw [searchR, if_pos (by omega)]
    have hm := mid2 h0 (show lo < hi by omega)
    split
    · rename_i his
      have hg := search_in is f ((lo + hi + 1).tdiv 2) hi (by omega) (by omega)
      rcases Int.lt_or_le ((lo + hi + 1).tdiv 2) x with h1 | h1
      · exact search_spec is hmono f _ _ (by omega) (by omega) (by omega) x h1 x1
      · exact ⟨fun _ => by omega, fun _ => hmono x _ h1 his⟩
    · rename_i his
      have hg := search_in is f lo ((lo + hi + 1).tdiv 2 - 1) h0 (by omega)
      rcases Int.lt_or_le x ((lo + hi + 1).tdiv 2) with h1 | h1
      · exact search_spec is hmono f _ _ h0 (by omega) (by omega) x x0 (by omega)
      · refine ⟨fun hx => (his (hmono _ _ h1 hx)).elim, fun hx => by omega⟩
theorem search_congr {is is' : Int → Bool} : ∀ (f : Nat) (lo hi : Int), 0 ≤ lo → (∀ x, lo < x → x ≤ hi → is x = is' x) → searchR is f lo hi = searchR is' f lo hi
  | 0, lo, hi, _, _ => rfl
  | f + 1, lo, hi, h0, h => by
    rw [searchR, searchR]
    by_cases hl : lo < hi
    · rw [if_pos hl, if_pos hl]
      have hm := mid2 h0 hl
      rw [← h _ hm.1 hm.2]
      split
      · exact search_congr f _ _ (by omega) (fun x x0 x1 => h x (by omega) x1)
      · exact search_congr f _ _ h0 (fun x x0 x1 => h x x0 (by omega))
    · rw [if_neg hl, if_neg hl]
theorem mn_spec (a b : Int) : mnI a b ≤ a ∧ mnI a b ≤ b ∧ (mnI a b = a ∨ mnI a b = b) := by
  unfold mnI
  split <;> omega
theorem mx_mono {a b : Int} (h : a ≤ b) : mxI 0 a ≤ mxI 0 b := by
  unfold mxI
  split <;> split <;> omega
theorem min4 {w x1 x2 x3 x4 : Int} (q1 : w ≤ mxI 0 x1) (q2 : w ≤ mxI 0 x2) (q3 : w ≤ mxI 0 x3) (q4 : w ≤ mxI 0 x4) (h : w = mxI 0 x1 ∨ w = mxI 0 x2 ∨ w = mxI 0 x3 ∨ w = mxI 0 x4) : mxI 0 (mnI (mnI x1 x2) (mnI x3 x4)) = w := by
  obtain ⟨a1, a2, a3⟩ := mn_spec x1 x2
  obtain ⟨b1, b2, b3⟩ := mn_spec x3 x4
  obtain ⟨c1, c2, c3⟩ := mn_spec (mnI x1 x2) (mnI x3 x4)
  generalize mnI x1 x2 = u at *
  generalize mnI x3 x4 = v at *
  generalize mnI u v = m at *
  have h1 := mx_mono (show m ≤ x1 by omega)
  have h2 := mx_mono (show m ≤ x2 by omega)
  have h3 := mx_mono (show m ≤ x3 by omega)
  have h4 := mx_mono (show m ≤ x4 by omega)
  have h5 : w ≤ mxI 0 m := by
    have : m = x1 ∨ m = x2 ∨ m = x3 ∨ m = x4 := by omega
    rcases this with e | e | e | e <;> rw [e] <;> assumption
  omega
def canT (k : Kn) (o : Ov) (z : Int) : Bool := tokB k (tiesM k ++ moreM o z)
/-- What the specification tells of a draw and a load, by their places. -/
def shareR (k : Kn) (j i : Int) : Sp :=
  ⟨mxI 0 (mnI (mnI (0 - g2 (tb k (tiesM k)) (i + 1).toNat i.toNat) (0 - g2 (tb k (tiesM k)) (i + 1).toNat (drawnM k j).toNat)) (mnI (0 - g2 (tb k (tiesM k)) (drawnM k (j + 1)).toNat i.toNat) (0 - g2 (tb k (tiesM k)) (drawnM k (j + 1)).toNat (drawnM k j).toNat))),
   searchR (canT k (ovOf k j i)) 1048576 0 1048576⟩
theorem search_most {k : Kn} (r : Right k) {o : Ov} (h : OvIn k o) : searchR (canT k o) 1048576 0 1048576 = mostN k o := by
  have hT : ∀ z : Int, 0 ≤ z → z ≤ 1048576 → canT k o z = canM k o z := by
    intro z z0 z1
    have N : Net k (moreM o z) := ⟨more_wf r h z0 z1⟩
    have n0 : (0 : Int) < marksM k := by have := N.wf.n0; rw [netn] at this; exact this
    exact tab_ok N (a := 0) (by omega) n0
  have e : searchR (canT k o) 1048576 0 1048576 = searchR (canR k o) 1048576 0 1048576 := by
    refine search_congr _ _ _ (by omega) (fun x x0 x1 => ?_)
    rw [hT x (by omega) x1, canR, if_neg (by omega), if_pos x1]
  have h1 := search_in (canR k o) 1048576 0 1048576 (by omega) (by omega)
  have h2 := mostN_in k o
  have key : ∀ x : Int, 0 < x → x ≤ 1048576 → (x ≤ searchR (canR k o) 1048576 0 1048576 ↔ x ≤ mostN k o) := by
    intro x x0 x1
    rw [← search_spec (canR k o) (can_mono r h) 1048576 0 1048576 (by omega) (by omega) (by omega) x x0 x1, ← most_spec r h (by omega) x1, ← can_iff r h (by omega) x1, canR, if_neg (by omega), if_pos x1]
  rw [e]
  generalize searchR (canR k o) 1048576 0 1048576 = p at *
  generalize mostN k o = q at *
  rcases Int.lt_trichotomy p q with h3 | h3 | h3
  · have := (key q (by omega) (by omega)).2 (Int.le_refl _); omega
  · exact h3
  · have := (key p (by omega) (by omega)).1 (Int.le_refl _); omega
theorem share_eq {k : Kn} (hc : check k = 0) (hF : fin? (netM k []) 0 = true) {j i : Nat} (hj : j < k.draws.length) (hi : i < k.loads.length) : shareR k j i = ⟨(leastM k (ovOf k j i)).1, (mostM k (ovOf k j i)).1⟩ := by
  have r := right_of_check hc
  have N := Net.base hc
  have hin := ov_in (k := k) hj hi
  have hm : (marksM k : Int) = 1 + k.loads.length + k.draws.length := by simp [marksM]
  have fin : ∀ v : Int, 0 ≤ v → v < marksM k → fin? (netM k []) v = true := fun v v0 v1 => by rw [N.same v0 v1 (b := 0) (by omega) (by omega)]; exact hF
  have g : ∀ a v : Int, 0 ≤ a → a < marksM k → 0 ≤ v → v < marksM k → g2 (tb k (tiesM k)) a.toNat v.toNat = dst (netM k []) a v := by
    intro a v a0 a1 v0 v1
    have := tab_at N a0 a1 v0 v1 (fin a a0 a1)
    rw [List.append_nil] at this
    exact this
  have a0 := hin.a0; have a1 := hin.a1; have b0 := hin.b0; have b1 := hin.b1; have c0 := hin.c0; have c1 := hin.c1; have d0 := hin.d0; have d1 := hin.d1
  simp only [ovOf] at a0 a1 b0 b1 c0 c1 d0 d1
  unfold shareR
  rw [search_most r hin, most_fst, g _ _ b0 b1 a0 a1, g _ _ b0 b1 c0 c1, g _ _ d0 d1 a0 a1, g _ _ d0 d1 c0 c1]
  congr 1
  obtain ⟨h1, p, hp, h2⟩ := least_spec k (ovOf k j i)
  have e : ∀ p, loOf k p = mxI 0 (-dst (netM k []) p.2 p.1) := fun _ => rfl
  have q1 := h1 ((i : Int), (i : Int) + 1) (by simp [pairsL, ovOf])
  have q2 := h1 (drawnM k j, (i : Int) + 1) (by simp [pairsL, ovOf])
  have q3 := h1 ((i : Int), drawnM k ((j : Int) + 1)) (by simp [pairsL, ovOf])
  have q4 := h1 (drawnM k j, drawnM k ((j : Int) + 1)) (by simp [pairsL, ovOf])
  rw [e] at q1 q2 q3 q4 h2
  simp only at q1 q2 q3 q4
  generalize (leastM k (ovOf k j i)).1 = w at *
  have hcase : w = mxI 0 (-dst (netM k []) ((i : Int) + 1) i) ∨ w = mxI 0 (-dst (netM k []) ((i : Int) + 1) (drawnM k j)) ∨ w = mxI 0 (-dst (netM k []) (drawnM k ((j : Int) + 1)) i) ∨ w = mxI 0 (-dst (netM k []) (drawnM k ((j : Int) + 1)) (drawnM k j)) := by
    simp only [pairsL, List.mem_cons, List.not_mem_nil, or_false, ovOf] at hp
    rcases hp with rfl | rfl | rfl | rfl
    · exact .inl h2
    · exact .inr (.inl h2)
    · exact .inr (.inr (.inl h2))
    · exact .inr (.inr (.inr h2))
  generalize dst (netM k []) ((i : Int) + 1) i = x1 at *
  generalize dst (netM k []) ((i : Int) + 1) (drawnM k j) = x2 at *
  generalize dst (netM k []) (drawnM k ((j : Int) + 1)) i = x3 at *
  generalize dst (netM k []) (drawnM k ((j : Int) + 1)) (drawnM k j) = x4 at *
  clear h1 h2 e hp g
  simp only [Int.zero_sub]
  exact min4 q1 q2 q3 q4 hcase
/-- What the specification tells of a draw and a load. -/
def tookR (k : Kn) (dr ld : Int) : Sp × Int :=
  if check k ≠ 0 then (zSp, check k) else if find k.draws dr < 0 ∨ find k.loads ld < 0 then (zSp, 5)
  else if tokB k (tiesM k) = false then (zSp, 9) else (shareR k (find k.draws dr) (find k.loads ld), 0)
theorem took_eq (k : Kn) (dr ld : Int) : tookR k dr ld = tookM k dr ld := by
  unfold tookR tookM takesM
  by_cases hc : check k = 0
  · rw [if_neg (by simp [hc])]
    simp only [hc, ne_eq, not_true_eq_false, if_false]
    by_cases h1 : find k.draws dr < 0 ∨ find k.loads ld < 0
    · simp [h1, h1.symm]
    · have h1' : ¬ (find k.loads ld < 0 ∨ find k.draws dr < 0) := fun h => h1 h.symm
      simp only [h1, h1', if_false, tok_b hc, above_eq]
      by_cases hF : fin? (netM k []) 0 = false
      · simp [hF]
      · have fa := find_le k.loads ld; have ga := find_le k.draws dr
        have hF : fin? (netM k []) 0 = true := by simpa using hF
        simp only [hF, Bool.true_eq_false, if_false]
        obtain ⟨i, hi⟩ : ∃ i : Nat, find k.loads ld = i := ⟨(find k.loads ld).toNat, by omega⟩
        obtain ⟨j, hj⟩ : ∃ j : Nat, find k.draws dr = j := ⟨(find k.draws dr).toNat, by omega⟩
        rw [hi, hj, share_eq hc hF (by omega) (by omega)]
        simp [ovOf]
  · rw [if_pos hc]
    simp only [ne_eq, hc, not_false_eq_true, if_true]
end Go.Shaft
/- Fewer weighings, and what is taken of all: what the specification tells. -/
set_option linter.unusedVariables false
set_option linter.unusedSimpArgs false
namespace Go.Shaft
/-- A number put into an increasing list, ahead of the first one that is not less. -/
def putM (l : List Int) (x : Int) : List Int := l.takeWhile (fun y => decide (y < x)) ++ x :: l.dropWhile (fun y => decide (y < x))
theorem put_ins (x : Int) : ∀ {l : List Int}, l.Pairwise (· ≤ ·) → putM l x = insM l x
  | [], _ => rfl
  | y :: l, h => by
    obtain ⟨h1, h2⟩ := List.pairwise_cons.1 h
    have ih := put_ins x h2
    unfold putM insM at ih ⊢
    rcases Int.lt_trichotomy y x with e | e | e
    · have e1 : decide (y < x) = true := by simpa using e
      have e2 : (!decide (x < y)) = true := by simp; omega
      rw [List.takeWhile_cons_of_pos (by simpa using e), List.dropWhile_cons_of_pos (by simpa using e), List.takeWhile_cons_of_pos (p := fun y => !decide (x < y)) e2, List.dropWhile_cons_of_pos (p := fun y => !decide (x < y)) e2, List.cons_append, List.cons_append, ih]
    · subst e
      have e2 : (!decide (y < y)) = true := by simp
      rw [List.takeWhile_cons_of_neg (by simp), List.dropWhile_cons_of_neg (by simp), List.takeWhile_cons_of_pos (p := fun z => !decide (y < z)) e2, List.dropWhile_cons_of_pos (p := fun z => !decide (y < z)) e2, List.nil_append, List.cons_append, ← ih]
      cases l with
      | nil => rfl
      | cons z l =>
        have := h1 z List.mem_cons_self
        rw [List.takeWhile_cons_of_neg (by simp; omega), List.dropWhile_cons_of_neg (by simp; omega)]
        rfl
    · have e2 : ¬ (!decide (x < y)) = true := by simp; omega
      rw [List.takeWhile_cons_of_neg (by simp; omega), List.dropWhile_cons_of_neg (by simp; omega), List.takeWhile_cons_of_neg (p := fun y => !decide (x < y)) e2, List.dropWhile_cons_of_neg (p := fun y => !decide (x < y)) e2]
/-- The IDs of the weighings for which something is so, put in one by one. -/
def pickM (is : Int → Bool) (l : List Wg) : List Int := l.foldl (fun acc w => if is w.id then putM acc w.id else acc) []
theorem pick_snoc (is : Int → Bool) (l : List Wg) (w : Wg) : pickM is (l ++ [w]) = if is w.id then putM (pickM is l) w.id else pickM is l := by
  unfold pickM
  rw [List.foldl_append]
  rfl
theorem pick_sort (is : Int → Bool) (l : List Wg) : pickM is l = sortM ((l.map (·.id)).filter is) := by
  rw [← List.reverse_reverse l]
  generalize l.reverse = m
  induction m with
  | nil => rfl
  | cons w m ih =>
    rw [List.reverse_cons, pick_snoc, ih, List.map_append, List.filter_append]
    simp only [List.map_cons, List.map_nil]
    cases h : is w.id with
    | true =>
      rw [List.filter_cons_of_pos h, List.filter_nil, sort_snoc, if_pos rfl, put_ins _ (sortM_sorted _)]
    | false =>
      rw [List.filter_cons_of_neg (by simp [h]), List.filter_nil, List.append_nil]
      simp
theorem pick_len (is : Int → Bool) (l : List Wg) : (pickM is l).length ≤ l.length := by
  rw [pick_sort, sortM_len]
  exact Nat.le_trans (List.length_filter_le _ _) (by simp)
theorem chosen_pick (k : Kn) (is : Kn → Bool) : chosenM k is = pickM (fun i => is (withoutM k [i])) k.weighs := by
  rw [pick_sort]; rfl
def restsR (k : Kn) (a b : Int) : List Int × Int :=
  if (mostR k a b).2 ≠ 0 then ([], (mostR k a b).2) else (pickM (fun i => decide ((mostR (withoutM k [i]) a b).1 ≠ (mostR k a b).1)) k.weighs, 0)
theorem rests_eq (k : Kn) (a b : Int) : restsR k a b = restsM k a b := by
  unfold restsR restsM
  obtain ⟨m1, m2⟩ := most_eq k a b
  by_cases hm : markedM k [a, b] = 0
  · obtain ⟨hc, hin⟩ := marked_ok hm
    obtain ⟨a0, a1⟩ := hin a (by simp)
    obtain ⟨b0, b1⟩ := hin b (by simp)
    obtain ⟨g1, g2⟩ := aboveC_eq hc a0 a1 b0 b1
    rw [m1, g1, above_eq]
    simp only [hm, ne_eq, not_true_eq_false, if_false]
    cases hF : fin? (netM k []) a with
    | false => simp
    | true =>
      simp only [if_true, not_true_eq_false, if_false, Bool.true_eq_false, Prod.mk.injEq, and_true]
      rw [chosen_pick, m2, g2 hF]
      congr 1
      funext i
      obtain ⟨_, h2, h3⟩ := less_ok hc a0 a1 b0 b1 hF i
      rw [(most_eq (withoutM k [i]) a b).2, h3, above_eq]
  · have e1 : (aboveC k a b).2 = markedM k [a, b] := by
      unfold aboveC
      rw [if_pos hm]
    rw [m1, e1, if_pos hm, if_pos hm]
def suspectsR (k : Kn) : List Int × Int :=
  if check k ≠ 0 then ([], check k) else if tokB k (tiesM k) then ([], 0)
  else (pickM (fun i => tokB (withoutM k [i]) (tiesM (withoutM k [i]))) k.weighs, 0)
theorem suspects_eq (k : Kn) : suspectsR k = suspectsM k := by
  unfold suspectsR suspectsM
  by_cases hc : check k = 0
  · rw [if_neg (show ¬ check k ≠ 0 by simp [hc]), if_neg (show ¬ check k ≠ 0 by simp [hc]), tok_b hc]
    by_cases hF : fin? (netM k []) 0 = true
    · rw [if_pos hF, if_pos (by rw [above_eq]; exact hF)]
    · rw [if_neg hF, if_neg (by rw [above_eq]; exact hF), chosen_pick]
      refine Prod.ext ?_ rfl
      simp only
      congr 1
      funext i
      rw [tok_b (check_without hc [i]), above_eq]
  · simp only [hc, ne_eq, not_false_eq_true, if_true]
/-- What the specification tells of a draw and all loads. -/
def sourcesR (k : Kn) (dr : Int) : List Int × List Int × Int :=
  if check k ≠ 0 then ([], [], check k) else if find k.draws dr < 0 then ([], [], 5) else if tokB k (tiesM k) = false then ([], [], 9)
  else ((k.loads.zipIdx.filter fun q => decide (0 < (shareR k (find k.draws dr) q.2).lo)).map (·.1.id), (k.loads.zipIdx.filter fun q => decide (0 < (shareR k (find k.draws dr) q.2).hi)).map (·.1.id), 0)
def sinksR (k : Kn) (ld : Int) : List Int × List Int × Int :=
  if check k ≠ 0 then ([], [], check k) else if find k.loads ld < 0 then ([], [], 5) else if tokB k (tiesM k) = false then ([], [], 9)
  else ((k.draws.zipIdx.filter fun q => decide (0 < (shareR k q.2 (find k.loads ld)).lo)).map (·.1.id), (k.draws.zipIdx.filter fun q => decide (0 < (shareR k q.2 (find k.loads ld)).hi)).map (·.1.id), 0)
theorem filt_id (p : Int → Bool) (g : Nat → Bool) : ∀ (l : List Ld) (n : Nat), (∀ (i : Nat) (x : Ld), l[i]? = some x → g (n + i) = p x.id) → ((l.zipIdx n).filter fun q => g q.2).map (·.1.id) = (l.map (·.id)).filter p
  | [], _, _ => rfl
  | x :: l, n, h => by
    have h0 := h 0 x rfl
    rw [Nat.add_zero] at h0
    have ih := filt_id p g l (n + 1) (fun i y hy => by have := h (i + 1) y (by simpa using hy); rw [← this]; congr 1; omega)
    rw [List.zipIdx_cons, List.map_cons]
    cases hg : g n with
    | true =>
      rw [List.filter_cons_of_pos (by simpa using hg), List.filter_cons_of_pos (by rw [← h0, hg]), List.map_cons, ih]
    | false =>
      rw [List.filter_cons_of_neg (by simpa using hg), List.filter_cons_of_neg (by rw [← h0, hg]; simp), ih]
theorem find_has {l : List Ld} {a : Int} {i : Nat} (h : find l a = i) : ∃ x, l[i]? = some x ∧ x.id = a := by
  unfold find at h
  split at h
  · rename_i j hj
    rw [List.idxOf?_eq_some_iff] at hj
    obtain ⟨hj, e, _⟩ := hj
    have : j = i := by omega
    subst this
    rw [List.length_map] at hj
    refine ⟨l[j], List.getElem?_eq_getElem hj, ?_⟩
    simpa using e
  · omega
theorem took_at {k : Kn} (hc : check k = 0) (hF : fin? (netM k []) 0 = true) {i j : Nat} {x y : Ld} (hx : k.loads[i]? = some x) (hy : k.draws[j]? = some y) : (tookM k y.id x.id).1 = shareR k j i := by
  unfold tookM
  rw [takes_at hc hF hx hy, if_neg (by simp), share_eq hc hF (List.getElem?_eq_some_iff.1 hy).1 (List.getElem?_eq_some_iff.1 hx).1]
theorem sourcesR_eq (k : Kn) (dr : Int) : sourcesR k dr = sourcesM k dr := by
  unfold sourcesR sourcesM thereM
  by_cases hc : check k = 0
  · have ga := find_le k.draws dr
    simp only [hc, ne_eq, not_true_eq_false, if_false]
    by_cases h1 : find k.draws dr < 0
    · have h2 : decide (0 ≤ find k.draws dr) = false := by simpa using h1
      simp [h1, h2]
    · have h2 : decide (0 ≤ find k.draws dr) = true := by simpa using h1
      simp only [h1, h2, if_false, tok_b hc, above_eq, Bool.true_eq_false]
      by_cases hF : fin? (netM k []) 0 = true
      · rw [if_neg (by simp [hF]), if_neg (by simp [hF])]
        obtain ⟨j, hj⟩ : ∃ j : Nat, find k.draws dr = j := ⟨(find k.draws dr).toNat, by omega⟩
        obtain ⟨y, hy, rfl⟩ := find_has hj
        rw [hj]
        unfold sortedM
        refine Prod.ext ?_ (Prod.ext ?_ rfl)
        · exact filt_id (fun i => decide (0 < (tookM k y.id i).1.lo)) (fun n => decide (0 < (shareR k j n).lo)) k.loads 0 (fun i x hx => by rw [Nat.zero_add, took_at hc hF hx hy])
        · exact filt_id (fun i => decide (0 < (tookM k y.id i).1.hi)) (fun n => decide (0 < (shareR k j n).hi)) k.loads 0 (fun i x hx => by rw [Nat.zero_add, took_at hc hF hx hy])
      · rw [if_pos (by simpa using hF), if_pos (by simp [hF])]
        simp [hF]
  · simp only [hc, ne_eq, not_false_eq_true, if_true]
theorem sinksR_eq (k : Kn) (ld : Int) : sinksR k ld = sinksM k ld := by
  unfold sinksR sinksM thereM
  by_cases hc : check k = 0
  · have ga := find_le k.loads ld
    simp only [hc, ne_eq, not_true_eq_false, if_false]
    by_cases h1 : find k.loads ld < 0
    · have h2 : decide (0 ≤ find k.loads ld) = false := by simpa using h1
      simp [h1, h2]
    · have h2 : decide (0 ≤ find k.loads ld) = true := by simpa using h1
      simp only [h1, h2, if_false, tok_b hc, above_eq, Bool.true_eq_false]
      by_cases hF : fin? (netM k []) 0 = true
      · rw [if_neg (by simp [hF]), if_neg (by simp [hF])]
        obtain ⟨j, hj⟩ : ∃ j : Nat, find k.loads ld = j := ⟨(find k.loads ld).toNat, by omega⟩
        obtain ⟨y, hy, rfl⟩ := find_has hj
        rw [hj]
        unfold sortedM
        refine Prod.ext ?_ (Prod.ext ?_ rfl)
        · exact filt_id (fun i => decide (0 < (tookM k i y.id).1.lo)) (fun n => decide (0 < (shareR k n j).lo)) k.draws 0 (fun i x hx => by rw [Nat.zero_add, took_at hc hF hy hx])
        · exact filt_id (fun i => decide (0 < (tookM k i y.id).1.hi)) (fun n => decide (0 < (shareR k n j).hi)) k.draws 0 (fun i x hx => by rw [Nat.zero_add, took_at hc hF hy hx])
      · rw [if_pos (by simpa using hF), if_pos (by simp [hF])]
        simp [hF]
  · simp only [hc, ne_eq, not_false_eq_true, if_true]
end Go.Shaft
/- Contracts: what the specification tells of weights. -/
set_option linter.unusedVariables false
set_option linter.unusedSimpArgs false
set_option maxRecDepth 100000
set_option maxHeartbeats 2000000
namespace Go.Abs
open Go.RowKit Go.Proofs Go.Shaft
attribute [simp] ti22 ti23 ti24 ti26 ti30 ti42 ti45 ti52 ti122 ti125 ti88 ti92 ti46
attribute [simp] ti134 ti131 ti48 ti60 ti99 ti85 ti143 ti189 ti190 ti192 ti204 ti208 ti218 ti9 ti5 ti27 ti28 ti141 ti30 ti45
@[simp] theorem us4b : E.P.underlying 4 = some TypeDesc.bool := by kernel_rfl
@[simp] def eKp (n : Int) (b : Bool) (e : Int) : AV := .agg [I n, .bool b, I e]
@[simp] def eTd (l : List Tie) (e : Int) : AV := .agg [eTies l, I e]

theorem c102 (k : Kn) (hk : Few k) (t : Tr) (h1 : t.loads.length ≤ 1000) (h2 : t.draws.length ≤ 1000) : Con E 102 [eKn k, eTr t] (.bool (toldB k t)) := by
 intro n H hH
 have h00 := hh3 hH
 have ⟨hHs, hH', hpl⟩ := h00
 have hl := hk.l; have hd := hk.d
 refine at_start (fn := Tryz.f102) [.tmp 4] 51 H.length rfl rfl rfl rfl (by kernel_rfl) (by kernel_rfl) (by simp) (Nat.le_refl _) ?_
 refine sq ?_
 refine at_regK [2, 3] rfl ?_
 try simp [h00, o_i, f_a]
 refine sq ?_
 refine sq ?_
 refine at_regK [3, 22] rfl ?_
 try simp [h00, o_i, f_a]
 refine pops_split 14 rfl (fun hg1 => ?_) (fun hg1 => ?_)
 ·
  try simp [h00, o_i, f_a, hg1]
  refine at_cond rfl rfl (fun hb22 => ?_) (fun hb22 => by simp at hb22)
  refine sq ?_
  refine at_regK [4] rfl ?_
  try simp [h00, o_i, f_a]
  refine at_ret (by kernel_rfl) ?_
  try simp [h00, o_i, f_a]
  simp at hg1
  simp [toldB, hg1]
  intro e
  omega
 ·
  try simp [h00, o_i, f_a, hg1]
  refine at_cond rfl rfl (fun hb22 => ?_) (fun hb22 => ?_)
  ·
   try simp at hb22
   refine sq ?_
   refine at_regK [4] rfl ?_
   try simp [h00, o_i, f_a]
   refine at_ret (by kernel_rfl) ?_
   try simp [h00, o_i, f_a]
   simp at hg1
   simp [toldB, hg1, hb22]
   intro _ e
   omega
  ·
   try simp at hb22
   refine at_skip (by kernel_rfl) ?_
   try simp [h00, o_i, f_a]
   refine sq ?_
   refine sq ?_
   refine at_regK [3, 5] rfl ?_
   try simp [h00, o_i, f_a]
   refine at_block rfl ?_
   refine at_count t.loads.length (fun i s => (∀ n ∈ t.loads.take i, inB n 0 16777216 = true) ∧ s = ⟨[(3, .ref false 1 0 [] 0), (5, I i)], [.cell (eKn k), .cell (eTr t)], H⟩) rfl ⟨by simp, rfl⟩ ?_
   rintro i s hi ⟨hall, rfl⟩
   refine sq ?_
   refine sq ?_
   refine at_regK [3, 5, 27] rfl ?_
   try simp [h00, o_i, f_a]
   refine at_cond rfl rfl (fun hb27 => ?_) (fun hb27 => ?_)
   ·
    try simp at hb27
    obtain ⟨x, hx⟩ : ∃ x, t.loads[i]? = some x := ⟨_, List.getElem?_eq_getElem (by omega)⟩
    have i0 : (i : Int) < t.loads.length := by omega
    refine at_skip (by kernel_rfl) ?_
    try simp [h00, o_i, f_a, hx, i0]
    refine sq ?_
    refine at_block rfl ?_
    refine sq ?_
    refine at_regK [3, 5, 36] rfl ?_
    try simp [h00, o_i, f_a, hx, i0]
    refine (c126 _ _ _).use hH ?_
    try simp [h00, o_i, f_a, hx, i0]
    refine at_cond rfl rfl (fun hb36 => ?_) (fun hb36 => ?_)
    ·
     try simp at hb36
     refine sq ?_
     refine at_regK [4] rfl ?_
     try simp [h00, o_i, f_a, hx, i0]
     refine at_ret (by kernel_rfl) ?_
     try simp [h00, o_i, f_a, hx, i0]
     refine ?_
     unfold toldB
     have hx0 : (t.loads.any fun n => !inB n 0 16777216) = true := List.any_eq_true.2 ⟨x, List.mem_of_getElem? hx, by simpa using hb36⟩
     simp [hx0]
    ·
     try simp at hb36
     refine at_skip (by kernel_rfl) ?_
     try simp [h00, o_i, f_a, hx, i0]
     refine at_regK [3, 5] rfl ?_
     try simp [h00, o_i, f_a, hx, i0]
     refine ⟨by omega, ?_, wrap_id (by omega) (by omega)⟩
     intro n hn
     rw [List.take_add_one, hx] at hn
     simp at hn
     rcases hn with hn | rfl
     ·exact hall n hn
     ·simpa using hb36
   ·
    try simp at hb27
    rw [List.take_of_length_le (by omega)] at hall
    have hall0 := hall
    clear hall
    refine at_exit rfl ?_
    try simp [h00, o_i, f_a]
    refine sq ?_
    refine sq ?_
    refine at_regK [3, 6] rfl ?_
    try simp [h00, o_i, f_a]
    refine at_block rfl ?_
    refine at_count t.draws.length (fun i s => (∀ n ∈ t.draws.take i, inB n 0 16777216 = true) ∧ s = ⟨[(3, .ref false 1 0 [] 0), (6, I i)], [.cell (eKn k), .cell (eTr t)], H⟩) rfl ⟨by simp, rfl⟩ ?_
    rintro i s hi ⟨hall, rfl⟩
    refine sq ?_
    refine sq ?_
    refine at_regK [3, 6, 41] rfl ?_
    try simp [h00, o_i, f_a]
    refine at_cond rfl rfl (fun hb41 => ?_) (fun hb41 => ?_)
    ·
     try simp at hb41
     obtain ⟨x, hx⟩ : ∃ x, t.draws[i]? = some x := ⟨_, List.getElem?_eq_getElem (by omega)⟩
     have i0 : (i : Int) < t.draws.length := by omega
     refine at_skip (by kernel_rfl) ?_
     try simp [h00, o_i, f_a, hx, i0]
     refine sq ?_
     refine at_block rfl ?_
     refine sq ?_
     refine at_regK [3, 6, 50] rfl ?_
     try simp [h00, o_i, f_a, hx, i0]
     refine (c126 _ _ _).use hH ?_
     try simp [h00, o_i, f_a, hx, i0]
     refine at_cond rfl rfl (fun hb50 => ?_) (fun hb50 => ?_)
     ·
      try simp at hb50
      refine sq ?_
      refine at_regK [4] rfl ?_
      try simp [h00, o_i, f_a, hx, i0]
      refine at_ret (by kernel_rfl) ?_
      try simp [h00, o_i, f_a, hx, i0]
      refine ?_
      unfold toldB
      have hx0 : (t.draws.any fun n => !inB n 0 16777216) = true := List.any_eq_true.2 ⟨x, List.mem_of_getElem? hx, by simpa using hb50⟩
      simp [hx0]
     ·
      try simp at hb50
      refine at_skip (by kernel_rfl) ?_
      try simp [h00, o_i, f_a, hx, i0]
      refine at_regK [3, 6] rfl ?_
      try simp [h00, o_i, f_a, hx, i0]
      refine ⟨by omega, ?_, wrap_id (by omega) (by omega)⟩
      intro n hn
      rw [List.take_add_one, hx] at hn
      simp at hn
      rcases hn with hn | rfl
      ·exact hall n hn
      ·simpa using hb50
    ·
     try simp at hb41
     refine at_exit rfl ?_
     try simp [h00, o_i, f_a]
     refine sq ?_
     refine at_regK [4] rfl ?_
     try simp [h00, o_i, f_a]
     refine at_ret (by kernel_rfl) ?_
     try simp [h00, o_i, f_a]
     rw [List.take_of_length_le (by omega)] at hall
     simp at hg1
     unfold toldB
     have e1 : (t.loads.any fun n => !inB n 0 16777216) = false := List.any_eq_false.2 fun n hn => by simp [hall0 n hn]
     have e2 : (t.draws.any fun n => !inB n 0 16777216) = false := List.any_eq_false.2 fun n hn => by simp [hall n hn]
     rw [e1, e2]
     simp [hg1, hb22]
     omega

theorem c105 (t : Tr) (h1 : t.loads.length ≤ 60) (h2 : t.draws.length ≤ 60) (hl : ∀ n ∈ t.loads, 0 ≤ n ∧ n ≤ 16777216) (hd : ∀ n ∈ t.draws, 0 ≤ n ∧ n ≤ 16777216) : Con E 105 [eTr t] (eInts (htsT t)) := by
 intro n H hH
 have h00 := hh3 hH
 have ⟨hHs, hH', hpl⟩ := h00
 refine ACall.frz ?_
 refine at_start (fn := Tryz.f105) [.tmp 2] 45 H.length rfl rfl rfl rfl (by kernel_rfl) (by kernel_rfl) (by simp) (Nat.le_refl _) ?_
 refine sq ?_
 refine at_regK [1] rfl ?_
 try simp [h00, o_i, f_a]
 refine sq ?_
 refine at_regK [1, 3] rfl ?_
 try simp [h00, o_i, f_a]
 refine sq ?_
 refine at_regK [1, 3, 4] rfl ?_
 try simp [h00, o_i, f_a]
 refine sq ?_
 refine sq ?_
 refine at_regK [1, 3, 4, 5] rfl ?_
 try simp [h00, o_i, f_a]
 refine at_block rfl ?_
 refine at_count t.loads.length (fun i s => s = ⟨[(1, .ref false 0 0 [] 0), (3, .own false 1 (i + 1)), (4, I (pfx t.loads i)), (5, I i)], [.cell (eTr t), .row 1 ((hL t.loads i).map I)], H⟩) rfl (by simp [hL_zero]) ?_
 rintro i s hi rfl
 have pb := pfx_bound hl i
 refine sq ?_
 refine sq ?_
 refine at_regK [1, 3, 4, 5, 12] rfl ?_
 try simp [h00, o_i, f_a]
 refine at_cond rfl rfl (fun hb12 => ?_) (fun hb12 => ?_)
 ·
  try simp at hb12
  obtain ⟨x, hx⟩ : ∃ x, t.loads[i]? = some x := ⟨_, List.getElem?_eq_getElem (by omega)⟩
  have i0 : (i : Int) < t.loads.length := by omega
  have xb := hl x (List.mem_of_getElem? hx)
  have wx : IntKind.i64.wrap (pfx t.loads i + x) = pfx t.loads (i + 1) := by rw [pfx_succ hx]; exact wrap_id (by omega) (by omega)
  refine at_skip (by kernel_rfl) ?_
  try simp [h00, o_i, f_a, hx, i0, wx]
  refine sq ?_
  refine at_block rfl ?_
  refine sq ?_
  refine at_regK [1, 3, 4, 5] rfl ?_
  try simp [h00, o_i, f_a, hx, i0, wx]
  refine at_regK [1, 3, 4, 5] rfl ?_
  try simp [h00, o_i, f_a, hx, i0, wx]
  refine ⟨by omega, ?_⟩
  refine at_regC 2 [1, 3, 4, 5] rfl ?_
  try simp [h00, o_i, f_a, hx, i0, wx]
  refine ⟨by omega, wrap_id (by omega) (by omega), ?_⟩
  rw [hL_succ]; simp
 ·
  try simp at hb12
  have hi2 : i = t.loads.length := by omega
  subst hi2
  refine at_exit rfl ?_
  try simp [h00, o_i, f_a]
  refine sq ?_
  refine at_regK [1, 3, 4] rfl ?_
  try simp [h00, o_i, f_a]
  refine sq ?_
  refine sq ?_
  refine at_regK [1, 3, 4, 6] rfl ?_
  try simp [h00, o_i, f_a]
  refine at_block rfl ?_
  refine at_count t.draws.length (fun i s => s = ⟨[(1, .ref false 0 0 [] 0), (3, .own false 1 (t.loads.length + 1 + i)), (4, I (pfx t.draws i)), (6, I i)], [.cell (eTr t), .row 1 ((hL t.loads t.loads.length ++ hD t.draws i).map I)], H⟩) rfl (by simp [hD_zero]) ?_
  rintro i s hi rfl
  have pb := pfx_bound hd i
  refine sq ?_
  refine sq ?_
  refine at_regK [1, 3, 4, 6, 30] rfl ?_
  try simp [h00, o_i, f_a]
  refine at_cond rfl rfl (fun hb30 => ?_) (fun hb30 => ?_)
  ·
   try simp at hb30
   obtain ⟨x, hx⟩ : ∃ x, t.draws[i]? = some x := ⟨_, List.getElem?_eq_getElem (by omega)⟩
   have i0 : (i : Int) < t.draws.length := by omega
   have xb := hd x (List.mem_of_getElem? hx)
   have wx : IntKind.i64.wrap (pfx t.draws i + x) = pfx t.draws (i + 1) := by rw [pfx_succ hx]; exact wrap_id (by omega) (by omega)
   refine at_skip (by kernel_rfl) ?_
   try simp [h00, o_i, f_a, hx, i0, wx]
   refine sq ?_
   refine at_block rfl ?_
   refine sq ?_
   refine at_regK [1, 3, 4, 6] rfl ?_
   try simp [h00, o_i, f_a, hx, i0, wx]
   refine at_regK [1, 3, 4, 6] rfl ?_
   try simp [h00, o_i, f_a, hx, i0, wx]
   refine ⟨by omega, ?_⟩
   refine at_regC 2 [1, 3, 4, 6] rfl ?_
   try simp [h00, o_i, f_a, hx, i0, wx]
   refine ⟨by omega, ⟨by omega, wrap_id (by omega) (by omega)⟩, ?_⟩
   rw [hD_succ]; simp
  ·
   try simp at hb30
   have hi2 : i = t.draws.length := by omega
   subst hi2
   refine at_exit rfl ?_
   try simp [h00, o_i, f_a]
   refine sq ?_
   refine at_regK [2] rfl ?_
   try simp [h00, o_i, f_a]
   refine at_ret (by kernel_rfl) ?_
   try simp [h00, o_i, f_a]
   simp [AS.frzV, AS.expo, AS.expos, AS.setMem, AV.ok, AV.oks, eInts, hHs, htsT, -List.map_append]
   rw [List.map_append]


theorem c103 (l : List Tie) (hl : l.length ≤ 1000) (h : List Int) (hh : h.length ≤ 1000) (hin : ∀ t ∈ l, 0 ≤ t.frm ∧ t.frm < h.length ∧ 0 ≤ t.to ∧ t.to < h.length) (hb : ∀ x ∈ h, 0 ≤ x ∧ x ≤ 1100000000) : Con E 103 [eTies l, eInts h] (eKp (keptR l h).1 (keptR l h).2 0) := by
 intro n H hH
 have h00 := hh3 hH
 have ⟨hHs, hH', hpl⟩ := h00
 refine at_start (fn := Tryz.f103) [.cell 4 60] 38 H.length rfl rfl rfl rfl (by kernel_rfl) (by kernel_rfl) (by simp) (Nat.le_refl _) ?_
 refine sq ?_
 refine at_regK [0, 1, 4] rfl ?_
 try simp [h00, o_i, f_a]
 refine sq ?_
 refine sq ?_
 refine at_regK [0, 1, 4, 5] rfl ?_
 try simp [h00, o_i, f_a]
 refine at_block rfl ?_
 refine at_count l.length (fun i s => (∀ j y, j < i → l[j]? = some y → offP h y = false) ∧ s = ⟨[(0, eTies l), (1, eInts h), (4, .ref false 0 0 [] 0), (5, I i)], [.cell (.agg [I 0, .bool false, I 0])], H⟩) rfl ⟨by intro j y hj; omega, rfl⟩ ?_
 rintro i s hi ⟨hno, rfl⟩
 refine sq ?_
 refine sq ?_
 refine at_regK [0, 1, 4, 5, 9] rfl ?_
 try simp [h00, o_i, f_a]
 refine at_cond rfl rfl (fun hb9 => ?_) (fun hb9 => ?_)
 ·
  try simp at hb9
  obtain ⟨t, ht⟩ : ∃ t, l[i]? = some t := ⟨_, List.getElem?_eq_getElem (by omega)⟩
  have i0 : (i : Int) < l.length := by omega
  obtain ⟨f0, f1, t0, t1⟩ := hin t (List.mem_of_getElem? ht)
  have hp : h[t.frm.toNat]? = some (gt h t.frm) := gt_some f0 f1
  have hq : h[t.to.toNat]? = some (gt h t.to) := gt_some t0 t1
  have hp' : ∀ p, h[t.frm.toNat]'p = gt h t.frm := fun p => (List.getElem?_eq_some_iff.1 hp).2
  have hq' : ∀ p, h[t.to.toNat]'p = gt h t.to := fun p => (List.getElem?_eq_some_iff.1 hq).2
  have b1 := hb _ (List.mem_of_getElem? hp)
  have b2 := hb _ (List.mem_of_getElem? hq)
  have wx : IntKind.i64.wrap (gt h t.to - gt h t.frm) = gt h t.to - gt h t.frm := wrap_id (by omega) (by omega)
  refine at_skip (by kernel_rfl) ?_
  try simp [h00, o_i, f_a, ht, i0, f0, f1, t0, t1, hp, hq, hp', hq', wx]
  refine sq ?_
  refine at_block rfl ?_
  refine sq ?_
  refine at_draw [0, 1, 4, 5, 34] [0, 0, 0, 0, 0, 1, 0, 1, 0, 0, 0, 0, 0, 1, 0, 1, 0, 0, 0, 0, 0, 1, 0] [] rfl Efol (by kernel_rfl) (by simp) ?_
  try simp [h00, o_i, f_a, ht, i0, f0, f1, t0, t1, hp, hq, hp', hq', wx]
  refine at_cond rfl rfl (fun hb34 => ?_) (fun hb34 => ?_)
  ·
   try simp at hb34
   refine sq ?_
   refine at_regK [4] rfl ?_
   try simp [h00, o_i, f_a, ht, i0, f0, f1, t0, t1, hp, hq, hp', hq', wx]
   refine at_ret (by kernel_rfl) ?_
   try simp [h00, o_i, f_a, ht, i0, f0, f1, t0, t1, hp, hq, hp', hq', wx]
   have e := idxP_at (p := offP h) ht (by unfold offP; simpa using hb34) hno
   simp [keptR, e, eKp]
  ·
   try simp at hb34
   refine at_skip (by kernel_rfl) ?_
   try simp [h00, o_i, f_a, ht, i0, f0, f1, t0, t1, hp, hq, hp', hq', wx]
   refine at_regK [0, 1, 4, 5] rfl ?_
   try simp [h00, o_i, f_a, ht, i0, f0, f1, t0, t1, hp, hq, hp', hq', wx]
   refine ⟨by omega, ?_, wrap_id (by omega) (by omega)⟩
   intro j y hj hy
   rcases Nat.lt_or_ge j i with h1 | h1
   ·exact hno j y h1 hy
   ·have : j = i := by omega
    subst this
    rw [ht] at hy
    cases hy
    unfold offP
    simpa using hb34
 ·
  try simp at hb9
  refine at_exit rfl ?_
  try simp [h00, o_i, f_a]
  refine sq ?_
  refine at_regK [4] rfl ?_
  try simp [h00, o_i, f_a]
  refine at_ret (by kernel_rfl) ?_
  try simp [h00, o_i, f_a]
  have e := idxP_none (p := offP h) (fun j y hj hy => hno j y (by omega) hy)
  simp [keptR, e, eKp]

theorem c35 (k : Kn) (hk : Few k) (t : Tr) (h1 : t.loads.length ≤ 60) (h2 : t.draws.length ≤ 60) : Con E 35 [eKn k, eTr t] (eKp (fitsM k t).1 (fitsM k t).2.1 (fitsM k t).2.2) := by
 intro n H hH
 have h00 := hh3 hH
 have ⟨hHs, hH', hpl⟩ := h00
 refine at_start (fn := Tryz.f35) [.cell 4 60] 24 H.length rfl rfl rfl rfl (by kernel_rfl) (by kernel_rfl) (by simp) (Nat.le_refl _) ?_
 refine sq ?_
 refine at_regK [2, 3, 4] rfl ?_
 try simp [h00, o_i, f_a]
 refine sq ?_
 refine at_regK [2, 3, 4, 5] rfl ?_
 try simp [h00, o_i, f_a]
 refine (c53 k hk).use hH ?_
 try simp [h00, o_i, f_a]
 refine sq ?_
 refine sq ?_
 refine at_regK [2, 3, 4, 5, 10] rfl ?_
 try simp [h00, o_i, f_a]
 refine at_cond rfl rfl (fun hb10 => ?_) (fun hb10 => ?_)
 ·
  try simp at hb10
  refine sq ?_
  refine at_regK [4] rfl ?_
  try simp [h00, o_i, f_a]
  refine at_ret (by kernel_rfl) ?_
  try simp [h00, o_i, f_a]
  simp [fitsM, hb10, eKp]
 ·
  try simp at hb10
  have hck : check k = 0 := by simpa using hb10
  have o := order_of_check hck
  have f := fine_of_check hck
  have r := right_of_check hck
  refine at_skip (by kernel_rfl) ?_
  try simp [h00, o_i, f_a]
  refine sq ?_
  refine at_regK [2, 3, 4, 6] rfl ?_
  try simp [h00, o_i, f_a]
  refine (c102 k hk t (by omega) (by omega)).use hH ?_
  try simp [h00, o_i, f_a]
  refine sq ?_
  refine sq ?_
  refine at_regK [2, 3, 4, 17] rfl ?_
  try simp [h00, o_i, f_a]
  refine at_cond rfl rfl (fun hb17 => ?_) (fun hb17 => ?_)
  ·
   try simp at hb17
   refine sq ?_
   refine at_regK [4] rfl ?_
   try simp [h00, o_i, f_a]
   refine at_ret (by kernel_rfl) ?_
   try simp [h00, o_i, f_a]
   simp [fitsM, hck, hb17, eKp]
  ·
   try simp at hb17
   have ht := told_iff.1 hb17
   have hlt := tiesLen k
   have nl := r.nl; have nd := r.nd; have nw := r.nw
   have hm : (marksM k : Int) = 1 + k.loads.length + k.draws.length := by simp [marksM]
   have hlen : ((htsT t).length : Int) = marksM k := by have := ht.ll; have := ht.dl; rw [htsT_len]; omega
   refine at_skip (by kernel_rfl) ?_
   try simp [h00, o_i, f_a]
   refine sq ?_
   refine at_draw [4] [1, 1, 1, 1, 1, 3] [] rfl Efol (by kernel_rfl) (by simp) ?_
   try simp [h00, o_i, f_a]
   refine (c104 k hk o f.lo).draw hH ?_
   try simp [h00, o_i, f_a]
   refine (c105 t h1 h2 ht.l ht.d).draw hH ?_
   try simp [h00, o_i, f_a]
   refine (c103 (tiesM k) (by omega) (htsT t) (by omega) (fun x hx => by rw [hlen]; obtain ⟨g0, g1, g2, g3, _⟩ := ties_in r x hx; exact ⟨g0, g1, g2, g3⟩) (htsT_b ht h1 h2)).draw hH ?_
   try simp [h00, o_i, f_a]
   refine at_ret (by kernel_rfl) ?_
   try simp [h00, o_i, f_a]
   rw [kept_eq r ht]
   unfold fitsM
   simp only [hck, hb17, ne_eq, not_true_eq_false, if_false, Bool.true_eq_false]
   split <;> exact ⟨rfl, rfl, rfl⟩

end Go.Abs
/- Contracts: the specification's table. -/
set_option linter.unusedVariables false
set_option linter.unusedSimpArgs false
set_option maxRecDepth 100000
set_option maxHeartbeats 2000000
namespace Go.Abs
open Go.RowKit Go.Proofs Go.Shaft
attribute [simp] ti22 ti23 ti24 ti26 ti30 ti42 ti45 ti52 ti122 ti125 ti88 ti92 ti46
attribute [simp] ti134 ti131 ti48 ti60 ti178 ti99 ti85 ti143 ti189 ti190 ti192 ti204 ti208 ti218 ti9 ti5 ti27 ti28 ti141 ti30 ti45
def ownL (i n : Nat) : List AV := (List.range i).map fun q => .own false (q + 1) n
def rowO (r : List Int) : AO := .row 1 (r.map I)
/-- A table of own rows: the row of rows first. -/
def LT (i n : Nat) (D : Tb) : List AO := .row 1 (ownL i n) :: D.map rowO
@[simp] theorem ownL_len (i n : Nat) : (ownL i n).length = i := by simp [ownL]
theorem ownL_succ (i n : Nat) : ownL (i + 1) n = ownL i n ++ [.own false (i + 1) n] := by simp [ownL, List.range_succ]
theorem ownL_at {i n q : Nat} (h : q < i) : (ownL i n)[q]? = some (.own false (q + 1) n) := by simp [ownL, h]
theorem ownL_ok {i n m : Nat} (h : i < m) : AV.oks (pl m) (ownL i n) = true := by
  rw [oks_eq, List.all_eq_true]
  intro v hv
  simp only [ownL, List.mem_map, List.mem_range] at hv
  obtain ⟨q, hq, rfl⟩ := hv
  simp [pl]
  omega
@[simp] theorem LT_len (i n : Nat) (D : Tb) : (LT i n D).length = D.length + 1 := by simp [LT]
@[simp] theorem LT_0 (i n : Nat) (D : Tb) (L : List AO) : (LT i n D ++ L)[0]? = some (.row 1 (ownL i n)) := rfl
@[simp] theorem LT_0' (i n : Nat) (D : Tb) : (LT i n D)[0]? = some (.row 1 (ownL i n)) := rfl
@[simp] theorem LT_g0 (i n : Nat) (D : Tb) (p) : (LT i n D)[0]'p = .row 1 (ownL i n) := rfl
@[simp] theorem LT_s0 (i n : Nat) (D : Tb) (vs : List AV) : (LT i n D).set 0 (.row 1 vs) = .row 1 vs :: D.map rowO := rfl
theorem LT_row {n i : Nat} {D : Tb} {r : List Int} (m : Nat) (h : D[i]? = some r) : (LT m n D)[i + 1]? = some (.row 1 (r.map I)) := by simp [LT, h, rowO]
theorem LT_set (m n i : Nat) (D : Tb) (r : List Int) : (LT m n D).set (i + 1) (.row 1 (r.map I)) = LT m n (D.set i r) := by simp [LT, rowO, List.map_set]
theorem LT_set0 (m n : Nat) (D : Tb) (L : List AO) (vs : List AV) : (LT m n D ++ L).set 0 (.row 1 vs) = .row 1 vs :: (D.map rowO ++ L) := rfl
theorem LTa_get {m n i : Nat} {D : Tb} (h : D.length = i) (r : AO) (L : List AO) : (LT m n D ++ r :: L)[i + 1]? = some r := by
  rw [List.getElem?_append_right (by simp; omega)]
  simp [h]
theorem LTa_set {m n i : Nat} {D : Tb} (h : D.length = i) (r r' : AO) (L : List AO) : (LT m n D ++ r :: L).set (i + 1) r' = LT m n D ++ r' :: L := by
  rw [List.set_append_right _ _ (by simp; omega)]
  simp [h]
theorem LTa_take {m n i : Nat} {D : Tb} (h : D.length = i) (r : AO) (L : List AO) : (LT m n D ++ r :: L).take (i + 2) = LT m n D ++ [r] := by
  rw [List.take_append, List.take_of_length_le (by simp; omega)]
  simp [h]
theorem LT_ok {i n m : Nat} {D : Tb} (h : i < m) (hD : D.length < m) : ∀ o ∈ LT i n D, o.ok (pl m) = true := by
  intro o ho
  simp only [LT, List.mem_cons, List.mem_map] at ho
  rcases ho with rfl | ⟨r, _, rfl⟩
  · exact ownL_ok h
  · simp [rowO, AO.ok]
theorem LT_set2 (m n i b : Nat) (D : Tb) (r : List Int) (v : Int) : (LT m n D).set (i + 1) (.row 1 ((r.map I).set b (I v))) = LT m n (D.set i (r.set b v)) := by rw [← List.map_set, LT_set]
theorem LT_next (i z : Nat) (D : Tb) (x : AO) : .row 1 (ownL i z ++ [.own false (i + 1) z]) :: (D.map rowO ++ [.row 1 ((List.replicate z (I farT)).set i (.int .i64 0)), x]) = LT (i + 1) z (D ++ [rowT z i]) ++ [x] := by simp [LT, ownL_succ, rowO, rowT, List.map_set]
theorem LT_take1 {m n i : Nat} {D : Tb} (h : D.length = i) (x : AO) : (LT m n D ++ [x]).take (i + 1) = LT m n D := by
  rw [List.take_append, List.take_of_length_le (by simp; omega)]
  simp [h]
def eTb (D : Tb) : AV := .lit 1 (D.map eInts)
@[simp] theorem eTb_ok (p : Bool → Nat → Bool) (D : Tb) : (eTb D).ok p = true := by
  rw [eTb, AV.ok, oks_eq, List.all_eq_true]
  intro v hv
  obtain ⟨r, _, rfl⟩ := List.mem_map.1 hv
  simp
@[simp] theorem eTb_solid (D : Tb) : (eTb D).solid = true := rfl
@[simp] theorem eTb_agg (D : Tb) : (eTb D).isAgg = false := rfl
@[simp] theorem eTb_size (D : Tb) : (eTb D).size = 1 := rfl
@[simp] theorem eTb_notTup (D : Tb) : notTup (eTb D) = true := rfl
@[simp] theorem lenV_eTb (D : Tb) : lenV (eTb D) = some D.length := by simp [eTb, lenV]
@[simp] theorem pIx_B {s : AS} {e : TypeId} {a b : Nat} {z : AV} {k : IntKind} {n : Int} {K : AV → AS → Prop} (D : Tb) : pIndexAddr s ⟨.slice 1 e, a, b, z⟩ (eTb D) (.int k n) K = (0 ≤ n ∧ got D[n.toNat]? fun r => K (.pin (eInts r)) s) := by
  rw [eTb, pIx_lit]
  simp [got, List.getElem?_map]
  cases D[n.toNat]? <;> simp
def frowO (r : List Int) : AO := .frow 1 (r.map I)
def LM (k z : Nat) (D : Tb) : List AO := .row 1 ((D.take k).map eInts ++ (ownL z z).drop k) :: ((D.take k).map frowO ++ (D.drop k).map rowO)
theorem LM_zero (z : Nat) (D : Tb) : LM 0 z D = LT z z D := by simp [LM, LT]
theorem LM_step {k z : Nat} {D : Tb} (hl : D.length = z) (hr : ∀ r ∈ D, r.length = z) (hk : k < z) (T : List (Nat × AV)) (H : List AO) : Leads ⟨T, LM k z D, H⟩ ⟨T, LM (k + 1) z D, H⟩ := by
  obtain ⟨r, hrk⟩ : ∃ r, D[k]? = some r := ⟨_, List.getElem?_eq_getElem (by omega)⟩
  have hrl := hr r (List.mem_of_getElem? hrk)
  have hdr : D.drop k = r :: D.drop (k + 1) := by
    have := List.drop_eq_getElem_cons (show k < D.length by omega)
    rw [this]
    congr 1
    exact (List.getElem?_eq_some_iff.1 hrk).2
  have hdo : (ownL z z).drop k = .own false (k + 1) z :: (ownL z z).drop (k + 1) := by
    have := List.drop_eq_getElem_cons (show k < (ownL z z).length by simp; omega)
    rw [this]
    congr 1
    exact (List.getElem?_eq_some_iff.1 (ownL_at (n := z) hk)).2
  have htl : (D.take k).length = k := by simp; omega
  have g1 : (LM k z D)[k + 1]? = some (.row 1 (r.map I)) := by
    rw [LM, List.getElem?_cons_succ, List.getElem?_append_right (by simp; omega), hdr]
    simp [htl, rowO, hl, show k - min k z = 0 by omega]
  have g2 : ((D.take k).map eInts ++ (ownL z z).drop k)[k]? = some (.own false (k + 1) (r.map I).length) := by
    rw [List.getElem?_append_right (by simp; omega), hdo]
    simp [hl, hrl, show k - min k z = 0 by omega]
  have h := leads_freezeR (s := ⟨T, LM k z D, H⟩) (q := k + 1) (j := 0) (i := k) g1 rfl (by omega) g2
  have e : ((LM k z D).set (k + 1) (.frow 1 (r.map I))).set 0 (.row 1 (((D.take k).map eInts ++ (ownL z z).drop k).set k (.lit 1 (r.map I)))) = LM (k + 1) z D := by
    have e1 : D.take (k + 1) = D.take k ++ [r] := by rw [List.take_add_one, hrk]; rfl
    have e2 : ((D.take k).map eInts ++ (ownL z z).drop k).set k (.lit 1 (r.map I)) = (D.take (k + 1)).map eInts ++ (ownL z z).drop (k + 1) := by
      rw [List.set_append_right _ _ (by simp; omega), hdo, e1]
      simp [hl, show k - min k z = 0 by omega, eInts]
    rw [e2, LM, List.set_cons_succ, List.set_append_right _ _ (by simp; omega), hdr, LM, e1]
    simp [hl, show k - min k z = 0 by omega, frowO]
  rw [← e]
  exact h
theorem LM_all {z : Nat} {D : Tb} (hl : D.length = z) (hr : ∀ r ∈ D, r.length = z) (T : List (Nat × AV)) (H : List AO) : ∀ k, k ≤ z → Leads ⟨T, LT z z D, H⟩ ⟨T, LM k z D, H⟩
  | 0, _ => by rw [LM_zero]; exact fun x N c0 H0 c a h0 hi => ⟨c, rfl, hi⟩
  | k + 1, h => (LM_all hl hr T H k (by omega)).trans (LM_step hl hr (by omega) T H)
/-- A table of own rows is frozen. -/
theorem leads_tab {z : Nat} {D : Tb} (hl : D.length = z) (hr : ∀ r ∈ D, r.length = z) {H : List AO} (hH : ∀ o ∈ H, o.ok (pl 0) = true) : Leads ⟨[(0, I z), (6, .own false 0 z), (14, I 0)], LT z z D, H⟩ ⟨[(0, I z), (6, eTb D), (14, I 0)], [], H⟩ := by
  refine (LM_all hl hr _ H z (Nat.le_refl _)).trans ?_
  have e : LM z z D = .row 1 (D.map eInts) :: D.map frowO := by
    rw [LM, List.take_of_length_le (by omega), List.drop_of_length_le (by simp), List.drop_of_length_le (by omega)]
    simp
  rw [e]
  refine (leads_freeze 6 0 rfl rfl (by simp [hl])).trans ?_
  exact leads_cutK (n := 0) (ks := [0, 6, 14]) ⟨by
    intro k hk
    simp at hk
    rcases hk with rfl | rfl | rfl <;> simp [AS.get]
    exact eTb_ok _ _, by simp, hH⟩
theorem _root_.Go.Shaft.Bd.rows {z : Nat} {D : Tb} (b : Bd z D) : ∀ r ∈ D, r.length = z := by
  intro r hr
  obtain ⟨i, hi⟩ := List.getElem?_of_mem hr
  have hl := (List.getElem?_eq_some_iff.1 hi).1
  have := b.row i (by rw [← b.len]; exact hl)
  rw [List.getD_eq_getElem?_getD, hi] at this
  exact this
theorem d0T_succ (n i : Nat) : (List.range (i + 1)).map (rowT n) = (List.range i).map (rowT n) ++ [rowT n i] := by simp [List.range_succ]

theorem c133 (z : Nat) (hz : z ≤ 1000) (l : List Tie) (hl : l.length ≤ 1000) (hin : ∀ t ∈ l, 0 ≤ t.frm ∧ t.frm < z ∧ 0 ≤ t.to ∧ t.to < z ∧ -16777216 ≤ t.most ∧ t.most ≤ 16777216) : Con E 133 [I z, eTies l] (.tup [eTb (tabT z l), .bool (okT z (tabT z l))]) := by
  intro n H hH
  have h00 := hh3 hH
  have ⟨hHs, hH', hpl⟩ := h00
  refine at_start (fn := Tryz.f133) [.tmp 4, .tmp 5] 154 H.length rfl rfl rfl rfl (by kernel_rfl) (by kernel_rfl) (by simp) (Nat.le_refl _) ?_
  refine sq ?_
  refine at_regK [0, 1] rfl ?_
  try simp [h00, o_i, f_a]
  refine sq ?_
  refine at_regK [0, 1, 6] rfl ?_
  try simp [h00, o_i, f_a]
  refine sq ?_
  refine sq ?_
  refine at_regK [0, 1, 6, 7] rfl ?_
  try simp [h00, o_i, f_a]
  refine at_block rfl ?_
  refine at_leads (leads_nilT 6 1 rfl (by decide)) ?_
  refine at_leads (leads_keep _ [0, 1, 6, 7]) ?_
  simp
  refine at_count z (fun i s => s = ⟨[(0, I z), (1, eTies l), (6, .own false 0 i), (7, I i)], LT i z ((List.range i).map (rowT z)), H⟩) rfl (by simp [LT, ownL]) ?_
  rintro i s hi rfl
  obtain ⟨D, hD⟩ : ∃ D, D = (List.range i).map (rowT z) := ⟨_, rfl⟩
  have hDl : D.length = i := by rw [hD]; simp
  rw [← hD]
  have hL0 := ownL_len i z
  have hk2 : (∀ o ∈ LT i z D, o.ok (pl (i + 2)) = true) ↔ True := iff_true_intro (LT_ok (by omega) (by omega))
  have hk3 : (∀ o ∈ LT (i + 1) z ((List.range (i + 1)).map (rowT z)), o.ok (pl (i + 2)) = true) ↔ True := iff_true_intro (LT_ok (by omega) (by simp))
  have hDl3 : ((List.range (i + 1)).map (rowT z)).length = i + 1 := by simp
  refine sq ?_
  refine sq ?_
  refine at_regK [0, 1, 6, 7, 17] rfl ?_
  try simp [h00, o_i, f_a]
  refine at_cond rfl rfl (fun hb17 => ?_) (fun hb17 => ?_)
  ·
    try simp at hb17
    refine at_skip (by kernel_rfl) ?_
    try simp [h00, o_i, f_a, hb17]
    refine sq ?_
    refine at_block rfl ?_
    refine sq ?_
    refine at_regK [0, 1, 6, 7, 8] rfl ?_
    try simp [h00, o_i, f_a, hb17]
    refine sq ?_
    refine sq ?_
    refine at_regK [0, 1, 6, 7, 8, 9] rfl ?_
    try simp [h00, o_i, f_a, hb17]
    refine at_block rfl ?_
    refine at_leads (leads_nilT 8 1 rfl (by decide)) ?_
    refine at_leads (leads_keep _ [0, 1, 6, 7, 8, 9]) ?_
    simp [hDl]
    refine at_count z (fun j s => s = ⟨[(0, I z), (1, eTies l), (6, .own false 0 i), (7, I i), (8, .own false (i + 1) j), (9, I j)], LT i z D ++ [.row 1 ((List.replicate j farT).map I)], H⟩) rfl (by simp) ?_
    rintro j s hj rfl
    refine sq ?_
    refine sq ?_
    refine at_regK [0, 1, 6, 7, 8, 9, 22] rfl ?_
    try simp [h00, o_i, f_a, hb17]
    refine at_cond rfl rfl (fun hb22 => ?_) (fun hb22 => ?_)
    ·
      try simp at hb22
      refine at_skip (by kernel_rfl) ?_
      try simp [h00, o_i, f_a, hb17]
      refine sq ?_
      refine at_block rfl ?_
      refine at_regK [0, 1, 6, 7, 8, 9] rfl ?_
      try simp [h00, o_i, f_a, LTa_get hDl, LTa_set hDl, hb17]
      refine ⟨by omega, ?_⟩
      refine at_regC (i + 2) [0, 1, 6, 7, 8, 9] rfl ?_
      try simp [h00, o_i, f_a, LTa_take hDl, hk2, hb17]
      refine ⟨hb22, wrap_id (by omega) (by omega), ?_⟩
      rw [List.replicate_succ']
      rfl
    ·
      try simp at hb22
      have hjz : j = z := by omega
      rw [hjz]
      refine at_exit rfl ?_
      try simp [h00, o_i, f_a, hb17]
      refine sq ?_
      refine at_regK [0, 1, 6, 7, 8] rfl ?_
      try simp [h00, o_i, f_a, LTa_get hDl, LTa_set hDl, hb17]
      refine at_regK [0, 1, 6, 7] rfl ?_
      try simp [h00, o_i, f_a, LTa_get hDl, LTa_set hDl, LT_set0, hb17]
      refine ⟨by omega, ?_⟩
      rw [LT_next, hD, ← d0T_succ]
      refine at_regC (i + 2) [0, 1, 6, 7] rfl ?_
      try simp [h00, o_i, f_a, LT_take1 hDl3, hk3, hb17]
      exact wrap_id (by omega) (by omega)
  ·
    try simp at hb17
    have hiz : i = z := by omega
    rw [hD, hiz]
    refine at_exit rfl ?_
    try simp [h00, o_i, f_a]
    refine sq ?_
    refine sq ?_
    refine at_regK [0, 1, 6, 10] rfl ?_
    try simp [h00, o_i, f_a]
    refine at_block rfl ?_
    have hd0 := Bd.d0 z
    refine at_count l.length (fun q s => s = ⟨[(0, I z), (1, eTies l), (6, .own false 0 z), (10, I q)], LT z z ((l.take q).foldl putT (d0T z)), H⟩) rfl (by simp [d0T]) ?_
    rintro q s hq rfl
    obtain ⟨F, hE⟩ : ∃ D, D = (l.take q).foldl putT (d0T z) := ⟨_, rfl⟩
    have bE : Bd z F := by rw [hE]; exact (puts_mono _ (fun t ht => hin t (List.mem_of_mem_take ht)) hd0).1
    rw [← hE]
    refine sq ?_
    refine sq ?_
    refine at_regK [0, 1, 6, 10, 38] rfl ?_
    try simp [h00, o_i, f_a]
    refine at_cond rfl rfl (fun hb38 => ?_) (fun hb38 => ?_)
    ·
      try simp at hb38
      obtain ⟨t, ht⟩ : ∃ t, l[q]? = some t := ⟨_, List.getElem?_eq_getElem (by omega)⟩
      have q0 : (q : Int) < l.length := by omega
      have wq : IntKind.i64.wrap ((q : Int) + 1) = (q : Int) + 1 := wrap_id (by omega) (by omega)
      obtain ⟨f0, f1, g0, g1, _⟩ := hin t (List.mem_of_getElem? ht)
      obtain ⟨a, ha⟩ : ∃ a : Nat, t.frm = a := ⟨t.frm.toNat, by omega⟩
      obtain ⟨b, hb⟩ : ∃ a : Nat, t.to = a := ⟨t.to.toNat, by omega⟩
      have az : a < z := by omega
      have bz : b < z := by omega
      have hEl := bE.len
      obtain ⟨r, hr⟩ : ∃ r, F[a]? = some r := ⟨_, List.getElem?_eq_getElem (by omega)⟩
      have hrl : r.length = z := by have := bE.row a az; rw [List.getD_eq_getElem?_getD, hr] at this; exact this
      obtain ⟨v, hv⟩ : ∃ v, r[b]? = some v := ⟨_, List.getElem?_eq_getElem (by omega)⟩
      have hgr : F.getD a [] = r := by rw [List.getD_eq_getElem?_getD, hr]; rfl
      have hv2 : g2 F a b = v := by rw [g2, hgr, List.getD_eq_getElem?_getD, hv]; rfl
      have hLr := LT_row (n := z) z hr
      have hst : F.set a (r.set b (if t.most < v then t.most else v)) = (l.take (q + 1)).foldl putT (d0T z) := by
        rw [List.take_add_one, ht]
        simp only [Option.toList_some, List.foldl_append, List.foldl_cons, List.foldl_nil]
        rw [← hE, putT, s2, ha, hb]
        simp only [Int.toNat_natCast]
        rw [hgr, hv2]
        rfl
      have hox := ownL_at (n := z) az
      have hox' : ∀ p, (ownL z z)[a]'p = .own false (a + 1) z := fun p => (List.getElem?_eq_some_iff.1 hox).2
      have hLr' : ∀ p, (LT z z F)[a + 1]'p = .row 1 (r.map I) := fun p => (List.getElem?_eq_some_iff.1 hLr).2
      have hv' : ∀ p, r[b]'p = v := fun p => (List.getElem?_eq_some_iff.1 hv).2
      refine at_skip (by kernel_rfl) ?_
      try simp [h00, o_i, f_a, ht, q0, wq, ha, hb, az, bz, hEl, hrl, hv, hLr, hox, hox', hLr', hv', LT_set2]
      refine sq ?_
      refine at_block rfl ?_
      refine at_draw [0, 1, 6, 10] [0, 0, 0, 0, 0, 1, 0, 1, 0, 0, 0, 0, 1, 0, 0, 0, 0, 0, 1, 0, 1, 0, 0, 0, 0, 1, 0, 1, 0, 0, 0, 0, 1, 0, 0, 3] [] rfl Efol (by kernel_rfl) (by simp) ?_
      try simp [h00, o_i, f_a, ht, q0, wq, ha, hb, az, bz, hEl, hrl, hv, hLr, hox, hox', hLr', hv', LT_set2]
      refine at_regK [0, 1, 6, 10] rfl ?_
      try simp [h00, o_i, f_a, ht, q0, wq, ha, hb, az, bz, hEl, hrl, hv, hLr, hox, hox', hLr', hv', LT_set2]
      rw [hst]
      exact ⟨hb38, rfl⟩
    ·
      try simp at hb38
      have hql : l.take q = l := List.take_of_length_le (by omega)
      rw [hE, hql]
      refine at_exit rfl ?_
      try simp [h00, o_i, f_a]
      refine sq ?_
      refine sq ?_
      refine at_regK [0, 6, 11] rfl ?_
      try simp [h00, o_i, f_a]
      refine at_block rfl ?_
      obtain ⟨G0, hG0⟩ : ∃ D, D = l.foldl putT (d0T z) := ⟨_, rfl⟩
      have bG0 : Bd z G0 := by rw [hG0]; exact (puts_mono l hin hd0).1
      rw [← hG0]
      refine at_count z (fun m s => s = ⟨[(0, I z), (6, .own false 0 z), (11, I m)], LT z z (itr (roundT z) m G0), H⟩) rfl (by simp [itr]) ?_
      rintro m s hm rfl
      obtain ⟨G1, hG1⟩ : ∃ D, D = itr (roundT z) m G0 := ⟨_, rfl⟩
      have bG1 : Bd z G1 := by rw [hG1]; exact (itr_mono (fun k d hk b => roundT_mono hk b) bG0 m hm).1
      rw [← hG1]
      refine sq ?_
      refine sq ?_
      refine at_regK [0, 6, 11, 78] rfl ?_
      try simp [h00, o_i, f_a]
      refine at_cond rfl rfl (fun hb78 => ?_) (fun hb78 => ?_)
      ·
        try simp at hb78
        refine at_skip (by kernel_rfl) ?_
        try simp [h00, o_i, f_a, hb78]
        refine sq ?_
        refine at_block rfl ?_
        refine sq ?_
        refine at_regK [0, 6, 11, 12] rfl ?_
        try simp [h00, o_i, f_a, hb78]
        refine at_block rfl ?_
        refine at_count z (fun i s => s = ⟨[(0, I z), (6, .own false 0 z), (11, I m), (12, I i)], LT z z (itr (lineT z m) i G1), H⟩) rfl (by simp [itr]) ?_
        rintro i s hi rfl
        obtain ⟨G2, hG2⟩ : ∃ D, D = itr (lineT z m) i G1 := ⟨_, rfl⟩
        have bG2 : Bd z G2 := by rw [hG2]; exact (itr_mono (fun k d hk b => line_mono hb78 hk b) bG1 i hi).1
        rw [← hG2]
        refine sq ?_
        refine sq ?_
        refine at_regK [0, 6, 11, 12, 83] rfl ?_
        try simp [h00, o_i, f_a, hb78]
        refine at_cond rfl rfl (fun hb83 => ?_) (fun hb83 => ?_)
        ·
          try simp at hb83
          refine at_skip (by kernel_rfl) ?_
          try simp [h00, o_i, f_a, hb78, hb83]
          refine sq ?_
          refine at_block rfl ?_
          refine sq ?_
          refine at_regK [0, 6, 11, 12, 13] rfl ?_
          try simp [h00, o_i, f_a, hb78, hb83]
          refine at_block rfl ?_
          refine at_count z (fun j s => s = ⟨[(0, I z), (6, .own false 0 z), (11, I m), (12, I i), (13, I j)], LT z z (itr (Go.Shaft.stepT m i) j G2), H⟩) rfl (by simp [itr]) ?_
          rintro j s hj rfl
          obtain ⟨G3, hG3⟩ : ∃ D, D = itr (Go.Shaft.stepT m i) j G2 := ⟨_, rfl⟩
          have bG3 : Bd z G3 := by rw [hG3]; exact (itr_mono (fun k d hk b => step_mono b hb78 hb83 hk) bG2 j hj).1
          rw [← hG3]
          refine sq ?_
          refine sq ?_
          refine at_regK [0, 6, 11, 12, 13, 88] rfl ?_
          try simp [h00, o_i, f_a, hb78, hb83]
          refine at_cond rfl rfl (fun hb88 => ?_) (fun hb88 => ?_)
          ·
            try simp at hb88
            have wj : IntKind.i64.wrap ((j : Int) + 1) = (j : Int) + 1 := wrap_id (by omega) (by omega)
            have hGl := bG3.len
            obtain ⟨r, hr⟩ : ∃ r, G3[i]? = some r := ⟨_, List.getElem?_eq_getElem (by omega)⟩
            obtain ⟨w, hw⟩ : ∃ r, G3[m]? = some r := ⟨_, List.getElem?_eq_getElem (by omega)⟩
            have hgr : G3.getD i [] = r := by rw [List.getD_eq_getElem?_getD, hr]; rfl
            have hgw : G3.getD m [] = w := by rw [List.getD_eq_getElem?_getD, hw]; rfl
            have hrl : r.length = z := by rw [← hgr]; exact bG3.row i hb83
            have hwl : w.length = z := by rw [← hgw]; exact bG3.row m hb78
            obtain ⟨v0, hv0⟩ : ∃ v, r[j]? = some v := ⟨_, List.getElem?_eq_getElem (by omega)⟩
            obtain ⟨v1, hv1⟩ : ∃ v, r[m]? = some v := ⟨_, List.getElem?_eq_getElem (by omega)⟩
            obtain ⟨v2, hv2⟩ : ∃ v, w[j]? = some v := ⟨_, List.getElem?_eq_getElem (by omega)⟩
            have e0 : g2 G3 i j = v0 := by rw [g2, hgr, List.getD_eq_getElem?_getD, hv0]; rfl
            have e1 : g2 G3 i m = v1 := by rw [g2, hgr, List.getD_eq_getElem?_getD, hv1]; rfl
            have e2 : g2 G3 m j = v2 := by rw [g2, hgw, List.getD_eq_getElem?_getD, hv2]; rfl
            have b1 := bG3.lo i m hb83 hb78
            have b2 := bG3.lo m j hb78 hb88
            have b3 := bG3.hi i m hb83 hb78
            have b4 := bG3.hi m j hb78 hb88
            have hfar : farT = 1099511627776 := rfl
            rw [e1] at b1 b3
            rw [e2] at b2 b4
            have ww : IntKind.i64.wrap (v1 + v2) = v1 + v2 := wrap_id (by omega) (by omega)
            have hLi := LT_row (n := z) z hr
            have hLm := LT_row (n := z) z hw
            have hLi' : ∀ p, (LT z z G3)[i + 1]'p = .row 1 (r.map I) := fun p => (List.getElem?_eq_some_iff.1 hLi).2
            have hLm' : ∀ p, (LT z z G3)[m + 1]'p = .row 1 (w.map I) := fun p => (List.getElem?_eq_some_iff.1 hLm).2
            have hoi := ownL_at (n := z) hb83
            have hom := ownL_at (n := z) hb78
            have hoi' : ∀ p, (ownL z z)[i]'p = .own false (i + 1) z := fun p => (List.getElem?_eq_some_iff.1 hoi).2
            have hom' : ∀ p, (ownL z z)[m]'p = .own false (m + 1) z := fun p => (List.getElem?_eq_some_iff.1 hom).2
            have hv0' : ∀ p, r[j]'p = v0 := fun p => (List.getElem?_eq_some_iff.1 hv0).2
            have hv1' : ∀ p, r[m]'p = v1 := fun p => (List.getElem?_eq_some_iff.1 hv1).2
            have hv2' : ∀ p, w[j]'p = v2 := fun p => (List.getElem?_eq_some_iff.1 hv2).2
            have hnx : itr (Go.Shaft.stepT m i) (j + 1) G2 = Go.Shaft.stepT m i j G3 := by rw [hG3]; rfl
            refine at_skip (by kernel_rfl) ?_
            try simp [h00, o_i, f_a, hb78, hb83, hb88, wj, hGl, hrl, hwl, hv0, hv1, hv2, ww, hLi, hLm, hLi', hLm', hoi, hom, hoi', hom', hv0', hv1', hv2', LT_set2]
            refine sq ?_
            refine at_block rfl ?_
            refine sq ?_
            refine at_regK [0, 6, 11, 12, 13, 108] rfl ?_
            try simp [h00, o_i, f_a, hb78, hb83, hb88, wj, hGl, hrl, hwl, hv0, hv1, hv2, ww, hLi, hLm, hLi', hLm', hoi, hom, hoi', hom', hv0', hv1', hv2', LT_set2]
            refine pops_split 99 rfl (fun hg1 => ?_) (fun hg1 => ?_)
            ·
              try simp [h00, o_i, f_a, hb78, hb83, hb88, wj, hGl, hrl, hwl, hv0, hv1, hv2, ww, hLi, hLm, hLi', hLm', hoi, hom, hoi', hom', hv0', hv1', hv2', LT_set2, hg1]
              refine at_cond rfl rfl (fun hb108 => ?_) (fun hb108 => ?_)
              ·
                try simp at hb108
                refine at_draw [0, 6, 11, 12, 13] [0, 0, 0, 1, 0, 0, 0, 0, 1, 0, 0, 1, 0, 0, 0, 1, 0, 0, 1, 0, 0, 0, 1, 0, 0, 1, 0, 0, 0, 0, 3] [] rfl Efol (by kernel_rfl) (by simp) ?_
                try simp [h00, o_i, f_a, hb78, hb83, hb88, wj, hGl, hrl, hwl, hv0, hv1, hv2, ww, hLi, hLm, hLi', hLm', hoi, hom, hoi', hom', hv0', hv1', hv2', LT_set2]
                refine at_regK [0, 6, 11, 12, 13] rfl ?_
                try simp [h00, o_i, f_a, hb78, hb83, hb88, wj, hGl, hrl, hwl, hv0, hv1, hv2, ww, hLi, hLm, hLi', hLm', hoi, hom, hoi', hom', hv0', hv1', hv2', LT_set2]
                try simp at hg1
                have hky : Go.Shaft.stepT m i j G3 = if v1 < farT ∧ v2 < farT then G3.set i (r.set j (mxI (-farT) (mnI v0 (v1 + v2)))) else G3 := by rw [Go.Shaft.stepT, e0, e1, e2, s2, hgr]
                rw [hnx, hky]
                first
                | (rw [if_pos (show v1 < farT ∧ v2 < farT by rw [hfar]; omega)]; rfl)
                | rw [if_neg (show ¬ (v1 < farT ∧ v2 < farT) by rw [hfar]; omega)]
              ·
                try simp at hb108
                refine at_skip (by kernel_rfl) ?_
                try simp [h00, o_i, f_a, hb78, hb83, hb88, wj, hGl, hrl, hwl, hv0, hv1, hv2, ww, hLi, hLm, hLi', hLm', hoi, hom, hoi', hom', hv0', hv1', hv2', LT_set2]
                refine at_regK [0, 6, 11, 12, 13] rfl ?_
                try simp [h00, o_i, f_a, hb78, hb83, hb88, wj, hGl, hrl, hwl, hv0, hv1, hv2, ww, hLi, hLm, hLi', hLm', hoi, hom, hoi', hom', hv0', hv1', hv2', LT_set2]
                try simp at hg1
                have hky : Go.Shaft.stepT m i j G3 = if v1 < farT ∧ v2 < farT then G3.set i (r.set j (mxI (-farT) (mnI v0 (v1 + v2)))) else G3 := by rw [Go.Shaft.stepT, e0, e1, e2, s2, hgr]
                rw [hnx, hky]
                first
                | (rw [if_pos (show v1 < farT ∧ v2 < farT by rw [hfar]; omega)]; rfl)
                | rw [if_neg (show ¬ (v1 < farT ∧ v2 < farT) by rw [hfar]; omega)]
            ·
              try simp [h00, o_i, f_a, hb78, hb83, hb88, wj, hGl, hrl, hwl, hv0, hv1, hv2, ww, hLi, hLm, hLi', hLm', hoi, hom, hoi', hom', hv0', hv1', hv2', LT_set2, hg1]
              refine at_cond rfl rfl (fun hb108 => by simp at hb108) (fun hb108 => ?_)
              refine at_skip (by kernel_rfl) ?_
              try simp [h00, o_i, f_a, hb78, hb83, hb88, wj, hGl, hrl, hwl, hv0, hv1, hv2, ww, hLi, hLm, hLi', hLm', hoi, hom, hoi', hom', hv0', hv1', hv2', LT_set2]
              refine at_regK [0, 6, 11, 12, 13] rfl ?_
              try simp [h00, o_i, f_a, hb78, hb83, hb88, wj, hGl, hrl, hwl, hv0, hv1, hv2, ww, hLi, hLm, hLi', hLm', hoi, hom, hoi', hom', hv0', hv1', hv2', LT_set2]
              try simp at hg1
              have hky : Go.Shaft.stepT m i j G3 = if v1 < farT ∧ v2 < farT then G3.set i (r.set j (mxI (-farT) (mnI v0 (v1 + v2)))) else G3 := by rw [Go.Shaft.stepT, e0, e1, e2, s2, hgr]
              rw [hnx, hky]
              first
              | (rw [if_pos (show v1 < farT ∧ v2 < farT by rw [hfar]; omega)]; rfl)
              | rw [if_neg (show ¬ (v1 < farT ∧ v2 < farT) by rw [hfar]; omega)]
          ·
            try simp at hb88
            refine at_exit rfl ?_
            try simp [h00, o_i, f_a, hb78, hb83]
            refine at_regK [0, 6, 11, 12] rfl ?_
            try simp [h00, o_i, f_a, hb78, hb83]
            refine ⟨wrap_id (by omega) (by omega), ?_⟩
            rw [hG3, show j = z by omega, hG2]
            rfl
        ·
          try simp at hb83
          refine at_exit rfl ?_
          try simp [h00, o_i, f_a, hb78]
          refine at_regK [0, 6, 11] rfl ?_
          try simp [h00, o_i, f_a, hb78]
          refine ⟨wrap_id (by omega) (by omega), ?_⟩
          rw [hG2, show i = z by omega, hG1]
          rfl
      ·
        try simp at hb78
        have htb : G1 = tabT z l := by rw [hG1, show m = z by omega, hG0]; rfl
        rw [htb] at bG1 ⊢
        obtain ⟨P, hP⟩ : ∃ P, P = tabT z l := ⟨_, rfl⟩
        rw [← hP] at bG1 ⊢
        refine at_exit rfl ?_
        try simp [h00, o_i, f_a]
        refine sq ?_
        refine sq ?_
        refine at_regK [0, 6, 14] rfl ?_
        try simp [h00, o_i, f_a]
        refine at_block rfl ?_
        refine at_leads (leads_tab bG1.len bG1.rows (okH_pl hH 0)) ?_
        refine at_count z (fun q s => (∀ c, c < q → ¬ g2 P c c < 0) ∧ s = ⟨[(0, I z), (6, eTb P), (14, I q)], [], H⟩) rfl ⟨by omega, rfl⟩ ?_
        rintro q s hq ⟨hno, rfl⟩
        refine sq ?_
        refine sq ?_
        refine at_regK [0, 6, 14, 141] rfl ?_
        try simp [h00, o_i, f_a]
        refine at_cond rfl rfl (fun hb141 => ?_) (fun hb141 => ?_)
        ·
          try simp at hb141
          have wq : IntKind.i64.wrap ((q : Int) + 1) = (q : Int) + 1 := wrap_id (by omega) (by omega)
          have hPl := bG1.len
          obtain ⟨r, hr⟩ : ∃ r, P[q]? = some r := ⟨_, List.getElem?_eq_getElem (by omega)⟩
          have hgr : P.getD q [] = r := by rw [List.getD_eq_getElem?_getD, hr]; rfl
          have hrl : r.length = z := by rw [← hgr]; exact bG1.row q hb141
          obtain ⟨v, hv⟩ : ∃ v, r[q]? = some v := ⟨_, List.getElem?_eq_getElem (by omega)⟩
          have e0 : g2 P q q = v := by rw [g2, hgr, List.getD_eq_getElem?_getD, hv]; rfl
          have hr' : ∀ p, P[q]'p = r := fun p => (List.getElem?_eq_some_iff.1 hr).2
          have hv' : ∀ p, r[q]'p = v := fun p => (List.getElem?_eq_some_iff.1 hv).2
          refine at_skip (by kernel_rfl) ?_
          try simp [h00, o_i, f_a, hb141, wq, hPl, hrl, hr, hv, hr', hv']
          refine sq ?_
          refine at_block rfl ?_
          refine sq ?_
          refine at_regK [0, 6, 14, 151] rfl ?_
          try simp [h00, o_i, f_a, hb141, wq, hPl, hrl, hr, hv, hr', hv']
          refine at_cond rfl rfl (fun hb151 => ?_) (fun hb151 => ?_)
          ·
            try simp at hb151
            refine sq ?_
            refine at_regK [4, 5] rfl ?_
            try simp [h00, o_i, f_a, hb141, wq, hPl, hrl, hr, hv, hr', hv']
            refine at_ret (by kernel_rfl) ?_
            try simp [h00, o_i, f_a, hb141, wq, hPl, hrl, hr, hv, hr', hv']
            first
            | (unfold okT
               rw [List.all_eq_false]
               exact ⟨q, List.mem_range.2 hb141, by simp; omega⟩)
            | (unfold okT
               rw [List.all_eq_true]
               intro c hc
               have := hno c (by have := List.mem_range.1 hc; omega)
               simpa using this)
          ·
            try simp at hb151
            refine at_skip (by kernel_rfl) ?_
            try simp [h00, o_i, f_a, hb141, wq, hPl, hrl, hr, hv, hr', hv']
            refine at_regK [0, 6, 14] rfl ?_
            try simp [h00, o_i, f_a, hb141, wq, hPl, hrl, hr, hv, hr', hv']
            intro c hc
            rcases Nat.lt_or_ge c q with h | h
            · have := hno c h
              omega
            · have : c = q := by omega
              subst this
              rw [e0]
              omega
        ·
          try simp at hb141
          refine at_exit rfl ?_
          try simp [h00, o_i, f_a]
          refine sq ?_
          refine at_regK [4, 5] rfl ?_
          try simp [h00, o_i, f_a]
          refine at_ret (by kernel_rfl) ?_
          try simp [h00, o_i, f_a]
          first
          | (unfold okT
             rw [List.all_eq_false]
             exact ⟨q, List.mem_range.2 hb141, by simp; omega⟩)
          | (unfold okT
             rw [List.all_eq_true]
             intro c hc
             have := hno c (by have := List.mem_range.1 hc; omega)
             simpa using this)
end Go.Abs
/- Contracts: what the specification tells of two marks. -/
set_option linter.unusedVariables false
set_option linter.unusedSimpArgs false
set_option maxRecDepth 100000
set_option maxHeartbeats 2000000
namespace Go.Abs
open Go.RowKit Go.Proofs Go.Shaft
attribute [simp] ti22 ti23 ti24 ti26 ti30 ti42 ti45 ti52 ti122 ti125 ti88 ti92 ti46
attribute [simp] ti134 ti131 ti48 ti60 ti35 ti178 ti99 ti85 ti143 ti189 ti190 ti192 ti204 ti208 ti218 ti9 ti5 ti27 ti28 ti141 ti30 ti45
@[simp] def eEn (q : Sp × Int) : AV := .agg [eSp q.1, I q.2]
theorem tbl {n : Nat} {P : Tb} (b : Bd n P) {a c : Nat} (ha : a < n) (hc : c < n) : ∃ r, P[a]? = some r ∧ (∀ p, P[a]'p = r) ∧ r.length = n ∧ r[c]? = some (g2 P a c) ∧ (∀ p, r[c]'p = g2 P a c) ∧ -farT ≤ g2 P a c ∧ g2 P a c ≤ farT := by
 have hl := b.len
 obtain ⟨r, hr⟩ : ∃ r, P[a]? = some r := ⟨_, List.getElem?_eq_getElem (by omega)⟩
 have hgr : P.getD a [] = r := by rw [List.getD_eq_getElem?_getD, hr]; rfl
 have hrl : r.length = n := by rw [← hgr]; exact b.row a ha
 obtain ⟨v, hv⟩ : ∃ v, r[c]? = some v := ⟨_, List.getElem?_eq_getElem (by omega)⟩
 have e0 : g2 P a c = v := by rw [g2, hgr, List.getD_eq_getElem?_getD, hv]; rfl
 refine ⟨r, hr, fun p => (List.getElem?_eq_some_iff.1 hr).2, hrl, by rw [e0]; exact hv, fun p => by rw [e0]; exact (List.getElem?_eq_some_iff.1 hv).2, b.lo a c ha hc, b.hi a c ha hc⟩
theorem tb_bd {k : Kn} {more : List Tie} (N : Net k more) : Bd (marksM k) (tb k (tiesM k ++ more)) := by
 have := tab_bd N.wf
 have hn : (netM k more).n.toNat = marksM k := by simp [netM]
 rw [hn] at this
 exact this
theorem tb_bd0 {k : Kn} (hc : check k = 0) : Bd (marksM k) (tb k (tiesM k)) := by
 have := tb_bd (Net.base hc)
 rw [List.append_nil] at this
 exact this
theorem marks_le {k : Kn} (r : Right k) : marksM k ≤ 41 := by
 have h1 := r.nl; have h2 := r.nd
 simp [marksM]
 omega
theorem ties_le {k : Kn} (r : Right k) : (tiesM k).length ≤ 160 := by
 have h := tiesLen k
 have h1 := r.nl; have h2 := r.nd; have h3 := r.nw
 omega

theorem c134 (k : Kn) (hk : Few k) : Con E 134 [eKn k] (I (marksM k)) := by
 intro n H hH
 have h00 := hh3 hH
 have ⟨hHs, hH', hpl⟩ := h00
 refine at_start (fn := Tryz.f134) [.tmp 2] 11 H.length rfl rfl rfl rfl (by kernel_rfl) (by kernel_rfl) (by simp) (Nat.le_refl _) ?_
 refine sq ?_
 refine at_regK [1] rfl ?_
 try simp [h00, o_i, f_a]
 refine sq ?_
 refine at_regK [2] rfl ?_
 try simp [h00, o_i, f_a]
 refine at_ret (by kernel_rfl) ?_
 try simp [h00, o_i, f_a]
 have := hk.l
 have := hk.d
 rw [wrap_id (n := (k.loads.length : Int) + k.draws.length) (by omega) (by omega), wrap_id (by omega) (by omega)]
 simp [marksM]
 omega

theorem c56 (k : Kn) (hk : Few k) (hc : check k = 0) : Con E 56 [eKn k] (.bool (tokB k (tiesM k))) := by
 intro n H hH
 have h00 := hh3 hH
 have ⟨hHs, hH', hpl⟩ := h00
 have f := fine_of_check hc
 have o := order_of_check hc
 have r := right_of_check hc
 have hml := marks_le r
 have htl := ties_le r
 have htb : tabT (marksM k) (tiesM k) = tb k (tiesM k) := rfl
 have htok : okT (marksM k) (tb k (tiesM k)) = tokB k (tiesM k) := rfl
 refine at_start (fn := Tryz.f56) [.tmp 2] 14 H.length rfl rfl rfl rfl (by kernel_rfl) (by kernel_rfl) (by simp) (Nat.le_refl _) ?_
 refine sq ?_
 refine at_regK [1] rfl ?_
 try simp [h00, o_i, f_a]
 refine sq ?_
 refine at_draw [4] [1, 1, 1, 1, 1, 0, 0, 0, 0, 0] [] rfl Efol (by kernel_rfl) (by simp) ?_
 try simp [h00, o_i, f_a]
 refine (c134 k hk).draw hH ?_
 try simp [h00, o_i, f_a]
 refine (c104 k hk o f.lo).draw hH ?_
 try simp [h00, o_i, f_a]
 refine (c133 (marksM k) (by omega) (tiesM k) (by omega) (ties_in r)).draw hH ?_
 rw [htb, htok]
 try simp [h00, o_i, f_a]
 refine sq ?_
 refine at_regK [2] rfl ?_
 try simp [h00, o_i, f_a]
 refine at_ret (by kernel_rfl) ?_
 try simp [h00, o_i, f_a]

end Go.Abs
/- Contracts: the specification's chains. -/
set_option linter.unusedVariables false
set_option linter.unusedSimpArgs false
set_option maxRecDepth 100000
set_option maxHeartbeats 2000000
namespace Go.Abs
open Go.RowKit Go.Proofs Go.Shaft
attribute [simp] ti22 ti23 ti24 ti26 ti30 ti42 ti45 ti52 ti122 ti125 ti88 ti92 ti46
attribute [simp] ti134 ti131 ti48 ti60 ti35 ti178 ti99 ti85 ti143 ti189 ti190 ti192 ti204 ti208 ti218 ti9 ti5 ti27 ti28 ti141 ti30 ti45
theorem c138 (k : Kn) (hk : Few k) (a b : Int) : Con E 138 [eKn k, I a, I b] (I (markedM k [a, b])) := by
 intro n H hH
 have h00 := hh3 hH
 have ⟨hHs, hH', hpl⟩ := h00
 refine at_start (fn := Tryz.f138) [.tmp 6] 28 H.length rfl rfl rfl rfl (by kernel_rfl) (by kernel_rfl) (by simp) (Nat.le_refl _) ?_
 refine sq ?_
 refine at_regK [1, 2, 3] rfl ?_
 try simp [h00, o_i, f_a]
 refine sq ?_
 refine at_regK [1, 2, 3, 7] rfl ?_
 try simp [h00, o_i, f_a]
 refine (c53 k hk).use hH ?_
 try simp [h00, o_i, f_a]
 refine sq ?_
 refine sq ?_
 refine at_regK [1, 2, 3, 7, 12] rfl ?_
 try simp [h00, o_i, f_a]
 refine at_cond rfl rfl (fun hb12 => ?_) (fun hb12 => ?_)
 ·
  try simp at hb12
  refine sq ?_
  refine at_regK [6] rfl ?_
  try simp [h00, o_i, f_a]
  refine at_ret (by kernel_rfl) ?_
  try simp [h00, o_i, f_a]
  simp [markedM, hb12]
 ·
  try simp at hb12
  have hc : check k = 0 := by simpa using hb12
  have f := fine_of_check hc
  have o := order_of_check hc
  have r := right_of_check hc
  have hml := marks_le r
  have htl := ties_le r
  have htb : tabT (marksM k) (tiesM k) = tb k (tiesM k) := rfl
  have htok : okT (marksM k) (tb k (tiesM k)) = tokB k (tiesM k) := rfl
  have hm : (marksM k : Int) = 1 + k.loads.length + k.draws.length := by simp [marksM]
  have nl := r.nl; have nd := r.nd
  have wm : IntKind.i64.wrap ((marksM k : Int) - 1) = (marksM k : Int) - 1 := wrap_id (by omega) (by omega)
  refine at_skip (by kernel_rfl) ?_
  try simp [h00, o_i, f_a, wm]
  refine sq ?_
  refine at_regK [1, 2, 8] rfl ?_
  try simp [h00, o_i, f_a, wm]
  refine (c134 k hk).use hH ?_
  try simp [h00, o_i, f_a, wm]
  refine sq ?_
  refine sq ?_
  refine at_regK [27] rfl ?_
  try simp [h00, o_i, f_a, wm]
  refine (c126 _ _ _).use hH ?_
  try simp [h00, o_i, f_a, wm]
  refine pops_split 21 rfl (fun hg1 => ?_) (fun hg1 => ?_)
  ·
   try simp [h00, o_i, f_a, wm, hg1]
   refine at_cond rfl rfl (fun hb27 => ?_) (fun hb27 => by simp at hb27)
   refine sq ?_
   refine at_regK [6] rfl ?_
   try simp [h00, o_i, f_a, wm]
   refine at_ret (by kernel_rfl) ?_
   try simp [h00, o_i, f_a, wm]
   simp at hg1
   simp_all [markedM]
  ·
   try simp [h00, o_i, f_a, wm, hg1]
   refine (c126 _ _ _).use hH ?_
   try simp [h00, o_i, f_a, wm]
   refine at_cond rfl rfl (fun hb27 => ?_) (fun hb27 => ?_)
   ·
    try simp at hb27
    refine sq ?_
    refine at_regK [6] rfl ?_
    try simp [h00, o_i, f_a, wm]
    refine at_ret (by kernel_rfl) ?_
    try simp [h00, o_i, f_a, wm]
    simp at hg1
    simp_all [markedM]
   ·
    try simp at hb27
    refine at_skip (by kernel_rfl) ?_
    try simp [h00, o_i, f_a, wm]
    refine sq ?_
    refine at_regK [6] rfl ?_
    try simp [h00, o_i, f_a, wm]
    refine at_ret (by kernel_rfl) ?_
    try simp [h00, o_i, f_a, wm]
    simp at hg1
    simp_all [markedM]

theorem c64 (k : Kn) (hk : Few k) (a b : Int) : Con E 64 [eKn k, I a, I b] (.tup [I (mostR k a b).1, I (mostR k a b).2]) := by
 intro n H hH
 have h00 := hh3 hH
 have ⟨hHs, hH', hpl⟩ := h00
 refine at_start (fn := Tryz.f64) [.tmp 6, .tmp 7] 35 H.length rfl rfl rfl rfl (by kernel_rfl) (by kernel_rfl) (by simp) (Nat.le_refl _) ?_
 refine sq ?_
 refine at_regK [1, 2, 3] rfl ?_
 try simp [h00, o_i, f_a]
 refine sq ?_
 refine at_regK [1, 2, 3, 8] rfl ?_
 try simp [h00, o_i, f_a]
 refine (c138 k hk a b).use hH ?_
 try simp [h00, o_i, f_a]
 refine sq ?_
 refine sq ?_
 refine at_regK [1, 2, 3, 8, 16] rfl ?_
 try simp [h00, o_i, f_a]
 refine at_cond rfl rfl (fun hb16 => ?_) (fun hb16 => ?_)
 ·
  try simp at hb16
  refine sq ?_
  refine at_regK [6, 7] rfl ?_
  try simp [h00, o_i, f_a]
  refine at_ret (by kernel_rfl) ?_
  try simp [h00, o_i, f_a]
  simp [mostR, hb16]
 ·
  try simp at hb16
  have hmk : markedM k [a, b] = 0 := by simpa using hb16
  obtain ⟨hc, hin⟩ := marked_ok hmk
  obtain ⟨a0, a1⟩ := hin a (by simp)
  obtain ⟨b0, b1⟩ := hin b (by simp)
  have f := fine_of_check hc
  have o := order_of_check hc
  have r := right_of_check hc
  have hml := marks_le r
  have htl := ties_le r
  have htb : tabT (marksM k) (tiesM k) = tb k (tiesM k) := rfl
  have htok : okT (marksM k) (tb k (tiesM k)) = tokB k (tiesM k) := rfl
  obtain ⟨p, rfl⟩ : ∃ p : Nat, a = p := ⟨a.toNat, by omega⟩
  obtain ⟨q, rfl⟩ : ∃ p : Nat, b = p := ⟨b.toNat, by omega⟩
  obtain ⟨r1, p1, p2, p3, p4, p5, p6, p7⟩ := tbl (tb_bd0 hc) (a := p) (c := q) (by omega) (by omega)
  have hPl := (tb_bd0 hc).len
  have pz : p < marksM k := by omega
  have qz : q < marksM k := by omega
  refine at_skip (by kernel_rfl) ?_
  try simp [h00, o_i, f_a]
  refine sq ?_
  refine at_draw [1, 2, 9, 10] [1, 1, 1, 1, 1, 0, 0, 0, 0, 0] [] rfl Efol (by kernel_rfl) (by simp) ?_
  try simp [h00, o_i, f_a]
  refine (c134 k hk).draw hH ?_
  try simp [h00, o_i, f_a]
  refine (c104 k hk o f.lo).draw hH ?_
  try simp [h00, o_i, f_a]
  refine (c133 (marksM k) (by omega) (tiesM k) (by omega) (ties_in r)).draw hH ?_
  rw [htb, htok]
  try simp [h00, o_i, f_a]
  refine sq ?_
  refine sq ?_
  refine at_regK [1, 2, 9, 27] rfl ?_
  try simp [h00, o_i, f_a]
  refine at_cond rfl rfl (fun hb27 => ?_) (fun hb27 => ?_)
  ·
   try simp at hb27
   refine sq ?_
   refine at_regK [6, 7] rfl ?_
   try simp [h00, o_i, f_a]
   refine at_ret (by kernel_rfl) ?_
   try simp [h00, o_i, f_a]
   simp [mostR, hmk, hb27]
  ·
   try simp at hb27
   refine at_skip (by kernel_rfl) ?_
   try simp [h00, o_i, f_a]
   refine sq ?_
   refine at_regK [6, 7] rfl ?_
   try simp [h00, o_i, f_a, p1, p2, p3, p4, p5, hPl, pz, qz]
   refine at_ret (by kernel_rfl) ?_
   try simp [h00, o_i, f_a]
   simp [mostR, hmk, hb27]

end Go.Abs
/- Law: fewer weighings. -/
set_option linter.unusedVariables false
set_option linter.unusedSimpArgs false
set_option maxRecDepth 100000
set_option maxHeartbeats 2000000
namespace Go.Abs
open Go.RowKit Go.Proofs Go.Shaft
attribute [simp] ti22 ti23 ti24 ti26 ti30 ti42 ti45 ti52 ti122 ti125 ti88 ti92 ti46
attribute [simp] ti134 ti131 ti48 ti60 ti35 ti71 ti78 ti45 ti178 ti99 ti85 ti143 ti189 ti190 ti192 ti204 ti208 ti218 ti9 ti5 ti27 ti28 ti141 ti30 ti45
theorem put_at {l : List Int} {x : Int} {i : Nat} (h1 : ∀ y ∈ l.take i, y < x) (h2 : ∀ y, l[i]? = some y → ¬ y < x) : putM l x = l.take i ++ x :: l.drop i := by
 have e : l = l.take i ++ l.drop i := (List.take_append_drop i l).symm
 have a : ∀ y ∈ l.take i, decide (y < x) = true := fun y hy => by simpa using h1 y hy
 have b : (l.drop i).takeWhile (fun y => decide (y < x)) = [] ∧ (l.drop i).dropWhile (fun y => decide (y < x)) = l.drop i := by
  cases hd : l.drop i with
  | nil => exact ⟨rfl, rfl⟩
  | cons y t =>
   have hy : l[i]? = some y := by
    have := congrArg (fun z => z[0]?) hd
    simpa [List.getElem?_drop] using this
   have hn : ¬ decide (y < x) = true := by simpa using h2 y hy
   rw [List.takeWhile_cons_of_neg (p := fun y => decide (y < x)) hn, List.dropWhile_cons_of_neg (p := fun y => decide (y < x)) hn]
   exact ⟨rfl, rfl⟩
 unfold putM
 conv => lhs; rw [e]
 rw [List.takeWhile_append_of_pos (p := fun y => decide (y < x)) a, List.dropWhile_append_of_pos (p := fun y => decide (y < x)) a, b.1, b.2, List.append_nil]
theorem put_len (l : List Int) (x : Int) : (putM l x).length = l.length + 1 := by
 unfold putM
 rw [List.length_append, List.length_cons, ← Nat.add_assoc, ← List.length_append, List.takeWhile_append_dropWhile]
theorem pick_step (is : Int → Bool) {l : List Wg} {i : Nat} {x : Wg} (hx : l[i]? = some x) : pickM is (l.take (i + 1)) = if is x.id then putM (pickM is (l.take i)) x.id else pickM is (l.take i) := by
 rw [List.take_add_one, hx]
 exact pick_snoc is _ _
theorem keep_yes {l : List Wg} {i : Nat} {x : Wg} {p : Wg → Bool} (hx : l[i]? = some x) (h : p x = true) : (l.take (i + 1)).filter p = (l.take i).filter p ++ [x] := by
 rw [List.take_add_one, hx, List.filter_append]
 simp [h]
theorem keep_no {l : List Wg} {i : Nat} {x : Wg} {p : Wg → Bool} (hx : l[i]? = some x) (h : p x = false) : (l.take (i + 1)).filter p = (l.take i).filter p := by
 rw [List.take_add_one, hx, List.filter_append]
 simp [h]
@[simp] theorem pCmp_ld42 (op : BinOp) (s : Ld) (K : AV → Prop) : pCmp E.P op 42 (eLd s) (eLd s) K = cmpK op true K := by
 rw [pCmp_flat _ _ _ _ _ rfl]
 simp [eLd, eSp, AV.flatI, AV.flatIs, AV.isAgg, eqt42]
@[simp] theorem pCmp_ld52 (op : BinOp) (s : Ld) (K : AV → Prop) : pCmp E.P op 52 (eLd s) (eLd s) K = cmpK op true K := by
 rw [pCmp_flat _ _ _ _ _ rfl]
 simp [eLd, eSp, AV.flatI, AV.flatIs, AV.isAgg, eqt52]
@[simp] theorem pCmp_wg45 (op : BinOp) (s : Wg) (K : AV → Prop) : pCmp E.P op 45 (eWg s) (eWg s) K = cmpK op true K := by
 rw [pCmp_flat _ _ _ _ _ rfl]
 simp [eWg, eSp, AV.flatI, AV.flatIs, AV.isAgg, eqt45]
def eRs (q : List Int × Int) : AV := .agg [eInts q.1, I q.2]

theorem c115 (l : List Int) (hl : l.length ≤ 1000) (z : Int) : Con E 115 [eInts l, I z] (eInts (putM l z)) := by
 intro n H hH
 have h00 := hh3 hH
 have ⟨hHs, hH', hpl⟩ := h00
 refine ACall.frz ?_
 refine at_start (fn := Tryz.f115) [.tmp 4] 35 H.length rfl rfl rfl rfl (by kernel_rfl) (by kernel_rfl) (by simp) (Nat.le_refl _) ?_
 refine sq ?_
 refine at_regK [0, 1] rfl ?_
 try simp [h00, o_i, f_a]
 refine sq ?_
 refine at_regK [0, 1, 5] rfl ?_
 try simp [h00, o_i, f_a]
 refine sq ?_
 refine at_block rfl ?_
 refine at_count l.length (fun i s => (∀ y ∈ l.take i, y < z) ∧ s = ⟨[(0, eInts l), (1, I z), (5, I i)], [], H⟩) rfl ⟨by simp, rfl⟩ ?_
 rintro i s hi ⟨hall, rfl⟩
 refine sq ?_
 refine sq ?_
 refine at_regK [0, 1, 5, 18] rfl ?_
 try simp [h00, o_i, f_a]
 refine pops_split 11 rfl (fun hg1 => ?_) (fun hg1 => ?_)
 ·
  have i0 : (i : Int) < l.length := by simpa using hg1
  obtain ⟨x, hx⟩ : ∃ x, l[i]? = some x := ⟨_, List.getElem?_eq_getElem (by omega)⟩
  have hxg : ∀ p, l[i]'p = x := fun p => (List.getElem?_eq_some_iff.1 hx).2
  have wi : IntKind.i64.wrap ((i : Int) + 1) = (i : Int) + 1 := wrap_id (by omega) (by omega)
  try simp [h00, o_i, f_a, hx, hxg, i0, wi, hg1]
  refine at_cond rfl rfl (fun hb18 => ?_) (fun hb18 => ?_)
  ·
   try simp at hb18
   refine at_skip (by kernel_rfl) ?_
   try simp [h00, o_i, f_a, hx, hxg, i0, wi]
   refine at_block rfl ?_
   refine at_regK [0, 1, 5] rfl ?_
   try simp [h00, o_i, f_a, hx, hxg, i0, wi]
   refine ⟨by omega, ?_⟩
   intro y hy
   rw [List.take_add_one, hx] at hy
   rcases List.mem_append.1 hy with hy | hy
   ·exact hall y hy
   ·simp at hy; omega
  ·
   try simp at hb18
   have hput : putM l z = l.take i ++ z :: l.drop i := put_at hall (fun y hy => by rw [hx] at hy; cases hy; omega)
   have hil : i ≤ l.length := hi
   have htk : (l.take i).length = i := by rw [List.length_take]; omega
   have hrow : List.take i (List.map I l) ++ I z :: List.drop i (List.take l.length (List.map I l)) = (putM l z).map I := by
    rw [hput, List.take_of_length_le (i := l.length) (by simp)]
    simp [List.map_take, List.map_drop]
   have hlen : i + 1 + (l.length - i) = ((putM l z).map I).length := by rw [List.length_map, put_len]; omega
   refine at_exit rfl ?_
   try simp [h00, o_i, f_a, hx, hxg, i0, wi, hil, htk]
   refine sq ?_
   refine at_regK [0, 1, 5, 6] rfl ?_
   try simp [h00, o_i, f_a, hx, hxg, i0, wi, hil, htk]
   refine sq ?_
   refine at_regK [0, 1, 5, 6] rfl ?_
   try simp [h00, o_i, f_a, hx, hxg, i0, wi, hil, htk]
   refine ⟨by omega, ?_⟩
   refine sq ?_
   refine at_regK [0, 5, 6] rfl ?_
   try simp [h00, o_i, f_a, hx, hxg, i0, wi, hil, htk]
   refine ⟨by omega, ?_⟩
   refine sq ?_
   refine at_regK [4] rfl ?_
   try simp [h00, o_i, f_a, hx, hxg, i0, wi, hil, htk]
   refine ⟨by omega, ?_⟩
   refine at_ret (by kernel_rfl) ?_
   try simp [h00, o_i, f_a, hx, hxg, i0, wi, hil, htk]
   rw [if_pos ⟨by rw [← List.map_take]; exact oks_I _ _, by rw [← List.map_take, ← List.map_drop]; exact oks_I _ _⟩, hrow, hlen]
   simp [List.idxOf?, List.findIdx?, List.findIdx?.go, AS.frzV, AS.expo, AS.expos, AS.setMem, AV.ok, AV.oks, eRs, eInts, hHs]
 ·
  have hput : putM l z = l.take i ++ z :: l.drop i := put_at hall (fun y hy => by have := (List.getElem?_eq_some_iff.1 hy).1; simp at hg1; omega)
  have hil : i ≤ l.length := hi
  have htk : (l.take i).length = i := by rw [List.length_take]; omega
  have hrow : List.take i (List.map I l) ++ I z :: List.drop i (List.take l.length (List.map I l)) = (putM l z).map I := by
   rw [hput, List.take_of_length_le (i := l.length) (by simp)]
   simp [List.map_take, List.map_drop]
  have hlen : i + 1 + (l.length - i) = ((putM l z).map I).length := by rw [List.length_map, put_len]; omega
  try simp [h00, o_i, f_a, hil, htk, hg1]
  refine at_cond rfl rfl (fun hb18 => by simp at hb18) (fun hb18 => ?_)
  refine at_exit rfl ?_
  try simp [h00, o_i, f_a, hil, htk]
  refine sq ?_
  refine at_regK [0, 1, 5, 6] rfl ?_
  try simp [h00, o_i, f_a, hil, htk]
  refine sq ?_
  refine at_regK [0, 1, 5, 6] rfl ?_
  try simp [h00, o_i, f_a, hil, htk]
  refine ⟨by omega, ?_⟩
  refine sq ?_
  refine at_regK [0, 5, 6] rfl ?_
  try simp [h00, o_i, f_a, hil, htk]
  refine ⟨by omega, ?_⟩
  refine sq ?_
  refine at_regK [4] rfl ?_
  try simp [h00, o_i, f_a, hil, htk]
  refine ⟨by omega, ?_⟩
  refine at_ret (by kernel_rfl) ?_
  try simp [h00, o_i, f_a, hil, htk]
  rw [if_pos ⟨by rw [← List.map_take]; exact oks_I _ _, by rw [← List.map_take, ← List.map_drop]; exact oks_I _ _⟩, hrow, hlen]
  simp [List.idxOf?, List.findIdx?, List.findIdx?.go, AS.frzV, AS.expo, AS.expos, AS.setMem, AV.ok, AV.oks, eRs, eInts, hHs]

theorem c158 (l : List Int) (hl : l.length ≤ 1000) (z : Int) : Con E 158 [eInts l, I z] (.bool (decide (z ∈ l))) := by
 intro n H hH
 have h00 := hh3 hH
 have ⟨hHs, hH', hpl⟩ := h00
 refine at_start (fn := Tryz.f158) [.tmp 4] 18 H.length rfl rfl rfl rfl (by kernel_rfl) (by kernel_rfl) (by simp) (Nat.le_refl _) ?_
 refine sq ?_
 refine at_regK [0, 1] rfl ?_
 try simp [h00, o_i, f_a]
 refine sq ?_
 refine sq ?_
 refine at_regK [0, 1, 5] rfl ?_
 try simp [h00, o_i, f_a]
 refine at_block rfl ?_
 refine at_count l.length (fun i s => z ∉ l.take i ∧ s = ⟨[(0, eInts l), (1, I z), (5, I i)], [], H⟩) rfl ⟨by simp, rfl⟩ ?_
 rintro i s hi ⟨hall, rfl⟩
 refine sq ?_
 refine sq ?_
 refine at_regK [0, 1, 5, 9] rfl ?_
 try simp [h00, o_i, f_a]
 refine at_cond rfl rfl (fun hb9 => ?_) (fun hb9 => ?_)
 ·
  try simp at hb9
  have i0 : (i : Int) < l.length := by omega
  obtain ⟨x, hx⟩ : ∃ x, l[i]? = some x := ⟨_, List.getElem?_eq_getElem (by omega)⟩
  have hxg : ∀ p, l[i]'p = x := fun p => (List.getElem?_eq_some_iff.1 hx).2
  have wi : IntKind.i64.wrap ((i : Int) + 1) = (i : Int) + 1 := wrap_id (by omega) (by omega)
  refine at_skip (by kernel_rfl) ?_
  try simp [h00, o_i, f_a, hx, hxg, i0, wi]
  refine sq ?_
  refine at_block rfl ?_
  refine sq ?_
  refine at_regK [0, 1, 5, 17] rfl ?_
  try simp [h00, o_i, f_a, hx, hxg, i0, wi]
  refine at_cond rfl rfl (fun hb17 => ?_) (fun hb17 => ?_)
  ·
   try simp at hb17
   refine sq ?_
   refine at_regK [4] rfl ?_
   try simp [h00, o_i, f_a, hx, hxg, i0, wi]
   refine at_ret (by kernel_rfl) ?_
   try simp [h00, o_i, f_a, hx, hxg, i0, wi]
   subst hb17
   exact List.mem_of_getElem? hx
  ·
   try simp at hb17
   refine at_skip (by kernel_rfl) ?_
   try simp [h00, o_i, f_a, hx, hxg, i0, wi]
   refine at_regK [0, 1, 5] rfl ?_
   try simp [h00, o_i, f_a, hx, hxg, i0, wi]
   refine ⟨by omega, ?_⟩
   rw [List.take_add_one, hx]
   simp
   exact ⟨by simpa using hall, fun e => hb17 e.symm⟩
 ·
  try simp at hb9
  refine at_exit rfl ?_
  try simp [h00, o_i, f_a]
  refine sq ?_
  refine at_regK [4] rfl ?_
  try simp [h00, o_i, f_a]
  refine at_ret (by kernel_rfl) ?_
  try simp [h00, o_i, f_a]
  rw [List.take_of_length_le (by omega)] at hall
  exact hall

theorem c114 (k : Kn) (hk : Few k) (l : List Int) (hl : l.length ≤ 1000) : Con E 114 [eKn k, eInts l] (eKn (withoutM k l)) := by
 intro n H hH
 have h00 := hh3 hH
 have ⟨hHs, hH', hpl⟩ := h00
 have hL := hk.l; have hD := hk.d; have hW := hk.w
 refine ACall.frz ?_
 refine at_start (fn := Tryz.f114) [.cell 4 26] 45 H.length rfl rfl rfl rfl (by kernel_rfl) (by kernel_rfl) (by simp) (Nat.le_refl _) ?_
 refine sq ?_
 refine at_regK [1, 2, 4] rfl ?_
 try simp [h00, o_i, f_a]
 refine sq ?_
 refine at_regK [1, 2, 4, 5] rfl ?_
 try simp [h00, o_i, f_a]
 refine at_leads (leads_nilC 2 6 [4] rfl rfl rfl (by decide)) ?_
 simp
 refine sq ?_
 refine sq ?_
 refine at_regK [1, 2, 4, 5, 6] rfl ?_
 try simp [h00, o_i, f_a]
 refine at_block rfl ?_
 refine at_count k.weighs.length (fun i s => s = ⟨[(1, eInts l), (2, .ref false 0 0 [] 0), (4, .ref false 1 0 [] 0), (5, .ref false 2 0 [] 0), (6, I i)], [.cell (eKn k), .cell (.agg [I 0, I 0, .nilS, .nilS, .nilS]), .cell (.agg [I k.room, I k.per, eLds k.loads, eLds k.draws, .own false 3 ((k.weighs.take i).filter fun w => !decide (w.id ∈ l)).length]), .row 6 (((k.weighs.take i).filter fun w => !decide (w.id ∈ l)).map eWg)], H⟩) rfl rfl ?_
 rintro i s hi rfl
 refine sq ?_
 refine sq ?_
 refine at_regK [1, 2, 4, 5, 6, 21] rfl ?_
 try simp [h00, o_i, f_a]
 refine at_cond rfl rfl (fun hb21 => ?_) (fun hb21 => ?_)
 ·
  try simp at hb21
  obtain ⟨x, hx⟩ : ∃ x, k.weighs[i]? = some x := ⟨_, List.getElem?_eq_getElem (by omega)⟩
  have i0 : (i : Int) < k.weighs.length := by omega
  have wi : IntKind.i64.wrap ((i : Int) + 1) = (i : Int) + 1 := wrap_id (by omega) (by omega)
  have m1 : ((k.weighs.take i).filter fun w => !decide (w.id ∈ l)).length ≤ k.weighs.length := Nat.le_trans (List.length_filter_le _ _) (by rw [List.length_take]; omega)
  refine at_skip (by kernel_rfl) ?_
  try simp [h00, o_i, f_a, hx, i0, wi]
  refine sq ?_
  refine at_block rfl ?_
  refine sq ?_
  refine at_regK [1, 2, 4, 5, 6, 7] rfl ?_
  try simp [h00, o_i, f_a, hx, i0, wi]
  refine (c158 l hl x.id).use hH ?_
  try simp [h00, o_i, f_a, hx, i0, wi]
  refine sq ?_
  refine at_regK [1, 2, 4, 5, 6, 33] rfl ?_
  try simp [h00, o_i, f_a, hx, i0, wi]
  refine at_cond rfl rfl (fun hb33 => ?_) (fun hb33 => ?_)
  ·
   try simp at hb33
   have s1 := keep_yes (p := fun w => !decide (w.id ∈ l)) hx (by simpa using hb33)
   refine at_draw [1, 2, 4, 5, 6] [0,1,0,1,0,0,1,2,3,0,3] [] rfl Efol (by kernel_rfl) (by simp) ?_
   try simp [h00, o_i, f_a, hx, i0, wi]
   refine ⟨by omega, ?_⟩
   refine at_regC 4 [1, 2, 4, 5, 6] rfl ?_
   try simp [h00, o_i, f_a, hx, i0, wi]
   refine ⟨by omega, ?_⟩
   rw [s1]
   simp
  ·
   try simp at hb33
   have s1 := keep_no (p := fun w => !decide (w.id ∈ l)) hx (by simpa using hb33)
   refine at_skip (by kernel_rfl) ?_
   try simp [h00, o_i, f_a, hx, i0, wi]
   refine at_regC 4 [1, 2, 4, 5, 6] rfl ?_
   try simp [h00, o_i, f_a, hx, i0, wi]
   refine ⟨by omega, ?_⟩
   rw [s1]
   simp
 ·
  try simp at hb21
  obtain rfl : i = k.weighs.length := by omega
  refine at_exit rfl ?_
  try simp [h00, o_i, f_a]
  refine sq ?_
  refine at_regK [4] rfl ?_
  try simp [h00, o_i, f_a]
  refine at_ret (by kernel_rfl) ?_
  try simp [h00, o_i, f_a]
  simp [AS.frzV, AS.expo, AS.expos, AS.setMem, AV.ok, AV.oks, eKn, eLds, eWgs, withoutM, hHs]

theorem c46 (k : Kn) (hk : Few k) (l : List Int) (hl : l.length ≤ 1000) : Con E 46 [eKn k, eInts l] (.agg [knV k l, I (withoutE k l).2]) := by
 intro n H hH
 have h00 := hh3 hH
 have ⟨hHs, hH', hpl⟩ := h00
 refine at_start (fn := Tryz.f46) [.cell 4 78] 16 H.length rfl rfl rfl rfl (by kernel_rfl) (by kernel_rfl) (by simp) (Nat.le_refl _) ?_
 refine sq ?_
 refine at_regK [1, 2, 4] rfl ?_
 try simp [h00, o_i, f_a]
 refine sq ?_
 refine at_regK [1, 2, 4, 5] rfl ?_
 try simp [h00, o_i, f_a]
 refine (c53 k hk).use hH ?_
 try simp [h00, o_i, f_a]
 refine sq ?_
 refine sq ?_
 refine at_regK [1, 2, 4, 5, 9] rfl ?_
 try simp [h00, o_i, f_a]
 refine at_cond rfl rfl (fun hb9 => ?_) (fun hb9 => ?_)
 ·
  try simp at hb9
  refine sq ?_
  refine at_regK [4] rfl ?_
  try simp [h00, o_i, f_a]
  refine at_ret (by kernel_rfl) ?_
  try simp [h00, o_i, f_a]
  unfold knV withoutE
  rw [if_pos hb9, if_pos hb9]
  exact ⟨rfl, rfl⟩
 ·
  try simp at hb9
  refine at_skip (by kernel_rfl) ?_
  try simp [h00, o_i, f_a]
  refine sq ?_
  refine at_regK [4] rfl ?_
  try simp [h00, o_i, f_a]
  refine (c114 k hk l hl).use hH ?_
  try simp [h00, o_i, f_a]
  refine at_ret (by kernel_rfl) ?_
  try simp [h00, o_i, f_a]
  unfold knV withoutE
  rw [if_neg (by simp [hb9]), if_neg (by simp [hb9])]
  exact ⟨rfl, rfl⟩

theorem c46w (k : Kn) (hk : Few k) (l : List Int) (hl : l.length ≤ 1000) : Con E 46 [eKn k, eInts l] (.agg [eKn (withoutE k l).1, I (withoutE k l).2]) := by
 refine (c46 k hk l hl).weak ?_
 unfold knV withoutE
 split
 ·have w := Wk.agg (.cons (Wk.agg (.cons (Wk.refl (I 0)) (.cons (Wk.refl (I 0)) (.cons (Wk.nil 4) (.cons (Wk.nil 4) (.cons (Wk.nil 6) .nil)))))) (.cons (Wk.refl (I (check k))) .nil))
  exact fun c m h => w.VR rfl h
 ·exact fun _ _ h => h
theorem few_wE {k : Kn} (hk : Few k) (l : List Int) : Few (withoutE k l).1 := by
 unfold withoutE
 split
 ·exact ⟨by simp [zKn], by simp [zKn], by simp [zKn]⟩
 ·exact few_without hk l

theorem c47 (k : Kn) (hk : Few k) : Con E 47 [eKn k, eKn k] (.bool true) := by
 intro n H hH
 have h00 := hh3 hH
 have ⟨hHs, hH', hpl⟩ := h00
 have hL := hk.l; have hD := hk.d; have hW := hk.w
 refine at_start (fn := Tryz.f47) [.tmp 4] 101 H.length rfl rfl rfl rfl (by kernel_rfl) (by kernel_rfl) (by simp) (Nat.le_refl _) ?_
 refine sq ?_
 refine at_regK [2, 3] rfl ?_
 try simp [h00, o_i, f_a]
 refine sq ?_
 refine sq ?_
 refine at_regK [2, 3, 46] rfl ?_
 try simp [h00, o_i, f_a]
 refine at_cond rfl rfl (fun hb46 => by simp at hb46) (fun hb46 => ?_)
 refine at_skip (by kernel_rfl) ?_
 try simp [h00, o_i, f_a]
 refine sq ?_
 refine sq ?_
 refine at_regK [2, 3, 5] rfl ?_
 try simp [h00, o_i, f_a]
 refine at_block rfl ?_
 refine at_count k.loads.length (fun i s => s = ⟨[(2, .ref false 0 0 [] 0), (3, .ref false 1 0 [] 0), (5, I i)], [.cell (eKn k), .cell (eKn k)], H⟩) rfl rfl ?_
 rintro i s hi rfl
 refine sq ?_
 refine sq ?_
 refine at_regK [2, 3, 5, 51] rfl ?_
 try simp [h00, o_i, f_a]
 refine at_cond rfl rfl (fun hb51 => ?_) (fun hb51 => ?_)
 ·
  try simp at hb51
  obtain ⟨x, hx⟩ : ∃ x, k.loads[i]? = some x := ⟨_, List.getElem?_eq_getElem (by omega)⟩
  have i0 : (i : Int) < k.loads.length := by omega
  have wi : IntKind.i64.wrap ((i : Int) + 1) = (i : Int) + 1 := wrap_id (by omega) (by omega)
  refine at_skip (by kernel_rfl) ?_
  try simp [h00, o_i, f_a, hx, i0, wi]
  refine sq ?_
  refine at_block rfl ?_
  refine sq ?_
  refine at_draw [2, 3, 5, 64] [0, 1, 0, 0, 1, 0, 1, 0, 0, 1, 0] [] rfl Efol (by kernel_rfl) (by simp) ?_
  try simp [h00, o_i, f_a, hx, i0, wi]
  refine at_cond rfl rfl (fun hb64 => by simp at hb64) (fun hb64 => ?_)
  refine at_skip (by kernel_rfl) ?_
  try simp [h00, o_i, f_a, hx, i0, wi]
  refine at_regK [2, 3, 5] rfl ?_
  try simp [h00, o_i, f_a, hx, i0, wi]
  omega
 ·
  try simp at hb51
  refine at_exit rfl ?_
  try simp [h00, o_i, f_a]
  refine sq ?_
  refine sq ?_
  refine at_regK [2, 3, 6] rfl ?_
  try simp [h00, o_i, f_a]
  refine at_block rfl ?_
  refine at_count k.draws.length (fun i s => s = ⟨[(2, .ref false 0 0 [] 0), (3, .ref false 1 0 [] 0), (6, I i)], [.cell (eKn k), .cell (eKn k)], H⟩) rfl rfl ?_
  rintro i s hi rfl
  refine sq ?_
  refine sq ?_
  refine at_regK [2, 3, 6, 69] rfl ?_
  try simp [h00, o_i, f_a]
  refine at_cond rfl rfl (fun hb69 => ?_) (fun hb69 => ?_)
  ·
   try simp at hb69
   obtain ⟨x, hx⟩ : ∃ x, k.draws[i]? = some x := ⟨_, List.getElem?_eq_getElem (by omega)⟩
   have i0 : (i : Int) < k.draws.length := by omega
   have wi : IntKind.i64.wrap ((i : Int) + 1) = (i : Int) + 1 := wrap_id (by omega) (by omega)
   refine at_skip (by kernel_rfl) ?_
   try simp [h00, o_i, f_a, hx, i0, wi]
   refine sq ?_
   refine at_block rfl ?_
   refine sq ?_
   refine at_draw [2, 3, 6, 82] [0, 1, 0, 0, 1, 0, 1, 0, 0, 1, 0] [] rfl Efol (by kernel_rfl) (by simp) ?_
   try simp [h00, o_i, f_a, hx, i0, wi]
   refine at_cond rfl rfl (fun hb82 => by simp at hb82) (fun hb82 => ?_)
   refine at_skip (by kernel_rfl) ?_
   try simp [h00, o_i, f_a, hx, i0, wi]
   refine at_regK [2, 3, 6] rfl ?_
   try simp [h00, o_i, f_a, hx, i0, wi]
   omega
  ·
   try simp at hb69
   refine at_exit rfl ?_
   try simp [h00, o_i, f_a]
   refine sq ?_
   refine sq ?_
   refine at_regK [2, 3, 7] rfl ?_
   try simp [h00, o_i, f_a]
   refine at_block rfl ?_
   refine at_count k.weighs.length (fun i s => s = ⟨[(2, .ref false 0 0 [] 0), (3, .ref false 1 0 [] 0), (7, I i)], [.cell (eKn k), .cell (eKn k)], H⟩) rfl rfl ?_
   rintro i s hi rfl
   refine sq ?_
   refine sq ?_
   refine at_regK [2, 3, 7, 87] rfl ?_
   try simp [h00, o_i, f_a]
   refine at_cond rfl rfl (fun hb87 => ?_) (fun hb87 => ?_)
   ·
    try simp at hb87
    obtain ⟨x, hx⟩ : ∃ x, k.weighs[i]? = some x := ⟨_, List.getElem?_eq_getElem (by omega)⟩
    have i0 : (i : Int) < k.weighs.length := by omega
    have wi : IntKind.i64.wrap ((i : Int) + 1) = (i : Int) + 1 := wrap_id (by omega) (by omega)
    refine at_skip (by kernel_rfl) ?_
    try simp [h00, o_i, f_a, hx, i0, wi]
    refine sq ?_
    refine at_block rfl ?_
    refine sq ?_
    refine at_draw [2, 3, 7, 100] [0, 1, 0, 0, 1, 0, 1, 0, 0, 1, 0] [] rfl Efol (by kernel_rfl) (by simp) ?_
    try simp [h00, o_i, f_a, hx, i0, wi]
    refine at_cond rfl rfl (fun hb100 => by simp at hb100) (fun hb100 => ?_)
    refine at_skip (by kernel_rfl) ?_
    try simp [h00, o_i, f_a, hx, i0, wi]
    refine at_regK [2, 3, 7] rfl ?_
    try simp [h00, o_i, f_a, hx, i0, wi]
    omega
   ·
    try simp at hb87
    refine at_exit rfl ?_
    try simp [h00, o_i, f_a]
    refine sq ?_
    refine at_regK [4] rfl ?_
    try simp [h00, o_i, f_a]
    refine at_ret (by kernel_rfl) ?_
    try simp [h00, o_i, f_a]

theorem c42 (k : Kn) (hk : Few k) (a b : Int) : Con E 42 [eKn k, I a, I b] (eRs (restsM k a b)) := by
 intro n H hH
 have h00 := hh3 hH
 have ⟨hHs, hH', hpl⟩ := h00
 rw [← rests_eq]
 have hW := hk.w
 obtain ⟨most, hm⟩ : ∃ m, (mostR k a b).1 = m := ⟨_, rfl⟩
 refine at_start (fn := Tryz.f42) [.cell 6 71] 61 H.length rfl rfl rfl rfl (by kernel_rfl) (by kernel_rfl) (by simp) (Nat.le_refl _) ?_
 refine sq ?_
 refine at_regK [1, 2, 3, 6] rfl ?_
 try simp [h00, o_i, f_a, hm]
 refine sq ?_
 refine at_regK [1, 2, 3, 6, 7, 8] rfl ?_
 try simp [h00, o_i, f_a, hm]
 refine (c64 k hk a b).use hH ?_
 try simp [h00, o_i, f_a, hm]
 refine sq ?_
 refine sq ?_
 refine at_regK [1, 2, 3, 6, 7, 8, 21] rfl ?_
 try simp [h00, o_i, f_a, hm]
 refine at_cond rfl rfl (fun hb21 => ?_) (fun hb21 => ?_)
 ·
  try simp at hb21
  refine sq ?_
  refine at_regK [6] rfl ?_
  try simp [h00, o_i, f_a, hm]
  refine at_leads (leads_nilC 1 1 [0] rfl rfl rfl (by decide)) ?_
  simp
  refine at_leads (leads_freezeC (q := 2) (j := 1) (i := 0) rfl rfl (by decide) rfl) ?_
  simp
  refine at_ret (by kernel_rfl) ?_
  try simp [h00, o_i, f_a, hm]
  unfold restsR
  rw [if_pos (by simpa using hb21)]
  rfl
 ·
  try simp at hb21
  obtain ⟨g, hgd⟩ : ∃ g : Int → Bool, g = fun i => decide ((mostR (withoutM k [i]) a b).1 ≠ most) := ⟨_, rfl⟩
  have hg : ∀ i, g i = decide ((mostR (withoutM k [i]) a b).1 ≠ most) := fun i => by rw [hgd]
  have hres : restsR k a b = (pickM g k.weighs, 0) := by
   unfold restsR
   rw [if_neg (by simpa using hb21), hm, hgd]
  refine at_skip (by kernel_rfl) ?_
  try simp [h00, o_i, f_a, hm]
  refine sq ?_
  refine at_regK [1, 2, 3, 6, 7, 9] rfl ?_
  try simp [h00, o_i, f_a, hm]
  refine at_leads (leads_nilC 2 1 [0] rfl rfl rfl (by decide)) ?_
  simp
  refine at_leads (leads_freezeC (q := 3) (j := 2) (i := 0) rfl rfl (by decide) rfl) ?_
  simp
  refine sq ?_
  refine sq ?_
  refine at_regK [1, 2, 3, 6, 7, 9, 10] rfl ?_
  try simp [h00, o_i, f_a, hm]
  refine at_block rfl ?_
  refine at_count k.weighs.length (fun i s => s = ⟨[(1, I a), (2, I b), (3, .ref false 0 0 [] 0), (6, .ref false 1 0 [] 0), (7, I most), (9, .ref false 2 0 [] 0), (10, I i)], [.cell (eKn k), .cell (.agg [.nilS, I 0]), .cell (.agg [eInts (pickM g (k.weighs.take i)), I 0]), .frow 1 []], H⟩) rfl rfl ?_
  rintro i s hi rfl
  refine sq ?_
  refine sq ?_
  refine at_regK [1, 2, 3, 6, 7, 9, 10, 29] rfl ?_
  try simp [h00, o_i, f_a, hm]
  refine at_cond rfl rfl (fun hb29 => ?_) (fun hb29 => ?_)
  ·
   try simp at hb29
   obtain ⟨x, hx⟩ : ∃ x, k.weighs[i]? = some x := ⟨_, List.getElem?_eq_getElem (by omega)⟩
   have i0 : (i : Int) < k.weighs.length := by omega
   have wi : IntKind.i64.wrap ((i : Int) + 1) = (i : Int) + 1 := wrap_id (by omega) (by omega)
   have m1 : (pickM g (k.weighs.take i)).length ≤ 100 := Nat.le_trans (pick_len _ _) (by rw [List.length_take]; omega)
   have st := pick_step g hx
   have hgx := hg x.id
   refine at_skip (by kernel_rfl) ?_
   try simp [h00, o_i, f_a, hm, hx, i0, wi]
   refine sq ?_
   refine at_block rfl ?_
   refine sq ?_
   refine at_draw [1, 2, 3, 6, 7, 9, 10, 11] [1,0,1,0,0,0,1,2,3,0,0,1,0,0,0,0,0] [] rfl Efol (by kernel_rfl) (by simp) ?_
   try simp [h00, o_i, f_a, hm, hx, i0, wi]
   refine (c114 k hk [x.id] (by simp)).turn hH ?_
   try simp [h00, o_i, f_a, hm, hx, i0, wi]
   refine (c64 (withoutM k [x.id]) (few_without hk _) a b).draw hH ?_
   try simp [h00, o_i, f_a, hm, hx, i0, wi]
   refine sq ?_
   refine at_regK [1, 2, 3, 6, 7, 9, 10, 49] rfl ?_
   try simp [h00, o_i, f_a, hm, hx, i0, wi]
   refine at_cond rfl rfl (fun hb49 => ?_) (fun hb49 => ?_)
   ·
    try simp at hb49
    rw [hgx, if_pos (by simpa using hb49)] at st
    refine at_draw [1, 2, 3, 6, 7, 9, 10] [0,1,0,1,0,0,0,1,1,0,3] [] rfl Efol (by kernel_rfl) (by simp) ?_
    try simp [h00, o_i, f_a, hm, hx, i0, wi]
    refine (c115 _ (by omega) x.id).draw hH ?_
    try simp [h00, o_i, f_a, hm, hx, i0, wi]
    refine at_regC 4 [1, 2, 3, 6, 7, 9, 10] rfl ?_
    try simp [h00, o_i, f_a, hm, hx, i0, wi]
    refine ⟨by omega, ?_⟩
    rw [st]
   ·
    try simp at hb49
    rw [hgx, if_neg (by simpa using hb49)] at st
    refine at_skip (by kernel_rfl) ?_
    try simp [h00, o_i, f_a, hm, hx, i0, wi]
    refine at_regC 4 [1, 2, 3, 6, 7, 9, 10] rfl ?_
    try simp [h00, o_i, f_a, hm, hx, i0, wi]
    refine ⟨by omega, ?_⟩
    rw [st]
  ·
   try simp at hb29
   obtain rfl : i = k.weighs.length := by omega
   refine at_exit rfl ?_
   try simp [h00, o_i, f_a, hm]
   refine sq ?_
   refine at_regK [6] rfl ?_
   try simp [h00, o_i, f_a, hm]
   refine at_ret (by kernel_rfl) ?_
   try simp [h00, o_i, f_a, hm]
   rw [hres]
   rfl

theorem c44 (k : Kn) (hk : Few k) : Con E 44 [eKn k] (eRs (suspectsM k)) := by
 intro n H hH
 have h00 := hh3 hH
 have ⟨hHs, hH', hpl⟩ := h00
 rw [← suspects_eq]
 have hW := hk.w
 refine at_start (fn := Tryz.f44) [.cell 2 71] 47 H.length rfl rfl rfl rfl (by kernel_rfl) (by kernel_rfl) (by simp) (Nat.le_refl _) ?_
 refine sq ?_
 refine at_regK [1, 2] rfl ?_
 try simp [h00, o_i, f_a]
 refine sq ?_
 refine at_regK [1, 2, 3] rfl ?_
 try simp [h00, o_i, f_a]
 refine (c53 k hk).use hH ?_
 try simp [h00, o_i, f_a]
 refine sq ?_
 refine sq ?_
 refine at_regK [1, 2, 3, 10] rfl ?_
 try simp [h00, o_i, f_a]
 refine at_cond rfl rfl (fun hb10 => ?_) (fun hb10 => ?_)
 ·
  try simp at hb10
  refine sq ?_
  refine at_regK [2] rfl ?_
  try simp [h00, o_i, f_a]
  refine at_leads (leads_nilC 1 1 [0] rfl rfl rfl (by decide)) ?_
  simp
  refine at_leads (leads_freezeC (q := 2) (j := 1) (i := 0) rfl rfl (by decide) rfl) ?_
  simp
  refine at_ret (by kernel_rfl) ?_
  try simp [h00, o_i, f_a]
  unfold suspectsR
  rw [if_pos (by simpa using hb10)]
  rfl
 ·
  try simp at hb10
  have hc : check k = 0 := by simpa using hb10
  refine at_skip (by kernel_rfl) ?_
  try simp [h00, o_i, f_a]
  refine sq ?_
  refine at_regK [1, 2, 4] rfl ?_
  try simp [h00, o_i, f_a]
  refine at_leads (leads_nilC 2 1 [0] rfl rfl rfl (by decide)) ?_
  simp
  refine at_leads (leads_freezeC (q := 3) (j := 2) (i := 0) rfl rfl (by decide) rfl) ?_
  simp
  refine sq ?_
  refine at_regK [1, 2, 4, 5] rfl ?_
  try simp [h00, o_i, f_a]
  refine (c56 k hk hc).use hH ?_
  try simp [h00, o_i, f_a]
  refine sq ?_
  refine sq ?_
  refine at_regK [1, 2, 4, 16] rfl ?_
  try simp [h00, o_i, f_a]
  refine at_cond rfl rfl (fun hb16 => ?_) (fun hb16 => ?_)
  ·
   try simp at hb16
   refine sq ?_
   refine at_regK [2] rfl ?_
   try simp [h00, o_i, f_a]
   refine at_ret (by kernel_rfl) ?_
   try simp [h00, o_i, f_a]
   unfold suspectsR
   rw [if_neg (by simp [hc]), if_pos (by simpa using hb16)]
   rfl
  ·
   try simp at hb16
   obtain ⟨g, hgd⟩ : ∃ g : Int → Bool, g = fun i => tokB (withoutM k [i]) (tiesM (withoutM k [i])) := ⟨_, rfl⟩
   have hg : ∀ i, g i = tokB (withoutM k [i]) (tiesM (withoutM k [i])) := fun i => by rw [hgd]
   have hres : suspectsR k = (pickM g k.weighs, 0) := by
    unfold suspectsR
    rw [if_neg (by simp [hc]), if_neg (by simp [hb16]), hgd]
   refine at_skip (by kernel_rfl) ?_
   try simp [h00, o_i, f_a]
   refine sq ?_
   refine sq ?_
   refine at_regK [1, 2, 4, 6] rfl ?_
   try simp [h00, o_i, f_a]
   refine at_block rfl ?_
   refine at_count k.weighs.length (fun i s => s = ⟨[(1, .ref false 0 0 [] 0), (2, .ref false 1 0 [] 0), (4, .ref false 2 0 [] 0), (6, I i)], [.cell (eKn k), .cell (.agg [.nilS, I 0]), .cell (.agg [eInts (pickM g (k.weighs.take i)), I 0]), .frow 1 []], H⟩) rfl rfl ?_
   rintro i s hi rfl
   refine sq ?_
   refine sq ?_
   refine at_regK [1, 2, 4, 6, 22] rfl ?_
   try simp [h00, o_i, f_a]
   refine at_cond rfl rfl (fun hb22 => ?_) (fun hb22 => ?_)
   ·
    try simp at hb22
    obtain ⟨x, hx⟩ : ∃ x, k.weighs[i]? = some x := ⟨_, List.getElem?_eq_getElem (by omega)⟩
    have i0 : (i : Int) < k.weighs.length := by omega
    have wi : IntKind.i64.wrap ((i : Int) + 1) = (i : Int) + 1 := wrap_id (by omega) (by omega)
    have m1 : (pickM g (k.weighs.take i)).length ≤ 100 := Nat.le_trans (pick_len _ _) (by rw [List.length_take]; omega)
    have st := pick_step g hx
    have hgx := hg x.id
    refine at_skip (by kernel_rfl) ?_
    try simp [h00, o_i, f_a, hx, i0, wi]
    refine sq ?_
    refine at_block rfl ?_
    refine sq ?_
    refine at_draw [1, 2, 4, 5, 6] [1,0,1,0,0,0,1,2,3,1,0] [] rfl Efol (by kernel_rfl) (by simp) ?_
    try simp [h00, o_i, f_a, hx, i0, wi]
    refine (c114 k hk [x.id] (by simp)).turn hH ?_
    try simp [h00, o_i, f_a, hx, i0, wi]
    refine (c56 (withoutM k [x.id]) (few_without hk _) (check_without hc _)).draw hH ?_
    try simp [h00, o_i, f_a, hx, i0, wi]
    refine sq ?_
    refine at_regK [1, 2, 4, 6, 35] rfl ?_
    try simp [h00, o_i, f_a, hx, i0, wi]
    refine at_cond rfl rfl (fun hb35 => ?_) (fun hb35 => ?_)
    ·
     try simp at hb35
     rw [hgx, if_pos (by simpa using hb35)] at st
     refine at_draw [1, 2, 4, 6] [0,1,0,1,0,0,0,1,1,0,3] [] rfl Efol (by kernel_rfl) (by simp) ?_
     try simp [h00, o_i, f_a, hx, i0, wi]
     refine (c115 _ (by omega) x.id).draw hH ?_
     try simp [h00, o_i, f_a, hx, i0, wi]
     refine at_regC 4 [1, 2, 4, 6] rfl ?_
     try simp [h00, o_i, f_a, hx, i0, wi]
     refine ⟨by omega, ?_⟩
     rw [st]
    ·
     try simp at hb35
     rw [hgx, if_neg (by simp [hb35])] at st
     refine at_skip (by kernel_rfl) ?_
     try simp [h00, o_i, f_a, hx, i0, wi]
     refine at_regC 4 [1, 2, 4, 6] rfl ?_
     try simp [h00, o_i, f_a, hx, i0, wi]
     refine ⟨by omega, ?_⟩
     rw [st]
   ·
    try simp at hb22
    obtain rfl : i = k.weighs.length := by omega
    refine at_exit rfl ?_
    try simp [h00, o_i, f_a]
    refine sq ?_
    refine at_regK [2] rfl ?_
    try simp [h00, o_i, f_a]
    refine at_ret (by kernel_rfl) ?_
    try simp [h00, o_i, f_a]
    rw [hres]
    rfl

theorem c8 (k : Kn) (a b : Int) (l : List Int) : Con E 8 [eKn k, I a, I b, eInts l] (.bool true) := by
 intro n H hH
 have h00 := hh3 hH
 have ⟨hHs, hH', hpl⟩ := h00
 refine at_start (fn := Tryz.f8) [.tmp 8] 91 H.length rfl rfl rfl rfl (by kernel_rfl) (by kernel_rfl) (by simp) (Nat.le_refl _) ?_
 refine sq ?_
 refine at_regK [1, 2, 3, 4] rfl ?_
 try simp (config := { maxSteps := 4000000 }) [h00, o_i, f_a, eRs]
 refine sq ?_
 refine sq ?_
 refine at_regK [1, 2, 3, 4, 25] rfl ?_
 try simp (config := { maxSteps := 4000000 }) [h00, o_i, f_a, eRs]
 refine (c16 k).use hH ?_
 try simp (config := { maxSteps := 4000000 }) [h00, o_i, f_a, eRs]
 refine pops_split 21 rfl (fun hg1 => ?_) (fun hg1 => ?_)
 ·
  try simp (config := { maxSteps := 4000000 }) [h00, o_i, f_a, eRs, hg1]
  refine at_cond rfl rfl (fun hb25 => ?_) (fun hb25 => by simp at hb25)
  refine sq ?_
  refine at_regK [8] rfl ?_
  try simp (config := { maxSteps := 4000000 }) [h00, o_i, f_a, eRs]
  refine c17.use hH ?_
  try simp (config := { maxSteps := 4000000 }) [h00, o_i, f_a, eRs]
  refine at_ret (by kernel_rfl) ?_
  try simp (config := { maxSteps := 4000000 }) [h00, o_i, f_a, eRs]
 ·
  have hfw : fewB k = true := by simpa using hg1
  have hk := fewB_few hfw
  have hw5 : check k = 0 → k.weighs.length ≤ 12 := fun hc => by have := fewB_w hfw hc; omega
  have hW := hk.w
  have r1 := rests_len k a b
  have r2 := sus_len k
  try simp (config := { maxSteps := 4000000 }) [h00, o_i, f_a, eRs, hg1]
  refine at_cond rfl rfl (fun hb25 => ?_) (fun hb25 => ?_)
  ·
   try simp at hb25
   refine sq ?_
   refine at_regK [8] rfl ?_
   try simp (config := { maxSteps := 4000000 }) [h00, o_i, f_a, eRs]
   refine c17.use hH ?_
   try simp (config := { maxSteps := 4000000 }) [h00, o_i, f_a, eRs]
   refine at_ret (by kernel_rfl) ?_
   try simp (config := { maxSteps := 4000000 }) [h00, o_i, f_a, eRs]
  ·
   try simp at hb25
   have hl : l.length ≤ 1000 := by omega
   refine at_skip (by kernel_rfl) ?_
   try simp (config := { maxSteps := 4000000 }) [h00, o_i, f_a, eRs]
   refine sq ?_
   refine at_regK [1, 2, 3, 4, 9, 10] rfl ?_
   try simp (config := { maxSteps := 4000000 }) [h00, o_i, f_a, eRs]
   refine (c41 k hk hw5 a b).use hH ?_
   try simp (config := { maxSteps := 4000000 }) [h00, o_i, f_a, eRs]
   refine sq ?_
   refine at_regK [3, 4, 9, 10, 11] rfl ?_
   try simp (config := { maxSteps := 4000000 }) [h00, o_i, f_a, eRs]
   refine (c42 k hk a b).use hH ?_
   try simp (config := { maxSteps := 4000000 }) [h00, o_i, f_a, eRs]
   refine sq ?_
   refine at_regK [3, 4, 9, 10, 11, 12, 13] rfl ?_
   try simp (config := { maxSteps := 4000000 }) [h00, o_i, f_a, eRs]
   refine (c43 k hk hw5).use hH ?_
   try simp (config := { maxSteps := 4000000 }) [h00, o_i, f_a, eRs]
   refine sq ?_
   refine at_regK [3, 4, 9, 10, 11, 12, 13, 14] rfl ?_
   try simp (config := { maxSteps := 4000000 }) [h00, o_i, f_a, eRs]
   refine (c44 k hk).use hH ?_
   try simp (config := { maxSteps := 4000000 }) [h00, o_i, f_a, eRs]
   refine sq ?_
   refine at_regK [3, 4, 9, 10, 11, 12, 13, 14, 15, 16] rfl ?_
   try simp (config := { maxSteps := 4000000 }) [h00, o_i, f_a, eRs]
   refine (c45 k hk l (by omega)).use hH ?_
   try simp (config := { maxSteps := 4000000 }) [h00, o_i, f_a, eRs]
   refine sq ?_
   refine at_regK [9, 10, 11, 12, 13, 14, 15, 16, 17] rfl ?_
   try simp (config := { maxSteps := 4000000 }) [h00, o_i, f_a, eRs]
   refine (c46w k hk l hl).use hH ?_
   try simp (config := { maxSteps := 4000000 }) [h00, o_i, f_a, eRs]
   refine sq ?_
   refine at_regK [8] rfl ?_
   try simp (config := { maxSteps := 4000000 }) [h00, o_i, f_a, eRs]
   refine c17.use hH ?_
   try simp (config := { maxSteps := 4000000 }) [h00, o_i, f_a, eRs]
   refine (c40 _ _ (by omega) (by omega)).use hH ?_
   try simp (config := { maxSteps := 4000000 }) [h00, o_i, f_a, eRs]
   refine (c40 _ _ (by omega) (by omega)).use hH ?_
   try simp (config := { maxSteps := 4000000 }) [h00, o_i, f_a, eRs]
   refine (c47 (withoutE k l).1 (few_wE hk l)).use hH ?_
   try simp (config := { maxSteps := 4000000 }) [h00, o_i, f_a, eRs]
   refine at_ret (by kernel_rfl) ?_
   try simp (config := { maxSteps := 4000000 }) [h00, o_i, f_a, eRs]
end Go.Abs
