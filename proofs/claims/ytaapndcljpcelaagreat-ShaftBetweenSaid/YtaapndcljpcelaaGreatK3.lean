/- Part 3 of what the proof rests on: an abstract machine over the model, its contracts for the program, and plain mathematics. -/
import Derived.Test.YtaapndcljpcelaaGreatK2
import Derived.KernelRfl
import Derived.Test.YtaapndcljpcelaaGreatProg
/- Settling a net, in plain Lean. -/
set_option linter.unusedVariables false
set_option linter.unusedSimpArgs false
namespace Go.Shaft

structure Nt where
  n : Int
  links : List Tie
  deriving Inhabited
def far : Int := 1125899906842624
def gt (l : List Int) (i : Int) : Int := l.getD i.toNat 0
abbrev St := List Int × List Int × Int
def lower (h : List Int) (t : Tie) : Bool := decide (gt h t.frm < far) && decide (gt h t.frm + t.most < gt h t.to)
def relax (s : St) (i : Int) (t : Tie) : St :=
  if lower s.1 t then (s.1.set t.to.toNat (gt s.1 t.frm + t.most), s.2.1.set t.to.toNat i, t.to) else s
def relaxes : List Tie → Int → St → St
  | [], _, s => s
  | t :: l, i, s => relaxes l (i + 1) (relax s i t)
def roundM (x : Nt) (h b : List Int) : St := relaxes x.links 0 (h, b, -1)
def par (x : Nt) (b : List Int) (a : Int) : Int := (x.links.getD (gt b a).toNat default).frm
def walkM (x : Nt) (b : List Int) : Nat → Int → Int
  | 0, a => a
  | k + 1, a => walkM x b k (par x b a)
def turnM (x : Nt) (b : List Int) (e : Int) : Nat → Int → List Int → List Int
  | 0, _, out => out
  | f + 1, a, out => if par x b a = e then out ++ [gt b a] else turnM x b e f (par x b a) (out ++ [gt b a])
def circleM (x : Nt) (b : List Int) (a : Int) : List Int :=
  (turnM x b (walkM x b x.n.toNat a) x.n.toNat (walkM x b x.n.toNat a) []).reverse
def go (x : Nt) : Nat → Nat → List Int → List Int → List Int × List Int × Option (List Int)
  | 0, _, h, b => (h, b, none)
  | f + 1, r, h, b =>
    if (roundM x h b).2.2 < 0 then ((roundM x h b).1, (roundM x h b).2.1, none)
    else if (r : Int) = x.n then ((roundM x h b).1, (roundM x h b).2.1, some (circleM x (roundM x h b).2.1 (roundM x h b).2.2))
    else go x f (r + 1) (roundM x h b).1 (roundM x h b).2.1
def startH (n a : Int) : List Int := (List.replicate n.toNat far ++ List.replicate (41 - n.toNat) 0).set a.toNat 0
def settleM (x : Nt) (a : Int) : List Int × List Int × Option (List Int) := go x (x.n.toNat + 1) 0 (startH x.n a) (List.replicate x.n.toNat (-1))

structure WfN (x : Nt) : Prop where
  n0 : 0 < x.n
  n1 : x.n ≤ 41
  ll : x.links.length ≤ 1000
  f0 : ∀ t ∈ x.links, 0 ≤ t.frm
  f1 : ∀ t ∈ x.links, t.frm < x.n
  t0 : ∀ t ∈ x.links, 0 ≤ t.to
  t1 : ∀ t ∈ x.links, t.to < x.n
  m0 : ∀ t ∈ x.links, -16777216 ≤ t.most
  m1 : ∀ t ∈ x.links, t.most ≤ 16777216

theorem relaxes_snoc (l : List Tie) (t : Tie) : ∀ (i : Int) (s : St), relaxes (l ++ [t]) i s = relax (relaxes l i s) (i + l.length) t := by
  induction l with
  | nil => intro i s; simp [relaxes]
  | cons u l ih =>
    intro i s
    simp only [List.cons_append, relaxes, ih, List.length_cons]
    congr 1
    push_cast
    omega

theorem gt_set {l : List Int} {i j : Int} {v : Int} (hi : 0 ≤ i) (hj : 0 ≤ j) (hl : i < l.length) : gt (l.set i.toNat v) j = if j = i then v else gt l j := by
  unfold gt
  rw [List.getD_eq_getElem?_getD, List.getD_eq_getElem?_getD, List.getElem?_set]
  by_cases e : j = i
  · subst e
    have : j.toNat < l.length := by omega
    simp [this]
  · have : ¬ i.toNat = j.toNat := by omega
    simp [this, e]

/-- What holds of heights and last links, when 'a' was the beginning, and 'T' links were looked at. -/
structure Good (x : Nt) (a : Int) (T : Nat) (h b : List Int) : Prop where
  hl : h.length = 41
  bl : b.length = x.n.toNat
  fin : ∀ v, 0 ≤ v → v < x.n → gt h v = far ∨ (-(16777216 * (T : Int)) ≤ gt h v ∧ gt h v ≤ 16777216 * (T : Int))
  no : ∀ v, 0 ≤ v → v < x.n → gt b v = -1 → gt h v = far ∨ (v = a ∧ gt h v = 0)
  yes : ∀ v, 0 ≤ v → v < x.n → gt b v ≠ -1 → ∃ (i : Nat) (t : Tie), gt b v = i ∧ x.links[i]? = some t ∧ t.to = v ∧ gt h t.frm + t.most ≤ gt h v ∧ gt h t.frm < far

theorem Good.weak {x : Nt} {a : Int} {T T' : Nat} {h b : List Int} (g : Good x a T h b) (hT : T ≤ T') : Good x a T' h b :=
  ⟨g.hl, g.bl, fun v h0 h1 => (g.fin v h0 h1).imp id (fun h => by omega), g.no, g.yes⟩

theorem Good.relax {x : Nt} (w : WfN x) {a : Int} {T : Nat} {s : St} (g : Good x a T s.1 s.2.1) (hT : T ≤ 60000000) {i : Nat} {t : Tie} (ht : x.links[i]? = some t) : Good x a (T + 1) (relax s i t).1 (relax s i t).2.1 := by
  have hm := List.mem_of_getElem? ht
  have f0 := w.f0 t hm; have f1 := w.f1 t hm; have t0 := w.t0 t hm; have t1 := w.t1 t hm; have m0 := w.m0 t hm; have m1 := w.m1 t hm
  have n1 := w.n1
  unfold Shaft.relax
  split
  · rename_i hlow
    simp only [lower, Bool.and_eq_true, decide_eq_true_eq] at hlow
    obtain ⟨h1, h2⟩ := hlow
    have hlen : t.to < s.1.length := by rw [g.hl]; omega
    have blen : t.to < s.2.1.length := by rw [g.bl]; omega
    have hset : ∀ v, 0 ≤ v → gt (s.1.set t.to.toNat (gt s.1 t.frm + t.most)) v = if v = t.to then gt s.1 t.frm + t.most else gt s.1 v := fun v hv => gt_set t0 hv hlen
    have bset : ∀ v, 0 ≤ v → gt (s.2.1.set t.to.toNat i) v = if v = t.to then (i : Int) else gt s.2.1 v := fun v hv => gt_set t0 hv blen
    have hfar : far = 1125899906842624 := rfl
    refine ⟨by simp [g.hl], by simp [g.bl], ?_, ?_, ?_⟩
    · intro v v0 v1
      rw [hset v v0]
      split
      · rcases g.fin t.frm f0 f1 with e | ⟨e1, e2⟩
        · omega
        · right; omega
      · rcases g.fin v v0 v1 with e | ⟨e1, e2⟩
        · exact .inl e
        · right; omega
    · intro v v0 v1 hb
      rw [bset v v0] at hb
      rw [hset v v0]
      split at hb
      · omega
      · rename_i e; rw [if_neg e]; exact g.no v v0 v1 hb
    · intro v v0 v1 hb
      rw [bset v v0] at hb ⊢
      rw [hset v v0]
      by_cases e : v = t.to
      · simp only [e, if_true]
        refine ⟨i, t, rfl, ht, rfl, ?_, ?_⟩
        · rw [hset _ f0]
          split
          · rename_i e'; rw [e'] at h2 h1 ⊢; omega
          · omega
        · rw [hset _ f0]
          split
          · rename_i e'; rw [e'] at h2 h1 ⊢; omega
          · exact h1
      · simp only [e, if_false] at hb ⊢
        obtain ⟨i', t', k1, k2, k3, k4, k5⟩ := g.yes v v0 v1 hb
        have hm' := List.mem_of_getElem? k2
        refine ⟨i', t', k1, k2, k3, ?_, ?_⟩
        · rw [hset _ (w.f0 t' hm')]
          split
          · rename_i e'; rw [e'] at k4; omega
          · exact k4
        · rw [hset _ (w.f0 t' hm')]
          split
          · rename_i e'; rw [e'] at k5; omega
          · exact k5
  · exact g.weak (Nat.le_succ _)

theorem Good.take {x : Nt} (w : WfN x) {a : Int} {T : Nat} {h b : List Int} (g : Good x a T h b) (hT : T ≤ 50000000) : ∀ i, i ≤ x.links.length → Good x a (T + i) (relaxes (x.links.take i) 0 (h, b, -1)).1 (relaxes (x.links.take i) 0 (h, b, -1)).2.1
  | 0, _ => by simpa [relaxes] using g
  | i + 1, hi => by
    have hg := Good.take w g hT i (by omega)
    obtain ⟨t, ht⟩ : ∃ t, x.links[i]? = some t := ⟨_, List.getElem?_eq_getElem (by omega)⟩
    rw [List.take_add_one, ht]
    simp only [Option.toList_some]
    rw [relaxes_snoc]
    have e : (0 : Int) + (x.links.take i).length = (i : Nat) := by simp; omega
    rw [e]
    have := w.ll
    exact (Good.relax w hg (by omega) ht)

theorem Good.round {x : Nt} (w : WfN x) {a : Int} {T : Nat} {h b : List Int} (g : Good x a T h b) (hT : T ≤ 50000000) : Good x a (T + x.links.length) (roundM x h b).1 (roundM x h b).2.1 := by
  have := Good.take w g hT x.links.length (Nat.le_refl _)
  rwa [List.take_length] at this

theorem gt_start {n a v : Int} (a0 : 0 ≤ a) (a1 : a < n) (n1 : n ≤ 41) (v0 : 0 ≤ v) (v1 : v < n) : gt (startH n a) v = if v = a then 0 else far := by
  unfold startH
  rw [gt_set a0 v0 (by simp; omega)]
  congr 1
  unfold gt
  rw [List.getD_eq_getElem?_getD, List.getElem?_append_left (by simp; omega), List.getElem?_replicate]
  have : v.toNat < n.toNat := by omega
  simp [this]

theorem Good.start {x : Nt} (w : WfN x) {a : Int} (a0 : 0 ≤ a) (a1 : a < x.n) : Good x a 0 (startH x.n a) (List.replicate x.n.toNat (-1)) := by
  have hb : ∀ v, 0 ≤ v → v < x.n → gt (List.replicate x.n.toNat (-1)) v = -1 := by
    intro v v0 v1
    unfold gt
    rw [List.getD_eq_getElem?_getD, List.getElem?_replicate]
    have : v.toNat < x.n.toNat := by omega
    simp [this]
  have n1 := w.n1
  refine ⟨by simp [startH]; omega, by simp, ?_, ?_, ?_⟩
  · intro v v0 v1
    rw [gt_start a0 a1 w.n1 v0 v1]
    split
    · right; simp
    · left; rfl
  · intro v v0 v1 _
    rw [gt_start a0 a1 w.n1 v0 v1]
    split
    · rename_i e; exact .inr ⟨e, rfl⟩
    · exact .inl rfl
  · intro v v0 v1 h
    exact (h (hb v v0 v1)).elim

/-! ### Heights only fall, and all links are looked at. -/
theorem relax_le {x : Nt} (w : WfN x) {s : St} (hl : s.1.length = 41) {i : Int} {t : Tie} (ht : t ∈ x.links) : (relax s i t).1.length = 41 ∧ ∀ v, 0 ≤ v → gt (relax s i t).1 v ≤ gt s.1 v := by
  have n1 := w.n1
  have t0 := w.t0 t ht; have t1 := w.t1 t ht
  unfold relax
  split
  · rename_i hlow
    simp only [lower, Bool.and_eq_true, decide_eq_true_eq] at hlow
    refine ⟨by simp [hl], fun v hv => ?_⟩
    rw [gt_set t0 hv (by rw [hl]; omega)]
    split
    · rename_i e; subst e; omega
    · exact Int.le_refl _
  · exact ⟨hl, fun _ _ => Int.le_refl _⟩
theorem relaxes_le {x : Nt} (w : WfN x) : ∀ (l : List Tie) (i : Int) (s : St), (∀ t ∈ l, t ∈ x.links) → s.1.length = 41 → (relaxes l i s).1.length = 41 ∧ ∀ v, 0 ≤ v → gt (relaxes l i s).1 v ≤ gt s.1 v
  | [], i, s, _, hl => ⟨hl, fun _ _ => Int.le_refl _⟩
  | t :: l, i, s, h, hl => by
    obtain ⟨h1, h2⟩ := relax_le w hl (i := i) (h t (by simp))
    obtain ⟨h3, h4⟩ := relaxes_le w l (i + 1) (relax s i t) (fun u hu => h u (by simp [hu])) h1
    exact ⟨h3, fun v hv => Int.le_trans (h4 v hv) (h2 v hv)⟩
theorem relaxes_each {x : Nt} (w : WfN x) : ∀ (l : List Tie) (i : Int) (s : St), (∀ t ∈ l, t ∈ x.links) → s.1.length = 41 → ∀ t ∈ l, gt s.1 t.frm < far → gt (relaxes l i s).1 t.to ≤ gt s.1 t.frm + t.most
  | [], i, s, _, hl, t, ht, _ => by cases ht
  | u :: l, i, s, h, hl, t, ht, hf => by
    obtain ⟨h1, h2⟩ := relax_le w hl (i := i) (h u (by simp))
    have hx := h t ht
    rcases List.mem_cons.1 ht with rfl | ht'
    · refine Int.le_trans ((relaxes_le w l (i + 1) _ (fun u hu => h u (by simp [hu])) h1).2 _ (w.t0 t hx)) ?_
      unfold relax
      split
      · rw [gt_set (w.t0 t hx) (w.t0 t hx) (by rw [hl]; have := w.t1 t hx; have := w.n1; omega)]
        simp
      · rename_i hn
        simp only [lower, Bool.and_eq_true, decide_eq_true_eq, not_and] at hn
        have := hn hf
        omega
    · have h3 := h2 t.frm (w.f0 t hx)
      have := relaxes_each w l (i + 1) (relax s i u) (fun u hu => h u (by simp [hu])) h1 t ht' (by omega)
      refine Int.le_trans this ?_
      omega
theorem round_le {x : Nt} (w : WfN x) {h b : List Int} (hl : h.length = 41) (v : Int) (hv : 0 ≤ v) : gt (roundM x h b).1 v ≤ gt h v := (relaxes_le w x.links 0 (h, b, -1) (fun _ h => h) hl).2 v hv
theorem round_each {x : Nt} (w : WfN x) {h b : List Int} (hl : h.length = 41) (t : Tie) (ht : t ∈ x.links) (hf : gt h t.frm < far) : gt (roundM x h b).1 t.to ≤ gt h t.frm + t.most := relaxes_each w x.links 0 (h, b, -1) (fun _ h => h) hl t ht hf

/-- What was lowered last. -/
theorem relaxes_last {x : Nt} (w : WfN x) : ∀ (l : List Tie) (i : Int) (s : St), (∀ t ∈ l, t ∈ x.links) → s.1.length = 41 → (relaxes l i s).2.2 = s.2.2 ∨ (0 ≤ (relaxes l i s).2.2 ∧ (relaxes l i s).2.2 < x.n ∧ gt (relaxes l i s).1 (relaxes l i s).2.2 < gt s.1 (relaxes l i s).2.2)
  | [], i, s, _, hl => .inl rfl
  | t :: l, i, s, h, hl => by
    have hx := h t (by simp)
    obtain ⟨h1, h2⟩ := relax_le w hl (i := i) hx
    have h3 := relaxes_le w l (i + 1) (relax s i t) (fun u hu => h u (by simp [hu])) h1
    rcases relaxes_last w l (i + 1) (relax s i t) (fun u hu => h u (by simp [hu])) h1 with e | ⟨e1, e2, e3⟩
    · show (relaxes l (i + 1) (relax s i t)).2.2 = _ ∨ _
      simp only [relaxes]
      rw [e]
      by_cases hlow : lower s.1 t
      · right
        have hr : (relax s i t).2.2 = t.to := by simp [relax, hlow]
        rw [hr]
        refine ⟨w.t0 t hx, w.t1 t hx, ?_⟩
        refine Int.lt_of_le_of_lt (h3.2 _ (w.t0 t hx)) ?_
        have hlow' := hlow
        simp only [lower, Bool.and_eq_true, decide_eq_true_eq] at hlow'
        simp only [relax, hlow, if_true]
        rw [gt_set (w.t0 t hx) (w.t0 t hx) (by rw [hl]; have := w.t1 t hx; have := w.n1; omega)]
        simp only [if_true]
        exact hlow'.2
      · left; simp [relax, hlow]
    · right
      simp only [relaxes]
      exact ⟨e1, e2, Int.lt_of_lt_of_le e3 (h2 _ e1)⟩
theorem round_last {x : Nt} (w : WfN x) {h b : List Int} (hl : h.length = 41) (hn : ¬ (roundM x h b).2.2 < 0) : 0 ≤ (roundM x h b).2.2 ∧ (roundM x h b).2.2 < x.n ∧ gt (roundM x h b).1 (roundM x h b).2.2 < gt h (roundM x h b).2.2 := by
  rcases relaxes_last w x.links 0 (h, b, -1) (fun _ h => h) hl with e | e
  · exfalso; apply hn; show (relaxes x.links 0 (h, b, -1)).2.2 < 0; rw [e]; simp
  · exact e
end Go.Shaft
/- The circle that a net that does not settle holds. -/
set_option linter.unusedVariables false
set_option linter.unusedSimpArgs false
namespace Go.Shaft

/-! ### Pigeons -/
theorem nodup_lt : ∀ (n : Nat) (l : List Nat), l.Nodup → (∀ a ∈ l, a < n) → l.length ≤ n
  | 0, l, _, h => by
    cases l with
    | nil => simp
    | cons a l => have := h a (by simp); omega
  | n + 1, l, hd, h => by
    have h1 := nodup_lt n (l.filter (· ≠ n)) (hd.sublist List.filter_sublist) (by
      intro a ha
      rw [List.mem_filter] at ha
      have := h a ha.1
      have h2 : a ≠ n := by simpa using ha.2
      omega)
    have h2 : l.length ≤ (l.filter (· ≠ n)).length + 1 := by
      clear h1 h
      induction l with
      | nil => simp
      | cons a l ih =>
        rw [List.nodup_cons] at hd
        by_cases e : a = n
        · subst e
          have : l.filter (· ≠ a) = l := by
            rw [List.filter_eq_self]
            intro b hb
            have : b ≠ a := by rintro rfl; exact hd.1 hb
            simpa using this
          rw [List.filter_cons, if_neg (by simp), this]
          simp
        · rw [List.filter_cons]
          have : decide (a ≠ n) = true := by simpa using e
          rw [if_pos this]
          have := ih hd.2
          simp only [List.length_cons]
          omega
    omega

theorem not_nodup : ∀ {l : List Nat}, ¬ l.Nodup → ∃ i j, i < j ∧ j < l.length ∧ l[i]? = l[j]?
  | [], h => (h List.nodup_nil).elim
  | a :: l, h => by
    rw [List.nodup_cons] at h
    by_cases ha : a ∈ l
    · obtain ⟨j, hj, e⟩ := List.mem_iff_getElem.1 ha
      exact ⟨0, j + 1, by omega, by simpa using hj, by simp [e, hj]⟩
    · obtain ⟨i, j, h1, h2, h3⟩ := not_nodup (l := l) (fun hd => h ⟨ha, hd⟩)
      exact ⟨i + 1, j + 1, by omega, by simpa using h2, by simpa using h3⟩

theorem pigeon {n : Nat} (f : Nat → Nat) (hf : ∀ i, i ≤ n → f i < n) : ∃ i j, i < j ∧ j ≤ n ∧ f i = f j := by
  have hlen : ((List.range (n + 1)).map f).length = n + 1 := by simp
  have : ¬ ((List.range (n + 1)).map f).Nodup := by
    intro hd
    have := nodup_lt n _ hd (by
      intro a ha
      obtain ⟨i, hi, rfl⟩ := List.mem_map.1 ha
      exact hf i (by have := List.mem_range.1 hi; omega))
    omega
  obtain ⟨i, j, h1, h2, h3⟩ := not_nodup this
  rw [hlen] at h2
  refine ⟨i, j, h1, by omega, ?_⟩
  rw [List.getElem?_map, List.getElem?_map, List.getElem?_range (by omega), List.getElem?_range (by omega)] at h3
  simpa using h3

theorem walk_succ (x : Nt) (b : List Int) : ∀ (k : Nat) (a : Int), walkM x b (k + 1) a = par x b (walkM x b k a)
  | 0, a => rfl
  | k + 1, a => walk_succ x b k (par x b a)
theorem walk_add (x : Nt) (b : List Int) (j : Nat) : ∀ (k : Nat) (a : Int), walkM x b (k + j) a = walkM x b j (walkM x b k a)
  | 0, a => by simp [walkM]
  | k + 1, a => by rw [Nat.succ_add]; exact walk_add x b j k (par x b a)

/-! ### Paths -/
/-- A path of links. -/
def PathM (x : Nt) : Int → Int → List Tie → Prop
  | u, v, [] => u = v
  | u, v, t :: l => t ∈ x.links ∧ t.frm = u ∧ PathM x t.to v l
def sumT (l : List Tie) : Int := (l.map (·.most)).sum
theorem sumT_snoc (l : List Tie) (t : Tie) : sumT (l ++ [t]) = sumT l + t.most := by simp [sumT]
theorem path_snoc {x : Nt} : ∀ {u v : Int} {l : List Tie} {t : Tie}, PathM x u v l → t ∈ x.links → t.frm = v → PathM x u t.to (l ++ [t])
  | u, v, [], t, h, ht, e => by
    have h : u = v := h
    exact ⟨ht, by rw [e, h], rfl⟩
  | u, v, s :: l, t, h, ht, e => ⟨h.1, h.2.1, path_snoc h.2.2 ht e⟩
theorem path_unsnoc {x : Nt} : ∀ {u v : Int} {l : List Tie}, PathM x u v l → l ≠ [] → ∃ l' t, l = l' ++ [t] ∧ PathM x u t.frm l' ∧ t ∈ x.links ∧ t.to = v
  | u, v, [], h, hn => (hn rfl).elim
  | u, v, [t], h, _ => ⟨[], t, rfl, h.2.1.symm, h.1, h.2.2⟩
  | u, v, s :: t :: l, h, _ => by
    obtain ⟨l', t', e, h1, h2, h3⟩ := path_unsnoc h.2.2 (by simp)
    exact ⟨s :: l', t', by rw [e]; rfl, ⟨h.1, h.2.1, h1⟩, h2, h3⟩
theorem sumT_le {x : Nt} (w : WfN x) : ∀ {u v : Int} {l : List Tie}, PathM x u v l → sumT l ≤ 16777216 * (l.length : Int)
  | u, v, [], h => by simp [sumT]
  | u, v, t :: l, h => by
    have := sumT_le w h.2.2
    have := w.m1 t h.1
    simp only [sumT, List.map_cons, List.sum_cons, List.length_cons] at *
    push_cast
    omega

/-- Heights after so many rounds. -/
def iterM (x : Nt) (a : Int) : Nat → List Int × List Int
  | 0 => (startH x.n a, List.replicate x.n.toNat (-1))
  | r + 1 => ((roundM x (iterM x a r).1 (iterM x a r).2).1, (roundM x (iterM x a r).1 (iterM x a r).2).2.1)

theorem iter_good {x : Nt} (w : WfN x) {a : Int} (a0 : 0 ≤ a) (a1 : a < x.n) : ∀ r, r ≤ 42 → Good x a (r * x.links.length) (iterM x a r).1 (iterM x a r).2
  | 0, _ => by simpa [iterM] using Good.start w a0 a1
  | r + 1, hr => by
    have h := iter_good w a0 a1 r (by omega)
    have hb : r * x.links.length ≤ 42 * 1000 := Nat.mul_le_mul (by omega) w.ll
    have := Good.round w h (by omega)
    rw [Nat.succ_mul]
    exact this

/-- After 'r' rounds no height is above what a path of at most so many links says. -/
theorem iter_path {x : Nt} (w : WfN x) {a : Int} (a0 : 0 ≤ a) (a1 : a < x.n) : ∀ r, r ≤ 42 → ∀ l v, PathM x a v l → l.length ≤ r → 0 ≤ v → gt (iterM x a r).1 v ≤ sumT l := by
  intro r
  induction r with
  | zero =>
    intro _ l v hp hl hv
    have : l = [] := List.eq_nil_of_length_eq_zero (by omega)
    subst this
    have hp : a = v := hp
    subst hp
    show gt (startH x.n a) a ≤ _
    rw [gt_start a0 a1 w.n1 a0 a1]
    simp [sumT]
  | succ r ih =>
    intro hr l v hp hl hv
    have hg := iter_good w a0 a1 r (by omega)
    by_cases hn : l = []
    · subst hn
      exact Int.le_trans (round_le w hg.hl v hv) (ih (by omega) [] v hp (by simp) hv)
    · obtain ⟨l', t, rfl, h1, h2, rfl⟩ := path_unsnoc hp hn
      simp only [List.length_append, List.length_cons, List.length_nil] at hl
      have h3 := ih (by omega) l' t.frm h1 (by omega) (w.f0 t h2)
      have h4 := sumT_le w h1
      have hf : gt (iterM x a r).1 t.frm < far := by
        have : far = 1125899906842624 := rfl
        have : (l'.length : Int) ≤ 42 := by omega
        omega
      have := round_each w (b := (iterM x a r).2) hg.hl t h2 hf
      rw [sumT_snoc]
      show gt (roundM x (iterM x a r).1 (iterM x a r).2).1 t.to ≤ _
      omega

theorem par_yes {x : Nt} {a : Int} {T : Nat} {h b : List Int} (w : WfN x) (g : Good x a T h b) {v : Int} (v0 : 0 ≤ v) (v1 : v < x.n) (hb : gt b v ≠ -1) : ∃ (i : Nat) (t : Tie), gt b v = i ∧ x.links[i]? = some t ∧ t.to = v ∧ par x b v = t.frm ∧ gt h t.frm + t.most ≤ gt h v ∧ gt h t.frm < far ∧ 0 ≤ t.frm ∧ t.frm < x.n := by
  obtain ⟨i, t, k1, k2, k3, k4, k5⟩ := g.yes v v0 v1 hb
  have hm := List.mem_of_getElem? k2
  refine ⟨i, t, k1, k2, k3, ?_, k4, k5, w.f0 t hm, w.f1 t hm⟩
  unfold par
  rw [k1]
  simp [List.getD_eq_getElem?_getD, k2]

/-- From a mark back to where no last link is. -/
theorem back_path {x : Nt} {a : Int} {T : Nat} {h b : List Int} (w : WfN x) (g : Good x a T h b) : ∀ (j : Nat) (v : Int), 0 ≤ v → v < x.n → gt h v < far → (∀ k, k < j → gt b (walkM x b k v) ≠ -1) → gt b (walkM x b j v) = -1 → ∃ l, PathM x a v l ∧ l.length = j ∧ sumT l ≤ gt h v
  | 0, v, v0, v1, hf, _, hb => by
    have hb : gt b v = -1 := hb
    rcases g.no v v0 v1 hb with e | ⟨e1, e2⟩
    · omega
    · exact ⟨[], e1.symm, rfl, by rw [e2]; exact Int.le_refl _⟩
  | j + 1, v, v0, v1, hf, hk, hb => by
    obtain ⟨i, t, k1, k2, k3, k4, k5, k6, k7, k8⟩ := par_yes w g v0 v1 (hk 0 (by omega))
    obtain ⟨l, h1, h2, h3⟩ := back_path w g j t.frm k7 k8 k6 (fun k hkj => by
      have := hk (k + 1) (by omega)
      rw [show walkM x b (k + 1) v = walkM x b k (par x b v) from rfl, k4] at this
      exact this) (by
      rw [show walkM x b (j + 1) v = walkM x b j (par x b v) from rfl, k4] at hb
      exact hb)
    have hm := List.mem_of_getElem? k2
    refine ⟨l ++ [t], by rw [← k3]; exact path_snoc h1 hm rfl, by simp [h2], ?_⟩
    rw [sumT_snoc]
    omega

theorem wkm_in {x : Nt} {a : Int} {T : Nat} {h b : List Int} (w : WfN x) (g : Good x a T h b) : ∀ (j : Nat) (v : Int), 0 ≤ v → v < x.n → (∀ k, k < j → gt b (walkM x b k v) ≠ -1) → 0 ≤ walkM x b j v ∧ walkM x b j v < x.n
  | 0, v, v0, v1, _ => ⟨v0, v1⟩
  | j + 1, v, v0, v1, hk => by
    obtain ⟨i, t, k1, k2, k3, k4, k5, k6, k7, k8⟩ := par_yes w g v0 v1 (hk 0 (by omega))
    show 0 ≤ walkM x b j (par x b v) ∧ _
    have := wkm_in w g j (par x b v) (by omega) (by omega) (fun k hkj => hk (k + 1) (by omega))
    exact this

/-- What a mark that is still lowered behind so many rounds tells. -/
theorem circle_ok {x : Nt} (w : WfN x) {a : Int} (a0 : 0 ≤ a) (a1 : a < x.n) {v : Int} (v0 : 0 ≤ v) (v1 : v < x.n) (hlow : gt (iterM x a (x.n.toNat + 1)).1 v < gt (iterM x a x.n.toNat).1 v) (hf : gt (iterM x a (x.n.toNat + 1)).1 v < far) :
    ∀ k, gt (iterM x a (x.n.toNat + 1)).2 (walkM x (iterM x a (x.n.toNat + 1)).2 k v) ≠ -1 := by
  have n1 := w.n1
  have n0 := w.n0
  have g := iter_good w a0 a1 (x.n.toNat + 1) (by omega)
  generalize hb : (iterM x a (x.n.toNat + 1)).2 = b at *
  generalize hh : (iterM x a (x.n.toNat + 1)).1 = h at *
  intro k
  -- the least one
  have least : ∀ m, (∀ i, i < m → gt b (walkM x b i v) ≠ -1) := by
    intro m
    induction m with
    | zero => intro i hi; omega
    | succ m ih =>
      intro i hi
      rcases Nat.lt_succ_iff_lt_or_eq.1 hi with h1 | rfl
      · exact ih i h1
      · intro he
        obtain ⟨l, h1, h2, h3⟩ := back_path w g i v v0 v1 hf ih he
        -- all of them differ
        have hi : i < x.n.toNat := by
          rcases Nat.lt_or_ge i x.n.toNat with h | h
          · exact h
          · exfalso
            obtain ⟨p, q, hpq, hq, e⟩ := pigeon (n := x.n.toNat) (fun k => (walkM x b k v).toNat) (fun k hk => by
              have := wkm_in w g k v v0 v1 (fun k' hk' => ih k' (by omega))
              omega)
            have hp1 := wkm_in w g p v v0 v1 (fun k' hk' => ih k' (by omega))
            have hq1 := wkm_in w g q v v0 v1 (fun k' hk' => ih k' (by omega))
            have e' : walkM x b p v = walkM x b q v := by
              omega
            have e2 : walkM x b (p + (i - q)) v = walkM x b i v := by
              rw [walk_add, e', ← walk_add]
              congr 1
              omega
            have := ih (p + (i - q)) (by omega)
            rw [e2] at this
            exact this he
        have := iter_path w a0 a1 x.n.toNat (by omega) l v h1 (by omega) v0
        omega
  exact least (k + 1) k (by omega)

/-- Behind so many steps one is on the circle. -/
theorem circle_turn {x : Nt} {b : List Int} {v : Int} {n : Nat} (hin : ∀ k, 0 ≤ walkM x b k v ∧ walkM x b k v < n) : ∃ m, 0 < m ∧ m ≤ n ∧ walkM x b m (walkM x b n v) = walkM x b n v := by
  obtain ⟨p, q, hpq, hq, e⟩ := pigeon (n := n) (fun k => (walkM x b k v).toNat) (fun k hk => by have := hin k; omega)
  have e' : walkM x b p v = walkM x b q v := by
    have := hin p; have := hin q
    omega
  refine ⟨q - p, by omega, by omega, ?_⟩
  rw [← walk_add]
  have : n + (q - p) = q + (n - p) := by omega
  rw [this, walk_add, ← e', ← walk_add]
  congr 1
  omega

/-- 'go' over so many rounds. -/
theorem go_iter (x : Nt) (a : Int) : ∀ (f r : Nat), go x (f + 1) r (iterM x a r).1 (iterM x a r).2 =
    if (roundM x (iterM x a r).1 (iterM x a r).2).2.2 < 0 then ((iterM x a (r + 1)).1, (iterM x a (r + 1)).2, none)
    else if (r : Int) = x.n then ((iterM x a (r + 1)).1, (iterM x a (r + 1)).2, some (circleM x (iterM x a (r + 1)).2 (roundM x (iterM x a r).1 (iterM x a r).2).2.2))
    else go x f (r + 1) (iterM x a (r + 1)).1 (iterM x a (r + 1)).2 := fun f r => rfl
end Go.Shaft
/- Turning a list round, in plain Lean. -/
set_option linter.unusedVariables false
set_option linter.unusedSimpArgs false
namespace Go.Shaft
/-- 'l', with its first 'i' and its last 'i' turned round. -/
def revN (l : List Int) (i : Nat) : List Int := (List.range l.length).map fun q => if q < i ∨ l.length - i ≤ q then l.getD (l.length - 1 - q) 0 else l.getD q 0
@[simp] theorem revN_len (l : List Int) (i : Nat) : (revN l i).length = l.length := by simp [revN]
theorem revN_get (l : List Int) (i q : Nat) (h : q < l.length) : (revN l i)[q]? = some (if q < i ∨ l.length - i ≤ q then l.getD (l.length - 1 - q) 0 else l.getD q 0) := by
  simp [revN, h]
theorem revN_zero (l : List Int) : revN l 0 = l := by
  apply List.ext_getElem?
  intro q
  rcases Nat.lt_or_ge q l.length with h | h
  · rw [revN_get l 0 q h]
    have : ¬ (q < 0 ∨ l.length - 0 ≤ q) := by omega
    rw [if_neg this]
    simp [h]
  · rw [List.getElem?_eq_none (by simpa using h), List.getElem?_eq_none h]
theorem revN_end (l : List Int) (i : Nat) (h : l.length ≤ 2 * i + 1) : revN l i = l.reverse := by
  apply List.ext_getElem?
  intro q
  rcases Nat.lt_or_ge q l.length with hq | hq
  · rw [revN_get l i q hq, List.getElem?_reverse hq]
    split
    · simp [show l.length - 1 - q < l.length by omega]
    · have : l.length - 1 - q = q := by omega
      rw [this]
      simp [hq]
  · rw [List.getElem?_eq_none (by simpa using hq), List.getElem?_eq_none (by simpa using hq)]
theorem revN_step (l : List Int) (i : Nat) (h : 2 * i + 1 < l.length) : ((revN l i).set i (l.getD (l.length - 1 - i) 0)).set (l.length - 1 - i) (l.getD i 0) = revN l (i + 1) := by
  apply List.ext_getElem?
  intro q
  rcases Nat.lt_or_ge q l.length with hq | hq
  · rw [revN_get l (i + 1) q hq, List.getElem?_set, List.getElem?_set]
    by_cases e1 : l.length - 1 - i = q
    · subst e1
      rw [if_pos rfl, if_pos (by simp; omega), if_pos (by omega)]
      congr 2
      omega
    · rw [if_neg e1]
      by_cases e2 : i = q
      · subst e2
        rw [if_pos rfl, if_pos (by simp; omega), if_pos (by omega)]
      · rw [if_neg e2, revN_get l i q hq]
        congr 1
        by_cases e3 : q < i ∨ l.length - i ≤ q
        · rw [if_pos e3, if_pos (by omega)]
        · rw [if_neg e3, if_neg (by omega)]
  · rw [List.getElem?_eq_none (by simpa using hq), List.getElem?_eq_none (by simpa using hq)]
end Go.Shaft
/- Going round a circle. -/
set_option linter.unusedVariables false
set_option linter.unusedSimpArgs false
namespace Go.Shaft
/-- What lies behind so many steps. -/
def outsM (x : Nt) (b : List Int) (e : Int) (c : Nat) : List Int := (List.range c).map fun k => gt b (walkM x b k e)
@[simp] theorem outs_len (x : Nt) (b : List Int) (e : Int) (c : Nat) : (outsM x b e c).length = c := by simp [outsM]
theorem outs_succ (x : Nt) (b : List Int) (e : Int) (c : Nat) : outsM x b e (c + 1) = outsM x b e c ++ [gt b (walkM x b c e)] := by
  simp [outsM, List.range_succ]
theorem turn_at {x : Nt} {b : List Int} {e : Int} : ∀ (f c : Nat), (∀ k, 0 < k → k ≤ c → walkM x b k e ≠ e) → c ≤ f → turnM x b e f e [] = turnM x b e (f - c) (walkM x b c e) (outsM x b e c) := by
  intro f c
  induction c with
  | zero => intro _ _; simp [walkM, outsM]
  | succ c ih =>
    intro h hc
    rw [ih (fun k h0 h1 => h k h0 (by omega)) (by omega)]
    obtain ⟨g, hg⟩ : ∃ g, f - c = g + 1 := ⟨f - c - 1, by omega⟩
    have hg' : f - (c + 1) = g := by omega
    rw [hg, hg']
    have := h (c + 1) (by omega) (Nat.le_refl _)
    rw [walk_succ] at this
    rw [turnM, if_neg this, walk_succ, outs_succ]
theorem turn_end {x : Nt} {b : List Int} {e : Int} {f c : Nat} (h : ∀ k, 0 < k → k ≤ c → walkM x b k e ≠ e) (hc : c < f) (he : walkM x b (c + 1) e = e) : turnM x b e f e [] = outsM x b e (c + 1) := by
  rw [turn_at f c h (by omega)]
  obtain ⟨g, hg⟩ : ∃ g, f - c = g + 1 := ⟨f - c - 1, by omega⟩
  rw [walk_succ] at he
  rw [hg, turnM, if_pos he, outs_succ]
end Go.Shaft
/- What the questions about a kiln return, in plain Lean. -/
set_option linter.unusedVariables false
set_option linter.unusedSimpArgs false
namespace Go.Shaft
def netM (k : Kn) (more : List Tie) : Nt := ⟨marksM k, tiesM k ++ more⟩
structure Fine (k : Kn) : Prop where
  few : Few k
  lo : Lo k
  wf : WfN (netM k [])
def aboveM (x : Nt) (a b : Int) : Int × Bool := (gt (settleM x a).1 b, (settleM x a).2.2.isNone)
def zSp : Sp := ⟨0, 0⟩
def betweenM (k : Kn) (a b : Int) : Sp × Int :=
  if (aboveM (netM k []) a b).2 then (⟨-(aboveM (netM k []) b a).1, (aboveM (netM k []) a b).1⟩, 0) else (zSp, 9)
def reachM (k : Kn) (a b : Int) : Int × Int × Bool :=
  if 0 ≤ find k.loads a ∧ 0 ≤ find k.loads b then (find k.loads a, find k.loads b + 1, true)
  else (drawnM k (if find k.draws a > 0 then find k.draws a else 0), drawnM k (find k.draws b + 1), decide (0 ≤ find k.draws a ∧ 0 ≤ find k.draws b))
def timedM (k : Kn) (h : Int) : Int := if check k ≠ 0 then check k else if inB h 0 16384 then 0 else 1
def floorM (n d : Int) : Int := if n < 0 then -((-n + d - 1).tdiv d) else n.tdiv d
def runM (k : Kn) (a b : Int) : Sp × Int :=
  if check k ≠ 0 then (zSp, check k)
  else if (reachM k a b).2.2 = false then (zSp, 5)
  else if orderedB k.loads a b = false ∧ orderedB k.draws a b = false then (zSp, 1)
  else betweenM k (reachM k a b).1 (reachM k a b).2.1
def heldM (k : Kn) (h : Int) : Sp × Int :=
  if timedM k h ≠ 0 then (zSp, timedM k h) else betweenM k (drawnM k (byHr k.draws h)) (byHr k.loads h)
def belowM (k : Kn) (a h : Int) : Sp × Int :=
  if timedM k h ≠ 0 then (zSp, timedM k h)
  else if find k.loads a < 0 then (zSp, 5)
  else if (k.loads.getD (find k.loads a).toNat default).hour > h then (zSp, 1)
  else betweenM k (drawnM k (byHr k.draws h)) (find k.loads a)
def feetM (k : Kn) (a h : Int) : Sp × Int :=
  if (belowM k a h).2 ≠ 0 then (zSp, (belowM k a h).2)
  else (⟨floorM (belowM k a h).1.lo k.per, floorM (belowM k a h).1.hi k.per⟩, 0)
def weightsM (k : Kn) (h : List Int) : Tr :=
  ⟨(List.range k.loads.length).map fun (i : Nat) => gt h ((i : Int) + 1) - gt h i, (List.range k.draws.length).map fun (i : Nat) => gt h (drawnM k ((i : Int) + 1)) - gt h (drawnM k i)⟩
def zTr : Tr := ⟨[], []⟩
def findM (k : Kn) : Tr × Int :=
  if check k ≠ 0 then (zTr, check k)
  else if (settleM (netM k []) 0).2.2.isNone then (weightsM k (settleM (netM k []) 0).1, 0) else (zTr, 9)
def clashM (k : Kn) : Option (List Int) × Int :=
  if check k ≠ 0 then (none, check k) else ((settleM (netM k []) 0).2.2, 0)
def tiesAll (k : Kn) : List Tie × Int := if check k ≠ 0 then ([], check k) else (tiesM k, 0)

/-! ### Bounds -/
theorem go_good {x : Nt} (w : WfN x) {a : Int} (a0 : 0 ≤ a) (a1 : a < x.n) : ∀ (f r : Nat), f + r ≤ 42 → ∃ q, q ≤ 42 ∧ (go x f r (iterM x a r).1 (iterM x a r).2).1 = (iterM x a q).1 ∧ (go x f r (iterM x a r).1 (iterM x a r).2).2.1 = (iterM x a q).2
  | 0, r, h => ⟨r, by omega, rfl, rfl⟩
  | f + 1, r, h => by
    rw [go_iter]
    split
    · exact ⟨r + 1, by omega, rfl, rfl⟩
    · split
      · exact ⟨r + 1, by omega, rfl, rfl⟩
      · exact go_good w a0 a1 f (r + 1) (by omega)
theorem settle_good {x : Nt} (w : WfN x) {a : Int} (a0 : 0 ≤ a) (a1 : a < x.n) : Good x a 42000 (settleM x a).1 (settleM x a).2.1 := by
  have n1 := w.n1
  obtain ⟨q, hq, h1, h2⟩ := go_good w a0 a1 (x.n.toNat + 1) 0 (by omega)
  have e : settleM x a = go x (x.n.toNat + 1) 0 (iterM x a 0).1 (iterM x a 0).2 := rfl
  rw [e, h1, h2]
  refine (iter_good w a0 a1 q hq).weak ?_
  have : q * x.links.length ≤ 42 * 1000 := Nat.mul_le_mul hq w.ll
  omega
theorem settle_len {x : Nt} (w : WfN x) {a : Int} (a0 : 0 ≤ a) (a1 : a < x.n) : (settleM x a).1.length = 41 := (settle_good w a0 a1).hl
theorem settle_bound {x : Nt} (w : WfN x) {a : Int} (a0 : 0 ≤ a) (a1 : a < x.n) {v : Int} (v0 : 0 ≤ v) (v1 : v < x.n) : -far ≤ gt (settleM x a).1 v ∧ gt (settleM x a).1 v ≤ far := by
  have : far = 1125899906842624 := rfl
  rcases (settle_good w a0 a1).fin v v0 v1 with h | h <;> omega
theorem turn_ne (x : Nt) (b : List Int) (e : Int) : ∀ (f : Nat) (a : Int) (o : List Int), (0 < f ∨ o ≠ []) → turnM x b e f a o ≠ []
  | 0, a, o, h => by simpa [turnM] using h
  | f + 1, a, o, h => by
    rw [turnM]
    split
    · simp
    · exact turn_ne x b e f _ _ (.inr (by simp))
theorem circle_ne {x : Nt} (hn : 0 < x.n) (b : List Int) (a : Int) : circleM x b a ≠ [] := by
  unfold circleM
  have := turn_ne x b (walkM x b x.n.toNat a) x.n.toNat (walkM x b x.n.toNat a) [] (.inl (by omega))
  simpa using this
theorem go_ne {x : Nt} (hn : 0 < x.n) : ∀ (f r : Nat) (h b l : List Int), (go x f r h b).2.2 = some l → l ≠ []
  | 0, r, h, b, l, e => by simp [go] at e
  | f + 1, r, h, b, l, e => by
    rw [go] at e
    split at e
    · cases e
    · split at e
      · cases e; exact circle_ne hn _ _
      · exact go_ne hn f _ _ _ _ e
theorem settle_ne {x : Nt} (hn : 0 < x.n) {a : Int} {l : List Int} (h : (settleM x a).2.2 = some l) : l ≠ [] := go_ne hn _ _ _ _ _ h
theorem drawn_in {k : Kn} {a : Int} (h0 : 0 ≤ a) (h1 : a ≤ k.draws.length) : 0 ≤ drawnM k a ∧ drawnM k a < marksM k := by
  unfold drawnM marksM
  split <;> omega
end Go.Shaft
/- A kiln that is right is fine. -/
set_option linter.unusedVariables false
set_option linter.unusedSimpArgs false
namespace Go.Shaft
theorem chk_all : ∀ (l : List Ld) (last : Int) (sn : List Int), (chk l last sn).1 = 0 → 0 ≤ last → ∀ x ∈ l, 0 ≤ x.w.lo ∧ x.w.lo ≤ x.w.hi ∧ x.w.hi ≤ 1048576 ∧ 0 ≤ x.hour ∧ x.hour ≤ 16384 ∧ 1 ≤ x.id
  | [], _, _, _, _, x, hx => by cases hx
  | y :: l, last, sn, h, h0, x, hx => by
    rw [chk] at h
    split at h
    · rename_i hr
      simp only [recB, inB, spanB, Bool.and_eq_true, decide_eq_true_eq] at hr
      split at h
      · simp at h
      · rcases List.mem_cons.1 hx with rfl | hx
        · omega
        · exact chk_all l y.hour _ h (by omega) x hx
    · simp at h
theorem chkW_all {k : Kn} : ∀ (l : List Wg) (sn : List Int), chkW k l sn = 0 → ∀ w ∈ l, weighB k w = true
  | [], _, _, w, hw => by cases hw
  | y :: l, sn, h, w, hw => by
    rw [chkW] at h
    split at h
    · rename_i hr
      split at h
      · simp at h
      · rcases List.mem_cons.1 hw with rfl | hw
        · exact hr
        · exact chkW_all l _ h w hw
    · simp at h

structure Right (k : Kn) : Prop where
  room : 0 ≤ k.room ∧ k.room ≤ 16777216
  per : 1 ≤ k.per ∧ k.per ≤ 65536
  nl : k.loads.length ≤ 20
  nd : k.draws.length ≤ 20
  nw : k.weighs.length ≤ 20
  l : ∀ x ∈ k.loads, 0 ≤ x.w.lo ∧ x.w.lo ≤ x.w.hi ∧ x.w.hi ≤ 1048576 ∧ 0 ≤ x.hour ∧ x.hour ≤ 16384 ∧ 1 ≤ x.id
  d : ∀ x ∈ k.draws, 0 ≤ x.w.lo ∧ x.w.lo ≤ x.w.hi ∧ x.w.hi ≤ 1048576 ∧ 0 ≤ x.hour ∧ x.hour ≤ 16384 ∧ 1 ≤ x.id
  w : ∀ x ∈ k.weighs, weighB k x = true
theorem right_of_check {k : Kn} (h : check k = 0) : Right k := by
  unfold check at h
  split at h
  · rename_i h1
    simp only [inB, Bool.and_eq_true, decide_eq_true_eq] at h1
    split at h
    · simp at h
    · rename_i h2
      simp only at h
      split at h
      · rename_i h3; exact (h3 h).elim
      · rename_i h3
        split at h
        · rename_i h4; exact (h4 h).elim
        · rename_i h4
          have h3 : (chk k.loads 0 []).1 = 0 := by simpa using h3
          have h4 : (chk k.draws 0 (chk k.loads 0 []).2).1 = 0 := by simpa using h4
          exact ⟨h1.1, h1.2, by omega, by omega, by omega, chk_all _ _ _ h3 (Int.le_refl _), chk_all _ _ _ h4 (Int.le_refl _), chkW_all _ _ h⟩
  · simp at h

theorem weighed_in {k : Kn} {w : Wg} (h : weighB k w = true) : 0 ≤ (weighedM k w).1 ∧ (weighedM k w).1 < marksM k ∧ 0 ≤ (weighedM k w).2 ∧ (weighedM k w).2 < marksM k ∧ 0 ≤ w.sum.lo ∧ w.sum.lo ≤ w.sum.hi ∧ w.sum.hi ≤ 16777216 := by
  unfold weighB at h
  split at h
  · rename_i h1
    simp only [inB, spanB, Bool.and_eq_true, decide_eq_true_eq] at h1
    have f1 := find_le k.loads w.frm; have f2 := find_le k.loads w.to
    have f3 := find_le k.draws w.frm; have f4 := find_le k.draws w.to
    have hm : (marksM k : Int) = 1 + k.loads.length + k.draws.length := by simp [marksM]
    unfold weighedM
    split at h
    · simp only [orderedB, decide_eq_true_eq] at h
      rename_i hk
      rw [if_pos hk]
      simp only
      omega
    · rename_i hk
      rw [if_neg hk]
      split at h
      · rename_i hk2
        simp only [orderedB, decide_eq_true_eq] at h
        rw [if_pos hk2]
        have d1 := drawn_in (k := k) (a := find k.draws w.frm) (by omega) (by omega)
        have d2 := drawn_in (k := k) (a := find k.draws w.to + 1) (by omega) (by omega)
        simp only
        omega
      · rename_i hk2
        rw [if_neg hk2]
        have b1 := byHr_le k.draws w.frm
        have b2 := byHr_le k.loads w.frm
        have d1 := drawn_in (k := k) (a := (byHr k.draws w.frm : Int)) (by omega) (by omega)
        simp only
        omega
  · cases h

theorem zip_mem {α : Type} {l : List α} {x : α} {i : Nat} (h : (x, i) ∈ l.zipIdx) : i < l.length ∧ x ∈ l := by
  rw [List.mem_zipIdx_iff_getElem?] at h
  exact ⟨(List.getElem?_eq_some_iff.1 h).1, List.mem_of_getElem? h⟩

theorem ties_in {k : Kn} (r : Right k) : ∀ t ∈ tiesM k, 0 ≤ t.frm ∧ t.frm < marksM k ∧ 0 ≤ t.to ∧ t.to < marksM k ∧ -16777216 ≤ t.most ∧ t.most ≤ 16777216 := by
  intro t ht
  have hm : (marksM k : Int) = 1 + k.loads.length + k.draws.length := by simp [marksM]
  have hroom := r.room
  simp only [tiesM, List.mem_append] at ht
  rcases ht with ht | ht | ht | ht | ht
  · simp only [ties1, List.mem_flatMap] at ht
    obtain ⟨⟨x, i⟩, hx, ht⟩ := ht
    obtain ⟨h1, h2⟩ := zip_mem hx
    have := r.l x h2
    simp only [both, List.mem_cons, List.not_mem_nil, or_false] at ht
    rcases ht with rfl | rfl <;> simp only <;> omega
  · simp only [ties2, List.mem_flatMap] at ht
    obtain ⟨⟨x, i⟩, hx, ht⟩ := ht
    obtain ⟨h1, h2⟩ := zip_mem hx
    have := r.d x h2
    have d1 := drawn_in (k := k) (a := (i : Int)) (by omega) (by omega)
    have d2 := drawn_in (k := k) (a := (i : Int) + 1) (by omega) (by omega)
    simp only [both, List.mem_cons, List.not_mem_nil, or_false] at ht
    rcases ht with rfl | rfl <;> simp only <;> omega
  · simp only [ties3, List.mem_flatMap] at ht
    obtain ⟨w, hw, ht⟩ := ht
    have := weighed_in (r.w w hw)
    simp only [both, List.mem_cons, List.not_mem_nil, or_false] at ht
    rcases ht with rfl | rfl <;> simp only <;> omega
  · simp only [ties4, List.mem_map] at ht
    obtain ⟨⟨x, i⟩, hx, rfl⟩ := ht
    obtain ⟨h1, h2⟩ := zip_mem hx
    have d2 := drawn_in (k := k) (a := (i : Int) + 1) (by omega) (by omega)
    have b2 := byHr_le k.loads x.hour
    simp only
    omega
  · simp only [ties5, List.mem_map] at ht
    obtain ⟨⟨x, i⟩, hx, rfl⟩ := ht
    obtain ⟨h1, h2⟩ := zip_mem hx
    have b2 := byHr_le k.draws (x.hour - 1)
    have d2 := drawn_in (k := k) (a := (byHr k.draws (x.hour - 1) : Int)) (by omega) (by omega)
    simp only
    omega

theorem wf_more {k : Kn} (r : Right k) {more : List Tie} (hl : more.length ≤ 10) (hm : ∀ t ∈ more, 0 ≤ t.frm ∧ t.frm < marksM k ∧ 0 ≤ t.to ∧ t.to < marksM k ∧ -16777216 ≤ t.most ∧ t.most ≤ 16777216) : WfN (netM k more) := by
  have hL := tiesLen k
  have h1 := r.nl; have h2 := r.nd; have h3 := r.nw
  have hmk : (marksM k : Int) = 1 + k.loads.length + k.draws.length := by simp [marksM]
  have hall : ∀ t ∈ (netM k more).links, 0 ≤ t.frm ∧ t.frm < marksM k ∧ 0 ≤ t.to ∧ t.to < marksM k ∧ -16777216 ≤ t.most ∧ t.most ≤ 16777216 := by
    intro t ht
    rcases List.mem_append.1 ht with ht | ht
    · exact ties_in r t ht
    · exact hm t ht
  refine ⟨?_, ?_, ?_, fun t ht => (hall t ht).1, fun t ht => (hall t ht).2.1, fun t ht => (hall t ht).2.2.1, fun t ht => (hall t ht).2.2.2.1, fun t ht => (hall t ht).2.2.2.2.1, fun t ht => (hall t ht).2.2.2.2.2⟩
  · show 0 < (marksM k : Int); omega
  · show (marksM k : Int) ≤ 41; omega
  · show (tiesM k ++ more).length ≤ 1000
    rw [List.length_append]; omega

theorem reach_in {k : Kn} {a b : Int} (h : (reachM k a b).2.2 = true) : 0 ≤ (reachM k a b).1 ∧ (reachM k a b).1 < marksM k ∧ 0 ≤ (reachM k a b).2.1 ∧ (reachM k a b).2.1 < marksM k := by
  have fa := find_le k.loads a; have fb := find_le k.loads b; have ga := find_le k.draws a; have gb := find_le k.draws b
  have hm : (marksM k : Int) = 1 + k.loads.length + k.draws.length := by simp [marksM]
  unfold reachM at h ⊢
  split
  · simp only; omega
  · rename_i h1
    rw [if_neg h1] at h
    simp only [decide_eq_true_eq] at h ⊢
    have d1 := drawn_in (k := k) (a := if find k.draws a > 0 then find k.draws a else 0) (by split <;> omega) (by split <;> omega)
    have d2 := drawn_in (k := k) (a := find k.draws b + 1) (by omega) (by omega)
    exact ⟨d1.1, d1.2, d2.1, d2.2⟩
theorem between_b {k : Kn} (f : Fine k) {a b : Int} (a0 : 0 ≤ a) (a1 : a < marksM k) (b0 : 0 ≤ b) (b1 : b < marksM k) : -1125899906842624 ≤ (betweenM k a b).1.lo ∧ (betweenM k a b).1.lo ≤ 1125899906842624 ∧ -1125899906842624 ≤ (betweenM k a b).1.hi ∧ (betweenM k a b).1.hi ≤ 1125899906842624 := by
  have h1 : -far ≤ (aboveM (netM k []) a b).1 ∧ (aboveM (netM k []) a b).1 ≤ far := settle_bound f.wf a0 a1 b0 b1
  have h2 : -far ≤ (aboveM (netM k []) b a).1 ∧ (aboveM (netM k []) b a).1 ≤ far := settle_bound f.wf b0 b1 a0 a1
  have hf : far = 1125899906842624 := rfl
  unfold betweenM
  split
  · simp only; omega
  · simp [zSp]
theorem fine_of_check {k : Kn} (h : check k = 0) : Fine k := by
  have r := right_of_check h
  have h1 := r.nl; have h2 := r.nd; have h3 := r.nw
  refine ⟨⟨by omega, by omega, by omega⟩, ⟨fun x hx => ?_, fun x hx => ?_, fun x hx => ?_⟩, wf_more r (by simp) (by simp)⟩
  · have := r.l x hx; omega
  · have := r.d x hx; omega
  · have := weighed_in (r.w x hx); omega
theorem below_b (k : Kn) (a h : Int) (e : (belowM k a h).2 = 0) : 1 ≤ k.per ∧ k.per ≤ 65536 ∧ -1125899906842624 ≤ (belowM k a h).1.lo ∧ (belowM k a h).1.lo ≤ 1125899906842624 ∧ -1125899906842624 ≤ (belowM k a h).1.hi ∧ (belowM k a h).1.hi ≤ 1125899906842624 := by
  have hc : check k = 0 := by
    rcases Classical.em (check k = 0) with h1 | h1
    · exact h1
    · have ht : timedM k h = check k := by simp [timedM, h1]
      rw [belowM, ht, if_pos h1] at e
      exact e
  have r := right_of_check hc
  have hp := r.per
  have f := fine_of_check hc
  have fa := find_le k.loads a
  have b2 := byHr_le k.draws h
  have hm : (marksM k : Int) = 1 + k.loads.length + k.draws.length := by simp [marksM]
  have d1 := drawn_in (k := k) (a := (byHr k.draws h : Int)) (by omega) (by omega)
  have z : -1125899906842624 ≤ zSp.lo ∧ zSp.lo ≤ 1125899906842624 ∧ -1125899906842624 ≤ zSp.hi ∧ zSp.hi ≤ 1125899906842624 := by simp [zSp]
  refine ⟨hp.1, hp.2, ?_⟩
  unfold belowM
  split
  · exact z
  · split
    · exact z
    · split
      · exact z
      · exact between_b f d1.1 d1.2 (by omega) (by omega)
end Go.Shaft
namespace Go.Shaft
def wL (h : List Int) (i : Nat) : List Int := (List.range i).map fun (j : Nat) => gt h ((j : Int) + 1) - gt h j
def wD (k : Kn) (h : List Int) (i : Nat) : List Int := (List.range i).map fun (j : Nat) => gt h (drawnM k ((j : Int) + 1)) - gt h (drawnM k j)
theorem weights_eq (k : Kn) (h : List Int) : weightsM k h = ⟨wL h k.loads.length, wD k h k.draws.length⟩ := rfl
@[simp] theorem wL_len (h : List Int) (i : Nat) : (wL h i).length = i := by simp [wL]
@[simp] theorem wD_len (k : Kn) (h : List Int) (i : Nat) : (wD k h i).length = i := by simp [wD]
theorem wL_succ (h : List Int) (i : Nat) : wL h (i + 1) = wL h i ++ [gt h ((i : Int) + 1) - gt h i] := by simp [wL, List.range_succ]
theorem wD_succ (k : Kn) (h : List Int) (i : Nat) : wD k h (i + 1) = wD k h i ++ [gt h (drawnM k ((i : Int) + 1)) - gt h (drawnM k i)] := by simp [wD, List.range_succ]
theorem gt_some {h : List Int} {v : Int} (v0 : 0 ≤ v) (v1 : v < h.length) : h[v.toNat]? = some (gt h v) := by
  have : v.toNat < h.length := by omega
  simp [gt, this]
end Go.Shaft
/- What settling finds: heights that keep all links, or a circle. -/
set_option linter.unusedVariables false
set_option linter.unusedSimpArgs false
namespace Go.Shaft

/-- Heights that keep all links. -/
def Feas (x : Nt) (H : Int → Int) : Prop := ∀ t ∈ x.links, H t.to ≤ H t.frm + t.most

theorem feas_path {x : Nt} {H : Int → Int} (f : Feas x H) : ∀ {l : List Tie} {u v : Int}, PathM x u v l → H v ≤ H u + sumT l
  | [], u, v, h => by
    have h : u = v := h
    subst h
    simp [sumT]
  | t :: l, u, v, h => by
    have h1 := feas_path f h.2.2
    have h2 := f t h.1
    rw [h.2.1] at h2
    have : sumT (t :: l) = t.most + sumT l := by simp [sumT]
    omega

/-- When each mark was lowered last: later than the one by which it was, or that one was lowered since. -/
def TimBy (x : Nt) (h b : List Int) (τ : Int → Nat) : Prop := ∀ v, 0 ≤ v → v < x.n → ∀ (i : Nat) (t : Tie), gt b v = i → x.links[i]? = some t →
  gt h t.frm + t.most ≤ gt h v ∧ (τ v ≤ τ t.frm → gt h t.frm + t.most < gt h v)
def Tim (x : Nt) (h b : List Int) : Prop := ∃ (τ : Int → Nat) (T : Nat), (∀ v, τ v < T) ∧ TimBy x h b τ

theorem Tim.relax {x : Nt} (w : WfN x) {s : St} (hl : s.1.length = 41) (bl : s.2.1.length = x.n.toNat) (g : Tim x s.1 s.2.1) {i : Nat} {t : Tie} (ht : x.links[i]? = some t) : Tim x (relax s i t).1 (relax s i t).2.1 := by
  have hm := List.mem_of_getElem? ht
  have f0 := w.f0 t hm; have f1 := w.f1 t hm; have t0 := w.t0 t hm; have t1 := w.t1 t hm
  have n1 := w.n1
  unfold Shaft.relax
  split
  · rename_i hlow
    simp only [lower, Bool.and_eq_true, decide_eq_true_eq] at hlow
    obtain ⟨h1, h2⟩ := hlow
    have hset : ∀ v, 0 ≤ v → gt (s.1.set t.to.toNat (gt s.1 t.frm + t.most)) v = if v = t.to then gt s.1 t.frm + t.most else gt s.1 v := fun v hv => gt_set t0 hv (by rw [hl]; omega)
    have bset : ∀ v, 0 ≤ v → gt (s.2.1.set t.to.toNat i) v = if v = t.to then (i : Int) else gt s.2.1 v := fun v hv => gt_set t0 hv (by rw [bl]; omega)
    obtain ⟨τ, T, hT, hg⟩ := g
    refine ⟨fun v => if v = t.to then T else τ v, T + 1, fun v => ?_, ?_⟩
    · have := hT v
      dsimp only
      split <;> omega
    intro v v0 v1 i' t' hb ht'
    have hm' := List.mem_of_getElem? ht'
    have hTf := hT t'.frm
    simp only at hb ⊢
    rw [bset v v0] at hb
    rw [hset v v0, hset t'.frm (w.f0 t' hm')]
    by_cases e : v = t.to
    · subst e
      rw [if_pos rfl] at hb
      obtain rfl : i = i' := by omega
      rw [ht] at ht'
      cases ht'
      by_cases e2 : t.frm = t.to
      · simp only [e2, if_true]
        rw [e2] at h2
        constructor
        · omega
        · intro _; omega
      · simp only [e2, if_false, if_true]
        constructor
        · omega
        · intro _; omega
    · rw [if_neg e] at hb
      obtain ⟨k1, k2⟩ := hg v v0 v1 i' t' hb ht'
      simp only [e, if_false]
      by_cases e2 : t'.frm = t.to
      · rw [e2] at k1
        simp only [e2, if_true]
        constructor
        · omega
        · intro _; omega
      · simp only [e2, if_false]
        exact ⟨k1, k2⟩
  · exact g

theorem Tim.take {x : Nt} (w : WfN x) {a : Int} {T : Nat} {h b : List Int} (g : Good x a T h b) (hT : T ≤ 50000000) (tm : Tim x h b) : ∀ i, i ≤ x.links.length → Tim x (relaxes (x.links.take i) 0 (h, b, -1)).1 (relaxes (x.links.take i) 0 (h, b, -1)).2.1
  | 0, _ => by simpa [relaxes] using tm
  | i + 1, hi => by
    have ht0 := Tim.take w g hT tm i (by omega)
    have hg := Good.take w g hT i (by omega)
    obtain ⟨t, ht⟩ : ∃ t, x.links[i]? = some t := ⟨_, List.getElem?_eq_getElem (by omega)⟩
    rw [List.take_add_one, ht]
    simp only [Option.toList_some]
    rw [relaxes_snoc]
    have e : (0 : Int) + (x.links.take i).length = (i : Nat) := by simp; omega
    rw [e]
    exact Tim.relax w hg.hl hg.bl ht0 ht

theorem Tim.round {x : Nt} (w : WfN x) {a : Int} {T : Nat} {h b : List Int} (g : Good x a T h b) (hT : T ≤ 50000000) (tm : Tim x h b) : Tim x (roundM x h b).1 (roundM x h b).2.1 := by
  have := Tim.take w g hT tm x.links.length (Nat.le_refl _)
  rwa [List.take_length] at this

theorem Tim.start (x : Nt) (a : Int) : Tim x (startH x.n a) (List.replicate x.n.toNat (-1)) := by
  refine ⟨fun _ => 0, 1, fun _ => Nat.zero_lt_one, ?_⟩
  intro v v0 v1 i t hb ht
  exfalso
  unfold gt at hb
  rw [List.getD_eq_getElem?_getD, List.getElem?_replicate] at hb
  have : v.toNat < x.n.toNat := by omega
  simp [this] at hb

theorem iter_tim {x : Nt} (w : WfN x) {a : Int} (a0 : 0 ≤ a) (a1 : a < x.n) : ∀ r, r ≤ 42 → Tim x (iterM x a r).1 (iterM x a r).2
  | 0, _ => Tim.start x a
  | r + 1, hr => by
    have hb : r * x.links.length ≤ 42 * 1000 := Nat.mul_le_mul (by omega) w.ll
    exact Tim.round w (iter_good w a0 a1 r (by omega)) (by omega) (iter_tim w a0 a1 r (by omega))

/-! ### The links by which a mark was lowered. -/
def lk (x : Nt) (i : Int) : Tie := x.links.getD i.toNat default
def stepsM (x : Nt) (b : List Int) (e : Int) (c : Nat) : List Tie := (outsM x b e c).reverse.map (lk x)
theorem steps_succ (x : Nt) (b : List Int) (e : Int) (c : Nat) : stepsM x b e (c + 1) = lk x (gt b (walkM x b c e)) :: stepsM x b e c := by
  simp [stepsM, outs_succ]
theorem sumT_cons (t : Tie) (l : List Tie) : sumT (t :: l) = t.most + sumT l := by simp [sumT]
theorem sumT_append (a b : List Tie) : sumT (a ++ b) = sumT a + sumT b := by simp [sumT]

theorem lk_at {x : Nt} {i : Nat} {t : Tie} (h : x.links[i]? = some t) : lk x (i : Int) = t := by
  simp [lk, List.getD_eq_getElem?_getD, h]

theorem walk_path {x : Nt} {a : Int} {T : Nat} {h b : List Int} (w : WfN x) (g : Good x a T h b) {e : Int} (e0 : 0 ≤ e) (e1 : e < x.n) : ∀ c, (∀ k, k < c → gt b (walkM x b k e) ≠ -1) → PathM x (walkM x b c e) e (stepsM x b e c)
  | 0, _ => rfl
  | c + 1, hk => by
    have hw := wkm_in w g c e e0 e1 (fun k h => hk k (by omega))
    obtain ⟨i, t, k1, k2, k3, k4, k5, k6, k7, k8⟩ := par_yes w g hw.1 hw.2 (hk c (by omega))
    rw [steps_succ, walk_succ, k4, k1, lk_at k2]
    refine ⟨List.mem_of_getElem? k2, rfl, ?_⟩
    rw [k3]
    exact walk_path w g e0 e1 c (fun k h => hk k (by omega))

theorem walk_sum {x : Nt} {a : Int} {T : Nat} {h b : List Int} (w : WfN x) (g : Good x a T h b) {τ : Int → Nat} (tm : TimBy x h b τ) {e : Int} (e0 : 0 ≤ e) (e1 : e < x.n) : ∀ c, (∀ k, k < c → gt b (walkM x b k e) ≠ -1) →
    gt h (walkM x b c e) + sumT (stepsM x b e c) ≤ gt h e ∧ (0 < c → τ e ≤ τ (walkM x b c e) → gt h (walkM x b c e) + sumT (stepsM x b e c) < gt h e)
  | 0, _ => ⟨by simp [walkM, stepsM, outsM, sumT], fun h => by omega⟩
  | c + 1, hk => by
    have hw := wkm_in w g c e e0 e1 (fun k h => hk k (by omega))
    obtain ⟨i, t, k1, k2, k3, k4, k5, k6, k7, k8⟩ := par_yes w g hw.1 hw.2 (hk c (by omega))
    obtain ⟨h1, h2⟩ := walk_sum w g tm e0 e1 c (fun k h => hk k (by omega))
    obtain ⟨h3, h4⟩ := tm _ hw.1 hw.2 i t k1 k2
    rw [steps_succ, walk_succ, k4, k1, lk_at k2, sumT_cons]
    refine ⟨by omega, fun _ hle => ?_⟩
    rcases Nat.lt_or_ge (τ t.frm) (τ (walkM x b c e)) with hlt | hge
    · cases c with
      | zero => simp only [walkM] at hlt; omega
      | succ c =>
        have := h2 (by omega) (by omega)
        omega
    · have := h4 hge
      omega

/-- A circle of last links has a sum less than 0. -/
theorem walk_circle {x : Nt} {a : Int} {T : Nat} {h b : List Int} (w : WfN x) (g : Good x a T h b) (tm : Tim x h b) {e : Int} (e0 : 0 ≤ e) (e1 : e < x.n) {c : Nat} (hc : 0 < c) (hk : ∀ k, k < c → gt b (walkM x b k e) ≠ -1) (he : walkM x b c e = e) : sumT (stepsM x b e c) < 0 := by
  obtain ⟨τ, _, _, tm⟩ := tm
  have := (walk_sum w g tm e0 e1 c hk).2 hc (by rw [he]; exact Nat.le_refl _)
  rw [he] at this
  omega

/-! ### A round in which nothing is lowered. -/
theorem relaxes_nonneg {x : Nt} (w : WfN x) : ∀ (l : List Tie) (i : Int) (s : St), (∀ t ∈ l, t ∈ x.links) → 0 ≤ s.2.2 → 0 ≤ (relaxes l i s).2.2
  | [], i, s, _, h => h
  | t :: l, i, s, hl, h => by
    refine relaxes_nonneg w l (i + 1) _ (fun u hu => hl u (by simp [hu])) ?_
    unfold relax
    split
    · exact w.t0 t (hl t (by simp))
    · exact h
theorem relaxes_neg {x : Nt} (w : WfN x) : ∀ (l : List Tie) (i : Int) (s : St), (∀ t ∈ l, t ∈ x.links) → (relaxes l i s).2.2 < 0 → relaxes l i s = s ∧ ∀ t ∈ l, lower s.1 t = false
  | [], i, s, _, h => ⟨rfl, fun _ h => by cases h⟩
  | t :: l, i, s, hl, h => by
    rw [relaxes] at h ⊢
    by_cases hlow : lower s.1 t = true
    · exfalso
      have := relaxes_nonneg w l (i + 1) (relax s i t) (fun u hu => hl u (by simp [hu])) (by rw [relax, if_pos hlow]; exact w.t0 t (hl t (by simp)))
      omega
    · have e : relax s i t = s := by rw [relax, if_neg hlow]
      rw [e] at h ⊢
      obtain ⟨h1, h2⟩ := relaxes_neg w l (i + 1) s (fun u hu => hl u (by simp [hu])) h
      refine ⟨h1, fun u hu => ?_⟩
      rcases List.mem_cons.1 hu with rfl | hu
      · simpa using hlow
      · exact h2 u hu
theorem round_none {x : Nt} (w : WfN x) {h b : List Int} (hn : (roundM x h b).2.2 < 0) : (roundM x h b).1 = h ∧ (roundM x h b).2.1 = b ∧ ∀ t ∈ x.links, lower h t = false := by
  obtain ⟨h1, h2⟩ := relaxes_neg w x.links 0 (h, b, -1) (fun _ h => h) hn
  have h1 : roundM x h b = (h, b, -1) := h1
  rw [h1]
  exact ⟨rfl, rfl, h2⟩

theorem iter_le {x : Nt} (w : WfN x) {a : Int} (a0 : 0 ≤ a) (a1 : a < x.n) : ∀ r, r ≤ 42 → gt (iterM x a r).1 a ≤ 0
  | 0, _ => by
    show gt (startH x.n a) a ≤ 0
    rw [gt_start a0 a1 w.n1 a0 a1]
    simp
  | r + 1, hr => Int.le_trans (round_le w (iter_good w a0 a1 r (by omega)).hl a a0) (iter_le w a0 a1 r (by omega))

/-- How settling ends. -/
theorem go_cases {x : Nt} (w : WfN x) {a : Int} (a0 : 0 ≤ a) (a1 : a < x.n) : ∀ (f r : Nat), f + r = x.n.toNat →
    (∃ q, q ≤ 41 ∧ go x (f + 1) r (iterM x a r).1 (iterM x a r).2 = ((iterM x a q).1, (iterM x a q).2, none) ∧ ∀ t ∈ x.links, lower (iterM x a q).1 t = false) ∨
    (∃ v, 0 ≤ v ∧ v < x.n ∧ gt (iterM x a (x.n.toNat + 1)).1 v < gt (iterM x a x.n.toNat).1 v ∧ go x (f + 1) r (iterM x a r).1 (iterM x a r).2 = ((iterM x a (x.n.toNat + 1)).1, (iterM x a (x.n.toNat + 1)).2, some (circleM x (iterM x a (x.n.toNat + 1)).2 v)))
  | f, r, h => by
    have n1 := w.n1
    have n0 := w.n0
    rw [go_iter]
    split
    · rename_i hneg
      obtain ⟨h1, h2, h3⟩ := round_none w hneg
      have e1 : (iterM x a (r + 1)).1 = (iterM x a r).1 := h1
      have e2 : (iterM x a (r + 1)).2 = (iterM x a r).2 := h2
      exact .inl ⟨r, by omega, by rw [e1, e2], h3⟩
    · rename_i hpos
      split
      · rename_i hr
        have hr' : r = x.n.toNat := by omega
        have hl := round_last w (iter_good w a0 a1 r (by omega)).hl hpos
        rw [← hr']
        exact .inr ⟨_, hl.1, hl.2.1, hl.2.2, rfl⟩
      · rename_i hr
        cases f with
        | zero => omega
        | succ f => exact go_cases w a0 a1 f (r + 1) (by omega)

structure Settled (x : Nt) (a : Int) (h b : List Int) : Prop where
  g : Good x a 42000 h b
  tm : Tim x h b
  a0 : gt h a ≤ 0
  low : ∀ t ∈ x.links, lower h t = false

theorem settle_cases {x : Nt} (w : WfN x) {a : Int} (a0 : 0 ≤ a) (a1 : a < x.n) :
    (∃ h b, settleM x a = (h, b, none) ∧ Settled x a h b) ∨
    (∃ h b v, settleM x a = (h, b, some (circleM x b v)) ∧ Good x a 42000 h b ∧ Tim x h b ∧ 0 ≤ v ∧ v < x.n ∧ ∀ k, gt b (walkM x b k v) ≠ -1) := by
  have n1 := w.n1
  have n0 := w.n0
  have hb : ∀ q, q ≤ 42 → q * x.links.length ≤ 42000 := fun q hq => by
    have : q * x.links.length ≤ 42 * 1000 := Nat.mul_le_mul hq w.ll
    omega
  rcases go_cases w a0 a1 x.n.toNat 0 (by omega) with ⟨q, hq, h1, h2⟩ | ⟨v, v0, v1, h1, h2⟩
  · exact .inl ⟨_, _, h1, (iter_good w a0 a1 q (by omega)).weak (hb q (by omega)), iter_tim w a0 a1 q (by omega), iter_le w a0 a1 q (by omega), h2⟩
  · have hf : gt (iterM x a (x.n.toNat + 1)).1 v < far := by
      have g := iter_good w a0 a1 x.n.toNat (by omega)
      have := hb x.n.toNat (by omega)
      have hfar : far = 1125899906842624 := rfl
      rcases g.fin v v0 v1 with e | ⟨_, e⟩ <;> omega
    exact .inr ⟨_, _, v, h2, (iter_good w a0 a1 _ (by omega)).weak (hb _ (by omega)), iter_tim w a0 a1 _ (by omega), v0, v1, circle_ok w a0 a1 v0 v1 h1 hf⟩

/-- From here every mark is reached. -/
def Conn (x : Nt) (a : Int) : Prop := ∀ v, 0 ≤ v → v < x.n → ∃ l, PathM x a v l

section
variable {x : Nt} {a : Int} {h b : List Int}
theorem Settled.near (s : Settled x a h b) (w : WfN x) : ∀ {l : List Tie} {u v : Int}, 0 ≤ u → u < x.n → gt h u < far → PathM x u v l → gt h v < far
  | [], u, v, _, _, hu, hp => by
    have hp : u = v := hp
    rwa [← hp]
  | t :: l, u, v, u0, u1, hu, hp => by
    have hl := s.low t hp.1
    have hm := w.m1 t hp.1
    have hfar : far = 1125899906842624 := rfl
    refine Settled.near s w (w.t0 t hp.1) (w.t1 t hp.1) ?_ hp.2.2
    rw [lower, hp.2.1] at hl
    simp only [Bool.and_eq_false_iff, decide_eq_false_iff_not] at hl
    rcases s.g.fin u u0 u1 with e | ⟨_, e⟩ <;> omega
theorem Settled.lt (s : Settled x a h b) (w : WfN x) (a0 : 0 ≤ a) (a1 : a < x.n) (cn : Conn x a) {v : Int} (v0 : 0 ≤ v) (v1 : v < x.n) : gt h v < far := by
  obtain ⟨l, hl⟩ := cn v v0 v1
  have := s.a0
  have hfar : far = 1125899906842624 := rfl
  exact s.near w a0 a1 (by omega) hl
theorem Settled.feas (s : Settled x a h b) (w : WfN x) (a0 : 0 ≤ a) (a1 : a < x.n) (cn : Conn x a) : Feas x (gt h) := by
  intro t ht
  have h1 := s.lt w a0 a1 cn (w.f0 t ht) (w.f1 t ht)
  have hl := s.low t ht
  simp only [lower, Bool.and_eq_false_iff, decide_eq_false_iff_not] at hl
  omega
theorem Settled.noCircle (s : Settled x a h b) (w : WfN x) (a0 : 0 ≤ a) (a1 : a < x.n) (cn : Conn x a) {e : Int} (e0 : 0 ≤ e) (e1 : e < x.n) {c : Nat} (hc : 0 < c) (hk : ∀ k, k < c → gt b (walkM x b k e) ≠ -1) : walkM x b c e ≠ e := by
  intro he
  have h1 := walk_circle w s.g s.tm e0 e1 hc hk he
  have h2 := walk_path w s.g e0 e1 c hk
  rw [he] at h2
  have := feas_path (s.feas w a0 a1 cn) h2
  omega
/-- Back from each mark one comes to the first one. -/
theorem Settled.back (s : Settled x a h b) (w : WfN x) (a0 : 0 ≤ a) (a1 : a < x.n) (cn : Conn x a) {v : Int} (v0 : 0 ≤ v) (v1 : v < x.n) : ∃ m, m < x.n.toNat ∧ walkM x b m v = a ∧ ∀ k, k < m → gt b (walkM x b k v) ≠ -1 ∧ walkM x b k v ≠ a := by
  -- somewhere no last link is
  have hex : ∃ j, j < x.n.toNat ∧ gt b (walkM x b j v) = -1 ∧ ∀ k, k < j → gt b (walkM x b k v) ≠ -1 := by
    apply Classical.byContradiction
    intro hno
    have all : ∀ m, m ≤ x.n.toNat → ∀ k, k < m → gt b (walkM x b k v) ≠ -1 := by
      intro m
      induction m with
      | zero => intro _ k hk; omega
      | succ m ih =>
        intro hm k hk
        rcases Nat.lt_succ_iff_lt_or_eq.1 hk with h1 | rfl
        · exact ih (by omega) k h1
        · intro he
          exact hno ⟨k, by omega, he, ih (by omega)⟩
    have all := all _ (Nat.le_refl _)
    have hin : ∀ k, k ≤ x.n.toNat → 0 ≤ walkM x b k v ∧ walkM x b k v < x.n := fun k hk => wkm_in w s.g k v v0 v1 (fun j hj => all j (by omega))
    obtain ⟨p, q, hpq, hq, e⟩ := pigeon (n := x.n.toNat) (fun k => (walkM x b k v).toNat) (fun k hk => by have := hin k hk; omega)
    have hp := hin p (by omega)
    have hq' := hin q hq
    have e' : walkM x b p v = walkM x b q v := by omega
    refine s.noCircle w a0 a1 cn hp.1 hp.2 (c := q - p) (by omega) (fun k hk => ?_) ?_
    · rw [← walk_add]
      exact all _ (by omega)
    · rw [← walk_add, show p + (q - p) = q by omega, e']
  obtain ⟨j, hj, hjb, hjk⟩ := hex
  have hin := wkm_in w s.g j v v0 v1 hjk
  have hja : walkM x b j v = a := by
    rcases s.g.no _ hin.1 hin.2 hjb with e | ⟨e, _⟩
    · have := s.lt w a0 a1 cn hin.1 hin.2; omega
    · exact e
  -- the first time
  have hfirst : ∀ m, m ≤ j → (∃ i, i ≤ m ∧ walkM x b i v = a ∧ ∀ k, k < i → walkM x b k v ≠ a) ∨ ∀ k, k ≤ m → walkM x b k v ≠ a := by
    intro m
    induction m with
    | zero =>
      intro _
      by_cases e : walkM x b 0 v = a
      · exact .inl ⟨0, Nat.le_refl _, e, fun k hk => by omega⟩
      · refine .inr (fun k hk => ?_)
        obtain rfl : k = 0 := by omega
        exact e
    | succ m ih =>
      intro hm
      rcases ih (by omega) with ⟨i, h1, h2, h3⟩ | hno
      · exact .inl ⟨i, by omega, h2, h3⟩
      · by_cases e : walkM x b (m + 1) v = a
        · exact .inl ⟨m + 1, Nat.le_refl _, e, fun k hk => hno k (by omega)⟩
        · refine .inr (fun k hk => ?_)
          rcases Nat.lt_or_ge k (m + 1) with h | h
          · exact hno k (by omega)
          · rw [show k = m + 1 by omega]; exact e
  rcases hfirst j (Nat.le_refl _) with ⟨i, h1, h2, h3⟩ | hno
  · exact ⟨i, by omega, h2, fun k hk => ⟨hjk k (by omega), h3 k hk⟩⟩
  · exact (hno j (Nat.le_refl _) hja).elim
theorem Settled.zero (s : Settled x a h b) (w : WfN x) (a0 : 0 ≤ a) (a1 : a < x.n) (cn : Conn x a) : gt h a = 0 := by
  by_cases e : gt b a = -1
  · rcases s.g.no a a0 a1 e with e' | ⟨_, e'⟩
    · have := s.lt w a0 a1 cn a0 a1; omega
    · exact e'
  · exfalso
    obtain ⟨m, hm, h1, h2⟩ := s.back w a0 a1 cn (v := par x b a) (by obtain ⟨i, t, _, _, _, k4, _, _, k7, k8⟩ := par_yes w s.g a0 a1 e; omega) (by obtain ⟨i, t, _, _, _, k4, _, _, k7, k8⟩ := par_yes w s.g a0 a1 e; omega)
    refine s.noCircle w a0 a1 cn a0 a1 (c := m + 1) (by omega) (fun k hk => ?_) h1
    cases k with
    | zero => exact e
    | succ k => exact (h2 k (by omega)).1
/-- Each height is the sum of a path. -/
theorem Settled.path (s : Settled x a h b) (w : WfN x) (a0 : 0 ≤ a) (a1 : a < x.n) (cn : Conn x a) {v : Int} (v0 : 0 ≤ v) (v1 : v < x.n) {m : Nat} (hm : walkM x b m v = a) (hk : ∀ k, k < m → gt b (walkM x b k v) ≠ -1) : PathM x a v (stepsM x b v m) ∧ sumT (stepsM x b v m) = gt h v := by
  have h1 := walk_path w s.g v0 v1 m hk
  rw [hm] at h1
  refine ⟨h1, ?_⟩
  have h2 := feas_path (s.feas w a0 a1 cn) h1
  obtain ⟨τ, _, _, tm⟩ := s.tm
  have h3 := (walk_sum w s.g tm v0 v1 m hk).1
  rw [hm] at h3
  have := s.zero w a0 a1 cn
  omega
end

/-- A circle that is told has a sum less than 0. -/
theorem circle_spec {x : Nt} (w : WfN x) {a : Int} {h b : List Int} (g : Good x a 42000 h b) (tm : Tim x h b) {v : Int} (v0 : 0 ≤ v) (v1 : v < x.n) (hk : ∀ k, gt b (walkM x b k v) ≠ -1) :
    ∃ e, 0 ≤ e ∧ e < x.n ∧ PathM x e e ((circleM x b v).map (lk x)) ∧ sumT ((circleM x b v).map (lk x)) < 0 ∧ circleM x b v ≠ [] ∧ (circleM x b v).length ≤ x.n.toNat ∧ ∀ i ∈ circleM x b v, 0 ≤ i ∧ i < x.links.length := by
  have n0 := w.n0
  have hin : ∀ k, 0 ≤ walkM x b k v ∧ walkM x b k v < x.n := fun k => wkm_in w g k v v0 v1 (fun j _ => hk j)
  obtain ⟨m, m0, m1, m2⟩ := circle_turn (x := x) (b := b) (v := v) (n := x.n.toNat) (fun k => by have := hin k; omega)
  obtain ⟨e, he⟩ : ∃ e, walkM x b x.n.toNat v = e := ⟨_, rfl⟩
  rw [he] at m2
  have e0 : 0 ≤ e := by rw [← he]; exact (hin _).1
  have e1 : e < x.n := by rw [← he]; exact (hin _).2
  have hke : ∀ k, gt b (walkM x b k e) ≠ -1 := fun k => by rw [← he, ← walk_add]; exact hk _
  -- the first return
  have hfirst : ∀ q, q < m → (∃ c, c ≤ q ∧ walkM x b (c + 1) e = e ∧ ∀ k, 0 < k → k ≤ c → walkM x b k e ≠ e) ∨ ∀ k, 0 < k → k ≤ q + 1 → walkM x b k e ≠ e := by
    intro q
    induction q with
    | zero =>
      intro _
      by_cases e' : walkM x b 1 e = e
      · exact .inl ⟨0, Nat.le_refl _, e', fun k h1 h2 => by omega⟩
      · refine .inr (fun k h1 h2 => ?_)
        obtain rfl : k = 1 := by omega
        exact e'
    | succ q ih =>
      intro hq
      rcases ih (by omega) with ⟨c, h1, h2, h3⟩ | hno
      · exact .inl ⟨c, by omega, h2, h3⟩
      · by_cases e' : walkM x b (q + 2) e = e
        · exact .inl ⟨q + 1, Nat.le_refl _, e', fun k h1 h2 => hno k h1 (by omega)⟩
        · refine .inr (fun k h1 h2 => ?_)
          rcases Nat.lt_or_ge k (q + 2) with h | h
          · exact hno k h1 (by omega)
          · rw [show k = q + 2 by omega]; exact e'
  obtain ⟨c, hc1, hc2, hc3⟩ : ∃ c, c < m ∧ walkM x b (c + 1) e = e ∧ ∀ k, 0 < k → k ≤ c → walkM x b k e ≠ e := by
    rcases hfirst (m - 1) (by omega) with ⟨c, h1, h2, h3⟩ | hno
    · exact ⟨c, by omega, h2, h3⟩
    · exact (hno m m0 (by omega) m2).elim
  have hcc : circleM x b v = (outsM x b e (c + 1)).reverse := by unfold circleM; rw [he, turn_end hc3 (by omega) hc2]
  have hp := walk_path w g e0 e1 (c + 1) (fun k _ => hke k)
  rw [hc2] at hp
  have hs := walk_circle w g tm e0 e1 (c := c + 1) (by omega) (fun k _ => hke k) hc2
  rw [hcc]
  refine ⟨e, e0, e1, hp, hs, ?_, by simp; omega, ?_⟩
  · intro h0
    have := congrArg List.length h0
    simp at this
  · intro i hi
    rw [List.mem_reverse] at hi
    simp only [outsM, List.mem_map, List.mem_range] at hi
    obtain ⟨k, _, rfl⟩ := hi
    have hw : 0 ≤ walkM x b k e ∧ walkM x b k e < x.n := by rw [← he, ← walk_add]; exact hin _
    obtain ⟨i', t', k1, k2, _⟩ := par_yes w g hw.1 hw.2 (hke k)
    rw [k1]
    have := (List.getElem?_eq_some_iff.1 k2).1
    omega
theorem no_feas {x : Nt} {H : Int → Int} (f : Feas x H) {e : Int} {l : List Tie} (hp : PathM x e e l) (hs : sumT l < 0) : False := by
  have := feas_path f hp
  omega
end Go.Shaft
/- The specification's table of least sums. -/
set_option linter.unusedVariables false
set_option linter.unusedSimpArgs false
namespace Go.Shaft

/-! ### Paths without repeats -/
def inner (l : List Tie) : List Nat := l.dropLast.map fun t => t.to.toNat
theorem path_app {x : Nt} : ∀ {l l' : List Tie} {u v w : Int}, PathM x u w l → PathM x w v l' → PathM x u v (l ++ l')
  | [], l', u, v, w, h, h' => by
    have h : u = w := h
    rw [h]; exact h'
  | t :: l, l', u, v, w, h, h' => ⟨h.1, h.2.1, path_app h.2.2 h'⟩
theorem path_split {x : Nt} : ∀ {l l' : List Tie} {u v : Int}, PathM x u v (l ++ l') → ∃ w, PathM x u w l ∧ PathM x w v l'
  | [], l', u, v, h => ⟨u, rfl, h⟩
  | t :: l, l', u, v, h => by
    obtain ⟨w, h1, h2⟩ := path_split (l := l) h.2.2
    exact ⟨w, ⟨h.1, h.2.1, h1⟩, h2⟩
theorem path_end {x : Nt} {l : List Tie} {t : Tie} {u v : Int} (h : PathM x u v (l ++ [t])) : v = t.to := by
  obtain ⟨w, _, h2⟩ := path_split h
  exact h2.2.2.symm
theorem path_mem {x : Nt} : ∀ {l : List Tie} {u v : Int}, PathM x u v l → ∀ t ∈ l, t ∈ x.links
  | [], u, v, _, t, ht => by cases ht
  | s :: l, u, v, h, t, ht => by
    rcases List.mem_cons.1 ht with rfl | ht
    · exact h.1
    · exact path_mem h.2.2 t ht
theorem path_at {x : Nt} {l : List Tie} {u v : Int} {i : Nat} {t : Tie} (h : PathM x u v l) (ht : l[i]? = some t) : PathM x u t.to (l.take (i + 1)) ∧ PathM x t.to v (l.drop (i + 1)) := by
  have e : l = l.take (i + 1) ++ l.drop (i + 1) := (List.take_append_drop _ _).symm
  rw [e] at h
  obtain ⟨w, h1, h2⟩ := path_split h
  have e2 : l.take (i + 1) = l.take i ++ [t] := by rw [List.take_add_one, ht]; rfl
  have : w = t.to := by rw [e2] at h1; exact path_end h1
  subst this
  exact ⟨h1, h2⟩

theorem simple_path {x : Nt} (w : WfN x) : ∀ (N : Nat) {u v : Int} {l : List Tie}, l.length ≤ N → PathM x u v l → (∃ l', PathM x u v l' ∧ (inner l').Nodup ∧ sumT l' ≤ sumT l) ∨ (∃ e l', PathM x e e l' ∧ 0 ≤ e ∧ e < x.n ∧ (inner l').Nodup ∧ sumT l' < 0) := by
  intro N
  induction N with
  | zero =>
    intro u v l hl hp
    have : l = [] := List.eq_nil_of_length_eq_zero (by omega)
    subst this
    exact .inl ⟨[], hp, by simp [inner], Int.le_refl _⟩
  | succ N ih =>
    intro u v l hl hp
    by_cases hn : (inner l).Nodup
    · exact .inl ⟨l, hp, hn, Int.le_refl _⟩
    · obtain ⟨i, j, hij, hj, e⟩ := not_nodup hn
      simp only [inner, List.length_map, List.length_dropLast] at hj
      obtain ⟨s, hs⟩ : ∃ s, l[i]? = some s := ⟨_, List.getElem?_eq_getElem (by omega)⟩
      obtain ⟨t, ht⟩ : ∃ t, l[j]? = some t := ⟨_, List.getElem?_eq_getElem (by omega)⟩
      have hdl : ∀ q, q < l.length - 1 → l.dropLast[q]? = l[q]? := by
        intro q hq
        rw [List.getElem?_dropLast, if_pos hq]
      simp only [inner, List.getElem?_map, hdl i (by omega), hdl j hj, hs, ht, Option.map_some, Option.some.injEq] at e
      have hsm := path_mem hp s (List.mem_of_getElem? hs)
      have htm := path_mem hp t (List.mem_of_getElem? ht)
      have hst : s.to = t.to := by
        have := w.t0 s hsm; have := w.t0 t htm
        omega
      obtain ⟨p1, p2⟩ := path_at hp hs
      have ht' : (l.drop (i + 1))[j - i - 1]? = some t := by rw [List.getElem?_drop, show i + 1 + (j - i - 1) = j by omega]; exact ht
      obtain ⟨p3, p4⟩ := path_at p2 ht'
      rw [List.drop_drop, show i + 1 + (j - i - 1 + 1) = j + 1 by omega] at p4
      have hsum : sumT l = sumT (l.take (i + 1)) + (sumT ((l.drop (i + 1)).take (j - i - 1 + 1)) + sumT (l.drop (j + 1))) := by
        rw [← sumT_append, show l.drop (j + 1) = (l.drop (i + 1)).drop (j - i - 1 + 1) by rw [List.drop_drop]; congr 1; omega, List.take_append_drop, ← sumT_append, List.take_append_drop]
      by_cases hneg : sumT ((l.drop (i + 1)).take (j - i - 1 + 1)) < 0
      · rw [hst] at p3
        rcases ih (by simp only [List.length_take, List.length_drop]; omega) p3 with ⟨l', h1, h2, h3⟩ | h
        · exact .inr ⟨t.to, l', h1, w.t0 t htm, w.t1 t htm, h2, by omega⟩
        · exact .inr h
      · rw [← hst] at p4
        rcases ih (l := l.take (i + 1) ++ l.drop (j + 1)) (by simp only [List.length_append, List.length_take, List.length_drop]; omega) (path_app p1 p4) with ⟨l', h1, h2, h3⟩ | h
        · rw [sumT_append] at h3
          exact .inl ⟨l', h1, h2, by omega⟩
        · exact .inr h

theorem inner_len {x : Nt} (w : WfN x) {u v : Int} {l : List Tie} (hp : PathM x u v l) (hn : (inner l).Nodup) : l.length ≤ 42 := by
  have n1 := w.n1
  have h := nodup_lt x.n.toNat (inner l) hn (by
    intro a ha
    simp only [inner, List.mem_map] at ha
    obtain ⟨t, ht, rfl⟩ := ha
    have hm := path_mem hp t ((List.dropLast_sublist l).subset ht)
    have := w.t0 t hm; have := w.t1 t hm
    omega)
  simp only [inner, List.length_map, List.length_dropLast] at h
  omega
theorem sumT_ge {x : Nt} (w : WfN x) : ∀ {u v : Int} {l : List Tie}, PathM x u v l → -(16777216 * (l.length : Int)) ≤ sumT l
  | u, v, [], h => by simp [sumT]
  | u, v, t :: l, h => by
    have := sumT_ge w h.2.2
    have := w.m0 t h.1
    rw [sumT_cons, List.length_cons]
    push_cast
    omega

/-! ### The table -/
def farT : Int := 1099511627776
abbrev Tb := List (List Int)
def g2 (d : Tb) (i j : Nat) : Int := (d.getD i []).getD j 0
def s2 (d : Tb) (i j : Nat) (v : Int) : Tb := d.set i ((d.getD i []).set j v)
def mnI (a b : Int) : Int := if b < a then b else a
def mxI (a b : Int) : Int := if b > a then b else a
def rowT (n i : Nat) : List Int := (List.replicate n farT).set i 0
def d0T (n : Nat) : Tb := (List.range n).map (rowT n)
def putT (d : Tb) (t : Tie) : Tb := s2 d t.frm.toNat t.to.toNat (mnI (g2 d t.frm.toNat t.to.toNat) t.most)
def stepT (m i j : Nat) (d : Tb) : Tb := if g2 d i m < farT ∧ g2 d m j < farT then s2 d i j (mxI (-farT) (mnI (g2 d i j) (g2 d i m + g2 d m j))) else d
def itr (f : Nat → Tb → Tb) : Nat → Tb → Tb
  | 0, d => d
  | k + 1, d => f k (itr f k d)
def lineT (n m i : Nat) : Tb → Tb := itr (stepT m i) n
def roundT (n m : Nat) : Tb → Tb := itr (lineT n m) n
def tabT (n : Nat) (L : List Tie) : Tb := itr (roundT n) n (L.foldl putT (d0T n))
def okT (n : Nat) (d : Tb) : Bool := (List.range n).all fun i => decide (¬ g2 d i i < 0)

structure Bd (n : Nat) (d : Tb) : Prop where
  len : d.length = n
  row : ∀ i, i < n → (d.getD i []).length = n
  lo : ∀ i j, i < n → j < n → -farT ≤ g2 d i j
  hi : ∀ i j, i < n → j < n → g2 d i j ≤ farT
def LeT (n : Nat) (d d' : Tb) : Prop := ∀ i j, i < n → j < n → g2 d' i j ≤ g2 d i j
theorem LeT.refl (n : Nat) (d : Tb) : LeT n d d := fun _ _ _ _ => Int.le_refl _
theorem LeT.trans {n : Nat} {a b c : Tb} (h : LeT n a b) (k : LeT n b c) : LeT n a c := fun i j hi hj => Int.le_trans (k i j hi hj) (h i j hi hj)

theorem getD_set {α : Type} (l : List α) (i j : Nat) (a z : α) : (l.set i a).getD j z = if i = j ∧ i < l.length then a else l.getD j z := by
  rw [List.getD_eq_getElem?_getD, List.getD_eq_getElem?_getD, List.getElem?_set]
  by_cases e : i = j
  · subst e
    by_cases h : i < l.length
    · simp [h]
    · simp [h]
  · simp [e]
theorem g2_s2 {n : Nat} {d : Tb} (b : Bd n d) {i j : Nat} (hi : i < n) (hj : j < n) (v : Int) (p q : Nat) : g2 (s2 d i j v) p q = if p = i ∧ q = j then v else g2 d p q := by
  unfold g2 s2
  rw [getD_set]
  by_cases e : i = p
  · subst e
    rw [if_pos ⟨rfl, by rw [b.len]; exact hi⟩, getD_set]
    by_cases e2 : j = q
    · subst e2
      rw [if_pos ⟨rfl, by rw [b.row i hi]; exact hj⟩, if_pos ⟨rfl, rfl⟩]
    · rw [if_neg (fun h => e2 h.1), if_neg (fun h => e2 h.2.symm)]
  · rw [if_neg (fun h => e h.1), if_neg (fun h => e h.1.symm)]
theorem Bd.s2 {n : Nat} {d : Tb} (b : Bd n d) {i j : Nat} (hi : i < n) (hj : j < n) {v : Int} (v0 : -farT ≤ v) (v1 : v ≤ farT) : Bd n (s2 d i j v) := by
  refine ⟨by simp [Shaft.s2, b.len], ?_, ?_, ?_⟩
  · intro p hp
    unfold Shaft.s2
    rw [getD_set]
    split
    · rw [List.length_set]; exact b.row i hi
    · exact b.row p hp
  · intro p q hp hq
    rw [g2_s2 b hi hj]
    split
    · exact v0
    · exact b.lo p q hp hq
  · intro p q hp hq
    rw [g2_s2 b hi hj]
    split
    · exact v1
    · exact b.hi p q hp hq
theorem step_mono {n m i j : Nat} {d : Tb} (b : Bd n d) (hm : m < n) (hi : i < n) (hj : j < n) : Bd n (stepT m i j d) ∧ LeT n d (stepT m i j d) := by
  unfold stepT
  split
  · have l0 := b.lo i j hi hj
    have l1 := b.hi i j hi hj
    have hf : farT = 1099511627776 := rfl
    refine ⟨b.s2 hi hj ?_ ?_, ?_⟩
    · unfold mxI mnI; split <;> split <;> omega
    · unfold mxI mnI; split <;> split <;> omega
    · intro p q hp hq
      rw [g2_s2 b hi hj]
      split
      · rename_i e
        rw [e.1, e.2]
        unfold mxI mnI; split <;> split <;> omega
      · exact Int.le_refl _
  · exact ⟨b, LeT.refl n d⟩
theorem itr_mono {n : Nat} {f : Nat → Tb → Tb} (hf : ∀ k d, k < n → Bd n d → Bd n (f k d) ∧ LeT n d (f k d)) {d : Tb} (b : Bd n d) : ∀ k, k ≤ n → Bd n (itr f k d) ∧ LeT n d (itr f k d)
  | 0, _ => ⟨b, LeT.refl n d⟩
  | k + 1, hk => by
    obtain ⟨h1, h2⟩ := itr_mono hf b k (by omega)
    obtain ⟨h3, h4⟩ := hf k _ (by omega) h1
    exact ⟨h3, h2.trans h4⟩
theorem itr_hit {n : Nat} {f : Nat → Tb → Tb} (hf : ∀ k d, k < n → Bd n d → Bd n (f k d) ∧ LeT n d (f k d)) {d : Tb} (b : Bd n d) {P : Tb → Prop} (hmono : ∀ d1 d2, LeT n d1 d2 → P d1 → P d2) {k : Nat} (hP : ∀ d', Bd n d' → LeT n d d' → P (f k d')) : ∀ q, k < q → q ≤ n → P (itr f q d)
  | 0, h, _ => by omega
  | q + 1, h, hq => by
    obtain ⟨h1, h2⟩ := itr_mono hf b q (by omega)
    rcases Nat.lt_succ_iff_lt_or_eq.1 h with h3 | rfl
    · exact hmono _ _ (hf q _ (by omega) h1).2 (itr_hit hf b hmono hP q h3 (by omega))
    · exact hP _ h1 h2
theorem line_mono {n m i : Nat} (hm : m < n) (hi : i < n) {d : Tb} (b : Bd n d) : Bd n (lineT n m i d) ∧ LeT n d (lineT n m i d) := itr_mono (fun k d hk b => step_mono b hm hi hk) b n (Nat.le_refl _)
theorem roundT_mono {n m : Nat} (hm : m < n) {d : Tb} (b : Bd n d) : Bd n (roundT n m d) ∧ LeT n d (roundT n m d) := itr_mono (fun k d hk b => line_mono hm hk b) b n (Nat.le_refl _)
theorem step_hit {n m i j : Nat} {d : Tb} (b : Bd n d) (hm : m < n) (hi : i < n) (hj : j < n) {p q : Int} (hp : g2 d i m ≤ p) (hq : g2 d m j ≤ q) (p1 : p < farT) (q1 : q < farT) (pq : -farT ≤ p + q) : g2 (stepT m i j d) i j ≤ p + q := by
  unfold stepT
  rw [if_pos ⟨by omega, by omega⟩, g2_s2 b hi hj, if_pos ⟨rfl, rfl⟩]
  unfold mxI mnI; split <;> split <;> omega
theorem roundT_hit {n m i j : Nat} {d : Tb} (b : Bd n d) (hm : m < n) (hi : i < n) (hj : j < n) {p q : Int} (hp : g2 d i m ≤ p) (hq : g2 d m j ≤ q) (p1 : p < farT) (q1 : q < farT) (pq : -farT ≤ p + q) : g2 (roundT n m d) i j ≤ p + q := by
  refine itr_hit (P := fun d => g2 d i j ≤ p + q) (fun k d hk b => line_mono hm hk b) b (fun d1 d2 h h1 => Int.le_trans (h i j hi hj) h1) (k := i) ?_ n hi (Nat.le_refl _)
  intro d' b' hle
  refine itr_hit (P := fun d => g2 d i j ≤ p + q) (fun k d hk b => step_mono b hm hi hk) b' (fun d1 d2 h h1 => Int.le_trans (h i j hi hj) h1) (k := j) ?_ n hj (Nat.le_refl _)
  intro d2 b2 hle2
  exact step_hit b2 hm hi hj (Int.le_trans (hle2 i m hi hm) (Int.le_trans (hle i m hi hm) hp)) (Int.le_trans (hle2 m j hm hj) (Int.le_trans (hle m j hm hj) hq)) p1 q1 pq

theorem d0_get {n i j : Nat} (hi : i < n) (hj : j < n) : g2 (d0T n) i j = if i = j then 0 else farT := by
  have e0 : (d0T n).getD i [] = rowT n i := by simp [d0T, hi]
  unfold g2
  rw [e0, rowT, getD_set, List.length_replicate]
  by_cases e : i = j
  · rw [if_pos ⟨e, hi⟩, if_pos e]
  · rw [if_neg (fun h => e h.1), if_neg e, List.getD_eq_getElem?_getD, List.getElem?_replicate, if_pos hj]
    rfl
theorem Bd.d0 (n : Nat) : Bd n (d0T n) := by
  have hf : farT = 1099511627776 := rfl
  refine ⟨by simp [d0T], ?_, ?_, ?_⟩
  · intro i hi
    simp [d0T, rowT, hi]
  · intro i j hi hj
    rw [d0_get hi hj]; split <;> omega
  · intro i j hi hj
    rw [d0_get hi hj]; split <;> omega
theorem put_mono {n : Nat} {d : Tb} (b : Bd n d) {t : Tie} (f0 : 0 ≤ t.frm) (f1 : t.frm < n) (t0 : 0 ≤ t.to) (t1 : t.to < n) (m0 : -16777216 ≤ t.most) (m1 : t.most ≤ 16777216) : Bd n (putT d t) ∧ LeT n d (putT d t) ∧ g2 (putT d t) t.frm.toNat t.to.toNat ≤ t.most := by
  have hf : farT = 1099511627776 := rfl
  have hi : t.frm.toNat < n := by omega
  have hj : t.to.toNat < n := by omega
  have l0 := b.lo _ _ hi hj
  have l1 := b.hi _ _ hi hj
  refine ⟨b.s2 hi hj ?_ ?_, ?_, ?_⟩
  · unfold mnI; split <;> omega
  · unfold mnI; split <;> omega
  · intro p q hp hq
    unfold putT
    rw [g2_s2 b hi hj]
    split
    · rename_i e
      rw [e.1, e.2]
      unfold mnI; split <;> omega
    · exact Int.le_refl _
  · unfold putT
    rw [g2_s2 b hi hj, if_pos ⟨rfl, rfl⟩]
    unfold mnI; split <;> omega
theorem puts_mono {n : Nat} : ∀ (L : List Tie), (∀ t ∈ L, 0 ≤ t.frm ∧ t.frm < n ∧ 0 ≤ t.to ∧ t.to < n ∧ -16777216 ≤ t.most ∧ t.most ≤ 16777216) → ∀ {d : Tb}, Bd n d → Bd n (L.foldl putT d) ∧ LeT n d (L.foldl putT d) ∧ ∀ t ∈ L, g2 (L.foldl putT d) t.frm.toNat t.to.toNat ≤ t.most
  | [], _, d, b => ⟨b, LeT.refl n d, fun t ht => by cases ht⟩
  | t :: L, h, d, b => by
    obtain ⟨h1, h2, h3, h4, h5, h6⟩ := h t (by simp)
    obtain ⟨b1, l1, g1⟩ := put_mono b h1 h2 h3 h4 h5 h6
    obtain ⟨b2, l2, g2'⟩ := puts_mono L (fun u hu => h u (by simp [hu])) b1
    refine ⟨b2, l1.trans l2, fun u hu => ?_⟩
    rcases List.mem_cons.1 hu with rfl | hu
    · exact Int.le_trans (l2 _ _ (by omega) (by omega)) g1
    · exact g2' u hu

theorem wf_all {x : Nt} (w : WfN x) : ∀ t ∈ x.links, 0 ≤ t.frm ∧ t.frm < (x.n.toNat : Nat) ∧ 0 ≤ t.to ∧ t.to < (x.n.toNat : Nat) ∧ -16777216 ≤ t.most ∧ t.most ≤ 16777216 := by
  intro t ht
  have := w.f0 t ht; have := w.f1 t ht; have := w.t0 t ht; have := w.t1 t ht; have := w.m0 t ht; have := w.m1 t ht
  omega

/-- What paths through the first marks say is not exceeded. -/
def UpT (x : Nt) (d : Tb) (m : Nat) : Prop := ∀ (i j : Nat) (l : List Tie), i < x.n.toNat → j < x.n.toNat → PathM x i j l → (inner l).Nodup → (∀ v ∈ inner l, v < m) → g2 d i j ≤ sumT l

theorem up_zero {x : Nt} (w : WfN x) : UpT x (x.links.foldl putT (d0T x.n.toNat)) 0 := by
  obtain ⟨b, hle, hp⟩ := puts_mono x.links (wf_all w) (Bd.d0 x.n.toNat)
  intro i j l hi hj hl hn hv
  match l, hl, hn, hv with
  | [], hl, _, _ =>
    have hl : (i : Int) = j := hl
    have : i = j := by omega
    subst this
    refine Int.le_trans (hle i i hi hi) ?_
    rw [d0_get hi hi, if_pos rfl]
    simp [sumT]
  | [t], hl, _, _ =>
    obtain ⟨h1, h2, h3⟩ := hl
    have h3 : t.to = j := h3
    have := hp t h1
    rw [h2, h3] at this
    simpa [sumT] using this
  | s :: t :: l, hl, _, hv =>
    have := hv s.to.toNat (by simp [inner])
    omega

theorem up_step {x : Nt} (w : WfN x) {d : Tb} {m : Nat} (b : Bd x.n.toNat d) (hm : m < x.n.toNat) (u : UpT x d m) : UpT x (roundT x.n.toNat m d) (m + 1) := by
  intro i j l hi hj hl hn hv
  by_cases hmem : m ∈ inner l
  · -- through m
    simp only [inner, List.mem_map] at hmem
    obtain ⟨t, ht, htm⟩ := hmem
    obtain ⟨a, c, hac⟩ := List.append_of_mem ht
    have hne : l ≠ [] := by rintro rfl; simp at ht
    have hl2 : l = (a ++ [t]) ++ (c ++ [l.getLast hne]) := by
      conv => lhs; rw [← List.dropLast_concat_getLast hne]
      rw [hac]; simp
    generalize l.getLast hne = z at hl2
    have hi1 : inner (a ++ [t]) = a.map fun t => t.to.toNat := by simp [inner]
    have hi2 : inner (c ++ [z]) = c.map fun t => t.to.toNat := by simp [inner]
    have hil : inner l = (a.map fun t => t.to.toNat) ++ m :: (c.map fun t => t.to.toNat) := by
      unfold inner
      rw [hac]
      simp [htm]
    rw [hil] at hn hv
    rw [List.nodup_append] at hn
    obtain ⟨n1, n2, n3⟩ := hn
    rw [List.nodup_cons] at n2
    obtain ⟨y, p1, p2⟩ := path_split (by rw [← hl2]; exact hl : PathM x i j ((a ++ [t]) ++ (c ++ [z])))
    have hy : y = t.to := path_end p1
    have htx := path_mem p1 t (by simp)
    have ht0 := w.t0 t htx
    have hym : y = (m : Int) := by omega
    rw [hym] at p1 p2
    have q1 := u i m (a ++ [t]) hi hm p1 (by rw [hi1]; exact n1) (by
      rw [hi1]
      intro v hva
      have h1 := hv v (by simp [hva])
      have h2 : v ≠ m := n3 v hva m (by simp)
      omega)
    have q2 := u m j (c ++ [z]) hm hj p2 (by rw [hi2]; exact n2.2) (by
      rw [hi2]
      intro v hvc
      have h1 := hv v (by simp [hvc])
      have h2 : v ≠ m := by rintro rfl; exact n2.1 hvc
      omega)
    have k1 := inner_len w p1 (by rw [hi1]; exact n1)
    have k2 := inner_len w p2 (by rw [hi2]; exact n2.2)
    have s1 := sumT_le w p1; have s2 := sumT_le w p2
    have s3 := sumT_ge w p1; have s4 := sumT_ge w p2
    have hf : farT = 1099511627776 := rfl
    have := roundT_hit b hm hi hj q1 q2 (by omega) (by omega) (by omega)
    rw [hl2, sumT_append]
    exact this
  · refine Int.le_trans ((roundT_mono hm b).2 i j hi hj) (u i j l hi hj hl hn fun v hvl => ?_)
    have h1 := hv v hvl
    have h2 : v ≠ m := by rintro rfl; exact hmem hvl
    omega

theorem up_all {x : Nt} (w : WfN x) : ∀ m, m ≤ x.n.toNat → Bd x.n.toNat (itr (roundT x.n.toNat) m (x.links.foldl putT (d0T x.n.toNat))) ∧ UpT x (itr (roundT x.n.toNat) m (x.links.foldl putT (d0T x.n.toNat))) m
  | 0, _ => ⟨(puts_mono x.links (wf_all w) (Bd.d0 x.n.toNat)).1, up_zero w⟩
  | m + 1, hm => by
    obtain ⟨b, u⟩ := up_all w m (by omega)
    exact ⟨(roundT_mono (by omega) b).1, up_step w b (by omega) u⟩
theorem tab_bd {x : Nt} (w : WfN x) : Bd x.n.toNat (tabT x.n.toNat x.links) := (up_all w _ (Nat.le_refl _)).1
/-- No path is shorter than the table says. -/
theorem tab_up {x : Nt} (w : WfN x) {i j : Nat} {l : List Tie} (hi : i < x.n.toNat) (hj : j < x.n.toNat) (hl : PathM x i j l) (hn : (inner l).Nodup) : g2 (tabT x.n.toNat x.links) i j ≤ sumT l := by
  refine (up_all w _ (Nat.le_refl _)).2 i j l hi hj hl hn ?_
  intro v hv
  simp only [inner, List.mem_map] at hv
  obtain ⟨t, ht, rfl⟩ := hv
  have hm := path_mem hl t ((List.dropLast_sublist l).subset ht)
  have := w.t0 t hm; have := w.t1 t hm
  omega

/-! ### Heights are not exceeded -/
def LowT (n : Nat) (H : Int → Int) (d : Tb) : Prop := ∀ i j, i < n → j < n → H j - H i ≤ g2 d i j
theorem low_step {n m i j : Nat} {H : Int → Int} {d : Tb} (b : Bd n d) (hm : m < n) (hi : i < n) (hj : j < n) (h : LowT n H d) : LowT n H (stepT m i j d) := by
  unfold stepT
  split
  · intro p q hp hq
    rw [g2_s2 b hi hj]
    split
    · rename_i e
      rw [e.1, e.2]
      have h1 := h i m hi hm; have h2 := h m j hm hj; have h3 := h i j hi hj
      unfold mxI mnI; split <;> split <;> omega
    · exact h p q hp hq
  · exact h
theorem itr_low {n : Nat} {H : Int → Int} {f : Nat → Tb → Tb} (hf : ∀ k d, k < n → Bd n d → Bd n (f k d)) (hl : ∀ k d, k < n → Bd n d → LowT n H d → LowT n H (f k d)) {d : Tb} (b : Bd n d) (h : LowT n H d) : ∀ k, k ≤ n → Bd n (itr f k d) ∧ LowT n H (itr f k d)
  | 0, _ => ⟨b, h⟩
  | k + 1, hk => by
    obtain ⟨h1, h2⟩ := itr_low hf hl b h k (by omega)
    exact ⟨hf k _ (by omega) h1, hl k _ (by omega) h1 h2⟩
theorem low_puts {n : Nat} {H : Int → Int} (hB : ∀ i j : Nat, i < n → j < n → H j - H i ≤ farT) : ∀ (L : List Tie), (∀ t ∈ L, 0 ≤ t.frm ∧ t.frm < n ∧ 0 ≤ t.to ∧ t.to < n ∧ -16777216 ≤ t.most ∧ t.most ≤ 16777216) → (∀ t ∈ L, H t.to ≤ H t.frm + t.most) → ∀ {d : Tb}, Bd n d → LowT n H d → LowT n H (L.foldl putT d)
  | [], _, _, d, b, h => h
  | t :: L, hw, hF, d, b, h => by
    obtain ⟨h1, h2, h3, h4, h5, h6⟩ := hw t (by simp)
    have hft := hF t (by simp)
    refine low_puts hB L (fun u hu => hw u (by simp [hu])) (fun u hu => hF u (by simp [hu])) (put_mono b h1 h2 h3 h4 h5 h6).1 ?_
    intro p q hp hq
    unfold putT
    rw [g2_s2 b (by omega) (by omega)]
    split
    · rename_i e
      have e1 : (p : Int) = t.frm := by omega
      have e2 : (q : Int) = t.to := by omega
      have key : H q - H p ≤ g2 d t.frm.toNat t.to.toNat := by rw [← e.1, ← e.2]; exact h p q hp hq
      have e3 : H q = H t.to := by rw [e2]
      have e4 : H p = H t.frm := by rw [e1]
      unfold mnI; split <;> omega
    · exact h p q hp hq
theorem tab_low {x : Nt} (w : WfN x) {H : Int → Int} (f : Feas x H) (hB : ∀ i j : Nat, i < x.n.toNat → j < x.n.toNat → H j - H i ≤ farT) : LowT x.n.toNat H (tabT x.n.toNat x.links) := by
  have hz : LowT x.n.toNat H (d0T x.n.toNat) := by
    intro i j hi hj
    rw [d0_get hi hj]
    split
    · rename_i e; rw [e]; omega
    · exact hB i j hi hj
  have h1 := low_puts hB x.links (wf_all w) f (Bd.d0 _) hz
  have b1 := (puts_mono x.links (wf_all w) (Bd.d0 x.n.toNat)).1
  refine (itr_low (fun k d hk b => (roundT_mono hk b).1) (fun m d hm b h => ?_) b1 h1 _ (Nat.le_refl _)).2
  refine (itr_low (fun k d hk b => (line_mono hm hk b).1) (fun i d hi b h => ?_) b h _ (Nat.le_refl _)).2
  exact (itr_low (fun k d hk b => (step_mono b hm hi hk).1) (fun j d hj b h => low_step b hm hi hj h) b h _ (Nat.le_refl _)).2

/-! ### The table and settling -/
theorem tab_clash {x : Nt} (w : WfN x) {u : Int} {l : List Tie} (hp : PathM x u u l) (u0 : 0 ≤ u) (u1 : u < x.n) (hs : sumT l < 0) : okT x.n.toNat (tabT x.n.toNat x.links) = false := by
  have key : ∃ e l', PathM x e e l' ∧ 0 ≤ e ∧ e < x.n ∧ (inner l').Nodup ∧ sumT l' < 0 := by
    rcases simple_path w l.length (Nat.le_refl _) hp with ⟨l', h1, h2, h3⟩ | h
    · exact ⟨u, l', h1, u0, u1, h2, by omega⟩
    · exact h
  obtain ⟨e, l', h1, e0, e1, h2, h3⟩ := key
  obtain ⟨i, rfl⟩ : ∃ i : Nat, e = i := ⟨e.toNat, by omega⟩
  have := tab_up w (by omega) (by omega) h1 h2
  unfold okT
  rw [List.all_eq_false]
  exact ⟨i, List.mem_range.2 (by omega), by simp; omega⟩
theorem tab_fine {x : Nt} (w : WfN x) {H : Int → Int} (f : Feas x H) (hB : ∀ i j : Nat, i < x.n.toNat → j < x.n.toNat → H j - H i ≤ farT) : okT x.n.toNat (tabT x.n.toNat x.links) = true := by
  have h := tab_low w f hB
  unfold okT
  rw [List.all_eq_true]
  intro i hi
  have := h i i (List.mem_range.1 hi) (List.mem_range.1 hi)
  simp; omega
theorem Settled.bound2 {x : Nt} {a : Int} {h b : List Int} (s : Settled x a h b) (w : WfN x) (a0 : 0 ≤ a) (a1 : a < x.n) (cn : Conn x a) {v : Int} (v0 : 0 ≤ v) (v1 : v < x.n) : -687865856 ≤ gt h v ∧ gt h v ≤ 687865856 := by
  have n1 := w.n1
  obtain ⟨m, hm, h1, h2⟩ := s.back w a0 a1 cn v0 v1
  obtain ⟨p1, p2⟩ := s.path w a0 a1 cn v0 v1 h1 (fun k hk => (h2 k hk).1)
  have q1 := sumT_le w p1; have q2 := sumT_ge w p1
  have hl : (stepsM x b v m).length = m := by simp [stepsM]
  rw [hl] at q1 q2
  omega
theorem Settled.far {x : Nt} {a : Int} {h b : List Int} (s : Settled x a h b) (w : WfN x) (a0 : 0 ≤ a) (a1 : a < x.n) (cn : Conn x a) : ∀ i j : Nat, i < x.n.toNat → j < x.n.toNat → gt h j - gt h i ≤ farT := by
  intro i j hi hj
  have h1 := s.bound2 w a0 a1 cn (v := i) (by omega) (by omega)
  have h2 := s.bound2 w a0 a1 cn (v := j) (by omega) (by omega)
  have hf : farT = 1099511627776 := rfl
  omega
/-- The heights that settling finds are the table's. -/
theorem Settled.tab {x : Nt} {a : Int} {h b : List Int} (s : Settled x a h b) (w : WfN x) (a0 : 0 ≤ a) (a1 : a < x.n) (cn : Conn x a) : okT x.n.toNat (tabT x.n.toNat x.links) = true ∧ ∀ v : Int, 0 ≤ v → v < x.n → g2 (tabT x.n.toNat x.links) a.toNat v.toNat = gt h v := by
  have f := s.feas w a0 a1 cn
  have hB := s.far w a0 a1 cn
  refine ⟨tab_fine w f hB, fun v v0 v1 => ?_⟩
  obtain ⟨i, rfl⟩ : ∃ i : Nat, a = i := ⟨a.toNat, by omega⟩
  obtain ⟨j, rfl⟩ : ∃ i : Nat, v = i := ⟨v.toNat, by omega⟩
  simp only [Int.toNat_natCast]
  have h1 := tab_low w f hB i j (by omega) (by omega)
  have hz := s.zero w a0 a1 cn
  obtain ⟨m, hm, k1, k2⟩ := s.back w a0 a1 cn v0 v1
  obtain ⟨p1, p2⟩ := s.path w a0 a1 cn v0 v1 k1 (fun k hk => (k2 k hk).1)
  rcases simple_path w _ (Nat.le_refl _) p1 with ⟨l', q1, q2, q3⟩ | ⟨e, l', q1, _, _, _, q3⟩
  · have := tab_up w (by omega) (by omega) q1 q2
    omega
  · exact (no_feas f q1 q3).elim
end Go.Shaft
/- Heights by weights; what is told of weights. -/
set_option linter.unusedVariables false
set_option linter.unusedSimpArgs false
namespace Go.Shaft
def pfx (l : List Int) (i : Nat) : Int := (l.take i).sum
@[simp] theorem pfx_zero (l : List Int) : pfx l 0 = 0 := by simp [pfx]
theorem pfx_succ {l : List Int} {i : Nat} {n : Int} (h : l[i]? = some n) : pfx l (i + 1) = pfx l i + n := by
  unfold pfx
  rw [List.take_add_one, h]
  simp
theorem pfx_bound {l : List Int} (h : ∀ n ∈ l, 0 ≤ n ∧ n ≤ 16777216) : ∀ i, 0 ≤ pfx l i ∧ pfx l i ≤ 16777216 * (i : Int)
  | 0 => by simp
  | i + 1 => by
    have := pfx_bound h i
    cases e : l[i]? with
    | none =>
      have hl : l.length ≤ i := by simpa using e
      have e1 : pfx l (i + 1) = pfx l i := by unfold pfx; rw [List.take_of_length_le (by omega), List.take_of_length_le hl]
      rw [e1]; omega
    | some n =>
      have := h n (List.mem_of_getElem? e)
      rw [pfx_succ e]; omega
/-- Heights so far: of the first 'i' loads, of the first 'j' draws. -/
def raiN (k : Kn) (t : Tr) (i j : Nat) : List Int := (List.range 41).map fun v => if v ≤ i then pfx t.loads v else if k.loads.length < v ∧ v ≤ k.loads.length + j then pfx t.draws (v - k.loads.length) else 0
def raisedM (k : Kn) (t : Tr) : List Int := raiN k t k.loads.length k.draws.length
@[simp] theorem rai_len (k : Kn) (t : Tr) (i j : Nat) : (raiN k t i j).length = 41 := by simp [raiN]
theorem rai_get (k : Kn) (t : Tr) (i j v : Nat) (h : v < 41) : (raiN k t i j)[v]? = some (if v ≤ i then pfx t.loads v else if k.loads.length < v ∧ v ≤ k.loads.length + j then pfx t.draws (v - k.loads.length) else 0) := by
  simp [raiN, h]
theorem rai_zero (k : Kn) (t : Tr) : raiN k t 0 0 = List.replicate 41 0 := by
  apply List.ext_getElem?
  intro v
  rcases Nat.lt_or_ge v 41 with h | h
  · rw [rai_get k t 0 0 v h, List.getElem?_replicate, if_pos h]
    congr 1
    split
    · rename_i e
      obtain rfl : v = 0 := by omega
      simp
    · rw [if_neg (by omega)]
  · rw [List.getElem?_eq_none (by simpa using h), List.getElem?_eq_none (by simpa using h)]
theorem rai_L {k : Kn} {t : Tr} {i : Nat} {n : Int} (hi : i < k.loads.length) (hk : k.loads.length ≤ 20) (hn : t.loads[i]? = some n) : (raiN k t i 0).set (i + 1) (pfx t.loads i + n) = raiN k t (i + 1) 0 := by
  apply List.ext_getElem?
  intro v
  rcases Nat.lt_or_ge v 41 with h | h
  · rw [List.getElem?_set, rai_get k t (i + 1) 0 v h]
    by_cases e : i + 1 = v
    · subst e
      rw [if_pos rfl, if_pos (by simpa using h), if_pos (Nat.le_refl _), pfx_succ hn]
    · rw [if_neg e, rai_get k t i 0 v h]
      congr 1
      by_cases e2 : v ≤ i
      · rw [if_pos e2, if_pos (by omega)]
      · rw [if_neg e2, if_neg (by omega), if_neg (by omega)]
  · rw [List.getElem?_eq_none (by simpa using h), List.getElem?_eq_none (by simpa using h)]
theorem rai_D {k : Kn} {t : Tr} {j : Nat} {n : Int} (hj : j < k.draws.length) (hl : k.loads.length ≤ 20) (hd : k.draws.length ≤ 20) (hn : t.draws[j]? = some n) : (raiN k t k.loads.length j).set (k.loads.length + (j + 1)) (pfx t.draws j + n) = raiN k t k.loads.length (j + 1) := by
  apply List.ext_getElem?
  intro v
  rcases Nat.lt_or_ge v 41 with h | h
  · rw [List.getElem?_set, rai_get k t k.loads.length (j + 1) v h]
    by_cases e : k.loads.length + (j + 1) = v
    · subst e
      rw [if_pos rfl, if_pos (by simpa using h), if_neg (by omega), if_pos (by omega), ← pfx_succ hn]
      congr 2
      omega
    · rw [if_neg e, rai_get k t k.loads.length j v h]
      congr 1
      by_cases e2 : v ≤ k.loads.length
      · rw [if_pos e2, if_pos e2]
      · rw [if_neg e2, if_neg e2]
        by_cases e3 : v ≤ k.loads.length + j
        · rw [if_pos (by omega), if_pos (by omega)]
        · rw [if_neg (by omega), if_neg (by omega)]
  · rw [List.getElem?_eq_none (by simpa using h), List.getElem?_eq_none (by simpa using h)]
theorem rai_drawn {k : Kn} {t : Tr} {j : Nat} (hl : k.loads.length ≤ 20) (hd : k.draws.length ≤ 20) (hj : j ≤ k.draws.length) : (raiN k t k.loads.length j)[(drawnM k (j : Int)).toNat]? = some (pfx t.draws j) := by
  unfold drawnM
  by_cases e : j = 0
  · subst e
    rw [if_pos (by simp), show (0 : Int).toNat = 0 from rfl, rai_get k t _ 0 0 (by omega), if_pos (by omega)]
    simp
  · rw [if_neg (by omega), show ((k.loads.length : Int) + (j : Int)).toNat = k.loads.length + j by omega, rai_get k t _ j _ (by omega), if_neg (by omega), if_pos (by omega), show k.loads.length + j - k.loads.length = j by omega]
/-- As many weights as they must be, from 0 to the greatest room. -/
def toldB (k : Kn) (t : Tr) : Bool := decide (t.loads.length = k.loads.length) && (decide (t.draws.length = k.draws.length) && (!(t.loads.any fun n => !inB n 0 16777216) && !(t.draws.any fun n => !inB n 0 16777216)))
structure TrOk (k : Kn) (t : Tr) : Prop where
  ll : t.loads.length = k.loads.length
  dl : t.draws.length = k.draws.length
  l : ∀ n ∈ t.loads, 0 ≤ n ∧ n ≤ 16777216
  d : ∀ n ∈ t.draws, 0 ≤ n ∧ n ≤ 16777216
theorem told_iff {k : Kn} {t : Tr} : toldB k t = true ↔ TrOk k t := by
  unfold toldB
  simp only [Bool.and_eq_true, decide_eq_true_eq, Bool.not_eq_true', List.any_eq_false, inB, Bool.not_eq_true, Bool.not_eq_false', ne_eq]
  constructor
  · rintro ⟨h1, h2, h3, h4⟩
    exact ⟨h1, h2, fun n hn => by have := h3 n hn; simpa using this, fun n hn => by have := h4 n hn; simpa using this⟩
  · rintro ⟨h1, h2, h3, h4⟩
    exact ⟨h1, h2, fun n hn => by have := h3 n hn; simpa using this, fun n hn => by have := h4 n hn; simpa using this⟩
theorem idxP_any {α : Type} (l : List α) (p : α → Bool) : decide (0 ≤ idxP l p) = l.any p := by
  unfold idxP
  cases e : l.findIdx? p with
  | none =>
    rw [List.findIdx?_eq_none_iff] at e
    simp only [decide_false, show ¬ (0 : Int) ≤ -1 by omega]
    symm
    rw [List.any_eq_false]
    intro x hx
    simpa using e x hx
  | some i =>
    rw [List.findIdx?_eq_some_iff_getElem] at e
    obtain ⟨h, h1, _⟩ := e
    simp only [decide_true, show (0 : Int) ≤ (i : Int) by omega]
    symm
    rw [List.any_eq_true]
    exact ⟨_, List.getElem_mem h, h1⟩
/-- The first link that heights do not keep. -/
def offP (h : List Int) (t : Tie) : Bool := decide (t.most < gt h t.to - gt h t.frm)
def breaksM (k : Kn) (h : List Int) : Int := idxP (tiesM k) (offP h)
def fitsM (k : Kn) (t : Tr) : Int × Bool × Int :=
  if check k ≠ 0 then (0, false, check k) else if toldB k t = false then (0, false, 1)
  else if 0 ≤ breaksM k (raisedM k t) then (breaksM k (raisedM k t), false, 0) else (0, true, 0)
/-- The sum of a path, and where it ends. -/
def sumM (x : Nt) : Int → Int → List Int → Int × Int × Bool
  | u, n, [] => (n, u, true)
  | u, n, i :: p => if inB i 0 ((x.links.length : Int) - 1) = true ∧ (lk x i).frm = u then sumM x (lk x i).to (n + (lk x i).most) p else (0, 0, false)
def checkClashM (k : Kn) (l : List Int) : Int :=
  if check k ≠ 0 then check k else if 200 < l.length then 2
  else match l with
    | [] => 8
    | i :: p => if inB i 0 (((tiesM k).length : Int) - 1) = false then 8
      else let s := sumM (netM k []) (lk (netM k []) i).frm 0 (i :: p)
        if s.2.2 = false ∨ s.2.1 ≠ (lk (netM k []) i).frm ∨ 0 ≤ s.1 then 8 else 0
def markedM (k : Kn) (l : List Int) : Int := if check k ≠ 0 then check k else if l.any (fun n => !inB n 0 ((marksM k : Int) - 1)) then 1 else 0
/-- The links by which a mark was settled. -/
def pathM (x : Nt) (b : List Int) (a v : Int) : List Int := match (List.range (x.n.toNat + 1)).find? (fun m => walkM x b m v == a) with
  | some m => (outsM x b v m).reverse
  | none => []
def zCh : Ch := ⟨0, [], zTr⟩
def aboveC (k : Kn) (a b : Int) : Ch × Int :=
  if markedM k [a, b] ≠ 0 then (zCh, markedM k [a, b])
  else if (settleM (netM k []) a).2.2.isSome then (zCh, 9)
  else (⟨gt (settleM (netM k []) a).1 b, pathM (netM k []) (settleM (netM k []) a).2.1 a b, weightsM k (settleM (netM k []) a).1⟩, 0)
end Go.Shaft
namespace Go.Shaft
theorem sumM_cons_no {x : Nt} {u n i : Int} {p : List Int} (h : ¬ (inB i 0 ((x.links.length : Int) - 1) = true ∧ (lk x i).frm = u)) : sumM x u n (i :: p) = (0, 0, false) := by rw [sumM, if_neg h]
theorem sumM_cons_yes {x : Nt} {u n i : Int} {p : List Int} (h : inB i 0 ((x.links.length : Int) - 1) = true ∧ (lk x i).frm = u) : sumM x u n (i :: p) = sumM x (lk x i).to (n + (lk x i).most) p := by rw [sumM, if_pos h]
end Go.Shaft
/- Right kilns: every mark is reached from every other one; hours do not fall; IDs differ. -/
set_option linter.unusedVariables false
set_option linter.unusedSimpArgs false
namespace Go.Shaft
theorem link_path {x : Nt} {t : Tie} (h : t ∈ x.links) : PathM x t.frm t.to [t] := ⟨h, rfl, rfl⟩
theorem tie_mem {k : Kn} {more : List Tie} {i : Nat} {t : Tie} (h : (tiesM k)[i]? = some t) : t ∈ (netM k more).links := List.mem_append_left _ (List.mem_of_getElem? h)
theorem conn_load (k : Kn) (more : List Tie) : ∀ i : Nat, i ≤ k.loads.length → (∃ l, PathM (netM k more) 0 i l) ∧ ∃ l, PathM (netM k more) i 0 l
  | 0, _ => ⟨⟨[], rfl⟩, ⟨[], rfl⟩⟩
  | i + 1, h => by
    obtain ⟨⟨l1, p1⟩, ⟨l2, p2⟩⟩ := conn_load k more i (by omega)
    obtain ⟨x, hx⟩ : ∃ x, k.loads[i]? = some x := ⟨_, List.getElem?_eq_getElem (by omega)⟩
    obtain ⟨t1, t2⟩ := tie1 hx
    exact ⟨⟨_, path_app p1 (link_path (tie_mem t1))⟩, ⟨_, path_app (link_path (tie_mem t2)) p2⟩⟩
theorem conn_draw (k : Kn) (more : List Tie) : ∀ i : Nat, i ≤ k.draws.length → (∃ l, PathM (netM k more) 0 (drawnM k i) l) ∧ ∃ l, PathM (netM k more) (drawnM k i) 0 l
  | 0, _ => ⟨⟨[], by simp [PathM, drawnM]⟩, ⟨[], by simp [PathM, drawnM]⟩⟩
  | i + 1, h => by
    obtain ⟨⟨l1, p1⟩, ⟨l2, p2⟩⟩ := conn_draw k more i (by omega)
    obtain ⟨x, hx⟩ : ∃ x, k.draws[i]? = some x := ⟨_, List.getElem?_eq_getElem (by omega)⟩
    obtain ⟨t1, t2⟩ := tie2 hx
    exact ⟨⟨_, path_app p1 (link_path (tie_mem t1))⟩, ⟨_, path_app (link_path (tie_mem t2)) p2⟩⟩
theorem conn_any (k : Kn) (more : List Tie) {v : Int} (v0 : 0 ≤ v) (v1 : v < marksM k) : (∃ l, PathM (netM k more) 0 v l) ∧ ∃ l, PathM (netM k more) v 0 l := by
  have hm : (marksM k : Int) = 1 + k.loads.length + k.draws.length := by simp [marksM]
  rcases Int.lt_or_le (k.loads.length : Int) v with h | h
  · have e : v = drawnM k ((v - k.loads.length).toNat : Nat) := by
      unfold drawnM
      rw [if_neg (by omega)]
      omega
    rw [e]
    exact conn_draw k more _ (by omega)
  · have e : v = (v.toNat : Nat) := by omega
    rw [e]
    exact conn_load k more _ (by omega)
theorem conn_all (k : Kn) (more : List Tie) {a : Int} (a0 : 0 ≤ a) (a1 : a < marksM k) : Conn (netM k more) a := by
  intro v v0 v1
  obtain ⟨_, ⟨l1, p1⟩⟩ := conn_any k more a0 a1
  obtain ⟨⟨l2, p2⟩, _⟩ := conn_any k more v0 v1
  exact ⟨_, path_app p1 p2⟩

theorem pathM_eq {x : Nt} {b : List Int} {a v : Int} {m : Nat} (hm : m ≤ x.n.toNat) (hw : walkM x b m v = a) (hk : ∀ k, k < m → walkM x b k v ≠ a) : pathM x b a v = (outsM x b v m).reverse := by
  unfold pathM
  have : (List.range (x.n.toNat + 1)).find? (fun m => walkM x b m v == a) = some m := by
    rw [List.find?_range_eq_some]
    refine ⟨by simpa using hw, List.mem_range.2 (by omega), fun j hj => ?_⟩
    have := hk j hj
    simpa using this
  rw [this]
/-- What the search for a path meets. -/
theorem Settled.steps {x : Nt} {a : Int} {h b : List Int} (s : Settled x a h b) (w : WfN x) (a0 : 0 ≤ a) (a1 : a < x.n) (cn : Conn x a) {v : Int} (v0 : 0 ≤ v) (v1 : v < x.n) : ∃ m, m < x.n.toNat ∧ walkM x b m v = a ∧ (∀ k, k < m → walkM x b k v ≠ a ∧ 0 ≤ walkM x b k v ∧ walkM x b k v < b.length ∧ ∃ (i : Nat) (t : Tie), gt b (walkM x b k v) = i ∧ x.links[i]? = some t) ∧
    pathM x b a v = (outsM x b v m).reverse ∧ PathM x a v ((pathM x b a v).map (lk x)) ∧ sumT ((pathM x b a v).map (lk x)) = gt h v := by
  obtain ⟨m, hm, h1, h2⟩ := s.back w a0 a1 cn v0 v1
  have hin : ∀ k, k ≤ m → 0 ≤ walkM x b k v ∧ walkM x b k v < x.n := fun k hk => wkm_in w s.g k v v0 v1 (fun j hj => (h2 j (by omega)).1)
  have hp := pathM_eq (x := x) (b := b) (a := a) (v := v) (m := m) (by omega) h1 (fun k hk => (h2 k hk).2)
  obtain ⟨p1, p2⟩ := s.path w a0 a1 cn v0 v1 h1 (fun k hk => (h2 k hk).1)
  refine ⟨m, hm, h1, fun k hk => ⟨(h2 k hk).2, (hin k (by omega)).1, ?_, ?_⟩, hp, by rw [hp]; exact p1, by rw [hp]; exact p2⟩
  · rw [s.g.bl]; have := (hin k (by omega)).2; omega
  · obtain ⟨i, t, k1, k2, _⟩ := par_yes w s.g (hin k (by omega)).1 (hin k (by omega)).2 (h2 k hk).1
    exact ⟨i, t, k1, k2⟩

/-! ### Hours and IDs -/
theorem chk_more : ∀ (l : List Ld) (last : Int) (sn : List Int), (chk l last sn).1 = 0 → sn.Nodup → (chk l last sn).2 = sn ++ l.map (·.id) ∧ (sn ++ l.map (·.id)).Nodup ∧ (∀ x ∈ l, last ≤ x.hour) ∧ l.Pairwise (fun x y => x.hour ≤ y.hour)
  | [], last, sn, h, hn => ⟨by simp [chk], by simpa using hn, by simp, .nil⟩
  | y :: l, last, sn, h, hn => by
    rw [chk] at h ⊢
    split at h
    · rename_i hr
      simp only [recB, inB, spanB, Bool.and_eq_true, decide_eq_true_eq] at hr
      split at h
      · simp at h
      · rename_i hy
        have hn2 : (sn ++ [y.id]).Nodup := by
          rw [List.nodup_append]
          refine ⟨hn, by simp, ?_⟩
          intro a ha b hb
          simp only [List.mem_singleton] at hb
          subst hb
          rintro rfl
          exact hy ha
        obtain ⟨h1, h2, h3, h4⟩ := chk_more l y.hour _ h hn2
        refine ⟨by rw [if_pos (by simp [recB, inB, spanB]; omega), if_neg hy, h1]; simp, by simpa using h2, ?_, ?_⟩
        · intro x hx
          rcases List.mem_cons.1 hx with rfl | hx
          · omega
          · have := h3 x hx; omega
        · exact .cons h3 h4
    · simp at h
theorem chkW_more {k : Kn} : ∀ (l : List Wg) (sn : List Int), chkW k l sn = 0 → sn.Nodup → (sn ++ l.map (·.id)).Nodup
  | [], sn, h, hn => by simpa using hn
  | y :: l, sn, h, hn => by
    rw [chkW] at h
    split at h
    · split at h
      · simp at h
      · rename_i hy
        have hn2 : (sn ++ [y.id]).Nodup := by
          rw [List.nodup_append]
          refine ⟨hn, by simp, ?_⟩
          intro a ha b hb
          simp only [List.mem_singleton] at hb
          subst hb
          rintro rfl
          exact hy ha
        simpa using chkW_more l _ h hn2
    · simp at h
structure Order (k : Kn) : Prop where
  l : k.loads.Pairwise (fun x y => x.hour ≤ y.hour)
  d : k.draws.Pairwise (fun x y => x.hour ≤ y.hour)
  ids : (k.loads.map (·.id) ++ (k.draws.map (·.id) ++ k.weighs.map (·.id))).Nodup
theorem order_of_check {k : Kn} (h : check k = 0) : Order k := by
  unfold check at h
  split at h
  · split at h
    · simp at h
    · simp only at h
      split at h
      · rename_i h3; exact (h3 h).elim
      · rename_i h3
        split at h
        · rename_i h4; exact (h4 h).elim
        · rename_i h4
          have h3 : (chk k.loads 0 []).1 = 0 := by simpa using h3
          have h4 : (chk k.draws 0 (chk k.loads 0 []).2).1 = 0 := by simpa using h4
          obtain ⟨a1, a2, _, a4⟩ := chk_more _ _ _ h3 List.nodup_nil
          rw [a1] at h4 h
          obtain ⟨b1, b2, _, b4⟩ := chk_more _ _ _ h4 a2
          rw [b1] at h
          refine ⟨a4, b4, ?_⟩
          have := chkW_more _ _ h b2
          simpa using this
  · simp at h

end Go.Shaft
namespace Go.Shaft
theorem marked_ok {k : Kn} {l : List Int} (h : markedM k l = 0) : check k = 0 ∧ ∀ a ∈ l, 0 ≤ a ∧ a < marksM k := by
  unfold markedM at h
  split at h
  · rename_i hc; exact (hc h).elim
  · rename_i hc
    have hc : check k = 0 := by simpa using hc
    split at h
    · simp at h
    · rename_i hl
      refine ⟨hc, fun a ha => ?_⟩
      simp only [List.any_eq_true, not_exists, not_and, Bool.not_eq_true', Bool.not_eq_false] at hl
      have := hl a ha
      simp only [inB, decide_eq_true_eq] at this
      omega
end Go.Shaft
/- What a draw takes of a load; fewer weighings: models. -/
set_option linter.unusedVariables false
set_option linter.unusedSimpArgs false
namespace Go.Shaft
structure Ov where
  a : Int
  b : Int
  c : Int
  d : Int
  deriving DecidableEq, Inhabited
def pairsL (o : Ov) : List (Int × Int) := [(o.a, o.b), (o.c, o.b), (o.a, o.d), (o.c, o.d)]
structure OvIn (k : Kn) (o : Ov) : Prop where
  a0 : 0 ≤ o.a
  a1 : o.a < marksM k
  b0 : 0 ≤ o.b
  b1 : o.b < marksM k
  c0 : 0 ≤ o.c
  c1 : o.c < marksM k
  d0 : 0 ≤ o.d
  d1 : o.d < marksM k
theorem pairs_in {k : Kn} {o : Ov} (h : OvIn k o) : ∀ p ∈ pairsL o, 0 ≤ p.1 ∧ p.1 < marksM k ∧ 0 ≤ p.2 ∧ p.2 < marksM k := by
  intro p hp
  have := h.a0; have := h.a1; have := h.b0; have := h.b1; have := h.c0; have := h.c1; have := h.d0; have := h.d1
  simp only [pairsL, List.mem_cons, List.not_mem_nil, or_false] at hp
  rcases hp with rfl | rfl | rfl | rfl <;> simp only <;> omega
def loOf (k : Kn) (p : Int × Int) : Int := mxI 0 (-gt (settleM (netM k []) p.2).1 p.1)
def stepL (k : Kn) (acc : Option (Int × Tr)) (p : Int × Int) : Option (Int × Tr) :=
  match acc with
  | none => some (loOf k p, weightsM k (settleM (netM k []) p.2).1)
  | some q => if loOf k p < q.1 then some (loOf k p, weightsM k (settleM (netM k []) p.2).1) else some q
def leastM (k : Kn) (o : Ov) : Int × Tr := ((pairsL o).foldl (stepL k) none).getD (0, zTr)
def greatM (is : Int → Bool) : Nat → Int → Int → Int
  | 0, _, hi => hi
  | f + 1, lo, hi => if lo ≤ hi then (if is ((lo + hi).tdiv 2) then greatM is f ((lo + hi).tdiv 2 + 1) hi else greatM is f lo ((lo + hi).tdiv 2 - 1)) else hi
theorem mid_in {lo hi : Int} (h0 : 0 ≤ lo) (h : lo ≤ hi) : lo ≤ (lo + hi).tdiv 2 ∧ (lo + hi).tdiv 2 ≤ hi := by
  rw [Int.tdiv_eq_ediv_of_nonneg (by omega)]
  omega
theorem great_in (is : Int → Bool) : ∀ (f : Nat) (lo hi : Int), 0 ≤ lo → lo ≤ hi + 1 → lo - 1 ≤ greatM is f lo hi ∧ greatM is f lo hi ≤ hi
  | 0, lo, hi, h0, h => by simp only [greatM]; omega
  | f + 1, lo, hi, h0, h => by
    rw [greatM]
    split
    · rename_i hl
      have := mid_in h0 hl
      split
      · have := great_in is f ((lo + hi).tdiv 2 + 1) hi (by omega) (by omega)
        omega
      · have := great_in is f lo ((lo + hi).tdiv 2 - 1) h0 (by omega)
        omega
    · omega
/-- The greatest one for which it is so, if it is so of all lesser ones. -/
theorem great_spec (is : Int → Bool) (hmono : ∀ x y : Int, x ≤ y → is y = true → is x = true) : ∀ (f : Nat) (lo hi : Int), 0 ≤ lo → lo ≤ hi + 1 → hi - lo + 1 ≤ f → ∀ x, lo ≤ x → x ≤ hi → (is x = true ↔ x ≤ greatM is f lo hi)
  | 0, lo, hi, h0, h, hf, x, x0, x1 => by omega
  | f + 1, lo, hi, h0, h, hf, x, x0, x1 => by
    rw [greatM, if_pos (by omega)]
    have hm := mid_in h0 (show lo ≤ hi by omega)
    split
    · rename_i his
      have hg := great_in is f ((lo + hi).tdiv 2 + 1) hi (by omega) (by omega)
      rcases Int.lt_or_le ((lo + hi).tdiv 2) x with h1 | h1
      · exact great_spec is hmono f _ _ (by omega) (by omega) (by omega) x (by omega) x1
      · exact ⟨fun _ => by omega, fun _ => hmono x _ h1 his⟩
    · rename_i his
      have hg := great_in is f lo ((lo + hi).tdiv 2 - 1) h0 (by omega)
      rcases Int.lt_or_le x ((lo + hi).tdiv 2) with h1 | h1
      · exact great_spec is hmono f _ _ h0 (by omega) (by omega) x x0 (by omega)
      · refine ⟨fun hx => (his (hmono _ _ h1 hx)).elim, fun hx => by omega⟩
def moreM (o : Ov) (z : Int) : List Tie := (pairsL o).map fun p => ⟨p.2, p.1, -z, 0⟩
def canM (k : Kn) (o : Ov) (z : Int) : Bool := (settleM (netM k (moreM o z)) 0).2.2.isNone
def mostN (k : Kn) (o : Ov) : Int := greatM (canM k o) 1048577 1 1048576
def mostM (k : Kn) (o : Ov) : Int × Tr :=
  if mostN k o < 1 then (0, weightsM k (settleM (netM k []) 0).1) else (mostN k o, weightsM k (settleM (netM k (moreM o (mostN k o))) 0).1)
theorem mostN_in (k : Kn) (o : Ov) : 0 ≤ mostN k o ∧ mostN k o ≤ 1048576 := by
  have := great_in (canM k o) 1048577 1 1048576 (by omega) (by omega)
  unfold mostN
  omega
theorem more_wf {k : Kn} (r : Right k) {o : Ov} (h : OvIn k o) {z : Int} (z0 : 0 ≤ z) (z1 : z ≤ 1048576) : WfN (netM k (moreM o z)) := by
  refine wf_more r (by simp [moreM, pairsL]) ?_
  intro t ht
  simp only [moreM, List.mem_map] at ht
  obtain ⟨p, hp, rfl⟩ := ht
  have := pairs_in h p hp
  simp only
  omega
def zOv : Ov := ⟨0, 0, 0, 0⟩
def takesM (k : Kn) (dr ld : Int) : Ov × Int :=
  if check k ≠ 0 then (zOv, check k)
  else if find k.loads ld < 0 ∨ find k.draws dr < 0 then (zOv, 5)
  else if (aboveM (netM k []) 0 0).2 = false then (zOv, 9)
  else (⟨find k.loads ld, find k.loads ld + 1, drawnM k (find k.draws dr), drawnM k (find k.draws dr + 1)⟩, 0)
def tookM (k : Kn) (dr ld : Int) : Sp × Int :=
  if (takesM k dr ld).2 ≠ 0 then (zSp, (takesM k dr ld).2) else (⟨(leastM k (takesM k dr ld).1).1, (mostM k (takesM k dr ld).1).1⟩, 0)
def takingM (k : Kn) (dr ld : Int) : Tr × Tr × Int :=
  if (takesM k dr ld).2 ≠ 0 then (zTr, zTr, (takesM k dr ld).2) else ((leastM k (takesM k dr ld).1).2, (mostM k (takesM k dr ld).1).2, 0)
theorem takes_ok {k : Kn} {dr ld : Int} (h : (takesM k dr ld).2 = 0) : check k = 0 ∧ OvIn k (takesM k dr ld).1 := by
  unfold takesM at h ⊢
  split at h
  · rename_i hc; exact (hc h).elim
  · rename_i hc
    have hc : check k = 0 := by simpa using hc
    split at h
    · simp at h
    · rename_i hf
      split at h
      · simp at h
      · rename_i hab
        rw [if_neg (by simp [hc]), if_neg hf, if_neg hab]
        have f1 := find_le k.loads ld
        have f2 := find_le k.draws dr
        have hm : (marksM k : Int) = 1 + k.loads.length + k.draws.length := by simp [marksM]
        have d1 := drawn_in (k := k) (a := find k.draws dr) (by omega) (by omega)
        have d2 := drawn_in (k := k) (a := find k.draws dr + 1) (by omega) (by omega)
        refine ⟨hc, ?_, ?_, ?_, ?_, ?_, ?_, ?_, ?_⟩ <;> simp only <;> omega
/-- The IDs of those of which surely, and possibly, something is taken. -/
def sortedM (l : List Ld) (took : Int → Sp) : List Int × List Int :=
  ((l.map (·.id)).filter (fun i => decide (0 < (took i).lo)), (l.map (·.id)).filter (fun i => decide (0 < (took i).hi)))
def thereM (k : Kn) (is : Bool) : Int :=
  if check k ≠ 0 then check k else if is = false then 5 else if (aboveM (netM k []) 0 0).2 = false then 9 else 0
def sourcesM (k : Kn) (dr : Int) : List Int × List Int × Int :=
  if thereM k (decide (0 ≤ find k.draws dr)) ≠ 0 then ([], [], thereM k (decide (0 ≤ find k.draws dr)))
  else ((sortedM k.loads (fun i => (tookM k dr i).1)).1, (sortedM k.loads (fun i => (tookM k dr i).1)).2, 0)
def sinksM (k : Kn) (ld : Int) : List Int × List Int × Int :=
  if thereM k (decide (0 ≤ find k.loads ld)) ≠ 0 then ([], [], thereM k (decide (0 ≤ find k.loads ld)))
  else ((sortedM k.draws (fun i => (tookM k i ld).1)).1, (sortedM k.draws (fun i => (tookM k i ld).1)).2, 0)
def withoutM (k : Kn) (ids : List Int) : Kn := { k with weighs := k.weighs.filter fun w => !decide (w.id ∈ ids) }
/-- A number put into an increasing list. -/
def insM (l : List Int) (x : Int) : List Int := l.takeWhile (fun y => !decide (x < y)) ++ x :: l.dropWhile (fun y => !decide (x < y))
def sortM (l : List Int) : List Int := l.foldl insM []
def chosenM (k : Kn) (is : Kn → Bool) : List Int := sortM ((k.weighs.map (·.id)).filter fun i => is (withoutM k [i]))
def restsM (k : Kn) (a b : Int) : List Int × Int :=
  if markedM k [a, b] ≠ 0 then ([], markedM k [a, b])
  else if (aboveM (netM k []) a b).2 = false then ([], 9)
  else (chosenM k (fun less => decide ((aboveM (netM less []) a b).1 ≠ (aboveM (netM k []) a b).1)), 0)
def suspectsM (k : Kn) : List Int × Int :=
  if check k ≠ 0 then ([], check k) else if (aboveM (netM k []) 0 0).2 then ([], 0)
  else (chosenM k (fun less => (aboveM (netM less []) 0 0).2), 0)
def zKn : Kn := ⟨0, 0, [], [], []⟩
def withoutE (k : Kn) (ids : List Int) : Kn × Int := if check k ≠ 0 then (zKn, check k) else (withoutM k ids, 0)
end Go.Shaft
/- Deleting in place; putting in order: plain Lean. -/
set_option linter.unusedVariables false
set_option linter.unusedSimpArgs false
namespace Go.Shaft
structure Del {α : Type} (l : List α) (keep : α → Bool) (r : List α) (i j : Nat) : Prop where
  len : r.length = l.length
  pre : r.take i = (l.take j).filter keep
  post : r.drop j = l.drop j
  il : ((l.take j).filter keep).length = i
  lt : i < j
theorem Del.get {α : Type} {l r : List α} {keep : α → Bool} {i j : Nat} (d : Del l keep r i j) : r[j]? = l[j]? := by
  have h := congrArg (fun x => x[0]?) d.post
  simpa [List.getElem?_drop] using h
theorem Del.keep {α : Type} {l r : List α} {keep : α → Bool} {i j : Nat} (d : Del l keep r i j) {y : α} (hy : l[j]? = some y) (hk : keep y = true) : Del l keep (r.set i y) (i + 1) (j + 1) := by
  have hl := (List.getElem?_eq_some_iff.1 hy).1
  have hf : (l.take (j + 1)).filter keep = (l.take j).filter keep ++ [y] := by
    rw [List.take_add_one, hy, List.filter_append]; simp [hk]
  have hlt := d.lt
  have hlen := d.len
  refine ⟨by simp [hlen], ?_, ?_, by rw [hf, List.length_append, d.il]; rfl, by omega⟩
  · rw [hf, List.take_add_one, List.getElem?_set_self (by omega), List.take_set_of_le (Nat.le_refl _), d.pre]; rfl
  · rw [List.drop_set_of_lt (by omega)]
    have := congrArg (fun x => x.drop 1) d.post
    simpa [List.drop_drop] using this
theorem Del.skip {α : Type} {l r : List α} {keep : α → Bool} {i j : Nat} (d : Del l keep r i j) {y : α} (hy : l[j]? = some y) (hk : keep y = false) : Del l keep r i (j + 1) := by
  have hf : (l.take (j + 1)).filter keep = (l.take j).filter keep := by
    rw [List.take_add_one, hy, List.filter_append]; simp [hk]
  have hlt := d.lt
  refine ⟨d.len, by rw [hf]; exact d.pre, ?_, by rw [hf]; exact d.il, by omega⟩
  have := congrArg (fun x => x.drop 1) d.post
  simpa [List.drop_drop] using this
theorem Del.start {α : Type} {l : List α} {p : α → Bool} {i : Nat} (h : l.findIdx? p = some i) : Del l (fun w => !p w) l i (i + 1) := by
  rw [List.findIdx?_eq_some_iff_getElem] at h
  obtain ⟨hi, h1, h2⟩ := h
  have hall : ∀ w ∈ l.take i, (!p w) = true := by
    intro w hw
    obtain ⟨q, hq, rfl⟩ := List.mem_iff_getElem.1 hw
    rw [List.length_take] at hq
    have := h2 q (by omega)
    simpa using this
  have hf : (l.take (i + 1)).filter (fun w => !p w) = l.take i := by
    rw [List.take_add_one, List.getElem?_eq_getElem hi, List.filter_append, List.filter_eq_self.2 hall]
    simp [h1]
  exact ⟨rfl, hf.symm, rfl, by rw [hf, List.length_take]; omega, by omega⟩
theorem idxP_some {α : Type} {l : List α} {p : α → Bool} (h : idxP l p ≠ -1) : ∃ i : Nat, idxP l p = i ∧ l.findIdx? p = some i ∧ i < l.length := by
  unfold idxP at h ⊢
  cases e : l.findIdx? p with
  | none => rw [e] at h; exact (h rfl).elim
  | some i =>
    refine ⟨i, rfl, rfl, ?_⟩
    rw [List.findIdx?_eq_some_iff_getElem] at e
    exact e.1
theorem idxP_no {α : Type} {l : List α} {p : α → Bool} (h : idxP l p = -1) : l.filter (fun w => !p w) = l := by
  rw [List.filter_eq_self]
  unfold idxP at h
  cases e : l.findIdx? p with
  | none =>
    rw [List.findIdx?_eq_none_iff] at e
    intro x hx
    simp [e x hx]
  | some i => rw [e] at h; simp only at h; omega
end Go.Shaft
/- Putting in order, plain Lean. -/
set_option linter.unusedVariables false
set_option linter.unusedSimpArgs false
namespace Go.Shaft
theorem sort_snoc (l : List Int) (x : Int) : sortM (l ++ [x]) = insM (sortM l) x := by simp [sortM]
theorem ins_len (p : List Int) (x : Int) : (insM p x).length = p.length + 1 := by
  unfold insM
  rw [List.length_append, List.length_cons]
  have := congrArg List.length (List.takeWhile_append_dropWhile (p := fun y => !decide (x < y)) (l := p))
  rw [List.length_append] at this
  omega
theorem sort_len : ∀ (l : List Int) (acc : List Int), (l.foldl insM acc).length = acc.length + l.length
  | [], acc => by simp
  | x :: l, acc => by rw [List.foldl_cons, sort_len l, ins_len, List.length_cons]; omega
theorem sortM_len (l : List Int) : (sortM l).length = l.length := by rw [sortM, sort_len]; simp
theorem ins_eq {p : List Int} {x : Int} {j : Nat} (h1 : ∀ y ∈ p.take j, ¬ x < y) (h2 : ∀ y ∈ p.drop j, x < y) : insM p x = p.take j ++ x :: p.drop j := by
  have e : p = p.take j ++ p.drop j := (List.take_append_drop _ _).symm
  have t1 : p.takeWhile (fun y => !decide (x < y)) = p.take j := by
    rw [e, List.takeWhile_append_of_pos (by intro y hy; simpa using h1 y hy), List.take_append_drop]
    have : (p.drop j).takeWhile (fun y => !decide (x < y)) = [] := by
      cases hd : p.drop j with
      | nil => rfl
      | cons z q => rw [List.takeWhile_cons, if_neg (by have := h2 z (by rw [hd]; simp); simpa using this)]
    rw [this, List.append_nil]
  have t2 : p.dropWhile (fun y => !decide (x < y)) = p.drop j := by
    have h := List.takeWhile_append_dropWhile (p := fun y => !decide (x < y)) (l := p)
    rw [t1] at h
    exact List.append_cancel_left (h.trans e)
  rw [insM, t1, t2]
theorem ins_sorted {p : List Int} (hp : p.Pairwise (· ≤ ·)) (x : Int) : (insM p x).Pairwise (· ≤ ·) := by
  unfold insM
  have h := List.takeWhile_append_dropWhile (p := fun y => !decide (x < y)) (l := p)
  have hp' := hp
  rw [← h, List.pairwise_append] at hp'
  obtain ⟨a1, a2, a3⟩ := hp'
  have hall : ∀ y ∈ p.takeWhile (fun y => !decide (x < y)), y ≤ x := by
    intro y hy
    have := List.all_takeWhile (p := fun y => !decide (x < y)) (l := p)
    rw [List.all_eq_true] at this
    have := this y hy
    simp only [Bool.not_eq_true', decide_eq_false_iff_not, Int.not_lt] at this
    exact this
  have hge : ∀ y ∈ p.dropWhile (fun y => !decide (x < y)), x ≤ y := by
    cases hd : p.dropWhile (fun y => !decide (x < y)) with
    | nil => simp
    | cons z q =>
      have hz : x < z := by
        have := List.head_dropWhile_not (fun y => !decide (x < y)) (l := p) (by rw [hd]; simp)
        simp only [hd, List.head_cons] at this
        simpa using this
      intro y hy
      rcases List.mem_cons.1 hy with rfl | hy
      · omega
      · rw [hd, List.pairwise_cons] at a2
        have := a2.1 y hy
        omega
  rw [List.pairwise_append]
  refine ⟨a1, ?_, ?_⟩
  · rw [List.pairwise_cons]
    exact ⟨hge, a2⟩
  · intro a ha b hb
    rcases List.mem_cons.1 hb with rfl | hb
    · exact hall a ha
    · exact a3 a ha b hb
theorem sort_sorted : ∀ (l : List Int) (acc : List Int), acc.Pairwise (· ≤ ·) → (l.foldl insM acc).Pairwise (· ≤ ·)
  | [], acc, h => h
  | x :: l, acc, h => sort_sorted l _ (ins_sorted h x)
theorem sortM_sorted (l : List Int) : (sortM l).Pairwise (· ≤ ·) := sort_sorted l [] .nil
/-- A list with a number that is being moved down. -/
def rowS (p : List Int) (x : Int) (j : Nat) (rest : List Int) : List Int := p.take j ++ (x :: (p.drop j ++ rest))
theorem rowS_len {p : List Int} {x : Int} {j : Nat} {rest : List Int} (h : j ≤ p.length) : (rowS p x j rest).length = p.length + 1 + rest.length := by
  simp [rowS]; omega
theorem rowS_at {p : List Int} {x : Int} {j : Nat} {rest : List Int} (h : j ≤ p.length) : (rowS p x j rest)[j]? = some x := by
  unfold rowS
  rw [List.getElem?_append_right (by simp; omega)]
  simp [Nat.min_eq_left h]
theorem rowS_pred {p : List Int} {x y : Int} {j : Nat} {rest : List Int} (h : p[j]? = some y) : (rowS p x (j + 1) rest)[j]? = some y := by
  have hl := (List.getElem?_eq_some_iff.1 h).1
  unfold rowS
  rw [List.getElem?_append_left (by simp; omega), List.getElem?_take, if_pos (by omega), h]
theorem rowS_step {p : List Int} {x y : Int} {j : Nat} {rest : List Int} (h : p[j]? = some y) : ((rowS p x (j + 1) rest).set (j + 1) y).set j x = rowS p x j rest := by
  have hl := (List.getElem?_eq_some_iff.1 h).1
  have hd : p.drop j = y :: p.drop (j + 1) := by rw [List.drop_eq_getElem_cons hl, (List.getElem?_eq_some_iff.1 h).2]
  have ht : p.take (j + 1) = p.take j ++ [y] := by rw [List.take_add_one, h]; rfl
  have hlen : (p.take j).length = j := by simp; omega
  unfold rowS
  rw [hd, ht, List.append_assoc]
  rw [List.set_append_right _ _ (by omega), hlen, List.set_append_right _ _ (by omega), hlen]
  simp
theorem rowS_start (p : List Int) (x : Int) (rest : List Int) : p ++ x :: rest = rowS p x p.length rest := by simp [rowS]
theorem rowS_end {p : List Int} {x : Int} {j : Nat} {rest : List Int} (h1 : ∀ y ∈ p.take j, ¬ x < y) (h2 : ∀ y ∈ p.drop j, x < y) : rowS p x j rest = insM p x ++ rest := by
  rw [ins_eq h1 h2, rowS]; simp
theorem take_le {p : List Int} (hp : p.Pairwise (· ≤ ·)) {j : Nat} {y : Int} (hy : p[j]? = some y) : ∀ z ∈ p.take (j + 1), z ≤ y := by
  intro z hz
  obtain ⟨i, hi, rfl⟩ := List.mem_iff_getElem.1 hz
  rw [List.length_take] at hi
  rw [List.getElem_take]
  have hj := (List.getElem?_eq_some_iff.1 hy)
  obtain ⟨hj1, rfl⟩ := hj
  rcases Nat.lt_or_ge i j with h | h
  · exact List.pairwise_iff_getElem.1 hp i j (by omega) hj1 h
  · have : i = j := by omega
    subst this
    exact Int.le_refl _
/-- Sorted so far. -/
def rowO (l : List Int) (i : Nat) : List Int := sortM (l.take i) ++ l.drop i
theorem rowO_one (l : List Int) : rowO l 1 = l := by
  cases l with
  | nil => rfl
  | cons a l => simp [rowO, sortM, insM]
theorem rowO_end (l : List Int) {i : Nat} (h : l.length ≤ i) : rowO l i = sortM l := by
  unfold rowO
  rw [List.take_of_length_le h, List.drop_of_length_le h, List.append_nil]
theorem rowO_at {l : List Int} {i : Nat} {x : Int} (h : l[i]? = some x) : rowO l i = rowS (sortM (l.take i)) x i (l.drop (i + 1)) := by
  have hl := (List.getElem?_eq_some_iff.1 h).1
  have hd : l.drop i = x :: l.drop (i + 1) := by rw [List.drop_eq_getElem_cons hl, (List.getElem?_eq_some_iff.1 h).2]
  have hs : (sortM (l.take i)).length = i := by rw [sortM_len, List.length_take]; omega
  rw [rowO, hd, rowS_start, hs]
theorem rowO_next {l : List Int} {i : Nat} {x : Int} (h : l[i]? = some x) : insM (sortM (l.take i)) x ++ l.drop (i + 1) = rowO l (i + 1) := by
  rw [rowO, List.take_add_one, h]
  simp only [Option.toList_some]
  rw [sort_snoc]
end Go.Shaft
/- A right kiln without some weighings is right. -/
set_option linter.unusedVariables false
set_option linter.unusedSimpArgs false
namespace Go.Shaft
theorem chkW_filter {k k' : Kn} (hB : ∀ w, weighB k' w = weighB k w) (p : Wg → Bool) : ∀ (l : List Wg) (sn sn' : List Int), (∀ x ∈ sn', x ∈ sn) → chkW k l sn = 0 → chkW k' (l.filter p) sn' = 0
  | [], _, _, _, _ => rfl
  | w :: l, sn, sn', hs, h => by
    rw [chkW] at h
    split at h
    · rename_i hw
      split at h
      · simp at h
      · rename_i hn
        cases hp : p w with
        | true =>
          rw [List.filter_cons_of_pos hp, chkW, hB, if_pos hw, if_neg (fun h' => hn (hs _ h'))]
          refine chkW_filter hB p l _ _ ?_ h
          intro x hx
          rcases List.mem_append.1 hx with hx | hx
          · exact List.mem_append_left _ (hs x hx)
          · exact List.mem_append_right _ hx
        | false =>
          rw [List.filter_cons_of_neg (by simp [hp])]
          exact chkW_filter hB p l _ _ (fun x hx => List.mem_append_left _ (hs x hx)) h
    · simp at h
theorem weighB_without (k : Kn) (ids : List Int) (w : Wg) : weighB (withoutM k ids) w = weighB k w := rfl
theorem check_without {k : Kn} (h : check k = 0) (ids : List Int) : check (withoutM k ids) = 0 := by
  have hl := List.length_filter_le (fun w : Wg => !decide (w.id ∈ ids)) k.weighs
  unfold check at h ⊢
  split at h
  · rename_i h1
    rw [if_pos (show (inB (withoutM k ids).room 0 16777216 && inB (withoutM k ids).per 1 65536) = true from h1)]
    split at h
    · simp at h
    · rename_i h2
      rw [if_neg (by simp only [withoutM]; omega)]
      simp only at h
      show (if (chk k.loads 0 []).1 ≠ 0 then _ else if (chk k.draws 0 (chk k.loads 0 []).2).1 ≠ 0 then _ else _) = (0 : Int)
      split at h
      · rename_i h3; exact (h3 h).elim
      · rename_i h3
        rw [if_neg h3]
        split at h
        · rename_i h4; exact (h4 h).elim
        · rename_i h4
          rw [if_neg h4]
          exact chkW_filter (weighB_without k ids) _ _ _ _ (fun x hx => hx) h
  · simp at h
end Go.Shaft
/- The specification's checking, step by step; hours in order. -/
set_option linter.unusedVariables false
set_option linter.unusedSimpArgs false
namespace Go.Shaft
theorem byHr_all {l : List Ld} (hs : l.Pairwise (fun x y => x.hour ≤ y.hour)) {i : Nat} {x : Ld} {h : Int} (hx : l[i]? = some x) (hh : x.hour ≤ h) : byHr (l.take (i + 1)) h = i + 1 := by
  have hl := (List.getElem?_eq_some_iff.1 hx).1
  have : byHr (l.take (i + 1)) h = (l.take (i + 1)).length := by
    unfold byHr
    rw [List.countP_eq_length]
    intro y hy
    obtain ⟨j, hj⟩ := List.getElem?_of_mem hy
    have hj1 := (List.getElem?_eq_some_iff.1 hj).1
    rw [List.length_take] at hj1
    rw [List.getElem?_take_of_lt (by omega)] at hj
    have hyx : y.hour ≤ x.hour := by
      rcases Nat.lt_or_ge j i with h1 | h1
      · have := List.pairwise_iff_getElem.1 hs j i (by omega) hl h1
        rw [(List.getElem?_eq_some_iff.1 hj).2, (List.getElem?_eq_some_iff.1 hx).2] at this
        exact this
      · have : j = i := by omega
        subst this
        rw [hj] at hx
        cases hx
        exact Int.le_refl _
    simp
    omega
  rw [this, List.length_take]
  omega
def idsM (k : Kn) : List Int := k.loads.map (·.id) ++ (k.draws.map (·.id) ++ k.weighs.map (·.id))
theorem idsM_len (k : Kn) : (idsM k).length = k.loads.length + (k.draws.length + k.weighs.length) := by simp [idsM]
def fin2 (k : Kn) (b : Int × List Int) : Int := if b.1 ≠ 0 then b.1 else chkW k k.weighs b.2
def fin1 (k : Kn) (a : Int × List Int) : Int := if a.1 ≠ 0 then a.1 else fin2 k (chk k.draws 0 a.2)
def chk2 (k : Kn) : Int := fin1 k (chk k.loads 0 [])
theorem check_two {k : Kn} (h1 : (inB k.room 0 16777216 && inB k.per 1 65536) = true) (h2 : ¬ (k.loads.length > 20 ∨ k.draws.length > 20 ∨ k.weighs.length > 20)) : check k = chk2 k := by
  unfold check
  rw [if_pos h1, if_neg h2]
  rfl
/-- The hour of the one before. -/
def hb (l : List Ld) (i : Nat) : Int := if i = 0 then 0 else (l.getD (i - 1) default).hour
/-- How far the checking has come. -/
inductive Stg (k : Kn) (i : Nat) : Prop
  | one (h : i ≤ k.loads.length) (h0 : 0 ≤ hb k.loads i) (e : chk2 k = fin1 k (chk (k.loads.drop i) (hb k.loads i) ((idsM k).take i)))
  | two (h : k.loads.length ≤ i) (h' : i ≤ k.loads.length + k.draws.length) (h0 : 0 ≤ hb k.draws (i - k.loads.length)) (e : chk2 k = fin2 k (chk (k.draws.drop (i - k.loads.length)) (hb k.draws (i - k.loads.length)) ((idsM k).take i)))
  | three (h : k.loads.length + k.draws.length ≤ i) (e : chk2 k = chkW k (k.weighs.drop (i - k.loads.length - k.draws.length)) ((idsM k).take i))
theorem Stg.start (k : Kn) : Stg k 0 := .one (by omega) (by simp [hb]) (by simp [chk2, hb])
theorem Stg.up1 {k : Kn} {i : Nat} (h : Stg k i) : (i < k.loads.length ∧ 0 ≤ hb k.loads i ∧ chk2 k = fin1 k (chk (k.loads.drop i) (hb k.loads i) ((idsM k).take i))) ∨ (k.loads.length ≤ i ∧ i ≤ k.loads.length + k.draws.length ∧ 0 ≤ hb k.draws (i - k.loads.length) ∧ chk2 k = fin2 k (chk (k.draws.drop (i - k.loads.length)) (hb k.draws (i - k.loads.length)) ((idsM k).take i))) ∨ (k.loads.length + k.draws.length ≤ i ∧ chk2 k = chkW k (k.weighs.drop (i - k.loads.length - k.draws.length)) ((idsM k).take i)) := by
  cases h with
  | one h h0 e =>
    rcases Nat.lt_or_ge i k.loads.length with h1 | h1
    · exact .inl ⟨h1, h0, e⟩
    · have hi : i = k.loads.length := by omega
      subst hi
      rw [List.drop_length, chk, fin1, if_neg (by simp)] at e
      exact .inr (.inl ⟨by omega, by omega, by simp [hb], by simpa [hb] using e⟩)
  | two h h' h0 e => exact .inr (.inl ⟨h, h', h0, e⟩)
  | three h e => exact .inr (.inr ⟨h, e⟩)
theorem Stg.up {k : Kn} {i : Nat} (h : Stg k i) : (i < k.loads.length ∧ 0 ≤ hb k.loads i ∧ chk2 k = fin1 k (chk (k.loads.drop i) (hb k.loads i) ((idsM k).take i))) ∨ (k.loads.length ≤ i ∧ i < k.loads.length + k.draws.length ∧ 0 ≤ hb k.draws (i - k.loads.length) ∧ chk2 k = fin2 k (chk (k.draws.drop (i - k.loads.length)) (hb k.draws (i - k.loads.length)) ((idsM k).take i))) ∨ (k.loads.length + k.draws.length ≤ i ∧ chk2 k = chkW k (k.weighs.drop (i - k.loads.length - k.draws.length)) ((idsM k).take i)) := by
  rcases h.up1 with h | ⟨h1, h2, h3, e⟩ | h
  · exact .inl h
  · rcases Nat.lt_or_ge i (k.loads.length + k.draws.length) with h4 | h4
    · exact .inr (.inl ⟨h1, h4, h3, e⟩)
    · have hi : i - k.loads.length = k.draws.length := by omega
      rw [hi, List.drop_length, chk, fin2, if_neg (by simp)] at e
      refine .inr (.inr ⟨h4, ?_⟩)
      rw [show i - k.loads.length - k.draws.length = 0 by omega]
      exact e
  · exact .inr (.inr h)
def okAt (k : Kn) (i : Nat) : Bool :=
  if i < k.loads.length then recB (k.loads.getD i default) (if 0 < hb k.loads i then hb k.loads i else 0)
  else if i < k.loads.length + k.draws.length then recB (k.draws.getD (i - k.loads.length) default) (if 0 < hb k.draws (i - k.loads.length) then hb k.draws (i - k.loads.length) else 0)
  else weighB k (k.weighs.getD (i - k.loads.length - k.draws.length) default)
theorem hb_max {z : Int} (h : 0 ≤ z) : (if 0 < z then z else 0) = z := by split <;> omega
theorem drop_getD {α : Type} [Inhabited α] {l : List α} {i : Nat} (h : i < l.length) : l.drop i = l.getD i default :: l.drop (i + 1) := by
  rw [List.drop_eq_getElem_cons h]
  simp [List.getD, List.getElem?_eq_getElem h]
theorem hb_succ (l : List Ld) (i : Nat) : hb l (i + 1) = (l.getD i default).hour := by simp [hb]
theorem ids_at1 {k : Kn} {i : Nat} (h : i < k.loads.length) : (idsM k)[i]? = some (k.loads.getD i default).id := by
  rw [idsM, List.getElem?_append_left (by simpa using h)]
  simp [List.getD, List.getElem?_eq_getElem h]
theorem ids_at2 {k : Kn} {i : Nat} (h : k.loads.length ≤ i) (h' : i < k.loads.length + k.draws.length) : (idsM k)[i]? = some (k.draws.getD (i - k.loads.length) default).id := by
  rw [idsM, List.getElem?_append_right (by simpa using h), List.getElem?_append_left (by simp; omega)]
  simp [List.getD, List.getElem?_eq_getElem (show i - k.loads.length < k.draws.length by omega)]
theorem ids_at3 {k : Kn} {i : Nat} (h : k.loads.length + k.draws.length ≤ i) (h' : i < (idsM k).length) : (idsM k)[i]? = some (k.weighs.getD (i - k.loads.length - k.draws.length) default).id := by
  rw [idsM_len] at h'
  rw [idsM, List.getElem?_append_right (by simp; omega), List.getElem?_append_right (by simp; omega)]
  simp [List.getD, List.getElem?_eq_getElem (show i - k.loads.length - k.draws.length < k.weighs.length by omega)]
theorem rec_hour {x : Ld} {last : Int} (h : recB x last = true) (h0 : 0 ≤ last) : 0 ≤ x.hour := by
  simp only [recB, inB, spanB, Bool.and_eq_true, decide_eq_true_eq] at h
  omega
theorem take_snoc' {l : List Int} {i : Nat} {x : Int} (h : l[i]? = some x) : l.take (i + 1) = l.take i ++ [x] := by
  rw [List.take_add_one, h]; rfl
theorem Stg.step {k : Kn} {i : Nat} (h : Stg k i) (hi : i < (idsM k).length) {x : Int} (hx : (idsM k)[i]? = some x) : (okAt k i = false → chk2 k = 1) ∧ (okAt k i = true → x ∈ (idsM k).take i → chk2 k = 6) ∧ (okAt k i = true → x ∉ (idsM k).take i → Stg k (i + 1)) := by
  rcases h.up with ⟨h1, h0, e⟩ | ⟨h1, h2, h0, e⟩ | ⟨h1, e⟩
  · rw [ids_at1 h1] at hx
    cases hx
    rw [drop_getD h1, chk] at e
    have ho : okAt k i = recB (k.loads.getD i default) (hb k.loads i) := by rw [okAt, if_pos h1, hb_max h0]
    rw [ho]
    refine ⟨fun hf => ?_, fun hf hm => ?_, fun hf hm => ?_⟩
    · rw [hf, if_neg (by simp)] at e
      simpa [fin1] using e
    · rw [hf, if_pos rfl, if_pos hm] at e
      simpa [fin1] using e
    · rw [hf, if_pos rfl, if_neg hm] at e
      refine .one (by omega) ?_ ?_
      · rw [hb_succ]; exact rec_hour hf h0
      · rw [hb_succ, take_snoc' (ids_at1 h1)]; exact e
  · rw [ids_at2 h1 h2] at hx
    cases hx
    rw [drop_getD (show i - k.loads.length < k.draws.length by omega), chk] at e
    have ho : okAt k i = recB (k.draws.getD (i - k.loads.length) default) (hb k.draws (i - k.loads.length)) := by rw [okAt, if_neg (by omega), if_pos h2, hb_max h0]
    rw [ho]
    refine ⟨fun hf => ?_, fun hf hm => ?_, fun hf hm => ?_⟩
    · rw [hf, if_neg (by simp)] at e
      simpa [fin2] using e
    · rw [hf, if_pos rfl, if_pos hm] at e
      simpa [fin2] using e
    · rw [hf, if_pos rfl, if_neg hm] at e
      have hs : i + 1 - k.loads.length = (i - k.loads.length) + 1 := by omega
      refine .two (by omega) (by omega) ?_ ?_
      · rw [hs, hb_succ]; exact rec_hour hf h0
      · rw [hs, hb_succ, take_snoc' (ids_at2 h1 h2)]; exact e
  · have hi2 := hi
    rw [idsM_len] at hi2
    rw [ids_at3 h1 hi] at hx
    cases hx
    rw [drop_getD (show i - k.loads.length - k.draws.length < k.weighs.length by omega), chkW] at e
    have ho : okAt k i = weighB k (k.weighs.getD (i - k.loads.length - k.draws.length) default) := by rw [okAt, if_neg (by omega), if_neg (by omega)]
    rw [ho]
    refine ⟨fun hf => ?_, fun hf hm => ?_, fun hf hm => ?_⟩
    · rw [hf, if_neg (by simp)] at e
      exact e
    · rw [hf, if_pos rfl, if_pos hm] at e
      exact e
    · rw [hf, if_pos rfl, if_neg hm] at e
      refine .three (by omega) ?_
      rw [show i + 1 - k.loads.length - k.draws.length = (i - k.loads.length - k.draws.length) + 1 by omega, take_snoc' (ids_at3 h1 hi)]
      exact e
theorem Stg.fin {k : Kn} {i : Nat} (h : Stg k i) (hi : (idsM k).length ≤ i) : chk2 k = 0 := by
  rw [idsM_len] at hi
  rcases h.up with ⟨h1, h0, e⟩ | ⟨h1, h2, h0, e⟩ | ⟨h1, e⟩
  · omega
  · omega
  · rw [List.drop_of_length_le (by omega)] at e
    exact e
end Go.Shaft
/- The chapter's example, reckoned. -/
set_option linter.unusedVariables false
namespace Go.Shaft
def exK : Kn := ⟨100, 10, [⟨1, 0, ⟨20, 30⟩⟩, ⟨2, 2, ⟨10, 15⟩⟩, ⟨3, 5, ⟨20, 40⟩⟩], [⟨11, 4, ⟨15, 18⟩⟩, ⟨12, 8, ⟨20, 25⟩⟩], [⟨21, 1, 1, 2, ⟨36, 40⟩⟩, ⟨22, 3, 6, 0, ⟨50, 55⟩⟩]⟩
def exK2 : Kn := { exK with weighs := exK.weighs ++ [⟨23, 1, 1, 1, ⟨31, 33⟩⟩] }
theorem ex_ties : ((tiesAll exK).2, (tiesAll exK).1.length, (tiesAll exK).1[1]?) = (0, 19, some ⟨1, 0, -20, 1⟩) := by kernel_rfl
theorem ex_w1 : runM exK 1 1 = (⟨21, 30⟩, 0) := by kernel_rfl
theorem ex_w3 : runM exK 3 3 = (⟨25, 37⟩, 0) := by kernel_rfl
theorem ex_h : heldM exK 4 = (⟨18, 25⟩, 0) := by kernel_rfl
theorem ex_b : belowM exK 3 6 = (⟨18, 25⟩, 0) := by kernel_rfl
theorem ex_f : feetM exK 3 6 = (⟨1, 2⟩, 0) := by kernel_rfl
theorem ex_r : restsM exK 0 3 = ([22], 0) := by kernel_rfl
theorem ex_fi : (findM exK2).2 = 9 := by kernel_rfl
theorem ex_cl : ((clashM exK2).1.isSome, (clashM exK2).2, decide (((clashM exK2).1.getD []).length ≤ 1000), checkClashM exK2 ((clashM exK2).1.getD [])) = (true, 0, true, 0) := by kernel_rfl
theorem ex_t2 : tookM exK 12 2 = (⟨5, 15⟩, 0) := by kernel_rfl
theorem ex_t3 : tookM exK 12 3 = (⟨0, 7⟩, 0) := by kernel_rfl
theorem ex_s : sourcesM exK 12 = ([1, 2], [1, 2, 3], 0) := by kernel_rfl
end Go.Shaft
/- How far marks lie apart: what settling tells. -/
set_option linter.unusedVariables false
set_option linter.unusedSimpArgs false
namespace Go.Shaft
def dst (x : Nt) (a v : Int) : Int := gt (settleM x a).1 v
def fin? (x : Nt) (a : Int) : Bool := (settleM x a).2.2.isNone
/-- A right kiln's net, perhaps with more links. -/
structure Net (k : Kn) (more : List Tie) : Prop where
  wf : WfN (netM k more)
theorem Net.base {k : Kn} (h : check k = 0) : Net k [] := ⟨(fine_of_check h).wf⟩
section
variable {k : Kn} {more : List Tie} (N : Net k more)
theorem netn (k : Kn) (more : List Tie) : (netM k more).n = (marksM k : Int) := rfl
theorem Net.conn {a : Int} (a0 : 0 ≤ a) (a1 : a < marksM k) : Conn (netM k more) a := conn_all k more a0 a1
include N
theorem Net.cases {a : Int} (a0 : 0 ≤ a) (a1 : a < marksM k) :
    ((settleM (netM k more) a).2.2 = none ∧ Settled (netM k more) a (settleM (netM k more) a).1 (settleM (netM k more) a).2.1) ∨
    ((∃ c, (settleM (netM k more) a).2.2 = some c) ∧ ∀ H, ¬ Feas (netM k more) H) := by
  have w := N.wf
  rcases settle_cases w a0 (by rw [netn]; exact a1) with ⟨h, b, e, s⟩ | ⟨h, b, v, e, g, tm, v0, v1, hk⟩
  · left
    rw [e]
    exact ⟨rfl, s⟩
  · right
    rw [e]
    refine ⟨⟨_, rfl⟩, fun H f => ?_⟩
    obtain ⟨u, _, _, hp, hs, _⟩ := circle_spec w g tm v0 v1 hk
    exact no_feas f hp hs
theorem Net.settled {a : Int} (a0 : 0 ≤ a) (a1 : a < marksM k) (h : fin? (netM k more) a = true) : Settled (netM k more) a (settleM (netM k more) a).1 (settleM (netM k more) a).2.1 := by
  rcases N.cases a0 a1 with ⟨_, s⟩ | ⟨⟨c, e⟩, _⟩
  · exact s
  · rw [fin?, e] at h
    cases h
theorem Net.feas {a : Int} (a0 : 0 ≤ a) (a1 : a < marksM k) (h : fin? (netM k more) a = true) : Feas (netM k more) (dst (netM k more) a) := (N.settled a0 a1 h).feas N.wf a0 a1 ((Net.conn a0 a1))
theorem Net.zero {a : Int} (a0 : 0 ≤ a) (a1 : a < marksM k) (h : fin? (netM k more) a = true) : dst (netM k more) a a = 0 := (N.settled a0 a1 h).zero N.wf a0 a1 ((Net.conn a0 a1))
theorem Net.fin_of {a : Int} (a0 : 0 ≤ a) (a1 : a < marksM k) {H : Int → Int} (f : Feas (netM k more) H) : fin? (netM k more) a = true := by
  rcases N.cases a0 a1 with ⟨e, _⟩ | ⟨_, h⟩
  · rw [fin?, e]; rfl
  · exact (h H f).elim
theorem Net.fin_iff {a : Int} (a0 : 0 ≤ a) (a1 : a < marksM k) : fin? (netM k more) a = true ↔ ∃ H, Feas (netM k more) H := ⟨fun h => ⟨_, N.feas a0 a1 h⟩, fun ⟨_, f⟩ => N.fin_of a0 a1 f⟩
theorem Net.same {a b : Int} (a0 : 0 ≤ a) (a1 : a < marksM k) (b0 : 0 ≤ b) (b1 : b < marksM k) : fin? (netM k more) a = fin? (netM k more) b := by
  cases h : fin? (netM k more) b with
  | true => exact N.fin_of a0 a1 (N.feas b0 b1 h)
  | false =>
    cases h2 : fin? (netM k more) a with
    | false => rfl
    | true => rw [N.fin_of b0 b1 (N.feas a0 a1 h2)] at h; cases h
/-- No heights that keep all links lie further apart. -/
theorem Net.le {a v : Int} (a0 : 0 ≤ a) (a1 : a < marksM k) (v0 : 0 ≤ v) (v1 : v < marksM k) {H : Int → Int} (f : Feas (netM k more) H) : H v - H a ≤ dst (netM k more) a v := by
  have s := N.settled a0 a1 (N.fin_of a0 a1 f)
  obtain ⟨m, _, _, _, _, hp, hs⟩ := s.steps N.wf a0 a1 ((Net.conn a0 a1)) v0 v1
  have := feas_path f hp
  rw [hs] at this
  unfold dst
  omega
theorem Net.tie {t : Tie} (ht : t ∈ (netM k more).links) {a : Int} (a0 : 0 ≤ a) (a1 : a < marksM k) (h : fin? (netM k more) a = true) : dst (netM k more) t.frm t.to ≤ t.most := by
  have f0 := N.wf.f0 t ht; have f1 := N.wf.f1 t ht
  rw [netn] at f1
  have hf : fin? (netM k more) t.frm = true := N.fin_of f0 f1 (N.feas a0 a1 h)
  have h1 := N.feas f0 f1 hf t ht
  have h2 := N.zero f0 f1 hf
  omega
end
theorem above_eq (x : Nt) (a b : Int) : aboveM x a b = (dst x a b, fin? x a) := rfl
theorem marked_two {k : Kn} (hc : check k = 0) {a b : Int} (a0 : 0 ≤ a) (a1 : a < marksM k) (b0 : 0 ≤ b) (b1 : b < marksM k) : markedM k [a, b] = 0 := by
  unfold markedM
  rw [if_neg (by simp [hc]), if_neg]
  simp [inB]
  omega
theorem aboveC_eq {k : Kn} (hc : check k = 0) {a b : Int} (a0 : 0 ≤ a) (a1 : a < marksM k) (b0 : 0 ≤ b) (b1 : b < marksM k) : (aboveC k a b).2 = (if fin? (netM k []) a then 0 else 9) ∧ (fin? (netM k []) a = true → (aboveC k a b).1.most = dst (netM k []) a b) := by
  unfold aboveC
  rw [marked_two hc a0 a1 b0 b1, if_neg (by simp)]
  unfold fin?
  cases h : (settleM (netM k []) a).2.2 with
  | none => exact ⟨rfl, fun _ => rfl⟩
  | some c => exact ⟨rfl, fun h => by cases h⟩
end Go.Shaft
/- Weights and heights; chains and circles. -/
set_option linter.unusedVariables false
set_option linter.unusedSimpArgs false
namespace Go.Shaft
theorem links0 (k : Kn) : (netM k []).links = tiesM k := by simp [netM]
theorem breaks_feas {k : Kn} {h : List Int} : (¬ 0 ≤ breaksM k h) ↔ Feas (netM k []) (gt h) := by
  have e := idxP_any (tiesM k) (offP h)
  unfold breaksM
  constructor
  · intro h1 t ht
    rw [links0] at ht
    rw [decide_eq_false h1] at e
    have := List.any_eq_false.1 e.symm t ht
    simp only [offP, decide_eq_true_eq] at this
    omega
  · intro f h1
    rw [decide_eq_true h1] at e
    obtain ⟨t, ht, h2⟩ := List.any_eq_true.1 e.symm
    have := f t (by rw [links0]; exact ht)
    simp only [offP, decide_eq_true_eq] at h2
    omega
theorem fits_iff {k : Kn} (hc : check k = 0) {t : Tr} : (fitsM k t).2.1 = true ↔ TrOk k t ∧ Feas (netM k []) (gt (raisedM k t)) := by
  unfold fitsM
  rw [if_neg (by simp [hc])]
  split
  · rename_i h
    refine ⟨fun h => (by cases h), fun ⟨h1, _⟩ => ?_⟩
    rw [told_iff.2 h1] at h
    cases h
  · rename_i h
    have h : toldB k t = true := by simpa using h
    split
    · rename_i h2
      exact ⟨fun h => (by cases h), fun ⟨_, f⟩ => (breaks_feas.2 f h2).elim⟩
    · rename_i h2
      exact ⟨fun _ => ⟨told_iff.1 h, breaks_feas.1 h2⟩, fun _ => rfl⟩
/-- Heights that keep all links tell weights. -/
theorem load_in {k : Kn} {H : Int → Int} (f : Feas (netM k []) H) {i : Nat} {x : Ld} (hx : k.loads[i]? = some x) : x.w.lo ≤ H ((i : Int) + 1) - H i ∧ H ((i : Int) + 1) - H i ≤ x.w.hi := by
  obtain ⟨t1, t2⟩ := tie1 hx
  have h1 := f _ (tie_mem (more := []) t1)
  have h2 := f _ (tie_mem (more := []) t2)
  simp only at h1 h2
  omega
theorem draw_in {k : Kn} {H : Int → Int} (f : Feas (netM k []) H) {i : Nat} {x : Ld} (hx : k.draws[i]? = some x) : x.w.lo ≤ H (drawnM k ((i : Int) + 1)) - H (drawnM k i) ∧ H (drawnM k ((i : Int) + 1)) - H (drawnM k i) ≤ x.w.hi := by
  obtain ⟨t1, t2⟩ := tie2 hx
  have h1 := f _ (tie_mem (more := []) t1)
  have h2 := f _ (tie_mem (more := []) t2)
  simp only at h1 h2
  omega
theorem weights_load {k : Kn} (h : List Int) {i : Nat} (hi : i < k.loads.length) : (weightsM k h).loads[i]? = some (gt h ((i : Int) + 1) - gt h i) := by simp [weightsM, hi]
theorem weights_draw {k : Kn} (h : List Int) {i : Nat} (hi : i < k.draws.length) : (weightsM k h).draws[i]? = some (gt h (drawnM k ((i : Int) + 1)) - gt h (drawnM k i)) := by simp [weightsM, hi]
theorem weights_ok {k : Kn} (r : Right k) {h : List Int} (f : Feas (netM k []) (gt h)) : TrOk k (weightsM k h) := by
  refine ⟨by simp [weightsM], by simp [weightsM], ?_, ?_⟩
  · intro n hn
    obtain ⟨i, hi⟩ := List.getElem?_of_mem hn
    have hl : i < k.loads.length := by have := (List.getElem?_eq_some_iff.1 hi).1; simpa [weightsM] using this
    rw [weights_load h hl] at hi
    cases hi
    obtain ⟨x, hx⟩ : ∃ x, k.loads[i]? = some x := ⟨_, List.getElem?_eq_getElem hl⟩
    have h1 := load_in f hx
    have h2 := r.l x (List.mem_of_getElem? hx)
    omega
  · intro n hn
    obtain ⟨i, hi⟩ := List.getElem?_of_mem hn
    have hl : i < k.draws.length := by have := (List.getElem?_eq_some_iff.1 hi).1; simpa [weightsM] using this
    rw [weights_draw h hl] at hi
    cases hi
    obtain ⟨x, hx⟩ : ∃ x, k.draws[i]? = some x := ⟨_, List.getElem?_eq_getElem hl⟩
    have h1 := draw_in f hx
    have h2 := r.d x (List.mem_of_getElem? hx)
    omega
theorem pfx_load {k : Kn} (h : List Int) : ∀ i : Nat, i ≤ k.loads.length → pfx (weightsM k h).loads i = gt h i - gt h 0
  | 0, _ => by simp
  | i + 1, hi => by
    rw [pfx_succ (weights_load h (by omega)), pfx_load h i (by omega)]
    push_cast
    omega
theorem pfx_draw {k : Kn} (h : List Int) : ∀ i : Nat, i ≤ k.draws.length → pfx (weightsM k h).draws i = gt h (drawnM k i) - gt h 0
  | 0, _ => by simp [drawnM]
  | i + 1, hi => by
    rw [pfx_succ (weights_draw h (by omega)), pfx_draw h i (by omega)]
    push_cast
    omega
theorem gt_rai {k : Kn} (r : Right k) (t : Tr) {v : Int} (v0 : 0 ≤ v) (v1 : v < marksM k) : gt (raisedM k t) v = if v ≤ k.loads.length then pfx t.loads v.toNat else pfx t.draws (v.toNat - k.loads.length) := by
  have h1 := r.nl; have h2 := r.nd
  have hm : (marksM k : Int) = 1 + k.loads.length + k.draws.length := by simp [marksM]
  rw [gt, List.getD_eq_getElem?_getD, raisedM, rai_get k t _ _ _ (by omega)]
  simp only [Option.getD_some]
  by_cases e : v ≤ k.loads.length
  · rw [if_pos (by omega), if_pos e]
  · rw [if_neg (by omega), if_neg e, if_pos (by omega)]
theorem raised_weights {k : Kn} (r : Right k) (h : List Int) {v : Int} (v0 : 0 ≤ v) (v1 : v < marksM k) : gt (raisedM k (weightsM k h)) v = gt h v - gt h 0 := by
  have hm : (marksM k : Int) = 1 + k.loads.length + k.draws.length := by simp [marksM]
  rw [gt_rai r _ v0 v1]
  by_cases e : v ≤ k.loads.length
  · rw [if_pos e, pfx_load h _ (by omega)]
    congr 2
    omega
  · rw [if_neg e, pfx_draw h _ (by omega)]
    congr 2
    unfold drawnM
    rw [if_neg (by omega)]
    omega
theorem feas_raised {k : Kn} (r : Right k) {h : List Int} (f : Feas (netM k []) (gt h)) : Feas (netM k []) (gt (raisedM k (weightsM k h))) := by
  intro t ht
  have h1 := f t ht
  rw [links0] at ht
  obtain ⟨f0, f1, t0, t1, _⟩ := ties_in r t ht
  rw [raised_weights r h t0 t1, raised_weights r h f0 f1]
  omega
/-- What the circle of a net shows. -/
theorem Net.circle {k : Kn} (N : Net k []) {a : Int} (a0 : 0 ≤ a) (a1 : a < marksM k) (h : fin? (netM k []) a = false) : ∃ c e, (settleM (netM k []) a).2.2 = some c ∧ PathM (netM k []) e e (c.map (lk (netM k []))) ∧ sumT (c.map (lk (netM k []))) < 0 ∧ c ≠ [] ∧ c.length ≤ 41 ∧ ∀ i ∈ c, 0 ≤ i ∧ i < (tiesM k).length := by
  have w := N.wf
  have n1 := w.n1
  rcases settle_cases w a0 (by rw [netn]; exact a1) with ⟨h', b, e, s⟩ | ⟨h', b, v, e, g, tm, v0, v1, hk⟩
  · rw [fin?, e] at h
    cases h
  · obtain ⟨u, _, _, hp, hs, hne, hlen, hin⟩ := circle_spec w g tm v0 v1 hk
    exact ⟨_, u, by rw [e], hp, hs, hne, by omega, by rw [← links0]; exact hin⟩
end Go.Shaft
/- More weighings, and fewer. -/
set_option linter.unusedVariables false
set_option linter.unusedSimpArgs false
namespace Go.Shaft
def moreW (k : Kn) (w : Wg) : Kn := { k with weighs := k.weighs ++ [w] }
theorem more_sub (k : Kn) (w : Wg) : ∀ t ∈ tiesM k, t ∈ tiesM (moreW k w) := by
  intro t ht
  have e3 : ties3 (moreW k w) = ties3 k ++ both (weighedM k w).1 (weighedM k w).2 w.sum w.id := by
    unfold ties3
    show List.flatMap _ (k.weighs ++ [w]) = _
    rw [List.flatMap_append]
    simp only [List.flatMap_cons, List.flatMap_nil, List.append_nil]
    rfl
  have e1 : ties1 (moreW k w) = ties1 k := rfl
  have e2 : ties2 (moreW k w) = ties2 k := rfl
  have e4 : ties4 (moreW k w) = ties4 k := rfl
  have e5 : ties5 (moreW k w) = ties5 k := rfl
  rw [tiesM, e1, e2, e3, e4, e5]
  simp only [tiesM, List.mem_append] at ht ⊢
  rcases ht with h | h | h | h | h
  · exact .inl h
  · exact .inr (.inl h)
  · exact .inr (.inr (.inl (.inl h)))
  · exact .inr (.inr (.inr (.inl h)))
  · exact .inr (.inr (.inr (.inr h)))
theorem less_sub (k : Kn) (ids : List Int) : ∀ t ∈ tiesM (withoutM k ids), t ∈ tiesM k := by
  intro t ht
  have e3 : ties3 (withoutM k ids) = (k.weighs.filter fun w => !decide (w.id ∈ ids)).flatMap fun w => both (weighedM k w).1 (weighedM k w).2 w.sum w.id := rfl
  have e1 : ties1 (withoutM k ids) = ties1 k := rfl
  have e2 : ties2 (withoutM k ids) = ties2 k := rfl
  have e4 : ties4 (withoutM k ids) = ties4 k := rfl
  have e5 : ties5 (withoutM k ids) = ties5 k := rfl
  rw [tiesM, e1, e2, e3, e4, e5] at ht
  simp only [tiesM, List.mem_append] at ht ⊢
  rcases ht with h | h | h | h | h
  · exact .inl h
  · exact .inr (.inl h)
  · refine .inr (.inr (.inl ?_))
    obtain ⟨w, hw, h⟩ := List.mem_flatMap.1 h
    exact List.mem_flatMap.2 ⟨w, (List.mem_filter.1 hw).1, h⟩
  · exact .inr (.inr (.inr (.inl h)))
  · exact .inr (.inr (.inr (.inr h)))
theorem feas_of_more {k : Kn} {w : Wg} {H : Int → Int} (f : Feas (netM (moreW k w) []) H) : Feas (netM k []) H := by
  intro t ht
  rw [links0] at ht
  exact f t (by rw [links0]; exact more_sub k w t ht)
theorem feas_less {k : Kn} {ids : List Int} {H : Int → Int} (f : Feas (netM k []) H) : Feas (netM (withoutM k ids) []) H := by
  intro t ht
  rw [links0] at ht
  exact f t (by rw [links0]; exact less_sub k ids t ht)
theorem less_ok {k : Kn} (hc : check k = 0) {a b : Int} (a0 : 0 ≤ a) (a1 : a < marksM k) (b0 : 0 ≤ b) (b1 : b < marksM k) (hF : fin? (netM k []) a = true) (id : Int) : (withoutE k [id]) = (withoutM k [id], 0) ∧ (aboveC (withoutM k [id]) a b).2 = 0 ∧ (aboveC (withoutM k [id]) a b).1.most = dst (netM (withoutM k [id]) []) a b := by
  have hc2 := check_without hc [id]
  have N := Net.base hc
  have N2 := Net.base hc2
  have hF2 : fin? (netM (withoutM k [id]) []) a = true := N2.fin_of (k := withoutM k [id]) a0 a1 (feas_less (N.feas a0 a1 hF))
  obtain ⟨e1, m1⟩ := aboveC_eq (k := withoutM k [id]) hc2 a0 a1 b0 b1
  exact ⟨by rw [withoutE, if_neg (by simp [hc])], by rw [e1, if_pos hF2], m1 hF2⟩
theorem chosen_len (k : Kn) (is : Kn → Bool) : (chosenM k is).length ≤ k.weighs.length := by
  rw [chosenM, sortM_len]
  refine Nat.le_trans (List.length_filter_le _ _) ?_
  simp
theorem sus_len (k : Kn) : (suspectsM k).1.length ≤ k.weighs.length := by
  unfold suspectsM
  split
  · simp
  · split
    · simp
    · exact chosen_len k (fun less => (aboveM (netM less []) 0 0).2)
theorem rests_len (k : Kn) (a b : Int) : (restsM k a b).1.length ≤ k.weighs.length := by
  unfold restsM
  split
  · simp
  · split
    · simp
    · exact chosen_len k (fun less => decide ((aboveM (netM less []) a b).1 ≠ (aboveM (netM k []) a b).1))
end Go.Shaft
/- True weights: what is told of loads and draws holds of them. -/
set_option linter.unusedVariables false
set_option linter.unusedSimpArgs false
namespace Go.Shaft
def inS (n : Int) (s : Sp) : Bool := decide (s.lo ≤ n ∧ n ≤ s.hi)
/-- The height of a mark, by weights. -/
def hgtM (k : Kn) (t : Tr) (m : Int) : Int := if m ≤ k.loads.length then pfx t.loads m.toNat else pfx t.draws (m - k.loads.length).toNat
theorem hgt_b {k : Kn} {t : Tr} (ht : TrOk k t) {m : Int} (h : m ≤ 60) : 0 ≤ hgtM k t m ∧ hgtM k t m ≤ 1006632960 := by
  unfold hgtM
  split
  · have := pfx_bound ht.l m.toNat; omega
  · have := pfx_bound ht.d (m - k.loads.length).toNat; omega
def takenM (k : Kn) (t : Tr) (j i : Int) : Int := mxI 0 (mnI (hgtM k t (i + 1)) (hgtM k t (k.loads.length + j + 1)) - mxI (hgtM k t i) (if 0 < j then hgtM k t (k.loads.length + j) else 0))
theorem hgt_rai {k : Kn} (r : Right k) (t : Tr) {v : Int} (v0 : 0 ≤ v) (v1 : v < marksM k) : gt (raisedM k t) v = hgtM k t v := by
  rw [gt_rai r t v0 v1, hgtM]
  split
  · rfl
  · congr 1
    omega
theorem find_id {l : List Ld} (hn : (l.map (·.id)).Nodup) {i : Nat} {x : Ld} (hx : l[i]? = some x) : find l x.id = i := by
  refine find_at hx rfl fun j y hj hy e => ?_
  have h1 : (l.map (·.id))[j]? = some x.id := by rw [List.getElem?_map, hy]; simp [e]
  have h2 : (l.map (·.id))[i]? = some x.id := by rw [List.getElem?_map, hx]; rfl
  have hjl := (List.getElem?_eq_some_iff.1 h1).1
  have hil := (List.getElem?_eq_some_iff.1 h2).1
  have := List.pairwise_iff_getElem.1 hn j i hjl hil hj
  rw [(List.getElem?_eq_some_iff.1 h1).2, (List.getElem?_eq_some_iff.1 h2).2] at this
  exact this rfl
theorem nodup_l {k : Kn} (o : Order k) : (k.loads.map (·.id)).Nodup := (List.nodup_append.1 o.ids).1
theorem nodup_d {k : Kn} (o : Order k) : (k.draws.map (·.id)).Nodup := (List.nodup_append.1 (List.nodup_append.1 o.ids).2.1).1
theorem run_load {k : Kn} (hc : check k = 0) {i : Nat} {x : Ld} (hx : k.loads[i]? = some x) : runM k x.id x.id = betweenM k i ((i : Int) + 1) := by
  have hf := find_id (nodup_l (order_of_check hc)) hx
  unfold runM
  rw [if_neg (by simp [hc])]
  have hr : reachM k x.id x.id = ((i : Int), (i : Int) + 1, true) := by
    unfold reachM
    rw [hf, if_pos (by omega)]
  have ho : orderedB k.loads x.id x.id = true := by
    simp only [orderedB, hf, decide_eq_true_eq]
    omega
  simp [hr, ho]
end Go.Shaft
/- The table of types of this translation, for the abstract machine. Written by gen_env.py. -/
set_option linter.unusedVariables false
set_option linter.unusedSimpArgs false
set_option maxRecDepth 100000
namespace Go.Abs
open Go.RowKit Go.Proofs
def ti3 : TI := ⟨.int .i64, 1, 8, .int .i64 0⟩
def ti4 : TI := ⟨.scalar, 1, 1, .bool false⟩
def ti5 : TI := ⟨.int .u8, 1, 1, .int .u8 0⟩
def ti9 : TI := ⟨.string, 1, 16, .str ⟨#[]⟩⟩
def ti22 : TI := ⟨.slice 4 42, 1, 24, .nilS⟩
def ti23 : TI := ⟨.slice 4 52, 1, 24, .nilS⟩
def ti24 : TI := ⟨.slice 6 45, 1, 24, .nilS⟩
def ti26 : TI := ⟨.struct [⟨0, 1, false⟩, ⟨1, 1, false⟩, ⟨2, 1, false⟩, ⟨3, 1, false⟩, ⟨4, 1, false⟩], 5, 88, .agg [.int .i64 0, .int .i64 0, .nilS, .nilS, .nilS]⟩
def ti27 : TI := ⟨.scalar, 1, 8, .nilF⟩
def ti28 : TI := ⟨.scalar, 1, 8, .nilF⟩
def ti30 : TI := ⟨.struct [⟨0, 1, false⟩, ⟨1, 1, false⟩], 2, 16, .agg [.int .i64 0, .int .i64 0]⟩
def ti31 : TI := ⟨.int .i64, 1, 8, .int .i64 0⟩
def ti35 : TI := ⟨.struct [⟨0, 2, true⟩, ⟨2, 1, false⟩], 3, 24, .agg [.agg [.int .i64 0, .int .i64 0], .int .i64 0]⟩
def ti40 : TI := ⟨.int .u32, 1, 4, .int .u32 0⟩
def ti42 : TI := ⟨.struct [⟨0, 1, false⟩, ⟨1, 1, false⟩, ⟨2, 2, true⟩], 4, 32, .agg [.int .i64 0, .int .i64 0, .agg [.int .i64 0, .int .i64 0]]⟩
def ti45 : TI := ⟨.struct [⟨0, 1, false⟩, ⟨1, 1, false⟩, ⟨2, 1, false⟩, ⟨3, 1, false⟩, ⟨4, 2, true⟩], 6, 48, .agg [.int .i64 0, .int .i64 0, .int .i64 0, .int .i64 0, .agg [.int .i64 0, .int .i64 0]]⟩
def ti46 : TI := ⟨.slice 1 3, 1, 24, .nilS⟩
def ti48 : TI := ⟨.struct [⟨0, 1, false⟩, ⟨1, 1, false⟩], 2, 48, .agg [.nilS, .nilS]⟩
def ti52 : TI := ⟨.struct [⟨0, 1, false⟩, ⟨1, 1, false⟩, ⟨2, 2, true⟩], 4, 32, .agg [.int .i64 0, .int .i64 0, .agg [.int .i64 0, .int .i64 0]]⟩
def ti60 : TI := ⟨.struct [⟨0, 1, false⟩, ⟨1, 1, false⟩, ⟨2, 1, false⟩], 3, 24, .agg [.int .i64 0, .bool false, .int .i64 0]⟩
def ti65 : TI := ⟨.struct [⟨0, 1, false⟩, ⟨1, 1, false⟩, ⟨2, 1, false⟩], 3, 56, .agg [.nilS, .nilS, .int .i64 0]⟩
def ti71 : TI := ⟨.struct [⟨0, 1, false⟩, ⟨1, 1, false⟩], 2, 32, .agg [.nilS, .int .i64 0]⟩
def ti78 : TI := ⟨.struct [⟨0, 5, true⟩, ⟨5, 1, false⟩], 6, 96, .agg [.agg [.int .i64 0, .int .i64 0, .nilS, .nilS, .nilS], .int .i64 0]⟩
def ti85 : TI := ⟨.struct [⟨0, 1, false⟩, ⟨1, 1, false⟩, ⟨2, 2, true⟩], 4, 80, .agg [.int .i64 0, .nilS, .agg [.nilS, .nilS]]⟩
def ti88 : TI := ⟨.slice 4 92, 1, 24, .nilS⟩
def ti92 : TI := ⟨.struct [⟨0, 1, false⟩, ⟨1, 1, false⟩, ⟨2, 1, false⟩, ⟨3, 1, false⟩], 4, 32, .agg [.int .i64 0, .int .i64 0, .int .i64 0, .int .i64 0]⟩
def ti99 : TI := ⟨.struct [⟨0, 1, false⟩, ⟨1, 1, false⟩], 2, 32, .agg [.nilS, .int .i64 0]⟩
def ti105 : TI := ⟨.int .u16, 1, 2, .int .u16 0⟩
def ti122 : TI := ⟨.slice 4 42, 1, 24, .nilS⟩
def ti125 : TI := ⟨.slice 4 52, 1, 24, .nilS⟩
def ti129 : TI := ⟨.scalar, 1, 8, .nilF⟩
def ti131 : TI := ⟨.array 41 1 false, 41, 328, .arr 1 (List.replicate 41 (.int .i64 0))⟩
def ti134 : TI := ⟨.struct [⟨0, 1, false⟩, ⟨1, 1, false⟩], 2, 32, .agg [.int .i64 0, .nilS]⟩
def ti141 : TI := ⟨.scalar, 1, 8, .nilF⟩
def ti143 : TI := ⟨.struct [⟨0, 1, false⟩, ⟨1, 1, false⟩, ⟨2, 1, false⟩, ⟨3, 1, false⟩], 4, 32, .agg [.int .i64 0, .int .i64 0, .int .i64 0, .int .i64 0]⟩
def ti165 : TI := ⟨.scalar, 1, 8, .nilM⟩
def ti172 : TI := ⟨.scalar, 1, 8, .nilF⟩
def ti178 : TI := ⟨.slice 1 46, 1, 24, .nilS⟩
def ti186 : TI := ⟨.scalar, 1, 8, .nilF⟩
def ti188 : TI := ⟨.scalar, 1, 8, .nilF⟩
def ti189 : TI := ⟨.array 2 1 false, 2, 16, .arr 1 (List.replicate 2 (.int .i64 0))⟩
def ti190 : TI := ⟨.array 4 2 true, 8, 64, .arr 2 (List.replicate 4 (.arr 1 (List.replicate 2 (.int .i64 0))))⟩
def ti192 : TI := ⟨.scalar, 1, 8, .nilF⟩
def ti204 : TI := ⟨.scalar, 1, 8, .nilF⟩
def ti207 : TI := ⟨.scalar, 1, 8, .nilF⟩
def ti208 : TI := ⟨.int .u64, 1, 8, .int .u64 0⟩
def ti218 : TI := ⟨.int .u64, 1, 8, .int .u64 0⟩
def ti222 : TI := ⟨.int .i64, 1, 8, .int .i64 0⟩
def ti231 : TI := ⟨.int .u64, 1, 8, .int .u64 0⟩
def ti235 : TI := ⟨.scalar, 1, 8, .nilP⟩
def tiTab : TypeId → Option TI
  | 3 => some ti3
  | 4 => some ti4
  | 5 => some ti5
  | 9 => some ti9
  | 22 => some ti22
  | 23 => some ti23
  | 24 => some ti24
  | 26 => some ti26
  | 27 => some ti27
  | 28 => some ti28
  | 30 => some ti30
  | 31 => some ti31
  | 35 => some ti35
  | 40 => some ti40
  | 42 => some ti42
  | 45 => some ti45
  | 46 => some ti46
  | 48 => some ti48
  | 52 => some ti52
  | 60 => some ti60
  | 65 => some ti65
  | 71 => some ti71
  | 78 => some ti78
  | 85 => some ti85
  | 88 => some ti88
  | 92 => some ti92
  | 99 => some ti99
  | 105 => some ti105
  | 122 => some ti122
  | 125 => some ti125
  | 129 => some ti129
  | 131 => some ti131
  | 134 => some ti134
  | 141 => some ti141
  | 143 => some ti143
  | 165 => some ti165
  | 172 => some ti172
  | 178 => some ti178
  | 186 => some ti186
  | 188 => some ti188
  | 189 => some ti189
  | 190 => some ti190
  | 192 => some ti192
  | 204 => some ti204
  | 207 => some ti207
  | 208 => some ti208
  | 218 => some ti218
  | 222 => some ti222
  | 231 => some ti231
  | 235 => some ti235
  | _ => none
theorem tiC3 : tiChk Tryz.prog 3 ti3 = true := by kernel_rfl
theorem tiC4 : tiChk Tryz.prog 4 ti4 = true := by kernel_rfl
theorem tiC5 : tiChk Tryz.prog 5 ti5 = true := by kernel_rfl
theorem tiC9 : tiChk Tryz.prog 9 ti9 = true := by kernel_rfl
theorem tiC22 : tiChk Tryz.prog 22 ti22 = true := by kernel_rfl
theorem tiC23 : tiChk Tryz.prog 23 ti23 = true := by kernel_rfl
theorem tiC24 : tiChk Tryz.prog 24 ti24 = true := by kernel_rfl
theorem tiC26 : tiChk Tryz.prog 26 ti26 = true := by kernel_rfl
theorem tiC27 : tiChk Tryz.prog 27 ti27 = true := by kernel_rfl
theorem tiC28 : tiChk Tryz.prog 28 ti28 = true := by kernel_rfl
theorem tiC30 : tiChk Tryz.prog 30 ti30 = true := by kernel_rfl
theorem tiC31 : tiChk Tryz.prog 31 ti31 = true := by kernel_rfl
theorem tiC35 : tiChk Tryz.prog 35 ti35 = true := by kernel_rfl
theorem tiC40 : tiChk Tryz.prog 40 ti40 = true := by kernel_rfl
theorem tiC42 : tiChk Tryz.prog 42 ti42 = true := by kernel_rfl
theorem tiC45 : tiChk Tryz.prog 45 ti45 = true := by kernel_rfl
theorem tiC46 : tiChk Tryz.prog 46 ti46 = true := by kernel_rfl
theorem tiC48 : tiChk Tryz.prog 48 ti48 = true := by kernel_rfl
theorem tiC52 : tiChk Tryz.prog 52 ti52 = true := by kernel_rfl
theorem tiC60 : tiChk Tryz.prog 60 ti60 = true := by kernel_rfl
theorem tiC65 : tiChk Tryz.prog 65 ti65 = true := by kernel_rfl
theorem tiC71 : tiChk Tryz.prog 71 ti71 = true := by kernel_rfl
theorem tiC78 : tiChk Tryz.prog 78 ti78 = true := by kernel_rfl
theorem tiC85 : tiChk Tryz.prog 85 ti85 = true := by kernel_rfl
theorem tiC88 : tiChk Tryz.prog 88 ti88 = true := by kernel_rfl
theorem tiC92 : tiChk Tryz.prog 92 ti92 = true := by kernel_rfl
theorem tiC99 : tiChk Tryz.prog 99 ti99 = true := by kernel_rfl
theorem tiC105 : tiChk Tryz.prog 105 ti105 = true := by kernel_rfl
theorem tiC122 : tiChk Tryz.prog 122 ti122 = true := by kernel_rfl
theorem tiC125 : tiChk Tryz.prog 125 ti125 = true := by kernel_rfl
theorem tiC129 : tiChk Tryz.prog 129 ti129 = true := by kernel_rfl
theorem tiC131 : tiChk Tryz.prog 131 ti131 = true := by kernel_rfl
theorem tiC134 : tiChk Tryz.prog 134 ti134 = true := by kernel_rfl
theorem tiC141 : tiChk Tryz.prog 141 ti141 = true := by kernel_rfl
theorem tiC143 : tiChk Tryz.prog 143 ti143 = true := by kernel_rfl
theorem tiC165 : tiChk Tryz.prog 165 ti165 = true := by kernel_rfl
theorem tiC172 : tiChk Tryz.prog 172 ti172 = true := by kernel_rfl
theorem tiC178 : tiChk Tryz.prog 178 ti178 = true := by kernel_rfl
theorem tiC186 : tiChk Tryz.prog 186 ti186 = true := by kernel_rfl
theorem tiC188 : tiChk Tryz.prog 188 ti188 = true := by kernel_rfl
theorem tiC189 : tiChk Tryz.prog 189 ti189 = true := by kernel_rfl
theorem tiC190 : tiChk Tryz.prog 190 ti190 = true := by kernel_rfl
theorem tiC192 : tiChk Tryz.prog 192 ti192 = true := by kernel_rfl
theorem tiC204 : tiChk Tryz.prog 204 ti204 = true := by kernel_rfl
theorem tiC207 : tiChk Tryz.prog 207 ti207 = true := by kernel_rfl
theorem tiC208 : tiChk Tryz.prog 208 ti208 = true := by kernel_rfl
theorem tiC218 : tiChk Tryz.prog 218 ti218 = true := by kernel_rfl
theorem tiC222 : tiChk Tryz.prog 222 ti222 = true := by kernel_rfl
theorem tiC231 : tiChk Tryz.prog 231 ti231 = true := by kernel_rfl
theorem tiC235 : tiChk Tryz.prog 235 ti235 = true := by kernel_rfl
theorem tiTab_ok : ∀ t i, tiTab t = some i → tiChk Tryz.prog t i = true := by
  intro t i h
  unfold tiTab at h
  split at h
  · cases h; exact tiC3
  · cases h; exact tiC4
  · cases h; exact tiC5
  · cases h; exact tiC9
  · cases h; exact tiC22
  · cases h; exact tiC23
  · cases h; exact tiC24
  · cases h; exact tiC26
  · cases h; exact tiC27
  · cases h; exact tiC28
  · cases h; exact tiC30
  · cases h; exact tiC31
  · cases h; exact tiC35
  · cases h; exact tiC40
  · cases h; exact tiC42
  · cases h; exact tiC45
  · cases h; exact tiC46
  · cases h; exact tiC48
  · cases h; exact tiC52
  · cases h; exact tiC60
  · cases h; exact tiC65
  · cases h; exact tiC71
  · cases h; exact tiC78
  · cases h; exact tiC85
  · cases h; exact tiC88
  · cases h; exact tiC92
  · cases h; exact tiC99
  · cases h; exact tiC105
  · cases h; exact tiC122
  · cases h; exact tiC125
  · cases h; exact tiC129
  · cases h; exact tiC131
  · cases h; exact tiC134
  · cases h; exact tiC141
  · cases h; exact tiC143
  · cases h; exact tiC165
  · cases h; exact tiC172
  · cases h; exact tiC178
  · cases h; exact tiC186
  · cases h; exact tiC188
  · cases h; exact tiC189
  · cases h; exact tiC190
  · cases h; exact tiC192
  · cases h; exact tiC204
  · cases h; exact tiC207
  · cases h; exact tiC208
  · cases h; exact tiC218
  · cases h; exact tiC222
  · cases h; exact tiC231
  · cases h; exact tiC235
  · cases h
/-- The machine of this translation. -/
noncomputable def E : X := ⟨Tryz.prog, tiTab, tiTab_ok, none⟩
@[simp] theorem E3 : E.ti 3 = some ti3 := rfl
@[simp] theorem aE3 (K : TI → Prop) : asTI E 3 K = K ti3 := rfl
@[simp] theorem E4 : E.ti 4 = some ti4 := rfl
@[simp] theorem aE4 (K : TI → Prop) : asTI E 4 K = K ti4 := rfl
@[simp] theorem E5 : E.ti 5 = some ti5 := rfl
@[simp] theorem aE5 (K : TI → Prop) : asTI E 5 K = K ti5 := rfl
@[simp] theorem E9 : E.ti 9 = some ti9 := rfl
@[simp] theorem aE9 (K : TI → Prop) : asTI E 9 K = K ti9 := rfl
@[simp] theorem E22 : E.ti 22 = some ti22 := rfl
@[simp] theorem aE22 (K : TI → Prop) : asTI E 22 K = K ti22 := rfl
@[simp] theorem E23 : E.ti 23 = some ti23 := rfl
@[simp] theorem aE23 (K : TI → Prop) : asTI E 23 K = K ti23 := rfl
@[simp] theorem E24 : E.ti 24 = some ti24 := rfl
@[simp] theorem aE24 (K : TI → Prop) : asTI E 24 K = K ti24 := rfl
@[simp] theorem E26 : E.ti 26 = some ti26 := rfl
@[simp] theorem aE26 (K : TI → Prop) : asTI E 26 K = K ti26 := rfl
@[simp] theorem E27 : E.ti 27 = some ti27 := rfl
@[simp] theorem aE27 (K : TI → Prop) : asTI E 27 K = K ti27 := rfl
@[simp] theorem E28 : E.ti 28 = some ti28 := rfl
@[simp] theorem aE28 (K : TI → Prop) : asTI E 28 K = K ti28 := rfl
@[simp] theorem E30 : E.ti 30 = some ti30 := rfl
@[simp] theorem aE30 (K : TI → Prop) : asTI E 30 K = K ti30 := rfl
@[simp] theorem E31 : E.ti 31 = some ti31 := rfl
@[simp] theorem aE31 (K : TI → Prop) : asTI E 31 K = K ti31 := rfl
@[simp] theorem E35 : E.ti 35 = some ti35 := rfl
@[simp] theorem aE35 (K : TI → Prop) : asTI E 35 K = K ti35 := rfl
@[simp] theorem E40 : E.ti 40 = some ti40 := rfl
@[simp] theorem aE40 (K : TI → Prop) : asTI E 40 K = K ti40 := rfl
@[simp] theorem E42 : E.ti 42 = some ti42 := rfl
@[simp] theorem aE42 (K : TI → Prop) : asTI E 42 K = K ti42 := rfl
@[simp] theorem E45 : E.ti 45 = some ti45 := rfl
@[simp] theorem aE45 (K : TI → Prop) : asTI E 45 K = K ti45 := rfl
@[simp] theorem E46 : E.ti 46 = some ti46 := rfl
@[simp] theorem aE46 (K : TI → Prop) : asTI E 46 K = K ti46 := rfl
@[simp] theorem E48 : E.ti 48 = some ti48 := rfl
@[simp] theorem aE48 (K : TI → Prop) : asTI E 48 K = K ti48 := rfl
@[simp] theorem E52 : E.ti 52 = some ti52 := rfl
@[simp] theorem aE52 (K : TI → Prop) : asTI E 52 K = K ti52 := rfl
@[simp] theorem E60 : E.ti 60 = some ti60 := rfl
@[simp] theorem aE60 (K : TI → Prop) : asTI E 60 K = K ti60 := rfl
@[simp] theorem E65 : E.ti 65 = some ti65 := rfl
@[simp] theorem aE65 (K : TI → Prop) : asTI E 65 K = K ti65 := rfl
@[simp] theorem E71 : E.ti 71 = some ti71 := rfl
@[simp] theorem aE71 (K : TI → Prop) : asTI E 71 K = K ti71 := rfl
@[simp] theorem E78 : E.ti 78 = some ti78 := rfl
@[simp] theorem aE78 (K : TI → Prop) : asTI E 78 K = K ti78 := rfl
@[simp] theorem E85 : E.ti 85 = some ti85 := rfl
@[simp] theorem aE85 (K : TI → Prop) : asTI E 85 K = K ti85 := rfl
@[simp] theorem E88 : E.ti 88 = some ti88 := rfl
@[simp] theorem aE88 (K : TI → Prop) : asTI E 88 K = K ti88 := rfl
@[simp] theorem E92 : E.ti 92 = some ti92 := rfl
@[simp] theorem aE92 (K : TI → Prop) : asTI E 92 K = K ti92 := rfl
@[simp] theorem E99 : E.ti 99 = some ti99 := rfl
@[simp] theorem aE99 (K : TI → Prop) : asTI E 99 K = K ti99 := rfl
@[simp] theorem E105 : E.ti 105 = some ti105 := rfl
@[simp] theorem aE105 (K : TI → Prop) : asTI E 105 K = K ti105 := rfl
@[simp] theorem E122 : E.ti 122 = some ti122 := rfl
@[simp] theorem aE122 (K : TI → Prop) : asTI E 122 K = K ti122 := rfl
@[simp] theorem E125 : E.ti 125 = some ti125 := rfl
@[simp] theorem aE125 (K : TI → Prop) : asTI E 125 K = K ti125 := rfl
@[simp] theorem E129 : E.ti 129 = some ti129 := rfl
@[simp] theorem aE129 (K : TI → Prop) : asTI E 129 K = K ti129 := rfl
@[simp] theorem E131 : E.ti 131 = some ti131 := rfl
@[simp] theorem aE131 (K : TI → Prop) : asTI E 131 K = K ti131 := rfl
@[simp] theorem E134 : E.ti 134 = some ti134 := rfl
@[simp] theorem aE134 (K : TI → Prop) : asTI E 134 K = K ti134 := rfl
@[simp] theorem E141 : E.ti 141 = some ti141 := rfl
@[simp] theorem aE141 (K : TI → Prop) : asTI E 141 K = K ti141 := rfl
@[simp] theorem E143 : E.ti 143 = some ti143 := rfl
@[simp] theorem aE143 (K : TI → Prop) : asTI E 143 K = K ti143 := rfl
@[simp] theorem E165 : E.ti 165 = some ti165 := rfl
@[simp] theorem aE165 (K : TI → Prop) : asTI E 165 K = K ti165 := rfl
@[simp] theorem E172 : E.ti 172 = some ti172 := rfl
@[simp] theorem aE172 (K : TI → Prop) : asTI E 172 K = K ti172 := rfl
@[simp] theorem E178 : E.ti 178 = some ti178 := rfl
@[simp] theorem aE178 (K : TI → Prop) : asTI E 178 K = K ti178 := rfl
@[simp] theorem E186 : E.ti 186 = some ti186 := rfl
@[simp] theorem aE186 (K : TI → Prop) : asTI E 186 K = K ti186 := rfl
@[simp] theorem E188 : E.ti 188 = some ti188 := rfl
@[simp] theorem aE188 (K : TI → Prop) : asTI E 188 K = K ti188 := rfl
@[simp] theorem E189 : E.ti 189 = some ti189 := rfl
@[simp] theorem aE189 (K : TI → Prop) : asTI E 189 K = K ti189 := rfl
@[simp] theorem E190 : E.ti 190 = some ti190 := rfl
@[simp] theorem aE190 (K : TI → Prop) : asTI E 190 K = K ti190 := rfl
@[simp] theorem E192 : E.ti 192 = some ti192 := rfl
@[simp] theorem aE192 (K : TI → Prop) : asTI E 192 K = K ti192 := rfl
@[simp] theorem E204 : E.ti 204 = some ti204 := rfl
@[simp] theorem aE204 (K : TI → Prop) : asTI E 204 K = K ti204 := rfl
@[simp] theorem E207 : E.ti 207 = some ti207 := rfl
@[simp] theorem aE207 (K : TI → Prop) : asTI E 207 K = K ti207 := rfl
@[simp] theorem E208 : E.ti 208 = some ti208 := rfl
@[simp] theorem aE208 (K : TI → Prop) : asTI E 208 K = K ti208 := rfl
@[simp] theorem E218 : E.ti 218 = some ti218 := rfl
@[simp] theorem aE218 (K : TI → Prop) : asTI E 218 K = K ti218 := rfl
@[simp] theorem E222 : E.ti 222 = some ti222 := rfl
@[simp] theorem aE222 (K : TI → Prop) : asTI E 222 K = K ti222 := rfl
@[simp] theorem E231 : E.ti 231 = some ti231 := rfl
@[simp] theorem aE231 (K : TI → Prop) : asTI E 231 K = K ti231 := rfl
@[simp] theorem E235 : E.ti 235 = some ti235 := rfl
@[simp] theorem aE235 (K : TI → Prop) : asTI E 235 K = K ti235 := rfl
end Go.Abs
/- How the shaft's values stand in the abstract machine. -/
set_option linter.unusedVariables false
set_option linter.unusedSimpArgs false
set_option maxRecDepth 100000
namespace Go.Abs
open Go.RowKit Go.Shaft Go.Proofs

abbrev I (n : Int) : AV := .int .i64 n
def eSp (s : Sp) : AV := .agg [I s.lo, I s.hi]
def eLd (l : Ld) : AV := .agg [I l.id, I l.hour, eSp l.w]
def eWg (l : Wg) : AV := .agg [I l.id, I l.kind, I l.frm, I l.to, eSp l.sum]
def eTie (l : Tie) : AV := .agg [I l.frm, I l.to, I l.most, I l.id]
def eInts (l : List Int) : AV := .lit 1 (l.map I)
def eTies (l : List Tie) : AV := .lit 4 (l.map eTie)
def eLds (l : List Ld) : AV := .lit 4 (l.map eLd)
def eWgs (l : List Wg) : AV := .lit 6 (l.map eWg)
def eKn (k : Kn) : AV := .agg [I k.room, I k.per, eLds k.loads, eLds k.draws, eWgs k.weighs]
def eTr (t : Tr) : AV := .agg [eInts t.loads, eInts t.draws]
def eCh (c : Ch) : AV := .agg [I c.most, eInts c.path, eTr c.tr]
/-- A result struct of the specification: a span, an error. -/
def eEnds (s : Sp) (e : Int) : AV := .agg [eSp s, I e]

theorem sub_nil (v : AV) : v.sub [] = some (v, 0) := by unfold AV.sub; cases v <;> rfl
attribute [simp] sub_nil
section
variable (p : Bool → Nat → Bool) (s : Sp) (l : Ld) (w : Wg) (t : Tie) (k : Kn) (tr : Tr) (c : Ch) (q : List Nat)
theorem oks_map {α : Type} (f : α → AV) (h : ∀ a, (f a).ok p = true) (l : List α) : AV.oks p (l.map f) = true := by
  rw [oks_eq]; simp [h]
@[simp] theorem eSp_ok : (eSp s).ok p = true := by simp [eSp, AV.ok, AV.oks]
@[simp] theorem eLd_ok : (eLd l).ok p = true := by simp [eLd, AV.ok, AV.oks, eSp_ok]
@[simp] theorem eWg_ok : (eWg w).ok p = true := by simp [eWg, AV.ok, AV.oks, eSp_ok]
@[simp] theorem eTie_ok : (eTie t).ok p = true := by simp [eTie, AV.ok, AV.oks]
@[simp] theorem eInts_ok (l : List Int) : (eInts l).ok p = true := by rw [eInts, AV.ok]; exact oks_map p _ (fun a => by rw [AV.ok]; all_goals simp) l
@[simp] theorem eTies_ok (l : List Tie) : (eTies l).ok p = true := by rw [eTies, AV.ok]; exact oks_map p _ (fun a => eTie_ok p a) l
@[simp] theorem eLds_ok (l : List Ld) : (eLds l).ok p = true := by rw [eLds, AV.ok]; exact oks_map p _ (fun a => eLd_ok p a) l
@[simp] theorem eWgs_ok (l : List Wg) : (eWgs l).ok p = true := by rw [eWgs, AV.ok]; exact oks_map p _ (fun a => eWg_ok p a) l
@[simp] theorem eKn_ok : (eKn k).ok p = true := by simp [eKn, AV.ok, AV.oks]
@[simp] theorem eTr_ok : (eTr tr).ok p = true := by simp [eTr, AV.ok, AV.oks]
@[simp] theorem eCh_ok : (eCh c).ok p = true := by simp [eCh, AV.ok, AV.oks]
@[simp] theorem eEnds_ok (e : Int) : (eEnds s e).ok p = true := by simp [eEnds, AV.ok, AV.oks]
@[simp] theorem oks_eLd (l : List Ld) : AV.oks p (l.map eLd) = true := oks_map p _ (fun a => eLd_ok p a) l
@[simp] theorem oks_eWg (l : List Wg) : AV.oks p (l.map eWg) = true := oks_map p _ (fun a => eWg_ok p a) l
@[simp] theorem oks_eTie (l : List Tie) : AV.oks p (l.map eTie) = true := oks_map p _ (fun a => eTie_ok p a) l
@[simp] theorem oks_I (l : List Int) : AV.oks p (l.map I) = true := oks_map p _ (fun a => by rw [AV.ok]; all_goals simp) l
end

@[simp] theorem eSp_solid (s : Sp) : (eSp s).solid = true := rfl
@[simp] theorem eLd_solid (s : Ld) : (eLd s).solid = true := rfl
@[simp] theorem eWg_solid (s : Wg) : (eWg s).solid = true := rfl
@[simp] theorem eTie_solid (s : Tie) : (eTie s).solid = true := rfl
@[simp] theorem eInts_solid (s : List Int) : (eInts s).solid = true := rfl
@[simp] theorem eTies_solid (s : List Tie) : (eTies s).solid = true := rfl
@[simp] theorem eLds_solid (s : List Ld) : (eLds s).solid = true := rfl
@[simp] theorem eWgs_solid (s : List Wg) : (eWgs s).solid = true := rfl
@[simp] theorem eKn_solid (s : Kn) : (eKn s).solid = true := rfl
@[simp] theorem eTr_solid (s : Tr) : (eTr s).solid = true := rfl
@[simp] theorem eCh_solid (s : Ch) : (eCh s).solid = true := rfl
@[simp] theorem eEnds_solid (s : Sp) (e : Int) : (eEnds s e).solid = true := rfl
@[simp] theorem eSp_agg (s : Sp) : (eSp s).isAgg = true := rfl
@[simp] theorem eLd_agg (s : Ld) : (eLd s).isAgg = true := rfl
@[simp] theorem eWg_agg (s : Wg) : (eWg s).isAgg = true := rfl
@[simp] theorem eTie_agg (s : Tie) : (eTie s).isAgg = true := rfl
@[simp] theorem eInts_agg (s : List Int) : (eInts s).isAgg = false := rfl
@[simp] theorem eTies_agg (s : List Tie) : (eTies s).isAgg = false := rfl
@[simp] theorem eLds_agg (s : List Ld) : (eLds s).isAgg = false := rfl
@[simp] theorem eWgs_agg (s : List Wg) : (eWgs s).isAgg = false := rfl
@[simp] theorem eKn_agg (s : Kn) : (eKn s).isAgg = true := rfl
@[simp] theorem eTr_agg (s : Tr) : (eTr s).isAgg = true := rfl
@[simp] theorem eCh_agg (s : Ch) : (eCh s).isAgg = true := rfl
@[simp] theorem eEnds_agg (s : Sp) (e : Int) : (eEnds s e).isAgg = true := rfl
@[simp] theorem eSp_size (s : Sp) : (eSp s).size = 2 := rfl
@[simp] theorem eLd_size (s : Ld) : (eLd s).size = 4 := rfl
@[simp] theorem eWg_size (s : Wg) : (eWg s).size = 6 := rfl
@[simp] theorem eTie_size (s : Tie) : (eTie s).size = 4 := rfl
@[simp] theorem eInts_size (s : List Int) : (eInts s).size = 1 := rfl
@[simp] theorem eTies_size (s : List Tie) : (eTies s).size = 1 := rfl
@[simp] theorem eLds_size (s : List Ld) : (eLds s).size = 1 := rfl
@[simp] theorem eWgs_size (s : List Wg) : (eWgs s).size = 1 := rfl
@[simp] theorem eKn_size (s : Kn) : (eKn s).size = 5 := rfl
@[simp] theorem eTr_size (s : Tr) : (eTr s).size = 2 := rfl
@[simp] theorem eCh_size (s : Ch) : (eCh s).size = 4 := rfl
@[simp] theorem eEnds_size (s : Sp) (e : Int) : (eEnds s e).size = 3 := rfl
@[simp] theorem eSp_notTup (s : Sp) : notTup (eSp s) = true := rfl
@[simp] theorem eLd_notTup (s : Ld) : notTup (eLd s) = true := rfl
@[simp] theorem eWg_notTup (s : Wg) : notTup (eWg s) = true := rfl
@[simp] theorem eTie_notTup (s : Tie) : notTup (eTie s) = true := rfl
@[simp] theorem eInts_notTup (s : List Int) : notTup (eInts s) = true := rfl
@[simp] theorem eTies_notTup (s : List Tie) : notTup (eTies s) = true := rfl
@[simp] theorem eLds_notTup (s : List Ld) : notTup (eLds s) = true := rfl
@[simp] theorem eWgs_notTup (s : List Wg) : notTup (eWgs s) = true := rfl
@[simp] theorem eKn_notTup (s : Kn) : notTup (eKn s) = true := rfl
@[simp] theorem eTr_notTup (s : Tr) : notTup (eTr s) = true := rfl
@[simp] theorem eCh_notTup (s : Ch) : notTup (eCh s) = true := rfl
@[simp] theorem eEnds_notTup (s : Sp) (e : Int) : notTup (eEnds s e) = true := rfl

section
variable (q : List Nat)
@[simp] theorem eSp_0 (s : Sp) : (eSp s).sub (0 :: q) = ((I s.lo).sub q).map fun r => (r.1, 0 + r.2) := rfl
@[simp] theorem eSp_1 (s : Sp) : (eSp s).sub (1 :: q) = ((I s.hi).sub q).map fun r => (r.1, 1 + r.2) := rfl
@[simp] theorem eLd_0 (s : Ld) : (eLd s).sub (0 :: q) = ((I s.id).sub q).map fun r => (r.1, 0 + r.2) := rfl
@[simp] theorem eLd_1 (s : Ld) : (eLd s).sub (1 :: q) = ((I s.hour).sub q).map fun r => (r.1, 1 + r.2) := rfl
@[simp] theorem eLd_2 (s : Ld) : (eLd s).sub (2 :: q) = ((eSp s.w).sub q).map fun r => (r.1, 2 + r.2) := rfl
@[simp] theorem eWg_0 (s : Wg) : (eWg s).sub (0 :: q) = ((I s.id).sub q).map fun r => (r.1, 0 + r.2) := rfl
@[simp] theorem eWg_1 (s : Wg) : (eWg s).sub (1 :: q) = ((I s.kind).sub q).map fun r => (r.1, 1 + r.2) := rfl
@[simp] theorem eWg_2 (s : Wg) : (eWg s).sub (2 :: q) = ((I s.frm).sub q).map fun r => (r.1, 2 + r.2) := rfl
@[simp] theorem eWg_3 (s : Wg) : (eWg s).sub (3 :: q) = ((I s.to).sub q).map fun r => (r.1, 3 + r.2) := rfl
@[simp] theorem eWg_4 (s : Wg) : (eWg s).sub (4 :: q) = ((eSp s.sum).sub q).map fun r => (r.1, 4 + r.2) := rfl
@[simp] theorem eTie_0 (s : Tie) : (eTie s).sub (0 :: q) = ((I s.frm).sub q).map fun r => (r.1, 0 + r.2) := rfl
@[simp] theorem eTie_1 (s : Tie) : (eTie s).sub (1 :: q) = ((I s.to).sub q).map fun r => (r.1, 1 + r.2) := rfl
@[simp] theorem eTie_2 (s : Tie) : (eTie s).sub (2 :: q) = ((I s.most).sub q).map fun r => (r.1, 2 + r.2) := rfl
@[simp] theorem eTie_3 (s : Tie) : (eTie s).sub (3 :: q) = ((I s.id).sub q).map fun r => (r.1, 3 + r.2) := rfl
@[simp] theorem eKn_0 (s : Kn) : (eKn s).sub (0 :: q) = ((I s.room).sub q).map fun r => (r.1, 0 + r.2) := rfl
@[simp] theorem eKn_1 (s : Kn) : (eKn s).sub (1 :: q) = ((I s.per).sub q).map fun r => (r.1, 1 + r.2) := rfl
@[simp] theorem eKn_2 (s : Kn) : (eKn s).sub (2 :: q) = ((eLds s.loads).sub q).map fun r => (r.1, 2 + r.2) := rfl
@[simp] theorem eKn_3 (s : Kn) : (eKn s).sub (3 :: q) = ((eLds s.draws).sub q).map fun r => (r.1, 3 + r.2) := rfl
@[simp] theorem eKn_4 (s : Kn) : (eKn s).sub (4 :: q) = ((eWgs s.weighs).sub q).map fun r => (r.1, 4 + r.2) := rfl
@[simp] theorem eTr_0 (s : Tr) : (eTr s).sub (0 :: q) = ((eInts s.loads).sub q).map fun r => (r.1, 0 + r.2) := rfl
@[simp] theorem eTr_1 (s : Tr) : (eTr s).sub (1 :: q) = ((eInts s.draws).sub q).map fun r => (r.1, 1 + r.2) := rfl
@[simp] theorem eCh_0 (s : Ch) : (eCh s).sub (0 :: q) = ((I s.most).sub q).map fun r => (r.1, 0 + r.2) := rfl
@[simp] theorem eCh_1 (s : Ch) : (eCh s).sub (1 :: q) = ((eInts s.path).sub q).map fun r => (r.1, 1 + r.2) := rfl
@[simp] theorem eCh_2 (s : Ch) : (eCh s).sub (2 :: q) = ((eTr s.tr).sub q).map fun r => (r.1, 2 + r.2) := rfl
@[simp] theorem eEnds_0 (s : Sp) (e : Int) : (eEnds s e).sub (0 :: q) = ((eSp s).sub q).map fun r => (r.1, 0 + r.2) := rfl
@[simp] theorem eEnds_1 (s : Sp) (e : Int) : (eEnds s e).sub (1 :: q) = ((I e).sub q).map fun r => (r.1, 2 + r.2) := rfl
end

@[simp] theorem lenV_eInts (l : List Int) : lenV (eInts l) = some l.length := by simp [eInts, lenV]
@[simp] theorem lenV_eTies (l : List Tie) : lenV (eTies l) = some l.length := by simp [eTies, lenV]
@[simp] theorem lenV_eLds (l : List Ld) : lenV (eLds l) = some l.length := by simp [eLds, lenV]
@[simp] theorem lenV_eWgs (l : List Wg) : lenV (eWgs l) = some l.length := by simp [eWgs, lenV]
@[simp] theorem elems_eInts (s : AS) (l : List Int) : s.elems 1 (eInts l) = some (l.map I) := by simp [eInts, AS.elems]
@[simp] theorem elems_eTies (s : AS) (l : List Tie) : s.elems 4 (eTies l) = some (l.map eTie) := by simp [eTies, AS.elems]
@[simp] theorem elems_eLds (s : AS) (l : List Ld) : s.elems 4 (eLds l) = some (l.map eLd) := by simp [eLds, AS.elems]
@[simp] theorem elems_eWgs (s : AS) (l : List Wg) : s.elems 6 (eWgs l) = some (l.map eWg) := by simp [eWgs, AS.elems]

section
variable (p : Bool → Nat → Bool)
@[simp] theorem ok_bool (b : Bool) : (AV.bool b).ok p = true := by rw [AV.ok]; all_goals simp
@[simp] theorem ok_int (k : IntKind) (n : Int) : (AV.int k n).ok p = true := by rw [AV.ok]; all_goals simp
@[simp] theorem ok_str (b : ByteArray) : (AV.str b).ok p = true := by rw [AV.ok]; all_goals simp
@[simp] theorem ok_any : AV.any.ok p = true := by rw [AV.ok]; all_goals simp
@[simp] theorem ok_nilS : AV.nilS.ok p = true := by rw [AV.ok]; all_goals simp
@[simp] theorem ok_nilP : AV.nilP.ok p = true := by rw [AV.ok]; all_goals simp
@[simp] theorem ok_nilF : AV.nilF.ok p = true := by rw [AV.ok]; all_goals simp
@[simp] theorem ok_agg (vs : List AV) : (AV.agg vs).ok p = AV.oks p vs := by rw [AV.ok]
@[simp] theorem ok_arr (sz : Nat) (vs : List AV) : (AV.arr sz vs).ok p = AV.oks p vs := by rw [AV.ok]
@[simp] theorem ok_lit (sz : Nat) (vs : List AV) : (AV.lit sz vs).ok p = AV.oks p vs := by rw [AV.ok]
@[simp] theorem ok_tup (vs : List AV) : (AV.tup vs).ok p = AV.oks p vs := by rw [AV.ok]
@[simp] theorem ok_own (sh : Bool) (j ver : Nat) : (AV.own sh j ver).ok p = p sh j := by rw [AV.ok]
@[simp] theorem ok_ref (sh : Bool) (j ver : Nat) (q : List Nat) (o : Nat) : (AV.ref sh j ver q o).ok p = p sh j := by rw [AV.ok]
@[simp] theorem ok_mapr (sh : Bool) (j : Nat) : (AV.mapr sh j).ok p = p sh j := by rw [AV.ok]
@[simp] theorem ok_yld (sh : Bool) (j : Nat) : (AV.yld sh j).ok p = p sh j := by rw [AV.ok]
@[simp] theorem ok_pin (v : AV) : (AV.pin v).ok p = v.ok p := by rw [AV.ok]
@[simp] theorem ok_func (f : Fn) (a b : List AV) : (AV.func f a b).ok p = (AV.oks p a && AV.oks p b) := by rw [AV.ok]
@[simp] theorem oks_nil' : AV.oks p [] = true := by rw [AV.oks]
@[simp] theorem oks_cons' (v : AV) (vs : List AV) : AV.oks p (v :: vs) = (v.ok p && AV.oks p vs) := by rw [AV.oks]
@[simp] theorem oks_append' (us vs : List AV) : AV.oks p (us ++ vs) = (AV.oks p us && AV.oks p vs) := by
  induction us with
  | nil => simp
  | cons u us ih => simp [ih, Bool.and_assoc]
end
@[simp] theorem pl_false (n j : Nat) : pl n false j = decide (j < n) := by simp [pl]
@[simp] theorem pl_true (n j : Nat) : pl n true j = true := by simp [pl]
@[simp] theorem pm_false (n j : Nat) : pm n false j = false := by simp [pm]
@[simp] theorem pm_true (n j : Nat) : pm n true j = decide (j < n) := by simp [pm]
@[simp] theorem shd_t (j : Nat) : shd true j = true := rfl
@[simp] theorem shd_f (j : Nat) : shd false j = false := rfl
attribute [simp] Is cutOK AS.cut
section
variable (p : Bool → Nat → Bool)
@[simp] theorem aok_dead : AO.dead.ok p = true := rfl
@[simp] theorem aok_cell (v : AV) : (AO.cell v).ok p = v.ok p := rfl
@[simp] theorem aok_row (sz : Nat) (vs : List AV) : (AO.row sz vs).ok p = AV.oks p vs := rfl
@[simp] theorem aok_frow (sz : Nat) (vs : List AV) : (AO.frow sz vs).ok p = AV.oks p vs := rfl
@[simp] theorem aok_xrow (sz : Nat) (vs : List AV) : (AO.xrow sz vs).ok p = AV.oks p vs := rfl
@[simp] theorem aok_fwd (j : Nat) : (AO.fwd j).ok p = p true j := rfl
@[simp] theorem aok_mp (kvs : List (Value × Value)) : (AO.mp kvs).ok p = true := rfl
@[simp] theorem aok_lrec (r : LRec) : (AO.lrec r).ok p = r.t.all (fun q => q.2.ok p) := rfl
end
@[simp] theorem sol_bool (b : Bool) : AV.solid (.bool b) = true := rfl
@[simp] theorem nt_bool (b : Bool) : notTup (.bool b) = true := rfl
@[simp] theorem ag_bool (b : Bool) : AV.isAgg (.bool b) = false := rfl
@[simp] theorem sol_int (k : IntKind) (n : Int) : AV.solid (.int k n) = true := rfl
@[simp] theorem nt_int (k : IntKind) (n : Int) : notTup (.int k n) = true := rfl
@[simp] theorem ag_int (k : IntKind) (n : Int) : AV.isAgg (.int k n) = false := rfl
@[simp] theorem sol_str (b : ByteArray) : AV.solid (.str b) = true := rfl
@[simp] theorem nt_str (b : ByteArray) : notTup (.str b) = true := rfl
@[simp] theorem ag_str (b : ByteArray) : AV.isAgg (.str b) = false := rfl
@[simp] theorem sol_agg (vs : List AV) : AV.solid (.agg vs) = true := rfl
@[simp] theorem nt_agg (vs : List AV) : notTup (.agg vs) = true := rfl
@[simp] theorem ag_agg (vs : List AV) : AV.isAgg (.agg vs) = true := rfl
@[simp] theorem sol_arr (n : Nat) (vs : List AV) : AV.solid (.arr n vs) = true := rfl
@[simp] theorem nt_arr (n : Nat) (vs : List AV) : notTup (.arr n vs) = true := rfl
@[simp] theorem ag_arr (n : Nat) (vs : List AV) : AV.isAgg (.arr n vs) = true := rfl
@[simp] theorem sol_lit (n : Nat) (vs : List AV) : AV.solid (.lit n vs) = true := rfl
@[simp] theorem nt_lit (n : Nat) (vs : List AV) : notTup (.lit n vs) = true := rfl
@[simp] theorem ag_lit (n : Nat) (vs : List AV) : AV.isAgg (.lit n vs) = false := rfl
@[simp] theorem sol_nilS : AV.solid (.nilS) = true := rfl
@[simp] theorem nt_nilS : notTup (.nilS) = true := rfl
@[simp] theorem ag_nilS : AV.isAgg (.nilS) = false := rfl
@[simp] theorem sol_own (sh : Bool) (j v : Nat) : AV.solid (.own sh j v) = true := rfl
@[simp] theorem nt_own (sh : Bool) (j v : Nat) : notTup (.own sh j v) = true := rfl
@[simp] theorem ag_own (sh : Bool) (j v : Nat) : AV.isAgg (.own sh j v) = false := rfl
@[simp] theorem sol_pin (v : AV) : AV.solid (.pin v) = true := rfl
@[simp] theorem nt_pin (v : AV) : notTup (.pin v) = true := rfl
@[simp] theorem ag_pin (v : AV) : AV.isAgg (.pin v) = false := rfl
@[simp] theorem sol_nilP : AV.solid (.nilP) = true := rfl
@[simp] theorem nt_nilP : notTup (.nilP) = true := rfl
@[simp] theorem ag_nilP : AV.isAgg (.nilP) = false := rfl
@[simp] theorem sol_ref (sh : Bool) (j v : Nat) (p : List Nat) (o : Nat) : AV.solid (.ref sh j v p o) = true := rfl
@[simp] theorem nt_ref (sh : Bool) (j v : Nat) (p : List Nat) (o : Nat) : notTup (.ref sh j v p o) = true := rfl
@[simp] theorem ag_ref (sh : Bool) (j v : Nat) (p : List Nat) (o : Nat) : AV.isAgg (.ref sh j v p o) = false := rfl
@[simp] theorem sol_func (f : Fn) (a b : List AV) : AV.solid (.func f a b) = true := rfl
@[simp] theorem nt_func (f : Fn) (a b : List AV) : notTup (.func f a b) = true := rfl
@[simp] theorem ag_func (f : Fn) (a b : List AV) : AV.isAgg (.func f a b) = false := rfl
@[simp] theorem sol_nilF : AV.solid (.nilF) = true := rfl
@[simp] theorem nt_nilF : notTup (.nilF) = true := rfl
@[simp] theorem ag_nilF : AV.isAgg (.nilF) = false := rfl
@[simp] theorem sol_mapr (sh : Bool) (j : Nat) : AV.solid (.mapr sh j) = true := rfl
@[simp] theorem nt_mapr (sh : Bool) (j : Nat) : notTup (.mapr sh j) = true := rfl
@[simp] theorem ag_mapr (sh : Bool) (j : Nat) : AV.isAgg (.mapr sh j) = false := rfl
@[simp] theorem sol_nilM : AV.solid (.nilM) = true := rfl
@[simp] theorem nt_nilM : notTup (.nilM) = true := rfl
@[simp] theorem ag_nilM : AV.isAgg (.nilM) = false := rfl
@[simp] theorem sol_yld (sh : Bool) (j : Nat) : AV.solid (.yld sh j) = true := rfl
@[simp] theorem nt_yld (sh : Bool) (j : Nat) : notTup (.yld sh j) = true := rfl
@[simp] theorem ag_yld (sh : Bool) (j : Nat) : AV.isAgg (.yld sh j) = false := rfl
@[simp] theorem nt_tup (vs : List AV) : notTup (.tup vs) = false := rfl
@[simp] theorem nt_any : notTup .any = true := rfl
@[simp] theorem len_lit (n : Nat) (vs : List AV) : lenV (.lit n vs) = some vs.length := rfl
@[simp] theorem len_nilS : lenV .nilS = some 0 := rfl
@[simp] theorem len_own (sh : Bool) (j v : Nat) : lenV (.own sh j v) = some v := rfl
@[simp] theorem els_lit (s : AS) (sz sz' : Nat) (vs : List AV) : s.elems sz (.lit sz' vs) = if sz' = sz then some vs else none := rfl
@[simp] theorem els_nilS (s : AS) (sz : Nat) : s.elems sz .nilS = some [] := rfl
theorem els_own (s : AS) (sz : Nat) (sh : Bool) (j ver : Nat) : s.elems sz (.own sh j ver) = (match (s.mem sh)[j]? with
    | some (.row sz' vs) => if sz' = sz ∧ vs.length = ver then some vs else none
    | some (.frow sz' vs) => if sz' = sz ∧ vs.length = ver then some vs else none
    | some (.xrow sz' vs) => if sz' = sz ∧ vs.length = ver then some vs else none
    | _ => none) := rfl
attribute [simp] els_own
@[simp] theorem bin_int (op : BinOp) (k k' : IntKind) (a b : Int) : binV op (.int k a) (.int k' b) = if k = k' then intBin op k a b else none := rfl
@[simp] theorem bin_str (op : BinOp) (a b : ByteArray) : binV op (.str a) (.str b) = strBin op a b := rfl
@[simp] theorem bin_bool (op : BinOp) (a : Bool) (b : AV) : binV op (.bool a) b = none := rfl
@[simp] theorem bin_nilS (op : BinOp) (b : AV) : binV op .nilS b = none := rfl
@[simp] theorem bin_lit (op : BinOp) (n : Nat) (a : List AV) (b : AV) : binV op (.lit n a) b = none := rfl
@[simp] theorem bin_agg (op : BinOp) (a : List AV) (b : AV) : binV op (.agg a) b = none := rfl

theorem pure_out {v : AV} (h : v.ok (fun _ _ => false) = true) (js : List Nat) (n m : Nat) : v.locs m = [] ∧ v.outR js n m = some v := by
  have hm : ∀ u : AV, u.ok (fun _ _ => false) = true → u.ok (pm m) = true := fun u hu => ok_mono (fun _ _ h => by cases h) u hu
  have hl : ∀ vs : List AV, AV.oks (fun _ _ => false) vs = true → AV.locsL m vs = [] ∧ AV.outRs js n m vs = some vs := by
    intro vs
    induction vs with
    | nil => intro _; exact ⟨by rw [AV.locsL], by rw [AV.outRs]⟩
    | cons v vs ih =>
      intro h
      rw [oks_cons', Bool.and_eq_true] at h
      obtain ⟨i1, i2⟩ := ih h.2
      rw [AV.locsL, AV.outRs, if_pos (hm v h.1), if_pos (hm v h.1), i1, i2]
      exact ⟨rfl, rfl⟩
  cases v with
  | agg vs =>
    rw [ok_agg] at h
    obtain ⟨i1, i2⟩ := hl vs h
    rw [AV.locs, AV.outR, i1, i2]
    exact ⟨rfl, rfl⟩
  | tup vs =>
    rw [ok_tup] at h
    obtain ⟨i1, i2⟩ := hl vs h
    rw [AV.locs, AV.outR, i1, i2]
    exact ⟨rfl, rfl⟩
  | own sh j ver => rw [ok_own] at h; cases h
  | _ =>
    refine ⟨by rw [AV.locs]; all_goals simp, ?_⟩
    rw [AV.outR, if_pos (hm _ h)]
    all_goals simp
@[simp] theorem loc_eSp (a : Sp) (m : Nat) : (eSp a).locs m = [] := (pure_out (by simp) [] 0 m).1
@[simp] theorem out_eSp (a : Sp) (js : List Nat) (n m : Nat) : (eSp a).outR js n m = some (eSp a) := (pure_out (by simp) js n m).2
@[simp] theorem loc_eLd (a : Ld) (m : Nat) : (eLd a).locs m = [] := (pure_out (by simp) [] 0 m).1
@[simp] theorem out_eLd (a : Ld) (js : List Nat) (n m : Nat) : (eLd a).outR js n m = some (eLd a) := (pure_out (by simp) js n m).2
@[simp] theorem loc_eWg (a : Wg) (m : Nat) : (eWg a).locs m = [] := (pure_out (by simp) [] 0 m).1
@[simp] theorem out_eWg (a : Wg) (js : List Nat) (n m : Nat) : (eWg a).outR js n m = some (eWg a) := (pure_out (by simp) js n m).2
@[simp] theorem loc_eTie (a : Tie) (m : Nat) : (eTie a).locs m = [] := (pure_out (by simp) [] 0 m).1
@[simp] theorem out_eTie (a : Tie) (js : List Nat) (n m : Nat) : (eTie a).outR js n m = some (eTie a) := (pure_out (by simp) js n m).2
@[simp] theorem loc_eInts (a : List Int) (m : Nat) : (eInts a).locs m = [] := (pure_out (by simp) [] 0 m).1
@[simp] theorem out_eInts (a : List Int) (js : List Nat) (n m : Nat) : (eInts a).outR js n m = some (eInts a) := (pure_out (by simp) js n m).2
@[simp] theorem loc_eTies (a : List Tie) (m : Nat) : (eTies a).locs m = [] := (pure_out (by simp) [] 0 m).1
@[simp] theorem out_eTies (a : List Tie) (js : List Nat) (n m : Nat) : (eTies a).outR js n m = some (eTies a) := (pure_out (by simp) js n m).2
@[simp] theorem loc_eLds (a : List Ld) (m : Nat) : (eLds a).locs m = [] := (pure_out (by simp) [] 0 m).1
@[simp] theorem out_eLds (a : List Ld) (js : List Nat) (n m : Nat) : (eLds a).outR js n m = some (eLds a) := (pure_out (by simp) js n m).2
@[simp] theorem loc_eWgs (a : List Wg) (m : Nat) : (eWgs a).locs m = [] := (pure_out (by simp) [] 0 m).1
@[simp] theorem out_eWgs (a : List Wg) (js : List Nat) (n m : Nat) : (eWgs a).outR js n m = some (eWgs a) := (pure_out (by simp) js n m).2
@[simp] theorem loc_eKn (a : Kn) (m : Nat) : (eKn a).locs m = [] := (pure_out (by simp) [] 0 m).1
@[simp] theorem out_eKn (a : Kn) (js : List Nat) (n m : Nat) : (eKn a).outR js n m = some (eKn a) := (pure_out (by simp) js n m).2
@[simp] theorem loc_eTr (a : Tr) (m : Nat) : (eTr a).locs m = [] := (pure_out (by simp) [] 0 m).1
@[simp] theorem out_eTr (a : Tr) (js : List Nat) (n m : Nat) : (eTr a).outR js n m = some (eTr a) := (pure_out (by simp) js n m).2
@[simp] theorem loc_eCh (a : Ch) (m : Nat) : (eCh a).locs m = [] := (pure_out (by simp) [] 0 m).1
@[simp] theorem out_eCh (a : Ch) (js : List Nat) (n m : Nat) : (eCh a).outR js n m = some (eCh a) := (pure_out (by simp) js n m).2
@[simp] theorem loc_eEnds (a : Sp) (b : Int) (m : Nat) : (eEnds a b).locs m = [] := (pure_out (by simp) [] 0 m).1
@[simp] theorem out_eEnds (a : Sp) (b : Int) (js : List Nat) (n m : Nat) : (eEnds a b).outR js n m = some (eEnds a b) := (pure_out (by simp) js n m).2
attribute [simp] AV.locsL AV.outRs
/-- Indexing what is frozen. -/
theorem got_map {α β : Type} (o : Option α) (f : α → β) (K : β → Prop) : got (o.map f) K = got o (fun a => K (f a)) := by cases o <;> rfl
section
variable (s : AS) (e : Nat) (z : AV) (a b : Nat) (k : IntKind) (n : Int) (K : AV → AS → Prop) (K1 : AV → Prop) (lo hi : Option Operand)
theorem pIx_I (l : List Int) : pIndexAddr s ⟨.slice 1 e, a, b, z⟩ (eInts l) (.int k n) K = (0 ≤ n ∧ got l[n.toNat]? fun u => K (.pin (I u)) s) := by
  rw [eInts, pIx_lit, List.getElem?_map, got_map]; simp only [true_and]
theorem pIx_T (l : List Tie) : pIndexAddr s ⟨.slice 4 e, a, b, z⟩ (eTies l) (.int k n) K = (0 ≤ n ∧ got l[n.toNat]? fun u => K (.pin (eTie u)) s) := by
  rw [eTies, pIx_lit, List.getElem?_map, got_map]; simp only [true_and]
theorem pIx_L (l : List Ld) : pIndexAddr s ⟨.slice 4 e, a, b, z⟩ (eLds l) (.int k n) K = (0 ≤ n ∧ got l[n.toNat]? fun u => K (.pin (eLd u)) s) := by
  rw [eLds, pIx_lit, List.getElem?_map, got_map]; simp only [true_and]
theorem pIx_W (l : List Wg) : pIndexAddr s ⟨.slice 6 e, a, b, z⟩ (eWgs l) (.int k n) K = (0 ≤ n ∧ got l[n.toNat]? fun u => K (.pin (eWg u)) s) := by
  rw [eWgs, pIx_lit, List.getElem?_map, got_map]; simp only [true_and]
theorem pSl_I (l : List Int) : pSlice s ⟨.slice 1 e, a, b, z⟩ (eInts l) lo hi K1 = (got (bnd s 0 lo) fun x => got (bnd s l.length hi) fun h => x ≤ h ∧ h ≤ l.length ∧ K1 (eInts ((l.take h).drop x))) := by
  rw [eInts, pSlice_lit, List.length_map]; simp only [true_and, ← List.map_take, ← List.map_drop]; rfl
end
attribute [simp] pIx_I pIx_T pIx_L pIx_W pSl_I
@[simp] theorem binV_eSp (op : BinOp) (s : Sp) (b : AV) : binV op (eSp s) b = none := by cases b <;> rfl
@[simp] theorem binV_eLd (op : BinOp) (s : Ld) (b : AV) : binV op (eLd s) b = none := by cases b <;> rfl
@[simp] theorem binV_eWg (op : BinOp) (s : Wg) (b : AV) : binV op (eWg s) b = none := by cases b <;> rfl
@[simp] theorem binV_eTie (op : BinOp) (s : Tie) (b : AV) : binV op (eTie s) b = none := by cases b <;> rfl
@[simp] theorem flat_eSp (s : Sp) : (eSp s).flatI = some [(.i64, s.lo), (.i64, s.hi)] := rfl
@[simp] theorem flat_eLd (s : Ld) : (eLd s).flatI = some [(.i64, s.id), (.i64, s.hour), (.i64, s.w.lo), (.i64, s.w.hi)] := rfl
@[simp] theorem flat_eWg (s : Wg) : (eWg s).flatI = some [(.i64, s.id), (.i64, s.kind), (.i64, s.frm), (.i64, s.to), (.i64, s.sum.lo), (.i64, s.sum.hi)] := rfl
@[simp] theorem flat_eTie (s : Tie) : (eTie s).flatI = some [(.i64, s.frm), (.i64, s.to), (.i64, s.most), (.i64, s.id)] := rfl

theorem wrap_id {n : Int} (h1 : -9223372036854775808 ≤ n) (h2 : n < 9223372036854775808) : IntKind.i64.wrap n = n := by
  simp only [IntKind.wrap, IntKind.bits, IntKind.signed]
  simp
  split <;> omega

theorem Efol : E.P.follows .mixedOrders = true := by kernel_rfl
attribute [simp] ti3 ti4 ti5 ti9 ti22 ti23 ti24 ti26 ti27 ti28 ti30 ti31 ti35 ti40 ti42 ti45 ti46 ti48 ti52 ti60 ti65 ti71 ti78 ti85 ti88 ti92 ti99 ti105 ti122 ti125 ti129 ti131 ti134 ti141 ti143 ti165 ti172 ti178 ti186 ti188 ti189 ti190 ti192 ti204 ti207 ti208 ti218 ti222 ti231 ti235
@[simp] theorem pk26 : placesOK [⟨0, 1, false⟩, ⟨1, 1, false⟩, ⟨2, 1, false⟩, ⟨3, 1, false⟩, ⟨4, 1, false⟩] [.int .i64 0, .int .i64 0, .nilS, .nilS, .nilS] = true := rfl
@[simp] theorem pk30 : placesOK [⟨0, 1, false⟩, ⟨1, 1, false⟩] [.int .i64 0, .int .i64 0] = true := rfl
@[simp] theorem pk35 : placesOK [⟨0, 2, true⟩, ⟨2, 1, false⟩] [.agg [.int .i64 0, .int .i64 0], .int .i64 0] = true := rfl
@[simp] theorem pk42 : placesOK [⟨0, 1, false⟩, ⟨1, 1, false⟩, ⟨2, 2, true⟩] [.int .i64 0, .int .i64 0, .agg [.int .i64 0, .int .i64 0]] = true := rfl
@[simp] theorem pk45 : placesOK [⟨0, 1, false⟩, ⟨1, 1, false⟩, ⟨2, 1, false⟩, ⟨3, 1, false⟩, ⟨4, 2, true⟩] [.int .i64 0, .int .i64 0, .int .i64 0, .int .i64 0, .agg [.int .i64 0, .int .i64 0]] = true := rfl
@[simp] theorem pk48 : placesOK [⟨0, 1, false⟩, ⟨1, 1, false⟩] [.nilS, .nilS] = true := rfl
@[simp] theorem pk52 : placesOK [⟨0, 1, false⟩, ⟨1, 1, false⟩, ⟨2, 2, true⟩] [.int .i64 0, .int .i64 0, .agg [.int .i64 0, .int .i64 0]] = true := rfl
@[simp] theorem pk60 : placesOK [⟨0, 1, false⟩, ⟨1, 1, false⟩, ⟨2, 1, false⟩] [.int .i64 0, .bool false, .int .i64 0] = true := rfl
@[simp] theorem pk65 : placesOK [⟨0, 1, false⟩, ⟨1, 1, false⟩, ⟨2, 1, false⟩] [.nilS, .nilS, .int .i64 0] = true := rfl
@[simp] theorem pk71 : placesOK [⟨0, 1, false⟩, ⟨1, 1, false⟩] [.nilS, .int .i64 0] = true := rfl
@[simp] theorem pk78 : placesOK [⟨0, 5, true⟩, ⟨5, 1, false⟩] [.agg [.int .i64 0, .int .i64 0, .nilS, .nilS, .nilS], .int .i64 0] = true := rfl
@[simp] theorem pk85 : placesOK [⟨0, 1, false⟩, ⟨1, 1, false⟩, ⟨2, 2, true⟩] [.int .i64 0, .nilS, .agg [.nilS, .nilS]] = true := rfl
@[simp] theorem pk92 : placesOK [⟨0, 1, false⟩, ⟨1, 1, false⟩, ⟨2, 1, false⟩, ⟨3, 1, false⟩] [.int .i64 0, .int .i64 0, .int .i64 0, .int .i64 0] = true := rfl
@[simp] theorem pk99 : placesOK [⟨0, 1, false⟩, ⟨1, 1, false⟩] [.nilS, .int .i64 0] = true := rfl
@[simp] theorem pk134 : placesOK [⟨0, 1, false⟩, ⟨1, 1, false⟩] [.int .i64 0, .nilS] = true := rfl
@[simp] theorem pk143 : placesOK [⟨0, 1, false⟩, ⟨1, 1, false⟩, ⟨2, 1, false⟩, ⟨3, 1, false⟩] [.int .i64 0, .int .i64 0, .int .i64 0, .int .i64 0] = true := rfl
end Go.Abs
/- Shared objects that are added; function values. -/
set_option linter.unusedVariables false
set_option linter.unusedSimpArgs false
namespace Go.Abs
open Go.RowKit Go.Shaft
theorem okH_push {H : List AO} {o : AO} (h : okH H) (ho : o.ok (pm (H.length + 1)) = true) : okH (H ++ [o]) := by
  intro q hq
  simp only [List.length_append, List.length_cons, List.length_nil, Nat.zero_add]
  rw [List.mem_append, List.mem_singleton] at hq
  have mono : ∀ (o : AO), o.ok (pm H.length) = true → o.ok (pm (H.length + 1)) = true := by
    intro o this
    have hm : ∀ sh j, pm H.length sh j = true → pm (H.length + 1) sh j = true := by
      intro sh j h
      simp only [pm, Bool.and_eq_true, decide_eq_true_eq] at h ⊢
      exact ⟨h.1, by omega⟩
    cases o with
    | dead => rfl
    | fwd j => exact hm _ _ this
    | mp kvs => rfl
    | lrec r =>
      simp only [AO.ok, LRec.ok, List.all_eq_true] at this ⊢
      exact fun q hq => ok_mono hm _ (this q hq)
    | cell v => exact ok_mono hm v this
    | row sz vs => exact oks_mono hm vs this
    | frow sz vs => exact oks_mono hm vs this
    | xrow sz vs => exact oks_mono hm vs this
  rcases hq with hq | rfl
  · exact mono q (h q hq)
  · exact ho
theorem ACall.of_is {x : X} {f : FuncId} {vs : List AV} {n : Nat} {H H' : List AO} {r : AV} {R : List AO} {Q : AV → List AO → List AO → Prop} (h : ACall x f vs n H (Is r R H')) (hq : Q r R H') : ACall x f vs n H Q := h.use hq
theorem DCall.of_is {x : X} {f : FuncId} {vs : List AV} {H : List AO} {r : AV} {K : AV → Prop} (h : ∀ n, ACall x f vs n H (Is r [] H)) (hq : K r) : DCall x f vs H K := ⟨r, h, hq⟩
theorem TCall.of_is {x : X} {f : FuncId} {vs : List AV} {n : Nat} {H H' : List AO} {r : AV} {R : List AO} {K : AV → List AO → List AO → Prop} (h : ACall x f vs n H (Is r R H')) (hq : K r R H') : TCall x f vs n H K := ⟨r, R, H', h, hq⟩
@[simp] theorem get_len (H l : List AO) : (H ++ l)[H.length]? = l[0]? := by rw [List.getElem?_append_right (Nat.le_refl _), Nat.sub_self]
@[simp] theorem get_len1 (H l : List AO) (i : Nat) : (H ++ l)[H.length + i]? = l[i]? := by rw [List.getElem?_append_right (by omega), Nat.add_sub_cancel_left]
@[simp] theorem set_len (H l : List AO) (o : AO) : (H ++ l).set H.length o = H ++ l.set 0 o := by rw [List.set_append_right _ _ (Nat.le_refl _), Nat.sub_self]
@[simp] theorem set_len1 (H l : List AO) (i : Nat) (o : AO) : (H ++ l).set (H.length + i) o = H ++ l.set i o := by rw [List.set_append_right _ _ (by omega), Nat.add_sub_cancel_left]
theorem okH_set {H : List AO} {j : Nat} {o : AO} (h : okH H) (ho : o.ok (pm H.length) = true) : okH (H.set j o) := by
  intro q hq
  rw [List.length_set]
  rcases List.mem_or_eq_of_mem_set hq with hq | rfl
  · exact h q hq
  · exact ho
theorem set_same {α : Type} {l : List α} {j : Nat} {a : α} (h : l[j]? = some a) : l.set j a = l := by
  have hj := (List.getElem?_eq_some_iff.1 h)
  obtain ⟨h1, h2⟩ := hj
  rw [← h2, List.set_getElem_self]
theorem pm_pl {m n : Nat} (sh : Bool) (j : Nat) (h : pm m sh j = true) : pl n sh j = true := by
  simp only [pm, Bool.and_eq_true] at h
  simp [pl, h.1]
theorem ok_pm_pl {m n : Nat} {o : AO} (h : o.ok (pm m) = true) : o.ok (pl n) = true := by
  cases o with
  | dead => rfl
  | fwd j => exact pm_pl _ _ h
  | mp kvs => rfl
  | lrec r =>
    simp only [AO.ok, LRec.ok, List.all_eq_true] at h ⊢
    exact fun q hq => ok_mono pm_pl _ (h q hq)
  | cell v => exact ok_mono pm_pl v h
  | row sz vs => exact oks_mono pm_pl vs h
  | frow sz vs => exact oks_mono pm_pl vs h
  | xrow sz vs => exact oks_mono pm_pl vs h
theorem okH_pl {H : List AO} (h : okH H) (n : Nat) : ∀ o ∈ H, o.ok (pl n) = true := fun o ho => ok_pm_pl (h o ho)
mutual
theorem mvV_id {j k : Nat} : ∀ (v : AV), v.ok shd = true → mvV j k v = v
  | .own false i ver, h => by rw [ok_own] at h; cases h
  | .mapr false i, h => by rw [ok_mapr] at h; cases h
  | .ref false i ver p off, h => by rw [ok_ref] at h; cases h
  | .agg vs, h => by rw [mvV, mvVs_id vs (by rw [ok_agg] at h; exact h)]
  | .own true i ver, h => by rw [mvV]; all_goals simp
  | .mapr true i, h => by rw [mvV]; all_goals simp
  | .ref true i ver p off, h => by rw [mvV]; all_goals simp
  | .any, h => by rw [mvV]; all_goals simp
  | .bool _, h => by rw [mvV]; all_goals simp
  | .int _ _, h => by rw [mvV]; all_goals simp
  | .str _, h => by rw [mvV]; all_goals simp
  | .arr _ _, h => by rw [mvV]; all_goals simp
  | .lit _ _, h => by rw [mvV]; all_goals simp
  | .nilS, h => by rw [mvV]; all_goals simp
  | .pin _, h => by rw [mvV]; all_goals simp
  | .nilP, h => by rw [mvV]; all_goals simp
  | .func _ _ _, h => by rw [mvV]; all_goals simp
  | .nilF, h => by rw [mvV]; all_goals simp
  | .nilM, h => by rw [mvV]; all_goals simp
  | .iface _ _, h => by rw [mvV]; all_goals simp
  | .nilI, h => by rw [mvV]; all_goals simp
  | .tup _, h => by rw [mvV]; all_goals simp
  | .yld _ _, h => by rw [mvV]; all_goals simp
  | .win _ _ _ _ _, h => by rw [AV.ok] at h; cases h
theorem mvVs_id {j k : Nat} : ∀ (vs : List AV), AV.oks shd vs = true → mvVs j k vs = vs
  | [], _ => by rw [mvVs]
  | v :: vs, h => by
    rw [oks_cons', Bool.and_eq_true] at h
    rw [mvVs, mvV_id v h.1, mvVs_id vs h.2]
end
theorem mvO_map {H : List AO} (h : okH H) (j k : Nat) : H.map (mvO j k) = H := by
  have hs := okH_shd h
  clear h
  induction H with
  | nil => rfl
  | cons o H ih =>
    rw [List.map_cons, ih (fun q hq => hs q (List.mem_cons_of_mem _ hq))]
    congr 1
    have := hs o List.mem_cons_self
    cases o with
    | cell v => simp only [mvO]; rw [mvV_id v this]
    | _ => rfl
theorem mvV_int (j k : Nat) (c : IntKind) (n : Int) : mvV j k (.int c n) = .int c n := mvV_id _ (by simp)
theorem mvV_bool (j k : Nat) (b : Bool) : mvV j k (.bool b) = .bool b := mvV_id _ (by simp)
theorem mvV_nilS (j k : Nat) : mvV j k .nilS = .nilS := mvV_id _ (by simp)
theorem mvV_any (j k : Nat) : mvV j k .any = .any := mvV_id _ (by simp)
theorem mvV_own (j k i v : Nat) : mvV j k (.own false i v) = if i = j then .own true k v else .own false i v := by rw [mvV]
theorem mvV_mapr (j k i : Nat) : mvV j k (.mapr false i) = if i = j then .mapr true k else .mapr false i := by rw [mvV]
theorem mvV_ref (j k i v : Nat) (p : List Nat) (o : Nat) : mvV j k (.ref false i v p o) = if i = j then .ref true k v p o else .ref false i v p o := by rw [mvV]
theorem mvV_eKn (j k : Nat) (a : Kn) : mvV j k (eKn a) = eKn a := mvV_id _ (by simp)
theorem mvV_eTie (j k : Nat) (a : Tie) : mvV j k (eTie a) = eTie a := mvV_id _ (by simp)
theorem mvV_eLd (j k : Nat) (a : Ld) : mvV j k (eLd a) = eLd a := mvV_id _ (by simp)
theorem mvV_eWg (j k : Nat) (a : Wg) : mvV j k (eWg a) = eWg a := mvV_id _ (by simp)
theorem mvV_eInts (j k : Nat) (a : List Int) : mvV j k (eInts a) = eInts a := mvV_id _ (by simp)
attribute [simp] mvV_int mvV_bool mvV_nilS mvV_any mvV_own mvV_mapr mvV_ref mvV_eKn mvV_eTie mvV_eLd mvV_eWg mvV_eInts mvO AS.share
end Go.Abs
/- The map of IDs; shared objects that are turned. -/
set_option linter.unusedVariables false
set_option linter.unusedSimpArgs false
set_option maxRecDepth 100000
namespace Go.Abs
open Go.RowKit Go.Shaft
def encS (l : List Int) : List (Value × Value) := l.map fun n => (.int .i64 n, .bool true)
@[simp] theorem look_encS (n : Int) (l : List Int) : lookV .i64 n (encS l) = some (if n ∈ l then some (.bool true) else none) := by
  unfold encS
  induction l with
  | nil => rfl
  | cons m l ih =>
    simp only [List.map_cons, lookV, if_true, ih, List.mem_cons]
    by_cases e : n = m <;> simp [e]
@[simp] theorem upd_encS (n : Int) (l : List Int) : updV .i64 n (.bool true) (encS l) = encS (if n ∈ l then l else l ++ [n]) := by
  unfold encS
  induction l with
  | nil => rfl
  | cons m l ih =>
    simp only [List.map_cons, updV, List.mem_cons]
    by_cases e : n = m
    · subst e; simp
    · simp only [e, if_false, ih, false_or]
      split <;> simp
@[simp] theorem lookR_b (k : TK) (a b : Nat) (c : Prop) [Decidable c] : lookR ⟨k, a, b, .bool false⟩ (if c then some (.bool true) else none) = .bool (decide c) := by
  split <;> simp_all [lookR, ofV]
@[simp] theorem lookR_none (i : TI) : lookR i none = i.zero := rfl
@[simp] theorem lookR_bool (i : TI) (b : Bool) : lookR i (some (.bool b)) = .bool b := rfl
@[simp] theorem lookR_int (i : TI) (k : IntKind) (b : Int) : lookR i (some (.int k b)) = .int k b := rfl
theorem encS_nil : encS [] = [] := rfl
@[simp] theorem Em165 : mapOf E.P 165 = some (.i64, 4) := by kernel_rfl
end Go.Abs
/- A private variable that is never written again: what points to it says what stands there. -/
set_option linter.unusedVariables false
set_option linter.unusedSimpArgs false
namespace Go.Abs
open Go.RowKit

mutual
def pnV (j : Nat) (v : AV) : AV → AV
  | .ref false i 0 [] 0 => if i = j then .pin v else .ref false i 0 [] 0
  | .agg vs => .agg (pnVs j v vs)
  | .func fn f g => .func fn f (pnVs j v g)
  | u => u
def pnVs (j : Nat) (v : AV) : List AV → List AV
  | [] => []
  | u :: us => pnV j v u :: pnVs j v us
end
/-- The variable has been frozen. -/
def Pinned (d : Cx) (j : Nat) (v : AV) : Prop := ∀ ad cap, d.lam false j 0 = some (some ad, cap) → ∃ xs, CR d v xs ∧ d.Fz ad.block ∧ ∀ (k : Nat) (u : Value), xs[k]? = some u → d.w.cell? (ad.add k) = some u

mutual
theorem pnV_CR {d : Cx} {j : Nat} {v : AV} (hp : Pinned d j v) (hz : ∀ ad cap, d.lam false j 0 = some (some ad, cap) → ad.add 0 = ad) : ∀ (u : AV) (cs : List Value), CR d u cs → CR d (pnV j v u) cs ∧ (pnV j v u).isAgg = u.isAgg
  | .ref false i 0 [] 0, cs, h => by
    rw [pnV]
    split
    · rename_i e
      subst e
      rw [CR] at h
      obtain ⟨ad, cap, hl, rfl⟩ := h
      obtain ⟨xs, k1, k2, k3⟩ := hp ad cap hl
      exact ⟨by rw [CR, hz ad cap hl]; exact ⟨ad, xs, k1, rfl, k2, k3⟩, rfl⟩
    · exact ⟨h, rfl⟩
  | .ref true _ _ _ _, cs, h => by rw [pnV]; exact ⟨h, rfl⟩; all_goals simp
  | .ref false _ (_ + 1) _ _, cs, h => by rw [pnV]; exact ⟨h, rfl⟩; all_goals simp
  | .ref false _ 0 (_ :: _) _, cs, h => by rw [pnV]; exact ⟨h, rfl⟩; all_goals simp
  | .ref false _ 0 [] (_ + 1), cs, h => by rw [pnV]; exact ⟨h, rfl⟩; all_goals simp
  | .agg vs, cs, h => by
    rw [pnV]
    rw [CR] at h
    obtain ⟨css, h, rfl⟩ := h
    exact ⟨by rw [CR]; exact ⟨css, (pnVs_CR hp hz vs css h).1, rfl⟩, rfl⟩
  | .func fn f g, cs, h => by
    rw [pnV]
    rw [CR] at h
    obtain ⟨fs, gs, k1, k2, e⟩ := h
    obtain ⟨h1, h2⟩ := pnVs_CR hp hz g gs k2
    refine ⟨?_, rfl⟩
    rw [CR]
    refine ⟨fs, gs, k1, h1, ?_⟩
    rw [e, zip_vOf (gs := gs) h2]
  | .own _ _ _, cs, h => by rw [pnV]; exact ⟨h, rfl⟩; all_goals simp
  | .mapr _ _, cs, h => by rw [pnV]; exact ⟨h, rfl⟩; all_goals simp
  | .any, cs, h => by rw [pnV]; exact ⟨h, rfl⟩; all_goals simp
  | .bool _, cs, h => by rw [pnV]; exact ⟨h, rfl⟩; all_goals simp
  | .int _ _, cs, h => by rw [pnV]; exact ⟨h, rfl⟩; all_goals simp
  | .str _, cs, h => by rw [pnV]; exact ⟨h, rfl⟩; all_goals simp
  | .arr _ _, cs, h => by rw [pnV]; exact ⟨h, rfl⟩; all_goals simp
  | .lit _ _, cs, h => by rw [pnV]; exact ⟨h, rfl⟩; all_goals simp
  | .nilS, cs, h => by rw [pnV]; exact ⟨h, rfl⟩; all_goals simp
  | .pin _, cs, h => by rw [pnV]; exact ⟨h, rfl⟩; all_goals simp
  | .nilP, cs, h => by rw [pnV]; exact ⟨h, rfl⟩; all_goals simp
  | .nilF, cs, h => by rw [pnV]; exact ⟨h, rfl⟩; all_goals simp
  | .nilM, cs, h => by rw [pnV]; exact ⟨h, rfl⟩; all_goals simp
  | .iface _ _, cs, h => by rw [pnV]; exact ⟨h, rfl⟩; all_goals simp
  | .nilI, cs, h => by rw [pnV]; exact ⟨h, rfl⟩; all_goals simp
  | .tup _, cs, h => by rw [CR] at h; exact h.elim
  | .yld _ _, cs, h => by rw [pnV]; exact ⟨h, rfl⟩; all_goals simp
  | .win _ _ _ _ _, cs, h => by rw [pnV]; exact ⟨h, rfl⟩; all_goals simp
theorem pnVs_CR {d : Cx} {j : Nat} {v : AV} (hp : Pinned d j v) (hz : ∀ ad cap, d.lam false j 0 = some (some ad, cap) → ad.add 0 = ad) : ∀ (us : List AV) (css : List (List Value)), CRs d us css → CRs d (pnVs j v us) css ∧ (pnVs j v us).map AV.isAgg = us.map AV.isAgg
  | [], css, h => by rw [pnVs]; exact ⟨h, rfl⟩
  | u :: us, css, h => by
    rw [pnVs]
    rw [CRs] at h ⊢
    obtain ⟨x, xs, e, h1, h2⟩ := h
    obtain ⟨k1, k2⟩ := pnV_CR hp hz u x h1
    obtain ⟨k3, k4⟩ := pnVs_CR hp hz us xs h2
    exact ⟨⟨x, xs, e, k1, k3⟩, by simp [k2, k4]⟩
end
theorem pnV_VR {d : Cx} {j : Nat} {v : AV} (hp : Pinned d j v) (hz : ∀ ad cap, d.lam false j 0 = some (some ad, cap) → ad.add 0 = ad) {u : AV} {m : Value} (h : VR d u m) : VR d (pnV j v u) m := by
  cases u with
  | any => rw [pnV]; trivial; all_goals simp
  | tup vs => rw [pnV]; exact h; all_goals simp
  | _ =>
    obtain ⟨cs, h, rfl⟩ := h
    obtain ⟨h1, h2⟩ := pnV_CR hp hz _ cs h
    have : vOf (pnV j v _) cs = vOf _ cs := vOf_same h2 cs
    rw [← this]
    exact VR_of_CR h1

/-- A variable of one's own is frozen. -/
theorem pin_obj {c : Cx} {M : Mem} (hM : MemR c M) {sh : Bool} {j : Nat} {v : AV} (hx : (M sh)[j]? = some (.cell v)) :
    let Fz' : Nat → Prop := fun m => c.Fz m ∨ Owns c.lam M sh j m
    MemR ⟨c.w, Fz', c.lam⟩ (setM M sh j .dead) ∧ Step c M ⟨c.w, Fz', c.lam⟩ (setM M sh j .dead) := by
  intro Fz'
  have hown : ∀ s i m, Owns c.lam (setM M sh j .dead) s i m → ¬ (s = sh ∧ i = j) ∧ Owns c.lam M s i m := by
    rintro s i m ⟨y, a, cap, h1, h2, h3, rfl⟩
    by_cases e : s = sh ∧ i = j
    · obtain ⟨rfl, rfl⟩ := e
      rw [setM_same hx] at h1
      cases h1
      simp [AO.owned] at h2
    · rw [setM_other e] at h1
      exact ⟨e, y, a, cap, h1, h2, h3, rfl⟩
  have hst : Step c M ⟨c.w, Fz', c.lam⟩ (setM M sh j .dead) :=
    ⟨Turn.refl _ _, fun _ h => .inl h, fun m h => h.imp id (fun h => .inr ⟨sh, j, h⟩), fun _ _ _ _ h => h, fun s i m h => .inr ⟨s, i, (hown s i m h).2⟩, by rw [setM_len]; exact Nat.le_refl _, by rw [setM_len]; exact Nat.le_refl _, fun _ _ h => h⟩
  refine ⟨⟨?_, ?_, fun s i s' i' m h h' => hM.sep s i s' i' m (hown s i m h).2 (hown s' i' m h').2, ?_, ?_⟩, hst⟩
  · intro s i y q h1 h2
    by_cases e : s = sh ∧ i = j
    · obtain ⟨rfl, rfl⟩ := e
      rw [setM_same hx] at h1
      cases h1
      trivial
    · rw [setM_other e] at h1
      exact ObjAt_keep (hM.obj s i y q h1 h2) (hst.le hM) (fun _ _ _ => rfl)
  · intro s i ver q h
    obtain ⟨z, h1, h2⟩ := hM.dom s i ver q h
    by_cases e : s = sh ∧ i = j
    · obtain ⟨rfl, rfl⟩ := e
      exact ⟨_, setM_same hx, fun h => by simp [AO.owned] at h⟩
    · exact ⟨z, by rw [setM_other e]; exact h1, h2⟩
  · intro s i m h hf
    obtain ⟨e, h⟩ := hown s i m h
    rcases hf with hf | hf
    · exact hM.unf s i m h hf
    · exact e (hM.sep _ _ _ _ m h hf)
  · intro m h
    rcases h with h | h
    · exact hM.fzl m h
    · exact h.lt hM

theorem get_mapped (s : AS) (f : AV → AV) (hf : f .any = .any) (loc H : List AO) (i : Nat) : (AS.mk (s.t.map fun p => (p.1, f p.2)) loc H).get i = f (s.get i) := by
  show ((s.t.map fun p => (p.1, f p.2)).lookup i).getD .any = f ((s.t.lookup i).getD .any)
  generalize s.t = l
  induction l with
  | nil => simp [hf]
  | cons p l ih =>
    simp only [List.map_cons]
    rw [List.lookup_cons, List.lookup_cons]
    cases hq : (i == p.1) with
    | true => simp
    | false => simpa using ih

def AS.pinned (s : AS) (j : Nat) : AS := match s.loc[j]? with
  | some (.cell v) => ⟨s.t.map fun p => (p.1, pnV j v p.2), s.loc.set j .dead, s.H⟩
  | _ => s

theorem leads_pin {s : AS} (j : Nat) {v : AV} (ho : s.loc[j]? = some (.cell v)) : Leads s (s.pinned j) := by
  intro x N c0 H0 c a h0 hi
  have hM := hi.mem
  have hx : (s.mem false)[j]? = some (.cell v) := ho
  obtain ⟨h1, h2⟩ := pin_obj hM hx
  have hle := h2.le hM
  rw [show s.pinned j = ⟨s.t.map fun p => (p.1, pnV j v p.2), s.loc.set j .dead, s.H⟩ by simp only [AS.pinned, ho]]
  have hmem : (AS.mk (s.t.map fun p => (p.1, pnV j v p.2)) (s.loc.set j .dead) s.H).mem = setM s.mem false j .dead := by
    funext sh
    cases sh <;> simp [AS.mem, setM]
  refine ⟨⟨c.w, fun m => c.Fz m ∨ Owns c.lam s.mem false j m, c.lam⟩, rfl, by rw [hmem]; exact h1, by rw [hmem]; exact hi.ev.step h2, hi.len, ?_, hi.size, by rw [hmem]; exact hi.defs.step h2⟩
  have hat : ∀ ad cap, c.lam false j 0 = some (some ad, cap) → ∃ m t cs, ad = ⟨m, 0, none⟩ ∧ CR c v cs ∧ c.w.heap[m]? = some (.cells cs.toArray t (0, 0)) := by
    intro ad cap hl
    obtain ⟨m, t, cs, e, k1, k2⟩ := hM.obj false j (.cell v) (some ad, cap) hx hl
    cases e
    exact ⟨m, t, cs, rfl, k1, k2⟩
  intro i
  rw [get_mapped s (pnV j v) (by rw [pnV]; all_goals simp)]
  refine pnV_VR ?_ ?_ (VR_mono hle (hi.tr i))
  · intro ad cap hl
    obtain ⟨m, t, cs, rfl, k1, k2⟩ := hat ad cap hl
    refine ⟨cs, CR_mono hle _ _ k1, .inr ⟨.cell v, ⟨m, 0, none⟩, cap, hx, rfl, hl, rfl⟩, ?_⟩
    intro k u hu
    have hadd : (⟨m, 0, none⟩ : Addr).add k = ⟨m, k, none⟩ := by unfold Addr.add; split <;> simp_all
    rw [hadd]
    simp only [World.cell?, k2]
    simpa using hu
  · intro ad cap hl
    obtain ⟨m, t, cs, rfl, k1, k2⟩ := hat ad cap hl
    unfold Addr.add; split <;> simp_all

@[simp] theorem mvV_pin (j k : Nat) (v : AV) : mvV j k (.pin v) = .pin v := by rw [mvV]; all_goals simp
@[simp] theorem pnV_ref (j : Nat) (v : AV) (i : Nat) : pnV j v (.ref false i 0 [] 0) = if i = j then .pin v else .ref false i 0 [] 0 := by rw [pnV]
@[simp] theorem pnV_refT (j : Nat) (v : AV) (i ver : Nat) (p : List Nat) (o : Nat) : pnV j v (.ref true i ver p o) = .ref true i ver p o := by rw [pnV]; all_goals simp
@[simp] theorem pnV_func (j : Nat) (v : AV) (fn : Fn) (f g : List AV) : pnV j v (.func fn f g) = .func fn f (pnVs j v g) := by rw [pnV]
@[simp] theorem pnV_agg (j : Nat) (v : AV) (vs : List AV) : pnV j v (.agg vs) = .agg (pnVs j v vs) := by rw [pnV]
@[simp] theorem pnVs_nil (j : Nat) (v : AV) : pnVs j v [] = [] := by rw [pnVs]
@[simp] theorem pnVs_cons (j : Nat) (v u : AV) (us : List AV) : pnVs j v (u :: us) = pnV j v u :: pnVs j v us := by rw [pnVs]
@[simp] theorem pnV_any (j : Nat) (v : AV) : pnV j v .any = .any := by rw [pnV]; all_goals simp
@[simp] theorem pnV_bool (j : Nat) (v : AV) (b) : pnV j v (.bool b) = .bool b := by rw [pnV]; all_goals simp
@[simp] theorem pnV_int (j : Nat) (v : AV) (k n) : pnV j v (.int k n) = .int k n := by rw [pnV]; all_goals simp
@[simp] theorem pnV_str (j : Nat) (v : AV) (b) : pnV j v (.str b) = .str b := by rw [pnV]; all_goals simp
@[simp] theorem pnV_arr (j : Nat) (v : AV) (b c) : pnV j v (.arr b c) = .arr b c := by rw [pnV]; all_goals simp
@[simp] theorem pnV_lit (j : Nat) (v : AV) (b c) : pnV j v (.lit b c) = .lit b c := by rw [pnV]; all_goals simp
@[simp] theorem pnV_nilS (j : Nat) (v : AV) : pnV j v .nilS = .nilS := by rw [pnV]; all_goals simp
@[simp] theorem pnV_own (j : Nat) (v : AV) (a b c) : pnV j v (.own a b c) = .own a b c := by rw [pnV]; all_goals simp
@[simp] theorem pnV_pin (j : Nat) (v : AV) (a) : pnV j v (.pin a) = .pin a := by rw [pnV]; all_goals simp
@[simp] theorem pnV_nilF (j : Nat) (v : AV) : pnV j v .nilF = .nilF := by rw [pnV]; all_goals simp
@[simp] theorem pnV_mapr (j : Nat) (v : AV) (a b) : pnV j v (.mapr a b) = .mapr a b := by rw [pnV]; all_goals simp
@[simp] theorem pnV_tup (j : Nat) (v : AV) (a) : pnV j v (.tup a) = .tup a := by rw [pnV]; all_goals simp
@[simp] theorem pnV_yld (j : Nat) (v : AV) (a b) : pnV j v (.yld a b) = .yld a b := by rw [pnV]; all_goals simp
end Go.Abs
/- Evaluation by 'simp': windows, copies, makes. -/
set_option linter.unusedVariables false
set_option linter.unusedSimpArgs false
namespace Go.Abs
open Go.RowKit

section
variable {x : X} {s : AS} {K : AV → AS → Prop} {d : Option Tmp} {ty : TypeId} {ps : String} {af : Array Edge} {g : Option (Nat × Bool)} (p : Bool → Nat → Bool) (j ver esz off len : Nat)
@[simp] theorem ok_win : (AV.win j ver esz off len).ok p = p false j := by rw [AV.ok]
@[simp] theorem sol_win : AV.solid (.win j ver esz off len) = true := rfl
@[simp] theorem nt_win : notTup (.win j ver esz off len) = true := rfl
@[simp] theorem ag_win : AV.isAgg (.win j ver esz off len) = false := rfl
@[simp] theorem len_win : lenV (.win j ver esz off len) = some len := rfl
@[simp] theorem dst_own (e : Nat) : dstOf e (.own false j ver) = some (j, ver, 0, ver) := rfl
@[simp] theorem dst_win (e : Nat) : dstOf e (.win j ver esz off len) = if esz = e then some (j, ver, off, len) else none := rfl
@[simp] theorem els_win (t l H) (sz : Nat) : (AS.mk t l H).elems sz (.win j ver esz off len) = (l[j]?).bind fun ob => (rowV ob).bind fun q => if q.1 = sz ∧ esz = sz ∧ q.2.length = ver then some ((q.2.take (off + len)).drop off) else none := by
  simp only [AS.elems]
  cases l[j]? with
  | none => rfl
  | some ob => cases ob <;> rfl
@[simp] theorem pSlice_own (e a b z lo hi) (K : AV → Prop) : pSlice s ⟨.slice esz e, a, b, z⟩ (.own false j ver) lo hi K = (got (bnd s 0 lo) fun l => got (bnd s ver hi) fun h => l ≤ h ∧ h ≤ ver ∧ l < ver ∧ K (.win j ver esz l (h - l))) := by
  unfold pSlice got
  simp only
  cases bnd s 0 lo <;> cases bnd s ver hi <;> rfl
@[simp] theorem pv_makeSlice (t y z) : Pv x ⟨d, .makeSlice t y z, ty, ps, af, g⟩ s K = pMakeSlice x s t (s.ev y) (s.ev z) K := rfl
@[simp] theorem pMakeSlice_int (t kl kc n n') : pMakeSlice x s t (.int kl n) (.int kc n') K = asTI x t fun i => got (sliceV i) fun q => asTI x q.2 fun ie => ie.zero.size = q.1 ∧ 0 < q.1 ∧ n' = n ∧ 0 ≤ n ∧ n ≤ 140737488355328 ∧ ie.bytes * n.toNat ≤ 281474976710656 ∧ K (.own false s.loc.length n.toNat) (s.push (.row q.1 (List.replicate n.toNat ie.zero))) := by
  unfold pMakeSlice
  congr 1
  funext i
  unfold sliceV got
  cases i.k <;> rfl
@[congr] theorem pMakeSlice_congr {s s' : AS} {t : TypeId} {v v' w w' : AV} {K : AV → AS → Prop} (h1 : s = s') (h3 : v = v') (h4 : w = w') : pMakeSlice x s t v w K = pMakeSlice x s' t v' w' K := by rw [h1, h3, h4]
@[simp] theorem pCall_copy (y z t t2) : pCall x s ⟨.builtin .copy, #[y, z], #[t, t2]⟩ K = asTI x t fun i => got (sliceV i) fun q => got (dstOf q.1 (s.ev y)) fun D => got (s.elems q.1 (s.ev z)) fun ys => 0 < D.2.1 ∧ got (s.loc[D.1]?) fun ob => got (rowV ob) fun r => r.1 = q.1 ∧ r.2.length = D.2.1 ∧ K (.int .i64 ((ys.take D.2.2.2).length : Nat)) (s.setMem false D.1 (.row q.1 (copyTo r.2 ys D.2.2.1 D.2.2.2))) := by
  show pCopy x s t (s.ev y) (s.ev z) K = _
  unfold pCopy
  congr 1
  funext i
  unfold sliceV got
  cases i.k with
  | slice esz e =>
    simp only
    cases dstOf esz (s.ev y) with
    | none => rfl
    | some D =>
      obtain ⟨j, ver, off, len⟩ := D
      cases s.elems esz (s.ev z) with
      | none => rfl
      | some ys =>
        simp only
        cases s.loc[j]? with
        | none => rfl
        | some ob => cases ob <;> rfl
  | _ => rfl
@[simp] theorem pCall_clear (y t) : pCall x s ⟨.builtin .clear, #[y], #[t]⟩ K = asTI x t fun i => got (sliceV i) fun q => asTI x q.2 fun ie => ie.zero.size = q.1 ∧ got (dstOf q.1 (s.ev y)) fun D => 0 < D.2.2.2 ∧ got (s.loc[D.1]?) fun ob => got (rowV ob) fun r => r.1 = q.1 ∧ r.2.length = D.2.1 ∧ K (.tup []) (s.setMem false D.1 (.row q.1 (r.2.take D.2.2.1 ++ List.replicate D.2.2.2 ie.zero ++ r.2.drop (D.2.2.1 + D.2.2.2)))) := by
  show pClear x s t (s.ev y) K = _
  unfold pClear
  congr 1
  funext i
  unfold sliceV got
  cases i.k with
  | slice esz e =>
    simp only
    congr 1
    funext ie
    congr 1
    cases dstOf esz (s.ev y) with
    | none => rfl
    | some D =>
      obtain ⟨j, ver, off, len⟩ := D
      simp only
      congr 1
      cases s.loc[j]? with
      | none => rfl
      | some ob => cases ob <;> rfl
  | _ => rfl
end
end Go.Abs
/- Freezing a row where it lies; an empty slice held against nil. -/
set_option linter.unusedVariables false
set_option linter.unusedSimpArgs false
namespace Go.Abs
open Go.RowKit

theorem leads_freeze {s : AS} (t j : Nat) {sz ver : Nat} {vs : List AV} (ht : s.get t = .own false j ver) (ho : s.loc[j]? = some (.row sz vs)) (hv : vs.length = ver) : Leads s ⟨(t, .lit sz vs) :: s.t, s.loc.set j (.frow sz vs), s.H⟩ := by
  subst hv
  intro x N c0 H0 c a h0 hi
  obtain ⟨d, e1, hM, hS, hle, e5, e6, e7⟩ := becomes_frozen ho c hi.mem
  have hi1 : Inv x c0 H0 N (s.setMem false j (.frow sz vs)) d a := hi.step hS hM rfl
  refine ⟨d, e1, ?_⟩
  have es : s.setMem false j (.frow sz vs) = ⟨s.t, s.loc.set j (.frow sz vs), s.H⟩ := rfl
  rw [es] at hi1
  refine ⟨hi1.mem, hi1.ev, hi1.len, ?_, hi1.size, hi1.defs⟩
  intro i
  by_cases e : i = t
  · subst e
    have hv := hi.tr i
    rw [ht] at hv
    obtain ⟨cs, hc, hm⟩ := hv
    have hg : (AS.mk ((i, .lit sz vs) :: s.t) (s.loc.set j (.frow sz vs)) s.H).get i = .lit sz vs := by simp [AS.get]
    rw [hg]
    exact ⟨cs, e7 cs hc, hm⟩
  · have hg : (AS.mk ((t, .lit sz vs) :: s.t) (s.loc.set j (.frow sz vs)) s.H).get i = (AS.mk s.t (s.loc.set j (.frow sz vs)) s.H).get i := by
      have : (i == t) = false := by simpa using e
      simp [AS.get, List.lookup_cons, this]
    rw [hg]
    exact hi1.tr i

/-- An empty slice may be nil, or not. -/
theorem opw_nilcmp {x : X} {o : Oper} {s : AS} {t yt e : TypeId} {y z : Operand} {sz : Nat} {K : AV → AS → Prop} (h : o.op = .binOp .eql t y z yt) (hy : s.ev y = .lit sz []) (hz : s.ev z = .nilS) (hu : x.P.underlying t = some (.slice e)) (hk : ∀ b, K (.bool b) s) : OpW x o s K := by
  intro c a Q hM ho
  have h1 := ho y (by simp [h, Op.operands])
  rw [hy] at h1
  have h2 := ho z (by simp [h, Op.operands])
  rw [hz] at h2
  obtain ⟨a0, cap, css, _, _, hm, _, _, _⟩ := VR_lit h1
  have h2 := VR_nilS h2
  have hg := eqGuard_other (P := x.P) .eql t y z (.slice a0 0 cap) (.slice none 0 0) c.w (by simp) (by simp)
  unfold Oper.wpX
  have hr : (execOp a.eval o).run x.P c.w = .ok (.value (.bool a0.isNone)) c.w := by
    simp only [List.length_nil] at hm
    simp [execOp, h, hm, h2, hg, binOp, run_equal_slice_nil c.w t e a0 0 cap hu]
  rw [hr]
  exact ⟨.bool a0.isNone, s, c, .bool a0.isNone, rfl, rfl, hk _, VR_bool_mk _ _, hM, Step.refl _ _, rfl⟩

section
variable {x : X} {N : Nat} {s : AS} {Q : Exit → AS → Prop} {fn : Func} {p : List Nat}
/-- A region whose operations are looked at one by one. -/
theorem at_regA (ks : List Nat) {ops : List Oper} (hk : kReg (at' fn p) = some ops) (h : AOps x ops.toArray (fun s' => Q .normal (s'.keep ks)) ops s) : AWP x N (at' fn p) s Q := by
  unfold at' at *
  generalize cat (bod fn) p = c at *
  cases c <;> simp [kReg] at hk
  rename_i id o dr
  split at hk
  · rename_i h1
    cases h1
    cases hk
    exact AWP.post (awp_regionA (Q := fun e s' => ∃ s'', Leads s' s'' ∧ Q e s'') (AOps_mono (fun s' hq => ⟨_, leads_keep s' ks, hq⟩) (by simpa using h)))
  · cases hk
end
end Go.Abs
/- Rows without room: frozen when they are made; what is appended to them goes elsewhere. -/
set_option linter.unusedVariables false
set_option linter.unusedSimpArgs false
namespace Go.Abs
open Go.RowKit

theorem freezeX_obj {c : Cx} {M : Mem} (hM : MemR c M) {sh : Bool} {j : Nat} {sz : Nat} {vs : List AV} (hx : (M sh)[j]? = some (.row sz vs)) (hex : ∀ pl, c.lam sh j vs.length = some pl → pl.2 = vs.length) :
    let Fz' : Nat → Prop := fun m => c.Fz m ∨ Owns c.lam M sh j m
    MemR ⟨c.w, Fz', c.lam⟩ (setM M sh j (.xrow sz vs)) ∧ Step c M ⟨c.w, Fz', c.lam⟩ (setM M sh j (.xrow sz vs)) := by
  intro Fz'
  have hown : ∀ s i m, Owns c.lam (setM M sh j (.xrow sz vs)) s i m → ¬ (s = sh ∧ i = j) ∧ Owns c.lam M s i m := by
    rintro s i m ⟨y, a, cap, h1, h2, h3, rfl⟩
    by_cases e : s = sh ∧ i = j
    · obtain ⟨rfl, rfl⟩ := e
      rw [setM_same hx] at h1
      cases h1
      simp [AO.owned] at h2
    · rw [setM_other e] at h1
      exact ⟨e, y, a, cap, h1, h2, h3, rfl⟩
  have hst : Step c M ⟨c.w, Fz', c.lam⟩ (setM M sh j (.xrow sz vs)) :=
    ⟨Turn.refl _ _, fun _ h => .inl h, fun m h => h.imp id (fun h => .inr ⟨sh, j, h⟩), fun _ _ _ _ h => h, fun s i m h => .inr ⟨s, i, (hown s i m h).2⟩, by rw [setM_len]; exact Nat.le_refl _, by rw [setM_len]; exact Nat.le_refl _, fun _ _ h => h⟩
  refine ⟨⟨?_, ?_, fun s i s' i' m h h' => hM.sep s i s' i' m (hown s i m h).2 (hown s' i' m h').2, ?_, ?_⟩, hst⟩
  · intro s i y q h1 h2
    by_cases e : s = sh ∧ i = j
    · obtain ⟨rfl, rfl⟩ := e
      rw [setM_same hx] at h1
      cases h1
      have hq := hex q h2
      have hro := hM.obj s i (.row sz vs) q hx h2
      obtain ⟨h0, hz, ⟨rfl, h3⟩ | ⟨m, cap, cur, t, css, rfl, h3, h4, h5, h6, h7, h8⟩⟩ := hro
      · subst h3
        exact ⟨h0, hz, [], by rw [CRs], rfl, by simp, fun h => (h rfl).elim⟩
      · refine ⟨h0, hz, css, CRs_mono (hst.le hM) vs css h7, hq, h5, fun _ => ⟨⟨m, 0, none⟩, rfl, .inr ⟨.row sz vs, ⟨m, 0, none⟩, cap, hx, rfl, h2, rfl⟩, ?_⟩⟩
        intro k u hu
        have hadd : (⟨m, 0, none⟩ : Addr).add k = ⟨m, k, none⟩ := by unfold Addr.add; split <;> simp_all
        rw [hadd]
        rw [← h8, List.getElem?_take] at hu
        simp only [World.cell?, h3]
        split at hu
        · simpa using hu
        · cases hu
    · rw [setM_other e] at h1
      exact ObjAt_keep (hM.obj s i y q h1 h2) (hst.le hM) (fun _ _ _ => rfl)
  · intro s i ver q h
    obtain ⟨z, h1, h2⟩ := hM.dom s i ver q h
    by_cases e : s = sh ∧ i = j
    · obtain ⟨rfl, rfl⟩ := e
      exact ⟨_, setM_same hx, fun h => by simp [AO.owned] at h⟩
    · exact ⟨z, by rw [setM_other e]; exact h1, h2⟩
  · intro s i m h hf
    obtain ⟨e, h⟩ := hown s i m h
    rcases hf with hf | hf
    · exact hM.unf s i m h hf
    · exact e (hM.sep _ _ _ _ m h hf)
  · intro m h
    rcases h with h | h
    · exact hM.fzl m h
    · exact h.lt hM

theorem push_setM (s : AS) (o o' : AO) : setM (s.push o).mem false s.loc.length o' = (s.push o').mem := by
  funext b
  cases b <;> simp [AS.push, AS.mem, setM]

/-- A slice that is written out has no room behind its elements. -/
theorem sim_buildX {x : X} {o : Oper} {s : AS} {t e : TypeId} {n esz : Nat} {parts : Array (Nat × Operand)} {i ie : TI} (h : o.op = .buildSlice t n parts) (hi : x.ti t = some i) (hk : i.k = .slice esz e) (he : x.ti e = some ie) (hz : ie.zero.size = esz) (hpos : 0 < esz) (hn : n * esz ≤ 16777216)
    (hf : fits s (List.replicate n ie.zero) parts.toList) : Sim x.P o s (.own false s.loc.length n) (s.push (.xrow esz (setAll s (List.replicate n ie.zero) parts.toList))) := by
  intro c ρ hM ho
  obtain ⟨m, d, pl, ⟨h1, h2, h3, h4, h5, h6, h7⟩, hp, hlen⟩ := sima_buildSliceE h hi hk he hz hpos hn hf c ρ hM ho
  have hx : ((s.push (.row esz (setAll s (List.replicate n ie.zero) parts.toList))).mem false)[s.loc.length]? = some (.row esz (setAll s (List.replicate n ie.zero) parts.toList)) := by
    simp [AS.push, AS.mem]
  have hex : ∀ q, d.lam false s.loc.length (setAll s (List.replicate n ie.zero) parts.toList).length = some q → q.2 = (setAll s (List.replicate n ie.zero) parts.toList).length := by
    intro q hq
    rw [h5] at hq
    have := updL_same c.lam false s.loc.length (AO.row esz (setAll s (List.replicate n ie.zero) parts.toList)).ver pl
    simp only [AO.ver] at this hq
    rw [this] at hq
    cases hq
    rw [hp, hlen]
  have hfz := freezeX_obj h3 hx hex
  simp only at hfz
  obtain ⟨g1, g2⟩ := hfz
  rw [push_setM] at g1 g2
  have hv : VR ⟨d.w, fun m => d.Fz m ∨ Owns d.lam (s.push (AO.row esz (setAll s (List.replicate n ie.zero) parts.toList))).mem false s.loc.length m, d.lam⟩ (.own false s.loc.length n) m := by
    obtain ⟨cs, q1, q2⟩ := h2
    refine ⟨cs, ?_, q2⟩
    rw [CR] at q1 ⊢
    exact q1
  exact ⟨.value m, ⟨d.w, fun m => d.Fz m ∨ Owns d.lam (s.push (AO.row esz (setAll s (List.replicate n ie.zero) parts.toList))).mem false s.loc.length m, d.lam⟩, h1, .inl ⟨m, rfl, hv⟩, g1, h4.trans g2 hM⟩

theorem opw_buildX {x : X} {o : Oper} {s : AS} {t e : TypeId} {n esz : Nat} {parts : Array (Nat × Operand)} {i ie : TI} {K : AV → AS → Prop} (h : o.op = .buildSlice t n parts) (hi : x.ti t = some i) (hk : i.k = .slice esz e) (he : x.ti e = some ie) (hz : ie.zero.size = esz) (hpos : 0 < esz) (hn : n * esz ≤ 16777216)
    (hf : fits s (List.replicate n ie.zero) parts.toList) (hq : K (.own false s.loc.length n) (s.push (.xrow esz (setAll s (List.replicate n ie.zero) parts.toList)))) : OpW x o s K := OpW.of_sim (sim_buildX h hi hk he hz hpos hn hf) rfl hq

/-- What is appended to a row without room goes, with a copy of it, elsewhere. -/
theorem sim_appendX {x : X} {o : Oper} {s : AS} {y q : Operand} {t t2 e e2 : TypeId} {esz esz2 : Nat} {i i2 ie : TI} {j ver : Nat} {vs ys : List AV} (h : o.op = .call { callee := .builtin .append, args := #[y, q], argTypes := #[t, t2] }) (hi : x.ti t = some i) (hk : i.k = .slice esz e) (hi2 : x.ti t2 = some i2) (hk2 : i2.k = .slice esz2 e2) (he : x.ti e = some ie)
    (hz : ie.zero.size = esz) (hb : 0 < ie.bytes) (hy : s.ev y = .own false j ver) (hrow : s.loc[j]? = some (.xrow esz vs)) (hver : vs.length = ver) (hvs : vs ≠ []) (hys : ys ≠ []) (hq : s.elems esz (s.ev q) = some ys) (hfit : (vs.length + ys.length) * ie.bytes ≤ 140737488355328) :
    Sim x.P o s (.own false s.loc.length (vs.length + ys.length)) (s.push (.row esz (vs ++ ys))) := by
  intro c ρ hM ho
  subst hver
  have hkc := (tok x hi).k
  rw [hk] at hkc
  obtain ⟨hu, hsz⟩ := k_slice hkc
  have hkc2 := (tok x hi2).k
  rw [hk2] at hkc2
  obtain ⟨hu2, _⟩ := k_slice hkc2
  obtain ⟨inf, z, h1, h2, h3, h4, cs, h5, h6, h7⟩ := (tok x he).inf
  have hie : inf.size = esz := by rw [h1] at hsz; simpa using hsz
  have hzl : z.cells.size = esz := by
    have := CR_len c _ _ (plain_CR c _ _ h5)
    rw [← hz, ← this, ← h7]; simp
  have hyv := ho y (by simp [h, Op.operands, Call.operands])
  rw [hy] at hyv
  obtain ⟨sa, scap, hl, hn0, hvy⟩ := VR_own hyv
  obtain ⟨a, cap, css, hvq, k1, k2, k3⟩ := elems_cells hM (ho q (by simp [h, Op.operands, Call.operands])) hq
  have hcl : css.flatten.length = ys.length * esz := by rw [CRs_len c _ _ k1, sizes_same k2]
  have hmax : vs.length + ys.length ≤ 140737488355328 := Nat.le_trans (Nat.le_mul_of_pos_right _ hb) hfit
  have hob := hM.obj false j (.xrow esz vs) _ (by simpa [AS.mem] using hrow) hl
  obtain ⟨h0, hpos, css0, b5, hcap, hcm, hpl⟩ := hob
  simp only at hcap
  subst hcap
  obtain ⟨ad, hsa, hfz, hrd⟩ := hpl hvs
  simp only at hsa
  subst hsa
  have hcl0 : css0.flatten.length = vs.length * esz := by rw [CRs_len c _ _ b5, sizes_same h0]
  have hall : ∀ v ∈ vs ++ ys, v.size = esz := by
    intro v hv
    rcases List.mem_append.1 hv with hv | hv
    · exact h0 v hv
    · exact k2 v hv
  have hnone : ∀ ver, c.lam false s.loc.length ver = none := by
    intro ver
    cases hl : c.lam false s.loc.length ver with
    | none => rfl
    | some p =>
      obtain ⟨u, hu, _⟩ := hM.dom _ _ _ _ hl
      have := getlt hu
      rw [mem_len_false] at this
      omega
  have hlpos : 0 < ys.length := List.length_pos_iff.2 hys
  have hr := app_grow (P := x.P) (ty := o.type) hu hu2 h1 h4 (w := c.w) (sa := some ad) (n := vs.length) (cap := vs.length) (m := ys.length) (x := .slice a ys.length cap) (olds := css0.flatten) (news := css.flatten) (fun w => lenOf_run w)
    (by rw [hie]; exact firstCells_run k1 k2 (w := c.w.drew) (fun hne => k3 hne)) (by rw [hie]; exact firstCells_run b5 h0 (w := c.w.drew) (fun _ => ⟨ad, rfl, hrd⟩)) (by omega) (by omega) (by rw [h3]; exact hfit)
  have hge := grownCap_ge c.w (vs.length + ys.length) vs.length e
  have hle := grownCap_le_maxLen c.w (vs.length + ys.length) vs.length e (by simp only [maxLen]; omega)
  generalize hg : grownCap c.w (vs.length + ys.length) vs.length e = gc at hr hge hle
  have htu : Turn c.w (c.w.drew.alloc (.cells (css0.flatten.toArray ++ css.flatten.toArray ++ Builtin.zeroCells z.cells (gc - (vs.length + ys.length))) e)) (fun _ => False) := (Turn.drew c.w _).trans (Turn.alloc _ _ _)
  have hp := push_obj hM false (o := .row esz (vs ++ ys)) (pl := (some ⟨c.w.heap.size, 0, none⟩, gc)) htu ?_ (fun _ a ha => by cases ha; exact Nat.le_refl _)
  · have hp1 := hp.1
    have hp2 := hp.2
    rw [← AS.mem_push] at hp1 hp2
    refine ⟨.value (.slice (some ⟨c.w.heap.size, 0, none⟩) (vs.length + ys.length) gc), _, ?_, .inl ⟨_, rfl, [.slice (some ⟨c.w.heap.size, 0, none⟩) (vs.length + ys.length) gc], ?_, rfl⟩, hp1, hp2⟩
    · simp [execOp, h, resolve, invoke, builtin, hvy, hvq] at hr ⊢
      rw [hr]; rfl
    · rw [CR]
      refine ⟨_, gc, ?_, ⟨(fun h => by cases h), hge⟩, rfl⟩
      rw [← mem_len_false]
      have := updL_same c.lam false (s.mem false).length (AO.row esz (vs ++ ys)).ver (some ⟨c.w.heap.size, 0, none⟩, gc)
      simp only [AO.ver, List.length_append] at this ⊢
      exact this
  · refine ⟨hall, hpos, .inr ⟨_, gc, _, e, css0 ++ css, rfl, heap_alloc_new c.w.drew _, by simpa using hge, hle, ?_, ?_, ?_⟩⟩
    · have hm : vs.length * esz + ys.length * esz + (gc - (vs.length + ys.length)) * esz = gc * esz := by rw [← Nat.add_mul, ← Nat.add_mul]; congr 1; omega
      simp only [Array.size_append, List.size_toArray, size_zeroCells, hzl, hcl, hcl0]
      simpa using hm
    · have hle2 : c.le ⟨c.w.drew.alloc (.cells (css0.flatten.toArray ++ css.flatten.toArray ++ Builtin.zeroCells z.cells (gc - (vs.length + ys.length))) e), c.Fz, updL c.lam false (s.mem false).length (AO.row esz (vs ++ ys)).ver (some ⟨c.w.heap.size, 0, none⟩, gc)⟩ := by
        refine ⟨fun _ h => h, fun m hm => htu.same m (hM.fzl m hm) (fun h => h), fun sh j ver q hq => updL_le (fun p hp => ?_) hq⟩
        rw [mem_len_false, hnone] at hp
        cases hp
      exact CRs_append (CRs_mono hle2 _ _ b5) (CRs_mono hle2 _ _ k1)
    · have e1 : (css0.flatten.toArray ++ css.flatten.toArray ++ Builtin.zeroCells z.cells (gc - (vs.length + ys.length))).toList = (css0.flatten ++ css.flatten) ++ (Builtin.zeroCells z.cells (gc - (vs.length + ys.length))).toList := by
        rw [Array.toList_append, Array.toList_append]
      have e2 : (vs ++ ys).length * esz = (css0.flatten ++ css.flatten).length := by rw [List.length_append, Nat.add_mul, List.length_append, hcl, hcl0]
      rw [e1, e2, List.take_left, List.flatten_append]

theorem opw_appendX {x : X} {o : Oper} {s : AS} {y q : Operand} {t t2 e e2 : TypeId} {esz esz2 : Nat} {i i2 ie : TI} {j ver : Nat} {vs ys : List AV} {K : AV → AS → Prop} (h : o.op = .call { callee := .builtin .append, args := #[y, q], argTypes := #[t, t2] }) (hi : x.ti t = some i) (hk : i.k = .slice esz e) (hi2 : x.ti t2 = some i2) (hk2 : i2.k = .slice esz2 e2) (he : x.ti e = some ie)
    (hz : ie.zero.size = esz) (hb : 0 < ie.bytes) (hy : s.ev y = .own false j ver) (hrow : s.loc[j]? = some (.xrow esz vs)) (hver : vs.length = ver) (hvs : vs ≠ []) (hys : ys ≠ []) (hq : s.elems esz (s.ev q) = some ys) (hfit : (vs.length + ys.length) * ie.bytes ≤ 140737488355328)
    (hK : K (.own false s.loc.length (vs.length + ys.length)) (s.push (.row esz (vs ++ ys)))) : OpW x o s K := OpW.of_sim (sim_appendX h hi hk hi2 hk2 he hz hb hy hrow hver hvs hys hq hfit) rfl hK
end Go.Abs
/- Empty slices that are written out, and what is appended to them, in regions of any order; regions of any order, one operation at a time. -/
set_option linter.unusedVariables false
set_option linter.unusedSimpArgs false
namespace Go.Abs
open Go.RowKit

/-- What is appended to a row without room goes, with a copy of it, elsewhere. -/
theorem sima_appendX {x : X} {o : Oper} {s : AS} {y q : Operand} {t t2 e e2 : TypeId} {esz esz2 : Nat} {i i2 ie : TI} {j ver : Nat} {vs ys : List AV} (h : o.op = .call { callee := .builtin .append, args := #[y, q], argTypes := #[t, t2] }) (hi : x.ti t = some i) (hk : i.k = .slice esz e) (hi2 : x.ti t2 = some i2) (hk2 : i2.k = .slice esz2 e2) (he : x.ti e = some ie)
    (hz : ie.zero.size = esz) (hb : 0 < ie.bytes) (hy : s.ev y = .own false j ver) (hrow : s.loc[j]? = some (.xrow esz vs)) (hver : vs.length = ver) (hys : ys ≠ []) (hq : s.elems esz (s.ev q) = some ys) (hfit : (vs.length + ys.length) * ie.bytes ≤ 140737488355328) :
    SimA x.P o s (.own false s.loc.length (vs.length + ys.length)) (.row esz (vs ++ ys)) := by
  intro c ρ hM ho
  subst hver
  have hkc := (tok x hi).k
  rw [hk] at hkc
  obtain ⟨hu, hsz⟩ := k_slice hkc
  have hkc2 := (tok x hi2).k
  rw [hk2] at hkc2
  obtain ⟨hu2, _⟩ := k_slice hkc2
  obtain ⟨inf, z, h1, h2, h3, h4, cs, h5, h6, h7⟩ := (tok x he).inf
  have hie : inf.size = esz := by rw [h1] at hsz; simpa using hsz
  have hzl : z.cells.size = esz := by
    have := CR_len c _ _ (plain_CR c _ _ h5)
    rw [← hz, ← this, ← h7]; simp
  have hyv := ho y (by simp [h, Op.operands, Call.operands])
  rw [hy] at hyv
  obtain ⟨sa, scap, hl, hn0, hvy⟩ := VR_own hyv
  obtain ⟨a, cap, css, hvq, k1, k2, k3⟩ := elems_cells hM (ho q (by simp [h, Op.operands, Call.operands])) hq
  have hcl : css.flatten.length = ys.length * esz := by rw [CRs_len c _ _ k1, sizes_same k2]
  have hmax : vs.length + ys.length ≤ 140737488355328 := Nat.le_trans (Nat.le_mul_of_pos_right _ hb) hfit
  have hob := hM.obj false j (.xrow esz vs) _ (by simpa [AS.mem] using hrow) hl
  obtain ⟨h0, hpos, css0, b5, hcap, hcm, hpl⟩ := hob
  simp only at hcap
  subst hcap
  have hcl0 : css0.flatten.length = vs.length * esz := by rw [CRs_len c _ _ b5, sizes_same h0]
  have hall : ∀ v ∈ vs ++ ys, v.size = esz := by
    intro v hv
    rcases List.mem_append.1 hv with hv | hv
    · exact h0 v hv
    · exact k2 v hv
  have hnone : ∀ ver, c.lam false s.loc.length ver = none := by
    intro ver
    cases hl : c.lam false s.loc.length ver with
    | none => rfl
    | some p =>
      obtain ⟨u, hu, _⟩ := hM.dom _ _ _ _ hl
      have := getlt hu
      rw [mem_len_false] at this
      omega
  have hlpos : 0 < ys.length := List.length_pos_iff.2 hys
  have hr := app_grow (P := x.P) (ty := o.type) hu hu2 h1 h4 (w := c.w) (sa := sa) (n := vs.length) (cap := vs.length) (m := ys.length) (x := .slice a ys.length cap) (olds := css0.flatten) (news := css.flatten) (fun w => lenOf_run w)
    (by rw [hie]; exact firstCells_run k1 k2 (w := c.w.drew) (fun hne => k3 hne)) (by rw [hie]; exact firstCells_run b5 h0 (w := c.w.drew) (fun hne => (by obtain ⟨ad, e1, _, e3⟩ := hpl hne; exact ⟨ad, e1, e3⟩))) (by omega) (by omega) (by rw [h3]; exact hfit)
  have hge := grownCap_ge c.w (vs.length + ys.length) vs.length e
  have hle := grownCap_le_maxLen c.w (vs.length + ys.length) vs.length e (by simp only [maxLen]; omega)
  generalize hg : grownCap c.w (vs.length + ys.length) vs.length e = gc at hr hge hle
  have htu : Turn c.w (c.w.drew.alloc (.cells (css0.flatten.toArray ++ css.flatten.toArray ++ Builtin.zeroCells z.cells (gc - (vs.length + ys.length))) e)) (fun _ => False) := (Turn.drew c.w _).trans (Turn.alloc _ _ _)
  have hp := push_obj hM false (o := .row esz (vs ++ ys)) (pl := (some ⟨c.w.heap.size, 0, none⟩, gc)) htu ?_ (fun _ a ha => by cases ha; exact Nat.le_refl _)
  · have hp1 := hp.1
    have hp2 := hp.2
    rw [← AS.mem_push] at hp1 hp2
    refine ⟨.slice (some ⟨c.w.heap.size, 0, none⟩) (vs.length + ys.length) gc, _, _, ?_, ⟨[.slice (some ⟨c.w.heap.size, 0, none⟩) (vs.length + ys.length) gc], ?_, rfl⟩, hp1, hp2, rfl, rfl, htu⟩
    · simp [execOp, h, resolve, invoke, builtin, hvy, hvq] at hr ⊢
      rw [hr]; rfl
    · rw [CR]
      refine ⟨_, gc, ?_, ⟨(fun h => by cases h), hge⟩, rfl⟩
      rw [← mem_len_false]
      have := updL_same c.lam false (s.mem false).length (AO.row esz (vs ++ ys)).ver (some ⟨c.w.heap.size, 0, none⟩, gc)
      simp only [AO.ver, List.length_append] at this ⊢
      exact this
  · refine ⟨hall, hpos, .inr ⟨_, gc, _, e, css0 ++ css, rfl, heap_alloc_new c.w.drew _, by simpa using hge, hle, ?_, ?_, ?_⟩⟩
    · have hm : vs.length * esz + ys.length * esz + (gc - (vs.length + ys.length)) * esz = gc * esz := by rw [← Nat.add_mul, ← Nat.add_mul]; congr 1; omega
      simp only [Array.size_append, List.size_toArray, size_zeroCells, hzl, hcl, hcl0]
      simpa using hm
    · have hle2 : c.le ⟨c.w.drew.alloc (.cells (css0.flatten.toArray ++ css.flatten.toArray ++ Builtin.zeroCells z.cells (gc - (vs.length + ys.length))) e), c.Fz, updL c.lam false (s.mem false).length (AO.row esz (vs ++ ys)).ver (some ⟨c.w.heap.size, 0, none⟩, gc)⟩ := by
        refine ⟨fun _ h => h, fun m hm => htu.same m (hM.fzl m hm) (fun h => h), fun sh j ver q hq => updL_le (fun p hp => ?_) hq⟩
        rw [mem_len_false, hnone] at hp
        cases hp
      exact CRs_append (CRs_mono hle2 _ _ b5) (CRs_mono hle2 _ _ k1)
    · have e1 : (css0.flatten.toArray ++ css.flatten.toArray ++ Builtin.zeroCells z.cells (gc - (vs.length + ys.length))).toList = (css0.flatten ++ css.flatten) ++ (Builtin.zeroCells z.cells (gc - (vs.length + ys.length))).toList := by
        rw [Array.toList_append, Array.toList_append]
      have e2 : (vs ++ ys).length * esz = (css0.flatten ++ css.flatten).length := by rw [List.length_append, Nat.add_mul, List.length_append, hcl, hcl0]
      rw [e1, e2, List.take_left, List.flatten_append]

/-- Nothing appended. -/
theorem pure_append0 {x : X} {o : Oper} {s : AS} {y q : Operand} {t t2 e e2 : TypeId} {esz esz2 sz : Nat} {i i2 ie : TI} {sh : Bool} {j ver : Nat} (h : o.op = .call { callee := .builtin .append, args := #[y, q], argTypes := #[t, t2] }) (hi : x.ti t = some i) (hk : i.k = .slice esz e) (hi2 : x.ti t2 = some i2) (hk2 : i2.k = .slice esz2 e2) (he : x.ti e = some ie)
    (hy : s.ev y = .own sh j ver) (hq : s.ev q = .lit sz []) : Pure x.P o s (.own sh j ver) := by
  intro c ρ ho
  have hkc := (tok x hi).k
  rw [hk] at hkc
  obtain ⟨hu, hsz⟩ := k_slice hkc
  have hkc2 := (tok x hi2).k
  rw [hk2] at hkc2
  obtain ⟨hu2, _⟩ := k_slice hkc2
  obtain ⟨inf, z, h1, h2, h3, h4, cs, h5, h6, h7⟩ := (tok x he).inf
  have hyv := ho y (by simp [h, Op.operands, Call.operands])
  rw [hy] at hyv
  have hyv' := hyv
  obtain ⟨sa, scap, hl, hn0, hvy⟩ := VR_own hyv
  have hqv := ho q (by simp [h, Op.operands, Call.operands])
  rw [hq] at hqv
  obtain ⟨a, cap, css, _, k1, hvq, _⟩ := VR_lit hqv
  have hr := app_room (P := x.P) (ty := o.type) hu hu2 h1 (w := c.w) (w' := c.w) (sa := sa) (n := ver) (cap := scap) (m := 0) (x := .slice a 0 cap) (news := []) (fun w => lenOf_run w) (by cases a <;> simp [Builtin.firstCells, loadCells, loadCellsFrom]) (by omega) (by cases sa with | none => rfl | some ad => simp [storeCells])
  refine ⟨.slice sa ver scap, ?_, ?_⟩
  · simp [execOp, h, resolve, invoke, builtin, hvy, hvq] at hr ⊢
    rw [hr]; rfl
  · rw [← hvy]; exact hyv'

/-- What is left of a region of any order. -/
def DRun (x : X) (ops : List Oper) (J : List Nat) (K : AS → Prop) (l : List Oper) (cs : List Nat) (s : AS) : Prop := ∃ s', Runs x ops J l cs s s' ∧ K s'
section
variable {x : X} {ops : List Oper} {J : List Nat} {K : AS → Prop} {o : Oper} {rest : List Oper} {c : Nat} {cs : List Nat} {s s1 : AS} {v : AV}
theorem DRun.nil (h : K s) : DRun x ops J K [] cs s := ⟨s, .nil, h⟩
theorem DRun.cons (h : StepOK x ops J o c s v s1) (k : DRun x ops J K rest cs s1) : DRun x ops J K (o :: rest) (c :: cs) s := by
  obtain ⟨s', h1, h2⟩ := k
  exact ⟨s', .cons h h1, h2⟩
end
end Go.Abs
/- Values in private objects that are frozen where they lie. -/
set_option linter.unusedVariables false
set_option linter.unusedSimpArgs false
namespace Go.Abs
open Go.RowKit

theorem crs_set {c d : Cx} (hle : c.le d) {u v : AV} (hconv : ∀ cs, CR c u cs → CR d v cs) {vs : List AV} {i : Nat} (hi : vs[i]? = some u) {css : List (List Value)} (h : CRs c vs css) : CRs d (vs.set i v) css := by
  rw [CRs_iff] at h ⊢
  obtain ⟨hl, hk⟩ := h
  refine ⟨by simpa using hl, ?_⟩
  intro j w x hw hx
  by_cases e : j = i
  · subst e
    have hj := (List.getElem?_eq_some_iff.1 hi).1
    rw [List.getElem?_set_self hj] at hw
    cases hw
    exact hconv x (hk j u x hi hx)
  · rw [List.getElem?_set_ne (Ne.symm e)] at hw
    exact CR_mono hle w x (hk j w x hw hx)

/-- A row that an object holds is frozen. -/
theorem leads_freezeO {s : AS} {q j sz : Nat} {ws : List AV} {o o' : AO} (hq : s.loc[q]? = some (.row sz ws)) (hj : s.loc[j]? = some o) (hne : j ≠ q) (hv : o'.ver = o.ver) (ho : o'.owned = o.owned)
    (hk : ∀ (c d : Cx) pl, c.le d → d.w = c.w → (∀ cs, CR c (.own false q ws.length) cs → CR d (.lit sz ws) cs) → ObjAt c pl o → ObjAt d pl o') : Leads s ⟨s.t, (s.loc.set q (.frow sz ws)).set j o', s.H⟩ := by
  intro x N c0 H0 c a h0 hi
  have hx : (s.mem false)[q]? = some (.row sz ws) := hq
  have hf := freeze_obj hi.mem hx
  simp only at hf
  obtain ⟨h1, h2⟩ := hf
  rw [← AS.mem_setMem] at h1 h2
  have hle := h2.le hi.mem
  have hconv : ∀ cs, CR c (.own false q ws.length) cs → CR ⟨c.w, fun m => c.Fz m ∨ Owns c.lam s.mem false q m, c.lam⟩ (.lit sz ws) cs := by
    intro cs hc
    rw [CR] at hc
    obtain ⟨a, cap, hl, hn, rfl⟩ := hc
    have hob := h1.obj false q (.frow sz ws) (a, cap) (by rw [AS.mem_setMem]; exact setM_same hx) hl
    obtain ⟨h0, hz, css, k1, k2, k3, k4⟩ := hob
    rw [CR]
    exact ⟨h0, a, cap, css, k1, rfl, k2, k3, k4⟩
  have hi1 : Inv x c0 H0 N (s.setMem false q (.frow sz ws)) ⟨c.w, fun m => c.Fz m ∨ Owns c.lam s.mem false q m, c.lam⟩ a := hi.step h2 h1 rfl
  have hj1 : ((s.setMem false q (.frow sz ws)).mem false)[j]? = some o := by
    show (s.loc.set q (.frow sz ws))[j]? = some o
    rw [List.getElem?_set_ne (Ne.symm hne)]
    exact hj
  -- the object, told otherwise
  have hx2 : (s.mem false)[j]? = some o := hj
  have hown : ∀ b i m, Owns c.lam (setM (s.setMem false q (.frow sz ws)).mem false j o') b i m → Owns c.lam (s.setMem false q (.frow sz ws)).mem b i m := by
    rintro b i m ⟨y, a', cap, g1, g2, g3, rfl⟩
    by_cases e : b = false ∧ i = j
    · obtain ⟨rfl, rfl⟩ := e
      rw [setM_same hj1] at g1
      cases g1
      rw [hv] at g3
      rw [ho] at g2
      exact ⟨o, a', cap, hj1, g2, g3, rfl⟩
    · rw [setM_other e] at g1
      exact ⟨y, a', cap, g1, g2, g3, rfl⟩
  have hst : Step ⟨c.w, fun m => c.Fz m ∨ Owns c.lam s.mem false q m, c.lam⟩ (s.setMem false q (.frow sz ws)).mem ⟨c.w, fun m => c.Fz m ∨ Owns c.lam s.mem false q m, c.lam⟩ (setM (s.setMem false q (.frow sz ws)).mem false j o') :=
    ⟨Turn.refl _ _, fun _ h => h, fun m h => .inl h, fun _ _ _ _ h => h, fun b i m h => .inr ⟨b, i, hown b i m h⟩, by rw [setM_len]; exact Nat.le_refl _, by rw [setM_len]; exact Nat.le_refl _, fun _ _ h => h⟩
  have hM2 : MemR ⟨c.w, fun m => c.Fz m ∨ Owns c.lam s.mem false q m, c.lam⟩ (setM (s.setMem false q (.frow sz ws)).mem false j o') := by
    refine ⟨?_, ?_, fun b i b' i' m h h' => h1.sep b i b' i' m (hown b i m h) (hown b' i' m h'), fun b i m h hf => h1.unf b i m (hown b i m h) hf, h1.fzl⟩
    · intro b i y p g1 g2
      by_cases e : b = false ∧ i = j
      · obtain ⟨rfl, rfl⟩ := e
        rw [setM_same hj1] at g1
        cases g1
        rw [hv] at g2
        exact hk c _ p hle rfl hconv (hi.mem.obj false i o p hx2 g2)
      · rw [setM_other e] at g1
        exact h1.obj b i y p g1 g2
    · intro b i ver p h
      obtain ⟨z, g1, g2⟩ := h1.dom b i ver p h
      by_cases e : b = false ∧ i = j
      · obtain ⟨rfl, rfl⟩ := e
        rw [hj1] at g1
        cases g1
        exact ⟨_, setM_same hj1, fun h => by rw [hv]; exact g2 (by rw [← ho]; exact h)⟩
      · exact ⟨z, by rw [setM_other e]; exact g1, g2⟩
  have es : setM (s.setMem false q (.frow sz ws)).mem false j o' = (AS.mk s.t ((s.loc.set q (.frow sz ws)).set j o') s.H).mem := by
    funext b
    cases b <;> simp [AS.mem, AS.setMem, setM]
  rw [es] at hst hM2
  exact ⟨⟨c.w, fun m => c.Fz m ∨ Owns c.lam s.mem false q m, c.lam⟩, rfl, hi1.step hst hM2 rfl⟩
/-- A row in a field of a variable. -/
theorem leads_freezeC {s : AS} {q j sz i : Nat} {ws vs : List AV} (hq : s.loc[q]? = some (.row sz ws)) (hj : s.loc[j]? = some (.cell (.agg vs))) (hne : j ≠ q) (hi : vs[i]? = some (.own false q ws.length)) : Leads s ⟨s.t, (s.loc.set q (.frow sz ws)).set j (.cell (.agg (vs.set i (.lit sz ws)))), s.H⟩ := by
  refine leads_freezeO hq hj hne rfl rfl ?_
  rintro c d pl hle hw hconv ⟨m, t, cs, h1, h2, h3⟩
  refine ⟨m, t, cs, h1, ?_, by rw [hw]; exact h3⟩
  rw [CR] at h2 ⊢
  obtain ⟨css, h2, h4⟩ := h2
  exact ⟨css, crs_set hle hconv hi h2, h4⟩
/-- A row in a row. -/
theorem leads_freezeR {s : AS} {q j sz sz' i : Nat} {ws vs : List AV} (hq : s.loc[q]? = some (.row sz ws)) (hj : s.loc[j]? = some (.row sz' vs)) (hne : j ≠ q) (hi : vs[i]? = some (.own false q ws.length)) : Leads s ⟨s.t, (s.loc.set q (.frow sz ws)).set j (.row sz' (vs.set i (.lit sz ws))), s.H⟩ := by
  refine leads_freezeO hq hj hne (by simp [AO.ver]) rfl ?_
  rintro c d pl hle hw hconv ⟨h1, h2, h3⟩
  refine ⟨?_, h2, ?_⟩
  · intro v hv
    rcases List.mem_or_eq_of_mem_set hv with hv | rfl
    · exact h1 v hv
    · have := h1 _ (List.mem_of_getElem? hi)
      simpa [AV.size] using this
  · rcases h3 with ⟨g1, g2⟩ | ⟨m, cap, cur, t, css, g1, g2, g3, g4, g5, g6, g7⟩
    · subst g2
      cases hi
    · right
      refine ⟨m, cap, cur, t, css, g1, by rw [hw]; exact g2, by simpa using g3, g4, g5, crs_set hle hconv hi g6, by simpa using g7⟩
theorem Leads.trans {s s' s'' : AS} (h : Leads s s') (k : Leads s' s'') : Leads s s'' := by
  intro x N c0 H0 c a h0 hi
  obtain ⟨d, e, hi'⟩ := h x N c0 H0 c a h0 hi
  obtain ⟨d', e', hi''⟩ := k x N c0 H0 d a hi'.len hi'
  exact ⟨d', e'.trans e, hi''⟩
end Go.Abs
/- Contracts of the small functions. -/
set_option linter.unusedVariables false
set_option linter.unusedSimpArgs false
set_option maxRecDepth 100000
set_option maxHeartbeats 2000000
namespace Go.Abs
open Go.RowKit Go.Proofs Go.Shaft
section
variable {x : X} {N : Nat} {s : AS} {Q : Exit → AS → Prop} {fn : Func} {p : List Nat}
theorem sq (h : AWP x N (at' fn (0 :: p)) s (aThen (fun s' => AWP x N (at' fn (1 :: p)) s' Q) Q)) (hk : kSeq (at' fn p) = true := by kernel_rfl) : AWP x N (at' fn p) s Q := at_seq hk h
end
theorem hh3 {H : List AO} (hH : okH H) : ((∀ o ∈ H, o.ok shd = true) ↔ True) ∧ ((∀ o ∈ H, o.ok (pm H.length) = true) ↔ True) ∧ ∀ m, (∀ o ∈ H, o.ok (pl m) = true) ↔ True :=
  ⟨iff_true_intro (okH_shd hH), iff_true_intro hH, fun m => iff_true_intro (okH_pl hH m)⟩
theorem o_i {a b c : Prop} : (a ∨ b → c) ↔ (a → c) ∧ (b → c) := or_imp
theorem f_a {α : Sort _} {p q : α → Prop} : (∀ x, p x ∧ q x) ↔ (∀ x, p x) ∧ ∀ x, q x := forall_and
attribute [simp] ti22 ti23 ti24 ti26 ti30 ti42 ti45 ti52 ti122 ti125 ti88 ti92 ti46
theorem c118 (a b c : Int) : Con E 118 [I a, I b, I c] (.bool (inB a b c)) := by
 intro n H hH
 have h00 := hh3 hH
 have ⟨hHs, hH', hpl⟩ := h00
 refine at_start (fn := Tryz.f118) [.tmp 6] 15 H.length rfl rfl rfl rfl (by kernel_rfl) (by kernel_rfl) (by simp) (Nat.le_refl _) ?_
 refine sq ?_
 refine at_regK [0, 1, 2] rfl ?_
 try simp [h00, o_i, f_a]
 refine sq ?_
 refine at_regK [6] rfl ?_
 try simp [h00, o_i, f_a]
 refine pops_split 10 rfl (fun hg1 => ?_) (fun hg1 => ?_)
 ·
  try simp [h00, o_i, f_a, hg1]
  refine at_ret (by kernel_rfl) ?_
  try simp [h00, o_i, f_a]
  simp [inB] at hg1 ⊢
  simp [hg1]
 ·
  try simp [h00, o_i, f_a, hg1]
  refine at_ret (by kernel_rfl) ?_
  try simp [h00, o_i, f_a]
  simp [inB] at hg1 ⊢
  omega

theorem c165 (s : Sp) (m : Int) : Con E 165 [eSp s, I m] (.bool (spanB s m)) := by
 intro n H hH
 have h00 := hh3 hH
 have ⟨hHs, hH', hpl⟩ := h00
 refine at_start (fn := Tryz.f165) [.tmp 4] 21 H.length rfl rfl rfl rfl (by kernel_rfl) (by kernel_rfl) (by simp) (Nat.le_refl _) ?_
 refine sq ?_
 refine at_regK [1, 2] rfl ?_
 try simp [h00, o_i, f_a]
 refine sq ?_
 refine at_regK [4] rfl ?_
 try simp [h00, o_i, f_a]
 refine pops_split 8 rfl (fun hg1 => ?_) (fun hg1 => ?_)
 ·
  try simp [h00, o_i, f_a, hg1]
  refine pops_split 15 rfl (fun hg2 => ?_) (fun hg2 => ?_)
  ·
   try simp [h00, o_i, f_a, hg2]
   refine at_ret (by kernel_rfl) ?_
   try simp [h00, o_i, f_a]
   simp [spanB, hg1, hg2]
  ·
   try simp [h00, o_i, f_a, hg2]
   refine at_ret (by kernel_rfl) ?_
   try simp [h00, o_i, f_a]
   simp [spanB]
   intros; simp at *; omega
 ·
  try simp [h00, o_i, f_a, hg1]
  refine at_ret (by kernel_rfl) ?_
  try simp [h00, o_i, f_a]
  simp [spanB]
  intros; simp at *; omega

theorem c143 (k : Kn) (hk : Few k) : Con E 143 [eKn k] (I (marksM k)) := by
 intro n H hH
 have h00 := hh3 hH
 have ⟨hHs, hH', hpl⟩ := h00
 refine at_start (fn := Tryz.f143) [.tmp 2] 11 H.length rfl rfl rfl rfl (by kernel_rfl) (by kernel_rfl) (by simp) (Nat.le_refl _) ?_
 refine sq ?_
 refine at_regK [1] rfl ?_
 try simp [h00, o_i, f_a]
 refine sq ?_
 refine at_regK [2] rfl ?_
 try simp [h00, o_i, f_a]
 refine at_ret (by kernel_rfl) ?_
 try simp [h00, o_i, f_a]
 have := hk.l
 have := hk.d
 rw [wrap_id (n := 1 + (k.loads.length : Int)) (by omega) (by omega), wrap_id (by omega) (by omega)]
 simp [marksM]

theorem c80 (k : Kn) (hk : Few k) (a : Int) (h0 : -1 ≤ a) (h1 : a ≤ 1000) : Con E 80 [eKn k, I a] (I (drawnM k a)) := by
 intro n H hH
 have h00 := hh3 hH
 have ⟨hHs, hH', hpl⟩ := h00
 refine at_start (fn := Tryz.f80) [.tmp 4] 12 H.length rfl rfl rfl rfl (by kernel_rfl) (by kernel_rfl) (by simp) (Nat.le_refl _) ?_
 refine sq ?_
 refine at_regK [1, 2] rfl ?_
 try simp [h00, o_i, f_a]
 refine sq ?_
 refine sq ?_
 refine at_regK [1, 2, 6] rfl ?_
 try simp [h00, o_i, f_a]
 refine at_cond rfl rfl (fun hb6 => ?_) (fun hb6 => ?_)
 ·
  try simp at hb6
  refine sq ?_
  refine at_regK [4] rfl ?_
  try simp [h00, o_i, f_a]
  refine at_ret (by kernel_rfl) ?_
  try simp [h00, o_i, f_a]
  simp [drawnM, hb6]
 ·
  try simp at hb6
  refine at_skip (by kernel_rfl) ?_
  try simp [h00, o_i, f_a]
  refine sq ?_
  refine at_regK [4] rfl ?_
  try simp [h00, o_i, f_a]
  refine at_ret (by kernel_rfl) ?_
  try simp [h00, o_i, f_a]
  have := hk.l
  rw [wrap_id (by omega) (by omega)]
  simp [drawnM, hb6]

theorem c75 (k : Kn) : Con E 75 [eKn k] (eLds k.loads) := by
 intro n H hH
 have h00 := hh3 hH
 have ⟨hHs, hH', hpl⟩ := h00
 refine at_start (fn := Tryz.f75) [.tmp 2] 5 H.length rfl rfl rfl rfl (by kernel_rfl) (by kernel_rfl) (by simp) (Nat.le_refl _) ?_
 refine sq ?_
 refine at_regK [1] rfl ?_
 try simp [h00, o_i, f_a]
 refine sq ?_
 refine at_regK [2] rfl ?_
 try simp [h00, o_i, f_a]
 refine at_ret (by kernel_rfl) ?_
 try simp [h00, o_i, f_a]

theorem c77 (k : Kn) : Con E 77 [eKn k] (eLds k.draws) := by
 intro n H hH
 have h00 := hh3 hH
 have ⟨hHs, hH', hpl⟩ := h00
 refine at_start (fn := Tryz.f77) [.tmp 2] 5 H.length rfl rfl rfl rfl (by kernel_rfl) (by kernel_rfl) (by simp) (Nat.le_refl _) ?_
 refine sq ?_
 refine at_regK [1] rfl ?_
 try simp [h00, o_i, f_a]
 refine sq ?_
 refine at_regK [2] rfl ?_
 try simp [h00, o_i, f_a]
 refine at_ret (by kernel_rfl) ?_
 try simp [h00, o_i, f_a]

theorem c140 (l : List Ld) (i : Nat) (x : Ld) (hx : l[i]? = some x) : Con E 140 [eLds l, I i] (eLd x) := by
 intro n H hH
 have h00 := hh3 hH
 have ⟨hHs, hH', hpl⟩ := h00
 refine at_start (fn := Tryz.f140) [.cell 4 42] 9 H.length rfl rfl rfl rfl (by kernel_rfl) (by kernel_rfl) (by simp) (Nat.le_refl _) ?_
 refine sq ?_
 refine at_regK [0, 1, 4] rfl ?_
 try simp [h00, o_i, f_a, hx]
 refine sq ?_
 refine at_regK [4] rfl ?_
 try simp [h00, o_i, f_a, hx]
 refine at_ret (by kernel_rfl) ?_
 try simp [h00, o_i, f_a, hx]

theorem c139 (l : List Ld) (i : Nat) (x : Ld) (hx : l[i]? = some x) : Con E 139 [eLds l, I i] (eLd x) := by
 intro n H hH
 have h00 := hh3 hH
 have ⟨hHs, hH', hpl⟩ := h00
 refine at_start (fn := Tryz.f139) [.cell 4 42] 9 H.length rfl rfl rfl rfl (by kernel_rfl) (by kernel_rfl) (by simp) (Nat.le_refl _) ?_
 refine sq ?_
 refine at_regK [0, 1, 4] rfl ?_
 try simp [h00, o_i, f_a, hx]
 refine sq ?_
 refine at_regK [4] rfl ?_
 try simp [h00, o_i, f_a, hx]
 refine at_ret (by kernel_rfl) ?_
 try simp [h00, o_i, f_a, hx]

theorem c82 (l : List Ld) (hl : l.length ≤ 100) (h : Int) : Con E 82 [eLds l, I h] (I (byHr l h)) := by
 intro n H hH
 have h00 := hh3 hH
 have ⟨hHs, hH', hpl⟩ := h00
 refine at_start (fn := Tryz.f82) [.tmp 4] 22 H.length rfl rfl rfl rfl (by kernel_rfl) (by kernel_rfl) (by simp) (Nat.le_refl _) ?_
 refine sq ?_
 refine at_regK [0, 1] rfl ?_
 try simp [h00, o_i, f_a]
 refine sq ?_
 refine at_regK [0, 1, 5] rfl ?_
 try simp [h00, o_i, f_a]
 refine sq ?_
 refine sq ?_
 refine at_regK [0, 1, 5, 8, 9] rfl ?_
 try simp [h00, o_i, f_a]
 refine at_block rfl ?_
 refine at_count l.length (fun i s => s = ⟨[(0, eLds l), (1, I h), (5, I (byHr (l.take i) h)), (8, I l.length), (9, I i)], [], H⟩) rfl (by simp [byHr]) ?_
 rintro i s hi rfl
 refine sq ?_
 refine at_regK [0, 1, 5, 8, 9, 10] rfl ?_
 try simp [h00, o_i, f_a]
 refine sq ?_
 refine at_cond rfl rfl (fun hb10 => ?_) (fun hb10 => ?_)
 ·
  try simp at hb10
  obtain ⟨x, hx⟩ : ∃ x, l[i]? = some x := ⟨_, List.getElem?_eq_getElem hb10⟩
  refine at_skip (by kernel_rfl) ?_
  try simp [h00, o_i, f_a]
  refine sq ?_
  refine at_block rfl ?_
  refine sq ?_
  refine at_regK [0, 1, 5, 6, 8, 9] rfl ?_
  try simp [h00, o_i, f_a]
  refine sq ?_
  refine at_regK [0, 1, 5, 8, 9, 17] rfl ?_
  try simp [h00, o_i, f_a]
  refine (c140 _ _ _ hx).use hH ?_
  try simp [h00, o_i, f_a]
  refine at_cond rfl rfl (fun hb17 => ?_) (fun hb17 => ?_)
  ·
   try simp at hb17
   refine at_regK [0, 1, 5, 8, 9] rfl ?_
   try simp [h00, o_i, f_a]
   refine at_regK [0, 1, 5, 8, 9] rfl ?_
   try simp [h00, o_i, f_a]
   have e1 := byHr_step (h := h) hx
   have e2 := byHr_le (l.take i) h
   rw [List.length_take] at e2
   rw [wrap_id (by omega) (by omega), wrap_id (by omega) (by omega), e1]
   simp [hb17, hb10]
  ·
   try simp at hb17
   refine at_skip (by kernel_rfl) ?_
   try simp [h00, o_i, f_a]
   refine at_regK [0, 1, 5, 8, 9] rfl ?_
   try simp [h00, o_i, f_a]
   have e1 := byHr_step (h := h) hx
   have hq : ¬ x.hour ≤ h := by omega
   rw [if_neg hq] at e1
   rw [wrap_id (by omega) (by omega), e1]
   simp [hb10]
 ·
  try simp at hb10
  refine at_exit rfl ?_
  try simp [h00, o_i, f_a]
  refine sq ?_
  refine at_regK [4] rfl ?_
  try simp [h00, o_i, f_a]
  refine at_ret (by kernel_rfl) ?_
  try simp [h00, o_i, f_a]
  rw [List.take_of_length_le hb10]

theorem c81 (l : List Ld) (hl : l.length ≤ 100) (h : Int) : Con E 81 [eLds l, I h] (I (byHr l h)) := by
 intro n H hH
 have h00 := hh3 hH
 have ⟨hHs, hH', hpl⟩ := h00
 refine at_start (fn := Tryz.f81) [.tmp 4] 22 H.length rfl rfl rfl rfl (by kernel_rfl) (by kernel_rfl) (by simp) (Nat.le_refl _) ?_
 refine sq ?_
 refine at_regK [0, 1] rfl ?_
 try simp [h00, o_i, f_a]
 refine sq ?_
 refine at_regK [0, 1, 5] rfl ?_
 try simp [h00, o_i, f_a]
 refine sq ?_
 refine sq ?_
 refine at_regK [0, 1, 5, 8, 9] rfl ?_
 try simp [h00, o_i, f_a]
 refine at_block rfl ?_
 refine at_count l.length (fun i s => s = ⟨[(0, eLds l), (1, I h), (5, I (byHr (l.take i) h)), (8, I l.length), (9, I i)], [], H⟩) rfl (by simp [byHr]) ?_
 rintro i s hi rfl
 refine sq ?_
 refine at_regK [0, 1, 5, 8, 9, 10] rfl ?_
 try simp [h00, o_i, f_a]
 refine sq ?_
 refine at_cond rfl rfl (fun hb10 => ?_) (fun hb10 => ?_)
 ·
  try simp at hb10
  obtain ⟨x, hx⟩ : ∃ x, l[i]? = some x := ⟨_, List.getElem?_eq_getElem hb10⟩
  refine at_skip (by kernel_rfl) ?_
  try simp [h00, o_i, f_a]
  refine sq ?_
  refine at_block rfl ?_
  refine sq ?_
  refine at_regK [0, 1, 5, 6, 8, 9] rfl ?_
  try simp [h00, o_i, f_a]
  refine sq ?_
  refine at_regK [0, 1, 5, 8, 9, 17] rfl ?_
  try simp [h00, o_i, f_a]
  refine (c139 _ _ _ hx).use hH ?_
  try simp [h00, o_i, f_a]
  refine at_cond rfl rfl (fun hb17 => ?_) (fun hb17 => ?_)
  ·
   try simp at hb17
   refine at_regK [0, 1, 5, 8, 9] rfl ?_
   try simp [h00, o_i, f_a]
   refine at_regK [0, 1, 5, 8, 9] rfl ?_
   try simp [h00, o_i, f_a]
   have e1 := byHr_step (h := h) hx
   have e2 := byHr_le (l.take i) h
   rw [List.length_take] at e2
   rw [wrap_id (by omega) (by omega), wrap_id (by omega) (by omega), e1]
   simp [hb17, hb10]
  ·
   try simp at hb17
   refine at_skip (by kernel_rfl) ?_
   try simp [h00, o_i, f_a]
   refine at_regK [0, 1, 5, 8, 9] rfl ?_
   try simp [h00, o_i, f_a]
   have e1 := byHr_step (h := h) hx
   have hq : ¬ x.hour ≤ h := by omega
   rw [if_neg hq] at e1
   rw [wrap_id (by omega) (by omega), e1]
   simp [hb10]
 ·
  try simp at hb10
  refine at_exit rfl ?_
  try simp [h00, o_i, f_a]
  refine sq ?_
  refine at_regK [4] rfl ?_
  try simp [h00, o_i, f_a]
  refine at_ret (by kernel_rfl) ?_
  try simp [h00, o_i, f_a]
  rw [List.take_of_length_le hb10]
end Go.Abs
/- Contracts: looking for records. -/
set_option linter.unusedVariables false
set_option linter.unusedSimpArgs false
set_option maxRecDepth 100000
set_option maxHeartbeats 2000000
namespace Go.Abs
open Go.RowKit Go.Proofs Go.Shaft
attribute [simp] ti22 ti23 ti24 ti26 ti30 ti42 ti45 ti52 ti122 ti125 ti88 ti92 ti46
theorem c142 (x : Ld) (a : Int) (j n : Nat) (H : List AO) (hH : okH H) (hj : H[j]? = some (.cell (I a))) : ACall E 142 [eLd x, .ref true j 0 [] 0] n H (Is (.bool (x.id == a)) [] H) := by
 have h00 := hh3 hH
 have ⟨hHs, hH', hpl⟩ := h00
 refine at_start (fn := Tryz.f142) [.tmp 3] 8 H.length rfl rfl rfl rfl (by kernel_rfl) (by kernel_rfl) (by simp) (Nat.le_refl _) ?_
 refine sq ?_
 refine at_regK [1, 2] rfl ?_
 try simp [h00, o_i, f_a, hj]
 refine sq ?_
 refine at_regK [3] rfl ?_
 try simp [h00, o_i, f_a, hj]
 refine at_ret (by kernel_rfl) ?_
 try simp [h00, o_i, f_a, hj]

theorem c147 (x : Ld) (a : Int) (j n : Nat) (H : List AO) (hH : okH H) (hj : H[j]? = some (.cell (I a))) : ACall E 147 [eLd x, .ref true j 0 [] 0] n H (Is (.bool (x.id == a)) [] H) := by
 have h00 := hh3 hH
 have ⟨hHs, hH', hpl⟩ := h00
 refine at_start (fn := Tryz.f147) [.tmp 3] 8 H.length rfl rfl rfl rfl (by kernel_rfl) (by kernel_rfl) (by simp) (Nat.le_refl _) ?_
 refine sq ?_
 refine at_regK [1, 2] rfl ?_
 try simp [h00, o_i, f_a, hj]
 refine sq ?_
 refine at_regK [3] rfl ?_
 try simp [h00, o_i, f_a, hj]
 refine at_ret (by kernel_rfl) ?_
 try simp [h00, o_i, f_a, hj]

theorem c141 (l : List Ld) (hl : l.length ≤ 100) (f : FuncId) (cap : List AV) (p : Ld → Bool) (n : Nat) (H : List AO) (hH : okH H) (hc : ∀ v ∈ cap, v.ok shd = true) (hs : ∀ v ∈ cap, v.solid = true)
  (hf : ∀ x n, x ∈ l → ACall E f (eLd x :: cap) n H (Is (.bool (p x)) [] H)) : ACall E 141 [eLds l, .func (.func f) [] cap] n H (Is (I (idxP l p)) [] H) := by
 have h00 := hh3 hH
 have ⟨hHs, hH', hpl⟩ := h00
 have hx : ∀ s : AS, s.expos cap = (cap, s) := fun s => expos_ok hc
 have hc2 : (∀ v ∈ cap, v.ok shd = true) ↔ True := iff_true_intro hc
 have hs2 : (∀ v ∈ cap, v.solid = true) ↔ True := iff_true_intro hs
 refine at_start (fn := Tryz.f141) [.tmp 4] 19 H.length rfl rfl rfl rfl (by kernel_rfl) (by kernel_rfl) (by simp) (Nat.le_refl _) ?_
 refine sq ?_
 refine at_regK [0, 1] rfl ?_
 try simp [h00, o_i, f_a, hx, hc2, hs2]
 refine sq ?_
 refine sq ?_
 refine at_regK [0, 1, 7, 8] rfl ?_
 try simp [h00, o_i, f_a, hx, hc2, hs2]
 refine at_block rfl ?_
 refine at_count l.length (fun i s => (∀ j y, j < i → l[j]? = some y → p y = false) ∧ s = ⟨[(0, eLds l), (1, .func (.func f) [] cap), (7, I l.length), (8, I i)], [], H⟩) rfl (⟨by simp, rfl⟩) ?_
 rintro i s hi ⟨hno, rfl⟩
 refine sq ?_
 refine at_regK [0, 1, 7, 8, 9] rfl ?_
 try simp [h00, o_i, f_a, hx, hc2, hs2]
 refine sq ?_
 refine at_cond rfl rfl (fun hb9 => ?_) (fun hb9 => ?_)
 ·
  try simp at hb9
  obtain ⟨y, hy⟩ : ∃ y, l[i]? = some y := ⟨_, List.getElem?_eq_getElem hb9⟩
  refine at_skip (by kernel_rfl) ?_
  try simp [h00, o_i, f_a, hx, hc2, hs2]
  refine sq ?_
  refine at_block rfl ?_
  refine sq ?_
  refine at_regK [0, 1, 5, 7, 8] rfl ?_
  try simp [h00, o_i, f_a, hx, hc2, hs2]
  refine sq ?_
  refine at_regK [0, 1, 5, 7, 8, 16] rfl ?_
  try simp [h00, o_i, f_a, hx, hc2, hs2, hy]
  refine (hf y _ (List.mem_of_getElem? hy)).of_is ?_
  try simp [h00, o_i, f_a, hx, hc2, hs2, hy]
  refine at_cond rfl rfl (fun hb16 => ?_) (fun hb16 => ?_)
  ·
   try simp at hb16
   refine sq ?_
   refine at_regK [4] rfl ?_
   try simp [h00, o_i, f_a, hx, hc2, hs2]
   refine at_ret (by kernel_rfl) ?_
   try simp [h00, o_i, f_a, hx, hc2, hs2]
   exact (idxP_at hy hb16 hno).symm
  ·
   try simp at hb16
   refine at_skip (by kernel_rfl) ?_
   try simp [h00, o_i, f_a, hx, hc2, hs2]
   refine at_regK [0, 1, 7, 8] rfl ?_
   try simp [h00, o_i, f_a, hx, hc2, hs2]
   refine ⟨hb9, ?_, by rw [wrap_id (by omega) (by omega)]⟩
   intro j z hj hz
   rcases Nat.lt_succ_iff_lt_or_eq.1 hj with h | rfl
   ·exact hno j z h hz
   ·rw [hy] at hz; cases hz; simpa using hb16
 ·
  try simp at hb9
  refine at_exit rfl ?_
  try simp [h00, o_i, f_a, hx, hc2, hs2]
  refine sq ?_
  refine at_regK [4] rfl ?_
  try simp [h00, o_i, f_a, hx, hc2, hs2]
  refine at_ret (by kernel_rfl) ?_
  try simp [h00, o_i, f_a, hx, hc2, hs2]
  exact (idxP_none fun j y hj hy => hno j y (by omega) hy).symm

theorem c146 (l : List Ld) (hl : l.length ≤ 100) (f : FuncId) (cap : List AV) (p : Ld → Bool) (n : Nat) (H : List AO) (hH : okH H) (hc : ∀ v ∈ cap, v.ok shd = true) (hs : ∀ v ∈ cap, v.solid = true)
  (hf : ∀ x n, x ∈ l → ACall E f (eLd x :: cap) n H (Is (.bool (p x)) [] H)) : ACall E 146 [eLds l, .func (.func f) [] cap] n H (Is (I (idxP l p)) [] H) := by
 have h00 := hh3 hH
 have ⟨hHs, hH', hpl⟩ := h00
 have hx : ∀ s : AS, s.expos cap = (cap, s) := fun s => expos_ok hc
 have hc2 : (∀ v ∈ cap, v.ok shd = true) ↔ True := iff_true_intro hc
 have hs2 : (∀ v ∈ cap, v.solid = true) ↔ True := iff_true_intro hs
 refine at_start (fn := Tryz.f146) [.tmp 4] 19 H.length rfl rfl rfl rfl (by kernel_rfl) (by kernel_rfl) (by simp) (Nat.le_refl _) ?_
 refine sq ?_
 refine at_regK [0, 1] rfl ?_
 try simp [h00, o_i, f_a, hx, hc2, hs2]
 refine sq ?_
 refine sq ?_
 refine at_regK [0, 1, 7, 8] rfl ?_
 try simp [h00, o_i, f_a, hx, hc2, hs2]
 refine at_block rfl ?_
 refine at_count l.length (fun i s => (∀ j y, j < i → l[j]? = some y → p y = false) ∧ s = ⟨[(0, eLds l), (1, .func (.func f) [] cap), (7, I l.length), (8, I i)], [], H⟩) rfl (⟨by simp, rfl⟩) ?_
 rintro i s hi ⟨hno, rfl⟩
 refine sq ?_
 refine at_regK [0, 1, 7, 8, 9] rfl ?_
 try simp [h00, o_i, f_a, hx, hc2, hs2]
 refine sq ?_
 refine at_cond rfl rfl (fun hb9 => ?_) (fun hb9 => ?_)
 ·
  try simp at hb9
  obtain ⟨y, hy⟩ : ∃ y, l[i]? = some y := ⟨_, List.getElem?_eq_getElem hb9⟩
  refine at_skip (by kernel_rfl) ?_
  try simp [h00, o_i, f_a, hx, hc2, hs2]
  refine sq ?_
  refine at_block rfl ?_
  refine sq ?_
  refine at_regK [0, 1, 5, 7, 8] rfl ?_
  try simp [h00, o_i, f_a, hx, hc2, hs2]
  refine sq ?_
  refine at_regK [0, 1, 5, 7, 8, 16] rfl ?_
  try simp [h00, o_i, f_a, hx, hc2, hs2, hy]
  refine (hf y _ (List.mem_of_getElem? hy)).of_is ?_
  try simp [h00, o_i, f_a, hx, hc2, hs2, hy]
  refine at_cond rfl rfl (fun hb16 => ?_) (fun hb16 => ?_)
  ·
   try simp at hb16
   refine sq ?_
   refine at_regK [4] rfl ?_
   try simp [h00, o_i, f_a, hx, hc2, hs2]
   refine at_ret (by kernel_rfl) ?_
   try simp [h00, o_i, f_a, hx, hc2, hs2]
   exact (idxP_at hy hb16 hno).symm
  ·
   try simp at hb16
   refine at_skip (by kernel_rfl) ?_
   try simp [h00, o_i, f_a, hx, hc2, hs2]
   refine at_regK [0, 1, 7, 8] rfl ?_
   try simp [h00, o_i, f_a, hx, hc2, hs2]
   refine ⟨hb9, ?_, by rw [wrap_id (by omega) (by omega)]⟩
   intro j z hj hz
   rcases Nat.lt_succ_iff_lt_or_eq.1 hj with h | rfl
   ·exact hno j z h hz
   ·rw [hy] at hz; cases hz; simpa using hb16
 ·
  try simp at hb9
  refine at_exit rfl ?_
  try simp [h00, o_i, f_a, hx, hc2, hs2]
  refine sq ?_
  refine at_regK [4] rfl ?_
  try simp [h00, o_i, f_a, hx, hc2, hs2]
  refine at_ret (by kernel_rfl) ?_
  try simp [h00, o_i, f_a, hx, hc2, hs2]
  exact (idxP_none fun j y hj hy => hno j y (by omega) hy).symm

theorem c86 (l : List Ld) (hl : l.length ≤ 100) (a : Int) : Con E 86 [eLds l, I a] (I (find l a)) := by
 intro n H hH
 have h00 := hh3 hH
 have ⟨hHs, hH', hpl⟩ := h00
 refine at_start (fn := Tryz.f86) [.tmp 4] 8 H.length rfl rfl rfl rfl (by kernel_rfl) (by kernel_rfl) (by simp) (Nat.le_refl _) ?_
 refine sq ?_
 refine at_regK [0, 3] rfl ?_
 try simp [h00, o_i, f_a]
 refine sq ?_
 refine at_regK [4] rfl ?_
 try simp [h00, o_i, f_a]
 refine (c141 l hl 142 [.ref true H.length 0 [] 0] (fun x => x.id == a) _ _ (okH_push (o := .cell (I a)) hH (by simp)) (by simp) (by simp) (fun x n _ => c142 x a _ n _ (okH_push (o := .cell (I a)) hH (by simp)) (by simp))).of_is ?_
 try simp [h00, o_i, f_a]
 refine at_ret (by kernel_rfl) ?_
 try simp [h00, o_i, f_a]
 exact idxP_find l a

theorem c94 (l : List Ld) (hl : l.length ≤ 100) (a : Int) : Con E 94 [eLds l, I a] (I (find l a)) := by
 intro n H hH
 have h00 := hh3 hH
 have ⟨hHs, hH', hpl⟩ := h00
 refine at_start (fn := Tryz.f94) [.tmp 4] 8 H.length rfl rfl rfl rfl (by kernel_rfl) (by kernel_rfl) (by simp) (Nat.le_refl _) ?_
 refine sq ?_
 refine at_regK [0, 3] rfl ?_
 try simp [h00, o_i, f_a]
 refine sq ?_
 refine at_regK [4] rfl ?_
 try simp [h00, o_i, f_a]
 refine (c146 l hl 147 [.ref true H.length 0 [] 0] (fun x => x.id == a) _ _ (okH_push (o := .cell (I a)) hH (by simp)) (by simp) (by simp) (fun x n _ => c147 x a _ n _ (okH_push (o := .cell (I a)) hH (by simp)) (by simp))).of_is ?_
 try simp [h00, o_i, f_a]
 refine at_ret (by kernel_rfl) ?_
 try simp [h00, o_i, f_a]
 exact idxP_find l a

theorem c74 (l : List Ld) (hl : l.length ≤ 100) (a b : Int) : Con E 74 [eLds l, I a, I b] (.bool (orderedB l a b)) := by
 intro n H hH
 have h00 := hh3 hH
 have ⟨hHs, hH', hpl⟩ := h00
 refine at_start (fn := Tryz.f74) [.tmp 6] 22 H.length rfl rfl rfl rfl (by kernel_rfl) (by kernel_rfl) (by simp) (Nat.le_refl _) ?_
 refine sq ?_
 refine at_regK [0, 1, 2] rfl ?_
 try simp [h00, o_i, f_a]
 refine sq ?_
 refine at_regK [7, 8] rfl ?_
 try simp [h00, o_i, f_a]
 refine (c86 _ (by assumption) _).use hH ?_
 try simp [h00, o_i, f_a]
 refine (c86 _ (by assumption) _).use hH ?_
 try simp [h00, o_i, f_a]
 refine sq ?_
 refine at_regK [6] rfl ?_
 try simp [h00, o_i, f_a]
 refine pops_split 17 rfl (fun hg1 => ?_) (fun hg1 => ?_)
 ·
  try simp [h00, o_i, f_a, hg1]
  refine at_ret (by kernel_rfl) ?_
  try simp [h00, o_i, f_a]
  simp at hg1
  simp [orderedB, hg1]
 ·
  try simp [h00, o_i, f_a, hg1]
  refine at_ret (by kernel_rfl) ?_
  try simp [h00, o_i, f_a]
  simp at hg1
  simp [orderedB]
  intros; omega

theorem c76 (l : List Ld) (hl : l.length ≤ 100) (a b : Int) : Con E 76 [eLds l, I a, I b] (.bool (orderedB l a b)) := by
 intro n H hH
 have h00 := hh3 hH
 have ⟨hHs, hH', hpl⟩ := h00
 refine at_start (fn := Tryz.f76) [.tmp 6] 22 H.length rfl rfl rfl rfl (by kernel_rfl) (by kernel_rfl) (by simp) (Nat.le_refl _) ?_
 refine sq ?_
 refine at_regK [0, 1, 2] rfl ?_
 try simp [h00, o_i, f_a]
 refine sq ?_
 refine at_regK [7, 8] rfl ?_
 try simp [h00, o_i, f_a]
 refine (c94 _ (by assumption) _).use hH ?_
 try simp [h00, o_i, f_a]
 refine (c94 _ (by assumption) _).use hH ?_
 try simp [h00, o_i, f_a]
 refine sq ?_
 refine at_regK [6] rfl ?_
 try simp [h00, o_i, f_a]
 refine pops_split 17 rfl (fun hg1 => ?_) (fun hg1 => ?_)
 ·
  try simp [h00, o_i, f_a, hg1]
  refine at_ret (by kernel_rfl) ?_
  try simp [h00, o_i, f_a]
  simp at hg1
  simp [orderedB, hg1]
 ·
  try simp [h00, o_i, f_a, hg1]
  refine at_ret (by kernel_rfl) ?_
  try simp [h00, o_i, f_a]
  simp at hg1
  simp [orderedB]
  intros; omega
end Go.Abs
