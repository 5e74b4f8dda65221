/- Part 6 of what the proof rests on: an abstract machine over the model, its contracts for the program, and the plain mathematics of kilns. -/
import Derived.Test.YtaapndcljpcelaaGreatP5
/- Contracts: the specification's ties. -/
set_option linter.unusedVariables false
set_option linter.unusedSimpArgs false
set_option maxRecDepth 100000
set_option maxHeartbeats 2000000
namespace Go.Abs
open Go.RowKit Go.Proofs Go.Shaft
attribute [simp] ti22 ti23 ti24 ti26 ti30 ti42 ti45 ti52 ti122 ti125 ti88 ti92 ti46
attribute [simp] ti134 ti131 ti48 ti85 ti143 ti189 ti190 ti192 ti204 ti208 ti218 ti9 ti5 ti27 ti28 ti141

theorem c72 (k : Kn) (hk : Few k) (a : Int) (h0 : -1 ≤ a) (h1 : a ≤ 1000) : Con E 72 [eKn k, I a] (I (drawnM k a)) := by
  intro n H hH
  have hH' : (∀ o ∈ H, o.ok (pm H.length) = true) ↔ True := iff_true_intro hH
  have hHs : (∀ o ∈ H, o.ok shd = true) ↔ True := iff_true_intro (okH_shd hH)
  have hpl : ∀ m, (∀ o ∈ H, o.ok (pl m) = true) ↔ True := fun m => iff_true_intro (okH_pl hH m)
  refine at_start (fn := Tryz.f72) [.tmp 4] 12 H.length rfl rfl rfl rfl (by kernel_rfl) (by kernel_rfl) (by simp) (Nat.le_refl _) ?_
  refine at_seq (by kernel_rfl) ?_
  refine at_regK [1, 2] rfl ?_ -- R0
  try simp [hHs, hH', hpl, or_imp, forall_and]
  refine at_seq (by kernel_rfl) ?_
  refine at_seq (by kernel_rfl) ?_
  refine at_regK [1, 2, 6] rfl ?_ -- R1
  try simp [hHs, hH', hpl, or_imp, forall_and]
  refine at_cond rfl rfl (fun hb6 => ?_) (fun hb6 => ?_)
  · -- t6 = True
    try simp at hb6
    refine at_seq (by kernel_rfl) ?_
    refine at_regK [4] rfl ?_ -- R2
    try simp [hHs, hH', hpl, or_imp, forall_and]
    refine at_ret (by kernel_rfl) ?_
    try simp [hHs, hH', hpl, or_imp, forall_and]
    simp [drawnM, hb6]
  · -- t6 = False
    try simp at hb6
    refine at_skip (by kernel_rfl) ?_
    try simp [hHs, hH', hpl, or_imp, forall_and]
    refine at_seq (by kernel_rfl) ?_
    refine at_regK [4] rfl ?_ -- R3
    try simp [hHs, hH', hpl, or_imp, forall_and]
    refine at_ret (by kernel_rfl) ?_
    try simp [hHs, hH', hpl, or_imp, forall_and]
    have := hk.l
    rw [wrap_id (by omega) (by omega)]
    simp [drawnM, hb6]

theorem c85 (k : Kn) (hk : Few k) (hs : k.loads.Pairwise (fun x y => x.hour ≤ y.hour)) (h : Int) : Con E 85 [eKn k, I h] (I (byHr k.loads h)) := by
  intro n H hH
  have hH' : (∀ o ∈ H, o.ok (pm H.length) = true) ↔ True := iff_true_intro hH
  have hHs : (∀ o ∈ H, o.ok shd = true) ↔ True := iff_true_intro (okH_shd hH)
  have hpl : ∀ m, (∀ o ∈ H, o.ok (pl m) = true) ↔ True := fun m => iff_true_intro (okH_pl hH m)
  have hl := hk.l; have hd := hk.d
  refine at_start (fn := Tryz.f85) [.tmp 4] 25 H.length rfl rfl rfl rfl (by kernel_rfl) (by kernel_rfl) (by simp) (Nat.le_refl _) ?_
  refine at_seq (by kernel_rfl) ?_
  refine at_regK [1, 2] rfl ?_ -- R0
  try simp [hHs, hH', hpl, or_imp, forall_and]
  refine at_seq (by kernel_rfl) ?_
  refine at_regK [1, 2, 5] rfl ?_ -- R1
  try simp [hHs, hH', hpl, or_imp, forall_and]
  refine at_seq (by kernel_rfl) ?_
  refine at_seq (by kernel_rfl) ?_
  refine at_regK [1, 2, 5, 6] rfl ?_ -- R2
  try simp [hHs, hH', hpl, or_imp, forall_and]
  refine at_block rfl ?_ -- BLOCK 0
  refine at_count k.loads.length (fun i s => s = ⟨[(1, I h), (2, .ref false 0 0 [] 0), (5, I (byHr (k.loads.take i) h)), (6, I i)], [.cell (eKn k)], H⟩) rfl (by simp [byHr]) ?_
  rintro i s hi rfl
  refine at_seq (by kernel_rfl) ?_
  refine at_seq (by kernel_rfl) ?_
  refine at_regK [1, 2, 5, 6, 11] rfl ?_ -- R3
  try simp [hHs, hH', hpl, or_imp, forall_and]
  refine at_cond rfl rfl (fun hb11 => ?_) (fun hb11 => ?_)
  · -- t11 = True
    try simp at hb11
    obtain ⟨x, hx⟩ : ∃ x, k.loads[i]? = some x := ⟨_, List.getElem?_eq_getElem (by omega)⟩
    have i0 : (i : Int) < k.loads.length := by omega
    refine at_skip (by kernel_rfl) ?_
    try simp [hHs, hH', hpl, or_imp, forall_and, hx, i0]
    refine at_seq (by kernel_rfl) ?_
    refine at_block rfl ?_ -- BLOCK 1
    refine at_seq (by kernel_rfl) ?_
    refine at_regK [1, 2, 5, 6, 21] rfl ?_ -- R5
    try simp [hHs, hH', hpl, or_imp, forall_and, hx, i0]
    refine at_cond rfl rfl (fun hb21 => ?_) (fun hb21 => ?_)
    · -- t21 = True
      try simp at hb21
      refine at_regK [1, 2, 5, 6] rfl ?_ -- R6
      try simp [hHs, hH', hpl, or_imp, forall_and, hx, i0]
      refine at_regK [1, 2, 5, 6] rfl ?_ -- R4
      try simp [hHs, hH', hpl, or_imp, forall_and, hx, i0]
      rw [byHr_all hs hx hb21, wrap_id (by omega) (by omega)]
      exact ⟨by omega, by push_cast; rfl, rfl⟩
    · -- t21 = False
      try simp at hb21
      refine at_skip (by kernel_rfl) ?_
      try simp [hHs, hH', hpl, or_imp, forall_and, hx, i0]
      refine at_regK [1, 2, 5, 6] rfl ?_ -- R4
      try simp [hHs, hH', hpl, or_imp, forall_and, hx, i0]
      have e := byHr_step (h := h) hx
      rw [if_neg (by omega)] at e
      rw [e, wrap_id (by omega) (by omega)]
      exact ⟨by omega, by simp, rfl⟩
  · -- t11 = False
    try simp at hb11
    have hall : List.take i k.loads = k.loads := List.take_of_length_le (by omega)
    have hle := byHr_le k.loads h
    refine at_exit rfl ?_
    try simp [hHs, hH', hpl, or_imp, forall_and, hall]
    refine at_seq (by kernel_rfl) ?_
    refine at_regK [4] rfl ?_ -- R7
    try simp [hHs, hH', hpl, or_imp, forall_and, hall]
    refine at_ret (by kernel_rfl) ?_
    try simp [hHs, hH', hpl, or_imp, forall_and, hall]

theorem c84 (k : Kn) (hk : Few k) (hs : k.draws.Pairwise (fun x y => x.hour ≤ y.hour)) (h : Int) : Con E 84 [eKn k, I h] (I (drawnM k (byHr k.draws h))) := by
  intro n H hH
  have hH' : (∀ o ∈ H, o.ok (pm H.length) = true) ↔ True := iff_true_intro hH
  have hHs : (∀ o ∈ H, o.ok shd = true) ↔ True := iff_true_intro (okH_shd hH)
  have hpl : ∀ m, (∀ o ∈ H, o.ok (pl m) = true) ↔ True := fun m => iff_true_intro (okH_pl hH m)
  have hl := hk.l; have hd := hk.d
  refine at_start (fn := Tryz.f84) [.tmp 4] 27 H.length rfl rfl rfl rfl (by kernel_rfl) (by kernel_rfl) (by simp) (Nat.le_refl _) ?_
  refine at_seq (by kernel_rfl) ?_
  refine at_regK [1, 2] rfl ?_ -- R0
  try simp [hHs, hH', hpl, or_imp, forall_and]
  refine at_seq (by kernel_rfl) ?_
  refine at_regK [1, 2, 5] rfl ?_ -- R1
  try simp [hHs, hH', hpl, or_imp, forall_and]
  refine at_seq (by kernel_rfl) ?_
  refine at_seq (by kernel_rfl) ?_
  refine at_regK [1, 2, 5, 6] rfl ?_ -- R2
  try simp [hHs, hH', hpl, or_imp, forall_and]
  refine at_block rfl ?_ -- BLOCK 0
  refine at_count k.draws.length (fun i s => s = ⟨[(1, I h), (2, .ref false 0 0 [] 0), (5, I (byHr (k.draws.take i) h)), (6, I i)], [.cell (eKn k)], H⟩) rfl (by simp [byHr]) ?_
  rintro i s hi rfl
  refine at_seq (by kernel_rfl) ?_
  refine at_seq (by kernel_rfl) ?_
  refine at_regK [1, 2, 5, 6, 11] rfl ?_ -- R3
  try simp [hHs, hH', hpl, or_imp, forall_and]
  refine at_cond rfl rfl (fun hb11 => ?_) (fun hb11 => ?_)
  · -- t11 = True
    try simp at hb11
    obtain ⟨x, hx⟩ : ∃ x, k.draws[i]? = some x := ⟨_, List.getElem?_eq_getElem (by omega)⟩
    have i0 : (i : Int) < k.draws.length := by omega
    refine at_skip (by kernel_rfl) ?_
    try simp [hHs, hH', hpl, or_imp, forall_and, hx, i0]
    refine at_seq (by kernel_rfl) ?_
    refine at_block rfl ?_ -- BLOCK 1
    refine at_seq (by kernel_rfl) ?_
    refine at_regK [1, 2, 5, 6, 21] rfl ?_ -- R5
    try simp [hHs, hH', hpl, or_imp, forall_and, hx, i0]
    refine at_cond rfl rfl (fun hb21 => ?_) (fun hb21 => ?_)
    · -- t21 = True
      try simp at hb21
      refine at_regK [1, 2, 5, 6] rfl ?_ -- R6
      try simp [hHs, hH', hpl, or_imp, forall_and, hx, i0]
      refine at_regK [1, 2, 5, 6] rfl ?_ -- R4
      try simp [hHs, hH', hpl, or_imp, forall_and, hx, i0]
      rw [byHr_all hs hx hb21, wrap_id (by omega) (by omega)]
      exact ⟨by omega, by push_cast; rfl, rfl⟩
    · -- t21 = False
      try simp at hb21
      refine at_skip (by kernel_rfl) ?_
      try simp [hHs, hH', hpl, or_imp, forall_and, hx, i0]
      refine at_regK [1, 2, 5, 6] rfl ?_ -- R4
      try simp [hHs, hH', hpl, or_imp, forall_and, hx, i0]
      have e := byHr_step (h := h) hx
      rw [if_neg (by omega)] at e
      rw [e, wrap_id (by omega) (by omega)]
      exact ⟨by omega, by simp, rfl⟩
  · -- t11 = False
    try simp at hb11
    have hall : List.take i k.draws = k.draws := List.take_of_length_le (by omega)
    have hle := byHr_le k.draws h
    refine at_exit rfl ?_
    try simp [hHs, hH', hpl, or_imp, forall_and, hall]
    refine at_seq (by kernel_rfl) ?_
    refine at_regK [4] rfl ?_ -- R7
    try simp [hHs, hH', hpl, or_imp, forall_and, hall]
    refine (c72 k hk (byHr k.draws h) (by omega) (by omega)).use hH ?_
    try simp [hHs, hH', hpl, or_imp, forall_and, hall]
    refine at_ret (by kernel_rfl) ?_
    try simp [hHs, hH', hpl, or_imp, forall_and, hall]

theorem c154 (k : Kn) (hk : Few k) (o : Order k) (w : Wg) : Con E 154 [eKn k, eWg w] (.tup [I (weighedM k w).1, I (weighedM k w).2]) := by
  intro n H hH
  have hH' : (∀ o ∈ H, o.ok (pm H.length) = true) ↔ True := iff_true_intro hH
  have hHs : (∀ o ∈ H, o.ok shd = true) ↔ True := iff_true_intro (okH_shd hH)
  have hpl : ∀ m, (∀ o ∈ H, o.ok (pl m) = true) ↔ True := fun m => iff_true_intro (okH_pl hH m)
  have hl := hk.l; have hd := hk.d
  have fa := find_le k.loads w.frm; have fb := find_le k.loads w.to; have fc := find_le k.draws w.frm; have fd := find_le k.draws w.to
  refine at_start (fn := Tryz.f154) [.tmp 4, .tmp 5] 42 H.length rfl rfl rfl rfl (by kernel_rfl) (by kernel_rfl) (by simp) (Nat.le_refl _) ?_
  refine at_seq (by kernel_rfl) ?_
  refine at_regK [2, 3] rfl ?_ -- R0
  try simp [hHs, hH', hpl, or_imp, forall_and]
  refine at_seq (by kernel_rfl) ?_
  refine at_seq (by kernel_rfl) ?_
  refine at_regK [2, 3, 7] rfl ?_ -- R1
  try simp [hHs, hH', hpl, or_imp, forall_and]
  refine at_block rfl ?_ -- BLOCK 0
  refine at_seq (by kernel_rfl) ?_
  refine at_regK [2, 3, 7, 8] rfl ?_ -- R2
  try simp [hHs, hH', hpl, or_imp, forall_and]
  refine at_cond rfl rfl (fun hb8 => ?_) (fun hb8 => ?_)
  · -- t8 = True
    try simp at hb8
    refine at_seq (by kernel_rfl) ?_
    refine at_draw [4, 5] [1, 0, 1, 1, 1, 0, 1, 1, 0, 0, 0] [] rfl Efol (by kernel_rfl) (by simp) ?_ -- R3 DRAW
    try simp [hHs, hH', hpl, or_imp, forall_and]
    refine (c69 k hk _).draw hH ?_
    try simp [hHs, hH', hpl, or_imp, forall_and]
    refine (c69 k hk _).draw hH ?_
    try simp [hHs, hH', hpl, or_imp, forall_and]
    refine at_ret (by kernel_rfl) ?_
    try simp [hHs, hH', hpl, or_imp, forall_and]
    rw [wrap_id (by omega) (by omega)]
    simp [weighedM, hb8]
  · -- t8 = False
    try simp at hb8
    refine at_seq (by kernel_rfl) ?_
    refine at_regK [2, 3, 19] rfl ?_ -- R4
    try simp [hHs, hH', hpl, or_imp, forall_and]
    refine at_cond rfl rfl (fun hb19 => ?_) (fun hb19 => ?_)
    · -- t19 = True
      try simp at hb19
      refine at_seq (by kernel_rfl) ?_
      refine at_draw [4, 5] [1, 1, 0, 1, 1, 1, 1, 1, 0, 1, 1, 0, 1, 0, 0] [] rfl Efol (by kernel_rfl) (by simp) ?_ -- R5 DRAW
      try simp [hHs, hH', hpl, or_imp, forall_and]
      refine (c70 k hk _).draw hH ?_
      try simp [hHs, hH', hpl, or_imp, forall_and]
      refine (c72 k hk _ (by omega) (by omega)).draw hH ?_
      try simp [hHs, hH', hpl, or_imp, forall_and]
      refine (c70 k hk _).draw hH ?_
      try simp [hHs, hH', hpl, or_imp, forall_and]
      rw [wrap_id (by omega) (by omega)]
      refine (c72 k hk _ (by omega) (by omega)).draw hH ?_
      try simp [hHs, hH', hpl, or_imp, forall_and]
      refine at_ret (by kernel_rfl) ?_
      try simp [hHs, hH', hpl, or_imp, forall_and]
      simp [weighedM, hb19]
    · -- t19 = False
      try simp at hb19
      refine at_skip (by kernel_rfl) ?_
      try simp [hHs, hH', hpl, or_imp, forall_and]
      refine at_seq (by kernel_rfl) ?_
      refine at_draw [4, 5] [1, 0, 1, 1, 1, 0, 1, 1, 0, 0] [] rfl Efol (by kernel_rfl) (by simp) ?_ -- R6 DRAW
      try simp [hHs, hH', hpl, or_imp, forall_and]
      refine (c84 k hk o.d _).draw hH ?_
      try simp [hHs, hH', hpl, or_imp, forall_and]
      refine (c85 k hk o.l _).draw hH ?_
      try simp [hHs, hH', hpl, or_imp, forall_and]
      refine at_ret (by kernel_rfl) ?_
      try simp [hHs, hH', hpl, or_imp, forall_and]
      simp [weighedM, hb8, hb19]

theorem c40 (a b : List Int) (ha : a.length ≤ 1000) (hb : b.length ≤ 1000) : Con E 40 [eInts a, eInts b] (.bool (decide (a = b))) := by
  intro n H hH
  have hH' : (∀ o ∈ H, o.ok (pm H.length) = true) ↔ True := iff_true_intro hH
  have hHs : (∀ o ∈ H, o.ok shd = true) ↔ True := iff_true_intro (okH_shd hH)
  have hpl : ∀ m, (∀ o ∈ H, o.ok (pl m) = true) ↔ True := fun m => iff_true_intro (okH_pl hH m)
  refine at_start (fn := Tryz.f40) [.tmp 4] 26 H.length rfl rfl rfl rfl (by kernel_rfl) (by kernel_rfl) (by simp) (Nat.le_refl _) ?_
  refine at_seq (by kernel_rfl) ?_
  refine at_regK [0, 1] rfl ?_ -- R0
  try simp [hHs, hH', hpl, or_imp, forall_and]
  refine at_seq (by kernel_rfl) ?_
  refine at_seq (by kernel_rfl) ?_
  refine at_regK [0, 1, 10] rfl ?_ -- R1
  try simp [hHs, hH', hpl, or_imp, forall_and]
  refine at_cond rfl rfl (fun hb10 => ?_) (fun hb10 => ?_)
  · -- t10 = True
    try simp at hb10
    refine at_seq (by kernel_rfl) ?_
    refine at_regK [4] rfl ?_ -- R2
    try simp [hHs, hH', hpl, or_imp, forall_and]
    refine at_ret (by kernel_rfl) ?_
    try simp [hHs, hH', hpl, or_imp, forall_and]
    intro h; rw [h] at hb10; exact hb10 rfl
  · -- t10 = False
    try simp at hb10
    refine at_skip (by kernel_rfl) ?_
    try simp [hHs, hH', hpl, or_imp, forall_and]
    refine at_seq (by kernel_rfl) ?_
    refine at_seq (by kernel_rfl) ?_
    refine at_regK [0, 1, 5] rfl ?_ -- R3
    try simp [hHs, hH', hpl, or_imp, forall_and]
    refine at_block rfl ?_ -- BLOCK 0
    have hll : a.length = b.length := by omega
    refine at_count a.length (fun i s => a.take i = b.take i ∧ s = ⟨[(0, eInts a), (1, eInts b), (5, I i)], [], H⟩) rfl ⟨by simp, rfl⟩ ?_
    rintro i s hi ⟨hab, rfl⟩
    refine at_seq (by kernel_rfl) ?_
    refine at_seq (by kernel_rfl) ?_
    refine at_regK [0, 1, 5, 14] rfl ?_ -- R4
    try simp [hHs, hH', hpl, or_imp, forall_and]
    refine at_cond rfl rfl (fun hb14 => ?_) (fun hb14 => ?_)
    · -- t14 = True
      try simp at hb14
      obtain ⟨x, hx⟩ : ∃ x, a[i]? = some x := ⟨_, List.getElem?_eq_getElem (by omega)⟩
      obtain ⟨y, hy⟩ : ∃ x, b[i]? = some x := ⟨_, List.getElem?_eq_getElem (by omega)⟩
      have i0 : (i : Int) < a.length := by omega
      have i1 : (i : Int) < b.length := by omega
      refine at_skip (by kernel_rfl) ?_
      try simp [hHs, hH', hpl, or_imp, forall_and, hx, hy, i0, i1]
      refine at_seq (by kernel_rfl) ?_
      refine at_block rfl ?_ -- BLOCK 1
      refine at_seq (by kernel_rfl) ?_
      refine at_draw [0, 1, 5, 25] [0, 0, 0, 1, 0, 0, 0, 1, 0] [] rfl Efol (by kernel_rfl) (by simp) ?_ -- R6 DRAW
      try simp [hHs, hH', hpl, or_imp, forall_and, hx, hy, i0, i1]
      refine at_cond rfl rfl (fun hb25 => ?_) (fun hb25 => ?_)
      · -- t25 = True
        try simp at hb25
        refine at_seq (by kernel_rfl) ?_
        refine at_regK [4] rfl ?_ -- R7
        try simp [hHs, hH', hpl, or_imp, forall_and, hx, hy, i0, i1]
        refine at_ret (by kernel_rfl) ?_
        try simp [hHs, hH', hpl, or_imp, forall_and, hx, hy, i0, i1]
        intro h; rw [h, hy] at hx; cases hx; exact hb25 rfl
      · -- t25 = False
        try simp at hb25
        refine at_skip (by kernel_rfl) ?_
        try simp [hHs, hH', hpl, or_imp, forall_and, hx, hy, i0, i1]
        refine at_regK [0, 1, 5] rfl ?_ -- R5
        try simp [hHs, hH', hpl, or_imp, forall_and, hx, hy, i0, i1]
        refine ⟨hb14, ?_, wrap_id (by omega) (by omega)⟩
        rw [List.take_add_one, List.take_add_one, hx, hy, hab, hb25]
    · -- t14 = False
      try simp at hb14
      refine at_exit rfl ?_
      try simp [hHs, hH', hpl, or_imp, forall_and]
      refine at_seq (by kernel_rfl) ?_
      refine at_regK [4] rfl ?_ -- R8
      try simp [hHs, hH', hpl, or_imp, forall_and]
      refine at_ret (by kernel_rfl) ?_
      try simp [hHs, hH', hpl, or_imp, forall_and]
      rw [List.take_of_length_le hb14, List.take_of_length_le (by omega)] at hab
      exact hab

theorem c153 (l : List Tie) (hl : l.length ≤ 1000) (a b : Int) (s : Sp) (id : Int) (hlo : IntKind.i64.wrap (-s.lo) = -s.lo) (m v n : Nat) (H : List AO) (hH : okH H) (hm : H[m]? = some (.row 4 (l.map eTie))) (hv : l.length = v) :
    ACall E 153 [.own true m v, I a, I b, eSp s, I id] n H (Is (.own true m (v + 2)) [] (H.set m (.row 4 ((l ++ both a b s id).map eTie)))) := by
  subst hv
  have hH' : (∀ o ∈ H, o.ok (pm H.length) = true) ↔ True := iff_true_intro hH
  have hHs : (∀ o ∈ H, o.ok shd = true) ↔ True := iff_true_intro (okH_shd hH)
  have hpl : ∀ m, (∀ o ∈ H, o.ok (pl m) = true) ↔ True := fun m => iff_true_intro (okH_pl hH m)
  have hml := (List.getElem?_eq_some_iff.1 hm).1
  have g0 : ∀ h, H[m]'h = .row 4 (l.map eTie) := fun h => (List.getElem?_eq_some_iff.1 hm).2
  refine at_start (fn := Tryz.f153) [.tmp 10] 30 H.length rfl rfl rfl rfl (by kernel_rfl) (by kernel_rfl) (by simp) (Nat.le_refl _) ?_
  refine at_seq (by kernel_rfl) ?_
  refine at_regK [0, 1, 2, 4, 8] rfl ?_ -- R0
  try simp [hHs, hH', hpl, or_imp, forall_and, hm, hml, hlo, g0]
  refine at_seq (by kernel_rfl) ?_
  refine at_regK [0, 1, 2, 4, 8] rfl ?_ -- R1
  try simp [hHs, hH', hpl, or_imp, forall_and, hm, hml, hlo, g0]
  refine ⟨by omega, ?_⟩
  refine at_seq (by kernel_rfl) ?_
  refine at_regK [10] rfl ?_ -- R2
  try simp [hHs, hH', hpl, or_imp, forall_and, hm, hml, hlo, g0]
  refine ⟨by omega, ?_⟩
  refine at_ret (by kernel_rfl) ?_
  try simp [hHs, hH', hpl, or_imp, forall_and, hm, hml, hlo, g0]
  have e : List.map eTie l ++ [AV.agg [I a, I b, I s.hi, I id], AV.agg [I b, I a, AV.int IntKind.i64 (-s.lo), I id]] = (l ++ both a b s id).map eTie := by rw [List.map_append]; rfl
  rw [List.take_of_length_le (by simp), e]
  have ok2 := okH_set (j := m) (o := .row 4 ((l ++ both a b s id).map eTie)) hH (by rw [AO.ok]; exact oks_map _ _ (fun a => eTie_ok _ a) _)
  rw [okH, List.length_set] at ok2
  exact ⟨ok2, by rw [List.map_append]⟩

def tkr (k : Kn) (j : Nat) : List AV := ((tiesM k).take j).map eTie
def Ht (H : List AO) (k : Kn) (j : Nat) : List AO := H ++ [.row 4 (tkr k j)]
theorem tkr_len {k : Kn} {j : Nat} (h : j ≤ (tiesM k).length) : (tkr k j).length = j := by simp [tkr]; omega
theorem ht_get (H : List AO) (k : Kn) (j : Nat) : (Ht H k j)[H.length]? = some (.row 4 (tkr k j)) := by simp [Ht]
theorem ht_len (H : List AO) (k : Kn) (j : Nat) : (Ht H k j).length = H.length + 1 := by simp [Ht]
theorem ht_ok {H : List AO} (h : okH H) (k : Kn) (j : Nat) : okH (Ht H k j) := by
  rw [okH, Ht, List.length_append, List.forall_mem_append]
  refine ⟨okH_pm h _ (by omega), ?_⟩
  simp only [List.mem_singleton, forall_eq, AO.ok, tkr]
  exact oks_map _ _ (fun a => eTie_ok _ a) _
theorem ht_take (H : List AO) (k : Kn) (j : Nat) : (Ht H k j).take H.length = H := by simp [Ht]
theorem ht_one {H : List AO} {k : Kn} {j : Nat} {t : Tie} (h : (tiesM k)[j]? = some t) : (Ht H k j).set H.length (.row 4 (tkr k j ++ [eTie t])) = Ht H k (j + 1) := by
  rw [Ht, Ht, set_len, tkr, tkr, List.take_add_one, h]
  simp
theorem ht_two {H : List AO} {k : Kn} {j : Nat} {t u : Tie} (h : (tiesM k)[j]? = some t) (h2 : (tiesM k)[j + 1]? = some u) : (Ht H k j).set H.length (.row 4 (((tiesM k).take j ++ [t, u]).map eTie)) = Ht H k (j + 2) := by
  rw [Ht, Ht, set_len, tkr, tkr, List.take_add_one, List.take_add_one, h, h2]
  simp

theorem c104 (k : Kn) (hk : Few k) (o : Order k) (lo : Lo k) : Con E 104 [eKn k] (eTies (tiesM k)) := by
  intro n H hH
  have hH' : (∀ o ∈ H, o.ok (pm H.length) = true) ↔ True := iff_true_intro hH
  have hHs : (∀ o ∈ H, o.ok shd = true) ↔ True := iff_true_intro (okH_shd hH)
  have hpl : ∀ m, (∀ o ∈ H, o.ok (pl m) = true) ↔ True := fun m => iff_true_intro (okH_pl hH m)
  have h0 : ∀ j k', H.map (mvO j k') = H := mvO_map hH
  have hl := hk.l; have hd := hk.d; have hw := hk.w
  have htot := tiesLen k
  have hgj := ht_get H k
  have hlj := ht_len H k
  have hgE : ∀ j h, (Ht H k j)[H.length]'h = .row 4 (tkr k j) := fun j h => (List.getElem?_eq_some_iff.1 (ht_get H k j)).2
  have htj := ht_take H k
  have hsj : ∀ j, (∀ o ∈ Ht H k j, o.ok shd = true) ↔ True := fun j => iff_true_intro (okH_shd (ht_ok hH k j))
  have hqj : ∀ j z, (∀ o ∈ Ht H k j, o.ok (pl z) = true) ↔ True := fun j z => iff_true_intro (okH_pl (ht_ok hH k j) z)
  have hmj : ∀ j, (∀ o ∈ Ht H k j, o.ok (pm (H.length + 1)) = true) ↔ True := fun j => iff_true_intro (by have := ht_ok hH k j; rw [okH, ht_len] at this; exact this)
  refine ACall.frz ?_
  refine at_start (fn := Tryz.f104) [.tmp 2] 144 H.length rfl rfl rfl rfl (by kernel_rfl) (by kernel_rfl) (by simp) (Nat.le_refl _) ?_
  refine at_seq (by kernel_rfl) ?_
  refine at_regK [1] rfl ?_ -- R0
  try simp [hHs, hH', hpl, or_imp, forall_and, hgj, hlj, htj, hsj, hqj, hgE]
  refine at_seq (by kernel_rfl) ?_
  refine at_regK [1, 3] rfl ?_ -- R1
  try simp [hHs, hH', hpl, or_imp, forall_and, hgj, hlj, htj, hsj, hqj, hgE]
  refine at_seq (by kernel_rfl) ?_
  refine at_seq (by kernel_rfl) ?_
  refine at_regK [1, 3, 4] rfl ?_ -- R2
  try simp [hHs, hH', hpl, or_imp, forall_and, hgj, hlj, htj, hsj, hqj, hgE]
  refine at_block rfl ?_ -- BLOCK 0
  refine at_leads (leads_nilT 3 4 rfl (by decide)) ?_
  simp
  refine at_leads (leads_share 1 rfl rfl) ?_
  simp [AS.share, h0, mvV_id]
  refine at_leads (leads_keep _ [1, 3, 4]) ?_
  simp
  rw [show H ++ [AO.row 4 []] = Ht H k 0 by simp [Ht, tkr]]
  refine at_count k.loads.length (fun i s => s = ⟨[(1, .ref false 0 0 [] 0), (3, .own true H.length (2 * i)), (4, I i)], [.cell (eKn k), .dead], Ht H k (2 * i)⟩) rfl (by rfl) ?_
  rintro i s hi rfl
  obtain ⟨j, hj⟩ : ∃ j, j = 2 * i := ⟨_, rfl⟩
  rw [← hj]
  refine at_seq (by kernel_rfl) ?_
  refine at_seq (by kernel_rfl) ?_
  refine at_regK [1, 3, 4, 15] rfl ?_ -- R3
  try simp [hHs, hH', hpl, or_imp, forall_and, hgj, hlj, htj, hsj, hqj, hgE]
  refine at_cond rfl rfl (fun hb15 => ?_) (fun hb15 => ?_)
  · -- t15 = True
    try simp at hb15
    obtain ⟨x, hx⟩ : ∃ x, k.loads[i]? = some x := ⟨_, List.getElem?_eq_getElem (by omega)⟩
    have i0 : (i : Int) < k.loads.length := by omega
    have wi : IntKind.i64.wrap ((i : Int) + 1) = (i : Int) + 1 := wrap_id (by omega) (by omega)
    have ht0 := tie1 hx
    rw [← hj] at ht0
    have hjl : j ≤ (tiesM k).length := by omega
    have hkl := tkr_len hjl
    have htl : ((tiesM k).take j).length = j := by rw [List.length_take]; omega
    have okj := ht_ok hH k j
    have hlm := List.mem_of_getElem? hx
    refine at_skip (by kernel_rfl) ?_
    try simp [hHs, hH', hpl, or_imp, forall_and, hgj, hlj, htj, hsj, hqj, hgE, hx, i0, wi]
    refine at_seq (by kernel_rfl) ?_
    refine at_block rfl ?_ -- BLOCK 1
    refine at_draw [1, 3, 4] [0,0,0,0,0,1,0,0,0,1,0,1,0,0,0,1,3,0] [] rfl Efol (by kernel_rfl) (by simp) ?_ -- R5 DRAW
    try simp [hHs, hH', hpl, or_imp, forall_and, hgj, hlj, htj, hsj, hqj, hgE, hx, i0, wi]
    refine TCall.of_is (c153 ((tiesM k).take j) (by rw [htl]; omega) _ _ _ _ (by have := lo.l x hlm; exact wrap_id (by omega) (by omega)) H.length j _ _ okj (hgj j) htl) ?_
    rw [both, ht_two ht0.1 ht0.2]
    try simp [hHs, hH', hpl, or_imp, forall_and, hgj, hlj, htj, hsj, hqj, hgE, hx, i0, wi]
    refine at_regC 2 [1, 3, 4] rfl ?_ -- R4
    try simp [hHs, hH', hpl, or_imp, forall_and, hgj, hlj, htj, hsj, hqj, hgE, hx, i0, wi]
    refine ⟨by omega, ?_⟩
    rw [show 2 * (i + 1) = j + 2 by omega]
    exact ⟨rfl, rfl⟩
  · -- t15 = False
    try simp at hb15
    obtain rfl : i = k.loads.length := by omega
    subst hj
    refine at_exit rfl ?_
    try simp [hHs, hH', hpl, or_imp, forall_and, hgj, hlj, htj, hsj, hqj, hgE]
    refine at_seq (by kernel_rfl) ?_
    refine at_seq (by kernel_rfl) ?_
    refine at_regK [1, 3, 5] rfl ?_ -- R6
    try simp [hHs, hH', hpl, or_imp, forall_and, hgj, hlj, htj, hsj, hqj, hgE]
    refine at_block rfl ?_ -- BLOCK 2
    refine at_count k.draws.length (fun i s => s = ⟨[(1, .ref false 0 0 [] 0), (3, .own true H.length (2 * k.loads.length + 2 * i)), (5, I i)], [.cell (eKn k), .dead], Ht H k (2 * k.loads.length + 2 * i)⟩) rfl (by simp) ?_
    rintro i s hi rfl
    obtain ⟨j, hj⟩ : ∃ j, j = 2 * k.loads.length + 2 * i := ⟨_, rfl⟩
    rw [← hj]
    refine at_seq (by kernel_rfl) ?_
    refine at_seq (by kernel_rfl) ?_
    refine at_regK [1, 3, 5, 39] rfl ?_ -- R7
    try simp [hHs, hH', hpl, or_imp, forall_and, hgj, hlj, htj, hsj, hqj, hgE]
    refine at_cond rfl rfl (fun hb39 => ?_) (fun hb39 => ?_)
    · -- t39 = True
      try simp at hb39
      obtain ⟨x, hx⟩ : ∃ x, k.draws[i]? = some x := ⟨_, List.getElem?_eq_getElem (by omega)⟩
      have i0 : (i : Int) < k.draws.length := by omega
      have wi : IntKind.i64.wrap ((i : Int) + 1) = (i : Int) + 1 := wrap_id (by omega) (by omega)
      have ht0 := tie2 hx
      rw [← hj] at ht0
      have hjl : j ≤ (tiesM k).length := by omega
      have hkl := tkr_len hjl
      have htl : ((tiesM k).take j).length = j := by rw [List.length_take]; omega
      have okj := ht_ok hH k j
      have hlm := List.mem_of_getElem? hx
      refine at_skip (by kernel_rfl) ?_
      try simp [hHs, hH', hpl, or_imp, forall_and, hgj, hlj, htj, hsj, hqj, hgE, hx, i0, wi]
      refine at_seq (by kernel_rfl) ?_
      refine at_block rfl ?_ -- BLOCK 3
      refine at_draw [1, 3, 5] [0,1,0,1,1,0,0,1,0,1,0,0,0,1,0,1,0,0,0,1,3,0] [] rfl Efol (by kernel_rfl) (by simp) ?_ -- R9 DRAW
      try simp [hHs, hH', hpl, or_imp, forall_and, hgj, hlj, htj, hsj, hqj, hgE, hx, i0, wi]
      refine (c72 k hk i (by omega) (by omega)).draw okj ?_
      try simp [hHs, hH', hpl, or_imp, forall_and, hgj, hlj, htj, hsj, hqj, hgE, hx, i0, wi]
      refine (c72 k hk ((i : Int) + 1) (by omega) (by omega)).draw okj ?_
      try simp [hHs, hH', hpl, or_imp, forall_and, hgj, hlj, htj, hsj, hqj, hgE, hx, i0, wi]
      refine TCall.of_is (c153 ((tiesM k).take j) (by rw [htl]; omega) _ _ _ _ (by have := lo.d x hlm; exact wrap_id (by omega) (by omega)) H.length j _ _ okj (hgj j) htl) ?_
      rw [both, ht_two ht0.1 ht0.2]
      try simp [hHs, hH', hpl, or_imp, forall_and, hgj, hlj, htj, hsj, hqj, hgE, hx, i0, wi]
      refine at_regC 2 [1, 3, 5] rfl ?_ -- R8
      try simp [hHs, hH', hpl, or_imp, forall_and, hgj, hlj, htj, hsj, hqj, hgE, hx, i0, wi]
      refine ⟨by omega, ?_⟩
      rw [show 2 * k.loads.length + 2 * (i + 1) = j + 2 by omega]
      exact ⟨rfl, rfl⟩
    · -- t39 = False
      try simp at hb39
      obtain rfl : i = k.draws.length := by omega
      subst hj
      refine at_exit rfl ?_
      try simp [hHs, hH', hpl, or_imp, forall_and, hgj, hlj, htj, hsj, hqj, hgE]
      refine at_seq (by kernel_rfl) ?_
      refine at_seq (by kernel_rfl) ?_
      refine at_regK [1, 3, 6] rfl ?_ -- R10
      try simp [hHs, hH', hpl, or_imp, forall_and, hgj, hlj, htj, hsj, hqj, hgE]
      refine at_block rfl ?_ -- BLOCK 4
      refine at_count k.weighs.length (fun i s => s = ⟨[(1, .ref false 0 0 [] 0), (3, .own true H.length (2 * k.loads.length + 2 * k.draws.length + 2 * i)), (6, I i)], [.cell (eKn k), .dead], Ht H k (2 * k.loads.length + 2 * k.draws.length + 2 * i)⟩) rfl (by simp) ?_
      rintro i s hi rfl
      obtain ⟨j, hj⟩ : ∃ j, j = 2 * k.loads.length + 2 * k.draws.length + 2 * i := ⟨_, rfl⟩
      rw [← hj]
      refine at_seq (by kernel_rfl) ?_
      refine at_seq (by kernel_rfl) ?_
      refine at_regK [1, 3, 6, 67] rfl ?_ -- R11
      try simp [hHs, hH', hpl, or_imp, forall_and, hgj, hlj, htj, hsj, hqj, hgE]
      refine at_cond rfl rfl (fun hb67 => ?_) (fun hb67 => ?_)
      · -- t67 = True
        try simp at hb67
        obtain ⟨x, hx⟩ : ∃ x, k.weighs[i]? = some x := ⟨_, List.getElem?_eq_getElem (by omega)⟩
        have i0 : (i : Int) < k.weighs.length := by omega
        have wi : IntKind.i64.wrap ((i : Int) + 1) = (i : Int) + 1 := wrap_id (by omega) (by omega)
        have ht0 := tie3 hx
        rw [← hj] at ht0
        have hjl : j ≤ (tiesM k).length := by omega
        have hkl := tkr_len hjl
        have htl : ((tiesM k).take j).length = j := by rw [List.length_take]; omega
        have okj := ht_ok hH k j
        have hlm := List.mem_of_getElem? hx
        refine at_skip (by kernel_rfl) ?_
        try simp [hHs, hH', hpl, or_imp, forall_and, hgj, hlj, htj, hsj, hqj, hgE, hx, i0, wi]
        refine at_seq (by kernel_rfl) ?_
        refine at_block rfl ?_ -- BLOCK 5
        refine at_seq (by kernel_rfl) ?_
        refine at_draw [1, 3, 6, 7, 8] [1, 0, 1, 0, 0, 1, 1, 0, 0, 0, 0, 0] [] rfl Efol (by kernel_rfl) (by simp) ?_ -- R13 DRAW
        try simp [hHs, hH', hpl, or_imp, forall_and, hgj, hlj, htj, hsj, hqj, hgE, hx, i0, wi]
        refine (c154 k hk o x).draw okj ?_
        try simp [hHs, hH', hpl, or_imp, forall_and, hgj, hlj, htj, hsj, hqj, hgE, hx, i0, wi]
        refine at_draw [1, 3, 6] [0,0,0,0,1,0,0,0,1,0,1,0,0,0,1,3,0] [] rfl Efol (by kernel_rfl) (by simp) ?_ -- R14 DRAW
        try simp [hHs, hH', hpl, or_imp, forall_and, hgj, hlj, htj, hsj, hqj, hgE, hx, i0, wi]
        refine TCall.of_is (c153 ((tiesM k).take j) (by rw [htl]; omega) _ _ _ _ (by have := lo.w x hlm; exact wrap_id (by omega) (by omega)) H.length j _ _ okj (hgj j) htl) ?_
        rw [both, ht_two ht0.1 ht0.2]
        try simp [hHs, hH', hpl, or_imp, forall_and, hgj, hlj, htj, hsj, hqj, hgE, hx, i0, wi]
        refine at_regC 2 [1, 3, 6] rfl ?_ -- R12
        try simp [hHs, hH', hpl, or_imp, forall_and, hgj, hlj, htj, hsj, hqj, hgE, hx, i0, wi]
        refine ⟨by omega, ?_⟩
        rw [show 2 * k.loads.length + 2 * k.draws.length + 2 * (i + 1) = j + 2 by omega]
        exact ⟨rfl, rfl⟩
      · -- t67 = False
        try simp at hb67
        obtain rfl : i = k.weighs.length := by omega
        subst hj
        refine at_exit rfl ?_
        try simp [hHs, hH', hpl, or_imp, forall_and, hgj, hlj, htj, hsj, hqj, hgE]
        refine at_seq (by kernel_rfl) ?_
        refine at_seq (by kernel_rfl) ?_
        refine at_regK [1, 3, 9] rfl ?_ -- R15
        try simp [hHs, hH', hpl, or_imp, forall_and, hgj, hlj, htj, hsj, hqj, hgE]
        refine at_block rfl ?_ -- BLOCK 6
        refine at_count k.draws.length (fun i s => s = ⟨[(1, .ref false 0 0 [] 0), (3, .own true H.length (2 * k.loads.length + 2 * k.draws.length + 2 * k.weighs.length + i)), (9, I i)], [.cell (eKn k), .dead], Ht H k (2 * k.loads.length + 2 * k.draws.length + 2 * k.weighs.length + i)⟩) rfl (by simp) ?_
        rintro i s hi rfl
        obtain ⟨j, hj⟩ : ∃ j, j = 2 * k.loads.length + 2 * k.draws.length + 2 * k.weighs.length + i := ⟨_, rfl⟩
        rw [← hj]
        refine at_seq (by kernel_rfl) ?_
        refine at_seq (by kernel_rfl) ?_
        refine at_regK [1, 3, 9, 100] rfl ?_ -- R16
        try simp [hHs, hH', hpl, or_imp, forall_and, hgj, hlj, htj, hsj, hqj, hgE]
        refine at_cond rfl rfl (fun hb100 => ?_) (fun hb100 => ?_)
        · -- t100 = True
          try simp at hb100
          obtain ⟨x, hx⟩ : ∃ x, k.draws[i]? = some x := ⟨_, List.getElem?_eq_getElem (by omega)⟩
          have i0 : (i : Int) < k.draws.length := by omega
          have wi : IntKind.i64.wrap ((i : Int) + 1) = (i : Int) + 1 := wrap_id (by omega) (by omega)
          have ht0 := tie4 hx
          rw [← hj] at ht0
          have hjl : j ≤ (tiesM k).length := by omega
          have hkl := tkr_len hjl
          have htl : ((tiesM k).take j).length = j := by rw [List.length_take]; omega
          have okj := ht_ok hH k j
          have hlm := List.mem_of_getElem? hx
          have hs1 : (Ht H k j).set H.length (.row 4 (tkr k j ++ [AV.agg [I (byHr k.loads x.hour), I (drawnM k ((i : Int) + 1)), I 0, I 0]])) = Ht H k (j + 1) := ht_one ht0
          refine at_skip (by kernel_rfl) ?_
          try simp [hHs, hH', hpl, or_imp, forall_and, hgj, hlj, htj, hsj, hqj, hgE, hx, i0, wi, hkl, hs1]
          refine at_seq (by kernel_rfl) ?_
          refine at_block rfl ?_ -- BLOCK 7
          refine at_draw [1, 3, 9] [0,1,0,1,0,0,0,1,1,1,0,0,1,0,2,3,0] [] rfl Efol (by kernel_rfl) (by simp) ?_ -- R18 DRAW
          try simp [hHs, hH', hpl, or_imp, forall_and, hgj, hlj, htj, hsj, hqj, hgE, hx, i0, wi, hkl, hs1]
          refine (c85 k hk o.l _).draw okj ?_
          try simp [hHs, hH', hpl, or_imp, forall_and, hgj, hlj, htj, hsj, hqj, hgE, hx, i0, wi, hkl, hs1]
          refine (c72 k hk ((i : Int) + 1) (by omega) (by omega)).draw okj ?_
          try simp [hHs, hH', hpl, or_imp, forall_and, hgj, hlj, htj, hsj, hqj, hgE, hx, i0, wi, hkl, hs1]
          refine ⟨by omega, ?_⟩
          refine at_regC 2 [1, 3, 9] rfl ?_ -- R17
          try simp [hHs, hH', hpl, or_imp, forall_and, hgj, hlj, htj, hsj, hqj, hgE, hx, i0, wi, hkl, hs1]
          refine ⟨by omega, ?_⟩
          rw [show 2 * k.loads.length + 2 * k.draws.length + 2 * k.weighs.length + (i + 1) = j + 1 by omega]
          exact ⟨rfl, rfl⟩
        · -- t100 = False
          try simp at hb100
          obtain rfl : i = k.draws.length := by omega
          subst hj
          refine at_exit rfl ?_
          try simp [hHs, hH', hpl, or_imp, forall_and, hgj, hlj, htj, hsj, hqj, hgE]
          refine at_seq (by kernel_rfl) ?_
          refine at_seq (by kernel_rfl) ?_
          refine at_regK [1, 3, 10] rfl ?_ -- R19
          try simp [hHs, hH', hpl, or_imp, forall_and, hgj, hlj, htj, hsj, hqj, hgE]
          refine at_block rfl ?_ -- BLOCK 8
          refine at_count k.loads.length (fun i s => s = ⟨[(1, .ref false 0 0 [] 0), (3, .own true H.length (2 * k.loads.length + 2 * k.draws.length + 2 * k.weighs.length + k.draws.length + i)), (10, I i)], [.cell (eKn k), .dead], Ht H k (2 * k.loads.length + 2 * k.draws.length + 2 * k.weighs.length + k.draws.length + i)⟩) rfl (by simp) ?_
          rintro i s hi rfl
          obtain ⟨j, hj⟩ : ∃ j, j = 2 * k.loads.length + 2 * k.draws.length + 2 * k.weighs.length + k.draws.length + i := ⟨_, rfl⟩
          rw [← hj]
          refine at_seq (by kernel_rfl) ?_
          refine at_seq (by kernel_rfl) ?_
          refine at_regK [1, 3, 10, 123] rfl ?_ -- R20
          try simp [hHs, hH', hpl, or_imp, forall_and, hgj, hlj, htj, hsj, hqj, hgE]
          refine at_cond rfl rfl (fun hb123 => ?_) (fun hb123 => ?_)
          · -- t123 = True
            try simp at hb123
            obtain ⟨x, hx⟩ : ∃ x, k.loads[i]? = some x := ⟨_, List.getElem?_eq_getElem (by omega)⟩
            have i0 : (i : Int) < k.loads.length := by omega
            have wi : IntKind.i64.wrap ((i : Int) + 1) = (i : Int) + 1 := wrap_id (by omega) (by omega)
            have ht0 := tie5 hx
            rw [← hj] at ht0
            have hjl : j ≤ (tiesM k).length := by omega
            have hkl := tkr_len hjl
            have htl : ((tiesM k).take j).length = j := by rw [List.length_take]; omega
            have okj := ht_ok hH k j
            have hlm := List.mem_of_getElem? hx
            have hs1 : (Ht H k j).set H.length (.row 4 (tkr k j ++ [AV.agg [I (drawnM k (byHr k.draws (x.hour - 1))), I ((i : Int) + 1), I k.room, I 0]])) = Ht H k (j + 1) := ht_one ht0
            have wh : IntKind.i64.wrap (x.hour - 1) = x.hour - 1 := by have := lo.l x hlm; exact wrap_id (by omega) (by omega)
            refine at_skip (by kernel_rfl) ?_
            try simp [hHs, hH', hpl, or_imp, forall_and, hgj, hlj, htj, hsj, hqj, hgE, hx, i0, wi, hkl, hs1, wh]
            refine at_seq (by kernel_rfl) ?_
            refine at_block rfl ?_ -- BLOCK 9
            refine at_draw [1, 3, 10] [0,1,0,1,0,0,0,1,0,1,0,0,0,1,0,2,3,0] [] rfl Efol (by kernel_rfl) (by simp) ?_ -- R22 DRAW
            try simp [hHs, hH', hpl, or_imp, forall_and, hgj, hlj, htj, hsj, hqj, hgE, hx, i0, wi, hkl, hs1, wh]
            refine (c84 k hk o.d _).draw okj ?_
            try simp [hHs, hH', hpl, or_imp, forall_and, hgj, hlj, htj, hsj, hqj, hgE, hx, i0, wi, hkl, hs1, wh]
            refine ⟨by omega, ?_⟩
            refine at_regC 2 [1, 3, 10] rfl ?_ -- R21
            try simp [hHs, hH', hpl, or_imp, forall_and, hgj, hlj, htj, hsj, hqj, hgE, hx, i0, wi, hkl, hs1, wh]
            refine ⟨by omega, ?_⟩
            rw [show 2 * k.loads.length + 2 * k.draws.length + 2 * k.weighs.length + k.draws.length + (i + 1) = j + 1 by omega]
            exact ⟨rfl, rfl⟩
          · -- t123 = False
            try simp at hb123
            obtain rfl : i = k.loads.length := by omega
            have hje : j = (tiesM k).length := by omega
            rw [hje]
            have hrow : tkr k (tiesM k).length = (tiesM k).map eTie := by rw [tkr, List.take_length]
            refine at_exit rfl ?_
            try simp [hHs, hH', hpl, or_imp, forall_and, hgj, hlj, htj, hsj, hqj, hgE]
            refine at_seq (by kernel_rfl) ?_
            refine at_leads (leads_unshare H.length (hgj _) rfl) ?_
            simp [AS.unshare, hgj, mwV, hrow]
            refine at_regK [2] rfl ?_ -- R23
            try simp [hHs, hH', hpl, or_imp, forall_and, hgj, hlj, htj, hsj, hqj, hgE]
            refine at_leads (leads_freeze 2 2 rfl rfl (by simp)) ?_
            refine at_ret (by kernel_rfl) ?_
            try simp [hHs, hH', hpl, or_imp, forall_and, hgj, hlj, htj, hsj, hqj, hgE]
            rw [show List.take H.length ((Ht H k (tiesM k).length).set H.length AO.dead) = H by simp [Ht]]
            simp [AS.frzV, AS.expo, AS.expos, AS.setMem, AV.ok, AV.oks, hHs, hH', eTies]

def pathR (x : Nt) (u v : Int) (p : List Int) : Int × Bool := ((sumM x u 0 p).1, (sumM x u 0 p).2.2 && decide ((sumM x u 0 p).2.1 = v))

theorem c132 (x : Nt) (u v : Int) (p : List Int) (hx : x.links.length ≤ 1000) (hm : ∀ t ∈ x.links, -16777216 ≤ t.most ∧ t.most ≤ 16777216) (hp : p.length ≤ 1000) : Con E 132 [eTies x.links, eInts p, I u, I v] (.tup [I (pathR x u v p).1, .bool (pathR x u v p).2]) := by
  intro n H hH
  have hH' : (∀ o ∈ H, o.ok (pm H.length) = true) ↔ True := iff_true_intro hH
  have hHs : (∀ o ∈ H, o.ok shd = true) ↔ True := iff_true_intro (okH_shd hH)
  have hpl : ∀ m, (∀ o ∈ H, o.ok (pl m) = true) ↔ True := fun m => iff_true_intro (okH_pl hH m)
  refine at_start (fn := Tryz.f132) [.tmp 8, .tmp 9] 68 H.length rfl rfl rfl rfl (by kernel_rfl) (by kernel_rfl) (by simp) (Nat.le_refl _) ?_
  refine at_seq (by kernel_rfl) ?_
  refine at_regK [0, 1, 2, 3] rfl ?_ -- R0
  try simp [hHs, hH', hpl, or_imp, forall_and]
  refine at_seq (by kernel_rfl) ?_
  refine at_regK [0, 1, 3, 10] rfl ?_ -- R1
  try simp [hHs, hH', hpl, or_imp, forall_and]
  refine at_seq (by kernel_rfl) ?_
  refine at_regK [0, 1, 3, 10, 11] rfl ?_ -- R2
  try simp [hHs, hH', hpl, or_imp, forall_and]
  refine at_seq (by kernel_rfl) ?_
  refine at_seq (by kernel_rfl) ?_
  refine at_regK [0, 1, 3, 10, 11, 12] rfl ?_ -- R3
  try simp [hHs, hH', hpl, or_imp, forall_and]
  refine at_block rfl ?_ -- BLOCK 0
  refine at_count p.length (fun i s => ∃ u' n', sumM x u' n' (p.drop i) = sumM x u 0 p ∧ -(16777216 * (i : Int)) ≤ n' ∧ n' ≤ 16777216 * (i : Int) ∧ s = ⟨[(0, eTies x.links), (1, eInts p), (3, I v), (10, I u'), (11, I n'), (12, I i)], [], H⟩) rfl ⟨u, 0, rfl, by omega, by omega, rfl⟩ ?_
  rintro i s hi ⟨u', n', hs, n0, n1, rfl⟩
  refine at_seq (by kernel_rfl) ?_
  refine at_seq (by kernel_rfl) ?_
  refine at_regK [0, 1, 3, 10, 11, 12, 17] rfl ?_ -- R4
  try simp [hHs, hH', hpl, or_imp, forall_and]
  refine at_cond rfl rfl (fun hb17 => ?_) (fun hb17 => ?_)
  · -- t17 = True
    try simp at hb17
    obtain ⟨q, hq⟩ : ∃ q, p[i]? = some q := ⟨_, List.getElem?_eq_getElem (by omega)⟩
    have i0 : (i : Int) < p.length := by omega
    have i1 : i < p.length := by omega
    rw [List.drop_eq_getElem_cons i1, (List.getElem?_eq_some_iff.1 hq).2] at hs
    have wl : IntKind.i64.wrap ((x.links.length : Int) - 1) = (x.links.length : Int) - 1 := wrap_id (by omega) (by omega)
    refine at_skip (by kernel_rfl) ?_
    try simp [hHs, hH', hpl, or_imp, forall_and, hq, i0, wl]
    refine at_seq (by kernel_rfl) ?_
    refine at_block rfl ?_ -- BLOCK 1
    refine at_seq (by kernel_rfl) ?_
    refine at_seq (by kernel_rfl) ?_
    refine at_regK [0, 1, 3, 11, 12, 45] rfl ?_ -- R6
    try simp [hHs, hH', hpl, or_imp, forall_and, hq, i0, wl]
    refine (c126 _ _ _).use hH ?_
    try simp [hHs, hH', hpl, or_imp, forall_and, hq, i0, wl]
    refine pops_split 29 rfl (fun hg1 => ?_) (fun hg1 => ?_)
    · -- t29 = True
      try simp [hHs, hH', hpl, or_imp, forall_and, hq, i0, wl, hg1]
      refine at_cond rfl rfl (fun hb45 => ?_) (fun hb45 => by simp at hb45)
      refine at_seq (by kernel_rfl) ?_
      refine at_regK [8, 9] rfl ?_ -- R7
      try simp [hHs, hH', hpl, or_imp, forall_and, hq, i0, wl]
      refine at_ret (by kernel_rfl) ?_
      try simp [hHs, hH', hpl, or_imp, forall_and, hq, i0, wl]
      rw [sumM_cons_no (fun h => by simp [h.1] at hg1)] at hs
      rw [pathR, ← hs]
      exact ⟨rfl, rfl⟩
    · -- t29 = False
      have hin : 0 ≤ q ∧ q < x.links.length := by simp [inB] at hg1; omega
      obtain ⟨q0, q1⟩ := hin
      have q2 : ¬ (x.links.length : Int) - 1 < q := by omega
      have q3 : q ≤ (x.links.length : Int) - 1 := by omega
      have q4 : (if 0 < q then q else 0) = q := by split <;> omega
      have hl := lk_get q0 q1
      have hlm := hm _ (List.mem_of_getElem? hl)
      have hlE : ∀ h, x.links[q.toNat]'h = lk x q := fun h => (List.getElem?_eq_some_iff.1 hl).2
      have wn : IntKind.i64.wrap (n' + (lk x q).most) = n' + (lk x q).most := wrap_id (by omega) (by omega)
      try simp [hHs, hH', hpl, or_imp, forall_and, hq, i0, wl, q0, q1, q2, q3, q4, hl, hlE, wn, hg1]
      refine at_cond rfl rfl (fun hb45 => ?_) (fun hb45 => ?_)
      · -- t45 = True
        try simp at hb45
        refine at_seq (by kernel_rfl) ?_
        refine at_regK [8, 9] rfl ?_ -- R7
        try simp [hHs, hH', hpl, or_imp, forall_and, hq, i0, wl, q0, q1, q2, q3, q4, hl, hlE, wn]
        refine at_ret (by kernel_rfl) ?_
        try simp [hHs, hH', hpl, or_imp, forall_and, hq, i0, wl, q0, q1, q2, q3, q4, hl, hlE, wn]
        rw [sumM_cons_no (fun h => hb45 h.2)] at hs
        rw [pathR, ← hs]
        exact ⟨rfl, rfl⟩
      · -- t45 = False
        try simp at hb45
        refine at_skip (by kernel_rfl) ?_
        try simp [hHs, hH', hpl, or_imp, forall_and, hq, i0, wl, q0, q1, q2, q3, q4, hl, hlE, wn]
        refine at_seq (by kernel_rfl) ?_
        refine at_regK [0, 1, 3, 10, 11, 12] rfl ?_ -- R8
        try simp [hHs, hH', hpl, or_imp, forall_and, hq, i0, wl, q0, q1, q2, q3, q4, hl, hlE, wn]
        refine at_regK [0, 1, 3, 10, 11, 12] rfl ?_ -- R9
        try simp [hHs, hH', hpl, or_imp, forall_and, hq, i0, wl, q0, q1, q2, q3, q4, hl, hlE, wn]
        refine at_regK [0, 1, 3, 10, 11, 12] rfl ?_ -- R5
        try simp [hHs, hH', hpl, or_imp, forall_and, hq, i0, wl, q0, q1, q2, q3, q4, hl, hlE, wn]
        rw [sumM_cons_yes ⟨by simpa using hg1, hb45⟩] at hs
        exact ⟨i1, _, _, hs, by omega, by omega, rfl, rfl, by rw [wrap_id (by omega) (by omega)]⟩
  · -- t17 = False
    try simp at hb17
    refine at_exit rfl ?_
    try simp [hHs, hH', hpl, or_imp, forall_and]
    refine at_seq (by kernel_rfl) ?_
    refine at_regK [8, 9] rfl ?_ -- R10
    try simp [hHs, hH', hpl, or_imp, forall_and]
    refine at_ret (by kernel_rfl) ?_
    try simp [hHs, hH', hpl, or_imp, forall_and]
    rw [List.drop_of_length_le (by omega), sumM] at hs
    rw [pathR, ← hs]
    exact ⟨rfl, rfl⟩

theorem checkClash_cons {k : Kn} {q : Int} {p : List Int} (hc : check k = 0) (hl : (q :: p).length ≤ 200) : checkClashM k (q :: p) = if inB q 0 (((tiesM k).length : Int) - 1) = false then 8 else if (pathR (netM k []) (lk (netM k []) q).frm (lk (netM k []) q).frm (q :: p)).2 = false ∨ 0 ≤ (pathR (netM k []) (lk (netM k []) q).frm (lk (netM k []) q).frm (q :: p)).1 then 8 else 0 := by
  unfold checkClashM
  rw [if_neg (by simp [hc]), if_neg (by omega)]
  show (if inB q 0 (((tiesM k).length : Int) - 1) = false then (8 : Int) else if (sumM (netM k []) (lk (netM k []) q).frm 0 (q :: p)).2.2 = false ∨ (sumM (netM k []) (lk (netM k []) q).frm 0 (q :: p)).2.1 ≠ (lk (netM k []) q).frm ∨ 0 ≤ (sumM (netM k []) (lk (netM k []) q).frm 0 (q :: p)).1 then 8 else 0) = _
  by_cases h1 : inB q 0 (((tiesM k).length : Int) - 1) = false
  · rw [if_pos h1, if_pos h1]
  · rw [if_neg h1, if_neg h1]
    simp only [pathR, Bool.and_eq_false_iff, decide_eq_false_iff_not, or_assoc, ne_eq]

theorem c55 (k : Kn) (hk : Few k) (l : List Int) (hl : l.length ≤ 1000) : Con E 55 [eKn k, eInts l] (I (checkClashM k l)) := by
  intro n H hH
  have hH' : (∀ o ∈ H, o.ok (pm H.length) = true) ↔ True := iff_true_intro hH
  have hHs : (∀ o ∈ H, o.ok shd = true) ↔ True := iff_true_intro (okH_shd hH)
  have hpl : ∀ m, (∀ o ∈ H, o.ok (pl m) = true) ↔ True := fun m => iff_true_intro (okH_pl hH m)
  refine at_start (fn := Tryz.f55) [.tmp 4] 59 H.length rfl rfl rfl rfl (by kernel_rfl) (by kernel_rfl) (by simp) (Nat.le_refl _) ?_
  refine at_seq (by kernel_rfl) ?_
  refine at_regK [1, 2] rfl ?_ -- R0
  try simp [hHs, hH', hpl, or_imp, forall_and]
  refine at_seq (by kernel_rfl) ?_
  refine at_regK [1, 2, 5] rfl ?_ -- R1
  try simp [hHs, hH', hpl, or_imp, forall_and]
  refine (c53 _ hk).use hH ?_
  try simp [hHs, hH', hpl, or_imp, forall_and]
  refine at_seq (by kernel_rfl) ?_
  refine at_seq (by kernel_rfl) ?_
  refine at_regK [1, 2, 5, 13] rfl ?_ -- R2
  try simp [hHs, hH', hpl, or_imp, forall_and]
  refine at_cond rfl rfl (fun hb13 => ?_) (fun hb13 => ?_)
  · -- t13 = True
    try simp at hb13
    refine at_seq (by kernel_rfl) ?_
    refine at_regK [4] rfl ?_ -- R3
    try simp [hHs, hH', hpl, or_imp, forall_and]
    refine at_ret (by kernel_rfl) ?_
    try simp [hHs, hH', hpl, or_imp, forall_and]
    unfold checkClashM
    rw [if_pos hb13]
  · -- t13 = False
    try simp at hb13
    have fn := fine_of_check hb13
    have rt := right_of_check hb13
    have or := order_of_check hb13
    have nl := rt.nl; have nd := rt.nd; have nw := rt.nw
    have hN : (netM k []).links = tiesM k := by simp [netM]
    have htm := ties_in rt
    have htl := tiesLen k
    refine at_skip (by kernel_rfl) ?_
    try simp [hHs, hH', hpl, or_imp, forall_and]
    refine at_seq (by kernel_rfl) ?_
    refine at_seq (by kernel_rfl) ?_
    refine at_regK [1, 2, 17] rfl ?_ -- R4
    try simp [hHs, hH', hpl, or_imp, forall_and]
    refine at_cond rfl rfl (fun hb17 => ?_) (fun hb17 => ?_)
    · -- t17 = True
      try simp at hb17
      refine at_seq (by kernel_rfl) ?_
      refine at_regK [4] rfl ?_ -- R5
      try simp [hHs, hH', hpl, or_imp, forall_and]
      refine at_ret (by kernel_rfl) ?_
      try simp [hHs, hH', hpl, or_imp, forall_and]
      unfold checkClashM
      rw [if_neg (by simp [hb13]), if_pos (by omega)]
    · -- t17 = False
      try simp at hb17
      refine at_skip (by kernel_rfl) ?_
      try simp [hHs, hH', hpl, or_imp, forall_and]
      refine at_seq (by kernel_rfl) ?_
      refine at_regK [1, 6] rfl ?_ -- R6
      try simp [hHs, hH', hpl, or_imp, forall_and]
      refine (c104 k hk or fn.lo).use hH ?_
      rw [← hN]
      try simp [hHs, hH', hpl, or_imp, forall_and]
      refine at_seq (by kernel_rfl) ?_
      refine at_seq (by kernel_rfl) ?_
      have hl2 : l.length ≤ 200 := by omega
      have wl : IntKind.i64.wrap (((netM k []).links.length : Int) - 1) = ((netM k []).links.length : Int) - 1 := by rw [hN]; exact wrap_id (by omega) (by omega)
      refine at_regK [1, 6, 32] rfl ?_ -- R7
      try simp [hHs, hH', hpl, or_imp, forall_and, wl]
      refine pops_split 23 rfl (fun hg1 => ?_) (fun hg1 => ?_)
      · -- t23 = True
        try simp [hHs, hH', hpl, or_imp, forall_and, wl, hg1]
        refine at_cond rfl rfl (fun hb32 => ?_) (fun hb32 => by simp at hb32)
        refine at_seq (by kernel_rfl) ?_
        refine at_regK [4] rfl ?_ -- R8
        try simp [hHs, hH', hpl, or_imp, forall_and]
        refine at_ret (by kernel_rfl) ?_
        try simp [hHs, hH', hpl, or_imp, forall_and]
        have : l = [] := by simpa using hg1
        subst this
        unfold checkClashM
        rw [if_neg (by simp [hb13]), if_neg (by simp)]
      · -- t23 = False
        obtain ⟨q, p, rfl⟩ : ∃ q p, l = q :: p := by cases l with | nil => simp at hg1 | cons q p => exact ⟨q, p, rfl⟩
        have hcl : ((p.length : Int) + 1 == 0) = false := by simp; omega
        have hp0 : (0 : Int) < (p.length : Int) + 1 := by omega
        try simp [hHs, hH', hpl, or_imp, forall_and, wl, hcl, hp0, wl, hg1]
        refine (c126 _ _ _).use hH ?_
        try simp [hHs, hH', hpl, or_imp, forall_and, wl, hcl, hp0, wl]
        refine at_cond rfl rfl (fun hb32 => ?_) (fun hb32 => ?_)
        · -- t32 = True
          try simp at hb32
          refine at_seq (by kernel_rfl) ?_
          refine at_regK [4] rfl ?_ -- R8
          try simp [hHs, hH', hpl, or_imp, forall_and, hcl, hp0, wl]
          refine at_ret (by kernel_rfl) ?_
          try simp [hHs, hH', hpl, or_imp, forall_and, hcl, hp0, wl]
          have hh : inB q 0 (((tiesM k).length : Int) - 1) = false := by rw [← hN]; simpa using hb32
          rw [checkClash_cons hb13 hl2, if_pos hh]
        · -- t32 = False
          try simp at hb32
          have hin : 0 ≤ q ∧ q < (netM k []).links.length := by simp [inB] at hb32; omega
          obtain ⟨q0, q1⟩ := hin
          have q2 : ¬ ((netM k []).links.length : Int) - 1 < q := by omega
          have q3 : q ≤ ((netM k []).links.length : Int) - 1 := by omega
          have q4 : (if 0 < q then q else 0) = q := by split <;> omega
          have hlq := lk_get (x := netM k []) q0 q1
          have hlE : ∀ h, (netM k []).links[q.toNat]'h = lk (netM k []) q := fun h => (List.getElem?_eq_some_iff.1 hlq).2
          refine at_skip (by kernel_rfl) ?_
          try simp [hHs, hH', hpl, or_imp, forall_and, hcl, hp0, wl, q0, q1, q2, q3, q4, hlq, hlE]
          refine at_seq (by kernel_rfl) ?_
          refine at_regK [1, 6, 7] rfl ?_ -- R9
          try simp [hHs, hH', hpl, or_imp, forall_and, hcl, hp0, wl, q0, q1, q2, q3, q4, hlq, hlE]
          refine at_seq (by kernel_rfl) ?_
          refine at_regK [8, 9] rfl ?_ -- R10
          try simp [hHs, hH', hpl, or_imp, forall_and, hcl, hp0, wl, q0, q1, q2, q3, q4, hlq, hlE]
          refine (c132 (netM k []) _ _ _ (by rw [hN]; omega) (fun t ht => by rw [hN] at ht; have := htm t ht; omega) (by omega)).use hH ?_
          try simp [hHs, hH', hpl, or_imp, forall_and, hcl, hp0, wl, q0, q1, q2, q3, q4, hlq, hlE]
          refine at_seq (by kernel_rfl) ?_
          refine at_seq (by kernel_rfl) ?_
          refine at_regK [58] rfl ?_ -- R11
          try simp [hHs, hH', hpl, or_imp, forall_and, hcl, hp0, wl, q0, q1, q2, q3, q4, hlq, hlE]
          refine pops_split 55 rfl (fun hg2 => ?_) (fun hg2 => ?_)
          · -- t55 = True
            try simp [hHs, hH', hpl, or_imp, forall_and, hcl, hp0, wl, q0, q1, q2, q3, q4, hlq, hlE, hg2]
            refine at_cond rfl rfl (fun hb58 => ?_) (fun hb58 => by simp at hb58)
            refine at_seq (by kernel_rfl) ?_
            refine at_regK [4] rfl ?_ -- R12
            try simp [hHs, hH', hpl, or_imp, forall_and, hcl, hp0, wl, q0, q1, q2, q3, q4, hlq, hlE]
            refine at_ret (by kernel_rfl) ?_
            try simp [hHs, hH', hpl, or_imp, forall_and, hcl, hp0, wl, q0, q1, q2, q3, q4, hlq, hlE]
            rw [checkClash_cons hb13 hl2, if_neg (by rw [← hN]; simp [hb32]), if_pos (.inl (by simpa using hg2))]
          · -- t55 = False
            try simp [hHs, hH', hpl, or_imp, forall_and, hcl, hp0, wl, q0, q1, q2, q3, q4, hlq, hlE, hg2]
            refine at_cond rfl rfl (fun hb58 => ?_) (fun hb58 => ?_)
            · -- t58 = True
              try simp at hb58
              refine at_seq (by kernel_rfl) ?_
              refine at_regK [4] rfl ?_ -- R12
              try simp [hHs, hH', hpl, or_imp, forall_and, hcl, hp0, wl, q0, q1, q2, q3, q4, hlq, hlE]
              refine at_ret (by kernel_rfl) ?_
              try simp [hHs, hH', hpl, or_imp, forall_and, hcl, hp0, wl, q0, q1, q2, q3, q4, hlq, hlE]
              rw [checkClash_cons hb13 hl2, if_neg (by rw [← hN]; simp [hb32]), if_pos (.inr hb58)]
            · -- t58 = False
              try simp at hb58
              refine at_skip (by kernel_rfl) ?_
              try simp [hHs, hH', hpl, or_imp, forall_and, hcl, hp0, wl, q0, q1, q2, q3, q4, hlq, hlE]
              refine at_seq (by kernel_rfl) ?_
              refine at_regK [4] rfl ?_ -- R13
              try simp [hHs, hH', hpl, or_imp, forall_and, hcl, hp0, wl, q0, q1, q2, q3, q4, hlq, hlE]
              refine at_ret (by kernel_rfl) ?_
              try simp [hHs, hH', hpl, or_imp, forall_and, hcl, hp0, wl, q0, q1, q2, q3, q4, hlq, hlE]
              rw [checkClash_cons hb13 hl2, if_neg (by rw [← hN]; simp [hb32]), if_neg (by simp at hg2; simp [hg2]; omega)]
end Go.Abs
/- The chapter's example. -/
set_option linter.unusedVariables false
set_option linter.unusedSimpArgs false
set_option maxRecDepth 100000
set_option maxHeartbeats 2000000
namespace Go.Abs
open Go.RowKit Go.Proofs Go.Shaft
attribute [simp] ti22 ti23 ti24 ti26 ti30 ti42 ti45 ti52 ti122 ti125 ti88 ti92 ti46
def exV (n : Nat) : AV := .agg [I 100, I 10, .own false n 3, .own false (n + 1) 2, .own false (n + 2) 2]
def exR : List AO := [.xrow 4 (exK.loads.map eLd), .xrow 4 (exK.draws.map eLd), .xrow 6 (exK.weighs.map eWg)]
theorem c68 : ConR E 68 [] exV exR := by
  intro n H hH
  have hH' : (∀ o ∈ H, o.ok (pm H.length) = true) ↔ True := iff_true_intro hH
  have hHs : (∀ o ∈ H, o.ok shd = true) ↔ True := iff_true_intro (okH_shd hH)
  have hpl : ∀ m, (∀ o ∈ H, o.ok (pl m) = true) ↔ True := fun m => iff_true_intro (okH_pl hH m)
  refine at_start (fn := Tryz.f68) [.cell 0 26] 19 H.length rfl rfl rfl rfl (by kernel_rfl) (by kernel_rfl) (by simp) (Nat.le_refl _) ?_
  refine at_seq (by kernel_rfl) ?_
  refine at_regK [0] rfl ?_ -- R0
  simp [hHs, hH', hpl, or_imp, forall_and]
  refine at_seq (by kernel_rfl) ?_
  refine at_regA [0] rfl ?_ -- R1
  simp only [AOps, guardP]
  refine pv_sound ?_
  simp
  refine pv_sound ?_
  simp
  refine pv_sound ?_
  simp
  refine pv_sound ?_
  simp
  refine pv_sound ?_
  simp
  refine pv_sound ?_
  simp
  refine opw_buildX rfl rfl rfl rfl rfl (by decide) (by decide) (by simp [fits]) ?_
  simp [setAll, AS.push]
  refine pv_sound ?_
  simp
  refine pv_sound ?_
  simp
  refine pv_sound ?_
  simp
  refine pv_sound ?_
  simp
  refine opw_buildX rfl rfl rfl rfl rfl (by decide) (by decide) (by simp [fits]) ?_
  simp [setAll, AS.push]
  refine pv_sound ?_
  simp
  refine pv_sound ?_
  simp
  refine pv_sound ?_
  simp
  refine pv_sound ?_
  simp
  refine opw_buildX rfl rfl rfl rfl rfl (by decide) (by decide) (by simp [fits]) ?_
  simp [setAll, AS.push]
  refine pv_sound ?_
  simp
  refine pv_sound ?_
  simp
  refine at_ret (by kernel_rfl) ?_
  simp [hHs, hH', hpl, or_imp, forall_and, FOutU, AV.locs, AV.outR, pickR, List.idxOf?, List.findIdx?_cons]
  exact ⟨rfl, rfl⟩
attribute [simp] ti134 ti131 ti48 ti85 ti143 ti189 ti190 ti192 ti204 ti208 ti218 ti9 ti5 ti27 ti28 ti141
theorem eqt30 : EqTy E.P 30 [.i64, .i64] := ⟨by kernel_rfl, by kernel_rfl, by kernel_rfl⟩
theorem eqt92 : EqTy E.P 92 [.i64, .i64, .i64, .i64] := ⟨by kernel_rfl, by kernel_rfl, by kernel_rfl⟩
theorem eqt42 : EqTy E.P 42 [.i64, .i64, .i64, .i64] := ⟨by kernel_rfl, by kernel_rfl, by kernel_rfl⟩
theorem eqt52 : EqTy E.P 52 [.i64, .i64, .i64, .i64] := ⟨by kernel_rfl, by kernel_rfl, by kernel_rfl⟩
theorem eqt45 : EqTy E.P 45 [.i64, .i64, .i64, .i64, .i64, .i64] := ⟨by kernel_rfl, by kernel_rfl, by kernel_rfl⟩
@[simp] theorem pCmp_sp (op : BinOp) (s t : Sp) (K : AV → Prop) : pCmp E.P op 30 (eSp s) (eSp t) K = cmpK op (decide (s = t)) K := by
  rw [pCmp_flat _ _ _ _ _ rfl]
  have e : ([s.lo, s.hi] == [t.lo, t.hi]) = decide (s = t) := by cases s; cases t; simp [Bool.decide_and]; rfl
  simp only [eSp, AV.flatI, AV.flatIs, got_some, List.append_nil, List.cons_append, List.nil_append, List.map_cons, List.map_nil, eqt30, true_and, e]
  simp [AV.isAgg]
@[simp] theorem pCmp_spl (op : BinOp) (s : Sp) (lo hi : Int) (K : AV → Prop) : pCmp E.P op 30 (eSp s) (.agg [.int .i64 lo, .int .i64 hi]) K = cmpK op (decide (s = ⟨lo, hi⟩)) K := pCmp_sp op s ⟨lo, hi⟩ K
@[simp] theorem pCmp_tie (op : BinOp) (s t : Tie) (K : AV → Prop) : pCmp E.P op 92 (eTie s) (eTie t) K = cmpK op (decide (s = t)) K := by
  rw [pCmp_flat _ _ _ _ _ rfl]
  have e : ([s.frm, s.to, s.most, s.id] == [t.frm, t.to, t.most, t.id]) = decide (s = t) := by cases s; cases t; simp [Bool.decide_and]; rfl
  simp only [eTie, AV.flatI, AV.flatIs, got_some, List.append_nil, List.cons_append, List.nil_append, List.map_cons, List.map_nil, eqt92, true_and, e]
  simp [AV.isAgg]
@[simp] theorem pCmp_tiel (op : BinOp) (s : Tie) (a b c d : Int) (K : AV → Prop) : pCmp E.P op 92 (eTie s) (.agg [.int .i64 a, .int .i64 b, .int .i64 c, .int .i64 d]) K = cmpK op (decide (s = ⟨a, b, c, d⟩)) K := pCmp_tie op s ⟨a, b, c, d⟩ K
theorem few_ex : Few exK := ⟨by decide, by decide, by decide⟩
theorem few_ex2 : Few exK2 := ⟨by decide, by decide, by decide⟩
@[simp] theorem exL1 : exK.loads.length = 3 := rfl
@[simp] theorem exL2 : exK.draws.length = 2 := rfl
@[simp] theorem exL3 : exK.weighs.length = 2 := rfl
theorem exK2_lit : eKn exK2 = .agg [I 100, I 10, .lit 4 (exK.loads.map eLd), .lit 4 (exK.draws.map eLd), .lit 6 (exK.weighs.map eWg ++ [.agg [.int .i64 23, .int .i64 1, .int .i64 1, .int .i64 1, .agg [.int .i64 31, .int .i64 33]]])] := rfl
theorem exK_lit : eKn exK = .agg [I 100, I 10, .lit 4 (exK.loads.map eLd), .lit 4 (exK.draws.map eLd), .lit 6 (exK.weighs.map eWg)] := rfl

theorem c49 (k : Kn) (hk : Few k) : Con E 49 [eKn k] (I (marksM k)) := by
  intro n H hH
  have hH' : (∀ o ∈ H, o.ok (pm H.length) = true) ↔ True := iff_true_intro hH
  have hHs : (∀ o ∈ H, o.ok shd = true) ↔ True := iff_true_intro (okH_shd hH)
  have hpl : ∀ m, (∀ o ∈ H, o.ok (pl m) = true) ↔ True := fun m => iff_true_intro (okH_pl hH m)
  refine at_start (fn := Tryz.f49) [.tmp 2] 11 H.length rfl rfl rfl rfl (by kernel_rfl) (by kernel_rfl) (by simp) (Nat.le_refl _) ?_
  refine at_seq (by kernel_rfl) ?_
  refine at_regK [1] rfl ?_ -- R0
  try simp [hHs, hH', hpl, or_imp, forall_and]
  refine at_seq (by kernel_rfl) ?_
  refine at_regK [2] rfl ?_ -- R1
  try simp [hHs, hH', hpl, or_imp, forall_and]
  refine at_ret (by kernel_rfl) ?_
  try simp [hHs, hH', hpl, or_imp, forall_and]
  have := hk.l
  have := hk.d
  rw [wrap_id (n := (k.loads.length : Int) + k.draws.length) (by omega) (by omega), wrap_id (by omega) (by omega)]
  simp [marksM]
  omega
end Go.Abs
/- The chapter's example: what the program tells of it. -/
set_option linter.unusedVariables false
set_option linter.unusedSimpArgs false
set_option maxRecDepth 100000
set_option maxHeartbeats 2000000
namespace Go.Abs
open Go.RowKit Go.Proofs Go.Shaft
attribute [simp] ti22 ti23 ti24 ti26 ti30 ti42 ti45 ti52 ti122 ti125 ti88 ti92 ti46
attribute [simp] ti134 ti131 ti48 ti85 ti143 ti189 ti190 ti192 ti204 ti208 ti218 ti9 ti5 ti27 ti28 ti141

theorem c17 : Con E 17 [] (.bool true) := by
  intro n H hH
  have hH' : (∀ o ∈ H, o.ok (pm H.length) = true) ↔ True := iff_true_intro hH
  have hHs : (∀ o ∈ H, o.ok shd = true) ↔ True := iff_true_intro (okH_shd hH)
  have hpl : ∀ m, (∀ o ∈ H, o.ok (pl m) = true) ↔ True := fun m => iff_true_intro (okH_pl hH m)
  obtain ⟨tl, htl⟩ : ∃ tl, tl = (tiesAll exK).1 := ⟨_, rfl⟩
  have hT : ((tiesAll exK).2, tl.length, tl[1]?) = (0, 19, some ⟨1, 0, -20, 1⟩) := by rw [htl]; exact ex_ties
  have hT2 : tiesAll exK = (tl, 0) := by rw [htl]; exact Prod.ext rfl (congrArg Prod.fst hT)
  have hT3 : tl.length = 19 := congrArg (fun q => q.2.1) hT
  have hT4 : tl[1]? = some ⟨1, 0, -20, 1⟩ := congrArg (fun q => q.2.2) hT
  have hT5 : ∀ h, tl[1]'h = ⟨1, 0, -20, 1⟩ := fun h => (List.getElem?_eq_some_iff.1 hT4).2
  obtain ⟨cl, hcl⟩ : ∃ cl, cl = (clashM exK2).1.getD [] := ⟨_, rfl⟩
  have hC : ((clashM exK2).1.isSome, (clashM exK2).2, decide (cl.length ≤ 1000), checkClashM exK2 cl) = (true, 0, true, 0) := by rw [hcl]; exact ex_cl
  have hC1 : (clashM exK2).1.isSome = true := congrArg (fun q => q.1) hC
  have hC2 : (clashM exK2).2 = 0 := congrArg (fun q => q.2.1) hC
  have hC3 : cl.length ≤ 1000 := by have := congrArg (fun q => q.2.2.1) hC; simpa using this
  have hC4 : checkClashM exK2 cl = 0 := congrArg (fun q => q.2.2.2) hC
  refine at_start (fn := Tryz.f17) [.tmp 0] 217 H.length rfl rfl rfl rfl (by kernel_rfl) (by kernel_rfl) (by simp) (Nat.le_refl _) ?_
  refine at_seq (by kernel_rfl) ?_
  refine at_regK [] rfl ?_ -- R0
  try simp (config := { maxSteps := 4000000 }) [hHs, hH', hpl, or_imp, forall_and, AS.expos, AS.expo, AS.setMem]
  refine at_seq (by kernel_rfl) ?_
  refine at_regK [1] rfl ?_ -- R1
  try simp (config := { maxSteps := 4000000 }) [hHs, hH', hpl, or_imp, forall_and, exV, exR]
  refine c68.use hH ?_
  try simp (config := { maxSteps := 4000000 }) [hHs, hH', hpl, or_imp, forall_and, exV, exR]
  refine at_seq (by kernel_rfl) ?_
  refine at_regK [1, 2, 3] rfl ?_ -- R2
  try simp (config := { maxSteps := 4000000 }) [hHs, hH', hpl, or_imp, forall_and, AS.expos, AS.expo, AS.setMem]
  rw [← exK_lit]
  refine (c51 exK few_ex).use hH ?_
  rw [hT2]
  try simp (config := { maxSteps := 4000000 }) [hHs, hH', hpl, or_imp, forall_and, AS.expos, AS.expo, AS.setMem]
  refine at_seq (by kernel_rfl) ?_
  refine at_regK [1, 2, 3, 4, 5] rfl ?_ -- R3
  try simp (config := { maxSteps := 4000000 }) [hHs, hH', hpl, or_imp, forall_and, AS.expos, AS.expo, AS.setMem]
  rw [← exK_lit]
  refine (c18 exK few_ex 1).use hH ?_
  rw [ex_w1]
  try simp (config := { maxSteps := 4000000 }) [hHs, hH', hpl, or_imp, forall_and, AS.expos, AS.expo, AS.setMem]
  refine at_seq (by kernel_rfl) ?_
  refine at_regK [1, 2, 3, 4, 5, 6, 7] rfl ?_ -- R4
  try simp (config := { maxSteps := 4000000 }) [hHs, hH', hpl, or_imp, forall_and, AS.expos, AS.expo, AS.setMem]
  rw [← exK_lit]
  refine (c18 exK few_ex 3).use hH ?_
  rw [ex_w3]
  try simp (config := { maxSteps := 4000000 }) [hHs, hH', hpl, or_imp, forall_and, AS.expos, AS.expo, AS.setMem]
  refine at_seq (by kernel_rfl) ?_
  refine at_regK [1, 2, 3, 4, 5, 6, 7, 8, 9] rfl ?_ -- R5
  try simp (config := { maxSteps := 4000000 }) [hHs, hH', hpl, or_imp, forall_and, AS.expos, AS.expo, AS.setMem]
  rw [← exK_lit]
  refine (c22 exK few_ex 4).use hH ?_
  rw [ex_h]
  try simp (config := { maxSteps := 4000000 }) [hHs, hH', hpl, or_imp, forall_and, AS.expos, AS.expo, AS.setMem]
  refine at_seq (by kernel_rfl) ?_
  refine at_regK [1, 2, 3, 4, 5, 6, 7, 8, 9, 10, 11] rfl ?_ -- R6
  try simp (config := { maxSteps := 4000000 }) [hHs, hH', hpl, or_imp, forall_and, AS.expos, AS.expo, AS.setMem]
  rw [← exK_lit]
  refine (c24 exK few_ex 3 6).use hH ?_
  rw [ex_b]
  try simp (config := { maxSteps := 4000000 }) [hHs, hH', hpl, or_imp, forall_and, AS.expos, AS.expo, AS.setMem]
  refine at_seq (by kernel_rfl) ?_
  refine at_regK [1, 2, 3, 4, 5, 6, 7, 8, 9, 10, 11, 12, 13] rfl ?_ -- R7
  try simp (config := { maxSteps := 4000000 }) [hHs, hH', hpl, or_imp, forall_and, AS.expos, AS.expo, AS.setMem]
  rw [← exK_lit]
  refine (c26 exK few_ex 3 6).use hH ?_
  rw [ex_f]
  try simp (config := { maxSteps := 4000000 }) [hHs, hH', hpl, or_imp, forall_and, AS.expos, AS.expo, AS.setMem]
  refine at_seq (by kernel_rfl) ?_
  refine at_regK [1, 2, 3, 4, 5, 6, 7, 8, 9, 10, 11, 12, 13, 14, 15] rfl ?_ -- R8
  try simp (config := { maxSteps := 4000000 }) [hHs, hH', hpl, or_imp, forall_and, AS.expos, AS.expo, AS.setMem]
  rw [← exK_lit]
  refine (c31 exK few_ex 12 2).use hH ?_
  rw [ex_t2]
  try simp (config := { maxSteps := 4000000 }) [hHs, hH', hpl, or_imp, forall_and, AS.expos, AS.expo, AS.setMem]
  refine at_seq (by kernel_rfl) ?_
  refine at_regK [1, 2, 3, 4, 5, 6, 7, 8, 9, 10, 11, 12, 13, 14, 15, 16, 17] rfl ?_ -- R9
  try simp (config := { maxSteps := 4000000 }) [hHs, hH', hpl, or_imp, forall_and, AS.expos, AS.expo, AS.setMem]
  rw [← exK_lit]
  refine (c31 exK few_ex 12 3).use hH ?_
  rw [ex_t3]
  try simp (config := { maxSteps := 4000000 }) [hHs, hH', hpl, or_imp, forall_and, AS.expos, AS.expo, AS.setMem]
  refine at_seq (by kernel_rfl) ?_
  refine at_regK [1, 2, 3, 4, 5, 6, 7, 8, 9, 10, 11, 12, 13, 14, 15, 16, 17, 18, 19, 20] rfl ?_ -- R10
  try simp (config := { maxSteps := 4000000 }) [hHs, hH', hpl, or_imp, forall_and, AS.expos, AS.expo, AS.setMem]
  rw [← exK_lit]
  refine (c30 exK few_ex 12).use hH ?_
  rw [ex_s]
  try simp (config := { maxSteps := 4000000 }) [hHs, hH', hpl, or_imp, forall_and, AS.expos, AS.expo, AS.setMem]
  refine at_seq (by kernel_rfl) ?_
  refine at_regK [1, 2, 3, 4, 5, 6, 7, 8, 9, 10, 11, 12, 13, 14, 15, 16, 17, 18, 19, 20, 21, 22] rfl ?_ -- R11
  try simp (config := { maxSteps := 4000000 }) [hHs, hH', hpl, or_imp, forall_and, AS.expos, AS.expo, AS.setMem]
  rw [← exK_lit]
  refine (c41 exK few_ex (fun _ => by decide) 0 3).use hH ?_
  rw [ex_r]
  try simp (config := { maxSteps := 4000000 }) [hHs, hH', hpl, or_imp, forall_and, AS.expos, AS.expo, AS.setMem]
  refine at_seq (by kernel_rfl) ?_
  refine at_regA [1, 2, 3, 4, 5, 6, 7, 8, 9, 10, 11, 12, 13, 14, 15, 16, 17, 18, 19, 20, 21, 22] rfl ?_
  simp only [AOps, guardP]
  refine pv_sound ?_
  simp
  refine pv_sound ?_
  simp
  refine pv_sound ?_
  simp
  refine pv_sound ?_
  simp
  refine pv_sound ?_
  simp
  refine opw_appendX rfl rfl rfl rfl rfl rfl rfl (by decide) rfl rfl rfl (by decide) (by decide) rfl (by decide) ?_
  simp [AS.push]
  refine pv_sound ?_
  simp
  refine pv_sound ?_
  simp
  
  refine at_seq (by kernel_rfl) ?_
  refine at_regK [1, 2, 3, 4, 5, 6, 7, 8, 9, 10, 11, 12, 13, 14, 15, 16, 17, 18, 19, 20, 21, 22, 24] rfl ?_ -- R13
  try simp (config := { maxSteps := 4000000 }) [hHs, hH', hpl, or_imp, forall_and, AS.expos, AS.expo, AS.setMem]
  rw [← exK2_lit]
  refine (c29 exK2 few_ex2).use hH ?_
  rw [ex_fi]
  try simp (config := { maxSteps := 4000000 }) [hHs, hH', hpl, or_imp, forall_and, AS.expos, AS.expo, AS.setMem]
  refine at_seq (by kernel_rfl) ?_
  refine at_regK [1, 2, 3, 4, 5, 6, 7, 8, 9, 10, 11, 12, 13, 14, 15, 16, 17, 18, 19, 20, 21, 22, 24, 25, 26, 27] rfl ?_ -- R14
  try simp (config := { maxSteps := 4000000 }) [hHs, hH', hpl, or_imp, forall_and, AS.expos, AS.expo, AS.setMem]
  rw [← exK2_lit]
  refine (c52 exK2 few_ex2).use hH ?_
  rw [← hcl, hC1, hC2]
  try simp (config := { maxSteps := 4000000 }) [hHs, hH', hpl, or_imp, forall_and, AS.expos, AS.expo, AS.setMem]
  refine at_seq (by kernel_rfl) ?_
  refine at_seq (by kernel_rfl) ?_
  refine at_regK [1, 2, 4, 6, 8, 10, 12, 14, 16, 18, 19, 21, 25, 26, 150] rfl ?_ -- R15
  try simp (config := { maxSteps := 4000000 }) [hHs, hH', hpl, or_imp, forall_and, AS.expos, AS.expo, AS.setMem, hT3]
  refine at_cond rfl rfl (fun hb150 => by simp at hb150) (fun hb150 => ?_)
  refine at_skip (by kernel_rfl) ?_
  try simp (config := { maxSteps := 4000000 }) [hHs, hH', hpl, or_imp, forall_and, AS.expos, AS.expo, AS.setMem]
  refine at_seq (by kernel_rfl) ?_
  refine at_regK [1, 2, 14, 16, 18, 19, 21, 25, 26, 28] rfl ?_ -- R17
  try simp (config := { maxSteps := 4000000 }) [hHs, hH', hpl, or_imp, forall_and, AS.expos, AS.expo, AS.setMem]
  refine at_seq (by kernel_rfl) ?_
  refine at_regK [1, 2, 25, 26, 28, 29] rfl ?_ -- R18
  try simp (config := { maxSteps := 4000000 }) [hHs, hH', hpl, or_imp, forall_and, AS.expos, AS.expo, AS.setMem]
  refine (c40 [1, 2] [1, 2] (by decide) (by decide)).use hH ?_
  try simp (config := { maxSteps := 4000000 }) [hHs, hH', hpl, or_imp, forall_and, AS.expos, AS.expo, AS.setMem]
  refine (c40 [1, 2, 3] [1, 2, 3] (by decide) (by decide)).use hH ?_
  try simp (config := { maxSteps := 4000000 }) [hHs, hH', hpl, or_imp, forall_and, AS.expos, AS.expo, AS.setMem]
  refine (c40 [22] [22] (by decide) (by decide)).use hH ?_
  try simp (config := { maxSteps := 4000000 }) [hHs, hH', hpl, or_imp, forall_and, AS.expos, AS.expo, AS.setMem]
  refine at_seq (by kernel_rfl) ?_
  refine at_regK [0] rfl ?_ -- R19
  try simp (config := { maxSteps := 4000000 }) [hHs, hH', hpl, or_imp, forall_and, AS.expos, AS.expo, AS.setMem, hT3, hT4, hT5]
  rw [← exK2_lit]
  refine (c55 exK2 few_ex2 cl hC3).use hH ?_
  rw [hC4]
  try simp (config := { maxSteps := 4000000 }) [hHs, hH', hpl, or_imp, forall_and, AS.expos, AS.expo, AS.setMem, hT3, hT4, hT5]
  refine at_ret (by kernel_rfl) ?_
  try simp (config := { maxSteps := 4000000 }) [hHs, hH', hpl, or_imp, forall_and, AS.expos, AS.expo, AS.setMem]
end Go.Abs
/- Few enough. -/
set_option linter.unusedVariables false
set_option linter.unusedSimpArgs false
set_option maxRecDepth 100000
set_option maxHeartbeats 2000000
namespace Go.Abs
open Go.RowKit Go.Proofs Go.Shaft
attribute [simp] ti22 ti23 ti24 ti26 ti30 ti42 ti45 ti52 ti122 ti125 ti88 ti92 ti46

/-- At most so many, or too many. -/
def fewB (k : Kn) : Bool := (decide ((k.loads.length : Int) ≤ 6) || (decide (20 < (k.loads.length : Int)) && decide ((k.loads.length : Int) ≤ 30))) && (decide ((k.draws.length : Int) ≤ 6) || (decide (20 < (k.draws.length : Int)) && decide ((k.draws.length : Int) ≤ 30))) && (decide ((k.weighs.length : Int) ≤ 5) || (decide (20 < (k.weighs.length : Int)) && decide ((k.weighs.length : Int) ≤ 30)))
theorem fewB_few {k : Kn} (h : fewB k = true) : Few k := by
  simp only [fewB, Bool.and_eq_true, Bool.or_eq_true, decide_eq_true_eq] at h
  exact ⟨by omega, by omega, by omega⟩
theorem fewB_w {k : Kn} (h : fewB k = true) (hc : check k = 0) : k.loads.length ≤ 6 ∧ k.draws.length ≤ 6 ∧ k.weighs.length ≤ 5 := by
  simp only [fewB, Bool.and_eq_true, Bool.or_eq_true, decide_eq_true_eq] at h
  have r := right_of_check hc
  have h1 := r.nl; have h2 := r.nd; have h3 := r.nw
  omega

theorem c16 (k : Kn) : Con E 16 [eKn k] (.bool (fewB k)) := by
  intro n H hH
  have hH' : (∀ o ∈ H, o.ok (pm H.length) = true) ↔ True := iff_true_intro hH
  have hHs : (∀ o ∈ H, o.ok shd = true) ↔ True := iff_true_intro (okH_shd hH)
  have hpl : ∀ m, (∀ o ∈ H, o.ok (pl m) = true) ↔ True := fun m => iff_true_intro (okH_pl hH m)
  refine at_start (fn := Tryz.f16) [.tmp 2] 55 H.length rfl rfl rfl rfl (by kernel_rfl) (by kernel_rfl) (by simp) (Nat.le_refl _) ?_
  refine at_seq (by kernel_rfl) ?_
  refine at_regK [1] rfl ?_ -- R0
  try simp [hHs, hH', hpl, or_imp, forall_and]
  refine at_seq (by kernel_rfl) ?_
  refine at_regK [2] rfl ?_ -- R1
  try simp [hHs, hH', hpl, or_imp, forall_and]
  refine pops_split 7 rfl (fun hg1 => ?_) (fun hg1 => ?_)
  · -- t7 = True
    try simp [hHs, hH', hpl, or_imp, forall_and, hg1]
    refine pops_split 24 rfl (fun hg2 => ?_) (fun hg2 => ?_)
    · -- t24 = True
      try simp [hHs, hH', hpl, or_imp, forall_and, hg2]
      refine pops_split 42 rfl (fun hg3 => ?_) (fun hg3 => ?_)
      · -- t42 = True
        try simp [hHs, hH', hpl, or_imp, forall_and, hg3]
        refine at_ret (by kernel_rfl) ?_
        try simp [hHs, hH', hpl, or_imp, forall_and]
        simp [fewB, *]
      · -- t42 = False
        try simp [hHs, hH', hpl, or_imp, forall_and, hg3]
        refine pops_split 47 rfl (fun hg4 => ?_) (fun hg4 => ?_)
        · -- t47 = True
          try simp [hHs, hH', hpl, or_imp, forall_and, hg4]
          refine at_ret (by kernel_rfl) ?_
          try simp [hHs, hH', hpl, or_imp, forall_and]
          simp [fewB, *]
        · -- t47 = False
          try simp [hHs, hH', hpl, or_imp, forall_and, hg4]
          refine at_ret (by kernel_rfl) ?_
          try simp [hHs, hH', hpl, or_imp, forall_and]
          simp [fewB, *]
    · -- t24 = False
      try simp [hHs, hH', hpl, or_imp, forall_and, hg2]
      refine pops_split 29 rfl (fun hg5 => ?_) (fun hg5 => ?_)
      · -- t29 = True
        try simp [hHs, hH', hpl, or_imp, forall_and, hg5]
        refine pops_split 37 rfl (fun hg6 => ?_) (fun hg6 => ?_)
        · -- t37 = True
          try simp [hHs, hH', hpl, or_imp, forall_and, hg6]
          refine pops_split 42 rfl (fun hg7 => ?_) (fun hg7 => ?_)
          · -- t42 = True
            try simp [hHs, hH', hpl, or_imp, forall_and, hg7]
            refine at_ret (by kernel_rfl) ?_
            try simp [hHs, hH', hpl, or_imp, forall_and]
            simp [fewB, *]
          · -- t42 = False
            try simp [hHs, hH', hpl, or_imp, forall_and, hg7]
            refine pops_split 47 rfl (fun hg8 => ?_) (fun hg8 => ?_)
            · -- t47 = True
              try simp [hHs, hH', hpl, or_imp, forall_and, hg8]
              refine at_ret (by kernel_rfl) ?_
              try simp [hHs, hH', hpl, or_imp, forall_and]
              simp [fewB, *]
            · -- t47 = False
              try simp [hHs, hH', hpl, or_imp, forall_and, hg8]
              refine at_ret (by kernel_rfl) ?_
              try simp [hHs, hH', hpl, or_imp, forall_and]
              simp [fewB, *]
        · -- t37 = False
          try simp [hHs, hH', hpl, or_imp, forall_and, hg6]
          refine at_ret (by kernel_rfl) ?_
          try simp [hHs, hH', hpl, or_imp, forall_and]
          simp [fewB, *]
      · -- t29 = False
        try simp [hHs, hH', hpl, or_imp, forall_and, hg5]
        refine at_ret (by kernel_rfl) ?_
        try simp [hHs, hH', hpl, or_imp, forall_and]
        simp [fewB, *]
  · -- t7 = False
    try simp [hHs, hH', hpl, or_imp, forall_and, hg1]
    refine pops_split 12 rfl (fun hg9 => ?_) (fun hg9 => ?_)
    · -- t12 = True
      try simp [hHs, hH', hpl, or_imp, forall_and, hg9]
      refine pops_split 19 rfl (fun hg10 => ?_) (fun hg10 => ?_)
      · -- t19 = True
        try simp [hHs, hH', hpl, or_imp, forall_and, hg10]
        refine pops_split 24 rfl (fun hg11 => ?_) (fun hg11 => ?_)
        · -- t24 = True
          try simp [hHs, hH', hpl, or_imp, forall_and, hg11]
          refine pops_split 42 rfl (fun hg12 => ?_) (fun hg12 => ?_)
          · -- t42 = True
            try simp [hHs, hH', hpl, or_imp, forall_and, hg12]
            refine at_ret (by kernel_rfl) ?_
            try simp [hHs, hH', hpl, or_imp, forall_and]
            simp [fewB, *]
          · -- t42 = False
            try simp [hHs, hH', hpl, or_imp, forall_and, hg12]
            refine pops_split 47 rfl (fun hg13 => ?_) (fun hg13 => ?_)
            · -- t47 = True
              try simp [hHs, hH', hpl, or_imp, forall_and, hg13]
              refine at_ret (by kernel_rfl) ?_
              try simp [hHs, hH', hpl, or_imp, forall_and]
              simp [fewB, *]
            · -- t47 = False
              try simp [hHs, hH', hpl, or_imp, forall_and, hg13]
              refine at_ret (by kernel_rfl) ?_
              try simp [hHs, hH', hpl, or_imp, forall_and]
              simp [fewB, *]
        · -- t24 = False
          try simp [hHs, hH', hpl, or_imp, forall_and, hg11]
          refine pops_split 29 rfl (fun hg14 => ?_) (fun hg14 => ?_)
          · -- t29 = True
            try simp [hHs, hH', hpl, or_imp, forall_and, hg14]
            refine pops_split 37 rfl (fun hg15 => ?_) (fun hg15 => ?_)
            · -- t37 = True
              try simp [hHs, hH', hpl, or_imp, forall_and, hg15]
              refine pops_split 42 rfl (fun hg16 => ?_) (fun hg16 => ?_)
              · -- t42 = True
                try simp [hHs, hH', hpl, or_imp, forall_and, hg16]
                refine at_ret (by kernel_rfl) ?_
                try simp [hHs, hH', hpl, or_imp, forall_and]
                simp [fewB, *]
              · -- t42 = False
                try simp [hHs, hH', hpl, or_imp, forall_and, hg16]
                refine pops_split 47 rfl (fun hg17 => ?_) (fun hg17 => ?_)
                · -- t47 = True
                  try simp [hHs, hH', hpl, or_imp, forall_and, hg17]
                  refine at_ret (by kernel_rfl) ?_
                  try simp [hHs, hH', hpl, or_imp, forall_and]
                  simp [fewB, *]
                · -- t47 = False
                  try simp [hHs, hH', hpl, or_imp, forall_and, hg17]
                  refine at_ret (by kernel_rfl) ?_
                  try simp [hHs, hH', hpl, or_imp, forall_and]
                  simp [fewB, *]
            · -- t37 = False
              try simp [hHs, hH', hpl, or_imp, forall_and, hg15]
              refine at_ret (by kernel_rfl) ?_
              try simp [hHs, hH', hpl, or_imp, forall_and]
              simp [fewB, *]
          · -- t29 = False
            try simp [hHs, hH', hpl, or_imp, forall_and, hg14]
            refine at_ret (by kernel_rfl) ?_
            try simp [hHs, hH', hpl, or_imp, forall_and]
            simp [fewB, *]
      · -- t19 = False
        try simp [hHs, hH', hpl, or_imp, forall_and, hg10]
        refine at_ret (by kernel_rfl) ?_
        try simp [hHs, hH', hpl, or_imp, forall_and]
        simp [fewB, *]
    · -- t12 = False
      try simp [hHs, hH', hpl, or_imp, forall_and, hg9]
      refine at_ret (by kernel_rfl) ?_
      try simp [hHs, hH', hpl, or_imp, forall_and]
      simp [fewB, *]
end Go.Abs
/- Law: triangles. -/
set_option linter.unusedVariables false
set_option linter.unusedSimpArgs false
set_option maxRecDepth 100000
set_option maxHeartbeats 2000000
namespace Go.Abs
open Go.RowKit Go.Proofs Go.Shaft
attribute [simp] ti22 ti23 ti24 ti26 ti30 ti42 ti45 ti52 ti122 ti125 ti88 ti92 ti46
attribute [simp] ti134 ti131 ti48 ti85 ti143 ti189 ti190 ti192 ti204 ti208 ti218 ti9 ti5 ti27 ti28 ti141 ti30 ti45

theorem tmod_in {a n : Int} (a0 : 0 ≤ a) (n0 : 0 < n) : ∃ u, a.tmod n = u ∧ 0 ≤ u ∧ u < n := by
  refine ⟨_, rfl, ?_, ?_⟩
  · rw [Int.tmod_eq_emod_of_nonneg a0]; exact Int.emod_nonneg _ (by omega)
  · rw [Int.tmod_eq_emod_of_nonneg a0]; exact Int.emod_lt_of_pos _ n0

theorem c9 (k : Kn) (a b c : Int) (a0 : 0 ≤ a) (a1 : a ≤ 255) (b0 : 0 ≤ b) (b1 : b ≤ 255) (c0 : 0 ≤ c) (c1 : c ≤ 255) : Con E 9 [eKn k, .int .u8 a, .int .u8 b, .int .u8 c] (.bool true) := by
  intro n H hH
  have hH' : (∀ o ∈ H, o.ok (pm H.length) = true) ↔ True := iff_true_intro hH
  have hHs : (∀ o ∈ H, o.ok shd = true) ↔ True := iff_true_intro (okH_shd hH)
  have hpl : ∀ m, (∀ o ∈ H, o.ok (pl m) = true) ↔ True := fun m => iff_true_intro (okH_pl hH m)
  have wa : IntKind.i64.wrap a = a := wrap_id (by omega) (by omega)
  have wb : IntKind.i64.wrap b = b := wrap_id (by omega) (by omega)
  have wc : IntKind.i64.wrap c = c := wrap_id (by omega) (by omega)
  refine at_start (fn := Tryz.f9) [.tmp 8] 126 H.length rfl rfl rfl rfl (by kernel_rfl) (by kernel_rfl) (by simp) (Nat.le_refl _) ?_
  refine at_seq (by kernel_rfl) ?_
  refine at_regK [1, 2, 3, 4] rfl ?_ -- R0
  try simp [hHs, hH', hpl, or_imp, forall_and, wa, wb, wc]
  refine at_seq (by kernel_rfl) ?_
  refine at_seq (by kernel_rfl) ?_
  refine at_regK [1, 2, 3, 4, 29] rfl ?_ -- R1
  try simp [hHs, hH', hpl, or_imp, forall_and, wa, wb, wc]
  refine (c16 _).use hH ?_
  try simp [hHs, hH', hpl, or_imp, forall_and, wa, wb, wc]
  refine pops_split 25 rfl (fun hg1 => ?_) (fun hg1 => ?_)
  · -- t25 = True
    try simp [hHs, hH', hpl, or_imp, forall_and, wa, wb, wc, hg1]
    refine at_cond rfl rfl (fun hb29 => ?_) (fun hb29 => by simp at hb29)
    refine at_seq (by kernel_rfl) ?_
    refine at_regK [8] rfl ?_ -- R2
    try simp [hHs, hH', hpl, or_imp, forall_and, wa, wb, wc]
    refine (c17).use hH ?_
    try simp [hHs, hH', hpl, or_imp, forall_and, wa, wb, wc]
    refine at_ret (by kernel_rfl) ?_
    try simp [hHs, hH', hpl, or_imp, forall_and, wa, wb, wc]
  · -- t25 = False
    have hfw : fewB k = true := by simpa using hg1
    have hk := fewB_few hfw
    try simp [hHs, hH', hpl, or_imp, forall_and, wa, wb, wc, hg1]
    refine (c48 k hk).use hH ?_
    try simp [hHs, hH', hpl, or_imp, forall_and, wa, wb, wc]
    refine at_cond rfl rfl (fun hb29 => ?_) (fun hb29 => ?_)
    · -- t29 = True
      try simp at hb29
      refine at_seq (by kernel_rfl) ?_
      refine at_regK [8] rfl ?_ -- R2
      try simp [hHs, hH', hpl, or_imp, forall_and, wa, wb, wc]
      refine (c17).use hH ?_
      try simp [hHs, hH', hpl, or_imp, forall_and, wa, wb, wc]
      refine at_ret (by kernel_rfl) ?_
      try simp [hHs, hH', hpl, or_imp, forall_and, wa, wb, wc]
    · -- t29 = False
      try simp at hb29
      have hck : check k = 0 := by simpa using hb29
      have f := fine_of_check hck
      have N := Net.base hck
      have rt := right_of_check hck
      have n0 : (0 : Int) < marksM k := by have := f.wf.n0; rw [netn] at this; exact this
      have nn : ¬ marksM k = 0 := by omega
      obtain ⟨u, hu, u0, u1⟩ := tmod_in a0 n0
      obtain ⟨v, hv, v0, v1⟩ := tmod_in b0 n0
      obtain ⟨w, hw, w0, w1⟩ := tmod_in c0 n0
      obtain ⟨e, he⟩ : ∃ e : Int, e = if fin? (netM k []) u then 0 else 9 := ⟨_, rfl⟩
      obtain ⟨e1, m1⟩ := aboveC_eq hck u0 u1 v0 v1
      obtain ⟨e2, m2⟩ := aboveC_eq hck v0 v1 w0 w1
      obtain ⟨e3, m3⟩ := aboveC_eq hck u0 u1 w0 w1
      rw [N.same v0 v1 u0 u1] at e2 m2
      rw [← he] at e1 e2 e3
      refine at_skip (by kernel_rfl) ?_
      try simp [hHs, hH', hpl, or_imp, forall_and, wa, wb, wc, nn, hu, hv, hw, e1, e2, e3]
      refine at_seq (by kernel_rfl) ?_
      refine at_regK [1, 2, 3, 4, 9] rfl ?_ -- R3
      try simp [hHs, hH', hpl, or_imp, forall_and, wa, wb, wc, nn, hu, hv, hw, e1, e2, e3]
      refine (c49 _ hk).use hH ?_
      try simp [hHs, hH', hpl, or_imp, forall_and, wa, wb, wc, nn, hu, hv, hw, e1, e2, e3]
      refine at_seq (by kernel_rfl) ?_
      refine at_draw [1, 2, 3, 4, 9, 10, 11] [1, 0, 0, 0, 0, 0, 0, 0, 0, 1, 0, 0, 0, 2, 3, 0] [] rfl Efol (by kernel_rfl) (by simp) ?_ -- R4 DRAW
      try simp [hHs, hH', hpl, or_imp, forall_and, wa, wb, wc, nn, hu, hv, hw, e1, e2, e3]
      refine (c50 k hk _ _).draw hH ?_
      try simp [hHs, hH', hpl, or_imp, forall_and, wa, wb, wc, nn, hu, hv, hw, e1, e2, e3]
      refine at_seq (by kernel_rfl) ?_
      refine at_draw [1, 3, 4, 9, 10, 11, 12, 13] [1, 0, 0, 0, 0, 0, 0, 0, 0, 1, 0, 0, 0, 2, 3, 0] [] rfl Efol (by kernel_rfl) (by simp) ?_ -- R5 DRAW
      try simp [hHs, hH', hpl, or_imp, forall_and, wa, wb, wc, nn, hu, hv, hw, e1, e2, e3]
      refine (c50 k hk _ _).draw hH ?_
      try simp [hHs, hH', hpl, or_imp, forall_and, wa, wb, wc, nn, hu, hv, hw, e1, e2, e3]
      refine at_seq (by kernel_rfl) ?_
      refine at_draw [4, 10, 11, 12, 13, 14, 15] [1, 0, 0, 0, 0, 0, 0, 0, 0, 1, 0, 0, 0, 2, 3, 0] [] rfl Efol (by kernel_rfl) (by simp) ?_ -- R6 DRAW
      try simp [hHs, hH', hpl, or_imp, forall_and, wa, wb, wc, nn, hu, hv, hw, e1, e2, e3]
      refine (c50 k hk _ _).draw hH ?_
      try simp [hHs, hH', hpl, or_imp, forall_and, wa, wb, wc, nn, hu, hv, hw, e1, e2, e3]
      refine at_seq (by kernel_rfl) ?_
      refine at_seq (by kernel_rfl) ?_
      refine at_regK [4, 10, 11, 12, 14, 79] rfl ?_ -- R7
      try simp [hHs, hH', hpl, or_imp, forall_and, wa, wb, wc, nn, hu, hv, hw, e1, e2, e3]
      refine at_cond rfl rfl (fun hb79 => by simp at hb79) (fun hb79 => ?_)
      refine at_skip (by kernel_rfl) ?_
      try simp [hHs, hH', hpl, or_imp, forall_and, wa, wb, wc, nn, hu, hv, hw, e1, e2, e3]
      refine at_seq (by kernel_rfl) ?_
      refine at_seq (by kernel_rfl) ?_
      refine at_regK [4, 10, 12, 14, 81] rfl ?_ -- R9
      try simp [hHs, hH', hpl, or_imp, forall_and, wa, wb, wc, nn, hu, hv, hw, e1, e2, e3]
      refine at_cond rfl rfl (fun hb81 => ?_) (fun hb81 => ?_)
      · -- t81 = True
        try simp at hb81
        refine at_seq (by kernel_rfl) ?_
        refine at_regK [8] rfl ?_ -- R10
        try simp [hHs, hH', hpl, or_imp, forall_and, wa, wb, wc, nn, hu, hv, hw, e1, e2, e3]
        refine (c17).use hH ?_
        try simp [hHs, hH', hpl, or_imp, forall_and, wa, wb, wc, nn, hu, hv, hw, e1, e2, e3]
        refine at_ret (by kernel_rfl) ?_
        try simp [hHs, hH', hpl, or_imp, forall_and, wa, wb, wc, nn, hu, hv, hw, e1, e2, e3]
      · -- t81 = False
        try simp at hb81
        have hF : fin? (netM k []) u = true := by
          cases h : fin? (netM k []) u with
          | true => rfl
          | false => rw [h] at he; simp at he; omega
        have hta : tiesAll k = (tiesM k, 0) := by rw [tiesAll, if_neg (by simp [hck])]
        have htm := ties_in rt
        have htl := tiesLen k
        have nl := rt.nl; have nd := rt.nd; have nw := rt.nw
        have m1 := m1 hF; have m2 := m2 hF; have m3 := m3 hF
        have hb1 := N.bound u0 u1 v0 v1 hF
        have hb2 := N.bound v0 v1 w0 w1 (by rw [N.same v0 v1 u0 u1]; exact hF)
        have htri := N.tri u0 u1 v0 v1 w0 w1 hF
        refine at_skip (by kernel_rfl) ?_
        try simp [hHs, hH', hpl, or_imp, forall_and, wa, wb, wc, nn, hu, hv, hw, e1, e2, e3]
        refine at_seq (by kernel_rfl) ?_
        refine at_regK [4, 10, 12, 14, 16, 17] rfl ?_ -- R11
        try simp [hHs, hH', hpl, or_imp, forall_and, wa, wb, wc, nn, hu, hv, hw, e1, e2, e3]
        refine (c51 k hk).use hH ?_
        rw [hta]
        try simp [hHs, hH', hpl, or_imp, forall_and, wa, wb, wc, nn, hu, hv, hw, e1, e2, e3]
        refine at_seq (by kernel_rfl) ?_
        refine at_seq (by kernel_rfl) ?_
        refine at_regK [4, 10, 12, 14, 16, 89] rfl ?_ -- R12
        try simp [hHs, hH', hpl, or_imp, forall_and, wa, wb, wc, nn, hu, hv, hw, e1, e2, e3]
        refine at_cond rfl rfl (fun hb89 => by simp at hb89) (fun hb89 => ?_)
        refine at_skip (by kernel_rfl) ?_
        try simp [hHs, hH', hpl, or_imp, forall_and, wa, wb, wc, nn, hu, hv, hw, e1, e2, e3]
        refine at_seq (by kernel_rfl) ?_
        refine at_seq (by kernel_rfl) ?_
        refine at_regK [4, 10, 12, 14, 90, 91, 92] rfl ?_ -- R14
        try simp [hHs, hH', hpl, or_imp, forall_and, wa, wb, wc, nn, hu, hv, hw, e1, e2, e3]
        refine at_block rfl ?_ -- BLOCK 0
        refine at_count (tiesM k).length (fun i s => s = ⟨[(4, .ref false 0 0 [] 0), (10, .ref false 1 0 [] 0), (12, .ref false 2 0 [] 0), (14, .ref false 3 0 [] 0), (90, eTies (tiesM k)), (91, I (tiesM k).length), (92, I i)], [.cell (eKn k), .cell (eCh (aboveC k u v).1), .cell (eCh (aboveC k v w).1), .cell (eCh (aboveC k u w).1)], H⟩) rfl rfl ?_
        rintro i s hi rfl
        refine at_seq (by kernel_rfl) ?_
        refine at_regK [4, 10, 12, 14, 90, 91, 92, 93] rfl ?_ -- R15
        try simp [hHs, hH', hpl, or_imp, forall_and, wa, wb, wc, nn, hu, hv, hw, e1, e2, e3]
        refine at_seq (by kernel_rfl) ?_
        refine at_cond rfl rfl (fun hb93 => ?_) (fun hb93 => ?_)
        · -- t93 = True
          try simp at hb93
          obtain ⟨t, ht⟩ : ∃ t, (tiesM k)[i]? = some t := ⟨_, List.getElem?_eq_getElem (by omega)⟩
          have i0 : (i : Int) < (tiesM k).length := by omega
          have htk := List.mem_of_getElem? ht
          obtain ⟨f0, f1, t0, t1, _⟩ := htm t htk
          obtain ⟨e4, m4⟩ := aboveC_eq hck f0 f1 t0 t1
          have hF4 : fin? (netM k []) t.frm = true := by rw [N.same f0 f1 u0 u1]; exact hF
          rw [if_pos hF4] at e4
          have m4 := m4 hF4
          have hle := N.tie (t := t) (by simp [netM, htk]) u0 u1 hF
          have hng : ¬ t.most < (aboveC k t.frm t.to).1.most := by rw [m4]; omega
          refine at_skip (by kernel_rfl) ?_
          try simp [hHs, hH', hpl, or_imp, forall_and, wa, wb, wc, nn, hu, hv, hw, e1, e2, e3, ht, i0, e4, hng]
          refine at_seq (by kernel_rfl) ?_
          refine at_block rfl ?_ -- BLOCK 1
          refine at_seq (by kernel_rfl) ?_
          refine at_regK [4, 10, 12, 14, 19, 90, 91, 92] rfl ?_ -- R16
          try simp [hHs, hH', hpl, or_imp, forall_and, wa, wb, wc, nn, hu, hv, hw, e1, e2, e3, ht, i0, e4, hng]
          refine at_seq (by kernel_rfl) ?_
          refine at_regK [4, 10, 12, 14, 19, 20, 21, 90, 91, 92] rfl ?_ -- R17
          try simp [hHs, hH', hpl, or_imp, forall_and, wa, wb, wc, nn, hu, hv, hw, e1, e2, e3, ht, i0, e4, hng]
          refine (c50 k hk _ _).use hH ?_
          try simp [hHs, hH', hpl, or_imp, forall_and, wa, wb, wc, nn, hu, hv, hw, e1, e2, e3, ht, i0, e4, hng]
          refine at_seq (by kernel_rfl) ?_
          refine at_regK [4, 10, 12, 14, 90, 91, 92, 113] rfl ?_ -- R18
          try simp [hHs, hH', hpl, or_imp, forall_and, wa, wb, wc, nn, hu, hv, hw, e1, e2, e3, ht, i0, e4, hng]
          refine at_cond rfl rfl (fun hb113 => by simp at hb113) (fun hb113 => ?_)
          refine at_skip (by kernel_rfl) ?_
          try simp [hHs, hH', hpl, or_imp, forall_and, wa, wb, wc, nn, hu, hv, hw, e1, e2, e3, ht, i0, e4, hng]
          refine at_regC 4 [4, 10, 12, 14, 90, 91, 92] rfl ?_ -- R20
          try simp [hHs, hH', hpl, or_imp, forall_and, wa, wb, wc, nn, hu, hv, hw, e1, e2, e3, ht, i0, e4, hng]
          refine ⟨by omega, ?_⟩
          rw [wrap_id (by omega) (by omega)]
        · -- t93 = False
          try simp at hb93
          refine at_exit rfl ?_
          try simp [hHs, hH', hpl, or_imp, forall_and, wa, wb, wc, nn, hu, hv, hw, e1, e2, e3]
          refine at_seq (by kernel_rfl) ?_
          refine at_regK [8] rfl ?_ -- R21
          try simp [hHs, hH', hpl, or_imp, forall_and, wa, wb, wc, nn, hu, hv, hw, e1, e2, e3]
          refine c17.use hH ?_
          try simp [hHs, hH', hpl, or_imp, forall_and, wa, wb, wc, nn, hu, hv, hw, e1, e2, e3]
          refine at_ret (by kernel_rfl) ?_
          try simp [hHs, hH', hpl, or_imp, forall_and, wa, wb, wc, nn, hu, hv, hw, e1, e2, e3]
          rw [m1, m2, m3, wrap_id (by omega) (by omega)]
          exact htri
end Go.Abs
/- Law: what is proved to somebody. -/
set_option linter.unusedVariables false
set_option linter.unusedSimpArgs false
set_option maxRecDepth 100000
set_option maxHeartbeats 2000000
namespace Go.Abs
open Go.RowKit Go.Proofs Go.Shaft
attribute [simp] ti22 ti23 ti24 ti26 ti30 ti42 ti45 ti52 ti122 ti125 ti88 ti92 ti46
attribute [simp] ti134 ti131 ti48 ti85 ti143 ti189 ti190 ti192 ti204 ti208 ti218 ti9 ti5 ti27 ti28 ti141 ti30 ti45
@[simp] theorem us4 : E.P.underlying 4 = some TypeDesc.bool := by kernel_rfl

theorem c15 (k : Kn) (a b : Int) (a0 : 0 ≤ a) (a1 : a ≤ 255) (b0 : 0 ≤ b) (b1 : b ≤ 255) (c : Ch) (t : Tr) (l : List Int) : Con E 15 [eKn k, .int .u8 a, .int .u8 b, eCh c, eTr t, eInts l] (.bool true) := by
  intro n H hH
  have hH' : (∀ o ∈ H, o.ok (pm H.length) = true) ↔ True := iff_true_intro hH
  have hHs : (∀ o ∈ H, o.ok shd = true) ↔ True := iff_true_intro (okH_shd hH)
  have hpl : ∀ m, (∀ o ∈ H, o.ok (pl m) = true) ↔ True := fun m => iff_true_intro (okH_pl hH m)
  have wa : IntKind.i64.wrap a = a := wrap_id (by omega) (by omega)
  have wb : IntKind.i64.wrap b = b := wrap_id (by omega) (by omega)
  refine at_start (fn := Tryz.f15) [.tmp 12] 171 H.length rfl rfl rfl rfl (by kernel_rfl) (by kernel_rfl) (by simp) (Nat.le_refl _) ?_
  refine at_seq (by kernel_rfl) ?_
  refine at_regK [1, 2, 5, 6, 9, 10] rfl ?_ -- R0
  try simp [hHs, hH', hpl, or_imp, forall_and, wa, wb]
  refine at_seq (by kernel_rfl) ?_
  refine at_seq (by kernel_rfl) ?_
  refine at_regK [1, 2, 5, 6, 9, 10, 69] rfl ?_ -- R1
  try simp [hHs, hH', hpl, or_imp, forall_and, wa, wb]
  refine (c16 _).use hH ?_
  try simp [hHs, hH', hpl, or_imp, forall_and, wa, wb]
  refine pops_split 28 rfl (fun hg1 => ?_) (fun hg1 => ?_)
  · -- t28 = True
    try simp [hHs, hH', hpl, or_imp, forall_and, wa, wb, hg1]
    refine at_cond rfl rfl (fun hb69 => ?_) (fun hb69 => by simp at hb69)
    refine at_seq (by kernel_rfl) ?_
    refine at_regK [12] rfl ?_ -- R2
    try simp [hHs, hH', hpl, or_imp, forall_and, wa, wb]
    refine c17.use hH ?_
    try simp [hHs, hH', hpl, or_imp, forall_and, wa, wb]
    refine at_ret (by kernel_rfl) ?_
    try simp [hHs, hH', hpl, or_imp, forall_and, wa, wb]
    try exact (haz (by simpa using hg10)).2
  · -- t28 = False
    have hfw : fewB k = true := by simpa using hg1
    have hk := fewB_few hfw
    try simp [hHs, hH', hpl, or_imp, forall_and, wa, wb, hg1]
    refine (c48 k hk).use hH ?_
    try simp [hHs, hH', hpl, or_imp, forall_and, wa, wb]
    refine pops_split 33 rfl (fun hg2 => ?_) (fun hg2 => ?_)
    · -- t33 = True
      try simp [hHs, hH', hpl, or_imp, forall_and, wa, wb, hg2]
      refine at_cond rfl rfl (fun hb69 => ?_) (fun hb69 => by simp at hb69)
      refine at_seq (by kernel_rfl) ?_
      refine at_regK [12] rfl ?_ -- R2
      try simp [hHs, hH', hpl, or_imp, forall_and, wa, wb]
      refine c17.use hH ?_
      try simp [hHs, hH', hpl, or_imp, forall_and, wa, wb]
      refine at_ret (by kernel_rfl) ?_
      try simp [hHs, hH', hpl, or_imp, forall_and, wa, wb]
      try exact (haz (by simpa using hg10)).2
    · -- t33 = False
      try simp [hHs, hH', hpl, or_imp, forall_and, wa, wb, hg2]
      refine pops_split 38 rfl (fun hg3 => ?_) (fun hg3 => ?_)
      · -- t38 = True
        try simp [hHs, hH', hpl, or_imp, forall_and, wa, wb, hg3]
        refine at_cond rfl rfl (fun hb69 => ?_) (fun hb69 => by simp at hb69)
        refine at_seq (by kernel_rfl) ?_
        refine at_regK [12] rfl ?_ -- R2
        try simp [hHs, hH', hpl, or_imp, forall_and, wa, wb]
        refine c17.use hH ?_
        try simp [hHs, hH', hpl, or_imp, forall_and, wa, wb]
        refine at_ret (by kernel_rfl) ?_
        try simp [hHs, hH', hpl, or_imp, forall_and, wa, wb]
        try exact (haz (by simpa using hg10)).2
      · -- t38 = False
        try simp [hHs, hH', hpl, or_imp, forall_and, wa, wb, hg3]
        refine pops_split 44 rfl (fun hg4 => ?_) (fun hg4 => ?_)
        · -- t44 = True
          try simp [hHs, hH', hpl, or_imp, forall_and, wa, wb, hg4]
          refine at_cond rfl rfl (fun hb69 => ?_) (fun hb69 => by simp at hb69)
          refine at_seq (by kernel_rfl) ?_
          refine at_regK [12] rfl ?_ -- R2
          try simp [hHs, hH', hpl, or_imp, forall_and, wa, wb]
          refine c17.use hH ?_
          try simp [hHs, hH', hpl, or_imp, forall_and, wa, wb]
          refine at_ret (by kernel_rfl) ?_
          try simp [hHs, hH', hpl, or_imp, forall_and, wa, wb]
          try exact (haz (by simpa using hg10)).2
        · -- t44 = False
          try simp [hHs, hH', hpl, or_imp, forall_and, wa, wb, hg4]
          refine pops_split 51 rfl (fun hg5 => ?_) (fun hg5 => ?_)
          · -- t51 = True
            try simp [hHs, hH', hpl, or_imp, forall_and, wa, wb, hg5]
            refine at_cond rfl rfl (fun hb69 => ?_) (fun hb69 => by simp at hb69)
            refine at_seq (by kernel_rfl) ?_
            refine at_regK [12] rfl ?_ -- R2
            try simp [hHs, hH', hpl, or_imp, forall_and, wa, wb]
            refine c17.use hH ?_
            try simp [hHs, hH', hpl, or_imp, forall_and, wa, wb]
            refine at_ret (by kernel_rfl) ?_
            try simp [hHs, hH', hpl, or_imp, forall_and, wa, wb]
            try exact (haz (by simpa using hg10)).2
          · -- t51 = False
            try simp [hHs, hH', hpl, or_imp, forall_and, wa, wb, hg5]
            refine pops_split 58 rfl (fun hg6 => ?_) (fun hg6 => ?_)
            · -- t58 = True
              try simp [hHs, hH', hpl, or_imp, forall_and, wa, wb, hg6]
              refine at_cond rfl rfl (fun hb69 => ?_) (fun hb69 => by simp at hb69)
              refine at_seq (by kernel_rfl) ?_
              refine at_regK [12] rfl ?_ -- R2
              try simp [hHs, hH', hpl, or_imp, forall_and, wa, wb]
              refine c17.use hH ?_
              try simp [hHs, hH', hpl, or_imp, forall_and, wa, wb]
              refine at_ret (by kernel_rfl) ?_
              try simp [hHs, hH', hpl, or_imp, forall_and, wa, wb]
              try exact (haz (by simpa using hg10)).2
            · -- t58 = False
              try simp [hHs, hH', hpl, or_imp, forall_and, wa, wb, hg6]
              refine pops_split 64 rfl (fun hg7 => ?_) (fun hg7 => ?_)
              · -- t64 = True
                try simp [hHs, hH', hpl, or_imp, forall_and, wa, wb, hg7]
                refine at_cond rfl rfl (fun hb69 => ?_) (fun hb69 => by simp at hb69)
                refine at_seq (by kernel_rfl) ?_
                refine at_regK [12] rfl ?_ -- R2
                try simp [hHs, hH', hpl, or_imp, forall_and, wa, wb]
                refine c17.use hH ?_
                try simp [hHs, hH', hpl, or_imp, forall_and, wa, wb]
                refine at_ret (by kernel_rfl) ?_
                try simp [hHs, hH', hpl, or_imp, forall_and, wa, wb]
                try exact (haz (by simpa using hg10)).2
              · -- t64 = False
                try simp [hHs, hH', hpl, or_imp, forall_and, wa, wb, hg7]
                refine at_cond rfl rfl (fun hb69 => ?_) (fun hb69 => ?_)
                · -- t69 = True
                  try simp at hb69
                  refine at_seq (by kernel_rfl) ?_
                  refine at_regK [12] rfl ?_ -- R2
                  try simp [hHs, hH', hpl, or_imp, forall_and, wa, wb]
                  refine c17.use hH ?_
                  try simp [hHs, hH', hpl, or_imp, forall_and, wa, wb]
                  refine at_ret (by kernel_rfl) ?_
                  try simp [hHs, hH', hpl, or_imp, forall_and, wa, wb]
                  try exact (haz (by simpa using hg10)).2
                · -- t69 = False
                  try simp at hb69
                  have hck : check k = 0 := by simpa using hg2
                  have l1 : l.length ≤ 250 := by simp at hg3; omega
                  have l2 : c.path.length ≤ 250 := by simp at hg4; omega
                  have l3 : c.tr.loads.length ≤ 60 := by simp at hg5; omega
                  have l4 : c.tr.draws.length ≤ 60 := by simp at hg6; omega
                  have l5 : t.loads.length ≤ 60 := by simp at hg7; omega
                  have l6 : t.draws.length ≤ 60 := by first | omega | (simp at hb69; omega)
                  have f := fine_of_check hck
                  have N := Net.base hck
                  have rt := right_of_check hck
                  have nl := rt.nl; have nd := rt.nd
                  have n0 : (0 : Int) < marksM k := by have := f.wf.n0; rw [netn] at this; exact this
                  have nn : ¬ marksM k = 0 := by omega
                  obtain ⟨u, hu, u0, u1⟩ := tmod_in a0 n0
                  obtain ⟨v, hv, v0, v1⟩ := tmod_in b0 n0
                  obtain ⟨e1, m1⟩ := aboveC_eq hck u0 u1 v0 v1
                  obtain ⟨z, hz⟩ : ∃ z : Bool, z = !fin? (netM k []) u := ⟨_, rfl⟩
                  have hF0 : fin? (netM k []) 0 = fin? (netM k []) u := N.same (by omega) n0 u0 u1
                  have hcl : clashM k = ((settleM (netM k []) 0).2.2, 0) := by rw [clashM, if_neg (by simp [hck])]
                  have hc2 : (clashM k).2 = 0 := by rw [hcl]
                  have hc1 : (clashM k).1.isSome = z := by
                    rw [hcl, hz, ← hF0, fin?]
                    cases (settleM (netM k []) 0).2.2 <;> rfl
                  obtain ⟨e, he⟩ : ∃ e, e = (aboveC k u v).2 := ⟨_, rfl⟩
                  have he9 : e = if z then 9 else 0 := by
                    rw [he, e1, hz]
                    cases fin? (netM k []) u <;> rfl
                  have hE9 : (e == 9) = z := by rw [he9]; cases z <;> rfl
                  have hfz : (fitsM k t).2.1 = true → z = false := by
                    intro h
                    have := N.fin_of u0 u1 ((fits_iff hck).1 h).2
                    rw [hz, this]; rfl
                  have hrz : checkClashM k l = 0 → z = true := by
                    intro h
                    rw [hz]
                    cases hq : fin? (netM k []) u with
                    | false => rfl
                    | true => exact (clash_no hck h _ (N.feas u0 u1 hq)).elim
                  have haz : checkAboveM k u v c = 0 → z = false ∧ c.most = (aboveC k u v).1.most := by
                    intro h
                    obtain ⟨g1, g2⟩ := above_one hck u0 u1 v0 v1 h
                    rw [hz, g1, m1 g1]
                    exact ⟨rfl, g2⟩
                  refine at_skip (by kernel_rfl) ?_
                  try simp [hHs, hH', hpl, or_imp, forall_and, wa, wb, nn, hu, hv, hc1, hc2, ← he, hE9]
                  refine at_seq (by kernel_rfl) ?_
                  refine at_regK [2, 5, 6, 9, 10, 13] rfl ?_ -- R3
                  try simp [hHs, hH', hpl, or_imp, forall_and, wa, wb, nn, hu, hv, hc1, hc2, ← he, hE9]
                  refine (c49 k hk).use hH ?_
                  try simp [hHs, hH', hpl, or_imp, forall_and, wa, wb, nn, hu, hv, hc1, hc2, ← he, hE9]
                  refine at_seq (by kernel_rfl) ?_
                  refine at_regK [5, 6, 9, 10, 13, 14] rfl ?_ -- R4
                  try simp [hHs, hH', hpl, or_imp, forall_and, wa, wb, nn, hu, hv, hc1, hc2, ← he, hE9]
                  refine (c49 k hk).use hH ?_
                  try simp [hHs, hH', hpl, or_imp, forall_and, wa, wb, nn, hu, hv, hc1, hc2, ← he, hE9]
                  refine at_seq (by kernel_rfl) ?_
                  refine at_regK [5, 6, 9, 10, 13, 14, 15, 16] rfl ?_ -- R5
                  try simp [hHs, hH', hpl, or_imp, forall_and, wa, wb, nn, hu, hv, hc1, hc2, ← he, hE9]
                  refine (c50 k hk u v).use hH ?_
                  try simp [hHs, hH', hpl, or_imp, forall_and, wa, wb, nn, hu, hv, hc1, hc2, ← he, hE9]
                  refine at_seq (by kernel_rfl) ?_
                  refine at_regK [5, 6, 9, 10, 13, 14, 15, 16, 17, 18, 19] rfl ?_ -- R6
                  try simp [hHs, hH', hpl, or_imp, forall_and, wa, wb, nn, hu, hv, hc1, hc2, ← he, hE9]
                  refine (c52 k hk).use hH ?_
                  try simp [hHs, hH', hpl, or_imp, forall_and, wa, wb, nn, hu, hv, hc1, hc2, ← he, hE9]
                  refine at_seq (by kernel_rfl) ?_
                  refine at_regK [5, 6, 9, 13, 14, 15, 16, 17, 18, 19, 21] rfl ?_ -- R7
                  try simp [hHs, hH', hpl, or_imp, forall_and, wa, wb, nn, hu, hv, hc1, hc2, ← he, hE9]
                  refine (c58 k hk t (by omega) (by omega)).use hH ?_
                  try simp [hHs, hH', hpl, or_imp, forall_and, wa, wb, nn, hu, hv, hc1, hc2, ← he, hE9]
                  refine at_seq (by kernel_rfl) ?_
                  refine at_regK [6, 9, 13, 14, 15, 16, 17, 18, 19, 21, 23] rfl ?_ -- R8
                  try simp [hHs, hH', hpl, or_imp, forall_and, wa, wb, nn, hu, hv, hc1, hc2, ← he, hE9]
                  refine (c54 k hk l (by omega)).use hH ?_
                  try simp [hHs, hH', hpl, or_imp, forall_and, wa, wb, nn, hu, hv, hc1, hc2, ← he, hE9]
                  refine at_seq (by kernel_rfl) ?_
                  refine at_seq (by kernel_rfl) ?_
                  refine at_regK [6, 9, 13, 14, 15, 16, 17, 18, 128] rfl ?_ -- R9
                  try simp [hHs, hH', hpl, or_imp, forall_and, wa, wb, nn, hu, hv, hc1, hc2, ← he, hE9]
                  refine pops_split 115 rfl (fun hg8 => ?_) (fun hg8 => ?_)
                  · -- t115 = True
                    have hr0 : checkClashM k l = 0 := by simpa using hg8
                    have hz1 : z = true := hrz hr0
                    subst hz1
                    have hF1 : fin? (netM k []) u = false := by simpa using hz.symm
                    have hft : (fitsM k t).2.1 = false := by
                      cases h : (fitsM k t).2.1 with
                      | false => rfl
                      | true => have := hfz h; cases this
                    have hac : ¬ checkAboveM k u v c = 0 := fun h => by have := (haz h).1; cases this
                    obtain ⟨cc, ce, q1, q2, q3, q4, q5, q6⟩ := N.circle (a := 0) (by omega) n0 (by rw [hF0]; exact hF1)
                    have hce : (clashM k).1.getD [] = cc := by rw [hcl, q1]; rfl
                    have hcc : checkClashM k ((clashM k).1.getD []) = 0 := by rw [hce]; exact clash_yes hck q2 q3 q4 q5 q6
                    have hlen : ((clashM k).1.getD []).length ≤ 100000 := by rw [hce]; omega
                    try simp [hHs, hH', hpl, or_imp, forall_and, wa, wb, nn, hu, hv, hc1, hc2, ← he, hE9, hr0, hft, hac, hcc, hlen, hg8]
                    refine at_cond rfl rfl (fun hb128 => by simp at hb128) (fun hb128 => ?_)
                    refine at_skip (by kernel_rfl) ?_
                    try simp [hHs, hH', hpl, or_imp, forall_and, wa, wb, nn, hu, hv, hc1, hc2, ← he, hE9, hr0, hft, hac, hcc, hlen]
                    refine at_seq (by kernel_rfl) ?_
                    refine at_regK [6, 9, 13, 14, 15, 16, 17, 18, 24] rfl ?_ -- R11
                    try simp [hHs, hH', hpl, or_imp, forall_and, wa, wb, nn, hu, hv, hc1, hc2, ← he, hE9, hr0, hft, hac, hcc, hlen]
                    refine (c67 k hk u v c (by omega) (by omega) (by omega)).use hH ?_
                    try simp [hHs, hH', hpl, or_imp, forall_and, wa, wb, nn, hu, hv, hc1, hc2, ← he, hE9, hr0, hft, hac, hcc, hlen]
                    refine at_seq (by kernel_rfl) ?_
                    refine at_seq (by kernel_rfl) ?_
                    refine at_regK [6, 9, 13, 14, 15, 16, 17, 24, 135] rfl ?_ -- R12
                    try simp [hHs, hH', hpl, or_imp, forall_and, wa, wb, nn, hu, hv, hc1, hc2, ← he, hE9, hr0, hft, hac, hcc, hlen]
                    refine at_cond rfl rfl (fun hb135 => ?_) (fun hb135 => by simp at hb135)
                    refine at_seq (by kernel_rfl) ?_
                    refine at_regK [12] rfl ?_ -- R13
                    try simp [hHs, hH', hpl, or_imp, forall_and, wa, wb, nn, hu, hv, hc1, hc2, ← he, hE9, hr0, hft, hac, hcc, hlen]
                    refine c17.use hH ?_
                    try simp [hHs, hH', hpl, or_imp, forall_and, wa, wb, nn, hu, hv, hc1, hc2, ← he, hE9, hr0, hft, hac, hcc, hlen]
                    refine (c54 k hk _ hlen).use hH ?_
                    try simp [hHs, hH', hpl, or_imp, forall_and, wa, wb, nn, hu, hv, hc1, hc2, ← he, hE9, hr0, hft, hac, hcc, hlen]
                    refine at_ret (by kernel_rfl) ?_
                    try simp [hHs, hH', hpl, or_imp, forall_and, wa, wb, nn, hu, hv, hc1, hc2, ← he, hE9, hr0, hft, hac, hcc, hlen]
                    try exact (haz (by simpa using hg10)).2
                  · -- t115 = False
                    try simp [hHs, hH', hpl, or_imp, forall_and, wa, wb, nn, hu, hv, hc1, hc2, ← he, hE9, hg8]
                    refine pops_split 118 rfl (fun hg9 => ?_) (fun hg9 => ?_)
                    · -- t118 = True
                      have hz1 : z = true := hg9
                      subst hz1
                      have hF1 : fin? (netM k []) u = false := by simpa using hz.symm
                      have hft : (fitsM k t).2.1 = false := by
                        cases h : (fitsM k t).2.1 with
                        | false => rfl
                        | true => have := hfz h; cases this
                      have hac : ¬ checkAboveM k u v c = 0 := fun h => by have := (haz h).1; cases this
                      obtain ⟨cc, ce, q1, q2, q3, q4, q5, q6⟩ := N.circle (a := 0) (by omega) n0 (by rw [hF0]; exact hF1)
                      have hce : (clashM k).1.getD [] = cc := by rw [hcl, q1]; rfl
                      have hcc : checkClashM k ((clashM k).1.getD []) = 0 := by rw [hce]; exact clash_yes hck q2 q3 q4 q5 q6
                      have hlen : ((clashM k).1.getD []).length ≤ 100000 := by rw [hce]; omega
                      try simp [hHs, hH', hpl, or_imp, forall_and, wa, wb, nn, hu, hv, hc1, hc2, ← he, hE9, hft, hac, hcc, hlen, hg9]
                      refine at_cond rfl rfl (fun hb128 => by simp at hb128) (fun hb128 => ?_)
                      refine at_skip (by kernel_rfl) ?_
                      try simp [hHs, hH', hpl, or_imp, forall_and, wa, wb, nn, hu, hv, hc1, hc2, ← he, hE9, hft, hac, hcc, hlen]
                      refine at_seq (by kernel_rfl) ?_
                      refine at_regK [6, 9, 13, 14, 15, 16, 17, 18, 24] rfl ?_ -- R11
                      try simp [hHs, hH', hpl, or_imp, forall_and, wa, wb, nn, hu, hv, hc1, hc2, ← he, hE9, hft, hac, hcc, hlen]
                      refine (c67 k hk u v c (by omega) (by omega) (by omega)).use hH ?_
                      try simp [hHs, hH', hpl, or_imp, forall_and, wa, wb, nn, hu, hv, hc1, hc2, ← he, hE9, hft, hac, hcc, hlen]
                      refine at_seq (by kernel_rfl) ?_
                      refine at_seq (by kernel_rfl) ?_
                      refine at_regK [6, 9, 13, 14, 15, 16, 17, 24, 135] rfl ?_ -- R12
                      try simp [hHs, hH', hpl, or_imp, forall_and, wa, wb, nn, hu, hv, hc1, hc2, ← he, hE9, hft, hac, hcc, hlen]
                      refine at_cond rfl rfl (fun hb135 => ?_) (fun hb135 => by simp at hb135)
                      refine at_seq (by kernel_rfl) ?_
                      refine at_regK [12] rfl ?_ -- R13
                      try simp [hHs, hH', hpl, or_imp, forall_and, wa, wb, nn, hu, hv, hc1, hc2, ← he, hE9, hft, hac, hcc, hlen]
                      refine c17.use hH ?_
                      try simp [hHs, hH', hpl, or_imp, forall_and, wa, wb, nn, hu, hv, hc1, hc2, ← he, hE9, hft, hac, hcc, hlen]
                      refine (c54 k hk _ hlen).use hH ?_
                      try simp [hHs, hH', hpl, or_imp, forall_and, wa, wb, nn, hu, hv, hc1, hc2, ← he, hE9, hft, hac, hcc, hlen]
                      refine at_ret (by kernel_rfl) ?_
                      try simp [hHs, hH', hpl, or_imp, forall_and, wa, wb, nn, hu, hv, hc1, hc2, ← he, hE9, hft, hac, hcc, hlen]
                      try exact (haz (by simpa using hg10)).2
                    · -- t118 = False
                      have hz1 : z = false := hg9
                      subst hz1
                      have he0 : e = 0 := by rw [he9]; rfl
                      have hFu : fin? (netM k []) u = true := by simpa using hz.symm
                      have hself := above_self hck u0 u1 v0 v1 hFu
                      obtain ⟨w1, w2, w3⟩ := aboveC_len hck u0 u1 v0 v1 hFu
                      try simp [hHs, hH', hpl, or_imp, forall_and, wa, wb, nn, hu, hv, hc1, hc2, ← he, hE9, he0, hself, hg9]
                      refine at_cond rfl rfl (fun hb128 => by simp at hb128) (fun hb128 => ?_)
                      refine at_skip (by kernel_rfl) ?_
                      try simp [hHs, hH', hpl, or_imp, forall_and, wa, wb, nn, hu, hv, hc1, hc2, ← he, hE9, he0, hself]
                      refine at_seq (by kernel_rfl) ?_
                      refine at_regK [6, 9, 13, 14, 15, 16, 17, 18, 24] rfl ?_ -- R11
                      try simp [hHs, hH', hpl, or_imp, forall_and, wa, wb, nn, hu, hv, hc1, hc2, ← he, hE9, he0, hself]
                      refine (c67 k hk u v c (by omega) (by omega) (by omega)).use hH ?_
                      try simp [hHs, hH', hpl, or_imp, forall_and, wa, wb, nn, hu, hv, hc1, hc2, ← he, hE9, he0, hself]
                      refine at_seq (by kernel_rfl) ?_
                      refine at_seq (by kernel_rfl) ?_
                      refine at_regK [6, 9, 13, 14, 15, 16, 17, 24, 135] rfl ?_ -- R12
                      try simp [hHs, hH', hpl, or_imp, forall_and, wa, wb, nn, hu, hv, hc1, hc2, ← he, hE9, he0, hself]
                      refine at_cond rfl rfl (fun hb135 => by simp at hb135) (fun hb135 => ?_)
                      refine at_skip (by kernel_rfl) ?_
                      try simp [hHs, hH', hpl, or_imp, forall_and, wa, wb, nn, hu, hv, hc1, hc2, ← he, hE9, he0, hself]
                      refine at_seq (by kernel_rfl) ?_
                      refine at_regK [12] rfl ?_ -- R14
                      try simp [hHs, hH', hpl, or_imp, forall_and, wa, wb, nn, hu, hv, hc1, hc2, ← he, hE9, he0, hself]
                      refine c17.use hH ?_
                      try simp [hHs, hH', hpl, or_imp, forall_and, wa, wb, nn, hu, hv, hc1, hc2, ← he, hE9, he0, hself]
                      refine (c67 k hk u v (aboveC k u v).1 (by omega) (by omega) (by omega)).use hH ?_
                      try simp [hHs, hH', hpl, or_imp, forall_and, wa, wb, nn, hu, hv, hc1, hc2, ← he, hE9, he0, hself]
                      refine pops_split 163 rfl (fun hg10 => ?_) (fun hg10 => ?_)
                      · -- t163 = True
                        try simp [hHs, hH', hpl, or_imp, forall_and, wa, wb, nn, hu, hv, hc1, hc2, ← he, hE9, he0, hself, hg10]
                        refine at_ret (by kernel_rfl) ?_
                        try simp [hHs, hH', hpl, or_imp, forall_and, wa, wb, nn, hu, hv, hc1, hc2, ← he, hE9, he0, hself]
                        try exact (haz (by simpa using hg10)).2
                      · -- t163 = False
                        try simp [hHs, hH', hpl, or_imp, forall_and, wa, wb, nn, hu, hv, hc1, hc2, ← he, hE9, he0, hself, hg10]
                        refine at_ret (by kernel_rfl) ?_
                        try simp [hHs, hH', hpl, or_imp, forall_and, wa, wb, nn, hu, hv, hc1, hc2, ← he, hE9, he0, hself]
                        try exact (haz (by simpa using hg10)).2
end Go.Abs
