/- Part 4 of what the proof rests on: an abstract machine over the model, its contracts for the program, and plain mathematics. -/
import Derived.Test.YtaapndcljpcelaaGreatK3
import Derived.Test.YtaapndcljpcelaaGreatRows
import Derived.ProofKit
import Derived.Carry
/- Contracts: checking kilns. -/
set_option linter.unusedVariables false
set_option linter.unusedSimpArgs false
set_option maxRecDepth 100000
set_option maxHeartbeats 2000000
namespace Go.Abs
open Go.RowKit Go.Proofs Go.Shaft
attribute [simp] ti22 ti23 ti24 ti26 ti30 ti42 ti45 ti52 ti122 ti125 ti88 ti92 ti46
theorem c122 (sn : List Int) (id : Int) (j n : Nat) (H : List AO) (hH : okH H) (hj : H[j]? = some (.mp (encS sn))) : ACall E 122 [.mapr true j, I id] n H (Is (.bool (decide (id ∈ sn))) [] (H.set j (.mp (encS (if id ∈ sn then sn else sn ++ [id]))))) := by
 have h00 := hh3 hH
 have ⟨hHs, hH', hpl⟩ := h00
 have hjl := (List.getElem?_eq_some_iff.1 hj).1
 refine at_start (fn := Tryz.f122) [.tmp 4] 12 H.length rfl rfl rfl rfl (by kernel_rfl) (by kernel_rfl) (by simp) (Nat.le_refl _) ?_
 refine sq ?_
 refine at_regK [0, 1] rfl ?_
 try simp [h00, o_i, f_a, hj]
 refine sq ?_
 refine at_regK [0, 1, 5] rfl ?_
 try simp [h00, o_i, f_a, hj]
 refine sq ?_
 refine at_regK [5] rfl ?_
 try simp [h00, o_i, f_a, hj]
 refine sq ?_
 refine at_regK [4] rfl ?_
 try simp [h00, o_i, f_a, hj]
 refine at_ret (by kernel_rfl) ?_
 try simp [h00, o_i, f_a, hj]
 rw [List.take_of_length_le (by simp)]
 have := okH_set (j := j) (o := .mp (encS (if id ∈ sn then sn else sn ++ [id]))) hH rfl
 rw [okH, List.length_set] at this
 exact ⟨this, rfl⟩

theorem c119 (l : List Ld) (hl : l.length ≤ 100) (sn : List Int) (j n : Nat) (H : List AO) (hH : okH H) (hj : H[j]? = some (.mp (encS sn))) : ACall E 119 [eLds l, .mapr true j] n H (Is (I (chk l 0 sn).1) [] (H.set j (.mp (encS (chk l 0 sn).2)))) := by
 have h00 := hh3 hH
 have ⟨hHs, hH', hpl⟩ := h00
 have hjl := (List.getElem?_eq_some_iff.1 hj).1
 refine at_start (fn := Tryz.f119) [.tmp 4] 40 H.length rfl rfl rfl rfl (by kernel_rfl) (by kernel_rfl) (by simp) (Nat.le_refl _) ?_
 refine sq ?_
 refine at_regK [0, 1] rfl ?_
 try simp [h00, o_i, f_a, hj]
 refine sq ?_
 refine at_regK [0, 1, 5] rfl ?_
 try simp [h00, o_i, f_a, hj]
 refine sq ?_
 refine sq ?_
 refine at_regK [0, 1, 5, 9, 10] rfl ?_
 try simp [h00, o_i, f_a, hj]
 refine at_block rfl ?_
 refine at_count l.length (fun i s => ∃ last sn', chk (l.drop i) last sn' = chk l 0 sn ∧ s = ⟨[(0, eLds l), (1, .mapr true j), (5, I last), (9, I l.length), (10, I i)], [], H.set j (.mp (encS sn'))⟩) rfl ⟨0, sn, rfl, by rw [set_same hj]; rfl⟩ ?_
 rintro i s hi ⟨last, sn', hck, rfl⟩
 obtain ⟨H2, hH2⟩ : ∃ H2, H2 = H.set j (.mp (encS sn')) := ⟨_, rfl⟩
 rw [← hH2]
 have ok2 : okH H2 := by rw [hH2]; exact okH_set hH rfl
 have hl2 : H2.length = H.length := by rw [hH2]; simp
 have hj2 : H2[j]? = some (.mp (encS sn')) := by rw [hH2]; simp [hjl]
 have hs2 : (∀ o ∈ H2, o.ok shd = true) ↔ True := iff_true_intro (okH_shd ok2)
 have hp2 : (∀ o ∈ H2, o.ok (pl 0) = true) ↔ True := iff_true_intro (okH_pl ok2 0)
 have hm2 : (∀ o ∈ H2, o.ok (pm H.length) = true) ↔ True := iff_true_intro (by rw [← hl2]; exact ok2)
 have ht2 : H2.take H.length = H2 := by rw [← hl2, List.take_length]
 have hse : ∀ o, H2.set j o = H.set j o := fun o => by rw [hH2, List.set_set]
 refine sq ?_
 refine at_regK [0, 1, 5, 9, 10, 11] rfl ?_
 try simp [h00, o_i, f_a, hs2, hm2, ht2]
 refine sq ?_
 refine at_cond rfl rfl (fun hb11 => ?_) (fun hb11 => ?_)
 ·
  try simp at hb11
  obtain ⟨x, hx⟩ : ∃ x, l[i]? = some x := ⟨_, List.getElem?_eq_getElem hb11⟩
  rw [List.drop_eq_getElem_cons hb11, (List.getElem?_eq_some_iff.1 hx).2, chk] at hck
  refine at_skip (by kernel_rfl) ?_
  try simp [h00, o_i, f_a, hs2, hm2, ht2]
  refine sq ?_
  refine at_block rfl ?_
  refine sq ?_
  refine at_regK [0, 1, 5, 6, 9, 10] rfl ?_
  try simp [h00, o_i, f_a, hs2, hm2, ht2]
  refine sq ?_
  refine at_regK [0, 1, 5, 7, 9, 10] rfl ?_
  try simp [h00, o_i, f_a, hs2, hm2, ht2]
  refine (c140 _ _ _ hx).use ok2 ?_
  try simp [h00, o_i, f_a, hs2, hm2, ht2]
  refine sq ?_
  refine sq ?_
  refine at_regK [0, 1, 7, 9, 10, 32] rfl ?_
  try simp [h00, o_i, f_a, hs2, hm2, ht2]
  refine (c118 _ _ _).use ok2 ?_
  try simp [h00, o_i, f_a, hs2, hm2, ht2]
  refine pops_split 20 rfl (fun hg1 => ?_) (fun hg1 => ?_)
  ·
   try simp [h00, o_i, f_a, hs2, hm2, ht2, hg1]
   refine at_cond rfl rfl (fun hb32 => ?_) (fun hb32 => by simp at hb32)
   refine sq ?_
   refine at_regK [4] rfl ?_
   try simp [h00, o_i, f_a, hs2, hm2, ht2]
   refine at_ret (by kernel_rfl) ?_
   try simp [h00, o_i, f_a, hs2, hm2, ht2]
   have hr : recB x last = false := by simp at hg1; simp [recB, hg1]
   rw [hr] at hck; simp at hck
   rw [← hck]; exact ⟨by omega, rfl, hH2⟩
  ·
   try simp [h00, o_i, f_a, hs2, hm2, ht2, hg1]
   refine (c118 _ _ _).use ok2 ?_
   try simp [h00, o_i, f_a, hs2, hm2, ht2]
   refine pops_split 27 rfl (fun hg2 => ?_) (fun hg2 => ?_)
   ·
    try simp [h00, o_i, f_a, hs2, hm2, ht2, hg2]
    refine at_cond rfl rfl (fun hb32 => ?_) (fun hb32 => by simp at hb32)
    refine sq ?_
    refine at_regK [4] rfl ?_
    try simp [h00, o_i, f_a, hs2, hm2, ht2]
    refine at_ret (by kernel_rfl) ?_
    try simp [h00, o_i, f_a, hs2, hm2, ht2]
    have hr : recB x last = false := by simp at hg1 hg2; simp [recB, hg1, hg2]
    rw [hr] at hck; simp at hck
    rw [← hck]; exact ⟨by omega, rfl, hH2⟩
   ·
    try simp [h00, o_i, f_a, hs2, hm2, ht2, hg2]
    refine (c165 _ _).use ok2 ?_
    try simp [h00, o_i, f_a, hs2, hm2, ht2]
    refine at_cond rfl rfl (fun hb32 => ?_) (fun hb32 => ?_)
    ·
     try simp at hb32
     refine sq ?_
     refine at_regK [4] rfl ?_
     try simp [h00, o_i, f_a, hs2, hm2, ht2]
     refine at_ret (by kernel_rfl) ?_
     try simp [h00, o_i, f_a, hs2, hm2, ht2]
     have hr : recB x last = false := by simp at hg1 hg2 hb32; simp [recB, hg1, hg2, hb32]
     rw [hr] at hck; simp at hck
     rw [← hck]; exact ⟨by omega, rfl, hH2⟩
    ·
     try simp at hb32
     refine at_skip (by kernel_rfl) ?_
     try simp [h00, o_i, f_a, hs2, hm2, ht2]
     refine sq ?_
     refine sq ?_
     refine at_regK [0, 1, 7, 9, 10, 36] rfl ?_
     try simp [h00, o_i, f_a, hs2, hm2, ht2]
     refine (c122 sn' _ j _ _ ok2 hj2).of_is ?_
     try simp [h00, o_i, f_a, hs2, hm2, ht2]
     refine at_cond rfl rfl (fun hb36 => ?_) (fun hb36 => ?_)
     ·
      try simp at hb36
      refine sq ?_
      refine at_regK [4] rfl ?_
      try simp [h00, o_i, f_a, hs2, hm2, ht2]
      refine at_ret (by kernel_rfl) ?_
      try simp [h00, o_i, f_a, hs2, hm2, ht2]
      have hr : recB x last = true := by simp at hg1 hg2 hb32; simp [recB, hg1, hg2, hb32]
      rw [hr, if_pos rfl, if_pos hb36] at hck
      simp only [if_pos hb36, hse, ← hH2, ht2]
      rw [← hck]; exact ⟨by omega, hm2.2 trivial, rfl, hH2⟩
     ·
      try simp at hb36
      refine at_skip (by kernel_rfl) ?_
      try simp [h00, o_i, f_a, hs2, hm2, ht2]
      refine at_regK [0, 1, 5, 9, 10] rfl ?_
      try simp [h00, o_i, f_a, hs2, hm2, ht2]
      refine at_regC 0 [0, 1, 5, 9, 10] rfl ?_
      try simp [h00, o_i, f_a, hs2, hm2, ht2, hp2]
      have hr : recB x last = true := by simp at hg1 hg2 hb32; simp [recB, hg1, hg2, hb32]
      rw [hr, if_pos rfl, if_neg hb36] at hck
      simp only [if_neg hb36, hse]
      exact ⟨okH_pl (okH_set hH rfl) 0, hb11, _, _, hck, ⟨rfl, by rw [wrap_id (by omega) (by omega)]⟩, rfl⟩
 ·
  try simp at hb11
  refine at_exit rfl ?_
  try simp [h00, o_i, f_a, hs2, hm2, ht2]
  refine sq ?_
  refine at_regK [4] rfl ?_
  try simp [h00, o_i, f_a, hs2, hm2, ht2]
  refine at_ret (by kernel_rfl) ?_
  try simp [h00, o_i, f_a, hs2, hm2, ht2]
  rw [List.drop_of_length_le hb11, chk] at hck
  rw [← hck]; exact ⟨by omega, rfl, hH2⟩

theorem c120 (l : List Ld) (hl : l.length ≤ 100) (sn : List Int) (j n : Nat) (H : List AO) (hH : okH H) (hj : H[j]? = some (.mp (encS sn))) : ACall E 120 [eLds l, .mapr true j] n H (Is (I (chk l 0 sn).1) [] (H.set j (.mp (encS (chk l 0 sn).2)))) := by
 have h00 := hh3 hH
 have ⟨hHs, hH', hpl⟩ := h00
 have hjl := (List.getElem?_eq_some_iff.1 hj).1
 refine at_start (fn := Tryz.f120) [.tmp 4] 40 H.length rfl rfl rfl rfl (by kernel_rfl) (by kernel_rfl) (by simp) (Nat.le_refl _) ?_
 refine sq ?_
 refine at_regK [0, 1] rfl ?_
 try simp [h00, o_i, f_a, hj]
 refine sq ?_
 refine at_regK [0, 1, 5] rfl ?_
 try simp [h00, o_i, f_a, hj]
 refine sq ?_
 refine sq ?_
 refine at_regK [0, 1, 5, 9, 10] rfl ?_
 try simp [h00, o_i, f_a, hj]
 refine at_block rfl ?_
 refine at_count l.length (fun i s => ∃ last sn', chk (l.drop i) last sn' = chk l 0 sn ∧ s = ⟨[(0, eLds l), (1, .mapr true j), (5, I last), (9, I l.length), (10, I i)], [], H.set j (.mp (encS sn'))⟩) rfl ⟨0, sn, rfl, by rw [set_same hj]; rfl⟩ ?_
 rintro i s hi ⟨last, sn', hck, rfl⟩
 obtain ⟨H2, hH2⟩ : ∃ H2, H2 = H.set j (.mp (encS sn')) := ⟨_, rfl⟩
 rw [← hH2]
 have ok2 : okH H2 := by rw [hH2]; exact okH_set hH rfl
 have hl2 : H2.length = H.length := by rw [hH2]; simp
 have hj2 : H2[j]? = some (.mp (encS sn')) := by rw [hH2]; simp [hjl]
 have hs2 : (∀ o ∈ H2, o.ok shd = true) ↔ True := iff_true_intro (okH_shd ok2)
 have hp2 : (∀ o ∈ H2, o.ok (pl 0) = true) ↔ True := iff_true_intro (okH_pl ok2 0)
 have hm2 : (∀ o ∈ H2, o.ok (pm H.length) = true) ↔ True := iff_true_intro (by rw [← hl2]; exact ok2)
 have ht2 : H2.take H.length = H2 := by rw [← hl2, List.take_length]
 have hse : ∀ o, H2.set j o = H.set j o := fun o => by rw [hH2, List.set_set]
 refine sq ?_
 refine at_regK [0, 1, 5, 9, 10, 11] rfl ?_
 try simp [h00, o_i, f_a, hs2, hm2, ht2]
 refine sq ?_
 refine at_cond rfl rfl (fun hb11 => ?_) (fun hb11 => ?_)
 ·
  try simp at hb11
  obtain ⟨x, hx⟩ : ∃ x, l[i]? = some x := ⟨_, List.getElem?_eq_getElem hb11⟩
  rw [List.drop_eq_getElem_cons hb11, (List.getElem?_eq_some_iff.1 hx).2, chk] at hck
  refine at_skip (by kernel_rfl) ?_
  try simp [h00, o_i, f_a, hs2, hm2, ht2]
  refine sq ?_
  refine at_block rfl ?_
  refine sq ?_
  refine at_regK [0, 1, 5, 6, 9, 10] rfl ?_
  try simp [h00, o_i, f_a, hs2, hm2, ht2]
  refine sq ?_
  refine at_regK [0, 1, 5, 7, 9, 10] rfl ?_
  try simp [h00, o_i, f_a, hs2, hm2, ht2]
  refine (c139 _ _ _ hx).use ok2 ?_
  try simp [h00, o_i, f_a, hs2, hm2, ht2]
  refine sq ?_
  refine sq ?_
  refine at_regK [0, 1, 7, 9, 10, 32] rfl ?_
  try simp [h00, o_i, f_a, hs2, hm2, ht2]
  refine (c118 _ _ _).use ok2 ?_
  try simp [h00, o_i, f_a, hs2, hm2, ht2]
  refine pops_split 20 rfl (fun hg1 => ?_) (fun hg1 => ?_)
  ·
   try simp [h00, o_i, f_a, hs2, hm2, ht2, hg1]
   refine at_cond rfl rfl (fun hb32 => ?_) (fun hb32 => by simp at hb32)
   refine sq ?_
   refine at_regK [4] rfl ?_
   try simp [h00, o_i, f_a, hs2, hm2, ht2]
   refine at_ret (by kernel_rfl) ?_
   try simp [h00, o_i, f_a, hs2, hm2, ht2]
   have hr : recB x last = false := by simp at hg1; simp [recB, hg1]
   rw [hr] at hck; simp at hck
   rw [← hck]; exact ⟨by omega, rfl, hH2⟩
  ·
   try simp [h00, o_i, f_a, hs2, hm2, ht2, hg1]
   refine (c118 _ _ _).use ok2 ?_
   try simp [h00, o_i, f_a, hs2, hm2, ht2]
   refine pops_split 27 rfl (fun hg2 => ?_) (fun hg2 => ?_)
   ·
    try simp [h00, o_i, f_a, hs2, hm2, ht2, hg2]
    refine at_cond rfl rfl (fun hb32 => ?_) (fun hb32 => by simp at hb32)
    refine sq ?_
    refine at_regK [4] rfl ?_
    try simp [h00, o_i, f_a, hs2, hm2, ht2]
    refine at_ret (by kernel_rfl) ?_
    try simp [h00, o_i, f_a, hs2, hm2, ht2]
    have hr : recB x last = false := by simp at hg1 hg2; simp [recB, hg1, hg2]
    rw [hr] at hck; simp at hck
    rw [← hck]; exact ⟨by omega, rfl, hH2⟩
   ·
    try simp [h00, o_i, f_a, hs2, hm2, ht2, hg2]
    refine (c165 _ _).use ok2 ?_
    try simp [h00, o_i, f_a, hs2, hm2, ht2]
    refine at_cond rfl rfl (fun hb32 => ?_) (fun hb32 => ?_)
    ·
     try simp at hb32
     refine sq ?_
     refine at_regK [4] rfl ?_
     try simp [h00, o_i, f_a, hs2, hm2, ht2]
     refine at_ret (by kernel_rfl) ?_
     try simp [h00, o_i, f_a, hs2, hm2, ht2]
     have hr : recB x last = false := by simp at hg1 hg2 hb32; simp [recB, hg1, hg2, hb32]
     rw [hr] at hck; simp at hck
     rw [← hck]; exact ⟨by omega, rfl, hH2⟩
    ·
     try simp at hb32
     refine at_skip (by kernel_rfl) ?_
     try simp [h00, o_i, f_a, hs2, hm2, ht2]
     refine sq ?_
     refine sq ?_
     refine at_regK [0, 1, 7, 9, 10, 36] rfl ?_
     try simp [h00, o_i, f_a, hs2, hm2, ht2]
     refine (c122 sn' _ j _ _ ok2 hj2).of_is ?_
     try simp [h00, o_i, f_a, hs2, hm2, ht2]
     refine at_cond rfl rfl (fun hb36 => ?_) (fun hb36 => ?_)
     ·
      try simp at hb36
      refine sq ?_
      refine at_regK [4] rfl ?_
      try simp [h00, o_i, f_a, hs2, hm2, ht2]
      refine at_ret (by kernel_rfl) ?_
      try simp [h00, o_i, f_a, hs2, hm2, ht2]
      have hr : recB x last = true := by simp at hg1 hg2 hb32; simp [recB, hg1, hg2, hb32]
      rw [hr, if_pos rfl, if_pos hb36] at hck
      simp only [if_pos hb36, hse, ← hH2, ht2]
      rw [← hck]; exact ⟨by omega, hm2.2 trivial, rfl, hH2⟩
     ·
      try simp at hb36
      refine at_skip (by kernel_rfl) ?_
      try simp [h00, o_i, f_a, hs2, hm2, ht2]
      refine at_regK [0, 1, 5, 9, 10] rfl ?_
      try simp [h00, o_i, f_a, hs2, hm2, ht2]
      refine at_regC 0 [0, 1, 5, 9, 10] rfl ?_
      try simp [h00, o_i, f_a, hs2, hm2, ht2, hp2]
      have hr : recB x last = true := by simp at hg1 hg2 hb32; simp [recB, hg1, hg2, hb32]
      rw [hr, if_pos rfl, if_neg hb36] at hck
      simp only [if_neg hb36, hse]
      exact ⟨okH_pl (okH_set hH rfl) 0, hb11, _, _, hck, ⟨rfl, by rw [wrap_id (by omega) (by omega)]⟩, rfl⟩
 ·
  try simp at hb11
  refine at_exit rfl ?_
  try simp [h00, o_i, f_a, hs2, hm2, ht2]
  refine sq ?_
  refine at_regK [4] rfl ?_
  try simp [h00, o_i, f_a, hs2, hm2, ht2]
  refine at_ret (by kernel_rfl) ?_
  try simp [h00, o_i, f_a, hs2, hm2, ht2]
  rw [List.drop_of_length_le hb11, chk] at hck
  rw [← hck]; exact ⟨by omega, rfl, hH2⟩
end Go.Abs
/- Contracts: Check, and the marks of weighings. -/
set_option linter.unusedVariables false
set_option linter.unusedSimpArgs false
set_option maxRecDepth 100000
set_option maxHeartbeats 2000000
namespace Go.Abs
open Go.RowKit Go.Proofs Go.Shaft
attribute [simp] ti22 ti23 ti24 ti26 ti30 ti42 ti45 ti52 ti122 ti125 ti88 ti92 ti46
theorem c121 (k : Kn) (hk : Few k) (w : Wg) : Con E 121 [eKn k, eWg w] (.bool (weighB k w)) := by
 intro n H hH
 have h00 := hh3 hH
 have ⟨hHs, hH', hpl⟩ := h00
 refine at_start (fn := Tryz.f121) [.tmp 4] 48 H.length rfl rfl rfl rfl (by kernel_rfl) (by kernel_rfl) (by simp) (Nat.le_refl _) ?_
 refine sq ?_
 refine at_regK [2, 3] rfl ?_
 try simp [h00, o_i, f_a]
 refine sq ?_
 refine sq ?_
 refine at_regK [2, 3, 14] rfl ?_
 try simp [h00, o_i, f_a]
 refine (c118 _ _ _).use hH ?_
 try simp [h00, o_i, f_a]
 refine pops_split 9 rfl (fun hg1 => ?_) (fun hg1 => ?_)
 ·
  try simp [h00, o_i, f_a, hg1]
  refine at_cond rfl rfl (fun hb14 => ?_) (fun hb14 => by simp at hb14)
  refine sq ?_
  refine at_regK [4] rfl ?_
  try simp [h00, o_i, f_a]
  refine at_ret (by kernel_rfl) ?_
  try simp [h00, o_i, f_a]
  simp at hg1
  simp [weighB, hg1]
 ·
  try simp [h00, o_i, f_a, hg1]
  refine (c165 _ _).use hH ?_
  try simp [h00, o_i, f_a]
  refine at_cond rfl rfl (fun hb14 => ?_) (fun hb14 => ?_)
  ·
   try simp at hb14
   refine sq ?_
   refine at_regK [4] rfl ?_
   try simp [h00, o_i, f_a]
   refine at_ret (by kernel_rfl) ?_
   try simp [h00, o_i, f_a]
   simp at hg1
   simp [weighB, hg1, hb14]
  ·
   try simp at hb14
   refine at_skip (by kernel_rfl) ?_
   try simp [h00, o_i, f_a]
   refine sq ?_
   refine sq ?_
   refine at_regK [2, 3, 16] rfl ?_
   try simp [h00, o_i, f_a]
   refine at_block rfl ?_
   refine sq ?_
   refine at_regK [2, 3, 16, 17] rfl ?_
   try simp [h00, o_i, f_a]
   refine at_cond rfl rfl (fun hb17 => ?_) (fun hb17 => ?_)
   ·
    try simp at hb17
    refine sq ?_
    refine at_draw [4] [1, 1, 0, 1, 0, 1, 1, 0] [] rfl Efol (by kernel_rfl) (by simp) ?_
    try simp [h00, o_i, f_a]
    refine (c75 _).draw hH ?_
    try simp [h00, o_i, f_a]
    refine (c74 _ (by first | exact hk.l | exact hk.d) _ _).draw hH ?_
    try simp [h00, o_i, f_a]
    refine at_ret (by kernel_rfl) ?_
    try simp [h00, o_i, f_a]
    simp at hg1
    simp [weighB, hg1, hb14, hb17]
   ·
    try simp at hb17
    refine sq ?_
    refine at_regK [2, 3, 26] rfl ?_
    try simp [h00, o_i, f_a]
    refine at_cond rfl rfl (fun hb26 => ?_) (fun hb26 => ?_)
    ·
     try simp at hb26
     refine sq ?_
     refine at_draw [4] [1, 1, 0, 1, 0, 1, 1, 0] [] rfl Efol (by kernel_rfl) (by simp) ?_
     try simp [h00, o_i, f_a]
     refine (c77 _).draw hH ?_
     try simp [h00, o_i, f_a]
     refine (c76 _ (by first | exact hk.l | exact hk.d) _ _).draw hH ?_
     try simp [h00, o_i, f_a]
     refine at_ret (by kernel_rfl) ?_
     try simp [h00, o_i, f_a]
     simp at hg1
     simp [weighB, hg1, hb14, hb26]
    ·
     try simp at hb26
     refine at_skip (by kernel_rfl) ?_
     try simp [h00, o_i, f_a]
     refine sq ?_
     refine at_regK [4] rfl ?_
     try simp [h00, o_i, f_a]
     refine pops_split 38 rfl (fun hg2 => ?_) (fun hg2 => ?_)
     ·
      try simp [h00, o_i, f_a, hg2]
      refine (c118 _ _ _).use hH ?_
      try simp [h00, o_i, f_a]
      refine pops_split 43 rfl (fun hg3 => ?_) (fun hg3 => ?_)
      ·
       try simp [h00, o_i, f_a, hg3]
       refine at_ret (by kernel_rfl) ?_
       try simp [h00, o_i, f_a]
       simp at hg1 hg2
       simp [weighB, hg1, hb14, hg2, hg3]
       try (by_cases h : w.to = 0 <;> simp [h])
      ·
       try simp [h00, o_i, f_a, hg3]
       refine at_ret (by kernel_rfl) ?_
       try simp [h00, o_i, f_a]
       simp at hg1 hg2
       simp [weighB, hg1, hb14, hg2, hg3]
     ·
      try simp [h00, o_i, f_a, hg2]
      refine at_ret (by kernel_rfl) ?_
      try simp [h00, o_i, f_a]
      simp at hg1 hg2
      simp [weighB, hg1, hb14, hb17, hb26, hg2]

theorem c170 (k : Kn) (hk : Few k) (w : Wg) : Con E 170 [eKn k, eWg w] (.tup [I (weighedM k w).1, I (weighedM k w).2]) := by
 intro n H hH
 have h00 := hh3 hH
 have ⟨hHs, hH', hpl⟩ := h00
 refine at_start (fn := Tryz.f170) [.tmp 4, .tmp 5] 50 H.length rfl rfl rfl rfl (by kernel_rfl) (by kernel_rfl) (by simp) (Nat.le_refl _) ?_
 refine sq ?_
 refine at_regK [2, 3] rfl ?_
 try simp [h00, o_i, f_a]
 refine sq ?_
 refine sq ?_
 refine at_regK [2, 3, 7] rfl ?_
 try simp [h00, o_i, f_a]
 refine at_block rfl ?_
 refine sq ?_
 refine at_regK [2, 3, 7, 8] rfl ?_
 try simp [h00, o_i, f_a]
 refine at_cond rfl rfl (fun hb8 => ?_) (fun hb8 => ?_)
 ·
  try simp at hb8
  refine sq ?_
  have fl := find_le k.loads w.frm; have ft := find_le k.loads w.to; have := hk.l
  refine at_draw [4, 5] [1, 1, 0, 1, 1, 1, 1, 0, 1, 1, 0, 0, 0] [] rfl Efol (by kernel_rfl) (by simp) ?_
  try simp [h00, o_i, f_a]
  refine (c75 _).draw hH ?_
  try simp [h00, o_i, f_a]
  refine (c86 _ (by first | exact hk.l | exact hk.d) _).draw hH ?_
  try simp [h00, o_i, f_a]
  refine (c75 _).draw hH ?_
  try simp [h00, o_i, f_a]
  refine (c86 _ (by first | exact hk.l | exact hk.d) _).draw hH ?_
  try simp [h00, o_i, f_a]
  refine at_ret (by kernel_rfl) ?_
  try simp [h00, o_i, f_a]
  rw [wrap_id (by omega) (by omega)]
  simp [weighedM, hb8]
 ·
  try simp at hb8
  refine sq ?_
  refine at_regK [2, 3, 21] rfl ?_
  try simp [h00, o_i, f_a]
  refine at_cond rfl rfl (fun hb21 => ?_) (fun hb21 => ?_)
  ·
   try simp at hb21
   refine sq ?_
   have fl := find_le k.draws w.frm; have ft := find_le k.draws w.to; have := hk.d
   refine at_draw [4, 5] [1, 1, 1, 0, 1, 1, 1, 1, 1, 1, 0, 1, 1, 0, 1, 0, 0] [] rfl Efol (by kernel_rfl) (by simp) ?_
   try simp [h00, o_i, f_a]
   refine (c77 _).draw hH ?_
   try simp [h00, o_i, f_a]
   refine (c94 _ (by first | exact hk.l | exact hk.d) _).draw hH ?_
   try simp [h00, o_i, f_a]
   refine (c80 _ hk _ (by omega) (by omega)).draw hH ?_
   try simp [h00, o_i, f_a]
   refine (c77 _).draw hH ?_
   try simp [h00, o_i, f_a]
   refine (c94 _ (by first | exact hk.l | exact hk.d) _).draw hH ?_
   try simp [h00, o_i, f_a]
   rw [wrap_id (by omega) (by omega)]
   refine (c80 _ hk _ (by omega) (by omega)).draw hH ?_
   try simp [h00, o_i, f_a]
   refine at_ret (by kernel_rfl) ?_
   try simp [h00, o_i, f_a]
   simp [weighedM, hb21]
  ·
   try simp at hb21
   refine at_skip (by kernel_rfl) ?_
   try simp [h00, o_i, f_a]
   refine sq ?_
   have := byHr_le k.draws w.frm; have := hk.d
   refine at_draw [4, 5] [1, 1, 1, 0, 1, 1, 1, 1, 1, 0, 1, 1, 0, 0] [] rfl Efol (by kernel_rfl) (by simp) ?_
   try simp [h00, o_i, f_a]
   refine (c77 _).draw hH ?_
   try simp [h00, o_i, f_a]
   refine (c81 _ (by first | exact hk.l | exact hk.d) _).draw hH ?_
   try simp [h00, o_i, f_a]
   refine (c80 _ hk _ (by omega) (by omega)).draw hH ?_
   try simp [h00, o_i, f_a]
   refine (c75 _).draw hH ?_
   try simp [h00, o_i, f_a]
   refine (c82 _ (by first | exact hk.l | exact hk.d) _).draw hH ?_
   try simp [h00, o_i, f_a]
   refine at_ret (by kernel_rfl) ?_
   try simp [h00, o_i, f_a]
   simp [weighedM, hb8, hb21]

theorem c48 (k : Kn) (hk : Few k) : Con E 48 [eKn k] (I (check k)) := by
 intro n H hH
 have h00 := hh3 hH
 have ⟨hHs, hH', hpl⟩ := h00
 refine at_start (fn := Tryz.f48) [.tmp 2] 65 H.length rfl rfl rfl rfl (by kernel_rfl) (by kernel_rfl) (by simp) (Nat.le_refl _) ?_
 refine sq ?_
 refine at_regK [1] rfl ?_
 try simp [h00, o_i, f_a]
 refine sq ?_
 refine sq ?_
 refine at_regK [1, 17] rfl ?_
 try simp [h00, o_i, f_a]
 refine (c118 _ _ _).use hH ?_
 try simp [h00, o_i, f_a]
 refine pops_split 12 rfl (fun hg1 => ?_) (fun hg1 => ?_)
 ·
  try simp [h00, o_i, f_a, hg1]
  refine at_cond rfl rfl (fun hb17 => ?_) (fun hb17 => by simp at hb17)
  refine sq ?_
  refine at_regK [2] rfl ?_
  try simp [h00, o_i, f_a]
  refine at_ret (by kernel_rfl) ?_
  try simp [h00, o_i, f_a]
  simp at hg1
  simp [check, hg1]
 ·
  try simp [h00, o_i, f_a, hg1]
  refine (c118 _ _ _).use hH ?_
  try simp [h00, o_i, f_a]
  refine at_cond rfl rfl (fun hb17 => ?_) (fun hb17 => ?_)
  ·
   try simp at hb17
   refine sq ?_
   refine at_regK [2] rfl ?_
   try simp [h00, o_i, f_a]
   refine at_ret (by kernel_rfl) ?_
   try simp [h00, o_i, f_a]
   simp at hg1
   simp [check, hb17]
  ·
   try simp at hb17
   refine at_skip (by kernel_rfl) ?_
   try simp [h00, o_i, f_a]
   refine sq ?_
   refine sq ?_
   refine at_regK [1, 33] rfl ?_
   try simp [h00, o_i, f_a]
   refine pops_split 22 rfl (fun hg2 => ?_) (fun hg2 => ?_)
   ·
    try simp [h00, o_i, f_a, hg2]
    refine at_cond rfl rfl (fun hb33 => ?_) (fun hb33 => by simp at hb33)
    refine sq ?_
    refine at_regK [2] rfl ?_
    try simp [h00, o_i, f_a]
    refine at_ret (by kernel_rfl) ?_
    try simp [h00, o_i, f_a]
    simp at hg1 hg2
    have h2 : 20 < k.loads.length := by omega
    simp [check, hg1, hb17, h2]
   ·
    try simp [h00, o_i, f_a, hg2]
    refine pops_split 28 rfl (fun hg3 => ?_) (fun hg3 => ?_)
    ·
     try simp [h00, o_i, f_a, hg3]
     refine at_cond rfl rfl (fun hb33 => ?_) (fun hb33 => by simp at hb33)
     refine sq ?_
     refine at_regK [2] rfl ?_
     try simp [h00, o_i, f_a]
     refine at_ret (by kernel_rfl) ?_
     try simp [h00, o_i, f_a]
     simp at hg1 hg3
     have h2 : 20 < k.draws.length := by omega
     simp [check, hg1, hb17, h2]
    ·
     try simp [h00, o_i, f_a, hg3]
     refine at_cond rfl rfl (fun hb33 => ?_) (fun hb33 => ?_)
     ·
      try simp at hb33
      refine sq ?_
      refine at_regK [2] rfl ?_
      try simp [h00, o_i, f_a]
      refine at_ret (by kernel_rfl) ?_
      try simp [h00, o_i, f_a]
      simp at hg1
      have h2 : 20 < k.weighs.length := by omega
      simp [check, hg1, hb17, h2]
     ·
      try simp at hb33
      refine at_skip (by kernel_rfl) ?_
      try simp [h00, o_i, f_a]
      refine sq ?_
      refine at_regK [1, 3] rfl ?_
      try simp [h00, o_i, f_a]
      refine sq ?_
      refine sq ?_
      refine at_leads (leads_share 1 rfl rfl) ?_
      simp [mvO_map hH, ← encS_nil]
      have hs2 : ∀ sn, okH (H ++ [.mp (encS sn)]) := fun sn => okH_push hH rfl
      refine at_regK [1, 3, 4] rfl ?_
      try simp [h00, o_i, f_a]
      refine (c75 k).use (hs2 _) ?_
      try simp [h00, o_i, f_a]
      refine (c119 k.loads hk.l [] H.length _ _ (hs2 _) (by simp)).of_is ?_
      try simp [h00, o_i, f_a]
      refine sq ?_
      refine at_regK [1, 3, 4, 40] rfl ?_
      try simp [h00, o_i, f_a]
      refine at_cond rfl rfl (fun hb40 => ?_) (fun hb40 => ?_)
      ·
       try simp at hb40
       refine sq ?_
       refine at_regK [2] rfl ?_
       try simp [h00, o_i, f_a]
       refine at_ret (by kernel_rfl) ?_
       try simp [h00, o_i, f_a]
       simp at hg1 hg2 hg3
       have h2 : ¬ (20 < k.loads.length ∨ 20 < k.draws.length ∨ 20 < k.weighs.length) := by omega
       simp [check, hg1, hb17, h2, *]
      ·
       try simp at hb40
       refine at_skip (by kernel_rfl) ?_
       try simp [h00, o_i, f_a]
       refine sq ?_
       refine sq ?_
       refine at_regK [1, 3, 5] rfl ?_
       try simp [h00, o_i, f_a]
       refine (c77 k).use (hs2 _) ?_
       try simp [h00, o_i, f_a]
       refine (c120 k.draws hk.d (chk k.loads 0 []).2 H.length _ _ (hs2 _) (by simp)).of_is ?_
       try simp [h00, o_i, f_a]
       refine sq ?_
       refine at_regK [1, 3, 5, 47] rfl ?_
       try simp [h00, o_i, f_a]
       refine at_cond rfl rfl (fun hb47 => ?_) (fun hb47 => ?_)
       ·
        try simp at hb47
        refine sq ?_
        refine at_regK [2] rfl ?_
        try simp [h00, o_i, f_a]
        refine at_ret (by kernel_rfl) ?_
        try simp [h00, o_i, f_a]
        simp at hg1 hg2 hg3
        have h2 : ¬ (20 < k.loads.length ∨ 20 < k.draws.length ∨ 20 < k.weighs.length) := by omega
        simp [check, hg1, hb17, h2, *]
       ·
        try simp at hb47
        refine at_skip (by kernel_rfl) ?_
        try simp [h00, o_i, f_a]
        refine sq ?_
        refine sq ?_
        refine at_regK [1, 3, 50, 51, 52] rfl ?_
        try simp [h00, o_i, f_a]
        refine at_block rfl ?_
        refine at_count k.weighs.length (fun i s => ∃ sn, chkW k (k.weighs.drop i) sn = chkW k k.weighs (chk k.draws 0 (chk k.loads 0 []).2).2 ∧ s = ⟨[(1, .ref false 0 0 [] 0), (3, .mapr true H.length), (50, eWgs k.weighs), (51, I k.weighs.length), (52, I i)], [.cell (eKn k), .dead], H ++ [.mp (encS sn)]⟩) rfl ⟨_, rfl, rfl⟩ ?_
        rintro i s hi ⟨sn, hck, rfl⟩
        refine sq ?_
        refine at_regK [1, 3, 50, 51, 52, 53] rfl ?_
        try simp [h00, o_i, f_a]
        refine sq ?_
        refine at_cond rfl rfl (fun hb53 => ?_) (fun hb53 => ?_)
        ·
         try simp at hb53
         obtain ⟨w, hw⟩ : ∃ w, k.weighs[i]? = some w := ⟨_, List.getElem?_eq_getElem hb53⟩
         rw [List.drop_eq_getElem_cons hb53, (List.getElem?_eq_some_iff.1 hw).2, chkW] at hck
         refine at_skip (by kernel_rfl) ?_
         try simp [h00, o_i, f_a]
         refine sq ?_
         refine at_block rfl ?_
         refine sq ?_
         refine at_regK [1, 3, 7, 50, 51, 52] rfl ?_
         try simp [h00, o_i, f_a, hw]
         refine sq ?_
         refine sq ?_
         refine at_regK [1, 3, 7, 50, 51, 52, 59] rfl ?_
         try simp [h00, o_i, f_a]
         refine (c121 k hk w).use (hs2 _) ?_
         try simp [h00, o_i, f_a]
         refine at_cond rfl rfl (fun hb59 => ?_) (fun hb59 => ?_)
         ·
          try simp at hb59
          refine sq ?_
          refine at_regK [2] rfl ?_
          try simp [h00, o_i, f_a]
          refine at_ret (by kernel_rfl) ?_
          try simp [h00, o_i, f_a]
          simp at hg1 hg2 hg3
          have h2 : ¬ (20 < k.loads.length ∨ 20 < k.draws.length ∨ 20 < k.weighs.length) := by omega
          simp [check, hg1, hb17, h2, *]
          rw [← hck]; simp [hb59]
         ·
          try simp at hb59
          refine at_skip (by kernel_rfl) ?_
          try simp [h00, o_i, f_a]
          refine sq ?_
          refine at_regK [1, 3, 50, 51, 52, 63] rfl ?_
          try simp [h00, o_i, f_a]
          refine (c122 sn _ H.length _ _ (hs2 _) (by simp)).of_is ?_
          try simp [h00, o_i, f_a]
          refine at_cond rfl rfl (fun hb63 => ?_) (fun hb63 => ?_)
          ·
           try simp at hb63
           refine sq ?_
           refine at_regK [2] rfl ?_
           try simp [h00, o_i, f_a]
           refine at_ret (by kernel_rfl) ?_
           try simp [h00, o_i, f_a]
           simp at hg1 hg2 hg3
           have h2 : ¬ (20 < k.loads.length ∨ 20 < k.draws.length ∨ 20 < k.weighs.length) := by omega
           simp [check, hg1, hb17, h2, *]
           rw [← hck]; simp [hb59, hb63]
          ·
           try simp at hb63
           refine at_skip (by kernel_rfl) ?_
           try simp [h00, o_i, f_a]
           refine at_regC 2 [1, 3, 50, 51, 52] rfl ?_
           try simp [h00, o_i, f_a]
           rw [if_pos hb59, if_neg hb63] at hck
           exact ⟨hb53, _, hck, by rw [wrap_id (by omega) (by omega)], by rw [if_neg hb63]⟩
        ·
         try simp at hb53
         refine at_exit rfl ?_
         try simp [h00, o_i, f_a]
         refine sq ?_
         refine at_regK [2] rfl ?_
         try simp [h00, o_i, f_a]
         refine at_ret (by kernel_rfl) ?_
         try simp [h00, o_i, f_a]
         simp at hg1 hg2 hg3
         have h2 : ¬ (20 < k.loads.length ∨ 20 < k.draws.length ∨ 20 < k.weighs.length) := by omega
         simp [check, hg1, hb17, h2, *]
         rw [← hck, List.drop_of_length_le hb53]; rfl
end Go.Abs
/- Contracts: the links of a kiln. -/
set_option linter.unusedVariables false
set_option linter.unusedSimpArgs false
set_option maxRecDepth 100000
set_option maxHeartbeats 2000000
namespace Go.Abs
open Go.RowKit Go.Proofs Go.Shaft
attribute [simp] ti22 ti23 ti24 ti26 ti30 ti42 ti45 ti52 ti122 ti125 ti88 ti92 ti46
theorem c169 (a b : Int) (s : Sp) (id : Int) (kR m n : Nat) (b1 b2 : Bool) (H H2 H3 : List AO) (hH : okH H) (ok2 : okH H2) (ok3 : okH H3) (l2 : H2.length = H.length) (l3 : H3.length = H.length) (hc : H[m]? = some (.cell (.yld true kR))) (hc2 : H2[m]? = some (.cell (.yld true kR))) (hlo : IntKind.i64.wrap (-s.lo) = -s.lo)
  (h1 : YCall E kR [eTie ⟨a, b, s.hi, id⟩] H (fun v H' => v = .bool b1 ∧ H' = H2)) (h2 : b1 = true → YCall E kR [eTie ⟨b, a, -s.lo, id⟩] H2 (fun v H' => v = .bool b2 ∧ H' = H3)) :
  ACall E 169 [I a, I b, eSp s, I id, .ref true m 0 [] 0] n H (Is (.bool (b1 && b2)) [] (if b1 then H3 else H2)) := by
 have h00 := hh3 hH
 have ⟨hHs, hH', hpl⟩ := h00
 have hH_2 : (∀ o ∈ H2, o.ok (pm H.length) = true) ↔ True := iff_true_intro (by have := ok2; rw [okH, l2] at this; exact this)
 have hHs_2 : (∀ o ∈ H2, o.ok shd = true) ↔ True := iff_true_intro (okH_shd ok2)
 have ht_2 : H2.take H.length = H2 := by rw [← l2, List.take_length]
 have hH_3 : (∀ o ∈ H3, o.ok (pm H.length) = true) ↔ True := iff_true_intro (by have := ok3; rw [okH, l3] at this; exact this)
 have hHs_3 : (∀ o ∈ H3, o.ok shd = true) ↔ True := iff_true_intro (okH_shd ok3)
 have ht_3 : H3.take H.length = H3 := by rw [← l3, List.take_length]
 refine at_start (fn := Tryz.f169) [.tmp 9] 29 H.length rfl rfl rfl rfl (by kernel_rfl) (by kernel_rfl) (by simp) (Nat.le_refl _) ?_
 refine sq ?_
 refine at_regK [0, 1, 3, 4, 7] rfl ?_
 try simp [h00, o_i, f_a, hc, hc2, hlo, hH_2, hHs_2, ht_2, hH_3, hHs_3, ht_3, l2, l3]
 refine sq ?_
 refine at_regK [9] rfl ?_
 try simp [h00, o_i, f_a, hc, hc2, hlo, hH_2, hHs_2, ht_2, hH_3, hHs_3, ht_3, l2, l3]
 refine h1.mono ?_
 rintro v H' ⟨rfl, rfl⟩
 try simp [h00, o_i, f_a, hc, hc2, hlo, hH_2, hHs_2, ht_2, hH_3, hHs_3, ht_3, l2, l3]
 refine pops_split 18 rfl (fun hg1 => ?_) (fun hg1 => ?_)
 ·
  try simp [h00, o_i, f_a, hc, hc2, hlo, hH_2, hHs_2, ht_2, hH_3, hHs_3, ht_3, l2, l3, hg1]
  refine (h2 hg1).mono ?_
  rintro v H' ⟨rfl, rfl⟩
  try simp [h00, o_i, f_a, hc, hc2, hlo, hH_2, hHs_2, ht_2, hH_3, hHs_3, ht_3, l2, l3]
  refine at_ret (by kernel_rfl) ?_
  try simp [h00, o_i, f_a, hc, hc2, hlo, hH_2, hHs_2, ht_2, hH_3, hHs_3, ht_3, l2, l3]
 ·
  try simp [h00, o_i, f_a, hc, hc2, hlo, hH_2, hHs_2, ht_2, hH_3, hHs_3, ht_3, l2, l3, hg1]
  refine at_ret (by kernel_rfl) ?_
  try simp [h00, o_i, f_a, hc, hc2, hlo, hH_2, hHs_2, ht_2, hH_3, hHs_3, ht_3, l2, l3]

theorem c168 (k : Kn) (hk : Few k) (lo : Lo k) (kR n m : Nat) (hkR : kR < m) (Hs : Nat → List AO) (b : Nat → Bool) (hs : ∀ i, okH (Hs i)) (hl : ∀ i, (Hs i).length = m)
  (hy : ∀ i t, (tiesM k)[i]? = some t → (∀ q, q < i → b q = true) → ∀ X, okH (Hs i ++ X) → YCall E kR [eTie t] (Hs i ++ X) (fun v H' => v = .bool (b i) ∧ H' = Hs (i + 1) ++ X)) :
  ACall E 168 [.yld true kR, .pin (eKn k)] n (Hs 0) (Is (.tup []) [] (Hs (stopN b 0 (tiesM k).length))) := by
 have hk2 : kR < m := hkR
 have hC : ∀ i, okH (Hs i ++ [.cell (.yld true kR)]) := fun i => okH_push (hs i) (by simp [hl]; omega)
 have hCs : ∀ i, (∀ o ∈ Hs i, o.ok shd = true) ↔ True := fun i => iff_true_intro (okH_shd (hs i))
 have hCp : ∀ i q, (∀ o ∈ Hs i, o.ok (pl q) = true) ↔ True := fun i q => iff_true_intro (okH_pl (hs i) q)
 have hCm : ∀ i, (∀ o ∈ Hs i, o.ok (pm m) = true) ↔ True := fun i => iff_true_intro (by have := hs i; rw [okH, hl] at this; exact this)
 have hCy : ∀ i, (Hs i ++ [AO.cell (.yld true kR)])[m]? = some (.cell (.yld true kR)) := fun i => by rw [← hl i]; simp
 have hCt : ∀ i, (Hs i ++ [AO.cell (.yld true kR)]).take m = Hs i := fun i => by rw [← hl i]; simp
 have h0 : ∀ j k', (Hs 0).map (mvO j k') = Hs 0 := mvO_map (hs 0)
 have hyv : ∀ (j k' a b : Nat), mvV j k' (.yld true a) = .yld true a := fun j k' a b => mvV_id _ (by simp)
 refine at_start (fn := Tryz.f168) [] 129 (Hs 0).length rfl rfl rfl rfl (by kernel_rfl) (by kernel_rfl) (by simp) (Nat.le_refl _) ?_
 refine sq ?_
 refine at_regK [1, 2] rfl ?_
 try simp [hCs, hCp, hCm, hCy, hCt, hl, or_imp, forall_and]
 refine sq ?_
 refine at_leads (leads_share 0 rfl rfl) ?_
 simp [h0, hl, mvV_id]
 refine at_regK [1, 2, 3] rfl ?_
 try simp [hCs, hCp, hCm, hCy, hCt, hl, or_imp, forall_and]
 refine sq ?_
 refine sq ?_
 refine at_regK [1, 2, 3, 18, 19, 20] rfl ?_
 try simp [hCs, hCp, hCm, hCy, hCt, hl, or_imp, forall_and]
 refine at_block rfl ?_
 refine at_count k.loads.length (fun i s => (∀ q, q < 2 * i → b q = true) ∧ s = ⟨[(1, .pin (eKn k)), (2, .ref true m 0 [] 0), (3, .func (.func 169) [] [.ref true m 0 [] 0]), (18, eLds k.loads), (19, I k.loads.length), (20, I i)], [.dead], Hs (2 * i) ++ [.cell (.yld true kR)]⟩) rfl ⟨by simp, rfl⟩ ?_
 rintro i s hi ⟨hno, rfl⟩
 refine sq ?_
 refine at_regK [1, 2, 3, 18, 19, 20, 21] rfl ?_
 try simp [hCs, hCp, hCm, hCy, hCt, hl, or_imp, forall_and]
 refine sq ?_
 refine at_cond rfl rfl (fun hb21 => ?_) (fun hb21 => ?_)
 ·
  try simp at hb21
  obtain ⟨x, hx⟩ : ∃ x, k.loads[i]? = some x := ⟨_, List.getElem?_eq_getElem hb21⟩
  have hxm := List.mem_of_getElem? hx
  have hkl := hk.l; have hkd := hk.d; have hkw := hk.w
  have hlo := lo.l x hxm
  refine at_skip (by kernel_rfl) ?_
  try simp [hCs, hCp, hCm, hCy, hCt, hl, or_imp, forall_and]
  refine sq ?_
  refine at_block rfl ?_
  refine sq ?_
  refine at_regK [1, 2, 3, 4, 5, 18, 19, 20] rfl ?_
  try simp [hCs, hCp, hCm, hCy, hCt, hl, or_imp, forall_and, hx]
  refine sq ?_
  refine at_regK [1, 2, 3, 18, 19, 20, 34] rfl ?_
  try simp [hCs, hCp, hCm, hCy, hCt, hl, or_imp, forall_and]
  rw [wrap_id (n := (i : Int) + 1) (by omega) (by omega)]
  have hif : (if b (2 * i) = true then Hs (2 * i + 1 + 1) ++ [AO.cell (.yld true kR)] else Hs (2 * i + 1) ++ [AO.cell (.yld true kR)]) = Hs (if b (2 * i) = true then 2 * i + 1 + 1 else 2 * i + 1) ++ [AO.cell (.yld true kR)] := by split <;> rfl
  obtain ⟨t1, t2⟩ := tie1 (k := k) hx
  refine (c169 ((i : Int)) ((i : Int) + 1) x.w x.id kR m _ (b (2 * i)) (b (2 * i + 1)) (Hs (2 * i) ++ [.cell (.yld true kR)]) (Hs (2 * i + 1) ++ [.cell (.yld true kR)]) (Hs (2 * i + 1 + 1) ++ [.cell (.yld true kR)]) (hC _) (hC _) (hC _) (by simp [hl]) (by simp [hl]) (hCy _) (hCy _) (wrap_id (by omega) (by omega)) (hy _ _ t1 hno _ (hC _)) (fun hbq => hy _ _ t2 (fun q hq => (Nat.lt_succ_iff_lt_or_eq.1 hq).elim (hno q) (fun e => e ▸ hbq)) _ (hC _))).of_is ?_
  rw [hif]
  try simp [hCs, hCp, hCm, hCy, hCt, hl, or_imp, forall_and]
  refine at_cond rfl rfl (fun hb34 => ?_) (fun hb34 => ?_)
  ·
   try simp at hb34
   refine at_ret (by kernel_rfl) ?_
   try simp [hCs, hCp, hCm, hCy, hCt, hl, or_imp, forall_and]
   have e : stopN b 0 (tiesM k).length = (if b (2 * i) = true then 2 * i + 1 + 1 else 2 * i + 1) := by
    split
    ·rename_i h
     refine stopN_no b (i := 0) (j := 2 * i + 1) ?_ (by omega) ?_ (by rw [tiesLen]; omega)
     ·intro q _ hq
      rcases Nat.lt_succ_iff_lt_or_eq.1 hq with h' | rfl
      ·exact hno q h'
      ·exact h
     ·simpa [h] using hb34
    ·rename_i h
     exact stopN_no b (i := 0) (j := 2 * i) (fun q _ hq => hno q hq) (by omega) (by simpa using h) (by rw [tiesLen]; omega)
   rw [e]
  ·
   try simp at hb34
   refine at_skip (by kernel_rfl) ?_
   try simp [hCs, hCp, hCm, hCy, hCt, hl, or_imp, forall_and]
   refine at_regC 1 [1, 2, 3, 18, 19, 20] rfl ?_
   try simp [hCs, hCp, hCm, hCy, hCt, hl, or_imp, forall_and]
   refine ⟨hb21, ?_, by rw [wrap_id (by omega) (by omega)], by rw [if_pos hb34.1]; rfl⟩
   intro q hq
   rcases Nat.lt_or_ge q (2 * i) with h | h
   ·exact hno q h
   ·rcases Nat.lt_or_ge q (2 * i + 1) with h' | h'
    ·rw [show q = 2 * i by omega]; exact hb34.1
    ·rw [show q = 2 * i + 1 by omega]; exact hb34.2
 ·
  try simp at hb21
  refine at_exit rfl ?_
  try simp [hCs, hCp, hCm, hCy, hCt, hl, or_imp, forall_and]
  refine sq ?_
  refine sq ?_
  refine at_regK [1, 2, 3, 37, 38, 39] rfl ?_
  try simp [hCs, hCp, hCm, hCy, hCt, hl, or_imp, forall_and]
  refine at_block rfl ?_
  obtain rfl : i = k.loads.length := by omega
  rw [show 2 * k.loads.length = 2 * k.loads.length + 2 * 0 by omega]
  refine at_count k.draws.length (fun i s => (∀ q, q < 2 * k.loads.length + 2 * i → b q = true) ∧ s = ⟨[(1, .pin (eKn k)), (2, .ref true m 0 [] 0), (3, .func (.func 169) [] [.ref true m 0 [] 0]), (37, eLds k.draws), (38, I k.draws.length), (39, I i)], [.dead], Hs (2 * k.loads.length + 2 * i) ++ [.cell (.yld true kR)]⟩) rfl ⟨fun q hq => hno q (by omega), rfl⟩ ?_
  clear hi hno
  rintro i s hi ⟨hno, rfl⟩
  refine sq ?_
  refine at_regK [1, 2, 3, 37, 38, 39, 40] rfl ?_
  try simp [hCs, hCp, hCm, hCy, hCt, hl, or_imp, forall_and]
  refine sq ?_
  refine at_cond rfl rfl (fun hb40 => ?_) (fun hb40 => ?_)
  ·
   try simp at hb40
   obtain ⟨x, hx⟩ : ∃ x, k.draws[i]? = some x := ⟨_, List.getElem?_eq_getElem hb40⟩
   have hxm := List.mem_of_getElem? hx
   have hkl := hk.l; have hkd := hk.d; have hkw := hk.w
   have hlo := lo.d x hxm
   refine at_skip (by kernel_rfl) ?_
   try simp [hCs, hCp, hCm, hCy, hCt, hl, or_imp, forall_and]
   refine sq ?_
   refine at_block rfl ?_
   refine sq ?_
   refine at_regK [1, 2, 3, 6, 7, 37, 38, 39] rfl ?_
   try simp [hCs, hCp, hCm, hCy, hCt, hl, or_imp, forall_and, hx]
   refine sq ?_
   refine at_draw [1, 2, 3, 37, 38, 39, 57] [0, 1, 0, 1, 1, 0, 0, 1, 0, 1, 0, 1, 3, 0] [] rfl Efol (by kernel_rfl) (by simp) ?_
   try simp [hCs, hCp, hCm, hCy, hCt, hl, or_imp, forall_and]
   refine (c80 k hk (i : Int) (by omega) (by omega)).draw (hC _) ?_
   try simp [hCs, hCp, hCm, hCy, hCt, hl, or_imp, forall_and]
   rw [wrap_id (n := (i : Int) + 1) (by omega) (by omega)]
   refine (c80 k hk ((i : Int) + 1) (by omega) (by omega)).draw (hC _) ?_
   try simp [hCs, hCp, hCm, hCy, hCt, hl, or_imp, forall_and]
   have hif : (if b (2 * k.loads.length + 2 * i) = true then Hs (2 * k.loads.length + 2 * i + 1 + 1) ++ [AO.cell (.yld true kR)] else Hs (2 * k.loads.length + 2 * i + 1) ++ [AO.cell (.yld true kR)]) = Hs (if b (2 * k.loads.length + 2 * i) = true then 2 * k.loads.length + 2 * i + 1 + 1 else 2 * k.loads.length + 2 * i + 1) ++ [AO.cell (.yld true kR)] := by split <;> rfl
   obtain ⟨t1, t2⟩ := tie2 (k := k) hx
   refine TCall.of_is (c169 (drawnM k i) (drawnM k (i + 1)) x.w x.id kR m _ (b (2 * k.loads.length + 2 * i)) (b (2 * k.loads.length + 2 * i + 1)) (Hs (2 * k.loads.length + 2 * i) ++ [.cell (.yld true kR)]) (Hs (2 * k.loads.length + 2 * i + 1) ++ [.cell (.yld true kR)]) (Hs (2 * k.loads.length + 2 * i + 1 + 1) ++ [.cell (.yld true kR)]) (hC _) (hC _) (hC _) (by simp [hl]) (by simp [hl]) (hCy _) (hCy _) (wrap_id (by omega) (by omega)) (hy _ _ t1 hno _ (hC _)) (fun hbq => hy _ _ t2 (fun q hq => (Nat.lt_succ_iff_lt_or_eq.1 hq).elim (hno q) (fun e => e ▸ hbq)) _ (hC _))) ?_
   rw [hif]
   try simp [hCs, hCp, hCm, hCy, hCt, hl, or_imp, forall_and]
   refine at_cond rfl rfl (fun hb57 => ?_) (fun hb57 => ?_)
   ·
    try simp at hb57
    refine at_ret (by kernel_rfl) ?_
    try simp [hCs, hCp, hCm, hCy, hCt, hl, or_imp, forall_and]
    have e : stopN b 0 (tiesM k).length = (if b (2 * k.loads.length + 2 * i) = true then 2 * k.loads.length + 2 * i + 1 + 1 else 2 * k.loads.length + 2 * i + 1) := by
     split
     ·rename_i h
      refine stopN_no b (i := 0) (j := 2 * k.loads.length + 2 * i + 1) ?_ (by omega) ?_ (by rw [tiesLen]; omega)
      ·intro q _ hq
       rcases Nat.lt_succ_iff_lt_or_eq.1 hq with h' | rfl
       ·exact hno q h'
       ·exact h
      ·simpa [h] using hb57
     ·rename_i h
      exact stopN_no b (i := 0) (j := 2 * k.loads.length + 2 * i) (fun q _ hq => hno q hq) (by omega) (by simpa using h) (by rw [tiesLen]; omega)
    rw [e]
   ·
    try simp at hb57
    refine at_skip (by kernel_rfl) ?_
    try simp [hCs, hCp, hCm, hCy, hCt, hl, or_imp, forall_and]
    refine at_regC 1 [1, 2, 3, 37, 38, 39] rfl ?_
    try simp [hCs, hCp, hCm, hCy, hCt, hl, or_imp, forall_and]
    refine ⟨hb40, ?_, by rw [wrap_id (by omega) (by omega)], by rw [if_pos hb57.1]; rfl⟩
    intro q hq
    rcases Nat.lt_or_ge q (2 * k.loads.length + 2 * i) with h | h
    ·exact hno q h
    ·rcases Nat.lt_or_ge q (2 * k.loads.length + 2 * i + 1) with h' | h'
     ·rw [show q = 2 * k.loads.length + 2 * i by omega]; exact hb57.1
     ·rw [show q = 2 * k.loads.length + 2 * i + 1 by omega]; exact hb57.2
  ·
   try simp at hb40
   refine at_exit rfl ?_
   try simp [hCs, hCp, hCm, hCy, hCt, hl, or_imp, forall_and]
   refine sq ?_
   refine sq ?_
   refine at_regK [1, 2, 3, 60, 61, 62] rfl ?_
   try simp [hCs, hCp, hCm, hCy, hCt, hl, or_imp, forall_and]
   refine at_block rfl ?_
   obtain rfl : i = k.draws.length := by omega
   rw [show 2 * k.loads.length + 2 * k.draws.length = 2 * k.loads.length + 2 * k.draws.length + 2 * 0 by omega]
   refine at_count k.weighs.length (fun i s => (∀ q, q < 2 * k.loads.length + 2 * k.draws.length + 2 * i → b q = true) ∧ s = ⟨[(1, .pin (eKn k)), (2, .ref true m 0 [] 0), (3, .func (.func 169) [] [.ref true m 0 [] 0]), (60, eWgs k.weighs), (61, I k.weighs.length), (62, I i)], [.dead], Hs (2 * k.loads.length + 2 * k.draws.length + 2 * i) ++ [.cell (.yld true kR)]⟩) rfl ⟨fun q hq => hno q (by omega), rfl⟩ ?_
   clear hi hno
   rintro i s hi ⟨hno, rfl⟩
   refine sq ?_
   refine at_regK [1, 2, 3, 60, 61, 62, 63] rfl ?_
   try simp [hCs, hCp, hCm, hCy, hCt, hl, or_imp, forall_and]
   refine sq ?_
   refine at_cond rfl rfl (fun hb63 => ?_) (fun hb63 => ?_)
   ·
    try simp at hb63
    obtain ⟨x, hx⟩ : ∃ x, k.weighs[i]? = some x := ⟨_, List.getElem?_eq_getElem hb63⟩
    have hxm := List.mem_of_getElem? hx
    have hkl := hk.l; have hkd := hk.d; have hkw := hk.w
    have hlo := lo.w x hxm
    refine at_skip (by kernel_rfl) ?_
    try simp [hCs, hCp, hCm, hCy, hCt, hl, or_imp, forall_and]
    refine sq ?_
    refine at_block rfl ?_
    refine sq ?_
    refine at_regK [1, 2, 3, 9, 60, 61, 62] rfl ?_
    try simp [hCs, hCp, hCm, hCy, hCt, hl, or_imp, forall_and, hx]
    refine sq ?_
    refine at_regK [1, 2, 3, 9, 10, 11, 60, 61, 62] rfl ?_
    try simp [hCs, hCp, hCm, hCy, hCt, hl, or_imp, forall_and]
    refine (c170 k hk x).use (hC _) ?_
    try simp [hCs, hCp, hCm, hCy, hCt, hl, or_imp, forall_and]
    refine sq ?_
    refine at_regK [1, 2, 3, 60, 61, 62, 80] rfl ?_
    try simp [hCs, hCp, hCm, hCy, hCt, hl, or_imp, forall_and]
    have hif : (if b (2 * k.loads.length + 2 * k.draws.length + 2 * i) = true then Hs (2 * k.loads.length + 2 * k.draws.length + 2 * i + 1 + 1) ++ [AO.cell (.yld true kR)] else Hs (2 * k.loads.length + 2 * k.draws.length + 2 * i + 1) ++ [AO.cell (.yld true kR)]) = Hs (if b (2 * k.loads.length + 2 * k.draws.length + 2 * i) = true then 2 * k.loads.length + 2 * k.draws.length + 2 * i + 1 + 1 else 2 * k.loads.length + 2 * k.draws.length + 2 * i + 1) ++ [AO.cell (.yld true kR)] := by split <;> rfl
    obtain ⟨t1, t2⟩ := tie3 (k := k) hx
    refine (c169 ((weighedM k x).1) ((weighedM k x).2) x.sum x.id kR m _ (b (2 * k.loads.length + 2 * k.draws.length + 2 * i)) (b (2 * k.loads.length + 2 * k.draws.length + 2 * i + 1)) (Hs (2 * k.loads.length + 2 * k.draws.length + 2 * i) ++ [.cell (.yld true kR)]) (Hs (2 * k.loads.length + 2 * k.draws.length + 2 * i + 1) ++ [.cell (.yld true kR)]) (Hs (2 * k.loads.length + 2 * k.draws.length + 2 * i + 1 + 1) ++ [.cell (.yld true kR)]) (hC _) (hC _) (hC _) (by simp [hl]) (by simp [hl]) (hCy _) (hCy _) (wrap_id (by omega) (by omega)) (hy _ _ t1 hno _ (hC _)) (fun hbq => hy _ _ t2 (fun q hq => (Nat.lt_succ_iff_lt_or_eq.1 hq).elim (hno q) (fun e => e ▸ hbq)) _ (hC _))).of_is ?_
    rw [hif]
    try simp [hCs, hCp, hCm, hCy, hCt, hl, or_imp, forall_and]
    refine at_cond rfl rfl (fun hb80 => ?_) (fun hb80 => ?_)
    ·
     try simp at hb80
     refine at_ret (by kernel_rfl) ?_
     try simp [hCs, hCp, hCm, hCy, hCt, hl, or_imp, forall_and]
     have e : stopN b 0 (tiesM k).length = (if b (2 * k.loads.length + 2 * k.draws.length + 2 * i) = true then 2 * k.loads.length + 2 * k.draws.length + 2 * i + 1 + 1 else 2 * k.loads.length + 2 * k.draws.length + 2 * i + 1) := by
      split
      ·rename_i h
       refine stopN_no b (i := 0) (j := 2 * k.loads.length + 2 * k.draws.length + 2 * i + 1) ?_ (by omega) ?_ (by rw [tiesLen]; omega)
       ·intro q _ hq
        rcases Nat.lt_succ_iff_lt_or_eq.1 hq with h' | rfl
        ·exact hno q h'
        ·exact h
       ·simpa [h] using hb80
      ·rename_i h
       exact stopN_no b (i := 0) (j := 2 * k.loads.length + 2 * k.draws.length + 2 * i) (fun q _ hq => hno q hq) (by omega) (by simpa using h) (by rw [tiesLen]; omega)
     rw [e]
    ·
     try simp at hb80
     refine at_skip (by kernel_rfl) ?_
     try simp [hCs, hCp, hCm, hCy, hCt, hl, or_imp, forall_and]
     refine at_regC 1 [1, 2, 3, 60, 61, 62] rfl ?_
     try simp [hCs, hCp, hCm, hCy, hCt, hl, or_imp, forall_and]
     refine ⟨hb63, ?_, by rw [wrap_id (by omega) (by omega)], by rw [if_pos hb80.1]; rfl⟩
     intro q hq
     rcases Nat.lt_or_ge q (2 * k.loads.length + 2 * k.draws.length + 2 * i) with h | h
     ·exact hno q h
     ·rcases Nat.lt_or_ge q (2 * k.loads.length + 2 * k.draws.length + 2 * i + 1) with h' | h'
      ·rw [show q = 2 * k.loads.length + 2 * k.draws.length + 2 * i by omega]; exact hb80.1
      ·rw [show q = 2 * k.loads.length + 2 * k.draws.length + 2 * i + 1 by omega]; exact hb80.2
   ·
    try simp at hb63
    refine at_exit rfl ?_
    try simp [hCs, hCp, hCm, hCy, hCt, hl, or_imp, forall_and]
    refine sq ?_
    refine sq ?_
    refine at_regK [1, 2, 83, 84, 85] rfl ?_
    try simp [hCs, hCp, hCm, hCy, hCt, hl, or_imp, forall_and]
    refine at_block rfl ?_
    obtain rfl : i = k.weighs.length := by omega
    rw [show 2 * k.loads.length + 2 * k.draws.length + 2 * k.weighs.length = 2 * k.loads.length + 2 * k.draws.length + 2 * k.weighs.length + 0 by omega]
    refine at_count k.draws.length (fun i s => (∀ q, q < 2 * k.loads.length + 2 * k.draws.length + 2 * k.weighs.length + i → b q = true) ∧ s = ⟨[(1, .pin (eKn k)), (2, .ref true m 0 [] 0), (83, eLds k.draws), (84, I k.draws.length), (85, I i)], [.dead], Hs (2 * k.loads.length + 2 * k.draws.length + 2 * k.weighs.length + i) ++ [.cell (.yld true kR)]⟩) rfl ⟨fun q hq => hno q (by omega), rfl⟩ ?_
    clear hi hno
    rintro i s hi ⟨hno, rfl⟩
    refine sq ?_
    refine at_regK [1, 2, 83, 84, 85, 86] rfl ?_
    try simp [hCs, hCp, hCm, hCy, hCt, hl, or_imp, forall_and]
    refine sq ?_
    refine at_cond rfl rfl (fun hb86 => ?_) (fun hb86 => ?_)
    ·
     try simp at hb86
     obtain ⟨x, hx⟩ : ∃ x, k.draws[i]? = some x := ⟨_, List.getElem?_eq_getElem hb86⟩
     have hxm := List.mem_of_getElem? hx
     have hkl := hk.l; have hkd := hk.d; have hkw := hk.w
     have hlo := lo.d x hxm
     refine at_skip (by kernel_rfl) ?_
     try simp [hCs, hCp, hCm, hCy, hCt, hl, or_imp, forall_and]
     refine sq ?_
     refine at_block rfl ?_
     refine sq ?_
     refine at_regK [1, 2, 12, 13, 83, 84, 85] rfl ?_
     try simp [hCs, hCp, hCm, hCy, hCt, hl, or_imp, forall_and, hx]
     refine sq ?_
     refine at_draw [1, 2, 83, 84, 85, 102] [1, 1, 1, 0, 1, 1, 1, 0, 0, 1, 0, 3, 0] [] rfl Efol (by kernel_rfl) (by simp) ?_
     try simp [hCs, hCp, hCm, hCy, hCt, hl, or_imp, forall_and]
     refine (c75 k).draw (hC _) ?_
     try simp [hCs, hCp, hCm, hCy, hCt, hl, or_imp, forall_and]
     refine (c82 k.loads hk.l _).draw (hC _) ?_
     try simp [hCs, hCp, hCm, hCy, hCt, hl, or_imp, forall_and]
     rw [wrap_id (n := (i : Int) + 1) (by omega) (by omega)]
     refine (c80 k hk ((i : Int) + 1) (by omega) (by omega)).draw (hC _) ?_
     try simp [hCs, hCp, hCm, hCy, hCt, hl, or_imp, forall_and]
     refine ⟨_, _, hy _ _ (tie4 (k := k) hx) hno _ (hC _), ?_⟩
     try simp [hCs, hCp, hCm, hCy, hCt, hl, or_imp, forall_and]
     refine at_cond rfl rfl (fun hb102 => ?_) (fun hb102 => ?_)
     ·
      try simp at hb102
      refine at_ret (by kernel_rfl) ?_
      try simp [hCs, hCp, hCm, hCy, hCt, hl, or_imp, forall_and]
      rw [stopN_no b (i := 0) (j := 2 * k.loads.length + 2 * k.draws.length + 2 * k.weighs.length + i) (fun q _ hq => hno q hq) (by omega) hb102 (by rw [tiesLen]; omega)]
     ·
      try simp at hb102
      refine at_skip (by kernel_rfl) ?_
      try simp [hCs, hCp, hCm, hCy, hCt, hl, or_imp, forall_and]
      refine at_regC 1 [1, 2, 83, 84, 85] rfl ?_
      try simp [hCs, hCp, hCm, hCy, hCt, hl, or_imp, forall_and]
      refine ⟨hb86, ?_, by rw [wrap_id (by omega) (by omega)], rfl⟩
      intro q hq
      rcases Nat.lt_or_ge q (2 * k.loads.length + 2 * k.draws.length + 2 * k.weighs.length + i) with h | h
      ·exact hno q h
      ·rw [show q = 2 * k.loads.length + 2 * k.draws.length + 2 * k.weighs.length + i by omega]; exact hb102
    ·
     try simp at hb86
     refine at_exit rfl ?_
     try simp [hCs, hCp, hCm, hCy, hCt, hl, or_imp, forall_and]
     refine sq ?_
     refine at_regK [1, 2, 105, 106, 107] rfl ?_
     try simp [hCs, hCp, hCm, hCy, hCt, hl, or_imp, forall_and]
     refine at_block rfl ?_
     obtain rfl : i = k.draws.length := by omega
     rw [show 2 * k.loads.length + 2 * k.draws.length + 2 * k.weighs.length + k.draws.length = 2 * k.loads.length + 2 * k.draws.length + 2 * k.weighs.length + k.draws.length + 0 by omega]
     refine at_count k.loads.length (fun i s => (∀ q, q < 2 * k.loads.length + 2 * k.draws.length + 2 * k.weighs.length + k.draws.length + i → b q = true) ∧ s = ⟨[(1, .pin (eKn k)), (2, .ref true m 0 [] 0), (105, eLds k.loads), (106, I k.loads.length), (107, I i)], [.dead], Hs (2 * k.loads.length + 2 * k.draws.length + 2 * k.weighs.length + k.draws.length + i) ++ [.cell (.yld true kR)]⟩) rfl ⟨fun q hq => hno q (by omega), rfl⟩ ?_
     clear hi hno
     rintro i s hi ⟨hno, rfl⟩
     refine sq ?_
     refine at_regK [1, 2, 105, 106, 107, 108] rfl ?_
     try simp [hCs, hCp, hCm, hCy, hCt, hl, or_imp, forall_and]
     refine sq ?_
     refine at_cond rfl rfl (fun hb108 => ?_) (fun hb108 => ?_)
     ·
      try simp at hb108
      obtain ⟨x, hx⟩ : ∃ x, k.loads[i]? = some x := ⟨_, List.getElem?_eq_getElem hb108⟩
      have hxm := List.mem_of_getElem? hx
      have hkl := hk.l; have hkd := hk.d; have hkw := hk.w
      have hlo := lo.l x hxm
      refine at_skip (by kernel_rfl) ?_
      try simp [hCs, hCp, hCm, hCy, hCt, hl, or_imp, forall_and]
      refine sq ?_
      refine at_block rfl ?_
      refine sq ?_
      refine at_regK [1, 2, 14, 15, 105, 106, 107] rfl ?_
      try simp [hCs, hCp, hCm, hCy, hCt, hl, or_imp, forall_and, hx]
      refine sq ?_
      refine at_draw [1, 2, 105, 106, 107, 127] [1, 1, 1, 1, 0, 1, 0, 1, 1, 0, 0, 0, 1, 0, 3, 0] [] rfl Efol (by kernel_rfl) (by simp) ?_
      try simp [hCs, hCp, hCm, hCy, hCt, hl, or_imp, forall_and]
      refine (c77 k).draw (hC _) ?_
      try simp [hCs, hCp, hCm, hCy, hCt, hl, or_imp, forall_and]
      rw [wrap_id (n := x.hour - 1) (by omega) (by omega)]
      refine (c81 k.draws hk.d _).draw (hC _) ?_
      try simp [hCs, hCp, hCm, hCy, hCt, hl, or_imp, forall_and]
      have hby := byHr_le k.draws (x.hour - 1)
      refine (c80 k hk _ (by omega) (by omega)).draw (hC _) ?_
      try simp [hCs, hCp, hCm, hCy, hCt, hl, or_imp, forall_and]
      rw [wrap_id (n := (i : Int) + 1) (by omega) (by omega)]
      refine ⟨_, _, hy _ _ (tie5 (k := k) hx) hno _ (hC _), ?_⟩
      try simp [hCs, hCp, hCm, hCy, hCt, hl, or_imp, forall_and]
      refine at_cond rfl rfl (fun hb127 => ?_) (fun hb127 => ?_)
      ·
       try simp at hb127
       refine at_ret (by kernel_rfl) ?_
       try simp [hCs, hCp, hCm, hCy, hCt, hl, or_imp, forall_and]
       rw [stopN_no b (i := 0) (j := 2 * k.loads.length + 2 * k.draws.length + 2 * k.weighs.length + k.draws.length + i) (fun q _ hq => hno q hq) (by omega) hb127 (by rw [tiesLen]; omega)]
      ·
       try simp at hb127
       refine at_skip (by kernel_rfl) ?_
       try simp [hCs, hCp, hCm, hCy, hCt, hl, or_imp, forall_and]
       refine at_regC 1 [1, 2, 105, 106, 107] rfl ?_
       try simp [hCs, hCp, hCm, hCy, hCt, hl, or_imp, forall_and]
       refine ⟨hb108, ?_, by rw [wrap_id (by omega) (by omega)], rfl⟩
       intro q hq
       rcases Nat.lt_or_ge q (2 * k.loads.length + 2 * k.draws.length + 2 * k.weighs.length + k.draws.length + i) with h | h
       ·exact hno q h
       ·rw [show q = 2 * k.loads.length + 2 * k.draws.length + 2 * k.weighs.length + k.draws.length + i by omega]; exact hb127
     ·
      try simp at hb108
      refine at_exit rfl ?_
      try simp [hCs, hCp, hCm, hCy, hCt, hl, or_imp, forall_and]
      obtain rfl : i = k.loads.length := by omega
      rw [stopN_true b _ 0 (fun q _ hq => hno q (by rw [tiesLen] at hq; omega)), tiesLen]
      congr 1; omega
end Go.Abs
/- Contracts: the net of a kiln. -/
set_option linter.unusedVariables false
set_option linter.unusedSimpArgs false
set_option maxRecDepth 100000
set_option maxHeartbeats 2000000
namespace Go.Abs
open Go.RowKit Go.Proofs Go.Shaft
attribute [simp] ti22 ti23 ti24 ti26 ti30 ti42 ti45 ti52 ti122 ti125 ti88 ti92 ti46
theorem c125 (k : Kn) : Con E 125 [eKn k] (.func (.func 168) [] [.pin (eKn k)]) := by
 intro n H hH
 have h00 := hh3 hH
 have ⟨hHs, hH', hpl⟩ := h00
 refine at_start (fn := Tryz.f125) [.tmp 2] 4 H.length rfl rfl rfl rfl (by kernel_rfl) (by kernel_rfl) (by simp) (Nat.le_refl _) ?_
 refine sq ?_
 refine at_regK [1] rfl ?_
 try simp [h00, o_i, f_a]
 refine sq ?_
 refine at_regK [2] rfl ?_
 try simp [h00, o_i, f_a]
 refine at_leads (leads_pin 0 rfl) ?_
 simp [AS.pinned]
 refine at_ret (by kernel_rfl) ?_
 try simp [h00, o_i, f_a]

theorem okH_pm {H : List AO} (h : okH H) (n : Nat) (hn : H.length ≤ n) : ∀ o ∈ H, o.ok (pm n) = true := by
 intro o ho
 have key : ∀ q, okH (H ++ List.replicate q .dead) := by
  intro q
  induction q with
  | zero => simpa using h
  | succ q ih => rw [List.replicate_succ', ← List.append_assoc]; exact okH_push ih rfl
 have := key (n - H.length) o (by simp [ho])
 rwa [show (H ++ List.replicate (n - H.length) AO.dead).length = n by simp; omega] at this
@[simp] theorem oks_tiesM (p : Bool → Nat → Bool) (l : List Tie) : AV.oks p (l.map eTie) = true := by
 rw [oks_eq, List.all_eq_true]
 intro v hv
 obtain ⟨t, _, rfl⟩ := List.mem_map.1 hv
 simp
@[simp] theorem asTI_at (x : X) (l : Nat) (t : TypeId) (K : TI → Prop) : asTI (x.at l) t K = asTI x t K := rfl

theorem c167 (k : Kn) (hk : Few k) (lo : Lo k) : ConR E 167 [.nilS, .func (.func 168) [] [.pin (eKn k)]] (fun n => .own false n (tiesM k).length) [.row 4 ((tiesM k).map eTie)] := by
 intro n H hH
 have h00 := hh3 hH
 have ⟨hHs, hH', hpl⟩ := h00
 have h0 : ∀ j k', H.map (mvO j k') = H := mvO_map hH
 refine at_startU (fn := Tryz.f167) [.tmp 4] 13 H.length H.length rfl rfl rfl rfl (by kernel_rfl) (by kernel_rfl) (by simp) (Nat.le_refl _) ?_
 refine sq ?_
 refine at_regK [1, 2] rfl ?_
 try simp [h00, o_i, f_a]
 refine sq ?_
 refine sq ?_
 refine at_regK [2, 6] rfl ?_
 try simp [h00, o_i, f_a]
 refine at_leads (leads_nilC 0 4 [] rfl rfl rfl (by decide)) ?_
 refine at_leads (leads_share 1 rfl rfl) ?_
 simp [AS.share, h0, mvV_id]
 refine at_leads (leads_share 0 rfl rfl) ?_
 simp [AS.share, h0, mvV_id]
 refine at_block rfl ?_
 refine at_range rfl rfl (by simp) (by simp) (by simp) (by simp [hHs, or_imp, forall_and]) ?_
 intro f'
 simp
 obtain ⟨r, hr⟩ : ∃ r : LRec, r = ⟨f', 13, [(2, .ref true (H.length + 1) 0 [] 0), (6, .func (.func 168) [] [.pin (eKn k)])], [7], at' Tryz.f167 [0, 0, 1, 0, 1], at' Tryz.f167 [1, 0, 1, 0, 1], .ready, none⟩ := ⟨_, rfl⟩
 have hl : ∀ i, (H ++ [AO.row 4 (((tiesM k).take i).map eTie), .cell (.own true H.length ((tiesM k).take i).length), .lrec r]).length = H.length + 3 := fun i => by simp
 have hs : ∀ i, okH (H ++ [AO.row 4 (((tiesM k).take i).map eTie), .cell (.own true H.length ((tiesM k).take i).length), .lrec r]) := by
  intro i
  rw [okH, hl, hr]
  rw [List.forall_mem_append]
  refine ⟨okH_pm hH _ (by omega), ?_⟩
  simp only [AO.ok, oks_tiesM, List.forall_mem_cons]
  simp [pm, LRec.ok]
 rw [← hr]
 have key := c168 k hk lo (H.length + 2) 2 (H.length + 3) (by omega) (fun i => H ++ [AO.row 4 (((tiesM k).take i).map eTie), .cell (.own true H.length ((tiesM k).take i).length), .lrec r]) (fun _ => true) hs hl ?_
 ·refine key.of_is ?_
  rw [stopN_true _ _ _ (fun _ _ _ => rfl)]
  simp [rangeEnd, hr]
  refine sq ?_
  refine at_regK [4] rfl ?_
  simp
  refine at_ret (by kernel_rfl) ?_
  simp [FOutU, AS.unshare, mwV, AV.locs, AV.outR, pickR, hH']
 ·intro i t ht _ X hX
  have ht' : (tiesM k).take (i + 1) = (tiesM k).take i ++ [t] := by rw [List.take_add_one, ht]; rfl
  refine ycall_round (r := r) (by simp) (by rw [hr]) (by rw [hr]; rfl) (by rw [hr]; simp) (by rw [hr]; kernel_rfl) (by rw [hr]; kernel_rfl) ?_
  intro l
  rw [hr]
  simp [bindT]
  have hXs : (∀ o ∈ X, o.ok shd = true) ↔ True := iff_true_intro fun o ho => okH_shd hX o (by simp [ho])
  have hi := (List.getElem?_eq_some_iff.1 ht).1
  have hm : min i (tiesM k).length = i := by omega
  have hm1 : min (i + 1) (tiesM k).length = i + 1 := by omega
  simp only [hm, hm1]
  refine at_regK [2, 5] rfl ?_
  simp [hHs, hXs, or_imp, forall_and]
  refine at_block rfl ?_
  refine at_regK [] rfl ?_
  simp [hHs, hXs, or_imp, forall_and]
  have hL := tiesLen k
  have := hk.l; have := hk.d; have := hk.w
  have ht2 : List.take (i + 1) ((tiesM k).map eTie) = List.take i ((tiesM k).map eTie) ++ [eTie t] := by rw [← List.map_take, ht', ← List.map_take, List.map_append]; rfl
  refine ⟨hm, by omega, ?_⟩
  rw [hm, ht2]
  simp [RPost, or_imp, forall_and, hHs, hXs, LRec.ok]
  rw [← List.map_take, oks_tiesM]

theorem c124 (k : Kn) (hk : Few k) (lo : Lo k) : ConR E 124 [.func (.func 168) [] [.pin (eKn k)]] (fun n => .own false n (tiesM k).length) [.row 4 ((tiesM k).map eTie)] := by
 intro n H hH
 have h00 := hh3 hH
 have ⟨hHs, hH', hpl⟩ := h00
 refine at_start (fn := Tryz.f124) [.tmp 2] 5 H.length rfl rfl rfl rfl (by kernel_rfl) (by kernel_rfl) (by simp) (Nat.le_refl _) ?_
 refine sq ?_
 refine at_regK [0] rfl ?_
 try simp [h00, o_i, f_a]
 refine sq ?_
 refine at_regK [2] rfl ?_
 try simp [h00, o_i, f_a]
 refine (c167 _ hk lo).use hH ?_
 try simp [h00, o_i, f_a]
 refine at_ret (by kernel_rfl) ?_
 try simp [h00, o_i, f_a]
end Go.Abs
/- Encodings: the net, heights, truths. -/
set_option linter.unusedVariables false
set_option linter.unusedSimpArgs false
namespace Go.Abs
open Go.RowKit Go.Proofs Go.Shaft
variable (p : Bool → Nat → Bool) (q : List Nat)

def eNet (x : Nt) : AV := .agg [I x.n, eTies x.links]
@[simp] theorem eNet_ok (x : Nt) : (eNet x).ok p = true := by simp [eNet, AV.ok, AV.oks]
@[simp] theorem eNet_solid (x : Nt) : (eNet x).solid = true := rfl
@[simp] theorem eNet_agg (x : Nt) : (eNet x).isAgg = true := rfl
@[simp] theorem eNet_size (x : Nt) : (eNet x).size = 2 := rfl
@[simp] theorem eNet_notTup (x : Nt) : notTup (eNet x) = true := rfl
@[simp] theorem eNet_0 (x : Nt) : (eNet x).sub (0 :: q) = ((I x.n).sub q).map fun r => (r.1, 0 + r.2) := rfl
@[simp] theorem eNet_1 (x : Nt) : (eNet x).sub (1 :: q) = ((eTies x.links).sub q).map fun r => (r.1, 1 + r.2) := rfl
@[simp] theorem loc_eNet (x : Nt) (m : Nat) : (eNet x).locs m = [] := (pure_out (by simp) [] 0 m).1
@[simp] theorem out_eNet (x : Nt) (js : List Nat) (n m : Nat) : (eNet x).outR js n m = some (eNet x) := (pure_out (by simp) js n m).2
@[simp] theorem frz_get0 (n : Nat) (R : List AO) : (List.replicate n AO.dead ++ R)[n]? = R[0]? := by rw [List.getElem?_append_right (by simp)]; simp
@[simp] theorem frz_get1 (n i : Nat) (R : List AO) : (List.replicate n AO.dead ++ R)[n + i]? = R[i]? := by rw [List.getElem?_append_right (by simp)]; simp
@[simp] theorem frz_set0 (n : Nat) (R : List AO) (o : AO) : (List.replicate n AO.dead ++ R).set n o = List.replicate n AO.dead ++ R.set 0 o := by rw [List.set_append_right _ _ (by simp)]; simp
@[simp] theorem frz_set1 (n i : Nat) (R : List AO) (o : AO) : (List.replicate n AO.dead ++ R).set (n + i) o = List.replicate n AO.dead ++ R.set i o := by rw [List.set_append_right _ _ (by simp)]; simp
@[simp] theorem oks_lds (p : Bool → Nat → Bool) (l : List Ld) : AV.oks p (l.map eLd) = true := oks_map p _ (fun a => eLd_ok p a) l
@[simp] theorem oks_wgs (p : Bool → Nat → Bool) (l : List Wg) : AV.oks p (l.map eWg) = true := oks_map p _ (fun a => eWg_ok p a) l
@[simp] theorem oks_ints (p : Bool → Nat → Bool) (l : List Int) : AV.oks p (l.map I) = true := oks_map p _ (fun a => by rw [AV.ok]; all_goals simp) l
@[simp] theorem oks_rep (p : Bool → Nat → Bool) (n : Nat) (a : Int) : AV.oks p (List.replicate n (I a)) = true := by rw [show List.replicate n (I a) = (List.replicate n a).map I by simp]; exact oks_ints p _
end Go.Abs
/- How arguments are read: the bridge to the statements. -/
set_option linter.unusedVariables false
set_option linter.unusedSimpArgs false
set_option maxRecDepth 100000
namespace Go.Abs
open Go.ChangeShapes Go.WideShapes Go.ChangeAt Go.RowKit Go.Proofs Go.Shaft

/-- What a call finds: all memory is fixed, nothing is one's own. -/
def argC (W : World) : Cx := ⟨W, fun m => m < W.heap.size, fun _ _ _ => none⟩
theorem argC_mem (W : World) : MemR (argC W) (mem [] []) :=
  ⟨fun sh j o pl h => by cases sh <;> simp [mem] at h, fun sh j ver pl h => by simp [argC] at h, fun sh j sh' j' m h => by
    obtain ⟨o, a, cap, h1, _⟩ := h
    cases sh <;> simp [mem] at h1, fun sh j m h => by
    obtain ⟨o, a, cap, h1, _⟩ := h
    cases sh <;> simp [mem] at h1, fun m h => h⟩

/-- What is read at a type is one of some values. -/
def Rd (P : Program) (W : World) (t : TypeId) (S : AV → Prop) : Prop :=
  ∀ (H : Type) (enc : TypeId × Value → H) (sp : Nat → Bool) (held : Bool) (fuel : Nat) (cs : List Value) (x : DataW H × List MemPlace), DataW.trod enc P W 0 sp held fuel t cs = some x → ∃ v, S v ∧ CR (argC W) v cs

theorem rd_int {P : Program} {W : World} {t : TypeId} {k : IntKind} (ht : P.underlying t = some (.int k)) : Rd P W t (fun v => ∃ n, v = .int k n ∧ (Lit.int k n).wf = true) := by
  intro H enc sp held fuel cs x h
  obtain ⟨n, rfl, _, hw⟩ := DataW.trod_int ht h
  exact ⟨.int k n, ⟨n, rfl, hw⟩, by rw [CR]; all_goals simp⟩

theorem mapM_some {α β : Type} {f : α → Option β} : ∀ {l : List α} {r : List β}, l.mapM f = some r → r.length = l.length ∧ ∀ (i : Nat) (a : α), l[i]? = some a → f a = r[i]? := by
  intro l
  induction l with
  | nil => intro r h; simp at h; subst h; simp
  | cons y l ih =>
    intro r h
    rw [List.mapM_cons] at h
    simp only [Option.pure_def, Option.bind_eq_bind, Option.bind_eq_some_iff] at h
    obtain ⟨z, hz, r', hr', e⟩ := h
    cases e
    obtain ⟨h1, h2⟩ := ih hr'
    refine ⟨by simp [h1], fun i a ha => ?_⟩
    cases i with
    | zero => simp at ha; subst ha; simpa using hz
    | succ i => simpa using h2 i a (by simpa using ha)

theorem cells_at {w : World} {a : Addr} {n : Nat} {xs : List Value} (h : w.cells? 0 a n = some xs) : xs.length = n ∧ ∀ (i : Nat), i < n → w.cell? (a.add i) = xs[i]? := by
  unfold World.cells? at h
  rw [if_pos (Nat.zero_le _)] at h
  obtain ⟨h1, h2⟩ := mapM_some h
  exact ⟨by simpa using h1, fun i hi => h2 i i (by simp [hi])⟩

theorem choose_list {α : Type} {p : Nat → α → Prop} : ∀ (n : Nat), (∀ i, i < n → ∃ a, p i a) → ∃ l : List α, l.length = n ∧ ∀ i a, l[i]? = some a → p i a
  | 0, _ => ⟨[], rfl, by simp⟩
  | n + 1, h => by
    obtain ⟨l, h1, h2⟩ := choose_list n (fun i hi => h i (by omega))
    obtain ⟨a, ha⟩ := h n (by omega)
    refine ⟨l ++ [a], by simp [h1], fun i b hb => ?_⟩
    rcases Nat.lt_or_ge i l.length with hi | hi
    · rw [List.getElem?_append_left hi] at hb
      exact h2 i b hb
    · rw [List.getElem?_append_right hi] at hb
      have : i - l.length = 0 := by
        have := (List.getElem?_eq_some_iff.1 hb).1
        simp at this
        omega
      rw [this] at hb
      simp at hb
      subst hb
      rw [show i = n by omega]
      exact ha

theorem flat_at {sz : Nat} : ∀ {css : List (List Value)}, (∀ c ∈ css, c.length = sz) → ∀ (k : Nat) (u : Value), css.flatten[k]? = some u → ∃ (i j : Nat) (c : List Value), k = i * sz + j ∧ j < sz ∧ css[i]? = some c ∧ c[j]? = some u
  | [], _, k, u, h => by simp at h
  | c :: css, hl, k, u, h => by
    have hc := hl c List.mem_cons_self
    rw [List.flatten_cons] at h
    rcases Nat.lt_or_ge k c.length with hk | hk
    · rw [List.getElem?_append_left hk] at h
      exact ⟨0, k, c, by omega, by omega, by simp, h⟩
    · rw [List.getElem?_append_right hk] at h
      obtain ⟨i, j, d, e, hj, h1, h2⟩ := flat_at (fun d hd => hl d (List.mem_cons_of_mem _ hd)) (k - c.length) u h
      exact ⟨i + 1, j, d, by rw [Nat.add_mul]; omega, hj, by simpa using h1, h2⟩

theorem rd_slice {P : Program} {W : World} {t e : TypeId} {sz : Nat} {S : AV → Prop} (ht : P.underlying t = some (.slice e)) (hs : P.cellsOf e = sz) (h0 : 0 < sz) (hr : Rd P W e S) (hz : ∀ v, S v → v.size = sz) : Rd P W t (fun v => ∃ vs, (∀ u ∈ vs, S u) ∧ v = .lit sz vs) := by
  intro H enc sp held fuel cs x h
  rcases DataW.trod_slice ht h with ⟨rfl, _⟩ | ⟨a, len, cap, elems, rest, n, _, rfl, _, hb, hl, hm, hlen, hel, _, _⟩
  · refine ⟨.lit sz [], ⟨[], by simp, rfl⟩, ?_⟩
    rw [CR]
    · exact ⟨by simp, none, 0, [], by simp [CRs], by simp, by simp, by decide, by simp⟩
  · have each : ∀ i, i < len → ∃ q : AV × List Value, S q.1 ∧ CR (argC W) q.1 q.2 ∧ q.2.length = sz ∧ ∀ j, j < sz → W.cell? (a.add (i * sz + j)) = q.2[j]? := by
      intro i hi
      have hy := hel i hi
      rw [List.getElem?_eq_getElem (by omega), Option.bind_eq_some_iff, hs] at hy
      obtain ⟨xs, h1, h2⟩ := hy
      obtain ⟨c1, c2⟩ := cells_at h1
      obtain ⟨v, hv, hc⟩ := hr H enc sp held _ _ _ h2
      refine ⟨(v, xs), hv, hc, c1, fun j hj => ?_⟩
      have := c2 j hj
      rwa [add_add] at this
    obtain ⟨qs, hq, hqs⟩ := choose_list len each
    refine ⟨.lit sz (qs.map (·.1)), ⟨_, ?_, rfl⟩, ?_⟩
    · intro u hu
      obtain ⟨q, hq', rfl⟩ := List.mem_map.1 hu
      obtain ⟨i, hi⟩ := List.getElem?_of_mem hq'
      exact (hqs i q hi).1
    · rw [CR]
      · refine ⟨?_, some a, cap, qs.map (·.2), ?_, by simp [hq], by simp [hq]; omega, hm, ?_⟩
        · intro u hu
          obtain ⟨q, hq', rfl⟩ := List.mem_map.1 hu
          obtain ⟨i, hi⟩ := List.getElem?_of_mem hq'
          exact hz _ (hqs i q hi).1
        · rw [CRs_iff]
          refine ⟨by simp, fun i v y hv hy => ?_⟩
          rw [List.getElem?_map, Option.map_eq_some_iff] at hv hy
          obtain ⟨q, h1, rfl⟩ := hv
          obtain ⟨q', h2, rfl⟩ := hy
          rw [h1] at h2
          cases h2
          exact (hqs i q h1).2.1
        · intro hne
          have hall : ∀ (k : Nat) (u : Value), (qs.map (·.2)).flatten[k]? = some u → W.cell? (a.add k) = some u := by
            intro k u hk
            obtain ⟨i, j, c, rfl, hj, h1, h2⟩ := flat_at (sz := sz) (fun c hc => by
              obtain ⟨q, hq', rfl⟩ := List.mem_map.1 hc
              obtain ⟨i, hi⟩ := List.getElem?_of_mem hq'
              exact (hqs i q hi).2.2.1) k u hk
            rw [List.getElem?_map, Option.map_eq_some_iff] at h1
            obtain ⟨q, h1, rfl⟩ := h1
            rw [(hqs i q h1).2.2.2 j hj, h2]
          refine ⟨a, rfl, ?_, hall⟩
          obtain ⟨q, hq0⟩ : ∃ q, qs[0]? = some q := by
            cases hqe : qs with
            | nil => rw [hqe] at hne; simp at hne
            | cons q r => exact ⟨q, rfl⟩
          have h3 := (hqs 0 q hq0).2.2.2 0 h0
          have h4 := (hqs 0 q hq0).2.2.1
          rw [List.getElem?_eq_getElem (by omega)] at h3
          have h5 : (a.add (0 * sz + 0)).block < W.heap.size := by
            rcases Nat.lt_or_ge (a.add (0 * sz + 0)).block W.heap.size with h | h
            · exact h
            · exfalso
              rw [World.cell?, Array.getElem?_eq_none h] at h3
              cases h3
          rwa [block_add] at h5

/-- Fields, one behind the other. -/
def LaidP (P : Program) : Nat → List (Field × (AV → Prop)) → Nat → Prop
  | off, [], fin => off = fin
  | off, p :: ps, fin => p.1.offset = off ∧ LaidP P (off + P.cellsOf p.1.type) ps fin
def All2 : List AV → List (Field × (AV → Prop)) → Prop
  | [], [] => True
  | v :: vs, p :: ps => p.2 v ∧ All2 vs ps
  | _, _ => False
theorem rd_fields {P : Program} {W : World} {H : Type} {enc : TypeId × Value → H} {sp : Nat → Bool} {held : Bool} {n : Nat} {cs : List Value} : ∀ (ps : List (Field × (AV → Prop))) (off : Nat), LaidP P off ps cs.length → (∀ p ∈ ps, Rd P W p.1.type p.2) → (∀ p ∈ ps, ∃ x, DataW.trod enc P W 0 sp held n p.1.type ((cs.drop p.1.offset).take (P.cellsOf p.1.type)) = some x) →
    ∃ vs, All2 vs ps ∧ ∃ css, CRs (argC W) vs css ∧ cs.drop off = css.flatten
  | [], off, hl, _, _ => ⟨[], trivial, [], by simp [CRs], by rw [LaidP] at hl; subst hl; simp⟩
  | p :: ps, off, hl, hr, hx => by
    obtain ⟨h1, h2⟩ := hl
    obtain ⟨vs, ha, css, hc, hd⟩ := rd_fields ps _ h2 (fun q hq => hr q (List.mem_cons_of_mem _ hq)) (fun q hq => hx q (List.mem_cons_of_mem _ hq))
    obtain ⟨x, hx0⟩ := hx p List.mem_cons_self
    obtain ⟨v, hv, hcv⟩ := hr p List.mem_cons_self H enc sp held _ _ _ hx0
    refine ⟨v :: vs, ⟨hv, ha⟩, ((cs.drop p.1.offset).take (P.cellsOf p.1.type)) :: css, ?_, ?_⟩
    · rw [CRs]; exact ⟨_, _, rfl, hcv, hc⟩
    · rw [List.flatten_cons, ← hd, h1, ← List.drop_drop, List.take_append_drop]
theorem rd_struct {P : Program} {W : World} {t : TypeId} {fs : Array Field} (ps : List (Field × (AV → Prop))) (ht : P.underlying t = some (.struct fs)) (hfs : ps.map (·.1) = fs.toList) (hl : LaidP P 0 ps (P.cellsOf t)) (hr : ∀ p ∈ ps, Rd P W p.1.type p.2) : Rd P W t (fun v => ∃ vs, All2 vs ps ∧ v = .agg vs) := by
  intro H enc sp held fuel cs x h
  obtain ⟨xs, n, _, _, hlen, hxl, hel⟩ := DataW.trod_struct ht h
  obtain ⟨vs, ha, css, hc, hd⟩ := rd_fields (P := P) (W := W) (enc := enc) (sp := sp) (held := held) (n := n) (cs := cs) ps 0 (by rw [hlen]; exact hl) hr (by
    intro p hp
    have hm : p.1 ∈ fs.toList := by rw [← hfs]; exact List.mem_map_of_mem hp
    obtain ⟨i, hi⟩ := List.getElem?_of_mem hm
    have hif : fs[i]? = some p.1 := by simpa using hi
    have := hel i p.1 hif
    have hil := (Array.getElem?_eq_some_iff.1 hif).1
    rw [List.getElem?_eq_getElem (by omega)] at this
    exact ⟨_, this⟩)
  refine ⟨.agg vs, ⟨vs, ha, rfl⟩, ?_⟩
  rw [CR]
  · exact ⟨css, hc, by simpa using hd⟩
theorem Rd.weak {P : Program} {W : World} {t : TypeId} {S S' : AV → Prop} (h : Rd P W t S) (hs : ∀ v, S v → S' v) : Rd P W t S' := fun H enc sp held fuel cs x hx => by
  obtain ⟨v, h1, h2⟩ := h H enc sp held fuel cs x hx
  exact ⟨v, hs v h1, h2⟩
/-- A list of encoded ones is the code of a list. -/
theorem list_of {α : Type} {f : α → AV} : ∀ {vs : List AV}, (∀ u ∈ vs, ∃ a, u = f a) → ∃ l : List α, vs = l.map f
  | [], _ => ⟨[], rfl⟩
  | v :: vs, h => by
    obtain ⟨a, rfl⟩ := h v List.mem_cons_self
    obtain ⟨l, rfl⟩ := list_of fun u hu => h u (List.mem_cons_of_mem _ hu)
    exact ⟨a :: l, rfl⟩
theorem all2_2 {vs : List AV} {f g : Field} {S T : AV → Prop} (h : All2 vs [(f, S), (g, T)]) : ∃ a b, vs = [a, b] ∧ S a ∧ T b := by
  match vs, h with
  | [a, b], ⟨h1, h2, _⟩ => exact ⟨a, b, rfl, h1, h2⟩
theorem all2_3 {vs : List AV} {f g i : Field} {S T U : AV → Prop} (h : All2 vs [(f, S), (g, T), (i, U)]) : ∃ a b c, vs = [a, b, c] ∧ S a ∧ T b ∧ U c := by
  match vs, h with
  | [a, b, c], ⟨h1, h2, h3, _⟩ => exact ⟨a, b, c, rfl, h1, h2, h3⟩
theorem all2_5 {vs : List AV} {f g i j k : Field} {S T U V X : AV → Prop} (h : All2 vs [(f, S), (g, T), (i, U), (j, V), (k, X)]) : ∃ a b c d e, vs = [a, b, c, d, e] ∧ S a ∧ T b ∧ U c ∧ V d ∧ X e := by
  match vs, h with
  | [a, b, c, d, e], ⟨h1, h2, h3, h4, h5, _⟩ => exact ⟨a, b, c, d, e, rfl, h1, h2, h3, h4, h5⟩
end Go.Abs
/- The readings of the shaft's types, and the last step of every statement. -/
set_option linter.unusedVariables false
set_option linter.unusedSimpArgs false
set_option maxRecDepth 100000
namespace Go.Abs
open Go.ChangeShapes Go.WideShapes Go.ChangeAt Go.RowKit Go.Proofs Go.Shaft

theorem cl3 : Tryz.prog.cellsOf 3 = 1 := by kernel_rfl
theorem cl22 : Tryz.prog.cellsOf 22 = 1 := by kernel_rfl
theorem cl23 : Tryz.prog.cellsOf 23 = 1 := by kernel_rfl
theorem cl24 : Tryz.prog.cellsOf 24 = 1 := by kernel_rfl
theorem cl26 : Tryz.prog.cellsOf 26 = 5 := by kernel_rfl
theorem cl30 : Tryz.prog.cellsOf 30 = 2 := by kernel_rfl
theorem cl42 : Tryz.prog.cellsOf 42 = 4 := by kernel_rfl
theorem cl45 : Tryz.prog.cellsOf 45 = 6 := by kernel_rfl
theorem cl46 : Tryz.prog.cellsOf 46 = 1 := by kernel_rfl
theorem cl48 : Tryz.prog.cellsOf 48 = 2 := by kernel_rfl
theorem cl52 : Tryz.prog.cellsOf 52 = 4 := by kernel_rfl
theorem cl85 : Tryz.prog.cellsOf 85 = 4 := by kernel_rfl
def SI (v : AV) : Prop := ∃ x : Int, v = I x
def SLds (v : AV) : Prop := ∃ x : List Ld, v = eLds x
def SWgs (v : AV) : Prop := ∃ x : List Wg, v = eWgs x
def SKn (v : AV) : Prop := ∃ x : Kn, v = eKn x
def SLd (v : AV) : Prop := ∃ x : Ld, v = eLd x
def SWg (v : AV) : Prop := ∃ x : Wg, v = eWg x
def SSp (v : AV) : Prop := ∃ x : Sp, v = eSp x
def SInts (v : AV) : Prop := ∃ x : List Int, v = eInts x
theorem rd3 (W : World) : Rd Tryz.prog W 3 SI := (rd_int Tryz.underlying3).weak fun v ⟨n, h, _⟩ => ⟨n, h⟩
theorem rd30 (W : World) : Rd Tryz.prog W 30 SSp := by
  refine (rd_struct [({ name := "Lo", type := 3, offset := 0, embedded := false, tag := "", pkgPath := "", byteOffset := 0 }, SI), ({ name := "Hi", type := 3, offset := 1, embedded := false, tag := "", pkgPath := "", byteOffset := 8 }, SI)] Tryz.underlying30 rfl (by simp [LaidP, cl3, cl22, cl23, cl24, cl26, cl30, cl42, cl45, cl46, cl48, cl52, cl85]) ?_).weak ?_
  · intro p hp
    simp only [List.mem_cons, List.not_mem_nil, or_false] at hp
    rcases hp with rfl | rfl
    · exact rd3 W
    · exact rd3 W
  · rintro v ⟨vs, h, rfl⟩
    obtain ⟨_, _, rfl, ⟨a, rfl⟩, ⟨b, rfl⟩⟩ := all2_2 h
    exact ⟨⟨a, b⟩, rfl⟩
theorem rd42 (W : World) : Rd Tryz.prog W 42 SLd := by
  refine (rd_struct [({ name := "ID", type := 3, offset := 0, embedded := false, tag := "", pkgPath := "", byteOffset := 0 }, SI), ({ name := "Hour", type := 3, offset := 1, embedded := false, tag := "", pkgPath := "", byteOffset := 8 }, SI), ({ name := "Weight", type := 30, offset := 2, embedded := false, tag := "", pkgPath := "", byteOffset := 16 }, SSp)] Tryz.underlying42 rfl (by simp [LaidP, cl3, cl22, cl23, cl24, cl26, cl30, cl42, cl45, cl46, cl48, cl52, cl85]) ?_).weak ?_
  · intro p hp
    simp only [List.mem_cons, List.not_mem_nil, or_false] at hp
    rcases hp with rfl | rfl | rfl
    · exact rd3 W
    · exact rd3 W
    · exact rd30 W
  · rintro v ⟨vs, h, rfl⟩
    obtain ⟨_, _, _, rfl, ⟨a, rfl⟩, ⟨b, rfl⟩, ⟨c, rfl⟩⟩ := all2_3 h
    exact ⟨⟨a, b, c⟩, rfl⟩
theorem rd52 (W : World) : Rd Tryz.prog W 52 SLd := by
  refine (rd_struct [({ name := "ID", type := 3, offset := 0, embedded := false, tag := "", pkgPath := "", byteOffset := 0 }, SI), ({ name := "Hour", type := 3, offset := 1, embedded := false, tag := "", pkgPath := "", byteOffset := 8 }, SI), ({ name := "Weight", type := 30, offset := 2, embedded := false, tag := "", pkgPath := "", byteOffset := 16 }, SSp)] Tryz.underlying52 rfl (by simp [LaidP, cl3, cl22, cl23, cl24, cl26, cl30, cl42, cl45, cl46, cl48, cl52, cl85]) ?_).weak ?_
  · intro p hp
    simp only [List.mem_cons, List.not_mem_nil, or_false] at hp
    rcases hp with rfl | rfl | rfl
    · exact rd3 W
    · exact rd3 W
    · exact rd30 W
  · rintro v ⟨vs, h, rfl⟩
    obtain ⟨_, _, _, rfl, ⟨a, rfl⟩, ⟨b, rfl⟩, ⟨c, rfl⟩⟩ := all2_3 h
    exact ⟨⟨a, b, c⟩, rfl⟩
theorem rd45 (W : World) : Rd Tryz.prog W 45 SWg := by
  refine (rd_struct [({ name := "ID", type := 3, offset := 0, embedded := false, tag := "", pkgPath := "", byteOffset := 0 }, SI), ({ name := "Kind", type := 3, offset := 1, embedded := false, tag := "", pkgPath := "", byteOffset := 8 }, SI), ({ name := "From", type := 3, offset := 2, embedded := false, tag := "", pkgPath := "", byteOffset := 16 }, SI), ({ name := "To", type := 3, offset := 3, embedded := false, tag := "", pkgPath := "", byteOffset := 24 }, SI), ({ name := "Sum", type := 30, offset := 4, embedded := false, tag := "", pkgPath := "", byteOffset := 32 }, SSp)] Tryz.underlying45 rfl (by simp [LaidP, cl3, cl22, cl23, cl24, cl26, cl30, cl42, cl45, cl46, cl48, cl52, cl85]) ?_).weak ?_
  · intro p hp
    simp only [List.mem_cons, List.not_mem_nil, or_false] at hp
    rcases hp with rfl | rfl | rfl | rfl | rfl
    · exact rd3 W
    · exact rd3 W
    · exact rd3 W
    · exact rd3 W
    · exact rd30 W
  · rintro v ⟨vs, h, rfl⟩
    obtain ⟨_, _, _, _, _, rfl, ⟨a, rfl⟩, ⟨b, rfl⟩, ⟨c, rfl⟩, ⟨d, rfl⟩, ⟨e, rfl⟩⟩ := all2_5 h
    exact ⟨⟨a, b, c, d, e⟩, rfl⟩
theorem rd22 (W : World) : Rd Tryz.prog W 22 SLds := by
  refine (rd_slice Tryz.underlying22 (show Tryz.prog.cellsOf 42 = 4 by kernel_rfl) (by decide) (rd42 W) ?_).weak ?_
  · rintro v ⟨x, rfl⟩; rfl
  · rintro v ⟨vs, h, rfl⟩
    obtain ⟨l, rfl⟩ := list_of h
    exact ⟨l, rfl⟩
theorem rd23 (W : World) : Rd Tryz.prog W 23 SLds := by
  refine (rd_slice Tryz.underlying23 (show Tryz.prog.cellsOf 52 = 4 by kernel_rfl) (by decide) (rd52 W) ?_).weak ?_
  · rintro v ⟨x, rfl⟩; rfl
  · rintro v ⟨vs, h, rfl⟩
    obtain ⟨l, rfl⟩ := list_of h
    exact ⟨l, rfl⟩
theorem rd24 (W : World) : Rd Tryz.prog W 24 SWgs := by
  refine (rd_slice Tryz.underlying24 (show Tryz.prog.cellsOf 45 = 6 by kernel_rfl) (by decide) (rd45 W) ?_).weak ?_
  · rintro v ⟨x, rfl⟩; rfl
  · rintro v ⟨vs, h, rfl⟩
    obtain ⟨l, rfl⟩ := list_of h
    exact ⟨l, rfl⟩
theorem rd46 (W : World) : Rd Tryz.prog W 46 SInts := by
  refine (rd_slice Tryz.underlying46 (show Tryz.prog.cellsOf 3 = 1 by kernel_rfl) (by decide) (rd3 W) ?_).weak ?_
  · rintro v ⟨x, rfl⟩; rfl
  · rintro v ⟨vs, h, rfl⟩
    obtain ⟨l, rfl⟩ := list_of h
    exact ⟨l, rfl⟩
theorem rd26 (W : World) : Rd Tryz.prog W 26 SKn := by
  refine (rd_struct [({ name := "Room", type := 3, offset := 0, embedded := false, tag := "", pkgPath := "", byteOffset := 0 }, SI), ({ name := "PerFoot", type := 3, offset := 1, embedded := false, tag := "", pkgPath := "", byteOffset := 8 }, SI), ({ name := "Loads", type := 22, offset := 2, embedded := false, tag := "", pkgPath := "", byteOffset := 16 }, SLds), ({ name := "Draws", type := 23, offset := 3, embedded := false, tag := "", pkgPath := "", byteOffset := 40 }, SLds), ({ name := "Weighs", type := 24, offset := 4, embedded := false, tag := "", pkgPath := "", byteOffset := 64 }, SWgs)] Tryz.underlying26 rfl (by simp [LaidP, cl3, cl22, cl23, cl24, cl26, cl30, cl42, cl45, cl46, cl48, cl52, cl85]) ?_).weak ?_
  · intro p hp
    simp only [List.mem_cons, List.not_mem_nil, or_false] at hp
    rcases hp with rfl | rfl | rfl | rfl | rfl
    · exact rd3 W
    · exact rd3 W
    · exact rd22 W
    · exact rd23 W
    · exact rd24 W
  · rintro v ⟨vs, h, rfl⟩
    obtain ⟨_, _, _, _, _, rfl, ⟨a, rfl⟩, ⟨b, rfl⟩, ⟨c, rfl⟩, ⟨d, rfl⟩, ⟨e, rfl⟩⟩ := all2_5 h
    exact ⟨⟨a, b, c, d, e⟩, rfl⟩
/-- An argument that is read is one of the values that its type has. -/
theorem arg_of {W : World} {t : TypeId} {S : AV → Prop} (hr : Rd Tryz.prog W t S) {H : Type} {enc : TypeId × Value → H} {v : Value} {d : DataW H} {ps : List MemPlace} (hd : DataW.Trod enc Tryz.prog W 0 (fun _ => true) true t v d ps)
    (hv : ∀ u : AV, S u → ∀ cs, CR (argC W) u cs → v.cells.toList = cs → v = vOf u cs) : ∃ u, S u ∧ VR1 (argC W) u v := by
  obtain ⟨fuel, h⟩ := hd
  obtain ⟨u, hu, hc⟩ := hr H enc _ _ _ _ _ h
  exact ⟨u, hu, _, hc, hv u hu _ hc rfl⟩
theorem val_agg {W : World} {t : TypeId} {fs : Array Field} {r : Reach} {base : Nat} {v : Value} (ht : Tryz.prog.underlying t = some (.struct fs)) (h : Value.okWide Tryz.prog W r base t v) {u : AV} (hu : u.isAgg = true) {cs : List Value} (hc : v.cells.toList = cs) : v = vOf u cs := by
  obtain ⟨xs, rfl, _⟩ := okWide_struct ht h
  rw [vOf, if_pos hu, ← hc]
  simp [Value.cells]
theorem val_slice {W : World} {t e : TypeId} {r : Reach} {base : Nat} {v : Value} (ht : Tryz.prog.underlying t = some (.slice e)) (h : Value.okWide Tryz.prog W r base t v) {u : AV} (hu : u.isAgg = false) {cs : List Value} (hc : v.cells.toList = cs) : v = vOf u cs := by
  obtain ⟨a, len, cap, rfl⟩ := okWide_slice ht h
  rw [vOf, if_neg (by simp [hu]), ← hc]
  simp [Value.cells]
theorem VR_of1 {c : Cx} {u : AV} {m : Value} (h : VR1 c u m) (hn : notTup u = true) : VR c u m := by
  cases u <;> first | trivial | exact h | (simp [notTup] at hn)

/-- From a contract to a call. -/
theorem bridge {f : FuncId} {us : List AV} {W : World} {ms : List Value} (hc : Con E f us (.bool true)) (hl : us.length = ms.length) (hv : ∀ (i : Nat) (v : AV) (m : Value), us[i]? = some v → ms[i]? = some m → VR (argC W) v m) :
    Calls Tryz.prog f ms.toArray W fun e W' => e = .returned (.bool true) ∧ Below W.heap.size W W' := by
  refine ((hc 0 [] (by simp [okH])).2 (argC W) ms (argC_mem W) hl hv).mono ?_
  rintro e W' ⟨m, r, R, H', d, rfl, rfl, ⟨rfl, rfl, rfl⟩, hr, hM, hE, _, _⟩
  refine ⟨?_, hE.os, hE.tape, hE.output, hE.size, fun k hk => hE.same k hk (fun j h => ?_)⟩
  · obtain ⟨cs, h1, rfl⟩ := hr
    rw [CR] at h1
    · rw [h1]; rfl
  · obtain ⟨o, a, cap, h1, _⟩ := h
    simp [mem] at h1

section
variable {H : Type} {enc : TypeId × Value → H}
theorem trodAll_below {W W' : World} (hb : Below W.heap.size W W') {sp : Nat → Bool} : ∀ {ts : List TypeId} {vs : List Value} {ds : List (DataW H)} {ps : List MemPlace}, (∀ t ∈ ts, Tryz.prog.readableRec t = true ∧ t < Tryz.prog.types.size) → DataW.TrodAll enc Tryz.prog W 0 (fun _ => true) true ts vs ds ps → (∀ p ∈ ps, p.block < W.heap.size) → (∀ p ∈ ps, sp p.block = true) → DataW.TrodAll enc Tryz.prog W' 0 sp true ts vs ds ps
  | [], [], [], ps, _, h, _, _ => h
  | t :: ts, v :: vs, d :: ds, ps, ht, h, hlt, hsp => by
    obtain ⟨p, q, h1, h2, rfl⟩ := h
    refine ⟨p, q, WideElems.Trod_stays (by kernel_rfl) (ht t List.mem_cons_self).1 (ht t List.mem_cons_self).2 h1 (fun x hx => hb.same (hlt x (List.mem_append_left _ hx))) (fun x hx => hsp x (List.mem_append_left _ hx)), ?_, rfl⟩
    exact trodAll_below hb (fun u hu => ht u (List.mem_cons_of_mem _ hu)) h2 (fun x hx => hlt x (List.mem_append_right _ hx)) (fun x hx => hsp x (List.mem_append_right _ hx))
  | [], _ :: _, _, _, _, h, _, _ => by simp [DataW.TrodAll] at h
  | [], [], _ :: _, _, _, h, _, _ => by simp [DataW.TrodAll] at h
  | _ :: _, [], _, _, _, h, _, _ => by simp [DataW.TrodAll] at h
  | _ :: _, _ :: _, [], _, _, h, _, _ => by simp [DataW.TrodAll] at h

/-- What is asked behind the call: true, and the arguments read as they did. -/
theorem law_post {f : Func} {s : ChangeSpec} {again : Bool} {W W' : World} {args : Array Value} {ds gs : List (DataW H)} {before : List MemPlace}
    (hW : DataW.Whole enc Tryz.prog f.params.toList s.vars false W args.toList ds gs before) (hvars : s.vars = []) (hres : f.resultTypes = #[4])
    (hts : ∀ t ∈ f.params.toList, Tryz.prog.readableRec t = true ∧ t < Tryz.prog.types.size)
    (hfn : s.fn H (ds ++ gs) = { results := [.lit (.bool true)], args := ds }) (hb : Below W.heap.size W W') :
    s.post enc Tryz.prog f false true false again W args (.bool true) W' := by
  have hlt : ∀ p ∈ before, p.block < W.heap.size := fun p hp => hW.lt p hp
  have hW2 := hW
  obtain ⟨p, q, hA, hV, rfl, hz, _⟩ := hW
  rw [hvars] at hV
  obtain ⟨rfl, rfl⟩ := trodVars_none hV
  have hr : ∀ (b : Nat) (sp : Nat → Bool) (hd : Bool), DataW.TrodAll enc Tryz.prog W' b sp hd f.resultTypes.toList ((Value.bool true).resultList f.resultTypes.size) (s.fn H (ds ++ [])).results [] := by
    intro b sp hd
    rw [hres, hfn]
    exact ⟨[], [], shut_bool (show Tryz.prog.underlying 4 = some .bool by kernel_rfl) _, rfl, rfl⟩
  have ha : ∀ sp : Nat → Bool, (∀ x ∈ p ++ [], sp x.block = true) → DataW.TrodAll enc Tryz.prog W' 0 sp true f.params.toList args.toList (s.fn H (ds ++ [])).args p := by
    intro sp hsp
    rw [hfn]
    exact trodAll_below hb hts hA (fun x hx => hlt x (by simpa using hx)) (fun x hx => hsp x (by simpa using hx))
  have hvs : ∀ sp : Nat → Bool, DataW.TrodVars enc Tryz.prog W' sp s.vars (s.fn H (ds ++ [])).vars [] := by
    intro sp
    rw [hfn, hvars]
    rfl
  have hold : ∀ x ∈ p ++ [], (fun b => decide (b < W.heap.size)) x.block = true := fun x hx => by simpa using hlt x hx
  refine ⟨ds, [], p ++ [], [], p, [], hW2, hr _ _ _, ha _ hold, hvs _, World.keptBut_mono (fun x hx => ⟨hx, .inr (.inl (by simpa using hx))⟩) (hb.frame (· ∈ p ++ [])), fun _ => ?_⟩
  refine ⟨ok_one hres rfl (okWide_bool_mk (show Tryz.prog.underlying 4 = some .bool by kernel_rfl) _), _, _, ([] ++ p) ++ [], ⟨[] ++ p, [], trodAll_append (ha _ (fun _ _ => rfl)) (hr _ _ _), hvs _, rfl, ?_, by simp⟩, ?_⟩
  · intro b off hp
    rw [hb.frozen (hlt _ (by simpa using hp))]
    exact hz b off (by simpa using hp)
  · intro x hx _
    simpa using hx
end
end Go.Abs
/- Contracts: the net of a kiln. -/
set_option linter.unusedVariables false
set_option linter.unusedSimpArgs false
set_option maxRecDepth 100000
set_option maxHeartbeats 2000000
namespace Go.Abs
open Go.RowKit Go.Proofs Go.Shaft
attribute [simp] ti22 ti23 ti24 ti26 ti30 ti42 ti45 ti52 ti122 ti125 ti88 ti92 ti46
attribute [simp] ti134
theorem c89 (k : Kn) (hk : Few k) (lo : Lo k) (more : List Tie) (hm : more.length ≤ 10) : Con E 89 [eKn k, eTies more] (eNet (netM k more)) := by
 intro n H hH
 have h00 := hh3 hH
 have ⟨hHs, hH', hpl⟩ := h00
 refine ACall.frz ?_
 refine at_start (fn := Tryz.f89) [.cell 4 134] 13 H.length rfl rfl rfl rfl (by kernel_rfl) (by kernel_rfl) (by simp) (Nat.le_refl _) ?_
 refine sq ?_
 refine at_regK [1, 2, 4] rfl ?_
 try simp [h00, o_i, f_a]
 refine sq ?_
 refine at_draw [4] [1, 1, 1, 1, 3, 0, 3, 0, 3] [] rfl Efol (by kernel_rfl) (by simp) ?_
 try simp [h00, o_i, f_a]
 refine (c143 k hk).draw hH ?_
 try simp [h00, o_i, f_a]
 refine (c125 k).draw hH ?_
 try simp [h00, o_i, f_a]
 refine TCall.of_is (c124 k hk lo _ _ hH) ?_
 try simp [h00, o_i, f_a]
 have := tiesLen k; have := hk.l; have := hk.d; have := hk.w
 refine ⟨by omega, ?_⟩
 refine at_ret (by kernel_rfl) ?_
 try simp [h00, o_i, f_a]
 simp [AS.frzV, AS.expo, AS.expos, AS.setMem, AV.ok, AV.oks, eNet, netM, eTies]
end Go.Abs
/- Contracts: Repeat, Reverse, settling. -/
set_option linter.unusedVariables false
set_option linter.unusedSimpArgs false
set_option maxRecDepth 100000
set_option maxHeartbeats 2000000
namespace Go.Abs
open Go.RowKit Go.Proofs Go.Shaft
attribute [simp] ti22 ti23 ti24 ti26 ti30 ti42 ti45 ti52 ti122 ti125 ti88 ti92 ti46
abbrev U (n : Nat) : AV := .int .u64 n
theorem wrapU {n : Int} (h0 : 0 ≤ n) (h1 : n < 18446744073709551616) : IntKind.u64.wrap n = n := by
 unfold IntKind.wrap
 simp [IntKind.signed, IntKind.bits]
 omega
theorem andU {a : Nat} (h : a < 4294967296) : (a % 2 ^ IntKind.u64.bits &&& 4294967295 % 2 ^ IntKind.u64.bits) = a := by
 have e1 : a % 2 ^ IntKind.u64.bits = a := Nat.mod_eq_of_lt (by show a < 2 ^ 64; omega)
 have e2 : 4294967295 % 2 ^ IntKind.u64.bits = 2 ^ 32 - 1 := rfl
 rw [e1, e2, Nat.and_two_pow_sub_one_eq_mod]
 exact Nat.mod_eq_of_lt h
theorem shrU {a : Nat} (h : a < 4294967296) : (a : Int).fdiv (2 ^ min 32 IntKind.u64.bits) = 0 := by
 show (a : Int).fdiv 4294967296 = 0
 rw [Int.fdiv_eq_ediv_of_nonneg _ (by omega)]
 omega
theorem c180 (a b : Nat) (ha : a < 65536) (hb : b < 65536) : Con E 180 [U a, U b] (.tup [U 0, U (a * b)]) := by
 intro n H hH
 have h00 := hh3 hH
 have ⟨hHs, hH', hpl⟩ := h00
 refine at_start (fn := Tryz.f180) [.tmp 4, .tmp 5] 51 H.length rfl rfl rfl rfl (by kernel_rfl) (by kernel_rfl) (by simp) (Nat.le_refl _) ?_
 refine sq ?_
 refine at_regK [0, 1] rfl ?_
 try simp [h00, o_i, f_a]
 refine sq ?_
 refine at_regK [0, 1, 6] rfl ?_
 try simp [h00, o_i, f_a]
 refine sq ?_
 refine at_regK [0, 1, 6, 7] rfl ?_
 try simp [h00, o_i, f_a]
 refine sq ?_
 refine at_regK [0, 1, 6, 7, 8] rfl ?_
 try simp [h00, o_i, f_a]
 refine sq ?_
 refine at_regK [0, 1, 6, 7, 8, 9] rfl ?_
 try simp [h00, o_i, f_a]
 refine sq ?_
 refine at_regK [0, 1, 6, 7, 8, 9, 10] rfl ?_
 try simp [h00, o_i, f_a]
 refine sq ?_
 refine at_regK [0, 1, 6, 7, 9, 11] rfl ?_
 try simp [h00, o_i, f_a]
 refine sq ?_
 refine at_regK [0, 1, 6, 7, 9, 11, 12] rfl ?_
 try simp [h00, o_i, f_a]
 refine sq ?_
 refine at_regK [0, 1, 6, 7, 9, 12, 13] rfl ?_
 try simp [h00, o_i, f_a]
 refine sq ?_
 refine at_regK [0, 1, 7, 9, 12, 13] rfl ?_
 try simp [h00, o_i, f_a]
 refine sq ?_
 refine at_regK [0, 1, 4] rfl ?_
 try simp [h00, o_i, f_a]
 refine sq ?_
 refine at_regK [4, 5] rfl ?_
 try simp [h00, o_i, f_a]
 refine at_ret (by kernel_rfl) ?_
 try simp [h00, o_i, f_a]
 have hab : a * b < 4294967296 := by
  have := Nat.mul_lt_mul'' ha hb
  omega
 have w0 : IntKind.u64.wrap 0 = 0 := wrapU (by omega) (by omega)
 have s0 : (0 : Int).fdiv (2 ^ min 32 IntKind.u64.bits) = 0 := shrU (a := 0) (by omega)
 have wa : IntKind.u64.wrap (a : Int) = a := wrapU (by omega) (by omega)
 have wb : IntKind.u64.wrap (b : Int) = b := wrapU (by omega) (by omega)
 have wab : IntKind.u64.wrap ((a : Int) * (b : Int)) = (a : Int) * (b : Int) := by
  rw [← Int.natCast_mul]; exact wrapU (by omega) (by omega)
 have sab : ((a : Int) * (b : Int)).fdiv (2 ^ min 32 IntKind.u64.bits) = 0 := by rw [← Int.natCast_mul]; exact shrU hab
 simp [andU (a := a) (by omega), andU (a := b) (by omega), shrU (a := a) (by omega), shrU (a := b) (by omega), w0, s0, wa, wb, wab, sab]

theorem c173 (a b : Nat) (ha : a < 65536) (hb : b < 65536) : Con E 173 [U a, U b] (.tup [U 0, U (a * b)]) := by
 intro n H hH
 have h00 := hh3 hH
 have ⟨hHs, hH', hpl⟩ := h00
 refine at_start (fn := Tryz.f173) [.tmp 4, .tmp 5] 30 H.length rfl rfl rfl rfl (by kernel_rfl) (by kernel_rfl) (by simp) (Nat.le_refl _) ?_
 refine sq ?_
 refine at_regK [0, 1] rfl ?_
 try simp [h00, o_i, f_a]
 refine sq ?_
 refine at_cond rfl rfl (fun hbNone => by simp at hbNone) (fun hbNone => ?_)
 refine at_skip (by kernel_rfl) ?_
 try simp [h00, o_i, f_a]
 refine sq ?_
 refine at_regK [8, 9] rfl ?_
 try simp [h00, o_i, f_a]
 refine (c180 _ _ (by omega) (by omega)).use hH ?_
 try simp [h00, o_i, f_a]
 refine sq ?_
 refine at_regK [4, 5] rfl ?_
 try simp [h00, o_i, f_a]
 refine at_ret (by kernel_rfl) ?_
 try simp [h00, o_i, f_a]

theorem c144 (a : Int) (m : Nat) (h0 : 0 < m) (hm : m < 65536) : ConR E 144 [eInts [a], I m] (fun k => .own false k m) [.row 1 (List.replicate m (I a))] := by
 intro n H hH
 have h00 := hh3 hH
 have ⟨hHs, hH', hpl⟩ := h00
 have w1 : IntKind.u64.wrap 1 = ((1 : Nat) : Int) := wrapU (by omega) (by omega)
 have wm : IntKind.u64.wrap (m : Int) = m := wrapU (by omega) (by omega)
 have wi : IntKind.i64.wrap (m : Int) = m := wrap_id (by omega) (by omega)
 have hbig : ¬ ((9223372036854775807 : Int) < (m : Int)) := by omega
 have hneg : ¬ ((m : Int) < 0) := by omega
 refine at_start (fn := Tryz.f144) [.tmp 4] 48 H.length rfl rfl rfl rfl (by kernel_rfl) (by kernel_rfl) (by simp) (Nat.le_refl _) ?_
 refine sq ?_
 refine at_regK [0, 1] rfl ?_
 try simp [h00, o_i, f_a, w1, wm, wi, hbig, hneg]
 refine sq ?_
 refine sq ?_
 refine at_regK [0, 1, 10] rfl ?_
 try simp [h00, o_i, f_a, w1, wm, wi, hbig, hneg]
 refine at_cond rfl rfl (fun hb10 => by simp at hb10) (fun hb10 => ?_)
 refine at_skip (by kernel_rfl) ?_
 try simp [h00, o_i, f_a, w1, wm, wi, hbig, hneg]
 refine sq ?_
 refine at_regK [0, 5, 6] rfl ?_
 try simp [h00, o_i, f_a, w1, wm, wi, hbig, hneg]
 refine (c173 1 m (by omega) (by omega)).use hH ?_
 try simp [h00, o_i, f_a, w1, wm, wi, hbig, hneg]
 refine sq ?_
 refine sq ?_
 refine at_regK [0, 6, 26] rfl ?_
 try simp [h00, o_i, f_a, w1, wm, wi, hbig, hneg]
 refine at_cond rfl rfl (fun hb26 => by simp at hb26) (fun hb26 => ?_)
 refine at_skip (by kernel_rfl) ?_
 try simp [h00, o_i, f_a, w1, wm, wi, hbig, hneg]
 refine sq ?_
 refine at_regK [0, 7] rfl ?_
 try simp [h00, o_i, f_a, w1, wm, wi, hbig, hneg]
 refine ⟨by omega, by omega, ?_⟩
 refine sq ?_
 refine at_regK [7, 8] rfl ?_
 try simp [h00, o_i, f_a, w1, wm, wi, hbig, hneg]
 refine ⟨h0, ?_⟩
 refine sq ?_
 refine at_block rfl ?_
 refine at_count m (fun i s => ∃ c : Nat, i < c ∧ c ≤ m ∧ s = ⟨[(7, .own false 0 m), (8, I c)], [.row 1 (List.replicate c (I a) ++ List.replicate (m - c) (I 0))], H⟩) rfl ?_ ?_
 ·refine ⟨1, by omega, by omega, ?_⟩
  obtain ⟨m, rfl⟩ : ∃ q, m = q + 1 := ⟨m - 1, by omega⟩
  simp [copyTo, List.replicate_succ]
 rintro i s hi ⟨c, hc0, hc1, rfl⟩
 refine sq ?_
 refine sq ?_
 refine at_regK [7, 8, 37] rfl ?_
 try simp [h00, o_i, f_a, w1, wm, wi, hbig, hneg]
 refine at_cond rfl rfl (fun hb37 => ?_) (fun hb37 => ?_)
 ·
  try simp at hb37
  refine at_skip (by kernel_rfl) ?_
  try simp [h00, o_i, f_a, w1, wm, wi, hbig, hneg]
  refine at_block rfl ?_
  refine at_draw [7, 8] [0, 0, 0, 0, 0, 0, 0, 3, 0, 0] [] rfl Efol (by kernel_rfl) (by simp) ?_
  try simp [h00, o_i, f_a, w1, wm, wi, hbig, hneg]
  have hcm : c + (m - c) = m := by omega
  rw [if_pos hcm]
  refine ⟨hc1, hb37, hc1, h0, h0, hcm, by omega, c + min (m - c) c, by omega, by omega, ?_, ?_⟩
  ·rw [List.length_replicate, wrap_id (by omega) (by omega)]; omega
  ·unfold copyTo
   rw [List.take_left' (by simp), List.take_replicate, List.length_replicate, List.drop_append]
   rw [List.drop_of_length_le (by simp), List.length_replicate, List.drop_replicate, ← List.replicate_append_replicate]
   simp only [List.nil_append]
   congr 2
   omega
 ·
  try simp at hb37
  obtain rfl : c = m := by omega
  refine at_exit rfl ?_
  try simp [h00, o_i, f_a, w1, wm, wi, hbig, hneg]
  refine sq ?_
  refine at_regK [4] rfl ?_
  try simp [h00, o_i, f_a, w1, wm, wi, hbig, hneg]
  refine at_ret (by kernel_rfl) ?_
  try simp [h00, o_i, f_a, w1, wm, wi, hbig, hneg]
end Go.Abs
/- Contracts: Reverse, circles. -/
set_option linter.unusedVariables false
set_option linter.unusedSimpArgs false
set_option maxRecDepth 100000
set_option maxHeartbeats 2000000
namespace Go.Abs
open Go.RowKit Go.Proofs Go.Shaft
attribute [simp] ti22 ti23 ti24 ti26 ti30 ti42 ti45 ti52 ti122 ti125 ti88 ti92 ti46
theorem c166 (l : List Int) (hl : l.length ≤ 100000) (n m : Nat) (H : List AO) (hH : okH H) (hm : H[m]? = some (.row 1 (l.map I))) : ACall E 166 [.own true m l.length] n H (Is (.tup []) [] (H.set m (.row 1 (l.reverse.map I)))) := by
 have h00 := hh3 hH
 have ⟨hHs, hH', hpl⟩ := h00
 have hml := (List.getElem?_eq_some_iff.1 hm).1
 have hget : ∀ o, (H.set m o)[m]? = some o := fun o => by rw [List.getElem?_set]; simp [hml]
 have hset : ∀ o o', (H.set m o).set m o' = H.set m o' := fun o o' => by rw [List.set_set]
 have h0 : H = H.set m (.row 1 ((revN l 0).map I)) := by rw [revN_zero]; exact (set_same hm).symm
 have hk : ∀ v : List Int, okH (H.set m (.row 1 (v.map I))) := fun v => okH_set hH (by simp [AO.ok])
 have hks : ∀ v : List Int, (∀ o ∈ H.set m (.row 1 (v.map I)), o.ok shd = true) ↔ True := fun v => iff_true_intro (okH_shd (hk v))
 have hkm : ∀ v : List Int, (∀ o ∈ H.set m (.row 1 (v.map I)), o.ok (pm H.length) = true) ↔ True := fun v => iff_true_intro (by have := hk v; rw [okH, List.length_set] at this; exact this)
 have hlt : ∀ o, (H.set m o).take H.length = H.set m o := fun o => List.take_of_length_le (by simp)
 have hkp : ∀ (v : List Int) q, (∀ o ∈ H.set m (.row 1 (v.map I)), o.ok (pl q) = true) ↔ True := fun v q => iff_true_intro (okH_pl (hk v) q)
 refine at_start (fn := Tryz.f166) [] 28 H.length rfl rfl rfl rfl (by kernel_rfl) (by kernel_rfl) (by simp) (Nat.le_refl _) ?_
 refine sq ?_
 refine at_regK [0, 2, 3] rfl ?_
 try simp [h00, o_i, f_a, hget, hset, hks, hkm, hkp, hlt]
 refine at_block rfl ?_
 refine at_count l.length (fun i s => i ≤ l.length ∧ s = ⟨[(0, .own true m l.length), (2, I i), (3, I ((l.length : Int) - 1 - i))], [], H.set m (.row 1 ((revN l i).map I))⟩) rfl ?_ ?_
 ·refine ⟨by omega, ?_⟩
  rw [← h0]
  rw [wrap_id (by omega) (by omega)]
  simp
 rintro i s hi ⟨_, rfl⟩
 refine sq ?_
 refine sq ?_
 
 refine at_regK [0, 2, 3, 9] rfl ?_
 try simp [h00, o_i, f_a, hget, hset, hks, hkm, hkp, hlt]
 refine at_cond rfl rfl (fun hb9 => ?_) (fun hb9 => ?_)
 ·
  try simp at hb9
  obtain ⟨j, hj⟩ : ∃ j : Nat, j = l.length - 1 - i := ⟨_, rfl⟩
  have hj' : (l.length : Int) - 1 - i = (j : Int) := by omega
  rw [hj']
  have hjl : j < l.length := by omega
  have hil : i < l.length := by omega
  obtain ⟨a, ha⟩ : ∃ a, l.getD i 0 = a := ⟨_, rfl⟩
  obtain ⟨b, hb⟩ : ∃ b, l.getD j 0 = b := ⟨_, rfl⟩
  have hgi : (revN l i)[i]? = some a := by rw [revN_get l i i hil, if_neg (by omega), ha]
  have hgj : (revN l i)[j]? = some b := by rw [revN_get l i j hjl, if_neg (by omega), hb]
  have hgj2 : ((revN l i).set i b)[j]? = some b := by rw [List.getElem?_set, if_neg (by omega), hgj]
  have hstep := revN_step l i (by omega)
  rw [← hj, ha, hb] at hstep
  refine at_skip (by kernel_rfl) ?_
  try simp [h00, o_i, f_a, hget, hset, hks, hkm, hkp, hlt]
  refine sq ?_
  refine at_block rfl ?_
  refine at_draw [0, 2, 3] [0, 0, 0, 0, 0, 0, 0, 1, 0, 0, 0, 1, 0, 3, 0, 3] [] rfl Efol (by kernel_rfl) (by simp) ?_
  try simp [h00, o_i, f_a, hget, hset, hgi, hgj, hks, hkm, hkp, hlt, ← List.map_set, hgj2]
  refine ⟨hjl, hil, hjl, ?_⟩
  rw [hstep]
  refine at_regK [0, 2, 3] rfl ?_
  try simp [h00, o_i, f_a, hget, hset, hks, hkm, hkp, hlt]
  refine ⟨hil, by omega, ?_⟩
  rw [wrap_id (by omega) (by omega), wrap_id (by omega) (by omega)]
  congr 4
  omega
 ·
  try simp at hb9
  refine at_exit rfl ?_
  try simp [h00, o_i, f_a, hget, hset, hks, hkm, hkp, hlt]
  rw [revN_end l i (by omega), List.map_reverse]
end Go.Abs
/- Contracts: circles, paths. -/
set_option linter.unusedVariables false
set_option linter.unusedSimpArgs false
set_option maxRecDepth 100000
set_option maxHeartbeats 2000000
namespace Go.Abs
open Go.RowKit Go.Proofs Go.Shaft
attribute [simp] ti22 ti23 ti24 ti26 ti30 ti42 ti45 ti52 ti122 ti125 ti88 ti92 ti46
attribute [simp] ti134
theorem c145 (x : Nt) (b : List Int) (a : Int) (hn0 : 0 < x.n) (hn : x.n ≤ 41) (hw : ∀ k, 0 ≤ walkM x b k a ∧ walkM x b k a < b.length ∧ ∃ (i : Nat) (t : Tie), gt b (walkM x b k a) = i ∧ x.links[i]? = some t)
  (hc : ∃ m, 0 < m ∧ m ≤ x.n.toNat ∧ walkM x b m (walkM x b x.n.toNat a) = walkM x b x.n.toNat a) : ConR E 145 [eNet x, eInts b, I a] (fun k => .own false k (circleM x b a).length) [.row 1 ((circleM x b a).map I)] := by
 intro n H hH
 have h00 := hh3 hH
 have ⟨hHs, hH', hpl⟩ := h00
 have h0 : ∀ j k', H.map (mvO j k') = H := mvO_map hH
 refine at_startU (fn := Tryz.f145) [.tmp 6] 46 H.length H.length rfl rfl rfl rfl (by kernel_rfl) (by kernel_rfl) (by simp) (Nat.le_refl _) ?_
 refine sq ?_
 refine at_regK [1, 2, 3] rfl ?_
 try simp [h00, o_i, f_a]
 refine sq ?_
 refine sq ?_
 refine at_regK [1, 2, 3, 10, 11] rfl ?_
 try simp [h00, o_i, f_a]
 refine at_block rfl ?_
 refine at_count x.n.toNat (fun i s => s = ⟨[(1, eInts b), (2, I (walkM x b i a)), (3, .ref false 0 0 [] 0), (10, I x.n), (11, I i)], [.cell (eNet x)], H⟩) rfl rfl ?_
 rintro i s hi rfl
 refine sq ?_
 refine at_regK [1, 2, 3, 10, 11, 12] rfl ?_
 try simp [h00, o_i, f_a]
 refine sq ?_
 refine at_cond rfl rfl (fun hb12 => ?_) (fun hb12 => ?_)
 ·
  try simp at hb12
  obtain ⟨w0, w1, q, t, hq, ht⟩ := hw i
  obtain ⟨v, hv⟩ : ∃ v : Nat, walkM x b i a = v := ⟨(walkM x b i a).toNat, by omega⟩
  have hvb : v < b.length := by omega
  have hbv : b[v]? = some (q : Int) := by
   have : gt b (walkM x b i a) = b[v] := by rw [hv]; simp [gt, hvb]
   rw [List.getElem?_eq_getElem hvb, ← this, hq]
  have hqv : gt b (v : Int) = q := by rw [← hv]; exact hq
  have hpar : par x b (v : Int) = t.frm := by rw [← hv, par, hq]; simp [List.getD_eq_getElem?_getD, ht]
  rw [hv]
  refine at_skip (by kernel_rfl) ?_
  try simp [h00, o_i, f_a]
  refine sq ?_
  refine at_block rfl ?_
  refine at_draw [1, 2, 3, 10, 11] [0, 1, 0, 0, 0, 1, 0, 0, 1, 0] [] rfl Efol (by kernel_rfl) (by simp) ?_
  try simp [h00, o_i, f_a, hbv, ht]
  refine at_regK [1, 2, 3, 10, 11] rfl ?_
  try simp [h00, o_i, f_a]
  refine ⟨by omega, ?_⟩
  rw [walk_succ, hv, hpar, wrap_id (by omega) (by omega)]
  exact ⟨rfl, rfl⟩
 ·
  try simp at hb12
  refine at_exit rfl ?_
  try simp [h00, o_i, f_a]
  refine sq ?_
  refine at_regK [1, 2, 3, 7] rfl ?_
  try simp [h00, o_i, f_a]
  refine sq ?_
  refine sq ?_
  refine at_regK [1, 2, 3, 7, 8] rfl ?_
  try simp [h00, o_i, f_a]
  refine at_block rfl ?_
  obtain rfl : i = x.n.toNat := by omega
  obtain ⟨e, he⟩ : ∃ e, walkM x b x.n.toNat a = e := ⟨_, rfl⟩
  rw [he]
  refine at_leads (leads_nilT 7 1 rfl (by decide)) ?_
  refine at_leads (leads_keep _ [1, 2, 3, 7, 8]) ?_
  simp
  refine at_count x.n.toNat (fun c s => c < x.n.toNat ∧ (∀ k, 0 < k → k ≤ c → walkM x b k e ≠ e) ∧ s = ⟨[(1, eInts b), (2, I (walkM x b c e)), (3, .ref false 0 0 [] 0), (7, .own false 1 c), (8, I e)], [.cell (eNet x), .row 1 ((outsM x b e c).map I)], H⟩) rfl ?_ ?_
  ·refine ⟨by omega, fun k h0 h1 => by omega, ?_⟩
   simp [outsM, walkM]
  rintro c s hc' ⟨hcn, hnot, rfl⟩
  obtain ⟨w0, w1, q, t, hq, ht⟩ := hw (x.n.toNat + c)
  obtain ⟨v, hv⟩ : ∃ v : Nat, walkM x b (x.n.toNat + c) a = v := ⟨(walkM x b (x.n.toNat + c) a).toNat, by omega⟩
  have hvb : v < b.length := by omega
  have hbv : b[v]? = some (q : Int) := by
   have : gt b (walkM x b (x.n.toNat + c) a) = b[v] := by rw [hv]; simp [gt, hvb]
   rw [List.getElem?_eq_getElem hvb, ← this, hq]
  have hqv : gt b (v : Int) = q := by rw [← hv]; exact hq
  have hpar : par x b (v : Int) = t.frm := by rw [← hv, par, hq]; simp [List.getD_eq_getElem?_getD, ht]
  rw [walk_add, he] at hv
  rw [hv]
  refine at_block rfl ?_
  refine sq ?_
  refine at_regC 2 [1, 2, 3, 7, 8] rfl ?_
  try simp [h00, o_i, f_a, hbv, ht]
  refine ⟨by omega, ?_⟩
  have hrow : List.map I (outsM x b e c) ++ [I q] = (outsM x b e (c + 1)).map I := by rw [outs_succ, hv, hqv, List.map_append]; rfl
  rw [hrow]
  refine sq ?_
  refine at_draw [1, 2, 3, 7, 8] [0, 1, 0, 0, 0, 1, 0, 0, 1, 0] [] rfl Efol (by kernel_rfl) (by simp) ?_
  try simp [h00, o_i, f_a, hbv, ht]
  refine sq ?_
  refine at_regK [1, 2, 3, 7, 8, 42] rfl ?_
  try simp [h00, o_i, f_a]
  refine at_cond rfl rfl (fun hb42 => ?_) (fun hb42 => ?_)
  ·
   try simp at hb42
   have hend : walkM x b (c + 1) e = e := by rw [walk_succ, hv, hpar]; exact hb42
   have hcc : circleM x b a = (outsM x b e (c + 1)).reverse := by unfold circleM; rw [he, turn_end hnot hcn hend]
   obtain ⟨L, hL⟩ : ∃ L, outsM x b e (c + 1) = L := ⟨_, rfl⟩
   have hLl : L.length = c + 1 := by rw [← hL]; simp
   rw [hL] at hcc
   rw [hcc, hL, ← hLl]
   refine at_exit rfl ?_
   try simp [h00, o_i, f_a]
   refine sq ?_
   refine at_leads (leads_share 1 rfl rfl) ?_
   simp [AS.share, h0, mvV_id]
   refine at_regK [7] rfl ?_
   try simp [h00, o_i, f_a]
   refine (c166 L (by omega) _ H.length _ (okH_push hH (by simp)) (by simp)).of_is ?_
   try simp [h00, o_i, f_a]
   refine sq ?_
   refine at_regK [6] rfl ?_
   try simp [h00, o_i, f_a]
   refine at_ret (by kernel_rfl) ?_
   try simp [h00, o_i, f_a]
   simp [FOutU, AS.unshare, mwV, AV.locs, AV.outR, pickR, hH', -List.map_reverse, ← List.map_reverse]
  ·
   try simp at hb42
   refine at_leads (leads_keep _ [1, 2, 3, 7, 8]) ?_
   simp
   refine at_skip (by kernel_rfl) ?_
   try simp [h00, o_i, f_a]
   have hw1 : walkM x b (c + 1) e = t.frm := by rw [walk_succ, hv, hpar]
   have hnot' : ∀ k, 0 < k → k ≤ c + 1 → walkM x b k e ≠ e := by
    intro k k0 k1
    rcases Nat.lt_or_ge k (c + 1) with h | h
    ·exact hnot k k0 (by omega)
    ·rw [show k = c + 1 by omega, hw1]; exact hb42
   refine ⟨by omega, ?_, hnot', by rw [hw1]⟩
   obtain ⟨m, m0, m1, m2⟩ := hc
   rw [he] at m2
   rcases Nat.lt_or_ge (c + 1) m with h | h
   ·omega
   ·exact (hnot' m m0 h m2).elim
end Go.Abs
/- Contracts: settling. -/
set_option linter.unusedVariables false
set_option linter.unusedSimpArgs false
set_option maxRecDepth 100000
set_option maxHeartbeats 2000000
namespace Go.Abs
open Go.RowKit Go.Proofs Go.Shaft
attribute [simp] ti22 ti23 ti24 ti26 ti30 ti42 ti45 ti52 ti122 ti125 ti88 ti92 ti46
attribute [simp] ti134 ti131
abbrev hA (l : List Int) : AV := .arr 1 (l.map I)
@[simp] theorem hA_ok (p : Bool → Nat → Bool) (l : List Int) : (hA l).ok p = true := by rw [AV.ok]; exact oks_ints p l
@[simp] theorem hA_size (l : List Int) : (hA l).size = l.length := by
 show AV.sizes (l.map I) = _
 rw [sizes_eq, List.map_map]
 induction l with
 | nil => rfl
 | cons a l ih => simp at ih ⊢; omega
@[simp] theorem loc_hA (l : List Int) (m : Nat) : (hA l).locs m = [] := (pure_out (by simp) [] 0 m).1
@[simp] theorem out_hA (l : List Int) (js : List Nat) (n m : Nat) : (hA l).outR js n m = some (hA l) := (pure_out (by simp) js n m).2
@[simp] theorem sizes_ints (l : List Int) : AV.sizes (l.map I) = l.length := hA_size l
@[simp] theorem hA_solid (l : List Int) : (hA l).solid = true := rfl
@[simp] theorem hA_agg (l : List Int) : (hA l).isAgg = true := rfl
@[simp] theorem hA_nt (l : List Int) : notTup (hA l) = true := rfl
def zz : List Int := List.replicate 41 0
@[simp] theorem zz_len : zz.length = 41 := by simp [zz]
def fillM (i : Nat) : List Int := List.replicate i far ++ zz.drop i
theorem fill_zero : fillM 0 = zz := by simp [fillM]
theorem fill_len (i : Nat) (h : i ≤ 41) : (fillM i).length = 41 := by simp [fillM]; omega
theorem fill_get (i : Nat) (h : i < 41) : (fillM i)[i]? = some 0 := by
 unfold fillM
 rw [List.getElem?_append_right (by simp)]
 simp only [List.length_replicate, Nat.sub_self, zz, List.drop_replicate]
 rw [List.getElem?_replicate, if_pos (by omega)]
theorem fill_set (i : Nat) (h : i < 41) : (fillM i).set i far = fillM (i + 1) := by
 unfold fillM
 rw [List.set_append_right _ _ (by simp)]
 have : zz.drop i = 0 :: zz.drop (i + 1) := by
  rw [List.drop_eq_getElem_cons (by simpa using h)]
  simp [zz, -List.reduceReplicate]
 rw [this, List.replicate_succ']
 simp
theorem fill_start (N : Nat) (h : N ≤ 41) (a : Int) : (fillM N).set a.toNat 0 = startH (N : Int) a := by
 unfold fillM startH
 simp [zz, -List.reduceReplicate]
def negs (n : Nat) : List Int := List.replicate n (-1)
theorem negs_map (n : Nat) : List.replicate n (I (-1)) = (negs n).map I := by simp [negs]
def eOp : Option (List Int) → AV
 | none => .nilS
 | some l => eInts l
@[simp] theorem eOp_ok (p : Bool → Nat → Bool) (o : Option (List Int)) : (eOp o).ok p = true := by cases o <;> simp [eOp]
@[simp] theorem eOp_solid (o : Option (List Int)) : (eOp o).solid = true := by cases o <;> rfl
@[simp] theorem eOp_agg (o : Option (List Int)) : (eOp o).isAgg = false := by cases o <;> rfl
@[simp] theorem eOp_size (o : Option (List Int)) : (eOp o).size = 1 := by cases o <;> rfl
@[simp] theorem eOp_nt (o : Option (List Int)) : notTup (eOp o) = true := by cases o <;> rfl
def eSet (r : List Int × List Int × Option (List Int)) : AV := .tup [hA r.1, eInts r.2.1, eOp r.2.2]

theorem c90 (x : Nt) (w : WfN x) (a : Int) (a0 : 0 ≤ a) (a1 : a < x.n) : Con E 90 [eNet x, I a] (eSet (settleM x a)) := by
 intro n H hH
 have h00 := hh3 hH
 have ⟨hHs, hH', hpl⟩ := h00
 have n0 := w.n0; have n1 := w.n1; have ll := w.ll
 obtain ⟨N, hN⟩ : ∃ N : Nat, x.n = N := ⟨x.n.toNat, by omega⟩
 have hNt : x.n.toNat = N := by omega
 have hz : List.replicate 41 (AV.int IntKind.i64 0) = zz.map I := by simp [zz]
 have hng := negs_map N
 have hfz := fill_zero
 refine ACall.frz ?_
 refine at_start (fn := Tryz.f90) [.cell 4 131, .tmp 5, .tmp 6] 89 H.length rfl rfl rfl rfl (by kernel_rfl) (by kernel_rfl) (by simp) (Nat.le_refl _) ?_
 refine sq ?_
 refine at_regK [1, 2, 4] rfl ?_
 try simp [h00, o_i, f_a, hN, hz, -List.reduceReplicate, hng, ← List.map_set]
 refine at_scope (by kernel_rfl) ?_
 refine sq ?_
 refine at_regK [1, 2, 4, 7] rfl ?_
 try simp [h00, o_i, f_a, hN, hz, -List.reduceReplicate, hng, ← List.map_set]
 refine sq ?_
 refine at_regK [1, 2, 4, 7, 8] rfl ?_
 try simp [h00, o_i, f_a, hN, hz, -List.reduceReplicate, hng, ← List.map_set]
 refine (c144 (-1) N (by omega) (by omega)).use hH ?_
 try simp [h00, o_i, f_a, hN, hz, -List.reduceReplicate, hng, ← List.map_set]
 refine sq ?_
 refine sq ?_
 refine at_regK [1, 2, 4, 7, 8, 19, 20] rfl ?_
 try simp [h00, o_i, f_a, hN, hz, -List.reduceReplicate, hng, ← List.map_set]
 refine at_block rfl ?_
 refine at_count N (fun i s => s = ⟨[(1, I a), (2, .ref false 0 0 [] 0), (4, .ref false 1 0 [] 0), (7, .ref false 2 0 [] 0), (8, .own false 4 N), (19, I N), (20, I i)], [.cell (eNet x), .cell (hA zz), .cell (hA (fillM i)), .frow 1 [I (-1)], .row 1 ((negs N).map I)], H⟩) rfl ?_ ?_
 ·rw [hfz]; rfl
 rintro i s hi rfl
 refine sq ?_
 refine at_regK [1, 2, 4, 7, 8, 19, 20, 21] rfl ?_
 try simp [h00, o_i, f_a, hN, hz, -List.reduceReplicate, hng, ← List.map_set]
 refine sq ?_
 refine at_cond rfl rfl (fun hb21 => ?_) (fun hb21 => ?_)
 ·
  try simp at hb21
  have hi41 : i < 41 := by omega
  refine at_skip (by kernel_rfl) ?_
  try simp [h00, o_i, f_a, hN, hz, -List.reduceReplicate, hng, ← List.map_set]
  refine sq ?_
  refine at_block rfl ?_
  refine sq ?_
  refine at_regK [1, 2, 4, 7, 8, 9, 19, 20] rfl ?_
  try simp [h00, o_i, f_a, hN, hz, -List.reduceReplicate, hng, ← List.map_set]
  refine at_regK [1, 2, 4, 7, 8, 19, 20] rfl ?_
  try simp [h00, o_i, f_a, fill_get i hi41, fill_set i hi41, ← List.map_set]
  refine ⟨by omega, ?_⟩
  rw [show (1125899906842624 : Int) = far from rfl, fill_set i hi41]
  refine at_regK [1, 2, 4, 7, 8, 19, 20] rfl ?_
  try simp [h00, o_i, f_a, hN, hz, -List.reduceReplicate, hng, ← List.map_set]
  refine ⟨by omega, ?_⟩
  rw [wrap_id (by omega) (by omega)]
 ·
  try simp at hb21
  rw [show i = N by omega]
  refine at_exit rfl ?_
  try simp [h00, o_i, f_a, hN, hz, -List.reduceReplicate, hng, ← List.map_set]
  refine sq ?_
  obtain ⟨va, hva⟩ : ∃ v, (fillM N)[a.toNat]? = some v := ⟨_, List.getElem?_eq_getElem (by rw [fill_len N (by omega)]; omega)⟩
  refine at_regK [2, 4, 7, 8] rfl ?_
  try simp [h00, o_i, f_a, hva, ← List.map_set]
  refine ⟨a0, by omega, ?_⟩
  rw [fill_start N (by omega) a]
  refine sq ?_
  refine at_label rfl ?_
  simp
  refine sq ?_
  refine sq ?_
  refine at_regK [2, 4, 7, 8, 10] rfl ?_
  try simp [h00, o_i, f_a, hN, hz, -List.reduceReplicate, hng, ← List.map_set]
  refine at_block rfl ?_
  refine at_count N (fun r s => r ≤ N ∧ settleM x a = go x (N + 1 - r) r (iterM x a r).1 (iterM x a r).2 ∧ s = ⟨[(2, .ref false 0 0 [] 0), (4, .ref false 1 0 [] 0), (7, .ref false 2 0 [] 0), (8, .own false 4 N), (10, I r)], [.cell (eNet x), .cell (hA zz), .cell (hA ((iterM x a r).1)), .frow 1 [I (-1)], .row 1 (((iterM x a r).2).map I)], H⟩) rfl ⟨by omega, by simp [settleM, iterM, hNt], by simp [iterM, hN, negs, -List.map_replicate]⟩ ?_
  rintro r s hr ⟨_, hgo, rfl⟩
  have g := iter_good w a0 a1 r (by omega)
  have hT : r * x.links.length ≤ 42 * 1000 := Nat.mul_le_mul (by omega) ll
  have hgoe := go_iter x a (N - r) r
  rw [show N - r + 1 = N + 1 - r by omega, ← hgo] at hgoe
  have hit : ((iterM x a (r + 1)).1, (iterM x a (r + 1)).2) = ((roundM x (iterM x a r).1 (iterM x a r).2).1, (roundM x (iterM x a r).1 (iterM x a r).2).2.1) := rfl
  obtain ⟨h, hh⟩ : ∃ h, (iterM x a r).1 = h := ⟨_, rfl⟩
  obtain ⟨b, hb⟩ : ∃ b, (iterM x a r).2 = b := ⟨_, rfl⟩
  rw [hh, hb] at g hgoe hit
  rw [hh, hb]
  refine sq ?_
  refine at_block rfl ?_
  refine sq ?_
  refine at_regK [2, 4, 7, 8, 10, 11] rfl ?_
  try simp [h00, o_i, f_a, hN, hz, -List.reduceReplicate, hng, ← List.map_set]
  refine sq ?_
  refine sq ?_
  refine at_regK [2, 4, 7, 8, 10, 11, 31, 32, 33] rfl ?_
  try simp [h00, o_i, f_a, hN, hz, -List.reduceReplicate, hng, ← List.map_set]
  refine at_block rfl ?_
  refine at_count x.links.length (fun i s => s = ⟨[(2, .ref false 0 0 [] 0), (4, .ref false 1 0 [] 0), (7, .ref false 2 0 [] 0), (8, .own false 4 N), (10, I r), (11, I (relaxes (x.links.take i) 0 (h, b, -1)).2.2), (31, eTies x.links), (32, I x.links.length), (33, I i)], [.cell (eNet x), .cell (hA zz), .cell (hA ((relaxes (x.links.take i) 0 (h, b, -1)).1)), .frow 1 [I (-1)], .row 1 (((relaxes (x.links.take i) 0 (h, b, -1)).2.1).map I)], H⟩) rfl (by simp [relaxes]) ?_
  rintro i s hi rfl
  refine sq ?_
  refine at_regK [2, 4, 7, 8, 10, 11, 31, 32, 33, 34] rfl ?_
  try simp [h00, o_i, f_a, hN, hz, -List.reduceReplicate, hng, ← List.map_set]
  refine sq ?_
  refine at_cond rfl rfl (fun hb34 => ?_) (fun hb34 => ?_)
  ·
   try simp at hb34
   obtain ⟨t, ht⟩ : ∃ t, x.links[i]? = some t := ⟨_, List.getElem?_eq_getElem hb34⟩
   have gi := Good.take w g (by omega) i hi
   obtain ⟨⟨S1, S2, S3⟩, hS⟩ : ∃ S, relaxes (x.links.take i) 0 (h, b, -1) = S := ⟨_, rfl⟩
   have hnext : relaxes (x.links.take (i + 1)) 0 (h, b, -1) = relax (S1, S2, S3) i t := by
    rw [List.take_add_one, ht]
    simp only [Option.toList_some]
    rw [relaxes_snoc, hS]
    congr 1
    simp
    omega
   rw [hS] at gi ⊢
   have hm := List.mem_of_getElem? ht
   have f0 := w.f0 t hm; have f1 := w.f1 t hm; have t0 := w.t0 t hm; have t1 := w.t1 t hm; have m0 := w.m0 t hm; have m1 := w.m1 t hm
   have hlf : S1[t.frm.toNat]? = some (gt S1 t.frm) := by
    have : t.frm.toNat < S1.length := by rw [gi.hl]; omega
    simp [gt, this]
   have hlt : S1[t.to.toNat]? = some (gt S1 t.to) := by
    have : t.to.toNat < S1.length := by rw [gi.hl]; omega
    simp [gt, this]
   have hbt : S2[t.to.toNat]? = some (gt S2 t.to) := by
    have : t.to.toNat < S2.length := by rw [gi.bl]; omega
    simp [gt, this]
   have hfar : far = 1125899906842624 := rfl
   have hfin := gi.fin t.frm f0 f1
   simp only at hfin
   have hS2 : S2.length = N := by have := gi.bl; simp only at this; omega
   have hf41 : t.frm < 41 := by omega
   have ht41 : t.to < 41 := by omega
   have htN : t.to < (N : Int) := by omega
   refine at_skip (by kernel_rfl) ?_
   try simp [h00, o_i, f_a, hN, hz, -List.reduceReplicate, hng, ← List.map_set]
   refine sq ?_
   refine at_block rfl ?_
   refine sq ?_
   refine at_regK [2, 4, 7, 8, 10, 11, 12, 13, 31, 32, 33] rfl ?_
   try simp [h00, o_i, f_a, ht]
   refine sq ?_
   refine at_draw [2, 4, 7, 8, 10, 11, 12, 13, 31, 32, 33, 56] [0, 1, 0, 1, 0, 0, 0, 1, 0, 1, 0, 1, 0, 0, 1, 0, 1, 0, 0] [] rfl Efol (by kernel_rfl) (by simp) ?_
   try simp [h00, o_i, f_a, hlf, hlt, hbt, f0, t0, hf41, ht41, htN, ← List.map_set]
   refine dps_split 43 rfl (fun hg1 => ?_) (fun hg1 => ?_)
   ·
    try simp [h00, o_i, f_a, hlf, hlt, hbt, f0, t0, hf41, ht41, htN, ← List.map_set, hg1]
    refine at_cond rfl rfl (fun hb56 => ?_) (fun hb56 => ?_)
    ·
     try simp at hb56
     try simp only [Bool.and_eq_true, decide_eq_true_eq] at hb56
     have hwr : IntKind.i64.wrap (gt S1 t.frm + t.most) = gt S1 t.frm + t.most := wrap_id (by omega) (by omega)
     rw [hwr] at hb56
     refine at_draw [2, 4, 7, 8, 10, 11, 31, 32, 33] [0, 4, 0, 0, 4, 0, 4, 0, 1, 0, 4, 0, 0, 0, 4, 0, 3, 0, 3, 0] [5] rfl Efol (by kernel_rfl) (by simp) ?_
     try simp [h00, o_i, f_a, hS2, hlf, hlt, hbt, f0, t0, hf41, ht41, htN, ← List.map_set]
     rw [hwr]
     refine at_regC 5 [2, 4, 7, 8, 10, 11, 31, 32, 33] rfl ?_
     try simp [h00, o_i, f_a, hN, hz, -List.reduceReplicate, hng, ← List.map_set]
     have hlow : lower S1 t = true := by simp only [lower, hfar]; simp [hg1, hb56]
     rw [hnext, wrap_id (by omega) (by omega)]
     simp [relax, hlow, hb34]
    ·
     try simp at hb56
     refine at_skip (by kernel_rfl) ?_
     try simp [h00, o_i, f_a, hN, hz, -List.reduceReplicate, hng, ← List.map_set]
     refine at_regC 5 [2, 4, 7, 8, 10, 11, 31, 32, 33] rfl ?_
     try simp [h00, o_i, f_a, hN, hz, -List.reduceReplicate, hng, ← List.map_set]
     have hwr : IntKind.i64.wrap (gt S1 t.frm + t.most) = gt S1 t.frm + t.most := wrap_id (by omega) (by omega)
     rw [hwr] at hb56
     have hlow : lower S1 t = false := by simp only [lower, hfar]; simp; intros; omega
     rw [hnext, wrap_id (by omega) (by omega)]
     simp [relax, hlow, hb34]
   ·
    try simp [h00, o_i, f_a, hlf, hlt, hbt, f0, t0, hf41, ht41, htN, ← List.map_set, hg1]
    refine at_cond rfl rfl (fun hb56 => by simp at hb56) (fun hb56 => ?_)
    refine at_skip (by kernel_rfl) ?_
    try simp [h00, o_i, f_a, hN, hz, -List.reduceReplicate, hng, ← List.map_set]
    refine at_regC 5 [2, 4, 7, 8, 10, 11, 31, 32, 33] rfl ?_
    try simp [h00, o_i, f_a, hN, hz, -List.reduceReplicate, hng, ← List.map_set]
    have hlow : lower S1 t = false := by simp only [lower, hfar]; simp [hg1]
    rw [hnext, wrap_id (by omega) (by omega)]
    simp [relax, hlow, hb34]
  ·
   try simp at hb34
   rw [show i = x.links.length by omega, List.take_length]
   have g' := Good.round w g (by omega)
   obtain ⟨⟨S1, S2, S3⟩, hS⟩ : ∃ S, roundM x h b = S := ⟨_, rfl⟩
   have hS' : relaxes x.links 0 (h, b, -1) = (S1, S2, S3) := hS
   rw [hS] at g' hgoe hit
   simp only [Prod.mk.injEq] at hit
   obtain ⟨hi1, hi2⟩ := hit
   rw [hS']
   rw [hi1, hi2] at hgoe
   have hl41 : S1.length = 41 := g'.hl
   have hbN : S2.length = N := by rw [g'.bl, hNt]
   refine at_exit rfl ?_
   try simp [h00, o_i, f_a, hN, hz, -List.reduceReplicate, hng, ← List.map_set]
   refine sq ?_
   refine sq ?_
   refine at_regK [2, 4, 7, 8, 10, 11, 76] rfl ?_
   try simp [h00, o_i, f_a, hN, hz, -List.reduceReplicate, hng, ← List.map_set]
   refine at_cond rfl rfl (fun hb76 => ?_) (fun hb76 => ?_)
   ·
    try simp at hb76
    refine at_exit rfl ?_
    try simp [h00, o_i, f_a, hN, hz, -List.reduceReplicate, hng, ← List.map_set]
    refine sq ?_
    refine at_regK [4, 5, 6] rfl ?_
    try simp [h00, o_i, f_a, hl41]
    refine at_ret (by kernel_rfl) ?_
    try simp [h00, o_i, f_a, hN, hz, -List.reduceReplicate, hng, ← List.map_set]
    have hgo2 : settleM x a = (S1, S2, none) := by rw [hgoe, if_pos hb76]
    rw [hgo2, if_pos hl41.symm]
    simp [AS.frzV, AS.expo, AS.expos, AS.setMem, eSet, eOp, eInts, hbN, AV.locs, AV.locsL, AV.outR, AV.outRs, pickR, List.idxOf?, List.findIdx?, List.findIdx?.go]
   ·
    try simp at hb76
    refine at_skip (by kernel_rfl) ?_
    try simp [h00, o_i, f_a, hN, hz, -List.reduceReplicate, hng, ← List.map_set]
    refine sq ?_
    refine at_regK [2, 4, 7, 8, 10, 11, 80] rfl ?_
    try simp [h00, o_i, f_a, hN, hz, -List.reduceReplicate, hng, ← List.map_set]
    refine at_cond rfl rfl (fun hb80 => ?_) (fun hb80 => ?_)
    ·
     try simp at hb80
     refine sq ?_
     refine at_draw [4, 5, 6] [4, 0, 1, 0, 0, 3, 3, 0, 0] [2] rfl Efol (by kernel_rfl) (by simp) ?_
     try simp [h00, o_i, f_a, hl41, hbN]
     have hrN : r = N := by omega
     have hlast := round_last w (h := h) (b := b) g.hl (by rw [hS]; simp only; omega)
     rw [hS] at hlast
     have hi1' : (iterM x a (x.n.toNat + 1)).1 = S1 := by rw [hNt, ← hrN]; exact hi1
     have hi2' : (iterM x a (x.n.toNat + 1)).2 = S2 := by rw [hNt, ← hrN]; exact hi2
     simp only at hlast g'
     have hfar : far = 1125899906842624 := rfl
     have hok := circle_ok w a0 a1 hlast.1 hlast.2.1 (by rw [hi1', hNt, ← hrN, hh]; exact hlast.2.2) (by rw [hi1']; rcases g.fin S3 hlast.1 hlast.2.1 with e | e <;> omega)
     rw [hi2'] at hok
     have hin : ∀ k, 0 ≤ walkM x S2 k S3 ∧ walkM x S2 k S3 < x.n := fun k => wkm_in w g' k S3 hlast.1 hlast.2.1 (fun k' _ => hok k')
     refine TCall.of_is (c145 x S2 S3 n0 n1 (fun k => ⟨(hin k).1, by rw [hbN, ← hN]; exact (hin k).2, by obtain ⟨i, t, k1, k2, _⟩ := par_yes w g' (hin k).1 (hin k).2 (hok k); exact ⟨i, t, k1, k2⟩⟩) (circle_turn (n := x.n.toNat) (fun k => by have := hin k; omega)) _ _ hH) ?_
     try simp [h00, o_i, f_a, hl41, hbN]
     refine at_ret (by kernel_rfl) ?_
     try simp [h00, o_i, f_a, hN, hz, -List.reduceReplicate, hng, ← List.map_set]
     have hgo2 : settleM x a = (S1, S2, some (circleM x S2 S3)) := by
      rw [hgoe, if_neg (by simp only; omega), if_pos (by omega)]
     rw [hgo2, if_pos hl41.symm]
     simp [AS.frzV, AS.expo, AS.expos, AS.setMem, eSet, eOp, eInts, hbN, AV.locs, AV.locsL, AV.outR, AV.outRs, pickR, List.idxOf?, List.findIdx?, List.findIdx?.go]
    ·
     try simp at hb80
     refine at_skip (by kernel_rfl) ?_
     try simp [h00, o_i, f_a, hN, hz, -List.reduceReplicate, hng, ← List.map_set]
     refine at_regK [2, 4, 7, 8, 10] rfl ?_
     try simp [h00, o_i, f_a, hN, hz, -List.reduceReplicate, hng, ← List.map_set]
     refine ⟨by omega, by omega, ?_, wrap_id (by omega) (by omega), by rw [hi1], by rw [hi2]⟩
     rw [hgoe, if_neg (by simp only; omega), if_neg (by omega), hi1, hi2]
end Go.Abs
/- Contracts: ends. -/
set_option linter.unusedVariables false
set_option linter.unusedSimpArgs false
set_option maxRecDepth 100000
set_option maxHeartbeats 2000000
namespace Go.Abs
open Go.RowKit Go.Proofs Go.Shaft
attribute [simp] ti22 ti23 ti24 ti26 ti30 ti42 ti45 ti52 ti122 ti125 ti88 ti92 ti46
attribute [simp] ti134 ti131
theorem us46' : E.P.underlying 46 = some (.slice 3) := by kernel_rfl
@[simp] theorem us46 : (∃ e, E.P.underlying 46 = some (TypeDesc.slice e)) ↔ True := iff_true_intro ⟨3, us46'⟩
@[simp] theorem pCmp_op {P : Program} (op : BinOp) (t : TypeId) (o : Option (List Int)) (K : AV → Prop) (ho : o ≠ some []) : pCmp P op t (eOp o) .nilS K = ((∃ e, P.underlying t = some (.slice e)) ∧ cmpK op o.isNone K) := by
 cases o with
 | none => simp [eOp]
 | some l =>
  have : l ≠ [] := by rintro rfl; exact ho rfl
  simp [eOp, eInts, this]
@[simp] theorem bin_eOp (op : BinOp) (o : Option (List Int)) : binV op (eOp o) .nilS = none := by cases o <;> rfl
@[simp] theorem loc_eOp (o : Option (List Int)) (m : Nat) : (eOp o).locs m = [] := (pure_out (by simp) [] 0 m).1
@[simp] theorem out_eOp (o : Option (List Int)) (js : List Nat) (n m : Nat) : (eOp o).outR js n m = some (eOp o) := (pure_out (by simp) js n m).2
theorem aboveM_b {x : Nt} (w : WfN x) {a b : Int} (a0 : 0 ≤ a) (a1 : a < x.n) (b0 : 0 ≤ b) (b1 : b < x.n) : -1125899906842624 ≤ (aboveM x a b).1 ∧ (aboveM x a b).1 ≤ 1125899906842624 := settle_bound w a0 a1 b0 b1
theorem c89n (k : Kn) (f : Fine k) : Con E 89 [eKn k, .nilS] (eNet (netM k [])) := by
 intro n H hH
 exact ACall.args (.cons (Wk.refl _) (.cons (Wk.nil 4) .nil)) (by simp) (c89 k f.few f.lo [] (by simp) n H hH)

theorem c111 (x : Nt) (w : WfN x) (a b : Int) (a0 : 0 ≤ a) (a1 : a < x.n) (b0 : 0 ≤ b) (b1 : b < x.n) : Con E 111 [eNet x, I a, I b] (.tup [I (aboveM x a b).1, .bool (aboveM x a b).2]) := by
 intro n H hH
 have h00 := hh3 hH
 have ⟨hHs, hH', hpl⟩ := h00
 obtain ⟨⟨h, q, o⟩, hr⟩ : ∃ r, settleM x a = r := ⟨_, rfl⟩
 have hl := settle_len w a0 a1
 have hne : (settleM x a).2.2 ≠ some [] := fun e => settle_ne w.n0 e rfl
 have hb : b < 41 := by have := w.n1; omega
 rw [aboveM, hr]
 rw [hr] at hl hne
 simp only at hl hne
 have hg : h[b.toNat]? = some (gt h b) := by
  have : b.toNat < h.length := by omega
  simp [gt, this]
 refine at_start (fn := Tryz.f111) [.tmp 6, .tmp 7] 23 H.length rfl rfl rfl rfl (by kernel_rfl) (by kernel_rfl) (by simp) (Nat.le_refl _) ?_
 refine sq ?_
 refine at_regK [1, 2, 3] rfl ?_
 try simp [h00, o_i, f_a, hl]
 refine sq ?_
 refine at_regK [2, 8, 10] rfl ?_
 try simp [h00, o_i, f_a, hl]
 refine (c90 x w a a0 a1).use hH ?_
 rw [hr]
 simp only [eSet]
 try simp [h00, o_i, f_a, hl]
 refine sq ?_
 refine at_regK [6, 7] rfl ?_
 try simp [h00, o_i, f_a, hg, b0, hb, hne]
 refine at_ret (by kernel_rfl) ?_
 try simp [h00, o_i, f_a, hl]

theorem c78 (k : Kn) (f : Fine k) (a b : Int) (a0 : 0 ≤ a) (a1 : a < marksM k) (b0 : 0 ≤ b) (b1 : b < marksM k) : Con E 78 [eKn k, I a, I b] (.tup [eSp (betweenM k a b).1, I (betweenM k a b).2]) := by
 intro n H hH
 have h00 := hh3 hH
 have ⟨hHs, hH', hpl⟩ := h00
 have f0 := f.wf.n0; have f1 := f.wf.n1
 have ha := aboveM_b f.wf a0 a1 b0 b1
 have hb := aboveM_b f.wf b0 b1 a0 a1
 obtain ⟨⟨p, q⟩, hp⟩ : ∃ r, aboveM (netM k []) a b = r := ⟨_, rfl⟩
 obtain ⟨⟨p2, q2⟩, hp2⟩ : ∃ r, aboveM (netM k []) b a = r := ⟨_, rfl⟩
 have hm : (netM k []).n = marksM k := rfl
 rw [betweenM, hp, hp2]
 rw [hp] at ha; rw [hp2] at hb
 simp only at ha hb
 refine at_start (fn := Tryz.f78) [.cell 6 30, .tmp 7] 36 H.length rfl rfl rfl rfl (by kernel_rfl) (by kernel_rfl) (by simp) (Nat.le_refl _) ?_
 refine sq ?_
 refine at_regK [1, 2, 3, 6] rfl ?_
 try simp [h00, o_i, f_a]
 refine sq ?_
 refine at_regK [1, 2, 6, 8] rfl ?_
 try simp [h00, o_i, f_a]
 refine (c89n _ f).use hH ?_
 try simp [h00, o_i, f_a]
 refine sq ?_
 refine at_regK [1, 2, 6, 8, 9, 10] rfl ?_
 try simp [h00, o_i, f_a]
 refine (c111 (netM k []) f.wf a b a0 a1 b0 b1).use hH ?_
 rw [hp]
 try simp [h00, o_i, f_a]
 refine sq ?_
 refine sq ?_
 refine at_regK [1, 2, 6, 8, 9, 23] rfl ?_
 try simp [h00, o_i, f_a]
 refine at_cond rfl rfl (fun hb23 => ?_) (fun hb23 => ?_)
 ·
  try simp at hb23
  refine sq ?_
  refine at_regK [6, 7] rfl ?_
  try simp [h00, o_i, f_a]
  refine at_ret (by kernel_rfl) ?_
  try simp [h00, o_i, f_a]
  subst hb23
  exact ⟨rfl, rfl⟩
 ·
  try simp at hb23
  refine at_skip (by kernel_rfl) ?_
  try simp [h00, o_i, f_a]
  refine sq ?_
  refine at_regK [6, 9, 11] rfl ?_
  try simp [h00, o_i, f_a]
  refine (c111 (netM k []) f.wf b a b0 b1 a0 a1).use hH ?_
  rw [hp2]
  try simp [h00, o_i, f_a]
  refine sq ?_
  refine at_regK [6, 7] rfl ?_
  try simp [h00, o_i, f_a]
  refine at_ret (by kernel_rfl) ?_
  try simp [h00, o_i, f_a]
  subst hb23
  rw [wrap_id (by omega) (by omega)]
  exact ⟨rfl, rfl⟩

theorem c73 (k : Kn) (hk : Few k) (a b : Int) : Con E 73 [eKn k, I a, I b] (.tup [I (reachM k a b).1, I (reachM k a b).2.1, .bool (reachM k a b).2.2]) := by
 intro n H hH
 have h00 := hh3 hH
 have ⟨hHs, hH', hpl⟩ := h00
 have fa := find_le k.loads a; have fb := find_le k.loads b; have ga := find_le k.draws a; have gb := find_le k.draws b
 have hl := hk.l; have hd := hk.d
 refine at_start (fn := Tryz.f73) [.tmp 6, .tmp 7, .tmp 8] 52 H.length rfl rfl rfl rfl (by kernel_rfl) (by kernel_rfl) (by simp) (Nat.le_refl _) ?_
 refine sq ?_
 refine at_regK [1, 2, 3] rfl ?_
 try simp [h00, o_i, f_a]
 refine sq ?_
 refine sq ?_
 refine at_draw [1, 2, 3, 9, 10] [1, 1, 0, 1, 1, 1, 0, 1, 0, 0] [] rfl Efol (by kernel_rfl) (by simp) ?_
 try simp [h00, o_i, f_a]
 refine (c75 k).draw hH ?_
 try simp [h00, o_i, f_a]
 refine (c86 k.loads hk.l a).draw hH ?_
 try simp [h00, o_i, f_a]
 refine (c75 k).draw hH ?_
 try simp [h00, o_i, f_a]
 refine (c86 k.loads hk.l b).draw hH ?_
 try simp [h00, o_i, f_a]
 refine sq ?_
 refine at_regK [1, 2, 3, 9, 10, 26] rfl ?_
 try simp [h00, o_i, f_a]
 refine pops_split 23 rfl (fun hg1 => ?_) (fun hg1 => ?_)
 ·
  try simp [h00, o_i, f_a, hg1]
  refine at_cond rfl rfl (fun hb26 => ?_) (fun hb26 => ?_)
  ·
   try simp at hb26
   refine sq ?_
   refine at_regK [6, 7, 8] rfl ?_
   try simp [h00, o_i, f_a]
   refine at_ret (by kernel_rfl) ?_
   try simp [h00, o_i, f_a]
   have h1 : 0 ≤ find k.loads a := by simpa using hg1
   rw [reachM, if_pos ⟨h1, hb26⟩, wrap_id (by omega) (by omega)]
   exact ⟨rfl, rfl, rfl⟩
  ·
   try simp at hb26
   refine at_skip (by kernel_rfl) ?_
   try simp [h00, o_i, f_a]
   refine sq ?_
   refine at_draw [3, 11, 12] [1, 1, 0, 1, 1, 1, 0, 1, 0, 0] [] rfl Efol (by kernel_rfl) (by simp) ?_
   try simp [h00, o_i, f_a]
   refine (c77 k).draw hH ?_
   try simp [h00, o_i, f_a]
   refine (c94 k.draws hk.d a).draw hH ?_
   try simp [h00, o_i, f_a]
   refine (c77 k).draw hH ?_
   try simp [h00, o_i, f_a]
   refine (c94 k.draws hk.d b).draw hH ?_
   try simp [h00, o_i, f_a]
   refine sq ?_
   refine at_draw [6, 7, 8] [1, 0, 0, 1, 1, 0, 0, 1, 0, 0, 0, 0, 0, 0, 0, 0, 0] [] rfl Efol (by kernel_rfl) (by simp) ?_
   try simp [h00, o_i, f_a]
   refine (c80 k hk _ (by split <;> omega) (by split <;> omega)).draw hH ?_
   try simp [h00, o_i, f_a]
   rw [wrap_id (by omega) (by omega)]
   refine (c80 k hk (find k.draws b + 1) (by omega) (by omega)).draw hH ?_
   try simp [h00, o_i, f_a]
   refine dps_split 48 rfl (fun hg2 => ?_) (fun hg2 => ?_)
   ·
    try simp [h00, o_i, f_a, hg2]
    refine at_ret (by kernel_rfl) ?_
    try simp [h00, o_i, f_a]
    have h1 : ¬ (0 ≤ find k.loads a ∧ 0 ≤ find k.loads b) := by simp at hg1; omega
    rw [reachM, if_neg h1]
    refine ⟨rfl, rfl, ?_⟩
    simp at hg2
    simp [hg2]
   ·
    try simp [h00, o_i, f_a, hg2]
    refine at_ret (by kernel_rfl) ?_
    try simp [h00, o_i, f_a]
    have h1 : ¬ (0 ≤ find k.loads a ∧ 0 ≤ find k.loads b) := by simp at hg1; omega
    rw [reachM, if_neg h1]
    refine ⟨rfl, rfl, ?_⟩
    simp at hg2
    simp
    omega
 ·
  try simp [h00, o_i, f_a, hg1]
  refine at_cond rfl rfl (fun hb26 => by simp at hb26) (fun hb26 => ?_)
  refine at_skip (by kernel_rfl) ?_
  try simp [h00, o_i, f_a]
  refine sq ?_
  refine at_draw [3, 11, 12] [1, 1, 0, 1, 1, 1, 0, 1, 0, 0] [] rfl Efol (by kernel_rfl) (by simp) ?_
  try simp [h00, o_i, f_a]
  refine (c77 k).draw hH ?_
  try simp [h00, o_i, f_a]
  refine (c94 k.draws hk.d a).draw hH ?_
  try simp [h00, o_i, f_a]
  refine (c77 k).draw hH ?_
  try simp [h00, o_i, f_a]
  refine (c94 k.draws hk.d b).draw hH ?_
  try simp [h00, o_i, f_a]
  refine sq ?_
  refine at_draw [6, 7, 8] [1, 0, 0, 1, 1, 0, 0, 1, 0, 0, 0, 0, 0, 0, 0, 0, 0] [] rfl Efol (by kernel_rfl) (by simp) ?_
  try simp [h00, o_i, f_a]
  refine (c80 k hk _ (by split <;> omega) (by split <;> omega)).draw hH ?_
  try simp [h00, o_i, f_a]
  rw [wrap_id (by omega) (by omega)]
  refine (c80 k hk (find k.draws b + 1) (by omega) (by omega)).draw hH ?_
  try simp [h00, o_i, f_a]
  refine dps_split 48 rfl (fun hg3 => ?_) (fun hg3 => ?_)
  ·
   try simp [h00, o_i, f_a, hg3]
   refine at_ret (by kernel_rfl) ?_
   try simp [h00, o_i, f_a]
   have h1 : ¬ (0 ≤ find k.loads a ∧ 0 ≤ find k.loads b) := by simp at hg1; omega
   rw [reachM, if_neg h1]
   refine ⟨rfl, rfl, ?_⟩
   simp at hg3
   simp [hg3]
  ·
   try simp [h00, o_i, f_a, hg3]
   refine at_ret (by kernel_rfl) ?_
   try simp [h00, o_i, f_a]
   have h1 : ¬ (0 ≤ find k.loads a ∧ 0 ≤ find k.loads b) := by simp at hg1; omega
   rw [reachM, if_neg h1]
   refine ⟨rfl, rfl, ?_⟩
   simp at hg3
   simp
   omega

theorem c79 (k : Kn) (hk : Few k) (h : Int) : Con E 79 [eKn k, I h] (I (timedM k h)) := by
 intro n H hH
 have h00 := hh3 hH
 have ⟨hHs, hH', hpl⟩ := h00
 refine at_start (fn := Tryz.f79) [.tmp 4] 14 H.length rfl rfl rfl rfl (by kernel_rfl) (by kernel_rfl) (by simp) (Nat.le_refl _) ?_
 refine sq ?_
 refine at_regK [1, 2] rfl ?_
 try simp [h00, o_i, f_a]
 refine sq ?_
 refine sq ?_
 refine at_regK [1, 5] rfl ?_
 try simp [h00, o_i, f_a]
 refine (c48 k hk).use hH ?_
 try simp [h00, o_i, f_a]
 refine sq ?_
 refine at_regK [1, 5, 9] rfl ?_
 try simp [h00, o_i, f_a]
 refine at_cond rfl rfl (fun hb9 => ?_) (fun hb9 => ?_)
 ·
  try simp at hb9
  refine sq ?_
  refine at_regK [4] rfl ?_
  try simp [h00, o_i, f_a]
  refine at_ret (by kernel_rfl) ?_
  try simp [h00, o_i, f_a]
  simp [timedM, hb9]
 ·
  try simp at hb9
  refine at_skip (by kernel_rfl) ?_
  try simp [h00, o_i, f_a]
  refine sq ?_
  refine sq ?_
  refine at_regK [13] rfl ?_
  try simp [h00, o_i, f_a]
  refine (c118 h 0 16384).use hH ?_
  try simp [h00, o_i, f_a]
  refine at_cond rfl rfl (fun hb13 => ?_) (fun hb13 => ?_)
  ·
   try simp at hb13
   refine sq ?_
   refine at_regK [4] rfl ?_
   try simp [h00, o_i, f_a]
   refine at_ret (by kernel_rfl) ?_
   try simp [h00, o_i, f_a]
   simp [timedM, hb9, hb13]
  ·
   try simp at hb13
   refine at_skip (by kernel_rfl) ?_
   try simp [h00, o_i, f_a]
   refine sq ?_
   refine at_regK [4] rfl ?_
   try simp [h00, o_i, f_a]
   refine at_ret (by kernel_rfl) ?_
   try simp [h00, o_i, f_a]
   simp [timedM, hb9, hb13]

theorem c87 (n d : Int) (n0 : -1125899906842624 ≤ n) (n1 : n ≤ 1125899906842624) (d0 : 1 ≤ d) (d1 : d ≤ 65536) : Con E 87 [I n, I d] (I (floorM n d)) := by
 intro m H hH
 have h00 := hh3 hH
 have ⟨hHs, hH', hpl⟩ := h00
 have hdz : ¬ (d = 0) := by omega
 refine at_start (fn := Tryz.f87) [.tmp 4] 18 H.length rfl rfl rfl rfl (by kernel_rfl) (by kernel_rfl) (by simp) (Nat.le_refl _) ?_
 refine sq ?_
 refine at_regK [0, 1] rfl ?_
 try simp [h00, o_i, f_a, hdz]
 refine sq ?_
 refine sq ?_
 refine at_regK [0, 1, 6] rfl ?_
 try simp [h00, o_i, f_a, hdz]
 refine at_cond rfl rfl (fun hb6 => ?_) (fun hb6 => ?_)
 ·
  try simp at hb6
  refine sq ?_
  refine at_regK [4] rfl ?_
  try simp [h00, o_i, f_a, hdz]
  refine at_ret (by kernel_rfl) ?_
  try simp [h00, o_i, f_a, hdz]
  have q0 := Int.tdiv_nonneg (a := -n + d - 1) (b := d) (by omega) (by omega)
  have q1 := Int.tdiv_le_self (a := -n + d - 1) d (by omega)
  rw [wrap_id (n := -n) (by omega) (by omega), wrap_id (n := -n + d) (by omega) (by omega), wrap_id (n := -n + d - 1) (by omega) (by omega), wrap_id (n := (-n + d - 1).tdiv d) (by omega) (by omega), wrap_id (by omega) (by omega), floorM, if_pos hb6]
 ·
  try simp at hb6
  refine at_skip (by kernel_rfl) ?_
  try simp [h00, o_i, f_a, hdz]
  refine sq ?_
  refine at_regK [4] rfl ?_
  try simp [h00, o_i, f_a, hdz]
  refine at_ret (by kernel_rfl) ?_
  try simp [h00, o_i, f_a, hdz]
  have q0 := Int.tdiv_nonneg (a := n) (b := d) hb6 (by omega)
  have q1 := Int.tdiv_le_self (a := n) d hb6
  rw [wrap_id (by omega) (by omega), floorM, if_neg (by omega)]

theorem c20 (k : Kn) (hk : Few k) (a b : Int) : Con E 20 [eKn k, I a, I b] (.tup [eSp (runM k a b).1, I (runM k a b).2]) := by
 intro n H hH
 have h00 := hh3 hH
 have ⟨hHs, hH', hpl⟩ := h00
 refine at_start (fn := Tryz.f20) [.cell 6 30, .tmp 7] 52 H.length rfl rfl rfl rfl (by kernel_rfl) (by kernel_rfl) (by simp) (Nat.le_refl _) ?_
 refine sq ?_
 refine at_regK [1, 2, 3, 6] rfl ?_
 try simp [h00, o_i, f_a]
 refine sq ?_
 refine sq ?_
 refine at_regK [1, 2, 3, 6, 8] rfl ?_
 try simp [h00, o_i, f_a]
 refine (c48 k hk).use hH ?_
 try simp [h00, o_i, f_a]
 refine sq ?_
 refine at_regK [1, 2, 3, 6, 8, 15] rfl ?_
 try simp [h00, o_i, f_a]
 refine at_cond rfl rfl (fun hb15 => ?_) (fun hb15 => ?_)
 ·
  try simp at hb15
  refine sq ?_
  refine at_regK [6, 7] rfl ?_
  try simp [h00, o_i, f_a]
  refine at_ret (by kernel_rfl) ?_
  try simp [h00, o_i, f_a]
  rw [runM, if_pos hb15]
  exact ⟨rfl, rfl⟩
 ·
  try simp at hb15
  have f := fine_of_check hb15
  refine at_skip (by kernel_rfl) ?_
  try simp [h00, o_i, f_a]
  refine sq ?_
  refine at_regK [1, 2, 3, 6, 9, 10, 11] rfl ?_
  try simp [h00, o_i, f_a]
  refine (c73 k hk a b).use hH ?_
  try simp [h00, o_i, f_a]
  refine sq ?_
  refine at_block rfl ?_
  refine sq ?_
  refine at_regK [1, 2, 3, 6, 9, 10, 26] rfl ?_
  try simp [h00, o_i, f_a]
  refine at_cond rfl rfl (fun hb26 => ?_) (fun hb26 => ?_)
  ·
   try simp at hb26
   refine sq ?_
   refine at_regK [6, 7] rfl ?_
   try simp [h00, o_i, f_a]
   refine at_ret (by kernel_rfl) ?_
   try simp [h00, o_i, f_a]
   rw [runM, if_neg (by simp [hb15]), if_pos hb26]
   exact ⟨rfl, rfl⟩
  ·
   try simp at hb26
   have hin := reach_in hb26
   refine sq ?_
   refine at_regK [3, 6, 9, 10, 30] rfl ?_
   try simp [h00, o_i, f_a]
   refine (c75 k).use hH ?_
   try simp [h00, o_i, f_a]
   refine (c74 k.loads hk.l a b).use hH ?_
   try simp [h00, o_i, f_a]
   refine pops_split 37 rfl (fun hg1 => ?_) (fun hg1 => ?_)
   ·
    try simp [h00, o_i, f_a, hg1]
    refine (c77 k).use hH ?_
    try simp [h00, o_i, f_a]
    refine (c76 k.draws hk.d a b).use hH ?_
    try simp [h00, o_i, f_a]
    refine at_cond rfl rfl (fun hb30 => ?_) (fun hb30 => ?_)
    ·
     try simp at hb30
     refine sq ?_
     refine at_regK [6, 7] rfl ?_
     try simp [h00, o_i, f_a]
     refine at_ret (by kernel_rfl) ?_
     try simp [h00, o_i, f_a]
     rw [runM, if_neg (by simp [hb15]), if_neg (by simp [hb26]), if_pos ⟨by simpa using hg1, hb30⟩]
     exact ⟨rfl, rfl⟩
    ·
     try simp at hb30
     refine at_skip (by kernel_rfl) ?_
     try simp [h00, o_i, f_a]
     refine sq ?_
     refine at_regK [6, 7] rfl ?_
     try simp [h00, o_i, f_a]
     refine (c78 k f (reachM k a b).1 (reachM k a b).2.1 hin.1 hin.2.1 hin.2.2.1 hin.2.2.2).use hH ?_
     try simp [h00, o_i, f_a]
     refine at_ret (by kernel_rfl) ?_
     try simp [h00, o_i, f_a]
     rw [runM, if_neg (by simp [hb15]), if_neg (by simp [hb26]), if_neg (by simp [hb30])]
     exact ⟨rfl, rfl⟩
   ·
    try simp [h00, o_i, f_a, hg1]
    refine at_cond rfl rfl (fun hb30 => by simp at hb30) (fun hb30 => ?_)
    refine at_skip (by kernel_rfl) ?_
    try simp [h00, o_i, f_a]
    refine sq ?_
    refine at_regK [6, 7] rfl ?_
    try simp [h00, o_i, f_a]
    refine (c78 k f (reachM k a b).1 (reachM k a b).2.1 hin.1 hin.2.1 hin.2.2.1 hin.2.2.2).use hH ?_
    try simp [h00, o_i, f_a]
    refine at_ret (by kernel_rfl) ?_
    try simp [h00, o_i, f_a]
    rw [runM, if_neg (by simp [hb15]), if_neg (by simp [hb26]), if_neg (by simp at hg1; simp [hg1])]
    exact ⟨rfl, rfl⟩

theorem c18 (k : Kn) (hk : Few k) (a : Int) : Con E 18 [eKn k, I a] (.tup [eSp (runM k a a).1, I (runM k a a).2]) := by
 intro n H hH
 have h00 := hh3 hH
 have ⟨hHs, hH', hpl⟩ := h00
 refine at_start (fn := Tryz.f18) [.cell 4 30, .tmp 5] 12 H.length rfl rfl rfl rfl (by kernel_rfl) (by kernel_rfl) (by simp) (Nat.le_refl _) ?_
 refine sq ?_
 refine at_regK [1, 2, 4] rfl ?_
 try simp [h00, o_i, f_a]
 refine sq ?_
 refine at_regK [4, 5] rfl ?_
 try simp [h00, o_i, f_a]
 refine (c20 k hk a a).use hH ?_
 try simp [h00, o_i, f_a]
 refine at_ret (by kernel_rfl) ?_
 try simp [h00, o_i, f_a]

theorem c22 (k : Kn) (hk : Few k) (h : Int) : Con E 22 [eKn k, I h] (.tup [eSp (heldM k h).1, I (heldM k h).2]) := by
 intro n H hH
 have h00 := hh3 hH
 have ⟨hHs, hH', hpl⟩ := h00
 have b2 := byHr_le k.draws h; have b1 := byHr_le k.loads h; have hl := hk.l; have hd := hk.d
 have hm : (marksM k : Int) = 1 + k.loads.length + k.draws.length := by simp [marksM]
 have d1 := drawn_in (k := k) (a := (byHr k.draws h : Int)) (by omega) (by omega)
 
 refine at_start (fn := Tryz.f22) [.cell 4 30, .tmp 5] 28 H.length rfl rfl rfl rfl (by kernel_rfl) (by kernel_rfl) (by simp) (Nat.le_refl _) ?_
 refine sq ?_
 refine at_regK [1, 2, 4] rfl ?_
 try simp [h00, o_i, f_a]
 refine sq ?_
 refine sq ?_
 refine at_regK [1, 2, 4, 6] rfl ?_
 try simp [h00, o_i, f_a]
 refine (c79 k hk h).use hH ?_
 try simp [h00, o_i, f_a]
 refine sq ?_
 refine at_regK [1, 2, 4, 6, 11] rfl ?_
 try simp [h00, o_i, f_a]
 refine at_cond rfl rfl (fun hb11 => ?_) (fun hb11 => ?_)
 ·
  try simp at hb11
  refine sq ?_
  refine at_regK [4, 5] rfl ?_
  try simp [h00, o_i, f_a]
  refine at_ret (by kernel_rfl) ?_
  try simp [h00, o_i, f_a]
  rw [heldM, if_pos hb11]
  exact ⟨rfl, rfl⟩
 ·
  try simp at hb11
  have hck : check k = 0 := by
   simp only [timedM] at hb11
   split at hb11
   ·contradiction
   ·rename_i hc; simpa using hc
  have f := fine_of_check hck
  refine at_skip (by kernel_rfl) ?_
  try simp [h00, o_i, f_a]
  refine sq ?_
  refine at_draw [4, 5] [1, 1, 1, 1, 0, 1, 1, 1, 1, 0, 1, 1, 0, 0, 3, 0] [] rfl Efol (by kernel_rfl) (by simp) ?_
  try simp [h00, o_i, f_a]
  refine (c77 k).draw hH ?_
  try simp [h00, o_i, f_a]
  refine (c81 k.draws hk.d h).draw hH ?_
  try simp [h00, o_i, f_a]
  refine (c80 k hk _ (by omega) (by omega)).draw hH ?_
  try simp [h00, o_i, f_a]
  refine (c75 k).draw hH ?_
  try simp [h00, o_i, f_a]
  refine (c82 k.loads hk.l h).draw hH ?_
  try simp [h00, o_i, f_a]
  refine (c78 k f (drawnM k (byHr k.draws h)) (byHr k.loads h) d1.1 d1.2 (by omega) (by omega)).draw hH ?_
  try simp [h00, o_i, f_a]
  refine at_ret (by kernel_rfl) ?_
  try simp [h00, o_i, f_a]
  rw [heldM, if_neg (by simp [hb11])]
  exact ⟨rfl, rfl⟩

theorem c24 (k : Kn) (hk : Few k) (a h : Int) : Con E 24 [eKn k, I a, I h] (.tup [eSp (belowM k a h).1, I (belowM k a h).2]) := by
 intro n H hH
 have h00 := hh3 hH
 have ⟨hHs, hH', hpl⟩ := h00
 have b2 := byHr_le k.draws h; have b1 := byHr_le k.loads h; have hl := hk.l; have hd := hk.d
 have hm : (marksM k : Int) = 1 + k.loads.length + k.draws.length := by simp [marksM]
 have d1 := drawn_in (k := k) (a := (byHr k.draws h : Int)) (by omega) (by omega)
 have fa := find_le k.loads a
 refine at_start (fn := Tryz.f24) [.cell 6 30, .tmp 7] 46 H.length rfl rfl rfl rfl (by kernel_rfl) (by kernel_rfl) (by simp) (Nat.le_refl _) ?_
 refine sq ?_
 refine at_regK [1, 2, 3, 6] rfl ?_
 try simp [h00, o_i, f_a]
 refine sq ?_
 refine sq ?_
 refine at_regK [1, 2, 3, 6, 8] rfl ?_
 try simp [h00, o_i, f_a]
 refine (c79 k hk h).use hH ?_
 try simp [h00, o_i, f_a]
 refine sq ?_
 refine at_regK [1, 2, 3, 6, 8, 14] rfl ?_
 try simp [h00, o_i, f_a]
 refine at_cond rfl rfl (fun hb14 => ?_) (fun hb14 => ?_)
 ·
  try simp at hb14
  refine sq ?_
  refine at_regK [6, 7] rfl ?_
  try simp [h00, o_i, f_a]
  refine at_ret (by kernel_rfl) ?_
  try simp [h00, o_i, f_a]
  rw [belowM, if_pos hb14]
  exact ⟨rfl, rfl⟩
 ·
  try simp at hb14
  have hck : check k = 0 := by
   simp only [timedM] at hb14
   split at hb14
   ·contradiction
   ·rename_i hc; simpa using hc
  have f := fine_of_check hck
  refine at_skip (by kernel_rfl) ?_
  try simp [h00, o_i, f_a]
  refine sq ?_
  refine at_regK [2, 3, 6, 9] rfl ?_
  try simp [h00, o_i, f_a]
  refine (c75 k).use hH ?_
  try simp [h00, o_i, f_a]
  refine (c86 k.loads hk.l a).use hH ?_
  try simp [h00, o_i, f_a]
  refine sq ?_
  refine at_block rfl ?_
  refine sq ?_
  refine at_regK [2, 3, 6, 9, 21] rfl ?_
  try simp [h00, o_i, f_a]
  refine at_cond rfl rfl (fun hb21 => ?_) (fun hb21 => ?_)
  ·
   try simp at hb21
   refine sq ?_
   refine at_regK [6, 7] rfl ?_
   try simp [h00, o_i, f_a]
   refine at_ret (by kernel_rfl) ?_
   try simp [h00, o_i, f_a]
   rw [belowM, if_neg (by simp [hb14]), if_pos hb21]
   exact ⟨rfl, rfl⟩
  ·
   try simp at hb21
   obtain ⟨x, hx⟩ : ∃ x, k.loads[(find k.loads a).toNat]? = some x := ⟨_, List.getElem?_eq_getElem (by omega)⟩
   have hxd : k.loads.getD (find k.loads a).toNat default = x := by simp [List.getD_eq_getElem?_getD, hx]
   refine sq ?_
   refine at_regK [2, 3, 6, 9, 25] rfl ?_
   try simp [h00, o_i, f_a, hx, hb21]
   refine at_cond rfl rfl (fun hb25 => ?_) (fun hb25 => ?_)
   ·
    try simp at hb25
    refine sq ?_
    refine at_regK [6, 7] rfl ?_
    try simp [h00, o_i, f_a]
    refine at_ret (by kernel_rfl) ?_
    try simp [h00, o_i, f_a]
    rw [belowM, if_neg (by simp [hb14]), if_neg (by omega), hxd, if_pos hb25]
    exact ⟨rfl, rfl⟩
   ·
    try simp at hb25
    refine at_skip (by kernel_rfl) ?_
    try simp [h00, o_i, f_a]
    refine sq ?_
    refine at_draw [6, 7] [1, 1, 1, 1, 0, 1, 1, 0, 1, 0, 0, 3, 0] [] rfl Efol (by kernel_rfl) (by simp) ?_
    try simp [h00, o_i, f_a]
    refine (c77 k).draw hH ?_
    try simp [h00, o_i, f_a]
    refine (c81 k.draws hk.d h).draw hH ?_
    try simp [h00, o_i, f_a]
    refine (c80 k hk _ (by omega) (by omega)).draw hH ?_
    try simp [h00, o_i, f_a]
    refine (c78 k f (drawnM k (byHr k.draws h)) (find k.loads a) d1.1 d1.2 (by omega) (by omega)).draw hH ?_
    try simp [h00, o_i, f_a]
    refine at_ret (by kernel_rfl) ?_
    try simp [h00, o_i, f_a]
    rw [belowM, if_neg (by simp [hb14]), if_neg (by omega), hxd, if_neg (by omega)]
    exact ⟨rfl, rfl⟩

theorem c26 (k : Kn) (hk : Few k) (a h : Int) : Con E 26 [eKn k, I a, I h] (.tup [eSp (feetM k a h).1, I (feetM k a h).2]) := by
 intro n H hH
 have h00 := hh3 hH
 have ⟨hHs, hH', hpl⟩ := h00
 have hbb := below_b k a h
 refine at_start (fn := Tryz.f26) [.cell 6 30, .tmp 7] 32 H.length rfl rfl rfl rfl (by kernel_rfl) (by kernel_rfl) (by simp) (Nat.le_refl _) ?_
 refine sq ?_
 refine at_regK [1, 2, 3, 6] rfl ?_
 try simp [h00, o_i, f_a]
 refine sq ?_
 refine at_regK [3, 6, 8, 9] rfl ?_
 try simp [h00, o_i, f_a]
 refine (c24 k hk a h).use hH ?_
 try simp [h00, o_i, f_a]
 refine sq ?_
 refine sq ?_
 refine at_regK [3, 6, 8, 9, 18] rfl ?_
 try simp [h00, o_i, f_a]
 refine at_cond rfl rfl (fun hb18 => ?_) (fun hb18 => ?_)
 ·
  try simp at hb18
  refine sq ?_
  refine at_regK [6, 7] rfl ?_
  try simp [h00, o_i, f_a]
  refine at_ret (by kernel_rfl) ?_
  try simp [h00, o_i, f_a]
  rw [feetM, if_pos hb18]
  exact ⟨rfl, rfl⟩
 ·
  try simp at hb18
  obtain ⟨p0, p1, q0, q1, q2, q3⟩ := hbb hb18
  refine at_skip (by kernel_rfl) ?_
  try simp [h00, o_i, f_a]
  refine sq ?_
  refine at_draw [6, 7] [0, 1, 0, 1, 1, 0, 1, 0, 1, 1, 0, 3, 0] [] rfl Efol (by kernel_rfl) (by simp) ?_
  try simp [h00, o_i, f_a]
  refine (c87 _ _ q0 q1 p0 p1).draw hH ?_
  try simp [h00, o_i, f_a]
  refine (c87 _ _ q2 q3 p0 p1).draw hH ?_
  try simp [h00, o_i, f_a]
  refine at_ret (by kernel_rfl) ?_
  try simp [h00, o_i, f_a]
  rw [feetM, if_neg (by simp [hb18])]
  exact ⟨rfl, rfl⟩
end Go.Abs
/- Contracts: weights. -/
set_option linter.unusedVariables false
set_option linter.unusedSimpArgs false
set_option maxRecDepth 100000
set_option maxHeartbeats 2000000
namespace Go.Abs
open Go.RowKit Go.Proofs Go.Shaft
attribute [simp] ti22 ti23 ti24 ti26 ti30 ti42 ti45 ti52 ti122 ti125 ti88 ti92 ti46
attribute [simp] ti134 ti131 ti48
theorem c91 (k : Kn) (hk : Few k) (h : List Int) (hl : h.length = 41) (hm : marksM k ≤ 41) (hb : ∀ v : Int, 0 ≤ v → v < marksM k → -1125899906842624 ≤ gt h v ∧ gt h v ≤ 1125899906842624) : Con E 91 [eKn k, hA h] (eTr (weightsM k h)) := by
 intro n H hH
 have h00 := hh3 hH
 have ⟨hHs, hH', hpl⟩ := h00
 have hL := hk.l; have hD := hk.d
 have hmk : (marksM k : Int) = 1 + k.loads.length + k.draws.length := by simp [marksM]
 refine ACall.frz ?_
 refine at_start (fn := Tryz.f91) [.cell 4 48] 53 H.length rfl rfl rfl rfl (by kernel_rfl) (by kernel_rfl) (by simp) (Nat.le_refl _) ?_
 refine sq ?_
 refine at_regK [2, 3, 4] rfl ?_
 try simp [h00, o_i, f_a]
 refine sq ?_
 refine at_regK [2, 3, 4, 5] rfl ?_
 try simp [h00, o_i, f_a]
 refine at_leads (leads_nilC 3 1 [0] rfl rfl rfl (by decide)) ?_
 simp
 refine at_leads (leads_nilC 3 1 [1] rfl rfl rfl (by decide)) ?_
 simp
 refine sq ?_
 refine sq ?_
 refine at_regK [2, 3, 4, 5, 10, 11] rfl ?_
 try simp [h00, o_i, f_a]
 refine at_block rfl ?_
 refine at_count k.loads.length (fun i s => s = ⟨[(2, .ref false 0 0 [] 0), (3, .ref false 1 0 [] 0), (4, .ref false 2 0 [] 0), (5, .ref false 3 0 [] 0), (10, I k.loads.length), (11, I i)], [.cell (eKn k), .cell (hA h), .cell (.agg [.nilS, .nilS]), .cell (.agg [.own false 4 i, .own false 5 0]), .row 1 ((wL h i).map I), .row 1 ((wD k h 0).map I)], H⟩) rfl rfl ?_
 rintro i s hi rfl
 refine sq ?_
 refine at_regK [2, 3, 4, 5, 10, 11, 12] rfl ?_
 try simp [h00, o_i, f_a]
 refine sq ?_
 refine at_cond rfl rfl (fun hb12 => ?_) (fun hb12 => ?_)
 ·
  try simp at hb12
  have g0 := gt_some (h := h) (v := i) (by omega) (by omega)
  have g1 := gt_some (h := h) (v := (i : Int) + 1) (by omega) (by omega)
  have b0 := hb i (by omega) (by omega)
  have b1 := hb ((i : Int) + 1) (by omega) (by omega)
  have w1 : IntKind.i64.wrap ((i : Int) + 1) = (i : Int) + 1 := wrap_id (by omega) (by omega)
  have i41 : (i : Int) < 41 := by omega
  have j41 : (i : Int) + 1 < 41 := by omega
  have j0 : 0 ≤ (i : Int) + 1 := by omega
  simp only [Int.toNat_natCast] at g0
  rw [show ((i : Int) + 1).toNat = i + 1 by omega] at g1
  refine at_skip (by kernel_rfl) ?_
  try simp [h00, o_i, f_a]
  refine sq ?_
  refine at_block rfl ?_
  refine sq ?_
  refine at_regK [2, 3, 4, 5, 6, 10, 11] rfl ?_
  try simp [h00, o_i, f_a]
  refine at_draw [2, 3, 4, 5, 10, 11] [0, 1, 0, 0, 0, 1, 0, 0, 1, 0, 2, 3, 0, 3] [] rfl Efol (by kernel_rfl) (by simp) ?_
  try simp [h00, o_i, f_a, g0, g1, w1, i41, j41, j0]
  refine ⟨by omega, ?_⟩
  refine at_regC 6 [2, 3, 4, 5, 10, 11] rfl ?_
  try simp [h00, o_i, f_a]
  refine ⟨hb12, w1, ?_⟩
  rw [wL_succ, wrap_id (by omega) (by omega), List.map_append]
  rfl
 ·
  try simp at hb12
  refine at_exit rfl ?_
  try simp [h00, o_i, f_a]
  refine sq ?_
  refine sq ?_
  refine at_regK [2, 3, 4, 5, 30, 31] rfl ?_
  try simp [h00, o_i, f_a]
  refine at_block rfl ?_
  rw [show i = k.loads.length by omega]
  refine at_count k.draws.length (fun i s => s = ⟨[(2, .ref false 0 0 [] 0), (3, .ref false 1 0 [] 0), (4, .ref false 2 0 [] 0), (5, .ref false 3 0 [] 0), (30, I k.draws.length), (31, I i)], [.cell (eKn k), .cell (hA h), .cell (.agg [.nilS, .nilS]), .cell (.agg [.own false 4 k.loads.length, .own false 5 i]), .row 1 ((wL h k.loads.length).map I), .row 1 ((wD k h i).map I)], H⟩) rfl rfl ?_
  clear hi
  rintro i s hi rfl
  refine sq ?_
  refine at_regK [2, 3, 4, 5, 30, 31, 32] rfl ?_
  try simp [h00, o_i, f_a]
  refine sq ?_
  refine at_cond rfl rfl (fun hb32 => ?_) (fun hb32 => ?_)
  ·
   try simp at hb32
   have q0 := drawn_in (k := k) (a := (i : Int)) (by omega) (by omega)
   have q1 := drawn_in (k := k) (a := (i : Int) + 1) (by omega) (by omega)
   have g0 := gt_some (h := h) (v := drawnM k i) (by omega) (by omega)
   have g1 := gt_some (h := h) (v := drawnM k ((i : Int) + 1)) (by omega) (by omega)
   have b0 := hb (drawnM k i) (by omega) (by omega)
   have b1 := hb (drawnM k ((i : Int) + 1)) (by omega) (by omega)
   have w1 : IntKind.i64.wrap ((i : Int) + 1) = (i : Int) + 1 := wrap_id (by omega) (by omega)
   have i41 : drawnM k i < 41 := by omega
   have j41 : drawnM k ((i : Int) + 1) < 41 := by omega
   have i0 := q0.1
   have j0 := q1.1
   refine at_skip (by kernel_rfl) ?_
   try simp [h00, o_i, f_a]
   refine sq ?_
   refine at_block rfl ?_
   refine sq ?_
   refine at_regK [2, 3, 4, 5, 7, 30, 31] rfl ?_
   try simp [h00, o_i, f_a]
   refine at_draw [2, 3, 4, 5, 30, 31] [0, 1, 1, 0, 0, 1, 0, 1, 1, 0, 1, 0, 1, 0, 2, 3, 0, 3] [] rfl Efol (by kernel_rfl) (by simp) ?_
   try simp [h00, o_i, f_a, g0, g1, w1, i41, j41, i0, j0]
   refine (c80 k hk ((i : Int) + 1) (by omega) (by omega)).draw hH ?_
   try simp [h00, o_i, f_a, g0, g1, w1, i41, j41, i0, j0]
   refine (c80 k hk (i : Int) (by omega) (by omega)).draw hH ?_
   try simp [h00, o_i, f_a, g0, g1, w1, i41, j41, i0, j0]
   refine ⟨by omega, ?_⟩
   refine at_regC 6 [2, 3, 4, 5, 30, 31] rfl ?_
   try simp [h00, o_i, f_a]
   refine ⟨hb32, w1, ?_⟩
   rw [wD_succ, wrap_id (by omega) (by omega), List.map_append]
   rfl
  ·
   try simp at hb32
   refine at_exit rfl ?_
   try simp [h00, o_i, f_a]
   refine sq ?_
   refine at_regK [4] rfl ?_
   try simp [h00, o_i, f_a]
   refine at_ret (by kernel_rfl) ?_
   try simp [h00, o_i, f_a]
   rw [show i = k.draws.length by omega]
   simp [List.idxOf?, List.findIdx?, List.findIdx?.go, AS.frzV, AS.expo, AS.expos, AS.setMem, AV.ok, AV.oks, eTr, weights_eq, eInts]
end Go.Abs
/- Contracts: heights by weights, what is told. -/
set_option linter.unusedVariables false
set_option linter.unusedSimpArgs false
set_option maxRecDepth 100000
set_option maxHeartbeats 2000000
namespace Go.Abs
open Go.RowKit Go.Proofs Go.Shaft
attribute [simp] ti22 ti23 ti24 ti26 ti30 ti42 ti45 ti52 ti122 ti125 ti88 ti92 ti46
attribute [simp] ti134 ti131 ti48 ti85
theorem c137 (k : Kn) (hk : Few k) (t : Tr) (hl : k.loads.length ≤ 20) (hd : k.draws.length ≤ 20) (ht : TrOk k t) : Con E 137 [eKn k, eTr t] (hA (raisedM k t)) := by
 intro n H hH
 have h00 := hh3 hH
 have ⟨hHs, hH', hpl⟩ := h00
 have ll := ht.ll; have dl := ht.dl
 have hzz : List.replicate 41 (AV.int IntKind.i64 0) = zz.map I := by simp [zz]
 have hz0 : zz = raiN k t 0 0 := (rai_zero k t).symm
 refine at_start (fn := Tryz.f137) [.cell 4 131] 49 H.length rfl rfl rfl rfl (by kernel_rfl) (by kernel_rfl) (by simp) (Nat.le_refl _) ?_
 refine sq ?_
 refine at_regK [2, 3, 4] rfl ?_
 try simp [h00, o_i, f_a, hzz, -List.reduceReplicate, -List.map_replicate]
 refine sq ?_
 refine at_regK [2, 3, 4, 5] rfl ?_
 try simp [h00, o_i, f_a, hzz, -List.reduceReplicate, -List.map_replicate]
 refine sq ?_
 refine sq ?_
 refine at_regK [2, 3, 4, 5, 11, 12, 13] rfl ?_
 try simp [h00, o_i, f_a, hzz, -List.reduceReplicate, -List.map_replicate]
 refine at_block rfl ?_
 refine at_count t.loads.length (fun i s => s = ⟨[(2, .ref false 0 0 [] 0), (3, .ref false 1 0 [] 0), (4, .ref false 2 0 [] 0), (5, .ref false 3 0 [] 0), (11, eInts t.loads), (12, I t.loads.length), (13, I i)], [.cell (eKn k), .cell (eTr t), .cell (hA zz), .cell (hA (raiN k t i 0))], H⟩) rfl ?_ ?_
 ·rw [← hz0]; rfl
 rintro i s hi rfl
 refine sq ?_
 refine at_regK [2, 3, 4, 5, 11, 12, 13, 14] rfl ?_
 try simp [h00, o_i, f_a, hzz, -List.reduceReplicate, -List.map_replicate]
 refine sq ?_
 refine at_cond rfl rfl (fun hb14 => ?_) (fun hb14 => ?_)
 ·
  try simp at hb14
  obtain ⟨x, hx⟩ : ∃ x, t.loads[i]? = some x := ⟨_, List.getElem?_eq_getElem hb14⟩
  have pb := pfx_bound ht.l i
  have xb := ht.l x (List.mem_of_getElem? hx)
  have g0 : (raiN k t i 0)[i]? = some (pfx t.loads i) := by rw [rai_get k t i 0 i (by omega), if_pos (Nat.le_refl _)]
  obtain ⟨z, g1⟩ : ∃ z, (raiN k t i 0)[i + 1]? = some z := ⟨_, List.getElem?_eq_getElem (by simp; omega)⟩
  have s1 := rai_L (k := k) (t := t) (i := i) (by omega) hl hx
  have w1 : IntKind.i64.wrap ((i : Int) + 1) = (i : Int) + 1 := wrap_id (by omega) (by omega)
  have w2 : IntKind.i64.wrap (pfx t.loads i + x) = pfx t.loads i + x := wrap_id (by omega) (by omega)
  have i41 : (i : Int) < 41 := by omega
  have j41 : (i : Int) + 1 < 41 := by omega
  have j0 : 0 ≤ (i : Int) + 1 := by omega
  refine at_skip (by kernel_rfl) ?_
  try simp [h00, o_i, f_a, hzz, -List.reduceReplicate, -List.map_replicate]
  refine sq ?_
  refine at_block rfl ?_
  refine sq ?_
  refine at_regK [2, 3, 4, 5, 6, 7, 11, 12, 13] rfl ?_
  try simp [h00, o_i, f_a, hx]
  refine at_regK [2, 3, 4, 5, 11, 12, 13] rfl ?_
  try simp [h00, o_i, f_a, g0, g1, w1, w2, i41, j41, j0, ← List.map_set, s1, -List.reduceReplicate]
  refine at_regK [2, 3, 4, 5, 11, 12, 13] rfl ?_
  try simp [h00, o_i, f_a, hzz, -List.reduceReplicate, -List.map_replicate]
  exact ⟨hb14, by rw [wrap_id (by omega) (by omega)]⟩
 ·
  try simp at hb14
  rw [show i = k.loads.length by omega]
  refine at_exit rfl ?_
  try simp [h00, o_i, f_a, hzz, -List.reduceReplicate, -List.map_replicate]
  refine sq ?_
  refine sq ?_
  refine at_regK [2, 4, 5, 28, 29, 30] rfl ?_
  try simp [h00, o_i, f_a, hzz, -List.reduceReplicate, -List.map_replicate]
  refine at_block rfl ?_
  refine at_count t.draws.length (fun i s => s = ⟨[(2, .ref false 0 0 [] 0), (4, .ref false 2 0 [] 0), (5, .ref false 3 0 [] 0), (28, eInts t.draws), (29, I t.draws.length), (30, I i)], [.cell (eKn k), .cell (eTr t), .cell (hA zz), .cell (hA (raiN k t k.loads.length i))], H⟩) rfl rfl ?_
  clear hi
  rintro i s hi rfl
  refine sq ?_
  refine at_regK [2, 4, 5, 28, 29, 30, 31] rfl ?_
  try simp [h00, o_i, f_a, hzz, -List.reduceReplicate, -List.map_replicate]
  refine sq ?_
  refine at_cond rfl rfl (fun hb31 => ?_) (fun hb31 => ?_)
  ·
   try simp at hb31
   obtain ⟨x, hx⟩ : ∃ x, t.draws[i]? = some x := ⟨_, List.getElem?_eq_getElem hb31⟩
   have pb := pfx_bound ht.d i
   have xb := ht.d x (List.mem_of_getElem? hx)
   have hmk : (marksM k : Int) = 1 + k.loads.length + k.draws.length := by simp [marksM]
   have q0 := drawn_in (k := k) (a := (i : Int)) (by omega) (by omega)
   have q1 := drawn_in (k := k) (a := (i : Int) + 1) (by omega) (by omega)
   have g0 := rai_drawn (k := k) (t := t) (j := i) hl hd (by omega)
   have ge : ∀ h, (raiN k t k.loads.length i)[(drawnM k (i : Int)).toNat]'h = pfx t.draws i := fun h => Option.some.inj ((List.getElem?_eq_getElem h).symm.trans g0)
   have d1 : drawnM k ((i : Int) + 1) = ((k.loads.length + (i + 1) : Nat) : Int) := by unfold drawnM; rw [if_neg (by omega)]; omega
   obtain ⟨z, g1⟩ : ∃ z, (raiN k t k.loads.length i)[k.loads.length + (i + 1)]? = some z := ⟨_, List.getElem?_eq_getElem (by simp; omega)⟩
   have s1 := rai_D (k := k) (t := t) (j := i) (by omega) hl hd hx
   have w1 : IntKind.i64.wrap ((i : Int) + 1) = (i : Int) + 1 := wrap_id (by omega) (by omega)
   have w2 : IntKind.i64.wrap (pfx t.draws i + x) = pfx t.draws i + x := wrap_id (by omega) (by omega)
   have i41 : drawnM k i < 41 := by omega
   have i0 := q0.1
   have j41 : ((k.loads.length : Int) + ((i : Int) + 1)) < 41 := by omega
   have j0 : 0 ≤ (k.loads.length : Int) + ((i : Int) + 1) := by omega
   have jt : ((k.loads.length : Int) + ((i : Int) + 1)).toNat = k.loads.length + (i + 1) := by omega
   refine at_skip (by kernel_rfl) ?_
   try simp [h00, o_i, f_a, hzz, -List.reduceReplicate, -List.map_replicate]
   refine sq ?_
   refine at_block rfl ?_
   refine sq ?_
   refine at_regK [2, 4, 5, 8, 9, 28, 29, 30] rfl ?_
   try simp [h00, o_i, f_a, hx]
   refine at_draw [2, 4, 5, 28, 29, 30] [1, 0, 0, 1, 1, 0, 1, 0, 1, 0, 0, 0, 3] [] rfl Efol (by kernel_rfl) (by simp) ?_
   try simp [h00, o_i, f_a, g0, g1, w1, w2, i41, i0, d1, j41, j0, jt, ← List.map_set, s1, -List.reduceReplicate]
   refine (c80 k hk ((i : Int) + 1) (by omega) (by omega)).draw hH ?_
   try simp [h00, o_i, f_a, g0, g1, w1, w2, i41, i0, d1, j41, j0, jt, ← List.map_set, s1, -List.reduceReplicate]
   refine (c80 k hk (i : Int) (by omega) (by omega)).draw hH ?_
   try simp [h00, o_i, f_a, g0, g1, w1, w2, i41, i0, d1, j41, j0, jt, ← List.map_set, s1, -List.reduceReplicate]
   refine at_regK [2, 4, 5, 28, 29, 30] rfl ?_
   try simp [h00, o_i, f_a, hzz, -List.reduceReplicate, -List.map_replicate]
   refine ⟨hb31, by rw [wrap_id (by omega) (by omega)], ?_⟩
   rw [ge, w2, ← List.map_set, s1]
  ·
   try simp at hb31
   rw [show i = k.draws.length by omega]
   refine at_exit rfl ?_
   try simp [h00, o_i, f_a, hzz, -List.reduceReplicate, -List.map_replicate]
   refine sq ?_
   refine at_regK [4] rfl ?_
   try simp [h00, o_i, f_a, hzz, -List.reduceReplicate, -List.map_replicate]
   refine at_ret (by kernel_rfl) ?_
   try simp [h00, o_i, f_a, hzz, -List.reduceReplicate, -List.map_replicate]
   rfl

theorem c174 (l : List Int) (hl : l.length ≤ 100000) (f : FuncId) (cap : List AV) (p : Int → Bool) (n : Nat) (H : List AO) (hH : okH H) (hc : ∀ v ∈ cap, v.ok shd = true) (hs : ∀ v ∈ cap, v.solid = true)
  (hf : ∀ x n, x ∈ l → ACall E f (I x :: cap) n H (Is (.bool (p x)) [] H)) : ACall E 174 [eInts l, .func (.func f) [] cap] n H (Is (I (idxP l p)) [] H) := by
 have h00 := hh3 hH
 have ⟨hHs, hH', hpl⟩ := h00
 have hx : ∀ s : AS, s.expos cap = (cap, s) := fun s => expos_ok hc
 have hc2 : (∀ v ∈ cap, v.ok shd = true) ↔ True := iff_true_intro hc
 have hs2 : (∀ v ∈ cap, v.solid = true) ↔ True := iff_true_intro hs
 refine at_start (fn := Tryz.f174) [.tmp 4] 19 H.length rfl rfl rfl rfl (by kernel_rfl) (by kernel_rfl) (by simp) (Nat.le_refl _) ?_
 refine sq ?_
 refine at_regK [0, 1] rfl ?_
 try simp [h00, o_i, f_a, hx, hc2, hs2]
 refine sq ?_
 refine sq ?_
 refine at_regK [0, 1, 7, 8] rfl ?_
 try simp [h00, o_i, f_a, hx, hc2, hs2]
 refine at_block rfl ?_
 refine at_count l.length (fun i s => (∀ j y, j < i → l[j]? = some y → p y = false) ∧ s = ⟨[(0, eInts l), (1, .func (.func f) [] cap), (7, I l.length), (8, I i)], [], H⟩) rfl (⟨by simp, rfl⟩) ?_
 rintro i s hi ⟨hno, rfl⟩
 refine sq ?_
 refine at_regK [0, 1, 7, 8, 9] rfl ?_
 try simp [h00, o_i, f_a, hx, hc2, hs2]
 refine sq ?_
 refine at_cond rfl rfl (fun hb9 => ?_) (fun hb9 => ?_)
 ·
  try simp at hb9
  obtain ⟨y, hy⟩ : ∃ y, l[i]? = some y := ⟨_, List.getElem?_eq_getElem hb9⟩
  refine at_skip (by kernel_rfl) ?_
  try simp [h00, o_i, f_a, hx, hc2, hs2]
  refine sq ?_
  refine at_block rfl ?_
  refine sq ?_
  refine at_regK [0, 1, 5, 7, 8] rfl ?_
  try simp [h00, o_i, f_a, hx, hc2, hs2]
  refine sq ?_
  refine at_regK [0, 1, 5, 7, 8, 16] rfl ?_
  try simp [h00, o_i, f_a, hx, hc2, hs2, hy]
  refine (hf y _ (List.mem_of_getElem? hy)).of_is ?_
  try simp [h00, o_i, f_a, hx, hc2, hs2, hy]
  refine at_cond rfl rfl (fun hb16 => ?_) (fun hb16 => ?_)
  ·
   try simp at hb16
   refine sq ?_
   refine at_regK [4] rfl ?_
   try simp [h00, o_i, f_a, hx, hc2, hs2]
   refine at_ret (by kernel_rfl) ?_
   try simp [h00, o_i, f_a, hx, hc2, hs2]
   exact (idxP_at hy hb16 hno).symm
  ·
   try simp at hb16
   refine at_skip (by kernel_rfl) ?_
   try simp [h00, o_i, f_a, hx, hc2, hs2]
   refine at_regK [0, 1, 7, 8] rfl ?_
   try simp [h00, o_i, f_a, hx, hc2, hs2]
   refine ⟨hb9, ?_, by rw [wrap_id (by omega) (by omega)]⟩
   intro j z hj hz
   rcases Nat.lt_succ_iff_lt_or_eq.1 hj with h | rfl
   ·exact hno j z h hz
   ·rw [hy] at hz; cases hz; simpa using hb16
 ·
  try simp at hb9
  refine at_exit rfl ?_
  try simp [h00, o_i, f_a, hx, hc2, hs2]
  refine sq ?_
  refine at_regK [4] rfl ?_
  try simp [h00, o_i, f_a, hx, hc2, hs2]
  refine at_ret (by kernel_rfl) ?_
  try simp [h00, o_i, f_a, hx, hc2, hs2]
  exact (idxP_none fun j y hj hy => hno j y (by omega) hy).symm

theorem c155 (l : List Int) (hl : l.length ≤ 100000) (f : FuncId) (cap : List AV) (p : Int → Bool) (n : Nat) (H : List AO) (hH : okH H) (hc : ∀ v ∈ cap, v.ok shd = true) (hs : ∀ v ∈ cap, v.solid = true)
  (hf : ∀ x n, x ∈ l → ACall E f (I x :: cap) n H (Is (.bool (p x)) [] H)) : ACall E 155 [eInts l, .func (.func f) [] cap] n H (Is (.bool (l.any p)) [] H) := by
 have h00 := hh3 hH
 have ⟨hHs, hH', hpl⟩ := h00
 have hx : ∀ s : AS, s.expos cap = (cap, s) := fun s => expos_ok hc
 have hc2 : (∀ v ∈ cap, v.ok shd = true) ↔ True := iff_true_intro hc
 have hs2 : (∀ v ∈ cap, v.solid = true) ↔ True := iff_true_intro hs
 refine at_start (fn := Tryz.f155) [.tmp 4] 9 H.length rfl rfl rfl rfl (by kernel_rfl) (by kernel_rfl) (by simp) (Nat.le_refl _) ?_
 refine sq ?_
 refine at_regK [0, 1] rfl ?_
 try simp [h00, o_i, f_a, hx, hc2, hs2]
 refine sq ?_
 refine at_regK [4] rfl ?_
 try simp [h00, o_i, f_a, hx, hc2, hs2]
 refine ⟨by rw [oks_eq]; simpa using hc, ?_⟩
 refine (c174 l hl f cap p _ _ hH hc hs hf).of_is ?_
 try simp [h00, o_i, f_a, hx, hc2, hs2]
 refine at_ret (by kernel_rfl) ?_
 try simp [h00, o_i, f_a, hx, hc2, hs2]
 rw [← idxP_any]

end Go.Abs
/- Contracts: the first link that is not kept; Fits. -/
set_option linter.unusedVariables false
set_option linter.unusedSimpArgs false
set_option maxRecDepth 100000
set_option maxHeartbeats 2000000
namespace Go.Abs
open Go.RowKit Go.Proofs Go.Shaft
attribute [simp] ti22 ti23 ti24 ti26 ti30 ti42 ti45 ti52 ti122 ti125 ti88 ti92 ti46
attribute [simp] ti134 ti131 ti48 ti85
end Go.Abs
/- Contracts: Fits, Ties, sums of paths, CheckClash, Find, Clash. -/
set_option linter.unusedVariables false
set_option linter.unusedSimpArgs false
set_option maxRecDepth 100000
set_option maxHeartbeats 2000000
namespace Go.Abs
open Go.RowKit Go.Proofs Go.Shaft
attribute [simp] ti22 ti23 ti24 ti26 ti30 ti42 ti45 ti52 ti122 ti125 ti88 ti92 ti46
attribute [simp] ti134 ti131 ti48 ti85
theorem Con.weak {x : X} {f : FuncId} {vs : List AV} {r r' : AV} (h : Con x f vs r) (hw : ∀ c m, VR c r m → VR c r' m) : Con x f vs r' := fun n H hH => (h n H hH).res fun _ _ _ ⟨e1, e2, e3⟩ => ⟨r', by rw [e1]; exact hw, rfl, e2, e3⟩
theorem lk_get {x : Nt} {i : Int} (h0 : 0 ≤ i) (h1 : i < x.links.length) : x.links[i.toNat]? = some (lk x i) := by
 have : i.toNat < x.links.length := by omega
 simp [lk, this]

theorem c131 (x : Nt) (u : Int) (p : List Int) (hx : x.links.length ≤ 1000) (hm : ∀ t ∈ x.links, -16777216 ≤ t.most ∧ t.most ≤ 16777216) (hp : p.length ≤ 1000) : Con E 131 [eNet x, I u, eInts p] (.tup [I (sumM x u 0 p).1, I (sumM x u 0 p).2.1, .bool (sumM x u 0 p).2.2]) := by
 intro n H hH
 have h00 := hh3 hH
 have ⟨hHs, hH', hpl⟩ := h00
 refine at_start (fn := Tryz.f131) [.tmp 6, .tmp 7, .tmp 8] 52 H.length rfl rfl rfl rfl (by kernel_rfl) (by kernel_rfl) (by simp) (Nat.le_refl _) ?_
 refine sq ?_
 refine at_regK [1, 2, 3] rfl ?_
 try simp [h00, o_i, f_a]
 refine sq ?_
 refine at_regK [1, 2, 3, 9] rfl ?_
 try simp [h00, o_i, f_a]
 refine sq ?_
 refine sq ?_
 refine at_regK [1, 3, 9, 12, 13, 14] rfl ?_
 try simp [h00, o_i, f_a]
 refine at_block rfl ?_
 refine at_count p.length (fun i s => ∃ u' n', sumM x u' n' (p.drop i) = sumM x u 0 p ∧ -(16777216 * (i : Int)) ≤ n' ∧ n' ≤ 16777216 * (i : Int) ∧ s = ⟨[(1, I u'), (3, .ref false 0 0 [] 0), (9, I n'), (12, eInts p), (13, I p.length), (14, I i)], [.cell (eNet x)], H⟩) rfl ⟨u, 0, rfl, by omega, by omega, rfl⟩ ?_
 rintro i s hi ⟨u', n', hs, n0, n1, rfl⟩
 refine sq ?_
 refine at_regK [1, 3, 9, 12, 13, 14, 15] rfl ?_
 try simp [h00, o_i, f_a]
 refine sq ?_
 refine at_cond rfl rfl (fun hb15 => ?_) (fun hb15 => ?_)
 ·
  try simp at hb15
  obtain ⟨q, hq⟩ : ∃ q, p[i]? = some q := ⟨_, List.getElem?_eq_getElem hb15⟩
  rw [List.drop_eq_getElem_cons hb15, (List.getElem?_eq_some_iff.1 hq).2] at hs
  have wl : IntKind.i64.wrap ((x.links.length : Int) - 1) = (x.links.length : Int) - 1 := wrap_id (by omega) (by omega)
  refine at_skip (by kernel_rfl) ?_
  try simp [h00, o_i, f_a]
  refine sq ?_
  refine at_block rfl ?_
  refine sq ?_
  refine at_regK [1, 3, 9, 11, 12, 13, 14] rfl ?_
  try simp [h00, o_i, f_a, hq]
  refine sq ?_
  refine sq ?_
  refine at_regK [3, 9, 11, 12, 13, 14, 34] rfl ?_
  try simp [h00, o_i, f_a, wl]
  refine (c118 _ _ _).use hH ?_
  try simp [h00, o_i, f_a, wl]
  refine pops_split 25 rfl (fun hg1 => ?_) (fun hg1 => ?_)
  ·
   try simp [h00, o_i, f_a, wl, hg1]
   refine at_cond rfl rfl (fun hb34 => ?_) (fun hb34 => by simp at hb34)
   refine sq ?_
   refine at_regK [6, 7, 8] rfl ?_
   try simp [h00, o_i, f_a]
   refine at_ret (by kernel_rfl) ?_
   try simp [h00, o_i, f_a]
   rw [sumM_cons_no (fun h => by simp [h.1] at hg1)] at hs
   rw [← hs]
   exact ⟨rfl, rfl, rfl⟩
  ·
   have hin : 0 ≤ q ∧ q < x.links.length := by simp [inB] at hg1; omega
   obtain ⟨q0, q1⟩ := hin
   have hl := lk_get q0 q1
   have hlm := hm _ (List.mem_of_getElem? hl)
   have wn : IntKind.i64.wrap (n' + (lk x q).most) = n' + (lk x q).most := wrap_id (by omega) (by omega)
   try simp [h00, o_i, f_a, wl, q0, hl, wn, hg1]
   refine at_cond rfl rfl (fun hb34 => ?_) (fun hb34 => ?_)
   ·
    try simp at hb34
    refine sq ?_
    refine at_regK [6, 7, 8] rfl ?_
    try simp [h00, o_i, f_a, q0, hl, wn]
    refine at_ret (by kernel_rfl) ?_
    try simp [h00, o_i, f_a, q0, hl, wn]
    rw [sumM_cons_no (fun h => hb34 h.2)] at hs
    rw [← hs]
    exact ⟨rfl, rfl, rfl⟩
   ·
    try simp at hb34
    refine at_skip (by kernel_rfl) ?_
    try simp [h00, o_i, f_a, q0, hl, wn]
    refine at_draw [1, 3, 9, 12, 13, 14] [0, 1, 0, 0, 0, 1, 0, 0, 1, 0, 0, 0, 1, 0, 0, 0] [] rfl Efol (by kernel_rfl) (by simp) ?_
    try simp [h00, o_i, f_a, q0, hl, wn]
    refine at_regK [1, 3, 9, 12, 13, 14] rfl ?_
    try simp [h00, o_i, f_a, q0, hl, wn]
    rw [sumM_cons_yes ⟨by simpa using hg1, hb34⟩] at hs
    exact ⟨hb15, _, _, hs, by omega, by omega, rfl, rfl, by rw [wrap_id (by omega) (by omega)]⟩
 ·
  try simp at hb15
  refine at_exit rfl ?_
  try simp [h00, o_i, f_a]
  refine sq ?_
  refine at_regK [6, 7, 8] rfl ?_
  try simp [h00, o_i, f_a]
  refine at_ret (by kernel_rfl) ?_
  try simp [h00, o_i, f_a]
  rw [List.drop_of_length_le hb15, sumM] at hs
  rw [← hs]
  exact ⟨rfl, rfl, rfl⟩
end Go.Abs
/- Contracts: CheckClash, Ties, Find, Clash, marks. -/
set_option linter.unusedVariables false
set_option linter.unusedSimpArgs false
set_option maxRecDepth 100000
set_option maxHeartbeats 2000000
namespace Go.Abs
open Go.RowKit Go.Proofs Go.Shaft
attribute [simp] ti22 ti23 ti24 ti26 ti30 ti42 ti45 ti52 ti122 ti125 ti88 ti92 ti46
attribute [simp] ti134 ti131 ti48 ti85
theorem wk_tup1 {u v a : AV} (h : Wk u v) (hu : u.solid = true) (ha : a.solid = true) (c : Cx) (m : Value) : VR c (.tup [u, a]) m → VR c (.tup [v, a]) m := Wk.tup (.cons h (.cons (Wk.refl a) .nil)) (by simp [hu, ha]) c m
theorem wk_tup2 {u v a b : AV} (h : Wk u v) (hu : u.solid = true) (ha : a.solid = true) (hb : b.solid = true) (c : Cx) (m : Value) : VR c (.tup [u, a, b]) m → VR c (.tup [v, a, b]) m := Wk.tup (.cons h (.cons (Wk.refl a) (.cons (Wk.refl b) .nil))) (by simp [hu, ha, hb]) c m

theorem c54 (k : Kn) (hk : Few k) (l : List Int) (hl : l.length ≤ 100000) : Con E 54 [eKn k, eInts l] (I (checkClashM k l)) := by
 intro n H hH
 have h00 := hh3 hH
 have ⟨hHs, hH', hpl⟩ := h00
 refine at_start (fn := Tryz.f54) [.tmp 4] 62 H.length rfl rfl rfl rfl (by kernel_rfl) (by kernel_rfl) (by simp) (Nat.le_refl _) ?_
 refine sq ?_
 refine at_regK [1, 2] rfl ?_
 try simp [h00, o_i, f_a]
 refine sq ?_
 refine sq ?_
 refine at_regK [1, 2, 5] rfl ?_
 try simp [h00, o_i, f_a]
 refine (c48 _ hk).use hH ?_
 try simp [h00, o_i, f_a]
 refine sq ?_
 refine at_regK [1, 2, 5, 14] rfl ?_
 try simp [h00, o_i, f_a]
 refine at_cond rfl rfl (fun hb14 => ?_) (fun hb14 => ?_)
 ·
  try simp at hb14
  refine sq ?_
  refine at_regK [4] rfl ?_
  try simp [h00, o_i, f_a]
  refine at_ret (by kernel_rfl) ?_
  try simp [h00, o_i, f_a]
  unfold checkClashM
  rw [if_pos hb14]
 ·
  try simp at hb14
  have f := fine_of_check hb14
  have rt := right_of_check hb14
  have nl := rt.nl; have nd := rt.nd
  have hL := tiesLen k
  have hd := rt.nw
  have nlen : (netM k []).links.length = (tiesM k).length := by simp [netM]
  have wl : IntKind.i64.wrap (((netM k []).links.length : Int) - 1) = ((netM k []).links.length : Int) - 1 := wrap_id (by omega) (by omega)
  refine at_skip (by kernel_rfl) ?_
  try simp [h00, o_i, f_a, wl]
  refine sq ?_
  refine sq ?_
  refine at_regK [1, 2, 18] rfl ?_
  try simp [h00, o_i, f_a, wl]
  refine at_cond rfl rfl (fun hb18 => ?_) (fun hb18 => ?_)
  ·
   try simp at hb18
   refine sq ?_
   refine at_regK [4] rfl ?_
   try simp [h00, o_i, f_a, wl]
   refine at_ret (by kernel_rfl) ?_
   try simp [h00, o_i, f_a, wl]
   unfold checkClashM
   rw [if_neg (by simp [hb14]), if_pos (by omega)]
  ·
   try simp at hb18
   refine at_skip (by kernel_rfl) ?_
   try simp [h00, o_i, f_a, wl]
   refine sq ?_
   refine at_regK [1, 6] rfl ?_
   try simp [h00, o_i, f_a, wl]
   refine (c89n _ f).use hH ?_
   try simp [h00, o_i, f_a, wl]
   refine sq ?_
   refine sq ?_
   refine at_draw [1, 6, 34] [0, 0, 0, 0, 0, 0, 1, 0, 1, 0, 0, 1, 0, 0] [] rfl Efol (by kernel_rfl) (by simp) ?_
   try simp [h00, o_i, f_a, wl]
   refine dps_split 24 rfl (fun hg1 => ?_) (fun hg1 => ?_)
   ·
    try simp [h00, o_i, f_a, wl, hg1]
    refine at_cond rfl rfl (fun hb34 => ?_) (fun hb34 => by simp at hb34)
    refine sq ?_
    refine at_regK [4] rfl ?_
    try simp [h00, o_i, f_a, wl]
    refine at_ret (by kernel_rfl) ?_
    try simp [h00, o_i, f_a, wl]
    have : l = [] := by cases l with | nil => rfl | cons a b => simp at hg1; omega
    subst this
    unfold checkClashM
    rw [if_neg (by simp [hb14]), if_neg (by omega)]
   ·
    have hl0 : 0 < l.length := by simp at hg1; exact List.length_pos_iff.2 hg1
    obtain ⟨q, p, hqp⟩ : ∃ q p, l = q :: p := by cases l with | nil => simp at hl0 | cons q p => exact ⟨q, p, rfl⟩
    have hq0 : l[0]? = some q := by rw [hqp]; rfl
    try simp [h00, o_i, f_a, wl, hq0, hg1]
    refine (c118 _ _ _).draw hH ?_
    try simp [h00, o_i, f_a, wl, hq0]
    refine at_cond rfl rfl (fun hb34 => ?_) (fun hb34 => ?_)
    ·
     try simp at hb34
     refine sq ?_
     refine at_regK [4] rfl ?_
     try simp [h00, o_i, f_a, wl, hq0]
     refine at_ret (by kernel_rfl) ?_
     try simp [h00, o_i, f_a, wl, hq0]
     unfold checkClashM
     rw [if_neg (by simp [hb14]), if_neg (by omega), hqp]
     simp only
     rw [if_pos (by rw [← nlen]; exact hb34)]
    ·
     try simp at hb34
     have hin : 0 ≤ q ∧ q < (netM k []).links.length := by simp [inB] at hb34; omega
     obtain ⟨q0, q1⟩ := hin
     have hlk := lk_get q0 q1
     refine at_skip (by kernel_rfl) ?_
     try simp [h00, o_i, f_a, wl, hq0, q0, hlk]
     refine sq ?_
     refine at_draw [1, 6, 7] [0, 1, 0, 0, 1, 0, 0, 1, 0] [] rfl Efol (by kernel_rfl) (by simp) ?_
     try simp [h00, o_i, f_a, wl, hq0, q0, hlk]
     refine sq ?_
     refine sq ?_
     refine at_regK [7, 8, 9, 10] rfl ?_
     try simp [h00, o_i, f_a, wl, hq0, q0, hlk]
     refine (c131 (netM k []) _ l (by omega) (fun t ht => ⟨f.wf.m0 t ht, f.wf.m1 t ht⟩) (by omega)).use hH ?_
     obtain ⟨⟨s1, s2, s3⟩, hsu⟩ : ∃ r, sumM (netM k []) (lk (netM k []) q).frm 0 l = r := ⟨_, rfl⟩
     rw [hsu]
     try simp [h00, o_i, f_a, wl, hq0, q0, hlk]
     refine sq ?_
     refine at_regK [61] rfl ?_
     try simp [h00, o_i, f_a, wl, hq0, q0, hlk]
     refine pops_split 53 rfl (fun hg2 => ?_) (fun hg2 => ?_)
     ·
      try simp [h00, o_i, f_a, wl, hq0, q0, hlk, hg2]
      refine at_cond rfl rfl (fun hb61 => ?_) (fun hb61 => by simp at hb61)
      refine sq ?_
      refine at_regK [4] rfl ?_
      try simp [h00, o_i, f_a, wl, hq0, q0, hlk]
      refine at_ret (by kernel_rfl) ?_
      try simp [h00, o_i, f_a, wl, hq0, q0, hlk]
      unfold checkClashM
      rw [if_neg (by simp [hb14]), if_neg (by omega), hqp]
      simp only
      rw [if_neg (by rw [← nlen]; simp [hb34]), ← hqp, hsu]
      simp only
      rw [if_pos (by (try simp at hg2); simp [hg2])]
     ·
      try simp [h00, o_i, f_a, wl, hq0, q0, hlk, hg2]
      refine pops_split 58 rfl (fun hg3 => ?_) (fun hg3 => ?_)
      ·
       try simp [h00, o_i, f_a, wl, hq0, q0, hlk, hg3]
       refine at_cond rfl rfl (fun hb61 => ?_) (fun hb61 => by simp at hb61)
       refine sq ?_
       refine at_regK [4] rfl ?_
       try simp [h00, o_i, f_a, wl, hq0, q0, hlk]
       refine at_ret (by kernel_rfl) ?_
       try simp [h00, o_i, f_a, wl, hq0, q0, hlk]
       unfold checkClashM
       rw [if_neg (by simp [hb14]), if_neg (by omega), hqp]
       simp only
       rw [if_neg (by rw [← nlen]; simp [hb34]), ← hqp, hsu]
       simp only
       rw [if_pos (by (try simp at hg3); simp [hg3])]
      ·
       try simp [h00, o_i, f_a, wl, hq0, q0, hlk, hg3]
       refine at_cond rfl rfl (fun hb61 => ?_) (fun hb61 => ?_)
       ·
        try simp at hb61
        refine sq ?_
        refine at_regK [4] rfl ?_
        try simp [h00, o_i, f_a, wl, hq0, q0, hlk]
        refine at_ret (by kernel_rfl) ?_
        try simp [h00, o_i, f_a, wl, hq0, q0, hlk]
        unfold checkClashM
        rw [if_neg (by simp [hb14]), if_neg (by omega), hqp]
        simp only
        rw [if_neg (by rw [← nlen]; simp [hb34]), ← hqp, hsu]
        simp only
        rw [if_pos (by (try simp at hb61); simp [hb61])]
       ·
        try simp at hb61
        refine at_skip (by kernel_rfl) ?_
        try simp [h00, o_i, f_a, wl, hq0, q0, hlk]
        refine sq ?_
        refine at_regK [4] rfl ?_
        try simp [h00, o_i, f_a, wl, hq0, q0, hlk]
        refine at_ret (by kernel_rfl) ?_
        try simp [h00, o_i, f_a, wl, hq0, q0, hlk]
        unfold checkClashM
        rw [if_neg (by simp [hb14]), if_neg (by omega), hqp]
        simp only
        rw [if_neg (by rw [← nlen]; simp [hb34]), ← hqp, hsu]
        simp only
        rw [if_neg (by (try simp at hg2); (try simp at hg3); (try simp at hb61); simp [hg2, hg3]; omega)]

theorem c156 (k : Kn) (hk : Few k) (a : Int) (j n : Nat) (H : List AO) (hH : okH H) (hj : H[j]? = some (.cell (eKn k))) : ACall E 156 [I a, .ref true j 0 [] 0] n H (Is (.bool (!inB a 0 ((marksM k : Int) - 1))) [] H) := by
 have h00 := hh3 hH
 have ⟨hHs, hH', hpl⟩ := h00
 have hm : (marksM k : Int) = 1 + k.loads.length + k.draws.length := by simp [marksM]
 have := hk.l; have := hk.d
 have wm : IntKind.i64.wrap ((marksM k : Int) - 1) = (marksM k : Int) - 1 := wrap_id (by omega) (by omega)
 refine at_start (fn := Tryz.f156) [.tmp 3] 10 H.length rfl rfl rfl rfl (by kernel_rfl) (by kernel_rfl) (by simp) (Nat.le_refl _) ?_
 refine sq ?_
 refine at_regK [0, 1] rfl ?_
 try simp [h00, o_i, f_a, hj, wm]
 refine sq ?_
 refine at_regK [3] rfl ?_
 try simp [h00, o_i, f_a, hj, wm]
 refine (c143 _ hk).use hH ?_
 try simp [h00, o_i, f_a, hj, wm]
 refine (c118 _ _ _).use hH ?_
 try simp [h00, o_i, f_a, hj, wm]
 refine at_ret (by kernel_rfl) ?_
 try simp [h00, o_i, f_a, hj, wm]

theorem c110 (k : Kn) (hk : Few k) (l : List Int) (hl : l.length ≤ 1000) : Con E 110 [eKn k, eInts l] (I (markedM k l)) := by
 intro n H hH
 have h00 := hh3 hH
 have ⟨hHs, hH', hpl⟩ := h00
 refine at_start (fn := Tryz.f110) [.tmp 4] 14 H.length rfl rfl rfl rfl (by kernel_rfl) (by kernel_rfl) (by simp) (Nat.le_refl _) ?_
 refine sq ?_
 refine at_regK [1, 2] rfl ?_
 try simp [h00, o_i, f_a]
 refine sq ?_
 refine sq ?_
 refine at_regK [1, 2, 5] rfl ?_
 try simp [h00, o_i, f_a]
 refine (c48 _ hk).use hH ?_
 try simp [h00, o_i, f_a]
 refine sq ?_
 refine at_regK [1, 2, 5, 9] rfl ?_
 try simp [h00, o_i, f_a]
 refine at_cond rfl rfl (fun hb9 => ?_) (fun hb9 => ?_)
 ·
  try simp at hb9
  refine sq ?_
  refine at_regK [4] rfl ?_
  try simp [h00, o_i, f_a]
  refine at_ret (by kernel_rfl) ?_
  try simp [h00, o_i, f_a]
  rw [markedM, if_pos hb9]
 ·
  try simp at hb9
  refine at_skip (by kernel_rfl) ?_
  try simp [h00, o_i, f_a]
  refine sq ?_
  refine sq ?_
  refine at_regK [13] rfl ?_
  try simp [h00, o_i, f_a]
  refine (c155 l (by omega) 156 [.ref true H.length 0 [] 0] (fun n => !inB n 0 ((marksM k : Int) - 1)) _ _ (okH_push (o := .cell (eKn k)) hH (by simp)) (by simp) (by simp) (fun x n _ => c156 k hk x _ n _ (okH_push (o := .cell (eKn k)) hH (by simp)) (by simp))).of_is ?_
  try simp [h00, o_i, f_a]
  refine at_cond rfl rfl (fun hb13 => ?_) (fun hb13 => ?_)
  ·
   try simp at hb13
   refine sq ?_
   refine at_regK [4] rfl ?_
   try simp [h00, o_i, f_a]
   refine at_ret (by kernel_rfl) ?_
   try simp [h00, o_i, f_a]
   rw [markedM, if_neg (by simp [hb9]), if_pos]
   simpa using hb13
  ·
   try simp at hb13
   refine at_skip (by kernel_rfl) ?_
   try simp [h00, o_i, f_a]
   refine sq ?_
   refine at_regK [4] rfl ?_
   try simp [h00, o_i, f_a]
   refine at_ret (by kernel_rfl) ?_
   try simp [h00, o_i, f_a]
   rw [markedM, if_neg (by simp [hb9]), if_neg]
   simpa using hb13

theorem c51a (k : Kn) (hk : Few k) : Con E 51 [eKn k] (.tup [if check k ≠ 0 then .nilS else eTies (tiesM k), I (check k)]) := by
 intro n H hH
 have h00 := hh3 hH
 have ⟨hHs, hH', hpl⟩ := h00
 refine ACall.frz ?_
 refine at_start (fn := Tryz.f51) [.tmp 2, .tmp 3] 13 H.length rfl rfl rfl rfl (by kernel_rfl) (by kernel_rfl) (by simp) (Nat.le_refl _) ?_
 refine sq ?_
 refine at_regK [1] rfl ?_
 try simp [h00, o_i, f_a]
 refine sq ?_
 refine sq ?_
 refine at_regK [1, 4] rfl ?_
 try simp [h00, o_i, f_a]
 refine (c48 _ hk).use hH ?_
 try simp [h00, o_i, f_a]
 refine sq ?_
 refine at_regK [1, 4, 8] rfl ?_
 try simp [h00, o_i, f_a]
 refine at_cond rfl rfl (fun hb8 => ?_) (fun hb8 => ?_)
 ·
  try simp at hb8
  refine sq ?_
  refine at_regK [2, 3] rfl ?_
  try simp [h00, o_i, f_a]
  refine at_ret (by kernel_rfl) ?_
  try simp [h00, o_i, f_a]
  simp [AS.frzV, AS.expo, AS.expos, AS.setMem, AV.ok, AV.oks, hb8]
 ·
  try simp at hb8
  have f := fine_of_check hb8
  have rt := right_of_check hb8
  have nl := rt.nl; have nd := rt.nd
  refine at_skip (by kernel_rfl) ?_
  try simp [h00, o_i, f_a]
  refine sq ?_
  refine at_regK [2, 3] rfl ?_
  try simp [h00, o_i, f_a]
  refine (c125 k).use hH ?_
  try simp [h00, o_i, f_a]
  refine (c124 k hk f.lo _ _ hH).of_is ?_
  try simp [h00, o_i, f_a]
  refine at_ret (by kernel_rfl) ?_
  try simp [h00, o_i, f_a]
  simp [AS.frzV, AS.expo, AS.expos, AS.setMem, AV.ok, AV.oks, hb8, eTies]

theorem c51 (k : Kn) (hk : Few k) : Con E 51 [eKn k] (.tup [eTies (tiesAll k).1, I (tiesAll k).2]) := by
 refine (c51a k hk).weak ?_
 unfold tiesAll
 split
 ·exact wk_tup1 (Wk.nil 4) rfl rfl
 ·rename_i h
  simp at h
  rw [h]
  exact fun _ _ h => h

def findV (k : Kn) : AV := if check k ≠ 0 ∨ (settleM (netM k []) 0).2.2.isSome then .agg [.nilS, .nilS] else eTr (weightsM k (settleM (netM k []) 0).1)
theorem c29a (k : Kn) (hk : Few k) : Con E 29 [eKn k] (.tup [findV k, I (findM k).2]) := by
 intro n H hH
 have h00 := hh3 hH
 have ⟨hHs, hH', hpl⟩ := h00
 refine at_start (fn := Tryz.f29) [.cell 2 48, .tmp 3] 27 H.length rfl rfl rfl rfl (by kernel_rfl) (by kernel_rfl) (by simp) (Nat.le_refl _) ?_
 refine sq ?_
 refine at_regK [1, 2] rfl ?_
 try simp [h00, o_i, f_a]
 refine sq ?_
 refine sq ?_
 refine at_regK [1, 2, 4] rfl ?_
 try simp [h00, o_i, f_a]
 refine (c48 _ hk).use hH ?_
 try simp [h00, o_i, f_a]
 refine sq ?_
 refine at_regK [1, 2, 4, 11] rfl ?_
 try simp [h00, o_i, f_a]
 refine at_cond rfl rfl (fun hb11 => ?_) (fun hb11 => ?_)
 ·
  try simp at hb11
  refine sq ?_
  refine at_regK [2, 3] rfl ?_
  try simp [h00, o_i, f_a]
  refine at_ret (by kernel_rfl) ?_
  try simp [h00, o_i, f_a]
  rw [findV, if_pos (.inl hb11), findM, if_pos hb11]
  exact ⟨rfl, rfl⟩
 ·
  try simp at hb11
  have f := fine_of_check hb11
  have rt := right_of_check hb11
  have nl := rt.nl; have nd := rt.nd
  obtain ⟨⟨h, q, o⟩, hr⟩ : ∃ r, settleM (netM k []) 0 = r := ⟨_, rfl⟩
  have hne : o ≠ some [] := fun e => settle_ne f.wf.n0 (a := 0) (l := []) (by rw [hr, e]) rfl
  have hlen : h.length = 41 := by have := settle_len f.wf (a := 0) (by omega) (by have := f.wf.n0; exact this); rwa [hr] at this
  have hbo : ∀ v : Int, 0 ≤ v → v < marksM k → -1125899906842624 ≤ gt h v ∧ gt h v ≤ 1125899906842624 := fun v v0 v1 => by have := settle_bound f.wf (a := 0) (by omega) (by have := f.wf.n0; exact this) v0 v1; rwa [hr] at this
  refine at_skip (by kernel_rfl) ?_
  try simp [h00, o_i, f_a, hlen, hne]
  refine sq ?_
  refine at_regK [1, 2, 5, 7] rfl ?_
  try simp [h00, o_i, f_a, hlen, hne]
  refine (c89n k f).use hH ?_
  try simp [h00, o_i, f_a, hlen, hne]
  refine (c90 (netM k []) f.wf 0 (by omega) (by have := f.wf.n0; exact this)).use hH ?_
  rw [hr]
  simp only [eSet]
  try simp [h00, o_i, f_a, hlen, hne]
  refine sq ?_
  refine sq ?_
  refine at_regK [1, 2, 5, 22] rfl ?_
  try simp [h00, o_i, f_a, hlen, hne]
  refine at_cond rfl rfl (fun hb22 => ?_) (fun hb22 => ?_)
  ·
   try simp at hb22
   refine sq ?_
   refine at_regK [2, 3] rfl ?_
   try simp [h00, o_i, f_a, hlen, hne]
   refine at_ret (by kernel_rfl) ?_
   try simp [h00, o_i, f_a, hlen, hne]
   have hs : o.isSome = true := by cases o <;> simp_all
   rw [findV, hr, if_pos (.inr hs), findM, if_neg (by simp [hb11]), hr, if_neg (by cases o <;> simp_all)]
   exact ⟨rfl, rfl⟩
  ·
   try simp at hb22
   refine at_skip (by kernel_rfl) ?_
   try simp [h00, o_i, f_a, hlen, hne]
   refine sq ?_
   refine at_regK [2, 3] rfl ?_
   try simp [h00, o_i, f_a, hlen, hne]
   refine (c91 k hk h hlen (by have := f.wf.n1; have e : (netM k []).n = (marksM k : Int) := rfl; omega) hbo).use hH ?_
   try simp [h00, o_i, f_a, hlen, hne]
   refine at_ret (by kernel_rfl) ?_
   try simp [h00, o_i, f_a, hlen, hne]
   have hs : o = none := by cases o <;> simp_all
   rw [findV, hr, if_neg (by simp [hb11, hs]), findM, if_neg (by simp [hb11]), hr, hs]
   exact ⟨rfl, rfl⟩

theorem c29 (k : Kn) (hk : Few k) : Con E 29 [eKn k] (.tup [eTr (findM k).1, I (findM k).2]) := by
 refine (c29a k hk).weak ?_
 unfold findV
 by_cases hc : check k = 0
 ·cases ho : (settleM (netM k []) 0).2.2 with
  | none =>
   have e : (findM k).1 = weightsM k (settleM (netM k []) 0).1 := by rw [findM, if_neg (by simp [hc]), ho]; rfl
   rw [if_neg (by simp [hc]), e]
   exact fun _ _ h => h
  | some l =>
   have e : (findM k).1 = zTr := by rw [findM, if_neg (by simp [hc]), ho]; rfl
   rw [if_pos (by simp), e]
   exact wk_tup1 (Wk.agg (.cons (Wk.nil 1) (.cons (Wk.nil 1) .nil))) rfl rfl
 ·have e : (findM k).1 = zTr := by rw [findM, if_pos hc]
  rw [if_pos (.inl hc), e]
  exact wk_tup1 (Wk.agg (.cons (Wk.nil 1) (.cons (Wk.nil 1) .nil))) rfl rfl

theorem c52a (k : Kn) (hk : Few k) : Con E 52 [eKn k] (.tup [eOp (clashM k).1, .bool (clashM k).1.isSome, I (clashM k).2]) := by
 intro n H hH
 have h00 := hh3 hH
 have ⟨hHs, hH', hpl⟩ := h00
 refine at_start (fn := Tryz.f52) [.tmp 2, .tmp 3, .tmp 4] 24 H.length rfl rfl rfl rfl (by kernel_rfl) (by kernel_rfl) (by simp) (Nat.le_refl _) ?_
 refine sq ?_
 refine at_regK [1] rfl ?_
 try simp [h00, o_i, f_a]
 refine sq ?_
 refine sq ?_
 refine at_regK [1, 5] rfl ?_
 try simp [h00, o_i, f_a]
 refine (c48 _ hk).use hH ?_
 try simp [h00, o_i, f_a]
 refine sq ?_
 refine at_regK [1, 5, 12] rfl ?_
 try simp [h00, o_i, f_a]
 refine at_cond rfl rfl (fun hb12 => ?_) (fun hb12 => ?_)
 ·
  try simp at hb12
  refine sq ?_
  refine at_regK [2, 3, 4] rfl ?_
  try simp [h00, o_i, f_a]
  refine at_ret (by kernel_rfl) ?_
  try simp [h00, o_i, f_a]
  rw [clashM, if_pos hb12]
  exact ⟨rfl, rfl, rfl⟩
 ·
  try simp at hb12
  have f := fine_of_check hb12
  have rt := right_of_check hb12
  have nl := rt.nl; have nd := rt.nd
  obtain ⟨⟨h, q, o⟩, hr⟩ : ∃ r, settleM (netM k []) 0 = r := ⟨_, rfl⟩
  have hne : o ≠ some [] := fun e => settle_ne f.wf.n0 (a := 0) (l := []) (by rw [hr, e]) rfl
  have hlen : h.length = 41 := by have := settle_len f.wf (a := 0) (by omega) (by have := f.wf.n0; exact this); rwa [hr] at this
  have hbo : ∀ v : Int, 0 ≤ v → v < marksM k → -1125899906842624 ≤ gt h v ∧ gt h v ≤ 1125899906842624 := fun v v0 v1 => by have := settle_bound f.wf (a := 0) (by omega) (by have := f.wf.n0; exact this) v0 v1; rwa [hr] at this
  refine at_skip (by kernel_rfl) ?_
  try simp [h00, o_i, f_a, hlen, hne]
  refine sq ?_
  refine at_regK [8] rfl ?_
  try simp [h00, o_i, f_a, hlen, hne]
  refine (c89n k f).use hH ?_
  try simp [h00, o_i, f_a, hlen, hne]
  refine (c90 (netM k []) f.wf 0 (by omega) (by have := f.wf.n0; exact this)).use hH ?_
  rw [hr]
  simp only [eSet]
  try simp [h00, o_i, f_a, hlen, hne]
  refine sq ?_
  refine at_regK [2, 3, 4] rfl ?_
  try simp [h00, o_i, f_a, hlen, hne]
  refine at_ret (by kernel_rfl) ?_
  try simp [h00, o_i, f_a, hlen, hne]
  rw [clashM, if_neg (by simp [hb12]), hr]
  refine ⟨rfl, ?_, rfl⟩
  cases o <;> rfl

theorem c52 (k : Kn) (hk : Few k) : Con E 52 [eKn k] (.tup [eInts ((clashM k).1.getD []), .bool (clashM k).1.isSome, I (clashM k).2]) := by
 refine (c52a k hk).weak ?_
 cases (clashM k).1 with
 | none => exact wk_tup2 (Wk.nil 1) rfl rfl rfl
 | some l => exact fun _ _ h => h
end Go.Abs
/- Contracts: paths, Above, CheckAbove. -/
set_option linter.unusedVariables false
set_option linter.unusedSimpArgs false
set_option maxRecDepth 100000
set_option maxHeartbeats 2000000
namespace Go.Abs
open Go.RowKit Go.Proofs Go.Shaft
attribute [simp] ti22 ti23 ti24 ti26 ti30 ti42 ti45 ti52 ti122 ti125 ti88 ti92 ti46
attribute [simp] ti134 ti131 ti48 ti85
end Go.Abs
/- Contracts: what a draw takes of a load. -/
set_option linter.unusedVariables false
set_option linter.unusedSimpArgs false
set_option maxRecDepth 100000
set_option maxHeartbeats 2000000
namespace Go.Abs
open Go.RowKit Go.Proofs Go.Shaft
attribute [simp] ti22 ti23 ti24 ti26 ti30 ti42 ti45 ti52 ti122 ti125 ti88 ti92 ti46
attribute [simp] ti134 ti131 ti48 ti85 ti143 ti189 ti190 ti192
section
variable (p : Bool → Nat → Bool) (q : List Nat)

def eOv (o : Ov) : AV := .agg [I o.a, I o.b, I o.c, I o.d]
@[simp] theorem eOv_ok (o : Ov) : (eOv o).ok p = true := by simp [eOv, AV.ok, AV.oks]
@[simp] theorem eOv_solid (o : Ov) : (eOv o).solid = true := rfl
@[simp] theorem eOv_agg (o : Ov) : (eOv o).isAgg = true := rfl
@[simp] theorem eOv_size (o : Ov) : (eOv o).size = 4 := rfl
@[simp] theorem eOv_notTup (o : Ov) : notTup (eOv o) = true := rfl
@[simp] theorem eOv_0 (o : Ov) : (eOv o).sub (0 :: q) = ((I o.a).sub q).map fun r => (r.1, 0 + r.2) := rfl
@[simp] theorem eOv_1 (o : Ov) : (eOv o).sub (1 :: q) = ((I o.b).sub q).map fun r => (r.1, 1 + r.2) := rfl
@[simp] theorem eOv_2 (o : Ov) : (eOv o).sub (2 :: q) = ((I o.c).sub q).map fun r => (r.1, 2 + r.2) := rfl
@[simp] theorem eOv_3 (o : Ov) : (eOv o).sub (3 :: q) = ((I o.d).sub q).map fun r => (r.1, 3 + r.2) := rfl
@[simp] theorem loc_eOv (o : Ov) (m : Nat) : (eOv o).locs m = [] := (pure_out (by simp) [] 0 m).1
@[simp] theorem out_eOv (o : Ov) (js : List Nat) (n m : Nat) : (eOv o).outR js n m = some (eOv o) := (pure_out (by simp) js n m).2
end
def ePair (x : Int × Int) : AV := .arr 1 [I x.1, I x.2]
def ePairs (o : Ov) : AV := .arr 2 ((pairsL o).map ePair)
@[simp] theorem ePair_ok (p : Bool → Nat → Bool) (x : Int × Int) : (ePair x).ok p = true := by simp [ePair, AV.ok, AV.oks]
@[simp] theorem ePair_size (x : Int × Int) : (ePair x).size = 2 := rfl
@[simp] theorem ePair_agg (x : Int × Int) : (ePair x).isAgg = true := rfl
@[simp] theorem ePair_solid (x : Int × Int) : (ePair x).solid = true := rfl
@[simp] theorem ePair_sub0 (x : Int × Int) : (ePair x).sub [0] = some (I x.1, 0) := rfl
@[simp] theorem ePair_sub1 (x : Int × Int) : (ePair x).sub [1] = some (I x.2, 1) := rfl
@[simp] theorem ePairs_agg (o : Ov) : (ePairs o).isAgg = true := rfl
@[simp] theorem ePairs_ok (p : Bool → Nat → Bool) (o : Ov) : (ePairs o).ok p = true := by rw [ePairs, AV.ok]; exact oks_map p _ (fun a => ePair_ok p a) _
theorem ePairs_sub (o : Ov) {i : Nat} {x : Int × Int} (h : (pairsL o)[i]? = some x) : (ePairs o).sub [i] = some (ePair x, i * 2) := by
 unfold ePairs AV.sub
 rw [List.getElem?_map, h]
 rfl
@[simp] theorem mvV_refT (j k i v : Nat) (p : List Nat) (o : Nat) : mvV j k (.ref true i v p o) = .ref true i v p o := mvV_id _ (by simp)
def accV : Option (Int × Tr) → AV
 | none => .agg [.nilS, .nilS]
 | some q => eTr q.2
@[simp] theorem accV_ok (p : Bool → Nat → Bool) (a : Option (Int × Tr)) : (accV a).ok p = true := by cases a <;> simp [accV, AV.ok, AV.oks]
@[simp] theorem accV_agg (a : Option (Int × Tr)) : (accV a).isAgg = true := by cases a <;> rfl
@[simp] theorem accV_size (a : Option (Int × Tr)) : (accV a).size = 2 := by cases a <;> rfl
@[simp] theorem accV_solid (a : Option (Int × Tr)) : (accV a).solid = true := by cases a <;> rfl
@[simp] theorem accV_nt (a : Option (Int × Tr)) : notTup (accV a) = true := by cases a <;> rfl
@[simp] theorem accV_some (q : Int × Tr) : accV (some q) = eTr q.2 := rfl
@[simp] theorem mvV_eOv (j k : Nat) (o : Ov) : mvV j k (eOv o) = eOv o := mvV_id _ (by simp)

theorem c148 (o : Ov) : Con E 148 [eOv o] (ePairs o) := by
 intro n H hH
 have h00 := hh3 hH
 have ⟨hHs, hH', hpl⟩ := h00
 refine at_start (fn := Tryz.f148) [.cell 2 190] 24 H.length rfl rfl rfl rfl (by kernel_rfl) (by kernel_rfl) (by simp) (Nat.le_refl _) ?_
 refine sq ?_
 refine at_regK [1, 2] rfl ?_
 try simp [h00, o_i, f_a]
 refine sq ?_
 refine at_regK [2] rfl ?_
 try simp [h00, o_i, f_a]
 refine at_ret (by kernel_rfl) ?_
 try simp [h00, o_i, f_a]
 rfl

theorem c98 (k : Kn) (f : Fine k) (o : Ov) (hv : OvIn k o) : Con E 98 [eOv o, eKn k] (.tup [I (leastM k o).1, eTr (leastM k o).2]) := by
 intro n H hH
 have h00 := hh3 hH
 have ⟨hHs, hH', hpl⟩ := h00
 have hk := f.few
 have n1 := f.wf.n1
 have hnm : (netM k []).n = (marksM k : Int) := rfl
 have hpl4 : (pairsL o).length = 4 := rfl
 refine at_start (fn := Tryz.f98) [.tmp 4, .cell 5 48] 49 H.length rfl rfl rfl rfl (by kernel_rfl) (by kernel_rfl) (by simp) (Nat.le_refl _) ?_
 refine sq ?_
 refine at_regK [2, 3, 5] rfl ?_
 try simp [h00, o_i, f_a]
 refine sq ?_
 refine at_regK [2, 3, 5, 6] rfl ?_
 try simp [h00, o_i, f_a]
 refine sq ?_
 refine at_regK [2, 3, 5, 6, 7, 8] rfl ?_
 try simp [h00, o_i, f_a]
 refine sq ?_
 refine sq ?_
 refine at_regK [3, 5, 6, 7, 8, 16, 17] rfl ?_
 try simp [h00, o_i, f_a]
 refine (c148 o).use hH ?_
 try simp [h00, o_i, f_a]
 refine at_block rfl ?_
 refine at_count 4 (fun i s => ∃ acc : Option (Int × Tr), ((pairsL o).drop i).foldl (stepL k) acc = (pairsL o).foldl (stepL k) none ∧ (acc = none → i = 0) ∧ s = ⟨[(3, .ref false 1 0 [] 0), (5, .ref false 2 0 [] 0), (6, .ref false 3 0 [] 0), (7, I ((acc.map (·.1)).getD 0)), (8, .bool acc.isSome), (16, ePairs o), (17, I i)], [.cell (eOv o), .cell (eKn k), .cell (.agg [.nilS, .nilS]), .cell (accV acc)], H⟩) rfl ⟨none, rfl, fun _ => rfl, rfl⟩ ?_
 rintro i s hi ⟨acc, hacc, hz, rfl⟩
 refine sq ?_
 refine at_regK [3, 5, 6, 7, 8, 16, 17, 18] rfl ?_
 try simp [h00, o_i, f_a]
 refine sq ?_
 refine at_cond rfl rfl (fun hb18 => ?_) (fun hb18 => ?_)
 ·
  try simp at hb18
  have hi4 : i < 4 := by omega
  have hi4c : (i : Int) < 4 := by omega
  obtain ⟨x, hx⟩ : ∃ x, (pairsL o)[i]? = some x := ⟨_, List.getElem?_eq_getElem (by omega)⟩
  have hsub := ePairs_sub o hx
  have hin := pairs_in hv x (List.mem_of_getElem? hx)
  have q0 := hin.1; have q1 := hin.2.1; have q2 := hin.2.2.1; have q3 := hin.2.2.2
  rw [List.drop_eq_getElem_cons (by omega), (List.getElem?_eq_some_iff.1 hx).2, List.foldl_cons] at hacc
  obtain ⟨⟨h, q, o'⟩, hr⟩ : ∃ r, settleM (netM k []) x.2 = r := ⟨_, rfl⟩
  have hlen : h.length = 41 := by have := settle_len f.wf (a := x.2) q2 q3; rwa [hr] at this
  have hbo : ∀ v : Int, 0 ≤ v → v < marksM k → -1125899906842624 ≤ gt h v ∧ gt h v ≤ 1125899906842624 := fun v v0 v1 => by have := settle_bound f.wf (a := x.2) q2 q3 v0 v1; rwa [hr] at this
  have hb1 := hbo x.1 q0 q1
  have hg := gt_some (h := h) (v := x.1) q0 (by omega)
  have ge : ∀ p, h[x.1.toNat]'p = gt h x.1 := fun p => Option.some.inj ((List.getElem?_eq_getElem p).symm.trans hg)
  have wn : IntKind.i64.wrap (-gt h x.1) = -gt h x.1 := wrap_id (by omega) (by omega)
  have x41 : x.1 < 41 := by omega
  have hlo : loOf k x = mxI 0 (-gt h x.1) := by rw [loOf, hr]
  have hmx : mxI 0 (-gt h x.1) = if -gt h x.1 > 0 then -gt h x.1 else 0 := rfl
  refine at_skip (by kernel_rfl) ?_
  try simp [h00, o_i, f_a]
  refine sq ?_
  refine at_block rfl ?_
  refine sq ?_
  refine at_regK [3, 5, 6, 7, 8, 10, 16, 17] rfl ?_
  try simp [h00, o_i, f_a, hi4, hi4c, hsub]
  refine sq ?_
  refine at_draw [3, 5, 6, 7, 8, 10, 11, 16, 17] [1, 1, 0, 1, 1, 0, 0, 0, 0, 2, 3, 0, 0] [] rfl Efol (by kernel_rfl) (by simp) ?_
  try simp [h00, o_i, f_a, hlen]
  refine (c89n k f).draw hH ?_
  try simp [h00, o_i, f_a, hlen]
  refine (c90 (netM k []) f.wf x.2 q2 q3).draw hH ?_
  rw [hr]
  simp only [eSet]
  try simp [h00, o_i, f_a, hlen]
  refine sq ?_
  refine at_regK [3, 5, 6, 7, 8, 11, 14, 16, 17] rfl ?_
  try simp [h00, o_i, f_a, hlen, q0, x41]
  refine sq ?_
  refine at_regK [3, 5, 6, 7, 8, 11, 14, 16, 17, 41] rfl ?_
  try simp [h00, o_i, f_a]
  refine pops_split 37 rfl (fun hg1 => ?_) (fun hg1 => ?_)
  ·
   try simp [h00, o_i, f_a, hg1]
   refine at_cond rfl rfl (fun hb41 => ?_) (fun hb41 => by simp at hb41)
   refine at_regK [3, 5, 6, 7, 8, 16, 17] rfl ?_
   try simp [h00, o_i, f_a, hlen]
   refine (c91 k hk h hlen (by omega) hbo).use hH ?_
   try simp [h00, o_i, f_a, hlen]
   refine at_regC 4 [3, 5, 6, 7, 8, 16, 17] rfl ?_
   try simp [h00, o_i, f_a]
   have ha : acc = none := by simpa using hg1
   subst ha
   have hst : stepL k none x = some (mxI 0 (-gt h x.1), weightsM k h) := by rw [stepL, hlo, hr]
   refine ⟨_, hacc, by rw [hst]; simp, ⟨?_, by rw [hst]; rfl, wrap_id (by omega) (by omega)⟩, by rw [hst]; rfl⟩
   rw [hst, hmx]
   simp only [ge, wn]
   rfl
  ·
   try simp [h00, o_i, f_a, hg1]
   refine at_cond rfl rfl (fun hb41 => ?_) (fun hb41 => ?_)
   ·
    try simp at hb41
    refine at_regK [3, 5, 6, 7, 8, 16, 17] rfl ?_
    try simp [h00, o_i, f_a, hlen]
    refine (c91 k hk h hlen (by omega) hbo).use hH ?_
    try simp [h00, o_i, f_a, hlen]
    refine at_regC 4 [3, 5, 6, 7, 8, 16, 17] rfl ?_
    try simp [h00, o_i, f_a]
    obtain ⟨qq, rfl⟩ : ∃ q, acc = some q := by cases acc with | none => simp at hg1 | some q => exact ⟨q, rfl⟩
    simp only [ge, wn] at hb41
    have hlt : mxI 0 (-gt h x.1) < qq.1 := hb41
    have hst : stepL k (some qq) x = some (mxI 0 (-gt h x.1), weightsM k h) := by show (if loOf k x < qq.1 then some (loOf k x, weightsM k (settleM (netM k []) x.2).1) else some qq) = _; rw [hlo, hr, if_pos hlt]
    refine ⟨_, hacc, by rw [hst]; simp, ⟨?_, by rw [hst]; rfl, wrap_id (by omega) (by omega)⟩, by rw [hst]; rfl⟩
    rw [hst, hmx]
    simp only [ge, wn]
    rfl
   ·
    try simp at hb41
    refine at_skip (by kernel_rfl) ?_
    try simp [h00, o_i, f_a]
    refine at_regC 4 [3, 5, 6, 7, 8, 16, 17] rfl ?_
    try simp [h00, o_i, f_a]
    obtain ⟨qq, rfl⟩ : ∃ q, acc = some q := by cases acc with | none => simp at hg1 | some q => exact ⟨q, rfl⟩
    simp only [ge, wn] at hb41
    have hlt : ¬ mxI 0 (-gt h x.1) < qq.1 := Int.not_lt.2 hb41
    have hst : stepL k (some qq) x = some qq := by show (if loOf k x < qq.1 then some (loOf k x, weightsM k (settleM (netM k []) x.2).1) else some qq) = _; rw [hlo, hr, if_neg hlt]
    exact ⟨_, hacc, by rw [hst]; simp, ⟨by rw [hst], by rw [hst], wrap_id (by omega) (by omega)⟩, by rw [hst]⟩
 ·
  try simp at hb18
  obtain rfl : i = 4 := by omega
  obtain ⟨q, rfl⟩ : ∃ q, acc = some q := by cases acc with | none => simp at hz | some q => exact ⟨q, rfl⟩
  have hle : leastM k o = q := by rw [leastM, ← hacc]; rfl
  rw [hle]
  refine at_exit rfl ?_
  try simp [h00, o_i, f_a, ]
  refine sq ?_
  refine at_draw [4, 5] [0, 1, 0, 3] [] rfl Efol (by kernel_rfl) (by simp) ?_
  try simp [h00, o_i, f_a, ]
  refine at_ret (by kernel_rfl) ?_
  try simp [h00, o_i, f_a, ]

theorem c150 (f : FuncId) (cap : List AV) (is : Int → Bool) (n : Nat) (H : List AO) (hH : okH H) (hc : ∀ v ∈ cap, v.ok shd = true) (hs : ∀ v ∈ cap, v.solid = true)
  (hf : ∀ x n, 1 ≤ x → x ≤ 1048576 → ACall E f (I x :: cap) n H (Is (.bool (is x)) [] H)) : ACall E 150 [I 1, I 1048576, .func (.func f) [] cap] n H (Is (I (greatM is 1048577 1 1048576)) [] H) := by
 have h00 := hh3 hH
 have ⟨hHs, hH', hpl⟩ := h00
 have hx : ∀ s : AS, s.expos cap = (cap, s) := fun s => expos_ok hc
 have hc2 : (∀ v ∈ cap, v.ok shd = true) ↔ True := iff_true_intro hc
 have hs2 : (∀ v ∈ cap, v.solid = true) ↔ True := iff_true_intro hs
 refine at_start (fn := Tryz.f150) [.tmp 6] 23 H.length rfl rfl rfl rfl (by kernel_rfl) (by kernel_rfl) (by simp) (Nat.le_refl _) ?_
 refine sq ?_
 refine at_regK [0, 1, 2] rfl ?_
 try simp [h00, o_i, f_a, hx, hc2, hs2]
 refine sq ?_
 refine at_block rfl ?_
 refine at_count 1048577 (fun i s => ∃ lo hi fu, fu + i = 1048577 ∧ 1 ≤ lo ∧ hi ≤ 1048576 ∧ lo ≤ hi + 1 ∧ hi - lo + 1 ≤ (fu : Int) ∧ greatM is fu lo hi = greatM is 1048577 1 1048576 ∧ s = ⟨[(0, I lo), (1, I hi), (2, .func (.func f) [] cap)], [], H⟩) rfl ⟨1, 1048576, 1048577, rfl, by omega, by omega, by omega, by omega, rfl, rfl⟩ ?_
 rintro i s hi' ⟨lo, hi, fu, hfu, l0, h1, lh, hd, hgr, rfl⟩
 refine sq ?_
 refine sq ?_
 refine at_regK [0, 1, 2, 10] rfl ?_
 try simp [h00, o_i, f_a, hx, hc2, hs2]
 refine at_cond rfl rfl (fun hb10 => ?_) (fun hb10 => ?_)
 ·
  try simp at hb10
  obtain ⟨fu', rfl⟩ : ∃ q, fu = q + 1 := ⟨fu - 1, by omega⟩
  rw [greatM, if_pos hb10] at hgr
  have hm := mid_in (lo := lo) (hi := hi) (by omega) hb10
  obtain ⟨m, hmm⟩ : ∃ m, (lo + hi).tdiv 2 = m := ⟨_, rfl⟩
  rw [hmm] at hgr hm
  have w1 : IntKind.i64.wrap (lo + hi) = lo + hi := wrap_id (by omega) (by omega)
  have w2 : IntKind.i64.wrap m = m := wrap_id (by omega) (by omega)
  refine at_skip (by kernel_rfl) ?_
  try simp [h00, o_i, f_a, hx, hc2, hs2]
  refine at_block rfl ?_
  refine sq ?_
  refine at_regK [0, 1, 2, 7] rfl ?_
  try simp [h00, o_i, f_a, w1, hmm, w2]
  refine sq ?_
  refine at_regK [0, 1, 2, 7, 17] rfl ?_
  try simp [h00, o_i, f_a, hx, hc2, hs2]
  refine (hf m _ (by omega) (by omega)).of_is ?_
  try simp [h00, o_i, f_a, hx, hc2, hs2]
  refine at_cond rfl rfl (fun hb17 => ?_) (fun hb17 => ?_)
  ·
   try simp at hb17
   refine at_regK [0, 1, 2] rfl ?_
   try simp [h00, o_i, f_a, hx, hc2, hs2]
   rw [if_pos hb17] at hgr
   exact ⟨by omega, _, _, fu', by omega, by omega, h1, by omega, by omega, hgr, by rw [wrap_id (by omega) (by omega)]; exact ⟨rfl, rfl⟩⟩
  ·
   try simp at hb17
   refine at_regK [0, 1, 2] rfl ?_
   try simp [h00, o_i, f_a, hx, hc2, hs2]
   rw [if_neg (by simp [hb17])] at hgr
   exact ⟨by omega, _, _, fu', by omega, l0, by omega, by omega, by omega, hgr, rfl, by rw [wrap_id (by omega) (by omega)]⟩
 ·
  try simp at hb10
  refine at_exit rfl ?_
  try simp [h00, o_i, f_a, hx, hc2, hs2]
  refine sq ?_
  refine at_regK [6] rfl ?_
  try simp [h00, o_i, f_a, hx, hc2, hs2]
  refine at_ret (by kernel_rfl) ?_
  try simp [h00, o_i, f_a, hx, hc2, hs2]
  cases fu with
  | zero => rw [← hgr, greatM]
  | succ fu => rw [← hgr, greatM, if_neg (by omega)]

theorem c149 (k : Kn) (f : Fine k) (o : Ov) (z : Int) (z0 : -1048576 ≤ z) (z1 : z ≤ 1048576) (j1 j2 n : Nat) (H : List AO) (hH : okH H) (hj1 : H[j1]? = some (.cell (eOv o))) (hj2 : H[j2]? = some (.cell (eKn k))) : ACall E 149 [I z, .ref true j1 0 [] 0, .ref true j2 0 [] 0] n H (Is (eNet (netM k (moreM o z))) [] H) := by
 have h00 := hh3 hH
 have ⟨hHs, hH', hpl⟩ := h00
 have wz : IntKind.i64.wrap (-z) = -z := wrap_id (by omega) (by omega)
 have hpl4 : (pairsL o).length = 4 := rfl
 refine at_start (fn := Tryz.f149) [.cell 4 134] 27 H.length rfl rfl rfl rfl (by kernel_rfl) (by kernel_rfl) (by simp) (Nat.le_refl _) ?_
 refine sq ?_
 refine at_regK [0, 1, 2, 4] rfl ?_
 try simp [h00, o_i, f_a, hj1, hj2, wz]
 refine sq ?_
 refine at_regK [0, 1, 2, 4, 5] rfl ?_
 try simp [h00, o_i, f_a, hj1, hj2, wz]
 refine sq ?_
 refine sq ?_
 refine at_regK [0, 2, 4, 5, 9, 10] rfl ?_
 try simp [h00, o_i, f_a, hj1, hj2, wz]
 refine (c148 o).use hH ?_
 try simp [h00, o_i, f_a, hj1, hj2, wz]
 refine at_block rfl ?_
 refine at_leads (leads_nilT 5 4 rfl (by decide)) ?_
 refine at_leads (leads_keep _ [0, 2, 4, 5, 9, 10]) ?_
 simp
 refine at_count 4 (fun i s => s = ⟨[(0, I z), (2, .ref true j2 0 [] 0), (4, .ref false 0 0 [] 0), (5, .own false 1 i), (9, ePairs o), (10, I i)], [.cell (.agg [I 0, .nilS]), .row 4 (((moreM o z).take i).map eTie)], H⟩) rfl ?_ ?_
 ·rfl
 rintro i s hi rfl
 refine sq ?_
 refine at_regK [0, 2, 4, 5, 9, 10, 11] rfl ?_
 try simp [h00, o_i, f_a, hj1, hj2, wz]
 refine sq ?_
 refine at_cond rfl rfl (fun hb11 => ?_) (fun hb11 => ?_)
 ·
  try simp at hb11
  have hi4 : i < 4 := by omega
  have hi4c : (i : Int) < 4 := by omega
  obtain ⟨x, hx⟩ : ∃ x, (pairsL o)[i]? = some x := ⟨_, List.getElem?_eq_getElem (by omega)⟩
  have hsub := ePairs_sub o hx
  have hmx : (moreM o z).take (i + 1) = (moreM o z).take i ++ [⟨x.2, x.1, -z, 0⟩] := by rw [List.take_add_one, moreM, List.getElem?_map, hx]; rfl
  have hmin : min i (moreM o z).length = i := by simp [moreM, hpl4]; omega
  refine at_skip (by kernel_rfl) ?_
  try simp [h00, o_i, f_a, hj1, hj2, wz]
  refine sq ?_
  refine at_block rfl ?_
  refine sq ?_
  refine at_regK [0, 2, 4, 5, 7, 9, 10] rfl ?_
  try simp [h00, o_i, f_a, hi4, hi4c, hsub]
  refine at_regK [0, 2, 4, 5, 9, 10] rfl ?_
  try simp [h00, o_i, f_a, wz, hmin]
  refine ⟨by omega, ?_⟩
  have hrow : List.take i (List.map eTie (moreM o z)) ++ [AV.agg [I x.snd, I x.fst, AV.int IntKind.i64 (-z), AV.int IntKind.i64 0]] = List.take (i + 1) (List.map eTie (moreM o z)) := by
   rw [← List.map_take, ← List.map_take, hmx, List.map_append]; rfl
  rw [hrow]
  refine at_regC 2 [0, 2, 4, 5, 9, 10] rfl ?_
  try simp [h00, o_i, f_a, hj1, hj2, wz]
  refine ⟨?_, wrap_id (by omega) (by omega)⟩
  rw [← List.map_take]; exact oks_tiesM _ _
 ·
  try simp at hb11
  obtain rfl : i = 4 := by omega
  have hml : (moreM o z).length = 4 := by simp [moreM, hpl4]
  have ht4 : (List.map eTie (moreM o z)).take 4 = List.map eTie (moreM o z) := List.take_of_length_le (by simp [hml])
  refine at_exit rfl ?_
  try simp [h00, o_i, f_a, hj1, hj2, wz]
  refine sq ?_
  refine at_regK [4] rfl ?_
  try simp [h00, o_i, f_a, hj1, hj2, ht4, hml]
  refine (c89 k f.few f.lo (moreM o z) (by omega)).use hH ?_
  try simp [h00, o_i, f_a, hj1, hj2, ht4, hml]
  refine at_ret (by kernel_rfl) ?_
  try simp [h00, o_i, f_a, hj1, hj2, wz]

theorem c151 (k : Kn) (f : Fine k) (r : Right k) (o : Ov) (hv : OvIn k o) (z : Int) (z0 : 1 ≤ z) (z1 : z ≤ 1048576) (j1 j2 j3 n : Nat) (H : List AO) (hH : okH H) (hj1 : H[j1]? = some (.cell (eOv o))) (hj2 : H[j2]? = some (.cell (eKn k))) (hj3 : H[j3]? = some (.cell (.func (.func 149) [] [.ref true j1 0 [] 0, .ref true j2 0 [] 0]))) : ACall E 151 [I z, .ref true j3 0 [] 0] n H (Is (.bool (canM k o z)) [] H) := by
 have h00 := hh3 hH
 have ⟨hHs, hH', hpl⟩ := h00
 have wf := more_wf r hv (z := z) (by omega) z1
 have hnm : (netM k (moreM o z)).n = (marksM k : Int) := rfl
 have n0 := wf.n0
 obtain ⟨⟨h, q, oo⟩, hr⟩ : ∃ r, settleM (netM k (moreM o z)) 0 = r := ⟨_, rfl⟩
 have hne : oo ≠ some [] := fun e => settle_ne n0 (a := 0) (l := []) (by rw [hr, e]) rfl
 have hlen : h.length = 41 := by have := settle_len wf (a := 0) (by omega) (by omega); rwa [hr] at this
 refine at_start (fn := Tryz.f151) [.tmp 3] 17 H.length rfl rfl rfl rfl (by kernel_rfl) (by kernel_rfl) (by simp) (Nat.le_refl _) ?_
 refine sq ?_
 refine at_regK [0, 1] rfl ?_
 try simp [h00, o_i, f_a, hj3]
 refine sq ?_
 refine at_regK [6] rfl ?_
 try simp [h00, o_i, f_a, hj3, hlen]
 refine (c149 k f o z (by omega) z1 j1 j2 _ _ hH hj1 hj2).of_is ?_
 try simp [h00, o_i, f_a, hj3, hlen]
 refine (c90 (netM k (moreM o z)) wf 0 (by omega) (by omega)).use hH ?_
 rw [hr]
 simp only [eSet]
 try simp [h00, o_i, f_a, hj3, hlen]
 refine sq ?_
 refine at_regK [3] rfl ?_
 try simp [h00, o_i, f_a, hne]
 refine at_ret (by kernel_rfl) ?_
 try simp [h00, o_i, f_a, hj3]
 rw [canM, hr]

theorem c99 (k : Kn) (f : Fine k) (r : Right k) (o : Ov) (hv : OvIn k o) : Con E 99 [eOv o, eKn k] (.tup [I (mostM k o).1, eTr (mostM k o).2]) := by
 intro n H hH
 have h00 := hh3 hH
 have ⟨hHs, hH', hpl⟩ := h00
 have h0 : ∀ j k', H.map (mvO j k') = H := mvO_map hH
 have hk := f.few
 have n1 := f.wf.n1; have n0 := f.wf.n0
 have hmo : greatM (canM k o) 1048577 1 1048576 = mostN k o := rfl
 have hnm : (netM k []).n = (marksM k : Int) := rfl
 have hn := mostN_in k o
 have wf := more_wf r hv (z := mostN k o) hn.1 hn.2
 obtain ⟨⟨h, q, oo⟩, hr⟩ : ∃ r, settleM (netM k []) 0 = r := ⟨_, rfl⟩
 have hlen : h.length = 41 := by have := settle_len f.wf (a := 0) (by omega) (by omega); rwa [hr] at this
 have hbo : ∀ v : Int, 0 ≤ v → v < marksM k → -1125899906842624 ≤ gt h v ∧ gt h v ≤ 1125899906842624 := fun v v0 v1 => by have := settle_bound f.wf (a := 0) (by omega) (by omega) v0 v1; rwa [hr] at this
 obtain ⟨⟨h2, q2, oo2⟩, hr2⟩ : ∃ r, settleM (netM k (moreM o (mostN k o))) 0 = r := ⟨_, rfl⟩
 have hlen2 : h2.length = 41 := by have := settle_len wf (a := 0) (by omega) n0; rwa [hr2] at this
 have hbo2 : ∀ v : Int, 0 ≤ v → v < marksM k → -1125899906842624 ≤ gt h2 v ∧ gt h2 v ≤ 1125899906842624 := fun v v0 v1 => by have := settle_bound wf (a := 0) (by omega) n0 v0 v1; rwa [hr2] at this
 refine at_start (fn := Tryz.f99) [.tmp 4, .cell 5 48] 41 H.length rfl rfl rfl rfl (by kernel_rfl) (by kernel_rfl) (by simp) (Nat.le_refl _) ?_
 refine sq ?_
 refine at_regK [2, 3, 5] rfl ?_
 try simp [h00, o_i, f_a]
 refine sq ?_
 refine at_leads (leads_share 0 rfl rfl) ?_
 simp [AS.share, h0, mvV_id]
 refine at_leads (leads_share 1 rfl rfl) ?_
 simp [AS.share, h0, mvV_id]
 refine at_regK [3, 5, 6] rfl ?_
 try simp [h00, o_i, f_a]
 refine sq ?_
 refine at_leads (leads_share 3 rfl rfl) ?_
 simp [AS.share, h0, mvV_id]
 obtain ⟨H2, hH2⟩ : ∃ H2, H2 = H ++ [AO.cell (eOv o), .cell (eKn k), .cell (.func (.func 149) [] [.ref true H.length 0 [] 0, .ref true (H.length + 1) 0 [] 0])] := ⟨_, rfl⟩
 have ok2 : okH H2 := by
  rw [okH, hH2, List.length_append, List.forall_mem_append]
  refine ⟨okH_pm hH _ (by omega), ?_⟩
  simp [AO.ok, pm]
 have g0 : H2[H.length]? = some (.cell (eOv o)) := by rw [hH2]; simp
 have g1 : H2[H.length + 1]? = some (.cell (eKn k)) := by rw [hH2]; simp
 have g2 : H2[H.length + 2]? = some (.cell (.func (.func 149) [] [.ref true H.length 0 [] 0, .ref true (H.length + 1) 0 [] 0])) := by rw [hH2]; simp
 have ht2 : H2.take H.length = H := by rw [hH2]; simp
 have hHs2 : (∀ o ∈ H2, o.ok shd = true) ↔ True := iff_true_intro (okH_shd ok2)
 rw [← hH2]
 refine at_regK [3, 5, 6, 7] rfl ?_
 try simp [h00, o_i, f_a, g0, g1, g2, ht2, hHs2, hmo]
 refine (c150 151 [.ref true (H.length + 2) 0 [] 0] (canM k o) _ _ ok2 (by simp) (by simp) (fun x n x0 x1 => c151 k f r o hv x x0 x1 H.length (H.length + 1) (H.length + 2) n _ ok2 g0 g1 g2)).of_is ?_
 try simp [h00, o_i, f_a, g0, g1, g2, ht2, hHs2, hmo]
 refine sq ?_
 refine sq ?_
 refine at_regK [3, 5, 6, 7, 18] rfl ?_
 try simp [h00, o_i, f_a, g0, g1, g2, ht2, hHs2, hmo]
 refine at_cond rfl rfl (fun hb18 => ?_) (fun hb18 => ?_)
 ·
  try simp at hb18
  refine sq ?_
  refine at_regK [3, 5, 8] rfl ?_
  try simp [h00, o_i, f_a, g0, g1, g2, ht2, hHs2, hmo, hlen]
  refine (c89n k f).use ok2 ?_
  try simp [h00, o_i, f_a, g0, g1, g2, ht2, hHs2, hmo, hlen]
  refine (c90 (netM k []) f.wf 0 (by omega) (by omega)).use ok2 ?_
  rw [hr]
  simp only [eSet]
  try simp [h00, o_i, f_a, g0, g1, g2, ht2, hHs2, hmo, hlen]
  refine sq ?_
  refine at_regK [4, 5] rfl ?_
  try simp [h00, o_i, f_a, g0, g1, g2, ht2, hHs2, hmo, hlen]
  refine (c91 k hk h hlen (by omega) hbo).use ok2 ?_
  try simp [h00, o_i, f_a, g0, g1, g2, ht2, hHs2, hmo, hlen]
  refine at_ret (by kernel_rfl) ?_
  try simp [h00, o_i, f_a, g0, g1, g2, ht2, hHs2, hmo]
  refine ⟨by rw [hH2]; simp, ?_, ?_⟩
  ·rw [mostM, if_pos hb18]
  ·rw [mostM, if_pos hb18, hr]
 ·
  try simp at hb18
  refine at_skip (by kernel_rfl) ?_
  try simp [h00, o_i, f_a, g0, g1, g2, ht2, hHs2, hmo]
  refine sq ?_
  refine at_regK [3, 5, 7, 11] rfl ?_
  try simp [h00, o_i, f_a, g0, g1, g2, ht2, hHs2, hmo, hlen2]
  refine (c149 k f o (mostN k o) (by omega) hn.2 H.length (H.length + 1) _ _ ok2 g0 g1).of_is ?_
  try simp [h00, o_i, f_a, g0, g1, g2, ht2, hHs2, hmo, hlen2]
  refine (c90 (netM k (moreM o (mostN k o))) wf 0 (by omega) n0).use ok2 ?_
  rw [hr2]
  simp only [eSet]
  try simp [h00, o_i, f_a, g0, g1, g2, ht2, hHs2, hmo, hlen2]
  refine sq ?_
  refine at_regK [4, 5] rfl ?_
  try simp [h00, o_i, f_a, g0, g1, g2, ht2, hHs2, hmo, hlen2]
  refine (c91 k hk h2 hlen2 (by omega) hbo2).use ok2 ?_
  try simp [h00, o_i, f_a, g0, g1, g2, ht2, hHs2, hmo, hlen2]
  refine at_ret (by kernel_rfl) ?_
  try simp [h00, o_i, f_a, g0, g1, g2, ht2, hHs2, hmo]
  refine ⟨by rw [hH2]; simp, ?_, ?_⟩
  ·rw [mostM, if_neg (by omega)]
  ·rw [mostM, if_neg (by omega), hr2]
end Go.Abs
/- Contracts: Took, Taking. -/
set_option linter.unusedVariables false
set_option linter.unusedSimpArgs false
set_option maxRecDepth 100000
set_option maxHeartbeats 2000000
namespace Go.Abs
open Go.RowKit Go.Proofs Go.Shaft
attribute [simp] ti22 ti23 ti24 ti26 ti30 ti42 ti45 ti52 ti122 ti125 ti88 ti92 ti46
attribute [simp] ti134 ti131 ti48 ti85 ti143 ti189 ti190 ti192
theorem wk_tr : Wk (.agg [.nilS, .nilS]) (eTr zTr) := Wk.agg (.cons (Wk.nil 1) (.cons (Wk.nil 1) .nil))

theorem c97 (k : Kn) (hk : Few k) (dr ld : Int) : Con E 97 [eKn k, I dr, I ld] (.tup [eOv (takesM k dr ld).1, I (takesM k dr ld).2]) := by
 intro n H hH
 have h00 := hh3 hH
 have ⟨hHs, hH', hpl⟩ := h00
 refine at_start (fn := Tryz.f97) [.cell 6 143, .tmp 7] 54 H.length rfl rfl rfl rfl (by kernel_rfl) (by kernel_rfl) (by simp) (Nat.le_refl _) ?_
 refine sq ?_
 refine at_regK [1, 2, 3, 6] rfl ?_
 try simp [h00, o_i, f_a]
 refine sq ?_
 refine sq ?_
 refine at_regK [1, 2, 3, 6, 8] rfl ?_
 try simp [h00, o_i, f_a]
 refine (c48 _ hk).use hH ?_
 try simp [h00, o_i, f_a]
 refine sq ?_
 refine at_regK [1, 2, 3, 6, 8, 16] rfl ?_
 try simp [h00, o_i, f_a]
 refine at_cond rfl rfl (fun hb16 => ?_) (fun hb16 => ?_)
 ·
  try simp at hb16
  refine sq ?_
  refine at_regK [6, 7] rfl ?_
  try simp [h00, o_i, f_a]
  refine at_ret (by kernel_rfl) ?_
  try simp [h00, o_i, f_a]
  unfold takesM
  rw [if_pos hb16]
  exact ⟨rfl, rfl⟩
 ·
  try simp at hb16
  have f := fine_of_check hb16
  have rt := right_of_check hb16
  have nl := rt.nl; have nd := rt.nd
  have f1 := find_le k.loads ld; have f2 := find_le k.draws dr
  have n0 := f.wf.n0
  have wl : IntKind.i64.wrap (find k.loads ld + 1) = find k.loads ld + 1 := wrap_id (by omega) (by omega)
  have wd : IntKind.i64.wrap (find k.draws dr + 1) = find k.draws dr + 1 := wrap_id (by omega) (by omega)
  refine at_skip (by kernel_rfl) ?_
  try simp [h00, o_i, f_a]
  refine sq ?_
  refine at_draw [3, 6, 9, 10] [1, 1, 0, 1, 1, 1, 0, 1, 0, 0] [] rfl Efol (by kernel_rfl) (by simp) ?_
  try simp [h00, o_i, f_a]
  refine (c75 k).draw hH ?_
  try simp [h00, o_i, f_a]
  refine (c86 k.loads hk.l ld).draw hH ?_
  try simp [h00, o_i, f_a]
  refine (c77 k).draw hH ?_
  try simp [h00, o_i, f_a]
  refine (c94 k.draws hk.d dr).draw hH ?_
  try simp [h00, o_i, f_a]
  refine sq ?_
  refine sq ?_
  refine at_regK [3, 6, 9, 10, 32] rfl ?_
  try simp [h00, o_i, f_a]
  refine pops_split 29 rfl (fun hg1 => ?_) (fun hg1 => ?_)
  ·
   try simp [h00, o_i, f_a, hg1]
   refine at_cond rfl rfl (fun hb32 => ?_) (fun hb32 => by simp at hb32)
   refine sq ?_
   refine at_regK [6, 7] rfl ?_
   try simp [h00, o_i, f_a]
   refine at_ret (by kernel_rfl) ?_
   try simp [h00, o_i, f_a]
   unfold takesM
   rw [if_neg (by simp [hb16]), if_pos (.inl (by simpa using hg1))]
   exact ⟨rfl, rfl⟩
  ·
   try simp [h00, o_i, f_a, hg1]
   refine at_cond rfl rfl (fun hb32 => ?_) (fun hb32 => ?_)
   ·
    try simp at hb32
    refine sq ?_
    refine at_regK [6, 7] rfl ?_
    try simp [h00, o_i, f_a]
    refine at_ret (by kernel_rfl) ?_
    try simp [h00, o_i, f_a]
    unfold takesM
    rw [if_neg (by simp [hb16]), if_pos (.inr hb32)]
    exact ⟨rfl, rfl⟩
   ·
    try simp at hb32
    refine at_skip (by kernel_rfl) ?_
    try simp [h00, o_i, f_a]
    refine sq ?_
    refine sq ?_
    refine at_regK [3, 6, 9, 10, 12] rfl ?_
    try simp [h00, o_i, f_a]
    refine (c89n k f).use hH ?_
    try simp [h00, o_i, f_a]
    refine (c111 (netM k []) f.wf 0 0 (by omega) n0 (by omega) n0).use hH ?_
    try simp [h00, o_i, f_a]
    refine sq ?_
    refine at_regK [3, 6, 9, 10, 41] rfl ?_
    try simp [h00, o_i, f_a]
    refine at_cond rfl rfl (fun hb41 => ?_) (fun hb41 => ?_)
    ·
     try simp at hb41
     refine sq ?_
     refine at_regK [6, 7] rfl ?_
     try simp [h00, o_i, f_a]
     refine at_ret (by kernel_rfl) ?_
     try simp [h00, o_i, f_a]
     unfold takesM
     rw [if_neg (by simp [hb16]), if_neg (by simp at hg1; omega), if_pos hb41]
     exact ⟨rfl, rfl⟩
    ·
     try simp at hb41
     refine at_skip (by kernel_rfl) ?_
     try simp [h00, o_i, f_a]
     refine sq ?_
     refine at_draw [6, 7] [0, 0, 0, 1, 0, 1, 1, 0, 0, 1, 0, 3, 0] [] rfl Efol (by kernel_rfl) (by simp) ?_
     try simp [h00, o_i, f_a, wl, wd]
     refine (c80 k hk (find k.draws dr) (by omega) (by omega)).draw hH ?_
     try simp [h00, o_i, f_a, wl, wd]
     refine (c80 k hk (find k.draws dr + 1) (by omega) (by omega)).draw hH ?_
     try simp [h00, o_i, f_a, wl, wd]
     refine at_ret (by kernel_rfl) ?_
     try simp [h00, o_i, f_a]
     unfold takesM
     rw [if_neg (by simp [hb16]), if_neg (by simp at hg1; omega), if_neg (by simp [hb41])]
     exact ⟨rfl, rfl⟩

theorem c31 (k : Kn) (hk : Few k) (dr ld : Int) : Con E 31 [eKn k, I dr, I ld] (.tup [eSp (tookM k dr ld).1, I (tookM k dr ld).2]) := by
 intro n H hH
 have h00 := hh3 hH
 have ⟨hHs, hH', hpl⟩ := h00
 refine at_start (fn := Tryz.f31) [.cell 6 30, .tmp 7] 40 H.length rfl rfl rfl rfl (by kernel_rfl) (by kernel_rfl) (by simp) (Nat.le_refl _) ?_
 refine sq ?_
 refine at_regK [1, 2, 3, 6] rfl ?_
 try simp [h00, o_i, f_a]
 refine sq ?_
 refine at_regK [3, 6, 8, 9] rfl ?_
 try simp [h00, o_i, f_a]
 refine (c97 k hk dr ld).use hH ?_
 try simp [h00, o_i, f_a]
 refine sq ?_
 refine sq ?_
 refine at_regK [3, 6, 8, 9, 22] rfl ?_
 try simp [h00, o_i, f_a]
 refine at_cond rfl rfl (fun hb22 => ?_) (fun hb22 => ?_)
 ·
  try simp at hb22
  refine sq ?_
  refine at_regK [6, 7] rfl ?_
  try simp [h00, o_i, f_a]
  refine at_ret (by kernel_rfl) ?_
  try simp [h00, o_i, f_a]
  unfold tookM
  rw [if_pos hb22]
  exact ⟨rfl, rfl⟩
 ·
  try simp at hb22
  obtain ⟨hck, hov⟩ := takes_ok hb22
  have f := fine_of_check hck
  have rt := right_of_check hck
  refine at_skip (by kernel_rfl) ?_
  try simp [h00, o_i, f_a]
  refine sq ?_
  refine at_regK [3, 6, 8, 10] rfl ?_
  try simp [h00, o_i, f_a]
  refine (c98 k f (takesM k dr ld).1 hov).use hH ?_
  try simp [h00, o_i, f_a]
  refine sq ?_
  refine at_regK [6, 10, 12] rfl ?_
  try simp [h00, o_i, f_a]
  refine (c99 k f rt (takesM k dr ld).1 hov).use hH ?_
  try simp [h00, o_i, f_a]
  refine sq ?_
  refine at_regK [6, 7] rfl ?_
  try simp [h00, o_i, f_a]
  refine at_ret (by kernel_rfl) ?_
  try simp [h00, o_i, f_a]
  unfold tookM
  rw [if_neg (by simp [hb22])]
  exact ⟨rfl, rfl⟩

def takV (k : Kn) (dr ld : Int) (t : Tr) : AV := if (takesM k dr ld).2 ≠ 0 then .agg [.nilS, .nilS] else eTr t
theorem c34a (k : Kn) (hk : Few k) (dr ld : Int) : Con E 34 [eKn k, I dr, I ld] (.tup [takV k dr ld (takingM k dr ld).1, takV k dr ld (takingM k dr ld).2.1, I (takingM k dr ld).2.2]) := by
 intro n H hH
 have h00 := hh3 hH
 have ⟨hHs, hH', hpl⟩ := h00
 refine at_start (fn := Tryz.f34) [.cell 6 48, .cell 7 48, .tmp 8] 41 H.length rfl rfl rfl rfl (by kernel_rfl) (by kernel_rfl) (by simp) (Nat.le_refl _) ?_
 refine sq ?_
 refine at_regK [1, 2, 3, 6, 7] rfl ?_
 try simp [h00, o_i, f_a]
 refine sq ?_
 refine at_regK [3, 6, 7, 9, 10] rfl ?_
 try simp [h00, o_i, f_a]
 refine (c97 k hk dr ld).use hH ?_
 try simp [h00, o_i, f_a]
 refine sq ?_
 refine sq ?_
 refine at_regK [3, 6, 7, 9, 10, 23] rfl ?_
 try simp [h00, o_i, f_a]
 refine at_cond rfl rfl (fun hb23 => ?_) (fun hb23 => ?_)
 ·
  try simp at hb23
  refine sq ?_
  refine at_regK [6, 7, 8] rfl ?_
  try simp [h00, o_i, f_a]
  refine at_ret (by kernel_rfl) ?_
  try simp [h00, o_i, f_a]
  have e : takingM k dr ld = (zTr, zTr, (takesM k dr ld).2) := by unfold takingM; rw [if_pos hb23]
  rw [e]
  unfold takV
  rw [if_pos hb23]
  exact ⟨rfl, rfl, rfl⟩
 ·
  try simp at hb23
  obtain ⟨hck, hov⟩ := takes_ok hb23
  have f := fine_of_check hck
  have rt := right_of_check hck
  refine at_skip (by kernel_rfl) ?_
  try simp [h00, o_i, f_a]
  refine sq ?_
  refine at_regK [3, 6, 7, 9, 12] rfl ?_
  try simp [h00, o_i, f_a]
  refine (c98 k f (takesM k dr ld).1 hov).use hH ?_
  try simp [h00, o_i, f_a]
  refine sq ?_
  refine at_regK [6, 7, 12, 14] rfl ?_
  try simp [h00, o_i, f_a]
  refine (c99 k f rt (takesM k dr ld).1 hov).use hH ?_
  try simp [h00, o_i, f_a]
  refine sq ?_
  refine at_draw [6, 7, 8] [4, 4, 3, 3, 0] [4, 5] rfl Efol (by kernel_rfl) (by simp) ?_
  try simp [h00, o_i, f_a]
  refine at_ret (by kernel_rfl) ?_
  try simp [h00, o_i, f_a]
  have e : takingM k dr ld = ((leastM k (takesM k dr ld).1).2, (mostM k (takesM k dr ld).1).2, 0) := by unfold takingM; rw [if_neg (by simp [hb23])]
  rw [e]
  unfold takV
  rw [if_neg (by simp [hb23]), if_neg (by simp [hb23])]
  exact ⟨rfl, rfl, rfl⟩

theorem c34 (k : Kn) (hk : Few k) (dr ld : Int) : Con E 34 [eKn k, I dr, I ld] (.tup [eTr (takingM k dr ld).1, eTr (takingM k dr ld).2.1, I (takingM k dr ld).2.2]) := by
 refine (c34a k hk dr ld).weak ?_
 unfold takV
 split
 ·rename_i h
  have e : takingM k dr ld = (zTr, zTr, (takesM k dr ld).2) := by unfold takingM; rw [if_pos h]
  rw [e]
  exact fun c m => Wk.tup (.cons wk_tr (.cons wk_tr (.cons (Wk.refl _) .nil))) (by simp) c m
 ·exact fun _ _ h => h
end Go.Abs
/- Contracts: fewer weighings. -/
set_option linter.unusedVariables false
set_option linter.unusedSimpArgs false
set_option maxRecDepth 100000
set_option maxHeartbeats 2000000
namespace Go.Abs
open Go.RowKit Go.Proofs Go.Shaft
attribute [simp] ti22 ti23 ti24 ti26 ti30 ti42 ti45 ti52 ti122 ti125 ti88 ti92 ti46
attribute [simp] ti134 ti131 ti48 ti85 ti143 ti189 ti190 ti192
theorem c178 (l : List Int) (hl : l.length ≤ 100000) (a : Int) : Con E 178 [eInts l, I a] (I (idxP l (fun y => a == y))) := by
 intro n H hH
 have h00 := hh3 hH
 have ⟨hHs, hH', hpl⟩ := h00
 refine at_start (fn := Tryz.f178) [.tmp 4] 19 H.length rfl rfl rfl rfl (by kernel_rfl) (by kernel_rfl) (by simp) (Nat.le_refl _) ?_
 refine sq ?_
 refine at_regK [0, 1] rfl ?_
 try simp [h00, o_i, f_a]
 refine sq ?_
 refine sq ?_
 refine at_regK [0, 1, 7, 8] rfl ?_
 try simp [h00, o_i, f_a]
 refine at_block rfl ?_
 refine at_count l.length (fun i s => (∀ j y, j < i → l[j]? = some y → (a == y) = false) ∧ s = ⟨[(0, eInts l), (1, I a), (7, I l.length), (8, I i)], [], H⟩) rfl (⟨by simp, rfl⟩) ?_
 rintro i s hi ⟨hno, rfl⟩
 refine sq ?_
 refine at_regK [0, 1, 7, 8, 9] rfl ?_
 try simp [h00, o_i, f_a]
 refine sq ?_
 refine at_cond rfl rfl (fun hb9 => ?_) (fun hb9 => ?_)
 ·
  try simp at hb9
  obtain ⟨y, hy⟩ : ∃ y, l[i]? = some y := ⟨_, List.getElem?_eq_getElem hb9⟩
  refine at_skip (by kernel_rfl) ?_
  try simp [h00, o_i, f_a]
  refine sq ?_
  refine at_block rfl ?_
  refine sq ?_
  refine at_regK [0, 1, 5, 7, 8] rfl ?_
  try simp [h00, o_i, f_a]
  refine sq ?_
  refine at_regK [0, 1, 5, 7, 8, 16] rfl ?_
  try simp [h00, o_i, f_a, hy]
  refine at_cond rfl rfl (fun hb16 => ?_) (fun hb16 => ?_)
  ·
   try simp at hb16
   refine sq ?_
   refine at_regK [4] rfl ?_
   try simp [h00, o_i, f_a]
   refine at_ret (by kernel_rfl) ?_
   try simp [h00, o_i, f_a]
   exact (idxP_at hy (by simpa using hb16) hno).symm
  ·
   try simp at hb16
   refine at_skip (by kernel_rfl) ?_
   try simp [h00, o_i, f_a]
   refine at_regK [0, 1, 7, 8] rfl ?_
   try simp [h00, o_i, f_a]
   refine ⟨hb9, ?_, by rw [wrap_id (by omega) (by omega)]⟩
   intro j z hj hz
   rcases Nat.lt_succ_iff_lt_or_eq.1 hj with h | rfl
   ·simpa using hno j z h hz
   ·rw [hy] at hz; cases hz; simpa using hb16
 ·
  try simp at hb9
  refine at_exit rfl ?_
  try simp [h00, o_i, f_a]
  refine sq ?_
  refine at_regK [4] rfl ?_
  try simp [h00, o_i, f_a]
  refine at_ret (by kernel_rfl) ?_
  try simp [h00, o_i, f_a]
  exact (idxP_none fun j y hj hy => hno j y (by omega) hy).symm

theorem c164 (l : List Int) (hl : l.length ≤ 100000) (a : Int) : Con E 164 [eInts l, I a] (.bool (decide (a ∈ l))) := by
 intro n H hH
 have h00 := hh3 hH
 have ⟨hHs, hH', hpl⟩ := h00
 refine at_start (fn := Tryz.f164) [.tmp 4] 9 H.length rfl rfl rfl rfl (by kernel_rfl) (by kernel_rfl) (by simp) (Nat.le_refl _) ?_
 refine sq ?_
 refine at_regK [0, 1] rfl ?_
 try simp [h00, o_i, f_a]
 refine sq ?_
 refine at_regK [4] rfl ?_
 try simp [h00, o_i, f_a]
 refine (c178 l hl a).use hH ?_
 try simp [h00, o_i, f_a]
 refine at_ret (by kernel_rfl) ?_
 try simp [h00, o_i, f_a]
 rw [← decide_eq_true_iff (p := 0 ≤ idxP l fun y => a == y), idxP_any]
 simp

theorem c163 (ids : List Int) (hids : ids.length ≤ 100000) (w : Wg) (q n : Nat) (H : List AO) (hH : okH H) (hq : H[q]? = some (.cell (eInts ids))) : ACall E 163 [eWg w, .ref true q 0 [] 0] n H (Is (.bool (decide (w.id ∈ ids))) [] H) := by
 have h00 := hh3 hH
 have ⟨hHs, hH', hpl⟩ := h00
 refine at_start (fn := Tryz.f163) [.tmp 3] 8 H.length rfl rfl rfl rfl (by kernel_rfl) (by kernel_rfl) (by simp) (Nat.le_refl _) ?_
 refine sq ?_
 refine at_regK [1, 2] rfl ?_
 try simp [h00, o_i, f_a, hq]
 refine sq ?_
 refine at_regK [3] rfl ?_
 try simp [h00, o_i, f_a, hq]
 refine (c164 ids hids w.id).use hH ?_
 try simp [h00, o_i, f_a, hq]
 refine at_ret (by kernel_rfl) ?_
 try simp [h00, o_i, f_a, hq]

theorem c177 (l : List Wg) (hl : l.length ≤ 1000) (ids : List Int) (hids : ids.length ≤ 100000) (m q n : Nat) (H : List AO) (hH : okH H) (hm : H[m]? = some (.row 6 (l.map eWg))) (hq : H[q]? = some (.cell (eInts ids))) : ACall E 177 [.own true m l.length, .func (.func 163) [] [.ref true q 0 [] 0]] n H (Is (I (idxP l (fun w => decide (w.id ∈ ids)))) [] H) := by
 have h00 := hh3 hH
 have ⟨hHs, hH', hpl⟩ := h00
 refine at_start (fn := Tryz.f177) [.tmp 4] 19 H.length rfl rfl rfl rfl (by kernel_rfl) (by kernel_rfl) (by simp) (Nat.le_refl _) ?_
 refine sq ?_
 refine at_regK [0, 1] rfl ?_
 try simp [h00, o_i, f_a, hm, hq]
 refine sq ?_
 refine sq ?_
 refine at_regK [0, 1, 7, 8] rfl ?_
 try simp [h00, o_i, f_a, hm, hq]
 refine at_block rfl ?_
 refine at_count l.length (fun i s => (∀ j y, j < i → l[j]? = some y → decide (y.id ∈ ids) = false) ∧ s = ⟨[(0, .own true m l.length), (1, .func (.func 163) [] [.ref true q 0 [] 0]), (7, I l.length), (8, I i)], [], H⟩) rfl (⟨by simp, rfl⟩) ?_
 rintro i s hi ⟨hno, rfl⟩
 refine sq ?_
 refine at_regK [0, 1, 7, 8, 9] rfl ?_
 try simp [h00, o_i, f_a, hm, hq]
 refine sq ?_
 refine at_cond rfl rfl (fun hb9 => ?_) (fun hb9 => ?_)
 ·
  try simp at hb9
  obtain ⟨y, hy⟩ : ∃ y, l[i]? = some y := ⟨_, List.getElem?_eq_getElem hb9⟩
  have i9 : (i : Int) < l.length := by omega
  refine at_skip (by kernel_rfl) ?_
  try simp [h00, o_i, f_a, hm, hq]
  refine sq ?_
  refine at_block rfl ?_
  refine sq ?_
  refine at_regK [0, 1, 5, 7, 8] rfl ?_
  try simp [h00, o_i, f_a, hm, hq]
  refine sq ?_
  refine at_regK [0, 1, 5, 7, 8, 16] rfl ?_
  try simp [h00, o_i, f_a, hm, hq, hy, i9]
  refine (c163 ids hids y q _ _ hH hq).of_is ?_
  try simp [h00, o_i, f_a, hm, hq, hy, i9]
  refine at_cond rfl rfl (fun hb16 => ?_) (fun hb16 => ?_)
  ·
   try simp at hb16
   refine sq ?_
   refine at_regK [4] rfl ?_
   try simp [h00, o_i, f_a, hm, hq]
   refine at_ret (by kernel_rfl) ?_
   try simp [h00, o_i, f_a, hm, hq]
   exact (idxP_at hy (by simpa using hb16) hno).symm
  ·
   try simp at hb16
   refine at_skip (by kernel_rfl) ?_
   try simp [h00, o_i, f_a, hm, hq]
   refine at_regK [0, 1, 7, 8] rfl ?_
   try simp [h00, o_i, f_a, hm, hq]
   refine ⟨hb9, ?_, by rw [wrap_id (by omega) (by omega)]⟩
   intro j z hj hz
   rcases Nat.lt_succ_iff_lt_or_eq.1 hj with h | rfl
   ·simpa using hno j z h hz
   ·rw [hy] at hz; cases hz; simpa using hb16
 ·
  try simp at hb9
  refine at_exit rfl ?_
  try simp [h00, o_i, f_a, hm, hq]
  refine sq ?_
  refine at_regK [4] rfl ?_
  try simp [h00, o_i, f_a, hm, hq]
  refine at_ret (by kernel_rfl) ?_
  try simp [h00, o_i, f_a, hm, hq]
  exact (idxP_none fun j y hj hy => hno j y (by omega) hy).symm
end Go.Abs
/- Contracts: slices that are cloned. -/
set_option linter.unusedVariables false
set_option linter.unusedSimpArgs false
set_option maxRecDepth 100000
set_option maxHeartbeats 2000000
namespace Go.Abs
open Go.RowKit Go.Proofs Go.Shaft
attribute [simp] ti22 ti23 ti24 ti26 ti30 ti42 ti45 ti52 ti122 ti125 ti88 ti92 ti46
attribute [simp] ti134 ti131 ti48 ti85 ti143 ti189 ti190 ti192
theorem us22' : E.P.underlying 22 = some (.slice 42) := by kernel_rfl
theorem us23' : E.P.underlying 23 = some (.slice 52) := by kernel_rfl
theorem us24' : E.P.underlying 24 = some (.slice 45) := by kernel_rfl
@[simp] theorem us22 : (∃ e, E.P.underlying 22 = some (TypeDesc.slice e)) ↔ True := iff_true_intro ⟨42, us22'⟩
@[simp] theorem us23 : (∃ e, E.P.underlying 23 = some (TypeDesc.slice e)) ↔ True := iff_true_intro ⟨52, us23'⟩
@[simp] theorem us24 : (∃ e, E.P.underlying 24 = some (TypeDesc.slice e)) ↔ True := iff_true_intro ⟨45, us24'⟩

theorem c159a (l : List Ld) (hl : l.length ≤ 1000) (hne : l ≠ []) : Con E 159 [eLds l] (eLds l) := by
 intro n H hH
 have h00 := hh3 hH
 have ⟨hHs, hH', hpl⟩ := h00
 refine ACall.frz ?_
 refine at_start (fn := Tryz.f159) [.tmp 2] 8 H.length rfl rfl rfl rfl (by kernel_rfl) (by kernel_rfl) (by simp) (Nat.le_refl _) ?_
 refine sq ?_
 refine at_regK [0] rfl ?_
 try simp [h00, o_i, f_a, hne]
 refine sq ?_
 refine sq ?_
 refine at_regK [0, 4] rfl ?_
 try simp [h00, o_i, f_a, eLds, hne]
 refine at_cond rfl rfl (fun hb4 => ?_) (fun hb4 => ?_)
 ·
  try simp at hb4
 ·
  try simp at hb4
  refine at_skip (by kernel_rfl) ?_
  try simp [h00, o_i, f_a, hne]
  refine sq ?_
  refine at_regK [2] rfl ?_
  try simp [h00, o_i, f_a, hne]
  refine ⟨by omega, ?_⟩
  refine at_ret (by kernel_rfl) ?_
  try simp [h00, o_i, f_a, hne]
  simp [AS.frzV, AS.expo, AS.expos, AS.setMem, AV.ok, AV.oks, eLds]

theorem c159b : Con E 159 [.lit 4 []] (.lit 4 []) := by
 intro n H hH
 have h00 := hh3 hH
 have ⟨hHs, hH', hpl⟩ := h00
 refine ACall.frz ?_
 refine at_start (fn := Tryz.f159) [.tmp 2] 8 H.length rfl rfl rfl rfl (by kernel_rfl) (by kernel_rfl) (by simp) (Nat.le_refl _) ?_
 refine sq ?_
 refine at_regK [0] rfl ?_
 simp [h00, o_i, f_a]
 refine sq ?_
 refine sq ?_
 refine at_regA [0, 4] rfl ?_
 simp only [AOps, guardP]
 refine pv_sound ?_
 simp
 refine opw_nilcmp rfl rfl rfl us22' ?_
 intro b
 simp [AS.keep]
 refine at_cond rfl rfl (fun hb4 => ?_) (fun hb4 => ?_)
 ·refine sq ?_
  refine at_regK [2] rfl ?_
  simp [h00, o_i, f_a]
  refine at_leads (leads_nilT 2 4 rfl (by decide)) ?_
  refine at_ret (by kernel_rfl) ?_
  simp [h00, o_i, f_a]
  simp [AS.frzV, AS.expo, AS.expos, AS.setMem, AV.ok, AV.oks, hHs]
 ·refine at_skip (by kernel_rfl) ?_
  simp [h00, o_i, f_a]
  refine sq ?_
  refine at_regK [2] rfl ?_
  simp [h00, o_i, f_a]
  refine at_ret (by kernel_rfl) ?_
  simp [h00, o_i, f_a]
  simp [AS.frzV, AS.expo, AS.expos, AS.setMem, AV.ok, AV.oks, hHs]
theorem c159 (l : List Ld) (hl : l.length ≤ 1000) : Con E 159 [eLds l] (eLds l) := by
 by_cases h : l = []
 ·subst h; exact c159b
 ·exact c159a l hl h

theorem c160a (l : List Ld) (hl : l.length ≤ 1000) (hne : l ≠ []) : Con E 160 [eLds l] (eLds l) := by
 intro n H hH
 have h00 := hh3 hH
 have ⟨hHs, hH', hpl⟩ := h00
 refine ACall.frz ?_
 refine at_start (fn := Tryz.f160) [.tmp 2] 8 H.length rfl rfl rfl rfl (by kernel_rfl) (by kernel_rfl) (by simp) (Nat.le_refl _) ?_
 refine sq ?_
 refine at_regK [0] rfl ?_
 try simp [h00, o_i, f_a, hne]
 refine sq ?_
 refine sq ?_
 refine at_regK [0, 4] rfl ?_
 try simp [h00, o_i, f_a, eLds, hne]
 refine at_cond rfl rfl (fun hb4 => ?_) (fun hb4 => ?_)
 ·
  try simp at hb4
 ·
  try simp at hb4
  refine at_skip (by kernel_rfl) ?_
  try simp [h00, o_i, f_a, hne]
  refine sq ?_
  refine at_regK [2] rfl ?_
  try simp [h00, o_i, f_a, hne]
  refine ⟨by omega, ?_⟩
  refine at_ret (by kernel_rfl) ?_
  try simp [h00, o_i, f_a, hne]
  simp [AS.frzV, AS.expo, AS.expos, AS.setMem, AV.ok, AV.oks, eLds]

theorem c160b : Con E 160 [.lit 4 []] (.lit 4 []) := by
 intro n H hH
 have h00 := hh3 hH
 have ⟨hHs, hH', hpl⟩ := h00
 refine ACall.frz ?_
 refine at_start (fn := Tryz.f160) [.tmp 2] 8 H.length rfl rfl rfl rfl (by kernel_rfl) (by kernel_rfl) (by simp) (Nat.le_refl _) ?_
 refine sq ?_
 refine at_regK [0] rfl ?_
 simp [h00, o_i, f_a]
 refine sq ?_
 refine sq ?_
 refine at_regA [0, 4] rfl ?_
 simp only [AOps, guardP]
 refine pv_sound ?_
 simp
 refine opw_nilcmp rfl rfl rfl us23' ?_
 intro b
 simp [AS.keep]
 refine at_cond rfl rfl (fun hb4 => ?_) (fun hb4 => ?_)
 ·refine sq ?_
  refine at_regK [2] rfl ?_
  simp [h00, o_i, f_a]
  refine at_leads (leads_nilT 2 4 rfl (by decide)) ?_
  refine at_ret (by kernel_rfl) ?_
  simp [h00, o_i, f_a]
  simp [AS.frzV, AS.expo, AS.expos, AS.setMem, AV.ok, AV.oks, hHs]
 ·refine at_skip (by kernel_rfl) ?_
  simp [h00, o_i, f_a]
  refine sq ?_
  refine at_regK [2] rfl ?_
  simp [h00, o_i, f_a]
  refine at_ret (by kernel_rfl) ?_
  simp [h00, o_i, f_a]
  simp [AS.frzV, AS.expo, AS.expos, AS.setMem, AV.ok, AV.oks, hHs]
theorem c160 (l : List Ld) (hl : l.length ≤ 1000) : Con E 160 [eLds l] (eLds l) := by
 by_cases h : l = []
 ·subst h; exact c160b
 ·exact c160a l hl h

theorem c162a (l : List Wg) (hl : l.length ≤ 1000) (hne : l ≠ []) (n : Nat) (H : List AO) (hH : okH H) : ACall E 162 [eWgs l] n H (Is (.own true H.length l.length) [] (H ++ [.row 6 (l.map eWg)])) := by
 have h00 := hh3 hH
 have ⟨hHs, hH', hpl⟩ := h00
 have h0 : ∀ j k', H.map (mvO j k') = H := mvO_map hH
 have hp1 : (∀ o ∈ H, o.ok (pm (H.length + 1)) = true) ↔ True := iff_true_intro (okH_pm hH _ (by omega))
 refine at_start (fn := Tryz.f162) [.tmp 2] 8 (H.length + 1) rfl rfl rfl rfl (by kernel_rfl) (by kernel_rfl) (by simp) (by omega) ?_
 refine sq ?_
 refine at_regK [0] rfl ?_
 try simp [h00, o_i, f_a, hne, hp1]
 refine sq ?_
 refine sq ?_
 refine at_regK [0, 4] rfl ?_
 try simp [h00, o_i, f_a, eWgs, hne]
 refine at_cond rfl rfl (fun hb4 => ?_) (fun hb4 => ?_)
 ·
  try simp at hb4
 ·
  try simp at hb4
  refine at_skip (by kernel_rfl) ?_
  try simp [h00, o_i, f_a, hne, hp1]
  refine sq ?_
  refine at_regK [2] rfl ?_
  try simp [h00, o_i, f_a, hne, hp1]
  refine ⟨by omega, ?_⟩
  refine at_leads (leads_share 0 rfl rfl) ?_
  simp [AS.share, h0, mvV_id]
  refine at_ret (by kernel_rfl) ?_
  try simp [h00, o_i, f_a, hne, hp1]
  rw [show List.take (H.length + 1) (H ++ [AO.row 6 (List.map eWg l)]) = H ++ [AO.row 6 (List.map eWg l)] from List.take_of_length_le (by simp), List.forall_mem_append]
  exact ⟨⟨hp1.2 trivial, by simp [AO.ok]⟩, rfl⟩

theorem c162b (n : Nat) (H : List AO) (hH : okH H) : ACall E 162 [.lit 6 []] n H (Is (.own true H.length 0) [] (H ++ [.row 6 []])) := by
 have h00 := hh3 hH
 have ⟨hHs, hH', hpl⟩ := h00
 have h0 : ∀ j k', H.map (mvO j k') = H := mvO_map hH
 have hp1 : (∀ o ∈ H, o.ok (pm (H.length + 1)) = true) ↔ True := iff_true_intro (okH_pm hH _ (by omega))
 refine at_start (fn := Tryz.f162) [.tmp 2] 8 (H.length + 1) rfl rfl rfl rfl (by kernel_rfl) (by kernel_rfl) (by simp) (by omega) ?_
 refine sq ?_
 refine at_regK [0] rfl ?_
 simp [h00, o_i, f_a]
 refine sq ?_
 refine sq ?_
 refine at_regA [0, 4] rfl ?_
 simp only [AOps, guardP]
 refine pv_sound ?_
 simp
 refine opw_nilcmp rfl rfl rfl us24' ?_
 intro b
 simp [AS.keep]
 refine at_cond rfl rfl (fun hb4 => ?_) (fun hb4 => ?_)
 ·refine sq ?_
  refine at_regK [2] rfl ?_
  simp [h00, o_i, f_a]
  refine at_leads (leads_nilT 2 6 rfl (by decide)) ?_
  simp
  refine at_leads (leads_share 0 rfl rfl) ?_
  simp [AS.share, h0, mvV_id]
  refine at_ret (by kernel_rfl) ?_
  simp [h00, o_i, f_a, hp1]
  rw [show List.take (H.length + 1) (H ++ [AO.row 6 []]) = H ++ [AO.row 6 []] from List.take_of_length_le (by simp), List.forall_mem_append]
  exact ⟨⟨hp1.2 trivial, by simp [AO.ok]⟩, rfl⟩
 ·refine at_skip (by kernel_rfl) ?_
  simp [h00, o_i, f_a]
  refine sq ?_
  refine at_regK [2] rfl ?_
  simp [h00, o_i, f_a]
  refine at_leads (leads_share 0 rfl rfl) ?_
  simp [AS.share, h0, mvV_id]
  refine at_ret (by kernel_rfl) ?_
  simp [h00, o_i, f_a, hp1]
  rw [show List.take (H.length + 1) (H ++ [AO.row 6 []]) = H ++ [AO.row 6 []] from List.take_of_length_le (by simp), List.forall_mem_append]
  exact ⟨⟨hp1.2 trivial, by simp [AO.ok]⟩, rfl⟩
theorem c162 (l : List Wg) (hl : l.length ≤ 1000) (n : Nat) (H : List AO) (hH : okH H) : ACall E 162 [eWgs l] n H (Is (.own true H.length l.length) [] (H ++ [.row 6 (l.map eWg)])) := by
 by_cases h : l = []
 ·subst h; exact c162b n H hH
 ·exact c162a l hl h n H hH
end Go.Abs
/- Contracts: deleting in place. -/
set_option linter.unusedVariables false
set_option linter.unusedSimpArgs false
set_option maxRecDepth 100000
set_option maxHeartbeats 2000000
namespace Go.Abs
open Go.RowKit Go.Proofs Go.Shaft
attribute [simp] ti22 ti23 ti24 ti26 ti30 ti42 ti45 ti52 ti122 ti125 ti88 ti92 ti46
attribute [simp] ti134 ti131 ti48 ti85 ti143 ti189 ti190 ti192 ti204
theorem upd_nil (v x : AV) (h : v.size = x.size) : v.upd [] x = some x := by
 unfold AV.upd
 cases v <;> exact if_pos h
@[simp] theorem eKn_u2 (k : Kn) (l : List Ld) : (eKn k).upd [2] (eLds l) = some (eKn { k with loads := l }) := by simp [eKn, AV.upd, upd_nil]
@[simp] theorem eKn_u3 (k : Kn) (l : List Ld) : (eKn k).upd [3] (eLds l) = some (eKn { k with draws := l }) := by simp [eKn, AV.upd, upd_nil]
@[simp] theorem eKn_u4 (k : Kn) (l : List Wg) : (eKn k).upd [4] (eWgs l) = some (eKn { k with weighs := l }) := by simp [eKn, AV.upd, upd_nil]

theorem c161 (l : List Wg) (hl : l.length ≤ 1000) (ids : List Int) (hids : ids.length ≤ 100000) (m q n : Nat) (hmq : q ≠ m) (H : List AO) (hH : okH H) (hm : H[m]? = some (.row 6 (l.map eWg))) (hq : H[q]? = some (.cell (eInts ids))) : ACall E 161 [.own true m l.length, .func (.func 163) [] [.ref true q 0 [] 0]] n H (Is (eWgs (l.filter (fun w : Wg => !decide (w.id ∈ ids)))) [] (H.set m .dead)) := by
 refine ACall.frz ?_
 have h00 := hh3 hH
 have ⟨hHs, hH', hpl⟩ := h00
 obtain ⟨H2, hH2⟩ : ∃ H2, H2 = H.set m .dead := ⟨_, rfl⟩
 have ok2 : okH H2 := by rw [hH2]; exact okH_set hH rfl
 have hl2 : H2.length = H.length := by rw [hH2]; simp
 have hq2 : H2[q]? = some (.cell (eInts ids)) := by rw [hH2, List.getElem?_set_ne (Ne.symm hmq)]; exact hq
 have hHs2 : (∀ o ∈ H2, o.ok shd = true) ↔ True := iff_true_intro (okH_shd ok2)
 have hm2 : (∀ o ∈ H2, o.ok (pm H.length) = true) ↔ True := iff_true_intro (by rw [← hl2]; exact ok2)
 have hp2 : ∀ z, (∀ o ∈ H2, o.ok (pl z) = true) ↔ True := fun z => iff_true_intro (okH_pl ok2 z)
 have ht2 : H2.take H.length = H2 := by rw [← hl2, List.take_length]
 rw [← hH2]
 refine at_start (fn := Tryz.f161) [.tmp 4] 42 H.length rfl rfl rfl rfl (by kernel_rfl) (by kernel_rfl) (by simp) (Nat.le_refl _) ?_
 refine sq ?_
 refine at_regK [0, 1] rfl ?_
 try simp [h00, o_i, f_a, hm, hq]
 refine sq ?_
 refine at_regK [0, 1, 5] rfl ?_
 try simp [h00, o_i, f_a, hm, hq]
 refine (c177 l hl ids hids m q _ H hH hm hq).of_is ?_
 try simp [h00, o_i, f_a, hm, hq]
 refine sq ?_
 refine sq ?_
 refine at_regK [0, 1, 5, 12] rfl ?_
 try simp [h00, o_i, f_a, hm, hq]
 refine at_cond rfl rfl (fun hb12 => ?_) (fun hb12 => ?_)
 ·
  try simp at hb12
  refine sq ?_
  refine at_leads (leads_unshare m hm rfl) ?_
  simp [AS.unshare, hm, mwV]
  rw [← hH2]
  refine at_leads (leads_freeze 0 0 rfl rfl (by simp)) ?_
  simp
  refine at_regK [4] rfl ?_
  try simp [h00, o_i, f_a, hl2, hq2, hHs2, hm2, ht2]
  refine at_ret (by kernel_rfl) ?_
  try simp [h00, o_i, f_a, hl2, hq2, hHs2, hm2, ht2]
  rw [idxP_no hb12]
  simp [AS.frzV, AS.expo, eWgs]
 ·
  try simp at hb12
  refine at_skip (by kernel_rfl) ?_
  try simp [h00, o_i, f_a, hl2, hq2, hHs2, hm2, ht2, hm, hq]
  refine sq ?_
  refine sq ?_
  obtain ⟨i0, hi0, hf0, hi0l⟩ := idxP_some hb12
  rw [hi0]
  have d0 := Del.start hf0
  refine at_leads (leads_unshare m hm rfl) ?_
  simp [AS.unshare, hm, mwV]
  rw [← hH2]
  refine at_regK [0, 1, 5, 6] rfl ?_
  try simp [h00, o_i, f_a, hl2, hq2, hHs2, hm2, ht2]
  refine at_block rfl ?_
  refine at_count (l.length - (i0 + 1)) (fun c s => ∃ (r : List Wg) (i : Nat), Del l (fun w : Wg => !decide (w.id ∈ ids)) r i (i0 + 1 + c) ∧ i0 + 1 + c ≤ l.length ∧ s = ⟨[(0, .own false 0 l.length), (1, .func (.func 163) [] [.ref true q 0 [] 0]), (5, I i), (6, I ((i0 + 1 + c : Nat) : Int))], [.row 6 (r.map eWg)], H2⟩) rfl ⟨l, i0, d0, by omega, by rw [wrap_id (by omega) (by omega)]; rfl⟩ ?_
  rintro c s hc ⟨r, i, d, hjl, rfl⟩
  obtain ⟨j, hj⟩ : ∃ j, i0 + 1 + c = j := ⟨_, rfl⟩
  rw [hj] at d hjl ⊢
  have dlen := d.len; have dlt := d.lt
  refine sq ?_
  refine sq ?_
  refine at_regK [0, 1, 5, 6, 19] rfl ?_
  try simp [h00, o_i, f_a, hl2, hq2, hHs2, hm2, ht2]
  refine at_cond rfl rfl (fun hb19 => ?_) (fun hb19 => ?_)
  ·
   try simp at hb19
   have hb19 : j < l.length := by omega
   obtain ⟨y, hy⟩ : ∃ y, l[j]? = some y := ⟨_, List.getElem?_eq_getElem hb19⟩
   have hry : r[j]? = some y := by rw [d.get, hy]
   obtain ⟨zi, hri⟩ : ∃ z, r[i]? = some z := ⟨_, List.getElem?_eq_getElem (by omega)⟩
   have jl : (j : Int) < l.length := by omega
   have il : (i : Int) < l.length := by omega
   refine at_skip (by kernel_rfl) ?_
   try simp [h00, o_i, f_a, hl2, hq2, hHs2, hm2, ht2, hm, hq, hry, hri, jl, il, dlen]
   refine sq ?_
   refine at_block rfl ?_
   refine sq ?_
   refine at_regK [0, 1, 5, 6, 7] rfl ?_
   try simp [h00, o_i, f_a, hl2, hq2, hHs2, hm2, ht2, hry, hri, jl, il, dlen]
   refine sq ?_
   refine at_regK [0, 1, 5, 6, 7, 29] rfl ?_
   try simp [h00, o_i, f_a, hl2, hq2, hHs2, hm2, ht2, hry, hri, jl, il, dlen]
   refine (c163 ids hids y q _ _ ok2 hq2).of_is ?_
   try simp [h00, o_i, f_a, hl2, hq2, hHs2, hm2, ht2, hry, hri, jl, il, dlen]
   refine at_cond rfl rfl (fun hb29 => ?_) (fun hb29 => ?_)
   ·
    try simp at hb29
    refine sq ?_
    refine at_regK [0, 1, 5, 6] rfl ?_
    try simp [h00, o_i, f_a, hl2, hq2, hHs2, hm2, ht2, hry, hri, jl, il, dlen]
    refine at_regK [0, 1, 5, 6] rfl ?_
    try simp [h00, o_i, f_a, hl2, hq2, hHs2, hm2, ht2, hry, hri, jl, il, dlen]
    refine at_regC 1 [0, 1, 5, 6] rfl ?_
    try simp [h00, o_i, f_a, hl2, hq2, hHs2, hm2, ht2, hp2, hry, hri, jl, il, dlen]
    refine ⟨by rw [← List.map_set]; exact oks_wgs _ _, by omega, r.set i y, i + 1, ?_, by omega, ⟨by rw [wrap_id (by omega) (by omega)]; omega, by rw [wrap_id (by omega) (by omega)]; omega⟩, by rw [List.map_set]⟩
    rw [show i0 + 1 + (c + 1) = j + 1 by omega]
    exact d.keep hy (by simpa using hb29)
   ·
    try simp at hb29
    refine at_skip (by kernel_rfl) ?_
    try simp [h00, o_i, f_a, hl2, hq2, hHs2, hm2, ht2, hm, hq, hry, hri, jl, il, dlen]
    refine at_regC 1 [0, 1, 5, 6] rfl ?_
    try simp [h00, o_i, f_a, hl2, hq2, hHs2, hm2, ht2, hp2, hry, hri, jl, il, dlen]
    refine ⟨by omega, r, i, ?_, by omega, ⟨rfl, by rw [wrap_id (by omega) (by omega)]; omega⟩, rfl⟩
    rw [show i0 + 1 + (c + 1) = j + 1 by omega]
    exact d.skip hy (by simpa using hb29)
  ·
   try simp at hb19
   obtain rfl : j = l.length := by omega
   have dpre := d.pre
   rw [List.take_length] at dpre
   refine at_exit rfl ?_
   try simp [h00, o_i, f_a, hl2, hq2, hHs2, hm2, ht2]
   refine sq ?_
   refine at_regK [0, 5] rfl ?_
   try simp [h00, o_i, f_a, hl2, hq2, hHs2, hm2, ht2]
   refine ⟨by omega, by omega, by omega, dlen, ?_⟩
   refine sq ?_
   refine at_leads (leads_freeze 0 0 rfl rfl (by simp; omega)) ?_
   refine at_regK [4] rfl ?_
   try simp [h00, o_i, f_a, hl2, hq2, hHs2, hm2, ht2]
   refine ⟨by omega, ?_⟩
   have hfin : List.take i (List.take i (List.map eWg r) ++ (List.replicate (l.length - i) (AV.agg [AV.int IntKind.i64 0, AV.int IntKind.i64 0, AV.int IntKind.i64 0, AV.int IntKind.i64 0, AV.agg [AV.int IntKind.i64 0, AV.int IntKind.i64 0]]) ++ List.drop (i + (l.length - i)) (List.map eWg r))) = (l.filter (fun w : Wg => !decide (w.id ∈ ids))).map eWg := by
    rw [List.take_left' (by simp; omega), ← List.map_take, dpre]
   rw [hfin]
   refine at_ret (by kernel_rfl) ?_
   try simp [h00, o_i, f_a, hl2, hq2, hHs2, hm2, ht2]
   simp [AS.frzV, AS.expo, eWgs]

theorem c117 (k : Kn) (hk : Few k) (ids : List Int) (hids : ids.length ≤ 100000) : Con E 117 [eKn k, eInts ids] (eKn (withoutM k ids)) := by
 intro n H hH
 have h00 := hh3 hH
 have ⟨hHs, hH', hpl⟩ := h00
 have hL := hk.l; have hD := hk.d; have hW := hk.w
 refine at_start (fn := Tryz.f117) [.cell 4 26] 20 H.length rfl rfl rfl rfl (by kernel_rfl) (by kernel_rfl) (by simp) (Nat.le_refl _) ?_
 refine sq ?_
 refine at_regK [2, 3, 4] rfl ?_
 try simp [h00, o_i, f_a]
 refine sq ?_
 refine at_draw [2, 3, 4] [0, 1, 1, 0, 1, 1, 0, 3, 0, 3] [] rfl Efol (by kernel_rfl) (by simp) ?_
 try simp [h00, o_i, f_a]
 refine (c159 k.loads (by omega)).draw hH ?_
 try simp [h00, o_i, f_a]
 refine (c160 k.draws (by omega)).draw hH ?_
 try simp [h00, o_i, f_a]
 refine sq ?_
 refine at_regK [2, 4] rfl ?_
 try simp [h00, o_i, f_a]
 refine (c162 k.weighs (by omega) _ _ hH).of_is ?_
 try simp [h00, o_i, f_a]
 refine (c161 k.weighs (by omega) ids hids H.length (H.length + 1) _ (by omega) _ ?_ (by simp) (by simp)).of_is ?_
 ·rw [okH, List.length_append, List.forall_mem_append]
  refine ⟨okH_pm hH _ (by omega), ?_⟩
  simp [AO.ok]
 try simp [h00, o_i, f_a]
 refine sq ?_
 refine at_regK [4] rfl ?_
 try simp [h00, o_i, f_a]
 refine at_ret (by kernel_rfl) ?_
 try simp [h00, o_i, f_a]
 rfl

def knV (k : Kn) (ids : List Int) : AV := if check k ≠ 0 then .agg [I 0, I 0, .nilS, .nilS, .nilS] else eKn (withoutM k ids)
theorem c45a (k : Kn) (hk : Few k) (ids : List Int) (hids : ids.length ≤ 100000) : Con E 45 [eKn k, eInts ids] (.tup [knV k ids, I (withoutE k ids).2]) := by
 intro n H hH
 have h00 := hh3 hH
 have ⟨hHs, hH', hpl⟩ := h00
 refine at_start (fn := Tryz.f45) [.cell 4 26, .tmp 5] 16 H.length rfl rfl rfl rfl (by kernel_rfl) (by kernel_rfl) (by simp) (Nat.le_refl _) ?_
 refine sq ?_
 refine at_regK [1, 2, 4] rfl ?_
 try simp [h00, o_i, f_a]
 refine sq ?_
 refine sq ?_
 refine at_regK [1, 2, 4, 6] rfl ?_
 try simp [h00, o_i, f_a]
 refine (c48 _ hk).use hH ?_
 try simp [h00, o_i, f_a]
 refine sq ?_
 refine at_regK [1, 2, 4, 6, 10] rfl ?_
 try simp [h00, o_i, f_a]
 refine at_cond rfl rfl (fun hb10 => ?_) (fun hb10 => ?_)
 ·
  try simp at hb10
  refine sq ?_
  refine at_regK [4, 5] rfl ?_
  try simp [h00, o_i, f_a]
  refine at_ret (by kernel_rfl) ?_
  try simp [h00, o_i, f_a]
  unfold knV withoutE
  rw [if_pos hb10, if_pos hb10]
  exact ⟨rfl, rfl⟩
 ·
  try simp at hb10
  refine at_skip (by kernel_rfl) ?_
  try simp [h00, o_i, f_a]
  refine sq ?_
  refine at_regK [4, 5] rfl ?_
  try simp [h00, o_i, f_a]
  refine (c117 k hk ids hids).use hH ?_
  try simp [h00, o_i, f_a]
  refine at_ret (by kernel_rfl) ?_
  try simp [h00, o_i, f_a]
  unfold knV withoutE
  rw [if_neg (by simp [hb10]), if_neg (by simp [hb10])]
  exact ⟨rfl, rfl⟩

theorem c45 (k : Kn) (hk : Few k) (ids : List Int) (hids : ids.length ≤ 100000) : Con E 45 [eKn k, eInts ids] (.tup [eKn (withoutE k ids).1, I (withoutE k ids).2]) := by
 refine (c45a k hk ids hids).weak ?_
 unfold knV withoutE
 split
 ·exact wk_tup1 (Wk.agg (.cons (Wk.refl _) (.cons (Wk.refl _) (.cons (Wk.nil 4) (.cons (Wk.nil 4) (.cons (Wk.nil 6) .nil)))))) rfl rfl
 ·exact fun _ _ h => h
end Go.Abs
/- Contracts: putting in order. -/
set_option linter.unusedVariables false
set_option linter.unusedSimpArgs false
set_option maxRecDepth 100000
set_option maxHeartbeats 2000000
namespace Go.Abs
open Go.RowKit Go.Proofs Go.Shaft
attribute [simp] ti22 ti23 ti24 ti26 ti30 ti42 ti45 ti52 ti122 ti125 ti88 ti92 ti46
attribute [simp] ti134 ti131 ti48 ti85 ti143 ti189 ti190 ti192 ti204 ti208 ti218 ti9 ti5
theorem c197 (a : Int) : Con E 197 [I a] (.bool false) := by
 intro n H hH
 have h00 := hh3 hH
 have ⟨hHs, hH', hpl⟩ := h00
 refine at_start (fn := Tryz.f197) [.tmp 2] 6 H.length rfl rfl rfl rfl (by kernel_rfl) (by kernel_rfl) (by simp) (Nat.le_refl _) ?_
 refine sq ?_
 refine at_regK [0] rfl ?_
 try simp [h00, o_i, f_a]
 refine sq ?_
 refine at_regK [2] rfl ?_
 try simp [h00, o_i, f_a]
 refine at_ret (by kernel_rfl) ?_
 try simp [h00, o_i, f_a]

theorem c187 (a b : Int) : Con E 187 [I a, I b] (.bool (decide (a < b))) := by
 intro n H hH
 have h00 := hh3 hH
 have ⟨hHs, hH', hpl⟩ := h00
 refine at_start (fn := Tryz.f187) [.tmp 4] 17 H.length rfl rfl rfl rfl (by kernel_rfl) (by kernel_rfl) (by simp) (Nat.le_refl _) ?_
 refine sq ?_
 refine at_regK [0, 1] rfl ?_
 try simp [h00, o_i, f_a]
 refine sq ?_
 refine at_regK [4] rfl ?_
 try simp [h00, o_i, f_a]
 refine (c197 _).use hH ?_
 try simp [h00, o_i, f_a]
 refine at_ret (by kernel_rfl) ?_
 try simp [h00, o_i, f_a]

theorem c181 (l : List Int) (hl : l.length ≤ 100000) (n m : Nat) (H : List AO) (hH : okH H) (hm : H[m]? = some (.row 1 (l.map I))) : ACall E 181 [.own true m l.length, I 0, I l.length] n H (Is (.tup []) [] (H.set m (.row 1 ((sortM l).map I)))) := by
 have h00 := hh3 hH
 have ⟨hHs, hH', hpl⟩ := h00
 have hml := (List.getElem?_eq_some_iff.1 hm).1
 have hget : ∀ o, (H.set m o)[m]? = some o := fun o => by rw [List.getElem?_set]; simp [hml]
 have hset : ∀ o o', (H.set m o).set m o' = H.set m o' := fun o o' => by rw [List.set_set]
 have h0 : H = H.set m (.row 1 ((rowO l 1).map I)) := by rw [rowO_one]; exact (set_same hm).symm
 have hk : ∀ v : List Int, okH (H.set m (.row 1 (v.map I))) := fun v => okH_set hH (by simp [AO.ok])
 have hks : ∀ v : List Int, (∀ o ∈ H.set m (.row 1 (v.map I)), o.ok shd = true) ↔ True := fun v => iff_true_intro (okH_shd (hk v))
 have hkm : ∀ v : List Int, (∀ o ∈ H.set m (.row 1 (v.map I)), o.ok (pm H.length) = true) ↔ True := fun v => iff_true_intro (by have := hk v; rw [okH, List.length_set] at this; exact this)
 have hlt : ∀ o, (H.set m o).take H.length = H.set m o := fun o => List.take_of_length_le (by simp)
 have hkp : ∀ (v : List Int) q, (∀ o ∈ H.set m (.row 1 (v.map I)), o.ok (pl q) = true) ↔ True := fun v q => iff_true_intro (okH_pl (hk v) q)
 refine at_start (fn := Tryz.f181) [] 49 H.length rfl rfl rfl rfl (by kernel_rfl) (by kernel_rfl) (by simp) (Nat.le_refl _) ?_
 refine sq ?_
 refine at_regK [0, 1, 2, 6] rfl ?_
 try simp [h00, o_i, f_a, hget, hset, hks, hkm, hkp, hlt]
 refine at_block rfl ?_
 refine at_count l.length (fun i s => s = ⟨[(0, .own true m l.length), (1, I 0), (2, I l.length), (6, I ((i : Int) + 1))], [], H.set m (.row 1 ((rowO l (i + 1)).map I))⟩) rfl ?_ ?_
 ·rw [← h0, wrap_id (by omega) (by omega)]
  rfl
 rintro i s hi rfl
 refine sq ?_
 refine sq ?_
 refine at_regK [0, 1, 2, 6, 12] rfl ?_
 try simp [h00, o_i, f_a, hget, hset, hks, hkm, hkp, hlt]
 refine at_cond rfl rfl (fun hb12 => ?_) (fun hb12 => ?_)
 ·
  try simp at hb12
  obtain ⟨x, hx⟩ : ∃ x, l[i + 1]? = some x := ⟨_, List.getElem?_eq_getElem (by omega)⟩
  have hrow := rowO_at hx
  obtain ⟨p, hp⟩ : ∃ p, sortM (l.take (i + 1)) = p := ⟨_, rfl⟩
  have hpl2 : p.length = i + 1 := by rw [← hp, sortM_len, List.length_take]; omega
  have hps : p.Pairwise (· ≤ ·) := by rw [← hp]; exact sortM_sorted _
  have hnext := rowO_next hx
  obtain ⟨rest, hrest⟩ : ∃ r, l.drop (i + 1 + 1) = r := ⟨_, rfl⟩
  have hrl : rest.length = l.length - (i + 2) := by rw [← hrest, List.length_drop]
  rw [hp, hrest] at hrow hnext
  rw [hrow]
  refine at_skip (by kernel_rfl) ?_
  try simp [h00, o_i, f_a, hget, hset, hks, hkm, hkp, hlt]
  refine sq ?_
  refine at_block rfl ?_
  refine sq ?_
  refine at_regK [0, 1, 2, 6, 7] rfl ?_
  try simp [h00, o_i, f_a, hget, hset, hks, hkm, hkp, hlt]
  refine at_block rfl ?_
  refine at_count (i + 1) (fun c s => ∃ j : Nat, j + c = i + 1 ∧ (∀ y ∈ p.drop j, x < y) ∧ s = ⟨[(0, .own true m l.length), (1, I 0), (2, I l.length), (6, I ((i : Int) + 1)), (7, I j)], [], H.set m (.row 1 ((rowS p x j rest).map I))⟩) rfl ⟨i + 1, rfl, (by intro y hy; rw [List.drop_of_length_le (by omega)] at hy; cases hy), rfl⟩ ?_
  rintro c s hc ⟨j, hjc, hgt, rfl⟩
  have hjx := rowS_at (x := x) (rest := rest) (show j ≤ p.length by omega)
  have hjlen := rowS_len (x := x) (rest := rest) (show j ≤ p.length by omega)
  have jl : (j : Int) < l.length := by omega
  have jlen : (rowS p x j rest).length = l.length := by omega
  refine sq ?_
  refine sq ?_
  refine at_draw [0, 1, 2, 6, 7, 30] [0, 0, 0, 0, 0, 0, 0, 1, 0, 0, 0, 0, 1, 1, 0] [] rfl Efol (by kernel_rfl) (by simp) ?_
  try simp [h00, o_i, f_a, hget, hset, hks, hkm, hkp, hlt]
  refine dps_split 19 rfl (fun hg1 => ?_) (fun hg1 => ?_)
  ·
   obtain ⟨j', rfl⟩ : ∃ q, j = q + 1 := ⟨j - 1, by simp at hg1; omega⟩
   obtain ⟨y, hy⟩ : ∃ y, p[j']? = some y := ⟨_, List.getElem?_eq_getElem (by omega)⟩
   have hjp := rowS_pred (x := x) (rest := rest) hy
   have wj3 : IntKind.i64.wrap (j' : Int) = (j' : Int) := wrap_id (by omega) (by omega)
   have jl2 : (j' : Int) < l.length := by omega
   have jl3 : (j' : Int) + 1 < l.length := by omega
   have jl4 : j' + 1 < l.length := by omega
   have j0 : 0 ≤ (j' : Int) + 1 := by omega
   have gx : ∀ h, (rowS p x (j' + 1) rest)[j' + 1]'h = x := fun h => Option.some.inj ((List.getElem?_eq_getElem h).symm.trans hjx)
   have hstep := rowS_step (x := x) (rest := rest) hy
   try simp [h00, o_i, f_a, hget, hset, hks, hkm, hkp, hlt, j0, gx, hjp, wj3, jl2, jl3, jl4, jlen, hjx, ← List.map_set, hstep, hg1]
   refine (c187 _ _).draw (hk _) ?_
   try simp [h00, o_i, f_a, hget, hset, hks, hkm, hkp, hlt, j0, gx, hjp, wj3, jl2, jl3, jl4, jlen, hjx, ← List.map_set, hstep]
   refine at_cond rfl rfl (fun hb30 => ?_) (fun hb30 => ?_)
   ·
    try simp at hb30
    refine at_skip (by kernel_rfl) ?_
    try simp [h00, o_i, f_a, hget, hset, hks, hkm, hkp, hlt, j0, gx, hjp, wj3, jl2, jl3, jl4, jlen, hjx, ← List.map_set, hstep]
    refine sq ?_
    refine at_block rfl ?_
    refine at_draw [0, 1, 2, 6, 7] [0, 0, 0, 0, 0, 0, 0, 0, 0, 1, 0, 0, 0, 1, 0, 3, 0, 3] [] rfl Efol (by kernel_rfl) (by simp) ?_
    try simp [h00, o_i, f_a, hget, hset, hks, hkm, hkp, hlt, j0, gx, hjp, wj3, jl2, jl3, jl4, jlen, hjx, ← List.map_set, hstep]
    refine at_regK [0, 1, 2, 6, 7] rfl ?_
    try simp [h00, o_i, f_a, hget, hset, hks, hkm, hkp, hlt, j0, gx, hjp, wj3, jl2, jl3, jl4, jlen, hjx, ← List.map_set, hstep]
    refine ⟨by omega, j', by omega, ?_, rfl, rfl⟩
    intro z hz
    rw [List.drop_eq_getElem_cons (by omega), (List.getElem?_eq_some_iff.1 hy).2] at hz
    rcases List.mem_cons.1 hz with rfl | hz
    ·exact hb30
    ·exact hgt z hz
   ·
    try simp at hb30
    refine at_exit rfl ?_
    try simp [h00, o_i, f_a, hget, hset, hks, hkm, hkp, hlt, j0, gx, hjp, wj3, jl2, jl3, jl4, jlen, hjx, ← List.map_set, hstep]
    refine at_regK [0, 1, 2, 6] rfl ?_
    try simp [h00, o_i, f_a, hget, hset, hks, hkm, hkp, hlt, j0, gx, hjp, wj3, jl2, jl3, jl4, jlen, hjx, ← List.map_set, hstep]
    refine ⟨by omega, wrap_id (by omega) (by omega), ?_⟩
    rw [rowS_end (fun z hz => ?_) hgt, hnext]
    have := take_le hps hy z hz
    omega
  ·
   try simp [h00, o_i, f_a, hget, hset, hks, hkm, hkp, hlt, hg1]
   refine at_cond rfl rfl (fun hb30 => by simp at hb30) (fun hb30 => ?_)
   refine at_exit rfl ?_
   try simp [h00, o_i, f_a, hget, hset, hks, hkm, hkp, hlt]
   refine at_regK [0, 1, 2, 6] rfl ?_
   try simp [h00, o_i, f_a, hget, hset, hks, hkm, hkp, hlt]
   refine ⟨by omega, wrap_id (by omega) (by omega), ?_⟩
   have hj0 : j = 0 := by simp at hg1; exact hg1
   rw [rowS_end (fun z hz => by rw [hj0] at hz; simp at hz) hgt, hnext]
 ·
  try simp at hb12
  refine at_exit rfl ?_
  try simp [h00, o_i, f_a, hget, hset, hks, hkm, hkp, hlt]
  rw [rowO_end l (by omega)]

theorem got_ba {b : ByteArray} {a : Nat} {K : UInt8 → Prop} (h : a < b.size) (hK : ∀ u, K u) : got b[a]? K := by
 have : b[a]? = some (b[a]'h) := getElem?_pos b a h
 rw [this]
 exact hK _
/-- Some number is returned. -/
def ConI (f : FuncId) (vs : List AV) : Prop := ∀ (n : Nat) (H : List AO), okH H → ACall E f vs n H (fun r R H' => (∃ z : Int, 0 ≤ z ∧ z ≤ 255 ∧ r = I z) ∧ R = [] ∧ H' = H)

theorem c191 (a : Nat) (ha : a ≤ 200) : ConI 191 [U a] := by
 intro n H hH
 have h00 := hh3 hH
 have ⟨hHs, hH', hpl⟩ := h00
 have w8 : IntKind.u8.wrap (a : Int) = a := by simp [IntKind.wrap, IntKind.signed, IntKind.bits]; omega
 refine at_start (fn := Tryz.f191) [.tmp 2] 25 H.length rfl rfl rfl rfl (by kernel_rfl) (by kernel_rfl) (by simp) (Nat.le_refl _) ?_
 refine sq ?_
 refine at_regK [0, 2] rfl ?_
 try simp [h00, o_i, f_a]
 refine sq ?_
 refine sq ?_
 refine at_regK [0, 2, 4] rfl ?_
 try simp [h00, o_i, f_a]
 refine at_cond rfl rfl (fun hb4 => ?_) (fun hb4 => ?_)
 ·
  try simp at hb4
  exfalso; omega
 ·
  try simp at hb4
  refine at_skip (by kernel_rfl) ?_
  try simp [h00, o_i, f_a]
  refine sq ?_
  refine sq ?_
  refine at_regK [0, 2, 8] rfl ?_
  try simp [h00, o_i, f_a]
  refine at_cond rfl rfl (fun hb8 => ?_) (fun hb8 => ?_)
  ·
   try simp at hb8
   exfalso; omega
  ·
   try simp at hb8
   refine at_skip (by kernel_rfl) ?_
   try simp [h00, o_i, f_a]
   refine sq ?_
   refine sq ?_
   refine at_regK [0, 2, 14] rfl ?_
   try simp [h00, o_i, f_a]
   refine at_cond rfl rfl (fun hb14 => ?_) (fun hb14 => ?_)
   ·
    try simp at hb14
    exfalso; omega
   ·
    try simp at hb14
    refine at_skip (by kernel_rfl) ?_
    try simp [h00, o_i, f_a]
    refine sq ?_
    refine at_regK [2] rfl ?_
    try simp [h00, o_i, f_a, w8]
    refine got_ba (Nat.lt_of_lt_of_eq (show a < 256 by omega) rfl) (fun u => ?_)
    have hu := UInt8.toNat_lt u
    rw [wrap_id (n := IntKind.i64.wrap (u.toNat : Int)) (by rw [wrap_id (by omega) (by omega)]; omega) (by rw [wrap_id (by omega) (by omega)]; omega), wrap_id (by omega) (by omega)]
    refine at_ret (by kernel_rfl) ?_
    try simp [h00, o_i, f_a]
    omega

theorem c176 (a : Nat) (ha : a ≤ 200) : ConI 176 [U a] := by
 intro n H hH
 have h00 := hh3 hH
 have ⟨hHs, hH', hpl⟩ := h00
 refine at_start (fn := Tryz.f176) [.tmp 2] 8 H.length rfl rfl rfl rfl (by kernel_rfl) (by kernel_rfl) (by simp) (Nat.le_refl _) ?_
 refine sq ?_
 refine at_regK [0] rfl ?_
 try simp [h00, o_i, f_a]
 refine sq ?_
 refine at_cond rfl rfl (fun hbNone => by simp at hbNone) (fun hbNone => ?_)
 refine at_skip (by kernel_rfl) ?_
 try simp [h00, o_i, f_a]
 refine sq ?_
 refine at_regK [2] rfl ?_
 try simp [h00, o_i, f_a]
 refine (c191 a ha _ _ hH).mono ?_
 rintro r R H' ⟨⟨z, z0, z1, rfl⟩, rfl, rfl⟩
 try simp [h00, o_i, f_a]
 refine at_ret (by kernel_rfl) ?_
 try simp [h00, o_i, f_a]
 exact ⟨z0, z1⟩

theorem c175 (l : List Int) (hl : l.length ≤ 12) (z : Int) (n m : Nat) (H : List AO) (hH : okH H) (hm : H[m]? = some (.row 1 (l.map I))) : ACall E 175 [.own true m l.length, I 0, I l.length, I z] n H (Is (.tup []) [] (H.set m (.row 1 ((sortM l).map I)))) := by
 have h00 := hh3 hH
 have ⟨hHs, hH', hpl⟩ := h00
 have w1 : IntKind.i64.wrap (l.length : Int) = l.length := wrap_id (by omega) (by omega)
 have l12 : (l.length : Int) ≤ 12 := by omega
 have okm := okH_set (j := m) (o := .row 1 ((sortM l).map I)) hH (by simp [AO.ok])
 refine at_start (fn := Tryz.f175) [] 134 H.length rfl rfl rfl rfl (by kernel_rfl) (by kernel_rfl) (by simp) (Nat.le_refl _) ?_
 refine sq ?_
 refine at_regK [0, 1, 2, 3, 8] rfl ?_
 try simp [h00, o_i, f_a, w1, l12]
 refine sq ?_
 refine at_regK [0, 1, 2, 3, 8, 9] rfl ?_
 try simp [h00, o_i, f_a, w1, l12]
 refine at_block rfl ?_
 refine at_count 0 (fun i s => s = ⟨[(0, .own true m l.length), (1, I 0), (2, I l.length), (3, I z), (8, .bool true), (9, .bool true)], [], H⟩) rfl rfl ?_
 rintro i s hi rfl
 refine at_block rfl ?_
 refine sq ?_
 refine at_regK [0, 1, 2, 3, 8, 9, 10] rfl ?_
 try simp [h00, o_i, f_a, w1, l12]
 refine sq ?_
 refine sq ?_
 refine at_regK [0, 1, 2, 3, 8, 9, 10, 23] rfl ?_
 try simp [h00, o_i, f_a, w1, l12]
 refine at_cond rfl rfl (fun hb23 => ?_) (fun hb23 => by simp at hb23)
 refine sq ?_
 refine at_regK [] rfl ?_
 try simp [h00, o_i, f_a, w1, l12]
 refine (c181 l (by omega) _ m _ hH hm).of_is ?_
 try simp [h00, o_i, f_a, w1, l12]
 refine at_ret (by kernel_rfl) ?_
 try simp [h00, o_i, f_a, w1, l12]
 rw [List.take_of_length_le (by simp)]
 rw [okH, List.length_set] at okm
 exact ⟨okm, rfl⟩

theorem c157 (l : List Int) (hl : l.length ≤ 12) (n m : Nat) (H : List AO) (hH : okH H) (hm : H[m]? = some (.row 1 (l.map I))) : ACall E 157 [.own true m l.length] n H (Is (.tup []) [] (H.set m (.row 1 ((sortM l).map I)))) := by
 have h00 := hh3 hH
 have ⟨hHs, hH', hpl⟩ := h00
 have wu : IntKind.u64.wrap (l.length : Int) = l.length := wrapU (by omega) (by omega)
 have okm := okH_set (j := m) (o := .row 1 ((sortM l).map I)) hH (by simp [AO.ok])
 refine at_start (fn := Tryz.f157) [] 11 H.length rfl rfl rfl rfl (by kernel_rfl) (by kernel_rfl) (by simp) (Nat.le_refl _) ?_
 refine sq ?_
 refine at_regK [0, 2] rfl ?_
 try simp [h00, o_i, f_a, wu]
 refine at_regK [] rfl ?_
 try simp [h00, o_i, f_a, wu]
 refine (c176 l.length (by omega) _ _ hH).mono ?_
 rintro r R H' ⟨⟨z, z0, z1, rfl⟩, rfl, rfl⟩
 try simp [h00, o_i, f_a, wu]
 refine (c175 l hl z _ m _ hH hm).of_is ?_
 try simp [h00, o_i, f_a, wu]
 rw [List.take_of_length_le (by simp)]
 rw [okH, List.length_set] at okm
 exact ⟨okm, rfl⟩
end Go.Abs
