/- Part 5 of what the proof rests on: an abstract machine over the model, its contracts for the program, and plain mathematics. -/
import Derived.Test.YtaapndcljpcelaaGreatK4
/- Contracts: Sources, Sinks, Rests, Suspects. -/
set_option linter.unusedVariables false
set_option linter.unusedSimpArgs false
set_option maxRecDepth 100000
set_option maxHeartbeats 2000000
namespace Go.Abs
open Go.RowKit Go.Proofs Go.Shaft
attribute [simp] ti22 ti23 ti24 ti26 ti30 ti42 ti45 ti52 ti122 ti125 ti88 ti92 ti46
attribute [simp] ti134 ti131 ti48 ti85 ti143 ti189 ti190 ti192 ti204 ti208 ti218 ti9 ti5 ti27 ti28 ti141
theorem sel_yes {l : List Ld} {i : Nat} {x : Ld} {p : Int → Bool} (h : l[i]? = some x) (hp : p x.id = true) : ((l.map (·.id)).take (i + 1)).filter p = ((l.map (·.id)).take i).filter p ++ [x.id] := by
 rw [List.take_add_one]; simp [h, hp]
theorem sel_no {l : List Ld} {i : Nat} {x : Ld} {p : Int → Bool} (h : l[i]? = some x) (hp : p x.id = false) : ((l.map (·.id)).take (i + 1)).filter p = ((l.map (·.id)).take i).filter p := by
 rw [List.take_add_one]; simp [h, hp]
def listV (e : Int) (l : List Int) : AV := if e ≠ 0 then .nilS else eInts l
theorem oks_of {p : Bool → Nat → Bool} : ∀ {cap : List AV}, (∀ v ∈ cap, v.ok p = true) → AV.oks p cap = true
 | [], _ => rfl
 | v :: vs, h => by
  rw [AV.oks, h v List.mem_cons_self, oks_of fun u hu => h u (List.mem_cons_of_mem _ hu)]; rfl
theorem sel_len (l : List Ld) (i : Nat) (p : Int → Bool) : (((l.map (·.id)).take i).filter p).length ≤ l.length := by
 refine Nat.le_trans (List.length_filter_le _ _) ?_
 simp; omega

theorem c95 (l : List Ld) (hl : l.length ≤ 100) (f : FuncId) (cap : List AV) (took : Int → Sp) (n : Nat) (H : List AO) (hH : okH H) (hc : ∀ v ∈ cap, v.ok shd = true) (hs : ∀ v ∈ cap, v.solid = true)
  (hf : ∀ x n, ACall E f (I x :: cap) n H (Is (eSp (took x)) [] H)) : ACall E 95 [eLds l, .func (.func f) [] cap] n H (Is (.tup [eInts (sortedM l took).1, eInts (sortedM l took).2]) [] H) := by
 refine ACall.frz ?_
 have h00 := hh3 hH
 have ⟨hHs, hH', hpl⟩ := h00
 have hx : ∀ s : AS, s.expos cap = (cap, s) := fun s => expos_ok hc
 have hc2 : (∀ v ∈ cap, v.ok shd = true) ↔ True := iff_true_intro hc
 have hs2 : (∀ v ∈ cap, v.solid = true) ↔ True := iff_true_intro hs
 have hcpl : ∀ m, AV.oks (pl m) cap = true := fun m => oks_mono (p := shd) (fun sh j h => by simp [shd] at h; simp [pl, h]) cap (oks_of hc)
 refine at_start (fn := Tryz.f95) [.tmp 4, .tmp 5] 40 H.length rfl rfl rfl rfl (by kernel_rfl) (by kernel_rfl) (by simp) (Nat.le_refl _) ?_
 refine sq ?_
 refine at_regK [0, 1] rfl ?_
 try simp [h00, o_i, f_a, hx, hc2, hs2, hcpl]
 refine sq ?_
 refine at_regK [0, 1, 6, 7] rfl ?_
 try simp [h00, o_i, f_a, hx, hc2, hs2, hcpl]
 refine sq ?_
 refine sq ?_
 refine at_regK [0, 1, 6, 7, 12, 13] rfl ?_
 try simp [h00, o_i, f_a, hx, hc2, hs2, hcpl]
 refine at_block rfl ?_
 refine at_leads (leads_nilT 6 1 rfl (by decide)) ?_
 simp
 refine at_leads (leads_nilT 7 1 rfl (by decide)) ?_
 refine at_leads (leads_keep _ [0, 1, 6, 7, 12, 13]) ?_
 simp
 refine at_count l.length (fun i s => s = ⟨[(0, eLds l), (1, .func (.func f) [] cap), (6, .own false 0 (((l.map (·.id)).take (i)).filter (fun q => decide (0 < (took q).lo))).length), (7, .own false 1 (((l.map (·.id)).take (i)).filter (fun q => decide (0 < (took q).hi))).length), (12, I l.length), (13, I i)], [.row 1 ((((l.map (·.id)).take (i)).filter (fun q => decide (0 < (took q).lo))).map I), .row 1 ((((l.map (·.id)).take (i)).filter (fun q => decide (0 < (took q).hi))).map I)], H⟩) rfl rfl ?_
 rintro i s hi rfl
 have la := sel_len l i (fun q => decide (0 < (took q).lo))
 have lb := sel_len l i (fun q => decide (0 < (took q).hi))
 refine sq ?_
 refine at_regK [0, 1, 6, 7, 12, 13, 14] rfl ?_
 try simp [h00, o_i, f_a, hx, hc2, hs2, hcpl]
 refine sq ?_
 refine at_cond rfl rfl (fun hb14 => ?_) (fun hb14 => ?_)
 ·
  try simp at hb14
  obtain ⟨x, hx2⟩ : ∃ x, l[i]? = some x := ⟨_, List.getElem?_eq_getElem hb14⟩
  refine at_skip (by kernel_rfl) ?_
  try simp [h00, o_i, f_a, hx, hc2, hs2, hcpl]
  refine sq ?_
  refine at_block rfl ?_
  refine sq ?_
  refine at_regK [0, 1, 6, 7, 8, 12, 13] rfl ?_
  try simp [h00, o_i, f_a, hx, hc2, hs2, hcpl]
  refine sq ?_
  refine at_regK [0, 1, 6, 7, 9, 12, 13] rfl ?_
  try simp [h00, o_i, f_a, hx, hc2, hs2, hcpl]
  refine (c140 l i x hx2).use hH ?_
  try simp [h00, o_i, f_a, hx, hc2, hs2, hcpl]
  refine sq ?_
  refine at_regK [0, 1, 6, 7, 9, 10, 12, 13] rfl ?_
  try simp [h00, o_i, f_a, hx, hc2, hs2, hcpl]
  refine (hf x.id _).of_is ?_
  try simp [h00, o_i, f_a, hx, hc2, hs2, hcpl]
  refine sq ?_
  refine sq ?_
  refine at_regK [0, 1, 6, 7, 9, 10, 12, 13, 25] rfl ?_
  try simp [h00, o_i, f_a, hx, hc2, hs2, hcpl]
  refine at_cond rfl rfl (fun hb25 => ?_) (fun hb25 => ?_)
  ·
   try simp at hb25
   have hA1 := sel_yes (p := fun q => decide (0 < (took q).lo)) hx2 (by simpa using hb25)
   refine at_regK [0, 1, 6, 7, 9, 10, 12, 13] rfl ?_
   try simp [h00, o_i, f_a, hx, hc2, hs2, hcpl]
   refine ⟨by omega, ?_⟩
   refine sq ?_
   refine at_regK [0, 1, 6, 7, 9, 12, 13, 32] rfl ?_
   try simp [h00, o_i, f_a, hx, hc2, hs2, hcpl]
   refine at_cond rfl rfl (fun hb32 => ?_) (fun hb32 => ?_)
   ·
    try simp at hb32
    have hB1 := sel_yes (p := fun q => decide (0 < (took q).hi)) hx2 (by simpa using hb32)
    refine at_regK [0, 1, 6, 7, 12, 13] rfl ?_
    try simp [h00, o_i, f_a, hx, hc2, hs2, hcpl]
    refine ⟨by omega, ?_⟩
    refine at_regC 2 [0, 1, 6, 7, 12, 13] rfl ?_
    try simp [h00, o_i, f_a, hx, hc2, hs2, hcpl]
    refine ⟨hb14, ?_⟩
    rw [hA1, hB1, wrap_id (by omega) (by omega)]
    simp
   ·
    try simp at hb32
    have hB0 := sel_no (p := fun q => decide (0 < (took q).hi)) hx2 (by simpa using hb32)
    refine at_skip (by kernel_rfl) ?_
    try simp [h00, o_i, f_a, hx, hc2, hs2, hcpl]
    refine at_regC 2 [0, 1, 6, 7, 12, 13] rfl ?_
    try simp [h00, o_i, f_a, hx, hc2, hs2, hcpl]
    refine ⟨hb14, ?_⟩
    rw [hA1, hB0, wrap_id (by omega) (by omega)]
    simp
  ·
   try simp at hb25
   have hA0 := sel_no (p := fun q => decide (0 < (took q).lo)) hx2 (by simpa using hb25)
   refine at_skip (by kernel_rfl) ?_
   try simp [h00, o_i, f_a, hx, hc2, hs2, hcpl]
   refine sq ?_
   refine at_regK [0, 1, 6, 7, 9, 12, 13, 32] rfl ?_
   try simp [h00, o_i, f_a, hx, hc2, hs2, hcpl]
   refine at_cond rfl rfl (fun hb32 => ?_) (fun hb32 => ?_)
   ·
    try simp at hb32
    have hB1 := sel_yes (p := fun q => decide (0 < (took q).hi)) hx2 (by simpa using hb32)
    refine at_regK [0, 1, 6, 7, 12, 13] rfl ?_
    try simp [h00, o_i, f_a, hx, hc2, hs2, hcpl]
    refine ⟨by omega, ?_⟩
    refine at_regC 2 [0, 1, 6, 7, 12, 13] rfl ?_
    try simp [h00, o_i, f_a, hx, hc2, hs2, hcpl]
    refine ⟨hb14, ?_⟩
    rw [hA0, hB1, wrap_id (by omega) (by omega)]
    simp
   ·
    try simp at hb32
    have hB0 := sel_no (p := fun q => decide (0 < (took q).hi)) hx2 (by simpa using hb32)
    refine at_skip (by kernel_rfl) ?_
    try simp [h00, o_i, f_a, hx, hc2, hs2, hcpl]
    refine at_regC 2 [0, 1, 6, 7, 12, 13] rfl ?_
    try simp [h00, o_i, f_a, hx, hc2, hs2, hcpl]
    refine ⟨hb14, ?_⟩
    rw [hA0, hB0, wrap_id (by omega) (by omega)]
    simp
 ·
  try simp at hb14
  have hb14f : List.take i (List.map (fun x => x.id) l) = List.map (fun x => x.id) l := List.take_of_length_le (by simpa using hb14)
  refine at_exit rfl ?_
  try simp [h00, o_i, f_a, hx, hc2, hs2, hcpl]
  refine sq ?_
  refine at_regK [4, 5] rfl ?_
  try simp [h00, o_i, f_a, hx, hc2, hs2, hcpl]
  refine at_ret (by kernel_rfl) ?_
  try simp [h00, o_i, f_a, hx, hc2, hs2, hcpl]
  simp [List.idxOf?, List.findIdx?_cons, AS.frzV, AS.expo, AS.expos, AS.setMem, AV.ok, AV.oks, eInts, hb14f, hHs, sortedM, List.getElem?_append]

theorem c108 (l : List Ld) (hl : l.length ≤ 100) (f : FuncId) (cap : List AV) (took : Int → Sp) (n : Nat) (H : List AO) (hH : okH H) (hc : ∀ v ∈ cap, v.ok shd = true) (hs : ∀ v ∈ cap, v.solid = true)
  (hf : ∀ x n, ACall E f (I x :: cap) n H (Is (eSp (took x)) [] H)) : ACall E 108 [eLds l, .func (.func f) [] cap] n H (Is (.tup [eInts (sortedM l took).1, eInts (sortedM l took).2]) [] H) := by
 refine ACall.frz ?_
 have h00 := hh3 hH
 have ⟨hHs, hH', hpl⟩ := h00
 have hx : ∀ s : AS, s.expos cap = (cap, s) := fun s => expos_ok hc
 have hc2 : (∀ v ∈ cap, v.ok shd = true) ↔ True := iff_true_intro hc
 have hs2 : (∀ v ∈ cap, v.solid = true) ↔ True := iff_true_intro hs
 have hcpl : ∀ m, AV.oks (pl m) cap = true := fun m => oks_mono (p := shd) (fun sh j h => by simp [shd] at h; simp [pl, h]) cap (oks_of hc)
 refine at_start (fn := Tryz.f108) [.tmp 4, .tmp 5] 40 H.length rfl rfl rfl rfl (by kernel_rfl) (by kernel_rfl) (by simp) (Nat.le_refl _) ?_
 refine sq ?_
 refine at_regK [0, 1] rfl ?_
 try simp [h00, o_i, f_a, hx, hc2, hs2, hcpl]
 refine sq ?_
 refine at_regK [0, 1, 6, 7] rfl ?_
 try simp [h00, o_i, f_a, hx, hc2, hs2, hcpl]
 refine sq ?_
 refine sq ?_
 refine at_regK [0, 1, 6, 7, 12, 13] rfl ?_
 try simp [h00, o_i, f_a, hx, hc2, hs2, hcpl]
 refine at_block rfl ?_
 refine at_leads (leads_nilT 6 1 rfl (by decide)) ?_
 simp
 refine at_leads (leads_nilT 7 1 rfl (by decide)) ?_
 refine at_leads (leads_keep _ [0, 1, 6, 7, 12, 13]) ?_
 simp
 refine at_count l.length (fun i s => s = ⟨[(0, eLds l), (1, .func (.func f) [] cap), (6, .own false 0 (((l.map (·.id)).take (i)).filter (fun q => decide (0 < (took q).lo))).length), (7, .own false 1 (((l.map (·.id)).take (i)).filter (fun q => decide (0 < (took q).hi))).length), (12, I l.length), (13, I i)], [.row 1 ((((l.map (·.id)).take (i)).filter (fun q => decide (0 < (took q).lo))).map I), .row 1 ((((l.map (·.id)).take (i)).filter (fun q => decide (0 < (took q).hi))).map I)], H⟩) rfl rfl ?_
 rintro i s hi rfl
 have la := sel_len l i (fun q => decide (0 < (took q).lo))
 have lb := sel_len l i (fun q => decide (0 < (took q).hi))
 refine sq ?_
 refine at_regK [0, 1, 6, 7, 12, 13, 14] rfl ?_
 try simp [h00, o_i, f_a, hx, hc2, hs2, hcpl]
 refine sq ?_
 refine at_cond rfl rfl (fun hb14 => ?_) (fun hb14 => ?_)
 ·
  try simp at hb14
  obtain ⟨x, hx2⟩ : ∃ x, l[i]? = some x := ⟨_, List.getElem?_eq_getElem hb14⟩
  refine at_skip (by kernel_rfl) ?_
  try simp [h00, o_i, f_a, hx, hc2, hs2, hcpl]
  refine sq ?_
  refine at_block rfl ?_
  refine sq ?_
  refine at_regK [0, 1, 6, 7, 8, 12, 13] rfl ?_
  try simp [h00, o_i, f_a, hx, hc2, hs2, hcpl]
  refine sq ?_
  refine at_regK [0, 1, 6, 7, 9, 12, 13] rfl ?_
  try simp [h00, o_i, f_a, hx, hc2, hs2, hcpl]
  refine (c139 l i x hx2).use hH ?_
  try simp [h00, o_i, f_a, hx, hc2, hs2, hcpl]
  refine sq ?_
  refine at_regK [0, 1, 6, 7, 9, 10, 12, 13] rfl ?_
  try simp [h00, o_i, f_a, hx, hc2, hs2, hcpl]
  refine (hf x.id _).of_is ?_
  try simp [h00, o_i, f_a, hx, hc2, hs2, hcpl]
  refine sq ?_
  refine sq ?_
  refine at_regK [0, 1, 6, 7, 9, 10, 12, 13, 25] rfl ?_
  try simp [h00, o_i, f_a, hx, hc2, hs2, hcpl]
  refine at_cond rfl rfl (fun hb25 => ?_) (fun hb25 => ?_)
  ·
   try simp at hb25
   have hA1 := sel_yes (p := fun q => decide (0 < (took q).lo)) hx2 (by simpa using hb25)
   refine at_regK [0, 1, 6, 7, 9, 10, 12, 13] rfl ?_
   try simp [h00, o_i, f_a, hx, hc2, hs2, hcpl]
   refine ⟨by omega, ?_⟩
   refine sq ?_
   refine at_regK [0, 1, 6, 7, 9, 12, 13, 32] rfl ?_
   try simp [h00, o_i, f_a, hx, hc2, hs2, hcpl]
   refine at_cond rfl rfl (fun hb32 => ?_) (fun hb32 => ?_)
   ·
    try simp at hb32
    have hB1 := sel_yes (p := fun q => decide (0 < (took q).hi)) hx2 (by simpa using hb32)
    refine at_regK [0, 1, 6, 7, 12, 13] rfl ?_
    try simp [h00, o_i, f_a, hx, hc2, hs2, hcpl]
    refine ⟨by omega, ?_⟩
    refine at_regC 2 [0, 1, 6, 7, 12, 13] rfl ?_
    try simp [h00, o_i, f_a, hx, hc2, hs2, hcpl]
    refine ⟨hb14, ?_⟩
    rw [hA1, hB1, wrap_id (by omega) (by omega)]
    simp
   ·
    try simp at hb32
    have hB0 := sel_no (p := fun q => decide (0 < (took q).hi)) hx2 (by simpa using hb32)
    refine at_skip (by kernel_rfl) ?_
    try simp [h00, o_i, f_a, hx, hc2, hs2, hcpl]
    refine at_regC 2 [0, 1, 6, 7, 12, 13] rfl ?_
    try simp [h00, o_i, f_a, hx, hc2, hs2, hcpl]
    refine ⟨hb14, ?_⟩
    rw [hA1, hB0, wrap_id (by omega) (by omega)]
    simp
  ·
   try simp at hb25
   have hA0 := sel_no (p := fun q => decide (0 < (took q).lo)) hx2 (by simpa using hb25)
   refine at_skip (by kernel_rfl) ?_
   try simp [h00, o_i, f_a, hx, hc2, hs2, hcpl]
   refine sq ?_
   refine at_regK [0, 1, 6, 7, 9, 12, 13, 32] rfl ?_
   try simp [h00, o_i, f_a, hx, hc2, hs2, hcpl]
   refine at_cond rfl rfl (fun hb32 => ?_) (fun hb32 => ?_)
   ·
    try simp at hb32
    have hB1 := sel_yes (p := fun q => decide (0 < (took q).hi)) hx2 (by simpa using hb32)
    refine at_regK [0, 1, 6, 7, 12, 13] rfl ?_
    try simp [h00, o_i, f_a, hx, hc2, hs2, hcpl]
    refine ⟨by omega, ?_⟩
    refine at_regC 2 [0, 1, 6, 7, 12, 13] rfl ?_
    try simp [h00, o_i, f_a, hx, hc2, hs2, hcpl]
    refine ⟨hb14, ?_⟩
    rw [hA0, hB1, wrap_id (by omega) (by omega)]
    simp
   ·
    try simp at hb32
    have hB0 := sel_no (p := fun q => decide (0 < (took q).hi)) hx2 (by simpa using hb32)
    refine at_skip (by kernel_rfl) ?_
    try simp [h00, o_i, f_a, hx, hc2, hs2, hcpl]
    refine at_regC 2 [0, 1, 6, 7, 12, 13] rfl ?_
    try simp [h00, o_i, f_a, hx, hc2, hs2, hcpl]
    refine ⟨hb14, ?_⟩
    rw [hA0, hB0, wrap_id (by omega) (by omega)]
    simp
 ·
  try simp at hb14
  have hb14f : List.take i (List.map (fun x => x.id) l) = List.map (fun x => x.id) l := List.take_of_length_le (by simpa using hb14)
  refine at_exit rfl ?_
  try simp [h00, o_i, f_a, hx, hc2, hs2, hcpl]
  refine sq ?_
  refine at_regK [4, 5] rfl ?_
  try simp [h00, o_i, f_a, hx, hc2, hs2, hcpl]
  refine at_ret (by kernel_rfl) ?_
  try simp [h00, o_i, f_a, hx, hc2, hs2, hcpl]
  simp [List.idxOf?, List.findIdx?_cons, AS.frzV, AS.expo, AS.expos, AS.setMem, AV.ok, AV.oks, eInts, hb14f, hHs, sortedM, List.getElem?_append]

theorem c92 (k : Kn) (hk : Few k) (b : Bool) (f : FuncId) (cap : List AV) (n : Nat) (H : List AO) (hH : okH H) (hc : ∀ v ∈ cap, v.ok shd = true) (hs : ∀ v ∈ cap, v.solid = true)
  (hf : ∀ n, ACall E f cap n H (Is (.bool b) [] H)) : ACall E 92 [eKn k, .func (.func f) [] cap] n H (Is (I (thereM k b)) [] H) := by
 have h00 := hh3 hH
 have ⟨hHs, hH', hpl⟩ := h00
 have hx : ∀ s : AS, s.expos cap = (cap, s) := fun s => expos_ok hc
 have hc2 : (∀ v ∈ cap, v.ok shd = true) ↔ True := iff_true_intro hc
 have hs2 : (∀ v ∈ cap, v.solid = true) ↔ True := iff_true_intro hs
 have hcpl : ∀ m, AV.oks (pl m) cap = true := fun m => oks_mono (p := shd) (fun sh j h => by simp [shd] at h; simp [pl, h]) cap (oks_of hc)
 refine at_start (fn := Tryz.f92) [.tmp 4] 24 H.length rfl rfl rfl rfl (by kernel_rfl) (by kernel_rfl) (by simp) (Nat.le_refl _) ?_
 refine sq ?_
 refine at_regK [1, 2] rfl ?_
 try simp [h00, o_i, f_a, hx, hc2, hs2, hcpl]
 refine sq ?_
 refine sq ?_
 refine at_regK [1, 2, 5] rfl ?_
 try simp [h00, o_i, f_a, hx, hc2, hs2, hcpl]
 refine (c48 _ hk).use hH ?_
 try simp [h00, o_i, f_a, hx, hc2, hs2, hcpl]
 refine sq ?_
 refine at_regK [1, 2, 5, 11] rfl ?_
 try simp [h00, o_i, f_a, hx, hc2, hs2, hcpl]
 refine at_cond rfl rfl (fun hb11 => ?_) (fun hb11 => ?_)
 ·
  try simp at hb11
  refine sq ?_
  refine at_regK [4] rfl ?_
  try simp [h00, o_i, f_a, hx, hc2, hs2, hcpl]
  refine at_ret (by kernel_rfl) ?_
  try simp [h00, o_i, f_a, hx, hc2, hs2, hcpl]
  unfold thereM
  simp_all
 ·
  try simp at hb11
  refine at_skip (by kernel_rfl) ?_
  try simp [h00, o_i, f_a, hx, hc2, hs2, hcpl]
  refine sq ?_
  refine sq ?_
  refine at_regK [2, 15] rfl ?_
  try simp [h00, o_i, f_a, hx, hc2, hs2, hcpl]
  refine (hf _).of_is ?_
  try simp [h00, o_i, f_a, hx, hc2, hs2, hcpl]
  refine at_cond rfl rfl (fun hb15 => ?_) (fun hb15 => ?_)
  ·
   try simp at hb15
   refine sq ?_
   refine at_regK [4] rfl ?_
   try simp [h00, o_i, f_a, hx, hc2, hs2, hcpl]
   refine at_ret (by kernel_rfl) ?_
   try simp [h00, o_i, f_a, hx, hc2, hs2, hcpl]
   unfold thereM
   simp_all
  ·
   try simp at hb15
   have fn := fine_of_check hb11
   have rt := right_of_check hb11
   have nl := rt.nl; have nd := rt.nd
   refine at_skip (by kernel_rfl) ?_
   try simp [h00, o_i, f_a, hx, hc2, hs2, hcpl]
   refine sq ?_
   refine sq ?_
   refine at_regK [7] rfl ?_
   try simp [h00, o_i, f_a, hx, hc2, hs2, hcpl]
   refine (c89n k fn).use hH ?_
   try simp [h00, o_i, f_a, hx, hc2, hs2, hcpl]
   refine (c111 (netM k []) fn.wf 0 0 (by omega) fn.wf.n0 (by omega) fn.wf.n0).use hH ?_
   try simp [h00, o_i, f_a, hx, hc2, hs2, hcpl]
   refine sq ?_
   refine at_regK [23] rfl ?_
   try simp [h00, o_i, f_a, hx, hc2, hs2, hcpl]
   refine at_cond rfl rfl (fun hb23 => ?_) (fun hb23 => ?_)
   ·
    try simp at hb23
    refine sq ?_
    refine at_regK [4] rfl ?_
    try simp [h00, o_i, f_a, hx, hc2, hs2, hcpl]
    refine at_ret (by kernel_rfl) ?_
    try simp [h00, o_i, f_a, hx, hc2, hs2, hcpl]
    unfold thereM
    simp_all
   ·
    try simp at hb23
    refine at_skip (by kernel_rfl) ?_
    try simp [h00, o_i, f_a, hx, hc2, hs2, hcpl]
    refine sq ?_
    refine at_regK [4] rfl ?_
    try simp [h00, o_i, f_a, hx, hc2, hs2, hcpl]
    refine at_ret (by kernel_rfl) ?_
    try simp [h00, o_i, f_a, hx, hc2, hs2, hcpl]
    unfold thereM
    simp_all

theorem c93 (k : Kn) (hk : Few k) (x : Int) (m q n : Nat) (H : List AO) (hH : okH H) (hm : H[m]? = some (.cell (eKn k))) (hq : H[q]? = some (.cell (I x))) : ACall E 93 [.ref true m 0 [] 0, .ref true q 0 [] 0] n H (Is (.bool (decide (0 ≤ find k.draws x))) [] H) := by
 have h00 := hh3 hH
 have ⟨hHs, hH', hpl⟩ := h00
 refine at_start (fn := Tryz.f93) [.tmp 2] 8 H.length rfl rfl rfl rfl (by kernel_rfl) (by kernel_rfl) (by simp) (Nat.le_refl _) ?_
 refine sq ?_
 refine at_regK [0, 1] rfl ?_
 try simp [h00, o_i, f_a, hm, hq]
 refine sq ?_
 refine at_draw [2] [1, 1, 1, 1, 0, 0] [] rfl Efol (by kernel_rfl) (by simp) ?_
 try simp [h00, o_i, f_a, hm, hq]
 refine (c77 k).draw hH ?_
 try simp [h00, o_i, f_a, hm, hq]
 refine (c94 k.draws hk.d x).draw hH ?_
 try simp [h00, o_i, f_a, hm, hq]
 refine at_ret (by kernel_rfl) ?_
 try simp [h00, o_i, f_a, hm, hq]

theorem c107 (k : Kn) (hk : Few k) (x : Int) (m q n : Nat) (H : List AO) (hH : okH H) (hm : H[m]? = some (.cell (eKn k))) (hq : H[q]? = some (.cell (I x))) : ACall E 107 [.ref true m 0 [] 0, .ref true q 0 [] 0] n H (Is (.bool (decide (0 ≤ find k.loads x))) [] H) := by
 have h00 := hh3 hH
 have ⟨hHs, hH', hpl⟩ := h00
 refine at_start (fn := Tryz.f107) [.tmp 2] 8 H.length rfl rfl rfl rfl (by kernel_rfl) (by kernel_rfl) (by simp) (Nat.le_refl _) ?_
 refine sq ?_
 refine at_regK [0, 1] rfl ?_
 try simp [h00, o_i, f_a, hm, hq]
 refine sq ?_
 refine at_draw [2] [1, 1, 1, 1, 0, 0] [] rfl Efol (by kernel_rfl) (by simp) ?_
 try simp [h00, o_i, f_a, hm, hq]
 refine (c75 k).draw hH ?_
 try simp [h00, o_i, f_a, hm, hq]
 refine (c86 k.loads hk.l x).draw hH ?_
 try simp [h00, o_i, f_a, hm, hq]
 refine at_ret (by kernel_rfl) ?_
 try simp [h00, o_i, f_a, hm, hq]

theorem c96 (k : Kn) (hk : Few k) (y x : Int) (m q n : Nat) (H : List AO) (hH : okH H) (hm : H[m]? = some (.cell (eKn k))) (hq : H[q]? = some (.cell (I y))) : ACall E 96 [I x, .ref true m 0 [] 0, .ref true q 0 [] 0] n H (Is (eSp (tookM k  y x).1) [] H) := by
 have h00 := hh3 hH
 have ⟨hHs, hH', hpl⟩ := h00
 refine at_start (fn := Tryz.f96) [.cell 4 30] 15 H.length rfl rfl rfl rfl (by kernel_rfl) (by kernel_rfl) (by simp) (Nat.le_refl _) ?_
 refine sq ?_
 refine at_regK [0, 1, 2, 4] rfl ?_
 try simp [h00, o_i, f_a, hm, hq]
 refine sq ?_
 refine at_regK [4, 5] rfl ?_
 try simp [h00, o_i, f_a, hm, hq]
 refine (c31 k hk y x).use hH ?_
 try simp [h00, o_i, f_a, hm, hq]
 refine sq ?_
 refine at_regK [4] rfl ?_
 try simp [h00, o_i, f_a, hm, hq]
 refine at_ret (by kernel_rfl) ?_
 try simp [h00, o_i, f_a, hm, hq]

theorem c109 (k : Kn) (hk : Few k) (y x : Int) (m q n : Nat) (H : List AO) (hH : okH H) (hm : H[m]? = some (.cell (eKn k))) (hq : H[q]? = some (.cell (I y))) : ACall E 109 [I x, .ref true m 0 [] 0, .ref true q 0 [] 0] n H (Is (eSp (tookM k  x y).1) [] H) := by
 have h00 := hh3 hH
 have ⟨hHs, hH', hpl⟩ := h00
 refine at_start (fn := Tryz.f109) [.cell 4 30] 15 H.length rfl rfl rfl rfl (by kernel_rfl) (by kernel_rfl) (by simp) (Nat.le_refl _) ?_
 refine sq ?_
 refine at_regK [0, 1, 2, 4] rfl ?_
 try simp [h00, o_i, f_a, hm, hq]
 refine sq ?_
 refine at_regK [4, 5] rfl ?_
 try simp [h00, o_i, f_a, hm, hq]
 refine (c31 k hk x y).use hH ?_
 try simp [h00, o_i, f_a, hm, hq]
 refine sq ?_
 refine at_regK [4] rfl ?_
 try simp [h00, o_i, f_a, hm, hq]
 refine at_ret (by kernel_rfl) ?_
 try simp [h00, o_i, f_a, hm, hq]

theorem c30a (k : Kn) (hk : Few k) (x : Int) : Con E 30 [eKn k, I x] (.tup [listV (thereM k (decide (0 ≤ find k.draws x))) (sourcesM k x).1, listV (thereM k (decide (0 ≤ find k.draws x))) (sourcesM k x).2.1, I (sourcesM k x).2.2]) := by
 intro n H hH
 have h00 := hh3 hH
 have ⟨hHs, hH', hpl⟩ := h00
 
 have h0 : ∀ j k', H.map (mvO j k') = H := mvO_map hH
 refine at_start (fn := Tryz.f30) [.tmp 4, .tmp 5, .tmp 6] 25 H.length rfl rfl rfl rfl (by kernel_rfl) (by kernel_rfl) (by simp) (Nat.le_refl _) ?_
 refine sq ?_
 refine at_regK [2, 3] rfl ?_
 try simp [h00, o_i, f_a]
 refine sq ?_
 refine sq ?_
 refine at_leads (leads_share 0 rfl rfl) ?_
 simp [AS.share, h0, mvV_id]
 refine at_leads (leads_share 1 rfl rfl) ?_
 simp [AS.share, h0, mvV_id]
 obtain ⟨H2, hH2⟩ : ∃ H2, H2 = H ++ [AO.cell (eKn k), .cell (I x)] := ⟨_, rfl⟩
 have ok2 : okH H2 := by
  rw [okH, hH2, List.length_append, List.forall_mem_append]
  refine ⟨okH_pm hH _ (by omega), ?_⟩
  simp [AO.ok, pm]
 have g0 : H2[H.length]? = some (.cell (eKn k)) := by rw [hH2]; simp
 have g1 : H2[H.length + 1]? = some (.cell (I x)) := by rw [hH2]; simp
 have ht2 : H2.take H.length = H := by rw [hH2]; simp
 have hHs2 : (∀ o ∈ H2, o.ok shd = true) ↔ True := iff_true_intro (okH_shd ok2)
 rw [← hH2]
 refine at_regK [2, 3, 7] rfl ?_
 try simp [h00, o_i, f_a, g0, g1, ht2, hHs2]
 refine (c92 k hk (decide (0 ≤ find k.draws x)) 93 [.ref true H.length 0 [] 0, .ref true (H.length + 1) 0 [] 0] _ _ ok2 (by simp) (by simp) (fun n => c93 k hk x _ _ n _ ok2 g0 g1)).of_is ?_
 try simp [h00, o_i, f_a, g0, g1, ht2, hHs2]
 refine sq ?_
 refine at_regK [2, 3, 7, 14] rfl ?_
 try simp [h00, o_i, f_a, g0, g1, ht2, hHs2]
 refine at_cond rfl rfl (fun hb14 => ?_) (fun hb14 => ?_)
 ·
  try simp at hb14
  refine sq ?_
  refine at_regK [4, 5, 6] rfl ?_
  try simp [h00, o_i, f_a, g0, g1, ht2, hHs2]
  refine at_ret (by kernel_rfl) ?_
  try simp [h00, o_i, f_a, g0, g1, ht2, hHs2]
  unfold listV sourcesM
  rw [if_pos hb14, if_pos hb14, if_pos hb14]
  exact ⟨by rw [hH2]; simp, rfl, rfl, rfl⟩
 ·
  try simp at hb14
  refine at_skip (by kernel_rfl) ?_
  try simp [h00, o_i, f_a, g0, g1, ht2, hHs2]
  refine sq ?_
  refine at_regK [8, 9] rfl ?_
  try simp [h00, o_i, f_a, g0, g1, ht2, hHs2]
  refine (c75 k).use ok2 ?_
  try simp [h00, o_i, f_a, g0, g1, ht2, hHs2]
  refine (c95 k.loads hk.l 96 [.ref true H.length 0 [] 0, .ref true (H.length + 1) 0 [] 0] (fun i => (tookM k x i).1) _ _ ok2 (by simp) (by simp) (fun i n => c96 k hk x i _ _ n _ ok2 g0 g1)).of_is ?_
  try simp [h00, o_i, f_a, g0, g1, ht2, hHs2]
  refine sq ?_
  refine at_regK [4, 5, 6] rfl ?_
  try simp [h00, o_i, f_a, g0, g1, ht2, hHs2]
  refine at_ret (by kernel_rfl) ?_
  try simp [h00, o_i, f_a, g0, g1, ht2, hHs2]
  unfold listV sourcesM
  rw [if_neg (by simp [hb14]), if_neg (by simp [hb14]), if_neg (by simp [hb14])]
  exact ⟨by rw [hH2]; simp, rfl, rfl, rfl⟩

theorem c30 (k : Kn) (hk : Few k) (x : Int) : Con E 30 [eKn k, I x] (.tup [eInts (sourcesM k x).1, eInts (sourcesM k x).2.1, I (sourcesM k x).2.2]) := by
 refine (c30a k hk x).weak ?_
 unfold listV
 split
 ·rename_i h
  have e : sourcesM k x = ([], [], thereM k (decide (0 ≤ find k.draws x))) := by unfold sourcesM; rw [if_pos h]
  rw [e]
  exact fun c m => Wk.tup (.cons (Wk.nil 1) (.cons (Wk.nil 1) (.cons (Wk.refl _) .nil))) (by simp) c m
 ·exact fun _ _ h => h

theorem c38a (k : Kn) (hk : Few k) (x : Int) : Con E 38 [eKn k, I x] (.tup [listV (thereM k (decide (0 ≤ find k.loads x))) (sinksM k x).1, listV (thereM k (decide (0 ≤ find k.loads x))) (sinksM k x).2.1, I (sinksM k x).2.2]) := by
 intro n H hH
 have h00 := hh3 hH
 have ⟨hHs, hH', hpl⟩ := h00
 
 have h0 : ∀ j k', H.map (mvO j k') = H := mvO_map hH
 refine at_start (fn := Tryz.f38) [.tmp 4, .tmp 5, .tmp 6] 25 H.length rfl rfl rfl rfl (by kernel_rfl) (by kernel_rfl) (by simp) (Nat.le_refl _) ?_
 refine sq ?_
 refine at_regK [2, 3] rfl ?_
 try simp [h00, o_i, f_a]
 refine sq ?_
 refine sq ?_
 refine at_leads (leads_share 0 rfl rfl) ?_
 simp [AS.share, h0, mvV_id]
 refine at_leads (leads_share 1 rfl rfl) ?_
 simp [AS.share, h0, mvV_id]
 obtain ⟨H2, hH2⟩ : ∃ H2, H2 = H ++ [AO.cell (eKn k), .cell (I x)] := ⟨_, rfl⟩
 have ok2 : okH H2 := by
  rw [okH, hH2, List.length_append, List.forall_mem_append]
  refine ⟨okH_pm hH _ (by omega), ?_⟩
  simp [AO.ok, pm]
 have g0 : H2[H.length]? = some (.cell (eKn k)) := by rw [hH2]; simp
 have g1 : H2[H.length + 1]? = some (.cell (I x)) := by rw [hH2]; simp
 have ht2 : H2.take H.length = H := by rw [hH2]; simp
 have hHs2 : (∀ o ∈ H2, o.ok shd = true) ↔ True := iff_true_intro (okH_shd ok2)
 rw [← hH2]
 refine at_regK [2, 3, 7] rfl ?_
 try simp [h00, o_i, f_a, g0, g1, ht2, hHs2]
 refine (c92 k hk (decide (0 ≤ find k.loads x)) 107 [.ref true H.length 0 [] 0, .ref true (H.length + 1) 0 [] 0] _ _ ok2 (by simp) (by simp) (fun n => c107 k hk x _ _ n _ ok2 g0 g1)).of_is ?_
 try simp [h00, o_i, f_a, g0, g1, ht2, hHs2]
 refine sq ?_
 refine at_regK [2, 3, 7, 14] rfl ?_
 try simp [h00, o_i, f_a, g0, g1, ht2, hHs2]
 refine at_cond rfl rfl (fun hb14 => ?_) (fun hb14 => ?_)
 ·
  try simp at hb14
  refine sq ?_
  refine at_regK [4, 5, 6] rfl ?_
  try simp [h00, o_i, f_a, g0, g1, ht2, hHs2]
  refine at_ret (by kernel_rfl) ?_
  try simp [h00, o_i, f_a, g0, g1, ht2, hHs2]
  unfold listV sinksM
  rw [if_pos hb14, if_pos hb14, if_pos hb14]
  exact ⟨by rw [hH2]; simp, rfl, rfl, rfl⟩
 ·
  try simp at hb14
  refine at_skip (by kernel_rfl) ?_
  try simp [h00, o_i, f_a, g0, g1, ht2, hHs2]
  refine sq ?_
  refine at_regK [8, 9] rfl ?_
  try simp [h00, o_i, f_a, g0, g1, ht2, hHs2]
  refine (c77 k).use ok2 ?_
  try simp [h00, o_i, f_a, g0, g1, ht2, hHs2]
  refine (c108 k.draws hk.d 109 [.ref true H.length 0 [] 0, .ref true (H.length + 1) 0 [] 0] (fun i => (tookM k i x).1) _ _ ok2 (by simp) (by simp) (fun i n => c109 k hk x i _ _ n _ ok2 g0 g1)).of_is ?_
  try simp [h00, o_i, f_a, g0, g1, ht2, hHs2]
  refine sq ?_
  refine at_regK [4, 5, 6] rfl ?_
  try simp [h00, o_i, f_a, g0, g1, ht2, hHs2]
  refine at_ret (by kernel_rfl) ?_
  try simp [h00, o_i, f_a, g0, g1, ht2, hHs2]
  unfold listV sinksM
  rw [if_neg (by simp [hb14]), if_neg (by simp [hb14]), if_neg (by simp [hb14])]
  exact ⟨by rw [hH2]; simp, rfl, rfl, rfl⟩

theorem c38 (k : Kn) (hk : Few k) (x : Int) : Con E 38 [eKn k, I x] (.tup [eInts (sinksM k x).1, eInts (sinksM k x).2.1, I (sinksM k x).2.2]) := by
 refine (c38a k hk x).weak ?_
 unfold listV
 split
 ·rename_i h
  have e : sinksM k x = ([], [], thereM k (decide (0 ≤ find k.loads x))) := by unfold sinksM; rw [if_pos h]
  rw [e]
  exact fun c m => Wk.tup (.cons (Wk.nil 1) (.cons (Wk.nil 1) (.cons (Wk.refl _) .nil))) (by simp) c m
 ·exact fun _ _ h => h
end Go.Abs
/- Contracts: Rests, Suspects. -/
set_option linter.unusedVariables false
set_option linter.unusedSimpArgs false
set_option maxRecDepth 100000
set_option maxHeartbeats 2000000
namespace Go.Abs
open Go.RowKit Go.Proofs Go.Shaft
attribute [simp] ti22 ti23 ti24 ti26 ti30 ti42 ti45 ti52 ti122 ti125 ti88 ti92 ti46
attribute [simp] ti134 ti131 ti48 ti85 ti143 ti189 ti190 ti192 ti204 ti208 ti218 ti9 ti5 ti27 ti28 ti141
theorem few_without {k : Kn} (hk : Few k) (ids : List Int) : Few (withoutM k ids) := ⟨hk.l, hk.d, by have := List.length_filter_le (fun w : Wg => !decide (w.id ∈ ids)) k.weighs; have := hk.w; simp only [withoutM]; omega⟩
theorem selw_yes {l : List Wg} {i : Nat} {x : Wg} {p : Int → Bool} (h : l[i]? = some x) (hp : p x.id = true) : ((l.map (·.id)).take (i + 1)).filter p = ((l.map (·.id)).take i).filter p ++ [x.id] := by
 rw [List.take_add_one]; simp [h, hp]
theorem selw_no {l : List Wg} {i : Nat} {x : Wg} {p : Int → Bool} (h : l[i]? = some x) (hp : p x.id = false) : ((l.map (·.id)).take (i + 1)).filter p = ((l.map (·.id)).take i).filter p := by
 rw [List.take_add_one]; simp [h, hp]
def suspV (k : Kn) : AV := if check k ≠ 0 ∨ (aboveM (netM k []) 0 0).2 = true then .nilS else eInts (suspectsM k).1
theorem selw_len (l : List Wg) (i : Nat) (p : Int → Bool) : (((l.map (·.id)).take i).filter p).length ≤ l.length := by
 refine Nat.le_trans (List.length_filter_le _ _) ?_
 simp; omega

theorem c112 (k : Kn) (hk : Few k) (hw12 : k.weighs.length ≤ 12) (is : Kn → Bool) (f : FuncId) (cap : List AV) (n : Nat) (H : List AO) (hH : okH H) (hc : ∀ v ∈ cap, v.ok shd = true) (hs : ∀ v ∈ cap, v.solid = true)
  (hf : ∀ i n, ACall E f (eKn (withoutM k [i]) :: cap) n H (Is (.bool (is (withoutM k [i]))) [] H)) : ACall E 112 [eKn k, .func (.func f) [] cap] n H (Is (eInts (chosenM k is)) [] H) := by
 refine ACall.frz ?_
 have h00 := hh3 hH
 have ⟨hHs, hH', hpl⟩ := h00
 have hx : ∀ s : AS, s.expos cap = (cap, s) := fun s => expos_ok hc
 have hc2 : (∀ v ∈ cap, v.ok shd = true) ↔ True := iff_true_intro hc
 have hs2 : (∀ v ∈ cap, v.solid = true) ↔ True := iff_true_intro hs
 have hcpl : ∀ m, AV.oks (pl m) cap = true := fun m => oks_mono (p := shd) (fun sh j h => by simp [shd] at h; simp [pl, h]) cap (oks_of hc)
 have h0 : ∀ j k', H.map (mvO j k') = H := mvO_map hH
 have hp1 : (∀ o ∈ H, o.ok (pm (H.length + 1)) = true) ↔ True := iff_true_intro (okH_pm hH _ (by omega))
 refine at_start (fn := Tryz.f112) [.tmp 4] 31 H.length rfl rfl rfl rfl (by kernel_rfl) (by kernel_rfl) (by simp) (Nat.le_refl _) ?_
 refine sq ?_
 refine at_regK [1, 2] rfl ?_
 try simp [h00, o_i, f_a, hx, hc2, hs2, hcpl]
 refine sq ?_
 refine at_regK [1, 2, 5] rfl ?_
 try simp [h00, o_i, f_a, hx, hc2, hs2, hcpl]
 refine sq ?_
 refine sq ?_
 refine at_regK [1, 2, 5, 9, 10, 11] rfl ?_
 try simp [h00, o_i, f_a, hx, hc2, hs2, hcpl]
 refine at_block rfl ?_
 refine at_leads (leads_nilT 5 1 rfl (by decide)) ?_
 refine at_leads (leads_keep _ [1, 2, 5, 9, 10, 11]) ?_
 simp
 refine at_count k.weighs.length (fun i s => s = ⟨[(1, .func (.func f) [] cap), (2, .ref false 0 0 [] 0), (5, .own false 1 (((k.weighs.map (·.id)).take i).filter (fun q => is (withoutM k [q]))).length), (9, eWgs k.weighs), (10, I k.weighs.length), (11, I i)], [.cell (eKn k), .row 1 ((((k.weighs.map (·.id)).take i).filter (fun q => is (withoutM k [q]))).map I)], H⟩) rfl rfl ?_
 rintro i s hi rfl
 have la := selw_len k.weighs i (fun q => is (withoutM k [q]))
 refine sq ?_
 refine at_regK [1, 2, 5, 9, 10, 11, 12] rfl ?_
 try simp [h00, o_i, f_a, hx, hc2, hs2, hcpl]
 refine sq ?_
 refine at_cond rfl rfl (fun hb12 => ?_) (fun hb12 => ?_)
 ·
  try simp at hb12
  obtain ⟨x, hx2⟩ : ∃ x, k.weighs[i]? = some x := ⟨_, List.getElem?_eq_getElem hb12⟩
  have i0 : (i : Int) < k.weighs.length := by omega
  refine at_skip (by kernel_rfl) ?_
  try simp [h00, o_i, f_a, hx, hc2, hs2, hcpl, hx2, i0]
  refine sq ?_
  refine at_block rfl ?_
  refine sq ?_
  refine at_regK [1, 2, 5, 7, 9, 10, 11] rfl ?_
  try simp [h00, o_i, f_a, hx, hc2, hs2, hcpl, hx2, i0]
  refine sq ?_
  refine at_regK [1, 2, 5, 7, 9, 10, 11, 21] rfl ?_
  try simp [h00, o_i, f_a, hx, hc2, hs2, hcpl, hx2, i0]
  refine (c117 k hk [x.id] (by simp)).use hH ?_
  try simp [h00, o_i, f_a, hx, hc2, hs2, hcpl, hx2, i0]
  refine (hf x.id _).of_is ?_
  try simp [h00, o_i, f_a, hx, hc2, hs2, hcpl, hx2, i0]
  refine at_cond rfl rfl (fun hb21 => ?_) (fun hb21 => ?_)
  ·
   try simp at hb21
   have hA1 := selw_yes (p := (fun q => is (withoutM k [q]))) hx2 (by simpa using hb21)
   refine at_regK [1, 2, 5, 9, 10, 11] rfl ?_
   try simp [h00, o_i, f_a, hx, hc2, hs2, hcpl, hx2, i0]
   refine ⟨by omega, ?_⟩
   refine at_regC 2 [1, 2, 5, 9, 10, 11] rfl ?_
   try simp [h00, o_i, f_a, hx, hc2, hs2, hcpl, hx2, i0]
   rw [hA1, wrap_id (by omega) (by omega)]
   simp [hb12]
  ·
   try simp at hb21
   have hA0 := selw_no (p := (fun q => is (withoutM k [q]))) hx2 (by simpa using hb21)
   refine at_skip (by kernel_rfl) ?_
   try simp [h00, o_i, f_a, hx, hc2, hs2, hcpl, hx2, i0]
   refine at_regC 2 [1, 2, 5, 9, 10, 11] rfl ?_
   try simp [h00, o_i, f_a, hx, hc2, hs2, hcpl, hx2, i0]
   rw [hA0, wrap_id (by omega) (by omega)]
   simp [hb12]
 ·
  try simp at hb12
  have hall : List.take i (List.map (fun x => x.id) k.weighs) = List.map (fun x => x.id) k.weighs := List.take_of_length_le (by simpa using hb12)
  rw [hall] at la
  obtain ⟨l, hl⟩ : ∃ l, l = (k.weighs.map (·.id)).filter (fun q => is (withoutM k [q])) := ⟨_, rfl⟩
  rw [← hl] at la
  refine at_exit rfl ?_
  try simp [h00, o_i, f_a, hx, hc2, hs2, hcpl, hall, ← hl]
  refine sq ?_
  refine at_leads (leads_share 1 rfl rfl) ?_
  simp [AS.share, h0, mvV_id, hall, ← hl]
  obtain ⟨H2, hH2⟩ : ∃ H2, H2 = H ++ [AO.row 1 (l.map I)] := ⟨_, rfl⟩
  have ok2 : okH H2 := by
   rw [okH, hH2, List.length_append, List.forall_mem_append]
   refine ⟨okH_pm hH _ (by omega), ?_⟩
   simp [AO.ok, pm]
  have g0 : H2[H.length]? = some (.row 1 (l.map I)) := by rw [hH2]; simp
  have ht2 : H2.take H.length = H := by rw [hH2]; simp
  have hHs2 : (∀ o ∈ H2, o.ok shd = true) ↔ True := iff_true_intro (okH_shd ok2)
  rw [← hH2]
  refine at_regK [5] rfl ?_
  try simp [h00, o_i, f_a, ht2, hHs2, hall, ← hl]
  refine (c157 l (by omega) _ H.length _ ok2 g0).of_is ?_
  obtain ⟨H3, hH3⟩ : ∃ H3, H3 = H2.set H.length (AO.row 1 ((sortM l).map I)) := ⟨_, rfl⟩
  have ok3 : okH H3 := by rw [hH3]; exact okH_set ok2 (by simp [AO.ok])
  have hHs3 : (∀ o ∈ H3, o.ok shd = true) ↔ True := iff_true_intro (okH_shd ok3)
  have g3 : H3[H.length]? = some (.row 1 ((sortM l).map I)) := by rw [hH3]; simp [hH2]
  rw [← hH3]
  try simp [h00, o_i, f_a, ht2, hHs2, hall, ← hl]
  refine sq ?_
  refine at_leads (leads_unshare H.length g3 rfl) ?_
  simp [AS.unshare, g3, mwV]
  refine at_regK [4] rfl ?_
  try simp [h00, o_i, f_a, hHs3, hall, ← hl]
  refine at_leads (leads_freeze 4 2 rfl rfl (by simp [sortM_len])) ?_
  refine at_ret (by kernel_rfl) ?_
  try simp [h00, o_i, f_a, hx, hc2, hs2, hcpl, hall, ← hl]
  have hl3 : H.length ≤ H3.length := by rw [hH3, hH2]; simp
  have ht3 : List.take H.length (H3.set H.length AO.dead) = H := by rw [hH3, hH2]; simp
  rw [ht3]
  simp [AS.frzV, AS.expo, AS.expos, AS.setMem, AV.ok, AV.oks, hHs, hH', eInts, chosenM, hl3]
  rw [hl]

theorem c113 (k : Kn) (hk : Few k) (f : Fine k) (a b z : Int) (a0 : 0 ≤ a) (a1 : a < marksM k) (b0 : 0 ≤ b) (b1 : b < marksM k) (m q r n : Nat) (H : List AO) (hH : okH H) (hm : H[m]? = some (.cell (I a))) (hq : H[q]? = some (.cell (I b))) (hr : H[r]? = some (.cell (I z))) : ACall E 113 [eKn k, .ref true m 0 [] 0, .ref true q 0 [] 0, .ref true r 0 [] 0] n H (Is (.bool (decide ((aboveM (netM k []) a b).1 ≠ z))) [] H) := by
 have h00 := hh3 hH
 have ⟨hHs, hH', hpl⟩ := h00
 refine at_start (fn := Tryz.f113) [.tmp 5] 19 H.length rfl rfl rfl rfl (by kernel_rfl) (by kernel_rfl) (by simp) (Nat.le_refl _) ?_
 refine sq ?_
 refine at_regK [1, 2, 3, 4] rfl ?_
 try simp [h00, o_i, f_a, hm, hq, hr]
 refine sq ?_
 refine at_draw [3, 6] [1, 1, 1, 1, 1, 0, 0, 0, 0, 0] [] rfl Efol (by kernel_rfl) (by simp) ?_
 try simp [h00, o_i, f_a, hm, hq, hr]
 refine (c89n k f).draw hH ?_
 try simp [h00, o_i, f_a, hm, hq, hr]
 refine (c111 (netM k []) f.wf a b a0 a1 b0 b1).draw hH ?_
 try simp [h00, o_i, f_a, hm, hq, hr]
 refine sq ?_
 refine at_regK [5] rfl ?_
 try simp [h00, o_i, f_a, hm, hq, hr]
 refine at_ret (by kernel_rfl) ?_
 try simp [h00, o_i, f_a, hm, hq, hr]
 rfl

theorem c116 (k : Kn) (f : Fine k) : Con E 116 [eKn k] (.bool (aboveM (netM k []) 0 0).2) := by
 intro n H hH
 have h00 := hh3 hH
 have ⟨hHs, hH', hpl⟩ := h00
 refine at_start (fn := Tryz.f116) [.tmp 2] 12 H.length rfl rfl rfl rfl (by kernel_rfl) (by kernel_rfl) (by simp) (Nat.le_refl _) ?_
 refine sq ?_
 refine at_regK [1] rfl ?_
 try simp [h00, o_i, f_a]
 refine sq ?_
 refine at_regK [4] rfl ?_
 try simp [h00, o_i, f_a]
 refine (c89n k f).use hH ?_
 try simp [h00, o_i, f_a]
 refine (c111 (netM k []) f.wf 0 0 (by omega) f.wf.n0 (by omega) f.wf.n0).use hH ?_
 try simp [h00, o_i, f_a]
 refine sq ?_
 refine at_regK [2] rfl ?_
 try simp [h00, o_i, f_a]
 refine at_ret (by kernel_rfl) ?_
 try simp [h00, o_i, f_a]

theorem c43a (k : Kn) (hk : Few k) (hw : check k = 0 → k.weighs.length ≤ 12) : Con E 43 [eKn k] (.tup [suspV k, I (suspectsM k).2]) := by
 intro n H hH
 have h00 := hh3 hH
 have ⟨hHs, hH', hpl⟩ := h00
 refine at_start (fn := Tryz.f43) [.tmp 2, .tmp 3] 21 H.length rfl rfl rfl rfl (by kernel_rfl) (by kernel_rfl) (by simp) (Nat.le_refl _) ?_
 refine sq ?_
 refine at_regK [1] rfl ?_
 try simp [h00, o_i, f_a]
 refine sq ?_
 refine sq ?_
 refine at_regK [1, 4] rfl ?_
 try simp [h00, o_i, f_a]
 refine (c48 _ hk).use hH ?_
 try simp [h00, o_i, f_a]
 refine sq ?_
 refine at_regK [1, 4, 10] rfl ?_
 try simp [h00, o_i, f_a]
 refine at_cond rfl rfl (fun hb10 => ?_) (fun hb10 => ?_)
 ·
  try simp at hb10
  refine sq ?_
  refine at_regK [2, 3] rfl ?_
  try simp [h00, o_i, f_a]
  refine at_ret (by kernel_rfl) ?_
  try simp [h00, o_i, f_a]
  have e : suspectsM k = ([], check k) := by unfold suspectsM; rw [if_pos hb10]
  rw [e, suspV, if_pos (.inl hb10)]
  exact ⟨rfl, rfl⟩
 ·
  try simp at hb10
  have fn := fine_of_check hb10
  have rt := right_of_check hb10
  have nl := rt.nl; have nd := rt.nd
  refine at_skip (by kernel_rfl) ?_
  try simp [h00, o_i, f_a]
  refine sq ?_
  refine sq ?_
  refine at_regK [1, 6] rfl ?_
  try simp [h00, o_i, f_a]
  refine (c89n k fn).use hH ?_
  try simp [h00, o_i, f_a]
  refine (c111 (netM k []) fn.wf 0 0 (by omega) fn.wf.n0 (by omega) fn.wf.n0).use hH ?_
  try simp [h00, o_i, f_a]
  refine sq ?_
  refine at_regK [1, 18] rfl ?_
  try simp [h00, o_i, f_a]
  refine at_cond rfl rfl (fun hb18 => ?_) (fun hb18 => ?_)
  ·
   try simp at hb18
   refine sq ?_
   refine at_regK [2, 3] rfl ?_
   try simp [h00, o_i, f_a]
   refine at_ret (by kernel_rfl) ?_
   try simp [h00, o_i, f_a]
   have e : suspectsM k = ([], 0) := by unfold suspectsM; rw [if_neg (by simp [hb10]), if_pos hb18]
   rw [e, suspV, if_pos (Or.inr hb18)]
   exact ⟨rfl, rfl⟩
  ·
   try simp at hb18
   refine at_skip (by kernel_rfl) ?_
   try simp [h00, o_i, f_a]
   refine sq ?_
   refine at_regK [2, 3] rfl ?_
   try simp [h00, o_i, f_a]
   refine (c112 k hk (hw hb10) (fun less => (aboveM (netM less []) 0 0).2) 116 [] _ _ hH (by simp) (by simp) (fun i n => c116 (withoutM k [i]) (fine_of_check (check_without (by simpa using hb10) [i])) n H hH)).of_is ?_
   try simp [h00, o_i, f_a]
   refine at_ret (by kernel_rfl) ?_
   try simp [h00, o_i, f_a]
   have e : suspectsM k = (chosenM k (fun less => (aboveM (netM less []) 0 0).2), 0) := by unfold suspectsM; rw [if_neg (by simp [hb10]), if_neg (by simp [hb18])]
   rw [suspV, e, if_neg (by simp [hb18, hb10])]
   exact ⟨rfl, rfl⟩

theorem c43 (k : Kn) (hk : Few k) (hw : check k = 0 → k.weighs.length ≤ 12) : Con E 43 [eKn k] (.tup [eInts (suspectsM k).1, I (suspectsM k).2]) := by
 refine (c43a k hk hw).weak ?_
 unfold suspV
 split
 ·rename_i h
  have e : (suspectsM k).1 = [] := by
   unfold suspectsM
   rcases h with h | h
   ·rw [if_pos h]
   ·rcases Classical.em (check k ≠ 0) with h3 | h3
    ·rw [if_pos h3]
    ·rw [if_neg h3, if_pos h]
  rw [e]
  exact wk_tup1 (Wk.nil 1) rfl rfl
 ·exact fun _ _ h => h

theorem c41a (k : Kn) (hk : Few k) (hw : check k = 0 → k.weighs.length ≤ 12) (a b : Int) : Con E 41 [eKn k, I a, I b] (.tup [listV (restsM k a b).2 (restsM k a b).1, I (restsM k a b).2]) := by
 intro n H hH
 have h00 := hh3 hH
 have ⟨hHs, hH', hpl⟩ := h00
 
 have h0 : ∀ j k', H.map (mvO j k') = H := mvO_map hH
 refine at_start (fn := Tryz.f41) [.tmp 6, .tmp 7] 32 H.length rfl rfl rfl rfl (by kernel_rfl) (by kernel_rfl) (by simp) (Nat.le_refl _) ?_
 refine sq ?_
 refine at_regK [3, 4, 5] rfl ?_
 try simp [h00, o_i, f_a]
 refine sq ?_
 refine sq ?_
 refine at_regK [3, 4, 5, 8] rfl ?_
 try simp [h00, o_i, f_a]
 refine (c110 k hk [a, b] (by simp)).use hH ?_
 try simp [h00, o_i, f_a]
 refine sq ?_
 refine at_regK [3, 4, 5, 8, 17] rfl ?_
 try simp [h00, o_i, f_a]
 refine at_cond rfl rfl (fun hb17 => ?_) (fun hb17 => ?_)
 ·
  try simp at hb17
  refine sq ?_
  refine at_regK [6, 7] rfl ?_
  try simp [h00, o_i, f_a]
  refine at_ret (by kernel_rfl) ?_
  try simp [h00, o_i, f_a]
  have e : restsM k a b = ([], markedM k [a, b]) := by unfold restsM; rw [if_pos hb17]
  rw [e, listV, if_pos hb17]
  exact ⟨rfl, rfl⟩
 ·
  try simp at hb17
  have fn := fine_of_check (marked_ok hb17).1
  have rt := right_of_check (marked_ok hb17).1
  have nl := rt.nl; have nd := rt.nd
  have hck := (marked_ok hb17).1
  have hin : 0 ≤ a ∧ a < marksM k ∧ 0 ≤ b ∧ b < marksM k := ⟨((marked_ok hb17).2 a (by simp)).1, ((marked_ok hb17).2 a (by simp)).2, ((marked_ok hb17).2 b (by simp)).1, ((marked_ok hb17).2 b (by simp)).2⟩
  refine at_skip (by kernel_rfl) ?_
  try simp [h00, o_i, f_a]
  refine sq ?_
  refine at_draw [3, 4, 5, 9, 10] [1, 1, 1, 1, 1, 0, 0, 0, 2, 3, 0] [] rfl Efol (by kernel_rfl) (by simp) ?_
  try simp [h00, o_i, f_a]
  refine (c89n k fn).draw hH ?_
  try simp [h00, o_i, f_a]
  refine (c111 (netM k []) fn.wf a b hin.1 hin.2.1 hin.2.2.1 hin.2.2.2).draw hH ?_
  try simp [h00, o_i, f_a]
  refine sq ?_
  refine sq ?_
  refine at_regK [3, 4, 5, 9, 28] rfl ?_
  try simp [h00, o_i, f_a]
  refine at_cond rfl rfl (fun hb28 => ?_) (fun hb28 => ?_)
  ·
   try simp at hb28
   refine sq ?_
   refine at_regK [6, 7] rfl ?_
   try simp [h00, o_i, f_a]
   refine at_ret (by kernel_rfl) ?_
   try simp [h00, o_i, f_a]
   have e : restsM k a b = ([], 9) := by unfold restsM; rw [if_neg (by simp [hb17]), if_pos hb28]
   rw [e, listV, if_pos (by decide)]
   exact ⟨rfl, rfl⟩
  ·
   try simp at hb28
   refine at_skip (by kernel_rfl) ?_
   try simp [h00, o_i, f_a]
   refine sq ?_
   refine at_leads (leads_share 1 rfl rfl) ?_
   simp [AS.share, h0, mvV_id]
   refine at_leads (leads_share 2 rfl rfl) ?_
   simp [AS.share, h0, mvV_id]
   refine at_leads (leads_share 4 rfl rfl) ?_
   simp [AS.share, h0, mvV_id]
   obtain ⟨H2, hH2⟩ : ∃ H2, H2 = H ++ [AO.cell (I a), .cell (I b), .cell (I (aboveM (netM k []) a b).1)] := ⟨_, rfl⟩
   have ok2 : okH H2 := by
    rw [okH, hH2, List.length_append, List.forall_mem_append]
    refine ⟨okH_pm hH _ (by omega), ?_⟩
    simp [AO.ok, pm]
   have g0 : H2[H.length]? = some (.cell (I a)) := by rw [hH2]; simp
   have g1 : H2[H.length + 1]? = some (.cell (I b)) := by rw [hH2]; simp
   have g2 : H2[H.length + 2]? = some (.cell (I (aboveM (netM k []) a b).1)) := by rw [hH2]; simp
   have ht2 : H2.take H.length = H := by rw [hH2]; simp
   have hl2 : H.length ≤ H2.length := by rw [hH2]; simp
   have hHs2 : (∀ o ∈ H2, o.ok shd = true) ↔ True := iff_true_intro (okH_shd ok2)
   rw [← hH2]
   refine at_regK [6, 7] rfl ?_
   try simp [h00, o_i, f_a, g0, g1, g2, ht2, hHs2, hl2]
   refine (c112 k hk (hw hck) (fun less => decide ((aboveM (netM less []) a b).1 ≠ (aboveM (netM k []) a b).1)) 113 [.ref true H.length 0 [] 0, .ref true (H.length + 1) 0 [] 0, .ref true (H.length + 2) 0 [] 0] _ _ ok2 (by simp) (by simp) (fun i n => c113 (withoutM k [i]) (few_without hk [i]) (fine_of_check (check_without hck [i])) a b _ hin.1 hin.2.1 hin.2.2.1 hin.2.2.2 _ _ _ n _ ok2 g0 g1 g2)).of_is ?_
   try simp [h00, o_i, f_a, g0, g1, g2, ht2, hHs2, hl2]
   refine at_ret (by kernel_rfl) ?_
   try simp [h00, o_i, f_a]
   have e : restsM k a b = (chosenM k (fun less => decide ((aboveM (netM less []) a b).1 ≠ (aboveM (netM k []) a b).1)), 0) := by unfold restsM; rw [if_neg (by simp [hb17]), if_neg (by simp [hb28])]
   rw [e, listV, if_neg (fun h => h rfl)]
   refine ⟨hl2, by rw [ht2]; exact hH, ⟨?_, rfl⟩, ht2⟩
   simp only [ne_eq, decide_not]

theorem c41 (k : Kn) (hk : Few k) (hw : check k = 0 → k.weighs.length ≤ 12) (a b : Int) : Con E 41 [eKn k, I a, I b] (.tup [eInts (restsM k a b).1, I (restsM k a b).2]) := by
 refine (c41a k hk hw a b).weak ?_
 unfold listV
 split
 ·rename_i h
  have e : (restsM k a b).1 = [] := by
   unfold restsM at h ⊢
   split
   ·rfl
   ·split
    ·rfl
    ·rename_i h1 h2
     rw [if_neg h1, if_neg h2] at h
     exact (h rfl).elim
  rw [e]
  exact wk_tup1 (Wk.nil 1) rfl rfl
 ·exact fun _ _ h => h
end Go.Abs
/- Contracts: the specification checks. -/
set_option linter.unusedVariables false
set_option linter.unusedSimpArgs false
set_option maxRecDepth 100000
set_option maxHeartbeats 2000000
namespace Go.Abs
open Go.RowKit Go.Proofs Go.Shaft
attribute [simp] ti22 ti23 ti24 ti26 ti30 ti42 ti45 ti52 ti122 ti125 ti88 ti92 ti46
attribute [simp] ti134 ti131 ti48 ti85 ti143 ti189 ti190 ti192 ti204 ti208 ti218 ti9 ti5 ti27 ti28 ti141
theorem c126 (a b c : Int) : Con E 126 [I a, I b, I c] (.bool (inB a b c)) := by
 intro n H hH
 have h00 := hh3 hH
 have ⟨hHs, hH', hpl⟩ := h00
 refine at_start (fn := Tryz.f126) [.tmp 6] 15 H.length rfl rfl rfl rfl (by kernel_rfl) (by kernel_rfl) (by simp) (Nat.le_refl _) ?_
 refine sq ?_
 refine at_regK [0, 1, 2] rfl ?_
 try simp [h00, o_i, f_a]
 refine sq ?_
 refine at_regK [6] rfl ?_
 try simp [h00, o_i, f_a]
 refine pops_split 10 rfl (fun hg1 => ?_) (fun hg1 => ?_)
 ·
  try simp [h00, o_i, f_a, hg1]
  refine at_ret (by kernel_rfl) ?_
  try simp [h00, o_i, f_a]
  simp [inB] at hg1 ⊢
  simp [hg1]
 ·
  try simp [h00, o_i, f_a, hg1]
  refine at_ret (by kernel_rfl) ?_
  try simp [h00, o_i, f_a]
  simp [inB] at hg1 ⊢
  omega

theorem c171 (s : Sp) (m : Int) : Con E 171 [eSp s, I m] (.bool (spanB s m)) := by
 intro n H hH
 have h00 := hh3 hH
 have ⟨hHs, hH', hpl⟩ := h00
 refine at_start (fn := Tryz.f171) [.tmp 4] 21 H.length rfl rfl rfl rfl (by kernel_rfl) (by kernel_rfl) (by simp) (Nat.le_refl _) ?_
 refine sq ?_
 refine at_regK [1, 2] rfl ?_
 try simp [h00, o_i, f_a]
 refine sq ?_
 refine at_regK [4] rfl ?_
 try simp [h00, o_i, f_a]
 refine pops_split 8 rfl (fun hg1 => ?_) (fun hg1 => ?_)
 ·
  try simp [h00, o_i, f_a, hg1]
  refine pops_split 15 rfl (fun hg2 => ?_) (fun hg2 => ?_)
  ·
   try simp [h00, o_i, f_a, hg2]
   refine at_ret (by kernel_rfl) ?_
   try simp [h00, o_i, f_a]
   simp [spanB, hg1, hg2]
  ·
   try simp [h00, o_i, f_a, hg2]
   refine at_ret (by kernel_rfl) ?_
   try simp [h00, o_i, f_a]
   simp [spanB]
   intros; simp at *; omega
 ·
  try simp [h00, o_i, f_a, hg1]
  refine at_ret (by kernel_rfl) ?_
  try simp [h00, o_i, f_a]
  simp [spanB]
  intros; simp at *; omega

theorem c69 (k : Kn) (hk : Few k) (a : Int) : Con E 69 [eKn k, I a] (I (find k.loads a)) := by
 intro n H hH
 have h00 := hh3 hH
 have ⟨hHs, hH', hpl⟩ := h00
 have hl := hk.l; have hd := hk.d
 refine at_start (fn := Tryz.f69) [.tmp 4] 22 H.length rfl rfl rfl rfl (by kernel_rfl) (by kernel_rfl) (by simp) (Nat.le_refl _) ?_
 refine sq ?_
 refine at_regK [1, 2] rfl ?_
 try simp [h00, o_i, f_a]
 refine sq ?_
 refine sq ?_
 refine at_regK [1, 2, 5] rfl ?_
 try simp [h00, o_i, f_a]
 refine at_block rfl ?_
 refine at_count k.loads.length (fun i s => (∀ j y, j < i → k.loads[j]? = some y → y.id ≠ a) ∧ s = ⟨[(1, I a), (2, .ref false 0 0 [] 0), (5, I i)], [.cell (eKn k)], H⟩) rfl ⟨by intro j y hj; omega, rfl⟩ ?_
 rintro i s hi ⟨hno, rfl⟩
 refine sq ?_
 refine sq ?_
 refine at_regK [1, 2, 5, 10] rfl ?_
 try simp [h00, o_i, f_a]
 refine at_cond rfl rfl (fun hb10 => ?_) (fun hb10 => ?_)
 ·
  try simp at hb10
  obtain ⟨x, hx⟩ : ∃ x, k.loads[i]? = some x := ⟨_, List.getElem?_eq_getElem (by omega)⟩
  have i0 : (i : Int) < k.loads.length := by omega
  refine at_skip (by kernel_rfl) ?_
  try simp [h00, o_i, f_a, hx, i0]
  refine sq ?_
  refine at_block rfl ?_
  refine sq ?_
  refine at_regK [1, 2, 5, 20] rfl ?_
  try simp [h00, o_i, f_a, hx, i0]
  refine at_cond rfl rfl (fun hb20 => ?_) (fun hb20 => ?_)
  ·
   try simp at hb20
   refine sq ?_
   refine at_regK [4] rfl ?_
   try simp [h00, o_i, f_a, hx, i0]
   refine at_ret (by kernel_rfl) ?_
   try simp [h00, o_i, f_a, hx, i0]
   rw [find_at hx hb20 hno]
  ·
   try simp at hb20
   refine at_skip (by kernel_rfl) ?_
   try simp [h00, o_i, f_a, hx, i0]
   refine at_regK [1, 2, 5] rfl ?_
   try simp [h00, o_i, f_a, hx, i0]
   refine ⟨by omega, ?_, by rw [wrap_id (by omega) (by omega)]⟩
   intro j y hj hy
   rcases Nat.lt_or_ge j i with h1 | h1
   ·exact hno j y h1 hy
   ·have : j = i := by omega
    subst this
    rw [hx] at hy
    cases hy
    exact hb20
 ·
  try simp at hb10
  refine at_exit rfl ?_
  try simp [h00, o_i, f_a]
  refine sq ?_
  refine at_regK [4] rfl ?_
  try simp [h00, o_i, f_a]
  refine at_ret (by kernel_rfl) ?_
  try simp [h00, o_i, f_a]
  rw [find_none (fun j y hj hy => hno j y (by omega) hy)]

theorem c70 (k : Kn) (hk : Few k) (a : Int) : Con E 70 [eKn k, I a] (I (find k.draws a)) := by
 intro n H hH
 have h00 := hh3 hH
 have ⟨hHs, hH', hpl⟩ := h00
 have hl := hk.l; have hd := hk.d
 refine at_start (fn := Tryz.f70) [.tmp 4] 22 H.length rfl rfl rfl rfl (by kernel_rfl) (by kernel_rfl) (by simp) (Nat.le_refl _) ?_
 refine sq ?_
 refine at_regK [1, 2] rfl ?_
 try simp [h00, o_i, f_a]
 refine sq ?_
 refine sq ?_
 refine at_regK [1, 2, 5] rfl ?_
 try simp [h00, o_i, f_a]
 refine at_block rfl ?_
 refine at_count k.draws.length (fun i s => (∀ j y, j < i → k.draws[j]? = some y → y.id ≠ a) ∧ s = ⟨[(1, I a), (2, .ref false 0 0 [] 0), (5, I i)], [.cell (eKn k)], H⟩) rfl ⟨by intro j y hj; omega, rfl⟩ ?_
 rintro i s hi ⟨hno, rfl⟩
 refine sq ?_
 refine sq ?_
 refine at_regK [1, 2, 5, 10] rfl ?_
 try simp [h00, o_i, f_a]
 refine at_cond rfl rfl (fun hb10 => ?_) (fun hb10 => ?_)
 ·
  try simp at hb10
  obtain ⟨x, hx⟩ : ∃ x, k.draws[i]? = some x := ⟨_, List.getElem?_eq_getElem (by omega)⟩
  have i0 : (i : Int) < k.draws.length := by omega
  refine at_skip (by kernel_rfl) ?_
  try simp [h00, o_i, f_a, hx, i0]
  refine sq ?_
  refine at_block rfl ?_
  refine sq ?_
  refine at_regK [1, 2, 5, 20] rfl ?_
  try simp [h00, o_i, f_a, hx, i0]
  refine at_cond rfl rfl (fun hb20 => ?_) (fun hb20 => ?_)
  ·
   try simp at hb20
   refine sq ?_
   refine at_regK [4] rfl ?_
   try simp [h00, o_i, f_a, hx, i0]
   refine at_ret (by kernel_rfl) ?_
   try simp [h00, o_i, f_a, hx, i0]
   rw [find_at hx hb20 hno]
  ·
   try simp at hb20
   refine at_skip (by kernel_rfl) ?_
   try simp [h00, o_i, f_a, hx, i0]
   refine at_regK [1, 2, 5] rfl ?_
   try simp [h00, o_i, f_a, hx, i0]
   refine ⟨by omega, ?_, by rw [wrap_id (by omega) (by omega)]⟩
   intro j y hj hy
   rcases Nat.lt_or_ge j i with h1 | h1
   ·exact hno j y h1 hy
   ·have : j = i := by omega
    subst this
    rw [hx] at hy
    cases hy
    exact hb20
 ·
  try simp at hb10
  refine at_exit rfl ?_
  try simp [h00, o_i, f_a]
  refine sq ?_
  refine at_regK [4] rfl ?_
  try simp [h00, o_i, f_a]
  refine at_ret (by kernel_rfl) ?_
  try simp [h00, o_i, f_a]
  rw [find_none (fun j y hj hy => hno j y (by omega) hy)]

theorem c128 (x : Ld) (b : Int) : Con E 128 [I x.id, I x.hour, eSp x.w, I b] (.bool (recB x (if 0 < b then b else 0))) := by
 intro n H hH
 have h00 := hh3 hH
 have ⟨hHs, hH', hpl⟩ := h00
 refine at_start (fn := Tryz.f128) [.tmp 8] 23 H.length rfl rfl rfl rfl (by kernel_rfl) (by kernel_rfl) (by simp) (Nat.le_refl _) ?_
 refine sq ?_
 refine at_regK [0, 1, 3, 6] rfl ?_
 try simp [h00, o_i, f_a]
 refine sq ?_
 refine at_regK [0, 1, 3, 9] rfl ?_
 try simp [h00, o_i, f_a]
 refine (c171 _ _).use hH ?_
 try simp [h00, o_i, f_a]
 refine sq ?_
 refine at_regK [8] rfl ?_
 try simp [h00, o_i, f_a]
 refine pops_split 13 rfl (fun hg1 => ?_) (fun hg1 => ?_)
 ·
  try simp [h00, o_i, f_a, hg1]
  refine (c126 _ _ _).use hH ?_
  try simp [h00, o_i, f_a]
  refine pops_split 17 rfl (fun hg2 => ?_) (fun hg2 => ?_)
  ·
   try simp [h00, o_i, f_a, hg2]
   refine (c126 _ _ _).use hH ?_
   try simp [h00, o_i, f_a]
   refine at_ret (by kernel_rfl) ?_
   try simp [h00, o_i, f_a]
   simp [recB, hg1, hg2]
  ·
   try simp [h00, o_i, f_a, hg2]
   refine at_ret (by kernel_rfl) ?_
   try simp [h00, o_i, f_a]
   simp [recB, hg1, hg2]
 ·
  try simp [h00, o_i, f_a, hg1]
  refine at_ret (by kernel_rfl) ?_
  try simp [h00, o_i, f_a]
  simp [recB, hg1]

theorem c129 (k : Kn) (hk : Few k) (w : Wg) : Con E 129 [eKn k, eWg w] (.bool (weighB k w)) := by
 intro n H hH
 have h00 := hh3 hH
 have ⟨hHs, hH', hpl⟩ := h00
 refine at_start (fn := Tryz.f129) [.tmp 4] 67 H.length rfl rfl rfl rfl (by kernel_rfl) (by kernel_rfl) (by simp) (Nat.le_refl _) ?_
 refine sq ?_
 refine at_regK [2, 3] rfl ?_
 try simp [h00, o_i, f_a]
 refine sq ?_
 refine at_regK [2, 3, 5] rfl ?_
 try simp [h00, o_i, f_a]
 refine (c171 _ _).use hH ?_
 try simp [h00, o_i, f_a]
 refine sq ?_
 refine sq ?_
 refine at_regK [2, 3, 20] rfl ?_
 try simp [h00, o_i, f_a]
 refine pops_split 15 rfl (fun hg1 => ?_) (fun hg1 => ?_)
 ·
  try simp [h00, o_i, f_a, hg1]
  refine at_cond rfl rfl (fun hb20 => ?_) (fun hb20 => by simp at hb20)
  refine sq ?_
  refine at_regK [4] rfl ?_
  try simp [h00, o_i, f_a]
  refine at_ret (by kernel_rfl) ?_
  try simp [h00, o_i, f_a]
  simp at hg1
  simp [weighB, hg1]
 ·
  try simp [h00, o_i, f_a, hg1]
  refine (c126 _ _ _).use hH ?_
  try simp [h00, o_i, f_a]
  refine at_cond rfl rfl (fun hb20 => ?_) (fun hb20 => ?_)
  ·
   try simp at hb20
   refine sq ?_
   refine at_regK [4] rfl ?_
   try simp [h00, o_i, f_a]
   refine at_ret (by kernel_rfl) ?_
   try simp [h00, o_i, f_a]
   simp at hg1
   simp_all [weighB, orderedB]
   try omega
  ·
   try simp at hb20
   refine at_skip (by kernel_rfl) ?_
   try simp [h00, o_i, f_a]
   refine sq ?_
   refine sq ?_
   refine at_regK [2, 3, 22] rfl ?_
   try simp [h00, o_i, f_a]
   refine at_block rfl ?_
   refine sq ?_
   refine at_regK [2, 3, 22, 23] rfl ?_
   try simp [h00, o_i, f_a]
   refine at_cond rfl rfl (fun hb23 => ?_) (fun hb23 => ?_)
   ·
    try simp at hb23
    refine sq ?_
    refine at_regK [2, 3, 6] rfl ?_
    try simp [h00, o_i, f_a]
    refine (c69 _ hk _).use hH ?_
    try simp [h00, o_i, f_a]
    refine sq ?_
    refine at_regK [6, 7] rfl ?_
    try simp [h00, o_i, f_a]
    refine (c69 _ hk _).use hH ?_
    try simp [h00, o_i, f_a]
    refine sq ?_
    refine at_regK [4] rfl ?_
    try simp [h00, o_i, f_a]
    refine pops_split 35 rfl (fun hg2 => ?_) (fun hg2 => ?_)
    ·
     try simp [h00, o_i, f_a, hg2]
     refine at_ret (by kernel_rfl) ?_
     try simp [h00, o_i, f_a]
     simp at hg1
     simp_all [weighB, orderedB]
     try omega
    ·
     try simp [h00, o_i, f_a, hg2]
     refine at_ret (by kernel_rfl) ?_
     try simp [h00, o_i, f_a]
     simp at hg1
     simp_all [weighB, orderedB]
     try omega
   ·
    try simp at hb23
    refine sq ?_
    refine at_regK [2, 3, 22, 40] rfl ?_
    try simp [h00, o_i, f_a]
    refine at_cond rfl rfl (fun hb40 => ?_) (fun hb40 => ?_)
    ·
     try simp at hb40
     refine sq ?_
     refine at_regK [2, 3, 8] rfl ?_
     try simp [h00, o_i, f_a]
     refine (c70 _ hk _).use hH ?_
     try simp [h00, o_i, f_a]
     refine sq ?_
     refine at_regK [8, 9] rfl ?_
     try simp [h00, o_i, f_a]
     refine (c70 _ hk _).use hH ?_
     try simp [h00, o_i, f_a]
     refine sq ?_
     refine at_regK [4] rfl ?_
     try simp [h00, o_i, f_a]
     refine pops_split 52 rfl (fun hg3 => ?_) (fun hg3 => ?_)
     ·
      try simp [h00, o_i, f_a, hg3]
      refine at_ret (by kernel_rfl) ?_
      try simp [h00, o_i, f_a]
      simp at hg1
      simp_all [weighB, orderedB]
      try omega
     ·
      try simp [h00, o_i, f_a, hg3]
      refine at_ret (by kernel_rfl) ?_
      try simp [h00, o_i, f_a]
      simp at hg1
      simp_all [weighB, orderedB]
      try omega
    ·
     try simp at hb40
     refine sq ?_
     refine at_regK [3, 57] rfl ?_
     try simp [h00, o_i, f_a]
     refine at_cond rfl rfl (fun hb57 => ?_) (fun hb57 => ?_)
     ·
      try simp at hb57
      refine sq ?_
      refine at_regK [4] rfl ?_
      try simp [h00, o_i, f_a]
      refine (c126 _ _ _).use hH ?_
      try simp [h00, o_i, f_a]
      refine pops_split 62 rfl (fun hg4 => ?_) (fun hg4 => ?_)
      ·
       try simp [h00, o_i, f_a, hg4]
       refine at_ret (by kernel_rfl) ?_
       try simp [h00, o_i, f_a]
       simp at hg1
       simp [weighB, hg1, hb20, hb57, hg4]
       by_cases h : w.to = 0 <;> simp [h]
      ·
       try simp [h00, o_i, f_a, hg4]
       refine at_ret (by kernel_rfl) ?_
       try simp [h00, o_i, f_a]
       simp at hg1
       simp_all [weighB, orderedB]
       try omega
     ·
      try simp at hb57
      refine at_skip (by kernel_rfl) ?_
      try simp [h00, o_i, f_a]
      refine sq ?_
      refine at_regK [4] rfl ?_
      try simp [h00, o_i, f_a]
      refine at_ret (by kernel_rfl) ?_
      try simp [h00, o_i, f_a]
      simp at hg1
      simp_all [weighB, orderedB]
      try omega

theorem c130 (l : List Int) (hl : l.length ≤ 1000) (i : Nat) (x : Int) (hx : l[i]? = some x) : Con E 130 [eInts l, I i] (.bool (decide (x ∉ l.take i))) := by
 intro n H hH
 have h00 := hh3 hH
 have ⟨hHs, hH', hpl⟩ := h00
 have hil := (List.getElem?_eq_some_iff.1 hx).1
 have il : (i : Int) < l.length := by omega
 refine at_start (fn := Tryz.f130) [.tmp 4] 20 H.length rfl rfl rfl rfl (by kernel_rfl) (by kernel_rfl) (by simp) (Nat.le_refl _) ?_
 refine sq ?_
 refine at_regK [0, 1] rfl ?_
 try simp [h00, o_i, f_a]
 refine sq ?_
 refine sq ?_
 refine at_regK [0, 1, 5] rfl ?_
 try simp [h00, o_i, f_a]
 refine at_block rfl ?_
 refine at_count i (fun j s => x ∉ l.take j ∧ s = ⟨[(0, eInts l), (1, I i), (5, I j)], [], H⟩) rfl ⟨by simp, rfl⟩ ?_
 rintro j s hj ⟨hno, rfl⟩
 refine sq ?_
 refine sq ?_
 refine at_regK [0, 1, 5, 8] rfl ?_
 try simp [h00, o_i, f_a]
 refine at_cond rfl rfl (fun hb8 => ?_) (fun hb8 => ?_)
 ·
  try simp at hb8
  obtain ⟨y, hy⟩ : ∃ y, l[j]? = some y := ⟨_, List.getElem?_eq_getElem (by omega)⟩
  have j0 : (j : Int) < l.length := by omega
  refine at_skip (by kernel_rfl) ?_
  try simp [h00, o_i, f_a, hy, j0, hx, il]
  refine sq ?_
  refine at_block rfl ?_
  refine sq ?_
  refine at_draw [0, 1, 5, 19] [0, 0, 0, 1, 0, 0, 0, 1, 0] [] rfl Efol (by kernel_rfl) (by simp) ?_
  try simp [h00, o_i, f_a, hy, j0, hx, il]
  refine at_cond rfl rfl (fun hb19 => ?_) (fun hb19 => ?_)
  ·
   try simp at hb19
   refine sq ?_
   refine at_regK [4] rfl ?_
   try simp [h00, o_i, f_a, hy, j0, hx, il]
   refine at_ret (by kernel_rfl) ?_
   try simp [h00, o_i, f_a, hy, j0, hx, il]
   rw [← hb19]
   exact List.mem_of_getElem? (show (l.take i)[j]? = some y by rw [List.getElem?_take_of_lt hb8, hy])
  ·
   try simp at hb19
   refine at_skip (by kernel_rfl) ?_
   try simp [h00, o_i, f_a, hy, j0, hx, il]
   refine at_regK [0, 1, 5] rfl ?_
   try simp [h00, o_i, f_a, hy, j0, hx, il]
   refine ⟨hb8, ?_, wrap_id (by omega) (by omega)⟩
   rw [List.take_add_one, hy]
   simp
   exact ⟨hno, fun h => hb19 h.symm⟩
 ·
  try simp at hb8
  refine at_exit rfl ?_
  try simp [h00, o_i, f_a]
  refine sq ?_
  refine at_regK [4] rfl ?_
  try simp [h00, o_i, f_a]
  refine at_ret (by kernel_rfl) ?_
  try simp [h00, o_i, f_a]
  have : j = i := by omega
  subst this
  simpa using hno

def upto (p l : List Int) (i : Nat) : List Int := p ++ l.take i
theorem upto_row {l : List Int} {i : Nat} {x : Int} (h : l[i]? = some x) (p : List Int) : (upto p l i).map I ++ [I x] = (upto p l (i + 1)).map I := by
 unfold upto
 rw [List.take_add_one, h]; simp
theorem upto_len {l : List Int} {i : Nat} {x : Int} (h : l[i]? = some x) (p : List Int) : (upto p l i).length + 1 = (upto p l (i + 1)).length := by
 unfold upto
 rw [List.take_add_one, h]; simp; omega
theorem upto_le (p l : List Int) (i : Nat) : (upto p l i).length ≤ p.length + l.length := by
 unfold upto; simp; omega
theorem upto_zero (p l : List Int) : upto p l 0 = p := by simp [upto]
theorem upto_all (p : List Int) {l : List Int} {i : Nat} (h : l.length ≤ i) : upto p l i = p ++ l := by rw [upto, List.take_of_length_le h]
def idL (l : List Ld) : List Int := l.map (·.id)
def idW (l : List Wg) : List Int := l.map (·.id)
theorem idL_len (l : List Ld) : (idL l).length = l.length := by simp [idL]
theorem idW_len (l : List Wg) : (idW l).length = l.length := by simp [idW]
theorem idL_at {l : List Ld} {i : Nat} {x : Ld} (h : l[i]? = some x) : (idL l)[i]? = some x.id := by rw [idL, List.getElem?_map, h]; rfl
theorem idW_at {l : List Wg} {i : Nat} {x : Wg} (h : l[i]? = some x) : (idW l)[i]? = some x.id := by rw [idW, List.getElem?_map, h]; rfl

theorem c127 (k : Kn) (hk : Few k) : Con E 127 [eKn k] (eInts (idsM k)) := by
 intro n H hH
 have h00 := hh3 hH
 have ⟨hHs, hH', hpl⟩ := h00
 have hl := hk.l; have hd := hk.d; have hw := hk.w
 refine ACall.frz ?_
 refine at_start (fn := Tryz.f127) [.tmp 2] 56 H.length rfl rfl rfl rfl (by kernel_rfl) (by kernel_rfl) (by simp) (Nat.le_refl _) ?_
 refine sq ?_
 refine at_regK [1] rfl ?_
 try simp [h00, o_i, f_a]
 refine sq ?_
 refine at_regK [1, 3] rfl ?_
 try simp [h00, o_i, f_a]
 refine sq ?_
 refine sq ?_
 refine at_regK [1, 3, 4] rfl ?_
 try simp [h00, o_i, f_a]
 refine at_block rfl ?_
 refine at_leads (leads_nilT 3 1 rfl (by decide)) ?_
 refine at_leads (leads_keep _ [1, 3, 4]) ?_
 simp
 have lz := upto_zero [] (idL k.loads)
 refine at_count k.loads.length (fun i s => s = ⟨[(1, .ref false 0 0 [] 0), (3, .own false 1 (upto [] (idL k.loads) i).length), (4, I i)], [.cell (eKn k), .row 1 ((upto [] (idL k.loads) i).map I)], H⟩) rfl (by rw [lz]; simp) ?_
 rintro i s hi rfl
 have lw := upto_le [] (idL k.loads) i
 simp only [List.length_append, List.length_nil, idL_len, idW_len] at lw
 refine sq ?_
 refine sq ?_
 refine at_regK [1, 3, 4, 11] rfl ?_
 try simp [h00, o_i, f_a]
 refine at_cond rfl rfl (fun hb11 => ?_) (fun hb11 => ?_)
 ·
  try simp at hb11
  obtain ⟨x, hx⟩ : ∃ x, k.loads[i]? = some x := ⟨_, List.getElem?_eq_getElem (by omega)⟩
  have i0 : (i : Int) < k.loads.length := by omega
  have hxm := idL_at hx
  refine at_skip (by kernel_rfl) ?_
  try simp [h00, o_i, f_a, hx, i0]
  refine sq ?_
  refine at_block rfl ?_
  refine at_regK [1, 3, 4] rfl ?_
  try simp [h00, o_i, f_a, hx, i0]
  refine ⟨by omega, ?_⟩
  refine at_regC 2 [1, 3, 4] rfl ?_
  try simp [h00, o_i, f_a, hx, i0]
  refine ⟨by omega, ⟨upto_len hxm _, by rw [wrap_id (by omega) (by omega)]⟩, upto_row hxm _⟩
 ·
  try simp at hb11
  have lall : upto [] (idL k.loads) i = idL k.loads := upto_all _ (by simpa [idL, idW] using hb11)
  rw [lall] at lw ⊢
  refine at_exit rfl ?_
  try simp [h00, o_i, f_a]
  refine sq ?_
  refine sq ?_
  refine at_regK [1, 3, 5] rfl ?_
  try simp [h00, o_i, f_a]
  refine at_block rfl ?_
  have lz := upto_zero (idL k.loads) (idL k.draws)
  refine at_count k.draws.length (fun i s => s = ⟨[(1, .ref false 0 0 [] 0), (3, .own false 1 (upto (idL k.loads) (idL k.draws) i).length), (5, I i)], [.cell (eKn k), .row 1 ((upto (idL k.loads) (idL k.draws) i).map I)], H⟩) rfl (by rw [lz]; simp) ?_
  rintro i s hi rfl
  have lw := upto_le (idL k.loads) (idL k.draws) i
  simp only [List.length_append, List.length_nil, idL_len, idW_len] at lw
  refine sq ?_
  refine sq ?_
  refine at_regK [1, 3, 5, 27] rfl ?_
  try simp [h00, o_i, f_a]
  refine at_cond rfl rfl (fun hb27 => ?_) (fun hb27 => ?_)
  ·
   try simp at hb27
   obtain ⟨x, hx⟩ : ∃ x, k.draws[i]? = some x := ⟨_, List.getElem?_eq_getElem (by omega)⟩
   have i0 : (i : Int) < k.draws.length := by omega
   have hxm := idL_at hx
   refine at_skip (by kernel_rfl) ?_
   try simp [h00, o_i, f_a, hx, i0]
   refine sq ?_
   refine at_block rfl ?_
   refine at_regK [1, 3, 5] rfl ?_
   try simp [h00, o_i, f_a, hx, i0]
   refine ⟨by omega, ?_⟩
   refine at_regC 2 [1, 3, 5] rfl ?_
   try simp [h00, o_i, f_a, hx, i0]
   refine ⟨by omega, ⟨upto_len hxm _, by rw [wrap_id (by omega) (by omega)]⟩, upto_row hxm _⟩
  ·
   try simp at hb27
   have lall : upto (idL k.loads) (idL k.draws) i = (idL k.loads ++ idL k.draws) := upto_all _ (by simpa [idL, idW] using hb27)
   rw [lall] at lw ⊢
   refine at_exit rfl ?_
   try simp [h00, o_i, f_a]
   refine sq ?_
   refine sq ?_
   refine at_regK [1, 3, 6] rfl ?_
   try simp [h00, o_i, f_a]
   refine at_block rfl ?_
   have lz := upto_zero (idL k.loads ++ idL k.draws) (idW k.weighs)
   refine at_count k.weighs.length (fun i s => s = ⟨[(1, .ref false 0 0 [] 0), (3, .own false 1 (upto (idL k.loads ++ idL k.draws) (idW k.weighs) i).length), (6, I i)], [.cell (eKn k), .row 1 ((upto (idL k.loads ++ idL k.draws) (idW k.weighs) i).map I)], H⟩) rfl (by rw [lz]; simp) ?_
   rintro i s hi rfl
   have lw := upto_le (idL k.loads ++ idL k.draws) (idW k.weighs) i
   simp only [List.length_append, List.length_nil, idL_len, idW_len] at lw
   refine sq ?_
   refine sq ?_
   refine at_regK [1, 3, 6, 43] rfl ?_
   try simp [h00, o_i, f_a]
   refine at_cond rfl rfl (fun hb43 => ?_) (fun hb43 => ?_)
   ·
    try simp at hb43
    obtain ⟨x, hx⟩ : ∃ x, k.weighs[i]? = some x := ⟨_, List.getElem?_eq_getElem (by omega)⟩
    have i0 : (i : Int) < k.weighs.length := by omega
    have hxm := idW_at hx
    refine at_skip (by kernel_rfl) ?_
    try simp [h00, o_i, f_a, hx, i0]
    refine sq ?_
    refine at_block rfl ?_
    refine at_regK [1, 3, 6] rfl ?_
    try simp [h00, o_i, f_a, hx, i0]
    refine ⟨by omega, ?_⟩
    refine at_regC 2 [1, 3, 6] rfl ?_
    try simp [h00, o_i, f_a, hx, i0]
    refine ⟨by omega, ⟨upto_len hxm _, by rw [wrap_id (by omega) (by omega)]⟩, upto_row hxm _⟩
   ·
    try simp at hb43
    have lall : upto (idL k.loads ++ idL k.draws) (idW k.weighs) i = (idL k.loads ++ idL k.draws ++ idW k.weighs) := upto_all _ (by simpa [idL, idW] using hb43)
    rw [lall] at lw ⊢
    refine at_exit rfl ?_
    try simp [h00, o_i, f_a]
    refine sq ?_
    refine at_regK [2] rfl ?_
    try simp [h00, o_i, f_a]
    refine at_ret (by kernel_rfl) ?_
    try simp [h00, o_i, f_a]
    simp [AS.frzV, AS.expo, AS.expos, AS.setMem, AV.ok, AV.oks, eInts, hHs, idsM, -List.map_append]
    rw [List.map_append, List.map_append]
    rfl

theorem mx_nat (d : Nat) : (if 0 < d then (d : Int) else 0) = d := by split <;> omega
theorem hb_pos {l : List Ld} {e : Nat} {y : Ld} (h : l[e]? = some y) : hb l (e + 1) = y.hour := by rw [hb_succ, List.getD, h]; rfl

theorem c53 (k : Kn) (hk : Few k) : Con E 53 [eKn k] (I (check k)) := by
 intro n H hH
 have h00 := hh3 hH
 have ⟨hHs, hH', hpl⟩ := h00
 have hl := hk.l; have hd := hk.d; have hw := hk.w
 have hil0 := idsM_len k
 refine at_start (fn := Tryz.f53) [.tmp 2] 132 H.length rfl rfl rfl rfl (by kernel_rfl) (by kernel_rfl) (by simp) (Nat.le_refl _) ?_
 refine sq ?_
 refine at_regK [1] rfl ?_
 try simp [h00, o_i, f_a]
 refine sq ?_
 refine sq ?_
 refine at_regK [1, 22] rfl ?_
 try simp [h00, o_i, f_a]
 refine (c126 _ _ _).use hH ?_
 try simp [h00, o_i, f_a]
 refine pops_split 17 rfl (fun hg1 => ?_) (fun hg1 => ?_)
 ·
  try simp [h00, o_i, f_a, hg1]
  refine at_cond rfl rfl (fun hb22 => ?_) (fun hb22 => by simp at hb22)
  refine sq ?_
  refine at_regK [2] rfl ?_
  try simp [h00, o_i, f_a]
  refine at_ret (by kernel_rfl) ?_
  try simp [h00, o_i, f_a]
  simp at hg1
  simp [check, hg1]
 ·
  try simp [h00, o_i, f_a, hg1]
  refine (c126 _ _ _).use hH ?_
  try simp [h00, o_i, f_a]
  refine at_cond rfl rfl (fun hb22 => ?_) (fun hb22 => ?_)
  ·
   try simp at hb22
   refine sq ?_
   refine at_regK [2] rfl ?_
   try simp [h00, o_i, f_a]
   refine at_ret (by kernel_rfl) ?_
   try simp [h00, o_i, f_a]
   simp at hg1
   simp [check, hb22]
  ·
   try simp at hb22
   refine at_skip (by kernel_rfl) ?_
   try simp [h00, o_i, f_a]
   refine sq ?_
   refine sq ?_
   refine at_regK [1, 38] rfl ?_
   try simp [h00, o_i, f_a]
   refine pops_split 27 rfl (fun hg2 => ?_) (fun hg2 => ?_)
   ·
    try simp [h00, o_i, f_a, hg2]
    refine at_cond rfl rfl (fun hb38 => ?_) (fun hb38 => by simp at hb38)
    refine sq ?_
    refine at_regK [2] rfl ?_
    try simp [h00, o_i, f_a]
    refine at_ret (by kernel_rfl) ?_
    try simp [h00, o_i, f_a]
    simp at hg1 hg2
    have : 20 < k.loads.length := by omega
    simp [check, hg1, hb22, this]
   ·
    try simp [h00, o_i, f_a, hg2]
    refine pops_split 33 rfl (fun hg3 => ?_) (fun hg3 => ?_)
    ·
     try simp [h00, o_i, f_a, hg3]
     refine at_cond rfl rfl (fun hb38 => ?_) (fun hb38 => by simp at hb38)
     refine sq ?_
     refine at_regK [2] rfl ?_
     try simp [h00, o_i, f_a]
     refine at_ret (by kernel_rfl) ?_
     try simp [h00, o_i, f_a]
     simp at hg1 hg3
     have : 20 < k.draws.length := by omega
     simp [check, hg1, hb22, this]
    ·
     try simp [h00, o_i, f_a, hg3]
     refine at_cond rfl rfl (fun hb38 => ?_) (fun hb38 => ?_)
     ·
      try simp at hb38
      refine sq ?_
      refine at_regK [2] rfl ?_
      try simp [h00, o_i, f_a]
      refine at_ret (by kernel_rfl) ?_
      try simp [h00, o_i, f_a]
      simp at hg1
      have : 20 < k.weighs.length := by omega
      simp [check, hg1, hb22, this]
     ·
      try simp at hb38
      refine at_skip (by kernel_rfl) ?_
      try simp [h00, o_i, f_a]
      refine sq ?_
      have hpp : (inB k.room 0 16777216 && inB k.per 1 65536) = true := by simp at hg1 hb22; simp [hg1, hb22]
      have hn1 : k.loads.length ≤ 20 := by simp at hg2; omega
      have hn2 : k.draws.length ≤ 20 := by simp at hg3; omega
      have hn3 : k.weighs.length ≤ 20 := by omega
      have w3 : IntKind.i64.wrap ((k.loads.length : Int) + k.draws.length) = ((k.loads.length + k.draws.length : Nat) : Int) := by rw [wrap_id (by omega) (by omega)]; omega
      refine at_regK [1, 3] rfl ?_
      try simp [h00, o_i, f_a]
      refine (c127 k hk).use hH ?_
      try simp [h00, o_i, f_a]
      refine sq ?_
      refine sq ?_
      refine at_regK [1, 3, 4] rfl ?_
      try simp [h00, o_i, f_a]
      refine at_block rfl ?_
      refine at_count (idsM k).length (fun i s => Stg k i ∧ s = ⟨[(1, .ref false 0 0 [] 0), (3, eInts (idsM k)), (4, I i)], [.cell (eKn k)], H⟩) rfl ⟨Stg.start k, rfl⟩ ?_
      rintro i s hi ⟨stg, rfl⟩
      refine sq ?_
      refine sq ?_
      refine at_regK [1, 3, 4, 44] rfl ?_
      try simp [h00, o_i, f_a]
      refine at_cond rfl rfl (fun hb44 => ?_) (fun hb44 => ?_)
      ·
       try simp at hb44
       obtain ⟨y, hy⟩ : ∃ y, (idsM k)[i]? = some y := ⟨_, List.getElem?_eq_getElem (by omega)⟩
       have hst := stg.step (by omega) hy
       refine at_skip (by kernel_rfl) ?_
       try simp [h00, o_i, f_a]
       refine sq ?_
       refine at_block rfl ?_
       refine sq ?_
       refine at_regK [1, 3, 4] rfl ?_
       try simp [h00, o_i, f_a]
       refine sq ?_
       refine at_regK [1, 3, 4, 6] rfl ?_
       try simp [h00, o_i, f_a]
       refine sq ?_
       refine at_regK [1, 3, 4, 6, 7] rfl ?_
       try simp [h00, o_i, f_a]
       refine sq ?_
       refine at_block rfl ?_
       refine sq ?_
       refine at_regK [1, 3, 4, 6, 7, 64] rfl ?_
       try simp [h00, o_i, f_a]
       refine at_cond rfl rfl (fun hb64 => ?_) (fun hb64 => ?_)
       ·
        try simp at hb64
        obtain ⟨x, hx⟩ : ∃ x, k.loads[i]? = some x := ⟨_, List.getElem?_eq_getElem (by omega)⟩
        have i0 : (i : Int) < k.loads.length := by omega
        have hxd : k.loads.getD i default = x := by rw [List.getD, hx]; rfl
        refine sq ?_
        refine at_regK [1, 3, 4, 8] rfl ?_
        try simp [h00, o_i, f_a, hx, i0]
        refine sq ?_
        refine at_regK [1, 3, 4, 8, 9] rfl ?_
        try simp [h00, o_i, f_a, hx, i0]
        refine sq ?_
        refine sq ?_
        refine at_regK [1, 3, 4, 8, 9, 74] rfl ?_
        try simp [h00, o_i, f_a, hx, i0]
        refine at_cond rfl rfl (fun hb74 => ?_) (fun hb74 => ?_)
        ·
         try simp at hb74
         obtain ⟨e, he⟩ : ∃ e, i = e + 1 := ⟨i - 1, by omega⟩
         have we : IntKind.i64.wrap ((i : Int) - 1) = (e : Int) := by rw [wrap_id (by omega) (by omega)]; omega
         obtain ⟨y', hy'⟩ : ∃ x, k.loads[e]? = some x := ⟨_, List.getElem?_eq_getElem (by omega)⟩
         have e0 : (e : Int) < k.loads.length := by omega
         have hok : okAt k i = recB x (if 0 < y'.hour then y'.hour else 0) := by rw [okAt, if_pos hb64, hxd, show hb k.loads i = y'.hour by rw [he]; exact hb_pos hy']
         refine at_regK [1, 3, 4, 8, 9] rfl ?_
         try simp [h00, o_i, f_a, hx, i0, we, hy', e0, mx_nat]
         refine at_regK [1, 3, 4, 5] rfl ?_
         try simp [h00, o_i, f_a, hx, i0, we, hy', e0, mx_nat]
         refine (c128 x _).use hH ?_
         rw [← hok]
         try simp [h00, o_i, f_a, hx, i0, we, hy', e0, mx_nat]
         refine sq ?_
         refine sq ?_
         refine at_regC 1 [1, 3, 4, 126] rfl ?_
         try simp [h00, o_i, f_a, hx, i0, we, hy', e0, mx_nat]
         refine at_cond rfl rfl (fun hb126 => ?_) (fun hb126 => ?_)
         ·
          try simp at hb126
          refine sq ?_
          refine at_regK [2] rfl ?_
          try simp [h00, o_i, f_a, hx, i0, we, hy', e0, mx_nat]
          refine at_ret (by kernel_rfl) ?_
          try simp [h00, o_i, f_a, hx, i0, we, hy', e0, mx_nat]
          first
          | (rw [check_two hpp (by omega), hst.1 hb126]; done)
          | (rw [check_two hpp (by omega), hst.2.1 hb126 (by simpa using hb131)]; done)
         ·
          try simp at hb126
          refine at_skip (by kernel_rfl) ?_
          try simp [h00, o_i, f_a, hx, i0, we, hy', e0, mx_nat]
          refine sq ?_
          refine at_regK [1, 3, 4, 12] rfl ?_
          try simp [h00, o_i, f_a, hx, i0, we, hy', e0, mx_nat]
          refine (c130 (idsM k) (by omega) i y hy).use hH ?_
          try simp [h00, o_i, f_a, hx, i0, we, hy', e0, mx_nat]
          refine sq ?_
          refine at_regK [1, 3, 4, 131] rfl ?_
          try simp [h00, o_i, f_a, hx, i0, we, hy', e0, mx_nat]
          refine at_cond rfl rfl (fun hb131 => ?_) (fun hb131 => ?_)
          ·
           try simp at hb131
           refine sq ?_
           refine at_regK [2] rfl ?_
           try simp [h00, o_i, f_a, hx, i0, we, hy', e0, mx_nat]
           refine at_ret (by kernel_rfl) ?_
           try simp [h00, o_i, f_a, hx, i0, we, hy', e0, mx_nat]
           first
           | (rw [check_two hpp (by omega), hst.1 hb126]; done)
           | (rw [check_two hpp (by omega), hst.2.1 hb126 (by simpa using hb131)]; done)
          ·
           try simp at hb131
           refine at_skip (by kernel_rfl) ?_
           try simp [h00, o_i, f_a, hx, i0, we, hy', e0, mx_nat]
           refine at_regC 1 [1, 3, 4] rfl ?_
           try simp [h00, o_i, f_a, hx, i0, we, hy', e0, mx_nat]
           exact ⟨by omega, hst.2.2 hb126 (by simpa using hb131), by rw [wrap_id (by omega) (by omega)]⟩
        ·
         try simp at hb74
         have hok : okAt k i = recB x (if (0 : Int) < 0 then 0 else 0) := by rw [okAt, if_pos hb64, hxd, show hb k.loads i = 0 by rw [hb74]; rfl]
         refine at_skip (by kernel_rfl) ?_
         try simp [h00, o_i, f_a, hx, i0]
         refine at_regK [1, 3, 4, 5] rfl ?_
         try simp [h00, o_i, f_a, hx, i0]
         refine (c128 x _).use hH ?_
         rw [← hok]
         try simp [h00, o_i, f_a, hx, i0]
         refine sq ?_
         refine sq ?_
         refine at_regC 1 [1, 3, 4, 126] rfl ?_
         try simp [h00, o_i, f_a, hx, i0]
         refine at_cond rfl rfl (fun hb126 => ?_) (fun hb126 => ?_)
         ·
          try simp at hb126
          refine sq ?_
          refine at_regK [2] rfl ?_
          try simp [h00, o_i, f_a, hx, i0]
          refine at_ret (by kernel_rfl) ?_
          try simp [h00, o_i, f_a, hx, i0]
          first
          | (rw [check_two hpp (by omega), hst.1 hb126]; done)
          | (rw [check_two hpp (by omega), hst.2.1 hb126 (by simpa using hb131)]; done)
         ·
          try simp at hb126
          refine at_skip (by kernel_rfl) ?_
          try simp [h00, o_i, f_a, hx, i0]
          refine sq ?_
          refine at_regK [1, 3, 4, 12] rfl ?_
          try simp [h00, o_i, f_a, hx, i0]
          refine (c130 (idsM k) (by omega) i y hy).use hH ?_
          try simp [h00, o_i, f_a, hx, i0]
          refine sq ?_
          refine at_regK [1, 3, 4, 131] rfl ?_
          try simp [h00, o_i, f_a, hx, i0]
          refine at_cond rfl rfl (fun hb131 => ?_) (fun hb131 => ?_)
          ·
           try simp at hb131
           refine sq ?_
           refine at_regK [2] rfl ?_
           try simp [h00, o_i, f_a, hx, i0]
           refine at_ret (by kernel_rfl) ?_
           try simp [h00, o_i, f_a, hx, i0]
           first
           | (rw [check_two hpp (by omega), hst.1 hb126]; done)
           | (rw [check_two hpp (by omega), hst.2.1 hb126 (by simpa using hb131)]; done)
          ·
           try simp at hb131
           refine at_skip (by kernel_rfl) ?_
           try simp [h00, o_i, f_a, hx, i0]
           refine at_regC 1 [1, 3, 4] rfl ?_
           try simp [h00, o_i, f_a, hx, i0]
           exact ⟨by omega, hst.2.2 hb126 (by simpa using hb131), by rw [wrap_id (by omega) (by omega)]⟩
       ·
        try simp at hb64
        refine sq ?_
        refine at_regK [1, 3, 4, 6, 7, 91] rfl ?_
        try simp [h00, o_i, f_a, w3]
        refine at_cond rfl rfl (fun hb91 => ?_) (fun hb91 => ?_)
        ·
         try simp at hb91
         have hb91 : i < k.loads.length + k.draws.length := by omega
         obtain ⟨d, hdd⟩ : ∃ d, d = i - k.loads.length := ⟨_, rfl⟩
         have w6 : IntKind.i64.wrap ((i : Int) - k.loads.length) = (d : Int) := by rw [wrap_id (by omega) (by omega)]; omega
         obtain ⟨x, hx⟩ : ∃ x, k.draws[d]? = some x := ⟨_, List.getElem?_eq_getElem (by omega)⟩
         have d0 : (d : Int) < k.draws.length := by omega
         have hxd : k.draws.getD d default = x := by rw [List.getD, hx]; rfl
         refine sq ?_
         refine at_regK [1, 3, 4, 6, 10] rfl ?_
         try simp [h00, o_i, f_a, w3, w6, hx, d0]
         refine sq ?_
         refine at_regK [1, 3, 4, 6, 10, 11] rfl ?_
         try simp [h00, o_i, f_a, w3, w6, hx, d0]
         refine sq ?_
         refine sq ?_
         refine at_regK [1, 3, 4, 6, 10, 11, 106] rfl ?_
         try simp [h00, o_i, f_a, w3, w6, hx, d0]
         refine at_cond rfl rfl (fun hb106 => ?_) (fun hb106 => ?_)
         ·
          try simp at hb106
          obtain ⟨e, he⟩ : ∃ e, d = e + 1 := ⟨d - 1, by omega⟩
          have we : IntKind.i64.wrap ((d : Int) - 1) = (e : Int) := by rw [wrap_id (by omega) (by omega)]; omega
          obtain ⟨y', hy'⟩ : ∃ x, k.draws[e]? = some x := ⟨_, List.getElem?_eq_getElem (by omega)⟩
          have e0 : (e : Int) < k.draws.length := by omega
          have hok : okAt k i = recB x (if 0 < y'.hour then y'.hour else 0) := by rw [okAt, if_neg (by omega), if_pos (by omega), ← hdd, hxd, show hb k.draws d = y'.hour by rw [he]; exact hb_pos hy']
          refine at_regK [1, 3, 4, 10, 11] rfl ?_
          try simp [h00, o_i, f_a, w3, w6, hx, d0, we, hy', e0, mx_nat]
          refine at_regK [1, 3, 4, 5] rfl ?_
          try simp [h00, o_i, f_a, w3, w6, hx, d0, we, hy', e0, mx_nat]
          refine (c128 x _).use hH ?_
          rw [← hok]
          try simp [h00, o_i, f_a, w3, w6, hx, d0, we, hy', e0, mx_nat]
          refine sq ?_
          refine sq ?_
          refine at_regC 1 [1, 3, 4, 126] rfl ?_
          try simp [h00, o_i, f_a, w3, w6, hx, d0, we, hy', e0, mx_nat]
          refine at_cond rfl rfl (fun hb126 => ?_) (fun hb126 => ?_)
          ·
           try simp at hb126
           refine sq ?_
           refine at_regK [2] rfl ?_
           try simp [h00, o_i, f_a, w3, w6, hx, d0, we, hy', e0, mx_nat]
           refine at_ret (by kernel_rfl) ?_
           try simp [h00, o_i, f_a, w3, w6, hx, d0, we, hy', e0, mx_nat]
           first
           | (rw [check_two hpp (by omega), hst.1 hb126]; done)
           | (rw [check_two hpp (by omega), hst.2.1 hb126 (by simpa using hb131)]; done)
          ·
           try simp at hb126
           refine at_skip (by kernel_rfl) ?_
           try simp [h00, o_i, f_a, w3, w6, hx, d0, we, hy', e0, mx_nat]
           refine sq ?_
           refine at_regK [1, 3, 4, 12] rfl ?_
           try simp [h00, o_i, f_a, w3, w6, hx, d0, we, hy', e0, mx_nat]
           refine (c130 (idsM k) (by omega) i y hy).use hH ?_
           try simp [h00, o_i, f_a, w3, w6, hx, d0, we, hy', e0, mx_nat]
           refine sq ?_
           refine at_regK [1, 3, 4, 131] rfl ?_
           try simp [h00, o_i, f_a, w3, w6, hx, d0, we, hy', e0, mx_nat]
           refine at_cond rfl rfl (fun hb131 => ?_) (fun hb131 => ?_)
           ·
            try simp at hb131
            refine sq ?_
            refine at_regK [2] rfl ?_
            try simp [h00, o_i, f_a, w3, w6, hx, d0, we, hy', e0, mx_nat]
            refine at_ret (by kernel_rfl) ?_
            try simp [h00, o_i, f_a, w3, w6, hx, d0, we, hy', e0, mx_nat]
            first
            | (rw [check_two hpp (by omega), hst.1 hb126]; done)
            | (rw [check_two hpp (by omega), hst.2.1 hb126 (by simpa using hb131)]; done)
           ·
            try simp at hb131
            refine at_skip (by kernel_rfl) ?_
            try simp [h00, o_i, f_a, w3, w6, hx, d0, we, hy', e0, mx_nat]
            refine at_regC 1 [1, 3, 4] rfl ?_
            try simp [h00, o_i, f_a, w3, w6, hx, d0, we, hy', e0, mx_nat]
            exact ⟨by omega, hst.2.2 hb126 (by simpa using hb131), by rw [wrap_id (by omega) (by omega)]⟩
         ·
          try simp at hb106
          have hok : okAt k i = recB x (if (0 : Int) < 0 then 0 else 0) := by rw [okAt, if_neg (by omega), if_pos (by omega), ← hdd, hxd, show hb k.draws d = 0 by rw [show d = 0 by omega]; rfl]
          refine at_skip (by kernel_rfl) ?_
          try simp [h00, o_i, f_a, w3, w6, hx, d0]
          refine at_regK [1, 3, 4, 5] rfl ?_
          try simp [h00, o_i, f_a, w3, w6, hx, d0]
          refine (c128 x _).use hH ?_
          rw [← hok]
          try simp [h00, o_i, f_a, w3, w6, hx, d0]
          refine sq ?_
          refine sq ?_
          refine at_regC 1 [1, 3, 4, 126] rfl ?_
          try simp [h00, o_i, f_a, w3, w6, hx, d0]
          refine at_cond rfl rfl (fun hb126 => ?_) (fun hb126 => ?_)
          ·
           try simp at hb126
           refine sq ?_
           refine at_regK [2] rfl ?_
           try simp [h00, o_i, f_a, w3, w6, hx, d0]
           refine at_ret (by kernel_rfl) ?_
           try simp [h00, o_i, f_a, w3, w6, hx, d0]
           first
           | (rw [check_two hpp (by omega), hst.1 hb126]; done)
           | (rw [check_two hpp (by omega), hst.2.1 hb126 (by simpa using hb131)]; done)
          ·
           try simp at hb126
           refine at_skip (by kernel_rfl) ?_
           try simp [h00, o_i, f_a, w3, w6, hx, d0]
           refine sq ?_
           refine at_regK [1, 3, 4, 12] rfl ?_
           try simp [h00, o_i, f_a, w3, w6, hx, d0]
           refine (c130 (idsM k) (by omega) i y hy).use hH ?_
           try simp [h00, o_i, f_a, w3, w6, hx, d0]
           refine sq ?_
           refine at_regK [1, 3, 4, 131] rfl ?_
           try simp [h00, o_i, f_a, w3, w6, hx, d0]
           refine at_cond rfl rfl (fun hb131 => ?_) (fun hb131 => ?_)
           ·
            try simp at hb131
            refine sq ?_
            refine at_regK [2] rfl ?_
            try simp [h00, o_i, f_a, w3, w6, hx, d0]
            refine at_ret (by kernel_rfl) ?_
            try simp [h00, o_i, f_a, w3, w6, hx, d0]
            first
            | (rw [check_two hpp (by omega), hst.1 hb126]; done)
            | (rw [check_two hpp (by omega), hst.2.1 hb126 (by simpa using hb131)]; done)
           ·
            try simp at hb131
            refine at_skip (by kernel_rfl) ?_
            try simp [h00, o_i, f_a, w3, w6, hx, d0]
            refine at_regC 1 [1, 3, 4] rfl ?_
            try simp [h00, o_i, f_a, w3, w6, hx, d0]
            exact ⟨by omega, hst.2.2 hb126 (by simpa using hb131), by rw [wrap_id (by omega) (by omega)]⟩
        ·
         try simp at hb91
         have hb91 : k.loads.length + k.draws.length ≤ i := by omega
         obtain ⟨d, hdd⟩ : ∃ d, d = i - k.loads.length := ⟨_, rfl⟩
         have w6 : IntKind.i64.wrap ((i : Int) - k.loads.length) = (d : Int) := by rw [wrap_id (by omega) (by omega)]; omega
         obtain ⟨e, he⟩ : ∃ e, e = d - k.draws.length := ⟨_, rfl⟩
         have we : IntKind.i64.wrap ((d : Int) - k.draws.length) = (e : Int) := by rw [wrap_id (by omega) (by omega)]; omega
         obtain ⟨x, hx⟩ : ∃ x, k.weighs[e]? = some x := ⟨_, List.getElem?_eq_getElem (by omega)⟩
         have e0 : (e : Int) < k.weighs.length := by omega
         have hxd : k.weighs.getD e default = x := by rw [List.getD, hx]; rfl
         have hok : okAt k i = weighB k x := by rw [okAt, if_neg (by omega), if_neg (by omega), ← hdd, ← he, hxd]
         refine at_draw [1, 3, 4, 5] [1, 0, 1, 0, 0, 0, 0, 0, 0, 1, 1, 0] [] rfl Efol (by kernel_rfl) (by simp) ?_
         try simp [h00, o_i, f_a, w3, w6, we, hx, e0]
         refine (c129 k hk x).draw hH ?_
         rw [← hok]
         try simp [h00, o_i, f_a, w3, w6, we, hx, e0]
         refine sq ?_
         refine sq ?_
         refine at_regC 1 [1, 3, 4, 126] rfl ?_
         try simp [h00, o_i, f_a, w3, w6, we, hx, e0]
         refine at_cond rfl rfl (fun hb126 => ?_) (fun hb126 => ?_)
         ·
          try simp at hb126
          refine sq ?_
          refine at_regK [2] rfl ?_
          try simp [h00, o_i, f_a, w3, w6, we, hx, e0]
          refine at_ret (by kernel_rfl) ?_
          try simp [h00, o_i, f_a, w3, w6, we, hx, e0]
          first
          | (rw [check_two hpp (by omega), hst.1 hb126]; done)
          | (rw [check_two hpp (by omega), hst.2.1 hb126 (by simpa using hb131)]; done)
         ·
          try simp at hb126
          refine at_skip (by kernel_rfl) ?_
          try simp [h00, o_i, f_a, w3, w6, we, hx, e0]
          refine sq ?_
          refine at_regK [1, 3, 4, 12] rfl ?_
          try simp [h00, o_i, f_a, w3, w6, we, hx, e0]
          refine (c130 (idsM k) (by omega) i y hy).use hH ?_
          try simp [h00, o_i, f_a, w3, w6, we, hx, e0]
          refine sq ?_
          refine at_regK [1, 3, 4, 131] rfl ?_
          try simp [h00, o_i, f_a, w3, w6, we, hx, e0]
          refine at_cond rfl rfl (fun hb131 => ?_) (fun hb131 => ?_)
          ·
           try simp at hb131
           refine sq ?_
           refine at_regK [2] rfl ?_
           try simp [h00, o_i, f_a, w3, w6, we, hx, e0]
           refine at_ret (by kernel_rfl) ?_
           try simp [h00, o_i, f_a, w3, w6, we, hx, e0]
           first
           | (rw [check_two hpp (by omega), hst.1 hb126]; done)
           | (rw [check_two hpp (by omega), hst.2.1 hb126 (by simpa using hb131)]; done)
          ·
           try simp at hb131
           refine at_skip (by kernel_rfl) ?_
           try simp [h00, o_i, f_a, w3, w6, we, hx, e0]
           refine at_regC 1 [1, 3, 4] rfl ?_
           try simp [h00, o_i, f_a, w3, w6, we, hx, e0]
           exact ⟨by omega, hst.2.2 hb126 (by simpa using hb131), by rw [wrap_id (by omega) (by omega)]⟩
      ·
       try simp at hb44
       refine at_exit rfl ?_
       try simp [h00, o_i, f_a]
       refine sq ?_
       refine at_regK [2] rfl ?_
       try simp [h00, o_i, f_a]
       refine at_ret (by kernel_rfl) ?_
       try simp [h00, o_i, f_a]
       rw [check_two hpp (by omega), stg.fin hb44]
end Go.Abs
/- Contracts: the specification's ties. -/
set_option linter.unusedVariables false
set_option linter.unusedSimpArgs false
set_option maxRecDepth 100000
set_option maxHeartbeats 2000000
namespace Go.Abs
open Go.RowKit Go.Proofs Go.Shaft
attribute [simp] ti22 ti23 ti24 ti26 ti30 ti42 ti45 ti52 ti122 ti125 ti88 ti92 ti46
attribute [simp] ti134 ti131 ti48 ti85 ti143 ti189 ti190 ti192 ti204 ti208 ti218 ti9 ti5 ti27 ti28 ti141
theorem c72 (k : Kn) (hk : Few k) (a : Int) (h0 : -1 ≤ a) (h1 : a ≤ 1000) : Con E 72 [eKn k, I a] (I (drawnM k a)) := by
 intro n H hH
 have h00 := hh3 hH
 have ⟨hHs, hH', hpl⟩ := h00
 refine at_start (fn := Tryz.f72) [.tmp 4] 12 H.length rfl rfl rfl rfl (by kernel_rfl) (by kernel_rfl) (by simp) (Nat.le_refl _) ?_
 refine sq ?_
 refine at_regK [1, 2] rfl ?_
 try simp [h00, o_i, f_a]
 refine sq ?_
 refine sq ?_
 refine at_regK [1, 2, 6] rfl ?_
 try simp [h00, o_i, f_a]
 refine at_cond rfl rfl (fun hb6 => ?_) (fun hb6 => ?_)
 ·
  try simp at hb6
  refine sq ?_
  refine at_regK [4] rfl ?_
  try simp [h00, o_i, f_a]
  refine at_ret (by kernel_rfl) ?_
  try simp [h00, o_i, f_a]
  simp [drawnM, hb6]
 ·
  try simp at hb6
  refine at_skip (by kernel_rfl) ?_
  try simp [h00, o_i, f_a]
  refine sq ?_
  refine at_regK [4] rfl ?_
  try simp [h00, o_i, f_a]
  refine at_ret (by kernel_rfl) ?_
  try simp [h00, o_i, f_a]
  have := hk.l
  rw [wrap_id (by omega) (by omega)]
  simp [drawnM, hb6]

theorem c85 (k : Kn) (hk : Few k) (hs : k.loads.Pairwise (fun x y => x.hour ≤ y.hour)) (h : Int) : Con E 85 [eKn k, I h] (I (byHr k.loads h)) := by
 intro n H hH
 have h00 := hh3 hH
 have ⟨hHs, hH', hpl⟩ := h00
 have hl := hk.l; have hd := hk.d
 refine at_start (fn := Tryz.f85) [.tmp 4] 25 H.length rfl rfl rfl rfl (by kernel_rfl) (by kernel_rfl) (by simp) (Nat.le_refl _) ?_
 refine sq ?_
 refine at_regK [1, 2] rfl ?_
 try simp [h00, o_i, f_a]
 refine sq ?_
 refine at_regK [1, 2, 5] rfl ?_
 try simp [h00, o_i, f_a]
 refine sq ?_
 refine sq ?_
 refine at_regK [1, 2, 5, 6] rfl ?_
 try simp [h00, o_i, f_a]
 refine at_block rfl ?_
 refine at_count k.loads.length (fun i s => s = ⟨[(1, I h), (2, .ref false 0 0 [] 0), (5, I (byHr (k.loads.take i) h)), (6, I i)], [.cell (eKn k)], H⟩) rfl (by simp [byHr]) ?_
 rintro i s hi rfl
 refine sq ?_
 refine sq ?_
 refine at_regK [1, 2, 5, 6, 11] rfl ?_
 try simp [h00, o_i, f_a]
 refine at_cond rfl rfl (fun hb11 => ?_) (fun hb11 => ?_)
 ·
  try simp at hb11
  obtain ⟨x, hx⟩ : ∃ x, k.loads[i]? = some x := ⟨_, List.getElem?_eq_getElem (by omega)⟩
  have i0 : (i : Int) < k.loads.length := by omega
  refine at_skip (by kernel_rfl) ?_
  try simp [h00, o_i, f_a, hx, i0]
  refine sq ?_
  refine at_block rfl ?_
  refine sq ?_
  refine at_regK [1, 2, 5, 6, 21] rfl ?_
  try simp [h00, o_i, f_a, hx, i0]
  refine at_cond rfl rfl (fun hb21 => ?_) (fun hb21 => ?_)
  ·
   try simp at hb21
   refine at_regK [1, 2, 5, 6] rfl ?_
   try simp [h00, o_i, f_a, hx, i0]
   refine at_regK [1, 2, 5, 6] rfl ?_
   try simp [h00, o_i, f_a, hx, i0]
   rw [byHr_all hs hx hb21, wrap_id (by omega) (by omega)]
   exact ⟨by omega, by push_cast; rfl, rfl⟩
  ·
   try simp at hb21
   refine at_skip (by kernel_rfl) ?_
   try simp [h00, o_i, f_a, hx, i0]
   refine at_regK [1, 2, 5, 6] rfl ?_
   try simp [h00, o_i, f_a, hx, i0]
   have e := byHr_step (h := h) hx
   rw [if_neg (by omega)] at e
   rw [e, wrap_id (by omega) (by omega)]
   exact ⟨by omega, by simp, rfl⟩
 ·
  try simp at hb11
  have hall : List.take i k.loads = k.loads := List.take_of_length_le (by omega)
  have hle := byHr_le k.loads h
  refine at_exit rfl ?_
  try simp [h00, o_i, f_a, hall]
  refine sq ?_
  refine at_regK [4] rfl ?_
  try simp [h00, o_i, f_a, hall]
  refine at_ret (by kernel_rfl) ?_
  try simp [h00, o_i, f_a, hall]

theorem c84 (k : Kn) (hk : Few k) (hs : k.draws.Pairwise (fun x y => x.hour ≤ y.hour)) (h : Int) : Con E 84 [eKn k, I h] (I (drawnM k (byHr k.draws h))) := by
 intro n H hH
 have h00 := hh3 hH
 have ⟨hHs, hH', hpl⟩ := h00
 have hl := hk.l; have hd := hk.d
 refine at_start (fn := Tryz.f84) [.tmp 4] 27 H.length rfl rfl rfl rfl (by kernel_rfl) (by kernel_rfl) (by simp) (Nat.le_refl _) ?_
 refine sq ?_
 refine at_regK [1, 2] rfl ?_
 try simp [h00, o_i, f_a]
 refine sq ?_
 refine at_regK [1, 2, 5] rfl ?_
 try simp [h00, o_i, f_a]
 refine sq ?_
 refine sq ?_
 refine at_regK [1, 2, 5, 6] rfl ?_
 try simp [h00, o_i, f_a]
 refine at_block rfl ?_
 refine at_count k.draws.length (fun i s => s = ⟨[(1, I h), (2, .ref false 0 0 [] 0), (5, I (byHr (k.draws.take i) h)), (6, I i)], [.cell (eKn k)], H⟩) rfl (by simp [byHr]) ?_
 rintro i s hi rfl
 refine sq ?_
 refine sq ?_
 refine at_regK [1, 2, 5, 6, 11] rfl ?_
 try simp [h00, o_i, f_a]
 refine at_cond rfl rfl (fun hb11 => ?_) (fun hb11 => ?_)
 ·
  try simp at hb11
  obtain ⟨x, hx⟩ : ∃ x, k.draws[i]? = some x := ⟨_, List.getElem?_eq_getElem (by omega)⟩
  have i0 : (i : Int) < k.draws.length := by omega
  refine at_skip (by kernel_rfl) ?_
  try simp [h00, o_i, f_a, hx, i0]
  refine sq ?_
  refine at_block rfl ?_
  refine sq ?_
  refine at_regK [1, 2, 5, 6, 21] rfl ?_
  try simp [h00, o_i, f_a, hx, i0]
  refine at_cond rfl rfl (fun hb21 => ?_) (fun hb21 => ?_)
  ·
   try simp at hb21
   refine at_regK [1, 2, 5, 6] rfl ?_
   try simp [h00, o_i, f_a, hx, i0]
   refine at_regK [1, 2, 5, 6] rfl ?_
   try simp [h00, o_i, f_a, hx, i0]
   rw [byHr_all hs hx hb21, wrap_id (by omega) (by omega)]
   exact ⟨by omega, by push_cast; rfl, rfl⟩
  ·
   try simp at hb21
   refine at_skip (by kernel_rfl) ?_
   try simp [h00, o_i, f_a, hx, i0]
   refine at_regK [1, 2, 5, 6] rfl ?_
   try simp [h00, o_i, f_a, hx, i0]
   have e := byHr_step (h := h) hx
   rw [if_neg (by omega)] at e
   rw [e, wrap_id (by omega) (by omega)]
   exact ⟨by omega, by simp, rfl⟩
 ·
  try simp at hb11
  have hall : List.take i k.draws = k.draws := List.take_of_length_le (by omega)
  have hle := byHr_le k.draws h
  refine at_exit rfl ?_
  try simp [h00, o_i, f_a, hall]
  refine sq ?_
  refine at_regK [4] rfl ?_
  try simp [h00, o_i, f_a, hall]
  refine (c72 k hk (byHr k.draws h) (by omega) (by omega)).use hH ?_
  try simp [h00, o_i, f_a, hall]
  refine at_ret (by kernel_rfl) ?_
  try simp [h00, o_i, f_a, hall]

theorem c154 (k : Kn) (hk : Few k) (o : Order k) (w : Wg) : Con E 154 [eKn k, eWg w] (.tup [I (weighedM k w).1, I (weighedM k w).2]) := by
 intro n H hH
 have h00 := hh3 hH
 have ⟨hHs, hH', hpl⟩ := h00
 have hl := hk.l; have hd := hk.d
 have fa := find_le k.loads w.frm; have fb := find_le k.loads w.to; have fc := find_le k.draws w.frm; have fd := find_le k.draws w.to
 refine at_start (fn := Tryz.f154) [.tmp 4, .tmp 5] 42 H.length rfl rfl rfl rfl (by kernel_rfl) (by kernel_rfl) (by simp) (Nat.le_refl _) ?_
 refine sq ?_
 refine at_regK [2, 3] rfl ?_
 try simp [h00, o_i, f_a]
 refine sq ?_
 refine sq ?_
 refine at_regK [2, 3, 7] rfl ?_
 try simp [h00, o_i, f_a]
 refine at_block rfl ?_
 refine sq ?_
 refine at_regK [2, 3, 7, 8] rfl ?_
 try simp [h00, o_i, f_a]
 refine at_cond rfl rfl (fun hb8 => ?_) (fun hb8 => ?_)
 ·
  try simp at hb8
  refine sq ?_
  refine at_draw [4, 5] [1, 0, 1, 1, 1, 0, 1, 1, 0, 0, 0] [] rfl Efol (by kernel_rfl) (by simp) ?_
  try simp [h00, o_i, f_a]
  refine (c69 k hk _).draw hH ?_
  try simp [h00, o_i, f_a]
  refine (c69 k hk _).draw hH ?_
  try simp [h00, o_i, f_a]
  refine at_ret (by kernel_rfl) ?_
  try simp [h00, o_i, f_a]
  rw [wrap_id (by omega) (by omega)]
  simp [weighedM, hb8]
 ·
  try simp at hb8
  refine sq ?_
  refine at_regK [2, 3, 19] rfl ?_
  try simp [h00, o_i, f_a]
  refine at_cond rfl rfl (fun hb19 => ?_) (fun hb19 => ?_)
  ·
   try simp at hb19
   refine sq ?_
   refine at_draw [4, 5] [1, 1, 0, 1, 1, 1, 1, 1, 0, 1, 1, 0, 1, 0, 0] [] rfl Efol (by kernel_rfl) (by simp) ?_
   try simp [h00, o_i, f_a]
   refine (c70 k hk _).draw hH ?_
   try simp [h00, o_i, f_a]
   refine (c72 k hk _ (by omega) (by omega)).draw hH ?_
   try simp [h00, o_i, f_a]
   refine (c70 k hk _).draw hH ?_
   try simp [h00, o_i, f_a]
   rw [wrap_id (by omega) (by omega)]
   refine (c72 k hk _ (by omega) (by omega)).draw hH ?_
   try simp [h00, o_i, f_a]
   refine at_ret (by kernel_rfl) ?_
   try simp [h00, o_i, f_a]
   simp [weighedM, hb19]
  ·
   try simp at hb19
   refine at_skip (by kernel_rfl) ?_
   try simp [h00, o_i, f_a]
   refine sq ?_
   refine at_draw [4, 5] [1, 0, 1, 1, 1, 0, 1, 1, 0, 0] [] rfl Efol (by kernel_rfl) (by simp) ?_
   try simp [h00, o_i, f_a]
   refine (c84 k hk o.d _).draw hH ?_
   try simp [h00, o_i, f_a]
   refine (c85 k hk o.l _).draw hH ?_
   try simp [h00, o_i, f_a]
   refine at_ret (by kernel_rfl) ?_
   try simp [h00, o_i, f_a]
   simp [weighedM, hb8, hb19]

theorem c40 (a b : List Int) (ha : a.length ≤ 1000) (hb : b.length ≤ 1000) : Con E 40 [eInts a, eInts b] (.bool (decide (a = b))) := by
 intro n H hH
 have h00 := hh3 hH
 have ⟨hHs, hH', hpl⟩ := h00
 refine at_start (fn := Tryz.f40) [.tmp 4] 26 H.length rfl rfl rfl rfl (by kernel_rfl) (by kernel_rfl) (by simp) (Nat.le_refl _) ?_
 refine sq ?_
 refine at_regK [0, 1] rfl ?_
 try simp [h00, o_i, f_a]
 refine sq ?_
 refine sq ?_
 refine at_regK [0, 1, 10] rfl ?_
 try simp [h00, o_i, f_a]
 refine at_cond rfl rfl (fun hb10 => ?_) (fun hb10 => ?_)
 ·
  try simp at hb10
  refine sq ?_
  refine at_regK [4] rfl ?_
  try simp [h00, o_i, f_a]
  refine at_ret (by kernel_rfl) ?_
  try simp [h00, o_i, f_a]
  intro h; rw [h] at hb10; exact hb10 rfl
 ·
  try simp at hb10
  refine at_skip (by kernel_rfl) ?_
  try simp [h00, o_i, f_a]
  refine sq ?_
  refine sq ?_
  refine at_regK [0, 1, 5] rfl ?_
  try simp [h00, o_i, f_a]
  refine at_block rfl ?_
  have hll : a.length = b.length := by omega
  refine at_count a.length (fun i s => a.take i = b.take i ∧ s = ⟨[(0, eInts a), (1, eInts b), (5, I i)], [], H⟩) rfl ⟨by simp, rfl⟩ ?_
  rintro i s hi ⟨hab, rfl⟩
  refine sq ?_
  refine sq ?_
  refine at_regK [0, 1, 5, 14] rfl ?_
  try simp [h00, o_i, f_a]
  refine at_cond rfl rfl (fun hb14 => ?_) (fun hb14 => ?_)
  ·
   try simp at hb14
   obtain ⟨x, hx⟩ : ∃ x, a[i]? = some x := ⟨_, List.getElem?_eq_getElem (by omega)⟩
   obtain ⟨y, hy⟩ : ∃ x, b[i]? = some x := ⟨_, List.getElem?_eq_getElem (by omega)⟩
   have i0 : (i : Int) < a.length := by omega
   have i1 : (i : Int) < b.length := by omega
   refine at_skip (by kernel_rfl) ?_
   try simp [h00, o_i, f_a, hx, hy, i0, i1]
   refine sq ?_
   refine at_block rfl ?_
   refine sq ?_
   refine at_draw [0, 1, 5, 25] [0, 0, 0, 1, 0, 0, 0, 1, 0] [] rfl Efol (by kernel_rfl) (by simp) ?_
   try simp [h00, o_i, f_a, hx, hy, i0, i1]
   refine at_cond rfl rfl (fun hb25 => ?_) (fun hb25 => ?_)
   ·
    try simp at hb25
    refine sq ?_
    refine at_regK [4] rfl ?_
    try simp [h00, o_i, f_a, hx, hy, i0, i1]
    refine at_ret (by kernel_rfl) ?_
    try simp [h00, o_i, f_a, hx, hy, i0, i1]
    intro h; rw [h, hy] at hx; cases hx; exact hb25 rfl
   ·
    try simp at hb25
    refine at_skip (by kernel_rfl) ?_
    try simp [h00, o_i, f_a, hx, hy, i0, i1]
    refine at_regK [0, 1, 5] rfl ?_
    try simp [h00, o_i, f_a, hx, hy, i0, i1]
    refine ⟨hb14, ?_, wrap_id (by omega) (by omega)⟩
    rw [List.take_add_one, List.take_add_one, hx, hy, hab, hb25]
  ·
   try simp at hb14
   refine at_exit rfl ?_
   try simp [h00, o_i, f_a]
   refine sq ?_
   refine at_regK [4] rfl ?_
   try simp [h00, o_i, f_a]
   refine at_ret (by kernel_rfl) ?_
   try simp [h00, o_i, f_a]
   rw [List.take_of_length_le hb14, List.take_of_length_le (by omega)] at hab
   exact hab

theorem c153 (l : List Tie) (hl : l.length ≤ 1000) (a b : Int) (s : Sp) (id : Int) (hlo : IntKind.i64.wrap (-s.lo) = -s.lo) (m v n : Nat) (H : List AO) (hH : okH H) (hm : H[m]? = some (.row 4 (l.map eTie))) (hv : l.length = v) :
  ACall E 153 [.own true m v, I a, I b, eSp s, I id] n H (Is (.own true m (v + 2)) [] (H.set m (.row 4 ((l ++ both a b s id).map eTie)))) := by
 subst hv
 have h00 := hh3 hH
 have ⟨hHs, hH', hpl⟩ := h00
 have hml := (List.getElem?_eq_some_iff.1 hm).1
 have g0 : ∀ h, H[m]'h = .row 4 (l.map eTie) := fun h => (List.getElem?_eq_some_iff.1 hm).2
 refine at_start (fn := Tryz.f153) [.tmp 10] 30 H.length rfl rfl rfl rfl (by kernel_rfl) (by kernel_rfl) (by simp) (Nat.le_refl _) ?_
 refine sq ?_
 refine at_regK [0, 1, 2, 4, 8] rfl ?_
 try simp [h00, o_i, f_a, hm, hml, hlo, g0]
 refine sq ?_
 refine at_regK [0, 1, 2, 4, 8] rfl ?_
 try simp [h00, o_i, f_a, hm, hml, hlo, g0]
 refine ⟨by omega, ?_⟩
 refine sq ?_
 refine at_regK [10] rfl ?_
 try simp [h00, o_i, f_a, hm, hml, hlo, g0]
 refine ⟨by omega, ?_⟩
 refine at_ret (by kernel_rfl) ?_
 try simp [h00, o_i, f_a, hm, hml, hlo, g0]
 have e : List.map eTie l ++ [AV.agg [I a, I b, I s.hi, I id], AV.agg [I b, I a, AV.int IntKind.i64 (-s.lo), I id]] = (l ++ both a b s id).map eTie := by rw [List.map_append]; rfl
 rw [List.take_of_length_le (by simp), e]
 have ok2 := okH_set (j := m) (o := .row 4 ((l ++ both a b s id).map eTie)) hH (by rw [AO.ok]; exact oks_map _ _ (fun a => eTie_ok _ a) _)
 rw [okH, List.length_set] at ok2
 exact ⟨ok2, by rw [List.map_append]⟩

def tkr (k : Kn) (j : Nat) : List AV := ((tiesM k).take j).map eTie
def Ht (H : List AO) (k : Kn) (j : Nat) : List AO := H ++ [.row 4 (tkr k j)]
theorem tkr_len {k : Kn} {j : Nat} (h : j ≤ (tiesM k).length) : (tkr k j).length = j := by simp [tkr]; omega
theorem ht_get (H : List AO) (k : Kn) (j : Nat) : (Ht H k j)[H.length]? = some (.row 4 (tkr k j)) := by simp [Ht]
theorem ht_len (H : List AO) (k : Kn) (j : Nat) : (Ht H k j).length = H.length + 1 := by simp [Ht]
theorem ht_ok {H : List AO} (h : okH H) (k : Kn) (j : Nat) : okH (Ht H k j) := by
 rw [okH, Ht, List.length_append, List.forall_mem_append]
 refine ⟨okH_pm h _ (by omega), ?_⟩
 simp only [List.mem_singleton, forall_eq, AO.ok, tkr]
 exact oks_map _ _ (fun a => eTie_ok _ a) _
theorem ht_take (H : List AO) (k : Kn) (j : Nat) : (Ht H k j).take H.length = H := by simp [Ht]
theorem ht_one {H : List AO} {k : Kn} {j : Nat} {t : Tie} (h : (tiesM k)[j]? = some t) : (Ht H k j).set H.length (.row 4 (tkr k j ++ [eTie t])) = Ht H k (j + 1) := by
 rw [Ht, Ht, set_len, tkr, tkr, List.take_add_one, h]
 simp
theorem ht_two {H : List AO} {k : Kn} {j : Nat} {t u : Tie} (h : (tiesM k)[j]? = some t) (h2 : (tiesM k)[j + 1]? = some u) : (Ht H k j).set H.length (.row 4 (((tiesM k).take j ++ [t, u]).map eTie)) = Ht H k (j + 2) := by
 rw [Ht, Ht, set_len, tkr, tkr, List.take_add_one, List.take_add_one, h, h2]
 simp

theorem c104 (k : Kn) (hk : Few k) (o : Order k) (lo : Lo k) : Con E 104 [eKn k] (eTies (tiesM k)) := by
 intro n H hH
 have h00 := hh3 hH
 have ⟨hHs, hH', hpl⟩ := h00
 have h0 : ∀ j k', H.map (mvO j k') = H := mvO_map hH
 have hl := hk.l; have hd := hk.d; have hw := hk.w
 have htot := tiesLen k
 have hgj := ht_get H k
 have hlj := ht_len H k
 have hgE : ∀ j h, (Ht H k j)[H.length]'h = .row 4 (tkr k j) := fun j h => (List.getElem?_eq_some_iff.1 (ht_get H k j)).2
 have htj := ht_take H k
 have hsj : ∀ j, (∀ o ∈ Ht H k j, o.ok shd = true) ↔ True := fun j => iff_true_intro (okH_shd (ht_ok hH k j))
 have hqj : ∀ j z, (∀ o ∈ Ht H k j, o.ok (pl z) = true) ↔ True := fun j z => iff_true_intro (okH_pl (ht_ok hH k j) z)
 have hmj : ∀ j, (∀ o ∈ Ht H k j, o.ok (pm (H.length + 1)) = true) ↔ True := fun j => iff_true_intro (by have := ht_ok hH k j; rw [okH, ht_len] at this; exact this)
 refine ACall.frz ?_
 refine at_start (fn := Tryz.f104) [.tmp 2] 144 H.length rfl rfl rfl rfl (by kernel_rfl) (by kernel_rfl) (by simp) (Nat.le_refl _) ?_
 refine sq ?_
 refine at_regK [1] rfl ?_
 try simp [h00, o_i, f_a, hgj, hlj, htj, hsj, hqj, hgE]
 refine sq ?_
 refine at_regK [1, 3] rfl ?_
 try simp [h00, o_i, f_a, hgj, hlj, htj, hsj, hqj, hgE]
 refine sq ?_
 refine sq ?_
 refine at_regK [1, 3, 4] rfl ?_
 try simp [h00, o_i, f_a, hgj, hlj, htj, hsj, hqj, hgE]
 refine at_block rfl ?_
 refine at_leads (leads_nilT 3 4 rfl (by decide)) ?_
 simp
 refine at_leads (leads_share 1 rfl rfl) ?_
 simp [AS.share, h0, mvV_id]
 refine at_leads (leads_keep _ [1, 3, 4]) ?_
 simp
 rw [show H ++ [AO.row 4 []] = Ht H k 0 by simp [Ht, tkr]]
 refine at_count k.loads.length (fun i s => s = ⟨[(1, .ref false 0 0 [] 0), (3, .own true H.length (2 * i)), (4, I i)], [.cell (eKn k), .dead], Ht H k (2 * i)⟩) rfl (by rfl) ?_
 rintro i s hi rfl
 obtain ⟨j, hj⟩ : ∃ j, j = 2 * i := ⟨_, rfl⟩
 rw [← hj]
 refine sq ?_
 refine sq ?_
 refine at_regK [1, 3, 4, 15] rfl ?_
 try simp [h00, o_i, f_a, hgj, hlj, htj, hsj, hqj, hgE]
 refine at_cond rfl rfl (fun hb15 => ?_) (fun hb15 => ?_)
 ·
  try simp at hb15
  obtain ⟨x, hx⟩ : ∃ x, k.loads[i]? = some x := ⟨_, List.getElem?_eq_getElem (by omega)⟩
  have i0 : (i : Int) < k.loads.length := by omega
  have wi : IntKind.i64.wrap ((i : Int) + 1) = (i : Int) + 1 := wrap_id (by omega) (by omega)
  have ht0 := tie1 hx
  rw [← hj] at ht0
  have hjl : j ≤ (tiesM k).length := by omega
  have hkl := tkr_len hjl
  have htl : ((tiesM k).take j).length = j := by rw [List.length_take]; omega
  have okj := ht_ok hH k j
  have hlm := List.mem_of_getElem? hx
  refine at_skip (by kernel_rfl) ?_
  try simp [h00, o_i, f_a, hgj, hlj, htj, hsj, hqj, hgE, hx, i0, wi]
  refine sq ?_
  refine at_block rfl ?_
  refine at_draw [1, 3, 4] [0,0,0,0,0,1,0,0,0,1,0,1,0,0,0,1,3,0] [] rfl Efol (by kernel_rfl) (by simp) ?_
  try simp [h00, o_i, f_a, hgj, hlj, htj, hsj, hqj, hgE, hx, i0, wi]
  refine TCall.of_is (c153 ((tiesM k).take j) (by rw [htl]; omega) _ _ _ _ (by have := lo.l x hlm; exact wrap_id (by omega) (by omega)) H.length j _ _ okj (hgj j) htl) ?_
  rw [both, ht_two ht0.1 ht0.2]
  try simp [h00, o_i, f_a, hgj, hlj, htj, hsj, hqj, hgE, hx, i0, wi]
  refine at_regC 2 [1, 3, 4] rfl ?_
  try simp [h00, o_i, f_a, hgj, hlj, htj, hsj, hqj, hgE, hx, i0, wi]
  refine ⟨by omega, ?_⟩
  rw [show 2 * (i + 1) = j + 2 by omega]
  exact ⟨rfl, rfl⟩
 ·
  try simp at hb15
  obtain rfl : i = k.loads.length := by omega
  subst hj
  refine at_exit rfl ?_
  try simp [h00, o_i, f_a, hgj, hlj, htj, hsj, hqj, hgE]
  refine sq ?_
  refine sq ?_
  refine at_regK [1, 3, 5] rfl ?_
  try simp [h00, o_i, f_a, hgj, hlj, htj, hsj, hqj, hgE]
  refine at_block rfl ?_
  refine at_count k.draws.length (fun i s => s = ⟨[(1, .ref false 0 0 [] 0), (3, .own true H.length (2 * k.loads.length + 2 * i)), (5, I i)], [.cell (eKn k), .dead], Ht H k (2 * k.loads.length + 2 * i)⟩) rfl (by simp) ?_
  rintro i s hi rfl
  obtain ⟨j, hj⟩ : ∃ j, j = 2 * k.loads.length + 2 * i := ⟨_, rfl⟩
  rw [← hj]
  refine sq ?_
  refine sq ?_
  refine at_regK [1, 3, 5, 39] rfl ?_
  try simp [h00, o_i, f_a, hgj, hlj, htj, hsj, hqj, hgE]
  refine at_cond rfl rfl (fun hb39 => ?_) (fun hb39 => ?_)
  ·
   try simp at hb39
   obtain ⟨x, hx⟩ : ∃ x, k.draws[i]? = some x := ⟨_, List.getElem?_eq_getElem (by omega)⟩
   have i0 : (i : Int) < k.draws.length := by omega
   have wi : IntKind.i64.wrap ((i : Int) + 1) = (i : Int) + 1 := wrap_id (by omega) (by omega)
   have ht0 := tie2 hx
   rw [← hj] at ht0
   have hjl : j ≤ (tiesM k).length := by omega
   have hkl := tkr_len hjl
   have htl : ((tiesM k).take j).length = j := by rw [List.length_take]; omega
   have okj := ht_ok hH k j
   have hlm := List.mem_of_getElem? hx
   refine at_skip (by kernel_rfl) ?_
   try simp [h00, o_i, f_a, hgj, hlj, htj, hsj, hqj, hgE, hx, i0, wi]
   refine sq ?_
   refine at_block rfl ?_
   refine at_draw [1, 3, 5] [0,1,0,1,1,0,0,1,0,1,0,0,0,1,0,1,0,0,0,1,3,0] [] rfl Efol (by kernel_rfl) (by simp) ?_
   try simp [h00, o_i, f_a, hgj, hlj, htj, hsj, hqj, hgE, hx, i0, wi]
   refine (c72 k hk i (by omega) (by omega)).draw okj ?_
   try simp [h00, o_i, f_a, hgj, hlj, htj, hsj, hqj, hgE, hx, i0, wi]
   refine (c72 k hk ((i : Int) + 1) (by omega) (by omega)).draw okj ?_
   try simp [h00, o_i, f_a, hgj, hlj, htj, hsj, hqj, hgE, hx, i0, wi]
   refine TCall.of_is (c153 ((tiesM k).take j) (by rw [htl]; omega) _ _ _ _ (by have := lo.d x hlm; exact wrap_id (by omega) (by omega)) H.length j _ _ okj (hgj j) htl) ?_
   rw [both, ht_two ht0.1 ht0.2]
   try simp [h00, o_i, f_a, hgj, hlj, htj, hsj, hqj, hgE, hx, i0, wi]
   refine at_regC 2 [1, 3, 5] rfl ?_
   try simp [h00, o_i, f_a, hgj, hlj, htj, hsj, hqj, hgE, hx, i0, wi]
   refine ⟨by omega, ?_⟩
   rw [show 2 * k.loads.length + 2 * (i + 1) = j + 2 by omega]
   exact ⟨rfl, rfl⟩
  ·
   try simp at hb39
   obtain rfl : i = k.draws.length := by omega
   subst hj
   refine at_exit rfl ?_
   try simp [h00, o_i, f_a, hgj, hlj, htj, hsj, hqj, hgE]
   refine sq ?_
   refine sq ?_
   refine at_regK [1, 3, 6] rfl ?_
   try simp [h00, o_i, f_a, hgj, hlj, htj, hsj, hqj, hgE]
   refine at_block rfl ?_
   refine at_count k.weighs.length (fun i s => s = ⟨[(1, .ref false 0 0 [] 0), (3, .own true H.length (2 * k.loads.length + 2 * k.draws.length + 2 * i)), (6, I i)], [.cell (eKn k), .dead], Ht H k (2 * k.loads.length + 2 * k.draws.length + 2 * i)⟩) rfl (by simp) ?_
   rintro i s hi rfl
   obtain ⟨j, hj⟩ : ∃ j, j = 2 * k.loads.length + 2 * k.draws.length + 2 * i := ⟨_, rfl⟩
   rw [← hj]
   refine sq ?_
   refine sq ?_
   refine at_regK [1, 3, 6, 67] rfl ?_
   try simp [h00, o_i, f_a, hgj, hlj, htj, hsj, hqj, hgE]
   refine at_cond rfl rfl (fun hb67 => ?_) (fun hb67 => ?_)
   ·
    try simp at hb67
    obtain ⟨x, hx⟩ : ∃ x, k.weighs[i]? = some x := ⟨_, List.getElem?_eq_getElem (by omega)⟩
    have i0 : (i : Int) < k.weighs.length := by omega
    have wi : IntKind.i64.wrap ((i : Int) + 1) = (i : Int) + 1 := wrap_id (by omega) (by omega)
    have ht0 := tie3 hx
    rw [← hj] at ht0
    have hjl : j ≤ (tiesM k).length := by omega
    have hkl := tkr_len hjl
    have htl : ((tiesM k).take j).length = j := by rw [List.length_take]; omega
    have okj := ht_ok hH k j
    have hlm := List.mem_of_getElem? hx
    refine at_skip (by kernel_rfl) ?_
    try simp [h00, o_i, f_a, hgj, hlj, htj, hsj, hqj, hgE, hx, i0, wi]
    refine sq ?_
    refine at_block rfl ?_
    refine sq ?_
    refine at_draw [1, 3, 6, 7, 8] [1, 0, 1, 0, 0, 1, 1, 0, 0, 0, 0, 0] [] rfl Efol (by kernel_rfl) (by simp) ?_
    try simp [h00, o_i, f_a, hgj, hlj, htj, hsj, hqj, hgE, hx, i0, wi]
    refine (c154 k hk o x).draw okj ?_
    try simp [h00, o_i, f_a, hgj, hlj, htj, hsj, hqj, hgE, hx, i0, wi]
    refine at_draw [1, 3, 6] [0,0,0,0,1,0,0,0,1,0,1,0,0,0,1,3,0] [] rfl Efol (by kernel_rfl) (by simp) ?_
    try simp [h00, o_i, f_a, hgj, hlj, htj, hsj, hqj, hgE, hx, i0, wi]
    refine TCall.of_is (c153 ((tiesM k).take j) (by rw [htl]; omega) _ _ _ _ (by have := lo.w x hlm; exact wrap_id (by omega) (by omega)) H.length j _ _ okj (hgj j) htl) ?_
    rw [both, ht_two ht0.1 ht0.2]
    try simp [h00, o_i, f_a, hgj, hlj, htj, hsj, hqj, hgE, hx, i0, wi]
    refine at_regC 2 [1, 3, 6] rfl ?_
    try simp [h00, o_i, f_a, hgj, hlj, htj, hsj, hqj, hgE, hx, i0, wi]
    refine ⟨by omega, ?_⟩
    rw [show 2 * k.loads.length + 2 * k.draws.length + 2 * (i + 1) = j + 2 by omega]
    exact ⟨rfl, rfl⟩
   ·
    try simp at hb67
    obtain rfl : i = k.weighs.length := by omega
    subst hj
    refine at_exit rfl ?_
    try simp [h00, o_i, f_a, hgj, hlj, htj, hsj, hqj, hgE]
    refine sq ?_
    refine sq ?_
    refine at_regK [1, 3, 9] rfl ?_
    try simp [h00, o_i, f_a, hgj, hlj, htj, hsj, hqj, hgE]
    refine at_block rfl ?_
    refine at_count k.draws.length (fun i s => s = ⟨[(1, .ref false 0 0 [] 0), (3, .own true H.length (2 * k.loads.length + 2 * k.draws.length + 2 * k.weighs.length + i)), (9, I i)], [.cell (eKn k), .dead], Ht H k (2 * k.loads.length + 2 * k.draws.length + 2 * k.weighs.length + i)⟩) rfl (by simp) ?_
    rintro i s hi rfl
    obtain ⟨j, hj⟩ : ∃ j, j = 2 * k.loads.length + 2 * k.draws.length + 2 * k.weighs.length + i := ⟨_, rfl⟩
    rw [← hj]
    refine sq ?_
    refine sq ?_
    refine at_regK [1, 3, 9, 100] rfl ?_
    try simp [h00, o_i, f_a, hgj, hlj, htj, hsj, hqj, hgE]
    refine at_cond rfl rfl (fun hb100 => ?_) (fun hb100 => ?_)
    ·
     try simp at hb100
     obtain ⟨x, hx⟩ : ∃ x, k.draws[i]? = some x := ⟨_, List.getElem?_eq_getElem (by omega)⟩
     have i0 : (i : Int) < k.draws.length := by omega
     have wi : IntKind.i64.wrap ((i : Int) + 1) = (i : Int) + 1 := wrap_id (by omega) (by omega)
     have ht0 := tie4 hx
     rw [← hj] at ht0
     have hjl : j ≤ (tiesM k).length := by omega
     have hkl := tkr_len hjl
     have htl : ((tiesM k).take j).length = j := by rw [List.length_take]; omega
     have okj := ht_ok hH k j
     have hlm := List.mem_of_getElem? hx
     have hs1 : (Ht H k j).set H.length (.row 4 (tkr k j ++ [AV.agg [I (byHr k.loads x.hour), I (drawnM k ((i : Int) + 1)), I 0, I 0]])) = Ht H k (j + 1) := ht_one ht0
     refine at_skip (by kernel_rfl) ?_
     try simp [h00, o_i, f_a, hgj, hlj, htj, hsj, hqj, hgE, hx, i0, wi, hkl, hs1]
     refine sq ?_
     refine at_block rfl ?_
     refine at_draw [1, 3, 9] [0,1,0,1,0,0,0,1,1,1,0,0,1,0,2,3,0] [] rfl Efol (by kernel_rfl) (by simp) ?_
     try simp [h00, o_i, f_a, hgj, hlj, htj, hsj, hqj, hgE, hx, i0, wi, hkl, hs1]
     refine (c85 k hk o.l _).draw okj ?_
     try simp [h00, o_i, f_a, hgj, hlj, htj, hsj, hqj, hgE, hx, i0, wi, hkl, hs1]
     refine (c72 k hk ((i : Int) + 1) (by omega) (by omega)).draw okj ?_
     try simp [h00, o_i, f_a, hgj, hlj, htj, hsj, hqj, hgE, hx, i0, wi, hkl, hs1]
     refine ⟨by omega, ?_⟩
     refine at_regC 2 [1, 3, 9] rfl ?_
     try simp [h00, o_i, f_a, hgj, hlj, htj, hsj, hqj, hgE, hx, i0, wi, hkl, hs1]
     refine ⟨by omega, ?_⟩
     rw [show 2 * k.loads.length + 2 * k.draws.length + 2 * k.weighs.length + (i + 1) = j + 1 by omega]
     exact ⟨rfl, rfl⟩
    ·
     try simp at hb100
     obtain rfl : i = k.draws.length := by omega
     subst hj
     refine at_exit rfl ?_
     try simp [h00, o_i, f_a, hgj, hlj, htj, hsj, hqj, hgE]
     refine sq ?_
     refine sq ?_
     refine at_regK [1, 3, 10] rfl ?_
     try simp [h00, o_i, f_a, hgj, hlj, htj, hsj, hqj, hgE]
     refine at_block rfl ?_
     refine at_count k.loads.length (fun i s => s = ⟨[(1, .ref false 0 0 [] 0), (3, .own true H.length (2 * k.loads.length + 2 * k.draws.length + 2 * k.weighs.length + k.draws.length + i)), (10, I i)], [.cell (eKn k), .dead], Ht H k (2 * k.loads.length + 2 * k.draws.length + 2 * k.weighs.length + k.draws.length + i)⟩) rfl (by simp) ?_
     rintro i s hi rfl
     obtain ⟨j, hj⟩ : ∃ j, j = 2 * k.loads.length + 2 * k.draws.length + 2 * k.weighs.length + k.draws.length + i := ⟨_, rfl⟩
     rw [← hj]
     refine sq ?_
     refine sq ?_
     refine at_regK [1, 3, 10, 123] rfl ?_
     try simp [h00, o_i, f_a, hgj, hlj, htj, hsj, hqj, hgE]
     refine at_cond rfl rfl (fun hb123 => ?_) (fun hb123 => ?_)
     ·
      try simp at hb123
      obtain ⟨x, hx⟩ : ∃ x, k.loads[i]? = some x := ⟨_, List.getElem?_eq_getElem (by omega)⟩
      have i0 : (i : Int) < k.loads.length := by omega
      have wi : IntKind.i64.wrap ((i : Int) + 1) = (i : Int) + 1 := wrap_id (by omega) (by omega)
      have ht0 := tie5 hx
      rw [← hj] at ht0
      have hjl : j ≤ (tiesM k).length := by omega
      have hkl := tkr_len hjl
      have htl : ((tiesM k).take j).length = j := by rw [List.length_take]; omega
      have okj := ht_ok hH k j
      have hlm := List.mem_of_getElem? hx
      have hs1 : (Ht H k j).set H.length (.row 4 (tkr k j ++ [AV.agg [I (drawnM k (byHr k.draws (x.hour - 1))), I ((i : Int) + 1), I k.room, I 0]])) = Ht H k (j + 1) := ht_one ht0
      have wh : IntKind.i64.wrap (x.hour - 1) = x.hour - 1 := by have := lo.l x hlm; exact wrap_id (by omega) (by omega)
      refine at_skip (by kernel_rfl) ?_
      try simp [h00, o_i, f_a, hgj, hlj, htj, hsj, hqj, hgE, hx, i0, wi, hkl, hs1, wh]
      refine sq ?_
      refine at_block rfl ?_
      refine at_draw [1, 3, 10] [0,1,0,1,0,0,0,1,0,1,0,0,0,1,0,2,3,0] [] rfl Efol (by kernel_rfl) (by simp) ?_
      try simp [h00, o_i, f_a, hgj, hlj, htj, hsj, hqj, hgE, hx, i0, wi, hkl, hs1, wh]
      refine (c84 k hk o.d _).draw okj ?_
      try simp [h00, o_i, f_a, hgj, hlj, htj, hsj, hqj, hgE, hx, i0, wi, hkl, hs1, wh]
      refine ⟨by omega, ?_⟩
      refine at_regC 2 [1, 3, 10] rfl ?_
      try simp [h00, o_i, f_a, hgj, hlj, htj, hsj, hqj, hgE, hx, i0, wi, hkl, hs1, wh]
      refine ⟨by omega, ?_⟩
      rw [show 2 * k.loads.length + 2 * k.draws.length + 2 * k.weighs.length + k.draws.length + (i + 1) = j + 1 by omega]
      exact ⟨rfl, rfl⟩
     ·
      try simp at hb123
      obtain rfl : i = k.loads.length := by omega
      have hje : j = (tiesM k).length := by omega
      rw [hje]
      have hrow : tkr k (tiesM k).length = (tiesM k).map eTie := by rw [tkr, List.take_length]
      refine at_exit rfl ?_
      try simp [h00, o_i, f_a, hgj, hlj, htj, hsj, hqj, hgE]
      refine sq ?_
      refine at_leads (leads_unshare H.length (hgj _) rfl) ?_
      simp [AS.unshare, hgj, mwV, hrow]
      refine at_regK [2] rfl ?_
      try simp [h00, o_i, f_a, hgj, hlj, htj, hsj, hqj, hgE]
      refine at_leads (leads_freeze 2 2 rfl rfl (by simp)) ?_
      refine at_ret (by kernel_rfl) ?_
      try simp [h00, o_i, f_a, hgj, hlj, htj, hsj, hqj, hgE]
      rw [show List.take H.length ((Ht H k (tiesM k).length).set H.length AO.dead) = H by simp [Ht]]
      simp [AS.frzV, AS.expo, AS.expos, AS.setMem, AV.ok, AV.oks, hHs, hH', eTies]

def pathR (x : Nt) (u v : Int) (p : List Int) : Int × Bool := ((sumM x u 0 p).1, (sumM x u 0 p).2.2 && decide ((sumM x u 0 p).2.1 = v))

theorem c132 (x : Nt) (u v : Int) (p : List Int) (hx : x.links.length ≤ 1000) (hm : ∀ t ∈ x.links, -16777216 ≤ t.most ∧ t.most ≤ 16777216) (hp : p.length ≤ 1000) : Con E 132 [eTies x.links, eInts p, I u, I v] (.tup [I (pathR x u v p).1, .bool (pathR x u v p).2]) := by
 intro n H hH
 have h00 := hh3 hH
 have ⟨hHs, hH', hpl⟩ := h00
 refine at_start (fn := Tryz.f132) [.tmp 8, .tmp 9] 68 H.length rfl rfl rfl rfl (by kernel_rfl) (by kernel_rfl) (by simp) (Nat.le_refl _) ?_
 refine sq ?_
 refine at_regK [0, 1, 2, 3] rfl ?_
 try simp [h00, o_i, f_a]
 refine sq ?_
 refine at_regK [0, 1, 3, 10] rfl ?_
 try simp [h00, o_i, f_a]
 refine sq ?_
 refine at_regK [0, 1, 3, 10, 11] rfl ?_
 try simp [h00, o_i, f_a]
 refine sq ?_
 refine sq ?_
 refine at_regK [0, 1, 3, 10, 11, 12] rfl ?_
 try simp [h00, o_i, f_a]
 refine at_block rfl ?_
 refine at_count p.length (fun i s => ∃ u' n', sumM x u' n' (p.drop i) = sumM x u 0 p ∧ -(16777216 * (i : Int)) ≤ n' ∧ n' ≤ 16777216 * (i : Int) ∧ s = ⟨[(0, eTies x.links), (1, eInts p), (3, I v), (10, I u'), (11, I n'), (12, I i)], [], H⟩) rfl ⟨u, 0, rfl, by omega, by omega, rfl⟩ ?_
 rintro i s hi ⟨u', n', hs, n0, n1, rfl⟩
 refine sq ?_
 refine sq ?_
 refine at_regK [0, 1, 3, 10, 11, 12, 17] rfl ?_
 try simp [h00, o_i, f_a]
 refine at_cond rfl rfl (fun hb17 => ?_) (fun hb17 => ?_)
 ·
  try simp at hb17
  obtain ⟨q, hq⟩ : ∃ q, p[i]? = some q := ⟨_, List.getElem?_eq_getElem (by omega)⟩
  have i0 : (i : Int) < p.length := by omega
  have i1 : i < p.length := by omega
  rw [List.drop_eq_getElem_cons i1, (List.getElem?_eq_some_iff.1 hq).2] at hs
  have wl : IntKind.i64.wrap ((x.links.length : Int) - 1) = (x.links.length : Int) - 1 := wrap_id (by omega) (by omega)
  refine at_skip (by kernel_rfl) ?_
  try simp [h00, o_i, f_a, hq, i0, wl]
  refine sq ?_
  refine at_block rfl ?_
  refine sq ?_
  refine sq ?_
  refine at_regK [0, 1, 3, 11, 12, 45] rfl ?_
  try simp [h00, o_i, f_a, hq, i0, wl]
  refine (c126 _ _ _).use hH ?_
  try simp [h00, o_i, f_a, hq, i0, wl]
  refine pops_split 29 rfl (fun hg1 => ?_) (fun hg1 => ?_)
  ·
   try simp [h00, o_i, f_a, hq, i0, wl, hg1]
   refine at_cond rfl rfl (fun hb45 => ?_) (fun hb45 => by simp at hb45)
   refine sq ?_
   refine at_regK [8, 9] rfl ?_
   try simp [h00, o_i, f_a, hq, i0, wl]
   refine at_ret (by kernel_rfl) ?_
   try simp [h00, o_i, f_a, hq, i0, wl]
   rw [sumM_cons_no (fun h => by simp [h.1] at hg1)] at hs
   rw [pathR, ← hs]
   exact ⟨rfl, rfl⟩
  ·
   have hin : 0 ≤ q ∧ q < x.links.length := by simp [inB] at hg1; omega
   obtain ⟨q0, q1⟩ := hin
   have q2 : ¬ (x.links.length : Int) - 1 < q := by omega
   have q3 : q ≤ (x.links.length : Int) - 1 := by omega
   have q4 : (if 0 < q then q else 0) = q := by split <;> omega
   have hl := lk_get q0 q1
   have hlm := hm _ (List.mem_of_getElem? hl)
   have hlE : ∀ h, x.links[q.toNat]'h = lk x q := fun h => (List.getElem?_eq_some_iff.1 hl).2
   have wn : IntKind.i64.wrap (n' + (lk x q).most) = n' + (lk x q).most := wrap_id (by omega) (by omega)
   try simp [h00, o_i, f_a, hq, i0, wl, q0, q1, q2, q3, q4, hl, hlE, wn, hg1]
   refine at_cond rfl rfl (fun hb45 => ?_) (fun hb45 => ?_)
   ·
    try simp at hb45
    refine sq ?_
    refine at_regK [8, 9] rfl ?_
    try simp [h00, o_i, f_a, hq, i0, wl, q0, q1, q2, q3, q4, hl, hlE, wn]
    refine at_ret (by kernel_rfl) ?_
    try simp [h00, o_i, f_a, hq, i0, wl, q0, q1, q2, q3, q4, hl, hlE, wn]
    rw [sumM_cons_no (fun h => hb45 h.2)] at hs
    rw [pathR, ← hs]
    exact ⟨rfl, rfl⟩
   ·
    try simp at hb45
    refine at_skip (by kernel_rfl) ?_
    try simp [h00, o_i, f_a, hq, i0, wl, q0, q1, q2, q3, q4, hl, hlE, wn]
    refine sq ?_
    refine at_regK [0, 1, 3, 10, 11, 12] rfl ?_
    try simp [h00, o_i, f_a, hq, i0, wl, q0, q1, q2, q3, q4, hl, hlE, wn]
    refine at_regK [0, 1, 3, 10, 11, 12] rfl ?_
    try simp [h00, o_i, f_a, hq, i0, wl, q0, q1, q2, q3, q4, hl, hlE, wn]
    refine at_regK [0, 1, 3, 10, 11, 12] rfl ?_
    try simp [h00, o_i, f_a, hq, i0, wl, q0, q1, q2, q3, q4, hl, hlE, wn]
    rw [sumM_cons_yes ⟨by simpa using hg1, hb45⟩] at hs
    exact ⟨i1, _, _, hs, by omega, by omega, rfl, rfl, by rw [wrap_id (by omega) (by omega)]⟩
 ·
  try simp at hb17
  refine at_exit rfl ?_
  try simp [h00, o_i, f_a]
  refine sq ?_
  refine at_regK [8, 9] rfl ?_
  try simp [h00, o_i, f_a]
  refine at_ret (by kernel_rfl) ?_
  try simp [h00, o_i, f_a]
  rw [List.drop_of_length_le (by omega), sumM] at hs
  rw [pathR, ← hs]
  exact ⟨rfl, rfl⟩

theorem checkClash_cons {k : Kn} {q : Int} {p : List Int} (hc : check k = 0) (hl : (q :: p).length ≤ 200) : checkClashM k (q :: p) = if inB q 0 (((tiesM k).length : Int) - 1) = false then 8 else if (pathR (netM k []) (lk (netM k []) q).frm (lk (netM k []) q).frm (q :: p)).2 = false ∨ 0 ≤ (pathR (netM k []) (lk (netM k []) q).frm (lk (netM k []) q).frm (q :: p)).1 then 8 else 0 := by
 unfold checkClashM
 rw [if_neg (by simp [hc]), if_neg (by omega)]
 show (if inB q 0 (((tiesM k).length : Int) - 1) = false then (8 : Int) else if (sumM (netM k []) (lk (netM k []) q).frm 0 (q :: p)).2.2 = false ∨ (sumM (netM k []) (lk (netM k []) q).frm 0 (q :: p)).2.1 ≠ (lk (netM k []) q).frm ∨ 0 ≤ (sumM (netM k []) (lk (netM k []) q).frm 0 (q :: p)).1 then 8 else 0) = _
 by_cases h1 : inB q 0 (((tiesM k).length : Int) - 1) = false
 ·rw [if_pos h1, if_pos h1]
 ·rw [if_neg h1, if_neg h1]
  simp only [pathR, Bool.and_eq_false_iff, decide_eq_false_iff_not, or_assoc, ne_eq]

theorem c55 (k : Kn) (hk : Few k) (l : List Int) (hl : l.length ≤ 1000) : Con E 55 [eKn k, eInts l] (I (checkClashM k l)) := by
 intro n H hH
 have h00 := hh3 hH
 have ⟨hHs, hH', hpl⟩ := h00
 refine at_start (fn := Tryz.f55) [.tmp 4] 59 H.length rfl rfl rfl rfl (by kernel_rfl) (by kernel_rfl) (by simp) (Nat.le_refl _) ?_
 refine sq ?_
 refine at_regK [1, 2] rfl ?_
 try simp [h00, o_i, f_a]
 refine sq ?_
 refine at_regK [1, 2, 5] rfl ?_
 try simp [h00, o_i, f_a]
 refine (c53 _ hk).use hH ?_
 try simp [h00, o_i, f_a]
 refine sq ?_
 refine sq ?_
 refine at_regK [1, 2, 5, 13] rfl ?_
 try simp [h00, o_i, f_a]
 refine at_cond rfl rfl (fun hb13 => ?_) (fun hb13 => ?_)
 ·
  try simp at hb13
  refine sq ?_
  refine at_regK [4] rfl ?_
  try simp [h00, o_i, f_a]
  refine at_ret (by kernel_rfl) ?_
  try simp [h00, o_i, f_a]
  unfold checkClashM
  rw [if_pos hb13]
 ·
  try simp at hb13
  have fn := fine_of_check hb13
  have rt := right_of_check hb13
  have or := order_of_check hb13
  have nl := rt.nl; have nd := rt.nd; have nw := rt.nw
  have hN : (netM k []).links = tiesM k := by simp [netM]
  have htm := ties_in rt
  have htl := tiesLen k
  refine at_skip (by kernel_rfl) ?_
  try simp [h00, o_i, f_a]
  refine sq ?_
  refine sq ?_
  refine at_regK [1, 2, 17] rfl ?_
  try simp [h00, o_i, f_a]
  refine at_cond rfl rfl (fun hb17 => ?_) (fun hb17 => ?_)
  ·
   try simp at hb17
   refine sq ?_
   refine at_regK [4] rfl ?_
   try simp [h00, o_i, f_a]
   refine at_ret (by kernel_rfl) ?_
   try simp [h00, o_i, f_a]
   unfold checkClashM
   rw [if_neg (by simp [hb13]), if_pos (by omega)]
  ·
   try simp at hb17
   refine at_skip (by kernel_rfl) ?_
   try simp [h00, o_i, f_a]
   refine sq ?_
   refine at_regK [1, 6] rfl ?_
   try simp [h00, o_i, f_a]
   refine (c104 k hk or fn.lo).use hH ?_
   rw [← hN]
   try simp [h00, o_i, f_a]
   refine sq ?_
   refine sq ?_
   have hl2 : l.length ≤ 200 := by omega
   have wl : IntKind.i64.wrap (((netM k []).links.length : Int) - 1) = ((netM k []).links.length : Int) - 1 := by rw [hN]; exact wrap_id (by omega) (by omega)
   refine at_regK [1, 6, 32] rfl ?_
   try simp [h00, o_i, f_a, wl]
   refine pops_split 23 rfl (fun hg1 => ?_) (fun hg1 => ?_)
   ·
    try simp [h00, o_i, f_a, wl, hg1]
    refine at_cond rfl rfl (fun hb32 => ?_) (fun hb32 => by simp at hb32)
    refine sq ?_
    refine at_regK [4] rfl ?_
    try simp [h00, o_i, f_a]
    refine at_ret (by kernel_rfl) ?_
    try simp [h00, o_i, f_a]
    have : l = [] := by simpa using hg1
    subst this
    unfold checkClashM
    rw [if_neg (by simp [hb13]), if_neg (by simp)]
   ·
    obtain ⟨q, p, rfl⟩ : ∃ q p, l = q :: p := by cases l with | nil => simp at hg1 | cons q p => exact ⟨q, p, rfl⟩
    have hcl : ((p.length : Int) + 1 == 0) = false := by simp; omega
    have hp0 : (0 : Int) < (p.length : Int) + 1 := by omega
    try simp [h00, o_i, f_a, wl, hcl, hp0, wl, hg1]
    refine (c126 _ _ _).use hH ?_
    try simp [h00, o_i, f_a, wl, hcl, hp0, wl]
    refine at_cond rfl rfl (fun hb32 => ?_) (fun hb32 => ?_)
    ·
     try simp at hb32
     refine sq ?_
     refine at_regK [4] rfl ?_
     try simp [h00, o_i, f_a, hcl, hp0, wl]
     refine at_ret (by kernel_rfl) ?_
     try simp [h00, o_i, f_a, hcl, hp0, wl]
     have hh : inB q 0 (((tiesM k).length : Int) - 1) = false := by rw [← hN]; simpa using hb32
     rw [checkClash_cons hb13 hl2, if_pos hh]
    ·
     try simp at hb32
     have hin : 0 ≤ q ∧ q < (netM k []).links.length := by simp [inB] at hb32; omega
     obtain ⟨q0, q1⟩ := hin
     have q2 : ¬ ((netM k []).links.length : Int) - 1 < q := by omega
     have q3 : q ≤ ((netM k []).links.length : Int) - 1 := by omega
     have q4 : (if 0 < q then q else 0) = q := by split <;> omega
     have hlq := lk_get (x := netM k []) q0 q1
     have hlE : ∀ h, (netM k []).links[q.toNat]'h = lk (netM k []) q := fun h => (List.getElem?_eq_some_iff.1 hlq).2
     refine at_skip (by kernel_rfl) ?_
     try simp [h00, o_i, f_a, hcl, hp0, wl, q0, q1, q2, q3, q4, hlq, hlE]
     refine sq ?_
     refine at_regK [1, 6, 7] rfl ?_
     try simp [h00, o_i, f_a, hcl, hp0, wl, q0, q1, q2, q3, q4, hlq, hlE]
     refine sq ?_
     refine at_regK [8, 9] rfl ?_
     try simp [h00, o_i, f_a, hcl, hp0, wl, q0, q1, q2, q3, q4, hlq, hlE]
     refine (c132 (netM k []) _ _ _ (by rw [hN]; omega) (fun t ht => by rw [hN] at ht; have := htm t ht; omega) (by omega)).use hH ?_
     try simp [h00, o_i, f_a, hcl, hp0, wl, q0, q1, q2, q3, q4, hlq, hlE]
     refine sq ?_
     refine sq ?_
     refine at_regK [58] rfl ?_
     try simp [h00, o_i, f_a, hcl, hp0, wl, q0, q1, q2, q3, q4, hlq, hlE]
     refine pops_split 55 rfl (fun hg2 => ?_) (fun hg2 => ?_)
     ·
      try simp [h00, o_i, f_a, hcl, hp0, wl, q0, q1, q2, q3, q4, hlq, hlE, hg2]
      refine at_cond rfl rfl (fun hb58 => ?_) (fun hb58 => by simp at hb58)
      refine sq ?_
      refine at_regK [4] rfl ?_
      try simp [h00, o_i, f_a, hcl, hp0, wl, q0, q1, q2, q3, q4, hlq, hlE]
      refine at_ret (by kernel_rfl) ?_
      try simp [h00, o_i, f_a, hcl, hp0, wl, q0, q1, q2, q3, q4, hlq, hlE]
      rw [checkClash_cons hb13 hl2, if_neg (by rw [← hN]; simp [hb32]), if_pos (.inl (by simpa using hg2))]
     ·
      try simp [h00, o_i, f_a, hcl, hp0, wl, q0, q1, q2, q3, q4, hlq, hlE, hg2]
      refine at_cond rfl rfl (fun hb58 => ?_) (fun hb58 => ?_)
      ·
       try simp at hb58
       refine sq ?_
       refine at_regK [4] rfl ?_
       try simp [h00, o_i, f_a, hcl, hp0, wl, q0, q1, q2, q3, q4, hlq, hlE]
       refine at_ret (by kernel_rfl) ?_
       try simp [h00, o_i, f_a, hcl, hp0, wl, q0, q1, q2, q3, q4, hlq, hlE]
       rw [checkClash_cons hb13 hl2, if_neg (by rw [← hN]; simp [hb32]), if_pos (.inr hb58)]
      ·
       try simp at hb58
       refine at_skip (by kernel_rfl) ?_
       try simp [h00, o_i, f_a, hcl, hp0, wl, q0, q1, q2, q3, q4, hlq, hlE]
       refine sq ?_
       refine at_regK [4] rfl ?_
       try simp [h00, o_i, f_a, hcl, hp0, wl, q0, q1, q2, q3, q4, hlq, hlE]
       refine at_ret (by kernel_rfl) ?_
       try simp [h00, o_i, f_a, hcl, hp0, wl, q0, q1, q2, q3, q4, hlq, hlE]
       rw [checkClash_cons hb13 hl2, if_neg (by rw [← hN]; simp [hb32]), if_neg (by simp at hg2; simp [hg2]; omega)]
end Go.Abs
/- The chapter's example. -/
set_option linter.unusedVariables false
set_option linter.unusedSimpArgs false
set_option maxRecDepth 100000
set_option maxHeartbeats 2000000
namespace Go.Abs
open Go.RowKit Go.Proofs Go.Shaft
attribute [simp] ti22 ti23 ti24 ti26 ti30 ti42 ti45 ti52 ti122 ti125 ti88 ti92 ti46
def exV (n : Nat) : AV := .agg [I 100, I 10, .own false n 3, .own false (n + 1) 2, .own false (n + 2) 2]
def exR : List AO := [.xrow 4 (exK.loads.map eLd), .xrow 4 (exK.draws.map eLd), .xrow 6 (exK.weighs.map eWg)]
theorem c68 : ConR E 68 [] exV exR := by
 intro n H hH
 have h00 := hh3 hH
 have ⟨hHs, hH', hpl⟩ := h00
 refine at_start (fn := Tryz.f68) [.cell 0 26] 19 H.length rfl rfl rfl rfl (by kernel_rfl) (by kernel_rfl) (by simp) (Nat.le_refl _) ?_
 refine sq ?_
 refine at_regK [0] rfl ?_
 simp [h00, o_i, f_a]
 refine sq ?_
 refine at_regA [0] rfl ?_
 simp only [AOps, guardP]
 refine pv_sound ?_
 simp
 refine pv_sound ?_
 simp
 refine pv_sound ?_
 simp
 refine pv_sound ?_
 simp
 refine pv_sound ?_
 simp
 refine pv_sound ?_
 simp
 refine opw_buildX rfl rfl rfl rfl rfl (by decide) (by decide) (by simp [fits]) ?_
 simp [setAll, AS.push]
 refine pv_sound ?_
 simp
 refine pv_sound ?_
 simp
 refine pv_sound ?_
 simp
 refine pv_sound ?_
 simp
 refine opw_buildX rfl rfl rfl rfl rfl (by decide) (by decide) (by simp [fits]) ?_
 simp [setAll, AS.push]
 refine pv_sound ?_
 simp
 refine pv_sound ?_
 simp
 refine pv_sound ?_
 simp
 refine pv_sound ?_
 simp
 refine opw_buildX rfl rfl rfl rfl rfl (by decide) (by decide) (by simp [fits]) ?_
 simp [setAll, AS.push]
 refine pv_sound ?_
 simp
 refine pv_sound ?_
 simp
 refine at_ret (by kernel_rfl) ?_
 simp [h00, o_i, f_a, FOutU, AV.locs, AV.outR, pickR, List.idxOf?, List.findIdx?_cons]
 exact ⟨rfl, rfl⟩
attribute [simp] ti134 ti131 ti48 ti85 ti143 ti189 ti190 ti192 ti204 ti208 ti218 ti9 ti5 ti27 ti28 ti141
theorem eqt30 : EqTy E.P 30 [.i64, .i64] := ⟨by kernel_rfl, by kernel_rfl, by kernel_rfl⟩
theorem eqt92 : EqTy E.P 92 [.i64, .i64, .i64, .i64] := ⟨by kernel_rfl, by kernel_rfl, by kernel_rfl⟩
theorem eqt42 : EqTy E.P 42 [.i64, .i64, .i64, .i64] := ⟨by kernel_rfl, by kernel_rfl, by kernel_rfl⟩
theorem eqt52 : EqTy E.P 52 [.i64, .i64, .i64, .i64] := ⟨by kernel_rfl, by kernel_rfl, by kernel_rfl⟩
theorem eqt45 : EqTy E.P 45 [.i64, .i64, .i64, .i64, .i64, .i64] := ⟨by kernel_rfl, by kernel_rfl, by kernel_rfl⟩
@[simp] theorem pCmp_sp (op : BinOp) (s t : Sp) (K : AV → Prop) : pCmp E.P op 30 (eSp s) (eSp t) K = cmpK op (decide (s = t)) K := by
 rw [pCmp_flat _ _ _ _ _ rfl]
 have e : ([s.lo, s.hi] == [t.lo, t.hi]) = decide (s = t) := by cases s; cases t; simp [Bool.decide_and]; rfl
 simp only [eSp, AV.flatI, AV.flatIs, got_some, List.append_nil, List.cons_append, List.nil_append, List.map_cons, List.map_nil, eqt30, true_and, e]
 simp [AV.isAgg]
@[simp] theorem pCmp_spl (op : BinOp) (s : Sp) (lo hi : Int) (K : AV → Prop) : pCmp E.P op 30 (eSp s) (.agg [.int .i64 lo, .int .i64 hi]) K = cmpK op (decide (s = ⟨lo, hi⟩)) K := pCmp_sp op s ⟨lo, hi⟩ K
@[simp] theorem pCmp_tie (op : BinOp) (s t : Tie) (K : AV → Prop) : pCmp E.P op 92 (eTie s) (eTie t) K = cmpK op (decide (s = t)) K := by
 rw [pCmp_flat _ _ _ _ _ rfl]
 have e : ([s.frm, s.to, s.most, s.id] == [t.frm, t.to, t.most, t.id]) = decide (s = t) := by cases s; cases t; simp [Bool.decide_and]; rfl
 simp only [eTie, AV.flatI, AV.flatIs, got_some, List.append_nil, List.cons_append, List.nil_append, List.map_cons, List.map_nil, eqt92, true_and, e]
 simp [AV.isAgg]
@[simp] theorem pCmp_tiel (op : BinOp) (s : Tie) (a b c d : Int) (K : AV → Prop) : pCmp E.P op 92 (eTie s) (.agg [.int .i64 a, .int .i64 b, .int .i64 c, .int .i64 d]) K = cmpK op (decide (s = ⟨a, b, c, d⟩)) K := pCmp_tie op s ⟨a, b, c, d⟩ K
theorem few_ex : Few exK := ⟨by decide, by decide, by decide⟩
theorem few_ex2 : Few exK2 := ⟨by decide, by decide, by decide⟩
@[simp] theorem exL1 : exK.loads.length = 3 := rfl
@[simp] theorem exL2 : exK.draws.length = 2 := rfl
@[simp] theorem exL3 : exK.weighs.length = 2 := rfl
theorem exK2_lit : eKn exK2 = .agg [I 100, I 10, .lit 4 (exK.loads.map eLd), .lit 4 (exK.draws.map eLd), .lit 6 (exK.weighs.map eWg ++ [.agg [.int .i64 23, .int .i64 1, .int .i64 1, .int .i64 1, .agg [.int .i64 31, .int .i64 33]]])] := rfl
theorem exK_lit : eKn exK = .agg [I 100, I 10, .lit 4 (exK.loads.map eLd), .lit 4 (exK.draws.map eLd), .lit 6 (exK.weighs.map eWg)] := rfl

end Go.Abs
/- The chapter's example: what the program tells of it. -/
set_option linter.unusedVariables false
set_option linter.unusedSimpArgs false
set_option maxRecDepth 100000
set_option maxHeartbeats 2000000
namespace Go.Abs
open Go.RowKit Go.Proofs Go.Shaft
attribute [simp] ti22 ti23 ti24 ti26 ti30 ti42 ti45 ti52 ti122 ti125 ti88 ti92 ti46
attribute [simp] ti134 ti131 ti48 ti85 ti143 ti189 ti190 ti192 ti204 ti208 ti218 ti9 ti5 ti27 ti28 ti141
theorem c17 : Con E 17 [] (.bool true) := by
 intro n H hH
 have h00 := hh3 hH
 have ⟨hHs, hH', hpl⟩ := h00
 obtain ⟨tl, htl⟩ : ∃ tl, tl = (tiesAll exK).1 := ⟨_, rfl⟩
 have hT : ((tiesAll exK).2, tl.length, tl[1]?) = (0, 19, some ⟨1, 0, -20, 1⟩) := by rw [htl]; exact ex_ties
 have hT2 : tiesAll exK = (tl, 0) := by rw [htl]; exact Prod.ext rfl (congrArg Prod.fst hT)
 have hT3 : tl.length = 19 := congrArg (fun q => q.2.1) hT
 have hT4 : tl[1]? = some ⟨1, 0, -20, 1⟩ := congrArg (fun q => q.2.2) hT
 have hT5 : ∀ h, tl[1]'h = ⟨1, 0, -20, 1⟩ := fun h => (List.getElem?_eq_some_iff.1 hT4).2
 obtain ⟨cl, hcl⟩ : ∃ cl, cl = (clashM exK2).1.getD [] := ⟨_, rfl⟩
 have hC : ((clashM exK2).1.isSome, (clashM exK2).2, decide (cl.length ≤ 1000), checkClashM exK2 cl) = (true, 0, true, 0) := by rw [hcl]; exact ex_cl
 have hC1 : (clashM exK2).1.isSome = true := congrArg (fun q => q.1) hC
 have hC2 : (clashM exK2).2 = 0 := congrArg (fun q => q.2.1) hC
 have hC3 : cl.length ≤ 1000 := by have := congrArg (fun q => q.2.2.1) hC; simpa using this
 have hC4 : checkClashM exK2 cl = 0 := congrArg (fun q => q.2.2.2) hC
 refine at_start (fn := Tryz.f17) [.tmp 0] 217 H.length rfl rfl rfl rfl (by kernel_rfl) (by kernel_rfl) (by simp) (Nat.le_refl _) ?_
 refine sq ?_
 refine at_regK [] rfl ?_
 try simp (config := { maxSteps := 4000000 }) [h00, o_i, f_a, AS.expos, AS.expo, AS.setMem]
 refine sq ?_
 refine at_regK [1] rfl ?_
 try simp (config := { maxSteps := 4000000 }) [h00, o_i, f_a, exV, exR]
 refine c68.use hH ?_
 try simp (config := { maxSteps := 4000000 }) [h00, o_i, f_a, exV, exR]
 refine sq ?_
 refine at_regK [1, 2, 3] rfl ?_
 try simp (config := { maxSteps := 4000000 }) [h00, o_i, f_a, AS.expos, AS.expo, AS.setMem]
 rw [← exK_lit]
 refine (c51 exK few_ex).use hH ?_
 rw [hT2]
 try simp (config := { maxSteps := 4000000 }) [h00, o_i, f_a, AS.expos, AS.expo, AS.setMem]
 refine sq ?_
 refine at_regK [1, 2, 3, 4, 5] rfl ?_
 try simp (config := { maxSteps := 4000000 }) [h00, o_i, f_a, AS.expos, AS.expo, AS.setMem]
 rw [← exK_lit]
 refine (c18 exK few_ex 1).use hH ?_
 rw [ex_w1]
 try simp (config := { maxSteps := 4000000 }) [h00, o_i, f_a, AS.expos, AS.expo, AS.setMem]
 refine sq ?_
 refine at_regK [1, 2, 3, 4, 5, 6, 7] rfl ?_
 try simp (config := { maxSteps := 4000000 }) [h00, o_i, f_a, AS.expos, AS.expo, AS.setMem]
 rw [← exK_lit]
 refine (c18 exK few_ex 3).use hH ?_
 rw [ex_w3]
 try simp (config := { maxSteps := 4000000 }) [h00, o_i, f_a, AS.expos, AS.expo, AS.setMem]
 refine sq ?_
 refine at_regK [1, 2, 3, 4, 5, 6, 7, 8, 9] rfl ?_
 try simp (config := { maxSteps := 4000000 }) [h00, o_i, f_a, AS.expos, AS.expo, AS.setMem]
 rw [← exK_lit]
 refine (c22 exK few_ex 4).use hH ?_
 rw [ex_h]
 try simp (config := { maxSteps := 4000000 }) [h00, o_i, f_a, AS.expos, AS.expo, AS.setMem]
 refine sq ?_
 refine at_regK [1, 2, 3, 4, 5, 6, 7, 8, 9, 10, 11] rfl ?_
 try simp (config := { maxSteps := 4000000 }) [h00, o_i, f_a, AS.expos, AS.expo, AS.setMem]
 rw [← exK_lit]
 refine (c24 exK few_ex 3 6).use hH ?_
 rw [ex_b]
 try simp (config := { maxSteps := 4000000 }) [h00, o_i, f_a, AS.expos, AS.expo, AS.setMem]
 refine sq ?_
 refine at_regK [1, 2, 3, 4, 5, 6, 7, 8, 9, 10, 11, 12, 13] rfl ?_
 try simp (config := { maxSteps := 4000000 }) [h00, o_i, f_a, AS.expos, AS.expo, AS.setMem]
 rw [← exK_lit]
 refine (c26 exK few_ex 3 6).use hH ?_
 rw [ex_f]
 try simp (config := { maxSteps := 4000000 }) [h00, o_i, f_a, AS.expos, AS.expo, AS.setMem]
 refine sq ?_
 refine at_regK [1, 2, 3, 4, 5, 6, 7, 8, 9, 10, 11, 12, 13, 14, 15] rfl ?_
 try simp (config := { maxSteps := 4000000 }) [h00, o_i, f_a, AS.expos, AS.expo, AS.setMem]
 rw [← exK_lit]
 refine (c31 exK few_ex 12 2).use hH ?_
 rw [ex_t2]
 try simp (config := { maxSteps := 4000000 }) [h00, o_i, f_a, AS.expos, AS.expo, AS.setMem]
 refine sq ?_
 refine at_regK [1, 2, 3, 4, 5, 6, 7, 8, 9, 10, 11, 12, 13, 14, 15, 16, 17] rfl ?_
 try simp (config := { maxSteps := 4000000 }) [h00, o_i, f_a, AS.expos, AS.expo, AS.setMem]
 rw [← exK_lit]
 refine (c31 exK few_ex 12 3).use hH ?_
 rw [ex_t3]
 try simp (config := { maxSteps := 4000000 }) [h00, o_i, f_a, AS.expos, AS.expo, AS.setMem]
 refine sq ?_
 refine at_regK [1, 2, 3, 4, 5, 6, 7, 8, 9, 10, 11, 12, 13, 14, 15, 16, 17, 18, 19, 20] rfl ?_
 try simp (config := { maxSteps := 4000000 }) [h00, o_i, f_a, AS.expos, AS.expo, AS.setMem]
 rw [← exK_lit]
 refine (c30 exK few_ex 12).use hH ?_
 rw [ex_s]
 try simp (config := { maxSteps := 4000000 }) [h00, o_i, f_a, AS.expos, AS.expo, AS.setMem]
 refine sq ?_
 refine at_regK [1, 2, 3, 4, 5, 6, 7, 8, 9, 10, 11, 12, 13, 14, 15, 16, 17, 18, 19, 20, 21, 22] rfl ?_
 try simp (config := { maxSteps := 4000000 }) [h00, o_i, f_a, AS.expos, AS.expo, AS.setMem]
 rw [← exK_lit]
 refine (c41 exK few_ex (fun _ => by decide) 0 3).use hH ?_
 rw [ex_r]
 try simp (config := { maxSteps := 4000000 }) [h00, o_i, f_a, AS.expos, AS.expo, AS.setMem]
 refine sq ?_
 refine at_regA [1, 2, 3, 4, 5, 6, 7, 8, 9, 10, 11, 12, 13, 14, 15, 16, 17, 18, 19, 20, 21, 22] rfl ?_
 simp only [AOps, guardP]
 refine pv_sound ?_
 simp
 refine pv_sound ?_
 simp
 refine pv_sound ?_
 simp
 refine pv_sound ?_
 simp
 refine pv_sound ?_
 simp
 refine opw_appendX rfl rfl rfl rfl rfl rfl rfl (by decide) rfl rfl rfl (by decide) (by decide) rfl (by decide) ?_
 simp [AS.push]
 refine pv_sound ?_
 simp
 refine pv_sound ?_
 simp
 
 refine sq ?_
 refine at_regK [1, 2, 3, 4, 5, 6, 7, 8, 9, 10, 11, 12, 13, 14, 15, 16, 17, 18, 19, 20, 21, 22, 24] rfl ?_
 try simp (config := { maxSteps := 4000000 }) [h00, o_i, f_a, AS.expos, AS.expo, AS.setMem]
 rw [← exK2_lit]
 refine (c29 exK2 few_ex2).use hH ?_
 rw [ex_fi]
 try simp (config := { maxSteps := 4000000 }) [h00, o_i, f_a, AS.expos, AS.expo, AS.setMem]
 refine sq ?_
 refine at_regK [1, 2, 3, 4, 5, 6, 7, 8, 9, 10, 11, 12, 13, 14, 15, 16, 17, 18, 19, 20, 21, 22, 24, 25, 26, 27] rfl ?_
 try simp (config := { maxSteps := 4000000 }) [h00, o_i, f_a, AS.expos, AS.expo, AS.setMem]
 rw [← exK2_lit]
 refine (c52 exK2 few_ex2).use hH ?_
 rw [← hcl, hC1, hC2]
 try simp (config := { maxSteps := 4000000 }) [h00, o_i, f_a, AS.expos, AS.expo, AS.setMem]
 refine sq ?_
 refine sq ?_
 refine at_regK [1, 2, 4, 6, 8, 10, 12, 14, 16, 18, 19, 21, 25, 26, 150] rfl ?_
 try simp (config := { maxSteps := 4000000 }) [h00, o_i, f_a, AS.expos, AS.expo, AS.setMem, hT3]
 refine at_cond rfl rfl (fun hb150 => by simp at hb150) (fun hb150 => ?_)
 refine at_skip (by kernel_rfl) ?_
 try simp (config := { maxSteps := 4000000 }) [h00, o_i, f_a, AS.expos, AS.expo, AS.setMem]
 refine sq ?_
 refine at_regK [1, 2, 14, 16, 18, 19, 21, 25, 26, 28] rfl ?_
 try simp (config := { maxSteps := 4000000 }) [h00, o_i, f_a, AS.expos, AS.expo, AS.setMem]
 refine sq ?_
 refine at_regK [1, 2, 25, 26, 28, 29] rfl ?_
 try simp (config := { maxSteps := 4000000 }) [h00, o_i, f_a, AS.expos, AS.expo, AS.setMem]
 refine (c40 [1, 2] [1, 2] (by decide) (by decide)).use hH ?_
 try simp (config := { maxSteps := 4000000 }) [h00, o_i, f_a, AS.expos, AS.expo, AS.setMem]
 refine (c40 [1, 2, 3] [1, 2, 3] (by decide) (by decide)).use hH ?_
 try simp (config := { maxSteps := 4000000 }) [h00, o_i, f_a, AS.expos, AS.expo, AS.setMem]
 refine (c40 [22] [22] (by decide) (by decide)).use hH ?_
 try simp (config := { maxSteps := 4000000 }) [h00, o_i, f_a, AS.expos, AS.expo, AS.setMem]
 refine sq ?_
 refine at_regK [0] rfl ?_
 try simp (config := { maxSteps := 4000000 }) [h00, o_i, f_a, AS.expos, AS.expo, AS.setMem, hT3, hT4, hT5]
 rw [← exK2_lit]
 refine (c55 exK2 few_ex2 cl hC3).use hH ?_
 rw [hC4]
 try simp (config := { maxSteps := 4000000 }) [h00, o_i, f_a, AS.expos, AS.expo, AS.setMem, hT3, hT4, hT5]
 refine at_ret (by kernel_rfl) ?_
 try simp (config := { maxSteps := 4000000 }) [h00, o_i, f_a, AS.expos, AS.expo, AS.setMem]
end Go.Abs
/- Few enough. -/
set_option linter.unusedVariables false
set_option linter.unusedSimpArgs false
set_option maxRecDepth 100000
set_option maxHeartbeats 2000000
namespace Go.Abs
open Go.RowKit Go.Proofs Go.Shaft
attribute [simp] ti22 ti23 ti24 ti26 ti30 ti42 ti45 ti52 ti122 ti125 ti88 ti92 ti46
/-- At most so many, or too many. -/
def fewB (k : Kn) : Bool := (decide ((k.loads.length : Int) ≤ 6) || (decide (20 < (k.loads.length : Int)) && decide ((k.loads.length : Int) ≤ 30))) && (decide ((k.draws.length : Int) ≤ 6) || (decide (20 < (k.draws.length : Int)) && decide ((k.draws.length : Int) ≤ 30))) && (decide ((k.weighs.length : Int) ≤ 5) || (decide (20 < (k.weighs.length : Int)) && decide ((k.weighs.length : Int) ≤ 30)))
theorem fewB_few {k : Kn} (h : fewB k = true) : Few k := by
 simp only [fewB, Bool.and_eq_true, Bool.or_eq_true, decide_eq_true_eq] at h
 exact ⟨by omega, by omega, by omega⟩
theorem fewB_w {k : Kn} (h : fewB k = true) (hc : check k = 0) : k.loads.length ≤ 6 ∧ k.draws.length ≤ 6 ∧ k.weighs.length ≤ 5 := by
 simp only [fewB, Bool.and_eq_true, Bool.or_eq_true, decide_eq_true_eq] at h
 have r := right_of_check hc
 have h1 := r.nl; have h2 := r.nd; have h3 := r.nw
 omega

theorem c16 (k : Kn) : Con E 16 [eKn k] (.bool (fewB k)) := by
 intro n H hH
 have h00 := hh3 hH
 have ⟨hHs, hH', hpl⟩ := h00
 refine at_start (fn := Tryz.f16) [.tmp 2] 55 H.length rfl rfl rfl rfl (by kernel_rfl) (by kernel_rfl) (by simp) (Nat.le_refl _) ?_
 refine sq ?_
 refine at_regK [1] rfl ?_
 try simp [h00, o_i, f_a]
 refine sq ?_
 refine at_regK [2] rfl ?_
 try simp [h00, o_i, f_a]
 refine pops_split 7 rfl (fun hg1 => ?_) (fun hg1 => ?_)
 ·
  try simp [h00, o_i, f_a, hg1]
  refine pops_split 24 rfl (fun hg2 => ?_) (fun hg2 => ?_)
  ·
   try simp [h00, o_i, f_a, hg2]
   refine pops_split 42 rfl (fun hg3 => ?_) (fun hg3 => ?_)
   ·
    try simp [h00, o_i, f_a, hg3]
    refine at_ret (by kernel_rfl) ?_
    try simp [h00, o_i, f_a]
    simp [fewB, *]
   ·
    try simp [h00, o_i, f_a, hg3]
    refine pops_split 47 rfl (fun hg4 => ?_) (fun hg4 => ?_)
    ·
     try simp [h00, o_i, f_a, hg4]
     refine at_ret (by kernel_rfl) ?_
     try simp [h00, o_i, f_a]
     simp [fewB, *]
    ·
     try simp [h00, o_i, f_a, hg4]
     refine at_ret (by kernel_rfl) ?_
     try simp [h00, o_i, f_a]
     simp [fewB, *]
  ·
   try simp [h00, o_i, f_a, hg2]
   refine pops_split 29 rfl (fun hg5 => ?_) (fun hg5 => ?_)
   ·
    try simp [h00, o_i, f_a, hg5]
    refine pops_split 37 rfl (fun hg6 => ?_) (fun hg6 => ?_)
    ·
     try simp [h00, o_i, f_a, hg6]
     refine pops_split 42 rfl (fun hg7 => ?_) (fun hg7 => ?_)
     ·
      try simp [h00, o_i, f_a, hg7]
      refine at_ret (by kernel_rfl) ?_
      try simp [h00, o_i, f_a]
      simp [fewB, *]
     ·
      try simp [h00, o_i, f_a, hg7]
      refine pops_split 47 rfl (fun hg8 => ?_) (fun hg8 => ?_)
      ·
       try simp [h00, o_i, f_a, hg8]
       refine at_ret (by kernel_rfl) ?_
       try simp [h00, o_i, f_a]
       simp [fewB, *]
      ·
       try simp [h00, o_i, f_a, hg8]
       refine at_ret (by kernel_rfl) ?_
       try simp [h00, o_i, f_a]
       simp [fewB, *]
    ·
     try simp [h00, o_i, f_a, hg6]
     refine at_ret (by kernel_rfl) ?_
     try simp [h00, o_i, f_a]
     simp [fewB, *]
   ·
    try simp [h00, o_i, f_a, hg5]
    refine at_ret (by kernel_rfl) ?_
    try simp [h00, o_i, f_a]
    simp [fewB, *]
 ·
  try simp [h00, o_i, f_a, hg1]
  refine pops_split 12 rfl (fun hg9 => ?_) (fun hg9 => ?_)
  ·
   try simp [h00, o_i, f_a, hg9]
   refine pops_split 19 rfl (fun hg10 => ?_) (fun hg10 => ?_)
   ·
    try simp [h00, o_i, f_a, hg10]
    refine pops_split 24 rfl (fun hg11 => ?_) (fun hg11 => ?_)
    ·
     try simp [h00, o_i, f_a, hg11]
     refine pops_split 42 rfl (fun hg12 => ?_) (fun hg12 => ?_)
     ·
      try simp [h00, o_i, f_a, hg12]
      refine at_ret (by kernel_rfl) ?_
      try simp [h00, o_i, f_a]
      simp [fewB, *]
     ·
      try simp [h00, o_i, f_a, hg12]
      refine pops_split 47 rfl (fun hg13 => ?_) (fun hg13 => ?_)
      ·
       try simp [h00, o_i, f_a, hg13]
       refine at_ret (by kernel_rfl) ?_
       try simp [h00, o_i, f_a]
       simp [fewB, *]
      ·
       try simp [h00, o_i, f_a, hg13]
       refine at_ret (by kernel_rfl) ?_
       try simp [h00, o_i, f_a]
       simp [fewB, *]
    ·
     try simp [h00, o_i, f_a, hg11]
     refine pops_split 29 rfl (fun hg14 => ?_) (fun hg14 => ?_)
     ·
      try simp [h00, o_i, f_a, hg14]
      refine pops_split 37 rfl (fun hg15 => ?_) (fun hg15 => ?_)
      ·
       try simp [h00, o_i, f_a, hg15]
       refine pops_split 42 rfl (fun hg16 => ?_) (fun hg16 => ?_)
       ·
        try simp [h00, o_i, f_a, hg16]
        refine at_ret (by kernel_rfl) ?_
        try simp [h00, o_i, f_a]
        simp [fewB, *]
       ·
        try simp [h00, o_i, f_a, hg16]
        refine pops_split 47 rfl (fun hg17 => ?_) (fun hg17 => ?_)
        ·
         try simp [h00, o_i, f_a, hg17]
         refine at_ret (by kernel_rfl) ?_
         try simp [h00, o_i, f_a]
         simp [fewB, *]
        ·
         try simp [h00, o_i, f_a, hg17]
         refine at_ret (by kernel_rfl) ?_
         try simp [h00, o_i, f_a]
         simp [fewB, *]
      ·
       try simp [h00, o_i, f_a, hg15]
       refine at_ret (by kernel_rfl) ?_
       try simp [h00, o_i, f_a]
       simp [fewB, *]
     ·
      try simp [h00, o_i, f_a, hg14]
      refine at_ret (by kernel_rfl) ?_
      try simp [h00, o_i, f_a]
      simp [fewB, *]
   ·
    try simp [h00, o_i, f_a, hg10]
    refine at_ret (by kernel_rfl) ?_
    try simp [h00, o_i, f_a]
    simp [fewB, *]
  ·
   try simp [h00, o_i, f_a, hg9]
   refine at_ret (by kernel_rfl) ?_
   try simp [h00, o_i, f_a]
   simp [fewB, *]
end Go.Abs
/- Law: triangles. -/
set_option linter.unusedVariables false
set_option linter.unusedSimpArgs false
set_option maxRecDepth 100000
set_option maxHeartbeats 2000000
namespace Go.Abs
open Go.RowKit Go.Proofs Go.Shaft
attribute [simp] ti22 ti23 ti24 ti26 ti30 ti42 ti45 ti52 ti122 ti125 ti88 ti92 ti46
attribute [simp] ti134 ti131 ti48 ti85 ti143 ti189 ti190 ti192 ti204 ti208 ti218 ti9 ti5 ti27 ti28 ti141 ti30 ti45
theorem tmod_in {a n : Int} (a0 : 0 ≤ a) (n0 : 0 < n) : ∃ u, a.tmod n = u ∧ 0 ≤ u ∧ u < n := by
 refine ⟨_, rfl, ?_, ?_⟩
 ·rw [Int.tmod_eq_emod_of_nonneg a0]; exact Int.emod_nonneg _ (by omega)
 ·rw [Int.tmod_eq_emod_of_nonneg a0]; exact Int.emod_lt_of_pos _ n0

end Go.Abs
