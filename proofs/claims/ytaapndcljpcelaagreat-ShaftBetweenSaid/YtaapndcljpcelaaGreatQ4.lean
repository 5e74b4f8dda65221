/- ShaftBetween returns true for every kiln, a load and a number, and leaves its arguments as they were. No condition. -/
import Derived.Test.YtaapndcljpcelaaGreatS4
import Derived.Test.YtaapndcljpcelaaGreatRows
set_option linter.unusedVariables false
set_option linter.unusedSimpArgs false
set_option maxRecDepth 100000
namespace Go.Proofs.YtaapndcljpcelaaGreat
open Go.ChangeShapes Go.WideShapes Go.ChangeAt Go.RowKit Go.Abs
theorem bridge0 {f : FuncId} {us : List AV} {W : World} {ms : List Value} (hc : ACall E f us 0 [] (Is (.bool true) [] [])) (hl : us.length = ms.length) (hv : ∀ (i : Nat) (v : AV) (m : Value), us[i]? = some v → ms[i]? = some m → VR (argC W) v m) :
    Calls Tryz.prog f ms.toArray W fun e W' => e = .returned (.bool true) ∧ Below W.heap.size W W' := by
  refine (hc.2 (argC W) ms (argC_mem W) hl hv).mono ?_
  rintro e W' ⟨m, r, R, H', d, rfl, rfl, ⟨rfl, rfl, rfl⟩, hr, hM, hE, _, _⟩
  refine ⟨?_, hE.os, hE.tape, hE.output, hE.size, fun k hk => hE.same k hk (fun j h => ?_)⟩
  · obtain ⟨cs, h1, rfl⟩ := hr
    rw [CR] at h1
    · rw [h1]; rfl
  · obtain ⟨o, a, cap, h1, _⟩ := h
    simp [mem] at h1
theorem betw_own : ownKnob Tryz.prog.godebug = none := by kernel_rfl
theorem betw_u8 {a : Int} (h : (Lit.int .u8 a).wf = true) : 0 ≤ a ∧ a ≤ 255 := by simpa [Lit.wf, IntKind.min, IntKind.max, IntKind.signed, IntKind.bits] using h
theorem betw_u32 {a : Int} (h : (Lit.int .u32 a).wf = true) : 0 ≤ a ∧ a ≤ 4294967295 := by simpa [Lit.wf, IntKind.min, IntKind.max, IntKind.signed, IntKind.bits] using h
theorem betw_lifted (os : Os) (started : os.Started) (H : Type) (enc : TypeId × Value → H) :
    ReturnsInHanded {} Tryz.checked os 4 .any (Rows.shaftBetweenSpec.pre6 enc Tryz.prog Tryz.f4 Rows.shaftBetweenRow.domain false) (Rows.shaftBetweenSpec.post enc Tryz.prog Tryz.f4 false true false false) := by
  refine returnsInHanded_of_change (C := Tryz.checked) betw_own started (by kernel_rfl) Tryz.func4
    (ChangeSpec.witness6 (enc := enc) (C := Tryz.checked) false ⟨#[], #[.agg #[.int .i64 0, .int .i64 0, .slice none 0 0, .slice none 0 0, .slice none 0 0], .int .u8 0, .int .u32 0], []⟩ 8 (by kernel_rfl) (by kernel_rfl) (by kernel_rfl) (by kernel_rfl)) ?_
  intro W base args ds gs before hval0 hW hcnd _
  have hval : ∀ (j : Nat) t v, Tryz.f4.params[j]? = some t → args[j]? = some v → Value.okWide Tryz.prog W .any base t v := hval0
  have hW' := hW
  obtain ⟨p, q, hA0, hV, rfl, hfz, hnd⟩ := hW
  have hA : DataW.TrodAll enc Tryz.prog W 0 (fun _ => true) true Tryz.f4.params.toList args.toList ds p := hA0
  rw [Tryz.params4] at hA hval
  obtain ⟨v0, vs0, d0, ds0, p0, q0, hargs, rfl, rfl, h0, r0⟩ := trodAll_cons hA
  obtain ⟨v1, vs1, d1, ds1, p1, q1, rfl, rfl, rfl, h1, r1⟩ := trodAll_cons r0
  obtain ⟨v2, vs2, d2, ds2, p2, q2, rfl, rfl, rfl, h2, r2⟩ := trodAll_cons r1
  obtain ⟨rfl, rfl, rfl⟩ := trodAll_nil r2
  obtain rfl : args = #[v0, v1, v2] := by cases args; simp_all
  obtain ⟨rfl, rfl⟩ := trodVars_none hV
  obtain ⟨_, ⟨x0, rfl⟩, hv0⟩ := arg_of (rd26 W) h0 (fun u hu cs _ hc => val_agg Tryz.underlying26 (hval 0 26 v0 rfl rfl) (by obtain ⟨x, rfl⟩ := hu; rfl) hc)
  obtain ⟨x1, rfl, rfl, rfl, w1⟩ := open_int Tryz.underlying5 (hval 1 5 v1 rfl rfl) h1
  have b1 := betw_u8 w1
  obtain ⟨x2, rfl, rfl, rfl, w2⟩ := open_int Tryz.underlying40 (hval 2 40 v2 rfl rfl) h2
  have b2 := betw_u32 w2
  refine (bridge0 (c4 x0 x1 x2 b1.1 b1.2 b2.1 b2.2 0) (ms := [v0, .int .u8 x1, .int .u32 x2]) rfl ?_).mono fun e W' ⟨he, hg⟩ => ?_
  · intro i v m hv hm
    match i, hv, hm with
    | 0, hv, hm => cases hv; cases hm; exact VR_of1 hv0 rfl
    | 1, hv, hm => cases hv; cases hm; exact VR_int_mk _ _ _
    | 2, hv, hm => cases hv; cases hm; exact VR_int_mk _ _ _
  · subst he
    exact ⟨_, rfl, law_post hW' rfl rfl (by rw [Tryz.params4]; intro t ht; simp only [List.mem_cons, List.not_mem_nil, or_false] at ht; rcases ht with rfl | rfl | rfl <;> exact ⟨by kernel_rfl, of_decide_eq_true (by kernel_rfl)⟩) rfl hg⟩
theorem betw_holds : Rows.ShaftBetweenSaid :=
  OpenClaim.holds_of_wide 4 Tryz.f4 rfl rfl rfl rfl rfl rfl rfl ⟨rfl, rfl, rfl, rfl, rfl⟩ rfl rfl rfl rfl rfl (by kernel_rfl) Tryz.func4 (by kernel_rfl)
    (of_decide_eq_true (by kernel_rfl)) (by unfold Func.isWrapper; first | (rw [if_pos (by decide +kernel)]; kernel_rfl) | (rw [if_neg (by decide +kernel)]; exact ⟨rfl, rfl⟩))
    (fun os started H enc _ => betw_lifted os started H enc)
end Go.Proofs.YtaapndcljpcelaaGreat

