/- ShaftFinds returns true for every kiln and every list of indices, and leaves its arguments as they were. No condition. -/
import Derived.Test.YtaapndcljpcelaaGreatS10
import Derived.Test.YtaapndcljpcelaaGreatRows
set_option linter.unusedVariables false
set_option linter.unusedSimpArgs false
set_option maxRecDepth 100000
namespace Go.Proofs.YtaapndcljpcelaaGreat
open Go.ChangeShapes Go.WideShapes Go.ChangeAt Go.RowKit Go.Abs
theorem finds_own : ownKnob Tryz.prog.godebug = none := by kernel_rfl
theorem finds_lifted (os : Os) (started : os.Started) (H : Type) (enc : TypeId × Value → H) :
    ReturnsInHanded {} Tryz.checked os 10 .any (Rows.shaftFindsSpec.pre6 enc Tryz.prog Tryz.f10 Rows.shaftFindsRow.domain false) (Rows.shaftFindsSpec.post enc Tryz.prog Tryz.f10 false true false false) := by
  refine returnsInHanded_of_change (C := Tryz.checked) finds_own started (by kernel_rfl) Tryz.func10
    (ChangeSpec.witness6 (enc := enc) (C := Tryz.checked) false ⟨#[], #[.agg #[.int .i64 0, .int .i64 0, .slice none 0 0, .slice none 0 0, .slice none 0 0], .slice none 0 0], []⟩ 8 (by kernel_rfl) (by kernel_rfl) (by kernel_rfl) (by kernel_rfl)) ?_
  intro W base args ds gs before hval0 hW hcnd _
  have hval : ∀ (j : Nat) t v, Tryz.f10.params[j]? = some t → args[j]? = some v → Value.okWide Tryz.prog W .any base t v := hval0
  have hW' := hW
  obtain ⟨p, q, hA0, hV, rfl, hfz, hnd⟩ := hW
  have hA : DataW.TrodAll enc Tryz.prog W 0 (fun _ => true) true Tryz.f10.params.toList args.toList ds p := hA0
  rw [Tryz.params10] at hA hval
  obtain ⟨v0, vs0, d0, ds0, p0, q0, hargs, rfl, rfl, h0, r0⟩ := trodAll_cons hA
  obtain ⟨v1, vs1, d1, ds1, p1, q1, rfl, rfl, rfl, h1, r1⟩ := trodAll_cons r0
  obtain ⟨rfl, rfl, rfl⟩ := trodAll_nil r1
  obtain rfl : args = #[v0, v1] := by cases args; simp_all
  obtain ⟨rfl, rfl⟩ := trodVars_none hV
  obtain ⟨_, ⟨x0, rfl⟩, hv0⟩ := arg_of (rd26 W) h0 (fun u hu cs _ hc => val_agg Tryz.underlying26 (hval 0 26 v0 rfl rfl) (by obtain ⟨x, rfl⟩ := hu; rfl) hc)
  obtain ⟨_, ⟨x1, rfl⟩, hv1⟩ := arg_of (rd46 W) h1 (fun u hu cs _ hc => val_slice Tryz.underlying46 (hval 1 46 v1 rfl rfl) (by obtain ⟨x, rfl⟩ := hu; rfl) hc)
  refine (bridge (c10 x0 x1) (ms := [v0, v1]) rfl ?_).mono fun e W' ⟨he, hg⟩ => ?_
  · intro i v m hv hm
    match i, hv, hm with
    | 0, hv, hm => cases hv; cases hm; exact VR_of1 hv0 rfl
    | 1, hv, hm => cases hv; cases hm; exact VR_of1 hv1 rfl
  · subst he
    exact ⟨_, rfl, law_post hW' rfl rfl (by rw [Tryz.params10]; intro t ht; simp only [List.mem_cons, List.not_mem_nil, or_false] at ht; rcases ht with rfl | rfl <;> exact ⟨by kernel_rfl, of_decide_eq_true (by kernel_rfl)⟩) rfl hg⟩
theorem finds_holds : Rows.ShaftFindsSaid :=
  OpenClaim.holds_of_wide 10 Tryz.f10 rfl rfl rfl rfl rfl rfl rfl ⟨rfl, rfl, rfl, rfl, rfl⟩ rfl rfl rfl rfl rfl (by kernel_rfl) Tryz.func10 (by kernel_rfl)
    (of_decide_eq_true (by kernel_rfl)) (by unfold Func.isWrapper; first | (rw [if_pos (by decide +kernel)]; kernel_rfl) | (rw [if_neg (by decide +kernel)]; exact ⟨rfl, rfl⟩))
    (fun os started H enc _ => finds_lifted os started H enc)
end Go.Proofs.YtaapndcljpcelaaGreat
