/- The program's AddSpare returns what the reference's returns, for all arguments. No conditions. -/
import Derived.Test.YtphjpngpmhammaaTAp
set_option linter.unusedSectionVars false
set_option linter.unusedVariables false
set_option linter.unusedSimpArgs false
namespace Go.Proofs.Ytphjpngpmhammaa
open Go Go.Ab Go.Proofs Go.Deep Go.ChangeShapes Go.WideShapes Go.ChangeAt Go.RowKit
theorem own1 : ownKnob Try.prog.godebug = none := by kernel_rfl
theorem laid1 : laidOutB Try.prog = true := by kernel_rfl
set_option maxRecDepth 100000 in
theorem fnExactAddSpare_lifted (os : Os) (started : os.Started) (H : Type) (enc : TypeId × Value → H) :
    ReturnsInHanded {} Try.checked os 12 .any (Rows.fnExactAddSpareSpec.pre6 enc Try.prog Try.f12 Rows.fnExactAddSpareRow.domain false) (Rows.fnExactAddSpareSpec.post enc Try.prog Try.f12 false true false false) := by
  refine returnsInHanded_of_change (C := Try.checked) own1 started (by kernel_rfl) Try.func12
    (ChangeSpec.witness6 (enc := enc) (C := Try.checked) false ⟨#[], #[.agg #[.slice none 0 0, .slice none 0 0], .agg #[.string ⟨#[]⟩, .int .i64 0, .int .i64 0]], []⟩ 8 (by kernel_rfl) (by kernel_rfl) (by kernel_rfl) (by kernel_rfl)) ?_
  intro W base args ds gs before hval0 hW hcnd _
  have hval : ∀ (j : Nat) t v, Try.f12.params[j]? = some t → args[j]? = some v → Value.okWide Try.prog W .any base t v := hval0
  have hW' := hW
  obtain ⟨p, q, hA0, hV, rfl, hfz, hnd⟩ := hW
  have hA : DataW.TrodAll enc Try.prog W 0 (fun _ => true) true Try.f12.params.toList args.toList ds p := hA0
  rw [Try.params12] at hA hval
  obtain ⟨v0, vs0, d0, ds0, p0, q0, hargs0, rfl, rfl, h0, r0⟩ := trodAll_cons hA
  obtain ⟨v1, vs1, d1, ds1, p1, q1, hargs1, rfl, rfl, h1, r1⟩ := trodAll_cons r0
  obtain ⟨hn, rfl, rfl⟩ := trodAll_nil r1
  subst hn
  subst hargs1
  obtain rfl : args = #[v0, v1] := by cases args; simp_all
  obtain ⟨us0, rfl⟩ : ∃ us, v0 = .agg us := by
    have := hval 0 25 v0 rfl rfl
    simp only [Value.okWide, Try.underlying25] at this
    obtain ⟨us, rfl, _⟩ := this
    exact ⟨us, rfl⟩
  obtain ⟨a0, hr0⟩ := arg_struct rdT25 h0
  have hf0 : bwStore a0 := Store_lens a0 (Rep.lens _ hr0)
  obtain ⟨us1, rfl⟩ : ∃ us, v1 = .agg us := by
    have := hval 1 67 v1 rfl rfl
    simp only [Value.okWide, Try.underlying67] at this
    obtain ⟨us, rfl, _⟩ := this
    exact ⟨us, rfl⟩
  obtain ⟨a1, hr1⟩ := arg_struct rdT67 h1
  have hf1 : bwSpare a1 := Spare_lens a1 (Rep.lens _ hr1)
  have hgs : gs = [] := by
    cases gs with
    | nil => rfl
    | cons _ _ => exact hV.elim
  subst hgs
  have hden := laws_FnExactAddSpare_den a0 a1
  rw [law_AddSpare a0 a1 hf0 hf1] at hden
  exact law_post (tb := 4) laid1 rfl Try.underlying4 rfl (by kernel_rfl) (fun _ _ => ⟨rfl, rfl, rfl⟩) hW' True.intro hden (by simp only [RepL]; exact ⟨.agg us0, [.agg us1], [], [], rfl, rfl, hr0, .agg us1, [], [], [], rfl, rfl, hr1, rfl, rfl⟩)
theorem fnExactAddSpare_holds : Rows.FnExactAddSpareSaid :=
  OpenClaim.holds_of_wide 12 Try.f12 rfl rfl rfl rfl rfl rfl rfl ⟨rfl, rfl, rfl, rfl, rfl⟩ rfl rfl rfl rfl rfl (by kernel_rfl) Try.func12 (by kernel_rfl)
    (of_decide_eq_true (by kernel_rfl)) (by unfold Func.isWrapper; first | (rw [if_pos (by decide +kernel)]; kernel_rfl) | (rw [if_neg (by decide +kernel)]; exact ⟨rfl, rfl⟩))
    (fun os started H enc _ => fnExactAddSpare_lifted os started H enc)
end Go.Proofs.Ytphjpngpmhammaa
