/- The program's MergeItems returns what the reference's returns, for all arguments. No conditions. -/
import Derived.Test.YtphjpngpmhammaaTAp
set_option linter.unusedSectionVars false
set_option linter.unusedVariables false
set_option linter.unusedSimpArgs false
namespace Go.Proofs.Ytphjpngpmhammaa
open Go Go.Ab Go.Proofs Go.Deep Go.ChangeShapes Go.WideShapes Go.ChangeAt Go.RowKit
theorem own1 : ownKnob Try.prog.godebug = none := by kernel_rfl
theorem laid1 : laidOutB Try.prog = true := by kernel_rfl
set_option maxRecDepth 100000 in
theorem fnExactMergeItems_lifted (os : Os) (started : os.Started) (H : Type) (enc : TypeId × Value → H) :
    ReturnsInHanded {} Try.checked os 4 .any (Rows.fnExactMergeItemsSpec.pre6 enc Try.prog Try.f4 Rows.fnExactMergeItemsRow.domain false) (Rows.fnExactMergeItemsSpec.post enc Try.prog Try.f4 false true false false) := by
  refine returnsInHanded_of_change (C := Try.checked) own1 started (by kernel_rfl) Try.func4
    (ChangeSpec.witness6 (enc := enc) (C := Try.checked) false ⟨#[], #[.slice none 0 0, .slice none 0 0], []⟩ 8 (by kernel_rfl) (by kernel_rfl) (by kernel_rfl) (by kernel_rfl)) ?_
  intro W base args ds gs before hval0 hW hcnd _
  have hval : ∀ (j : Nat) t v, Try.f4.params[j]? = some t → args[j]? = some v → Value.okWide Try.prog W .any base t v := hval0
  have hW' := hW
  obtain ⟨p, q, hA0, hV, rfl, hfz, hnd⟩ := hW
  have hA : DataW.TrodAll enc Try.prog W 0 (fun _ => true) true Try.f4.params.toList args.toList ds p := hA0
  rw [Try.params4] at hA hval
  obtain ⟨v0, vs0, d0, ds0, p0, q0, hargs0, rfl, rfl, h0, r0⟩ := trodAll_cons hA
  obtain ⟨v1, vs1, d1, ds1, p1, q1, hargs1, rfl, rfl, h1, r1⟩ := trodAll_cons r0
  obtain ⟨hn, rfl, rfl⟩ := trodAll_nil r1
  subst hn
  subst hargs1
  obtain rfl : args = #[v0, v1] := by cases args; simp_all
  obtain ⟨a0, hr0⟩ := arg_plain rdT35 (by
    have := hval 0 35 v0 rfl rfl
    rintro us rfl
    simp [Value.okWide, Try.underlying35, Cell.okWide, Cell.ok] at this) h0
  have hf0 : a0.length < 9223372036854775808 := Nat.lt_succ_of_le (lens_encL (Rep.lens _ hr0)).1
  have he0 : ∀ v ∈ a0, bwItem v := fun v hv => Item_lens v ((lens_encL (Rep.lens _ hr0)).2 v hv)
  obtain ⟨a1, hr1⟩ := arg_plain rdT35 (by
    have := hval 1 35 v1 rfl rfl
    rintro us rfl
    simp [Value.okWide, Try.underlying35, Cell.okWide, Cell.ok] at this) h1
  have hf1 : a1.length < 9223372036854775808 := Nat.lt_succ_of_le (lens_encL (Rep.lens _ hr1)).1
  have he1 : ∀ v ∈ a1, bwItem v := fun v hv => Item_lens v ((lens_encL (Rep.lens _ hr1)).2 v hv)
  have hgs : gs = [] := by
    cases gs with
    | nil => rfl
    | cons _ _ => exact hV.elim
  subst hgs
  have hden := laws_FnExactMergeItems_den a0 a1
  rw [law_MergeItems a0 a1 hf0 he0 hf1 he1] at hden
  exact law_post (tb := 4) laid1 rfl Try.underlying4 rfl (by kernel_rfl) (fun _ _ => ⟨rfl, rfl, rfl⟩) hW' True.intro hden (by simp only [RepL]; exact ⟨v0, [v1], [], [], rfl, rfl, hr0, v1, [], [], [], rfl, rfl, hr1, rfl, rfl⟩)

theorem fnExactMergeItems_holds : Rows.FnExactMergeItemsSaid :=
  OpenClaim.holds_of_wide 4 Try.f4 rfl rfl rfl rfl rfl rfl rfl ⟨rfl, rfl, rfl, rfl, rfl⟩ rfl rfl rfl rfl rfl (by kernel_rfl) Try.func4 (by kernel_rfl)
    (of_decide_eq_true (by kernel_rfl)) (by unfold Func.isWrapper; first | (rw [if_pos (by decide +kernel)]; kernel_rfl) | (rw [if_neg (by decide +kernel)]; exact ⟨rfl, rfl⟩))
    (fun os started H enc _ => fnExactMergeItems_lifted os started H enc)
end Go.Proofs.Ytphjpngpmhammaa
