/- The program's TakeAll returns what the reference's returns, for all arguments. No conditions. -/
import Derived.Test.YtphjpngpmhammaaTAq
set_option linter.unusedSectionVars false
set_option linter.unusedVariables false
set_option linter.unusedSimpArgs false
namespace Go.Proofs.Ytphjpngpmhammaa
open Go Go.Ab Go.Proofs Go.Deep Go.ChangeShapes Go.WideShapes Go.ChangeAt Go.RowKit
theorem own1 : ownKnob Try.prog.godebug = none := by kernel_rfl
theorem laid1 : laidOutB Try.prog = true := by kernel_rfl
set_option maxRecDepth 100000 in
theorem fnExactTakeAll_lifted (os : Os) (started : os.Started) (H : Type) (enc : TypeId × Value → H) :
    ReturnsInHanded {} Try.checked os 14 .any (Rows.fnExactTakeAllSpec.pre6 enc Try.prog Try.f14 Rows.fnExactTakeAllRow.domain false) (Rows.fnExactTakeAllSpec.post enc Try.prog Try.f14 false true false false) := by
  refine returnsInHanded_of_change (C := Try.checked) own1 started (by kernel_rfl) Try.func14
    (ChangeSpec.witness6 (enc := enc) (C := Try.checked) false ⟨#[], #[.agg #[.slice none 0 0, .slice none 0 0], .int .i64 0, .slice none 0 0], []⟩ 8 (by kernel_rfl) (by kernel_rfl) (by kernel_rfl) (by kernel_rfl)) ?_
  intro W base args ds gs before hval0 hW hcnd _
  have hval : ∀ (j : Nat) t v, Try.f14.params[j]? = some t → args[j]? = some v → Value.okWide Try.prog W .any base t v := hval0
  have hW' := hW
  obtain ⟨p, q, hA0, hV, rfl, hfz, hnd⟩ := hW
  have hA : DataW.TrodAll enc Try.prog W 0 (fun _ => true) true Try.f14.params.toList args.toList ds p := hA0
  rw [Try.params14] at hA hval
  obtain ⟨v0, vs0, d0, ds0, p0, q0, hargs0, rfl, rfl, h0, r0⟩ := trodAll_cons hA
  obtain ⟨v1, vs1, d1, ds1, p1, q1, hargs1, rfl, rfl, h1, r1⟩ := trodAll_cons r0
  obtain ⟨v2, vs2, d2, ds2, p2, q2, hargs2, rfl, rfl, h2, r2⟩ := trodAll_cons r1
  obtain ⟨hn, rfl, rfl⟩ := trodAll_nil r2
  subst hn
  subst hargs2
  subst hargs1
  obtain rfl : args = #[v0, v1, v2] := by cases args; simp_all
  obtain ⟨us0, rfl⟩ : ∃ us, v0 = .agg us := by
    have := hval 0 25 v0 rfl rfl
    simp only [Value.okWide, Try.underlying25] at this
    obtain ⟨us, rfl, _⟩ := this
    exact ⟨us, rfl⟩
  obtain ⟨a0, hr0⟩ := arg_struct rdT25 h0
  have hf0 : bwStore a0 := Store_lens a0 (Rep.lens _ hr0)
  obtain ⟨a1, hr1⟩ := arg_plain (rd_int (k := .i64) Try.underlying2) (by
    have := hval 1 2 v1 rfl rfl
    rintro us rfl
    simp [Value.okWide, Try.underlying2, Cell.okWide, Cell.ok] at this) h1
  obtain ⟨a2, hr2⟩ := arg_plain rdT23 (by
    have := hval 2 23 v2 rfl rfl
    rintro us rfl
    simp [Value.okWide, Try.underlying23, Cell.okWide, Cell.ok] at this) h2
  have hf2 : a2.length < 9223372036854775808 := Nat.lt_succ_of_le (lens_encL (Rep.lens _ hr2)).1
  have he2 : ∀ v ∈ a2, bwEntry v := fun v hv => Entry_lens v ((lens_encL (Rep.lens _ hr2)).2 v hv)
  have hgs : gs = [] := by
    cases gs with
    | nil => rfl
    | cons _ _ => exact hV.elim
  subst hgs
  have hden := laws_FnExactTakeAll_den a0 a1 a2
  rw [law_TakeAll a0 a1 a2 hf0 hf2 he2] at hden
  exact law_post (tb := 4) laid1 rfl Try.underlying4 rfl (by kernel_rfl) (fun _ _ => ⟨rfl, rfl, rfl⟩) hW' True.intro hden (by simp only [RepL]; exact ⟨.agg us0, [v1, v2], [], [], rfl, rfl, hr0, v1, [v2], [], [], rfl, rfl, hr1, v2, [], [], [], rfl, rfl, hr2, rfl, rfl⟩)
theorem fnExactTakeAll_holds : Rows.FnExactTakeAllSaid :=
  OpenClaim.holds_of_wide 14 Try.f14 rfl rfl rfl rfl rfl rfl rfl ⟨rfl, rfl, rfl, rfl, rfl⟩ rfl rfl rfl rfl rfl (by kernel_rfl) Try.func14 (by kernel_rfl)
    (of_decide_eq_true (by kernel_rfl)) (by unfold Func.isWrapper; first | (rw [if_pos (by decide +kernel)]; kernel_rfl) | (rw [if_neg (by decide +kernel)]; exact ⟨rfl, rfl⟩))
    (fun os started H enc _ => fnExactTakeAll_lifted os started H enc)
end Go.Proofs.Ytphjpngpmhammaa
