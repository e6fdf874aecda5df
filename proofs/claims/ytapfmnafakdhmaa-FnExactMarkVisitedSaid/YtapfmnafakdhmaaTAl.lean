/- The program's MarkVisited returns what the reference's returns, for all arguments. No conditions. -/
import Derived.Test.YtapfmnafakdhmaaTAk
set_option linter.unusedVariables false
set_option linter.unusedSimpArgs false
namespace Go.Proofs.Ytapfmnafakdhmaa
open Go Go.Ab Go.Proofs Go.Deep Go.ChangeShapes Go.WideShapes Go.ChangeAt Go.RowKit
theorem own1 : ownKnob Try.prog.godebug = none := by kernel_rfl
theorem laid1 : laidOutB Try.prog = true := by kernel_rfl
set_option maxRecDepth 100000 in
theorem int_arg {W : World} {base : Nat} {v : Value} (hval : Value.okWide Try.prog W .any base 2 v) : ∃ n : Int, Rep W (fun _ => False) (.int .i64 n) noMap v [] := by
  obtain ⟨n, rfl⟩ : ∃ n, v = .int .i64 n := by
    cases v <;> simp_all [Value.okWide, Try.underlying2, Cell.okWide, Cell.ok]
  exact ⟨n, by simp [Rep]⟩
set_option maxRecDepth 100000 in
theorem fnExactMarkVisited_lifted (os : Os) (started : os.Started) (H : Type) (enc : TypeId × Value → H) :
    ReturnsInHanded {} Try.checked os 4 .any (Rows.fnExactMarkVisitedSpec.pre6 enc Try.prog Try.f4 Rows.fnExactMarkVisitedRow.domain false) (Rows.fnExactMarkVisitedSpec.post enc Try.prog Try.f4 false true false false) := by
  refine returnsInHanded_of_change (C := Try.checked) own1 started (by kernel_rfl) Try.func4
    (ChangeSpec.witness6 (enc := enc) (C := Try.checked) false ⟨#[], #[.slice none 0 0, .int .i64 0, .int .i64 0], []⟩ 8 (by kernel_rfl) (by kernel_rfl) (by kernel_rfl) (by kernel_rfl)) ?_
  intro W base args ds gs before hval0 hW hcnd _
  have hval : ∀ (j : Nat) t v, Try.f4.params[j]? = some t → args[j]? = some v → Value.okWide Try.prog W .any base t v := hval0
  have hW' := hW
  obtain ⟨p, q, hA0, hV, rfl, hfz, hnd⟩ := hW
  have hA : DataW.TrodAll enc Try.prog W 0 (fun _ => true) true Try.f4.params.toList args.toList ds p := hA0
  rw [Try.params4] at hA hval
  obtain ⟨v0, vs0, d0, ds0, p0, q0, hargs0, rfl, rfl, h0, r0⟩ := trodAll_cons hA
  obtain ⟨v1, vs1, d1, ds1, p1, q1, hargs1, rfl, rfl, h1, r1⟩ := trodAll_cons r0
  obtain ⟨v2, vs2, d2, ds2, p2, q2, hargs2, rfl, rfl, h2, r2⟩ := trodAll_cons r1
  obtain ⟨hn, rfl, rfl⟩ := trodAll_nil r2
  subst hn
  subst hargs2
  subst hargs1
  obtain rfl : args = #[v0, v1, v2] := by cases args; simp_all
  obtain ⟨a0, ha0, hr0⟩ := Visit_list (hval 0 29 v0 rfl rfl) h0
  obtain ⟨a1, hr1⟩ := int_arg (hval 1 2 v1 rfl rfl)
  obtain ⟨a2, hr2⟩ := int_arg (hval 2 2 v2 rfl rfl)
  have hgs : gs = [] := by
    cases gs with
    | nil => rfl
    | cons _ _ => exact hV.elim
  subst hgs
  have hden := laws_FnExactMarkVisited_den a0 a1 a2 ha0
  rw [law_MarkVisited a0 a1 a2 ha0] at hden
  exact law_post (tb := 4) laid1 rfl Try.underlying4 rfl (by kernel_rfl) (fun _ _ => ⟨rfl, rfl, rfl⟩) hW' hden (by simp only [RepL]; exact ⟨v0, [v1, v2], [], [], rfl, rfl, hr0, v1, [v2], [], [], rfl, rfl, hr1, v2, [], [], [], rfl, rfl, hr2, rfl, rfl⟩)

theorem fnExactMarkVisited_holds : Rows.FnExactMarkVisitedSaid :=
  OpenClaim.holds_of_wide 4 Try.f4 rfl rfl rfl rfl rfl rfl rfl ⟨rfl, rfl, rfl, rfl, rfl⟩ rfl rfl rfl rfl rfl (by kernel_rfl) Try.func4 (by kernel_rfl)
    (of_decide_eq_true (by kernel_rfl)) (by unfold Func.isWrapper; first | (rw [if_pos (by decide +kernel)]; kernel_rfl) | (rw [if_neg (by decide +kernel)]; exact ⟨rfl, rfl⟩))
    (fun os started H enc _ => fnExactMarkVisited_lifted os started H enc)
end Go.Proofs.Ytapfmnafakdhmaa
