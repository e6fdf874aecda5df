/- The program's RepairFault returns what the reference's returns, for all arguments. No conditions. -/
import Derived.Test.YtapfmnafakdhmaaTAl
set_option linter.unusedVariables false
set_option linter.unusedSimpArgs false
namespace Go.Proofs.Ytapfmnafakdhmaa
open Go Go.Ab Go.Proofs Go.Deep Go.ChangeShapes Go.WideShapes Go.ChangeAt Go.RowKit
theorem own1 : ownKnob Try.prog.godebug = none := by kernel_rfl
theorem laid1 : laidOutB Try.prog = true := by kernel_rfl
set_option maxRecDepth 100000 in
theorem int_arg {W : World} {base : Nat} {v : Value} (hval : Value.okWide Try.prog W .any base 2 v) : ∃ n : Int, Rep W (fun _ => False) (.int .i64 n) noMap v [] := by
  obtain ⟨n, rfl⟩ : ∃ n, v = .int .i64 n := by
    cases v <;> simp_all [Value.okWide, Try.underlying2, Cell.okWide, Cell.ok]
  exact ⟨n, by simp [Rep]⟩
set_option maxRecDepth 100000 in
theorem fnExactRepairFault_lifted (os : Os) (started : os.Started) (H : Type) (enc : TypeId × Value → H) :
    ReturnsInHanded {} Try.checked os 8 .any (Rows.fnExactRepairFaultSpec.pre6 enc Try.prog Try.f8 Rows.fnExactRepairFaultRow.domain false) (Rows.fnExactRepairFaultSpec.post enc Try.prog Try.f8 false true false false) := by
  refine returnsInHanded_of_change (C := Try.checked) own1 started (by kernel_rfl) Try.func8
    (ChangeSpec.witness6 (enc := enc) (C := Try.checked) false ⟨#[], #[.slice none 0 0, .int .i64 0, .int .i64 0, .int .i64 0], []⟩ 8 (by kernel_rfl) (by kernel_rfl) (by kernel_rfl) (by kernel_rfl)) ?_
  intro W base args ds gs before hval0 hW hcnd _
  have hval : ∀ (j : Nat) t v, Try.f8.params[j]? = some t → args[j]? = some v → Value.okWide Try.prog W .any base t v := hval0
  have hW' := hW
  obtain ⟨p, q, hA0, hV, rfl, hfz, hnd⟩ := hW
  have hA : DataW.TrodAll enc Try.prog W 0 (fun _ => true) true Try.f8.params.toList args.toList ds p := hA0
  rw [Try.params8] at hA hval
  obtain ⟨v0, vs0, d0, ds0, p0, q0, hargs0, rfl, rfl, h0, r0⟩ := trodAll_cons hA
  obtain ⟨v1, vs1, d1, ds1, p1, q1, hargs1, rfl, rfl, h1, r1⟩ := trodAll_cons r0
  obtain ⟨v2, vs2, d2, ds2, p2, q2, hargs2, rfl, rfl, h2, r2⟩ := trodAll_cons r1
  obtain ⟨v3, vs3, d3, ds3, p3, q3, hargs3, rfl, rfl, h3, r3⟩ := trodAll_cons r2
  obtain ⟨hn, rfl, rfl⟩ := trodAll_nil r3
  subst hn
  subst hargs3
  subst hargs2
  subst hargs1
  obtain rfl : args = #[v0, v1, v2, v3] := by cases args; simp_all
  obtain ⟨a0, ha0, hr0⟩ := Fault_list (hval 0 22 v0 rfl rfl) h0
  obtain ⟨a1, hr1⟩ := int_arg (hval 1 2 v1 rfl rfl)
  obtain ⟨a2, hr2⟩ := int_arg (hval 2 2 v2 rfl rfl)
  obtain ⟨a3, hr3⟩ := int_arg (hval 3 2 v3 rfl rfl)
  have hgs : gs = [] := by
    cases gs with
    | nil => rfl
    | cons _ _ => exact hV.elim
  subst hgs
  have hden := laws_FnExactRepairFault_den a0 a1 a2 a3 ha0
  rw [law_RepairFault a0 a1 a2 a3 ha0] at hden
  exact law_post (tb := 4) laid1 rfl Try.underlying4 rfl (by kernel_rfl) (fun _ _ => ⟨rfl, rfl, rfl⟩) hW' hden (by simp only [RepL]; exact ⟨v0, [v1, v2, v3], [], [], rfl, rfl, hr0, v1, [v2, v3], [], [], rfl, rfl, hr1, v2, [v3], [], [], rfl, rfl, hr2, v3, [], [], [], rfl, rfl, hr3, rfl, rfl⟩)

theorem fnExactRepairFault_holds : Rows.FnExactRepairFaultSaid :=
  OpenClaim.holds_of_wide 8 Try.f8 rfl rfl rfl rfl rfl rfl rfl ⟨rfl, rfl, rfl, rfl, rfl⟩ rfl rfl rfl rfl rfl (by kernel_rfl) Try.func8 (by kernel_rfl)
    (of_decide_eq_true (by kernel_rfl)) (by unfold Func.isWrapper; first | (rw [if_pos (by decide +kernel)]; kernel_rfl) | (rw [if_neg (by decide +kernel)]; exact ⟨rfl, rfl⟩))
    (fun os started H enc _ => fnExactRepairFault_lifted os started H enc)
end Go.Proofs.Ytapfmnafakdhmaa
