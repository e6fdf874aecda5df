/- A part of a proof: walks of functions and lemmas of our own. No conditions. -/
import Derived.Test.YtpakbdamggpneaaGreatDoorTAp
set_option linter.unusedSectionVars false
set_option linter.unusedVariables false
set_option linter.unusedSimpArgs false
namespace Go.Ab
open Go
variable [Inv]
theorem Den.plain {P : Program} {f : FuncId} {xs : List AV} {r : AV} (hok : FnOk P f) (hno : NoOwnL xs)
    (h : ∀ (w : World) (M : Nat → Prop) (vs : List Value), Inv.ok w → RepL w M xs noMap vs [] → Calls P f vs.toArray w fun e w' => ∃ v, e = .returned v ∧ Grow w w' ∧ ∀ M', Rep w' M' r noMap v []) : Den P f xs r := by
  refine ⟨hok, ?_⟩
  intro w M vs fpA i1 i2 hr hnd hM hlt
  have hfp := NoOwnL.fp xs hno hr
  subst hfp
  have htop : topsL xs vs = [] := by
    apply List.eq_nil_iff_forall_not_mem.2
    intro b hb
    have := tops_fpL xs hr b hb
    simp at this
  refine (h w _ vs i1 hr).mono ?_
  rintro e w' ⟨v, rfl, hg, hv⟩
  refine ⟨v, [], rfl, ⟨hg.os, hg.tape, hg.output, hg.size, fun k hk _ => hg.block k hk⟩, hv _, List.nodup_nil, by simp, fun b hb => ?_⟩
  have := tops_fp r (hv (fun _ => False)) b hb
  simp at this
theorem Den.fresh {α : Type} [Inhabited α] {P : Program} {f : FuncId} {xs : List AV} {T : TypeId} {e : Nat} {enc : α → List AV} {l : List α} (hok : FnOk P f) (hno : NoOwnL xs)
    (us : Nat → List Value) (hus : ∀ w M i, i < l.length → RepL w M (enc (l.getD i default)) noMap (us i) [] ∧ (us i).length = e ∧ ∀ u ∈ us i, u.oneCell' = true)
    (h : ∀ (w : World) (M : Nat → Prop) (vs : List Value), Inv.ok w → RepL w M xs noMap vs [] → Calls P f vs.toArray w fun ex w' => ∃ b' cap' cur', ex = .returned (.slice (some ⟨b', 0, none⟩) l.length cap') ∧ AppOut w w' T e l.length 0 none ((List.range l.length).flatMap us) [] b' cap' cur') :
    Den P f xs (ownL T e enc l) := by
  refine ⟨hok, ?_⟩
  intro w M vs fpA i1 i2 hr hnd hM hlt
  have hfp := NoOwnL.fp xs hno hr
  subst hfp
  refine (h w _ vs i1 hr).mono ?_
  rintro ex w' ⟨b', cap', cur', rfl, ho⟩
  have hb : b' = w.heap.size := by
    rcases ho.place with h | h
    · cases h
    · exact h
  have hf : (List.range l.length).flatMap (fun _ => ([] : List Nat)) = [] := by simp
  have hR := own_out (M' := fun c => M c ∨ c ∈ [b']) (f := fun k => enc (l.getD k default)) (us := us) (fps := fun _ => []) ho rfl (fun i hi => hus w' _ i hi)
  rw [hf] at hR
  refine ⟨_, [b'], rfl, ⟨ho.os, ho.tape, ho.output, ho.size, fun k hk _ => ho.other k hk (by omega)⟩, hR, by simp, ?_, ?_⟩
  · intro b hb2
    simp only [List.mem_singleton] at hb2
    subst hb2
    exact ⟨.inr (by omega), (Array.getElem?_eq_some_iff.1 ho.row).1⟩
  · intro b hb2
    simp only [tops, topOf, ownL, List.mem_singleton] at hb2
    subst hb2
    exact .inr (by omega)
theorem fresh_alloc (w : World) (T : TypeId) (l : List Value) (hm : l.length ≤ maxLen) :
    AppOut w (w.alloc (.cells l.toArray T)) T 1 l.length 0 none ((List.range l.length).flatMap fun i => [l.getD i default]) [] w.heap.size l.length l.toArray := by
  have hflat : (List.range l.length).flatMap (fun i => [l.getD i default]) = l := by
    have : ∀ (k : List Nat), k.flatMap (fun i => [l.getD i default]) = k.map (fun i => l.getD i default) := fun k => by induction k with
      | nil => rfl
      | cons a k ih => rw [List.flatMap_cons, ih]; rfl
    rw [this]
    exact range_getD l
  refine ⟨rfl, rfl, rfl, by simp, ?_, heap_alloc_new w _, by simp, by simp, hm, ?_, fun j hj => by omega, .inr rfl⟩
  · intro k hk _
    show (w.heap.push _)[k]? = _
    rw [Array.getElem?_push, if_neg (by omega)]
  · intro j hj
    rw [hflat]; simp
end Go.Ab
