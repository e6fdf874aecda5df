/- A part of a proof: walks of functions and lemmas of our own. No conditions. -/
import Derived.Test.YtpakbdamggpneaaGreatDoorTAk
set_option linter.unusedSectionVars false
set_option linter.unusedVariables false
set_option linter.unusedSimpArgs false
namespace Go.Ab
open Go
variable [Inv]
def RowIn (w : World) (T : TypeId) (e n : Nat) (v : Value) (old : List Value) : Prop :=
  (v = .slice none 0 0 ∧ n = 0) ∨ ∃ b cap cur, v = .slice (some ⟨b, 0, none⟩) n cap ∧ w.heap[b]? = some (.cells cur T (0, 0)) ∧ cur.size = cap * e ∧ n ≤ cap ∧ cap ≤ maxLen ∧ ∀ j, j < n * e → cur[j]? = old[j]?
theorem own_in {w : World} {M : Nat → Prop} {T : TypeId} {e n : Nat} {f : Nat → List AV} {μ : Map} {v : Value} {fp : List Nat} (h : Rep w M (.sl (some T) e n f) μ v fp) :
    ∃ (us : Nat → List Value) (fps : Nat → List Nat), RowIn w T e n v ((List.range n).flatMap us) ∧ (∀ i, i < n → RepL w M (f i) noMap (us i) (fps i) ∧ (us i).length = e ∧ ∀ u ∈ us i, u.oneCell' = true) ∧
      ((n = 0 ∧ v = .slice none 0 0 ∧ fp = []) ∨ ∃ b cap, v = .slice (some ⟨b, 0, none⟩) n cap ∧ fp = b :: (List.range n).flatMap fps ∧ b < w.heap.size) := by
  simp only [Rep] at h
  rcases h with ⟨rfl, hv, rfl⟩ | ⟨b, o, cap, us, fps, rfl, ⟨hn, hn2⟩, hb, hc, rfl, rfl, cur, hcur, hsz, hcm⟩
  · exact ⟨fun _ => [], fun _ => [], .inl ⟨hv, rfl⟩, fun i hi => by omega, .inl ⟨rfl, hv, rfl⟩⟩
  · refine ⟨us, fps, .inr ⟨b, cap, cur, rfl, hcur, hsz, hn, hcm, ?_⟩, fun i hi => ?_, .inr ⟨b, cap, rfl, rfl, hb⟩⟩
    · intro j hj
      have he : 0 < e := by
        rcases Nat.eq_zero_or_pos e with h | h
        · subst h; simp at hj
        · exact h
      obtain ⟨h1, h2, h3⟩ := hc (j / e) (Nat.div_lt_of_lt_mul (by rw [Nat.mul_comm]; exact hj))
      have hk := Nat.mod_lt j he
      have hi : j / e < n := Nat.div_lt_of_lt_mul (by rw [Nat.mul_comm]; exact hj)
      have hj2 : j = j / e * e + j % e := by rw [Nat.mul_comm]; exact (Nat.div_add_mod j e).symm
      have hg : (us (j / e))[j % e]? = some ((us (j / e))[j % e]'(by omega)) := List.getElem?_eq_getElem (by omega)
      have h4 := (h3 _ _ hg).1
      rw [cell_of_row w b _ cur T (0, 0) hcur, Nat.zero_add, ← hj2] at h4
      rw [h4]
      conv => rhs; rw [hj2]
      rw [flatMap_get (fun i hi => (hc i hi).2.1) hi hk, hg]
    · obtain ⟨h1, h2, h3⟩ := hc i hi
      refine ⟨h1, h2, fun u hu => ?_⟩
      obtain ⟨k, hk, he⟩ := List.getElem_of_mem hu
      exact (h3 k u (by rw [List.getElem?_eq_getElem hk, he])).2
theorem own_out {w w' : World} {M' : Nat → Prop} {T : TypeId} {e n : Nat} {ob : Option Nat} {f : Nat → List AV} {us : Nat → List Value} {fps : Nat → List Nat} {row : List Value} {b' cap' : Nat} {cur' : Array Value}
    (ho : AppOut w w' T e n 0 ob row [] b' cap' cur') (hrow : row = (List.range n).flatMap us)
    (hel : ∀ i, i < n → RepL w' M' (f i) noMap (us i) (fps i) ∧ (us i).length = e ∧ ∀ u ∈ us i, u.oneCell' = true) :
    Rep w' M' (.sl (some T) e n f) noMap (.slice (some ⟨b', 0, none⟩) n cap') (b' :: (List.range n).flatMap fps) := by
  simp only [Rep]
  have hlt : b' < w'.heap.size := by
    have := ho.row
    exact (Array.getElem?_eq_some_iff.1 this).1
  refine .inr ⟨b', 0, cap', us, fps, rfl, ⟨by have := ho.fit; omega, by have := ho.fit; have := ho.big; omega⟩, hlt, fun i hi => ?_, rfl, rfl, cur', ho.row, ho.len, ho.big⟩
  obtain ⟨h1, h2, h3⟩ := hel i hi
  refine ⟨h1, h2, fun j u hu => ?_⟩
  have hj : j < e := by rw [← h2]; exact (List.getElem?_eq_some_iff.1 hu).1
  have hlt2 : i * e + j < n * e := by
    have : (i + 1) * e ≤ n * e := Nat.mul_le_mul_right _ hi
    rw [Nat.add_mul, Nat.one_mul] at this; omega
  refine ⟨?_, h3 u (List.mem_of_getElem? hu)⟩
  rw [cell_of_row w' b' _ cur' T (0, 0) ho.row, Nat.zero_add, ho.olds _ hlt2, hrow, flatMap_get (fun i hi => (hel i hi).2.1) hi hj]
  exact hu
theorem elt_move {w w' : World} {M M' : Nat → Prop} {T : TypeId} {e n m : Nat} {ob : Option Nat} {row news : List Value} {b' cap' : Nat} {cur' : Array Value} {x : List AV} {us : List Value} {fp : List Nat}
    (ho : AppOut w w' T e n m ob row news b' cap' cur') (hn : NoBorL x) (h : RepL w M x noMap us fp) (hb : b' ∉ fp) : RepL w' M' x noMap us fp :=
  RepL.mono x (Map.le_refl _) ⟨ho.size, fun b _ h => (h trivial).elim, fun b hb2 hh => ho.other b hb2 (by
    rintro rfl
    rcases hh with hh | hh
    · exact hh trivial
    · exact hb hh)⟩ (RepL.noBor (M' := fun _ => True) x hn h)
theorem flatMap_split {α : Type} (f : Nat → List α) (i n : Nat) (hi : i ≤ n) : (List.range n).flatMap f = (List.range i).flatMap f ++ (List.range (n - i)).flatMap (fun k => f (i + k)) := by
  have h := flatMap_join f (fun k => f (i + k)) i (n - i)
  rw [Nat.add_sub_cancel' hi] at h
  rw [← h]
  congr 1
  funext k
  split
  · rfl
  · rw [Nat.add_sub_cancel' (by omega)]
end Go.Ab

namespace Go.Ab
open Go
variable [Inv]
theorem Den.plain {P : Program} {f : FuncId} {xs : List AV} {r : AV} (hok : FnOk P f) (hno : NoOwnL xs)
    (h : ∀ (w : World) (M : Nat → Prop) (vs : List Value), Inv.ok w → RepL w M xs noMap vs [] → Calls P f vs.toArray w fun e w' => ∃ v, e = .returned v ∧ Grow w w' ∧ ∀ M', Rep w' M' r noMap v []) : Den P f xs r := by
  refine ⟨hok, ?_⟩
  intro w M vs fpA i1 i2 hr hnd hM hlt
  have hfp := NoOwnL.fp xs hno hr
  subst hfp
  have htop : topsL xs vs = [] := by
    apply List.eq_nil_iff_forall_not_mem.2
    intro b hb
    have := tops_fpL xs hr b hb
    simp at this
  refine (h w _ vs i1 hr).mono ?_
  rintro e w' ⟨v, rfl, hg, hv⟩
  refine ⟨v, [], rfl, ⟨hg.os, hg.tape, hg.output, hg.size, fun k hk _ => hg.block k hk⟩, hv _, List.nodup_nil, by simp, fun b hb => ?_⟩
  have := tops_fp r (hv (fun _ => False)) b hb
  simp at this
theorem Den.fresh {α : Type} [Inhabited α] {P : Program} {f : FuncId} {xs : List AV} {T : TypeId} {e : Nat} {enc : α → List AV} {l : List α} (hok : FnOk P f) (hno : NoOwnL xs)
    (us : Nat → List Value) (hus : ∀ w M i, i < l.length → RepL w M (enc (l.getD i default)) noMap (us i) [] ∧ (us i).length = e ∧ ∀ u ∈ us i, u.oneCell' = true)
    (h : ∀ (w : World) (M : Nat → Prop) (vs : List Value), Inv.ok w → RepL w M xs noMap vs [] → Calls P f vs.toArray w fun ex w' => ∃ b' cap' cur', ex = .returned (.slice (some ⟨b', 0, none⟩) l.length cap') ∧ AppOut w w' T e l.length 0 none ((List.range l.length).flatMap us) [] b' cap' cur') :
    Den P f xs (ownL T e enc l) := by
  refine ⟨hok, ?_⟩
  intro w M vs fpA i1 i2 hr hnd hM hlt
  have hfp := NoOwnL.fp xs hno hr
  subst hfp
  refine (h w _ vs i1 hr).mono ?_
  rintro ex w' ⟨b', cap', cur', rfl, ho⟩
  have hb : b' = w.heap.size := by
    rcases ho.place with h | h
    · cases h
    · exact h
  have hf : (List.range l.length).flatMap (fun _ => ([] : List Nat)) = [] := by simp
  have hR := own_out (M' := fun c => M c ∨ c ∈ [b']) (f := fun k => enc (l.getD k default)) (us := us) (fps := fun _ => []) ho rfl (fun i hi => hus w' _ i hi)
  rw [hf] at hR
  refine ⟨_, [b'], rfl, ⟨ho.os, ho.tape, ho.output, ho.size, fun k hk _ => ho.other k hk (by omega)⟩, hR, by simp, ?_, ?_⟩
  · intro b hb2
    simp only [List.mem_singleton] at hb2
    subst hb2
    exact ⟨.inr (by omega), (Array.getElem?_eq_some_iff.1 ho.row).1⟩
  · intro b hb2
    simp only [tops, topOf, ownL, List.mem_singleton] at hb2
    subst hb2
    exact .inr (by omega)
theorem fresh_alloc (w : World) (T : TypeId) (l : List Value) (hm : l.length ≤ maxLen) :
    AppOut w (w.alloc (.cells l.toArray T)) T 1 l.length 0 none ((List.range l.length).flatMap fun i => [l.getD i default]) [] w.heap.size l.length l.toArray := by
  have hflat : (List.range l.length).flatMap (fun i => [l.getD i default]) = l := by
    have : ∀ (k : List Nat), k.flatMap (fun i => [l.getD i default]) = k.map (fun i => l.getD i default) := fun k => by induction k with
      | nil => rfl
      | cons a k ih => rw [List.flatMap_cons, ih]; rfl
    rw [this]
    exact range_getD l
  refine ⟨rfl, rfl, rfl, by simp, ?_, heap_alloc_new w _, by simp, by simp, hm, ?_, fun j hj => by omega, .inr rfl⟩
  · intro k hk _
    show (w.heap.push _)[k]? = _
    rw [Array.getElem?_push, if_neg (by omega)]
  · intro j hj
    rw [hflat]; simp
end Go.Ab
