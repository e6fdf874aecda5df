/- A part of a proof: walks of functions and lemmas of our own. No conditions. -/
import Derived.Test.YtpakbdamggpneaaGreatDoorTAs
import Derived.Test.YtpakbdamggpneaaGreatDoorTAo
import Derived.Test.YtpakbdamggpneaaGreatDoorTAr
import Derived.Test.YtpakbdamggpneaaGreatDoorTAl
import Derived.Test.YtpakbdamggpneaaGreatDoorTAn
import Derived.Test.YtpakbdamggpneaaGreatDoorTAq
import Derived.Test.YtpakbdamggpneaaGreatDoorTAi
import Derived.Test.YtpakbdamggpneaaGreatDoorTAk
import Derived.Test.YtpakbdamggpneaaGreatDoorTAp
set_option linter.unusedSectionVars false
set_option linter.unusedVariables false
set_option linter.unusedSimpArgs false
set_option maxHeartbeats 1000000
namespace Go.Ab
open Go Go.Proofs
theorem cs_eq (a b : List UInt8) : strings_CutSuffix a b = (Lib.trimSuffix a b, Lib.hasSuffix a b) := rfl
theorem ct_eq (a b : List UInt8) : strings_Cut a b = Lib.cut a b := rfl
theorem kinds_w (k : Int) (hk : 1 ≤ k ∧ k ≤ 8) (b : Int × Int → Except (Sum (Character × Bool) (Int × Int)) (Int × Int))
    (hb : ∀ s, b s = (bif decide (s.1 ≤ 8) then (bif ((impl_KindText s.1) == kt k) then .ok (IntKind.wrap .i64 (s.1 + 1), s.1) else .ok (IntKind.wrap .i64 (s.1 + 1), s.2)) else .error (.inr (s.1, s.2)))) :
    loopW b (((9 - (1 : Int)).toNat) + 1) (1, 0) = .error (.inr (9, k)) := by
  have e : b = fun s => (bif decide (s.1 ≤ 8) then (bif ((impl_KindText s.1) == kt k) then .ok (IntKind.wrap .i64 (s.1 + 1), s.1) else .ok (IntKind.wrap .i64 (s.1 + 1), s.2)) else .error (.inr (s.1, s.2))) := funext hb
  rw [e]
  rcases (show k = 1 ∨ k = 2 ∨ k = 3 ∨ k = 4 ∨ k = 5 ∨ k = 6 ∨ k = 7 ∨ k = 8 by omega) with h | h | h | h | h | h | h | h <;> subst h <;> rfl
theorem grp_w {ρ : Type} (g : List Int) (h2 : ∀ v ∈ g, 1 ≤ v ∧ v ≤ 9) (r : Nat → List Int → ρ) (b : Nat → List Int → Except ρ (List Int))
    (hb : ∀ i s, b i s = (bif (!(impl_ReadDecimal ((g.map Lib.itoa).getD i default)).2) then .error (r i s) else .ok (s ++ ([(impl_ReadDecimal ((g.map Lib.itoa).getD i default)).1] : List Int)))) :
    loopR b ((g.map Lib.itoa).length - 0) 0 [] = .ok g := by
  rw [List.length_map, Nat.sub_zero]
  rw [loopR_app b (fun j => [id (g.getD j default)]) g.length 0 [] (fun j s _ hj => by
    have hj2 : j < g.length := by omega
    have e : (g.map Lib.itoa).getD j default = Lib.itoa (g.getD j default) := by
      rw [List.getD_eq_getElem?_getD, List.getD_eq_getElem?_getD, List.getElem?_map, List.getElem?_eq_getElem hj2]; rfl
    have hr := getD_rng h2 j
    have e2 : impl_ReadDecimal (Lib.itoa (g.getD j default)) = (g.getD j default, true) := readDec_itoa (by omega) (by omega)
    rw [hb, e, e2]; rfl), flat_list g default id]
  simp
theorem fits_L (c : Character) (h : impl_Character_fits c = true) (h8 : c.Kind ≠ 8) (hL : c.Letter ≠ []) : c.Letter = [76] ∧ c.Group = [6] := by
  unfold impl_Character_fits at h
  simp only [Bool.cond_eq_ite] at h
  repeat' split at h
  all_goals (try simp only [Bool.and_eq_true, Bool.or_eq_true, beq_iff_eq, equal_dec, decide_eq_true_eq] at *)
  all_goals first
    | (exact absurd h.2 hL; done)
    | (exact absurd h.1 hL; done)
    | (exact h)
    | (rename_i q; exact absurd q hL)
    | (rename_i q; exact absurd q h8)
    | (cases h; done)
theorem fits_8 (c : Character) (h : impl_Character_fits c = true) (h8 : c.Kind = 8) : c.Group = [] ∧ c.Letter.length = 1 ∧ 65 ≤ (c.Letter.getD 0 0).toNat ∧ (c.Letter.getD 0 0).toNat ≤ 90 := by
  unfold impl_Character_fits at h
  rw [h8] at h
  have h : (((impl_signsOf c.Letter) != []) && ((c.Group.length : Int) == 0)) = true := h
  rw [Bool.and_eq_true, beq_iff_eq, signs_ne, decide_eq_true_eq] at h
  exact ⟨List.length_eq_zero_iff.1 (by omega), h.1⟩
theorem kt_suffix (k : Int) (h : 1 ≤ k ∧ k ≤ 8) : Lib.hasSuffix (kt k) [43, 76, 70, 108] = false := by
  rcases (show k = 1 ∨ k = 2 ∨ k = 3 ∨ k = 4 ∨ k = 5 ∨ k = 6 ∨ k = 7 ∨ k = 8 by omega) with h | h | h | h | h | h | h | h <;> subst h <;> decide
theorem suffix41 (x : List UInt8) : Lib.hasSuffix (x ++ [41]) [43, 76, 70, 108] = false := hasSuffix_last x [43, 76, 70] 41 108 (by decide)
theorem head_read (c : Character) (h : impl_Character_fits c = true) : impl_readHead (headT c) = ({ Kind := c.Kind, Group := c.Group, Letter := c.Letter, Colors := [], Period := 0 : Character }, true) := by
  have hk := kind_rng c h
  obtain ⟨g1, g2⟩ := fits_grp c h
  have h40 := (kt_no c.Kind hk).1
  unfold headT
  by_cases h8 : c.Kind = 8
  · obtain ⟨f1, f2⟩ := fits_8 c h h8
    rw [if_pos h8, f1, h8]
    have eH : kt 8 ++ 40 :: (c.Letter ++ [41]) = (kt 8 ++ 40 :: c.Letter) ++ [41] := by simp
    have c1 : strings_CutSuffix (kt 8 ++ 40 :: (c.Letter ++ [41])) [43, 76, 70, 108] = (kt 8 ++ 40 :: (c.Letter ++ [41]), false) := by
      rw [cs_eq, eH, suffix41, trimSuffix_no _ _ (suffix41 _)]
    have c2 : strings_Cut (kt 8 ++ 40 :: (c.Letter ++ [41])) [40] = (kt 8, c.Letter ++ [41], true) := by rw [ct_eq, cut_app _ _ 40 (by decide)]
    have c3 : strings_CutSuffix (c.Letter ++ [41]) [41] = (c.Letter, true) := by rw [cs_eq, trimSuffix_app, hasSuffix_app]
    have hw := kinds_w 8 (by omega) (impl_readHead_b3 (kt 8 ++ 40 :: (c.Letter ++ [41]))) (fun s => by unfold impl_readHead_b3; rw [c1]; simp only; rw [c2])
    unfold impl_readHead
    rw [c1]
    simp only
    rw [c2]
    simp only
    rw [c3, hw]
    rfl
  · rw [if_neg h8]
    have e8 : (c.Kind == 8) = false := by rw [beq_eq_false_iff_ne]; exact h8
    by_cases hL : c.Letter = []
    · rw [if_pos hL, List.append_nil, hL]
      by_cases hg : c.Group = []
      · have eg : grpT c.Group = [] := by rw [hg]; rfl
        rw [eg, List.append_nil, hg]
        have c1 : strings_CutSuffix (kt c.Kind) [43, 76, 70, 108] = (kt c.Kind, false) := by
          rw [cs_eq, kt_suffix _ hk, trimSuffix_no _ _ (kt_suffix _ hk)]
        have c2 : strings_Cut (kt c.Kind) [40] = (kt c.Kind, [], false) := by rw [ct_eq, cut_none _ 40 h40]
        have hw := kinds_w c.Kind hk (impl_readHead_b3 (kt c.Kind)) (fun s => by unfold impl_readHead_b3; rw [c1]; simp only; rw [c2])
        unfold impl_readHead
        rw [c1]
        simp only
        rw [c2, hw]
        rfl
      · have eg : grpT c.Group = 40 :: (Lib.join (c.Group.map Lib.itoa) [43] ++ [41]) := by unfold grpT; rw [if_neg hg]
        rw [eg]
        generalize hJ : Lib.join (c.Group.map Lib.itoa) [43] = J
        have eH : kt c.Kind ++ 40 :: (J ++ [41]) = (kt c.Kind ++ 40 :: J) ++ [41] := by simp
        have c1 : strings_CutSuffix (kt c.Kind ++ 40 :: (J ++ [41])) [43, 76, 70, 108] = (kt c.Kind ++ 40 :: (J ++ [41]), false) := by
          rw [cs_eq, eH, suffix41, trimSuffix_no _ _ (suffix41 _)]
        have c2 : strings_Cut (kt c.Kind ++ 40 :: (J ++ [41])) [40] = (kt c.Kind, J ++ [41], true) := by rw [ct_eq, cut_app _ _ 40 h40]
        have c3 : strings_CutSuffix (J ++ [41]) [41] = (J, true) := by rw [cs_eq, trimSuffix_app, hasSuffix_app]
        have c4 : strings_Split J [43] = c.Group.map Lib.itoa := by
          show splitC 43 J = _
          rw [← hJ]; exact split_grp _ hg g2
        have hw := kinds_w c.Kind hk (impl_readHead_b3 (kt c.Kind ++ 40 :: (J ++ [41]))) (fun s => by unfold impl_readHead_b3; rw [c1]; simp only; rw [c2])
        have hg4 : ∀ s, loopR (impl_readHead_b4 (kt c.Kind ++ 40 :: (J ++ [41])) s) ((c.Group.map Lib.itoa).length - 0) 0 [] = .ok c.Group := fun s => grp_w c.Group g2 (fun _ _ => ({ Kind := 0, Group := [], Letter := [], Colors := [], Period := 0 : Character }, false)) _ (fun i t => by unfold impl_readHead_b4; rw [c1]; simp only; rw [c2]; simp only; rw [c3]; simp only; rw [c4])
        unfold impl_readHead
        rw [c1]
        simp only
        rw [c2]
        simp only
        rw [c3]
        simp only
        rw [c4, hw]
        simp only [hg4, e8, cond_false, Bool.not_true]
    · obtain ⟨l1, l2⟩ := fits_L c h h8 hL
      rw [if_neg hL]
      have hg : c.Group ≠ [] := by rw [l2]; simp
      have eg : grpT c.Group = 40 :: (Lib.join (c.Group.map Lib.itoa) [43] ++ [41]) := by unfold grpT; rw [if_neg hg]
      rw [eg]
      generalize hJ : Lib.join (c.Group.map Lib.itoa) [43] = J
      have eH : kt c.Kind ++ (40 :: (J ++ [41]) ++ [43, 76, 70, 108]) = (kt c.Kind ++ 40 :: (J ++ [41])) ++ [43, 76, 70, 108] := by simp
      rw [eH, l1]
      have c1 : strings_CutSuffix ((kt c.Kind ++ 40 :: (J ++ [41])) ++ [43, 76, 70, 108]) [43, 76, 70, 108] = (kt c.Kind ++ 40 :: (J ++ [41]), true) := by
        rw [cs_eq, trimSuffix_app, hasSuffix_app]
      have c2 : strings_Cut (kt c.Kind ++ 40 :: (J ++ [41])) [40] = (kt c.Kind, J ++ [41], true) := by rw [ct_eq, cut_app _ _ 40 h40]
      have c3 : strings_CutSuffix (J ++ [41]) [41] = (J, true) := by rw [cs_eq, trimSuffix_app, hasSuffix_app]
      have c4 : strings_Split J [43] = c.Group.map Lib.itoa := by
        show splitC 43 J = _
        rw [← hJ]; exact split_grp _ hg g2
      have hw := kinds_w c.Kind hk (impl_readHead_b1 ((kt c.Kind ++ 40 :: (J ++ [41])) ++ [43, 76, 70, 108])) (fun s => by unfold impl_readHead_b1; rw [c1]; simp only; rw [c2])
      have hg4 : ∀ s, loopR (impl_readHead_b2 ((kt c.Kind ++ 40 :: (J ++ [41])) ++ [43, 76, 70, 108]) s) ((c.Group.map Lib.itoa).length - 0) 0 [] = .ok c.Group := fun s => grp_w c.Group g2 (fun _ _ => ({ Kind := 0, Group := [], Letter := [], Colors := [], Period := 0 : Character }, false)) _ (fun i t => by unfold impl_readHead_b2; rw [c1]; simp only; rw [c2]; simp only; rw [c3]; simp only; rw [c4])
      unfold impl_readHead
      rw [c1]
      simp only
      rw [c2]
      simp only
      rw [c3]
      simp only
      rw [c4, hw]
      simp only [hg4, e8, cond_false, cond_true, Bool.not_true]
end Go.Ab

namespace Go.Ab
open Go Go.Proofs
theorem strings_TrimSuffix_DD : DOk Tryz.prog (DD []) := DD_nil _
def strings_TrimSuffix (a0 : (List UInt8)) (a1 : (List UInt8)) : (List UInt8) := Go.Lib.trimSuffix a0 a1
theorem strings_TrimSuffix_den (a0 : (List UInt8)) (a1 : (List UInt8)) (hp0 : a0.length ≤ 1048576) : Den Tryz.prog 48 [.str a0, .str a1] (.str (strings_TrimSuffix a0 a1)) := by
  refine Den.plain ⟨_, Tryz.func48, rfl, rfl⟩ (by simp [NoOwnL, NoOwn]) ?_
  intro w M vs hI hr
  simp only [RepL] at hr
  obtain ⟨u0, us0, f0, g0, rfl, h0e, h0, u1, us1, f1, g1, rfl, h1e, h1, rfl, _⟩ := hr
  have e0 := h0.val_str
  have e1 := h1.val_str
  subst e0 e1
  refine (Any.strings_TrimSuffix Tryz.lays102 ⟨a0.toArray⟩ ⟨a1.toArray⟩ w (by show a0.length ≤ _; omega)).mono ?_
  rintro e w' ⟨rfl, rfl⟩
  exact ⟨_, rfl, Grow.refl _, fun M' => rep_str _ (by have := trimSuffix_len a0 a1; show (Go.Lib.trimSuffix a0 a1).length ≤ maxLen; unfold maxLen; omega)⟩
def D_strings_TrimSuffix : DF
  | [x0, x1] => some (.str (strings_TrimSuffix (rdS x0) (rdS x1)), false, [wS x0, wS x1, (rdS x0).length ≤ 1048576])
  | _ => none
theorem D_strings_TrimSuffix_ok : OkD Tryz.prog 48 D_strings_TrimSuffix := by
  intro xs r z ob h ho
  unfold D_strings_TrimSuffix at h
  split at h
  · simp only [Option.some.injEq, Prod.mk.injEq] at h
    obtain ⟨rfl, rfl, rfl⟩ := h
    obtain ⟨h0, h1, hp0, _⟩ := ho
    exact Den.sim (strings_TrimSuffix_den _ _ hp0) (simOL_cons (wS_sim h0).1 <| simOL_cons (wS_sim h1).1 <| trivial) (noIdL_cons (wS_sim h0).2 <| noIdL_cons (wS_sim h1).2 <| rfl) rfl
  · cases h
end Go.Ab

namespace Go.Ab
open Go Go.Proofs
theorem strings_TrimSuffix_len (a b : List UInt8) : (strings_TrimSuffix a b).length ≤ a.length := trimSuffix_len a b
end Go.Ab

namespace Go.Ab
open Go Go.Proofs
theorem loopR_keep {ρ σ : Type} {b : Nat → σ → Except ρ σ} (I : Nat → σ → Prop) : ∀ {k i : Nat} {s t : σ}, loopR b k i s = .ok t → I i s → (∀ j u v, i ≤ j → j < i + k → I j u → b j u = .ok v → I (j + 1) v) → I (i + k) t
  | 0, i, s, t, h, h0, _ => by simp only [loopR, Except.ok.injEq] at h; subst h; exact h0
  | k + 1, i, s, t, h, h0, hb => by
    simp only [loopR] at h
    cases hq : b i s with
    | error e => rw [hq] at h; simp at h
    | ok v =>
      rw [hq] at h
      have := loopR_keep I (k := k) (i := i + 1) h (hb i s v (Nat.le_refl _) (by omega) h0 hq) (fun j u v h1 h2 => hb j u v (by omega) (by omega))
      rw [show i + 1 + k = i + (k + 1) by omega] at this
      exact this
end Go.Ab

namespace Go.Ab
open Go Go.Proofs
def CBd (r : Character × Bool) : Prop := r.1.Group.length ≤ 1048577 ∧ r.1.Letter.length ≤ 1048577 ∧ r.1.Colors.length ≤ 0
theorem cbd0 (b : Bool) : CBd ({ Kind := 0, Group := [], Letter := [], Colors := [], Period := 0 : Character }, b) := ⟨by simp, by simp, by simp⟩
theorem grp_bd (n : Nat) (hn : n ≤ 1048577) (b : Nat → List Int → Except (Character × Bool) (List Int)) (hb : ∀ i s, (∃ x, b i s = .ok (s ++ [x])) ∨ ∃ e, b i s = .error e ∧ CBd e) (f : List Int → Character × Bool)
    (hf : ∀ s, s.length ≤ 1048577 → CBd (f s)) : CBd (match loopR b (n - 0) 0 ([] : List Int) with | .error e => e | .ok s => f s) := by
  cases h : loopR b (n - 0) 0 ([] : List Int) with
  | error e =>
    obtain ⟨j, t, _, _, h3⟩ := loopR_error h
    rcases hb j t with ⟨x, hx⟩ | ⟨e', he, hc⟩
    · rw [hx] at h3; cases h3
    · rw [he] at h3; cases h3; exact hc
  | ok s =>
    have hk := loopR_keep (fun i s => s.length ≤ i) h (by simp) (fun j u v _ _ hu hv => by
      rcases hb j u with ⟨x, hx⟩ | ⟨e', he, hc⟩
      · rw [hx] at hv
        simp only [Except.ok.injEq] at hv
        subst hv
        simp only [List.length_append, List.length_singleton]; omega
      · rw [he] at hv; cases hv)
    exact hf s (by omega)
theorem readHead_bd (a : List UInt8) (ha : a.length ≤ 1048576) : CBd (impl_readHead a) := by
  have c1 := strings_CutSuffix_len a [43, 76, 70, 108]
  have c2 := strings_Cut_len (strings_CutSuffix a [43, 76, 70, 108]).1 [40]
  have c3 := strings_CutSuffix_len (strings_Cut (strings_CutSuffix a [43, 76, 70, 108]).1 [40]).2.1 [41]
  have c4 := (strings_Split_len (strings_CutSuffix (strings_Cut (strings_CutSuffix a [43, 76, 70, 108]).1 [40]).2.1 [41]).1 [43] (by omega)).1
  have hw : ∀ (b : Int × Int → Except (Sum (Character × Bool) (Int × Int)) (Int × Int)) (n : Nat) (s : Int × Int) (f : Int × Int → Character × Bool), (∀ s, match b s with | .error (.inl e) => False | _ => True) → (∀ s, CBd (f s)) → CBd (default : Character × Bool) →
      CBd (match loopW b n s with | .error (.inl e) => e | .error (.inr s) => f s | .ok _ => default) := by
    intro b n s f hb hf hd
    have h := loopW_inv (body := b) (I := fun _ => True) (Q := fun r => match r with | .inl e => False | .inr _ => True) (fun s _ => by
      have := hb s
      cases hbs : b s with
      | error r => rw [hbs] at this; cases r with
        | inl e => exact this
        | inr t => trivial
      | ok t => trivial) n s trivial
    cases hl : loopW b n s with
    | error r =>
      rw [hl] at h
      cases r with
      | inl e => exact h.elim
      | inr t => exact hf t
    | ok t => exact hd
  have hdef : CBd (default : Character × Bool) := ⟨by show (0 : Nat) ≤ _; omega, by show (0 : Nat) ≤ _; omega, by show (0 : Nat) ≤ _; omega⟩
  unfold impl_readHead
  cases (strings_CutSuffix a [43, 76, 70, 108]).2 with
  | true =>
    simp only [cond_true]
    refine hw _ _ _ _ (fun s => ?_) (fun s => ?_) hdef
    · unfold impl_readHead_b1
      cases decide (s.1 ≤ 8) with
      | false => trivial
      | true =>
        simp only [cond_true]
        cases ((impl_KindText s.1) == ((strings_Cut ((strings_CutSuffix a [43, 76, 70, 108]).1) [40]).1)) with
        | true => trivial
        | false => trivial
    · cases (!((strings_Cut ((strings_CutSuffix a [43, 76, 70, 108]).1) [40]).2.2)) with
      | true => exact ⟨by simp, by simp, by simp⟩
      | false =>
        simp only [cond_false]
        cases (s.2 == 8) with
        | true => exact ⟨by simp, by simp only [cond_true]; omega, by simp⟩
        | false =>
          simp only [cond_false]
          refine grp_bd _ c4 _ (fun i t => ?_) (fun t => ({ Kind := s.2, Group := t, Letter := [76], Colors := [], Period := 0 : Character }, _)) (fun t ht => ⟨ht, by simp, by simp⟩)
          unfold impl_readHead_b2
          cases (!((impl_ReadDecimal ((strings_Split ((strings_CutSuffix ((strings_Cut ((strings_CutSuffix a [43, 76, 70, 108]).1) [40]).2.1) [41]).1) [43]).getD i default)).2)) with
          | true => exact .inr ⟨_, rfl, cbd0 _⟩
          | false => exact .inl ⟨_, rfl⟩
  | false =>
    simp only [cond_false]
    refine hw _ _ _ _ (fun s => ?_) (fun s => ?_) hdef
    · unfold impl_readHead_b3
      cases decide (s.1 ≤ 8) with
      | false => trivial
      | true =>
        simp only [cond_true]
        cases ((impl_KindText s.1) == ((strings_Cut ((strings_CutSuffix a [43, 76, 70, 108]).1) [40]).1)) with
        | true => trivial
        | false => trivial
    · cases (!((strings_Cut ((strings_CutSuffix a [43, 76, 70, 108]).1) [40]).2.2)) with
      | true => exact ⟨by simp, by simp, by simp⟩
      | false =>
        simp only [cond_false]
        cases (s.2 == 8) with
        | true => exact ⟨by simp, by simp only [cond_true]; omega, by simp⟩
        | false =>
          simp only [cond_false]
          refine grp_bd _ c4 _ (fun i t => ?_) (fun t => ({ Kind := s.2, Group := t, Letter := [], Colors := [], Period := 0 : Character }, _)) (fun t ht => ⟨ht, by simp, by simp⟩)
          unfold impl_readHead_b4
          cases (!((impl_ReadDecimal ((strings_Split ((strings_CutSuffix ((strings_Cut ((strings_CutSuffix a [43, 76, 70, 108]).1) [40]).2.1) [41]).1) [43]).getD i default)).2)) with
          | true => exact .inr ⟨_, rfl, cbd0 _⟩
          | false => exact .inl ⟨_, rfl⟩
end Go.Ab

namespace Go.Ab
open Go Go.Proofs
def impl_ReadCharacter (a0 : (List UInt8)) : (Character × Bool) :=
  (bif (strings_Cut ((strings_Cut a0 [32]).2.1) [32]).2.2 then (bif (((!((impl_readHead ((strings_Cut a0 [32]).1)).2 && (impl_readSeconds (strings_TrimSuffix ((strings_Cut ((strings_Cut a0 [32]).2.1) [32]).2.1) [115])).2)) || (!(impl_ValidCharacter ({ Kind := ((impl_readHead ((strings_Cut a0 [32]).1)).1).Kind, Group := ((impl_readHead ((strings_Cut a0 [32]).1)).1).Group, Letter := ((impl_readHead ((strings_Cut a0 [32]).1)).1).Letter, Colors := (strings_Cut ((strings_Cut a0 [32]).2.1) [32]).1, Period := (impl_readSeconds (strings_TrimSuffix ((strings_Cut ((strings_Cut a0 [32]).2.1) [32]).2.1) [115])).1 : Character })))) || ((impl_CharacterText ({ Kind := ((impl_readHead ((strings_Cut a0 [32]).1)).1).Kind, Group := ((impl_readHead ((strings_Cut a0 [32]).1)).1).Group, Letter := ((impl_readHead ((strings_Cut a0 [32]).1)).1).Letter, Colors := (strings_Cut ((strings_Cut a0 [32]).2.1) [32]).1, Period := (impl_readSeconds (strings_TrimSuffix ((strings_Cut ((strings_Cut a0 [32]).2.1) [32]).2.1) [115])).1 : Character })) != a0)) then ({ Kind := 0, Group := [], Letter := [], Colors := [], Period := 0 : Character }, false) else ({ Kind := ((impl_readHead ((strings_Cut a0 [32]).1)).1).Kind, Group := ((impl_readHead ((strings_Cut a0 [32]).1)).1).Group, Letter := ((impl_readHead ((strings_Cut a0 [32]).1)).1).Letter, Colors := (strings_Cut ((strings_Cut a0 [32]).2.1) [32]).1, Period := (impl_readSeconds (strings_TrimSuffix ((strings_Cut ((strings_Cut a0 [32]).2.1) [32]).2.1) [115])).1 : Character }, true)) else (bif (((!((impl_readHead ((strings_Cut a0 [32]).1)).2)) || (!(impl_ValidCharacter ({ Kind := ((impl_readHead ((strings_Cut a0 [32]).1)).1).Kind, Group := ((impl_readHead ((strings_Cut a0 [32]).1)).1).Group, Letter := ((impl_readHead ((strings_Cut a0 [32]).1)).1).Letter, Colors := (strings_Cut ((strings_Cut a0 [32]).2.1) [32]).1, Period := ((impl_readHead ((strings_Cut a0 [32]).1)).1).Period : Character })))) || ((impl_CharacterText ({ Kind := ((impl_readHead ((strings_Cut a0 [32]).1)).1).Kind, Group := ((impl_readHead ((strings_Cut a0 [32]).1)).1).Group, Letter := ((impl_readHead ((strings_Cut a0 [32]).1)).1).Letter, Colors := (strings_Cut ((strings_Cut a0 [32]).2.1) [32]).1, Period := ((impl_readHead ((strings_Cut a0 [32]).1)).1).Period : Character })) != a0)) then ({ Kind := 0, Group := [], Letter := [], Colors := [], Period := 0 : Character }, false) else ({ Kind := ((impl_readHead ((strings_Cut a0 [32]).1)).1).Kind, Group := ((impl_readHead ((strings_Cut a0 [32]).1)).1).Group, Letter := ((impl_readHead ((strings_Cut a0 [32]).1)).1).Letter, Colors := (strings_Cut ((strings_Cut a0 [32]).2.1) [32]).1, Period := ((impl_readHead ((strings_Cut a0 [32]).1)).1).Period : Character }, true)))
namespace N20
theorem DD : DOk Tryz.prog (Go.Ab.DD [(45, dP D_strings_Cut), (46, dP D_impl_readHead), (47, dP D_impl_readSeconds), (48, dP D_strings_TrimSuffix), (49, dP D_impl_ValidCharacter), (50, dP D_impl_CharacterText)]) := DD_cons D_strings_Cut_ok.e <| DD_cons D_impl_readHead_ok.e <| DD_cons D_impl_readSeconds_ok.e <| DD_cons D_strings_TrimSuffix_ok.e <| DD_cons D_impl_ValidCharacter_ok.e <| DD_cons D_impl_CharacterText_ok.e <| DD_nil _
theorem dn : type_of% (And.intro @D_strings_Cut.eq_1 <| And.intro @D_impl_readHead.eq_1 <| And.intro @D_impl_readSeconds.eq_1 <| And.intro @D_strings_TrimSuffix.eq_1 <| And.intro @D_impl_ValidCharacter.eq_1 <| @D_impl_CharacterText.eq_1) := by and_intros <;> intros <;> rfl
theorem gr {p : Prop} (h : p := by (grind [strings_Cut_len, strings_TrimSuffix_len]); first | done | fail) : p := h
theorem o0 {p : Prop} (h : p := by (first | (and_intros <;> first | omega | (intros; omega) | (intros; and_intros <;> first | omega | (show List.length _ < _; simp only; omega)) | (refine ⟨?_, ?_, ?_⟩ <;> (simp only; omega)))); first | done | fail) : p := h
set_option maxHeartbeats 1000000 in
set_option maxRecDepth 20000 in
theorem den (a0 : (List UInt8)) (hb0 : a0.length < 1099511627776) (hp0 : a0.length ≤ 1048576) : Den Tryz.prog 20 [.str a0] (.tup [.agg (eCharacterO ((impl_ReadCharacter a0).1)), .bool ((impl_ReadCharacter a0).2)]) := by
  generalize hR : impl_ReadCharacter a0 = r
  unfold impl_ReadCharacter at hR
  refine di Tryz.func20 Tryz.ntmps20 Tryz.results20 ?_
  intro c hL hc hk
  obtain ⟨hL0, _⟩ := hL
  have hw0 : a0.length < 9223372036854775808 := Nat.lt_succ_of_le hL0
  clear hL0
  simp only [pars, Nat.zero_add]
  have c1 := strings_Cut_len a0 [32]
  have c2 := strings_Cut_len (strings_Cut a0 [32]).2.1 [32]
  have c3 := strings_TrimSuffix_len (strings_Cut (strings_Cut a0 [32]).2.1 [32]).2.1 [115]
  have hrh := readHead_bd (strings_Cut a0 [32]).1 (by omega)
  obtain ⟨hr1, hr2, hr3⟩ := hrh
  iterate 6 refine rS ?_
  refine AWP.cond rfl (fun hb => ?_) (fun hb => ?_)
  · replace hR := ct hR
    iterate 4 refine rS ?_
    refine AWP.cond rfl (fun hb => ?_) (fun hb => ?_)
    · replace hR := ct hR
      refine rS ?_
      refine AWP.ret ?_
      subst hR
      exact es
    · replace hR := cf hR
      refine rS ?_
      refine AWP.ret ?_
      subst hR
      exact es
  · replace hR := cf hR
    refine rS ?_
    refine AWP.cond rfl (fun hb => ?_) (fun hb => ?_)
    · replace hR := ct hR
      refine rS ?_
      refine AWP.ret ?_
      subst hR
      exact es
    · replace hR := cf hR
      refine rS ?_
      refine AWP.ret ?_
      subst hR
      exact es
end N20
def D_impl_ReadCharacter : DF
  | [x0] => some (.tup [.agg (eCharacterO ((impl_ReadCharacter (rdS x0)).1)), .bool ((impl_ReadCharacter (rdS x0)).2)], false, [wS x0, (rdS x0).length < 1099511627776, (rdS x0).length ≤ 1048576])
  | _ => none
def Dz_impl_ReadCharacter : DF
  | [x0] => some (.tup [.agg (eCharacterO ((impl_ReadCharacter (rdS x0)).1)), .bool ((impl_ReadCharacter (rdS x0)).2)], true, [wS x0, (rdS x0).length < 1099511627776, (rdS x0).length ≤ 1048576])
  | _ => none
theorem D_impl_ReadCharacter_ok : OkD Tryz.prog 20 D_impl_ReadCharacter := by unfold D_impl_ReadCharacter; exact dk N20.den
theorem Dz_impl_ReadCharacter_ok : OkD Tryz.prog 20 Dz_impl_ReadCharacter := by unfold Dz_impl_ReadCharacter; exact dk N20.den
end Go.Ab

namespace Go.Ab
open Go Go.Proofs
theorem ts_eq (a b : List UInt8) : strings_TrimSuffix a b = Lib.trimSuffix a b := rfl
theorem colors_no (s : List UInt8) (h : spec_l05Colors s = true) : (32 : UInt8) ∉ s := by
  intro hm
  obtain ⟨i, hi, he⟩ := List.getElem_of_mem hm
  unfold spec_l05Colors at h
  cases hl : loopR (spec_l05Colors_b1 s) (s.length - 0) 0 () with
  | error e =>
    rw [hl] at h
    obtain ⟨j, t, _, _, h3⟩ := loopR_error hl
    unfold spec_l05Colors_b1 at h3
    simp only [Bool.cond_eq_ite] at h3
    split at h3
    · cases h3; simp at h
    · cases h3
  | ok u =>
    have hk := loopR_keep (fun k (_ : Unit) => ∀ j, j < k → spec_l05Rank ((s.getD j 0).toNat : Int) ≠ 0) hl (by intro j hj; omega) (fun j u v _ _ hI hv => by
      unfold spec_l05Colors_b1 at hv
      simp only [Bool.cond_eq_ite] at hv
      split at hv
      · cases hv
      · rename_i hn
        simp only [Bool.or_eq_true, beq_iff_eq, not_or] at hn
        intro q hq
        by_cases hqj : q = j
        · subst hqj; exact hn.1
        · exact hI q (by omega))
    have := hk i (by omega)
    rw [List.getD_eq_getElem?_getD, List.getElem?_eq_getElem hi, Option.getD_some, he] at this
    exact this rfl
theorem head_no (c : Character) (h : impl_Character_fits c = true) : (32 : UInt8) ∉ headT c := by
  have hk := kind_rng c h
  obtain ⟨g1, g2⟩ := fits_grp c h
  have h32 := (kt_no c.Kind hk).2
  unfold headT
  by_cases h8 : c.Kind = 8
  · rw [if_pos h8]
    obtain ⟨_, f2, f3, f4⟩ := fits_8 c h h8
    obtain ⟨x, hx⟩ := List.length_eq_one_iff.1 f2
    rw [hx] at f3 f4 ⊢
    simp only [List.getD_cons_zero] at f3 f4
    intro hm
    simp only [List.mem_append, List.mem_cons, List.not_mem_nil, or_false] at hm
    rcases hm with hm | hm | hm | hm
    · exact absurd hm (by decide)
    · exact absurd hm (by decide)
    · subst hm; exact absurd f3 (by decide)
    · exact absurd hm (by decide)
  · rw [if_neg h8]
    intro hm
    rcases List.mem_append.1 hm with hm | hm
    · exact h32 hm
    · rcases List.mem_append.1 hm with hm | hm
      · unfold grpT at hm
        split at hm
        · simp at hm
        · rcases List.mem_cons.1 hm with hm | hm
          · exact absurd hm (by decide)
          · rcases List.mem_append.1 hm with hm | hm
            · refine join_no 32 (by decide) (c.Group.map Lib.itoa) (fun y hy => ?_) hm
              obtain ⟨z, hz, rfl⟩ := List.mem_map.1 hy
              exact itoa_no (by have := g2 z hz; omega) 32 (by decide)
            · rw [List.mem_singleton] at hm; exact absurd hm (by decide)
      · split at hm
        · simp at hm
        · exact absurd hm (by decide)
theorem valid_colors (c : Character) (h : impl_ValidCharacter c = true) (hl : c.Colors.length < 9223372036854775808) : spec_l05Colors c.Colors = true := by
  unfold impl_ValidCharacter at h
  rw [colors_eq _ hl] at h
  cases hc : spec_l05Colors c.Colors with
  | true => rfl
  | false => rw [hc] at h; simp at h
theorem char_read (c : Character) (h : impl_ValidCharacter c = true) (hl : c.Colors.length < 9223372036854775808) : impl_ReadCharacter (chrT c) = (c, true) := by
  have hf := valid_fits c h
  have hr := head_read c hf
  have hp := period_nn c h
  have hp2 := (valid_rng c h).2.2
  have hcol := colors_no _ (valid_colors c h hl)
  have c1 : strings_Cut (chrT c) [32] = (headT c, c.Colors ++ perT c.Period, true) := by
    rw [ct_eq]; unfold chrT; rw [cut_app _ _ 32 (head_no c hf)]
  have htext := text_impl c h
  unfold impl_ReadCharacter
  rw [c1]
  simp only
  by_cases h0 : c.Period = 0
  · have c2 : strings_Cut (c.Colors ++ perT c.Period) [32] = (c.Colors, [], false) := by
      rw [h0, show perT 0 = [] from rfl, List.append_nil, ct_eq, cut_none _ 32 hcol]
    rw [c2, hr]
    simp only [cond_false]
    have ec : ({ Kind := c.Kind, Group := c.Group, Letter := c.Letter, Colors := c.Colors, Period := 0 : Character }) = c := by rw [← h0]
    simp only [ec, h, htext]
    simp
  · have e2 : perT c.Period = 32 :: (secT c.Period ++ [115]) := by unfold perT; rw [if_neg h0]
    have c2 : strings_Cut (c.Colors ++ perT c.Period) [32] = (c.Colors, secT c.Period ++ [115], true) := by
      rw [e2, ct_eq, cut_app _ _ 32 hcol]
    have c3 : strings_TrimSuffix (secT c.Period ++ [115]) [115] = secT c.Period := by rw [ts_eq, trimSuffix_app]
    rw [c2, hr]
    simp only [cond_true]
    rw [c3, sec_read _ (by omega) hp2]
    have ec : ({ Kind := c.Kind, Group := c.Group, Letter := c.Letter, Colors := c.Colors, Period := c.Period : Character }) = c := rfl
    simp only [ec, h, htext]
    simp
theorem char_read_inv (a : List UInt8) : impl_ReadCharacter a = ({ Kind := 0, Group := [], Letter := [], Colors := [], Period := 0 : Character }, false) ∨ ∃ c, impl_ValidCharacter c = true ∧ impl_CharacterText c = a ∧ impl_ReadCharacter a = (c, true) := by
  unfold impl_ReadCharacter
  cases (strings_Cut ((strings_Cut a [32]).2.1) [32]).2.2 with
  | true =>
    simp only [cond_true]
    generalize hc : ({ Kind := ((impl_readHead ((strings_Cut a [32]).1)).1).Kind, Group := ((impl_readHead ((strings_Cut a [32]).1)).1).Group, Letter := ((impl_readHead ((strings_Cut a [32]).1)).1).Letter, Colors := (strings_Cut ((strings_Cut a [32]).2.1) [32]).1, Period := (impl_readSeconds (strings_TrimSuffix ((strings_Cut ((strings_Cut a [32]).2.1) [32]).2.1) [115])).1 : Character }) = c
    cases hv : impl_ValidCharacter c with
    | false => left; simp
    | true =>
      by_cases ht : impl_CharacterText c = a
      · cases hq : ((impl_readHead ((strings_Cut a [32]).1)).2 && (impl_readSeconds (strings_TrimSuffix ((strings_Cut ((strings_Cut a [32]).2.1) [32]).2.1) [115])).2) with
        | true => right; exact ⟨c, hv, ht, by simp [ht]⟩
        | false => left; simp
      · left
        have : (impl_CharacterText c != a) = true := by simpa using ht
        rw [this]; simp
  | false =>
    simp only [cond_false]
    generalize hc : ({ Kind := ((impl_readHead ((strings_Cut a [32]).1)).1).Kind, Group := ((impl_readHead ((strings_Cut a [32]).1)).1).Group, Letter := ((impl_readHead ((strings_Cut a [32]).1)).1).Letter, Colors := (strings_Cut ((strings_Cut a [32]).2.1) [32]).1, Period := ((impl_readHead ((strings_Cut a [32]).1)).1).Period : Character }) = c
    cases hv : impl_ValidCharacter c with
    | false => left; simp
    | true =>
      by_cases ht : impl_CharacterText c = a
      · cases hq : (impl_readHead ((strings_Cut a [32]).1)).2 with
        | true => right; exact ⟨c, hv, ht, by simp [ht]⟩
        | false => left; simp
      · left
        have : (impl_CharacterText c != a) = true := by simpa using ht
        rw [this]; simp
end Go.Ab

namespace Go.Ab
open Go Go.Proofs
theorem l05split_len (a : List UInt8) (h : a.length ≤ 1048576) : (spec_l01Split a 43).length ≤ 1048577 := by
  rw [show spec_l01Split a 43 = splitC 43 a from spec_l01Split_eq a 43 (by omega)]
  have := (splitC_len 43 a).1
  omega
theorem l05split_el (a : List UInt8) (i : Nat) (h : a.length ≤ 1048576) : ((spec_l01Split a 43).getD i default).length ≤ 1048576 := by
  rw [show spec_l01Split a 43 = splitC 43 a from spec_l01Split_eq a 43 (by omega), List.getD_eq_getElem?_getD]
  cases hg : (splitC 43 a)[i]? with
  | none => show (0 : Nat) ≤ 1048576; omega
  | some x => have := (splitC_len 43 a).2 x (List.mem_of_getElem? hg); simp only [Option.getD_some]; omega
end Go.Ab

namespace Go.Ab
open Go
theorem l05head_ix (s : List UInt8) (i : Int) (h0 : 0 ≤ i) (h1 : i < (s.length : Int)) (hl : s.length ≤ 1048576)
    (hb : ((((s.getD i.toNat 0).toNat : Int) == 40) && (((s.getD (IntKind.wrap .i64 ((s.length : Int) - 1)).toNat 0).toNat : Int) == 41)) = true) :
    0 ≤ IntKind.wrap .i64 (i + 1) ∧ IntKind.wrap .i64 (i + 1) ≤ IntKind.wrap .i64 ((s.length : Int) - 1) ∧ IntKind.wrap .i64 ((s.length : Int) - 1) ≤ s.length := by
  have w1 : IntKind.wrap .i64 (i + 1) = i + 1 := by rw [IntKind.wrap_i64]; omega
  have w2 : IntKind.wrap .i64 ((s.length : Int) - 1) = (s.length : Int) - 1 := by rw [IntKind.wrap_i64]; omega
  rw [w2] at hb
  rw [w1, w2]
  simp only [Bool.and_eq_true, beq_iff_eq] at hb
  have hne : i ≠ (s.length : Int) - 1 := by
    intro h
    rw [← h, hb.1] at hb
    exact absurd hb.2 (by decide)
  omega
end Go.Ab

namespace Go.Ab
open Go Go.Proofs
def spec_l05Head_b1 (a0 : (List UInt8)) (s1 : List UInt8 × List UInt8 × Int) : Except (Sum ((Character × Bool)) (List UInt8 × List UInt8 × Int)) (List UInt8 × List UInt8 × Int) :=
  (bif decide (s1.2.2 < (s1.1.length : Int)) then (bif ((((s1.1.getD ((s1.2.2).toNat) 0).toNat : Int) == 40) && (((s1.1.getD ((IntKind.wrap .i64 ((s1.1.length : Int) - 1)).toNat) 0).toNat : Int) == 41)) then .error (.inr (s1.1.take ((s1.2.2).toNat), (s1.1.take ((IntKind.wrap .i64 ((s1.1.length : Int) - 1)).toNat)).drop ((IntKind.wrap .i64 (s1.2.2 + 1)).toNat), s1.2.2)) else .ok (s1.1, s1.2.1, IntKind.wrap .i64 (s1.2.2 + 1))) else .error (.inr (s1.1, s1.2.1, s1.2.2)))
def spec_l05Head_b2 (a0 : (List UInt8)) (s1 : List UInt8 × List UInt8 × Int) (i2 : Nat) (s2 : Int) : Except ((Character × Bool)) (Int) :=
  (bif (((spec_l05Kinds ).getD i2 default) == s1.1) then .ok (i2 : Int) else .ok s2)
def spec_l05Head_b3 (a0 : (List UInt8)) (s1 : List UInt8 × List UInt8 × Int) (s2 : Int) (i3 : Nat) (s3 : List Int) : Except ((Character × Bool)) (List Int) :=
  (bif (!((spec_l01Number ((spec_l01Split s1.2.1 43).getD i3 default)).2)) then .error ({ Kind := s2, Group := s3, Letter := [76], Colors := [], Period := 0 : Character }, false) else .ok (s3 ++ ([(spec_l01Number ((spec_l01Split s1.2.1 43).getD i3 default)).1] : List Int)))
def spec_l05Head_b4 (a0 : (List UInt8)) (s4 : List UInt8 × List UInt8 × Int) : Except (Sum ((Character × Bool)) (List UInt8 × List UInt8 × Int)) (List UInt8 × List UInt8 × Int) :=
  (bif decide (s4.2.2 < (s4.1.length : Int)) then (bif ((((s4.1.getD ((s4.2.2).toNat) 0).toNat : Int) == 40) && (((s4.1.getD ((IntKind.wrap .i64 ((s4.1.length : Int) - 1)).toNat) 0).toNat : Int) == 41)) then .error (.inr (s4.1.take ((s4.2.2).toNat), (s4.1.take ((IntKind.wrap .i64 ((s4.1.length : Int) - 1)).toNat)).drop ((IntKind.wrap .i64 (s4.2.2 + 1)).toNat), s4.2.2)) else .ok (s4.1, s4.2.1, IntKind.wrap .i64 (s4.2.2 + 1))) else .error (.inr (s4.1, s4.2.1, s4.2.2)))
def spec_l05Head_b5 (a0 : (List UInt8)) (s4 : List UInt8 × List UInt8 × Int) (i5 : Nat) (s5 : Int) : Except ((Character × Bool)) (Int) :=
  (bif (((spec_l05Kinds ).getD i5 default) == s4.1) then .ok (i5 : Int) else .ok s5)
def spec_l05Head_b6 (a0 : (List UInt8)) (s4 : List UInt8 × List UInt8 × Int) (s5 : Int) (i6 : Nat) (s6 : List Int) : Except ((Character × Bool)) (List Int) :=
  (bif (!((spec_l01Number ((spec_l01Split s4.2.1 43).getD i6 default)).2)) then .error ({ Kind := s5, Group := s6, Letter := [], Colors := [], Period := 0 : Character }, false) else .ok (s6 ++ ([(spec_l01Number ((spec_l01Split s4.2.1 43).getD i6 default)).1] : List Int)))
def spec_l05Head (a0 : (List UInt8)) : (Character × Bool) :=
  (bif (decide (4 < (a0.length : Int)) && (((a0.take a0.length).drop ((IntKind.wrap .i64 ((a0.length : Int) - 4)).toNat)) == [43, 76, 70, 108])) then (match loopW (spec_l05Head_b1 a0) (((a0.length - (0 : Int)).toNat) + 1) (a0.take ((IntKind.wrap .i64 ((a0.length : Int) - 4)).toNat), [], 0) with | .error (.inl e) => e | .error (.inr s1) => (match loopR (spec_l05Head_b2 a0 s1) (((spec_l05Kinds ).length) - 1) 1 0 with | .error e => e | .ok s2 => (bif (s2 == 8) then ({ Kind := s2, Group := [], Letter := [76] ++ s1.2.1, Colors := [], Period := 0 : Character }, true) else (bif (s1.2.1 == []) then ({ Kind := s2, Group := [], Letter := [76], Colors := [], Period := 0 : Character }, decide (0 < s2)) else (match loopR (spec_l05Head_b3 a0 s1 s2) (((spec_l01Split s1.2.1 43).length) - 0) 0 ([] : List Int) with | .error e => e | .ok s3 => ({ Kind := s2, Group := s3, Letter := [76], Colors := [], Period := 0 : Character }, decide (0 < s2)))))) | .ok _ => default) else (match loopW (spec_l05Head_b4 a0) (((a0.length - (0 : Int)).toNat) + 1) (a0, [], 0) with | .error (.inl e) => e | .error (.inr s4) => (match loopR (spec_l05Head_b5 a0 s4) (((spec_l05Kinds ).length) - 1) 1 0 with | .error e => e | .ok s5 => (bif (s5 == 8) then ({ Kind := s5, Group := [], Letter := [] ++ s4.2.1, Colors := [], Period := 0 : Character }, true) else (bif (s4.2.1 == []) then ({ Kind := s5, Group := [], Letter := [], Colors := [], Period := 0 : Character }, decide (0 < s5)) else (match loopR (spec_l05Head_b6 a0 s4 s5) (((spec_l01Split s4.2.1 43).length) - 0) 0 ([] : List Int) with | .error e => e | .ok s6 => ({ Kind := s5, Group := s6, Letter := [], Colors := [], Period := 0 : Character }, decide (0 < s5)))))) | .ok _ => default))
namespace N84
theorem DD : DOk Tryz.prog (Go.Ab.DD [(125, dP D_spec_l05Kinds), (80, dP D_spec_l01Split), (82, dP D_spec_l01Number)]) := DD_cons D_spec_l05Kinds_ok.e <| DD_cons D_spec_l01Split_ok.e <| DD_cons D_spec_l01Number_ok.e <| DD_nil _
theorem dn : type_of% (And.intro @D_spec_l05Kinds.eq_1 <| And.intro @D_spec_l01Split.eq_1 <| @D_spec_l01Number.eq_1) := by and_intros <;> intros <;> rfl
theorem gr {p : Prop} (h : p := by (grind [l05split_len, l05split_el]); first | done | fail) : p := h
theorem o0 {p : Prop} (h : p := by (first | (exact l05head_ix _ _ (by omega) (of_decide_eq_true (by assumption)) (by omega) hb) | (refine ⟨⟨by omega, by omega⟩, by omega, l05split_el _ _ (by first | omega | (simp only [List.length_drop, List.length_take]; omega))⟩) | (have h9 := l05split_len (List.drop (IntKind.wrap .i64 (s1.2.2 + 1)).toNat (List.take (IntKind.wrap .i64 ((s1.1.length : Int) - 1)).toNat s1.1)) (by simp only [List.length_drop, List.length_take]; omega); first | omega | (and_intros <;> omega)) | (have h9 := l05split_len s1.2.1 (by omega); first | omega | (and_intros <;> omega)) | (have h9 := l05split_len (List.drop (IntKind.wrap .i64 (s4.2.2 + 1)).toNat (List.take (IntKind.wrap .i64 ((s4.1.length : Int) - 1)).toNat s4.1)) (by simp only [List.length_drop, List.length_take]; omega); first | omega | (and_intros <;> omega)) | (have h9 := l05split_len s4.2.1 (by omega); first | omega | (and_intros <;> omega)) | (simp only [List.length_drop, List.length_take]; omega) | (and_intros <;> first | omega | (simp only [List.length_drop, List.length_take]; omega))); first | done | fail) : p := h
theorem o2 {p : Prop} (h : p := by (first | (and_intros <;> first | omega | (rw [IntKind.wrap_i64]; omega) | (intro i hi; exact app1_get _ _ i hi) | (intro i hi; rw [app1_get _ _ i hi]; exact simOL_refl _) | (simp only [List.length_append, List.length_singleton]; (first | done | fail)) | (rw [IntKind.wrap_i64]; first | (have h9 := l05split_len (List.drop (IntKind.wrap .i64 (s1.2.2 + 1)).toNat (List.take (IntKind.wrap .i64 ((s1.1.length : Int) - 1)).toNat s1.1)) (by simp only [List.length_drop, List.length_take]; omega); first | omega | (and_intros <;> omega)) | (have h9 := l05split_len s1.2.1 (by omega); first | omega | (and_intros <;> omega)) | (have h9 := l05split_len (List.drop (IntKind.wrap .i64 (s4.2.2 + 1)).toNat (List.take (IntKind.wrap .i64 ((s4.1.length : Int) - 1)).toNat s4.1)) (by simp only [List.length_drop, List.length_take]; omega); first | omega | (and_intros <;> omega)) | (have h9 := l05split_len s4.2.1 (by omega); first | omega | (and_intros <;> omega))) | (simp; (first | done | fail)))); first | done | fail) : p := h
set_option maxHeartbeats 2000000 in
set_option maxRecDepth 20000 in
theorem den (a0 : (List UInt8)) (hb0 : a0.length < 1099511627776) (hp0 : a0.length ≤ 1048576) : Den Tryz.prog 84 [.str a0] (.tup [.agg (eCharacterO ((spec_l05Head a0).1)), .bool ((spec_l05Head a0).2)]) := by
  generalize hR : spec_l05Head a0 = r
  unfold spec_l05Head at hR
  refine di Tryz.func84 Tryz.ntmps84 Tryz.results84 ?_
  intro c hL hc hk
  obtain ⟨hL0, _⟩ := hL
  have hw0 : a0.length < 9223372036854775808 := Nat.lt_succ_of_le hL0
  clear hL0
  simp only [pars, Nat.zero_add]
  have hk8 : spec_l05Kinds.length = 9 := rfl
  iterate 3 refine rS ?_
  refine AWP.cond rfl (fun hb => ?_) (fun hb => ?_)
  · replace hR := ct hR
    iterate 4 refine rS ?_
    refine AWP.block ?_
    generalize hz1 : loopW (spec_l05Head_b1 a0) (((a0.length - (0 : Int)).toNat) + 1) (a0.take ((IntKind.wrap .i64 ((a0.length : Int) - 4)).toNat), [], 0) = z1 at hR
    refine AWP.whileW (spec_l05Head_b1 a0) (fun s1 => ⟨[(0, .str s1.1), (2, .ptr 0 0), (4, .ptr 1 0), (5, .str s1.2.1), (6, .int .i64 s1.2.2)], [.box [.int .i64 0, .nils, .str [], .str [], .int .i64 0], .box [.int .i64 0, .nils, .str [76], .str [], .int .i64 0]]⟩) (fun s1 => 0 ≤ s1.2.2 ∧ s1.2.2 ≤ s1.1.length ∧ s1.1.length ≤ a0.length ∧ s1.2.1.length ≤ 1048576) (fun s1 => (a0.length - s1.2.2).toNat) (((a0.length - (0 : Int)).toNat) + 1) (a0.take ((IntKind.wrap .i64 ((a0.length : Int) - 4)).toNat), [], 0) [0, 1] hz1 m0 wt sm ?_
    clear hz1
    intro s1 k1 hW1 hm1 hz1
    simp only [spec_l05Head_b1] at hz1
    refine rS ?_
    refine AWP.cond rfl (fun hb => ?_) (fun hb => ?_)
    · simp only [hb, cond_true] at hz1
      refine rS ?_
      refine AWP.cond rfl (fun hb => ?_) (fun hb => ?_)
      · simp only [hb, cond_true] at hz1
        iterate 2 refine rS ?_
        refine AWP.exit ?_
        refine exitTo_there rfl ?_
        refine exitTo_here ?_
        subst hz1; dsimp only at hR
        iterate 2 refine rS ?_
        refine AWP.block ?_
        generalize hz2 : loopR (spec_l05Head_b2 a0 (s1.1.take ((s1.2.2).toNat), (s1.1.take ((IntKind.wrap .i64 ((s1.1.length : Int) - 1)).toNat)).drop ((IntKind.wrap .i64 (s1.2.2 + 1)).toNat), s1.2.2)) (((spec_l05Kinds ).length) - 1) 1 0 = z2 at hR
        refine AWP.range (spec_l05Head_b2 a0 (s1.1.take ((s1.2.2).toNat), (s1.1.take ((IntKind.wrap .i64 ((s1.1.length : Int) - 1)).toNat)).drop ((IntKind.wrap .i64 (s1.2.2 + 1)).toNat), s1.2.2)) (fun i2 s2 => ⟨[(0, .str (s1.1.take ((s1.2.2).toNat))), (2, .ptr 0 0), (4, .ptr 1 0), (5, .str ((s1.1.take ((IntKind.wrap .i64 ((s1.1.length : Int) - 1)).toNat)).drop ((IntKind.wrap .i64 (s1.2.2 + 1)).toNat))), (7, .ref 2 1 0 ((spec_l05Kinds ).length)), (8, .int .i64 (i2 : Int))], [.box [.int .i64 0, .nils, .str [], .str [], .int .i64 0], .box [.int .i64 s2, .nils, .str [76], .str [], .int .i64 0], .arr 9 1 (spec_l05Kinds ).length (fun j => eS ((spec_l05Kinds ).getD j default))]⟩) (fun i2 s2 => 1 ≤ i2) (((spec_l05Kinds ).length)) 1 0 [0, 1, 2] hz2 ot wt sm ?_
        clear hz2
        intro i2 s2 hi2 hW2 hz2
        refine rS ?_
        refine AWP.cond rfl (fun hb => ?_) (fun hb => ?_)
        · have hlt2 : i2 < ((spec_l05Kinds ).length) := ot
          rw [loopR_lt hlt2] at hz2; simp only [spec_l05Head_b2] at hz2
          refine rS ?_
          refine AWP.cond rfl (fun hb => ?_) (fun hb => ?_)
          · simp only [hb, cond_true] at hz2
            iterate 2 refine rS ?_
            exact ⟨_, [0, 1, 2], hlt2, wt, hz2, sm⟩
          · simp only [hb, cond_false] at hz2
            refine rS ?_
            exact ⟨_, [0, 1, 2], hlt2, wt, hz2, sm⟩
        · obtain rfl : i2 = ((spec_l05Kinds ).length) := ot
          rw [loopR_ge (Nat.le_refl _)] at hz2; subst hz2; dsimp only at hR
          refine AWP.exit ?_; refine exitTo_here ?_
          refine rS ?_
          refine AWP.cond rfl (fun hb => ?_) (fun hb => ?_)
          · replace hR := ct hR
            iterate 2 refine rS ?_
            refine AWP.ret ?_
            subst hR
            exact es
          · replace hR := cf hR
            refine rS ?_
            refine AWP.cond rfl (fun hb => ?_) (fun hb => ?_)
            · replace hR := ct hR
              refine AWP.seq ?_
              refine AWP.regP mixed G_ok DD hc 5 [0, 1, 2, 3] (.alt 4 [] [1, 2, 3] .leaf .stop) (by kernel_rfl) (by kernel_rfl) (by kernel_rfl) (fun K hK => ?_); simp only [rootP, runN, runP, recheck, nthO, ea, absV, absVL, gv, sv, dn, reduceCtorEq, reduceIte, Nat.reduceBEq, Nat.reduceAdd, Nat.reduceEqDiff, Nat.reduceLT, Nat.reduceLeDiff, Nat.reduceMul, Nat.reduceSub, BEq.rfl, beq_self_eq_true, Int.reduceToNat]
              repeat' apply And.intro
              all_goals first | refine hK _ ?_ | exact ot
              all_goals clear hK K
              refine AWP.ret ?_
              subst hR
              exact es
            · replace hR := cf hR
              iterate 2 refine rS ?_
              refine AWP.block ?_
              refine AWP.nilB 1 1 2 1 (fun _ => []) rfl rfl ?_; try simp only [ea, absV, absVL, gv, sv, dn, reduceCtorEq, reduceIte, Nat.reduceBEq, Nat.reduceAdd, Nat.reduceEqDiff, Nat.reduceLT, Nat.reduceLeDiff, Nat.reduceMul, Nat.reduceSub, BEq.rfl, beq_self_eq_true, Int.reduceToNat]
              generalize hz3 : loopR (spec_l05Head_b3 a0 (s1.1.take ((s1.2.2).toNat), (s1.1.take ((IntKind.wrap .i64 ((s1.1.length : Int) - 1)).toNat)).drop ((IntKind.wrap .i64 (s1.2.2 + 1)).toNat), s1.2.2) s2) (((spec_l01Split ((s1.1.take ((IntKind.wrap .i64 ((s1.1.length : Int) - 1)).toNat)).drop ((IntKind.wrap .i64 (s1.2.2 + 1)).toNat)) 43).length) - 0) 0 ([] : List Int) = z3 at hR
              refine AWP.range (spec_l05Head_b3 a0 (s1.1.take ((s1.2.2).toNat), (s1.1.take ((IntKind.wrap .i64 ((s1.1.length : Int) - 1)).toNat)).drop ((IntKind.wrap .i64 (s1.2.2 + 1)).toNat), s1.2.2) s2) (fun i3 s3 => ⟨[(2, .ptr 0 0), (4, .ptr 1 0), (9, .ref 3 1 0 ((spec_l01Split ((s1.1.take ((IntKind.wrap .i64 ((s1.1.length : Int) - 1)).toNat)).drop ((IntKind.wrap .i64 (s1.2.2 + 1)).toNat)) 43).length)), (10, .int .i64 (i3 : Int))], [.box [.int .i64 0, .nils, .str [], .str [], .int .i64 0], .box [.int .i64 s2, .ref 2 1 0 s3.length, .str [76], .str [], .int .i64 0], .arr 2 1 s3.length (fun j => eIi64 (s3.getD j default)), .arr 9 1 (spec_l01Split ((s1.1.take ((IntKind.wrap .i64 ((s1.1.length : Int) - 1)).toNat)).drop ((IntKind.wrap .i64 (s1.2.2 + 1)).toNat)) 43).length (fun j => eS ((spec_l01Split ((s1.1.take ((IntKind.wrap .i64 ((s1.1.length : Int) - 1)).toNat)).drop ((IntKind.wrap .i64 (s1.2.2 + 1)).toNat)) 43).getD j default))]⟩) (fun i3 s3 => s3.length ≤ i3) (((spec_l01Split ((s1.1.take ((IntKind.wrap .i64 ((s1.1.length : Int) - 1)).toNat)).drop ((IntKind.wrap .i64 (s1.2.2 + 1)).toNat)) 43).length)) 0 ([] : List Int) [0, 1, 4, 3] hz3 ot wt sm ?_
              clear hz3
              intro i3 s3 hi3 hW3 hz3
              refine rS ?_
              refine AWP.cond rfl (fun hb => ?_) (fun hb => ?_)
              · have hlt3 : i3 < ((spec_l01Split ((s1.1.take ((IntKind.wrap .i64 ((s1.1.length : Int) - 1)).toNat)).drop ((IntKind.wrap .i64 (s1.2.2 + 1)).toNat)) 43).length) := ot
                rw [loopR_lt hlt3] at hz3; simp only [spec_l05Head_b3] at hz3
                iterate 2 refine rS ?_
                refine AWP.cond rfl (fun hb => ?_) (fun hb => ?_)
                · simp only [hb, cond_true] at hz3
                  refine rS ?_
                  refine AWP.ret ?_
                  subst hz3
                  dsimp only at hR
                  subst hR
                  exact es
                · simp only [hb, cond_false] at hz3
                  iterate 2 refine rS ?_
                  exact ⟨_, [0, 1, 5, 3], hlt3, by (simp only [List.length_append, List.length_singleton]; omega), hz3, sm⟩
              · obtain rfl : i3 = ((spec_l01Split ((s1.1.take ((IntKind.wrap .i64 ((s1.1.length : Int) - 1)).toNat)).drop ((IntKind.wrap .i64 (s1.2.2 + 1)).toNat)) 43).length) := ot
                rw [loopR_ge (Nat.le_refl _)] at hz3; subst hz3; dsimp only at hR
                refine AWP.exit ?_; refine exitTo_here ?_
                refine AWP.seq ?_
                refine AWP.regP mixed G_ok DD hc 5 [0, 1, 2, 3] (.alt 4 [] [1, 2, 3] .leaf .stop) (by kernel_rfl) (by kernel_rfl) (by kernel_rfl) (fun K hK => ?_); simp only [rootP, runN, runP, recheck, nthO, ea, absV, absVL, gv, sv, dn, reduceCtorEq, reduceIte, Nat.reduceBEq, Nat.reduceAdd, Nat.reduceEqDiff, Nat.reduceLT, Nat.reduceLeDiff, Nat.reduceMul, Nat.reduceSub, BEq.rfl, beq_self_eq_true, Int.reduceToNat]
                repeat' apply And.intro
                all_goals first | refine hK _ ?_ | exact ot
                all_goals clear hK K
                refine AWP.ret ?_
                subst hR
                exact es
      · simp only [hb, cond_false] at hz1
        refine rS ?_
        exact ⟨_, [0, 1], ms, wt, hz1, sm⟩
    · simp only [hb, cond_false] at hz1
      refine AWP.exit ?_
      refine exitTo_here ?_
      subst hz1; dsimp only at hR
      iterate 2 refine rS ?_
      refine AWP.block ?_
      generalize hz2 : loopR (spec_l05Head_b2 a0 (s1.1, s1.2.1, s1.2.2)) (((spec_l05Kinds ).length) - 1) 1 0 = z2 at hR
      refine AWP.range (spec_l05Head_b2 a0 (s1.1, s1.2.1, s1.2.2)) (fun i2 s2 => ⟨[(0, .str s1.1), (2, .ptr 0 0), (4, .ptr 1 0), (5, .str s1.2.1), (7, .ref 2 1 0 ((spec_l05Kinds ).length)), (8, .int .i64 (i2 : Int))], [.box [.int .i64 0, .nils, .str [], .str [], .int .i64 0], .box [.int .i64 s2, .nils, .str [76], .str [], .int .i64 0], .arr 9 1 (spec_l05Kinds ).length (fun j => eS ((spec_l05Kinds ).getD j default))]⟩) (fun i2 s2 => 1 ≤ i2) (((spec_l05Kinds ).length)) 1 0 [0, 1, 2] hz2 ot wt sm ?_
      clear hz2
      intro i2 s2 hi2 hW2 hz2
      refine rS ?_
      refine AWP.cond rfl (fun hb => ?_) (fun hb => ?_)
      · have hlt2 : i2 < ((spec_l05Kinds ).length) := ot
        rw [loopR_lt hlt2] at hz2; simp only [spec_l05Head_b2] at hz2
        refine rS ?_
        refine AWP.cond rfl (fun hb => ?_) (fun hb => ?_)
        · simp only [hb, cond_true] at hz2
          iterate 2 refine rS ?_
          exact ⟨_, [0, 1, 2], hlt2, wt, hz2, sm⟩
        · simp only [hb, cond_false] at hz2
          refine rS ?_
          exact ⟨_, [0, 1, 2], hlt2, wt, hz2, sm⟩
      · obtain rfl : i2 = ((spec_l05Kinds ).length) := ot
        rw [loopR_ge (Nat.le_refl _)] at hz2; subst hz2; dsimp only at hR
        refine AWP.exit ?_; refine exitTo_here ?_
        refine rS ?_
        refine AWP.cond rfl (fun hb => ?_) (fun hb => ?_)
        · replace hR := ct hR
          iterate 2 refine rS ?_
          refine AWP.ret ?_
          subst hR
          exact es
        · replace hR := cf hR
          refine rS ?_
          refine AWP.cond rfl (fun hb => ?_) (fun hb => ?_)
          · replace hR := ct hR
            refine AWP.seq ?_
            refine AWP.regP mixed G_ok DD hc 5 [0, 1, 2, 3] (.alt 4 [] [1, 2, 3] .leaf .stop) (by kernel_rfl) (by kernel_rfl) (by kernel_rfl) (fun K hK => ?_); simp only [rootP, runN, runP, recheck, nthO, ea, absV, absVL, gv, sv, dn, reduceCtorEq, reduceIte, Nat.reduceBEq, Nat.reduceAdd, Nat.reduceEqDiff, Nat.reduceLT, Nat.reduceLeDiff, Nat.reduceMul, Nat.reduceSub, BEq.rfl, beq_self_eq_true, Int.reduceToNat]
            repeat' apply And.intro
            all_goals first | refine hK _ ?_ | exact ot
            all_goals clear hK K
            refine AWP.ret ?_
            subst hR
            exact es
          · replace hR := cf hR
            iterate 2 refine rS ?_
            refine AWP.block ?_
            refine AWP.nilB 1 1 2 1 (fun _ => []) rfl rfl ?_; try simp only [ea, absV, absVL, gv, sv, dn, reduceCtorEq, reduceIte, Nat.reduceBEq, Nat.reduceAdd, Nat.reduceEqDiff, Nat.reduceLT, Nat.reduceLeDiff, Nat.reduceMul, Nat.reduceSub, BEq.rfl, beq_self_eq_true, Int.reduceToNat]
            generalize hz3 : loopR (spec_l05Head_b3 a0 (s1.1, s1.2.1, s1.2.2) s2) (((spec_l01Split s1.2.1 43).length) - 0) 0 ([] : List Int) = z3 at hR
            refine AWP.range (spec_l05Head_b3 a0 (s1.1, s1.2.1, s1.2.2) s2) (fun i3 s3 => ⟨[(2, .ptr 0 0), (4, .ptr 1 0), (9, .ref 3 1 0 ((spec_l01Split s1.2.1 43).length)), (10, .int .i64 (i3 : Int))], [.box [.int .i64 0, .nils, .str [], .str [], .int .i64 0], .box [.int .i64 s2, .ref 2 1 0 s3.length, .str [76], .str [], .int .i64 0], .arr 2 1 s3.length (fun j => eIi64 (s3.getD j default)), .arr 9 1 (spec_l01Split s1.2.1 43).length (fun j => eS ((spec_l01Split s1.2.1 43).getD j default))]⟩) (fun i3 s3 => s3.length ≤ i3) (((spec_l01Split s1.2.1 43).length)) 0 ([] : List Int) [0, 1, 4, 3] hz3 ot wt sm ?_
            clear hz3
            intro i3 s3 hi3 hW3 hz3
            refine rS ?_
            refine AWP.cond rfl (fun hb => ?_) (fun hb => ?_)
            · have hlt3 : i3 < ((spec_l01Split s1.2.1 43).length) := ot
              rw [loopR_lt hlt3] at hz3; simp only [spec_l05Head_b3] at hz3
              iterate 2 refine rS ?_
              refine AWP.cond rfl (fun hb => ?_) (fun hb => ?_)
              · simp only [hb, cond_true] at hz3
                refine rS ?_
                refine AWP.ret ?_
                subst hz3
                dsimp only at hR
                subst hR
                exact es
              · simp only [hb, cond_false] at hz3
                iterate 2 refine rS ?_
                exact ⟨_, [0, 1, 5, 3], hlt3, by (simp only [List.length_append, List.length_singleton]; omega), hz3, sm⟩
            · obtain rfl : i3 = ((spec_l01Split s1.2.1 43).length) := ot
              rw [loopR_ge (Nat.le_refl _)] at hz3; subst hz3; dsimp only at hR
              refine AWP.exit ?_; refine exitTo_here ?_
              refine AWP.seq ?_
              refine AWP.regP mixed G_ok DD hc 5 [0, 1, 2, 3] (.alt 4 [] [1, 2, 3] .leaf .stop) (by kernel_rfl) (by kernel_rfl) (by kernel_rfl) (fun K hK => ?_); simp only [rootP, runN, runP, recheck, nthO, ea, absV, absVL, gv, sv, dn, reduceCtorEq, reduceIte, Nat.reduceBEq, Nat.reduceAdd, Nat.reduceEqDiff, Nat.reduceLT, Nat.reduceLeDiff, Nat.reduceMul, Nat.reduceSub, BEq.rfl, beq_self_eq_true, Int.reduceToNat]
              repeat' apply And.intro
              all_goals first | refine hK _ ?_ | exact ot
              all_goals clear hK K
              refine AWP.ret ?_
              subst hR
              exact es
  · replace hR := cf hR
    iterate 2 refine rS ?_
    refine AWP.block ?_
    generalize hz4 : loopW (spec_l05Head_b4 a0) (((a0.length - (0 : Int)).toNat) + 1) (a0, [], 0) = z4 at hR
    refine AWP.whileW (spec_l05Head_b4 a0) (fun s4 => ⟨[(0, .str s4.1), (2, .ptr 0 0), (4, .ptr 1 0), (5, .str s4.2.1), (6, .int .i64 s4.2.2)], [.box [.int .i64 0, .nils, .str [], .str [], .int .i64 0], .box [.int .i64 0, .nils, .str [], .str [], .int .i64 0]]⟩) (fun s4 => 0 ≤ s4.2.2 ∧ s4.2.2 ≤ s4.1.length ∧ s4.1.length ≤ a0.length ∧ s4.2.1.length ≤ 1048576) (fun s4 => (a0.length - s4.2.2).toNat) (((a0.length - (0 : Int)).toNat) + 1) (a0, [], 0) [0, 1] hz4 m0 wt sm ?_
    clear hz4
    intro s4 k4 hW4 hm4 hz4
    simp only [spec_l05Head_b4] at hz4
    refine rS ?_
    refine AWP.cond rfl (fun hb => ?_) (fun hb => ?_)
    · simp only [hb, cond_true] at hz4
      refine rS ?_
      refine AWP.cond rfl (fun hb => ?_) (fun hb => ?_)
      · simp only [hb, cond_true] at hz4
        iterate 2 refine rS ?_
        refine AWP.exit ?_
        refine exitTo_there rfl ?_
        refine exitTo_here ?_
        subst hz4; dsimp only at hR
        iterate 2 refine rS ?_
        refine AWP.block ?_
        generalize hz5 : loopR (spec_l05Head_b5 a0 (s4.1.take ((s4.2.2).toNat), (s4.1.take ((IntKind.wrap .i64 ((s4.1.length : Int) - 1)).toNat)).drop ((IntKind.wrap .i64 (s4.2.2 + 1)).toNat), s4.2.2)) (((spec_l05Kinds ).length) - 1) 1 0 = z5 at hR
        refine AWP.range (spec_l05Head_b5 a0 (s4.1.take ((s4.2.2).toNat), (s4.1.take ((IntKind.wrap .i64 ((s4.1.length : Int) - 1)).toNat)).drop ((IntKind.wrap .i64 (s4.2.2 + 1)).toNat), s4.2.2)) (fun i5 s5 => ⟨[(0, .str (s4.1.take ((s4.2.2).toNat))), (2, .ptr 0 0), (4, .ptr 1 0), (5, .str ((s4.1.take ((IntKind.wrap .i64 ((s4.1.length : Int) - 1)).toNat)).drop ((IntKind.wrap .i64 (s4.2.2 + 1)).toNat))), (7, .ref 2 1 0 ((spec_l05Kinds ).length)), (8, .int .i64 (i5 : Int))], [.box [.int .i64 0, .nils, .str [], .str [], .int .i64 0], .box [.int .i64 s5, .nils, .str [], .str [], .int .i64 0], .arr 9 1 (spec_l05Kinds ).length (fun j => eS ((spec_l05Kinds ).getD j default))]⟩) (fun i5 s5 => 1 ≤ i5) (((spec_l05Kinds ).length)) 1 0 [0, 1, 2] hz5 ot wt sm ?_
        clear hz5
        intro i5 s5 hi5 hW5 hz5
        refine rS ?_
        refine AWP.cond rfl (fun hb => ?_) (fun hb => ?_)
        · have hlt5 : i5 < ((spec_l05Kinds ).length) := ot
          rw [loopR_lt hlt5] at hz5; simp only [spec_l05Head_b5] at hz5
          refine rS ?_
          refine AWP.cond rfl (fun hb => ?_) (fun hb => ?_)
          · simp only [hb, cond_true] at hz5
            iterate 2 refine rS ?_
            exact ⟨_, [0, 1, 2], hlt5, wt, hz5, sm⟩
          · simp only [hb, cond_false] at hz5
            refine rS ?_
            exact ⟨_, [0, 1, 2], hlt5, wt, hz5, sm⟩
        · obtain rfl : i5 = ((spec_l05Kinds ).length) := ot
          rw [loopR_ge (Nat.le_refl _)] at hz5; subst hz5; dsimp only at hR
          refine AWP.exit ?_; refine exitTo_here ?_
          refine rS ?_
          refine AWP.cond rfl (fun hb => ?_) (fun hb => ?_)
          · replace hR := ct hR
            iterate 2 refine rS ?_
            refine AWP.ret ?_
            subst hR
            exact es
          · replace hR := cf hR
            refine rS ?_
            refine AWP.cond rfl (fun hb => ?_) (fun hb => ?_)
            · replace hR := ct hR
              refine AWP.seq ?_
              refine AWP.regP mixed G_ok DD hc 5 [0, 1, 2, 3] (.alt 4 [] [1, 2, 3] .leaf .stop) (by kernel_rfl) (by kernel_rfl) (by kernel_rfl) (fun K hK => ?_); simp only [rootP, runN, runP, recheck, nthO, ea, absV, absVL, gv, sv, dn, reduceCtorEq, reduceIte, Nat.reduceBEq, Nat.reduceAdd, Nat.reduceEqDiff, Nat.reduceLT, Nat.reduceLeDiff, Nat.reduceMul, Nat.reduceSub, BEq.rfl, beq_self_eq_true, Int.reduceToNat]
              repeat' apply And.intro
              all_goals first | refine hK _ ?_ | exact ot
              all_goals clear hK K
              refine AWP.ret ?_
              subst hR
              exact es
            · replace hR := cf hR
              iterate 2 refine rS ?_
              refine AWP.block ?_
              refine AWP.nilB 1 1 2 1 (fun _ => []) rfl rfl ?_; try simp only [ea, absV, absVL, gv, sv, dn, reduceCtorEq, reduceIte, Nat.reduceBEq, Nat.reduceAdd, Nat.reduceEqDiff, Nat.reduceLT, Nat.reduceLeDiff, Nat.reduceMul, Nat.reduceSub, BEq.rfl, beq_self_eq_true, Int.reduceToNat]
              generalize hz6 : loopR (spec_l05Head_b6 a0 (s4.1.take ((s4.2.2).toNat), (s4.1.take ((IntKind.wrap .i64 ((s4.1.length : Int) - 1)).toNat)).drop ((IntKind.wrap .i64 (s4.2.2 + 1)).toNat), s4.2.2) s5) (((spec_l01Split ((s4.1.take ((IntKind.wrap .i64 ((s4.1.length : Int) - 1)).toNat)).drop ((IntKind.wrap .i64 (s4.2.2 + 1)).toNat)) 43).length) - 0) 0 ([] : List Int) = z6 at hR
              refine AWP.range (spec_l05Head_b6 a0 (s4.1.take ((s4.2.2).toNat), (s4.1.take ((IntKind.wrap .i64 ((s4.1.length : Int) - 1)).toNat)).drop ((IntKind.wrap .i64 (s4.2.2 + 1)).toNat), s4.2.2) s5) (fun i6 s6 => ⟨[(2, .ptr 0 0), (4, .ptr 1 0), (9, .ref 3 1 0 ((spec_l01Split ((s4.1.take ((IntKind.wrap .i64 ((s4.1.length : Int) - 1)).toNat)).drop ((IntKind.wrap .i64 (s4.2.2 + 1)).toNat)) 43).length)), (10, .int .i64 (i6 : Int))], [.box [.int .i64 0, .nils, .str [], .str [], .int .i64 0], .box [.int .i64 s5, .ref 2 1 0 s6.length, .str [], .str [], .int .i64 0], .arr 2 1 s6.length (fun j => eIi64 (s6.getD j default)), .arr 9 1 (spec_l01Split ((s4.1.take ((IntKind.wrap .i64 ((s4.1.length : Int) - 1)).toNat)).drop ((IntKind.wrap .i64 (s4.2.2 + 1)).toNat)) 43).length (fun j => eS ((spec_l01Split ((s4.1.take ((IntKind.wrap .i64 ((s4.1.length : Int) - 1)).toNat)).drop ((IntKind.wrap .i64 (s4.2.2 + 1)).toNat)) 43).getD j default))]⟩) (fun i6 s6 => s6.length ≤ i6) (((spec_l01Split ((s4.1.take ((IntKind.wrap .i64 ((s4.1.length : Int) - 1)).toNat)).drop ((IntKind.wrap .i64 (s4.2.2 + 1)).toNat)) 43).length)) 0 ([] : List Int) [0, 1, 4, 3] hz6 ot wt sm ?_
              clear hz6
              intro i6 s6 hi6 hW6 hz6
              refine rS ?_
              refine AWP.cond rfl (fun hb => ?_) (fun hb => ?_)
              · have hlt6 : i6 < ((spec_l01Split ((s4.1.take ((IntKind.wrap .i64 ((s4.1.length : Int) - 1)).toNat)).drop ((IntKind.wrap .i64 (s4.2.2 + 1)).toNat)) 43).length) := ot
                rw [loopR_lt hlt6] at hz6; simp only [spec_l05Head_b6] at hz6
                iterate 2 refine rS ?_
                refine AWP.cond rfl (fun hb => ?_) (fun hb => ?_)
                · simp only [hb, cond_true] at hz6
                  refine rS ?_
                  refine AWP.ret ?_
                  subst hz6
                  dsimp only at hR
                  subst hR
                  exact es
                · simp only [hb, cond_false] at hz6
                  iterate 2 refine rS ?_
                  exact ⟨_, [0, 1, 5, 3], hlt6, by (simp only [List.length_append, List.length_singleton]; omega), hz6, sm⟩
              · obtain rfl : i6 = ((spec_l01Split ((s4.1.take ((IntKind.wrap .i64 ((s4.1.length : Int) - 1)).toNat)).drop ((IntKind.wrap .i64 (s4.2.2 + 1)).toNat)) 43).length) := ot
                rw [loopR_ge (Nat.le_refl _)] at hz6; subst hz6; dsimp only at hR
                refine AWP.exit ?_; refine exitTo_here ?_
                refine AWP.seq ?_
                refine AWP.regP mixed G_ok DD hc 5 [0, 1, 2, 3] (.alt 4 [] [1, 2, 3] .leaf .stop) (by kernel_rfl) (by kernel_rfl) (by kernel_rfl) (fun K hK => ?_); simp only [rootP, runN, runP, recheck, nthO, ea, absV, absVL, gv, sv, dn, reduceCtorEq, reduceIte, Nat.reduceBEq, Nat.reduceAdd, Nat.reduceEqDiff, Nat.reduceLT, Nat.reduceLeDiff, Nat.reduceMul, Nat.reduceSub, BEq.rfl, beq_self_eq_true, Int.reduceToNat]
                repeat' apply And.intro
                all_goals first | refine hK _ ?_ | exact ot
                all_goals clear hK K
                refine AWP.ret ?_
                subst hR
                exact es
      · simp only [hb, cond_false] at hz4
        refine rS ?_
        exact ⟨_, [0, 1], ms, wt, hz4, sm⟩
    · simp only [hb, cond_false] at hz4
      refine AWP.exit ?_
      refine exitTo_here ?_
      subst hz4; dsimp only at hR
      iterate 2 refine rS ?_
      refine AWP.block ?_
      generalize hz5 : loopR (spec_l05Head_b5 a0 (s4.1, s4.2.1, s4.2.2)) (((spec_l05Kinds ).length) - 1) 1 0 = z5 at hR
      refine AWP.range (spec_l05Head_b5 a0 (s4.1, s4.2.1, s4.2.2)) (fun i5 s5 => ⟨[(0, .str s4.1), (2, .ptr 0 0), (4, .ptr 1 0), (5, .str s4.2.1), (7, .ref 2 1 0 ((spec_l05Kinds ).length)), (8, .int .i64 (i5 : Int))], [.box [.int .i64 0, .nils, .str [], .str [], .int .i64 0], .box [.int .i64 s5, .nils, .str [], .str [], .int .i64 0], .arr 9 1 (spec_l05Kinds ).length (fun j => eS ((spec_l05Kinds ).getD j default))]⟩) (fun i5 s5 => 1 ≤ i5) (((spec_l05Kinds ).length)) 1 0 [0, 1, 2] hz5 ot wt sm ?_
      clear hz5
      intro i5 s5 hi5 hW5 hz5
      refine rS ?_
      refine AWP.cond rfl (fun hb => ?_) (fun hb => ?_)
      · have hlt5 : i5 < ((spec_l05Kinds ).length) := ot
        rw [loopR_lt hlt5] at hz5; simp only [spec_l05Head_b5] at hz5
        refine rS ?_
        refine AWP.cond rfl (fun hb => ?_) (fun hb => ?_)
        · simp only [hb, cond_true] at hz5
          iterate 2 refine rS ?_
          exact ⟨_, [0, 1, 2], hlt5, wt, hz5, sm⟩
        · simp only [hb, cond_false] at hz5
          refine rS ?_
          exact ⟨_, [0, 1, 2], hlt5, wt, hz5, sm⟩
      · obtain rfl : i5 = ((spec_l05Kinds ).length) := ot
        rw [loopR_ge (Nat.le_refl _)] at hz5; subst hz5; dsimp only at hR
        refine AWP.exit ?_; refine exitTo_here ?_
        refine rS ?_
        refine AWP.cond rfl (fun hb => ?_) (fun hb => ?_)
        · replace hR := ct hR
          iterate 2 refine rS ?_
          refine AWP.ret ?_
          subst hR
          exact es
        · replace hR := cf hR
          refine rS ?_
          refine AWP.cond rfl (fun hb => ?_) (fun hb => ?_)
          · replace hR := ct hR
            refine AWP.seq ?_
            refine AWP.regP mixed G_ok DD hc 5 [0, 1, 2, 3] (.alt 4 [] [1, 2, 3] .leaf .stop) (by kernel_rfl) (by kernel_rfl) (by kernel_rfl) (fun K hK => ?_); simp only [rootP, runN, runP, recheck, nthO, ea, absV, absVL, gv, sv, dn, reduceCtorEq, reduceIte, Nat.reduceBEq, Nat.reduceAdd, Nat.reduceEqDiff, Nat.reduceLT, Nat.reduceLeDiff, Nat.reduceMul, Nat.reduceSub, BEq.rfl, beq_self_eq_true, Int.reduceToNat]
            repeat' apply And.intro
            all_goals first | refine hK _ ?_ | exact ot
            all_goals clear hK K
            refine AWP.ret ?_
            subst hR
            exact es
          · replace hR := cf hR
            iterate 2 refine rS ?_
            refine AWP.block ?_
            refine AWP.nilB 1 1 2 1 (fun _ => []) rfl rfl ?_; try simp only [ea, absV, absVL, gv, sv, dn, reduceCtorEq, reduceIte, Nat.reduceBEq, Nat.reduceAdd, Nat.reduceEqDiff, Nat.reduceLT, Nat.reduceLeDiff, Nat.reduceMul, Nat.reduceSub, BEq.rfl, beq_self_eq_true, Int.reduceToNat]
            generalize hz6 : loopR (spec_l05Head_b6 a0 (s4.1, s4.2.1, s4.2.2) s5) (((spec_l01Split s4.2.1 43).length) - 0) 0 ([] : List Int) = z6 at hR
            refine AWP.range (spec_l05Head_b6 a0 (s4.1, s4.2.1, s4.2.2) s5) (fun i6 s6 => ⟨[(2, .ptr 0 0), (4, .ptr 1 0), (9, .ref 3 1 0 ((spec_l01Split s4.2.1 43).length)), (10, .int .i64 (i6 : Int))], [.box [.int .i64 0, .nils, .str [], .str [], .int .i64 0], .box [.int .i64 s5, .ref 2 1 0 s6.length, .str [], .str [], .int .i64 0], .arr 2 1 s6.length (fun j => eIi64 (s6.getD j default)), .arr 9 1 (spec_l01Split s4.2.1 43).length (fun j => eS ((spec_l01Split s4.2.1 43).getD j default))]⟩) (fun i6 s6 => s6.length ≤ i6) (((spec_l01Split s4.2.1 43).length)) 0 ([] : List Int) [0, 1, 4, 3] hz6 ot wt sm ?_
            clear hz6
            intro i6 s6 hi6 hW6 hz6
            refine rS ?_
            refine AWP.cond rfl (fun hb => ?_) (fun hb => ?_)
            · have hlt6 : i6 < ((spec_l01Split s4.2.1 43).length) := ot
              rw [loopR_lt hlt6] at hz6; simp only [spec_l05Head_b6] at hz6
              iterate 2 refine rS ?_
              refine AWP.cond rfl (fun hb => ?_) (fun hb => ?_)
              · simp only [hb, cond_true] at hz6
                refine rS ?_
                refine AWP.ret ?_
                subst hz6
                dsimp only at hR
                subst hR
                exact es
              · simp only [hb, cond_false] at hz6
                iterate 2 refine rS ?_
                exact ⟨_, [0, 1, 5, 3], hlt6, by (simp only [List.length_append, List.length_singleton]; omega), hz6, sm⟩
            · obtain rfl : i6 = ((spec_l01Split s4.2.1 43).length) := ot
              rw [loopR_ge (Nat.le_refl _)] at hz6; subst hz6; dsimp only at hR
              refine AWP.exit ?_; refine exitTo_here ?_
              refine AWP.seq ?_
              refine AWP.regP mixed G_ok DD hc 5 [0, 1, 2, 3] (.alt 4 [] [1, 2, 3] .leaf .stop) (by kernel_rfl) (by kernel_rfl) (by kernel_rfl) (fun K hK => ?_); simp only [rootP, runN, runP, recheck, nthO, ea, absV, absVL, gv, sv, dn, reduceCtorEq, reduceIte, Nat.reduceBEq, Nat.reduceAdd, Nat.reduceEqDiff, Nat.reduceLT, Nat.reduceLeDiff, Nat.reduceMul, Nat.reduceSub, BEq.rfl, beq_self_eq_true, Int.reduceToNat]
              repeat' apply And.intro
              all_goals first | refine hK _ ?_ | exact ot
              all_goals clear hK K
              refine AWP.ret ?_
              subst hR
              exact es
end N84
def D_spec_l05Head : DF
  | [x0] => some (.tup [.agg (eCharacterO ((spec_l05Head (rdS x0)).1)), .bool ((spec_l05Head (rdS x0)).2)], false, [wS x0, (rdS x0).length < 1099511627776, (rdS x0).length ≤ 1048576])
  | _ => none
def Dz_spec_l05Head : DF
  | [x0] => some (.tup [.agg (eCharacterO ((spec_l05Head (rdS x0)).1)), .bool ((spec_l05Head (rdS x0)).2)], true, [wS x0, (rdS x0).length < 1099511627776, (rdS x0).length ≤ 1048576])
  | _ => none
theorem D_spec_l05Head_ok : OkD Tryz.prog 84 D_spec_l05Head := by unfold D_spec_l05Head; exact dk N84.den
theorem Dz_spec_l05Head_ok : OkD Tryz.prog 84 Dz_spec_l05Head := by unfold Dz_spec_l05Head; exact dk N84.den
end Go.Ab
