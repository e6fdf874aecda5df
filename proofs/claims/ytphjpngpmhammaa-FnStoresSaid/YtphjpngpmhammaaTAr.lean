/- A part of a proof: walks of functions and lemmas of our own. No conditions. -/
import Derived.Test.YtphjpngpmhammaaTAj
import Derived.Test.YtphjpngpmhammaaTAl
import Derived.Test.YtphjpngpmhammaaTAn
import Derived.Test.YtphjpngpmhammaaTAq
import Derived.Test.YtphjpngpmhammaaTAm
import Derived.Test.YtphjpngpmhammaaTAi
import Derived.Test.YtphjpngpmhammaaRows
set_option linter.unusedSectionVars false
set_option linter.unusedVariables false
set_option linter.unusedSimpArgs false
namespace Go.Ab
open Go Go.Proofs
theorem impl_DropEntry_DD : DOk Try.prog (DD [(18, dP D_impl_ValidStore), (94, dP D_impl_at), (95, dP D_impl_clone_Spare), (96, dM [true, false, false] D_slices_Delete_Entry), (97, dP D_impl_clone_Entry)]) := DD_cons D_impl_ValidStore_ok.e <| DD_cons D_impl_at_ok.e <| DD_cons D_impl_clone_Spare_ok.e <| DD_cons D_slices_Delete_Entry_ok.e <| DD_cons D_impl_clone_Entry_ok.e <| DD_nil _
def impl_DropEntry (a0 : Store) (a1 : Int) : (Store × Int) :=
  (bif (!(impl_ValidStore a0)) then ({ Spares := [], Entries := [] : Store }, 1) else (bif (!(impl_at a1 (a0.Entries.length : Int))) then ({ Spares := [], Entries := [] : Store }, 2) else (bif (!(impl_ValidStore ({ Spares := (impl_clone_Spare a0.Spares), Entries := ((slices_Delete_Entry (impl_clone_Entry a0.Entries) a1 (IntKind.wrap .i64 (a1 + 1)))) : Store }))) then ({ Spares := [], Entries := [] : Store }, 6) else ({ Spares := (impl_clone_Spare a0.Spares), Entries := ((slices_Delete_Entry (impl_clone_Entry a0.Entries) a1 (IntKind.wrap .i64 (a1 + 1)))) : Store }, 0))))
theorem impl_DropEntry_den (a0 : Store) (a1 : Int) (hb0 : bdStore a0) : Den Try.prog 36 [.agg (eStore a0), .int .i64 a1] (.tup [.agg (eStoreO ((impl_DropEntry a0 a1).1)), .int .i64 ((impl_DropEntry a0 a1).2)]) := by
  generalize hR : impl_DropEntry a0 a1 = r
  unfold impl_DropEntry at hR
  refine den_intro G_ok Try.func36 (by kernel_rfl) rfl Try.ntmps36 (by rw [Try.results36]) (by simp) rfl ?_
  intro c hL hc hk
  obtain ⟨hL0, hL1, _⟩ := hL
  have hw0 : bwStore a0 := Store_lens a0 hL0
  clear hL0 hL1
  simp only [pars, Nat.zero_add]
  refine AWP.seq ?_
  refine AWP.regS G_ok impl_DropEntry_DD hc (by kernel_rfl) (fun K hK => ?_); simp only [ea, absV, absVL, gv, sv, D_impl_ValidStore, D_impl_at, D_impl_clone_Spare, D_slices_Delete_Entry, D_impl_clone_Entry, reduceCtorEq, reduceIte, Nat.reduceBEq, Nat.reduceAdd, Nat.reduceEqDiff, Nat.reduceLT, Nat.reduceLeDiff, Nat.reduceMul, Nat.reduceSub, BEq.rfl, beq_self_eq_true, Int.reduceToNat]
  (refine hK _ ?_)
  clear hK K
  refine AWP.seq ?_
  refine AWP.seq ?_
  refine AWP.regS G_ok impl_DropEntry_DD hc (by kernel_rfl) (fun K hK => ?_); simp only [ea, absV, absVL, gv, sv, D_impl_ValidStore, D_impl_at, D_impl_clone_Spare, D_slices_Delete_Entry, D_impl_clone_Entry, reduceCtorEq, reduceIte, Nat.reduceBEq, Nat.reduceAdd, Nat.reduceEqDiff, Nat.reduceLT, Nat.reduceLeDiff, Nat.reduceMul, Nat.reduceSub, BEq.rfl, beq_self_eq_true, Int.reduceToNat]
  (refine ⟨by (trivial), hK _ ?_⟩)
  clear hK K
  refine AWP.cond rfl (fun hb => ?_) (fun hb => ?_)
  · (simp only [hb, cond_true] at hR)
    refine AWP.seq ?_
    refine AWP.regS G_ok impl_DropEntry_DD hc (by kernel_rfl) (fun K hK => ?_); simp only [ea, absV, absVL, gv, sv, D_impl_ValidStore, D_impl_at, D_impl_clone_Spare, D_slices_Delete_Entry, D_impl_clone_Entry, reduceCtorEq, reduceIte, Nat.reduceBEq, Nat.reduceAdd, Nat.reduceEqDiff, Nat.reduceLT, Nat.reduceLeDiff, Nat.reduceMul, Nat.reduceSub, BEq.rfl, beq_self_eq_true, Int.reduceToNat]
    (refine hK _ ?_)
    clear hK K
    refine AWP.ret ?_
    subst hR
    (simp only [en, si, ea, gv, sv, hk, reduceCtorEq, reduceIte, Nat.reduceBEq, Nat.reduceAdd, Nat.reduceEqDiff, Nat.reduceLT, Nat.reduceLeDiff, Nat.reduceMul, Nat.reduceSub, BEq.rfl, beq_self_eq_true, Int.reduceToNat]; done)
  · (simp only [hb, cond_false] at hR)
    refine AWP.skip ?_
    refine AWP.seq ?_
    refine AWP.seq ?_
    refine AWP.regS G_ok impl_DropEntry_DD hc (by kernel_rfl) (fun K hK => ?_); simp only [ea, absV, absVL, gv, sv, D_impl_ValidStore, D_impl_at, D_impl_clone_Spare, D_slices_Delete_Entry, D_impl_clone_Entry, reduceCtorEq, reduceIte, Nat.reduceBEq, Nat.reduceAdd, Nat.reduceEqDiff, Nat.reduceLT, Nat.reduceLeDiff, Nat.reduceMul, Nat.reduceSub, BEq.rfl, beq_self_eq_true, Int.reduceToNat]
    (refine hK _ ?_)
    clear hK K
    refine AWP.cond rfl (fun hb => ?_) (fun hb => ?_)
    · (simp only [hb, cond_true] at hR)
      refine AWP.seq ?_
      refine AWP.regS G_ok impl_DropEntry_DD hc (by kernel_rfl) (fun K hK => ?_); simp only [ea, absV, absVL, gv, sv, D_impl_ValidStore, D_impl_at, D_impl_clone_Spare, D_slices_Delete_Entry, D_impl_clone_Entry, reduceCtorEq, reduceIte, Nat.reduceBEq, Nat.reduceAdd, Nat.reduceEqDiff, Nat.reduceLT, Nat.reduceLeDiff, Nat.reduceMul, Nat.reduceSub, BEq.rfl, beq_self_eq_true, Int.reduceToNat]
      (refine hK _ ?_)
      clear hK K
      refine AWP.ret ?_
      subst hR
      (simp only [en, si, ea, gv, sv, hk, reduceCtorEq, reduceIte, Nat.reduceBEq, Nat.reduceAdd, Nat.reduceEqDiff, Nat.reduceLT, Nat.reduceLeDiff, Nat.reduceMul, Nat.reduceSub, BEq.rfl, beq_self_eq_true, Int.reduceToNat]; done)
    · (simp only [hb, cond_false] at hR)
      refine AWP.skip ?_
      refine AWP.seq ?_
      refine AWP.regP mixed G_ok impl_DropEntry_DD hc 12 [0, 1, 3, 4, 6, 7, 8] (.alt 2 [] [3, 4, 6, 7, 8] (.alt 5 [] [6, 7, 8] (.alt 9 [10] [10] (.alt 11 [] [10] .leaf .stop) (.alt 11 [] [6, 7, 8] (.alt 9 [10] [10] .leaf .stop) .stop)) (.alt 11 [] [3, 4, 6, 7, 8] (.alt 5 [] [6, 7, 8] (.alt 9 [10] [10] .leaf .stop) .stop) .stop)) (.alt 11 [] [0, 1, 3, 4, 6, 7, 8] (.alt 2 [] [3, 4, 6, 7, 8] (.alt 5 [] [6, 7, 8] (.alt 9 [10] [10] .leaf .stop) .stop) .stop) .stop)) (by kernel_rfl) (by kernel_rfl) (by kernel_rfl) (fun K hK => ?_)
      refine join_sim ⟨[(4, .ptr 0 0), (6, .ptr 1 0)], [.box [.nils, .nils], .box [.ref 2 3 0 ((impl_clone_Spare a0.Spares).length), .ref 3 3 0 (((slices_Delete_Entry (impl_clone_Entry a0.Entries) a1 (IntKind.wrap .i64 (a1 + 1)))).length)], .arr 63 3 (impl_clone_Spare a0.Spares).length (fun j => eSpare ((impl_clone_Spare a0.Spares).getD j default)), .arr 66 3 ((slices_Delete_Entry (impl_clone_Entry a0.Entries) a1 (IntKind.wrap .i64 (a1 + 1)))).length (fun j => eEntry (((slices_Delete_Entry (impl_clone_Entry a0.Entries) a1 (IntKind.wrap .i64 (a1 + 1)))).getD j default))]⟩ hK ?_ (fun hJ => ?_)
      rotate_left
      · simp only [rootP, runN, runP, recheck, nthO, ea, absV, absVL, gv, sv, D_impl_ValidStore, D_impl_at, D_impl_clone_Spare, D_slices_Delete_Entry, D_impl_clone_Entry, reduceCtorEq, reduceIte, Nat.reduceBEq, Nat.reduceAdd, Nat.reduceEqDiff, Nat.reduceLT, Nat.reduceLeDiff, Nat.reduceMul, Nat.reduceSub, BEq.rfl, beq_self_eq_true, Int.reduceToNat]
        repeat' apply And.intro
        all_goals first | (refine hJ _ [1, 5, 2, 4] ?_; (simp only [si, ea, gv, sv, hk, reduceCtorEq, reduceIte, Nat.reduceBEq, Nat.reduceAdd, Nat.reduceEqDiff, Nat.reduceLT, Nat.reduceLeDiff, Nat.reduceMul, Nat.reduceSub, BEq.rfl, beq_self_eq_true, Int.reduceToNat]; trivial)) | (refine hJ _ [1, 4, 2, 5] ?_; (simp only [si, ea, gv, sv, hk, reduceCtorEq, reduceIte, Nat.reduceBEq, Nat.reduceAdd, Nat.reduceEqDiff, Nat.reduceLT, Nat.reduceLeDiff, Nat.reduceMul, Nat.reduceSub, BEq.rfl, beq_self_eq_true, Int.reduceToNat]; trivial)) | (refine hJ _ [1, 3, 2, 5] ?_; (simp only [si, ea, gv, sv, hk, reduceCtorEq, reduceIte, Nat.reduceBEq, Nat.reduceAdd, Nat.reduceEqDiff, Nat.reduceLT, Nat.reduceLeDiff, Nat.reduceMul, Nat.reduceSub, BEq.rfl, beq_self_eq_true, Int.reduceToNat]; trivial)) | (refine hJ _ [1, 2, 3, 5] ?_; (simp only [si, ea, gv, sv, hk, reduceCtorEq, reduceIte, Nat.reduceBEq, Nat.reduceAdd, Nat.reduceEqDiff, Nat.reduceLT, Nat.reduceLeDiff, Nat.reduceMul, Nat.reduceSub, BEq.rfl, beq_self_eq_true, Int.reduceToNat]; trivial)) | (first | trivial | omega | (simp only [ob, ln, bdv, impl_at, impl_clone_Spare_id, impl_clone_Entry_id, sv] at *; omega) | ((try clear hK K); (repeat' (intro _)) <;> (simp only [ob, ln, bdv, impl_at, impl_clone_Spare_id, impl_clone_Entry_id, sv] at *; (simp_all; done))))
      clear hK K
      refine AWP.seq ?_
      refine AWP.seq ?_
      refine AWP.regS G_ok impl_DropEntry_DD hc (by kernel_rfl) (fun K hK => ?_); simp only [ea, absV, absVL, gv, sv, D_impl_ValidStore, D_impl_at, D_impl_clone_Spare, D_slices_Delete_Entry, D_impl_clone_Entry, reduceCtorEq, reduceIte, Nat.reduceBEq, Nat.reduceAdd, Nat.reduceEqDiff, Nat.reduceLT, Nat.reduceLeDiff, Nat.reduceMul, Nat.reduceSub, BEq.rfl, beq_self_eq_true, Int.reduceToNat]
      (refine ⟨by (((try clear hK K); (repeat' first | apply And.intro | intro _) <;> first | omega | (right; (simp only [si, ea, gv, sv, hk, reduceCtorEq, reduceIte, Nat.reduceBEq, Nat.reduceAdd, Nat.reduceEqDiff, Nat.reduceLT, Nat.reduceLeDiff, Nat.reduceMul, Nat.reduceSub, BEq.rfl, beq_self_eq_true, Int.reduceToNat]; (and_intros <;> (simp only [ob, ln, bdv, impl_at, impl_clone_Spare_id, impl_clone_Entry_id, sv] at *; (grind [impl_ValidStore_len, slices_Delete_Entry_len, slices_Delete_Entry_mem]))))) | (simp only [ob, ln, bdv, impl_at, impl_clone_Spare_id, impl_clone_Entry_id, sv] at *; first | (simp_all; done) | grind [impl_ValidStore_len, slices_Delete_Entry_len, slices_Delete_Entry_mem]))), hK _ ?_⟩)
      clear hK K
      refine AWP.cond rfl (fun hb => ?_) (fun hb => ?_)
      · (simp only [hb, cond_true] at hR)
        refine AWP.seq ?_
        refine AWP.regS G_ok impl_DropEntry_DD hc (by kernel_rfl) (fun K hK => ?_); simp only [ea, absV, absVL, gv, sv, D_impl_ValidStore, D_impl_at, D_impl_clone_Spare, D_slices_Delete_Entry, D_impl_clone_Entry, reduceCtorEq, reduceIte, Nat.reduceBEq, Nat.reduceAdd, Nat.reduceEqDiff, Nat.reduceLT, Nat.reduceLeDiff, Nat.reduceMul, Nat.reduceSub, BEq.rfl, beq_self_eq_true, Int.reduceToNat]
        (refine hK _ ?_)
        clear hK K
        refine AWP.ret ?_
        subst hR
        (simp only [en, si, ea, gv, sv, hk, reduceCtorEq, reduceIte, Nat.reduceBEq, Nat.reduceAdd, Nat.reduceEqDiff, Nat.reduceLT, Nat.reduceLeDiff, Nat.reduceMul, Nat.reduceSub, BEq.rfl, beq_self_eq_true, Int.reduceToNat]; done)
      · (simp only [hb, cond_false] at hR)
        refine AWP.skip ?_
        refine AWP.seq ?_
        refine AWP.regS G_ok impl_DropEntry_DD hc (by kernel_rfl) (fun K hK => ?_); simp only [ea, absV, absVL, gv, sv, D_impl_ValidStore, D_impl_at, D_impl_clone_Spare, D_slices_Delete_Entry, D_impl_clone_Entry, reduceCtorEq, reduceIte, Nat.reduceBEq, Nat.reduceAdd, Nat.reduceEqDiff, Nat.reduceLT, Nat.reduceLeDiff, Nat.reduceMul, Nat.reduceSub, BEq.rfl, beq_self_eq_true, Int.reduceToNat]
        (refine hK _ ?_)
        clear hK K
        refine AWP.ret ?_
        subst hR
        (simp only [en, si, ea, gv, sv, hk, reduceCtorEq, reduceIte, Nat.reduceBEq, Nat.reduceAdd, Nat.reduceEqDiff, Nat.reduceLT, Nat.reduceLeDiff, Nat.reduceMul, Nat.reduceSub, BEq.rfl, beq_self_eq_true, Int.reduceToNat]; (and_intros <;> omega))
def D_impl_DropEntry : DF
  | [x0, x1] => some (.tup [.agg (eStoreO ((impl_DropEntry (rdG dStore x0) (rdI x1)).1)), .int .i64 ((impl_DropEntry (rdG dStore x0) (rdI x1)).2)], false, [wG eStore dStore x0, wI .i64 x1, bdStore (rdG dStore x0)])
  | _ => none
def Dz_impl_DropEntry : DF
  | [x0, x1] => some (.tup [.agg (eStoreO ((impl_DropEntry (rdG dStore x0) (rdI x1)).1)), .int .i64 ((impl_DropEntry (rdG dStore x0) (rdI x1)).2)], true, [wG eStore dStore x0, wI .i64 x1, bdStore (rdG dStore x0)])
  | _ => none
theorem D_impl_DropEntry_ok : OkD Try.prog 36 D_impl_DropEntry := by
  intro xs r z ob h ho
  unfold D_impl_DropEntry at h
  split at h
  · simp only [Option.some.injEq, Prod.mk.injEq] at h
    obtain ⟨rfl, rfl, rfl⟩ := h
    obtain ⟨h0, h1, hb0, _⟩ := ho
    exact Den.sim (impl_DropEntry_den _ _ hb0) (simOL_cons (wG_sim h0).1 <| simOL_cons (wI_sim h1).1 <| trivial) (noIdL_cons (wG_sim h0).2 <| noIdL_cons (wI_sim h1).2 <| rfl) rfl
  · cases h
theorem Dz_impl_DropEntry_ok : OkD Try.prog 36 Dz_impl_DropEntry := by
  intro xs r z ob h ho
  unfold Dz_impl_DropEntry at h
  split at h
  · simp only [Option.some.injEq, Prod.mk.injEq] at h
    obtain ⟨rfl, rfl, rfl⟩ := h
    obtain ⟨h0, h1, hb0, _⟩ := ho
    exact Den.sim (impl_DropEntry_den _ _ hb0) (simOL_cons (wG_sim h0).1 <| simOL_cons (wI_sim h1).1 <| trivial) (noIdL_cons (wG_sim h0).2 <| noIdL_cons (wI_sim h1).2 <| rfl) rfl
  · cases h
end Go.Ab

namespace Go.Ab
open Go Go.Proofs
theorem impl_Store_put_len (a : Store) (e : Entry) (hl : a.Entries.length < 9223372036854775808) : (impl_Store_put a e).1.Spares.length ≤ a.Spares.length ∧ (impl_Store_put a e).1.Entries.length ≤ 48 := by
  obtain ⟨j, h1, h2, h3, h4⟩ := impl_Store_put_spec a e hl
  rw [h4]
  cases (impl_Store_spareOf a e.Item).2 with
  | false => simp
  | true =>
    cases ((a.Entries.length : Int) == 48) with
    | true => simp
    | false =>
      cases hv : impl_ValidStore { Spares := a.Spares, Entries := a.Entries.take j ++ [e] ++ a.Entries.drop j : Store } with
      | false => simp
      | true =>
        simp only [Bool.not_true, cond_false]
        exact ⟨Nat.le_refl _, (impl_ValidStore_len _ hv).2⟩
theorem impl_AddEntry_len (a : Store) (e : Entry) : (impl_AddEntry a e).1.Spares.length ≤ 16 ∧ (impl_AddEntry a e).1.Entries.length ≤ 48 := by
  unfold impl_AddEntry
  cases hv : impl_ValidStore a with
  | false => simp
  | true =>
    cases impl_isEntry e with
    | false => simp
    | true =>
      have := impl_ValidStore_len a hv
      have h2 := impl_Store_put_len a e (by omega)
      simp only [Bool.not_true, Bool.or_self, cond_false]
      omega
theorem impl_AddSpare_len (a : Store) (x : Spare) : (impl_AddSpare a x).1.Spares.length ≤ 17 ∧ (impl_AddSpare a x).1.Entries.length ≤ 48 := by
  unfold impl_AddSpare
  cases hv : impl_ValidStore a with
  | false => simp
  | true =>
    have := impl_ValidStore_len a hv
    cases impl_isSpare x with
    | false => simp
    | true =>
      cases (impl_Store_spareOf a x.Name).2 with
      | true => simp
      | false =>
        cases ((a.Spares.length : Int) == 16) with
        | true => simp
        | false =>
          simp only [Bool.not_true, Bool.or_self, cond_false, impl_clone_Spare_id, impl_clone_Entry_id, slices_Insert_Spare_len, List.length_cons, List.length_nil]
          omega
theorem impl_DropEntry_len (a : Store) (k : Int) : (impl_DropEntry a k).1.Spares.length ≤ 16 ∧ (impl_DropEntry a k).1.Entries.length ≤ 48 := by
  unfold impl_DropEntry
  cases hv : impl_ValidStore a with
  | false => simp
  | true =>
    cases impl_at k (a.Entries.length : Int) with
    | false => simp
    | true =>
      cases hv2 : impl_ValidStore ({ Spares := (impl_clone_Spare a.Spares), Entries := ((slices_Delete_Entry (impl_clone_Entry a.Entries) k (IntKind.wrap .i64 (k + 1)))) : Store }) with
      | false => simp
      | true =>
        have := impl_ValidStore_len _ hv2
        simpa using this
end Go.Ab

namespace Go.Ab
open Go Go.Proofs
theorem impl_AddEntry_mem (a : Store) (e : Entry) (hl : a.Entries.length < 9223372036854775808) :
    (∀ v, v ∈ (impl_AddEntry a e).1.Spares → v ∈ a.Spares) ∧ (∀ v, v ∈ (impl_AddEntry a e).1.Entries → v ∈ a.Entries ∨ v = e) ∧
    (impl_AddEntry a e).1.Spares.length ≤ a.Spares.length ∧ (impl_AddEntry a e).1.Entries.length ≤ a.Entries.length + 1 := by
  obtain ⟨j, h1, h2, h3, h4⟩ := impl_Store_put_spec a e hl
  unfold impl_AddEntry
  rw [h4]
  simp only [Bool.cond_eq_ite]
  repeat' split
  all_goals first
    | (refine ⟨fun v hv => ?_, fun v hv => ?_, Nat.zero_le _, Nat.zero_le _⟩ <;> simp at hv; done)
    | (refine ⟨fun v hv => hv, fun v hv => ?_, Nat.le_refl _, ?_⟩
       · simp only [List.mem_append, List.mem_singleton] at hv
         rcases hv with (h | h) | h
         · exact .inl (List.mem_of_mem_take h)
         · exact .inr h
         · exact .inl (List.mem_of_mem_drop h)
       · simp only [List.length_append, List.length_take, List.length_cons, List.length_drop, List.length_nil]; omega)
end Go.Ab

namespace Go.Ab
open Go Go.Proofs
theorem laws_FnStores_DD : DOk Try.prog (DD [(16, dP D_spec_ValidStore), (30, dP D_impl_StockOn), (32, dP D_impl_FreeOn), (34, dP D_impl_RoomOn), (40, dP D_impl_ShortSpares), (44, dP D_laws_r8Long), (45, dP D_spec_R8Store), (46, dP D_laws_r8At), (47, dP D_laws_r8Wide), (48, dP D_impl_AddEntry)]) := DD_cons D_spec_ValidStore_ok.e <| DD_cons D_impl_StockOn_ok.e <| DD_cons D_impl_FreeOn_ok.e <| DD_cons D_impl_RoomOn_ok.e <| DD_cons D_impl_ShortSpares_ok.e <| DD_cons D_laws_r8Long_ok.e <| DD_cons D_spec_R8Store_ok.e <| DD_cons D_laws_r8At_ok.e <| DD_cons D_laws_r8Wide_ok.e <| DD_cons D_impl_AddEntry_ok.e <| DD_nil _
def laws_FnStores_b1 (a0 : (List Int)) (a1 : (List Int)) (i1 : Nat) (s1 : Bool) : Except (Bool) (Bool) :=
  .ok (s1 || ((((impl_ShortSpares ({ Spares := (spec_R8Store a0).Spares, Entries := (spec_R8Store a0).Entries : Store }) (laws_r8Wide a1 1 220)).1).getD i1 default) == ((((spec_R8Store a0).Spares).getD (((laws_r8At a1 0 (((spec_R8Store a0).Spares).length : Int))).toNat) default).Name)))
def laws_FnStores_b2 (a0 : (List Int)) (a1 : (List Int)) (i2 : Nat) (s2 : Bool) : Except (Bool) (Bool) :=
  .ok (s2 || ((((impl_ShortSpares ({ Spares := (spec_R8Store a0).Spares, Entries := (spec_R8Store a0).Entries : Store }) (laws_r8Wide a1 1 220)).1).getD i2 default) == ((((spec_R8Store a0).Spares).getD (((laws_r8At a1 0 (((spec_R8Store a0).Spares).length : Int))).toNat) default).Name)))
def laws_FnStores (a0 : (List Int)) (a1 : (List Int)) : Bool :=
  (bif (laws_r8Long a0 a1) then true else (bif ((((((((((impl_StockOn ({ Spares := (spec_R8Store a0).Spares, Entries := (spec_R8Store a0).Entries : Store }) ((((spec_R8Store a0).Spares).getD (((laws_r8At a1 0 (((spec_R8Store a0).Spares).length : Int))).toNat) default).Name) (laws_r8Wide a1 1 220)).2) != 0) || (((impl_FreeOn ({ Spares := (spec_R8Store a0).Spares, Entries := (spec_R8Store a0).Entries : Store }) ((((spec_R8Store a0).Spares).getD (((laws_r8At a1 0 (((spec_R8Store a0).Spares).length : Int))).toNat) default).Name) (laws_r8Wide a1 1 220)).2) != 0)) || (((impl_RoomOn ({ Spares := (spec_R8Store a0).Spares, Entries := (spec_R8Store a0).Entries : Store }) ((((spec_R8Store a0).Spares).getD (((laws_r8At a1 0 (((spec_R8Store a0).Spares).length : Int))).toNat) default).Name) (laws_r8Wide a1 1 220)).2) != 0)) || decide (((impl_FreeOn ({ Spares := (spec_R8Store a0).Spares, Entries := (spec_R8Store a0).Entries : Store }) ((((spec_R8Store a0).Spares).getD (((laws_r8At a1 0 (((spec_R8Store a0).Spares).length : Int))).toNat) default).Name) (laws_r8Wide a1 1 220)).1) < 0)) || decide (((impl_StockOn ({ Spares := (spec_R8Store a0).Spares, Entries := (spec_R8Store a0).Entries : Store }) ((((spec_R8Store a0).Spares).getD (((laws_r8At a1 0 (((spec_R8Store a0).Spares).length : Int))).toNat) default).Name) (laws_r8Wide a1 1 220)).1) < ((impl_FreeOn ({ Spares := (spec_R8Store a0).Spares, Entries := (spec_R8Store a0).Entries : Store }) ((((spec_R8Store a0).Spares).getD (((laws_r8At a1 0 (((spec_R8Store a0).Spares).length : Int))).toNat) default).Name) (laws_r8Wide a1 1 220)).1))) || decide (((impl_RoomOn ({ Spares := (spec_R8Store a0).Spares, Entries := (spec_R8Store a0).Entries : Store }) ((((spec_R8Store a0).Spares).getD (((laws_r8At a1 0 (((spec_R8Store a0).Spares).length : Int))).toNat) default).Name) (laws_r8Wide a1 1 220)).1) < 0)) || decide (((((spec_R8Store a0).Spares).getD (((laws_r8At a1 0 (((spec_R8Store a0).Spares).length : Int))).toNat) default).Most) < ((impl_RoomOn ({ Spares := (spec_R8Store a0).Spares, Entries := (spec_R8Store a0).Entries : Store }) ((((spec_R8Store a0).Spares).getD (((laws_r8At a1 0 (((spec_R8Store a0).Spares).length : Int))).toNat) default).Name) (laws_r8Wide a1 1 220)).1))) || decide (((((spec_R8Store a0).Spares).getD (((laws_r8At a1 0 (((spec_R8Store a0).Spares).length : Int))).toNat) default).Most) < (IntKind.wrap .i64 (((impl_StockOn ({ Spares := (spec_R8Store a0).Spares, Entries := (spec_R8Store a0).Entries : Store }) ((((spec_R8Store a0).Spares).getD (((laws_r8At a1 0 (((spec_R8Store a0).Spares).length : Int))).toNat) default).Name) (laws_r8Wide a1 1 220)).1) + ((impl_RoomOn ({ Spares := (spec_R8Store a0).Spares, Entries := (spec_R8Store a0).Entries : Store }) ((((spec_R8Store a0).Spares).getD (((laws_r8At a1 0 (((spec_R8Store a0).Spares).length : Int))).toNat) default).Name) (laws_r8Wide a1 1 220)).1))))) then false else (bif ((((impl_AddEntry ({ Spares := (spec_R8Store a0).Spares, Entries := (spec_R8Store a0).Entries : Store }) ({ Day := (laws_r8Wide a1 1 220), Item := (((spec_R8Store a0).Spares).getD (((laws_r8At a1 0 (((spec_R8Store a0).Spares).length : Int))).toNat) default).Name, Amount := IntKind.wrap .i64 ((IntKind.wrap .i64 (0 - ((impl_FreeOn ({ Spares := (spec_R8Store a0).Spares, Entries := (spec_R8Store a0).Entries : Store }) ((((spec_R8Store a0).Spares).getD (((laws_r8At a1 0 (((spec_R8Store a0).Spares).length : Int))).toNat) default).Name) (laws_r8Wide a1 1 220)).1))) - 1) : Entry })).2) != 6) || (((impl_AddEntry ({ Spares := (spec_R8Store a0).Spares, Entries := (spec_R8Store a0).Entries : Store }) ({ Day := (laws_r8Wide a1 1 220), Item := (((spec_R8Store a0).Spares).getD (((laws_r8At a1 0 (((spec_R8Store a0).Spares).length : Int))).toNat) default).Name, Amount := IntKind.wrap .i64 (((impl_RoomOn ({ Spares := (spec_R8Store a0).Spares, Entries := (spec_R8Store a0).Entries : Store }) ((((spec_R8Store a0).Spares).getD (((laws_r8At a1 0 (((spec_R8Store a0).Spares).length : Int))).toNat) default).Name) (laws_r8Wide a1 1 220)).1) + 1) : Entry })).2) != 6)) then false else (bif decide (0 < ((impl_FreeOn ({ Spares := (spec_R8Store a0).Spares, Entries := (spec_R8Store a0).Entries : Store }) ((((spec_R8Store a0).Spares).getD (((laws_r8At a1 0 (((spec_R8Store a0).Spares).length : Int))).toNat) default).Name) (laws_r8Wide a1 1 220)).1)) then (bif ((((((impl_AddEntry ({ Spares := (spec_R8Store a0).Spares, Entries := (spec_R8Store a0).Entries : Store }) ({ Day := (laws_r8Wide a1 1 220), Item := (((spec_R8Store a0).Spares).getD (((laws_r8At a1 0 (((spec_R8Store a0).Spares).length : Int))).toNat) default).Name, Amount := IntKind.wrap .i64 (0 - ((impl_FreeOn ({ Spares := (spec_R8Store a0).Spares, Entries := (spec_R8Store a0).Entries : Store }) ((((spec_R8Store a0).Spares).getD (((laws_r8At a1 0 (((spec_R8Store a0).Spares).length : Int))).toNat) default).Name) (laws_r8Wide a1 1 220)).1)) : Entry })).2) != 0) || (((impl_StockOn ({ Spares := ((impl_AddEntry ({ Spares := (spec_R8Store a0).Spares, Entries := (spec_R8Store a0).Entries : Store }) ({ Day := (laws_r8Wide a1 1 220), Item := (((spec_R8Store a0).Spares).getD (((laws_r8At a1 0 (((spec_R8Store a0).Spares).length : Int))).toNat) default).Name, Amount := IntKind.wrap .i64 (0 - ((impl_FreeOn ({ Spares := (spec_R8Store a0).Spares, Entries := (spec_R8Store a0).Entries : Store }) ((((spec_R8Store a0).Spares).getD (((laws_r8At a1 0 (((spec_R8Store a0).Spares).length : Int))).toNat) default).Name) (laws_r8Wide a1 1 220)).1)) : Entry })).1).Spares, Entries := ((impl_AddEntry ({ Spares := (spec_R8Store a0).Spares, Entries := (spec_R8Store a0).Entries : Store }) ({ Day := (laws_r8Wide a1 1 220), Item := (((spec_R8Store a0).Spares).getD (((laws_r8At a1 0 (((spec_R8Store a0).Spares).length : Int))).toNat) default).Name, Amount := IntKind.wrap .i64 (0 - ((impl_FreeOn ({ Spares := (spec_R8Store a0).Spares, Entries := (spec_R8Store a0).Entries : Store }) ((((spec_R8Store a0).Spares).getD (((laws_r8At a1 0 (((spec_R8Store a0).Spares).length : Int))).toNat) default).Name) (laws_r8Wide a1 1 220)).1)) : Entry })).1).Entries : Store }) ((((spec_R8Store a0).Spares).getD (((laws_r8At a1 0 (((spec_R8Store a0).Spares).length : Int))).toNat) default).Name) (laws_r8Wide a1 1 220)).2) != 0)) || (((impl_StockOn ({ Spares := ((impl_AddEntry ({ Spares := (spec_R8Store a0).Spares, Entries := (spec_R8Store a0).Entries : Store }) ({ Day := (laws_r8Wide a1 1 220), Item := (((spec_R8Store a0).Spares).getD (((laws_r8At a1 0 (((spec_R8Store a0).Spares).length : Int))).toNat) default).Name, Amount := IntKind.wrap .i64 (0 - ((impl_FreeOn ({ Spares := (spec_R8Store a0).Spares, Entries := (spec_R8Store a0).Entries : Store }) ((((spec_R8Store a0).Spares).getD (((laws_r8At a1 0 (((spec_R8Store a0).Spares).length : Int))).toNat) default).Name) (laws_r8Wide a1 1 220)).1)) : Entry })).1).Spares, Entries := ((impl_AddEntry ({ Spares := (spec_R8Store a0).Spares, Entries := (spec_R8Store a0).Entries : Store }) ({ Day := (laws_r8Wide a1 1 220), Item := (((spec_R8Store a0).Spares).getD (((laws_r8At a1 0 (((spec_R8Store a0).Spares).length : Int))).toNat) default).Name, Amount := IntKind.wrap .i64 (0 - ((impl_FreeOn ({ Spares := (spec_R8Store a0).Spares, Entries := (spec_R8Store a0).Entries : Store }) ((((spec_R8Store a0).Spares).getD (((laws_r8At a1 0 (((spec_R8Store a0).Spares).length : Int))).toNat) default).Name) (laws_r8Wide a1 1 220)).1)) : Entry })).1).Entries : Store }) ((((spec_R8Store a0).Spares).getD (((laws_r8At a1 0 (((spec_R8Store a0).Spares).length : Int))).toNat) default).Name) (laws_r8Wide a1 1 220)).1) != (IntKind.wrap .i64 (((impl_StockOn ({ Spares := (spec_R8Store a0).Spares, Entries := (spec_R8Store a0).Entries : Store }) ((((spec_R8Store a0).Spares).getD (((laws_r8At a1 0 (((spec_R8Store a0).Spares).length : Int))).toNat) default).Name) (laws_r8Wide a1 1 220)).1) - ((impl_FreeOn ({ Spares := (spec_R8Store a0).Spares, Entries := (spec_R8Store a0).Entries : Store }) ((((spec_R8Store a0).Spares).getD (((laws_r8At a1 0 (((spec_R8Store a0).Spares).length : Int))).toNat) default).Name) (laws_r8Wide a1 1 220)).1))))) || (!(spec_ValidStore ({ Spares := ((impl_AddEntry ({ Spares := (spec_R8Store a0).Spares, Entries := (spec_R8Store a0).Entries : Store }) ({ Day := (laws_r8Wide a1 1 220), Item := (((spec_R8Store a0).Spares).getD (((laws_r8At a1 0 (((spec_R8Store a0).Spares).length : Int))).toNat) default).Name, Amount := IntKind.wrap .i64 (0 - ((impl_FreeOn ({ Spares := (spec_R8Store a0).Spares, Entries := (spec_R8Store a0).Entries : Store }) ((((spec_R8Store a0).Spares).getD (((laws_r8At a1 0 (((spec_R8Store a0).Spares).length : Int))).toNat) default).Name) (laws_r8Wide a1 1 220)).1)) : Entry })).1).Spares, Entries := ((impl_AddEntry ({ Spares := (spec_R8Store a0).Spares, Entries := (spec_R8Store a0).Entries : Store }) ({ Day := (laws_r8Wide a1 1 220), Item := (((spec_R8Store a0).Spares).getD (((laws_r8At a1 0 (((spec_R8Store a0).Spares).length : Int))).toNat) default).Name, Amount := IntKind.wrap .i64 (0 - ((impl_FreeOn ({ Spares := (spec_R8Store a0).Spares, Entries := (spec_R8Store a0).Entries : Store }) ((((spec_R8Store a0).Spares).getD (((laws_r8At a1 0 (((spec_R8Store a0).Spares).length : Int))).toNat) default).Name) (laws_r8Wide a1 1 220)).1)) : Entry })).1).Entries : Store })))) then false else (match loopR (laws_FnStores_b1 a0 a1) ((((impl_ShortSpares ({ Spares := (spec_R8Store a0).Spares, Entries := (spec_R8Store a0).Entries : Store }) (laws_r8Wide a1 1 220)).1).length) - 0) 0 false with | .error e => e | .ok s1 => ((((impl_ShortSpares ({ Spares := (spec_R8Store a0).Spares, Entries := (spec_R8Store a0).Entries : Store }) (laws_r8Wide a1 1 220)).2) == 0) && (s1 == (decide (((impl_StockOn ({ Spares := (spec_R8Store a0).Spares, Entries := (spec_R8Store a0).Entries : Store }) ((((spec_R8Store a0).Spares).getD (((laws_r8At a1 0 (((spec_R8Store a0).Spares).length : Int))).toNat) default).Name) (laws_r8Wide a1 1 220)).1) < ((((spec_R8Store a0).Spares).getD (((laws_r8At a1 0 (((spec_R8Store a0).Spares).length : Int))).toNat) default).Least))))))) else (match loopR (laws_FnStores_b2 a0 a1) ((((impl_ShortSpares ({ Spares := (spec_R8Store a0).Spares, Entries := (spec_R8Store a0).Entries : Store }) (laws_r8Wide a1 1 220)).1).length) - 0) 0 false with | .error e => e | .ok s2 => ((((impl_ShortSpares ({ Spares := (spec_R8Store a0).Spares, Entries := (spec_R8Store a0).Entries : Store }) (laws_r8Wide a1 1 220)).2) == 0) && (s2 == (decide (((impl_StockOn ({ Spares := (spec_R8Store a0).Spares, Entries := (spec_R8Store a0).Entries : Store }) ((((spec_R8Store a0).Spares).getD (((laws_r8At a1 0 (((spec_R8Store a0).Spares).length : Int))).toNat) default).Name) (laws_r8Wide a1 1 220)).1) < ((((spec_R8Store a0).Spares).getD (((laws_r8At a1 0 (((spec_R8Store a0).Spares).length : Int))).toNat) default).Least))))))))))
set_option maxHeartbeats 4000000 in
set_option maxRecDepth 20000 in
theorem laws_FnStores_den (a0 : (List Int)) (a1 : (List Int)) (hp0 : ∀ v ∈ a0, 0 ≤ v ∧ v ≤ 255) (hp1 : ∀ v ∈ a1, 0 ≤ v ∧ v ≤ 255) : Den Try.prog 11 [encL 1 eIu8 a0, encL 1 eIu8 a1] (.bool (laws_FnStores a0 a1)) := by
  generalize hR : laws_FnStores a0 a1 = r
  unfold laws_FnStores at hR
  refine den_intro G_ok Try.func11 (by kernel_rfl) rfl Try.ntmps11 (by rw [Try.results11]) (by simp) rfl ?_
  intro c hL hc hk
  obtain ⟨hL0, hL1, _⟩ := hL
  have hw0 : a0.length < 9223372036854775808 := Nat.lt_succ_of_le (lens_encL hL0).1
  have hw1 : a1.length < 9223372036854775808 := Nat.lt_succ_of_le (lens_encL hL1).1
  clear hL0 hL1
  simp only [pars, Nat.zero_add]
  have hR8 := r8_bd a0 hp0
  have hsl : (spec_R8Store a0).Spares.length = 3 := by rw [hR8.1]; rfl
  have hsb : ∀ v ∈ (spec_R8Store a0).Spares, bdSpare v := by rw [hR8.1]; intro v hv; simp only [spec_l29Base, List.mem_cons, List.not_mem_nil, or_false] at hv; rcases hv with h | h | h <;> subst h <;> (show List.length _ < 1099511627776; simp)
  have heb : ∀ v ∈ (spec_R8Store a0).Entries, bdEntry v := fun v hv => by have := hR8.2.2 v hv; show List.length _ < 1099511627776; omega
  have hA := r8At_range a1 hp1 0 ((spec_R8Store a0).Spares.length : Int) (by omega) (by omega)
  have hWd := r8Wide_range a1 hp1 220 (by omega)
  refine AWP.seq ?_
  refine AWP.regS G_ok laws_FnStores_DD hc (by kernel_rfl) (fun K hK => ?_); simp only [ea, gv, sv, D_spec_ValidStore, D_impl_StockOn, D_impl_FreeOn, D_impl_RoomOn, D_impl_ShortSpares, D_laws_r8Long, D_spec_R8Store, D_laws_r8At, D_laws_r8Wide, D_impl_AddEntry, reduceCtorEq, reduceIte, Nat.reduceBEq, Nat.reduceAdd, Nat.reduceEqDiff, Nat.reduceLT, Nat.reduceLeDiff, Nat.reduceMul, Nat.reduceSub, BEq.rfl, beq_self_eq_true, Int.reduceToNat]
  (refine hK _ ?_)
  clear hK K
  refine AWP.seq ?_
  refine AWP.seq ?_
  refine AWP.regS G_ok laws_FnStores_DD hc (by kernel_rfl) (fun K hK => ?_); simp only [ea, gv, sv, D_spec_ValidStore, D_impl_StockOn, D_impl_FreeOn, D_impl_RoomOn, D_impl_ShortSpares, D_laws_r8Long, D_spec_R8Store, D_laws_r8At, D_laws_r8Wide, D_impl_AddEntry, reduceCtorEq, reduceIte, Nat.reduceBEq, Nat.reduceAdd, Nat.reduceEqDiff, Nat.reduceLT, Nat.reduceLeDiff, Nat.reduceMul, Nat.reduceSub, BEq.rfl, beq_self_eq_true, Int.reduceToNat]
  (refine hK _ ?_)
  clear hK K
  refine AWP.cond rfl (fun hb => ?_) (fun hb => ?_)
  · (simp only [hb, cond_true] at hR)
    refine AWP.seq ?_
    refine AWP.regS G_ok laws_FnStores_DD hc (by kernel_rfl) (fun K hK => ?_); simp only [ea, gv, sv, D_spec_ValidStore, D_impl_StockOn, D_impl_FreeOn, D_impl_RoomOn, D_impl_ShortSpares, D_laws_r8Long, D_spec_R8Store, D_laws_r8At, D_laws_r8Wide, D_impl_AddEntry, reduceCtorEq, reduceIte, Nat.reduceBEq, Nat.reduceAdd, Nat.reduceEqDiff, Nat.reduceLT, Nat.reduceLeDiff, Nat.reduceMul, Nat.reduceSub, BEq.rfl, beq_self_eq_true, Int.reduceToNat]
    (refine hK _ ?_)
    clear hK K
    refine AWP.ret ?_
    subst hR
    (simp only [en, si, ea, gv, sv, hk, reduceCtorEq, reduceIte, Nat.reduceBEq, Nat.reduceAdd, Nat.reduceEqDiff, Nat.reduceLT, Nat.reduceLeDiff, Nat.reduceMul, Nat.reduceSub, BEq.rfl, beq_self_eq_true, Int.reduceToNat]; done)
  · (simp only [hb, cond_false] at hR)
    refine AWP.skip ?_
    refine AWP.seq ?_
    refine AWP.regS G_ok laws_FnStores_DD hc (by kernel_rfl) (fun K hK => ?_); simp only [ea, gv, sv, D_spec_ValidStore, D_impl_StockOn, D_impl_FreeOn, D_impl_RoomOn, D_impl_ShortSpares, D_laws_r8Long, D_spec_R8Store, D_laws_r8At, D_laws_r8Wide, D_impl_AddEntry, reduceCtorEq, reduceIte, Nat.reduceBEq, Nat.reduceAdd, Nat.reduceEqDiff, Nat.reduceLT, Nat.reduceLeDiff, Nat.reduceMul, Nat.reduceSub, BEq.rfl, beq_self_eq_true, Int.reduceToNat]
    (refine ⟨by (((try clear hK K); (repeat' first | apply And.intro | intro _) <;> first | (simp only [laws_r8Long, Bool.or_eq_false_iff, decide_eq_false_iff_not] at hb; omega) | (simp only [ob, ln, bdv, sv] at *; (simp_all; done)))), hK _ ?_⟩)
    clear hK K
    refine AWP.seq ?_
    refine AWP.regS G_ok laws_FnStores_DD hc (by kernel_rfl) (fun K hK => ?_); simp only [ea, gv, sv, D_spec_ValidStore, D_impl_StockOn, D_impl_FreeOn, D_impl_RoomOn, D_impl_ShortSpares, D_laws_r8Long, D_spec_R8Store, D_laws_r8At, D_laws_r8Wide, D_impl_AddEntry, reduceCtorEq, reduceIte, Nat.reduceBEq, Nat.reduceAdd, Nat.reduceEqDiff, Nat.reduceLT, Nat.reduceLeDiff, Nat.reduceMul, Nat.reduceSub, BEq.rfl, beq_self_eq_true, Int.reduceToNat]
    (refine ⟨by (trivial), hK _ ?_⟩)
    clear hK K
    refine AWP.seq ?_
    refine AWP.regS G_ok laws_FnStores_DD hc (by kernel_rfl) (fun K hK => ?_); simp only [ea, gv, sv, D_spec_ValidStore, D_impl_StockOn, D_impl_FreeOn, D_impl_RoomOn, D_impl_ShortSpares, D_laws_r8Long, D_spec_R8Store, D_laws_r8At, D_laws_r8Wide, D_impl_AddEntry, reduceCtorEq, reduceIte, Nat.reduceBEq, Nat.reduceAdd, Nat.reduceEqDiff, Nat.reduceLT, Nat.reduceLeDiff, Nat.reduceMul, Nat.reduceSub, BEq.rfl, beq_self_eq_true, Int.reduceToNat]
    (refine ⟨by (omega), hK _ ?_⟩)
    clear hK K
    refine AWP.seq ?_
    refine AWP.regS G_ok laws_FnStores_DD hc (by kernel_rfl) (fun K hK => ?_); simp only [ea, gv, sv, D_spec_ValidStore, D_impl_StockOn, D_impl_FreeOn, D_impl_RoomOn, D_impl_ShortSpares, D_laws_r8Long, D_spec_R8Store, D_laws_r8At, D_laws_r8Wide, D_impl_AddEntry, reduceCtorEq, reduceIte, Nat.reduceBEq, Nat.reduceAdd, Nat.reduceEqDiff, Nat.reduceLT, Nat.reduceLeDiff, Nat.reduceMul, Nat.reduceSub, BEq.rfl, beq_self_eq_true, Int.reduceToNat]
    (refine ⟨by (trivial), hK _ ?_⟩)
    clear hK K
    refine AWP.seq ?_
    refine AWP.regS G_ok laws_FnStores_DD hc (by kernel_rfl) (fun K hK => ?_); simp only [ea, gv, sv, D_spec_ValidStore, D_impl_StockOn, D_impl_FreeOn, D_impl_RoomOn, D_impl_ShortSpares, D_laws_r8Long, D_spec_R8Store, D_laws_r8At, D_laws_r8Wide, D_impl_AddEntry, reduceCtorEq, reduceIte, Nat.reduceBEq, Nat.reduceAdd, Nat.reduceEqDiff, Nat.reduceLT, Nat.reduceLeDiff, Nat.reduceMul, Nat.reduceSub, BEq.rfl, beq_self_eq_true, Int.reduceToNat]
    (refine ⟨by (((try clear hK K); (repeat' first | apply And.intro | intro _) <;> first | omega | solve_by_elim | (simp only [ob, ln, bdv, sv] at *; (simp_all; done)))), hK _ ?_⟩)
    clear hK K
    refine AWP.seq ?_
    refine AWP.regS G_ok laws_FnStores_DD hc (by kernel_rfl) (fun K hK => ?_); simp only [ea, gv, sv, D_spec_ValidStore, D_impl_StockOn, D_impl_FreeOn, D_impl_RoomOn, D_impl_ShortSpares, D_laws_r8Long, D_spec_R8Store, D_laws_r8At, D_laws_r8Wide, D_impl_AddEntry, reduceCtorEq, reduceIte, Nat.reduceBEq, Nat.reduceAdd, Nat.reduceEqDiff, Nat.reduceLT, Nat.reduceLeDiff, Nat.reduceMul, Nat.reduceSub, BEq.rfl, beq_self_eq_true, Int.reduceToNat]
    (refine ⟨by (((try clear hK K); (repeat' first | apply And.intro | intro _) <;> first | omega | solve_by_elim | (simp only [ob, ln, bdv, sv] at *; (simp_all; done)))), hK _ ?_⟩)
    clear hK K
    refine AWP.seq ?_
    refine AWP.regS G_ok laws_FnStores_DD hc (by kernel_rfl) (fun K hK => ?_); simp only [ea, gv, sv, D_spec_ValidStore, D_impl_StockOn, D_impl_FreeOn, D_impl_RoomOn, D_impl_ShortSpares, D_laws_r8Long, D_spec_R8Store, D_laws_r8At, D_laws_r8Wide, D_impl_AddEntry, reduceCtorEq, reduceIte, Nat.reduceBEq, Nat.reduceAdd, Nat.reduceEqDiff, Nat.reduceLT, Nat.reduceLeDiff, Nat.reduceMul, Nat.reduceSub, BEq.rfl, beq_self_eq_true, Int.reduceToNat]
    (refine ⟨by (((try clear hK K); (repeat' first | apply And.intro | intro _) <;> first | omega | solve_by_elim | (simp only [ob, ln, bdv, sv] at *; (simp_all; done)))), hK _ ?_⟩)
    clear hK K
    refine AWP.seq ?_
    refine AWP.seq ?_
    refine AWP.regS G_ok laws_FnStores_DD hc (by kernel_rfl) (fun K hK => ?_); simp only [ea, gv, sv, D_spec_ValidStore, D_impl_StockOn, D_impl_FreeOn, D_impl_RoomOn, D_impl_ShortSpares, D_laws_r8Long, D_spec_R8Store, D_laws_r8At, D_laws_r8Wide, D_impl_AddEntry, reduceCtorEq, reduceIte, Nat.reduceBEq, Nat.reduceAdd, Nat.reduceEqDiff, Nat.reduceLT, Nat.reduceLeDiff, Nat.reduceMul, Nat.reduceSub, BEq.rfl, beq_self_eq_true, Int.reduceToNat]
    (refine ⟨by (omega), hK _ ?_⟩)
    clear hK K
    refine AWP.cond rfl (fun hb => ?_) (fun hb => ?_)
    · (simp only [hb, cond_true] at hR)
      refine AWP.seq ?_
      refine AWP.regS G_ok laws_FnStores_DD hc (by kernel_rfl) (fun K hK => ?_); simp only [ea, gv, sv, D_spec_ValidStore, D_impl_StockOn, D_impl_FreeOn, D_impl_RoomOn, D_impl_ShortSpares, D_laws_r8Long, D_spec_R8Store, D_laws_r8At, D_laws_r8Wide, D_impl_AddEntry, reduceCtorEq, reduceIte, Nat.reduceBEq, Nat.reduceAdd, Nat.reduceEqDiff, Nat.reduceLT, Nat.reduceLeDiff, Nat.reduceMul, Nat.reduceSub, BEq.rfl, beq_self_eq_true, Int.reduceToNat]
      (refine hK _ ?_)
      clear hK K
      refine AWP.ret ?_
      subst hR
      (simp only [en, si, ea, gv, sv, hk, reduceCtorEq, reduceIte, Nat.reduceBEq, Nat.reduceAdd, Nat.reduceEqDiff, Nat.reduceLT, Nat.reduceLeDiff, Nat.reduceMul, Nat.reduceSub, BEq.rfl, beq_self_eq_true, Int.reduceToNat]; done)
    · (simp only [hb, cond_false] at hR)
      refine AWP.skip ?_
      refine AWP.seq ?_
      refine AWP.regS G_ok laws_FnStores_DD hc (by kernel_rfl) (fun K hK => ?_); simp only [ea, gv, sv, D_spec_ValidStore, D_impl_StockOn, D_impl_FreeOn, D_impl_RoomOn, D_impl_ShortSpares, D_laws_r8Long, D_spec_R8Store, D_laws_r8At, D_laws_r8Wide, D_impl_AddEntry, reduceCtorEq, reduceIte, Nat.reduceBEq, Nat.reduceAdd, Nat.reduceEqDiff, Nat.reduceLT, Nat.reduceLeDiff, Nat.reduceMul, Nat.reduceSub, BEq.rfl, beq_self_eq_true, Int.reduceToNat]
      (refine ⟨by (((try clear hK K); (repeat' first | apply And.intro | intro _) <;> first | omega | solve_by_elim | (simp only [ob, ln, bdv, sv] at *; (simp_all; done)))), hK _ ?_⟩)
      clear hK K
      refine AWP.seq ?_
      refine AWP.regS G_ok laws_FnStores_DD hc (by kernel_rfl) (fun K hK => ?_); simp only [ea, gv, sv, D_spec_ValidStore, D_impl_StockOn, D_impl_FreeOn, D_impl_RoomOn, D_impl_ShortSpares, D_laws_r8Long, D_spec_R8Store, D_laws_r8At, D_laws_r8Wide, D_impl_AddEntry, reduceCtorEq, reduceIte, Nat.reduceBEq, Nat.reduceAdd, Nat.reduceEqDiff, Nat.reduceLT, Nat.reduceLeDiff, Nat.reduceMul, Nat.reduceSub, BEq.rfl, beq_self_eq_true, Int.reduceToNat]
      (refine ⟨by (((try clear hK K); (repeat' first | apply And.intro | intro _) <;> first | omega | solve_by_elim | (simp only [ob, ln, bdv, sv] at *; (simp_all; done)))), hK _ ?_⟩)
      clear hK K
      refine AWP.seq ?_
      refine AWP.seq ?_
      refine AWP.regS G_ok laws_FnStores_DD hc (by kernel_rfl) (fun K hK => ?_); simp only [ea, gv, sv, D_spec_ValidStore, D_impl_StockOn, D_impl_FreeOn, D_impl_RoomOn, D_impl_ShortSpares, D_laws_r8Long, D_spec_R8Store, D_laws_r8At, D_laws_r8Wide, D_impl_AddEntry, reduceCtorEq, reduceIte, Nat.reduceBEq, Nat.reduceAdd, Nat.reduceEqDiff, Nat.reduceLT, Nat.reduceLeDiff, Nat.reduceMul, Nat.reduceSub, BEq.rfl, beq_self_eq_true, Int.reduceToNat]
      (refine hK _ ?_)
      clear hK K
      refine AWP.cond rfl (fun hb => ?_) (fun hb => ?_)
      · (simp only [hb, cond_true] at hR)
        refine AWP.seq ?_
        refine AWP.regS G_ok laws_FnStores_DD hc (by kernel_rfl) (fun K hK => ?_); simp only [ea, gv, sv, D_spec_ValidStore, D_impl_StockOn, D_impl_FreeOn, D_impl_RoomOn, D_impl_ShortSpares, D_laws_r8Long, D_spec_R8Store, D_laws_r8At, D_laws_r8Wide, D_impl_AddEntry, reduceCtorEq, reduceIte, Nat.reduceBEq, Nat.reduceAdd, Nat.reduceEqDiff, Nat.reduceLT, Nat.reduceLeDiff, Nat.reduceMul, Nat.reduceSub, BEq.rfl, beq_self_eq_true, Int.reduceToNat]
        (refine hK _ ?_)
        clear hK K
        refine AWP.ret ?_
        subst hR
        (simp only [en, si, ea, gv, sv, hk, reduceCtorEq, reduceIte, Nat.reduceBEq, Nat.reduceAdd, Nat.reduceEqDiff, Nat.reduceLT, Nat.reduceLeDiff, Nat.reduceMul, Nat.reduceSub, BEq.rfl, beq_self_eq_true, Int.reduceToNat]; done)
      · (simp only [hb, cond_false] at hR)
        refine AWP.skip ?_
        refine AWP.seq ?_
        refine AWP.seq ?_
        refine AWP.regS G_ok laws_FnStores_DD hc (by kernel_rfl) (fun K hK => ?_); simp only [ea, gv, sv, D_spec_ValidStore, D_impl_StockOn, D_impl_FreeOn, D_impl_RoomOn, D_impl_ShortSpares, D_laws_r8Long, D_spec_R8Store, D_laws_r8At, D_laws_r8Wide, D_impl_AddEntry, reduceCtorEq, reduceIte, Nat.reduceBEq, Nat.reduceAdd, Nat.reduceEqDiff, Nat.reduceLT, Nat.reduceLeDiff, Nat.reduceMul, Nat.reduceSub, BEq.rfl, beq_self_eq_true, Int.reduceToNat]
        (refine hK _ ?_)
        clear hK K
        refine AWP.cond rfl (fun hb => ?_) (fun hb => ?_)
        · (simp only [hb, cond_true] at hR)
          refine AWP.seq ?_
          refine AWP.regS G_ok laws_FnStores_DD hc (by kernel_rfl) (fun K hK => ?_); simp only [ea, gv, sv, D_spec_ValidStore, D_impl_StockOn, D_impl_FreeOn, D_impl_RoomOn, D_impl_ShortSpares, D_laws_r8Long, D_spec_R8Store, D_laws_r8At, D_laws_r8Wide, D_impl_AddEntry, reduceCtorEq, reduceIte, Nat.reduceBEq, Nat.reduceAdd, Nat.reduceEqDiff, Nat.reduceLT, Nat.reduceLeDiff, Nat.reduceMul, Nat.reduceSub, BEq.rfl, beq_self_eq_true, Int.reduceToNat]
          (refine ⟨by (((try clear hK K); (repeat' first | apply And.intro | intro _) <;> first | omega | solve_by_elim | (simp only [ob, ln, bdv, sv] at *; (simp_all; done)))), hK _ ?_⟩)
          clear hK K
          refine AWP.seq ?_
          refine AWP.regS G_ok laws_FnStores_DD hc (by kernel_rfl) (fun K hK => ?_); simp only [ea, gv, sv, D_spec_ValidStore, D_impl_StockOn, D_impl_FreeOn, D_impl_RoomOn, D_impl_ShortSpares, D_laws_r8Long, D_spec_R8Store, D_laws_r8At, D_laws_r8Wide, D_impl_AddEntry, reduceCtorEq, reduceIte, Nat.reduceBEq, Nat.reduceAdd, Nat.reduceEqDiff, Nat.reduceLT, Nat.reduceLeDiff, Nat.reduceMul, Nat.reduceSub, BEq.rfl, beq_self_eq_true, Int.reduceToNat]
          (refine ⟨by (((try clear hK K); (repeat' first | apply And.intro | intro _) <;> first | omega | (rename_i hx9; exact hsb _ ((impl_AddEntry_mem _ _ (by show (spec_R8Store a0).Entries.length < _; omega)).1 _ hx9)) | (rename_i hx9; rcases (impl_AddEntry_mem _ _ (by show (spec_R8Store a0).Entries.length < _; omega)).2.1 _ hx9 with h9 | h9; exact heb _ h9; subst h9; exact bd_getD hsb (by decide) _) | (refine Nat.lt_of_le_of_lt (impl_AddEntry_mem _ _ (by show (spec_R8Store a0).Entries.length < _; omega)).2.2.1 ?_; show (spec_R8Store a0).Spares.length < _; omega) | (refine Nat.lt_of_le_of_lt (impl_AddEntry_mem _ _ (by show (spec_R8Store a0).Entries.length < _; omega)).2.2.2 ?_; show (spec_R8Store a0).Entries.length + 1 < _; omega) | (simp only [ob, ln, bdv, sv] at *; (simp_all; done)))), hK _ ?_⟩)
          clear hK K
          refine AWP.seq ?_
          refine AWP.regS G_ok laws_FnStores_DD hc (by kernel_rfl) (fun K hK => ?_); simp only [ea, gv, sv, D_spec_ValidStore, D_impl_StockOn, D_impl_FreeOn, D_impl_RoomOn, D_impl_ShortSpares, D_laws_r8Long, D_spec_R8Store, D_laws_r8At, D_laws_r8Wide, D_impl_AddEntry, reduceCtorEq, reduceIte, Nat.reduceBEq, Nat.reduceAdd, Nat.reduceEqDiff, Nat.reduceLT, Nat.reduceLeDiff, Nat.reduceMul, Nat.reduceSub, BEq.rfl, beq_self_eq_true, Int.reduceToNat]
          (refine ⟨by (omega), hK _ ?_⟩)
          clear hK K
          refine AWP.cond rfl (fun hb => ?_) (fun hb => ?_)
          · (simp only [hb, cond_true] at hR)
            refine AWP.seq ?_
            refine AWP.regS G_ok laws_FnStores_DD hc (by kernel_rfl) (fun K hK => ?_); simp only [ea, gv, sv, D_spec_ValidStore, D_impl_StockOn, D_impl_FreeOn, D_impl_RoomOn, D_impl_ShortSpares, D_laws_r8Long, D_spec_R8Store, D_laws_r8At, D_laws_r8Wide, D_impl_AddEntry, reduceCtorEq, reduceIte, Nat.reduceBEq, Nat.reduceAdd, Nat.reduceEqDiff, Nat.reduceLT, Nat.reduceLeDiff, Nat.reduceMul, Nat.reduceSub, BEq.rfl, beq_self_eq_true, Int.reduceToNat]
            (refine hK _ ?_)
            clear hK K
            refine AWP.ret ?_
            subst hR
            (simp only [en, si, ea, gv, sv, hk, reduceCtorEq, reduceIte, Nat.reduceBEq, Nat.reduceAdd, Nat.reduceEqDiff, Nat.reduceLT, Nat.reduceLeDiff, Nat.reduceMul, Nat.reduceSub, BEq.rfl, beq_self_eq_true, Int.reduceToNat]; done)
          · (simp only [hb, cond_false] at hR)
            refine AWP.skip ?_
            refine AWP.seq ?_
            refine AWP.regS G_ok laws_FnStores_DD hc (by kernel_rfl) (fun K hK => ?_); simp only [ea, gv, sv, D_spec_ValidStore, D_impl_StockOn, D_impl_FreeOn, D_impl_RoomOn, D_impl_ShortSpares, D_laws_r8Long, D_spec_R8Store, D_laws_r8At, D_laws_r8Wide, D_impl_AddEntry, reduceCtorEq, reduceIte, Nat.reduceBEq, Nat.reduceAdd, Nat.reduceEqDiff, Nat.reduceLT, Nat.reduceLeDiff, Nat.reduceMul, Nat.reduceSub, BEq.rfl, beq_self_eq_true, Int.reduceToNat]
            (refine ⟨by (((try clear hK K); (repeat' first | apply And.intro | intro _) <;> first | omega | solve_by_elim)), hK _ ?_⟩)
            clear hK K
            refine AWP.seq ?_
            refine AWP.regS G_ok laws_FnStores_DD hc (by kernel_rfl) (fun K hK => ?_); simp only [ea, gv, sv, D_spec_ValidStore, D_impl_StockOn, D_impl_FreeOn, D_impl_RoomOn, D_impl_ShortSpares, D_laws_r8Long, D_spec_R8Store, D_laws_r8At, D_laws_r8Wide, D_impl_AddEntry, reduceCtorEq, reduceIte, Nat.reduceBEq, Nat.reduceAdd, Nat.reduceEqDiff, Nat.reduceLT, Nat.reduceLeDiff, Nat.reduceMul, Nat.reduceSub, BEq.rfl, beq_self_eq_true, Int.reduceToNat]
            (refine hK _ ?_)
            clear hK K
            refine AWP.seq ?_
            refine AWP.seq ?_
            refine AWP.regS G_ok laws_FnStores_DD hc (by kernel_rfl) (fun K hK => ?_); simp only [ea, gv, sv, D_spec_ValidStore, D_impl_StockOn, D_impl_FreeOn, D_impl_RoomOn, D_impl_ShortSpares, D_laws_r8Long, D_spec_R8Store, D_laws_r8At, D_laws_r8Wide, D_impl_AddEntry, reduceCtorEq, reduceIte, Nat.reduceBEq, Nat.reduceAdd, Nat.reduceEqDiff, Nat.reduceLT, Nat.reduceLeDiff, Nat.reduceMul, Nat.reduceSub, BEq.rfl, beq_self_eq_true, Int.reduceToNat]
            (refine hK _ ?_)
            clear hK K
            refine AWP.block ?_
            generalize hz1 : loopR (laws_FnStores_b1 a0 a1) ((((impl_ShortSpares ({ Spares := (spec_R8Store a0).Spares, Entries := (spec_R8Store a0).Entries : Store }) (laws_r8Wide a1 1 220)).1).length) - 0) 0 false = z1 at hR
            refine AWP.range (laws_FnStores_b1 a0 a1) (fun i1 s1 => ⟨[(5, .ptr 0 0), (6, .int .i64 (laws_r8At a1 0 (((spec_R8Store a0).Spares).length : Int))), (7, .str ((((spec_R8Store a0).Spares).getD (((laws_r8At a1 0 (((spec_R8Store a0).Spares).length : Int))).toNat) default).Name)), (9, .int .i64 ((impl_StockOn ({ Spares := (spec_R8Store a0).Spares, Entries := (spec_R8Store a0).Entries : Store }) ((((spec_R8Store a0).Spares).getD (((laws_r8At a1 0 (((spec_R8Store a0).Spares).length : Int))).toNat) default).Name) (laws_r8Wide a1 1 220)).1)), (23, .ref 3 1 0 (((impl_ShortSpares ({ Spares := (spec_R8Store a0).Spares, Entries := (spec_R8Store a0).Entries : Store }) (laws_r8Wide a1 1 220)).1).length)), (24, .int .i64 ((impl_ShortSpares ({ Spares := (spec_R8Store a0).Spares, Entries := (spec_R8Store a0).Entries : Store }) (laws_r8Wide a1 1 220)).2)), (25, .bool s1), (26, .int .i64 (i1 : Int))], [.box [.ref 1 3 0 (((spec_R8Store a0).Spares).length), .ref 2 3 0 (((spec_R8Store a0).Entries).length)], .arr 63 3 ((spec_R8Store a0).Spares).length (fun j => eSpare (((spec_R8Store a0).Spares).getD j default)), .arr 66 3 ((spec_R8Store a0).Entries).length (fun j => eEntry (((spec_R8Store a0).Entries).getD j default)), .arr 9 1 ((impl_ShortSpares ({ Spares := (spec_R8Store a0).Spares, Entries := (spec_R8Store a0).Entries : Store }) (laws_r8Wide a1 1 220)).1).length (fun j => eS (((impl_ShortSpares ({ Spares := (spec_R8Store a0).Spares, Entries := (spec_R8Store a0).Entries : Store }) (laws_r8Wide a1 1 220)).1).getD j default))]⟩) (fun i1 s1 => True) ((((impl_ShortSpares ({ Spares := (spec_R8Store a0).Spares, Entries := (spec_R8Store a0).Entries : Store }) (laws_r8Wide a1 1 220)).1).length)) 0 false [2, 0, 1, 12] hz1 (by (omega)) (by (trivial)) (by (simp only [si, ea, gv, sv, hk, reduceCtorEq, reduceIte, Nat.reduceBEq, Nat.reduceAdd, Nat.reduceEqDiff, Nat.reduceLT, Nat.reduceLeDiff, Nat.reduceMul, Nat.reduceSub, BEq.rfl, beq_self_eq_true, Int.reduceToNat]; trivial)) ?_
            clear hz1
            intro i1 s1 hi1 hW1 hz1
            refine AWP.seq ?_
            refine AWP.seq ?_
            refine AWP.regS G_ok laws_FnStores_DD hc (by kernel_rfl) (fun K hK => ?_); simp only [ea, gv, sv, D_spec_ValidStore, D_impl_StockOn, D_impl_FreeOn, D_impl_RoomOn, D_impl_ShortSpares, D_laws_r8Long, D_spec_R8Store, D_laws_r8At, D_laws_r8Wide, D_impl_AddEntry, reduceCtorEq, reduceIte, Nat.reduceBEq, Nat.reduceAdd, Nat.reduceEqDiff, Nat.reduceLT, Nat.reduceLeDiff, Nat.reduceMul, Nat.reduceSub, BEq.rfl, beq_self_eq_true, Int.reduceToNat]
            (refine hK _ ?_)
            clear hK K
            refine AWP.cond rfl (fun hb => ?_) (fun hb => ?_)
            · have hlt1 : i1 < (((impl_ShortSpares ({ Spares := (spec_R8Store a0).Spares, Entries := (spec_R8Store a0).Entries : Store }) (laws_r8Wide a1 1 220)).1).length) := by ((simp only [ob, ln, bdv, sv] at *; omega))
              rw [loopR_lt hlt1] at hz1; simp only [laws_FnStores_b1] at hz1
              refine AWP.skip ?_
              refine AWP.seq ?_
              refine AWP.block ?_
              refine AWP.regS G_ok laws_FnStores_DD hc (by kernel_rfl) (fun K hK => ?_); simp only [ea, gv, sv, D_spec_ValidStore, D_impl_StockOn, D_impl_FreeOn, D_impl_RoomOn, D_impl_ShortSpares, D_laws_r8Long, D_spec_R8Store, D_laws_r8At, D_laws_r8Wide, D_impl_AddEntry, reduceCtorEq, reduceIte, Nat.reduceBEq, Nat.reduceAdd, Nat.reduceEqDiff, Nat.reduceLT, Nat.reduceLeDiff, Nat.reduceMul, Nat.reduceSub, BEq.rfl, beq_self_eq_true, Int.reduceToNat]
              (refine ⟨by (omega), hK _ ?_⟩)
              clear hK K
              refine AWP.regS G_ok laws_FnStores_DD hc (by kernel_rfl) (fun K hK => ?_); simp only [ea, gv, sv, D_spec_ValidStore, D_impl_StockOn, D_impl_FreeOn, D_impl_RoomOn, D_impl_ShortSpares, D_laws_r8Long, D_spec_R8Store, D_laws_r8At, D_laws_r8Wide, D_impl_AddEntry, reduceCtorEq, reduceIte, Nat.reduceBEq, Nat.reduceAdd, Nat.reduceEqDiff, Nat.reduceLT, Nat.reduceLeDiff, Nat.reduceMul, Nat.reduceSub, BEq.rfl, beq_self_eq_true, Int.reduceToNat]
              (refine hK _ ?_)
              clear hK K
              exact ⟨_, [0, 1, 2, 3], hlt1, by (trivial), hz1, by (simp only [si, ea, gv, sv, hk, reduceCtorEq, reduceIte, Nat.reduceBEq, Nat.reduceAdd, Nat.reduceEqDiff, Nat.reduceLT, Nat.reduceLeDiff, Nat.reduceMul, Nat.reduceSub, BEq.rfl, beq_self_eq_true, Int.reduceToNat]; (and_intros <;> first | trivial | (simp only [ob, ln, bdv, sv] at *; (grind [impl_ShortSpares_len, impl_AddEntry_len]))))⟩
            · obtain rfl : i1 = (((impl_ShortSpares ({ Spares := (spec_R8Store a0).Spares, Entries := (spec_R8Store a0).Entries : Store }) (laws_r8Wide a1 1 220)).1).length) := by ((simp only [ob, ln, bdv, sv] at *; omega))
              rw [loopR_ge (Nat.le_refl _)] at hz1; subst hz1; dsimp only at hR
              refine AWP.exit ?_; refine exitTo_here ?_
              refine AWP.seq ?_
              refine AWP.regS G_ok laws_FnStores_DD hc (by kernel_rfl) (fun K hK => ?_); simp only [ea, gv, sv, D_spec_ValidStore, D_impl_StockOn, D_impl_FreeOn, D_impl_RoomOn, D_impl_ShortSpares, D_laws_r8Long, D_spec_R8Store, D_laws_r8At, D_laws_r8Wide, D_impl_AddEntry, reduceCtorEq, reduceIte, Nat.reduceBEq, Nat.reduceAdd, Nat.reduceEqDiff, Nat.reduceLT, Nat.reduceLeDiff, Nat.reduceMul, Nat.reduceSub, BEq.rfl, beq_self_eq_true, Int.reduceToNat]
              (refine ⟨by (omega), hK _ ?_⟩)
              clear hK K
              refine AWP.ret ?_
              subst hR
              (simp only [en, si, ea, gv, sv, hk, reduceCtorEq, reduceIte, Nat.reduceBEq, Nat.reduceAdd, Nat.reduceEqDiff, Nat.reduceLT, Nat.reduceLeDiff, Nat.reduceMul, Nat.reduceSub, BEq.rfl, beq_self_eq_true, Int.reduceToNat]; done)
        · (simp only [hb, cond_false] at hR)
          refine AWP.skip ?_
          refine AWP.seq ?_
          refine AWP.regS G_ok laws_FnStores_DD hc (by kernel_rfl) (fun K hK => ?_); simp only [ea, gv, sv, D_spec_ValidStore, D_impl_StockOn, D_impl_FreeOn, D_impl_RoomOn, D_impl_ShortSpares, D_laws_r8Long, D_spec_R8Store, D_laws_r8At, D_laws_r8Wide, D_impl_AddEntry, reduceCtorEq, reduceIte, Nat.reduceBEq, Nat.reduceAdd, Nat.reduceEqDiff, Nat.reduceLT, Nat.reduceLeDiff, Nat.reduceMul, Nat.reduceSub, BEq.rfl, beq_self_eq_true, Int.reduceToNat]
          (refine ⟨by (((try clear hK K); (repeat' first | apply And.intro | intro _) <;> first | omega | solve_by_elim)), hK _ ?_⟩)
          clear hK K
          refine AWP.seq ?_
          refine AWP.regS G_ok laws_FnStores_DD hc (by kernel_rfl) (fun K hK => ?_); simp only [ea, gv, sv, D_spec_ValidStore, D_impl_StockOn, D_impl_FreeOn, D_impl_RoomOn, D_impl_ShortSpares, D_laws_r8Long, D_spec_R8Store, D_laws_r8At, D_laws_r8Wide, D_impl_AddEntry, reduceCtorEq, reduceIte, Nat.reduceBEq, Nat.reduceAdd, Nat.reduceEqDiff, Nat.reduceLT, Nat.reduceLeDiff, Nat.reduceMul, Nat.reduceSub, BEq.rfl, beq_self_eq_true, Int.reduceToNat]
          (refine hK _ ?_)
          clear hK K
          refine AWP.seq ?_
          refine AWP.seq ?_
          refine AWP.regS G_ok laws_FnStores_DD hc (by kernel_rfl) (fun K hK => ?_); simp only [ea, gv, sv, D_spec_ValidStore, D_impl_StockOn, D_impl_FreeOn, D_impl_RoomOn, D_impl_ShortSpares, D_laws_r8Long, D_spec_R8Store, D_laws_r8At, D_laws_r8Wide, D_impl_AddEntry, reduceCtorEq, reduceIte, Nat.reduceBEq, Nat.reduceAdd, Nat.reduceEqDiff, Nat.reduceLT, Nat.reduceLeDiff, Nat.reduceMul, Nat.reduceSub, BEq.rfl, beq_self_eq_true, Int.reduceToNat]
          (refine hK _ ?_)
          clear hK K
          refine AWP.block ?_
          generalize hz2 : loopR (laws_FnStores_b2 a0 a1) ((((impl_ShortSpares ({ Spares := (spec_R8Store a0).Spares, Entries := (spec_R8Store a0).Entries : Store }) (laws_r8Wide a1 1 220)).1).length) - 0) 0 false = z2 at hR
          refine AWP.range (laws_FnStores_b2 a0 a1) (fun i2 s2 => ⟨[(5, .ptr 0 0), (6, .int .i64 (laws_r8At a1 0 (((spec_R8Store a0).Spares).length : Int))), (7, .str ((((spec_R8Store a0).Spares).getD (((laws_r8At a1 0 (((spec_R8Store a0).Spares).length : Int))).toNat) default).Name)), (9, .int .i64 ((impl_StockOn ({ Spares := (spec_R8Store a0).Spares, Entries := (spec_R8Store a0).Entries : Store }) ((((spec_R8Store a0).Spares).getD (((laws_r8At a1 0 (((spec_R8Store a0).Spares).length : Int))).toNat) default).Name) (laws_r8Wide a1 1 220)).1)), (23, .ref 3 1 0 (((impl_ShortSpares ({ Spares := (spec_R8Store a0).Spares, Entries := (spec_R8Store a0).Entries : Store }) (laws_r8Wide a1 1 220)).1).length)), (24, .int .i64 ((impl_ShortSpares ({ Spares := (spec_R8Store a0).Spares, Entries := (spec_R8Store a0).Entries : Store }) (laws_r8Wide a1 1 220)).2)), (25, .bool s2), (26, .int .i64 (i2 : Int))], [.box [.ref 1 3 0 (((spec_R8Store a0).Spares).length), .ref 2 3 0 (((spec_R8Store a0).Entries).length)], .arr 63 3 ((spec_R8Store a0).Spares).length (fun j => eSpare (((spec_R8Store a0).Spares).getD j default)), .arr 66 3 ((spec_R8Store a0).Entries).length (fun j => eEntry (((spec_R8Store a0).Entries).getD j default)), .arr 9 1 ((impl_ShortSpares ({ Spares := (spec_R8Store a0).Spares, Entries := (spec_R8Store a0).Entries : Store }) (laws_r8Wide a1 1 220)).1).length (fun j => eS (((impl_ShortSpares ({ Spares := (spec_R8Store a0).Spares, Entries := (spec_R8Store a0).Entries : Store }) (laws_r8Wide a1 1 220)).1).getD j default))]⟩) (fun i2 s2 => True) ((((impl_ShortSpares ({ Spares := (spec_R8Store a0).Spares, Entries := (spec_R8Store a0).Entries : Store }) (laws_r8Wide a1 1 220)).1).length)) 0 false [2, 0, 1, 9] hz2 (by (omega)) (by (trivial)) (by (simp only [si, ea, gv, sv, hk, reduceCtorEq, reduceIte, Nat.reduceBEq, Nat.reduceAdd, Nat.reduceEqDiff, Nat.reduceLT, Nat.reduceLeDiff, Nat.reduceMul, Nat.reduceSub, BEq.rfl, beq_self_eq_true, Int.reduceToNat]; trivial)) ?_
          clear hz2
          intro i2 s2 hi2 hW2 hz2
          refine AWP.seq ?_
          refine AWP.seq ?_
          refine AWP.regS G_ok laws_FnStores_DD hc (by kernel_rfl) (fun K hK => ?_); simp only [ea, gv, sv, D_spec_ValidStore, D_impl_StockOn, D_impl_FreeOn, D_impl_RoomOn, D_impl_ShortSpares, D_laws_r8Long, D_spec_R8Store, D_laws_r8At, D_laws_r8Wide, D_impl_AddEntry, reduceCtorEq, reduceIte, Nat.reduceBEq, Nat.reduceAdd, Nat.reduceEqDiff, Nat.reduceLT, Nat.reduceLeDiff, Nat.reduceMul, Nat.reduceSub, BEq.rfl, beq_self_eq_true, Int.reduceToNat]
          (refine hK _ ?_)
          clear hK K
          refine AWP.cond rfl (fun hb => ?_) (fun hb => ?_)
          · have hlt2 : i2 < (((impl_ShortSpares ({ Spares := (spec_R8Store a0).Spares, Entries := (spec_R8Store a0).Entries : Store }) (laws_r8Wide a1 1 220)).1).length) := by ((simp only [ob, ln, bdv, sv] at *; omega))
            rw [loopR_lt hlt2] at hz2; simp only [laws_FnStores_b2] at hz2
            refine AWP.skip ?_
            refine AWP.seq ?_
            refine AWP.block ?_
            refine AWP.regS G_ok laws_FnStores_DD hc (by kernel_rfl) (fun K hK => ?_); simp only [ea, gv, sv, D_spec_ValidStore, D_impl_StockOn, D_impl_FreeOn, D_impl_RoomOn, D_impl_ShortSpares, D_laws_r8Long, D_spec_R8Store, D_laws_r8At, D_laws_r8Wide, D_impl_AddEntry, reduceCtorEq, reduceIte, Nat.reduceBEq, Nat.reduceAdd, Nat.reduceEqDiff, Nat.reduceLT, Nat.reduceLeDiff, Nat.reduceMul, Nat.reduceSub, BEq.rfl, beq_self_eq_true, Int.reduceToNat]
            (refine ⟨by (omega), hK _ ?_⟩)
            clear hK K
            refine AWP.regS G_ok laws_FnStores_DD hc (by kernel_rfl) (fun K hK => ?_); simp only [ea, gv, sv, D_spec_ValidStore, D_impl_StockOn, D_impl_FreeOn, D_impl_RoomOn, D_impl_ShortSpares, D_laws_r8Long, D_spec_R8Store, D_laws_r8At, D_laws_r8Wide, D_impl_AddEntry, reduceCtorEq, reduceIte, Nat.reduceBEq, Nat.reduceAdd, Nat.reduceEqDiff, Nat.reduceLT, Nat.reduceLeDiff, Nat.reduceMul, Nat.reduceSub, BEq.rfl, beq_self_eq_true, Int.reduceToNat]
            (refine hK _ ?_)
            clear hK K
            exact ⟨_, [0, 1, 2, 3], hlt2, by (trivial), hz2, by (simp only [si, ea, gv, sv, hk, reduceCtorEq, reduceIte, Nat.reduceBEq, Nat.reduceAdd, Nat.reduceEqDiff, Nat.reduceLT, Nat.reduceLeDiff, Nat.reduceMul, Nat.reduceSub, BEq.rfl, beq_self_eq_true, Int.reduceToNat]; (and_intros <;> first | trivial | (simp only [ob, ln, bdv, sv] at *; (grind [impl_ShortSpares_len, impl_AddEntry_len]))))⟩
          · obtain rfl : i2 = (((impl_ShortSpares ({ Spares := (spec_R8Store a0).Spares, Entries := (spec_R8Store a0).Entries : Store }) (laws_r8Wide a1 1 220)).1).length) := by ((simp only [ob, ln, bdv, sv] at *; omega))
            rw [loopR_ge (Nat.le_refl _)] at hz2; subst hz2; dsimp only at hR
            refine AWP.exit ?_; refine exitTo_here ?_
            refine AWP.seq ?_
            refine AWP.regS G_ok laws_FnStores_DD hc (by kernel_rfl) (fun K hK => ?_); simp only [ea, gv, sv, D_spec_ValidStore, D_impl_StockOn, D_impl_FreeOn, D_impl_RoomOn, D_impl_ShortSpares, D_laws_r8Long, D_spec_R8Store, D_laws_r8At, D_laws_r8Wide, D_impl_AddEntry, reduceCtorEq, reduceIte, Nat.reduceBEq, Nat.reduceAdd, Nat.reduceEqDiff, Nat.reduceLT, Nat.reduceLeDiff, Nat.reduceMul, Nat.reduceSub, BEq.rfl, beq_self_eq_true, Int.reduceToNat]
            (refine ⟨by (omega), hK _ ?_⟩)
            clear hK K
            refine AWP.ret ?_
            subst hR
            (simp only [en, si, ea, gv, sv, hk, reduceCtorEq, reduceIte, Nat.reduceBEq, Nat.reduceAdd, Nat.reduceEqDiff, Nat.reduceLT, Nat.reduceLeDiff, Nat.reduceMul, Nat.reduceSub, BEq.rfl, beq_self_eq_true, Int.reduceToNat]; done)
def D_laws_FnStores : DF
  | [x0, x1] => some (.bool (laws_FnStores (rdL dIu8 x0) (rdL dIu8 x1)), false, [wL 1 eIu8 dIu8 x0, wL 1 eIu8 dIu8 x1, ∀ v ∈ (rdL dIu8 x0), 0 ≤ v ∧ v ≤ 255, ∀ v ∈ (rdL dIu8 x1), 0 ≤ v ∧ v ≤ 255])
  | _ => none
theorem D_laws_FnStores_ok : OkD Try.prog 11 D_laws_FnStores := by
  intro xs r z ob h ho
  unfold D_laws_FnStores at h
  split at h
  · simp only [Option.some.injEq, Prod.mk.injEq] at h
    obtain ⟨rfl, rfl, rfl⟩ := h
    obtain ⟨h0, h1, hp0, hp1, _⟩ := ho
    exact Den.sim (laws_FnStores_den _ _ hp0 hp1) (simOL_cons (wL_sim h0).1 <| simOL_cons (wL_sim h1).1 <| trivial) (noIdL_cons (wL_sim h0).2 <| noIdL_cons (wL_sim h1).2 <| rfl) rfl
  · cases h
end Go.Ab

namespace Go.Ab
open Go Go.Proofs
theorem loop_any (l : List (List UInt8)) (k : List UInt8) : (loopR (fun i s => (.ok (s || (l.getD i default == k)) : Except Bool Bool)) (l.length - 0) 0 false) = .ok (decide (k ∈ l)) := by
  rw [loopR_list0 (fun (x : List UInt8) (s : Bool) => (.ok (s || (x == k)) : Except Bool Bool)) l false (fun j u _ => rfl)]
  suffices h : ∀ (l : List (List UInt8)) (s : Bool), loopL (fun (x : List UInt8) (s : Bool) => (.ok (s || (x == k)) : Except Bool Bool)) l s = .ok (s || decide (k ∈ l)) by
    rw [h, Bool.false_or]
  intro l
  induction l with
  | nil => intro s; simp [loopL]
  | cons x t ih =>
    intro s
    rw [loopL_cons]
    simp only [ih]
    congr 1
    by_cases hx : x = k
    · subst hx; simp
    · have h1 : (x == k) = false := by simpa using hx
      have h2 : ¬ k = x := fun h => hx h.symm
      simp [h1, h2]
theorem r8_bw (a0 : List Int) (h : ∀ v ∈ a0, 0 ≤ v ∧ v ≤ 255) : bwStore (spec_R8Store a0) := by
  have hb := r8_bd a0 h
  refine ⟨⟨by rw [hb.1]; simp [spec_l29Base], ?_⟩, ⟨by omega, fun v hv => ?_⟩⟩
  · rw [hb.1]; intro v hv
    simp only [spec_l29Base, List.mem_cons, List.not_mem_nil, or_false] at hv
    rcases hv with h | h | h <;> subst h <;> (show List.length _ < 9223372036854775808; simp)
  · have := hb.2.2 v hv
    show List.length _ < 9223372036854775808; omega
theorem r8_most (a0 : List Int) (h : ∀ v ∈ a0, 0 ≤ v ∧ v ≤ 255) (i : Nat) (hi : i < (spec_R8Store a0).Spares.length) : ((spec_R8Store a0).Spares.getD i default).Most ≤ 100 := by
  have hb := (r8_bd a0 h).1
  refine (all_getD (spec_R8Store a0).Spares (fun p => p.Most ≤ 100)).2 ?_ i hi
  rw [hb]; intro v hv
  simp only [spec_l29Base, List.mem_cons, List.not_mem_nil, or_false] at hv
  rcases hv with h | h | h <;> subst h <;> simp
theorem stores_core (st : Store) (hok : OkS st) (ha : bwStore st) (hl : st.Entries.length ≤ 9) (i : Nat) (hi : i < st.Spares.length) (hM : (st.Spares.getD i default).Most ≤ 100) (d : Int) (hd : spec_l03Day d = true) :
    ∃ s lo hi' : Int, 0 ≤ lo ∧ lo ≤ s ∧ s ≤ hi' ∧ hi' ≤ (st.Spares.getD i default).Most ∧
      impl_StockOn st (st.Spares.getD i default).Name d = (s, 0) ∧ impl_FreeOn st (st.Spares.getD i default).Name d = (lo, 0) ∧ impl_RoomOn st (st.Spares.getD i default).Name d = ((st.Spares.getD i default).Most - hi', 0) ∧
      (∀ x : Int, x ≠ 0 → -1000 ≤ x → x ≤ 1000 → ¬ (0 ≤ lo + x ∧ hi' + x ≤ (st.Spares.getD i default).Most) → (impl_AddEntry st { Day := d, Item := (st.Spares.getD i default).Name, Amount := x }).2 = 6) ∧
      (∀ x : Int, x ≠ 0 → -1000 ≤ x → x ≤ 1000 → (0 ≤ lo + x ∧ hi' + x ≤ (st.Spares.getD i default).Most) → ∃ st', impl_AddEntry st { Day := d, Item := (st.Spares.getD i default).Name, Amount := x } = (st', 0) ∧
        impl_StockOn st' (st.Spares.getD i default).Name d = (s + x, 0) ∧ spec_ValidStore st' = true) ∧
      ((impl_ShortSpares st d).2 = 0 ∧ ((st.Spares.getD i default).Name ∈ (impl_ShortSpares st d).1 ↔ s < (st.Spares.getD i default).Least)) := by
  obtain ⟨s, lo, hi', h1, h2, h3, h4, h5, h6⟩ := levels st hok i hi d
  refine ⟨s, lo, hi', h2, h3, h4, h5, ?_, ?_, ?_, ?_, ?_, ?_⟩
  · rw [stockOn_at st hok ha i hi d hd, h1]
  · rw [freeOn_at st hok ha i hi d hd, h1]
  · rw [roomOn_at st hok ha i hi d hd, h1]
    have : IntKind.wrap .i64 ((st.Spares.getD i default).Most - hi') = (st.Spares.getD i default).Most - hi' := by rw [IntKind.wrap_i64]; omega
    simp only [this]
  · intro x hx0 hx1 hx2 hn
    have h7 := (h6 { Day := d, Item := (st.Spares.getD i default).Name, Amount := x } rfl rfl hx1 hx2).1
    rw [add_at st hok ha (by omega) i hi _ rfl hd hx0 hx1 hx2]
    cases hf : spec_l29Flow (spec_l29Put st { Day := d, Item := (st.Spares.getD i default).Name, Amount := x }) (i : Int) with
    | true => exact absurd (h7.1 hf) hn
    | false => rfl
  · intro x hx0 hx1 hx2 hn
    obtain ⟨h7, h8⟩ := h6 { Day := d, Item := (st.Spares.getD i default).Name, Amount := x } rfl rfl hx1 hx2
    have hadd := add_at st hok ha (by omega) i hi { Day := d, Item := (st.Spares.getD i default).Name, Amount := x } rfl hd hx0 hx1 hx2
    rw [h7.2 hn, cond_true] at hadd
    have hok' : OkS (spec_l29Put st { Day := d, Item := (st.Spares.getD i default).Name, Amount := x }) := by
      have h9 := specAdd_ok st { Day := d, Item := (st.Spares.getD i default).Name, Amount := x } (by rw [← addE_eq _ _ ha, hadd])
      rwa [← addE_eq _ _ ha, hadd] at h9
    obtain ⟨j, _, _, _, hput⟩ := spec_l29Put_spec st { Day := d, Item := (st.Spares.getD i default).Name, Amount := x } (by omega)
    have hsp : (spec_l29Put st { Day := d, Item := (st.Spares.getD i default).Name, Amount := x }).Spares = st.Spares := by rw [hput]
    have ha' : bwStore (spec_l29Put st { Day := d, Item := (st.Spares.getD i default).Name, Amount := x }) := by
      refine ⟨by rw [hsp]; exact ha.1, ⟨by have := hok'.l2; omega, ?_⟩⟩
      rw [hput]
      intro v hv
      rcases List.mem_append.1 hv with h | h
      · exact ha.2.2 v (List.mem_of_mem_take h)
      · rcases List.mem_cons.1 h with h | h
        · subst h; exact ha.1.2 _ (by rw [List.getD_eq_getElem?_getD, List.getElem?_eq_getElem hi, Option.getD_some]; exact List.getElem_mem hi)
        · exact ha.2.2 v (List.mem_of_mem_drop h)
    refine ⟨_, hadd, ?_, (specOk_iff _).2 hok'⟩
    have h10 := stockOn_at _ hok' ha' i (by rw [hsp]; exact hi) d hd
    rw [hsp] at h10
    rw [h10, h8]
  · rw [short_at st hok ha d hd]
    refine ⟨rfl, ?_⟩
    rw [shorts_mem]
    constructor
    · rintro ⟨p, hp, hpk, hps⟩
      obtain ⟨j, hj, rfl⟩ := List.getElem_of_mem hp
      have hf1 := find_at st hok i hi
      have hf2 := find_at st hok j hj
      have hg : st.Spares.getD j default = st.Spares[j] := by rw [List.getD_eq_getElem?_getD, List.getElem?_eq_getElem hj, Option.getD_some]
      rw [hg, hpk, hf1] at hf2
      have hij : i = j := by omega
      subst hij
      rw [← hg, h1] at hps
      exact hps
    · intro h
      refine ⟨st.Spares.getD i default, ?_, rfl, by rw [h1]; exact h⟩
      rw [List.getD_eq_getElem?_getD, List.getElem?_eq_getElem hi, Option.getD_some]; exact List.getElem_mem hi
theorem law_FnStores (a0 a1 : List Int) (h0 : ∀ v ∈ a0, 0 ≤ v ∧ v ≤ 255) (h1 : ∀ v ∈ a1, 0 ≤ v ∧ v ≤ 255) : laws_FnStores a0 a1 = true := by
  obtain ⟨hok, hl⟩ := r8_ok a0 h0
  have ha := r8_bw a0 h0
  have hlen : (spec_R8Store a0).Spares.length = 3 := by rw [(r8_bd a0 h0).1]; rfl
  have hA := r8At_range a1 h1 0 ((spec_R8Store a0).Spares.length : Int) (by omega) (by omega)
  have hW := r8Wide_range a1 h1 220 (by omega)
  have hi : (laws_r8At a1 0 ((spec_R8Store a0).Spares.length : Int)).toNat < (spec_R8Store a0).Spares.length := by omega
  have hM := r8_most a0 h0 _ hi
  have hd : spec_l03Day (laws_r8Wide a1 1 220) = true := by
    unfold spec_l03Day spec_l00In
    simp only [Bool.and_eq_true, decide_eq_true_eq]; omega
  obtain ⟨s, lo, hi', g1, g2, g3, g4, g5, g6, g7, g8, g9, g10, g11⟩ := stores_core _ hok ha hl _ hi hM _ hd
  have hb1 : laws_FnStores_b1 a0 a1 = (fun i s => (.ok (s || ((impl_ShortSpares (spec_R8Store a0) (laws_r8Wide a1 1 220)).1.getD i default == ((spec_R8Store a0).Spares.getD (laws_r8At a1 0 ((spec_R8Store a0).Spares.length : Int)).toNat default).Name)) : Except Bool Bool)) := rfl
  have hb2 : laws_FnStores_b2 a0 a1 = (fun i s => (.ok (s || ((impl_ShortSpares (spec_R8Store a0) (laws_r8Wide a1 1 220)).1.getD i default == ((spec_R8Store a0).Spares.getD (laws_r8At a1 0 ((spec_R8Store a0).Spares.length : Int)).toNat default).Name)) : Except Bool Bool)) := rfl
  have hst : ({ Spares := (spec_R8Store a0).Spares, Entries := (spec_R8Store a0).Entries : Store }) = spec_R8Store a0 := rfl
  unfold laws_FnStores
  rw [hb1, hb2]
  simp only [hst, loop_any]
  generalize spec_R8Store a0 = st at *
  generalize (laws_r8At a1 0 (st.Spares.length : Int)).toNat = i at *
  generalize laws_r8Wide a1 1 220 = d at *
  generalize hpp : st.Spares.getD i default = p at *
  rw [g5, g6, g7]
  cases laws_r8Long a0 a1 with
  | true => rfl
  | false =>
    have w1 : IntKind.wrap .i64 (s + (p.Most - hi')) = s + (p.Most - hi') := by rw [IntKind.wrap_i64]; omega
    have w2 : IntKind.wrap .i64 (0 - lo) = 0 - lo := by rw [IntKind.wrap_i64]; omega
    have w3 : IntKind.wrap .i64 (0 - lo - 1) = 0 - lo - 1 := by rw [IntKind.wrap_i64]; omega
    have w4 : IntKind.wrap .i64 (p.Most - hi' + 1) = p.Most - hi' + 1 := by rw [IntKind.wrap_i64]; omega
    have w5 : IntKind.wrap .i64 (s - lo) = s - lo := by rw [IntKind.wrap_i64]; omega
    have e1 := g8 (0 - lo - 1) (by omega) (by omega) (by omega) (by omega)
    have e2 := g8 (p.Most - hi' + 1) (by omega) (by omega) (by omega) (by omega)
    have c1 : decide (lo < 0) = false := decide_eq_false (by omega)
    have c2 : decide (s < lo) = false := decide_eq_false (by omega)
    have c3 : decide (p.Most - hi' < 0) = false := decide_eq_false (by omega)
    have c4 : decide (p.Most < p.Most - hi') = false := decide_eq_false (by omega)
    have c5 : decide (p.Most < s + (p.Most - hi')) = false := decide_eq_false (by omega)
    have hsh : ((impl_ShortSpares st d).2 == 0 && (decide (p.Name ∈ (impl_ShortSpares st d).1) == decide (s < p.Least))) = true := by
      rw [g10]
      simp only [beq_self_eq_true, Bool.true_and, beq_iff_eq]
      exact decide_eq_decide.2 g11
    simp only [w1, w2, w3, w4, e1, e2, c1, c2, c3, c4, c5, cond_false, bne_self_eq_false, Bool.or_false]
    cases hf : decide (0 < lo) with
    | false => simp only [cond_false]; exact hsh
    | true =>
      have hlo : 0 < lo := of_decide_eq_true hf
      obtain ⟨st', f1, f2, f3⟩ := g9 (0 - lo) (by omega) (by omega) (by omega) (by omega)
      have hst' : ({ Spares := st'.Spares, Entries := st'.Entries : Store }) = st' := rfl
      simp only [cond_true, f1, hst', f2, f3, w5, bne_self_eq_false, Bool.or_false, Bool.not_true]
      have w6 : (s + (0 - lo) != s - lo) = false := by rw [bne_eq_false_iff_eq]; omega
      rw [w6]
      exact hsh
end Go.Ab

namespace Go.Ab
open Go Go.Proofs Go.Deep Go.ChangeShapes Go.WideShapes Go.ChangeAt Go.RowKit
set_option maxRecDepth 100000
theorem rdT72 : Rd Try.prog 72 eEntry := by
  intro H enc W base sp hd fuel cs x h
  obtain ⟨hl, hf⟩ := rd_fields Try.underlying72 h
  have e0 : Try.prog.cellsOf 72 = 3 := by kernel_rfl
  rw [e0] at hl
  obtain ⟨n0, y0, g0⟩ := hf 0 _ rfl
  have c0 : Try.prog.cellsOf 2 = 1 := by kernel_rfl
  obtain ⟨v0, r0, o0⟩ := (rd_int (k := .i64) Try.underlying2) g0
  replace r0 : RepL W (fun _ => False) ([.int .i64 v0]) noMap ((cs.drop 0).take (Try.prog.cellsOf 2)) [] := r0
  replace o0 : ∀ u ∈ (cs.drop 0).take (Try.prog.cellsOf 2), u.oneCell' = true := o0
  rw [c0] at r0 o0
  obtain ⟨n1, y1, g1⟩ := hf 1 _ rfl
  have c1 : Try.prog.cellsOf 9 = 1 := by kernel_rfl
  obtain ⟨v1, r1, o1⟩ := (rd_str Try.underlying9) g1
  replace r1 : RepL W (fun _ => False) ([.str v1]) noMap ((cs.drop 1).take (Try.prog.cellsOf 9)) [] := r1
  replace o1 : ∀ u ∈ (cs.drop 1).take (Try.prog.cellsOf 9), u.oneCell' = true := o1
  rw [c1] at r1 o1
  obtain ⟨n2, y2, g2⟩ := hf 2 _ rfl
  have c2 : Try.prog.cellsOf 2 = 1 := by kernel_rfl
  obtain ⟨v2, r2, o2⟩ := (rd_int (k := .i64) Try.underlying2) g2
  replace r2 : RepL W (fun _ => False) ([.int .i64 v2]) noMap ((cs.drop 2).take (Try.prog.cellsOf 2)) [] := r2
  replace o2 : ∀ u ∈ (cs.drop 2).take (Try.prog.cellsOf 2), u.oneCell' = true := o2
  rw [c2] at r2 o2
  refine ⟨⟨v0, v1, v2⟩, ?_, ?_⟩
  · exact split_rep (o := 0) (k := 1) r0 (split_rep (o := 1) (k := 1) r1 (split_rep (o := 2) (k := 1) r2 (end_rep (o := 3) (by omega))))
  · exact split_one (o := 0) (k := 1) o0 (split_one (o := 1) (k := 1) o1 (split_one (o := 2) (k := 1) o2 (end_one (o := 3) (by omega))))
theorem rdT23 : Rd Try.prog 23 (fun l : List Entry => [encL 3 eEntry l]) := rd_slice Try.underlying23 (by kernel_rfl) (by decide) rdT72
theorem rdT67 : Rd Try.prog 67 eSpare := by
  intro H enc W base sp hd fuel cs x h
  obtain ⟨hl, hf⟩ := rd_fields Try.underlying67 h
  have e0 : Try.prog.cellsOf 67 = 3 := by kernel_rfl
  rw [e0] at hl
  obtain ⟨n0, y0, g0⟩ := hf 0 _ rfl
  have c0 : Try.prog.cellsOf 9 = 1 := by kernel_rfl
  obtain ⟨v0, r0, o0⟩ := (rd_str Try.underlying9) g0
  replace r0 : RepL W (fun _ => False) ([.str v0]) noMap ((cs.drop 0).take (Try.prog.cellsOf 9)) [] := r0
  replace o0 : ∀ u ∈ (cs.drop 0).take (Try.prog.cellsOf 9), u.oneCell' = true := o0
  rw [c0] at r0 o0
  obtain ⟨n1, y1, g1⟩ := hf 1 _ rfl
  have c1 : Try.prog.cellsOf 2 = 1 := by kernel_rfl
  obtain ⟨v1, r1, o1⟩ := (rd_int (k := .i64) Try.underlying2) g1
  replace r1 : RepL W (fun _ => False) ([.int .i64 v1]) noMap ((cs.drop 1).take (Try.prog.cellsOf 2)) [] := r1
  replace o1 : ∀ u ∈ (cs.drop 1).take (Try.prog.cellsOf 2), u.oneCell' = true := o1
  rw [c1] at r1 o1
  obtain ⟨n2, y2, g2⟩ := hf 2 _ rfl
  have c2 : Try.prog.cellsOf 2 = 1 := by kernel_rfl
  obtain ⟨v2, r2, o2⟩ := (rd_int (k := .i64) Try.underlying2) g2
  replace r2 : RepL W (fun _ => False) ([.int .i64 v2]) noMap ((cs.drop 2).take (Try.prog.cellsOf 2)) [] := r2
  replace o2 : ∀ u ∈ (cs.drop 2).take (Try.prog.cellsOf 2), u.oneCell' = true := o2
  rw [c2] at r2 o2
  refine ⟨⟨v0, v1, v2⟩, ?_, ?_⟩
  · exact split_rep (o := 0) (k := 1) r0 (split_rep (o := 1) (k := 1) r1 (split_rep (o := 2) (k := 1) r2 (end_rep (o := 3) (by omega))))
  · exact split_one (o := 0) (k := 1) o0 (split_one (o := 1) (k := 1) o1 (split_one (o := 2) (k := 1) o2 (end_one (o := 3) (by omega))))
theorem rdT22 : Rd Try.prog 22 (fun l : List Spare => [encL 3 eSpare l]) := rd_slice Try.underlying22 (by kernel_rfl) (by decide) rdT67
theorem rdT25 : Rd Try.prog 25 eStore := by
  intro H enc W base sp hd fuel cs x h
  obtain ⟨hl, hf⟩ := rd_fields Try.underlying25 h
  have e0 : Try.prog.cellsOf 25 = 2 := by kernel_rfl
  rw [e0] at hl
  obtain ⟨n0, y0, g0⟩ := hf 0 _ rfl
  have c0 : Try.prog.cellsOf 22 = 1 := by kernel_rfl
  obtain ⟨v0, r0, o0⟩ := rdT22 g0
  replace r0 : RepL W (fun _ => False) ([encL 3 eSpare v0]) noMap ((cs.drop 0).take (Try.prog.cellsOf 22)) [] := r0
  replace o0 : ∀ u ∈ (cs.drop 0).take (Try.prog.cellsOf 22), u.oneCell' = true := o0
  rw [c0] at r0 o0
  obtain ⟨n1, y1, g1⟩ := hf 1 _ rfl
  have c1 : Try.prog.cellsOf 23 = 1 := by kernel_rfl
  obtain ⟨v1, r1, o1⟩ := rdT23 g1
  replace r1 : RepL W (fun _ => False) ([encL 3 eEntry v1]) noMap ((cs.drop 1).take (Try.prog.cellsOf 23)) [] := r1
  replace o1 : ∀ u ∈ (cs.drop 1).take (Try.prog.cellsOf 23), u.oneCell' = true := o1
  rw [c1] at r1 o1
  refine ⟨⟨v0, v1⟩, ?_, ?_⟩
  · exact split_rep (o := 0) (k := 1) r0 (split_rep (o := 1) (k := 1) r1 (end_rep (o := 2) (by omega)))
  · exact split_one (o := 0) (k := 1) o0 (split_one (o := 1) (k := 1) o1 (end_one (o := 2) (by omega)))
theorem rdT100 : Rd Try.prog 100 eItem := by
  intro H enc W base sp hd fuel cs x h
  obtain ⟨hl, hf⟩ := rd_fields Try.underlying100 h
  have e0 : Try.prog.cellsOf 100 = 2 := by kernel_rfl
  rw [e0] at hl
  obtain ⟨n0, y0, g0⟩ := hf 0 _ rfl
  have c0 : Try.prog.cellsOf 9 = 1 := by kernel_rfl
  obtain ⟨v0, r0, o0⟩ := (rd_str Try.underlying9) g0
  replace r0 : RepL W (fun _ => False) ([.str v0]) noMap ((cs.drop 0).take (Try.prog.cellsOf 9)) [] := r0
  replace o0 : ∀ u ∈ (cs.drop 0).take (Try.prog.cellsOf 9), u.oneCell' = true := o0
  rw [c0] at r0 o0
  obtain ⟨n1, y1, g1⟩ := hf 1 _ rfl
  have c1 : Try.prog.cellsOf 9 = 1 := by kernel_rfl
  obtain ⟨v1, r1, o1⟩ := (rd_str Try.underlying9) g1
  replace r1 : RepL W (fun _ => False) ([.str v1]) noMap ((cs.drop 1).take (Try.prog.cellsOf 9)) [] := r1
  replace o1 : ∀ u ∈ (cs.drop 1).take (Try.prog.cellsOf 9), u.oneCell' = true := o1
  rw [c1] at r1 o1
  refine ⟨⟨v0, v1⟩, ?_, ?_⟩
  · exact split_rep (o := 0) (k := 1) r0 (split_rep (o := 1) (k := 1) r1 (end_rep (o := 2) (by omega)))
  · exact split_one (o := 0) (k := 1) o0 (split_one (o := 1) (k := 1) o1 (end_one (o := 2) (by omega)))
theorem rdT35 : Rd Try.prog 35 (fun l : List Item => [encL 2 eItem l]) := rd_slice Try.underlying35 (by kernel_rfl) (by decide) rdT100
theorem rdT58 : Rd Try.prog 58 (fun l : List Int => [encL 1 eIu8 l]) := rd_slice Try.underlying58 (by kernel_rfl) (by decide) (rd_int (k := .u8) Try.underlying5)
end Go.Ab
