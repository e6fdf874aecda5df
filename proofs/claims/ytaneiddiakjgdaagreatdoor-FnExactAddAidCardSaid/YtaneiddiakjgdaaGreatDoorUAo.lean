/- A part of a proof: walks of functions and lemmas of our own. No conditions. -/
import Derived.Test.YtaneiddiakjgdaaGreatDoorUAn
set_option linter.unusedSectionVars false
set_option linter.unusedVariables false
set_option linter.unusedSimpArgs false
namespace Go.Ab
open Go
variable [Inv]
def oneAL : AV → Bool
 | .lit _ (.sl _ _ _ _) => true
 | x => oneA x
def allOneL : List AV → Bool
 | [] => true
 | x :: xs => oneAL x && allOneL xs
section
variable {P : Program} {Γ : Env} {D : Dn} {c : Ctx} {s : St} {a : Act} {w : World} {all : Array Oper} {o : Oper} {Q : Exit → Act → World → Prop} {N : St → Prop} {E : Nat → St → Prop} {R : St → Prop}
theorem Rep.oneL {M : Nat → Prop} {μ : Map} {x : AV} {v : Value} {fp : List Nat} (h : oneAL x = true) (hx : Rep w M x μ v fp) : v.oneCell' = true := by
 cases x with
 | lit u y =>
  cases y with
  | sl o e n f =>
   simp only [Rep] at hx
   obtain ⟨_, _, hy⟩ := hx
   rcases hy with ⟨_, h3, _⟩ | ⟨b, o, cap, us, fps, rfl, _⟩
   ·rcases h3.bor with rfl | ⟨_, _, rfl⟩ <;> rfl
   ·rfl
  | _ => simp [oneAL, oneA] at h
 | _ => exact Rep.one (by simpa only [oneAL] using h) hx
theorem RepL.oneL {M : Nat → Prop} {μ : Map} : ∀ {xs : List AV} {us : List Value} {fp : List Nat}, allOneL xs = true → RepL w M xs μ us fp → ∀ u ∈ us, u.oneCell' = true
 | [], us, fp, _, h => by simp only [RepL] at h; simp [h.1]
 | x :: xs, us, fp, ho, h => by
  simp only [RepL] at h
  obtain ⟨u, us', f1, f2, rfl, rfl, h1, h2⟩ := h
  simp only [allOneL, Bool.and_eq_true] at ho
  intro y hy
  rcases List.mem_cons.1 hy with rfl | hy
  ·exact h1.oneL ho.1
  ·exact RepL.oneL ho.2 h2 y hy
theorem box_op {T : TypeId} {i : Nat} {cs : List AV} (hs : WRs c s a w) (hg : o.guard = none) (ho : o.op = .box T (.tmp i)) (hx : get s.t i = .agg cs) (hone : allOneL cs = true)
  (hd : ∀ d, o.dst = some d → d < c.nt) {K : Act → World → Prop} (hK : ∀ a' w', WRs c ⟨put s.t o.dst (.ptr s.h.length 0), s.h ++ [.box cs]⟩ a' w' → K a' w') :
  if Region.wanted o (yielded all a.tmps) then o.wp P a w K Q else K (a.put o.dst undef) w := by
 obtain ⟨μ, FP, hW, hdd, hT⟩ := hs
 have hw : Region.wanted o (yielded all a.tmps) = true := by unfold Region.wanted; rw [hg]
 rw [if_pos hw]
 have hv := hT.1 i
 rw [hx] at hv
 simp only [Rep] at hv
 obtain ⟨us, hu, hr⟩ := hv
 have hN := box_entry hW hdd hr (RepL.oneL hone hr) T
 have hrun : (execOp a.eval o).run P w = .ok (.value (.pointer (some ⟨w.heap.size, 0, none⟩))) (w.alloc (.cells us.toArray T)) := by
  have he : a.eval (.tmp i) = .agg us.toArray := hu
  have h1 : (Instr.box T (.agg us.toArray)).run P w = .ok (.pointer (some ⟨w.heap.size, 0, none⟩)) (w.alloc (.cells us.toArray T)) := by simp [Instr.box, newVar, newRow, Value.cells]
  simp only [execOp, ho, he]
  rw [Sem.run_bind, h1]
  rfl
 unfold Oper.wp
 rw [hrun]
 obtain ⟨FP', hW'⟩ := hN.wr
 refine hK _ _ ⟨_, FP', hW', hN.tail, TR.put hT hN.tr hd ?_⟩
 simp only [Rep]
 exact ⟨trivial, w.heap.size, 0, by simp [updM], rfl⟩
theorem AWP.boxL {nt : Nat} (hΓ : TyOk P Γ) (hDD : DOk P D) (hn : c.nt = nt) {id : Nat} {ops : Array Oper} {os : List Oper} {T : TypeId} {i : Nat} {cs : List AV}
  (hl : ops.toList = o :: os) (hd : dstOk nt ops.toList = true) (hg : o.guard = none) (ho : o.op = .box T (.tmp i)) (hx : get s.t i = .agg cs) (hone : allOneL cs = true)
  (h : ∀ K : St → Prop, (∀ s, N s → K s) → after1 (runA Γ D ops os (put s.t o.dst (.ptr s.h.length 0)) (s.h ++ [.box cs])) K) : AWP P c (.region id ops false) N E R s := by
 refine ⟨fun a w hs => ?_⟩
 have h := h _ fun _ h => h
 unfold after1 at h
 split at h
 ·rename_i t' h' ob' hrun
  rw [hl] at hd
  subst hn
  have hd' := dstOk_cons hd
  refine wp_region_list ?_
  rw [hl]
  refine wpList_step fun K hK => ?_
  exact box_op hs hg ho hx hone hd'.1 (fun a' w' hs' => hK a' w' (list_step hΓ hDD (s := ⟨put s.t o.dst (.ptr s.h.length 0), _⟩) hs' hrun h.1 hd'.2 fun a w hs' => ⟨_, h.2, hs'⟩))
 ·exact h.elim
end
theorem rB {P Q : Prop} (k : Q) (h : Q → P := by intro k; (repeat first | refine AWP.seq ?_ | refine AWP.block ?_ | refine AWP.skip ?_); refine AWP.boxL G_ok DD hc rfl (by kernel_rfl) rfl rfl rfl rfl (fun K hK => ?_); simp only [List.append, List.length_nil, ea, absV, absVL, cput, gv, sv, dn, reduceCtorEq, reduceIte, Nat.reduceBEq, Nat.reduceAdd, Nat.reduceEqDiff, Nat.reduceLT, Nat.reduceLeDiff, Nat.reduceMul, Nat.reduceSub, BEq.rfl, beq_self_eq_true, Int.reduceToNat]; first | exact hK _ k | (refine ⟨?_, hK _ k⟩; clear k hK K; exact ot)) : P := h k
end Go.Ab
