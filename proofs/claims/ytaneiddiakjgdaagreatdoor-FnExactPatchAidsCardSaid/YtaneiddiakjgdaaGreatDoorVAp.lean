/- A part of a proof: walks of functions and lemmas of our own. No conditions. -/
import Derived.Test.YtaneiddiakjgdaaGreatDoorVAl
import Derived.Test.YtaneiddiakjgdaaGreatDoorVAi
import Derived.Test.YtaneiddiakjgdaaGreatDoorVAm
import Derived.Handy
import Derived.Test.YtaneiddiakjgdaaGreatDoorVAj
import Derived.Test.YtaneiddiakjgdaaGreatDoorRows
set_option linter.unusedSectionVars false
set_option linter.unusedVariables false
set_option linter.unusedSimpArgs false
set_option maxHeartbeats 1000000
namespace Go.Ab
open Go Go.Proofs
def foldE {ρ σ α : Type} (f : α → σ → Except ρ σ) : List α → σ → Except ρ σ
  | [], s => .ok s
  | x :: l, s => match f x s with
    | .error e => .error e
    | .ok t => foldE f l t
theorem loopR_foldE' {ρ σ α : Type} [Inhabited α] (l : List α) (b : Nat → σ → Except ρ σ) (f : α → σ → Except ρ σ) (hb : ∀ i s, i < l.length → b i s = f (l.getD i default) s) :
  ∀ (r p : List α) (s : σ), l = p ++ r → loopR b r.length p.length s = foldE f r s
 | [], p, s, _ => rfl
 | x :: r, p, s, e => by
  have hi : p.length < l.length := by subst e; simp
  have hg : l.getD p.length default = x := by subst e; simp
  simp only [List.length_cons, loopR, foldE]
  rw [hb _ _ hi, hg]
  cases f x s with
  | error e => rfl
  | ok t =>
   have := loopR_foldE' l b f hb r (p ++ [x]) t (by simp [e])
   simpa using this
theorem loopR_foldE {ρ σ α : Type} [Inhabited α] (l : List α) (b : Nat → σ → Except ρ σ) (f : α → σ → Except ρ σ) (s : σ) (hb : ∀ i s, i < l.length → b i s = f (l.getD i default) s) :
  loopR b (l.length - 0) 0 s = foldE f l s := loopR_foldE' l b f hb l [] s rfl
theorem foldE_filter {ρ σ α : Type} (f : α → σ → Except ρ σ) (p : α → Bool) : ∀ (l : List α) (s : σ), foldE f (l.filter p) s = foldE (fun x s => bif p x then f x s else .ok s) l s
 | [], s => rfl
 | x :: l, s => by
  cases h : p x with
  | true =>
   rw [List.filter_cons_of_pos h]
   simp only [foldE, h, cond_true]
   cases f x s with
   | error e => rfl
   | ok t => exact foldE_filter f p l t
  | false =>
   rw [List.filter_cons_of_neg (by simp [h])]
   simp only [foldE, h, cond_false]
   exact foldE_filter f p l s
theorem foldE_same {ρ σ α : Type} (I : σ → Prop) (f g : α → σ → Except ρ σ) : ∀ (l : List α) (s : σ), I s → (∀ x, x ∈ l → ∀ s, I s → f x s = g x s ∧ ∀ t, g x s = .ok t → I t) → foldE f l s = foldE g l s ∧ ∀ t, foldE g l s = .ok t → I t
 | [], s, h, _ => ⟨rfl, fun t ht => by simp only [foldE, Except.ok.injEq] at ht; subst ht; exact h⟩
 | x :: l, s, h, hs => by
  obtain ⟨h1, h2⟩ := hs x (by simp) s h
  simp only [foldE]
  rw [h1]
  cases hg : g x s with
  | error e => exact ⟨rfl, fun t ht => by simp at ht⟩
  | ok t => exact foldE_same I f g l t (h2 t hg) (fun y hy => hs y (by simp [hy]))
theorem loopR_filter {ρ α β : Type} [Inhabited α] (l : List α) (b : Nat → List β → Except ρ (List β)) (p : α → Bool) (g : α → β) (hb : ∀ i s, i < l.length → b i s = bif p (l.getD i default) then .ok (s ++ [g (l.getD i default)]) else .ok s) :
  loopR b (l.length - 0) 0 ([] : List β) = .ok ((l.filter p).map g) := by
 rw [loopR_foldE l b (fun x s => bif p x then .ok (s ++ [g x]) else .ok s) [] hb]
 have : ∀ (r : List α) (s : List β), foldE (ρ := ρ) (fun x s => bif p x then .ok (s ++ [g x]) else .ok s) r s = .ok (s ++ (r.filter p).map g) := by
  intro r
  induction r with
  | nil => intro s; simp [foldE]
  | cons x r ih =>
   intro s
   cases h : p x with
   | true => simp only [foldE, h, cond_true]; rw [ih]; simp [h]
   | false => simp only [foldE, h, cond_false]; rw [ih]; simp [h]
 simpa using this l []
theorem loopR_map {ρ α β : Type} [Inhabited α] (l : List α) (b : Nat → List β → Except ρ (List β)) (g : α → β) (hb : ∀ i s, i < l.length → b i s = .ok (s ++ [g (l.getD i default)])) :
  loopR b (l.length - 0) 0 ([] : List β) = .ok (l.map g) := by
 have := loopR_filter (ρ := ρ) l b (fun _ => true) g (fun i s hi => by rw [hb i s hi]; rfl)
 rw [this, List.filter_eq_self.2 (fun _ _ => rfl)]
theorem loopR_sameP {ρ : Type} {b b' : Nat → Unit → Except ρ Unit} (ok : Nat → Prop) (hok : ∀ j, b' j () = .ok () → ok j) : ∀ (k i : Nat), (∀ q, q < i → ok q) → (∀ j, i ≤ j → j < i + k → (∀ q, q < j → ok q) → b j () = b' j ()) → loopR b k i () = loopR b' k i ()
 | 0, i, _, _ => rfl
 | k + 1, i, h0, hs => by
  have h := hs i (Nat.le_refl _) (by omega) h0
  simp only [loopR]
  rw [h]
  cases hb : b' i () with
  | error e => rfl
  | ok t =>
   refine loopR_sameP ok hok k (i + 1) (fun q hq => ?_) (fun j h1 h2 h3 => hs j (by omega) (by omega) h3)
   by_cases hqi : q < i
   ·exact h0 q hqi
   ·have : q = i := by omega
    subst this; exact hok q hb
theorem pw_adj {α : Type} [Inhabited α] (R : α → α → Prop) (ht : ∀ a b c, R a b → R b c → R a c) (l : List α) : l.Pairwise R ↔ ∀ j, j + 1 < l.length → R (l.getD j default) (l.getD (j + 1) default) := by
 rw [List.pairwise_iff_getElem]
 constructor
 ·intro h j hj
  have := h j (j + 1) (by omega) hj (by omega)
  rw [List.getD_eq_getElem?_getD, List.getD_eq_getElem?_getD, List.getElem?_eq_getElem hj, List.getElem?_eq_getElem (show j < l.length by omega)]
  exact this
 ·intro h i j hi hj hij
  have h' : ∀ j (hj : j + 1 < l.length), R (l[j]'(by omega)) (l[j + 1]'hj) := by
   intro j hj
   have := h j hj
   rw [List.getD_eq_getElem?_getD, List.getD_eq_getElem?_getD, List.getElem?_eq_getElem hj, List.getElem?_eq_getElem (show j < l.length by omega)] at this
   exact this
  obtain ⟨d, rfl⟩ : ∃ d, j = i + 1 + d := ⟨j - (i + 1), by omega⟩
  clear hij
  induction d with
  | zero => exact h' i hj
  | succ d ih => exact ht _ _ _ (ih (by omega) h') (h' (i + 1 + d) hj)
theorem loopR_allF {b : Nat → Unit → Except Bool Unit} (p : Nat → Bool) (n : Nat) (r : Bool) (hb : ∀ j u, j < n → b j u = bif p j then .error false else .ok ()) :
  (match loopR b (n - 0) 0 () with | .error e => e | .ok _ => r) = true ↔ (∀ j, j < n → p j = false) ∧ r = true := by
 rw [loopR_any p false (fun j u _ hj => hb j u (by omega))]
 simp only [Nat.sub_zero, Nat.zero_add]
 cases h : (List.range n).any fun j => p j with
 | true =>
  simp only [cond_true]
  constructor
  ·intro h; cases h
  ·rintro ⟨h1, _⟩
   obtain ⟨j, hj, hp⟩ := List.any_eq_true.1 h
   rw [h1 j (by simpa using hj)] at hp
   cases hp
 | false =>
  simp only [cond_false]
  constructor
  ·intro hr
   refine ⟨fun j hj => ?_, hr⟩
   cases hp : p j with
   | false => rfl
   | true => exact absurd (List.any_eq_true.2 ⟨j, List.mem_range.2 hj, hp⟩) (by rw [h]; simp)
  ·exact fun h => h.2
theorem foldOk_same {ρ ρ' σ : Type} (b : Nat → σ → Except ρ σ) (b' : Nat → σ → Except ρ' σ) : ∀ (k i : Nat) (s t t' : σ), (∀ j u (v : Unit), ∃ w, b j u = .ok w ∧ b' j u = .ok w) → loopR b k i s = .ok t → loopR b' k i s = .ok t' → t = t'
 | 0, i, s, t, t', _, h1, h2 => by
  simp only [loopR, Except.ok.injEq] at h1 h2
  exact h1.symm.trans h2
 | k + 1, i, s, t, t', h, h1, h2 => by
  obtain ⟨w, e1, e2⟩ := h i s ()
  simp only [loopR, e1, e2] at h1 h2
  exact foldOk_same b b' k (i + 1) w t t' h h1 h2
end Go.Ab

namespace Go.Ab
open Go Go.Proofs Go.RowKit Go.Lib Go.Shelf
set_option maxHeartbeats 4000000 in
set_option maxRecDepth 100000 in
theorem zjf_raw : DelRaw Tryz.prog 218 63 16 := by
 intro w b cap n i j cur A C B hij hjn hA hC hB oB hb hcs hnc hcm hold
 obtain ⟨i0, z, ET⟩ := ElT.mk' (tS := 39) (tE := 63) G_ok rfl rfl rfl (by decide)
 obtain ⟨u0, inf0, zero0, size0, byt0, zs0, pos0, zone0⟩ := ET
 have mixed : Tryz.prog.follows .mixedOrders = true := by kernel_rfl
 have hz2 : ¬ ((i : Int) = (j : Int)) := by omega
 have hcSX : cap ≤ 9223372036854775807 := hcm
 have hic : i ≤ cap := by omega
 have hjc : j ≤ cap := by omega
 have hin : i ≤ n := by omega
 have hnn : i + (n - j) = n - (j - i) := by omega
 have hgA : ∀ (k : Nat) (u : Value), A[k]? = some u → cur[k]? = some u := by
  intro k u hu
  have hj : k < A.length := (List.getElem?_eq_some_iff.1 hu).1
  rw [hold k (by omega), List.append_assoc, List.getElem?_append_left hj, hu]
 have hgB : ∀ (k : Nat) (u : Value), B[k]? = some u → cur[j * 16 + k]? = some u := by
  intro k u hu
  have hj : k < B.length := (List.getElem?_eq_some_iff.1 hu).1
  rw [hold _ (by omega), List.getElem?_append_right (by simp only [List.length_append]; omega), show j * 16 + k - (A ++ C).length = k by simp only [List.length_append]; omega, hu]
 obtain ⟨src, hsrc⟩ : ∃ src : Addr, (if cap = j then (⟨b, 0, none⟩ : Addr) else ⟨b, j * 16, none⟩) = src := ⟨_, rfl⟩
 have hsc : ∀ (k : Nat) (u : Value), B[k]? = some u → w.drew.cell? (src.add k) = some u := by
  intro k u hu
  have hj : k < B.length := (List.getElem?_eq_some_iff.1 hu).1
  rw [← hsrc, if_neg (by omega), Addr.add_lit, cell_of_row w.drew b _ cur 63 (0, 0) hb]
  exact hgB k u hu
 obtain ⟨cur1, hcur1⟩ : ∃ cur1, cur1 = (putV (i * 16) B cur.toList).toArray := ⟨_, rfl⟩
 have hl1 : cur1.size = cap * 16 := by rw [hcur1]; simp [putV_length, hcs]
 have hap : ∀ ty, (Builtin.append_ #[39, 39] ty #[.slice (some ⟨b, 0, none⟩) i cap, .slice (some src) (n - j) (cap - j)]).run Tryz.prog w.drew = .ok (.slice (some ⟨b, 0, none⟩) (n - (j - i)) cap) (w.drew.setRow b cur1) := fun ty => by
  have h := run_append_room (P := Tryz.prog) w.drew 39 ty 63 i0 u0 inf0 b i cap cur hb src (n - j) (cap - j) B (by rw [size0]; exact hB) hsc oB (by omega) (by rw [size0]; omega)
  rw [size0, seg_putV (i * 16) B cur.toList (by simp; omega), ← hcur1, hnn] at h
  exact h
 have hr1 : (w.drew.setRow b cur1).heap[b]? = some (.cells cur1 63 (0, 0)) := setRow_heap w.drew b cur cur1 63 (0, 0) hb
 obtain ⟨cur2, hcur2⟩ : ∃ cur2, cur2 = (putV ((n - (j - i)) * 16) ((List.range (j - i)).flatMap fun _ => z.cells.toList) cur1.toList).toArray := ⟨_, rfl⟩
 have hcl : ∀ ty c, (Builtin.clear_ #[39] ty #[.slice (some ⟨b, (n - (j - i)) * 16, none⟩) (n - (n - (j - i))) c]).run Tryz.prog (w.drew.setRow b cur1) = .ok (.tuple #[]) ((w.drew.setRow b cur1).setRow b cur2) := fun ty c => by
  rw [show n - (n - (j - i)) = j - i by omega, hcur2]
  exact run_clearE _ 39 ty 63 i0 z u0 inf0 zero0 (by rw [size0]; exact zs0) zone0 b _ (j - i) c 63 cur1 hr1 (by rw [size0, hl1]; omega) (by omega)
 have hvl := flat_len (vs := fun _ => z.cells.toList) (e := 16) (j - i) (fun _ _ => by simpa using zs0)
 have fin : AppOut w ((w.drew.setRow b cur1).setRow b cur2) 63 16 (n - (j - i)) 0 (some b) (A ++ B) [] b cap cur2 := by
  refine ⟨rfl, rfl, rfl, by simp, ?_, setRow_heap _ b cur1 _ 63 (0, 0) hr1, by rw [hcur2]; simp [putV_length, hl1], by omega, hcm, ?_, fun j hj => by omega, .inl rfl⟩
  ·intro k hk hkb
   rw [setRow_other _ b k _ hkb, setRow_other w.drew b k _ hkb]; rfl
  ·intro k hk
   rw [hcur2]
   simp only [List.getElem?_toArray, putV_get]
   rw [if_neg (by omega), hcur1]
   simp only [putV_get]
   by_cases h1 : k < i * 16
   ·rw [if_neg (by omega), List.getElem?_append_left (by omega)]
    have : A[k]? = some A[k] := List.getElem?_eq_getElem (by omega)
    rw [this]; simpa using hgA k _ this
   ·rw [if_pos (by simp only [Array.length_toList]; omega), List.getElem?_append_right (by omega), hA]
 have hile : i ≤ j := by omega
 have hne1 : ¬ (cap = n - (j - i)) := by omega
 have hle1 : n - (j - i) ≤ n := by omega
 by_cases hcj : cap = j
 all_goals
  first | rw [if_pos hcj] at hsrc | rw [if_neg hcj] at hsrc
  subst hsrc
  try subst hcj
  clear hold hgA hgB hcs hb hA hC hB oB zero0 byt0 zs0 zone0 size0 hr1 hcur1 hcur2 hl1 hvl hsc hnn
  go_enter Tryz.func218, Tryz.ntmps218
  go_wp2
  go_region_law_o (refine step_appendE rfl _ _ 39 39 rfl _ _ (by simp [Act.eval, Act.put] <;> omega) (by simp [Act.eval, Act.put] <;> omega) (hap _) ?_)
  go_wp2
  go_ret
  first | exact ⟨_, rfl, fin⟩ | exact ⟨rfl, _, fin⟩
def zjf (a0 : (List Aid)) (a1 : Int) (a2 : Int) : List Aid := a0.take a1.toNat ++ a0.drop a2.toNat
theorem zjf_den (a0 : (List Aid)) (a1 : Int) (a2 : Int) (hp0 : 0 ≤ a1) (hp1 : a1 < a2) (hp2 : a2 ≤ a0.length) : DenM Tryz.prog 218 [ownL 63 16 eAidO a0, .int .i64 a1, .int .i64 a2] (ownL 63 16 eAidO (zjf a0 a1 a2)) [.any, .any, .any] :=
 del_den ⟨_, Tryz.func218, rfl, rfl⟩ zjf_raw (fun v => by simp [eAidO, ownL, NoBorL, NoBor, eIi64, eSector]) a0 a1 a2 hp0 hp1 hp2
def D_zjf : List AV → Option (AV × List AV × List Prop)
 | [x0, x1, x2] => some (ownL 63 16 eAidO (zjf (rdL dAid x0) (rdI x1) (rdI x2)), [.any, .any, .any], [wO 63 16 eAidO dAid x0, wI .i64 x1, wI .i64 x2, 0 ≤ (rdI x1), (rdI x1) < (rdI x2), (rdI x2) ≤ (rdL dAid x0).length])
 | _ => none
theorem D_zjf_ok : OkM Tryz.prog 218 D_zjf := by
 intro xs r outs ob h ho
 unfold D_zjf at h
 split at h
 ·simp only [Option.some.injEq, Prod.mk.injEq] at h
  obtain ⟨rfl, rfl, rfl⟩ := h
  obtain ⟨h0, h1, h2, hp0, hp1, hp2, _⟩ := ho
  exact DenM.sim (zjf_den _ _ _ hp0 hp1 hp2) (simOL_cons (wO_sim h0) <| simOL_cons (wI_sim h1).1 <| simOL_cons (wI_sim h2).1 <| trivial)
 ·cases h
end Go.Ab

namespace Go.Ab
open Go Go.Proofs
def markR {T : Type} (step : T → Int → Int × T) : List T → Int → Int × List T
 | [], k => (k, [])
 | x :: xs, k => ((markR step xs (step x k).1).1, (step x k).2 :: (markR step xs (step x k).1).2)
theorem markR_len {T : Type} (step : T → Int → Int × T) : ∀ (l : List T) (k : Int), (markR step l k).2.length = l.length
 | [], _ => rfl
 | x :: xs, k => by simp only [markR, List.length_cons, markR_len step xs]
theorem markR_loop {ρ T : Type} [Inhabited T] (step : T → Int → Int × T) (b : Nat → Int × List T → Except ρ (Int × List T))
  (hb : ∀ i s, b i s = .ok ((step (s.2.getD i default) s.1).1, s.2.set i (step (s.2.getD i default) s.1).2)) : ∀ (r p : List T) (k : Int), loopR b r.length p.length (k, p ++ r) = .ok ((markR step r k).1, p ++ (markR step r k).2)
 | [], p, k => by simp only [List.length_nil, loopR, markR]
 | x :: r, p, k => by
  have hg : (p ++ x :: r).getD p.length default = x := by simp
  have hs : (p ++ x :: r).set p.length (step x k).2 = (p ++ [(step x k).2]) ++ r := by
   rw [List.set_append_right _ _ (Nat.le_refl _)]; simp
  simp only [List.length_cons, loopR, hb, hg, hs]
  have := markR_loop step b hb r (p ++ [(step x k).2]) (step x k).1
  rw [List.length_append, List.length_singleton] at this
  rw [this]
  simp only [markR, List.append_assoc, List.singleton_append]
theorem markR_le {T : Type} (step : T → Int → Int × T) (P : T → Prop) (W B : Int) (hW : 0 ≤ W) (hs : ∀ x k, P x → 0 ≤ k → k ≤ B → k ≤ (step x k).1 ∧ (step x k).1 ≤ k + W) :
  ∀ (l : List T) (k : Int), (∀ x ∈ l, P x) → 0 ≤ k → k + W * l.length ≤ B → k ≤ (markR step l k).1 ∧ (markR step l k).1 ≤ k + W * l.length
 | [], k, _, _, _ => by simp [markR]
 | x :: xs, k, hp, h0, hB => by
  have e : W * ((x :: xs).length : Int) = W * (xs.length : Int) + W := by simp only [List.length_cons]; push_cast; rw [Int.mul_add, Int.mul_one]
  rw [e] at hB ⊢
  have hn : 0 ≤ W * (xs.length : Int) := Int.mul_nonneg hW (by omega)
  have h1 := hs x k (hp x (by simp)) h0 (by omega)
  have h2 := markR_le step P W B hW hs xs (step x k).1 (fun y hy => hp y (by simp [hy])) (by omega) (by omega)
  simp only [markR]
  omega
theorem markR_held {ρ T : Type} [Inhabited T] (step : T → Int → Int × T) (h : Nat → Int → Except ρ Int) (P : T → Prop) (W B : Int) (hW : 0 ≤ W)
  (hs : ∀ x k, P x → 0 ≤ k → k ≤ B → k ≤ (step x k).1 ∧ (step x k).1 ≤ k + W) :
  ∀ (r : List T) (i : Nat) (k : Int), (∀ x ∈ r, P x) → 0 ≤ k → k + W * r.length ≤ B →
  (∀ (j : Nat) (x : T) (s : Int), P x → 0 ≤ s → s ≤ B → (markR step r k).2[j]? = some (step x s).2 → h (i + j) s = .ok (step x s).1) →
  loopR h r.length i k = .ok (markR step r k).1
 | [], i, k, _, _, _, _ => by simp only [List.length_nil, loopR, markR]
 | x :: r, i, k, hp, h0, hB, hh => by
  have e : W * ((x :: r).length : Int) = W * (r.length : Int) + W := by simp only [List.length_cons]; push_cast; rw [Int.mul_add, Int.mul_one]
  rw [e] at hB
  have hn : 0 ≤ W * (r.length : Int) := Int.mul_nonneg hW (by omega)
  have h1 := hs x k (hp x (by simp)) h0 (by omega)
  have h2 := hh 0 x k (hp x (by simp)) h0 (by omega) (by simp [markR])
  simp only [List.length_cons, loopR]
  rw [Nat.add_zero] at h2
  rw [h2]
  simp only [markR]
  refine markR_held step h P W B hW hs r (i + 1) (step x k).1 (fun y hy => hp y (by simp [hy])) (by omega) (by omega) fun j y s hy g0 g1 g2 => ?_
  have := hh (j + 1) y s hy g0 g1 (by simpa [markR] using g2)
  rwa [show i + (j + 1) = i + 1 + j by omega] at this
end Go.Ab

namespace Go.Ab
open Go Go.Proofs
theorem wrap_le (x : Int) : IntKind.wrap .i64 x ≤ 9223372036854775807 := by rw [IntKind.wrap_i64]; omega
theorem set_same {α : Type} [Inhabited α] {l : List α} {i : Nat} {x : α} (h : i < l.length) : (l.set i x).getD i default = x := by
 rw [lgetD_set, if_pos ⟨rfl, h⟩]
theorem set_other {α : Type} [Inhabited α] {l : List α} {i j : Nat} {x : α} (h : ¬ j = i) : (l.set i x).getD j default = l.getD j default := by
 rw [lgetD_set, if_neg (fun hh => h hh.1)]
theorem beqF {i j : Nat} (h : ¬ j = i) : (j == i) = false ∧ Nat.beq j i = false := by
 have : (j == i) = false := by simp [h]
 refine ⟨this, ?_⟩
 cases hb : Nat.beq j i with
 | true => exact absurd (Nat.eq_of_beq_eq_true hb) h
 | false => rfl
theorem mrg {p : Prop} (h : p := by (and_intros <;> first | trivial | assumption | omega | exact wrap_le _ | (simp only [List.length_set]; omega) | exact hW1.1 | exact hW1.2 | (simp only [IntKind.wrap_i64]; omega)); first | done | fail) : p := h
end Go.Ab

namespace Go.Ab
open Go Go.Proofs
theorem digx {k a : Int} {n : Nat} (hW : 0 ≤ k ∧ n ≤ 19 ∧ k * 10 ^ n ≤ a) (hb : decide (0 < k) = true) (ha : a ≤ 9223372036854775807) :
  IntKind.wrap .i64 (k.tdiv 10) = k / 10 ∧ n ≤ 18 ∧ (k / 10) * 10 ^ (n + 1) ≤ a ∧ k ≤ 9223372036854775807 := by
 obtain ⟨h0, h1, h2⟩ := hW
 have h := of_decide_eq_true hb
 have p1 : (1 : Int) ≤ 10 ^ n := by
  have := Nat.one_le_two_pow (n := 0)
  have h3 : 0 < 10 ^ n := Nat.pow_pos (by omega)
  have h4 : ((10 ^ n : Nat) : Int) = (10 : Int) ^ n := by simp
  omega
 have p2 := Int.mul_le_mul_of_nonneg_left p1 h0
 rw [Int.mul_one] at p2
 have hk : k ≤ 9223372036854775807 := by omega
 refine ⟨?_, ?_, ?_, hk⟩
 ·rw [Int.tdiv_eq_ediv_of_nonneg h0, IntKind.wrap_i64]; omega
 ·by_cases hn : n = 19
  ·subst hn
   have e : (10 : Int) ^ 19 = 10000000000000000000 := by decide
   rw [e] at h2; omega
  ·omega
 ·have q := Int.mul_le_mul_of_nonneg_right (Int.ediv_mul_le k (show (10 : Int) ≠ 0 by decide)) (show (0 : Int) ≤ 10 ^ n by omega)
  have e : (k / 10) * 10 ^ (n + 1) = k / 10 * 10 * 10 ^ n := by rw [Int.pow_succ]; ac_rfl
  rw [e]; omega
theorem digd {k a : Int} {n : Nat} (hW : 0 ≤ k ∧ n ≤ 19 ∧ k * 10 ^ n ≤ a) (hb : decide (0 < k) = true) (ha : a ≤ 9223372036854775807) : (IntKind.wrap .i64 (k.tdiv 10)).toNat < k.toNat := by
 have h := of_decide_eq_true hb
 rw [(digx hW hb ha).1]; omega
theorem digw {k a : Int} {x l : List UInt8} (hx : x.length = 1) (hW : 0 ≤ k ∧ l.length ≤ 19 ∧ k * 10 ^ l.length ≤ a) (hb : decide (0 < k) = true) (ha : a ≤ 9223372036854775807) :
  0 ≤ IntKind.wrap .i64 (k.tdiv 10) ∧ (x ++ l).length ≤ 19 ∧ IntKind.wrap .i64 (k.tdiv 10) * 10 ^ (x ++ l).length ≤ a := by
 obtain ⟨e1, e2, e3, e4⟩ := digx hW hb ha
 rw [e1, List.length_append, hx, Nat.add_comm 1]
 exact ⟨by omega, by omega, e3⟩
end Go.Ab

namespace Go.Ab
open Go Go.Proofs
def smMark (v : Mark) : Prop := v.Colors.length ≤ 1048576 ∧ v.Shape.length ≤ 1048576 ∧ v.Topmark.length ≤ 1048576
theorem smMark_bd (v : Mark) (h : smMark v) : bdMark v := ⟨Nat.lt_of_le_of_lt h.1 (by decide), Nat.lt_of_le_of_lt h.2.1 (by decide), Nat.lt_of_le_of_lt h.2.2 (by decide)⟩
def smCharacter (v : Character) : Prop := v.Group.length ≤ 1048576 ∧ v.Letter.length ≤ 1048576 ∧ v.Colors.length ≤ 1048576
theorem smCharacter_bd (v : Character) (h : smCharacter v) : bdCharacter v := ⟨Nat.lt_of_le_of_lt h.1 (by decide), Nat.lt_of_le_of_lt h.2.1 (by decide), Nat.lt_of_le_of_lt h.2.2 (by decide)⟩
def smSector (v : Sector) : Prop := v.Color.length ≤ 1048576
theorem smSector_bd (v : Sector) (h : smSector v) : bdSector v := Nat.lt_of_le_of_lt h (by decide)
def smAid (v : Aid) : Prop := v.Name.length ≤ 1048576 ∧ smMark v.Mark ∧ smCharacter v.Light ∧ (v.Sectors.length ≤ 1048576 ∧ ∀ y ∈ v.Sectors, smSector y)
theorem smAid_bd (v : Aid) (h : smAid v) : bdAid v := ⟨Nat.lt_of_le_of_lt h.1 (by decide), smMark_bd _ h.2.1, smCharacter_bd _ h.2.2.1, ⟨Nat.lt_of_le_of_lt h.2.2.2.1 (by decide), fun y hy => smSector_bd _ (h.2.2.2.2 y hy)⟩⟩
def smNotice (v : Notice) : Prop := smAid v.Aid
theorem smNotice_bd (v : Notice) (h : smNotice v) : bdNotice v := smAid_bd _ h
def smCorrection (v : Correction) : Prop := smAid v.Aid
theorem smCorrection_bd (v : Correction) (h : smCorrection v) : bdCorrection v := smAid_bd _ h
end Go.Ab

namespace Go.Ab
open Go Go.Proofs Go.Deep Go.ChangeShapes Go.WideShapes Go.ChangeAt Go.RowKit
set_option maxRecDepth 100000
theorem rdT47 : Rd Tryz.prog 47 ePoint := by
 intro H enc W base sp hd fuel cs x h
 obtain ⟨hl, hf⟩ := rd_fields Tryz.underlying47 h
 have e0 : Tryz.prog.cellsOf 47 = 2 := by kernel_rfl
 rw [e0] at hl
 obtain ⟨n0, y0, g0⟩ := hf 0 _ rfl
 have c0 : Tryz.prog.cellsOf 2 = 1 := by kernel_rfl
 obtain ⟨v0, r0, o0⟩ := (rd_int (k := .i64) Tryz.underlying2) g0
 replace r0 : RepL W (fun _ => False) ([.int .i64 v0]) noMap ((cs.drop 0).take (Tryz.prog.cellsOf 2)) [] := r0
 replace o0 : ∀ u ∈ (cs.drop 0).take (Tryz.prog.cellsOf 2), u.oneCell' = true := o0
 rw [c0] at r0 o0
 obtain ⟨n1, y1, g1⟩ := hf 1 _ rfl
 have c1 : Tryz.prog.cellsOf 2 = 1 := by kernel_rfl
 obtain ⟨v1, r1, o1⟩ := (rd_int (k := .i64) Tryz.underlying2) g1
 replace r1 : RepL W (fun _ => False) ([.int .i64 v1]) noMap ((cs.drop 1).take (Tryz.prog.cellsOf 2)) [] := r1
 replace o1 : ∀ u ∈ (cs.drop 1).take (Tryz.prog.cellsOf 2), u.oneCell' = true := o1
 rw [c1] at r1 o1
 refine ⟨⟨v0, v1⟩, ?_, ?_⟩
 ·exact split_rep (o := 0) (k := 1) r0 (split_rep (o := 1) (k := 1) r1 (end_rep (o := 2) (by omega)))
 ·exact split_one (o := 0) (k := 1) o0 (split_one (o := 1) (k := 1) o1 (end_one (o := 2) (by omega)))
theorem rdT49 : Rd Tryz.prog 49 eMark := by
 intro H enc W base sp hd fuel cs x h
 obtain ⟨hl, hf⟩ := rd_fields Tryz.underlying49 h
 have e0 : Tryz.prog.cellsOf 49 = 4 := by kernel_rfl
 rw [e0] at hl
 obtain ⟨n0, y0, g0⟩ := hf 0 _ rfl
 have c0 : Tryz.prog.cellsOf 2 = 1 := by kernel_rfl
 obtain ⟨v0, r0, o0⟩ := (rd_int (k := .i64) Tryz.underlying2) g0
 replace r0 : RepL W (fun _ => False) ([.int .i64 v0]) noMap ((cs.drop 0).take (Tryz.prog.cellsOf 2)) [] := r0
 replace o0 : ∀ u ∈ (cs.drop 0).take (Tryz.prog.cellsOf 2), u.oneCell' = true := o0
 rw [c0] at r0 o0
 obtain ⟨n1, y1, g1⟩ := hf 1 _ rfl
 have c1 : Tryz.prog.cellsOf 9 = 1 := by kernel_rfl
 obtain ⟨v1, r1, o1⟩ := (rd_str Tryz.underlying9) g1
 replace r1 : RepL W (fun _ => False) ([.str v1]) noMap ((cs.drop 1).take (Tryz.prog.cellsOf 9)) [] := r1
 replace o1 : ∀ u ∈ (cs.drop 1).take (Tryz.prog.cellsOf 9), u.oneCell' = true := o1
 rw [c1] at r1 o1
 obtain ⟨n2, y2, g2⟩ := hf 2 _ rfl
 have c2 : Tryz.prog.cellsOf 9 = 1 := by kernel_rfl
 obtain ⟨v2, r2, o2⟩ := (rd_str Tryz.underlying9) g2
 replace r2 : RepL W (fun _ => False) ([.str v2]) noMap ((cs.drop 2).take (Tryz.prog.cellsOf 9)) [] := r2
 replace o2 : ∀ u ∈ (cs.drop 2).take (Tryz.prog.cellsOf 9), u.oneCell' = true := o2
 rw [c2] at r2 o2
 obtain ⟨n3, y3, g3⟩ := hf 3 _ rfl
 have c3 : Tryz.prog.cellsOf 9 = 1 := by kernel_rfl
 obtain ⟨v3, r3, o3⟩ := (rd_str Tryz.underlying9) g3
 replace r3 : RepL W (fun _ => False) ([.str v3]) noMap ((cs.drop 3).take (Tryz.prog.cellsOf 9)) [] := r3
 replace o3 : ∀ u ∈ (cs.drop 3).take (Tryz.prog.cellsOf 9), u.oneCell' = true := o3
 rw [c3] at r3 o3
 refine ⟨⟨v0, v1, v2, v3⟩, ?_, ?_⟩
 ·exact split_rep (o := 0) (k := 1) r0 (split_rep (o := 1) (k := 1) r1 (split_rep (o := 2) (k := 1) r2 (split_rep (o := 3) (k := 1) r3 (end_rep (o := 4) (by omega)))))
 ·exact split_one (o := 0) (k := 1) o0 (split_one (o := 1) (k := 1) o1 (split_one (o := 2) (k := 1) o2 (split_one (o := 3) (k := 1) o3 (end_one (o := 4) (by omega)))))
theorem rdT24 : Rd Tryz.prog 24 (fun l : List Int => [encL 1 eIi64 l]) := rd_slice Tryz.underlying24 (by kernel_rfl) (by decide) (rd_int (k := .i64) Tryz.underlying2)
theorem rdT51 : Rd Tryz.prog 51 eCharacter := by
 intro H enc W base sp hd fuel cs x h
 obtain ⟨hl, hf⟩ := rd_fields Tryz.underlying51 h
 have e0 : Tryz.prog.cellsOf 51 = 5 := by kernel_rfl
 rw [e0] at hl
 obtain ⟨n0, y0, g0⟩ := hf 0 _ rfl
 have c0 : Tryz.prog.cellsOf 2 = 1 := by kernel_rfl
 obtain ⟨v0, r0, o0⟩ := (rd_int (k := .i64) Tryz.underlying2) g0
 replace r0 : RepL W (fun _ => False) ([.int .i64 v0]) noMap ((cs.drop 0).take (Tryz.prog.cellsOf 2)) [] := r0
 replace o0 : ∀ u ∈ (cs.drop 0).take (Tryz.prog.cellsOf 2), u.oneCell' = true := o0
 rw [c0] at r0 o0
 obtain ⟨n1, y1, g1⟩ := hf 1 _ rfl
 have c1 : Tryz.prog.cellsOf 24 = 1 := by kernel_rfl
 obtain ⟨v1, r1, o1⟩ := rdT24 g1
 replace r1 : RepL W (fun _ => False) ([encL 1 eIi64 v1]) noMap ((cs.drop 1).take (Tryz.prog.cellsOf 24)) [] := r1
 replace o1 : ∀ u ∈ (cs.drop 1).take (Tryz.prog.cellsOf 24), u.oneCell' = true := o1
 rw [c1] at r1 o1
 obtain ⟨n2, y2, g2⟩ := hf 2 _ rfl
 have c2 : Tryz.prog.cellsOf 9 = 1 := by kernel_rfl
 obtain ⟨v2, r2, o2⟩ := (rd_str Tryz.underlying9) g2
 replace r2 : RepL W (fun _ => False) ([.str v2]) noMap ((cs.drop 2).take (Tryz.prog.cellsOf 9)) [] := r2
 replace o2 : ∀ u ∈ (cs.drop 2).take (Tryz.prog.cellsOf 9), u.oneCell' = true := o2
 rw [c2] at r2 o2
 obtain ⟨n3, y3, g3⟩ := hf 3 _ rfl
 have c3 : Tryz.prog.cellsOf 9 = 1 := by kernel_rfl
 obtain ⟨v3, r3, o3⟩ := (rd_str Tryz.underlying9) g3
 replace r3 : RepL W (fun _ => False) ([.str v3]) noMap ((cs.drop 3).take (Tryz.prog.cellsOf 9)) [] := r3
 replace o3 : ∀ u ∈ (cs.drop 3).take (Tryz.prog.cellsOf 9), u.oneCell' = true := o3
 rw [c3] at r3 o3
 obtain ⟨n4, y4, g4⟩ := hf 4 _ rfl
 have c4 : Tryz.prog.cellsOf 2 = 1 := by kernel_rfl
 obtain ⟨v4, r4, o4⟩ := (rd_int (k := .i64) Tryz.underlying2) g4
 replace r4 : RepL W (fun _ => False) ([.int .i64 v4]) noMap ((cs.drop 4).take (Tryz.prog.cellsOf 2)) [] := r4
 replace o4 : ∀ u ∈ (cs.drop 4).take (Tryz.prog.cellsOf 2), u.oneCell' = true := o4
 rw [c4] at r4 o4
 refine ⟨⟨v0, v1, v2, v3, v4⟩, ?_, ?_⟩
 ·exact split_rep (o := 0) (k := 1) r0 (split_rep (o := 1) (k := 1) r1 (split_rep (o := 2) (k := 1) r2 (split_rep (o := 3) (k := 1) r3 (split_rep (o := 4) (k := 1) r4 (end_rep (o := 5) (by omega))))))
 ·exact split_one (o := 0) (k := 1) o0 (split_one (o := 1) (k := 1) o1 (split_one (o := 2) (k := 1) o2 (split_one (o := 3) (k := 1) o3 (split_one (o := 4) (k := 1) o4 (end_one (o := 5) (by omega))))))
theorem rdT185 : Rd Tryz.prog 185 eSector := by
 intro H enc W base sp hd fuel cs x h
 obtain ⟨hl, hf⟩ := rd_fields Tryz.underlying185 h
 have e0 : Tryz.prog.cellsOf 185 = 3 := by kernel_rfl
 rw [e0] at hl
 obtain ⟨n0, y0, g0⟩ := hf 0 _ rfl
 have c0 : Tryz.prog.cellsOf 2 = 1 := by kernel_rfl
 obtain ⟨v0, r0, o0⟩ := (rd_int (k := .i64) Tryz.underlying2) g0
 replace r0 : RepL W (fun _ => False) ([.int .i64 v0]) noMap ((cs.drop 0).take (Tryz.prog.cellsOf 2)) [] := r0
 replace o0 : ∀ u ∈ (cs.drop 0).take (Tryz.prog.cellsOf 2), u.oneCell' = true := o0
 rw [c0] at r0 o0
 obtain ⟨n1, y1, g1⟩ := hf 1 _ rfl
 have c1 : Tryz.prog.cellsOf 2 = 1 := by kernel_rfl
 obtain ⟨v1, r1, o1⟩ := (rd_int (k := .i64) Tryz.underlying2) g1
 replace r1 : RepL W (fun _ => False) ([.int .i64 v1]) noMap ((cs.drop 1).take (Tryz.prog.cellsOf 2)) [] := r1
 replace o1 : ∀ u ∈ (cs.drop 1).take (Tryz.prog.cellsOf 2), u.oneCell' = true := o1
 rw [c1] at r1 o1
 obtain ⟨n2, y2, g2⟩ := hf 2 _ rfl
 have c2 : Tryz.prog.cellsOf 9 = 1 := by kernel_rfl
 obtain ⟨v2, r2, o2⟩ := (rd_str Tryz.underlying9) g2
 replace r2 : RepL W (fun _ => False) ([.str v2]) noMap ((cs.drop 2).take (Tryz.prog.cellsOf 9)) [] := r2
 replace o2 : ∀ u ∈ (cs.drop 2).take (Tryz.prog.cellsOf 9), u.oneCell' = true := o2
 rw [c2] at r2 o2
 refine ⟨⟨v0, v1, v2⟩, ?_, ?_⟩
 ·exact split_rep (o := 0) (k := 1) r0 (split_rep (o := 1) (k := 1) r1 (split_rep (o := 2) (k := 1) r2 (end_rep (o := 3) (by omega))))
 ·exact split_one (o := 0) (k := 1) o0 (split_one (o := 1) (k := 1) o1 (split_one (o := 2) (k := 1) o2 (end_one (o := 3) (by omega))))
theorem rdT52 : Rd Tryz.prog 52 (fun l : List Sector => [encL 3 eSector l]) := rd_slice Tryz.underlying52 (by kernel_rfl) (by decide) rdT185
theorem rdT54 : Rd Tryz.prog 54 eAid := by
 intro H enc W base sp hd fuel cs x h
 obtain ⟨hl, hf⟩ := rd_fields Tryz.underlying54 h
 have e0 : Tryz.prog.cellsOf 54 = 16 := by kernel_rfl
 rw [e0] at hl
 obtain ⟨n0, y0, g0⟩ := hf 0 _ rfl
 have c0 : Tryz.prog.cellsOf 2 = 1 := by kernel_rfl
 obtain ⟨v0, r0, o0⟩ := (rd_int (k := .i64) Tryz.underlying2) g0
 replace r0 : RepL W (fun _ => False) ([.int .i64 v0]) noMap ((cs.drop 0).take (Tryz.prog.cellsOf 2)) [] := r0
 replace o0 : ∀ u ∈ (cs.drop 0).take (Tryz.prog.cellsOf 2), u.oneCell' = true := o0
 rw [c0] at r0 o0
 obtain ⟨n1, y1, g1⟩ := hf 1 _ rfl
 have c1 : Tryz.prog.cellsOf 9 = 1 := by kernel_rfl
 obtain ⟨v1, r1, o1⟩ := (rd_str Tryz.underlying9) g1
 replace r1 : RepL W (fun _ => False) ([.str v1]) noMap ((cs.drop 1).take (Tryz.prog.cellsOf 9)) [] := r1
 replace o1 : ∀ u ∈ (cs.drop 1).take (Tryz.prog.cellsOf 9), u.oneCell' = true := o1
 rw [c1] at r1 o1
 obtain ⟨n2, y2, g2⟩ := hf 2 _ rfl
 have c2 : Tryz.prog.cellsOf 47 = 2 := by kernel_rfl
 obtain ⟨v2, r2, o2⟩ := rdT47 g2
 replace r2 : RepL W (fun _ => False) (ePoint v2) noMap ((cs.drop 2).take (Tryz.prog.cellsOf 47)) [] := r2
 replace o2 : ∀ u ∈ (cs.drop 2).take (Tryz.prog.cellsOf 47), u.oneCell' = true := o2
 rw [c2] at r2 o2
 obtain ⟨n3, y3, g3⟩ := hf 3 _ rfl
 have c3 : Tryz.prog.cellsOf 2 = 1 := by kernel_rfl
 obtain ⟨v3, r3, o3⟩ := (rd_int (k := .i64) Tryz.underlying2) g3
 replace r3 : RepL W (fun _ => False) ([.int .i64 v3]) noMap ((cs.drop 4).take (Tryz.prog.cellsOf 2)) [] := r3
 replace o3 : ∀ u ∈ (cs.drop 4).take (Tryz.prog.cellsOf 2), u.oneCell' = true := o3
 rw [c3] at r3 o3
 obtain ⟨n4, y4, g4⟩ := hf 4 _ rfl
 have c4 : Tryz.prog.cellsOf 49 = 4 := by kernel_rfl
 obtain ⟨v4, r4, o4⟩ := rdT49 g4
 replace r4 : RepL W (fun _ => False) (eMark v4) noMap ((cs.drop 5).take (Tryz.prog.cellsOf 49)) [] := r4
 replace o4 : ∀ u ∈ (cs.drop 5).take (Tryz.prog.cellsOf 49), u.oneCell' = true := o4
 rw [c4] at r4 o4
 obtain ⟨n5, y5, g5⟩ := hf 5 _ rfl
 have c5 : Tryz.prog.cellsOf 51 = 5 := by kernel_rfl
 obtain ⟨v5, r5, o5⟩ := rdT51 g5
 replace r5 : RepL W (fun _ => False) (eCharacter v5) noMap ((cs.drop 9).take (Tryz.prog.cellsOf 51)) [] := r5
 replace o5 : ∀ u ∈ (cs.drop 9).take (Tryz.prog.cellsOf 51), u.oneCell' = true := o5
 rw [c5] at r5 o5
 obtain ⟨n6, y6, g6⟩ := hf 6 _ rfl
 have c6 : Tryz.prog.cellsOf 52 = 1 := by kernel_rfl
 obtain ⟨v6, r6, o6⟩ := rdT52 g6
 replace r6 : RepL W (fun _ => False) ([encL 3 eSector v6]) noMap ((cs.drop 14).take (Tryz.prog.cellsOf 52)) [] := r6
 replace o6 : ∀ u ∈ (cs.drop 14).take (Tryz.prog.cellsOf 52), u.oneCell' = true := o6
 rw [c6] at r6 o6
 obtain ⟨n7, y7, g7⟩ := hf 7 _ rfl
 have c7 : Tryz.prog.cellsOf 2 = 1 := by kernel_rfl
 obtain ⟨v7, r7, o7⟩ := (rd_int (k := .i64) Tryz.underlying2) g7
 replace r7 : RepL W (fun _ => False) ([.int .i64 v7]) noMap ((cs.drop 15).take (Tryz.prog.cellsOf 2)) [] := r7
 replace o7 : ∀ u ∈ (cs.drop 15).take (Tryz.prog.cellsOf 2), u.oneCell' = true := o7
 rw [c7] at r7 o7
 refine ⟨⟨v0, v1, v2, v3, v4, v5, v6, v7⟩, ?_, ?_⟩
 ·exact split_rep (o := 0) (k := 1) r0 (split_rep (o := 1) (k := 1) r1 (split_rep (o := 2) (k := 2) r2 (split_rep (o := 4) (k := 1) r3 (split_rep (o := 5) (k := 4) r4 (split_rep (o := 9) (k := 5) r5 (split_rep (o := 14) (k := 1) r6 (split_rep (o := 15) (k := 1) r7 (end_rep (o := 16) (by omega)))))))))
 ·exact split_one (o := 0) (k := 1) o0 (split_one (o := 1) (k := 1) o1 (split_one (o := 2) (k := 2) o2 (split_one (o := 4) (k := 1) o3 (split_one (o := 5) (k := 4) o4 (split_one (o := 9) (k := 5) o5 (split_one (o := 14) (k := 1) o6 (split_one (o := 15) (k := 1) o7 (end_one (o := 16) (by omega)))))))))
theorem rdT85 : Rd Tryz.prog 85 eNotice := by
 intro H enc W base sp hd fuel cs x h
 obtain ⟨hl, hf⟩ := rd_fields Tryz.underlying85 h
 have e0 : Tryz.prog.cellsOf 85 = 20 := by kernel_rfl
 rw [e0] at hl
 obtain ⟨n0, y0, g0⟩ := hf 0 _ rfl
 have c0 : Tryz.prog.cellsOf 2 = 1 := by kernel_rfl
 obtain ⟨v0, r0, o0⟩ := (rd_int (k := .i64) Tryz.underlying2) g0
 replace r0 : RepL W (fun _ => False) ([.int .i64 v0]) noMap ((cs.drop 0).take (Tryz.prog.cellsOf 2)) [] := r0
 replace o0 : ∀ u ∈ (cs.drop 0).take (Tryz.prog.cellsOf 2), u.oneCell' = true := o0
 rw [c0] at r0 o0
 obtain ⟨n1, y1, g1⟩ := hf 1 _ rfl
 have c1 : Tryz.prog.cellsOf 2 = 1 := by kernel_rfl
 obtain ⟨v1, r1, o1⟩ := (rd_int (k := .i64) Tryz.underlying2) g1
 replace r1 : RepL W (fun _ => False) ([.int .i64 v1]) noMap ((cs.drop 1).take (Tryz.prog.cellsOf 2)) [] := r1
 replace o1 : ∀ u ∈ (cs.drop 1).take (Tryz.prog.cellsOf 2), u.oneCell' = true := o1
 rw [c1] at r1 o1
 obtain ⟨n2, y2, g2⟩ := hf 2 _ rfl
 have c2 : Tryz.prog.cellsOf 2 = 1 := by kernel_rfl
 obtain ⟨v2, r2, o2⟩ := (rd_int (k := .i64) Tryz.underlying2) g2
 replace r2 : RepL W (fun _ => False) ([.int .i64 v2]) noMap ((cs.drop 2).take (Tryz.prog.cellsOf 2)) [] := r2
 replace o2 : ∀ u ∈ (cs.drop 2).take (Tryz.prog.cellsOf 2), u.oneCell' = true := o2
 rw [c2] at r2 o2
 obtain ⟨n3, y3, g3⟩ := hf 3 _ rfl
 have c3 : Tryz.prog.cellsOf 2 = 1 := by kernel_rfl
 obtain ⟨v3, r3, o3⟩ := (rd_int (k := .i64) Tryz.underlying2) g3
 replace r3 : RepL W (fun _ => False) ([.int .i64 v3]) noMap ((cs.drop 3).take (Tryz.prog.cellsOf 2)) [] := r3
 replace o3 : ∀ u ∈ (cs.drop 3).take (Tryz.prog.cellsOf 2), u.oneCell' = true := o3
 rw [c3] at r3 o3
 obtain ⟨n4, y4, g4⟩ := hf 4 _ rfl
 have c4 : Tryz.prog.cellsOf 54 = 16 := by kernel_rfl
 obtain ⟨v4, r4, o4⟩ := rdT54 g4
 replace r4 : RepL W (fun _ => False) (eAid v4) noMap ((cs.drop 4).take (Tryz.prog.cellsOf 54)) [] := r4
 replace o4 : ∀ u ∈ (cs.drop 4).take (Tryz.prog.cellsOf 54), u.oneCell' = true := o4
 rw [c4] at r4 o4
 refine ⟨⟨v0, v1, v2, v3, v4⟩, ?_, ?_⟩
 ·exact split_rep (o := 0) (k := 1) r0 (split_rep (o := 1) (k := 1) r1 (split_rep (o := 2) (k := 1) r2 (split_rep (o := 3) (k := 1) r3 (split_rep (o := 4) (k := 16) r4 (end_rep (o := 20) (by omega))))))
 ·exact split_one (o := 0) (k := 1) o0 (split_one (o := 1) (k := 1) o1 (split_one (o := 2) (k := 1) o2 (split_one (o := 3) (k := 1) o3 (split_one (o := 4) (k := 16) o4 (end_one (o := 20) (by omega))))))
theorem rdT22 : Rd Tryz.prog 22 (fun l : List Notice => [encL 20 eNotice l]) := rd_slice Tryz.underlying22 (by kernel_rfl) (by decide) rdT85
theorem rdT34 : Rd Tryz.prog 34 (fun l : List Aid => [encL 16 eAid l]) := rd_slice Tryz.underlying34 (by kernel_rfl) (by decide) rdT54
theorem rdT168 : Rd Tryz.prog 168 eCorrection := by
 intro H enc W base sp hd fuel cs x h
 obtain ⟨hl, hf⟩ := rd_fields Tryz.underlying168 h
 have e0 : Tryz.prog.cellsOf 168 = 17 := by kernel_rfl
 rw [e0] at hl
 obtain ⟨n0, y0, g0⟩ := hf 0 _ rfl
 have c0 : Tryz.prog.cellsOf 2 = 1 := by kernel_rfl
 obtain ⟨v0, r0, o0⟩ := (rd_int (k := .i64) Tryz.underlying2) g0
 replace r0 : RepL W (fun _ => False) ([.int .i64 v0]) noMap ((cs.drop 0).take (Tryz.prog.cellsOf 2)) [] := r0
 replace o0 : ∀ u ∈ (cs.drop 0).take (Tryz.prog.cellsOf 2), u.oneCell' = true := o0
 rw [c0] at r0 o0
 obtain ⟨n1, y1, g1⟩ := hf 1 _ rfl
 have c1 : Tryz.prog.cellsOf 54 = 16 := by kernel_rfl
 obtain ⟨v1, r1, o1⟩ := rdT54 g1
 replace r1 : RepL W (fun _ => False) (eAid v1) noMap ((cs.drop 1).take (Tryz.prog.cellsOf 54)) [] := r1
 replace o1 : ∀ u ∈ (cs.drop 1).take (Tryz.prog.cellsOf 54), u.oneCell' = true := o1
 rw [c1] at r1 o1
 refine ⟨⟨v0, v1⟩, ?_, ?_⟩
 ·exact split_rep (o := 0) (k := 1) r0 (split_rep (o := 1) (k := 16) r1 (end_rep (o := 17) (by omega)))
 ·exact split_one (o := 0) (k := 1) o0 (split_one (o := 1) (k := 16) o1 (end_one (o := 17) (by omega)))
theorem rdT96 : Rd Tryz.prog 96 (fun l : List Correction => [encL 17 eCorrection l]) := rd_slice Tryz.underlying96 (by kernel_rfl) (by decide) rdT168
end Go.Ab
