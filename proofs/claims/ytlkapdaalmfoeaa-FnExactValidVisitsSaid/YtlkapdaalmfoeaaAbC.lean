/- A layer of our own over the calculus of the model: abstract values and states, part AbC: it holds for every program. -/
import Derived.Test.YtlkapdaalmfoeaaAbB
set_option linter.unusedVariables false
set_option linter.unusedSimpArgs false
namespace Go.Ab
open Go

mutual
/-- nothing borrowed inside -/
def NoBor : AV → Prop
  | .sl none _ _ _ => False
  | .sl (some _) _ n f => ∀ i, i < n → NoBorL (f i)
  | .ep _ => False
  | .agg cs => NoBorL cs
  | .tup cs => NoBorL cs
  | .fn _ cs => NoBorL cs
  | .gd _ x => NoBor x
  | _ => True
def NoBorL : List AV → Prop
  | [] => True
  | x :: xs => NoBor x ∧ NoBorL xs
end

mutual
theorem Rep.noBor {w : World} {M M' : Nat → Prop} : ∀ (x : AV) {μ : Map} {v : Value} {fp : List Nat}, NoBor x → Rep w M x μ v fp → Rep w M' x μ v fp
  | .int _ _, _, _, _, _, h => by simpa only [Rep] using h
  | .bool _, _, _, _, _, h => by simpa only [Rep] using h
  | .str _, _, _, _, _, h => by simpa only [Rep] using h
  | .nils, _, _, _, _, h => by simpa only [Rep] using h
  | .any, _, _, _, _, h => by simpa only [Rep] using h
  | .ref .., _, _, _, _, h => by simpa only [Rep] using h
  | .ptr .., _, _, _, _, h => by simpa only [Rep] using h
  | .pe .., _, _, _, _, h => by simpa only [Rep] using h
  | .ep _, _, _, _, hn, _ => by simp [NoBor] at hn
  | .agg cs, μ, v, fp, hn, h => by
    simp only [Rep, NoBor] at h hn ⊢
    obtain ⟨us, e, h⟩ := h
    exact ⟨us, e, RepL.noBor cs hn h⟩
  | .tup cs, μ, v, fp, hn, h => by
    simp only [Rep, NoBor] at h hn ⊢
    obtain ⟨us, e, h⟩ := h
    exact ⟨us, e, RepL.noBor cs hn h⟩
  | .fn f cs, μ, v, fp, hn, h => by
    simp only [Rep, NoBor] at h hn ⊢
    obtain ⟨e0, us, e, h⟩ := h
    exact ⟨e0, us, e, RepL.noBor cs hn h⟩
  | .gd gs x, μ, v, fp, hn, h => by
    simp only [Rep, NoBor] at h hn ⊢
    exact ⟨h.1, fun hg => Rep.noBor x hn (h.2.1 hg), h.2.2⟩
  | .sl none e n f, μ, v, fp, hn, h => by simp [NoBor] at hn
  | .sl (some T) e n f, μ, v, fp, hn, h => by
    simp only [Rep, NoBor] at h hn ⊢
    rcases h with h | ⟨b, o, cap, us, fps, hv, hnn, hb, hc, ho⟩
    · exact .inl h
    · exact .inr ⟨b, o, cap, us, fps, hv, hnn, hb, fun i hi => ⟨RepL.noBor (f i) (hn i hi) (hc i hi).1, (hc i hi).2⟩, ho⟩
theorem RepL.noBor {w : World} {M M' : Nat → Prop} : ∀ (xs : List AV) {μ : Map} {us : List Value} {fp : List Nat}, NoBorL xs → RepL w M xs μ us fp → RepL w M' xs μ us fp
  | [], _, _, _, _, h => by simpa only [RepL] using h
  | x :: xs, μ, us, fp, hn, h => by
    simp only [RepL, NoBorL] at h hn ⊢
    obtain ⟨u, us', f1, f2, e1, e2, h1, h2⟩ := h
    exact ⟨u, us', f1, f2, e1, e2, Rep.noBor x hn.1 h1, RepL.noBor xs hn.2 h2⟩
end

/-- the blocks that the owned slices of a value begin in (slices within structs too, not slices within slices) -/
def topOf : AV → Value → List Nat
  | .sl (some _) _ _ _, .slice (some a) _ _ => [a.block]
  | _, _ => []
mutual
def tops : AV → Value → List Nat
  | .agg cs, .agg us => topsL cs us.toList
  | .tup cs, .tuple us => topsL cs us.toList
  | x, v => topOf x v
def topsL : List AV → List Value → List Nat
  | x :: xs, v :: vs => tops x v ++ topsL xs vs
  | _, _ => []
end

def FnOk (P : Program) (f : FuncId) : Prop := ∃ fn, P.funcs[f]? = some fn ∧ (fn.name == "runtime.NumGoroutine") = false ∧ fn.body.isNone = false

/-- THE CONTRACT: called at arguments that read as `as`, the function returns a value that reads as r; what it owns of the result are blocks that were handed over or are new; of old memory only the blocks that owned arguments begin in may have changed -/
def Den (P : Program) (f : FuncId) (xs : List AV) (r : AV) : Prop :=
  FnOk P f ∧ ∀ (w : World) (M : Nat → Prop) (vs : List Value) (fpA : List Nat),
    RepL w (fun b => M b ∨ b ∈ topsL xs vs) xs noMap vs fpA → fpA.Nodup → (∀ b, b ∈ fpA → ¬ M b) → (∀ b, M b → b < w.heap.size) →
    Calls P f vs.toArray w fun e w' => ∃ v fpR, e = .returned v ∧ Keep w (topsL xs vs) w' ∧ Rep w' (fun b => M b ∨ b ∈ fpR) r noMap v fpR ∧ fpR.Nodup ∧
      (∀ b, b ∈ fpR → (b ∈ fpA ∨ w.heap.size ≤ b) ∧ b < w'.heap.size) ∧ (∀ b, b ∈ tops r v → b ∈ topsL xs vs ∨ w.heap.size ≤ b)

def mapO (f : AV → Option (AV × List Prop)) : List AV → Option (List AV × List Prop)
  | [] => some ([], [])
  | x :: xs => match f x with
    | some (y, o1) => match mapO f xs with
      | some (ys, o2) => some (y :: ys, o1 ++ o2)
      | none => none
    | none => none

/-- what a callee sees of a value of ours -/
def snapC (h : List Ent) : Nat → AV → Option (AV × List Prop)
  | 0, _ => none
  | d + 1, x => match x with
    | .int k n => some (.int k n, [])
    | .bool b => some (.bool b, [])
    | .str l => some (.str l, [])
    | .nils => some (.nils, [])
    | .sl none e n f => some (.sl none e n f, [])
    | .ep cs => some (.ep cs, [])
    | .ref id e off n => match nthE h id with
      | some (.arr _ e' n' f) => if e = e' then some (.sl none e n (fun i => borrowL (f (off + i))), [off + n ≤ n']) else none
      | _ => none
    | .pe id e i o => match nthE h id with
      | some (.arr _ e' n' f) => if e = e' then some (.ep (dropL o (borrowL (f i))), [i < n']) else none
      | _ => none
    | .ptr id o => match nthE h id with
      | some (.box cs) => match mapO (snapC h d) (dropL o cs) with
        | some (ys, ob) => some (.ep ys, ob)
        | none => none
      | _ => none
    | .agg cs => match mapO (snapC h d) cs with
      | some (ys, ob) => some (.agg ys, ob)
      | none => none
    | .fn f cs => match mapO (snapC h d) cs with
      | some (ys, ob) => some (.fn f ys, ob)
      | none => none
    | _ => none

section
variable {P : Program} {Γ : Env} {c : Ctx} {μ : Map} {FP : Nat → List Nat} {w : World}

/-- the blocks that are none of the callers' and none that an entry holds live -/
theorem snap_mono {M M' : Nat → Prop} {x : AV} {v : Value} (hM : ∀ b, M' b → M b) (h : Rep w M x μ v []) : Rep w M' x μ v [] :=
  Rep.mono x (Map.le_refl _) ⟨Nat.le_refl _, fun b _ hb h' => hb (hM b h'), fun _ _ _ => rfl⟩ h
theorem snapL_mono {M M' : Nat → Prop} {xs : List AV} {us : List Value} (hM : ∀ b, M' b → M b) (h : RepL w M xs μ us []) : RepL w M' xs μ us [] :=
  RepL.mono xs (Map.le_refl _) ⟨Nat.le_refl _, fun b _ hb h' => hb (hM b h'), fun _ _ _ => rfl⟩ h

theorem mapO_rep {M M' : Nat → Prop} {μ' : Map} {g : AV → Option (AV × List Prop)} (hg : ∀ x y ob v, g x = some (y, ob) → allP ob → Rep w M x μ v [] → Rep w M' y μ' v []) :
    ∀ {xs ys : List AV} {ob : List Prop} {us : List Value}, mapO g xs = some (ys, ob) → allP ob → RepL w M xs μ us [] → RepL w M' ys μ' us []
  | [], ys, ob, us, h, _, hr => by
    simp only [mapO, Option.some.injEq, Prod.mk.injEq] at h
    obtain ⟨rfl, rfl⟩ := h
    simpa only [RepL] using hr
  | x :: xs, ys, ob, us, h, ho, hr => by
    simp only [mapO] at h
    cases hx : g x with
    | none => simp [hx] at h
    | some p =>
      obtain ⟨y, o1⟩ := p
      simp only [hx] at h
      cases hxs : mapO g xs with
      | none => simp [hxs] at h
      | some q =>
        obtain ⟨zs, o2⟩ := q
        simp only [hxs, Option.some.injEq, Prod.mk.injEq] at h
        obtain ⟨rfl, rfl⟩ := h
        obtain ⟨ho1, ho2⟩ := allP_append.1 ho
        simp only [RepL] at hr ⊢
        obtain ⟨u, us', f1, f2, e1, hfp, h1, h2⟩ := hr
        obtain ⟨rfl, rfl⟩ := List.append_eq_nil_iff.1 hfp.symm
        exact ⟨u, us', [], [], e1, rfl, hg x y o1 u hx ho1 h1, mapO_rep hg hxs ho2 h2⟩

/-- a snapshot reads as it says for a callee that may write into blocks of M' alone: M' holds no block that a live entry begins in, but blocks of ours that have been handed over (T) -/
theorem snapC_sound {h h1 : List Ent} {M' : Nat → Prop} (hW : WR c (Hof h) μ FP w) (hM' : ∀ b, M' b → hot c.M0 (Hof h) μ b)
    (hsub : ∀ id e, nthE h1 id = some e → e.live = true → nthE h id = some e)
    (hlive : ∀ id b cap e, μ id = some (.blk b cap) → nthE h1 id = some e → e.live = true → M' b → False) :
    ∀ (d : Nat) (x y : AV) (ob : List Prop) (v : Value), snapC h1 d x = some (y, ob) → allP ob → Rep w (hot c.M0 (Hof h) μ) x μ v [] → Rep w M' y noMap v []
  | 0, x, y, ob, v, hs, _, _ => by simp [snapC] at hs
  | d + 1, x, y, ob, v, hs, ho, hx => by
    have ih := snapC_sound hW hM' hsub hlive d
    have hML : ∀ {cs ys : List AV} {ob : List Prop} {us : List Value}, mapO (snapC h1 d) cs = some (ys, ob) → allP ob → RepL w (hot c.M0 (Hof h) μ) cs μ us [] → RepL w M' ys noMap us [] :=
      fun h1 h2 h3 => mapO_rep ih h1 h2 h3
    cases x with
    | int k n => simp only [snapC, Option.some.injEq, Prod.mk.injEq] at hs; obtain ⟨rfl, rfl⟩ := hs; simpa only [Rep] using hx
    | bool b => simp only [snapC, Option.some.injEq, Prod.mk.injEq] at hs; obtain ⟨rfl, rfl⟩ := hs; simpa only [Rep] using hx
    | str l => simp only [snapC, Option.some.injEq, Prod.mk.injEq] at hs; obtain ⟨rfl, rfl⟩ := hs; simpa only [Rep] using hx
    | nils => simp only [snapC, Option.some.injEq, Prod.mk.injEq] at hs; obtain ⟨rfl, rfl⟩ := hs; simpa only [Rep] using hx
    | ep cs => simp only [snapC, Option.some.injEq, Prod.mk.injEq] at hs; obtain ⟨rfl, rfl⟩ := hs; have := snap_mono hM' hx; simpa only [Rep] using this
    | sl own e n f =>
      cases own with
      | none => simp only [snapC, Option.some.injEq, Prod.mk.injEq] at hs; obtain ⟨rfl, rfl⟩ := hs; have := snap_mono hM' hx; simpa only [Rep] using this
      | some T => simp [snapC] at hs
    | tup _ => simp [snapC] at hs
    | gd _ _ => simp [snapC] at hs
    | any => simp [snapC] at hs
    | agg cs =>
      simp only [snapC] at hs
      cases hm : mapO (snapC h1 d) cs with
      | none => simp [hm] at hs
      | some p =>
        obtain ⟨ys, o1⟩ := p
        simp only [hm, Option.some.injEq, Prod.mk.injEq] at hs
        obtain ⟨rfl, rfl⟩ := hs
        simp only [Rep] at hx ⊢
        obtain ⟨us, e, hr⟩ := hx
        exact ⟨us, e, hML hm ho hr⟩
    | fn f cs =>
      simp only [snapC] at hs
      cases hm : mapO (snapC h1 d) cs with
      | none => simp [hm] at hs
      | some p =>
        obtain ⟨ys, o1⟩ := p
        simp only [hm, Option.some.injEq, Prod.mk.injEq] at hs
        obtain ⟨rfl, rfl⟩ := hs
        simp only [Rep] at hx ⊢
        obtain ⟨e0, us, e, hr⟩ := hx
        exact ⟨trivial, us, e, hML hm ho hr⟩
    | ptr id o =>
      simp only [snapC] at hs
      split at hs
      · rename_i cs hid1
        have hid := hsub _ _ hid1 rfl
        cases hm : mapO (snapC h1 d) (dropL o cs) with
        | none => simp [hm] at hs
        | some p =>
          obtain ⟨ys, o1⟩ := p
          simp only [hm, Option.some.injEq, Prod.mk.injEq] at hs
          obtain ⟨rfl, rfl⟩ := hs
          simp only [Rep] at hx ⊢
          obtain ⟨_, b, cap, hmu, rfl⟩ := hx
          obtain ⟨e, he, hok⟩ := hW.ent id _ hmu
          have he2 : Hof h id = some (.box cs) := hid
          rw [he2] at he; cases he
          obtain ⟨b', cap', us, T, h1, h2, hh, hone, hr⟩ := hok
          cases h1
          refine ⟨trivial, b, o, us.drop o, rfl, (hW.lt hmu hid rfl).2, fun hb => hlive id b cap _ hmu hid1 rfl hb, hML hm ho (drop_rep hr), ?_⟩
          intro j u hu
          rw [List.getElem?_drop] at hu
          rw [cell_of_row w b (o + j) us.toArray T (0, 0) hh]
          exact ⟨by simpa using hu, hone u (List.mem_of_getElem? hu)⟩
      · simp at hs
    | pe id e i o =>
      simp only [snapC] at hs
      split at hs
      · rename_i T e' n' f hid1
        have hid := hsub _ _ hid1 rfl
        split at hs
        · rename_i hee
          subst hee
          simp only [Option.some.injEq, Prod.mk.injEq] at hs
          obtain ⟨rfl, rfl⟩ := hs
          have hi := ho.1
          simp only [Rep] at hx ⊢
          obtain ⟨_, b, cap, hmu, rfl⟩ := hx
          obtain ⟨cur, us, fps, hE, hh, h1, h2, h3, hcl, hF⟩ := entry_elts hW hmu hid
          have hr := borrowL_rep (f i) (fun x hx => hW.inner_cold hmu hF (List.mem_flatMap.2 ⟨i, List.mem_range.2 hi, hx⟩)) (hE.rep i hi)
          exact ⟨trivial, b, i * e + o, (us i).drop o, rfl, (hW.lt hmu hid rfl).2, fun hb => hlive id b cap _ hmu hid1 rfl hb, drop_rep (snapL_mono hM' hr), (hcl i hi).drop⟩
        · simp at hs
      · simp at hs
    | ref id e off n =>
      simp only [snapC] at hs
      split at hs
      · rename_i T e' n' f hid1
        have hid := hsub _ _ hid1 rfl
        split at hs
        · rename_i hee
          subst hee
          simp only [Option.some.injEq, Prod.mk.injEq] at hs
          obtain ⟨rfl, rfl⟩ := hs
          have hle := ho.1
          simp only [Rep] at hx ⊢
          obtain ⟨_, hx⟩ := hx
          cases hm : μ id with
          | none => simp [hm] at hx
          | some L =>
            cases L with
            | nil =>
              simp only [hm] at hx
              obtain ⟨_, rfl, rfl⟩ := hx
              exact .inl ⟨rfl, rfl, trivial⟩
            | blk b cap =>
              simp only [hm] at hx
              obtain ⟨hcap, o, rfl, hoo⟩ := hx
              obtain ⟨cur, us, fps, hE, hh, h1, h2, h3, hcl, hF⟩ := entry_elts hW hm hid
              refine .inr ⟨b, o, cap - off, fun i => us (off + i), fun _ => [], rfl, by omega, (hW.lt hm hid rfl).2, ?_, fun hb => hlive id b cap _ hm hid1 rfl hb, trivial, by simp⟩
              intro i hi
              have hr := borrowL_rep (f (off + i)) (fun x hx => hW.inner_cold hm hF (List.mem_flatMap.2 ⟨off + i, List.mem_range.2 (by omega), hx⟩)) (hE.rep (off + i) (by omega))
              refine ⟨snapL_mono hM' hr, hE.len _ (by omega), ?_⟩
              have hoe : o = off * e := by
                rcases hoo with h5 | h5
                · omega
                · exact h5
              subst hoe
              have := hcl (off + i) (by omega)
              rwa [Nat.add_mul] at this
        · simp at hs
      · simp at hs
end
end Go.Ab

namespace Go.Ab
open Go

mutual
def adE : AV → List Ent
  | .sl (some T) e n f => [.arr T e n f]
  | .agg cs => adEL cs
  | .tup cs => adEL cs
  | _ => []
def adEL : List AV → List Ent
  | [] => []
  | x :: xs => adE x ++ adEL xs
end

mutual
/-- the owned slices of a result become entries from number k on -/
def adR (k : Nat) : AV → AV
  | .sl (some _) e n _ => .ref k e 0 n
  | .agg cs => .agg (adRL k cs)
  | .tup cs => .tup (adRL k cs)
  | x => x
def adRL (k : Nat) : List AV → List AV
  | [] => []
  | x :: xs => adR k x :: adRL (k + (adE x).length) xs
end

section
variable {P : Program} {c : Ctx} {μ : Map} {FP : Nat → List Nat} {w : World}

theorem Rep.fpNil {w : World} {M : Nat → Prop} {μ : Map} {x : AV} {v : Value} {fp : List Nat} (h : Rep w M x μ v fp) (hx : ∀ T e n f, x ≠ .sl (some T) e n f) (h1 : ∀ cs, x ≠ .agg cs) (h2 : ∀ cs, x ≠ .tup cs) : fp = [] := by
  cases x with
  | sl own e n f =>
    cases own with
    | some T => exact absurd rfl (hx T e n f)
    | none =>
      simp only [Rep] at h
      rcases h with ⟨_, _, h⟩ | ⟨b, o, cap, us, fps, _, _, _, _, _, h, _⟩ <;> exact h
  | agg cs => exact absurd rfl (h1 cs)
  | tup cs => exact absurd rfl (h2 cs)
  | int _ _ => simp only [Rep] at h; exact h.2
  | bool _ => simp only [Rep] at h; exact h.2
  | str _ => simp only [Rep] at h; exact h.2
  | nils => simp only [Rep] at h; exact h.2
  | any => simpa only [Rep] using h
  | ref _ _ _ _ => simp only [Rep] at h; exact h.1
  | ptr _ _ => simp only [Rep] at h; exact h.1
  | pe _ _ _ _ => simp only [Rep] at h; exact h.1
  | ep _ => simp only [Rep] at h; exact h.1
  | fn _ _ => simp only [Rep] at h; exact h.1
  | gd _ _ => simp only [Rep] at h; exact h.1

/-- what a result holds of its own, entry by entry -/
structure Ad (w : World) (M : Nat → Prop) (es : List Ent) (ls : List (Loc × List Nat)) (fp tp : List Nat) : Prop where
  len : ls.length = es.length
  fps : fp = (ls.map (·.2)).flatten
  ok : ∀ (k : Nat) (e : Ent) (L : Loc) (fq : List Nat), es[k]? = some e → ls[k]? = some (L, fq) → (∀ μ, EntOK w M μ e L fq) ∧ ∀ b cap, L = .blk b cap → b ∈ tp

theorem Ad.append {w : World} {M : Nat → Prop} {es es' : List Ent} {ls ls' : List (Loc × List Nat)} {fp fp' tp tp' : List Nat} (h : Ad w M es ls fp tp) (h' : Ad w M es' ls' fp' tp') :
    Ad w M (es ++ es') (ls ++ ls') (fp ++ fp') (tp ++ tp') := by
  refine ⟨by simp [h.len, h'.len], by simp [h.fps, h'.fps], ?_⟩
  intro k e L fq he hl
  by_cases hk : k < es.length
  · rw [List.getElem?_append_left hk] at he
    rw [List.getElem?_append_left (by rw [h.len]; exact hk)] at hl
    obtain ⟨h1, h2⟩ := h.ok k e L fq he hl
    exact ⟨h1, fun b cap hL => List.mem_append_left _ (h2 b cap hL)⟩
  · rw [List.getElem?_append_right (by omega)] at he
    rw [List.getElem?_append_right (by rw [h.len]; omega), h.len] at hl
    obtain ⟨h1, h2⟩ := h'.ok _ e L fq he hl
    exact ⟨h1, fun b cap hL => List.mem_append_right _ (h2 b cap hL)⟩

mutual
theorem ad_rep {w : World} {M : Nat → Prop} : ∀ (x : AV) {v : Value} {fp : List Nat}, Rep w M x noMap v fp →
    ∃ ls, Ad w M (adE x) ls fp (tops x v) ∧ ∀ (k : Nat) (μ : Map), (∀ (j : Nat) (L : Loc) (fq : List Nat), ls[j]? = some (L, fq) → μ (k + j) = some L) → Rep w M (adR k x) μ v []
  | .agg cs, v, fp, h => by
    simp only [Rep] at h
    obtain ⟨us, rfl, h⟩ := h
    obtain ⟨ls, h1, h2⟩ := ad_repL cs h
    refine ⟨ls, by simpa only [adE, tops] using h1, fun k μ hk => ?_⟩
    simp only [adR, Rep]
    exact ⟨us, rfl, h2 k μ hk⟩
  | .tup cs, v, fp, h => by
    simp only [Rep] at h
    obtain ⟨us, rfl, h⟩ := h
    obtain ⟨ls, h1, h2⟩ := ad_repL cs h
    refine ⟨ls, by simpa only [adE, tops] using h1, fun k μ hk => ?_⟩
    simp only [adR, Rep]
    exact ⟨us, rfl, h2 k μ hk⟩
  | .sl (some T) e n f, v, fp, h => by
    simp only [Rep] at h
    rcases h with ⟨rfl, rfl, rfl⟩ | ⟨b, o, cap, us, fps, rfl, hn, hb, hc, rfl, rfl, cur, hcur, hsz, hcm⟩
    · refine ⟨[(.nil, [])], ⟨rfl, by simp, ?_⟩, ?_⟩
      · intro k e' L fq he hl
        cases k with
        | zero =>
          simp only [adE, List.getElem?_cons_zero, Option.some.injEq, Prod.mk.injEq] at he hl
          obtain ⟨rfl, rfl⟩ := hl
          subst he
          exact ⟨fun μ => ⟨rfl, rfl⟩, by intro b cap h; cases h⟩
        | succ k => simp [adE] at he
      · intro k μ hk
        have := hk 0 .nil [] rfl
        simp only [adR, Rep]
        simp only [Nat.add_zero] at this
        rw [this]
        exact ⟨trivial, trivial, trivial, trivial⟩
    · refine ⟨[(.blk b cap, b :: (List.range n).flatMap fps)], ⟨rfl, by simp, ?_⟩, ?_⟩
      · intro k e' L fq he hl
        cases k with
        | zero =>
          simp only [adE, List.getElem?_cons_zero, Option.some.injEq, Prod.mk.injEq] at he hl
          obtain ⟨rfl, rfl⟩ := hl
          subst he
          refine ⟨fun μ => ⟨cur, us, fps, hcur, hsz, hn, hcm, fun i hi => ?_, rfl⟩, by intro b' cap' h; cases h; simp [tops, topOf]⟩
          obtain ⟨h1, h2, h3⟩ := hc i hi
          exact ⟨h1, h2, by simpa using h3⟩
        | succ k => simp [adE] at he
      · intro k μ hk
        have := hk 0 (.blk b cap) _ rfl
        simp only [adR, Rep]
        simp only [Nat.add_zero] at this
        rw [this]
        exact ⟨trivial, by omega, 0, rfl, .inr (by simp)⟩
  | .sl none e n f, v, fp, h => by
    have hfp := h.fpNil (by intros; simp) (by intros; simp) (by intros; simp)
    subst hfp
    exact ⟨[], ⟨rfl, rfl, by simp [adE]⟩, fun k μ _ => by simpa only [adR] using h.ofNoMap⟩
  | .int k n, v, fp, h => by
    have hfp := h.fpNil (by intros; simp) (by intros; simp) (by intros; simp)
    subst hfp
    exact ⟨[], ⟨rfl, rfl, by simp [adE]⟩, fun k μ _ => by simpa only [adR] using h.ofNoMap⟩
  | .bool k, v, fp, h => by
    have hfp := h.fpNil (by intros; simp) (by intros; simp) (by intros; simp)
    subst hfp
    exact ⟨[], ⟨rfl, rfl, by simp [adE]⟩, fun k μ _ => by simpa only [adR] using h.ofNoMap⟩
  | .str k, v, fp, h => by
    have hfp := h.fpNil (by intros; simp) (by intros; simp) (by intros; simp)
    subst hfp
    exact ⟨[], ⟨rfl, rfl, by simp [adE]⟩, fun k μ _ => by simpa only [adR] using h.ofNoMap⟩
  | .nils, v, fp, h => by
    have hfp := h.fpNil (by intros; simp) (by intros; simp) (by intros; simp)
    subst hfp
    exact ⟨[], ⟨rfl, rfl, by simp [adE]⟩, fun k μ _ => by simpa only [adR] using h.ofNoMap⟩
  | .any, v, fp, h => by
    have hfp := h.fpNil (by intros; simp) (by intros; simp) (by intros; simp)
    subst hfp
    exact ⟨[], ⟨rfl, rfl, by simp [adE]⟩, fun k μ _ => by simpa only [adR] using h.ofNoMap⟩
  | .ref _ _ _ _, v, fp, h => by simp [Rep, noMap] at h
  | .ptr _ _, v, fp, h => by simp [Rep, noMap] at h
  | .pe _ _ _ _, v, fp, h => by simp [Rep, noMap] at h
  | .ep k, v, fp, h => by
    have hfp := h.fpNil (by intros; simp) (by intros; simp) (by intros; simp)
    subst hfp
    exact ⟨[], ⟨rfl, rfl, by simp [adE]⟩, fun k μ _ => by simpa only [adR] using h.ofNoMap⟩
  | .fn k cs, v, fp, h => by
    have hfp := h.fpNil (by intros; simp) (by intros; simp) (by intros; simp)
    subst hfp
    exact ⟨[], ⟨rfl, rfl, by simp [adE]⟩, fun k μ _ => by simpa only [adR] using h.ofNoMap⟩
  | .gd k cs, v, fp, h => by
    have hfp := h.fpNil (by intros; simp) (by intros; simp) (by intros; simp)
    subst hfp
    exact ⟨[], ⟨rfl, rfl, by simp [adE]⟩, fun k μ _ => by simpa only [adR] using h.ofNoMap⟩
theorem ad_repL {w : World} {M : Nat → Prop} : ∀ (xs : List AV) {vs : List Value} {fp : List Nat}, RepL w M xs noMap vs fp →
    ∃ ls, Ad w M (adEL xs) ls fp (topsL xs vs) ∧ ∀ (k : Nat) (μ : Map), (∀ (j : Nat) (L : Loc) (fq : List Nat), ls[j]? = some (L, fq) → μ (k + j) = some L) → RepL w M (adRL k xs) μ vs []
  | [], vs, fp, h => by
    simp only [RepL] at h
    obtain ⟨rfl, rfl⟩ := h
    exact ⟨[], ⟨rfl, rfl, by simp [adEL]⟩, fun k μ _ => by simp [adRL, RepL]⟩
  | x :: xs, vs, fp, h => by
    simp only [RepL] at h
    obtain ⟨u, us', f1, f2, rfl, rfl, h1, h2⟩ := h
    obtain ⟨l1, a1, a2⟩ := ad_rep x h1
    obtain ⟨l2, b1, b2⟩ := ad_repL xs h2
    refine ⟨l1 ++ l2, by simp only [adEL, topsL]; exact a1.append b1, fun k μ hk => ?_⟩
    simp only [adRL, RepL]
    refine ⟨u, us', [], [], rfl, rfl, a2 k μ (fun j L fq hj => hk j L fq ?_), b2 _ μ (fun j L fq hj => ?_)⟩
    · rw [List.getElem?_append_left (List.getElem?_eq_some_iff.1 hj).1]; exact hj
    · have := hk (l1.length + j) L fq (by rw [List.getElem?_append_right (by omega), Nat.add_sub_cancel_left]; exact hj)
      rw [a1.len, ← Nat.add_assoc] at this
      exact this
end
end
end Go.Ab

namespace Go.Ab
open Go

section
variable {P : Program} {c : Ctx} {μ : Map} {FP : Nat → List Nat} {w : World}

theorem hot_lt {h : List Ent} (hW : WR c (Hof h) μ FP w) {b : Nat} (hb : hot c.M0 (Hof h) μ b) : b < w.heap.size := by
  rcases hb with hb | ⟨id, cap, e, hm, he, hl⟩
  · exact Nat.lt_of_lt_of_le (c.cold0 b hb).1 hW.keep.size
  · exact (hW.lt hm he hl).2

theorem nthE_app (h h' : List Ent) (j : Nat) : nthE (h ++ h') j = if j < h.length then nthE h j else nthE h' (j - h.length) := by
  rw [nthE_get, nthE_get, nthE_get]
  split
  · rename_i hj; rw [List.getElem?_append_left hj]
  · rename_i hj; rw [List.getElem?_append_right (by omega)]

theorem flatten_nodup_get {ls : List (Loc × List Nat)} (h : (ls.map (·.2)).flatten.Nodup) : (∀ (k : Nat) (L : Loc) (fq : List Nat), ls[k]? = some (L, fq) → fq.Nodup) ∧
    ∀ (i j : Nat) (L1 : Loc) (f1 : List Nat) (L2 : Loc) (f2 : List Nat), i ≠ j → ls[i]? = some (L1, f1) → ls[j]? = some (L2, f2) → ∀ b, b ∈ f1 → b ∉ f2 := by
  induction ls with
  | nil => simp
  | cons x ls ih =>
    simp only [List.map_cons, List.flatten_cons, List.nodup_append] at h
    obtain ⟨ih1, ih2⟩ := ih h.2.1
    have hmem : ∀ (j : Nat) (L2 : Loc) (f2 : List Nat), ls[j]? = some (L2, f2) → ∀ b, b ∈ f2 → b ∈ (ls.map (·.2)).flatten := fun j L2 f2 hj b hb =>
      List.mem_flatten.2 ⟨f2, List.mem_map.2 ⟨(L2, f2), List.mem_of_getElem? hj, rfl⟩, hb⟩
    constructor
    · intro k L fq hk
      cases k with
      | zero => simp only [List.getElem?_cons_zero, Option.some.injEq] at hk; subst hk; exact h.1
      | succ k => exact ih1 k L fq (by simpa using hk)
    · intro i j L1 f1 L2 f2 hij hi hj b hb hb2
      cases i with
      | zero =>
        simp only [List.getElem?_cons_zero, Option.some.injEq] at hi; subst hi
        cases j with
        | zero => exact hij rfl
        | succ j => exact h.2.2 b hb b (hmem j L2 f2 (by simpa using hj) b hb2) rfl
      | succ i =>
        cases j with
        | zero =>
          simp only [List.getElem?_cons_zero, Option.some.injEq] at hj; subst hj
          exact h.2.2 b hb2 b (hmem i L1 f1 (by simpa using hi) b hb) rfl
        | succ j => exact ih2 i j L1 f1 L2 f2 (by omega) (by simpa using hi) (by simpa using hj) b hb hb2

mutual
theorem tops_fp {w : World} {M : Nat → Prop} : ∀ (x : AV) {μ : Map} {v : Value} {fp : List Nat}, Rep w M x μ v fp → ∀ b, b ∈ tops x v → b ∈ fp
  | .agg cs, μ, v, fp, h, b, hb => by
    simp only [Rep] at h
    obtain ⟨us, rfl, h⟩ := h
    exact tops_fpL cs h b (by simpa only [tops] using hb)
  | .tup cs, μ, v, fp, h, b, hb => by
    simp only [Rep] at h
    obtain ⟨us, rfl, h⟩ := h
    exact tops_fpL cs h b (by simpa only [tops] using hb)
  | .sl (some T) e n f, μ, v, fp, h, b, hb => by
    simp only [Rep] at h
    rcases h with ⟨_, rfl, _⟩ | ⟨b', o, cap, us, fps, rfl, hn, hb', hc, rfl, rfl, _⟩
    · simp [tops, topOf] at hb
    · simp only [tops, topOf, List.mem_singleton] at hb; subst hb; simp
  | .sl none e n f, _, v, _, _, _, hb => by simp [tops, topOf] at hb
  | .int _ _, _, v, _, _, _, hb => by simp [tops, topOf] at hb
  | .bool _, _, v, _, _, _, hb => by simp [tops, topOf] at hb
  | .str _, _, v, _, _, _, hb => by simp [tops, topOf] at hb
  | .nils, _, v, _, _, _, hb => by simp [tops, topOf] at hb
  | .any, _, v, _, _, _, hb => by simp [tops, topOf] at hb
  | .ref .., _, v, _, _, _, hb => by simp [tops, topOf] at hb
  | .ptr .., _, v, _, _, _, hb => by simp [tops, topOf] at hb
  | .pe .., _, v, _, _, _, hb => by simp [tops, topOf] at hb
  | .ep .., _, v, _, _, _, hb => by simp [tops, topOf] at hb
  | .fn .., _, v, _, _, _, hb => by simp [tops, topOf] at hb
  | .gd .., _, v, _, _, _, hb => by simp [tops, topOf] at hb
theorem tops_fpL {w : World} {M : Nat → Prop} : ∀ (xs : List AV) {μ : Map} {vs : List Value} {fp : List Nat}, RepL w M xs μ vs fp → ∀ b, b ∈ topsL xs vs → b ∈ fp
  | [], _, _, _, _, b, hb => by simp [topsL] at hb
  | x :: xs, μ, vs, fp, h, b, hb => by
    simp only [RepL] at h
    obtain ⟨u, us', f1, f2, rfl, rfl, h1, h2⟩ := h
    simp only [topsL, List.mem_append] at hb
    rcases hb with hb | hb
    · exact List.mem_append_left _ (tops_fp x h1 b hb)
    · exact List.mem_append_right _ (tops_fpL xs h2 b hb)
end

theorem call_step {h h1 : List Ent} {f : FuncId} {as : List AV} {r : AV} {vs : List Value} {fpA : List Nat} (hW : WR c (Hof h) μ FP w) (hd : Tail h μ) (Kl : List Nat) (hlen : h1.length = h.length)
    (hk1 : ∀ id, id ∈ Kl → nthE h1 id = some .dead ∧ ∃ e, nthE h id = some e ∧ e.live = true) (hk2 : ∀ id, id ∉ Kl → nthE h1 id = nthE h id)
    {M : Nat → Prop} (hMhot : ∀ b, M b → hot c.M0 (Hof h) μ b) (hA : RepL w (fun b => M b ∨ b ∈ topsL as vs) as noMap vs fpA) (hAn : fpA.Nodup) (hAm : ∀ b, b ∈ fpA → ¬ M b)
    (hAk : ∀ b, b ∈ fpA → ∃ id, id ∈ Kl ∧ b ∈ FP id) (hAt : ∀ b, b ∈ topsL as vs → ∃ id, id ∈ Kl ∧ ∃ cap, μ id = some (.blk b cap))
    (hres : NoBor r ∨ ∀ b, hot c.M0 (Hof h) μ b → M b ∨ ∃ id, id ∈ Kl ∧ ∃ cap, μ id = some (.blk b cap)) (hD : Den P f as r) :
    Calls P f vs.toArray w fun e w' => ∃ v μ', e = .returned v ∧ Next1 c h μ w (h1 ++ adE r) μ' w' ∧ Rep w' (hot c.M0 (Hof (h1 ++ adE r)) μ') (adR h.length r) μ' v [] := by
  refine (hD.2 w M vs fpA hA hAn hAm (fun b hb => hot_lt hW (hMhot b hb))).mono ?_
  rintro e w' ⟨v, fpR, rfl, hK, hr, hRn, hRm, hRt⟩
  generalize hh2 : h1 ++ adE r = h2
  have htopK : ∀ id b cap, id ∈ Kl → μ id = some (.blk b cap) → hot c.M0 (Hof h) μ b ∧ b ∈ FP id := by
    intro id b cap hid hm
    obtain ⟨_, e0, he, hl⟩ := hk1 id hid
    exact ⟨.inr ⟨id, cap, e0, hm, he, hl⟩, (hW.lt hm he hl).1⟩
  have hold : ∀ id, μ id ≠ none → id < h.length := fun id hid => Nat.lt_of_not_le fun hle => hid (hd id hle)
  have hH2old : ∀ id, id < h.length → Hof h2 id = nthE h1 id := by
    intro id hid
    subst hh2
    simp only [Hof, nthE_app]
    rw [if_pos (by omega)]
  have hcoldTop : ∀ b, b ∈ topsL as vs → hot c.M0 (Hof h) μ b := fun b hb => by
    obtain ⟨id, hid, cap, hm⟩ := hAt b hb
    exact (htopK id b cap hid hm).1
  -- live blocks of h1 are not handed over
  have hlive1 : ∀ id b cap e, μ id = some (.blk b cap) → nthE h1 id = some e → e.live = true → hot c.M0 (Hof h) μ b ∧ ∀ id', id' ∈ Kl → ∀ cap', μ id' ≠ some (.blk b cap') := by
    intro id b cap e hm he hl
    have hnk : id ∉ Kl := fun hk => by rw [(hk1 id hk).1] at he; cases he; simp [Ent.live] at hl
    rw [hk2 id hnk] at he
    refine ⟨.inr ⟨id, cap, e, hm, he, hl⟩, fun id' hid' cap' hm' => ?_⟩
    exact hW.disj id id' (fun e => hnk (e ▸ hid')) b (hW.lt hm he hl).1 (htopK id' b cap' hid' hm').2
  -- the result, read where only what is live or comes is hot
  have hrX : Rep w' (fun b => hot c.M0 (Hof h1) μ b ∨ b ∈ tops r v) r noMap v fpR := by
    rcases hres with hnb | hop
    · exact Rep.noBor r hnb hr
    · refine Rep.mono r (Map.le_refl _) ⟨Nat.le_refl _, fun b _ hb hh => hb ?_, fun _ _ _ => rfl⟩ hr
      rcases hh with hh | hh
      · left
        rcases hh with hh | ⟨id, cap, e, hm, he, hl⟩
        · rcases hop b (.inl hh) with h1 | ⟨id, hid, cap, hm⟩
          · exact h1
          · exfalso
            have h2 := (htopK id b cap hid hm).2
            have h3 := c.cold0 b hh
            rcases (hW.new id b h2).1 with h4 | h4
            · exact h3.2 h4
            · omega
        · have hl1 := hlive1 id b cap e hm he hl
          rcases hop b hl1.1 with h1 | ⟨id', hid', cap', hm'⟩
          · exact h1
          · exact absurd hm' (hl1.2 id' hid' cap')
      · exact .inr (tops_fp r hr b hh)
  obtain ⟨ls, hAd, hAdR⟩ := ad_rep r hrX
  have hlsn := flatten_nodup_get (ls := ls) (by rw [← hAd.fps]; exact hRn)
  let μ' : Map := fun i => if i < h.length then μ i else (ls[i - h.length]?).map (·.1)
  let FP' : Nat → List Nat := fun i => if i < h.length then (if i ∈ Kl then [] else FP i) else ((ls[i - h.length]?).map (·.2)).getD []
  have hμold : ∀ i, i < h.length → μ' i = μ i := fun i hi => by simp only [μ', if_pos hi]
  have hμnew : ∀ i, h.length ≤ i → μ' i = (ls[i - h.length]?).map (·.1) := fun i hi => by simp only [μ']; rw [if_neg (by omega)]
  have hFold : ∀ i, i < h.length → FP' i = if i ∈ Kl then [] else FP i := fun i hi => by simp only [FP', if_pos hi]
  have hFnew : ∀ i, h.length ≤ i → FP' i = ((ls[i - h.length]?).map (·.2)).getD [] := fun i hi => by simp only [FP']; rw [if_neg (by omega)]
  have hHnew : ∀ i, h.length ≤ i → Hof h2 i = (adE r)[i - h.length]? := by
    intro i hi
    subst hh2
    simp only [Hof, nthE_app]
    rw [if_neg (by omega), nthE_get, hlen]
  have hKold : ∀ id, id ∈ Kl → id < h.length := fun id hid => by obtain ⟨_, e, he, _⟩ := hk1 id hid; exact nthE_lt he
  have hle : μ.le μ' := fun i L hi => by rw [hμold i (hold i (by simp [hi]))]; exact hi
  have hlsE : ∀ (k : Nat) (L : Loc) (fq : List Nat), ls[k]? = some (L, fq) → ∃ e, (adE r)[k]? = some e := by
    intro k L fq hk
    have : k < (adE r).length := by rw [← hAd.len]; exact (List.getElem?_eq_some_iff.1 hk).1
    exact ⟨_, List.getElem?_eq_getElem this⟩
  have hfpR : ∀ (k : Nat) (L : Loc) (fq : List Nat), ls[k]? = some (L, fq) → ∀ b, b ∈ fq → b ∈ fpR := fun k L fq hk b hb => by
    rw [hAd.fps]
    exact List.mem_flatten.2 ⟨fq, List.mem_map.2 ⟨(L, fq), List.mem_of_getElem? hk, rfl⟩, hb⟩
  -- what is hot behind the call
  have hhot' : ∀ b, hot c.M0 (Hof h2) μ' b → hot c.M0 (Hof h1) μ b ∨ b ∈ tops r v := by
    intro b hb
    rcases hb with hb | ⟨id, cap, e, hm, he, hl⟩
    · exact .inl (.inl hb)
    · by_cases hid : id < h.length
      · rw [hμold id hid] at hm
        rw [hH2old id hid] at he
        exact .inl (.inr ⟨id, cap, e, hm, he, hl⟩)
      · rw [hμnew id (by omega)] at hm
        rw [hHnew id (by omega)] at he
        cases hls : ls[id - h.length]? with
        | none => simp [hls] at hm
        | some p =>
          obtain ⟨L, fq⟩ := p
          simp only [hls, Option.map_some, Option.some.injEq] at hm
          subst hm
          exact .inr ((hAd.ok _ e _ fq he hls).2 b cap rfl)
  have hup := WR.update (H' := Hof h2) (μ' := μ') (FP' := FP') (w' := w') (fun i => i ∈ Kl) [] hW (Free.nil _ _ _) hK.os hK.tape hK.output hK.size
    (by
      intro b hb
      by_cases hbt : b ∈ topsL as vs
      · obtain ⟨id, hid, cap, hm⟩ := hAt b hbt
        exact .inr ⟨(htopK id b cap hid hm).1, id, hid, (htopK id b cap hid hm).2⟩
      · exact .inl (hK.block b hb hbt))
    hle
    (by
      intro i hi hk
      rw [hH2old i (hold i hi), hk2 i hk]; rfl)
    (by
      intro i hi hk
      rw [hFold i (hold i hi), if_neg hk])
    (by
      intro i L hi hL
      by_cases hid : i < h.length
      · rw [hμold i hid] at hL
        rcases hi with hi | hi
        · rw [hi] at hL; cases hL
        · exact ⟨.dead, by rw [hH2old i hid]; exact (hk1 i hi).1, by rw [hFold i hid, if_pos hi]; rfl⟩
      · rw [hμnew i (by omega)] at hL
        cases hls : ls[i - h.length]? with
        | none => simp [hls] at hL
        | some p =>
          obtain ⟨L', fq⟩ := p
          simp only [hls, Option.map_some, Option.some.injEq] at hL
          subst hL
          obtain ⟨e, he⟩ := hlsE _ _ _ hls
          refine ⟨e, by rw [hHnew i (by omega)]; exact he, ?_⟩
          rw [hFnew i (by omega), hls]
          simp only [Option.map_some, Option.getD_some]
          exact EntOK.mono (Map.le_refl _) ⟨Nat.le_refl _, fun b _ hb hh => hb (hhot' b hh), fun _ _ _ => rfl⟩ (fun b hb => (hRm b (hfpR _ _ _ hls b hb)).2) ((hAd.ok _ e _ fq he hls).1 μ'))
    (by
      intro i b cap e hi hm he hl
      by_cases hid : i < h.length
      · rw [hμold i hid] at hm
        rcases hi with hi | hi
        · rw [hi] at hm; cases hm
        · rw [hH2old i hid, (hk1 i hi).1] at he; cases he; simp [Ent.live] at hl
      · have hb : hot c.M0 (Hof h2) μ' b := .inr ⟨i, cap, e, hm, he, hl⟩
        rw [hμnew i (by omega)] at hm
        rw [hHnew i (by omega)] at he
        cases hls : ls[i - h.length]? with
        | none => simp [hls] at hm
        | some p =>
          obtain ⟨L, fq⟩ := p
          simp only [hls, Option.map_some, Option.some.injEq] at hm
          subst hm
          have := (hAd.ok _ e _ fq he hls).2 b cap rfl
          rcases hRt b this with h3 | h3
          · exact .inl (hcoldTop b h3)
          · exact .inr h3)
    (by
      intro i b hi hb
      by_cases hid : i < h.length
      · rw [hFold i hid] at hb
        split at hb
        · simp at hb
        · rename_i hk
          rw [hW.out i (hi.resolve_right hk)] at hb; simp at hb
      · rw [hFnew i (by omega)] at hb
        cases hls : ls[i - h.length]? with
        | none => simp [hls] at hb
        | some p =>
          obtain ⟨L, fq⟩ := p
          simp only [hls, Option.map_some, Option.getD_some] at hb
          have h3 := hRm b (hfpR _ _ _ hls b hb)
          rcases h3.1 with h4 | h4
          · obtain ⟨id, hid', hF⟩ := hAk b h4
            exact .inl ⟨id, hid', hF⟩
          · exact .inr (.inl ⟨h4, h3.2⟩))
    (by
      intro i hi
      by_cases hid : i < h.length
      · rw [hμold i hid] at hi
        rw [hFold i hid]
        split
        · rfl
        · exact hW.out i hi
      · rw [hμnew i (by omega)] at hi
        rw [hFnew i (by omega)]
        cases hls : ls[i - h.length]? with
        | none => rfl
        | some p => simp [hls] at hi)
    (by
      intro i _
      by_cases hid : i < h.length
      · rw [hFold i hid]
        split
        · simp
        · exact hW.nodup i
      · rw [hFnew i (by omega)]
        cases hls : ls[i - h.length]? with
        | none => simp
        | some p => obtain ⟨L, fq⟩ := p; exact hlsn.1 _ L fq hls)
    (by
      have hempty : ∀ i, i < h.length → (μ i = none ∨ i ∈ Kl) → FP' i = [] := by
        intro i hid hi
        rw [hFold i hid]
        split
        · rfl
        · rename_i hk; exact hW.out i (hi.resolve_right hk)
      intro i j hij hi hj b hbi hbj
      by_cases hid : i < h.length
      · rw [hempty i hid hi] at hbi; simp at hbi
      · by_cases hjd : j < h.length
        · rw [hempty j hjd hj] at hbj; simp at hbj
        · rw [hFnew i (by omega)] at hbi
          rw [hFnew j (by omega)] at hbj
          cases hli : ls[i - h.length]? with
          | none => simp [hli] at hbi
          | some p =>
            cases hlj : ls[j - h.length]? with
            | none => simp [hlj] at hbj
            | some q =>
              obtain ⟨L1, f1⟩ := p
              obtain ⟨L2, f2⟩ := q
              simp only [hli, hlj, Option.map_some, Option.getD_some] at hbi hbj
              exact hlsn.2 _ _ L1 f1 L2 f2 (by omega) hli hlj b hbi hbj)
  refine ⟨v, μ', rfl, ⟨⟨FP', hup.1⟩, ?_, hup.2⟩, ?_⟩
  · intro i hi
    subst hh2
    rw [List.length_append, hlen] at hi
    rw [hμnew i (by omega), List.getElem?_eq_none (by rw [hAd.len]; omega)]
    rfl
  · refine Rep.mono _ (Map.le_refl _) ⟨Nat.le_refl _, fun b _ hb hh => hb (hhot' b hh), fun _ _ _ => rfl⟩ (hAdR h.length μ' ?_)
    intro j L fq hj
    rw [hμnew _ (by omega), Nat.add_sub_cancel_left, hj]
    rfl
end
end Go.Ab

namespace Go.Ab
open Go

structure St where
  t : List (Nat × AV)
  h : List Ent

def strip (g : List Bool) : AV → AV × List Prop
  | .gd gs y => (y, [g.take gs.length = gs])
  | y => (y, [])

def allT (g : List Bool) : Prop := ∀ b ∈ g, b = true

def impG : List Bool → Prop → Prop
  | [], p => p
  | b :: g, p => b = true → impG g p

def impL (g : List Bool) (ps : List Prop) : List Prop :=
  match g with
  | [] => ps
  | _ => [impG g (allP ps)]

def wrapG (g : List Bool) (x : AV) : AV :=
  match g with
  | [] => x
  | _ => .gd g x

def put (t : List (Nat × AV)) (d : Option Nat) (x : AV) : List (Nat × AV) :=
  match d with
  | some d => (d, x) :: t
  | none => t

def opsOf (op : Op) : List Operand := op.operands.toList

def stripObs (g : List Bool) (t : List (Nat × AV)) : List Operand → List Prop
  | [] => []
  | x :: xs => (strip g (opnd t x)).2 ++ stripObs g t xs

def al (g : List Bool) (t : List (Nat × AV)) (x : Operand) : AV := (strip g (opnd t x)).1

def guardOf (all : Array Oper) (t : List (Nat × AV)) : Option (Nat × Bool) → Option (List Bool)
  | none => some []
  | some (j, want) => match all[j]? with
    | some o => match o.dst with
      | some d => match get t d with
        | .bool b => some [bif want then b else !b]
        | .gd gs (.bool b) => some (gs ++ [bif want then b else !b])
        | _ => none
      | none => none
    | none => none

def pickA (g : List Bool) (t : List (Nat × AV)) (c a b : Operand) : Option (AV × List Prop) :=
  match strip g (opnd t c) with
  | (.bool bc, o1) => match strip (g ++ [bc]) (opnd t a), strip (g ++ [!bc]) (opnd t b) with
    | (.bool p, o2), (.bool q, o3) => some (.bool (bif bc then p else q), o1 ++ (impL [bc] o2 ++ impL [!bc] o3))
    | _, _ => none
  | _ => none

def evalN (Γ : Env) (h : List Ent) (α : Operand → AV) (op : Op) : NewR :=
  match op with
  | .box _ x => boxA h (α x)
  | .alloc t => allocA Γ h t
  | .buildSlice t n parts => buildSA Γ h t n (parts.toList.map fun p => (p.1, α p.2))
  | .makeSlice t l c => makeSA Γ h t (α l) (α c)
  | .call c => match c.callee, c.args.toList, c.argTypes.toList with
    | .builtin .append, [x, y], [t, t'] => if t = t' then appendA Γ h t (α x) (α y) else none
    | _, _, _ => none
  | _ => none

section
variable {P : Program} {Γ : Env} {c : Ctx} {μ : Map} {FP : Nat → List Nat} {w : World} {M : Nat → Prop}

theorem impG_iff (g : List Bool) (p : Prop) : impG g p ↔ (allT g → p) := by
  induction g with
  | nil => simp [impG, allT]
  | cons b g ih =>
    simp only [impG, ih, allT, List.mem_cons, forall_eq_or_imp]
    exact ⟨fun h ⟨h1, h2⟩ => h h1 h2, fun h h1 h2 => h ⟨h1, h2⟩⟩

theorem impL_iff (g : List Bool) (ps : List Prop) : allP (impL g ps) ↔ (allT g → allP ps) := by
  unfold impL
  split
  · simp [allT]
  · simp only [allP, and_true, impG_iff]

theorem strip_rep {g : List Bool} {x : AV} {v : Value} (hg : allT g) (hx : Rep w M x μ v []) (ho : allP (strip g x).2) : Rep w M (strip g x).1 μ v [] := by
  unfold strip at ho ⊢
  split
  · rename_i gs y
    simp only at ho
    simp only [Rep] at hx
    refine hx.2.1 ?_
    intro b hb
    rw [← ho.1] at hb
    exact hg b (List.mem_of_mem_take hb)
  · exact hx

theorem stripObs_mem {g : List Bool} {t : List (Nat × AV)} : ∀ {l : List Operand}, allP (stripObs g t l) → ∀ x ∈ l, allP (strip g (opnd t x)).2
  | [], _ => by simp
  | y :: l, h => by
    simp only [stripObs] at h
    obtain ⟨h1, h2⟩ := allP_append.1 h
    intro x hx
    rcases List.mem_cons.1 hx with rfl | hx
    · exact h1
    · exact stripObs_mem h2 x hx

def TR (c : Ctx) (s : St) (μ : Map) (w : World) (a : Act) : Prop :=
  (∀ i, Rep w (hot c.M0 (Hof s.h) μ) (get s.t i) μ (a.tmps.getD i undef) []) ∧ a.tmps.size = c.nt ∧ a.defers = []

def WRs (c : Ctx) (s : St) (a : Act) (w : World) : Prop := ∃ μ FP, WR c (Hof s.h) μ FP w ∧ Tail s.h μ ∧ TR c s μ w a

theorem avOf_rep (v : Value) : Rep w M (avOf v) μ v [] := by
  unfold avOf
  split <;> simp [Rep]

theorem avOf_repL (l : List Value) : RepL w M (l.map avOf) μ l [] := by
  induction l with
  | nil => simp [RepL]
  | cons v l ih => simp only [List.map_cons, RepL]; exact ⟨v, l, [], [], rfl, rfl, avOf_rep v, ih⟩

theorem opnd_rep {s : St} {a : Act} (hT : TR c s μ w a) (x : Operand) : Rep w (hot c.M0 (Hof s.h) μ) (opnd s.t x) μ (a.eval x) [] := by
  cases x with
  | tmp i => exact hT.1 i
  | const v =>
    show Rep w _ (avOf' v) μ v []
    unfold avOf'
    split
    · rename_i cs
      simp only [Rep]
      exact ⟨cs.toList, by simp, avOf_repL _⟩
    · exact avOf_rep v
  | func f =>
    simp only [opnd, Act.eval, Rep]
    exact ⟨trivial, [], rfl, by simp [RepL]⟩
  | global g => simp [opnd, Rep]

theorem get_put (t : List (Nat × AV)) (d : Nat) (x : AV) (i : Nat) : get (put t (some d) x) i = if i = d then x else get t i := by
  simp only [put, get]
  cases h : Nat.beq i d with
  | true => rw [if_pos (Nat.eq_of_beq_eq_true h)]; rfl
  | false =>
    rw [if_neg]
    · rfl
    · intro e
      subst e
      simp at h

theorem TR.put {s : St} {a : Act} {h' : List Ent} {μ' : Map} {w' : World} (hT : TR c s μ w a) (ht : Trans c.M0 (Hof s.h) μ w (Hof h') μ' w') {d : Option Nat} (hd : ∀ i, d = some i → i < c.nt) {x : AV} {v : Value}
    (hx : Rep w' (hot c.M0 (Hof h') μ') x μ' v []) : TR c ⟨put s.t d x, h'⟩ μ' w' (a.put d v) := by
  cases d with
  | none => exact ⟨fun i => ht.rep (hT.1 i), hT.2⟩
  | some d =>
    refine ⟨fun i => ?_, by simpa [Act.put] using hT.2.1, by simpa [Act.put] using hT.2.2⟩
    have hlt : d < a.tmps.size := by rw [hT.2.1]; exact hd d rfl
    rw [get_put]
    by_cases hi : i = d
    · subst hi
      rw [if_pos rfl]
      have : (a.put (some i) v).tmps.getD i undef = v := by simp [Act.put, hlt]
      rw [this]
      exact hx
    · rw [if_neg hi]
      have : (a.put (some d) v).tmps.getD i undef = a.tmps.getD i undef := by
        simp only [Act.put, Array.getD_eq_getD_getElem?]
        rw [Array.getElem?_setIfInBounds_ne (fun e => hi e.symm)]
      rw [this]
      exact ht.rep (hT.1 i)

theorem guard_wanted {all : Array Oper} {s : St} {a : Act} {o : Oper} {g : List Bool} (hT : TR c s μ w a) (hg : guardOf all s.t o.guard = some g) : Region.wanted o (yielded all a.tmps) = true ↔ allT g := by
  unfold Region.wanted
  cases hgd : o.guard with
  | none =>
    rw [hgd] at hg
    simp only [guardOf, Option.some.injEq] at hg
    subst hg
    simp [allT]
  | some p =>
    obtain ⟨j, want⟩ := p
    rw [hgd] at hg
    simp only [guardOf] at hg
    cases hj : all[j]? with
    | none => simp [hj] at hg
    | some oj =>
      simp only [hj] at hg
      cases hd : oj.dst with
      | none => simp [hd] at hg
      | some d =>
        simp only [hd] at hg
        have hrep := hT.1 d
        have key : ∀ b : Bool, a.tmps.getD d undef = .bool b → yielded all a.tmps j = some b := by
          intro b hb
          have hlt : d < a.tmps.size := by
            rcases Nat.lt_or_ge d a.tmps.size with h | h
            · exact h
            · rw [Array.getD_eq_getD_getElem?, Array.getElem?_eq_none h] at hb
              simp [undef] at hb
          have h2 : a.tmps[d]? = some (.bool b) := by
            rw [Array.getD_eq_getD_getElem?, Array.getElem?_eq_getElem hlt] at hb
            rw [Array.getElem?_eq_getElem hlt]
            exact congrArg some hb
          simp [yielded, hj, hd, h2]
        have keyn : a.tmps.getD d undef = undef → yielded all a.tmps j = none := by
          intro hb
          unfold yielded
          simp only [hj, Option.bind_some, hd]
          cases h2 : a.tmps[d]? with
          | none => rfl
          | some v =>
            rw [Array.getD_eq_getD_getElem?, h2] at hb
            simp only [Option.getD_some] at hb
            subst hb
            rfl
        split at hg
        · rename_i b hgt
          simp only [Option.some.injEq] at hg
          subst hg
          rw [hgt] at hrep
          simp only [key b hrep.val_bool]
          cases b <;> cases want <;> simp [allT]
        · rename_i gs b hgt
          simp only [Option.some.injEq] at hg
          subst hg
          rw [hgt] at hrep
          simp only [Rep] at hrep
          by_cases hgs : ∀ b ∈ gs, b = true
          · have h1 := (hrep.2.1 hgs).1
            simp only [key b h1]
            have : allT (gs ++ [bif want then b else !b]) ↔ (bif want then b else !b) = true := by
              simp only [allT, List.mem_append, List.mem_singleton]
              exact ⟨fun h => h _ (.inr rfl), fun h x hx => hx.elim (hgs x) (fun e => e ▸ h)⟩
            rw [this]
            cases b <;> cases want <;> simp
          · have h1 := keyn (hrep.2.2 hgs)
            simp only [h1]
            have : ¬ allT (gs ++ [bif want then b else !b]) := fun h => hgs fun x hx => h x (List.mem_append_left _ hx)
            simp [this]
        · simp at hg
end
end Go.Ab

namespace Go.Ab
open Go

/-- what the walk knows of the callees: the result at arguments that read as `xs`, whether the caller takes it as settled (no entry), and what must hold -/
abbrev Dn := FuncId → List AV → Option (AV × Bool × List Prop)

def DOk (P : Program) (D : Dn) : Prop := ∀ f xs r z ob, D f xs = some (r, z, ob) → allP ob → Den P f xs r

mutual
def noId : AV → Bool
  | .ref .. => false
  | .ptr .. => false
  | .pe .. => false
  | .agg cs => noIdL cs
  | .tup cs => noIdL cs
  | .fn _ cs => noIdL cs
  | .sl (some _) _ _ _ => false
  | .gd _ _ => false
  | .any => false
  | _ => true
def noIdL : List AV → Bool
  | [] => true
  | x :: xs => match noId x with
    | true => noIdL xs
    | false => false
end

def deadB : List Ent → Bool
  | [] => true
  | .dead :: h => deadB h
  | _ :: _ => false

def callA (D : Dn) (h : List Ent) (f : FuncId) (xs : List AV) : Option (AV × List Ent × List Prop) :=
  match mapO (snapC h 8) xs with
  | some (ys, o1) => match D f ys with
    | some (r, z, o2) => match z with
      | true => some (borrow r, [], o1 ++ (o2 ++ [NoBor r ∨ deadB h = true ∨ noIdL xs = true]))
      | false => some (adR h.length r, adE r, o1 ++ (o2 ++ [NoBor r ∨ deadB h = true ∨ noIdL xs = true]))
    | none => none
  | none => none

section
variable {P : Program} {Γ : Env} {c : Ctx} {μ : Map} {FP : Nat → List Nat} {w : World}

theorem WR.grow {h : List Ent} (hW : WR c (Hof h) μ FP w) {w' : World} (hg : Grow w w') : WR c (Hof h) μ FP w' ∧ Trans c.M0 (Hof h) μ w (Hof h) μ w' :=
  WR.update (fun _ => False) [] hW (Free.nil _ _ _) hg.os hg.tape hg.output hg.size (fun b hb => .inl (hg.block b hb)) (Map.le_refl _) (fun _ _ _ => rfl) (fun _ _ _ => rfl)
    (fun i L hi hL => by have hi := hi.resolve_right id; rw [hi] at hL; cases hL)
    (fun i b cap e hi hm => by have hi := hi.resolve_right id; rw [hi] at hm; cases hm)
    (fun i b hi hb => by have hi := hi.resolve_right id; rw [hW.out i hi] at hb; simp at hb)
    hW.out (fun i _ => hW.nodup i) (fun i j hij _ _ => hW.disj i j hij)

mutual
theorem noId_rep {w : World} {M : Nat → Prop} : ∀ (x : AV) {μ : Map} {v : Value}, noId x = true → Rep w M x μ v [] → Rep w M x noMap v []
  | .int _ _, _, _, _, h => by simpa only [Rep] using h
  | .bool _, _, _, _, h => by simpa only [Rep] using h
  | .str _, _, _, _, h => by simpa only [Rep] using h
  | .nils, _, _, _, h => by simpa only [Rep] using h
  | .any, _, _, hn, _ => by simp [noId] at hn
  | .ref .., _, _, hn, _ => by simp [noId] at hn
  | .ptr .., _, _, hn, _ => by simp [noId] at hn
  | .pe .., _, _, hn, _ => by simp [noId] at hn
  | .gd .., _, _, hn, _ => by simp [noId] at hn
  | .sl (some _) _ _ _, _, _, hn, _ => by simp [noId] at hn
  | .sl none _ _ _, _, _, _, h => by simpa only [Rep] using h
  | .ep _, _, _, _, h => by simpa only [Rep] using h
  | .agg cs, μ, v, hn, h => by
    simp only [Rep, noId] at h hn ⊢
    obtain ⟨us, e, h⟩ := h
    exact ⟨us, e, noId_repL cs hn h⟩
  | .tup cs, μ, v, hn, h => by
    simp only [Rep, noId] at h hn ⊢
    obtain ⟨us, e, h⟩ := h
    exact ⟨us, e, noId_repL cs hn h⟩
  | .fn f cs, μ, v, hn, h => by
    simp only [Rep, noId] at h hn ⊢
    obtain ⟨e0, us, e, h⟩ := h
    exact ⟨e0, us, e, noId_repL cs hn h⟩
theorem noId_repL {w : World} {M : Nat → Prop} : ∀ (xs : List AV) {μ : Map} {us : List Value}, noIdL xs = true → RepL w M xs μ us [] → RepL w M xs noMap us []
  | [], _, _, _, h => by simpa only [RepL] using h
  | x :: xs, μ, us, hn, h => by
    simp only [RepL, noIdL] at h hn ⊢
    cases hx : noId x with
    | false => simp [hx] at hn
    | true =>
      simp only [hx] at hn
      obtain ⟨u, us', f1, f2, e1, e2, h1, h2⟩ := h
      obtain ⟨rfl, rfl⟩ := List.append_eq_nil_iff.1 e2.symm
      exact ⟨u, us', [], [], e1, rfl, noId_rep x hx h1, noId_repL xs hn h2⟩
end

mutual
theorem noId_snap {h : List Ent} : ∀ (d : Nat) (x y : AV) (ob : List Prop), noId x = true → snapC h d x = some (y, ob) → y = x
  | 0, x, y, ob, _, hs => by simp [snapC] at hs
  | d + 1, x, y, ob, hn, hs => by
    have ih := noId_snapL (h := h) d
    cases x with
    | sl own e n f =>
      cases own with
      | none => simp only [snapC, Option.some.injEq, Prod.mk.injEq] at hs; exact hs.1.symm
      | some T => simp [noId] at hn
    | agg cs =>
      simp only [noId, snapC] at hn hs
      cases hm : mapO (snapC h d) cs with
      | none => simp [hm] at hs
      | some p =>
        simp only [hm, Option.some.injEq, Prod.mk.injEq] at hs
        rw [← hs.1, ih cs p.1 p.2 hn (by rw [hm])]
    | fn f cs =>
      simp only [noId, snapC] at hn hs
      cases hm : mapO (snapC h d) cs with
      | none => simp [hm] at hs
      | some p =>
        simp only [hm, Option.some.injEq, Prod.mk.injEq] at hs
        rw [← hs.1, ih cs p.1 p.2 hn (by rw [hm])]
    | int _ _ => simp only [snapC, Option.some.injEq, Prod.mk.injEq] at hs; exact hs.1.symm
    | bool _ => simp only [snapC, Option.some.injEq, Prod.mk.injEq] at hs; exact hs.1.symm
    | str _ => simp only [snapC, Option.some.injEq, Prod.mk.injEq] at hs; exact hs.1.symm
    | nils => simp only [snapC, Option.some.injEq, Prod.mk.injEq] at hs; exact hs.1.symm
    | ep _ => simp only [snapC, Option.some.injEq, Prod.mk.injEq] at hs; exact hs.1.symm
    | tup _ => simp [snapC] at hs
    | gd _ _ => simp [noId] at hn
    | any => simp [noId] at hn
    | ref _ _ _ _ => simp [noId] at hn
    | ptr _ _ => simp [noId] at hn
    | pe _ _ _ _ => simp [noId] at hn
theorem noId_snapL {h : List Ent} : ∀ (d : Nat) (xs ys : List AV) (ob : List Prop), noIdL xs = true → mapO (snapC h d) xs = some (ys, ob) → ys = xs
  | d, [], ys, ob, _, hs => by simp only [mapO, Option.some.injEq, Prod.mk.injEq] at hs; exact hs.1.symm
  | d, x :: xs, ys, ob, hn, hs => by
    simp only [noIdL, mapO] at hn hs
    cases hx : noId x with
    | false => simp [hx] at hn
    | true =>
      simp only [hx] at hn
      cases h1 : snapC h d x with
      | none => simp [h1] at hs
      | some p =>
        simp only [h1] at hs
        cases h2 : mapO (snapC h d) xs with
        | none => simp [h2] at hs
        | some q =>
          simp only [h2, Option.some.injEq, Prod.mk.injEq] at hs
          rw [← hs.1, noId_snap d x p.1 p.2 hx (by rw [h1]), noId_snapL d xs q.1 q.2 hn (by rw [h2])]
end

theorem deadB_hot {h : List Ent} (hd : deadB h = true) : ∀ (id : Nat) (e : Ent), nthE h id = some e → e.live = false := by
  induction h with
  | nil => intro id e he; simp [nthE] at he
  | cons x h ih =>
    intro id e he
    cases x with
    | dead =>
      simp only [deadB] at hd
      rw [nthE_get] at he
      cases id with
      | zero => simp at he; subst he; rfl
      | succ id => exact ih hd id e (by rw [nthE_get]; simpa using he)
    | box _ => simp [deadB] at hd
    | arr _ _ _ _ => simp [deadB] at hd

theorem callA_sound {h es : List Ent} {D : Dn} {f : FuncId} {xs : List AV} {x : AV} {ob : List Prop} {vs : List Value} (hD : DOk P D) (hW : WR c (Hof h) μ FP w) (hd : Tail h μ)
    (he : callA D h f xs = some (x, es, ob)) (ho : allP ob) (hx : RepL w (hot c.M0 (Hof h) μ) xs μ vs []) :
    FnOk P f ∧ Calls P f vs.toArray w fun e w' => ∃ v μ', e = .returned v ∧ Next1 c h μ w (h ++ es) μ' w' ∧ Rep w' (hot c.M0 (Hof (h ++ es)) μ') x μ' v [] := by
  unfold callA at he
  cases hm : mapO (snapC h 8) xs with
  | none => simp [hm] at he
  | some p =>
    obtain ⟨ys, o1⟩ := p
    simp only [hm] at he
    cases hDf : D f ys with
    | none => simp [hDf] at he
    | some q =>
      obtain ⟨r, z, o2⟩ := q
      simp only [hDf] at he
      have ho' : allP o1 ∧ allP o2 ∧ (NoBor r ∨ deadB h = true ∨ noIdL xs = true) := by
        cases z <;> simp only [Option.some.injEq, Prod.mk.injEq] at he <;> obtain ⟨_, _, rfl⟩ := he <;>
          exact ⟨(allP_append.1 ho).1, (allP_append.1 (allP_append.1 ho).2).1, ((allP_append.1 (allP_append.1 ho).2).2).1⟩
      obtain ⟨ho1, ho2, ho3⟩ := ho'
      have hden := hD f ys r z o2 hDf ho2
      refine ⟨hden.1, ?_⟩
      -- the blocks that stay hot for the callee
      have key : ∃ M : Nat → Prop, (∀ b, M b → hot c.M0 (Hof h) μ b) ∧ RepL w M ys noMap vs [] ∧ (NoBor r ∨ ∀ b, hot c.M0 (Hof h) μ b → M b) := by
        have hcl : RepL w c.M0 ys noMap vs [] := mapO_rep (snapC_sound hW (h1 := h) (M' := c.M0) (fun b hb => .inl hb) (fun _ _ h _ => h)
          (fun id b cap e hmu hid hl hb => by
            have h1 := hW.lt hmu hid hl
            have h2 := c.cold0 b hb
            rcases (hW.new id b h1.1).1 with h3 | h3
            · exact h2.2 h3
            · omega) 8) hm ho1 hx
        rcases ho3 with h1 | h1 | h1
        · exact ⟨c.M0, fun b hb => .inl hb, hcl, .inl h1⟩
        · refine ⟨c.M0, fun b hb => .inl hb, hcl, .inr fun b hb => ?_⟩
          rcases hb with hb | ⟨id, cap, e, hmu, hid, hl⟩
          · exact hb
          · rw [deadB_hot h1 id e hid] at hl; cases hl
        · refine ⟨hot c.M0 (Hof h) μ, fun b hb => hb, ?_, .inr fun b hb => hb⟩
          rw [noId_snapL 8 xs ys o1 h1 hm]
          exact noId_repL xs h1 hx
      obtain ⟨M, hMh, hys, hres⟩ := key
      have htop : topsL ys vs = [] := by
        apply List.eq_nil_iff_forall_not_mem.2
        intro b hb
        have := tops_fpL ys hys b hb
        simp at this
      have hys2 : RepL w (fun b => M b ∨ b ∈ topsL ys vs) ys noMap vs [] := by
        rw [htop]; simpa using hys
      cases z with
      | false =>
        simp only [Option.some.injEq, Prod.mk.injEq] at he
        obtain ⟨rfl, rfl, _⟩ := he
        exact call_step hW hd [] (h1 := h) rfl (by simp) (by simp) hMh hys2 (by simp) (by simp) (by simp) (by rw [htop]; simp)
          (hres.imp id (fun h b hb => .inl (h b hb))) hden
      | true =>
        simp only [Option.some.injEq, Prod.mk.injEq] at he
        obtain ⟨rfl, rfl, _⟩ := he
        refine (hden.2 w M vs [] hys2 (by simp) (by simp) (fun b hb => hot_lt hW (hMh b hb))).mono ?_
        rintro e w' ⟨v, fpR, rfl, hK, hr, hRn, hRm, hRt⟩
        rw [htop] at hK
        have hg : Grow w w' := ⟨hK.os, hK.tape, hK.output, hK.size, fun k hk => hK.block k hk (by simp)⟩
        obtain ⟨hW', hT'⟩ := hW.grow hg
        have hcold : ∀ b, b ∈ fpR → ¬ hot c.M0 (Hof h) μ b := by
          intro b hb hh
          have h1 := hot_lt hW hh
          have h2 := (hRm b hb).1
          simp at h2
          omega
        have hr2 : Rep w' (hot c.M0 (Hof h) μ) r noMap v fpR := by
          rcases hres with hnb | hop
          · exact Rep.noBor r hnb hr
          · exact Rep.mono r (Map.le_refl _) ⟨Nat.le_refl _, fun b _ hb hh => hb (.inl (hop b hh)), fun _ _ _ => rfl⟩ hr
        refine ⟨v, μ, rfl, ?_, ?_⟩
        · rw [List.append_nil]
          exact ⟨⟨FP, hW'⟩, hd, hT'⟩
        · rw [List.append_nil]
          exact (borrow_rep r hcold hr2).ofNoMap
end
end Go.Ab

namespace Go.Ab
open Go

def callOf : Op → Option (Operand × List Operand)
  | .call c => match c.callee with
    | .value f => some (f, c.args.toList)
    | _ => none
  | _ => none

def stepC (D : Dn) (g : List Bool) (t : List (Nat × AV)) (h : List Ent) (fop : Operand) (args : List Operand) : NewR :=
  match al g t fop with
  | .fn f caps => match callA D h f (args.map (al g t) ++ caps) with
    | some (x, es, ob) => match g, es with
      | [], es => some (x, h ++ es, stripObs [] t (fop :: args) ++ ob)
      | b :: g', [] => some (.gd (b :: g') x, h, impL (b :: g') (stripObs (b :: g') t (fop :: args) ++ ob))
      | _, _ => none
    | none => none
  | _ => none

def stepE (Γ : Env) (g : List Bool) (t : List (Nat × AV)) (h : List Ent) (op : Op) : NewR :=
  match evalP Γ h (al g t) op with
  | some (x, ob) => some (wrapG g x, h, impL g (stripObs g t (opsOf op) ++ ob))
  | none => match g with
    | [] => match evalN Γ h (al [] t) op with
      | some (x, h', ob) => some (x, h', stripObs [] t (opsOf op) ++ ob)
      | none => none
    | _ => none

/-- one operation of a region, read: the result, the heap, what must hold -/
def stepA (Γ : Env) (D : Dn) (all : Array Oper) (t : List (Nat × AV)) (h : List Ent) (o : Oper) : NewR :=
  match guardOf all t o.guard with
  | none => none
  | some g => match o.op with
    | .pick c a b => match pickA g t c a b with
      | some (x, ob) => some (wrapG g x, h, impL g ob)
      | none => none
    | .store t' a x => match g, o.dst with
      | [], none => match storeA Γ h t' (al [] t a) (al [] t x) with
        | some (h', ob) => some (.any, h', stripObs [] t [a, x] ++ ob)
        | none => none
      | _, _ => none
    | op => match callOf op with
      | some (fop, args) => stepC D g t h fop args
      | none => stepE Γ g t h op

section
variable {P : Program} {Γ : Env} {D : Dn} {c : Ctx} {s : St} {μ : Map} {FP : Nat → List Nat} {w : World} {a : Act} {all : Array Oper} {o : Oper}

/-- what one operation brings -/
def Brought (c : Ctx) (s : St) (μ : Map) (w : World) (a : Act) (dst : Option Nat) (x : AV) (h' : List Ent) (a' : Act) (w' : World) : Prop :=
  ∃ v μ', a' = a.put dst v ∧ Next1 c s.h μ w h' μ' w' ∧ Rep w' (hot c.M0 (Hof h') μ') x μ' v []

theorem allT_wrap {M : Nat → Prop} {g : List Bool} {x : AV} {v : Value} (hg : allT g) (h : Rep w M x μ v []) : Rep w M (wrapG g x) μ v [] := by
  unfold wrapG
  split
  · exact h
  · simp only [Rep]
    exact ⟨trivial, fun _ => h, fun hn => absurd hg hn⟩

theorem not_wrap {M : Nat → Prop} {g : List Bool} {x : AV} (hg : ¬ allT g) : Rep w M (wrapG g x) μ undef [] := by
  unfold wrapG
  split
  · exact absurd (by simp [allT]) hg
  · simp only [Rep]
    exact ⟨trivial, fun h => absurd h hg, fun _ => trivial⟩

theorem Next1.same {h : List Ent} (hW : WR c (Hof h) μ FP w) (hd : Tail h μ) : Next1 c h μ w h μ w := ⟨⟨FP, hW⟩, hd, Trans.refl _ _ _ _⟩

theorem al_rep (hT : TR c s μ w a) {g : List Bool} (hg : allT g) {x : Operand} (ho : allP (strip g (opnd s.t x)).2) : Rep w (hot c.M0 (Hof s.h) μ) (al g s.t x) μ (a.eval x) [] :=
  strip_rep hg (opnd_rep hT x) ho

theorem run_value {ρ : Operand → Value} {z : Value} {w' : World} {K : Act → World → Prop} {Q : Exit → Act → World → Prop} (h : (execOp ρ o).run P w = .ok (.value z) w') (he : a.eval = ρ) (hK : K (a.put o.dst z) w') :
    o.wp P a w K Q := by
  subst he
  unfold Oper.wp
  rw [h]
  exact hK

theorem pick_run {g : List Bool} {cc x y : Operand} {r : AV} {ob : List Prop} (hT : TR c s μ w a) (hg : allT g) (he : pickA g s.t cc x y = some (r, ob)) (ho : allP ob) :
    ∃ z, (do pure (Next.value (if ← asBool (a.eval cc) then a.eval x else a.eval y)) : Sem Next).run P w = .ok (.value z) w ∧ Rep w (hot c.M0 (Hof s.h) μ) r μ z [] := by
  unfold pickA at he
  split at he
  · rename_i bc o1 hc
    split at he
    · rename_i p o2 q o3 hp hq
      simp only [Option.some.injEq, Prod.mk.injEq] at he
      obtain ⟨rfl, rfl⟩ := he
      obtain ⟨ho1, ho23⟩ := allP_append.1 ho
      obtain ⟨ho2, ho3⟩ := allP_append.1 ho23
      have hcr := strip_rep hg (opnd_rep hT cc) (by rw [hc]; exact ho1)
      rw [hc] at hcr
      have hcv := hcr.val_bool
      rw [impL_iff] at ho2 ho3
      cases bc with
      | true =>
        have h1 := strip_rep (g := g ++ [true]) (by intro b hb; rcases List.mem_append.1 hb with hb | hb; exact hg b hb; simpa using hb) (opnd_rep hT x) (by rw [hp]; exact ho2 (by simp [allT]))
        rw [hp] at h1
        refine ⟨a.eval x, ?_, by simpa using h1⟩
        rw [hcv]
        simp [asBool]
      | false =>
        have h1 := strip_rep (g := g ++ [!false]) (by intro b hb; rcases List.mem_append.1 hb with hb | hb; exact hg b hb; simpa using hb) (opnd_rep hT y) (by rw [hq]; exact ho3 (by simp [allT]))
        rw [hq] at h1
        refine ⟨a.eval y, ?_, by simpa using h1⟩
        rw [hcv]
        simp [asBool]
    · simp at he
  · simp at he

theorem evalN_sound (hΓ : TyOk P Γ) {h h' : List Ent} {α : Operand → AV} {ρ : Operand → Value} {r : AV} {ob : List Prop} (hW : WR c (Hof h) μ FP w) (hd : Tail h μ)
    (he : evalN Γ h α o.op = some (r, h', ob)) (ho : allP ob) (hρ : ∀ x, x ∈ o.op.operands.toList → Rep w (hot c.M0 (Hof h) μ) (α x) μ (ρ x) []) :
    ∃ z μ' w', (execOp ρ o).run P w = .ok (.value z) w' ∧ Next1 c h μ w h' μ' w' ∧ Rep w' (hot c.M0 (Hof h') μ') r μ' z [] := by
  have lift : ∀ {s : Sem Value} {z : Value} {w' : World}, s.run P w = .ok z w' → (do pure (Next.value (← s)) : Sem Next).run P w = .ok (.value z) w' := by
    intro s z w' hs
    rw [Sem.run_bind, hs]; rfl
  obtain ⟨dst, op, type, pos, after, guard⟩ := o
  simp only at he hρ
  unfold evalN at he
  split at he
  · rename_i T x
    obtain ⟨z, μ', w', h1, h2, h3⟩ := boxA_sound (P := P) hW hd he (hρ x (by simp [Op.operands])) T
    exact ⟨z, μ', w', by simp only [execOp]; exact lift h1, h2, h3⟩
  · rename_i T
    obtain ⟨z, μ', w', h1, h2, h3⟩ := allocA_sound (P := P) hΓ hW hd he
    exact ⟨z, μ', w', by simp only [execOp]; exact lift h1, h2, h3⟩
  · rename_i T n parts
    have hr := repL_map (M := hot c.M0 (Hof h) μ) (μ := μ) (w := w) (α := α) (ρ := ρ) (l := parts.toList.map (·.2)) (by
      intro x hx
      exact hρ x (by simpa [Op.operands] using hx))
    obtain ⟨z, μ', w', h1, h2, h3⟩ := buildSA_sound (P := P) (vals := parts.toList.map fun p => (p.1, ρ p.2)) hΓ hW hd he ho (by simp) (by simpa [List.map_map, Function.comp_def] using hr)
    refine ⟨z, μ', w', ?_, h2, h3⟩
    simp only [execOp]
    have e : (parts.map fun x => match x with | (i, x) => (i, ρ x)) = (parts.toList.map fun p => (p.1, ρ p.2)).toArray := by
      apply Array.ext'
      simp
    rw [e]
    exact lift h1
  · rename_i T l cc
    obtain ⟨z, μ', w', h1, h2, h3⟩ := makeSA_sound (P := P) hΓ hW hd he ho (hρ l (by simp [Op.operands])) (hρ cc (by simp [Op.operands]))
    exact ⟨z, μ', w', by simp only [execOp]; exact lift h1, h2, h3⟩
  · rename_i cl
    split at he
    · rename_i x y t t' hcal hargs hts
      split at he
      · rename_i htt
        subst htt
        have hxm : Rep w (hot c.M0 (Hof h) μ) (α x) μ (ρ x) [] := hρ x (by simp [Op.operands, Call.operands, hcal, hargs])
        have hym : Rep w (hot c.M0 (Hof h) μ) (α y) μ (ρ y) [] := hρ y (by simp [Op.operands, Call.operands, hcal, hargs])
        obtain ⟨z, μ', w', h1, h2, h3⟩ := appendA_sound (P := P) (ty := type) hΓ hW hd he ho hxm hym
        refine ⟨z, μ', w', ?_, h2, h3⟩
        have ea : cl.args.map ρ = #[ρ x, ρ y] := by apply Array.ext'; simp [hargs]
        have et : cl.argTypes = #[t, t] := by apply Array.ext'; simpa using hts
        simp only [execOp, resolve, hcal, Sem.run_bind, Sem.run_pure, Result.andThen_ok, invoke, builtin, ea, et]
        rw [h1]; rfl
      · simp at he
    · simp at he
  · simp at he
end
end Go.Ab

namespace Go.Ab
open Go

section
variable {P : Program} {Γ : Env} {D : Dn} {c : Ctx} {s : St} {μ : Map} {FP : Nat → List Nat} {w : World} {a : Act} {all : Array Oper} {o : Oper} {Q : Exit → Act → World → Prop}

theorem RepL.app {M : Nat → Prop} : ∀ {xs ys : List AV} {us vs : List Value}, RepL w M xs μ us [] → RepL w M ys μ vs [] → RepL w M (xs ++ ys) μ (us ++ vs) []
  | [], ys, us, vs, h1, h2 => by
    simp only [RepL] at h1
    rw [h1.1]; simpa using h2
  | x :: xs, ys, us, vs, h1, h2 => by
    simp only [RepL, List.cons_append] at h1 ⊢
    obtain ⟨u, us', f1, f2, rfl, e2, h3, h4⟩ := h1
    obtain ⟨rfl, rfl⟩ := List.append_eq_nil_iff.1 e2.symm
    exact ⟨u, us' ++ vs, [], [], rfl, rfl, h3, RepL.app h4 h2⟩

theorem al_reps (hT : TR c s μ w a) {g : List Bool} (hg : allT g) : ∀ {l : List Operand}, allP (stripObs g s.t l) → ∀ x ∈ l, Rep w (hot c.M0 (Hof s.h) μ) (al g s.t x) μ (a.eval x) [] :=
  fun h x hx => al_rep hT hg (stripObs_mem h x hx)

theorem stepE_run (hΓ : TyOk P Γ) (hW : WR c (Hof s.h) μ FP w) (hd : Tail s.h μ) (hT : TR c s μ w a) {g : List Bool} (hg : allT g) {x : AV} {h' : List Ent} {ob : List Prop}
    (he : stepE Γ g s.t s.h o.op = some (x, h', ob)) (ho : allP ob) : o.wp P a w (Brought c s μ w a o.dst x h') Q := by
  unfold stepE at he
  split at he
  · rename_i y ob' hev
    simp only [Option.some.injEq, Prod.mk.injEq] at he
    obtain ⟨rfl, rfl, rfl⟩ := he
    rw [impL_iff] at ho
    obtain ⟨ho1, ho2⟩ := allP_append.1 (ho hg)
    obtain ⟨z, h1, h2⟩ := evalP_sound hΓ hW (h := s.h) (fun i _ he _ => he) hev ho2 (ρ := a.eval) (al_reps hT hg ho1)
    exact run_value h1 rfl ⟨z, μ, rfl, Next1.same hW hd, allT_wrap hg h2⟩
  · split at he
    · split at he
      · rename_i y h'' ob' hev
        simp only [Option.some.injEq, Prod.mk.injEq] at he
        obtain ⟨rfl, rfl, rfl⟩ := he
        obtain ⟨ho1, ho2⟩ := allP_append.1 ho
        obtain ⟨z, μ', w', h1, h2, h3⟩ := evalN_sound (P := P) hΓ hW hd hev ho2 (ρ := a.eval) (al_reps hT hg ho1)
        exact run_value h1 rfl ⟨z, μ', rfl, h2, h3⟩
      · simp at he
    · simp at he

theorem stepC_run (hD : DOk P D) (hW : WR c (Hof s.h) μ FP w) (hd : Tail s.h μ) (hT : TR c s μ w a) {g : List Bool} (hg : allT g) {x : AV} {h' : List Ent} {ob : List Prop} {fop : Operand} {args : List Operand}
    (hc : callOf o.op = some (fop, args)) (he : stepC D g s.t s.h fop args = some (x, h', ob)) (ho : allP ob) : o.wp P a w (Brought c s μ w a o.dst x h') Q := by
  unfold stepC at he
  split at he
  · rename_i f caps hf
    split at he
    · rename_i y es ob' hcl
      have main : allP (stripObs g s.t (fop :: args)) → allP ob' → o.wp P a w (Brought c s μ w a o.dst y (s.h ++ es)) Q := by
        intro ho1 ho2
        have hr := al_reps hT hg ho1
        have hfr := hr fop (by simp)
        rw [hf] at hfr
        simp only [Rep] at hfr
        obtain ⟨_, us, hfv, hus⟩ := hfr
        have has := repL_map (M := hot c.M0 (Hof s.h) μ) (μ := μ) (w := w) (α := al g s.t) (ρ := a.eval) (l := args) (fun z hz => hr z (by simp [hz]))
        have hall := RepL.app has hus
        obtain ⟨hok, hcalls⟩ := callA_sound hD hW hd hcl ho2 hall
        obtain ⟨fn, hfn, hname, hbody⟩ := hok
        have hrun : (execOp a.eval o).run P w = .ok (.enter f (args.map a.eval ++ us).toArray) w := by
          unfold callOf at hc
          split at hc
          · rename_i cl hop
            split at hc
            · rename_i fo hcal
              simp only [Option.some.injEq, Prod.mk.injEq] at hc
              obtain ⟨rfl, rfl⟩ := hc
              simp only [execOp, hop, resolve, hcal, hfv, Deferred.ofValue, Sem.run_bind, Sem.run_pure, Result.andThen_ok, invoke, callFunc, run_program, hfn, hname, hbody]
              have e : #[] ++ cl.args.map a.eval ++ us.toArray = (cl.args.toList.map a.eval ++ us).toArray := by
                apply Array.ext'
                simp
              simp
            · simp at hc
          · simp at hc
        unfold Oper.wp
        rw [hrun]
        show Calls P f _ w _
        refine hcalls.mono ?_
        rintro e w' ⟨v, μ', rfl, h1, h2⟩
        exact ⟨v, μ', rfl, h1, h2⟩
      split at he
      · simp only [Option.some.injEq, Prod.mk.injEq] at he
        obtain ⟨rfl, rfl, rfl⟩ := he
        obtain ⟨ho1, ho2⟩ := allP_append.1 ho
        exact main ho1 ho2
      · simp only [Option.some.injEq, Prod.mk.injEq] at he
        obtain ⟨rfl, rfl, rfl⟩ := he
        rw [impL_iff] at ho
        obtain ⟨ho1, ho2⟩ := allP_append.1 (ho hg)
        refine Oper.wp_mono ?_ (main ho1 ho2)
        rintro a' w' ⟨v, μ', h1, h2, h3⟩
        rw [List.append_nil] at h2 h3
        exact ⟨v, μ', h1, h2, allT_wrap (g := _ :: _) hg h3⟩
      · simp at he
    · simp at he
  · simp at he

/-- ONE OPERATION RUNS AS IT IS READ -/
theorem op_run (hΓ : TyOk P Γ) (hD : DOk P D) (hW : WR c (Hof s.h) μ FP w) (hd : Tail s.h μ) (hT : TR c s μ w a) {x : AV} {h' : List Ent} {ob : List Prop}
    (he : stepA Γ D all s.t s.h o = some (x, h', ob)) (ho : allP ob) :
    if Region.wanted o (yielded all a.tmps) then o.wp P a w (Brought c s μ w a o.dst x h') Q else Brought c s μ w a o.dst x h' (a.put o.dst undef) w := by
  unfold stepA at he
  cases hgd : guardOf all s.t o.guard with
  | none => simp [hgd] at he
  | some g =>
    simp only [hgd] at he
    have hwant := guard_wanted hT hgd
    split
    · rename_i hwt
      have hg := hwant.1 hwt
      split at he
      · rename_i cc y z hop
        split at he
        · rename_i r ob' hp
          simp only [Option.some.injEq, Prod.mk.injEq] at he
          obtain ⟨rfl, rfl, rfl⟩ := he
          rw [impL_iff] at ho
          obtain ⟨v, h1, h2⟩ := pick_run (P := P) hT hg hp (ho hg)
          exact run_value (by simp only [execOp, hop]; exact h1) rfl ⟨v, μ, rfl, Next1.same hW hd, allT_wrap hg h2⟩
        · simp at he
      · rename_i t' y z hop
        split at he
        · rename_i hdst
          split at he
          · rename_i h'' ob' hst
            simp only [Option.some.injEq, Prod.mk.injEq] at he
            obtain ⟨rfl, rfl, rfl⟩ := he
            obtain ⟨ho1, ho2⟩ := allP_append.1 ho
            have hr := al_reps hT hg ho1
            obtain ⟨w', h1, h2⟩ := storeA_sound (P := P) hΓ hW hd hst ho2 (hr y (by simp)) (hr z (by simp))
            unfold Oper.wp
            have hrun : (execOp a.eval o).run P w = .ok .skip w' := by
              simp only [execOp, hop]
              rw [Sem.run_bind, h1]; rfl
            rw [hrun]
            show Brought c s μ w a o.dst .any h'' (a.put o.dst undef) w'
            exact ⟨undef, μ, rfl, h2, by simp [Rep]⟩
          · simp at he
        · simp at he
      · split at he
        · rename_i fop args hc
          exact stepC_run hD hW hd hT hg hc he ho
        · exact stepE_run hΓ hW hd hT hg he ho
    · rename_i hwt
      have hg : ¬ allT g := fun h => hwt (hwant.2 h)
      have same : ∀ {y : AV}, x = wrapG g y → h' = s.h → Brought c s μ w a o.dst x h' (a.put o.dst undef) w := by
        rintro y rfl rfl
        exact ⟨undef, μ, rfl, Next1.same hW hd, not_wrap hg⟩
      have hne : g ≠ [] := by rintro rfl; exact hg (by simp [allT])
      split at he
      · split at he
        · simp only [Option.some.injEq, Prod.mk.injEq] at he
          exact same he.1.symm he.2.1.symm
        · simp at he
      · split at he
        · exact absurd rfl hne
        · simp at he
      · split at he
        · unfold stepC at he
          split at he
          · split at he
            · split at he
              · exact absurd rfl hne
              · simp only [Option.some.injEq, Prod.mk.injEq] at he
                exact same he.1.symm he.2.1.symm
              · simp at he
            · simp at he
          · simp at he
        · unfold stepE at he
          split at he
          · simp only [Option.some.injEq, Prod.mk.injEq] at he
            exact same he.1.symm he.2.1.symm
          · split at he
            · exact absurd rfl hne
            · simp at he
end
end Go.Ab

namespace Go.Ab
open Go

def stepQ (Γ : Env) (D : Dn) (all : Array Oper) (t : List (Nat × AV)) (h : List Ent) (o : Oper) : Option (AV × List Prop) :=
  match guardOf all t o.guard with
  | none => none
  | some g => match o.op with
    | .pick c a b => match pickA g t c a b with
      | some (x, ob) => some (wrapG g x, impL g ob)
      | none => none
    | .store _ _ _ => none
    | op => match callOf op with
      | some (fop, args) => match al g t fop with
        | .fn f caps => match callA D h f (args.map (al g t) ++ caps) with
          | some (x, [], ob) => some (wrapG g x, impL g (stripObs g t (fop :: args) ++ ob))
          | _ => none
        | _ => none
      | none => match evalP Γ h (al g t) op with
        | some (x, ob) => some (wrapG g x, impL g (stripObs g t (opsOf op) ++ ob))
        | none => none

theorem allP_impL_nil {ps : List Prop} : allP (impL [] ps) ↔ allP ps := by rw [impL_iff]; simp [allT]

theorem stepA_other {Γ : Env} {D : Dn} {all : Array Oper} {t : List (Nat × AV)} {h : List Ent} {o : Oper} {g : List Bool} (hgd : guardOf all t o.guard = some g)
    (hn1 : ∀ c a b, o.op = .pick c a b → False) (hn2 : ∀ t a x, o.op = .store t a x → False) :
    stepA Γ D all t h o = (match callOf o.op with | some (fop, args) => stepC D g t h fop args | none => stepE Γ g t h o.op) := by
  obtain ⟨dst, op, type, pos, after, guard⟩ := o
  simp only at hgd hn1 hn2
  unfold stepA
  simp only [hgd]
  all_goals cases op
  all_goals first
    | rfl
    | exact absurd rfl (hn1 _ _ _)
    | exact absurd rfl (hn2 _ _ _)

theorem stepQ_stepA {Γ : Env} {D : Dn} {all : Array Oper} {t : List (Nat × AV)} {h : List Ent} {o : Oper} {x : AV} {ob : List Prop} (hq : stepQ Γ D all t h o = some (x, ob)) :
    ∃ ob', stepA Γ D all t h o = some (x, h, ob') ∧ (allP ob → allP ob') := by
  unfold stepQ at hq
  cases hgd : guardOf all t o.guard with
  | none => simp [hgd] at hq
  | some g =>
    simp only [hgd] at hq
    split at hq
    · rename_i c a b hop
      split at hq
      · rename_i y ob' hp
        simp only [Option.some.injEq, Prod.mk.injEq] at hq
        obtain ⟨rfl, rfl⟩ := hq
        exact ⟨impL g ob', by unfold stepA; simp only [hgd, hop, hp], id⟩
      · simp at hq
    · simp at hq
    · rename_i hn1 hn2
      rw [stepA_other hgd hn1 hn2]
      split at hq
      · rename_i fop args hc
        split at hq
        · rename_i f caps hf
          split at hq
          · rename_i y ob' hcl
            simp only [Option.some.injEq, Prod.mk.injEq] at hq
            obtain ⟨rfl, rfl⟩ := hq
            cases g with
            | nil => exact ⟨stripObs [] t (fop :: args) ++ ob', by simp [stepC, hf, hcl, wrapG], fun h => allP_impL_nil.1 h⟩
            | cons b g => exact ⟨_, by simp only [stepC, hf, hcl, wrapG], id⟩
          · simp at hq
        · simp at hq
      · split at hq
        · rename_i y ob' hev
          simp only [Option.some.injEq, Prod.mk.injEq] at hq
          obtain ⟨rfl, rfl⟩ := hq
          exact ⟨_, by simp only [stepE, hev], id⟩
        · simp at hq

def Agree (l : List Nat) (t t' : List (Nat × AV)) : Prop := ∀ i, i ∈ l → get t i = get t' i

theorem opnd_agree {l : List Nat} {t t' : List (Nat × AV)} (ha : Agree l t t') {x : Operand} (hx : ∀ i, x = .tmp i → i ∈ l) : opnd t x = opnd t' x := by
  cases x with
  | tmp i => exact ha i (hx i rfl)
  | const v => rfl
  | func f => rfl
  | global g => rfl

theorem stripObs_agree {l : List Nat} {t t' : List (Nat × AV)} (ha : Agree l t t') (g : List Bool) : ∀ {xs : List Operand}, (∀ x ∈ xs, ∀ i, x = .tmp i → i ∈ l) → stripObs g t xs = stripObs g t' xs
  | [], _ => rfl
  | x :: xs, hx => by
    have h1 := stripObs_agree ha g (xs := xs) fun y hy => hx y (List.mem_cons_of_mem _ hy)
    simp only [stripObs, opnd_agree ha (hx x (by simp)), h1]

theorem evalP_congr {Γ : Env} {h : List Ent} {α β : Operand → AV} {op : Op} (ha : ∀ x, x ∈ op.operands.toList → α x = β x) : evalP Γ h α op = evalP Γ h β op := by
  cases op
  case call cl =>
    simp only [evalP, evalC]
    cases hcal : cl.callee with
    | builtin b =>
      have : cl.args.toList.map α = cl.args.toList.map β := List.map_congr_left fun x hx => ha x (by simp [Op.operands, Call.operands, hcal, hx])
      simp only [this]
    | value f => rfl
    | invoke r n => rfl
  case build t parts =>
    simp only [evalP]
    have : (parts.toList.map fun p => (p.1, α p.2)) = (parts.toList.map fun p => (p.1, β p.2)) := List.map_congr_left fun p hp => by
      rw [ha p.2 (by simp only [Op.operands]; exact List.mem_map.2 ⟨p, hp, rfl⟩)]
    rw [this]
  case makeFunc fn fst caps =>
    simp only [evalP]
    have : caps.toList.map α = caps.toList.map β := List.map_congr_left fun x hx => ha x (by simp only [Op.operands, Array.toList_append]; exact List.mem_append_right _ hx)
    rw [this]
  case slice t x lo hi mx =>
    cases mx with
    | none =>
      simp only [evalP]
      have h1 : α x = β x := ha x (by simp [Op.operands])
      have h2 : omap α lo = omap β lo := by
        cases lo with
        | none => rfl
        | some y => simp only [omap]; rw [ha y (by simp [Op.operands])]
      have h3 : omap α hi = omap β hi := by
        cases hi with
        | none => rfl
        | some y => simp only [omap]; rw [ha y (by simp [Op.operands])]
      rw [h1, h2, h3]
    | some m => rfl
  all_goals first
    | rfl
    | (simp only [Op.operands] at ha
       simp only [evalP]
       simp [ha])

theorem mem_looks_op {all : Array Oper} {o : Oper} {x : Operand} (hx : x ∈ o.op.operands.toList) (i : Nat) (he : x = .tmp i) : i ∈ o.looksAt all := by
  subst he
  unfold Oper.looksAt
  apply List.mem_append_left
  rw [List.mem_filterMap]
  exact ⟨_, hx, rfl⟩

theorem guardOf_agree {all : Array Oper} {o : Oper} {t t' : List (Nat × AV)} (ha : Agree (o.looksAt all) t t') : guardOf all t o.guard = guardOf all t' o.guard := by
  cases hg : o.guard with
  | none => rfl
  | some p =>
    obtain ⟨j, want⟩ := p
    simp only [guardOf]
    cases hj : all[j]? with
    | none => rfl
    | some oj =>
      simp only
      cases hd : oj.dst with
      | none => rfl
      | some d =>
        simp only
        rw [ha d (by
          unfold Oper.looksAt
          apply List.mem_append_right
          simp [hg, hj, hd])]

theorem stepQ_agree {Γ : Env} {D : Dn} {all : Array Oper} {t t' : List (Nat × AV)} {h : List Ent} {o : Oper} (ha : Agree (o.looksAt all) t t') : stepQ Γ D all t h o = stepQ Γ D all t' h o := by
  have hop : ∀ x ∈ o.op.operands.toList, ∀ i, x = .tmp i → i ∈ o.looksAt all := fun x hx i he => mem_looks_op hx i he
  have hal : ∀ g x, x ∈ o.op.operands.toList → al g t x = al g t' x := fun g x hx => by
    unfold al
    rw [opnd_agree ha (hop x hx)]
  unfold stepQ
  rw [guardOf_agree ha]
  cases hgd : guardOf all t' o.guard with
  | none => rfl
  | some g =>
    simp only
    split
    · rename_i c a b hope
      have h1 : ∀ x, x = c ∨ x = a ∨ x = b → opnd t x = opnd t' x := fun x hx => opnd_agree ha (hop x (by rw [hope]; simpa [Op.operands] using hx))
      have : pickA g t c a b = pickA g t' c a b := by
        unfold pickA
        rw [h1 c (by simp), h1 a (by simp), h1 b (by simp)]
      rw [this]
    · rfl
    · have hst : stripObs g t (opsOf o.op) = stripObs g t' (opsOf o.op) := stripObs_agree ha g hop
      have hev : evalP Γ h (al g t) o.op = evalP Γ h (al g t') o.op := evalP_congr fun x hx => hal g x hx
      cases hc : callOf o.op with
      | none =>
        simp only
        rw [hev, hst]
      | some p =>
        obtain ⟨fop, args⟩ := p
        have hmem : ∀ x, x ∈ fop :: args → x ∈ o.op.operands.toList := by
          intro x hx
          unfold callOf at hc
          split at hc
          · rename_i cl hope
            split at hc
            · rename_i fo hcal
              simp only [Option.some.injEq, Prod.mk.injEq] at hc
              obtain ⟨rfl, rfl⟩ := hc
              rw [hope]
              simpa [Op.operands, Call.operands, hcal] using hx
            · simp at hc
          · simp at hc
        simp only
        rw [hal g fop (hmem fop (by simp)), stripObs_agree ha g (xs := fop :: args) (fun x hx => hop x (hmem x hx)),
          List.map_congr_left (f := al g t) (g := al g t') (l := args) fun x hx => hal g x (hmem x (by simp [hx]))]
end Go.Ab

namespace Go.Ab
open Go

def runA (Γ : Env) (D : Dn) (all : Array Oper) : List Oper → List (Nat × AV) → List Ent → Option (List (Nat × AV) × List Ent × List Prop)
  | [], t, h => some (t, h, [])
  | o :: os, t, h => match stepA Γ D all t h o with
    | some (x, h', ob) => match runA Γ D all os (put t o.dst x) h' with
      | some (t'', h'', ob') => some (t'', h'', ob ++ ob')
      | none => none
    | none => none

def runQ (Γ : Env) (D : Dn) (all : Array Oper) (h : List Ent) : List Oper → List (Nat × AV) → Option (List (Nat × AV) × List Prop)
  | [], t => some (t, [])
  | o :: os, t => match stepQ Γ D all t h o with
    | some (x, ob) => match runQ Γ D all h os (put t o.dst x) with
      | some (t', ob') => some (t', ob ++ ob')
      | none => none
    | none => none

def dstOk (nt : Nat) (ops : List Oper) : Bool := ops.all fun o => match o.dst with
  | some d => Nat.blt d nt
  | none => true

section
variable {P : Program} {Γ : Env} {D : Dn} {c : Ctx} {s : St} {μ : Map} {FP : Nat → List Nat} {w : World} {a : Act} {all : Array Oper} {o : Oper} {Q : Exit → Act → World → Prop}

theorem Brought.wrs {x : AV} {h' : List Ent} {a' : Act} {w' : World} (hT : TR c s μ w a) (hd : ∀ d, o.dst = some d → d < c.nt) (hb : Brought c s μ w a o.dst x h' a' w') : WRs c ⟨put s.t o.dst x, h'⟩ a' w' := by
  obtain ⟨v, μ', rfl, hN, hx⟩ := hb
  obtain ⟨FP', hW⟩ := hN.wr
  exact ⟨μ', FP', hW, hN.tail, TR.put hT hN.tr hd hx⟩

/-- one operation, from state to state -/
theorem op_step (hΓ : TyOk P Γ) (hD : DOk P D) (hs : WRs c s a w) {x : AV} {h' : List Ent} {ob : List Prop} (he : stepA Γ D all s.t s.h o = some (x, h', ob)) (ho : allP ob)
    (hd : ∀ d, o.dst = some d → d < c.nt) {K : Act → World → Prop} (hK : ∀ a w, WRs c ⟨put s.t o.dst x, h'⟩ a w → K a w) :
    if Region.wanted o (yielded all a.tmps) then o.wp P a w K Q else K (a.put o.dst undef) w := by
  obtain ⟨μ, FP, hW, hdd, hT⟩ := hs
  have h := op_run (Q := Q) hΓ hD hW hdd hT he ho
  split
  · rename_i hw
    rw [if_pos hw] at h
    exact Oper.wp_mono (fun a' w' hb => hK a' w' (Brought.wrs hT hd hb)) h
  · rename_i hw
    rw [if_neg hw] at h
    exact hK _ _ (Brought.wrs hT hd h)

theorem dstOk_cons {nt : Nat} {o : Oper} {os : List Oper} (h : dstOk nt (o :: os) = true) : (∀ d, o.dst = some d → d < nt) ∧ dstOk nt os = true := by
  simp only [dstOk, List.all_cons, Bool.and_eq_true] at h
  refine ⟨fun d hd => ?_, h.2⟩
  have := h.1
  rw [hd] at this
  simpa using this

theorem list_step (hΓ : TyOk P Γ) (hD : DOk P D) : ∀ {os : List Oper} {s : St} {a : Act} {w : World} {t' : List (Nat × AV)} {h' : List Ent} {ob : List Prop}, WRs c s a w → runA Γ D all os s.t s.h = some (t', h', ob) → allP ob →
    dstOk c.nt os = true → (∀ a w, WRs c ⟨t', h'⟩ a w → Q .normal a w) → wpList P all Q os a w
  | [], s, a, w, t', h', ob, hs, hr, ho, hd, hQ => by
    simp only [runA, Option.some.injEq, Prod.mk.injEq] at hr
    obtain ⟨rfl, rfl, _⟩ := hr
    exact hQ a w hs
  | o :: os, s, a, w, t', h', ob, hs, hr, ho, hd, hQ => by
    simp only [runA] at hr
    cases h1 : stepA Γ D all s.t s.h o with
    | none => simp [h1] at hr
    | some p =>
      obtain ⟨x, h2, ob1⟩ := p
      simp only [h1] at hr
      cases h3 : runA Γ D all os (put s.t o.dst x) h2 with
      | none => simp [h3] at hr
      | some q =>
        obtain ⟨t3, h3', ob3⟩ := q
        simp only [h3, Option.some.injEq, Prod.mk.injEq] at hr
        obtain ⟨rfl, rfl, rfl⟩ := hr
        obtain ⟨ho1, ho2⟩ := allP_append.1 ho
        have hd' := dstOk_cons hd
        refine wpList_step fun K hK => ?_
        have h4 := op_step (Q := Q) (K := K) hΓ hD hs h1 ho1 hd'.1 (fun a' w' hs' => hK a' w' (list_step hΓ hD (s := ⟨put s.t o.dst x, h2⟩) hs' h3 ho2 hd'.2 hQ))
        exact h4

/-- A REGION IN THE ORDER OF ITS TEXT -/
theorem region_seq (hΓ : TyOk P Γ) (hD : DOk P D) {id : Nat} {ops : Array Oper} {t' : List (Nat × AV)} {h' : List Ent} {ob : List Prop} (hs : WRs c s a w) (hr : runA Γ D ops ops.toList s.t s.h = some (t', h', ob)) (ho : allP ob)
    (hd : dstOk c.nt ops.toList = true) (hQ : ∀ a w, WRs c ⟨t', h'⟩ a w → Q .normal a w) : (Code.region id ops false).wp P Q a w :=
  wp_region_list (list_step hΓ hD hs hr ho hd hQ)
end
end Go.Ab

namespace Go.Ab
open Go

def dirB (ops : Array Oper) (k j : Nat) : Bool := match ops[k]? with
  | some o => o.after.any fun e => Region.binds .any e && Nat.beq e.on j
  | none => false

def reachB (ops : Array Oper) : Nat → Nat → Nat → Bool
  | 0, k, j => dirB ops k j
  | f + 1, k, j => dirB ops k j || (List.range k).any fun l => dirB ops k l && reachB ops f l j

def early (ops : Array Oper) (m i : Nat) (o : Oper) : Bool :=
  (match o.dst with
    | some d => !(o.looksAt ops).contains d
    | none => true) &&
  (List.range m).all fun j => Nat.beq j i || match ops[j]? with
    | some oj => match oj.dst with
      | some d => (o.dst != some d) && (!(o.looksAt ops).contains d || (Nat.blt j i && dirB ops i j))
      | none => true
    | none => true

/-- the first m operations may come in any order that their edges leave, the others come in the order of the text -/
def checkAny (ops : Array Oper) (m : Nat) : Bool :=
  Nat.ble m ops.size && (List.range ops.size).all fun i => match ops[i]? with
    | none => false
    | some o => (o.after.all fun e => !Region.binds .any e || Nat.blt e.on i) && (bif Nat.blt i m then early ops m i o else (List.range i).all fun j => reachB ops 3 i j)

structure AnyOk (ops : Array Oper) (m : Nat) : Prop where
  le : m ≤ ops.size
  back : ∀ (i : Nat) (o : Oper), ops[i]? = some o → ∀ e ∈ o.after, Region.binds .any e = true → e.on < i
  own : ∀ (i : Nat) (o : Oper), ops[i]? = some o → i < m → ∀ d, o.dst = some d → d ∉ o.looksAt ops
  apart : ∀ (i j : Nat) (o oj : Oper) (d : Nat), ops[i]? = some o → ops[j]? = some oj → i < m → j < m → j ≠ i → oj.dst = some d → o.dst ≠ some d ∧ (d ∈ o.looksAt ops → j < i ∧ dirB ops i j = true)
  late : ∀ i, m ≤ i → i < ops.size → ∀ j, j < i → reachB ops 3 i j = true

theorem checkAny_ok {ops : Array Oper} {m : Nat} (h : checkAny ops m = true) : AnyOk ops m := by
  simp only [checkAny, Bool.and_eq_true, List.all_eq_true, List.mem_range] at h
  obtain ⟨hm, h⟩ := h
  have hi : ∀ (i : Nat) (o : Oper), ops[i]? = some o → (o.after.all fun e => !Region.binds .any e || Nat.blt e.on i) = true ∧ (bif Nat.blt i m then early ops m i o else (List.range i).all fun j => reachB ops 3 i j) = true := by
    intro i o ho
    have hlt : i < ops.size := by
      rcases Nat.lt_or_ge i ops.size with h | h
      · exact h
      · rw [Array.getElem?_eq_none h] at ho; cases ho
    have := h i hlt
    rw [ho] at this
    simpa only [Bool.and_eq_true] using this
  have hearly : ∀ (i : Nat) (o : Oper), ops[i]? = some o → i < m → early ops m i o = true := by
    intro i o ho him
    have := (hi i o ho).2
    rw [show Nat.blt i m = true by simpa using him] at this
    exact this
  refine ⟨by simpa using hm, ?_, ?_, ?_, ?_⟩
  · intro i o ho e he hb
    have := (hi i o ho).1
    rw [Array.all_eq_true_iff_forall_mem] at this
    have := this e he
    rw [hb] at this
    simpa using this
  · intro i o ho him d hd
    have := hearly i o ho him
    simp only [early, Bool.and_eq_true] at this
    have := this.1
    rw [hd] at this
    simpa using this
  · intro i j o oj d ho hoj him hjm hji hd
    have := hearly i o ho him
    simp only [early, Bool.and_eq_true, List.all_eq_true, List.mem_range] at this
    have := this.2 j hjm
    rw [hoj] at this
    simp only [hd, Bool.or_eq_true, Bool.and_eq_true] at this
    rcases this with h1 | h1
    · exact absurd (by simpa using h1) hji
    · refine ⟨by simpa using h1.1, fun hdm => ?_⟩
      rcases h1.2 with h2 | h2
      · simp [hdm] at h2
      · exact ⟨by simpa using h2.1, h2.2⟩
  · intro i him hlt j hj
    have h1 := (hi i _ (Array.getElem?_eq_getElem hlt)).2
    have hb : Nat.blt i m = false := by
      cases hq : Nat.blt i m with
      | false => rfl
      | true => have : i < m := by simpa using hq
                omega
    rw [hb] at h1
    simp only [cond_false, List.all_eq_true, List.mem_range] at h1
    exact h1 j hj

def unl (listed : Array Bool) : Nat → Nat
  | 0 => 0
  | k + 1 => unl listed k + bif listed.getD k true then 0 else 1

theorem getD_set {listed : Array Bool} {i j : Nat} (hi : i < listed.size) (b : Bool) : (listed.setIfInBounds i true).getD j b = if j = i then true else listed.getD j b := by
  simp only [Array.getD_eq_getD_getElem?]
  by_cases h : j = i
  · subst h
    simp [hi]
  · rw [Array.getElem?_setIfInBounds_ne (fun e => h e.symm), if_neg h]

theorem unl_set {listed : Array Bool} {i : Nat} (hi : i < listed.size) (hu : listed.getD i true = false) : ∀ k, unl (listed.setIfInBounds i true) k + (if i < k then 1 else 0) = unl listed k
  | 0 => by simp [unl]
  | k + 1 => by
    have ih := unl_set hi hu k
    simp only [unl, getD_set hi]
    by_cases h : k = i
    · subst h
      rw [if_pos rfl, hu]
      simp at ih ⊢
      omega
    · rw [if_neg h]
      by_cases h2 : i < k
      · rw [if_pos h2] at ih
        rw [if_pos (by omega)]
        omega
      · rw [if_neg h2] at ih
        rw [if_neg (by omega)]
        omega

theorem unl_zero {listed : Array Bool} : ∀ {k : Nat}, unl listed k = 0 → ∀ i, i < k → listed.getD i true = true
  | 0, _, i, hi => by omega
  | k + 1, h, i, hi => by
    simp only [unl] at h
    by_cases h2 : i = k
    · subst h2
      cases hl : listed.getD i true with
      | true => rfl
      | false => rw [hl] at h; simp at h
    · exact unl_zero (k := k) (by omega) i (by omega)

theorem mem_ready {ops : Array Oper} {listed : Array Bool} {i : Nat} : i ∈ Region.ready .any ops listed ↔
    ∃ o, ops[i]? = some o ∧ listed.getD i true = false ∧ ∀ e ∈ o.after, Region.binds .any e = true → listed.getD e.on false = true := by
  unfold Region.ready
  rw [List.mem_filter]
  constructor
  · rintro ⟨h1, h2⟩
    have hlt := List.mem_range.1 h1
    rw [Array.getElem?_eq_getElem hlt] at h2 ⊢
    simp only [Option.map_some, Option.getD_some, Bool.and_eq_true, Bool.not_eq_true'] at h2
    refine ⟨_, rfl, h2.1, fun e he hb => ?_⟩
    have := (Array.all_eq_true_iff_forall_mem.1 h2.2) e he
    rw [hb] at this
    simpa using this
  · rintro ⟨o, ho, h1, h2⟩
    have hlt : i < ops.size := by
      rcases Nat.lt_or_ge i ops.size with h | h
      · exact h
      · rw [Array.getElem?_eq_none h] at ho; cases ho
    refine ⟨List.mem_range.2 hlt, ?_⟩
    rw [ho]
    simp only [Option.map_some, Option.getD_some, Bool.and_eq_true, Bool.not_eq_true']
    refine ⟨h1, Array.all_eq_true_iff_forall_mem.2 fun e he => ?_⟩
    cases hb : Region.binds .any e with
    | false => rfl
    | true => simp [h2 e he hb]

def Closed (ops : Array Oper) (listed : Array Bool) : Prop := ∀ (i : Nat) (o : Oper), ops[i]? = some o → listed.getD i true = true → ∀ e ∈ o.after, Region.binds .any e = true → listed.getD e.on false = true

theorem dirB_iff {ops : Array Oper} {k j : Nat} : dirB ops k j = true ↔ ∃ o, ops[k]? = some o ∧ ∃ e ∈ o.after, Region.binds .any e = true ∧ e.on = j := by
  unfold dirB
  constructor
  · intro h
    split at h
    · rename_i o ho
      rw [← Array.any_toList, List.any_eq_true] at h
      obtain ⟨e, he, h2⟩ := h
      have he := Array.mem_toList_iff.1 he
      simp only [Bool.and_eq_true] at h2
      exact ⟨o, ho, e, he, h2.1, Nat.eq_of_beq_eq_true h2.2⟩
    · cases h
  · rintro ⟨o, ho, e, he, h1, h2⟩
    rw [ho]
    simp only
    rw [← Array.any_toList, List.any_eq_true]
    exact ⟨e, Array.mem_toList_iff.2 he, by simp [h1, h2]⟩

theorem reach_listed {ops : Array Oper} {listed : Array Bool} (hsz : listed.size = ops.size) (hc : Closed ops listed) : ∀ (f k j : Nat), (∀ l, dirB ops k l = true → listed.getD l false = true) → reachB ops f k j = true → listed.getD j false = true
  | 0, k, j, hk, h => hk j h
  | f + 1, k, j, hk, h => by
    simp only [reachB, Bool.or_eq_true, List.any_eq_true, Bool.and_eq_true] at h
    rcases h with h | ⟨l, _, h1, h2⟩
    · exact hk j h
    · refine reach_listed hsz hc f l j (fun l' hl' => ?_) h2
      obtain ⟨o, ho, e, he, hb, rfl⟩ := dirB_iff.1 hl'
      have hl := hk l h1
      have hlt : l < ops.size := by
        rcases Nat.lt_or_ge l ops.size with h | h
        · exact h
        · rw [Array.getElem?_eq_none h] at ho; cases ho
      refine hc l o ho ?_ e he hb
      have hlt2 : l < listed.size := by omega
      simpa [Array.getD_eq_getD_getElem?, hlt2] using hl
end Go.Ab

namespace Go.Ab
open Go

section
variable {P : Program} {Γ : Env} {D : Dn} {c : Ctx} {h : List Ent} {all : Array Oper} {Q : Exit → Act → World → Prop}

theorem runQ_states : ∀ {os : List Oper} {t t' : List (Nat × AV)} {ob : List Prop}, runQ Γ D all h os t = some (t', ob) → allP ob →
    ∃ (T : Nat → List (Nat × AV)) (X : Nat → AV), T 0 = t ∧ T os.length = t' ∧ ∀ (i : Nat) (o : Oper), os[i]? = some o → (∃ ob', stepQ Γ D all (T i) h o = some (X i, ob') ∧ allP ob') ∧ T (i + 1) = put (T i) o.dst (X i)
  | [], t, t', ob, hr, _ => by
    simp only [runQ, Option.some.injEq, Prod.mk.injEq] at hr
    obtain ⟨rfl, _⟩ := hr
    exact ⟨fun _ => t, fun _ => .any, rfl, rfl, by simp⟩
  | o :: os, t, t', ob, hr, ho => by
    simp only [runQ] at hr
    cases h1 : stepQ Γ D all t h o with
    | none => simp [h1] at hr
    | some p =>
      obtain ⟨x, ob1⟩ := p
      simp only [h1] at hr
      cases h2 : runQ Γ D all h os (put t o.dst x) with
      | none => simp [h2] at hr
      | some q =>
        obtain ⟨t2, ob2⟩ := q
        simp only [h2, Option.some.injEq, Prod.mk.injEq] at hr
        obtain ⟨rfl, rfl⟩ := hr
        obtain ⟨ho1, ho2⟩ := allP_append.1 ho
        obtain ⟨T, X, hT0, hTn, hT⟩ := runQ_states h2 ho2
        refine ⟨fun i => match i with | 0 => t | i + 1 => T i, fun i => match i with | 0 => x | i + 1 => X i, rfl, by simpa using hTn, ?_⟩
        intro i o' ho'
        cases i with
        | zero =>
          simp only [List.getElem?_cons_zero, Option.some.injEq] at ho'
          subst ho'
          exact ⟨⟨ob1, h1, ho1⟩, hT0⟩
        | succ i =>
          simp only [List.getElem?_cons_succ] at ho'
          exact hT i o' ho'

theorem getD_false_true {listed : Array Bool} {i : Nat} (hi : i < listed.size) (b b' : Bool) : listed.getD i b = listed.getD i b' := by
  simp [Array.getD_eq_getD_getElem?, hi]

/-- the second part: in the order of the text -/
theorem late_any (hΓ : TyOk P Γ) (hD : DOk P D) {ops : Array Oper} {m : Nat} (hok : AnyOk ops m) (hdn : ∀ (i : Nat) (o : Oper), ops[i]? = some o → ∀ d, o.dst = some d → d < c.nt) {t' : List (Nat × AV)} {h' : List Ent}
    (hQ : ∀ a w, WRs c ⟨t', h'⟩ a w → Q .normal a w) : ∀ (fuel k : Nat) (listed : Array Bool) (a : Act) (w : World) (s : St) (ob : List Prop), m ≤ k → k ≤ ops.size → ops.size ≤ k + fuel → listed.size = ops.size →
      (∀ i, i < ops.size → listed.getD i true = decide (i < k)) → WRs c s a w → runA Γ D ops (ops.toList.drop k) s.t s.h = some (t', h', ob) → allP ob → wpAny P .any ops Q fuel listed a w := by
  have hdone : ∀ (k : Nat) (listed : Array Bool) (a : Act) (w : World) (s : St) (ob : List Prop), k = ops.size → (∀ i, i < ops.size → listed.getD i true = decide (i < k)) → WRs c s a w →
      runA Γ D ops (ops.toList.drop k) s.t s.h = some (t', h', ob) → Region.ready .any ops listed = [] ∧ Q .normal a w := by
    intro k listed a w s ob hk hl hs hr
    subst hk
    constructor
    · apply List.eq_nil_iff_forall_not_mem.2
      intro i hi
      obtain ⟨o, ho, hf, _⟩ := mem_ready.1 hi
      have hlt : i < ops.size := by
        rcases Nat.lt_or_ge i ops.size with h | h
        · exact h
        · rw [Array.getElem?_eq_none h] at ho; cases ho
      rw [hl i hlt] at hf
      simp [hlt] at hf
    · rw [List.drop_eq_nil_of_le (by simp)] at hr
      simp only [runA, Option.some.injEq, Prod.mk.injEq] at hr
      obtain ⟨rfl, rfl, _⟩ := hr
      exact hQ a w hs
  intro fuel
  induction fuel with
  | zero =>
    intro k listed a w s ob hmk hkn hf hsz hl hs hr ho
    exact hdone k listed a w s ob (by omega) hl hs hr
  | succ fuel ih =>
    intro k listed a w s ob hmk hkn hf hsz hl hs hr ho
    by_cases hk : k = ops.size
    · have h1 := hdone k listed a w s ob hk hl hs hr
      refine ⟨fun _ => h1.2, ?_⟩
      rw [h1.1]
      simp
    · have hklt : k < ops.size := by omega
      have hcl : Closed ops listed := by
        intro i o hio hli e he hb
        have hlt : i < ops.size := by
          rcases Nat.lt_or_ge i ops.size with h | h
          · exact h
          · rw [Array.getElem?_eq_none h] at hio; cases hio
        have hei := hok.back i o hio e he hb
        have hik : i < k := by simpa [hl i hlt] using hli
        rw [getD_false_true (by omega) false true, hl e.on (by omega)]
        simp; omega
      have honly : ∀ i, i ∈ Region.ready .any ops listed → i = k := by
        intro i hi
        obtain ⟨o, hio, hf, hready⟩ := mem_ready.1 hi
        have hlt : i < ops.size := by
          rcases Nat.lt_or_ge i ops.size with h | h
          · exact h
          · rw [Array.getElem?_eq_none h] at hio; cases hio
        have hik : ¬ i < k := by
          intro h
          rw [hl i hlt] at hf
          simp [h] at hf
        rcases Nat.lt_or_ge k i with h1 | h1
        · exfalso
          have h2 := reach_listed hsz hcl 3 i k (fun l hl' => by
            obtain ⟨o2, ho2, e, he, hb, rfl⟩ := dirB_iff.1 hl'
            rw [hio] at ho2; cases ho2
            exact hready e he hb) (hok.late i (by omega) hlt k h1)
          rw [getD_false_true (by omega) false true, hl k hklt] at h2
          simp at h2
        · omega
      have hin : k ∈ Region.ready .any ops listed := by
        refine mem_ready.2 ⟨ops[k], Array.getElem?_eq_getElem hklt, by simp [hl k hklt], fun e he hb => ?_⟩
        have h3 := hok.back k _ (Array.getElem?_eq_getElem hklt) e he hb
        rw [getD_false_true (by omega) false true, hl e.on (by omega)]
        simpa using h3
      refine ⟨fun h0 => ?_, fun i hi => ?_⟩
      · rw [h0] at hin; simp at hin
      · have := honly i hi
        subst this
        have hdrop : ops.toList.drop i = ops[i] :: ops.toList.drop (i + 1) := by
          rw [List.drop_eq_getElem_cons (by simpa using hklt)]
          simp
        rw [hdrop] at hr
        simp only [runA] at hr
        cases h1 : stepA Γ D ops s.t s.h ops[i] with
        | none => simp [h1] at hr
        | some p =>
          obtain ⟨x, h2, ob1⟩ := p
          simp only [h1] at hr
          cases h3 : runA Γ D ops (ops.toList.drop (i + 1)) (put s.t ops[i].dst x) h2 with
          | none => simp [h3] at hr
          | some q =>
            obtain ⟨t3, h3', ob3⟩ := q
            simp only [h3, Option.some.injEq, Prod.mk.injEq] at hr
            obtain ⟨rfl, rfl, rfl⟩ := hr
            obtain ⟨ho1, ho2⟩ := allP_append.1 ho
            unfold wpOp
            rw [Array.getElem?_eq_getElem hklt]
            simp only
            have h4 := op_step (Q := Q) (K := wpAny P .any ops Q fuel (listed.setIfInBounds i true)) hΓ hD hs h1 ho1 (hdn i _ (Array.getElem?_eq_getElem hklt)) (fun a' w' hs' =>
              ih (i + 1) _ a' w' ⟨put s.t ops[i].dst x, h2⟩ ob3 (by omega) (by omega) (by omega) (by simpa using hsz) (by
                intro j hj
                rw [getD_set (by omega)]
                by_cases hji : j = i
                · subst hji; simp
                · rw [if_neg hji, hl j hj]
                  have : (j < i) ↔ (j < i + 1) := by omega
                  simp [this]) hs' h3 ho2)
            split
            · rename_i hw
              rw [if_pos hw] at h4
              exact .inl h4
            · rename_i hw
              rw [if_neg hw] at h4
              exact h4
end
end Go.Ab

namespace Go.Ab
open Go

def mask (l : List Nat) (t : List (Nat × AV)) : List (Nat × AV) := l.map fun j => (j, get t j)

theorem get_mask (t : List (Nat × AV)) : ∀ (l : List Nat) (j : Nat), get (mask l t) j = if j ∈ l then get t j else .any
  | [], j => by simp [mask, get]
  | k :: l, j => by
    have ih := get_mask t l j
    simp only [mask, List.map_cons, get] at ih ⊢
    cases hb : Nat.beq j k with
    | true =>
      have := Nat.eq_of_beq_eq_true hb
      subst this
      simp
    | false =>
      have hne : j ≠ k := by
        rintro rfl
        simp at hb
      simp only [cond_false, List.mem_cons, hne, false_or]
      exact ih

theorem unl_ge {listed : Array Bool} {m : Nat} : ∀ {n : Nat}, (∀ k, m ≤ k → k < n → listed.getD k true = false) → n ≤ m + unl listed n
  | 0, _ => by omega
  | n + 1, h => by
    have ih := unl_ge (n := n) fun k h1 h2 => h k h1 (by omega)
    simp only [unl]
    by_cases hm : m ≤ n
    · rw [h n hm (by omega)]
      simp only [cond_false]
      omega
    · omega

section
variable {P : Program} {Γ : Env} {D : Dn} {c : Ctx} {h : List Ent} {Q : Exit → Act → World → Prop}

def Midway (c : Ctx) (h : List Ent) (ops : Array Oper) (m : Nat) (tm : List (Nat × AV)) (listed : Array Bool) (a : Act) (w : World) : Prop :=
  ∃ μ FP, WR c (Hof h) μ FP w ∧ Tail h μ ∧ a.tmps.size = c.nt ∧ a.defers = [] ∧
    ∀ i, (∀ (j : Nat) (o : Oper), j < m → ops[j]? = some o → listed.getD j true = false → o.dst ≠ some i) → Rep w (hot c.M0 (Hof h) μ) (get tm i) μ (a.tmps.getD i undef) []

theorem early_any (hΓ : TyOk P Γ) (hD : DOk P D) {ops : Array Oper} {m : Nat} (hok : AnyOk ops m) (hdn : ∀ (i : Nat) (o : Oper), ops[i]? = some o → ∀ d, o.dst = some d → d < c.nt) {t' : List (Nat × AV)} {h' : List Ent} {ob : List Prop}
    (hQ : ∀ a w, WRs c ⟨t', h'⟩ a w → Q .normal a w) (T : Nat → List (Nat × AV)) (X : Nat → AV)
    (hT : ∀ (i : Nat) (o : Oper), i < m → ops[i]? = some o → (∃ ob', stepQ Γ D ops (T i) h o = some (X i, ob') ∧ allP ob') ∧ T (i + 1) = put (T i) o.dst (X i))
    (hr : runA Γ D ops (ops.toList.drop m) (T m) h = some (t', h', ob)) (ho : allP ob) :
    ∀ (fuel : Nat) (listed : Array Bool) (a : Act) (w : World), unl listed ops.size ≤ fuel → listed.size = ops.size → (∀ k, m ≤ k → k < ops.size → listed.getD k true = false) → Closed ops listed →
      Midway c h ops m (T m) listed a w → wpAny P .any ops Q fuel listed a w := by
  have hlt : ∀ {i : Nat} {o : Oper}, ops[i]? = some o → i < ops.size := by
    intro i o hio
    rcases Nat.lt_or_ge i ops.size with h | h
    · exact h
    · rw [Array.getElem?_eq_none h] at hio; cases hio
  have hm := hok.le
  -- the writes of the first part are apart
  have hlast : ∀ (i : Nat) (o : Oper) (d : Nat), i < m → ops[i]? = some o → o.dst = some d → ∀ k, i < k → k ≤ m → get (T k) d = X i := by
    intro i o d him hio hd k
    induction k with
    | zero => intro h; omega
    | succ k ih =>
      intro h1 h2
      have hk : k < ops.size := by omega
      obtain ⟨_, hTk⟩ := hT k _ (by omega) (Array.getElem?_eq_getElem hk)
      rw [hTk]
      by_cases hki : k = i
      · subst hki
        have : ops[k] = o := by rw [Array.getElem?_eq_getElem hk] at hio; exact Option.some.inj hio
        rw [this, hd, get_put, if_pos rfl]
      · have hap := (hok.apart k i _ o d (Array.getElem?_eq_getElem hk) hio (by omega) him (fun e => hki e.symm) hd).1
        cases hdk : ops[k].dst with
        | none => exact ih (by omega) (by omega)
        | some d' =>
          rw [get_put, if_neg]
          · exact ih (by omega) (by omega)
          · rintro rfl
            exact hap hdk
  have hlook : ∀ (i : Nat) (o : Oper) (d : Nat), i < m → ops[i]? = some o → d ∈ o.looksAt ops → ∀ k, i ≤ k → k ≤ m → get (T k) d = get (T i) d := by
    intro i o d him hio hd k
    induction k with
    | zero => intro h _; have : i = 0 := by omega
              subst this; rfl
    | succ k ih =>
      intro h1 h2
      by_cases hki : i = k + 1
      · subst hki; rfl
      · have hk : k < ops.size := by omega
        obtain ⟨_, hTk⟩ := hT k _ (by omega) (Array.getElem?_eq_getElem hk)
        rw [hTk]
        cases hdk : ops[k].dst with
        | none => exact ih (by omega) (by omega)
        | some d' =>
          rw [get_put, if_neg]
          · exact ih (by omega) (by omega)
          · rintro rfl
            by_cases hik : i = k
            · subst hik
              have : ops[i] = o := by rw [Array.getElem?_eq_getElem hk] at hio; exact Option.some.inj hio
              exact hok.own i o hio him d (by rw [← this]; exact hdk) hd
            · have := ((hok.apart i k o _ d hio (Array.getElem?_eq_getElem hk) him (by omega) (fun e => hik e.symm) hdk).2 hd).1
              omega
  intro fuel
  induction fuel with
  | zero =>
    intro listed a w hf hsz hun hcl hmid
    have hall := unl_zero (Nat.le_zero.1 hf)
    obtain ⟨μ, FP, hW, htl, h1, h2, h3⟩ := hmid
    have hnm : m = ops.size := by
      rcases Nat.lt_or_ge m ops.size with h | h
      · have := hun m (Nat.le_refl _) h
        rw [hall m h] at this; cases this
      · omega
    refine late_any hΓ hD hok hdn hQ 0 m listed a w ⟨T m, h⟩ ob (Nat.le_refl _) hm (by omega) hsz (fun i hi => by rw [hall i hi]; simp; omega) ⟨μ, FP, hW, htl, ?_, h1, h2⟩ hr ho
    intro i
    refine h3 i fun j o hjm hjo hl => ?_
    rw [hall j (by omega)] at hl; cases hl
  | succ fuel ih =>
    intro listed a w hf hsz hun hcl hmid
    by_cases hall : ∀ i, i < m → listed.getD i true = true
    · obtain ⟨μ, FP, hW, htl, h1, h2, h3⟩ := hmid
      have hge := unl_ge hun
      refine late_any hΓ hD hok hdn hQ (fuel + 1) m listed a w ⟨T m, h⟩ ob (Nat.le_refl _) hm (by omega) hsz (fun i hi => ?_) ⟨μ, FP, hW, htl, ?_, h1, h2⟩ hr ho
      · by_cases him : i < m
        · rw [hall i him]; simp [him]
        · rw [hun i (by omega) hi]; simp [him]
      · intro i
        refine h3 i fun j o hjm hjo hl => ?_
        rw [hall j hjm] at hl; cases hl
    · refine ⟨fun h0 => ?_, fun i hi => ?_⟩
      · exfalso
        apply hall
        have : ∀ i, i < ops.size → listed.getD i true = true := by
          intro i
          induction i using Nat.strongRecOn with
          | _ i ihi =>
            intro hi
            cases hl : listed.getD i true with
            | true => rfl
            | false =>
              exfalso
              have : i ∈ Region.ready .any ops listed := by
                refine mem_ready.2 ⟨ops[i], Array.getElem?_eq_getElem hi, hl, fun e he hb => ?_⟩
                have h3 := hok.back i _ (Array.getElem?_eq_getElem hi) e he hb
                rw [getD_false_true (by omega) false true]
                exact ihi e.on h3 (by omega)
              rw [h0] at this; simp at this
        exact fun i him => this i (by omega)
      · obtain ⟨o, hio, hli, hready⟩ := mem_ready.1 hi
        have hin := hlt hio
        have hdir : ∀ l, dirB ops i l = true → listed.getD l false = true := fun l hl' => by
          obtain ⟨o2, ho2, e, he, hb, rfl⟩ := dirB_iff.1 hl'
          rw [hio] at ho2; cases ho2
          exact hready e he hb
        have him : i < m := by
          rcases Nat.lt_or_ge i m with h1 | h1
          · exact h1
          · exfalso
            apply hall
            intro j hj
            rw [getD_false_true (by omega) true false]
            exact reach_listed hsz hcl 3 i j hdir (hok.late i h1 hin j (by omega))
        obtain ⟨⟨ob', hq, hob'⟩, hTi⟩ := hT i o him hio
        obtain ⟨μ, FP, hW, htl, h1, h2, h3⟩ := hmid
        have hTR : TR c ⟨mask (o.looksAt ops) (T i), h⟩ μ w a := by
          refine ⟨fun j => ?_, h1, h2⟩
          show Rep w _ (get (mask (o.looksAt ops) (T i)) j) μ _ []
          rw [get_mask]
          split
          · rename_i hj
            rw [← hlook i o j him hio hj m (by omega) (Nat.le_refl _)]
            refine h3 j fun k ok hkm hko hl hdk => ?_
            by_cases hki : k = i
            · subst hki
              rw [hio] at hko; cases hko
              exact hok.own k o hio him j hdk hj
            · have h4 := ((hok.apart i k o ok j hio hko him hkm hki hdk).2 hj).2
              have h5 := hdir k h4
              rw [getD_false_true (by omega) false true, hl] at h5
              cases h5
          · simp [Rep]
        have hq2 : stepQ Γ D ops (mask (o.looksAt ops) (T i)) h o = some (X i, ob') := by
          rw [← hq]
          refine stepQ_agree fun j hj => ?_
          rw [get_mask, if_pos hj]
        obtain ⟨ob2, hA, hob2⟩ := stepQ_stepA hq2
        have hrun := op_run (s := ⟨mask (o.looksAt ops) (T i), h⟩) (Q := Q) hΓ hD hW htl hTR hA (hob2 hob')
        have hnext : ∀ a' w', Brought c ⟨mask (o.looksAt ops) (T i), h⟩ μ w a o.dst (X i) h a' w' → wpAny P .any ops Q fuel (listed.setIfInBounds i true) a' w' := by
          rintro a' w' ⟨v, μ', rfl, hN, hx⟩
          obtain ⟨FP', hW'⟩ := hN.wr
          have hun' := unl_set (listed := listed) (i := i) (by omega) hli ops.size
          rw [if_pos hin] at hun'
          refine ih _ _ _ (by omega) (by simpa using hsz) ?_ ?_ ⟨μ', FP', hW', hN.tail, ?_, ?_, ?_⟩
          · intro k hk hkn
            rw [getD_set (by omega), if_neg (by omega)]
            exact hun k hk hkn
          · intro k ok hko hlk e he hb
            rw [getD_set (by omega)] at hlk ⊢
            by_cases hei : e.on = i
            · rw [if_pos hei]
            · rw [if_neg hei]
              by_cases hki : k = i
              · subst hki
                rw [hio] at hko; cases hko
                exact hready e he hb
              · rw [if_neg hki] at hlk
                exact hcl k ok hko hlk e he hb
          · cases hd : o.dst <;> simpa [Act.put] using h1
          · cases hd : o.dst <;> simpa [Act.put] using h2
          · intro j hj
            by_cases hdj : o.dst = some j
            · rw [hlast i o j him hio hdj m him (Nat.le_refl _)]
              have hjn : j < a.tmps.size := by rw [h1]; exact hdn i o hio j hdj
              have : (a.put o.dst v).tmps.getD j undef = v := by simp [hdj, Act.put, hjn]
              rw [this]
              exact hx
            · have : (a.put o.dst v).tmps.getD j undef = a.tmps.getD j undef := by
                cases hd : o.dst with
                | none => rfl
                | some d =>
                  simp only [Act.put, Array.getD_eq_getD_getElem?]
                  rw [Array.getElem?_setIfInBounds_ne (fun e => hdj (by rw [hd, e]))]
              rw [this]
              refine hN.tr.rep (h3 j fun k ok hkm hko hl => ?_)
              by_cases hki : k = i
              · subst hki
                rw [hio] at hko; cases hko
                exact hdj
              · refine hj k ok hkm hko ?_
                rw [getD_set (by omega), if_neg hki]
                exact hl
        unfold wpOp
        rw [hio]
        simp only
        split
        · rename_i hw
          rw [if_pos hw] at hrun
          exact .inl (Oper.wp_mono hnext hrun)
        · rename_i hw
          rw [if_neg hw] at hrun
          exact hnext _ _ hrun

theorem WR.drew {c : Ctx} {μ : Map} {FP : Nat → List Nat} {w : World} (hW : WR c (Hof h) μ FP w) : WR c (Hof h) μ FP { w with drawn := w.drawn + 1 } ∧ Trans c.M0 (Hof h) μ w (Hof h) μ { w with drawn := w.drawn + 1 } :=
  hW.grow (Grow.drew w)

theorem WRs.drew {c : Ctx} {s : St} {a : Act} {w : World} (hs : WRs c s a w) : WRs c s a { w with drawn := w.drawn + 1 } := by
  obtain ⟨μ, FP, hW, htl, h1, h2⟩ := hs
  obtain ⟨hW', hT⟩ := WR.drew hW
  exact ⟨μ, FP, hW', htl, fun i => hT.rep (h1 i), h2⟩

/-- A REGION WHOSE ORDER IS DRAWN -/
theorem region_any (hmix : P.follows .mixedOrders = true) (hΓ : TyOk P Γ) (hD : DOk P D) {id : Nat} {ops : Array Oper} (m : Nat) {s : St} {a : Act} {w : World} {t1 t' : List (Nat × AV)} {h' : List Ent} {ob1 ob : List Prop}
    (hs : WRs c s a w) (hck : checkAny ops m = true) (hd : dstOk c.nt ops.toList = true) (hq : runQ Γ D ops s.h (ops.toList.take m) s.t = some (t1, ob1)) (ho1 : allP ob1)
    (hr : runA Γ D ops (ops.toList.drop m) t1 s.h = some (t', h', ob)) (ho : allP ob) (hQ : ∀ a w, WRs c ⟨t', h'⟩ a w → Q .normal a w) : (Code.region id ops true).wp P Q a w := by
  have hok := checkAny_ok hck
  have hdn : ∀ (i : Nat) (o : Oper), ops[i]? = some o → ∀ d, o.dst = some d → d < c.nt := by
    intro i o hio d hdd
    simp only [dstOk, List.all_eq_true] at hd
    have hmem : o ∈ ops.toList := Array.mem_toList_iff.2 (Array.mem_of_getElem? hio)
    have := hd o hmem
    rw [hdd] at this
    simpa using this
  obtain ⟨T, X, hT0, hTn, hT⟩ := runQ_states hq ho1
  have hlen : (ops.toList.take m).length = m := by
    have := hok.le
    simp; omega
  rw [hlen] at hTn
  refine wp_region_any hmix ?_
  refine early_any (h := s.h) hΓ hD hok hdn hQ T X (fun i o him hio => hT i o ?_) (by rw [hTn]; exact hr) ho ops.size _ a _ ?_ (by simp) ?_ ?_ ?_
  · rw [List.getElem?_take, if_pos him]
    simpa using hio
  · have : ∀ (l : Array Bool) (k : Nat), unl l k ≤ k := by
      intro l k
      induction k with
      | zero => simp [unl]
      | succ k ih => simp only [unl]; cases l.getD k true <;> simp <;> omega
    exact this _ _
  · intro k _ hk
    simp [Array.getD_eq_getD_getElem?, hk]
  · intro i o hio hl
    have : i < ops.size := by
      rcases Nat.lt_or_ge i ops.size with h | h
      · exact h
      · rw [Array.getElem?_eq_none h] at hio; cases hio
    simp [Array.getD_eq_getD_getElem?, this] at hl
  · obtain ⟨μ, FP, hW, htl, h1, h2, h3⟩ := hs.drew
    refine ⟨μ, FP, hW, htl, h2, h3, ?_⟩
    intro i hi
    have hnone : ∀ (k : Nat), k ≤ m → get (T k) i = get s.t i := by
      intro k
      induction k with
      | zero => intro _; rw [hT0]
      | succ k ih =>
        intro hk
        have hkn : k < ops.size := by have := hok.le; omega
        have hik := hi k _ (by omega) (Array.getElem?_eq_getElem hkn) (by simp [Array.getD_eq_getD_getElem?, hkn])
        obtain ⟨_, hTk⟩ := hT k ops[k] (by rw [List.getElem?_take, if_pos (by omega)]; simp [hkn])
        rw [hTk]
        cases hdk : ops[k].dst with
        | none => exact ih (by omega)
        | some d =>
          rw [get_put, if_neg]
          · exact ih (by omega)
          · rintro rfl
            exact hik hdk
    rw [hnone m (Nat.le_refl _)]
    exact h1 i
end
end Go.Ab
