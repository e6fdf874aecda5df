/- A layer of our own over the calculus of the model: abstract values and states, part AbD: it holds for every program. -/
import Derived.Test.YtlkapdaalmfoeaaAbC
import Derived.ProofKit
set_option linter.unusedVariables false
set_option linter.unusedSimpArgs false
namespace Go.Ab
open Go

def absV (h : List Ent) : AV → Option (AV × List Ent × List Prop)
  | .agg cs => match absL h cs with
    | some (ys, h', ob) => some (.agg ys, h', ob)
    | none => none
  | x => absC h x

def absVL (h : List Ent) : List AV → Option (List AV × List Ent × List Prop)
  | [] => some ([], h, [])
  | x :: xs => match absV h x with
    | some (y, h1, o1) => match absVL h1 xs with
      | some (ys, h2, o2) => some (y :: ys, h2, o1 ++ o2)
      | none => none
    | none => none

structure Gone (h h' : List Ent) (K : List Nat) : Prop where
  sub : ∀ (id : Nat) (e : Ent), nthE h' id = some e → e.live = true → nthE h id = some e
  kill : ∀ id, id ∈ K → (∃ e, nthE h id = some e ∧ e.live = true) ∧ ∀ e, nthE h' id = some e → e.live = false

theorem Gone.refl (h : List Ent) : Gone h h [] := ⟨fun _ _ he _ => he, by simp⟩

theorem Gone.trans {h h1 h2 : List Ent} {K1 K2 : List Nat} (a : Gone h h1 K1) (b : Gone h1 h2 K2) : Gone h h2 (K1 ++ K2) := by
  refine ⟨fun id e he hl => a.sub id e (b.sub id e he hl) hl, fun id hid => ?_⟩
  rcases List.mem_append.1 hid with hid | hid
  · obtain ⟨h1', h2'⟩ := a.kill id hid
    refine ⟨h1', fun e he => ?_⟩
    cases hl : e.live with
    | false => rfl
    | true => rw [h2' e (b.sub id e he hl)] at hl; cases hl
  · obtain ⟨⟨e, he, hl⟩, h2'⟩ := b.kill id hid
    exact ⟨⟨e, a.sub id e he hl, hl⟩, h2'⟩

section
variable {c : Ctx} {μ : Map} {FP : Nat → List Nat} {w : World} {h0 : List Ent}

/-- what a value owns, all from entries that are given up -/
def Owns (FP : Nat → List Nat) (K fp : List Nat) : Prop := fp.Nodup ∧ ∀ b, b ∈ fp → ∃ id, id ∈ K ∧ b ∈ FP id

theorem Owns.app (hW : WR c (Hof h0) μ FP w) {h h1 h2 : List Ent} {K1 K2 f1 f2 : List Nat} (g1 : Gone h h1 K1) (g2 : Gone h1 h2 K2) (o1 : Owns FP K1 f1) (o2 : Owns FP K2 f2) : Owns FP (K1 ++ K2) (f1 ++ f2) := by
  refine ⟨List.nodup_append.2 ⟨o1.1, o2.1, ?_⟩, ?_⟩
  · intro a ha b hb e
    subst e
    obtain ⟨i, hi, hai⟩ := o1.2 a ha
    obtain ⟨j, hj, haj⟩ := o2.2 a hb
    have hij : i ≠ j := by
      rintro rfl
      obtain ⟨⟨e, he, hl⟩, _⟩ := g2.kill i hj
      rw [(g1.kill i hi).2 e he] at hl; cases hl
    exact hW.disj i j hij a hai haj
  · intro b hb
    rcases List.mem_append.1 hb with hb | hb
    · obtain ⟨i, hi, h⟩ := o1.2 b hb; exact ⟨i, List.mem_append_left _ hi, h⟩
    · obtain ⟨i, hi, h⟩ := o2.2 b hb; exact ⟨i, List.mem_append_right _ hi, h⟩

theorem absC_gone (hW : WR c (Hof h0) μ FP w) {h h' : List Ent} {x y : AV} {v : Value} {ob : List Prop} (hsub : ∀ (id : Nat) (e : Ent), nthE h id = some e → e.live = true → nthE h0 id = some e)
    (hx : Rep w (hot c.M0 (Hof h0) μ) x μ v []) (ha : absC h x = some (y, h', ob)) (ho : allP ob) :
    ∃ K fp, Rep w (hot c.M0 (Hof h0) μ) y noMap v fp ∧ Gone h h' K ∧ Owns FP K fp := by
  have plain : ∀ {z : AV}, Rep w (hot c.M0 (Hof h0) μ) z noMap v [] → z = y → h = h' → ∃ K fp, Rep w (hot c.M0 (Hof h0) μ) y noMap v fp ∧ Gone h h' K ∧ Owns FP K fp := by
    rintro z hz rfl rfl
    exact ⟨[], [], hz, Gone.refl _, by simp [Owns]⟩
  cases x with
  | int k n => simp only [absC, Option.some.injEq, Prod.mk.injEq] at ha; exact plain (by simpa only [Rep] using hx) ha.1 ha.2.1
  | bool b => simp only [absC, Option.some.injEq, Prod.mk.injEq] at ha; exact plain (by simpa only [Rep] using hx) ha.1 ha.2.1
  | str l => simp only [absC, Option.some.injEq, Prod.mk.injEq] at ha; exact plain (by simpa only [Rep] using hx) ha.1 ha.2.1
  | nils => simp only [absC, Option.some.injEq, Prod.mk.injEq] at ha; exact plain (by simpa only [Rep] using hx) ha.1 ha.2.1
  | sl own e n f =>
    cases own with
    | none => simp only [absC, Option.some.injEq, Prod.mk.injEq] at ha; exact plain (by simpa only [Rep] using hx) ha.1 ha.2.1
    | some T => simp [absC] at ha
  | agg _ => simp [absC] at ha
  | tup _ => simp [absC] at ha
  | ptr _ _ => simp [absC] at ha
  | pe _ _ _ _ => simp [absC] at ha
  | ep _ => simp [absC] at ha
  | fn _ _ => simp [absC] at ha
  | gd _ _ => simp [absC] at ha
  | any => simp [absC] at ha
  | ref id e off n =>
    simp only [absC] at ha
    split at ha
    · rename_i T e' n' f hid
      split at ha
      · rename_i hee
        subst hee
        simp only [Option.some.injEq, Prod.mk.injEq] at ha
        obtain ⟨rfl, rfl, rfl⟩ := ha
        have hn := ho.1
        have hgone : Gone h (setE h id .dead) [id] := by
          refine ⟨fun i e he hl => ?_, fun i hi => ?_⟩
          · rw [nthE_setE] at he
            split at he
            · cases he; simp [Ent.live] at hl
            · exact he
          · simp only [List.mem_singleton] at hi
            subst hi
            refine ⟨⟨_, hid, rfl⟩, fun e he => ?_⟩
            rw [nthE_setE, if_pos ⟨rfl, nthE_lt hid⟩] at he
            cases he; rfl
        simp only [Rep] at hx
        obtain ⟨_, hx⟩ := hx
        cases hm : μ id with
        | none => simp [hm] at hx
        | some L =>
          cases L with
          | nil =>
            simp only [hm] at hx
            obtain ⟨_, rfl, rfl⟩ := hx
            exact ⟨[id], [], by simp [Rep], hgone, by simp [Owns]⟩
          | blk b cap =>
            simp only [hm] at hx
            obtain ⟨hcap, o, rfl, hoo⟩ := hx
            obtain ⟨ent, he, hok⟩ := hW.ent id _ hm
            have he2 : Hof h0 id = some (.arr T e n' f) := hsub id _ hid rfl
            rw [he2] at he; cases he
            obtain ⟨cur, us, fps, hh, h1, h2, h3, hcl, hF⟩ := hok
            have hblt : b < w.heap.size := (hW.new id b (by rw [hF]; simp)).2
            have hsl : List.Sublist (b :: (List.range n).flatMap fps) (FP id) := by
              rw [hF]
              exact List.Sublist.cons_cons _ (flatMap_range_sublist fps hn)
            refine ⟨[id], b :: (List.range n).flatMap fps, ?_, hgone, hsl.nodup (hW.nodup id), fun z hz => ⟨id, by simp, hsl.subset hz⟩⟩
            simp only [Rep]
            refine .inr ⟨b, 0, cap, us, fps, ?_, by omega, hblt, ?_, rfl, rfl, cur, hh, h1, h3⟩
            · have : o = 0 := by
                rcases hoo with h5 | h5
                · omega
                · simpa using h5
              subst this
              simp
            · intro i hi
              have := hcl i (by omega)
              exact ⟨this.1, this.2.1, by simpa using this.2.2⟩
      · simp at ha
    · simp at ha

theorem absL_gone (hW : WR c (Hof h0) μ FP w) : ∀ {xs : List AV} {h h' : List Ent} {ys : List AV} {us : List Value} {ob : List Prop}, (∀ (id : Nat) (e : Ent), nthE h id = some e → e.live = true → nthE h0 id = some e) →
    RepL w (hot c.M0 (Hof h0) μ) xs μ us [] → absL h xs = some (ys, h', ob) → allP ob → ∃ K fp, RepL w (hot c.M0 (Hof h0) μ) ys noMap us fp ∧ Gone h h' K ∧ Owns FP K fp
  | [], h, h', ys, us, ob, hsub, hx, ha, _ => by
    simp only [absL, Option.some.injEq, Prod.mk.injEq] at ha
    obtain ⟨rfl, rfl, rfl⟩ := ha
    simp only [RepL] at hx
    exact ⟨[], [], by simp only [RepL]; exact ⟨hx.1, trivial⟩, Gone.refl _, by simp [Owns]⟩
  | x :: xs, h, h', ys, us, ob, hsub, hx, ha, ho => by
    simp only [absL] at ha
    cases h1 : absC h x with
    | none => simp [h1] at ha
    | some p =>
      obtain ⟨y, h2, o1⟩ := p
      simp only [h1] at ha
      cases h3 : absL h2 xs with
      | none => simp [h3] at ha
      | some q =>
        obtain ⟨ys', h4, o2⟩ := q
        simp only [h3, Option.some.injEq, Prod.mk.injEq] at ha
        obtain ⟨rfl, rfl, rfl⟩ := ha
        obtain ⟨ho1, ho2⟩ := allP_append.1 ho
        simp only [RepL] at hx
        obtain ⟨u, us', f1, f2, rfl, e2, hu, hus⟩ := hx
        obtain ⟨rfl, rfl⟩ := List.append_eq_nil_iff.1 e2.symm
        obtain ⟨K1, g1, r1, go1, ow1⟩ := absC_gone hW hsub hu h1 ho1
        obtain ⟨K2, g2, r2, go2, ow2⟩ := absL_gone hW (fun id e he hl => hsub id e (go1.sub id e he hl) hl) hus h3 ho2
        exact ⟨K1 ++ K2, g1 ++ g2, by simp only [RepL]; exact ⟨u, us', g1, g2, rfl, rfl, r1, r2⟩, go1.trans go2, Owns.app hW go1 go2 ow1 ow2⟩

theorem absV_gone (hW : WR c (Hof h0) μ FP w) {h h' : List Ent} {x y : AV} {v : Value} {ob : List Prop} (hsub : ∀ (id : Nat) (e : Ent), nthE h id = some e → e.live = true → nthE h0 id = some e)
    (hx : Rep w (hot c.M0 (Hof h0) μ) x μ v []) (ha : absV h x = some (y, h', ob)) (ho : allP ob) :
    ∃ K fp, Rep w (hot c.M0 (Hof h0) μ) y noMap v fp ∧ Gone h h' K ∧ Owns FP K fp := by
  cases x with
  | agg cs =>
    simp only [absV] at ha
    cases h1 : absL h cs with
    | none => simp [h1] at ha
    | some p =>
      obtain ⟨ys, h2, o1⟩ := p
      simp only [h1, Option.some.injEq, Prod.mk.injEq] at ha
      obtain ⟨rfl, rfl, rfl⟩ := ha
      simp only [Rep] at hx
      obtain ⟨us, rfl, hus⟩ := hx
      obtain ⟨K, fp, r, g, o⟩ := absL_gone hW hsub hus h1 ho
      exact ⟨K, fp, by simp only [Rep]; exact ⟨us, rfl, r⟩, g, o⟩
  | _ => exact absC_gone hW hsub hx ha ho

theorem absVL_gone (hW : WR c (Hof h0) μ FP w) : ∀ {xs : List AV} {h h' : List Ent} {ys : List AV} {us : List Value} {ob : List Prop}, (∀ (id : Nat) (e : Ent), nthE h id = some e → e.live = true → nthE h0 id = some e) →
    RepL w (hot c.M0 (Hof h0) μ) xs μ us [] → absVL h xs = some (ys, h', ob) → allP ob → ∃ K fp, RepL w (hot c.M0 (Hof h0) μ) ys noMap us fp ∧ Gone h h' K ∧ Owns FP K fp
  | [], h, h', ys, us, ob, hsub, hx, ha, _ => by
    simp only [absVL, Option.some.injEq, Prod.mk.injEq] at ha
    obtain ⟨rfl, rfl, rfl⟩ := ha
    simp only [RepL] at hx
    exact ⟨[], [], by simp only [RepL]; exact ⟨hx.1, trivial⟩, Gone.refl _, by simp [Owns]⟩
  | x :: xs, h, h', ys, us, ob, hsub, hx, ha, ho => by
    simp only [absVL] at ha
    cases h1 : absV h x with
    | none => simp [h1] at ha
    | some p =>
      obtain ⟨y, h2, o1⟩ := p
      simp only [h1] at ha
      cases h3 : absVL h2 xs with
      | none => simp [h3] at ha
      | some q =>
        obtain ⟨ys', h4, o2⟩ := q
        simp only [h3, Option.some.injEq, Prod.mk.injEq] at ha
        obtain ⟨rfl, rfl, rfl⟩ := ha
        obtain ⟨ho1, ho2⟩ := allP_append.1 ho
        simp only [RepL] at hx
        obtain ⟨u, us', f1, f2, rfl, e2, hu, hus⟩ := hx
        obtain ⟨rfl, rfl⟩ := List.append_eq_nil_iff.1 e2.symm
        obtain ⟨K1, g1, r1, go1, ow1⟩ := absV_gone hW hsub hu h1 ho1
        obtain ⟨K2, g2, r2, go2, ow2⟩ := absVL_gone hW (fun id e he hl => hsub id e (go1.sub id e he hl) hl) hus h3 ho2
        exact ⟨K1 ++ K2, g1 ++ g2, by simp only [RepL]; exact ⟨u, us', g1, g2, rfl, rfl, r1, r2⟩, go1.trans go2, Owns.app hW go1 go2 ow1 ow2⟩
end
end Go.Ab

namespace Go.Ab
open Go

mutual
/-- owns nothing -/
def NoOwn : AV → Prop
  | .sl (some _) _ _ _ => False
  | .agg cs => NoOwnL cs
  | .tup cs => NoOwnL cs
  | _ => True
def NoOwnL : List AV → Prop
  | [] => True
  | x :: xs => NoOwn x ∧ NoOwnL xs
end

mutual
/-- what is owned owns nothing further -/
def FlatO : AV → Prop
  | .sl (some _) _ n f => ∀ i, i < n → NoOwnL (f i)
  | .agg cs => FlatOL cs
  | .tup cs => FlatOL cs
  | _ => True
def FlatOL : List AV → Prop
  | [] => True
  | x :: xs => FlatO x ∧ FlatOL xs
end

mutual
theorem NoOwn.fp {w : World} {M : Nat → Prop} : ∀ (x : AV) {μ : Map} {v : Value} {fp : List Nat}, NoOwn x → Rep w M x μ v fp → fp = []
  | .int _ _, _, _, _, _, h => by simp only [Rep] at h; exact h.2
  | .bool _, _, _, _, _, h => by simp only [Rep] at h; exact h.2
  | .str _, _, _, _, _, h => by simp only [Rep] at h; exact h.2
  | .nils, _, _, _, _, h => by simp only [Rep] at h; exact h.2
  | .any, _, _, _, _, h => by simpa only [Rep] using h
  | .ref .., _, _, _, _, h => by simp only [Rep] at h; exact h.1
  | .ptr .., _, _, _, _, h => by simp only [Rep] at h; exact h.1
  | .pe .., _, _, _, _, h => by simp only [Rep] at h; exact h.1
  | .ep _, _, _, _, _, h => by simp only [Rep] at h; exact h.1
  | .fn .., _, _, _, _, h => by simp only [Rep] at h; exact h.1
  | .gd .., _, _, _, _, h => by simp only [Rep] at h; exact h.1
  | .agg cs, _, _, _, hn, h => by
    simp only [Rep, NoOwn] at h hn
    obtain ⟨us, _, h⟩ := h
    exact NoOwnL.fp cs hn h
  | .tup cs, _, _, _, hn, h => by
    simp only [Rep, NoOwn] at h hn
    obtain ⟨us, _, h⟩ := h
    exact NoOwnL.fp cs hn h
  | .sl (some _) _ _ _, _, _, _, hn, _ => by simp [NoOwn] at hn
  | .sl none _ _ _, _, _, _, _, h => by
    simp only [Rep] at h
    rcases h with h | ⟨_, _, _, _, _, _, _, _, _, h⟩
    · exact h.2.2
    · exact h.2.1
theorem NoOwnL.fp {w : World} {M : Nat → Prop} : ∀ (xs : List AV) {μ : Map} {us : List Value} {fp : List Nat}, NoOwnL xs → RepL w M xs μ us fp → fp = []
  | [], _, _, _, _, h => by simp only [RepL] at h; exact h.2
  | x :: xs, _, _, _, hn, h => by
    simp only [RepL, NoOwnL] at h hn
    obtain ⟨u, us', f1, f2, _, rfl, h1, h2⟩ := h
    rw [NoOwn.fp x hn.1 h1, NoOwnL.fp xs hn.2 h2]
    rfl
end

mutual
theorem FlatO.tops {w : World} {M : Nat → Prop} : ∀ (x : AV) {μ : Map} {v : Value} {fp : List Nat}, FlatO x → Rep w M x μ v fp → ∀ b, b ∈ fp → b ∈ tops x v
  | .int _ _, _, _, _, _, h => by simp only [Rep] at h; simp [h.2]
  | .bool _, _, _, _, _, h => by simp only [Rep] at h; simp [h.2]
  | .str _, _, _, _, _, h => by simp only [Rep] at h; simp [h.2]
  | .nils, _, _, _, _, h => by simp only [Rep] at h; simp [h.2]
  | .any, _, _, _, _, h => by simp only [Rep] at h; simp [h]
  | .ref .., _, _, _, _, h => by simp only [Rep] at h; simp [h.1]
  | .ptr .., _, _, _, _, h => by simp only [Rep] at h; simp [h.1]
  | .pe .., _, _, _, _, h => by simp only [Rep] at h; simp [h.1]
  | .ep _, _, _, _, _, h => by simp only [Rep] at h; simp [h.1]
  | .fn .., _, _, _, _, h => by simp only [Rep] at h; simp [h.1]
  | .gd .., _, _, _, _, h => by simp only [Rep] at h; simp [h.1]
  | .agg cs, _, _, _, hn, h => by
    simp only [Rep, FlatO] at h hn
    obtain ⟨us, rfl, h⟩ := h
    simpa only [Go.Ab.tops] using FlatOL.tops cs hn h
  | .tup cs, _, _, _, hn, h => by
    simp only [Rep, FlatO] at h hn
    obtain ⟨us, rfl, h⟩ := h
    simpa only [Go.Ab.tops] using FlatOL.tops cs hn h
  | .sl none _ _ _, _, _, _, _, h => by
    have := NoOwn.fp (.sl none _ _ _) (by simp [NoOwn]) h
    simp [this]
  | .sl (some _) e n f, _, v, fp, hn, h => by
    simp only [Rep, FlatO] at h hn
    rcases h with h | ⟨b', o, cap, us, fps, rfl, hnn, hb', hc, rfl, rfl, _⟩
    · simp [h.2.2]
    · intro b hb
      have hz : (List.range n).flatMap fps = [] := by
        apply List.eq_nil_iff_forall_not_mem.2
        intro z hz
        obtain ⟨i, hi, hzi⟩ := List.mem_flatMap.1 hz
        have hi := List.mem_range.1 hi
        rw [NoOwnL.fp (f i) (hn i hi) (hc i hi).1] at hzi
        simp at hzi
      rw [hz] at hb
      simpa [Go.Ab.tops, topOf] using hb
theorem FlatOL.tops {w : World} {M : Nat → Prop} : ∀ (xs : List AV) {μ : Map} {us : List Value} {fp : List Nat}, FlatOL xs → RepL w M xs μ us fp → ∀ b, b ∈ fp → b ∈ topsL xs us
  | [], _, _, _, _, h => by simp only [RepL] at h; simp [h.2]
  | x :: xs, _, _, _, hn, h => by
    simp only [RepL, FlatOL] at h hn
    obtain ⟨u, us', f1, f2, rfl, rfl, h1, h2⟩ := h
    intro b hb
    simp only [topsL, List.mem_append] at hb ⊢
    exact hb.imp (FlatO.tops x hn.1 h1 b) (FlatOL.tops xs hn.2 h2 b)
end

section
variable {c : Ctx} {μ : Map} {w : World} {h0 : List Ent}

/-- blocks that owned slices made from live entries begin in were live entries' own -/
theorem absC_tops {h h' : List Ent} {x y : AV} {v : Value} {ob : List Prop} (hsub : ∀ (id : Nat) (e : Ent), nthE h id = some e → e.live = true → nthE h0 id = some e)
    (hx : Rep w (hot c.M0 (Hof h0) μ) x μ v []) (ha : absC h x = some (y, h', ob)) : ∀ b, b ∈ tops y v → hot c.M0 (Hof h0) μ b := by
  cases x with
  | ref id e off n =>
    simp only [absC] at ha
    split at ha
    · rename_i T e' n' f hid
      split at ha
      · rename_i hee
        subst hee
        simp only [Option.some.injEq, Prod.mk.injEq] at ha
        obtain ⟨rfl, rfl, rfl⟩ := ha
        simp only [Rep] at hx
        obtain ⟨_, hx⟩ := hx
        cases hm : μ id with
        | none => simp [hm] at hx
        | some L =>
          cases L with
          | nil =>
            simp only [hm] at hx
            obtain ⟨_, rfl, rfl⟩ := hx
            simp [tops, topOf]
          | blk b cap =>
            simp only [hm] at hx
            obtain ⟨hcap, o, rfl, hoo⟩ := hx
            intro z hz
            simp only [tops, topOf, List.mem_singleton] at hz
            subst hz
            exact .inr ⟨id, cap, _, hm, hsub id _ hid rfl, rfl⟩
      · simp at ha
    · simp at ha
  | sl own e n f =>
    cases own with
    | none => simp only [absC, Option.some.injEq, Prod.mk.injEq] at ha; obtain ⟨rfl, rfl, rfl⟩ := ha; simp [tops, topOf]
    | some T => simp [absC] at ha
  | int _ _ => simp only [absC, Option.some.injEq, Prod.mk.injEq] at ha; obtain ⟨rfl, rfl, rfl⟩ := ha; simp [tops, topOf]
  | bool _ => simp only [absC, Option.some.injEq, Prod.mk.injEq] at ha; obtain ⟨rfl, rfl, rfl⟩ := ha; simp [tops, topOf]
  | str _ => simp only [absC, Option.some.injEq, Prod.mk.injEq] at ha; obtain ⟨rfl, rfl, rfl⟩ := ha; simp [tops, topOf]
  | nils => simp only [absC, Option.some.injEq, Prod.mk.injEq] at ha; obtain ⟨rfl, rfl, rfl⟩ := ha; simp [tops, topOf]
  | _ => simp [absC] at ha

theorem absC_sub {h h' : List Ent} {x y : AV} {ob : List Prop} (ha : absC h x = some (y, h', ob)) : ∀ (id : Nat) (e : Ent), nthE h' id = some e → e.live = true → nthE h id = some e := by
  have same : h' = h → ∀ (id : Nat) (e : Ent), nthE h' id = some e → e.live = true → nthE h id = some e := by rintro rfl id e he _; exact he
  cases x with
  | ref id e off n =>
    simp only [absC] at ha
    split at ha
    · split at ha
      · simp only [Option.some.injEq, Prod.mk.injEq] at ha
        obtain ⟨rfl, rfl, rfl⟩ := ha
        intro i e he hl
        rw [nthE_setE] at he
        split at he
        · cases he; simp [Ent.live] at hl
        · exact he
      · simp at ha
    · simp at ha
  | sl own e n f =>
    cases own with
    | none => simp only [absC, Option.some.injEq, Prod.mk.injEq] at ha; exact same ha.2.1.symm
    | some T => simp [absC] at ha
  | int _ _ => simp only [absC, Option.some.injEq, Prod.mk.injEq] at ha; exact same ha.2.1.symm
  | bool _ => simp only [absC, Option.some.injEq, Prod.mk.injEq] at ha; exact same ha.2.1.symm
  | str _ => simp only [absC, Option.some.injEq, Prod.mk.injEq] at ha; exact same ha.2.1.symm
  | nils => simp only [absC, Option.some.injEq, Prod.mk.injEq] at ha; exact same ha.2.1.symm
  | _ => simp [absC] at ha

theorem absL_tops : ∀ {xs : List AV} {h h' : List Ent} {ys : List AV} {us : List Value} {ob : List Prop}, (∀ (id : Nat) (e : Ent), nthE h id = some e → e.live = true → nthE h0 id = some e) →
    RepL w (hot c.M0 (Hof h0) μ) xs μ us [] → absL h xs = some (ys, h', ob) → (∀ b, b ∈ topsL ys us → hot c.M0 (Hof h0) μ b) ∧ ∀ (id : Nat) (e : Ent), nthE h' id = some e → e.live = true → nthE h id = some e
  | [], h, h', ys, us, ob, hsub, hx, ha => by
    simp only [absL, Option.some.injEq, Prod.mk.injEq] at ha
    obtain ⟨rfl, rfl, rfl⟩ := ha
    exact ⟨by simp [topsL], fun _ _ he _ => he⟩
  | x :: xs, h, h', ys, us, ob, hsub, hx, ha => by
    simp only [absL] at ha
    cases h1 : absC h x with
    | none => simp [h1] at ha
    | some p =>
      obtain ⟨y, h2, o1⟩ := p
      simp only [h1] at ha
      cases h3 : absL h2 xs with
      | none => simp [h3] at ha
      | some q =>
        obtain ⟨ys', h4, o2⟩ := q
        simp only [h3, Option.some.injEq, Prod.mk.injEq] at ha
        obtain ⟨rfl, rfl, rfl⟩ := ha
        simp only [RepL] at hx
        obtain ⟨u, us', f1, f2, rfl, e2, hu, hus⟩ := hx
        obtain ⟨rfl, rfl⟩ := List.append_eq_nil_iff.1 e2.symm
        have hs1 := absC_sub h1
        have ih := absL_tops (fun id e he hl => hsub id e (hs1 id e he hl) hl) hus h3
        refine ⟨?_, fun id e he hl => hs1 id e (ih.2 id e he hl) hl⟩
        intro b hb
        simp only [topsL, List.mem_append] at hb
        exact hb.elim (absC_tops hsub hu h1 b) (ih.1 b)

theorem absV_tops {h h' : List Ent} {x y : AV} {v : Value} {ob : List Prop} (hsub : ∀ (id : Nat) (e : Ent), nthE h id = some e → e.live = true → nthE h0 id = some e)
    (hx : Rep w (hot c.M0 (Hof h0) μ) x μ v []) (ha : absV h x = some (y, h', ob)) : (∀ b, b ∈ tops y v → hot c.M0 (Hof h0) μ b) ∧ ∀ (id : Nat) (e : Ent), nthE h' id = some e → e.live = true → nthE h id = some e := by
  cases x with
  | agg cs =>
    simp only [absV] at ha
    cases h1 : absL h cs with
    | none => simp [h1] at ha
    | some p =>
      obtain ⟨ys, h2, o1⟩ := p
      simp only [h1, Option.some.injEq, Prod.mk.injEq] at ha
      obtain ⟨rfl, rfl, rfl⟩ := ha
      simp only [Rep] at hx
      obtain ⟨us, rfl, hus⟩ := hx
      have := absL_tops hsub hus h1
      exact ⟨by simpa only [tops] using this.1, this.2⟩
  | _ =>
    refine ⟨absC_tops hsub hx ha, ?_⟩
    simp only [absV] at ha
    exact absC_sub ha

theorem absVL_tops : ∀ {xs : List AV} {h h' : List Ent} {ys : List AV} {us : List Value} {ob : List Prop}, (∀ (id : Nat) (e : Ent), nthE h id = some e → e.live = true → nthE h0 id = some e) →
    RepL w (hot c.M0 (Hof h0) μ) xs μ us [] → absVL h xs = some (ys, h', ob) → ∀ b, b ∈ topsL ys us → hot c.M0 (Hof h0) μ b
  | [], h, h', ys, us, ob, hsub, hx, ha => by
    simp only [absVL, Option.some.injEq, Prod.mk.injEq] at ha
    obtain ⟨rfl, rfl, rfl⟩ := ha
    simp [topsL]
  | x :: xs, h, h', ys, us, ob, hsub, hx, ha => by
    simp only [absVL] at ha
    cases h1 : absV h x with
    | none => simp [h1] at ha
    | some p =>
      obtain ⟨y, h2, o1⟩ := p
      simp only [h1] at ha
      cases h3 : absVL h2 xs with
      | none => simp [h3] at ha
      | some q =>
        obtain ⟨ys', h4, o2⟩ := q
        simp only [h3, Option.some.injEq, Prod.mk.injEq] at ha
        obtain ⟨rfl, rfl, rfl⟩ := ha
        simp only [RepL] at hx
        obtain ⟨u, us', f1, f2, rfl, e2, hu, hus⟩ := hx
        obtain ⟨rfl, rfl⟩ := List.append_eq_nil_iff.1 e2.symm
        have hs1 := absV_tops hsub hu h1
        have ih := absVL_tops (fun id e he hl => hsub id e (hs1.2 id e he hl) hl) hus h3
        intro b hb
        simp only [topsL, List.mem_append] at hb
        exact hb.elim (hs1.1 b) (ih b)
end
end Go.Ab

namespace Go.Ab
open Go

/-- what the code does, from state to state: N behind it, E at an exit, R at a return -/
def postS (c : Ctx) (N : St → Prop) (E : Nat → St → Prop) (R : St → Prop) : Exit → Act → World → Prop
  | .normal, a, w => ∃ s, N s ∧ WRs c s a w
  | .exit id, a, w => ∃ s, E id s ∧ WRs c s a w
  | .ret, a, w => ∃ s, R s ∧ WRs c s a w
  | _, _, _ => False

structure AWP (P : Program) (c : Ctx) (code : Code) (N : St → Prop) (E : Nat → St → Prop) (R : St → Prop) (s : St) : Prop where
  run : ∀ a w, WRs c s a w → code.wp P (postS c N E R) a w

def exitTo (id : Nat) (N : St → Prop) (E : Nat → St → Prop) : Nat → St → Prop := fun k s => bif Nat.beq k id then N s else E k s

theorem exitTo_here {id : Nat} {N : St → Prop} {E : Nat → St → Prop} {s : St} (h : N s) : exitTo id N E id s := by
  simp only [exitTo, Nat.beq_refl, cond_true]; exact h
theorem exitTo_there {id k : Nat} {N : St → Prop} {E : Nat → St → Prop} {s : St} (hk : Nat.beq k id = false) (h : E k s) : exitTo id N E k s := by
  simp only [exitTo, hk, cond_false]; exact h

def after1 (r : Option (List (Nat × AV) × List Ent × List Prop)) (K : St → Prop) : Prop :=
  match r with
  | some (t, h, ob) => allP ob ∧ K ⟨t, h⟩
  | none => False

def run2 (Γ : Env) (D : Dn) (ops : Array Oper) (m : Nat) (s : St) : Option (List (Nat × AV) × List Ent × List Prop) :=
  match runQ Γ D ops s.h (ops.toList.take m) s.t with
  | some (t1, ob1) => match runA Γ D ops (ops.toList.drop m) t1 s.h with
    | some (t2, h2, ob2) => some (t2, h2, ob1 ++ ob2)
    | none => none
  | none => none

section
variable {P : Program} {Γ : Env} {D : Dn} {c : Ctx} {N : St → Prop} {E : Nat → St → Prop} {R : St → Prop} {s : St}

theorem AWP.mono {code : Code} {N' : St → Prop} {E' : Nat → St → Prop} {R' : St → Prop} (hn : ∀ s, N s → N' s) (he : ∀ k s, E k s → E' k s) (hr : ∀ s, R s → R' s) (h : AWP P c code N E R s) : AWP P c code N' E' R' s :=
  ⟨fun a w hs => wp_mono (h.run a w hs) fun e _ _ hp => by
    cases e with
    | normal => obtain ⟨s', h1, h2⟩ := hp; exact ⟨s', hn s' h1, h2⟩
    | exit id => obtain ⟨s', h1, h2⟩ := hp; exact ⟨s', he id s' h1, h2⟩
    | ret => obtain ⟨s', h1, h2⟩ := hp; exact ⟨s', hr s' h1, h2⟩
    | _ => exact hp.elim⟩

theorem AWP.skip (h : N s) : AWP P c .skip N E R s := ⟨fun _ _ hs => wp_skip ⟨s, h, hs⟩⟩
theorem AWP.exit {id : Nat} (h : E id s) : AWP P c (.exit id) N E R s := ⟨fun _ _ hs => wp_exit ⟨s, h, hs⟩⟩
theorem AWP.ret (h : R s) : AWP P c .ret N E R s := ⟨fun _ _ hs => wp_ret ⟨s, h, hs⟩⟩

theorem AWP.seq {x y : Code} (h : AWP P c x (AWP P c y N E R) E R s) : AWP P c (.seq x y) N E R s := by
  refine ⟨fun a w hs => ?_⟩
  refine wp_seq (wp_mono (h.run a w hs) ?_)
  intro e a w hp
  cases e with
  | normal => obtain ⟨s', h1, h2⟩ := hp; exact h1.run a w h2
  | exit id => exact hp
  | ret => exact hp
  | _ => exact hp.elim

/-- what is known in the middle -/
theorem AWP.seqR {x y : Code} (K : St → Prop) (h : AWP P c x K E R s) (k : ∀ s', K s' → AWP P c y N E R s') : AWP P c (.seq x y) N E R s :=
  AWP.seq (AWP.mono k (fun _ _ h => h) (fun _ h => h) h)

theorem AWP.block {id : Nat} {x : Code} (h : AWP P c x N (exitTo id N E) R s) : AWP P c (.block id x) N E R s := by
  refine ⟨fun a w hs => ?_⟩
  refine wp_block (wp_mono (h.run a w hs) ?_)
  intro e a w hp
  cases e with
  | normal => exact hp
  | exit id' =>
    simp only [Exit.inBlock]
    obtain ⟨s', h1, h2⟩ := hp
    split
    · rename_i hid; subst hid
      simp only [exitTo, Nat.beq_refl, cond_true] at h1
      exact ⟨s', h1, h2⟩
    · rename_i hid
      have hb : Nat.beq id' id = false := by
        cases hq : Nat.beq id' id with
        | false => rfl
        | true => exact absurd (Nat.eq_of_beq_eq_true hq) hid
      simp only [exitTo, hb, cond_false] at h1
      exact ⟨s', h1, h2⟩
  | ret => exact hp
  | _ => exact hp.elim

theorem AWP.cond {o : Operand} {x y : Code} {b : Bool} (ho : opnd s.t o = .bool b) (ht : b = true → AWP P c x N E R s) (hf : b = false → AWP P c y N E R s) : AWP P c (.cond o x y) N E R s := by
  refine ⟨fun a w hs => ?_⟩
  have hr : a.eval o = .bool b := by
    obtain ⟨μ, FP, _, _, hT⟩ := hs
    have := opnd_rep hT o
    rw [ho] at this
    exact this.val_bool
  exact wp_cond_split hr (fun e => (ht e).run a w hs) (fun e => (hf e).run a w hs)

theorem AWP.regS {nt : Nat} (hΓ : TyOk P Γ) (hD : DOk P D) (hn : c.nt = nt) {id : Nat} {ops : Array Oper} (hd : dstOk nt ops.toList = true)
    (h : ∀ K : St → Prop, (∀ s, N s → K s) → after1 (runA Γ D ops ops.toList s.t s.h) K) : AWP P c (.region id ops false) N E R s := by
  refine ⟨fun a w hs => ?_⟩
  have h := h _ fun _ h => h
  unfold after1 at h
  split at h
  · rename_i t' h' ob hr
    exact region_seq hΓ hD hs hr h.1 (by rw [hn]; exact hd) fun a w hs' => ⟨_, h.2, hs'⟩
  · exact h.elim

theorem AWP.regD {nt : Nat} (hmix : P.follows .mixedOrders = true) (hΓ : TyOk P Γ) (hD : DOk P D) (hn : c.nt = nt) {id : Nat} {ops : Array Oper} (m : Nat) (hck : checkAny ops m = true) (hd : dstOk nt ops.toList = true)
    (h : ∀ K : St → Prop, (∀ s, N s → K s) → after1 (run2 Γ D ops m s) K) : AWP P c (.region id ops true) N E R s := by
  refine ⟨fun a w hs => ?_⟩
  have h := h _ fun _ h => h
  unfold after1 at h
  split at h
  · rename_i t' h' ob hr
    unfold run2 at hr
    split at hr
    · rename_i t1 ob1 hq
      split at hr
      · rename_i t2 h2 ob2 hr2
        simp only [Option.some.injEq, Prod.mk.injEq] at hr
        obtain ⟨rfl, rfl, rfl⟩ := hr
        obtain ⟨ho1, ho2⟩ := allP_append.1 h.1
        exact region_any hmix hΓ hD m hs hck (by rw [hn]; exact hd) hq ho1 hr2 ho2 fun a w hs' => ⟨_, h.2, hs'⟩
      · cases hr
    · cases hr
  · exact h.elim
end

/-- the parameters, numbered -/
def pars : Nat → List AV → List (Nat × AV)
  | _, [] => []
  | k, x :: xs => (k, x) :: pars (k + 1) xs

/-- the results, read at the end -/
def resA (Γ : Env) (s : St) : List ResultVar → Option (List AV × List Prop)
  | [] => some ([], [])
  | .tmp t :: rs => match resA Γ s rs with
    | some (xs, ob) => some (get s.t t :: xs, ob)
    | none => none
  | .cell a t :: rs => match loadOp Γ s.h t (get s.t a) with
    | some (x, o1) => match resA Γ s rs with
      | some (xs, ob) => some (x :: xs, o1 ++ ob)
      | none => none
    | none => none

def packA : List AV → AV
  | [y] => y
  | ys => .tup ys

mutual
/-- the same as far as it counts -/
def simO : AV → AV → Prop
  | .sl o e n f, .sl o' e' n' f' => o = o' ∧ e = e' ∧ n = n' ∧ ∀ i, i < n → f i = f' i
  | .agg cs, .agg cs' => simOL cs cs'
  | .tup cs, .tup cs' => simOL cs cs'
  | .int k n, .int k' n' => k = k' ∧ n = n'
  | .bool b, .bool b' => b = b'
  | .str b, .str b' => b = b'
  | .nils, .nils => True
  | .nils, .sl none _ n' _ => n' = 0
  | .nils, .sl (some _) _ n' _ => n' = 0
  | x, x' => x = x'
def simOL : List AV → List AV → Prop
  | [], [] => True
  | x :: xs, x' :: xs' => simO x x' ∧ simOL xs xs'
  | _, _ => False
end

mutual
theorem simO_rep {w : World} {M : Nat → Prop} {μ : Map} : ∀ (x x' : AV) {v : Value} {fp : List Nat}, simO x x' → Rep w M x μ v fp → Rep w M x' μ v fp
  | .sl o e n f, x', v, fp, hs, h => by
    cases x' with
    | sl o' e' n' f' =>
      simp only [simO] at hs
      obtain ⟨rfl, rfl, rfl, hf⟩ := hs
      simp only [Rep] at h ⊢
      rcases h with h | ⟨b, o, cap, us, fps, hv, hn, hb, hc, ho⟩
      · exact .inl h
      · exact .inr ⟨b, o, cap, us, fps, hv, hn, hb, fun i hi => by rw [← hf i hi]; exact hc i hi, ho⟩
    | _ => simp [simO] at hs
  | .agg cs, x', v, fp, hs, h => by
    cases x' with
    | agg cs' =>
      simp only [simO] at hs
      simp only [Rep] at h ⊢
      obtain ⟨us, e, h⟩ := h
      exact ⟨us, e, simOL_rep cs cs' hs h⟩
    | _ => simp [simO] at hs
  | .tup cs, x', v, fp, hs, h => by
    cases x' with
    | tup cs' =>
      simp only [simO] at hs
      simp only [Rep] at h ⊢
      obtain ⟨us, e, h⟩ := h
      exact ⟨us, e, simOL_rep cs cs' hs h⟩
    | _ => simp [simO] at hs
  | .int k n, x', v, fp, hs, h => by
    cases x' with
    | int k' n' => simp only [simO] at hs; obtain ⟨rfl, rfl⟩ := hs; exact h
    | _ => simp [simO] at hs
  | .bool k, x', v, fp, hs, h => by
    cases x' with
    | bool k' => simp only [simO] at hs; subst hs; exact h
    | _ => simp [simO] at hs
  | .str k, x', v, fp, hs, h => by
    cases x' with
    | str k' => simp only [simO] at hs; subst hs; exact h
    | _ => simp [simO] at hs
  | .nils, x', v, fp, hs, h => by
    cases x' with
    | nils => exact h
    | sl o e n f =>
      have hn : n = 0 := by cases o <;> simpa only [simO] using hs
      subst hn
      simp only [Rep] at h ⊢
      exact .inl ⟨trivial, h.1, h.2⟩
    | _ => simp [simO] at hs
  | .ref .., x', v, fp, hs, h => by cases x' <;> simp [simO] at hs; obtain ⟨rfl, rfl, rfl, rfl⟩ := hs; exact h
  | .ptr .., x', v, fp, hs, h => by cases x' <;> simp [simO] at hs; obtain ⟨rfl, rfl⟩ := hs; exact h
  | .pe .., x', v, fp, hs, h => by cases x' <;> simp [simO] at hs; obtain ⟨rfl, rfl, rfl, rfl⟩ := hs; exact h
  | .ep .., x', v, fp, hs, h => by cases x' <;> simp [simO] at hs; subst hs; exact h
  | .fn .., x', v, fp, hs, h => by cases x' <;> simp [simO] at hs; obtain ⟨rfl, rfl⟩ := hs; exact h
  | .gd .., x', v, fp, hs, h => by cases x' <;> simp [simO] at hs; obtain ⟨rfl, rfl⟩ := hs; exact h
  | .any, x', v, fp, hs, h => by cases x' <;> simp [simO] at hs; exact h
theorem simOL_rep {w : World} {M : Nat → Prop} {μ : Map} : ∀ (xs xs' : List AV) {us : List Value} {fp : List Nat}, simOL xs xs' → RepL w M xs μ us fp → RepL w M xs' μ us fp
  | [], xs', us, fp, hs, h => by cases xs' <;> simp only [simOL] at hs; exact h
  | x :: xs, xs', us, fp, hs, h => by
    cases xs' <;> simp only [simOL] at hs
    simp only [RepL] at h ⊢
    obtain ⟨u, us', f1, f2, rfl, rfl, h1, h2⟩ := h
    exact ⟨u, us', f1, f2, rfl, rfl, simO_rep x _ hs.1 h1, simOL_rep xs _ hs.2 h2⟩
end

/-- the end of a function: its results, taken over by the caller -/
def Ends (Γ : Env) (rs : List ResultVar) (r : AV) (s : St) : Prop :=
  match resA Γ s rs with
  | some (xs, o1) => match absVL s.h xs with
    | some (ys, _, ob) => allP o1 ∧ allP ob ∧ (NoBorL ys ∨ FlatOL ys) ∧ simO (packA ys) r
    | none => False
  | none => False

mutual
theorem noId_fp {w : World} {M : Nat → Prop} : ∀ (x : AV) {μ : Map} {v : Value} {fp : List Nat}, noId x = true → Rep w M x μ v fp → fp = []
  | .sl (some _) _ _ _, _, _, _, hn, _ => by simp [noId] at hn
  | .agg cs, _, _, _, hn, h => by
    simp only [Rep, noId] at h hn
    obtain ⟨us, _, h⟩ := h
    exact noIdL_fp cs hn h
  | .tup cs, _, _, _, hn, h => by
    simp only [Rep, noId] at h hn
    obtain ⟨us, _, h⟩ := h
    exact noIdL_fp cs hn h
  | .sl none e n f, _, _, _, _, h => NoOwn.fp (.sl none e n f) (by simp [NoOwn]) h
  | .int a b, _, _, _, _, h => NoOwn.fp (.int a b) (by simp [NoOwn]) h
  | .bool a, _, _, _, _, h => NoOwn.fp (.bool a) (by simp [NoOwn]) h
  | .str a, _, _, _, _, h => NoOwn.fp (.str a) (by simp [NoOwn]) h
  | .nils, _, _, _, _, h => NoOwn.fp .nils (by simp [NoOwn]) h
  | .any, _, _, _, hn, _ => by simp [noId] at hn
  | .ref .., _, _, _, hn, _ => by simp [noId] at hn
  | .ptr .., _, _, _, hn, _ => by simp [noId] at hn
  | .pe .., _, _, _, hn, _ => by simp [noId] at hn
  | .gd .., _, _, _, hn, _ => by simp [noId] at hn
  | .ep cs, _, _, _, _, h => NoOwn.fp (.ep cs) (by simp [NoOwn]) h
  | .fn f cs, _, _, _, _, h => NoOwn.fp (.fn f cs) (by simp [NoOwn]) h
theorem noIdL_fp {w : World} {M : Nat → Prop} : ∀ (xs : List AV) {μ : Map} {us : List Value} {fp : List Nat}, noIdL xs = true → RepL w M xs μ us fp → fp = []
  | [], _, _, _, _, h => by simp only [RepL] at h; exact h.2
  | x :: xs, _, _, _, hn, h => by
    simp only [RepL, noIdL] at h hn
    cases hx : noId x with
    | false => simp [hx] at hn
    | true =>
      simp only [hx] at hn
      obtain ⟨u, us', f1, f2, _, rfl, h1, h2⟩ := h
      rw [noId_fp x hx h1, noIdL_fp xs hn h2]
      rfl
end

section
variable {P : Program}

theorem get_pars {w : World} {M : Nat → Prop} {μ : Map} : ∀ {xs : List AV} {vs : List Value} (k i : Nat) (rest : List Value), RepL w M xs μ vs [] → k ≤ i → Rep w M (get (pars k xs) i) μ (((vs ++ rest)[i - k]?).getD undef) []
  | [], vs, k, i, rest, h, hi => by simp [pars, get, Rep]
  | x :: xs, vs, k, i, rest, h, hi => by
    simp only [RepL] at h
    obtain ⟨u, us', f1, f2, rfl, e2, h1, h2⟩ := h
    obtain ⟨rfl, rfl⟩ := List.append_eq_nil_iff.1 e2.symm
    simp only [pars, get]
    cases hb : Nat.beq i k with
    | true =>
      have := Nat.eq_of_beq_eq_true hb
      subst this
      simpa using h1
    | false =>
      have hne : i ≠ k := by rintro rfl; simp at hb
      have := get_pars (k + 1) i rest h2 (by omega)
      have e : i - k = (i - (k + 1)) + 1 := by omega
      rw [e]
      simpa using this

theorem asAddr_of_loadAt {w : World} {t : TypeId} {u z : Value} (h : (Instr.loadAt t u).run P w = .ok z w) : (do loadVar t (← asAddr u) : Sem Value).run P w = .ok z w := by
  unfold Instr.loadAt Instr.sureAddr at h
  split at h
  · simpa [asAddr] using h
  · simp at h

theorem run_res {Γ : Env} (hΓ : TyOk P Γ) {c : Ctx} {μ : Map} {FP : Nat → List Nat} {w : World} {s : St} (hW : WR c (Hof s.h) μ FP w) (tmps : Array Value) (h : ∀ i, Rep w (hot c.M0 (Hof s.h) μ) (get s.t i) μ (tmps.getD i undef) [])
    {g : ResultVar → Sem Value} (hg : ∀ t, g (.tmp t) = pure (tmps.getD t undef)) (hg2 : ∀ a t, g (.cell a t) = do loadVar t (← asAddr (tmps.getD a undef))) : ∀ {rs : List ResultVar} {xs : List AV} {ob : List Prop}, resA Γ s rs = some (xs, ob) → allP ob →
    ∃ us, (rs.mapM g).run P w = .ok us w ∧ RepL w (hot c.M0 (Hof s.h) μ) xs μ us []
  | [], xs, ob, hr, _ => by
    simp only [resA, Option.some.injEq, Prod.mk.injEq] at hr
    obtain ⟨rfl, _⟩ := hr
    exact ⟨[], rfl, by simp [RepL]⟩
  | .tmp t :: rs, xs, ob, hr, ho => by
    simp only [resA] at hr
    cases h1 : resA Γ s rs with
    | none => simp [h1] at hr
    | some p =>
      obtain ⟨xs', ob'⟩ := p
      simp only [h1, Option.some.injEq, Prod.mk.injEq] at hr
      obtain ⟨rfl, rfl⟩ := hr
      obtain ⟨us, h2, h3⟩ := run_res hΓ hW tmps h hg hg2 h1 ho
      refine ⟨tmps.getD t undef :: us, ?_, ?_⟩
      · rw [List.mapM_cons, Sem.run_bind, hg]
        simp only [Sem.run_pure, Result.andThen_ok, Sem.run_bind, h2]
      · simp only [RepL]
        exact ⟨_, _, [], [], rfl, rfl, h t, h3⟩
  | .cell a t :: rs, xs, ob, hr, ho => by
    simp only [resA] at hr
    cases h0 : loadOp Γ s.h t (get s.t a) with
    | none => simp [h0] at hr
    | some q =>
      obtain ⟨x, o1⟩ := q
      simp only [h0] at hr
      cases h1 : resA Γ s rs with
      | none => simp [h1] at hr
      | some p =>
        obtain ⟨xs', ob'⟩ := p
        simp only [h1, Option.some.injEq, Prod.mk.injEq] at hr
        obtain ⟨rfl, rfl⟩ := hr
        obtain ⟨ho1, ho2⟩ := allP_append.1 ho
        obtain ⟨us, h2, h3⟩ := run_res hΓ hW tmps h hg hg2 h1 ho2
        obtain ⟨z, h4, h5⟩ := loadOp_sound (P := P) hΓ hW (h := s.h) (fun i _ he _ => he) h0 ho1 (h a)
        refine ⟨z :: us, ?_, ?_⟩
        · rw [List.mapM_cons, Sem.run_bind, hg2, asAddr_of_loadAt h4]
          simp only [Sem.run_pure, Result.andThen_ok, Sem.run_bind, h2]
        · simp only [RepL]
          exact ⟨_, _, [], [], rfl, rfl, h5, h3⟩

theorem pack_rep {w : World} {M : Nat → Prop} {ys : List AV} {us : List Value} {fp : List Nat} (h : RepL w M ys noMap us fp) :
    Rep w M (packA ys) noMap (if h : us.toArray.size = 1 then us.toArray[0] else .tuple us.toArray) fp := by
  match ys, us, h with
  | [], us, h =>
    simp only [RepL] at h
    obtain ⟨rfl, rfl⟩ := h
    simp [packA, Rep, RepL]
  | [y], us, h =>
    simp only [RepL] at h
    obtain ⟨u, us', f1, f2, rfl, rfl, h1, rfl, rfl⟩ := h
    simpa [packA] using h1
  | y :: z :: ys, us, h =>
    have hl := h.length
    have hne : ¬ us.toArray.size = 1 := by simp [hl]
    rw [dif_neg hne]
    simp only [packA, Rep]
    exact ⟨us, rfl, h⟩

/-- THE RULE OF THE FUNCTION -/
theorem den_intro {f : FuncId} {fn : Func} {code : Code} {xs : List AV} {r : AV} {N : Nat} {rs : List ResultVar} {Γ : Env} (hΓ : TyOk P Γ) (hf : P.funcs[f]? = some fn) (hname : (fn.name == "runtime.NumGoroutine") = false) (hb : fn.body = some code)
    (hN : fn.ntmps = N) (hr : fn.results.toList = rs) (hlen : xs.length ≤ N) (hx : noIdL xs = true) (h : ∀ c : Ctx, c.nt = N → AWP P c code (Ends Γ rs r) (fun _ _ => False) (Ends Γ rs r) ⟨pars 0 xs, []⟩) : Den P f xs r := by
  refine ⟨⟨fn, hf, hname, by rw [hb]; rfl⟩, ?_⟩
  intro w M vs fpA hA hAn hAm hM
  have hfpA : fpA = [] := noIdL_fp xs hx hA
  subst hfpA
  have htop : topsL xs vs = [] := by
    apply List.eq_nil_iff_forall_not_mem.2
    intro b hb
    have := tops_fpL xs hA b hb
    simp at this
  rw [htop] at hA ⊢
  let c : Ctx := { w0 := w, M0 := M, F0 := [], T0 := [], nt := N, cold0 := fun b hb => ⟨hM b hb, by simp⟩, own0 := by simp, top0 := by simp }
  have hhot : ∀ b, hot c.M0 (Hof []) noMap b → M b := by
    rintro b (hb | ⟨id, cap, e, hm, _⟩)
    · exact hb
    · cases hm
  have hA' : RepL w (hot c.M0 (Hof []) noMap) xs noMap vs [] := snapL_mono (fun b hb => .inl (hhot b hb)) hA
  have hvl := hA.length
  refine calls_of_wp hf hb ?_
  refine wp_mono ((h c rfl).run _ _ ⟨noMap, fun _ => [], ⟨⟨rfl, rfl, rfl, Nat.le_refl _, fun _ _ _ => rfl⟩, ?_, ?_, ?_, ?_, ?_, ?_⟩, ?_, ?_, ?_, rfl⟩) ?_
  · intro id L hm; cases hm
  · intro _ _; rfl
  · intro _; simp
  · intro i j _ b hb; simp at hb
  · intro i b hb; simp at hb
  · intro id b cap e hm; cases hm
  · intro _ _; rfl
  · intro i
    have := get_pars (k := 0) (i := i) (rest := (Array.replicate (fn.ntmps - vs.toArray.size) undef).toList) hA' (Nat.zero_le _)
    have e : (vs.toArray ++ Array.replicate (fn.ntmps - vs.toArray.size) undef).getD i undef = (((vs ++ (Array.replicate (fn.ntmps - vs.toArray.size) undef).toList)[i - 0]?).getD undef) := by
      rw [Array.getD_eq_getD_getElem?, ← Array.getElem?_toList]
      simp
    rw [e]
    exact this
  · simp only [Array.size_append, List.size_toArray, Array.size_replicate]
    show vs.length + (fn.ntmps - vs.length) = N
    omega
  · intro e a w' hp
    have main : ∀ s', Ends Γ rs r s' → WRs c s' a w' → bodyPost P fn (fun e w' => ∃ v fpR, e = .returned v ∧ Keep w [] w' ∧ Rep w' (fun b => M b ∨ b ∈ fpR) r noMap v fpR ∧ fpR.Nodup ∧
        (∀ b, b ∈ fpR → (b ∈ ([] : List Nat) ∨ w.heap.size ≤ b) ∧ b < w'.heap.size) ∧ (∀ b, b ∈ tops r v → b ∈ ([] : List Nat) ∨ w.heap.size ≤ b)) .ret a w' := by
      intro s' hE hs'
      simp only [Ends] at hE
      split at hE
      · rename_i xs0 o1 hres0
        split at hE
        · rename_i ys h' ob habs
          obtain ⟨ho1, ho, hflat, hpack⟩ := hE
          obtain ⟨μ, FP, hW, htl, h1, h2, h3⟩ := hs'
          have hmap : ∃ us, (fn.results.toList.mapM (fun | .tmp t => pure (a.tmps.getD t undef) | .cell b t => do loadVar t (← asAddr (a.tmps.getD b undef)) : ResultVar → Sem Value)).run P w' = .ok us w' ∧ RepL w' (hot c.M0 (Hof s'.h) μ) xs0 μ us [] := by
            rw [hr]
            exact run_res hΓ hW a.tmps h1 (fun _ => rfl) (fun _ _ => rfl) hres0 ho1
          obtain ⟨us, hrun, hres⟩ := hmap
          obtain ⟨K, fp, hr1, hgone, hown⟩ := absVL_gone hW (fun _ _ he _ => he) hres habs ho
          have htops := absVL_tops (fun _ _ he _ => he) hres habs
          have hnew : ∀ b, b ∈ fp → w.heap.size ≤ b ∧ b < w'.heap.size := by
            intro b hb
            obtain ⟨id, _, hid⟩ := hown.2 b hb
            have := hW.new id b hid
            exact ⟨this.1.resolve_left (by simp [c]), this.2⟩
          have hrL : RepL w' (fun b => M b ∨ b ∈ fp) ys noMap us fp := by
            rcases hflat with hnb | hfl
            · exact RepL.noBor ys hnb hr1
            · refine RepL.mono ys (Map.le_refl _) ⟨Nat.le_refl _, fun b _ hb hh => hb ?_, fun _ _ _ => rfl⟩ hr1
              rcases hh with hh | hh
              · exact .inl hh
              · exact htops b (FlatOL.tops ys hfl hr1 b hh)
          refine ⟨h3, (if h : us.toArray.size = 1 then us.toArray[0] else .tuple us.toArray), ?_, _, fp, rfl, hW.keep, ?_, hown.1, fun b hb => ⟨.inr (hnew b hb).1, (hnew b hb).2⟩, ?_⟩
          · unfold results
            rw [Sem.run_bind, ← Array.toArray_toList (xs := fn.results), List.mapM_toArray]
            simp only [Sem.run_map]
            erw [hrun]
            rfl
          · exact simO_rep _ _ hpack (pack_rep hrL)
          · intro b hb
            right
            exact (hnew b (tops_fp r (simO_rep _ _ hpack (pack_rep hrL)) b hb)).1
        · exact hE.elim
      · exact hE.elim
    cases e with
    | normal => obtain ⟨s', h1, h2⟩ := hp; exact main s' h1 h2
    | ret => obtain ⟨s', h1, h2⟩ := hp; exact main s' h1 h2
    | exit id => obtain ⟨s', h1, h2⟩ := hp; exact h1.elim
    | _ => exact hp.elim
end
end Go.Ab

namespace Go.Ab
open Go

theorem nbeq (a b : Nat) : Nat.beq a b = (a == b) := Bool.eq_iff_iff.2 (by simp)

def rho (n0 : Nat) : List Nat → Nat → Nat
  | [], j => n0 + j
  | i :: _, 0 => i
  | _ :: l, j + 1 => rho (n0 + 1) l j

mutual
/-- read in another way: what is known of the old is known of the new; `ρ` leads from the new numbers to the old -/
def simA (ρ : Nat → Nat) : AV → AV → Prop
  | _, .any => True
  | .int k n, .int k' n' => k = k' ∧ n = n'
  | .bool b, .bool b' => b = b'
  | .str l, .str l' => l = l'
  | .nils, .nils => True
  | .agg cs, .agg cs' => simL ρ cs cs'
  | .tup cs, .tup cs' => simL ρ cs cs'
  | .sl o e n f, .sl o' e' n' f' => o = o' ∧ e = e' ∧ n = n' ∧ ∀ i, i < n → f i = f' i
  | .ref id e off n, .ref id' e' off' n' => id = ρ id' ∧ e = e' ∧ off = off' ∧ n = n'
  | .ptr id o, .ptr id' o' => id = ρ id' ∧ o = o'
  | .pe id e i o, .pe id' e' i' o' => id = ρ id' ∧ e = e' ∧ i = i' ∧ o = o'
  | .ep cs, .ep cs' => cs = cs'
  | .fn f cs, .fn f' cs' => f = f' ∧ simL ρ cs cs'
  | .gd gs x, .gd gs' x' => gs = gs' ∧ simA ρ x x'
  | _, _ => False
def simL (ρ : Nat → Nat) : List AV → List AV → Prop
  | [], [] => True
  | x :: xs, x' :: xs' => simA ρ x x' ∧ simL ρ xs xs'
  | _, _ => False
end

def simE (ρ : Nat → Nat) : Ent → Ent → Prop
  | _, .dead => True
  | .box cs, .box cs' => simL ρ cs cs'
  | .arr T e n f, .arr T' e' n' f' => T = T' ∧ e = e' ∧ n = n' ∧ ∀ i, i < n → f i = f' i
  | _, _ => False

def simH (ρ : Nat → Nat) (h : List Ent) : Nat → List Ent → Prop
  | _, [] => True
  | j, e' :: h' => (match nthE h (ρ j) with
    | some e => simE ρ e e'
    | none => False) ∧ simH ρ h (j + 1) h'

def simT (ρ : Nat → Nat) (t : List (Nat × AV)) : List (Nat × AV) → Prop
  | [] => True
  | (i, x') :: t' => simA ρ (get t i) x' ∧ simT ρ t t'

def simS (rl : List Nat) (s s' : St) : Prop :=
  rl.length = s'.h.length ∧ rl.Nodup ∧ simH (rho s.h.length rl) s.h 0 s'.h ∧ simT (rho s.h.length rl) s.t s'.t

theorem rho_ge : ∀ (n0 : Nat) (rl : List Nat) (j : Nat), rl.length ≤ j → n0 ≤ rho n0 rl j
  | n0, [], j, _ => by simp [rho]
  | n0, i :: l, 0, h => by simp at h
  | n0, i :: l, j + 1, h => by
    simp only [rho]
    have := rho_ge (n0 + 1) l j (by simpa using h)
    omega

theorem rho_get : ∀ (n0 : Nat) (rl : List Nat) (j : Nat), j < rl.length → rl[j]? = some (rho n0 rl j)
  | n0, [], j, h => by simp at h
  | n0, i :: l, 0, h => by simp [rho]
  | n0, i :: l, j + 1, h => by
    simp only [rho, List.getElem?_cons_succ]
    exact rho_get (n0 + 1) l j (by simpa using h)

section
variable {w : World} {M M' : Nat → Prop} {μ : Map} {ρ : Nat → Nat}

mutual
theorem simA_rep (hM : ∀ b, M' b → M b) : ∀ (x' x : AV) {v : Value}, simA ρ x x' → Rep w M x μ v [] → Rep w M' x' (fun j => μ (ρ j)) v []
  | .any, x, v, hs, h => by simp [Rep]
  | .int k' n', x, v, hs, h => by
    cases x <;> simp only [simA] at hs
    obtain ⟨rfl, rfl⟩ := hs
    simpa only [Rep] using h
  | .bool b', x, v, hs, h => by
    cases x <;> simp only [simA] at hs
    subst hs
    simpa only [Rep] using h
  | .str b', x, v, hs, h => by
    cases x <;> simp only [simA] at hs
    subst hs
    simpa only [Rep] using h
  | .nils, x, v, hs, h => by
    cases x <;> simp only [simA] at hs
    simpa only [Rep] using h
  | .agg cs', x, v, hs, h => by
    cases x <;> simp only [simA] at hs
    simp only [Rep] at h ⊢
    obtain ⟨us, e, h⟩ := h
    exact ⟨us, e, simL_rep hM cs' _ hs h⟩
  | .tup cs', x, v, hs, h => by
    cases x <;> simp only [simA] at hs
    simp only [Rep] at h ⊢
    obtain ⟨us, e, h⟩ := h
    exact ⟨us, e, simL_rep hM cs' _ hs h⟩
  | .sl o' e' n' f', x, v, hs, h => by
    cases x <;> simp only [simA] at hs
    obtain ⟨rfl, rfl, rfl, hf⟩ := hs
    have h := snap_mono hM h
    simp only [Rep] at h ⊢
    rcases h with h | ⟨b, o, cap, us, fps, hv, hn, hb, hc, ho⟩
    · exact .inl h
    · exact .inr ⟨b, o, cap, us, fps, hv, hn, hb, fun i hi => by rw [← hf i hi]; exact hc i hi, ho⟩
  | .ref id' e' off' n', x, v, hs, h => by
    cases x <;> simp only [simA] at hs
    obtain ⟨rfl, rfl, rfl, rfl⟩ := hs
    simpa only [Rep] using h
  | .ptr id' o', x, v, hs, h => by
    cases x <;> simp only [simA] at hs
    obtain ⟨rfl, rfl⟩ := hs
    simpa only [Rep] using h
  | .pe id' e' i' o', x, v, hs, h => by
    cases x <;> simp only [simA] at hs
    obtain ⟨rfl, rfl, rfl, rfl⟩ := hs
    simpa only [Rep] using h
  | .ep cs', x, v, hs, h => by
    cases x <;> simp only [simA] at hs
    subst hs
    have h := snap_mono hM h
    simpa only [Rep] using h
  | .fn f' cs', x, v, hs, h => by
    cases x <;> simp only [simA] at hs
    obtain ⟨rfl, hs⟩ := hs
    simp only [Rep] at h ⊢
    obtain ⟨e0, us, e, h⟩ := h
    exact ⟨e0, us, e, simL_rep hM cs' _ hs h⟩
  | .gd gs' x', x, v, hs, h => by
    cases x <;> simp only [simA] at hs
    obtain ⟨rfl, hs⟩ := hs
    simp only [Rep] at h ⊢
    exact ⟨h.1, fun hg => simA_rep hM x' _ hs (h.2.1 hg), h.2.2⟩
theorem simL_rep (hM : ∀ b, M' b → M b) : ∀ (xs' xs : List AV) {us : List Value}, simL ρ xs xs' → RepL w M xs μ us [] → RepL w M' xs' (fun j => μ (ρ j)) us []
  | [], xs, us, hs, h => by
    cases xs <;> simp only [simL] at hs
    simpa only [RepL] using h
  | x' :: xs', xs, us, hs, h => by
    cases xs <;> simp only [simL] at hs
    simp only [RepL] at h ⊢
    obtain ⟨u, us', f1, f2, rfl, e2, h1, h2⟩ := h
    obtain ⟨rfl, rfl⟩ := List.append_eq_nil_iff.1 e2.symm
    exact ⟨u, us', [], [], rfl, rfl, simA_rep hM x' _ hs.1 h1, simL_rep hM xs' _ hs.2 h2⟩
end

theorem simH_get {h : List Ent} : ∀ {h' : List Ent} {k j : Nat} {e' : Ent}, simH ρ h k h' → nthE h' j = some e' → ∃ e, nthE h (ρ (k + j)) = some e ∧ simE ρ e e'
  | [], k, j, e', _, he => by simp [nthE] at he
  | x :: h', k, j, e', hs, he => by
    simp only [simH] at hs
    rw [nthE_get] at he
    cases j with
    | zero =>
      simp only [List.getElem?_cons_zero, Option.some.injEq] at he
      subst he
      have := hs.1
      split at this
      · rename_i e heq; exact ⟨e, heq, this⟩
      · exact this.elim
    | succ j =>
      simp only [List.getElem?_cons_succ] at he
      have := simH_get (j := j) hs.2 (by rw [nthE_get]; exact he)
      have e : k + (j + 1) = k + 1 + j := by omega
      rw [e]
      exact this

theorem simT_get {t : List (Nat × AV)} : ∀ {t' : List (Nat × AV)} (i : Nat), simT ρ t t' → simA ρ (get t i) (get t' i)
  | [], i, _ => by simp [get, simA]
  | (j, x') :: t', i, hs => by
    simp only [simT] at hs
    simp only [get]
    cases hb : Nat.beq i j with
    | true =>
      have := Nat.eq_of_beq_eq_true hb
      subst this
      exact hs.1
    | false => exact simT_get i hs.2

theorem simE_live {e e' : Ent} (hs : simE ρ e e') (hl : e'.live = true) : e.live = true := by
  cases e' <;> cases e <;> simp_all [simE, Ent.live]

theorem simE_ok {e e' : Ent} {L : Loc} {fp : List Nat} (hM : ∀ b, M' b → M b) (hs : simE ρ e e') (h : EntOK w M μ e L fp) : EntOK w M' (fun j => μ (ρ j)) e' L (match e' with | .dead => [] | _ => fp) := by
  cases e' with
  | dead => simp [EntOK]
  | box cs' =>
    cases e <;> simp only [simE] at hs
    simp only [EntOK] at h ⊢
    obtain ⟨b, cap, us, T, h1, h2, h3, h4, h5⟩ := h
    exact ⟨b, cap, us, T, h1, h2, h3, h4, simL_rep hM _ _ hs h5⟩
  | arr T' e' n' f' =>
    cases e <;> simp only [simE] at hs
    obtain ⟨rfl, rfl, rfl, hf⟩ := hs
    cases L with
    | nil => simpa only [EntOK] using h
    | blk b cap =>
      simp only [EntOK] at h ⊢
      obtain ⟨cur, us, fps, h1, h2, h3, h4, h5, h6⟩ := h
      refine ⟨cur, us, fps, h1, h2, h3, h4, fun i hi => ?_, h6⟩
      rw [← hf i hi]
      exact ⟨RepL.mono _ (Map.le_refl _) ⟨Nat.le_refl _, fun b _ hb h' => hb (hM b h'), fun _ _ _ => rfl⟩ (h5 i hi).1, (h5 i hi).2⟩
end

theorem WRs.sim {c : Ctx} {rl : List Nat} {s s' : St} {a : Act} {w : World} (hsim : simS rl s s') (hs : WRs c s a w) : WRs c s' a w := by
  obtain ⟨hlen, hnd, hH, hT⟩ := hsim
  obtain ⟨μ, FP, hW, htl, h1, h2, h3⟩ := hs
  generalize hρ : rho s.h.length rl = ρ at hH hT
  have hbig : ∀ j, rl.length ≤ j → μ (ρ j) = none := fun j hj => htl _ (by rw [← hρ]; exact rho_ge _ _ _ hj)
  have hinj : ∀ i j, i ≠ j → i < rl.length → j < rl.length → ρ i ≠ ρ j := by
    intro i j hij hi hj e
    have e1 := rho_get s.h.length rl i hi
    have e2 := rho_get s.h.length rl j hj
    rw [hρ] at e1 e2
    rw [e] at e1
    exact hij ((List.getElem?_inj hi hnd).1 (by rw [e1, e2]))
  have hsmall : ∀ j, j < rl.length → ∃ e e', nthE s'.h j = some e' ∧ nthE s.h (ρ j) = some e ∧ simE ρ e e' := by
    intro j hj
    have : ∃ e', nthE s'.h j = some e' := ⟨s'.h[j], by rw [nthE_get, List.getElem?_eq_getElem (by omega)]⟩
    obtain ⟨e', he'⟩ := this
    obtain ⟨e, he, hs⟩ := simH_get hH he'
    rw [Nat.zero_add] at he
    exact ⟨e, e', he', he, hs⟩
  have hsome : ∀ j L, μ (ρ j) = some L → j < rl.length := fun j L hj => Nat.lt_of_not_le fun h => by rw [hbig j h] at hj; cases hj
  have hhot : ∀ b, hot c.M0 (Hof s'.h) (fun j => μ (ρ j)) b → hot c.M0 (Hof s.h) μ b := by
    rintro b (hb | ⟨id, cap, e', hm, he, hl⟩)
    · exact .inl hb
    · obtain ⟨e, e2, he2, heo, hse⟩ := hsmall id (hsome id _ hm)
      have he' : nthE s'.h id = some e' := he
      rw [he2] at he'; cases he'
      exact .inr ⟨ρ id, cap, e, hm, heo, simE_live hse hl⟩
  let FP' : Nat → List Nat := fun j => match nthE s'.h j with
    | some .dead => []
    | _ => FP (ρ j)
  have hFP : ∀ j b, b ∈ FP' j → b ∈ FP (ρ j) := by
    intro j b hb
    simp only [FP'] at hb
    split at hb
    · simp at hb
    · exact hb
  refine ⟨fun j => μ (ρ j), FP', ⟨hW.keep, ?_, ?_, ?_, ?_, ?_, ?_⟩, ?_, ?_, h2, h3⟩
  · intro id L hm
    obtain ⟨e, e', he', he, hse⟩ := hsmall id (hsome id _ hm)
    obtain ⟨e2, he2, hok⟩ := hW.ent (ρ id) L hm
    have heo : Hof s.h (ρ id) = some e := he
    rw [heo] at he2; cases he2
    refine ⟨e', he', ?_⟩
    have := simE_ok hhot hse hok
    simp only [FP', he']
    cases e' <;> exact this
  · intro id hm
    simp only [FP']
    split
    · rfl
    · exact hW.out _ hm
  · intro id
    simp only [FP']
    split
    · simp
    · exact hW.nodup _
  · intro i j hij b hbi hbj
    have hbi := hFP i b hbi
    have hbj := hFP j b hbj
    have lt : ∀ k, b ∈ FP (ρ k) → k < rl.length := fun k hk => Nat.lt_of_not_le fun h => by rw [hW.out _ (hbig k h)] at hk; simp at hk
    exact hW.disj _ _ (hinj i j hij (lt i hbi) (lt j hbj)) b hbi hbj
  · intro id b hb
    exact hW.new _ b (hFP id b hb)
  · intro id b cap e' hm he hl
    obtain ⟨e, e2, he2, heo, hse⟩ := hsmall id (hsome id _ hm)
    have he' : nthE s'.h id = some e' := he
    rw [he2] at he'; cases he'
    exact hW.top _ b cap e hm heo (simE_live hse hl)
  · intro id hid
    exact hbig id (by omega)
  · intro i
    exact simA_rep hhot _ _ (simT_get i hT) (h1 i)

section
variable {P : Program} {c : Ctx} {N : St → Prop} {E : Nat → St → Prop} {R : St → Prop} {s : St}

theorem AWP.sim {code : Code} {s' : St} (rl : List Nat) (h : AWP P c code N E R s') (hs : simS rl s s') : AWP P c code N E R s := ⟨fun a w hw => h.run a w (hw.sim hs)⟩

/-- THE RULE OF THE LOOP -/
theorem AWP.loop {ι : Type} (I : ι → St) (V : ι → Prop) (m : ι → Nat) {body : Code} (i0 : ι) (h0 : V i0) (rl : List Nat) (hs : simS rl s (I i0))
    (round : ∀ i, V i → AWP P c body (fun s' => ∃ j rl, V j ∧ m j < m i ∧ simS rl s' (I j)) E R (I i)) : AWP P c (.loop body) N E R s := by
  refine ⟨fun a w hw => ?_⟩
  let J : Act → World → Prop := fun a w => ∃ i, V i ∧ WRs c (I i) a w
  let B : Act → World → Nat → Prop := fun a w n => ∃ i, V i ∧ WRs c (I i) a w ∧ m i = n
  have least : ∀ a w, J a w → ∃ n, B a w n ∧ ∀ k, B a w k → n ≤ k := by
    rintro a w ⟨i, hi, hw⟩
    have : ∀ n, B a w n → ∃ n, B a w n ∧ ∀ k, B a w k → n ≤ k := by
      intro n
      induction n using Nat.strongRecOn with
      | _ n ih =>
        intro hn
        by_cases h : ∃ k, k < n ∧ B a w k
        · obtain ⟨k, hk, hb⟩ := h
          exact ih k hk hb
        · exact ⟨n, hn, fun k hk => Nat.le_of_not_lt fun hlt => h ⟨k, hlt, hk⟩⟩
    exact this (m i) ⟨i, hi, hw, rfl⟩
  classical
  let μ : Act → World → Nat := fun a w => if h : J a w then (least a w h).choose else 0
  have hμ : ∀ a w (h : J a w), B a w (μ a w) ∧ ∀ k, B a w k → μ a w ≤ k := by
    intro a w h
    have : μ a w = (least a w h).choose := dif_pos h
    rw [this]
    exact (least a w h).choose_spec
  refine wp_loop J μ ⟨i0, h0, hw.sim hs⟩ ?_
  intro a w hJ
  obtain ⟨⟨i, hi, hwi, hmi⟩, _⟩ := hμ a w hJ
  refine wp_mono ((round i hi).run a w hwi) ?_
  intro e a' w' hp
  cases e with
  | normal =>
    obtain ⟨s', ⟨j, rl', hj, hlt, hsim⟩, hw'⟩ := hp
    have hwj := hw'.sim hsim
    have hJ' : J a' w' := ⟨j, hj, hwj⟩
    refine ⟨hJ', ?_⟩
    have := (hμ a' w' hJ').2 (m j) ⟨j, hj, hwj, rfl⟩
    omega
  | exit id => exact hp
  | ret => exact hp
  | _ => exact hp.elim

theorem WRs.ghost {a : Act} {w : World} {T : TypeId} {e : Nat} {f : Nat → List AV} (i : Nat) (hi : get s.t i = .nils) (hs : WRs c s a w) : WRs c ⟨(i, .ref s.h.length e 0 0) :: s.t, s.h ++ [.arr T e 0 f]⟩ a w := by
  obtain ⟨μ, FP, hW, htl, h1, h2, h3⟩ := hs
  obtain ⟨k1, k2, k3⟩ := hW.put (Free.nil _ _ _) htl (Grow.refl w) (e := .arr T e 0 f) (L := .nil) (fp := []) (by simp) (by simp) (by simp) (fun _ _ => by simp [EntOK])
  refine ⟨_, _, k1, k3, ?_, h2, h3⟩
  intro j
  show Rep w _ (bif Nat.beq j i then _ else get s.t j) _ _ []
  cases hb : Nat.beq j i with
  | true =>
    have := Nat.eq_of_beq_eq_true hb
    subst this
    have hv := h1 j
    rw [hi] at hv
    simp only [Rep] at hv
    simp [Rep, updM, hv.1]
  | false => exact k2.rep (h1 j)

/-- a nil slice in a slot is read as an owned empty one -/
theorem AWP.ghost {code : Code} (i : Nat) (T : TypeId) (e : Nat) (f : Nat → List AV) (hi : get s.t i = .nils) (h : AWP P c code N E R ⟨(i, .ref s.h.length e 0 0) :: s.t, s.h ++ [.arr T e 0 f]⟩) : AWP P c code N E R s :=
  ⟨fun a w hw => h.run a w (hw.ghost i hi)⟩
end
end Go.Ab

namespace Go.Ab
open Go

theorem allP_nil : allP [] = True := rfl

abbrev DF := List AV → Option (AV × Bool × List Prop)

def DD : List (FuncId × DF) → Dn
  | [], _, _ => none
  | (g, d) :: r, f, xs => bif Nat.beq f g then d xs else DD r f xs

def OkD (P : Program) (f : FuncId) (d : DF) : Prop := ∀ xs r z ob, d xs = some (r, z, ob) → allP ob → Den P f xs r

theorem DD_nil (P : Program) : DOk P (DD []) := by intro f xs r z ob h; simp [DD] at h

theorem DD_cons {P : Program} {g : FuncId} {d : DF} {l : List (FuncId × DF)} (h : OkD P g d) (hl : DOk P (DD l)) : DOk P (DD ((g, d) :: l)) := by
  intro f xs r z ob hd ho
  simp only [DD] at hd
  cases hb : Nat.beq f g with
  | true =>
    have := Nat.eq_of_beq_eq_true hb
    subst this
    rw [hb] at hd
    exact h xs r z ob hd ho
  | false =>
    rw [hb] at hd
    exact hl f xs r z ob hd ho

/-- is it an operation of the second part of a region -/
def isLate : Op → Bool
  | .assign _ => true
  | .store .. => true
  | .box .. => true
  | .alloc _ => true
  | .buildSlice .. => true
  | .makeSlice .. => true
  | .call c => match c.callee with
    | .builtin .append => true
    | _ => false
  | _ => false

def autoM : List Oper → Nat
  | [] => 0
  | o :: os => bif isLate o.op then 0 else autoM os + 1

section
variable {P : Program} {Γ : Env} {D : Dn} {c : Ctx} {N : St → Prop} {E : Nat → St → Prop} {R : St → Prop} {s : St}
theorem AWP.regM {nt : Nat} (hmix : P.follows .mixedOrders = true) (hΓ : TyOk P Γ) (hD : DOk P D) (hn : c.nt = nt) {id : Nat} {ops : Array Oper} (hck : checkAny ops (autoM ops.toList) = true) (hd : dstOk nt ops.toList = true)
    (h : ∀ K : St → Prop, (∀ s, N s → K s) → after1 (run2 Γ D ops (autoM ops.toList) s) K) : AWP P c (.region id ops true) N E R s :=
  AWP.regD hmix hΓ hD hn _ hck hd h
end

/-- a list that is only read -/
def encL {α : Type} [Inhabited α] (e : Nat) (enc : α → List AV) (l : List α) : AV := .sl none e l.length (fun i => enc (l.getD i default))
/-- a list that is handed over -/
def ownL {α : Type} [Inhabited α] (T : TypeId) (e : Nat) (enc : α → List AV) (l : List α) : AV := .sl (some T) e l.length (fun i => enc (l.getD i default))
/-- the list that is read -/
def decL {α : Type} (dec : List AV → α) (n : Nat) (f : Nat → List AV) : List α := (List.range n).map fun i => dec (f i)

theorem decL_length {α : Type} (dec : List AV → α) (n : Nat) (f : Nat → List AV) : (decL dec n f).length = n := by simp [decL]

theorem decL_getD {α : Type} [Inhabited α] (dec : List AV → α) (n : Nat) (f : Nat → List AV) (i : Nat) (hi : i < n) : (decL dec n f).getD i default = dec (f i) := by
  simp [decL, List.getD_eq_getElem?_getD, hi]

theorem range_getD {α : Type} [Inhabited α] (l : List α) : (List.range l.length).map (fun i => l.getD i default) = l := by
  apply List.ext_getElem
  · simp
  · intro i h1 h2
    simp [List.getD_eq_getElem?_getD, h2]


/-- arguments that are the same as far as it counts -/
theorem Den.sim {P : Program} {f : FuncId} {xs xs' : List AV} {r : AV} (h : Den P f xs' r) (hs : simOL xs xs') (hx : noIdL xs = true) (hx' : noIdL xs' = true) : Den P f xs r := by
  refine ⟨h.1, ?_⟩
  intro w M vs fpA hA hAn hAm hM
  have htop : ∀ {ys : List AV}, RepL w (fun b => M b ∨ b ∈ topsL xs vs) ys noMap vs [] → topsL ys vs = [] := by
    intro ys hy
    apply List.eq_nil_iff_forall_not_mem.2
    intro b hb
    have := tops_fpL ys hy b hb
    simp at this
  have hfp : fpA = [] := noIdL_fp xs hx hA
  subst hfp
  have hA' := simOL_rep xs xs' hs hA
  have h1 := htop hA
  have h2 := htop hA'
  have := h.2 w M vs [] (by rw [h2]; rw [h1] at hA'; exact hA') hAn hAm hM
  rw [h1]
  rw [h2] at this
  exact this

theorem simO_encL {α : Type} [Inhabited α] {e n : Nat} {x : Nat → List AV} (enc : α → List AV) (dec : List AV → α) (h : ∀ i, i < n → x i = enc (dec (x i))) : simO (.sl none e n x) (encL e enc (decL dec n x)) := by
  simp only [simO, encL, decL_length, true_and]
  intro i hi
  rw [decL_getD dec n x i hi]
  exact h i hi

theorem bif_and (a b : Bool) : (bif a then b else false) = (a && b) := by cases a <;> rfl
theorem bif_or (a b : Bool) : (bif a then true else b) = (a || b) := by cases a <;> rfl
end Go.Ab

namespace Go.Ab
open Go Go.ChangeShapes Go.WideShapes Go.ChangeAt Go.RowKit

theorem Keep.below {W W' : World} (h : Keep W [] W') : Below W.heap.size W W' := ⟨h.os, h.tape, h.output, h.size, fun k hk => h.block k hk (by simp)⟩

theorem Keep.kept {W W' : World} (h : Keep W [] W') (may : MemPlace → Prop) : W.keptBut W' may := by
  refine ⟨h.os, h.output, fun i hi => ?_⟩
  rw [h.block i hi (by simp)]
  split <;> simp_all

theorem trodAll_below {H : Type} {enc : TypeId × Value → H} {P : Program} (hl : laidOutB P = true) {W W' : World} (hb : Below W.heap.size W W') :
    ∀ {ts : List TypeId} {vs : List Value} {ds : List (DataW H)} {ps : List MemPlace}, (ts.all fun t => P.readableRec t && decide (t < P.types.size)) = true → (∀ x ∈ ps, x.block < W.heap.size) →
      DataW.TrodAll enc P W 0 (fun _ => true) true ts vs ds ps → DataW.TrodAll enc P W' 0 (fun b => decide (b < W.heap.size)) true ts vs ds ps
  | [], [], [], ps, _, _, h => h
  | t :: ts, v :: vs, d :: ds, ps, ht, hlt, h => by
    obtain ⟨p, q, h1, h2, rfl⟩ := h
    simp only [List.all_cons, Bool.and_eq_true, decide_eq_true_eq] at ht
    refine ⟨p, q, Below.trod hl ht.1.1 ht.1.2 h1 hb (fun x hx => hlt x (by simp [hx])), trodAll_below hl hb ?_ (fun x hx => hlt x (by simp [hx])) h2, rfl⟩
    simpa using ht.2
  | [], _ :: _, _, _, _, _, h => h.elim
  | [], [], _ :: _, _, _, _, h => h.elim
  | _ :: _, [], _, _, _, _, h => h.elim
  | _ :: _, _ :: _, [], _, _, _, h => h.elim

/-- THE LAW's ROW: it returns true, whatever the input, and its arguments read as they did -/
theorem law_post {H : Type} {enc : TypeId × Value → H} {P : Program} {f : FuncId} {fn : Func} {s : ChangeSpec} {W : World} {args : Array Value} {ds gs : List (DataW H)} {before : List MemPlace} {xs : List AV} {tb : TypeId}
    (hl : laidOutB P = true) (hres : fn.resultTypes = #[tb]) (htb : P.underlying tb = some .bool) (hvars : s.vars = []) (hts : (fn.params.toList.all fun t => P.readableRec t && decide (t < P.types.size)) = true)
    (hs : ∀ p, DataW.TrodAll enc P W 0 (fun _ => true) true fn.params.toList args.toList ds p → (s.fn H (ds ++ gs)).results = [.lit (.bool true)] ∧ (s.fn H (ds ++ gs)).args = ds ∧ (s.fn H (ds ++ gs)).vars = [])
    (hW : DataW.Whole enc P fn.params.toList s.vars false W args.toList ds gs before)
    (hD : Den P f xs (.bool true)) (hx : RepL W (fun _ => False) xs noMap args.toList []) :
    Calls P f args W fun e W' => ∃ v, e = .returned v ∧ s.post enc P fn false true false false W args v W' := by
  have htop : topsL xs args.toList = [] := by
    apply List.eq_nil_iff_forall_not_mem.2
    intro b hb
    have := tops_fpL xs hx b hb
    simp at this
  have hc := hD.2 W (fun _ => False) args.toList [] (by rw [htop]; simpa using hx) (by simp) (by simp) (by simp)
  rw [htop] at hc
  simp only [Array.toArray_toList] at hc
  refine hc.mono ?_
  rintro e W' ⟨v, fpR, rfl, hK, hr, _⟩
  refine ⟨v, rfl, ?_⟩
  have hv := hr.val_bool
  subst hv
  have hlt := hW.lt
  obtain ⟨p, q, hA, hV, hbe, hfz, hnd⟩ := id hW
  obtain ⟨h1, h2, h3⟩ := hs p hA
  have hq : q = [] := by
    rw [hvars] at hV
    cases gs with
    | nil => exact hV
    | cons _ _ => exact hV.elim
  refine ⟨ds, gs, before, [], p, [], hW, ?_, ?_, ?_, hK.kept _, by simp⟩
  · rw [h1, hres]
    exact ⟨[], [], ⟨1, by simp [DataW.trod, htb, Value.cells]⟩, rfl, rfl⟩
  · rw [h2]
    exact trodAll_below hl hK.below hts (fun x hx => hlt x (by rw [hbe]; simp [hx])) hA
  · rw [h3, hvars]
    rfl
end Go.Ab
