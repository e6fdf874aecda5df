/- A part of a proof: walks of functions and lemmas of our own. No conditions. -/
import Derived.Test.YthjljhdfdppkoaaGreatDoorNAc
set_option linter.unusedSectionVars false
set_option linter.unusedVariables false
set_option linter.unusedSimpArgs false
namespace Go.Ab
open Go
variable [Inv]
section
variable {P:Program} {c:Ctx} {μ:Map} {FP:Nat->List Nat} {w:World}
theorem yes {h:List Ent} (hW:WR c (Hof h) μ FP w) {b:Nat} (hb:hot c.M0 (Hof h) μ b):b<w.heap.size:=by
 rcases hb with hb|⟨id,cap,e,hm,he,hl⟩
 ·exact Nat.lt_of_lt_of_le (c.cold0 b hb).1 hW.keep.size
 ·exact(hW.lt hm he hl).2
theorem yxk (h h':List Ent) (j:Nat):nthE (h++h') j=if j<h.length then nthE h j else nthE h' (j-h.length):=by
 rw[yib,yib,yib];split
 ·rename_i hj;rw[List.getElem?_append_left hj]
 ·rename_i hj;rw[List.getElem?_append_right (by omega)]
theorem y3b {ls:List (Loc×List Nat)} (h:(ls.map (·.2)).flatten.Nodup):(∀ (k:Nat) (L:Loc) (fq:List Nat),ls[k]? = some (L,fq)->fq.Nodup) /\
  ∀ (i j:Nat) (L1:Loc) (f1:List Nat) (L2:Loc) (f2:List Nat),i≠j->ls[i]? = some (L1,f1)->ls[j]? = some (L2,f2)->∀ b,b∈f1->b∉f2:=by
 induction ls with
 | nil=>simp
 | cons x ls ih=>
  simp only[List.map_cons,List.flatten_cons,List.nodup_append]at h;obtain⟨ih1,ih2⟩:=ih h.2.1
  have hmem:∀ (j:Nat) (L2:Loc) (f2:List Nat),ls[j]? = some (L2,f2)->∀ b,b∈f2->b∈(ls.map (·.2)).flatten:=fun j L2 f2 hj b hb=>
   List.mem_flatten.2 ⟨f2,List.mem_map.2 ⟨(L2,f2),List.mem_of_getElem? hj,rfl⟩,hb⟩
  constructor
  ·intro k L fq hk
   cases k with
   | zero=>simp only[List.getElem?_cons_zero,Option.some.injEq]at hk;subst hk;exact h.1
   | succ k=>exact ih1 k L fq (by simpa using hk)
  ·intro i j L1 f1 L2 f2 hij hi hj b hb hb2
   cases i with
   | zero=>
    simp only[List.getElem?_cons_zero,Option.some.injEq]at hi;subst hi
    cases j with
    | zero=>exact hij rfl
    | succ j=>exact h.2.2 b hb b (hmem j L2 f2 (by simpa using hj) b hb2) rfl
   | succ i=>
    cases j with
    | zero=>
     simp only[List.getElem?_cons_zero,Option.some.injEq]at hj;subst hj;exact h.2.2 b hb2 b (hmem i L1 f1 (by simpa using hi) b hb) rfl
    | succ j=>exact ih2 i j L1 f1 L2 f2 (by omega) (by simpa using hi) (by simpa using hj) b hb hb2
mutual
theorem ych {w : World} {M : Nat -> Prop} : ∀ (x : AV) {μ : Map} {v : Value} {fp : List Nat}, Rep w M x μ v fp -> ∀ b, b ∈ tops x v -> b ∈ fp
 | .agg cs,μ,v,fp,h,b,hb=>by
  simp only[Rep]at h;obtain⟨us,rfl,h⟩:=h;exact ync cs h b (by simpa only[tops]using hb)
 | .tup cs,μ,v,fp,h,b,hb=>by
  simp only[Rep]at h;obtain⟨us,rfl,h⟩:=h;exact ync cs h b (by simpa only[tops]using hb)
 | .sl (some T) e n f,μ,v,fp,h,b,hb=>by
  simp only[Rep]at h;rcases h with⟨_,rfl,_⟩|⟨b',o,cap,us,fps,rfl,hn,hb',hc,rfl,rfl,_⟩
  ·simp[tops,yec]at hb
  ·simp only[tops,yec,List.mem_singleton]at hb;subst hb;simp
 | .op cs,μ,v,fp,h,b,hb=>by
  simp only[Rep]at h;obtain⟨b',us,T,rfl,rfl,_⟩:=h;simp only[tops,yec,List.mem_singleton]at hb;subst hb;simp
 | .sl none e n f,_,v,_,_,_,hb=>by simp[tops,yec]at hb
 | .int _ _,_,v,_,_,_,hb=>by simp[tops,yec]at hb
 | .bool _,_,v,_,_,_,hb=>by simp[tops,yec]at hb
 | .str _,_,v,_,_,_,hb=>by simp[tops,yec]at hb
 | .nils,_,v,_,_,_,hb=>by simp[tops,yec]at hb
 | .any,_,v,_,_,_,hb=>by simp[tops,yec]at hb
 | .lit ..,_,v,_,_,_,hb=>by simp[tops,yec]at hb
 | .ref ..,_,v,_,_,_,hb=>by simp[tops,yec]at hb
 | .ptr ..,_,v,_,_,_,hb=>by simp[tops,yec]at hb
 | .pe ..,_,v,_,_,_,hb=>by simp[tops,yec]at hb
 | .ep ..,_,v,_,_,_,hb=>by simp[tops,yec]at hb
 | .fn ..,_,v,_,_,_,hb=>by simp[tops,yec]at hb
 | .gd ..,_,v,_,_,_,hb=>by simp[tops,yec]at hb
theorem ync {w : World} {M : Nat -> Prop} : ∀ (xs : List AV) {μ : Map} {vs : List Value} {fp : List Nat}, RepL w M xs μ vs fp -> ∀ b, b ∈ y4 xs vs -> b ∈ fp
 | [],_,_,_,_,b,hb=>by simp[y4]at hb
 | x::xs,μ,vs,fp,h,b,hb=>by
  simp only[RepL]at h;obtain⟨u,us',f1,f2,rfl,rfl,h1,h2⟩:=h;simp only[y4,List.mem_append]at hb;rcases hb with hb|hb
  ·exact List.mem_append_left _ (ych x h1 b hb)
  ·exact List.mem_append_right _ (ync xs h2 b hb)
end
theorem yg2 {h h1 : List Ent} {f : FuncId} {az : List AV} {r : AV} {vs : List Value} {fpA : List Nat} (hW : WR c (Hof h) μ FP w) (hd : Tail h μ) (Kl : List Nat) (hlen : h1.length = h.length)
  (hk1:∀ id,id∈Kl->nthE h1 id=some .dead/\∃ e,nthE h id=some e/\e.live=true) (hk2:∀ id,id∉Kl->nthE h1 id=nthE h id)
  {M:Nat->Prop} (hMhot:∀ b,M b->hot c.M0 (Hof h) μ b) (hA:RepL w (fun b=>M b\/b∈y4 az vs) az yy vs fpA) (hAn:fpA.Nodup) (hAm:∀ b,b∈fpA->¬ M b)
  (hAk:∀ b,b∈fpA->∃ id,id∈Kl/\b∈FP id) (hAt:∀ b,b∈y4 az vs->∃ id,id∈Kl/\∃ cap,μ id=some (.blk b cap))
  (hres:yac r\/∀ b,hot c.M0 (Hof h) μ b->M b\/∃ id,id∈Kl/\∃ cap,μ id=some (.blk b cap)) (hD:Den P f az r) :
  Calls P f vs.toArray w fun e w'=>∃ v μ',e=.returned v/\Next1 c h μ w (h1++adE r) μ' w'/\Rep w' (hot c.M0 (Hof (h1++adE r)) μ') (adR h.length r) μ' v []:=by
 refine(hD.2 w M vs fpA hW.inv (fun b hb=>⟨fun h=>hW.inv_hot hb (hMhot b h),fun h=>by obtain⟨id,_,h2⟩:=hAk b h;exact hW.inv_fp hb id h2⟩) hA hAn hAm (fun b hb=>yes hW (hMhot b hb))).mono ?_;rintro e w' ⟨v,fpR,rfl,hK,hr,hRn,hRm,hRt⟩
 generalize hh2:h1++adE r=h2
 have htopK:∀ id b cap,id∈Kl->μ id=some (.blk b cap)->hot c.M0 (Hof h) μ b/\b∈FP id:=by
  intro id b cap hid hm;obtain⟨_,e0,he,hl⟩:=hk1 id hid;exact⟨.inr ⟨id,cap,e0,hm,he,hl⟩,(hW.lt hm he hl).1⟩
 have hold:∀ id,μ id≠none->id<h.length:=fun id hid=>Nat.lt_of_not_le fun hle=>hid (hd id hle)
 have hH2old:∀ id,id<h.length->Hof h2 id=nthE h1 id:=by
  intro id hid;subst hh2;simp only[Hof,yxk];rw[if_pos (by omega)]
 have hcoldTop:∀ b,b∈y4 az vs->hot c.M0 (Hof h) μ b:=fun b hb=>by
  obtain⟨id,hid,cap,hm⟩:=hAt b hb;exact(htopK id b cap hid hm).1
 -- live blocks of h1 are not handed over
 have hlive1:∀ id b cap e,μ id=some (.blk b cap)->nthE h1 id=some e->e.live=true->hot c.M0 (Hof h) μ b/\∀ id',id'∈Kl->∀ cap',μ id'≠some (.blk b cap'):=by
  intro id b cap e hm he hl;have hnk:id∉Kl:=fun hk=>by rw[(hk1 id hk).1]at he;cases he;simp[Ent.live]at hl
  rw[hk2 id hnk]at he;refine⟨.inr ⟨id,cap,e,hm,he,hl⟩,fun id' hid' cap' hm' => ?_⟩;exact hW.disj id id' (fun e=>hnk (e ▸ hid')) b (hW.lt hm he hl).1 (htopK id' b cap' hid' hm').2
 -- the result,read where only what is live or comes is hot
 have hrX:Rep w' (fun b=>hot c.M0 (Hof h1) μ b\/b∈tops r v) r yy v fpR:=by
  rcases hres with hnb|hop
  ·exact Rep.noBor r hnb hr
  ·refine Rep.mono r (Map.le_refl _) ⟨Nat.le_refl _,fun b _ hb hh=>hb ?_,fun _ _ _=>rfl⟩ hr
   rcases hh with hh|hh
   ·left
    rcases hh with hh|⟨id,cap,e,hm,he,hl⟩
    ·rcases hop b (.inl hh)with h1|⟨id,hid,cap,hm⟩
     ·exact h1
     ·exfalso
      have h2:=(htopK id b cap hid hm).2;have h3:=c.cold0 b hh;rcases(hW.new id b h2).1 with h4|h4
      ·exact h3.2 h4
      ·omega
    ·have hl1:=hlive1 id b cap e hm he hl
     rcases hop b hl1.1 with h1|⟨id',hid',cap',hm'⟩
     ·exact h1
     ·exact absurd hm' (hl1.2 id' hid' cap')
   ·exact .inr (ych r hr b hh)
 obtain⟨ls,hAd,hAdR⟩:=ym1 r hrX;have hlsn:=y3b (ls:=ls) (by rw[<- hAd.fps];exact hRn);let μ':Map:=fun i=>if i<h.length then μ i else(ls[i-h.length]?).map (·.1)
 let FP':Nat->List Nat:=fun i=>if i<h.length then(if i∈Kl then[]else FP i)else((ls[i-h.length]?).map (·.2)).getD []
 have hμold:∀ i,i<h.length->μ' i=μ i:=fun i hi=>by simp only[μ',if_pos hi]
 have hμnew:∀ i,h.length<=i->μ' i=(ls[i-h.length]?).map (·.1):=fun i hi=>by simp only[μ'];rw[if_neg (by omega)]
 have hFold:∀ i,i<h.length->FP' i=if i∈Kl then[]else FP i:=fun i hi=>by simp only[FP',if_pos hi]
 have hFnew:∀ i,h.length<=i->FP' i=((ls[i-h.length]?).map (·.2)).getD []:=fun i hi=>by simp only[FP'];rw[if_neg (by omega)]
 have hHnew:∀ i,h.length<=i->Hof h2 i=(adE r)[i-h.length]? := by
  intro i hi;subst hh2;simp only[Hof,yxk];rw[if_neg (by omega),yib,hlen]
 have hKold:∀ id,id∈Kl->id<h.length:=fun id hid=>by obtain⟨_,e,he,_⟩:=hk1 id hid;exact yad he
 have hle:μ.le μ':=fun i L hi=>by rw[hμold i (hold i (by simp[hi]))];exact hi
 have hlsE:∀ (k:Nat) (L:Loc) (fq:List Nat),ls[k]? = some (L,fq)->∃ e,(adE r)[k]? = some e:=by
  intro k L fq hk;have:k<(adE r).length:=by rw[<- hAd.len];exact(List.getElem?_eq_some_iff.1 hk).1
  exact⟨_,List.getElem?_eq_getElem this⟩
 have hfpR:∀ (k:Nat) (L:Loc) (fq:List Nat),ls[k]? = some (L,fq)->∀ b,b∈fq->b∈fpR:=fun k L fq hk b hb=>by
  rw[hAd.fps];exact List.mem_flatten.2 ⟨fq,List.mem_map.2 ⟨(L,fq),List.mem_of_getElem? hk,rfl⟩,hb⟩
 -- what is hot behind the call
 have hhot':∀ b,hot c.M0 (Hof h2) μ' b->hot c.M0 (Hof h1) μ b\/b∈tops r v:=by
  intro b hb;rcases hb with hb|⟨id,cap,e,hm,he,hl⟩
  ·exact .inl (.inl hb)
  ·by_cases hid:id<h.length
   ·rw[hμold id hid]at hm
    rw[hH2old id hid]at he;exact .inl (.inr ⟨id,cap,e,hm,he,hl⟩)
   ·rw[hμnew id (by omega)]at hm
    rw[hHnew id (by omega)]at he
    cases hls:ls[id-h.length]? with
    | none=>simp[hls]at hm
    | some p=>
     obtain⟨L,fq⟩:=p;simp only[hls,Option.map_some,Option.some.injEq]at hm;subst hm;exact .inr ((hAd.ok _ e _ fq he hls).2 b cap rfl)
 have hup := WR.update (H' := Hof h2) (μ' := μ') (FP' := FP') (w' := w') (fun i => i ∈ Kl) [] hW (Free.nil _ _ _) hK.os hK.tape hK.output hK.size
  (by
   intro b hb;by_cases hbt:b∈y4 az vs
   ·obtain⟨id,hid,cap,hm⟩:=hAt b hbt
    exact .inr ⟨(htopK id b cap hid hm).1,id,hid,(htopK id b cap hid hm).2⟩
   ·exact .inl (hK.block b hb hbt))
  hle
  (by
   intro i hi hk
   rw[hH2old i (hold i hi),hk2 i hk];rfl)
  (by
   intro i hi hk
   rw[hFold i (hold i hi),if_neg hk])
  (by
   intro i L hi hL;by_cases hid:i<h.length
   ·rw[hμold i hid]at hL
    rcases hi with hi|hi
    ·rw[hi]at hL;cases hL
    ·exact⟨.dead,by rw[hH2old i hid];exact(hk1 i hi).1,by rw[hFold i hid,if_pos hi];rfl⟩
   ·rw[hμnew i (by omega)]at hL
    cases hls:ls[i-h.length]? with
    | none=>simp[hls]at hL
    | some p=>
     obtain⟨L',fq⟩:=p;simp only[hls,Option.map_some,Option.some.injEq]at hL;subst hL;obtain⟨e,he⟩:=hlsE _ _ _ hls;refine⟨e,by rw[hHnew i (by omega)];exact he,?_⟩;rw[hFnew i (by omega),hls];simp only[Option.map_some,Option.getD_some]
     exact ylc.mono (Map.le_refl _) ⟨Nat.le_refl _,fun b _ hb hh=>hb (hhot' b hh),fun _ _ _=>rfl⟩ (fun b hb=>(hRm b (hfpR _ _ _ hls b hb)).2) ((hAd.ok _ e _ fq he hls).1 μ'))
  (by
   intro i b cap e hi hm he hl;by_cases hid:i<h.length
   ·rw[hμold i hid]at hm
    rcases hi with hi|hi
    ·rw[hi]at hm;cases hm
    ·rw[hH2old i hid,(hk1 i hi).1]at he;cases he;simp[Ent.live]at hl
   ·have hb:hot c.M0 (Hof h2) μ' b:=.inr ⟨i,cap,e,hm,he,hl⟩
    rw[hμnew i (by omega)]at hm;rw[hHnew i (by omega)]at he
    cases hls:ls[i-h.length]? with
    | none=>simp[hls]at hm
    | some p=>
     obtain⟨L,fq⟩:=p;simp only[hls,Option.map_some,Option.some.injEq]at hm;subst hm;have:=(hAd.ok _ e _ fq he hls).2 b cap rfl;rcases hRt b this with h3|h3
     ·exact .inl (hcoldTop b h3)
     ·exact .inr h3)
  (by
   intro i b hi hb;by_cases hid:i<h.length
   ·rw[hFold i hid]at hb
    split at hb
    ·simp at hb
    ·rename_i hk
     rw[hW.out i (hi.resolve_right hk)]at hb;simp at hb
   ·rw[hFnew i (by omega)]at hb
    cases hls:ls[i-h.length]? with
    | none=>simp[hls]at hb
    | some p=>
     obtain⟨L,fq⟩:=p;simp only[hls,Option.map_some,Option.getD_some]at hb;have h3:=hRm b (hfpR _ _ _ hls b hb);rcases h3.1 with h4|h4
     ·obtain⟨id,hid',hF⟩:=hAk b h4
      exact .inl ⟨id,hid',hF⟩
     ·exact .inr (.inl ⟨h4,h3.2⟩))
  (by
   intro i hi;by_cases hid:i<h.length
   ·rw[hμold i hid]at hi
    rw[hFold i hid];split
    ·rfl
    ·exact hW.out i hi
   ·rw[hμnew i (by omega)]at hi
    rw[hFnew i (by omega)]
    cases hls:ls[i-h.length]? with
    | none=>rfl
    | some p=>simp[hls]at hi)
  (by
   intro i _;by_cases hid:i<h.length
   ·rw[hFold i hid]
    split
    ·simp
    ·exact hW.nodup i
   ·rw[hFnew i (by omega)]
    cases hls:ls[i-h.length]? with
    | none=>simp
    | some p=>obtain⟨L,fq⟩:=p;exact hlsn.1 _ L fq hls)
  (by
   have hempty:∀ i,i<h.length->(μ i=none\/i∈Kl)->FP' i=[]:=by
    intro i hid hi;rw[hFold i hid];split
    ·rfl
    ·rename_i hk;exact hW.out i (hi.resolve_right hk)
   intro i j hij hi hj b hbi hbj;by_cases hid:i<h.length
   ·rw[hempty i hid hi]at hbi;simp at hbi
   ·by_cases hjd:j<h.length
    ·rw[hempty j hjd hj]at hbj;simp at hbj
    ·rw[hFnew i (by omega)]at hbi
     rw[hFnew j (by omega)]at hbj
     cases hli:ls[i-h.length]? with
     | none=>simp[hli]at hbi
     | some p=>
      cases hlj:ls[j-h.length]? with
      | none=>simp[hlj]at hbj
      | some q=>
       obtain⟨L1,f1⟩:=p;obtain⟨L2,f2⟩:=q;simp only[hli,hlj,Option.map_some,Option.getD_some]at hbi hbj
       exact hlsn.2 _ _ L1 f1 L2 f2 (by omega) hli hlj b hbi hbj)
 refine⟨v,μ',rfl,⟨⟨FP',hup.1⟩,?_,hup.2⟩,?_⟩
 ·intro i hi
  subst hh2;rw[List.length_append,hlen]at hi;rw[hμnew i (by omega),List.getElem?_eq_none (by rw[hAd.len];omega)];rfl
 ·refine Rep.mono _ (Map.le_refl _) ⟨Nat.le_refl _,fun b _ hb hh=>hb (hhot' b hh),fun _ _ _=>rfl⟩ (hAdR h.length μ' ?_)
  intro j L fq hj;rw[hμnew _ (by omega),Nat.add_sub_cancel_left,hj];rfl
end
end Go.Ab
namespace Go.Ab
open Go
variable [Inv]
def absV (h : List Ent) : AV -> Option (AV × List Ent × List Prop)
  | .agg cs => match absL h cs with
    | some (ys,h',ob)=>some (.agg ys,h',ob)
    | none=>none
  | x=>absC h x
def ybc (h : List Ent) : List AV -> Option (List AV × List Ent × List Prop)
  | []=>some ([],h,[])
  | x :: xs => match absV h x with
    | some (y, h1, o1) => match ybc h1 xs with
      | some (ys,h2,o2)=>some (y::ys,h2,o1++o2)
      | none=>none
    | none=>none
structure Gone (h h':List Ent) (K:List Nat):Prop where
 sub:∀ (id:Nat) (e:Ent),nthE h' id=some e->e.live=true->nthE h id=some e
 kill:∀ id,id∈K->(∃ e,nthE h id=some e/\e.live=true)/\∀ e,nthE h' id=some e->e.live=false
theorem Gone.refl (h:List Ent):Gone h h []:=⟨fun _ _ he _=>he,by simp⟩
theorem Gone.trans {h h1 h2:List Ent} {K1 K2:List Nat} (a:Gone h h1 K1) (b:Gone h1 h2 K2):Gone h h2 (K1++K2):=by
 refine⟨fun id e he hl=>a.sub id e (b.sub id e he hl) hl,fun id hid => ?_⟩;rcases List.mem_append.1 hid with hid|hid
 ·obtain⟨h1',h2'⟩:=a.kill id hid
  refine⟨h1',fun e he => ?_⟩
  cases hl:e.live with
  | false=>rfl
  | true=>rw[h2' e (b.sub id e he hl)]at hl;cases hl
 ·obtain⟨⟨e,he,hl⟩,h2'⟩:=b.kill id hid
  exact⟨⟨e,a.sub id e he hl,hl⟩,h2'⟩
section
variable {c:Ctx} {μ:Map} {FP:Nat->List Nat} {w:World} {h0:List Ent}
def Owns (FP:Nat->List Nat) (K fp:List Nat):Prop:=fp.Nodup/\∀ b,b∈fp->∃ id,id∈K/\b∈FP id
theorem Owns.app (hW:WR c (Hof h0) μ FP w) {h h1 h2:List Ent} {K1 K2 f1 f2:List Nat} (g1:Gone h h1 K1) (g2:Gone h1 h2 K2) (o1:Owns FP K1 f1) (o2:Owns FP K2 f2):Owns FP (K1++K2) (f1++f2):=by
 refine⟨List.nodup_append.2 ⟨o1.1,o2.1,?_⟩,?_⟩
 ·intro a ha b hb e
  subst e;obtain⟨i,hi,hai⟩:=o1.2 a ha;obtain⟨j,hj,haj⟩:=o2.2 a hb
  have hij:i≠j:=by
   rintro rfl
   obtain⟨⟨e,he,hl⟩,_⟩:=g2.kill i hj;rw[(g1.kill i hi).2 e he]at hl;cases hl
  exact hW.disj i j hij a hai haj
 ·intro b hb
  rcases List.mem_append.1 hb with hb|hb
  ·obtain⟨i,hi,h⟩:=o1.2 b hb;exact⟨i,List.mem_append_left _ hi,h⟩
  ·obtain⟨i,hi,h⟩:=o2.2 b hb;exact⟨i,List.mem_append_right _ hi,h⟩
theorem yki (hW : WR c (Hof h0) μ FP w) {h h' : List Ent} {x y : AV} {v : Value} {ob : List Prop} (hsub : ∀ (id : Nat) (e : Ent), nthE h id = some e -> e.live = true -> nthE h0 id = some e)
  (hx:Rep w (hot c.M0 (Hof h0) μ) x μ v []) (ha:absC h x=some (y,h',ob)) (ho:allP ob) :
  ∃ K fp,Rep w (hot c.M0 (Hof h0) μ) y yy v fp/\Gone h h' K/\Owns FP K fp:=by
 have plain:∀ {z:AV},Rep w (hot c.M0 (Hof h0) μ) z yy v []->z=y->h=h'->∃ K fp,Rep w (hot c.M0 (Hof h0) μ) y yy v fp/\Gone h h' K/\Owns FP K fp:=by
  rintro z hz rfl rfl
  exact⟨[],[],hz,Gone.refl _,by simp[Owns]⟩
 cases x with
 | int k n=>simp only[absC,Option.some.injEq,Prod.mk.injEq]at ha;exact plain (by simpa only[Rep]using hx) ha.1 ha.2.1
 | bool b=>simp only[absC,Option.some.injEq,Prod.mk.injEq]at ha;exact plain (by simpa only[Rep]using hx) ha.1 ha.2.1
 | str l=>simp only[absC,Option.some.injEq,Prod.mk.injEq]at ha;exact plain (by simpa only[Rep]using hx) ha.1 ha.2.1
 | nils=>simp only[absC,Option.some.injEq,Prod.mk.injEq]at ha;exact plain (by simpa only[Rep]using hx) ha.1 ha.2.1
 | sl own e n f=>
  cases own with
  | none=>simp only[absC,Option.some.injEq,Prod.mk.injEq]at ha;exact plain (by simpa only[Rep]using hx) ha.1 ha.2.1
  | some T=>simp[absC]at ha
 | agg _=>simp[absC]at ha
 | tup _=>simp[absC]at ha
 | op _=>simp[absC]at ha
 | ptr id off=>
  simp only[absC]at ha;split at ha
  ·rename_i cs hid
   split at ha
   ·rename_i hp
    simp only[Option.some.injEq,Prod.mk.injEq]at ha;obtain⟨rfl,rfl,rfl⟩:=ha
    have hgone:Gone h (setE h id .dead) [id]:=by
     refine⟨fun i e he hl => ?_,fun i hi => ?_⟩
     ·rw[y9]at he
      split at he
      ·cases he;simp[Ent.live]at hl
      ·exact he
     ·simp only[List.mem_singleton]at hi
      subst hi;refine⟨⟨_,hid,rfl⟩,fun e he => ?_⟩;rw[y9,if_pos ⟨rfl,yad hid⟩]at he;cases he;rfl
    simp only[Rep]at hx;obtain⟨_,b,cap,hm,rfl⟩:=hx;obtain⟨ent,he,hok⟩:=hW.ent id _ hm;have he2:Hof h0 id=some (.box cs):=hsub id _ hid rfl;rw[he2]at he;cases he;obtain⟨b',cap',us,T,h1,h2,hh,hone,hr⟩:=hok;cases h1
    have hblt:b<w.heap.size:=(hW.new id b (by rw[h2];simp)).2;refine⟨[id],[b],?_,hgone,by simp,fun z hz=>⟨id,by simp,by rw[h2];exact hz⟩⟩;simp only[Rep];exact⟨b,us,T,rfl,rfl,hblt,hh,hone,y2b cs hp hr⟩
   ·simp at ha
  ·simp at ha
 | pe _ _ _ _=>simp[absC]at ha
 | ep _=>simp[absC]at ha
 | fn _ _ _=>simp[absC]at ha
 | gd _ _=>simp[absC]at ha
 | any=>simp[absC]at ha
 | lit _ _=>simp[absC]at ha
 | ref id e off n=>
  simp only[absC]at ha;split at ha
  ·rename_i T e' n' f hid
   split at ha
   ·rename_i hee
    subst hee;simp only[Option.some.injEq,Prod.mk.injEq]at ha;obtain⟨rfl,rfl,rfl⟩:=ha;have hn:=ho.1
    have hgone:Gone h (setE h id .dead) [id]:=by
     refine⟨fun i e he hl => ?_,fun i hi => ?_⟩
     ·rw[y9]at he
      split at he
      ·cases he;simp[Ent.live]at hl
      ·exact he
     ·simp only[List.mem_singleton]at hi
      subst hi;refine⟨⟨_,hid,rfl⟩,fun e he => ?_⟩;rw[y9,if_pos ⟨rfl,yad hid⟩]at he;cases he;rfl
    simp only[Rep]at hx;obtain⟨_,hx⟩:=hx
    cases hm:μ id with
    | none=>simp[hm]at hx
    | some L=>
     cases L with
     | nil=>
      simp only[hm]at hx;obtain⟨_,rfl,rfl⟩:=hx;exact⟨[id],[],by simp[Rep,y3e],hgone,by simp[Owns]⟩
     | blk b cap=>
      simp only[hm]at hx;obtain⟨hcap,o,rfl,hoo⟩:=hx;obtain⟨ent,he,hok⟩:=hW.ent id _ hm;have he2:Hof h0 id=some (.arr T e n' f):=hsub id _ hid rfl;rw[he2]at he;cases he;obtain⟨cur,us,fps,hh,h1,h2,h3,hcl,hF⟩:=hok;have hblt:b<w.heap.size:=(hW.new id b (by rw[hF];simp)).2
      have hsl:List.Sublist (b::(List.range n).flatMap fps) (FP id):=by
       rw[hF];exact List.Sublist.cons_cons _ (yhb fps hn)
      refine⟨[id],b::(List.range n).flatMap fps,?_,hgone,hsl.nodup (hW.nodup id),fun z hz=>⟨id,by simp,hsl.subset hz⟩⟩;simp only[Rep];refine .inr ⟨b,0,cap,us,fps,?_,by omega,hblt,?_,rfl,rfl,cur,hh,h1,h3⟩
      ·have:o=0:=by
        rcases hoo with h5|h5
        ·omega
        ·simpa using h5
       subst this;simp
      ·intro i hi
       have:=hcl i (by omega);exact⟨y2b (f i) (ho.2.1 i hi) this.1,this.2.1,by simpa using this.2.2⟩
   ·simp at ha
  ·simp at ha
theorem ypr (hW:WR c (Hof h0) μ FP w):∀ {xs:List AV} {h h':List Ent} {ys:List AV} {us:List Value} {ob:List Prop},(∀ (id:Nat) (e:Ent),nthE h id=some e->e.live=true->nthE h0 id=some e) ->
  RepL w (hot c.M0 (Hof h0) μ) xs μ us []->absL h xs=some (ys,h',ob)->allP ob->∃ K fp,RepL w (hot c.M0 (Hof h0) μ) ys yy us fp/\Gone h h' K/\Owns FP K fp
 | [],h,h',ys,us,ob,hsub,hx,ha,_=>by
  simp only[absL,Option.some.injEq,Prod.mk.injEq]at ha;obtain⟨rfl,rfl,rfl⟩:=ha;simp only[RepL]at hx;exact⟨[],[],by simp only[RepL];exact⟨hx.1,trivial⟩,Gone.refl _,by simp[Owns]⟩
 | x::xs,h,h',ys,us,ob,hsub,hx,ha,ho=>by
  simp only[absL]at ha
  cases h1:absC h x with
  | none=>simp[h1]at ha
  | some p=>
   obtain⟨y,h2,o1⟩:=p;simp only[h1]at ha
   cases h3:absL h2 xs with
   | none=>simp[h3]at ha
   | some q=>
    obtain⟨ys',h4,o2⟩:=q;simp only[h3,Option.some.injEq,Prod.mk.injEq]at ha;obtain⟨rfl,rfl,rfl⟩:=ha;obtain⟨ho1,ho2⟩:=yn.1 ho;simp only[RepL]at hx;obtain⟨u,us',f1,f2,rfl,e2,hu,hus⟩:=hx;obtain⟨rfl,rfl⟩:=List.append_eq_nil_iff.1 e2.symm;obtain⟨K1,g1,r1,go1,ow1⟩:=yki hW hsub hu h1 ho1;obtain⟨K2,g2,r2,go2,ow2⟩:=ypr hW (fun id e he hl=>hsub id e (go1.sub id e he hl) hl) hus h3 ho2;exact⟨K1++K2,g1++g2,by simp only[RepL];exact⟨u,us',g1,g2,rfl,rfl,r1,r2⟩,go1.trans go2,Owns.app hW go1 go2 ow1 ow2⟩
theorem yrs (hW : WR c (Hof h0) μ FP w) {h h' : List Ent} {x y : AV} {v : Value} {ob : List Prop} (hsub : ∀ (id : Nat) (e : Ent), nthE h id = some e -> e.live = true -> nthE h0 id = some e)
  (hx:Rep w (hot c.M0 (Hof h0) μ) x μ v []) (ha:absV h x=some (y,h',ob)) (ho:allP ob) :
  ∃ K fp,Rep w (hot c.M0 (Hof h0) μ) y yy v fp/\Gone h h' K/\Owns FP K fp:=by
 cases x with
 | agg cs=>
  simp only[absV]at ha
  cases h1:absL h cs with
  | none=>simp[h1]at ha
  | some p=>
   obtain⟨ys,h2,o1⟩:=p;simp only[h1,Option.some.injEq,Prod.mk.injEq]at ha;obtain⟨rfl,rfl,rfl⟩:=ha;simp only[Rep]at hx;obtain⟨us,rfl,hus⟩:=hx;obtain⟨K,fp,r,g,o⟩:=ypr hW hsub hus h1 ho;exact⟨K,fp,by simp only[Rep];exact⟨us,rfl,r⟩,g,o⟩
 | _=>exact yki hW hsub hx ha ho
theorem yvg (hW:WR c (Hof h0) μ FP w):∀ {xs:List AV} {h h':List Ent} {ys:List AV} {us:List Value} {ob:List Prop},(∀ (id:Nat) (e:Ent),nthE h id=some e->e.live=true->nthE h0 id=some e) ->
  RepL w (hot c.M0 (Hof h0) μ) xs μ us []->ybc h xs=some (ys,h',ob)->allP ob->∃ K fp,RepL w (hot c.M0 (Hof h0) μ) ys yy us fp/\Gone h h' K/\Owns FP K fp
 | [],h,h',ys,us,ob,hsub,hx,ha,_=>by
  simp only[ybc,Option.some.injEq,Prod.mk.injEq]at ha;obtain⟨rfl,rfl,rfl⟩:=ha;simp only[RepL]at hx;exact⟨[],[],by simp only[RepL];exact⟨hx.1,trivial⟩,Gone.refl _,by simp[Owns]⟩
 | x::xs,h,h',ys,us,ob,hsub,hx,ha,ho=>by
  simp only[ybc]at ha
  cases h1:absV h x with
  | none=>simp[h1]at ha
  | some p=>
   obtain⟨y,h2,o1⟩:=p;simp only[h1]at ha
   cases h3:ybc h2 xs with
   | none=>simp[h3]at ha
   | some q=>
    obtain⟨ys',h4,o2⟩:=q;simp only[h3,Option.some.injEq,Prod.mk.injEq]at ha;obtain⟨rfl,rfl,rfl⟩:=ha;obtain⟨ho1,ho2⟩:=yn.1 ho;simp only[RepL]at hx;obtain⟨u,us',f1,f2,rfl,e2,hu,hus⟩:=hx;obtain⟨rfl,rfl⟩:=List.append_eq_nil_iff.1 e2.symm;obtain⟨K1,g1,r1,go1,ow1⟩:=yrs hW hsub hu h1 ho1;obtain⟨K2,g2,r2,go2,ow2⟩:=yvg hW (fun id e he hl=>hsub id e (go1.sub id e he hl) hl) hus h3 ho2;exact⟨K1++K2,g1++g2,by simp only[RepL];exact⟨u,us',g1,g2,rfl,rfl,r1,r2⟩,go1.trans go2,Owns.app hW go1 go2 ow1 ow2⟩
end
end Go.Ab
namespace Go.Ab
open Go
variable [Inv]
mutual
def yxb : AV -> Prop
 | .sl (some _) _ _ _=>False
 | .op _=>False
 | .agg cs=>yob cs
 | .tup cs=>yob cs
 | _=>True
def yob : List AV -> Prop
 | []=>True
 | x::xs=>yxb x/\yob xs
end
mutual
def ycm : AV -> Prop
 | .sl (some _) _ n f=>∀ i,i<n->yob (f i)
 | .agg cs=>y7c cs
 | .tup cs=>y7c cs
 | _=>True
def y7c : List AV -> Prop
 | []=>True
 | x::xs=>ycm x/\y7c xs
end
mutual
theorem yxb.fp {w : World} {M : Nat -> Prop} : ∀ (x : AV) {μ : Map} {v : Value} {fp : List Nat}, yxb x -> Rep w M x μ v fp -> fp = []
 | .int _ _,_,_,_,_,h=>by simp only[Rep]at h;exact h.2
 | .bool _,_,_,_,_,h=>by simp only[Rep]at h;exact h.2
 | .str _,_,_,_,_,h=>by simp only[Rep]at h;exact h.2
 | .nils,_,_,_,_,h=>by simp only[Rep]at h;exact h.2
 | .any,_,_,_,_,h=>by simpa only[Rep]using h
 | .ref ..,_,_,_,_,h=>by simp only[Rep]at h;exact h.1
 | .ptr ..,_,_,_,_,h=>by simp only[Rep]at h;exact h.1
 | .pe ..,_,_,_,_,h=>by simp only[Rep]at h;exact h.1
 | .ep _,_,_,_,_,h=>by simp only[Rep]at h;exact h.1
 | .fn ..,_,_,_,_,h=>by simp only[Rep]at h;exact h.1
 | .lit ..,_,_,_,_,h=>by simp only[Rep]at h;exact h.1
 | .gd ..,_,_,_,_,h=>by simp only[Rep]at h;exact h.1
 | .agg cs,_,_,_,hn,h=>by
  simp only[Rep,yxb]at h hn;obtain⟨us,_,h⟩:=h;exact yob.fp cs hn h
 | .tup cs,_,_,_,hn,h=>by
  simp only[Rep,yxb]at h hn;obtain⟨us,_,h⟩:=h;exact yob.fp cs hn h
 | .sl (some _) _ _ _,_,_,_,hn,_=>by simp[yxb]at hn
 | .op _,_,_,_,hn,_=>by simp[yxb]at hn
 | .sl none _ _ _,_,_,_,_,h=>by
  simp only[Rep]at h;rcases h with h|⟨_,_,_,_,_,_,_,_,_,h⟩
  ·exact h.2.2
  ·exact h.2.1
theorem yob.fp {w : World} {M : Nat -> Prop} : ∀ (xs : List AV) {μ : Map} {us : List Value} {fp : List Nat}, yob xs -> RepL w M xs μ us fp -> fp = []
 | [],_,_,_,_,h=>by simp only[RepL]at h;exact h.2
 | x::xs,_,_,_,hn,h=>by
  simp only[RepL,yob]at h hn;obtain⟨u,us',f1,f2,_,rfl,h1,h2⟩:=h;rw[yxb.fp x hn.1 h1,yob.fp xs hn.2 h2];rfl
end
mutual
theorem ycm.tops {w : World} {M : Nat -> Prop} : ∀ (x : AV) {μ : Map} {v : Value} {fp : List Nat}, ycm x -> Rep w M x μ v fp -> ∀ b, b ∈ fp -> b ∈ tops x v
 | .int _ _,_,_,_,_,h=>by simp only[Rep]at h;simp[h.2]
 | .bool _,_,_,_,_,h=>by simp only[Rep]at h;simp[h.2]
 | .str _,_,_,_,_,h=>by simp only[Rep]at h;simp[h.2]
 | .nils,_,_,_,_,h=>by simp only[Rep]at h;simp[h.2]
 | .any,_,_,_,_,h=>by simp only[Rep]at h;simp[h]
 | .ref ..,_,_,_,_,h=>by simp only[Rep]at h;simp[h.1]
 | .ptr ..,_,_,_,_,h=>by simp only[Rep]at h;simp[h.1]
 | .pe ..,_,_,_,_,h=>by simp only[Rep]at h;simp[h.1]
 | .ep _,_,_,_,_,h=>by simp only[Rep]at h;simp[h.1]
 | .fn ..,_,_,_,_,h=>by simp only[Rep]at h;simp[h.1]
 | .lit ..,_,_,_,_,h=>by simp only[Rep]at h;simp[h.1]
 | .gd ..,_,_,_,_,h=>by simp only[Rep]at h;simp[h.1]
 | .agg cs,_,_,_,hn,h=>by
  simp only[Rep,ycm]at h hn;obtain⟨us,rfl,h⟩:=h;simpa only[Go.Ab.tops]using y7c.tops cs hn h
 | .tup cs,_,_,_,hn,h=>by
  simp only[Rep,ycm]at h hn;obtain⟨us,rfl,h⟩:=h;simpa only[Go.Ab.tops]using y7c.tops cs hn h
 | .op cs,μ,v,fp,_,h=>by
  simp only[Rep]at h;obtain⟨b',us,T,rfl,rfl,_⟩:=h;intro b hb;simpa [Go.Ab.tops,yec]using hb
 | .sl none _ _ _,_,_,_,_,h=>by
  have:=yxb.fp (.sl none _ _ _) (by simp[yxb]) h;simp[this]
 | .sl (some _) e n f,_,v,fp,hn,h=>by
  simp only[Rep,ycm]at h hn;rcases h with h|⟨b',o,cap,us,fps,rfl,hnn,hb',hc,rfl,rfl,_⟩
  ·simp[h.2.2]
  ·intro b hb
   have hz:(List.range n).flatMap fps=[]:=by
    apply List.eq_nil_iff_forall_not_mem.2;intro z hz;obtain⟨i,hi,hzi⟩:=List.mem_flatMap.1 hz;have hi:=List.mem_range.1 hi;rw[yob.fp (f i) (hn i hi) (hc i hi).1]at hzi;simp at hzi
   rw[hz]at hb;simpa [Go.Ab.tops,yec]using hb
theorem y7c.tops {w : World} {M : Nat -> Prop} : ∀ (xs : List AV) {μ : Map} {us : List Value} {fp : List Nat}, y7c xs -> RepL w M xs μ us fp -> ∀ b, b ∈ fp -> b ∈ y4 xs us
 | [],_,_,_,_,h=>by simp only[RepL]at h;simp[h.2]
 | x::xs,_,_,_,hn,h=>by
  simp only[RepL,y7c]at h hn;obtain⟨u,us',f1,f2,rfl,rfl,h1,h2⟩:=h;intro b hb;simp only[y4,List.mem_append]at hb ⊢;exact hb.imp (ycm.tops x hn.1 h1 b) (y7c.tops xs hn.2 h2 b)
end
section
variable {c:Ctx} {μ:Map} {w:World} {h0:List Ent}
theorem ydi {h h' : List Ent} {x y : AV} {v : Value} {ob : List Prop} (hsub : ∀ (id : Nat) (e : Ent), nthE h id = some e -> e.live = true -> nthE h0 id = some e)
  (hx:Rep w (hot c.M0 (Hof h0) μ) x μ v []) (ha:absC h x=some (y,h',ob)):∀ b,b∈tops y v->hot c.M0 (Hof h0) μ b:=by
 cases x with
 | ref id e off n=>
  simp only[absC]at ha;split at ha
  ·rename_i T e' n' f hid
   split at ha
   ·rename_i hee
    subst hee;simp only[Option.some.injEq,Prod.mk.injEq]at ha;obtain⟨rfl,rfl,rfl⟩:=ha;simp only[Rep]at hx;obtain⟨_,hx⟩:=hx
    cases hm:μ id with
    | none=>simp[hm]at hx
    | some L=>
     cases L with
     | nil=>
      simp only[hm]at hx;obtain⟨_,rfl,rfl⟩:=hx;simp[tops,yec]
     | blk b cap=>
      simp only[hm]at hx;obtain⟨hcap,o,rfl,hoo⟩:=hx;intro z hz;simp only[tops,yec,List.mem_singleton]at hz;subst hz;exact .inr ⟨id,cap,_,hm,hsub id _ hid rfl,rfl⟩
   ·simp at ha
  ·simp at ha
 | ptr id off=>
  simp only[absC]at ha;split at ha
  ·rename_i cs hid
   split at ha
   ·simp only[Option.some.injEq,Prod.mk.injEq]at ha
    obtain⟨rfl,rfl,rfl⟩:=ha;simp only[Rep]at hx;obtain⟨_,b,cap,hm,rfl⟩:=hx;intro z hz;simp only[tops,yec,List.mem_singleton]at hz;subst hz;exact .inr ⟨id,cap,_,hm,hsub id _ hid rfl,rfl⟩
   ·simp at ha
  ·simp at ha
 | sl own e n f=>
  cases own with
  | none=>simp only[absC,Option.some.injEq,Prod.mk.injEq]at ha;obtain⟨rfl,rfl,rfl⟩:=ha;simp[tops,yec]
  | some T=>simp[absC]at ha
 | int _ _=>simp only[absC,Option.some.injEq,Prod.mk.injEq]at ha;obtain⟨rfl,rfl,rfl⟩:=ha;simp[tops,yec]
 | bool _=>simp only[absC,Option.some.injEq,Prod.mk.injEq]at ha;obtain⟨rfl,rfl,rfl⟩:=ha;simp[tops,yec]
 | str _=>simp only[absC,Option.some.injEq,Prod.mk.injEq]at ha;obtain⟨rfl,rfl,rfl⟩:=ha;simp[tops,yec]
 | nils=>simp only[absC,Option.some.injEq,Prod.mk.injEq]at ha;obtain⟨rfl,rfl,rfl⟩:=ha;simp[tops,yec]
 | _=>simp[absC]at ha
theorem ybw {h h':List Ent} {x y:AV} {ob:List Prop} (ha:absC h x=some (y,h',ob)):∀ (id:Nat) (e:Ent),nthE h' id=some e->e.live=true->nthE h id=some e:=by
 have same:h'=h->∀ (id:Nat) (e:Ent),nthE h' id=some e->e.live=true->nthE h id=some e:=by rintro rfl id e he _;exact he
 cases x with
 | ref id e off n=>
  simp only[absC]at ha;split at ha
  ·split at ha
   ·simp only[Option.some.injEq,Prod.mk.injEq]at ha
    obtain⟨rfl,rfl,rfl⟩:=ha;intro i e he hl;rw[y9]at he;split at he
    ·cases he;simp[Ent.live]at hl
    ·exact he
   ·simp at ha
  ·simp at ha
 | ptr id off=>
  simp only[absC]at ha;split at ha
  ·split at ha
   ·simp only[Option.some.injEq,Prod.mk.injEq]at ha
    obtain⟨rfl,rfl,rfl⟩:=ha;intro i e he hl;rw[y9]at he;split at he
    ·cases he;simp[Ent.live]at hl
    ·exact he
   ·simp at ha
  ·simp at ha
 | sl own e n f=>
  cases own with
  | none=>simp only[absC,Option.some.injEq,Prod.mk.injEq]at ha;exact same ha.2.1.symm
  | some T=>simp[absC]at ha
 | int _ _=>simp only[absC,Option.some.injEq,Prod.mk.injEq]at ha;exact same ha.2.1.symm
 | bool _=>simp only[absC,Option.some.injEq,Prod.mk.injEq]at ha;exact same ha.2.1.symm
 | str _=>simp only[absC,Option.some.injEq,Prod.mk.injEq]at ha;exact same ha.2.1.symm
 | nils=>simp only[absC,Option.some.injEq,Prod.mk.injEq]at ha;exact same ha.2.1.symm
 | _=>simp[absC]at ha
theorem yur:∀ {xs:List AV} {h h':List Ent} {ys:List AV} {us:List Value} {ob:List Prop},(∀ (id:Nat) (e:Ent),nthE h id=some e->e.live=true->nthE h0 id=some e) ->
  RepL w (hot c.M0 (Hof h0) μ) xs μ us []->absL h xs=some (ys,h',ob)->(∀ b,b∈y4 ys us->hot c.M0 (Hof h0) μ b)/\∀ (id:Nat) (e:Ent),nthE h' id=some e->e.live=true->nthE h id=some e
 | [],h,h',ys,us,ob,hsub,hx,ha=>by
  simp only[absL,Option.some.injEq,Prod.mk.injEq]at ha;obtain⟨rfl,rfl,rfl⟩:=ha;exact⟨by simp[y4],fun _ _ he _=>he⟩
 | x::xs,h,h',ys,us,ob,hsub,hx,ha=>by
  simp only[absL]at ha
  cases h1:absC h x with
  | none=>simp[h1]at ha
  | some p=>
   obtain⟨y,h2,o1⟩:=p;simp only[h1]at ha
   cases h3:absL h2 xs with
   | none=>simp[h3]at ha
   | some q=>
    obtain⟨ys',h4,o2⟩:=q;simp only[h3,Option.some.injEq,Prod.mk.injEq]at ha;obtain⟨rfl,rfl,rfl⟩:=ha;simp only[RepL]at hx;obtain⟨u,us',f1,f2,rfl,e2,hu,hus⟩:=hx;obtain⟨rfl,rfl⟩:=List.append_eq_nil_iff.1 e2.symm;have hs1:=ybw h1;have ih:=yur (fun id e he hl=>hsub id e (hs1 id e he hl) hl) hus h3;refine⟨?_,fun id e he hl=>hs1 id e (ih.2 id e he hl) hl⟩;intro b hb;simp only[y4,List.mem_append]at hb;exact hb.elim (ydi hsub hu h1 b) (ih.1 b)
theorem yjr {h h' : List Ent} {x y : AV} {v : Value} {ob : List Prop} (hsub : ∀ (id : Nat) (e : Ent), nthE h id = some e -> e.live = true -> nthE h0 id = some e)
  (hx:Rep w (hot c.M0 (Hof h0) μ) x μ v []) (ha:absV h x=some (y,h',ob)):(∀ b,b∈tops y v->hot c.M0 (Hof h0) μ b)/\∀ (id:Nat) (e:Ent),nthE h' id=some e->e.live=true->nthE h id=some e:=by
 cases x with
 | agg cs=>
  simp only[absV]at ha
  cases h1:absL h cs with
  | none=>simp[h1]at ha
  | some p=>
   obtain⟨ys,h2,o1⟩:=p;simp only[h1,Option.some.injEq,Prod.mk.injEq]at ha;obtain⟨rfl,rfl,rfl⟩:=ha;simp only[Rep]at hx;obtain⟨us,rfl,hus⟩:=hx;have:=yur hsub hus h1;exact⟨by simpa only[tops]using this.1,this.2⟩
 | _=>
  refine⟨ydi hsub hx ha,?_⟩;simp only[absV]at ha;exact ybw ha
theorem ywg:∀ {xs:List AV} {h h':List Ent} {ys:List AV} {us:List Value} {ob:List Prop},(∀ (id:Nat) (e:Ent),nthE h id=some e->e.live=true->nthE h0 id=some e) ->
  RepL w (hot c.M0 (Hof h0) μ) xs μ us []->ybc h xs=some (ys,h',ob)->∀ b,b∈y4 ys us->hot c.M0 (Hof h0) μ b
 | [],h,h',ys,us,ob,hsub,hx,ha=>by
  simp only[ybc,Option.some.injEq,Prod.mk.injEq]at ha;obtain⟨rfl,rfl,rfl⟩:=ha;simp[y4]
 | x::xs,h,h',ys,us,ob,hsub,hx,ha=>by
  simp only[ybc]at ha
  cases h1:absV h x with
  | none=>simp[h1]at ha
  | some p=>
   obtain⟨y,h2,o1⟩:=p;simp only[h1]at ha
   cases h3:ybc h2 xs with
   | none=>simp[h3]at ha
   | some q=>
    obtain⟨ys',h4,o2⟩:=q;simp only[h3,Option.some.injEq,Prod.mk.injEq]at ha;obtain⟨rfl,rfl,rfl⟩:=ha;simp only[RepL]at hx;obtain⟨u,us',f1,f2,rfl,e2,hu,hus⟩:=hx;obtain⟨rfl,rfl⟩:=List.append_eq_nil_iff.1 e2.symm;have hs1:=yjr hsub hu h1;have ih:=ywg (fun id e he hl=>hsub id e (hs1.2 id e he hl) hl) hus h3;intro b hb;simp only[y4,List.mem_append]at hb;exact hb.elim (hs1.1 b) (ih b)
end
end Go.Ab
namespace Go.Ab
open Go
variable [Inv]
mutual
def noId : AV -> Bool
  | .ref .. => false
  | .ptr .. => false
  | .pe .. => false
  | .agg cs=>ywd cs
  | .tup cs=>ywd cs
  | .fn _ _ cs=>ywd cs
  | .sl (some _) _ _ _=>false
  | .op _=>false
  | .gd _ _=>false
  | .any=>false
  | .lit .. => false
  | _=>true
def ywd : List AV -> Bool
  | []=>true
  | x :: xs => match noId x with
    | true=>ywd xs
    | false=>false
end
def ywf : List Bool -> List AV -> Bool
  | true::ms,_::xs=>ywf ms xs
  | false :: ms, x :: xs => match noId x with
    | true=>ywf ms xs
    | false=>false
  | _,_=>true
section
variable {P:Program} {c:Ctx} {μ:Map} {FP:Nat->List Nat} {w:World}
mutual
theorem yhx {w : World} {M : Nat -> Prop} : ∀ (x : AV) {μ : Map} {v : Value}, noId x = true -> Rep w M x μ v [] -> Rep w M x yy v []
 | .int _ _,_,_,_,h=>by simpa only[Rep]using h
 | .bool _,_,_,_,h=>by simpa only[Rep]using h
 | .str _,_,_,_,h=>by simpa only[Rep]using h
 | .nils,_,_,_,h=>by simpa only[Rep]using h
 | .any,_,_,hn,_=>by simp[noId]at hn
 | .lit ..,_,_,hn,_=>by simp[noId]at hn
 | .ref ..,_,_,hn,_=>by simp[noId]at hn
 | .ptr ..,_,_,hn,_=>by simp[noId]at hn
 | .pe ..,_,_,hn,_=>by simp[noId]at hn
 | .gd ..,_,_,hn,_=>by simp[noId]at hn
 | .sl (some _) _ _ _,_,_,hn,_=>by simp[noId]at hn
 | .op _,_,_,hn,_=>by simp[noId]at hn
 | .sl none _ _ _,_,_,_,h=>by simpa only[Rep]using h
 | .ep _,_,_,_,h=>by simpa only[Rep]using h
 | .agg cs,μ,v,hn,h=>by
  simp only[Rep,noId]at h hn ⊢;obtain⟨us,e,h⟩:=h;exact⟨us,e,yrf cs hn h⟩
 | .tup cs,μ,v,hn,h=>by
  simp only[Rep,noId]at h hn ⊢;obtain⟨us,e,h⟩:=h;exact⟨us,e,yrf cs hn h⟩
 | .fn f k cs,μ,v,hn,h=>by
  simp only[Rep,noId]at h hn ⊢;obtain⟨e0,us,e,h⟩:=h;exact⟨e0,us,e,yrf cs hn h⟩
theorem yrf {w : World} {M : Nat -> Prop} : ∀ (xs : List AV) {μ : Map} {us : List Value}, ywd xs = true -> RepL w M xs μ us [] -> RepL w M xs yy us []
 | [],_,_,_,h=>by simpa only[RepL]using h
 | x::xs,μ,us,hn,h=>by
  simp only[RepL,ywd]at h hn ⊢
  cases hx:noId x with
  | false=>simp[hx]at hn
  | true=>
   simp only[hx]at hn;obtain⟨u,us',f1,f2,e1,e2,h1,h2⟩:=h;obtain⟨rfl,rfl⟩:=List.append_eq_nil_iff.1 e2.symm;exact⟨u,us',[],[],e1,rfl,yhx x hx h1,yrf xs hn h2⟩
end
mutual
theorem ymr {h : List Ent} : ∀ (d : Nat) (x y : AV) (ob : List Prop), noId x = true -> ydb h d x = some (y, ob) -> y = x
 | 0,x,y,ob,_,hs=>by simp[ydb]at hs
 | d+1,x,y,ob,hn,hs=>by
  have ih:=yej (h:=h) d
  cases x with
  | sl own e n f=>
   cases own with
   | none=>simp only[ydb,Option.some.injEq,Prod.mk.injEq]at hs;exact hs.1.symm
   | some T=>simp[noId]at hn
  | agg cs=>
   simp only[noId,ydb]at hn hs
   cases hm:mapO (ydb h d) cs with
   | none=>simp[hm]at hs
   | some p=>
    simp only[hm,Option.some.injEq,Prod.mk.injEq]at hs;rw[<- hs.1,ih cs p.1 p.2 hn (by rw[hm])]
  | fn f k cs=>
   simp only[noId,ydb]at hn hs
   cases hm:mapO (ydb h d) cs with
   | none=>simp[hm]at hs
   | some p=>
    simp only[hm,Option.some.injEq,Prod.mk.injEq]at hs;rw[<- hs.1,ih cs p.1 p.2 hn (by rw[hm])]
  | int _ _=>simp only[ydb,Option.some.injEq,Prod.mk.injEq]at hs;exact hs.1.symm
  | bool _=>simp only[ydb,Option.some.injEq,Prod.mk.injEq]at hs;exact hs.1.symm
  | str _=>simp only[ydb,Option.some.injEq,Prod.mk.injEq]at hs;exact hs.1.symm
  | nils=>simp only[ydb,Option.some.injEq,Prod.mk.injEq]at hs;exact hs.1.symm
  | ep _=>simp only[ydb,Option.some.injEq,Prod.mk.injEq]at hs;exact hs.1.symm
  | tup _=>simp[ydb]at hs
  | op _=>simp[noId]at hn
  | gd _ _=>simp[noId]at hn
  | any=>simp[noId]at hn
  | lit _ _=>simp[noId]at hn
  | ref _ _ _ _=>simp[noId]at hn
  | ptr _ _=>simp[noId]at hn
  | pe _ _ _ _=>simp[noId]at hn
theorem yej {h : List Ent} : ∀ (d : Nat) (xs ys : List AV) (ob : List Prop), ywd xs = true -> mapO (ydb h d) xs = some (ys, ob) -> ys = xs
 | d,[],ys,ob,_,hs=>by simp only[mapO,Option.some.injEq,Prod.mk.injEq]at hs;exact hs.1.symm
 | d,x::xs,ys,ob,hn,hs=>by
  simp only[ywd,mapO]at hn hs
  cases hx:noId x with
  | false=>simp[hx]at hn
  | true=>
   simp only[hx]at hn
   cases h1:ydb h d x with
   | none=>simp[h1]at hs
   | some p=>
    simp only[h1]at hs
    cases h2:mapO (ydb h d) xs with
    | none=>simp[h2]at hs
    | some q=>
     simp only[h2,Option.some.injEq,Prod.mk.injEq]at hs;rw[<- hs.1,ymr d x p.1 p.2 hx (by rw[h1]),yej d xs q.1 q.2 hn (by rw[h2])]
end
end
end Go.Ab
namespace Go.Ab
open Go
variable [Inv]
def DenM (P:Program) (f:FuncId) (xs:List AV) (r:AV) (outs:List AV):Prop:=
 FnOk P f/\∀ (w:World) (M:Nat->Prop) (vs:List Value) (fpA:List Nat),Inv.ok w->(∀ b,Inv.dom b->¬ M b/\b∉fpA) ->
  RepL w (fun b=>M b\/b∈y4 xs vs) xs yy vs fpA->fpA.Nodup->(∀ b,b∈fpA->¬ M b)->(∀ b,M b->b<w.heap.size) ->
  Calls P f vs.toArray w fun e w'=>∃ v fpR fpO,e=.returned v/\Keep w (y4 xs vs) w'/\Rep w' (fun b=>M b\/b∈fpR++fpO) r yy v fpR /\
   RepL w' (fun b=>M b\/b∈fpR++fpO) outs yy vs fpO/\(fpR++fpO).Nodup /\
   (∀ b,b∈fpR++fpO->(b∈fpA\/w.heap.size<=b)/\b<w'.heap.size)/\(∀ b,b∈tops r v++y4 outs vs->b∈y4 xs vs\/w.heap.size<=b)
def y8c (h : List Ent) : List Bool -> List AV -> Option (List AV × List Ent × List Prop)
  | _,[]=>some ([],h,[])
  | true :: ms, x :: xs => match absV h x with
    | some (y, h1, o1) => match y8c h1 ms xs with
      | some (ys,h2,o2)=>some (y::ys,h2,o1++o2)
      | none=>none
    | none=>none
  | false :: ms, x :: xs => match y8c h ms xs with
    | some (ys, h2, o2) => match ydb h2 8 x with
      | some (y,o1)=>some (y::ys,h2,o1++o2)
      | none=>none
    | none=>none
  | [],_::_=>none
def ycd : List Ent -> List (Nat × Ent) -> List Ent
 | h,[]=>h
 | h,(id,e)::l=>ycd (setE h id e) l
def bkC : AV -> AV -> List (Nat × Ent)
 | .ref id _ 0 _,.sl (some T) e n f=>[(id,.arr T e n f)]
 | .ptr id 0,.op cs=>[(id,.box cs)]
 | _,_=>[]
def bkL : List AV -> List AV -> List (Nat × Ent)
 | x::xs,y::ys=>bkC x y++bkL xs ys
 | _,_=>[]
def bkV : AV -> AV -> List (Nat × Ent)
 | .agg xs,.agg ys=>bkL xs ys
 | x,y=>bkC x y
def bkVL : List Bool -> List AV -> List AV -> List (Nat × Ent)
 | true::ms,x::xs,y::ys=>bkV x y++bkVL ms xs ys
 | false::ms,_::xs,_::ys=>bkVL ms xs ys
 | _,_,_=>[]
section
variable {P:Program} {c:Ctx} {μ:Map} {FP:Nat->List Nat} {w:World} {h0:List Ent}
theorem yvt {h h':List Ent} {x y z:AV} {ob:List Prop} {K:List Nat} (ha:absC h x=some (y,h',ob)) (hK:∀ id e,nthE h id=some e->e.live=true->nthE h' id=some .dead->id∈K) :
  ∀ p,p∈bkC x z->p.1∈K:=by
 intro p hp;unfold bkC at hp;split at hp
 ·simp only[absC]at ha
  split at ha
  ·rename_i hid _
   split at ha
   ·simp only[Option.some.injEq,Prod.mk.injEq]at ha
    obtain⟨_,rfl,_⟩:=ha;simp only[List.mem_singleton]at hp;subst hp;exact hK _ _ hid rfl (by rw[y9,if_pos ⟨rfl,yad hid⟩])
   ·simp at ha
  ·simp at ha
 ·simp only[absC]at ha
  split at ha
  ·rename_i hid _
   split at ha
   ·simp only[Option.some.injEq,Prod.mk.injEq]at ha
    obtain⟨_,rfl,_⟩:=ha;simp only[List.mem_singleton]at hp;subst hp;exact hK _ _ hid rfl (by rw[y9,if_pos ⟨rfl,yad hid⟩])
   ·simp at ha
  ·simp at ha
 ·simp at hp
structure Kills (h h':List Ent) (K:List Nat):Prop where
 len:h'.length=h.length
 dead:∀ id e,nthE h id=some e->e.live=true->nthE h' id=some .dead->id∈K
 live:∀ id e,nthE h id=some e->(e.live=false->nthE h' id=some e)
 isDead:∀ id,id∈K->nthE h' id=some .dead
 other:∀ id,id∉K->nthE h' id=nthE h id
 was:∀ id,id∈K->∃ e,nthE h id=some e/\e.live=true
theorem Kills.refl (h:List Ent):Kills h h []:=
 ⟨rfl,fun id e h1 h2 h3=>by rw[h1]at h3;cases h3;simp[Ent.live]at h2,fun _ _ h1 _=>h1,by simp,fun _ _=>rfl,by simp⟩
theorem yrw {e:Ent} (h:e.live=false):e=.dead:=by cases e<;>simp[Ent.live]at h<;>rfl
theorem Kills.trans {h h1 h2:List Ent} {K1 K2:List Nat} (a:Kills h h1 K1) (b:Kills h1 h2 K2):Kills h h2 (K1++K2):=by
 refine⟨b.len.trans a.len,?_,?_,?_,?_,?_⟩
 ·intro id e he hl hd
  by_cases h1':id∈K1
  ·exact List.mem_append_left _ h1'
  ·have:=a.other id h1'
   rw[he]at this;exact List.mem_append_right _ (b.dead id e this hl hd)
 ·intro id e he hl
  have:=yrw hl;subst this;exact b.live id _ (a.live id _ he rfl) rfl
 ·intro id hid
  by_cases h2':id∈K2
  ·exact b.isDead id h2'
  ·rw[b.other id h2']
   exact a.isDead id ((List.mem_append.1 hid).resolve_right h2')
 ·intro id hid
  rw[b.other id fun h=>hid (List.mem_append_right _ h),a.other id fun h=>hid (List.mem_append_left _ h)]
 ·intro id hid
  by_cases h1':id∈K1
  ·exact a.was id h1'
  ·obtain⟨e,he,hl⟩:=b.was id ((List.mem_append.1 hid).resolve_left h1')
   rw[a.other id h1']at he;exact⟨e,he,hl⟩
theorem Kills.one {h:List Ent} {id:Nat} {e:Ent} (he:nthE h id=some e) (hl:e.live=true):Kills h (setE h id .dead) [id]:=by
 refine⟨y7 _ _ _,?_,?_,?_,?_,?_⟩
 ·intro i e' h1 h2 h3
  rw[y9]at h3;split at h3
  ·rename_i hh;simp[hh.1]
  ·rw[h1]at h3;cases h3;simp[Ent.live]at h2
 ·intro i e' h1 h2
  rw[y9];split
  ·rename_i hh;rw[yrw h2]
  ·exact h1
 ·intro i hi
  simp only[List.mem_singleton]at hi;subst hi;rw[y9,if_pos ⟨rfl,yad he⟩]
 ·intro i hi
  rw[y9,if_neg (fun h=>hi (by simp[h.1]))]
 ·intro i hi
  simp only[List.mem_singleton]at hi;subst hi;exact⟨e,he,hl⟩
theorem Kills.sub {h h':List Ent} {K:List Nat} (a:Kills h h' K):∀ id e,nthE h' id=some e->e.live=true->nthE h id=some e:=by
 intro id e he hl;by_cases hk:id∈K
 ·rw[a.isDead id hk]at he;cases he;simp[Ent.live]at hl
 ·rwa [a.other id hk]at he
theorem yaj {h h':List Ent} {x y:AV} {ob:List Prop} (ha:absC h x=some (y,h',ob)):∃ K,Kills h h' K:=by
 have same:h=h'->∃ K,Kills h h' K:=by rintro rfl;exact⟨[],Kills.refl _⟩
 cases x with
 | ref id e off n=>
  simp only[absC]at ha;split at ha
  ·rename_i hid
   split at ha
   ·simp only[Option.some.injEq,Prod.mk.injEq]at ha
    obtain⟨rfl,rfl,rfl⟩:=ha;exact⟨_,Kills.one hid rfl⟩
   ·simp at ha
  ·simp at ha
 | ptr id off=>
  simp only[absC]at ha;split at ha
  ·rename_i hid
   split at ha
   ·simp only[Option.some.injEq,Prod.mk.injEq]at ha
    obtain⟨rfl,rfl,rfl⟩:=ha;exact⟨_,Kills.one hid rfl⟩
   ·simp at ha
  ·simp at ha
 | sl own e n f=>
  cases own with
  | none=>simp only[absC,Option.some.injEq,Prod.mk.injEq]at ha;exact same ha.2.1
  | some T=>simp[absC]at ha
 | int _ _=>simp only[absC,Option.some.injEq,Prod.mk.injEq]at ha;exact same ha.2.1
 | bool _=>simp only[absC,Option.some.injEq,Prod.mk.injEq]at ha;exact same ha.2.1
 | str _=>simp only[absC,Option.some.injEq,Prod.mk.injEq]at ha;exact same ha.2.1
 | nils=>simp only[absC,Option.some.injEq,Prod.mk.injEq]at ha;exact same ha.2.1
 | _=>simp[absC]at ha
theorem yyi : ∀ {xs : List AV} {h h' : List Ent} {ys : List AV} {ob : List Prop}, absL h xs = some (ys, h', ob) -> ∃ K, Kills h h' K
 | [],h,h',ys,ob,ha=>by
  simp only[absL,Option.some.injEq,Prod.mk.injEq]at ha;obtain⟨_,rfl,_⟩:=ha;exact⟨[],Kills.refl _⟩
 | x::xs,h,h',ys,ob,ha=>by
  simp only[absL]at ha
  cases h1:absC h x with
  | none=>simp[h1]at ha
  | some p=>
   obtain⟨y,h2,o1⟩:=p;simp only[h1]at ha
   cases h3:absL h2 xs with
   | none=>simp[h3]at ha
   | some q=>
    obtain⟨ys',h4,o2⟩:=q;simp only[h3,Option.some.injEq,Prod.mk.injEq]at ha;obtain⟨rfl,rfl,rfl⟩:=ha;obtain⟨K1,k1⟩:=yaj h1;obtain⟨K2,k2⟩:=yyi h3;exact⟨K1++K2,k1.trans k2⟩
theorem y5n {h h':List Ent} {x y:AV} {ob:List Prop} (ha:absV h x=some (y,h',ob)):∃ K,Kills h h' K:=by
 cases x with
 | agg cs=>
  simp only[absV]at ha
  cases h1:absL h cs with
  | none=>simp[h1]at ha
  | some p=>
   obtain⟨ys,h2,o1⟩:=p;simp only[h1,Option.some.injEq,Prod.mk.injEq]at ha;obtain⟨rfl,rfl,rfl⟩:=ha;exact yyi h1
 | _=>simp only[absV]at ha;exact yaj ha
theorem yv1 : ∀ {xs ys zs : List AV} {h h' : List Ent} {ob : List Prop} {K : List Nat}, absL h xs = some (ys, h', ob) -> Kills h h' K -> ∀ p, p ∈ bkL xs zs -> p.1 ∈ K
 | [],_,_,_,_,_,_,_,_=>by simp[bkL]
 | _::_,_,[],_,_,_,_,_,_=>by simp[bkL]
 | x::xs,ys,z::zs,h,h',ob,K,ha,hK=>by
  simp only[absL]at ha
  cases h1:absC h x with
  | none=>simp[h1]at ha
  | some p=>
   obtain⟨y,h2,o1⟩:=p;simp only[h1]at ha
   cases h3:absL h2 xs with
   | none=>simp[h3]at ha
   | some q=>
    obtain⟨ys',h4,o2⟩:=q;simp only[h3,Option.some.injEq,Prod.mk.injEq]at ha;obtain⟨rfl,rfl,rfl⟩:=ha;obtain⟨K2,k2⟩:=yyi h3;obtain⟨K1,k1⟩:=yaj h1;intro p hp;simp only[bkL,List.mem_append]at hp;rcases hp with hp|hp
    ·refine yvt h1 (fun id e he hl hd=>hK.dead id e he hl ?_) p hp
     exact k2.live id _ hd rfl
    ·have h5:=yv1 h3 k2 p hp
     obtain⟨e,he,hl⟩:=k2.was _ h5;exact hK.dead _ e (k1.sub _ _ he hl) hl (k2.isDead _ h5)
theorem yb9 {x y z:AV} {h h':List Ent} {ob:List Prop} {K:List Nat} (ha:absV h x=some (y,h',ob)) (hK:Kills h h' K):∀ p,p∈bkV x z->p.1∈K:=by
 intro p hp
 cases x with
 | agg cs=>
  simp only[absV]at ha
  cases h1:absL h cs with
  | none=>simp[h1]at ha
  | some q=>
   obtain⟨ys,h2,o1⟩:=q;simp only[h1,Option.some.injEq,Prod.mk.injEq]at ha;obtain⟨rfl,rfl,rfl⟩:=ha
   cases z with
   | agg zs=>exact yv1 h1 hK p (by simpa only[bkV]using hp)
   | _=>simp[bkV,bkC]at hp
 | ref id e off n=>exact yvt (x:=.ref id e off n) ha hK.dead p (by simpa only[bkV]using hp)
 | ptr id off=>exact yvt (x:=.ptr id off) ha hK.dead p (by simpa only[bkV]using hp)
 | _=>cases z<;>simp[bkV,bkC]at hp
theorem ybf : ∀ {ms : List Bool} {xs ys : List AV} {h h' : List Ent} {ob : List Prop}, y8c h ms xs = some (ys, h', ob) -> ∃ K, Kills h h' K
 | _,[],_,_,_,_,ha=>by
  simp only[y8c,Option.some.injEq,Prod.mk.injEq]at ha;obtain⟨_,rfl,_⟩:=ha;exact⟨[],Kills.refl _⟩
 | [],_::_,_,_,_,_,ha=>by simp[y8c]at ha
 | true::ms,x::xs,ys,h,h',ob,ha=>by
  simp only[y8c]at ha
  cases h1:absV h x with
  | none=>simp[h1]at ha
  | some p=>
   obtain⟨y,h2,o1⟩:=p;simp only[h1]at ha
   cases h3:y8c h2 ms xs with
   | none=>simp[h3]at ha
   | some q=>
    obtain⟨ys',h4,o2⟩:=q;simp only[h3,Option.some.injEq,Prod.mk.injEq]at ha;obtain⟨rfl,rfl,rfl⟩:=ha;obtain⟨K1,k1⟩:=y5n h1;obtain⟨K2,k2⟩:=ybf h3;exact⟨K1++K2,k1.trans k2⟩
 | false::ms,x::xs,ys,h,h',ob,ha=>by
  simp only[y8c]at ha
  cases h3:y8c h ms xs with
  | none=>simp[h3]at ha
  | some q=>
   obtain⟨ys',h4,o2⟩:=q;simp only[h3]at ha
   cases h1:ydb h4 8 x with
   | none=>simp[h1]at ha
   | some p=>
    simp only[h1,Option.some.injEq,Prod.mk.injEq]at ha;obtain⟨rfl,rfl,rfl⟩:=ha;exact ybf h3
theorem yho : ∀ {ms : List Bool} {xs ys zs : List AV} {h h' : List Ent} {ob : List Prop} {K : List Nat}, y8c h ms xs = some (ys, h', ob) -> Kills h h' K -> ∀ p, p ∈ bkVL ms xs zs -> p.1 ∈ K
 | _,[],_,_,_,_,_,_,_,_=>by simp[bkVL]
 | _,_::_,_,[],_,_,_,_,_,_=>by simp[bkVL]
 | [],_::_,_,_,_,_,_,_,ha,_=>by simp[y8c]at ha
 | true::ms,x::xs,ys,z::zs,h,h',ob,K,ha,hK=>by
  simp only[y8c]at ha
  cases h1:absV h x with
  | none=>simp[h1]at ha
  | some p=>
   obtain⟨y,h2,o1⟩:=p;simp only[h1]at ha
   cases h3:y8c h2 ms xs with
   | none=>simp[h3]at ha
   | some q=>
    obtain⟨ys',h4,o2⟩:=q;simp only[h3,Option.some.injEq,Prod.mk.injEq]at ha;obtain⟨rfl,rfl,rfl⟩:=ha;obtain⟨K1,k1⟩:=y5n h1;obtain⟨K2,k2⟩:=ybf h3;intro p hp;simp only[bkVL,List.mem_append]at hp;rcases hp with hp|hp
    ·have h5:=yb9 h1 k1 p hp
     obtain⟨e,he,hl⟩:=k1.was _ h5;exact hK.dead _ e he hl (k2.live _ _ (k1.isDead _ h5) rfl)
    ·have h5:=yho h3 k2 p hp
     obtain⟨e,he,hl⟩:=k2.was _ h5;exact hK.dead _ e (k1.sub _ _ he hl) hl (k2.isDead _ h5)
 | false::ms,x::xs,ys,z::zs,h,h',ob,K,ha,hK=>by
  simp only[y8c]at ha
  cases h3:y8c h ms xs with
  | none=>simp[h3]at ha
  | some q=>
   obtain⟨ys',h4,o2⟩:=q;simp only[h3]at ha
   cases h1:ydb h4 8 x with
   | none=>simp[h1]at ha
   | some p=>
    simp only[h1,Option.some.injEq,Prod.mk.injEq]at ha;obtain⟨rfl,rfl,rfl⟩:=ha;intro p hp;simp only[bkVL]at hp;exact yho h3 hK p hp
theorem y7i (hW:WR c (Hof h0) μ FP w):∀ {ms:List Bool} {xs ys:List AV} {h h':List Ent} {us:List Value} {ob:List Prop},(∀ (id:Nat) (e:Ent),nthE h id=some e->e.live=true->nthE h0 id=some e) ->
  RepL w (hot c.M0 (Hof h0) μ) xs μ us []->y8c h ms xs=some (ys,h',ob)->allP ob ->
  ∃ K fp,Gone h h' K/\Owns FP K fp/\(∀ b,b∈y4 ys us->hot c.M0 (Hof h0) μ b) /\
   ∀ M':Nat->Prop,(∀ b,M' b->hot c.M0 (Hof h0) μ b)->(ywf ms xs=true\/∀ id b cap e,μ id=some (.blk b cap)->nthE h' id=some e->e.live=true->M' b->False)->RepL w M' ys yy us fp
 | ms,[],ys,h,h',us,ob,hsub,hx,ha,_=>by
  simp only[y8c,Option.some.injEq,Prod.mk.injEq]at ha;obtain⟨rfl,rfl,rfl⟩:=ha;simp only[RepL]at hx;exact⟨[],[],Gone.refl _,by simp[Owns],by simp[y4],fun M' _ _=>by simp only[RepL];exact⟨hx.1,trivial⟩⟩
 | [],x::xs,ys,h,h',us,ob,hsub,hx,ha,ho=>by simp[y8c]at ha
 | true::ms,x::xs,ys,h,h',us,ob,hsub,hx,ha,ho=>by
  simp only[y8c]at ha
  cases h1:absV h x with
  | none=>simp[h1]at ha
  | some p=>
   obtain⟨y,h2,o1⟩:=p;simp only[h1]at ha
   cases h3:y8c h2 ms xs with
   | none=>simp[h3]at ha
   | some q=>
    obtain⟨ys',h4,o2⟩:=q;simp only[h3,Option.some.injEq,Prod.mk.injEq]at ha;obtain⟨rfl,rfl,rfl⟩:=ha;obtain⟨ho1,ho2⟩:=yn.1 ho;simp only[RepL]at hx;obtain⟨u,us',f1,f2,rfl,e2,hu,hus⟩:=hx;obtain⟨rfl,rfl⟩:=List.append_eq_nil_iff.1 e2.symm;obtain⟨K1,g1,r1,go1,ow1⟩:=yrs hW hsub hu h1 ho1;obtain⟨t1,_⟩:=yjr hsub hu h1;obtain⟨K2,g2,go2,ow2,t2,r2⟩:=y7i hW (fun id e he hl=>hsub id e (go1.sub id e he hl) hl) hus h3 ho2;refine⟨K1++K2,g1++g2,go1.trans go2,Owns.app hW go1 go2 ow1 ow2,?_,fun M' hM hl => ?_⟩
    ·intro b hb
     simp only[y4,List.mem_append]at hb;exact hb.elim (t1 b) (t2 b)
    ·simp only[RepL]
     refine⟨u,us',g1,g2,rfl,rfl,?_,r2 M' hM (hl.imp (fun h=>by simpa only[ywf]using h) id)⟩;exact Rep.mono y (Map.le_refl _) ⟨Nat.le_refl _,fun b _ hb h'=>hb (hM b h'),fun _ _ _=>rfl⟩ r1
 | false::ms,x::xs,ys,h,h',us,ob,hsub,hx,ha,ho=>by
  simp only[y8c]at ha
  cases h3:y8c h ms xs with
  | none=>simp[h3]at ha
  | some q=>
   obtain⟨ys',h4,o2⟩:=q;simp only[h3]at ha
   cases h1:ydb h4 8 x with
   | none=>simp[h1]at ha
   | some p=>
    obtain⟨y,o1⟩:=p;simp only[h1,Option.some.injEq,Prod.mk.injEq]at ha;obtain⟨rfl,rfl,rfl⟩:=ha;obtain⟨ho1,ho2⟩:=yn.1 ho;simp only[RepL]at hx;obtain⟨u,us',f1,f2,rfl,e2,hu,hus⟩:=hx;obtain⟨rfl,rfl⟩:=List.append_eq_nil_iff.1 e2.symm;obtain⟨K2,g2,go2,ow2,t2,r2⟩:=y7i hW hsub hus h3 ho2
    have snap:∀ M':Nat->Prop,(∀ b,M' b->hot c.M0 (Hof h0) μ b)->(noId x=true\/∀ id b cap e,μ id=some (.blk b cap)->nthE h4 id=some e->e.live=true->M' b->False)->Rep w M' y yy u []:=by
     intro M' hM hl;rcases hl with hl|hl
     ·rw[ymr 8 x y o1 hl h1]
      exact Rep.mono x (Map.le_refl _) ⟨Nat.le_refl _,fun b _ hb h'=>hb (hM b h'),fun _ _ _=>rfl⟩ (yhx x hl hu)
     ·exact ylh hW hM (fun id e he hl=>hsub id e (go2.sub id e he hl) hl) hl 8 x y o1 u h1 ho1 hu
    refine⟨K2,g2,go2,ow2,?_,fun M' hM hl => ?_⟩
    ·intro b hb
     simp only[y4,List.mem_append]at hb;rcases hb with hb|hb
     ·have:=ych y (snap (fun _=>False) (fun _ h=>h.elim) (.inr fun _ _ _ _ _ _ _ h=>h)) b hb
      simp at this
     ·exact t2 b hb
    ·simp only[RepL]
     have hl2:(noId x=true/\ywf ms xs=true)\/∀ id b cap e,μ id=some (.blk b cap)->nthE h4 id=some e->e.live=true->M' b->False:=by
      rcases hl with hl|hl
      ·left
       simp only[ywf]at hl
       cases hx:noId x with
       | true=>rw[hx]at hl;exact⟨rfl,hl⟩
       | false=>rw[hx]at hl;cases hl
      ·exact .inr hl
     exact⟨u,us',[],g2,rfl,rfl,snap M' hM (hl2.imp And.left id),r2 M' hM (hl2.imp And.right id)⟩
end
end Go.Ab
namespace Go.Ab
open Go
variable [Inv]
def lk : List (Nat × Ent) -> List (Loc × List Nat) -> Nat -> Option (Ent × List Nat)
 | (id,e)::bk,(_,fq)::lb,i=>if i=id then some (e,fq)else lk bk lb i
 | _,_,_=>none
theorem yjf : ∀ {bk : List (Nat × Ent)} {lb : List (Loc × List Nat)} {i : Nat} {e : Ent} {fq : List Nat}, lk bk lb i = some (e, fq) -> ∃ (k : Nat) (L : Loc), bk[k]? = some (i, e) /\ lb[k]? = some (L, fq)
 | [],_,_,_,_,h=>by simp[lk]at h
 | _::_,[],_,_,_,h=>by simp[lk]at h
 | (id,e0)::bk,(L,fq0)::lb,i,e,fq,h=>by
  simp only[lk]at h;split at h
  ·rename_i hi
   simp only[Option.some.injEq,Prod.mk.injEq]at h;obtain⟨rfl,rfl⟩:=h;exact⟨0,L,by simp[hi],rfl⟩
  ·obtain⟨k,L',h1,h2⟩:=yjf h
   exact⟨k+1,L',by simpa using h1,by simpa using h2⟩
theorem ye1 : ∀ {bk : List (Nat × Ent)} {lb : List (Loc × List Nat)} {i : Nat}, i ∉ bk.map (·.1) -> lk bk lb i = none
 | [],_,_,_=>by simp[lk]
 | _::_,[],_,_=>by simp[lk]
 | (id,e0)::bk,(L,fq0)::lb,i,h=>by
  simp only[List.map_cons,List.mem_cons,not_or]at h;simp only[lk,if_neg h.1];exact ye1 h.2
theorem yyh : ∀ (bk : List (Nat × Ent)) (h : List Ent), (ycd h bk).length = h.length
 | [],h=>rfl
 | (id,e)::bk,h=>by rw[ycd,yyh bk,y7]
theorem y6n:∀ {bk:List (Nat×Ent)} {lb:List (Loc×List Nat)} {h:List Ent} (i:Nat),lb.length=bk.length->(bk.map (·.1)).Nodup ->
  nthE (ycd h bk) i=(match lk bk lb i with|some (e,_)=>if i<h.length then some e else nthE h i|none=>nthE h i)
 | [],lb,h,i,_,_=>by simp[ycd,lk]
 | _::_,[],h,i,hl,_=>by simp at hl
 | (id,e)::bk,(L,fq)::lb,h,i,hl,hn=>by
  simp only[List.map_cons,List.nodup_cons]at hn;rw[ycd,y6n (lb:=lb) i (by simpa using hl) hn.2];simp only[lk,y7];by_cases hi:i=id
  ·subst hi
   rw[ye1 hn.1,if_pos rfl];simp only[y9,true_and]
  ·rw[if_neg hi]
   have:nthE (setE h id e) i=nthE h i:=by rw[y9,if_neg (fun h=>hi h.1)]
   rw[this]
structure Bk (w':World) (X:Nat->Prop) (μ:Map) (bk:List (Nat×Ent)) (lb:List (Loc×List Nat)) (fp:List Nat):Prop where
 len:lb.length=bk.length
 fps:(lb.map (·.2)).flatten.Sublist fp
 ok:∀ (k:Nat) (id:Nat) (e:Ent) (L:Loc) (fq:List Nat),bk[k]? = some (id,e)->lb[k]? = some (L,fq)->μ id=some L/\∀ μ'',ylc w' X μ'' e L fq
theorem Bk.nil {w':World} {M:Nat->Prop} {μ:Map} {fp:List Nat}:Bk w' M μ [] [] fp:=⟨rfl,by simp,by simp⟩
theorem Bk.append {w':World} {M:Nat->Prop} {μ:Map} {bk bk':List (Nat×Ent)} {lb lb':List (Loc×List Nat)} {fp fp':List Nat} (h:Bk w' M μ bk lb fp) (h':Bk w' M μ bk' lb' fp'):Bk w' M μ (bk++bk') (lb++lb') (fp++fp'):=by
 refine⟨by simp[h.len,h'.len],by simpa using h.fps.append h'.fps,?_⟩;intro k id e L fq he hl;by_cases hk:k<bk.length
 ·rw[List.getElem?_append_left hk]at he
  rw[List.getElem?_append_left (by rw[h.len];exact hk)]at hl;exact h.ok k id e L fq he hl
 ·rw[List.getElem?_append_right (by omega)]at he
  rw[List.getElem?_append_right (by rw[h.len];omega),h.len]at hl;exact h'.ok _ id e L fq he hl
theorem Bk.none {w':World} {M:Nat->Prop} {μ:Map} {fp:List Nat}:∃ lb,Bk w' M μ [] lb fp:=⟨[],Bk.nil⟩
theorem yi1 {w w':World} {M0 M:Nat->Prop} {μ:Map} {x y:AV} {v:Value} {fp:List Nat} (hx:Rep w M0 x μ v []) (hy:Rep w' M y yy v fp):∃ lb,Bk w' M μ (bkC x y) lb fp:=by
 unfold bkC;split
 ·rename_i id e0 n0 T e n f
  simp only[Rep]at hx hy;obtain⟨_,hx⟩:=hx
  cases hm:μ id with
  | none=>simp[hm]at hx
  | some L=>
   cases L with
   | nil=>
    simp only[hm]at hx;obtain⟨_,rfl,rfl⟩:=hx;rcases hy with⟨rfl,_,rfl⟩|⟨b,o,cap,us,fps,hv,_⟩
    ·refine⟨[(.nil,[])],rfl,by simp,?_⟩
     intro k id' e' L fq he hl
     cases k with
     | zero=>
      simp only[List.getElem?_cons_zero,Option.some.injEq,Prod.mk.injEq]at he hl;obtain⟨rfl,rfl⟩:=he;obtain⟨rfl,rfl⟩:=hl;exact⟨hm,fun _=>⟨rfl,rfl⟩⟩
     | succ k=>simp at he
    ·simp at hv
   | blk b cap=>
    simp only[hm]at hx;obtain⟨hcap,o,rfl,hoo⟩:=hx;rcases hy with⟨rfl,hv,rfl⟩|⟨b',o',cap',us,fps,hv,hle,hb,hc,rfl,rfl,cur,hcur,hsz,hcm⟩
    ·simp[y3e]at hv
    ·simp only[Value.slice.injEq,Option.some.injEq,Addr.mk.injEq,Nat.sub_zero]at hv
     obtain⟨⟨rfl,rfl,_⟩,rfl,rfl⟩:=hv;refine⟨[(.blk b cap,b::(List.range n0).flatMap fps)],rfl,by simp,?_⟩;intro k id' e' L fq he hl
     cases k with
     | zero=>
      simp only[List.getElem?_cons_zero,Option.some.injEq,Prod.mk.injEq]at he hl;obtain⟨rfl,rfl⟩:=he;obtain⟨rfl,rfl⟩:=hl;refine⟨hm,fun μ''=>⟨cur,us,fps,hcur,hsz,hle.1,hcm,fun i hi => ?_,rfl⟩⟩;obtain⟨h1,h2,h3⟩:=hc i hi;exact⟨h1.lift,h2,by simpa using h3⟩
     | succ k=>simp at he
 ·rename_i id cs
  simp only[Rep]at hx hy;obtain⟨_,b,cap,hm,rfl⟩:=hx;obtain⟨b',us,T,hv,rfl,hb,hh,hone,hr⟩:=hy;simp only[Value.pointer.injEq,Option.some.injEq,Addr.mk.injEq]at hv;obtain⟨rfl,_,_⟩:=hv;refine⟨[(.blk b cap,[b])],rfl,by simp,?_⟩;intro k id' e' L fq he hl
  cases k with
  | zero=>
   simp only[List.getElem?_cons_zero,Option.some.injEq,Prod.mk.injEq]at he hl;obtain⟨rfl,rfl⟩:=he;obtain⟨rfl,rfl⟩:=hl;exact⟨hm,fun μ''=>⟨b,cap,us,T,rfl,rfl,hh,hone,hr.lift⟩⟩
  | succ k=>simp at he
 ·exact⟨[],rfl,by simp,by simp⟩
theorem ysz {w w' : World} {M0 M : Nat -> Prop} {μ : Map} : ∀ {xs ys : List AV} {vs : List Value} {fp : List Nat}, RepL w M0 xs μ vs [] -> RepL w' M ys yy vs fp -> ∃ lb, Bk w' M μ (bkL xs ys) lb fp
 | [],_,_,_,_,_=>by simp only[bkL];exact⟨[],rfl,by simp,by simp⟩
 | _::_,[],_,_,_,_=>by simp only[bkL];exact⟨[],rfl,by simp,by simp⟩
 | x::xs,y::ys,vs,fp,hx,hy=>by
  simp only[RepL]at hx hy;obtain⟨u,us',f1,f2,rfl,e2,h1,h2⟩:=hx;obtain⟨rfl,rfl⟩:=List.append_eq_nil_iff.1 e2.symm;obtain⟨u',us'',g1,g2,e3,rfl,k1,k2⟩:=hy;simp only[List.cons.injEq]at e3;obtain⟨rfl,rfl⟩:=e3;obtain⟨l1,b1⟩:=yi1 h1 k1;obtain⟨l2,b2⟩:=ysz h2 k2;exact⟨l1++l2,by simp only[bkL];exact b1.append b2⟩
theorem yu9 {w w':World} {M0 M:Nat->Prop} {μ:Map} {x y:AV} {v:Value} {fp:List Nat} (hx:Rep w M0 x μ v []) (hy:Rep w' M y yy v fp):∃ lb,Bk w' M μ (bkV x y) lb fp:=by
 unfold bkV;split
 ·simp only[Rep]at hx hy
  obtain⟨us,rfl,h1⟩:=hx;obtain⟨us',e,h2⟩:=hy;have:us=us':=by simpa using e
  subst this;exact ysz h1 h2
 ·exact yi1 hx hy
theorem y5w {w w' : World} {M0 M : Nat -> Prop} {μ : Map} : ∀ {ms : List Bool} {xs ys : List AV} {vs : List Value} {fp : List Nat}, RepL w M0 xs μ vs [] -> RepL w' M ys yy vs fp -> ∃ lb, Bk w' M μ (bkVL ms xs ys) lb fp
 | [],_,_,_,_,_,_=>by simp only[bkVL];exact⟨[],rfl,by simp,by simp⟩
 | _::_,[],_,_,_,_,_=>by simp only[bkVL];exact⟨[],rfl,by simp,by simp⟩
 | _::_,_::_,[],_,_,_,_=>by simp only[bkVL];exact⟨[],rfl,by simp,by simp⟩
 | m::ms,x::xs,y::ys,vs,fp,hx,hy=>by
  simp only[RepL]at hx hy;obtain⟨u,us',f1,f2,rfl,e2,h1,h2⟩:=hx;obtain⟨rfl,rfl⟩:=List.append_eq_nil_iff.1 e2.symm;obtain⟨u',us'',g1,g2,e3,rfl,k1,k2⟩:=hy;simp only[List.cons.injEq]at e3;obtain⟨rfl,rfl⟩:=e3;obtain⟨l1,b1⟩:=yu9 h1 k1;obtain⟨l2,b2⟩:=y5w (ms:=ms) h2 k2
  cases m with
  | true=>exact⟨l1++l2,by simp only[bkVL];exact b1.append b2⟩
  | false=>
   refine⟨l2,?_⟩;simp only[bkVL];exact⟨b2.len,b2.fps.trans (List.sublist_append_right _ _),b2.ok⟩
section
variable {P:Program} {c:Ctx} {μ:Map} {FP:Nat->List Nat} {w:World}
theorem y4y {h h1 : List Ent} {f : FuncId} {xs az : List AV} {r : AV} {outs : List AV} {vs : List Value} {ms : List Bool} {ob : List Prop} (hW : WR c (Hof h) μ FP w) (hd : Tail h μ)
  (hx:RepL w (hot c.M0 (Hof h) μ) xs μ vs []) (ha:y8c h ms xs=some (az,h1,ob)) (ho:allP ob) (hnb:yac r/\y5b outs\/ywf ms xs=true) (hnd:((bkVL ms xs outs).map (·.1)).Nodup) (hD:DenM P f az r outs) :
  Calls P f vs.toArray w fun e w'=>∃ v μ',e=.returned v/\Next1 c h μ w (ycd h1 (bkVL ms xs outs)++adE r) μ' w' /\
   Rep w' (hot c.M0 (Hof (ycd h1 (bkVL ms xs outs)++adE r)) μ') (adR h.length r) μ' v []:=by
 obtain⟨Kl,hk⟩:=ybf ha;obtain⟨K,fpA,hgone,hown,htops,hrep⟩:=y7i hW (fun _ _ h _=>h) hx ha ho
 have hKK:∀ id,id∈K->id∈Kl:=by
  intro id hid;obtain⟨⟨e,he,hl⟩,hdd⟩:=hgone.kill id hid;refine Classical.byContradiction fun hn => ?_
  have:=hk.other id hn;rw[he]at this;rw[hdd e this]at hl;cases hl
 have htf:∀ b,b∈y4 az vs->b∈fpA:=ync az (hrep (fun _=>False) (fun _ h=>h.elim) (.inr fun _ _ _ _ _ _ _ h=>h))
 have hAt:∀ b,b∈y4 az vs->∃ id,id∈Kl/\∃ cap,μ id=some (.blk b cap):=by
  intro b hb;obtain⟨id',hid',hF'⟩:=hown.2 b (htf b hb);rcases htops b hb with h5|⟨id,cap,e,hm,he,hl⟩
  ·exfalso
   have h3:=c.cold0 b h5;rcases(hW.new id' b hF').1 with h4|h4
   ·exact h3.2 h4
   ·omega
  ·have hF:=(hW.lt hm he hl).1
   have:id=id':=Classical.byContradiction fun hne=>hW.disj id id' hne b hF hF'
   subst this;exact⟨id,hKK id hid',cap,hm⟩
 have hfl:∀ b,b∈fpA->b<w.heap.size:=fun b hb=>by obtain⟨id,_,h2⟩:=hown.2 b hb;exact(hW.new id b h2).2
 have hcall:Calls P f vs.toArray w fun e w'=>∃ v fpR fpO,e=.returned v/\Keep w (y4 az vs) w'/\Rep w' (fun b=>(hot c.M0 (Hof h) μ b/\b∉fpA)\/b∈fpR++fpO) r yy v fpR /\
   RepL w' (fun b=>(hot c.M0 (Hof h) μ b/\b∉fpA)\/b∈fpR++fpO) outs yy vs fpO/\(fpR++fpO).Nodup /\
   (∀ b,b∈fpR++fpO->(b∈fpA\/w.heap.size<=b)/\b<w'.heap.size)/\(∀ b,b∈tops r v++y4 outs vs->b∈y4 az vs\/w.heap.size<=b):=by
  rcases hnb with⟨hnr,hno⟩|hlent
  ·have hA:RepL w (fun b=>False\/b∈y4 az vs) az yy vs fpA:=by
    refine hrep _ (fun b hb=>htops b (hb.resolve_left id)) (.inr ?_);intro id b cap e hm he hl hb;obtain⟨id',hid',hF'⟩:=hown.2 b (htf b (hb.resolve_left (fun h=>h)));have hF:=(hW.lt hm (hk.sub id e he hl) hl).1;have:id=id':=Classical.byContradiction fun hne=>hW.disj id id' hne b hF hF'
    subst this;rw[(hgone.kill id hid').2 e he]at hl;cases hl
   refine(hD.2 w (fun _=>False) vs fpA hW.inv (fun b hb=>⟨fun h=>h,fun h=>by obtain⟨id,_,h2⟩:=hown.2 b h;exact hW.inv_fp hb id h2⟩) hA hown.1 (by simp) (by simp)).mono ?_;rintro e w' ⟨v,fpR,fpO,rfl,hK,hr,hO,hRn,hRm,hRt⟩
   exact⟨v,fpR,fpO,rfl,hK,Rep.noBor r hnr hr,RepL.noBor outs hno hO,hRn,hRm,hRt⟩
  ·have hA:RepL w (fun b=>(hot c.M0 (Hof h) μ b/\b∉fpA)\/b∈y4 az vs) az yy vs fpA:=hrep _ (fun b hb=>hb.elim And.left (htops b)) (.inl hlent)
   exact hD.2 w (fun b=>hot c.M0 (Hof h) μ b/\b∉fpA) vs fpA hW.inv (fun b hb=>⟨fun h=>hW.inv_hot hb h.1,fun h=>by obtain⟨id,_,h2⟩:=hown.2 b h;exact hW.inv_fp hb id h2⟩) hA hown.1 (fun b hb h=>h.2 hb) (fun b hb=>by
    rcases hb.1 with h1|⟨id,cap,e,hm,he,hl⟩
    ·exact Nat.lt_of_lt_of_le (c.cold0 b h1).1 hW.keep.size
    ·exact(hW.lt hm he hl).2)
 refine hcall.mono ?_;rintro e w' ⟨v,fpR,fpO,rfl,hK,hr,hO,hRn,hRm,hRt⟩
 obtain⟨lb,hbk⟩:=y5w (ms:=ms) hx hO;generalize hbkd:bkVL ms xs outs=bk at *;have hbkK:∀ p,p∈bk->p.1∈Kl:=by rw[<- hbkd];exact yho ha hk
 generalize hh2:ycd h1 bk++adE r=h2;have hrl:(ycd h1 bk).length=h.length:=by rw[yyh,hk.len]
 have htopK:∀ id b cap,id∈Kl->μ id=some (.blk b cap)->hot c.M0 (Hof h) μ b/\b∈FP id:=by
  intro id b cap hid hm;obtain⟨e0,he,hl⟩:=hk.was id hid;exact⟨.inr ⟨id,cap,e0,hm,he,hl⟩,(hW.lt hm he hl).1⟩
 have hold:∀ id,μ id≠none->id<h.length:=fun id hid=>Nat.lt_of_not_le fun hle=>hid (hd id hle)
 have hH2old:∀ id,id<h.length->Hof h2 id=(match lk bk lb id with|some (e,_)=>some e|none=>nthE h1 id):=by
  intro id hid;subst hh2;simp only[Hof,yxk];rw[if_pos (by omega),y6n id hbk.len hnd];split
  ·rw[if_pos (by rw[hk.len];exact hid)]
  ·rfl
 have hlkK:∀ id e fq,lk bk lb id=some (e,fq)->id∈Kl:=by
  intro id e fq h5;obtain⟨k,L,h6,_⟩:=yjf h5;exact hbkK _ (List.mem_of_getElem? h6)
 have hH2out:∀ id,id<h.length->id∉Kl->Hof h2 id=nthE h id:=by
  intro id hid hnk;rw[hH2old id hid]
  cases hl:lk bk lb id with
  | none=>exact hk.other id hnk
  | some p=>exact absurd (hlkK id p.1 p.2 hl) hnk
 have hcoldTop:∀ b,b∈y4 az vs->hot c.M0 (Hof h) μ b:=htops;obtain⟨ls,hAd,hAdR⟩:=ym1 r hr;have hRn':=List.nodup_append.1 hRn;have hlsn:=y3b (ls:=ls) (by rw[<- hAd.fps];exact hRn'.1);have hlbn:=y3b (ls:=lb) (hbk.fps.nodup hRn'.2.1);let μ':Map:=fun i=>if i<h.length then μ i else(ls[i-h.length]?).map (·.1)
 let FP':Nat->List Nat:=fun i=>if i<h.length then(if i∈Kl then((lk bk lb i).map (·.2)).getD []else FP i)else((ls[i-h.length]?).map (·.2)).getD []
 have hμold:∀ i,i<h.length->μ' i=μ i:=fun i hi=>by simp only[μ',if_pos hi]
 have hμnew:∀ i,h.length<=i->μ' i=(ls[i-h.length]?).map (·.1):=fun i hi=>by simp only[μ'];rw[if_neg (by omega)]
 have hFold:∀ i,i<h.length->FP' i=if i∈Kl then((lk bk lb i).map (·.2)).getD []else FP i:=fun i hi=>by simp only[FP',if_pos hi]
 have hFnew:∀ i,h.length<=i->FP' i=((ls[i-h.length]?).map (·.2)).getD []:=fun i hi=>by simp only[FP'];rw[if_neg (by omega)]
 have hHnew:∀ i,h.length<=i->Hof h2 i=(adE r)[i-h.length]? := by
  intro i hi;subst hh2;simp only[Hof,yxk];rw[if_neg (by omega),yib,hrl]
 have hKold:∀ id,id∈Kl->id<h.length:=fun id hid=>by obtain⟨e,he,_⟩:=hk.was id hid;exact yad he
 have hle:μ.le μ':=fun i L hi=>by rw[hμold i (hold i (by simp[hi]))];exact hi
 have hlsE:∀ (k:Nat) (L:Loc) (fq:List Nat),ls[k]? = some (L,fq)->∃ e,(adE r)[k]? = some e:=by
  intro k L fq hk;have:k<(adE r).length:=by rw[<- hAd.len];exact(List.getElem?_eq_some_iff.1 hk).1
  exact⟨_,List.getElem?_eq_getElem this⟩
 have hfpR:∀ (k:Nat) (L:Loc) (fq:List Nat),ls[k]? = some (L,fq)->∀ b,b∈fq->b∈fpR:=fun k L fq hk b hb=>by
  rw[hAd.fps];exact List.mem_flatten.2 ⟨fq,List.mem_map.2 ⟨(L,fq),List.mem_of_getElem? hk,rfl⟩,hb⟩
 have hfpO:∀ (k:Nat) (L:Loc) (fq:List Nat),lb[k]? = some (L,fq)->∀ b,b∈fq->b∈fpO:=fun k L fq hk b hb=>
  hbk.fps.subset (List.mem_flatten.2 ⟨fq,List.mem_map.2 ⟨(L,fq),List.mem_of_getElem? hk,rfl⟩,hb⟩)
 have hRm1:∀ b,b∈fpR->(b∈fpA\/w.heap.size<=b)/\b<w'.heap.size:=fun b hb=>hRm b (List.mem_append_left _ hb)
 have hRm2:∀ b,b∈fpO->(b∈fpA\/w.heap.size<=b)/\b<w'.heap.size:=fun b hb=>hRm b (List.mem_append_right _ hb)
 -- what is hot behind the call
 have hhot':∀ b,hot c.M0 (Hof h2) μ' b->(hot c.M0 (Hof h) μ b/\b∉fpA)\/b∈fpR++fpO:=by
  intro b hb;rcases hb with hb|⟨id,cap,e,hm,he,hl⟩
  ·refine .inl ⟨.inl hb,fun hf => ?_⟩
   obtain⟨id',_,hF'⟩:=hown.2 b hf;have h3:=c.cold0 b hb;rcases(hW.new id' b hF').1 with h4|h4
   ·exact h3.2 h4
   ·omega
  ·by_cases hid:id<h.length
   ·rw[hμold id hid]at hm
    by_cases hnk:id∈Kl
    ·rw[hH2old id hid]at he
     cases hlk:lk bk lb id with
     | none=>
      rw[hlk]at he;rw[hk.isDead id hnk]at he;cases he;simp[Ent.live]at hl
     | some p=>
      obtain⟨e1,fq⟩:=p;rw[hlk]at he;cases he
      obtain⟨k,L',h6,h7⟩:=yjf hlk;obtain⟨h8,h9⟩:=hbk.ok k id _ L' fq h6 h7;rw[h8]at hm;cases hm;exact .inr (List.mem_append_right _ (hfpO k _ fq h7 b ((h9 μ).topMem hl)))
    ·rw[hH2out id hid hnk]at he
     refine .inl ⟨.inr ⟨id,cap,e,hm,he,hl⟩,fun hf => ?_⟩;obtain⟨id',hid',hF'⟩:=hown.2 b hf;have hF:=(hW.lt hm he hl).1;have:id=id':=Classical.byContradiction fun hne=>hW.disj id id' hne b hF hF'
     subst this;exact hnk (hKK id hid')
   ·rw[hμnew id (by omega)]at hm
    rw[hHnew id (by omega)]at he
    cases hls:ls[id-h.length]? with
    | none=>simp[hls]at hm
    | some p=>
     obtain⟨L,fq⟩:=p;simp only[hls,Option.map_some,Option.some.injEq]at hm;subst hm;exact .inr (List.mem_append_left _ (hfpR _ _ _ hls b (((hAd.ok _ e _ fq he hls).1 μ').topMem hl)))
 have hup := WR.update (H' := Hof h2) (μ' := μ') (FP' := FP') (w' := w') (fun i => i ∈ Kl) [] hW (Free.nil _ _ _) hK.os hK.tape hK.output hK.size
  (by
   intro b hb;by_cases hbt:b∈y4 az vs
   ·obtain⟨id,hid,cap,hm⟩:=hAt b hbt
    exact .inr ⟨(htopK id b cap hid hm).1,id,hid,(htopK id b cap hid hm).2⟩
   ·exact .inl (hK.block b hb hbt))
  hle
  (by
   intro i hi hnk
   rw[hH2out i (hold i hi) hnk];rfl)
  (by
   intro i hi hk
   rw[hFold i (hold i hi),if_neg hk])
  (by
   intro i L hi hL;by_cases hid:i<h.length
   ·rw[hμold i hid]at hL
    rcases hi with hi|hi
    ·rw[hi]at hL;cases hL
    ·rw[hH2old i hid,hFold i hid,if_pos hi]
     cases hlk:lk bk lb i with
     | none=>exact⟨.dead,hk.isDead i hi,rfl⟩
     | some p=>
      obtain⟨e,fq⟩:=p;obtain⟨k,L',h6,h7⟩:=yjf hlk;obtain⟨h8,h9⟩:=hbk.ok k i e L' fq h6 h7;rw[h8]at hL;cases hL;exact⟨e,rfl,ylc.mono (Map.le_refl _) ⟨Nat.le_refl _,fun b _ hb hh=>hb (hhot' b hh),fun _ _ _=>rfl⟩ (fun b hb=>(hRm2 b (hfpO k _ fq h7 b hb)).2) (h9 _)⟩
   ·rw[hμnew i (by omega)]at hL
    cases hls:ls[i-h.length]? with
    | none=>simp[hls]at hL
    | some p=>
     obtain⟨L',fq⟩:=p;simp only[hls,Option.map_some,Option.some.injEq]at hL;subst hL;obtain⟨e,he⟩:=hlsE _ _ _ hls;refine⟨e,by rw[hHnew i (by omega)];exact he,?_⟩;rw[hFnew i (by omega),hls];simp only[Option.map_some,Option.getD_some]
     exact ylc.mono (Map.le_refl _) ⟨Nat.le_refl _,fun b _ hb hh=>hb (hhot' b hh),fun _ _ _=>rfl⟩ (fun b hb=>(hRm1 b (hfpR _ _ _ hls b hb)).2) ((hAd.ok _ e _ fq he hls).1 μ'))
  (by
   intro i b cap e hi hm he hl;by_cases hid:i<h.length
   ·rw[hμold i hid]at hm
    rcases hi with hi|hi
    ·rw[hi]at hm;cases hm
    ·exact .inl (htopK i b cap hi hm).1
   ·have hb:hot c.M0 (Hof h2) μ' b:=.inr ⟨i,cap,e,hm,he,hl⟩
    rw[hμnew i (by omega)]at hm;rw[hHnew i (by omega)]at he
    cases hls:ls[i-h.length]? with
    | none=>simp[hls]at hm
    | some p=>
     obtain⟨L,fq⟩:=p;simp only[hls,Option.map_some,Option.some.injEq]at hm;subst hm;have:=(hAd.ok _ e _ fq he hls).2 b cap rfl;rcases hRt b (List.mem_append_left _ this)with h3|h3
     ·exact .inl (hcoldTop b h3)
     ·exact .inr h3)
  (by
   have key:∀ b,(b∈fpA\/w.heap.size<=b)/\b<w'.heap.size->(∃ k,k∈Kl/\b∈FP k)\/(w.heap.size<=b/\b<w'.heap.size)\/b∈([]:List Nat):=by
    intro b h3;rcases h3.1 with h4|h4
    ·obtain⟨id,hid',hF⟩:=hown.2 b h4
     exact .inl ⟨id,hKK id hid',hF⟩
    ·exact .inr (.inl ⟨h4,h3.2⟩)
   intro i b hi hb;by_cases hid:i<h.length
   ·rw[hFold i hid]at hb
    split at hb
    ·cases hlk:lk bk lb i with
     | none=>simp[hlk]at hb
     | some p=>
      obtain⟨e,fq⟩:=p;obtain⟨k,L',h6,h7⟩:=yjf hlk;simp only[hlk,Option.map_some,Option.getD_some]at hb;exact key b (hRm2 b (hfpO k L' fq h7 b hb))
    ·rename_i hk
     rw[hW.out i (hi.resolve_right hk)]at hb;simp at hb
   ·rw[hFnew i (by omega)]at hb
    cases hls:ls[i-h.length]? with
    | none=>simp[hls]at hb
    | some p=>
     obtain⟨L,fq⟩:=p;simp only[hls,Option.map_some,Option.getD_some]at hb
     exact key b (hRm1 b (hfpR _ _ _ hls b hb)))
  (by
   intro i hi;by_cases hid:i<h.length
   ·rw[hμold i hid]at hi
    rw[hFold i hid];split
    ·cases hlk:lk bk lb i with
     | none=>rfl
     | some p=>
      obtain⟨e,fq⟩:=p;obtain⟨k,L',h6,h7⟩:=yjf hlk;rw[(hbk.ok k i e L' fq h6 h7).1]at hi;cases hi
    ·exact hW.out i hi
   ·rw[hμnew i (by omega)]at hi
    rw[hFnew i (by omega)]
    cases hls:ls[i-h.length]? with
    | none=>rfl
    | some p=>simp[hls]at hi)
  (by
   intro i _;by_cases hid:i<h.length
   ·rw[hFold i hid]
    split
    ·cases hlk:lk bk lb i with
     | none=>simp
     | some p=>
      obtain⟨e,fq⟩:=p;obtain⟨k,L',h6,h7⟩:=yjf hlk;exact hlbn.1 k L' fq h7
    ·exact hW.nodup i
   ·rw[hFnew i (by omega)]
    cases hls:ls[i-h.length]? with
    | none=>simp
    | some p=>obtain⟨L,fq⟩:=p;exact hlsn.1 _ L fq hls)
  (by
   have old:∀ i,i<h.length->(μ i=none\/i∈Kl)->FP' i=[]\/∃ (k:Nat) (e:Ent) (L:Loc) (fq:List Nat),bk[k]? = some (i,e)/\lb[k]? = some (L,fq)/\FP' i=fq:=by
    intro i hid hi;rw[hFold i hid];split
    ·cases hlk:lk bk lb i with
     | none=>exact .inl rfl
     | some p=>
      obtain⟨e,fq⟩:=p;obtain⟨k,L',h6,h7⟩:=yjf hlk;exact .inr ⟨k,e,L',fq,h6,h7,rfl⟩
    ·rename_i hk;exact .inl (hW.out i (hi.resolve_right hk))
   have new:∀ i,h.length<=i->FP' i=[]\/∃ (L:Loc) (fq:List Nat),ls[i-h.length]? = some (L,fq)/\FP' i=fq:=by
    intro i hi;rw[hFnew i hi]
    cases hls:ls[i-h.length]? with
    | none=>exact .inl rfl
    | some p=>obtain⟨L,fq⟩:=p;exact .inr ⟨L,fq,rfl,rfl⟩
   intro i j hij hi hj b hbi hbj;by_cases hid:i<h.length
   ·rcases old i hid hi with h5|⟨k,e,L,fq,h5,h6,h7⟩
    ·rw[h5]at hbi;simp at hbi
    ·rw[h7]at hbi
     by_cases hjd:j<h.length
     ·rcases old j hjd hj with g5|⟨k',e',L',fq',g5,g6,g7⟩
      ·rw[g5]at hbj;simp at hbj
      ·rw[g7]at hbj
       have hkk:k≠k':=by
        rintro rfl
        rw[h5]at g5;simp at g5;exact hij g5.1
       exact hlbn.2 k k' L fq L' fq' hkk h6 g6 b hbi hbj
     ·rcases new j (by omega)with g5|⟨L',fq',g6,g7⟩
      ·rw[g5]at hbj;simp at hbj
      ·rw[g7]at hbj
       exact hRn'.2.2 b (hfpR _ _ _ g6 b hbj) b (hfpO _ _ _ h6 b hbi) rfl
   ·rcases new i (by omega)with h5|⟨L,fq,h6,h7⟩
    ·rw[h5]at hbi;simp at hbi
    ·rw[h7]at hbi
     by_cases hjd:j<h.length
     ·rcases old j hjd hj with g5|⟨k',e',L',fq',g5,g6,g7⟩
      ·rw[g5]at hbj;simp at hbj
      ·rw[g7]at hbj
       exact hRn'.2.2 b (hfpR _ _ _ h6 b hbi) b (hfpO _ _ _ g6 b hbj) rfl
     ·rcases new j (by omega)with g5|⟨L',fq',g6,g7⟩
      ·rw[g5]at hbj;simp at hbj
      ·rw[g7]at hbj
       exact hlsn.2 _ _ L fq L' fq' (by omega) h6 g6 b hbi hbj)
 refine⟨v,μ',rfl,⟨⟨FP',hup.1⟩,?_,hup.2⟩,?_⟩
 ·intro i hi
  subst hh2;rw[List.length_append,hrl]at hi;rw[hμnew i (by omega),List.getElem?_eq_none (by rw[hAd.len];omega)];rfl
 ·refine Rep.mono _ (Map.le_refl _) ⟨Nat.le_refl _,fun b _ hb hh=>hb (hhot' b hh),fun _ _ _=>rfl⟩ (hAdR h.length μ' ?_)
  intro j L fq hj;rw[hμnew _ (by omega),Nat.add_sub_cancel_left,hj];rfl
end
end Go.Ab
namespace Go.Ab
open Go
variable [Inv]
structure St where
 t:List (Nat×AV)
 h:List Ent
def y8i (g : List Bool) : AV -> AV × List Prop
 | .gd gs y=>(y,[g.take gs.length=gs])
 | y=>(y,[])
def allT (g:List Bool):Prop:=∀ b∈g,b=true
def impG : List Bool -> Prop -> Prop
 | [],p=>p
 | b::g,p=>b=true->impG g p
def impL (g:List Bool) (ps:List Prop):List Prop:=
 match g with
 | []=>ps
 | _=>[impG g (allP ps)]
def ysi (g:List Bool) (x:AV):AV:=
 match g with
 | []=>x
 | _=>.gd g x
def put (t:List (Nat×AV)) (d:Option Nat) (x:AV):List (Nat×AV):=
 match d with
 | some d=>(d,x)::t
 | none=>t
def ybo (op:Op):List Operand:=op.operands.toList
def yab (g : List Bool) (t : List (Nat × AV)) : List Operand -> List Prop
 | []=>[]
 | x::xs=>(y8i g (opnd t x)).2++yab g t xs
def al (g:List Bool) (t:List (Nat×AV)) (x:Operand):AV:=(y8i g (opnd t x)).1
def ypb (all : Array Oper) (t : List (Nat × AV)) : Option (Nat × Bool) -> Option (List Bool)
  | none=>some []
  | some (j, want) => match all[j]? with
    | some o => match o.dst with
      | some d => match get t d with
        | .bool b=>some [bif want then b else !b]
        | .gd gs (.bool b)=>some (gs++[bif want then b else !b])
        | _=>none
      | none=>none
    | none=>none
def yal (g:List Bool) (t:List (Nat×AV)) (c a b:Operand):Option (AV×List Prop):=
  match y8i g (opnd t c)with
  | (.bool bc, o1) => match y8i (g ++ [bc]) (opnd t a), y8i (g ++ [!bc]) (opnd t b) with
    | (.bool p,o2),(.bool q,o3)=>some (.bool (bif bc then p else q),o1++(impL [bc] o2++impL [!bc] o3))
    | _,_=>none
  | _=>none
def y7f (Γ:Env) (h:List Ent) (α:Operand->AV) (op:Op):NewR:=
  match op with
  | .box _ x=>boxA h (α x)
  | .alloc t=>y1x Γ h t
  | .buildSlice t n parts=>y9o Γ h t n (parts.toList.map fun p=>(p.1,α p.2))
  | .makeSlice t l c=>ytx Γ h t (α l) (α c)
  | .call c => match c.callee, c.args.toList, c.argTypes.toList with
    | .builtin .append,[x,y],[t,t']=>if t=t' then yto Γ h t (α x) (α y)else none
    | .builtin .clear,[x],[t]=>yuw Γ h t (α x)
    | _,_,_=>none
  | .range t x=>yrv Γ h t (α x)
  | .next x true=>y63 h (α x)
  | _=>none
section
variable {P:Program} {Γ:Env} {c:Ctx} {μ:Map} {FP:Nat->List Nat} {w:World} {M:Nat->Prop}
theorem yo6 (g:List Bool) (p:Prop):impG g p↔(allT g->p):=by
 induction g with
 | nil=>simp[impG,allT]
 | cons b g ih=>
  simp only[impG,ih,allT,List.mem_cons,forall_eq_or_imp];exact⟨fun h ⟨h1,h2⟩=>h h1 h2,fun h h1 h2=>h ⟨h1,h2⟩⟩
theorem yig (g:List Bool) (ps:List Prop):allP (impL g ps)↔(allT g->allP ps):=by
 unfold impL;split
 ·simp[allT]
 ·simp only[allP,and_true,yo6]
theorem yte {g:List Bool} {x:AV} {v:Value} (hg:allT g) (hx:Rep w M x μ v []) (ho:allP (y8i g x).2):Rep w M (y8i g x).1 μ v []:=by
 unfold y8i at ho ⊢;split
 ·rename_i gs y
  simp only at ho;simp only[Rep]at hx;refine hx.2.1 ?_;intro b hb;rw[<- ho.1]at hb;exact hg b (List.mem_of_mem_take hb)
 ·exact hx
theorem y3j {g : List Bool} {t : List (Nat × AV)} : ∀ {l : List Operand}, allP (yab g t l) -> ∀ x ∈ l, allP (y8i g (opnd t x)).2
 | [],_=>by simp
 | y::l,h=>by
  simp only[yab]at h;obtain⟨h1,h2⟩:=yn.1 h;intro x hx;rcases List.mem_cons.1 hx with rfl|hx
  ·exact h1
  ·exact y3j h2 x hx
def TR (c:Ctx) (s:St) (μ:Map) (w:World) (a:Act):Prop:=
 (∀ i,Rep w (hot c.M0 (Hof s.h) μ) (get s.t i) μ (a.tmps.getD i undef) [])/\a.tmps.size=c.nt/\a.defers=[]
def WRs (c:Ctx) (s:St) (a:Act) (w:World):Prop:=∃ μ FP,WR c (Hof s.h) μ FP w/\Tail s.h μ/\TR c s μ w a
theorem ydx (v:Value):Rep w M (avOf v) μ v []:=by
 unfold avOf;split<;>first|exact yvs _|simp[Rep]
theorem yd0 (l:List Value):RepL w M (l.map avOf) μ l []:=by
 induction l with
 | nil=>simp[RepL]
 | cons v l ih=>simp only[List.map_cons,RepL];exact⟨v,l,[],[],rfl,rfl,ydx v,ih⟩
theorem ydf {s:St} {a:Act} (hT:TR c s μ w a) (x:Operand):Rep w (hot c.M0 (Hof s.h) μ) (opnd s.t x) μ (a.eval x) []:=by
 cases x with
 | tmp i=>exact hT.1 i
 | const v=>
  show Rep w _ (yn4 v) μ v [];unfold yn4;split
  ·rename_i cs
   simp only[Rep];exact⟨cs.toList,by simp,yd0 _⟩
  ·exact ydx v
 | func f=>
  simp only[opnd,Act.eval,Rep];exact⟨trivial,[],rfl,by simp[RepL]⟩
 | global g=>simp[opnd,Rep]
theorem ydg (t:List (Nat×AV)) (d:Nat) (x:AV) (i:Nat):get (put t (some d) x) i=if i=d then x else get t i:=by
 simp only[put,get]
 cases h:Nat.beq i d with
 | true=>rw[if_pos (Nat.eq_of_beq_eq_true h)];rfl
 | false=>
  rw[if_neg]
  ·rfl
  ·intro e
   subst e;simp at h
theorem TR.put {s : St} {a : Act} {h' : List Ent} {μ' : Map} {w' : World} (hT : TR c s μ w a) (ht : Trans c.M0 (Hof s.h) μ w (Hof h') μ' w') {d : Option Nat} (hd : ∀ i, d = some i -> i < c.nt) {x : AV} {v : Value}
  (hx:Rep w' (hot c.M0 (Hof h') μ') x μ' v []):TR c ⟨put s.t d x,h'⟩ μ' w' (a.put d v):=by
 cases d with
 | none=>exact⟨fun i=>ht.rep (hT.1 i),hT.2⟩
 | some d=>
  refine⟨fun i => ?_,by simpa [Act.put]using hT.2.1,by simpa [Act.put]using hT.2.2⟩;have hlt:d<a.tmps.size:=by rw[hT.2.1];exact hd d rfl
  rw[ydg];by_cases hi:i=d
  ·subst hi
   rw[if_pos rfl];have:(a.put (some i) v).tmps.getD i undef=v:=by simp[Act.put,hlt]
   rw[this];exact hx
  ·rw[if_neg hi]
   have:(a.put (some d) v).tmps.getD i undef=a.tmps.getD i undef:=by
    simp only[Act.put,Array.getD_eq_getD_getElem?];rw[Array.getElem?_setIfInBounds_ne (fun e=>hi e.symm)]
   rw[this];exact ht.rep (hT.1 i)
theorem y7d {all:Array Oper} {s:St} {a:Act} {o:Oper} {g:List Bool} (hT:TR c s μ w a) (hg:ypb all s.t o.guard=some g):Region.wanted o (yielded all a.tmps)=true↔allT g:=by
 unfold Region.wanted
 cases hgd:o.guard with
 | none=>
  rw[hgd]at hg;simp only[ypb,Option.some.injEq]at hg;subst hg;simp[allT]
 | some p=>
  obtain⟨j,want⟩:=p;rw[hgd]at hg;simp only[ypb]at hg
  cases hj:all[j]? with
  | none=>simp[hj]at hg
  | some oj=>
   simp only[hj]at hg
   cases hd:oj.dst with
   | none=>simp[hd]at hg
   | some d=>
    simp only[hd]at hg;have hrep:=hT.1 d
    have key:∀ b:Bool,a.tmps.getD d undef=.bool b->yielded all a.tmps j=some b:=by
     intro b hb
     have hlt:d<a.tmps.size:=by
      rcases Nat.lt_or_ge d a.tmps.size with h|h
      ·exact h
      ·rw[Array.getD_eq_getD_getElem?,Array.getElem?_eq_none h]at hb
       simp[undef]at hb
     have h2:a.tmps[d]? = some (.bool b):=by
      rw[Array.getD_eq_getD_getElem?,Array.getElem?_eq_getElem hlt]at hb;rw[Array.getElem?_eq_getElem hlt];exact congrArg some hb
     simp[yielded,hj,hd,h2]
    have keyn:a.tmps.getD d undef=undef->yielded all a.tmps j=none:=by
     intro hb;unfold yielded;simp only[hj,Option.bind_some,hd]
     cases h2:a.tmps[d]? with
     | none=>rfl
     | some v=>
      rw[Array.getD_eq_getD_getElem?,h2]at hb;simp only[Option.getD_some]at hb;subst hb;rfl
    split at hg
    ·rename_i b hgt
     simp only[Option.some.injEq]at hg;subst hg;rw[hgt]at hrep;simp only[key b hrep.val_bool];cases b<;>cases want<;>simp[allT]
    ·rename_i gs b hgt
     simp only[Option.some.injEq]at hg;subst hg;rw[hgt]at hrep;simp only[Rep]at hrep;by_cases hgs:∀ b∈gs,b=true
     ·have h1:=(hrep.2.1 hgs).1
      simp only[key b h1]
      have:allT (gs++[bif want then b else !b])↔(bif want then b else !b)=true:=by
       simp only[allT,List.mem_append,List.mem_singleton];exact⟨fun h=>h _ (.inr rfl),fun h x hx=>hx.elim (hgs x) (fun e=>e ▸ h)⟩
      rw[this];cases b<;>cases want<;>simp
     ·have h1:=keyn (hrep.2.2 hgs)
      simp only[h1];have:¬ allT (gs++[bif want then b else !b]):=fun h=>hgs fun x hx=>h x (List.mem_append_left _ hx)
      simp[this]
    ·simp at hg
end
end Go.Ab
