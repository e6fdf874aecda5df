/- Walks and lemmas. No conditions. -/
import Derived.ProofKit
import Derived.Test.YthmfknndfeepfaaGreatDoorEAb
set_option linter.unusedSectionVars false
set_option linter.unusedVariables false
set_option linter.unusedSimpArgs false
namespace Go.Ab
open Go
variable [Inv]
def lk : List (Nat × Ent) -> List (Loc × List Nat) -> Nat -> Option (Ent × List Nat)
 | (id,e)::bk,(_,fq)::lb,i=>if i=id then some (e,fq)else lk bk lb i
 | _,_,_=>none
theorem ysg : ∀ {bk : List (Nat × Ent)} {lb : List (Loc × List Nat)} {i : Nat} {e : Ent} {fq : List Nat}, lk bk lb i = some (e, fq) -> ∃ (k : Nat) (L : Loc), bk[k]? = some (i, e) /\ lb[k]? = some (L, fq)
 | [],_,_,_,_,h=>by simp[lk]at h
 | _::_,[],_,_,_,h=>by simp[lk]at h
 | (id,e0)::bk,(L,fq0)::lb,i,e,fq,h=>by
  simp only[lk]at h;split at h
  ·rename_i hi
   simp only[Option.some.injEq,Prod.mk.injEq]at h;obtain⟨rfl,rfl⟩:=h;exact⟨0,L,by simp[hi],rfl⟩
  ·obtain⟨k,L',h1,h2⟩:=ysg h
   exact⟨k+1,L',by simpa using h1,by simpa using h2⟩
theorem yv2 : ∀ {bk : List (Nat × Ent)} {lb : List (Loc × List Nat)} {i : Nat}, i ∉ bk.map (·.1) -> lk bk lb i = none
 | [],_,_,_=>by simp[lk]
 | _::_,[],_,_=>by simp[lk]
 | (id,e0)::bk,(L,fq0)::lb,i,h=>by
  simp only[List.map_cons,List.mem_cons,not_or]at h;simp only[lk,if_neg h.1];exact yv2 h.2
theorem y0i : ∀ (bk : List (Nat × Ent)) (h : List Ent), (yid h bk).length = h.length
 | [],h=>rfl
 | (id,e)::bk,h=>by rw[yid,y0i bk,y0]
theorem ykp:∀ {bk:List (Nat×Ent)} {lb:List (Loc×List Nat)} {h:List Ent} (i:Nat),lb.length=bk.length->(bk.map (·.1)).Nodup ->
  nthE (yid h bk) i=(match lk bk lb i with|some (e,_)=>if i<h.length then some e else nthE h i|none=>nthE h i)
 | [],lb,h,i,_,_=>by simp[yid,lk]
 | _::_,[],h,i,hl,_=>by simp at hl
 | (id,e)::bk,(L,fq)::lb,h,i,hl,hn=>by
  simp only[List.map_cons,List.nodup_cons]at hn;rw[yid,ykp (lb:=lb) i (by simpa using hl) hn.2];simp only[lk,y0];by_cases hi:i=id
  ·subst hi
   rw[yv2 hn.1,if_pos rfl];simp only[y6,true_and]
  ·rw[if_neg hi]
   have:nthE (setE h id e) i=nthE h i:=by rw[y6,if_neg (fun h=>hi h.1)]
   rw[this]
structure Bk (w':World) (X:Nat->Prop) (μ:Map) (bk:List (Nat×Ent)) (lb:List (Loc×List Nat)) (fp:List Nat):Prop where
 len:lb.length=bk.length
 fps:(lb.map (·.2)).flatten.Sublist fp
 ok:∀ (k:Nat) (id:Nat) (e:Ent) (L:Loc) (fq:List Nat),bk[k]? = some (id,e)->lb[k]? = some (L,fq)->μ id=some L/\∀ μ'',yic w' X μ'' e L fq
theorem Bk.nil {w':World} {M:Nat->Prop} {μ:Map} {fp:List Nat}:Bk w' M μ [] [] fp:=⟨rfl,by simp,by simp⟩
theorem Bk.append {w':World} {M:Nat->Prop} {μ:Map} {bk bk':List (Nat×Ent)} {lb lb':List (Loc×List Nat)} {fp fp':List Nat} (h:Bk w' M μ bk lb fp) (h':Bk w' M μ bk' lb' fp'):Bk w' M μ (bk++bk') (lb++lb') (fp++fp'):=by
 refine⟨by simp[h.len,h'.len],by simpa using h.fps.append h'.fps,?_⟩;intro k id e L fq he hl;by_cases hk:k<bk.length
 ·rw[List.getElem?_append_left hk]at he
  rw[List.getElem?_append_left (by rw[h.len];exact hk)]at hl;exact h.ok k id e L fq he hl
 ·rw[List.getElem?_append_right (by omega)]at he
  rw[List.getElem?_append_right (by rw[h.len];omega),h.len]at hl;exact h'.ok _ id e L fq he hl
theorem Bk.none {w':World} {M:Nat->Prop} {μ:Map} {fp:List Nat}:∃ lb,Bk w' M μ [] lb fp:=⟨[],Bk.nil⟩
theorem y23 {w w':World} {M0 M:Nat->Prop} {μ:Map} {x y:AV} {v:Value} {fp:List Nat} (hx:Rep w M0 x μ v []) (hy:Rep w' M y yw v fp):∃ lb,Bk w' M μ (bkC x y) lb fp:=by
 unfold bkC;split
 ·rename_i id e0 n0 T e n f
  simp only[Rep]at hx hy;obtain⟨_,hx⟩:=hx
  cases hm:μ id with
  | none=>simp[hm]at hx
  | some L=>
   cases L with
   | nil=>
    simp only[hm]at hx;obtain⟨_,rfl,rfl⟩:=hx;rcases hy with⟨rfl,_,rfl⟩|⟨b,o,cap,us,fps,hv,_⟩
    ·refine⟨[(.nil,[])],rfl,by simp,?_⟩
     intro k id' e' L fq he hl
     cases k with
     | zero=>
      simp only[List.getElem?_cons_zero,Option.some.injEq,Prod.mk.injEq]at he hl;obtain⟨rfl,rfl⟩:=he;obtain⟨rfl,rfl⟩:=hl;exact⟨hm,fun _=>⟨rfl,rfl⟩⟩
     | succ k=>simp at he
    ·simp at hv
   | blk b cap=>
    simp only[hm]at hx;obtain⟨hcap,o,rfl,hoo⟩:=hx;rcases hy with⟨rfl,hv,rfl⟩|⟨b',o',cap',us,fps,hv,hle,hb,hc,rfl,rfl,cur,hcur,hsz,hcm⟩
    ·simp[y7e]at hv
    ·simp only[Value.slice.injEq,Option.some.injEq,Addr.mk.injEq,Nat.sub_zero]at hv
     obtain⟨⟨rfl,rfl,_⟩,rfl,rfl⟩:=hv;refine⟨[(.blk b cap,b::(List.range n0).flatMap fps)],rfl,by simp,?_⟩;intro k id' e' L fq he hl
     cases k with
     | zero=>
      simp only[List.getElem?_cons_zero,Option.some.injEq,Prod.mk.injEq]at he hl;obtain⟨rfl,rfl⟩:=he;obtain⟨rfl,rfl⟩:=hl;refine⟨hm,fun μ''=>⟨cur,us,fps,hcur,hsz,hle.1,hcm,fun i hi => ?_,rfl⟩⟩;obtain⟨h1,h2,h3⟩:=hc i hi;exact⟨h1.lift,h2,by simpa using h3⟩
     | succ k=>simp at he
 ·rename_i id cs
  simp only[Rep]at hx hy;obtain⟨_,b,cap,hm,rfl⟩:=hx;obtain⟨b',us,T,hv,rfl,hb,hh,hone,hr⟩:=hy;simp only[Value.pointer.injEq,Option.some.injEq,Addr.mk.injEq]at hv;obtain⟨rfl,_,_⟩:=hv;refine⟨[(.blk b cap,[b])],rfl,by simp,?_⟩;intro k id' e' L fq he hl
  cases k with
  | zero=>
   simp only[List.getElem?_cons_zero,Option.some.injEq,Prod.mk.injEq]at he hl;obtain⟨rfl,rfl⟩:=he;obtain⟨rfl,rfl⟩:=hl;exact⟨hm,fun μ''=>⟨b,cap,us,T,rfl,rfl,hh,hone,hr.lift⟩⟩
  | succ k=>simp at he
 ·exact⟨[],rfl,by simp,by simp⟩
theorem yn3 {w w' : World} {M0 M : Nat -> Prop} {μ : Map} : ∀ {xs ys : List AV} {vs : List Value} {fp : List Nat}, RepL w M0 xs μ vs [] -> RepL w' M ys yw vs fp -> ∃ lb, Bk w' M μ (bkL xs ys) lb fp
 | [],_,_,_,_,_=>by simp only[bkL];exact⟨[],rfl,by simp,by simp⟩
 | _::_,[],_,_,_,_=>by simp only[bkL];exact⟨[],rfl,by simp,by simp⟩
 | x::xs,y::ys,vs,fp,hx,hy=>by
  simp only[RepL]at hx hy;obtain⟨u,us',f1,f2,rfl,e2,h1,h2⟩:=hx;obtain⟨rfl,rfl⟩:=List.append_eq_nil_iff.1 e2.symm;obtain⟨u',us'',g1,g2,e3,rfl,k1,k2⟩:=hy;simp only[List.cons.injEq]at e3;obtain⟨rfl,rfl⟩:=e3;obtain⟨l1,b1⟩:=y23 h1 k1;obtain⟨l2,b2⟩:=yn3 h2 k2;exact⟨l1++l2,by simp only[bkL];exact b1.append b2⟩
theorem yvcb {w w':World} {M0 M:Nat->Prop} {μ:Map} {x y:AV} {v:Value} {fp:List Nat} (hx:Rep w M0 x μ v []) (hy:Rep w' M y yw v fp):∃ lb,Bk w' M μ (bkV x y) lb fp:=by
 unfold bkV;split
 ·simp only[Rep]at hx hy
  obtain⟨us,rfl,h1⟩:=hx;obtain⟨us',e,h2⟩:=hy;have:us=us':=by simpa using e
  subst this;exact yn3 h1 h2
 ·exact y23 hx hy
theorem ylx {w w' : World} {M0 M : Nat -> Prop} {μ : Map} : ∀ {ms : List Bool} {xs ys : List AV} {vs : List Value} {fp : List Nat}, RepL w M0 xs μ vs [] -> RepL w' M ys yw vs fp -> ∃ lb, Bk w' M μ (bkVL ms xs ys) lb fp
 | [],_,_,_,_,_,_=>by simp only[bkVL];exact⟨[],rfl,by simp,by simp⟩
 | _::_,[],_,_,_,_,_=>by simp only[bkVL];exact⟨[],rfl,by simp,by simp⟩
 | _::_,_::_,[],_,_,_,_=>by simp only[bkVL];exact⟨[],rfl,by simp,by simp⟩
 | m::ms,x::xs,y::ys,vs,fp,hx,hy=>by
  simp only[RepL]at hx hy;obtain⟨u,us',f1,f2,rfl,e2,h1,h2⟩:=hx;obtain⟨rfl,rfl⟩:=List.append_eq_nil_iff.1 e2.symm;obtain⟨u',us'',g1,g2,e3,rfl,k1,k2⟩:=hy;simp only[List.cons.injEq]at e3;obtain⟨rfl,rfl⟩:=e3;obtain⟨l1,b1⟩:=yvcb h1 k1;obtain⟨l2,b2⟩:=ylx (ms:=ms) h2 k2
  cases m with
  | true=>exact⟨l1++l2,by simp only[bkVL];exact b1.append b2⟩
  | false=>
   refine⟨l2,?_⟩;simp only[bkVL];exact⟨b2.len,b2.fps.trans (List.sublist_append_right _ _),b2.ok⟩
section
variable {P:Program} {c:Ctx} {μ:Map} {FP:Nat->List Nat} {w:World}
theorem yqz {h h1 : List Ent} {f : FuncId} {xs az : List AV} {r : AV} {outs : List AV} {vs : List Value} {ms : List Bool} {ob : List Prop} (hW : WR c (Hof h) μ FP w) (hd : Tail h μ)
  (hx:RepL w (hot c.M0 (Hof h) μ) xs μ vs []) (ha:ygd h ms xs=some (az,h1,ob)) (ho:allP ob) (hnb:ygc r/\y4b outs\/ybg ms xs=true) (hnd:((bkVL ms xs outs).map (·.1)).Nodup) (hD:DenM P f az r outs) :
  Calls P f vs.toArray w fun e w'=>∃ v μ',e=.returned v/\Next1 c h μ w (yid h1 (bkVL ms xs outs)++adE r) μ' w' /\
   Rep w' (hot c.M0 (Hof (yid h1 (bkVL ms xs outs)++adE r)) μ') (adR h.length r) μ' v []:=by
 obtain⟨Kl,hk⟩:=ywf ha;obtain⟨K,fpA,hgone,hown,htops,hrep⟩:=y7j hW (fun _ _ h _=>h) hx ha ho
 have hKK:∀ id,id∈K->id∈Kl:=by
  intro id hid;obtain⟨⟨e,he,hl⟩,hdd⟩:=hgone.kill id hid;refine Classical.byContradiction fun hn => ?_
  have:=hk.other id hn;rw[he]at this;rw[hdd e this]at hl;cases hl
 have htf:∀ b,b∈y1 az vs->b∈fpA:=yvc az (hrep (fun _=>False) (fun _ h=>h.elim) (.inr fun _ _ _ _ _ _ _ h=>h))
 have hAt:∀ b,b∈y1 az vs->∃ id,id∈Kl/\∃ cap,μ id=some (.blk b cap):=by
  intro b hb;obtain⟨id',hid',hF'⟩:=hown.2 b (htf b hb);rcases htops b hb with h5|⟨id,cap,e,hm,he,hl⟩
  ·exfalso
   have h3:=c.cold0 b h5;rcases(hW.new id' b hF').1 with h4|h4
   ·exact h3.2 h4
   ·omega
  ·have hF:=(hW.lt hm he hl).1
   have:id=id':=Classical.byContradiction fun hne=>hW.disj id id' hne b hF hF'
   subst this;exact⟨id,hKK id hid',cap,hm⟩
 have hfl:∀ b,b∈fpA->b<w.heap.size:=fun b hb=>by obtain⟨id,_,h2⟩:=hown.2 b hb;exact(hW.new id b h2).2
 have hcall:Calls P f vs.toArray w fun e w'=>∃ v fpR fpO,e=.returned v/\Keep w (y1 az vs) w'/\Rep w' (fun b=>(hot c.M0 (Hof h) μ b/\b∉fpA)\/b∈fpR++fpO) r yw v fpR /\
   RepL w' (fun b=>(hot c.M0 (Hof h) μ b/\b∉fpA)\/b∈fpR++fpO) outs yw vs fpO/\(fpR++fpO).Nodup /\
   (∀ b,b∈fpR++fpO->(b∈fpA\/w.heap.size<=b)/\b<w'.heap.size)/\(∀ b,b∈tops r v++y1 outs vs->b∈y1 az vs\/w.heap.size<=b):=by
  rcases hnb with⟨hnr,hno⟩|hlent
  ·have hA:RepL w (fun b=>False\/b∈y1 az vs) az yw vs fpA:=by
    refine hrep _ (fun b hb=>htops b (hb.resolve_left id)) (.inr ?_);intro id b cap e hm he hl hb;obtain⟨id',hid',hF'⟩:=hown.2 b (htf b (hb.resolve_left (fun h=>h)));have hF:=(hW.lt hm (hk.sub id e he hl) hl).1;have:id=id':=Classical.byContradiction fun hne=>hW.disj id id' hne b hF hF'
    subst this;rw[(hgone.kill id hid').2 e he]at hl;cases hl
   refine(hD.2 w (fun _=>False) vs fpA hW.inv (fun b hb=>⟨fun h=>h,fun h=>by obtain⟨id,_,h2⟩:=hown.2 b h;exact hW.inv_fp hb id h2⟩) hA hown.1 (by simp) (by simp)).mono ?_;rintro e w' ⟨v,fpR,fpO,rfl,hK,hr,hO,hRn,hRm,hRt⟩
   exact⟨v,fpR,fpO,rfl,hK,Rep.noBor r hnr hr,RepL.noBor outs hno hO,hRn,hRm,hRt⟩
  ·have hA:RepL w (fun b=>(hot c.M0 (Hof h) μ b/\b∉fpA)\/b∈y1 az vs) az yw vs fpA:=hrep _ (fun b hb=>hb.elim And.left (htops b)) (.inl hlent)
   exact hD.2 w (fun b=>hot c.M0 (Hof h) μ b/\b∉fpA) vs fpA hW.inv (fun b hb=>⟨fun h=>hW.inv_hot hb h.1,fun h=>by obtain⟨id,_,h2⟩:=hown.2 b h;exact hW.inv_fp hb id h2⟩) hA hown.1 (fun b hb h=>h.2 hb) (fun b hb=>by
    rcases hb.1 with h1|⟨id,cap,e,hm,he,hl⟩
    ·exact Nat.lt_of_lt_of_le (c.cold0 b h1).1 hW.keep.size
    ·exact(hW.lt hm he hl).2)
 refine hcall.mono ?_;rintro e w' ⟨v,fpR,fpO,rfl,hK,hr,hO,hRn,hRm,hRt⟩
 obtain⟨lb,hbk⟩:=ylx (ms:=ms) hx hO;generalize hbkd:bkVL ms xs outs=bk at *;have hbkK:∀ p,p∈bk->p.1∈Kl:=by rw[<- hbkd];exact yhq ha hk
 generalize hh2:yid h1 bk++adE r=h2;have hrl:(yid h1 bk).length=h.length:=by rw[y0i,hk.len]
 have htopK:∀ id b cap,id∈Kl->μ id=some (.blk b cap)->hot c.M0 (Hof h) μ b/\b∈FP id:=by
  intro id b cap hid hm;obtain⟨e0,he,hl⟩:=hk.was id hid;exact⟨.inr ⟨id,cap,e0,hm,he,hl⟩,(hW.lt hm he hl).1⟩
 have hold:∀ id,μ id≠none->id<h.length:=fun id hid=>Nat.lt_of_not_le fun hle=>hid (hd id hle)
 have hH2old:∀ id,id<h.length->Hof h2 id=(match lk bk lb id with|some (e,_)=>some e|none=>nthE h1 id):=by
  intro id hid;subst hh2;simp only[Hof,y6k];rw[if_pos (by omega),ykp id hbk.len hnd];split
  ·rw[if_pos (by rw[hk.len];exact hid)]
  ·rfl
 have hlkK:∀ id e fq,lk bk lb id=some (e,fq)->id∈Kl:=by
  intro id e fq h5;obtain⟨k,L,h6,_⟩:=ysg h5;exact hbkK _ (List.mem_of_getElem? h6)
 have hH2out:∀ id,id<h.length->id∉Kl->Hof h2 id=nthE h id:=by
  intro id hid hnk;rw[hH2old id hid]
  cases hl:lk bk lb id with
  | none=>exact hk.other id hnk
  | some p=>exact absurd (hlkK id p.1 p.2 hl) hnk
 have hcoldTop:∀ b,b∈y1 az vs->hot c.M0 (Hof h) μ b:=htops;obtain⟨ls,hAd,hAdR⟩:=y71 r hr;have hRn':=List.nodup_append.1 hRn;have hlsn:=yzb (ls:=ls) (by rw[<- hAd.fps];exact hRn'.1);have hlbn:=yzb (ls:=lb) (hbk.fps.nodup hRn'.2.1);let μ':Map:=fun i=>if i<h.length then μ i else(ls[i-h.length]?).map (·.1)
 let FP':Nat->List Nat:=fun i=>if i<h.length then(if i∈Kl then((lk bk lb i).map (·.2)).getD []else FP i)else((ls[i-h.length]?).map (·.2)).getD []
 have hμold:∀ i,i<h.length->μ' i=μ i:=fun i hi=>by simp only[μ',if_pos hi]
 have hμnew:∀ i,h.length<=i->μ' i=(ls[i-h.length]?).map (·.1):=fun i hi=>by simp only[μ'];rw[if_neg (by omega)]
 have hFold:∀ i,i<h.length->FP' i=if i∈Kl then((lk bk lb i).map (·.2)).getD []else FP i:=fun i hi=>by simp only[FP',if_pos hi]
 have hFnew:∀ i,h.length<=i->FP' i=((ls[i-h.length]?).map (·.2)).getD []:=fun i hi=>by simp only[FP'];rw[if_neg (by omega)]
 have hHnew:∀ i,h.length<=i->Hof h2 i=(adE r)[i-h.length]? := by
  intro i hi;subst hh2;simp only[Hof,y6k];rw[if_neg (by omega),yjb,hrl]
 have hKold:∀ id,id∈Kl->id<h.length:=fun id hid=>by obtain⟨e,he,_⟩:=hk.was id hid;exact yed he
 have hle:μ.le μ':=fun i L hi=>by rw[hμold i (hold i (by simp[hi]))];exact hi
 have hlsE:∀ (k:Nat) (L:Loc) (fq:List Nat),ls[k]? = some (L,fq)->∃ e,(adE r)[k]? = some e:=by
  intro k L fq hk;have:k<(adE r).length:=by rw[<- hAd.len];exact(List.getElem?_eq_some_iff.1 hk).1
  exact⟨_,List.getElem?_eq_getElem this⟩
 have hfpR:∀ (k:Nat) (L:Loc) (fq:List Nat),ls[k]? = some (L,fq)->∀ b,b∈fq->b∈fpR:=fun k L fq hk b hb=>by
  rw[hAd.fps];exact List.mem_flatten.2 ⟨fq,List.mem_map.2 ⟨(L,fq),List.mem_of_getElem? hk,rfl⟩,hb⟩
 have hfpO:∀ (k:Nat) (L:Loc) (fq:List Nat),lb[k]? = some (L,fq)->∀ b,b∈fq->b∈fpO:=fun k L fq hk b hb=>
  hbk.fps.subset (List.mem_flatten.2 ⟨fq,List.mem_map.2 ⟨(L,fq),List.mem_of_getElem? hk,rfl⟩,hb⟩)
 have hRm1:∀ b,b∈fpR->(b∈fpA\/w.heap.size<=b)/\b<w'.heap.size:=fun b hb=>hRm b (List.mem_append_left _ hb)
 have hRm2:∀ b,b∈fpO->(b∈fpA\/w.heap.size<=b)/\b<w'.heap.size:=fun b hb=>hRm b (List.mem_append_right _ hb)
 -- what is hot behind the call
 have hhot':∀ b,hot c.M0 (Hof h2) μ' b->(hot c.M0 (Hof h) μ b/\b∉fpA)\/b∈fpR++fpO:=by
  intro b hb;rcases hb with hb|⟨id,cap,e,hm,he,hl⟩
  ·refine .inl ⟨.inl hb,fun hf => ?_⟩
   obtain⟨id',_,hF'⟩:=hown.2 b hf;have h3:=c.cold0 b hb;rcases(hW.new id' b hF').1 with h4|h4
   ·exact h3.2 h4
   ·omega
  ·by_cases hid:id<h.length
   ·rw[hμold id hid]at hm
    by_cases hnk:id∈Kl
    ·rw[hH2old id hid]at he
     cases hlk:lk bk lb id with
     | none=>
      rw[hlk]at he;rw[hk.isDead id hnk]at he;cases he;simp[Ent.live]at hl
     | some p=>
      obtain⟨e1,fq⟩:=p;rw[hlk]at he;cases he
      obtain⟨k,L',h6,h7⟩:=ysg hlk;obtain⟨h8,h9⟩:=hbk.ok k id _ L' fq h6 h7;rw[h8]at hm;cases hm;exact .inr (List.mem_append_right _ (hfpO k _ fq h7 b ((h9 μ).topMem hl)))
    ·rw[hH2out id hid hnk]at he
     refine .inl ⟨.inr ⟨id,cap,e,hm,he,hl⟩,fun hf => ?_⟩;obtain⟨id',hid',hF'⟩:=hown.2 b hf;have hF:=(hW.lt hm he hl).1;have:id=id':=Classical.byContradiction fun hne=>hW.disj id id' hne b hF hF'
     subst this;exact hnk (hKK id hid')
   ·rw[hμnew id (by omega)]at hm
    rw[hHnew id (by omega)]at he
    cases hls:ls[id-h.length]? with
    | none=>simp[hls]at hm
    | some p=>
     obtain⟨L,fq⟩:=p;simp only[hls,Option.map_some,Option.some.injEq]at hm;subst hm;exact .inr (List.mem_append_left _ (hfpR _ _ _ hls b (((hAd.ok _ e _ fq he hls).1 μ').topMem hl)))
 have hup := WR.update (H' := Hof h2) (μ' := μ') (FP' := FP') (w' := w') (fun i => i ∈ Kl) [] hW (Free.nil _ _ _) hK.os hK.tape hK.output hK.size
  (by
   intro b hb;by_cases hbt:b∈y1 az vs
   ·obtain⟨id,hid,cap,hm⟩:=hAt b hbt
    exact .inr ⟨(htopK id b cap hid hm).1,id,hid,(htopK id b cap hid hm).2⟩
   ·exact .inl (hK.block b hb hbt))
  hle
  (by
   intro i hi hnk
   rw[hH2out i (hold i hi) hnk];rfl)
  (by
   intro i hi hk
   rw[hFold i (hold i hi),if_neg hk])
  (by
   intro i L hi hL;by_cases hid:i<h.length
   ·rw[hμold i hid]at hL
    rcases hi with hi|hi
    ·rw[hi]at hL;cases hL
    ·rw[hH2old i hid,hFold i hid,if_pos hi]
     cases hlk:lk bk lb i with
     | none=>exact⟨.dead,hk.isDead i hi,rfl⟩
     | some p=>
      obtain⟨e,fq⟩:=p;obtain⟨k,L',h6,h7⟩:=ysg hlk;obtain⟨h8,h9⟩:=hbk.ok k i e L' fq h6 h7;rw[h8]at hL;cases hL;exact⟨e,rfl,yic.mono (Map.le_refl _) ⟨Nat.le_refl _,fun b _ hb hh=>hb (hhot' b hh),fun _ _ _=>rfl⟩ (fun b hb=>(hRm2 b (hfpO k _ fq h7 b hb)).2) (h9 _)⟩
   ·rw[hμnew i (by omega)]at hL
    cases hls:ls[i-h.length]? with
    | none=>simp[hls]at hL
    | some p=>
     obtain⟨L',fq⟩:=p;simp only[hls,Option.map_some,Option.some.injEq]at hL;subst hL;obtain⟨e,he⟩:=hlsE _ _ _ hls;refine⟨e,by rw[hHnew i (by omega)];exact he,?_⟩;rw[hFnew i (by omega),hls];simp only[Option.map_some,Option.getD_some]
     exact yic.mono (Map.le_refl _) ⟨Nat.le_refl _,fun b _ hb hh=>hb (hhot' b hh),fun _ _ _=>rfl⟩ (fun b hb=>(hRm1 b (hfpR _ _ _ hls b hb)).2) ((hAd.ok _ e _ fq he hls).1 μ'))
  (by
   intro i b cap e hi hm he hl;by_cases hid:i<h.length
   ·rw[hμold i hid]at hm
    rcases hi with hi|hi
    ·rw[hi]at hm;cases hm
    ·exact .inl (htopK i b cap hi hm).1
   ·have hb:hot c.M0 (Hof h2) μ' b:=.inr ⟨i,cap,e,hm,he,hl⟩
    rw[hμnew i (by omega)]at hm;rw[hHnew i (by omega)]at he
    cases hls:ls[i-h.length]? with
    | none=>simp[hls]at hm
    | some p=>
     obtain⟨L,fq⟩:=p;simp only[hls,Option.map_some,Option.some.injEq]at hm;subst hm;have:=(hAd.ok _ e _ fq he hls).2 b cap rfl;rcases hRt b (List.mem_append_left _ this)with h3|h3
     ·exact .inl (hcoldTop b h3)
     ·exact .inr h3)
  (by
   have key:∀ b,(b∈fpA\/w.heap.size<=b)/\b<w'.heap.size->(∃ k,k∈Kl/\b∈FP k)\/(w.heap.size<=b/\b<w'.heap.size)\/b∈([]:List Nat):=by
    intro b h3;rcases h3.1 with h4|h4
    ·obtain⟨id,hid',hF⟩:=hown.2 b h4
     exact .inl ⟨id,hKK id hid',hF⟩
    ·exact .inr (.inl ⟨h4,h3.2⟩)
   intro i b hi hb;by_cases hid:i<h.length
   ·rw[hFold i hid]at hb
    split at hb
    ·cases hlk:lk bk lb i with
     | none=>simp[hlk]at hb
     | some p=>
      obtain⟨e,fq⟩:=p;obtain⟨k,L',h6,h7⟩:=ysg hlk;simp only[hlk,Option.map_some,Option.getD_some]at hb;exact key b (hRm2 b (hfpO k L' fq h7 b hb))
    ·rename_i hk
     rw[hW.out i (hi.resolve_right hk)]at hb;simp at hb
   ·rw[hFnew i (by omega)]at hb
    cases hls:ls[i-h.length]? with
    | none=>simp[hls]at hb
    | some p=>
     obtain⟨L,fq⟩:=p;simp only[hls,Option.map_some,Option.getD_some]at hb
     exact key b (hRm1 b (hfpR _ _ _ hls b hb)))
  (by
   intro i hi;by_cases hid:i<h.length
   ·rw[hμold i hid]at hi
    rw[hFold i hid];split
    ·cases hlk:lk bk lb i with
     | none=>rfl
     | some p=>
      obtain⟨e,fq⟩:=p;obtain⟨k,L',h6,h7⟩:=ysg hlk;rw[(hbk.ok k i e L' fq h6 h7).1]at hi;cases hi
    ·exact hW.out i hi
   ·rw[hμnew i (by omega)]at hi
    rw[hFnew i (by omega)]
    cases hls:ls[i-h.length]? with
    | none=>rfl
    | some p=>simp[hls]at hi)
  (by
   intro i _;by_cases hid:i<h.length
   ·rw[hFold i hid]
    split
    ·cases hlk:lk bk lb i with
     | none=>simp
     | some p=>
      obtain⟨e,fq⟩:=p;obtain⟨k,L',h6,h7⟩:=ysg hlk;exact hlbn.1 k L' fq h7
    ·exact hW.nodup i
   ·rw[hFnew i (by omega)]
    cases hls:ls[i-h.length]? with
    | none=>simp
    | some p=>obtain⟨L,fq⟩:=p;exact hlsn.1 _ L fq hls)
  (by
   have old:∀ i,i<h.length->(μ i=none\/i∈Kl)->FP' i=[]\/∃ (k:Nat) (e:Ent) (L:Loc) (fq:List Nat),bk[k]? = some (i,e)/\lb[k]? = some (L,fq)/\FP' i=fq:=by
    intro i hid hi;rw[hFold i hid];split
    ·cases hlk:lk bk lb i with
     | none=>exact .inl rfl
     | some p=>
      obtain⟨e,fq⟩:=p;obtain⟨k,L',h6,h7⟩:=ysg hlk;exact .inr ⟨k,e,L',fq,h6,h7,rfl⟩
    ·rename_i hk;exact .inl (hW.out i (hi.resolve_right hk))
   have new:∀ i,h.length<=i->FP' i=[]\/∃ (L:Loc) (fq:List Nat),ls[i-h.length]? = some (L,fq)/\FP' i=fq:=by
    intro i hi;rw[hFnew i hi]
    cases hls:ls[i-h.length]? with
    | none=>exact .inl rfl
    | some p=>obtain⟨L,fq⟩:=p;exact .inr ⟨L,fq,rfl,rfl⟩
   intro i j hij hi hj b hbi hbj;by_cases hid:i<h.length
   ·rcases old i hid hi with h5|⟨k,e,L,fq,h5,h6,h7⟩
    ·rw[h5]at hbi;simp at hbi
    ·rw[h7]at hbi
     by_cases hjd:j<h.length
     ·rcases old j hjd hj with g5|⟨k',e',L',fq',g5,g6,g7⟩
      ·rw[g5]at hbj;simp at hbj
      ·rw[g7]at hbj
       have hkk:k≠k':=by
        rintro rfl
        rw[h5]at g5;simp at g5;exact hij g5.1
       exact hlbn.2 k k' L fq L' fq' hkk h6 g6 b hbi hbj
     ·rcases new j (by omega)with g5|⟨L',fq',g6,g7⟩
      ·rw[g5]at hbj;simp at hbj
      ·rw[g7]at hbj
       exact hRn'.2.2 b (hfpR _ _ _ g6 b hbj) b (hfpO _ _ _ h6 b hbi) rfl
   ·rcases new i (by omega)with h5|⟨L,fq,h6,h7⟩
    ·rw[h5]at hbi;simp at hbi
    ·rw[h7]at hbi
     by_cases hjd:j<h.length
     ·rcases old j hjd hj with g5|⟨k',e',L',fq',g5,g6,g7⟩
      ·rw[g5]at hbj;simp at hbj
      ·rw[g7]at hbj
       exact hRn'.2.2 b (hfpR _ _ _ h6 b hbi) b (hfpO _ _ _ g6 b hbj) rfl
     ·rcases new j (by omega)with g5|⟨L',fq',g6,g7⟩
      ·rw[g5]at hbj;simp at hbj
      ·rw[g7]at hbj
       exact hlsn.2 _ _ L fq L' fq' (by omega) h6 g6 b hbi hbj)
 refine⟨v,μ',rfl,⟨⟨FP',hup.1⟩,?_,hup.2⟩,?_⟩
 ·intro i hi
  subst hh2;rw[List.length_append,hrl]at hi;rw[hμnew i (by omega),List.getElem?_eq_none (by rw[hAd.len];omega)];rfl
 ·refine Rep.mono _ (Map.le_refl _) ⟨Nat.le_refl _,fun b _ hb hh=>hb (hhot' b hh),fun _ _ _=>rfl⟩ (hAdR h.length μ' ?_)
  intro j L fq hj;rw[hμnew _ (by omega),Nat.add_sub_cancel_left,hj];rfl
end
end Go.Ab
namespace Go.Ab
open Go
variable [Inv]
structure St where
 t:List (Nat×AV)
 h:List Ent
def yuj (g : List Bool) : AV -> AV × List Prop
 | .gd gs y=>(y,[g.take gs.length=gs])
 | y=>(y,[])
def allT (g:List Bool):Prop:=∀ b∈g,b=true
def impG : List Bool -> Prop -> Prop
 | [],p=>p
 | b::g,p=>b=true->impG g p
def impL (g:List Bool) (ps:List Prop):List Prop:=
 match g with
 | []=>ps
 | _=>[impG g (allP ps)]
def yri (g:List Bool) (x:AV):AV:=
 match g with
 | []=>x
 | _=>.gd g x
def put (t:List (Nat×AV)) (d:Option Nat) (x:AV):List (Nat×AV):=
 match d with
 | some d=>(d,x)::t
 | none=>t
def y4q (op:Op):List Operand:=op.operands.toList
def ycb (g : List Bool) (t : List (Nat × AV)) : List Operand -> List Prop
 | []=>[]
 | x::xs=>(yuj g (opnd t x)).2++ycb g t xs
def al (g:List Bool) (t:List (Nat×AV)) (x:Operand):AV:=(yuj g (opnd t x)).1
def ysb (all : Array Oper) (t : List (Nat × AV)) : Option (Nat × Bool) -> Option (List Bool)
  | none=>some []
  | some (j, want) => match all[j]? with
    | some o => match o.dst with
      | some d => match get t d with
        | .bool b=>some [bif want then b else !b]
        | .gd gs (.bool b)=>some (gs++[bif want then b else !b])
        | _=>none
      | none=>none
    | none=>none
def yum (g:List Bool) (t:List (Nat×AV)) (c a b:Operand):Option (AV×List Prop):=
  match yuj g (opnd t c)with
  | (.bool bc, o1) => match yuj (g ++ [bc]) (opnd t a), yuj (g ++ [!bc]) (opnd t b) with
    | (.bool p,o2),(.bool q,o3)=>some (.bool (bif bc then p else q),o1++(impL [bc] o2++impL [!bc] o3))
    | _,_=>none
  | _=>none
def y4f (Γ:Env) (h:List Ent) (α:Operand->AV) (op:Op):NewR:=
  match op with
  | .box _ x=>boxA h (α x)
  | .alloc t=>yny Γ h t
  | .buildSlice t n parts=>y2q Γ h t n (parts.toList.map fun p=>(p.1,α p.2))
  | .makeSlice t l c=>yly Γ h t (α l) (α c)
  | .call c => match c.callee, c.args.toList, c.argTypes.toList with
    | .builtin .append,[x,y],[t,t']=>if t=t' then y6p Γ h t (α x) (α y)else none
    | .builtin .clear,[x],[t]=>yoy Γ h t (α x)
    | _,_,_=>none
  | .range t x=>ycy Γ h t (α x)
  | .next x true=>yu7 h (α x)
  | .convert s d x=>strB Γ h s d (α x)
  | _=>none
section
variable {P:Program} {Γ:Env} {c:Ctx} {μ:Map} {FP:Nat->List Nat} {w:World} {M:Nat->Prop}
theorem yk5 (g:List Bool) (p:Prop):impG g p↔(allT g->p):=by
 induction g with
 | nil=>simp[impG,allT]
 | cons b g ih=>
  simp only[impG,ih,allT,List.mem_cons,forall_eq_or_imp];exact⟨fun h ⟨h1,h2⟩=>h h1 h2,fun h h1 h2=>h ⟨h1,h2⟩⟩
theorem yah (g:List Bool) (ps:List Prop):allP (impL g ps)↔(allT g->allP ps):=by
 unfold impL;split
 ·simp[allT]
 ·simp only[allP,and_true,yk5]
theorem ybf {g:List Bool} {x:AV} {v:Value} (hg:allT g) (hx:Rep w M x μ v []) (ho:allP (yuj g x).2):Rep w M (yuj g x).1 μ v []:=by
 unfold yuj at ho ⊢;split
 ·rename_i gs y
  simp only at ho;simp only[Rep]at hx;refine hx.2.1 ?_;intro b hb;rw[<- ho.1]at hb;exact hg b (List.mem_of_mem_take hb)
 ·exact hx
theorem ytk {g : List Bool} {t : List (Nat × AV)} : ∀ {l : List Operand}, allP (ycb g t l) -> ∀ x ∈ l, allP (yuj g (opnd t x)).2
 | [],_=>by simp
 | y::l,h=>by
  simp only[ycb]at h;obtain⟨h1,h2⟩:=yk.1 h;intro x hx;rcases List.mem_cons.1 hx with rfl|hx
  ·exact h1
  ·exact ytk h2 x hx
def TR (c:Ctx) (s:St) (μ:Map) (w:World) (a:Act):Prop:=
 (∀ i,Rep w (hot c.M0 (Hof s.h) μ) (get s.t i) μ (a.tmps.getD i undef) [])/\a.tmps.size=c.nt/\a.defers=[]
def WRs (c:Ctx) (s:St) (a:Act) (w:World):Prop:=∃ μ FP,WR c (Hof s.h) μ FP w/\Tail s.h μ/\TR c s μ w a
theorem yqx (v:Value):Rep w M (avOf v) μ v []:=by
 unfold avOf;split<;>first|exact y1s _|simp[Rep]
theorem yp2 (l:List Value):RepL w M (l.map avOf) μ l []:=by
 induction l with
 | nil=>simp[RepL]
 | cons v l ih=>simp only[List.map_cons,RepL];exact⟨v,l,[],[],rfl,rfl,yqx v,ih⟩
theorem yif {s:St} {a:Act} (hT:TR c s μ w a) (x:Operand):Rep w (hot c.M0 (Hof s.h) μ) (opnd s.t x) μ (a.eval x) []:=by
 cases x with
 | tmp i=>exact hT.1 i
 | const v=>
  show Rep w _ (yq6 v) μ v [];unfold yq6;split
  ·rename_i cs
   simp only[Rep];exact⟨cs.toList,by simp,yp2 _⟩
  ·exact yqx v
 | func f=>
  simp only[opnd,Act.eval,Rep];exact⟨trivial,[],rfl,by simp[RepL]⟩
 | global g=>simp[opnd,Rep]
theorem ycg (t:List (Nat×AV)) (d:Nat) (x:AV) (i:Nat):get (put t (some d) x) i=if i=d then x else get t i:=by
 simp only[put,get]
 cases h:Nat.beq i d with
 | true=>rw[if_pos (Nat.eq_of_beq_eq_true h)];rfl
 | false=>
  rw[if_neg]
  ·rfl
  ·intro e
   subst e;simp at h
theorem TR.put {s : St} {a : Act} {h' : List Ent} {μ' : Map} {w' : World} (hT : TR c s μ w a) (ht : Trans c.M0 (Hof s.h) μ w (Hof h') μ' w') {d : Option Nat} (hd : ∀ i, d = some i -> i < c.nt) {x : AV} {v : Value}
  (hx:Rep w' (hot c.M0 (Hof h') μ') x μ' v []):TR c ⟨put s.t d x,h'⟩ μ' w' (a.put d v):=by
 cases d with
 | none=>exact⟨fun i=>ht.rep (hT.1 i),hT.2⟩
 | some d=>
  refine⟨fun i => ?_,by simpa [Act.put]using hT.2.1,by simpa [Act.put]using hT.2.2⟩;have hlt:d<a.tmps.size:=by rw[hT.2.1];exact hd d rfl
  rw[ycg];by_cases hi:i=d
  ·subst hi
   rw[if_pos rfl];have:(a.put (some i) v).tmps.getD i undef=v:=by simp[Act.put,hlt]
   rw[this];exact hx
  ·rw[if_neg hi]
   have:(a.put (some d) v).tmps.getD i undef=a.tmps.getD i undef:=by
    simp only[Act.put,Array.getD_eq_getD_getElem?];rw[Array.getElem?_setIfInBounds_ne (fun e=>hi e.symm)]
   rw[this];exact ht.rep (hT.1 i)
theorem yje {all:Array Oper} {s:St} {a:Act} {o:Oper} {g:List Bool} (hT:TR c s μ w a) (hg:ysb all s.t o.guard=some g):Region.wanted o (yielded all a.tmps)=true↔allT g:=by
 unfold Region.wanted
 cases hgd:o.guard with
 | none=>
  rw[hgd]at hg;simp only[ysb,Option.some.injEq]at hg;subst hg;simp[allT]
 | some p=>
  obtain⟨j,want⟩:=p;rw[hgd]at hg;simp only[ysb]at hg
  cases hj:all[j]? with
  | none=>simp[hj]at hg
  | some oj=>
   simp only[hj]at hg
   cases hd:oj.dst with
   | none=>simp[hd]at hg
   | some d=>
    simp only[hd]at hg;have hrep:=hT.1 d
    have key:∀ b:Bool,a.tmps.getD d undef=.bool b->yielded all a.tmps j=some b:=by
     intro b hb
     have hlt:d<a.tmps.size:=by
      rcases Nat.lt_or_ge d a.tmps.size with h|h
      ·exact h
      ·rw[Array.getD_eq_getD_getElem?,Array.getElem?_eq_none h]at hb
       simp[undef]at hb
     have h2:a.tmps[d]? = some (.bool b):=by
      rw[Array.getD_eq_getD_getElem?,Array.getElem?_eq_getElem hlt]at hb;rw[Array.getElem?_eq_getElem hlt];exact congrArg some hb
     simp[yielded,hj,hd,h2]
    have keyn:a.tmps.getD d undef=undef->yielded all a.tmps j=none:=by
     intro hb;unfold yielded;simp only[hj,Option.bind_some,hd]
     cases h2:a.tmps[d]? with
     | none=>rfl
     | some v=>
      rw[Array.getD_eq_getD_getElem?,h2]at hb;simp only[Option.getD_some]at hb;subst hb;rfl
    split at hg
    ·rename_i b hgt
     simp only[Option.some.injEq]at hg;subst hg;rw[hgt]at hrep;simp only[key b hrep.val_bool];cases b<;>cases want<;>simp[allT]
    ·rename_i gs b hgt
     simp only[Option.some.injEq]at hg;subst hg;rw[hgt]at hrep;simp only[Rep]at hrep;by_cases hgs:∀ b∈gs,b=true
     ·have h1:=(hrep.2.1 hgs).1
      simp only[key b h1]
      have:allT (gs++[bif want then b else !b])↔(bif want then b else !b)=true:=by
       simp only[allT,List.mem_append,List.mem_singleton];exact⟨fun h=>h _ (.inr rfl),fun h x hx=>hx.elim (hgs x) (fun e=>e ▸ h)⟩
      rw[this];cases b<;>cases want<;>simp
     ·have h1:=keyn (hrep.2.2 hgs)
      simp only[h1];have:¬ allT (gs++[bif want then b else !b]):=fun h=>hgs fun x hx=>h x (List.mem_append_left _ hx)
      simp[this]
    ·simp at hg
end
end Go.Ab
namespace Go.Ab
open Go
variable [Inv]
structure Dn where
 d:FuncId->List AV->Option (AV×Bool×List Prop)
 md:FuncId->Option (List Bool)
 m:FuncId->List AV->Option (AV×List AV×List Prop)
structure DOk (P:Program) (D:Dn):Prop where
 d:∀ f xs r z ob,D.d f xs=some (r,z,ob)->allP ob->Den P f xs r
 m:∀ f xs r outs ob,D.m f xs=some (r,outs,ob)->allP ob->DenM P f xs r outs
def y3j : List Ent -> Bool
 | []=>true
 | .dead::h=>y3j h
 | _::_=>false
def yf3 (D:Dn) (h:List Ent) (f:FuncId) (xs:List AV):Option (AV×List Ent×List Prop):=
  match mapO (yfb h 8) xs with
  | some (ys, o1) => match D.d f ys with
    | some (r, z, o2) => match z with
      | true=>some (yeb r,[],o1++(o2++[ygc r\/y3j h=true\/y6d xs=true]))
      | false=>some (adR h.length r,adE r,o1++(o2++[ygc r\/y3j h=true\/y6d xs=true]))
    | none=>none
  | none=>none
def yg8 (D:Dn) (h:List Ent) (f:FuncId) (ms:List Bool) (xs:List AV):Option (AV×List Ent×List Prop):=
  match ygd h ms xs with
  | some (ys, h1, o1) => match D.m f ys with
    | some (r,outs,o2)=>some (adR h.length r,yid h1 (bkVL ms xs outs)++adE r,o1++(o2++[ygc r/\y4b outs\/ybg ms xs=true,((bkVL ms xs outs).map (·.1)).Nodup]))
    | none=>none
  | none=>none
section
variable {P:Program} {Γ:Env} {c:Ctx} {μ:Map} {FP:Nat->List Nat} {w:World}
theorem yuv {h h' : List Ent} {D : Dn} {f : FuncId} {ms : List Bool} {xs : List AV} {x : AV} {ob : List Prop} {vs : List Value} (hD : DOk P D) (hW : WR c (Hof h) μ FP w) (hd : Tail h μ)
  (he:yg8 D h f ms xs=some (x,h',ob)) (ho:allP ob) (hx:RepL w (hot c.M0 (Hof h) μ) xs μ vs []) :
  FnOk P f/\Calls P f vs.toArray w fun e w'=>∃ v μ',e=.returned v/\Next1 c h μ w h' μ' w'/\Rep w' (hot c.M0 (Hof h') μ') x μ' v []:=by
 unfold yg8 at he;split at he
 ·rename_i ys h1 o1 ha
  split at he
  ·rename_i r outs o2 hm
   simp only[Option.some.injEq,Prod.mk.injEq]at he;obtain⟨rfl,rfl,rfl⟩:=he;obtain⟨ho1,ho2⟩:=yk.1 ho;obtain⟨ho2,h3,h5,_⟩:=yk.1 ho2;have hden:=hD.m f ys r outs o2 hm ho2;exact⟨hden.1,yqz hW hd hx ha ho1 h3 h5 hden⟩
  ·cases he
 ·cases he
theorem WR.grow {h:List Ent} (hW:WR c (Hof h) μ FP w) {w':World} (hg:Grow w w'):WR c (Hof h) μ FP w'/\Trans c.M0 (Hof h) μ w (Hof h) μ w':=
 WR.update (fun _ => False) [] hW (Free.nil _ _ _) hg.os hg.tape hg.output hg.size (fun b hb => .inl (hg.block b hb)) (Map.le_refl _) (fun _ _ _ => rfl) (fun _ _ _ => rfl)
  (fun i L hi hL=>by have hi:=hi.resolve_right id;rw[hi]at hL;cases hL)
  (fun i b cap e hi hm=>by have hi:=hi.resolve_right id;rw[hi]at hm;cases hm)
  (fun i b hi hb=>by have hi:=hi.resolve_right id;rw[hW.out i hi]at hb;simp at hb)
  hW.out (fun i _=>hW.nodup i) (fun i j hij _ _=>hW.disj i j hij)
theorem ys1 {h:List Ent} (hd:y3j h=true):∀ (id:Nat) (e:Ent),nthE h id=some e->e.live=false:=by
 induction h with
 | nil=>intro id e he;simp[nthE]at he
 | cons x h ih=>
  intro id e he
  cases x with
  | dead=>
   simp only[y3j]at hd;rw[yjb]at he
   cases id with
   | zero=>simp at he;subst he;rfl
   | succ id=>exact ih hd id e (by rw[yjb];simpa using he)
  | box _=>simp[y3j]at hd
  | arr _ _ _ _=>simp[y3j]at hd
  | it _ _ _=>simp[y3j]at hd
  | byt _=>simp[y3j]at hd
theorem ylw {h es : List Ent} {D : Dn} {f : FuncId} {xs : List AV} {x : AV} {ob : List Prop} {vs : List Value} (hD : DOk P D) (hW : WR c (Hof h) μ FP w) (hd : Tail h μ)
  (he:yf3 D h f xs=some (x,es,ob)) (ho:allP ob) (hx:RepL w (hot c.M0 (Hof h) μ) xs μ vs []) :
  FnOk P f/\Calls P f vs.toArray w fun e w'=>∃ v μ',e=.returned v/\Next1 c h μ w (h++es) μ' w'/\Rep w' (hot c.M0 (Hof (h++es)) μ') x μ' v []:=by
 unfold yf3 at he
 cases hm:mapO (yfb h 8) xs with
 | none=>simp[hm]at he
 | some p=>
  obtain⟨ys,o1⟩:=p;simp only[hm]at he
  cases hDf:D.d f ys with
  | none=>simp[hDf]at he
  | some q=>
   obtain⟨r,z,o2⟩:=q;simp only[hDf]at he
   have ho':allP o1/\allP o2/\(ygc r\/y3j h=true\/y6d xs=true):=by
    cases z<;>simp only[Option.some.injEq,Prod.mk.injEq]at he<;>obtain⟨_,_,rfl⟩:=he<;>
     exact⟨(yk.1 ho).1,(yk.1 (yk.1 ho).2).1,((yk.1 (yk.1 ho).2).2).1⟩
   obtain⟨ho1,ho2,ho3⟩:=ho';have hden:=hD.d f ys r z o2 hDf ho2;refine⟨hden.1,?_⟩
   -- the blocks that stay hot for the callee
   have key:∃ M:Nat->Prop,(∀ b,M b->hot c.M0 (Hof h) μ b)/\RepL w M ys yw vs []/\(ygc r\/∀ b,hot c.M0 (Hof h) μ b->M b):=by
    have hcl : RepL w c.M0 ys yw vs [] := yar (yph hW (h1 := h) (M' := c.M0) (fun b hb => .inl hb) (fun _ _ h _ => h)
     (fun id b cap e hmu hid hl hb=>by
      have h1:=hW.lt hmu hid hl;have h2:=c.cold0 b hb;rcases(hW.new id b h1.1).1 with h3|h3
      ·exact h2.2 h3
      ·omega) 8) hm ho1 hx
    rcases ho3 with h1|h1|h1
    ·exact⟨c.M0,fun b hb=>.inl hb,hcl,.inl h1⟩
    ·refine⟨c.M0,fun b hb=>.inl hb,hcl,.inr fun b hb => ?_⟩
     rcases hb with hb|⟨id,cap,e,hmu,hid,hl⟩
     ·exact hb
     ·rw[ys1 h1 id e hid]at hl;cases hl
    ·refine⟨hot c.M0 (Hof h) μ,fun b hb=>hb,?_,.inr fun b hb=>hb⟩
     rw[yij 8 xs ys o1 h1 hm];exact y9f xs h1 hx
   obtain⟨M,hMh,hys,hres⟩:=key
   have htop:y1 ys vs=[]:=by
    apply List.eq_nil_iff_forall_not_mem.2;intro b hb;have:=yvc ys hys b hb;simp at this
   have hys2:RepL w (fun b=>M b\/b∈y1 ys vs) ys yw vs []:=by
    rw[htop];simpa using hys
   cases z with
   | false=>
    simp only[Option.some.injEq,Prod.mk.injEq]at he;obtain⟨rfl,rfl,_⟩:=he
    exact y22 hW hd [] (h1 := h) rfl (by simp) (by simp) hMh hys2 (by simp) (by simp) (by simp) (by rw [htop]; simp)
     (hres.imp id (fun h b hb=>.inl (h b hb))) hden
   | true=>
    simp only[Option.some.injEq,Prod.mk.injEq]at he;obtain⟨rfl,rfl,_⟩:=he;refine(hden.2 w M vs [] hW.inv (fun b hb=>⟨fun h=>hW.inv_hot hb (hMh b h),by simp⟩) hys2 (by simp) (by simp) (fun b hb=>ywr hW (hMh b hb))).mono ?_;rintro e w' ⟨v,fpR,rfl,hK,hr,hRn,hRm,hRt⟩
    rw[htop]at hK;have hg:Grow w w':=⟨hK.os,hK.tape,hK.output,hK.size,fun k hk=>hK.block k hk (by simp)⟩
    obtain⟨hW',hT'⟩:=hW.grow hg
    have hcold:∀ b,b∈fpR->¬ hot c.M0 (Hof h) μ b:=by
     intro b hb hh;have h1:=ywr hW hh;have h2:=(hRm b hb).1;simp at h2
     omega
    have hr2:Rep w' (hot c.M0 (Hof h) μ) r yw v fpR:=by
     rcases hres with hnb|hop
     ·exact Rep.noBor r hnb hr
     ·exact Rep.mono r (Map.le_refl _) ⟨Nat.le_refl _,fun b _ hb hh=>hb (.inl (hop b hh)),fun _ _ _=>rfl⟩ hr
    refine⟨v,μ,rfl,?_,?_⟩
    ·rw[List.append_nil]
     exact⟨⟨FP,hW'⟩,hd,hT'⟩
    ·rw[List.append_nil]
     exact(ygp r hcold hr2).ofNoMap
end
end Go.Ab
namespace Go.Ab
open Go
variable [Inv]
def yng : Op -> Option (Operand × List Operand)
  | .call c => match c.callee with
    | .value f=>some (f,c.args.toList)
    | _=>none
  | _=>none
def yjr (D:Dn) (g:List Bool) (t:List (Nat×AV)) (h:List Ent) (fop:Operand) (args:List Operand):NewR:=
  match al g t fop with
  | .fn f k cs => match D.md f with
    | some ms => match g with
      | [] => match yg8 D h f ms (cs.take k ++ args.map (al [] t) ++ cs.drop k) with
        | some (x,h',ob)=>some (x,h',ycb [] t (fop::args)++ob)
        | none=>none
      | _=>none
    | none => match yf3 D h f (cs.take k ++ args.map (al g t) ++ cs.drop k) with
      | some (x, es, ob) => match g, es with
        | [],es=>some (x,h++es,ycb [] t (fop::args)++ob)
        | b::g',[]=>some (.gd (b::g') x,h,impL (b::g') (ycb (b::g') t (fop::args)++ob))
        | _,_=>none
      | none=>none
  | _=>none
def litA : NewR -> Option (AV × List Prop)
 | some (.ref id e off n,[.arr _ e' m f],ob)=>some (.sl none e n f,ob++[id=0,off=0,e=e',n<=m,∀ i,i<n->y9d (f i)=true/\yvb (f i)])
 | _=>none
def yvj (α : Operand -> AV) : List Operand -> Bool
 | []=>true
 | x::xs=>y1d (α x) && yvj α xs
def ytr (Γ:Env) (g:List Bool) (t:List (Nat×AV)) (h:List Ent) (op:Op):NewR:=
  match yeh Γ h (al g t) op with
  | some (x,ob)=>some (yri g x,h,impL g (ycb g t (y4q op)++ob))
  | none => match g with
    | [] => match y4f Γ h (al [] t) op with
      | some (x,h',ob)=>some (x,h',ycb [] t (y4q op)++ob)
      | none=>none
    | b :: g => bif yvj (al (b :: g) t) op.operands.toList then (match litA (y4f Γ [] (al (b :: g) t) op) with
      | some (x,ob)=>some (yri (b::g) x,h,impL (b::g) (ycb (b::g) t (y4q op)++ob))
      | none=>none)else none
def ywe (Γ:Env) (D:Dn) (all:Array Oper) (t:List (Nat×AV)) (h:List Ent) (o:Oper):NewR:=
  match ysb all t o.guard with
  | none=>none
  | some g => match o.op with
    | .pick c a b => match yum g t c a b with
      | some (x,ob)=>some (yri g x,h,impL g ob)
      | none=>none
    | .store t' a x => match g, o.dst with
      | [], none => match y7y Γ h t' (al [] t a) (al [] t x) with
        | some (h',ob)=>some (.any,h',ycb [] t [a,x]++ob)
        | none=>none
      | _,_=>none
    | op => match yng op with
      | some (fop,args)=>yjr D g t h fop args
      | none=>ytr Γ g t h op
section
variable {P:Program} {Γ:Env} {D:Dn} {c:Ctx} {s:St} {μ:Map} {FP:Nat->List Nat} {w:World} {a:Act} {all:Array Oper} {o:Oper}
def ylc (c:Ctx) (s:St) (μ:Map) (w:World) (a:Act) (dst:Option Nat) (x:AV) (h':List Ent) (a':Act) (w':World):Prop:=
 ∃ v μ',a'=a.put dst v/\Next1 c s.h μ w h' μ' w'/\Rep w' (hot c.M0 (Hof h') μ') x μ' v []
theorem ywi {M:Nat->Prop} {g:List Bool} {x:AV} {v:Value} (hg:allT g) (h:Rep w M x μ v []):Rep w M (yri g x) μ v []:=by
 unfold yri;split
 ·exact h
 ·simp only[Rep]
  exact⟨trivial,fun _=>h,fun hn=>absurd hg hn⟩
theorem yj5 {M:Nat->Prop} {g:List Bool} {x:AV} (hg:¬ allT g):Rep w M (yri g x) μ undef []:=by
 unfold yri;split
 ·exact absurd (by simp[allT]) hg
 ·simp only[Rep]
  exact⟨trivial,fun h=>absurd h hg,fun _=>trivial⟩
theorem Next1.same {h:List Ent} (hW:WR c (Hof h) μ FP w) (hd:Tail h μ):Next1 c h μ w h μ w:=⟨⟨FP,hW⟩,hd,Trans.refl _ _ _ _⟩
theorem yydb (hT:TR c s μ w a) {g:List Bool} (hg:allT g) {x:Operand} (ho:allP (yuj g (opnd s.t x)).2):Rep w (hot c.M0 (Hof s.h) μ) (al g s.t x) μ (a.eval x) []:=
 ybf hg (yif hT x) ho
theorem y8f {ρ:Operand->Value} {z:Value} {w':World} {K:Act->World->Prop} {Q:Exit->Act->World->Prop} (h:(execOp ρ o).run P w=.ok (.value z) w') (he:a.eval=ρ) (hK:K (a.put o.dst z) w') :
  o.wp P a w K Q:=by
 subst he;unfold Oper.wp;rw[h];exact hK
theorem y18 {g:List Bool} {cc x y:Operand} {r:AV} {ob:List Prop} (hT:TR c s μ w a) (hg:allT g) (he:yum g s.t cc x y=some (r,ob)) (ho:allP ob) :
  ∃ z,(do pure (Next.value (if <- asBool (a.eval cc)then a.eval x else a.eval y)):Sem Next).run P w=.ok (.value z) w/\Rep w (hot c.M0 (Hof s.h) μ) r μ z []:=by
 unfold yum at he;split at he
 ·rename_i bc o1 hc
  split at he
  ·rename_i p o2 q o3 hp hq
   simp only[Option.some.injEq,Prod.mk.injEq]at he;obtain⟨rfl,rfl⟩:=he;obtain⟨ho1,ho23⟩:=yk.1 ho;obtain⟨ho2,ho3⟩:=yk.1 ho23;have hcr:=ybf hg (yif hT cc) (by rw[hc];exact ho1);rw[hc]at hcr;have hcv:=hcr.val_bool;rw[yah]at ho2 ho3
   cases bc with
   | true=>
    have h1:=ybf (g:=g++[true]) (by intro b hb;rcases List.mem_append.1 hb with hb|hb;exact hg b hb;simpa using hb) (yif hT x) (by rw[hp];exact ho2 (by simp[allT]));rw[hp]at h1;refine⟨a.eval x,?_,by simpa using h1⟩;rw[hcv];simp[asBool]
   | false=>
    have h1:=ybf (g:=g++[!false]) (by intro b hb;rcases List.mem_append.1 hb with hb|hb;exact hg b hb;simpa using hb) (yif hT y) (by rw[hq];exact ho3 (by simp[allT]));rw[hq]at h1;refine⟨a.eval y,?_,by simpa using h1⟩;rw[hcv];simp[asBool]
  ·simp at he
 ·simp at he
theorem yan (hΓ : TyOk P Γ) {h h' : List Ent} {α : Operand -> AV} {ρ : Operand -> Value} {r : AV} {ob : List Prop} (hW : WR c (Hof h) μ FP w) (hd : Tail h μ)
  (he:y4f Γ h α o.op=some (r,h',ob)) (ho:allP ob) (hρ:∀ x,x∈o.op.operands.toList->Rep w (hot c.M0 (Hof h) μ) (α x) μ (ρ x) []) :
  ∃ z μ' w',(execOp ρ o).run P w=.ok (.value z) w'/\Next1 c h μ w h' μ' w'/\Rep w' (hot c.M0 (Hof h') μ') r μ' z []:=by
 have lift:∀ {s:Sem Value} {z:Value} {w':World},s.run P w=.ok z w'->(do pure (Next.value (<- s)):Sem Next).run P w=.ok (.value z) w':=by
  intro s z w' hs;rw[Sem.run_bind,hs];rfl
 obtain⟨dst,op,type,pos,after,guard⟩:=o;simp only at he hρ;unfold y4f at he;split at he
 ·rename_i T x
  obtain⟨z,μ',w',h1,h2,h3⟩:=yoz (P:=P) hW hd he (hρ x (by simp[Op.operands])) T;exact⟨z,μ',w',by simp only[execOp];exact lift h1,h2,h3⟩
 ·rename_i T
  obtain⟨z,μ',w',h1,h2,h3⟩:=yws (P:=P) hΓ hW hd he;exact⟨z,μ',w',by simp only[execOp];exact lift h1,h2,h3⟩
 ·rename_i T n parts
  have hr:=yyg (M:=hot c.M0 (Hof h) μ) (μ:=μ) (w:=w) (α:=α) (ρ:=ρ) (l:=parts.toList.map (·.2)) (by
   intro x hx
   exact hρ x (by simpa [Op.operands]using hx))
  obtain⟨z,μ',w',h1,h2,h3⟩:=yup (P:=P) (vals:=parts.toList.map fun p=>(p.1,ρ p.2)) hΓ hW hd he ho (by simp) (by simpa [List.map_map,Function.comp_def]using hr);refine⟨z,μ',w',?_,h2,h3⟩;simp only[execOp]
  have e:(parts.map fun x=>match x with|(i,x)=>(i,ρ x))=(parts.toList.map fun p=>(p.1,ρ p.2)).toArray:=by
   apply Array.ext';simp
  rw[e];exact lift h1
 ·rename_i T l cc
  obtain⟨z,μ',w',h1,h2,h3⟩:=yau (P:=P) hΓ hW hd he ho (hρ l (by simp[Op.operands])) (hρ cc (by simp[Op.operands]));exact⟨z,μ',w',by simp only[execOp];exact lift h1,h2,h3⟩
 ·rename_i cl
  split at he
  ·rename_i x y t t' hcal hargs hts
   split at he
   ·rename_i htt
    subst htt;have hxm:Rep w (hot c.M0 (Hof h) μ) (α x) μ (ρ x) []:=hρ x (by simp[Op.operands,Call.operands,hcal,hargs]);have hym:Rep w (hot c.M0 (Hof h) μ) (α y) μ (ρ y) []:=hρ y (by simp[Op.operands,Call.operands,hcal,hargs]);obtain⟨z,μ',w',h1,h2,h3⟩:=ywq (P:=P) (ty:=type) hΓ hW hd he ho hxm hym;refine⟨z,μ',w',?_,h2,h3⟩;have ea:cl.args.map ρ = #[ρ x,ρ y]:=by apply Array.ext';simp[hargs]
    have et:cl.argTypes = #[t,t]:=by apply Array.ext';simpa using hts
    simp only[execOp,resolve,hcal,Sem.run_bind,Sem.run_pure,Result.andThen_ok,invoke,builtin,ea,et];rw[h1];rfl
   ·simp at he
  ·rename_i x t hcal hargs hts
   have hxm:Rep w (hot c.M0 (Hof h) μ) (α x) μ (ρ x) []:=hρ x (by simp[Op.operands,Call.operands,hcal,hargs]);obtain⟨z,μ',w',h1,h2,h3⟩:=ytt (P:=P) (ty:=type) hΓ hW hd he ho hxm;refine⟨z,μ',w',?_,h2,h3⟩;have ea:cl.args.map ρ = #[ρ x]:=by apply Array.ext';simp[hargs]
   have et:cl.argTypes = #[t]:=by apply Array.ext';simpa using hts
   simp only[execOp,resolve,hcal,Sem.run_bind,Sem.run_pure,Result.andThen_ok,invoke,builtin,ea,et];rw[h1];rfl
  ·simp at he
 ·rename_i t x
  obtain⟨z,μ',w',h1,h2,h3⟩:=ybs (P:=P) hΓ hW hd he ho (hρ x (by simp[Op.operands]));exact⟨z,μ',w',by simp only[execOp];exact lift h1,h2,h3⟩
 ·rename_i x
  obtain⟨z,w',h1,h2,h3⟩:=y0v (P:=P) hW hd he (hρ x (by simp[Op.operands])) type;exact⟨z,μ,w',by simp only[execOp];exact lift h1,h2,h3⟩
 ·rename_i s d x
  obtain⟨z,μ',w',h1,h2,h3⟩:=y6z (P:=P) hΓ hW hd he (hρ x (by simp[Op.operands]));exact⟨z,μ',w',by simp only[execOp];exact lift h1,h2,h3⟩
 ·simp at he
end
end Go.Ab
namespace Go.Ab
open Go
variable [Inv]
section
variable {P:Program} {Γ:Env} {D:Dn} {c:Ctx} {s:St} {μ:Map} {FP:Nat->List Nat} {w:World} {a:Act} {all:Array Oper} {o:Oper} {Q:Exit->Act->World->Prop}
theorem RepL.app {M : Nat -> Prop} : ∀ {xs ys : List AV} {us vs : List Value}, RepL w M xs μ us [] -> RepL w M ys μ vs [] -> RepL w M (xs ++ ys) μ (us ++ vs) []
 | [],ys,us,vs,h1,h2=>by
  simp only[RepL]at h1;rw[h1.1];simpa using h2
 | x::xs,ys,us,vs,h1,h2=>by
  simp only[RepL,List.cons_append]at h1 ⊢;obtain⟨u,us',f1,f2,rfl,e2,h3,h4⟩:=h1;obtain⟨rfl,rfl⟩:=List.append_eq_nil_iff.1 e2.symm;exact⟨u,us'++vs,[],[],rfl,rfl,h3,RepL.app h4 h2⟩
theorem yfn (hT:TR c s μ w a) {g:List Bool} (hg:allT g):∀ {l:List Operand},allP (ycb g s.t l)->∀ x∈l,Rep w (hot c.M0 (Hof s.h) μ) (al g s.t x) μ (a.eval x) []:=
 fun h x hx=>yydb hT hg (ytk h x hx)
theorem y9s {α : Operand -> AV} : ∀ {l : List Operand}, yvj α l = true -> ∀ x ∈ l, y1d (α x) = true
 | [],_,x,h=>by simp at h
 | y::l,hp,x,h=>by
  simp only[yvj,Bool.and_eq_true]at hp;rcases List.mem_cons.1 h with rfl|h
  ·exact hp.1
  ·exact y9s hp.2 x h
theorem ys3 (hΓ : TyOk P Γ) {h : List Ent} {α : Operand -> AV} {ρ : Operand -> Value} {y : AV} {ob : List Prop} (hW : WR c (Hof h) μ FP w) (hd : Tail h μ)
  (hpo:yvj α o.op.operands.toList=true) (he:litA (y4f Γ [] α o.op)=some (y,ob)) (ho:allP ob) (hρ:∀ x,x∈o.op.operands.toList->Rep w (hot c.M0 (Hof h) μ) (α x) μ (ρ x) []) :
  ∃ z w',(execOp ρ o).run P w=.ok (.value z) w'/\Next1 c h μ w h μ w'/\Rep w' (hot c.M0 (Hof h) μ) y μ z []:=by
 cases hev:y4f Γ [] α o.op with
 | none=>rw[hev]at he;simp[litA]at he
 | some p=>
  obtain⟨x,h',ob1⟩:=p;rw[hev]at he;unfold litA at he;split at he
  ·rename_i id e off n T e' m f ob2 heq
   simp only[Option.some.injEq,Prod.mk.injEq]at heq he;obtain⟨rfl,rfl,rfl⟩:=heq;obtain⟨rfl,rfl⟩:=he;obtain⟨ho1,ho2⟩:=yk.1 ho;simp only[allP,and_true]at ho2;obtain⟨rfl,rfl,rfl,hnm,hpf⟩:=ho2;let c':Ctx:={ w0:=w,M0:=hot c.M0 (Hof h) μ,F0:=[],T0:=[],mu0:=yw,k0:=0,nt:=0,cold0:=fun b hb=>⟨ywr hW hb,by simp⟩,own0:=by simp,top0:=by simp,base0:=by simp[yw],inv0:=hW.inv,invM:=fun b hb=>⟨hW.inv_hot hb,by simp⟩}
   have hhot:∀ b,hot c'.M0 (Hof []) yw b->hot c.M0 (Hof h) μ b:=by
    rintro b (hb|⟨id,cap,e,hm,_⟩)
    ·exact hb
    ·cases hm
   have hW':WR c' (Hof []) yw (fun _=>[]) w:=by
    refine⟨⟨rfl,rfl,rfl,Nat.le_refl _,fun _ _ _=>rfl⟩,Map.le_refl _,?_,?_,?_,?_,?_,?_⟩
    ·intro id L hm;cases hm
    ·intro _ _;rfl
    ·intro _;simp
    ·intro i j _ b hb;simp at hb
    ·intro i b hb;simp at hb
    ·intro id b cap e hm;cases hm
   have hop:∀ x,x∈o.op.operands.toList->Rep w (hot c'.M0 (Hof []) yw) (α x) yw (ρ x) []:=fun x hx=>
    Rep.mono _ (Map.le_refl _) ⟨Nat.le_refl _,fun b _ hb hh=>hb (hhot b hh),fun _ _ _=>rfl⟩ (y7w _ (y9s hpo x hx) (hρ x hx))
   obtain⟨z,μ',w',h1,⟨⟨FP',hWn⟩,_,_⟩,h3⟩:=yan (P:=P) hΓ hW' (fun _ _=>rfl) hev ho1 hop;have hk:=hWn.keep;have hgrow:Grow w w':=⟨hk.os,hk.tape,hk.output,hk.size,fun b hb=>hk.block b hb (by simp[c'])⟩
   obtain⟨hW2,htr⟩:=hW.grow hgrow;refine⟨z,w',h1,⟨⟨FP,hW2⟩,hd,htr⟩,?_⟩;simp only[Rep]at h3;obtain⟨_,h3⟩:=h3
   cases hmu:μ' 0 with
   | none=>simp[hmu]at h3
   | some L=>
    obtain⟨e0,he0,hok⟩:=hWn.ent 0 _ hmu;simp only[Hof,nthE,Option.some.injEq]at he0;subst he0
    cases L with
    | nil=>
     simp only[hmu]at h3;obtain⟨_,rfl,rfl⟩:=h3;simp only[Rep];exact .inl ⟨trivial,.inl rfl,trivial⟩
    | blk b cap=>
     simp only[hmu]at h3;obtain⟨hcap,o',rfl,hoo⟩:=h3;obtain⟨cur,us,fps,hh,hsz,hcap2,hml,hcl,hF⟩:=hok;have ho':o'=0:=by rcases hoo with h|h<;>omega
     subst ho';have hnew:=hWn.new 0 b (by rw[hF];simp);have hb:w.heap.size<=b:=hnew.1.resolve_left (by simp[c']);simp only[Rep];refine .inr ⟨b,0,cap,us,fun _=>[],by simp,⟨by omega,by omega⟩,hnew.2,fun i hi => ?_,fun hh => ?_,trivial,fun _ _=>rfl⟩
     ·obtain⟨d1,d2,d3⟩:=hcl i (by omega)
      obtain⟨p1,p2⟩:=hpf i hi;have hfp:=yvb.fp (f i) p2 d1;rw[hfp]at d1;refine⟨RepL.mono (f i) (Map.le_refl _) ⟨Nat.le_refl _,fun b _ hb hh=>hb ?_,fun _ _ _=>rfl⟩ (y1b (μ':=yw) (f i) p1 d1),d2,by simpa using d3⟩;exact .inl hh
     ·have:=ywr hW hh
      omega
  ·simp at he
theorem yy3 (hΓ : TyOk P Γ) (hW : WR c (Hof s.h) μ FP w) (hd : Tail s.h μ) (hT : TR c s μ w a) {g : List Bool} (hg : allT g) {x : AV} {h' : List Ent} {ob : List Prop}
  (he:ytr Γ g s.t s.h o.op=some (x,h',ob)) (ho:allP ob):o.wp P a w (ylc c s μ w a o.dst x h') Q:=by
 unfold ytr at he;split at he
 ·rename_i y ob' hev
  simp only[Option.some.injEq,Prod.mk.injEq]at he;obtain⟨rfl,rfl,rfl⟩:=he;rw[yah]at ho;obtain⟨ho1,ho2⟩:=yk.1 (ho hg);obtain⟨z,h1,h2⟩:=y5u hΓ hW (h:=s.h) (fun i _ he _=>he) hev ho2 (ρ:=a.eval) (yfn hT hg ho1);exact y8f h1 rfl ⟨z,μ,rfl,Next1.same hW hd,ywi hg h2⟩
 ·split at he
  ·split at he
   ·rename_i y h'' ob' hev
    simp only[Option.some.injEq,Prod.mk.injEq]at he;obtain⟨rfl,rfl,rfl⟩:=he;obtain⟨ho1,ho2⟩:=yk.1 ho;obtain⟨z,μ',w',h1,h2,h3⟩:=yan (P:=P) hΓ hW hd hev ho2 (ρ:=a.eval) (yfn hT hg ho1);exact y8f h1 rfl ⟨z,μ',rfl,h2,h3⟩
   ·simp at he
  ·rename_i b g' g9
   cases hpo:yvj (al (b::g') s.t) o.op.operands.toList with
   | false=>rw[hpo]at he;simp at he
   | true=>
    rw[hpo]at he;simp only[cond_true]at he;split at he
    ·rename_i y ob' hev
     simp only[Option.some.injEq,Prod.mk.injEq]at he;obtain⟨rfl,rfl,rfl⟩:=he;rw[yah]at ho;obtain⟨ho1,ho2⟩:=yk.1 (ho hg);obtain⟨z,w',h1,h2,h3⟩:=ys3 (P:=P) hΓ hW hd hpo hev ho2 (ρ:=a.eval) (yfn hT hg ho1);exact y8f h1 rfl ⟨z,μ,rfl,h2,ywi hg h3⟩
    ·simp at he
theorem y3n {M : Nat -> Prop} : ∀ (k : Nat) {xs : List AV} {us : List Value}, RepL w M xs μ us [] -> RepL w M (xs.take k) μ (us.take k) [] /\ RepL w M (xs.drop k) μ (us.drop k) []
 | 0,xs,us,h=>by simpa [RepL]using h
 | k+1,[],us,h=>by
  simp only[RepL]at h;simp[RepL,h.1]
 | k+1,x::xs,us,h=>by
  simp only[RepL]at h;obtain⟨u,us',f1,f2,rfl,e2,h1,h2⟩:=h;obtain⟨rfl,rfl⟩:=List.append_eq_nil_iff.1 e2.symm;obtain⟨h3,h4⟩:=y3n k h2;simp only[List.take_succ_cons,List.drop_succ_cons,RepL];exact⟨⟨u,_,[],[],rfl,rfl,h1,h3⟩,h4⟩
theorem yox (hT : TR c s μ w a) {g : List Bool} (hg : allT g) {f : FuncId} {k : Nat} {cs : List AV} {y : AV} {h' : List Ent} {fop : Operand} {args : List Operand} (hc : yng o.op = some (fop, args)) (hf : al g s.t fop = .fn f k cs)
  (ho1:allP (ycb g s.t (fop::args)))
  (hcall:∀ vs,RepL w (hot c.M0 (Hof s.h) μ) (cs.take k++args.map (al g s.t)++cs.drop k) μ vs []->FnOk P f/\Calls P f vs.toArray w fun e w'=>∃ v μ',e=.returned v/\Next1 c s.h μ w h' μ' w'/\Rep w' (hot c.M0 (Hof h') μ') y μ' v []) :
  o.wp P a w (ylc c s μ w a o.dst y h') Q:=by
 have hr:=yfn hT hg ho1;have hfr:=hr fop (by simp);rw[hf]at hfr;simp only[Rep]at hfr;obtain⟨_,us,hfv,hus⟩:=hfr;have has:=yyg (M:=hot c.M0 (Hof s.h) μ) (μ:=μ) (w:=w) (α:=al g s.t) (ρ:=a.eval) (l:=args) (fun z hz=>hr z (by simp[hz]));obtain⟨husT,husD⟩:=y3n k hus;have hall:=RepL.app (RepL.app husT has) husD;obtain⟨hok,hcalls⟩:=hcall _ hall;obtain⟨fn,hfn,hname,hbody⟩:=hok
 have hrun:(execOp a.eval o).run P w=.ok (.enter f (us.take k++args.map a.eval++us.drop k).toArray) w:=by
  unfold yng at hc;split at hc
  ·rename_i cl hop
   split at hc
   ·rename_i fo hcal
    simp only[Option.some.injEq,Prod.mk.injEq]at hc;obtain⟨rfl,rfl⟩:=hc;simp only[execOp,hop,resolve,hcal,hfv,Deferred.ofValue,Sem.run_bind,Sem.run_pure,Result.andThen_ok,invoke,callFunc,run_program,hfn,hname,hbody]
    have e:(us.take k).toArray++cl.args.map a.eval++(us.drop k).toArray=(us.take k++cl.args.toList.map a.eval++us.drop k).toArray:=by
     apply Array.ext';simp
    rw[e];rfl
   ·simp at hc
  ·simp at hc
 unfold Oper.wp;rw[hrun];show Calls P f _ w _;refine hcalls.mono ?_;rintro e w' ⟨v,μ',rfl,h1,h2⟩
 exact⟨v,μ',rfl,h1,h2⟩
theorem y12 (hD : DOk P D) (hW : WR c (Hof s.h) μ FP w) (hd : Tail s.h μ) (hT : TR c s μ w a) {g : List Bool} (hg : allT g) {x : AV} {h' : List Ent} {ob : List Prop} {fop : Operand} {args : List Operand}
  (hc:yng o.op=some (fop,args)) (he:yjr D g s.t s.h fop args=some (x,h',ob)) (ho:allP ob):o.wp P a w (ylc c s μ w a o.dst x h') Q:=by
 unfold yjr at he;split at he
 ·rename_i f k cs hf
  split at he
  ·rename_i ms hmd
   split at he
   ·split at he
    ·rename_i y h'' ob' hcl
     simp only[Option.some.injEq,Prod.mk.injEq]at he;obtain⟨rfl,rfl,rfl⟩:=he;obtain⟨ho1,ho2⟩:=yk.1 ho;exact yox hT hg hc hf ho1 fun vs hvs=>yuv hD hW hd hcl ho2 hvs
    ·simp at he
   ·simp at he
  ·split at he
   ·rename_i y es ob' hcl
    have main:allP (ycb g s.t (fop::args))->allP ob'->o.wp P a w (ylc c s μ w a o.dst y (s.h++es)) Q:=fun ho1 ho2=>
     yox hT hg hc hf ho1 fun vs hvs=>ylw hD hW hd hcl ho2 hvs
    split at he
    ·simp only[Option.some.injEq,Prod.mk.injEq]at he
     obtain⟨rfl,rfl,rfl⟩:=he;obtain⟨ho1,ho2⟩:=yk.1 ho;exact main ho1 ho2
    ·simp only[Option.some.injEq,Prod.mk.injEq]at he
     obtain⟨rfl,rfl,rfl⟩:=he;rw[yah]at ho;obtain⟨ho1,ho2⟩:=yk.1 (ho hg);refine Oper.wp_mono ?_ (main ho1 ho2);rintro a' w' ⟨v,μ',h1,h2,h3⟩
     rw[List.append_nil]at h2 h3;exact⟨v,μ',h1,h2,ywi (g:=_::_) hg h3⟩
    ·simp at he
   ·simp at he
 ·simp at he
theorem yby (hΓ : TyOk P Γ) (hD : DOk P D) (hW : WR c (Hof s.h) μ FP w) (hd : Tail s.h μ) (hT : TR c s μ w a) {x : AV} {h' : List Ent} {ob : List Prop}
  (he:ywe Γ D all s.t s.h o=some (x,h',ob)) (ho:allP ob) :
  if Region.wanted o (yielded all a.tmps)then o.wp P a w (ylc c s μ w a o.dst x h') Q else ylc c s μ w a o.dst x h' (a.put o.dst undef) w:=by
 unfold ywe at he
 cases hgd:ysb all s.t o.guard with
 | none=>simp[hgd]at he
 | some g=>
  simp only[hgd]at he;have hwant:=yje hT hgd;split
  ·rename_i hwt
   have hg:=hwant.1 hwt;split at he
   ·rename_i cc y z hop
    split at he
    ·rename_i r ob' hp
     simp only[Option.some.injEq,Prod.mk.injEq]at he;obtain⟨rfl,rfl,rfl⟩:=he;rw[yah]at ho;obtain⟨v,h1,h2⟩:=y18 (P:=P) hT hg hp (ho hg);exact y8f (by simp only[execOp,hop];exact h1) rfl ⟨v,μ,rfl,Next1.same hW hd,ywi hg h2⟩
    ·simp at he
   ·rename_i t' y z hop
    split at he
    ·rename_i hdst
     split at he
     ·rename_i h'' ob' hst
      simp only[Option.some.injEq,Prod.mk.injEq]at he;obtain⟨rfl,rfl,rfl⟩:=he;obtain⟨ho1,ho2⟩:=yk.1 ho;have hr:=yfn hT hg ho1;obtain⟨w',h1,h2⟩:=yzs (P:=P) hΓ hW hd hst ho2 (hr y (by simp)) (hr z (by simp));unfold Oper.wp
      have hrun:(execOp a.eval o).run P w=.ok .skip w':=by
       simp only[execOp,hop];rw[Sem.run_bind,h1];rfl
      rw[hrun];show ylc c s μ w a o.dst .any h'' (a.put o.dst undef) w';exact⟨undef,μ,rfl,h2,by simp[Rep]⟩
     ·simp at he
    ·simp at he
   ·split at he
    ·rename_i fop args hc
     exact y12 hD hW hd hT hg hc he ho
    ·exact yy3 hΓ hW hd hT hg he ho
  ·rename_i hwt
   have hg:¬ allT g:=fun h=>hwt (hwant.2 h)
   have same:∀ {y:AV},x=yri g y->h'=s.h->ylc c s μ w a o.dst x h' (a.put o.dst undef) w:=by
    rintro y rfl rfl
    exact⟨undef,μ,rfl,Next1.same hW hd,yj5 hg⟩
   have hne:g≠[]:=by rintro rfl;exact hg (by simp[allT])
   split at he
   ·split at he
    ·simp only[Option.some.injEq,Prod.mk.injEq]at he
     exact same he.1.symm he.2.1.symm
    ·simp at he
   ·split at he
    ·exact absurd rfl hne
    ·simp at he
   ·split at he
    ·unfold yjr at he
     split at he
     ·split at he
      ·split at he
       ·exact absurd rfl hne
       ·simp at he
      ·split at he
       ·split at he
        ·exact absurd rfl hne
        ·simp only[Option.some.injEq,Prod.mk.injEq]at he
         exact same he.1.symm he.2.1.symm
        ·simp at he
       ·simp at he
     ·simp at he
    ·unfold ytr at he
     split at he
     ·simp only[Option.some.injEq,Prod.mk.injEq]at he
      exact same he.1.symm he.2.1.symm
     ·split at he
      ·exact absurd rfl hne
      ·rename_i b g' g9
       cases hpo:yvj (al (b::g') s.t) o.op.operands.toList with
       | false=>rw[hpo]at he;simp at he
       | true=>
        rw[hpo]at he;simp only[cond_true]at he;split at he
        ·simp only[Option.some.injEq,Prod.mk.injEq]at he
         exact same he.1.symm he.2.1.symm
        ·simp at he
end
end Go.Ab
namespace Go.Ab
open Go
variable [Inv]
def y1f (Γ:Env) (D:Dn) (all:Array Oper) (t:List (Nat×AV)) (h:List Ent) (o:Oper):Option (AV×List Prop):=
  match ysb all t o.guard with
  | none=>none
  | some g => match o.op with
    | .pick c a b => match yum g t c a b with
      | some (x,ob)=>some (yri g x,impL g ob)
      | none=>none
    | .store _ _ _=>none
    | op => match yng op with
      | some (fop, args) => match al g t fop with
        | .fn f k cs => match D.md f with
          | some _=>none
          | none => match yf3 D h f (cs.take k ++ args.map (al g t) ++ cs.drop k) with
            | some (x,[],ob)=>some (yri g x,impL g (ycb g t (fop::args)++ob))
            | _=>none
        | _=>none
      | none => match yeh Γ h (al g t) op with
        | some (x,ob)=>some (yri g x,impL g (ycb g t (y4q op)++ob))
        | none=>none
theorem y7q {ps:List Prop}:allP (impL [] ps)↔allP ps:=by rw[yah];simp[allT]
theorem yev {Γ : Env} {D : Dn} {all : Array Oper} {t : List (Nat × AV)} {h : List Ent} {o : Oper} {g : List Bool} (hgd : ysb all t o.guard = some g)
  (hn1:∀ c a b,o.op=.pick c a b->False) (hn2:∀ t a x,o.op=.store t a x->False) :
  ywe Γ D all t h o=(match yng o.op with|some (fop,args)=>yjr D g t h fop args|none=>ytr Γ g t h o.op):=by
 obtain⟨dst,op,type,pos,after,guard⟩:=o;simp only at hgd hn1 hn2;unfold ywe;simp only[hgd];all_goals cases op
 all_goals first
  | rfl
  | exact absurd rfl (hn1 _ _ _)
  | exact absurd rfl (hn2 _ _ _)
theorem yrm {Γ:Env} {D:Dn} {all:Array Oper} {t:List (Nat×AV)} {h:List Ent} {o:Oper} {x:AV} {ob:List Prop} (hq:y1f Γ D all t h o=some (x,ob)) :
  ∃ ob',ywe Γ D all t h o=some (x,h,ob')/\(allP ob->allP ob'):=by
 unfold y1f at hq
 cases hgd:ysb all t o.guard with
 | none=>simp[hgd]at hq
 | some g=>
  simp only[hgd]at hq;split at hq
  ·rename_i c a b hop
   split at hq
   ·rename_i y ob' hp
    simp only[Option.some.injEq,Prod.mk.injEq]at hq;obtain⟨rfl,rfl⟩:=hq;exact⟨impL g ob',by unfold ywe;simp only[hgd,hop,hp],id⟩
   ·simp at hq
  ·simp at hq
  ·rename_i hn1 hn2
   rw[yev hgd hn1 hn2];split at hq
   ·rename_i fop args hc
    split at hq
    ·rename_i f k cs hf
     split at hq
     ·simp at hq
     ·rename_i hmd
      split at hq
      ·rename_i y ob' hcl
       simp only[Option.some.injEq,Prod.mk.injEq]at hq;obtain⟨rfl,rfl⟩:=hq
       cases g with
       | nil=>exact⟨ycb [] t (fop::args)++ob',by simp only[yjr,hf,hcl,hmd,yri,List.append_nil],fun h=>y7q.1 h⟩
       | cons b g=>exact⟨_,by simp only[yjr,hf,hcl,hmd,yri],id⟩
      ·simp at hq
    ·simp at hq
   ·split at hq
    ·rename_i y ob' hev
     simp only[Option.some.injEq,Prod.mk.injEq]at hq;obtain⟨rfl,rfl⟩:=hq;exact⟨_,by simp only[ytr,hev],id⟩
    ·simp at hq
def y11 (l:List Nat) (t t':List (Nat×AV)):Prop:=∀ i,i∈l->get t i=get t' i
theorem yaf {l:List Nat} {t t':List (Nat×AV)} (ha:y11 l t t') {x:Operand} (hx:∀ i,x=.tmp i->i∈l):opnd t x=opnd t' x:=by
 cases x with
 | tmp i=>exact ha i (hx i rfl)
 | const v=>rfl
 | func f=>rfl
 | global g=>rfl
theorem ydc {l : List Nat} {t t' : List (Nat × AV)} (ha : y11 l t t') (g : List Bool) : ∀ {xs : List Operand}, (∀ x ∈ xs, ∀ i, x = .tmp i -> i ∈ l) -> ycb g t xs = ycb g t' xs
 | [],_=>rfl
 | x::xs,hx=>by
  have h1:=ydc ha g (xs:=xs) fun y hy=>hx y (List.mem_cons_of_mem _ hy)
  simp only[ycb,yaf ha (hx x (by simp)),h1]
theorem yom {Γ:Env} {h:List Ent} {α β:Operand->AV} {op:Op} (ha:∀ x,x∈op.operands.toList->α x=β x):yeh Γ h α op=yeh Γ h β op:=by
  cases op
  case call cl=>
    simp only[yeh,ya5]
    cases hcal:cl.callee with
    | builtin b=>
      have:cl.args.toList.map α=cl.args.toList.map β:=List.map_congr_left fun x hx=>ha x (by simp[Op.operands,Call.operands,hcal,hx])
      simp only[this]
    | value f=>rfl
    | invoke r n=>rfl
  case build t parts=>
    simp only[yeh]
    have:(parts.toList.map fun p=>(p.1,α p.2))=(parts.toList.map fun p=>(p.1,β p.2)):=List.map_congr_left fun p hp=>by
      rw[ha p.2 (by simp only[Op.operands];exact List.mem_map.2 ⟨p,hp,rfl⟩)]
    rw[this]
  case makeFunc fn fst caps=>
    simp only[yeh];have:caps.toList.map α=caps.toList.map β:=List.map_congr_left fun x hx=>ha x (by simp only[Op.operands,Array.toList_append];exact List.mem_append_right _ hx)
    have h2:fst.toList.map α=fst.toList.map β:=List.map_congr_left fun x hx=>ha x (by simp only[Op.operands,Array.toList_append];exact List.mem_append_left _ hx)
    rw[this,h2]
  case slice t x lo hi mx=>
    cases mx with
    | none=>
      simp only[yeh];have h1:α x=β x:=ha x (by simp[Op.operands])
      have h2:omap α lo=omap β lo:=by
        cases lo with
        | none=>rfl
        | some y=>simp only[omap];rw[ha y (by simp[Op.operands])]
      have h3:omap α hi=omap β hi:=by
        cases hi with
        | none=>rfl
        | some y=>simp only[omap];rw[ha y (by simp[Op.operands])]
      rw[h1,h2,h3]
    | some m=>rfl
  all_goals first
    | rfl
    | (simp only [Op.operands] at ha
       simp only[yeh]
       simp[ha])
theorem yak {all:Array Oper} {o:Oper} {x:Operand} (hx:x∈o.op.operands.toList) (i:Nat) (he:x=.tmp i):i∈o.looksAt all:=by
 subst he;unfold Oper.looksAt;apply List.mem_append_left;rw[List.mem_filterMap];exact⟨_,hx,rfl⟩
theorem y8h {all:Array Oper} {o:Oper} {t t':List (Nat×AV)} (ha:y11 (o.looksAt all) t t'):ysb all t o.guard=ysb all t' o.guard:=by
 cases hg:o.guard with
 | none=>rfl
 | some p=>
  obtain⟨j,want⟩:=p;simp only[ysb]
  cases hj:all[j]? with
  | none=>rfl
  | some oj=>
   simp only
   cases hd:oj.dst with
   | none=>rfl
   | some d=>
    simp only
    rw[ha d (by
     unfold Oper.looksAt;apply List.mem_append_right
     simp[hg,hj,hd])]
theorem ykm {Γ:Env} {D:Dn} {all:Array Oper} {t t':List (Nat×AV)} {h:List Ent} {o:Oper} (ha:y11 (o.looksAt all) t t'):y1f Γ D all t h o=y1f Γ D all t' h o:=by
 have hop:∀ x∈o.op.operands.toList,∀ i,x=.tmp i->i∈o.looksAt all:=fun x hx i he=>yak hx i he
 have hal:∀ g x,x∈o.op.operands.toList->al g t x=al g t' x:=fun g x hx=>by
  unfold al;rw[yaf ha (hop x hx)]
 unfold y1f;rw[y8h ha]
 cases hgd:ysb all t' o.guard with
 | none=>rfl
 | some g=>
  simp only;split
  ·rename_i c a b hope
   have h1:∀ x,x=c\/x=a\/x=b->opnd t x=opnd t' x:=fun x hx=>yaf ha (hop x (by rw[hope];simpa [Op.operands]using hx))
   have:yum g t c a b=yum g t' c a b:=by
    unfold yum;rw[h1 c (by simp),h1 a (by simp),h1 b (by simp)]
   rw[this]
  ·rfl
  ·have hst:ycb g t (y4q o.op)=ycb g t' (y4q o.op):=ydc ha g hop
   have hev:yeh Γ h (al g t) o.op=yeh Γ h (al g t') o.op:=yom fun x hx=>hal g x hx
   cases hc:yng o.op with
   | none=>
    simp only;rw[hev,hst]
   | some p=>
    obtain⟨fop,args⟩:=p
    have hmem:∀ x,x∈fop::args->x∈o.op.operands.toList:=by
     intro x hx;unfold yng at hc;split at hc
     ·rename_i cl hope
      split at hc
      ·rename_i fo hcal
       simp only[Option.some.injEq,Prod.mk.injEq]at hc;obtain⟨rfl,rfl⟩:=hc;rw[hope];simpa [Op.operands,Call.operands,hcal]using hx
      ·simp at hc
     ·simp at hc
    simp only
    rw[hal g fop (hmem fop (by simp)),ydc ha g (xs:=fop::args) (fun x hx=>hop x (hmem x hx)),
     List.map_congr_left (f:=al g t) (g:=al g t') (l:=args) fun x hx=>hal g x (hmem x (by simp[hx]))]
end Go.Ab
namespace Go.Ab
open Go
variable [Inv]
def runA (Γ : Env) (D : Dn) (all : Array Oper) : List Oper -> List (Nat × AV) -> List Ent -> Option (List (Nat × AV) × List Ent × List Prop)
  | [],t,h=>some (t,h,[])
  | o :: os, t, h => match ywe Γ D all t h o with
    | some (x, h', ob) => match runA Γ D all os (put t o.dst x) h' with
      | some (t'',h'',ob')=>some (t'',h'',ob++ob')
      | none=>none
    | none=>none
def runQ (Γ : Env) (D : Dn) (all : Array Oper) (h : List Ent) : List Oper -> List (Nat × AV) -> Option (List (Nat × AV) × List Prop)
  | [],t=>some (t,[])
  | o :: os, t => match y1f Γ D all t h o with
    | some (x, ob) => match runQ Γ D all h os (put t o.dst x) with
      | some (t',ob')=>some (t',ob++ob')
      | none=>none
    | none=>none
def yfh (nt : Nat) (ops : List Oper) : Bool := ops.all fun o => match o.dst with
 | some d=>Nat.blt d nt
 | none=>true
section
variable {P:Program} {Γ:Env} {D:Dn} {c:Ctx} {s:St} {μ:Map} {FP:Nat->List Nat} {w:World} {a:Act} {all:Array Oper} {o:Oper} {Q:Exit->Act->World->Prop}
theorem ylc.wrs {x:AV} {h':List Ent} {a':Act} {w':World} (hT:TR c s μ w a) (hd:∀ d,o.dst=some d->d<c.nt) (hb:ylc c s μ w a o.dst x h' a' w'):WRs c ⟨put s.t o.dst x,h'⟩ a' w':=by
 obtain⟨v,μ',rfl,hN,hx⟩:=hb;obtain⟨FP',hW⟩:=hN.wr;exact⟨μ',FP',hW,hN.tail,TR.put hT hN.tr hd hx⟩
theorem yrp (hΓ : TyOk P Γ) (hD : DOk P D) (hs : WRs c s a w) {x : AV} {h' : List Ent} {ob : List Prop} (he : ywe Γ D all s.t s.h o = some (x, h', ob)) (ho : allP ob)
  (hd:∀ d,o.dst=some d->d<c.nt) {K:Act->World->Prop} (hK:∀ a w,WRs c ⟨put s.t o.dst x,h'⟩ a w->K a w) :
  if Region.wanted o (yielded all a.tmps)then o.wp P a w K Q else K (a.put o.dst undef) w:=by
 obtain⟨μ,FP,hW,hdd,hT⟩:=hs;have h:=yby (Q:=Q) hΓ hD hW hdd hT he ho;split
 ·rename_i hw
  rw[if_pos hw]at h;exact Oper.wp_mono (fun a' w' hb=>hK a' w' (ylc.wrs hT hd hb)) h
 ·rename_i hw
  rw[if_neg hw]at h;exact hK _ _ (ylc.wrs hT hd h)
theorem ywo {nt:Nat} {o:Oper} {os:List Oper} (h:yfh nt (o::os)=true):(∀ d,o.dst=some d->d<nt)/\yfh nt os=true:=by
 simp only[yfh,List.all_cons,Bool.and_eq_true]at h;refine⟨fun d hd => ?_,h.2⟩;have:=h.1;rw[hd]at this;simpa using this
theorem y4s (hΓ:TyOk P Γ) (hD:DOk P D):∀ {os:List Oper} {s:St} {a:Act} {w:World} {t':List (Nat×AV)} {h':List Ent} {ob:List Prop},WRs c s a w->runA Γ D all os s.t s.h=some (t',h',ob)->allP ob ->
  yfh c.nt os=true->(∀ a w,WRs c ⟨t',h'⟩ a w->Q .normal a w)->wpList P all Q os a w
 | [],s,a,w,t',h',ob,hs,hr,ho,hd,hQ=>by
  simp only[runA,Option.some.injEq,Prod.mk.injEq]at hr;obtain⟨rfl,rfl,_⟩:=hr;exact hQ a w hs
 | o::os,s,a,w,t',h',ob,hs,hr,ho,hd,hQ=>by
  simp only[runA]at hr
  cases h1:ywe Γ D all s.t s.h o with
  | none=>simp[h1]at hr
  | some p=>
   obtain⟨x,h2,ob1⟩:=p;simp only[h1]at hr
   cases h3:runA Γ D all os (put s.t o.dst x) h2 with
   | none=>simp[h3]at hr
   | some q=>
    obtain⟨t3,h3',ob3⟩:=q;simp only[h3,Option.some.injEq,Prod.mk.injEq]at hr;obtain⟨rfl,rfl,rfl⟩:=hr;obtain⟨ho1,ho2⟩:=yk.1 ho;have hd':=ywo hd;refine wpList_step fun K hK => ?_
    have h4:=yrp (Q:=Q) (K:=K) hΓ hD hs h1 ho1 hd'.1 (fun a' w' hs'=>hK a' w' (y4s hΓ hD (s:=⟨put s.t o.dst x,h2⟩) hs' h3 ho2 hd'.2 hQ));exact h4
theorem ym0 (hΓ : TyOk P Γ) (hD : DOk P D) {id : Nat} {ops : Array Oper} {t' : List (Nat × AV)} {h' : List Ent} {ob : List Prop} (hs : WRs c s a w) (hr : runA Γ D ops ops.toList s.t s.h = some (t', h', ob)) (ho : allP ob)
  (hd:yfh c.nt ops.toList=true) (hQ:∀ a w,WRs c ⟨t',h'⟩ a w->Q .normal a w):(Code.region id ops false).wp P Q a w:=
 wp_region_list (y4s hΓ hD hs hr ho hd hQ)
end
end Go.Ab
namespace Go.Ab
open Go
variable [Inv]
def dirB (ops : Array Oper) (k j : Nat) : Bool := match ops[k]? with
 | some o=>o.after.any fun e=>Region.binds .any e && Nat.beq e.on j
 | none=>false
def ylg (ops : Array Oper) : Nat -> Nat -> Nat -> Bool
 | 0,k,j=>dirB ops k j
 | f+1,k,j=>dirB ops k j || (List.range k).any fun l=>dirB ops k l && ylg ops f l j
def yb1 (ops:Array Oper) (m i:Nat) (o:Oper):Bool:=
  (match o.dst with
    | some d => !(o.looksAt ops).contains d
    | none=>true) &&
  (List.range m).all fun j => Nat.beq j i || match ops[j]? with
    | some oj => match oj.dst with
      | some d=>(o.dst != some d) && (!(o.looksAt ops).contains d || (Nat.blt j i && dirB ops i j))
      | none=>true
    | none=>true
def yzf (ops:Array Oper) (m:Nat):Bool:=
 Nat.ble m ops.size && (List.range ops.size).all fun i => match ops[i]? with
  | none=>false
  | some o=>(o.after.all fun e => !Region.binds .any e || Nat.blt e.on i) && (bif Nat.blt i m then yb1 ops m i o else(List.range i).all fun j=>ylg ops 3 i j)
structure AnyOk (ops:Array Oper) (m:Nat):Prop where
 le:m<=ops.size
 back:∀ (i:Nat) (o:Oper),ops[i]? = some o->∀ e∈o.after,Region.binds .any e=true->e.on<i
 own:∀ (i:Nat) (o:Oper),ops[i]? = some o->i<m->∀ d,o.dst=some d->d∉o.looksAt ops
 apart:∀ (i j:Nat) (o oj:Oper) (d:Nat),ops[i]? = some o->ops[j]? = some oj->i<m->j<m->j≠i->oj.dst=some d->o.dst≠some d/\(d∈o.looksAt ops->j<i/\dirB ops i j=true)
 late:∀ i,m<=i->i<ops.size->∀ j,j<i->ylg ops 3 i j=true
theorem yxm {ops:Array Oper} {m:Nat} (h:yzf ops m=true):AnyOk ops m:=by
  simp only[yzf,Bool.and_eq_true,List.all_eq_true,List.mem_range]at h;obtain⟨hm,h⟩:=h
  have hi:∀ (i:Nat) (o:Oper),ops[i]? = some o->(o.after.all fun e => !Region.binds .any e || Nat.blt e.on i)=true/\(bif Nat.blt i m then yb1 ops m i o else(List.range i).all fun j=>ylg ops 3 i j)=true:=by
    intro i o ho
    have hlt:i<ops.size:=by
      rcases Nat.lt_or_ge i ops.size with h|h
      . exact h
      . rw[Array.getElem?_eq_none h]at ho;cases ho
    have:=h i hlt;rw[ho]at this;simpa only[Bool.and_eq_true]using this
  have hearly:∀ (i:Nat) (o:Oper),ops[i]? = some o->i<m->yb1 ops m i o=true:=by
    intro i o ho him;have:=(hi i o ho).2;rw[show Nat.blt i m=true by simpa using him]at this;exact this
  refine⟨by simpa using hm,?_,?_,?_,?_⟩
  . intro i o ho e he hb;have:=(hi i o ho).1;rw[Array.all_eq_true_iff_forall_mem]at this;have:=this e he;rw[hb]at this;simpa using this
  . intro i o ho him d hd;have:=hearly i o ho him;simp only[yb1,Bool.and_eq_true]at this;have:=this.1;rw[hd]at this;simpa using this
  . intro i j o oj d ho hoj him hjm hji hd;have:=hearly i o ho him;simp only[yb1,Bool.and_eq_true,List.all_eq_true,List.mem_range]at this;have:=this.2 j hjm;rw[hoj]at this;simp only[hd,Bool.or_eq_true,Bool.and_eq_true]at this;rcases this with h1|h1
    . exact absurd (by simpa using h1) hji
    . refine⟨by simpa using h1.1,fun hdm => ?_⟩;rcases h1.2 with h2|h2
      . simp[hdm]at h2
      . exact⟨by simpa using h2.1,h2.2⟩
  . intro i him hlt j hj;have h1:=(hi i _ (Array.getElem?_eq_getElem hlt)).2
    have hb:Nat.blt i m=false:=by
      cases hq:Nat.blt i m with
      | false=>rfl
      | true => have : i < m := by simpa using hq
                omega
    rw[hb]at h1;simp only[cond_false,List.all_eq_true,List.mem_range]at h1;exact h1 j hj
def unl (listed : Array Bool) : Nat -> Nat
 | 0=>0
 | k+1=>unl listed k+bif listed.getD k true then 0 else 1
theorem yhc {listed:Array Bool} {i j:Nat} (hi:i<listed.size) (b:Bool):(listed.setIfInBounds i true).getD j b=if j=i then true else listed.getD j b:=by
 simp only[Array.getD_eq_getD_getElem?];by_cases h:j=i
 ·subst h
  simp[hi]
 ·rw[Array.getElem?_setIfInBounds_ne (fun e=>h e.symm),if_neg h]
theorem y4v {listed : Array Bool} {i : Nat} (hi : i < listed.size) (hu : listed.getD i true = false) : ∀ k, unl (listed.setIfInBounds i true) k + (if i < k then 1 else 0) = unl listed k
 | 0=>by simp[unl]
 | k+1=>by
  have ih:=y4v hi hu k;simp only[unl,yhc hi];by_cases h:k=i
  ·subst h
   rw[if_pos rfl,hu];simp at ih ⊢
   omega
  ·rw[if_neg h]
   by_cases h2:i<k
   ·rw[if_pos h2]at ih
    rw[if_pos (by omega)];omega
   ·rw[if_neg h2]at ih
    rw[if_neg (by omega)];omega
theorem yyp {listed : Array Bool} : ∀ {k : Nat}, unl listed k = 0 -> ∀ i, i < k -> listed.getD i true = true
 | 0,_,i,hi=>by omega
 | k+1,h,i,hi=>by
  simp only[unl]at h;by_cases h2:i=k
  ·subst h2
   cases hl:listed.getD i true with
   | true=>rfl
   | false=>rw[hl]at h;simp at h
  ·exact yyp (k:=k) (by omega) i (by omega)
theorem y8d {ops : Array Oper} {listed : Array Bool} {i : Nat} : i ∈ Region.ready .any ops listed ↔
  ∃ o,ops[i]? = some o/\listed.getD i true=false/\∀ e∈o.after,Region.binds .any e=true->listed.getD e.on false=true:=by
 unfold Region.ready;rw[List.mem_filter];constructor
 ·rintro⟨h1,h2⟩
  have hlt:=List.mem_range.1 h1;rw[Array.getElem?_eq_getElem hlt]at h2 ⊢;simp only[Option.map_some,Option.getD_some,Bool.and_eq_true,Bool.not_eq_true']at h2;refine⟨_,rfl,h2.1,fun e he hb => ?_⟩;have:=(Array.all_eq_true_iff_forall_mem.1 h2.2) e he;rw[hb]at this;simpa using this
 ·rintro⟨o,ho,h1,h2⟩
  have hlt:i<ops.size:=by
   rcases Nat.lt_or_ge i ops.size with h|h
   ·exact h
   ·rw[Array.getElem?_eq_none h]at ho;cases ho
  refine⟨List.mem_range.2 hlt,?_⟩;rw[ho];simp only[Option.map_some,Option.getD_some,Bool.and_eq_true,Bool.not_eq_true'];refine⟨h1,Array.all_eq_true_iff_forall_mem.2 fun e he => ?_⟩
  cases hb:Region.binds .any e with
  | false=>rfl
  | true=>simp[h2 e he hb]
def yts (ops:Array Oper) (listed:Array Bool):Prop:=∀ (i:Nat) (o:Oper),ops[i]? = some o->listed.getD i true=true->∀ e∈o.after,Region.binds .any e=true->listed.getD e.on false=true
theorem yej {ops:Array Oper} {k j:Nat}:dirB ops k j=true↔∃ o,ops[k]? = some o/\∃ e∈o.after,Region.binds .any e=true/\e.on=j:=by
 unfold dirB;constructor
 ·intro h
  split at h
  ·rename_i o ho
   rw[<- Array.any_toList,List.any_eq_true]at h;obtain⟨e,he,h2⟩:=h;have he:=Array.mem_toList_iff.1 he;simp only[Bool.and_eq_true]at h2;exact⟨o,ho,e,he,h2.1,Nat.eq_of_beq_eq_true h2.2⟩
  ·cases h
 ·rintro⟨o,ho,e,he,h1,h2⟩
  rw[ho];simp only;rw[<- Array.any_toList,List.any_eq_true];exact⟨e,Array.mem_toList_iff.2 he,by simp[h1,h2]⟩
theorem y8c {ops : Array Oper} {listed : Array Bool} (hsz : listed.size = ops.size) (hc : yts ops listed) : ∀ (f k j : Nat), (∀ l, dirB ops k l = true -> listed.getD l false = true) -> ylg ops f k j = true -> listed.getD j false = true
 | 0,k,j,hk,h=>hk j h
 | f+1,k,j,hk,h=>by
  simp only[ylg,Bool.or_eq_true,List.any_eq_true,Bool.and_eq_true]at h;rcases h with h|⟨l,_,h1,h2⟩
  ·exact hk j h
  ·refine y8c hsz hc f l j (fun l' hl' => ?_) h2
   obtain⟨o,ho,e,he,hb,rfl⟩:=yej.1 hl';have hl:=hk l h1
   have hlt:l<ops.size:=by
    rcases Nat.lt_or_ge l ops.size with h|h
    ·exact h
    ·rw[Array.getElem?_eq_none h]at ho;cases ho
   refine hc l o ho ?_ e he hb;have hlt2:l<listed.size:=by omega
   simpa [Array.getD_eq_getD_getElem?,hlt2]using hl
end Go.Ab
namespace Go.Ab
open Go
variable [Inv]
section
variable {P:Program} {Γ:Env} {D:Dn} {c:Ctx} {h:List Ent} {all:Array Oper} {Q:Exit->Act->World->Prop}
theorem ygn:∀ {os:List Oper} {t t':List (Nat×AV)} {ob:List Prop},runQ Γ D all h os t=some (t',ob)->allP ob ->
  ∃ (T:Nat->List (Nat×AV)) (X:Nat->AV),T 0=t/\T os.length=t'/\∀ (i:Nat) (o:Oper),os[i]? = some o->(∃ ob',y1f Γ D all (T i) h o=some (X i,ob')/\allP ob')/\T (i+1)=put (T i) o.dst (X i)
 | [],t,t',ob,hr,_=>by
  simp only[runQ,Option.some.injEq,Prod.mk.injEq]at hr;obtain⟨rfl,_⟩:=hr;exact⟨fun _=>t,fun _=>.any,rfl,rfl,by simp⟩
 | o::os,t,t',ob,hr,ho=>by
  simp only[runQ]at hr
  cases h1:y1f Γ D all t h o with
  | none=>simp[h1]at hr
  | some p=>
   obtain⟨x,ob1⟩:=p;simp only[h1]at hr
   cases h2:runQ Γ D all h os (put t o.dst x)with
   | none=>simp[h2]at hr
   | some q=>
    obtain⟨t2,ob2⟩:=q;simp only[h2,Option.some.injEq,Prod.mk.injEq]at hr;obtain⟨rfl,rfl⟩:=hr;obtain⟨ho1,ho2⟩:=yk.1 ho;obtain⟨T,X,hT0,hTn,hT⟩:=ygn h2 ho2;refine⟨fun i=>match i with|0=>t|i+1=>T i,fun i=>match i with|0=>x|i+1=>X i,rfl,by simpa using hTn,?_⟩;intro i o' ho'
    cases i with
    | zero=>
     simp only[List.getElem?_cons_zero,Option.some.injEq]at ho';subst ho';exact⟨⟨ob1,h1,ho1⟩,hT0⟩
    | succ i=>
     simp only[List.getElem?_cons_succ]at ho';exact hT i o' ho'
theorem y5 {listed:Array Bool} {i:Nat} (hi:i<listed.size) (b b':Bool):listed.getD i b=listed.getD i b':=by
 simp[Array.getD_eq_getD_getElem?,hi]
theorem yer (hΓ : TyOk P Γ) (hD : DOk P D) {ops : Array Oper} {m : Nat} (hok : AnyOk ops m) (hdn : ∀ (i : Nat) (o : Oper), ops[i]? = some o -> ∀ d, o.dst = some d -> d < c.nt) {t' : List (Nat × AV)} {h' : List Ent}
  (hQ:∀ a w,WRs c ⟨t',h'⟩ a w->Q .normal a w):∀ (fuel k:Nat) (listed:Array Bool) (a:Act) (w:World) (s:St) (ob:List Prop),m<=k->k<=ops.size->ops.size<=k+fuel->listed.size=ops.size ->
   (∀ i,i<ops.size->listed.getD i true=decide (i<k))->WRs c s a w->runA Γ D ops (ops.toList.drop k) s.t s.h=some (t',h',ob)->allP ob->wpAny P .any ops Q fuel listed a w:=by
 have hdone:∀ (k:Nat) (listed:Array Bool) (a:Act) (w:World) (s:St) (ob:List Prop),k=ops.size->(∀ i,i<ops.size->listed.getD i true=decide (i<k))->WRs c s a w ->
   runA Γ D ops (ops.toList.drop k) s.t s.h=some (t',h',ob)->Region.ready .any ops listed=[]/\Q .normal a w:=by
  intro k listed a w s ob hk hl hs hr;subst hk;constructor
  ·apply List.eq_nil_iff_forall_not_mem.2
   intro i hi;obtain⟨o,ho,hf,_⟩:=y8d.1 hi
   have hlt:i<ops.size:=by
    rcases Nat.lt_or_ge i ops.size with h|h
    ·exact h
    ·rw[Array.getElem?_eq_none h]at ho;cases ho
   rw[hl i hlt]at hf;simp[hlt]at hf
  ·rw[List.drop_eq_nil_of_le (by simp)]at hr
   simp only[runA,Option.some.injEq,Prod.mk.injEq]at hr;obtain⟨rfl,rfl,_⟩:=hr;exact hQ a w hs
 intro fuel
 induction fuel with
 | zero=>
  intro k listed a w s ob hmk hkn hf hsz hl hs hr ho;exact hdone k listed a w s ob (by omega) hl hs hr
 | succ fuel ih=>
  intro k listed a w s ob hmk hkn hf hsz hl hs hr ho;by_cases hk:k=ops.size
  ·have h1:=hdone k listed a w s ob hk hl hs hr
   refine⟨fun _=>h1.2,?_⟩;rw[h1.1];simp
  ·have hklt:k<ops.size:=by omega
   have hcl:yts ops listed:=by
    intro i o hio hli e he hb
    have hlt:i<ops.size:=by
     rcases Nat.lt_or_ge i ops.size with h|h
     ·exact h
     ·rw[Array.getElem?_eq_none h]at hio;cases hio
    have hei:=hok.back i o hio e he hb;have hik:i<k:=by simpa [hl i hlt]using hli
    rw[y5 (by omega) false true,hl e.on (by omega)];simp;omega
   have honly:∀ i,i∈Region.ready .any ops listed->i=k:=by
    intro i hi;obtain⟨o,hio,hf,hready⟩:=y8d.1 hi
    have hlt:i<ops.size:=by
     rcases Nat.lt_or_ge i ops.size with h|h
     ·exact h
     ·rw[Array.getElem?_eq_none h]at hio;cases hio
    have hik:¬ i<k:=by
     intro h;rw[hl i hlt]at hf;simp[h]at hf
    rcases Nat.lt_or_ge k i with h1|h1
    ·exfalso
     have h2:=y8c hsz hcl 3 i k (fun l hl'=>by
      obtain⟨o2,ho2,e,he,hb,rfl⟩:=yej.1 hl';rw[hio]at ho2;cases ho2
      exact hready e he hb) (hok.late i (by omega) hlt k h1)
     rw[y5 (by omega) false true,hl k hklt]at h2;simp at h2
    ·omega
   have hin:k∈Region.ready .any ops listed:=by
    refine y8d.2 ⟨ops[k],Array.getElem?_eq_getElem hklt,by simp[hl k hklt],fun e he hb => ?_⟩;have h3:=hok.back k _ (Array.getElem?_eq_getElem hklt) e he hb;rw[y5 (by omega) false true,hl e.on (by omega)];simpa using h3
   refine⟨fun h0 => ?_,fun i hi => ?_⟩
   ·rw[h0]at hin;simp at hin
   ·have:=honly i hi
    subst this
    have hdrop:ops.toList.drop i=ops[i]::ops.toList.drop (i+1):=by
     rw[List.drop_eq_getElem_cons (by simpa using hklt)];simp
    rw[hdrop]at hr;simp only[runA]at hr
    cases h1:ywe Γ D ops s.t s.h ops[i]with
    | none=>simp[h1]at hr
    | some p=>
     obtain⟨x,h2,ob1⟩:=p;simp only[h1]at hr
     cases h3:runA Γ D ops (ops.toList.drop (i+1)) (put s.t ops[i].dst x) h2 with
     | none=>simp[h3]at hr
     | some q=>
      obtain⟨t3,h3',ob3⟩:=q;simp only[h3,Option.some.injEq,Prod.mk.injEq]at hr;obtain⟨rfl,rfl,rfl⟩:=hr;obtain⟨ho1,ho2⟩:=yk.1 ho;unfold wpOp;rw[Array.getElem?_eq_getElem hklt];simp only
      have h4:=yrp (Q:=Q) (K:=wpAny P .any ops Q fuel (listed.setIfInBounds i true)) hΓ hD hs h1 ho1 (hdn i _ (Array.getElem?_eq_getElem hklt)) (fun a' w' hs'=>
       ih (i+1) _ a' w' ⟨put s.t ops[i].dst x,h2⟩ ob3 (by omega) (by omega) (by omega) (by simpa using hsz) (by
        intro j hj;rw[yhc (by omega)];by_cases hji:j=i
        ·subst hji;simp
        ·rw[if_neg hji,hl j hj]
         have:(j<i)↔(j<i+1):=by omega
         simp[this]) hs' h3 ho2)
      split
      ·rename_i hw
       rw[if_pos hw]at h4;exact .inl h4
      ·rename_i hw
       rw[if_neg hw]at h4;exact h4
end
end Go.Ab
namespace Go.Ab
open Go
variable [Inv]
def mask (l:List Nat) (t:List (Nat×AV)):List (Nat×AV):=l.map fun j=>(j,get t j)
theorem y2g (t : List (Nat × AV)) : ∀ (l : List Nat) (j : Nat), get (mask l t) j = if j ∈ l then get t j else .any
 | [],j=>by simp[mask,get]
 | k::l,j=>by
  have ih:=y2g t l j;simp only[mask,List.map_cons,get]at ih ⊢
  cases hb:Nat.beq j k with
  | true=>
   have:=Nat.eq_of_beq_eq_true hb;subst this;simp
  | false=>
   have hne:j≠k:=by
    rintro rfl
    simp at hb
   simp only[cond_false,List.mem_cons,hne,false_or];exact ih
theorem yi3 {listed : Array Bool} {m : Nat} : ∀ {n : Nat}, (∀ k, m <= k -> k < n -> listed.getD k true = false) -> n <= m + unl listed n
 | 0,_=>by omega
 | n+1,h=>by
  have ih:=yi3 (n:=n) fun k h1 h2=>h k h1 (by omega)
  simp only[unl];by_cases hm:m<=n
  ·rw[h n hm (by omega)]
   simp only[cond_false];omega
  ·omega
section
variable {P:Program} {Γ:Env} {D:Dn} {c:Ctx} {h:List Ent} {Q:Exit->Act->World->Prop}
def ypdb (c:Ctx) (h:List Ent) (ops:Array Oper) (m:Nat) (tm:List (Nat×AV)) (listed:Array Bool) (a:Act) (w:World):Prop:=
 ∃ μ FP,WR c (Hof h) μ FP w/\Tail h μ/\a.tmps.size=c.nt/\a.defers=[] /\
  ∀ i,(∀ (j:Nat) (o:Oper),j<m->ops[j]? = some o->listed.getD j true=false->o.dst≠some i)->Rep w (hot c.M0 (Hof h) μ) (get tm i) μ (a.tmps.getD i undef) []
theorem y21 (hΓ : TyOk P Γ) (hD : DOk P D) {ops : Array Oper} {m : Nat} (hok : AnyOk ops m) (hdn : ∀ (i : Nat) (o : Oper), ops[i]? = some o -> ∀ d, o.dst = some d -> d < c.nt) {t' : List (Nat × AV)} {h' : List Ent} {ob : List Prop}
    (hQ:∀ a w,WRs c ⟨t',h'⟩ a w->Q .normal a w) (T:Nat->List (Nat×AV)) (X:Nat->AV)
    (hT:∀ (i:Nat) (o:Oper),i<m->ops[i]? = some o->(∃ ob',y1f Γ D ops (T i) h o=some (X i,ob')/\allP ob')/\T (i+1)=put (T i) o.dst (X i))
    (hr:runA Γ D ops (ops.toList.drop m) (T m) h=some (t',h',ob)) (ho:allP ob) :
    ∀ (fuel:Nat) (listed:Array Bool) (a:Act) (w:World),unl listed ops.size<=fuel->listed.size=ops.size->(∀ k,m<=k->k<ops.size->listed.getD k true=false)->yts ops listed ->
      ypdb c h ops m (T m) listed a w->wpAny P .any ops Q fuel listed a w:=by
  have hlt:∀ {i:Nat} {o:Oper},ops[i]? = some o->i<ops.size:=by
    intro i o hio;rcases Nat.lt_or_ge i ops.size with h|h
    . exact h
    . rw[Array.getElem?_eq_none h]at hio;cases hio
  have hm:=hok.le
  -- the writes of the first part are apart
  have hlast:∀ (i:Nat) (o:Oper) (d:Nat),i<m->ops[i]? = some o->o.dst=some d->∀ k,i<k->k<=m->get (T k) d=X i:=by
    intro i o d him hio hd k
    induction k with
    | zero=>intro h;omega
    | succ k ih=>
      intro h1 h2;have hk:k<ops.size:=by omega
      obtain⟨_,hTk⟩:=hT k _ (by omega) (Array.getElem?_eq_getElem hk);rw[hTk];by_cases hki:k=i
      . subst hki;have:ops[k]=o:=by rw[Array.getElem?_eq_getElem hk]at hio;exact Option.some.inj hio
        rw[this,hd,ycg,if_pos rfl]
      . have hap:=(hok.apart k i _ o d (Array.getElem?_eq_getElem hk) hio (by omega) him (fun e=>hki e.symm) hd).1
        cases hdk:ops[k].dst with
        | none=>exact ih (by omega) (by omega)
        | some d'=>
          rw[ycg,if_neg]
          . exact ih (by omega) (by omega)
          . rintro rfl
            exact hap hdk
  have hlook:∀ (i:Nat) (o:Oper) (d:Nat),i<m->ops[i]? = some o->d∈o.looksAt ops->∀ k,i<=k->k<=m->get (T k) d=get (T i) d:=by
    intro i o d him hio hd k
    induction k with
    | zero => intro h _; have : i = 0 := by omega
              subst this;rfl
    | succ k ih=>
      intro h1 h2;by_cases hki:i=k+1
      . subst hki;rfl
      . have hk:k<ops.size:=by omega
        obtain⟨_,hTk⟩:=hT k _ (by omega) (Array.getElem?_eq_getElem hk);rw[hTk]
        cases hdk:ops[k].dst with
        | none=>exact ih (by omega) (by omega)
        | some d'=>
          rw[ycg,if_neg]
          . exact ih (by omega) (by omega)
          . rintro rfl
            by_cases hik:i=k
            . subst hik;have:ops[i]=o:=by rw[Array.getElem?_eq_getElem hk]at hio;exact Option.some.inj hio
              exact hok.own i o hio him d (by rw[<- this];exact hdk) hd
            . have:=((hok.apart i k o _ d hio (Array.getElem?_eq_getElem hk) him (by omega) (fun e=>hik e.symm) hdk).2 hd).1;omega
  intro fuel
  induction fuel with
  | zero=>
    intro listed a w hf hsz hun hcl hmid;have hall:=yyp (Nat.le_zero.1 hf);obtain⟨μ,FP,hW,htl,h1,h2,h3⟩:=hmid
    have hnm:m=ops.size:=by
      rcases Nat.lt_or_ge m ops.size with h|h
      . have:=hun m (Nat.le_refl _) h;rw[hall m h]at this;cases this
      . omega
    refine yer hΓ hD hok hdn hQ 0 m listed a w ⟨T m,h⟩ ob (Nat.le_refl _) hm (by omega) hsz (fun i hi=>by rw[hall i hi];simp;omega) ⟨μ,FP,hW,htl,?_,h1,h2⟩ hr ho;intro i;refine h3 i fun j o hjm hjo hl => ?_
    rw[hall j (by omega)]at hl;cases hl
  | succ fuel ih=>
    intro listed a w hf hsz hun hcl hmid;by_cases hall:∀ i,i<m->listed.getD i true=true
    . obtain⟨μ,FP,hW,htl,h1,h2,h3⟩:=hmid;have hge:=yi3 hun;refine yer hΓ hD hok hdn hQ (fuel+1) m listed a w ⟨T m,h⟩ ob (Nat.le_refl _) hm (by omega) hsz (fun i hi => ?_) ⟨μ,FP,hW,htl,?_,h1,h2⟩ hr ho
      . by_cases him:i<m
        . rw[hall i him];simp[him]
        . rw[hun i (by omega) hi];simp[him]
      . intro i;refine h3 i fun j o hjm hjo hl => ?_
        rw[hall j hjm]at hl;cases hl
    . refine⟨fun h0 => ?_,fun i hi => ?_⟩
      . exfalso;apply hall
        have:∀ i,i<ops.size->listed.getD i true=true:=by
          intro i
          induction i using Nat.strongRecOn with
          | _ i ihi=>
            intro hi
            cases hl:listed.getD i true with
            | true=>rfl
            | false=>
              exfalso
              have:i∈Region.ready .any ops listed:=by
                refine y8d.2 ⟨ops[i],Array.getElem?_eq_getElem hi,hl,fun e he hb => ?_⟩;have h3:=hok.back i _ (Array.getElem?_eq_getElem hi) e he hb;rw[y5 (by omega) false true];exact ihi e.on h3 (by omega)
              rw[h0]at this;simp at this
        exact fun i him=>this i (by omega)
      . obtain⟨o,hio,hli,hready⟩:=y8d.1 hi;have hin:=hlt hio
        have hdir:∀ l,dirB ops i l=true->listed.getD l false=true:=fun l hl'=>by
          obtain⟨o2,ho2,e,he,hb,rfl⟩:=yej.1 hl';rw[hio]at ho2;cases ho2;exact hready e he hb
        have him:i<m:=by
          rcases Nat.lt_or_ge i m with h1|h1
          . exact h1
          . exfalso;apply hall;intro j hj;rw[y5 (by omega) true false];exact y8c hsz hcl 3 i j hdir (hok.late i h1 hin j (by omega))
        obtain⟨⟨ob',hq,hob'⟩,hTi⟩:=hT i o him hio;obtain⟨μ,FP,hW,htl,h1,h2,h3⟩:=hmid
        have hTR:TR c ⟨mask (o.looksAt ops) (T i),h⟩ μ w a:=by
          refine⟨fun j => ?_,h1,h2⟩;show Rep w _ (get (mask (o.looksAt ops) (T i)) j) μ _ [];rw[y2g];split
          . rename_i hj
            rw[<- hlook i o j him hio hj m (by omega) (Nat.le_refl _)];refine h3 j fun k ok hkm hko hl hdk => ?_
            by_cases hki:k=i
            . subst hki;rw[hio]at hko;cases hko;exact hok.own k o hio him j hdk hj
            . have h4:=((hok.apart i k o ok j hio hko him hkm hki hdk).2 hj).2;have h5:=hdir k h4;rw[y5 (by omega) false true,hl]at h5;cases h5
          . simp[Rep]
        have hq2:y1f Γ D ops (mask (o.looksAt ops) (T i)) h o=some (X i,ob'):=by
          rw[<- hq];refine ykm fun j hj => ?_
          rw[y2g,if_pos hj]
        obtain⟨ob2,hA,hob2⟩:=yrm hq2;have hrun:=yby (s:=⟨mask (o.looksAt ops) (T i),h⟩) (Q:=Q) hΓ hD hW htl hTR hA (hob2 hob')
        have hnext:∀ a' w',ylc c ⟨mask (o.looksAt ops) (T i),h⟩ μ w a o.dst (X i) h a' w'->wpAny P .any ops Q fuel (listed.setIfInBounds i true) a' w':=by
          rintro a' w' ⟨v,μ',rfl,hN,hx⟩
          obtain⟨FP',hW'⟩:=hN.wr;have hun':=y4v (listed:=listed) (i:=i) (by omega) hli ops.size;rw[if_pos hin]at hun';refine ih _ _ _ (by omega) (by simpa using hsz) ?_ ?_ ⟨μ',FP',hW',hN.tail,?_,?_,?_⟩
          . intro k hk hkn;rw[yhc (by omega),if_neg (by omega)];exact hun k hk hkn
          . intro k ok hko hlk e he hb;rw[yhc (by omega)]at hlk ⊢;by_cases hei:e.on=i
            . rw[if_pos hei]
            . rw[if_neg hei];by_cases hki:k=i
              . subst hki;rw[hio]at hko;cases hko;exact hready e he hb
              . rw[if_neg hki]at hlk;exact hcl k ok hko hlk e he hb
          . cases hd:o.dst<;>simpa [Act.put]using h1
          . cases hd:o.dst<;>simpa [Act.put]using h2
          . intro j hj;by_cases hdj:o.dst=some j
            . rw[hlast i o j him hio hdj m him (Nat.le_refl _)];have hjn:j<a.tmps.size:=by rw[h1];exact hdn i o hio j hdj
              have:(a.put o.dst v).tmps.getD j undef=v:=by simp[hdj,Act.put,hjn]
              rw[this];exact hx
            . have:(a.put o.dst v).tmps.getD j undef=a.tmps.getD j undef:=by
                cases hd:o.dst with
                | none=>rfl
                | some d=>
                  simp only[Act.put,Array.getD_eq_getD_getElem?];rw[Array.getElem?_setIfInBounds_ne (fun e=>hdj (by rw[hd,e]))]
              rw[this];refine hN.tr.rep (h3 j fun k ok hkm hko hl => ?_);by_cases hki:k=i
              . subst hki;rw[hio]at hko;cases hko;exact hdj
              . refine hj k ok hkm hko ?_;rw[yhc (by omega),if_neg hki];exact hl
        unfold wpOp;rw[hio];simp only;split
        . rename_i hw
          rw[if_pos hw]at hrun;exact .inl (Oper.wp_mono hnext hrun)
        . rename_i hw
          rw[if_neg hw]at hrun;exact hnext _ _ hrun
theorem WR.drew {c:Ctx} {μ:Map} {FP:Nat->List Nat} {w:World} (hW:WR c (Hof h) μ FP w):WR c (Hof h) μ FP { w with drawn:=w.drawn+1 }/\Trans c.M0 (Hof h) μ w (Hof h) μ { w with drawn:=w.drawn+1 }:=
 hW.grow (Grow.drew w)
theorem WRs.drew {c:Ctx} {s:St} {a:Act} {w:World} (hs:WRs c s a w):WRs c s a { w with drawn:=w.drawn+1 }:=by
 obtain⟨μ,FP,hW,htl,h1,h2⟩:=hs;obtain⟨hW',hT⟩:=WR.drew hW;exact⟨μ,FP,hW',htl,fun i=>hT.rep (h1 i),h2⟩
theorem yb0 (hmix : P.follows .mixedOrders = true) (hΓ : TyOk P Γ) (hD : DOk P D) {id : Nat} {ops : Array Oper} (m : Nat) {s : St} {a : Act} {w : World} {t1 t' : List (Nat × AV)} {h' : List Ent} {ob1 ob : List Prop}
  (hs:WRs c s a w) (hck:yzf ops m=true) (hd:yfh c.nt ops.toList=true) (hq:runQ Γ D ops s.h (ops.toList.take m) s.t=some (t1,ob1)) (ho1:allP ob1)
  (hr:runA Γ D ops (ops.toList.drop m) t1 s.h=some (t',h',ob)) (ho:allP ob) (hQ:∀ a w,WRs c ⟨t',h'⟩ a w->Q .normal a w):(Code.region id ops true).wp P Q a w:=by
 have hok:=yxm hck
 have hdn:∀ (i:Nat) (o:Oper),ops[i]? = some o->∀ d,o.dst=some d->d<c.nt:=by
  intro i o hio d hdd;simp only[yfh,List.all_eq_true]at hd;have hmem:o∈ops.toList:=Array.mem_toList_iff.2 (Array.mem_of_getElem? hio);have:=hd o hmem;rw[hdd]at this;simpa using this
 obtain⟨T,X,hT0,hTn,hT⟩:=ygn hq ho1
 have hlen:(ops.toList.take m).length=m:=by
  have:=hok.le;simp;omega
 rw[hlen]at hTn;refine wp_region_any hmix ?_;refine y21 (h:=s.h) hΓ hD hok hdn hQ T X (fun i o him hio=>hT i o ?_) (by rw[hTn];exact hr) ho ops.size _ a _ ?_ (by simp) ?_ ?_ ?_
 ·rw[List.getElem?_take,if_pos him]
  simpa using hio
 ·have:∀ (l:Array Bool) (k:Nat),unl l k<=k:=by
   intro l k
   induction k with
   | zero=>simp[unl]
   | succ k ih=>simp only[unl];cases l.getD k true<;>simp<;>omega
  exact this _ _
 ·intro k _ hk
  simp[Array.getD_eq_getD_getElem?,hk]
 ·intro i o hio hl
  have:i<ops.size:=by
   rcases Nat.lt_or_ge i ops.size with h|h
   ·exact h
   ·rw[Array.getElem?_eq_none h]at hio;cases hio
  simp[Array.getD_eq_getD_getElem?,this]at hl
 ·obtain⟨μ,FP,hW,htl,h1,h2,h3⟩:=hs.drew
  refine⟨μ,FP,hW,htl,h2,h3,?_⟩;intro i hi
  have hnone:∀ (k:Nat),k<=m->get (T k) i=get s.t i:=by
   intro k
   induction k with
   | zero=>intro _;rw[hT0]
   | succ k ih=>
    intro hk;have hkn:k<ops.size:=by have:=hok.le;omega
    have hik:=hi k _ (by omega) (Array.getElem?_eq_getElem hkn) (by simp[Array.getD_eq_getD_getElem?,hkn]);obtain⟨_,hTk⟩:=hT k ops[k] (by rw[List.getElem?_take,if_pos (by omega)];simp[hkn]);rw[hTk]
    cases hdk:ops[k].dst with
    | none=>exact ih (by omega)
    | some d=>
     rw[ycg,if_neg]
     ·exact ih (by omega)
     ·rintro rfl
      exact hik hdk
  rw[hnone m (Nat.le_refl _)];exact h1 i
end
end Go.Ab
namespace Go.Ab
open Go
variable [Inv]
def yofb (c : Ctx) (N : St -> Prop) (E : Nat -> St -> Prop) (R : St -> Prop) : Exit -> Act -> World -> Prop
 | .normal,a,w=>∃ s,N s/\WRs c s a w
 | .exit id,a,w=>∃ s,E id s/\WRs c s a w
 | .ret,a,w=>∃ s,R s/\WRs c s a w
 | _,_,_=>False
structure AWP (P:Program) (c:Ctx) (code:Code) (N:St->Prop) (E:Nat->St->Prop) (R:St->Prop) (s:St):Prop where
 run:∀ a w,WRs c s a w->code.wp P (yofb c N E R) a w
def yqn (id:Nat) (N:St->Prop) (E:Nat->St->Prop):Nat->St->Prop:=fun k s=>bif Nat.beq k id then N s else E k s
theorem yf {id:Nat} {N:St->Prop} {E:Nat->St->Prop} {s:St} (h:N s):yqn id N E id s:=by
 simp only[yqn,Nat.beq_refl,cond_true];exact h
theorem ybk {id k:Nat} {N:St->Prop} {E:Nat->St->Prop} {s:St} (hk:Nat.beq k id=false) (h:E k s):yqn id N E k s:=by
 simp only[yqn,hk,cond_false];exact h
def y1i (r:Option (List (Nat×AV)×List Ent×List Prop)) (K:St->Prop):Prop:=
 match r with
 | some (t,h,ob)=>allP ob/\K ⟨t,h⟩
 | none=>False
def run2 (Γ:Env) (D:Dn) (ops:Array Oper) (m:Nat) (s:St):Option (List (Nat×AV)×List Ent×List Prop):=
  match runQ Γ D ops s.h (ops.toList.take m) s.t with
  | some (t1, ob1) => match runA Γ D ops (ops.toList.drop m) t1 s.h with
    | some (t2,h2,ob2)=>some (t2,h2,ob1++ob2)
    | none=>none
  | none=>none
section
variable {P:Program} {Γ:Env} {D:Dn} {c:Ctx} {N:St->Prop} {E:Nat->St->Prop} {R:St->Prop} {s:St}
theorem AWP.mono {code:Code} {N':St->Prop} {E':Nat->St->Prop} {R':St->Prop} (hn:∀ s,N s->N' s) (he:∀ k s,E k s->E' k s) (hr:∀ s,R s->R' s) (h:AWP P c code N E R s):AWP P c code N' E' R' s:=
 ⟨fun a w hs=>wp_mono (h.run a w hs) fun e _ _ hp=>by
  cases e with
  | normal=>obtain⟨s',h1,h2⟩:=hp;exact⟨s',hn s' h1,h2⟩
  | exit id=>obtain⟨s',h1,h2⟩:=hp;exact⟨s',he id s' h1,h2⟩
  | ret=>obtain⟨s',h1,h2⟩:=hp;exact⟨s',hr s' h1,h2⟩
  | _=>exact hp.elim⟩
theorem AWP.skip (h:N s):AWP P c .skip N E R s:=⟨fun _ _ hs=>wp_skip ⟨s,h,hs⟩⟩
theorem AWP.exit {id:Nat} (h:E id s):AWP P c (.exit id) N E R s:=⟨fun _ _ hs=>wp_exit ⟨s,h,hs⟩⟩
theorem AWP.ret (h:R s):AWP P c .ret N E R s:=⟨fun _ _ hs=>wp_ret ⟨s,h,hs⟩⟩
theorem AWP.seq {x y:Code} (h:AWP P c x (AWP P c y N E R) E R s):AWP P c (.seq x y) N E R s:=by
 refine⟨fun a w hs => ?_⟩;refine wp_seq (wp_mono (h.run a w hs) ?_);intro e a w hp
 cases e with
 | normal=>obtain⟨s',h1,h2⟩:=hp;exact h1.run a w h2
 | exit id=>exact hp
 | ret=>exact hp
 | _=>exact hp.elim
theorem AWP.block {id:Nat} {x:Code} (h:AWP P c x N (yqn id N E) R s):AWP P c (.block id x) N E R s:=by
 refine⟨fun a w hs => ?_⟩;refine wp_block (wp_mono (h.run a w hs) ?_);intro e a w hp
 cases e with
 | normal=>exact hp
 | exit id'=>
  simp only[Exit.inBlock];obtain⟨s',h1,h2⟩:=hp;split
  ·rename_i hid;subst hid
   simp only[yqn,Nat.beq_refl,cond_true]at h1;exact⟨s',h1,h2⟩
  ·rename_i hid
   have hb:Nat.beq id' id=false:=by
    cases hq:Nat.beq id' id with
    | false=>rfl
    | true=>exact absurd (Nat.eq_of_beq_eq_true hq) hid
   simp only[yqn,hb,cond_false]at h1;exact⟨s',h1,h2⟩
 | ret=>exact hp
 | _=>exact hp.elim
theorem AWP.cond {o:Operand} {x y:Code} {b:Bool} (ho:opnd s.t o=.bool b) (ht:b=true->AWP P c x N E R s) (hf:b=false->AWP P c y N E R s):AWP P c (.cond o x y) N E R s:=by
 refine⟨fun a w hs => ?_⟩
 have hr:a.eval o=.bool b:=by
  obtain⟨μ,FP,_,_,hT⟩:=hs;have:=yif hT o;rw[ho]at this;exact this.val_bool
 exact wp_cond_split hr (fun e=>(ht e).run a w hs) (fun e=>(hf e).run a w hs)
theorem AWP.regS {nt : Nat} (hΓ : TyOk P Γ) (hD : DOk P D) (hn : c.nt = nt) {id : Nat} {ops : Array Oper} (hd : yfh nt ops.toList = true)
  (h:∀ K:St->Prop,(∀ s,N s->K s)->y1i (runA Γ D ops ops.toList s.t s.h) K):AWP P c (.region id ops false) N E R s:=by
 refine⟨fun a w hs => ?_⟩;have h:=h _ fun _ h=>h
 unfold y1i at h;split at h
 ·rename_i t' h' ob hr
  exact ym0 hΓ hD hs hr h.1 (by rw[hn];exact hd) fun a w hs'=>⟨_,h.2,hs'⟩
 ·exact h.elim
theorem AWP.regD {nt : Nat} (hmix : P.follows .mixedOrders = true) (hΓ : TyOk P Γ) (hD : DOk P D) (hn : c.nt = nt) {id : Nat} {ops : Array Oper} (m : Nat) (hck : yzf ops m = true) (hd : yfh nt ops.toList = true)
  (h:∀ K:St->Prop,(∀ s,N s->K s)->y1i (run2 Γ D ops m s) K):AWP P c (.region id ops true) N E R s:=by
 refine⟨fun a w hs => ?_⟩;have h:=h _ fun _ h=>h
 unfold y1i at h;split at h
 ·rename_i t' h' ob hr
  unfold run2 at hr;split at hr
  ·rename_i t1 ob1 hq
   split at hr
   ·rename_i t2 h2 ob2 hr2
    simp only[Option.some.injEq,Prod.mk.injEq]at hr;obtain⟨rfl,rfl,rfl⟩:=hr;obtain⟨ho1,ho2⟩:=yk.1 h.1;exact yb0 hmix hΓ hD m hs hck (by rw[hn];exact hd) hq ho1 hr2 ho2 fun a w hs'=>⟨_,h.2,hs'⟩
   ·cases hr
  ·cases hr
 ·exact h.elim
end
def pars : Nat -> List AV -> List (Nat × AV)
 | _,[]=>[]
 | k,x::xs=>(k,x)::pars (k+1) xs
def resA (Γ : Env) (s : St) : List ResultVar -> Option (List AV × List Prop)
  | []=>some ([],[])
  | .tmp t :: rs => match resA Γ s rs with
    | some (xs,ob)=>some (get s.t t::xs,ob)
    | none=>none
  | .cell a t :: rs => match ydo Γ s.h t (get s.t a) with
    | some (x, o1) => match resA Γ s rs with
      | some (xs,ob)=>some (x::xs,o1++ob)
      | none=>none
    | none=>none
def yji : List AV -> AV
 | [y]=>y
 | ys=>.tup ys
mutual
def simO : AV -> AV -> Prop
 | .sl o e n f,.sl o' e' n' f'=>o=o'/\e=e'/\n=n'/\∀ i,i<n->yec (f i) (f' i)
 | .agg cs,.agg cs'=>yec cs cs'
 | .op cs,.op cs'=>yec cs cs'
 | .ep cs,.ep cs'=>yuk cs cs'
 | .tup cs,.tup cs'=>yec cs cs'
 | .int k n,.int k' n'=>k=k'/\n=n'
 | .bool b,.bool b'=>b=b'
 | .str b,.str b'=>b=b'
 | .nils,.nils=>True
 | .nils,.sl none _ n' _=>n'=0
 | .nils,.sl (some _) _ n' _=>n'=0
 | x,x'=>x=x'
def yec : List AV -> List AV -> Prop
 | [],[]=>True
 | x::xs,x'::xs'=>simO x x'/\yec xs xs'
 | _,_=>False
def yuk : List AV -> List AV -> Prop
 | _,[]=>True
 | x::xs,x'::xs'=>simO x x'/\yuk xs xs'
 | [],_::_=>False
end
mutual
theorem yzr : ∀ x : AV, simO x x
 | .sl o e n f=>by simp only[simO];exact⟨trivial,trivial,trivial,fun i _=>y3 (f i)⟩
 | .agg cs=>by simp only[simO];exact y3 cs
 | .op cs=>by simp only[simO];exact y3 cs
 | .tup cs=>by simp only[simO];exact y3 cs
 | .int _ _=>by simp[simO]
 | .bool _=>by simp[simO]
 | .str _=>by simp[simO]
 | .nils=>by simp[simO]
 | .ref .. => by simp[simO]
 | .ptr .. => by simp[simO]
 | .pe .. => by simp[simO]
 | .ep cs=>by simp only[simO];exact y0j cs
 | .fn .. => by simp[simO]
 | .gd .. => by simp[simO]
 | .any=>by simp[simO]
 | .lit .. => by simp[simO]
theorem y3 : ∀ xs : List AV, yec xs xs
 | []=>by simp[yec]
 | x::xs=>by simp only[yec];exact⟨yzr x,y3 xs⟩
theorem y0j : ∀ xs : List AV, yuk xs xs
 | []=>by simp[yuk]
 | x::xs=>by simp only[yuk];exact⟨yzr x,y0j xs⟩
end
mutual
theorem y1g {w : World} {M : Nat -> Prop} {μ : Map} : ∀ (x x' : AV) {v : Value} {fp : List Nat}, simO x x' -> Rep w M x μ v fp -> Rep w M x' μ v fp
 | .sl o e n f,x',v,fp,hs,h=>by
  cases x' with
  | sl o' e' n' f'=>
   simp only[simO]at hs;obtain⟨rfl,rfl,rfl,hf⟩:=hs;simp only[Rep]at h ⊢;rcases h with h|⟨b,o,cap,us,fps,hv,hn,hb,hc,ho⟩
   ·exact .inl h
   ·exact .inr ⟨b,o,cap,us,fps,hv,hn,hb,fun i hi=>⟨ycc (f i) (f' i) (hf i hi) (hc i hi).1,(hc i hi).2⟩,ho⟩
  | _=>simp[simO]at hs
 | .agg cs,x',v,fp,hs,h=>by
  cases x' with
  | agg cs'=>
   simp only[simO]at hs;simp only[Rep]at h ⊢;obtain⟨us,e,h⟩:=h;exact⟨us,e,ycc cs cs' hs h⟩
  | _=>simp[simO]at hs
 | .op cs,x',v,fp,hs,h=>by
  cases x' with
  | op cs'=>
   simp only[simO]at hs;simp only[Rep]at h ⊢;obtain⟨b,us,T,e,e2,hb,hh,hone,hr⟩:=h;exact⟨b,us,T,e,e2,hb,hh,hone,ycc cs cs' hs hr⟩
  | _=>simp[simO]at hs
 | .tup cs,x',v,fp,hs,h=>by
  cases x' with
  | tup cs'=>
   simp only[simO]at hs;simp only[Rep]at h ⊢;obtain⟨us,e,h⟩:=h;exact⟨us,e,ycc cs cs' hs h⟩
  | _=>simp[simO]at hs
 | .int k n,x',v,fp,hs,h=>by
  cases x' with
  | int k' n'=>simp only[simO]at hs;obtain⟨rfl,rfl⟩:=hs;exact h
  | _=>simp[simO]at hs
 | .bool k,x',v,fp,hs,h=>by
  cases x' with
  | bool k'=>simp only[simO]at hs;subst hs;exact h
  | _=>simp[simO]at hs
 | .str k,x',v,fp,hs,h=>by
  cases x' with
  | str k'=>simp only[simO]at hs;subst hs;exact h
  | _=>simp[simO]at hs
 | .nils,x',v,fp,hs,h=>by
  cases x' with
  | nils=>exact h
  | sl o e n f=>
   have hn:n=0:=by cases o<;>simpa only[simO]using hs
   subst hn;simp only[Rep]at h ⊢;exact .inl ⟨trivial,by rw[h.1];exact y7e.nil o,h.2⟩
  | _=>simp[simO]at hs
 | .ref ..,x',v,fp,hs,h=>by cases x'<;>simp[simO]at hs;obtain⟨rfl,rfl,rfl,rfl⟩:=hs;exact h
 | .ptr ..,x',v,fp,hs,h=>by cases x'<;>simp[simO]at hs;obtain⟨rfl,rfl⟩:=hs;exact h
 | .pe ..,x',v,fp,hs,h=>by cases x'<;>simp[simO]at hs;obtain⟨rfl,rfl,rfl,rfl⟩:=hs;exact h
 | .ep cs,x',v,fp,hs,h=>by
  cases x' with
  | ep cs'=>
   simp only[simO]at hs;simp only[Rep]at h ⊢;obtain⟨e0,b,o,us,e,hb,hm,hr,hc⟩:=h;obtain⟨us',r,hus,hr'⟩:=y4t cs cs' hs hr;refine⟨e0,b,o,us',e,hb,hm,hr',fun j u hu=>hc j u ?_⟩;have hj:=(List.getElem?_eq_some_iff.1 hu).1;rw[hus,List.getElem?_append_left hj];exact hu
  | _=>simp[simO]at hs
 | .fn ..,x',v,fp,hs,h=>by cases x'<;>simp[simO]at hs;obtain⟨rfl,rfl,rfl⟩:=hs;exact h
 | .lit ..,x',v,fp,hs,h=>by cases x'<;>simp[simO]at hs;obtain⟨rfl,rfl⟩:=hs;exact h
 | .gd ..,x',v,fp,hs,h=>by cases x'<;>simp[simO]at hs;obtain⟨rfl,rfl⟩:=hs;exact h
 | .any,x',v,fp,hs,h=>by cases x'<;>simp[simO]at hs;exact h
theorem ycc {w : World} {M : Nat -> Prop} {μ : Map} : ∀ (xs xs' : List AV) {us : List Value} {fp : List Nat}, yec xs xs' -> RepL w M xs μ us fp -> RepL w M xs' μ us fp
 | [],xs',us,fp,hs,h=>by cases xs'<;>simp only[yec]at hs;exact h
 | x::xs,xs',us,fp,hs,h=>by
  cases xs'<;>simp only[yec]at hs
  simp only[RepL]at h ⊢;obtain⟨u,us',f1,f2,rfl,rfl,h1,h2⟩:=h;exact⟨u,us',f1,f2,rfl,rfl,y1g x _ hs.1 h1,ycc xs _ hs.2 h2⟩
theorem y4t {w : World} {M : Nat -> Prop} {μ : Map} : ∀ (xs xs' : List AV) {us : List Value}, yuk xs xs' -> RepL w M xs μ us [] -> ∃ us' r, us = us' ++ r /\ RepL w M xs' μ us' []
 | xs,[],us,hs,h=>⟨[],us,rfl,by simp[RepL]⟩
 | [],x'::xs',us,hs,h=>by simp only[yuk]at hs
 | x::xs,x'::xs',us,hs,h=>by
  simp only[yuk]at hs;simp only[RepL]at h;obtain⟨u,us0,f1,f2,rfl,e,h1,h2⟩:=h;obtain⟨rfl,rfl⟩:=List.append_eq_nil_iff.1 e.symm;obtain⟨us',r,rfl,h3⟩:=y4t xs xs' hs.2 h2;refine⟨u::us',r,rfl,?_⟩;simp only[RepL];exact⟨u,us',[],[],rfl,rfl,y1g x _ hs.1 h1,h3⟩
end
def Ends (Γ:Env) (rs:List ResultVar) (r:AV) (s:St):Prop:=
  match resA Γ s rs with
  | some (xs, o1) => match yoc s.h xs with
    | some (ys,_,ob)=>allP o1/\allP ob/\(y4b ys\/ydd ys)/\simO (yji ys) r
    | none=>False
  | none=>False
mutual
theorem yuab {w : World} {M : Nat -> Prop} : ∀ (x : AV) {μ : Map} {v : Value} {fp : List Nat}, noId x = true -> Rep w M x μ v fp -> fp = []
 | .sl (some _) _ _ _,_,_,_,hn,_=>by simp[noId]at hn
 | .op _,_,_,_,hn,_=>by simp[noId]at hn
 | .agg cs,_,_,_,hn,h=>by
  simp only[Rep,noId]at h hn;obtain⟨us,_,h⟩:=h;exact ydj cs hn h
 | .tup cs,_,_,_,hn,h=>by
  simp only[Rep,noId]at h hn;obtain⟨us,_,h⟩:=h;exact ydj cs hn h
 | .sl none e n f,_,_,_,_,h=>y3b.fp (.sl none e n f) (by simp[y3b]) h
 | .int a b,_,_,_,_,h=>y3b.fp (.int a b) (by simp[y3b]) h
 | .bool a,_,_,_,_,h=>y3b.fp (.bool a) (by simp[y3b]) h
 | .str a,_,_,_,_,h=>y3b.fp (.str a) (by simp[y3b]) h
 | .nils,_,_,_,_,h=>y3b.fp .nils (by simp[y3b]) h
 | .any,_,_,_,hn,_=>by simp[noId]at hn
 | .lit ..,_,_,_,hn,_=>by simp[noId]at hn
 | .ref ..,_,_,_,hn,_=>by simp[noId]at hn
 | .ptr ..,_,_,_,hn,_=>by simp[noId]at hn
 | .pe ..,_,_,_,hn,_=>by simp[noId]at hn
 | .gd ..,_,_,_,hn,_=>by simp[noId]at hn
 | .ep cs,_,_,_,_,h=>y3b.fp (.ep cs) (by simp[y3b]) h
 | .fn f k cs,_,_,_,_,h=>y3b.fp (.fn f k cs) (by simp[y3b]) h
theorem ydj {w : World} {M : Nat -> Prop} : ∀ (xs : List AV) {μ : Map} {us : List Value} {fp : List Nat}, y6d xs = true -> RepL w M xs μ us fp -> fp = []
 | [],_,_,_,_,h=>by simp only[RepL]at h;exact h.2
 | x::xs,_,_,_,hn,h=>by
  simp only[RepL,y6d]at h hn
  cases hx:noId x with
  | false=>simp[hx]at hn
  | true=>
   simp only[hx]at hn;obtain⟨u,us',f1,f2,_,rfl,h1,h2⟩:=h;rw[yuab x hx h1,ydj xs hn h2];rfl
end
section
variable {P:Program}
theorem y8k {w : World} {M : Nat -> Prop} {μ : Map} : ∀ {xs : List AV} {vs : List Value} (k i : Nat) (rest : List Value), RepL w M xs μ vs [] -> k <= i -> Rep w M (get (pars k xs) i) μ (((vs ++ rest)[i - k]?).getD undef) []
 | [],vs,k,i,rest,h,hi=>by simp[pars,get,Rep]
 | x::xs,vs,k,i,rest,h,hi=>by
  simp only[RepL]at h;obtain⟨u,us',f1,f2,rfl,e2,h1,h2⟩:=h;obtain⟨rfl,rfl⟩:=List.append_eq_nil_iff.1 e2.symm;simp only[pars,get]
  cases hb:Nat.beq i k with
  | true=>
   have:=Nat.eq_of_beq_eq_true hb;subst this;simpa using h1
  | false=>
   have hne:i≠k:=by rintro rfl;simp at hb
   have:=y8k (k+1) i rest h2 (by omega);have e:i-k=(i-(k+1))+1:=by omega
   rw[e];simpa using this
theorem ywk {w:World} {t:TypeId} {u z:Value} (h:(Instr.loadAt t u).run P w=.ok z w):(do loadVar t (<- asAddr u):Sem Value).run P w=.ok z w:=by
 unfold Instr.loadAt Instr.sureAddr at h;split at h
 ·simpa [asAddr]using h
 ·simp at h
theorem yql {Γ : Env} (hΓ : TyOk P Γ) {c : Ctx} {μ : Map} {FP : Nat -> List Nat} {w : World} {s : St} (hW : WR c (Hof s.h) μ FP w) (tmps : Array Value) (h : ∀ i, Rep w (hot c.M0 (Hof s.h) μ) (get s.t i) μ (tmps.getD i undef) [])
  {g:ResultVar->Sem Value} (hg:∀ t,g (.tmp t)=pure (tmps.getD t undef)) (hg2:∀ a t,g (.cell a t)=do loadVar t (<- asAddr (tmps.getD a undef))):∀ {rs:List ResultVar} {xs:List AV} {ob:List Prop},resA Γ s rs=some (xs,ob)->allP ob ->
  ∃ us,(rs.mapM g).run P w=.ok us w/\RepL w (hot c.M0 (Hof s.h) μ) xs μ us []
 | [],xs,ob,hr,_=>by
  simp only[resA,Option.some.injEq,Prod.mk.injEq]at hr;obtain⟨rfl,_⟩:=hr;exact⟨[],rfl,by simp[RepL]⟩
 | .tmp t::rs,xs,ob,hr,ho=>by
  simp only[resA]at hr
  cases h1:resA Γ s rs with
  | none=>simp[h1]at hr
  | some p=>
   obtain⟨xs',ob'⟩:=p;simp only[h1,Option.some.injEq,Prod.mk.injEq]at hr;obtain⟨rfl,rfl⟩:=hr;obtain⟨us,h2,h3⟩:=yql hΓ hW tmps h hg hg2 h1 ho;refine⟨tmps.getD t undef::us,?_,?_⟩
   ·rw[List.mapM_cons,Sem.run_bind,hg]
    simp only[Sem.run_pure,Result.andThen_ok,Sem.run_bind,h2]
   ·simp only[RepL]
    exact⟨_,_,[],[],rfl,rfl,h t,h3⟩
 | .cell a t::rs,xs,ob,hr,ho=>by
  simp only[resA]at hr
  cases h0:ydo Γ s.h t (get s.t a)with
  | none=>simp[h0]at hr
  | some q=>
   obtain⟨x,o1⟩:=q;simp only[h0]at hr
   cases h1:resA Γ s rs with
   | none=>simp[h1]at hr
   | some p=>
    obtain⟨xs',ob'⟩:=p;simp only[h1,Option.some.injEq,Prod.mk.injEq]at hr;obtain⟨rfl,rfl⟩:=hr;obtain⟨ho1,ho2⟩:=yk.1 ho;obtain⟨us,h2,h3⟩:=yql hΓ hW tmps h hg hg2 h1 ho2;obtain⟨z,h4,h5⟩:=yhk (P:=P) hΓ hW (h:=s.h) (fun i _ he _=>he) h0 ho1 (h a);refine⟨z::us,?_,?_⟩
    ·rw[List.mapM_cons,Sem.run_bind,hg2,ywk h4]
     simp only[Sem.run_pure,Result.andThen_ok,Sem.run_bind,h2]
    ·simp only[RepL]
     exact⟨_,_,[],[],rfl,rfl,h5,h3⟩
theorem yhl {w:World} {M:Nat->Prop} {ys:List AV} {us:List Value} {fp:List Nat} (h:RepL w M ys yw us fp) :
  Rep w M (yji ys) yw (if h:us.toArray.size=1 then us.toArray[0]else .tuple us.toArray) fp:=by
 match ys,us,h with
 | [],us,h=>
  simp only[RepL]at h;obtain⟨rfl,rfl⟩:=h;simp[yji,Rep,RepL]
 | [y],us,h=>
  simp only[RepL]at h;obtain⟨u,us',f1,f2,rfl,rfl,h1,rfl,rfl⟩:=h;simpa [yji]using h1
 | y::z::ys,us,h=>
  have hl:=h.length;have hne:¬ us.toArray.size=1:=by simp[hl]
  rw[dif_neg hne];simp only[yji,Rep];exact⟨us,rfl,h⟩
theorem yj4 {f : FuncId} {fn : Func} {code : Code} {xs : List AV} {r : AV} {N : Nat} {rs : List ResultVar} {Γ : Env} (hΓ : TyOk P Γ) (hf : P.funcs[f]? = some fn) (hname : (fn.name == "runtime.NumGoroutine") = false) (hb : fn.body = some code)
  (hN:fn.ntmps=N) (hr:fn.results.toList=rs) (hlen:xs.length<=N) (hx:y6d xs=true) (h:∀ c:Ctx,yzd xs->c.nt=N->c.k0=0->AWP P c code (Ends Γ rs r) (fun _ _=>False) (Ends Γ rs r) ⟨pars 0 xs,[]⟩):Den P f xs r:=by
 refine⟨⟨fn,hf,hname,by rw[hb];rfl⟩,?_⟩;intro w M vs fpA hI hIM hA hAn hAm hM;have hfpA:fpA=[]:=ydj xs hx hA;subst hfpA
 have htop:y1 xs vs=[]:=by
  apply List.eq_nil_iff_forall_not_mem.2;intro b hb;have:=yvc xs hA b hb;simp at this
 rw[htop]at hA ⊢;let c:Ctx:={ w0:=w,M0:=M,F0:=[],T0:=[],mu0:=yw,k0:=0,base0:=by simp[yw],nt:=N,cold0:=fun b hb=>⟨hM b hb,by simp⟩,own0:=by simp,top0:=by simp,inv0:=hI,invM:=fun b hb=>⟨(hIM b hb).1,by simp⟩}
 have hhot:∀ b,hot c.M0 (Hof []) yw b->M b:=by
  rintro b (hb|⟨id,cap,e,hm,_⟩)
  ·exact hb
  ·cases hm
 have hA':RepL w (hot c.M0 (Hof []) yw) xs yw vs []:=y1e (fun b hb=>.inl (hhot b hb)) hA;have hvl:=hA.length;refine calls_of_wp hf hb ?_;refine wp_mono ((h c (RepL.lens xs hA) rfl rfl).run _ _ ⟨yw,fun _=>[],⟨⟨rfl,rfl,rfl,Nat.le_refl _,fun _ _ _=>rfl⟩,Map.le_refl _,?_,?_,?_,?_,?_,?_⟩,?_,?_,?_,rfl⟩) ?_
 ·intro id L hm;cases hm
 ·intro _ _;rfl
 ·intro _;simp
 ·intro i j _ b hb;simp at hb
 ·intro i b hb;simp at hb
 ·intro id b cap e hm;cases hm
 ·intro _ _;rfl
 ·intro i
  have:=y8k (k:=0) (i:=i) (rest:=(Array.replicate (fn.ntmps-vs.toArray.size) undef).toList) hA' (Nat.zero_le _)
  have e:(vs.toArray++Array.replicate (fn.ntmps-vs.toArray.size) undef).getD i undef=(((vs++(Array.replicate (fn.ntmps-vs.toArray.size) undef).toList)[i-0]?).getD undef):=by
   rw[Array.getD_eq_getD_getElem?, <- Array.getElem?_toList];simp
  rw[e];exact this
 ·simp only[Array.size_append,List.size_toArray,Array.size_replicate]
  show vs.length+(fn.ntmps-vs.length)=N;omega
 ·intro e a w' hp
  have main:∀ s',Ends Γ rs r s'->WRs c s' a w'->bodyPost P fn (fun e w'=>∃ v fpR,e=.returned v/\Keep w [] w'/\Rep w' (fun b=>M b\/b∈fpR) r yw v fpR/\fpR.Nodup /\
    (∀ b,b∈fpR->(b∈([]:List Nat)\/w.heap.size<=b)/\b<w'.heap.size)/\(∀ b,b∈tops r v->b∈([]:List Nat)\/w.heap.size<=b)) .ret a w':=by
   intro s' hE hs';simp only[Ends]at hE;split at hE
   ·rename_i xs0 o1 hres0
    split at hE
    ·rename_i ys h' ob habs
     obtain⟨ho1,ho,hflat,hpack⟩:=hE;obtain⟨μ,FP,hW,htl,h1,h2,h3⟩:=hs'
     have hmap:∃ us,(fn.results.toList.mapM (fun|.tmp t=>pure (a.tmps.getD t undef)|.cell b t=>do loadVar t (<- asAddr (a.tmps.getD b undef)):ResultVar->Sem Value)).run P w'=.ok us w'/\RepL w' (hot c.M0 (Hof s'.h) μ) xs0 μ us []:=by
      rw[hr];exact yql hΓ hW a.tmps h1 (fun _=>rfl) (fun _ _=>rfl) hres0 ho1
     obtain⟨us,hrun,hres⟩:=hmap;obtain⟨K,fp,hr1,hgone,hown⟩:=y3g hW (fun _ _ he _=>he) hres habs ho;have htops:=y5g (fun _ _ he _=>he) hres habs
     have hnew:∀ b,b∈fp->w.heap.size<=b/\b<w'.heap.size:=by
      intro b hb;obtain⟨id,_,hid⟩:=hown.2 b hb;have:=hW.new id b hid;exact⟨this.1.resolve_left (by simp[c]),this.2⟩
     have hrL:RepL w' (fun b=>M b\/b∈fp) ys yw us fp:=by
      rcases hflat with hnb|hfl
      ·exact RepL.noBor ys hnb hr1
      ·refine RepL.mono ys (Map.le_refl _) ⟨Nat.le_refl _,fun b _ hb hh=>hb ?_,fun _ _ _=>rfl⟩ hr1
       rcases hh with hh|hh
       ·exact .inl hh
       ·exact htops b (ydd.tops ys hfl hr1 b hh)
     refine⟨h3,(if h:us.toArray.size=1 then us.toArray[0]else .tuple us.toArray),?_,_,fp,rfl,hW.keep,?_,hown.1,fun b hb=>⟨.inr (hnew b hb).1,(hnew b hb).2⟩,?_⟩
     ·unfold results
      rw[Sem.run_bind, <- Array.toArray_toList (xs:=fn.results),List.mapM_toArray];simp only[Sem.run_map];erw [hrun]
      rfl
     ·exact y1g _ _ hpack (yhl hrL)
     ·intro b hb
      right
      exact(hnew b (y2h r (y1g _ _ hpack (yhl hrL)) b hb)).1
    ·exact hE.elim
   ·exact hE.elim
  cases e with
  | normal=>obtain⟨s',h1,h2⟩:=hp;exact main s' h1 h2
  | ret=>obtain⟨s',h1,h2⟩:=hp;exact main s' h1 h2
  | exit id=>obtain⟨s',h1,h2⟩:=hp;exact h1.elim
  | _=>exact hp.elim
end
end Go.Ab
namespace Go.Ab
open Go
variable [Inv]
omit [Inv]in
theorem nbeq (a b:Nat):Nat.beq a b=(a == b):=Bool.eq_iff_iff.2 (by simp)
def rho (n0 : Nat) : List Nat -> Nat -> Nat
 | [],j=>n0+j
 | i::_,0=>i
 | _::l,j+1=>rho (n0+1) l j
mutual
def simA (ρ : Nat -> Nat) : AV -> AV -> Prop
 | _,.any=>True
 | .int k n,.int k' n'=>k=k'/\n=n'
 | .bool b,.bool b'=>b=b'
 | .str l,.str l'=>l=l'
 | .nils,.nils=>True
 | .agg cs,.agg cs'=>simL ρ cs cs'
 | .tup cs,.tup cs'=>simL ρ cs cs'
 | .sl o e n f,.sl o' e' n' f'=>o=o'/\e=e'/\n=n'/\∀ i,i<n->f i=f' i
 | .ref id e off n,.ref id' e' off' n'=>id=ρ id'/\e=e'/\off=off'/\n=n'
 | .ptr id o,.ptr id' o'=>id=ρ id'/\o=o'
 | .pe id e i o,.pe id' e' i' o'=>id=ρ id'/\e=e'/\i=i'/\o=o'
 | .ep cs,.ep cs'=>cs=cs'
 | .fn f k cs,.fn f' k' cs'=>f=f'/\k=k'/\simL ρ cs cs'
 | .gd gs x,.gd gs' x'=>gs=gs'/\simA ρ x x'
 | .lit u x,.lit u' x'=>u=u'/\x=x'
 | _,_=>False
def simL (ρ : Nat -> Nat) : List AV -> List AV -> Prop
 | [],[]=>True
 | x::xs,x'::xs'=>simA ρ x x'/\simL ρ xs xs'
 | _,_=>False
end
def simE (ρ : Nat -> Nat) : Ent -> Ent -> Prop
 | _,.dead=>True
 | .box cs,.box cs'=>simL ρ cs cs'
 | .it l p m,.it l' p' m'=>l=l'/\p=p'/\m=m'
 | .byt l,.byt l'=>l=l'
 | .arr T e n f,.arr T' e' n' f'=>T=T'/\e=e'/\n=n'/\∀ i,i<n->f i=f' i/\y9d (f' i)=true
 | _,_=>False
def simH (ρ : Nat -> Nat) (h : List Ent) : Nat -> List Ent -> Prop
  | _,[]=>True
  | j, e' :: h' => (match nthE h (ρ j) with
    | some e=>simE ρ e e'
    | none=>False)/\simH ρ h (j+1) h'
def simT (ρ : Nat -> Nat) (t : List (Nat × AV)) : List (Nat × AV) -> Prop
 | []=>True
 | (i,x')::t'=>simA ρ (get t i) x'/\simT ρ t t'
def simS (rl:List Nat) (s s':St):Prop:=
 rl.length=s'.h.length/\rl.Nodup/\simH (rho s.h.length rl) s.h 0 s'.h/\simT (rho s.h.length rl) s.t s'.t
theorem ymab : ∀ (n0 : Nat) (rl : List Nat) (j : Nat), rl.length <= j -> n0 <= rho n0 rl j
 | n0,[],j,_=>by simp[rho]
 | n0,i::l,0,h=>by simp at h
 | n0,i::l,j+1,h=>by
  simp only[rho];have:=ymab (n0+1) l j (by simpa using h);omega
theorem ytv : ∀ (n0 : Nat) (rl : List Nat) (j : Nat), j < rl.length -> rl[j]? = some (rho n0 rl j)
 | n0,[],j,h=>by simp at h
 | n0,i::l,0,h=>by simp[rho]
 | n0,i::l,j+1,h=>by
  simp only[rho,List.getElem?_cons_succ];exact ytv (n0+1) l j (by simpa using h)
section
variable {w:World} {M M':Nat->Prop} {μ:Map} {ρ:Nat->Nat}
mutual
theorem ycq (hM : ∀ b, M' b -> M b) : ∀ (x' x : AV) {v : Value}, simA ρ x x' -> Rep w M x μ v [] -> Rep w M' x' (fun j => μ (ρ j)) v []
 | .any,x,v,hs,h=>by simp[Rep]
 | .lit u' y',x,v,hs,h=>by
  cases x<;>simp only[simA]at hs
  obtain⟨rfl,rfl⟩:=hs;simp only[Rep]at h ⊢;exact⟨trivial,h.2.1,ydf hM h.2.2⟩
 | .int k' n',x,v,hs,h=>by
  cases x<;>simp only[simA]at hs
  obtain⟨rfl,rfl⟩:=hs;simpa only[Rep]using h
 | .bool b',x,v,hs,h=>by
  cases x<;>simp only[simA]at hs
  subst hs;simpa only[Rep]using h
 | .str b',x,v,hs,h=>by
  cases x<;>simp only[simA]at hs
  subst hs;simpa only[Rep]using h
 | .nils,x,v,hs,h=>by
  cases x<;>simp only[simA]at hs
  simpa only[Rep]using h
 | .op cs',x,v,hs,h=>by
  cases x<;>simp only[simA]at hs
 | .agg cs',x,v,hs,h=>by
  cases x<;>simp only[simA]at hs
  simp only[Rep]at h ⊢;obtain⟨us,e,h⟩:=h;exact⟨us,e,y3i hM cs' _ hs h⟩
 | .tup cs',x,v,hs,h=>by
  cases x<;>simp only[simA]at hs
  simp only[Rep]at h ⊢;obtain⟨us,e,h⟩:=h;exact⟨us,e,y3i hM cs' _ hs h⟩
 | .sl o' e' n' f',x,v,hs,h=>by
  cases x<;>simp only[simA]at hs
  obtain⟨rfl,rfl,rfl,hf⟩:=hs;have h:=ydf hM h;simp only[Rep]at h ⊢;rcases h with h|⟨b,o,cap,us,fps,hv,hn,hb,hc,ho⟩
  ·exact .inl h
  ·exact .inr ⟨b,o,cap,us,fps,hv,hn,hb,fun i hi=>by rw[<- hf i hi];exact hc i hi,ho⟩
 | .ref id' e' off' n',x,v,hs,h=>by
  cases x<;>simp only[simA]at hs
  obtain⟨rfl,rfl,rfl,rfl⟩:=hs;simpa only[Rep]using h
 | .ptr id' o',x,v,hs,h=>by
  cases x<;>simp only[simA]at hs
  obtain⟨rfl,rfl⟩:=hs;simpa only[Rep]using h
 | .pe id' e' i' o',x,v,hs,h=>by
  cases x<;>simp only[simA]at hs
  obtain⟨rfl,rfl,rfl,rfl⟩:=hs;simpa only[Rep]using h
 | .ep cs',x,v,hs,h=>by
  cases x<;>simp only[simA]at hs
  subst hs;have h:=ydf hM h;simpa only[Rep]using h
 | .fn f' k' cs',x,v,hs,h=>by
  cases x<;>simp only[simA]at hs
  obtain⟨rfl,rfl,hs⟩:=hs;simp only[Rep]at h ⊢;obtain⟨e0,us,e,h⟩:=h;exact⟨e0,us,e,y3i hM cs' _ hs h⟩
 | .gd gs' x',x,v,hs,h=>by
  cases x<;>simp only[simA]at hs
  obtain⟨rfl,hs⟩:=hs;simp only[Rep]at h ⊢;exact⟨h.1,fun hg=>ycq hM x' _ hs (h.2.1 hg),h.2.2⟩
theorem y3i (hM : ∀ b, M' b -> M b) : ∀ (xs' xs : List AV) {us : List Value}, simL ρ xs xs' -> RepL w M xs μ us [] -> RepL w M' xs' (fun j => μ (ρ j)) us []
 | [],xs,us,hs,h=>by
  cases xs<;>simp only[simL]at hs
  simpa only[RepL]using h
 | x'::xs',xs,us,hs,h=>by
  cases xs<;>simp only[simL]at hs
  simp only[RepL]at h ⊢;obtain⟨u,us',f1,f2,rfl,e2,h1,h2⟩:=h;obtain⟨rfl,rfl⟩:=List.append_eq_nil_iff.1 e2.symm;exact⟨u,us',[],[],rfl,rfl,ycq hM x' _ hs.1 h1,y3i hM xs' _ hs.2 h2⟩
end
theorem y0y {h : List Ent} : ∀ {h' : List Ent} {k j : Nat} {e' : Ent}, simH ρ h k h' -> nthE h' j = some e' -> ∃ e, nthE h (ρ (k + j)) = some e /\ simE ρ e e'
 | [],k,j,e',_,he=>by simp[nthE]at he
 | x::h',k,j,e',hs,he=>by
  simp only[simH]at hs;rw[yjb]at he
  cases j with
  | zero=>
   simp only[List.getElem?_cons_zero,Option.some.injEq]at he;subst he;have:=hs.1;split at this
   ·rename_i e heq;exact⟨e,heq,this⟩
   ·exact this.elim
  | succ j=>
   simp only[List.getElem?_cons_succ]at he;have:=y0y (j:=j) hs.2 (by rw[yjb];exact he);have e:k+(j+1)=k+1+j:=by omega
   rw[e];exact this
theorem yiy {t : List (Nat × AV)} : ∀ {t' : List (Nat × AV)} (i : Nat), simT ρ t t' -> simA ρ (get t i) (get t' i)
 | [],i,_=>by simp[get,simA]
 | (j,x')::t',i,hs=>by
  simp only[simT]at hs;simp only[get]
  cases hb:Nat.beq i j with
  | true=>
   have:=Nat.eq_of_beq_eq_true hb;subst this;exact hs.1
  | false=>exact yiy i hs.2
theorem ypu {e e':Ent} (hs:simE ρ e e') (hl:e'.live=true):e.live=true:=by
 cases e'<;>cases e<;>simp_all[simE,Ent.live]
theorem yubb {e e':Ent} {L:Loc} {fp:List Nat} (hM:∀ b,M' b->M b) (hs:simE ρ e e') (h:yic w M μ e L fp):yic w M' (fun j=>μ (ρ j)) e' L (match e' with|.dead=>[]|_=>fp):=by
 cases e' with
 | dead=>simp[yic]
 | box cs'=>
  cases e<;>simp only[simE]at hs
  simp only[yic]at h ⊢;obtain⟨b,cap,us,T,h1,h2,h3,h4,h5⟩:=h;exact⟨b,cap,us,T,h1,h2,h3,h4,y3i hM _ _ hs h5⟩
 | it l p m=>
  cases e<;>simp only[simE]at hs
  obtain⟨rfl,rfl,rfl⟩:=hs;simpa only[yic]using h
 | byt l=>
  cases e<;>simp only[simE]at hs
  subst hs;simpa only[yic]using h
 | arr T' e' n' f'=>
  cases e<;>simp only[simE]at hs
  obtain⟨rfl,rfl,rfl,hf⟩:=hs
  cases L with
  | nil=>simpa only[yic]using h
  | blk b cap=>
   simp only[yic]at h ⊢;obtain⟨cur,us,fps,h1,h2,h3,h4,h5,h6⟩:=h;refine⟨cur,us,fps,h1,h2,h3,h4,fun i hi => ?_,h6⟩;have hq:=(hf i hi).2;rw[<- (hf i hi).1]at hq ⊢;exact⟨RepL.mono _ (Map.le_refl _) ⟨Nat.le_refl _,fun b _ hb h'=>hb (hM b h'),fun _ _ _=>rfl⟩ (y1b _ hq (h5 i hi).1),(h5 i hi).2⟩
end
def yvs : Nat -> Nat -> List Nat -> Bool
 | 0,_,_=>true
 | k+1,j,i::l=>Nat.beq i j && yvs k (j+1) l
 | _+1,_,[]=>false
theorem ypr : ∀ {k j0 : Nat} {rl : List Nat} (n0 : Nat), yvs k j0 rl = true -> ∀ j, j < k -> rho n0 rl j = j0 + j
 | 0,_,_,_,_,j,h=>by omega
 | k+1,_,[],_,h,_,_=>by simp[yvs]at h
 | k+1,j0,i::l,n0,h,j,hj=>by
  simp only[yvs,Bool.and_eq_true]at h
  cases j with
  | zero=>simpa [rho]using Nat.eq_of_beq_eq_true h.1
  | succ j=>
   simp only[rho];rw[ypr (n0+1) h.2 j (by omega)];omega
def simK (k:Nat) (rl:List Nat) (s s':St):Prop:=yvs k 0 rl=true/\simS rl s s'
theorem WRs.sim {c:Ctx} {rl:List Nat} {s s':St} {a:Act} {w:World} (hsim:simK c.k0 rl s s') (hs:WRs c s a w):WRs c s' a w:=by
 obtain⟨hfix,hlen,hnd,hH,hT⟩:=hsim;have hfix:=ypr s.h.length hfix;obtain⟨μ,FP,hW,htl,h1,h2,h3⟩:=hs;generalize hρ:rho s.h.length rl=ρ at hH hT hfix;have hbig:∀ j,rl.length<=j->μ (ρ j)=none:=fun j hj=>htl _ (by rw[<- hρ];exact ymab _ _ _ hj)
 have hinj:∀ i j,i≠j->i<rl.length->j<rl.length->ρ i≠ρ j:=by
  intro i j hij hi hj e;have e1:=ytv s.h.length rl i hi;have e2:=ytv s.h.length rl j hj;rw[hρ]at e1 e2;rw[e]at e1;exact hij ((List.getElem?_inj hi hnd).1 (by rw[e1,e2]))
 have hsmall:∀ j,j<rl.length->∃ e e',nthE s'.h j=some e'/\nthE s.h (ρ j)=some e/\simE ρ e e':=by
  intro j hj;have:∃ e',nthE s'.h j=some e':=⟨s'.h[j],by rw[yjb,List.getElem?_eq_getElem (by omega)]⟩
  obtain⟨e',he'⟩:=this;obtain⟨e,he,hs⟩:=y0y hH he';rw[Nat.zero_add]at he;exact⟨e,e',he',he,hs⟩
 have hsome:∀ j L,μ (ρ j)=some L->j<rl.length:=fun j L hj=>Nat.lt_of_not_le fun h=>by rw[hbig j h]at hj;cases hj
 have hhot:∀ b,hot c.M0 (Hof s'.h) (fun j=>μ (ρ j)) b->hot c.M0 (Hof s.h) μ b:=by
  rintro b (hb|⟨id,cap,e',hm,he,hl⟩)
  ·exact .inl hb
  ·obtain⟨e,e2,he2,heo,hse⟩:=hsmall id (hsome id _ hm)
   have he':nthE s'.h id=some e':=he;rw[he2]at he';cases he';exact .inr ⟨ρ id,cap,e,hm,heo,ypu hse hl⟩
 let FP' : Nat -> List Nat := fun j => match nthE s'.h j with
  | some .dead=>[]
  | _=>FP (ρ j)
 have hFP:∀ j b,b∈FP' j->b∈FP (ρ j):=by
  intro j b hb;simp only[FP']at hb;split at hb
  ·simp at hb
  ·exact hb
 refine⟨fun j=>μ (ρ j),FP',⟨hW.keep,fun j L hj=>by rw[hfix j (c.base0 j L hj),Nat.zero_add];exact hW.base j L hj,?_,?_,?_,?_,?_,?_⟩,?_,?_,h2,h3⟩
 ·intro id L hm
  obtain⟨e,e',he',he,hse⟩:=hsmall id (hsome id _ hm);obtain⟨e2,he2,hok⟩:=hW.ent (ρ id) L hm;have heo:Hof s.h (ρ id)=some e:=he;rw[heo]at he2;cases he2;refine⟨e',he',?_⟩;have:=yubb hhot hse hok;simp only[FP',he'];cases e'<;>exact this
 ·intro id hm
  simp only[FP'];split
  ·rfl
  ·exact hW.out _ hm
 ·intro id
  simp only[FP'];split
  ·simp
  ·exact hW.nodup _
 ·intro i j hij b hbi hbj
  have hbi:=hFP i b hbi;have hbj:=hFP j b hbj;have lt:∀ k,b∈FP (ρ k)->k<rl.length:=fun k hk=>Nat.lt_of_not_le fun h=>by rw[hW.out _ (hbig k h)]at hk;simp at hk
  exact hW.disj _ _ (hinj i j hij (lt i hbi) (lt j hbj)) b hbi hbj
 ·intro id b hb
  exact hW.new _ b (hFP id b hb)
 ·intro id b cap e' hm he hl
  obtain⟨e,e2,he2,heo,hse⟩:=hsmall id (hsome id _ hm);have he':nthE s'.h id=some e':=he;rw[he2]at he';cases he';exact hW.top _ b cap e hm heo (ypu hse hl)
 ·intro id hid
  exact hbig id (by omega)
 ·intro i
  exact ycq hhot _ _ (yiy i hT) (h1 i)
section
variable {P:Program} {c:Ctx} {N:St->Prop} {E:Nat->St->Prop} {R:St->Prop} {s:St}
theorem AWP.sim {code:Code} {s':St} (rl:List Nat) (h:AWP P c code N E R s') (hs:simK c.k0 rl s s'):AWP P c code N E R s:=⟨fun a w hw=>h.run a w (hw.sim hs)⟩
theorem AWP.loop {ι : Type} (I : ι -> St) (V : ι -> Prop) (m : ι -> Nat) {body : Code} (i0 : ι) (h0 : V i0) (rl : List Nat) (hs : simK c.k0 rl s (I i0))
  (round:∀ i,V i->AWP P c body (fun s'=>∃ j rl,V j/\m j<m i/\simK c.k0 rl s' (I j)) E R (I i)):AWP P c (.loop body) N E R s:=by
 refine⟨fun a w hw => ?_⟩;let J:Act->World->Prop:=fun a w=>∃ i,V i/\WRs c (I i) a w
 let B:Act->World->Nat->Prop:=fun a w n=>∃ i,V i/\WRs c (I i) a w/\m i=n
 have least:∀ a w,J a w->∃ n,B a w n/\∀ k,B a w k->n<=k:=by
  rintro a w ⟨i,hi,hw⟩
  have:∀ n,B a w n->∃ n,B a w n/\∀ k,B a w k->n<=k:=by
   intro n
   induction n using Nat.strongRecOn with
   | _ n ih=>
    intro hn;by_cases h:∃ k,k<n/\B a w k
    ·obtain⟨k,hk,hb⟩:=h
     exact ih k hk hb
    ·exact⟨n,hn,fun k hk=>Nat.le_of_not_lt fun hlt=>h ⟨k,hlt,hk⟩⟩
  exact this (m i) ⟨i,hi,hw,rfl⟩
 classical
 let μ:Act->World->Nat:=fun a w=>if h:J a w then(least a w h).choose else 0
 have hμ:∀ a w (h:J a w),B a w (μ a w)/\∀ k,B a w k->μ a w<=k:=by
  intro a w h;have:μ a w=(least a w h).choose:=dif_pos h;rw[this];exact(least a w h).choose_spec
 refine wp_loop J μ ⟨i0,h0,hw.sim hs⟩ ?_;intro a w hJ;obtain⟨⟨i,hi,hwi,hmi⟩,_⟩:=hμ a w hJ;refine wp_mono ((round i hi).run a w hwi) ?_;intro e a' w' hp
 cases e with
 | normal=>
  obtain⟨s',⟨j,rl',hj,hlt,hsim⟩,hw'⟩:=hp;have hwj:=hw'.sim hsim;have hJ':J a' w':=⟨j,hj,hwj⟩
  refine⟨hJ',?_⟩;have:=(hμ a' w' hJ').2 (m j) ⟨j,hj,hwj,rfl⟩;omega
 | exit id=>exact hp
 | ret=>exact hp
 | _=>exact hp.elim
end
end Go.Ab
namespace Go.Ab
open Go
variable [Inv]
theorem y39:allP []=True:=rfl
abbrev DF:=List AV->Option (AV×Bool×List Prop)
structure DE where
 d:DF
 md:Option (List Bool)
 m:List AV->Option (AV×List AV×List Prop)
def dP (d:DF):DE:=⟨d,none,fun _=>none⟩
def dM (ms:List Bool) (m:List AV->Option (AV×List AV×List Prop)):DE:=⟨fun _=>none,some ms,m⟩
def ddD : List (FuncId × DE) -> FuncId -> List AV -> Option (AV × Bool × List Prop)
 | [],_,_=>none
 | (g,d)::r,f,xs=>bif Nat.beq f g then d.d xs else ddD r f xs
def ddMd : List (FuncId × DE) -> FuncId -> Option (List Bool)
 | [],_=>none
 | (g,d)::r,f=>bif Nat.beq f g then d.md else ddMd r f
def ddM : List (FuncId × DE) -> FuncId -> List AV -> Option (AV × List AV × List Prop)
 | [],_,_=>none
 | (g,d)::r,f,xs=>bif Nat.beq f g then d.m xs else ddM r f xs
def DD (l:List (FuncId×DE)):Dn:=⟨ddD l,ddMd l,ddM l⟩
structure OkE (P:Program) (f:FuncId) (x:DE):Prop where
 d:∀ xs r z ob,x.d xs=some (r,z,ob)->allP ob->Den P f xs r
 m:∀ xs r outs ob,x.m xs=some (r,outs,ob)->allP ob->DenM P f xs r outs
def OkD (P:Program) (f:FuncId) (d:DF):Prop:=∀ xs r z ob,d xs=some (r,z,ob)->allP ob->Den P f xs r
def OkM (P:Program) (f:FuncId) (m:List AV->Option (AV×List AV×List Prop)):Prop:=∀ xs r outs ob,m xs=some (r,outs,ob)->allP ob->DenM P f xs r outs
theorem OkD.e {P:Program} {f:FuncId} {d:DF} (h:OkD P f d):OkE P f (dP d):=⟨h,fun _ _ _ _ h=>by simp[dP]at h⟩
theorem OkM.e {P:Program} {f:FuncId} {ms:List Bool} {m:List AV->Option (AV×List AV×List Prop)} (h:OkM P f m):OkE P f (dM ms m):=⟨fun _ _ _ _ h=>by simp[dM]at h,h⟩
theorem yc (P:Program):DOk P (DD []):=⟨fun _ _ _ _ _ h=>by simp[DD,ddD]at h,fun _ _ _ _ _ h=>by simp[DD,ddM]at h⟩
theorem ya {P:Program} {g:FuncId} {d:DE} {l:List (FuncId×DE)} (h:OkE P g d) (hl:DOk P (DD l)):DOk P (DD ((g,d)::l)):=by
 constructor
 ·intro f xs r z ob hd ho
  simp only[DD,ddD]at hd
  cases hb:Nat.beq f g with
  | true=>
   rw[hb]at hd;have:=Nat.eq_of_beq_eq_true hb;subst this;exact h.d xs r z ob hd ho
  | false=>
   rw[hb]at hd;exact hl.d f xs r z ob hd ho
 ·intro f xs r z ob hd ho
  simp only[DD,ddM]at hd
  cases hb:Nat.beq f g with
  | true=>
   rw[hb]at hd;have:=Nat.eq_of_beq_eq_true hb;subst this;exact h.m xs r z ob hd ho
  | false=>
   rw[hb]at hd;exact hl.m f xs r z ob hd ho
def ybab : Op -> Bool
  | .assign _=>true
  | .store .. => true
  | .box .. => true
  | .alloc _=>true
  | .buildSlice .. => true
  | .makeSlice .. => true
  | .range .. => true
  | .next .. => true
  | .call c => match c.callee with
    | .builtin .append=>true
    | .builtin .clear=>true
    | _=>false
  | _=>false
def yycb : List Oper -> Nat
 | []=>0
 | o::os=>bif ybab o.op then 0 else yycb os+1
def encL {α:Type} [Inhabited α] (e:Nat) (enc:α->List AV) (l:List α):AV:=.sl none e l.length (fun i=>enc (l.getD i default))
def ownL {α:Type} [Inhabited α] (T:TypeId) (e:Nat) (enc:α->List AV) (l:List α):AV:=.sl (some T) e l.length (fun i=>enc (l.getD i default))
def decL {α:Type} (dec:List AV->α) (n:Nat) (f:Nat->List AV):List α:=(List.range n).map fun i=>dec (f i)
omit [Inv]in
theorem ysn {α:Type} (dec:List AV->α) (n:Nat) (f:Nat->List AV):(decL dec n f).length=n:=by simp[decL]
omit [Inv]in
theorem yys {α:Type} [Inhabited α] (dec:List AV->α) (n:Nat) (f:Nat->List AV) (i:Nat) (hi:i<n):(decL dec n f).getD i default=dec (f i):=by
 simp[decL,List.getD_eq_getElem?_getD,hi]
omit [Inv]in
theorem yxc {α:Type} [Inhabited α] (l:List α):(List.range l.length).map (fun i=>l.getD i default)=l:=by
 apply List.ext_getElem
 ·simp
 ·intro i h1 h2
  simp[List.getD_eq_getElem?_getD,h2]
theorem Den.sim {P:Program} {f:FuncId} {xs xs':List AV} {r:AV} (h:Den P f xs' r) (hs:yec xs xs') (hx:y6d xs=true) (hx':y6d xs'=true):Den P f xs r:=by
 refine⟨h.1,?_⟩;intro w M vs fpA hI hIM hA hAn hAm hM
 have htop:∀ {ys:List AV},RepL w (fun b=>M b\/b∈y1 xs vs) ys yw vs []->y1 ys vs=[]:=by
  intro ys hy;apply List.eq_nil_iff_forall_not_mem.2;intro b hb;have:=yvc ys hy b hb;simp at this
 have hfp:fpA=[]:=ydj xs hx hA;subst hfp;have hA':=ycc xs xs' hs hA;have h1:=htop hA;have h2:=htop hA';have:=h.2 w M vs [] hI hIM (by rw[h2];rw[h1]at hA';exact hA') hAn hAm hM;rw[h1];rw[h2]at this;exact this
theorem yr2 {α:Type} [Inhabited α] {e n:Nat} {x:Nat->List AV} (enc:α->List AV) (dec:List AV->α) (h:∀ i,i<n->yec (x i) (enc (dec (x i)))):simO (.sl none e n x) (encL e enc (decL dec n x)):=by
 simp only[simO,encL,ysn,true_and];intro i hi;rw[yys dec n x i hi];exact h i hi
omit [Inv]in
theorem ydcb (a b:Bool):(bif a then b else false)=(a && b):=by cases a<;>rfl
omit [Inv]in
theorem y4eb (a b:Bool):(bif a then true else b)=(a || b):=by cases a<;>rfl
end Go.Ab
namespace Go.Ab
open Go Go.ChangeShapes Go.WideShapes Go.ChangeAt Go.RowKit
variable [Inv]
theorem Keep.below {W W':World} (h:Keep W [] W'):Below W.heap.size W W':=⟨h.os,h.tape,h.output,h.size,fun k hk=>h.block k hk (by simp)⟩
theorem Keep.kept {W W':World} (h:Keep W [] W') (may:MemPlace->Prop):W.keptBut W' may:=by
 refine⟨h.os,h.output,fun i hi => ?_⟩;rw[h.block i hi (by simp)];split<;>simp_all
theorem yui {H:Type} {enc:TypeId×Value->H} {P:Program} (hl:laidOutB P=true) {W W':World} (hb:Below W.heap.size W W') :
  ∀ {ts:List TypeId} {vs:List Value} {ds:List (DataW H)} {ps:List MemPlace},(ts.all fun t=>P.readableRec t && decide (t<P.types.size))=true->(∀ x∈ps,x.block<W.heap.size) ->
   DataW.TrodAll enc P W 0 (fun _=>true) true ts vs ds ps->DataW.TrodAll enc P W' 0 (fun b=>decide (b<W.heap.size)) true ts vs ds ps
 | [],[],[],ps,_,_,h=>h
 | t::ts,v::vs,d::ds,ps,ht,hlt,h=>by
  obtain⟨p,q,h1,h2,rfl⟩:=h;simp only[List.all_cons,Bool.and_eq_true,decide_eq_true_eq]at ht;refine⟨p,q,Below.trod hl ht.1.1 ht.1.2 h1 hb (fun x hx=>hlt x (by simp[hx])),yui hl hb ?_ (fun x hx=>hlt x (by simp[hx])) h2,rfl⟩;simpa using ht.2
 | [],_::_,_,_,_,_,h=>h.elim
 | [],[],_::_,_,_,_,h=>h.elim
 | _::_,[],_,_,_,_,h=>h.elim
 | _::_,_::_,[],_,_,_,h=>h.elim
theorem y85 {H : Type} {enc : TypeId × Value -> H} {P : Program} {f : FuncId} {fn : Func} {s : ChangeSpec} {W : World} {args : Array Value} {ds gs : List (DataW H)} {before : List MemPlace} {xs : List AV} {tb : TypeId}
  (hl:laidOutB P=true) (hres:fn.resultTypes = #[tb]) (htb:P.underlying tb=some .bool) (hvars:s.vars=[]) (hts:(fn.params.toList.all fun t=>P.readableRec t && decide (t<P.types.size))=true)
  (hs:∀ p,DataW.TrodAll enc P W 0 (fun _=>true) true fn.params.toList args.toList ds p->(s.fn H (ds++gs)).results=[.lit (.bool true)]/\(s.fn H (ds++gs)).args=ds/\(s.fn H (ds++gs)).vars=[])
  (hW:DataW.Whole enc P fn.params.toList s.vars false W args.toList ds gs before)
  (hI:Inv.ok W) (hD:Den P f xs (.bool true)) (hx:RepL W (fun _=>False) xs yw args.toList []) :
  Calls P f args W fun e W'=>∃ v,e=.returned v/\s.post enc P fn false true false false W args v W':=by
 have htop:y1 xs args.toList=[]:=by
  apply List.eq_nil_iff_forall_not_mem.2;intro b hb;have:=yvc xs hx b hb;simp at this
 have hc:=hD.2 W (fun _=>False) args.toList [] hI (by simp) (by rw[htop];simpa using hx) (by simp) (by simp) (by simp);rw[htop]at hc;simp only[Array.toArray_toList]at hc;refine hc.mono ?_;rintro e W' ⟨v,fpR,rfl,hK,hr,_⟩
 refine⟨v,rfl,?_⟩;have hv:=hr.val_bool;subst hv;have hlt:=hW.lt;obtain⟨p,q,hA,hV,hbe,hfz,hnd⟩:=id hW;obtain⟨h1,h2,h3⟩:=hs p hA
 have hq:q=[]:=by
  rw[hvars]at hV
  cases gs with
  | nil=>exact hV
  | cons _ _=>exact hV.elim
 refine⟨ds,gs,before,[],p,[],hW,?_,?_,?_,hK.kept _,by simp⟩
 ·rw[h1,hres]
  exact⟨[],[],⟨1,by simp[DataW.trod,htb,Value.cells]⟩,rfl,rfl⟩
 ·rw[h2]
  exact yui hl hK.below hts (fun x hx=>hlt x (by rw[hbe];simp[hx])) hA
 ·rw[h3,hvars]
  rfl
end Go.Ab
namespace Go.Ab
open Go
variable [Inv]
def posC : AV -> AV
 | .ref id e off n=>.ref id e off n
 | .ptr id off=>.ptr id off
 | _=>.any
def posV : AV -> AV
 | .agg cs=>.agg (cs.map posC)
 | x=>posC x
def posL : List Bool -> List AV -> List AV
 | true::gb,x::xs=>posV x::posL gb xs
 | _::gb,_::xs=>.any::posL gb xs
 | [],_::xs=>.any::posL [] xs
 | _,[]=>[]
def ysz (h : List Ent) : AV -> Option (AV × List Ent × List Prop)
 | .ref id e off n=>absC h (.ref id e off n)
 | .ptr id off=>absC h (.ptr id off)
 | _=>some (.any,h,[])
def yyq (h : List Ent) : List AV -> Option (List AV × List Ent × List Prop)
  | []=>some ([],h,[])
  | x :: xs => match ysz h x with
    | some (y, h1, o1) => match yyq h1 xs with
      | some (ys,h2,o2)=>some (y::ys,h2,o1++o2)
      | none=>none
    | none=>none
def yc1 (h : List Ent) : AV -> Option (AV × List Ent × List Prop)
  | .agg cs => match yyq h cs with
    | some (ys,h',ob)=>some (.agg ys,h',ob)
    | none=>none
  | x=>ysz h x
def y7i (h : List Ent) : List AV -> Option (List AV × List Ent × List Prop)
  | []=>some ([],h,[])
  | x :: xs => match yc1 h x with
    | some (y, h1, o1) => match y7i h1 xs with
      | some (ys,h2,o2)=>some (y::ys,h2,o1++o2)
      | none=>none
    | none=>none
def yhv (Γ:Env) (rs:List ResultVar) (bk:List AV) (r:AV) (outs:List AV) (s:St):Prop:=
  match resA Γ s rs with
  | some (xs, o1) => match yoc s.h xs with
    | some (ys, h', ob) => match y7i h' bk with
      | some (zs,_,ob2)=>allP o1/\allP ob/\allP ob2/\(y4b ys/\y4b zs\/ydd ys/\ydd zs)/\simO (yji ys) r/\yec zs outs
      | none=>False
    | none=>False
  | none=>False
section
variable {P:Program} {c:Ctx} {μ:Map} {FP:Nat->List Nat} {w:World} {h0:List Ent}
theorem y8w {w w':World} {M M':Nat->Prop} {μ μ':Map} (hμ:μ.le μ') {x:AV} {v:Value} (h:Rep w M x μ v []):Rep w' M' (posC x) μ' v []:=by
 unfold posC;split
 ·simp only[Rep]at h ⊢
  refine⟨trivial,?_⟩;have h2:=h.2;rename_i id e off n
  cases hm:μ id with
  | none=>simp[hm]at h2
  | some L=>rw[hμ id L hm];simpa [hm]using h2
 ·simp only[Rep]at h ⊢
  obtain⟨_,b,cap,hm,hv⟩:=h;exact⟨trivial,b,cap,hμ _ _ hm,hv⟩
 ·simp[Rep]
theorem y8r {w w' : World} {M M' : Nat -> Prop} {μ μ' : Map} (hμ : μ.le μ') : ∀ {xs : List AV} {vs : List Value}, RepL w M xs μ vs [] -> RepL w' M' (xs.map posC) μ' vs []
 | [],vs,h=>by simpa [RepL]using h
 | x::xs,vs,h=>by
  simp only[RepL,List.map_cons]at h ⊢;obtain⟨u,us',f1,f2,rfl,e2,h1,h2⟩:=h;obtain⟨rfl,rfl⟩:=List.append_eq_nil_iff.1 e2.symm;exact⟨u,us',[],[],rfl,rfl,y8w hμ h1,y8r hμ h2⟩
theorem yf9 {w w':World} {M M':Nat->Prop} {μ μ':Map} (hμ:μ.le μ') {x:AV} {v:Value} (h:Rep w M x μ v []):Rep w' M' (posV x) μ' v []:=by
 unfold posV;split
 ·simp only[Rep]at h ⊢
  obtain⟨us,e,h⟩:=h;exact⟨us,e,y8r hμ h⟩
 ·exact y8w hμ h
theorem ybl {w w' : World} {M M' : Nat -> Prop} {μ μ' : Map} (hμ : μ.le μ') : ∀ {gb : List Bool} {xs : List AV} {vs : List Value}, RepL w M xs μ vs [] -> RepL w' M' (posL gb xs) μ' vs []
 | gb,[],vs,h=>by cases gb<;>simpa [RepL,posL]using h
 | gb,x::xs,vs,h=>by
  simp only[RepL]at h;obtain⟨u,us',f1,f2,rfl,e2,h1,h2⟩:=h;obtain⟨rfl,rfl⟩:=List.append_eq_nil_iff.1 e2.symm
  have any:∀ gb,RepL w' M' (.any::posL gb xs) μ' (u::us') []:=fun gb=>by
   simp only[RepL];exact⟨u,us',[],[],rfl,rfl,by simp[Rep],ybl hμ h2⟩
  cases gb with
  | nil=>simp only[posL];exact any []
  | cons b gb=>
   cases b with
   | false=>simp only[posL];exact any gb
   | true=>
    simp only[posL,RepL];exact⟨u,us',[],[],rfl,rfl,yf9 hμ h1,ybl hμ h2⟩
theorem yfp (hW : WR c (Hof h0) μ FP w) {h h' : List Ent} {x y : AV} {v : Value} {ob : List Prop} (hsub : ∀ (id : Nat) (e : Ent), nthE h id = some e -> e.live = true -> nthE h0 id = some e)
  (hx:Rep w (hot c.M0 (Hof h0) μ) x μ v []) (ha:ysz h x=some (y,h',ob)) (ho:allP ob) :
  ∃ K fp,Rep w (hot c.M0 (Hof h0) μ) y yw v fp/\Gone h h' K/\Owns FP K fp/\∀ b,b∈tops y v->hot c.M0 (Hof h0) μ b:=by
 unfold ysz at ha;split at ha
 ·obtain⟨K,fp,h1,h2,h3⟩:=yki hW hsub hx ha ho
  exact⟨K,fp,h1,h2,h3,yfj hsub hx ha⟩
 ·obtain⟨K,fp,h1,h2,h3⟩:=yki hW hsub hx ha ho
  exact⟨K,fp,h1,h2,h3,yfj hsub hx ha⟩
 ·simp only[Option.some.injEq,Prod.mk.injEq]at ha
  obtain⟨rfl,rfl,rfl⟩:=ha;exact⟨[],[],by simp[Rep],Gone.refl _,by simp[Owns],by simp[tops,yjc]⟩
theorem ybp (hW:WR c (Hof h0) μ FP w):∀ {xs:List AV} {h h':List Ent} {ys:List AV} {us:List Value} {ob:List Prop},(∀ (id:Nat) (e:Ent),nthE h id=some e->e.live=true->nthE h0 id=some e) ->
  RepL w (hot c.M0 (Hof h0) μ) xs μ us []->yyq h xs=some (ys,h',ob)->allP ob ->
  ∃ K fp,RepL w (hot c.M0 (Hof h0) μ) ys yw us fp/\Gone h h' K/\Owns FP K fp/\∀ b,b∈y1 ys us->hot c.M0 (Hof h0) μ b
 | [],h,h',ys,us,ob,hsub,hx,ha,_=>by
  simp only[yyq,Option.some.injEq,Prod.mk.injEq]at ha;obtain⟨rfl,rfl,rfl⟩:=ha;simp only[RepL]at hx;exact⟨[],[],by simp only[RepL];exact⟨hx.1,trivial⟩,Gone.refl _,by simp[Owns],by simp[y1]⟩
 | x::xs,h,h',ys,us,ob,hsub,hx,ha,ho=>by
  simp only[yyq]at ha
  cases h1:ysz h x with
  | none=>simp[h1]at ha
  | some p=>
   obtain⟨y,h2,o1⟩:=p;simp only[h1]at ha
   cases h3:yyq h2 xs with
   | none=>simp[h3]at ha
   | some q=>
    obtain⟨ys',h4,o2⟩:=q;simp only[h3,Option.some.injEq,Prod.mk.injEq]at ha;obtain⟨rfl,rfl,rfl⟩:=ha;obtain⟨ho1,ho2⟩:=yk.1 ho;simp only[RepL]at hx;obtain⟨u,us',f1,f2,rfl,e2,hu,hus⟩:=hx;obtain⟨rfl,rfl⟩:=List.append_eq_nil_iff.1 e2.symm;obtain⟨K1,g1,r1,go1,ow1,t1⟩:=yfp hW hsub hu h1 ho1;obtain⟨K2,g2,r2,go2,ow2,t2⟩:=ybp hW (fun id e he hl=>hsub id e (go1.sub id e he hl) hl) hus h3 ho2;refine⟨K1++K2,g1++g2,by simp only[RepL];exact⟨u,us',g1,g2,rfl,rfl,r1,r2⟩,go1.trans go2,Owns.app hW go1 go2 ow1 ow2,?_⟩;intro b hb;simp only[y1,List.mem_append]at hb;exact hb.elim (t1 b) (t2 b)
theorem yj0 (hW : WR c (Hof h0) μ FP w) {h h' : List Ent} {x y : AV} {v : Value} {ob : List Prop} (hsub : ∀ (id : Nat) (e : Ent), nthE h id = some e -> e.live = true -> nthE h0 id = some e)
  (hx:Rep w (hot c.M0 (Hof h0) μ) x μ v []) (ha:yc1 h x=some (y,h',ob)) (ho:allP ob) :
  ∃ K fp,Rep w (hot c.M0 (Hof h0) μ) y yw v fp/\Gone h h' K/\Owns FP K fp/\∀ b,b∈tops y v->hot c.M0 (Hof h0) μ b:=by
 cases x with
 | agg cs=>
  simp only[yc1]at ha
  cases h1:yyq h cs with
  | none=>simp[h1]at ha
  | some p=>
   obtain⟨ys,h2,o1⟩:=p;simp only[h1,Option.some.injEq,Prod.mk.injEq]at ha;obtain⟨rfl,rfl,rfl⟩:=ha;simp only[Rep]at hx;obtain⟨us,rfl,hus⟩:=hx;obtain⟨K,fp,r,g,o,t⟩:=ybp hW hsub hus h1 ho;exact⟨K,fp,by simp only[Rep];exact⟨us,rfl,r⟩,g,o,by simpa only[tops]using t⟩
 | _=>exact yfp hW hsub hx ha ho
theorem yzh (hW:WR c (Hof h0) μ FP w):∀ {xs:List AV} {h h':List Ent} {ys:List AV} {us:List Value} {ob:List Prop},(∀ (id:Nat) (e:Ent),nthE h id=some e->e.live=true->nthE h0 id=some e) ->
  RepL w (hot c.M0 (Hof h0) μ) xs μ us []->y7i h xs=some (ys,h',ob)->allP ob ->
  ∃ K fp,RepL w (hot c.M0 (Hof h0) μ) ys yw us fp/\Gone h h' K/\Owns FP K fp/\∀ b,b∈y1 ys us->hot c.M0 (Hof h0) μ b
 | [],h,h',ys,us,ob,hsub,hx,ha,_=>by
  simp only[y7i,Option.some.injEq,Prod.mk.injEq]at ha;obtain⟨rfl,rfl,rfl⟩:=ha;simp only[RepL]at hx;exact⟨[],[],by simp only[RepL];exact⟨hx.1,trivial⟩,Gone.refl _,by simp[Owns],by simp[y1]⟩
 | x::xs,h,h',ys,us,ob,hsub,hx,ha,ho=>by
  simp only[y7i]at ha
  cases h1:yc1 h x with
  | none=>simp[h1]at ha
  | some p=>
   obtain⟨y,h2,o1⟩:=p;simp only[h1]at ha
   cases h3:y7i h2 xs with
   | none=>simp[h3]at ha
   | some q=>
    obtain⟨ys',h4,o2⟩:=q;simp only[h3,Option.some.injEq,Prod.mk.injEq]at ha;obtain⟨rfl,rfl,rfl⟩:=ha;obtain⟨ho1,ho2⟩:=yk.1 ho;simp only[RepL]at hx;obtain⟨u,us',f1,f2,rfl,e2,hu,hus⟩:=hx;obtain⟨rfl,rfl⟩:=List.append_eq_nil_iff.1 e2.symm;obtain⟨K1,g1,r1,go1,ow1,t1⟩:=yj0 hW hsub hu h1 ho1;obtain⟨K2,g2,r2,go2,ow2,t2⟩:=yzh hW (fun id e he hl=>hsub id e (go1.sub id e he hl) hl) hus h3 ho2;refine⟨K1++K2,g1++g2,by simp only[RepL];exact⟨u,us',g1,g2,rfl,rfl,r1,r2⟩,go1.trans go2,Owns.app hW go1 go2 ow1 ow2,?_⟩;intro b hb;simp only[y1,List.mem_append]at hb;exact hb.elim (t1 b) (t2 b)
mutual
theorem y1m {w : World} {M : Nat -> Prop} {μ : Map} : ∀ (x x' : AV) {v : Value} {fp : List Nat}, simO x x' -> Rep w M x μ v fp -> tops x' v = tops x v
 | .sl o e n f,x',v,fp,hs,h=>by
  cases x' with
  | sl o' e' n' f'=>
   simp only[simO]at hs;obtain⟨rfl,rfl,rfl,hf⟩:=hs;cases o<;>cases v<;>first|rfl|(rename_i a _ _;cases a<;>rfl)
  | _=>simp[simO]at hs
 | .agg cs,x',v,fp,hs,h=>by
  cases x' with
  | agg cs'=>
   simp only[simO]at hs;simp only[Rep]at h;obtain⟨us,rfl,h⟩:=h;simp only[tops];exact y4d cs cs' hs h
  | _=>simp[simO]at hs
 | .op cs,x',v,fp,hs,h=>by
  cases x' with
  | op cs'=>
   simp only[Rep]at h;obtain⟨b,us,T,rfl,_⟩:=h;rfl
  | _=>simp[simO]at hs
 | .tup cs,x',v,fp,hs,h=>by
  cases x' with
  | tup cs'=>
   simp only[simO]at hs;simp only[Rep]at h;obtain⟨us,rfl,h⟩:=h;simp only[tops];exact y4d cs cs' hs h
  | _=>simp[simO]at hs
 | .int k n,x',v,fp,hs,h=>by
  cases x' with
  | int k' n'=>simp only[simO]at hs;obtain⟨rfl,rfl⟩:=hs;rfl
  | _=>simp[simO]at hs
 | .bool k,x',v,fp,hs,h=>by
  cases x' with
  | bool k'=>simp only[simO]at hs;subst hs;rfl
  | _=>simp[simO]at hs
 | .str k,x',v,fp,hs,h=>by
  cases x' with
  | str k'=>simp only[simO]at hs;subst hs;rfl
  | _=>simp[simO]at hs
 | .nils,x',v,fp,hs,h=>by
  simp only[Rep]at h;obtain⟨rfl,_⟩:=h
  cases x' with
  | nils=>rfl
  | sl o e n f=>cases o<;>rfl
  | _=>simp[simO]at hs
 | .ref ..,x',v,fp,hs,h=>by cases x'<;>simp[simO]at hs;obtain⟨rfl,rfl,rfl,rfl⟩:=hs;rfl
 | .ptr ..,x',v,fp,hs,h=>by cases x'<;>simp[simO]at hs;obtain⟨rfl,rfl⟩:=hs;rfl
 | .pe ..,x',v,fp,hs,h=>by cases x'<;>simp[simO]at hs;obtain⟨rfl,rfl,rfl,rfl⟩:=hs;rfl
 | .ep cs,x',v,fp,hs,h=>by cases x'<;>simp[simO]at hs;simp only[Rep]at h;obtain⟨_,b,o,us,rfl,_⟩:=h;rfl
 | .fn ..,x',v,fp,hs,h=>by cases x'<;>simp[simO]at hs;obtain⟨rfl,rfl,rfl⟩:=hs;rfl
 | .lit ..,x',v,fp,hs,h=>by cases x'<;>simp[simO]at hs;obtain⟨rfl,rfl⟩:=hs;rfl
 | .gd ..,x',v,fp,hs,h=>by cases x'<;>simp[simO]at hs;obtain⟨rfl,rfl⟩:=hs;rfl
 | .any,x',v,fp,hs,h=>by cases x'<;>simp[simO]at hs;rfl
theorem y4d {w : World} {M : Nat -> Prop} {μ : Map} : ∀ (xs xs' : List AV) {us : List Value} {fp : List Nat}, yec xs xs' -> RepL w M xs μ us fp -> y1 xs' us = y1 xs us
 | [],xs',us,fp,hs,h=>by cases xs'<;>simp only[yec]at hs;rfl
 | x::xs,xs',us,fp,hs,h=>by
  cases xs'<;>simp only[yec]at hs
  simp only[RepL]at h;obtain⟨u,us',f1,f2,rfl,rfl,h1,h2⟩:=h;simp only[y1,y1m x _ hs.1 h1,y4d xs _ hs.2 h2]
end
mutual
theorem Rep.fp_lt {w : World} {M : Nat -> Prop} : ∀ (x : AV) {μ : Map} {v : Value} {fp : List Nat}, Rep w M x μ v fp -> ∀ b, b ∈ fp -> b < w.heap.size
 | .agg cs,μ,v,fp,h,b,hb=>by
  simp only[Rep]at h;obtain⟨us,rfl,h⟩:=h;exact RepL.fp_lt cs h b hb
 | .tup cs,μ,v,fp,h,b,hb=>by
  simp only[Rep]at h;obtain⟨us,rfl,h⟩:=h;exact RepL.fp_lt cs h b hb
 | .op cs,μ,v,fp,h,b,hb=>by
  simp only[Rep]at h;obtain⟨b',us,T,rfl,rfl,hlt,_⟩:=h;simp only[List.mem_singleton]at hb;subst hb;exact hlt
 | .sl own e n f,μ,v,fp,h,b,hb=>by
  simp only[Rep]at h;rcases h with⟨_,_,rfl⟩|⟨b',o,cap,us,fps,hv,hn,hb',hc,ho⟩
  ·simp at hb
  ·cases own with
   | none=>obtain⟨_,rfl,_⟩:=ho;simp at hb
   | some T=>
    obtain⟨rfl,rfl,_⟩:=ho;rcases List.mem_cons.1 hb with rfl|hb
    ·exact hb'
    ·obtain⟨i,hi,hbi⟩:=List.mem_flatMap.1 hb
     exact RepL.fp_lt (f i) (hc i (List.mem_range.1 hi)).1 b hbi
 | .int _ _,_,_,_,h,b,hb=>by simp only[Rep]at h;rw[h.2]at hb;simp at hb
 | .bool _,_,_,_,h,b,hb=>by simp only[Rep]at h;rw[h.2]at hb;simp at hb
 | .str _,_,_,_,h,b,hb=>by simp only[Rep]at h;rw[h.2]at hb;simp at hb
 | .nils,_,_,_,h,b,hb=>by simp only[Rep]at h;rw[h.2]at hb;simp at hb
 | .any,_,_,_,h,b,hb=>by simp only[Rep]at h;rw[h]at hb;simp at hb
 | .ref ..,_,_,_,h,b,hb=>by simp only[Rep]at h;rw[h.1]at hb;simp at hb
 | .ptr ..,_,_,_,h,b,hb=>by simp only[Rep]at h;rw[h.1]at hb;simp at hb
 | .pe ..,_,_,_,h,b,hb=>by simp only[Rep]at h;rw[h.1]at hb;simp at hb
 | .ep ..,_,_,_,h,b,hb=>by simp only[Rep]at h;rw[h.1]at hb;simp at hb
 | .fn ..,_,_,_,h,b,hb=>by simp only[Rep]at h;rw[h.1]at hb;simp at hb
 | .lit ..,_,_,_,h,b,hb=>by simp only[Rep]at h;rw[h.1]at hb;simp at hb
 | .gd ..,_,_,_,h,b,hb=>by simp only[Rep]at h;rw[h.1]at hb;simp at hb
theorem RepL.fp_lt {w : World} {M : Nat -> Prop} : ∀ (xs : List AV) {μ : Map} {us : List Value} {fp : List Nat}, RepL w M xs μ us fp -> ∀ b, b ∈ fp -> b < w.heap.size
 | [],_,_,_,h,b,hb=>by simp only[RepL]at h;rw[h.2]at hb;simp at hb
 | x::xs,_,_,_,h,b,hb=>by
  simp only[RepL]at h;obtain⟨u,us',f1,f2,rfl,rfl,h1,h2⟩:=h;rcases List.mem_append.1 hb with hb|hb
  ·exact Rep.fp_lt x h1 b hb
  ·exact RepL.fp_lt xs h2 b hb
end
end
section
variable {P:Program}
theorem yh0 {f : FuncId} {fn : Func} {code : Code} {xs : List AV} {r : AV} {outs : List AV} {gb : List Bool} {N : Nat} {rs : List ResultVar} {Γ : Env} (hΓ : TyOk P Γ) (hf : P.funcs[f]? = some fn) (hname : (fn.name == "runtime.NumGoroutine") = false)
  (hb:fn.body=some code) (hN:fn.ntmps=N) (hr:fn.results.toList=rs) (hlen:xs.length<=N)
  (h:∀ c:Ctx,yzd xs->c.nt=N->c.k0=(adEL xs).length->AWP P c code (yhv Γ rs (posL gb (adRL 0 xs)) r outs) (fun _ _=>False) (yhv Γ rs (posL gb (adRL 0 xs)) r outs) ⟨pars 0 (adRL 0 xs),adEL xs⟩):DenM P f xs r outs:=by
 refine⟨⟨fn,hf,hname,by rw[hb];rfl⟩,?_⟩;intro w M vs fpA hI hIM hA hAn hAm hM;obtain⟨ls,hAd,hAdR⟩:=yzm xs hA;have hlsn:=yzb (ls:=ls) (by rw[<- hAd.fps];exact hAn);have hlt:∀ b,b∈fpA->b<w.heap.size:=RepL.fp_lt xs hA;have htf:∀ b,b∈y1 xs vs->b∈fpA:=yvc xs hA
 have hfpA:∀ (k:Nat) (L:Loc) (fq:List Nat),ls[k]? = some (L,fq)->∀ b,b∈fq->b∈fpA:=fun k L fq hk b hb=>by
  rw[hAd.fps];exact List.mem_flatten.2 ⟨fq,List.mem_map.2 ⟨(L,fq),List.mem_of_getElem? hk,rfl⟩,hb⟩
 let μ0:Map:=fun j=>(ls[j]?).map (·.1)
 let FP0:Nat->List Nat:=fun j=>((ls[j]?).map (·.2)).getD []
 have hbase:∀ j L,μ0 j=some L->j<(adEL xs).length:=by
  intro j L hj;simp only[μ0]at hj
  cases hls:ls[j]? with
  | none=>simp[hls]at hj
  | some p=>rw[<- hAd.len];exact(List.getElem?_eq_some_iff.1 hls).1
 let c:Ctx:={ w0:=w,M0:=M,F0:=fpA,T0:=y1 xs vs,mu0:=μ0,k0:=(adEL xs).length,nt:=N,cold0:=fun b hb=>⟨hM b hb,fun h=>hAm b h hb⟩,own0:=hlt,top0:=htf,base0:=hbase,inv0:=hI,invM:=hIM }
 have hhot:∀ b,hot c.M0 (Hof (adEL xs)) μ0 b->M b\/b∈y1 xs vs:=by
  rintro b (hb|⟨id,cap,e,hm,he,hl⟩)
  ·exact .inl hb
  ·right
   simp only[μ0]at hm
   cases hls:ls[id]? with
   | none=>simp[hls]at hm
   | some p=>
    obtain⟨L,fq⟩:=p;simp only[hls,Option.map_some,Option.some.injEq]at hm;subst hm;simp only[Hof,yjb]at he;exact(hAd.ok id e _ fq he hls).2 b cap rfl
 have hR0:RepL w (fun b=>M b\/b∈y1 xs vs) (adRL 0 xs) μ0 vs []:=hAdR 0 μ0 (fun j L fq hj=>by simp only[μ0,Nat.zero_add,hj];rfl);have hA':RepL w (hot c.M0 (Hof (adEL xs)) μ0) (adRL 0 xs) μ0 vs []:=y1e hhot hR0;have hvl:=hA.length;have hal:(adRL 0 xs).length=xs.length:=by rw[<- hA'.length,hvl]
 refine calls_of_wp hf hb ?_;refine wp_mono ((h c (RepL.lens xs hA) rfl rfl).run _ _ ⟨μ0,FP0,⟨⟨rfl,rfl,rfl,Nat.le_refl _,fun _ _ _=>rfl⟩,Map.le_refl _,?_,?_,?_,?_,?_,?_⟩,?_,?_,?_,rfl⟩) ?_
 ·intro id L hm
  simp only[μ0]at hm
  cases hls:ls[id]? with
  | none=>simp[hls]at hm
  | some p=>
   obtain⟨L',fq⟩:=p;simp only[hls,Option.map_some,Option.some.injEq]at hm;subst hm;have hid:id<(adEL xs).length:=by rw[<- hAd.len];exact(List.getElem?_eq_some_iff.1 hls).1
   refine⟨_,by simp only[Hof,yjb];exact List.getElem?_eq_getElem hid,?_⟩;have hok:=(hAd.ok id _ _ fq (List.getElem?_eq_getElem hid) hls).1 μ0;simp only[FP0,hls,Option.map_some,Option.getD_some];exact yic.mono (Map.le_refl _) ⟨Nat.le_refl _,fun b _ hb hh=>hb (hhot b hh),fun _ _ _=>rfl⟩ (fun b hb=>hlt b (hfpA _ _ _ hls b hb)) hok
 ·intro id hm
  simp only[μ0]at hm;simp only[FP0]
  cases hls:ls[id]? with
  | none=>rfl
  | some p=>simp[hls]at hm
 ·intro id
  simp only[FP0]
  cases hls:ls[id]? with
  | none=>simp
  | some p=>obtain⟨L,fq⟩:=p;exact hlsn.1 id L fq hls
 ·intro i j hij b hbi hbj
  simp only[FP0]at hbi hbj
  cases hli:ls[i]? with
  | none=>simp[hli]at hbi
  | some p=>
   cases hlj:ls[j]? with
   | none=>simp[hlj]at hbj
   | some q=>
    obtain⟨L1,f1⟩:=p;obtain⟨L2,f2⟩:=q;simp only[hli,hlj,Option.map_some,Option.getD_some]at hbi hbj;exact hlsn.2 i j L1 f1 L2 f2 hij hli hlj b hbi hbj
 ·intro i b hb
  simp only[FP0]at hb
  cases hls:ls[i]? with
  | none=>simp[hls]at hb
  | some p=>
   obtain⟨L,fq⟩:=p;simp only[hls,Option.map_some,Option.getD_some]at hb;exact⟨.inl (hfpA _ _ _ hls b hb),hlt b (hfpA _ _ _ hls b hb)⟩
 ·intro id b cap e hm he hl
  left
  simp only[μ0]at hm
  cases hls:ls[id]? with
  | none=>simp[hls]at hm
  | some p=>
   obtain⟨L,fq⟩:=p;simp only[hls,Option.map_some,Option.some.injEq]at hm;subst hm;simp only[Hof,yjb]at he;exact(hAd.ok id e _ fq he hls).2 b cap rfl
 ·intro j hj
  simp only[μ0];rw[List.getElem?_eq_none (by rw[hAd.len];exact hj)];rfl
 ·intro i
  have:=y8k (k:=0) (i:=i) (rest:=(Array.replicate (fn.ntmps-vs.toArray.size) undef).toList) hA' (Nat.zero_le _)
  have e:(vs.toArray++Array.replicate (fn.ntmps-vs.toArray.size) undef).getD i undef=(((vs++(Array.replicate (fn.ntmps-vs.toArray.size) undef).toList)[i-0]?).getD undef):=by
   rw[Array.getD_eq_getD_getElem?, <- Array.getElem?_toList];simp
  rw[e];exact this
 ·simp only[Array.size_append,List.size_toArray,Array.size_replicate]
  show vs.length+(fn.ntmps-vs.length)=N;omega
 ·intro e a w' hp
  have main:∀ s',yhv Γ rs (posL gb (adRL 0 xs)) r outs s'->WRs c s' a w'->bodyPost P fn (fun e w'=>∃ v fpR fpO,e=.returned v/\Keep w (y1 xs vs) w'/\Rep w' (fun b=>M b\/b∈fpR++fpO) r yw v fpR /\
    RepL w' (fun b=>M b\/b∈fpR++fpO) outs yw vs fpO/\(fpR++fpO).Nodup/\(∀ b,b∈fpR++fpO->(b∈fpA\/w.heap.size<=b)/\b<w'.heap.size) /\
    (∀ b,b∈tops r v++y1 outs vs->b∈y1 xs vs\/w.heap.size<=b)) .ret a w':=by
   intro s' hE hs';simp only[yhv]at hE;split at hE
   ·rename_i xs0 o1 hres0
    split at hE
    ·rename_i ys h' ob habs
     split at hE
     ·rename_i zs h'' ob2 hback
      obtain⟨ho1,ho,ho2,hnb,hpack,hsim⟩:=hE;obtain⟨μ,FP,hW,htl,h1,h2,h3⟩:=hs'
      have hmap:∃ us,(fn.results.toList.mapM (fun|.tmp t=>pure (a.tmps.getD t undef)|.cell b t=>do loadVar t (<- asAddr (a.tmps.getD b undef)):ResultVar->Sem Value)).run P w'=.ok us w'/\RepL w' (hot c.M0 (Hof s'.h) μ) xs0 μ us []:=by
       rw[hr];exact yql hΓ hW a.tmps h1 (fun _=>rfl) (fun _ _=>rfl) hres0 ho1
      obtain⟨us,hrun,hres⟩:=hmap;obtain⟨K1,fp1,hr1,hgone1,hown1⟩:=y3g hW (fun _ _ he _=>he) hres habs ho;have htops1:=y5g (fun _ _ he _=>he) hres habs;have hpos:RepL w' (hot c.M0 (Hof s'.h) μ) (posL gb (adRL 0 xs)) μ vs []:=ybl hW.base hR0;obtain⟨K2,fp2,hr2,hgone2,hown2,htops2⟩:=yzh hW (fun id e he hl=>hgone1.sub id e he hl) hpos hback ho2;have hown:=Owns.app hW hgone1 hgone2 hown1 hown2
      have hnew:∀ b,b∈fp1++fp2->(b∈fpA\/w.heap.size<=b)/\b<w'.heap.size:=by
       intro b hb;obtain⟨id,_,hid⟩:=hown.2 b hb;exact hW.new id b hid
      have htop:∀ b,b∈fp1++fp2->hot c.M0 (Hof s'.h) μ b->b∈y1 xs vs\/w.heap.size<=b:=by
       intro b hb hh;rcases hh with hh|⟨id,cap,e,hm,he,hl⟩
       ·have hc:=c.cold0 b hh
        rcases(hnew b hb).1 with h5|h5
        ·exact absurd h5 hc.2
        ·exact .inr h5
       ·exact hW.top id b cap e hm he hl
      let v0:Value:=if h:us.toArray.size=1 then us.toArray[0]else .tuple us.toArray
      have hYZ:RepL w' (fun b=>M b\/b∈fp1++fp2) ys yw us fp1/\RepL w' (fun b=>M b\/b∈fp1++fp2) zs yw vs fp2:=by
       rcases hnb with⟨hnb1,hnb2⟩|⟨hf1,hf2⟩
       ·exact⟨RepL.noBor ys hnb1 hr1,RepL.noBor zs hnb2 hr2⟩
       ·have hcold:∀ b,b<w'.heap.size->¬ hot c.M0 (Hof s'.h) μ b->¬ (M b\/b∈fp1++fp2):=by
         rintro b _ hn (hm|hm)
         ·exact hn (.inl hm)
         ·rcases List.mem_append.1 hm with hm|hm
          ·exact hn (htops1 b (ydd.tops ys hf1 hr1 b hm))
          ·exact hn (htops2 b (ydd.tops zs hf2 hr2 b hm))
        exact⟨RepL.mono ys (Map.le_refl _) ⟨Nat.le_refl _,hcold,fun _ _ _=>rfl⟩ hr1,RepL.mono zs (Map.le_refl _) ⟨Nat.le_refl _,hcold,fun _ _ _=>rfl⟩ hr2⟩
      have hrp1:Rep w' (fun b=>M b\/b∈fp1++fp2) (yji ys) yw v0 fp1:=yhl hYZ.1;refine⟨h3,v0,?_,v0,fp1,fp2,rfl,hW.keep,?_,?_,hown.1,hnew,?_⟩
      ·unfold results
       rw[Sem.run_bind, <- Array.toArray_toList (xs:=fn.results),List.mapM_toArray];simp only[Sem.run_map];erw [hrun]
       rfl
      ·exact y1g _ _ hpack hrp1
      ·exact ycc _ _ hsim hYZ.2
      ·intro b hb
       rcases List.mem_append.1 hb with hb|hb
       ·rw[y1m _ _ hpack hrp1]at hb
        have hbf:b∈fp1:=y2h _ hrp1 b hb;refine htop b (List.mem_append_left _ hbf) (htops1 b ?_)
        have hpk:∀ (ys:List AV) (us:List Value),ys.length=us.length->∀ b,b∈tops (yji ys) (if h:us.toArray.size=1 then us.toArray[0]else .tuple us.toArray)->b∈y1 ys us:=by
         intro ys us hl b hb
         match ys,us,hl with
         | [],[],_=>simp[yji,tops,y1]at hb
         | [y],[u],_=>simpa [yji,y1]using hb
         | y::y2::ys,u::u2::us,hl=>
          rw[dif_neg (by simp)]at hb;simpa only[yji,tops]using hb
        exact hpk ys us hr1.length.symm b hb
       ·rw[y4d _ _ hsim hr2]at hb
        have hbf:b∈fp2:=yvc _ hr2 b hb;exact htop b (List.mem_append_right _ hbf) (htops2 b hb)
     ·exact hE.elim
    ·exact hE.elim
   ·exact hE.elim
  cases e with
  | normal=>obtain⟨s',h1,h2⟩:=hp;exact main s' h1 h2
  | ret=>obtain⟨s',h1,h2⟩:=hp;exact main s' h1 h2
  | exit id=>obtain⟨s',h1,h2⟩:=hp;exact h1.elim
  | _=>exact hp.elim
end
end Go.Ab
