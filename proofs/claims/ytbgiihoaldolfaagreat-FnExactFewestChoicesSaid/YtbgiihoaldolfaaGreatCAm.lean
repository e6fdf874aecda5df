/- A part of a proof: walks of functions and lemmas of our own. No conditions. -/
import Derived.Test.YtbgiihoaldolfaaGreatCAk
import Derived.Test.YtbgiihoaldolfaaGreatCAd
import Derived.KernelRfl
set_option linter.unusedSectionVars false
set_option linter.unusedVariables false
set_option linter.unusedSimpArgs false
namespace Go.Ab
open Go
variable [Inv]
def DenD (P:Program) (f:FuncId) (xs:List AV) (r:AV) (outs:List AV):Prop:=
 FnOk P f/\∀ (w:World) (M:Nat->Prop) (vs:List Value) (fpA:List Nat),Inv.ok w->(∀ b,Inv.dom b->¬ M b/\b∉fpA) ->
  RepL w (fun b=>M b\/b∈fpA) xs noMap vs fpA->fpA.Nodup->(∀ b,b∈fpA->¬ M b)->(∀ b,M b->b<w.heap.size) ->
  Calls P f vs.toArray w fun e w'=>∃ v fpR fpO,e=.returned v/\Keep w fpA w'/\Rep w' (fun b=>M b\/b∈fpR++fpO) r noMap v fpR /\
   RepL w' (fun b=>M b\/b∈fpR++fpO) outs noMap vs fpO/\(fpR++fpO).Nodup /\
   (∀ b,b∈fpR++fpO->(b∈fpA\/w.heap.size<=b)/\b<w'.heap.size)
section
variable {P:Program}
theorem y3k {f : FuncId} {fn : Func} {code : Code} {xs : List AV} {r : AV} {outs : List AV} {gb : List Bool} {N : Nat} {rs : List ResultVar} {Γ : Env} (hΓ : TyOk P Γ) (hf : P.funcs[f]? = some fn) (hname : (fn.name == "runtime.NumGoroutine") = false)
  (hb:fn.body=some code) (hN:fn.ntmps=N) (hr:fn.results.toList=rs) (hlen:xs.length<=N)
  (h:∀ c:Ctx,(∀ b,b∈c.F0->b∈c.T0)->ydc xs->c.nt=N->c.k0=(adEL xs).length->AWP P c code (EndsM Γ rs (posL gb (adRL 0 xs)) r outs) (fun _ _=>False) (EndsM Γ rs (posL gb (adRL 0 xs)) r outs) ⟨pars 0 (adRL 0 xs),adEL xs⟩):DenD P f xs r outs:=by
 refine⟨⟨fn,hf,hname,by rw[hb];rfl⟩,?_⟩;intro w M vs fpA hI hIM hA0 hAn hAm hM;have hA:RepL w (fun b=>M b\/b∈yx xs vs) xs noMap vs fpA:=RepL.mono xs (Map.le_refl _) ⟨Nat.le_refl _,fun b _ hb hh=>hb (hh.imp id fun h=>yzb xs hA0 b h),fun _ _ _=>rfl⟩ hA0;obtain⟨ls,hAd,hAdR⟩:=yfk xs hA;have hlsn:=yeb (ls:=ls) (by rw[<- hAd.fps];exact hAn);have hlt:∀ b,b∈fpA->b<w.heap.size:=RepL.fp_lt xs hA;have htf:∀ b,b∈yx xs vs->b∈fpA:=yzb xs hA
 have hfpA:∀ (k:Nat) (L:Loc) (fq:List Nat),ls[k]? = some (L,fq)->∀ b,b∈fq->b∈fpA:=fun k L fq hk b hb=>by
  rw[hAd.fps];exact List.mem_flatten.2 ⟨fq,List.mem_map.2 ⟨(L,fq),List.mem_of_getElem? hk,rfl⟩,hb⟩
 let μ0:Map:=fun j=>(ls[j]?).map (·.1)
 let FP0:Nat->List Nat:=fun j=>((ls[j]?).map (·.2)).getD []
 have hbase:∀ j L,μ0 j=some L->j<(adEL xs).length:=by
  intro j L hj;simp only[μ0]at hj
  cases hls:ls[j]? with
  | none=>simp[hls]at hj
  | some p=>rw[<- hAd.len];exact(List.getElem?_eq_some_iff.1 hls).1
 let c:Ctx:={ w0:=w,M0:=M,F0:=fpA,T0:=fpA,mu0:=μ0,k0:=(adEL xs).length,nt:=N,cold0:=fun b hb=>⟨hM b hb,fun h=>hAm b h hb⟩,own0:=hlt,top0:=fun _ h=>h,base0:=hbase,inv0:=hI,invM:=hIM }
 have hhot:∀ b,hot c.M0 (Hof (adEL xs)) μ0 b->M b\/b∈yx xs vs:=by
  rintro b (hb|⟨id,cap,e,hm,he,hl⟩)
  ·exact .inl hb
  ·right
   simp only[μ0]at hm
   cases hls:ls[id]? with
   | none=>simp[hls]at hm
   | some p=>
    obtain⟨L,fq⟩:=p;simp only[hls,Option.map_some,Option.some.injEq]at hm;subst hm;simp only[Hof,yfb]at he;exact(hAd.ok id e _ fq he hls).2 b cap rfl
 have hR0:RepL w (fun b=>M b\/b∈yx xs vs) (adRL 0 xs) μ0 vs []:=hAdR 0 μ0 (fun j L fq hj=>by simp only[μ0,Nat.zero_add,hj];rfl);have hA':RepL w (hot c.M0 (Hof (adEL xs)) μ0) (adRL 0 xs) μ0 vs []:=yuc hhot hR0;have hvl:=hA.length;have hal:(adRL 0 xs).length=xs.length:=by rw[<- hA'.length,hvl]
 refine calls_of_wp hf hb ?_;refine wp_mono ((h c (fun _ h=>h) (RepL.lens xs hA) rfl rfl).run _ _ ⟨μ0,FP0,⟨⟨rfl,rfl,rfl,Nat.le_refl _,fun _ _ _=>rfl⟩,Map.le_refl _,?_,?_,?_,?_,?_,?_⟩,?_,?_,?_,rfl⟩) ?_
 ·intro id L hm
  simp only[μ0]at hm
  cases hls:ls[id]? with
  | none=>simp[hls]at hm
  | some p=>
   obtain⟨L',fq⟩:=p;simp only[hls,Option.map_some,Option.some.injEq]at hm;subst hm;have hid:id<(adEL xs).length:=by rw[<- hAd.len];exact(List.getElem?_eq_some_iff.1 hls).1
   refine⟨_,by simp only[Hof,yfb];exact List.getElem?_eq_getElem hid,?_⟩;have hok:=(hAd.ok id _ _ fq (List.getElem?_eq_getElem hid) hls).1 μ0;simp only[FP0,hls,Option.map_some,Option.getD_some];exact yhb.mono (Map.le_refl _) ⟨Nat.le_refl _,fun b _ hb hh=>hb (hhot b hh),fun _ _ _=>rfl⟩ (fun b hb=>hlt b (hfpA _ _ _ hls b hb)) hok
 ·intro id hm
  simp only[μ0]at hm;simp only[FP0]
  cases hls:ls[id]? with
  | none=>rfl
  | some p=>simp[hls]at hm
 ·intro id
  simp only[FP0]
  cases hls:ls[id]? with
  | none=>simp
  | some p=>obtain⟨L,fq⟩:=p;exact hlsn.1 id L fq hls
 ·intro i j hij b hbi hbj
  simp only[FP0]at hbi hbj
  cases hli:ls[i]? with
  | none=>simp[hli]at hbi
  | some p=>
   cases hlj:ls[j]? with
   | none=>simp[hlj]at hbj
   | some q=>
    obtain⟨L1,f1⟩:=p;obtain⟨L2,f2⟩:=q;simp only[hli,hlj,Option.map_some,Option.getD_some]at hbi hbj;exact hlsn.2 i j L1 f1 L2 f2 hij hli hlj b hbi hbj
 ·intro i b hb
  simp only[FP0]at hb
  cases hls:ls[i]? with
  | none=>simp[hls]at hb
  | some p=>
   obtain⟨L,fq⟩:=p;simp only[hls,Option.map_some,Option.getD_some]at hb;exact⟨.inl (hfpA _ _ _ hls b hb),hlt b (hfpA _ _ _ hls b hb)⟩
 ·intro id b cap e hm he hl
  left
  refine htf b ?_;simp only[μ0]at hm
  cases hls:ls[id]? with
  | none=>simp[hls]at hm
  | some p=>
   obtain⟨L,fq⟩:=p;simp only[hls,Option.map_some,Option.some.injEq]at hm;subst hm;simp only[Hof,yfb]at he;exact(hAd.ok id e _ fq he hls).2 b cap rfl
 ·intro j hj
  simp only[μ0];rw[List.getElem?_eq_none (by rw[hAd.len];exact hj)];rfl
 ·intro i
  have:=yce (k:=0) (i:=i) (rest:=(Array.replicate (fn.ntmps-vs.toArray.size) undef).toList) hA' (Nat.zero_le _)
  have e:(vs.toArray++Array.replicate (fn.ntmps-vs.toArray.size) undef).getD i undef=(((vs++(Array.replicate (fn.ntmps-vs.toArray.size) undef).toList)[i-0]?).getD undef):=by
   rw[Array.getD_eq_getD_getElem?, <- Array.getElem?_toList];simp
  rw[e];exact this
 ·simp only[Array.size_append,List.size_toArray,Array.size_replicate]
  show vs.length+(fn.ntmps-vs.length)=N;omega
 ·intro e a w' hp
  have main:∀ s',EndsM Γ rs (posL gb (adRL 0 xs)) r outs s'->WRs c s' a w'->bodyPost P fn (fun e w'=>∃ v fpR fpO,e=.returned v/\Keep w fpA w'/\Rep w' (fun b=>M b\/b∈fpR++fpO) r noMap v fpR /\
    RepL w' (fun b=>M b\/b∈fpR++fpO) outs noMap vs fpO/\(fpR++fpO).Nodup/\(∀ b,b∈fpR++fpO->(b∈fpA\/w.heap.size<=b)/\b<w'.heap.size)) .ret a w':=by
   intro s' hE hs';simp only[EndsM]at hE;split at hE
   ·rename_i xs0 o1 hres0
    split at hE
    ·rename_i ys h' ob habs
     split at hE
     ·rename_i zs h'' ob2 hback
      obtain⟨ho1,ho,ho2,hnb,hpack,hsim⟩:=hE;obtain⟨μ,FP,hW,htl,h1,h2,h3⟩:=hs'
      have hmap:∃ us,(fn.results.toList.mapM (fun|.tmp t=>pure (a.tmps.getD t undef)|.cell b t=>do loadVar t (<- asAddr (a.tmps.getD b undef)):ResultVar->Sem Value)).run P w'=.ok us w'/\RepL w' (hot c.M0 (Hof s'.h) μ) xs0 μ us []:=by
       rw[hr];exact y5f hΓ hW a.tmps h1 (fun _=>rfl) (fun _ _=>rfl) hres0 ho1
      obtain⟨us,hrun,hres⟩:=hmap;obtain⟨K1,fp1,hr1,hgone1,hown1⟩:=ymd hW (fun _ _ he _=>he) hres habs ho;have htops1:=yod (fun _ _ he _=>he) hres habs;have hpos:RepL w' (hot c.M0 (Hof s'.h) μ) (posL gb (adRL 0 xs)) μ vs []:=yui hW.base hR0;obtain⟨K2,fp2,hr2,hgone2,hown2,htops2⟩:=ygg hW (fun id e he hl=>hgone1.sub id e he hl) hpos hback ho2;have hown:=Owns.app hW hgone1 hgone2 hown1 hown2
      have hnew:∀ b,b∈fp1++fp2->(b∈fpA\/w.heap.size<=b)/\b<w'.heap.size:=by
       intro b hb;obtain⟨id,_,hid⟩:=hown.2 b hb;exact hW.new id b hid
      let v0:Value:=if h:us.toArray.size=1 then us.toArray[0]else .tuple us.toArray
      have hYZ:RepL w' (fun b=>M b\/b∈fp1++fp2) ys noMap us fp1/\RepL w' (fun b=>M b\/b∈fp1++fp2) zs noMap vs fp2:=by
       rcases hnb with⟨hnb1,hnb2⟩|⟨hf1,hf2⟩
       ·exact⟨RepL.noBor ys hnb1 hr1,RepL.noBor zs hnb2 hr2⟩
       ·have hcold:∀ b,b<w'.heap.size->¬ hot c.M0 (Hof s'.h) μ b->¬ (M b\/b∈fp1++fp2):=by
         rintro b _ hn (hm|hm)
         ·exact hn (.inl hm)
         ·rcases List.mem_append.1 hm with hm|hm
          ·exact hn (htops1 b (FlatOL.tops ys hf1 hr1 b hm))
          ·exact hn (htops2 b (FlatOL.tops zs hf2 hr2 b hm))
        exact⟨RepL.mono ys (Map.le_refl _) ⟨Nat.le_refl _,hcold,fun _ _ _=>rfl⟩ hr1,RepL.mono zs (Map.le_refl _) ⟨Nat.le_refl _,hcold,fun _ _ _=>rfl⟩ hr2⟩
      have hrp1:Rep w' (fun b=>M b\/b∈fp1++fp2) (packA ys) noMap v0 fp1:=ydf hYZ.1;refine⟨h3,v0,?_,v0,fp1,fp2,rfl,hW.keep,?_,?_,hown.1,hnew⟩
      ·unfold results
       rw[Sem.run_bind, <- Array.toArray_toList (xs:=fn.results),List.mapM_toArray];simp only[Sem.run_map];erw [hrun]
       rfl
      ·exact y9c _ _ hpack hrp1
      ·exact yvb _ _ hsim hYZ.2
     ·exact hE.elim
    ·exact hE.elim
   ·exact hE.elim
  cases e with
  | normal=>obtain⟨s',h1,h2⟩:=hp;exact main s' h1 h2
  | ret=>obtain⟨s',h1,h2⟩:=hp;exact main s' h1 h2
  | exit id=>obtain⟨s',h1,h2⟩:=hp;exact h1.elim
  | _=>exact hp.elim
end
end Go.Ab
namespace Go.Ab
open Go
variable [Inv]
def lit0 (c : Ctx) : AV -> Prop
 | .lit u y=>Rep c.w0 (fun b=>c.M0 b\/b∈c.F0) y noMap u []
 | x=>NoBor x
def yvf (c : Ctx) : List AV -> Prop
 | []=>True
 | x::xs=>lit0 c x/\yvf c xs
def y2g (c : Ctx) : AV -> Prop
 | .lit u y=>Rep c.w0 (fun b=>c.M0 b\/b∈c.F0) y noMap u []
 | .agg cs=>yvf c cs
 | x=>NoBor x
def robT (c : Ctx) : List (Nat × AV) -> Prop
 | []=>True
 | p::t=>y2g c p.2/\robT c t
def robE (c : Ctx) : Ent -> Prop
 | .box cs=>yvf c cs
 | .arr _ _ n f=>∀ i,i<n->NoBorL (f i)
 | _=>True
def robH (c : Ctx) : List Ent -> Prop
 | []=>True
 | e::h=>robE c e/\robH c h
structure Rob (c:Ctx) (s:St):Prop where
 deep:∀ b,b∈c.F0->b∈c.T0
 tm:robT c s.t
 hp:robH c s.h
section
variable {c:Ctx} {H:Hp} {μ:Map} {FP:Nat->List Nat} {w:World}
theorem y2m {c : Ctx} : ∀ {t : List (Nat × AV)} (i : Nat), robT c t -> y2g c (get t i)
 | [],i,_=>by simp[get,y2g,NoBor]
 | (j,x)::t,i,h=>by
  simp only[robT]at h;simp only[get]
  cases Nat.beq i j with
  | true=>exact h.1
  | false=>exact y2m i h.2
theorem y4i : ∀ {h : List Ent} {id : Nat} {e : Ent}, robH c h -> nthE h id = some e -> robE c e
 | [],_,_,_,he=>by simp[nthE]at he
 | x::h,0,e,hr,he=>by
  simp only[nthE,Option.some.injEq]at he;subst he;exact hr.1
 | x::h,id+1,e,hr,he=>y4i hr.2 (by simpa [nthE]using he)
theorem ysq (hk:Keep c.w0 c.T0 w) (ht:∀ id b cap e,μ id=some (.blk b cap)->H id=some e->e.live=true->b∈c.T0\/c.w0.heap.size<=b) {y:AV} {u:Value} (h:Rep c.w0 (fun b=>c.M0 b\/b∈c.F0) y noMap u []):Rep w (hot c.M0 H μ) y noMap u []:=by
 refine Rep.mono y (Map.le_refl _) ⟨hk.size,?_,?_⟩ h
 ·rintro b hb hn (h1|⟨id,cap,e,hm,he,hl⟩)
  ·exact hn (.inl h1)
  ·rcases ht id b cap e hm he hl with h2|h2
   ·exact hn (.inr (c.top0 b h2))
   ·omega
 ·intro b hb hn
  refine hk.block b hb fun ht => ?_
  rcases hn with hn|hn
  ·exact hn (.inr (c.top0 b ht))
  ·simp at hn
theorem WR.old (hW:WR c H μ FP w) {y:AV} {u:Value} (h:Rep c.w0 (fun b=>c.M0 b\/b∈c.F0) y noMap u []):Rep w (hot c.M0 H μ) y noMap u []:=ysq hW.keep hW.top h
theorem ysi {c:Ctx} {w w':World} {M M':Nat->Prop} {μ μ':Map} (hnb:∀ y v,NoBor y->Rep w M y μ v []->Rep w' M' y μ' v []) (hlit:∀ y u,Rep c.w0 (fun b=>c.M0 b\/b∈c.F0) y noMap u []->Rep w' M' y noMap u []) :
  ∀ {cs:List AV} {us:List Value},yvf c cs->RepL w M cs μ us []->RepL w' M' cs μ' us []
 | [],us,_,h=>by simpa only[RepL]using h
 | x::cs,us,hl,h=>by
  simp only[RepL]at h ⊢;obtain⟨u,us',f1,f2,rfl,e,h1,h2⟩:=h;obtain⟨rfl,rfl⟩:=List.append_eq_nil_iff.1 e.symm;refine⟨u,us',[],[],rfl,rfl,?_,ysi hnb hlit hl.2 h2⟩;have hx:=hl.1
  cases x with
  | lit u0 y=>
   simp only[lit0]at hx;simp only[Rep]at h1 ⊢;obtain⟨_,rfl,_⟩:=h1;exact⟨trivial,rfl,hlit y u hx⟩
  | _=>exact hnb _ _ hx h1
theorem y2g.rep (hW:WR c H μ FP w) {x:AV} {v:Value} (hl:y2g c x) {M:Nat->Prop} {μ0:Map} (hle:μ0.le μ) (h:Rep w M x μ0 v []):Rep w (hot c.M0 H μ) x μ v []:=by
 have hnb:∀ y v,NoBor y->Rep w M y μ0 v []->Rep w (hot c.M0 H μ) y μ v []:=fun y v hy h=>Rep.mono y hle ⟨Nat.le_refl _,fun _ _ h=>h,fun _ _ _=>rfl⟩ (Rep.noBor y hy h)
 cases x with
 | lit u y=>
  simp only[y2g]at hl;simp only[Rep]at h ⊢;obtain⟨_,rfl,_⟩:=h;exact⟨trivial,rfl,hW.old hl⟩
 | agg cs=>
  simp only[y2g]at hl;simp only[Rep]at h ⊢;obtain⟨us,e,h⟩:=h;exact⟨us,e,ysi hnb (fun y u h=>hW.old h) hl h⟩
 | _=>exact hnb _ _ hl h
theorem yhb.robA {c:Ctx} {w:World} {M M':Nat->Prop} {μ:Map} {e:Ent} {L:Loc} {fp:List Nat} (hr:robE c e) (hb:∀ cs,e≠.box cs) (h:yhb w M μ e L fp):yhb w M' μ e L fp:=by
 cases e with
 | dead=>exact h
 | it l p m=>exact h
 | box cs=>exact absurd rfl (hb cs)
 | arr T e n f=>
  cases L with
  | nil=>exact h
  | blk b cap=>
   obtain⟨cur,us,fps,hh,h1,h2,h3,hc,rfl⟩:=h;exact⟨cur,us,fps,hh,h1,h2,h3,fun i hi=>⟨RepL.noBor (f i) (hr i hi) (hc i hi).1,(hc i hi).2⟩,rfl⟩
theorem yhb.rob {c : Ctx} {w w' : World} {M M' : Nat -> Prop} {μ μ' : Map} {e : Ent} {L : Loc} {fp : List Nat} (hr : robE c e) (hle : μ.le μ') (hsz : w.heap.size <= w'.heap.size) (hlt : ∀ b, b ∈ fp -> b < w.heap.size) (hblk : ∀ b, b ∈ fp -> w'.heap[b]? = w.heap[b]?)
  (hlit:∀ y u,Rep c.w0 (fun b=>c.M0 b\/b∈c.F0) y noMap u []->Rep w' M' y noMap u []) (h:yhb w M μ e L fp):yhb w' M' μ' e L fp:=by
 by_cases hbx:∃ cs,e=.box cs
 ·obtain⟨cs,rfl⟩:=hbx
  obtain⟨b,cap,us,T,rfl,rfl,hh,h1,h2⟩:=h;refine⟨b,cap,us,T,rfl,rfl,(hblk b (by simp)).trans hh,h1,ysi (fun y v hy h => ?_) hlit hr h2⟩;exact Rep.noBor y hy (Rep.mono (M:=fun _=>True) (M':=fun _=>True) y hle ⟨hsz,fun _ _ h=>h,fun b _ hh=>by rcases hh with hh|hh;exact absurd trivial hh;simp at hh⟩ (Rep.noBor y hy h))
 ·have hb:∀ cs,e≠.box cs:=fun cs he=>hbx ⟨cs,he⟩
  refine yhb.robA hr hb (yhb.mono (M:=fun _=>True) (M':=fun _=>True) hle ⟨hsz,fun _ _ h=>h,fun b _ hh => ?_⟩ hlt (yhb.robA hr hb h));rcases hh with hh|hh
  ·exact absurd trivial hh
  ·exact hblk b hh
theorem yaz {M M' : Nat -> Prop} {μ' : Map} : ∀ {cs : List AV} {us : List Value} {fp : List Nat}, (∀ y, y ∈ cs -> ∀ u f, Rep w M y μ u f -> Rep w M' y μ' u f) -> RepL w M cs μ us fp -> RepL w M' cs μ' us fp
 | [],us,fp,_,h=>by simpa only[RepL]using h
 | y::cs,us,fp,ht,h=>by
  simp only[RepL]at h ⊢;obtain⟨u,us',f1,f2,rfl,rfl,h1,h2⟩:=h;exact⟨u,us',f1,f2,rfl,rfl,ht y (by simp) _ _ h1,yaz (fun z hz=>ht z (by simp[hz])) h2⟩
theorem NoBorL.mem : ∀ {cs : List AV} {y : AV}, NoBorL cs -> y ∈ cs -> NoBor y
 | [],_,_,h=>by simp at h
 | x::cs,y,hn,h=>by
  rcases List.mem_cons.1 h with rfl|h
  ·exact hn.1
  ·exact NoBorL.mem hn.2 h
theorem ykk {M:Nat->Prop}:∀ {o:Nat} {cs:List AV} {us:List Value} {fp:List Nat} {x:AV} {rest:List AV},RepL w M cs μ us fp->dropL o cs=x::rest ->
  ∃ fa fx fb u,fp=fa++fx++fb/\Rep w M x μ u fx/\∀ (M':Nat->Prop) (μ':Map),(∀ y,y∈cs->∀ u f,Rep w M y μ u f->Rep w M' y μ' u f)->∀ x' fx',Rep w M' x' μ' u fx'->RepL w M' (putL o [x'] cs) μ' us (fa++fx'++fb)
 | 0,[],us,fp,x,rest,h,hd=>by simp[dropL]at hd
 | 0,y::cs,us,fp,x,rest,h,hd=>by
  simp only[dropL,List.cons.injEq]at hd;obtain⟨rfl,rfl⟩:=hd;simp only[RepL]at h;obtain⟨u,us',f1,f2,rfl,rfl,h1,h2⟩:=h;refine⟨[],f1,f2,u,by simp,h1,fun M' μ' ht x' fx' hx => ?_⟩;have:putL 0 [x'] (y::cs)=x'::cs:=by cases cs<;>simp[putL]
  rw[this];simp only[RepL];exact⟨u,us',fx',f2,rfl,by simp,hx,yaz (fun z hz=>ht z (by simp[hz])) h2⟩
 | o+1,[],us,fp,x,rest,h,hd=>by simp[dropL]at hd
 | o+1,y::cs,us,fp,x,rest,h,hd=>by
  simp only[dropL]at hd;simp only[RepL]at h;obtain⟨u,us',f1,f2,rfl,rfl,h1,h2⟩:=h;obtain⟨fa,fx,fb,u2,rfl,h3,h4⟩:=ykk h2 hd;refine⟨f1++fa,fx,fb,u2,by simp,h3,fun M' μ' ht x' fx' hx => ?_⟩;simp only[putL,RepL];exact⟨u,us',f1,_,rfl,by simp,ht y (by simp) _ _ h1,h4 M' μ' (fun z hz=>ht z (by simp[hz])) x' fx' hx⟩
theorem yjg (fps fps' : Nat -> List Nat) (i : Nat) (fx : List Nat) (h1 : ∀ j, j ≠ i -> fps' j = fps j) (h2 : ((fps' i)).Perm (fx ++ fps i)) : ∀ n, i < n -> ((List.range n).flatMap fps').Perm (fx ++ (List.range n).flatMap fps)
 | 0,h=>by omega
 | n+1,h=>by
  rw[List.range_succ,List.flatMap_append,List.flatMap_append,List.flatMap_singleton,List.flatMap_singleton];by_cases hin:i<n
  ·rw[h1 n (by omega), <- List.append_assoc]
   exact(yjg fps fps' i fx h1 h2 n hin).append_right _
  ·have hn:i=n:=by omega
   subst hn
   have:(List.range i).flatMap fps'=(List.range i).flatMap fps:=by
    rw[List.flatMap_def,List.flatMap_def];congr 1
    exact List.map_congr_left fun j hj=>h1 j (by have:=List.mem_range.1 hj;omega)
   rw[this];refine(List.Perm.append_left _ h2).trans ?_;rw[<- List.append_assoc, <- List.append_assoc];exact List.perm_append_comm.append_right _
theorem NoBorL.put {x : AV} (hx : NoBor x) : ∀ {o : Nat} {cs : List AV}, NoBorL cs -> NoBorL (putL o [x] cs)
 | 0,[],h=>by simp[putL,NoBorL]
 | 0,y::cs,h=>by
  have:putL 0 [x] (y::cs)=x::cs:=by cases cs<;>simp[putL]
  rw[this];exact⟨hx,h.2⟩
 | o+1,[],h=>by simp[putL,NoBorL]
 | o+1,y::cs,h=>by
  simp only[putL,NoBorL]at h ⊢;exact⟨h.1,NoBorL.put hx h.2⟩
end
end Go.Ab
namespace Go.Ab
open Go
variable [Inv]
section
variable {P:Program} {c:Ctx} {s:St} {a:Act} {w:World} {N:St->Prop} {E:Nat->St->Prop} {R:St->Prop}
theorem WRs.openE (hs : WRs c s a w) (hr : Rob c s) (q id i o : Nat) {e1 off1 m1 : Nat} {T : TypeId} {e n : Nat} {f : Nat -> List AV} {T' : TypeId} {e' n' : Nat} {g : Nat -> List AV} {rest : List AV}
  (hq:get s.t q=.ref id e1 off1 m1) (hid:nthE s.h id=some (.arr T e n f)) (hi:i<n) (hx:dropL o (f i)=.sl (some T') e' n' g::rest) :
  WRs c ⟨s.t,setE s.h id (.arr T e n (fun j=>bif Nat.beq j i then putL o [.ref s.h.length e' 0 n'] (f j)else f j))++[.arr T' e' n' g]⟩ a w:=by
 obtain⟨μ,FP,hW,htl,h1,h2,h3⟩:=hs;have hlt:=ysb hid
 -- the entry has a block
 have hm:∃ b cap,μ id=some (.blk b cap):=by
  have hv:=h1 q;rw[hq]at hv;simp only[Rep]at hv
  cases hmu:μ id with
  | none=>simp[hmu]at hv
  | some L=>
   cases L with
   | nil=>
    obtain⟨e0,he0,hok⟩:=hW.ent id _ hmu;rw[show Hof s.h id=nthE s.h id from rfl,hid]at he0;cases he0
    obtain⟨hn,_⟩:=hok;omega
   | blk b cap=>exact⟨b,cap,rfl⟩
 obtain⟨b,cap,hm⟩:=hm;obtain⟨e0,he0,hok⟩:=hW.ent id _ hm;rw[show Hof s.h id=nthE s.h id from rfl,hid]at he0;cases he0
 obtain⟨cur,us,fps,hh,hsz,hcap,hml,hcl,hF⟩:=hok;obtain⟨c1,c2,c3⟩:=hcl i hi;obtain⟨fa,fx,fb,u,hfp,hrx,hput⟩:=ykk c1 hx;have hrob:=y4i hr.hp hid
 -- the new entry
 generalize hnew:setE s.h id (.arr T e n (fun j=>bif Nat.beq j i then putL o [.ref s.h.length e' 0 n'] (f j)else f j))++[.arr T' e' n' g]=h';have hlen:(setE s.h id (.arr T e n (fun j=>bif Nat.beq j i then putL o [.ref s.h.length e' 0 n'] (f j)else f j))).length=s.h.length:=yr _ _ _
 have hH1:nthE h' s.h.length=some (.arr T' e' n' g):=by
  rw[<- hnew,ykb,if_pos hlen.symm]
 have hH2:nthE h' id=some (.arr T e n (fun j=>bif Nat.beq j i then putL o [.ref s.h.length e' 0 n'] (f j)else f j)):=by
  rw[<- hnew,ykb,if_neg (by omega),yq,if_pos ⟨rfl,hlt⟩]
 have hH3:∀ k,k≠id->k≠s.h.length->nthE h' k=nthE s.h k:=by
  intro k hk1 hk2;rw[<- hnew,ykb,if_neg (by omega),yq,if_neg (fun h=>hk1 h.1)]
 -- where the new entry lies
 have hL:∃ L,(∀ M:Nat->Prop,∀ μ':Map,yhb w M μ' (.arr T' e' n' g) L fx)/\(∀ (M:Nat->Prop) (μ':Map),μ' s.h.length=some L->Rep w M (.ref s.h.length e' 0 n') μ' u [])/\(∀ b' cap',L=.blk b' cap'->b'∈fx):=by
  have hnb:NoBor (.sl (some T') e' n' g):=by
   have:∀ {o:Nat} {cs:List AV},NoBorL cs->dropL o cs=.sl (some T') e' n' g::rest->NoBor (.sl (some T') e' n' g):=by
    intro o
    induction o with
    | zero=>intro cs h hd;simp only[dropL]at hd;rw[hd]at h;exact h.1
    | succ o ih=>
     intro cs h hd
     cases cs with
     | nil=>simp[dropL]at hd
     | cons y cs=>exact ih h.2 (by simpa only[dropL]using hd)
   exact this (hrob i hi) hx
  have hrx2:=hrx;simp only[Rep]at hrx2;rcases hrx2 with⟨rfl,hev,rfl⟩|⟨b',o',cap',us',fps',rfl,hn',hb',hc',rfl,rfl,cur',hcur',hsz',hcm'⟩
  ·simp only[emptyV]at hev
   refine⟨.nil,fun M μ'=>⟨rfl,rfl⟩,fun M μ' hl => ?_,by intro _ _ h;cases h⟩;simp[Rep,hl,hev]
  ·refine⟨.blk b' cap',fun M μ'=>⟨cur',us',fps',hcur',hsz',hn'.1,hcm',fun k hk => ?_,rfl⟩,fun M μ' hl => ?_,fun b2 cap2 h=>by cases h;simp⟩
   ·obtain⟨d1,d2,d3⟩:=hc' k hk
    refine⟨RepL.mono (g k) (yef μ') ⟨Nat.le_refl _,fun _ _ h=>h,fun _ _ _=>rfl⟩ (RepL.noBor (M':=M) (g k) ?_ d1),d2,by simpa using d3⟩;simp only[NoBor]at hnb;exact hnb k hk
   ·simp only[Rep,hl]
    exact⟨trivial,by omega,0,by simp,.inr (by simp)⟩
 obtain⟨L,hLok,hLref,hLblk⟩:=hL;let μ':Map:=fun k=>if k=s.h.length then some L else μ k
 have hnone:μ s.h.length=none:=htl _ (Nat.le_refl _)
 have hle:μ.le μ':=fun k L' hk=>by
  simp only[μ'];rw[if_neg (fun e=>by rw[e,hnone]at hk;cases hk)];exact hk
 have hμ1:μ' s.h.length=some L:=by simp[μ']
 have hμ2:∀ k,k≠s.h.length->μ' k=μ k:=fun k hk=>by simp[μ',hk]
 let fps2:Nat->List Nat:=fun j=>if j=i then fa++fb else fps j
 let FP':Nat->List Nat:=fun k=>if k=s.h.length then fx else if k=id then b::(List.range n).flatMap fps2 else FP k
 have hFP1:FP' s.h.length=fx:=by simp[FP']
 have hFP2:FP' id=b::(List.range n).flatMap fps2:=by
  show(if id=s.h.length then fx else if id=id then _ else _)=_;rw[if_neg (by omega),if_pos rfl]
 have hFP3:∀ k,k≠id->k≠s.h.length->FP' k=FP k:=fun k h1 h2=>by simp[FP',h1,h2]
 have hperm:(FP id).Perm (fx++FP' id):=by
  rw[hF,hFP2]
  have:=yjg fps2 fps i fx (fun j hj=>by simp[fps2,hj]) (by
   simp only[fps2,if_pos];rw[hfp,List.append_assoc];refine(List.perm_append_comm (l₁:=fa) (l₂:=fx++fb)).trans ?_;rw[List.append_assoc]
   exact List.Perm.append_left _ List.perm_append_comm) n hi
  exact(List.Perm.cons b this).trans (List.perm_middle.symm)
 have hmem:∀ x,x∈FP id↔x∈fx\/x∈FP' id:=fun x=>by rw[hperm.mem_iff,List.mem_append]
 have hnd:(fx++FP' id).Nodup:=hperm.nodup_iff.1 (hW.nodup id);have hndA:=List.nodup_append.1 hnd;have hdj0:∀ x,x∈fx->x∉FP' id:=fun x hx1 hx2=>hndA.2.2 x hx1 x hx2 rfl
 have hout0:FP s.h.length=[]:=hW.out _ hnone
 have hsub:∀ k x,k≠s.h.length->x∈FP' k->x∈FP k:=by
  intro k x hk hx;by_cases hki:k=id
  ·subst hki;exact(hmem x).2 (.inr hx)
  ·rwa [hFP3 k hki hk]at hx
 have htop:∀ id b cap e,μ' id=some (.blk b cap)->Hof h' id=some e->e.live=true->b∈c.T0\/c.w0.heap.size<=b:=by
  intro k b' cap' e2 hk he hl;by_cases hk1:k=s.h.length
  ·subst hk1
   rw[hμ1]at hk;have hb:=hLblk b' cap' (Option.some.inj hk);rcases(hW.new id b' ((hmem b').2 (.inl hb))).1 with h4|h4
   ·exact .inl (hr.deep b' h4)
   ·exact .inr h4
  ·rw[hμ2 k hk1]at hk
   by_cases hk2:k=id
   ·subst hk2;exact hW.top k b' cap' _ hk hid rfl
   ·rw[show Hof h' k=nthE h' k from rfl,hH3 k hk2 hk1]at he
    exact hW.top k b' cap' e2 hk he hl
 have hWn:WR c (Hof h') μ' FP' w:=by
  refine⟨hW.keep,hW.base.trans hle,?_,?_,?_,?_,?_,?_⟩
  ·intro k L' hk
   by_cases hk1:k=s.h.length
   ·subst hk1
    rw[hμ1]at hk;cases hk;exact⟨_,hH1,by rw[hFP1];exact hLok _ _⟩
   ·rw[hμ2 k hk1]at hk
    by_cases hk2:k=id
    ·subst hk2
     rw[hm]at hk;cases hk;refine⟨_,hH2,?_⟩;rw[hFP2];refine⟨cur,us,fps2,hh,hsz,hcap,hml,fun j hj => ?_,rfl⟩;obtain⟨d1,d2,d3⟩:=hcl j hj;refine⟨?_,d2,d3⟩
     cases hb:Nat.beq j i with
     | true=>
      have hji:=Nat.eq_of_beq_eq_true hb;subst hji;simp only[cond_true,fps2,if_pos];have:=hput (hot c.M0 (Hof h') μ') μ' (fun y hy u f hu=>Rep.noBor y (NoBorL.mem (hrob j hj) hy) (Rep.mono y hle ⟨Nat.le_refl _,fun _ _ h=>h,fun _ _ _=>rfl⟩ hu)) (.ref s.h.length e' 0 n') [] (hLref _ _ hμ1);simpa using this
     | false=>
      have hji:j≠i:=fun e=>by subst e;simp at hb
      simp only[hb,cond_false,fps2,if_neg hji];exact RepL.noBor (f j) (hrob j hj) (RepL.mono (f j) hle ⟨Nat.le_refl _,fun _ _ h=>h,fun _ _ _=>rfl⟩ d1)
    ·obtain⟨e2,he2,hok2⟩:=hW.ent k _ hk
     refine⟨e2,by rw[show Hof h' k=nthE h' k from rfl,hH3 k hk2 hk1];exact he2,?_⟩;rw[hFP3 k hk2 hk1];have hre:=y4i hr.hp he2;exact yhb.rob hre hle (Nat.le_refl _) (fun x hx=>(hW.new k x hx).2) (fun _ _=>rfl) (fun y u h=>ysq hW.keep htop h) hok2
  ·intro k hk
   by_cases hk1:k=s.h.length
   ·subst hk1;rw[hμ1]at hk;cases hk
   ·rw[hμ2 k hk1]at hk
    rw[hFP3 k (fun e=>by rw[e,hm]at hk;cases hk) hk1];exact hW.out k hk
  ·intro k
   by_cases hk1:k=s.h.length
   ·subst hk1;rw[hFP1];exact hndA.1
   ·by_cases hk2:k=id
    ·subst hk2;exact hndA.2.1
    ·rw[hFP3 k hk2 hk1];exact hW.nodup k
  ·intro k l hkl x hxk hxl
   by_cases hk1:k=s.h.length
   ·subst hk1
    rw[hFP1]at hxk;by_cases hl2:l=id
    ·subst hl2;exact hdj0 x hxk hxl
    ·rw[hFP3 l hl2 (fun e=>hkl e.symm)]at hxl
     exact hW.disj id l (fun e=>hl2 e.symm) x ((hmem x).2 (.inl hxk)) hxl
   ·by_cases hl1:l=s.h.length
    ·subst hl1
     rw[hFP1]at hxl;by_cases hk2:k=id
     ·subst hk2;exact hdj0 x hxl hxk
     ·rw[hFP3 k hk2 hk1]at hxk
      exact hW.disj id k (fun e=>hk2 e.symm) x ((hmem x).2 (.inl hxl)) hxk
    ·exact hW.disj k l hkl x (hsub k x hk1 hxk) (hsub l x hl1 hxl)
  ·intro k x hx
   by_cases hk1:k=s.h.length
   ·subst hk1
    rw[hFP1]at hx;exact hW.new id x ((hmem x).2 (.inl hx))
   ·exact hW.new k x (hsub k x hk1 hx)
  ·exact htop
 refine⟨μ',FP',hWn,?_,?_,h2,h3⟩
 ·intro k hk
  have hl2:h'.length=s.h.length+1:=by rw[<- hnew];simp[hlen]
  simp only at hk;rw[hμ2 k (by omega)];exact htl k (by omega)
 ·intro k
  exact y2g.rep hWn (y2m k hr.tm) hle (h1 k)
end
end Go.Ab
namespace Go.Ab
open Go
variable [Inv]
section
variable {P:Program} {c:Ctx} {s:St} {a:Act} {w:World} {N:St->Prop} {E:Nat->St->Prop} {R:St->Prop}
theorem WRs.closeE (hs : WRs c s a w) (q id i o id' : Nat) {e1 off1 m1 : Nat} {T : TypeId} {e n : Nat} {f : Nat -> List AV} {T' : TypeId} {e' n' : Nat} {g : Nat -> List AV} {rest : List AV}
  (hq:get s.t q=.ref id e1 off1 m1) (hid:nthE s.h id=some (.arr T e n f)) (hid':nthE s.h id'=some (.arr T' e' n' g)) (hne:id≠id') (hi:i<n) (hx:dropL o (f i)=.ref id' e' 0 n'::rest)
  (hp:∀ k,k<n'->pureL (g k)=true) :
  WRs c ⟨s.t,setE (setE s.h id (.arr T e n (fun j=>bif Nat.beq j i then putL o [.sl (some T') e' n' g] (f j)else f j))) id' .dead⟩ a w:=by
 obtain⟨μ,FP,hW,htl,h1,h2,h3⟩:=hs;have hlt:=ysb hid;have hlt':=ysb hid'
 have hm:∃ b cap,μ id=some (.blk b cap):=by
  have hv:=h1 q;rw[hq]at hv;simp only[Rep]at hv
  cases hmu:μ id with
  | none=>simp[hmu]at hv
  | some L=>
   cases L with
   | nil=>
    obtain⟨e0,he0,hok⟩:=hW.ent id _ hmu;rw[show Hof s.h id=nthE s.h id from rfl,hid]at he0;cases he0
    obtain⟨hn,_⟩:=hok;omega
   | blk b cap=>exact⟨b,cap,rfl⟩
 obtain⟨b,cap,hm⟩:=hm;obtain⟨e0,he0,hok⟩:=hW.ent id _ hm;rw[show Hof s.h id=nthE s.h id from rfl,hid]at he0;cases he0
 obtain⟨cur,us,fps,hh,hsz,hcap,hml,hcl,hF⟩:=hok;obtain⟨c1,c2,c3⟩:=hcl i hi;obtain⟨fa,fx,fb,u,hfp,hrx,hput⟩:=ykk c1 hx
 -- what the entry reads az
 have hfx:fx=[]:=by simp only[Rep]at hrx;exact hrx.1
 subst hfx
 have hown:∀ M:Nat->Prop,(∀ x,M x->hot c.M0 (Hof s.h) μ x)->∀ μ':Map,Rep w M (.sl (some T') e' n' g) μ' u (FP id'):=by
  intro M hM μ';have hsm:∀ fq,Same w (hot c.M0 (Hof s.h) μ) w M fq:=fun fq=>⟨Nat.le_refl _,fun b _ hb hh=>hb (hM b hh),fun _ _ _=>rfl⟩
  simp only[Rep]at hrx;obtain⟨_,hrx⟩:=hrx
  cases hmu:μ id' with
  | none=>simp[hmu]at hrx
  | some L=>
   obtain⟨e2,he2,hok2⟩:=hW.ent id' _ hmu;rw[show Hof s.h id'=nthE s.h id' from rfl,hid']at he2;cases he2
   cases L with
   | nil=>
    simp only[hmu]at hrx;obtain⟨_,rfl,rfl⟩:=hrx;obtain⟨_,hfp2⟩:=hok2;simp only[Rep];exact .inl ⟨trivial,emptyV.nil _,hfp2⟩
   | blk b' cap'=>
    simp only[hmu]at hrx;obtain⟨hcap',o',rfl,hoo⟩:=hrx;obtain⟨cur',us',fps',hh',hsz',hcap2,hml',hcl',hF'⟩:=hok2
    have ho:o'=0:=by
     rcases hoo with h|h
     ·omega
     ·omega
    subst ho;have hb':b'<w.heap.size:=(hW.new id' b' (by rw[hF'];simp)).2;simp only[Rep];refine .inr ⟨b',0,cap',us',fps',rfl,⟨by omega,by omega⟩,hb',fun k hk => ?_,rfl,hF',cur',hh',hsz',hml'⟩;obtain⟨d1,d2,d3⟩:=hcl' k hk;exact⟨ypb (g k) (hp k hk) (RepL.mono (g k) (Map.le_refl _) (hsm _) d1),d2,by simpa using d3⟩
 generalize hnew:setE (setE s.h id (.arr T e n (fun j=>bif Nat.beq j i then putL o [.sl (some T') e' n' g] (f j)else f j))) id' .dead=h'
 have hH1:nthE h' id'=some .dead:=by
  rw[<- hnew,yq,if_pos ⟨rfl,by rw[yr];exact hlt'⟩]
 have hH2:nthE h' id=some (.arr T e n (fun j=>bif Nat.beq j i then putL o [.sl (some T') e' n' g] (f j)else f j)):=by
  rw[<- hnew,yq,if_neg (fun h=>hne h.1),yq,if_pos ⟨rfl,hlt⟩]
 have hH3:∀ k,k≠id->k≠id'->nthE h' k=nthE s.h k:=by
  intro k hk1 hk2;rw[<- hnew,yq,if_neg (fun h=>hk2 h.1),yq,if_neg (fun h=>hk1 h.1)]
 have hhot:∀ x,hot c.M0 (Hof h') μ x->hot c.M0 (Hof s.h) μ x:=by
  rintro x (hx|⟨k,cap2,e2,hk,he,hl⟩)
  ·exact .inl hx
  ·by_cases hk1:k=id'
   ·subst hk1
    rw[show Hof h' k=nthE h' k from rfl,hH1]at he;cases he;simp[Ent.live]at hl
   ·by_cases hk2:k=id
    ·subst hk2
     exact .inr ⟨k,cap2,_,hk,hid,rfl⟩
    ·rw[show Hof h' k=nthE h' k from rfl,hH3 k hk2 hk1]at he
     exact .inr ⟨k,cap2,e2,hk,he,hl⟩
 have hsm:∀ fq,Same w (hot c.M0 (Hof s.h) μ) w (hot c.M0 (Hof h') μ) fq:=fun fq=>⟨Nat.le_refl _,fun b _ hb hh=>hb (hhot b hh),fun _ _ _=>rfl⟩
 let fps2:Nat->List Nat:=fun j=>if j=i then fa++FP id'++fb else fps j
 let FP':Nat->List Nat:=fun k=>if k=id' then[]else if k=id then b::(List.range n).flatMap fps2 else FP k
 have hFP1:FP' id'=[]:=by simp[FP']
 have hFP2:FP' id=b::(List.range n).flatMap fps2:=by
  show(if id=id' then[]else if id=id then _ else _)=_;rw[if_neg hne,if_pos rfl]
 have hFP3:∀ k,k≠id->k≠id'->FP' k=FP k:=fun k h1 h2=>by simp[FP',h1,h2]
 have hperm:(FP' id).Perm (FP id'++FP id):=by
  rw[hF,hFP2]
  have:=yjg fps fps2 i (FP id') (fun j hj=>by simp[fps2,hj]) (by
   simp only[fps2,if_pos];rw[hfp,List.append_assoc];refine(List.perm_append_comm (l₁:=fa) (l₂:=FP id'++fb)).trans ?_;rw[List.append_assoc];refine List.Perm.append_left _ ?_;rw[List.append_nil]
   exact List.perm_append_comm) n hi
  exact(List.Perm.cons b this).trans (List.perm_middle.symm)
 have hmem:∀ x,x∈FP' id↔x∈FP id'\/x∈FP id:=fun x=>by rw[hperm.mem_iff,List.mem_append]
 have hnd:(FP' id).Nodup:=by
  rw[hperm.nodup_iff,List.nodup_append];exact⟨hW.nodup id',hW.nodup id,fun x hx y hy e=>by subst e;exact hW.disj id' id (fun e=>hne e.symm) x hx hy⟩
 have hWn:WR c (Hof h') μ FP' w:=by
  refine⟨hW.keep,hW.base,?_,?_,?_,?_,?_,?_⟩
  ·intro k L' hk
   by_cases hk1:k=id'
   ·subst hk1
    exact⟨_,hH1,by rw[hFP1];rfl⟩
   ·by_cases hk2:k=id
    ·subst hk2
     rw[hm]at hk;cases hk;refine⟨_,hH2,?_⟩;rw[hFP2];refine⟨cur,us,fps2,hh,hsz,hcap,hml,fun j hj => ?_,rfl⟩;obtain⟨d1,d2,d3⟩:=hcl j hj;refine⟨?_,d2,d3⟩
     cases hb:Nat.beq j i with
     | true=>
      have hji:=Nat.eq_of_beq_eq_true hb;subst hji;simp only[hb,cond_true,fps2,if_pos];exact hput (hot c.M0 (Hof h') μ) μ (fun y hy u f hu=>Rep.mono y (Map.le_refl _) (hsm _) hu) _ _ (hown _ hhot μ)
     | false=>
      have hji:j≠i:=fun e=>by subst e;simp at hb
      simp only[hb,cond_false,fps2,if_neg hji];exact RepL.mono (f j) (Map.le_refl _) (hsm _) d1
    ·obtain⟨e2,he2,hok2⟩:=hW.ent k _ hk
     refine⟨e2,by rw[show Hof h' k=nthE h' k from rfl,hH3 k hk2 hk1];exact he2,?_⟩;rw[hFP3 k hk2 hk1];exact yhb.mono (Map.le_refl _) (hsm _) (fun x hx=>(hW.new k x hx).2) hok2
  ·intro k hk
   by_cases hk1:k=id'
   ·subst hk1;exact hFP1
   ·rw[hFP3 k (fun e=>by rw[e,hm]at hk;cases hk) hk1]
    exact hW.out k hk
  ·intro k
   by_cases hk1:k=id'
   ·subst hk1;rw[hFP1];simp
   ·by_cases hk2:k=id
    ·subst hk2;exact hnd
    ·rw[hFP3 k hk2 hk1];exact hW.nodup k
  ·intro k l hkl x hxk hxl
   by_cases hk1:k=id'
   ·subst hk1;rw[hFP1]at hxk;simp at hxk
   ·by_cases hl1:l=id'
    ·subst hl1;rw[hFP1]at hxl;simp at hxl
    ·by_cases hk2:k=id
     ·subst hk2
      rw[hFP3 l (fun e=>hkl e.symm) hl1]at hxl;rcases(hmem x).1 hxk with h|h
      ·exact hW.disj id' l (fun e=>hl1 e.symm) x h hxl
      ·exact hW.disj k l hkl x h hxl
     ·rw[hFP3 k hk2 hk1]at hxk
      by_cases hl2:l=id
      ·subst hl2
       rcases(hmem x).1 hxl with h|h
       ·exact hW.disj k id' hk1 x hxk h
       ·exact hW.disj k l hkl x hxk h
      ·rw[hFP3 l hl2 hl1]at hxl
       exact hW.disj k l hkl x hxk hxl
  ·intro k x hx
   by_cases hk1:k=id'
   ·subst hk1;rw[hFP1]at hx;simp at hx
   ·by_cases hk2:k=id
    ·subst hk2
     rcases(hmem x).1 hx with h|h
     ·exact hW.new id' x h
     ·exact hW.new k x h
    ·rw[hFP3 k hk2 hk1]at hx
     exact hW.new k x hx
  ·intro k b' cap' e2 hk he hl
   by_cases hk1:k=id'
   ·subst hk1
    rw[show Hof h' k=nthE h' k from rfl,hH1]at he;cases he;simp[Ent.live]at hl
   ·by_cases hk2:k=id
    ·subst hk2;exact hW.top k b' cap' _ hk hid rfl
    ·rw[show Hof h' k=nthE h' k from rfl,hH3 k hk2 hk1]at he
     exact hW.top k b' cap' e2 hk he hl
 refine⟨μ,FP',hWn,?_,fun k=>Rep.mono _ (Map.le_refl _) (hsm _) (h1 k),h2,h3⟩;intro k hk;have hl2:h'.length=s.h.length:=by rw[<- hnew];simp[yr]
 exact htl k (by simp only at hk;omega)
theorem AWP.openE {code : Code} (hr : Rob c s) (q id i o : Nat) {e1 off1 m1 : Nat} {T : TypeId} {e n : Nat} {f : Nat -> List AV} {T' : TypeId} {e' n' : Nat} {g : Nat -> List AV} {rest : List AV}
  (hq:get s.t q=.ref id e1 off1 m1) (hid:nthE s.h id=some (.arr T e n f)) (hi:i<n) (hx:dropL o (f i)=.sl (some T') e' n' g::rest)
  (h:AWP P c code N E R ⟨s.t,setE s.h id (.arr T e n (fun j=>bif Nat.beq j i then putL o [.ref s.h.length e' 0 n'] (f j)else f j))++[.arr T' e' n' g]⟩):AWP P c code N E R s:=
 ⟨fun a w hw=>h.run a w (hw.openE hr q id i o hq hid hi hx)⟩
theorem AWP.closeE {code : Code} (q id i o id' : Nat) {e1 off1 m1 : Nat} {T : TypeId} {e n : Nat} {f : Nat -> List AV} {T' : TypeId} {e' n' : Nat} {g : Nat -> List AV} {rest : List AV}
  (hq:get s.t q=.ref id e1 off1 m1) (hid:nthE s.h id=some (.arr T e n f)) (hid':nthE s.h id'=some (.arr T' e' n' g)) (hne:id≠id') (hi:i<n) (hx:dropL o (f i)=.ref id' e' 0 n'::rest)
  (hp:∀ k,k<n'->pureL (g k)=true)
  (h:AWP P c code N E R ⟨s.t,setE (setE s.h id (.arr T e n (fun j=>bif Nat.beq j i then putL o [.sl (some T') e' n' g] (f j)else f j))) id' .dead⟩):AWP P c code N E R s:=
 ⟨fun a w hw=>h.run a w (hw.closeE q id i o id' hq hid hid' hne hi hx hp)⟩
end
end Go.Ab
namespace Go.Ab
open Go
variable [Inv]
theorem WR.updateD {c : Ctx} {H H' : Hp} {μ μ' : Map} {FP FP' : Nat -> List Nat} {w w' : World} (K : Nat -> Prop) (h : WR c H μ FP w) (hrob : ∀ id e, H id = some e -> robE c e) (hdeep : ∀ b, b ∈ c.F0 -> b ∈ c.T0)
  (hos:w'.os=w.os) (htape:w'.tape=w.tape) (hout:w'.output=w.output) (hsz:w.heap.size<=w'.heap.size)
  (hblk:∀ b,b<w.heap.size->w'.heap[b]? = w.heap[b]? \/ (∃ k,K k/\b∈FP k))
  (hle:μ.le μ') (hH:∀ id,μ id≠none->¬ K id->H' id=H id) (hFP:∀ id,μ id≠none->¬ K id->FP' id=FP id)
  (hnew:∀ id L,(μ id=none\/K id)->μ' id=some L->∃ e,H' id=some e/\yhb w' (hot c.M0 H' μ') μ' e L (FP' id))
  (hfpNew:∀ id b,(μ id=none\/K id)->b∈FP' id->(∃ k,K k/\b∈FP k)\/(w.heap.size<=b/\b<w'.heap.size))
  (hout':∀ id,μ' id=none->FP' id=[])
  (hnd:∀ id,(μ id=none\/K id)->(FP' id).Nodup)
  (hdj:∀ i j,i≠j->(μ i=none\/K i)->(μ j=none\/K j)->∀ b,b∈FP' i->b∉FP' j) :
  WR c H' μ' FP' w':=by
 have hcase:∀ id,(μ id=none\/K id)\/(μ id≠none/\¬ K id):=fun id=>by
  by_cases h1:μ id=none
  ·exact .inl (.inl h1)
  ·by_cases h2:K id
   ·exact .inl (.inr h2)
   ·exact .inr ⟨h1,h2⟩
 have hkeep:Keep c.w0 c.T0 w':=by
  refine⟨hos.trans h.keep.os,htape.trans h.keep.tape,hout.trans h.keep.output,Nat.le_trans h.keep.size hsz,fun k hk hf => ?_⟩;rcases hblk k (Nat.lt_of_lt_of_le hk h.keep.size)with h1|⟨i,_,h2⟩
  ·exact h1.trans (h.keep.block k hk hf)
  ·rcases(h.new i k h2).1 with h3|h3
   ·exact absurd (hdeep k h3) hf
   ·omega
 have htop:∀ id b cap e,μ' id=some (.blk b cap)->H' id=some e->e.live=true->b∈c.T0\/c.w0.heap.size<=b:=by
  intro id b cap e hm he hl;rcases hcase id with hK|⟨hn,hK⟩
  ·obtain⟨e2,he2,hok⟩:=hnew id _ hK hm
   rw[he]at he2;cases he2;have hb:=hok.topMem hl;rcases hfpNew id b hK hb with⟨k,_,h2⟩|h2
   ·rcases(h.new k b h2).1 with h3|h3
    ·exact .inl (hdeep b h3)
    ·exact .inr h3
   ·exact .inr (Nat.le_trans h.keep.size h2.1)
  ·cases hμ:μ id with
   | none=>exact absurd hμ hn
   | some L=>
    have hL:=hle id L hμ;rw[hm]at hL;cases hL;exact h.top id b cap e hμ (by rw[<- hH id hn hK];exact he) hl
 refine⟨hkeep,h.base.trans hle,?_,hout',?_,?_,?_,htop⟩
 ·intro id L hL
  rcases hcase id with hK|⟨hn,hK⟩
  ·exact hnew id L hK hL
  ·cases hμ:μ id with
   | none=>exact absurd hμ hn
   | some L0=>
    have h0:=hle id L0 hμ;rw[hL]at h0;cases h0;obtain⟨e,he,hok⟩:=h.ent id L hμ;refine⟨e,(hH id hn hK).trans he,?_⟩;rw[hFP id hn hK];have hre:=hrob id e he;refine yhb.rob hre hle hsz (fun b hb=>(h.new id b hb).2) (fun b hb => ?_) (fun y u h=>ysq hkeep htop h) hok;rcases hblk b (h.new id b hb).2 with h1|⟨k,hk,h2⟩
    ·exact h1
    ·exact absurd h2 (h.disj id k (fun e=>hK (e ▸ hk)) b hb)
 ·intro id
  rcases hcase id with hK|⟨hn,hK⟩
  ·exact hnd id hK
  ·rw[hFP id hn hK];exact h.nodup id
 ·intro i j hij b hbi hbj
  rcases hcase i with hKi|⟨hni,hKi⟩
  ·rcases hcase j with hKj|⟨hnj,hKj⟩
   ·exact hdj i j hij hKi hKj b hbi hbj
   ·rw[hFP j hnj hKj]at hbj
    have h1:=(h.new j b hbj).2;rcases hfpNew i b hKi hbi with⟨k,hk,h2⟩|h2
    ·exact h.disj k j (fun e=>hKj (e ▸ hk)) b h2 hbj
    ·omega
  ·rw[hFP i hni hKi]at hbi
   rcases hcase j with hKj|⟨hnj,hKj⟩
   ·have h1:=(h.new i b hbi).2
    rcases hfpNew j b hKj hbj with⟨k,hk,h2⟩|h2
    ·exact h.disj k i (fun e=>hKi (e ▸ hk)) b h2 hbi
    ·omega
   ·rw[hFP j hnj hKj]at hbj
    exact h.disj i j hij b hbi hbj
 ·intro id b hb
  rcases hcase id with hK|⟨hn,hK⟩
  ·rcases hfpNew id b hK hb with⟨k,_,h2⟩|h2
   ·have:=h.new k b h2
    exact⟨this.1,Nat.lt_of_lt_of_le this.2 hsz⟩
   ·exact⟨.inr (Nat.le_trans h.keep.size h2.1),h2.2⟩
  ·rw[hFP id hn hK]at hb
   have:=h.new id b hb;exact⟨this.1,Nat.lt_of_lt_of_le this.2 hsz⟩
section
variable {P:Program} {c:Ctx} {μ:Map} {FP:Nat->List Nat} {w:World}
theorem yjt {h h1 : List Ent} {f : FuncId} {xs az az' : List AV} {r : AV} {outs : List AV} {vs : List Value} {ms : List Bool} {ob : List Prop} (hW : WR c (Hof h) μ FP w) (hd : Tail h μ)
  (hx:RepL w (hot c.M0 (Hof h) μ) xs μ vs []) (ha:handM h ms xs=some (az,h1,ob)) (ho:allP ob) (hnb:NoBor r/\NoBorL outs) (hna:NoBorL az') (hsim:simOL az az') (hrob:robH c h) (hdeep:∀ b,b∈c.F0->b∈c.T0) (hnd:((bkVL ms xs outs).map (·.1)).Nodup) (hD:DenD P f az' r outs) :
  Calls P f vs.toArray w fun e w'=>∃ v μ',e=.returned v/\(∃ FP',WR c (Hof (reviveE h1 (bkVL ms xs outs)++adE r)) μ' FP' w')/\Tail (reviveE h1 (bkVL ms xs outs)++adE r) μ'/\μ.le μ'/\(∀ y v,NoBor y->Rep w (hot c.M0 (Hof h) μ) y μ v []->Rep w' (hot c.M0 (Hof (reviveE h1 (bkVL ms xs outs)++adE r)) μ') y μ' v []) /\
   Rep w' (hot c.M0 (Hof (reviveE h1 (bkVL ms xs outs)++adE r)) μ') (adR h.length r) μ' v []:=by
 obtain⟨Kl,hk⟩:=yxc ha;obtain⟨K,fpA,hgone,hown,htops,hrep⟩:=y9e hW (fun _ _ h _=>h) hx ha ho
 have hKK:∀ id,id∈K->id∈Kl:=by
  intro id hid;obtain⟨⟨e,he,hl⟩,hdd⟩:=hgone.kill id hid;refine Classical.byContradiction fun hn => ?_
  have:=hk.other id hn;rw[he]at this;rw[hdd e this]at hl;cases hl
 have hfl:∀ b,b∈fpA->b<w.heap.size:=fun b hb=>by obtain⟨id,_,h2⟩:=hown.2 b hb;exact(hW.new id b h2).2
 have hA:RepL w (fun b=>False\/b∈fpA) az' noMap vs fpA:=RepL.noBor az' hna (yvb az az' hsim (hrep (fun _=>False) (fun _ h=>h.elim) (.inr fun _ _ _ _ _ _ _ h=>h)));refine(hD.2 w (fun _=>False) vs fpA hW.inv (fun b hb=>⟨fun h=>h,fun h=>by obtain⟨id,_,h2⟩:=hown.2 b h;exact hW.inv_fp hb id h2⟩) hA hown.1 (by simp) (by simp)).mono ?_;rintro e w' ⟨v,fpR,fpO,rfl,hK,hr,hO,hRn,hRm⟩
 replace hr:Rep w' (fun b=>(hot c.M0 (Hof h) μ b/\b∉fpA)\/b∈fpR++fpO) r noMap v fpR:=Rep.noBor r hnb.1 hr;replace hO:RepL w' (fun b=>(hot c.M0 (Hof h) μ b/\b∉fpA)\/b∈fpR++fpO) outs noMap vs fpO:=RepL.noBor outs hnb.2 hO;obtain⟨lb,hbk⟩:=yqm (ms:=ms) hx hO;generalize hbkd:bkVL ms xs outs=bk at *;have hbkK:∀ p,p∈bk->p.1∈Kl:=by rw[<- hbkd];exact yri ha hk
 generalize hh2:reviveE h1 bk++adE r=h2;have hrl:(reviveE h1 bk).length=h.length:=by rw[y6d,hk.len]
 have htopK:∀ id b cap,id∈Kl->μ id=some (.blk b cap)->hot c.M0 (Hof h) μ b/\b∈FP id:=by
  intro id b cap hid hm;obtain⟨e0,he,hl⟩:=hk.was id hid;exact⟨.inr ⟨id,cap,e0,hm,he,hl⟩,(hW.lt hm he hl).1⟩
 have hold:∀ id,μ id≠none->id<h.length:=fun id hid=>Nat.lt_of_not_le fun hle=>hid (hd id hle)
 have hH2old:∀ id,id<h.length->Hof h2 id=(match lk bk lb id with|some (e,_)=>some e|none=>nthE h1 id):=by
  intro id hid;subst hh2;simp only[Hof,yhf];rw[if_pos (by omega),yph id hbk.len hnd]
  cases hl:lk bk lb id with
  | none=>rfl
  | some p=>
   obtain⟨e5,f5⟩:=p;simp only;rw[if_pos (by rw[hk.len];exact hid)]
 have hlkK:∀ id e fq,lk bk lb id=some (e,fq)->id∈Kl:=by
  intro id e fq h5;obtain⟨k,L,h6,_⟩:=y9b h5;exact hbkK _ (List.mem_of_getElem? h6)
 have hH2out:∀ id,id<h.length->id∉Kl->Hof h2 id=nthE h id:=by
  intro id hid hnk;rw[hH2old id hid]
  cases hl:lk bk lb id with
  | none=>exact hk.other id hnk
  | some p=>exact absurd (hlkK id p.1 p.2 hl) hnk
 obtain⟨ls,hAd,hAdR⟩:=yir r hr;have hRn':=List.nodup_append.1 hRn;have hlsn:=yeb (ls:=ls) (by rw[<- hAd.fps];exact hRn'.1);have hlbn:=yeb (ls:=lb) (hbk.fps.nodup hRn'.2.1);let μ':Map:=fun i=>if i<h.length then μ i else(ls[i-h.length]?).map (·.1)
 let FP':Nat->List Nat:=fun i=>if i<h.length then(if i∈Kl then((lk bk lb i).map (·.2)).getD []else FP i)else((ls[i-h.length]?).map (·.2)).getD []
 have hμold:∀ i,i<h.length->μ' i=μ i:=fun i hi=>by simp only[μ',if_pos hi]
 have hμnew:∀ i,h.length<=i->μ' i=(ls[i-h.length]?).map (·.1):=fun i hi=>by simp only[μ'];rw[if_neg (by omega)]
 have hFold:∀ i,i<h.length->FP' i=if i∈Kl then((lk bk lb i).map (·.2)).getD []else FP i:=fun i hi=>by simp only[FP',if_pos hi]
 have hFnew:∀ i,h.length<=i->FP' i=((ls[i-h.length]?).map (·.2)).getD []:=fun i hi=>by simp only[FP'];rw[if_neg (by omega)]
 have hHnew:∀ i,h.length<=i->Hof h2 i=(adE r)[i-h.length]? := by
  intro i hi;subst hh2;simp only[Hof,yhf];rw[if_neg (by omega),yfb,hrl]
 have hKold:∀ id,id∈Kl->id<h.length:=fun id hid=>by obtain⟨e,he,_⟩:=hk.was id hid;exact ysb he
 have hle:μ.le μ':=fun i L hi=>by rw[hμold i (hold i (by simp[hi]))];exact hi
 have hlsE:∀ (k:Nat) (L:Loc) (fq:List Nat),ls[k]? = some (L,fq)->∃ e,(adE r)[k]? = some e:=by
  intro k L fq hk;have:k<(adE r).length:=by rw[<- hAd.len];exact(List.getElem?_eq_some_iff.1 hk).1
  exact⟨_,List.getElem?_eq_getElem this⟩
 have hfpR:∀ (k:Nat) (L:Loc) (fq:List Nat),ls[k]? = some (L,fq)->∀ b,b∈fq->b∈fpR:=fun k L fq hk b hb=>by
  rw[hAd.fps];exact List.mem_flatten.2 ⟨fq,List.mem_map.2 ⟨(L,fq),List.mem_of_getElem? hk,rfl⟩,hb⟩
 have hfpO:∀ (k:Nat) (L:Loc) (fq:List Nat),lb[k]? = some (L,fq)->∀ b,b∈fq->b∈fpO:=fun k L fq hk b hb=>
  hbk.fps.subset (List.mem_flatten.2 ⟨fq,List.mem_map.2 ⟨(L,fq),List.mem_of_getElem? hk,rfl⟩,hb⟩)
 have hRm1:∀ b,b∈fpR->(b∈fpA\/w.heap.size<=b)/\b<w'.heap.size:=fun b hb=>hRm b (List.mem_append_left _ hb)
 have hRm2:∀ b,b∈fpO->(b∈fpA\/w.heap.size<=b)/\b<w'.heap.size:=fun b hb=>hRm b (List.mem_append_right _ hb)
 -- what is hot behind the call
 have hhot':∀ b,hot c.M0 (Hof h2) μ' b->(hot c.M0 (Hof h) μ b/\b∉fpA)\/b∈fpR++fpO:=by
  intro b hb;rcases hb with hb|⟨id,cap,e,hm,he,hl⟩
  ·refine .inl ⟨.inl hb,fun hf => ?_⟩
   obtain⟨id',_,hF'⟩:=hown.2 b hf;have h3:=c.cold0 b hb;rcases(hW.new id' b hF').1 with h4|h4
   ·exact h3.2 h4
   ·omega
  ·by_cases hid:id<h.length
   ·rw[hμold id hid]at hm
    by_cases hnk:id∈Kl
    ·rw[hH2old id hid]at he
     cases hlk:lk bk lb id with
     | none=>
      rw[hlk]at he;rw[hk.isDead id hnk]at he;cases he;simp[Ent.live]at hl
     | some p=>
      obtain⟨e1,fq⟩:=p;rw[hlk]at he;cases he
      obtain⟨k,L',h6,h7⟩:=y9b hlk;obtain⟨h8,h9⟩:=hbk.ok k id _ L' fq h6 h7;rw[h8]at hm;cases hm;exact .inr (List.mem_append_right _ (hfpO k _ fq h7 b ((h9 μ).topMem hl)))
    ·rw[hH2out id hid hnk]at he
     refine .inl ⟨.inr ⟨id,cap,e,hm,he,hl⟩,fun hf => ?_⟩;obtain⟨id',hid',hF'⟩:=hown.2 b hf;have hF:=(hW.lt hm he hl).1;have:id=id':=Classical.byContradiction fun hne=>hW.disj id id' hne b hF hF'
     subst this;exact hnk (hKK id hid')
   ·rw[hμnew id (by omega)]at hm
    rw[hHnew id (by omega)]at he
    cases hls:ls[id-h.length]? with
    | none=>simp[hls]at hm
    | some p=>
     obtain⟨L,fq⟩:=p;simp only[hls,Option.map_some,Option.some.injEq]at hm;subst hm;exact .inr (List.mem_append_left _ (hfpR _ _ _ hls b (((hAd.ok _ e _ fq he hls).1 μ').topMem hl)))
 have hup := WR.updateD (H' := Hof h2) (μ' := μ') (FP' := FP') (w' := w') (fun i => i ∈ Kl) hW (fun id e he => y4i hrob he) hdeep hK.os hK.tape hK.output hK.size
  (by
   intro b hb;by_cases hbt:b∈fpA
   ·obtain⟨id,hid,hF⟩:=hown.2 b hbt
    exact .inr ⟨id,hKK id hid,hF⟩
   ·exact .inl (hK.block b hb hbt))
  hle
  (by
   intro i hi hnk
   rw[hH2out i (hold i hi) hnk];rfl)
  (by
   intro i hi hk
   rw[hFold i (hold i hi),if_neg hk])
  (by
   intro i L hi hL;by_cases hid:i<h.length
   ·rw[hμold i hid]at hL
    rcases hi with hi|hi
    ·rw[hi]at hL;cases hL
    ·rw[hH2old i hid,hFold i hid,if_pos hi]
     cases hlk:lk bk lb i with
     | none=>exact⟨.dead,hk.isDead i hi,rfl⟩
     | some p=>
      obtain⟨e,fq⟩:=p;obtain⟨k,L',h6,h7⟩:=y9b hlk;obtain⟨h8,h9⟩:=hbk.ok k i e L' fq h6 h7;rw[h8]at hL;cases hL;exact⟨e,rfl,yhb.mono (Map.le_refl _) ⟨Nat.le_refl _,fun b _ hb hh=>hb (hhot' b hh),fun _ _ _=>rfl⟩ (fun b hb=>(hRm2 b (hfpO k _ fq h7 b hb)).2) (h9 _)⟩
   ·rw[hμnew i (by omega)]at hL
    cases hls:ls[i-h.length]? with
    | none=>simp[hls]at hL
    | some p=>
     obtain⟨L',fq⟩:=p;simp only[hls,Option.map_some,Option.some.injEq]at hL;subst hL;obtain⟨e,he⟩:=hlsE _ _ _ hls;refine⟨e,by rw[hHnew i (by omega)];exact he,?_⟩;rw[hFnew i (by omega),hls];simp only[Option.map_some,Option.getD_some]
     exact yhb.mono (Map.le_refl _) ⟨Nat.le_refl _,fun b _ hb hh=>hb (hhot' b hh),fun _ _ _=>rfl⟩ (fun b hb=>(hRm1 b (hfpR _ _ _ hls b hb)).2) ((hAd.ok _ e _ fq he hls).1 μ'))
  (by
   have key:∀ b,(b∈fpA\/w.heap.size<=b)/\b<w'.heap.size->(∃ k,k∈Kl/\b∈FP k)\/(w.heap.size<=b/\b<w'.heap.size):=by
    intro b h3;rcases h3.1 with h4|h4
    ·obtain⟨id,hid',hF⟩:=hown.2 b h4
     exact .inl ⟨id,hKK id hid',hF⟩
    ·exact .inr ⟨h4,h3.2⟩
   intro i b hi hb;by_cases hid:i<h.length
   ·rw[hFold i hid]at hb
    split at hb
    ·cases hlk:lk bk lb i with
     | none=>simp[hlk]at hb
     | some p=>
      obtain⟨e,fq⟩:=p;obtain⟨k,L',h6,h7⟩:=y9b hlk;simp only[hlk,Option.map_some,Option.getD_some]at hb;exact key b (hRm2 b (hfpO k L' fq h7 b hb))
    ·rename_i hk
     rw[hW.out i (hi.resolve_right hk)]at hb;simp at hb
   ·rw[hFnew i (by omega)]at hb
    cases hls:ls[i-h.length]? with
    | none=>simp[hls]at hb
    | some p=>
     obtain⟨L,fq⟩:=p;simp only[hls,Option.map_some,Option.getD_some]at hb
     exact key b (hRm1 b (hfpR _ _ _ hls b hb)))
  (by
   intro i hi;by_cases hid:i<h.length
   ·rw[hμold i hid]at hi
    rw[hFold i hid];split
    ·cases hlk:lk bk lb i with
     | none=>rfl
     | some p=>
      obtain⟨e,fq⟩:=p;obtain⟨k,L',h6,h7⟩:=y9b hlk;rw[(hbk.ok k i e L' fq h6 h7).1]at hi;cases hi
    ·exact hW.out i hi
   ·rw[hμnew i (by omega)]at hi
    rw[hFnew i (by omega)]
    cases hls:ls[i-h.length]? with
    | none=>rfl
    | some p=>simp[hls]at hi)
  (by
   intro i _;by_cases hid:i<h.length
   ·rw[hFold i hid]
    split
    ·cases hlk:lk bk lb i with
     | none=>simp
     | some p=>
      obtain⟨e,fq⟩:=p;obtain⟨k,L',h6,h7⟩:=y9b hlk;exact hlbn.1 k L' fq h7
    ·exact hW.nodup i
   ·rw[hFnew i (by omega)]
    cases hls:ls[i-h.length]? with
    | none=>simp
    | some p=>obtain⟨L,fq⟩:=p;exact hlsn.1 _ L fq hls)
  (by
   have old:∀ i,i<h.length->(μ i=none\/i∈Kl)->FP' i=[]\/∃ (k:Nat) (e:Ent) (L:Loc) (fq:List Nat),bk[k]? = some (i,e)/\lb[k]? = some (L,fq)/\FP' i=fq:=by
    intro i hid hi;rw[hFold i hid];split
    ·cases hlk:lk bk lb i with
     | none=>exact .inl rfl
     | some p=>
      obtain⟨e,fq⟩:=p;obtain⟨k,L',h6,h7⟩:=y9b hlk;exact .inr ⟨k,e,L',fq,h6,h7,rfl⟩
    ·rename_i hk;exact .inl (hW.out i (hi.resolve_right hk))
   have new:∀ i,h.length<=i->FP' i=[]\/∃ (L:Loc) (fq:List Nat),ls[i-h.length]? = some (L,fq)/\FP' i=fq:=by
    intro i hi;rw[hFnew i hi]
    cases hls:ls[i-h.length]? with
    | none=>exact .inl rfl
    | some p=>obtain⟨L,fq⟩:=p;exact .inr ⟨L,fq,rfl,rfl⟩
   intro i j hij hi hj b hbi hbj;by_cases hid:i<h.length
   ·rcases old i hid hi with h5|⟨k,e,L,fq,h5,h6,h7⟩
    ·rw[h5]at hbi;simp at hbi
    ·rw[h7]at hbi
     by_cases hjd:j<h.length
     ·rcases old j hjd hj with g5|⟨k',e',L',fq',g5,g6,g7⟩
      ·rw[g5]at hbj;simp at hbj
      ·rw[g7]at hbj
       have hkk:k≠k':=by
        rintro rfl
        rw[h5]at g5;simp at g5;exact hij g5.1
       exact hlbn.2 k k' L fq L' fq' hkk h6 g6 b hbi hbj
     ·rcases new j (by omega)with g5|⟨L',fq',g6,g7⟩
      ·rw[g5]at hbj;simp at hbj
      ·rw[g7]at hbj
       exact hRn'.2.2 b (hfpR _ _ _ g6 b hbj) b (hfpO _ _ _ h6 b hbi) rfl
   ·rcases new i (by omega)with h5|⟨L,fq,h6,h7⟩
    ·rw[h5]at hbi;simp at hbi
    ·rw[h7]at hbi
     by_cases hjd:j<h.length
     ·rcases old j hjd hj with g5|⟨k',e',L',fq',g5,g6,g7⟩
      ·rw[g5]at hbj;simp at hbj
      ·rw[g7]at hbj
       exact hRn'.2.2 b (hfpR _ _ _ h6 b hbi) b (hfpO _ _ _ g6 b hbj) rfl
     ·rcases new j (by omega)with g5|⟨L',fq',g6,g7⟩
      ·rw[g5]at hbj;simp at hbj
      ·rw[g7]at hbj
       exact hlsn.2 _ _ L fq L' fq' (by omega) h6 g6 b hbi hbj)
 refine⟨v,μ',rfl,⟨FP',hup⟩,?_,hle,?_,?_⟩
 ·intro i hi
  subst hh2;rw[List.length_append,hrl]at hi;rw[hμnew i (by omega),List.getElem?_eq_none (by rw[hAd.len];omega)];rfl
 ·intro y v hy hv
  exact Rep.noBor y hy (Rep.mono (M:=fun _=>True) (M':=fun _=>True) y hle ⟨hK.size,fun _ _ h=>h,fun b hb hh=>by
   rcases hh with hh|hh
   ·exact absurd trivial hh
   ·simp at hh⟩ (Rep.noBor y hy hv))
 ·refine Rep.mono _ (Map.le_refl _) ⟨Nat.le_refl _,fun b _ hb hh=>hb (hhot' b hh),fun _ _ _=>rfl⟩ (hAdR h.length μ' ?_)
  intro j L fq hj;rw[hμnew _ (by omega),Nat.add_sub_cancel_left,hj];rfl
end
end Go.Ab
namespace Go.Ab
open Go
variable [Inv]
section
variable {P:Program} {Γ:Env} {D:Dn} {c:Ctx} {s:St} {a:Act} {w:World} {all:Array Oper} {o:Oper} {Q:Exit->Act->World->Prop} {N:St->Prop} {E:Nat->St->Prop} {R:St->Prop}
theorem yu0 {f : FuncId} {args : List Operand} {az az' : List AV} {r : AV} {outs : List AV} {ms : List Bool} {ob : List Prop} {h1 : List Ent} (hs : WRs c s a w) (hr : Rob c s) (hg : o.guard = none) (hc : callOf o.op = some (.func f, args))
  (ha:handM s.h ms (args.map (opnd s.t))=some (az,h1,ob)) (ho:allP ob) (hnb:NoBor r/\NoBorL outs) (hna:NoBorL az') (hsim:simOL az az') (hnd:((bkVL ms (args.map (opnd s.t)) outs).map (·.1)).Nodup) (hD:DenD P f az' r outs)
  (hd:∀ d,o.dst=some d->d<c.nt) {K:Act->World->Prop} (hK:∀ a' w',WRs c ⟨put s.t o.dst (adR s.h.length r),reviveE h1 (bkVL ms (args.map (opnd s.t)) outs)++adE r⟩ a' w'->K a' w') :
  if Region.wanted o (yielded all a.tmps)then o.wp P a w K Q else K (a.put o.dst undef) w:=by
 obtain⟨μ,FP,hW,hdd,hT⟩:=hs;have hw:Region.wanted o (yielded all a.tmps)=true:=by unfold Region.wanted;rw[hg]
 rw[if_pos hw];have has:=yed (M:=hot c.M0 (Hof s.h) μ) (μ:=μ) (w:=w) (α:=opnd s.t) (ρ:=a.eval) (l:=args) (fun z _=>ybe hT z);have hcalls:=yjt hW hdd has ha ho hnb hna hsim hr.hp hr.deep hnd hD;obtain⟨fn,hfn,hname,hbody⟩:=hD.1
 have hrun:(execOp a.eval o).run P w=.ok (.enter f (args.map a.eval).toArray) w:=by
  unfold callOf at hc;split at hc
  ·rename_i cl hop
   split at hc
   ·rename_i fo hcal
    simp only[Option.some.injEq,Prod.mk.injEq]at hc;obtain⟨rfl,rfl⟩:=hc;have hfv:a.eval (.func f)=.func (.func f) #[] #[]:=rfl;simp only[execOp,hop,resolve,hcal,hfv,Deferred.ofValue,Sem.run_bind,Sem.run_pure,Result.andThen_ok,invoke,callFunc,run_program,hfn,hname,hbody]
    have e:(#[]:Array Value)++cl.args.map a.eval ++ #[]=(cl.args.toList.map a.eval).toArray:=by
     apply Array.ext';simp
    rw[e];rfl
   ·simp at hc
  ·simp at hc
 unfold Oper.wp;rw[hrun];show Calls P f _ w _;refine hcalls.mono ?_;rintro e w' ⟨v,μ',rfl,⟨FP',hW'⟩,htl,hle,hnbr,hrr⟩
 refine hK _ _ ⟨μ',FP',hW',htl,?_,?_,?_⟩
 ·have old:∀ i,Rep w' (hot c.M0 (Hof (reviveE h1 (bkVL ms (args.map (opnd s.t)) outs)++adE r)) μ') (get s.t i) μ' (a.tmps.getD i undef) []:=by
   intro i;have hl:=y2m i hr.tm;have hv:=hT.1 i;generalize get s.t i=x at hl hv;generalize a.tmps.getD i undef=u at hv
   cases x with
   | lit u0 y=>
    simp only[y2g]at hl;simp only[Rep]at hv ⊢;obtain⟨_,rfl,_⟩:=hv;exact⟨trivial,rfl,hW'.old hl⟩
   | agg cs=>
    simp only[y2g]at hl;simp only[Rep]at hv ⊢;obtain⟨us,e,hv⟩:=hv;exact⟨us,e,ysi hnbr (fun y u h=>hW'.old h) hl hv⟩
   | _=>exact hnbr _ _ hl hv
  intro i
  cases hdst:o.dst with
  | none=>exact old i
  | some d=>
   have hlt:d<a.tmps.size:=by rw[hT.2.1];exact hd d hdst
   simp only;rw[ykd];by_cases hi:i=d
   ·subst hi
    rw[if_pos rfl];have:(a.put (some i) v).tmps.getD i undef=v:=by simp[Act.put,hlt]
    rw[this];exact hrr
   ·rw[if_neg hi]
    have:(a.put (some d) v).tmps.getD i undef=a.tmps.getD i undef:=by
     simp only[Act.put,Array.getD_eq_getD_getElem?];rw[Array.getElem?_setIfInBounds_ne (fun e=>hi e.symm)]
    rw[this];exact old i
 ·cases hdst:o.dst with
  | none=>exact hT.2.1
  | some d=>simpa [Act.put]using hT.2.1
 ·cases hdst:o.dst with
  | none=>exact hT.2.2
  | some d=>simpa [Act.put]using hT.2.2
def yku (Γ:Env) (D:Dn) (all:Array Oper) (o:Oper) (os:List Oper) (s:St) (ms:List Bool) (xs az':List AV) (r:AV) (outs:List AV) (K:St->Prop):Prop:=
 match handM s.h ms xs with
 | some (az,h1,ob)=>allP ob/\simOL az az'/\((bkVL ms xs outs).map (·.1)).Nodup /\
   after1 (runA Γ D all os (put s.t o.dst (adR s.h.length r)) (reviveE h1 (bkVL ms xs outs)++adE r)) K
 | none=>False
end
end Go.Ab
namespace Go.Ab
open Go
variable [Inv]
def yfo (v : Value) : AV -> AV
 | .sl o e n f=>.lit v (.sl o e n f)
 | x=>x
def litM (u : Nat -> Value) : Nat -> List AV -> List AV
 | _,[]=>[]
 | k,x::xs=>yfo (u k) x::litM u (k+1) xs
def y3u (v:Value) (k:Nat):Value:=
 match v with
 | .agg us=>us.toList.getD k undef
 | _=>undef
def lit1 (v : Value) : AV -> AV
 | .sl o e n f=>.lit v (.sl o e n f)
 | .agg cs=>.agg (litM (y3u v) 0 cs)
 | x=>x
def litN (u : Nat -> Value) : Nat -> List AV -> List AV
 | _,[]=>[]
 | k,x::xs=>lit1 (u k) x::litN u (k+1) xs
def ynp (c : Ctx) : List AV -> Prop
 | []=>True
 | .lit u y::xs=>Rep c.w0 (fun b=>c.M0 b\/b∈c.F0) y noMap u []/\ynp c xs
 | _::xs=>ynp c xs
def litR (c : Ctx) : List AV -> Prop
 | []=>True
 | .lit u y::xs=>Rep c.w0 (fun b=>c.M0 b\/b∈c.F0) y noMap u []/\litR c xs
 | .agg cs::xs=>ynp c cs/\litR c xs
 | _::xs=>litR c xs
theorem ylu {w:World} {M:Nat->Prop} {x:AV} {v:Value} (h:Rep w M x noMap v []):Rep w M (yfo v x) noMap v []:=by
 cases x with
 | sl o e n f=>simp only[yfo];unfold Rep;exact⟨rfl,rfl,h⟩
 | _=>exact h
theorem yxo {w : World} {M : Nat -> Prop} {u : Nat -> Value} : ∀ {k : Nat} {xs : List AV} {vs : List Value}, (∀ i, u (k + i) = vs.getD i undef) -> RepL w M xs noMap vs [] -> RepL w M (litM u k xs) noMap vs []
 | k,[],vs,_,h=>by simpa only[litM]using h
 | k,x::xs,vs,hu,h=>by
  simp only[RepL]at h;simp only[litM,RepL];obtain⟨v,vs',f1,f2,rfl,e,h1,h2⟩:=h;obtain⟨rfl,rfl⟩:=List.append_eq_nil_iff.1 e.symm;have h0:=hu 0;simp only[Nat.add_zero,List.getD_cons_zero]at h0;refine⟨v,vs',[],[],rfl,rfl,by rw[h0];exact ylu h1,yxo (fun i => ?_) h2⟩;have:=hu (i+1);rw[show k+1+i=k+(i+1)by omega];simpa using this
theorem y7o (us:List Value) (i:Nat):y3u (.agg us.toArray) (0+i)=us.getD i undef:=by simp[y3u]
theorem ylx {w:World} {M:Nat->Prop} {x:AV} {v:Value} (h:Rep w M x noMap v []):Rep w M (lit1 v x) noMap v []:=by
 cases x with
 | sl o e n f=>simp only[lit1];unfold Rep;exact⟨rfl,rfl,h⟩
 | agg cs=>
  simp only[lit1,Rep]at h ⊢;obtain⟨us,rfl,h⟩:=h;exact⟨us,rfl,yxo (y7o us) h⟩
 | _=>exact h
theorem y9l {w : World} {M : Nat -> Prop} {u : Nat -> Value} : ∀ {k : Nat} {xs : List AV} {vs : List Value}, (∀ i, u (k + i) = vs.getD i undef) -> RepL w M xs noMap vs [] -> RepL w M (litN u k xs) noMap vs []
 | k,[],vs,_,h=>by simpa only[litN]using h
 | k,x::xs,vs,hu,h=>by
  simp only[RepL]at h;simp only[litN,RepL];obtain⟨v,vs',f1,f2,rfl,e,h1,h2⟩:=h;obtain⟨rfl,rfl⟩:=List.append_eq_nil_iff.1 e.symm;have h0:=hu 0;simp only[Nat.add_zero,List.getD_cons_zero]at h0;refine⟨v,vs',[],[],rfl,rfl,by rw[h0];exact ylx h1,y9l (fun i => ?_) h2⟩;have:=hu (i+1);rw[show k+1+i=k+(i+1)by omega];simpa using this
theorem yfz {c : Ctx} {M : Nat -> Prop} {u : Nat -> Value} (hM : ∀ b, (c.M0 b \/ b ∈ c.F0) -> M b) : ∀ {k : Nat} {xs : List AV} {vs : List Value}, (∀ i, u (k + i) = vs.getD i undef) -> RepL c.w0 M xs noMap vs [] -> ynp c (litM u k xs)
 | k,[],vs,_,h=>trivial
 | k,x::xs,vs,hu,h=>by
  simp only[RepL]at h;obtain⟨v,vs',f1,f2,rfl,e,h1,h2⟩:=h;obtain⟨rfl,rfl⟩:=List.append_eq_nil_iff.1 e.symm;have h0:=hu 0;simp only[Nat.add_zero,List.getD_cons_zero]at h0
  have ih:=yfz (c:=c) hM (k:=k+1) (xs:=xs) (vs:=vs') (fun i=>by
   have:=hu (i+1);rw[show k+1+i=k+(i+1)by omega]
   simpa using this) h2
  simp only[litM];rw[h0];have h3:Rep c.w0 (fun b=>c.M0 b\/b∈c.F0) x noMap v []:=yqc hM h1
  cases x with
  | lit _ _=>simp only[yfo,ynp];unfold Rep at h3;exact⟨by rw[<- h3.2.1];exact h3.2.2,ih⟩
  | sl o e n f=>exact⟨h3,ih⟩
  | _=>exact ih
theorem yw0 {c : Ctx} {M : Nat -> Prop} {u : Nat -> Value} (hM : ∀ b, (c.M0 b \/ b ∈ c.F0) -> M b) : ∀ {k : Nat} {xs : List AV} {vs : List Value}, (∀ i, u (k + i) = vs.getD i undef) -> RepL c.w0 M xs noMap vs [] -> litR c (litN u k xs)
 | k,[],vs,_,h=>trivial
 | k,x::xs,vs,hu,h=>by
  simp only[RepL]at h;obtain⟨v,vs',f1,f2,rfl,e,h1,h2⟩:=h;obtain⟨rfl,rfl⟩:=List.append_eq_nil_iff.1 e.symm;have h0:=hu 0;simp only[Nat.add_zero,List.getD_cons_zero]at h0
  have ih:=yw0 (c:=c) hM (k:=k+1) (xs:=xs) (vs:=vs') (fun i=>by
   have:=hu (i+1);rw[show k+1+i=k+(i+1)by omega]
   simpa using this) h2
  simp only[litN];rw[h0];have h3:Rep c.w0 (fun b=>c.M0 b\/b∈c.F0) x noMap v []:=yqc hM h1
  cases x with
  | lit _ _=>simp only[lit1,litR];unfold Rep at h3;exact⟨by rw[<- h3.2.1];exact h3.2.2,ih⟩
  | sl o e n f=>exact⟨h3,ih⟩
  | agg cs=>
   simp only[Rep]at h1;obtain⟨us,rfl,h1⟩:=h1;exact⟨yfz hM (y7o us) h1,ih⟩
  | _=>exact ih
section
variable {P:Program}
theorem yal {f : FuncId} {fn : Func} {code : Code} {xs : List AV} {r : AV} {N : Nat} {rs : List ResultVar} {Γ : Env} (hΓ : TyOk P Γ) (hf : P.funcs[f]? = some fn) (hname : (fn.name == "runtime.NumGoroutine") = false) (hb : fn.body = some code)
  (hN:fn.ntmps=N) (hr:fn.results.toList=rs) (hlen:xs.length<=N) (hx:noIdL xs=true) (h:∀ (c:Ctx) (u:Nat->Value),(∀ b,b∈c.F0->b∈c.T0)->litR c (litN u 0 xs)->ydc xs->c.nt=N->c.k0=0->AWP P c code (Ends Γ rs r) (fun _ _=>False) (Ends Γ rs r) ⟨pars 0 (litN u 0 xs),[]⟩):Den P f xs r:=by
 refine⟨⟨fn,hf,hname,by rw[hb];rfl⟩,?_⟩;intro w M vs fpA hI hIM hA hAn hAm hM;have hfpA:fpA=[]:=ylf xs hx hA;subst hfpA
 have htop:yx xs vs=[]:=by
  apply List.eq_nil_iff_forall_not_mem.2;intro b hb;have:=yzb xs hA b hb;simp at this
 rw[htop]at hA ⊢;let c:Ctx:={ w0:=w,M0:=M,F0:=[],T0:=[],mu0:=noMap,k0:=0,base0:=by simp[noMap],nt:=N,cold0:=fun b hb=>⟨hM b hb,by simp⟩,own0:=by simp,top0:=by simp,inv0:=hI,invM:=fun b hb=>⟨(hIM b hb).1,by simp⟩}
 have hhot:∀ b,hot c.M0 (Hof []) noMap b->M b:=by
  rintro b (hb|⟨id,cap,e,hm,_⟩)
  ·exact hb
  ·cases hm
 have hA':RepL w (hot c.M0 (Hof []) noMap) (litN (fun i=>vs.getD i undef) 0 xs) noMap vs []:=y9l (fun i=>by simp) (yuc (fun b hb=>.inl (hhot b hb)) hA);have hlit:litR c (litN (fun i=>vs.getD i undef) 0 xs):=yw0 (c:=c) (M:=fun b=>M b\/b∈([]:List Nat)) (fun b h=>h) (fun i=>by simp) hA;have hvl:=hA.length;refine calls_of_wp hf hb ?_;refine wp_mono ((h c (fun i=>vs.getD i undef) (by intro b hb;exact hb) hlit (RepL.lens xs hA) rfl rfl).run _ _ ⟨noMap,fun _=>[],⟨⟨rfl,rfl,rfl,Nat.le_refl _,fun _ _ _=>rfl⟩,Map.le_refl _,?_,?_,?_,?_,?_,?_⟩,?_,?_,?_,rfl⟩) ?_
 ·intro id L hm;cases hm
 ·intro _ _;rfl
 ·intro _;simp
 ·intro i j _ b hb;simp at hb
 ·intro i b hb;simp at hb
 ·intro id b cap e hm;cases hm
 ·intro _ _;rfl
 ·intro i
  have:=yce (k:=0) (i:=i) (rest:=(Array.replicate (fn.ntmps-vs.toArray.size) undef).toList) hA' (Nat.zero_le _)
  have e:(vs.toArray++Array.replicate (fn.ntmps-vs.toArray.size) undef).getD i undef=(((vs++(Array.replicate (fn.ntmps-vs.toArray.size) undef).toList)[i-0]?).getD undef):=by
   rw[Array.getD_eq_getD_getElem?, <- Array.getElem?_toList];simp
  rw[e];exact this
 ·simp only[Array.size_append,List.size_toArray,Array.size_replicate]
  show vs.length+(fn.ntmps-vs.length)=N;omega
 ·intro e a w' hp
  have main:∀ s',Ends Γ rs r s'->WRs c s' a w'->bodyPost P fn (fun e w'=>∃ v fpR,e=.returned v/\Keep w [] w'/\Rep w' (fun b=>M b\/b∈fpR) r noMap v fpR/\fpR.Nodup /\
    (∀ b,b∈fpR->(b∈([]:List Nat)\/w.heap.size<=b)/\b<w'.heap.size)/\(∀ b,b∈tops r v->b∈([]:List Nat)\/w.heap.size<=b)) .ret a w':=by
   intro s' hE hs';simp only[Ends]at hE;split at hE
   ·rename_i xs0 o1 hres0
    split at hE
    ·rename_i ys h' ob habs
     obtain⟨ho1,ho,hflat,hpack⟩:=hE;obtain⟨μ,FP,hW,htl,h1,h2,h3⟩:=hs'
     have hmap:∃ us,(fn.results.toList.mapM (fun|.tmp t=>pure (a.tmps.getD t undef)|.cell b t=>do loadVar t (<- asAddr (a.tmps.getD b undef)):ResultVar->Sem Value)).run P w'=.ok us w'/\RepL w' (hot c.M0 (Hof s'.h) μ) xs0 μ us []:=by
      rw[hr];exact y5f hΓ hW a.tmps h1 (fun _=>rfl) (fun _ _=>rfl) hres0 ho1
     obtain⟨us,hrun,hres⟩:=hmap;obtain⟨K,fp,hr1,hgone,hown⟩:=ymd hW (fun _ _ he _=>he) hres habs ho;have htops:=yod (fun _ _ he _=>he) hres habs
     have hnew:∀ b,b∈fp->w.heap.size<=b/\b<w'.heap.size:=by
      intro b hb;obtain⟨id,_,hid⟩:=hown.2 b hb;have:=hW.new id b hid;exact⟨this.1.resolve_left (by simp[c]),this.2⟩
     have hrL:RepL w' (fun b=>M b\/b∈fp) ys noMap us fp:=by
      rcases hflat with hnb|hfl
      ·exact RepL.noBor ys hnb hr1
      ·refine RepL.mono ys (Map.le_refl _) ⟨Nat.le_refl _,fun b _ hb hh=>hb ?_,fun _ _ _=>rfl⟩ hr1
       rcases hh with hh|hh
       ·exact .inl hh
       ·exact htops b (FlatOL.tops ys hfl hr1 b hh)
     refine⟨h3,(if h:us.toArray.size=1 then us.toArray[0]else .tuple us.toArray),?_,_,fp,rfl,hW.keep,?_,hown.1,fun b hb=>⟨.inr (hnew b hb).1,(hnew b hb).2⟩,?_⟩
     ·unfold results
      rw[Sem.run_bind, <- Array.toArray_toList (xs:=fn.results),List.mapM_toArray];simp only[Sem.run_map];erw [hrun]
      rfl
     ·exact y9c _ _ hpack (ydf hrL)
     ·intro b hb
      right
      exact(hnew b (y2f r (y9c _ _ hpack (ydf hrL)) b hb)).1
    ·exact hE.elim
   ·exact hE.elim
  cases e with
  | normal=>obtain⟨s',h1,h2⟩:=hp;exact main s' h1 h2
  | ret=>obtain⟨s',h1,h2⟩:=hp;exact main s' h1 h2
  | exit id=>obtain⟨s',h1,h2⟩:=hp;exact h1.elim
  | _=>exact hp.elim
end
end Go.Ab
namespace Go.Ab
open Go
variable [Inv]
section
variable {P:Program} {Γ:Env} {D:Dn} {c:Ctx} {a:Act} {w:World} {all:Array Oper} {Q:Exit->Act->World->Prop} {N:St->Prop} {E:Nat->St->Prop} {R:St->Prop}
theorem yem (hΓ:TyOk P Γ) (hD:DOk P D) {rest:List Oper}:∀ {os:List Oper} {s:St} {a:Act} {w:World} {t':List (Nat×AV)} {h':List Ent} {ob:List Prop},WRs c s a w->runA Γ D all os s.t s.h=some (t',h',ob)->allP ob ->
  y7c c.nt os=true->(∀ a w,WRs c ⟨t',h'⟩ a w->wpList P all Q rest a w)->wpList P all Q (os++rest) a w
 | [],s,a,w,t',h',ob,hs,hr,ho,hd,hQ=>by
  simp only[runA,Option.some.injEq,Prod.mk.injEq]at hr;obtain⟨rfl,rfl,_⟩:=hr;exact hQ a w hs
 | o::os,s,a,w,t',h',ob,hs,hr,ho,hd,hQ=>by
  simp only[runA]at hr
  cases h1:stepA Γ D all s.t s.h o with
  | none=>simp[h1]at hr
  | some p=>
   obtain⟨x,h2,ob1⟩:=p;simp only[h1]at hr
   cases h3:runA Γ D all os (put s.t o.dst x) h2 with
   | none=>simp[h3]at hr
   | some q=>
    obtain⟨t3,h3',ob3⟩:=q;simp only[h3,Option.some.injEq,Prod.mk.injEq]at hr;obtain⟨rfl,rfl,rfl⟩:=hr;obtain⟨ho1,ho2⟩:=yl.1 ho;have hd':=yaf hd;refine wpList_step fun K hK => ?_
    have h4:=ytq (Q:=Q) (K:=K) hΓ hD hs h1 ho1 hd'.1 (fun a' w' hs'=>hK a' w' (yem hΓ hD (s:=⟨put s.t o.dst x,h2⟩) hs' h3 ho2 hd'.2 hQ));exact h4
def ybu (Γ:Env) (D:Dn) (c:Ctx) (all:Array Oper) (pre:List Oper) (o:Oper) (os:List Oper) (s:St) (ms:List Bool) (args:List Operand) (az':List AV) (r:AV) (outs:List AV) (K:St->Prop):Prop:=
 match runA Γ D all pre s.t s.h with
 | some (t1,h1,ob)=>allP ob/\Rob c ⟨t1,h1⟩/\yku Γ D all o os ⟨t1,h1⟩ ms (args.map (opnd t1)) az' r outs K
 | none=>False
theorem AWP.deepG {s : St} {nt : Nat} (hΓ : TyOk P Γ) (hDD : DOk P D) (hn : c.nt = nt) {id : Nat} {ops : Array Oper} (m : Nat) {o : Oper} {os : List Oper} {f : FuncId} {args : List Operand} (ms : List Bool) {az' : List AV} {r : AV} {outs : List AV}
  (hl:ops.toList.drop m=o::os) (hd:y7c nt ops.toList=true) (hg:o.guard=none) (hc:callOf o.op=some (.func f,args)) (hD:DenD P f az' r outs) (hnb:NoBor r/\NoBorL outs) (hna:NoBorL az')
  (h:∀ K:St->Prop,(∀ s,N s->K s)->ybu Γ D c ops (ops.toList.take m) o os s ms args az' r outs K):AWP P c (.region id ops false) N E R s:=by
 refine⟨fun a w hs => ?_⟩;have h:=h _ fun _ h=>h
 have e:ops.toList=ops.toList.take m++o::os:=by rw[<- hl,List.take_append_drop]
 have hdp:y7c nt (ops.toList.take m)=true/\y7c nt (o::os)=true:=by
  rw[e]at hd;simpa only[y7c,List.all_append,Bool.and_eq_true]using hd
 unfold ybu at h;split at h
 ·rename_i t1 h1 ob hr
  obtain⟨ho,hrb,h⟩:=h;subst hn;refine wp_region_list ?_;rw[e];refine yem hΓ hDD hs hr ho hdp.1 fun a w hs => ?_
  unfold yku at h;split at h
  ·rename_i az h2 ob2 ha
   obtain⟨ho2,hsim,hnd,h⟩:=h;unfold after1 at h;split at h
   ·rename_i t' h' ob' hrun
    have hd':=yaf hdp.2;refine wpList_step fun K hK => ?_
    exact yu0 hs hrb hg hc ha ho2 hnb hna hsim hnd hD hd'.1 (fun a' w' hs'=>hK a' w' (yih hΓ hDD (s:=⟨put t1 o.dst (adR h1.length r),_⟩) hs' hrun h.1 hd'.2 fun a w hs'=>⟨_,h.2,hs'⟩))
   ·exact h.elim
  ·exact h.elim
 ·exact h.elim
end
def num {m:Nat} (_:Num m):Nat:=m
theorem rb {p:Prop} (h:p:=by refine⟨hdp,?_,?_⟩;all_goals (try simp only[robT,robH,robE,y2g,yvf,lit0,NoBor,NoBorL,ownL,sv,and_true,true_and,implies_true]);all_goals (repeat' first|with_reducible apply And.intro|intro _);all_goals first|trivial|assumption|exact hlit|exact hlit.1|exact hlit.2.1|exact hlit.2.2.1|exact hlit.2.2.2.1|exact hlit.1.1|exact hlit.2.1.1|exact hlit.2.1.2.1|exact hlit.1.2.1|exact hlit.2|exact hlit.2.2|exact hlit.2.2.2|(simp only[pw,Bool.cond_eq_ite];(repeat' split)<;>simp[NoBorL,NoBor,putL])|(simp[NoBorL,NoBor];(first|done|fail))):p:=h
theorem nb {p:Prop} (h:p:=by(try simp only[NoBor,NoBorL,ownL,sv,and_true,true_and,implies_true]);all_goals (repeat' first|with_reducible apply And.intro|intro _);all_goals first|trivial|(simp[NoBorL,NoBor];(first|done|fail))):p:=h
theorem rX (m:Nat) {A P Q:Prop} (hD:A) (k:Q) (h:Num m->A->Q->P:=by intro hm hD k;(repeat first|refine AWP.seq ?_|refine AWP.block ?_|refine AWP.skip ?_);refine AWP.deepG G_ok DD hc (num hm) [true,false] rfl (by kernel_rfl) rfl rfl hD nb nb (fun K hK => ?_);simp only[num,ybu,yku,List.map,List.take,ea,absV,absVL,cput,gv,sv,dn,reduceCtorEq,reduceIte,Nat.reduceBEq,Nat.reduceAdd,Nat.reduceEqDiff,Nat.reduceLT,Nat.reduceLeDiff,Nat.reduceMul,Nat.reduceSub,BEq.rfl,beq_self_eq_true,Int.reduceToNat];first|exact hK _ k|((repeat' apply And.intro)<;>first|exact hK _ k|(clear k hK K;exact rb)|(clear k hK K;exact ot)|(clear k hK K;exact sm))):P:=h trivial hD k
end Go.Ab
namespace Go.Ab
open Go
variable [Inv]
def DenI (P:Program) (f:FuncId) (k:Nat) (h:List Ent) (xs:List AV) (h':List Ent) (r:AV):Prop:=
 FnOk P f/\∀ (c:Ctx) (μ:Map) (FP:Nat->List Nat) (w:World) (vs:List Value),c.k0<=k->WR c (Hof h) μ FP w->Tail h μ->RepL w (hot c.M0 (Hof h) μ) xs μ vs [] ->
  Calls P f vs.toArray w fun e w'=>∃ v μ' FP',e=.returned v/\WR c (Hof h') μ' FP' w'/\Tail h' μ'/\Rep w' (hot c.M0 (Hof h') μ') r μ' v [] /\
   Same w (hot c.M0 (Hof h) μ) w' (hot c.M0 (Hof h') μ') []/\∀ id L,id<k->μ id=some L->μ' id=some L
def y2c (Γ:Env) (rs:List ResultVar) (k:Nat) (h':List Ent) (r:AV) (s:St):Prop:=
 match resA Γ s rs with
 | some (xs,o1)=>allP o1/\∃ rl,simK k rl ⟨[(0,packA xs)],s.h⟩ ⟨[(0,r)],h'⟩
 | none=>False
def ykw (h:List Ent) (μ:Map):List Nat:=
 (List.range h.length).flatMap fun id => match μ id, nthE h id with
  | some (.blk b _),some e=>bif e.live then[b]else[]
  | _,_=>[]
theorem y4e {h:List Ent} {μ:Map} {b:Nat}:b∈ykw h μ↔∃ id cap e,μ id=some (.blk b cap)/\nthE h id=some e/\e.live=true:=by
 unfold ykw;rw[List.mem_flatMap];constructor
 ·rintro⟨id,_,hb⟩
  split at hb
  ·rename_i b' cap e hm he
   cases hl:e.live with
   | false=>rw[hl]at hb;simp at hb
   | true=>
    rw[hl]at hb;simp only[cond_true,List.mem_singleton]at hb;subst hb;exact⟨id,cap,e,hm,he,hl⟩
  ·simp at hb
 ·rintro⟨id,cap,e,hm,he,hl⟩
  refine⟨id,List.mem_range.2 (ysb he),?_⟩;rw[hm,he];simp[hl]
theorem ybw {w:World} {M:Nat->Prop} {μ:Map} {ys:List AV} {us:List Value} {fp:List Nat} (h:RepL w M ys μ us fp) :
  Rep w M (packA ys) μ (if h:us.toArray.size=1 then us.toArray[0]else .tuple us.toArray) fp:=by
 match ys,us,h with
 | [],us,h=>
  simp only[RepL]at h;obtain⟨rfl,rfl⟩:=h;simp[packA,Rep,RepL]
 | [y],us,h=>
  simp only[RepL]at h;obtain⟨u,us',f1,f2,rfl,rfl,h1,rfl,rfl⟩:=h;simpa [packA]using h1
 | y::z::ys,us,h=>
  have hl:=h.length;have hne:¬ us.toArray.size=1:=by simp[hl]
  rw[dif_neg hne];simp only[packA,Rep];exact⟨us,rfl,h⟩
theorem ygs {P : Program} {f : FuncId} {fn : Func} {code : Code} {r : AV} {N : Nat} {rs : List ResultVar} {Γ : Env} {k : Nat} {h h' : List Ent} {t0 : List (Nat × AV)} {c : Ctx} {μ : Map} {FP : Nat -> List Nat} {w : World} {vs : List Value}
  (hΓ:TyOk P Γ) (hf:P.funcs[f]? = some fn) (hb:fn.body=some code) (hN:fn.ntmps=N) (hN0:0<N) (hr:fn.results.toList=rs) (hvl:vs.length<=N) (hk0:c.k0<=k) (hW:WR c (Hof h) μ FP w) (htl:Tail h μ)
  (ht:∀ i,Rep w (hot c.M0 (Hof h) μ) (get t0 i) μ (((vs++List.replicate (N-vs.length) undef)[i]?).getD undef) [])
  (hA:∀ c':Ctx,c'.w0=w->c'.M0=c.M0->(∀ b,b∈c'.F0->∃ id,id<h.length/\b∈FP id)->c'.nt=N->c'.k0=k->AWP P c' code (y2c Γ rs k h' r) (fun _ _=>False) (y2c Γ rs k h' r) ⟨t0,h⟩) :
  Calls P f vs.toArray w fun e w'=>∃ v μ' FP',e=.returned v/\WR c (Hof h') μ' FP' w'/\Tail h' μ'/\Rep w' (hot c.M0 (Hof h') μ') r μ' v [] /\
   Same w (hot c.M0 (Hof h) μ) w' (hot c.M0 (Hof h') μ') []/\∀ id L,id<k->μ id=some L->μ' id=some L:=by
 have hsz:=hW.keep.size
 have hidlt:∀ id b,b∈FP id->id<h.length:=fun id b hb=>Nat.lt_of_not_le fun hge=>by
  rw[hW.out id (htl id hge)]at hb;simp at hb
 have hF:∀ b,b∈(List.range h.length).flatMap FP->∃ id,id<h.length/\b∈FP id:=fun b hb=>by
  obtain⟨id,hid,hb⟩:=List.mem_flatMap.1 hb;exact⟨id,List.mem_range.1 hid,hb⟩
 have htopF:∀ b,b∈ykw h μ->b∈(List.range h.length).flatMap FP:=fun b hb=>by
  obtain⟨id,cap,e,hm,he,hl⟩:=y4e.1 hb;exact List.mem_flatMap.2 ⟨id,List.mem_range.2 (ysb he),(hW.lt hm he hl).1⟩
 have hcold:∀ b,c.M0 b->b<w.heap.size/\b∉(List.range h.length).flatMap FP:=fun b hb=>⟨Nat.lt_of_lt_of_le (c.cold0 b hb).1 hsz,fun hbf=>by
  obtain⟨id,_,hbi⟩:=hF b hbf;rcases(hW.new id b hbi).1 with h1|h1
  ·exact(c.cold0 b hb).2 h1
  ·have:=(c.cold0 b hb).1;omega⟩
 have hown:∀ b,b∈(List.range h.length).flatMap FP->b<w.heap.size:=fun b hb=>by obtain⟨id,_,hbi⟩:=hF b hb;exact(hW.new id b hbi).2
 have hbase:∀ id L,(if id<k then μ id else none)=some L->id<k:=fun id L hm=>by
  by_cases hlt:id<k
  ·exact hlt
  ·rw[if_neg hlt]at hm;cases hm
 have hinvM:∀ b,Inv.dom b->¬ c.M0 b/\b∉(List.range h.length).flatMap FP:=fun b hb=>⟨(c.invM b hb).1,fun hbf=>by obtain⟨id,_,hbi⟩:=hF b hbf;exact hW.inv_fp hb id hbi⟩
 let c':Ctx:={ w0:=w,M0:=c.M0,F0:=(List.range h.length).flatMap FP,T0:=ykw h μ,mu0:=(fun id=>if id<k then μ id else none),k0:=k,nt:=N,cold0:=hcold,own0:=hown,top0:=htopF,base0:=hbase,inv0:=hW.inv,invM:=hinvM }
 have hbs:c'.mu0.le μ:=fun id L hm=>by
  have hlt:=hbase id L hm;rw[show c'.mu0 id=if id<k then μ id else none from rfl,if_pos hlt]at hm;exact hm
 have hW0:WR c' (Hof h) μ FP w:=⟨⟨rfl,rfl,rfl,Nat.le_refl _,fun _ _ _=>rfl⟩,hbs,hW.ent,hW.out,hW.nodup,hW.disj,
  fun id b hb=>⟨.inl (List.mem_flatMap.2 ⟨id,List.mem_range.2 (hidlt id b hb),hb⟩),(hW.new id b hb).2⟩,
  fun id b cap e hm he hl=>.inl (y4e.2 ⟨id,cap,e,hm,he,hl⟩)⟩
 refine calls_of_wp hf hb ?_;refine wp_mono ((hA c' rfl rfl hF rfl rfl).run _ _ ⟨μ,FP,hW0,htl,?_,?_,rfl⟩) ?_
 ·intro i
  have e:(vs.toArray++Array.replicate (fn.ntmps-vs.toArray.size) undef).getD i undef=(((vs++List.replicate (N-vs.length) undef)[i]?).getD undef):=by
   rw[Array.getD_eq_getD_getElem?, <- Array.getElem?_toList];simp[hN]
  rw[e];exact ht i
 ·simp only[Array.size_append,List.size_toArray,Array.size_replicate]
  show vs.length+(fn.ntmps-vs.length)=N;omega
 ·intro e a w' hp
  have main:∀ s',y2c Γ rs k h' r s'->WRs c' s' a w'->bodyPost P fn (fun e w'=>∃ v μ' FP',e=.returned v/\WR c (Hof h') μ' FP' w'/\Tail h' μ'/\Rep w' (hot c.M0 (Hof h') μ') r μ' v [] /\
    Same w (hot c.M0 (Hof h) μ) w' (hot c.M0 (Hof h') μ') []/\∀ id L,id<k->μ id=some L->μ' id=some L) .ret a w':=by
   intro s' hE hs';simp only[y2c]at hE;split at hE
   ·rename_i xs0 o1 hres0
    obtain⟨ho1,rl,hsim⟩:=hE;obtain⟨μ1,FP1,hW1,htl1,h1,h2,h3⟩:=hs'
    have hmap:∃ us,(fn.results.toList.mapM (fun|.tmp t=>pure (a.tmps.getD t undef)|.cell b t=>do loadVar t (<- asAddr (a.tmps.getD b undef)):ResultVar->Sem Value)).run P w'=.ok us w'/\RepL w' (hot c'.M0 (Hof s'.h) μ1) xs0 μ1 us []:=by
     rw[hr];exact y5f hΓ hW1 a.tmps h1 (fun _=>rfl) (fun _ _=>rfl) hres0 ho1
    obtain⟨us,hrun,hres⟩:=hmap;have hv:=ybw hres;generalize hvd:(if h:us.toArray.size=1 then us.toArray[0]else Value.tuple us.toArray)=v at hv
    have hT1:WRs c' ⟨[(0,packA xs0)],s'.h⟩ { a with tmps:=(v::List.replicate (N-1) undef).toArray } w':=by
     refine⟨μ1,FP1,hW1,htl1,fun i => ?_,?_,h3⟩
     ·cases i with
      | zero=>simpa [get]using hv
      | succ i=>
       show Rep _ _ .any _ _ _;simp only[Rep]
     ·show(v::List.replicate (N-1) undef).toArray.size=N
      simp;omega
    obtain⟨μ',FP',hW',htl',hT',_⟩:=WRs.sim hsim hT1;have hrv:Rep w' (hot c.M0 (Hof h') μ') r μ' v []:=by simpa [get]using hT' 0
    refine⟨h3,v,?_,v,μ',FP',rfl,?_,htl',hrv,?_,?_⟩
    ·rw[<- hvd]
     unfold results;rw[Sem.run_bind, <- Array.toArray_toList (xs:=fn.results),List.mapM_toArray];simp only[Sem.run_map];erw [hrun]
     rfl
    ·have hkp:=hW'.keep
     refine⟨⟨hkp.os.trans hW.keep.os,hkp.tape.trans hW.keep.tape,hkp.output.trans hW.keep.output,Nat.le_trans hW.keep.size hkp.size,fun b hb hbt => ?_⟩,fun id L hm => ?_,hW'.ent,hW'.out,hW'.nodup,hW'.disj,fun id b hb => ?_,fun id b cap e hm he hl => ?_⟩
     ·rw[hkp.block b (Nat.lt_of_lt_of_le hb hsz) (fun hbt' => ?_),hW.keep.block b hb hbt]
      obtain⟨id,cap,e,hm,he,hl⟩:=y4e.1 hbt';rcases hW.top id b cap e hm he hl with h4|h4
      ·exact hbt h4
      ·omega
     ·have hlt:=c.base0 id L hm
      refine hW'.base id L ?_;show(if id<k then μ id else none)=some L;rw[if_pos (by omega)];exact hW.base id L hm
     ·obtain⟨g1,g2⟩:=hW'.new id b hb
      refine⟨?_,g2⟩;rcases g1 with g1|g1
      ·obtain⟨id',_,hbi⟩:=hF b g1
       exact(hW.new id' b hbi).1
      ·exact .inr (Nat.le_trans hsz g1)
     ·rcases hW'.top id b cap e hm he hl with g1|g1
      ·obtain⟨id',cap',e',hm',he',hl'⟩:=y4e.1 g1
       exact hW.top id' b cap' e' hm' he' hl'
      ·exact .inr (Nat.le_trans hsz g1)
    ·have htop:∀ b,b∈ykw h μ->hot c.M0 (Hof h) μ b:=fun b hb=>by
      obtain⟨id,cap,e,hm,he,hl⟩:=y4e.1 hb;exact .inr ⟨id,cap,e,hm,he,hl⟩
     refine⟨hW'.keep.size,fun b hb hcold hh => ?_,fun b hb hh => ?_⟩
     ·rcases hh with hh|⟨id,cap,e,hm,he,hl⟩
      ·exact hcold (.inl hh)
      ·rcases hW'.top id b cap e hm he hl with g1|g1
       ·exact hcold (htop b g1)
       ·have:w.heap.size<=b:=g1
        omega
     ·exact hW'.keep.block b hb fun hbt=>hh.resolve_right (by simp) (htop b hbt)
    ·intro id L hlt hm
     refine hW'.base id L ?_;show(if id<k then μ id else none)=some L;rw[if_pos hlt];exact hm
   ·exact hE.elim
  cases e with
  | normal=>obtain⟨s',h1,h2⟩:=hp;exact main s' h1 h2
  | ret=>obtain⟨s',h1,h2⟩:=hp;exact main s' h1 h2
  | exit id=>obtain⟨s',h1,h2⟩:=hp;exact h1.elim
  | _=>exact hp.elim
theorem ydt {P : Program} {f : FuncId} {fn : Func} {code : Code} {xs : List AV} {r : AV} {N : Nat} {rs : List ResultVar} {Γ : Env} {k : Nat} {h h' : List Ent}
  (hΓ:TyOk P Γ) (hf:P.funcs[f]? = some fn) (hname:(fn.name == "runtime.NumGoroutine")=false) (hb:fn.body=some code) (hN:fn.ntmps=N) (hN0:0<N) (hr:fn.results.toList=rs) (hlen:xs.length<=N)
  (hA:∀ c:Ctx,ydc xs->c.nt=N->c.k0=k->AWP P c code (y2c Γ rs k h' r) (fun _ _=>False) (y2c Γ rs k h' r) ⟨pars 0 xs,h⟩):DenI P f k h xs h' r:=by
 refine⟨⟨fn,hf,hname,by rw[hb];rfl⟩,fun c μ FP w vs hk0 hW htl hxs => ?_⟩;have hvl:=hxs.length;refine ygs hΓ hf hb hN hN0 hr (by omega) hk0 hW htl (fun i => ?_) fun c' _ _ _ hn hk=>hA c' (RepL.lens xs hxs) hn hk
 have:=yce (k:=0) (i:=i) (rest:=List.replicate (N-vs.length) undef) hxs (Nat.zero_le _);simpa using this
theorem yop {P : Program} {f : FuncId} {fn : Func} {code : Code} {xs : List AV} {r : AV} {N : Nat} {rs : List ResultVar} {Γ : Env} {h' : List Ent}
  (hΓ:TyOk P Γ) (hf:P.funcs[f]? = some fn) (hname:(fn.name == "runtime.NumGoroutine")=false) (hb:fn.body=some code) (hN:fn.ntmps=N) (hN0:0<N) (hr:fn.results.toList=rs) (hlen:xs.length<=N)
  (hA:∀ (c:Ctx) (u:Nat->Value),(∀ b,b∈c.F0->b∈c.T0)->litR c (litN u 0 xs)->ydc xs->c.nt=N->c.k0=0->AWP P c code (y2c Γ rs 0 h' r) (fun _ _=>False) (y2c Γ rs 0 h' r) ⟨pars 0 (litN u 0 xs),[]⟩):DenI P f 0 [] xs h' r:=by
 refine⟨⟨fn,hf,hname,by rw[hb];rfl⟩,fun c μ FP w vs hk0 hW htl hxs => ?_⟩;have hvl:=hxs.length;obtain rfl:μ=noMap:=funext fun id=>htl id (Nat.zero_le _)
 have hhot:∀ b,hot c.M0 (Hof []) noMap b->c.M0 b:=by
  rintro b (hb|⟨id,cap,e,hm,_⟩)
  ·exact hb
  ·cases hm
 have hls:RepL w (hot c.M0 (Hof []) noMap) (litN (fun i=>vs.getD i undef) 0 xs) noMap vs []:=y9l (fun i=>by simp) hxs;refine ygs hΓ hf hb hN hN0 hr (by omega) hk0 hW htl (t0:=pars 0 (litN (fun i=>vs.getD i undef) 0 xs)) (fun i => ?_) fun c' hw0 hM0 hF0 hn hk=>hA c' (fun i=>vs.getD i undef) (fun b hb => ?_) ?_ (RepL.lens xs hxs) hn hk
 ·have:=yce (k:=0) (i:=i) (rest:=List.replicate (N-vs.length) undef) hls (Nat.zero_le _)
  simpa using this
 ·obtain⟨id,hid,_⟩:=hF0 b hb
  simp at hid
 ·refine yw0 (c:=c') (M:=hot c.M0 (Hof []) noMap) (vs:=vs) (fun b hb => ?_) (fun i=>by simp) (by rw[hw0];exact hxs)
  rcases hb with hb|hb
  ·rw[hM0]at hb;exact .inl hb
  ·obtain⟨id,hid,_⟩:=hF0 b hb
   simp at hid
end Go.Ab
namespace Go.Ab
open Go
variable [Inv]
def y3c (k : Nat) : AV -> AV
 | .int a b=>.int a b
 | .bool b=>.bool b
 | .str l=>.str l
 | .nils=>.nils
 | .sl none e n f=>.sl none e n f
 | .ep cs=>.ep cs
 | .lit u x=>.lit u x
 | .ptr id o=>bif Nat.blt id k then .ptr id o else .any
 | _=>.any
def ypc (k : Nat) : List (Nat × AV) -> List (Nat × AV)
 | []=>[]
 | (i,x)::t=>(i,y3c k x)::ypc k t
theorem ywq (k i : Nat) : ∀ t : List (Nat × AV), get (ypc k t) i = y3c k (get t i)
 | []=>rfl
 | (j,x)::t=>by
  simp only[ypc,get]
  cases Nat.beq i j with
  | true=>rfl
  | false=>exact ywq k i t
theorem y0x {k:Nat} {w w':World} {M M':Nat->Prop} {μ μ':Map} (hs:Same w M w' M' []) (hm:∀ id L,id<k->μ id=some L->μ' id=some L):∀ {x:AV} {v:Value},Rep w M x μ v []->Rep w' M' (y3c k x) μ' v []:=by
 intro x v h
 cases x with
 | int a b=>simpa only[y3c,Rep]using h
 | bool b=>simpa only[y3c,Rep]using h
 | str l=>simpa only[y3c,Rep]using h
 | nils=>simpa only[y3c,Rep]using h
 | sl o e n f=>
  cases o with
  | none=>
   have h2:=Rep.mono (.sl none e n f) (Map.le_refl μ) hs h;simpa only[y3c,Rep]using h2
  | some T=>simp only[y3c,Rep]
 | ep cs=>
  have h2:=Rep.mono (.ep cs) (Map.le_refl μ) hs h;simpa only[y3c,Rep]using h2
 | lit u x=>
  have h2:=Rep.mono (.lit u x) (Map.le_refl μ) hs h;simpa only[y3c,Rep]using h2
 | ptr id o=>
  simp only[y3c]
  cases hb:Nat.blt id k with
  | true=>
   simp only[cond_true,Rep]at h ⊢;obtain⟨_,b,cap,h1,h2⟩:=h;exact⟨trivial,b,cap,hm id _ (by rw[Nat.blt_eq]at hb;exact hb) h1,h2⟩
  | false=>simp only[cond_false,Rep]
 | _=>simp only[y3c,Rep]
section
variable {P:Program} {Γ:Env} {D:Dn} {c:Ctx} {s:St} {a:Act} {w:World} {all:Array Oper} {o:Oper} {Q:Exit->Act->World->Prop} {N:St->Prop} {E:Nat->St->Prop} {R:St->Prop}
theorem y01 {f : FuncId} {args : List Operand} {k : Nat} {h' : List Ent} {r : AV} (hs : WRs c s a w) (hg : o.guard = none) (hc : callOf o.op = some (.func f, args)) (hk : c.k0 <= k)
  (hD:DenI P f k s.h (args.map (opnd s.t)) h' r) (hd:∀ d,o.dst=some d->d<c.nt) {K:Act->World->Prop} (hK:∀ a' w',WRs c ⟨put (ypc k s.t) o.dst r,h'⟩ a' w'->K a' w') :
  if Region.wanted o (yielded all a.tmps)then o.wp P a w K Q else K (a.put o.dst undef) w:=by
 obtain⟨μ,FP,hW,hdd,hT⟩:=hs;have hw:Region.wanted o (yielded all a.tmps)=true:=by unfold Region.wanted;rw[hg]
 rw[if_pos hw];have has:=yed (M:=hot c.M0 (Hof s.h) μ) (μ:=μ) (w:=w) (α:=opnd s.t) (ρ:=a.eval) (l:=args) (fun z _=>ybe hT z);have hcalls:=hD.2 c μ FP w _ hk hW hdd has;obtain⟨fn,hfn,hname,hbody⟩:=hD.1
 have hrun:(execOp a.eval o).run P w=.ok (.enter f (args.map a.eval).toArray) w:=by
  unfold callOf at hc;split at hc
  ·rename_i cl hop
   split at hc
   ·rename_i fo hcal
    simp only[Option.some.injEq,Prod.mk.injEq]at hc;obtain⟨rfl,rfl⟩:=hc;have hfv:a.eval (.func f)=.func (.func f) #[] #[]:=rfl;simp only[execOp,hop,resolve,hcal,hfv,Deferred.ofValue,Sem.run_bind,Sem.run_pure,Result.andThen_ok,invoke,callFunc,run_program,hfn,hname,hbody]
    have e:(#[]:Array Value)++cl.args.map a.eval ++ #[]=(cl.args.toList.map a.eval).toArray:=by
     apply Array.ext';simp
    rw[e];rfl
   ·simp at hc
  ·simp at hc
 unfold Oper.wp;rw[hrun];show Calls P f _ w _;refine hcalls.mono ?_;rintro e w' ⟨v,μ',FP',rfl,hW',htl,hrr,hsame,hmk⟩
 refine hK _ _ ⟨μ',FP',hW',htl,?_,?_,?_⟩
 ·have old:∀ i,Rep w' (hot c.M0 (Hof h') μ') (get (ypc k s.t) i) μ' (a.tmps.getD i undef) []:=fun i=>by
   rw[ywq];exact y0x hsame hmk (hT.1 i)
  intro i
  cases hdst:o.dst with
  | none=>exact old i
  | some d=>
   have hlt:d<a.tmps.size:=by rw[hT.2.1];exact hd d hdst
   simp only;rw[ykd];by_cases hi:i=d
   ·subst hi
    rw[if_pos rfl];have:(a.put (some i) v).tmps.getD i undef=v:=by simp[Act.put,hlt]
    rw[this];exact hrr
   ·rw[if_neg hi]
    have:(a.put (some d) v).tmps.getD i undef=a.tmps.getD i undef:=by
     simp only[Act.put,Array.getD_eq_getD_getElem?];rw[Array.getElem?_setIfInBounds_ne (fun e=>hi e.symm)]
    rw[this];exact old i
 ·cases hdst:o.dst with
  | none=>exact hT.2.1
  | some d=>simpa [Act.put]using hT.2.1
 ·cases hdst:o.dst with
  | none=>exact hT.2.2
  | some d=>simpa [Act.put]using hT.2.2
def yke (Γ:Env) (D:Dn) (all:Array Oper) (pre:List Oper) (o:Oper) (os:List Oper) (s:St) (args:List Operand) (k:Nat) (hh:List Ent) (xs:List AV) (h':List Ent) (r:AV) (K:St->Prop):Prop:=
 match runA Γ D all pre s.t s.h with
 | some (t1,h1,ob)=>allP ob/\h1=hh/\args.map (opnd t1)=xs/\after1 (runA Γ D all os (put (ypc k t1) o.dst r) h') K
 | none=>False
theorem AWP.callI {s : St} {nt : Nat} (hΓ : TyOk P Γ) (hDD : DOk P D) (hn : c.nt = nt) {id : Nat} {ops : Array Oper} (m : Nat) {o : Oper} {os : List Oper} {f : FuncId} {args : List Operand} {k : Nat} {hh : List Ent} {xs : List AV} {h' : List Ent} {r : AV}
  (hD:DenI P f k hh xs h' r) (hk:c.k0<=k) (hl:ops.toList.drop m=o::os) (hd:y7c nt ops.toList=true) (hg:o.guard=none) (hc:callOf o.op=some (.func f,args))
  (h:∀ K:St->Prop,(∀ s,N s->K s)->yke Γ D ops (ops.toList.take m) o os s args k hh xs h' r K):AWP P c (.region id ops false) N E R s:=by
 refine⟨fun a w hs => ?_⟩;have h2:=h _ fun _ h=>h
 clear h;have e:ops.toList=ops.toList.take m++o::os:=by rw[<- hl,List.take_append_drop]
 have hdp:y7c nt (ops.toList.take m)=true/\y7c nt (o::os)=true:=by
  rw[e]at hd;simpa only[y7c,List.all_append,Bool.and_eq_true]using hd
 unfold yke at h2;split at h2
 ·rename_i t1 h1 ob hr
  obtain⟨ho,rfl,rfl,h3⟩:=h2;subst hn;refine wp_region_list ?_;rw[e];refine yem hΓ hDD hs hr ho hdp.1 fun a w hs => ?_
  unfold after1 at h3;split at h3
  ·rename_i t' h'' ob' hrun
   have hd':=yaf hdp.2;refine wpList_step fun K hK => ?_
   exact y01 hs hg hc hk hD hd'.1 (fun a' w' hs'=>hK a' w' (yih hΓ hDD (s:=⟨put (ypc k t1) o.dst r,_⟩) hs' hrun h3.1 hd'.2 fun a w hs'=>⟨_,h3.2,hs'⟩))
  ·exact h3.elim
 ·exact h2.elim
end
end Go.Ab
