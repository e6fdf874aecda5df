/- A part of a proof: walks of functions and lemmas of our own. No conditions. -/
import Derived.Test.YthadgghdkkapaaaGreatDoorMAm
import Derived.Test.YthadgghdkkapaaaGreatDoorMAk
import Derived.KernelRfl
import Derived.Test.YthadgghdkkapaaaGreatDoorMAe
import Derived.HandedShaped
import Derived.LaidLaws
set_option linter.unusedSectionVars false
set_option linter.unusedVariables false
set_option linter.unusedSimpArgs false
namespace Go.Ab
open Go
variable [Inv]
def y1q (v : Value) : AV -> AV
 | .sl o e n f=>.lit v (.sl o e n f)
 | x=>x
def litM (u : Nat -> Value) : Nat -> List AV -> List AV
 | _,[]=>[]
 | k,x::xs=>y1q (u k) x::litM u (k+1) xs
def ynr (v:Value) (k:Nat):Value:=
 match v with
 | .agg us=>us.toList.getD k undef
 | _=>undef
def lit1 (v : Value) : AV -> AV
 | .sl o e n f=>.lit v (.sl o e n f)
 | .agg cs=>.agg (litM (ynr v) 0 cs)
 | x=>x
def litN (u : Nat -> Value) : Nat -> List AV -> List AV
 | _,[]=>[]
 | k,x::xs=>lit1 (u k) x::litN u (k+1) xs
def y6p (c : Ctx) : List AV -> Prop
 | []=>True
 | .lit u y::xs=>Rep c.w0 (fun b=>c.M0 b\/b∈c.F0) y yg u []/\y6p c xs
 | _::xs=>y6p c xs
def litR (c : Ctx) : List AV -> Prop
 | []=>True
 | .lit u y::xs=>Rep c.w0 (fun b=>c.M0 b\/b∈c.F0) y yg u []/\litR c xs
 | .agg cs::xs=>y6p c cs/\litR c xs
 | _::xs=>litR c xs
theorem yhs {w:World} {M:Nat->Prop} {x:AV} {v:Value} (h:Rep w M x yg v []):Rep w M (y1q v x) yg v []:=by
 cases x with
 | sl o e n f=>simp only[y1q];unfold Rep;exact⟨rfl,rfl,h⟩
 | _=>exact h
theorem y3k {w : World} {M : Nat -> Prop} {u : Nat -> Value} : ∀ {k : Nat} {xs : List AV} {vs : List Value}, (∀ i, u (k + i) = vs.getD i undef) -> RepL w M xs yg vs [] -> RepL w M (litM u k xs) yg vs []
 | k,[],vs,_,h=>by simpa only[litM]using h
 | k,x::xs,vs,hu,h=>by
  simp only[RepL]at h;simp only[litM,RepL];obtain⟨v,vs',f1,f2,rfl,e,h1,h2⟩:=h;obtain⟨rfl,rfl⟩:=List.append_eq_nil_iff.1 e.symm;have h0:=hu 0;simp only[Nat.add_zero,List.getD_cons_zero]at h0;refine⟨v,vs',[],[],rfl,rfl,by rw[h0];exact yhs h1,y3k (fun i => ?_) h2⟩;have:=hu (i+1);rw[show k+1+i=k+(i+1)by omega];simpa using this
theorem yyk (us:List Value) (i:Nat):ynr (.agg us.toArray) (0+i)=us.getD i undef:=by simp[ynr]
theorem y1t {w:World} {M:Nat->Prop} {x:AV} {v:Value} (h:Rep w M x yg v []):Rep w M (lit1 v x) yg v []:=by
 cases x with
 | sl o e n f=>simp only[lit1];unfold Rep;exact⟨rfl,rfl,h⟩
 | agg cs=>
  simp only[lit1,Rep]at h ⊢;obtain⟨us,rfl,h⟩:=h;exact⟨us,rfl,y3k (yyk us) h⟩
 | _=>exact h
theorem yep {w : World} {M : Nat -> Prop} {u : Nat -> Value} : ∀ {k : Nat} {xs : List AV} {vs : List Value}, (∀ i, u (k + i) = vs.getD i undef) -> RepL w M xs yg vs [] -> RepL w M (litN u k xs) yg vs []
 | k,[],vs,_,h=>by simpa only[litN]using h
 | k,x::xs,vs,hu,h=>by
  simp only[RepL]at h;simp only[litN,RepL];obtain⟨v,vs',f1,f2,rfl,e,h1,h2⟩:=h;obtain⟨rfl,rfl⟩:=List.append_eq_nil_iff.1 e.symm;have h0:=hu 0;simp only[Nat.add_zero,List.getD_cons_zero]at h0;refine⟨v,vs',[],[],rfl,rfl,by rw[h0];exact y1t h1,yep (fun i => ?_) h2⟩;have:=hu (i+1);rw[show k+1+i=k+(i+1)by omega];simpa using this
theorem yox {c : Ctx} {M : Nat -> Prop} {u : Nat -> Value} (hM : ∀ b, (c.M0 b \/ b ∈ c.F0) -> M b) : ∀ {k : Nat} {xs : List AV} {vs : List Value}, (∀ i, u (k + i) = vs.getD i undef) -> RepL c.w0 M xs yg vs [] -> y6p c (litM u k xs)
 | k,[],vs,_,h=>trivial
 | k,x::xs,vs,hu,h=>by
  simp only[RepL]at h;obtain⟨v,vs',f1,f2,rfl,e,h1,h2⟩:=h;obtain⟨rfl,rfl⟩:=List.append_eq_nil_iff.1 e.symm;have h0:=hu 0;simp only[Nat.add_zero,List.getD_cons_zero]at h0
  have ih:=yox (c:=c) hM (k:=k+1) (xs:=xs) (vs:=vs') (fun i=>by
   have:=hu (i+1);rw[show k+1+i=k+(i+1)by omega]
   simpa using this) h2
  simp only[litM];rw[h0];have h3:Rep c.w0 (fun b=>c.M0 b\/b∈c.F0) x yg v []:=yec hM h1
  cases x with
  | lit _ _=>simp only[y1q,y6p];unfold Rep at h3;exact⟨by rw[<- h3.2.1];exact h3.2.2,ih⟩
  | sl o e n f=>exact⟨h3,ih⟩
  | _=>exact ih
theorem yvz {c : Ctx} {M : Nat -> Prop} {u : Nat -> Value} (hM : ∀ b, (c.M0 b \/ b ∈ c.F0) -> M b) : ∀ {k : Nat} {xs : List AV} {vs : List Value}, (∀ i, u (k + i) = vs.getD i undef) -> RepL c.w0 M xs yg vs [] -> litR c (litN u k xs)
 | k,[],vs,_,h=>trivial
 | k,x::xs,vs,hu,h=>by
  simp only[RepL]at h;obtain⟨v,vs',f1,f2,rfl,e,h1,h2⟩:=h;obtain⟨rfl,rfl⟩:=List.append_eq_nil_iff.1 e.symm;have h0:=hu 0;simp only[Nat.add_zero,List.getD_cons_zero]at h0
  have ih:=yvz (c:=c) hM (k:=k+1) (xs:=xs) (vs:=vs') (fun i=>by
   have:=hu (i+1);rw[show k+1+i=k+(i+1)by omega]
   simpa using this) h2
  simp only[litN];rw[h0];have h3:Rep c.w0 (fun b=>c.M0 b\/b∈c.F0) x yg v []:=yec hM h1
  cases x with
  | lit _ _=>simp only[lit1,litR];unfold Rep at h3;exact⟨by rw[<- h3.2.1];exact h3.2.2,ih⟩
  | sl o e n f=>exact⟨h3,ih⟩
  | agg cs=>
   simp only[Rep]at h1;obtain⟨us,rfl,h1⟩:=h1;exact⟨yox hM (yyk us) h1,ih⟩
  | _=>exact ih
section
variable {P:Program}
theorem y0p {f : FuncId} {fn : Func} {code : Code} {xs : List AV} {r : AV} {N : Nat} {rs : List ResultVar} {Γ : Env} (hΓ : TyOk P Γ) (hf : P.funcs[f]? = some fn) (hname : (fn.name == "runtime.NumGoroutine") = false) (hb : fn.body = some code)
  (hN:fn.ntmps=N) (hr:fn.results.toList=rs) (hlen:xs.length<=N) (hx:noIdL xs=true) (h:∀ (c:Ctx) (u:Nat->Value),(∀ b,b∈c.F0->b∈c.T0)->litR c (litN u 0 xs)->ymc xs->c.nt=N->c.k0=0->AWP P c code (Ends Γ rs r) (fun _ _=>False) (Ends Γ rs r) ⟨pars 0 (litN u 0 xs),[]⟩):Den P f xs r:=by
 refine⟨⟨fn,hf,hname,by rw[hb];rfl⟩,?_⟩;intro w M vs fpA hI hIM hA hAn hAm hM;have hfpA:fpA=[]:=yle xs hx hA;subst hfpA
 have htop:yx xs vs=[]:=by
  apply List.eq_nil_iff_forall_not_mem.2;intro b hb;have:=yrb xs hA b hb;simp at this
 rw[htop]at hA ⊢;let c:Ctx:={ w0:=w,M0:=M,F0:=[],T0:=[],mu0:=yg,k0:=0,base0:=by simp[yg],nt:=N,cold0:=fun b hb=>⟨hM b hb,by simp⟩,own0:=by simp,top0:=by simp,inv0:=hI,invM:=fun b hb=>⟨(hIM b hb).1,by simp⟩}
 have hhot:∀ b,hot c.M0 (Hof []) yg b->M b:=by
  rintro b (hb|⟨id,cap,e,hm,_⟩)
  ·exact hb
  ·cases hm
 have hA':RepL w (hot c.M0 (Hof []) yg) (litN (fun i=>vs.getD i undef) 0 xs) yg vs []:=yep (fun i=>by simp) (yoc (fun b hb=>.inl (hhot b hb)) hA);have hlit:litR c (litN (fun i=>vs.getD i undef) 0 xs):=yvz (c:=c) (M:=fun b=>M b\/b∈([]:List Nat)) (fun b h=>h) (fun i=>by simp) hA;have hvl:=hA.length;refine calls_of_wp hf hb ?_;refine wp_mono ((h c (fun i=>vs.getD i undef) (by intro b hb;exact hb) hlit (RepL.lens xs hA) rfl rfl).run _ _ ⟨yg,fun _=>[],⟨⟨rfl,rfl,rfl,Nat.le_refl _,fun _ _ _=>rfl⟩,Map.le_refl _,?_,?_,?_,?_,?_,?_⟩,?_,?_,?_,rfl⟩) ?_
 ·intro id L hm;cases hm
 ·intro _ _;rfl
 ·intro _;simp
 ·intro i j _ b hb;simp at hb
 ·intro i b hb;simp at hb
 ·intro id b cap e hm;cases hm
 ·intro _ _;rfl
 ·intro i
  have:=y9e (k:=0) (i:=i) (rest:=(Array.replicate (fn.ntmps-vs.toArray.size) undef).toList) hA' (Nat.zero_le _)
  have e:(vs.toArray++Array.replicate (fn.ntmps-vs.toArray.size) undef).getD i undef=(((vs++(Array.replicate (fn.ntmps-vs.toArray.size) undef).toList)[i-0]?).getD undef):=by
   rw[Array.getD_eq_getD_getElem?, <- Array.getElem?_toList];simp
  rw[e];exact this
 ·simp only[Array.size_append,List.size_toArray,Array.size_replicate]
  show vs.length+(fn.ntmps-vs.length)=N;omega
 ·intro e a w' hp
  have main:∀ s',Ends Γ rs r s'->WRs c s' a w'->bodyPost P fn (fun e w'=>∃ v fpR,e=.returned v/\Keep w [] w'/\Rep w' (fun b=>M b\/b∈fpR) r yg v fpR/\fpR.Nodup /\
    (∀ b,b∈fpR->(b∈([]:List Nat)\/w.heap.size<=b)/\b<w'.heap.size)/\(∀ b,b∈tops r v->b∈([]:List Nat)\/w.heap.size<=b)) .ret a w':=by
   intro s' hE hs';simp only[Ends]at hE;split at hE
   ·rename_i xs0 o1 hres0
    split at hE
    ·rename_i ys h' ob habs
     obtain⟨ho1,ho,hflat,hpack⟩:=hE;obtain⟨μ,FP,hW,htl,h1,h2,h3⟩:=hs'
     have hmap:∃ us,(fn.results.toList.mapM (fun|.tmp t=>pure (a.tmps.getD t undef)|.cell b t=>do loadVar t (<- asAddr (a.tmps.getD b undef)):ResultVar->Sem Value)).run P w'=.ok us w'/\RepL w' (hot c.M0 (Hof s'.h) μ) xs0 μ us []:=by
      rw[hr];exact ybg hΓ hW a.tmps h1 (fun _=>rfl) (fun _ _=>rfl) hres0 ho1
     obtain⟨us,hrun,hres⟩:=hmap;obtain⟨K,fp,hr1,hgone,hown⟩:=ydd hW (fun _ _ he _=>he) hres habs ho;have htops:=y8c (fun _ _ he _=>he) hres habs
     have hnew:∀ b,b∈fp->w.heap.size<=b/\b<w'.heap.size:=by
      intro b hb;obtain⟨id,_,hid⟩:=hown.2 b hb;have:=hW.new id b hid;exact⟨this.1.resolve_left (by simp[c]),this.2⟩
     have hrL:RepL w' (fun b=>M b\/b∈fp) ys yg us fp:=by
      rcases hflat with hnb|hfl
      ·exact RepL.noBor ys hnb hr1
      ·refine RepL.mono ys (Map.le_refl _) ⟨Nat.le_refl _,fun b _ hb hh=>hb ?_,fun _ _ _=>rfl⟩ hr1
       rcases hh with hh|hh
       ·exact .inl hh
       ·exact htops b (FlatOL.tops ys hfl hr1 b hh)
     refine⟨h3,(if h:us.toArray.size=1 then us.toArray[0]else .tuple us.toArray),?_,_,fp,rfl,hW.keep,?_,hown.1,fun b hb=>⟨.inr (hnew b hb).1,(hnew b hb).2⟩,?_⟩
     ·unfold results
      rw[Sem.run_bind, <- Array.toArray_toList (xs:=fn.results),List.mapM_toArray];simp only[Sem.run_map];erw [hrun]
      rfl
     ·exact y3c _ _ hpack (yce hrL)
     ·intro b hb
      right
      exact(hnew b (y5e r (y3c _ _ hpack (yce hrL)) b hb)).1
    ·exact hE.elim
   ·exact hE.elim
  cases e with
  | normal=>obtain⟨s',h1,h2⟩:=hp;exact main s' h1 h2
  | ret=>obtain⟨s',h1,h2⟩:=hp;exact main s' h1 h2
  | exit id=>obtain⟨s',h1,h2⟩:=hp;exact h1.elim
  | _=>exact hp.elim
end
end Go.Ab
namespace Go.Ab
open Go
variable [Inv]
section
variable {P:Program} {Γ:Env} {D:Dn} {c:Ctx} {a:Act} {w:World} {all:Array Oper} {Q:Exit->Act->World->Prop} {N:St->Prop} {E:Nat->St->Prop} {R:St->Prop}
theorem ycp (hΓ:TyOk P Γ) (hD:DOk P D) {rest:List Oper}:∀ {os:List Oper} {s:St} {a:Act} {w:World} {t':List (Nat×AV)} {h':List Ent} {ob:List Prop},WRs c s a w->runA Γ D all os s.t s.h=some (t',h',ob)->allP ob ->
  yyd c.nt os=true->(∀ a w,WRs c ⟨t',h'⟩ a w->wpList P all Q rest a w)->wpList P all Q (os++rest) a w
 | [],s,a,w,t',h',ob,hs,hr,ho,hd,hQ=>by
  simp only[runA,Option.some.injEq,Prod.mk.injEq]at hr;obtain⟨rfl,rfl,_⟩:=hr;exact hQ a w hs
 | o::os,s,a,w,t',h',ob,hs,hr,ho,hd,hQ=>by
  simp only[runA]at hr
  cases h1:stepA Γ D all s.t s.h o with
  | none=>simp[h1]at hr
  | some p=>
   obtain⟨x,h2,ob1⟩:=p;simp only[h1]at hr
   cases h3:runA Γ D all os (put s.t o.dst x) h2 with
   | none=>simp[h3]at hr
   | some q=>
    obtain⟨t3,h3',ob3⟩:=q;simp only[h3,Option.some.injEq,Prod.mk.injEq]at hr;obtain⟨rfl,rfl,rfl⟩:=hr;obtain⟨ho1,ho2⟩:=yh.1 ho;have hd':=ygg hd;refine wpList_step fun K hK => ?_
    have h4:=y4m (Q:=Q) (K:=K) hΓ hD hs h1 ho1 hd'.1 (fun a' w' hs'=>hK a' w' (ycp hΓ hD (s:=⟨put s.t o.dst x,h2⟩) hs' h3 ho2 hd'.2 hQ));exact h4
def y2r (Γ:Env) (D:Dn) (c:Ctx) (all:Array Oper) (pre:List Oper) (o:Oper) (os:List Oper) (s:St) (ms:List Bool) (args:List Operand) (az':List AV) (r:AV) (outs:List AV) (K:St->Prop):Prop:=
 match runA Γ D all pre s.t s.h with
 | some (t1,h1,ob)=>allP ob/\Rob c ⟨t1,h1⟩/\yxs Γ D all o os ⟨t1,h1⟩ ms (args.map (opnd t1)) az' r outs K
 | none=>False
theorem AWP.deepG {s : St} {nt : Nat} (hΓ : TyOk P Γ) (hDD : DOk P D) (hn : c.nt = nt) {id : Nat} {ops : Array Oper} (m : Nat) {o : Oper} {os : List Oper} {f : FuncId} {args : List Operand} (ms : List Bool) {az' : List AV} {r : AV} {outs : List AV}
  (hl:ops.toList.drop m=o::os) (hd:yyd nt ops.toList=true) (hg:o.guard=none) (hc:callOf o.op=some (.func f,args)) (hD:DenD P f az' r outs) (hnb:NoBor r/\NoBorL outs) (hna:NoBorL az')
  (h:∀ K:St->Prop,(∀ s,N s->K s)->y2r Γ D c ops (ops.toList.take m) o os s ms args az' r outs K):AWP P c (.region id ops false) N E R s:=by
 refine⟨fun a w hs => ?_⟩;have h:=h _ fun _ h=>h
 have e:ops.toList=ops.toList.take m++o::os:=by rw[<- hl,List.take_append_drop]
 have hdp:yyd nt (ops.toList.take m)=true/\yyd nt (o::os)=true:=by
  rw[e]at hd;simpa only[yyd,List.all_append,Bool.and_eq_true]using hd
 unfold y2r at h;split at h
 ·rename_i t1 h1 ob hr
  obtain⟨ho,hrb,h⟩:=h;subst hn;refine wp_region_list ?_;rw[e];refine ycp hΓ hDD hs hr ho hdp.1 fun a w hs => ?_
  unfold yxs at h;split at h
  ·rename_i az h2 ob2 ha
   obtain⟨ho2,hsim,hnd,h⟩:=h;unfold after1 at h;split at h
   ·rename_i t' h' ob' hrun
    have hd':=ygg hdp.2;refine wpList_step fun K hK => ?_
    exact ybz hs hrb hg hc ha ho2 hnb hna hsim hnd hD hd'.1 (fun a' w' hs'=>hK a' w' (y3h hΓ hDD (s:=⟨put t1 o.dst (adR h1.length r),_⟩) hs' hrun h.1 hd'.2 fun a w hs'=>⟨_,h.2,hs'⟩))
   ·exact h.elim
  ·exact h.elim
 ·exact h.elim
end
def num {m:Nat} (_:Num m):Nat:=m
theorem rb {p:Prop} (h:p:=by refine⟨hdp,?_,?_⟩;all_goals (try simp only[robT,robH,robE,yrh,yml,lit0,NoBor,NoBorL,ownL,sv,and_true,true_and,implies_true]);all_goals (repeat' first|with_reducible apply And.intro|intro _);all_goals first|trivial|assumption|exact hlit|exact hlit.1|exact hlit.2.1|exact hlit.2.2.1|exact hlit.2.2.2.1|exact hlit.1.1|exact hlit.2.1.1|exact hlit.2.1.2.1|exact hlit.1.2.1|exact hlit.2|exact hlit.2.2|exact hlit.2.2.2|(simp only[pw,Bool.cond_eq_ite];(repeat' split)<;>simp[NoBorL,NoBor,putL])|(simp[NoBorL,NoBor];(first|done|fail))):p:=h
theorem nb {p:Prop} (h:p:=by(try simp only[NoBor,NoBorL,ownL,sv,and_true,true_and,implies_true]);all_goals (repeat' first|with_reducible apply And.intro|intro _);all_goals first|trivial|(simp[NoBorL,NoBor];(first|done|fail))):p:=h
theorem rX (m:Nat) {A P Q:Prop} (hD:A) (k:Q) (h:Num m->A->Q->P:=by intro hm hD k;(repeat first|refine AWP.seq ?_|refine AWP.block ?_|refine AWP.skip ?_);refine AWP.deepG G_ok DD hc (num hm) [true,false] rfl (by kernel_rfl) rfl rfl hD nb nb (fun K hK => ?_);simp only[num,y2r,yxs,List.map,List.take,ea,absV,absVL,cput,gv,sv,dn,reduceCtorEq,reduceIte,Nat.reduceBEq,Nat.reduceAdd,Nat.reduceEqDiff,Nat.reduceLT,Nat.reduceLeDiff,Nat.reduceMul,Nat.reduceSub,BEq.rfl,beq_self_eq_true,Int.reduceToNat];first|exact hK _ k|((repeat' apply And.intro)<;>first|exact hK _ k|(clear k hK K;exact rb)|(clear k hK K;exact ot)|(clear k hK K;exact sm))):P:=h trivial hD k
end Go.Ab
namespace Go.Ab
open Go
variable [Inv]
variable {P:Program} {c:Ctx} {s:St} {N:St->Prop} {E:Nat->St->Prop} {R:St->Prop}
theorem AWP.arrS {code : Code} (id : Nat) {T : TypeId} {e n : Nat} {f : Nat -> List AV} (f' : Nat -> List AV) (hid : nthE s.h id = some (.arr T e n f)) (hx : ∀ i, i < n -> simOL (f i) (f' i))
  (h:AWP P c code N E R ⟨s.t,setE s.h id (.arr T e n f')⟩):AWP P c code N E R s:=by
 refine⟨fun a w hs=>h.run a w ?_⟩;obtain⟨μ,FP,hW,htl,h1,h2,h3⟩:=hs;have hlt:=y3b hid
 have hget:∀ k,nthE (setE s.h id (.arr T e n f')) k=if k=id then some (.arr T e n f')else nthE s.h k:=by
  intro k;rw[yp];by_cases hk:k=id
  ·subst hk;rw[if_pos ⟨rfl,hlt⟩,if_pos rfl]
  ·rw[if_neg (fun h=>hk h.1),if_neg hk]
 have hhot:∀ b,hot c.M0 (Hof (setE s.h id (.arr T e n f'))) μ b->hot c.M0 (Hof s.h) μ b:=by
  rintro b (hb|⟨k,cap,e',hm,he,hl⟩)
  ·exact .inl hb
  ·right
   rw[show Hof (setE s.h id (.arr T e n f')) k=nthE (setE s.h id (.arr T e n f')) k from rfl,hget]at he;by_cases hk:k=id
   ·subst hk;exact⟨k,cap,_,hm,hid,rfl⟩
   ·rw[if_neg hk]at he;exact⟨k,cap,e',hm,he,hl⟩
 have hsm:∀ fq,Same w (hot c.M0 (Hof s.h) μ) w (hot c.M0 (Hof (setE s.h id (.arr T e n f'))) μ) fq:=fun fq=>⟨Nat.le_refl _,fun b _ hb hh=>hb (hhot b hh),fun _ _ _=>rfl⟩
 refine⟨μ,FP,⟨hW.keep,hW.base,?_,hW.out,hW.nodup,hW.disj,hW.new,?_⟩,?_,fun i=>Rep.mono _ (Map.le_refl _) (hsm _) (h1 i),h2,h3⟩
 ·intro k L hk
  obtain⟨e2,g1,g2⟩:=hW.ent k L hk;have g3:=ygb.mono (Map.le_refl _) (hsm _) (fun b hb=>(hW.new k b hb).2) g2;rw[show Hof (setE s.h id (.arr T e n f')) k=nthE (setE s.h id (.arr T e n f')) k from rfl,hget];by_cases hki:k=id
  ·subst hki
   rw[show Hof s.h k=nthE s.h k from rfl,hid]at g1;cases g1
   refine⟨_,if_pos rfl,?_⟩
   cases L with
   | nil=>exact g3
   | blk b cap=>
    obtain⟨cur,us,fps,q1,q2,q3,q4,q5,q6⟩:=g3;exact⟨cur,us,fps,q1,q2,q3,q4,fun i hi=>⟨yub _ _ (hx i hi) (q5 i hi).1,(q5 i hi).2⟩,q6⟩
  ·exact⟨e2,by rw[if_neg hki];exact g1,g3⟩
 ·intro k b cap e' hm he hli
  rw[show Hof (setE s.h id (.arr T e n f')) k=nthE (setE s.h id (.arr T e n f')) k from rfl,hget]at he;by_cases hki:k=id
  ·subst hki;exact hW.top k b cap _ hm hid rfl
  ·rw[if_neg hki]at he;exact hW.top k b cap e' hm he hli
 ·intro k hk
  rw[yr]at hk;exact htl k hk
theorem yjn (t : List (Nat × AV)) : ∀ (ks : List Nat) (i : Nat), get (ks.map fun k => (k, get t k)) i = get t i \/ get (ks.map fun k => (k, get t k)) i = .any
 | [],i=>by simp[get]
 | k::ks,i=>by
  simp only[List.map,get]
  cases hb:Nat.beq i k with
  | true=>left;have:=Nat.eq_of_beq_eq_true hb;subst this;first|rfl|simp
  | false=>first|exact yjn t ks i|simpa using yjn t ks i
theorem AWP.keepT {code:Code} (ks:List Nat) (h:AWP P c code N E R ⟨ks.map fun k=>(k,get s.t k),s.h⟩):AWP P c code N E R s:=by
 refine⟨fun a w hs=>h.run a w ?_⟩;obtain⟨μ,FP,hW,htl,h1,h2,h3⟩:=hs;refine⟨μ,FP,hW,htl,fun i => ?_,h2,h3⟩;rcases yjn s.t ks i with e|e
 ·rw[show get (⟨ks.map fun k=>(k,get s.t k),s.h⟩:St).t i=get s.t i from e];exact h1 i
 ·rw[show get (⟨ks.map fun k=>(k,get s.t k),s.h⟩:St).t i=.any from e];simp[Rep]
theorem yev {α:Type} [Inhabited α] (n i:Nat):(List.replicate n (default:α)).getD i default=default:=by
 rw[List.getD_eq_getElem?_getD,List.getElem?_replicate];split<;>rfl
theorem zs {p:Prop} (h:p:=by(intro i hi;rw[yev];(repeat' first|exact rfl|exact trivial|refine⟨?_,?_⟩));first|done|fail):p:=h
end Go.Ab
namespace Go.Ab
open Go
variable {H:Type} {enc:TypeId×Value->H}
theorem ygc {a : Assume} {C : Checked} {os : Os} {f : FuncId} {fn : Func} {s : ChangeSpec} {conds : List PathCond} {apart fresh handsOn again : Bool} {X : World -> Array Value -> Prop}
  (hX:∀ (w w':World) (args:Array Value),w.heap=w'.heap->X w args->X w' args)
  (own:ownKnob C.prog.godebug=none) (started:os.Started) (noInit:C.prog.inits.idxOf? f=none) (hfn:C.prog.funcs[f]? = some fn)
  (witness:∃ (w:World) (tape:Tape) (i:Input),w.os=os/\(w.forCall tape i).Shaped C.prog/\i.vars=[]/\Input.okWide C.prog (w.forCall tape i) .any w.heap.size f i /\
   ((s.pre enc C.prog fn conds apart (w.forCall tape i).memory i.args/\X (w.forCall tape i).memory i.args)/\sizedMet enc C.prog fn (OpenSpec.ofChange s) apart (w.forCall tape i).memory i.args)/\a.holds C.prog (lone (Frame.enter C.prog f i.args .normal) [] (w.forCall tape i)))
  (contract:∀ (W:World) (base:Nat) (args:Array Value) (ds gs:List (DataW H)) (before:List MemPlace),
   (∀ (j:Nat) t v,fn.params[j]? = some t->args[j]? = some v->Value.okWide C.prog W .any base t v) ->
   DataW.Whole enc C.prog fn.params.toList s.vars apart W args.toList ds gs before ->
   conds.all (PathCond.test C.prog ⟨fn.params.toList,ds,s.plain.varTypes C.prog,gs⟩)=true->X W args->W.ShapedOpen C.prog ->
   Calls C.prog f args W fun e W'=>∃ v,e=.returned v/\s.post enc C.prog fn apart fresh handsOn again W args v W') :
  ReturnsInHanded a C os f .any (fun w args=>(s.pre enc C.prog fn conds apart w args/\X w args)/\sizedMet enc C.prog fn (OpenSpec.ofChange s) apart w args) (s.post enc C.prog fn apart fresh handsOn again):=by
 refine returnsInHanded_of_calls own started noInit witness ?_;intro w tape i _ hsh _ hok hpre hholds;obtain⟨_,_,_,fn',hfn',_,_,_,_,hval⟩:=hok;have e:fn'=fn:=Option.some.inj (hfn'.symm.trans hfn);subst e;obtain⟨⟨⟨ds,gs,before,hw,hc⟩,hx⟩,hz⟩:=hpre;have hw':=DataW.Whole.of_heap (w':=w.forCall tape i) (by rfl) hw;refine(contract (w.forCall tape i) w.heap.size i.args ds gs before hval hw' hc (hX _ _ _ (by rfl) hx) hsh).mono fun e W' ⟨v,he,hp⟩ => ?_
 subst he;exact ChangeSpec.post_blind hp
end Go.Ab
