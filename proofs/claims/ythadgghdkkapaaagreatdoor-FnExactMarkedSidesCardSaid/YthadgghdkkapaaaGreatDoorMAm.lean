/- A part of a proof: walks of functions and lemmas of our own. No conditions. -/
import Derived.Test.YthadgghdkkapaaaGreatDoorMAk
import Derived.Laws.Externs
import Derived.Lib.Overlaps
import Derived.Laws.CopyRow
import Derived.Lib.Walk
import Derived.Deep.RegionLaw
import Derived.Shelf.RegionOpenPlain
import Derived.Test.YthadgghdkkapaaaGreatDoorMAd
set_option linter.unusedSectionVars false
set_option linter.unusedVariables false
set_option linter.unusedSimpArgs false
namespace Go.Ab
open Go
variable [Inv]
theorem ywy {w w' : World} {M' : Nat -> Prop} {T : TypeId} {e n : Nat} {ob : Option Nat} {f : Nat -> List AV} {us : Nat -> List Value} {fps : Nat -> List Nat} {row : List Value} {b' cap' : Nat} {cur' : Array Value}
  (ho:AppOut w w' T e n 0 ob row [] b' cap' cur') (hrow:row=(List.range n).flatMap us)
  (hel:∀ i,i<n->RepL w' M' (f i) yg (us i) (fps i)/\(us i).length=e/\∀ u∈us i,u.oneCell'=true) :
  Rep w' M' (.sl (some T) e n f) yg (.slice (some ⟨b',0,none⟩) n cap') (b'::(List.range n).flatMap fps):=by
 simp only[Rep]
 have hlt:b'<w'.heap.size:=by
  have:=ho.row;exact(Array.getElem?_eq_some_iff.1 this).1
 refine .inr ⟨b',0,cap',us,fps,rfl,⟨by have:=ho.fit;omega,by have:=ho.fit;have:=ho.big;omega⟩,hlt,fun i hi => ?_,rfl,rfl,cur',ho.row,ho.len,ho.big⟩;obtain⟨h1,h2,h3⟩:=hel i hi;refine⟨h1,h2,fun j u hu => ?_⟩;have hj:j<e:=by rw[<- h2];exact(List.getElem?_eq_some_iff.1 hu).1
 have hlt2:i * e+j<n * e:=by
  have:(i+1) * e<=n * e:=Nat.mul_le_mul_right _ hi;rw[Nat.add_mul,Nat.one_mul]at this;omega
 refine⟨?_,h3 u (List.mem_of_getElem? hu)⟩;rw[cell_of_row w' b' _ cur' T (0,0) ho.row,Nat.zero_add,ho.olds _ hlt2,hrow,ywc (fun i hi=>(hel i hi).2.1) hi hj];exact hu
end Go.Ab
namespace Go.Ab
open Go
variable [Inv]
theorem Den.plain {P : Program} {f : FuncId} {xs : List AV} {r : AV} (hok : FnOk P f) (hno : NoOwnL xs)
  (h:∀ (w:World) (M:Nat->Prop) (vs:List Value),Inv.ok w->RepL w M xs yg vs []->Calls P f vs.toArray w fun e w'=>∃ v,e=.returned v/\Grow w w'/\∀ M',Rep w' M' r yg v []):Den P f xs r:=by
 refine⟨hok,?_⟩;intro w M vs fpA i1 i2 hr hnd hM hlt;have hfp:=NoOwnL.fp xs hno hr;subst hfp
 have htop:yx xs vs=[]:=by
  apply List.eq_nil_iff_forall_not_mem.2;intro b hb;have:=yrb xs hr b hb;simp at this
 refine(h w _ vs i1 hr).mono ?_;rintro e w' ⟨v,rfl,hg,hv⟩
 refine⟨v,[],rfl,⟨hg.os,hg.tape,hg.output,hg.size,fun k hk _=>hg.block k hk⟩,hv _,List.nodup_nil,by simp,fun b hb => ?_⟩;have:=y5e r (hv (fun _=>False)) b hb;simp at this
theorem Den.fresh {α : Type} [Inhabited α] {P : Program} {f : FuncId} {xs : List AV} {T : TypeId} {e : Nat} {enc : α -> List AV} {l : List α} (hok : FnOk P f) (hno : NoOwnL xs)
  (us:Nat->List Value) (hus:∀ w M i,i<l.length->RepL w M (enc (l.getD i default)) yg (us i) []/\(us i).length=e/\∀ u∈us i,u.oneCell'=true)
  (h:∀ (w:World) (M:Nat->Prop) (vs:List Value),Inv.ok w->RepL w M xs yg vs []->Calls P f vs.toArray w fun ex w'=>∃ b' cap' cur',ex=.returned (.slice (some ⟨b',0,none⟩) l.length cap')/\AppOut w w' T e l.length 0 none ((List.range l.length).flatMap us) [] b' cap' cur') :
  Den P f xs (ownL T e enc l):=by
 refine⟨hok,?_⟩;intro w M vs fpA i1 i2 hr hnd hM hlt;have hfp:=NoOwnL.fp xs hno hr;subst hfp;refine(h w _ vs i1 hr).mono ?_;rintro ex w' ⟨b',cap',cur',rfl,ho⟩
 have hb:b'=w.heap.size:=by
  rcases ho.place with h|h
  ·cases h
  ·exact h
 have hf:(List.range l.length).flatMap (fun _=>([]:List Nat))=[]:=by simp
 have hR:=ywy (M':=fun c=>M c\/c∈[b']) (f:=fun k=>enc (l.getD k default)) (us:=us) (fps:=fun _=>[]) ho rfl (fun i hi=>hus w' _ i hi);rw[hf]at hR;refine⟨_,[b'],rfl,⟨ho.os,ho.tape,ho.output,ho.size,fun k hk _=>ho.other k hk (by omega)⟩,hR,by simp,?_,?_⟩
 ·intro b hb2
  simp only[List.mem_singleton]at hb2;subst hb2;exact⟨.inr (by omega),(Array.getElem?_eq_some_iff.1 ho.row).1⟩
 ·intro b hb2
  simp only[tops,y1b,ownL,List.mem_singleton]at hb2;subst hb2;exact .inr (by omega)
theorem ygn (w:World) (T:TypeId) (l:List Value) (hm:l.length<=maxLen) :
  AppOut w (w.alloc (.cells l.toArray T)) T 1 l.length 0 none ((List.range l.length).flatMap fun i=>[l.getD i default]) [] w.heap.size l.length l.toArray:=by
 have hflat:(List.range l.length).flatMap (fun i=>[l.getD i default])=l:=by
  have : ∀ (k : List Nat), k.flatMap (fun i => [l.getD i default]) = k.map (fun i => l.getD i default) := fun k => by induction k with
   | nil=>rfl
   | cons a k ih=>rw[List.flatMap_cons,ih];rfl
  rw[this];exact yz l
 refine⟨rfl,rfl,rfl,by simp,?_,heap_alloc_new w _,by simp,by simp,hm,?_,fun j hj=>by omega,.inr rfl⟩
 ·intro k hk _
  show(w.heap.push _)[k]? = _;rw[Array.getElem?_push,if_neg (by omega)]
 ·intro j hj
  rw[hflat];simp
end Go.Ab
namespace Go.Ab
open Go
variable [Inv]
structure ElT (P:Program) (tS tE:TypeId) (e bytes:Nat) (i:TypeInfo) (z:Value):Prop where
 und:P.underlying tS=some (.slice tE)
 inf:P.info? tE=some i
 zero:i.zero=some z
 size:i.size=e
 byt:i.bytes=bytes
 zs:z.cells.size=e
 pos:0<e
 zone:∀ u∈z.cells,u.oneCell'=true
end Go.Ab
namespace Go.Ab
open Go
variable [Inv]
def DenD (P:Program) (f:FuncId) (xs:List AV) (r:AV) (outs:List AV):Prop:=
 FnOk P f/\∀ (w:World) (M:Nat->Prop) (vs:List Value) (fpA:List Nat),Inv.ok w->(∀ b,Inv.dom b->¬ M b/\b∉fpA) ->
  RepL w (fun b=>M b\/b∈fpA) xs yg vs fpA->fpA.Nodup->(∀ b,b∈fpA->¬ M b)->(∀ b,M b->b<w.heap.size) ->
  Calls P f vs.toArray w fun e w'=>∃ v fpR fpO,e=.returned v/\Keep w fpA w'/\Rep w' (fun b=>M b\/b∈fpR++fpO) r yg v fpR /\
   RepL w' (fun b=>M b\/b∈fpR++fpO) outs yg vs fpO/\(fpR++fpO).Nodup /\
   (∀ b,b∈fpR++fpO->(b∈fpA\/w.heap.size<=b)/\b<w'.heap.size)
section
variable {P:Program}
theorem ybq {f : FuncId} {fn : Func} {code : Code} {xs : List AV} {r : AV} {outs : List AV} {gb : List Bool} {N : Nat} {rs : List ResultVar} {Γ : Env} (hΓ : TyOk P Γ) (hf : P.funcs[f]? = some fn) (hname : (fn.name == "runtime.NumGoroutine") = false)
  (hb:fn.body=some code) (hN:fn.ntmps=N) (hr:fn.results.toList=rs) (hlen:xs.length<=N)
  (h:∀ c:Ctx,(∀ b,b∈c.F0->b∈c.T0)->ymc xs->c.nt=N->c.k0=(adEL xs).length->AWP P c code (EndsM Γ rs (posL gb (adRL 0 xs)) r outs) (fun _ _=>False) (EndsM Γ rs (posL gb (adRL 0 xs)) r outs) ⟨pars 0 (adRL 0 xs),adEL xs⟩):DenD P f xs r outs:=by
 refine⟨⟨fn,hf,hname,by rw[hb];rfl⟩,?_⟩;intro w M vs fpA hI hIM hA0 hAn hAm hM;have hA:RepL w (fun b=>M b\/b∈yx xs vs) xs yg vs fpA:=RepL.mono xs (Map.le_refl _) ⟨Nat.le_refl _,fun b _ hb hh=>hb (hh.imp id fun h=>yrb xs hA0 b h),fun _ _ _=>rfl⟩ hA0;obtain⟨ls,hAd,hAdR⟩:=yth xs hA;have hlsn:=ycb (ls:=ls) (by rw[<- hAd.fps];exact hAn);have hlt:∀ b,b∈fpA->b<w.heap.size:=RepL.fp_lt xs hA;have htf:∀ b,b∈yx xs vs->b∈fpA:=yrb xs hA
 have hfpA:∀ (k:Nat) (L:Loc) (fq:List Nat),ls[k]? = some (L,fq)->∀ b,b∈fq->b∈fpA:=fun k L fq hk b hb=>by
  rw[hAd.fps];exact List.mem_flatten.2 ⟨fq,List.mem_map.2 ⟨(L,fq),List.mem_of_getElem? hk,rfl⟩,hb⟩
 let μ0:Map:=fun j=>(ls[j]?).map (·.1)
 let FP0:Nat->List Nat:=fun j=>((ls[j]?).map (·.2)).getD []
 have hbase:∀ j L,μ0 j=some L->j<(adEL xs).length:=by
  intro j L hj;simp only[μ0]at hj
  cases hls:ls[j]? with
  | none=>simp[hls]at hj
  | some p=>rw[<- hAd.len];exact(List.getElem?_eq_some_iff.1 hls).1
 let c:Ctx:={ w0:=w,M0:=M,F0:=fpA,T0:=fpA,mu0:=μ0,k0:=(adEL xs).length,nt:=N,cold0:=fun b hb=>⟨hM b hb,fun h=>hAm b h hb⟩,own0:=hlt,top0:=fun _ h=>h,base0:=hbase,inv0:=hI,invM:=hIM }
 have hhot:∀ b,hot c.M0 (Hof (adEL xs)) μ0 b->M b\/b∈yx xs vs:=by
  rintro b (hb|⟨id,cap,e,hm,he,hl⟩)
  ·exact .inl hb
  ·right
   simp only[μ0]at hm
   cases hls:ls[id]? with
   | none=>simp[hls]at hm
   | some p=>
    obtain⟨L,fq⟩:=p;simp only[hls,Option.map_some,Option.some.injEq]at hm;subst hm;simp only[Hof,ydb]at he;exact(hAd.ok id e _ fq he hls).2 b cap rfl
 have hR0:RepL w (fun b=>M b\/b∈yx xs vs) (adRL 0 xs) μ0 vs []:=hAdR 0 μ0 (fun j L fq hj=>by simp only[μ0,Nat.zero_add,hj];rfl);have hA':RepL w (hot c.M0 (Hof (adEL xs)) μ0) (adRL 0 xs) μ0 vs []:=yoc hhot hR0;have hvl:=hA.length;have hal:(adRL 0 xs).length=xs.length:=by rw[<- hA'.length,hvl]
 refine calls_of_wp hf hb ?_;refine wp_mono ((h c (fun _ h=>h) (RepL.lens xs hA) rfl rfl).run _ _ ⟨μ0,FP0,⟨⟨rfl,rfl,rfl,Nat.le_refl _,fun _ _ _=>rfl⟩,Map.le_refl _,?_,?_,?_,?_,?_,?_⟩,?_,?_,?_,rfl⟩) ?_
 ·intro id L hm
  simp only[μ0]at hm
  cases hls:ls[id]? with
  | none=>simp[hls]at hm
  | some p=>
   obtain⟨L',fq⟩:=p;simp only[hls,Option.map_some,Option.some.injEq]at hm;subst hm;have hid:id<(adEL xs).length:=by rw[<- hAd.len];exact(List.getElem?_eq_some_iff.1 hls).1
   refine⟨_,by simp only[Hof,ydb];exact List.getElem?_eq_getElem hid,?_⟩;have hok:=(hAd.ok id _ _ fq (List.getElem?_eq_getElem hid) hls).1 μ0;simp only[FP0,hls,Option.map_some,Option.getD_some];exact ygb.mono (Map.le_refl _) ⟨Nat.le_refl _,fun b _ hb hh=>hb (hhot b hh),fun _ _ _=>rfl⟩ (fun b hb=>hlt b (hfpA _ _ _ hls b hb)) hok
 ·intro id hm
  simp only[μ0]at hm;simp only[FP0]
  cases hls:ls[id]? with
  | none=>rfl
  | some p=>simp[hls]at hm
 ·intro id
  simp only[FP0]
  cases hls:ls[id]? with
  | none=>simp
  | some p=>obtain⟨L,fq⟩:=p;exact hlsn.1 id L fq hls
 ·intro i j hij b hbi hbj
  simp only[FP0]at hbi hbj
  cases hli:ls[i]? with
  | none=>simp[hli]at hbi
  | some p=>
   cases hlj:ls[j]? with
   | none=>simp[hlj]at hbj
   | some q=>
    obtain⟨L1,f1⟩:=p;obtain⟨L2,f2⟩:=q;simp only[hli,hlj,Option.map_some,Option.getD_some]at hbi hbj;exact hlsn.2 i j L1 f1 L2 f2 hij hli hlj b hbi hbj
 ·intro i b hb
  simp only[FP0]at hb
  cases hls:ls[i]? with
  | none=>simp[hls]at hb
  | some p=>
   obtain⟨L,fq⟩:=p;simp only[hls,Option.map_some,Option.getD_some]at hb;exact⟨.inl (hfpA _ _ _ hls b hb),hlt b (hfpA _ _ _ hls b hb)⟩
 ·intro id b cap e hm he hl
  left
  refine htf b ?_;simp only[μ0]at hm
  cases hls:ls[id]? with
  | none=>simp[hls]at hm
  | some p=>
   obtain⟨L,fq⟩:=p;simp only[hls,Option.map_some,Option.some.injEq]at hm;subst hm;simp only[Hof,ydb]at he;exact(hAd.ok id e _ fq he hls).2 b cap rfl
 ·intro j hj
  simp only[μ0];rw[List.getElem?_eq_none (by rw[hAd.len];exact hj)];rfl
 ·intro i
  have:=y9e (k:=0) (i:=i) (rest:=(Array.replicate (fn.ntmps-vs.toArray.size) undef).toList) hA' (Nat.zero_le _)
  have e:(vs.toArray++Array.replicate (fn.ntmps-vs.toArray.size) undef).getD i undef=(((vs++(Array.replicate (fn.ntmps-vs.toArray.size) undef).toList)[i-0]?).getD undef):=by
   rw[Array.getD_eq_getD_getElem?, <- Array.getElem?_toList];simp
  rw[e];exact this
 ·simp only[Array.size_append,List.size_toArray,Array.size_replicate]
  show vs.length+(fn.ntmps-vs.length)=N;omega
 ·intro e a w' hp
  have main:∀ s',EndsM Γ rs (posL gb (adRL 0 xs)) r outs s'->WRs c s' a w'->bodyPost P fn (fun e w'=>∃ v fpR fpO,e=.returned v/\Keep w fpA w'/\Rep w' (fun b=>M b\/b∈fpR++fpO) r yg v fpR /\
    RepL w' (fun b=>M b\/b∈fpR++fpO) outs yg vs fpO/\(fpR++fpO).Nodup/\(∀ b,b∈fpR++fpO->(b∈fpA\/w.heap.size<=b)/\b<w'.heap.size)) .ret a w':=by
   intro s' hE hs';simp only[EndsM]at hE;split at hE
   ·rename_i xs0 o1 hres0
    split at hE
    ·rename_i ys h' ob habs
     split at hE
     ·rename_i zs h'' ob2 hback
      obtain⟨ho1,ho,ho2,hnb,hpack,hsim⟩:=hE;obtain⟨μ,FP,hW,htl,h1,h2,h3⟩:=hs'
      have hmap:∃ us,(fn.results.toList.mapM (fun|.tmp t=>pure (a.tmps.getD t undef)|.cell b t=>do loadVar t (<- asAddr (a.tmps.getD b undef)):ResultVar->Sem Value)).run P w'=.ok us w'/\RepL w' (hot c.M0 (Hof s'.h) μ) xs0 μ us []:=by
       rw[hr];exact ybg hΓ hW a.tmps h1 (fun _=>rfl) (fun _ _=>rfl) hres0 ho1
      obtain⟨us,hrun,hres⟩:=hmap;obtain⟨K1,fp1,hr1,hgone1,hown1⟩:=ydd hW (fun _ _ he _=>he) hres habs ho;have htops1:=y8c (fun _ _ he _=>he) hres habs;have hpos:RepL w' (hot c.M0 (Hof s'.h) μ) (posL gb (adRL 0 xs)) μ vs []:=y2g hW.base hR0;obtain⟨K2,fp2,hr2,hgone2,hown2,htops2⟩:=y0e hW (fun id e he hl=>hgone1.sub id e he hl) hpos hback ho2;have hown:=Owns.app hW hgone1 hgone2 hown1 hown2
      have hnew:∀ b,b∈fp1++fp2->(b∈fpA\/w.heap.size<=b)/\b<w'.heap.size:=by
       intro b hb;obtain⟨id,_,hid⟩:=hown.2 b hb;exact hW.new id b hid
      let v0:Value:=if h:us.toArray.size=1 then us.toArray[0]else .tuple us.toArray
      have hYZ:RepL w' (fun b=>M b\/b∈fp1++fp2) ys yg us fp1/\RepL w' (fun b=>M b\/b∈fp1++fp2) zs yg vs fp2:=by
       rcases hnb with⟨hnb1,hnb2⟩|⟨hf1,hf2⟩
       ·exact⟨RepL.noBor ys hnb1 hr1,RepL.noBor zs hnb2 hr2⟩
       ·have hcold:∀ b,b<w'.heap.size->¬ hot c.M0 (Hof s'.h) μ b->¬ (M b\/b∈fp1++fp2):=by
         rintro b _ hn (hm|hm)
         ·exact hn (.inl hm)
         ·rcases List.mem_append.1 hm with hm|hm
          ·exact hn (htops1 b (FlatOL.tops ys hf1 hr1 b hm))
          ·exact hn (htops2 b (FlatOL.tops zs hf2 hr2 b hm))
        exact⟨RepL.mono ys (Map.le_refl _) ⟨Nat.le_refl _,hcold,fun _ _ _=>rfl⟩ hr1,RepL.mono zs (Map.le_refl _) ⟨Nat.le_refl _,hcold,fun _ _ _=>rfl⟩ hr2⟩
      have hrp1:Rep w' (fun b=>M b\/b∈fp1++fp2) (packA ys) yg v0 fp1:=yce hYZ.1;refine⟨h3,v0,?_,v0,fp1,fp2,rfl,hW.keep,?_,?_,hown.1,hnew⟩
      ·unfold results
       rw[Sem.run_bind, <- Array.toArray_toList (xs:=fn.results),List.mapM_toArray];simp only[Sem.run_map];erw [hrun]
       rfl
      ·exact y3c _ _ hpack hrp1
      ·exact yub _ _ hsim hYZ.2
     ·exact hE.elim
    ·exact hE.elim
   ·exact hE.elim
  cases e with
  | normal=>obtain⟨s',h1,h2⟩:=hp;exact main s' h1 h2
  | ret=>obtain⟨s',h1,h2⟩:=hp;exact main s' h1 h2
  | exit id=>obtain⟨s',h1,h2⟩:=hp;exact h1.elim
  | _=>exact hp.elim
end
end Go.Ab
namespace Go.Ab
open Go
variable [Inv]
def lit0 (c : Ctx) : AV -> Prop
 | .lit u y=>Rep c.w0 (fun b=>c.M0 b\/b∈c.F0) y yg u []
 | x=>NoBor x
def yml (c : Ctx) : List AV -> Prop
 | []=>True
 | x::xs=>lit0 c x/\yml c xs
def yrh (c : Ctx) : AV -> Prop
 | .lit u y=>Rep c.w0 (fun b=>c.M0 b\/b∈c.F0) y yg u []
 | .agg cs=>yml c cs
 | x=>NoBor x
def robT (c : Ctx) : List (Nat × AV) -> Prop
 | []=>True
 | p::t=>yrh c p.2/\robT c t
def robE (c : Ctx) : Ent -> Prop
 | .box cs=>yml c cs
 | .arr _ _ n f=>∀ i,i<n->NoBorL (f i)
 | _=>True
def robH (c : Ctx) : List Ent -> Prop
 | []=>True
 | e::h=>robE c e/\robH c h
structure Rob (c:Ctx) (s:St):Prop where
 deep:∀ b,b∈c.F0->b∈c.T0
 tm:robT c s.t
 hp:robH c s.h
section
variable {c:Ctx} {H:Hp} {μ:Map} {FP:Nat->List Nat} {w:World}
theorem ygk {c : Ctx} : ∀ {t : List (Nat × AV)} (i : Nat), robT c t -> yrh c (get t i)
 | [],i,_=>by simp[get,yrh,NoBor]
 | (j,x)::t,i,h=>by
  simp only[robT]at h;simp only[get]
  cases Nat.beq i j with
  | true=>exact h.1
  | false=>exact ygk i h.2
theorem y8g : ∀ {h : List Ent} {id : Nat} {e : Ent}, robH c h -> nthE h id = some e -> robE c e
 | [],_,_,_,he=>by simp[nthE]at he
 | x::h,0,e,hr,he=>by
  simp only[nthE,Option.some.injEq]at he;subst he;exact hr.1
 | x::h,id+1,e,hr,he=>y8g hr.2 (by simpa [nthE]using he)
theorem y3m (hk:Keep c.w0 c.T0 w) (ht:∀ id b cap e,μ id=some (.blk b cap)->H id=some e->e.live=true->b∈c.T0\/c.w0.heap.size<=b) {y:AV} {u:Value} (h:Rep c.w0 (fun b=>c.M0 b\/b∈c.F0) y yg u []):Rep w (hot c.M0 H μ) y yg u []:=by
 refine Rep.mono y (Map.le_refl _) ⟨hk.size,?_,?_⟩ h
 ·rintro b hb hn (h1|⟨id,cap,e,hm,he,hl⟩)
  ·exact hn (.inl h1)
  ·rcases ht id b cap e hm he hl with h2|h2
   ·exact hn (.inr (c.top0 b h2))
   ·omega
 ·intro b hb hn
  refine hk.block b hb fun ht => ?_
  rcases hn with hn|hn
  ·exact hn (.inr (c.top0 b ht))
  ·simp at hn
theorem WR.old (hW:WR c H μ FP w) {y:AV} {u:Value} (h:Rep c.w0 (fun b=>c.M0 b\/b∈c.F0) y yg u []):Rep w (hot c.M0 H μ) y yg u []:=y3m hW.keep hW.top h
theorem y1g {c:Ctx} {w w':World} {M M':Nat->Prop} {μ μ':Map} (hnb:∀ y v,NoBor y->Rep w M y μ v []->Rep w' M' y μ' v []) (hlit:∀ y u,Rep c.w0 (fun b=>c.M0 b\/b∈c.F0) y yg u []->Rep w' M' y yg u []) :
  ∀ {cs:List AV} {us:List Value},yml c cs->RepL w M cs μ us []->RepL w' M' cs μ' us []
 | [],us,_,h=>by simpa only[RepL]using h
 | x::cs,us,hl,h=>by
  simp only[RepL]at h ⊢;obtain⟨u,us',f1,f2,rfl,e,h1,h2⟩:=h;obtain⟨rfl,rfl⟩:=List.append_eq_nil_iff.1 e.symm;refine⟨u,us',[],[],rfl,rfl,?_,y1g hnb hlit hl.2 h2⟩;have hx:=hl.1
  cases x with
  | lit u0 y=>
   simp only[lit0]at hx;simp only[Rep]at h1 ⊢;obtain⟨_,rfl,_⟩:=h1;exact⟨trivial,rfl,hlit y u hx⟩
  | _=>exact hnb _ _ hx h1
theorem yrh.rep (hW:WR c H μ FP w) {x:AV} {v:Value} (hl:yrh c x) {M:Nat->Prop} {μ0:Map} (hle:μ0.le μ) (h:Rep w M x μ0 v []):Rep w (hot c.M0 H μ) x μ v []:=by
 have hnb:∀ y v,NoBor y->Rep w M y μ0 v []->Rep w (hot c.M0 H μ) y μ v []:=fun y v hy h=>Rep.mono y hle ⟨Nat.le_refl _,fun _ _ h=>h,fun _ _ _=>rfl⟩ (Rep.noBor y hy h)
 cases x with
 | lit u y=>
  simp only[yrh]at hl;simp only[Rep]at h ⊢;obtain⟨_,rfl,_⟩:=h;exact⟨trivial,rfl,hW.old hl⟩
 | agg cs=>
  simp only[yrh]at hl;simp only[Rep]at h ⊢;obtain⟨us,e,h⟩:=h;exact⟨us,e,y1g hnb (fun y u h=>hW.old h) hl h⟩
 | _=>exact hnb _ _ hl h
theorem ygb.robA {c:Ctx} {w:World} {M M':Nat->Prop} {μ:Map} {e:Ent} {L:Loc} {fp:List Nat} (hr:robE c e) (hb:∀ cs,e≠.box cs) (h:ygb w M μ e L fp):ygb w M' μ e L fp:=by
 cases e with
 | dead=>exact h
 | it l p m=>exact h
 | box cs=>exact absurd rfl (hb cs)
 | arr T e n f=>
  cases L with
  | nil=>exact h
  | blk b cap=>
   obtain⟨cur,us,fps,hh,h1,h2,h3,hc,rfl⟩:=h;exact⟨cur,us,fps,hh,h1,h2,h3,fun i hi=>⟨RepL.noBor (f i) (hr i hi) (hc i hi).1,(hc i hi).2⟩,rfl⟩
theorem ygb.rob {c : Ctx} {w w' : World} {M M' : Nat -> Prop} {μ μ' : Map} {e : Ent} {L : Loc} {fp : List Nat} (hr : robE c e) (hle : μ.le μ') (hsz : w.heap.size <= w'.heap.size) (hlt : ∀ b, b ∈ fp -> b < w.heap.size) (hblk : ∀ b, b ∈ fp -> w'.heap[b]? = w.heap[b]?)
  (hlit:∀ y u,Rep c.w0 (fun b=>c.M0 b\/b∈c.F0) y yg u []->Rep w' M' y yg u []) (h:ygb w M μ e L fp):ygb w' M' μ' e L fp:=by
 by_cases hbx:∃ cs,e=.box cs
 ·obtain⟨cs,rfl⟩:=hbx
  obtain⟨b,cap,us,T,rfl,rfl,hh,h1,h2⟩:=h;refine⟨b,cap,us,T,rfl,rfl,(hblk b (by simp)).trans hh,h1,y1g (fun y v hy h => ?_) hlit hr h2⟩;exact Rep.noBor y hy (Rep.mono (M:=fun _=>True) (M':=fun _=>True) y hle ⟨hsz,fun _ _ h=>h,fun b _ hh=>by rcases hh with hh|hh;exact absurd trivial hh;simp at hh⟩ (Rep.noBor y hy h))
 ·have hb:∀ cs,e≠.box cs:=fun cs he=>hbx ⟨cs,he⟩
  refine ygb.robA hr hb (ygb.mono (M:=fun _=>True) (M':=fun _=>True) hle ⟨hsz,fun _ _ h=>h,fun b _ hh => ?_⟩ hlt (ygb.robA hr hb h));rcases hh with hh|hh
  ·exact absurd trivial hh
  ·exact hblk b hh
theorem yvx {M M' : Nat -> Prop} {μ' : Map} : ∀ {cs : List AV} {us : List Value} {fp : List Nat}, (∀ y, y ∈ cs -> ∀ u f, Rep w M y μ u f -> Rep w M' y μ' u f) -> RepL w M cs μ us fp -> RepL w M' cs μ' us fp
 | [],us,fp,_,h=>by simpa only[RepL]using h
 | y::cs,us,fp,ht,h=>by
  simp only[RepL]at h ⊢;obtain⟨u,us',f1,f2,rfl,rfl,h1,h2⟩:=h;exact⟨u,us',f1,f2,rfl,rfl,ht y (by simp) _ _ h1,yvx (fun z hz=>ht z (by simp[hz])) h2⟩
theorem NoBorL.mem : ∀ {cs : List AV} {y : AV}, NoBorL cs -> y ∈ cs -> NoBor y
 | [],_,_,h=>by simp at h
 | x::cs,y,hn,h=>by
  rcases List.mem_cons.1 h with rfl|h
  ·exact hn.1
  ·exact NoBorL.mem hn.2 h
theorem yki {M:Nat->Prop}:∀ {o:Nat} {cs:List AV} {us:List Value} {fp:List Nat} {x:AV} {rest:List AV},RepL w M cs μ us fp->dropL o cs=x::rest ->
  ∃ fa fx fb u,fp=fa++fx++fb/\Rep w M x μ u fx/\∀ (M':Nat->Prop) (μ':Map),(∀ y,y∈cs->∀ u f,Rep w M y μ u f->Rep w M' y μ' u f)->∀ x' fx',Rep w M' x' μ' u fx'->RepL w M' (putL o [x'] cs) μ' us (fa++fx'++fb)
 | 0,[],us,fp,x,rest,h,hd=>by simp[dropL]at hd
 | 0,y::cs,us,fp,x,rest,h,hd=>by
  simp only[dropL,List.cons.injEq]at hd;obtain⟨rfl,rfl⟩:=hd;simp only[RepL]at h;obtain⟨u,us',f1,f2,rfl,rfl,h1,h2⟩:=h;refine⟨[],f1,f2,u,by simp,h1,fun M' μ' ht x' fx' hx => ?_⟩;have:putL 0 [x'] (y::cs)=x'::cs:=by cases cs<;>simp[putL]
  rw[this];simp only[RepL];exact⟨u,us',fx',f2,rfl,by simp,hx,yvx (fun z hz=>ht z (by simp[hz])) h2⟩
 | o+1,[],us,fp,x,rest,h,hd=>by simp[dropL]at hd
 | o+1,y::cs,us,fp,x,rest,h,hd=>by
  simp only[dropL]at hd;simp only[RepL]at h;obtain⟨u,us',f1,f2,rfl,rfl,h1,h2⟩:=h;obtain⟨fa,fx,fb,u2,rfl,h3,h4⟩:=yki h2 hd;refine⟨f1++fa,fx,fb,u2,by simp,h3,fun M' μ' ht x' fx' hx => ?_⟩;simp only[putL,RepL];exact⟨u,us',f1,_,rfl,by simp,ht y (by simp) _ _ h1,h4 M' μ' (fun z hz=>ht z (by simp[hz])) x' fx' hx⟩
theorem y2e (fps fps' : Nat -> List Nat) (i : Nat) (fx : List Nat) (h1 : ∀ j, j ≠ i -> fps' j = fps j) (h2 : ((fps' i)).Perm (fx ++ fps i)) : ∀ n, i < n -> ((List.range n).flatMap fps').Perm (fx ++ (List.range n).flatMap fps)
 | 0,h=>by omega
 | n+1,h=>by
  rw[List.range_succ,List.flatMap_append,List.flatMap_append,List.flatMap_singleton,List.flatMap_singleton];by_cases hin:i<n
  ·rw[h1 n (by omega), <- List.append_assoc]
   exact(y2e fps fps' i fx h1 h2 n hin).append_right _
  ·have hn:i=n:=by omega
   subst hn
   have:(List.range i).flatMap fps'=(List.range i).flatMap fps:=by
    rw[List.flatMap_def,List.flatMap_def];congr 1
    exact List.map_congr_left fun j hj=>h1 j (by have:=List.mem_range.1 hj;omega)
   rw[this];refine(List.Perm.append_left _ h2).trans ?_;rw[<- List.append_assoc, <- List.append_assoc];exact List.perm_append_comm.append_right _
theorem NoBorL.put {x : AV} (hx : NoBor x) : ∀ {o : Nat} {cs : List AV}, NoBorL cs -> NoBorL (putL o [x] cs)
 | 0,[],h=>by simp[putL,NoBorL]
 | 0,y::cs,h=>by
  have:putL 0 [x] (y::cs)=x::cs:=by cases cs<;>simp[putL]
  rw[this];exact⟨hx,h.2⟩
 | o+1,[],h=>by simp[putL,NoBorL]
 | o+1,y::cs,h=>by
  simp only[putL,NoBorL]at h ⊢;exact⟨h.1,NoBorL.put hx h.2⟩
end
end Go.Ab
namespace Go.Ab
open Go
variable [Inv]
section
variable {P:Program} {c:Ctx} {s:St} {a:Act} {w:World} {N:St->Prop} {E:Nat->St->Prop} {R:St->Prop}
theorem WRs.openE (hs : WRs c s a w) (hr : Rob c s) (q id i o : Nat) {e1 off1 m1 : Nat} {T : TypeId} {e n : Nat} {f : Nat -> List AV} {T' : TypeId} {e' n' : Nat} {g : Nat -> List AV} {rest : List AV}
  (hq:get s.t q=.ref id e1 off1 m1) (hid:nthE s.h id=some (.arr T e n f)) (hi:i<n) (hx:dropL o (f i)=.sl (some T') e' n' g::rest) :
  WRs c ⟨s.t,setE s.h id (.arr T e n (fun j=>bif Nat.beq j i then putL o [.ref s.h.length e' 0 n'] (f j)else f j))++[.arr T' e' n' g]⟩ a w:=by
 obtain⟨μ,FP,hW,htl,h1,h2,h3⟩:=hs;have hlt:=y3b hid
 -- the entry has a block
 have hm:∃ b cap,μ id=some (.blk b cap):=by
  have hv:=h1 q;rw[hq]at hv;simp only[Rep]at hv
  cases hmu:μ id with
  | none=>simp[hmu]at hv
  | some L=>
   cases L with
   | nil=>
    obtain⟨e0,he0,hok⟩:=hW.ent id _ hmu;rw[show Hof s.h id=nthE s.h id from rfl,hid]at he0;cases he0
    obtain⟨hn,_⟩:=hok;omega
   | blk b cap=>exact⟨b,cap,rfl⟩
 obtain⟨b,cap,hm⟩:=hm;obtain⟨e0,he0,hok⟩:=hW.ent id _ hm;rw[show Hof s.h id=nthE s.h id from rfl,hid]at he0;cases he0
 obtain⟨cur,us,fps,hh,hsz,hcap,hml,hcl,hF⟩:=hok;obtain⟨c1,c2,c3⟩:=hcl i hi;obtain⟨fa,fx,fb,u,hfp,hrx,hput⟩:=yki c1 hx;have hrob:=y8g hr.hp hid
 -- the new entry
 generalize hnew:setE s.h id (.arr T e n (fun j=>bif Nat.beq j i then putL o [.ref s.h.length e' 0 n'] (f j)else f j))++[.arr T' e' n' g]=h';have hlen:(setE s.h id (.arr T e n (fun j=>bif Nat.beq j i then putL o [.ref s.h.length e' 0 n'] (f j)else f j))).length=s.h.length:=yr _ _ _
 have hH1:nthE h' s.h.length=some (.arr T' e' n' g):=by
  rw[<- hnew,yvb,if_pos hlen.symm]
 have hH2:nthE h' id=some (.arr T e n (fun j=>bif Nat.beq j i then putL o [.ref s.h.length e' 0 n'] (f j)else f j)):=by
  rw[<- hnew,yvb,if_neg (by omega),yp,if_pos ⟨rfl,hlt⟩]
 have hH3:∀ k,k≠id->k≠s.h.length->nthE h' k=nthE s.h k:=by
  intro k hk1 hk2;rw[<- hnew,yvb,if_neg (by omega),yp,if_neg (fun h=>hk1 h.1)]
 -- where the new entry lies
 have hL:∃ L,(∀ M:Nat->Prop,∀ μ':Map,ygb w M μ' (.arr T' e' n' g) L fx)/\(∀ (M:Nat->Prop) (μ':Map),μ' s.h.length=some L->Rep w M (.ref s.h.length e' 0 n') μ' u [])/\(∀ b' cap',L=.blk b' cap'->b'∈fx):=by
  have hnb:NoBor (.sl (some T') e' n' g):=by
   have:∀ {o:Nat} {cs:List AV},NoBorL cs->dropL o cs=.sl (some T') e' n' g::rest->NoBor (.sl (some T') e' n' g):=by
    intro o
    induction o with
    | zero=>intro cs h hd;simp only[dropL]at hd;rw[hd]at h;exact h.1
    | succ o ih=>
     intro cs h hd
     cases cs with
     | nil=>simp[dropL]at hd
     | cons y cs=>exact ih h.2 (by simpa only[dropL]using hd)
   exact this (hrob i hi) hx
  have hrx2:=hrx;simp only[Rep]at hrx2;rcases hrx2 with⟨rfl,hev,rfl⟩|⟨b',o',cap',us',fps',rfl,hn',hb',hc',rfl,rfl,cur',hcur',hsz',hcm'⟩
  ·simp only[emptyV]at hev
   refine⟨.nil,fun M μ'=>⟨rfl,rfl⟩,fun M μ' hl => ?_,by intro _ _ h;cases h⟩;simp[Rep,hl,hev]
  ·refine⟨.blk b' cap',fun M μ'=>⟨cur',us',fps',hcur',hsz',hn'.1,hcm',fun k hk => ?_,rfl⟩,fun M μ' hl => ?_,fun b2 cap2 h=>by cases h;simp⟩
   ·obtain⟨d1,d2,d3⟩:=hc' k hk
    refine⟨RepL.mono (g k) (ymf μ') ⟨Nat.le_refl _,fun _ _ h=>h,fun _ _ _=>rfl⟩ (RepL.noBor (M':=M) (g k) ?_ d1),d2,by simpa using d3⟩;simp only[NoBor]at hnb;exact hnb k hk
   ·simp only[Rep,hl]
    exact⟨trivial,by omega,0,by simp,.inr (by simp)⟩
 obtain⟨L,hLok,hLref,hLblk⟩:=hL;let μ':Map:=fun k=>if k=s.h.length then some L else μ k
 have hnone:μ s.h.length=none:=htl _ (Nat.le_refl _)
 have hle:μ.le μ':=fun k L' hk=>by
  simp only[μ'];rw[if_neg (fun e=>by rw[e,hnone]at hk;cases hk)];exact hk
 have hμ1:μ' s.h.length=some L:=by simp[μ']
 have hμ2:∀ k,k≠s.h.length->μ' k=μ k:=fun k hk=>by simp[μ',hk]
 let fps2:Nat->List Nat:=fun j=>if j=i then fa++fb else fps j
 let FP':Nat->List Nat:=fun k=>if k=s.h.length then fx else if k=id then b::(List.range n).flatMap fps2 else FP k
 have hFP1:FP' s.h.length=fx:=by simp[FP']
 have hFP2:FP' id=b::(List.range n).flatMap fps2:=by
  show(if id=s.h.length then fx else if id=id then _ else _)=_;rw[if_neg (by omega),if_pos rfl]
 have hFP3:∀ k,k≠id->k≠s.h.length->FP' k=FP k:=fun k h1 h2=>by simp[FP',h1,h2]
 have hperm:(FP id).Perm (fx++FP' id):=by
  rw[hF,hFP2]
  have:=y2e fps2 fps i fx (fun j hj=>by simp[fps2,hj]) (by
   simp only[fps2,if_pos];rw[hfp,List.append_assoc];refine(List.perm_append_comm (l₁:=fa) (l₂:=fx++fb)).trans ?_;rw[List.append_assoc]
   exact List.Perm.append_left _ List.perm_append_comm) n hi
  exact(List.Perm.cons b this).trans (List.perm_middle.symm)
 have hmem:∀ x,x∈FP id↔x∈fx\/x∈FP' id:=fun x=>by rw[hperm.mem_iff,List.mem_append]
 have hnd:(fx++FP' id).Nodup:=hperm.nodup_iff.1 (hW.nodup id);have hndA:=List.nodup_append.1 hnd;have hdj0:∀ x,x∈fx->x∉FP' id:=fun x hx1 hx2=>hndA.2.2 x hx1 x hx2 rfl
 have hout0:FP s.h.length=[]:=hW.out _ hnone
 have hsub:∀ k x,k≠s.h.length->x∈FP' k->x∈FP k:=by
  intro k x hk hx;by_cases hki:k=id
  ·subst hki;exact(hmem x).2 (.inr hx)
  ·rwa [hFP3 k hki hk]at hx
 have htop:∀ id b cap e,μ' id=some (.blk b cap)->Hof h' id=some e->e.live=true->b∈c.T0\/c.w0.heap.size<=b:=by
  intro k b' cap' e2 hk he hl;by_cases hk1:k=s.h.length
  ·subst hk1
   rw[hμ1]at hk;have hb:=hLblk b' cap' (Option.some.inj hk);rcases(hW.new id b' ((hmem b').2 (.inl hb))).1 with h4|h4
   ·exact .inl (hr.deep b' h4)
   ·exact .inr h4
  ·rw[hμ2 k hk1]at hk
   by_cases hk2:k=id
   ·subst hk2;exact hW.top k b' cap' _ hk hid rfl
   ·rw[show Hof h' k=nthE h' k from rfl,hH3 k hk2 hk1]at he
    exact hW.top k b' cap' e2 hk he hl
 have hWn:WR c (Hof h') μ' FP' w:=by
  refine⟨hW.keep,hW.base.trans hle,?_,?_,?_,?_,?_,?_⟩
  ·intro k L' hk
   by_cases hk1:k=s.h.length
   ·subst hk1
    rw[hμ1]at hk;cases hk;exact⟨_,hH1,by rw[hFP1];exact hLok _ _⟩
   ·rw[hμ2 k hk1]at hk
    by_cases hk2:k=id
    ·subst hk2
     rw[hm]at hk;cases hk;refine⟨_,hH2,?_⟩;rw[hFP2];refine⟨cur,us,fps2,hh,hsz,hcap,hml,fun j hj => ?_,rfl⟩;obtain⟨d1,d2,d3⟩:=hcl j hj;refine⟨?_,d2,d3⟩
     cases hb:Nat.beq j i with
     | true=>
      have hji:=Nat.eq_of_beq_eq_true hb;subst hji;simp only[cond_true,fps2,if_pos];have:=hput (hot c.M0 (Hof h') μ') μ' (fun y hy u f hu=>Rep.noBor y (NoBorL.mem (hrob j hj) hy) (Rep.mono y hle ⟨Nat.le_refl _,fun _ _ h=>h,fun _ _ _=>rfl⟩ hu)) (.ref s.h.length e' 0 n') [] (hLref _ _ hμ1);simpa using this
     | false=>
      have hji:j≠i:=fun e=>by subst e;simp at hb
      simp only[hb,cond_false,fps2,if_neg hji];exact RepL.noBor (f j) (hrob j hj) (RepL.mono (f j) hle ⟨Nat.le_refl _,fun _ _ h=>h,fun _ _ _=>rfl⟩ d1)
    ·obtain⟨e2,he2,hok2⟩:=hW.ent k _ hk
     refine⟨e2,by rw[show Hof h' k=nthE h' k from rfl,hH3 k hk2 hk1];exact he2,?_⟩;rw[hFP3 k hk2 hk1];have hre:=y8g hr.hp he2;exact ygb.rob hre hle (Nat.le_refl _) (fun x hx=>(hW.new k x hx).2) (fun _ _=>rfl) (fun y u h=>y3m hW.keep htop h) hok2
  ·intro k hk
   by_cases hk1:k=s.h.length
   ·subst hk1;rw[hμ1]at hk;cases hk
   ·rw[hμ2 k hk1]at hk
    rw[hFP3 k (fun e=>by rw[e,hm]at hk;cases hk) hk1];exact hW.out k hk
  ·intro k
   by_cases hk1:k=s.h.length
   ·subst hk1;rw[hFP1];exact hndA.1
   ·by_cases hk2:k=id
    ·subst hk2;exact hndA.2.1
    ·rw[hFP3 k hk2 hk1];exact hW.nodup k
  ·intro k l hkl x hxk hxl
   by_cases hk1:k=s.h.length
   ·subst hk1
    rw[hFP1]at hxk;by_cases hl2:l=id
    ·subst hl2;exact hdj0 x hxk hxl
    ·rw[hFP3 l hl2 (fun e=>hkl e.symm)]at hxl
     exact hW.disj id l (fun e=>hl2 e.symm) x ((hmem x).2 (.inl hxk)) hxl
   ·by_cases hl1:l=s.h.length
    ·subst hl1
     rw[hFP1]at hxl;by_cases hk2:k=id
     ·subst hk2;exact hdj0 x hxl hxk
     ·rw[hFP3 k hk2 hk1]at hxk
      exact hW.disj id k (fun e=>hk2 e.symm) x ((hmem x).2 (.inl hxl)) hxk
    ·exact hW.disj k l hkl x (hsub k x hk1 hxk) (hsub l x hl1 hxl)
  ·intro k x hx
   by_cases hk1:k=s.h.length
   ·subst hk1
    rw[hFP1]at hx;exact hW.new id x ((hmem x).2 (.inl hx))
   ·exact hW.new k x (hsub k x hk1 hx)
  ·exact htop
 refine⟨μ',FP',hWn,?_,?_,h2,h3⟩
 ·intro k hk
  have hl2:h'.length=s.h.length+1:=by rw[<- hnew];simp[hlen]
  simp only at hk;rw[hμ2 k (by omega)];exact htl k (by omega)
 ·intro k
  exact yrh.rep hWn (ygk k hr.tm) hle (h1 k)
end
end Go.Ab
namespace Go.Ab
open Go
variable [Inv]
section
variable {P:Program} {c:Ctx} {s:St} {a:Act} {w:World} {N:St->Prop} {E:Nat->St->Prop} {R:St->Prop}
theorem WRs.closeE (hs : WRs c s a w) (q id i o id' : Nat) {e1 off1 m1 : Nat} {T : TypeId} {e n : Nat} {f : Nat -> List AV} {T' : TypeId} {e' n' : Nat} {g : Nat -> List AV} {rest : List AV}
  (hq:get s.t q=.ref id e1 off1 m1) (hid:nthE s.h id=some (.arr T e n f)) (hid':nthE s.h id'=some (.arr T' e' n' g)) (hne:id≠id') (hi:i<n) (hx:dropL o (f i)=.ref id' e' 0 n'::rest)
  (hp:∀ k,k<n'->pureL (g k)=true) :
  WRs c ⟨s.t,setE (setE s.h id (.arr T e n (fun j=>bif Nat.beq j i then putL o [.sl (some T') e' n' g] (f j)else f j))) id' .dead⟩ a w:=by
 obtain⟨μ,FP,hW,htl,h1,h2,h3⟩:=hs;have hlt:=y3b hid;have hlt':=y3b hid'
 have hm:∃ b cap,μ id=some (.blk b cap):=by
  have hv:=h1 q;rw[hq]at hv;simp only[Rep]at hv
  cases hmu:μ id with
  | none=>simp[hmu]at hv
  | some L=>
   cases L with
   | nil=>
    obtain⟨e0,he0,hok⟩:=hW.ent id _ hmu;rw[show Hof s.h id=nthE s.h id from rfl,hid]at he0;cases he0
    obtain⟨hn,_⟩:=hok;omega
   | blk b cap=>exact⟨b,cap,rfl⟩
 obtain⟨b,cap,hm⟩:=hm;obtain⟨e0,he0,hok⟩:=hW.ent id _ hm;rw[show Hof s.h id=nthE s.h id from rfl,hid]at he0;cases he0
 obtain⟨cur,us,fps,hh,hsz,hcap,hml,hcl,hF⟩:=hok;obtain⟨c1,c2,c3⟩:=hcl i hi;obtain⟨fa,fx,fb,u,hfp,hrx,hput⟩:=yki c1 hx
 -- what the entry reads az
 have hfx:fx=[]:=by simp only[Rep]at hrx;exact hrx.1
 subst hfx
 have hown:∀ M:Nat->Prop,(∀ x,M x->hot c.M0 (Hof s.h) μ x)->∀ μ':Map,Rep w M (.sl (some T') e' n' g) μ' u (FP id'):=by
  intro M hM μ';have hsm:∀ fq,Same w (hot c.M0 (Hof s.h) μ) w M fq:=fun fq=>⟨Nat.le_refl _,fun b _ hb hh=>hb (hM b hh),fun _ _ _=>rfl⟩
  simp only[Rep]at hrx;obtain⟨_,hrx⟩:=hrx
  cases hmu:μ id' with
  | none=>simp[hmu]at hrx
  | some L=>
   obtain⟨e2,he2,hok2⟩:=hW.ent id' _ hmu;rw[show Hof s.h id'=nthE s.h id' from rfl,hid']at he2;cases he2
   cases L with
   | nil=>
    simp only[hmu]at hrx;obtain⟨_,rfl,rfl⟩:=hrx;obtain⟨_,hfp2⟩:=hok2;simp only[Rep];exact .inl ⟨trivial,emptyV.nil _,hfp2⟩
   | blk b' cap'=>
    simp only[hmu]at hrx;obtain⟨hcap',o',rfl,hoo⟩:=hrx;obtain⟨cur',us',fps',hh',hsz',hcap2,hml',hcl',hF'⟩:=hok2
    have ho:o'=0:=by
     rcases hoo with h|h
     ·omega
     ·omega
    subst ho;have hb':b'<w.heap.size:=(hW.new id' b' (by rw[hF'];simp)).2;simp only[Rep];refine .inr ⟨b',0,cap',us',fps',rfl,⟨by omega,by omega⟩,hb',fun k hk => ?_,rfl,hF',cur',hh',hsz',hml'⟩;obtain⟨d1,d2,d3⟩:=hcl' k hk;exact⟨ynb (g k) (hp k hk) (RepL.mono (g k) (Map.le_refl _) (hsm _) d1),d2,by simpa using d3⟩
 generalize hnew:setE (setE s.h id (.arr T e n (fun j=>bif Nat.beq j i then putL o [.sl (some T') e' n' g] (f j)else f j))) id' .dead=h'
 have hH1:nthE h' id'=some .dead:=by
  rw[<- hnew,yp,if_pos ⟨rfl,by rw[yr];exact hlt'⟩]
 have hH2:nthE h' id=some (.arr T e n (fun j=>bif Nat.beq j i then putL o [.sl (some T') e' n' g] (f j)else f j)):=by
  rw[<- hnew,yp,if_neg (fun h=>hne h.1),yp,if_pos ⟨rfl,hlt⟩]
 have hH3:∀ k,k≠id->k≠id'->nthE h' k=nthE s.h k:=by
  intro k hk1 hk2;rw[<- hnew,yp,if_neg (fun h=>hk2 h.1),yp,if_neg (fun h=>hk1 h.1)]
 have hhot:∀ x,hot c.M0 (Hof h') μ x->hot c.M0 (Hof s.h) μ x:=by
  rintro x (hx|⟨k,cap2,e2,hk,he,hl⟩)
  ·exact .inl hx
  ·by_cases hk1:k=id'
   ·subst hk1
    rw[show Hof h' k=nthE h' k from rfl,hH1]at he;cases he;simp[Ent.live]at hl
   ·by_cases hk2:k=id
    ·subst hk2
     exact .inr ⟨k,cap2,_,hk,hid,rfl⟩
    ·rw[show Hof h' k=nthE h' k from rfl,hH3 k hk2 hk1]at he
     exact .inr ⟨k,cap2,e2,hk,he,hl⟩
 have hsm:∀ fq,Same w (hot c.M0 (Hof s.h) μ) w (hot c.M0 (Hof h') μ) fq:=fun fq=>⟨Nat.le_refl _,fun b _ hb hh=>hb (hhot b hh),fun _ _ _=>rfl⟩
 let fps2:Nat->List Nat:=fun j=>if j=i then fa++FP id'++fb else fps j
 let FP':Nat->List Nat:=fun k=>if k=id' then[]else if k=id then b::(List.range n).flatMap fps2 else FP k
 have hFP1:FP' id'=[]:=by simp[FP']
 have hFP2:FP' id=b::(List.range n).flatMap fps2:=by
  show(if id=id' then[]else if id=id then _ else _)=_;rw[if_neg hne,if_pos rfl]
 have hFP3:∀ k,k≠id->k≠id'->FP' k=FP k:=fun k h1 h2=>by simp[FP',h1,h2]
 have hperm:(FP' id).Perm (FP id'++FP id):=by
  rw[hF,hFP2]
  have:=y2e fps fps2 i (FP id') (fun j hj=>by simp[fps2,hj]) (by
   simp only[fps2,if_pos];rw[hfp,List.append_assoc];refine(List.perm_append_comm (l₁:=fa) (l₂:=FP id'++fb)).trans ?_;rw[List.append_assoc];refine List.Perm.append_left _ ?_;rw[List.append_nil]
   exact List.perm_append_comm) n hi
  exact(List.Perm.cons b this).trans (List.perm_middle.symm)
 have hmem:∀ x,x∈FP' id↔x∈FP id'\/x∈FP id:=fun x=>by rw[hperm.mem_iff,List.mem_append]
 have hnd:(FP' id).Nodup:=by
  rw[hperm.nodup_iff,List.nodup_append];exact⟨hW.nodup id',hW.nodup id,fun x hx y hy e=>by subst e;exact hW.disj id' id (fun e=>hne e.symm) x hx hy⟩
 have hWn:WR c (Hof h') μ FP' w:=by
  refine⟨hW.keep,hW.base,?_,?_,?_,?_,?_,?_⟩
  ·intro k L' hk
   by_cases hk1:k=id'
   ·subst hk1
    exact⟨_,hH1,by rw[hFP1];rfl⟩
   ·by_cases hk2:k=id
    ·subst hk2
     rw[hm]at hk;cases hk;refine⟨_,hH2,?_⟩;rw[hFP2];refine⟨cur,us,fps2,hh,hsz,hcap,hml,fun j hj => ?_,rfl⟩;obtain⟨d1,d2,d3⟩:=hcl j hj;refine⟨?_,d2,d3⟩
     cases hb:Nat.beq j i with
     | true=>
      have hji:=Nat.eq_of_beq_eq_true hb;subst hji;simp only[hb,cond_true,fps2,if_pos];exact hput (hot c.M0 (Hof h') μ) μ (fun y hy u f hu=>Rep.mono y (Map.le_refl _) (hsm _) hu) _ _ (hown _ hhot μ)
     | false=>
      have hji:j≠i:=fun e=>by subst e;simp at hb
      simp only[hb,cond_false,fps2,if_neg hji];exact RepL.mono (f j) (Map.le_refl _) (hsm _) d1
    ·obtain⟨e2,he2,hok2⟩:=hW.ent k _ hk
     refine⟨e2,by rw[show Hof h' k=nthE h' k from rfl,hH3 k hk2 hk1];exact he2,?_⟩;rw[hFP3 k hk2 hk1];exact ygb.mono (Map.le_refl _) (hsm _) (fun x hx=>(hW.new k x hx).2) hok2
  ·intro k hk
   by_cases hk1:k=id'
   ·subst hk1;exact hFP1
   ·rw[hFP3 k (fun e=>by rw[e,hm]at hk;cases hk) hk1]
    exact hW.out k hk
  ·intro k
   by_cases hk1:k=id'
   ·subst hk1;rw[hFP1];simp
   ·by_cases hk2:k=id
    ·subst hk2;exact hnd
    ·rw[hFP3 k hk2 hk1];exact hW.nodup k
  ·intro k l hkl x hxk hxl
   by_cases hk1:k=id'
   ·subst hk1;rw[hFP1]at hxk;simp at hxk
   ·by_cases hl1:l=id'
    ·subst hl1;rw[hFP1]at hxl;simp at hxl
    ·by_cases hk2:k=id
     ·subst hk2
      rw[hFP3 l (fun e=>hkl e.symm) hl1]at hxl;rcases(hmem x).1 hxk with h|h
      ·exact hW.disj id' l (fun e=>hl1 e.symm) x h hxl
      ·exact hW.disj k l hkl x h hxl
     ·rw[hFP3 k hk2 hk1]at hxk
      by_cases hl2:l=id
      ·subst hl2
       rcases(hmem x).1 hxl with h|h
       ·exact hW.disj k id' hk1 x hxk h
       ·exact hW.disj k l hkl x hxk h
      ·rw[hFP3 l hl2 hl1]at hxl
       exact hW.disj k l hkl x hxk hxl
  ·intro k x hx
   by_cases hk1:k=id'
   ·subst hk1;rw[hFP1]at hx;simp at hx
   ·by_cases hk2:k=id
    ·subst hk2
     rcases(hmem x).1 hx with h|h
     ·exact hW.new id' x h
     ·exact hW.new k x h
    ·rw[hFP3 k hk2 hk1]at hx
     exact hW.new k x hx
  ·intro k b' cap' e2 hk he hl
   by_cases hk1:k=id'
   ·subst hk1
    rw[show Hof h' k=nthE h' k from rfl,hH1]at he;cases he;simp[Ent.live]at hl
   ·by_cases hk2:k=id
    ·subst hk2;exact hW.top k b' cap' _ hk hid rfl
    ·rw[show Hof h' k=nthE h' k from rfl,hH3 k hk2 hk1]at he
     exact hW.top k b' cap' e2 hk he hl
 refine⟨μ,FP',hWn,?_,fun k=>Rep.mono _ (Map.le_refl _) (hsm _) (h1 k),h2,h3⟩;intro k hk;have hl2:h'.length=s.h.length:=by rw[<- hnew];simp[yr]
 exact htl k (by simp only at hk;omega)
theorem AWP.openE {code : Code} (hr : Rob c s) (q id i o : Nat) {e1 off1 m1 : Nat} {T : TypeId} {e n : Nat} {f : Nat -> List AV} {T' : TypeId} {e' n' : Nat} {g : Nat -> List AV} {rest : List AV}
  (hq:get s.t q=.ref id e1 off1 m1) (hid:nthE s.h id=some (.arr T e n f)) (hi:i<n) (hx:dropL o (f i)=.sl (some T') e' n' g::rest)
  (h:AWP P c code N E R ⟨s.t,setE s.h id (.arr T e n (fun j=>bif Nat.beq j i then putL o [.ref s.h.length e' 0 n'] (f j)else f j))++[.arr T' e' n' g]⟩):AWP P c code N E R s:=
 ⟨fun a w hw=>h.run a w (hw.openE hr q id i o hq hid hi hx)⟩
theorem AWP.closeE {code : Code} (q id i o id' : Nat) {e1 off1 m1 : Nat} {T : TypeId} {e n : Nat} {f : Nat -> List AV} {T' : TypeId} {e' n' : Nat} {g : Nat -> List AV} {rest : List AV}
  (hq:get s.t q=.ref id e1 off1 m1) (hid:nthE s.h id=some (.arr T e n f)) (hid':nthE s.h id'=some (.arr T' e' n' g)) (hne:id≠id') (hi:i<n) (hx:dropL o (f i)=.ref id' e' 0 n'::rest)
  (hp:∀ k,k<n'->pureL (g k)=true)
  (h:AWP P c code N E R ⟨s.t,setE (setE s.h id (.arr T e n (fun j=>bif Nat.beq j i then putL o [.sl (some T') e' n' g] (f j)else f j))) id' .dead⟩):AWP P c code N E R s:=
 ⟨fun a w hw=>h.run a w (hw.closeE q id i o id' hq hid hid' hne hi hx hp)⟩
end
end Go.Ab
namespace Go.Ab
open Go
variable [Inv]
theorem WR.updateD {c : Ctx} {H H' : Hp} {μ μ' : Map} {FP FP' : Nat -> List Nat} {w w' : World} (K : Nat -> Prop) (h : WR c H μ FP w) (hrob : ∀ id e, H id = some e -> robE c e) (hdeep : ∀ b, b ∈ c.F0 -> b ∈ c.T0)
  (hos:w'.os=w.os) (htape:w'.tape=w.tape) (hout:w'.output=w.output) (hsz:w.heap.size<=w'.heap.size)
  (hblk:∀ b,b<w.heap.size->w'.heap[b]? = w.heap[b]? \/ (∃ k,K k/\b∈FP k))
  (hle:μ.le μ') (hH:∀ id,μ id≠none->¬ K id->H' id=H id) (hFP:∀ id,μ id≠none->¬ K id->FP' id=FP id)
  (hnew:∀ id L,(μ id=none\/K id)->μ' id=some L->∃ e,H' id=some e/\ygb w' (hot c.M0 H' μ') μ' e L (FP' id))
  (hfpNew:∀ id b,(μ id=none\/K id)->b∈FP' id->(∃ k,K k/\b∈FP k)\/(w.heap.size<=b/\b<w'.heap.size))
  (hout':∀ id,μ' id=none->FP' id=[])
  (hnd:∀ id,(μ id=none\/K id)->(FP' id).Nodup)
  (hdj:∀ i j,i≠j->(μ i=none\/K i)->(μ j=none\/K j)->∀ b,b∈FP' i->b∉FP' j) :
  WR c H' μ' FP' w':=by
 have hcase:∀ id,(μ id=none\/K id)\/(μ id≠none/\¬ K id):=fun id=>by
  by_cases h1:μ id=none
  ·exact .inl (.inl h1)
  ·by_cases h2:K id
   ·exact .inl (.inr h2)
   ·exact .inr ⟨h1,h2⟩
 have hkeep:Keep c.w0 c.T0 w':=by
  refine⟨hos.trans h.keep.os,htape.trans h.keep.tape,hout.trans h.keep.output,Nat.le_trans h.keep.size hsz,fun k hk hf => ?_⟩;rcases hblk k (Nat.lt_of_lt_of_le hk h.keep.size)with h1|⟨i,_,h2⟩
  ·exact h1.trans (h.keep.block k hk hf)
  ·rcases(h.new i k h2).1 with h3|h3
   ·exact absurd (hdeep k h3) hf
   ·omega
 have htop:∀ id b cap e,μ' id=some (.blk b cap)->H' id=some e->e.live=true->b∈c.T0\/c.w0.heap.size<=b:=by
  intro id b cap e hm he hl;rcases hcase id with hK|⟨hn,hK⟩
  ·obtain⟨e2,he2,hok⟩:=hnew id _ hK hm
   rw[he]at he2;cases he2;have hb:=hok.topMem hl;rcases hfpNew id b hK hb with⟨k,_,h2⟩|h2
   ·rcases(h.new k b h2).1 with h3|h3
    ·exact .inl (hdeep b h3)
    ·exact .inr h3
   ·exact .inr (Nat.le_trans h.keep.size h2.1)
  ·cases hμ:μ id with
   | none=>exact absurd hμ hn
   | some L=>
    have hL:=hle id L hμ;rw[hm]at hL;cases hL;exact h.top id b cap e hμ (by rw[<- hH id hn hK];exact he) hl
 refine⟨hkeep,h.base.trans hle,?_,hout',?_,?_,?_,htop⟩
 ·intro id L hL
  rcases hcase id with hK|⟨hn,hK⟩
  ·exact hnew id L hK hL
  ·cases hμ:μ id with
   | none=>exact absurd hμ hn
   | some L0=>
    have h0:=hle id L0 hμ;rw[hL]at h0;cases h0;obtain⟨e,he,hok⟩:=h.ent id L hμ;refine⟨e,(hH id hn hK).trans he,?_⟩;rw[hFP id hn hK];have hre:=hrob id e he;refine ygb.rob hre hle hsz (fun b hb=>(h.new id b hb).2) (fun b hb => ?_) (fun y u h=>y3m hkeep htop h) hok;rcases hblk b (h.new id b hb).2 with h1|⟨k,hk,h2⟩
    ·exact h1
    ·exact absurd h2 (h.disj id k (fun e=>hK (e ▸ hk)) b hb)
 ·intro id
  rcases hcase id with hK|⟨hn,hK⟩
  ·exact hnd id hK
  ·rw[hFP id hn hK];exact h.nodup id
 ·intro i j hij b hbi hbj
  rcases hcase i with hKi|⟨hni,hKi⟩
  ·rcases hcase j with hKj|⟨hnj,hKj⟩
   ·exact hdj i j hij hKi hKj b hbi hbj
   ·rw[hFP j hnj hKj]at hbj
    have h1:=(h.new j b hbj).2;rcases hfpNew i b hKi hbi with⟨k,hk,h2⟩|h2
    ·exact h.disj k j (fun e=>hKj (e ▸ hk)) b h2 hbj
    ·omega
  ·rw[hFP i hni hKi]at hbi
   rcases hcase j with hKj|⟨hnj,hKj⟩
   ·have h1:=(h.new i b hbi).2
    rcases hfpNew j b hKj hbj with⟨k,hk,h2⟩|h2
    ·exact h.disj k i (fun e=>hKi (e ▸ hk)) b h2 hbi
    ·omega
   ·rw[hFP j hnj hKj]at hbj
    exact h.disj i j hij b hbi hbj
 ·intro id b hb
  rcases hcase id with hK|⟨hn,hK⟩
  ·rcases hfpNew id b hK hb with⟨k,_,h2⟩|h2
   ·have:=h.new k b h2
    exact⟨this.1,Nat.lt_of_lt_of_le this.2 hsz⟩
   ·exact⟨.inr (Nat.le_trans h.keep.size h2.1),h2.2⟩
  ·rw[hFP id hn hK]at hb
   have:=h.new id b hb;exact⟨this.1,Nat.lt_of_lt_of_le this.2 hsz⟩
section
variable {P:Program} {c:Ctx} {μ:Map} {FP:Nat->List Nat} {w:World}
theorem ydq {h h1 : List Ent} {f : FuncId} {xs az az' : List AV} {r : AV} {outs : List AV} {vs : List Value} {ms : List Bool} {ob : List Prop} (hW : WR c (Hof h) μ FP w) (hd : Tail h μ)
  (hx:RepL w (hot c.M0 (Hof h) μ) xs μ vs []) (ha:handM h ms xs=some (az,h1,ob)) (ho:allP ob) (hnb:NoBor r/\NoBorL outs) (hna:NoBorL az') (hsim:simOL az az') (hrob:robH c h) (hdeep:∀ b,b∈c.F0->b∈c.T0) (hnd:((bkVL ms xs outs).map (·.1)).Nodup) (hD:DenD P f az' r outs) :
  Calls P f vs.toArray w fun e w'=>∃ v μ',e=.returned v/\(∃ FP',WR c (Hof (reviveE h1 (bkVL ms xs outs)++adE r)) μ' FP' w')/\Tail (reviveE h1 (bkVL ms xs outs)++adE r) μ'/\μ.le μ'/\(∀ y v,NoBor y->Rep w (hot c.M0 (Hof h) μ) y μ v []->Rep w' (hot c.M0 (Hof (reviveE h1 (bkVL ms xs outs)++adE r)) μ') y μ' v []) /\
   Rep w' (hot c.M0 (Hof (reviveE h1 (bkVL ms xs outs)++adE r)) μ') (adR h.length r) μ' v []:=by
 obtain⟨Kl,hk⟩:=ytc ha;obtain⟨K,fpA,hgone,hown,htops,hrep⟩:=yke hW (fun _ _ h _=>h) hx ha ho
 have hKK:∀ id,id∈K->id∈Kl:=by
  intro id hid;obtain⟨⟨e,he,hl⟩,hdd⟩:=hgone.kill id hid;refine Classical.byContradiction fun hn => ?_
  have:=hk.other id hn;rw[he]at this;rw[hdd e this]at hl;cases hl
 have hfl:∀ b,b∈fpA->b<w.heap.size:=fun b hb=>by obtain⟨id,_,h2⟩:=hown.2 b hb;exact(hW.new id b h2).2
 have hA:RepL w (fun b=>False\/b∈fpA) az' yg vs fpA:=RepL.noBor az' hna (yub az az' hsim (hrep (fun _=>False) (fun _ h=>h.elim) (.inr fun _ _ _ _ _ _ _ h=>h)));refine(hD.2 w (fun _=>False) vs fpA hW.inv (fun b hb=>⟨fun h=>h,fun h=>by obtain⟨id,_,h2⟩:=hown.2 b h;exact hW.inv_fp hb id h2⟩) hA hown.1 (by simp) (by simp)).mono ?_;rintro e w' ⟨v,fpR,fpO,rfl,hK,hr,hO,hRn,hRm⟩
 replace hr:Rep w' (fun b=>(hot c.M0 (Hof h) μ b/\b∉fpA)\/b∈fpR++fpO) r yg v fpR:=Rep.noBor r hnb.1 hr;replace hO:RepL w' (fun b=>(hot c.M0 (Hof h) μ b/\b∉fpA)\/b∈fpR++fpO) outs yg vs fpO:=RepL.noBor outs hnb.2 hO;obtain⟨lb,hbk⟩:=y8j (ms:=ms) hx hO;generalize hbkd:bkVL ms xs outs=bk at *;have hbkK:∀ p,p∈bk->p.1∈Kl:=by rw[<- hbkd];exact y3g ha hk
 generalize hh2:reviveE h1 bk++adE r=h2;have hrl:(reviveE h1 bk).length=h.length:=by rw[yld,hk.len]
 have htopK:∀ id b cap,id∈Kl->μ id=some (.blk b cap)->hot c.M0 (Hof h) μ b/\b∈FP id:=by
  intro id b cap hid hm;obtain⟨e0,he,hl⟩:=hk.was id hid;exact⟨.inr ⟨id,cap,e0,hm,he,hl⟩,(hW.lt hm he hl).1⟩
 have hold:∀ id,μ id≠none->id<h.length:=fun id hid=>Nat.lt_of_not_le fun hle=>hid (hd id hle)
 have hH2old:∀ id,id<h.length->Hof h2 id=(match lk bk lb id with|some (e,_)=>some e|none=>nthE h1 id):=by
  intro id hid;subst hh2;simp only[Hof,yde];rw[if_pos (by omega),y2f id hbk.len hnd]
  cases hl:lk bk lb id with
  | none=>rfl
  | some p=>
   obtain⟨e5,f5⟩:=p;simp only;rw[if_pos (by rw[hk.len];exact hid)]
 have hlkK:∀ id e fq,lk bk lb id=some (e,fq)->id∈Kl:=by
  intro id e fq h5;obtain⟨k,L,h6,_⟩:=y0b h5;exact hbkK _ (List.mem_of_getElem? h6)
 have hH2out:∀ id,id<h.length->id∉Kl->Hof h2 id=nthE h id:=by
  intro id hid hnk;rw[hH2old id hid]
  cases hl:lk bk lb id with
  | none=>exact hk.other id hnk
  | some p=>exact absurd (hlkK id p.1 p.2 hl) hnk
 obtain⟨ls,hAd,hAdR⟩:=ylp r hr;have hRn':=List.nodup_append.1 hRn;have hlsn:=ycb (ls:=ls) (by rw[<- hAd.fps];exact hRn'.1);have hlbn:=ycb (ls:=lb) (hbk.fps.nodup hRn'.2.1);let μ':Map:=fun i=>if i<h.length then μ i else(ls[i-h.length]?).map (·.1)
 let FP':Nat->List Nat:=fun i=>if i<h.length then(if i∈Kl then((lk bk lb i).map (·.2)).getD []else FP i)else((ls[i-h.length]?).map (·.2)).getD []
 have hμold:∀ i,i<h.length->μ' i=μ i:=fun i hi=>by simp only[μ',if_pos hi]
 have hμnew:∀ i,h.length<=i->μ' i=(ls[i-h.length]?).map (·.1):=fun i hi=>by simp only[μ'];rw[if_neg (by omega)]
 have hFold:∀ i,i<h.length->FP' i=if i∈Kl then((lk bk lb i).map (·.2)).getD []else FP i:=fun i hi=>by simp only[FP',if_pos hi]
 have hFnew:∀ i,h.length<=i->FP' i=((ls[i-h.length]?).map (·.2)).getD []:=fun i hi=>by simp only[FP'];rw[if_neg (by omega)]
 have hHnew:∀ i,h.length<=i->Hof h2 i=(adE r)[i-h.length]? := by
  intro i hi;subst hh2;simp only[Hof,yde];rw[if_neg (by omega),ydb,hrl]
 have hKold:∀ id,id∈Kl->id<h.length:=fun id hid=>by obtain⟨e,he,_⟩:=hk.was id hid;exact y3b he
 have hle:μ.le μ':=fun i L hi=>by rw[hμold i (hold i (by simp[hi]))];exact hi
 have hlsE:∀ (k:Nat) (L:Loc) (fq:List Nat),ls[k]? = some (L,fq)->∃ e,(adE r)[k]? = some e:=by
  intro k L fq hk;have:k<(adE r).length:=by rw[<- hAd.len];exact(List.getElem?_eq_some_iff.1 hk).1
  exact⟨_,List.getElem?_eq_getElem this⟩
 have hfpR:∀ (k:Nat) (L:Loc) (fq:List Nat),ls[k]? = some (L,fq)->∀ b,b∈fq->b∈fpR:=fun k L fq hk b hb=>by
  rw[hAd.fps];exact List.mem_flatten.2 ⟨fq,List.mem_map.2 ⟨(L,fq),List.mem_of_getElem? hk,rfl⟩,hb⟩
 have hfpO:∀ (k:Nat) (L:Loc) (fq:List Nat),lb[k]? = some (L,fq)->∀ b,b∈fq->b∈fpO:=fun k L fq hk b hb=>
  hbk.fps.subset (List.mem_flatten.2 ⟨fq,List.mem_map.2 ⟨(L,fq),List.mem_of_getElem? hk,rfl⟩,hb⟩)
 have hRm1:∀ b,b∈fpR->(b∈fpA\/w.heap.size<=b)/\b<w'.heap.size:=fun b hb=>hRm b (List.mem_append_left _ hb)
 have hRm2:∀ b,b∈fpO->(b∈fpA\/w.heap.size<=b)/\b<w'.heap.size:=fun b hb=>hRm b (List.mem_append_right _ hb)
 -- what is hot behind the call
 have hhot':∀ b,hot c.M0 (Hof h2) μ' b->(hot c.M0 (Hof h) μ b/\b∉fpA)\/b∈fpR++fpO:=by
  intro b hb;rcases hb with hb|⟨id,cap,e,hm,he,hl⟩
  ·refine .inl ⟨.inl hb,fun hf => ?_⟩
   obtain⟨id',_,hF'⟩:=hown.2 b hf;have h3:=c.cold0 b hb;rcases(hW.new id' b hF').1 with h4|h4
   ·exact h3.2 h4
   ·omega
  ·by_cases hid:id<h.length
   ·rw[hμold id hid]at hm
    by_cases hnk:id∈Kl
    ·rw[hH2old id hid]at he
     cases hlk:lk bk lb id with
     | none=>
      rw[hlk]at he;rw[hk.isDead id hnk]at he;cases he;simp[Ent.live]at hl
     | some p=>
      obtain⟨e1,fq⟩:=p;rw[hlk]at he;cases he
      obtain⟨k,L',h6,h7⟩:=y0b hlk;obtain⟨h8,h9⟩:=hbk.ok k id _ L' fq h6 h7;rw[h8]at hm;cases hm;exact .inr (List.mem_append_right _ (hfpO k _ fq h7 b ((h9 μ).topMem hl)))
    ·rw[hH2out id hid hnk]at he
     refine .inl ⟨.inr ⟨id,cap,e,hm,he,hl⟩,fun hf => ?_⟩;obtain⟨id',hid',hF'⟩:=hown.2 b hf;have hF:=(hW.lt hm he hl).1;have:id=id':=Classical.byContradiction fun hne=>hW.disj id id' hne b hF hF'
     subst this;exact hnk (hKK id hid')
   ·rw[hμnew id (by omega)]at hm
    rw[hHnew id (by omega)]at he
    cases hls:ls[id-h.length]? with
    | none=>simp[hls]at hm
    | some p=>
     obtain⟨L,fq⟩:=p;simp only[hls,Option.map_some,Option.some.injEq]at hm;subst hm;exact .inr (List.mem_append_left _ (hfpR _ _ _ hls b (((hAd.ok _ e _ fq he hls).1 μ').topMem hl)))
 have hup := WR.updateD (H' := Hof h2) (μ' := μ') (FP' := FP') (w' := w') (fun i => i ∈ Kl) hW (fun id e he => y8g hrob he) hdeep hK.os hK.tape hK.output hK.size
  (by
   intro b hb;by_cases hbt:b∈fpA
   ·obtain⟨id,hid,hF⟩:=hown.2 b hbt
    exact .inr ⟨id,hKK id hid,hF⟩
   ·exact .inl (hK.block b hb hbt))
  hle
  (by
   intro i hi hnk
   rw[hH2out i (hold i hi) hnk];rfl)
  (by
   intro i hi hk
   rw[hFold i (hold i hi),if_neg hk])
  (by
   intro i L hi hL;by_cases hid:i<h.length
   ·rw[hμold i hid]at hL
    rcases hi with hi|hi
    ·rw[hi]at hL;cases hL
    ·rw[hH2old i hid,hFold i hid,if_pos hi]
     cases hlk:lk bk lb i with
     | none=>exact⟨.dead,hk.isDead i hi,rfl⟩
     | some p=>
      obtain⟨e,fq⟩:=p;obtain⟨k,L',h6,h7⟩:=y0b hlk;obtain⟨h8,h9⟩:=hbk.ok k i e L' fq h6 h7;rw[h8]at hL;cases hL;exact⟨e,rfl,ygb.mono (Map.le_refl _) ⟨Nat.le_refl _,fun b _ hb hh=>hb (hhot' b hh),fun _ _ _=>rfl⟩ (fun b hb=>(hRm2 b (hfpO k _ fq h7 b hb)).2) (h9 _)⟩
   ·rw[hμnew i (by omega)]at hL
    cases hls:ls[i-h.length]? with
    | none=>simp[hls]at hL
    | some p=>
     obtain⟨L',fq⟩:=p;simp only[hls,Option.map_some,Option.some.injEq]at hL;subst hL;obtain⟨e,he⟩:=hlsE _ _ _ hls;refine⟨e,by rw[hHnew i (by omega)];exact he,?_⟩;rw[hFnew i (by omega),hls];simp only[Option.map_some,Option.getD_some]
     exact ygb.mono (Map.le_refl _) ⟨Nat.le_refl _,fun b _ hb hh=>hb (hhot' b hh),fun _ _ _=>rfl⟩ (fun b hb=>(hRm1 b (hfpR _ _ _ hls b hb)).2) ((hAd.ok _ e _ fq he hls).1 μ'))
  (by
   have key:∀ b,(b∈fpA\/w.heap.size<=b)/\b<w'.heap.size->(∃ k,k∈Kl/\b∈FP k)\/(w.heap.size<=b/\b<w'.heap.size):=by
    intro b h3;rcases h3.1 with h4|h4
    ·obtain⟨id,hid',hF⟩:=hown.2 b h4
     exact .inl ⟨id,hKK id hid',hF⟩
    ·exact .inr ⟨h4,h3.2⟩
   intro i b hi hb;by_cases hid:i<h.length
   ·rw[hFold i hid]at hb
    split at hb
    ·cases hlk:lk bk lb i with
     | none=>simp[hlk]at hb
     | some p=>
      obtain⟨e,fq⟩:=p;obtain⟨k,L',h6,h7⟩:=y0b hlk;simp only[hlk,Option.map_some,Option.getD_some]at hb;exact key b (hRm2 b (hfpO k L' fq h7 b hb))
    ·rename_i hk
     rw[hW.out i (hi.resolve_right hk)]at hb;simp at hb
   ·rw[hFnew i (by omega)]at hb
    cases hls:ls[i-h.length]? with
    | none=>simp[hls]at hb
    | some p=>
     obtain⟨L,fq⟩:=p;simp only[hls,Option.map_some,Option.getD_some]at hb
     exact key b (hRm1 b (hfpR _ _ _ hls b hb)))
  (by
   intro i hi;by_cases hid:i<h.length
   ·rw[hμold i hid]at hi
    rw[hFold i hid];split
    ·cases hlk:lk bk lb i with
     | none=>rfl
     | some p=>
      obtain⟨e,fq⟩:=p;obtain⟨k,L',h6,h7⟩:=y0b hlk;rw[(hbk.ok k i e L' fq h6 h7).1]at hi;cases hi
    ·exact hW.out i hi
   ·rw[hμnew i (by omega)]at hi
    rw[hFnew i (by omega)]
    cases hls:ls[i-h.length]? with
    | none=>rfl
    | some p=>simp[hls]at hi)
  (by
   intro i _;by_cases hid:i<h.length
   ·rw[hFold i hid]
    split
    ·cases hlk:lk bk lb i with
     | none=>simp
     | some p=>
      obtain⟨e,fq⟩:=p;obtain⟨k,L',h6,h7⟩:=y0b hlk;exact hlbn.1 k L' fq h7
    ·exact hW.nodup i
   ·rw[hFnew i (by omega)]
    cases hls:ls[i-h.length]? with
    | none=>simp
    | some p=>obtain⟨L,fq⟩:=p;exact hlsn.1 _ L fq hls)
  (by
   have old:∀ i,i<h.length->(μ i=none\/i∈Kl)->FP' i=[]\/∃ (k:Nat) (e:Ent) (L:Loc) (fq:List Nat),bk[k]? = some (i,e)/\lb[k]? = some (L,fq)/\FP' i=fq:=by
    intro i hid hi;rw[hFold i hid];split
    ·cases hlk:lk bk lb i with
     | none=>exact .inl rfl
     | some p=>
      obtain⟨e,fq⟩:=p;obtain⟨k,L',h6,h7⟩:=y0b hlk;exact .inr ⟨k,e,L',fq,h6,h7,rfl⟩
    ·rename_i hk;exact .inl (hW.out i (hi.resolve_right hk))
   have new:∀ i,h.length<=i->FP' i=[]\/∃ (L:Loc) (fq:List Nat),ls[i-h.length]? = some (L,fq)/\FP' i=fq:=by
    intro i hi;rw[hFnew i hi]
    cases hls:ls[i-h.length]? with
    | none=>exact .inl rfl
    | some p=>obtain⟨L,fq⟩:=p;exact .inr ⟨L,fq,rfl,rfl⟩
   intro i j hij hi hj b hbi hbj;by_cases hid:i<h.length
   ·rcases old i hid hi with h5|⟨k,e,L,fq,h5,h6,h7⟩
    ·rw[h5]at hbi;simp at hbi
    ·rw[h7]at hbi
     by_cases hjd:j<h.length
     ·rcases old j hjd hj with g5|⟨k',e',L',fq',g5,g6,g7⟩
      ·rw[g5]at hbj;simp at hbj
      ·rw[g7]at hbj
       have hkk:k≠k':=by
        rintro rfl
        rw[h5]at g5;simp at g5;exact hij g5.1
       exact hlbn.2 k k' L fq L' fq' hkk h6 g6 b hbi hbj
     ·rcases new j (by omega)with g5|⟨L',fq',g6,g7⟩
      ·rw[g5]at hbj;simp at hbj
      ·rw[g7]at hbj
       exact hRn'.2.2 b (hfpR _ _ _ g6 b hbj) b (hfpO _ _ _ h6 b hbi) rfl
   ·rcases new i (by omega)with h5|⟨L,fq,h6,h7⟩
    ·rw[h5]at hbi;simp at hbi
    ·rw[h7]at hbi
     by_cases hjd:j<h.length
     ·rcases old j hjd hj with g5|⟨k',e',L',fq',g5,g6,g7⟩
      ·rw[g5]at hbj;simp at hbj
      ·rw[g7]at hbj
       exact hRn'.2.2 b (hfpR _ _ _ h6 b hbi) b (hfpO _ _ _ g6 b hbj) rfl
     ·rcases new j (by omega)with g5|⟨L',fq',g6,g7⟩
      ·rw[g5]at hbj;simp at hbj
      ·rw[g7]at hbj
       exact hlsn.2 _ _ L fq L' fq' (by omega) h6 g6 b hbi hbj)
 refine⟨v,μ',rfl,⟨FP',hup⟩,?_,hle,?_,?_⟩
 ·intro i hi
  subst hh2;rw[List.length_append,hrl]at hi;rw[hμnew i (by omega),List.getElem?_eq_none (by rw[hAd.len];omega)];rfl
 ·intro y v hy hv
  exact Rep.noBor y hy (Rep.mono (M:=fun _=>True) (M':=fun _=>True) y hle ⟨hK.size,fun _ _ h=>h,fun b hb hh=>by
   rcases hh with hh|hh
   ·exact absurd trivial hh
   ·simp at hh⟩ (Rep.noBor y hy hv))
 ·refine Rep.mono _ (Map.le_refl _) ⟨Nat.le_refl _,fun b _ hb hh=>hb (hhot' b hh),fun _ _ _=>rfl⟩ (hAdR h.length μ' ?_)
  intro j L fq hj;rw[hμnew _ (by omega),Nat.add_sub_cancel_left,hj];rfl
end
end Go.Ab
namespace Go.Ab
open Go
variable [Inv]
section
variable {P:Program} {Γ:Env} {D:Dn} {c:Ctx} {s:St} {a:Act} {w:World} {all:Array Oper} {o:Oper} {Q:Exit->Act->World->Prop} {N:St->Prop} {E:Nat->St->Prop} {R:St->Prop}
theorem ybz {f : FuncId} {args : List Operand} {az az' : List AV} {r : AV} {outs : List AV} {ms : List Bool} {ob : List Prop} {h1 : List Ent} (hs : WRs c s a w) (hr : Rob c s) (hg : o.guard = none) (hc : callOf o.op = some (.func f, args))
  (ha:handM s.h ms (args.map (opnd s.t))=some (az,h1,ob)) (ho:allP ob) (hnb:NoBor r/\NoBorL outs) (hna:NoBorL az') (hsim:simOL az az') (hnd:((bkVL ms (args.map (opnd s.t)) outs).map (·.1)).Nodup) (hD:DenD P f az' r outs)
  (hd:∀ d,o.dst=some d->d<c.nt) {K:Act->World->Prop} (hK:∀ a' w',WRs c ⟨put s.t o.dst (adR s.h.length r),reviveE h1 (bkVL ms (args.map (opnd s.t)) outs)++adE r⟩ a' w'->K a' w') :
  if Region.wanted o (yielded all a.tmps)then o.wp P a w K Q else K (a.put o.dst undef) w:=by
 obtain⟨μ,FP,hW,hdd,hT⟩:=hs;have hw:Region.wanted o (yielded all a.tmps)=true:=by unfold Region.wanted;rw[hg]
 rw[if_pos hw];have has:=ykd (M:=hot c.M0 (Hof s.h) μ) (μ:=μ) (w:=w) (α:=opnd s.t) (ρ:=a.eval) (l:=args) (fun z _=>yee hT z);have hcalls:=ydq hW hdd has ha ho hnb hna hsim hr.hp hr.deep hnd hD;obtain⟨fn,hfn,hname,hbody⟩:=hD.1
 have hrun:(execOp a.eval o).run P w=.ok (.enter f (args.map a.eval).toArray) w:=by
  unfold callOf at hc;split at hc
  ·rename_i cl hop
   split at hc
   ·rename_i fo hcal
    simp only[Option.some.injEq,Prod.mk.injEq]at hc;obtain⟨rfl,rfl⟩:=hc;have hfv:a.eval (.func f)=.func (.func f) #[] #[]:=rfl;simp only[execOp,hop,resolve,hcal,hfv,Deferred.ofValue,Sem.run_bind,Sem.run_pure,Result.andThen_ok,invoke,callFunc,run_program,hfn,hname,hbody]
    have e:(#[]:Array Value)++cl.args.map a.eval ++ #[]=(cl.args.toList.map a.eval).toArray:=by
     apply Array.ext';simp
    rw[e];rfl
   ·simp at hc
  ·simp at hc
 unfold Oper.wp;rw[hrun];show Calls P f _ w _;refine hcalls.mono ?_;rintro e w' ⟨v,μ',rfl,⟨FP',hW'⟩,htl,hle,hnbr,hrr⟩
 refine hK _ _ ⟨μ',FP',hW',htl,?_,?_,?_⟩
 ·have old:∀ i,Rep w' (hot c.M0 (Hof (reviveE h1 (bkVL ms (args.map (opnd s.t)) outs)++adE r)) μ') (get s.t i) μ' (a.tmps.getD i undef) []:=by
   intro i;have hl:=ygk i hr.tm;have hv:=hT.1 i;generalize get s.t i=x at hl hv;generalize a.tmps.getD i undef=u at hv
   cases x with
   | lit u0 y=>
    simp only[yrh]at hl;simp only[Rep]at hv ⊢;obtain⟨_,rfl,_⟩:=hv;exact⟨trivial,rfl,hW'.old hl⟩
   | agg cs=>
    simp only[yrh]at hl;simp only[Rep]at hv ⊢;obtain⟨us,e,hv⟩:=hv;exact⟨us,e,y1g hnbr (fun y u h=>hW'.old h) hl hv⟩
   | _=>exact hnbr _ _ hl hv
  intro i
  cases hdst:o.dst with
  | none=>exact old i
  | some d=>
   have hlt:d<a.tmps.size:=by rw[hT.2.1];exact hd d hdst
   simp only;rw[ysd];by_cases hi:i=d
   ·subst hi
    rw[if_pos rfl];have:(a.put (some i) v).tmps.getD i undef=v:=by simp[Act.put,hlt]
    rw[this];exact hrr
   ·rw[if_neg hi]
    have:(a.put (some d) v).tmps.getD i undef=a.tmps.getD i undef:=by
     simp only[Act.put,Array.getD_eq_getD_getElem?];rw[Array.getElem?_setIfInBounds_ne (fun e=>hi e.symm)]
    rw[this];exact old i
 ·cases hdst:o.dst with
  | none=>exact hT.2.1
  | some d=>simpa [Act.put]using hT.2.1
 ·cases hdst:o.dst with
  | none=>exact hT.2.2
  | some d=>simpa [Act.put]using hT.2.2
def yxs (Γ:Env) (D:Dn) (all:Array Oper) (o:Oper) (os:List Oper) (s:St) (ms:List Bool) (xs az':List AV) (r:AV) (outs:List AV) (K:St->Prop):Prop:=
 match handM s.h ms xs with
 | some (az,h1,ob)=>allP ob/\simOL az az'/\((bkVL ms xs outs).map (·.1)).Nodup /\
   after1 (runA Γ D all os (put s.t o.dst (adR s.h.length r)) (reviveE h1 (bkVL ms xs outs)++adE r)) K
 | none=>False
end
end Go.Ab
