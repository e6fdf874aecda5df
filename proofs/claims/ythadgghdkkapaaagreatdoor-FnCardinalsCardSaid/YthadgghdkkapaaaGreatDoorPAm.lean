/- A part of a proof: walks of functions and lemmas of our own. No conditions. -/
import Derived.Test.YthadgghdkkapaaaGreatDoorPAj
import Derived.Test.YthadgghdkkapaaaGreatDoorPAk
import Derived.Laws.Externs
import Derived.Lib.Overlaps
import Derived.Laws.CopyRow
import Derived.Lib.Walk
import Derived.Deep.RegionLaw
import Derived.Shelf.RegionOpenPlain
import Derived.Test.YthadgghdkkapaaaGreatDoorPAe
import Derived.HandedShaped
import Derived.LaidLaws
set_option linter.unusedSectionVars false
set_option linter.unusedVariables false
set_option linter.unusedSimpArgs false
namespace Go.Ab
open Go Go.Deep Go.ChangeShapes Go.WideShapes Go.ChangeAt Go.RowKit
abbrev U8:={ n:Int // 0<=n/\n<=255 }
instance:Inhabited U8:=⟨⟨0,by decide⟩⟩
theorem ye0 {P:Program} {t:TypeId} (ht:P.underlying t=some (.int .u8)):Rd P t (fun n:U8=>[.int .u8 n.1]):=by
 intro H enc W base sp hd fuel cs x h;obtain⟨n,rfl,_,hw⟩:=DataW.trod_int ht h
 have hr:0<=n/\n<=255:=by
  simp[Lit.wf]at hw
  have q1:IntKind.u8.min=0:=by decide
  have q2:IntKind.u8.max=255:=by decide
  omega
 exact⟨⟨n,hr⟩,rep1 (by simp[Rep]),by simp[Value.oneCell']⟩
theorem yzt (l:List U8):encL 1 (fun n:Int=>[.int .u8 n]) (l.map Subtype.val)=encL 1 (fun n:U8=>[.int .u8 n.1]) l:=by
 simp only[encL,List.length_map];congr 1
 funext i
 simp only[List.getD_eq_getElem?_getD,List.getElem?_map]
 cases l[i]? with
 | none=>rfl
 | some u=>rfl
theorem yep (l:List U8):∀ v∈l.map Subtype.val,0<=v/\v<=255:=fun v hv=>by
 obtain⟨u,_,rfl⟩:=List.mem_map.1 hv;exact u.2
end Go.Ab
namespace Go.Ab
open Go
variable [Inv]
theorem ymz {w w' : World} {M' : Nat -> Prop} {T : TypeId} {e n : Nat} {ob : Option Nat} {f : Nat -> List AV} {us : Nat -> List Value} {fps : Nat -> List Nat} {row : List Value} {b' cap' : Nat} {cur' : Array Value}
  (ho:AppOut w w' T e n 0 ob row [] b' cap' cur') (hrow:row=(List.range n).flatMap us)
  (hel:∀ i,i<n->RepL w' M' (f i) yt (us i) (fps i)/\(us i).length=e/\∀ u∈us i,u.oneCell'=true) :
  Rep w' M' (.sl (some T) e n f) yt (.slice (some ⟨b',0,none⟩) n cap') (b'::(List.range n).flatMap fps):=by
 simp only[Rep]
 have hlt:b'<w'.heap.size:=by
  have:=ho.row;exact(Array.getElem?_eq_some_iff.1 this).1
 refine .inr ⟨b',0,cap',us,fps,rfl,⟨by have:=ho.fit;omega,by have:=ho.fit;have:=ho.big;omega⟩,hlt,fun i hi => ?_,rfl,rfl,cur',ho.row,ho.len,ho.big⟩;obtain⟨h1,h2,h3⟩:=hel i hi;refine⟨h1,h2,fun j u hu => ?_⟩;have hj:j<e:=by rw[<- h2];exact(List.getElem?_eq_some_iff.1 hu).1
 have hlt2:i * e+j<n * e:=by
  have:(i+1) * e<=n * e:=Nat.mul_le_mul_right _ hi;rw[Nat.add_mul,Nat.one_mul]at this;omega
 refine⟨?_,h3 u (List.mem_of_getElem? hu)⟩;rw[cell_of_row w' b' _ cur' T (0,0) ho.row,Nat.zero_add,ho.olds _ hlt2,hrow,y3c (fun i hi=>(hel i hi).2.1) hi hj];exact hu
end Go.Ab
namespace Go.Ab
open Go
variable [Inv]
theorem Den.plain {P : Program} {f : FuncId} {xs : List AV} {r : AV} (hok : FnOk P f) (hno : NoOwnL xs)
  (h:∀ (w:World) (M:Nat->Prop) (vs:List Value),Inv.ok w->RepL w M xs yt vs []->Calls P f vs.toArray w fun e w'=>∃ v,e=.returned v/\Grow w w'/\∀ M',Rep w' M' r yt v []):Den P f xs r:=by
 refine⟨hok,?_⟩;intro w M vs fpA i1 i2 hr hnd hM hlt;have hfp:=NoOwnL.fp xs hno hr;subst hfp
 have htop:yz xs vs=[]:=by
  apply List.eq_nil_iff_forall_not_mem.2;intro b hb;have:=y1b xs hr b hb;simp at this
 refine(h w _ vs i1 hr).mono ?_;rintro e w' ⟨v,rfl,hg,hv⟩
 refine⟨v,[],rfl,⟨hg.os,hg.tape,hg.output,hg.size,fun k hk _=>hg.block k hk⟩,hv _,List.nodup_nil,by simp,fun b hb => ?_⟩;have:=y7e r (hv (fun _=>False)) b hb;simp at this
theorem Den.fresh {α : Type} [Inhabited α] {P : Program} {f : FuncId} {xs : List AV} {T : TypeId} {e : Nat} {enc : α -> List AV} {l : List α} (hok : FnOk P f) (hno : NoOwnL xs)
  (us:Nat->List Value) (hus:∀ w M i,i<l.length->RepL w M (enc (l.getD i default)) yt (us i) []/\(us i).length=e/\∀ u∈us i,u.oneCell'=true)
  (h:∀ (w:World) (M:Nat->Prop) (vs:List Value),Inv.ok w->RepL w M xs yt vs []->Calls P f vs.toArray w fun ex w'=>∃ b' cap' cur',ex=.returned (.slice (some ⟨b',0,none⟩) l.length cap')/\AppOut w w' T e l.length 0 none ((List.range l.length).flatMap us) [] b' cap' cur') :
  Den P f xs (ownL T e enc l):=by
 refine⟨hok,?_⟩;intro w M vs fpA i1 i2 hr hnd hM hlt;have hfp:=NoOwnL.fp xs hno hr;subst hfp;refine(h w _ vs i1 hr).mono ?_;rintro ex w' ⟨b',cap',cur',rfl,ho⟩
 have hb:b'=w.heap.size:=by
  rcases ho.place with h|h
  ·cases h
  ·exact h
 have hf:(List.range l.length).flatMap (fun _=>([]:List Nat))=[]:=by simp
 have hR:=ymz (M':=fun c=>M c\/c∈[b']) (f:=fun k=>enc (l.getD k default)) (us:=us) (fps:=fun _=>[]) ho rfl (fun i hi=>hus w' _ i hi);rw[hf]at hR;refine⟨_,[b'],rfl,⟨ho.os,ho.tape,ho.output,ho.size,fun k hk _=>ho.other k hk (by omega)⟩,hR,by simp,?_,?_⟩
 ·intro b hb2
  simp only[List.mem_singleton]at hb2;subst hb2;exact⟨.inr (by omega),(Array.getElem?_eq_some_iff.1 ho.row).1⟩
 ·intro b hb2
  simp only[tops,y7b,ownL,List.mem_singleton]at hb2;subst hb2;exact .inr (by omega)
theorem y1n (w:World) (T:TypeId) (l:List Value) (hm:l.length<=maxLen) :
  AppOut w (w.alloc (.cells l.toArray T)) T 1 l.length 0 none ((List.range l.length).flatMap fun i=>[l.getD i default]) [] w.heap.size l.length l.toArray:=by
 have hflat:(List.range l.length).flatMap (fun i=>[l.getD i default])=l:=by
  have : ∀ (k : List Nat), k.flatMap (fun i => [l.getD i default]) = k.map (fun i => l.getD i default) := fun k => by induction k with
   | nil=>rfl
   | cons a k ih=>rw[List.flatMap_cons,ih];rfl
  rw[this];exact yab l
 refine⟨rfl,rfl,rfl,by simp,?_,heap_alloc_new w _,by simp,by simp,hm,?_,fun j hj=>by omega,.inr rfl⟩
 ·intro k hk _
  show(w.heap.push _)[k]? = _;rw[Array.getElem?_push,if_neg (by omega)]
 ·intro j hj
  rw[hflat];simp
end Go.Ab
namespace Go.Ab
open Go
variable [Inv]
structure ElT (P:Program) (tS tE:TypeId) (e bytes:Nat) (i:TypeInfo) (z:Value):Prop where
 und:P.underlying tS=some (.slice tE)
 inf:P.info? tE=some i
 zero:i.zero=some z
 size:i.size=e
 byt:i.bytes=bytes
 zs:z.cells.size=e
 pos:0<e
 zone:∀ u∈z.cells,u.oneCell'=true
end Go.Ab
namespace Go.Ab
open Go
variable [Inv]
variable {P:Program} {c:Ctx} {s:St} {N:St->Prop} {E:Nat->St->Prop} {R:St->Prop}
theorem AWP.arrS {code : Code} (id : Nat) {T : TypeId} {e n : Nat} {f : Nat -> List AV} (f' : Nat -> List AV) (hid : nthE s.h id = some (.arr T e n f)) (hx : ∀ i, i < n -> simOL (f i) (f' i))
  (h:AWP P c code N E R ⟨s.t,setE s.h id (.arr T e n f')⟩):AWP P c code N E R s:=by
 refine⟨fun a w hs=>h.run a w ?_⟩;obtain⟨μ,FP,hW,htl,h1,h2,h3⟩:=hs;have hlt:=yjc hid
 have hget:∀ k,nthE (setE s.h id (.arr T e n f')) k=if k=id then some (.arr T e n f')else nthE s.h k:=by
  intro k;rw[y4];by_cases hk:k=id
  ·subst hk;rw[if_pos ⟨rfl,hlt⟩,if_pos rfl]
  ·rw[if_neg (fun h=>hk h.1),if_neg hk]
 have hhot:∀ b,hot c.M0 (Hof (setE s.h id (.arr T e n f'))) μ b->hot c.M0 (Hof s.h) μ b:=by
  rintro b (hb|⟨k,cap,e',hm,he,hl⟩)
  ·exact .inl hb
  ·right
   rw[show Hof (setE s.h id (.arr T e n f')) k=nthE (setE s.h id (.arr T e n f')) k from rfl,hget]at he;by_cases hk:k=id
   ·subst hk;exact⟨k,cap,_,hm,hid,rfl⟩
   ·rw[if_neg hk]at he;exact⟨k,cap,e',hm,he,hl⟩
 have hsm:∀ fq,Same w (hot c.M0 (Hof s.h) μ) w (hot c.M0 (Hof (setE s.h id (.arr T e n f'))) μ) fq:=fun fq=>⟨Nat.le_refl _,fun b _ hb hh=>hb (hhot b hh),fun _ _ _=>rfl⟩
 refine⟨μ,FP,⟨hW.keep,hW.base,?_,hW.out,hW.nodup,hW.disj,hW.new,?_⟩,?_,fun i=>Rep.mono _ (Map.le_refl _) (hsm _) (h1 i),h2,h3⟩
 ·intro k L hk
  obtain⟨e2,g1,g2⟩:=hW.ent k L hk;have g3:=y3b.mono (Map.le_refl _) (hsm _) (fun b hb=>(hW.new k b hb).2) g2;rw[show Hof (setE s.h id (.arr T e n f')) k=nthE (setE s.h id (.arr T e n f')) k from rfl,hget];by_cases hki:k=id
  ·subst hki
   rw[show Hof s.h k=nthE s.h k from rfl,hid]at g1;cases g1
   refine⟨_,if_pos rfl,?_⟩
   cases L with
   | nil=>exact g3
   | blk b cap=>
    obtain⟨cur,us,fps,q1,q2,q3,q4,q5,q6⟩:=g3;exact⟨cur,us,fps,q1,q2,q3,q4,fun i hi=>⟨yyb _ _ (hx i hi) (q5 i hi).1,(q5 i hi).2⟩,q6⟩
  ·exact⟨e2,by rw[if_neg hki];exact g1,g3⟩
 ·intro k b cap e' hm he hli
  rw[show Hof (setE s.h id (.arr T e n f')) k=nthE (setE s.h id (.arr T e n f')) k from rfl,hget]at he;by_cases hki:k=id
  ·subst hki;exact hW.top k b cap _ hm hid rfl
  ·rw[if_neg hki]at he;exact hW.top k b cap e' hm he hli
 ·intro k hk
  rw[y0]at hk;exact htl k hk
theorem y3w {α:Type} [Inhabited α] (n i:Nat):(List.replicate n (default:α)).getD i default=default:=by
 rw[List.getD_eq_getElem?_getD,List.getElem?_replicate];split<;>rfl
theorem zs {p:Prop} (h:p:=by(intro i hi;rw[y3w];(repeat' first|exact rfl|exact trivial|refine⟨?_,?_⟩));first|done|fail):p:=h
end Go.Ab
namespace Go.Ab
open Go
variable [Inv]
def yvi (Γ:Env) (rs:List ResultVar) (bk:List AV) (r:AV) (outs:List AV) (s:St):Prop:=
  match resA Γ s rs with
  | some (xs, o1) => match absVL s.h xs with
    | some (ys, h', ob) => match absBVL h' bk with
      | some (zs,_,ob2)=>allP o1/\allP ob/\allP ob2/\FlatOL zs/\simO (packA (borrowL ys)) r/\simOL zs outs
      | none=>False
    | none=>False
  | none=>False
section
variable {P:Program}
theorem yko {f : FuncId} {fn : Func} {code : Code} {xs : List AV} {r : AV} {outs : List AV} {gb : List Bool} {N : Nat} {rs : List ResultVar} {Γ : Env} (hΓ : TyOk P Γ) (hf : P.funcs[f]? = some fn) (hname : (fn.name == "runtime.NumGoroutine") = false)
  (hb:fn.body=some code) (hN:fn.ntmps=N) (hr:fn.results.toList=rs) (hlen:xs.length<=N)
  (h:∀ c:Ctx,ywc xs->c.nt=N->c.k0=(adEL xs).length->AWP P c code (yvi Γ rs (posL gb (adRL 0 xs)) r outs) (fun _ _=>False) (yvi Γ rs (posL gb (adRL 0 xs)) r outs) ⟨pars 0 (adRL 0 xs),adEL xs⟩):DenM P f xs r outs:=by
 refine⟨⟨fn,hf,hname,by rw[hb];rfl⟩,?_⟩;intro w M vs fpA hI hIM hA hAn hAm hM;obtain⟨ls,hAd,hAdR⟩:=yth xs hA;have hlsn:=yqb (ls:=ls) (by rw[<- hAd.fps];exact hAn);have hlt:∀ b,b∈fpA->b<w.heap.size:=RepL.fp_lt xs hA;have htf:∀ b,b∈yz xs vs->b∈fpA:=y1b xs hA
 have hfpA:∀ (k:Nat) (L:Loc) (fq:List Nat),ls[k]? = some (L,fq)->∀ b,b∈fq->b∈fpA:=fun k L fq hk b hb=>by
  rw[hAd.fps];exact List.mem_flatten.2 ⟨fq,List.mem_map.2 ⟨(L,fq),List.mem_of_getElem? hk,rfl⟩,hb⟩
 let μ0:Map:=fun j=>(ls[j]?).map (·.1)
 let FP0:Nat->List Nat:=fun j=>((ls[j]?).map (·.2)).getD []
 have hbase:∀ j L,μ0 j=some L->j<(adEL xs).length:=by
  intro j L hj;simp only[μ0]at hj
  cases hls:ls[j]? with
  | none=>simp[hls]at hj
  | some p=>rw[<- hAd.len];exact(List.getElem?_eq_some_iff.1 hls).1
 let c:Ctx:={ w0:=w,M0:=M,F0:=fpA,T0:=yz xs vs,mu0:=μ0,k0:=(adEL xs).length,nt:=N,cold0:=fun b hb=>⟨hM b hb,fun h=>hAm b h hb⟩,own0:=hlt,top0:=htf,base0:=hbase,inv0:=hI,invM:=hIM }
 have hhot:∀ b,hot c.M0 (Hof (adEL xs)) μ0 b->M b\/b∈yz xs vs:=by
  rintro b (hb|⟨id,cap,e,hm,he,hl⟩)
  ·exact .inl hb
  ·right
   simp only[μ0]at hm
   cases hls:ls[id]? with
   | none=>simp[hls]at hm
   | some p=>
    obtain⟨L,fq⟩:=p;simp only[hls,Option.map_some,Option.some.injEq]at hm;subst hm;simp only[Hof,ycb]at he;exact(hAd.ok id e _ fq he hls).2 b cap rfl
 have hR0:RepL w (fun b=>M b\/b∈yz xs vs) (adRL 0 xs) μ0 vs []:=hAdR 0 μ0 (fun j L fq hj=>by simp only[μ0,Nat.zero_add,hj];rfl);have hA':RepL w (hot c.M0 (Hof (adEL xs)) μ0) (adRL 0 xs) μ0 vs []:=yod hhot hR0;have hvl:=hA.length;have hal:(adRL 0 xs).length=xs.length:=by rw[<- hA'.length,hvl]
 refine calls_of_wp hf hb ?_;refine wp_mono ((h c (RepL.lens xs hA) rfl rfl).run _ _ ⟨μ0,FP0,⟨⟨rfl,rfl,rfl,Nat.le_refl _,fun _ _ _=>rfl⟩,Map.le_refl _,?_,?_,?_,?_,?_,?_⟩,?_,?_,?_,rfl⟩) ?_
 ·intro id L hm
  simp only[μ0]at hm
  cases hls:ls[id]? with
  | none=>simp[hls]at hm
  | some p=>
   obtain⟨L',fq⟩:=p;simp only[hls,Option.map_some,Option.some.injEq]at hm;subst hm;have hid:id<(adEL xs).length:=by rw[<- hAd.len];exact(List.getElem?_eq_some_iff.1 hls).1
   refine⟨_,by simp only[Hof,ycb];exact List.getElem?_eq_getElem hid,?_⟩;have hok:=(hAd.ok id _ _ fq (List.getElem?_eq_getElem hid) hls).1 μ0;simp only[FP0,hls,Option.map_some,Option.getD_some];exact y3b.mono (Map.le_refl _) ⟨Nat.le_refl _,fun b _ hb hh=>hb (hhot b hh),fun _ _ _=>rfl⟩ (fun b hb=>hlt b (hfpA _ _ _ hls b hb)) hok
 ·intro id hm
  simp only[μ0]at hm;simp only[FP0]
  cases hls:ls[id]? with
  | none=>rfl
  | some p=>simp[hls]at hm
 ·intro id
  simp only[FP0]
  cases hls:ls[id]? with
  | none=>simp
  | some p=>obtain⟨L,fq⟩:=p;exact hlsn.1 id L fq hls
 ·intro i j hij b hbi hbj
  simp only[FP0]at hbi hbj
  cases hli:ls[i]? with
  | none=>simp[hli]at hbi
  | some p=>
   cases hlj:ls[j]? with
   | none=>simp[hlj]at hbj
   | some q=>
    obtain⟨L1,f1⟩:=p;obtain⟨L2,f2⟩:=q;simp only[hli,hlj,Option.map_some,Option.getD_some]at hbi hbj;exact hlsn.2 i j L1 f1 L2 f2 hij hli hlj b hbi hbj
 ·intro i b hb
  simp only[FP0]at hb
  cases hls:ls[i]? with
  | none=>simp[hls]at hb
  | some p=>
   obtain⟨L,fq⟩:=p;simp only[hls,Option.map_some,Option.getD_some]at hb;exact⟨.inl (hfpA _ _ _ hls b hb),hlt b (hfpA _ _ _ hls b hb)⟩
 ·intro id b cap e hm he hl
  left
  simp only[μ0]at hm
  cases hls:ls[id]? with
  | none=>simp[hls]at hm
  | some p=>
   obtain⟨L,fq⟩:=p;simp only[hls,Option.map_some,Option.some.injEq]at hm;subst hm;simp only[Hof,ycb]at he;exact(hAd.ok id e _ fq he hls).2 b cap rfl
 ·intro j hj
  simp only[μ0];rw[List.getElem?_eq_none (by rw[hAd.len];exact hj)];rfl
 ·intro i
  have:=ydh (k:=0) (i:=i) (rest:=(Array.replicate (fn.ntmps-vs.toArray.size) undef).toList) hA' (Nat.zero_le _)
  have e:(vs.toArray++Array.replicate (fn.ntmps-vs.toArray.size) undef).getD i undef=(((vs++(Array.replicate (fn.ntmps-vs.toArray.size) undef).toList)[i-0]?).getD undef):=by
   rw[Array.getD_eq_getD_getElem?, <- Array.getElem?_toList];simp
  rw[e];exact this
 ·simp only[Array.size_append,List.size_toArray,Array.size_replicate]
  show vs.length+(fn.ntmps-vs.length)=N;omega
 ·intro e a w' hp
  have main:∀ s',yvi Γ rs (posL gb (adRL 0 xs)) r outs s'->WRs c s' a w'->bodyPost P fn (fun e w'=>∃ v fpR fpO,e=.returned v/\Keep w (yz xs vs) w'/\Rep w' (fun b=>M b\/b∈fpR++fpO) r yt v fpR /\
    RepL w' (fun b=>M b\/b∈fpR++fpO) outs yt vs fpO/\(fpR++fpO).Nodup/\(∀ b,b∈fpR++fpO->(b∈fpA\/w.heap.size<=b)/\b<w'.heap.size) /\
    (∀ b,b∈tops r v++yz outs vs->b∈yz xs vs\/w.heap.size<=b)) .ret a w':=by
   intro s' hE hs';simp only[yvi]at hE;split at hE
   ·rename_i xs0 o1 hres0
    split at hE
    ·rename_i ys h' ob habs
     split at hE
     ·rename_i zs h'' ob2 hback
      obtain⟨ho1,ho,ho2,hf2,hpack,hsim⟩:=hE;obtain⟨μ,FP,hW,htl,h1,h2,h3⟩:=hs'
      have hmap:∃ us,(fn.results.toList.mapM (fun|.tmp t=>pure (a.tmps.getD t undef)|.cell b t=>do loadVar t (<- asAddr (a.tmps.getD b undef)):ResultVar->Sem Value)).run P w'=.ok us w'/\RepL w' (hot c.M0 (Hof s'.h) μ) xs0 μ us []:=by
       rw[hr];exact y5i hΓ hW a.tmps h1 (fun _=>rfl) (fun _ _=>rfl) hres0 ho1
      obtain⟨us,hrun,hres⟩:=hmap;obtain⟨K1,fp1,hr1,hgone1,hown1⟩:=yfe hW (fun _ _ he _=>he) hres habs ho;have htops1:=yee (fun _ _ he _=>he) hres habs;have hpos:RepL w' (hot c.M0 (Hof s'.h) μ) (posL gb (adRL 0 xs)) μ vs []:=yeh hW.base hR0;obtain⟨K2,fp2,hr2,hgone2,hown2,htops2⟩:=yye hW (fun id e he hl=>hgone1.sub id e he hl) hpos hback ho2;have hown:=Owns.app hW hgone1 hgone2 hown1 hown2
      have hnew:∀ b,b∈fp1++fp2->(b∈fpA\/w.heap.size<=b)/\b<w'.heap.size:=by
       intro b hb;obtain⟨id,_,hid⟩:=hown.2 b hb;exact hW.new id b hid
      have htop:∀ b,b∈fp1++fp2->hot c.M0 (Hof s'.h) μ b->b∈yz xs vs\/w.heap.size<=b:=by
       intro b hb hh;rcases hh with hh|⟨id,cap,e,hm,he,hl⟩
       ·have hc:=c.cold0 b hh
        rcases(hnew b hb).1 with h5|h5
        ·exact absurd h5 hc.2
        ·exact .inr h5
       ·exact hW.top id b cap e hm he hl
      let v0:Value:=if h:us.toArray.size=1 then us.toArray[0]else .tuple us.toArray
      have hcold:∀ b,b<w'.heap.size->¬ hot c.M0 (Hof s'.h) μ b->¬ (M b\/b∈[]++fp2):=by
       rintro b _ hn (hm|hm)
       ·exact hn (.inl hm)
       ·exact hn (htops2 b (FlatOL.tops zs hf2 hr2 b (by simpa using hm)))
      have hd12:∀ b,b∈fp1->b∉fp2:=fun b h1 h2=>(List.nodup_append.1 hown.1).2.2 b h1 b h2 rfl
      have hfree:∀ b,b∈fp1->¬ (M b\/b∈[]++fp2):=by
       rintro b hb (hm|hm)
       ·have hc:=c.cold0 b hm
        rcases(hnew b (List.mem_append_left _ hb)).1 with h5|h5
        ·exact hc.2 h5
        ·have:c.w0.heap.size=w.heap.size:=rfl
         omega
       ·exact hd12 b hb (by simpa using hm)
      have hYZ:RepL w' (fun b=>M b\/b∈[]++fp2) (borrowL ys) yt us []/\RepL w' (fun b=>M b\/b∈[]++fp2) zs yt vs fp2:=
       ⟨ynb ys hfree (RepL.mono ys (Map.le_refl _) ⟨Nat.le_refl _,hcold,fun _ _ _=>rfl⟩ hr1),RepL.mono zs (Map.le_refl _) ⟨Nat.le_refl _,hcold,fun _ _ _=>rfl⟩ hr2⟩
      have hrp1:Rep w' (fun b=>M b\/b∈[]++fp2) (packA (borrowL ys)) yt v0 []:=y4g hYZ.1;refine⟨h3,v0,?_,v0,[],fp2,rfl,hW.keep,?_,?_,by simpa using (List.nodup_append.1 hown.1).2.1,fun b hb=>hnew b (List.mem_append_right _ (by simpa using hb)),?_⟩
      ·unfold results
       rw[Sem.run_bind, <- Array.toArray_toList (xs:=fn.results),List.mapM_toArray];simp only[Sem.run_map];erw [hrun]
       rfl
      ·exact yle _ _ hpack hrp1
      ·exact yyb _ _ hsim hYZ.2
      ·intro b hb
       rcases List.mem_append.1 hb with hb|hb
       ·rw[yyi _ _ hpack hrp1]at hb
        have hbf:=y7e _ hrp1 b hb;cases hbf
       ·rw[yzc _ _ hsim hr2]at hb
        have hbf:b∈fp2:=y1b _ hr2 b hb;exact htop b (List.mem_append_right _ hbf) (htops2 b hb)
     ·exact hE.elim
    ·exact hE.elim
   ·exact hE.elim
  cases e with
  | normal=>obtain⟨s',h1,h2⟩:=hp;exact main s' h1 h2
  | ret=>obtain⟨s',h1,h2⟩:=hp;exact main s' h1 h2
  | exit id=>obtain⟨s',h1,h2⟩:=hp;exact h1.elim
  | _=>exact hp.elim
end
section
variable {P:Program} {f:FuncId} {fn:Func} {code:Code} {xs:List AV} {r:AV} {N:Nat} {Γ:Env} {A:Array ResultVar}
theorem djL {outs : List AV} {gb : List Bool} (hf : P.funcs[f]? = some fn) (hN : fn.ntmps = N) (hr : fn.results = A)
  (h:∀ c:Ctx,ywc xs->c.nt=N->c.k0=(adEL xs).length->AWP P c code (yvi Γ A.toList (posL gb (adRL 0 xs)) r outs) (fun _ _=>False) (yvi Γ A.toList (posL gb (adRL 0 xs)) r outs) ⟨pars 0 (adRL 0 xs),adEL xs⟩)
  (hb:fn.body=some code:=by rfl) (hΓ:TyOk P Γ:=by exact G_ok) (hname:(fn.name == "runtime.NumGoroutine")=false:=by kernel_rfl) (hlen:xs.length<=N:=by simp):DenM P f xs r outs:=
 yko hΓ hf hname hb hN (by rw[hr]) hlen h
end
theorem esL {p:Prop} (h:p:=by((simp only[yvi,en,si,ea,gv,sv,hk,reduceCtorEq,reduceIte,Nat.reduceBEq,Nat.reduceAdd,Nat.reduceEqDiff,Nat.reduceLT,Nat.reduceLeDiff,Nat.reduceMul,Nat.reduceSub,BEq.rfl,beq_self_eq_true,Int.reduceToNat];first|done|exact o3|exact cl));(first|done|fail)):p:=h
end Go.Ab
namespace Go.Ab
open Go
variable [Inv]
variable {P:Program} {c:Ctx} {s:St} {N:St->Prop} {E:Nat->St->Prop} {R:St->Prop}
theorem y9x (q i:Nat) (x:AV) (t:List (Nat×AV)):get ((q,x)::t) i=if i=q then x else get t i:=by
 simp only[get];by_cases h:i=q
 ·subst h;rw[if_pos rfl];simp
 ·rw[if_neg h]
  cases hb:Nat.beq i q with
  | true=>exact absurd (Nat.eq_of_beq_eq_true hb) h
  | false=>simp
end Go.Ab
namespace Go.Ab
open Go
variable [Inv]
variable {P:Program} {c:Ctx} {s:St} {N:St->Prop} {E:Nat->St->Prop} {R:St->Prop}
theorem AWP.lendP {code : Code} (q id : Nat) {cs : List AV} (cs' : List AV) (hq : get s.t q = .ptr id 0) (hid : nthE s.h id = some (.box cs))
  (hx:simOL (borrowL cs) cs') (hp:pureL cs'=true)
  (h:AWP P c code N E R ⟨(q,.ep cs')::s.t,setE s.h id .dead⟩):AWP P c code N E R s:=by
 refine⟨fun a w hs=>h.run a w ?_⟩;obtain⟨μ,FP,hW,htl,h1,h2,h3⟩:=hs;have hlt:=yjc hid
 have hget:∀ k,nthE (setE s.h id .dead) k=if k=id then some .dead else nthE s.h k:=by
  intro k;rw[y4];by_cases hk:k=id
  ·subst hk;rw[if_pos ⟨rfl,hlt⟩,if_pos rfl]
  ·rw[if_neg (fun h=>hk h.1),if_neg hk]
 have hhot:∀ b,hot c.M0 (Hof (setE s.h id .dead)) μ b->c.M0 b\/∃ k cap e',k≠id/\μ k=some (.blk b cap)/\Hof s.h k=some e'/\e'.live=true:=by
  rintro b (hb|⟨k,cap,e',hm,he,hl⟩)
  ·exact .inl hb
  ·rw[show Hof (setE s.h id .dead) k=nthE (setE s.h id .dead) k from rfl,hget]at he
   by_cases hk:k=id
   ·subst hk;rw[if_pos rfl]at he;cases he;cases hl
   ·rw[if_neg hk]at he;exact .inr ⟨k,cap,e',hk,hm,he,hl⟩
 have hhot2:∀ b,hot c.M0 (Hof (setE s.h id .dead)) μ b->hot c.M0 (Hof s.h) μ b:=by
  intro b hb;rcases hhot b hb with h5|⟨k,cap,e',_,hm,he,hl⟩
  ·exact .inl h5
  ·exact .inr ⟨k,cap,e',hm,he,hl⟩
 have hsm:∀ fq,Same w (hot c.M0 (Hof s.h) μ) w (hot c.M0 (Hof (setE s.h id .dead)) μ) fq:=fun fq=>⟨Nat.le_refl _,fun b _ hb hh=>hb (hhot2 b hh),fun _ _ _=>rfl⟩
 have htopin:∀ k b cap e',μ k=some (.blk b cap)->Hof s.h k=some e'->e'.live=true->b∈FP k:=by
  intro k b cap e' hm he hl;obtain⟨e2,g1,g2⟩:=hW.ent k _ hm;rw[he]at g1;cases g1
  cases e' with
  | dead=>cases hl
  | box cs=>obtain⟨b',cap',us,T',hL,hfp,_⟩:=g2;cases hL;rw[hfp];simp
  | it l p m=>obtain⟨b',hL,hfp,_⟩:=g2;cases hL;rw[hfp];simp
  | arr T' e' n' f'=>obtain⟨cur,us,fps,_,_,_,_,_,hfp⟩:=g2;rw[hfp];simp
 have hcold:∀ x,x∈FP id->¬ hot c.M0 (Hof (setE s.h id .dead)) μ x:=by
  intro x hx hh;rcases hhot x hh with hM|⟨k,cap,e',hk,hm,he,hl⟩
  ·have hc:=c.cold0 x hM
   rcases(hW.new id x hx).1 with h5|h5
   ·exact hc.2 h5
   ·omega
  ·exact hW.disj k id hk x (htopin k x cap e' hm he hl) hx
 let FP2:Nat->List Nat:=fun k=>if k=id then[]else FP k
 have hsub:∀ k b,b∈FP2 k->b∈FP k:=by
  intro k b hb;simp only[FP2]at hb;by_cases hk:k=id
  ·rw[if_pos hk]at hb;cases hb
  ·rw[if_neg hk]at hb;exact hb
 have hslot:Rep w (hot c.M0 (Hof (setE s.h id .dead)) μ) (.ep cs') μ (a.tmps.getD q undef) []:=by
  have hr:=h1 q;rw[hq]at hr;simp only[Rep]at hr ⊢;obtain⟨_,b,cap,hm,hv⟩:=hr;obtain⟨e2,g1,g2⟩:=hW.ent id _ hm;rw[show Hof s.h id=nthE s.h id from rfl,hid]at g1;cases g1
  have g3:=y3b.mono (Map.le_refl _) (hsm _) (fun b hb=>(hW.new id b hb).2) g2;obtain⟨b',cap',us,T',q1,q2,q3,q4,q5⟩:=g3;cases q1
  have hbF:b∈FP id:=by rw[q2];simp
  refine⟨trivial,b,0,us,hv,(hW.new id b hbF).2,hcold b hbF,yrb _ hp (yyb _ _ hx (ynb cs (fun x hxm=>by cases hxm) q5)),?_⟩;intro j u hu;refine⟨?_,q4 u (List.mem_of_getElem? hu)⟩;unfold World.cell?;simp only[q3,Nat.zero_add];simpa using hu
 refine⟨μ,FP2,⟨hW.keep,hW.base,?_,?_,?_,?_,fun k b hb=>hW.new k b (hsub k b hb),?_⟩,?_,fun i => ?_,h2,h3⟩
 ·intro k L hk
  obtain⟨e2,g1,g2⟩:=hW.ent k L hk;rw[show Hof (setE s.h id .dead) k=nthE (setE s.h id .dead) k from rfl,hget];by_cases hki:k=id
  ·subst hki
   exact⟨.dead,if_pos rfl,if_pos rfl⟩
  ·have g3:=y3b.mono (Map.le_refl _) (hsm _) (fun b hb=>(hW.new k b hb).2) g2
   refine⟨e2,by rw[if_neg hki];exact g1,?_⟩;rw[show FP2 k=FP k from if_neg hki];exact g3
 ·intro k hk
  by_cases hki:k=id
  ·exact if_pos hki
  ·rw[show FP2 k=FP k from if_neg hki];exact hW.out k hk
 ·intro k
  by_cases hki:k=id
  ·rw[show FP2 k=[]from if_pos hki];simp
  ·rw[show FP2 k=FP k from if_neg hki];exact hW.nodup k
 ·intro i j hij b hb hb2
  exact hW.disj i j hij b (hsub i b hb) (hsub j b hb2)
 ·intro k b cap e' hm he hli
  rw[show Hof (setE s.h id .dead) k=nthE (setE s.h id .dead) k from rfl,hget]at he;by_cases hki:k=id
  ·subst hki;rw[if_pos rfl]at he;cases he;cases hli
  ·rw[if_neg hki]at he;exact hW.top k b cap e' hm he hli
 ·intro k hk
  rw[y0]at hk;exact htl k hk
 ·rw[show get (⟨(q,.ep cs')::s.t,setE s.h id .dead⟩:St).t i=get ((q,.ep cs')::s.t) i from rfl,y9x]
  by_cases hi:i=q
  ·subst hi;rw[if_pos rfl];exact hslot
  ·rw[if_neg hi];exact Rep.mono _ (Map.le_refl _) (hsm _) (h1 i)
theorem lp1 {p:Prop} (h:p:=by(first|exact y9 _|(simp only[borrowL,borrow];exact y9 _)|(simp only[borrowL,borrow,simOL,simO];(repeat' apply And.intro)<;>first|rfl|trivial));first|done|fail):p:=h
end Go.Ab
namespace Go.Ab
open Go
variable {H:Type} {enc:TypeId×Value->H}
theorem ypc {a : Assume} {C : Checked} {os : Os} {f : FuncId} {fn : Func} {s : ChangeSpec} {conds : List PathCond} {apart fresh handsOn again : Bool} {X : World -> Array Value -> Prop}
  (hX:∀ (w w':World) (args:Array Value),w.heap=w'.heap->X w args->X w' args)
  (own:ownKnob C.prog.godebug=none) (started:os.Started) (noInit:C.prog.inits.idxOf? f=none) (hfn:C.prog.funcs[f]? = some fn)
  (witness:∃ (w:World) (tape:Tape) (i:Input),w.os=os/\(w.forCall tape i).Shaped C.prog/\i.vars=[]/\Input.okWide C.prog (w.forCall tape i) .any w.heap.size f i /\
   ((s.pre enc C.prog fn conds apart (w.forCall tape i).memory i.args/\X (w.forCall tape i).memory i.args)/\sizedMet enc C.prog fn (OpenSpec.ofChange s) apart (w.forCall tape i).memory i.args)/\a.holds C.prog (lone (Frame.enter C.prog f i.args .normal) [] (w.forCall tape i)))
  (contract:∀ (W:World) (base:Nat) (args:Array Value) (ds gs:List (DataW H)) (before:List MemPlace),
   (∀ (j:Nat) t v,fn.params[j]? = some t->args[j]? = some v->Value.okWide C.prog W .any base t v) ->
   DataW.Whole enc C.prog fn.params.toList s.vars apart W args.toList ds gs before ->
   conds.all (PathCond.test C.prog ⟨fn.params.toList,ds,s.plain.varTypes C.prog,gs⟩)=true->X W args->W.ShapedOpen C.prog ->
   Calls C.prog f args W fun e W'=>∃ v,e=.returned v/\s.post enc C.prog fn apart fresh handsOn again W args v W') :
  ReturnsInHanded a C os f .any (fun w args=>(s.pre enc C.prog fn conds apart w args/\X w args)/\sizedMet enc C.prog fn (OpenSpec.ofChange s) apart w args) (s.post enc C.prog fn apart fresh handsOn again):=by
 refine returnsInHanded_of_calls own started noInit witness ?_;intro w tape i _ hsh _ hok hpre hholds;obtain⟨_,_,_,fn',hfn',_,_,_,_,hval⟩:=hok;have e:fn'=fn:=Option.some.inj (hfn'.symm.trans hfn);subst e;obtain⟨⟨⟨ds,gs,before,hw,hc⟩,hx⟩,hz⟩:=hpre;have hw':=DataW.Whole.of_heap (w':=w.forCall tape i) (by rfl) hw;refine(contract (w.forCall tape i) w.heap.size i.args ds gs before hval hw' hc (hX _ _ _ (by rfl) hx) hsh).mono fun e W' ⟨v,he,hp⟩ => ?_
 subst he;exact ChangeSpec.post_blind hp
end Go.Ab
