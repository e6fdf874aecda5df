/- A part of a proof: walks of functions and lemmas of our own. No conditions. -/
import Derived.Test.YtjngmicjnheliaaGreatDoorQAk
import Derived.Laws.Externs
import Derived.Lib.Overlaps
import Derived.Laws.CopyRow
import Derived.Lib.Walk
import Derived.Deep.RegionLaw
import Derived.Shelf.RegionOpenPlain
import Derived.Test.YtjngmicjnheliaaGreatDoorQAe
import Derived.HandedShaped
import Derived.LaidLaws
set_option linter.unusedSectionVars false
set_option linter.unusedVariables false
set_option linter.unusedSimpArgs false
namespace Go.Ab
open Go
variable [Inv]
theorem y6x {w w' : World} {M' : Nat -> Prop} {T : TypeId} {e n : Nat} {ob : Option Nat} {f : Nat -> List AV} {us : Nat -> List Value} {fps : Nat -> List Nat} {row : List Value} {b' cap' : Nat} {cur' : Array Value}
  (ho:AppOut w w' T e n 0 ob row [] b' cap' cur') (hrow:row=(List.range n).flatMap us)
  (hel:∀ i,i<n->RepL w' M' (f i) yn (us i) (fps i)/\(us i).length=e/\∀ u∈us i,u.oneCell'=true) :
  Rep w' M' (.sl (some T) e n f) yn (.slice (some ⟨b',0,none⟩) n cap') (b'::(List.range n).flatMap fps):=by
 simp only[Rep]
 have hlt:b'<w'.heap.size:=by
  have:=ho.row;exact(Array.getElem?_eq_some_iff.1 this).1
 refine .inr ⟨b',0,cap',us,fps,rfl,⟨by have:=ho.fit;omega,by have:=ho.fit;have:=ho.big;omega⟩,hlt,fun i hi => ?_,rfl,rfl,cur',ho.row,ho.len,ho.big⟩;obtain⟨h1,h2,h3⟩:=hel i hi;refine⟨h1,h2,fun j u hu => ?_⟩;have hj:j<e:=by rw[<- h2];exact(List.getElem?_eq_some_iff.1 hu).1
 have hlt2:i * e+j<n * e:=by
  have:(i+1) * e<=n * e:=Nat.mul_le_mul_right _ hi;rw[Nat.add_mul,Nat.one_mul]at this;omega
 refine⟨?_,h3 u (List.mem_of_getElem? hu)⟩;rw[cell_of_row w' b' _ cur' T (0,0) ho.row,Nat.zero_add,ho.olds _ hlt2,hrow,yhc (fun i hi=>(hel i hi).2.1) hi hj];exact hu
end Go.Ab
namespace Go.Ab
open Go
variable [Inv]
structure ElT (P:Program) (tS tE:TypeId) (e bytes:Nat) (i:TypeInfo) (z:Value):Prop where
 und:P.underlying tS=some (.slice tE)
 inf:P.info? tE=some i
 zero:i.zero=some z
 size:i.size=e
 byt:i.bytes=bytes
 zs:z.cells.size=e
 pos:0<e
 zone:∀ u∈z.cells,u.oneCell'=true
theorem ElT.mk' {P:Program} {Γ:Env} (hΓ:TyOk P Γ) {tS tE:TypeId} {e bytes a b:Nat} {zs:List AV} {zs':List AV} {ti:TI} {o:Bool} (h1:tget Γ tS=some ⟨.slice tE,a,b,zs',o⟩) (h2:tget Γ tE=some ⟨ti,e,bytes,zs,true⟩) (hl:zs.length=e) (hp:0<e) :
  ∃ i z,ElT P tS tE e bytes i z:=by
 obtain⟨inf,d,i1,i2,i3,i4,i5,i6,i7⟩:=yi (TyOk.get hΓ h1);obtain⟨jnf,d',j1,j2,j3,j4,j5,j6,j7⟩:=yi (TyOk.get hΓ h2)
 have hu:P.underlying tS=some (.slice tE):=by
  rw[i2];cases d<;>simp[tiOf]at i3
  all_goals first|(simp[i3];done)|(subst i3;rfl)|(split at i3<;>simp_all)
 cases hz:jnf.zero with
 | none=>simp[hz]at j7
 | some z=>
  simp only[hz,Option.map_some,Option.getD_some]at j6 j7;refine⟨jnf,z,hu,j1,hz,j4,j5,?_,hp,?_⟩
  ·have:=congrArg List.length j6
   simp at this
   rw[<- this];exact hl
  ·intro u hu2
   have:=List.all_eq_true.1 j7.symm u (by simpa using hu2);exact this
end Go.Ab
namespace Go.Ab
open Go
variable [Inv]
theorem Den.plain {P : Program} {f : FuncId} {xs : List AV} {r : AV} (hok : FnOk P f) (hno : NoOwnL xs)
  (h:∀ (w:World) (M:Nat->Prop) (vs:List Value),Inv.ok w->RepL w M xs yn vs []->Calls P f vs.toArray w fun e w'=>∃ v,e=.returned v/\Grow w w'/\∀ M',Rep w' M' r yn v []):Den P f xs r:=by
 refine⟨hok,?_⟩;intro w M vs fpA i1 i2 hr hnd hM hlt;have hfp:=NoOwnL.fp xs hno hr;subst hfp
 have htop:ycb xs vs=[]:=by
  apply List.eq_nil_iff_forall_not_mem.2;intro b hb;have:=ycc xs hr b hb;simp at this
 refine(h w _ vs i1 hr).mono ?_;rintro e w' ⟨v,rfl,hg,hv⟩
 refine⟨v,[],rfl,⟨hg.os,hg.tape,hg.output,hg.size,fun k hk _=>hg.block k hk⟩,hv _,List.nodup_nil,by simp,fun b hb => ?_⟩;have:=y8g r (hv (fun _=>False)) b hb;simp at this
theorem Den.fresh {α : Type} [Inhabited α] {P : Program} {f : FuncId} {xs : List AV} {T : TypeId} {e : Nat} {enc : α -> List AV} {l : List α} (hok : FnOk P f) (hno : NoOwnL xs)
  (us:Nat->List Value) (hus:∀ w M i,i<l.length->RepL w M (enc (l.getD i default)) yn (us i) []/\(us i).length=e/\∀ u∈us i,u.oneCell'=true)
  (h:∀ (w:World) (M:Nat->Prop) (vs:List Value),Inv.ok w->RepL w M xs yn vs []->Calls P f vs.toArray w fun ex w'=>∃ b' cap' cur',ex=.returned (.slice (some ⟨b',0,none⟩) l.length cap')/\AppOut w w' T e l.length 0 none ((List.range l.length).flatMap us) [] b' cap' cur') :
  Den P f xs (ownL T e enc l):=by
 refine⟨hok,?_⟩;intro w M vs fpA i1 i2 hr hnd hM hlt;have hfp:=NoOwnL.fp xs hno hr;subst hfp;refine(h w _ vs i1 hr).mono ?_;rintro ex w' ⟨b',cap',cur',rfl,ho⟩
 have hb:b'=w.heap.size:=by
  rcases ho.place with h|h
  ·cases h
  ·exact h
 have hf:(List.range l.length).flatMap (fun _=>([]:List Nat))=[]:=by simp
 have hR:=y6x (M':=fun c=>M c\/c∈[b']) (f:=fun k=>enc (l.getD k default)) (us:=us) (fps:=fun _=>[]) ho rfl (fun i hi=>hus w' _ i hi);rw[hf]at hR;refine⟨_,[b'],rfl,⟨ho.os,ho.tape,ho.output,ho.size,fun k hk _=>ho.other k hk (by omega)⟩,hR,by simp,?_,?_⟩
 ·intro b hb2
  simp only[List.mem_singleton]at hb2;subst hb2;exact⟨.inr (by omega),(Array.getElem?_eq_some_iff.1 ho.row).1⟩
 ·intro b hb2
  simp only[tops,yyb,ownL,List.mem_singleton]at hb2;subst hb2;exact .inr (by omega)
theorem yyn (w:World) (T:TypeId) (l:List Value) (hm:l.length<=maxLen) :
  AppOut w (w.alloc (.cells l.toArray T)) T 1 l.length 0 none ((List.range l.length).flatMap fun i=>[l.getD i default]) [] w.heap.size l.length l.toArray:=by
 have hflat:(List.range l.length).flatMap (fun i=>[l.getD i default])=l:=by
  have : ∀ (k : List Nat), k.flatMap (fun i => [l.getD i default]) = k.map (fun i => l.getD i default) := fun k => by induction k with
   | nil=>rfl
   | cons a k ih=>rw[List.flatMap_cons,ih];rfl
  rw[this];exact ygb l
 refine⟨rfl,rfl,rfl,by simp,?_,heap_alloc_new w _,by simp,by simp,hm,?_,fun j hj=>by omega,.inr rfl⟩
 ·intro k hk _
  show(w.heap.push _)[k]? = _;rw[Array.getElem?_push,if_neg (by omega)]
 ·intro j hj
  rw[hflat];simp
end Go.Ab
namespace Go.Ab
open Go
variable [Inv]
variable {P:Program} {c:Ctx} {s:St} {N:St->Prop} {E:Nat->St->Prop} {R:St->Prop}
theorem y3t {α:Type} [Inhabited α] (n i:Nat):(List.replicate n (default:α)).getD i default=default:=by
 rw[List.getD_eq_getElem?_getD,List.getElem?_replicate];split<;>rfl
theorem zs {p:Prop} (h:p:=by(intro i hi;rw[y3t];(repeat' first|exact rfl|exact trivial|refine⟨?_,?_⟩));first|done|fail):p:=h
end Go.Ab
namespace Go.Ab
open Go
variable [Inv]
variable {P:Program} {c:Ctx} {s:St} {N:St->Prop} {E:Nat->St->Prop} {R:St->Prop}
theorem ycu (q i:Nat) (x:AV) (t:List (Nat×AV)):get ((q,x)::t) i=if i=q then x else get t i:=by
 simp only[get];by_cases h:i=q
 ·subst h;rw[if_pos rfl];simp
 ·rw[if_neg h]
  cases hb:Nat.beq i q with
  | true=>exact absurd (Nat.eq_of_beq_eq_true hb) h
  | false=>simp
theorem AWP.lendV {code : Code} (q id : Nat) {T : TypeId} {e n m : Nat} {f : Nat -> List AV} (f' : Nat -> List AV) (hq : get s.t q = .ref id e 0 n) (hid : nthE s.h id = some (.arr T e m f)) (hnm : n <= m)
  (hx:∀ i,i<n->simOL (borrowL (f i)) (f' i)) (hp:∀ i,i<n->pureL (f' i)=true)
  (h:AWP P c code N E R ⟨(q,.sl none e n f')::s.t,setE s.h id .dead⟩):AWP P c code N E R s:=by
 refine⟨fun a w hs=>h.run a w ?_⟩;obtain⟨μ,FP,hW,htl,h1,h2,h3⟩:=hs;have hlt:=ymc hid
 have hget:∀ k,nthE (setE s.h id .dead) k=if k=id then some .dead else nthE s.h k:=by
  intro k;rw[yv];by_cases hk:k=id
  ·subst hk;rw[if_pos ⟨rfl,hlt⟩,if_pos rfl]
  ·rw[if_neg (fun h=>hk h.1),if_neg hk]
 have hhot:∀ b,hot c.M0 (Hof (setE s.h id .dead)) μ b->c.M0 b\/∃ k cap e',k≠id/\μ k=some (.blk b cap)/\Hof s.h k=some e'/\e'.live=true:=by
  rintro b (hb|⟨k,cap,e',hm,he,hl⟩)
  ·exact .inl hb
  ·rw[show Hof (setE s.h id .dead) k=nthE (setE s.h id .dead) k from rfl,hget]at he
   by_cases hk:k=id
   ·subst hk;rw[if_pos rfl]at he;cases he;cases hl
   ·rw[if_neg hk]at he;exact .inr ⟨k,cap,e',hk,hm,he,hl⟩
 have hhot2:∀ b,hot c.M0 (Hof (setE s.h id .dead)) μ b->hot c.M0 (Hof s.h) μ b:=by
  intro b hb;rcases hhot b hb with h5|⟨k,cap,e',_,hm,he,hl⟩
  ·exact .inl h5
  ·exact .inr ⟨k,cap,e',hm,he,hl⟩
 have hsm:∀ fq,Same w (hot c.M0 (Hof s.h) μ) w (hot c.M0 (Hof (setE s.h id .dead)) μ) fq:=fun fq=>⟨Nat.le_refl _,fun b _ hb hh=>hb (hhot2 b hh),fun _ _ _=>rfl⟩
 have htopin:∀ k b cap e',μ k=some (.blk b cap)->Hof s.h k=some e'->e'.live=true->b∈FP k:=by
  intro k b cap e' hm he hl;obtain⟨e2,g1,g2⟩:=hW.ent k _ hm;rw[he]at g1;cases g1
  cases e' with
  | dead=>cases hl
  | box cs=>obtain⟨b',cap',us,T',hL,hfp,_⟩:=g2;cases hL;rw[hfp];simp
  | it l p m=>obtain⟨b',hL,hfp,_⟩:=g2;cases hL;rw[hfp];simp
  | arr T' e' n' f'=>obtain⟨cur,us,fps,_,_,_,_,_,hfp⟩:=g2;rw[hfp];simp
 have hcold:∀ x,x∈FP id->¬ hot c.M0 (Hof (setE s.h id .dead)) μ x:=by
  intro x hx hh;rcases hhot x hh with hM|⟨k,cap,e',hk,hm,he,hl⟩
  ·have hc:=c.cold0 x hM
   rcases(hW.new id x hx).1 with h5|h5
   ·exact hc.2 h5
   ·omega
  ·exact hW.disj k id hk x (htopin k x cap e' hm he hl) hx
 let FP2:Nat->List Nat:=fun k=>if k=id then[]else FP k
 have hsub:∀ k b,b∈FP2 k->b∈FP k:=by
  intro k b hb;simp only[FP2]at hb;by_cases hk:k=id
  ·rw[if_pos hk]at hb;cases hb
  ·rw[if_neg hk]at hb;exact hb
 have hslot:Rep w (hot c.M0 (Hof (setE s.h id .dead)) μ) (.sl none e n f') μ (a.tmps.getD q undef) []:=by
  have hr:=h1 q;rw[hq]at hr;simp only[Rep]at hr ⊢;obtain⟨_,hr⟩:=hr
  cases hm:μ id with
  | none=>rw[hm]at hr;exact hr.elim
  | some L=>
   rw[hm]at hr;obtain⟨e2,g1,g2⟩:=hW.ent id L hm;rw[show Hof s.h id=nthE s.h id from rfl,hid]at g1;cases g1
   cases L with
   | nil=>
    obtain⟨_,hn,hv⟩:=hr;exact .inl ⟨hn,by rw[hv];simp[emptyV],trivial⟩
   | blk b cap=>
    obtain⟨hn,o,hv,ho⟩:=hr
    have ho:o=0:=by
     rcases ho with h5|h5
     ·exact absurd rfl h5.1
     ·simpa using h5
    subst ho;have g3:=y0b.mono (Map.le_refl _) (hsm _) (fun b hb=>(hW.new id b hb).2) g2;obtain⟨cur,us,fps,q1,q2,q3,q4,q5,q6⟩:=g3;have hbF:b∈FP id:=by rw[q6];simp
    refine .inr ⟨b,0,cap-0,us,fun _=>[],hv,⟨by omega,by omega⟩,(hW.new id b hbF).2,fun i hi => ?_,hcold b hbF,trivial,fun _ _=>rfl⟩;obtain⟨r1,r2,r3⟩:=q5 i (by omega);refine⟨ykb _ (hp i hi) (y7b _ _ (hx i hi) (ymb (f i) (fun x hxm=>hcold x ?_) r1)),r2,by simpa using r3⟩;rw[q6];exact List.mem_cons_of_mem _ (List.mem_flatMap.2 ⟨i,List.mem_range.2 (by omega),hxm⟩)
 refine⟨μ,FP2,⟨hW.keep,hW.base,?_,?_,?_,?_,fun k b hb=>hW.new k b (hsub k b hb),?_⟩,?_,fun i => ?_,h2,h3⟩
 ·intro k L hk
  obtain⟨e2,g1,g2⟩:=hW.ent k L hk;rw[show Hof (setE s.h id .dead) k=nthE (setE s.h id .dead) k from rfl,hget];by_cases hki:k=id
  ·subst hki
   exact⟨.dead,if_pos rfl,if_pos rfl⟩
  ·have g3:=y0b.mono (Map.le_refl _) (hsm _) (fun b hb=>(hW.new k b hb).2) g2
   refine⟨e2,by rw[if_neg hki];exact g1,?_⟩;rw[show FP2 k=FP k from if_neg hki];exact g3
 ·intro k hk
  by_cases hki:k=id
  ·exact if_pos hki
  ·rw[show FP2 k=FP k from if_neg hki];exact hW.out k hk
 ·intro k
  by_cases hki:k=id
  ·rw[show FP2 k=[]from if_pos hki];simp
  ·rw[show FP2 k=FP k from if_neg hki];exact hW.nodup k
 ·intro i j hij b hb hb2
  exact hW.disj i j hij b (hsub i b hb) (hsub j b hb2)
 ·intro k b cap e' hm he hli
  rw[show Hof (setE s.h id .dead) k=nthE (setE s.h id .dead) k from rfl,hget]at he;by_cases hki:k=id
  ·subst hki;rw[if_pos rfl]at he;cases he;cases hli
  ·rw[if_neg hki]at he;exact hW.top k b cap e' hm he hli
 ·intro k hk
  rw[yy]at hk;exact htl k hk
 ·rw[show get (⟨(q,.sl none e n f')::s.t,setE s.h id .dead⟩:St).t i=get ((q,.sl none e n f')::s.t) i from rfl,ycu]
  by_cases hi:i=q
  ·subst hi;rw[if_pos rfl];exact hslot
  ·rw[if_neg hi];exact Rep.mono _ (Map.le_refl _) (hsm _) (h1 i)
theorem lv1 {p:Prop} (h:p:=by(intro i hi;first|exact y9 _|exact absurd hi (Nat.not_lt_zero _)|(simp only[borrowL,borrow];exact y9 _)|(simp[borrowL,borrow,simOL,simO]));first|done|fail):p:=h
theorem lv2 {p:Prop} (h:p:=by(intro i hi;rfl);first|done|fail):p:=h
end Go.Ab
namespace Go.Ab
open Go
variable {H:Type} {enc:TypeId×Value->H}
theorem y8b {a : Assume} {C : Checked} {os : Os} {f : FuncId} {fn : Func} {s : ChangeSpec} {conds : List PathCond} {apart fresh handsOn again : Bool} {X : World -> Array Value -> Prop}
  (hX:∀ (w w':World) (args:Array Value),w.heap=w'.heap->X w args->X w' args)
  (own:ownKnob C.prog.godebug=none) (started:os.Started) (noInit:C.prog.inits.idxOf? f=none) (hfn:C.prog.funcs[f]? = some fn)
  (witness:∃ (w:World) (tape:Tape) (i:Input),w.os=os/\(w.forCall tape i).Shaped C.prog/\i.vars=[]/\Input.okWide C.prog (w.forCall tape i) .any w.heap.size f i /\
   ((s.pre enc C.prog fn conds apart (w.forCall tape i).memory i.args/\X (w.forCall tape i).memory i.args)/\sizedMet enc C.prog fn (OpenSpec.ofChange s) apart (w.forCall tape i).memory i.args)/\a.holds C.prog (lone (Frame.enter C.prog f i.args .normal) [] (w.forCall tape i)))
  (contract:∀ (W:World) (base:Nat) (args:Array Value) (ds gs:List (DataW H)) (before:List MemPlace),
   (∀ (j:Nat) t v,fn.params[j]? = some t->args[j]? = some v->Value.okWide C.prog W .any base t v) ->
   DataW.Whole enc C.prog fn.params.toList s.vars apart W args.toList ds gs before ->
   conds.all (PathCond.test C.prog ⟨fn.params.toList,ds,s.plain.varTypes C.prog,gs⟩)=true->X W args->W.ShapedOpen C.prog ->
   Calls C.prog f args W fun e W'=>∃ v,e=.returned v/\s.post enc C.prog fn apart fresh handsOn again W args v W') :
  ReturnsInHanded a C os f .any (fun w args=>(s.pre enc C.prog fn conds apart w args/\X w args)/\sizedMet enc C.prog fn (OpenSpec.ofChange s) apart w args) (s.post enc C.prog fn apart fresh handsOn again):=by
 refine returnsInHanded_of_calls own started noInit witness ?_;intro w tape i _ hsh _ hok hpre hholds;obtain⟨_,_,_,fn',hfn',_,_,_,_,hval⟩:=hok;have e:fn'=fn:=Option.some.inj (hfn'.symm.trans hfn);subst e;obtain⟨⟨⟨ds,gs,before,hw,hc⟩,hx⟩,hz⟩:=hpre;have hw':=DataW.Whole.of_heap (w':=w.forCall tape i) (by rfl) hw;refine(contract (w.forCall tape i) w.heap.size i.args ds gs before hval hw' hc (hX _ _ _ (by rfl) hx) hsh).mono fun e W' ⟨v,he,hp⟩ => ?_
 subst he;exact ChangeSpec.post_blind hp
end Go.Ab
