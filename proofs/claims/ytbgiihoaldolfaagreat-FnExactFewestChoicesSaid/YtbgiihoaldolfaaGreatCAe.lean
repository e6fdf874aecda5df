/- A part of a proof: walks of functions and lemmas of our own. No conditions. -/
import Derived.Test.YtbgiihoaldolfaaGreatCAd
set_option linter.unusedSectionVars false
set_option linter.unusedVariables false
set_option linter.unusedSimpArgs false
namespace Go.Ab
open Go
variable [Inv]
def callOf : Op -> Option (Operand × List Operand)
  | .call c => match c.callee with
    | .value f=>some (f,c.args.toList)
    | _=>none
  | _=>none
def stepC (D:Dn) (g:List Bool) (t:List (Nat×AV)) (h:List Ent) (fop:Operand) (args:List Operand):NewR:=
  match al g t fop with
  | .fn f k cs => match D.md f with
    | some ms => match g with
      | [] => match callM D h f ms (cs.take k ++ args.map (al [] t) ++ cs.drop k) with
        | some (x,h',ob)=>some (x,h',stripObs [] t (fop::args)++ob)
        | none=>none
      | _=>none
    | none => match callA D h f (cs.take k ++ args.map (al g t) ++ cs.drop k) with
      | some (x, es, ob) => match g, es with
        | [],es=>some (x,h++es,stripObs [] t (fop::args)++ob)
        | b::g',[]=>some (.gd (b::g') x,h,impL (b::g') (stripObs (b::g') t (fop::args)++ob))
        | _,_=>none
      | none=>none
  | _=>none
def litA : NewR -> Option (AV × List Prop)
 | some (.ref id e off n,[.arr _ e' m f],ob)=>some (.sl none e n f,ob++[id=0,off=0,e=e',n<=m,∀ i,i<n->pureL (f i)=true/\NoOwnL (f i)])
 | _=>none
def pureO (α : Operand -> AV) : List Operand -> Bool
 | []=>true
 | x::xs=>pureV (α x) && pureO α xs
def stepE (Γ:Env) (g:List Bool) (t:List (Nat×AV)) (h:List Ent) (op:Op):NewR:=
  match evalP Γ h (al g t) op with
  | some (x,ob)=>some (wrapG g x,h,impL g (stripObs g t (opsOf op)++ob))
  | none => match g with
    | [] => match evalN Γ h (al [] t) op with
      | some (x,h',ob)=>some (x,h',stripObs [] t (opsOf op)++ob)
      | none=>none
    | b :: g => bif pureO (al (b :: g) t) op.operands.toList then (match litA (evalN Γ [] (al (b :: g) t) op) with
      | some (x,ob)=>some (wrapG (b::g) x,h,impL (b::g) (stripObs (b::g) t (opsOf op)++ob))
      | none=>none)else none
def stepA (Γ:Env) (D:Dn) (all:Array Oper) (t:List (Nat×AV)) (h:List Ent) (o:Oper):NewR:=
  match guardOf all t o.guard with
  | none=>none
  | some g => match o.op with
    | .pick c a b => match pickA g t c a b with
      | some (x,ob)=>some (wrapG g x,h,impL g ob)
      | none=>none
    | .store t' a x => match g, o.dst with
      | [], none => match storeA Γ h t' (al [] t a) (al [] t x) with
        | some (h',ob)=>some (.any,h',stripObs [] t [a,x]++ob)
        | none=>none
      | _,_=>none
    | op => match callOf op with
      | some (fop,args)=>stepC D g t h fop args
      | none=>stepE Γ g t h op
section
variable {P:Program} {Γ:Env} {D:Dn} {c:Ctx} {s:St} {μ:Map} {FP:Nat->List Nat} {w:World} {a:Act} {all:Array Oper} {o:Oper}
def y7b (c:Ctx) (s:St) (μ:Map) (w:World) (a:Act) (dst:Option Nat) (x:AV) (h':List Ent) (a':Act) (w':World):Prop:=
 ∃ v μ',a'=a.put dst v/\Next1 c s.h μ w h' μ' w'/\Rep w' (hot c.M0 (Hof h') μ') x μ' v []
theorem ybh {M:Nat->Prop} {g:List Bool} {x:AV} {v:Value} (hg:allT g) (h:Rep w M x μ v []):Rep w M (wrapG g x) μ v []:=by
 unfold wrapG;split
 ·exact h
 ·simp only[Rep]
  exact⟨trivial,fun _=>h,fun hn=>absurd hg hn⟩
theorem y4x {M:Nat->Prop} {g:List Bool} {x:AV} (hg:¬ allT g):Rep w M (wrapG g x) μ undef []:=by
 unfold wrapG;split
 ·exact absurd (by simp[allT]) hg
 ·simp only[Rep]
  exact⟨trivial,fun h=>absurd h hg,fun _=>trivial⟩
theorem Next1.same {h:List Ent} (hW:WR c (Hof h) μ FP w) (hd:Tail h μ):Next1 c h μ w h μ w:=⟨⟨FP,hW⟩,hd,Trans.refl _ _ _ _⟩
theorem yg1 (hT:TR c s μ w a) {g:List Bool} (hg:allT g) {x:Operand} (ho:allP (strip g (opnd s.t x)).2):Rep w (hot c.M0 (Hof s.h) μ) (al g s.t x) μ (a.eval x) []:=
 ypg hg (ybe hT x) ho
theorem ynh {ρ:Operand->Value} {z:Value} {w':World} {K:Act->World->Prop} {Q:Exit->Act->World->Prop} (h:(execOp ρ o).run P w=.ok (.value z) w') (he:a.eval=ρ) (hK:K (a.put o.dst z) w') :
  o.wp P a w K Q:=by
 subst he;unfold Oper.wp;rw[h];exact hK
theorem y0y {g:List Bool} {cc x y:Operand} {r:AV} {ob:List Prop} (hT:TR c s μ w a) (hg:allT g) (he:pickA g s.t cc x y=some (r,ob)) (ho:allP ob) :
  ∃ z,(do pure (Next.value (if <- asBool (a.eval cc)then a.eval x else a.eval y)):Sem Next).run P w=.ok (.value z) w/\Rep w (hot c.M0 (Hof s.h) μ) r μ z []:=by
 unfold pickA at he;split at he
 ·rename_i bc o1 hc
  split at he
  ·rename_i p o2 q o3 hp hq
   simp only[Option.some.injEq,Prod.mk.injEq]at he;obtain⟨rfl,rfl⟩:=he;obtain⟨ho1,ho23⟩:=yl.1 ho;obtain⟨ho2,ho3⟩:=yl.1 ho23;have hcr:=ypg hg (ybe hT cc) (by rw[hc];exact ho1);rw[hc]at hcr;have hcv:=hcr.val_bool;rw[ybf]at ho2 ho3
   cases bc with
   | true=>
    have h1:=ypg (g:=g++[true]) (by intro b hb;rcases List.mem_append.1 hb with hb|hb;exact hg b hb;simpa using hb) (ybe hT x) (by rw[hp];exact ho2 (by simp[allT]));rw[hp]at h1;refine⟨a.eval x,?_,by simpa using h1⟩;rw[hcv];simp[asBool]
   | false=>
    have h1:=ypg (g:=g++[!false]) (by intro b hb;rcases List.mem_append.1 hb with hb|hb;exact hg b hb;simpa using hb) (ybe hT y) (by rw[hq];exact ho3 (by simp[allT]));rw[hq]at h1;refine⟨a.eval y,?_,by simpa using h1⟩;rw[hcv];simp[asBool]
  ·simp at he
 ·simp at he
theorem y0j (hΓ : TyOk P Γ) {h h' : List Ent} {α : Operand -> AV} {ρ : Operand -> Value} {r : AV} {ob : List Prop} (hW : WR c (Hof h) μ FP w) (hd : Tail h μ)
  (he:evalN Γ h α o.op=some (r,h',ob)) (ho:allP ob) (hρ:∀ x,x∈o.op.operands.toList->Rep w (hot c.M0 (Hof h) μ) (α x) μ (ρ x) []) :
  ∃ z μ' w',(execOp ρ o).run P w=.ok (.value z) w'/\Next1 c h μ w h' μ' w'/\Rep w' (hot c.M0 (Hof h') μ') r μ' z []:=by
 have lift:∀ {s:Sem Value} {z:Value} {w':World},s.run P w=.ok z w'->(do pure (Next.value (<- s)):Sem Next).run P w=.ok (.value z) w':=by
  intro s z w' hs;rw[Sem.run_bind,hs];rfl
 obtain⟨dst,op,type,pos,after,guard⟩:=o;simp only at he hρ;unfold evalN at he;split at he
 ·rename_i T x
  obtain⟨z,μ',w',h1,h2,h3⟩:=ytt (P:=P) hW hd he (hρ x (by simp[Op.operands])) T;exact⟨z,μ',w',by simp only[execOp];exact lift h1,h2,h3⟩
 ·rename_i T
  obtain⟨z,μ',w',h1,h2,h3⟩:=ygn (P:=P) hΓ hW hd he;exact⟨z,μ',w',by simp only[execOp];exact lift h1,h2,h3⟩
 ·rename_i T n parts
  have hr:=yed (M:=hot c.M0 (Hof h) μ) (μ:=μ) (w:=w) (α:=α) (ρ:=ρ) (l:=parts.toList.map (·.2)) (by
   intro x hx
   exact hρ x (by simpa [Op.operands]using hx))
  obtain⟨z,μ',w',h1,h2,h3⟩:=yam (P:=P) (vals:=parts.toList.map fun p=>(p.1,ρ p.2)) hΓ hW hd he ho (by simp) (by simpa [List.map_map,Function.comp_def]using hr);refine⟨z,μ',w',?_,h2,h3⟩;simp only[execOp]
  have e:(parts.map fun x=>match x with|(i,x)=>(i,ρ x))=(parts.toList.map fun p=>(p.1,ρ p.2)).toArray:=by
   apply Array.ext';simp
  rw[e];exact lift h1
 ·rename_i T l cc
  obtain⟨z,μ',w',h1,h2,h3⟩:=y1n (P:=P) hΓ hW hd he ho (hρ l (by simp[Op.operands])) (hρ cc (by simp[Op.operands]));exact⟨z,μ',w',by simp only[execOp];exact lift h1,h2,h3⟩
 ·rename_i cl
  split at he
  ·rename_i x y t t' hcal hargs hts
   split at he
   ·rename_i htt
    subst htt;have hxm:Rep w (hot c.M0 (Hof h) μ) (α x) μ (ρ x) []:=hρ x (by simp[Op.operands,Call.operands,hcal,hargs]);have hym:Rep w (hot c.M0 (Hof h) μ) (α y) μ (ρ y) []:=hρ y (by simp[Op.operands,Call.operands,hcal,hargs]);obtain⟨z,μ',w',h1,h2,h3⟩:=yom (P:=P) (ty:=type) hΓ hW hd he ho hxm hym;refine⟨z,μ',w',?_,h2,h3⟩;have ea:cl.args.map ρ = #[ρ x,ρ y]:=by apply Array.ext';simp[hargs]
    have et:cl.argTypes = #[t,t]:=by apply Array.ext';simpa using hts
    simp only[execOp,resolve,hcal,Sem.run_bind,Sem.run_pure,Result.andThen_ok,invoke,builtin,ea,et];rw[h1];rfl
   ·simp at he
  ·rename_i x t hcal hargs hts
   have hxm:Rep w (hot c.M0 (Hof h) μ) (α x) μ (ρ x) []:=hρ x (by simp[Op.operands,Call.operands,hcal,hargs]);obtain⟨z,μ',w',h1,h2,h3⟩:=ydp (P:=P) (ty:=type) hΓ hW hd he ho hxm;refine⟨z,μ',w',?_,h2,h3⟩;have ea:cl.args.map ρ = #[ρ x]:=by apply Array.ext';simp[hargs]
   have et:cl.argTypes = #[t]:=by apply Array.ext';simpa using hts
   simp only[execOp,resolve,hcal,Sem.run_bind,Sem.run_pure,Result.andThen_ok,invoke,builtin,ea,et];rw[h1];rfl
  ·simp at he
 ·rename_i t x
  obtain⟨z,μ',w',h1,h2,h3⟩:=ypo (P:=P) hΓ hW hd he ho (hρ x (by simp[Op.operands]));exact⟨z,μ',w',by simp only[execOp];exact lift h1,h2,h3⟩
 ·rename_i x
  obtain⟨z,w',h1,h2,h3⟩:=yyp (P:=P) hW hd he (hρ x (by simp[Op.operands])) type;exact⟨z,μ,w',by simp only[execOp];exact lift h1,h2,h3⟩
 ·simp at he
end
end Go.Ab
namespace Go.Ab
open Go
variable [Inv]
section
variable {P:Program} {Γ:Env} {D:Dn} {c:Ctx} {s:St} {μ:Map} {FP:Nat->List Nat} {w:World} {a:Act} {all:Array Oper} {o:Oper} {Q:Exit->Act->World->Prop}
theorem RepL.app {M : Nat -> Prop} : ∀ {xs ys : List AV} {us vs : List Value}, RepL w M xs μ us [] -> RepL w M ys μ vs [] -> RepL w M (xs ++ ys) μ (us ++ vs) []
 | [],ys,us,vs,h1,h2=>by
  simp only[RepL]at h1;rw[h1.1];simpa using h2
 | x::xs,ys,us,vs,h1,h2=>by
  simp only[RepL,List.cons_append]at h1 ⊢;obtain⟨u,us',f1,f2,rfl,e2,h3,h4⟩:=h1;obtain⟨rfl,rfl⟩:=List.append_eq_nil_iff.1 e2.symm;exact⟨u,us'++vs,[],[],rfl,rfl,h3,RepL.app h4 h2⟩
theorem ytj (hT:TR c s μ w a) {g:List Bool} (hg:allT g):∀ {l:List Operand},allP (stripObs g s.t l)->∀ x∈l,Rep w (hot c.M0 (Hof s.h) μ) (al g s.t x) μ (a.eval x) []:=
 fun h x hx=>yg1 hT hg (y8h h x hx)
theorem ybo {α : Operand -> AV} : ∀ {l : List Operand}, pureO α l = true -> ∀ x ∈ l, pureV (α x) = true
 | [],_,x,h=>by simp at h
 | y::l,hp,x,h=>by
  simp only[pureO,Bool.and_eq_true]at hp;rcases List.mem_cons.1 h with rfl|h
  ·exact hp.1
  ·exact ybo hp.2 x h
theorem yfw (hΓ : TyOk P Γ) {h : List Ent} {α : Operand -> AV} {ρ : Operand -> Value} {y : AV} {ob : List Prop} (hW : WR c (Hof h) μ FP w) (hd : Tail h μ)
  (hpo:pureO α o.op.operands.toList=true) (he:litA (evalN Γ [] α o.op)=some (y,ob)) (ho:allP ob) (hρ:∀ x,x∈o.op.operands.toList->Rep w (hot c.M0 (Hof h) μ) (α x) μ (ρ x) []) :
  ∃ z w',(execOp ρ o).run P w=.ok (.value z) w'/\Next1 c h μ w h μ w'/\Rep w' (hot c.M0 (Hof h) μ) y μ z []:=by
 cases hev:evalN Γ [] α o.op with
 | none=>rw[hev]at he;simp[litA]at he
 | some p=>
  obtain⟨x,h',ob1⟩:=p;rw[hev]at he;unfold litA at he;split at he
  ·rename_i id e off n T e' m f ob2 heq
   simp only[Option.some.injEq,Prod.mk.injEq]at heq he;obtain⟨rfl,rfl,rfl⟩:=heq;obtain⟨rfl,rfl⟩:=he;obtain⟨ho1,ho2⟩:=yl.1 ho;simp only[allP,and_true]at ho2;obtain⟨rfl,rfl,rfl,hnm,hpf⟩:=ho2;let c':Ctx:={ w0:=w,M0:=hot c.M0 (Hof h) μ,F0:=[],T0:=[],mu0:=noMap,k0:=0,nt:=0,cold0:=fun b hb=>⟨yso hW hb,by simp⟩,own0:=by simp,top0:=by simp,base0:=by simp[noMap],inv0:=hW.inv,invM:=fun b hb=>⟨hW.inv_hot hb,by simp⟩}
   have hhot:∀ b,hot c'.M0 (Hof []) noMap b->hot c.M0 (Hof h) μ b:=by
    rintro b (hb|⟨id,cap,e,hm,_⟩)
    ·exact hb
    ·cases hm
   have hW':WR c' (Hof []) noMap (fun _=>[]) w:=by
    refine⟨⟨rfl,rfl,rfl,Nat.le_refl _,fun _ _ _=>rfl⟩,Map.le_refl _,?_,?_,?_,?_,?_,?_⟩
    ·intro id L hm;cases hm
    ·intro _ _;rfl
    ·intro _;simp
    ·intro i j _ b hb;simp at hb
    ·intro i b hb;simp at hb
    ·intro id b cap e hm;cases hm
   have hop:∀ x,x∈o.op.operands.toList->Rep w (hot c'.M0 (Hof []) noMap) (α x) noMap (ρ x) []:=fun x hx=>
    Rep.mono _ (Map.le_refl _) ⟨Nat.le_refl _,fun b _ hb hh=>hb (hhot b hh),fun _ _ _=>rfl⟩ (yhr _ (ybo hpo x hx) (hρ x hx))
   obtain⟨z,μ',w',h1,⟨⟨FP',hWn⟩,_,_⟩,h3⟩:=y0j (P:=P) hΓ hW' (fun _ _=>rfl) hev ho1 hop;have hk:=hWn.keep;have hgrow:Grow w w':=⟨hk.os,hk.tape,hk.output,hk.size,fun b hb=>hk.block b hb (by simp[c'])⟩
   obtain⟨hW2,htr⟩:=hW.grow hgrow;refine⟨z,w',h1,⟨⟨FP,hW2⟩,hd,htr⟩,?_⟩;simp only[Rep]at h3;obtain⟨_,h3⟩:=h3
   cases hmu:μ' 0 with
   | none=>simp[hmu]at h3
   | some L=>
    obtain⟨e0,he0,hok⟩:=hWn.ent 0 _ hmu;simp only[Hof,nthE,Option.some.injEq]at he0;subst he0
    cases L with
    | nil=>
     simp only[hmu]at h3;obtain⟨_,rfl,rfl⟩:=h3;simp only[Rep];exact .inl ⟨trivial,.inl rfl,trivial⟩
    | blk b cap=>
     simp only[hmu]at h3;obtain⟨hcap,o',rfl,hoo⟩:=h3;obtain⟨cur,us,fps,hh,hsz,hcap2,hml,hcl,hF⟩:=hok;have ho':o'=0:=by rcases hoo with h|h<;>omega
     subst ho';have hnew:=hWn.new 0 b (by rw[hF];simp);have hb:w.heap.size<=b:=hnew.1.resolve_left (by simp[c']);simp only[Rep];refine .inr ⟨b,0,cap,us,fun _=>[],by simp,⟨by omega,by omega⟩,hnew.2,fun i hi => ?_,fun hh => ?_,trivial,fun _ _=>rfl⟩
     ·obtain⟨d1,d2,d3⟩:=hcl i (by omega)
      obtain⟨p1,p2⟩:=hpf i hi;have hfp:=NoOwnL.fp (f i) p2 d1;rw[hfp]at d1;refine⟨RepL.mono (f i) (Map.le_refl _) ⟨Nat.le_refl _,fun b _ hb hh=>hb ?_,fun _ _ _=>rfl⟩ (ypb (μ':=noMap) (f i) p1 d1),d2,by simpa using d3⟩;exact .inl hh
     ·have:=yso hW hh
      omega
  ·simp at he
theorem y6v (hΓ : TyOk P Γ) (hW : WR c (Hof s.h) μ FP w) (hd : Tail s.h μ) (hT : TR c s μ w a) {g : List Bool} (hg : allT g) {x : AV} {h' : List Ent} {ob : List Prop}
  (he:stepE Γ g s.t s.h o.op=some (x,h',ob)) (ho:allP ob):o.wp P a w (y7b c s μ w a o.dst x h') Q:=by
 unfold stepE at he;split at he
 ·rename_i y ob' hev
  simp only[Option.some.injEq,Prod.mk.injEq]at he;obtain⟨rfl,rfl,rfl⟩:=he;rw[ybf]at ho;obtain⟨ho1,ho2⟩:=yl.1 (ho hg);obtain⟨z,h1,h2⟩:=yrq hΓ hW (h:=s.h) (fun i _ he _=>he) hev ho2 (ρ:=a.eval) (ytj hT hg ho1);exact ynh h1 rfl ⟨z,μ,rfl,Next1.same hW hd,ybh hg h2⟩
 ·split at he
  ·split at he
   ·rename_i y h'' ob' hev
    simp only[Option.some.injEq,Prod.mk.injEq]at he;obtain⟨rfl,rfl,rfl⟩:=he;obtain⟨ho1,ho2⟩:=yl.1 ho;obtain⟨z,μ',w',h1,h2,h3⟩:=y0j (P:=P) hΓ hW hd hev ho2 (ρ:=a.eval) (ytj hT hg ho1);exact ynh h1 rfl ⟨z,μ',rfl,h2,h3⟩
   ·simp at he
  ·rename_i b g' g9
   cases hpo:pureO (al (b::g') s.t) o.op.operands.toList with
   | false=>rw[hpo]at he;simp at he
   | true=>
    rw[hpo]at he;simp only[cond_true]at he;split at he
    ·rename_i y ob' hev
     simp only[Option.some.injEq,Prod.mk.injEq]at he;obtain⟨rfl,rfl,rfl⟩:=he;rw[ybf]at ho;obtain⟨ho1,ho2⟩:=yl.1 (ho hg);obtain⟨z,w',h1,h2,h3⟩:=yfw (P:=P) hΓ hW hd hpo hev ho2 (ρ:=a.eval) (ytj hT hg ho1);exact ynh h1 rfl ⟨z,μ,rfl,h2,ybh hg h3⟩
    ·simp at he
theorem y4k {M : Nat -> Prop} : ∀ (k : Nat) {xs : List AV} {us : List Value}, RepL w M xs μ us [] -> RepL w M (xs.take k) μ (us.take k) [] /\ RepL w M (xs.drop k) μ (us.drop k) []
 | 0,xs,us,h=>by simpa [RepL]using h
 | k+1,[],us,h=>by
  simp only[RepL]at h;simp[RepL,h.1]
 | k+1,x::xs,us,h=>by
  simp only[RepL]at h;obtain⟨u,us',f1,f2,rfl,e2,h1,h2⟩:=h;obtain⟨rfl,rfl⟩:=List.append_eq_nil_iff.1 e2.symm;obtain⟨h3,h4⟩:=y4k k h2;simp only[List.take_succ_cons,List.drop_succ_cons,RepL];exact⟨⟨u,_,[],[],rfl,rfl,h1,h3⟩,h4⟩
theorem yzr (hT : TR c s μ w a) {g : List Bool} (hg : allT g) {f : FuncId} {k : Nat} {cs : List AV} {y : AV} {h' : List Ent} {fop : Operand} {args : List Operand} (hc : callOf o.op = some (fop, args)) (hf : al g s.t fop = .fn f k cs)
  (ho1:allP (stripObs g s.t (fop::args)))
  (hcall:∀ vs,RepL w (hot c.M0 (Hof s.h) μ) (cs.take k++args.map (al g s.t)++cs.drop k) μ vs []->FnOk P f/\Calls P f vs.toArray w fun e w'=>∃ v μ',e=.returned v/\Next1 c s.h μ w h' μ' w'/\Rep w' (hot c.M0 (Hof h') μ') y μ' v []) :
  o.wp P a w (y7b c s μ w a o.dst y h') Q:=by
 have hr:=ytj hT hg ho1;have hfr:=hr fop (by simp);rw[hf]at hfr;simp only[Rep]at hfr;obtain⟨_,us,hfv,hus⟩:=hfr;have has:=yed (M:=hot c.M0 (Hof s.h) μ) (μ:=μ) (w:=w) (α:=al g s.t) (ρ:=a.eval) (l:=args) (fun z hz=>hr z (by simp[hz]));obtain⟨husT,husD⟩:=y4k k hus;have hall:=RepL.app (RepL.app husT has) husD;obtain⟨hok,hcalls⟩:=hcall _ hall;obtain⟨fn,hfn,hname,hbody⟩:=hok
 have hrun:(execOp a.eval o).run P w=.ok (.enter f (us.take k++args.map a.eval++us.drop k).toArray) w:=by
  unfold callOf at hc;split at hc
  ·rename_i cl hop
   split at hc
   ·rename_i fo hcal
    simp only[Option.some.injEq,Prod.mk.injEq]at hc;obtain⟨rfl,rfl⟩:=hc;simp only[execOp,hop,resolve,hcal,hfv,Deferred.ofValue,Sem.run_bind,Sem.run_pure,Result.andThen_ok,invoke,callFunc,run_program,hfn,hname,hbody]
    have e:(us.take k).toArray++cl.args.map a.eval++(us.drop k).toArray=(us.take k++cl.args.toList.map a.eval++us.drop k).toArray:=by
     apply Array.ext';simp
    rw[e];rfl
   ·simp at hc
  ·simp at hc
 unfold Oper.wp;rw[hrun];show Calls P f _ w _;refine hcalls.mono ?_;rintro e w' ⟨v,μ',rfl,h1,h2⟩
 exact⟨v,μ',rfl,h1,h2⟩
theorem y4v (hD : DOk P D) (hW : WR c (Hof s.h) μ FP w) (hd : Tail s.h μ) (hT : TR c s μ w a) {g : List Bool} (hg : allT g) {x : AV} {h' : List Ent} {ob : List Prop} {fop : Operand} {args : List Operand}
  (hc:callOf o.op=some (fop,args)) (he:stepC D g s.t s.h fop args=some (x,h',ob)) (ho:allP ob):o.wp P a w (y7b c s μ w a o.dst x h') Q:=by
 unfold stepC at he;split at he
 ·rename_i f k cs hf
  split at he
  ·rename_i ms hmd
   split at he
   ·split at he
    ·rename_i y h'' ob' hcl
     simp only[Option.some.injEq,Prod.mk.injEq]at he;obtain⟨rfl,rfl,rfl⟩:=he;obtain⟨ho1,ho2⟩:=yl.1 ho;exact yzr hT hg hc hf ho1 fun vs hvs=>yvp hD hW hd hcl ho2 hvs
    ·simp at he
   ·simp at he
  ·split at he
   ·rename_i y es ob' hcl
    have main:allP (stripObs g s.t (fop::args))->allP ob'->o.wp P a w (y7b c s μ w a o.dst y (s.h++es)) Q:=fun ho1 ho2=>
     yzr hT hg hc hf ho1 fun vs hvs=>y6p hD hW hd hcl ho2 hvs
    split at he
    ·simp only[Option.some.injEq,Prod.mk.injEq]at he
     obtain⟨rfl,rfl,rfl⟩:=he;obtain⟨ho1,ho2⟩:=yl.1 ho;exact main ho1 ho2
    ·simp only[Option.some.injEq,Prod.mk.injEq]at he
     obtain⟨rfl,rfl,rfl⟩:=he;rw[ybf]at ho;obtain⟨ho1,ho2⟩:=yl.1 (ho hg);refine Oper.wp_mono ?_ (main ho1 ho2);rintro a' w' ⟨v,μ',h1,h2,h3⟩
     rw[List.append_nil]at h2 h3;exact⟨v,μ',h1,h2,ybh (g:=_::_) hg h3⟩
    ·simp at he
   ·simp at he
 ·simp at he
theorem y9q (hΓ : TyOk P Γ) (hD : DOk P D) (hW : WR c (Hof s.h) μ FP w) (hd : Tail s.h μ) (hT : TR c s μ w a) {x : AV} {h' : List Ent} {ob : List Prop}
  (he:stepA Γ D all s.t s.h o=some (x,h',ob)) (ho:allP ob) :
  if Region.wanted o (yielded all a.tmps)then o.wp P a w (y7b c s μ w a o.dst x h') Q else y7b c s μ w a o.dst x h' (a.put o.dst undef) w:=by
 unfold stepA at he
 cases hgd:guardOf all s.t o.guard with
 | none=>simp[hgd]at he
 | some g=>
  simp only[hgd]at he;have hwant:=yvo hT hgd;split
  ·rename_i hwt
   have hg:=hwant.1 hwt;split at he
   ·rename_i cc y z hop
    split at he
    ·rename_i r ob' hp
     simp only[Option.some.injEq,Prod.mk.injEq]at he;obtain⟨rfl,rfl,rfl⟩:=he;rw[ybf]at ho;obtain⟨v,h1,h2⟩:=y0y (P:=P) hT hg hp (ho hg);exact ynh (by simp only[execOp,hop];exact h1) rfl ⟨v,μ,rfl,Next1.same hW hd,ybh hg h2⟩
    ·simp at he
   ·rename_i t' y z hop
    split at he
    ·rename_i hdst
     split at he
     ·rename_i h'' ob' hst
      simp only[Option.some.injEq,Prod.mk.injEq]at he;obtain⟨rfl,rfl,rfl⟩:=he;obtain⟨ho1,ho2⟩:=yl.1 ho;have hr:=ytj hT hg ho1;obtain⟨w',h1,h2⟩:=y5o (P:=P) hΓ hW hd hst ho2 (hr y (by simp)) (hr z (by simp));unfold Oper.wp
      have hrun:(execOp a.eval o).run P w=.ok .skip w':=by
       simp only[execOp,hop];rw[Sem.run_bind,h1];rfl
      rw[hrun];show y7b c s μ w a o.dst .any h'' (a.put o.dst undef) w';exact⟨undef,μ,rfl,h2,by simp[Rep]⟩
     ·simp at he
    ·simp at he
   ·split at he
    ·rename_i fop args hc
     exact y4v hD hW hd hT hg hc he ho
    ·exact y6v hΓ hW hd hT hg he ho
  ·rename_i hwt
   have hg:¬ allT g:=fun h=>hwt (hwant.2 h)
   have same:∀ {y:AV},x=wrapG g y->h'=s.h->y7b c s μ w a o.dst x h' (a.put o.dst undef) w:=by
    rintro y rfl rfl
    exact⟨undef,μ,rfl,Next1.same hW hd,y4x hg⟩
   have hne:g≠[]:=by rintro rfl;exact hg (by simp[allT])
   split at he
   ·split at he
    ·simp only[Option.some.injEq,Prod.mk.injEq]at he
     exact same he.1.symm he.2.1.symm
    ·simp at he
   ·split at he
    ·exact absurd rfl hne
    ·simp at he
   ·split at he
    ·unfold stepC at he
     split at he
     ·split at he
      ·split at he
       ·exact absurd rfl hne
       ·simp at he
      ·split at he
       ·split at he
        ·exact absurd rfl hne
        ·simp only[Option.some.injEq,Prod.mk.injEq]at he
         exact same he.1.symm he.2.1.symm
        ·simp at he
       ·simp at he
     ·simp at he
    ·unfold stepE at he
     split at he
     ·simp only[Option.some.injEq,Prod.mk.injEq]at he
      exact same he.1.symm he.2.1.symm
     ·split at he
      ·exact absurd rfl hne
      ·rename_i b g' g9
       cases hpo:pureO (al (b::g') s.t) o.op.operands.toList with
       | false=>rw[hpo]at he;simp at he
       | true=>
        rw[hpo]at he;simp only[cond_true]at he;split at he
        ·simp only[Option.some.injEq,Prod.mk.injEq]at he
         exact same he.1.symm he.2.1.symm
        ·simp at he
end
end Go.Ab
namespace Go.Ab
open Go
variable [Inv]
def stepQ (Γ:Env) (D:Dn) (all:Array Oper) (t:List (Nat×AV)) (h:List Ent) (o:Oper):Option (AV×List Prop):=
  match guardOf all t o.guard with
  | none=>none
  | some g => match o.op with
    | .pick c a b => match pickA g t c a b with
      | some (x,ob)=>some (wrapG g x,impL g ob)
      | none=>none
    | .store _ _ _=>none
    | op => match callOf op with
      | some (fop, args) => match al g t fop with
        | .fn f k cs => match D.md f with
          | some _=>none
          | none => match callA D h f (cs.take k ++ args.map (al g t) ++ cs.drop k) with
            | some (x,[],ob)=>some (wrapG g x,impL g (stripObs g t (fop::args)++ob))
            | _=>none
        | _=>none
      | none => match evalP Γ h (al g t) op with
        | some (x,ob)=>some (wrapG g x,impL g (stripObs g t (opsOf op)++ob))
        | none=>none
theorem yhm {ps:List Prop}:allP (impL [] ps)↔allP ps:=by rw[ybf];simp[allT]
theorem yup {Γ : Env} {D : Dn} {all : Array Oper} {t : List (Nat × AV)} {h : List Ent} {o : Oper} {g : List Bool} (hgd : guardOf all t o.guard = some g)
  (hn1:∀ c a b,o.op=.pick c a b->False) (hn2:∀ t a x,o.op=.store t a x->False) :
  stepA Γ D all t h o=(match callOf o.op with|some (fop,args)=>stepC D g t h fop args|none=>stepE Γ g t h o.op):=by
 obtain⟨dst,op,type,pos,after,guard⟩:=o;simp only at hgd hn1 hn2;unfold stepA;simp only[hgd];all_goals cases op
 all_goals first
  | rfl
  | exact absurd rfl (hn1 _ _ _)
  | exact absurd rfl (hn2 _ _ _)
theorem y4j {Γ:Env} {D:Dn} {all:Array Oper} {t:List (Nat×AV)} {h:List Ent} {o:Oper} {x:AV} {ob:List Prop} (hq:stepQ Γ D all t h o=some (x,ob)) :
  ∃ ob',stepA Γ D all t h o=some (x,h,ob')/\(allP ob->allP ob'):=by
 unfold stepQ at hq
 cases hgd:guardOf all t o.guard with
 | none=>simp[hgd]at hq
 | some g=>
  simp only[hgd]at hq;split at hq
  ·rename_i c a b hop
   split at hq
   ·rename_i y ob' hp
    simp only[Option.some.injEq,Prod.mk.injEq]at hq;obtain⟨rfl,rfl⟩:=hq;exact⟨impL g ob',by unfold stepA;simp only[hgd,hop,hp],id⟩
   ·simp at hq
  ·simp at hq
  ·rename_i hn1 hn2
   rw[yup hgd hn1 hn2];split at hq
   ·rename_i fop args hc
    split at hq
    ·rename_i f k cs hf
     split at hq
     ·simp at hq
     ·rename_i hmd
      split at hq
      ·rename_i y ob' hcl
       simp only[Option.some.injEq,Prod.mk.injEq]at hq;obtain⟨rfl,rfl⟩:=hq
       cases g with
       | nil=>exact⟨stripObs [] t (fop::args)++ob',by simp only[stepC,hf,hcl,hmd,wrapG,List.append_nil],fun h=>yhm.1 h⟩
       | cons b g=>exact⟨_,by simp only[stepC,hf,hcl,hmd,wrapG],id⟩
      ·simp at hq
    ·simp at hq
   ·split at hq
    ·rename_i y ob' hev
     simp only[Option.some.injEq,Prod.mk.injEq]at hq;obtain⟨rfl,rfl⟩:=hq;exact⟨_,by simp only[stepE,hev],id⟩
    ·simp at hq
def yhw (l:List Nat) (t t':List (Nat×AV)):Prop:=∀ i,i∈l->get t i=get t' i
theorem ywd {l:List Nat} {t t':List (Nat×AV)} (ha:yhw l t t') {x:Operand} (hx:∀ i,x=.tmp i->i∈l):opnd t x=opnd t' x:=by
 cases x with
 | tmp i=>exact ha i (hx i rfl)
 | const v=>rfl
 | func f=>rfl
 | global g=>rfl
theorem yxb {l : List Nat} {t t' : List (Nat × AV)} (ha : yhw l t t') (g : List Bool) : ∀ {xs : List Operand}, (∀ x ∈ xs, ∀ i, x = .tmp i -> i ∈ l) -> stripObs g t xs = stripObs g t' xs
 | [],_=>rfl
 | x::xs,hx=>by
  have h1:=yxb ha g (xs:=xs) fun y hy=>hx y (List.mem_cons_of_mem _ hy)
  simp only[stripObs,ywd ha (hx x (by simp)),h1]
theorem ydj {Γ:Env} {h:List Ent} {α β:Operand->AV} {op:Op} (ha:∀ x,x∈op.operands.toList->α x=β x):evalP Γ h α op=evalP Γ h β op:=by
  cases op
  case call cl=>
    simp only[evalP,evalC]
    cases hcal:cl.callee with
    | builtin b=>
      have:cl.args.toList.map α=cl.args.toList.map β:=List.map_congr_left fun x hx=>ha x (by simp[Op.operands,Call.operands,hcal,hx])
      simp only[this]
    | value f=>rfl
    | invoke r n=>rfl
  case build t parts=>
    simp only[evalP]
    have:(parts.toList.map fun p=>(p.1,α p.2))=(parts.toList.map fun p=>(p.1,β p.2)):=List.map_congr_left fun p hp=>by
      rw[ha p.2 (by simp only[Op.operands];exact List.mem_map.2 ⟨p,hp,rfl⟩)]
    rw[this]
  case makeFunc fn fst caps=>
    simp only[evalP];have:caps.toList.map α=caps.toList.map β:=List.map_congr_left fun x hx=>ha x (by simp only[Op.operands,Array.toList_append];exact List.mem_append_right _ hx)
    have h2:fst.toList.map α=fst.toList.map β:=List.map_congr_left fun x hx=>ha x (by simp only[Op.operands,Array.toList_append];exact List.mem_append_left _ hx)
    rw[this,h2]
  case slice t x lo hi mx=>
    cases mx with
    | none=>
      simp only[evalP];have h1:α x=β x:=ha x (by simp[Op.operands])
      have h2:omap α lo=omap β lo:=by
        cases lo with
        | none=>rfl
        | some y=>simp only[omap];rw[ha y (by simp[Op.operands])]
      have h3:omap α hi=omap β hi:=by
        cases hi with
        | none=>rfl
        | some y=>simp only[omap];rw[ha y (by simp[Op.operands])]
      rw[h1,h2,h3]
    | some m=>rfl
  all_goals first
    | rfl
    | (simp only [Op.operands] at ha
       simp only[evalP]
       simp[ha])
theorem yji {all:Array Oper} {o:Oper} {x:Operand} (hx:x∈o.op.operands.toList) (i:Nat) (he:x=.tmp i):i∈o.looksAt all:=by
 subst he;unfold Oper.looksAt;apply List.mem_append_left;rw[List.mem_filterMap];exact⟨_,hx,rfl⟩
theorem ysg {all:Array Oper} {o:Oper} {t t':List (Nat×AV)} (ha:yhw (o.looksAt all) t t'):guardOf all t o.guard=guardOf all t' o.guard:=by
 cases hg:o.guard with
 | none=>rfl
 | some p=>
  obtain⟨j,want⟩:=p;simp only[guardOf]
  cases hj:all[j]? with
  | none=>rfl
  | some oj=>
   simp only
   cases hd:oj.dst with
   | none=>rfl
   | some d=>
    simp only
    rw[ha d (by
     unfold Oper.looksAt;apply List.mem_append_right
     simp[hg,hj,hd])]
theorem y7i {Γ:Env} {D:Dn} {all:Array Oper} {t t':List (Nat×AV)} {h:List Ent} {o:Oper} (ha:yhw (o.looksAt all) t t'):stepQ Γ D all t h o=stepQ Γ D all t' h o:=by
 have hop:∀ x∈o.op.operands.toList,∀ i,x=.tmp i->i∈o.looksAt all:=fun x hx i he=>yji hx i he
 have hal:∀ g x,x∈o.op.operands.toList->al g t x=al g t' x:=fun g x hx=>by
  unfold al;rw[ywd ha (hop x hx)]
 unfold stepQ;rw[ysg ha]
 cases hgd:guardOf all t' o.guard with
 | none=>rfl
 | some g=>
  simp only;split
  ·rename_i c a b hope
   have h1:∀ x,x=c\/x=a\/x=b->opnd t x=opnd t' x:=fun x hx=>ywd ha (hop x (by rw[hope];simpa [Op.operands]using hx))
   have:pickA g t c a b=pickA g t' c a b:=by
    unfold pickA;rw[h1 c (by simp),h1 a (by simp),h1 b (by simp)]
   rw[this]
  ·rfl
  ·have hst:stripObs g t (opsOf o.op)=stripObs g t' (opsOf o.op):=yxb ha g hop
   have hev:evalP Γ h (al g t) o.op=evalP Γ h (al g t') o.op:=ydj fun x hx=>hal g x hx
   cases hc:callOf o.op with
   | none=>
    simp only;rw[hev,hst]
   | some p=>
    obtain⟨fop,args⟩:=p
    have hmem:∀ x,x∈fop::args->x∈o.op.operands.toList:=by
     intro x hx;unfold callOf at hc;split at hc
     ·rename_i cl hope
      split at hc
      ·rename_i fo hcal
       simp only[Option.some.injEq,Prod.mk.injEq]at hc;obtain⟨rfl,rfl⟩:=hc;rw[hope];simpa [Op.operands,Call.operands,hcal]using hx
      ·simp at hc
     ·simp at hc
    simp only
    rw[hal g fop (hmem fop (by simp)),yxb ha g (xs:=fop::args) (fun x hx=>hop x (hmem x hx)),
     List.map_congr_left (f:=al g t) (g:=al g t') (l:=args) fun x hx=>hal g x (hmem x (by simp[hx]))]
end Go.Ab
namespace Go.Ab
open Go
variable [Inv]
def runA (Γ : Env) (D : Dn) (all : Array Oper) : List Oper -> List (Nat × AV) -> List Ent -> Option (List (Nat × AV) × List Ent × List Prop)
  | [],t,h=>some (t,h,[])
  | o :: os, t, h => match stepA Γ D all t h o with
    | some (x, h', ob) => match runA Γ D all os (put t o.dst x) h' with
      | some (t'',h'',ob')=>some (t'',h'',ob++ob')
      | none=>none
    | none=>none
def runQ (Γ : Env) (D : Dn) (all : Array Oper) (h : List Ent) : List Oper -> List (Nat × AV) -> Option (List (Nat × AV) × List Prop)
  | [],t=>some (t,[])
  | o :: os, t => match stepQ Γ D all t h o with
    | some (x, ob) => match runQ Γ D all h os (put t o.dst x) with
      | some (t',ob')=>some (t',ob++ob')
      | none=>none
    | none=>none
def y7c (nt : Nat) (ops : List Oper) : Bool := ops.all fun o => match o.dst with
 | some d=>Nat.blt d nt
 | none=>true
section
variable {P:Program} {Γ:Env} {D:Dn} {c:Ctx} {s:St} {μ:Map} {FP:Nat->List Nat} {w:World} {a:Act} {all:Array Oper} {o:Oper} {Q:Exit->Act->World->Prop}
theorem y7b.wrs {x:AV} {h':List Ent} {a':Act} {w':World} (hT:TR c s μ w a) (hd:∀ d,o.dst=some d->d<c.nt) (hb:y7b c s μ w a o.dst x h' a' w'):WRs c ⟨put s.t o.dst x,h'⟩ a' w':=by
 obtain⟨v,μ',rfl,hN,hx⟩:=hb;obtain⟨FP',hW⟩:=hN.wr;exact⟨μ',FP',hW,hN.tail,TR.put hT hN.tr hd hx⟩
theorem ytq (hΓ : TyOk P Γ) (hD : DOk P D) (hs : WRs c s a w) {x : AV} {h' : List Ent} {ob : List Prop} (he : stepA Γ D all s.t s.h o = some (x, h', ob)) (ho : allP ob)
  (hd:∀ d,o.dst=some d->d<c.nt) {K:Act->World->Prop} (hK:∀ a w,WRs c ⟨put s.t o.dst x,h'⟩ a w->K a w) :
  if Region.wanted o (yielded all a.tmps)then o.wp P a w K Q else K (a.put o.dst undef) w:=by
 obtain⟨μ,FP,hW,hdd,hT⟩:=hs;have h:=y9q (Q:=Q) hΓ hD hW hdd hT he ho;split
 ·rename_i hw
  rw[if_pos hw]at h;exact Oper.wp_mono (fun a' w' hb=>hK a' w' (y7b.wrs hT hd hb)) h
 ·rename_i hw
  rw[if_neg hw]at h;exact hK _ _ (y7b.wrs hT hd h)
theorem yaf {nt:Nat} {o:Oper} {os:List Oper} (h:y7c nt (o::os)=true):(∀ d,o.dst=some d->d<nt)/\y7c nt os=true:=by
 simp only[y7c,List.all_cons,Bool.and_eq_true]at h;refine⟨fun d hd => ?_,h.2⟩;have:=h.1;rw[hd]at this;simpa using this
theorem yih (hΓ:TyOk P Γ) (hD:DOk P D):∀ {os:List Oper} {s:St} {a:Act} {w:World} {t':List (Nat×AV)} {h':List Ent} {ob:List Prop},WRs c s a w->runA Γ D all os s.t s.h=some (t',h',ob)->allP ob ->
  y7c c.nt os=true->(∀ a w,WRs c ⟨t',h'⟩ a w->Q .normal a w)->wpList P all Q os a w
 | [],s,a,w,t',h',ob,hs,hr,ho,hd,hQ=>by
  simp only[runA,Option.some.injEq,Prod.mk.injEq]at hr;obtain⟨rfl,rfl,_⟩:=hr;exact hQ a w hs
 | o::os,s,a,w,t',h',ob,hs,hr,ho,hd,hQ=>by
  simp only[runA]at hr
  cases h1:stepA Γ D all s.t s.h o with
  | none=>simp[h1]at hr
  | some p=>
   obtain⟨x,h2,ob1⟩:=p;simp only[h1]at hr
   cases h3:runA Γ D all os (put s.t o.dst x) h2 with
   | none=>simp[h3]at hr
   | some q=>
    obtain⟨t3,h3',ob3⟩:=q;simp only[h3,Option.some.injEq,Prod.mk.injEq]at hr;obtain⟨rfl,rfl,rfl⟩:=hr;obtain⟨ho1,ho2⟩:=yl.1 ho;have hd':=yaf hd;refine wpList_step fun K hK => ?_
    have h4:=ytq (Q:=Q) (K:=K) hΓ hD hs h1 ho1 hd'.1 (fun a' w' hs'=>hK a' w' (yih hΓ hD (s:=⟨put s.t o.dst x,h2⟩) hs' h3 ho2 hd'.2 hQ));exact h4
theorem yit (hΓ : TyOk P Γ) (hD : DOk P D) {id : Nat} {ops : Array Oper} {t' : List (Nat × AV)} {h' : List Ent} {ob : List Prop} (hs : WRs c s a w) (hr : runA Γ D ops ops.toList s.t s.h = some (t', h', ob)) (ho : allP ob)
  (hd:y7c c.nt ops.toList=true) (hQ:∀ a w,WRs c ⟨t',h'⟩ a w->Q .normal a w):(Code.region id ops false).wp P Q a w:=
 wp_region_list (yih hΓ hD hs hr ho hd hQ)
end
end Go.Ab
namespace Go.Ab
open Go
variable [Inv]
def dirB (ops : Array Oper) (k j : Nat) : Bool := match ops[k]? with
 | some o=>o.after.any fun e=>Region.binds .any e && Nat.beq e.on j
 | none=>false
def yve (ops : Array Oper) : Nat -> Nat -> Nat -> Bool
 | 0,k,j=>dirB ops k j
 | f+1,k,j=>dirB ops k j || (List.range k).any fun l=>dirB ops k l && yve ops f l j
def y9u (ops:Array Oper) (m i:Nat) (o:Oper):Bool:=
  (match o.dst with
    | some d => !(o.looksAt ops).contains d
    | none=>true) &&
  (List.range m).all fun j => Nat.beq j i || match ops[j]? with
    | some oj => match oj.dst with
      | some d=>(o.dst != some d) && (!(o.looksAt ops).contains d || (Nat.blt j i && dirB ops i j))
      | none=>true
    | none=>true
def yhe (ops:Array Oper) (m:Nat):Bool:=
 Nat.ble m ops.size && (List.range ops.size).all fun i => match ops[i]? with
  | none=>false
  | some o=>(o.after.all fun e => !Region.binds .any e || Nat.blt e.on i) && (bif Nat.blt i m then y9u ops m i o else(List.range i).all fun j=>yve ops 3 i j)
structure AnyOk (ops:Array Oper) (m:Nat):Prop where
 le:m<=ops.size
 back:∀ (i:Nat) (o:Oper),ops[i]? = some o->∀ e∈o.after,Region.binds .any e=true->e.on<i
 own:∀ (i:Nat) (o:Oper),ops[i]? = some o->i<m->∀ d,o.dst=some d->d∉o.looksAt ops
 apart:∀ (i j:Nat) (o oj:Oper) (d:Nat),ops[i]? = some o->ops[j]? = some oj->i<m->j<m->j≠i->oj.dst=some d->o.dst≠some d/\(d∈o.looksAt ops->j<i/\dirB ops i j=true)
 late:∀ i,m<=i->i<ops.size->∀ j,j<i->yve ops 3 i j=true
theorem y3j {ops:Array Oper} {m:Nat} (h:yhe ops m=true):AnyOk ops m:=by
  simp only[yhe,Bool.and_eq_true,List.all_eq_true,List.mem_range]at h;obtain⟨hm,h⟩:=h
  have hi:∀ (i:Nat) (o:Oper),ops[i]? = some o->(o.after.all fun e => !Region.binds .any e || Nat.blt e.on i)=true/\(bif Nat.blt i m then y9u ops m i o else(List.range i).all fun j=>yve ops 3 i j)=true:=by
    intro i o ho
    have hlt:i<ops.size:=by
      rcases Nat.lt_or_ge i ops.size with h|h
      . exact h
      . rw[Array.getElem?_eq_none h]at ho;cases ho
    have:=h i hlt;rw[ho]at this;simpa only[Bool.and_eq_true]using this
  have hearly:∀ (i:Nat) (o:Oper),ops[i]? = some o->i<m->y9u ops m i o=true:=by
    intro i o ho him;have:=(hi i o ho).2;rw[show Nat.blt i m=true by simpa using him]at this;exact this
  refine⟨by simpa using hm,?_,?_,?_,?_⟩
  . intro i o ho e he hb;have:=(hi i o ho).1;rw[Array.all_eq_true_iff_forall_mem]at this;have:=this e he;rw[hb]at this;simpa using this
  . intro i o ho him d hd;have:=hearly i o ho him;simp only[y9u,Bool.and_eq_true]at this;have:=this.1;rw[hd]at this;simpa using this
  . intro i j o oj d ho hoj him hjm hji hd;have:=hearly i o ho him;simp only[y9u,Bool.and_eq_true,List.all_eq_true,List.mem_range]at this;have:=this.2 j hjm;rw[hoj]at this;simp only[hd,Bool.or_eq_true,Bool.and_eq_true]at this;rcases this with h1|h1
    . exact absurd (by simpa using h1) hji
    . refine⟨by simpa using h1.1,fun hdm => ?_⟩;rcases h1.2 with h2|h2
      . simp[hdm]at h2
      . exact⟨by simpa using h2.1,h2.2⟩
  . intro i him hlt j hj;have h1:=(hi i _ (Array.getElem?_eq_getElem hlt)).2
    have hb:Nat.blt i m=false:=by
      cases hq:Nat.blt i m with
      | false=>rfl
      | true => have : i < m := by simpa using hq
                omega
    rw[hb]at h1;simp only[cond_false,List.all_eq_true,List.mem_range]at h1;exact h1 j hj
def unl (listed : Array Bool) : Nat -> Nat
 | 0=>0
 | k+1=>unl listed k+bif listed.getD k true then 0 else 1
theorem y0b {listed:Array Bool} {i j:Nat} (hi:i<listed.size) (b:Bool):(listed.setIfInBounds i true).getD j b=if j=i then true else listed.getD j b:=by
 simp only[Array.getD_eq_getD_getElem?];by_cases h:j=i
 ·subst h
  simp[hi]
 ·rw[Array.getElem?_setIfInBounds_ne (fun e=>h e.symm),if_neg h]
theorem ytp {listed : Array Bool} {i : Nat} (hi : i < listed.size) (hu : listed.getD i true = false) : ∀ k, unl (listed.setIfInBounds i true) k + (if i < k then 1 else 0) = unl listed k
 | 0=>by simp[unl]
 | k+1=>by
  have ih:=ytp hi hu k;simp only[unl,y0b hi];by_cases h:k=i
  ·subst h
   rw[if_pos rfl,hu];simp at ih ⊢
   omega
  ·rw[if_neg h]
   by_cases h2:i<k
   ·rw[if_pos h2]at ih
    rw[if_pos (by omega)];omega
   ·rw[if_neg h2]at ih
    rw[if_neg (by omega)];omega
theorem y0m {listed : Array Bool} : ∀ {k : Nat}, unl listed k = 0 -> ∀ i, i < k -> listed.getD i true = true
 | 0,_,i,hi=>by omega
 | k+1,h,i,hi=>by
  simp only[unl]at h;by_cases h2:i=k
  ·subst h2
   cases hl:listed.getD i true with
   | true=>rfl
   | false=>rw[hl]at h;simp at h
  ·exact y0m (k:=k) (by omega) i (by omega)
theorem y1c {ops : Array Oper} {listed : Array Bool} {i : Nat} : i ∈ Region.ready .any ops listed ↔
  ∃ o,ops[i]? = some o/\listed.getD i true=false/\∀ e∈o.after,Region.binds .any e=true->listed.getD e.on false=true:=by
 unfold Region.ready;rw[List.mem_filter];constructor
 ·rintro⟨h1,h2⟩
  have hlt:=List.mem_range.1 h1;rw[Array.getElem?_eq_getElem hlt]at h2 ⊢;simp only[Option.map_some,Option.getD_some,Bool.and_eq_true,Bool.not_eq_true']at h2;refine⟨_,rfl,h2.1,fun e he hb => ?_⟩;have:=(Array.all_eq_true_iff_forall_mem.1 h2.2) e he;rw[hb]at this;simpa using this
 ·rintro⟨o,ho,h1,h2⟩
  have hlt:i<ops.size:=by
   rcases Nat.lt_or_ge i ops.size with h|h
   ·exact h
   ·rw[Array.getElem?_eq_none h]at ho;cases ho
  refine⟨List.mem_range.2 hlt,?_⟩;rw[ho];simp only[Option.map_some,Option.getD_some,Bool.and_eq_true,Bool.not_eq_true'];refine⟨h1,Array.all_eq_true_iff_forall_mem.2 fun e he => ?_⟩
  cases hb:Region.binds .any e with
  | false=>rfl
  | true=>simp[h2 e he hb]
def yqn (ops:Array Oper) (listed:Array Bool):Prop:=∀ (i:Nat) (o:Oper),ops[i]? = some o->listed.getD i true=true->∀ e∈o.after,Region.binds .any e=true->listed.getD e.on false=true
theorem yfh {ops:Array Oper} {k j:Nat}:dirB ops k j=true↔∃ o,ops[k]? = some o/\∃ e∈o.after,Region.binds .any e=true/\e.on=j:=by
 unfold dirB;constructor
 ·intro h
  split at h
  ·rename_i o ho
   rw[<- Array.any_toList,List.any_eq_true]at h;obtain⟨e,he,h2⟩:=h;have he:=Array.mem_toList_iff.1 he;simp only[Bool.and_eq_true]at h2;exact⟨o,ho,e,he,h2.1,Nat.eq_of_beq_eq_true h2.2⟩
  ·cases h
 ·rintro⟨o,ho,e,he,h1,h2⟩
  rw[ho];simp only;rw[<- Array.any_toList,List.any_eq_true];exact⟨e,Array.mem_toList_iff.2 he,by simp[h1,h2]⟩
theorem ybc {ops : Array Oper} {listed : Array Bool} (hsz : listed.size = ops.size) (hc : yqn ops listed) : ∀ (f k j : Nat), (∀ l, dirB ops k l = true -> listed.getD l false = true) -> yve ops f k j = true -> listed.getD j false = true
 | 0,k,j,hk,h=>hk j h
 | f+1,k,j,hk,h=>by
  simp only[yve,Bool.or_eq_true,List.any_eq_true,Bool.and_eq_true]at h;rcases h with h|⟨l,_,h1,h2⟩
  ·exact hk j h
  ·refine ybc hsz hc f l j (fun l' hl' => ?_) h2
   obtain⟨o,ho,e,he,hb,rfl⟩:=yfh.1 hl';have hl:=hk l h1
   have hlt:l<ops.size:=by
    rcases Nat.lt_or_ge l ops.size with h|h
    ·exact h
    ·rw[Array.getElem?_eq_none h]at ho;cases ho
   refine hc l o ho ?_ e he hb;have hlt2:l<listed.size:=by omega
   simpa [Array.getD_eq_getD_getElem?,hlt2]using hl
end Go.Ab
namespace Go.Ab
open Go
variable [Inv]
section
variable {P:Program} {Γ:Env} {D:Dn} {c:Ctx} {h:List Ent} {all:Array Oper} {Q:Exit->Act->World->Prop}
theorem yik:∀ {os:List Oper} {t t':List (Nat×AV)} {ob:List Prop},runQ Γ D all h os t=some (t',ob)->allP ob ->
  ∃ (T:Nat->List (Nat×AV)) (X:Nat->AV),T 0=t/\T os.length=t'/\∀ (i:Nat) (o:Oper),os[i]? = some o->(∃ ob',stepQ Γ D all (T i) h o=some (X i,ob')/\allP ob')/\T (i+1)=put (T i) o.dst (X i)
 | [],t,t',ob,hr,_=>by
  simp only[runQ,Option.some.injEq,Prod.mk.injEq]at hr;obtain⟨rfl,_⟩:=hr;exact⟨fun _=>t,fun _=>.any,rfl,rfl,by simp⟩
 | o::os,t,t',ob,hr,ho=>by
  simp only[runQ]at hr
  cases h1:stepQ Γ D all t h o with
  | none=>simp[h1]at hr
  | some p=>
   obtain⟨x,ob1⟩:=p;simp only[h1]at hr
   cases h2:runQ Γ D all h os (put t o.dst x)with
   | none=>simp[h2]at hr
   | some q=>
    obtain⟨t2,ob2⟩:=q;simp only[h2,Option.some.injEq,Prod.mk.injEq]at hr;obtain⟨rfl,rfl⟩:=hr;obtain⟨ho1,ho2⟩:=yl.1 ho;obtain⟨T,X,hT0,hTn,hT⟩:=yik h2 ho2;refine⟨fun i=>match i with|0=>t|i+1=>T i,fun i=>match i with|0=>x|i+1=>X i,rfl,by simpa using hTn,?_⟩;intro i o' ho'
    cases i with
    | zero=>
     simp only[List.getElem?_cons_zero,Option.some.injEq]at ho';subst ho';exact⟨⟨ob1,h1,ho1⟩,hT0⟩
    | succ i=>
     simp only[List.getElem?_cons_succ]at ho';exact hT i o' ho'
theorem yy {listed:Array Bool} {i:Nat} (hi:i<listed.size) (b b':Bool):listed.getD i b=listed.getD i b':=by
 simp[Array.getD_eq_getD_getElem?,hi]
theorem ycm (hΓ : TyOk P Γ) (hD : DOk P D) {ops : Array Oper} {m : Nat} (hok : AnyOk ops m) (hdn : ∀ (i : Nat) (o : Oper), ops[i]? = some o -> ∀ d, o.dst = some d -> d < c.nt) {t' : List (Nat × AV)} {h' : List Ent}
  (hQ:∀ a w,WRs c ⟨t',h'⟩ a w->Q .normal a w):∀ (fuel k:Nat) (listed:Array Bool) (a:Act) (w:World) (s:St) (ob:List Prop),m<=k->k<=ops.size->ops.size<=k+fuel->listed.size=ops.size ->
   (∀ i,i<ops.size->listed.getD i true=decide (i<k))->WRs c s a w->runA Γ D ops (ops.toList.drop k) s.t s.h=some (t',h',ob)->allP ob->wpAny P .any ops Q fuel listed a w:=by
 have hdone:∀ (k:Nat) (listed:Array Bool) (a:Act) (w:World) (s:St) (ob:List Prop),k=ops.size->(∀ i,i<ops.size->listed.getD i true=decide (i<k))->WRs c s a w ->
   runA Γ D ops (ops.toList.drop k) s.t s.h=some (t',h',ob)->Region.ready .any ops listed=[]/\Q .normal a w:=by
  intro k listed a w s ob hk hl hs hr;subst hk;constructor
  ·apply List.eq_nil_iff_forall_not_mem.2
   intro i hi;obtain⟨o,ho,hf,_⟩:=y1c.1 hi
   have hlt:i<ops.size:=by
    rcases Nat.lt_or_ge i ops.size with h|h
    ·exact h
    ·rw[Array.getElem?_eq_none h]at ho;cases ho
   rw[hl i hlt]at hf;simp[hlt]at hf
  ·rw[List.drop_eq_nil_of_le (by simp)]at hr
   simp only[runA,Option.some.injEq,Prod.mk.injEq]at hr;obtain⟨rfl,rfl,_⟩:=hr;exact hQ a w hs
 intro fuel
 induction fuel with
 | zero=>
  intro k listed a w s ob hmk hkn hf hsz hl hs hr ho;exact hdone k listed a w s ob (by omega) hl hs hr
 | succ fuel ih=>
  intro k listed a w s ob hmk hkn hf hsz hl hs hr ho;by_cases hk:k=ops.size
  ·have h1:=hdone k listed a w s ob hk hl hs hr
   refine⟨fun _=>h1.2,?_⟩;rw[h1.1];simp
  ·have hklt:k<ops.size:=by omega
   have hcl:yqn ops listed:=by
    intro i o hio hli e he hb
    have hlt:i<ops.size:=by
     rcases Nat.lt_or_ge i ops.size with h|h
     ·exact h
     ·rw[Array.getElem?_eq_none h]at hio;cases hio
    have hei:=hok.back i o hio e he hb;have hik:i<k:=by simpa [hl i hlt]using hli
    rw[yy (by omega) false true,hl e.on (by omega)];simp;omega
   have honly:∀ i,i∈Region.ready .any ops listed->i=k:=by
    intro i hi;obtain⟨o,hio,hf,hready⟩:=y1c.1 hi
    have hlt:i<ops.size:=by
     rcases Nat.lt_or_ge i ops.size with h|h
     ·exact h
     ·rw[Array.getElem?_eq_none h]at hio;cases hio
    have hik:¬ i<k:=by
     intro h;rw[hl i hlt]at hf;simp[h]at hf
    rcases Nat.lt_or_ge k i with h1|h1
    ·exfalso
     have h2:=ybc hsz hcl 3 i k (fun l hl'=>by
      obtain⟨o2,ho2,e,he,hb,rfl⟩:=yfh.1 hl';rw[hio]at ho2;cases ho2
      exact hready e he hb) (hok.late i (by omega) hlt k h1)
     rw[yy (by omega) false true,hl k hklt]at h2;simp at h2
    ·omega
   have hin:k∈Region.ready .any ops listed:=by
    refine y1c.2 ⟨ops[k],Array.getElem?_eq_getElem hklt,by simp[hl k hklt],fun e he hb => ?_⟩;have h3:=hok.back k _ (Array.getElem?_eq_getElem hklt) e he hb;rw[yy (by omega) false true,hl e.on (by omega)];simpa using h3
   refine⟨fun h0 => ?_,fun i hi => ?_⟩
   ·rw[h0]at hin;simp at hin
   ·have:=honly i hi
    subst this
    have hdrop:ops.toList.drop i=ops[i]::ops.toList.drop (i+1):=by
     rw[List.drop_eq_getElem_cons (by simpa using hklt)];simp
    rw[hdrop]at hr;simp only[runA]at hr
    cases h1:stepA Γ D ops s.t s.h ops[i]with
    | none=>simp[h1]at hr
    | some p=>
     obtain⟨x,h2,ob1⟩:=p;simp only[h1]at hr
     cases h3:runA Γ D ops (ops.toList.drop (i+1)) (put s.t ops[i].dst x) h2 with
     | none=>simp[h3]at hr
     | some q=>
      obtain⟨t3,h3',ob3⟩:=q;simp only[h3,Option.some.injEq,Prod.mk.injEq]at hr;obtain⟨rfl,rfl,rfl⟩:=hr;obtain⟨ho1,ho2⟩:=yl.1 ho;unfold wpOp;rw[Array.getElem?_eq_getElem hklt];simp only
      have h4:=ytq (Q:=Q) (K:=wpAny P .any ops Q fuel (listed.setIfInBounds i true)) hΓ hD hs h1 ho1 (hdn i _ (Array.getElem?_eq_getElem hklt)) (fun a' w' hs'=>
       ih (i+1) _ a' w' ⟨put s.t ops[i].dst x,h2⟩ ob3 (by omega) (by omega) (by omega) (by simpa using hsz) (by
        intro j hj;rw[y0b (by omega)];by_cases hji:j=i
        ·subst hji;simp
        ·rw[if_neg hji,hl j hj]
         have:(j<i)↔(j<i+1):=by omega
         simp[this]) hs' h3 ho2)
      split
      ·rename_i hw
       rw[if_pos hw]at h4;exact .inl h4
      ·rename_i hw
       rw[if_neg hw]at h4;exact h4
end
end Go.Ab
namespace Go.Ab
open Go
variable [Inv]
def mask (l:List Nat) (t:List (Nat×AV)):List (Nat×AV):=l.map fun j=>(j,get t j)
theorem ycf (t : List (Nat × AV)) : ∀ (l : List Nat) (j : Nat), get (mask l t) j = if j ∈ l then get t j else .any
 | [],j=>by simp[mask,get]
 | k::l,j=>by
  have ih:=ycf t l j;simp only[mask,List.map_cons,get]at ih ⊢
  cases hb:Nat.beq j k with
  | true=>
   have:=Nat.eq_of_beq_eq_true hb;subst this;simp
  | false=>
   have hne:j≠k:=by
    rintro rfl
    simp at hb
   simp only[cond_false,List.mem_cons,hne,false_or];exact ih
theorem y2v {listed : Array Bool} {m : Nat} : ∀ {n : Nat}, (∀ k, m <= k -> k < n -> listed.getD k true = false) -> n <= m + unl listed n
 | 0,_=>by omega
 | n+1,h=>by
  have ih:=y2v (n:=n) fun k h1 h2=>h k h1 (by omega)
  simp only[unl];by_cases hm:m<=n
  ·rw[h n hm (by omega)]
   simp only[cond_false];omega
  ·omega
section
variable {P:Program} {Γ:Env} {D:Dn} {c:Ctx} {h:List Ent} {Q:Exit->Act->World->Prop}
def yz1 (c:Ctx) (h:List Ent) (ops:Array Oper) (m:Nat) (tm:List (Nat×AV)) (listed:Array Bool) (a:Act) (w:World):Prop:=
 ∃ μ FP,WR c (Hof h) μ FP w/\Tail h μ/\a.tmps.size=c.nt/\a.defers=[] /\
  ∀ i,(∀ (j:Nat) (o:Oper),j<m->ops[j]? = some o->listed.getD j true=false->o.dst≠some i)->Rep w (hot c.M0 (Hof h) μ) (get tm i) μ (a.tmps.getD i undef) []
theorem ysu (hΓ : TyOk P Γ) (hD : DOk P D) {ops : Array Oper} {m : Nat} (hok : AnyOk ops m) (hdn : ∀ (i : Nat) (o : Oper), ops[i]? = some o -> ∀ d, o.dst = some d -> d < c.nt) {t' : List (Nat × AV)} {h' : List Ent} {ob : List Prop}
    (hQ:∀ a w,WRs c ⟨t',h'⟩ a w->Q .normal a w) (T:Nat->List (Nat×AV)) (X:Nat->AV)
    (hT:∀ (i:Nat) (o:Oper),i<m->ops[i]? = some o->(∃ ob',stepQ Γ D ops (T i) h o=some (X i,ob')/\allP ob')/\T (i+1)=put (T i) o.dst (X i))
    (hr:runA Γ D ops (ops.toList.drop m) (T m) h=some (t',h',ob)) (ho:allP ob) :
    ∀ (fuel:Nat) (listed:Array Bool) (a:Act) (w:World),unl listed ops.size<=fuel->listed.size=ops.size->(∀ k,m<=k->k<ops.size->listed.getD k true=false)->yqn ops listed ->
      yz1 c h ops m (T m) listed a w->wpAny P .any ops Q fuel listed a w:=by
  have hlt:∀ {i:Nat} {o:Oper},ops[i]? = some o->i<ops.size:=by
    intro i o hio;rcases Nat.lt_or_ge i ops.size with h|h
    . exact h
    . rw[Array.getElem?_eq_none h]at hio;cases hio
  have hm:=hok.le
  -- the writes of the first part are apart
  have hlast:∀ (i:Nat) (o:Oper) (d:Nat),i<m->ops[i]? = some o->o.dst=some d->∀ k,i<k->k<=m->get (T k) d=X i:=by
    intro i o d him hio hd k
    induction k with
    | zero=>intro h;omega
    | succ k ih=>
      intro h1 h2;have hk:k<ops.size:=by omega
      obtain⟨_,hTk⟩:=hT k _ (by omega) (Array.getElem?_eq_getElem hk);rw[hTk];by_cases hki:k=i
      . subst hki;have:ops[k]=o:=by rw[Array.getElem?_eq_getElem hk]at hio;exact Option.some.inj hio
        rw[this,hd,ykd,if_pos rfl]
      . have hap:=(hok.apart k i _ o d (Array.getElem?_eq_getElem hk) hio (by omega) him (fun e=>hki e.symm) hd).1
        cases hdk:ops[k].dst with
        | none=>exact ih (by omega) (by omega)
        | some d'=>
          rw[ykd,if_neg]
          . exact ih (by omega) (by omega)
          . rintro rfl
            exact hap hdk
  have hlook:∀ (i:Nat) (o:Oper) (d:Nat),i<m->ops[i]? = some o->d∈o.looksAt ops->∀ k,i<=k->k<=m->get (T k) d=get (T i) d:=by
    intro i o d him hio hd k
    induction k with
    | zero => intro h _; have : i = 0 := by omega
              subst this;rfl
    | succ k ih=>
      intro h1 h2;by_cases hki:i=k+1
      . subst hki;rfl
      . have hk:k<ops.size:=by omega
        obtain⟨_,hTk⟩:=hT k _ (by omega) (Array.getElem?_eq_getElem hk);rw[hTk]
        cases hdk:ops[k].dst with
        | none=>exact ih (by omega) (by omega)
        | some d'=>
          rw[ykd,if_neg]
          . exact ih (by omega) (by omega)
          . rintro rfl
            by_cases hik:i=k
            . subst hik;have:ops[i]=o:=by rw[Array.getElem?_eq_getElem hk]at hio;exact Option.some.inj hio
              exact hok.own i o hio him d (by rw[<- this];exact hdk) hd
            . have:=((hok.apart i k o _ d hio (Array.getElem?_eq_getElem hk) him (by omega) (fun e=>hik e.symm) hdk).2 hd).1;omega
  intro fuel
  induction fuel with
  | zero=>
    intro listed a w hf hsz hun hcl hmid;have hall:=y0m (Nat.le_zero.1 hf);obtain⟨μ,FP,hW,htl,h1,h2,h3⟩:=hmid
    have hnm:m=ops.size:=by
      rcases Nat.lt_or_ge m ops.size with h|h
      . have:=hun m (Nat.le_refl _) h;rw[hall m h]at this;cases this
      . omega
    refine ycm hΓ hD hok hdn hQ 0 m listed a w ⟨T m,h⟩ ob (Nat.le_refl _) hm (by omega) hsz (fun i hi=>by rw[hall i hi];simp;omega) ⟨μ,FP,hW,htl,?_,h1,h2⟩ hr ho;intro i;refine h3 i fun j o hjm hjo hl => ?_
    rw[hall j (by omega)]at hl;cases hl
  | succ fuel ih=>
    intro listed a w hf hsz hun hcl hmid;by_cases hall:∀ i,i<m->listed.getD i true=true
    . obtain⟨μ,FP,hW,htl,h1,h2,h3⟩:=hmid;have hge:=y2v hun;refine ycm hΓ hD hok hdn hQ (fuel+1) m listed a w ⟨T m,h⟩ ob (Nat.le_refl _) hm (by omega) hsz (fun i hi => ?_) ⟨μ,FP,hW,htl,?_,h1,h2⟩ hr ho
      . by_cases him:i<m
        . rw[hall i him];simp[him]
        . rw[hun i (by omega) hi];simp[him]
      . intro i;refine h3 i fun j o hjm hjo hl => ?_
        rw[hall j hjm]at hl;cases hl
    . refine⟨fun h0 => ?_,fun i hi => ?_⟩
      . exfalso;apply hall
        have:∀ i,i<ops.size->listed.getD i true=true:=by
          intro i
          induction i using Nat.strongRecOn with
          | _ i ihi=>
            intro hi
            cases hl:listed.getD i true with
            | true=>rfl
            | false=>
              exfalso
              have:i∈Region.ready .any ops listed:=by
                refine y1c.2 ⟨ops[i],Array.getElem?_eq_getElem hi,hl,fun e he hb => ?_⟩;have h3:=hok.back i _ (Array.getElem?_eq_getElem hi) e he hb;rw[yy (by omega) false true];exact ihi e.on h3 (by omega)
              rw[h0]at this;simp at this
        exact fun i him=>this i (by omega)
      . obtain⟨o,hio,hli,hready⟩:=y1c.1 hi;have hin:=hlt hio
        have hdir:∀ l,dirB ops i l=true->listed.getD l false=true:=fun l hl'=>by
          obtain⟨o2,ho2,e,he,hb,rfl⟩:=yfh.1 hl';rw[hio]at ho2;cases ho2;exact hready e he hb
        have him:i<m:=by
          rcases Nat.lt_or_ge i m with h1|h1
          . exact h1
          . exfalso;apply hall;intro j hj;rw[yy (by omega) true false];exact ybc hsz hcl 3 i j hdir (hok.late i h1 hin j (by omega))
        obtain⟨⟨ob',hq,hob'⟩,hTi⟩:=hT i o him hio;obtain⟨μ,FP,hW,htl,h1,h2,h3⟩:=hmid
        have hTR:TR c ⟨mask (o.looksAt ops) (T i),h⟩ μ w a:=by
          refine⟨fun j => ?_,h1,h2⟩;show Rep w _ (get (mask (o.looksAt ops) (T i)) j) μ _ [];rw[ycf];split
          . rename_i hj
            rw[<- hlook i o j him hio hj m (by omega) (Nat.le_refl _)];refine h3 j fun k ok hkm hko hl hdk => ?_
            by_cases hki:k=i
            . subst hki;rw[hio]at hko;cases hko;exact hok.own k o hio him j hdk hj
            . have h4:=((hok.apart i k o ok j hio hko him hkm hki hdk).2 hj).2;have h5:=hdir k h4;rw[yy (by omega) false true,hl]at h5;cases h5
          . simp[Rep]
        have hq2:stepQ Γ D ops (mask (o.looksAt ops) (T i)) h o=some (X i,ob'):=by
          rw[<- hq];refine y7i fun j hj => ?_
          rw[ycf,if_pos hj]
        obtain⟨ob2,hA,hob2⟩:=y4j hq2;have hrun:=y9q (s:=⟨mask (o.looksAt ops) (T i),h⟩) (Q:=Q) hΓ hD hW htl hTR hA (hob2 hob')
        have hnext:∀ a' w',y7b c ⟨mask (o.looksAt ops) (T i),h⟩ μ w a o.dst (X i) h a' w'->wpAny P .any ops Q fuel (listed.setIfInBounds i true) a' w':=by
          rintro a' w' ⟨v,μ',rfl,hN,hx⟩
          obtain⟨FP',hW'⟩:=hN.wr;have hun':=ytp (listed:=listed) (i:=i) (by omega) hli ops.size;rw[if_pos hin]at hun';refine ih _ _ _ (by omega) (by simpa using hsz) ?_ ?_ ⟨μ',FP',hW',hN.tail,?_,?_,?_⟩
          . intro k hk hkn;rw[y0b (by omega),if_neg (by omega)];exact hun k hk hkn
          . intro k ok hko hlk e he hb;rw[y0b (by omega)]at hlk ⊢;by_cases hei:e.on=i
            . rw[if_pos hei]
            . rw[if_neg hei];by_cases hki:k=i
              . subst hki;rw[hio]at hko;cases hko;exact hready e he hb
              . rw[if_neg hki]at hlk;exact hcl k ok hko hlk e he hb
          . cases hd:o.dst<;>simpa [Act.put]using h1
          . cases hd:o.dst<;>simpa [Act.put]using h2
          . intro j hj;by_cases hdj:o.dst=some j
            . rw[hlast i o j him hio hdj m him (Nat.le_refl _)];have hjn:j<a.tmps.size:=by rw[h1];exact hdn i o hio j hdj
              have:(a.put o.dst v).tmps.getD j undef=v:=by simp[hdj,Act.put,hjn]
              rw[this];exact hx
            . have:(a.put o.dst v).tmps.getD j undef=a.tmps.getD j undef:=by
                cases hd:o.dst with
                | none=>rfl
                | some d=>
                  simp only[Act.put,Array.getD_eq_getD_getElem?];rw[Array.getElem?_setIfInBounds_ne (fun e=>hdj (by rw[hd,e]))]
              rw[this];refine hN.tr.rep (h3 j fun k ok hkm hko hl => ?_);by_cases hki:k=i
              . subst hki;rw[hio]at hko;cases hko;exact hdj
              . refine hj k ok hkm hko ?_;rw[y0b (by omega),if_neg hki];exact hl
        unfold wpOp;rw[hio];simp only;split
        . rename_i hw
          rw[if_pos hw]at hrun;exact .inl (Oper.wp_mono hnext hrun)
        . rename_i hw
          rw[if_neg hw]at hrun;exact hnext _ _ hrun
theorem WR.drew {c:Ctx} {μ:Map} {FP:Nat->List Nat} {w:World} (hW:WR c (Hof h) μ FP w):WR c (Hof h) μ FP { w with drawn:=w.drawn+1 }/\Trans c.M0 (Hof h) μ w (Hof h) μ { w with drawn:=w.drawn+1 }:=
 hW.grow (Grow.drew w)
theorem WRs.drew {c:Ctx} {s:St} {a:Act} {w:World} (hs:WRs c s a w):WRs c s a { w with drawn:=w.drawn+1 }:=by
 obtain⟨μ,FP,hW,htl,h1,h2⟩:=hs;obtain⟨hW',hT⟩:=WR.drew hW;exact⟨μ,FP,hW',htl,fun i=>hT.rep (h1 i),h2⟩
theorem yxs (hmix : P.follows .mixedOrders = true) (hΓ : TyOk P Γ) (hD : DOk P D) {id : Nat} {ops : Array Oper} (m : Nat) {s : St} {a : Act} {w : World} {t1 t' : List (Nat × AV)} {h' : List Ent} {ob1 ob : List Prop}
  (hs:WRs c s a w) (hck:yhe ops m=true) (hd:y7c c.nt ops.toList=true) (hq:runQ Γ D ops s.h (ops.toList.take m) s.t=some (t1,ob1)) (ho1:allP ob1)
  (hr:runA Γ D ops (ops.toList.drop m) t1 s.h=some (t',h',ob)) (ho:allP ob) (hQ:∀ a w,WRs c ⟨t',h'⟩ a w->Q .normal a w):(Code.region id ops true).wp P Q a w:=by
 have hok:=y3j hck
 have hdn:∀ (i:Nat) (o:Oper),ops[i]? = some o->∀ d,o.dst=some d->d<c.nt:=by
  intro i o hio d hdd;simp only[y7c,List.all_eq_true]at hd;have hmem:o∈ops.toList:=Array.mem_toList_iff.2 (Array.mem_of_getElem? hio);have:=hd o hmem;rw[hdd]at this;simpa using this
 obtain⟨T,X,hT0,hTn,hT⟩:=yik hq ho1
 have hlen:(ops.toList.take m).length=m:=by
  have:=hok.le;simp;omega
 rw[hlen]at hTn;refine wp_region_any hmix ?_;refine ysu (h:=s.h) hΓ hD hok hdn hQ T X (fun i o him hio=>hT i o ?_) (by rw[hTn];exact hr) ho ops.size _ a _ ?_ (by simp) ?_ ?_ ?_
 ·rw[List.getElem?_take,if_pos him]
  simpa using hio
 ·have:∀ (l:Array Bool) (k:Nat),unl l k<=k:=by
   intro l k
   induction k with
   | zero=>simp[unl]
   | succ k ih=>simp only[unl];cases l.getD k true<;>simp<;>omega
  exact this _ _
 ·intro k _ hk
  simp[Array.getD_eq_getD_getElem?,hk]
 ·intro i o hio hl
  have:i<ops.size:=by
   rcases Nat.lt_or_ge i ops.size with h|h
   ·exact h
   ·rw[Array.getElem?_eq_none h]at hio;cases hio
  simp[Array.getD_eq_getD_getElem?,this]at hl
 ·obtain⟨μ,FP,hW,htl,h1,h2,h3⟩:=hs.drew
  refine⟨μ,FP,hW,htl,h2,h3,?_⟩;intro i hi
  have hnone:∀ (k:Nat),k<=m->get (T k) i=get s.t i:=by
   intro k
   induction k with
   | zero=>intro _;rw[hT0]
   | succ k ih=>
    intro hk;have hkn:k<ops.size:=by have:=hok.le;omega
    have hik:=hi k _ (by omega) (Array.getElem?_eq_getElem hkn) (by simp[Array.getD_eq_getD_getElem?,hkn]);obtain⟨_,hTk⟩:=hT k ops[k] (by rw[List.getElem?_take,if_pos (by omega)];simp[hkn]);rw[hTk]
    cases hdk:ops[k].dst with
    | none=>exact ih (by omega)
    | some d=>
     rw[ykd,if_neg]
     ·exact ih (by omega)
     ·rintro rfl
      exact hik hdk
  rw[hnone m (Nat.le_refl _)];exact h1 i
end
end Go.Ab
namespace Go.Ab
open Go
variable [Inv]
def y51 (c : Ctx) (N : St -> Prop) (E : Nat -> St -> Prop) (R : St -> Prop) : Exit -> Act -> World -> Prop
 | .normal,a,w=>∃ s,N s/\WRs c s a w
 | .exit id,a,w=>∃ s,E id s/\WRs c s a w
 | .ret,a,w=>∃ s,R s/\WRs c s a w
 | _,_,_=>False
structure AWP (P:Program) (c:Ctx) (code:Code) (N:St->Prop) (E:Nat->St->Prop) (R:St->Prop) (s:St):Prop where
 run:∀ a w,WRs c s a w->code.wp P (y51 c N E R) a w
def y1j (id:Nat) (N:St->Prop) (E:Nat->St->Prop):Nat->St->Prop:=fun k s=>bif Nat.beq k id then N s else E k s
theorem yb {id:Nat} {N:St->Prop} {E:Nat->St->Prop} {s:St} (h:N s):y1j id N E id s:=by
 simp only[y1j,Nat.beq_refl,cond_true];exact h
theorem yci {id k:Nat} {N:St->Prop} {E:Nat->St->Prop} {s:St} (hk:Nat.beq k id=false) (h:E k s):y1j id N E k s:=by
 simp only[y1j,hk,cond_false];exact h
def after1 (r:Option (List (Nat×AV)×List Ent×List Prop)) (K:St->Prop):Prop:=
 match r with
 | some (t,h,ob)=>allP ob/\K ⟨t,h⟩
 | none=>False
def run2 (Γ:Env) (D:Dn) (ops:Array Oper) (m:Nat) (s:St):Option (List (Nat×AV)×List Ent×List Prop):=
  match runQ Γ D ops s.h (ops.toList.take m) s.t with
  | some (t1, ob1) => match runA Γ D ops (ops.toList.drop m) t1 s.h with
    | some (t2,h2,ob2)=>some (t2,h2,ob1++ob2)
    | none=>none
  | none=>none
section
variable {P:Program} {Γ:Env} {D:Dn} {c:Ctx} {N:St->Prop} {E:Nat->St->Prop} {R:St->Prop} {s:St}
theorem AWP.mono {code:Code} {N':St->Prop} {E':Nat->St->Prop} {R':St->Prop} (hn:∀ s,N s->N' s) (he:∀ k s,E k s->E' k s) (hr:∀ s,R s->R' s) (h:AWP P c code N E R s):AWP P c code N' E' R' s:=
 ⟨fun a w hs=>wp_mono (h.run a w hs) fun e _ _ hp=>by
  cases e with
  | normal=>obtain⟨s',h1,h2⟩:=hp;exact⟨s',hn s' h1,h2⟩
  | exit id=>obtain⟨s',h1,h2⟩:=hp;exact⟨s',he id s' h1,h2⟩
  | ret=>obtain⟨s',h1,h2⟩:=hp;exact⟨s',hr s' h1,h2⟩
  | _=>exact hp.elim⟩
theorem AWP.skip (h:N s):AWP P c .skip N E R s:=⟨fun _ _ hs=>wp_skip ⟨s,h,hs⟩⟩
theorem AWP.exit {id:Nat} (h:E id s):AWP P c (.exit id) N E R s:=⟨fun _ _ hs=>wp_exit ⟨s,h,hs⟩⟩
theorem AWP.ret (h:R s):AWP P c .ret N E R s:=⟨fun _ _ hs=>wp_ret ⟨s,h,hs⟩⟩
theorem AWP.seq {x y:Code} (h:AWP P c x (AWP P c y N E R) E R s):AWP P c (.seq x y) N E R s:=by
 refine⟨fun a w hs => ?_⟩;refine wp_seq (wp_mono (h.run a w hs) ?_);intro e a w hp
 cases e with
 | normal=>obtain⟨s',h1,h2⟩:=hp;exact h1.run a w h2
 | exit id=>exact hp
 | ret=>exact hp
 | _=>exact hp.elim
theorem AWP.block {id:Nat} {x:Code} (h:AWP P c x N (y1j id N E) R s):AWP P c (.block id x) N E R s:=by
 refine⟨fun a w hs => ?_⟩;refine wp_block (wp_mono (h.run a w hs) ?_);intro e a w hp
 cases e with
 | normal=>exact hp
 | exit id'=>
  simp only[Exit.inBlock];obtain⟨s',h1,h2⟩:=hp;split
  ·rename_i hid;subst hid
   simp only[y1j,Nat.beq_refl,cond_true]at h1;exact⟨s',h1,h2⟩
  ·rename_i hid
   have hb:Nat.beq id' id=false:=by
    cases hq:Nat.beq id' id with
    | false=>rfl
    | true=>exact absurd (Nat.eq_of_beq_eq_true hq) hid
   simp only[y1j,hb,cond_false]at h1;exact⟨s',h1,h2⟩
 | ret=>exact hp
 | _=>exact hp.elim
theorem AWP.cond {o:Operand} {x y:Code} {b:Bool} (ho:opnd s.t o=.bool b) (ht:b=true->AWP P c x N E R s) (hf:b=false->AWP P c y N E R s):AWP P c (.cond o x y) N E R s:=by
 refine⟨fun a w hs => ?_⟩
 have hr:a.eval o=.bool b:=by
  obtain⟨μ,FP,_,_,hT⟩:=hs;have:=ybe hT o;rw[ho]at this;exact this.val_bool
 exact wp_cond_split hr (fun e=>(ht e).run a w hs) (fun e=>(hf e).run a w hs)
theorem AWP.regS {nt : Nat} (hΓ : TyOk P Γ) (hD : DOk P D) (hn : c.nt = nt) {id : Nat} {ops : Array Oper} (hd : y7c nt ops.toList = true)
  (h:∀ K:St->Prop,(∀ s,N s->K s)->after1 (runA Γ D ops ops.toList s.t s.h) K):AWP P c (.region id ops false) N E R s:=by
 refine⟨fun a w hs => ?_⟩;have h:=h _ fun _ h=>h
 unfold after1 at h;split at h
 ·rename_i t' h' ob hr
  exact yit hΓ hD hs hr h.1 (by rw[hn];exact hd) fun a w hs'=>⟨_,h.2,hs'⟩
 ·exact h.elim
theorem AWP.regD {nt : Nat} (hmix : P.follows .mixedOrders = true) (hΓ : TyOk P Γ) (hD : DOk P D) (hn : c.nt = nt) {id : Nat} {ops : Array Oper} (m : Nat) (hck : yhe ops m = true) (hd : y7c nt ops.toList = true)
  (h:∀ K:St->Prop,(∀ s,N s->K s)->after1 (run2 Γ D ops m s) K):AWP P c (.region id ops true) N E R s:=by
 refine⟨fun a w hs => ?_⟩;have h:=h _ fun _ h=>h
 unfold after1 at h;split at h
 ·rename_i t' h' ob hr
  unfold run2 at hr;split at hr
  ·rename_i t1 ob1 hq
   split at hr
   ·rename_i t2 h2 ob2 hr2
    simp only[Option.some.injEq,Prod.mk.injEq]at hr;obtain⟨rfl,rfl,rfl⟩:=hr;obtain⟨ho1,ho2⟩:=yl.1 h.1;exact yxs hmix hΓ hD m hs hck (by rw[hn];exact hd) hq ho1 hr2 ho2 fun a w hs'=>⟨_,h.2,hs'⟩
   ·cases hr
  ·cases hr
 ·exact h.elim
end
def pars : Nat -> List AV -> List (Nat × AV)
 | _,[]=>[]
 | k,x::xs=>(k,x)::pars (k+1) xs
def resA (Γ : Env) (s : St) : List ResultVar -> Option (List AV × List Prop)
  | []=>some ([],[])
  | .tmp t :: rs => match resA Γ s rs with
    | some (xs,ob)=>some (get s.t t::xs,ob)
    | none=>none
  | .cell a t :: rs => match loadOp Γ s.h t (get s.t a) with
    | some (x, o1) => match resA Γ s rs with
      | some (xs,ob)=>some (x::xs,o1++ob)
      | none=>none
    | none=>none
def packA : List AV -> AV
 | [y]=>y
 | ys=>.tup ys
mutual
def simO : AV -> AV -> Prop
 | .sl o e n f,.sl o' e' n' f'=>o=o'/\e=e'/\n=n'/\∀ i,i<n->simOL (f i) (f' i)
 | .agg cs,.agg cs'=>simOL cs cs'
 | .op cs,.op cs'=>simOL cs cs'
 | .ep cs,.ep cs'=>simOP cs cs'
 | .tup cs,.tup cs'=>simOL cs cs'
 | .int k n,.int k' n'=>k=k'/\n=n'
 | .bool b,.bool b'=>b=b'
 | .str b,.str b'=>b=b'
 | .nils,.nils=>True
 | .nils,.sl none _ n' _=>n'=0
 | .nils,.sl (some _) _ n' _=>n'=0
 | x,x'=>x=x'
def simOL : List AV -> List AV -> Prop
 | [],[]=>True
 | x::xs,x'::xs'=>simO x x'/\simOL xs xs'
 | _,_=>False
def simOP : List AV -> List AV -> Prop
 | _,[]=>True
 | x::xs,x'::xs'=>simO x x'/\simOP xs xs'
 | [],_::_=>False
end
mutual
theorem yoc : ∀ x : AV, simO x x
 | .sl o e n f=>by simp only[simO];exact⟨trivial,trivial,trivial,fun i _=>yp (f i)⟩
 | .agg cs=>by simp only[simO];exact yp cs
 | .op cs=>by simp only[simO];exact yp cs
 | .tup cs=>by simp only[simO];exact yp cs
 | .int _ _=>by simp[simO]
 | .bool _=>by simp[simO]
 | .str _=>by simp[simO]
 | .nils=>by simp[simO]
 | .ref .. => by simp[simO]
 | .ptr .. => by simp[simO]
 | .pe .. => by simp[simO]
 | .ep cs=>by simp only[simO];exact y5h cs
 | .fn .. => by simp[simO]
 | .gd .. => by simp[simO]
 | .any=>by simp[simO]
 | .lit .. => by simp[simO]
theorem yp : ∀ xs : List AV, simOL xs xs
 | []=>by simp[simOL]
 | x::xs=>by simp only[simOL];exact⟨yoc x,yp xs⟩
theorem y5h : ∀ xs : List AV, simOP xs xs
 | []=>by simp[simOP]
 | x::xs=>by simp only[simOP];exact⟨yoc x,y5h xs⟩
end
mutual
theorem y9c {w : World} {M : Nat -> Prop} {μ : Map} : ∀ (x x' : AV) {v : Value} {fp : List Nat}, simO x x' -> Rep w M x μ v fp -> Rep w M x' μ v fp
 | .sl o e n f,x',v,fp,hs,h=>by
  cases x' with
  | sl o' e' n' f'=>
   simp only[simO]at hs;obtain⟨rfl,rfl,rfl,hf⟩:=hs;simp only[Rep]at h ⊢;rcases h with h|⟨b,o,cap,us,fps,hv,hn,hb,hc,ho⟩
   ·exact .inl h
   ·exact .inr ⟨b,o,cap,us,fps,hv,hn,hb,fun i hi=>⟨yvb (f i) (f' i) (hf i hi) (hc i hi).1,(hc i hi).2⟩,ho⟩
  | _=>simp[simO]at hs
 | .agg cs,x',v,fp,hs,h=>by
  cases x' with
  | agg cs'=>
   simp only[simO]at hs;simp only[Rep]at h ⊢;obtain⟨us,e,h⟩:=h;exact⟨us,e,yvb cs cs' hs h⟩
  | _=>simp[simO]at hs
 | .op cs,x',v,fp,hs,h=>by
  cases x' with
  | op cs'=>
   simp only[simO]at hs;simp only[Rep]at h ⊢;obtain⟨b,us,T,e,e2,hb,hh,hone,hr⟩:=h;exact⟨b,us,T,e,e2,hb,hh,hone,yvb cs cs' hs hr⟩
  | _=>simp[simO]at hs
 | .tup cs,x',v,fp,hs,h=>by
  cases x' with
  | tup cs'=>
   simp only[simO]at hs;simp only[Rep]at h ⊢;obtain⟨us,e,h⟩:=h;exact⟨us,e,yvb cs cs' hs h⟩
  | _=>simp[simO]at hs
 | .int k n,x',v,fp,hs,h=>by
  cases x' with
  | int k' n'=>simp only[simO]at hs;obtain⟨rfl,rfl⟩:=hs;exact h
  | _=>simp[simO]at hs
 | .bool k,x',v,fp,hs,h=>by
  cases x' with
  | bool k'=>simp only[simO]at hs;subst hs;exact h
  | _=>simp[simO]at hs
 | .str k,x',v,fp,hs,h=>by
  cases x' with
  | str k'=>simp only[simO]at hs;subst hs;exact h
  | _=>simp[simO]at hs
 | .nils,x',v,fp,hs,h=>by
  cases x' with
  | nils=>exact h
  | sl o e n f=>
   have hn:n=0:=by cases o<;>simpa only[simO]using hs
   subst hn;simp only[Rep]at h ⊢;exact .inl ⟨trivial,by rw[h.1];exact emptyV.nil o,h.2⟩
  | _=>simp[simO]at hs
 | .ref ..,x',v,fp,hs,h=>by cases x'<;>simp[simO]at hs;obtain⟨rfl,rfl,rfl,rfl⟩:=hs;exact h
 | .ptr ..,x',v,fp,hs,h=>by cases x'<;>simp[simO]at hs;obtain⟨rfl,rfl⟩:=hs;exact h
 | .pe ..,x',v,fp,hs,h=>by cases x'<;>simp[simO]at hs;obtain⟨rfl,rfl,rfl,rfl⟩:=hs;exact h
 | .ep cs,x',v,fp,hs,h=>by
  cases x' with
  | ep cs'=>
   simp only[simO]at hs;simp only[Rep]at h ⊢;obtain⟨e0,b,o,us,e,hb,hm,hr,hc⟩:=h;obtain⟨us',r,hus,hr'⟩:=ykp cs cs' hs hr;refine⟨e0,b,o,us',e,hb,hm,hr',fun j u hu=>hc j u ?_⟩;have hj:=(List.getElem?_eq_some_iff.1 hu).1;rw[hus,List.getElem?_append_left hj];exact hu
  | _=>simp[simO]at hs
 | .fn ..,x',v,fp,hs,h=>by cases x'<;>simp[simO]at hs;obtain⟨rfl,rfl,rfl⟩:=hs;exact h
 | .lit ..,x',v,fp,hs,h=>by cases x'<;>simp[simO]at hs;obtain⟨rfl,rfl⟩:=hs;exact h
 | .gd ..,x',v,fp,hs,h=>by cases x'<;>simp[simO]at hs;obtain⟨rfl,rfl⟩:=hs;exact h
 | .any,x',v,fp,hs,h=>by cases x'<;>simp[simO]at hs;exact h
theorem yvb {w : World} {M : Nat -> Prop} {μ : Map} : ∀ (xs xs' : List AV) {us : List Value} {fp : List Nat}, simOL xs xs' -> RepL w M xs μ us fp -> RepL w M xs' μ us fp
 | [],xs',us,fp,hs,h=>by cases xs'<;>simp only[simOL]at hs;exact h
 | x::xs,xs',us,fp,hs,h=>by
  cases xs'<;>simp only[simOL]at hs
  simp only[RepL]at h ⊢;obtain⟨u,us',f1,f2,rfl,rfl,h1,h2⟩:=h;exact⟨u,us',f1,f2,rfl,rfl,y9c x _ hs.1 h1,yvb xs _ hs.2 h2⟩
theorem ykp {w : World} {M : Nat -> Prop} {μ : Map} : ∀ (xs xs' : List AV) {us : List Value}, simOP xs xs' -> RepL w M xs μ us [] -> ∃ us' r, us = us' ++ r /\ RepL w M xs' μ us' []
 | xs,[],us,hs,h=>⟨[],us,rfl,by simp[RepL]⟩
 | [],x'::xs',us,hs,h=>by simp only[simOP]at hs
 | x::xs,x'::xs',us,hs,h=>by
  simp only[simOP]at hs;simp only[RepL]at h;obtain⟨u,us0,f1,f2,rfl,e,h1,h2⟩:=h;obtain⟨rfl,rfl⟩:=List.append_eq_nil_iff.1 e.symm;obtain⟨us',r,rfl,h3⟩:=ykp xs xs' hs.2 h2;refine⟨u::us',r,rfl,?_⟩;simp only[RepL];exact⟨u,us',[],[],rfl,rfl,y9c x _ hs.1 h1,h3⟩
end
def Ends (Γ:Env) (rs:List ResultVar) (r:AV) (s:St):Prop:=
  match resA Γ s rs with
  | some (xs, o1) => match absVL s.h xs with
    | some (ys,_,ob)=>allP o1/\allP ob/\(NoBorL ys\/FlatOL ys)/\simO (packA ys) r
    | none=>False
  | none=>False
mutual
theorem y70 {w : World} {M : Nat -> Prop} : ∀ (x : AV) {μ : Map} {v : Value} {fp : List Nat}, noId x = true -> Rep w M x μ v fp -> fp = []
 | .sl (some _) _ _ _,_,_,_,hn,_=>by simp[noId]at hn
 | .op _,_,_,_,hn,_=>by simp[noId]at hn
 | .agg cs,_,_,_,hn,h=>by
  simp only[Rep,noId]at h hn;obtain⟨us,_,h⟩:=h;exact ylf cs hn h
 | .tup cs,_,_,_,hn,h=>by
  simp only[Rep,noId]at h hn;obtain⟨us,_,h⟩:=h;exact ylf cs hn h
 | .sl none e n f,_,_,_,_,h=>NoOwn.fp (.sl none e n f) (by simp[NoOwn]) h
 | .int a b,_,_,_,_,h=>NoOwn.fp (.int a b) (by simp[NoOwn]) h
 | .bool a,_,_,_,_,h=>NoOwn.fp (.bool a) (by simp[NoOwn]) h
 | .str a,_,_,_,_,h=>NoOwn.fp (.str a) (by simp[NoOwn]) h
 | .nils,_,_,_,_,h=>NoOwn.fp .nils (by simp[NoOwn]) h
 | .any,_,_,_,hn,_=>by simp[noId]at hn
 | .lit ..,_,_,_,hn,_=>by simp[noId]at hn
 | .ref ..,_,_,_,hn,_=>by simp[noId]at hn
 | .ptr ..,_,_,_,hn,_=>by simp[noId]at hn
 | .pe ..,_,_,_,hn,_=>by simp[noId]at hn
 | .gd ..,_,_,_,hn,_=>by simp[noId]at hn
 | .ep cs,_,_,_,_,h=>NoOwn.fp (.ep cs) (by simp[NoOwn]) h
 | .fn f k cs,_,_,_,_,h=>NoOwn.fp (.fn f k cs) (by simp[NoOwn]) h
theorem ylf {w : World} {M : Nat -> Prop} : ∀ (xs : List AV) {μ : Map} {us : List Value} {fp : List Nat}, noIdL xs = true -> RepL w M xs μ us fp -> fp = []
 | [],_,_,_,_,h=>by simp only[RepL]at h;exact h.2
 | x::xs,_,_,_,hn,h=>by
  simp only[RepL,noIdL]at h hn
  cases hx:noId x with
  | false=>simp[hx]at hn
  | true=>
   simp only[hx]at hn;obtain⟨u,us',f1,f2,_,rfl,h1,h2⟩:=h;rw[y70 x hx h1,ylf xs hn h2];rfl
end
section
variable {P:Program}
theorem yce {w : World} {M : Nat -> Prop} {μ : Map} : ∀ {xs : List AV} {vs : List Value} (k i : Nat) (rest : List Value), RepL w M xs μ vs [] -> k <= i -> Rep w M (get (pars k xs) i) μ (((vs ++ rest)[i - k]?).getD undef) []
 | [],vs,k,i,rest,h,hi=>by simp[pars,get,Rep]
 | x::xs,vs,k,i,rest,h,hi=>by
  simp only[RepL]at h;obtain⟨u,us',f1,f2,rfl,e2,h1,h2⟩:=h;obtain⟨rfl,rfl⟩:=List.append_eq_nil_iff.1 e2.symm;simp only[pars,get]
  cases hb:Nat.beq i k with
  | true=>
   have:=Nat.eq_of_beq_eq_true hb;subst this;simpa using h1
  | false=>
   have hne:i≠k:=by rintro rfl;simp at hb
   have:=yce (k+1) i rest h2 (by omega);have e:i-k=(i-(k+1))+1:=by omega
   rw[e];simpa using this
theorem ypi {w:World} {t:TypeId} {u z:Value} (h:(Instr.loadAt t u).run P w=.ok z w):(do loadVar t (<- asAddr u):Sem Value).run P w=.ok z w:=by
 unfold Instr.loadAt Instr.sureAddr at h;split at h
 ·simpa [asAddr]using h
 ·simp at h
theorem y5f {Γ : Env} (hΓ : TyOk P Γ) {c : Ctx} {μ : Map} {FP : Nat -> List Nat} {w : World} {s : St} (hW : WR c (Hof s.h) μ FP w) (tmps : Array Value) (h : ∀ i, Rep w (hot c.M0 (Hof s.h) μ) (get s.t i) μ (tmps.getD i undef) [])
  {g:ResultVar->Sem Value} (hg:∀ t,g (.tmp t)=pure (tmps.getD t undef)) (hg2:∀ a t,g (.cell a t)=do loadVar t (<- asAddr (tmps.getD a undef))):∀ {rs:List ResultVar} {xs:List AV} {ob:List Prop},resA Γ s rs=some (xs,ob)->allP ob ->
  ∃ us,(rs.mapM g).run P w=.ok us w/\RepL w (hot c.M0 (Hof s.h) μ) xs μ us []
 | [],xs,ob,hr,_=>by
  simp only[resA,Option.some.injEq,Prod.mk.injEq]at hr;obtain⟨rfl,_⟩:=hr;exact⟨[],rfl,by simp[RepL]⟩
 | .tmp t::rs,xs,ob,hr,ho=>by
  simp only[resA]at hr
  cases h1:resA Γ s rs with
  | none=>simp[h1]at hr
  | some p=>
   obtain⟨xs',ob'⟩:=p;simp only[h1,Option.some.injEq,Prod.mk.injEq]at hr;obtain⟨rfl,rfl⟩:=hr;obtain⟨us,h2,h3⟩:=y5f hΓ hW tmps h hg hg2 h1 ho;refine⟨tmps.getD t undef::us,?_,?_⟩
   ·rw[List.mapM_cons,Sem.run_bind,hg]
    simp only[Sem.run_pure,Result.andThen_ok,Sem.run_bind,h2]
   ·simp only[RepL]
    exact⟨_,_,[],[],rfl,rfl,h t,h3⟩
 | .cell a t::rs,xs,ob,hr,ho=>by
  simp only[resA]at hr
  cases h0:loadOp Γ s.h t (get s.t a)with
  | none=>simp[h0]at hr
  | some q=>
   obtain⟨x,o1⟩:=q;simp only[h0]at hr
   cases h1:resA Γ s rs with
   | none=>simp[h1]at hr
   | some p=>
    obtain⟨xs',ob'⟩:=p;simp only[h1,Option.some.injEq,Prod.mk.injEq]at hr;obtain⟨rfl,rfl⟩:=hr;obtain⟨ho1,ho2⟩:=yl.1 ho;obtain⟨us,h2,h3⟩:=y5f hΓ hW tmps h hg hg2 h1 ho2;obtain⟨z,h4,h5⟩:=y6h (P:=P) hΓ hW (h:=s.h) (fun i _ he _=>he) h0 ho1 (h a);refine⟨z::us,?_,?_⟩
    ·rw[List.mapM_cons,Sem.run_bind,hg2,ypi h4]
     simp only[Sem.run_pure,Result.andThen_ok,Sem.run_bind,h2]
    ·simp only[RepL]
     exact⟨_,_,[],[],rfl,rfl,h5,h3⟩
theorem ydf {w:World} {M:Nat->Prop} {ys:List AV} {us:List Value} {fp:List Nat} (h:RepL w M ys noMap us fp) :
  Rep w M (packA ys) noMap (if h:us.toArray.size=1 then us.toArray[0]else .tuple us.toArray) fp:=by
 match ys,us,h with
 | [],us,h=>
  simp only[RepL]at h;obtain⟨rfl,rfl⟩:=h;simp[packA,Rep,RepL]
 | [y],us,h=>
  simp only[RepL]at h;obtain⟨u,us',f1,f2,rfl,rfl,h1,rfl,rfl⟩:=h;simpa [packA]using h1
 | y::z::ys,us,h=>
  have hl:=h.length;have hne:¬ us.toArray.size=1:=by simp[hl]
  rw[dif_neg hne];simp only[packA,Rep];exact⟨us,rfl,h⟩
theorem ydw {f : FuncId} {fn : Func} {code : Code} {xs : List AV} {r : AV} {N : Nat} {rs : List ResultVar} {Γ : Env} (hΓ : TyOk P Γ) (hf : P.funcs[f]? = some fn) (hname : (fn.name == "runtime.NumGoroutine") = false) (hb : fn.body = some code)
  (hN:fn.ntmps=N) (hr:fn.results.toList=rs) (hlen:xs.length<=N) (hx:noIdL xs=true) (h:∀ c:Ctx,ydc xs->c.nt=N->c.k0=0->AWP P c code (Ends Γ rs r) (fun _ _=>False) (Ends Γ rs r) ⟨pars 0 xs,[]⟩):Den P f xs r:=by
 refine⟨⟨fn,hf,hname,by rw[hb];rfl⟩,?_⟩;intro w M vs fpA hI hIM hA hAn hAm hM;have hfpA:fpA=[]:=ylf xs hx hA;subst hfpA
 have htop:yx xs vs=[]:=by
  apply List.eq_nil_iff_forall_not_mem.2;intro b hb;have:=yzb xs hA b hb;simp at this
 rw[htop]at hA ⊢;let c:Ctx:={ w0:=w,M0:=M,F0:=[],T0:=[],mu0:=noMap,k0:=0,base0:=by simp[noMap],nt:=N,cold0:=fun b hb=>⟨hM b hb,by simp⟩,own0:=by simp,top0:=by simp,inv0:=hI,invM:=fun b hb=>⟨(hIM b hb).1,by simp⟩}
 have hhot:∀ b,hot c.M0 (Hof []) noMap b->M b:=by
  rintro b (hb|⟨id,cap,e,hm,_⟩)
  ·exact hb
  ·cases hm
 have hA':RepL w (hot c.M0 (Hof []) noMap) xs noMap vs []:=yuc (fun b hb=>.inl (hhot b hb)) hA;have hvl:=hA.length;refine calls_of_wp hf hb ?_;refine wp_mono ((h c (RepL.lens xs hA) rfl rfl).run _ _ ⟨noMap,fun _=>[],⟨⟨rfl,rfl,rfl,Nat.le_refl _,fun _ _ _=>rfl⟩,Map.le_refl _,?_,?_,?_,?_,?_,?_⟩,?_,?_,?_,rfl⟩) ?_
 ·intro id L hm;cases hm
 ·intro _ _;rfl
 ·intro _;simp
 ·intro i j _ b hb;simp at hb
 ·intro i b hb;simp at hb
 ·intro id b cap e hm;cases hm
 ·intro _ _;rfl
 ·intro i
  have:=yce (k:=0) (i:=i) (rest:=(Array.replicate (fn.ntmps-vs.toArray.size) undef).toList) hA' (Nat.zero_le _)
  have e:(vs.toArray++Array.replicate (fn.ntmps-vs.toArray.size) undef).getD i undef=(((vs++(Array.replicate (fn.ntmps-vs.toArray.size) undef).toList)[i-0]?).getD undef):=by
   rw[Array.getD_eq_getD_getElem?, <- Array.getElem?_toList];simp
  rw[e];exact this
 ·simp only[Array.size_append,List.size_toArray,Array.size_replicate]
  show vs.length+(fn.ntmps-vs.length)=N;omega
 ·intro e a w' hp
  have main:∀ s',Ends Γ rs r s'->WRs c s' a w'->bodyPost P fn (fun e w'=>∃ v fpR,e=.returned v/\Keep w [] w'/\Rep w' (fun b=>M b\/b∈fpR) r noMap v fpR/\fpR.Nodup /\
    (∀ b,b∈fpR->(b∈([]:List Nat)\/w.heap.size<=b)/\b<w'.heap.size)/\(∀ b,b∈tops r v->b∈([]:List Nat)\/w.heap.size<=b)) .ret a w':=by
   intro s' hE hs';simp only[Ends]at hE;split at hE
   ·rename_i xs0 o1 hres0
    split at hE
    ·rename_i ys h' ob habs
     obtain⟨ho1,ho,hflat,hpack⟩:=hE;obtain⟨μ,FP,hW,htl,h1,h2,h3⟩:=hs'
     have hmap:∃ us,(fn.results.toList.mapM (fun|.tmp t=>pure (a.tmps.getD t undef)|.cell b t=>do loadVar t (<- asAddr (a.tmps.getD b undef)):ResultVar->Sem Value)).run P w'=.ok us w'/\RepL w' (hot c.M0 (Hof s'.h) μ) xs0 μ us []:=by
      rw[hr];exact y5f hΓ hW a.tmps h1 (fun _=>rfl) (fun _ _=>rfl) hres0 ho1
     obtain⟨us,hrun,hres⟩:=hmap;obtain⟨K,fp,hr1,hgone,hown⟩:=ymd hW (fun _ _ he _=>he) hres habs ho;have htops:=yod (fun _ _ he _=>he) hres habs
     have hnew:∀ b,b∈fp->w.heap.size<=b/\b<w'.heap.size:=by
      intro b hb;obtain⟨id,_,hid⟩:=hown.2 b hb;have:=hW.new id b hid;exact⟨this.1.resolve_left (by simp[c]),this.2⟩
     have hrL:RepL w' (fun b=>M b\/b∈fp) ys noMap us fp:=by
      rcases hflat with hnb|hfl
      ·exact RepL.noBor ys hnb hr1
      ·refine RepL.mono ys (Map.le_refl _) ⟨Nat.le_refl _,fun b _ hb hh=>hb ?_,fun _ _ _=>rfl⟩ hr1
       rcases hh with hh|hh
       ·exact .inl hh
       ·exact htops b (FlatOL.tops ys hfl hr1 b hh)
     refine⟨h3,(if h:us.toArray.size=1 then us.toArray[0]else .tuple us.toArray),?_,_,fp,rfl,hW.keep,?_,hown.1,fun b hb=>⟨.inr (hnew b hb).1,(hnew b hb).2⟩,?_⟩
     ·unfold results
      rw[Sem.run_bind, <- Array.toArray_toList (xs:=fn.results),List.mapM_toArray];simp only[Sem.run_map];erw [hrun]
      rfl
     ·exact y9c _ _ hpack (ydf hrL)
     ·intro b hb
      right
      exact(hnew b (y2f r (y9c _ _ hpack (ydf hrL)) b hb)).1
    ·exact hE.elim
   ·exact hE.elim
  cases e with
  | normal=>obtain⟨s',h1,h2⟩:=hp;exact main s' h1 h2
  | ret=>obtain⟨s',h1,h2⟩:=hp;exact main s' h1 h2
  | exit id=>obtain⟨s',h1,h2⟩:=hp;exact h1.elim
  | _=>exact hp.elim
end
end Go.Ab
namespace Go.Ab
open Go
variable [Inv]
omit [Inv]in
theorem nbeq (a b:Nat):Nat.beq a b=(a == b):=Bool.eq_iff_iff.2 (by simp)
def rho (n0 : Nat) : List Nat -> Nat -> Nat
 | [],j=>n0+j
 | i::_,0=>i
 | _::l,j+1=>rho (n0+1) l j
mutual
def simA (ρ : Nat -> Nat) : AV -> AV -> Prop
 | _,.any=>True
 | .int k n,.int k' n'=>k=k'/\n=n'
 | .bool b,.bool b'=>b=b'
 | .str l,.str l'=>l=l'
 | .nils,.nils=>True
 | .agg cs,.agg cs'=>simL ρ cs cs'
 | .tup cs,.tup cs'=>simL ρ cs cs'
 | .sl o e n f,.sl o' e' n' f'=>o=o'/\e=e'/\n=n'/\∀ i,i<n->f i=f' i
 | .ref id e off n,.ref id' e' off' n'=>id=ρ id'/\e=e'/\off=off'/\n=n'
 | .ptr id o,.ptr id' o'=>id=ρ id'/\o=o'
 | .pe id e i o,.pe id' e' i' o'=>id=ρ id'/\e=e'/\i=i'/\o=o'
 | .ep cs,.ep cs'=>cs=cs'
 | .fn f k cs,.fn f' k' cs'=>f=f'/\k=k'/\simL ρ cs cs'
 | .gd gs x,.gd gs' x'=>gs=gs'/\simA ρ x x'
 | .lit u x,.lit u' x'=>u=u'/\x=x'
 | _,_=>False
def simL (ρ : Nat -> Nat) : List AV -> List AV -> Prop
 | [],[]=>True
 | x::xs,x'::xs'=>simA ρ x x'/\simL ρ xs xs'
 | _,_=>False
end
def simE (ρ : Nat -> Nat) : Ent -> Ent -> Prop
 | _,.dead=>True
 | .box cs,.box cs'=>simL ρ cs cs'
 | .it l p m,.it l' p' m'=>l=l'/\p=p'/\m=m'
 | .arr T e n f,.arr T' e' n' f'=>T=T'/\e=e'/\n=n'/\∀ i,i<n->f i=f' i/\pureL (f' i)=true
 | _,_=>False
def simH (ρ : Nat -> Nat) (h : List Ent) : Nat -> List Ent -> Prop
  | _,[]=>True
  | j, e' :: h' => (match nthE h (ρ j) with
    | some e=>simE ρ e e'
    | none=>False)/\simH ρ h (j+1) h'
def simT (ρ : Nat -> Nat) (t : List (Nat × AV)) : List (Nat × AV) -> Prop
 | []=>True
 | (i,x')::t'=>simA ρ (get t i) x'/\simT ρ t t'
def simS (rl:List Nat) (s s':St):Prop:=
 rl.length=s'.h.length/\rl.Nodup/\simH (rho s.h.length rl) s.h 0 s'.h/\simT (rho s.h.length rl) s.t s'.t
theorem y4z : ∀ (n0 : Nat) (rl : List Nat) (j : Nat), rl.length <= j -> n0 <= rho n0 rl j
 | n0,[],j,_=>by simp[rho]
 | n0,i::l,0,h=>by simp at h
 | n0,i::l,j+1,h=>by
  simp only[rho];have:=y4z (n0+1) l j (by simpa using h);omega
theorem yeq : ∀ (n0 : Nat) (rl : List Nat) (j : Nat), j < rl.length -> rl[j]? = some (rho n0 rl j)
 | n0,[],j,h=>by simp at h
 | n0,i::l,0,h=>by simp[rho]
 | n0,i::l,j+1,h=>by
  simp only[rho,List.getElem?_cons_succ];exact yeq (n0+1) l j (by simpa using h)
section
variable {w:World} {M M':Nat->Prop} {μ:Map} {ρ:Nat->Nat}
mutual
theorem y7l (hM : ∀ b, M' b -> M b) : ∀ (x' x : AV) {v : Value}, simA ρ x x' -> Rep w M x μ v [] -> Rep w M' x' (fun j => μ (ρ j)) v []
 | .any,x,v,hs,h=>by simp[Rep]
 | .lit u' y',x,v,hs,h=>by
  cases x<;>simp only[simA]at hs
  obtain⟨rfl,rfl⟩:=hs;simp only[Rep]at h ⊢;exact⟨trivial,h.2.1,yqc hM h.2.2⟩
 | .int k' n',x,v,hs,h=>by
  cases x<;>simp only[simA]at hs
  obtain⟨rfl,rfl⟩:=hs;simpa only[Rep]using h
 | .bool b',x,v,hs,h=>by
  cases x<;>simp only[simA]at hs
  subst hs;simpa only[Rep]using h
 | .str b',x,v,hs,h=>by
  cases x<;>simp only[simA]at hs
  subst hs;simpa only[Rep]using h
 | .nils,x,v,hs,h=>by
  cases x<;>simp only[simA]at hs
  simpa only[Rep]using h
 | .op cs',x,v,hs,h=>by
  cases x<;>simp only[simA]at hs
 | .agg cs',x,v,hs,h=>by
  cases x<;>simp only[simA]at hs
  simp only[Rep]at h ⊢;obtain⟨us,e,h⟩:=h;exact⟨us,e,yxg hM cs' _ hs h⟩
 | .tup cs',x,v,hs,h=>by
  cases x<;>simp only[simA]at hs
  simp only[Rep]at h ⊢;obtain⟨us,e,h⟩:=h;exact⟨us,e,yxg hM cs' _ hs h⟩
 | .sl o' e' n' f',x,v,hs,h=>by
  cases x<;>simp only[simA]at hs
  obtain⟨rfl,rfl,rfl,hf⟩:=hs;have h:=yqc hM h;simp only[Rep]at h ⊢;rcases h with h|⟨b,o,cap,us,fps,hv,hn,hb,hc,ho⟩
  ·exact .inl h
  ·exact .inr ⟨b,o,cap,us,fps,hv,hn,hb,fun i hi=>by rw[<- hf i hi];exact hc i hi,ho⟩
 | .ref id' e' off' n',x,v,hs,h=>by
  cases x<;>simp only[simA]at hs
  obtain⟨rfl,rfl,rfl,rfl⟩:=hs;simpa only[Rep]using h
 | .ptr id' o',x,v,hs,h=>by
  cases x<;>simp only[simA]at hs
  obtain⟨rfl,rfl⟩:=hs;simpa only[Rep]using h
 | .pe id' e' i' o',x,v,hs,h=>by
  cases x<;>simp only[simA]at hs
  obtain⟨rfl,rfl,rfl,rfl⟩:=hs;simpa only[Rep]using h
 | .ep cs',x,v,hs,h=>by
  cases x<;>simp only[simA]at hs
  subst hs;have h:=yqc hM h;simpa only[Rep]using h
 | .fn f' k' cs',x,v,hs,h=>by
  cases x<;>simp only[simA]at hs
  obtain⟨rfl,rfl,hs⟩:=hs;simp only[Rep]at h ⊢;obtain⟨e0,us,e,h⟩:=h;exact⟨e0,us,e,yxg hM cs' _ hs h⟩
 | .gd gs' x',x,v,hs,h=>by
  cases x<;>simp only[simA]at hs
  obtain⟨rfl,hs⟩:=hs;simp only[Rep]at h ⊢;exact⟨h.1,fun hg=>y7l hM x' _ hs (h.2.1 hg),h.2.2⟩
theorem yxg (hM : ∀ b, M' b -> M b) : ∀ (xs' xs : List AV) {us : List Value}, simL ρ xs xs' -> RepL w M xs μ us [] -> RepL w M' xs' (fun j => μ (ρ j)) us []
 | [],xs,us,hs,h=>by
  cases xs<;>simp only[simL]at hs
  simpa only[RepL]using h
 | x'::xs',xs,us,hs,h=>by
  cases xs<;>simp only[simL]at hs
  simp only[RepL]at h ⊢;obtain⟨u,us',f1,f2,rfl,e2,h1,h2⟩:=h;obtain⟨rfl,rfl⟩:=List.append_eq_nil_iff.1 e2.symm;exact⟨u,us',[],[],rfl,rfl,y7l hM x' _ hs.1 h1,yxg hM xs' _ hs.2 h2⟩
end
theorem y0q {h : List Ent} : ∀ {h' : List Ent} {k j : Nat} {e' : Ent}, simH ρ h k h' -> nthE h' j = some e' -> ∃ e, nthE h (ρ (k + j)) = some e /\ simE ρ e e'
 | [],k,j,e',_,he=>by simp[nthE]at he
 | x::h',k,j,e',hs,he=>by
  simp only[simH]at hs;rw[yfb]at he
  cases j with
  | zero=>
   simp only[List.getElem?_cons_zero,Option.some.injEq]at he;subst he;have:=hs.1;split at this
   ·rename_i e heq;exact⟨e,heq,this⟩
   ·exact this.elim
  | succ j=>
   simp only[List.getElem?_cons_succ]at he;have:=y0q (j:=j) hs.2 (by rw[yfb];exact he);have e:k+(j+1)=k+1+j:=by omega
   rw[e];exact this
theorem yjs {t : List (Nat × AV)} : ∀ {t' : List (Nat × AV)} (i : Nat), simT ρ t t' -> simA ρ (get t i) (get t' i)
 | [],i,_=>by simp[get,simA]
 | (j,x')::t',i,hs=>by
  simp only[simT]at hs;simp only[get]
  cases hb:Nat.beq i j with
  | true=>
   have:=Nat.eq_of_beq_eq_true hb;subst this;exact hs.1
  | false=>exact yjs i hs.2
theorem ycn {e e':Ent} (hs:simE ρ e e') (hl:e'.live=true):e.live=true:=by
 cases e'<;>cases e<;>simp_all[simE,Ent.live]
theorem ym0 {e e':Ent} {L:Loc} {fp:List Nat} (hM:∀ b,M' b->M b) (hs:simE ρ e e') (h:yhb w M μ e L fp):yhb w M' (fun j=>μ (ρ j)) e' L (match e' with|.dead=>[]|_=>fp):=by
 cases e' with
 | dead=>simp[yhb]
 | box cs'=>
  cases e<;>simp only[simE]at hs
  simp only[yhb]at h ⊢;obtain⟨b,cap,us,T,h1,h2,h3,h4,h5⟩:=h;exact⟨b,cap,us,T,h1,h2,h3,h4,yxg hM _ _ hs h5⟩
 | it l p m=>
  cases e<;>simp only[simE]at hs
  obtain⟨rfl,rfl,rfl⟩:=hs;simpa only[yhb]using h
 | arr T' e' n' f'=>
  cases e<;>simp only[simE]at hs
  obtain⟨rfl,rfl,rfl,hf⟩:=hs
  cases L with
  | nil=>simpa only[yhb]using h
  | blk b cap=>
   simp only[yhb]at h ⊢;obtain⟨cur,us,fps,h1,h2,h3,h4,h5,h6⟩:=h;refine⟨cur,us,fps,h1,h2,h3,h4,fun i hi => ?_,h6⟩;have hq:=(hf i hi).2;rw[<- (hf i hi).1]at hq ⊢;exact⟨RepL.mono _ (Map.le_refl _) ⟨Nat.le_refl _,fun b _ hb h'=>hb (hM b h'),fun _ _ _=>rfl⟩ (ypb _ hq (h5 i hi).1),(h5 i hi).2⟩
end
def rlFix : Nat -> Nat -> List Nat -> Bool
 | 0,_,_=>true
 | k+1,j,i::l=>Nat.beq i j && rlFix k (j+1) l
 | _+1,_,[]=>false
theorem ymo : ∀ {k j0 : Nat} {rl : List Nat} (n0 : Nat), rlFix k j0 rl = true -> ∀ j, j < k -> rho n0 rl j = j0 + j
 | 0,_,_,_,_,j,h=>by omega
 | k+1,_,[],_,h,_,_=>by simp[rlFix]at h
 | k+1,j0,i::l,n0,h,j,hj=>by
  simp only[rlFix,Bool.and_eq_true]at h
  cases j with
  | zero=>simpa [rho]using Nat.eq_of_beq_eq_true h.1
  | succ j=>
   simp only[rho];rw[ymo (n0+1) h.2 j (by omega)];omega
def simK (k:Nat) (rl:List Nat) (s s':St):Prop:=rlFix k 0 rl=true/\simS rl s s'
theorem WRs.sim {c:Ctx} {rl:List Nat} {s s':St} {a:Act} {w:World} (hsim:simK c.k0 rl s s') (hs:WRs c s a w):WRs c s' a w:=by
 obtain⟨hfix,hlen,hnd,hH,hT⟩:=hsim;have hfix:=ymo s.h.length hfix;obtain⟨μ,FP,hW,htl,h1,h2,h3⟩:=hs;generalize hρ:rho s.h.length rl=ρ at hH hT hfix;have hbig:∀ j,rl.length<=j->μ (ρ j)=none:=fun j hj=>htl _ (by rw[<- hρ];exact y4z _ _ _ hj)
 have hinj:∀ i j,i≠j->i<rl.length->j<rl.length->ρ i≠ρ j:=by
  intro i j hij hi hj e;have e1:=yeq s.h.length rl i hi;have e2:=yeq s.h.length rl j hj;rw[hρ]at e1 e2;rw[e]at e1;exact hij ((List.getElem?_inj hi hnd).1 (by rw[e1,e2]))
 have hsmall:∀ j,j<rl.length->∃ e e',nthE s'.h j=some e'/\nthE s.h (ρ j)=some e/\simE ρ e e':=by
  intro j hj;have:∃ e',nthE s'.h j=some e':=⟨s'.h[j],by rw[yfb,List.getElem?_eq_getElem (by omega)]⟩
  obtain⟨e',he'⟩:=this;obtain⟨e,he,hs⟩:=y0q hH he';rw[Nat.zero_add]at he;exact⟨e,e',he',he,hs⟩
 have hsome:∀ j L,μ (ρ j)=some L->j<rl.length:=fun j L hj=>Nat.lt_of_not_le fun h=>by rw[hbig j h]at hj;cases hj
 have hhot:∀ b,hot c.M0 (Hof s'.h) (fun j=>μ (ρ j)) b->hot c.M0 (Hof s.h) μ b:=by
  rintro b (hb|⟨id,cap,e',hm,he,hl⟩)
  ·exact .inl hb
  ·obtain⟨e,e2,he2,heo,hse⟩:=hsmall id (hsome id _ hm)
   have he':nthE s'.h id=some e':=he;rw[he2]at he';cases he';exact .inr ⟨ρ id,cap,e,hm,heo,ycn hse hl⟩
 let FP' : Nat -> List Nat := fun j => match nthE s'.h j with
  | some .dead=>[]
  | _=>FP (ρ j)
 have hFP:∀ j b,b∈FP' j->b∈FP (ρ j):=by
  intro j b hb;simp only[FP']at hb;split at hb
  ·simp at hb
  ·exact hb
 refine⟨fun j=>μ (ρ j),FP',⟨hW.keep,fun j L hj=>by rw[hfix j (c.base0 j L hj),Nat.zero_add];exact hW.base j L hj,?_,?_,?_,?_,?_,?_⟩,?_,?_,h2,h3⟩
 ·intro id L hm
  obtain⟨e,e',he',he,hse⟩:=hsmall id (hsome id _ hm);obtain⟨e2,he2,hok⟩:=hW.ent (ρ id) L hm;have heo:Hof s.h (ρ id)=some e:=he;rw[heo]at he2;cases he2;refine⟨e',he',?_⟩;have:=ym0 hhot hse hok;simp only[FP',he'];cases e'<;>exact this
 ·intro id hm
  simp only[FP'];split
  ·rfl
  ·exact hW.out _ hm
 ·intro id
  simp only[FP'];split
  ·simp
  ·exact hW.nodup _
 ·intro i j hij b hbi hbj
  have hbi:=hFP i b hbi;have hbj:=hFP j b hbj;have lt:∀ k,b∈FP (ρ k)->k<rl.length:=fun k hk=>Nat.lt_of_not_le fun h=>by rw[hW.out _ (hbig k h)]at hk;simp at hk
  exact hW.disj _ _ (hinj i j hij (lt i hbi) (lt j hbj)) b hbi hbj
 ·intro id b hb
  exact hW.new _ b (hFP id b hb)
 ·intro id b cap e' hm he hl
  obtain⟨e,e2,he2,heo,hse⟩:=hsmall id (hsome id _ hm);have he':nthE s'.h id=some e':=he;rw[he2]at he';cases he';exact hW.top _ b cap e hm heo (ycn hse hl)
 ·intro id hid
  exact hbig id (by omega)
 ·intro i
  exact y7l hhot _ _ (yjs i hT) (h1 i)
section
variable {P:Program} {c:Ctx} {N:St->Prop} {E:Nat->St->Prop} {R:St->Prop} {s:St}
theorem AWP.sim {code:Code} {s':St} (rl:List Nat) (h:AWP P c code N E R s') (hs:simK c.k0 rl s s'):AWP P c code N E R s:=⟨fun a w hw=>h.run a w (hw.sim hs)⟩
theorem AWP.loop {ι : Type} (I : ι -> St) (V : ι -> Prop) (m : ι -> Nat) {body : Code} (i0 : ι) (h0 : V i0) (rl : List Nat) (hs : simK c.k0 rl s (I i0))
  (round:∀ i,V i->AWP P c body (fun s'=>∃ j rl,V j/\m j<m i/\simK c.k0 rl s' (I j)) E R (I i)):AWP P c (.loop body) N E R s:=by
 refine⟨fun a w hw => ?_⟩;let J:Act->World->Prop:=fun a w=>∃ i,V i/\WRs c (I i) a w
 let B:Act->World->Nat->Prop:=fun a w n=>∃ i,V i/\WRs c (I i) a w/\m i=n
 have least:∀ a w,J a w->∃ n,B a w n/\∀ k,B a w k->n<=k:=by
  rintro a w ⟨i,hi,hw⟩
  have:∀ n,B a w n->∃ n,B a w n/\∀ k,B a w k->n<=k:=by
   intro n
   induction n using Nat.strongRecOn with
   | _ n ih=>
    intro hn;by_cases h:∃ k,k<n/\B a w k
    ·obtain⟨k,hk,hb⟩:=h
     exact ih k hk hb
    ·exact⟨n,hn,fun k hk=>Nat.le_of_not_lt fun hlt=>h ⟨k,hlt,hk⟩⟩
  exact this (m i) ⟨i,hi,hw,rfl⟩
 classical
 let μ:Act->World->Nat:=fun a w=>if h:J a w then(least a w h).choose else 0
 have hμ:∀ a w (h:J a w),B a w (μ a w)/\∀ k,B a w k->μ a w<=k:=by
  intro a w h;have:μ a w=(least a w h).choose:=dif_pos h;rw[this];exact(least a w h).choose_spec
 refine wp_loop J μ ⟨i0,h0,hw.sim hs⟩ ?_;intro a w hJ;obtain⟨⟨i,hi,hwi,hmi⟩,_⟩:=hμ a w hJ;refine wp_mono ((round i hi).run a w hwi) ?_;intro e a' w' hp
 cases e with
 | normal=>
  obtain⟨s',⟨j,rl',hj,hlt,hsim⟩,hw'⟩:=hp;have hwj:=hw'.sim hsim;have hJ':J a' w':=⟨j,hj,hwj⟩
  refine⟨hJ',?_⟩;have:=(hμ a' w' hJ').2 (m j) ⟨j,hj,hwj,rfl⟩;omega
 | exit id=>exact hp
 | ret=>exact hp
 | _=>exact hp.elim
end
end Go.Ab
