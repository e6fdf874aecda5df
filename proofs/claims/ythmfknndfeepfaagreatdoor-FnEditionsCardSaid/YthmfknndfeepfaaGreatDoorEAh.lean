/- Walks and lemmas. No conditions. -/
import Derived.Test.YthmfknndfeepfaaGreatDoorEAe
set_option linter.unusedSectionVars false
set_option linter.unusedVariables false
set_option linter.unusedSimpArgs false
namespace Go.Ab
open Go
variable [Inv]
inductive Plan where
 | leaf
 | stop
 | alt (j:Nat) (news pend:List Nat) (sub rest:Plan)
def nthO : List Oper -> Nat -> Option Oper
 | [],_=>none
 | o::_,0=>some o
 | _::l,i+1=>nthO l i
omit [Inv]in
theorem ygr : ∀ (l : List Oper) (i : Nat), nthO l i = l[i]?
 | [],i=>by simp[nthO]
 | o::l,0=>by simp[nthO]
 | o::l,i+1=>by simp[nthO,ygr l i]
def y3c (Γ : Env) (D : Dn) (ops : Array Oper) (t : List (Nat × AV)) (h : List Ent) : List Nat -> Prop
  | []=>True
  | i :: l => (match nthO ops.toList i with
    | none=>False
    | some o => match y1f Γ D ops t h o with
      | none=>False
      | some (x,ob)=>allP ob/\(match o.dst with|some d=>get t d=x|none=>True))/\y3c Γ D ops t h l
def runN (Γ : Env) (D : Dn) (ops : Array Oper) (h : List Ent) : List Nat -> List (Nat × AV) -> Option (List (Nat × AV))
  | [],t=>some t
  | i :: l, t => match nthO ops.toList i with
    | none=>none
    | some o => match y1f Γ D ops t h o with
      | none=>none
      | some (x,_)=>runN Γ D ops h l (put t o.dst x)
def runP (Γ : Env) (D : Dn) (ops : Array Oper) (K : List (Nat × AV) -> List Ent -> Prop) : Plan -> List (Nat × AV) -> List Ent -> Prop
  | .leaf,t,h=>K t h
  | .stop,_,_=>True
  | .alt j news pend sub rest, t, h => (match nthO ops.toList j with
    | none=>False
    | some o => match ywe Γ D ops t h o with
      | none=>False
      | some (x, h', ob) => allP ob /\ (match runN Γ D ops h' news (put t o.dst x) with
        | none=>False
        | some t'=>y3c Γ D ops t' h' pend/\runP Γ D ops K sub t' h'))/\runP Γ D ops K rest t h
def yjq (ops:Array Oper) (i:Nat) (E:List Nat):Bool:=(List.range ops.size).all fun j => !dirB ops i j || E.contains j
def yie (ops : Array Oper) (m : Nat) : Plan -> List Nat -> List Nat -> List Nat -> Bool
 | .leaf,E,_,_=>(List.range m).all fun i=>E.contains i
 | .stop,E,_,seen=>((List.range m).all fun i=>E.contains i || seen.contains i || !yjq ops i E) && !((List.range m).all fun i=>E.contains i)
 | .alt j news pend sub rest,E,C,seen=>
  Nat.blt j m && !E.contains j && (news.all fun i=>Nat.blt i m && !E.contains i && !Nat.beq i j) &&
  ((E++news).all fun i=>C.contains i || ylg ops 3 j i || pend.contains i) &&
  yie ops m sub (j::(E++news)) (j::(C++(E.filter fun i=>ylg ops 3 j i))) [] && yie ops m rest E C (j::seen)
section
variable {P:Program} {Γ:Env} {D:Dn} {c:Ctx} {Q:Exit->Act->World->Prop}
structure Branch (Γ:Env) (D:Dn) (ops:Array Oper) (m:Nat) (K:List (Nat×AV)->List Ent->Prop) (E C:List Nat) (t:List (Nat×AV)) (h:List Ent) (j:Nat) where
 news:List Nat
 pend:List Nat
 sub:Plan
 x:AV
 h':List Ent
 ob:List Prop
 t':List (Nat×AV)
theorem y1r {ops:Array Oper} {m:Nat} {K:List (Nat×AV)->List Ent->Prop} {E C:List Nat} {t:List (Nat×AV)} {h:List Ent}:∀ (p:Plan) (seen:List Nat),p≠.leaf->yie ops m p E C seen=true->runP Γ D ops K p t h ->
  ∀ j,j<m->j∉E->yjq ops j E=true->j∉seen->∃ (o:Oper) (news pend:List Nat) (sub:Plan) (x:AV) (h':List Ent) (ob:List Prop) (t':List (Nat×AV)),
   ops[j]? = some o/\ywe Γ D ops t h o=some (x,h',ob)/\allP ob/\runN Γ D ops h' news (put t o.dst x)=some t'/\y3c Γ D ops t' h' pend/\runP Γ D ops K sub t' h' /\
   (∀ i,i∈news->i<m/\i∉E/\i≠j)/\(∀ i,i∈E++news->i∈C\/ylg ops 3 j i=true\/i∈pend) /\
   yie ops m sub (j::(E++news)) (j::(C++(E.filter fun i=>ylg ops 3 j i))) []=true
 | .leaf,_,hn,_,_=>absurd rfl hn
 | .stop,seen,_,hp,_=>by
  intro j hj hE hpr hs;simp only[yie,Bool.and_eq_true,List.all_eq_true,List.mem_range,Bool.or_eq_true,Bool.not_eq_true']at hp;rcases hp.1 j hj with(h1|h1)|h1
  ·exact absurd (List.contains_iff_mem.1 h1) hE
  ·exact absurd (List.contains_iff_mem.1 h1) hs
  ·rw[hpr]at h1;cases h1
 | .alt k news pend sub rest,seen,_,hp,hr=>by
  intro j hj hE hpr hs;simp only[yie,Bool.and_eq_true,List.all_eq_true,Bool.or_eq_true,Bool.not_eq_true']at hp;obtain⟨⟨⟨⟨⟨h1,h2⟩,h3⟩,h4⟩,h5⟩,h6⟩:=hp;simp only[runP]at hr;obtain⟨hr1,hr2⟩:=hr;by_cases hk:j=k
  ·subst hk
   rw[ygr,Array.getElem?_toList]at hr1
   cases ho:ops[j]? with
   | none=>rw[ho]at hr1;exact hr1.elim
   | some o=>
    rw[ho]at hr1;simp only at hr1
    cases hA:ywe Γ D ops t h o with
    | none=>rw[hA]at hr1;exact hr1.elim
    | some q=>
     obtain⟨x,h',ob⟩:=q;rw[hA]at hr1;simp only at hr1;obtain⟨g1,g2⟩:=hr1
     cases hN:runN Γ D ops h' news (put t o.dst x)with
     | none=>rw[hN]at g2;exact g2.elim
     | some t'=>
      rw[hN]at g2;simp only at g2;refine⟨o,news,pend,sub,x,h',ob,t',rfl,hA,g1,hN,g2.1,g2.2,?_,?_,h5⟩
      ·intro i hi
       obtain⟨⟨q1,q2⟩,q3⟩:=h3 i hi;refine⟨by simpa using q1,fun hh => ?_,fun hh => ?_⟩
       ·rw[List.contains_iff_mem.2 hh]at q2;cases q2
       ·subst hh;simp at q3
      ·intro i hi
       rcases h4 i hi with(q|q)|q
       ·exact .inl (List.contains_iff_mem.1 q)
       ·exact .inr (.inl q)
       ·exact .inr (.inr (List.contains_iff_mem.1 q))
  ·by_cases hrest:rest=.leaf
   ·exfalso
    subst hrest;simp only[yie,List.all_eq_true,List.mem_range]at h6;exact hE (List.contains_iff_mem.1 (h6 j hj))
   ·exact y1r rest (k::seen) hrest h6 hr2 j hj hE hpr (by simp[hk,hs])
def MidP (c:Ctx) (ops:Array Oper) (E:List Nat) (t:List (Nat×AV)) (h:List Ent) (listed:Array Bool) (a:Act) (w:World):Prop:=
 ∃ μ FP,WR c (Hof h) μ FP w/\Tail h μ/\a.tmps.size=c.nt/\a.defers=[] /\
  ∀ i,(∀ (j:Nat) (o:Oper),j∈E->ops[j]? = some o->listed.getD j true=false->o.dst≠some i)->Rep w (hot c.M0 (Hof h) μ) (get t i) μ (a.tmps.getD i undef) []
theorem yyh {ops : Array Oper} {t : List (Nat × AV)} {h : List Ent} : ∀ {l : List Nat}, y3c Γ D ops t h l -> ∀ i, i ∈ l -> ∃ o x ob, ops[i]? = some o /\ y1f Γ D ops t h o = some (x, ob) /\ allP ob /\ ∀ d, o.dst = some d -> get t d = x
 | [],_,i,hi=>by simp at hi
 | k::l,hr,i,hi=>by
  simp only[y3c]at hr;rcases List.mem_cons.1 hi with rfl|hi
  ·have h1:=hr.1
   rw[ygr,Array.getElem?_toList]at h1
   cases ho:ops[i]? with
   | none=>rw[ho]at h1;exact h1.elim
   | some o=>
    rw[ho]at h1;simp only at h1
    cases hq:y1f Γ D ops t h o with
    | none=>rw[hq]at h1;exact h1.elim
    | some q=>
     obtain⟨x,ob⟩:=q;rw[hq]at h1;simp only at h1;refine⟨o,x,ob,rfl,hq,h1.1,fun d hd => ?_⟩;have:=h1.2;rw[hd]at this;exact this
  ·exact yyh hr.2 i hi
theorem yuq {ops : Array Oper} {h : List Ent} : ∀ {l : List Nat} {t t' : List (Nat × AV)}, runN Γ D ops h l t = some t' -> ∀ i, (∀ j o, j ∈ l -> ops[j]? = some o -> o.dst ≠ some i) -> get t' i = get t i
 | [],t,t',hr,i,_=>by simp only[runN,Option.some.injEq]at hr;rw[hr]
 | k::l,t,t',hr,i,hi=>by
  simp only[runN]at hr;rw[ygr,Array.getElem?_toList]at hr
  cases ho:ops[k]? with
  | none=>rw[ho]at hr;cases hr
  | some o=>
   rw[ho]at hr;simp only at hr
   cases hq:y1f Γ D ops t h o with
   | none=>rw[hq]at hr;cases hr
   | some q=>
    obtain⟨x,ob⟩:=q;rw[hq]at hr;simp only at hr;rw[yuq hr i (fun j o' hj=>hi j o' (List.mem_cons_of_mem _ hj))]
    cases hd:o.dst with
    | none=>rfl
    | some d=>
     rw[ycg,if_neg];rintro rfl
     exact hi k o (List.mem_cons_self ..) ho hd
end
end Go.Ab
namespace Go.Ab
open Go
variable [Inv]
theorem y2l {α β : Operand -> AV} : ∀ {l : List Operand}, (∀ x ∈ l, α x = β x) -> yvj α l = yvj β l
 | [],_=>rfl
 | x::l,h=>by
  simp only[yvj];rw[h x (by simp),y2l (l:=l) fun y hy=>h y (by simp[hy])]
theorem y8l {Γ:Env} {h:List Ent} {α β:Operand->AV} {op:Op} (ha:∀ x,x∈op.operands.toList->α x=β x):y4f Γ h α op=y4f Γ h β op:=by
  cases op
  case call cl=>
    simp only[y4f]
    cases hcal:cl.callee with
    | builtin b=>
      have:∀ x,x∈cl.args.toList->α x=β x:=fun x hx=>ha x (by simp[Op.operands,Call.operands,hcal];simpa using hx)
      cases b <;> first
        | rfl
        | (generalize cl.args.toList = l at this ⊢
           generalize cl.argTypes.toList=l2
           cases l with
           | nil=>rfl
           | cons x l => cases l with
             | nil => first
               | rfl
               | (cases l2 with
                  | nil=>rfl
                  | cons t l2 => cases l2 with
                    | nil=>simp only[this x (by simp)]
                    | cons t2 l2=>rfl)
             | cons y l => cases l with
               | nil => first
                 | rfl
                 | (cases l2 with
                    | nil=>rfl
                    | cons t l2 => cases l2 with
                      | nil=>rfl
                      | cons t2 l2 => cases l2 with
                        | nil=>simp only[this x (by simp),this y (by simp)]
                        | cons _ _=>rfl)
               | cons _ _=>rfl)
    | value f=>rfl
    | invoke r n=>rfl
  case buildSlice t n parts=>
    simp only[y4f]
    have:(parts.toList.map fun p=>(p.1,α p.2))=(parts.toList.map fun p=>(p.1,β p.2)):=List.map_congr_left fun p hp=>by
      rw[ha p.2 (by simp only[Op.operands];exact List.mem_map.2 ⟨p,hp,rfl⟩)]
    rw[this]
  case next x b=>
    cases b with
    | true=>simp only[y4f];rw[ha x (by simp[Op.operands])]
    | false=>rfl
  all_goals first
    | rfl
    | (simp only [Op.operands] at ha
       simp only[y4f]
       simp[ha])
theorem ygv {Γ:Env} {D:Dn} {all:Array Oper} {t t':List (Nat×AV)} {h:List Ent} {o:Oper} (ha:y11 (o.looksAt all) t t'):ywe Γ D all t h o=ywe Γ D all t' h o:=by
 have hop:∀ x∈o.op.operands.toList,∀ i,x=.tmp i->i∈o.looksAt all:=fun x hx i he=>yak hx i he
 have hal:∀ g x,x∈o.op.operands.toList->al g t x=al g t' x:=fun g x hx=>by
  unfold al;rw[yaf ha (hop x hx)]
 unfold ywe;rw[y8h ha]
 cases hgd:ysb all t' o.guard with
 | none=>rfl
 | some g=>
  simp only;split
  ·rename_i c a b hope
   have h1:∀ x,x=c\/x=a\/x=b->opnd t x=opnd t' x:=fun x hx=>yaf ha (hop x (by rw[hope];simpa [Op.operands]using hx))
   have:yum g t c a b=yum g t' c a b:=by
    unfold yum;rw[h1 c (by simp),h1 a (by simp),h1 b (by simp)]
   rw[this]
  ·rename_i ty x y hope
   have hm:∀ z,z∈[x,y]->z∈o.op.operands.toList:=fun z hz=>by rw[hope];simpa [Op.operands]using hz
   have h1:=hal [] x (hm x (by simp));have h2:=hal [] y (hm y (by simp));have h3:=ydc ha [] (xs:=[x,y]) fun z hz=>hop z (hm z hz)
   rw[h1,h2,h3]
  ·have hst:∀ g,ycb g t (y4q o.op)=ycb g t' (y4q o.op):=fun g=>ydc ha g hop
   have hev:∀ g,yeh Γ h (al g t) o.op=yeh Γ h (al g t') o.op:=fun g=>yom fun x hx=>hal g x hx
   have hen:∀ g,y4f Γ h (al g t) o.op=y4f Γ h (al g t') o.op:=fun g=>y8l fun x hx=>hal g x hx
   have hen0:∀ g,y4f Γ [] (al g t) o.op=y4f Γ [] (al g t') o.op:=fun g=>y8l fun x hx=>hal g x hx
   have hpo:∀ g,yvj (al g t) o.op.operands.toList=yvj (al g t') o.op.operands.toList:=fun g=>y2l fun x hx=>hal g x hx
   cases hc:yng o.op with
   | none=>
    simp only[ytr,hev,hst,hen,hen0,hpo]
   | some p=>
    obtain⟨fop,args⟩:=p
    have hmem:∀ x,x∈fop::args->x∈o.op.operands.toList:=by
     intro x hx;unfold yng at hc;split at hc
     ·rename_i cl hope
      split at hc
      ·rename_i fo hcal
       simp only[Option.some.injEq,Prod.mk.injEq]at hc;obtain⟨rfl,rfl⟩:=hc;rw[hope];simpa [Op.operands,Call.operands,hcal]using hx
      ·simp at hc
     ·simp at hc
    have h1:∀ g,al g t fop=al g t' fop:=fun g=>hal g fop (hmem fop (by simp))
    have h2:∀ g,ycb g t (fop::args)=ycb g t' (fop::args):=fun g=>ydc ha g fun x hx=>hop x (hmem x hx)
    have h3:∀ g,args.map (al g t)=args.map (al g t'):=fun g=>List.map_congr_left fun x hx=>hal g x (hmem x (by simp[hx]))
    simp only[yjr,h1,h2,h3]
end Go.Ab
namespace Go.Ab
open Go
variable [Inv]
section
variable {P:Program} {Γ:Env} {D:Dn} {c:Ctx} {Q:Exit->Act->World->Prop}
theorem y08 (hΓ : TyOk P Γ) (hD : DOk P D) {ops : Array Oper} {m : Nat} (hok : AnyOk ops m) (hdn : ∀ (i : Nat) (o : Oper), ops[i]? = some o -> ∀ d, o.dst = some d -> d < c.nt) {K : List (Nat × AV) -> List Ent -> Prop}
  (hK:∀ t h,K t h->∃ t' h' ob,runA Γ D ops (ops.toList.drop m) t h=some (t',h',ob)/\allP ob/\∀ a w,WRs c ⟨t',h'⟩ a w->Q .normal a w) :
  ∀ (fuel:Nat) (p:Plan) (E C:List Nat) (t:List (Nat×AV)) (h:List Ent) (listed:Array Bool) (a:Act) (w:World),unl listed ops.size<=fuel->listed.size=ops.size->(∀ k,m<=k->k<ops.size->listed.getD k true=false)->yts ops listed ->
   yie ops m p E C []=true->runP Γ D ops K p t h->(∀ i,i∈E->i<m)->(∀ i,i<m->listed.getD i true=true->i∈E)->(∀ i,i∈C->listed.getD i false=true) ->
   (∀ i,i∈E->i∉C->∃ o x ob,ops[i]? = some o/\y1f Γ D ops t h o=some (x,ob)/\allP ob/\∀ d,o.dst=some d->get t d=x) ->
   MidP c ops E t h listed a w->wpAny P .any ops Q fuel listed a w:=by
 have hlt:∀ {i:Nat} {o:Oper},ops[i]? = some o->i<ops.size:=by
  intro i o hio;rcases Nat.lt_or_ge i ops.size with h|h
  ·exact h
  ·rw[Array.getElem?_eq_none h]at hio;cases hio
 have hm:=hok.le
 -- all of the first part is done
 have hend:∀ (fuel:Nat) (p:Plan) (E C:List Nat) (t:List (Nat×AV)) (h:List Ent) (listed:Array Bool) (a:Act) (w:World),unl listed ops.size<=fuel->listed.size=ops.size->(∀ k,m<=k->k<ops.size->listed.getD k true=false) ->
   yie ops m p E C []=true->runP Γ D ops K p t h->(∀ i,i∈E->i<m)->(∀ i,i<m->listed.getD i true=true->i∈E)->MidP c ops E t h listed a w->(∀ i,i<m->listed.getD i true=true)->wpAny P .any ops Q fuel listed a w:=by
  intro fuel p E C t h listed a w hf hsz hun hpl hr hE hL hmid hall;have hall2:∀ i,i<m->i∈E:=fun i hi=>hL i hi (hall i hi)
  have hleaf:p=.leaf:=by
   cases p with
   | leaf=>rfl
   | stop=>
    simp only[yie,Bool.and_eq_true,Bool.not_eq_true']at hpl
    have:(List.range m).all (fun i=>E.contains i)=true:=by
     rw[List.all_eq_true];intro i hi;exact List.contains_iff_mem.2 (hall2 i (List.mem_range.1 hi))
    rw[this]at hpl;exact absurd hpl.2 (by simp)
   | alt j news pend sub rest=>
    simp only[yie,Bool.and_eq_true,Bool.not_eq_true']at hpl;obtain⟨⟨⟨⟨⟨h1,h2⟩,_⟩,_⟩,_⟩,_⟩:=hpl;have h1:j<m:=by simpa using h1
    rw[List.contains_iff_mem.2 (hall2 j h1)]at h2;cases h2
  subst hleaf;simp only[runP]at hr;obtain⟨t',h',ob,hA,hob,hQ⟩:=hK t h hr;obtain⟨μ,FP,hW,htl,h1,h2,h3⟩:=hmid;have hge:=yi3 hun;refine yer hΓ hD hok hdn hQ fuel m listed a w ⟨t,h⟩ ob (Nat.le_refl _) hm (by omega) hsz (fun i hi => ?_) ⟨μ,FP,hW,htl,?_,h1,h2⟩ hA hob
  ·by_cases him:i<m
   ·rw[hall i him];simp[him]
   ·rw[hun i (by omega) hi];simp[him]
  ·intro i
   refine h3 i fun j o hj hjo hl => ?_
   rw[hall j (hE j hj)]at hl;cases hl
 intro fuel
 induction fuel with
 | zero=>
  intro p E C t h listed a w hf hsz hun hcl hpl hr hE hL hC hB hmid;have hall:=yyp (Nat.le_zero.1 hf);exact hend 0 p E C t h listed a w hf hsz hun hpl hr hE hL hmid fun i hi=>hall i (by omega)
 | succ fuel ih=>
  intro p E C t h listed a w hf hsz hun hcl hpl hr hE hL hC hB hmid;by_cases hall:∀ i,i<m->listed.getD i true=true
  ·exact hend (fuel+1) p E C t h listed a w hf hsz hun hpl hr hE hL hmid hall
  ·refine⟨fun h0 => ?_,fun i hi => ?_⟩
   ·exfalso
    apply hall
    have:∀ i,i<ops.size->listed.getD i true=true:=by
     intro i
     induction i using Nat.strongRecOn with
     | _ i ihi=>
      intro hi
      cases hl:listed.getD i true with
      | true=>rfl
      | false=>
       exfalso
       have:i∈Region.ready .any ops listed:=by
        refine y8d.2 ⟨ops[i],Array.getElem?_eq_getElem hi,hl,fun e he hb => ?_⟩;have h3:=hok.back i _ (Array.getElem?_eq_getElem hi) e he hb;rw[y5 (by omega) false true];exact ihi e.on h3 (by omega)
       rw[h0]at this;simp at this
    exact fun i him=>this i (by omega)
   ·obtain⟨o,hio,hli,hready⟩:=y8d.1 hi
    have hin:=hlt hio
    have hdir:∀ l,dirB ops i l=true->listed.getD l false=true:=fun l hl'=>by
     obtain⟨o2,ho2,e,he,hb,rfl⟩:=yej.1 hl';rw[hio]at ho2;cases ho2;exact hready e he hb
    have him:i<m:=by
     rcases Nat.lt_or_ge i m with h1|h1
     ·exact h1
     ·exfalso
      apply hall;intro j hj;rw[y5 (by omega) true false];exact y8c hsz hcl 3 i j hdir (hok.late i h1 hin j (by omega))
    obtain⟨μ,FP,hW,htl,h1,h2,h3⟩:=hmid
    have hTR:TR c ⟨mask (o.looksAt ops) t,h⟩ μ w a:=by
     refine⟨fun j => ?_,h1,h2⟩;show Rep w _ (get (mask (o.looksAt ops) t) j) μ _ [];rw[y2g];split
     ·rename_i hj
      refine h3 j fun k ok hkE hko hl hdk => ?_
      have hkm:=hE k hkE;by_cases hki:k=i
      ·subst hki
       rw[hio]at hko;cases hko;exact hok.own k o hio him j hdk hj
      ·have h4:=((hok.apart i k o ok j hio hko him hkm hki hdk).2 hj).2
       have h5:=hdir k h4;rw[y5 (by omega) false true,hl]at h5;cases h5
     ·simp[Rep]
    have hcl2:yts ops (listed.setIfInBounds i true):=by
     intro k ok hko hlk e he hb;rw[yhc (by omega)]at hlk ⊢;by_cases hei:e.on=i
     ·rw[if_pos hei]
     ·rw[if_neg hei]
      by_cases hki:k=i
      ·subst hki
       rw[hio]at hko;cases hko;exact hready e he hb
      ·rw[if_neg hki]at hlk
       exact hcl k ok hko hlk e he hb
    have hun2:∀ k,m<=k->k<ops.size->(listed.setIfInBounds i true).getD k true=false:=by
     intro k hk hkn;rw[yhc (by omega),if_neg (by omega)];exact hun k hk hkn
    have hun':=y4v (listed:=listed) (i:=i) (by omega) hli ops.size;rw[if_pos hin]at hun';by_cases hiE:i∈E
    · -- a read that was still to come
     have hiC:i∉C:=fun hc=>by
      have:=hC i hc;rw[y5 (by omega) false true,hli]at this;cases this
     obtain⟨o2,x,ob,ho2,hq,hob,hx2⟩:=hB i hiE hiC;rw[hio]at ho2;cases ho2
     have hq2:y1f Γ D ops (mask (o.looksAt ops) t) h o=some (x,ob):=by
      rw[<- hq];refine ykm fun j hj => ?_
      rw[y2g,if_pos hj]
     obtain⟨ob2,hA,hob2⟩:=yrm hq2;have hrun:=yby (s:=⟨mask (o.looksAt ops) t,h⟩) (Q:=Q) hΓ hD hW htl hTR hA (hob2 hob)
     have hnext:∀ a' w',ylc c ⟨mask (o.looksAt ops) t,h⟩ μ w a o.dst x h a' w'->wpAny P .any ops Q fuel (listed.setIfInBounds i true) a' w':=by
      rintro a' w' ⟨v,μ',rfl,hN,hx⟩
      obtain⟨FP',hW'⟩:=hN.wr;refine ih p E C t h _ _ _ (by omega) (by simpa using hsz) hun2 hcl2 hpl hr hE ?_ ?_ hB ⟨μ',FP',hW',hN.tail,?_,?_,?_⟩
      ·intro k hk hkl
       rw[yhc (by omega)]at hkl;by_cases hki:k=i
       ·rw[hki];exact hiE
       ·rw[if_neg hki]at hkl
        exact hL k hk hkl
      ·intro k hk
       rw[yhc (by omega)];split
       ·rfl
       ·exact hC k hk
      ·cases hd:o.dst<;>simpa [Act.put]using h1
      ·cases hd:o.dst<;>simpa [Act.put]using h2
      ·intro j hj
       by_cases hdj:o.dst=some j
       ·rw[hx2 j hdj]
        have hjn:j<a.tmps.size:=by rw[h1];exact hdn i o hio j hdj
        have:(a.put o.dst v).tmps.getD j undef=v:=by simp[hdj,Act.put,hjn]
        rw[this];exact hx
       ·have:(a.put o.dst v).tmps.getD j undef=a.tmps.getD j undef:=by
         cases hd:o.dst with
         | none=>rfl
         | some d=>
          simp only[Act.put,Array.getD_eq_getD_getElem?];rw[Array.getElem?_setIfInBounds_ne (fun e=>hdj (by rw[hd,e]))]
        rw[this];refine hN.tr.rep (h3 j fun k ok hkE hko hl => ?_);by_cases hki:k=i
        ·subst hki
         rw[hio]at hko;cases hko;exact hdj
        ·refine hj k ok hkE hko ?_
         rw[yhc (by omega),if_neg hki];exact hl
     unfold wpOp;rw[hio];simp only;split
     ·rename_i hw
      rw[if_pos hw]at hrun;exact .inl (Oper.wp_mono hnext hrun)
     ·rename_i hw
      rw[if_neg hw]at hrun;exact hnext _ _ hrun
    · -- one that the plan names
     have hpr:yjq ops i E=true:=by
      simp only[yjq,List.all_eq_true,List.mem_range,Bool.or_eq_true,Bool.not_eq_true'];intro j hj
      cases hd:dirB ops i j with
      | false=>exact .inl rfl
      | true=>
       right
       obtain⟨o2,ho2,e,he,hb,rfl⟩:=yej.1 hd;have hlt2:=hok.back i o2 ho2 e he hb;refine List.contains_iff_mem.2 (hL e.on (by omega) ?_);rw[y5 (by omega) true false];exact hdir e.on hd
     have hnl:p≠.leaf:=by
      rintro rfl
      simp only[yie,List.all_eq_true,List.mem_range]at hpl;exact hiE (List.contains_iff_mem.1 (hpl i him))
     obtain⟨o2,news,pend,sub,x,h',ob,t',ho2,hA,hob,hN',hre,hsub,hnews,hcov,hpl2⟩:=y1r p [] hnl hpl hr i him hiE hpr (by simp);rw[hio]at ho2;cases ho2
     have hA2:ywe Γ D ops (mask (o.looksAt ops) t) h o=some (x,h',ob):=by
      rw[<- hA];refine ygv fun j hj => ?_
      rw[y2g,if_pos hj]
     have hrun:=yby (s:=⟨mask (o.looksAt ops) t,h⟩) (Q:=Q) hΓ hD hW htl hTR hA2 hob
     have hnl2:∀ k,k∈news->listed.getD k true=false:=by
      intro k hk;obtain⟨q1,q2,_⟩:=hnews k hk
      cases hl:listed.getD k true with
      | false=>rfl
      | true=>exact absurd (hL k q1 hl) q2
     have hnext:∀ a' w',ylc c ⟨mask (o.looksAt ops) t,h⟩ μ w a o.dst x h' a' w'->wpAny P .any ops Q fuel (listed.setIfInBounds i true) a' w':=by
      rintro a' w' ⟨v,μ',rfl,hN,hx⟩
      obtain⟨FP',hW'⟩:=hN.wr;refine ih sub (i::(E++news)) (i::(C++(E.filter fun k=>ylg ops 3 i k))) t' h' _ _ _ (by omega) (by simpa using hsz) hun2 hcl2 hpl2 hsub ?_ ?_ ?_ ?_ ⟨μ',FP',hW',hN.tail,?_,?_,?_⟩
      ·intro k hk
       rcases List.mem_cons.1 hk with rfl|hk
       ·exact him
       ·rcases List.mem_append.1 hk with hk|hk
        ·exact hE k hk
        ·exact(hnews k hk).1
      ·intro k hk hkl
       rw[yhc (by omega)]at hkl;by_cases hki:k=i
       ·rw[hki];exact List.mem_cons_self ..
       ·rw[if_neg hki]at hkl
        exact List.mem_cons_of_mem _ (List.mem_append_left _ (hL k hk hkl))
      ·intro k hk
       rw[yhc (by omega)];rcases List.mem_cons.1 hk with rfl|hk
       ·rw[if_pos rfl]
       ·split
        ·rfl
        ·rcases List.mem_append.1 hk with hk|hk
         ·exact hC k hk
         ·exact y8c hsz hcl 3 i k hdir (List.mem_filter.1 hk).2
      ·intro k hk hkC
       simp only[List.mem_cons,List.mem_append,List.mem_filter,not_or,not_and]at hkC;obtain⟨hki,hkC,hkF⟩:=hkC;rcases List.mem_cons.1 hk with rfl|hk
       ·exact absurd rfl hki
       ·rcases hcov k hk with q|q|q
        ·exact absurd q hkC
        ·exfalso
         rcases List.mem_append.1 hk with hk|hk
         ·exact hkF hk q
         ·have:=y8c hsz hcl 3 i k hdir q
          have hkm:=(hnews k hk).1;rw[y5 (by omega) false true,hnl2 k hk]at this;cases this
        ·exact yyh hre k q
      ·cases hd:o.dst<;>simpa [Act.put]using h1
      ·cases hd:o.dst<;>simpa [Act.put]using h2
      ·intro j hj
       have hget:get t' j=get (put t o.dst x) j:=by
        refine yuq hN' j fun k ok hk hko => ?_
        refine hj k ok (List.mem_cons_of_mem _ (List.mem_append_right _ hk)) hko ?_;rw[yhc (by omega),if_neg (hnews k hk).2.2];exact hnl2 k hk
       rw[hget];by_cases hdj:o.dst=some j
       ·have hjn:j<a.tmps.size:=by rw[h1];exact hdn i o hio j hdj
        have:(a.put o.dst v).tmps.getD j undef=v:=by simp[hdj,Act.put,hjn]
        rw[this,hdj,ycg,if_pos rfl];exact hx
       ·have:(a.put o.dst v).tmps.getD j undef=a.tmps.getD j undef:=by
         cases hd:o.dst with
         | none=>rfl
         | some d=>
          simp only[Act.put,Array.getD_eq_getD_getElem?];rw[Array.getElem?_setIfInBounds_ne (fun e=>hdj (by rw[hd,e]))]
        rw[this]
        have hg2:get (put t o.dst x) j=get t j:=by
         cases hd:o.dst with
         | none=>rfl
         | some d=>
          rw[ycg,if_neg];rintro rfl
          exact hdj hd
        rw[hg2];refine hN.tr.rep (h3 j fun k ok hkE hko hl => ?_);refine hj k ok (List.mem_cons_of_mem _ (List.mem_append_left _ hkE)) hko ?_;rw[yhc (by omega),if_neg (fun e=>hiE (by rw[<- e];exact hkE))];exact hl
     unfold wpOp;rw[hio];simp only;split
     ·rename_i hw
      rw[if_pos hw]at hrun;exact .inl (Oper.wp_mono hnext hrun)
     ·rename_i hw
      rw[if_neg hw]at hrun;exact hnext _ _ hrun
def y1k (Γ:Env) (D:Dn) (ops:Array Oper) (m:Nat) (init:List Nat) (p:Plan) (s:St) (K:St->Prop):Prop:=
  match runN Γ D ops s.h init s.t with
  | none=>False
  | some t1 => y3c Γ D ops t1 s.h init /\ runP Γ D ops (fun t h => match runA Γ D ops (ops.toList.drop m) t h with
    | none=>False
    | some (t',h',ob)=>allP ob/\K ⟨t',h'⟩) p t1 s.h
theorem yfv (hmix : P.follows .mixedOrders = true) (hΓ : TyOk P Γ) (hD : DOk P D) {id : Nat} {ops : Array Oper} (m : Nat) (init : List Nat) (p : Plan) {s : St} {a : Act} {w : World} {K : St -> Prop}
  (hs:WRs c s a w) (hck:yzf ops m=true) (hpl:((init.all fun i=>Nat.blt i m) && yie ops m p init [] [])=true) (hd:yfh c.nt ops.toList=true) (hr:y1k Γ D ops m init p s K)
  (hQ:∀ st a w,K st->WRs c st a w->Q .normal a w):(Code.region id ops true).wp P Q a w:=by
 have hok:=yxm hck
 have hdn:∀ (i:Nat) (o:Oper),ops[i]? = some o->∀ d,o.dst=some d->d<c.nt:=by
  intro i o hio d hdd;simp only[yfh,List.all_eq_true]at hd;have hmem:o∈ops.toList:=Array.mem_toList_iff.2 (Array.mem_of_getElem? hio);have:=hd o hmem;rw[hdd]at this;simpa using this
 unfold y1k at hr
 cases hN:runN Γ D ops s.h init s.t with
 | none=>rw[hN]at hr;exact hr.elim
 | some t1=>
  rw[hN]at hr;simp only at hr;obtain⟨hre,hr⟩:=hr;simp only[Bool.and_eq_true,List.all_eq_true]at hpl;refine wp_region_any hmix ?_;refine y08 hΓ hD hok hdn ?_ ops.size p init [] t1 s.h _ a _ ?_ (by simp) ?_ ?_ hpl.2 hr (fun i hi=>by simpa using hpl.1 i hi) ?_ (by simp) (fun i hi _=>yyh hre i hi) ?_
  ·intro t h hk
   cases hA:runA Γ D ops (ops.toList.drop m) t h with
   | none=>simp only[hA]at hk
   | some q=>
    obtain⟨t',h',ob⟩:=q;simp only[hA]at hk;exact⟨t',h',ob,rfl,hk.1,fun a w=>hQ _ a w hk.2⟩
  ·have:∀ (l:Array Bool) (k:Nat),unl l k<=k:=by
    intro l k
    induction k with
    | zero=>simp[unl]
    | succ k ih=>simp only[unl];cases l.getD k true<;>simp<;>omega
   exact this _ _
  ·intro k _ hk
   simp[Array.getD_eq_getD_getElem?,hk]
  ·intro i o hio hl
   have:i<ops.size:=by
    rcases Nat.lt_or_ge i ops.size with h|h
    ·exact h
    ·rw[Array.getElem?_eq_none h]at hio;cases hio
   simp[Array.getD_eq_getD_getElem?,this]at hl
  ·intro i hi hl
   have:i<ops.size:=by have:=hok.le;omega
   simp[Array.getD_eq_getD_getElem?,this]at hl
  ·obtain⟨μ,FP,hW,htl,h1,h2,h3⟩:=hs.drew
   refine⟨μ,FP,hW,htl,h2,h3,?_⟩;intro i hi
   rw[yuq hN i fun j o hj hjo=>hi j o hj hjo (by
    have:j<ops.size:=by have:=hok.le;have:=hpl.1 j hj;simp at this;omega
    simp[Array.getD_eq_getD_getElem?,this])]
   exact h1 i
end
end Go.Ab
namespace Go.Ab
open Go
variable [Inv]
section
variable {P:Program} {Γ:Env} {D:Dn} {c:Ctx} {N:St->Prop} {E:Nat->St->Prop} {R:St->Prop} {s:St}
theorem AWP.regP {nt : Nat} (hmix : P.follows .mixedOrders = true) (hΓ : TyOk P Γ) (hD : DOk P D) (hn : c.nt = nt) {id : Nat} {ops : Array Oper} (m : Nat) (init : List Nat) (p : Plan) (hck : yzf ops m = true)
  (hpl:((init.all fun i=>Nat.blt i m) && yie ops m p init [] [])=true) (hd:yfh nt ops.toList=true)
  (h:∀ K:St->Prop,(∀ s,N s->K s)->y1k Γ D ops m init p s K):AWP P c (.region id ops true) N E R s:=by
 refine⟨fun a w hs => ?_⟩;have h:=h _ fun _ h=>h
 exact yfv hmix hΓ hD m init p hs hck hpl (by rw[hn];exact hd) h fun st a w hk hs'=>⟨_,hk,hs'⟩
end
end Go.Ab
namespace Go.Ab
open Go
variable [Inv]
section
variable {P:Program} {c:Ctx} {s:St} {a:Act} {w:World} {N:St->Prop} {E:Nat->St->Prop} {R:St->Prop} {μ:Map}
theorem y99 {M M' : Nat -> Prop} {μ' : Map} : ∀ {cs : List AV} {us : List Value} {fp : List Nat}, (∀ y, y ∈ cs -> ∀ u f, Rep w M y μ u f -> Rep w M' y μ' u f) -> RepL w M cs μ us fp -> RepL w M' cs μ' us fp
 | [],us,fp,_,h=>by simpa only[RepL]using h
 | y::cs,us,fp,ht,h=>by
  simp only[RepL]at h ⊢;obtain⟨u,us',f1,f2,rfl,rfl,h1,h2⟩:=h;exact⟨u,us',f1,f2,rfl,rfl,ht y (by simp) _ _ h1,y99 (fun z hz=>ht z (by simp[hz])) h2⟩
theorem yj3 {M:Nat->Prop}:∀ {o:Nat} {cs:List AV} {us:List Value} {fp:List Nat} {x:AV} {rest:List AV},RepL w M cs μ us fp->yyc o cs=x::rest ->
  ∃ fa fx fb u,fp=fa++fx++fb/\Rep w M x μ u fx/\∀ (M':Nat->Prop) (μ':Map),(∀ y,y∈cs->∀ u f,Rep w M y μ u f->Rep w M' y μ' u f)->∀ x' fx',Rep w M' x' μ' u fx'->RepL w M' (putL o [x'] cs) μ' us (fa++fx'++fb)
 | 0,[],us,fp,x,rest,h,hd=>by simp[yyc]at hd
 | 0,y::cs,us,fp,x,rest,h,hd=>by
  simp only[yyc,List.cons.injEq]at hd;obtain⟨rfl,rfl⟩:=hd;simp only[RepL]at h;obtain⟨u,us',f1,f2,rfl,rfl,h1,h2⟩:=h;refine⟨[],f1,f2,u,by simp,h1,fun M' μ' ht x' fx' hx => ?_⟩;have:putL 0 [x'] (y::cs)=x'::cs:=by cases cs<;>simp[putL]
  rw[this];simp only[RepL];exact⟨u,us',fx',f2,rfl,by simp,hx,y99 (fun z hz=>ht z (by simp[hz])) h2⟩
 | o+1,[],us,fp,x,rest,h,hd=>by simp[yyc]at hd
 | o+1,y::cs,us,fp,x,rest,h,hd=>by
  simp only[yyc]at hd;simp only[RepL]at h;obtain⟨u,us',f1,f2,rfl,rfl,h1,h2⟩:=h;obtain⟨fa,fx,fb,u2,rfl,h3,h4⟩:=yj3 h2 hd;refine⟨f1++fa,fx,fb,u2,by simp,h3,fun M' μ' ht x' fx' hx => ?_⟩;simp only[putL,RepL];exact⟨u,us',f1,_,rfl,by simp,ht y (by simp) _ _ h1,h4 M' μ' (fun z hz=>ht z (by simp[hz])) x' fx' hx⟩
theorem yccb {h h0 : List Ent} (T : TypeId) (e : Nat) (f : Nat -> List AV) {FP : Nat -> List Nat} (hW : WR c (Hof h) μ FP w) (htl : Tail h μ) (hl : h0.length = h.length)
  (hlive:∀ k e',nthE h0 k=some e'->e'.live=true->∃ e2,nthE h k=some e2/\e2.live=true)
  (hent:∀ (M':Nat->Prop) (μ':Map),μ.le μ'->(∀ b,M' b->hot c.M0 (Hof h) μ b)->μ' h.length=some .nil->∀ k L,μ k=some L->∃ e2,nthE h0 k=some e2/\yic w M' μ' e2 L (FP k)) :
  ∃ μ',μ.le μ'/\μ' h.length=some .nil/\(∀ b,hot c.M0 (Hof (h0++[.arr T e 0 f])) μ' b->hot c.M0 (Hof h) μ b)/\WR c (Hof (h0++[.arr T e 0 f])) μ' FP w/\Tail (h0++[.arr T e 0 f]) μ':=by
 let μ':Map:=fun k=>if k=h.length then some .nil else μ k
 have hnone:μ h.length=none:=htl _ (Nat.le_refl _)
 have hle:μ.le μ':=fun k L' hk=>by
  simp only[μ'];rw[if_neg (fun e=>by rw[e,hnone]at hk;cases hk)];exact hk
 have h1:μ' h.length=some .nil:=by simp[μ']
 have h2:∀ k,k≠h.length->μ' k=μ k:=fun k hk=>by simp[μ',hk]
 have hH:∀ k,k≠h.length->nthE (h0++[.arr T e 0 f]) k=nthE h0 k:=by
  intro k hk;by_cases hlt:k<h.length
  ·rw[ync,if_neg (by omega)]
  ·rw[ync,if_neg (by omega)]
 have hhot:∀ b,hot c.M0 (Hof (h0++[.arr T e 0 f])) μ' b->hot c.M0 (Hof h) μ b:=by
  rintro b (hb|⟨k,cap,e',hm,he,hli⟩)
  ·exact .inl hb
  ·by_cases hk:k=h.length
   ·subst hk;rw[h1]at hm;cases hm
   ·rw[h2 k hk]at hm
    rw[show Hof (h0++[.arr T e 0 f]) k=nthE (h0++[.arr T e 0 f]) k from rfl,hH k hk]at he;obtain⟨e2,g1,g2⟩:=hlive k e' he hli;exact .inr ⟨k,cap,e2,hm,g1,g2⟩
 refine⟨μ',hle,h1,hhot,⟨hW.keep,hW.base.trans hle,?_,?_,hW.nodup,hW.disj,hW.new,?_⟩,?_⟩
 ·intro k L hk
  by_cases hkl:k=h.length
  ·subst hkl
   rw[h1]at hk;cases hk;refine⟨.arr T e 0 f,by rw[show Hof (h0++[.arr T e 0 f]) h.length=nthE (h0++[.arr T e 0 f]) h.length from rfl,ync,if_pos hl.symm],?_⟩;rw[hW.out _ hnone];exact⟨rfl,rfl⟩
  ·rw[h2 k hkl]at hk
   obtain⟨e2,g1,g2⟩:=hent (hot c.M0 (Hof (h0++[.arr T e 0 f])) μ') μ' hle hhot h1 k L hk;exact⟨e2,by rw[show Hof (h0++[.arr T e 0 f]) k=nthE (h0++[.arr T e 0 f]) k from rfl,hH k hkl];exact g1,g2⟩
 ·intro k hk
  by_cases hkl:k=h.length
  ·subst hkl;exact hW.out _ hnone
  ·rw[h2 k hkl]at hk;exact hW.out k hk
 ·intro k b cap e' hm he hli
  by_cases hkl:k=h.length
  ·subst hkl;rw[h1]at hm;cases hm
  ·rw[h2 k hkl]at hm
   rw[show Hof (h0++[.arr T e 0 f]) k=nthE (h0++[.arr T e 0 f]) k from rfl,hH k hkl]at he;obtain⟨e2,g1,g2⟩:=hlive k e' he hli;exact hW.top k b cap e2 hm g1 g2
 ·intro k hk
  rw[List.length_append,List.length_singleton]at hk;rw[h2 k (by omega)];exact htl k (by omega)
theorem y0ab {e:Nat} {M M':Nat->Prop} {μ':Map} {k:Nat} {v:Value} {fp:List Nat} (h:Rep w M .nils μ v fp) (hk:μ' k=some .nil):Rep w M' (.ref k e 0 0) μ' v fp:=by
 simp only[Rep]at h;obtain⟨rfl,rfl⟩:=h;simp[Rep,hk]
theorem WRs.nilB {a : Act} {w : World} (id o : Nat) (T : TypeId) (e : Nat) (f : Nat -> List AV) {cs rest : List AV} (hid : nthE s.h id = some (.box cs)) (hx : yyc o cs = .nils :: rest)
  (hs:WRs c s a w):WRs c ⟨s.t,setE s.h id (.box (putL o [.ref s.h.length e 0 0] cs))++[.arr T e 0 f]⟩ a w:=by
 obtain⟨μ,FP,hW,htl,h1,h2,h3⟩:=hs;have hlt:=yed hid
 have hget:∀ k,nthE (setE s.h id (.box (putL o [.ref s.h.length e 0 0] cs))) k=if k=id then some (.box (putL o [.ref s.h.length e 0 0] cs))else nthE s.h k:=by
  intro k;rw[y6];by_cases hk:k=id
  ·subst hk;rw[if_pos ⟨rfl,hlt⟩,if_pos rfl]
  ·rw[if_neg (fun h=>hk h.1),if_neg hk]
 obtain⟨μ',hle,hn,hhot,hWn,htn⟩:=yccb T e f hW htl (y0 _ _ _) (fun k e' h hl=>by
  rw[hget]at h;by_cases hk:k=id
  ·subst hk;exact⟨_,hid,rfl⟩
  ·rw[if_neg hk]at h;exact⟨e',h,hl⟩) (fun M' μ' hle hM hn k L hk=>by
  obtain⟨e2,g1,g2⟩:=hW.ent k L hk;have hsm:∀ fq,Same w (hot c.M0 (Hof s.h) μ) w M' fq:=fun fq=>⟨Nat.le_refl _,fun b _ hb hh=>hb (hM b hh),fun _ _ _=>rfl⟩
  rw[hget];by_cases hki:k=id
  ·subst hki
   rw[if_pos rfl];rw[show Hof s.h k=nthE s.h k from rfl,hid]at g1;cases g1
   refine⟨_,rfl,?_⟩;obtain⟨b,cap,us,T2,q1,q2,q3,q4,q5⟩:=g2;obtain⟨fa,fx,fb,u,hfp,hrx,hput⟩:=yj3 q5 hx;have hp:=hput M' μ' (fun y _ u f hu=>Rep.mono y hle (hsm _) hu) (.ref s.h.length e 0 0) fx (y0ab hrx hn);rw[<- hfp]at hp;exact⟨b,cap,us,T2,q1,q2,q3,q4,hp⟩
  ·rw[if_neg hki]
   exact⟨e2,g1,yic.mono hle (hsm _) (fun b hb=>(hW.new k b hb).2) g2⟩)
 exact⟨μ',FP,hWn,htn,fun i=>Rep.mono _ hle ⟨Nat.le_refl _,fun b _ hb hh=>hb (hhot b hh),fun _ _ _=>rfl⟩ (h1 i),h2,h3⟩
theorem AWP.nilB {code : Code} (id o : Nat) (T : TypeId) (e : Nat) (f : Nat -> List AV) {cs rest : List AV} (hid : nthE s.h id = some (.box cs)) (hx : yyc o cs = .nils :: rest)
  (h:AWP P c code N E R ⟨s.t,setE s.h id (.box (putL o [.ref s.h.length e 0 0] cs))++[.arr T e 0 f]⟩):AWP P c code N E R s:=⟨fun a w hs=>h.run a w (hs.nilB id o T e f hid hx)⟩
end
end Go.Ab
namespace Go.Ab
open Go
variable [Inv]
def y0cb : List (Nat × Nat) -> Nat -> Nat
 | [],_=>9
 | (j,d)::k,i=>bif (i == j)then d else y0cb k i
def gT : List Bool -> Prop
 | []=>True
 | b::g=>b=true/\gT g
def gF : List Bool -> Prop
 | []=>False
 | b::g=>b=false\/gF g
theorem yq2 : ∀ {g : List Bool}, gT g -> allT g
 | [],_=>fun b hb=>absurd hb (by simp)
 | b::g,h=>fun c hc=>by
  rcases List.mem_cons.1 hc with rfl|hc
  ·exact h.1
  ·exact yq2 h.2 c hc
theorem y89 : ∀ {g : List Bool}, gF g -> ¬ allT g
 | [],h=>h.elim
 | b::g,h=>fun ht=>by
  rcases h with h|h
  ·have:=ht b (by simp)
   rw[h]at this;cases this
  ·exact y89 h (fun c hc=>ht c (by simp[hc]))
def y31 (w:Bool) (t:List (Nat×AV)) (h:List Ent) (g:List Bool) (c a b:Operand):NewR:=
  match yuj [] (opnd t c)with
  | (.bool bc, o1) => match yuj [] (opnd t (bif w then a else b)) with
    | (x,o2)=>some (x,h,gT g::(bc=w)::(o1++o2))
  | _=>none
def yd2 (Γ:Env) (D:Dn) (all:Array Oper) (κ:List (Nat×Nat)) (i:Nat) (t:List (Nat×AV)) (h:List Ent) (o:Oper):NewR:=
  match y0cb κ i with
  | 0 => match ysb all t o.guard with
    | some g => match ywe Γ D all t h { o with guard := none } with
      | some (x,h',ob)=>some (x,h',gT g::ob)
      | none=>none
    | none=>none
  | 1 => match ysb all t o.guard with
    | some g=>some (.any,h,[gF g])
    | none=>none
  | 2 => match o.op with
    | .pick c a b => match ysb all t o.guard with
      | some g=>y31 true t h g c a b
      | none=>none
    | _=>none
  | 3 => match o.op with
    | .pick c a b => match ysb all t o.guard with
      | some g=>y31 false t h g c a b
      | none=>none
    | _=>none
  | _=>ywe Γ D all t h o
def runK (Γ : Env) (D : Dn) (all : Array Oper) (κ : List (Nat × Nat)) : Nat -> List Oper -> List (Nat × AV) -> List Ent -> Option (List (Nat × AV) × List Ent × List Prop)
  | _,[],t,h=>some (t,h,[])
  | i, o :: os, t, h => match yd2 Γ D all κ i t h o with
    | some (x, h', ob) => match runK Γ D all κ (i + 1) os (put t o.dst x) h' with
      | some (t'',h'',ob')=>some (t'',h'',ob++ob')
      | none=>none
    | none=>none
section
variable {P:Program} {Γ:Env} {D:Dn} {c:Ctx} {s:St} {μ:Map} {FP:Nat->List Nat} {w:World} {a:Act} {all:Array Oper} {o:Oper} {Q:Exit->Act->World->Prop}
theorem y2n {b : Bool} {g : List Bool} {cc x y : Operand} (hs : WRs c s a w) (hop : o.op = .pick cc x y) (hgd : ysb all s.t o.guard = some g) {r : AV} {h' : List Ent} {ob : List Prop} (he : y31 b s.t s.h g cc x y = some (r, h', ob)) (ho : allP ob)
  (hd:∀ d,o.dst=some d->d<c.nt) {K:Act->World->Prop} (hK:∀ a w,WRs c ⟨put s.t o.dst r,h'⟩ a w->K a w) :
  if Region.wanted o (yielded all a.tmps)then o.wp P a w K Q else K (a.put o.dst undef) w:=by
 obtain⟨μ,FP,hW,hdd,hT⟩:=hs;unfold y31 at he;split at he
 ·rename_i bc o1 hc
  simp only[Option.some.injEq,Prod.mk.injEq]at he;obtain⟨rfl,rfl,rfl⟩:=he;obtain⟨hg,hbc,ho⟩:=ho;obtain⟨ho1,ho2⟩:=yk.1 ho;have hnil:allT []:=fun b hb=>absurd hb (by simp)
  have hcr:=ybf hnil (yif hT cc) (by rw[hc];exact ho1);rw[hc]at hcr;have hcv:=hcr.val_bool;have hx:=ybf hnil (yif hT (bif b then x else y)) ho2;rw[if_pos ((yje hT hgd).2 (yq2 hg))]
  have hrun:(do pure (Next.value (if <- asBool (a.eval cc)then a.eval x else a.eval y)):Sem Next).run P w=.ok (.value (a.eval (bif b then x else y))) w:=by
   rw[hcv,hbc];cases b<;>simp[asBool]
  exact y8f (by simp only[execOp,hop];exact hrun) rfl (hK _ _ (ylc.wrs hT hd ⟨_,μ,rfl,Next1.same hW hdd,hx⟩))
 ·cases he
theorem y67 (hΓ : TyOk P Γ) (hD : DOk P D) {κ : List (Nat × Nat)} {i : Nat} (hs : WRs c s a w) {x : AV} {h' : List Ent} {ob : List Prop} (he : yd2 Γ D all κ i s.t s.h o = some (x, h', ob)) (ho : allP ob)
  (hd:∀ d,o.dst=some d->d<c.nt) {K:Act->World->Prop} (hK:∀ a w,WRs c ⟨put s.t o.dst x,h'⟩ a w->K a w) :
  if Region.wanted o (yielded all a.tmps)then o.wp P a w K Q else K (a.put o.dst undef) w:=by
 unfold yd2 at he;split at he
 ·cases hgd:ysb all s.t o.guard with
  | none=>simp[hgd]at he
  | some g=>
   simp only[hgd]at he
   cases h1:ywe Γ D all s.t s.h { o with guard:=none } with
   | none=>simp[h1]at he
   | some p=>
    obtain⟨x1,h2,ob1⟩:=p;simp only[h1,Option.some.injEq,Prod.mk.injEq]at he;obtain⟨rfl,rfl,rfl⟩:=he;obtain⟨hg,ho⟩:=ho;have h3:=yrp (Q:=Q) (K:=K) (o:={ o with guard:=none }) hΓ hD hs h1 ho hd hK;have hw':Region.wanted { o with guard:=none } (yielded all a.tmps)=true:=by simp[Region.wanted]
    rw[if_pos hw']at h3;obtain⟨μ,FP,hW,hdd,hT⟩:=hs;rw[if_pos ((yje hT hgd).2 (yq2 hg))];exact h3
 ·cases hgd:ysb all s.t o.guard with
  | none=>simp[hgd]at he
  | some g=>
   simp only[hgd,Option.some.injEq,Prod.mk.injEq]at he;obtain⟨rfl,rfl,rfl⟩:=he;obtain⟨hg,_⟩:=ho;obtain⟨μ,FP,hW,hdd,hT⟩:=hs;have hnw:¬ Region.wanted o (yielded all a.tmps)=true:=fun h=>y89 hg ((yje hT hgd).1 h)
   rw[if_neg hnw];exact hK _ _ (ylc.wrs hT hd ⟨undef,μ,rfl,Next1.same hW hdd,by simp[Rep]⟩)
 ·split at he
  ·rename_i cc y z hop
   cases hgd:ysb all s.t o.guard with
   | none=>simp[hgd]at he
   | some g=>simp only[hgd]at he;exact y2n hs hop hgd he ho hd hK
  ·cases he
 ·split at he
  ·rename_i cc y z hop
   cases hgd:ysb all s.t o.guard with
   | none=>simp[hgd]at he
   | some g=>simp only[hgd]at he;exact y2n hs hop hgd he ho hd hK
  ·cases he
 ·exact yrp hΓ hD hs he ho hd hK
theorem yko (hΓ:TyOk P Γ) (hD:DOk P D) {κ:List (Nat×Nat)}:∀ {os:List Oper} {i:Nat} {s:St} {a:Act} {w:World} {t':List (Nat×AV)} {h':List Ent} {ob:List Prop},WRs c s a w->runK Γ D all κ i os s.t s.h=some (t',h',ob)->allP ob ->
  yfh c.nt os=true->(∀ a w,WRs c ⟨t',h'⟩ a w->Q .normal a w)->wpList P all Q os a w
 | [],i,s,a,w,t',h',ob,hs,hr,ho,hd,hQ=>by
  simp only[runK,Option.some.injEq,Prod.mk.injEq]at hr;obtain⟨rfl,rfl,_⟩:=hr;exact hQ a w hs
 | o::os,i,s,a,w,t',h',ob,hs,hr,ho,hd,hQ=>by
  simp only[runK]at hr
  cases h1:yd2 Γ D all κ i s.t s.h o with
  | none=>simp[h1]at hr
  | some p=>
   obtain⟨x,h2,ob1⟩:=p;simp only[h1]at hr
   cases h3:runK Γ D all κ (i+1) os (put s.t o.dst x) h2 with
   | none=>simp[h3]at hr
   | some q=>
    obtain⟨t3,h3',ob3⟩:=q;simp only[h3,Option.some.injEq,Prod.mk.injEq]at hr;obtain⟨rfl,rfl,rfl⟩:=hr;obtain⟨ho1,ho2⟩:=yk.1 ho;have hd':=ywo hd;refine wpList_step fun K hK => ?_
    exact y67 (Q:=Q) (K:=K) hΓ hD hs h1 ho1 hd'.1 (fun a' w' hs'=>hK a' w' (yko hΓ hD (s:=⟨put s.t o.dst x,h2⟩) hs' h3 ho2 hd'.2 hQ))
end
section
variable {P:Program} {Γ:Env} {D:Dn} {c:Ctx} {s:St} {N:St->Prop} {E:Nat->St->Prop} {R:St->Prop}
theorem AWP.regK {nt : Nat} (κ : List (Nat × Nat)) (hΓ : TyOk P Γ) (hD : DOk P D) (hn : c.nt = nt) {id : Nat} {ops : Array Oper} (hd : yfh nt ops.toList = true)
  (h:∀ K:St->Prop,(∀ s,N s->K s)->y1i (runK Γ D ops κ 0 ops.toList s.t s.h) K):AWP P c (.region id ops false) N E R s:=by
 refine⟨fun a w hs => ?_⟩;have h:=h _ fun _ h=>h
 unfold y1i at h;split at h
 ·rename_i t' h' ob hr
  exact wp_region_list (yko hΓ hD hs hr h.1 (by rw[hn];exact hd) fun a w hs'=>⟨_,h.2,hs'⟩)
 ·exact h.elim
end
end Go.Ab
namespace Go.Ab
open Go
def Num (_:Nat):Prop:=True
def NumK (_:List (Nat×Nat)):Prop:=True
section
variable [Inv] {P:Program} {c:Ctx} {N:St->Prop} {E:Nat->St->Prop} {R:St->Prop} {s:St} {Γ:Env} {D:Dn}
theorem AWP.regDN {m : Nat} (_ : Num m) {nt : Nat} (hmix : P.follows .mixedOrders = true) (hΓ : TyOk P Γ) (hD : DOk P D) (hn : c.nt = nt) {id : Nat} {ops : Array Oper} (hck : yzf ops m = true) (hd : yfh nt ops.toList = true)
  (h:∀ K:St->Prop,(∀ s,N s->K s)->y1i (run2 Γ D ops m s) K):AWP P c (.region id ops true) N E R s:=
 AWP.regD hmix hΓ hD hn m hck hd h
theorem AWP.regKN {κ : List (Nat × Nat)} (_ : NumK κ) {nt : Nat} (hΓ : TyOk P Γ) (hD : DOk P D) (hn : c.nt = nt) {id : Nat} {ops : Array Oper} (hd : yfh nt ops.toList = true)
  (h:∀ K:St->Prop,(∀ s,N s->K s)->y1i (runK Γ D ops κ 0 ops.toList s.t s.h) K):AWP P c (.region id ops false) N E R s:=
 AWP.regK κ hΓ hD hn hd h
end
theorem dn:∀ n:Nat,n<=n:=Nat.le_refl
theorem cput {c:Bool} {o:Nat} {vs A B:List AV}:(bif c then putL o vs (bif c then A else B)else(bif c then A else B))=bif c then putL o vs A else B:=by cases c<;>rfl
theorem ol:∀ n:Nat,n<=n:=Nat.le_refl
theorem cT {α:Type} {c:Bool} {a b r:α} (h:(bif c then a else b)=r) (hb:c=true):a=r:=by subst hb;exact h
theorem cF {α:Type} {c:Bool} {a b r:α} (h:(bif c then a else b)=r) (hb:c=false):b=r:=by subst hb;exact h
theorem ct {α:Type} {c:Bool} {a b r:α} (h:(bif c then a else b)=r) (hb:c=true:=by first|exact hb|(simp only[hb];done)|(simp only[*]at hb;simp only[hb];done)|(simp_all;done)):a=r:=cT h hb
theorem cf {α:Type} {c:Bool} {a b r:α} (h:(bif c then a else b)=r) (hb:c=false:=by first|exact hb|(simp only[hb];done)|(simp only[*]at hb;simp only[hb];done)|(simp_all;done)):b=r:=cF h hb
section
variable [Inv] {P:Program} {f:FuncId} {fn:Func} {code:Code} {xs:List AV} {r:AV} {N:Nat} {Γ:Env} {A:Array ResultVar}
theorem di (hf : P.funcs[f]? = some fn) (hN : fn.ntmps = N) (hr : fn.results = A) (h : ∀ c : Ctx, yzd xs -> c.nt = N -> c.k0 = 0 -> AWP P c code (Ends Γ A.toList r) (fun _ _ => False) (Ends Γ A.toList r) ⟨pars 0 xs, []⟩)
  (hb:fn.body=some code:=by rfl) (hΓ:TyOk P Γ:=by exact G_ok) (hname:(fn.name == "runtime.NumGoroutine")=false:=by kernel_rfl) (hlen:xs.length<=N:=by simp) (hx:y6d xs=true:=by rfl):Den P f xs r:=
 yj4 hΓ hf hname hb hN (by rw[hr]) hlen hx h
theorem dj {outs : List AV} {gb : List Bool} (hf : P.funcs[f]? = some fn) (hN : fn.ntmps = N) (hr : fn.results = A)
  (h:∀ c:Ctx,yzd xs->c.nt=N->c.k0=(adEL xs).length->AWP P c code (yhv Γ A.toList (posL gb (adRL 0 xs)) r outs) (fun _ _=>False) (yhv Γ A.toList (posL gb (adRL 0 xs)) r outs) ⟨pars 0 (adRL 0 xs),adEL xs⟩)
  (hb:fn.body=some code:=by rfl) (hΓ:TyOk P Γ:=by exact G_ok) (hname:(fn.name == "runtime.NumGoroutine")=false:=by kernel_rfl) (hlen:xs.length<=N:=by simp):DenM P f xs r outs:=
 yh0 hΓ hf hname hb hN (by rw[hr]) hlen h
end
theorem o0 {p:Prop} (h:p:=by(fail);(first|done|fail)):p:=h
theorem o1 {p:Prop} (h:p:=by(fail);(first|done|fail)):p:=h
theorem o2 {p:Prop} (h:p:=by(fail);(first|done|fail)):p:=h
theorem o3 {p:Prop} (h:p:=by(fail);(first|done|fail)):p:=h
theorem lx {p:Prop} (h:p:=by(fail);(first|done|fail)):p:=h
def bnd {α β:Type} (x:α) (f:α->β):β:=f x
theorem bn {α β:Type} {x:α} {f:α->β} {r:β} (h:bnd x f=r):f x=r:=h
theorem bndv {α β:Type} (x:α) (f:α->β):bnd x f=f x:=rfl
theorem gr {p:Prop} (h:p:=by(grind);(first|done|fail)):p:=h
theorem lxx {p:Prop} (h:p:=by((focus(rename_i i_ hi_;(repeat(first|(exfalso;omega)|(rcases i_ with _|i_;focus(first|rfl|(simp[elt,y9d,y1d,yz,yeb,yec,simO,sv];(first|done|fail))))));(first|done|fail))));(first|done|fail)):p:=h
theorem cl {p:Prop} (h:p:=by(first|trivial|decide|(and_intros<;>first|rfl|trivial|omega|(rw[IntKind.wrap_i64];omega)|(simp only[ln];(first|done|fail))|(simp only[ob,ln,bdv,ol,sv]at *;first|done|omega|exact gr)|(left;and_intros<;>(intro j hj;simp only[pw,Bool.cond_eq_ite,Bool.and_eq_true,decide_eq_true_eq];(repeat' split)<;>simp[putL,yz,yeb,y4b,ygc]))|(intro j hj;simp only[pw,Bool.cond_eq_ite];(repeat' split)<;>first|rfl|(simp[y9d,y1d,yz,yeb,y4b,ygc];(first|done|fail))|(left;simp[y9d,y1d,yz,yeb,y4b,ygc];(first|done|fail))|omega)|(intro j hj;simp only[pw,Bool.cond_eq_ite,Bool.and_eq_true,decide_eq_true_eq];(try rw[yot _ _ _ _ (by first|assumption|omega)]);(try rw[yav _ _ _ _ (by first|omega|(simp only[ob,ln,bdv,ol,sv]at *;omega))]);(repeat' split)<;>first|rfl|omega|exact y3 _|(simp_all;(first|done|fail))|(simp_all;rfl)|(simp_all;omega)|(simp_all;exact y3 _)|(simp[putL,y4b,ygc];(first|done|fail))|(simp only[List.length_append,yim,List.length_cons,List.length_nil,Nat.zero_add,Nat.add_zero]at *;first|omega|(rw[yot _ _ _ _ (by omega)];(try simp only[Nat.zero_add]);exact y3 _)|exact y3 _))));(first|done|fail)):p:=h
theorem sm {p:Prop} (h:p:=by((simp only[si,ea,gv,sv,hk,reduceCtorEq,reduceIte,Nat.reduceBEq,Nat.reduceAdd,Nat.reduceEqDiff,Nat.reduceLT,Nat.reduceLeDiff,Nat.reduceMul,Nat.reduceSub,BEq.rfl,beq_self_eq_true,Int.reduceToNat];first|done|exact o2|exact cl));(first|done|fail)):p:=h
theorem es {p:Prop} (h:p:=by((simp only[en,si,ea,gv,sv,hk,reduceCtorEq,reduceIte,Nat.reduceBEq,Nat.reduceAdd,Nat.reduceEqDiff,Nat.reduceLT,Nat.reduceLeDiff,Nat.reduceMul,Nat.reduceSub,BEq.rfl,beq_self_eq_true,Int.reduceToNat];first|done|exact o3|exact cl));(first|done|fail)):p:=h
theorem ot {p:Prop} (h:p:=by(first|exact o0|trivial|omega|(simp only[ob,ln,bdv,ol,sv]at *;omega)|((repeat' first|with_reducible apply And.intro|intro _)<;>first|trivial|omega|assumption|solve_by_elim|exact o1|exact lx|(right;exact sm)|(apply ytf<;>first|assumption|decide)|(apply ydbb<;>first|assumption|decide)|(simp only[ob,ln,bdv,ol,sv]at *;first|done|omega|assumption|(simp_all;(first|done|fail))|exact gr)));(first|done|fail)):p:=h
theorem wt {p:Prop} (h:p:=by(first|trivial|(and_intros<;>simp only[ln]<;>omega)|(and_intros<;>simp only[ob,ln,ol]at * <;> omega)|(and_intros<;>first|trivial|omega|assumption|(apply y5eb<;>first|assumption|(apply ytf<;>first|assumption|decide))|(apply y1eb<;>first|assumption|(apply ytf<;>first|assumption|decide))|(simp only[ob,ln,bdv,ol,sv]at *;omega)|(simp;(first|done|fail))));(first|done|fail)):p:=h
theorem ms {p:Prop} (h:p:=by(first|omega|(simp only[ob,ln,ol]at *;omega)|(simp only[ob,ln,bdv,ol,sv]at *;omega));(first|done|fail)):p:=h
theorem m0 {p:Prop} (h:p:=by(first|omega|(simp only[ob,ln,ol]at *;omega));(first|done|fail)):p:=h
theorem rS {P Q:Prop} (k:Q) (h:Q->P:=by intro k;(repeat first|refine AWP.seq ?_|refine AWP.block ?_|refine AWP.skip ?_);refine AWP.regS G_ok DD hc (by kernel_rfl) (fun K hK => ?_);simp only[List.append,ea,absV,yoc,cput,gv,sv,dn,reduceCtorEq,reduceIte,Nat.reduceBEq,Nat.reduceAdd,Nat.reduceEqDiff,Nat.reduceLT,Nat.reduceLeDiff,Nat.reduceMul,Nat.reduceSub,BEq.rfl,beq_self_eq_true,Int.reduceToNat];first|exact hK _ k|(refine⟨?_,hK _ k⟩;clear k hK K;exact ot)):P:=h k
theorem rD (m:Nat) {P Q:Prop} (k:Q) (h:Num m->Q->P:=by intro hm k;(repeat first|refine AWP.seq ?_|refine AWP.block ?_|refine AWP.skip ?_);refine AWP.regDN hm mixed G_ok DD hc (by kernel_rfl) (by kernel_rfl) (fun K hK => ?_);simp only[List.append,ea,absV,yoc,cput,gv,sv,dn,reduceCtorEq,reduceIte,Nat.reduceBEq,Nat.reduceAdd,Nat.reduceEqDiff,Nat.reduceLT,Nat.reduceLeDiff,Nat.reduceMul,Nat.reduceSub,BEq.rfl,beq_self_eq_true,Int.reduceToNat];first|exact hK _ k|(refine⟨?_,hK _ k⟩;clear k hK K;exact ot)):P:=h trivial k
theorem rK (κ:List (Nat×Nat)) {P Q:Prop} (k:Q) (h:NumK κ->Q->P:=by intro hm k;(repeat first|refine AWP.seq ?_|refine AWP.block ?_|refine AWP.skip ?_);refine AWP.regKN hm G_ok DD hc (by kernel_rfl) (fun K hK => ?_);simp only[runK,yd2,y0cb,y31,gT,gF,cond_true,cond_false,Bool.not_true,Bool.not_false,Bool.not_eq_true',Bool.not_eq_false',List.append,ea,absV,yoc,cput,gv,sv,dn,reduceCtorEq,reduceIte,Nat.reduceBEq,Nat.reduceAdd,Nat.reduceEqDiff,Nat.reduceLT,Nat.reduceLeDiff,Nat.reduceMul,Nat.reduceSub,BEq.rfl,beq_self_eq_true,Int.reduceToNat];first|exact hK _ k|(refine⟨?_,hK _ k⟩;clear k hK K;exact ot)):P:=h trivial k
theorem rZ (m:Nat) {P Q:Prop} (k:Q) (h:Num m->Q->P:=by intro hm k;(repeat first|refine AWP.seq ?_|refine AWP.block ?_|refine AWP.skip ?_);refine AWP.regDN hm mixed G_ok DZ hc (by kernel_rfl) (by kernel_rfl) (fun K hK => ?_);simp only[List.append,ea,absV,yoc,cput,gv,sv,dn,reduceCtorEq,reduceIte,Nat.reduceBEq,Nat.reduceAdd,Nat.reduceEqDiff,Nat.reduceLT,Nat.reduceLeDiff,Nat.reduceMul,Nat.reduceSub,BEq.rfl,beq_self_eq_true,Int.reduceToNat];first|exact hK _ k|(refine⟨?_,hK _ k⟩;clear k hK K;exact ot)):P:=h trivial k
theorem yb [Inv] {P:Program} {c:Ctx} {N:St->Prop} {E:Nat->St->Prop} {R:St->Prop} {s:St} {o:Operand} {x y:Code} {b:Bool} (ht:b=true->AWP P c x N E R s) (hf:b=false->AWP P c y N E R s) (ho:opnd s.t o=.bool b:=by rfl):AWP P c (.cond o x y) N E R s:=AWP.cond ho ht hf
theorem retE {p:Prop} (h:p:=by(refine AWP.ret ?_;subst hR;exact es);(first|done|fail)):p:=h
theorem retR {p:Prop} (h:p:=by(refine rS ?_;refine AWP.ret ?_;subst hR;exact es);(first|done|fail)):p:=h
theorem retX {p:Prop} (h:p:=by(rw[ybb (Nat.le_refl _)]at hz1;subst hz1;dsimp only at hR;refine AWP.exit ?_;refine yf ?_;refine rS ?_;refine AWP.ret ?_;subst hR;exact es);(first|done|fail)):p:=h
theorem lwS {n:Nat} (h:n<=9223372036854775807):n<9223372036854775808:=Nat.lt_succ_of_le h
theorem lwA [Inv] {α:Type} [Inhabited α] {e:Nat} {enc:α->List AV} {l:List α} (h:yhg (encL e enc l)):l.length<9223372036854775808:=Nat.lt_succ_of_le (yj h).1
theorem dk {A p:Prop} (den:A) (h:A->p:=by intro den;intro xs r z ob h ho;(try dsimp only at h);split at h;(focus(simp only[Option.some.injEq,Prod.mk.injEq]at h;obtain⟨rfl,rfl,rfl⟩:=h;(repeat(obtain⟨hh,ho⟩:=ho));refine Den.sim (by apply den<;>assumption) ?_ ?_ rfl;(focus((repeat' refine yv ?_ ?_)<;>first|exact trivial|exact(yke (by assumption)).1|exact(y63 (by assumption)).1|exact(yob (by assumption)).1|exact(yl4 (by assumption)).1|exact(ygs (by assumption)).1|exact(yx1 (by assumption)).1|exact y51 (by assumption)|exact ysr (by assumption)|exact yhab (by assumption)));(focus((repeat' refine y7 ?_ ?_)<;>first|exact(yke (by assumption)).2|exact(y63 (by assumption)).2|exact(yob (by assumption)).2|exact(yl4 (by assumption)).2|exact(ygs (by assumption)).2|exact(yx1 (by assumption)).2|rfl))));cases h):p:=h den
theorem dm {A p:Prop} (den:A) (h:A->p:=by intro den;intro xs r outs ob h ho;(try dsimp only at h);split at h;(focus(simp only[Option.some.injEq,Prod.mk.injEq]at h;obtain⟨rfl,rfl,rfl⟩:=h;(repeat(obtain⟨hh,ho⟩:=ho));refine DenM.sim (by apply den<;>assumption) ?_;(repeat' refine yv ?_ ?_)<;>first|exact trivial|exact(yke (by assumption)).1|exact(y63 (by assumption)).1|exact(yob (by assumption)).1|exact(yl4 (by assumption)).1|exact(ygs (by assumption)).1|exact(yx1 (by assumption)).1|exact y51 (by assumption)|exact ysr (by assumption)|exact yhab (by assumption)));cases h):p:=h den
end Go.Ab
