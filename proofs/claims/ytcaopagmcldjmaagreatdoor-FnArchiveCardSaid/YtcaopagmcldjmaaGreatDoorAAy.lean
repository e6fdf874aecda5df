/- A part of a proof: walks of functions and lemmas of our own. No conditions. -/
import Derived.Test.YtcaopagmcldjmaaGreatDoorAAr
import Derived.Test.YtcaopagmcldjmaaGreatDoorAAu
import Derived.Test.YtcaopagmcldjmaaGreatDoorAAn
import Derived.Test.YtcaopagmcldjmaaGreatDoorAAq
import Derived.Test.YtcaopagmcldjmaaGreatDoorAAo
import Derived.Test.YtcaopagmcldjmaaGreatDoorAAl
import Derived.Test.YtcaopagmcldjmaaGreatDoorAAx
import Derived.Test.YtcaopagmcldjmaaGreatDoorAAi
import Derived.Test.YtcaopagmcldjmaaGreatDoorAAs
set_option linter.unusedSectionVars false
set_option linter.unusedVariables false
set_option linter.unusedSimpArgs false
set_option maxHeartbeats 1000000
namespace Go.Ab
open Go Go.Proofs
theorem yhq {ρ σ τ:Type} {b1:Nat->σ->Except ρ σ} {b2:Nat->τ->Except ρ τ} (R:Nat->σ->τ->Prop):∀ {k i:Nat} {s:σ} {t:τ},R i s t ->
  (∀ j u v,i<=j->j<i+k->R j u v->(∃ r,b1 j u=.error r/\b2 j v=.error r)\/∃ u' v',b1 j u=.ok u'/\b2 j v=.ok v'/\R (j+1) u' v') ->
  (∃ r,yf b1 k i s=.error r/\yf b2 k i t=.error r)\/∃ u v,yf b1 k i s=.ok u/\yf b2 k i t=.ok v/\R (i+k) u v
 | 0,i,s,t,h,_=>.inr ⟨s,t,rfl,rfl,h⟩
 | k+1,i,s,t,h,hb=>by
  simp only[yf];rcases hb i s t (Nat.le_refl _) (by omega) h with⟨r,h1,h2⟩|⟨u,v,h1,h2,h3⟩
  ·rw[h1,h2];exact .inl ⟨r,rfl,rfl⟩
  ·rw[h1,h2]
   have:=yhq R (k:=k) (i:=i+1) h3 (fun j u v q1 q2 q3=>hb j u v (by omega) (by omega) q3);rwa [show i+1+k=i+(k+1)by omega]at this
theorem yqg {α σ ρ : Type} (p : α -> Bool) (f : σ -> α -> σ) (r : ρ) : ∀ (l : List α) (s : σ), y1h (fun x s => (bif !(p x) then .error r else .ok (f s x) : Except ρ σ)) l s = bif l.all p then .ok (l.foldl f s) else .error r
 | [],s=>by simp[y1h]
 | x::l,s=>by
  rw[ynf]
  cases hx:p x with
  | false=>simp[hx]
  | true=>
   simp only[Bool.not_true,cond_false,List.all_cons,hx,Bool.true_and,List.foldl_cons];exact yqg p f r l (f s x)
def y8v (g:List Int):Prop:=g.length<=4/\(∀ v∈g,1<=v/\v<=9)/\g.sum<=12/\g≠[1]
theorem ygf (g:List Int):g.all (fun v=>zg v 1 9)=true↔∀ v∈g,1<=v/\v<=9:=by
 rw[List.all_eq_true];exact⟨fun h v hv=>by simpa [zg]using h v hv,fun h v hv=>by simpa [zg]using h v hv⟩
theorem wsum (g:List Int) (h:g.length<=4) (hv:∀ v∈g,1<=v/\v<=9):g.foldl (fun s x=>IntKind.wrap .i64 (s+x)) 0=g.sum:=by
 have hw:∀ n:Int,-1000<=n->n<=1000->IntKind.wrap .i64 n=n:=fun n _ _=>by rw[IntKind.wrap_i64];omega
 match g,h,hv with
 | [],_,_=>rfl
 | [a],_,hv=>
  have:=hv a (by simp);simp only[List.foldl_cons,List.foldl_nil,List.sum_cons,List.sum_nil];rw[hw _ (by omega) (by omega)];omega
 | [a,b],_,hv=>
  have:=hv a (by simp);have:=hv b (by simp);simp only[List.foldl_cons,List.foldl_nil,List.sum_cons,List.sum_nil];rw[hw (0+a) (by omega) (by omega),hw _ (by omega) (by omega)];omega
 | [a,b,c],_,hv=>
  have:=hv a (by simp);have:=hv b (by simp);have:=hv c (by simp);simp only[List.foldl_cons,List.foldl_nil,List.sum_cons,List.sum_nil];rw[hw (0+a) (by omega) (by omega),hw (0+a+b) (by omega) (by omega),hw _ (by omega) (by omega)];omega
 | [a,b,c,d],_,hv=>
  have:=hv a (by simp);have:=hv b (by simp);have:=hv c (by simp);have:=hv d (by simp);simp only[List.foldl_cons,List.foldl_nil,List.sum_cons,List.sum_nil];rw[hw (0+a) (by omega) (by omega),hw (0+a+b) (by omega) (by omega),hw (0+a+b+c) (by omega) (by omega),hw _ (by omega) (by omega)];omega
theorem yw7 (x y:Int):(x != y) = !decide (x=y):=by by_cases h:x=y<;>simp[h]
theorem y7e (a b:List Int):zxc a b=decide (a=b):=by
 unfold zxc;by_cases hl:a.length=b.length
 ·have h1:((a.length:Int) != (b.length:Int))=false:=by rw[hl];simp
  rw[h1];simp only[cond_false]
  rw[ydd (b:=ynm a b) (fun j => !decide (a.getD j default=b.getD j default)) false (fun j u _ _=>by
   simp only[ynm,yw7])]
  simp only[Nat.sub_zero,Nat.zero_add];rw[yuy a b hl];by_cases h:a=b<;>simp[h]
 ·have h1:((a.length:Int) != (b.length:Int))=true:=by simp;omega
  rw[h1];have:¬ a=b:=fun h=>hl (by rw[h])
  simp[this]
theorem ytj (g:List Int):zvd g=true↔y8v g:=by
 unfold zvd;rw[yvc (b:=yfp g) (fun(x:Int) (s:Int)=>(bif !(zg x 1 9)then .error false else .ok (IntKind.wrap .i64 (s+x)):Except Bool Int)) g 0 (fun j u _=>rfl),yqg (fun x=>zg x 1 9) (fun s x=>IntKind.wrap .i64 (s+x)) false];unfold y8v
 cases ha:g.all (fun x=>zg x 1 9)with
 | false=>
  simp only[cond_false];constructor
  ·intro h;cases h
  ·rintro⟨_,h,_⟩
   rw[(ygf g).2 h]at ha;cases ha
 | true=>
  have hv:=(ygf g).1 ha;simp only[cond_true,y7e,zx,Bool.and_eq_true,decide_eq_true_eq,Bool.not_eq_true',decide_eq_false_iff_not];constructor
  ·rintro⟨⟨h1,h2⟩,h3⟩
   rw[wsum g (by omega) hv]at h2;exact⟨by omega,hv,h2,h3⟩
  ·rintro⟨h1,_,h2,h3⟩
   rw[wsum g h1 hv];exact⟨⟨by omega,h2⟩,h3⟩
theorem ygi (g:List Int):zlc g=true↔y8v g:=by
 unfold zlc;rw[yvc (b:=yip g) (fun(x:Int) (s:Unit)=>(bif !(zg x 1 9)then .error false else .ok ():Except Bool Unit)) g () (fun j u _=>rfl),yqg (fun x=>zg x 1 9) (fun(s:Unit) x=>()) false];unfold y8v
 cases ha:g.all (fun x=>zg x 1 9)with
 | false=>
  simp only[cond_false];constructor
  ·intro h;cases h
  ·rintro⟨_,h,_⟩
   rw[(ygf g).2 h]at ha;cases ha
 | true=>
  have hv:=(ygf g).1 ha
  have hsum:g.length<=4->(zre g<=12↔g.sum<=12):=by
   intro h4;unfold zre
   cases g with
   | nil=>simp
   | cons x t=>
    have h0:(((x::t).length:Int) == 0)=false:=by rw[beq_eq_false_iff_ne];simp only[List.length_cons];omega
    rw[h0];simp only[cond_false];rw[yvc (b:=ybp (x::t)) (fun(y:Int) (s:Int)=>(bif !((fun _=>true) y)then .error 0 else .ok (IntKind.wrap .i64 (s+y)):Except Int Int)) (x::t) 0 (fun j u _=>rfl),yqg (fun _=>true) (fun s x=>IntKind.wrap .i64 (s+x)) 0];rw[show(x::t).all (fun _=>true)=true by simp];simp only[cond_true];rw[wsum _ h4 hv]
  have hone:(!(((g.length:Int) == 1) && (g.getD 0 default == 1)))=true↔g≠[1]:=by
   match g with
   | []=>simp
   | [a]=>simp
   | a::b::t=>
    have:((((a::b::t).length:Int)) == 1)=false:=by rw[beq_eq_false_iff_ne];simp only[List.length_cons];omega
    rw[this];simp
  simp only[cond_true];rw[Bool.and_eq_true,Bool.and_eq_true,hone,decide_eq_true_eq,decide_eq_true_eq];constructor
  ·rintro⟨⟨h1,h2⟩,h3⟩
   exact⟨by omega,hv,(hsum (by omega)).1 h3,h2⟩
  ·rintro⟨h1,_,h2,h3⟩
   exact⟨⟨by omega,h3⟩,(hsum h1).2 h2⟩
set_option maxRecDepth 10000 in
theorem yy2:∀ n:Fin 256,zug (n.val:Int)=zcf [87,82,71,89] (n.val:Int)+1 /\ -1<=zcf [87,82,71,89] (n.val:Int):=by decide
theorem yf5 (b:UInt8):zug (b.toNat:Int)=zcf [87,82,71,89] (b.toNat:Int)+1 /\ -1<=zcf [87,82,71,89] (b.toNat:Int):=
 yy2 ⟨b.toNat,b.toNat_lt⟩
theorem yhp (s:List UInt8) (hl:s.length<9223372036854775808):zcc s=zmc s:=by
 unfold zcc zmc
 have hs:=yhq (b1:=y7g s) (b2:=yfh s) (fun i (x:Int) (_:Unit)=>if i=0 then x = -1 else x+1=zug ((s.getD (i-1) 0).toNat:Int)/\0<=x) (k:=s.length-0) (i:=0) (s := -1) (t:=()) (by simp) (by
  intro j x u _ hj h;unfold y7g yfh;obtain⟨r1,r2⟩:=yf5 (s.getD j 0);rw[r1];generalize zcf [87,82,71,89] ((s.getD j 0).toNat:Int)=p at *;by_cases h0:j=0
  ·subst h0
   rw[if_pos rfl]at h;subst h;simp only[Int.natCast_zero,show decide ((0:Int)<0)=false from rfl,Bool.false_and,Bool.or_false];by_cases hp:p = -1
   ·subst hp;left;exact⟨false,rfl,rfl⟩
   ·right
    have d1:decide (p <= -1)=false:=decide_eq_false (by omega);have d2:(p+1 == 0)=false:=by rw[beq_eq_false_iff_ne];omega
    rw[d1,d2];exact⟨p,(),rfl,rfl,by rw[if_neg (by omega)];exact⟨r1.symm,by omega⟩⟩
  ·rw[if_neg h0]at h
   obtain⟨h1,h2⟩:=h;have d3:decide (0<(j:Int))=true:=decide_eq_true (by omega);have hw:(IntKind.wrap .i64 ((j:Int)-1)).toNat=j-1:=by rw[IntKind.wrap_i64];omega
   rw[d3,hw, <- h1];simp only[Bool.true_and];by_cases hp:p<=x
   ·left
    have d1:decide (p<=x)=true:=decide_eq_true hp
    have d2:(p+1 == 0 || decide (p+1<=x+1))=true:=by
     rw[Bool.or_eq_true,decide_eq_true_eq];right;omega
    rw[d1,d2];exact⟨false,rfl,rfl⟩
   ·right
    have d1:decide (p<=x)=false:=decide_eq_false hp
    have d2:(p+1 == 0 || decide (p+1<=x+1))=false:=by
     rw[Bool.or_eq_false_iff,beq_eq_false_iff_ne,decide_eq_false_iff_not];omega
    rw[d1,d2]
    exact⟨p,(),rfl,rfl,by rw[if_neg (by omega)];exact⟨by rw[show j+1-1=j by omega];exact r1.symm,by omega⟩⟩)
 rcases hs with⟨r,h1,h2⟩|⟨u,v,h1,h2,_⟩
 ·rw[h1,h2]
 ·rw[h1,h2]
  simp only[zg]
theorem ya6 {g:List Int} (h:g.length=1) (lo hi:Int) (hr:lo<=g.getD 0 default/\g.getD 0 default<=hi):∀ v∈g,lo<=v/\v<=hi:=by
 obtain⟨x,rfl⟩:=List.length_eq_one_iff.1 h;intro v hv;rw[List.mem_singleton]at hv;subst hv;simpa using hr
theorem y1r {g:List Int} (h:(g.length:Int)=0):g.length<=4/\∀ v∈g,1<=v/\v<=9:=by
 have:g=[]:=List.length_eq_zero_iff.1 (by omega);subst this;simp
theorem yle (a:Character) (h:zob a=true):a.Group.length<=4/\∀ v∈a.Group,1<=v/\v<=9:=by
  unfold zob at h;simp only[Bool.cond_eq_ite]at h;repeat' split at h
  all_goals (try simp only[Bool.and_eq_true,Bool.or_eq_true,beq_iff_eq,y7e,decide_eq_true_eq,zg]at h)
  all_goals first
    | exact y1r h.1
    | exact y1r h.2
    | (have:=(ytj _).1 h.2;exact⟨this.1,this.2.1⟩)
    | (rcases h with h | h
       . exact y1r h
       . exact⟨by omega,fun v hv=>by have:=ya6 (g:=a.Group) (by omega) 2 9 h.2 v hv;omega⟩)
    | (rw[h.2];simp)
    | (cases h)
def zgb (a0:Character):Bool:=
 (bif ((!(zcc a0.Colors)) || (!(zob a0)))then false else(bif (zld a0)then(a0.Period == 0)else((zg a0.Period (zdg a0) 600) && ((a0.Kind != 3) || ((a0.Period.tmod 2) == 0)))))
namespace N96
theorem DD:DOk Tryz.prog (Go.Ab.DD [(138,dP D_zcc),(139,dP D_zob),(140,dP D_zld),(141,dP D_zdg),(81,dP D_zg)]):=ya y20.e <| ya y01.e <| ya y9s.e <| ya y92.e <| ya yhc.e <| yd _
theorem dn:type_of% (And.intro @D_zcc.eq_1 <| And.intro @D_zob.eq_1 <| And.intro @D_zld.eq_1 <| And.intro @D_zdg.eq_1 <| @D_zg.eq_1):=by and_intros<;>intros<;>rfl
theorem ol:type_of% (@zg.eq_1):=@zg.eq_1
theorem o0 {p:Prop} (h:p:=by(first|(have q9 := ‹(!zcc a0.Colors || !zob a0)=false›;have h9:=yle a0 (by simp only[Bool.or_eq_false_iff,Bool.not_eq_false']at q9;exact q9.2);first|exact⟨hb0,h9.1,fun v hv=>(h9.2 v hv).2,fun _ _=>by decide⟩|exact⟨hb0,h9.1,fun v hv=>(h9.2 v hv).2⟩|exact h9.1));first|done|fail):p:=h
theorem den (a0:Character) (hb0:bdCharacter a0):Den Tryz.prog 96 [.agg (yq a0)] (.bool (zgb a0)):=by
 generalize hR:zgb a0=r;unfold zgb at hR;refine di Tryz.func96 Tryz.ntmps96 Tryz.results96 ?_;intro c hL hc hk;obtain⟨hL0,_⟩:=hL;have hw0:bwCharacter a0:=yz a0 hL0;clear hL0;simp only[pars,Nat.zero_add];iterate 2 refine rS ?_
 refine AWP.cond rfl (fun hb => ?_) (fun hb => ?_)
 ·replace hR:=ct hR
  refine rS ?_;refine AWP.ret ?_;subst hR;exact es
 ·replace hR:=cf hR
  refine rS ?_;refine AWP.cond rfl (fun hb => ?_) (fun hb => ?_)
  ·replace hR:=ct hR
   refine rS ?_;refine AWP.ret ?_;subst hR;exact es
  ·replace hR:=cf hR
   refine rD 16 ?_;refine AWP.ret ?_;subst hR;exact es
end N96
def D_zgb : DF
 | [x0]=>some (.bool (zgb (rdG ye x0)),false,[wG yq ye x0,bdCharacter (rdG ye x0)])
 | _=>none
theorem yfn:OkD Tryz.prog 96 D_zgb:=by unfold D_zgb;exact dk N96.den
theorem yf1 (g:List Int):zvd g=zlc g:=Bool.eq_iff_iff.2 ((ytj g).trans (ygi g).symm)
theorem yan (a:List UInt8):(zdc a != [])=decide (a.length=1/\65<=(a.getD 0 0).toNat/\(a.getD 0 0).toNat<=90):=by
 rw[yyi];by_cases h:a.length=1/\65<=(a.getD 0 0).toNat/\(a.getD 0 0).toNat<=90
 ·rw[if_pos h,decide_eq_true h]
  have hlt:(a.getD 0 0).toNat-65<y6c.length:=by show _<26;omega
  rw[List.getD_eq_getElem?_getD,List.getElem?_eq_getElem hlt,Option.getD_some];have:=(yhh _ (List.getElem_mem hlt)).1;rw[bne_iff_ne];intro h2;rw[h2]at this;simp at this
 ·rw[if_neg h,decide_eq_false h];rfl
theorem y3z (L:List UInt8) (g:List Int) :
  (bif (L == [])then(((g.length:Int) == 0) || (((g.length:Int) == 1) && (zg (g.getD 0 default) 2 9)))else((L == [76]) && (zxc g [6]))) =
  (bif (L == [76])then(((g.length:Int) == 1) && ((g.getD 0 default) == 6))else(((L == []) && decide ((g.length:Int)<=1)) && (zlc g))):=by
 by_cases h1:L=[]
 ·subst h1
  simp only[show(([]:List UInt8) == [])=true from rfl,show(([]:List UInt8) == [76])=false from rfl,cond_true,cond_false,Bool.true_and];apply Bool.eq_iff_iff.2;rw[Bool.and_eq_true,ygi,decide_eq_true_eq]
  match g with
  | []=>simp[y8v]
  | [x]=>
   have e:((([x]:List Int).length:Int) == 0)=false:=rfl;have e2:((([x]:List Int).length:Int) == 1)=true:=rfl;rw[e,e2];simp only[Bool.false_or,Bool.true_and,zg,Bool.and_eq_true,decide_eq_true_eq,List.getD_cons_zero,y8v,List.length_singleton,List.mem_singleton,forall_eq,List.sum_cons,List.sum_nil,ne_eq,List.cons.injEq,and_true];omega
  | x::y::t=>
   have e:(((x::y::t).length:Int) == 0)=false:=by rw[beq_eq_false_iff_ne];simp only[List.length_cons];omega
   have e2:(((x::y::t).length:Int) == 1)=false:=by rw[beq_eq_false_iff_ne];simp only[List.length_cons];omega
   rw[e,e2];simp only[Bool.false_and,Bool.or_self,Bool.false_eq_true,false_iff,List.length_cons];omega
 ·have e1:(L == [])=false:=by simpa using h1
  rw[e1];by_cases h2:L=[76]
  ·subst h2
   simp only[BEq.rfl,cond_true,cond_false,Bool.true_and,y7e];apply Bool.eq_iff_iff.2;rw[Bool.and_eq_true,decide_eq_true_eq,beq_iff_eq,beq_iff_eq];constructor
   ·intro h;subst h;simp
   ·rintro⟨h3,h4⟩
    obtain⟨x,rfl⟩:=List.length_eq_one_iff.1 (show g.length=1 by omega);simp only[List.getD_cons_zero]at h4;rw[h4]
  ·have e2:(L == [76])=false:=by simpa using h2
   rw[e2];simp
theorem yy1 (c:Character) (hl:c.Colors.length<9223372036854775808):ztg c=(zcc c.Colors && zob c):=by
 unfold ztg zob zwg zv;rw[yhp _ hl, <- y3z,yf1,yan]
 cases zmc c.Colors with
 | false=>simp
 | true=>
  simp only[Bool.not_true,Bool.or_false,Bool.true_and];rcases(show c.Kind=1\/c.Kind=2\/c.Kind=3\/c.Kind=4\/c.Kind=5\/c.Kind=6\/c.Kind=7\/c.Kind=8\/(c.Kind<1\/8<c.Kind)by omega)with h|h|h|h|h|h|h|h|h
  ·rw[h];rfl
  ·rw[h];rfl
  ·rw[h];rfl
  ·rw[h];rfl
  ·rw[h];rfl
  ·rw[h];rfl
  ·rw[h];rfl
  ·rw[h]
   show((((((c.Group.length:Int) == 0) && ((c.Letter.length:Int) == 1)) && decide (65<=((c.Letter.getD 0 0).toNat:Int))) && decide (((c.Letter.getD 0 0).toNat:Int)<=90)))=(decide (c.Letter.length=1/\65<=(c.Letter.getD 0 0).toNat/\(c.Letter.getD 0 0).toNat<=90) && ((c.Group.length:Int) == 0))
   apply Bool.eq_iff_iff.2;simp only[Bool.and_eq_true,beq_iff_eq,decide_eq_true_eq];omega
  ·have e0:(decide (1<=c.Kind) && decide (c.Kind<=8))=false:=by
    rw[Bool.and_eq_false_iff,decide_eq_false_iff_not,decide_eq_false_iff_not];omega
   have e:∀ n:Int,1<=n->n<=8->(c.Kind == n)=false:=fun n h1 h2=>by rw[beq_eq_false_iff_ne];omega
   rw[e0,e 1 (by omega) (by omega),e 2 (by omega) (by omega),e 3 (by omega) (by omega),e 4 (by omega) (by omega),e 5 (by omega) (by omega),e 6 (by omega) (by omega),e 7 (by omega) (by omega),e 8 (by omega) (by omega)];rfl
theorem yf7 (l:List Int):zve l=zbe l:=rfl
theorem ylk (c:Character):zld c=zkb c:=rfl
theorem yby (c:Character) (h:zob c=true) (h8:c.Kind≠8):(c.Letter != [])=(c.Letter == [76]):=by
 unfold zob at h;simp only[Bool.cond_eq_ite]at h;have e8:(c.Kind == 8)=false:=by rw[beq_eq_false_iff_ne];exact h8
 repeat' split at h
 all_goals first
  | (rename_i q;rw[e8]at q;cases q;done)
  | (cases h;done)
  | (simp only[Bool.and_eq_true,beq_iff_eq]at h;rw[h.2];rfl)
  | (simp only[Bool.and_eq_true,beq_iff_eq]at h;rw[h.1];rfl)
  | (rename_i q;simp only[beq_iff_eq]at q;rw[q];rfl)
theorem ymx (k:Int) (h:k=2\/k=4\/k=5\/k=6\/k=7\/k=8):(zdb k).1=zke k/\(zdb k).2.1=zkc k:=by
 rcases h with h|h|h|h|h|h<;>subst h<;>exact⟨rfl,rfl⟩
theorem yt0 (c:Character) (h:zob c=true) (hk:c.Kind=2\/c.Kind=4\/c.Kind=5\/c.Kind=6\/c.Kind=7\/c.Kind=8):zbb c=zw c:=by
 obtain⟨r1,r2⟩:=ymx c.Kind hk;by_cases h8:c.Kind=8
 ·have hs:(zdc c.Letter != [])=true:=by
   unfold zob at h;rw[h8]at h;have h:(((zdc c.Letter) != []) && ((c.Group.length:Int) == 0))=true:=h;rw[Bool.and_eq_true]at h;exact h.1
  rw[yan,decide_eq_true_eq]at hs;have e1:=yyi c.Letter;rw[if_pos hs]at e1;have e2:=y2f ((c.Letter.getD 0 0).toNat:Int);rw[yvk _ (by omega) (by omega),show((((c.Letter.getD 0 0).toNat:Int)-65).toNat)=(c.Letter.getD 0 0).toNat-65 by omega]at e2;have hd:(default:List UInt8)=[]:=rfl;rw[hd]at e2
  have hall:∀ x∈y6c.getD ((c.Letter.getD 0 0).toNat-65) [],x=45\/x=46:=by
   have hlt:(c.Letter.getD 0 0).toNat-65<y6c.length:=by show _<26;omega
   rw[List.getD_eq_getElem?_getD,List.getElem?_eq_getElem hlt,Option.getD_some];exact(yhh _ (List.getElem_mem hlt)).2.2
  generalize y6c.getD ((c.Letter.getD 0 0).toNat-65) []=code at *
  have hb:yf (yzl c) code.length 0 []=yf (yqp c) code.length 0 []:=ybl _ _ _ (fun j u _ hj=>by
   unfold yzl yqp;rw[e1,e2,r1,r2,h8]
   have hg:(code.map (fun c=>if c=46 then(5:Int)else 15)).getD j default=if code.getD j 0=46 then 5 else 15:=by
    rw[List.getD_eq_getElem?_getD,List.getD_eq_getElem?_getD,List.getElem?_map,List.getElem?_eq_getElem (by omega)];rfl
   rw[hg];have hm:=hall (code.getD j 0) (by rw[List.getD_eq_getElem?_getD,List.getElem?_eq_getElem (by omega),Option.getD_some];exact List.getElem_mem _);generalize code.getD j 0=x at hm
   rcases hm with hm|hm<;>subst hm<;>rfl)
  unfold zbb zw;rw[h8,e1,e2];simp only[List.length_map,Nat.sub_zero];rw[hb];rfl
 ·have e8:(c.Kind == 8)=false:=by rw[beq_eq_false_iff_ne];exact h8
  unfold zbb zw;rw[e8,yby c h h8,r2]
  have b3:yml c=ygr c:=by
   funext i s j t
   unfold yml ygr;rw[r1,r2]
  have b5:ytl c=yvq c:=by
   funext i s j t
   unfold ytl yvq;rw[r1,r2]
  have b2:y6l c=yer c:=by
   funext i s
   unfold y6l yer;rw[b3];all_goals rfl
  have b4:y5l c=ysp c:=by
   funext i s
   unfold y5l ysp;rw[b5];all_goals rfl
  rw[b2,b4];rfl
theorem yvt (c:Character) (h:zob c=true) (hs:zld c=false):zdg c=zp c:=by
 unfold zdg zp;rw[hs, <- ylk,hs];simp only[cond_false];by_cases h3:c.Kind=3
 ·rw[h3];rfl
 ·have e3:(c.Kind == 3)=false:=by rw[beq_eq_false_iff_ne];exact h3
  rw[e3];simp only[cond_false]
  have hk:c.Kind=2\/c.Kind=4\/c.Kind=5\/c.Kind=6\/c.Kind=7\/c.Kind=8:=by
   unfold zob at h;unfold zld at hs;simp only[Bool.cond_eq_ite]at h;simp only[Bool.or_eq_false_iff,beq_eq_false_iff_ne]at hs;repeat' split at h
   all_goals (try simp only[beq_iff_eq]at *)
   all_goals first|omega|(cases h;done)
  rw[yt0 c h hk,yf7];have hg:=(yle c h).1
  have hone:c.Kind=6\/c.Kind=7\/c.Kind=8->c.Group.length<=1:=by
   intro hq;unfold zob at h;simp only[Bool.cond_eq_ite]at h;repeat' split at h
   all_goals (try simp only[Bool.and_eq_true,Bool.or_eq_true,beq_iff_eq,y7e,decide_eq_true_eq]at *)
   all_goals first|omega|(rcases h with h|h<;>omega)|(rw[h.2];simp)
  have e1:∀ n:Int,IntKind.wrap .i64 n=n\/True:=fun _=>.inr trivial
  unfold zof;rcases hk with hk|hk|hk|hk|hk|hk
  ·rw[hk]
   cases decide (1<(c.Group.length:Int))<;>rfl
  ·rw[hk]
   cases decide (1<(c.Group.length:Int))<;>rfl
  ·rw[hk]
   cases decide (1<(c.Group.length:Int))<;>rfl
  ·have:=hone (by omega)
   rw[hk,decide_eq_false (show ¬ 1<(c.Group.length:Int)by omega)];rfl
  ·have:=hone (by omega)
   rw[hk,decide_eq_false (show ¬ 1<(c.Group.length:Int)by omega)];rfl
  ·have:=hone (by omega)
   rw[hk,decide_eq_false (show ¬ 1<(c.Group.length:Int)by omega)];rfl
theorem y4i (c:Character) (hl:c.Colors.length<9223372036854775808):zgb c=zse c:=by
 unfold zgb zse;rw[yy1 c hl, <- ylk]
 cases h1:zcc c.Colors with
 | false=>rfl
 | true=>
  cases h2:zob c with
  | false=>rfl
  | true=>
   cases h3:zld c with
   | true=>rfl
   | false=>
    rw[yvt c h2 h3];simp only[Bool.not_true,Bool.or_self,Bool.and_self,cond_false,zg,zv]
    cases h4:(c.Kind == 3)with
    | false=>
     have:(c.Kind != 3)=true:=by rw[bne,h4];rfl
     rw[this];simp
    | true=>
     have:(c.Kind != 3)=false:=by rw[bne,h4];rfl
     rw[this];simp only[Bool.false_or,Bool.true_and]
     cases h5:(c.Period.tmod 2 == 0)with
     | true=>
      have:(c.Period.tmod 2 != 0)=false:=by rw[bne,h5];rfl
      rw[this];simp
     | false=>
      have:(c.Period.tmod 2 != 0)=true:=by rw[bne,h5];rfl
      rw[this];simp
theorem yv6 (s:List UInt8) (c:UInt8) : -1<=Go.Lib.indexByte s c/\(0<=Go.Lib.indexByte s c↔c∈s):=by
 induction s with
 | nil=>simp[Go.Lib.indexByte]
 | cons b l ih=>
  obtain⟨i1,i2⟩:=ih;by_cases hb:b=c
  ·subst hb;simp[Go.Lib.indexByte]
  ·have hb2:¬ c=b:=fun h=>hb h.symm
   have e1:(b == c)=false:=by simpa using hb
   by_cases hm:c∈l
   ·have h0:=i2.2 hm
    have e2:(Go.Lib.indexByte l c == -1)=false:=by rw[beq_eq_false_iff_ne];omega
    have e3:Go.Lib.indexByte (b::l) c=Go.Lib.indexByte l c+1:=by simp only[Go.Lib.indexByte,e1,e2,Bool.false_eq_true,if_false]
    rw[e3];exact⟨by omega,fun _=>List.mem_cons_of_mem _ hm,fun _=>by omega⟩
   ·have h0:¬ 0<=Go.Lib.indexByte l c:=fun h=>hm (i2.1 h)
    have e0:Go.Lib.indexByte l c = -1:=by omega
    have e3:Go.Lib.indexByte (b::l) c = -1:=by simp only[Go.Lib.indexByte,e1,e0,Bool.false_eq_true,if_false];rfl
    rw[e3];refine⟨by omega,fun h=>by omega,fun h => ?_⟩;rcases List.mem_cons.1 h with h|h
    ·exact absurd h hb2
    ·exact absurd h hm
theorem y7r (s:List UInt8) (c:UInt8):zbc s [c]=decide (c∈s):=by
 unfold zbc;rw[List.getD_cons_zero];exact decide_eq_decide.2 (yv6 s c).2
theorem yz1 (s:List UInt8) (c:UInt8):zbc (s++[c]) [c]=true:=by
 rw[y7r];simp
theorem yh7 (s:List UInt8) (b c:UInt8) (h:b≠c):zbc (s++[b]) [c]=zbc s [c]:=by
 rw[y7r,y7r];have:¬ c=b:=fun e=>h e.symm
 simp[this]
theorem yft (c:UInt8) (g:Sector->List UInt8->Except (List UInt8) (List UInt8)) (hg:∀ x u,g x u=bif ((x.Color == [c]) && (!(zbc u [c])))then .ok (u++[c])else .ok u) :
  ∀ (l:List Sector) (u:List UInt8),zbc u [c]=true->y1h g l u=.ok u
 | [],u,_=>rfl
 | x::l,u,h=>by
  rw[ynf,hg,h,Bool.not_true,Bool.and_false];exact yft c g hg l u h
theorem y2y (c:UInt8) (g:Sector->List UInt8->Except (List UInt8) (List UInt8)) (hg:∀ x u,g x u=bif ((x.Color == [c]) && (!(zbc u [c])))then .ok (u++[c])else .ok u) :
  ∀ (l:List Sector) (u:List UInt8),zbc u [c]=false->y1h g l u=.ok (bif l.any (fun x=>x.Color == [c])then u++[c]else u)
 | [],u,_=>rfl
 | x::l,u,h=>by
  rw[ynf,hg,h,Bool.not_false,Bool.and_true,List.any_cons]
  cases hx:(x.Color == [c])with
  | true=>
   simp only[cond_true,Bool.true_or];exact yft c g hg l _ (yz1 u c)
  | false=>
   simp only[cond_false,Bool.false_or];exact y2y c g hg l u h
theorem ypw (c:List UInt8) (g:Sector->List UInt8->Except (Sum (List UInt8) (List UInt8)) (List UInt8)) (hg:∀ x u,g x u=bif (x.Color == c)then .error (.inr (u++c))else .ok u) :
  ∀ (l:List Sector) (u:List UInt8),y1h g l u=bif l.any (fun x=>x.Color == c)then .error (.inr (u++c))else .ok u
 | [],u=>rfl
 | x::l,u=>by
  rw[ynf,hg,List.any_cons]
  cases hx:(x.Color == c)with
  | true=>rfl
  | false=>
   simp only[cond_false,Bool.false_or];exact ypw c g hg l u
def yvd (a:List Sector) (s:List UInt8) (c:UInt8):List UInt8:=bif a.any (fun x=>x.Color == [c])then s++[c]else s
theorem ypf (a:List Sector) (i:Nat) (s:List UInt8) (c:UInt8) (h4:i<4) (hc:(([87,82,71,89].take ((IntKind.wrap .i64 ((i:Int)+1)).toNat)).drop i)=[c]) (h:zbc s [c]=false) :
  y9k a i s=.ok (yvd a s c):=by
 unfold y9k;rw[yvc (fun x u=>bif ((x.Color == [c]) && (!(zbc u [c])))then .ok (u++[c])else .ok u) a s (fun j u _=>by simp only[y3q,hc])];rw[y2y c _ (fun _ _=>rfl) a s h];rfl
theorem yic (a:List Sector) (i:Nat) (s:List UInt8) (c:UInt8) (hc:([[87],[82],[71],[89]]:List (List UInt8)).getD i default=[c]):yjl a i s=.ok (yvd a s c):=by
 unfold yjl;rw[yvc (fun x u=>bif (x.Color == [c])then .error (.inr (u++[c]))else .ok u) a s (fun j u _=>by simp only[y7q,hc])];rw[ypw [c] _ (fun _ _=>rfl) a s];unfold yvd;cases a.any (fun x=>x.Color == [c])<;>rfl
theorem yxc (a:List Sector) (s:List UInt8) (b c:UInt8) (h:b≠c):zbc (yvd a s b) [c]=zbc s [c]:=by
 unfold yvd
 cases a.any (fun x=>x.Color == [b])with
 | true=>exact yh7 s b c h
 | false=>rfl
theorem yfi (a:List Sector):zad a=zlb a:=by
 unfold zad zlb;have n0:∀ c:UInt8,zbc [] [c]=false:=by intro c;simp[zbc,Go.Lib.indexByte]
 have l4:([87,82,71,89]:List Nat).length-0=4:=rfl;rw[l4];simp only[yf,Nat.sub_zero];rw[ypf a 0 [] 87 (by omega) rfl (n0 _),yic a 0 [] 87 rfl];simp only;rw[ypf a (0+1) _ 82 (by omega) rfl (by rw[yxc _ _ _ _ (by decide)];exact n0 _),yic a (0+1) _ 82 rfl];simp only;rw[ypf a (0+1+1) _ 71 (by omega) rfl (by rw[yxc _ _ _ _ (by decide),yxc _ _ _ _ (by decide)];exact n0 _),yic a (0+1+1) _ 71 rfl];simp only;rw[ypf a (0+1+1+1) _ 89 (by omega) rfl (by rw[yxc _ _ _ _ (by decide),yxc _ _ _ _ (by decide),yxc _ _ _ _ (by decide)];exact n0 _),yic a (0+1+1+1) _ 89 rfl]
def zte (a0:Aid):Bool:=
 (bif (((!(zgb a0.Light)) || (!(zeg a0.Intensity))) || (!(zhb a0.Sectors)))then false else(bif ((a0.Sectors.length:Int) == 0)then((a0.Light.Colors.length:Int) == 1)else((zad a0.Sectors) == a0.Light.Colors)))
namespace N57
theorem DD:DOk Tryz.prog (Go.Ab.DD [(96,dP D_zgb),(97,dP D_zeg),(98,dP D_zhb),(99,dP D_zad)]):=ya yfn.e <| ya yj3.e <| ya y3m.e <| ya yn0.e <| yd _
theorem dn:type_of% (And.intro @D_zgb.eq_1 <| And.intro @D_zeg.eq_1 <| And.intro @D_zhb.eq_1 <| @D_zad.eq_1):=by and_intros<;>intros<;>rfl
theorem den (a0:Aid) (hb0:bdAid a0):Den Tryz.prog 57 [.agg (eAid a0)] (.bool (zte a0)):=by
 generalize hR:zte a0=r;unfold zte at hR;refine di Tryz.func57 Tryz.ntmps57 Tryz.results57 ?_;intro c hL hc hk;obtain⟨hL0,_⟩:=hL;have hw0:bwAid a0:=ylb a0 hL0;clear hL0;simp only[pars,Nat.zero_add];iterate 2 refine rS ?_
 refine AWP.cond rfl (fun hb => ?_) (fun hb => ?_)
 ·replace hR:=ct hR
  refine rS ?_;refine AWP.ret ?_;subst hR;exact es
 ·replace hR:=cf hR
  refine rS ?_;refine AWP.cond rfl (fun hb => ?_) (fun hb => ?_)
  ·replace hR:=ct hR
   refine rS ?_;refine AWP.ret ?_;subst hR;exact es
  ·replace hR:=cf hR
   refine rD 6 ?_;refine AWP.ret ?_;subst hR;exact es
end N57
def D_zte : DF
 | [x0]=>some (.bool (zte (rdG dAid x0)),false,[wG eAid dAid x0,bdAid (rdG dAid x0)])
 | _=>none
theorem you:OkD Tryz.prog 57 D_zte:=by unfold D_zte;exact dk N57.den
def zze (a0:Aid):Bool:=
 ((((((zkg a0.Number) && (zqc a0.Name)) && (zpd a0.At)) && (zlg a0.Height)) && (zzc a0.Mark)) && ((zte a0) || (zfg a0)))
namespace N55
theorem DD:DOk Tryz.prog (Go.Ab.DD [(57,dP D_zte),(77,dP D_zqc),(85,dP D_zkg),(86,dP D_zpd),(87,dP D_zlg),(88,dP D_zzc),(89,dP D_zfg)]):=ya you.e <| ya yqn.e <| ya yx1.e <| ya yum.e <| ya yqz.e <| ya ywm.e <| ya yl1.e <| yd _
theorem dn:type_of% (And.intro @D_zte.eq_1 <| And.intro @D_zqc.eq_1 <| And.intro @D_zkg.eq_1 <| And.intro @D_zpd.eq_1 <| And.intro @D_zlg.eq_1 <| And.intro @D_zzc.eq_1 <| @D_zfg.eq_1):=by and_intros<;>intros<;>rfl
theorem den (a0:Aid) (hb0:bdAid a0):Den Tryz.prog 55 [.agg (eAid a0)] (.bool (zze a0)):=by
 generalize hR:zze a0=r;unfold zze at hR;refine di Tryz.func55 Tryz.ntmps55 Tryz.results55 ?_;intro c hL hc hk;obtain⟨hL0,_⟩:=hL;have hw0:bwAid a0:=ylb a0 hL0;clear hL0;simp only[pars,Nat.zero_add];iterate 2 refine rS ?_
 refine AWP.ret ?_;subst hR;exact es
end N55
def D_zze : DF
 | [x0]=>some (.bool (zze (rdG dAid x0)),false,[wG eAid dAid x0,bdAid (rdG dAid x0)])
 | _=>none
theorem y7s:OkD Tryz.prog 55 D_zze:=by unfold D_zze;exact dk N55.den
def ysk (a0:(List Aid)) (i1:Nat) (s1:Unit):Except (Bool) (Unit):=
 (bif ((!(zze (a0.getD i1 default))) || (decide (0<(i1:Int)) && decide (((a0.getD i1 default).Number)<=((a0.getD ((IntKind.wrap .i64 ((i1:Int)-1)).toNat) default).Number))))then .error false else .ok ())
def zmd (a0:(List Aid)):Bool:=
 (match yf (ysk a0) (a0.length-0) 0 ()with|.error e=>e|.ok s1=>(zx (a0.length:Int) 24))
namespace N33
theorem DD:DOk Tryz.prog (Go.Ab.DD [(23,dP D_zx),(55,dP D_zze)]):=ya yfe.e <| ya y7s.e <| yd _
theorem dn:type_of% (And.intro @D_zx.eq_1 <| @D_zze.eq_1):=by and_intros<;>intros<;>rfl
theorem den (a0:(List Aid)) (hb0:a0.length<1099511627776) (hb1:∀ v∈a0,bdAid v):Den Tryz.prog 33 [encL 16 eAid a0] (.bool (zmd a0)):=by
 generalize hR:zmd a0=r;unfold zmd at hR;refine di Tryz.func33 Tryz.ntmps33 Tryz.results33 ?_;intro c hL hc hk;obtain⟨hL0,_⟩:=hL;have hw0:a0.length<9223372036854775808:=Nat.lt_succ_of_le (yc hL0).1;have hw1:∀ v∈a0,bwAid v:=fun v hv=>ylb v ((yc hL0).2 v hv)
 clear hL0;simp only[pars,Nat.zero_add];iterate 2 refine rS ?_
 refine AWP.block ?_;generalize hz1:yf (ysk a0) (a0.length-0) 0 ()=z1 at hR;refine AWP.range (ysk a0) (fun i1 s1=>⟨[(0,encL 16 eAid a0),(5,encL 16 eAid a0),(6,.int .i64 (a0.length:Int)),(7,.int .i64 (i1:Int))],[]⟩) (fun i1 s1=>True) (a0.length) 0 () [] hz1 ot wt sm ?_;clear hz1;intro i1 s1 hi1 hW1 hz1;refine rS ?_;refine AWP.seq ?_;refine AWP.cond rfl (fun hb => ?_) (fun hb => ?_)
 ·have hlt1:i1<a0.length:=ot
  rw[yk hlt1]at hz1;simp only[ysk]at hz1;refine rS ?_;refine rD 18 ?_;refine AWP.cond rfl (fun hb => ?_) (fun hb => ?_)
  ·simp only[hb,cond_true]at hz1
   refine rS ?_;refine AWP.ret ?_;subst hz1;dsimp only at hR;subst hR;exact es
  ·simp only[hb,cond_false]at hz1
   refine rS ?_;exact⟨_,[],hlt1,wt,hz1,sm⟩
 ·obtain rfl:i1=a0.length:=ot
  rw[yl (Nat.le_refl _)]at hz1;subst hz1;dsimp only at hR;refine AWP.exit ?_;refine yb ?_;refine rS ?_;refine AWP.ret ?_;subst hR;exact es
end N33
def D_zmd : DF
 | [x0]=>some (.bool (zmd (rdL dAid x0)),false,[wL 16 eAid dAid x0,(rdL dAid x0).length<1099511627776,∀ v∈(rdL dAid x0),bdAid v])
 | _=>none
theorem y10:OkD Tryz.prog 33 D_zmd:=by unfold D_zmd;exact dk N33.den
theorem ydq (c:Character) (h:zif c=true):zgb c=false:=by
 unfold zif at h;simp only[Bool.and_eq_true,beq_iff_eq]at h;obtain⟨⟨⟨⟨h1,h2⟩,h3⟩,h4⟩,h5⟩:=h;cases c
 simp only at h1 h2 h3 h4 h5;rename_i k g l cs p
 have hg:g=[]:=List.length_eq_zero_iff.1 (by omega);subst h1 hg h3 h4 h5;decide
theorem yt3 (a:Aid):zfg a=((zif a.Light && ((a.Sectors.length:Int) == 0)) && (a.Intensity == 0)):=by
 unfold zfg zff zif;rw[yuf]
 have:decide (a.Light.Group=[])=((a.Light.Group.length:Int) == 0):=by
  cases a.Light.Group with
  | nil=>rfl
  | cons x l=>simp;omega
 rw[this]
theorem yge (a:Aid) (hl:a.Light.Colors.length<9223372036854775808) (hs:a.Sectors.length<9223372036854775807):zze a=zcd a:=by
 unfold zze zcd;rw[yt3];unfold zte;rw[ysb a.Sectors hs,yfi,yze,ywr];have e1:zkg a.Number=zv a.Number 1 9999:=rfl;have e2:zpd a.At=zwf a.At:=rfl;have e3:zlg a.Height=zv a.Height 0 3000:=rfl;have e4:zeg a.Intensity=zv a.Intensity 1 100000000:=rfl;rw[e1,e2,e3,e4]
 cases hp:zif a.Light with
 | true=>
  rw[ydq _ hp];simp only[Bool.not_false,Bool.true_or,cond_true,Bool.true_and,Bool.false_or];cases zv a.Number 1 9999<;>cases ztb a.Name<;>cases zwf a.At<;>cases zv a.Height 0 3000<;>cases znf a.Mark<;>rfl
 | false=>
  rw[y4i a.Light hl];simp only[Bool.false_and,Bool.or_false,cond_false];cases zv a.Number 1 9999<;>cases ztb a.Name<;>cases zwf a.At<;>cases zv a.Height 0 3000<;>cases znf a.Mark<;>rfl
theorem yld (l:List Aid) (h:∀ v∈l,v.Light.Colors.length<9223372036854775808/\v.Sectors.length<9223372036854775807):zmd l=zme l:=by
 unfold zmd zme
 rw[ybl (b:=ysk l) (b':=y3l l) (l.length-0) 0 () (fun j u _ hj=>by
  have:=y3c (p:=fun v:Aid=>v.Light.Colors.length<9223372036854775808/\v.Sectors.length<9223372036854775807) h ⟨by decide,by decide⟩ j
  simp only[ysk,y3l,yge _ this.1 this.2])]
 rfl
def InR (s:List Int):Prop:=∀ v∈s,0<=v/\v<=100
theorem InR.app {s t:List Int} (h1:InR s) (h2:InR t):InR (s++t):=fun v hv=>(List.mem_append.1 hv).elim (h1 v) (h2 v)
theorem InR.one {x:Int} (h1:0<=x) (h2:x<=100):InR [x]:=fun v hv=>by rw[List.mem_singleton]at hv;subst hv;exact⟨h1,h2⟩
theorem InR.nil:InR []:=fun v hv=>by simp at hv
theorem yjz (k:Int):0<=zke k/\zke k<=100:=by
 unfold zke;simp only[Bool.cond_eq_ite];repeat' split
 all_goals omega
theorem y5s (k:Int):0<=zkc k/\zkc k<=20:=by
 unfold zkc;simp only[Bool.cond_eq_ite];repeat' split
 all_goals omega
theorem yoz (k:Int):0<=IntKind.wrap .i64 (zkc k+20)/\IntKind.wrap .i64 (zkc k+20)<=100:=by
 have:=y5s k;rw[IntKind.wrap_i64];omega
theorem yay (c:Character) (h1:c.Group.length<=4) (h2:∀ v∈c.Group,1<=v/\v<=9):InR (zw c)/\(zw c).length<=80:=by
 have hf:=yjz c.Kind;have hg:=y5s c.Kind;have hw:=yoz c.Kind;unfold zw
 cases hk:(c.Kind == 8)with
 | true=>
  simp only[cond_true];have hm:(zwb ((c.Letter.getD 0 0).toNat:Int)).length<=4:=y2o _
  have hmr:∀ j,0<=(zwb ((c.Letter.getD 0 0).toNat:Int)).getD j default/\(zwb ((c.Letter.getD 0 0).toNat:Int)).getD j default<=100:=by
   intro j;rw[y2f,List.getD_eq_getElem?_getD,List.getElem?_map]
   cases(y6c.getD (IntKind.wrap .u8 (((c.Letter.getD 0 0).toNat:Int)-65)).toNat default)[j]? with
   | none=>show(0:Int)<=0/\(0:Int)<=100;omega
   | some x=>simp only[Option.map_some,Option.getD_some];split<;>omega
  obtain⟨t,q1,q2,q3⟩:=yy (b:=yqp c) (fun i s=>InR s/\s.length<=2 * i) (k:=(zwb ((c.Letter.getD 0 0).toNat:Int)).length-0) (i:=0) (s:=[]) ⟨InR.nil,by simp⟩ (fun j u _ _ h=>by
   unfold yqp
   cases decide (0<(j:Int))with
   | true=>exact⟨_,rfl,(h.1.app (InR.one (by omega) (by omega))).app (InR.one (hmr j).1 (hmr j).2),by simp only[List.length_append,List.length_singleton];omega⟩
   | false=>exact⟨_,rfl,h.1.app (InR.one (hmr j).1 (hmr j).2),by simp only[List.length_append,List.length_singleton];omega⟩)
  rw[q1];exact⟨q2,by simp only;omega⟩
 | false=>
  simp only[cond_false]
  have hend:∀ s:List Int,InR s->s.length<=72->InR (bif (c.Letter == [76])then s++[zkc c.Kind,20]else s)/\(bif (c.Letter == [76])then s++[zkc c.Kind,20]else s).length<=80:=by
   intro s h3 h4
   cases(c.Letter == [76])with
   | true=>exact⟨h3.app (fun v hv=>by simp only[List.mem_cons,List.not_mem_nil,or_false]at hv;rcases hv with h|h<;>subst h<;>omega),by simp only[cond_true,List.length_append,List.length_cons,List.length_nil];omega⟩
   | false=>exact⟨h3,by simp only[cond_false];omega⟩
  cases hz:((c.Group.length:Int) == 0)with
  | true=>
   simp only[cond_true]
   obtain⟨t,q1,q2,q3⟩:=yy (b:=yer c) (fun i s=>InR s/\s.length<=18 * i) (k:=1-0) (i:=0) (s:=[]) ⟨InR.nil,by simp⟩ (fun j u _ hj h=>by
    unfold yer;have hj0:j=0:=by omega
    obtain⟨t,q1,q2,q3⟩:=yy (b:=ygr c j u) (fun i s=>InR s/\s.length<=18 * j+2 * i) (k:=(([1]:List Int).getD j default).toNat-0) (i:=0) (s:=u) ⟨h.1,by omega⟩ (fun i w _ hi h=>by
     unfold ygr
     cases decide (0<(i:Int))with
     | true=>exact⟨_,rfl,(h.1.app (InR.one hg.1 (by omega))).app (InR.one hf.1 hf.2),by simp only[List.length_append,List.length_singleton];omega⟩
     | false=>
      cases decide (0<(j:Int))with
      | true=>exact⟨_,rfl,(h.1.app (InR.one hw.1 hw.2)).app (InR.one hf.1 hf.2),by simp only[List.length_append,List.length_singleton];omega⟩
      | false=>exact⟨_,rfl,h.1.app (InR.one hf.1 hf.2),by simp only[List.length_append,List.length_singleton];omega⟩)
    rw[q1];subst hj0
    exact⟨t,rfl,q2,by simp only[List.getD_cons_zero]at q3;omega⟩)
   rw[q1];exact hend t q2 (by omega)
  | false=>
   simp only[cond_false]
   obtain⟨t,q1,q2,q3⟩:=yy (b:=ysp c) (fun i s=>InR s/\s.length<=18 * i) (k:=c.Group.length-0) (i:=0) (s:=[]) ⟨InR.nil,by simp⟩ (fun j u _ hj h=>by
    unfold ysp;have hgj:=y0i h2 j
    obtain⟨t,q1,q2,q3⟩:=yy (b:=yvq c j u) (fun i s=>InR s/\s.length<=18 * j+2 * i) (k:=(c.Group.getD j default).toNat-0) (i:=0) (s:=u) ⟨h.1,by omega⟩ (fun i w _ hi h=>by
     unfold yvq
     cases decide (0<(i:Int))with
     | true=>exact⟨_,rfl,(h.1.app (InR.one hg.1 (by omega))).app (InR.one hf.1 hf.2),by simp only[List.length_append,List.length_singleton];omega⟩
     | false=>
      cases decide (0<(j:Int))with
      | true=>exact⟨_,rfl,(h.1.app (InR.one hw.1 hw.2)).app (InR.one hf.1 hf.2),by simp only[List.length_append,List.length_singleton];omega⟩
      | false=>exact⟨_,rfl,h.1.app (InR.one hf.1 hf.2),by simp only[List.length_append,List.length_singleton];omega⟩)
    rw[q1]
    exact⟨t,rfl,q2,by omega⟩)
   rw[q1];exact hend t q2 (by omega)
theorem y91 (l:List Int) (h:InR l) (hl:l.length<=80):0<=zbe l/\zbe l<=8000:=by
 unfold zbe
 obtain⟨t,q1,q2,q3⟩:=yy (b:=ylr l) (fun i s=>0<=s/\s<=100 * i) (k:=l.length-0) (i:=0) (s:=0) ⟨by omega,by omega⟩ (fun j u _ hj hI=>by
  have hx:0<=l.getD j default/\l.getD j default<=100:=by
   rw[List.getD_eq_getElem?_getD,List.getElem?_eq_getElem (by omega),Option.getD_some];exact h _ (List.getElem_mem _)
  refine⟨_,rfl,?_⟩
  rw[IntKind.wrap_i64];omega)
 rw[q1];exact⟨q2,by simp only;omega⟩
theorem yiz (c:Character) (h:zob c=true) (hs:zld c=false):0<zp c:=by
 obtain⟨g1,g2⟩:=yle c h;obtain⟨t1,t2⟩:=yay c g1 g2;have t3:=y91 _ t1 t2;have hg:=y5s c.Kind;unfold zp;rw[<- ylk,hs];simp only[cond_false]
 cases(c.Kind == 3)with
 | true=>simp
 | false=>
  simp only[cond_false]
  have hr:0<zof c/\zof c<=100:=by
   unfold zof;simp only[Bool.cond_eq_ite];repeat' split
   all_goals (try rw[IntKind.wrap_i64]);(try rw[IntKind.wrap_i64]);omega
  rw[IntKind.wrap_i64];omega
theorem yoc (a:Character) (h:zgb a=true):zob a=true:=by
 unfold zgb at h
 cases hf:zob a with
 | true=>rfl
 | false=>rw[hf]at h;simp at h
theorem yz2 (a:Character) (h:zgb a=true):a.Period<=600:=by
 unfold zgb at h
 cases h1:((!(zcc a.Colors)) || (!(zob a)))with
 | true=>rw[h1]at h;cases h
 | false=>
  rw[h1]at h
  cases h2:zld a with
  | true=>rw[h2]at h;simp at h;omega
  | false=>rw[h2]at h;simp[zg]at h;omega
theorem ygd (a:Character) (h:zgb a=true):a.Group.length<=4/\(∀ v∈a.Group,1<=v/\v<=9)/\a.Period<=600:=by
 have h1:=yle a (yoc a h);exact⟨h1.1,h1.2,yz2 a h⟩
theorem yyp (a:Character) (h1:a.Group.length<=4) (h2:∀ v∈a.Group,1<=v/\v<=9):(zqd a).length<=200+a.Letter.length:=by
 unfold zqd;have hk:=y5t a.Kind
 obtain⟨t,q1,q2,q3⟩:=yy (b:=yhl a) (fun i s=>s.length=i/\∀ v∈s,v.length<=20) (k:=a.Group.length-0) (i:=0) (s:=[]) ⟨rfl,by simp⟩ (fun j u _ _ h=>⟨_,rfl,by simp[h.1],fun v hv=>by
  rcases List.mem_append.1 hv with h9|h9
  ·exact h.2 v h9
  ·rw[List.mem_singleton]at h9;subst h9
   have:=y0i h2 j
   exact y3b _ (by omega) (by omega)⟩)
 rw[q1];have hj:=(yjk t q3).1;simp only[Bool.cond_eq_ite];repeat' split
 all_goals ((try simp only[List.length_append,List.length_cons,List.length_nil]);omega)
theorem ybr (a:Character) (h:zgb a=true):(zld a=true/\a.Period=0)\/(zld a=false/\0<a.Period/\a.Period<=600):=by
 have hf:=yoc a h;unfold zgb at h
 cases h1:((!(zcc a.Colors)) || (!(zob a)))with
 | true=>rw[h1]at h;cases h
 | false=>
  rw[h1]at h
  cases h2:zld a with
  | true=>rw[h2]at h;left;simpa using h
  | false=>
   rw[h2,yvt a hf h2]at h;have:=yiz a hf h2;right
   simp[zg]at h
   exact⟨rfl,by omega,by omega⟩
theorem y6d (a:Character) (h:zgb a=true):0<=a.Period:=by
 rcases ybr a h with⟨_,h⟩|⟨_,h,_⟩<;>omega
theorem ymf (a:Character) (h:zob a=true):1<=a.Kind/\a.Kind<=8:=by
 unfold zob at h;simp only[Bool.cond_eq_ite]at h;repeat' split at h
 all_goals (try simp only[beq_iff_eq]at *)
 all_goals first|omega|(cases h;done)
theorem y86 (a:Character) (hl:a.Colors.length<9223372036854775808) (h:zse a=true):a.Group.length<=4/\(∀ v∈a.Group,1<=v/\v<=9)/\1<=a.Kind/\a.Kind<=8/\0<=a.Period/\a.Period<=600:=by
 rw[<- y4i a hl]at h;have h1:=ygd a h;have h2:=ymf a (yoc a h);exact⟨h1.1,h1.2.1,h2.1,h2.2,y6d a h,h1.2.2⟩
theorem y9r (n:Int) (h1 : -9223372036854775808<=n) (h2:n<=9223372036854775807):(zfe n).length<=41:=by
 unfold zfe;have h3:=yyl (n.tdiv 10);have ht:=yju n;have h4:=y3b (n.tmod 10) (by omega) (by omega);simp only[Bool.cond_eq_ite];split
 ·omega
 ·simp only[List.length_append,List.length_cons,List.length_nil];omega
theorem y03 {p:Point} (h:zwf p=true):0<=p.X/\p.X<=200000/\0<=p.Y/\p.Y<=200000:=by
 simp[zwf,zv]at h;omega
theorem y6f {a:List Sector} (h:zpb a=true):a.length<=12/\∀ i,i<a.length->zzd (a.getD i default)=true:=by
 unfold zpb at h
 cases h12:decide (12<(a.length:Int))with
 | true=>rw[h12]at h;cases h
 | false=>
  rw[h12]at h;have h12:=of_decide_eq_false h12;refine⟨by omega,fun i hi => ?_⟩;rcases ymc (b:=yct a) (secQ a) (fun _ u=>u) false (k:=a.length-0) (i:=0) (s:=()) (fun j u _ _=>by cases u;rfl)with⟨_,e1⟩|⟨hq,_⟩
  ·rw[e1]at h;cases h
  ·exact((y2m a i (by omega)).1 (hq i (Nat.zero_le _) (by omega))).1
theorem yas {c:List UInt8} (h:zsg c=true):c=[87]\/c=[82]\/c=[71]\/c=[89]:=by
 unfold zsg at h;simp only[Bool.or_eq_true,beq_iff_eq]at h;rcases h with((h|h)|h)|h
 ·exact .inl h
 ·exact .inr (.inl h)
 ·exact .inr (.inr (.inl h))
 ·exact .inr (.inr (.inr h))
theorem y1e {a:List Sector} (h:zpb a=true):a.length<=12/\∀ i,0<=(a.getD i default).From/\(a.getD i default).From<=359/\0<=(a.getD i default).To/\(a.getD i default).To<=359/\(a.getD i default).Color.length<=1:=by
 obtain⟨h1,h2⟩:=y6f h;refine⟨h1,fun i => ?_⟩;by_cases hi:i<a.length
 ·have h3:=h2 i hi
  have hb:=y0m h3;unfold zzd at h3;rw[Bool.and_eq_true]at h3;refine⟨hb.1.1,hb.1.2,hb.2.1,hb.2.2,?_⟩;rcases yas h3.2 with h|h|h|h<;>rw[h]<;>decide
 ·rw[List.getD_eq_getElem?_getD,List.getElem?_eq_none (by omega)]
  decide
theorem yhm {m:Mark} (h:znf m=true):(m.Kind=0/\m.Colors=[]/\m.Shape=[]/\m.Topmark=[]) \/
  (ztc m.Kind=true/\m.Colors=zae m.Kind/\(m.Topmark=[]\/m.Topmark=zje m.Kind)/\m.Shape∈zqb m.Kind):=by
 rw[show znf m=zmg m from rfl]at h;unfold zmg at h;by_cases hk:m.Kind=0
 ·left
  rw[show(m.Kind == 0)=true by simp[hk]]at h;simp only[cond_true,Bool.and_eq_true,beq_iff_eq]at h;exact⟨hk,h.2.1,h.2.2.1,h.2.2.2⟩
 ·right
  rw[show(m.Kind == 0)=false by simp[hk],cond_false]at h
  cases hc:(((!(ztc m.Kind)) || (m.Colors != (zae m.Kind))) || ((m.Topmark != []) && (m.Topmark != (zje m.Kind))))with
  | true=>rw[hc]at h;cases h
  | false=>
   rw[hc,cond_false]at h;have h:=(ynl m).symm.trans h;rw[List.any_eq_true]at h;simp only[Bool.or_eq_false_iff,Bool.not_eq_false',Bool.and_eq_false_iff,bne_eq_false_iff_eq]at hc;obtain⟨y,hy,he⟩:=h;exact⟨hc.1.1,hc.1.2,hc.2,by rw[<- eq_of_beq he];exact hy⟩
theorem yvm {m:Mark} (h:znf m=true):0<=m.Kind/\m.Kind<=9/\m.Colors.length<=3/\m.Shape.length<=6/\m.Topmark.length<=5:=by
 rcases yhm h with⟨h1,h2,h3,h4⟩|⟨h1,h2,h3,h4⟩
 ·rw[h1,h2,h3,h4];simp
 ·have hk:=h1
  unfold ztc zv at hk;simp only[Bool.and_eq_true,decide_eq_true_eq]at hk;refine⟨by omega,by omega,?_,?_,?_⟩
  ·rw[h2];rcases yag h1 with e|e|e|e|e|e|e|e|e<;>rw[e]<;>decide
  ·have hs:∀ y∈zqb m.Kind,y.length<=6:=by rcases yag h1 with e|e|e|e|e|e|e|e|e<;>rw[e]<;>decide
   exact hs _ h4
  ·rcases h3 with e|e
   ·rw[e];decide
   ·rw[e];rcases yag h1 with e|e|e|e|e|e|e|e|e<;>rw[e]<;>decide
theorem yu6:zpb []=true:=by decide
theorem y9b {a:Aid} (h:zcd a=true):1<=a.Number/\a.Number<=9999/\ztb a.Name=true/\zwf a.At=true/\0<=a.Height/\a.Height<=3000/\znf a.Mark=true /\
  (zpf a=true->zse a.Light=true)/\zpb a.Sectors=true/\0<=a.Intensity/\a.Intensity<=100000000:=by
 unfold zcd at h
 cases hc:(((((!(zv a.Number 1 9999)) || (!(ztb a.Name))) || (!(zwf a.At))) || (!(zv a.Height 0 3000))) || (!(znf a.Mark)))with
 | true=>rw[hc]at h;cases h
 | false=>
  rw[hc,cond_false]at h;simp only[Bool.or_eq_false_iff,Bool.not_eq_false']at hc;obtain⟨⟨⟨⟨c1,c2⟩,c3⟩,c4⟩,c5⟩:=hc;simp only[zv,Bool.and_eq_true,decide_eq_true_eq]at c1 c4
  have fin:(zpf a=true->zse a.Light=true)/\zpb a.Sectors=true/\0<=a.Intensity/\a.Intensity<=100000000:=by
   cases hp:zif a.Light with
   | true=>
    rw[hp,cond_true,Bool.and_eq_true,beq_iff_eq,beq_iff_eq]at h;have hs:a.Sectors=[]:=List.length_eq_zero_iff.1 (by omega);refine⟨fun hl => ?_,by rw[hs];exact yu6,by omega,by omega⟩;unfold zif at hp;simp only[Bool.and_eq_true,beq_iff_eq]at hp;unfold zpf at hl;rw[bne_iff_ne]at hl;exact absurd hp.1.1.1.1 hl
   | false=>
    rw[hp,cond_false]at h
    cases hd:(((!(zse a.Light)) || (!(zv a.Intensity 1 100000000))) || (!(zpb a.Sectors)))with
    | true=>rw[hd]at h;cases h
    | false=>
     simp only[Bool.or_eq_false_iff,Bool.not_eq_false',zv,Bool.and_eq_true,decide_eq_true_eq]at hd;exact⟨fun _=>hd.1.1,hd.2,by omega,by omega⟩
  exact⟨c1.1,c1.2,c2,c3,c4.1,c4.2,c5,fin⟩
theorem y3n {s:List UInt8} (h:ztb s=true):s.length<=10:=((y2b s).1 h).2.1
theorem yk4 {a:Aid} (h:zcd a=true) (hl:a.Light.Colors.length<9223372036854775808):zte a=zpf a:=by
 have hr:=y9b h;have hsl:=(y1e hr.2.2.2.2.2.2.2.2.1).1;unfold zcd at h
 cases hc:(((((!(zv a.Number 1 9999)) || (!(ztb a.Name))) || (!(zwf a.At))) || (!(zv a.Height 0 3000))) || (!(znf a.Mark)))with
 | true=>rw[hc]at h;cases h
 | false=>
  rw[hc,cond_false]at h
  cases hp:zif a.Light with
  | true=>
   have h1:=ydq _ hp;unfold zte zpf;rw[h1];unfold zif at hp;simp only[Bool.and_eq_true,beq_iff_eq]at hp;rw[hp.1.1.1.1];rfl
  | false=>
   rw[hp,cond_false]at h
   cases hd:(((!(zse a.Light)) || (!(zv a.Intensity 1 100000000))) || (!(zpb a.Sectors)))with
   | true=>rw[hd]at h;cases h
   | false=>
    rw[hd,cond_false]at h;simp only[Bool.or_eq_false_iff,Bool.not_eq_false']at hd;have hk:=(y86 a.Light hl hd.1.1).2.2.1;unfold zte zpf;have e4:zeg a.Intensity=zv a.Intensity 1 100000000:=rfl;rw[y4i _ hl,hd.1.1,e4,hd.1.2,ysb _ (by omega),hd.2,yfi];simp only[Bool.not_true,Bool.or_self,cond_false];rw[h];symm
    rw[bne_iff_ne];omega
theorem yn5 {p:Point} (h:(!zpd p)=false):0<=p.X/\p.X<=200000/\0<=p.Y/\p.Y<=200000:=by
 have h2:zpd p=true:=by simpa using h
 exact y03 (p:=p) h2
theorem ypx {m:Mark} (h:(!zzc m)=false):0<=m.Kind/\m.Kind<=9/\m.Colors.length<=3/\m.Shape.length<=6/\m.Topmark.length<=5:=yvm (by rw[<- yze];simpa using h)
theorem y0z {a:List Sector} (hl:a.length<1099511627776) (h:(!zhb a)=false):a.length<=12/\∀ i,0<=(a.getD i default).From/\(a.getD i default).From<=359/\0<=(a.getD i default).To/\(a.getD i default).To<=359/\(a.getD i default).Color.length<=1:=y1e (by rw[<- ysb a (by omega)];simpa using h)
theorem ykv {a:Aid} (hb:bdAid a) (h:(!zze a)=false):zcd a=true:=by
 rw[<- yge a (Nat.lt_of_lt_of_le hb.2.2.1.2.2 (by decide)) (Nat.lt_of_lt_of_le hb.2.2.2.1 (by decide))];simpa using h
theorem y6w (k:Int):(zrd k).length<=100:=yrz _ _ (by decide)
def znd (a0:Character):(List UInt8):=
 (bif (!(zgb a0))then[]else(bif (a0.Period != 0)then(((zqd a0)++[32])++a0.Colors)++(([32]++(zfe a0.Period))++[115])else((zqd a0)++[32])++a0.Colors))
namespace N58
theorem DD:DOk Tryz.prog (Go.Ab.DD [(100,dP D_zqd),(101,dP D_zfe),(96,dP D_zgb)]):=ya y21.e <| ya y3u.e <| ya yfn.e <| yd _
theorem dn:type_of% (And.intro @D_zqd.eq_1 <| And.intro @D_zfe.eq_1 <| @D_zgb.eq_1):=by and_intros<;>intros<;>rfl
theorem o0 {p:Prop} (h:p:=by(first|(have q9 := ‹(!zgb a0)=false›;have q8:zgb a0=true:=(by simpa using q9);have h9:=ygd a0 q8;have h8:=yyp a0 h9.1 h9.2.1;have h7:=y6d a0 q8;have h6:=y9r a0.Period (by omega) (by omega);first|(refine⟨hb0,h9.1,h9.2.1,?_,?_⟩<;>first|omega|(simp only[List.length_append,List.length_cons,List.length_nil];omega))|(and_intros<;>first|omega|(simp only[List.length_append,List.length_cons,List.length_nil];omega))));first|done|fail):p:=h
set_option maxHeartbeats 400000 in
set_option maxRecDepth 20000 in
theorem den (a0:Character) (hb0:bdCharacter a0):Den Tryz.prog 58 [.agg (yq a0)] (.str (znd a0)):=by
 generalize hR:znd a0=r;unfold znd at hR;refine di Tryz.func58 Tryz.ntmps58 Tryz.results58 ?_;intro c hL hc hk;obtain⟨hL0,_⟩:=hL;have hw0:bwCharacter a0:=yz a0 hL0;clear hL0;simp only[pars,Nat.zero_add];have hbL:a0.Letter.length<1099511627776:=hb0.2.1;have hbC:a0.Colors.length<1099511627776:=hb0.2.2;iterate 2 refine rS ?_
 refine AWP.cond rfl (fun hb => ?_) (fun hb => ?_)
 ·replace hR:=ct hR
  refine rS ?_;refine AWP.ret ?_;subst hR;exact es
 ·replace hR:=cf hR
  refine rD 5 ?_;refine rS ?_;refine AWP.cond rfl (fun hb => ?_) (fun hb => ?_)
  ·replace hR:=ct hR
   iterate 2 refine rS ?_
   refine AWP.ret ?_;subst hR;exact es
  ·replace hR:=cf hR
   refine rS ?_;refine AWP.ret ?_;subst hR;exact es
end N58
def D_znd : DF
 | [x0]=>some (.str (znd (rdG ye x0)),false,[wG yq ye x0,bdCharacter (rdG ye x0)])
 | _=>none
theorem ywt:OkD Tryz.prog 58 D_znd:=by unfold D_znd;exact dk N58.den
end Go.Ab
