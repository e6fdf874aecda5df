/- A part of a proof: walks of functions and lemmas of our own. No conditions. -/
import Derived.Test.YthadgghdkkapaaaGreatDoorNAi
import Derived.Test.YthadgghdkkapaaaGreatDoorNAp
import Derived.Test.YthadgghdkkapaaaGreatDoorNAr
import Derived.Test.YthadgghdkkapaaaGreatDoorNAn
import Derived.Test.YthadgghdkkapaaaGreatDoorNAl
import Derived.Test.YthadgghdkkapaaaGreatDoorNAq
import Derived.Test.YthadgghdkkapaaaGreatDoorNAs
set_option linter.unusedSectionVars false
set_option linter.unusedVariables false
set_option linter.unusedSimpArgs false
set_option maxHeartbeats 1000000
namespace Go.Ab
open Go Go.Proofs
theorem y9n {b:Nat->Unit->Except Bool Unit} {n:Nat} {p:Nat->Bool} {x:Bool} (hb:∀ j u,j<n->b j u=bif p j then .error false else .ok ()) :
  ((match yh b (n-0) 0 ()with|.error e=>e|.ok _=>x)=true)↔(∀ j,j<n->p j=false)/\x=true:=by
 rw[ybc (b:=b) p false (fun j u _ h=>hb j u (by omega))];simp only[Nat.sub_zero,Nat.zero_add]
 cases h:(List.range n).any (fun j=>p j)with
 | true=>
  simp only[cond_true];obtain⟨j,h1,h2⟩:=List.any_eq_true.1 h;constructor
  ·intro h;cases h
  ·rintro⟨h3,_⟩;rw[h3 j (List.mem_range.1 h1)]at h2;cases h2
 | false=>
  simp only[cond_false];rw[List.any_eq_false]at h;exact⟨fun hx=>⟨fun j hj=>by simpa using h j (List.mem_range.2 hj),hx⟩,fun hx=>hx.2⟩
theorem yes (a:List UInt8):zsd a=true↔a≠[]/\a.length<=10/\∀ j,j<a.length->((97<=(a.getD j 0).toNat/\(a.getD j 0).toNat<=122)\/(j≠0/\48<=(a.getD j 0).toNat/\(a.getD j 0).toNat<=57)):=by
 unfold zsd;refine(y9n (n:=a.length) (p:=fun j=>_) (fun j u _=>by rfl)).trans ?_;simp only[zkb,zlf,Bool.and_eq_true,bne_iff_ne,decide_eq_true_eq];constructor
 ·rintro⟨h1,h2,h3⟩
  refine⟨h2,by omega,fun j hj => ?_⟩;have:=h1 j hj;simp[-List.getD_eq_getElem?_getD]at this
  omega
 ·rintro⟨h2,h3,h1⟩
  refine⟨fun j hj => ?_,h2,by omega⟩;have:=h1 j hj;simp[-List.getD_eq_getElem?_getD]
  omega
theorem yci (a:List UInt8):zxb a=true↔a≠[]/\a.length<=10/\∀ j,j<a.length->((97<=(a.getD j 0).toNat/\(a.getD j 0).toNat<=122)\/(j≠0/\48<=(a.getD j 0).toNat/\(a.getD j 0).toNat<=57)):=by
 unfold zxb;by_cases hn:a=[]
 ·subst hn;simp
 by_cases h10:10<a.length
 ·have:((a == []) || decide (10<(a.length:Int)))=true:=by simp;right;omega
  rw[this];simp;omega
 have hp:0<a.length:=by cases a<;>simp_all
 have:((a == []) || decide (10<(a.length:Int)))=false:=by simp;exact⟨hn,by omega⟩
 rw[this];by_cases hs:zbe ((a.getD 0 0).toNat:Int)=true
 ·rw[hs]
  refine(y9n (n:=a.length) (p:=fun j=>_) (fun j u _=>by rfl)).trans ?_;simp only[zbe,Bool.and_eq_true,decide_eq_true_eq]at hs;constructor
  ·rintro⟨h1,_⟩
   refine⟨hn,by omega,fun j hj => ?_⟩;have:=h1 j hj;simp[zbe,zgf,-List.getD_eq_getElem?_getD]at this
   by_cases hj0:j=0
   ·subst hj0;omega
   ·omega
  ·rintro⟨_,_,h1⟩
   refine⟨fun j hj => ?_,rfl⟩;have:=h1 j hj;simp[zbe,zgf,-List.getD_eq_getElem?_getD]
   omega
 ·have hs':zbe ((a.getD 0 0).toNat:Int)=false:=by simpa using hs
  rw[hs'];simp only[Bool.not_false,Bool.or_true,cond_true];constructor
  ·intro h;cases h
  ·rintro⟨_,_,h1⟩
   have:=h1 0 hp;exfalso;apply hs;simp[zbe,-List.getD_eq_getElem?_getD]
   simp[-List.getD_eq_getElem?_getD]at this
   omega
theorem ya1 (a:List UInt8):zsd a=zxb a:=Bool.eq_iff_iff.2 ((yes a).trans (yci a).symm)
theorem yvl {ρ σ τ:Type} {b1:Nat->σ->Except ρ σ} {b2:Nat->τ->Except ρ τ} (R:Nat->σ->τ->Prop):∀ {k i:Nat} {s:σ} {t:τ},R i s t ->
  (∀ j u v,i<=j->j<i+k->R j u v->(∃ r,b1 j u=.error r/\b2 j v=.error r)\/∃ u' v',b1 j u=.ok u'/\b2 j v=.ok v'/\R (j+1) u' v') ->
  (∃ r,yh b1 k i s=.error r/\yh b2 k i t=.error r)\/∃ u v,yh b1 k i s=.ok u/\yh b2 k i t=.ok v/\R (i+k) u v
 | 0,i,s,t,h,_=>.inr ⟨s,t,rfl,rfl,h⟩
 | k+1,i,s,t,h,hb=>by
  simp only[yh];rcases hb i s t (Nat.le_refl _) (by omega) h with⟨r,h1,h2⟩|⟨u,v,h1,h2,h3⟩
  ·rw[h1,h2];exact .inl ⟨r,rfl,rfl⟩
  ·rw[h1,h2]
   have:=yvl R (k:=k) (i:=i+1) h3 (fun j u v q1 q2 q3=>hb j u v (by omega) (by omega) q3);rwa [show i+1+k=i+(k+1)by omega]at this
theorem ysf {α σ ρ : Type} (p : α -> Bool) (f : σ -> α -> σ) (r : ρ) : ∀ (l : List α) (s : σ), yxi (fun x s => (bif !(p x) then .error r else .ok (f s x) : Except ρ σ)) l s = bif l.all p then .ok (l.foldl f s) else .error r
 | [],s=>by simp[yxi]
 | x::l,s=>by
  rw[yle]
  cases hx:p x with
  | false=>simp[hx]
  | true=>
   simp only[Bool.not_true,cond_false,List.all_cons,hx,Bool.true_and,List.foldl_cons];exact ysf p f r l (f s x)
def ywr (g:List Int):Prop:=g.length<=4/\(∀ v∈g,1<=v/\v<=9)/\g.sum<=12/\g≠[1]
theorem yne (g:List Int):g.all (fun v=>zg v 1 9)=true↔∀ v∈g,1<=v/\v<=9:=by
 rw[List.all_eq_true];exact⟨fun h v hv=>by simpa [zg]using h v hv,fun h v hv=>by simpa [zg]using h v hv⟩
theorem wsum (g:List Int) (h:g.length<=4) (hv:∀ v∈g,1<=v/\v<=9):g.foldl (fun s x=>IntKind.wrap .i64 (s+x)) 0=g.sum:=by
 have hw:∀ n:Int,-1000<=n->n<=1000->IntKind.wrap .i64 n=n:=fun n _ _=>by rw[IntKind.wrap_i64];omega
 match g,h,hv with
 | [],_,_=>rfl
 | [a],_,hv=>
  have:=hv a (by simp);simp only[List.foldl_cons,List.foldl_nil,List.sum_cons,List.sum_nil];rw[hw _ (by omega) (by omega)];omega
 | [a,b],_,hv=>
  have:=hv a (by simp);have:=hv b (by simp);simp only[List.foldl_cons,List.foldl_nil,List.sum_cons,List.sum_nil];rw[hw (0+a) (by omega) (by omega),hw _ (by omega) (by omega)];omega
 | [a,b,c],_,hv=>
  have:=hv a (by simp);have:=hv b (by simp);have:=hv c (by simp);simp only[List.foldl_cons,List.foldl_nil,List.sum_cons,List.sum_nil];rw[hw (0+a) (by omega) (by omega),hw (0+a+b) (by omega) (by omega),hw _ (by omega) (by omega)];omega
 | [a,b,c,d],_,hv=>
  have:=hv a (by simp);have:=hv b (by simp);have:=hv c (by simp);have:=hv d (by simp);simp only[List.foldl_cons,List.foldl_nil,List.sum_cons,List.sum_nil];rw[hw (0+a) (by omega) (by omega),hw (0+a+b) (by omega) (by omega),hw (0+a+b+c) (by omega) (by omega),hw _ (by omega) (by omega)];omega
theorem yl1 (x y:Int):(x != y) = !decide (x=y):=by by_cases h:x=y<;>simp[h]
theorem yef (a b:List Int):zac a b=decide (a=b):=by
 unfold zac;by_cases hl:a.length=b.length
 ·have h1:((a.length:Int) != (b.length:Int))=false:=by rw[hl];simp
  rw[h1];simp only[cond_false]
  rw[ybc (b:=yaj a b) (fun j => !decide (a.getD j default=b.getD j default)) false (fun j u _ _=>by
   simp only[yaj,yl1])]
  simp only[Nat.sub_zero,Nat.zero_add];rw[yht a b hl];by_cases h:a=b<;>simp[h]
 ·have h1:((a.length:Int) != (b.length:Int))=true:=by simp;omega
  rw[h1];have:¬ a=b:=fun h=>hl (by rw[h])
  simp[this]
theorem ypi (g:List Int):zrc g=true↔ywr g:=by
 unfold zrc;rw[y2c (b:=yun g) (fun(x:Int) (s:Int)=>(bif !(zg x 1 9)then .error false else .ok (IntKind.wrap .i64 (s+x)):Except Bool Int)) g 0 (fun j u _=>rfl),ysf (fun x=>zg x 1 9) (fun s x=>IntKind.wrap .i64 (s+x)) false];unfold ywr
 cases ha:g.all (fun x=>zg x 1 9)with
 | false=>
  simp only[cond_false];constructor
  ·intro h;cases h
  ·rintro⟨_,h,_⟩
   rw[(yne g).2 h]at ha;cases ha
 | true=>
  have hv:=(yne g).1 ha;simp only[cond_true,yef,zkb,Bool.and_eq_true,decide_eq_true_eq,Bool.not_eq_true',decide_eq_false_iff_not];constructor
  ·rintro⟨⟨h1,h2⟩,h3⟩
   rw[wsum g (by omega) hv]at h2;exact⟨by omega,hv,h2,h3⟩
  ·rintro⟨h1,_,h2,h3⟩
   rw[wsum g h1 hv];exact⟨⟨by omega,h2⟩,h3⟩
theorem y5d (g:List Int):zmb g=true↔ywr g:=by
 unfold zmb;rw[y2c (b:=ysm g) (fun(x:Int) (s:Unit)=>(bif !(zg x 1 9)then .error false else .ok ():Except Bool Unit)) g () (fun j u _=>rfl),ysf (fun x=>zg x 1 9) (fun(s:Unit) x=>()) false];unfold ywr
 cases ha:g.all (fun x=>zg x 1 9)with
 | false=>
  simp only[cond_false];constructor
  ·intro h;cases h
  ·rintro⟨_,h,_⟩
   rw[(yne g).2 h]at ha;cases ha
 | true=>
  have hv:=(yne g).1 ha
  have hsum:g.length<=4->(zwd g<=12↔g.sum<=12):=by
   intro h4;unfold zwd
   cases g with
   | nil=>simp
   | cons x t=>
    have h0:(((x::t).length:Int) == 0)=false:=by rw[beq_eq_false_iff_ne];simp only[List.length_cons];omega
    rw[h0];simp only[cond_false];rw[y2c (b:=ysl (x::t)) (fun(y:Int) (s:Int)=>(bif !((fun _=>true) y)then .error 0 else .ok (IntKind.wrap .i64 (s+y)):Except Int Int)) (x::t) 0 (fun j u _=>rfl),ysf (fun _=>true) (fun s x=>IntKind.wrap .i64 (s+x)) 0];rw[show(x::t).all (fun _=>true)=true by simp];simp only[cond_true];rw[wsum _ h4 hv]
  have hone:(!(((g.length:Int) == 1) && (g.getD 0 default == 1)))=true↔g≠[1]:=by
   match g with
   | []=>simp
   | [a]=>simp
   | a::b::t=>
    have:((((a::b::t).length:Int)) == 1)=false:=by rw[beq_eq_false_iff_ne];simp only[List.length_cons];omega
    rw[this];simp
  simp only[cond_true];rw[Bool.and_eq_true,Bool.and_eq_true,hone,decide_eq_true_eq,decide_eq_true_eq];constructor
  ·rintro⟨⟨h1,h2⟩,h3⟩
   exact⟨by omega,hv,(hsum (by omega)).1 h3,h2⟩
  ·rintro⟨h1,_,h2,h3⟩
   exact⟨⟨by omega,h3⟩,(hsum h1).2 h2⟩
set_option maxRecDepth 10000 in
theorem yiv:∀ n:Fin 256,zke (n.val:Int)=zce [87,82,71,89] (n.val:Int)+1 /\ -1<=zce [87,82,71,89] (n.val:Int):=by decide
theorem yp0 (b:UInt8):zke (b.toNat:Int)=zce [87,82,71,89] (b.toNat:Int)+1 /\ -1<=zce [87,82,71,89] (b.toNat:Int):=
 yiv ⟨b.toNat,b.toNat_lt⟩
theorem yps (s:List UInt8) (hl:s.length<9223372036854775808):zmc s=zpb s:=by
 unfold zmc zpb
 have hs:=yvl (b1:=y1j s) (b2:=yak s) (fun i (x:Int) (_:Unit)=>if i=0 then x = -1 else x+1=zke ((s.getD (i-1) 0).toNat:Int)/\0<=x) (k:=s.length-0) (i:=0) (s := -1) (t:=()) (by simp) (by
  intro j x u _ hj h;unfold y1j yak;obtain⟨r1,r2⟩:=yp0 (s.getD j 0);rw[r1];generalize zce [87,82,71,89] ((s.getD j 0).toNat:Int)=p at *;by_cases h0:j=0
  ·subst h0
   rw[if_pos rfl]at h;subst h;simp only[Int.natCast_zero,show decide ((0:Int)<0)=false from rfl,Bool.false_and,Bool.or_false];by_cases hp:p = -1
   ·subst hp;left;exact⟨false,rfl,rfl⟩
   ·right
    have d1:decide (p <= -1)=false:=decide_eq_false (by omega);have d2:(p+1 == 0)=false:=by rw[beq_eq_false_iff_ne];omega
    rw[d1,d2];exact⟨p,(),rfl,rfl,by rw[if_neg (by omega)];exact⟨r1.symm,by omega⟩⟩
  ·rw[if_neg h0]at h
   obtain⟨h1,h2⟩:=h;have d3:decide (0<(j:Int))=true:=decide_eq_true (by omega);have hw:(IntKind.wrap .i64 ((j:Int)-1)).toNat=j-1:=by rw[IntKind.wrap_i64];omega
   rw[d3,hw, <- h1];simp only[Bool.true_and];by_cases hp:p<=x
   ·left
    have d1:decide (p<=x)=true:=decide_eq_true hp
    have d2:(p+1 == 0 || decide (p+1<=x+1))=true:=by
     rw[Bool.or_eq_true,decide_eq_true_eq];right;omega
    rw[d1,d2];exact⟨false,rfl,rfl⟩
   ·right
    have d1:decide (p<=x)=false:=decide_eq_false hp
    have d2:(p+1 == 0 || decide (p+1<=x+1))=false:=by
     rw[Bool.or_eq_false_iff,beq_eq_false_iff_ne,decide_eq_false_iff_not];omega
    rw[d1,d2]
    exact⟨p,(),rfl,rfl,by rw[if_neg (by omega)];exact⟨by rw[show j+1-1=j by omega];exact r1.symm,by omega⟩⟩)
 rcases hs with⟨r,h1,h2⟩|⟨u,v,h1,h2,_⟩
 ·rw[h1,h2]
 ·rw[h1,h2]
  simp only[zg]
theorem y0t {g:List Int} (h:g.length=1) (lo hi:Int) (hr:lo<=g.getD 0 default/\g.getD 0 default<=hi):∀ v∈g,lo<=v/\v<=hi:=by
 obtain⟨x,rfl⟩:=List.length_eq_one_iff.1 h;intro v hv;rw[List.mem_singleton]at hv;subst hv;simpa using hr
theorem y3e {g:List Int} (h:(g.length:Int)=0):g.length<=4/\∀ v∈g,1<=v/\v<=9:=by
 have:g=[]:=List.length_eq_zero_iff.1 (by omega);subst this;simp
theorem ywp (a:Character) (h:zic a=true):a.Group.length<=4/\∀ v∈a.Group,1<=v/\v<=9:=by
  unfold zic at h;simp only[Bool.cond_eq_ite]at h;repeat' split at h
  all_goals (try simp only[Bool.and_eq_true,Bool.or_eq_true,beq_iff_eq,yef,decide_eq_true_eq,zg]at h)
  all_goals first
    | exact y3e h.1
    | exact y3e h.2
    | (have:=(ypi _).1 h.2;exact⟨this.1,this.2.1⟩)
    | (rcases h with h | h
       . exact y3e h
       . exact⟨by omega,fun v hv=>by have:=y0t (g:=a.Group) (by omega) 2 9 h.2 v hv;omega⟩)
    | (rw[h.2];simp)
    | (cases h)
theorem yrt (a:Character) (h:zsc a=true):a.Group.length<=4/\(∀ v∈a.Group,1<=v/\v<=9)/\(a.Kind=8->a.Letter.length=1/\65<=(a.Letter.getD 0 0).toNat/\(a.Letter.getD 0 0).toNat<=90):=by
 unfold zsc at h;simp only[Bool.cond_eq_ite]at h;repeat' split at h
 all_goals (try simp only[Bool.and_eq_true,Bool.or_eq_true,beq_iff_eq,decide_eq_true_eq]at *)
 all_goals first
  | (cases h;done)
  | (exact⟨(y3e h.1).1,(y3e h.1).2,by intro h8;omega⟩)
  | (exact⟨by omega,fun v hv=>by have:=y0t (g:=a.Group) (by omega) 6 6 (by omega) v hv;omega,by intro h8;omega⟩)
  | (have:=(y5d _).1 h.2;exact⟨this.1,this.2.1,by intro h8;omega⟩)
  | (exact⟨(y3e h.1.1.1).1,(y3e h.1.1.1).2,fun _=>⟨by omega,by omega,by omega⟩⟩)
def zze (a0:Character):Bool:=
 (bif ((!(zmc a0.Colors)) || (!(zic a0)))then false else(bif (ztd a0)then(a0.Period == 0)else((zg a0.Period (zbf a0) 600) && ((a0.Kind != 3) || ((a0.Period.tmod 2) == 0)))))
namespace N127
theorem DD:DOk Tryz.prog (Go.Ab.DD [(101,dP D_zg),(177,dP D_zmc),(178,dP D_zic),(179,dP D_ztd),(180,dP D_zbf)]):=ya yrc.e <| ya y5x.e <| ya yrv.e <| ya y2p.e <| ya yoy.e <| ye _
theorem dn:type_of% (And.intro @D_zg.eq_1 <| And.intro @D_zmc.eq_1 <| And.intro @D_zic.eq_1 <| And.intro @D_ztd.eq_1 <| @D_zbf.eq_1):=by and_intros<;>intros<;>rfl
theorem ol:type_of% (@zg.eq_1):=@zg.eq_1
theorem o0 {p:Prop} (h:p:=by(first|(have q9 := ‹(!zmc a0.Colors || !zic a0)=false›;have h9:=ywp a0 (by simp only[Bool.or_eq_false_iff,Bool.not_eq_false']at q9;exact q9.2);first|exact⟨hb0,h9.1,fun v hv=>(h9.2 v hv).2,fun _ _=>by decide⟩|exact⟨hb0,h9.1,fun v hv=>(h9.2 v hv).2⟩|exact h9.1));first|done|fail):p:=h
theorem den (a0:Character) (hb0:bdCharacter a0):Den Tryz.prog 127 [.agg (yl a0)] (.bool (zze a0)):=by
 generalize hR:zze a0=r;unfold zze at hR;refine di Tryz.func127 Tryz.ntmps127 Tryz.results127 ?_;intro c hL hc hk;obtain⟨hL0,_⟩:=hL;have hw0:bwCharacter a0:=yw a0 hL0;clear hL0;simp only[pars,Nat.zero_add];iterate 2 refine rS ?_
 refine AWP.cond rfl (fun hb => ?_) (fun hb => ?_)
 ·replace hR:=ct hR
  refine rS ?_;refine AWP.ret ?_;subst hR;exact es
 ·replace hR:=cf hR
  refine rS ?_;refine AWP.cond rfl (fun hb => ?_) (fun hb => ?_)
  ·replace hR:=ct hR
   refine rS ?_;refine AWP.ret ?_;subst hR;exact es
  ·replace hR:=cf hR
   refine rD 16 ?_;refine AWP.ret ?_;subst hR;exact es
end N127
def D_zze : DF
 | [x0]=>some (.bool (zze (rdG yg x0)),false,[wG yl yg x0,bdCharacter (rdG yg x0)])
 | _=>none
theorem y6y:OkD Tryz.prog 127 D_zze:=by unfold D_zze;exact dk N127.den
def zdc (a0:Character):Bool:=
 (bif (!(zsc a0))then false else(bif (zw a0)then(a0.Period == 0)else(bif ((a0.Kind == 3) && ((a0.Period.tmod 2) != 0))then false else(zf a0.Period (zh a0) 600))))
namespace N120
theorem DD:DOk Tryz.prog (Go.Ab.DD [(169,dP D_zsc),(170,dP D_zw),(171,dP D_zh),(81,dP D_zf)]):=ya yfw.e <| ya yyo.e <| ya you.e <| ya yyd.e <| ye _
theorem dn:type_of% (And.intro @D_zsc.eq_1 <| And.intro @D_zw.eq_1 <| And.intro @D_zh.eq_1 <| @D_zf.eq_1):=by and_intros<;>intros<;>rfl
theorem ol:type_of% (@zf.eq_1):=@zf.eq_1
theorem o0 {p:Prop} (h:p:=by(first|(have q9 := ‹(!zsc a0)=false›;have h9:=yrt a0 (by simpa using q9);first|exact⟨hb0,h9.1,fun v hv=>(h9.2.1 v hv).2,h9.2.2⟩|exact⟨h9.1,fun v hv=>(h9.2.1 v hv).2,h9.2.2⟩|(and_intros<;>first|exact hb0|exact h9.1|exact fun v hv=>(h9.2.1 v hv).2|exact h9.2.2|decide|(intros;decide))));first|done|fail):p:=h
theorem den (a0:Character) (hb0:bdCharacter a0):Den Tryz.prog 120 [.ep (yl a0)] (.bool (zdc a0)):=by
 generalize hR:zdc a0=r;unfold zdc at hR;refine di Tryz.func120 Tryz.ntmps120 Tryz.results120 ?_;intro c hL hc hk;obtain⟨hL0,_⟩:=hL;have hw0:bwCharacter a0:=yw a0 hL0;clear hL0;simp only[pars,Nat.zero_add];iterate 2 refine rS ?_
 refine AWP.cond rfl (fun hb => ?_) (fun hb => ?_)
 ·replace hR:=ct hR
  refine rS ?_;refine AWP.ret ?_;subst hR;exact es
 ·replace hR:=cf hR
  refine rS ?_;refine AWP.cond rfl (fun hb => ?_) (fun hb => ?_)
  ·replace hR:=ct hR
   refine rS ?_;refine AWP.ret ?_;subst hR;exact es
  ·replace hR:=cf hR
   refine rS ?_;refine AWP.cond rfl (fun hb => ?_) (fun hb => ?_)
   ·replace hR:=ct hR
    refine rS ?_;refine AWP.ret ?_;subst hR;exact es
   ·replace hR:=cf hR
    refine rD 6 ?_;refine AWP.ret ?_;subst hR;exact es
end N120
def D_zdc : DF
 | [x0]=>some (.bool (zdc (rdP yg x0)),false,[wP yl yg x0,bdCharacter (rdP yg x0)])
 | _=>none
theorem ytw:OkD Tryz.prog 120 D_zdc:=by unfold D_zdc;exact dk N120.den
theorem ydw (g:List Int):zrc g=zmb g:=Bool.eq_iff_iff.2 ((ypi g).trans (y5d g).symm)
theorem yop (a:List UInt8):(zqb a != [])=decide (a.length=1/\65<=(a.getD 0 0).toNat/\(a.getD 0 0).toNat<=90):=by
 rw[ydh];by_cases h:a.length=1/\65<=(a.getD 0 0).toNat/\(a.getD 0 0).toNat<=90
 ·rw[if_pos h,decide_eq_true h]
  have hlt:(a.getD 0 0).toNat-65<y1c.length:=by show _<26;omega
  rw[List.getD_eq_getElem?_getD,List.getElem?_eq_getElem hlt,Option.getD_some];have:=(yrf _ (List.getElem_mem hlt)).1;rw[bne_iff_ne];intro h2;rw[h2]at this;simp at this
 ·rw[if_neg h,decide_eq_false h];rfl
theorem y4v (L:List UInt8) (g:List Int) :
  (bif (L == [])then(((g.length:Int) == 0) || (((g.length:Int) == 1) && (zg (g.getD 0 default) 2 9)))else((L == [76]) && (zac g [6]))) =
  (bif (L == [76])then(((g.length:Int) == 1) && ((g.getD 0 default) == 6))else(((L == []) && decide ((g.length:Int)<=1)) && (zmb g))):=by
 by_cases h1:L=[]
 ·subst h1
  simp only[show(([]:List UInt8) == [])=true from rfl,show(([]:List UInt8) == [76])=false from rfl,cond_true,cond_false,Bool.true_and];apply Bool.eq_iff_iff.2;rw[Bool.and_eq_true,y5d,decide_eq_true_eq]
  match g with
  | []=>simp[ywr]
  | [x]=>
   have e:((([x]:List Int).length:Int) == 0)=false:=rfl;have e2:((([x]:List Int).length:Int) == 1)=true:=rfl;rw[e,e2];simp only[Bool.false_or,Bool.true_and,zg,Bool.and_eq_true,decide_eq_true_eq,List.getD_cons_zero,ywr,List.length_singleton,List.mem_singleton,forall_eq,List.sum_cons,List.sum_nil,ne_eq,List.cons.injEq,and_true];omega
  | x::y::t=>
   have e:(((x::y::t).length:Int) == 0)=false:=by rw[beq_eq_false_iff_ne];simp only[List.length_cons];omega
   have e2:(((x::y::t).length:Int) == 1)=false:=by rw[beq_eq_false_iff_ne];simp only[List.length_cons];omega
   rw[e,e2];simp only[Bool.false_and,Bool.or_self,Bool.false_eq_true,false_iff,List.length_cons];omega
 ·have e1:(L == [])=false:=by simpa using h1
  rw[e1];by_cases h2:L=[76]
  ·subst h2
   simp only[BEq.rfl,cond_true,cond_false,Bool.true_and,yef];apply Bool.eq_iff_iff.2;rw[Bool.and_eq_true,decide_eq_true_eq,beq_iff_eq,beq_iff_eq];constructor
   ·intro h;subst h;simp
   ·rintro⟨h3,h4⟩
    obtain⟨x,rfl⟩:=List.length_eq_one_iff.1 (show g.length=1 by omega);simp only[List.getD_cons_zero]at h4;rw[h4]
  ·have e2:(L == [76])=false:=by simpa using h2
   rw[e2];simp
theorem y3w (c:Character) (hl:c.Colors.length<9223372036854775808):zsc c=(zmc c.Colors && zic c):=by
 unfold zsc zic zhf zf;rw[yps _ hl, <- y4v,ydw,yop]
 cases zpb c.Colors with
 | false=>simp
 | true=>
  simp only[Bool.not_true,Bool.or_false,Bool.true_and];rcases(show c.Kind=1\/c.Kind=2\/c.Kind=3\/c.Kind=4\/c.Kind=5\/c.Kind=6\/c.Kind=7\/c.Kind=8\/(c.Kind<1\/8<c.Kind)by omega)with h|h|h|h|h|h|h|h|h
  ·rw[h];rfl
  ·rw[h];rfl
  ·rw[h];rfl
  ·rw[h];rfl
  ·rw[h];rfl
  ·rw[h];rfl
  ·rw[h];rfl
  ·rw[h]
   show((((((c.Group.length:Int) == 0) && ((c.Letter.length:Int) == 1)) && decide (65<=((c.Letter.getD 0 0).toNat:Int))) && decide (((c.Letter.getD 0 0).toNat:Int)<=90)))=(decide (c.Letter.length=1/\65<=(c.Letter.getD 0 0).toNat/\(c.Letter.getD 0 0).toNat<=90) && ((c.Group.length:Int) == 0))
   apply Bool.eq_iff_iff.2;simp only[Bool.and_eq_true,beq_iff_eq,decide_eq_true_eq];omega
  ·have e0:(decide (1<=c.Kind) && decide (c.Kind<=8))=false:=by
    rw[Bool.and_eq_false_iff,decide_eq_false_iff_not,decide_eq_false_iff_not];omega
   have e:∀ n:Int,1<=n->n<=8->(c.Kind == n)=false:=fun n h1 h2=>by rw[beq_eq_false_iff_ne];omega
   rw[e0,e 1 (by omega) (by omega),e 2 (by omega) (by omega),e 3 (by omega) (by omega),e 4 (by omega) (by omega),e 5 (by omega) (by omega),e 6 (by omega) (by omega),e 7 (by omega) (by omega),e 8 (by omega) (by omega)];rfl
theorem yi1 (l:List Int):zae l=zfe l:=rfl
theorem yjm (c:Character):ztd c=zw c:=rfl
theorem y5t (c:Character) (h:zic c=true) (h8:c.Kind≠8):(c.Letter != [])=(c.Letter == [76]):=by
 unfold zic at h;simp only[Bool.cond_eq_ite]at h;have e8:(c.Kind == 8)=false:=by rw[beq_eq_false_iff_ne];exact h8
 repeat' split at h
 all_goals first
  | (rename_i q;rw[e8]at q;cases q;done)
  | (cases h;done)
  | (simp only[Bool.and_eq_true,beq_iff_eq]at h;rw[h.2];rfl)
  | (simp only[Bool.and_eq_true,beq_iff_eq]at h;rw[h.1];rfl)
  | (rename_i q;simp only[beq_iff_eq]at q;rw[q];rfl)
theorem y4u (k:Int) (h:k=2\/k=4\/k=5\/k=6\/k=7\/k=8):(zt k).1=zge k/\(zt k).2.1=ztc k:=by
 rcases h with h|h|h|h|h|h<;>subst h<;>exact⟨rfl,rfl⟩
theorem yyx (c:Character) (h:zic c=true) (hk:c.Kind=2\/c.Kind=4\/c.Kind=5\/c.Kind=6\/c.Kind=7\/c.Kind=8):zr c=zu c:=by
 obtain⟨r1,r2⟩:=y4u c.Kind hk;by_cases h8:c.Kind=8
 ·have hs:(zqb c.Letter != [])=true:=by
   unfold zic at h;rw[h8]at h;have h:(((zqb c.Letter) != []) && ((c.Group.length:Int) == 0))=true:=h;rw[Bool.and_eq_true]at h;exact h.1
  rw[yop,decide_eq_true_eq]at hs;have e1:=ydh c.Letter;rw[if_pos hs]at e1;have e2:=yrh ((c.Letter.getD 0 0).toNat:Int);rw[y2h _ (by omega) (by omega),show((((c.Letter.getD 0 0).toNat:Int)-65).toNat)=(c.Letter.getD 0 0).toNat-65 by omega]at e2;have hd:(default:List UInt8)=[]:=rfl;rw[hd]at e2
  have hall:∀ x∈y1c.getD ((c.Letter.getD 0 0).toNat-65) [],x=45\/x=46:=by
   have hlt:(c.Letter.getD 0 0).toNat-65<y1c.length:=by show _<26;omega
   rw[List.getD_eq_getElem?_getD,List.getElem?_eq_getElem hlt,Option.getD_some];exact(yrf _ (List.getElem_mem hlt)).2.2
  generalize y1c.getD ((c.Letter.getD 0 0).toNat-65) []=code at *
  have hb:yh (y3r c) code.length 0 []=yh (y2r c) code.length 0 []:=ylj _ _ _ (fun j u _ hj=>by
   unfold y3r y2r;rw[e1,e2,r1,r2,h8]
   have hg:(code.map (fun c=>if c=46 then(5:Int)else 15)).getD j default=if code.getD j 0=46 then 5 else 15:=by
    rw[List.getD_eq_getElem?_getD,List.getD_eq_getElem?_getD,List.getElem?_map,List.getElem?_eq_getElem (by omega)];rfl
   rw[hg];have hm:=hall (code.getD j 0) (by rw[List.getD_eq_getElem?_getD,List.getElem?_eq_getElem (by omega),Option.getD_some];exact List.getElem_mem _);generalize code.getD j 0=x at hm
   rcases hm with hm|hm<;>subst hm<;>rfl)
  unfold zr zu;rw[h8,e1,e2];simp only[List.length_map,Nat.sub_zero];rw[hb];rfl
 ·have e8:(c.Kind == 8)=false:=by rw[beq_eq_false_iff_ne];exact h8
  unfold zr zu;rw[e8,y5t c h h8,r2]
  have b3:yor c=yxr c:=by
   funext i s j t
   unfold yor yxr;rw[r1,r2]
  have b5:yas c=ygs c:=by
   funext i s j t
   unfold yas ygs;rw[r1,r2]
  have b2:ynr c=y5r c:=by
   funext i s
   unfold ynr y5r;rw[b3];all_goals rfl
  have b4:yis c=yqr c:=by
   funext i s
   unfold yis yqr;rw[b5];all_goals rfl
  rw[b2,b4];rfl
theorem yjw (c:Character) (h:zic c=true) (hs:ztd c=false):zbf c=zh c:=by
 unfold zbf zh;rw[hs, <- yjm,hs];simp only[cond_false];by_cases h3:c.Kind=3
 ·rw[h3];rfl
 ·have e3:(c.Kind == 3)=false:=by rw[beq_eq_false_iff_ne];exact h3
  rw[e3];simp only[cond_false]
  have hk:c.Kind=2\/c.Kind=4\/c.Kind=5\/c.Kind=6\/c.Kind=7\/c.Kind=8:=by
   unfold zic at h;unfold ztd at hs;simp only[Bool.cond_eq_ite]at h;simp only[Bool.or_eq_false_iff,beq_eq_false_iff_ne]at hs;repeat' split at h
   all_goals (try simp only[beq_iff_eq]at *)
   all_goals first|omega|(cases h;done)
  rw[yyx c h hk,yi1];have hg:=(ywp c h).1
  have hone:c.Kind=6\/c.Kind=7\/c.Kind=8->c.Group.length<=1:=by
   intro hq;unfold zic at h;simp only[Bool.cond_eq_ite]at h;repeat' split at h
   all_goals (try simp only[Bool.and_eq_true,Bool.or_eq_true,beq_iff_eq,yef,decide_eq_true_eq]at *)
   all_goals first|omega|(rcases h with h|h<;>omega)|(rw[h.2];simp)
  have e1:∀ n:Int,IntKind.wrap .i64 n=n\/True:=fun _=>.inr trivial
  unfold ztf;rcases hk with hk|hk|hk|hk|hk|hk
  ·rw[hk]
   cases decide (1<(c.Group.length:Int))<;>rfl
  ·rw[hk]
   cases decide (1<(c.Group.length:Int))<;>rfl
  ·rw[hk]
   cases decide (1<(c.Group.length:Int))<;>rfl
  ·have:=hone (by omega)
   rw[hk,decide_eq_false (show ¬ 1<(c.Group.length:Int)by omega)];rfl
  ·have:=hone (by omega)
   rw[hk,decide_eq_false (show ¬ 1<(c.Group.length:Int)by omega)];rfl
  ·have:=hone (by omega)
   rw[hk,decide_eq_false (show ¬ 1<(c.Group.length:Int)by omega)];rfl
theorem ybv (c:Character) (hl:c.Colors.length<9223372036854775808):zze c=zdc c:=by
 unfold zze zdc;rw[y3w c hl, <- yjm]
 cases h1:zmc c.Colors with
 | false=>rfl
 | true=>
  cases h2:zic c with
  | false=>rfl
  | true=>
   cases h3:ztd c with
   | true=>rfl
   | false=>
    rw[yjw c h2 h3];simp only[Bool.not_true,Bool.or_self,Bool.and_self,cond_false,zg,zf]
    cases h4:(c.Kind == 3)with
    | false=>
     have:(c.Kind != 3)=true:=by rw[bne,h4];rfl
     rw[this];simp
    | true=>
     have:(c.Kind != 3)=false:=by rw[bne,h4];rfl
     rw[this];simp only[Bool.false_or,Bool.true_and]
     cases h5:(c.Period.tmod 2 == 0)with
     | true=>
      have:(c.Period.tmod 2 != 0)=false:=by rw[bne,h5];rfl
      rw[this];simp
     | false=>
      have:(c.Period.tmod 2 != 0)=true:=by rw[bne,h5];rfl
      rw[this];simp
theorem ycs (c:List UInt8):zcf c=zmd c:=by
 unfold zcf zmd
 match c with
 | []=>rfl
 | [b]=>
  simp only[List.length_singleton,zob,List.getD_cons_zero,Go.Lib.indexByte];by_cases h1:b=87
  ·subst h1;rfl
  by_cases h2:b=82
  ·subst h2;rfl
  by_cases h3:b=71
  ·subst h3;rfl
  by_cases h4:b=89
  ·subst h4;rfl
  have e:∀ x:UInt8,b≠x->([b] == [x])=false:=by intro x h;simp[h]
  rw[e _ h1,e _ h2,e _ h3,e _ h4];have n1:¬ (87:UInt8)=b:=fun h=>h1 h.symm
  have n2:¬ (82:UInt8)=b:=fun h=>h2 h.symm
  have n3:¬ (71:UInt8)=b:=fun h=>h3 h.symm
  have n4:¬ (89:UInt8)=b:=fun h=>h4 h.symm
  simp[n1,n2,n3,n4]
 | a::b::t=>
  have e:∀ x:UInt8,((a::b::t) == [x])=false:=by intro x;simp
  rw[e,e,e,e];have:(((a::b::t).length:Int) == 1)=false:=by simp;omega
  rw[this];rfl
theorem yjt (s:Sector):zdf s=zwb s:=by
 unfold zdf zwb zre;rw[ycs];rfl
theorem yw0 (a:Int):a.tmod 360=if 0<=a then a % 360 else -((-a) % 360):=by
 split
 ·rw[Int.tmod_eq_emod_of_nonneg (by omega)]
 ·have e:a = -(-a):=by omega
  rw[e,Int.neg_tmod,Int.tmod_eq_emod_of_nonneg (by omega)];simp
theorem ycn (a:Int):zde a 360=a % 360:=by
 unfold zde;rw[yw0 a]
 have e:IntKind.wrap .i64 ((if 0<=a then a % 360 else -((-a) % 360))+360)=(if 0<=a then a % 360 else -((-a) % 360))+360:=by
  rw[IntKind.wrap_i64];split<;>omega
 rw[e,yw0];split<;>split<;>omega
def brg (n:Int):Prop:=0<=n/\n<=359
theorem w64 {x:Int} (h1 : -9223372036854775808<=x) (h2:x<=9223372036854775807):IntKind.wrap .i64 x=x:=by rw[IntKind.wrap_i64];omega
def y6b (s:Sector):Int:=(s.To-s.From-1) % 360+1
theorem ynp (s:Sector) (h1:brg s.From) (h2:brg s.To):zad s=y6b s:=by
 obtain⟨a1,a2⟩:=h1;obtain⟨b1,b2⟩:=h2;unfold zad y6b;rw[w64 (x:=s.To-s.From) (by omega) (by omega),w64 (x:=s.To-s.From-1) (by omega) (by omega),ycn,w64 (by omega) (by omega)]
theorem yip (s:Sector) (h1:brg s.From) (h2:brg s.To):zif s=y6b s:=by
 obtain⟨a1,a2⟩:=h1;obtain⟨b1,b2⟩:=h2;unfold zif y6b;rw[w64 (x:=s.To-s.From) (by omega) (by omega),w64 (x:=s.To-s.From+360) (by omega) (by omega),yw0,if_pos (by omega)]
 cases hb:((s.To-s.From+360) % 360 == 0)with
 | true=>have:=eq_of_beq hb;simp only[cond_true];omega
 | false=>
  have:(s.To-s.From+360) % 360≠0:=by intro h;rw[h]at hb;exact absurd hb (by decide)
  simp only[cond_false];omega
theorem ydr (s:Sector) (b:Int) (h1:brg s.From) (h2:brg s.To) (h3:brg b):zqe s b=decide ((b-s.From) % 360<y6b s):=by
 unfold zqe;obtain⟨a1,a2⟩:=h1;obtain⟨c1,c2⟩:=h3;rw[w64 (x:=b-s.From) (by omega) (by omega),ycn,ynp s ⟨a1,a2⟩ h2]
theorem yjf (s:Sector):1<=y6b s/\y6b s<=360:=by unfold y6b;omega
def itR {σ : Type} (g : Nat -> σ -> σ) : Nat -> Nat -> σ -> σ
 | 0,_,s=>s
 | k+1,i,s=>itR g k (i+1) (g i s)
theorem ytf {σ : Type} (g : Nat -> σ -> σ) : ∀ (k i : Nat) (s : σ), itR g (k + 1) i s = g (i + k) (itR g k i s)
 | 0,i,s=>rfl
 | k+1,i,s=>by
  have:=ytf g k (i+1) (g i s);rw[show itR g (k+1+1) i s=itR g (k+1) (i+1) (g i s)from rfl,this,show i+1+k=i+(k+1)by omega];rfl
theorem ypd {ρ σ:Type} {b:Nat->σ->Except ρ σ} (p:Nat->Bool) (g:Nat->σ->σ) (r:ρ):∀ {k i:Nat} {s:σ},(∀ j u,i<=j->j<i+k->b j u=bif p j then .error r else .ok (g j u)) ->
  ((∃ j,i<=j/\j<i+k/\p j=true)/\yh b k i s=.error r)\/((∀ j,i<=j->j<i+k->p j=false)/\yh b k i s=.ok (itR g k i s))
 | 0,i,s,_=>.inr ⟨fun j h1 h2=>by omega,rfl⟩
 | k+1,i,s,hb=>by
  simp only[yh,hb i s (Nat.le_refl _) (by omega)]
  cases hp:p i with
  | true=>exact .inl ⟨⟨i,Nat.le_refl _,by omega,hp⟩,rfl⟩
  | false=>
   simp only[cond_false];rcases ypd p g r (k:=k) (i:=i+1) (s:=g i s) (fun j u h1 h2=>hb j u (by omega) (by omega))with⟨⟨j,h1,h2,h3⟩,h4⟩|⟨h1,h2⟩
   ·exact .inl ⟨⟨j,by omega,by omega,h3⟩,h4⟩
   ·refine .inr ⟨fun j h3 h4 => ?_,h2⟩
    by_cases hji:j=i
    ·subst hji;exact hp
    ·exact h1 j (by omega) (by omega)
theorem yfg {ρ:Type} {b:Int->Except (Sum ρ Int) Int} (q:Nat->Bool) (r:ρ) (n:Nat) (hb:∀ j:Nat,j<=n->b (j:Int)=bif decide (j<n)then(bif q j then .error (.inl r)else .ok ((j+1:Nat):Int))else .error (.inr (j:Int))) :
  ∀ (m i k:Nat),i+m=n->m<k->((∃ j,i<=j/\j<n/\q j=true)/\yqb b k (i:Int)=.error (.inl r))\/((∀ j,i<=j->j<n->q j=false)/\yqb b k (i:Int)=.error (.inr (n:Int)))
 | _,_,0,_,h=>absurd h (Nat.not_lt_zero _)
 | 0,i,k+1,e,_=>by
  have:i=n:=by omega
  subst this;right
  refine⟨fun j h1 h2=>by omega,?_⟩;simp only[yqb,hb i (Nat.le_refl _),Nat.lt_irrefl,decide_false,cond_false]
 | m+1,i,k+1,e,hk=>by
  simp only[yqb,hb i (by omega),show i<n by omega,decide_true,cond_true]
  cases hq:q i with
  | true=>exact .inl ⟨⟨i,Nat.le_refl _,by omega,hq⟩,rfl⟩
  | false=>
   simp only[cond_false];rcases yfg q r n hb m (i+1) k (by omega) (by omega)with⟨⟨j,h1,h2,h3⟩,h4⟩|⟨h1,h2⟩
   ·exact .inl ⟨⟨j,by omega,h2,h3⟩,h4⟩
   ·refine .inr ⟨fun j h3 h4 => ?_,h2⟩
    by_cases hji:j=i
    ·subst hji;exact hq
    ·exact h1 j (by omega) h4
def secQ (a:List Sector) (i:Nat):Bool:=(!(zwb (a.getD i default))) || (decide (0<(i:Int)) && decide (((a.getD i default).From)<=((a.getD ((IntKind.wrap .i64 ((i:Int)-1)).toNat) default).From)))
theorem y0k (a:List Sector) (i:Nat) (hi:i<9223372036854775807):secQ a i=false↔zwb (a.getD i default)=true/\(0<i->(a.getD (i-1) default).From<(a.getD i default).From):=by
 unfold secQ;rw[Bool.or_eq_false_iff,Bool.not_eq_false'];constructor
 ·rintro⟨h1,h2⟩
  refine⟨h1,fun h => ?_⟩;rw[y1n h (by omega)]at h2;simp only[Bool.and_eq_false_iff,decide_eq_false_iff_not]at h2;omega
 ·rintro⟨h1,h2⟩
  refine⟨h1,?_⟩;by_cases h:0<i
  ·rw[y1n h (by omega)]
   have:=h2 h;simp only[Bool.and_eq_false_iff,decide_eq_false_iff_not];omega
  ·simp only[Bool.and_eq_false_iff,decide_eq_false_iff_not];omega
theorem yao {s:Sector} (h:zwb s=true):brg s.From/\brg s.To:=by
 unfold zwb zre zf at h;simp only[Bool.and_eq_true,decide_eq_true_eq]at h;exact⟨⟨h.1.1.1,h.1.1.2⟩,h.1.2.1,h.1.2.2⟩
theorem yft (a : List Sector) (n : Nat) : ∀ k, k <= 1000 -> 0 <= itR (fun i (s : Int) => s + y6b (a.getD i default)) k 0 0 /\ itR (fun i (s : Int) => s + y6b (a.getD i default)) k 0 0 <= 360 * k
 | 0,_=>by simp[itR]
 | k+1,h=>by
  have:=yft a n k (by omega);rw[ytf];have:=yjf (a.getD (0+k) default);simp only[Nat.zero_add]at *;omega
theorem yth (a:List Sector) (hl:a.length<9223372036854775807):zbc a=zx a:=by
 have sp1:=ypd (b:=yzo a) (secQ a) (fun _ u=>u) false (k:=a.length-0) (i:=0) (s:=()) (fun j u _ _=>by cases u;rfl);let hasK (i:Nat):Bool:=(List.range a.length).any fun k=>((k:Int) != (i:Int)) && zqe (a.getD i default) ((a.getD k default).From)
 have im1:=ypd (b:=ydj a) (fun i=>secQ a i || hasK i) (fun i (s:Int)=>IntKind.wrap .i64 (s+zad (a.getD i default))) false (k:=a.length-0) (i:=0) (s:=0) (fun j u _ _=>by
  simp only[ydj,yjt];rw[show((!zwb (a.getD j default)) || (decide (0<(j:Int)) && decide (((a.getD j default).From)<=((a.getD ((IntKind.wrap .i64 ((j:Int)-1)).toNat) default).From))))=secQ a j from rfl]
  cases hq:secQ a j with
  | true=>rfl
  | false=>
   simp only[cond_false,Bool.false_or];rw[ybc (b:=ywm a j u) (fun k=>((k:Int) != (j:Int)) && zqe (a.getD j default) ((a.getD k default).From)) false (fun k v _ _=>rfl)];simp only[Nat.sub_zero,Nat.zero_add];show(match (bif hasK j then Except.error false else Except.ok ())with|.error e=>Except.error e|.ok s2=>Except.ok (IntKind.wrap .i64 (u+zad (a.getD j default))))=bif hasK j then Except.error false else Except.ok (IntKind.wrap .i64 (u+zad (a.getD j default)))
   cases hasK j<;>rfl)
 unfold zbc zx;rcases sp1 with⟨⟨j,_,hj,hq⟩,e1⟩|⟨hq,e1⟩
 ·rcases im1 with⟨_,e2⟩|⟨hn,_⟩
  ·rw[e1,e2]
   cases decide (12<(a.length:Int))<;>rfl
  ·have:=hn j (Nat.zero_le _) hj
   simp only[hq,Bool.true_or]at this;cases this
 ·have hq':∀ i,i<a.length->zwb (a.getD i default)=true/\(0<i->(a.getD (i-1) default).From<(a.getD i default).From):=fun i hi=>(y0k a i (by omega)).1 (hq i (Nat.zero_le _) (by omega))
  have hb:∀ i,i<a.length->brg (a.getD i default).From/\brg (a.getD i default).To:=fun i hi=>yao (hq' i hi).1
  have hs:∀ i,i+1<a.length->(a.getD i default).From<(a.getD (i+1) default).From:=fun i hi=>by have:=(hq' (i+1) hi).2 (by omega);simpa using this
  rw[e1];simp only;have apart:=yjr (f:=fun i=>(a.getD i default).From) (arc:=fun i=>y6b (a.getD i default)) (n:=a.length) (fun i hi=>(hb i hi).1) hs
  -- the reference's second loop
  let q2 (j:Nat):Bool:=decide (1<a.length) && decide ((((a.getD ((j+1) % a.length) default).From-(a.getD j default).From+360) % 360)<y6b (a.getD j default))
  have sp2:=yfg (b:=yel a ()) q2 false (if 1<a.length then a.length else 0) (fun j hj=>by
   simp only[yel];by_cases hn:1<a.length
   ·rw[if_pos hn]at hj ⊢
    have d1:decide ((1:Int)<(a.length:Int))=true:=by simp;omega
    rw[d1,Bool.and_true];by_cases hjl:j<a.length
    ·have d2:decide ((j:Int)<(a.length:Int))=true:=by simp;omega
     rw[d2,decide_eq_true hjl];simp only[cond_true];have w1:IntKind.wrap .i64 ((j:Int)+1)=((j+1:Nat):Int):=by rw[IntKind.wrap_i64];omega
     have t1:((IntKind.wrap .i64 ((j:Int)+1)).tmod (a.length:Int)).toNat=(j+1) % a.length:=by
      rw[w1,Int.tmod_eq_emod_of_nonneg (by omega),show((j+1:Nat):Int) % (a.length:Int)=(((j+1) % a.length:Nat):Int)from rfl,Int.toNat_natCast]
     rw[t1,Int.toNat_natCast,yip _ (hb j hjl).1 (hb j hjl).2,w1];have hm:(j+1) % a.length<a.length:=Nat.mod_lt _ (by omega);have b1:=(hb _ hm).1;have b2:=(hb j hjl).1;obtain⟨c1,c2⟩:=b1;obtain⟨c3,c4⟩:=b2;rw[w64 (x:=(a.getD ((j+1) % a.length) default).From-(a.getD j default).From) (by omega) (by omega),w64 (x:=(a.getD ((j+1) % a.length) default).From-(a.getD j default).From+360) (by omega) (by omega),Int.tmod_eq_emod_of_nonneg (by omega)];show _=bif q2 j then _ else _
     rw[show q2 j=decide ((((a.getD ((j+1) % a.length) default).From-(a.getD j default).From+360) % 360)<y6b (a.getD j default))from by show(decide (1<a.length) && _)=_;rw[decide_eq_true hn,Bool.true_and]]
    ·have d2:decide ((j:Int)<(a.length:Int))=false:=by simp;omega
     rw[d2,decide_eq_false hjl];rfl
   ·rw[if_neg hn]at hj ⊢
    have d1:decide ((1:Int)<(a.length:Int))=false:=by simp;omega
    have d3:decide (j<0)=false:=by simp
    rw[d1,Bool.and_false,d3]
    rfl) (if 1<a.length then a.length else 0) 0 (a.length-(0:Int).toNat+1) (by omega) (by simp;split<;>omega)
  have e0:((0:Nat):Int)=0:=rfl;rw[e0]at sp2
  -- what the program's loop says
  have hask:∀ i,i<a.length->(hasK i=false↔∀ k,k<a.length->k≠i->y6b (a.getD i default)<=((a.getD k default).From-(a.getD i default).From) % 360):=by
   intro i hi;show((List.range a.length).any _)=false↔_;rw[List.any_eq_false];constructor
   ·intro h k hk hki
    have:=h k (List.mem_range.2 hk);rw[ydr _ _ (hb i hi).1 (hb i hi).2 (hb k hk).1]at this;simp only[Bool.and_eq_true,bne_iff_ne,decide_eq_true_eq,not_and]at this;have:=this (by omega);omega
   ·intro h k hk
    have hk:=List.mem_range.1 hk;rw[ydr _ _ (hb i hi).1 (hb i hi).2 (hb k hk).1];simp only[Bool.and_eq_true,bne_iff_ne,decide_eq_true_eq,not_and];intro hki;have:=h k hk (by omega);omega
  rcases im1 with⟨⟨i,_,hi,hc⟩,e2⟩|⟨hn,e2⟩
  · -- two sectors meet
   rw[e2];simp only;have hi:i<a.length:=by omega
   rw[hq i (Nat.zero_le _) (by omega),Bool.false_or]at hc
   have hne:¬ ∀ k,k<a.length->k≠i->y6b (a.getD i default)<=((a.getD k default).From-(a.getD i default).From) % 360:=fun h=>by
    rw[(hask i hi).2 h]at hc;cases hc
   have hno:¬ (1<a.length->∀ i,i<a.length->y6b (a.getD i default)<=((a.getD ((i+1) % a.length) default).From-(a.getD i default).From+360) % 360):=fun h=>hne (fun k hk hki=>apart.2 h i hi k hk hki)
   cases decide (12<(a.length:Int))with
   | true=>rfl
   | false=>
    simp only[cond_false];rcases sp2 with⟨_,e3⟩|⟨h3,_⟩
    ·rw[e3]
    ·exfalso
     apply hno;intro hn1 j hj;have:=h3 j (Nat.zero_le _) (by rw[if_pos hn1];exact hj)
     have:decide ((((a.getD ((j+1) % a.length) default).From-(a.getD j default).From+360) % 360)<y6b (a.getD j default))=false:=by
      have h4:(decide (1<a.length) && _)=false:=this;rwa [decide_eq_true hn1,Bool.true_and]at h4
     have:=of_decide_eq_false this;omega
  ·rw[e2]
   simp only[zkb]
   have hall:∀ i,i<a.length->∀ k,k<a.length->k≠i->y6b (a.getD i default)<=((a.getD k default).From-(a.getD i default).From) % 360:=fun i hi=>(hask i hi).1 (by
    have:=hn i (Nat.zero_le _) (by omega);rw[Bool.or_eq_false_iff]at this
    exact this.2)
   have hcons:=apart.1 hall
   have e3:yqb (yel a ()) (a.length-(0:Int).toNat+1) 0=.error (.inr ((if 1<a.length then a.length else 0:Nat):Int)):=by
    rcases sp2 with⟨⟨j,_,hj,h4⟩,_⟩|⟨_,e3⟩
    ·exfalso
     have h4:(decide (1<a.length) && decide ((((a.getD ((j+1) % a.length) default).From-(a.getD j default).From+360) % 360)<y6b (a.getD j default)))=true:=h4;rw[Bool.and_eq_true]at h4;have g1:=of_decide_eq_true h4.1;have g2:=of_decide_eq_true h4.2;rw[if_pos g1]at hj;have:=hcons g1 j hj;omega
    ·exact e3
   rw[e3];simp only
   cases h12:decide (12<(a.length:Int))with
   | true=>
    have:=of_decide_eq_true h12;rw[decide_eq_false (show ¬ (a.length:Int)<=12 by omega),Bool.false_and];rfl
   | false=>
    have h12:=of_decide_eq_false h12;rw[decide_eq_true (show(a.length:Int)<=12 by omega),Bool.true_and];simp only[cond_false]
    have hit:∀ k,k<=a.length->itR (fun i (s:Int)=>IntKind.wrap .i64 (s+zad (a.getD i default))) k 0 0=itR (fun i (s:Int)=>s+y6b (a.getD i default)) k 0 0:=by
     intro k
     induction k with
     | zero=>intro _;rfl
     | succ k ih=>
      intro hk;rw[ytf,ytf,ih (by omega)];simp only[Nat.zero_add];have r1:=yft a 0 k (by omega);rw[ynp _ (hb k (by omega)).1 (hb k (by omega)).2];have r2:=yjf (a.getD k default);exact w64 (by omega) (by omega)
    have hle:=y0w (f:=fun i=>(a.getD i default).From) (arc:=fun i=>y6b (a.getD i default)) (S:=fun k=>itR (fun i (s:Int)=>s+y6b (a.getD i default)) k 0 0) (n:=a.length) (fun i hi=>(hb i hi).1) hs (fun i _=>yjf _) hcons rfl (fun i _=>by
     show itR _ (i+1) 0 0=_;rw[ytf]
     simp only[Nat.zero_add])
    rw[hit _ (by omega)];exact decide_eq_true (by simpa using hle)
theorem yn1 (s:List UInt8) (c:UInt8) : -1<=Go.Lib.indexByte s c/\(0<=Go.Lib.indexByte s c↔c∈s):=by
 induction s with
 | nil=>simp[Go.Lib.indexByte]
 | cons b l ih=>
  obtain⟨i1,i2⟩:=ih;by_cases hb:b=c
  ·subst hb;simp[Go.Lib.indexByte]
  ·have hb2:¬ c=b:=fun h=>hb h.symm
   have e1:(b == c)=false:=by simpa using hb
   by_cases hm:c∈l
   ·have h0:=i2.2 hm
    have e2:(Go.Lib.indexByte l c == -1)=false:=by rw[beq_eq_false_iff_ne];omega
    have e3:Go.Lib.indexByte (b::l) c=Go.Lib.indexByte l c+1:=by simp only[Go.Lib.indexByte,e1,e2,Bool.false_eq_true,if_false]
    rw[e3];exact⟨by omega,fun _=>List.mem_cons_of_mem _ hm,fun _=>by omega⟩
   ·have h0:¬ 0<=Go.Lib.indexByte l c:=fun h=>hm (i2.1 h)
    have e0:Go.Lib.indexByte l c = -1:=by omega
    have e3:Go.Lib.indexByte (b::l) c = -1:=by simp only[Go.Lib.indexByte,e1,e0,Bool.false_eq_true,if_false];rfl
    rw[e3];refine⟨by omega,fun h=>by omega,fun h => ?_⟩;rcases List.mem_cons.1 h with h|h
    ·exact absurd h hb2
    ·exact absurd h hm
theorem ycp (s:List UInt8) (c:UInt8):zob s [c]=decide (c∈s):=by
 unfold zob;rw[List.getD_cons_zero];exact decide_eq_decide.2 (yn1 s c).2
theorem y5v (s:List UInt8) (c:UInt8):zob (s++[c]) [c]=true:=by
 rw[ycp];simp
theorem yw1 (s:List UInt8) (b c:UInt8) (h:b≠c):zob (s++[b]) [c]=zob s [c]:=by
 rw[ycp,ycp];have:¬ c=b:=fun e=>h e.symm
 simp[this]
theorem yeq (c:UInt8) (g:Sector->List UInt8->Except (List UInt8) (List UInt8)) (hg:∀ x u,g x u=bif ((x.Color == [c]) && (!(zob u [c])))then .ok (u++[c])else .ok u) :
  ∀ (l:List Sector) (u:List UInt8),zob u [c]=true->yxi g l u=.ok u
 | [],u,_=>rfl
 | x::l,u,h=>by
  rw[yle,hg,h,Bool.not_true,Bool.and_false];exact yeq c g hg l u h
theorem yqt (c:UInt8) (g:Sector->List UInt8->Except (List UInt8) (List UInt8)) (hg:∀ x u,g x u=bif ((x.Color == [c]) && (!(zob u [c])))then .ok (u++[c])else .ok u) :
  ∀ (l:List Sector) (u:List UInt8),zob u [c]=false->yxi g l u=.ok (bif l.any (fun x=>x.Color == [c])then u++[c]else u)
 | [],u,_=>rfl
 | x::l,u,h=>by
  rw[yle,hg,h,Bool.not_false,Bool.and_true,List.any_cons]
  cases hx:(x.Color == [c])with
  | true=>
   simp only[cond_true,Bool.true_or];exact yeq c g hg l _ (y5v u c)
  | false=>
   simp only[cond_false,Bool.false_or];exact yqt c g hg l u h
theorem yvs (c:List UInt8) (g:Sector->List UInt8->Except (Sum (List UInt8) (List UInt8)) (List UInt8)) (hg:∀ x u,g x u=bif (x.Color == c)then .error (.inr (u++c))else .ok u) :
  ∀ (l:List Sector) (u:List UInt8),yxi g l u=bif l.any (fun x=>x.Color == c)then .error (.inr (u++c))else .ok u
 | [],u=>rfl
 | x::l,u=>by
  rw[yle,hg,List.any_cons]
  cases hx:(x.Color == c)with
  | true=>rfl
  | false=>
   simp only[cond_false,Bool.false_or];exact yvs c g hg l u
def ydd (a:List Sector) (s:List UInt8) (c:UInt8):List UInt8:=bif a.any (fun x=>x.Color == [c])then s++[c]else s
theorem yke (a:List Sector) (i:Nat) (s:List UInt8) (c:UInt8) (h4:i<4) (hc:(([87,82,71,89].take ((IntKind.wrap .i64 ((i:Int)+1)).toNat)).drop i)=[c]) (h:zob s [c]=false) :
  ysj a i s=.ok (ydd a s c):=by
 unfold ysj;rw[y2c (fun x u=>bif ((x.Color == [c]) && (!(zob u [c])))then .ok (u++[c])else .ok u) a s (fun j u _=>by simp only[ygm,hc])];rw[yqt c _ (fun _ _=>rfl) a s h];rfl
theorem y8b (a:List Sector) (i:Nat) (s:List UInt8) (c:UInt8) (hc:([[87],[82],[71],[89]]:List (List UInt8)).getD i default=[c]):ytr a i s=.ok (ydd a s c):=by
 unfold ytr;rw[y2c (fun x u=>bif (x.Color == [c])then .error (.inr (u++[c]))else .ok u) a s (fun j u _=>by simp only[y0s,hc])];rw[yvs [c] _ (fun _ _=>rfl) a s];unfold ydd;cases a.any (fun x=>x.Color == [c])<;>rfl
theorem yic (a:List Sector) (s:List UInt8) (b c:UInt8) (h:b≠c):zob (ydd a s b) [c]=zob s [c]:=by
 unfold ydd
 cases a.any (fun x=>x.Color == [b])with
 | true=>exact yw1 s b c h
 | false=>rfl
theorem y4l (a:List Sector):zcc a=zy a:=by
 unfold zcc zy;have n0:∀ c:UInt8,zob [] [c]=false:=by intro c;simp[zob,Go.Lib.indexByte]
 have l4:([87,82,71,89]:List Nat).length-0=4:=rfl;rw[l4];simp only[yh,Nat.sub_zero];rw[yke a 0 [] 87 (by omega) rfl (n0 _),y8b a 0 [] 87 rfl];simp only;rw[yke a (0+1) _ 82 (by omega) rfl (by rw[yic _ _ _ _ (by decide)];exact n0 _),y8b a (0+1) _ 82 rfl];simp only;rw[yke a (0+1+1) _ 71 (by omega) rfl (by rw[yic _ _ _ _ (by decide),yic _ _ _ _ (by decide)];exact n0 _),y8b a (0+1+1) _ 71 rfl];simp only;rw[yke a (0+1+1+1) _ 89 (by omega) rfl (by rw[yic _ _ _ _ (by decide),yic _ _ _ _ (by decide),yic _ _ _ _ (by decide)];exact n0 _),y8b a (0+1+1+1) _ 89 rfl]
theorem y7s (l:List (List UInt8)) (x:List UInt8):zne l x=l.any (fun y=>y == x):=by
 unfold zne zzd;rcases yyb (b:=ywl l x) (fun j=>x == l.getD j default) (fun j=>(j:Int)) (k:=l.length-0) (i:=0) (s:=()) (fun j u _ _=>rfl)with⟨j,_,h2,h3,h4,h5⟩|⟨h1,h2⟩
 ·rw[h5]
  simp only;rw[decide_eq_true (show(0:Int)<=(j:Int)by omega)];symm
  rw[List.any_eq_true];have hj:j<l.length:=by omega
  have h3:(x == l.getD j default)=true:=h3;have h3:=eq_of_beq h3;refine⟨l.getD j default,?_,by rw[<- h3];simp⟩;rw[List.getD_eq_getElem?_getD,List.getElem?_eq_getElem hj];exact List.getElem_mem hj
 ·rw[h2]
  simp only;rw[decide_eq_false (show ¬ (0:Int) <= -1 by omega)];symm
  rw[List.any_eq_false];intro y hy;obtain⟨i,hi,rfl⟩:=List.getElem_of_mem hy;have:(x == l.getD i default)=false:=h1 i (Nat.zero_le _) (by omega);rw[List.getD_eq_getElem?_getD,List.getElem?_eq_getElem hi,Option.getD_some]at this;intro h;rw[eq_of_beq h]at this;simp at this
theorem y3f {k:Int} (h:znb k=true):k=1\/k=2\/k=3\/k=4\/k=5\/k=6\/k=7\/k=8\/k=9:=by
 unfold znb zf at h;simp only[Bool.and_eq_true,decide_eq_true_eq]at h;omega
theorem y4k {k:Int} (h:znb k=true):zve k=zuc k:=by
 rcases y3f h with rfl|rfl|rfl|rfl|rfl|rfl|rfl|rfl|rfl<;>rfl
theorem yrr {k:Int} (h:znb k=true):zwe k=zvc k:=by
 rcases y3f h with rfl|rfl|rfl|rfl|rfl|rfl|rfl|rfl|rfl<;>rfl
theorem yzk {k:Int} (h:znb k=true):zjd k=zv k:=by
 rcases y3f h with rfl|rfl|rfl|rfl|rfl|rfl|rfl|rfl|rfl<;>decide
theorem yqj (m:Mark):(match yh (ywh m) (((zv m.Kind).length)-0) 0 ()with|.error e=>e|.ok s1=>false)=(zv m.Kind).any (fun y=>y == m.Shape):=by
 rcases yyb (b:=ywh m) (fun j=>(zv m.Kind).getD j default == m.Shape) (fun _=>true) (k:=(zv m.Kind).length-0) (i:=0) (s:=()) (fun j u _ _=>rfl)with⟨j,_,h2,h3,h4,h5⟩|⟨h1,h2⟩
 ·rw[h5]
  simp only;symm
  rw[List.any_eq_true];have hj:j<(zv m.Kind).length:=by omega
  refine⟨(zv m.Kind).getD j default,?_,h3⟩;rw[List.getD_eq_getElem?_getD,List.getElem?_eq_getElem hj];exact List.getElem_mem hj
 ·rw[h2]
  simp only;symm
  rw[List.any_eq_false];intro y hy;obtain⟨i,hi,rfl⟩:=List.getElem_of_mem hy;have:((zv m.Kind).getD i default == m.Shape)=false:=h1 i (Nat.zero_le _) (by omega);rw[List.getD_eq_getElem?_getD,List.getElem?_eq_getElem hi,Option.getD_some]at this;rw[this];decide
theorem yh1 (m:Mark):zxe m=(bif (m.Kind == 0)then(m.Kind == 0 && (m.Colors == [] && (m.Shape == [] && m.Topmark == [])))else(bif (((!(znb m.Kind)) || (m.Colors != (zuc m.Kind))) || ((m.Topmark != []) && (m.Topmark != (zvc m.Kind))))then false else(zv m.Kind).any (fun y=>y == m.Shape))):=by
 unfold zxe;have hk:zte m.Kind=znb m.Kind:=rfl;rw[hk]
 cases h0:(m.Kind == 0)with
 | true=>
  have e:=eq_of_beq h0;have hn:znb m.Kind=false:=by rw[e];rfl
  simp only[Bool.true_and,cond_true,hn,Bool.false_and];cases(m.Colors == [] && (m.Shape == [] && m.Topmark == []))<;>rfl
 | false=>
  simp only[Bool.false_and,cond_false]
  cases h1:znb m.Kind with
  | false=>rfl
  | true=>
   rw[y4k h1,yrr h1,yzk h1,y7s];simp only[Bool.true_and,Bool.not_true,Bool.false_or,bne];cases(m.Colors == zuc m.Kind)<;>cases(m.Topmark == [])<;>cases(m.Topmark == zvc m.Kind)<;>simp
theorem y6l (m:Mark):zxe m=znc m:=by
 rw[yh1];unfold znc zwc;have hs:=yqj m;generalize yh (ywh m) ((zv m.Kind).length-0) 0 ()=z at hs ⊢
 cases z with
 | error e=>simp only at hs ⊢;rw[hs]
 | ok u=>simp only at hs ⊢;rw[hs]
def zwf (a0:Aid):Bool:=
 (bif (((!(zze a0.Light)) || (!(zpf a0.Intensity))) || (!(zbc a0.Sectors)))then false else(bif ((a0.Sectors.length:Int) == 0)then((a0.Light.Colors.length:Int) == 1)else((zcc a0.Sectors) == a0.Light.Colors)))
namespace N73
theorem DD:DOk Tryz.prog (Go.Ab.DD [(127,dP D_zze),(128,dP D_zpf),(129,dP D_zbc),(130,dP D_zcc)]):=ya y6y.e <| ya yny.e <| ya yev.e <| ya y2w.e <| ye _
theorem dn:type_of% (And.intro @D_zze.eq_1 <| And.intro @D_zpf.eq_1 <| And.intro @D_zbc.eq_1 <| @D_zcc.eq_1):=by and_intros<;>intros<;>rfl
theorem den (a0:Aid) (hb0:bdAid a0):Den Tryz.prog 73 [.agg (eAid a0)] (.bool (zwf a0)):=by
 generalize hR:zwf a0=r;unfold zwf at hR;refine di Tryz.func73 Tryz.ntmps73 Tryz.results73 ?_;intro c hL hc hk;obtain⟨hL0,_⟩:=hL;have hw0:bwAid a0:=yy a0 hL0;clear hL0;simp only[pars,Nat.zero_add];iterate 2 refine rS ?_
 refine AWP.cond rfl (fun hb => ?_) (fun hb => ?_)
 ·replace hR:=ct hR
  refine rS ?_;refine AWP.ret ?_;subst hR;exact es
 ·replace hR:=cf hR
  refine rS ?_;refine AWP.cond rfl (fun hb => ?_) (fun hb => ?_)
  ·replace hR:=ct hR
   refine rS ?_;refine AWP.ret ?_;subst hR;exact es
  ·replace hR:=cf hR
   refine rD 6 ?_;refine AWP.ret ?_;subst hR;exact es
end N73
def D_zwf : DF
 | [x0]=>some (.bool (zwf (rdG dAid x0)),false,[wG eAid dAid x0,bdAid (rdG dAid x0)])
 | _=>none
theorem y7y:OkD Tryz.prog 73 D_zwf:=by unfold D_zwf;exact dk N73.den
def zzb (a0:Aid):Bool:=
 ((((((zjc a0.Number) && (zsd a0.Name)) && (zof a0.At)) && (znf a0.Height)) && (zxe a0.Mark)) && ((zwf a0) || (zef a0)))
namespace N56
theorem DD:DOk Tryz.prog (Go.Ab.DD [(100,dP D_zsd),(104,dP D_zjc),(105,dP D_znf),(106,dP D_zxe),(107,dP D_zef),(50,dP D_zof),(73,dP D_zwf)]):=ya yxx.e <| ya yrk.e <| ya yxv.e <| ya ypy.e <| ya yay.e <| ya ygy.e <| ya y7y.e <| ye _
theorem dn:type_of% (And.intro @D_zsd.eq_1 <| And.intro @D_zjc.eq_1 <| And.intro @D_znf.eq_1 <| And.intro @D_zxe.eq_1 <| And.intro @D_zef.eq_1 <| And.intro @D_zof.eq_1 <| @D_zwf.eq_1):=by and_intros<;>intros<;>rfl
theorem den (a0:Aid) (hb0:bdAid a0):Den Tryz.prog 56 [.agg (eAid a0)] (.bool (zzb a0)):=by
 generalize hR:zzb a0=r;unfold zzb at hR;refine di Tryz.func56 Tryz.ntmps56 Tryz.results56 ?_;intro c hL hc hk;obtain⟨hL0,_⟩:=hL;have hw0:bwAid a0:=yy a0 hL0;clear hL0;simp only[pars,Nat.zero_add];iterate 2 refine rS ?_
 refine AWP.ret ?_;subst hR;exact es
end N56
def D_zzb : DF
 | [x0]=>some (.bool (zzb (rdG dAid x0)),false,[wG eAid dAid x0,bdAid (rdG dAid x0)])
 | _=>none
theorem y6g:OkD Tryz.prog 56 D_zzb:=by unfold D_zzb;exact dk N56.den
end Go.Ab
