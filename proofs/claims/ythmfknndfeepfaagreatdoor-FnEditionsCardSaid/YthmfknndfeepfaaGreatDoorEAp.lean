/- Walks and lemmas. No conditions. -/
import Derived.Test.YthmfknndfeepfaaGreatDoorEAm
import Derived.Test.YthmfknndfeepfaaGreatDoorEAo
set_option linter.unusedSectionVars false
set_option linter.unusedVariables false
set_option linter.unusedSimpArgs false
set_option maxHeartbeats 1000000
namespace Go.Ab
open Go Go.Proofs
theorem yrs {b:Nat->Unit->Except Bool Unit} {n:Nat} {p:Nat->Bool} {x:Bool} (hb:∀ j u,j<n->b j u=bif p j then .error false else .ok ()) :
  ((match ye b (n-0) 0 ()with|.error e=>e|.ok _=>x)=true)↔(∀ j,j<n->p j=false)/\x=true:=by
 rw[yee (b:=b) p false (fun j u _ h=>hb j u (by omega))];simp only[Nat.sub_zero,Nat.zero_add]
 cases h:(List.range n).any (fun j=>p j)with
 | true=>
  simp only[cond_true];obtain⟨j,h1,h2⟩:=List.any_eq_true.1 h;constructor
  ·intro h;cases h
  ·rintro⟨h3,_⟩;rw[h3 j (List.mem_range.1 h1)]at h2;cases h2
 | false=>
  simp only[cond_false];rw[List.any_eq_false]at h;exact⟨fun hx=>⟨fun j hj=>by simpa using h j (List.mem_range.2 hj),hx⟩,fun hx=>hx.2⟩
theorem yk0 (a:List UInt8):zmf a=true↔a≠[]/\a.length<=10/\∀ j,j<a.length->((97<=(a.getD j 0).toNat/\(a.getD j 0).toNat<=122)\/(j≠0/\48<=(a.getD j 0).toNat/\(a.getD j 0).toNat<=57)):=by
 unfold zmf;refine(yrs (n:=a.length) (p:=fun j=>_) (fun j u _=>by rfl)).trans ?_;simp only[zzb,zqh,Bool.and_eq_true,bne_iff_ne,decide_eq_true_eq];constructor
 ·rintro⟨h1,h2,h3⟩
  refine⟨h2,by omega,fun j hj => ?_⟩;have:=h1 j hj;simp[-List.getD_eq_getElem?_getD]at this
  omega
 ·rintro⟨h2,h3,h1⟩
  refine⟨fun j hj => ?_,h2,by omega⟩;have:=h1 j hj;simp[-List.getD_eq_getElem?_getD]
  omega
theorem ywh (a:List UInt8):zqc a=true↔a≠[]/\a.length<=10/\∀ j,j<a.length->((97<=(a.getD j 0).toNat/\(a.getD j 0).toNat<=122)\/(j≠0/\48<=(a.getD j 0).toNat/\(a.getD j 0).toNat<=57)):=by
 unfold zqc;by_cases hn:a=[]
 ·subst hn;simp
 by_cases h10:10<a.length
 ·have:((a == []) || decide (10<(a.length:Int)))=true:=by simp;right;omega
  rw[this];simp;omega
 have hp:0<a.length:=by cases a<;>simp_all
 have:((a == []) || decide (10<(a.length:Int)))=false:=by simp;exact⟨hn,by omega⟩
 rw[this];by_cases hs:zxf ((a.getD 0 0).toNat:Int)=true
 ·rw[hs]
  refine(yrs (n:=a.length) (p:=fun j=>_) (fun j u _=>by rfl)).trans ?_;simp only[zxf,Bool.and_eq_true,decide_eq_true_eq]at hs;constructor
  ·rintro⟨h1,_⟩
   refine⟨hn,by omega,fun j hj => ?_⟩;have:=h1 j hj;simp[zxf,zih,-List.getD_eq_getElem?_getD]at this
   by_cases hj0:j=0
   ·subst hj0;omega
   ·omega
  ·rintro⟨_,_,h1⟩
   refine⟨fun j hj => ?_,rfl⟩;have:=h1 j hj;simp[zxf,zih,-List.getD_eq_getElem?_getD]
   omega
 ·have hs':zxf ((a.getD 0 0).toNat:Int)=false:=by simpa using hs
  rw[hs'];simp only[Bool.not_false,Bool.or_true,cond_true];constructor
  ·intro h;cases h
  ·rintro⟨_,_,h1⟩
   have:=h1 0 hp;exfalso;apply hs;simp[zxf,-List.getD_eq_getElem?_getD]
   simp[-List.getD_eq_getElem?_getD]at this
   omega
theorem yxbb (a:List UInt8):zmf a=zqc a:=Bool.eq_iff_iff.2 ((yk0 a).trans (ywh a).symm)
theorem yvr {ρ σ τ:Type} {b1:Nat->σ->Except ρ σ} {b2:Nat->τ->Except ρ τ} (R:Nat->σ->τ->Prop):∀ {k i:Nat} {s:σ} {t:τ},R i s t ->
  (∀ j u v,i<=j->j<i+k->R j u v->(∃ r,b1 j u=.error r/\b2 j v=.error r)\/∃ u' v',b1 j u=.ok u'/\b2 j v=.ok v'/\R (j+1) u' v') ->
  (∃ r,ye b1 k i s=.error r/\ye b2 k i t=.error r)\/∃ u v,ye b1 k i s=.ok u/\ye b2 k i t=.ok v/\R (i+k) u v
 | 0,i,s,t,h,_=>.inr ⟨s,t,rfl,rfl,h⟩
 | k+1,i,s,t,h,hb=>by
  simp only[ye];rcases hb i s t (Nat.le_refl _) (by omega) h with⟨r,h1,h2⟩|⟨u,v,h1,h2,h3⟩
  ·rw[h1,h2];exact .inl ⟨r,rfl,rfl⟩
  ·rw[h1,h2]
   have:=yvr R (k:=k) (i:=i+1) h3 (fun j u v q1 q2 q3=>hb j u v (by omega) (by omega) q3);rwa [show i+1+k=i+(k+1)by omega]at this
theorem yhj {α σ ρ : Type} (p : α -> Bool) (f : σ -> α -> σ) (r : ρ) : ∀ (l : List α) (s : σ), ynm (fun x s => (bif !(p x) then .error r else .ok (f s x) : Except ρ σ)) l s = bif l.all p then .ok (l.foldl f s) else .error r
 | [],s=>by simp[ynm]
 | x::l,s=>by
  rw[yxg]
  cases hx:p x with
  | false=>simp[hx]
  | true=>
   simp only[Bool.not_true,cond_false,List.all_cons,hx,Bool.true_and,List.foldl_cons];exact yhj p f r l (f s x)
def ypz (g:List Int):Prop:=g.length<=4/\(∀ v∈g,1<=v/\v<=9)/\g.sum<=12/\g≠[1]
theorem y4g (g:List Int):g.all (fun v=>ze v 1 9)=true↔∀ v∈g,1<=v/\v<=9:=by
 rw[List.all_eq_true];exact⟨fun h v hv=>by simpa [ze]using h v hv,fun h v hv=>by simpa [ze]using h v hv⟩
theorem wsum (g:List Int) (h:g.length<=4) (hv:∀ v∈g,1<=v/\v<=9):g.foldl (fun s x=>IntKind.wrap .i64 (s+x)) 0=g.sum:=by
 have hw:∀ n:Int,-1000<=n->n<=1000->IntKind.wrap .i64 n=n:=fun n _ _=>by rw[IntKind.wrap_i64];omega
 match g,h,hv with
 | [],_,_=>rfl
 | [a],_,hv=>
  have:=hv a (by simp);simp only[List.foldl_cons,List.foldl_nil,List.sum_cons,List.sum_nil];rw[hw _ (by omega) (by omega)];omega
 | [a,b],_,hv=>
  have:=hv a (by simp);have:=hv b (by simp);simp only[List.foldl_cons,List.foldl_nil,List.sum_cons,List.sum_nil];rw[hw (0+a) (by omega) (by omega),hw _ (by omega) (by omega)];omega
 | [a,b,c],_,hv=>
  have:=hv a (by simp);have:=hv b (by simp);have:=hv c (by simp);simp only[List.foldl_cons,List.foldl_nil,List.sum_cons,List.sum_nil];rw[hw (0+a) (by omega) (by omega),hw (0+a+b) (by omega) (by omega),hw _ (by omega) (by omega)];omega
 | [a,b,c,d],_,hv=>
  have:=hv a (by simp);have:=hv b (by simp);have:=hv c (by simp);have:=hv d (by simp);simp only[List.foldl_cons,List.foldl_nil,List.sum_cons,List.sum_nil];rw[hw (0+a) (by omega) (by omega),hw (0+a+b) (by omega) (by omega),hw (0+a+b+c) (by omega) (by omega),hw _ (by omega) (by omega)];omega
theorem yieb (x y:Int):(x != y) = !decide (x=y):=by by_cases h:x=y<;>simp[h]
theorem y6f (a b:List Int):zmd a b=decide (a=b):=by
 unfold zmd;by_cases hl:a.length=b.length
 ·have h1:((a.length:Int) != (b.length:Int))=false:=by rw[hl];simp
  rw[h1];simp only[cond_false]
  rw[yee (b:=yyo a b) (fun j => !decide (a.getD j default=b.getD j default)) false (fun j u _ _=>by
   simp only[yyo,yieb])]
  simp only[Nat.sub_zero,Nat.zero_add];rw[yz0 a b hl];by_cases h:a=b<;>simp[h]
 ·have h1:((a.length:Int) != (b.length:Int))=true:=by simp;omega
  rw[h1];have:¬ a=b:=fun h=>hl (by rw[h])
  simp[this]
theorem ysl (g:List Int):zoe g=true↔ypz g:=by
 unfold zoe;rw[yhe (b:=yiu g) (fun(x:Int) (s:Int)=>(bif !(ze x 1 9)then .error false else .ok (IntKind.wrap .i64 (s+x)):Except Bool Int)) g 0 (fun j u _=>rfl),yhj (fun x=>ze x 1 9) (fun s x=>IntKind.wrap .i64 (s+x)) false];unfold ypz
 cases ha:g.all (fun x=>ze x 1 9)with
 | false=>
  simp only[cond_false];constructor
  ·intro h;cases h
  ·rintro⟨_,h,_⟩
   rw[(y4g g).2 h]at ha;cases ha
 | true=>
  have hv:=(y4g g).1 ha;simp only[cond_true,y6f,zzb,Bool.and_eq_true,decide_eq_true_eq,Bool.not_eq_true',decide_eq_false_iff_not];constructor
  ·rintro⟨⟨h1,h2⟩,h3⟩
   rw[wsum g (by omega) hv]at h2;exact⟨by omega,hv,h2,h3⟩
  ·rintro⟨h1,_,h2,h3⟩
   rw[wsum g h1 hv];exact⟨⟨by omega,h2⟩,h3⟩
theorem ydg (g:List Int):zuc g=true↔ypz g:=by
 unfold zuc;rw[yhe (b:=yat g) (fun(x:Int) (s:Unit)=>(bif !(ze x 1 9)then .error false else .ok ():Except Bool Unit)) g () (fun j u _=>rfl),yhj (fun x=>ze x 1 9) (fun(s:Unit) x=>()) false];unfold ypz
 cases ha:g.all (fun x=>ze x 1 9)with
 | false=>
  simp only[cond_false];constructor
  ·intro h;cases h
  ·rintro⟨_,h,_⟩
   rw[(y4g g).2 h]at ha;cases ha
 | true=>
  have hv:=(y4g g).1 ha
  have hsum:g.length<=4->(znf g<=12↔g.sum<=12):=by
   intro h4;unfold znf
   cases g with
   | nil=>simp
   | cons x t=>
    have h0:(((x::t).length:Int) == 0)=false:=by rw[beq_eq_false_iff_ne];simp only[List.length_cons];omega
    rw[h0];simp only[cond_false];rw[yhe (b:=ynu (x::t)) (fun(y:Int) (s:Int)=>(bif !((fun _=>true) y)then .error 0 else .ok (IntKind.wrap .i64 (s+y)):Except Int Int)) (x::t) 0 (fun j u _=>rfl),yhj (fun _=>true) (fun s x=>IntKind.wrap .i64 (s+x)) 0];rw[show(x::t).all (fun _=>true)=true by simp];simp only[cond_true];rw[wsum _ h4 hv]
  have hone:(!(((g.length:Int) == 1) && (g.getD 0 default == 1)))=true↔g≠[1]:=by
   match g with
   | []=>simp
   | [a]=>simp
   | a::b::t=>
    have:((((a::b::t).length:Int)) == 1)=false:=by rw[beq_eq_false_iff_ne];simp only[List.length_cons];omega
    rw[this];simp
  simp only[cond_true];rw[Bool.and_eq_true,Bool.and_eq_true,hone,decide_eq_true_eq,decide_eq_true_eq];constructor
  ·rintro⟨⟨h1,h2⟩,h3⟩
   exact⟨by omega,hv,(hsum (by omega)).1 h3,h2⟩
  ·rintro⟨h1,_,h2,h3⟩
   exact⟨⟨by omega,h3⟩,(hsum h1).2 h2⟩
set_option maxRecDepth 10000 in
theorem y68:∀ n:Fin 256,zyf (n.val:Int)=zeg [87,82,71,89] (n.val:Int)+1 /\ -1<=zeg [87,82,71,89] (n.val:Int):=by decide
theorem y9bb (b:UInt8):zyf (b.toNat:Int)=zeg [87,82,71,89] (b.toNat:Int)+1 /\ -1<=zeg [87,82,71,89] (b.toNat:Int):=
 y68 ⟨b.toNat,b.toNat_lt⟩
theorem yus (s:List UInt8) (hl:s.length<9223372036854775808):zoc s=zmb s:=by
 unfold zoc zmb
 have hs:=yvr (b1:=y2i s) (b2:=y0f s) (fun i (x:Int) (_:Unit)=>if i=0 then x = -1 else x+1=zyf ((s.getD (i-1) 0).toNat:Int)/\0<=x) (k:=s.length-0) (i:=0) (s := -1) (t:=()) (by simp) (by
  intro j x u _ hj h;unfold y2i y0f;obtain⟨r1,r2⟩:=y9bb (s.getD j 0);rw[r1];generalize zeg [87,82,71,89] ((s.getD j 0).toNat:Int)=p at *;by_cases h0:j=0
  ·subst h0
   rw[if_pos rfl]at h;subst h;simp only[Int.natCast_zero,show decide ((0:Int)<0)=false from rfl,Bool.false_and,Bool.or_false];by_cases hp:p = -1
   ·subst hp;left;exact⟨false,rfl,rfl⟩
   ·right
    have d1:decide (p <= -1)=false:=decide_eq_false (by omega);have d2:(p+1 == 0)=false:=by rw[beq_eq_false_iff_ne];omega
    rw[d1,d2];exact⟨p,(),rfl,rfl,by rw[if_neg (by omega)];exact⟨r1.symm,by omega⟩⟩
  ·rw[if_neg h0]at h
   obtain⟨h1,h2⟩:=h;have d3:decide (0<(j:Int))=true:=decide_eq_true (by omega);have hw:(IntKind.wrap .i64 ((j:Int)-1)).toNat=j-1:=by rw[IntKind.wrap_i64];omega
   rw[d3,hw, <- h1];simp only[Bool.true_and];by_cases hp:p<=x
   ·left
    have d1:decide (p<=x)=true:=decide_eq_true hp
    have d2:(p+1 == 0 || decide (p+1<=x+1))=true:=by
     rw[Bool.or_eq_true,decide_eq_true_eq];right;omega
    rw[d1,d2];exact⟨false,rfl,rfl⟩
   ·right
    have d1:decide (p<=x)=false:=decide_eq_false hp
    have d2:(p+1 == 0 || decide (p+1<=x+1))=false:=by
     rw[Bool.or_eq_false_iff,beq_eq_false_iff_ne,decide_eq_false_iff_not];omega
    rw[d1,d2]
    exact⟨p,(),rfl,rfl,by rw[if_neg (by omega)];exact⟨by rw[show j+1-1=j by omega];exact r1.symm,by omega⟩⟩)
 rcases hs with⟨r,h1,h2⟩|⟨u,v,h1,h2,_⟩
 ·rw[h1,h2]
 ·rw[h1,h2]
  simp only[ze]
theorem y20 {g:List Int} (h:g.length=1) (lo hi:Int) (hr:lo<=g.getD 0 default/\g.getD 0 default<=hi):∀ v∈g,lo<=v/\v<=hi:=by
 obtain⟨x,rfl⟩:=List.length_eq_one_iff.1 h;intro v hv;rw[List.mem_singleton]at hv;subst hv;simpa using hr
theorem yvh {g:List Int} (h:(g.length:Int)=0):g.length<=4/\∀ v∈g,1<=v/\v<=9:=by
 have:g=[]:=List.length_eq_zero_iff.1 (by omega);subst this;simp
theorem yff (a:Character) (h:znb a=true):a.Group.length<=4/\∀ v∈a.Group,1<=v/\v<=9:=by
  unfold znb at h;simp only[Bool.cond_eq_ite]at h;repeat' split at h
  all_goals (try simp only[Bool.and_eq_true,Bool.or_eq_true,beq_iff_eq,y6f,decide_eq_true_eq,ze]at h)
  all_goals first
    | exact yvh h.1
    | exact yvh h.2
    | (have:=(ysl _).1 h.2;exact⟨this.1,this.2.1⟩)
    | (rcases h with h | h
       . exact yvh h
       . exact⟨by omega,fun v hv=>by have:=y20 (g:=a.Group) (by omega) 2 9 h.2 v hv;omega⟩)
    | (rw[h.2];simp)
    | (cases h)
theorem yl1 (a:Character) (h:zje a=true):a.Group.length<=4/\(∀ v∈a.Group,1<=v/\v<=9)/\(a.Kind=8->a.Letter.length=1/\65<=(a.Letter.getD 0 0).toNat/\(a.Letter.getD 0 0).toNat<=90):=by
 unfold zje at h;simp only[Bool.cond_eq_ite]at h;repeat' split at h
 all_goals (try simp only[Bool.and_eq_true,Bool.or_eq_true,beq_iff_eq,decide_eq_true_eq]at *)
 all_goals first
  | (cases h;done)
  | (exact⟨(yvh h.1).1,(yvh h.1).2,by intro h8;omega⟩)
  | (exact⟨by omega,fun v hv=>by have:=y20 (g:=a.Group) (by omega) 6 6 (by omega) v hv;omega,by intro h8;omega⟩)
  | (have:=(ydg _).1 h.2;exact⟨this.1,this.2.1,by intro h8;omega⟩)
  | (exact⟨(yvh h.1.1.1).1,(yvh h.1.1.1).2,fun _=>⟨by omega,by omega,by omega⟩⟩)
def zfb (a0:Character):Bool:=
 (bif ((!(zoc a0.Colors)) || (!(znb a0)))then false else(bif (zxd a0)then(a0.Period == 0)else((ze a0.Period (zdh a0) 600) && ((a0.Kind != 3) || ((a0.Period.tmod 2) == 0)))))
namespace N110
theorem DD:DOk Tryz.prog (Go.Ab.DD [(162,dP D_zoc),(163,dP D_znb),(164,dP D_zxd),(165,dP D_zdh),(53,dP D_ze)]):=ya yw9.e <| ya y28.e <| ya yvy.e <| ya yi8.e <| ya yfc.e <| yc _
abbrev dn:=cj @D_zoc.eq_1 <| cj @D_znb.eq_1 <| cj @D_zxd.eq_1 <| cj @D_zdh.eq_1 <| @D_ze.eq_1
abbrev ol:=@ze.eq_1
theorem o0 {p:Prop} (h:p:=by(first|(have q9 := ‹(!zoc a0.Colors || !znb a0)=false›;have h9:=yff a0 (by simp only[Bool.or_eq_false_iff,Bool.not_eq_false']at q9;exact q9.2);first|exact⟨hb0,h9.1,fun v hv=>(h9.2 v hv).2,fun _ _=>by decide⟩|exact⟨hb0,h9.1,fun v hv=>(h9.2 v hv).2⟩|exact h9.1));first|done|fail):p:=h
theorem den (a0:Character) (hb0:bdCharacter a0):Den Tryz.prog 110 [.agg (yh a0)] (.bool (zfb a0)):=by
 generalize hR:zfb a0=r;unfold zfb at hR;refine di Tryz.func110 Tryz.ntmps110 Tryz.results110 ?_;intro c hL hc hk;obtain⟨hL0,_⟩:=hL;have hw0:bwCharacter a0:=yp a0 hL0;clear hL0;simp only[pars,Nat.zero_add];iterate 2 refine rS ?_
 refine yb ?_ ?_<;>intro hb
 ·replace hR:=ct hR
  exact retR
 ·replace hR:=cf hR
  refine rS ?_;refine yb ?_ ?_<;>intro hb
  ·replace hR:=ct hR
   exact retR
  ·replace hR:=cf hR
   refine rD 16 ?_;exact retE
end N110
def D_zfb : DF
 | [x0]=>some (.bool (zfb (rdG yd x0)),false,[wG yh yd x0,bdCharacter (rdG yd x0)])
 | _=>none
theorem yrq:OkD Tryz.prog 110 D_zfb:=by unfold D_zfb;exact dk N110.den
def yms (a0:Character) (i1:Nat) (s1:List Int):Except ((List Int)) (List Int):=
 (bif decide (0<(i1:Int))then .ok ((s1++([5]:List Int))++([((zcc ((a0.Letter.getD 0 0).toNat:Int)).getD i1 default)]:List Int))else .ok (s1++([((zcc ((a0.Letter.getD 0 0).toNat:Int)).getD i1 default)]:List Int)))
def ybt (a0:Character) (i2:Nat) (s2:List Int) (i3:Nat) (s3:List Int):Except ((List Int)) (List Int):=
 (bif decide (0<(i3:Int))then .ok ((s3++([(zxc a0.Kind)]:List Int))++([(zif a0.Kind)]:List Int))else(bif decide (0<(i2:Int))then .ok ((s3++([IntKind.wrap .i64 ((zxc a0.Kind)+20)]:List Int))++([(zif a0.Kind)]:List Int))else .ok (s3++([(zif a0.Kind)]:List Int))))
def ybu (a0:Character) (i2:Nat) (s2:List Int):Except ((List Int)) (List Int):=
 (match ye (ybt a0 i2 s2) (((([1]:List Int).getD i2 default)).toNat-0) 0 s2 with|.error e=>.error e|.ok s3=>.ok s3)
def y0s (a0:Character) (i4:Nat) (s4:List Int) (i5:Nat) (s5:List Int):Except ((List Int)) (List Int):=
 (bif decide (0<(i5:Int))then .ok ((s5++([(zxc a0.Kind)]:List Int))++([(zif a0.Kind)]:List Int))else(bif decide (0<(i4:Int))then .ok ((s5++([IntKind.wrap .i64 ((zxc a0.Kind)+20)]:List Int))++([(zif a0.Kind)]:List Int))else .ok (s5++([(zif a0.Kind)]:List Int))))
def yqt (a0:Character) (i4:Nat) (s4:List Int):Except ((List Int)) (List Int):=
 (match ye (y0s a0 i4 s4) (((a0.Group.getD i4 default)).toNat-0) 0 s4 with|.error e=>.error e|.ok s5=>.ok s5)
def zq (a0:Character):(List Int):=
 (bif (a0.Kind == 8)then(match ye (yms a0) (((zcc ((a0.Letter.getD 0 0).toNat:Int)).length)-0) 0 ([]:List Int)with|.error e=>e|.ok s1=>s1)else(bif ((a0.Group.length:Int) == 0)then(match ye (ybu a0) (1-0) 0 ([]:List Int)with|.error e=>e|.ok s2=>(bif (a0.Letter == [76])then s2++([(zxc a0.Kind),20]:List Int)else s2))else(match ye (yqt a0) (a0.Group.length-0) 0 ([]:List Int)with|.error e=>e|.ok s4=>(bif (a0.Letter == [76])then s4++([(zxc a0.Kind),20]:List Int)else s4))))
namespace N198
theorem DD:DOk Tryz.prog (Go.Ab.DD [(247,dP D_zcc),(248,dP D_zxc),(249,dP D_zif)]):=ya ym9.e <| ya ywy.e <| ya yq8.e <| yc _
abbrev dn:=cj @D_zcc.eq_1 <| cj @D_zxc.eq_1 <| @D_zif.eq_1
theorem o2 {p:Prop} (h:p:=by(first|(and_intros<;>first|decide|omega|(simp;(first|done|fail))|(rw[IntKind.wrap_i64];have:=hg9 i4;omega)|(rw[IntKind.wrap_i64];have:=hg1 i2;omega)|(rw[IntKind.wrap_i64];omega)|(intro i hi;exact ysi _ _ i hi)|(intro i hi;exact ylt _ _ _ i hi)));first|done|fail):p:=h
theorem o3 {p:Prop} (h:p:=by(first|(refine⟨⟨Nat.le_refl _,fun i hi=>y5r _ _ _ i hi⟩,.inl fun i hi=>by rw[ypl _ _ _ i hi];simp[y4b,ygc],by simp,fun i hi=>by rw[ypl _ _ _ i hi];exact y3 _⟩));first|done|fail):p:=h
theorem lx {p:Prop} (h:p:=by(exact lxx);first|done|fail):p:=h
set_option maxHeartbeats 1000000 in
set_option maxRecDepth 20000 in
theorem den (a0:Character) (hb0:bdCharacter a0) (hp0:a0.Group.length<=4) (hp1:∀ v∈a0.Group,v<=9) (hp2:a0.Kind=8->a0.Letter.length=1/\65<=(a0.Letter.getD 0 0).toNat/\(a0.Letter.getD 0 0).toNat<=90):Den Tryz.prog 198 [.ep (yh a0)] (ownL 2 1 yy (zq a0)):=by
 generalize hR:zq a0=r;unfold zq at hR;refine di Tryz.func198 Tryz.ntmps198 Tryz.results198 ?_;intro c hL hc hk;obtain⟨hL0,_⟩:=hL;have hw0:bwCharacter a0:=yp a0 hL0;clear hL0;simp only[pars,Nat.zero_add];have hg9:∀ i:Nat,a0.Group.getD i default<=9:=fun i=>ymp hp1 i
 have hs9:=you ((a0.Letter.getD 0 0).toNat:Int);have hg1:∀ i:Nat,([1]:List Int).getD i default<=9:=fun i=>ymp (by simp) i
 iterate 3 refine rS ?_
 refine yb ?_ ?_<;>intro hb
 ·replace hR:=ct hR
  iterate 2 refine rS ?_
  refine AWP.block ?_;generalize hz1:ye (yms a0) (((zcc ((a0.Letter.getD 0 0).toNat:Int)).length)-0) 0 ([]:List Int)=z1 at hR;refine AWP.range (yms a0) (fun i1 s1=>⟨[(3,.ref 0 1 0 s1.length),(4,.ref 1 1 0 ((zcc ((a0.Letter.getD 0 0).toNat:Int)).length)),(5,.int .i64 (i1:Int))],[.arr 2 1 s1.length (fun j=>yy (s1.getD j default)),.arr 2 1 (zcc ((a0.Letter.getD 0 0).toNat:Int)).length (fun j=>yy ((zcc ((a0.Letter.getD 0 0).toNat:Int)).getD j default))]⟩) (fun i1 s1=>s1.length<=([]:List Int).length+2 * i1/\s1.length<=2 * i1) (((zcc ((a0.Letter.getD 0 0).toNat:Int)).length)) 0 ([]:List Int) [0,1] hz1 ot wt sm ?_;clear hz1;intro i1 s1 hi1 hW1 hz1;refine rS ?_;refine yb ?_ ?_<;>intro hb
  ·have hlt1:i1<((zcc ((a0.Letter.getD 0 0).toNat:Int)).length):=ot
   rw[yi hlt1]at hz1;simp only[yms]at hz1;refine rS ?_;refine yb ?_ ?_<;>intro hb
   ·simp only[hb,cond_true]at hz1
    iterate 3 refine rS ?_
    exact⟨_,[5,1],hlt1,wt,hz1,sm⟩
   ·simp only[hb,cond_false]at hz1
    iterate 2 refine rS ?_
    exact⟨_,[3,1],hlt1,wt,hz1,sm⟩
  ·obtain rfl:i1=((zcc ((a0.Letter.getD 0 0).toNat:Int)).length):=ot
   exact retX
 ·replace hR:=cf hR
  iterate 2 refine rS ?_
  refine yb ?_ ?_<;>intro hb
  ·replace hR:=ct hR
   iterate 2 refine rS ?_
   refine AWP.block ?_;generalize hz2:ye (ybu a0) (1-0) 0 ([]:List Int)=z2 at hR;refine AWP.range (ybu a0) (fun i2 s2=>⟨[(0,.ep (yh a0)),(3,.ref 0 1 0 s2.length),(6,.ref 1 1 0 1),(7,.int .i64 (i2:Int))],[.arr 2 1 s2.length (fun j=>yy (s2.getD j default)),.arr 2 1 ([1]:List Int).length (fun j=>yy (([1]:List Int).getD j default))]⟩) (fun i2 s2=>s2.length<=18 * i2) (1) 0 ([]:List Int) [0,1] hz2 ot wt sm ?_;clear hz2;intro i2 s2 hi2 hW2 hz2;refine rS ?_;refine yb ?_ ?_<;>intro hb
   ·have hlt2:i2<1:=ot
    rw[yi hlt2]at hz2;simp only[ybu]at hz2;refine rS ?_;refine AWP.block ?_;generalize hz3:ye (ybt a0 i2 s2) (((([1]:List Int).getD i2 default)).toNat-0) 0 s2=z3 at hz2;refine AWP.range (ybt a0 i2 s2) (fun i3 s3=>⟨[(0,.ep (yh a0)),(3,.ref 0 1 0 s3.length),(6,.ref 1 1 0 1),(7,.int .i64 (i2:Int)),(8,.int .i64 (i3:Int))],[.arr 2 1 s3.length (fun j=>yy (s3.getD j default)),.arr 2 1 ([1]:List Int).length (fun j=>yy (([1]:List Int).getD j default))]⟩) (fun i3 s3=>s3.length<=s2.length+2 * i3/\s3.length<=18 * i2+2 * i3) (((([1]:List Int).getD i2 default)).toNat) 0 s2 [0,1] hz3 ot wt sm ?_;clear hz3;intro i3 s3 hi3 hW3 hz3;refine rS ?_;refine yb ?_ ?_<;>intro hb
    ·have hlt3:i3<((([1]:List Int).getD i2 default)).toNat:=ot
     rw[yi hlt3]at hz3;simp only[ybt]at hz3;refine rS ?_;refine yb ?_ ?_<;>intro hb
     ·simp only[hb,cond_true]at hz3
      iterate 3 refine rS ?_
      exact⟨_,[5,1],hlt3,wt,hz3,sm⟩
     ·simp only[hb,cond_false]at hz3
      refine rS ?_;refine yb ?_ ?_<;>intro hb
      ·simp only[hb,cond_true]at hz3
       iterate 3 refine rS ?_
       exact⟨_,[5,1],hlt3,wt,hz3,sm⟩
      ·simp only[hb,cond_false]at hz3
       iterate 2 refine rS ?_
       exact⟨_,[3,1],hlt3,wt,hz3,sm⟩
    ·obtain rfl:i3=((([1]:List Int).getD i2 default)).toNat:=ot
     rw[ybb (Nat.le_refl _)]at hz3;subst hz3;dsimp only at hz2;refine AWP.exit ?_;refine yf ?_;refine rS ?_;exact⟨_,[0,1],hlt2,by(have h9:=hg1 i2;omega),hz2,sm⟩
   ·obtain rfl:i2=1:=ot
    rw[ybb (Nat.le_refl _)]at hz2;subst hz2;dsimp only at hR;refine AWP.exit ?_;refine yf ?_;refine rS ?_;refine yb ?_ ?_<;>intro hb
    ·replace hR:=ct hR
     refine rS ?_;exact retR
    ·replace hR:=cf hR
     exact retR
  ·replace hR:=cf hR
   refine rS ?_;refine AWP.block ?_;refine AWP.lensS 6 rfl (fun hLn4 => ?_);generalize hz4:ye (yqt a0) (a0.Group.length-0) 0 ([]:List Int)=z4 at hR;refine AWP.range (yqt a0) (fun i4 s4=>⟨[(0,.ep (yh a0)),(3,.ref 0 1 0 s4.length),(6,encL 1 yy a0.Group),(7,.int .i64 (i4:Int))],[.arr 2 1 s4.length (fun j=>yy (s4.getD j default))]⟩) (fun i4 s4=>s4.length<=18 * i4) (a0.Group.length) 0 ([]:List Int) [0] hz4 ot wt sm ?_;clear hz4;intro i4 s4 hi4 hW4 hz4;refine rS ?_;refine yb ?_ ?_<;>intro hb
   ·have hlt4:i4<a0.Group.length:=ot
    rw[yi hlt4]at hz4;simp only[yqt]at hz4;refine rS ?_;refine AWP.block ?_;generalize hz5:ye (y0s a0 i4 s4) (((a0.Group.getD i4 default)).toNat-0) 0 s4=z5 at hz4;refine AWP.range (y0s a0 i4 s4) (fun i5 s5=>⟨[(0,.ep (yh a0)),(3,.ref 0 1 0 s5.length),(6,encL 1 yy a0.Group),(7,.int .i64 (i4:Int)),(8,.int .i64 (i5:Int))],[.arr 2 1 s5.length (fun j=>yy (s5.getD j default))]⟩) (fun i5 s5=>s5.length<=s4.length+2 * i5/\s5.length<=18 * i4+2 * i5) (((a0.Group.getD i4 default)).toNat) 0 s4 [0] hz5 ot wt sm ?_;clear hz5;intro i5 s5 hi5 hW5 hz5;refine rS ?_;refine yb ?_ ?_<;>intro hb
    ·have hlt5:i5<((a0.Group.getD i4 default)).toNat:=ot
     rw[yi hlt5]at hz5;simp only[y0s]at hz5;refine rS ?_;refine yb ?_ ?_<;>intro hb
     ·simp only[hb,cond_true]at hz5
      iterate 3 refine rS ?_
      exact⟨_,[4],hlt5,wt,hz5,sm⟩
     ·simp only[hb,cond_false]at hz5
      refine rS ?_;refine yb ?_ ?_<;>intro hb
      ·simp only[hb,cond_true]at hz5
       iterate 3 refine rS ?_
       exact⟨_,[4],hlt5,wt,hz5,sm⟩
      ·simp only[hb,cond_false]at hz5
       iterate 2 refine rS ?_
       exact⟨_,[2],hlt5,wt,hz5,sm⟩
    ·obtain rfl:i5=((a0.Group.getD i4 default)).toNat:=ot
     rw[ybb (Nat.le_refl _)]at hz5;subst hz5;dsimp only at hz4;refine AWP.exit ?_;refine yf ?_;refine rS ?_;exact⟨_,[0],hlt4,by(have h9:=hg9 i4;omega),hz4,sm⟩
   ·obtain rfl:i4=a0.Group.length:=ot
    rw[ybb (Nat.le_refl _)]at hz4;subst hz4;dsimp only at hR;refine AWP.exit ?_;refine yf ?_;refine rS ?_;refine yb ?_ ?_<;>intro hb
    ·replace hR:=ct hR
     refine rS ?_;exact retR
    ·replace hR:=cf hR
     exact retR
end N198
def D_zq : DF
 | [x0]=>some (ownL 2 1 yy (zq (rdP yd x0)),false,[wP yh yd x0,bdCharacter (rdP yd x0),(rdP yd x0).Group.length<=4,∀ v∈(rdP yd x0).Group,v<=9,(rdP yd x0).Kind=8->(rdP yd x0).Letter.length=1/\65<=((rdP yd x0).Letter.getD 0 0).toNat/\((rdP yd x0).Letter.getD 0 0).toNat<=90])
 | _=>none
theorem y3ab:OkD Tryz.prog 198 D_zq:=by unfold D_zq;exact dk N198.den
def zqb (a0:Character):Int:=
 (bif (zhd a0)then 0 else(bif (a0.Kind == 3)then 20 else IntKind.wrap .i64 ((zue (zq a0))+(ztg a0))))
namespace N143
theorem DD:DOk Tryz.prog (Go.Ab.DD [(144,dP D_zhd),(197,dP D_zue),(198,dP D_zq),(199,dP D_ztg)]):=ya yxp.e <| ya yg6.e <| ya y3ab.e <| ya yc6.e <| yc _
abbrev dn:=cj @D_zhd.eq_1 <| cj @D_zue.eq_1 <| cj @D_zq.eq_1 <| @D_ztg.eq_1
theorem den (a0:Character) (hb0:bdCharacter a0) (hp0:a0.Group.length<=4) (hp1:∀ v∈a0.Group,v<=9) (hp2:a0.Kind=8->a0.Letter.length=1/\65<=(a0.Letter.getD 0 0).toNat/\(a0.Letter.getD 0 0).toNat<=90):Den Tryz.prog 143 [.ep (yh a0)] (.int .i64 (zqb a0)):=by
 generalize hR:zqb a0=r;unfold zqb at hR;refine di Tryz.func143 Tryz.ntmps143 Tryz.results143 ?_;intro c hL hc hk;obtain⟨hL0,_⟩:=hL;have hw0:bwCharacter a0:=yp a0 hL0;clear hL0;simp only[pars,Nat.zero_add];iterate 2 refine rS ?_
 refine yb ?_ ?_<;>intro hb
 ·replace hR:=ct hR
  exact retR
 ·replace hR:=cf hR
  refine rS ?_;refine yb ?_ ?_<;>intro hb
  ·replace hR:=ct hR
   exact retR
  ·replace hR:=cf hR
   exact retR
end N143
def D_zqb : DF
 | [x0]=>some (.int .i64 (zqb (rdP yd x0)),false,[wP yh yd x0,bdCharacter (rdP yd x0),(rdP yd x0).Group.length<=4,∀ v∈(rdP yd x0).Group,v<=9,(rdP yd x0).Kind=8->(rdP yd x0).Letter.length=1/\65<=((rdP yd x0).Letter.getD 0 0).toNat/\((rdP yd x0).Letter.getD 0 0).toNat<=90])
 | _=>none
theorem y5y:OkD Tryz.prog 143 D_zqb:=by unfold D_zqb;exact dk N143.den
def zsc (a0:Character):Bool:=
 (bif (!(zje a0))then false else(bif (zhd a0)then(a0.Period == 0)else(bif ((a0.Kind == 3) && ((a0.Period.tmod 2) != 0))then false else(zj a0.Period (zqb a0) 600))))
namespace N189
theorem DD:DOk Tryz.prog (Go.Ab.DD [(143,dP D_zqb),(144,dP D_zhd),(242,dP D_zje),(75,dP D_zj)]):=ya y5y.e <| ya yxp.e <| ya ya9.e <| ya yyf.e <| yc _
abbrev dn:=cj @D_zqb.eq_1 <| cj @D_zhd.eq_1 <| cj @D_zje.eq_1 <| @D_zj.eq_1
abbrev ol:=@zj.eq_1
theorem o0 {p:Prop} (h:p:=by(first|(have q9 := ‹(!zje a0)=false›;have h9:=yl1 a0 (by simpa using q9);first|exact⟨hb0,h9.1,fun v hv=>(h9.2.1 v hv).2,h9.2.2⟩|exact⟨h9.1,fun v hv=>(h9.2.1 v hv).2,h9.2.2⟩|(and_intros<;>first|exact hb0|exact h9.1|exact fun v hv=>(h9.2.1 v hv).2|exact h9.2.2|decide|(intros;decide))));first|done|fail):p:=h
theorem den (a0:Character) (hb0:bdCharacter a0):Den Tryz.prog 189 [.ep (yh a0)] (.bool (zsc a0)):=by
 generalize hR:zsc a0=r;unfold zsc at hR;refine di Tryz.func189 Tryz.ntmps189 Tryz.results189 ?_;intro c hL hc hk;obtain⟨hL0,_⟩:=hL;have hw0:bwCharacter a0:=yp a0 hL0;clear hL0;simp only[pars,Nat.zero_add];iterate 2 refine rS ?_
 refine yb ?_ ?_<;>intro hb
 ·replace hR:=ct hR
  exact retR
 ·replace hR:=cf hR
  refine rS ?_;refine yb ?_ ?_<;>intro hb
  ·replace hR:=ct hR
   exact retR
  ·replace hR:=cf hR
   refine rS ?_;refine yb ?_ ?_<;>intro hb
   ·replace hR:=ct hR
    exact retR
   ·replace hR:=cf hR
    refine rD 6 ?_;exact retE
end N189
def D_zsc : DF
 | [x0]=>some (.bool (zsc (rdP yd x0)),false,[wP yh yd x0,bdCharacter (rdP yd x0)])
 | _=>none
theorem ym5:OkD Tryz.prog 189 D_zsc:=by unfold D_zsc;exact dk N189.den
theorem y35 (g:List Int):zoe g=zuc g:=Bool.eq_iff_iff.2 ((ysl g).trans (ydg g).symm)
theorem ypp (a:List UInt8):(zjc a != [])=decide (a.length=1/\65<=(a.getD 0 0).toNat/\(a.getD 0 0).toNat<=90):=by
 rw[yol];by_cases h:a.length=1/\65<=(a.getD 0 0).toNat/\(a.getD 0 0).toNat<=90
 ·rw[if_pos h,decide_eq_true h]
  have hlt:(a.getD 0 0).toNat-65<y0d.length:=by show _<26;omega
  rw[List.getD_eq_getElem?_getD,List.getElem?_eq_getElem hlt,Option.getD_some];have:=(yai _ (List.getElem_mem hlt)).1;rw[bne_iff_ne];intro h2;rw[h2]at this;simp at this
 ·rw[if_neg h,decide_eq_false h];rfl
theorem y44 (L:List UInt8) (g:List Int) :
  (bif (L == [])then(((g.length:Int) == 0) || (((g.length:Int) == 1) && (ze (g.getD 0 default) 2 9)))else((L == [76]) && (zmd g [6]))) =
  (bif (L == [76])then(((g.length:Int) == 1) && ((g.getD 0 default) == 6))else(((L == []) && decide ((g.length:Int)<=1)) && (zuc g))):=by
 by_cases h1:L=[]
 ·subst h1
  simp only[show(([]:List UInt8) == [])=true from rfl,show(([]:List UInt8) == [76])=false from rfl,cond_true,cond_false,Bool.true_and];apply Bool.eq_iff_iff.2;rw[Bool.and_eq_true,ydg,decide_eq_true_eq]
  match g with
  | []=>simp[ypz]
  | [x]=>
   have e:((([x]:List Int).length:Int) == 0)=false:=rfl;have e2:((([x]:List Int).length:Int) == 1)=true:=rfl;rw[e,e2];simp only[Bool.false_or,Bool.true_and,ze,Bool.and_eq_true,decide_eq_true_eq,List.getD_cons_zero,ypz,List.length_singleton,List.mem_singleton,forall_eq,List.sum_cons,List.sum_nil,ne_eq,List.cons.injEq,and_true];omega
  | x::y::t=>
   have e:(((x::y::t).length:Int) == 0)=false:=by rw[beq_eq_false_iff_ne];simp only[List.length_cons];omega
   have e2:(((x::y::t).length:Int) == 1)=false:=by rw[beq_eq_false_iff_ne];simp only[List.length_cons];omega
   rw[e,e2];simp only[Bool.false_and,Bool.or_self,Bool.false_eq_true,false_iff,List.length_cons];omega
 ·have e1:(L == [])=false:=by simpa using h1
  rw[e1];by_cases h2:L=[76]
  ·subst h2
   simp only[BEq.rfl,cond_true,cond_false,Bool.true_and,y6f];apply Bool.eq_iff_iff.2;rw[Bool.and_eq_true,decide_eq_true_eq,beq_iff_eq,beq_iff_eq];constructor
   ·intro h;subst h;simp
   ·rintro⟨h3,h4⟩
    obtain⟨x,rfl⟩:=List.length_eq_one_iff.1 (show g.length=1 by omega);simp only[List.getD_cons_zero]at h4;rw[h4]
  ·have e2:(L == [76])=false:=by simpa using h2
   rw[e2];simp
theorem ys9 (c:Character) (hl:c.Colors.length<9223372036854775808):zje c=(zoc c.Colors && znb c):=by
 unfold zje znb zbh zj;rw[yus _ hl, <- y44,y35,ypp]
 cases zmb c.Colors with
 | false=>simp
 | true=>
  simp only[Bool.not_true,Bool.or_false,Bool.true_and];rcases(show c.Kind=1\/c.Kind=2\/c.Kind=3\/c.Kind=4\/c.Kind=5\/c.Kind=6\/c.Kind=7\/c.Kind=8\/(c.Kind<1\/8<c.Kind)by omega)with h|h|h|h|h|h|h|h|h
  ·rw[h];rfl
  ·rw[h];rfl
  ·rw[h];rfl
  ·rw[h];rfl
  ·rw[h];rfl
  ·rw[h];rfl
  ·rw[h];rfl
  ·rw[h]
   show((((((c.Group.length:Int) == 0) && ((c.Letter.length:Int) == 1)) && decide (65<=((c.Letter.getD 0 0).toNat:Int))) && decide (((c.Letter.getD 0 0).toNat:Int)<=90)))=(decide (c.Letter.length=1/\65<=(c.Letter.getD 0 0).toNat/\(c.Letter.getD 0 0).toNat<=90) && ((c.Group.length:Int) == 0))
   apply Bool.eq_iff_iff.2;simp only[Bool.and_eq_true,beq_iff_eq,decide_eq_true_eq];omega
  ·have e0:(decide (1<=c.Kind) && decide (c.Kind<=8))=false:=by
    rw[Bool.and_eq_false_iff,decide_eq_false_iff_not,decide_eq_false_iff_not];omega
   have e:∀ n:Int,1<=n->n<=8->(c.Kind == n)=false:=fun n h1 h2=>by rw[beq_eq_false_iff_ne];omega
   rw[e0,e 1 (by omega) (by omega),e 2 (by omega) (by omega),e 3 (by omega) (by omega),e 4 (by omega) (by omega),e 5 (by omega) (by omega),e 6 (by omega) (by omega),e 7 (by omega) (by omega),e 8 (by omega) (by omega)];rfl
theorem ymdb (l:List Int):zwf l=zue l:=rfl
theorem yem (c:Character):zxd c=zhd c:=rfl
theorem ydu (c:Character) (h:znb c=true) (h8:c.Kind≠8):(c.Letter != [])=(c.Letter == [76]):=by
 unfold znb at h;simp only[Bool.cond_eq_ite]at h;have e8:(c.Kind == 8)=false:=by rw[beq_eq_false_iff_ne];exact h8
 repeat' split at h
 all_goals first
  | (rename_i q;rw[e8]at q;cases q;done)
  | (cases h;done)
  | (simp only[Bool.and_eq_true,beq_iff_eq]at h;rw[h.2];rfl)
  | (simp only[Bool.and_eq_true,beq_iff_eq]at h;rw[h.1];rfl)
  | (rename_i q;simp only[beq_iff_eq]at q;rw[q];rfl)
theorem ys0 (k:Int) (h:k=2\/k=4\/k=5\/k=6\/k=7\/k=8):(zcb k).1=zif k/\(zcb k).2.1=zxc k:=by
 rcases h with h|h|h|h|h|h<;>subst h<;>exact⟨rfl,rfl⟩
theorem yi9 (c:Character) (h:znb c=true) (hk:c.Kind=2\/c.Kind=4\/c.Kind=5\/c.Kind=6\/c.Kind=7\/c.Kind=8):zbb c=zq c:=by
 obtain⟨r1,r2⟩:=ys0 c.Kind hk;by_cases h8:c.Kind=8
 ·have hs:(zjc c.Letter != [])=true:=by
   unfold znb at h;rw[h8]at h;have h:(((zjc c.Letter) != []) && ((c.Group.length:Int) == 0))=true:=h;rw[Bool.and_eq_true]at h;exact h.1
  rw[ypp,decide_eq_true_eq]at hs;have e1:=yol c.Letter;rw[if_pos hs]at e1;have e2:=yrh ((c.Letter.getD 0 0).toNat:Int);rw[y7l _ (by omega) (by omega),show((((c.Letter.getD 0 0).toNat:Int)-65).toNat)=(c.Letter.getD 0 0).toNat-65 by omega]at e2;have hd:(default:List UInt8)=[]:=rfl;rw[hd]at e2
  have hall:∀ x∈y0d.getD ((c.Letter.getD 0 0).toNat-65) [],x=45\/x=46:=by
   have hlt:(c.Letter.getD 0 0).toNat-65<y0d.length:=by show _<26;omega
   rw[List.getD_eq_getElem?_getD,List.getElem?_eq_getElem hlt,Option.getD_some];exact(yai _ (List.getElem_mem hlt)).2.2
  generalize y0d.getD ((c.Letter.getD 0 0).toNat-65) []=code at *
  have hb:ye (y9n c) code.length 0 []=ye (yms c) code.length 0 []:=y7n _ _ _ (fun j u _ hj=>by
   unfold y9n yms;rw[e1,e2,r1,r2,h8]
   have hg:(code.map (fun c=>if c=46 then(5:Int)else 15)).getD j default=if code.getD j 0=46 then 5 else 15:=by
    rw[List.getD_eq_getElem?_getD,List.getD_eq_getElem?_getD,List.getElem?_map,List.getElem?_eq_getElem (by omega)];rfl
   rw[hg];have hm:=hall (code.getD j 0) (by rw[List.getD_eq_getElem?_getD,List.getElem?_eq_getElem (by omega),Option.getD_some];exact List.getElem_mem _);generalize code.getD j 0=x at hm
   rcases hm with hm|hm<;>subst hm<;>rfl)
  unfold zbb zq;rw[h8,e1,e2];simp only[List.length_map,Nat.sub_zero];rw[hb];rfl
 ·have e8:(c.Kind == 8)=false:=by rw[beq_eq_false_iff_ne];exact h8
  unfold zbb zq;rw[e8,ydu c h h8,r2]
  have b3:yuo c=ybt c:=by
   funext i s j t
   unfold yuo ybt;rw[r1,r2]
  have b5:yip c=y0s c:=by
   funext i s j t
   unfold yip y0s;rw[r1,r2]
  have b2:y5n c=ybu c:=by
   funext i s
   unfold y5n ybu;rw[b3];all_goals rfl
  have b4:y7o c=yqt c:=by
   funext i s
   unfold y7o yqt;rw[b5];all_goals rfl
  rw[b2,b4];rfl
theorem ynw (c:Character) (h:znb c=true) (hs:zxd c=false):zdh c=zqb c:=by
 unfold zdh zqb;rw[hs, <- yem,hs];simp only[cond_false];by_cases h3:c.Kind=3
 ·rw[h3];rfl
 ·have e3:(c.Kind == 3)=false:=by rw[beq_eq_false_iff_ne];exact h3
  rw[e3];simp only[cond_false]
  have hk:c.Kind=2\/c.Kind=4\/c.Kind=5\/c.Kind=6\/c.Kind=7\/c.Kind=8:=by
   unfold znb at h;unfold zxd at hs;simp only[Bool.cond_eq_ite]at h;simp only[Bool.or_eq_false_iff,beq_eq_false_iff_ne]at hs;repeat' split at h
   all_goals (try simp only[beq_iff_eq]at *)
   all_goals first|omega|(cases h;done)
  rw[yi9 c h hk,ymdb];have hg:=(yff c h).1
  have hone:c.Kind=6\/c.Kind=7\/c.Kind=8->c.Group.length<=1:=by
   intro hq;unfold znb at h;simp only[Bool.cond_eq_ite]at h;repeat' split at h
   all_goals (try simp only[Bool.and_eq_true,Bool.or_eq_true,beq_iff_eq,y6f,decide_eq_true_eq]at *)
   all_goals first|omega|(rcases h with h|h<;>omega)|(rw[h.2];simp)
  have e1:∀ n:Int,IntKind.wrap .i64 n=n\/True:=fun _=>.inr trivial
  unfold ztg;rcases hk with hk|hk|hk|hk|hk|hk
  ·rw[hk]
   cases decide (1<(c.Group.length:Int))<;>rfl
  ·rw[hk]
   cases decide (1<(c.Group.length:Int))<;>rfl
  ·rw[hk]
   cases decide (1<(c.Group.length:Int))<;>rfl
  ·have:=hone (by omega)
   rw[hk,decide_eq_false (show ¬ 1<(c.Group.length:Int)by omega)];rfl
  ·have:=hone (by omega)
   rw[hk,decide_eq_false (show ¬ 1<(c.Group.length:Int)by omega)];rfl
  ·have:=hone (by omega)
   rw[hk,decide_eq_false (show ¬ 1<(c.Group.length:Int)by omega)];rfl
theorem yzi (c:Character) (hl:c.Colors.length<9223372036854775808):zfb c=zsc c:=by
 unfold zfb zsc;rw[ys9 c hl, <- yem]
 cases h1:zoc c.Colors with
 | false=>rfl
 | true=>
  cases h2:znb c with
  | false=>rfl
  | true=>
   cases h3:zxd c with
   | true=>rfl
   | false=>
    rw[ynw c h2 h3];simp only[Bool.not_true,Bool.or_self,Bool.and_self,cond_false,ze,zj]
    cases h4:(c.Kind == 3)with
    | false=>
     have:(c.Kind != 3)=true:=by rw[bne,h4];rfl
     rw[this];simp
    | true=>
     have:(c.Kind != 3)=false:=by rw[bne,h4];rfl
     rw[this];simp only[Bool.false_or,Bool.true_and]
     cases h5:(c.Period.tmod 2 == 0)with
     | true=>
      have:(c.Period.tmod 2 != 0)=false:=by rw[bne,h5];rfl
      rw[this];simp
     | false=>
      have:(c.Period.tmod 2 != 0)=true:=by rw[bne,h5];rfl
      rw[this];simp
theorem yq0 (c:List UInt8):zeh c=zjf c:=by
 unfold zeh zjf
 match c with
 | []=>rfl
 | [b]=>
  simp only[List.length_singleton,znc,List.getD_cons_zero,Go.Lib.indexByte];by_cases h1:b=87
  ·subst h1;rfl
  by_cases h2:b=82
  ·subst h2;rfl
  by_cases h3:b=71
  ·subst h3;rfl
  by_cases h4:b=89
  ·subst h4;rfl
  have e:∀ x:UInt8,b≠x->([b] == [x])=false:=by intro x h;simp[h]
  rw[e _ h1,e _ h2,e _ h3,e _ h4];have n1:¬ (87:UInt8)=b:=fun h=>h1 h.symm
  have n2:¬ (82:UInt8)=b:=fun h=>h2 h.symm
  have n3:¬ (71:UInt8)=b:=fun h=>h3 h.symm
  have n4:¬ (89:UInt8)=b:=fun h=>h4 h.symm
  simp[n1,n2,n3,n4]
 | a::b::t=>
  have e:∀ x:UInt8,((a::b::t) == [x])=false:=by intro x;simp
  rw[e,e,e,e];have:(((a::b::t).length:Int) == 1)=false:=by simp;omega
  rw[this];rfl
theorem yd1 (s:Sector):zfh s=zkc s:=by
 unfold zfh zkc zug;rw[yq0];rfl
theorem yadb (a:Int):a.tmod 360=if 0<=a then a % 360 else -((-a) % 360):=by
 split
 ·rw[Int.tmod_eq_emod_of_nonneg (by omega)]
 ·have e:a = -(-a):=by omega
  rw[e,Int.neg_tmod,Int.tmod_eq_emod_of_nonneg (by omega)];simp
theorem yjs (a:Int):zfg a 360=a % 360:=by
 unfold zfg;rw[yadb a]
 have e:IntKind.wrap .i64 ((if 0<=a then a % 360 else -((-a) % 360))+360)=(if 0<=a then a % 360 else -((-a) % 360))+360:=by
  rw[IntKind.wrap_i64];split<;>omega
 rw[e,yadb];split<;>split<;>omega
def brg (n:Int):Prop:=0<=n/\n<=359
theorem w64 {x:Int} (h1 : -9223372036854775808<=x) (h2:x<=9223372036854775807):IntKind.wrap .i64 x=x:=by rw[IntKind.wrap_i64];omega
def y5c (s:Sector):Int:=(s.To-s.From-1) % 360+1
theorem yfy (s:Sector) (h1:brg s.From) (h2:brg s.To):zse s=y5c s:=by
 obtain⟨a1,a2⟩:=h1;obtain⟨b1,b2⟩:=h2;unfold zse y5c;rw[w64 (x:=s.To-s.From) (by omega) (by omega),w64 (x:=s.To-s.From-1) (by omega) (by omega),yjs,w64 (by omega) (by omega)]
theorem ymx (s:Sector) (h1:brg s.From) (h2:brg s.To):zjh s=y5c s:=by
 obtain⟨a1,a2⟩:=h1;obtain⟨b1,b2⟩:=h2;unfold zjh y5c;rw[w64 (x:=s.To-s.From) (by omega) (by omega),w64 (x:=s.To-s.From+360) (by omega) (by omega),yadb,if_pos (by omega)]
 cases hb:((s.To-s.From+360) % 360 == 0)with
 | true=>have:=eq_of_beq hb;simp only[cond_true];omega
 | false=>
  have:(s.To-s.From+360) % 360≠0:=by intro h;rw[h]at hb;exact absurd hb (by decide)
  simp only[cond_false];omega
theorem ybx (s:Sector) (b:Int) (h1:brg s.From) (h2:brg s.To) (h3:brg b):zrg s b=decide ((b-s.From) % 360<y5c s):=by
 unfold zrg;obtain⟨a1,a2⟩:=h1;obtain⟨c1,c2⟩:=h3;rw[w64 (x:=b-s.From) (by omega) (by omega),yjs,yfy s ⟨a1,a2⟩ h2]
theorem yqi (s:Sector):1<=y5c s/\y5c s<=360:=by unfold y5c;omega
def itR {σ : Type} (g : Nat -> σ -> σ) : Nat -> Nat -> σ -> σ
 | 0,_,s=>s
 | k+1,i,s=>itR g k (i+1) (g i s)
theorem y9h {σ : Type} (g : Nat -> σ -> σ) : ∀ (k i : Nat) (s : σ), itR g (k + 1) i s = g (i + k) (itR g k i s)
 | 0,i,s=>rfl
 | k+1,i,s=>by
  have:=y9h g k (i+1) (g i s);rw[show itR g (k+1+1) i s=itR g (k+1) (i+1) (g i s)from rfl,this,show i+1+k=i+(k+1)by omega];rfl
theorem y5d {ρ σ:Type} {b:Nat->σ->Except ρ σ} (p:Nat->Bool) (g:Nat->σ->σ) (r:ρ):∀ {k i:Nat} {s:σ},(∀ j u,i<=j->j<i+k->b j u=bif p j then .error r else .ok (g j u)) ->
  ((∃ j,i<=j/\j<i+k/\p j=true)/\ye b k i s=.error r)\/((∀ j,i<=j->j<i+k->p j=false)/\ye b k i s=.ok (itR g k i s))
 | 0,i,s,_=>.inr ⟨fun j h1 h2=>by omega,rfl⟩
 | k+1,i,s,hb=>by
  simp only[ye,hb i s (Nat.le_refl _) (by omega)]
  cases hp:p i with
  | true=>exact .inl ⟨⟨i,Nat.le_refl _,by omega,hp⟩,rfl⟩
  | false=>
   simp only[cond_false];rcases y5d p g r (k:=k) (i:=i+1) (s:=g i s) (fun j u h1 h2=>hb j u (by omega) (by omega))with⟨⟨j,h1,h2,h3⟩,h4⟩|⟨h1,h2⟩
   ·exact .inl ⟨⟨j,by omega,by omega,h3⟩,h4⟩
   ·refine .inr ⟨fun j h3 h4 => ?_,h2⟩
    by_cases hji:j=i
    ·subst hji;exact hp
    ·exact h1 j (by omega) (by omega)
theorem yqj {ρ:Type} {b:Int->Except (Sum ρ Int) Int} (q:Nat->Bool) (r:ρ) (n:Nat) (hb:∀ j:Nat,j<=n->b (j:Int)=bif decide (j<n)then(bif q j then .error (.inl r)else .ok ((j+1:Nat):Int))else .error (.inr (j:Int))) :
  ∀ (m i k:Nat),i+m=n->m<k->((∃ j,i<=j/\j<n/\q j=true)/\yab b k (i:Int)=.error (.inl r))\/((∀ j,i<=j->j<n->q j=false)/\yab b k (i:Int)=.error (.inr (n:Int)))
 | _,_,0,_,h=>absurd h (Nat.not_lt_zero _)
 | 0,i,k+1,e,_=>by
  have:i=n:=by omega
  subst this;right
  refine⟨fun j h1 h2=>by omega,?_⟩;simp only[yab,hb i (Nat.le_refl _),Nat.lt_irrefl,decide_false,cond_false]
 | m+1,i,k+1,e,hk=>by
  simp only[yab,hb i (by omega),show i<n by omega,decide_true,cond_true]
  cases hq:q i with
  | true=>exact .inl ⟨⟨i,Nat.le_refl _,by omega,hq⟩,rfl⟩
  | false=>
   simp only[cond_false];rcases yqj q r n hb m (i+1) k (by omega) (by omega)with⟨⟨j,h1,h2,h3⟩,h4⟩|⟨h1,h2⟩
   ·exact .inl ⟨⟨j,by omega,h2,h3⟩,h4⟩
   ·refine .inr ⟨fun j h3 h4 => ?_,h2⟩
    by_cases hji:j=i
    ·subst hji;exact hq
    ·exact h1 j (by omega) h4
def secQ (a:List Sector) (i:Nat):Bool:=(!(zkc (a.getD i default))) || (decide (0<(i:Int)) && decide (((a.getD i default).From)<=((a.getD ((IntKind.wrap .i64 ((i:Int)-1)).toNat) default).From)))
theorem y8q (a:List Sector) (i:Nat) (hi:i<9223372036854775807):secQ a i=false↔zkc (a.getD i default)=true/\(0<i->(a.getD (i-1) default).From<(a.getD i default).From):=by
 unfold secQ;rw[Bool.or_eq_false_iff,Bool.not_eq_false'];constructor
 ·rintro⟨h1,h2⟩
  refine⟨h1,fun h => ?_⟩;rw[yos h (by omega)]at h2;simp only[Bool.and_eq_false_iff,decide_eq_false_iff_not]at h2;omega
 ·rintro⟨h1,h2⟩
  refine⟨h1,?_⟩;by_cases h:0<i
  ·rw[yos h (by omega)]
   have:=h2 h;simp only[Bool.and_eq_false_iff,decide_eq_false_iff_not];omega
  ·simp only[Bool.and_eq_false_iff,decide_eq_false_iff_not];omega
theorem ytq {s:Sector} (h:zkc s=true):brg s.From/\brg s.To:=by
 unfold zkc zug zj at h;simp only[Bool.and_eq_true,decide_eq_true_eq]at h;exact⟨⟨h.1.1.1,h.1.1.2⟩,h.1.2.1,h.1.2.2⟩
theorem yy2 (a : List Sector) (n : Nat) : ∀ k, k <= 1000 -> 0 <= itR (fun i (s : Int) => s + y5c (a.getD i default)) k 0 0 /\ itR (fun i (s : Int) => s + y5c (a.getD i default)) k 0 0 <= 360 * k
 | 0,_=>by simp[itR]
 | k+1,h=>by
  have:=yy2 a n k (by omega);rw[y9h];have:=yqi (a.getD (0+k) default);simp only[Nat.zero_add]at *;omega
theorem y0b (a:List Sector) (hl:a.length<9223372036854775807):zjb a=zv a:=by
 have sp1:=y5d (b:=y6v a) (secQ a) (fun _ u=>u) false (k:=a.length-0) (i:=0) (s:=()) (fun j u _ _=>by cases u;rfl);let hasK (i:Nat):Bool:=(List.range a.length).any fun k=>((k:Int) != (i:Int)) && zrg (a.getD i default) ((a.getD k default).From)
 have im1:=y5d (b:=yii a) (fun i=>secQ a i || hasK i) (fun i (s:Int)=>IntKind.wrap .i64 (s+zse (a.getD i default))) false (k:=a.length-0) (i:=0) (s:=0) (fun j u _ _=>by
  simp only[yii,yd1];rw[show((!zkc (a.getD j default)) || (decide (0<(j:Int)) && decide (((a.getD j default).From)<=((a.getD ((IntKind.wrap .i64 ((j:Int)-1)).toNat) default).From))))=secQ a j from rfl]
  cases hq:secQ a j with
  | true=>rfl
  | false=>
   simp only[cond_false,Bool.false_or];rw[yee (b:=yfk a j u) (fun k=>((k:Int) != (j:Int)) && zrg (a.getD j default) ((a.getD k default).From)) false (fun k v _ _=>rfl)];simp only[Nat.sub_zero,Nat.zero_add];show(match (bif hasK j then Except.error false else Except.ok ())with|.error e=>Except.error e|.ok s2=>Except.ok (IntKind.wrap .i64 (u+zse (a.getD j default))))=bif hasK j then Except.error false else Except.ok (IntKind.wrap .i64 (u+zse (a.getD j default)))
   cases hasK j<;>rfl)
 unfold zjb zv;rcases sp1 with⟨⟨j,_,hj,hq⟩,e1⟩|⟨hq,e1⟩
 ·rcases im1 with⟨_,e2⟩|⟨hn,_⟩
  ·rw[e1,e2]
   cases decide (12<(a.length:Int))<;>rfl
  ·have:=hn j (Nat.zero_le _) hj
   simp only[hq,Bool.true_or]at this;cases this
 ·have hq':∀ i,i<a.length->zkc (a.getD i default)=true/\(0<i->(a.getD (i-1) default).From<(a.getD i default).From):=fun i hi=>(y8q a i (by omega)).1 (hq i (Nat.zero_le _) (by omega))
  have hb:∀ i,i<a.length->brg (a.getD i default).From/\brg (a.getD i default).To:=fun i hi=>ytq (hq' i hi).1
  have hs:∀ i,i+1<a.length->(a.getD i default).From<(a.getD (i+1) default).From:=fun i hi=>by have:=(hq' (i+1) hi).2 (by omega);simpa using this
  rw[e1];simp only;have apart:=y7z (f:=fun i=>(a.getD i default).From) (arc:=fun i=>y5c (a.getD i default)) (n:=a.length) (fun i hi=>(hb i hi).1) hs
  -- the reference's second loop
  let q2 (j:Nat):Bool:=decide (1<a.length) && decide ((((a.getD ((j+1) % a.length) default).From-(a.getD j default).From+360) % 360)<y5c (a.getD j default))
  have sp2:=yqj (b:=y3q a ()) q2 false (if 1<a.length then a.length else 0) (fun j hj=>by
   simp only[y3q];by_cases hn:1<a.length
   ·rw[if_pos hn]at hj ⊢
    have d1:decide ((1:Int)<(a.length:Int))=true:=by simp;omega
    rw[d1,Bool.and_true];by_cases hjl:j<a.length
    ·have d2:decide ((j:Int)<(a.length:Int))=true:=by simp;omega
     rw[d2,decide_eq_true hjl];simp only[cond_true];have w1:IntKind.wrap .i64 ((j:Int)+1)=((j+1:Nat):Int):=by rw[IntKind.wrap_i64];omega
     have t1:((IntKind.wrap .i64 ((j:Int)+1)).tmod (a.length:Int)).toNat=(j+1) % a.length:=by
      rw[w1,Int.tmod_eq_emod_of_nonneg (by omega),show((j+1:Nat):Int) % (a.length:Int)=(((j+1) % a.length:Nat):Int)from rfl,Int.toNat_natCast]
     rw[t1,Int.toNat_natCast,ymx _ (hb j hjl).1 (hb j hjl).2,w1];have hm:(j+1) % a.length<a.length:=Nat.mod_lt _ (by omega);have b1:=(hb _ hm).1;have b2:=(hb j hjl).1;obtain⟨c1,c2⟩:=b1;obtain⟨c3,c4⟩:=b2;rw[w64 (x:=(a.getD ((j+1) % a.length) default).From-(a.getD j default).From) (by omega) (by omega),w64 (x:=(a.getD ((j+1) % a.length) default).From-(a.getD j default).From+360) (by omega) (by omega),Int.tmod_eq_emod_of_nonneg (by omega)];show _=bif q2 j then _ else _
     rw[show q2 j=decide ((((a.getD ((j+1) % a.length) default).From-(a.getD j default).From+360) % 360)<y5c (a.getD j default))from by show(decide (1<a.length) && _)=_;rw[decide_eq_true hn,Bool.true_and]]
    ·have d2:decide ((j:Int)<(a.length:Int))=false:=by simp;omega
     rw[d2,decide_eq_false hjl];rfl
   ·rw[if_neg hn]at hj ⊢
    have d1:decide ((1:Int)<(a.length:Int))=false:=by simp;omega
    have d3:decide (j<0)=false:=by simp
    rw[d1,Bool.and_false,d3]
    rfl) (if 1<a.length then a.length else 0) 0 (a.length-(0:Int).toNat+1) (by omega) (by simp;split<;>omega)
  have e0:((0:Nat):Int)=0:=rfl;rw[e0]at sp2
  -- what the program's loop says
  have hask:∀ i,i<a.length->(hasK i=false↔∀ k,k<a.length->k≠i->y5c (a.getD i default)<=((a.getD k default).From-(a.getD i default).From) % 360):=by
   intro i hi;show((List.range a.length).any _)=false↔_;rw[List.any_eq_false];constructor
   ·intro h k hk hki
    have:=h k (List.mem_range.2 hk);rw[ybx _ _ (hb i hi).1 (hb i hi).2 (hb k hk).1]at this;simp only[Bool.and_eq_true,bne_iff_ne,decide_eq_true_eq,not_and]at this;have:=this (by omega);omega
   ·intro h k hk
    have hk:=List.mem_range.1 hk;rw[ybx _ _ (hb i hi).1 (hb i hi).2 (hb k hk).1];simp only[Bool.and_eq_true,bne_iff_ne,decide_eq_true_eq,not_and];intro hki;have:=h k hk (by omega);omega
  rcases im1 with⟨⟨i,_,hi,hc⟩,e2⟩|⟨hn,e2⟩
  · -- two sectors meet
   rw[e2];simp only;have hi:i<a.length:=by omega
   rw[hq i (Nat.zero_le _) (by omega),Bool.false_or]at hc
   have hne:¬ ∀ k,k<a.length->k≠i->y5c (a.getD i default)<=((a.getD k default).From-(a.getD i default).From) % 360:=fun h=>by
    rw[(hask i hi).2 h]at hc;cases hc
   have hno:¬ (1<a.length->∀ i,i<a.length->y5c (a.getD i default)<=((a.getD ((i+1) % a.length) default).From-(a.getD i default).From+360) % 360):=fun h=>hne (fun k hk hki=>apart.2 h i hi k hk hki)
   cases decide (12<(a.length:Int))with
   | true=>rfl
   | false=>
    simp only[cond_false];rcases sp2 with⟨_,e3⟩|⟨h3,_⟩
    ·rw[e3]
    ·exfalso
     apply hno;intro hn1 j hj;have:=h3 j (Nat.zero_le _) (by rw[if_pos hn1];exact hj)
     have:decide ((((a.getD ((j+1) % a.length) default).From-(a.getD j default).From+360) % 360)<y5c (a.getD j default))=false:=by
      have h4:(decide (1<a.length) && _)=false:=this;rwa [decide_eq_true hn1,Bool.true_and]at h4
     have:=of_decide_eq_false this;omega
  ·rw[e2]
   simp only[zzb]
   have hall:∀ i,i<a.length->∀ k,k<a.length->k≠i->y5c (a.getD i default)<=((a.getD k default).From-(a.getD i default).From) % 360:=fun i hi=>(hask i hi).1 (by
    have:=hn i (Nat.zero_le _) (by omega);rw[Bool.or_eq_false_iff]at this
    exact this.2)
   have hcons:=apart.1 hall
   have e3:yab (y3q a ()) (a.length-(0:Int).toNat+1) 0=.error (.inr ((if 1<a.length then a.length else 0:Nat):Int)):=by
    rcases sp2 with⟨⟨j,_,hj,h4⟩,_⟩|⟨_,e3⟩
    ·exfalso
     have h4:(decide (1<a.length) && decide ((((a.getD ((j+1) % a.length) default).From-(a.getD j default).From+360) % 360)<y5c (a.getD j default)))=true:=h4;rw[Bool.and_eq_true]at h4;have g1:=of_decide_eq_true h4.1;have g2:=of_decide_eq_true h4.2;rw[if_pos g1]at hj;have:=hcons g1 j hj;omega
    ·exact e3
   rw[e3];simp only
   cases h12:decide (12<(a.length:Int))with
   | true=>
    have:=of_decide_eq_true h12;rw[decide_eq_false (show ¬ (a.length:Int)<=12 by omega),Bool.false_and];rfl
   | false=>
    have h12:=of_decide_eq_false h12;rw[decide_eq_true (show(a.length:Int)<=12 by omega),Bool.true_and];simp only[cond_false]
    have hit:∀ k,k<=a.length->itR (fun i (s:Int)=>IntKind.wrap .i64 (s+zse (a.getD i default))) k 0 0=itR (fun i (s:Int)=>s+y5c (a.getD i default)) k 0 0:=by
     intro k
     induction k with
     | zero=>intro _;rfl
     | succ k ih=>
      intro hk;rw[y9h,y9h,ih (by omega)];simp only[Nat.zero_add];have r1:=yy2 a 0 k (by omega);rw[yfy _ (hb k (by omega)).1 (hb k (by omega)).2];have r2:=yqi (a.getD k default);exact w64 (by omega) (by omega)
    have hle:=y58 (f:=fun i=>(a.getD i default).From) (arc:=fun i=>y5c (a.getD i default)) (S:=fun k=>itR (fun i (s:Int)=>s+y5c (a.getD i default)) k 0 0) (n:=a.length) (fun i hi=>(hb i hi).1) hs (fun i _=>yqi _) hcons rfl (fun i _=>by
     show itR _ (i+1) 0 0=_;rw[y9h]
     simp only[Nat.zero_add])
    rw[hit _ (by omega)];exact decide_eq_true (by simpa using hle)
theorem yreb (s:List UInt8) (c:UInt8) : -1<=Go.Lib.indexByte s c/\(0<=Go.Lib.indexByte s c↔c∈s):=by
 induction s with
 | nil=>simp[Go.Lib.indexByte]
 | cons b l ih=>
  obtain⟨i1,i2⟩:=ih;by_cases hb:b=c
  ·subst hb;simp[Go.Lib.indexByte]
  ·have hb2:¬ c=b:=fun h=>hb h.symm
   have e1:(b == c)=false:=by simpa using hb
   by_cases hm:c∈l
   ·have h0:=i2.2 hm
    have e2:(Go.Lib.indexByte l c == -1)=false:=by rw[beq_eq_false_iff_ne];omega
    have e3:Go.Lib.indexByte (b::l) c=Go.Lib.indexByte l c+1:=by simp only[Go.Lib.indexByte,e1,e2,Bool.false_eq_true,if_false]
    rw[e3];exact⟨by omega,fun _=>List.mem_cons_of_mem _ hm,fun _=>by omega⟩
   ·have h0:¬ 0<=Go.Lib.indexByte l c:=fun h=>hm (i2.1 h)
    have e0:Go.Lib.indexByte l c = -1:=by omega
    have e3:Go.Lib.indexByte (b::l) c = -1:=by simp only[Go.Lib.indexByte,e1,e0,Bool.false_eq_true,if_false];rfl
    rw[e3];refine⟨by omega,fun h=>by omega,fun h => ?_⟩;rcases List.mem_cons.1 h with h|h
    ·exact absurd h hb2
    ·exact absurd h hm
theorem ydv (s:List UInt8) (c:UInt8):znc s [c]=decide (c∈s):=by
 unfold znc;rw[List.getD_cons_zero];exact decide_eq_decide.2 (yreb s c).2
theorem yn5 (s:List UInt8) (c:UInt8):znc (s++[c]) [c]=true:=by
 rw[ydv];simp
theorem yzdb (s:List UInt8) (b c:UInt8) (h:b≠c):znc (s++[b]) [c]=znc s [c]:=by
 rw[ydv,ydv];have:¬ c=b:=fun e=>h e.symm
 simp[this]
theorem ygy (c:UInt8) (g:Sector->List UInt8->Except (List UInt8) (List UInt8)) (hg:∀ x u,g x u=bif ((x.Color == [c]) && (!(znc u [c])))then .ok (u++[c])else .ok u) :
  ∀ (l:List Sector) (u:List UInt8),znc u [c]=true->ynm g l u=.ok u
 | [],u,_=>rfl
 | x::l,u,h=>by
  rw[yxg,hg,h,Bool.not_true,Bool.and_false];exact ygy c g hg l u h
theorem yy1 (c:UInt8) (g:Sector->List UInt8->Except (List UInt8) (List UInt8)) (hg:∀ x u,g x u=bif ((x.Color == [c]) && (!(znc u [c])))then .ok (u++[c])else .ok u) :
  ∀ (l:List Sector) (u:List UInt8),znc u [c]=false->ynm g l u=.ok (bif l.any (fun x=>x.Color == [c])then u++[c]else u)
 | [],u,_=>rfl
 | x::l,u,h=>by
  rw[yxg,hg,h,Bool.not_false,Bool.and_true,List.any_cons]
  cases hx:(x.Color == [c])with
  | true=>
   simp only[cond_true,Bool.true_or];exact ygy c g hg l _ (yn5 u c)
  | false=>
   simp only[cond_false,Bool.false_or];exact yy1 c g hg l u h
theorem y70 (c:List UInt8) (g:Sector->List UInt8->Except (Sum (List UInt8) (List UInt8)) (List UInt8)) (hg:∀ x u,g x u=bif (x.Color == c)then .error (.inr (u++c))else .ok u) :
  ∀ (l:List Sector) (u:List UInt8),ynm g l u=bif l.any (fun x=>x.Color == c)then .error (.inr (u++c))else .ok u
 | [],u=>rfl
 | x::l,u=>by
  rw[yxg,hg,List.any_cons]
  cases hx:(x.Color == c)with
  | true=>rfl
  | false=>
   simp only[cond_false,Bool.false_or];exact y70 c g hg l u
def yxe (a:List Sector) (s:List UInt8) (c:UInt8):List UInt8:=bif a.any (fun x=>x.Color == [c])then s++[c]else s
theorem ych (a:List Sector) (i:Nat) (s:List UInt8) (c:UInt8) (h4:i<4) (hc:(([87,82,71,89].take ((IntKind.wrap .i64 ((i:Int)+1)).toNat)).drop i)=[c]) (h:znc s [c]=false) :
  ylo a i s=.ok (yxe a s c):=by
 unfold ylo;rw[yhe (fun x u=>bif ((x.Color == [c]) && (!(znc u [c])))then .ok (u++[c])else .ok u) a s (fun j u _=>by simp only[ygt,hc])];rw[yy1 c _ (fun _ _=>rfl) a s h];rfl
theorem y7c (a:List Sector) (i:Nat) (s:List UInt8) (c:UInt8) (hc:([[87],[82],[71],[89]]:List (List UInt8)).getD i default=[c]):yno a i s=.ok (yxe a s c):=by
 unfold yno;rw[yhe (fun x u=>bif (x.Color == [c])then .error (.inr (u++[c]))else .ok u) a s (fun j u _=>by simp only[yzt,hc])];rw[y70 [c] _ (fun _ _=>rfl) a s];unfold yxe;cases a.any (fun x=>x.Color == [c])<;>rfl
theorem yjd (a:List Sector) (s:List UInt8) (b c:UInt8) (h:b≠c):znc (yxe a s b) [c]=znc s [c]:=by
 unfold yxe
 cases a.any (fun x=>x.Color == [b])with
 | true=>exact yzdb s b c h
 | false=>rfl
theorem ymk (a:List Sector):znd a=zib a:=by
 unfold znd zib;have n0:∀ c:UInt8,znc [] [c]=false:=by intro c;simp[znc,Go.Lib.indexByte]
 have l4:([87,82,71,89]:List Nat).length-0=4:=rfl;rw[l4];simp only[ye,Nat.sub_zero];rw[ych a 0 [] 87 (by omega) rfl (n0 _),y7c a 0 [] 87 rfl];simp only;rw[ych a (0+1) _ 82 (by omega) rfl (by rw[yjd _ _ _ _ (by decide)];exact n0 _),y7c a (0+1) _ 82 rfl];simp only;rw[ych a (0+1+1) _ 71 (by omega) rfl (by rw[yjd _ _ _ _ (by decide),yjd _ _ _ _ (by decide)];exact n0 _),y7c a (0+1+1) _ 71 rfl];simp only;rw[ych a (0+1+1+1) _ 89 (by omega) rfl (by rw[yjd _ _ _ _ (by decide),yjd _ _ _ _ (by decide),yjd _ _ _ _ (by decide)];exact n0 _),y7c a (0+1+1+1) _ 89 rfl]
theorem yo1 (l:List (List UInt8)) (x:List UInt8):zog l x=l.any (fun y=>y == x):=by
 unfold zog zuf;rcases ypf (b:=y8s l x) (fun j=>x == l.getD j default) (fun j=>(j:Int)) (k:=l.length-0) (i:=0) (s:=()) (fun j u _ _=>rfl)with⟨j,_,h2,h3,h4,h5⟩|⟨h1,h2⟩
 ·rw[h5]
  simp only;rw[decide_eq_true (show(0:Int)<=(j:Int)by omega)];symm
  rw[List.any_eq_true];have hj:j<l.length:=by omega
  have h3:(x == l.getD j default)=true:=h3;have h3:=eq_of_beq h3;refine⟨l.getD j default,?_,by rw[<- h3];simp⟩;rw[List.getD_eq_getElem?_getD,List.getElem?_eq_getElem hj];exact List.getElem_mem hj
 ·rw[h2]
  simp only;rw[decide_eq_false (show ¬ (0:Int) <= -1 by omega)];symm
  rw[List.any_eq_false];intro y hy;obtain⟨i,hi,rfl⟩:=List.getElem_of_mem hy;have:(x == l.getD i default)=false:=h1 i (Nat.zero_le _) (by omega);rw[List.getD_eq_getElem?_getD,List.getElem?_eq_getElem hi,Option.getD_some]at this;intro h;rw[eq_of_beq h]at this;simp at this
theorem yth {k:Int} (h:zlc k=true):k=1\/k=2\/k=3\/k=4\/k=5\/k=6\/k=7\/k=8\/k=9:=by
 unfold zlc zj at h;simp only[Bool.and_eq_true,decide_eq_true_eq]at h;omega
theorem ylq {k:Int} (h:zlc k=true):zzg k=zbe k:=by
 rcases yth h with rfl|rfl|rfl|rfl|rfl|rfl|rfl|rfl|rfl<;>rfl
theorem yyz {k:Int} (h:zlc k=true):zah k=zke k:=by
 rcases yth h with rfl|rfl|rfl|rfl|rfl|rfl|rfl|rfl|rfl<;>rfl
theorem y9p {k:Int} (h:zlc k=true):zze k=zeb k:=by
 rcases yth h with rfl|rfl|rfl|rfl|rfl|rfl|rfl|rfl|rfl<;>decide
theorem yro (m:Mark):(match ye (y1l m) (((zeb m.Kind).length)-0) 0 ()with|.error e=>e|.ok s1=>false)=(zeb m.Kind).any (fun y=>y == m.Shape):=by
 rcases ypf (b:=y1l m) (fun j=>(zeb m.Kind).getD j default == m.Shape) (fun _=>true) (k:=(zeb m.Kind).length-0) (i:=0) (s:=()) (fun j u _ _=>rfl)with⟨j,_,h2,h3,h4,h5⟩|⟨h1,h2⟩
 ·rw[h5]
  simp only;symm
  rw[List.any_eq_true];have hj:j<(zeb m.Kind).length:=by omega
  refine⟨(zeb m.Kind).getD j default,?_,h3⟩;rw[List.getD_eq_getElem?_getD,List.getElem?_eq_getElem hj];exact List.getElem_mem hj
 ·rw[h2]
  simp only;symm
  rw[List.any_eq_false];intro y hy;obtain⟨i,hi,rfl⟩:=List.getElem_of_mem hy;have:((zeb m.Kind).getD i default == m.Shape)=false:=h1 i (Nat.zero_le _) (by omega);rw[List.getD_eq_getElem?_getD,List.getElem?_eq_getElem hi,Option.getD_some]at this;rw[this];decide
theorem y5db (m:Mark):zod m=(bif (m.Kind == 0)then(m.Kind == 0 && (m.Colors == [] && (m.Shape == [] && m.Topmark == [])))else(bif (((!(zlc m.Kind)) || (m.Colors != (zbe m.Kind))) || ((m.Topmark != []) && (m.Topmark != (zke m.Kind))))then false else(zeb m.Kind).any (fun y=>y == m.Shape))):=by
 unfold zod;have hk:zxg m.Kind=zlc m.Kind:=rfl;rw[hk]
 cases h0:(m.Kind == 0)with
 | true=>
  have e:=eq_of_beq h0;have hn:zlc m.Kind=false:=by rw[e];rfl
  simp only[Bool.true_and,cond_true,hn,Bool.false_and];cases(m.Colors == [] && (m.Shape == [] && m.Topmark == []))<;>rfl
 | false=>
  simp only[Bool.false_and,cond_false]
  cases h1:zlc m.Kind with
  | false=>rfl
  | true=>
   rw[ylq h1,yyz h1,y9p h1,yo1];simp only[Bool.true_and,Bool.not_true,Bool.false_or,bne];cases(m.Colors == zbe m.Kind)<;>cases(m.Topmark == [])<;>cases(m.Topmark == zke m.Kind)<;>simp
theorem yre (m:Mark):zod m=zid m:=by
 rw[y5db];unfold zid zub;have hs:=yro m;generalize ye (y1l m) ((zeb m.Kind).length-0) 0 ()=z at hs ⊢
 cases z with
 | error e=>simp only at hs ⊢;rw[hs]
 | ok u=>simp only at hs ⊢;rw[hs]
def zpf (a0:Aid):Bool:=
 (bif (((!(zfb a0.Light)) || (!(zgh a0.Intensity))) || (!(zjb a0.Sectors)))then false else(bif ((a0.Sectors.length:Int) == 0)then((a0.Light.Colors.length:Int) == 1)else((znd a0.Sectors) == a0.Light.Colors)))
namespace N61
theorem DD:DOk Tryz.prog (Go.Ab.DD [(110,dP D_zfb),(111,dP D_zgh),(112,dP D_zjb),(113,dP D_znd)]):=ya yrq.e <| ya yk8.e <| ya yfq.e <| ya y26.e <| yc _
abbrev dn:=cj @D_zfb.eq_1 <| cj @D_zgh.eq_1 <| cj @D_zjb.eq_1 <| @D_znd.eq_1
theorem den (a0:Aid) (hb0:bdAid a0):Den Tryz.prog 61 [.agg (eAid a0)] (.bool (zpf a0)):=by
 generalize hR:zpf a0=r;unfold zpf at hR;refine di Tryz.func61 Tryz.ntmps61 Tryz.results61 ?_;intro c hL hc hk;obtain⟨hL0,_⟩:=hL;have hw0:bwAid a0:=yr a0 hL0;clear hL0;simp only[pars,Nat.zero_add];iterate 2 refine rS ?_
 refine yb ?_ ?_<;>intro hb
 ·replace hR:=ct hR
  exact retR
 ·replace hR:=cf hR
  refine rS ?_;refine yb ?_ ?_<;>intro hb
  ·replace hR:=ct hR
   exact retR
  ·replace hR:=cf hR
   refine rD 6 ?_;exact retE
end N61
def D_zpf : DF
 | [x0]=>some (.bool (zpf (rdG dAid x0)),false,[wG eAid dAid x0,bdAid (rdG dAid x0)])
 | _=>none
theorem y8y:OkD Tryz.prog 61 D_zpf:=by unfold D_zpf;exact dk N61.den
def zmc (a0:Aid):Bool:=
 ((((((zpe a0.Number) && (zmf a0.Name)) && (zyd a0.At)) && (zsh a0.Height)) && (zod a0.Mark)) && ((zpf a0) || (zhh a0)))
namespace N44
theorem DD:DOk Tryz.prog (Go.Ab.DD [(56,dP D_zpe),(61,dP D_zpf),(94,dP D_zmf),(95,dP D_zyd),(96,dP D_zsh),(97,dP D_zod),(98,dP D_zhh)]):=ya ypq.e <| ya y8y.e <| ya yf5.e <| ya ydq.e <| ya yq9.e <| ya yzp.e <| ya yt6.e <| yc _
abbrev dn:=cj @D_zpe.eq_1 <| cj @D_zpf.eq_1 <| cj @D_zmf.eq_1 <| cj @D_zyd.eq_1 <| cj @D_zsh.eq_1 <| cj @D_zod.eq_1 <| @D_zhh.eq_1
theorem den (a0:Aid) (hb0:bdAid a0):Den Tryz.prog 44 [.agg (eAid a0)] (.bool (zmc a0)):=by
 generalize hR:zmc a0=r;unfold zmc at hR;refine di Tryz.func44 Tryz.ntmps44 Tryz.results44 ?_;intro c hL hc hk;obtain⟨hL0,_⟩:=hL;have hw0:bwAid a0:=yr a0 hL0;clear hL0;simp only[pars,Nat.zero_add];refine rS ?_;exact retR
end N44
def D_zmc : DF
 | [x0]=>some (.bool (zmc (rdG dAid x0)),false,[wG eAid dAid x0,bdAid (rdG dAid x0)])
 | _=>none
theorem y9i:OkD Tryz.prog 44 D_zmc:=by unfold D_zmc;exact dk N44.den
def yvl (a0:(List Aid)) (i1:Nat) (s1:Unit):Except (Bool) (Unit):=
 (bif ((!(zmc (a0.getD i1 default))) || (decide (0<(i1:Int)) && decide (((a0.getD i1 default).Number)<=((a0.getD ((IntKind.wrap .i64 ((i1:Int)-1)).toNat) default).Number))))then .error false else .ok ())
def zgb (a0:(List Aid)):Bool:=
 (match ye (yvl a0) (a0.length-0) 0 ()with|.error e=>e|.ok s1=>(zzb (a0.length:Int) 24))
namespace N20
theorem DD:DOk Tryz.prog (Go.Ab.DD [(44,dP D_zmc),(45,dP D_zzb)]):=ya y9i.e <| ya y4i.e <| yc _
abbrev dn:=cj @D_zmc.eq_1 <| @D_zzb.eq_1
theorem den (a0:(List Aid)) (hb0:a0.length<1099511627776) (hb1:∀ v∈a0,bdAid v):Den Tryz.prog 20 [encL 16 eAid a0] (.bool (zgb a0)):=by
 generalize hR:zgb a0=r;unfold zgb at hR;refine di Tryz.func20 Tryz.ntmps20 Tryz.results20 ?_;intro c hL hc hk;obtain⟨hL0,_⟩:=hL;have hw0:=lwA hL0;have hw1:∀ v∈a0,bwAid v:=fun v hv=>yr v ((yj hL0).2 v hv)
 clear hL0;simp only[pars,Nat.zero_add];iterate 2 refine rS ?_
 refine AWP.block ?_;generalize hz1:ye (yvl a0) (a0.length-0) 0 ()=z1 at hR;refine AWP.range (yvl a0) (fun i1 s1=>⟨[(0,encL 16 eAid a0),(5,encL 16 eAid a0),(6,.int .i64 (a0.length:Int)),(7,.int .i64 (i1:Int))],[]⟩) (fun i1 s1=>True) (a0.length) 0 () [] hz1 ot wt sm ?_;clear hz1;intro i1 s1 hi1 hW1 hz1;refine rS ?_;refine AWP.seq ?_;refine yb ?_ ?_<;>intro hb
 ·have hlt1:i1<a0.length:=ot
  rw[yi hlt1]at hz1;simp only[yvl]at hz1;refine rS ?_;refine rD 18 ?_;refine yb ?_ ?_<;>intro hb
  ·simp only[hb,cond_true]at hz1
   refine rS ?_;refine AWP.ret ?_;subst hz1;dsimp only at hR;subst hR;exact es
  ·simp only[hb,cond_false]at hz1
   refine rS ?_;exact⟨_,[],hlt1,wt,hz1,sm⟩
 ·obtain rfl:i1=a0.length:=ot
  exact retX
end N20
def D_zgb : DF
 | [x0]=>some (.bool (zgb (rdL dAid x0)),false,[wL 16 eAid dAid x0,(rdL dAid x0).length<1099511627776,∀ v∈(rdL dAid x0),bdAid v])
 | _=>none
theorem y7g:OkD Tryz.prog 20 D_zgb:=by unfold D_zgb;exact dk N20.den
def zw (a0:Aid):Bool:=
 (bif (((((!(zj a0.Number 1 9999)) || (!(zqc a0.Name))) || (!(zvc a0.At))) || (!(zj a0.Height 0 3000))) || (!(zid a0.Mark)))then false else(bif (zjd a0.Light)then(((a0.Sectors.length:Int) == 0) && (a0.Intensity == 0))else(bif (((!(zsc a0.Light)) || (!(zj a0.Intensity 1 100000000))) || (!(zv a0.Sectors)))then false else(bif ((a0.Sectors.length:Int) == 0)then((a0.Light.Colors.length:Int) == 1)else((zib a0.Sectors) == a0.Light.Colors)))))
namespace N129
theorem DD:DOk Tryz.prog (Go.Ab.DD [(185,dP D_zqc),(186,dP D_zvc),(187,dP D_zid),(188,dP D_zjd),(189,dP D_zsc),(190,dP D_zv),(75,dP D_zj),(89,dP D_zib)]):=ya yd5.e <| ya yu6.e <| ya yl8.e <| ya y66.e <| ya ym5.e <| ya yjcb.e <| ya yyf.e <| ya y8x.e <| yc _
abbrev dn:=cj @D_zqc.eq_1 <| cj @D_zvc.eq_1 <| cj @D_zid.eq_1 <| cj @D_zjd.eq_1 <| cj @D_zsc.eq_1 <| cj @D_zv.eq_1 <| cj @D_zj.eq_1 <| @D_zib.eq_1
abbrev ol:=@zj.eq_1
theorem den (a0:Aid) (hb0:bdAid a0):Den Tryz.prog 129 [.ep (eAid a0)] (.bool (zw a0)):=by
 generalize hR:zw a0=r;unfold zw at hR;refine di Tryz.func129 Tryz.ntmps129 Tryz.results129 ?_;intro c hL hc hk;obtain⟨hL0,_⟩:=hL;have hw0:bwAid a0:=yr a0 hL0;clear hL0;simp only[pars,Nat.zero_add];iterate 2 refine rS ?_
 refine yb ?_ ?_<;>intro hb
 ·replace hR:=ct hR
  exact retR
 ·replace hR:=cf hR
  refine rS ?_;refine yb ?_ ?_<;>intro hb
  ·replace hR:=ct hR
   exact retR
  ·replace hR:=cf hR
   refine rS ?_;refine yb ?_ ?_<;>intro hb
   ·replace hR:=ct hR
    exact retR
   ·replace hR:=cf hR
    refine rS ?_;refine yb ?_ ?_<;>intro hb
    ·replace hR:=ct hR
     exact retR
    ·replace hR:=cf hR
     refine rD 11 ?_;exact retE
end N129
def D_zw : DF
 | [x0]=>some (.bool (zw (rdP dAid x0)),false,[wP eAid dAid x0,bdAid (rdP dAid x0)])
 | _=>none
theorem yqbb:OkD Tryz.prog 129 D_zw:=by unfold D_zw;exact dk N129.den
def yti (a0:(List Aid)) (i1:Nat) (s1:Unit):Except (Bool) (Unit):=
 (bif ((!(zw (a0.getD i1 default))) || (decide (0<(i1:Int)) && decide (((a0.getD i1 default).Number)<=((a0.getD ((IntKind.wrap .i64 ((i1:Int)-1)).toNat) default).Number))))then .error false else .ok ())
def zdc (a0:(List Aid)):Bool:=
 (match ye (yti a0) (a0.length-0) 0 ()with|.error e=>e|.ok s1=>decide ((a0.length:Int)<=24))
namespace N77
theorem DD:DOk Tryz.prog (Go.Ab.DD [(129,dP D_zw)]):=ya yqbb.e <| yc _
abbrev dn:=@D_zw.eq_1
theorem den (a0:(List Aid)) (hb0:a0.length<1099511627776) (hb1:∀ v∈a0,bdAid v):Den Tryz.prog 77 [encL 16 eAid a0] (.bool (zdc a0)):=by
 generalize hR:zdc a0=r;unfold zdc at hR;refine di Tryz.func77 Tryz.ntmps77 Tryz.results77 ?_;intro c hL hc hk;obtain⟨hL0,_⟩:=hL;have hw0:=lwA hL0;have hw1:∀ v∈a0,bwAid v:=fun v hv=>yr v ((yj hL0).2 v hv)
 clear hL0;simp only[pars,Nat.zero_add];iterate 2 refine rS ?_
 refine AWP.block ?_;generalize hz1:ye (yti a0) (a0.length-0) 0 ()=z1 at hR;refine AWP.range (yti a0) (fun i1 s1=>⟨[(0,encL 16 eAid a0),(3,.int .i64 (i1:Int))],[]⟩) (fun i1 s1=>True) (a0.length) 0 () [] hz1 ot wt sm ?_;clear hz1;intro i1 s1 hi1 hW1 hz1;refine rS ?_;refine yb ?_ ?_<;>intro hb
 ·have hlt1:i1<a0.length:=ot
  rw[yi hlt1]at hz1;simp only[yti]at hz1;refine rD 23 ?_;refine yb ?_ ?_<;>intro hb
  ·simp only[hb,cond_true]at hz1
   refine rS ?_;refine AWP.ret ?_;subst hz1;dsimp only at hR;subst hR;exact es
  ·simp only[hb,cond_false]at hz1
   refine rS ?_;exact⟨_,[],hlt1,wt,hz1,sm⟩
 ·obtain rfl:i1=a0.length:=ot
  exact retX
end N77
def D_zdc : DF
 | [x0]=>some (.bool (zdc (rdL dAid x0)),false,[wL 16 eAid dAid x0,(rdL dAid x0).length<1099511627776,∀ v∈(rdL dAid x0),bdAid v])
 | _=>none
theorem y95:OkD Tryz.prog 77 D_zdc:=by unfold D_zdc;exact dk N77.den
theorem y8t (c:Character) (h:zjd c=true):zfb c=false:=by
 unfold zjd at h;simp only[Bool.and_eq_true,beq_iff_eq]at h;obtain⟨⟨⟨⟨h1,h2⟩,h3⟩,h4⟩,h5⟩:=h;cases c
 simp only at h1 h2 h3 h4 h5;rename_i k g l cs p
 have hg:g=[]:=List.length_eq_zero_iff.1 (by omega);subst h1 hg h3 h4 h5;decide
theorem yi7 (a:Aid):zhh a=((zjd a.Light && ((a.Sectors.length:Int) == 0)) && (a.Intensity == 0)):=by
 unfold zhh zbf zjd;rw[yve]
 have:decide (a.Light.Group=[])=((a.Light.Group.length:Int) == 0):=by
  cases a.Light.Group with
  | nil=>rfl
  | cons x l=>simp;omega
 rw[this]
theorem yqc (a:Aid) (hl:a.Light.Colors.length<9223372036854775808) (hs:a.Sectors.length<9223372036854775807):zmc a=zw a:=by
 unfold zmc zw;rw[yi7];unfold zpf;rw[y0b a.Sectors hs,ymk,yre,yxbb];have e1:zpe a.Number=zj a.Number 1 9999:=rfl;have e2:zyd a.At=zvc a.At:=rfl;have e3:zsh a.Height=zj a.Height 0 3000:=rfl;have e4:zgh a.Intensity=zj a.Intensity 1 100000000:=rfl;rw[e1,e2,e3,e4]
 cases hp:zjd a.Light with
 | true=>
  rw[y8t _ hp];simp only[Bool.not_false,Bool.true_or,cond_true,Bool.true_and,Bool.false_or];cases zj a.Number 1 9999<;>cases zqc a.Name<;>cases zvc a.At<;>cases zj a.Height 0 3000<;>cases zid a.Mark<;>rfl
 | false=>
  rw[yzi a.Light hl];simp only[Bool.false_and,Bool.or_false,cond_false];cases zj a.Number 1 9999<;>cases zqc a.Name<;>cases zvc a.At<;>cases zj a.Height 0 3000<;>cases zid a.Mark<;>rfl
theorem ypc (l:List Aid) (h:∀ v∈l,v.Light.Colors.length<9223372036854775808/\v.Sectors.length<9223372036854775807):zgb l=zdc l:=by
 unfold zgb zdc
 rw[y7n (b:=yvl l) (b':=yti l) (l.length-0) 0 () (fun j u _ hj=>by
  have:=ytf (p:=fun v:Aid=>v.Light.Colors.length<9223372036854775808/\v.Sectors.length<9223372036854775807) h ⟨by decide,by decide⟩ j
  simp only[yvl,yti,yqc _ this.1 this.2])]
 rfl
theorem yut {a:List Aid} (h:zdc a=true):a.length<=24:=by
 unfold zdc at h;split at h
 ·rename_i e he
  obtain⟨j,t,_,_,h3⟩:=ymd he;simp only[yti,Bool.cond_eq_ite]at h3;split at h3
  ·cases h3;cases h
  ·cases h3
 ·have:=of_decide_eq_true h;omega
theorem ykc {a:List Aid} (h:zgb a=true):a.length<=24:=by
 unfold zgb at h;split at h
 ·rename_i e he
  obtain⟨j,t,_,_,h3⟩:=ymd he;simp only[yvl,Bool.cond_eq_ite]at h3;split at h3
  ·cases h3;cases h
  ·cases h3
 ·unfold zzb at h;have:=of_decide_eq_true h;omega
theorem y9w {ρ α:Type} [Inhabited α] (l:List α) (b:Nat->List α->Except ρ (List α)) (hb:∀ i s,b i s=.ok (s++[l.getD i default])):ye b (l.length-0) 0 ([]:List α)=.ok l:=by
 obtain⟨t,h1,h2⟩:=ydb (b:=b) (fun i s=>s=l.take i) (k:=l.length-0) (i:=0) (s:=[]) (by simp) (by
  intro j u _ hj h;subst h
  exact⟨_,hb j _,(yzn l j (by omega)).symm⟩)
 rw[h1,h2];simp
theorem ykd (a:Aid):zfd a=a:=by simp[zfd,zth,zuh]
theorem ylb (l:List Aid):zbc l=l:=by
 unfold zbc;rw[show(List.replicate 0 (default:Aid))=[]from rfl,y9w l (yao l) (fun i s=>by simp only[yao,ykd])]
theorem yvm (a:Aid):zve a=a:=by simp[zve,zwh,zvh]
theorem yuc (l:List Aid):zpb l=l:=by
 unfold zpb;rw[y9w l (y6n l) (fun i s=>by simp only[y6n,yvm])]
def zqf (a0:(List Aid)) (a1:Aid):((List Aid)×Int):=
 (bif ((!(zgb a0)) || (!(zmc a1)))then([],1)else(bif (zt a0 a1.Number).2 then([],4)else(bif ((a0.length:Int) == 24)then([],5)else(((zpg (zbc a0) ((zt a0 a1.Number).1) [zfd a1])),0))))
namespace N50
theorem DD:DOk Tryz.prog (Go.Ab.DD [(101,dM [true,false,true] D_zpg),(20,dP D_zgb),(22,dP D_zfd),(24,dP D_zbc),(44,dP D_zmc),(46,dP D_zt)]):=ya y94.e <| ya y7g.e <| ya y4k.e <| ya ygl.e <| ya y9i.e <| ya y5q.e <| yc _
abbrev dn:=cj @D_zpg.eq_1 <| cj @D_zgb.eq_1 <| cj @D_zfd.eq_1 <| cj @D_zbc.eq_1 <| cj @D_zmc.eq_1 <| @D_zt.eq_1
abbrev ol:=@ylb
theorem gr {p:Prop} (h:p:=by(grind [ykc,yzq]);first|done|fail):p:=h
theorem o1 {p:Prop} (h:p:=by(first|(have h9:=ykc (a:=a0) (by simp_all);simp only[ob,ln,ol]at *;omega));first|done|fail):p:=h
theorem den (a0:(List Aid)) (a1:Aid) (hb0:a0.length<1099511627776) (hb1:∀ v∈a0,bdAid v) (hb2:bdAid a1):Den Tryz.prog 50 [encL 16 eAid a0,.agg (eAid a1)] (.tup [ownL 56 16 ytb ((zqf a0 a1).1),.int .i64 ((zqf a0 a1).2)]):=by
 generalize hR:zqf a0 a1=r;unfold zqf at hR;refine di Tryz.func50 Tryz.ntmps50 Tryz.results50 ?_;intro c hL hc hk;obtain⟨hL0,hL1,_⟩:=hL;have hw0:=lwA hL0;have hw1:∀ v∈a0,bwAid v:=fun v hv=>yr v ((yj hL0).2 v hv)
 have hw2:bwAid a1:=yr a1 hL1;clear hL0 hL1;simp only[pars,Nat.zero_add];have hix:=yzq a0 a1.Number hw0;iterate 2 refine rS ?_
 refine yb ?_ ?_<;>intro hb
 ·replace hR:=ct hR
  exact retR
 ·replace hR:=cf hR
  iterate 2 refine rS ?_
  refine yb ?_ ?_<;>intro hb
  ·replace hR:=ct hR
   exact retR
  ·replace hR:=cf hR
   refine rS ?_;refine yb ?_ ?_<;>intro hb
   ·replace hR:=ct hR
    exact retR
   ·replace hR:=cf hR
    refine AWP.skip ?_;refine AWP.seq ?_;refine AWP.regP mixed G_ok DD hc 6 [0,2,3] (.alt 1 [] [2,3] (.alt 4 [] [2] (.alt 5 [] [2] .leaf .stop) .stop) .stop) (by kernel_rfl) (by kernel_rfl) (by kernel_rfl) (fun K hK => ?_);simp only[y1k,runN,runP,y3c,nthO,ea,absV,yoc,cput,gv,sv,dn,reduceCtorEq,reduceIte,Nat.reduceBEq,Nat.reduceAdd,Nat.reduceEqDiff,Nat.reduceLT,Nat.reduceLeDiff,Nat.reduceMul,Nat.reduceSub,BEq.rfl,beq_self_eq_true,Int.reduceToNat];repeat' apply And.intro
    all_goals first|refine hK _ ?_|exact ot
    all_goals clear hK K
    exact retE
end N50
def D_zqf : DF
 | [x0,x1]=>some (.tup [ownL 56 16 ytb ((zqf (rdL dAid x0) (rdG dAid x1)).1),.int .i64 ((zqf (rdL dAid x0) (rdG dAid x1)).2)],false,[wL 16 eAid dAid x0,wG eAid dAid x1,(rdL dAid x0).length<1099511627776,∀ v∈(rdL dAid x0),bdAid v,bdAid (rdG dAid x1)])
 | _=>none
theorem y65:OkD Tryz.prog 50 D_zqf:=by unfold D_zqf;exact dk N50.den
def y1n (a0:(List Aid)) (a1:Aid) (s1:Int):Except (Sum (((List Aid)×Int)) (Int)) (Int):=
 (bif (decide (s1<(a0.length:Int)) && decide (((a0.getD ((s1).toNat) default).Number)<a1.Number))then .ok (IntKind.wrap .i64 (s1+1))else .error (.inr s1))
def zec (a0:(List Aid)) (a1:Aid):((List Aid)×Int):=
 (match yab (y1n a0 a1) ((a0.length-((0:Int)).toNat)+1) 0 with|.error (.inl e)=>e|.error (.inr s1)=>(bif (decide (s1<(a0.length:Int)) && (((a0.getD ((s1).toNat) default).Number) == a1.Number))then([],4)else(bif ((a0.length:Int) == 24)then([],5)else(((zpb (subL a0 0 ((s1).toNat)))++[zve a1])++(zpb (subL a0 ((s1).toNat) (a0.length-(s1).toNat))),0)))|.ok _=>default)
namespace N40
theorem DD:DOk Tryz.prog (Go.Ab.DD [(41,dP D_zpb),(90,dP D_zve)]):=ya yal.e <| ya ymq.e <| yc _
abbrev dn:=cj @D_zpb.eq_1 <| @D_zve.eq_1
abbrev ol:=@yuc
theorem den (a0:(List Aid)) (a1:Aid) (hb0:a0.length<1099511627776) (hb1:∀ v∈a0,bdAid v) (hb2:bdAid a1) (hp0:a0.length<=1073741824):Den Tryz.prog 40 [encL 16 eAid a0,.ep (eAid a1)] (.tup [ownL 56 16 ytb ((zec a0 a1).1),.int .i64 ((zec a0 a1).2)]):=by
 generalize hR:zec a0 a1=r;unfold zec at hR;refine di Tryz.func40 Tryz.ntmps40 Tryz.results40 ?_;intro c hL hc hk;obtain⟨hL0,hL1,_⟩:=hL;have hw0:=lwA hL0;have hw1:∀ v∈a0,bwAid v:=fun v hv=>yr v ((yj hL0).2 v hv)
 have hw2:bwAid a1:=yr a1 hL1;clear hL0 hL1;simp only[pars,Nat.zero_add];iterate 2 refine rS ?_
 refine AWP.seq ?_;refine AWP.block ?_;generalize hz1:yab (y1n a0 a1) ((a0.length-((0:Int)).toNat)+1) 0=z1 at hR;refine AWP.whileW (y1n a0 a1) (fun s1=>⟨[(0,encL 16 eAid a0),(1,.ep (eAid a1)),(6,.int .i64 s1)],[]⟩) (fun s1=>0<=s1/\s1<=a0.length) (fun s1=>a0.length-(s1).toNat) ((a0.length-((0:Int)).toNat)+1) 0 [] hz1 m0 wt sm ?_;clear hz1;intro s1 k1 hW1 hm1 hz1;simp only[y1n]at hz1;refine rD 16 ?_;refine yb ?_ ?_<;>intro hb
 ·simp only[hb,cond_true]at hz1
  refine rS ?_;exact⟨_,[],ms,wt,hz1,sm⟩
 ·simp only[hb,cond_false]at hz1
  refine AWP.exit ?_;refine yf ?_;subst hz1;dsimp only at hR;refine rD 16 ?_;refine yb ?_ ?_<;>intro hb
  ·replace hR:=ct hR
   exact retR
  ·replace hR:=cf hR
   refine rS ?_;refine yb ?_ ?_<;>intro hb
   ·replace hR:=ct hR
    exact retR
   ·replace hR:=cf hR
    iterate 2 refine rS ?_
    exact retR
end N40
def D_zec : DF
 | [x0,x1]=>some (.tup [ownL 56 16 ytb ((zec (rdL dAid x0) (rdP dAid x1)).1),.int .i64 ((zec (rdL dAid x0) (rdP dAid x1)).2)],false,[wL 16 eAid dAid x0,wP eAid dAid x1,(rdL dAid x0).length<1099511627776,∀ v∈(rdL dAid x0),bdAid v,bdAid (rdP dAid x1),(rdL dAid x0).length<=1073741824])
 | _=>none
theorem yfx:OkD Tryz.prog 40 D_zec:=by unfold D_zec;exact dk N40.den
def aidL (v:Aid):Prop:=v.Light.Colors.length<9223372036854775808/\v.Sectors.length<9223372036854775807
theorem yis {α:Type} [Inhabited α] (l:List α) (n:Nat) (h:n<=l.length):subL l 0 n=l.take n:=by
 apply y4p
 ·simp[subL,h]
 ·intro i hi
  have hi:i<n:=by simpa [subL]using hi
  simp only[subL,Nat.zero_add];rw[List.getD_eq_getElem?_getD,List.getD_eq_getElem?_getD,List.getElem?_map,List.getElem?_range hi,List.getElem?_take,if_pos hi];simp[List.getD_eq_getElem?_getD]
theorem y9r {α:Type} [Inhabited α] (l:List α) (n:Nat) (h:n<=l.length):subL l n (l.length-n)=l.drop n:=by
 apply y4p
 ·simp[subL]
 ·intro i hi
  have hi:i<l.length-n:=by simpa [subL]using hi
  simp only[subL];rw[List.getD_eq_getElem?_getD,List.getD_eq_getElem?_getD,List.getElem?_map,List.getElem?_range hi,List.getElem?_drop];simp[List.getD_eq_getElem?_getD]
theorem y55 (l:List Aid) (a:Aid) (hl:l.length<9223372036854775808):yab (y1n l a) ((l.length-((0:Int)).toNat)+1) 0=.error (.inr (upto l a.Number:Int)):=by
 have:=y3u l a.Number hl (y1n l a) (fun s=>rfl) l [] (l.length-(0:Int).toNat+1) rfl (by simp);simp only[List.length_nil,Nat.zero_add]at this;have e0:((0:Nat):Int)=0:=rfl;simp only[e0]at this;exact this
def putA (l:List Aid) (a:Aid):List Aid:=l.take (upto l a.Number)++[a]++l.drop (upto l a.Number)
theorem y7m (l:List Aid) (a:Aid) (hl:l.length<9223372036854775808) :
  zec l a=bif (decide (upto l a.Number<l.length) && ((l.getD (upto l a.Number) default).Number == a.Number))then([],4)else(bif ((l.length:Int) == 24)then([],5)else(putA l a,0)):=by
 unfold zec;rw[y55 l a hl];have hu:=ypm l a.Number
 have e:(decide ((upto l a.Number:Int)<(l.length:Int)) && ((l.getD ((upto l a.Number:Int)).toNat default).Number == a.Number))=(decide (upto l a.Number<l.length) && ((l.getD (upto l a.Number) default).Number == a.Number)):=by
  rw[Int.toNat_natCast];congr 1
  exact decide_eq_decide.2 (by omega)
 simp only[yuc,yvm];rw[e];simp only[Int.toNat_natCast];rw[yis l _ hu,y9r l _ hu];rfl
theorem yq1 (a b:Sector):(a.From == b.From && (a.To == b.To && a.Color == b.Color))=decide (a=b):=by
 cases a;cases b
 apply Bool.eq_iff_iff.2;simp[Sector.mk.injEq]
theorem ykg (a b:List Sector):zcf a b=decide (a=b):=by
 unfold zcf;by_cases hl:a.length=b.length
 ·have h1:((a.length:Int) != (b.length:Int))=false:=by simp[hl]
  rw[h1,cond_false,yee (b:=yto a b) (fun j => !decide (a.getD j default=b.getD j default)) false (fun j u _ _=>by simp only[yto,yq1])];simp only[Nat.sub_zero,Nat.zero_add];rw[yz0 a b hl];by_cases h:a=b<;>simp[h]
 ·have h1:((a.length:Int) != (b.length:Int))=true:=by simp;omega
  have h2:¬ a=b:=fun e=>hl (by rw[e])
  rw[h1,cond_true,decide_eq_false h2]
def zrf (a0:(List Aid)) (a1:Aid):((List Aid)×Int):=
 (bif ((!(zgb a0)) || (!(zmc a1)))then([],1)else(bif (!((zt a0 a1.Number).2))then([],3)else((zbc a0).set (((zt a0 a1.Number).1).toNat) (zfd a1),0)))
namespace N51
theorem DD:DOk Tryz.prog (Go.Ab.DD [(20,dP D_zgb),(22,dP D_zfd),(24,dP D_zbc),(44,dP D_zmc),(46,dP D_zt)]):=ya y7g.e <| ya y4k.e <| ya ygl.e <| ya y9i.e <| ya y5q.e <| yc _
abbrev dn:=cj @D_zgb.eq_1 <| cj @D_zfd.eq_1 <| cj @D_zbc.eq_1 <| cj @D_zmc.eq_1 <| @D_zt.eq_1
abbrev ol:=@ylb
theorem gr {p:Prop} (h:p:=by(grind [ykc,yzq]);first|done|fail):p:=h
theorem den (a0:(List Aid)) (a1:Aid) (hb0:a0.length<1099511627776) (hb1:∀ v∈a0,bdAid v) (hb2:bdAid a1):Den Tryz.prog 51 [encL 16 eAid a0,.agg (eAid a1)] (.tup [ownL 56 16 ytb ((zrf a0 a1).1),.int .i64 ((zrf a0 a1).2)]):=by
 generalize hR:zrf a0 a1=r;unfold zrf at hR;refine di Tryz.func51 Tryz.ntmps51 Tryz.results51 ?_;intro c hL hc hk;obtain⟨hL0,hL1,_⟩:=hL;have hw0:=lwA hL0;have hw1:∀ v∈a0,bwAid v:=fun v hv=>yr v ((yj hL0).2 v hv)
 have hw2:bwAid a1:=yr a1 hL1;clear hL0 hL1;simp only[pars,Nat.zero_add];have hix:=yzq a0 a1.Number hw0;iterate 2 refine rS ?_
 refine yb ?_ ?_<;>intro hb
 ·replace hR:=ct hR
  exact retR
 ·replace hR:=cf hR
  iterate 2 refine rS ?_
  refine yb ?_ ?_<;>intro hb
  ·replace hR:=ct hR
   exact retR
  ·replace hR:=cf hR
   iterate 2 refine rS ?_
   exact retR
end N51
def D_zrf : DF
 | [x0,x1]=>some (.tup [ownL 56 16 ytb ((zrf (rdL dAid x0) (rdG dAid x1)).1),.int .i64 ((zrf (rdL dAid x0) (rdG dAid x1)).2)],false,[wL 16 eAid dAid x0,wG eAid dAid x1,(rdL dAid x0).length<1099511627776,∀ v∈(rdL dAid x0),bdAid v,bdAid (rdG dAid x1)])
 | _=>none
theorem ym6:OkD Tryz.prog 51 D_zrf:=by unfold D_zrf;exact dk N51.den
def zsf (a0:(List Aid)) (a1:Int):((List Aid)×Int):=
 (bif (!(zgb a0))then([],1)else(bif (!((zt a0 a1).2))then([],3)else(((zqg (zbc a0) ((zt a0 a1).1) (IntKind.wrap .i64 (((zt a0 a1).1)+1)))),0)))
namespace N52
theorem DD:DOk Tryz.prog (Go.Ab.DD [(102,dM [true,false,false] D_zqg),(20,dP D_zgb),(24,dP D_zbc),(46,dP D_zt)]):=ya y47.e <| ya y7g.e <| ya ygl.e <| ya y5q.e <| yc _
abbrev dn:=cj @D_zqg.eq_1 <| cj @D_zgb.eq_1 <| cj @D_zbc.eq_1 <| @D_zt.eq_1
abbrev ol:=@ylb
theorem gr {p:Prop} (h:p:=by(grind [ykc,yzq]);first|done|fail):p:=h
theorem den (a0:(List Aid)) (a1:Int) (hb0:a0.length<1099511627776) (hb1:∀ v∈a0,bdAid v):Den Tryz.prog 52 [encL 16 eAid a0,.int .i64 a1] (.tup [ownL 56 16 ytb ((zsf a0 a1).1),.int .i64 ((zsf a0 a1).2)]):=by
 generalize hR:zsf a0 a1=r;unfold zsf at hR;refine di Tryz.func52 Tryz.ntmps52 Tryz.results52 ?_;intro c hL hc hk;obtain⟨hL0,hL1,_⟩:=hL;have hw0:=lwA hL0;have hw1:∀ v∈a0,bwAid v:=fun v hv=>yr v ((yj hL0).2 v hv)
 clear hL0 hL1;simp only[pars,Nat.zero_add];have hix:=yzq a0 a1 hw0;iterate 2 refine rS ?_
 refine yb ?_ ?_<;>intro hb
 ·replace hR:=ct hR
  exact retR
 ·replace hR:=cf hR
  iterate 2 refine rS ?_
  refine yb ?_ ?_<;>intro hb
  ·replace hR:=ct hR
   exact retR
  ·replace hR:=cf hR
   exact retR
end N52
def D_zsf : DF
 | [x0,x1]=>some (.tup [ownL 56 16 ytb ((zsf (rdL dAid x0) (rdI x1)).1),.int .i64 ((zsf (rdL dAid x0) (rdI x1)).2)],false,[wL 16 eAid dAid x0,wI .i64 x1,(rdL dAid x0).length<1099511627776,∀ v∈(rdL dAid x0),bdAid v])
 | _=>none
theorem y48:OkD Tryz.prog 52 D_zsf:=by unfold D_zsf;exact dk N52.den
def zlg (a0:(List Aid)) (a1:Aid):((List Aid)×Int):=
 (bif decide ((zkb a0 a1.Number)<0)then([],3)else((zpb a0).set (((zkb a0 a1.Number)).toNat) (zve a1),0))
namespace N91
theorem DD:DOk Tryz.prog (Go.Ab.DD [(41,dP D_zpb),(90,dP D_zve),(92,dP D_zkb)]):=ya yal.e <| ya ymq.e <| ya ynr.e <| yc _
abbrev dn:=cj @D_zpb.eq_1 <| cj @D_zve.eq_1 <| @D_zkb.eq_1
abbrev ol:=@yuc
theorem gr {p:Prop} (h:p:=by(grind [ydp]);first|done|fail):p:=h
theorem den (a0:(List Aid)) (a1:Aid) (hb0:a0.length<1099511627776) (hb1:∀ v∈a0,bdAid v) (hb2:bdAid a1) (hp0:a0.length<=1073741824):Den Tryz.prog 91 [encL 16 eAid a0,.ep (eAid a1)] (.tup [ownL 56 16 ytb ((zlg a0 a1).1),.int .i64 ((zlg a0 a1).2)]):=by
 generalize hR:zlg a0 a1=r;unfold zlg at hR;refine di Tryz.func91 Tryz.ntmps91 Tryz.results91 ?_;intro c hL hc hk;obtain⟨hL0,hL1,_⟩:=hL;have hw0:=lwA hL0;have hw1:∀ v∈a0,bwAid v:=fun v hv=>yr v ((yj hL0).2 v hv)
 have hw2:bwAid a1:=yr a1 hL1;clear hL0 hL1;simp only[pars,Nat.zero_add];have hix:=ydp a0 a1.Number;iterate 3 refine rS ?_
 refine yb ?_ ?_<;>intro hb
 ·replace hR:=ct hR
  exact retR
 ·replace hR:=cf hR
  iterate 2 refine rS ?_
  exact retR
end N91
def D_zlg : DF
 | [x0,x1]=>some (.tup [ownL 56 16 ytb ((zlg (rdL dAid x0) (rdP dAid x1)).1),.int .i64 ((zlg (rdL dAid x0) (rdP dAid x1)).2)],false,[wL 16 eAid dAid x0,wP eAid dAid x1,(rdL dAid x0).length<1099511627776,∀ v∈(rdL dAid x0),bdAid v,bdAid (rdP dAid x1),(rdL dAid x0).length<=1073741824])
 | _=>none
theorem yv7:OkD Tryz.prog 91 D_zlg:=by unfold D_zlg;exact dk N91.den
def zmg (a0:(List Aid)) (a1:Int):((List Aid)×Int):=
 (bif decide ((zkb a0 a1)<0)then([],3)else((zpb (subL a0 0 (((zkb a0 a1)).toNat)))++(zpb (subL a0 ((IntKind.wrap .i64 ((zkb a0 a1)+1)).toNat) (a0.length-(IntKind.wrap .i64 ((zkb a0 a1)+1)).toNat))),0))
namespace N93
theorem DD:DOk Tryz.prog (Go.Ab.DD [(41,dP D_zpb),(92,dP D_zkb)]):=ya yal.e <| ya ynr.e <| yc _
abbrev dn:=cj @D_zpb.eq_1 <| @D_zkb.eq_1
abbrev ol:=@yuc
theorem gr {p:Prop} (h:p:=by(grind [ydp]);first|done|fail):p:=h
theorem den (a0:(List Aid)) (a1:Int) (hb0:a0.length<1099511627776) (hb1:∀ v∈a0,bdAid v) (hp0:a0.length<=1073741824):Den Tryz.prog 93 [encL 16 eAid a0,.int .i64 a1] (.tup [ownL 56 16 ytb ((zmg a0 a1).1),.int .i64 ((zmg a0 a1).2)]):=by
 generalize hR:zmg a0 a1=r;unfold zmg at hR;refine di Tryz.func93 Tryz.ntmps93 Tryz.results93 ?_;intro c hL hc hk;obtain⟨hL0,hL1,_⟩:=hL;have hw0:=lwA hL0;have hw1:∀ v∈a0,bwAid v:=fun v hv=>yr v ((yj hL0).2 v hv)
 clear hL0 hL1;simp only[pars,Nat.zero_add];have hix:=ydp a0 a1;iterate 3 refine rS ?_
 refine yb ?_ ?_<;>intro hb
 ·replace hR:=ct hR
  exact retR
 ·replace hR:=cf hR
  refine rS ?_;exact retR
end N93
def D_zmg : DF
 | [x0,x1]=>some (.tup [ownL 56 16 ytb ((zmg (rdL dAid x0) (rdI x1)).1),.int .i64 ((zmg (rdL dAid x0) (rdI x1)).2)],false,[wL 16 eAid dAid x0,wI .i64 x1,(rdL dAid x0).length<1099511627776,∀ v∈(rdL dAid x0),bdAid v,(rdL dAid x0).length<=1073741824])
 | _=>none
theorem ye9:OkD Tryz.prog 93 D_zmg:=by unfold D_zmg;exact dk N93.den
def ltA (a b:Aid):Prop:=a.Number<b.Number
theorem yin (a b c:Aid) (h:ltA a b) (k:ltA b c):ltA a c:=by unfold ltA at *;omega
def okA (l:List Aid):Prop:=(∀ v∈l,zw v=true)/\l.Pairwise ltA/\l.length<=24
theorem y4h (l:List Aid):zdc l=true↔okA l:=by
 unfold zdc;refine Iff.trans (ylv (b:=yti l) (fun j=>(!(zw (l.getD j default))) || (decide (0<(j:Int)) && decide (((l.getD j default).Number)<=((l.getD ((IntKind.wrap .i64 ((j:Int)-1)).toNat) default).Number)))) l.length _ (fun j u _=>rfl)) ?_;unfold okA;rw[yh3 ltA yin l,decide_eq_true_eq]
 have e:∀ j:Nat,0<j->j<l.length->l.length<9223372036854775808->(IntKind.wrap .i64 ((j:Int)-1)).toNat=j-1:=by
  intro j h0 h1 h2;rw[IntKind.wrap_i64];omega
 constructor
 ·rintro⟨h1,h2⟩
  have h2':l.length<=24:=by omega
  refine⟨fun v hv => ?_,fun j hj => ?_,h2'⟩
  ·obtain⟨j,hj,rfl⟩:=List.getElem_of_mem hv
   have:=h1 j hj;rw[Bool.or_eq_false_iff]at this;have h3:=this.1;rw[List.getD_eq_getElem?_getD,List.getElem?_eq_getElem hj]at h3;simpa using h3
  ·have:=h1 (j+1) hj
   rw[Bool.or_eq_false_iff,e (j+1) (by omega) hj (by omega)]at this;have h3:=this.2;simp only[Nat.add_sub_cancel]at h3;unfold ltA;simp only[Bool.and_eq_false_iff,decide_eq_false_iff_not]at h3;rcases h3 with h3|h3<;>omega
 ·rintro⟨h1,h2,h3⟩
  refine⟨fun j hj => ?_,by omega⟩;rw[Bool.or_eq_false_iff];constructor
  ·have:l.getD j default∈l:=by
    rw[List.getD_eq_getElem?_getD,List.getElem?_eq_getElem hj];exact List.getElem_mem hj
   rw[h1 _ this];rfl
  ·cases j with
   | zero=>simp
   | succ j=>
    rw[e (j+1) (by omega) hj (by omega)];have:=h2 j hj;unfold ltA at this;simp only[Nat.add_sub_cancel,Bool.and_eq_false_iff,decide_eq_false_iff_not];right;omega
theorem yl2 (l:List Aid) (n:Int):∀ j,j<upto l n->(l.getD j default).Number<n:=by
 unfold upto
 induction l with
 | nil=>intro j hj;simp at hj
 | cons x l ih=>
  intro j hj;rw[List.takeWhile_cons]at hj;by_cases h:x.Number<n
  ·rw[if_pos (decide_eq_true h)]at hj
   cases j with
   | zero=>exact h
   | succ j=>exact ih j (by simpa using hj)
  ·rw[if_neg (by simpa using h)]at hj
   simp at hj
theorem yg1 (l:List Aid) (n:Int):upto l n<l.length->¬ (l.getD (upto l n) default).Number<n:=by
 unfold upto
 induction l with
 | nil=>intro h;simp at h
 | cons x l ih=>
  intro hj;rw[List.takeWhile_cons]at hj ⊢;by_cases h:x.Number<n
  ·rw[if_pos (decide_eq_true h)]at hj ⊢
   exact ih (by simpa using hj)
  ·rw[if_neg (by simpa using h)]
   exact h
theorem yz1 (l:List Aid) (n:Int) (j:Nat) (hj:j<=l.length) (h1:∀ q,q<j->(l.getD q default).Number<n) (h2:j<l.length->¬ (l.getD j default).Number<n):upto l n=j:=by
 have hu:=ypm l n;rcases Nat.lt_trichotomy (upto l n) j with h|h|h
 ·exact absurd (h1 _ h) (yg1 l n (by omega))
 ·exact h
 ·exact absurd (yl2 l n j h) (h2 (by omega))
theorem ygg {l:List Aid} (h:l.Pairwise ltA) {i j:Nat} (hij:i<j) (hj:j<l.length):(l.getD i default).Number<(l.getD j default).Number:=by
 have:=List.pairwise_iff_getElem.1 h i j (by omega) hj hij;rw[List.getD_eq_getElem?_getD,List.getD_eq_getElem?_getD,List.getElem?_eq_getElem hj,List.getElem?_eq_getElem (show i<l.length by omega)];exact this
def hasN (l:List Aid) (n:Int):Bool:=decide (upto l n<l.length) && ((l.getD (upto l n) default).Number == n)
theorem yo2 (l:List Aid) (n:Int) (h:l.Pairwise ltA):zkb l n=bif hasN l n then(upto l n:Int)else -1:=by
 rcases y9o l n with⟨j,h1,h2,h3,h4⟩|⟨h1,h2⟩
 ·have e:upto l n=j:=yz1 l n j (by omega) (fun q hq=>by rw[<- h2];exact ygg h hq h1) (fun _=>by omega)
  have:hasN l n=true:=by
   unfold hasN;rw[e,h2];simp[h1]
  rw[this,h4,e];rfl
 ·have:hasN l n=false:=by
   unfold hasN
   cases hd:decide (upto l n<l.length)with
   | false=>rfl
   | true=>
    have:=h1 _ (of_decide_eq_true hd);simpa using this
  rw[this,h2];rfl
theorem ynh {l:List Aid} {n:Int} (h:hasN l n=true):upto l n<l.length/\(l.getD (upto l n) default).Number=n:=by
 unfold hasN at h;simpa using h
theorem ycj (l:List Aid) (n:Int) (hl:l.length<9223372036854775808):zt l n=((upto l n:Int),hasN l n):=ysy l n hl
def okP (P:Aid->Prop) (l:List Aid):Prop:=okA l/\∀ v∈l,P v
theorem yvu (P:Aid->Prop) {l t:List Aid} {a:Aid} (hl:okP P l) (ha:zw a=true/\P a) (h:zec l a=(t,0)):okP P t:=by
 have hl':=hl.1.2.2;rw[y7m l a (by omega)]at h;change (bif hasN l a.Number then([],4)else _)=_ at h
 cases hn:hasN l a.Number with
 | true=>rw[hn]at h;simp at h
 | false=>
  rw[hn,cond_false]at h
  cases h24:((l.length:Int) == 24)with
  | true=>rw[h24]at h;simp at h
  | false=>
   rw[h24,cond_false]at h;simp only[Prod.mk.injEq,and_true]at h;subst h
   have hne:l.length≠24:=by
    intro e;rw[e]at h24;simp at h24
   have hu:=ypm l a.Number
   have hmem:∀ v,v∈putA l a->v∈l\/v=a:=by
    intro v hv;simp only[putA,List.mem_append,List.mem_singleton]at hv;rcases hv with(hv|hv)|hv
    ·exact .inl (List.mem_of_mem_take hv)
    ·exact .inr hv
    ·exact .inl (List.mem_of_mem_drop hv)
   refine⟨⟨fun v hv => ?_,?_,?_⟩,fun v hv => ?_⟩
   ·rcases hmem v hv with h|rfl
    ·exact hl.1.1 v h
    ·exact ha.1
   ·have hpw:=hl.1.2.1
    have h0:l.take (upto l a.Number)++l.drop (upto l a.Number)=l:=List.take_append_drop _ _;have hp2:(l.take (upto l a.Number)++l.drop (upto l a.Number)).Pairwise ltA:=by rw[h0];exact hpw
    rw[List.pairwise_append]at hp2;obtain⟨p1,p2,p3⟩:=hp2
    have hlo:∀ x∈l.take (upto l a.Number),ltA x a:=by
     intro x hx;obtain⟨j,hj,rfl⟩:=List.getElem_of_mem hx;have hj':j<upto l a.Number:=by simp at hj;omega
     have:=yl2 l a.Number j hj';rw[List.getD_eq_getElem?_getD,List.getElem?_eq_getElem (show j<l.length by omega)]at this;simp only[List.getElem_take];exact this
    have hhi:∀ x∈l.drop (upto l a.Number),ltA a x:=by
     intro x hx;obtain⟨j,hj,rfl⟩:=List.getElem_of_mem hx;have hj':upto l a.Number+j<l.length:=by simp at hj;omega
     simp only[List.getElem_drop];have h1:=yg1 l a.Number (by omega)
     have h2:(l.getD (upto l a.Number) default).Number≠a.Number:=by
      unfold hasN at hn;rw[decide_eq_true (show upto l a.Number<l.length by omega)]at hn;simpa using hn
     unfold ltA
     have h3:(l[upto l a.Number+j]'hj').Number=(l.getD (upto l a.Number+j) default).Number:=by
      rw[List.getD_eq_getElem?_getD,List.getElem?_eq_getElem hj'];rfl
     rw[h3]
     cases j with
     | zero=>simp only[Nat.add_zero];omega
     | succ j=>
      have:=ygg hpw (show upto l a.Number<upto l a.Number+(j+1)by omega) hj';omega
    unfold putA;rw[List.append_assoc,List.pairwise_append];refine⟨p1,?_,fun x hx y hy => ?_⟩
    ·rw[List.singleton_append,List.pairwise_cons];exact⟨hhi,p2⟩
    ·rw[List.singleton_append,List.mem_cons]at hy
     rcases hy with rfl|hy
     ·exact hlo x hx
     ·exact p3 x hx y hy
   ·simp[putA];omega
   ·rcases hmem v hv with h|rfl
    ·exact hl.2 v h
    ·exact ha.2
theorem yb8 (P:Aid->Prop) {l t:List Aid} {a:Aid} (hl:okP P l) (ha:zw a=true/\P a) (h:zlg l a=(t,0)):okP P t:=by
 have hl':=hl.1.2.2;unfold zlg at h;rw[yo2 l _ hl.1.2.1]at h
 cases hn:hasN l a.Number with
 | false=>rw[hn]at h;simp at h
 | true=>
  rw[hn,cond_true,decide_eq_false (by omega),cond_false]at h;simp only[Int.toNat_natCast,yuc,yvm,Prod.mk.injEq,and_true]at h;subst h;obtain⟨hu,hnum⟩:=ynh hn
  have hmem:∀ v,v∈l.set (upto l a.Number) a->v∈l\/v=a:=fun v hv=>by
   rcases List.mem_or_eq_of_mem_set hv with h|h
   ·exact .inl h
   ·exact .inr h
  have hN:∀ j,((l.set (upto l a.Number) a).getD j default).Number=(l.getD j default).Number:=by
   intro j;by_cases hj:j=upto l a.Number
   ·subst hj
    rw[hnum,List.getD_eq_getElem?_getD,List.getElem?_set_self hu];rfl
   ·rw[List.getD_eq_getElem?_getD,List.getElem?_set_ne (by omega), <- List.getD_eq_getElem?_getD]
  refine⟨⟨fun v hv => ?_,?_,by simpa using hl'⟩,fun v hv => ?_⟩
  ·rcases hmem v hv with h|rfl
   ·exact hl.1.1 v h
   ·exact ha.1
  ·rw[yh3 ltA yin]
   intro j hj;unfold ltA;rw[hN,hN];exact ygg hl.1.2.1 (by omega) (by simpa using hj)
  ·rcases hmem v hv with h|rfl
   ·exact hl.2 v h
   ·exact ha.2
theorem y88 (P:Aid->Prop) {l t:List Aid} {n:Int} (hl:okP P l) (h:zmg l n=(t,0)):okP P t:=by
 have hl':=hl.1.2.2;unfold zmg at h;rw[yo2 l _ hl.1.2.1]at h
 cases hn:hasN l n with
 | false=>rw[hn]at h;simp at h
 | true=>
  have hu:=(ynh hn).1;have hw:IntKind.wrap .i64 ((upto l n:Int)+1)=((upto l n+1:Nat):Int):=by rw[IntKind.wrap_i64];omega
  rw[hn,cond_true,decide_eq_false (by omega),cond_false]at h;simp only[hw,Int.toNat_natCast,yuc,Prod.mk.injEq,and_true]at h;rw[yis l _ (by omega),y9r l _ (by omega)]at h;subst h
  have hsub:(l.take (upto l n)++l.drop (upto l n+1)).Sublist l:=by
   have h0:l.take (upto l n)++l.drop (upto l n)=l:=List.take_append_drop _ _;conv=>rhs;rw[<- h0]
   refine List.Sublist.append (List.Sublist.refl _) ?_;rw[<- List.drop_drop];exact List.drop_sublist _ _
  refine⟨⟨fun v hv=>hl.1.1 v (hsub.subset hv),hl.1.2.1.sublist hsub,?_⟩,fun v hv=>hl.2 v (hsub.subset hv)⟩;have:=hsub.length_le;omega
theorem yyv (a b:Character):zbf a b=zkh a b:=by
 unfold zbf zkh;rfl
theorem ymj (a b:Aid):zsg a b=zrc a b:=by
 unfold zsg zrc;rw[yyv];rfl
theorem yx3 (l:List Aid) (a:Aid) (hl:l.length<9223372036854775807) (hv:∀ v∈l,aidL v) (ha:aidL a):zqf l a=bif ((!(zdc l)) || (!(zw a)))then([],1)else(bif (hasN l a.Number)then([],4)else(bif ((l.length:Int) == 24)then([],5)else(putA l a,0))):=by
 unfold zqf;rw[ypc l hv,yqc a ha.1 ha.2,ycj l _ (by omega)];simp only[ylb,ykd,zpg,Int.toNat_natCast,putA]
theorem ya0 (l:List Aid) (b:Aid) (hl:l.length<9223372036854775807) (hv:∀ v∈l,aidL v) (hb:aidL b):zrf l b=bif ((!(zdc l)) || (!(zw b)))then([],1)else(bif (!(hasN l b.Number))then([],3)else(l.set (upto l b.Number) b,0)):=by
 unfold zrf;rw[ypc l hv,yqc b hb.1 hb.2,ycj l _ (by omega)];simp only[ylb,ykd,Int.toNat_natCast]
theorem ye0 (l:List Aid) (n:Int) (hl:l.length<9223372036854775807) (hv:∀ v∈l,aidL v):zsf l n=bif (!(zdc l))then([],1)else(bif (!(hasN l n))then([],3)else(l.take (upto l n)++l.drop (upto l n+1),0)):=by
 unfold zsf;have hu:=ypm l n;have hw:(IntKind.wrap .i64 ((upto l n:Int)+1)).toNat=upto l n+1:=by rw[IntKind.wrap_i64];omega
 rw[ypc l hv,ycj l _ (by omega)];simp only[ylb,zqg,Int.toNat_natCast,hw]
theorem y5cb (P:Aid->Prop) {l:List Aid} {a:Aid} (hl:okP P l) (ha:zw a=true/\P a) (hn:hasN l a.Number=true):okP P (l.set (upto l a.Number) a):=by
 have hl':=hl.1.2.2;obtain⟨hu,hnum⟩:=ynh hn
 have hmem:∀ v,v∈l.set (upto l a.Number) a->v∈l\/v=a:=fun v hv=>by
  rcases List.mem_or_eq_of_mem_set hv with h|h
  ·exact .inl h
  ·exact .inr h
 have hN:∀ j,((l.set (upto l a.Number) a).getD j default).Number=(l.getD j default).Number:=by
  intro j;by_cases hj:j=upto l a.Number
  ·subst hj
   rw[hnum,List.getD_eq_getElem?_getD,List.getElem?_set_self hu];rfl
  ·rw[List.getD_eq_getElem?_getD,List.getElem?_set_ne (by omega), <- List.getD_eq_getElem?_getD]
 refine⟨⟨fun v hv => ?_,?_,by simpa using hl'⟩,fun v hv => ?_⟩
 ·rcases hmem v hv with h|rfl
  ·exact hl.1.1 v h
  ·exact ha.1
 ·rw[yh3 ltA yin]
  intro j hj;unfold ltA;rw[hN,hN];exact ygg hl.1.2.1 (by omega) (by simpa using hj)
 ·rcases hmem v hv with h|rfl
  ·exact hl.2 v h
  ·exact ha.2
theorem yfbb (P:Aid->Prop) {l:List Aid} {n:Int} (hl:okP P l) (hn:hasN l n=true):okP P (l.take (upto l n)++l.drop (upto l n+1)):=by
 have hl':=hl.1.2.2
 have hsub:(l.take (upto l n)++l.drop (upto l n+1)).Sublist l:=by
  have h0:l.take (upto l n)++l.drop (upto l n)=l:=List.take_append_drop _ _;conv=>rhs;rw[<- h0]
  refine List.Sublist.append (List.Sublist.refl _) ?_;rw[<- List.drop_drop];exact List.drop_sublist _ _
 refine⟨⟨fun v hv=>hl.1.1 v (hsub.subset hv),hl.1.2.1.sublist hsub,?_⟩,fun v hv=>hl.2 v (hsub.subset hv)⟩;have:=hsub.length_le;omega
theorem y19 (P:Aid->Prop) {l:List Aid} {a:Aid} (hl:okP P l) (ha:zw a=true/\P a) (hn:hasN l a.Number=false) (h24:((l.length:Int) == 24)=false):okP P (putA l a):=by
 refine yvu P hl ha ?_;have:=hl.1.2.2;rw[y7m l a (by omega)];change (bif hasN l a.Number then _ else _)=_
 rw[hn,cond_false,h24,cond_false]
def znh (a0:Correction):Bool:=
 ((zdf a0.Kind) && (zmc a0.Aid))
namespace N23
theorem DD:DOk Tryz.prog (Go.Ab.DD [(26,dP D_zdf),(44,dP D_zmc)]):=ya y9x.e <| ya y9i.e <| yc _
abbrev dn:=cj @D_zdf.eq_1 <| @D_zmc.eq_1
theorem den (a0:Correction) (hb0:bdCorrection a0):Den Tryz.prog 23 [.agg (y8 a0)] (.bool (znh a0)):=by
 generalize hR:znh a0=r;unfold znh at hR;refine di Tryz.func23 Tryz.ntmps23 Tryz.results23 ?_;intro c hL hc hk;obtain⟨hL0,_⟩:=hL;have hw0:bwCorrection a0:=ymc a0 hL0;clear hL0;simp only[pars,Nat.zero_add];refine rS ?_;exact retR
end N23
def D_znh : DF
 | [x0]=>some (.bool (znh (rdG ym x0)),false,[wG y8 ym x0,bdCorrection (rdG ym x0)])
 | _=>none
theorem yu9:OkD Tryz.prog 23 D_znh:=by unfold D_znh;exact dk N23.den
def zud (a0:Correction) (a1:(List Aid)):((List Aid)×Int):=
 (bif (a0.Kind == 2)then((zqf a1 a0.Aid).1,(zqf a1 a0.Aid).2)else(bif (a0.Kind == 3)then((zrf a1 a0.Aid).1,(zrf a1 a0.Aid).2)else(bif ((zzd a1 a0.Aid).1 && (!((zzd a1 a0.Aid).2)))then([],6)else((zsf a1 a0.Aid.Number).1,(zsf a1 a0.Aid.Number).2))))
namespace N25
theorem DD:DOk Tryz.prog (Go.Ab.DD [(21,dP D_zzd),(50,dP D_zqf),(51,dP D_zrf),(52,dP D_zsf)]):=ya yyx.e <| ya y65.e <| ya ym6.e <| ya y48.e <| yc _
abbrev dn:=cj @D_zzd.eq_1 <| cj @D_zqf.eq_1 <| cj @D_zrf.eq_1 <| @D_zsf.eq_1
theorem den (a0:Correction) (a1:(List Aid)) (hb0:bdCorrection a0) (hb1:a1.length<1099511627776) (hb2:∀ v∈a1,bdAid v):Den Tryz.prog 25 [.agg (y8 a0),encL 16 eAid a1] (.tup [ownL 56 16 ytb ((zud a0 a1).1),.int .i64 ((zud a0 a1).2)]):=by
 generalize hR:zud a0 a1=r;unfold zud at hR;refine di Tryz.func25 Tryz.ntmps25 Tryz.results25 ?_;intro c hL hc hk;obtain⟨hL0,hL1,_⟩:=hL;have hw0:bwCorrection a0:=ymc a0 hL0;have hw1:=lwA hL1;have hw2:∀ v∈a1,bwAid v:=fun v hv=>yr v ((yj hL1).2 v hv)
 clear hL0 hL1;simp only[pars,Nat.zero_add];iterate 3 refine rS ?_
 refine yb ?_ ?_<;>intro hb
 ·replace hR:=ct hR
  exact retR
 ·replace hR:=cf hR
  refine rS ?_;refine yb ?_ ?_<;>intro hb
  ·replace hR:=ct hR
   exact retR
  ·replace hR:=cf hR
   iterate 2 refine rS ?_
   refine yb ?_ ?_<;>intro hb
   ·replace hR:=ct hR
    exact retR
   ·replace hR:=cf hR
    exact retR
end N25
def D_zud : DF
 | [x0,x1]=>some (.tup [ownL 56 16 ytb ((zud (rdG ym x0) (rdL dAid x1)).1),.int .i64 ((zud (rdG ym x0) (rdL dAid x1)).2)],false,[wG y8 ym x0,wL 16 eAid dAid x1,bdCorrection (rdG ym x0),(rdL dAid x1).length<1099511627776,∀ v∈(rdL dAid x1),bdAid v])
 | _=>none
theorem yx5:OkD Tryz.prog 25 D_zud:=by unfold D_zud;exact dk N25.den
theorem yyu (P:Aid->Prop) (l:List Aid) (a:Aid) (hl:l.length<9223372036854775807) (hv:∀ v∈l,P v) (ha:P a):(∀ v∈(zec l a).1,P v)/\(zec l a).1.length<=l.length+1:=by
 rw[y7m l a (by omega)]
 cases(decide (upto l a.Number<l.length) && ((l.getD (upto l a.Number) default).Number == a.Number))with
 | true=>exact⟨fun v hv=>by simp at hv,by simp⟩
 | false=>
  simp only[cond_false]
  cases((l.length:Int) == 24)with
  | true=>exact⟨fun v hv=>by simp at hv,by simp⟩
  | false=>
   simp only[cond_false,putA];refine⟨fun v h => ?_,by simp;omega⟩;simp only[List.mem_append,List.mem_singleton]at h;rcases h with(h|h)|h
   ·exact hv v (List.mem_of_mem_take h)
   ·subst h;exact ha
   ·exact hv v (List.mem_of_mem_drop h)
theorem yrcb {α:Type} (P:α->Prop) (l:List α) (i:Nat) (a:α) (hv:∀ v∈l,P v) (ha:P a):∀ v∈l.set i a,P v:=fun v h=>by
 rcases List.mem_or_eq_of_mem_set h with h|h
 ·exact hv v h
 ·subst h;exact ha
theorem yo5 (P:Aid->Prop) (l:List Aid) (a:Aid) (hl:l.length<9223372036854775807) (hv:∀ v∈l,P v) (ha:P a):(∀ v∈(zqf l a).1,P v)/\(zqf l a).1.length<=25:=by
 unfold zqf
 cases hb:((!(zgb l)) || (!(zmc a)))with
 | true=>exact⟨fun v hv=>by simp at hv,by simp⟩
 | false=>
  have hn:=ykc (a:=l) (by rw[Bool.or_eq_false_iff]at hb;simpa using hb.1);simp only[cond_false,ylb,ykd]
  cases(zt l a.Number).2 with
  | true=>exact⟨fun v hv=>by simp at hv,by simp⟩
  | false=>
   simp only[cond_false]
   cases((l.length:Int) == 24)with
   | true=>exact⟨fun v hv=>by simp at hv,by simp⟩
   | false=>
    simp only[cond_false,zpg];refine⟨fun v h => ?_,by simp;omega⟩;simp only[List.mem_append,List.mem_singleton]at h;rcases h with(h|h)|h
    ·exact hv v (List.mem_of_mem_take h)
    ·subst h;exact ha
    ·exact hv v (List.mem_of_mem_drop h)
theorem yu0 (P:Aid->Prop) (l:List Aid) (a:Aid) (hv:∀ v∈l,P v) (ha:P a):(∀ v∈(zrf l a).1,P v)/\(zrf l a).1.length<=25:=by
 unfold zrf
 cases hb:((!(zgb l)) || (!(zmc a)))with
 | true=>exact⟨fun v hv=>by simp at hv,by simp⟩
 | false=>
  have hn:=ykc (a:=l) (by rw[Bool.or_eq_false_iff]at hb;simpa using hb.1);simp only[cond_false,ylb,ykd]
  cases(!(zt l a.Number).2)with
  | true=>exact⟨fun v hv=>by simp at hv,by simp⟩
  | false=>
   simp only[cond_false];exact⟨yrcb P _ _ _ hv ha,by simp;omega⟩
theorem yw1 (P:Aid->Prop) (l:List Aid) (n:Int) (hl:l.length<9223372036854775807) (hv:∀ v∈l,P v):(∀ v∈(zsf l n).1,P v)/\(zsf l n).1.length<=25:=by
 unfold zsf
 cases hb:(!(zgb l))with
 | true=>exact⟨fun v hv=>by simp at hv,by simp⟩
 | false=>
  have hn:=ykc (a:=l) (by simpa using hb);simp only[cond_false,ylb];have hf:=yzq l n (by omega);have hw:IntKind.wrap .i64 ((zt l n).1+1)=(zt l n).1+1:=by rw[IntKind.wrap_i64];omega
  cases(!(zt l n).2)with
  | true=>exact⟨fun v hv=>by simp at hv,by simp⟩
  | false=>
   simp only[cond_false,zqg,hw];refine⟨fun v h => ?_,by simp;omega⟩;rcases List.mem_append.1 h with h|h
   ·exact hv v (List.mem_of_mem_take h)
   ·exact hv v (List.mem_of_mem_drop h)
end Go.Ab
