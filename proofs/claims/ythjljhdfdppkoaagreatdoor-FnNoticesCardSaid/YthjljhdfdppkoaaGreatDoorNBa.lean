/- A part of a proof: walks of functions and lemmas of our own. No conditions. -/
import Derived.Test.YthjljhdfdppkoaaGreatDoorNAz
import Derived.Test.YthjljhdfdppkoaaGreatDoorNAy
import Derived.Test.YthjljhdfdppkoaaGreatDoorNAq
import Derived.Test.YthjljhdfdppkoaaGreatDoorNAx
import Derived.Test.YthjljhdfdppkoaaGreatDoorNAu
import Derived.Test.YthjljhdfdppkoaaGreatDoorNAn
import Derived.Test.YthjljhdfdppkoaaGreatDoorNAs
import Derived.Test.YthjljhdfdppkoaaGreatDoorNAr
import Derived.Test.YthjljhdfdppkoaaGreatDoorNAp
import Derived.Test.YthjljhdfdppkoaaGreatDoorNAl
import Derived.Test.YthjljhdfdppkoaaGreatDoorNAo
import Derived.Test.YthjljhdfdppkoaaGreatDoorNAi
import Derived.Test.YthjljhdfdppkoaaGreatDoorNAt
import Derived.Test.YthjljhdfdppkoaaGreatDoorNAv
import Derived.Test.YthjljhdfdppkoaaGreatDoorNAk
set_option linter.unusedSectionVars false
set_option linter.unusedVariables false
set_option linter.unusedSimpArgs false
set_option maxHeartbeats 1000000
namespace Go.Ab
open Go Go.Proofs
theorem y0y (s:List UInt8) (h:zjb s=true):(47:UInt8)∉s:=by
 intro hm;obtain⟨i,hi,he⟩:=List.getElem_of_mem hm;unfold zjb at h
 cases hl:yh (yhf s) (s.length-0) 0 ()with
 | error e=>
  rw[hl]at h;obtain⟨j,t,_,_,h3⟩:=ywc hl;unfold yhf at h3;simp only[Bool.cond_eq_ite]at h3;split at h3
  ·cases h3;simp at h
  ·cases h3
 | ok u=>
  have hk:=ylg (fun k (_:Unit)=>∀ j,j<k->ztf ((s.getD j 0).toNat:Int)≠0) hl (by intro j hj;omega) (fun j u v _ _ hI hv=>by
   unfold yhf at hv;simp only[Bool.cond_eq_ite]at hv;split at hv
   ·cases hv
   ·rename_i hn
    simp only[Bool.or_eq_true,beq_iff_eq,not_or]at hn;intro q hq;by_cases hqj:q=j
    ·subst hqj;exact hn.1
    ·exact hI q (by omega))
  have:=hk i (by omega);rw[List.getD_eq_getElem?_getD,List.getElem?_eq_getElem hi,Option.getD_some,he]at this;exact this rfl
theorem yn7 (c:Character) (h:zmb c=true):(47:UInt8)∉ybk c:=by
 have hk:=ypg c h;obtain⟨g1,g2⟩:=y6e c h
 have h47:(47:UInt8)∉kt c.Kind:=by
  rcases(show c.Kind=1\/c.Kind=2\/c.Kind=3\/c.Kind=4\/c.Kind=5\/c.Kind=6\/c.Kind=7\/c.Kind=8 by omega)with e|e|e|e|e|e|e|e<;>rw[e]<;>decide
 unfold ybk;by_cases h8:c.Kind=8
 ·rw[if_pos h8]
  obtain⟨_,f2,f3,f4⟩:=ydr c h h8;obtain⟨x,hx⟩:=List.length_eq_one_iff.1 f2;rw[hx]at f3 f4 ⊢;simp only[List.getD_cons_zero]at f3 f4;intro hm;simp only[List.mem_append,List.mem_cons,List.not_mem_nil,or_false]at hm;rcases hm with hm|hm|hm|hm
  ·exact absurd hm (by decide)
  ·exact absurd hm (by decide)
  ·subst hm;exact absurd f3 (by decide)
  ·exact absurd hm (by decide)
 ·rw[if_neg h8]
  intro hm;rcases List.mem_append.1 hm with hm|hm
  ·exact h47 hm
  ·rcases List.mem_append.1 hm with hm|hm
   ·unfold grpT at hm
    split at hm
    ·simp at hm
    ·rcases List.mem_cons.1 hm with hm|hm
     ·exact absurd hm (by decide)
     ·rcases List.mem_append.1 hm with hm|hm
      ·refine yq2 47 (by decide) (c.Group.map Lib.itoa) (fun y hy => ?_) hm
       obtain⟨z,hz,rfl⟩:=List.mem_map.1 hy;exact y7e (by have:=g2 z hz;omega) 47 (by decide)
      ·rw[List.mem_singleton]at hm;exact absurd hm (by decide)
   ·split at hm
    ·simp at hm
    ·exact absurd hm (by decide)
theorem ysab (n:Int) (h1:0<=n) (h2:n<=600):(47:UInt8)∉perT n:=by
 unfold perT;split
 ·simp
 ·unfold secT
  have i1:=y7e (n:=n / 10) (by omega) 47 (by decide);have i2:=y7e (n:=n % 10) (by omega) 47 (by decide);split
  ·intro hm
   simp only[List.mem_append,List.mem_cons,List.not_mem_nil,or_false]at hm;rcases hm with hm|hm|hm
   ·exact absurd hm (by decide)
   ·exact i1 hm
   ·exact absurd hm (by decide)
  ·intro hm
   simp only[List.mem_append,List.mem_cons,List.not_mem_nil,or_false]at hm;rcases hm with hm|(hm|hm|hm)|hm
   ·exact absurd hm (by decide)
   ·exact i1 hm
   ·exact absurd hm (by decide)
   ·exact i2 hm
   ·exact absurd hm (by decide)
theorem ygab (c:Character) (h:zfb c=true) (hl:c.Colors.length<9223372036854775808):(47:UInt8)∉chrT c:=by
 have hf:=yzc c h;have hp:=y0e c h;have hp2:=(yzd c h).2.2;unfold chrT;intro hm;simp only[List.mem_append,List.mem_cons]at hm;rcases hm with hm|hm|hm|hm
 ·exact yn7 c hf hm
 ·exact absurd hm (by decide)
 ·exact y0y _ (y1j c h hl) hm
 ·exact ysab _ hp hp2 hm
theorem yjv (c : UInt8) (hc : c ≠ 44) : ∀ (xs : List (List UInt8)), (∀ x ∈ xs, c ∉ x) -> c ∉ Lib.join xs [44]
 | [],_=>by simp[Lib.join_nil]
 | x::r,h=>by
  rw[ygj]
  cases r with
  | nil=>exact h x (by simp)
  | cons y r=>
   simp only[joinC];have ih:=yjv c hc (y::r) (fun z hz=>h z (by simp[hz]));rw[ygj]at ih;intro hm;simp only[List.mem_append,List.mem_cons]at hm;rcases hm with hm|hm|hm
   ·exact h x (by simp) hm
   ·exact hc hm
   ·exact ih hm
theorem yt8 {l:List Sector} (h:zv l=true):(47:UInt8)∉scsT l:=by
 unfold scsT;split
 ·decide
 ·refine yjv 47 (by decide) _ (fun x hx => ?_)
  obtain⟨s,hs,rfl⟩:=List.mem_map.1 hx;obtain⟨i,hi,e⟩:=List.getElem_of_mem hs;have:=(yfh h).2 i hi;rw[List.getD_eq_getElem?_getD,List.getElem?_eq_getElem hi]at this;rw[<- e];exact y87 this 47 (by decide) (by decide)
theorem yv4 {s:List UInt8} (h:zjc s=true):(47:UInt8)∉s:=by
 obtain⟨h1,h2,h3⟩:=(yeh s).1 h;intro hm;obtain⟨j,hj,e⟩:=List.getElem_of_mem hm;have:=h3 j hj;have hg:s.getD j 0=47:=by simp[List.getD,List.getElem?_eq_getElem hj,e]
 rw[hg]at this;rcases this with⟨h,_⟩|⟨_,h,_⟩<;>simp at h
theorem ydk {n:Int} (h0:0<=n) (h1:n<=100000000):zj (zh n)=(n,true):=by
 show yqc (Lib.itoa n)=(n,true)
 rcases y2j (Lib.itoa n)with⟨m,hm,he,hr⟩|⟨hn,_⟩
 ·rw[hr,ylw he]
 ·exact absurd rfl (hn n (by unfold E18;omega))
theorem ysj {n:Int} (h0:0<=n) (c:UInt8) (hc:c.toNat<48):c∉zh n:=y7e h0 c (.inl hc)
def ptT (p:Point):List UInt8:=zh p.X++44::zh p.Y
theorem pt_I {p:Point} (h:zpd p=true):zqg p=ptT p/\(ptT p).length<=13/\(47:UInt8)∉ptT p/\zaf (ptT p)=(p,true):=by
 obtain⟨h1,h2,h3,h4⟩:=yk8 h;have hv:zyd p=true:=h;refine⟨?_,?_,?_,?_⟩
 ·unfold zqg ptT
  rw[hv];simp
 ·have k1:=yae p.X 5 (by omega) (by show p.X<(1000000:Int);omega)
  have k2:=yae p.Y 5 (by omega) (by show p.Y<(1000000:Int);omega);show(Lib.itoa p.X++44::Lib.itoa p.Y).length<=13;rw[List.length_append,List.length_cons];omega
 ·unfold ptT
  intro hm;rcases List.mem_append.1 hm with hm|hm
  ·exact ysj h1 47 (by decide) hm
  ·rcases List.mem_cons.1 hm with hm|hm
   ·cases hm
   ·exact ysj h3 47 (by decide) hm
 ·unfold zaf
  have e:zb (ptT p) [44]=(zh p.X,zh p.Y,true):=y4f _ _ 44 (ysj h1 44 (by decide));rw[e];simp only;rw[ydk h1 (by omega),ydk h3 (by omega)];have e2:({ X:=p.X,Y:=p.Y }:Point)=p:=rfl;simp only[e2,hv];rfl
theorem yi9:(allMarks.all fun m=>(decide (zfe (zrc m)=(m,true)) && !((zrc m).contains 47)) && decide ((zrc m).length<=40))=true:=by decide +kernel
theorem yxq {m:Mark} (h:zid m=true):zfe (zrc m)=(m,true)/\(47:UInt8)∉zrc m/\(zrc m).length<=40:=by
 have:=List.all_eq_true.1 yi9 m (y15 h);simp only[Bool.and_eq_true,decide_eq_true_eq,Bool.not_eq_true',List.contains_eq_mem,decide_eq_false_iff_not]at this;exact⟨this.1.1,this.1.2,this.2⟩
theorem sx_I {l:List Sector} (h:zv l=true):zzb (scsT l)=(l,true):=by
 by_cases hn:l=[]
 ·subst hn;rfl
 have hv:zgb l=true:=by
  have:=(yfh h).1;rw[yzb l (by omega)];exact h
 unfold zzb;rw[yacb hn,cond_false,ydw,ysq h hn,List.length_map]
 obtain⟨t,q1,q2⟩:=yrb (b:=yji (scsT l)) (fun i s=>s=l.take i) (k:=l.length-0) (i:=0) (s:=[]) rfl (fun j u _ hj hu=>by
  have hj:j<l.length:=by omega
  refine⟨_,?_,rfl⟩;subst hu;have h1:=yuz ((yfh h).2 j hj);have k2:=yae (l.getD j default).To 2 (by omega) (by show _<(1000:Int);omega);have h12:=(yfh h).1;unfold yji;rw[ydw,ysq h hn,ys9 l j hj,cutI];unfold scT;rw[y4f (Lib.itoa _) _ 45 (ysj h1.1 45 (by decide))];simp only
  have hne:(Lib.itoa (l.getD j default).To++(l.getD j default).Color == [])=false:=by
   rw[beq_eq_false_iff_ne];intro e;have:=congrArg List.length e;simp only[List.length_append,List.length_nil]at this;omega
  have tl:=yt1 (Lib.itoa (l.getD j default).To) (l.getD j default).Color h1.2.2.2.2.1 (by omega)
  have hf:zlb ((l.take j).length:Int) 12=true:=by
   unfold zlb;rw[List.length_take];simp;omega
  have r1:zj (Lib.itoa (l.getD j default).From)=((l.getD j default).From,true):=ydk h1.1 (by omega);have r2:zj (Lib.itoa (l.getD j default).To)=((l.getD j default).To,true):=ydk h1.2.2.1 (by omega);rw[hne,hf,tl.1,tl.2,r1,r2];simp only[Bool.not_true,Bool.or_self,cond_false]
  rw[yrm l j hj])
 rw[q1];simp only;have:t=l:=by rw[q2];simp
 rw[this,hv,ycu h];simp
theorem y0q {a:Aid} (h:zpb a=true) (hl:a.Light.Colors.length<9223372036854775808) (ht:zpg a=true):zfb a.Light=true:=by
 rw[yqk _ hl];exact(yke h).2.2.2.2.2.2.2.1 ht
theorem ap_I {a:Aid} (h:zpb a=true) (hl:a.Light.Colors.length<9223372036854775808) :
  (zh a.Number).length<=4/\(zqg a.At).length<=13/\(zh a.Height).length<=4/\(zrc a.Mark).length<=40/\(zpg a=true->(zwd a.Light).length<=40)/\(zad a.Sectors).length<=120/\(zh a.Intensity).length<=9/\a.Name.length<=10:=by
 obtain⟨n1,n2,nm,at1,h1,h2,mk,lt,sx,i1,i2⟩:=yke h;refine⟨yae a.Number 3 (by omega) (by show _<(10000:Int);omega),?_,yae a.Height 3 (by omega) (by show _<(10000:Int);omega),(yxq mk).2.2,fun hq => ?_,?_,yae a.Intensity 8 (by omega) (by show _<(1000000000:Int);omega),yhp nm⟩
 ·rw[(pt_I at1).1];exact(pt_I at1).2.1
 ·rw[yzl a.Light (y0q h hl hq)];exact yi8 (y0q h hl hq)
 ·rw[ycu sx];exact yf8 sx
def zbd (a0:Aid):(List UInt8):=
 (bif (!(zfc a0))then[]else(bif (zmf a0)then(zub [(zh a0.Number),a0.Name,(zqg a0.At),(zh a0.Height),(zrc a0.Mark),(zwd a0.Light),(zad a0.Sectors),(zh a0.Intensity)] [47])else(zub [(zh a0.Number),a0.Name,(zqg a0.At),(zh a0.Height),(zrc a0.Mark),[45],(zad a0.Sectors),(zh a0.Intensity)] [47])))
namespace N31
theorem DD:DOk Tryz.prog (Go.Ab.DD [(30,dP D_zh),(32,dP D_zub),(64,dP D_zfc),(67,dP D_zmf),(68,dP D_zwd),(69,dP D_zqg),(70,dP D_zrc),(71,dP D_zad)]):=ya yvf.e <| ya yai.e <| ya y1h.e <| ya y0x.e <| ya yxx.e <| ya yc7.e <| ya yvw.e <| ya ytv.e <| yf _
abbrev dn:=cj @D_zh.eq_1 <| cj @D_zub.eq_1 <| cj @D_zfc.eq_1 <| cj @D_zmf.eq_1 <| cj @D_zwd.eq_1 <| cj @D_zqg.eq_1 <| cj @D_zrc.eq_1 <| @D_zad.eq_1
theorem gr {p:Prop} (h:p:=by(grind [yrc]);first|done|fail):p:=h
theorem o0 {p:Prop} (h:p:=by(first|(have h9:=yyx hb0 (by assumption);have hr:=yke h9;obtain⟨l1,l2,l3,l4,hch,l6,l7,l8⟩:=ap_I h9 (Nat.lt_of_lt_of_le hb0.2.2.1.2.2 (by decide));have l5:=hch (by rw[<- hlt h9];assumption);(repeat' with_reducible apply And.intro)<;>(first|omega|exact hb0.2.1|exact hb0.2.2.2.1|exact hb0.2.2.2.2|exact hb0.2.2.1|exact hr.2.2.2.1|exact hr.2.2.2.2.2.2.2.2.1|(refine Nat.le_trans (y3i _ _) ?_;simp only[jl,List.length_cons,List.length_nil];omega)))|(have h9:=yyx hb0 (by assumption);have hr:=yke h9;obtain⟨l1,l2,l3,l4,hch,l6,l7,l8⟩:=ap_I h9 (Nat.lt_of_lt_of_le hb0.2.2.1.2.2 (by decide));skip;(repeat' with_reducible apply And.intro)<;>(first|omega|exact hb0.2.1|exact hb0.2.2.2.1|exact hb0.2.2.2.2|exact hb0.2.2.1|exact hr.2.2.2.1|exact hr.2.2.2.2.2.2.2.2.1|(refine Nat.le_trans (y3i _ _) ?_;simp only[jl,List.length_cons,List.length_nil];omega))));first|done|fail):p:=h
theorem lx {p:Prop} (h:p:=by(exact lxx);first|done|fail):p:=h
set_option maxHeartbeats 4000000 in
set_option maxRecDepth 20000 in
theorem den (a0:Aid) (hb0:bdAid a0):Den Tryz.prog 31 [.agg (eAid a0)] (.str (zbd a0)):=by
 generalize hR:zbd a0=r;unfold zbd at hR;refine di Tryz.func31 Tryz.ntmps31 Tryz.results31 ?_;intro c hL hc hk;obtain⟨hL0,_⟩:=hL;have hw0:bwAid a0:=y3 a0 hL0;clear hL0;simp only[pars,Nat.zero_add];have hlt:=fun h=>yo8 (a:=a0) h (Nat.lt_of_lt_of_le hb0.2.2.1.2.2 (by decide))
 iterate 2 refine rS ?_
 refine AWP.cond rfl (fun hb => ?_) (fun hb => ?_)
 ·replace hR:=ct hR
  refine rS ?_;refine AWP.ret ?_;subst hR;exact es
 ·replace hR:=cf hR
  iterate 2 refine rS ?_
  refine AWP.cond rfl (fun hb => ?_) (fun hb => ?_)
  ·replace hR:=ct hR
   refine rS ?_;refine rD 21 ?_;refine AWP.ret ?_;subst hR;exact es
  ·replace hR:=cf hR
   refine rD 21 ?_;refine AWP.ret ?_;subst hR;exact es
end N31
def D_zbd : DF
 | [x0]=>some (.str (zbd (rdG dAid x0)),false,[wG eAid dAid x0,bdAid (rdG dAid x0)])
 | _=>none
theorem y0w:OkD Tryz.prog 31 D_zbd:=by unfold D_zbd;exact dk N31.den
def zhf (a0:(List UInt8)):(Aid×Bool):=
 (bif (((zd a0 [47]).length:Int) != 8)then({ Number:=0,Name:=[],At:={ X:=0,Y:=0:Point },Height:=0,Mark:={ Kind:=0,Colors:=[],Shape:=[],Topmark:=[]:Mark },Light:={ Kind:=0,Group:=[],Letter:=[],Colors:=[],Period:=0:Character },Sectors:=[],Intensity:=0:Aid },false)else(bif (((zd a0 [47]).getD 5 default) == [45])then(bif ((!(((zj ((zd a0 [47]).getD 0 default)).2) == true && (((zaf ((zd a0 [47]).getD 2 default)).2) == true && (((zj ((zd a0 [47]).getD 3 default)).2) == true && (((zfe ((zd a0 [47]).getD 4 default)).2) == true && (true == true && (((zzb ((zd a0 [47]).getD 6 default)).2) == true && ((zj ((zd a0 [47]).getD 7 default)).2) == true))))))) || ((zbd ({ Number:=(zj ((zd a0 [47]).getD 0 default)).1,Name:=((zd a0 [47]).getD 1 default),At:=(zaf ((zd a0 [47]).getD 2 default)).1,Height:=(zj ((zd a0 [47]).getD 3 default)).1,Mark:=(zfe ((zd a0 [47]).getD 4 default)).1,Light:=(zrd ((zd a0 [47]).getD 5 default)).1,Sectors:=(zzb ((zd a0 [47]).getD 6 default)).1,Intensity:=(zj ((zd a0 [47]).getD 7 default)).1:Aid })) != a0))then({ Number:=0,Name:=[],At:={ X:=0,Y:=0:Point },Height:=0,Mark:={ Kind:=0,Colors:=[],Shape:=[],Topmark:=[]:Mark },Light:={ Kind:=0,Group:=[],Letter:=[],Colors:=[],Period:=0:Character },Sectors:=[],Intensity:=0:Aid },false)else({ Number:=(zj ((zd a0 [47]).getD 0 default)).1,Name:=((zd a0 [47]).getD 1 default),At:=(zaf ((zd a0 [47]).getD 2 default)).1,Height:=(zj ((zd a0 [47]).getD 3 default)).1,Mark:=(zfe ((zd a0 [47]).getD 4 default)).1,Light:=(zrd ((zd a0 [47]).getD 5 default)).1,Sectors:=(zzb ((zd a0 [47]).getD 6 default)).1,Intensity:=(zj ((zd a0 [47]).getD 7 default)).1:Aid },true))else(bif ((!(((zj ((zd a0 [47]).getD 0 default)).2) == true && (((zaf ((zd a0 [47]).getD 2 default)).2) == true && (((zj ((zd a0 [47]).getD 3 default)).2) == true && (((zfe ((zd a0 [47]).getD 4 default)).2) == true && (((zrd ((zd a0 [47]).getD 5 default)).2) == true && (((zzb ((zd a0 [47]).getD 6 default)).2) == true && ((zj ((zd a0 [47]).getD 7 default)).2) == true))))))) || ((zbd ({ Number:=(zj ((zd a0 [47]).getD 0 default)).1,Name:=((zd a0 [47]).getD 1 default),At:=(zaf ((zd a0 [47]).getD 2 default)).1,Height:=(zj ((zd a0 [47]).getD 3 default)).1,Mark:=(zfe ((zd a0 [47]).getD 4 default)).1,Light:=(zrd ((zd a0 [47]).getD 5 default)).1,Sectors:=(zzb ((zd a0 [47]).getD 6 default)).1,Intensity:=(zj ((zd a0 [47]).getD 7 default)).1:Aid })) != a0))then({ Number:=0,Name:=[],At:={ X:=0,Y:=0:Point },Height:=0,Mark:={ Kind:=0,Colors:=[],Shape:=[],Topmark:=[]:Mark },Light:={ Kind:=0,Group:=[],Letter:=[],Colors:=[],Period:=0:Character },Sectors:=[],Intensity:=0:Aid },false)else({ Number:=(zj ((zd a0 [47]).getD 0 default)).1,Name:=((zd a0 [47]).getD 1 default),At:=(zaf ((zd a0 [47]).getD 2 default)).1,Height:=(zj ((zd a0 [47]).getD 3 default)).1,Mark:=(zfe ((zd a0 [47]).getD 4 default)).1,Light:=(zrd ((zd a0 [47]).getD 5 default)).1,Sectors:=(zzb ((zd a0 [47]).getD 6 default)).1,Intensity:=(zj ((zd a0 [47]).getD 7 default)).1:Aid },true))))
namespace N28
theorem DD:DOk Tryz.prog (Go.Ab.DD [(24,dP D_zj),(31,dP D_zbd),(55,dP D_zd),(59,dP D_zaf),(60,dP D_zfe),(61,dP D_zrd),(62,dP D_zzb)]):=ya yhj.e <| ya y0w.e <| ya ysl.e <| ya y12.e <| ya y53.e <| ya yr6.e <| ya yc6.e <| yf _
abbrev dn:=cj @D_zj.eq_1 <| cj @D_zbd.eq_1 <| cj @D_zd.eq_1 <| cj @D_zaf.eq_1 <| cj @D_zfe.eq_1 <| cj @D_zrd.eq_1 <| @D_zzb.eq_1
set_option maxHeartbeats 4000000 in
set_option maxRecDepth 20000 in
theorem den (a0:(List UInt8)) (hb0:a0.length<1099511627776) (hp0:a0.length<=1048576):Den Tryz.prog 28 [.str a0] (.tup [.agg (y4b ((zhf a0).1)),.bool ((zhf a0).2)]):=by
 generalize hR:zhf a0=r;unfold zhf at hR;refine di Tryz.func28 Tryz.ntmps28 Tryz.results28 ?_;intro c hL hc hk;obtain⟨hL0,_⟩:=hL;have hw0:a0.length<9223372036854775808:=Nat.lt_succ_of_le hL0;clear hL0;simp only[pars,Nat.zero_add];have e1:=fun i=>ygp a0 47 i
 have s0_:=e1 0;have s1_:=e1 1;have s2_:=e1 2;have s3_:=e1 3;have s4_:=e1 4;have s5_:=e1 5;have s6_:=e1 6;have s7_:=e1 7;have b4:=yibb ((zd a0 [47]).getD 4 default) (by omega);have b5:=y3ab ((zd a0 [47]).getD 5 default);have b6:=yfbb ((zd a0 [47]).getD 6 default) (by omega);have b61:=b6.1;have b62:=b6.2;iterate 3 refine rS ?_
 refine AWP.cond rfl (fun hb => ?_) (fun hb => ?_)
 ·replace hR:=ct hR
  refine rS ?_;refine AWP.ret ?_;subst hR;exact es
 ·replace hR:=cf hR
  iterate 10 refine rS ?_
  refine AWP.cond rfl (fun hb => ?_) (fun hb => ?_)
  ·replace hR:=ct hR
   iterate 2 refine rS ?_
   refine AWP.cond rfl (fun hb => ?_) (fun hb => ?_)
   ·replace hR:=ct hR
    refine rS ?_;refine AWP.ret ?_;subst hR;exact es
   ·replace hR:=cf hR
    refine rS ?_;refine AWP.ret ?_;subst hR;exact es
  ·replace hR:=cf hR
   refine rS ?_;refine AWP.cond rfl (fun hb => ?_) (fun hb => ?_)
   ·replace hR:=ct hR
    refine rS ?_;refine AWP.ret ?_;subst hR;exact es
   ·replace hR:=cf hR
    refine rS ?_;refine AWP.ret ?_;subst hR;exact es
end N28
def D_zhf : DF
 | [x0]=>some (.tup [.agg (y4b ((zhf (rdS x0)).1)),.bool ((zhf (rdS x0)).2)],false,[wS x0,(rdS x0).length<1099511627776,(rdS x0).length<=1048576])
 | _=>none
theorem yl3:OkD Tryz.prog 28 D_zhf:=by unfold D_zhf;exact dk N28.den
theorem yry (s:List UInt8) (hs:s.length<=1048576):bdAid (zhf s).1:=by
 have e:=fun i=>ygp s 47 i
 have hk:∀ (N:Int) (p:Point) (h i:Int),bdAid ({ Number:=N,Name:=((zd s [47]).getD 1 default),At:=p,Height:=h,Mark:=(zfe ((zd s [47]).getD 4 default)).1,Light:=(zrd ((zd s [47]).getD 5 default)).1,Sectors:=(zzb ((zd s [47]).getD 6 default)).1,Intensity:=i:Aid }):=fun N p h i=>
  ⟨Nat.lt_of_le_of_lt (Nat.le_trans (e 1) hs) (by decide),yibb _ (Nat.le_trans (e 4) hs),y3ab _,yfbb _ (Nat.le_trans (e 6) hs)⟩
 unfold zhf;simp only[Bool.cond_eq_ite]
 (repeat' split)<;>first|exact hk _ _ _ _|decide
abbrev zAid:Aid:={ Number:=0,Name:=[],At:={ X:=0,Y:=0:Point },Height:=0,Mark:={ Kind:=0,Colors:=[],Shape:=[],Topmark:=[]:Mark },Light:={ Kind:=0,Group:=[],Letter:=[],Colors:=[],Period:=0:Character },Sectors:=[],Intensity:=0 }
abbrev zChr:Character:={ Kind:=0,Group:=[],Letter:=[],Colors:=[],Period:=0 }
theorem yhd {a:List Aid} (h:zob a=true):a.length<=24:=by
 unfold zob at h;split at h
 ·rename_i e he
  obtain⟨j,t,_,_,h3⟩:=ywc he;simp only[y4l,Bool.cond_eq_ite]at h3;split at h3
  ·cases h3;cases h
  ·cases h3
 ·unfold zlb at h;have:=of_decide_eq_true h;omega
theorem ygk {ρ α:Type} [Inhabited α] (l:List α) (b:Nat->List α->Except ρ (List α)) (hb:∀ i s,b i s=.ok (s++[l.getD i default])):yh b (l.length-0) 0 ([]:List α)=.ok l:=by
 obtain⟨t,h1,h2⟩:=yrb (b:=b) (fun i s=>s=l.take i) (k:=l.length-0) (i:=0) (s:=[]) (by simp) (by
  intro j u _ hj h;subst h
  exact⟨_,hb j _,(ytm l j (by omega)).symm⟩)
 rw[h1,h2];simp
theorem ykg (a:Aid):zod a=a:=by simp[zod,zoh,zph]
theorem ygc (l:List Aid):zxb l=l:=by
 unfold zxb;rw[show(List.replicate 0 (default:Aid))=[]from rfl,ygk l (y4m l) (fun i s=>by simp only[y4m,ykg])]
theorem yol (a:Aid):zre a=a:=by simp[zre,zrh,zqh]
theorem ybj (l:List Aid):zse l=l:=by
 unfold zse;rw[ygk l (ycn l) (fun i s=>by simp only[ycn,yol])]
def zbg (a0:(List Aid)) (a1:Aid):((List Aid)×Int):=
 (bif ((!(zob a0)) || (!(zfc a1)))then([],1)else(bif (zab a0 a1.Number).2 then([],4)else(bif ((a0.length:Int) == 24)then([],5)else(((zsg (zxb a0) ((zab a0 a1.Number).1) [zod a1])),0))))
namespace N149
theorem DD:DOk Tryz.prog (Go.Ab.DD [(210,dP D_zab),(211,dM [true,false,true] D_zsg),(64,dP D_zfc),(83,dP D_zod),(84,dP D_zob),(85,dP D_zxb)]):=ya ygo.e <| ya yu7.e <| ya y1h.e <| ya ytk.e <| ya ykk.e <| ya yok.e <| yf _
abbrev dn:=cj @D_zab.eq_1 <| cj @D_zsg.eq_1 <| cj @D_zfc.eq_1 <| cj @D_zod.eq_1 <| cj @D_zob.eq_1 <| @D_zxb.eq_1
abbrev ol:=@ygc
theorem gr {p:Prop} (h:p:=by(grind [ydm,yhd]);first|done|fail):p:=h
theorem o1 {p:Prop} (h:p:=by(first|(have h9:=yhd (a:=a0) (by simp_all);simp only[ob,ln,ol]at *;omega));first|done|fail):p:=h
theorem den (a0:(List Aid)) (a1:Aid) (hb0:a0.length<1099511627776) (hb1:∀ v∈a0,bdAid v) (hb2:bdAid a1):Den Tryz.prog 149 [encL 16 eAid a0,.agg (eAid a1)] (.tup [ownL 37 16 y4b ((zbg a0 a1).1),.int .i64 ((zbg a0 a1).2)]):=by
 generalize hR:zbg a0 a1=r;unfold zbg at hR;refine di Tryz.func149 Tryz.ntmps149 Tryz.results149 ?_;intro c hL hc hk;obtain⟨hL0,hL1,_⟩:=hL;have hw0:a0.length<9223372036854775808:=Nat.lt_succ_of_le (yb hL0).1;have hw1:∀ v∈a0,bwAid v:=fun v hv=>y3 v ((yb hL0).2 v hv)
 have hw2:bwAid a1:=y3 a1 hL1;clear hL0 hL1;simp only[pars,Nat.zero_add];have hix:=ydm a0 a1.Number hw0;iterate 2 refine rS ?_
 refine AWP.cond rfl (fun hb => ?_) (fun hb => ?_)
 ·replace hR:=ct hR
  refine rS ?_;refine AWP.ret ?_;subst hR;exact es
 ·replace hR:=cf hR
  iterate 2 refine rS ?_
  refine AWP.cond rfl (fun hb => ?_) (fun hb => ?_)
  ·replace hR:=ct hR
   refine rS ?_;refine AWP.ret ?_;subst hR;exact es
  ·replace hR:=cf hR
   refine rS ?_;refine AWP.cond rfl (fun hb => ?_) (fun hb => ?_)
   ·replace hR:=ct hR
    refine rS ?_;refine AWP.ret ?_;subst hR;exact es
   ·replace hR:=cf hR
    refine AWP.skip ?_;refine AWP.seq ?_;refine AWP.regP mixed G_ok DD hc 6 [0,2,3] (.alt 1 [] [2,3] (.alt 4 [] [2] (.alt 5 [] [2] .leaf .stop) .stop) .stop) (by kernel_rfl) (by kernel_rfl) (by kernel_rfl) (fun K hK => ?_);simp only[ypi,runN,runP,yjc,nthO,ea,absV,ybc,cput,gv,sv,dn,reduceCtorEq,reduceIte,Nat.reduceBEq,Nat.reduceAdd,Nat.reduceEqDiff,Nat.reduceLT,Nat.reduceLeDiff,Nat.reduceMul,Nat.reduceSub,BEq.rfl,beq_self_eq_true,Int.reduceToNat];repeat' apply And.intro
    all_goals first|refine hK _ ?_|exact ot
    all_goals clear hK K
    refine AWP.ret ?_;subst hR;exact es
end N149
def D_zbg : DF
 | [x0,x1]=>some (.tup [ownL 37 16 y4b ((zbg (rdL dAid x0) (rdG dAid x1)).1),.int .i64 ((zbg (rdL dAid x0) (rdG dAid x1)).2)],false,[wL 16 eAid dAid x0,wG eAid dAid x1,(rdL dAid x0).length<1099511627776,∀ v∈(rdL dAid x0),bdAid v,bdAid (rdG dAid x1)])
 | _=>none
theorem ys6:OkD Tryz.prog 149 D_zbg:=by unfold D_zbg;exact dk N149.den
def ysn (a0:(List Aid)) (a1:Aid) (s1:Int):Except (Sum (((List Aid)×Int)) (Int)) (Int):=
 (bif (decide (s1<(a0.length:Int)) && decide (((a0.getD ((s1).toNat) default).Number)<a1.Number))then .ok (IntKind.wrap .i64 (s1+1))else .error (.inr s1))
def zsc (a0:(List Aid)) (a1:Aid):((List Aid)×Int):=
 (match yeb (ysn a0 a1) ((a0.length-((0:Int)).toNat)+1) 0 with|.error (.inl e)=>e|.error (.inr s1)=>(bif (decide (s1<(a0.length:Int)) && (((a0.getD ((s1).toNat) default).Number) == a1.Number))then([],4)else(bif ((a0.length:Int) == 24)then([],5)else(((zse (subL a0 0 ((s1).toNat)))++[zre a1])++(zse (subL a0 ((s1).toNat) (a0.length-(s1).toNat))),0)))|.ok _=>default)
namespace N47
theorem DD:DOk Tryz.prog (Go.Ab.DD [(100,dP D_zre),(99,dP D_zse)]):=ya yfo.e <| ya yt7.e <| yf _
abbrev dn:=cj @D_zre.eq_1 <| @D_zse.eq_1
abbrev ol:=@ybj
theorem den (a0:(List Aid)) (a1:Aid) (hb0:a0.length<1099511627776) (hb1:∀ v∈a0,bdAid v) (hb2:bdAid a1) (hp0:a0.length<=1073741824):Den Tryz.prog 47 [encL 16 eAid a0,.ep (eAid a1)] (.tup [ownL 37 16 y4b ((zsc a0 a1).1),.int .i64 ((zsc a0 a1).2)]):=by
 generalize hR:zsc a0 a1=r;unfold zsc at hR;refine di Tryz.func47 Tryz.ntmps47 Tryz.results47 ?_;intro c hL hc hk;obtain⟨hL0,hL1,_⟩:=hL;have hw0:a0.length<9223372036854775808:=Nat.lt_succ_of_le (yb hL0).1;have hw1:∀ v∈a0,bwAid v:=fun v hv=>y3 v ((yb hL0).2 v hv)
 have hw2:bwAid a1:=y3 a1 hL1;clear hL0 hL1;simp only[pars,Nat.zero_add];iterate 2 refine rS ?_
 refine AWP.seq ?_;refine AWP.block ?_;generalize hz1:yeb (ysn a0 a1) ((a0.length-((0:Int)).toNat)+1) 0=z1 at hR;refine AWP.whileW (ysn a0 a1) (fun s1=>⟨[(0,encL 16 eAid a0),(1,.ep (eAid a1)),(6,.int .i64 s1)],[]⟩) (fun s1=>0<=s1/\s1<=a0.length) (fun s1=>a0.length-(s1).toNat) ((a0.length-((0:Int)).toNat)+1) 0 [] hz1 m0 wt sm ?_;clear hz1;intro s1 k1 hW1 hm1 hz1;simp only[ysn]at hz1;refine rD 16 ?_;refine AWP.cond rfl (fun hb => ?_) (fun hb => ?_)
 ·simp only[hb,cond_true]at hz1
  refine rS ?_;exact⟨_,[],ms,wt,hz1,sm⟩
 ·simp only[hb,cond_false]at hz1
  refine AWP.exit ?_;refine yd ?_;subst hz1;dsimp only at hR;refine rD 16 ?_;refine AWP.cond rfl (fun hb => ?_) (fun hb => ?_)
  ·replace hR:=ct hR
   refine rS ?_;refine AWP.ret ?_;subst hR;exact es
  ·replace hR:=cf hR
   refine rS ?_;refine AWP.cond rfl (fun hb => ?_) (fun hb => ?_)
   ·replace hR:=ct hR
    refine rS ?_;refine AWP.ret ?_;subst hR;exact es
   ·replace hR:=cf hR
    iterate 3 refine rS ?_
    refine AWP.ret ?_;subst hR;exact es
end N47
def D_zsc : DF
 | [x0,x1]=>some (.tup [ownL 37 16 y4b ((zsc (rdL dAid x0) (rdP dAid x1)).1),.int .i64 ((zsc (rdL dAid x0) (rdP dAid x1)).2)],false,[wL 16 eAid dAid x0,wP eAid dAid x1,(rdL dAid x0).length<1099511627776,∀ v∈(rdL dAid x0),bdAid v,bdAid (rdP dAid x1),(rdL dAid x0).length<=1073741824])
 | _=>none
theorem ys4:OkD Tryz.prog 47 D_zsc:=by unfold D_zsc;exact dk N47.den
def aidL (v:Aid):Prop:=v.Light.Colors.length<9223372036854775808/\v.Sectors.length<9223372036854775807
theorem y2e {α:Type} [Inhabited α] (l:List α) (n:Nat) (h:n<=l.length):subL l 0 n=l.take n:=by
 apply y1o
 ·simp[subL,h]
 ·intro i hi
  have hi:i<n:=by simpa [subL]using hi
  simp only[subL,Nat.zero_add];rw[List.getD_eq_getElem?_getD,List.getD_eq_getElem?_getD,List.getElem?_map,List.getElem?_range hi,List.getElem?_take,if_pos hi];simp[List.getD_eq_getElem?_getD]
theorem yk0 {α:Type} [Inhabited α] (l:List α) (n:Nat) (h:n<=l.length):subL l n (l.length-n)=l.drop n:=by
 apply y1o
 ·simp[subL]
 ·intro i hi
  have hi:i<l.length-n:=by simpa [subL]using hi
  simp only[subL];rw[List.getD_eq_getElem?_getD,List.getD_eq_getElem?_getD,List.getElem?_map,List.getElem?_range hi,List.getElem?_drop];simp[List.getD_eq_getElem?_getD]
theorem yg6 (l:List Aid) (a:Aid) (hl:l.length<9223372036854775808):yeb (ysn l a) ((l.length-((0:Int)).toNat)+1) 0=.error (.inr (upto l a.Number:Int)):=by
 have:=yzt l a.Number hl (ysn l a) (fun s=>rfl) l [] (l.length-(0:Int).toNat+1) rfl (by simp);simp only[List.length_nil,Nat.zero_add]at this;have e0:((0:Nat):Int)=0:=rfl;simp only[e0]at this;exact this
def putA (l:List Aid) (a:Aid):List Aid:=l.take (upto l a.Number)++[a]++l.drop (upto l a.Number)
theorem yrq (l:List Aid) (a:Aid) (hl:l.length<9223372036854775808) :
  zsc l a=bif (decide (upto l a.Number<l.length) && ((l.getD (upto l a.Number) default).Number == a.Number))then([],4)else(bif ((l.length:Int) == 24)then([],5)else(putA l a,0)):=by
 unfold zsc;rw[yg6 l a hl];have hu:=yqt l a.Number
 have e:(decide ((upto l a.Number:Int)<(l.length:Int)) && ((l.getD ((upto l a.Number:Int)).toNat default).Number == a.Number))=(decide (upto l a.Number<l.length) && ((l.getD (upto l a.Number) default).Number == a.Number)):=by
  rw[Int.toNat_natCast];congr 1
  exact decide_eq_decide.2 (by omega)
 simp only[ybj,yol];rw[e];simp only[Int.toNat_natCast];rw[y2e l _ hu,yk0 l _ hu];rfl
theorem yl1 (a b:Sector):(a.From == b.From && (a.To == b.To && a.Color == b.Color))=decide (a=b):=by
 cases a;cases b
 apply Bool.eq_iff_iff.2;simp[Sector.mk.injEq]
theorem yuf (a b:List Sector):zbf a b=decide (a=b):=by
 unfold zbf;by_cases hl:a.length=b.length
 ·have h1:((a.length:Int) != (b.length:Int))=false:=by simp[hl]
  rw[h1,cond_false,yid (b:=y1m a b) (fun j => !decide (a.getD j default=b.getD j default)) false (fun j u _ _=>by simp only[y1m,yl1])];simp only[Nat.sub_zero,Nat.zero_add];rw[yd1 a b hl];by_cases h:a=b<;>simp[h]
 ·have h1:((a.length:Int) != (b.length:Int))=true:=by simp;omega
  have h2:¬ a=b:=fun e=>hl (by rw[e])
  rw[h1,cond_true,decide_eq_false h2]
def zcg (a0:(List Aid)) (a1:Aid):((List Aid)×Int):=
 (bif ((!(zob a0)) || (!(zfc a1)))then([],1)else(bif (!((zab a0 a1.Number).2))then([],3)else((zxb a0).set (((zab a0 a1.Number).1).toNat) (zod a1),0)))
namespace N150
theorem DD:DOk Tryz.prog (Go.Ab.DD [(210,dP D_zab),(64,dP D_zfc),(83,dP D_zod),(84,dP D_zob),(85,dP D_zxb)]):=ya ygo.e <| ya y1h.e <| ya ytk.e <| ya ykk.e <| ya yok.e <| yf _
abbrev dn:=cj @D_zab.eq_1 <| cj @D_zfc.eq_1 <| cj @D_zod.eq_1 <| cj @D_zob.eq_1 <| @D_zxb.eq_1
abbrev ol:=@ygc
theorem gr {p:Prop} (h:p:=by(grind [ydm,yhd]);first|done|fail):p:=h
theorem den (a0:(List Aid)) (a1:Aid) (hb0:a0.length<1099511627776) (hb1:∀ v∈a0,bdAid v) (hb2:bdAid a1):Den Tryz.prog 150 [encL 16 eAid a0,.agg (eAid a1)] (.tup [ownL 37 16 y4b ((zcg a0 a1).1),.int .i64 ((zcg a0 a1).2)]):=by
 generalize hR:zcg a0 a1=r;unfold zcg at hR;refine di Tryz.func150 Tryz.ntmps150 Tryz.results150 ?_;intro c hL hc hk;obtain⟨hL0,hL1,_⟩:=hL;have hw0:a0.length<9223372036854775808:=Nat.lt_succ_of_le (yb hL0).1;have hw1:∀ v∈a0,bwAid v:=fun v hv=>y3 v ((yb hL0).2 v hv)
 have hw2:bwAid a1:=y3 a1 hL1;clear hL0 hL1;simp only[pars,Nat.zero_add];have hix:=ydm a0 a1.Number hw0;iterate 2 refine rS ?_
 refine AWP.cond rfl (fun hb => ?_) (fun hb => ?_)
 ·replace hR:=ct hR
  refine rS ?_;refine AWP.ret ?_;subst hR;exact es
 ·replace hR:=cf hR
  iterate 2 refine rS ?_
  refine AWP.cond rfl (fun hb => ?_) (fun hb => ?_)
  ·replace hR:=ct hR
   refine rS ?_;refine AWP.ret ?_;subst hR;exact es
  ·replace hR:=cf hR
   iterate 3 refine rS ?_
   refine AWP.ret ?_;subst hR;exact es
end N150
def D_zcg : DF
 | [x0,x1]=>some (.tup [ownL 37 16 y4b ((zcg (rdL dAid x0) (rdG dAid x1)).1),.int .i64 ((zcg (rdL dAid x0) (rdG dAid x1)).2)],false,[wL 16 eAid dAid x0,wG eAid dAid x1,(rdL dAid x0).length<1099511627776,∀ v∈(rdL dAid x0),bdAid v,bdAid (rdG dAid x1)])
 | _=>none
theorem y92:OkD Tryz.prog 150 D_zcg:=by unfold D_zcg;exact dk N150.den
def zdg (a0:(List Aid)) (a1:Int):((List Aid)×Int):=
 (bif (!(zob a0))then([],1)else(bif (!((zab a0 a1).2))then([],3)else(((ztg (zxb a0) ((zab a0 a1).1) (IntKind.wrap .i64 (((zab a0 a1).1)+1)))),0)))
namespace N151
theorem DD:DOk Tryz.prog (Go.Ab.DD [(210,dP D_zab),(212,dM [true,false,false] D_ztg),(84,dP D_zob),(85,dP D_zxb)]):=ya ygo.e <| ya y56.e <| ya ykk.e <| ya yok.e <| yf _
abbrev dn:=cj @D_zab.eq_1 <| cj @D_ztg.eq_1 <| cj @D_zob.eq_1 <| @D_zxb.eq_1
abbrev ol:=@ygc
theorem gr {p:Prop} (h:p:=by(grind [ydm,yhd]);first|done|fail):p:=h
theorem den (a0:(List Aid)) (a1:Int) (hb0:a0.length<1099511627776) (hb1:∀ v∈a0,bdAid v):Den Tryz.prog 151 [encL 16 eAid a0,.int .i64 a1] (.tup [ownL 37 16 y4b ((zdg a0 a1).1),.int .i64 ((zdg a0 a1).2)]):=by
 generalize hR:zdg a0 a1=r;unfold zdg at hR;refine di Tryz.func151 Tryz.ntmps151 Tryz.results151 ?_;intro c hL hc hk;obtain⟨hL0,hL1,_⟩:=hL;have hw0:a0.length<9223372036854775808:=Nat.lt_succ_of_le (yb hL0).1;have hw1:∀ v∈a0,bwAid v:=fun v hv=>y3 v ((yb hL0).2 v hv)
 clear hL0 hL1;simp only[pars,Nat.zero_add];have hix:=ydm a0 a1 hw0;iterate 2 refine rS ?_
 refine AWP.cond rfl (fun hb => ?_) (fun hb => ?_)
 ·replace hR:=ct hR
  refine rS ?_;refine AWP.ret ?_;subst hR;exact es
 ·replace hR:=cf hR
  iterate 2 refine rS ?_
  refine AWP.cond rfl (fun hb => ?_) (fun hb => ?_)
  ·replace hR:=ct hR
   refine rS ?_;refine AWP.ret ?_;subst hR;exact es
  ·replace hR:=cf hR
   refine rS ?_;refine AWP.ret ?_;subst hR;exact es
end N151
def D_zdg : DF
 | [x0,x1]=>some (.tup [ownL 37 16 y4b ((zdg (rdL dAid x0) (rdI x1)).1),.int .i64 ((zdg (rdL dAid x0) (rdI x1)).2)],false,[wL 16 eAid dAid x0,wI .i64 x1,(rdL dAid x0).length<1099511627776,∀ v∈(rdL dAid x0),bdAid v])
 | _=>none
theorem yh5:OkD Tryz.prog 151 D_zdg:=by unfold D_zdg;exact dk N151.den
def ltA (a b:Aid):Prop:=a.Number<b.Number
theorem y5z (a b c:Aid) (h:ltA a b) (k:ltA b c):ltA a c:=by unfold ltA at *;omega
def okA (l:List Aid):Prop:=(∀ v∈l,zpb v=true)/\l.Pairwise ltA/\l.length<=24
theorem y58 (l:List Aid):zzh l=true↔okA l:=by
 unfold zzh;refine Iff.trans (yah (b:=yex l) (fun j=>(!(zpb (l.getD j default))) || (decide (0<(j:Int)) && decide (((l.getD j default).Number)<=((l.getD ((IntKind.wrap .i64 ((j:Int)-1)).toNat) default).Number)))) l.length _ (fun j u _=>rfl)) ?_;unfold okA;rw[yzbb ltA y5z l,decide_eq_true_eq]
 have e:∀ j:Nat,0<j->j<l.length->l.length<9223372036854775808->(IntKind.wrap .i64 ((j:Int)-1)).toNat=j-1:=by
  intro j h0 h1 h2;rw[IntKind.wrap_i64];omega
 constructor
 ·rintro⟨h1,h2⟩
  have h2':l.length<=24:=by omega
  refine⟨fun v hv => ?_,fun j hj => ?_,h2'⟩
  ·obtain⟨j,hj,rfl⟩:=List.getElem_of_mem hv
   have:=h1 j hj;rw[Bool.or_eq_false_iff]at this;have h3:=this.1;rw[List.getD_eq_getElem?_getD,List.getElem?_eq_getElem hj]at h3;simpa using h3
  ·have:=h1 (j+1) hj
   rw[Bool.or_eq_false_iff,e (j+1) (by omega) hj (by omega)]at this;have h3:=this.2;simp only[Nat.add_sub_cancel]at h3;unfold ltA;simp only[Bool.and_eq_false_iff,decide_eq_false_iff_not]at h3;rcases h3 with h3|h3<;>omega
 ·rintro⟨h1,h2,h3⟩
  refine⟨fun j hj => ?_,by omega⟩;rw[Bool.or_eq_false_iff];constructor
  ·have:l.getD j default∈l:=by
    rw[List.getD_eq_getElem?_getD,List.getElem?_eq_getElem hj];exact List.getElem_mem hj
   rw[h1 _ this];rfl
  ·cases j with
   | zero=>simp
   | succ j=>
    rw[e (j+1) (by omega) hj (by omega)];have:=h2 j hj;unfold ltA at this;simp only[Nat.add_sub_cancel,Bool.and_eq_false_iff,decide_eq_false_iff_not];right;omega
theorem yv8 (l:List Aid) (n:Int):∀ j,j<upto l n->(l.getD j default).Number<n:=by
 unfold upto
 induction l with
 | nil=>intro j hj;simp at hj
 | cons x l ih=>
  intro j hj;rw[List.takeWhile_cons]at hj;by_cases h:x.Number<n
  ·rw[if_pos (decide_eq_true h)]at hj
   cases j with
   | zero=>exact h
   | succ j=>exact ih j (by simpa using hj)
  ·rw[if_neg (by simpa using h)]at hj
   simp at hj
theorem y79 (l:List Aid) (n:Int):upto l n<l.length->¬ (l.getD (upto l n) default).Number<n:=by
 unfold upto
 induction l with
 | nil=>intro h;simp at h
 | cons x l ih=>
  intro hj;rw[List.takeWhile_cons]at hj ⊢;by_cases h:x.Number<n
  ·rw[if_pos (decide_eq_true h)]at hj ⊢
   exact ih (by simpa using hj)
  ·rw[if_neg (by simpa using h)]
   exact h
theorem y68 {l:List Aid} (h:l.Pairwise ltA) {i j:Nat} (hij:i<j) (hj:j<l.length):(l.getD i default).Number<(l.getD j default).Number:=by
 have:=List.pairwise_iff_getElem.1 h i j (by omega) hj hij;rw[List.getD_eq_getElem?_getD,List.getD_eq_getElem?_getD,List.getElem?_eq_getElem hj,List.getElem?_eq_getElem (show i<l.length by omega)];exact this
def hasN (l:List Aid) (n:Int):Bool:=decide (upto l n<l.length) && ((l.getD (upto l n) default).Number == n)
def okP (P:Aid->Prop) (l:List Aid):Prop:=okA l/\∀ v∈l,P v
theorem yoab (P:Aid->Prop) {l t:List Aid} {a:Aid} (hl:okP P l) (ha:zpb a=true/\P a) (h:zsc l a=(t,0)):okP P t:=by
 have hl':=hl.1.2.2;rw[yrq l a (by omega)]at h;change (bif hasN l a.Number then([],4)else _)=_ at h
 cases hn:hasN l a.Number with
 | true=>rw[hn]at h;simp at h
 | false=>
  rw[hn,cond_false]at h
  cases h24:((l.length:Int) == 24)with
  | true=>rw[h24]at h;simp at h
  | false=>
   rw[h24,cond_false]at h;simp only[Prod.mk.injEq,and_true]at h;subst h
   have hne:l.length≠24:=by
    intro e;rw[e]at h24;simp at h24
   have hu:=yqt l a.Number
   have hmem:∀ v,v∈putA l a->v∈l\/v=a:=by
    intro v hv;simp only[putA,List.mem_append,List.mem_singleton]at hv;rcases hv with(hv|hv)|hv
    ·exact .inl (List.mem_of_mem_take hv)
    ·exact .inr hv
    ·exact .inl (List.mem_of_mem_drop hv)
   refine⟨⟨fun v hv => ?_,?_,?_⟩,fun v hv => ?_⟩
   ·rcases hmem v hv with h|rfl
    ·exact hl.1.1 v h
    ·exact ha.1
   ·have hpw:=hl.1.2.1
    have h0:l.take (upto l a.Number)++l.drop (upto l a.Number)=l:=List.take_append_drop _ _;have hp2:(l.take (upto l a.Number)++l.drop (upto l a.Number)).Pairwise ltA:=by rw[h0];exact hpw
    rw[List.pairwise_append]at hp2;obtain⟨p1,p2,p3⟩:=hp2
    have hlo:∀ x∈l.take (upto l a.Number),ltA x a:=by
     intro x hx;obtain⟨j,hj,rfl⟩:=List.getElem_of_mem hx;have hj':j<upto l a.Number:=by simp at hj;omega
     have:=yv8 l a.Number j hj';rw[List.getD_eq_getElem?_getD,List.getElem?_eq_getElem (show j<l.length by omega)]at this;simp only[List.getElem_take];exact this
    have hhi:∀ x∈l.drop (upto l a.Number),ltA a x:=by
     intro x hx;obtain⟨j,hj,rfl⟩:=List.getElem_of_mem hx;have hj':upto l a.Number+j<l.length:=by simp at hj;omega
     simp only[List.getElem_drop];have h1:=y79 l a.Number (by omega)
     have h2:(l.getD (upto l a.Number) default).Number≠a.Number:=by
      unfold hasN at hn;rw[decide_eq_true (show upto l a.Number<l.length by omega)]at hn;simpa using hn
     unfold ltA
     have h3:(l[upto l a.Number+j]'hj').Number=(l.getD (upto l a.Number+j) default).Number:=by
      rw[List.getD_eq_getElem?_getD,List.getElem?_eq_getElem hj'];rfl
     rw[h3]
     cases j with
     | zero=>simp only[Nat.add_zero];omega
     | succ j=>
      have:=y68 hpw (show upto l a.Number<upto l a.Number+(j+1)by omega) hj';omega
    unfold putA;rw[List.append_assoc,List.pairwise_append];refine⟨p1,?_,fun x hx y hy => ?_⟩
    ·rw[List.singleton_append,List.pairwise_cons];exact⟨hhi,p2⟩
    ·rw[List.singleton_append,List.mem_cons]at hy
     rcases hy with rfl|hy
     ·exact hlo x hx
     ·exact p3 x hx y hy
   ·simp[putA];omega
   ·rcases hmem v hv with h|rfl
    ·exact hl.2 v h
    ·exact ha.2
theorem ydv (a b:Character):zxe a b=zhh a b:=by
 unfold zxe zhh;rfl
theorem ylj (a b:Aid):zmg a b=zqd a b:=by
 unfold zmg zqd;rw[ydv];rfl
end Go.Ab
