/- A part of a proof: walks of functions and lemmas of our own. No conditions. -/
import Derived.Test.YtcaopagmcldjmaaGreatDoorABa
import Derived.Test.YtcaopagmcldjmaaGreatDoorAAx
import Derived.Test.YtcaopagmcldjmaaGreatDoorABb
import Derived.Test.YtcaopagmcldjmaaGreatDoorAAy
import Derived.Test.YtcaopagmcldjmaaGreatDoorAAt
import Derived.Test.YtcaopagmcldjmaaGreatDoorAAs
import Derived.Test.YtcaopagmcldjmaaGreatDoorABe
import Derived.Test.YtcaopagmcldjmaaGreatDoorAAv
import Derived.Test.YtcaopagmcldjmaaGreatDoorAAq
import Derived.Test.YtcaopagmcldjmaaGreatDoorAAu
import Derived.Test.YtcaopagmcldjmaaGreatDoorAAl
import Derived.Test.YtcaopagmcldjmaaGreatDoorAAw
set_option linter.unusedSectionVars false
set_option linter.unusedVariables false
set_option linter.unusedSimpArgs false
set_option maxHeartbeats 1000000
namespace Go.Ab
open Go Go.Proofs
theorem y5q {n:Nat} {x:Bool} {b:Nat->Unit->Except Bool Unit} (hb:∀ i,b i ()=.ok ()):(match yf b n 0 ()with|.error e=>e|.ok _=>x)=x:=by
 have:∀ k i,yf b k i ()=.ok ():=by
  intro k
  induction k with
  | zero=>intro i;rfl
  | succ k ih=>intro i;simp only[yf,hb i];exact ih (i+1)
 rw[this]
theorem y2v (a:Aid):zgg a a=true:=by
 unfold zgg zff;simp[yuf,ykj]
theorem yvr (l:List Aid):zmf l l=true:=by
 unfold zmf zyd;rw[show((l.length:Int) != (l.length:Int))=false by simp,cond_false]
 exact y5q fun i=>by
  unfold y2q;rw[y2v];rfl
theorem y4o (l:List Item):zxe l l=true:=by
 unfold zxe zwe;simp only[bne_self_eq_false,cond_false]
 exact y5q fun i=>by
  unfold yxq;simp
def itmA (a:Aid):Item:={ Key:=110::y7c a.Number,Text:=zdd a }
theorem ypq {l:List Aid} (h:zme l=true) (hq:∀ v∈l,AidQ v):zib l=(l.map itmA,0):=by
 unfold zib;rw[yld l (fun v hv=>(hq v hv).l),h];simp only[Bool.not_true,cond_false]
 obtain⟨t,q1,q2⟩:=yy (b:=yop l) (fun i s=>s=(l.take i).map itmA) (k:=l.length-0) (i:=0) (s:=([]:List Item)) (by simp) (fun j u _ hj hu=>by
  have hj:j<l.length:=by omega
  have hr:=y9b (y6m h j hj);refine⟨_,rfl,?_⟩;rw[<- yub l j hj,List.map_append,hu,y1u _ hr.1 hr.2.1]
  rfl)
 rw[q1];simp only;rw[q2];simp
theorem ywk {l:List Aid} (h:zme l=true) (hq:∀ v∈l,AidQ v):OkI (l.map itmA):=by
 obtain⟨h1,h2,h3⟩:=(y25 l).1 h;refine⟨?_,fun v hv => ?_,by rw[List.length_map];omega⟩
 ·refine List.pairwise_map.2 (List.Pairwise.imp_of_mem (fun {a b} ha hb hab => ?_) h2)
  exact ym1 (y9b (h1 a ha)).1 hab (y9b (h1 b hb)).2.1
 ·obtain⟨a,ha,rfl⟩:=List.mem_map.1 hv
  have hr:=y9b (h1 a ha);unfold zsc;rw[show ztb (itmA a).Key=true from yc7 a.Number hr.1 hr.2.1,Bool.true_and];have:=y6o (h1 a ha) (hq a ha).l.1;exact decide_eq_true (by show((zdd a).length:Int)<=400;omega)
theorem y0v {l:List Aid} (h:zme l=true) (hq:∀ v∈l,AidQ v):zuc (l.map itmA)=(l,0):=by
 have h3:=yvx h;unfold zuc;rw[y2e (ywk h hq)];simp only[Bool.not_true,cond_false]
 obtain⟨t,q1,q2⟩:=yy (b:=y2l (l.map itmA)) (fun i s=>s=l.take i) (k:=(l.map itmA).length-0) (i:=0) (s:=([]:List Aid)) (by simp) (fun j u _ hj hu=>by
  have hj:j<l.length:=by rw[List.length_map]at hj;omega
  have h1:=y6m h j hj;have hr:=y9b h1;have hl:(l.getD j default).Light.Colors.length<9223372036854775808:=(hq _ (by rw[getI hj];exact List.getElem_mem hj)).l.1
  have hg:(l.map itmA).getD j default=itmA (l.getD j default):=by
   rw[getI (by rw[List.length_map];exact hj),getI hj,List.getElem_map]
  refine⟨_,?_,(yub l j hj)⟩;unfold y2l;rw[hg];unfold itmA;simp only[yq6 _ hr.1 hr.2.1,ygo h1 hl,hu]
  simp)
 rw[q1];simp only;rw[q2];simp only[List.length_map,Nat.sub_zero,Nat.zero_add,List.take_length];rw[show zx (l.length:Int) 24=true by unfold zx;exact decide_eq_true (by omega)];rfl
def zed (a0:(List Int)):(List Aid):=
 (bnd ((zsb (zsd a0)).2) fun q2=>((zsb (zsd a0)).1))
namespace N13
theorem DD:DOk Tryz.prog (Go.Ab.DD [(18,dP D_zsd),(32,dM [true] D_zsb)]):=ya yyu.e <| ya y81.e <| yd _
theorem dn:type_of% (And.intro @D_zsd.eq_1 <| @D_zsb.eq_1):=by and_intros<;>intros<;>rfl
theorem o1 {p:Prop} (h:p:=by(first|(with_reducible exact SrcOk.mono hS0 (by omega))|(with_reducible exact SrcOk.mono hS_q2 (by omega)));first|done|fail):p:=h
set_option maxHeartbeats 1000000 in
set_option maxRecDepth 20000 in
theorem den (a0:(List Int)) (hp0:∀ v∈a0,0<=v/\v<=255):Den Tryz.prog 13 [encL 1 eIu8 a0] (encL 16 eAid (zed a0)):=by
 generalize hR:zed a0=r;unfold zed at hR;refine di Tryz.func13 Tryz.ntmps13 Tryz.results13 ?_;intro c hL hc hk;obtain⟨hL0,_⟩:=hL;have hw0:a0.length<9223372036854775808:=Nat.lt_succ_of_le (yc hL0).1;clear hL0;simp only[pars,Nat.zero_add];have hS0:SrcOk 0 (zsd a0):=⟨Int.le_refl _,by show(0:Int)<=0;omega,hp0⟩
 iterate 3 refine rS ?_
 generalize hq2:(zsb (zsd a0)).2=q2 at hR ⊢;replace hR:=bn hR;have hS_q2:SrcOk (4100) q2:=by rw[<- hq2];exact SrcOk.aidsD hS0 (by omega)
 refine AWP.ret ?_;subst hR;exact es
end N13
def D_zed : DF
 | [x0]=>some (encL 16 eAid (zed (rdL dIu8 x0)),false,[wL 1 eIu8 dIu8 x0,∀ v∈(rdL dIu8 x0),0<=v/\v<=255])
 | _=>none
theorem y7z:OkD Tryz.prog 13 D_zed:=by unfold D_zed;exact dk N13.den
theorem yc0 {a b:List Item} (ha:∀ v∈a,bdItem v) (hb:∀ v∈b,bdItem v):∀ v∈(zt a b).1,bdItem v:=by
 cases h:((!(zab a)) || (!(zab b)))with
 | true=>
  unfold zt;rw[h,cond_true];simp
 | false=>
  simp only[Bool.or_eq_false_iff,Bool.not_eq_false',ybd]at h;have h1:=ymp h.1;have h2:=ymp h.2;rw[ylj h1 h2]
  cases decide ((yve a b).length<=40)with
  | false=>simp
  | true=>
   intro v hv;rcases(ysh b a h1.r).2 v hv with hv|hv
   ·exact ha v hv
   ·exact hb v hv
theorem yjw {l:List Item} (h:∀ v∈l,zsc v=true):(y8 l).length<=500 * l.length:=by
 induction l with
 | nil=>simp[y8]
 | cons x l ih=>
  have h1:=ih (fun v hv=>h v (List.mem_cons_of_mem _ hv));have hx:=h x (by simp);have hn:=((y2b _).1 (ycy hx).1).2.1;have ht:=(ycy hx).2;have hc:=yls x;have d1:=y3b (x.Text.length:Int) (by omega) (by omega);have d2:=y3b (zz x) (by omega) (by omega);rw[yci,List.length_append];unfold ysg yio;simp only[List.length_append,List.length_cons,List.length_nil];omega
theorem y60 (l:List Item):(znb l).1.length<=30000:=by
 cases h:zab l with
 | false=>
  unfold znb;rw[h];simp
 | true=>
  rw[ybd]at h;have h1:=ymp h;have hn:=h1.n;have d1:=y3b (l.length:Int) (by omega) (by omega);have d2:=yjw h1.o;rw[y8u h1];simp only[y4d,List.length_append,List.length_cons,List.length_nil];omega
theorem ye0 {l:List Aid} (hq:∀ v∈l,AidQ v):(zib l).1.length<=40/\∀ v∈(zib l).1,bdItem v:=by
 cases h:zme l with
 | false=>
  unfold zib;rw[yld l (fun v hv=>(hq v hv).l),h];simp
 | true=>
  rw[ypq h hq];have h1:=ywk h hq;refine⟨h1.n,fun v hv => ?_⟩;have h2:=ycy (h1.o v hv);have h3:=((y2b _).1 h2.1).2.1;exact⟨Nat.lt_of_le_of_lt h3 (by decide),Nat.lt_of_le_of_lt h2.2 (by decide)⟩
theorem yim (code:List Int) (h:∀ v∈code,0<=v/\v<=255):(∀ v∈zed code,AidQ v)/\(zed code).length<=25:=by
 have h0:SrcOk 0 (zsd code):=⟨Int.le_refl _,by show(0:Int)<=0;omega,h⟩
 exact(y0x h0 (by omega)).2
theorem yty {a b:List Item} (h:((zt a b).2 == 0)=true):znb (zt a b).1=(y4d (zt a b).1.length++10::y8 (zt a b).1,0) /\
  zoe (znb (zt a b).1).1=((zt a b).1,0)/\zpe (znb (zt a b).1).1=([],0)/\zqe (znb (zt a b).1).1=((zt a b).1,0) /\
  zt (zt a b).1 b=((zt a b).1,0)/\∀ x∈b,zef (zt a b).1 x.Key=(x.Text,0):=by
 obtain⟨ha,hb,e,hm⟩:=y22 (by simpa using h:(zt a b).2=0);have hin:∀ x∈b,x∈yve a b:=ylu b a hb.r;rw[e,y8u hm];exact⟨rfl,yw0 hm,y0r hm,y3r hm,yos hm hb hin,fun x hx=>y1v hm (hin x hx)⟩
theorem y2x {l:List Aid} (hq:∀ v∈l,AidQ v):((zib l).2=0/\zuc (zib l).1=(l,0)/\zxf (zib l).1=true)\/((zib l).2≠0/\(zib l).1=[]):=by
 cases h:zme l with
 | false=>
  right
  unfold zib;rw[yld l (fun v hv=>(hq v hv).l),h];simp
 | true=>
  left
  rw[ypq h hq];exact⟨rfl,y0v h hq,yi4 (ywk h hq)⟩
def zyf (a0:(List Int)):Bool:=
 decide (1048576<(a0.length:Int))
namespace N4
theorem DD:DOk Tryz.prog (Go.Ab.DD []):=yd _
theorem den (a0:(List Int))  : Den Tryz.prog 4 [encL 1 eIu8 a0] (.bool (zyf a0)):=by
 generalize hR:zyf a0=r;unfold zyf at hR;refine di Tryz.func4 Tryz.ntmps4 Tryz.results4 ?_;intro c hL hc hk;obtain⟨hL0,_⟩:=hL;have hw0:a0.length<9223372036854775808:=Nat.lt_succ_of_le (yc hL0).1;clear hL0;simp only[pars,Nat.zero_add];iterate 2 refine rS ?_
 refine AWP.ret ?_;subst hR;exact es
end N4
def D_zyf : DF
 | [x0]=>some (.bool (zyf (rdL dIu8 x0)),false,[wL 1 eIu8 dIu8 x0])
 | _=>none
theorem y8z:OkD Tryz.prog 4 D_zyf:=by unfold D_zyf;exact dk N4.den
def yvj (a0:(List Int)) (a1:(List Int)) (i1:Nat) (s1:Unit):Except (Bool) (Unit):=
 (bif ((((zef ((zt ((zk a0).1) ((zk a0).2)).1) ((((zk a0).2).getD i1 default).Key)).2) != 0) || (((zef ((zt ((zk a0).1) ((zk a0).2)).1) ((((zk a0).2).getD i1 default).Key)).1) != ((((zk a0).2).getD i1 default).Text)))then .error false else .ok ())
def zzf (a0:(List Int)) (a1:(List Int)):Bool:=
 (bif ((zyf a0) || (zyf a1))then true else(bif (((zt ((zk a0).1) ((zk a0).2)).2) == 0)then(bif (((((((((((znb ((zt ((zk a0).1) ((zk a0).2)).1)).2) != 0) || (((zoe ((znb ((zt ((zk a0).1) ((zk a0).2)).1)).1)).2) != 0)) || (!(zxe ((zoe ((znb ((zt ((zk a0).1) ((zk a0).2)).1)).1)).1) ((zt ((zk a0).1) ((zk a0).2)).1)))) || (((zpe ((znb ((zt ((zk a0).1) ((zk a0).2)).1)).1)).2) != 0)) || ((((zpe ((znb ((zt ((zk a0).1) ((zk a0).2)).1)).1)).1).length:Int) != 0)) || (((zqe ((znb ((zt ((zk a0).1) ((zk a0).2)).1)).1)).2) != 0)) || (!(zxe ((zqe ((znb ((zt ((zk a0).1) ((zk a0).2)).1)).1)).1) ((zt ((zk a0).1) ((zk a0).2)).1)))) || (((zt ((zt ((zk a0).1) ((zk a0).2)).1) ((zk a0).2)).2) != 0)) || (!(zxe ((zt ((zt ((zk a0).1) ((zk a0).2)).1) ((zk a0).2)).1) ((zt ((zk a0).1) ((zk a0).2)).1))))then false else(match yf (yvj a0 a1) ((((zk a0).2).length)-0) 0 ()with|.error e=>e|.ok s1=>(bif (((zib (zed a1)).2) != 0)then((((zib (zed a1)).1).length:Int) == 0)else(((((zuc ((zib (zed a1)).1)).2) == 0) && (zmf ((zuc ((zib (zed a1)).1)).1) (zed a1))) && (zxf ((zib (zed a1)).1))))))else(bif (((zib (zed a1)).2) != 0)then((((zib (zed a1)).1).length:Int) == 0)else(((((zuc ((zib (zed a1)).1)).2) == 0) && (zmf ((zuc ((zib (zed a1)).1)).1) (zed a1))) && (zxf ((zib (zed a1)).1))))))
namespace N3
theorem DD:DOk Tryz.prog (Go.Ab.DD [(10,dP D_zqe),(11,dP D_zxe),(12,dP D_zef),(13,dP D_zed),(14,dP D_zib),(15,dP D_zuc),(16,dP D_zmf),(17,dP D_zxf),(4,dP D_zyf),(5,dP D_zk),(6,dP D_zt),(7,dP D_znb),(8,dP D_zoe),(9,dP D_zpe)]):=ya yi0.e <| ya ya0.e <| ya y9z.e <| ya y7z.e <| ya ye1.e <| ya yo0.e <| ya yh3.e <| ya yo3.e <| ya y8z.e <| ya yl5.e <| ya y15.e <| ya yd2.e <| ya yc1.e <| ya yb3.e <| yd _
theorem dn:type_of% (And.intro @D_zqe.eq_1 <| And.intro @D_zxe.eq_1 <| And.intro @D_zef.eq_1 <| And.intro @D_zed.eq_1 <| And.intro @D_zib.eq_1 <| And.intro @D_zuc.eq_1 <| And.intro @D_zmf.eq_1 <| And.intro @D_zxf.eq_1 <| And.intro @D_zyf.eq_1 <| And.intro @D_zk.eq_1 <| And.intro @D_zt.eq_1 <| And.intro @D_znb.eq_1 <| And.intro @D_zoe.eq_1 <| @D_zpe.eq_1):=by and_intros<;>intros<;>rfl
theorem gr {p:Prop} (h:p:=by(grind [yj4]);first|done|fail):p:=h
theorem o0 {p:Prop} (h:p:=by(first|((repeat' with_reducible apply And.intro)<;>first|with_reducible assumption|omega|(intros;with_reducible assumption)|(intros;omega)|exact hbk _)|(obtain⟨e1,e2,e3,e4,e5,e6⟩:=hone (by assumption);simp only[e2,e3,e4,e5];(repeat' with_reducible apply And.intro)<;>first|with_reducible assumption|omega|exact hbk _));first|done|fail):p:=h
set_option maxHeartbeats 4000000 in
set_option maxRecDepth 20000 in
theorem _root_.Go.Ab.zzf_den (a0:(List Int)) (a1:(List Int)) (hp0:∀ v∈a0,0<=v/\v<=255) (hp1:∀ v∈a1,0<=v/\v<=255):Den Tryz.prog 3 [encL 1 eIu8 a0,encL 1 eIu8 a1] (.bool (zzf a0 a1)):=by
 generalize hR:zzf a0 a1=r;unfold zzf at hR;refine di Tryz.func3 Tryz.ntmps3 Tryz.results3 ?_;intro c hL hc hk;obtain⟨hL0,hL1,_⟩:=hL;have hw0:a0.length<9223372036854775808:=Nat.lt_succ_of_le (yc hL0).1;have hw1:a1.length<9223372036854775808:=Nat.lt_succ_of_le (yc hL1).1;clear hL0 hL1;simp only[pars,Nat.zero_add];obtain⟨⟨hm1,hm2⟩,hm3,hm4⟩:=yww a0 hp0;obtain⟨hd1,hd2⟩:=yim a1 hp1;have hd3:∀ v∈zed a1,bdAid v:=fun v h=>(hd1 v h).1
 have hml:=yj4 ((zk a0).1) ((zk a0).2);have hmb:=yc0 hm2 hm4;have hsl:=y60 (zt ((zk a0).1) ((zk a0).2)).1;obtain⟨hi1,hi2⟩:=ye0 hd1;have hone:=fun h=>yty (a:=(zk a0).1) (b:=(zk a0).2) h
 have htwo:=y2x hd1;have hbk:∀ i:Nat,((zk a0).2.getD i default).Key.length<1099511627776:=fun i=>(y3c (p:=bdItem) hm4 (by decide) i).1
 iterate 2 refine rS ?_
 refine AWP.cond rfl (fun hb => ?_) (fun hb => ?_)
 ·replace hR:=ct hR
  refine rS ?_;refine AWP.ret ?_;subst hR;exact es
 ·replace hR:=cf hR
  iterate 3 refine rS ?_
  refine AWP.cond rfl (fun hb => ?_) (fun hb => ?_)
  ·replace hR:=ct hR
   iterate 6 refine rS ?_
   refine AWP.cond rfl (fun hb => ?_) (fun hb => ?_)
   ·replace hR:=ct hR
    refine rS ?_;refine AWP.ret ?_;subst hR;exact es
   ·replace hR:=cf hR
    refine rS ?_;refine AWP.block ?_;generalize hz1:yf (yvj a0 a1) ((((zk a0).2).length)-0) 0 ()=z1 at hR;refine AWP.range (yvj a0 a1) (fun i1 s1=>⟨[(1,encL 1 eIu8 a1),(6,.ref 0 2 0 (((zk a0).2).length)),(7,.ref 1 2 0 (((zt ((zk a0).1) ((zk a0).2)).1).length)),(19,.int .i64 (i1:Int))],[.arr 38 2 ((zk a0).2).length (fun j=>yr (((zk a0).2).getD j default)),.arr 38 2 ((zt ((zk a0).1) ((zk a0).2)).1).length (fun j=>yr (((zt ((zk a0).1) ((zk a0).2)).1).getD j default))]⟩) (fun i1 s1=>True) ((((zk a0).2).length)) 0 () [1,2] hz1 ot wt sm ?_;clear hz1;intro i1 s1 hi1 hW1 hz1;refine rS ?_;refine AWP.cond rfl (fun hb => ?_) (fun hb => ?_)
    ·have hlt1:i1<(((zk a0).2).length):=ot
     rw[yk hlt1]at hz1;simp only[yvj]at hz1;iterate 2 refine rS ?_
     refine AWP.cond rfl (fun hb => ?_) (fun hb => ?_)
     ·simp only[hb,cond_true]at hz1
      refine rS ?_;refine AWP.ret ?_;subst hz1;dsimp only at hR;subst hR;exact es
     ·simp only[hb,cond_false]at hz1
      refine rS ?_;exact⟨_,[0,1],hlt1,wt,hz1,sm⟩
    ·obtain rfl:i1=(((zk a0).2).length):=ot
     rw[yl (Nat.le_refl _)]at hz1;subst hz1;dsimp only at hR;refine AWP.exit ?_;refine yb ?_;iterate 3 refine rS ?_
     refine AWP.cond rfl (fun hb => ?_) (fun hb => ?_)
     ·replace hR:=ct hR
      refine rS ?_;refine AWP.ret ?_;subst hR;exact es
     ·replace hR:=cf hR
      iterate 2 refine rS ?_
      refine AWP.ret ?_;subst hR;exact es
  ·replace hR:=cf hR
   iterate 3 refine rS ?_
   refine AWP.cond rfl (fun hb => ?_) (fun hb => ?_)
   ·replace hR:=ct hR
    refine rS ?_;refine AWP.ret ?_;subst hR;exact es
   ·replace hR:=cf hR
    iterate 2 refine rS ?_
    refine AWP.ret ?_;subst hR;exact es
end N3
theorem yg3 (l:List Aid) (hq:∀ v∈l,AidQ v):(bif (((zib l).2) != 0)then((((zib l).1).length:Int) == 0)else(((((zuc ((zib l).1)).2) == 0) && (zmf ((zuc ((zib l).1)).1) l)) && (zxf ((zib l).1))))=true:=by
 rcases y2x hq with⟨h1,h2,h3⟩|⟨h1,h2⟩
 ·rw[h1,h2,h3,yvr]
  rfl
 ·rw[show((zib l).2 != 0)=true by simpa using h1,h2]
  rfl
theorem yhn (a0 a1:List Int) (hb0:∀ v∈a0,0<=v/\v<=255) (hb1:∀ v∈a1,0<=v/\v<=255):zzf a0 a1=true:=by
 have hq:=(yim a1 hb1).1;have ht:=yg3 (zed a1) hq;unfold zzf
 cases((zyf a0) || (zyf a1))with
 | true=>rfl
 | false=>
  rw[cond_false]
  cases h:((zt ((zk a0).1) ((zk a0).2)).2 == 0)with
  | false=>rw[cond_false];exact ht
  | true=>
   obtain⟨e1,e2,e3,e4,e5,e6⟩:=yty h;rw[cond_true]
   have hc:(((((((((((znb ((zt ((zk a0).1) ((zk a0).2)).1)).2) != 0) || (((zoe ((znb ((zt ((zk a0).1) ((zk a0).2)).1)).1)).2) != 0)) || (!(zxe ((zoe ((znb ((zt ((zk a0).1) ((zk a0).2)).1)).1)).1) ((zt ((zk a0).1) ((zk a0).2)).1)))) || (((zpe ((znb ((zt ((zk a0).1) ((zk a0).2)).1)).1)).2) != 0)) || ((((zpe ((znb ((zt ((zk a0).1) ((zk a0).2)).1)).1)).1).length:Int) != 0)) || (((zqe ((znb ((zt ((zk a0).1) ((zk a0).2)).1)).1)).2) != 0)) || (!(zxe ((zqe ((znb ((zt ((zk a0).1) ((zk a0).2)).1)).1)).1) ((zt ((zk a0).1) ((zk a0).2)).1)))) || (((zt ((zt ((zk a0).1) ((zk a0).2)).1) ((zk a0).2)).2) != 0)) || (!(zxe ((zt ((zt ((zk a0).1) ((zk a0).2)).1) ((zk a0).2)).1) ((zt ((zk a0).1) ((zk a0).2)).1))))=false:=by
    rw[e2,e3,e4,e5,y4o,congrArg Prod.snd e1];rfl
   rw[hc,cond_false]
   have hlp:∀ (k i:Nat),i+k=(zk a0).2.length->yf (yvj a0 a1) k i ()=.ok ():=by
    intro k
    induction k with
    | zero=>intro i _;rfl
    | succ k ih=>
     intro i hi;have hi2:i<(zk a0).2.length:=by omega
     have hx:(zk a0).2.getD i default∈(zk a0).2:=by rw[getI hi2];exact List.getElem_mem hi2
     have e7:=e6 _ hx
     have hb:yvj a0 a1 i ()=.ok ():=by
      unfold yvj;rw[e7];simp
     simp only[yf,hb];exact ih (i+1) (by omega)
   rw[hlp _ 0 (by omega)];exact ht
end Go.Ab
