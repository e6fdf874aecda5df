/- A part of a proof: walks of functions and lemmas of our own. No conditions. -/
import Derived.Test.YthadgghdkkapaaaGreatDoorPAl
import Derived.Test.YthadgghdkkapaaaGreatDoorPAi
import Derived.Test.YthadgghdkkapaaaGreatDoorPAn
import Derived.Test.YthadgghdkkapaaaGreatDoorPAq
import Derived.Test.YthadgghdkkapaaaGreatDoorPAt
import Derived.Test.YthadgghdkkapaaaGreatDoorPAs
import Derived.Test.YthadgghdkkapaaaGreatDoorPAv
import Derived.Test.YthadgghdkkapaaaGreatDoorPAp
import Derived.Test.YthadgghdkkapaaaGreatDoorPAr
import Derived.Test.YthadgghdkkapaaaGreatDoorPAk
import Derived.Test.YthadgghdkkapaaaGreatDoorPAo
set_option linter.unusedSectionVars false
set_option linter.unusedVariables false
set_option linter.unusedSimpArgs false
set_option maxHeartbeats 1000000
namespace Go.Ab
open Go Go.Proofs
theorem yw0 (s:List UInt8) (c:UInt8) : -1<=Go.Lib.indexByte s c/\(0<=Go.Lib.indexByte s c↔c∈s):=by
 induction s with
 | nil=>simp[Go.Lib.indexByte]
 | cons b l ih=>
  obtain⟨i1,i2⟩:=ih;by_cases hb:b=c
  ·subst hb;simp[Go.Lib.indexByte]
  ·have hb2:¬ c=b:=fun h=>hb h.symm
   have e1:(b == c)=false:=by simpa using hb
   by_cases hm:c∈l
   ·have h0:=i2.2 hm
    have e2:(Go.Lib.indexByte l c == -1)=false:=by rw[beq_eq_false_iff_ne];omega
    have e3:Go.Lib.indexByte (b::l) c=Go.Lib.indexByte l c+1:=by simp only[Go.Lib.indexByte,e1,e2,Bool.false_eq_true,if_false]
    rw[e3];exact⟨by omega,fun _=>List.mem_cons_of_mem _ hm,fun _=>by omega⟩
   ·have h0:¬ 0<=Go.Lib.indexByte l c:=fun h=>hm (i2.1 h)
    have e0:Go.Lib.indexByte l c = -1:=by omega
    have e3:Go.Lib.indexByte (b::l) c = -1:=by simp only[Go.Lib.indexByte,e1,e0,Bool.false_eq_true,if_false];rfl
    rw[e3];refine⟨by omega,fun h=>by omega,fun h => ?_⟩;rcases List.mem_cons.1 h with h|h
    ·exact absurd h hb2
    ·exact absurd h hm
theorem yso (s:List UInt8) (c:UInt8):znb s [c]=decide (c∈s):=by
 unfold znb;rw[List.getD_cons_zero];exact decide_eq_decide.2 (yw0 s c).2
theorem yqw (s:List UInt8) (c:UInt8):znb (s++[c]) [c]=true:=by
 rw[yso];simp
theorem y10 (s:List UInt8) (b c:UInt8) (h:b≠c):znb (s++[b]) [c]=znb s [c]:=by
 rw[yso,yso];have:¬ c=b:=fun e=>h e.symm
 simp[this]
theorem yqq (c:UInt8) (g:Sector->List UInt8->Except (List UInt8) (List UInt8)) (hg:∀ x u,g x u=bif ((x.Color == [c]) && (!(znb u [c])))then .ok (u++[c])else .ok u) :
  ∀ (l:List Sector) (u:List UInt8),znb u [c]=true->y5h g l u=.ok u
 | [],u,_=>rfl
 | x::l,u,h=>by
  rw[yke,hg,h,Bool.not_true,Bool.and_false];exact yqq c g hg l u h
theorem ylt (c:UInt8) (g:Sector->List UInt8->Except (List UInt8) (List UInt8)) (hg:∀ x u,g x u=bif ((x.Color == [c]) && (!(znb u [c])))then .ok (u++[c])else .ok u) :
  ∀ (l:List Sector) (u:List UInt8),znb u [c]=false->y5h g l u=.ok (bif l.any (fun x=>x.Color == [c])then u++[c]else u)
 | [],u,_=>rfl
 | x::l,u,h=>by
  rw[yke,hg,h,Bool.not_false,Bool.and_true,List.any_cons]
  cases hx:(x.Color == [c])with
  | true=>
   simp only[cond_true,Bool.true_or];exact yqq c g hg l _ (yqw u c)
  | false=>
   simp only[cond_false,Bool.false_or];exact ylt c g hg l u h
theorem yhs (c:List UInt8) (g:Sector->List UInt8->Except (Sum (List UInt8) (List UInt8)) (List UInt8)) (hg:∀ x u,g x u=bif (x.Color == c)then .error (.inr (u++c))else .ok u) :
  ∀ (l:List Sector) (u:List UInt8),y5h g l u=bif l.any (fun x=>x.Color == c)then .error (.inr (u++c))else .ok u
 | [],u=>rfl
 | x::l,u=>by
  rw[yke,hg,List.any_cons]
  cases hx:(x.Color == c)with
  | true=>rfl
  | false=>
   simp only[cond_false,Bool.false_or];exact yhs c g hg l u
def ydd (a:List Sector) (s:List UInt8) (c:UInt8):List UInt8:=bif a.any (fun x=>x.Color == [c])then s++[c]else s
theorem yne (a:List Sector) (i:Nat) (s:List UInt8) (c:UInt8) (h4:i<4) (hc:(([87,82,71,89].take ((IntKind.wrap .i64 ((i:Int)+1)).toNat)).drop i)=[c]) (h:znb s [c]=false) :
  y4j a i s=.ok (ydd a s c):=by
 unfold y4j;rw[y1c (fun x u=>bif ((x.Color == [c]) && (!(znb u [c])))then .ok (u++[c])else .ok u) a s (fun j u _=>by simp only[y3l,hc])];rw[ylt c _ (fun _ _=>rfl) a s h];rfl
theorem ybc (a:List Sector) (i:Nat) (s:List UInt8) (c:UInt8) (hc:([[87],[82],[71],[89]]:List (List UInt8)).getD i default=[c]):yyj a i s=.ok (ydd a s c):=by
 unfold yyj;rw[y1c (fun x u=>bif (x.Color == [c])then .error (.inr (u++[c]))else .ok u) a s (fun j u _=>by simp only[yen,hc])];rw[yhs [c] _ (fun _ _=>rfl) a s];unfold ydd;cases a.any (fun x=>x.Color == [c])<;>rfl
theorem yic (a:List Sector) (s:List UInt8) (b c:UInt8) (h:b≠c):znb (ydd a s b) [c]=znb s [c]:=by
 unfold ydd
 cases a.any (fun x=>x.Color == [b])with
 | true=>exact y10 s b c h
 | false=>rfl
theorem yzm (a:List Sector):zfc a=zbb a:=by
 unfold zfc zbb;have n0:∀ c:UInt8,znb [] [c]=false:=by intro c;simp[znb,Go.Lib.indexByte]
 have l4:([87,82,71,89]:List Nat).length-0=4:=rfl;rw[l4];simp only[yh,Nat.sub_zero];rw[yne a 0 [] 87 (by omega) rfl (n0 _),ybc a 0 [] 87 rfl];simp only;rw[yne a (0+1) _ 82 (by omega) rfl (by rw[yic _ _ _ _ (by decide)];exact n0 _),ybc a (0+1) _ 82 rfl];simp only;rw[yne a (0+1+1) _ 71 (by omega) rfl (by rw[yic _ _ _ _ (by decide),yic _ _ _ _ (by decide)];exact n0 _),ybc a (0+1+1) _ 71 rfl];simp only;rw[yne a (0+1+1+1) _ 89 (by omega) rfl (by rw[yic _ _ _ _ (by decide),yic _ _ _ _ (by decide),yic _ _ _ _ (by decide)];exact n0 _),ybc a (0+1+1+1) _ 89 rfl]
theorem yts (l:List (List UInt8)) (x:List UInt8):zke l x=l.any (fun y=>y == x):=by
 unfold zke zud;rcases y1d (b:=yxm l x) (fun j=>x == l.getD j default) (fun j=>(j:Int)) (k:=l.length-0) (i:=0) (s:=()) (fun j u _ _=>rfl)with⟨j,_,h2,h3,h4,h5⟩|⟨h1,h2⟩
 ·rw[h5]
  simp only;rw[decide_eq_true (show(0:Int)<=(j:Int)by omega)];symm
  rw[List.any_eq_true];have hj:j<l.length:=by omega
  have h3:(x == l.getD j default)=true:=h3;have h3:=eq_of_beq h3;refine⟨l.getD j default,?_,by rw[<- h3];simp⟩;rw[List.getD_eq_getElem?_getD,List.getElem?_eq_getElem hj];exact List.getElem_mem hj
 ·rw[h2]
  simp only;rw[decide_eq_false (show ¬ (0:Int) <= -1 by omega)];symm
  rw[List.any_eq_false];intro y hy;obtain⟨i,hi,rfl⟩:=List.getElem_of_mem hy;have:(x == l.getD i default)=false:=h1 i (Nat.zero_le _) (by omega);rw[List.getD_eq_getElem?_getD,List.getElem?_eq_getElem hi,Option.getD_some]at this;intro h;rw[eq_of_beq h]at this;simp at this
theorem ydg {k:Int} (h:zhb k=true):k=1\/k=2\/k=3\/k=4\/k=5\/k=6\/k=7\/k=8\/k=9:=by
 unfold zhb zf at h;simp only[Bool.and_eq_true,decide_eq_true_eq]at h;omega
theorem y8k {k:Int} (h:zhb k=true):zue k=zad k:=by
 rcases ydg h with rfl|rfl|rfl|rfl|rfl|rfl|rfl|rfl|rfl<;>rfl
theorem ynr {k:Int} (h:zhb k=true):zve k=zbd k:=by
 rcases ydg h with rfl|rfl|rfl|rfl|rfl|rfl|rfl|rfl|rfl<;>rfl
theorem y6k {k:Int} (h:zhb k=true):zld k=zy k:=by
 rcases ydg h with rfl|rfl|rfl|rfl|rfl|rfl|rfl|rfl|rfl<;>decide
theorem yij (m:Mark):(match yh (y0h m) (((zy m.Kind).length)-0) 0 ()with|.error e=>e|.ok s1=>false)=(zy m.Kind).any (fun y=>y == m.Shape):=by
 rcases y1d (b:=y0h m) (fun j=>(zy m.Kind).getD j default == m.Shape) (fun _=>true) (k:=(zy m.Kind).length-0) (i:=0) (s:=()) (fun j u _ _=>rfl)with⟨j,_,h2,h3,h4,h5⟩|⟨h1,h2⟩
 ·rw[h5]
  simp only;symm
  rw[List.any_eq_true];have hj:j<(zy m.Kind).length:=by omega
  refine⟨(zy m.Kind).getD j default,?_,h3⟩;rw[List.getD_eq_getElem?_getD,List.getElem?_eq_getElem hj];exact List.getElem_mem hj
 ·rw[h2]
  simp only;symm
  rw[List.any_eq_false];intro y hy;obtain⟨i,hi,rfl⟩:=List.getElem_of_mem hy;have:((zy m.Kind).getD i default == m.Shape)=false:=h1 i (Nat.zero_le _) (by omega);rw[List.getD_eq_getElem?_getD,List.getElem?_eq_getElem hi,Option.getD_some]at this;rw[this];decide
theorem yl0 (m:Mark):zwe m=(bif (m.Kind == 0)then(m.Kind == 0 && (m.Colors == [] && (m.Shape == [] && m.Topmark == [])))else(bif (((!(zhb m.Kind)) || (m.Colors != (zad m.Kind))) || ((m.Topmark != []) && (m.Topmark != (zbd m.Kind))))then false else(zy m.Kind).any (fun y=>y == m.Shape))):=by
 unfold zwe;have hk:zse m.Kind=zhb m.Kind:=rfl;rw[hk]
 cases h0:(m.Kind == 0)with
 | true=>
  have e:=eq_of_beq h0;have hn:zhb m.Kind=false:=by rw[e];rfl
  simp only[Bool.true_and,cond_true,hn,Bool.false_and];cases(m.Colors == [] && (m.Shape == [] && m.Topmark == []))<;>rfl
 | false=>
  simp only[Bool.false_and,cond_false]
  cases h1:zhb m.Kind with
  | false=>rfl
  | true=>
   rw[y8k h1,ynr h1,y6k h1,yts];simp only[Bool.true_and,Bool.not_true,Bool.false_or,bne];cases(m.Colors == zad m.Kind)<;>cases(m.Topmark == [])<;>cases(m.Topmark == zbd m.Kind)<;>simp
theorem ygn (m:Mark):zwe m=ztc m:=by
 rw[yl0];unfold ztc zcd;have hs:=yij m;generalize yh (y0h m) ((zy m.Kind).length-0) 0 ()=z at hs ⊢
 cases z with
 | error e=>simp only at hs ⊢;rw[hs]
 | ok u=>simp only at hs ⊢;rw[hs]
def zrf (a0:Aid):Bool:=
 (bif (((!(zye a0.Light)) || (!(zlf a0.Intensity))) || (!(zec a0.Sectors)))then false else(bif ((a0.Sectors.length:Int) == 0)then((a0.Light.Colors.length:Int) == 1)else((zfc a0.Sectors) == a0.Light.Colors)))
namespace N73
theorem DD:DOk Tryz.prog (Go.Ab.DD [(127,dP D_zye),(128,dP D_zlf),(129,dP D_zec),(130,dP D_zfc)]):=ya ykx.e <| ya ygv.e <| ya yov.e <| ya y4x.e <| yb _
theorem dn:type_of% (And.intro @D_zye.eq_1 <| And.intro @D_zlf.eq_1 <| And.intro @D_zec.eq_1 <| @D_zfc.eq_1):=by and_intros<;>intros<;>rfl
theorem den (a0:Aid) (hb0:bdAid a0):Den Tryz.prog 73 [.agg (eAid a0)] (.bool (zrf a0)):=by
 generalize hR:zrf a0=r;unfold zrf at hR;refine di Tryz.func73 Tryz.ntmps73 Tryz.results73 ?_;intro c hL hc hk;obtain⟨hL0,_⟩:=hL;have hw0:bwAid a0:=yeb a0 hL0;clear hL0;simp only[pars,Nat.zero_add];iterate 2 refine rS ?_
 refine AWP.cond rfl (fun hb => ?_) (fun hb => ?_)
 ·replace hR:=ct hR
  refine rS ?_;refine AWP.ret ?_;subst hR;exact es
 ·replace hR:=cf hR
  refine rS ?_;refine AWP.cond rfl (fun hb => ?_) (fun hb => ?_)
  ·replace hR:=ct hR
   refine rS ?_;refine AWP.ret ?_;subst hR;exact es
  ·replace hR:=cf hR
   refine rD 6 ?_;refine AWP.ret ?_;subst hR;exact es
end N73
def D_zrf : DF
 | [x0]=>some (.bool (zrf (rdG dAid x0)),false,[wG eAid dAid x0,bdAid (rdG dAid x0)])
 | _=>none
theorem y2u:OkD Tryz.prog 73 D_zrf:=by unfold D_zrf;exact dk N73.den
def zee (a0:Aid):Bool:=
 ((((((zif a0.Number) && (zpc a0.Name)) && (zwb a0.At)) && (zjf a0.Height)) && (zwe a0.Mark)) && ((zrf a0) || (zdf a0)))
namespace N56
theorem DD:DOk Tryz.prog (Go.Ab.DD [(100,dP D_zpc),(104,dP D_zif),(105,dP D_zjf),(106,dP D_zwe),(107,dP D_zdf),(50,dP D_zwb),(73,dP D_zrf)]):=ya ylp.e <| ya y7x.e <| ya yhx.e <| ya ytw.e <| ya yuw.e <| ya ybh.e <| ya y2u.e <| yb _
theorem dn:type_of% (And.intro @D_zpc.eq_1 <| And.intro @D_zif.eq_1 <| And.intro @D_zjf.eq_1 <| And.intro @D_zwe.eq_1 <| And.intro @D_zdf.eq_1 <| And.intro @D_zwb.eq_1 <| @D_zrf.eq_1):=by and_intros<;>intros<;>rfl
theorem den (a0:Aid) (hb0:bdAid a0):Den Tryz.prog 56 [.agg (eAid a0)] (.bool (zee a0)):=by
 generalize hR:zee a0=r;unfold zee at hR;refine di Tryz.func56 Tryz.ntmps56 Tryz.results56 ?_;intro c hL hc hk;obtain⟨hL0,_⟩:=hL;have hw0:bwAid a0:=yeb a0 hL0;clear hL0;simp only[pars,Nat.zero_add];iterate 2 refine rS ?_
 refine AWP.ret ?_;subst hR;exact es
end N56
def D_zee : DF
 | [x0]=>some (.bool (zee (rdG dAid x0)),false,[wG eAid dAid x0,bdAid (rdG dAid x0)])
 | _=>none
theorem y1p:OkD Tryz.prog 56 D_zee:=by unfold D_zee;exact dk N56.den
def y6i (a0:(List Aid)) (i1:Nat) (s1:Unit):Except (Bool) (Unit):=
 (bif ((!(zee (a0.getD i1 default))) || (decide (0<(i1:Int)) && decide (((a0.getD i1 default).Number)<=((a0.getD ((IntKind.wrap .i64 ((i1:Int)-1)).toNat) default).Number))))then .error false else .ok ())
def zlc (a0:(List Aid)):Bool:=
 (match yh (y6i a0) (a0.length-0) 0 ()with|.error e=>e|.ok s1=>(zzb (a0.length:Int) 24))
namespace N59
theorem DD:DOk Tryz.prog (Go.Ab.DD [(112,dP D_zzb),(56,dP D_zee)]):=ya y6g.e <| ya y1p.e <| yb _
theorem dn:type_of% (And.intro @D_zzb.eq_1 <| @D_zee.eq_1):=by and_intros<;>intros<;>rfl
theorem den (a0:(List Aid)) (hb0:a0.length<1099511627776) (hb1:∀ v∈a0,bdAid v):Den Tryz.prog 59 [encL 16 eAid a0] (.bool (zlc a0)):=by
 generalize hR:zlc a0=r;unfold zlc at hR;refine di Tryz.func59 Tryz.ntmps59 Tryz.results59 ?_;intro c hL hc hk;obtain⟨hL0,_⟩:=hL;have hw0:a0.length<9223372036854775808:=Nat.lt_succ_of_le (yf hL0).1;have hw1:∀ v∈a0,bwAid v:=fun v hv=>yeb v ((yf hL0).2 v hv)
 clear hL0;simp only[pars,Nat.zero_add];iterate 2 refine rS ?_
 refine AWP.block ?_;generalize hz1:yh (y6i a0) (a0.length-0) 0 ()=z1 at hR;refine AWP.range (y6i a0) (fun i1 s1=>⟨[(0,encL 16 eAid a0),(5,encL 16 eAid a0),(6,.int .i64 (a0.length:Int)),(7,.int .i64 (i1:Int))],[]⟩) (fun i1 s1=>True) (a0.length) 0 () [] hz1 ot wt sm ?_;clear hz1;intro i1 s1 hi1 hW1 hz1;refine rS ?_;refine AWP.seq ?_;refine AWP.cond rfl (fun hb => ?_) (fun hb => ?_)
 ·have hlt1:i1<a0.length:=ot
  rw[yn hlt1]at hz1;simp only[y6i]at hz1;refine rS ?_;refine rD 18 ?_;refine AWP.cond rfl (fun hb => ?_) (fun hb => ?_)
  ·simp only[hb,cond_true]at hz1
   refine rS ?_;refine AWP.ret ?_;subst hz1;dsimp only at hR;subst hR;exact es
  ·simp only[hb,cond_false]at hz1
   refine rS ?_;exact⟨_,[],hlt1,wt,hz1,sm⟩
 ·obtain rfl:i1=a0.length:=ot
  rw[yp (Nat.le_refl _)]at hz1;subst hz1;dsimp only at hR;refine AWP.exit ?_;refine yc ?_;refine rS ?_;refine AWP.ret ?_;subst hR;exact es
end N59
def D_zlc : DF
 | [x0]=>some (.bool (zlc (rdL dAid x0)),false,[wL 16 eAid dAid x0,(rdL dAid x0).length<1099511627776,∀ v∈(rdL dAid x0),bdAid v])
 | _=>none
theorem ykw:OkD Tryz.prog 59 D_zlc:=by unfold D_zlc;exact dk N59.den
def zib (a0:Aid):Bool:=
 (bif (((((!(zf a0.Number 1 9999)) || (!(zob a0.Name))) || (!(zeb a0.At))) || (!(zf a0.Height 0 3000))) || (!(ztc a0.Mark)))then false else(bif (zdd a0.Light)then(((a0.Sectors.length:Int) == 0) && (a0.Intensity == 0))else(bif (((!(zic a0.Light)) || (!(zf a0.Intensity 1 100000000))) || (!(zab a0.Sectors)))then false else(bif ((a0.Sectors.length:Int) == 0)then((a0.Light.Colors.length:Int) == 1)else((zbb a0.Sectors) == a0.Light.Colors)))))
namespace N65
theorem DD:DOk Tryz.prog (Go.Ab.DD [(116,dP D_zob),(117,dP D_zeb),(118,dP D_ztc),(119,dP D_zdd),(120,dP D_zic),(121,dP D_zab),(122,dP D_zbb),(81,dP D_zf)]):=ya y2o.e <| ya y1g.e <| ya yqx.e <| ya yix.e <| ya y7u.e <| ya yev.e <| ya ybq.e <| ya yed.e <| yb _
theorem dn:type_of% (And.intro @D_zob.eq_1 <| And.intro @D_zeb.eq_1 <| And.intro @D_ztc.eq_1 <| And.intro @D_zdd.eq_1 <| And.intro @D_zic.eq_1 <| And.intro @D_zab.eq_1 <| And.intro @D_zbb.eq_1 <| @D_zf.eq_1):=by and_intros<;>intros<;>rfl
theorem ol:type_of% (@zf.eq_1):=@zf.eq_1
theorem den (a0:Aid) (hb0:bdAid a0):Den Tryz.prog 65 [.ep (eAid a0)] (.bool (zib a0)):=by
 generalize hR:zib a0=r;unfold zib at hR;refine di Tryz.func65 Tryz.ntmps65 Tryz.results65 ?_;intro c hL hc hk;obtain⟨hL0,_⟩:=hL;have hw0:bwAid a0:=yeb a0 hL0;clear hL0;simp only[pars,Nat.zero_add];iterate 2 refine rS ?_
 refine AWP.cond rfl (fun hb => ?_) (fun hb => ?_)
 ·replace hR:=ct hR
  refine rS ?_;refine AWP.ret ?_;subst hR;exact es
 ·replace hR:=cf hR
  refine rS ?_;refine AWP.cond rfl (fun hb => ?_) (fun hb => ?_)
  ·replace hR:=ct hR
   refine rS ?_;refine AWP.ret ?_;subst hR;exact es
  ·replace hR:=cf hR
   refine rS ?_;refine AWP.cond rfl (fun hb => ?_) (fun hb => ?_)
   ·replace hR:=ct hR
    refine rS ?_;refine AWP.ret ?_;subst hR;exact es
   ·replace hR:=cf hR
    refine rS ?_;refine AWP.cond rfl (fun hb => ?_) (fun hb => ?_)
    ·replace hR:=ct hR
     refine rS ?_;refine AWP.ret ?_;subst hR;exact es
    ·replace hR:=cf hR
     refine rD 11 ?_;refine AWP.ret ?_;subst hR;exact es
end N65
def D_zib : DF
 | [x0]=>some (.bool (zib (rdP dAid x0)),false,[wP eAid dAid x0,bdAid (rdP dAid x0)])
 | _=>none
theorem ybr:OkD Tryz.prog 65 D_zib:=by unfold D_zib;exact dk N65.den
def yqg (a0:(List Aid)) (i1:Nat) (s1:Unit):Except (Bool) (Unit):=
 (bif ((!(zib (a0.getD i1 default))) || (decide (0<(i1:Int)) && decide (((a0.getD i1 default).Number)<=((a0.getD ((IntKind.wrap .i64 ((i1:Int)-1)).toNat) default).Number))))then .error false else .ok ())
def zjb (a0:(List Aid)):Bool:=
 (match yh (yqg a0) (a0.length-0) 0 ()with|.error e=>e|.ok s1=>decide ((a0.length:Int)<=24))
namespace N80
theorem DD:DOk Tryz.prog (Go.Ab.DD [(65,dP D_zib)]):=ya ybr.e <| yb _
theorem dn:type_of% (@D_zib.eq_1):=by and_intros<;>intros<;>rfl
theorem den (a0:(List Aid)) (hb0:a0.length<1099511627776) (hb1:∀ v∈a0,bdAid v):Den Tryz.prog 80 [encL 16 eAid a0] (.bool (zjb a0)):=by
 generalize hR:zjb a0=r;unfold zjb at hR;refine di Tryz.func80 Tryz.ntmps80 Tryz.results80 ?_;intro c hL hc hk;obtain⟨hL0,_⟩:=hL;have hw0:a0.length<9223372036854775808:=Nat.lt_succ_of_le (yf hL0).1;have hw1:∀ v∈a0,bwAid v:=fun v hv=>yeb v ((yf hL0).2 v hv)
 clear hL0;simp only[pars,Nat.zero_add];iterate 2 refine rS ?_
 refine AWP.block ?_;generalize hz1:yh (yqg a0) (a0.length-0) 0 ()=z1 at hR;refine AWP.range (yqg a0) (fun i1 s1=>⟨[(0,encL 16 eAid a0),(3,.int .i64 (i1:Int))],[]⟩) (fun i1 s1=>True) (a0.length) 0 () [] hz1 ot wt sm ?_;clear hz1;intro i1 s1 hi1 hW1 hz1;refine rS ?_;refine AWP.cond rfl (fun hb => ?_) (fun hb => ?_)
 ·have hlt1:i1<a0.length:=ot
  rw[yn hlt1]at hz1;simp only[yqg]at hz1;refine rD 23 ?_;refine AWP.cond rfl (fun hb => ?_) (fun hb => ?_)
  ·simp only[hb,cond_true]at hz1
   refine rS ?_;refine AWP.ret ?_;subst hz1;dsimp only at hR;subst hR;exact es
  ·simp only[hb,cond_false]at hz1
   refine rS ?_;exact⟨_,[],hlt1,wt,hz1,sm⟩
 ·obtain rfl:i1=a0.length:=ot
  rw[yp (Nat.le_refl _)]at hz1;subst hz1;dsimp only at hR;refine AWP.exit ?_;refine yc ?_;refine rS ?_;refine AWP.ret ?_;subst hR;exact es
end N80
def D_zjb : DF
 | [x0]=>some (.bool (zjb (rdL dAid x0)),false,[wL 16 eAid dAid x0,(rdL dAid x0).length<1099511627776,∀ v∈(rdL dAid x0),bdAid v])
 | _=>none
theorem y5w:OkD Tryz.prog 80 D_zjb:=by unfold D_zjb;exact dk N80.den
theorem yrt (c:Character) (h:zdd c=true):zye c=false:=by
 unfold zdd at h;simp only[Bool.and_eq_true,beq_iff_eq]at h;obtain⟨⟨⟨⟨h1,h2⟩,h3⟩,h4⟩,h5⟩:=h;cases c
 simp only at h1 h2 h3 h4 h5;rename_i k g l cs p
 have hg:g=[]:=List.length_eq_zero_iff.1 (by omega);subst h1 hg h3 h4 h5;decide
theorem y2v (a:Aid):zdf a=((zdd a.Light && ((a.Sectors.length:Int) == 0)) && (a.Intensity == 0)):=by
 unfold zdf zkf zdd;rw[y8i]
 have:decide (a.Light.Group=[])=((a.Light.Group.length:Int) == 0):=by
  cases a.Light.Group with
  | nil=>rfl
  | cons x l=>simp;omega
 rw[this]
theorem ydi (a:Aid) (hl:a.Light.Colors.length<9223372036854775808) (hs:a.Sectors.length<9223372036854775807):zee a=zib a:=by
 unfold zee zib;rw[y2v];unfold zrf;rw[ykh a.Sectors hs,yzm,ygn,y8n];have e1:zif a.Number=zf a.Number 1 9999:=rfl;have e2:zwb a.At=zeb a.At:=rfl;have e3:zjf a.Height=zf a.Height 0 3000:=rfl;have e4:zlf a.Intensity=zf a.Intensity 1 100000000:=rfl;rw[e1,e2,e3,e4]
 cases hp:zdd a.Light with
 | true=>
  rw[yrt _ hp];simp only[Bool.not_false,Bool.true_or,cond_true,Bool.true_and,Bool.false_or];cases zf a.Number 1 9999<;>cases zob a.Name<;>cases zeb a.At<;>cases zf a.Height 0 3000<;>cases ztc a.Mark<;>rfl
 | false=>
  rw[yvv a.Light hl];simp only[Bool.false_and,Bool.or_false,cond_false];cases zf a.Number 1 9999<;>cases zob a.Name<;>cases zeb a.At<;>cases zf a.Height 0 3000<;>cases ztc a.Mark<;>rfl
theorem ymm (l:List Aid) (h:∀ v∈l,v.Light.Colors.length<9223372036854775808/\v.Sectors.length<9223372036854775807):zlc l=zjb l:=by
 unfold zlc zjb
 rw[y2j (b:=y6i l) (b':=yqg l) (l.length-0) 0 () (fun j u _ hj=>by
  have:=ycg (p:=fun v:Aid=>v.Light.Colors.length<9223372036854775808/\v.Sectors.length<9223372036854775807) h ⟨by decide,by decide⟩ j
  simp only[y6i,yqg,ydi _ this.1 this.2])]
 rfl
theorem yvt {a:List Aid} (h:zjb a=true):a.length<=24:=by
 unfold zjb at h;split at h
 ·rename_i e he
  obtain⟨j,t,_,_,h3⟩:=y1e he;simp only[yqg,Bool.cond_eq_ite]at h3;split at h3
  ·cases h3;cases h
  ·cases h3
 ·have:=of_decide_eq_true h;omega
theorem yys {a:List Aid} (h:zlc a=true):a.length<=24:=by
 unfold zlc at h;split at h
 ·rename_i e he
  obtain⟨j,t,_,_,h3⟩:=y1e he;simp only[y6i,Bool.cond_eq_ite]at h3;split at h3
  ·cases h3;cases h
  ·cases h3
 ·unfold zzb at h;have:=of_decide_eq_true h;omega
theorem y6u {ρ α:Type} [Inhabited α] (l:List α) (b:Nat->List α->Except ρ (List α)) (hb:∀ i s,b i s=.ok (s++[l.getD i default])):yh b (l.length-0) 0 ([]:List α)=.ok l:=by
 obtain⟨t,h1,h2⟩:=ygc (b:=b) (fun i s=>s=l.take i) (k:=l.length-0) (i:=0) (s:=[]) (by simp) (by
  intro j u _ hj h;subst h
  exact⟨_,hb j _,(yue l j (by omega)).symm⟩)
 rw[h1,h2];simp
theorem y9l (a:Aid):zde a=a:=by simp[zde,zpf,zof]
theorem y5f (l:List Aid):zhd l=l:=by
 unfold zhd;rw[y6u l (ymj l) (fun i s=>by simp only[ymj,y9l])]
def ygj (a0:(List Aid)) (a1:Aid) (s1:Int):Except (Sum (((List Aid)×Int)) (Int)) (Int):=
 (bif (decide (s1<(a0.length:Int)) && decide (((a0.getD ((s1).toNat) default).Number)<a1.Number))then .ok (IntKind.wrap .i64 (s1+1))else .error (.inr s1))
def zuc (a0:(List Aid)) (a1:Aid):((List Aid)×Int):=
 (match ymb (ygj a0 a1) ((a0.length-((0:Int)).toNat)+1) 0 with|.error (.inl e)=>e|.error (.inr s1)=>(bif (decide (s1<(a0.length:Int)) && (((a0.getD ((s1).toNat) default).Number) == a1.Number))then([],4)else(bif ((a0.length:Int) == 24)then([],5)else(((zhd (subL a0 0 ((s1).toNat)))++[zde a1])++(zhd (subL a0 ((s1).toNat) (a0.length-(s1).toNat))),0)))|.ok _=>default)
namespace N138
theorem DD:DOk Tryz.prog (Go.Ab.DD [(197,dP D_zhd),(198,dP D_zde)]):=ya y3v.e <| ya yqp.e <| yb _
theorem dn:type_of% (And.intro @D_zhd.eq_1 <| @D_zde.eq_1):=by and_intros<;>intros<;>rfl
theorem ol:type_of% (@y5f):=@y5f
theorem den (a0:(List Aid)) (a1:Aid) (hb0:a0.length<1099511627776) (hb1:∀ v∈a0,bdAid v) (hb2:bdAid a1) (hp0:a0.length<=1073741824):Den Tryz.prog 138 [encL 16 eAid a0,.ep (eAid a1)] (.tup [ownL 45 16 yoe ((zuc a0 a1).1),.int .i64 ((zuc a0 a1).2)]):=by
 generalize hR:zuc a0 a1=r;unfold zuc at hR;refine di Tryz.func138 Tryz.ntmps138 Tryz.results138 ?_;intro c hL hc hk;obtain⟨hL0,hL1,_⟩:=hL;have hw0:a0.length<9223372036854775808:=Nat.lt_succ_of_le (yf hL0).1;have hw1:∀ v∈a0,bwAid v:=fun v hv=>yeb v ((yf hL0).2 v hv)
 have hw2:bwAid a1:=yeb a1 hL1;clear hL0 hL1;simp only[pars,Nat.zero_add];iterate 2 refine rS ?_
 refine AWP.seq ?_;refine AWP.block ?_;generalize hz1:ymb (ygj a0 a1) ((a0.length-((0:Int)).toNat)+1) 0=z1 at hR;refine AWP.whileW (ygj a0 a1) (fun s1=>⟨[(0,encL 16 eAid a0),(1,.ep (eAid a1)),(6,.int .i64 s1)],[]⟩) (fun s1=>0<=s1/\s1<=a0.length) (fun s1=>a0.length-(s1).toNat) ((a0.length-((0:Int)).toNat)+1) 0 [] hz1 m0 wt sm ?_;clear hz1;intro s1 k1 hW1 hm1 hz1;simp only[ygj]at hz1;refine rD 16 ?_;refine AWP.cond rfl (fun hb => ?_) (fun hb => ?_)
 ·simp only[hb,cond_true]at hz1
  refine rS ?_;exact⟨_,[],ms,wt,hz1,sm⟩
 ·simp only[hb,cond_false]at hz1
  refine AWP.exit ?_;refine yc ?_;subst hz1;dsimp only at hR;refine rD 16 ?_;refine AWP.cond rfl (fun hb => ?_) (fun hb => ?_)
  ·replace hR:=ct hR
   refine rS ?_;refine AWP.ret ?_;subst hR;exact es
  ·replace hR:=cf hR
   refine rS ?_;refine AWP.cond rfl (fun hb => ?_) (fun hb => ?_)
   ·replace hR:=ct hR
    refine rS ?_;refine AWP.ret ?_;subst hR;exact es
   ·replace hR:=cf hR
    iterate 3 refine rS ?_
    refine AWP.ret ?_;subst hR;exact es
end N138
def D_zuc : DF
 | [x0,x1]=>some (.tup [ownL 45 16 yoe ((zuc (rdL dAid x0) (rdP dAid x1)).1),.int .i64 ((zuc (rdL dAid x0) (rdP dAid x1)).2)],false,[wL 16 eAid dAid x0,wP eAid dAid x1,(rdL dAid x0).length<1099511627776,∀ v∈(rdL dAid x0),bdAid v,bdAid (rdP dAid x1),(rdL dAid x0).length<=1073741824])
 | _=>none
theorem y9w:OkD Tryz.prog 138 D_zuc:=by unfold D_zuc;exact dk N138.den
def zid (a0:(List Aid)) (a1:Aid):((List Aid)×Int):=
 (bif ((!(zjb a0)) || (!(zib a1)))then([],1)else((zuc a0 a1).1,(zuc a0 a1).2))
namespace N110
theorem DD:DOk Tryz.prog (Go.Ab.DD [(138,dP D_zuc),(65,dP D_zib),(80,dP D_zjb)]):=ya y9w.e <| ya ybr.e <| ya y5w.e <| yb _
theorem dn:type_of% (And.intro @D_zuc.eq_1 <| And.intro @D_zib.eq_1 <| @D_zjb.eq_1):=by and_intros<;>intros<;>rfl
theorem gr {p:Prop} (h:p:=by(grind [yvt]);first|done|fail):p:=h
theorem den (a0:(List Aid)) (a1:Aid) (hb0:a0.length<1099511627776) (hb1:∀ v∈a0,bdAid v) (hb2:bdAid a1):Den Tryz.prog 110 [encL 16 eAid a0,.agg (eAid a1)] (.tup [ownL 45 16 yoe ((zid a0 a1).1),.int .i64 ((zid a0 a1).2)]):=by
 generalize hR:zid a0 a1=r;unfold zid at hR;refine di Tryz.func110 Tryz.ntmps110 Tryz.results110 ?_;intro c hL hc hk;obtain⟨hL0,hL1,_⟩:=hL;have hw0:a0.length<9223372036854775808:=Nat.lt_succ_of_le (yf hL0).1;have hw1:∀ v∈a0,bwAid v:=fun v hv=>yeb v ((yf hL0).2 v hv)
 have hw2:bwAid a1:=yeb a1 hL1;clear hL0 hL1;simp only[pars,Nat.zero_add];iterate 2 refine rS ?_
 refine AWP.cond rfl (fun hb => ?_) (fun hb => ?_)
 ·replace hR:=ct hR
  refine rS ?_;refine AWP.ret ?_;subst hR;exact es
 ·replace hR:=cf hR
  refine rS ?_;refine AWP.ret ?_;subst hR;exact es
end N110
def D_zid : DF
 | [x0,x1]=>some (.tup [ownL 45 16 yoe ((zid (rdL dAid x0) (rdG dAid x1)).1),.int .i64 ((zid (rdL dAid x0) (rdG dAid x1)).2)],false,[wL 16 eAid dAid x0,wG eAid dAid x1,(rdL dAid x0).length<1099511627776,∀ v∈(rdL dAid x0),bdAid v,bdAid (rdG dAid x1)])
 | _=>none
theorem yxv:OkD Tryz.prog 110 D_zid:=by unfold D_zid;exact dk N110.den
def aidL (v:Aid):Prop:=v.Light.Colors.length<9223372036854775808/\v.Sectors.length<9223372036854775807
theorem ycu {α:Type} [Inhabited α] (l:List α) (n:Nat) (h:n<=l.length):subL l 0 n=l.take n:=by
 apply ydl
 ·simp[subL,h]
 ·intro i hi
  have hi:i<n:=by simpa [subL]using hi
  simp only[subL,Nat.zero_add];rw[List.getD_eq_getElem?_getD,List.getD_eq_getElem?_getD,List.getElem?_map,List.getElem?_range hi,List.getElem?_take,if_pos hi];simp[List.getD_eq_getElem?_getD]
theorem ypu {α:Type} [Inhabited α] (l:List α) (n:Nat) (h:n<=l.length):subL l n (l.length-n)=l.drop n:=by
 apply ydl
 ·simp[subL]
 ·intro i hi
  have hi:i<l.length-n:=by simpa [subL]using hi
  simp only[subL];rw[List.getD_eq_getElem?_getD,List.getD_eq_getElem?_getD,List.getElem?_map,List.getElem?_range hi,List.getElem?_drop];simp[List.getD_eq_getElem?_getD]
theorem ytx (l:List Aid) (a:Aid) (hl:l.length<9223372036854775808):ymb (ygj l a) ((l.length-((0:Int)).toNat)+1) 0=.error (.inr (upto l a.Number:Int)):=by
 have:=yos l a.Number hl (ygj l a) (fun s=>rfl) l [] (l.length-(0:Int).toNat+1) rfl (by simp);simp only[List.length_nil,Nat.zero_add]at this;have e0:((0:Nat):Int)=0:=rfl;simp only[e0]at this;exact this
def putA (l:List Aid) (a:Aid):List Aid:=l.take (upto l a.Number)++[a]++l.drop (upto l a.Number)
theorem yqs (l:List Aid) (a:Aid) (hl:l.length<9223372036854775808) :
  zuc l a=bif (decide (upto l a.Number<l.length) && ((l.getD (upto l a.Number) default).Number == a.Number))then([],4)else(bif ((l.length:Int) == 24)then([],5)else(putA l a,0)):=by
 unfold zuc;rw[ytx l a hl];have hu:=ydz l a.Number
 have e:(decide ((upto l a.Number:Int)<(l.length:Int)) && ((l.getD ((upto l a.Number:Int)).toNat default).Number == a.Number))=(decide (upto l a.Number<l.length) && ((l.getD (upto l a.Number) default).Number == a.Number)):=by
  rw[Int.toNat_natCast];congr 1
  exact decide_eq_decide.2 (by omega)
 simp only[y5f,y9l];rw[e];simp only[Int.toNat_natCast];rw[ycu l _ hu,ypu l _ hu];rfl
theorem yxc (l:List Aid) (a:Aid) (P:Aid->Prop) (hl:l.length<9223372036854775808) (hv:∀ v∈l,P v) (ha:P a):(∀ v∈(zid l a).1,P v)/\(zid l a).1.length<=l.length+1:=by
 unfold zid
 cases hb:((!(zjb l)) || (!(zib a)))with
 | true=>exact⟨fun v hv=>by simp at hv,by simp⟩
 | false=>
  simp only[cond_false];rw[yqs l a hl]
  cases(decide (upto l a.Number<l.length) && ((l.getD (upto l a.Number) default).Number == a.Number))with
  | true=>exact⟨fun v hv=>by simp at hv,by simp⟩
  | false=>
   simp only[cond_false]
   cases((l.length:Int) == 24)with
   | true=>exact⟨fun v hv=>by simp at hv,by simp⟩
   | false=>
    simp only[cond_false,putA];refine⟨fun v h => ?_,by simp;omega⟩;simp only[List.mem_append,List.mem_singleton]at h;rcases h with(h|h)|h
    ·exact hv v (List.mem_of_mem_take h)
    ·subst h;exact ha
    ·exact hv v (List.mem_of_mem_drop h)
def ltA (a b:Aid):Prop:=a.Number<b.Number
theorem ypt (a b c:Aid) (h:ltA a b) (k:ltA b c):ltA a c:=by unfold ltA at *;omega
def okA (l:List Aid):Prop:=(∀ v∈l,zib v=true)/\l.Pairwise ltA/\l.length<=24
theorem y7n (l:List Aid):zjb l=true↔okA l:=by
 unfold zjb;refine Iff.trans (yho (b:=yqg l) (fun j=>(!(zib (l.getD j default))) || (decide (0<(j:Int)) && decide (((l.getD j default).Number)<=((l.getD ((IntKind.wrap .i64 ((j:Int)-1)).toNat) default).Number)))) l.length _ (fun j u _=>rfl)) ?_;unfold okA;rw[yp0 ltA ypt l,decide_eq_true_eq]
 have e:∀ j:Nat,0<j->j<l.length->l.length<9223372036854775808->(IntKind.wrap .i64 ((j:Int)-1)).toNat=j-1:=by
  intro j h0 h1 h2;rw[IntKind.wrap_i64];omega
 constructor
 ·rintro⟨h1,h2⟩
  have h2':l.length<=24:=by omega
  refine⟨fun v hv => ?_,fun j hj => ?_,h2'⟩
  ·obtain⟨j,hj,rfl⟩:=List.getElem_of_mem hv
   have:=h1 j hj;rw[Bool.or_eq_false_iff]at this;have h3:=this.1;rw[List.getD_eq_getElem?_getD,List.getElem?_eq_getElem hj]at h3;simpa using h3
  ·have:=h1 (j+1) hj
   rw[Bool.or_eq_false_iff,e (j+1) (by omega) hj (by omega)]at this;have h3:=this.2;simp only[Nat.add_sub_cancel]at h3;unfold ltA;simp only[Bool.and_eq_false_iff,decide_eq_false_iff_not]at h3;rcases h3 with h3|h3<;>omega
 ·rintro⟨h1,h2,h3⟩
  refine⟨fun j hj => ?_,by omega⟩;rw[Bool.or_eq_false_iff];constructor
  ·have:l.getD j default∈l:=by
    rw[List.getD_eq_getElem?_getD,List.getElem?_eq_getElem hj];exact List.getElem_mem hj
   rw[h1 _ this];rfl
  ·cases j with
   | zero=>simp
   | succ j=>
    rw[e (j+1) (by omega) hj (by omega)];have:=h2 j hj;unfold ltA at this;simp only[Nat.add_sub_cancel,Bool.and_eq_false_iff,decide_eq_false_iff_not];right;omega
def okP (P:Aid->Prop) (l:List Aid):Prop:=okA l/\∀ v∈l,P v
def y7k (a0:Danger) (a1:(List Aid)) (a2:Int) (s1:List Int×Int):Except (Sum (((List Int)×Int)) (List Int×Int)) (List Int×Int):=
 (bif decide (s1.2<=6)then(bif (zrc a1 s1.2 a0 a2)then .ok (s1.1++([s1.2]:List Int),IntKind.wrap .i64 (s1.2+1))else .ok (s1.1,IntKind.wrap .i64 (s1.2+1)))else .error (.inr (s1.1,s1.2)))
def zk (a0:Danger) (a1:(List Aid)) (a2:Int):((List Int)×Int):=
 (bif ((!(zub a0)) || (!(zlc a1)))then([],1)else(bif (!(zjc a2))then([],2)else(match ymb (y7k a0 a1 a2) (((7-(3:Int)).toNat)+1) (([]:List Int),3)with|.error (.inl e)=>e|.error (.inr s1)=>(s1.1,0)|.ok _=>default)))
namespace N15
theorem DD:DOk Tryz.prog (Go.Ab.DD [(47,dP D_zub),(48,dP D_zjc),(59,dP D_zlc),(60,dP D_zrc)]):=ya ygh.e <| ya ycl.e <| ya ykw.e <| ya yiw.e <| yb _
theorem dn:type_of% (And.intro @D_zub.eq_1 <| And.intro @D_zjc.eq_1 <| And.intro @D_zlc.eq_1 <| @D_zrc.eq_1):=by and_intros<;>intros<;>rfl
theorem gr {p:Prop} (h:p:=by(grind [yys]);first|done|fail):p:=h
theorem den (a0:Danger) (a1:(List Aid)) (a2:Int) (hb0:bdDanger a0) (hb1:a1.length<1099511627776) (hb2:∀ v∈a1,bdAid v):Den Tryz.prog 15 [.agg (yr a0),encL 16 eAid a1,.int .i64 a2] (.tup [ownL 2 1 yq ((zk a0 a1 a2).1),.int .i64 ((zk a0 a1 a2).2)]):=by
 generalize hR:zk a0 a1 a2=r;unfold zk at hR;refine di Tryz.func15 Tryz.ntmps15 Tryz.results15 ?_;intro c hL hc hk;obtain⟨hL0,hL1,hL2,_⟩:=hL;have hw0:bwDanger a0:=y5 a0 hL0;have hw1:a1.length<9223372036854775808:=Nat.lt_succ_of_le (yf hL1).1;have hw2:∀ v∈a1,bwAid v:=fun v hv=>yeb v ((yf hL1).2 v hv)
 clear hL0 hL1 hL2;simp only[pars,Nat.zero_add];iterate 2 refine rS ?_
 refine AWP.cond rfl (fun hb => ?_) (fun hb => ?_)
 ·replace hR:=ct hR
  refine rS ?_;refine AWP.ret ?_;subst hR;exact es
 ·replace hR:=cf hR
  refine rS ?_;refine AWP.cond rfl (fun hb => ?_) (fun hb => ?_)
  ·replace hR:=ct hR
   refine rS ?_;refine AWP.ret ?_;subst hR;exact es
  ·replace hR:=cf hR
   iterate 2 refine rS ?_
   refine AWP.block ?_;generalize hz1:ymb (y7k a0 a1 a2) (((7-(3:Int)).toNat)+1) (([]:List Int),3)=z1 at hR;refine AWP.whileW (y7k a0 a1 a2) (fun s1=>⟨[(1,encL 16 eAid a1),(3,.ptr 0 0),(5,.ptr 1 0),(8,.ref 2 1 0 s1.1.length),(9,.ptr 3 0)],[.box [.str a0.Name,.int .i64 a0.At.X,.int .i64 a0.At.Y,.int .i64 a0.Radius],.box [.int .i64 a2],.arr 2 1 s1.1.length (fun j=>yq (s1.1.getD j default)),.box [.int .i64 s1.2]]⟩) (fun s1=>3<=s1.2/\s1.2<=7/\s1.1.length<=(s1.2-3).toNat) (fun s1=>(7-s1.2).toNat) (((7-(3:Int)).toNat)+1) (([]:List Int),3) [0,1,2,3] hz1 m0 wt sm ?_;clear hz1;intro s1 k1 hW1 hm1 hz1;simp only[y7k]at hz1;refine rS ?_;refine AWP.cond rfl (fun hb => ?_) (fun hb => ?_)
   ·simp only[hb,cond_true]at hz1
    refine rS ?_;refine AWP.cond rfl (fun hb => ?_) (fun hb => ?_)
    ·simp only[hb,cond_true]at hz1
     iterate 4 refine rS ?_
     exact⟨_,[0,1,5,6],ms,wt,hz1,sm⟩
    ·simp only[hb,cond_false]at hz1
     iterate 3 refine rS ?_
     exact⟨_,[0,1,2,4],ms,wt,hz1,sm⟩
   ·simp only[hb,cond_false]at hz1
    refine AWP.exit ?_;refine yc ?_;subst hz1;dsimp only at hR;refine rS ?_;refine AWP.ret ?_;subst hR;exact es
end N15
def D_zk : DF
 | [x0,x1,x2]=>some (.tup [ownL 2 1 yq ((zk (rdG yu x0) (rdL dAid x1) (rdI x2)).1),.int .i64 ((zk (rdG yu x0) (rdL dAid x1) (rdI x2)).2)],false,[wG yr yu x0,wL 16 eAid dAid x1,wI .i64 x2,bdDanger (rdG yu x0),(rdL dAid x1).length<1099511627776,∀ v∈(rdL dAid x1),bdAid v])
 | _=>none
theorem yqu:OkD Tryz.prog 15 D_zk:=by unfold D_zk;exact dk N15.den
end Go.Ab
