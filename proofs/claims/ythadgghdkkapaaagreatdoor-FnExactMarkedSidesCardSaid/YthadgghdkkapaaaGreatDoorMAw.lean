/- A part of a proof: walks of functions and lemmas of our own. No conditions. -/
import Derived.Test.YthadgghdkkapaaaGreatDoorMAl
import Derived.Test.YthadgghdkkapaaaGreatDoorMAi
import Derived.Test.YthadgghdkkapaaaGreatDoorMAo
import Derived.Test.YthadgghdkkapaaaGreatDoorMAr
import Derived.Test.YthadgghdkkapaaaGreatDoorMAu
import Derived.Test.YthadgghdkkapaaaGreatDoorMAt
import Derived.Test.YthadgghdkkapaaaGreatDoorMAv
import Derived.Test.YthadgghdkkapaaaGreatDoorMAq
import Derived.Test.YthadgghdkkapaaaGreatDoorMAs
import Derived.Test.YthadgghdkkapaaaGreatDoorMAk
import Derived.Test.YthadgghdkkapaaaGreatDoorMAp
set_option linter.unusedSectionVars false
set_option linter.unusedVariables false
set_option linter.unusedSimpArgs false
set_option maxHeartbeats 1000000
namespace Go.Ab
open Go Go.Proofs
theorem yzz (s:List UInt8) (c:UInt8) : -1<=Go.Lib.indexByte s c/\(0<=Go.Lib.indexByte s c↔c∈s):=by
 induction s with
 | nil=>simp[Go.Lib.indexByte]
 | cons b l ih=>
  obtain⟨i1,i2⟩:=ih;by_cases hb:b=c
  ·subst hb;simp[Go.Lib.indexByte]
  ·have hb2:¬ c=b:=fun h=>hb h.symm
   have e1:(b == c)=false:=by simpa using hb
   by_cases hm:c∈l
   ·have h0:=i2.2 hm
    have e2:(Go.Lib.indexByte l c == -1)=false:=by rw[beq_eq_false_iff_ne];omega
    have e3:Go.Lib.indexByte (b::l) c=Go.Lib.indexByte l c+1:=by simp only[Go.Lib.indexByte,e1,e2,Bool.false_eq_true,if_false]
    rw[e3];exact⟨by omega,fun _=>List.mem_cons_of_mem _ hm,fun _=>by omega⟩
   ·have h0:¬ 0<=Go.Lib.indexByte l c:=fun h=>hm (i2.1 h)
    have e0:Go.Lib.indexByte l c = -1:=by omega
    have e3:Go.Lib.indexByte (b::l) c = -1:=by simp only[Go.Lib.indexByte,e1,e0,Bool.false_eq_true,if_false];rfl
    rw[e3];refine⟨by omega,fun h=>by omega,fun h => ?_⟩;rcases List.mem_cons.1 h with h|h
    ·exact absurd h hb2
    ·exact absurd h hm
theorem y0n (s:List UInt8) (c:UInt8):zm s [c]=decide (c∈s):=by
 unfold zm;rw[List.getD_cons_zero];exact decide_eq_decide.2 (yzz s c).2
theorem yyu (s:List UInt8) (c:UInt8):zm (s++[c]) [c]=true:=by
 rw[y0n];simp
theorem yyz (s:List UInt8) (b c:UInt8) (h:b≠c):zm (s++[b]) [c]=zm s [c]:=by
 rw[y0n,y0n];have:¬ c=b:=fun e=>h e.symm
 simp[this]
theorem y9n (c:UInt8) (g:Sector->List UInt8->Except (List UInt8) (List UInt8)) (hg:∀ x u,g x u=bif ((x.Color == [c]) && (!(zm u [c])))then .ok (u++[c])else .ok u) :
  ∀ (l:List Sector) (u:List UInt8),zm u [c]=true->yci g l u=.ok u
 | [],u,_=>rfl
 | x::l,u,h=>by
  rw[yme,hg,h,Bool.not_true,Bool.and_false];exact y9n c g hg l u h
theorem yrr (c:UInt8) (g:Sector->List UInt8->Except (List UInt8) (List UInt8)) (hg:∀ x u,g x u=bif ((x.Color == [c]) && (!(zm u [c])))then .ok (u++[c])else .ok u) :
  ∀ (l:List Sector) (u:List UInt8),zm u [c]=false->yci g l u=.ok (bif l.any (fun x=>x.Color == [c])then u++[c]else u)
 | [],u,_=>rfl
 | x::l,u,h=>by
  rw[yme,hg,h,Bool.not_false,Bool.and_true,List.any_cons]
  cases hx:(x.Color == [c])with
  | true=>
   simp only[cond_true,Bool.true_or];exact y9n c g hg l _ (yyu u c)
  | false=>
   simp only[cond_false,Bool.false_or];exact yrr c g hg l u h
theorem y9r (c:List UInt8) (g:Sector->List UInt8->Except (Sum (List UInt8) (List UInt8)) (List UInt8)) (hg:∀ x u,g x u=bif (x.Color == c)then .error (.inr (u++c))else .ok u) :
  ∀ (l:List Sector) (u:List UInt8),yci g l u=bif l.any (fun x=>x.Color == c)then .error (.inr (u++c))else .ok u
 | [],u=>rfl
 | x::l,u=>by
  rw[yme,hg,List.any_cons]
  cases hx:(x.Color == c)with
  | true=>rfl
  | false=>
   simp only[cond_false,Bool.false_or];exact y9r c g hg l u
def y1h (a:List Sector) (s:List UInt8) (c:UInt8):List UInt8:=bif a.any (fun x=>x.Color == [c])then s++[c]else s
theorem yie (a:List Sector) (i:Nat) (s:List UInt8) (c:UInt8) (h4:i<4) (hc:(([87,82,71,89].take ((IntKind.wrap .i64 ((i:Int)+1)).toNat)).drop i)=[c]) (h:zm s [c]=false) :
  ykj a i s=.ok (y1h a s c):=by
 unfold ykj;rw[yuc (fun x u=>bif ((x.Color == [c]) && (!(zm u [c])))then .ok (u++[c])else .ok u) a s (fun j u _=>by simp only[yym,hc])];rw[yrr c _ (fun _ _=>rfl) a s h];rfl
theorem yhe (a:List Sector) (i:Nat) (s:List UInt8) (c:UInt8) (hc:([[87],[82],[71],[89]]:List (List UInt8)).getD i default=[c]):ynj a i s=.ok (y1h a s c):=by
 unfold ynj;rw[yuc (fun x u=>bif (x.Color == [c])then .error (.inr (u++[c]))else .ok u) a s (fun j u _=>by simp only[yfm,hc])];rw[y9r [c] _ (fun _ _=>rfl) a s];unfold y1h;cases a.any (fun x=>x.Color == [c])<;>rfl
theorem ybc (a:List Sector) (s:List UInt8) (b c:UInt8) (h:b≠c):zm (y1h a s b) [c]=zm s [c]:=by
 unfold y1h
 cases a.any (fun x=>x.Color == [b])with
 | true=>exact yyz s b c h
 | false=>rfl
theorem y7l (a:List Sector):zeb a=zfb a:=by
 unfold zeb zfb;have n0:∀ c:UInt8,zm [] [c]=false:=by intro c;simp[zm,Go.Lib.indexByte]
 have l4:([87,82,71,89]:List Nat).length-0=4:=rfl;rw[l4];simp only[yf,Nat.sub_zero];rw[yie a 0 [] 87 (by omega) rfl (n0 _),yhe a 0 [] 87 rfl];simp only;rw[yie a (0+1) _ 82 (by omega) rfl (by rw[ybc _ _ _ _ (by decide)];exact n0 _),yhe a (0+1) _ 82 rfl];simp only;rw[yie a (0+1+1) _ 71 (by omega) rfl (by rw[ybc _ _ _ _ (by decide),ybc _ _ _ _ (by decide)];exact n0 _),yhe a (0+1+1) _ 71 rfl];simp only;rw[yie a (0+1+1+1) _ 89 (by omega) rfl (by rw[ybc _ _ _ _ (by decide),ybc _ _ _ _ (by decide),ybc _ _ _ _ (by decide)];exact n0 _),yhe a (0+1+1+1) _ 89 rfl]
theorem yis (l:List (List UInt8)) (x:List UInt8):zqd l x=l.any (fun y=>y == x):=by
 unfold zqd zxc;rcases ytd (b:=ynk l x) (fun j=>x == l.getD j default) (fun j=>(j:Int)) (k:=l.length-0) (i:=0) (s:=()) (fun j u _ _=>rfl)with⟨j,_,h2,h3,h4,h5⟩|⟨h1,h2⟩
 ·rw[h5]
  simp only;rw[decide_eq_true (show(0:Int)<=(j:Int)by omega)];symm
  rw[List.any_eq_true];have hj:j<l.length:=by omega
  have h3:(x == l.getD j default)=true:=h3;have h3:=eq_of_beq h3;refine⟨l.getD j default,?_,by rw[<- h3];simp⟩;rw[List.getD_eq_getElem?_getD,List.getElem?_eq_getElem hj];exact List.getElem_mem hj
 ·rw[h2]
  simp only;rw[decide_eq_false (show ¬ (0:Int) <= -1 by omega)];symm
  rw[List.any_eq_false];intro y hy;obtain⟨i,hi,rfl⟩:=List.getElem_of_mem hy;have:(x == l.getD i default)=false:=h1 i (Nat.zero_le _) (by omega);rw[List.getD_eq_getElem?_getD,List.getElem?_eq_getElem hi,Option.getD_some]at this;intro h;rw[eq_of_beq h]at this;simp at this
theorem yxn {k:Int} (h:zjc k=true):k=1\/k=2\/k=3\/k=4\/k=5\/k=6\/k=7\/k=8\/k=9:=by
 unfold zjc zb at h;simp only[Bool.and_eq_true,decide_eq_true_eq]at h;omega
theorem ydk {k:Int} (h:zjc k=true):zge k=zke k:=by
 rcases yxn h with rfl|rfl|rfl|rfl|rfl|rfl|rfl|rfl|rfl<;>rfl
theorem y4p {k:Int} (h:zjc k=true):zhe k=zle k:=by
 rcases yxn h with rfl|rfl|rfl|rfl|rfl|rfl|rfl|rfl|rfl<;>rfl
theorem ytj {k:Int} (h:zjc k=true):zlc k=zo k:=by
 rcases yxn h with rfl|rfl|rfl|rfl|rfl|rfl|rfl|rfl|rfl<;>decide
theorem y3q (m:Mark):(match yf (yhh m) (((zo m.Kind).length)-0) 0 ()with|.error e=>e|.ok s1=>false)=(zo m.Kind).any (fun y=>y == m.Shape):=by
 rcases ytd (b:=yhh m) (fun j=>(zo m.Kind).getD j default == m.Shape) (fun _=>true) (k:=(zo m.Kind).length-0) (i:=0) (s:=()) (fun j u _ _=>rfl)with⟨j,_,h2,h3,h4,h5⟩|⟨h1,h2⟩
 ·rw[h5]
  simp only;symm
  rw[List.any_eq_true];have hj:j<(zo m.Kind).length:=by omega
  refine⟨(zo m.Kind).getD j default,?_,h3⟩;rw[List.getD_eq_getElem?_getD,List.getElem?_eq_getElem hj];exact List.getElem_mem hj
 ·rw[h2]
  simp only;symm
  rw[List.any_eq_false];intro y hy;obtain⟨i,hi,rfl⟩:=List.getElem_of_mem hy;have:((zo m.Kind).getD i default == m.Shape)=false:=h1 i (Nat.zero_le _) (by omega);rw[List.getD_eq_getElem?_getD,List.getElem?_eq_getElem hi,Option.getD_some]at this;rw[this];decide
theorem ytz (m:Mark):zie m=(bif (m.Kind == 0)then(m.Kind == 0 && (m.Colors == [] && (m.Shape == [] && m.Topmark == [])))else(bif (((!(zjc m.Kind)) || (m.Colors != (zke m.Kind))) || ((m.Topmark != []) && (m.Topmark != (zle m.Kind))))then false else(zo m.Kind).any (fun y=>y == m.Shape))):=by
 unfold zie;have hk:zee m.Kind=zjc m.Kind:=rfl;rw[hk]
 cases h0:(m.Kind == 0)with
 | true=>
  have e:=eq_of_beq h0;have hn:zjc m.Kind=false:=by rw[e];rfl
  simp only[Bool.true_and,cond_true,hn,Bool.false_and];cases(m.Colors == [] && (m.Shape == [] && m.Topmark == []))<;>rfl
 | false=>
  simp only[Bool.false_and,cond_false]
  cases h1:zjc m.Kind with
  | false=>rfl
  | true=>
   rw[ydk h1,y4p h1,ytj h1,yis];simp only[Bool.true_and,Bool.not_true,Bool.false_or,bne];cases(m.Colors == zke m.Kind)<;>cases(m.Topmark == [])<;>cases(m.Topmark == zle m.Kind)<;>simp
theorem yvk (m:Mark):zie m=zud m:=by
 rw[ytz];unfold zud znc;have hs:=y3q m;generalize yf (yhh m) ((zo m.Kind).length-0) 0 ()=z at hs ⊢
 cases z with
 | error e=>simp only at hs ⊢;rw[hs]
 | ok u=>simp only at hs ⊢;rw[hs]
def znf (a0:Aid):Bool:=
 (bif (((!(zme a0.Light)) || (!(zif a0.Intensity))) || (!(zdb a0.Sectors)))then false else(bif ((a0.Sectors.length:Int) == 0)then((a0.Light.Colors.length:Int) == 1)else((zeb a0.Sectors) == a0.Light.Colors)))
namespace N73
theorem DD:DOk Tryz.prog (Go.Ab.DD [(127,dP D_zme),(128,dP D_zif),(129,dP D_zdb),(130,dP D_zeb)]):=ya y5t.e <| ya yuv.e <| ya ywv.e <| ya ytt.e <| yc _
theorem dn:type_of% (And.intro @D_zme.eq_1 <| And.intro @D_zif.eq_1 <| And.intro @D_zdb.eq_1 <| @D_zeb.eq_1):=by and_intros<;>intros<;>rfl
theorem den (a0:Aid) (hb0:bdAid a0):Den Tryz.prog 73 [.agg (eAid a0)] (.bool (znf a0)):=by
 generalize hR:znf a0=r;unfold znf at hR;refine di Tryz.func73 Tryz.ntmps73 Tryz.results73 ?_;intro c hL hc hk;obtain⟨hL0,_⟩:=hL;have hw0:bwAid a0:=y9 a0 hL0;clear hL0;simp only[pars,Nat.zero_add];iterate 2 refine rS ?_
 refine AWP.cond rfl (fun hb => ?_) (fun hb => ?_)
 ·replace hR:=ct hR
  refine rS ?_;refine AWP.ret ?_;subst hR;exact es
 ·replace hR:=cf hR
  refine rS ?_;refine AWP.cond rfl (fun hb => ?_) (fun hb => ?_)
  ·replace hR:=ct hR
   refine rS ?_;refine AWP.ret ?_;subst hR;exact es
  ·replace hR:=cf hR
   refine rD 6 ?_;refine AWP.ret ?_;subst hR;exact es
end N73
def D_znf : DF
 | [x0]=>some (.bool (znf (rdG dAid x0)),false,[wG eAid dAid x0,bdAid (rdG dAid x0)])
 | _=>none
theorem ysu:OkD Tryz.prog 73 D_znf:=by unfold D_znf;exact dk N73.den
def zcf (a0:Aid):Bool:=
 ((((((zff a0.Number) && (znb a0.Name)) && (zyb a0.At)) && (zgf a0.Height)) && (zie a0.Mark)) && ((znf a0) || (zte a0)))
namespace N56
theorem DD:DOk Tryz.prog (Go.Ab.DD [(100,dP D_znb),(104,dP D_zff),(105,dP D_zgf),(106,dP D_zie),(107,dP D_zte),(50,dP D_zyb),(73,dP D_znf)]):=ya y5o.e <| ya yqt.e <| ya y2t.e <| ya y8w.e <| ya ykv.e <| ya yrj.e <| ya ysu.e <| yc _
theorem dn:type_of% (And.intro @D_znb.eq_1 <| And.intro @D_zff.eq_1 <| And.intro @D_zgf.eq_1 <| And.intro @D_zie.eq_1 <| And.intro @D_zte.eq_1 <| And.intro @D_zyb.eq_1 <| @D_znf.eq_1):=by and_intros<;>intros<;>rfl
theorem den (a0:Aid) (hb0:bdAid a0):Den Tryz.prog 56 [.agg (eAid a0)] (.bool (zcf a0)):=by
 generalize hR:zcf a0=r;unfold zcf at hR;refine di Tryz.func56 Tryz.ntmps56 Tryz.results56 ?_;intro c hL hc hk;obtain⟨hL0,_⟩:=hL;have hw0:bwAid a0:=y9 a0 hL0;clear hL0;simp only[pars,Nat.zero_add];iterate 2 refine rS ?_
 refine AWP.ret ?_;subst hR;exact es
end N56
def D_zcf : DF
 | [x0]=>some (.bool (zcf (rdG dAid x0)),false,[wG eAid dAid x0,bdAid (rdG dAid x0)])
 | _=>none
theorem ynw:OkD Tryz.prog 56 D_zcf:=by unfold D_zcf;exact dk N56.den
def ybi (a0:(List Aid)) (i1:Nat) (s1:Unit):Except (Bool) (Unit):=
 (bif ((!(zcf (a0.getD i1 default))) || (decide (0<(i1:Int)) && decide (((a0.getD i1 default).Number)<=((a0.getD ((IntKind.wrap .i64 ((i1:Int)-1)).toNat) default).Number))))then .error false else .ok ())
def zrb (a0:(List Aid)):Bool:=
 (match yf (ybi a0) (a0.length-0) 0 ()with|.error e=>e|.ok s1=>(zw (a0.length:Int) 24))
namespace N59
theorem DD:DOk Tryz.prog (Go.Ab.DD [(112,dP D_zw),(56,dP D_zcf)]):=ya yck.e <| ya ynw.e <| yc _
theorem dn:type_of% (And.intro @D_zw.eq_1 <| @D_zcf.eq_1):=by and_intros<;>intros<;>rfl
theorem den (a0:(List Aid)) (hb0:a0.length<1099511627776) (hb1:∀ v∈a0,bdAid v):Den Tryz.prog 59 [encL 16 eAid a0] (.bool (zrb a0)):=by
 generalize hR:zrb a0=r;unfold zrb at hR;refine di Tryz.func59 Tryz.ntmps59 Tryz.results59 ?_;intro c hL hc hk;obtain⟨hL0,_⟩:=hL;have hw0:a0.length<9223372036854775808:=Nat.lt_succ_of_le (ye hL0).1;have hw1:∀ v∈a0,bwAid v:=fun v hv=>y9 v ((ye hL0).2 v hv)
 clear hL0;simp only[pars,Nat.zero_add];iterate 2 refine rS ?_
 refine AWP.block ?_;generalize hz1:yf (ybi a0) (a0.length-0) 0 ()=z1 at hR;refine AWP.range (ybi a0) (fun i1 s1=>⟨[(0,encL 16 eAid a0),(5,encL 16 eAid a0),(6,.int .i64 (a0.length:Int)),(7,.int .i64 (i1:Int))],[]⟩) (fun i1 s1=>True) (a0.length) 0 () [] hz1 ot wt sm ?_;clear hz1;intro i1 s1 hi1 hW1 hz1;refine rS ?_;refine AWP.seq ?_;refine AWP.cond rfl (fun hb => ?_) (fun hb => ?_)
 ·have hlt1:i1<a0.length:=ot
  rw[yk hlt1]at hz1;simp only[ybi]at hz1;refine rS ?_;refine rD 18 ?_;refine AWP.cond rfl (fun hb => ?_) (fun hb => ?_)
  ·simp only[hb,cond_true]at hz1
   refine rS ?_;refine AWP.ret ?_;subst hz1;dsimp only at hR;subst hR;exact es
  ·simp only[hb,cond_false]at hz1
   refine rS ?_;exact⟨_,[],hlt1,wt,hz1,sm⟩
 ·obtain rfl:i1=a0.length:=ot
  rw[yj (Nat.le_refl _)]at hz1;subst hz1;dsimp only at hR;refine AWP.exit ?_;refine yb ?_;refine rS ?_;refine AWP.ret ?_;subst hR;exact es
end N59
def D_zrb : DF
 | [x0]=>some (.bool (zrb (rdL dAid x0)),false,[wL 16 eAid dAid x0,(rdL dAid x0).length<1099511627776,∀ v∈(rdL dAid x0),bdAid v])
 | _=>none
theorem yfv:OkD Tryz.prog 59 D_zrb:=by unfold D_zrb;exact dk N59.den
def zad (a0:Aid):Bool:=
 (bif (((((!(zb a0.Number 1 9999)) || (!(zib a0.Name))) || (!(zlb a0.At))) || (!(zb a0.Height 0 3000))) || (!(zud a0.Mark)))then false else(bif (zod a0.Light)then(((a0.Sectors.length:Int) == 0) && (a0.Intensity == 0))else(bif (((!(zbf a0.Light)) || (!(zb a0.Intensity 1 100000000))) || (!(zx a0.Sectors)))then false else(bif ((a0.Sectors.length:Int) == 0)then((a0.Light.Colors.length:Int) == 1)else((zfb a0.Sectors) == a0.Light.Colors)))))
namespace N65
theorem DD:DOk Tryz.prog (Go.Ab.DD [(116,dP D_zib),(117,dP D_zlb),(118,dP D_zud),(119,dP D_zod),(120,dP D_zbf),(121,dP D_zx),(122,dP D_zfb),(81,dP D_zb)]):=ya ylo.e <| ya yap.e <| ya yhv.e <| ya yrw.e <| ya ybx.e <| ya yhy.e <| ya ypu.e <| ya yxc.e <| yc _
theorem dn:type_of% (And.intro @D_zib.eq_1 <| And.intro @D_zlb.eq_1 <| And.intro @D_zud.eq_1 <| And.intro @D_zod.eq_1 <| And.intro @D_zbf.eq_1 <| And.intro @D_zx.eq_1 <| And.intro @D_zfb.eq_1 <| @D_zb.eq_1):=by and_intros<;>intros<;>rfl
theorem ol:type_of% (@zb.eq_1):=@zb.eq_1
theorem den (a0:Aid) (hb0:bdAid a0):Den Tryz.prog 65 [.ep (eAid a0)] (.bool (zad a0)):=by
 generalize hR:zad a0=r;unfold zad at hR;refine di Tryz.func65 Tryz.ntmps65 Tryz.results65 ?_;intro c hL hc hk;obtain⟨hL0,_⟩:=hL;have hw0:bwAid a0:=y9 a0 hL0;clear hL0;simp only[pars,Nat.zero_add];iterate 2 refine rS ?_
 refine AWP.cond rfl (fun hb => ?_) (fun hb => ?_)
 ·replace hR:=ct hR
  refine rS ?_;refine AWP.ret ?_;subst hR;exact es
 ·replace hR:=cf hR
  refine rS ?_;refine AWP.cond rfl (fun hb => ?_) (fun hb => ?_)
  ·replace hR:=ct hR
   refine rS ?_;refine AWP.ret ?_;subst hR;exact es
  ·replace hR:=cf hR
   refine rS ?_;refine AWP.cond rfl (fun hb => ?_) (fun hb => ?_)
   ·replace hR:=ct hR
    refine rS ?_;refine AWP.ret ?_;subst hR;exact es
   ·replace hR:=cf hR
    refine rS ?_;refine AWP.cond rfl (fun hb => ?_) (fun hb => ?_)
    ·replace hR:=ct hR
     refine rS ?_;refine AWP.ret ?_;subst hR;exact es
    ·replace hR:=cf hR
     refine rD 11 ?_;refine AWP.ret ?_;subst hR;exact es
end N65
def D_zad : DF
 | [x0]=>some (.bool (zad (rdP dAid x0)),false,[wP eAid dAid x0,bdAid (rdP dAid x0)])
 | _=>none
theorem yeu:OkD Tryz.prog 65 D_zad:=by unfold D_zad;exact dk N65.den
def ynl (a0:(List Aid)) (i1:Nat) (s1:Unit):Except (Bool) (Unit):=
 (bif ((!(zad (a0.getD i1 default))) || (decide (0<(i1:Int)) && decide (((a0.getD i1 default).Number)<=((a0.getD ((IntKind.wrap .i64 ((i1:Int)-1)).toNat) default).Number))))then .error false else .ok ())
def zv (a0:(List Aid)):Bool:=
 (match yf (ynl a0) (a0.length-0) 0 ()with|.error e=>e|.ok s1=>decide ((a0.length:Int)<=24))
namespace N80
theorem DD:DOk Tryz.prog (Go.Ab.DD [(65,dP D_zad)]):=ya yeu.e <| yc _
theorem dn:type_of% (@D_zad.eq_1):=by and_intros<;>intros<;>rfl
theorem den (a0:(List Aid)) (hb0:a0.length<1099511627776) (hb1:∀ v∈a0,bdAid v):Den Tryz.prog 80 [encL 16 eAid a0] (.bool (zv a0)):=by
 generalize hR:zv a0=r;unfold zv at hR;refine di Tryz.func80 Tryz.ntmps80 Tryz.results80 ?_;intro c hL hc hk;obtain⟨hL0,_⟩:=hL;have hw0:a0.length<9223372036854775808:=Nat.lt_succ_of_le (ye hL0).1;have hw1:∀ v∈a0,bwAid v:=fun v hv=>y9 v ((ye hL0).2 v hv)
 clear hL0;simp only[pars,Nat.zero_add];iterate 2 refine rS ?_
 refine AWP.block ?_;generalize hz1:yf (ynl a0) (a0.length-0) 0 ()=z1 at hR;refine AWP.range (ynl a0) (fun i1 s1=>⟨[(0,encL 16 eAid a0),(3,.int .i64 (i1:Int))],[]⟩) (fun i1 s1=>True) (a0.length) 0 () [] hz1 ot wt sm ?_;clear hz1;intro i1 s1 hi1 hW1 hz1;refine rS ?_;refine AWP.cond rfl (fun hb => ?_) (fun hb => ?_)
 ·have hlt1:i1<a0.length:=ot
  rw[yk hlt1]at hz1;simp only[ynl]at hz1;refine rD 23 ?_;refine AWP.cond rfl (fun hb => ?_) (fun hb => ?_)
  ·simp only[hb,cond_true]at hz1
   refine rS ?_;refine AWP.ret ?_;subst hz1;dsimp only at hR;subst hR;exact es
  ·simp only[hb,cond_false]at hz1
   refine rS ?_;exact⟨_,[],hlt1,wt,hz1,sm⟩
 ·obtain rfl:i1=a0.length:=ot
  rw[yj (Nat.le_refl _)]at hz1;subst hz1;dsimp only at hR;refine AWP.exit ?_;refine yb ?_;refine rS ?_;refine AWP.ret ?_;subst hR;exact es
end N80
def D_zv : DF
 | [x0]=>some (.bool (zv (rdL dAid x0)),false,[wL 16 eAid dAid x0,(rdL dAid x0).length<1099511627776,∀ v∈(rdL dAid x0),bdAid v])
 | _=>none
theorem yaz:OkD Tryz.prog 80 D_zv:=by unfold D_zv;exact dk N80.den
theorem yit (c:Character) (h:zod c=true):zme c=false:=by
 unfold zod at h;simp only[Bool.and_eq_true,beq_iff_eq]at h;obtain⟨⟨⟨⟨h1,h2⟩,h3⟩,h4⟩,h5⟩:=h;cases c
 simp only at h1 h2 h3 h4 h5;rename_i k g l cs p
 have hg:g=[]:=List.length_eq_zero_iff.1 (by omega);subst h1 hg h3 h4 h5;decide
theorem ynu (a:Aid):zte a=((zod a.Light && ((a.Sectors.length:Int) == 0)) && (a.Intensity == 0)):=by
 unfold zte zhf zod;rw[ysi]
 have:decide (a.Light.Group=[])=((a.Light.Group.length:Int) == 0):=by
  cases a.Light.Group with
  | nil=>rfl
  | cons x l=>simp;omega
 rw[this]
theorem y9m (a:Aid) (hl:a.Light.Colors.length<9223372036854775808) (hs:a.Sectors.length<9223372036854775807):zcf a=zad a:=by
 unfold zcf zad;rw[ynu];unfold znf;rw[ysh a.Sectors hs,y7l,yvk,y4r];have e1:zff a.Number=zb a.Number 1 9999:=rfl;have e2:zyb a.At=zlb a.At:=rfl;have e3:zgf a.Height=zb a.Height 0 3000:=rfl;have e4:zif a.Intensity=zb a.Intensity 1 100000000:=rfl;rw[e1,e2,e3,e4]
 cases hp:zod a.Light with
 | true=>
  rw[yit _ hp];simp only[Bool.not_false,Bool.true_or,cond_true,Bool.true_and,Bool.false_or];cases zb a.Number 1 9999<;>cases zib a.Name<;>cases zlb a.At<;>cases zb a.Height 0 3000<;>cases zud a.Mark<;>rfl
 | false=>
  rw[ycx a.Light hl];simp only[Bool.false_and,Bool.or_false,cond_false];cases zb a.Number 1 9999<;>cases zib a.Name<;>cases zlb a.At<;>cases zb a.Height 0 3000<;>cases zud a.Mark<;>rfl
theorem y0k (l:List Aid) (h:∀ v∈l,v.Light.Colors.length<9223372036854775808/\v.Sectors.length<9223372036854775807):zrb l=zv l:=by
 unfold zrb zv
 rw[yjj (b:=ybi l) (b':=ynl l) (l.length-0) 0 () (fun j u _ hj=>by
  have:=yze (p:=fun v:Aid=>v.Light.Colors.length<9223372036854775808/\v.Sectors.length<9223372036854775807) h ⟨by decide,by decide⟩ j
  simp only[ybi,ynl,y9m _ this.1 this.2])]
 rfl
theorem yrs {a:List Aid} (h:zv a=true):a.length<=24:=by
 unfold zv at h;split at h
 ·rename_i e he
  obtain⟨j,t,_,_,h3⟩:=yzc he;simp only[ynl,Bool.cond_eq_ite]at h3;split at h3
  ·cases h3;cases h
  ·cases h3
 ·have:=of_decide_eq_true h;omega
theorem yjr {a:List Aid} (h:zrb a=true):a.length<=24:=by
 unfold zrb at h;split at h
 ·rename_i e he
  obtain⟨j,t,_,_,h3⟩:=yzc he;simp only[ybi,Bool.cond_eq_ite]at h3;split at h3
  ·cases h3;cases h
  ·cases h3
 ·unfold zw at h;have:=of_decide_eq_true h;omega
def aidL (v:Aid):Prop:=v.Light.Colors.length<9223372036854775808/\v.Sectors.length<9223372036854775807
def ltA (a b:Aid):Prop:=a.Number<b.Number
theorem yvr (a b c:Aid) (h:ltA a b) (k:ltA b c):ltA a c:=by unfold ltA at *;omega
def okA (l:List Aid):Prop:=(∀ v∈l,zad v=true)/\l.Pairwise ltA/\l.length<=24
theorem y7y (l:List Aid):zv l=true↔okA l:=by
 unfold zv;refine Iff.trans (ywn (b:=ynl l) (fun j=>(!(zad (l.getD j default))) || (decide (0<(j:Int)) && decide (((l.getD j default).Number)<=((l.getD ((IntKind.wrap .i64 ((j:Int)-1)).toNat) default).Number)))) l.length _ (fun j u _=>rfl)) ?_;unfold okA;rw[ydz ltA yvr l,decide_eq_true_eq]
 have e:∀ j:Nat,0<j->j<l.length->l.length<9223372036854775808->(IntKind.wrap .i64 ((j:Int)-1)).toNat=j-1:=by
  intro j h0 h1 h2;rw[IntKind.wrap_i64];omega
 constructor
 ·rintro⟨h1,h2⟩
  have h2':l.length<=24:=by omega
  refine⟨fun v hv => ?_,fun j hj => ?_,h2'⟩
  ·obtain⟨j,hj,rfl⟩:=List.getElem_of_mem hv
   have:=h1 j hj;rw[Bool.or_eq_false_iff]at this;have h3:=this.1;rw[List.getD_eq_getElem?_getD,List.getElem?_eq_getElem hj]at h3;simpa using h3
  ·have:=h1 (j+1) hj
   rw[Bool.or_eq_false_iff,e (j+1) (by omega) hj (by omega)]at this;have h3:=this.2;simp only[Nat.add_sub_cancel]at h3;unfold ltA;simp only[Bool.and_eq_false_iff,decide_eq_false_iff_not]at h3;rcases h3 with h3|h3<;>omega
 ·rintro⟨h1,h2,h3⟩
  refine⟨fun j hj => ?_,by omega⟩;rw[Bool.or_eq_false_iff];constructor
  ·have:l.getD j default∈l:=by
    rw[List.getD_eq_getElem?_getD,List.getElem?_eq_getElem hj];exact List.getElem_mem hj
   rw[h1 _ this];rfl
  ·cases j with
   | zero=>simp
   | succ j=>
    rw[e (j+1) (by omega) hj (by omega)];have:=h2 j hj;unfold ltA at this;simp only[Nat.add_sub_cancel,Bool.and_eq_false_iff,decide_eq_false_iff_not];right;omega
def ydn (a0:(List Int)) (a1:Int) (i1:Nat) (s1:Int×List Int):Except (Int×(List Int)) (Int×List Int):=
 .ok (IntKind.wrap .i64 (s1.1+1),s1.2.set i1 s1.1)
def zd (a0:(List Int)) (a1:Int):Int×(List Int):=
 (match yf (ydn a0 a1) (a0.length-0) 0 (a1,a0)with|.error e=>e|.ok s1=>(s1.1,s1.2))
namespace N30
theorem DD:DOk Tryz.prog (Go.Ab.DD []):=yc _
theorem den (a0:(List Int)) (a1:Int)  : DenM Tryz.prog 30 [ownL 2 1 yl a0,.int .i64 a1] (.int .i64 ((zd a0 a1).1)) [(ownL 2 1 yl ((zd a0 a1).2)),.any]:=by
 generalize hR:zd a0 a1=r;unfold zd at hR;refine dj (gb:=[true,false]) Tryz.func30 Tryz.ntmps30 Tryz.results30 ?_;intro c hL hc hk;obtain⟨hL0,hL1,_⟩:=hL;have hw0:a0.length<9223372036854775808:=Nat.lt_succ_of_le (ydc hL0).1;clear hL0 hL1;simp only[adEL,adE,adRL,adR,ownL,encL,sv,List.nil_append,List.append_nil,List.cons_append,List.length_cons,List.length_nil,pars,Nat.zero_add,Nat.reduceAdd]at hk ⊢;iterate 2 refine rS ?_
 refine AWP.block ?_;generalize hz1:yf (ydn a0 a1) (a0.length-0) 0 (a1,a0)=z1 at hR;refine AWP.range (ydn a0 a1) (fun i1 s1=>⟨[(0,.ref 0 1 0 s1.2.length),(1,.int .i64 s1.1),(5,.int .i64 (i1:Int))],[.arr 2 1 s1.2.length (fun j=>yl (s1.2.getD j default))]⟩) (fun i1 s1=>s1.2.length=a0.length) (a0.length) 0 (a1,a0) [0] hz1 ot wt sm ?_;clear hz1;intro i1 s1 hi1 hW1 hz1;refine rS ?_;refine AWP.cond rfl (fun hb => ?_) (fun hb => ?_)
 ·have hlt1:i1<a0.length:=ot
  rw[yk hlt1]at hz1;simp only[ydn]at hz1;iterate 3 refine rS ?_
  exact⟨_,[0],hlt1,wt,hz1,sm⟩
 ·obtain rfl:i1=a0.length:=ot
  rw[yj (Nat.le_refl _)]at hz1;subst hz1;dsimp only at hR;refine AWP.exit ?_;refine yb ?_;refine rS ?_;refine AWP.ret ?_;subst hR;exact es
end N30
def D_zd : List AV -> Option (AV × List AV × List Prop)
 | [x0,x1]=>some (.int .i64 ((zd (rdL yab x0) (rdI x1)).1),[(ownL 2 1 yl ((zd (rdL yab x0) (rdI x1)).2)),.any],[wO 2 1 yl yab x0,wI .i64 x1])
 | _=>none
theorem ypr:OkM Tryz.prog 30 D_zd:=by unfold D_zd;exact dm N30.den
def yxt (a0:Int) (s1:Int×List UInt8):Except (Sum ((List UInt8)) (Int×List UInt8)) (Int×List UInt8):=
 (bif decide (0<s1.1)then .ok (IntKind.wrap .i64 (s1.1.tdiv 10),(([IntKind.wrap .u8 (IntKind.wrap .i64 (48+(s1.1.tmod 10)))]:List Int).map fun z=>UInt8.ofNat z.toNat)++s1.2)else .error (.inr (s1.1,s1.2)))
def zk (a0:Int):(List UInt8):=
 (bif decide (a0<=0)then[109,48]else(match yfc (yxt a0) (((a0).toNat)+1) (a0,[])with|.error (.inl e)=>e|.error (.inr s1)=>[109]++s1.2|.ok _=>default))
namespace N83
theorem DD:DOk Tryz.prog (Go.Ab.DD []):=yc _
theorem den (a0:Int) (hp0:a0<=9223372036854775807):Den Tryz.prog 83 [.int .i64 a0] (.str (zk a0)):=by
 generalize hR:zk a0=r;unfold zk at hR;refine di Tryz.func83 Tryz.ntmps83 Tryz.results83 ?_;intro c hL hc hk;clear hL;simp only[pars,Nat.zero_add];iterate 2 refine rS ?_
 refine AWP.cond rfl (fun hb => ?_) (fun hb => ?_)
 ·replace hR:=ct hR
  refine rS ?_;refine AWP.ret ?_;subst hR;exact es
 ·replace hR:=cf hR
  refine rS ?_;refine AWP.seq ?_;refine AWP.block ?_;generalize hz1:yfc (yxt a0) (((a0).toNat)+1) (a0,[])=z1 at hR;refine AWP.whileW (yxt a0) (fun s1=>⟨[(0,.int .i64 s1.1),(3,.str s1.2)],[]⟩) (fun s1=>0<=s1.1/\s1.2.length<=19/\s1.1 * 10 ^ s1.2.length<=a0) (fun s1=>(s1.1).toNat) (((a0).toNat)+1) (a0,[]) [] hz1 m0 (by(refine⟨by have:=of_decide_eq_false hb;simp only;omega,by simp,by simp⟩)) sm ?_;clear hz1;intro s1 k1 hW1 hm1 hz1;simp only[yxt]at hz1;refine rS ?_;refine AWP.cond rfl (fun hb => ?_) (fun hb => ?_)
  ·simp only[hb,cond_true]at hz1
   iterate 2 refine rS ?_
   exact⟨_,[],by(exact Nat.lt_of_lt_of_le (digd hW1 hb hp0) (Nat.le_of_lt_succ hm1)),by(exact digw rfl hW1 hb hp0),hz1,sm⟩
  ·simp only[hb,cond_false]at hz1
   refine AWP.exit ?_;refine yb ?_;subst hz1;dsimp only at hR;refine rS ?_;refine AWP.ret ?_;subst hR;exact es
end N83
def D_zk : DF
 | [x0]=>some (.str (zk (rdI x0)),false,[wI .i64 x0,(rdI x0)<=9223372036854775807])
 | _=>none
theorem ydt:OkD Tryz.prog 83 D_zk:=by unfold D_zk;exact dk N83.den
end Go.Ab
