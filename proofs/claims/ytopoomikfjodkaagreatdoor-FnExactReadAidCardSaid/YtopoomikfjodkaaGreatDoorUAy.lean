/- A part of a proof: walks of functions and lemmas of our own. No conditions. -/
import Derived.Test.YtopoomikfjodkaaGreatDoorUAx
import Derived.Test.YtopoomikfjodkaaGreatDoorUAr
import Derived.Test.YtopoomikfjodkaaGreatDoorUAq
import Derived.Test.YtopoomikfjodkaaGreatDoorUAo
import Derived.Test.YtopoomikfjodkaaGreatDoorUAl
import Derived.Test.YtopoomikfjodkaaGreatDoorUAt
import Derived.Test.YtopoomikfjodkaaGreatDoorUAs
import Derived.Test.YtopoomikfjodkaaGreatDoorUAk
import Derived.Test.YtopoomikfjodkaaGreatDoorUAv
import Derived.Test.YtopoomikfjodkaaGreatDoorUAw
set_option linter.unusedSectionVars false
set_option linter.unusedVariables false
set_option linter.unusedSimpArgs false
set_option maxHeartbeats 1000000
namespace Go.Ab
open Go Go.Proofs
theorem y2d {n:Int} (h:0≤n) (b:UInt8) (hb:b.toNat<48∨57<b.toNat):b∉Lib.itoa n:=by
 obtain⟨d1,_,_,_⟩:=y4 n.natAbs
 rw[ykd (by omega)]
 intro hm
 have:=d1 b hm
 omega
theorem ylc {n:Int} (h1:0≤n) (h2:n≤1000000):ytb (Lib.itoa n)=(n,true):=by
 rcases y3h (Lib.itoa n)with⟨m,hm,he,hr⟩|⟨hn,_⟩
 ·rw[hr,y9l he]
 ·exact absurd rfl (hn n (by unfold E18;omega))
theorem y02 (b : UInt8) (hb : b ≠ 43) : ∀ (xs : List (List UInt8)), (∀ x ∈ xs, b ∉ x) → b ∉ Lib.join xs [43]
 | [],_=>by simp[Lib.join_nil]
 | x::r,h=>by
  rw[Lib.join_cons]
  intro hm
  rcases List.mem_append.1 hm with hm|hm
  ·exact h x (by simp) hm
  ·unfold Lib.joinTail at hm
   rw[List.mem_flatten]at hm
   obtain⟨l,hl,hbl⟩:=hm
   obtain⟨y,hy,rfl⟩:=List.mem_map.1 hl
   rcases List.mem_append.1 hbl with h9|h9
   ·rw[List.mem_singleton]at h9;exact hb h9
   ·exact h y (by simp[hy]) h9
theorem yhh (b : UInt8) : ∀ (x : List UInt8) (r : List (List UInt8)), b ∉ x → (∀ y ∈ r, b ∉ y) → yl b (x ++ Lib.joinTail [b] r) = x :: r
 | x,[],hx,_=>by simp[Lib.joinTail,ylb b x hx]
 | x,y::r,hx,hr=>by
  have e:Lib.joinTail [b] (y::r)=b::(y++Lib.joinTail [b] r):=by simp[Lib.joinTail]
  rw[e,ykb b x _ hx,yhh b y r (hr y (by simp)) (fun z hz=>hr z (by simp[hz]))]
theorem yud (g:List Int) (hg:g≠[]) (h2:∀ v∈g,1≤v∧v≤9):yl 43 (Lib.join (g.map Lib.itoa) [43])=g.map Lib.itoa:=by
 cases g with
 | nil=>exact absurd rfl hg
 | cons x r=>
  rw[List.map_cons,Lib.join_cons]
  refine yhh 43 _ _ (y2d (by have:=h2 x (by simp);omega) 43 (by decide)) ?_
  intro y hy
  obtain⟨z,hz,rfl⟩:=List.mem_map.1 hy
  exact y2d (by have:=h2 z (by simp[hz]);omega) 43 (by decide)
theorem yq3 (k:Int) (h:1≤k∧k≤8):(40:UInt8)∉kt k∧(32:UInt8)∉kt k:=by
 rcases(show k=1∨k=2∨k=3∨k=4∨k=5∨k=6∨k=7∨k=8 by omega)with h|h|h|h|h|h|h|h<;>subst h<;>decide
theorem yxm (n:Int) (h1:0<n) (h2:n≤600):zmd (secT n)=(n,true):=by
 have hm:n.tmod 10=n % 10:=Int.tmod_eq_emod_of_nonneg (by omega)
 have z0:Lib.itoa 0=[48]:=by
  rw[ykd (by omega)]
  first|rfl|decide|(rw[show(0:Int).natAbs=0 from rfl,Lib.decDigits];rfl)
 have e0:zk [48]=(0,true):=by
  have:=ylc (n:=0) (by omega) (by omega)
  rw[z0]at this
  exact this
 have e1:zk (Lib.itoa (n / 10))=(n / 10,true):=ylc (by omega) (by omega)
 have hst:=yvs n (by omega) h2
 have hcut:∀ s,zb s [46]=Lib.cut s [46]:=fun s=>rfl
 unfold zmd
 simp only[hcut]
 have hw:∀ m:Int,0≤m→m≤100000→IntKind.wrap .i64 m=m:=fun m _ _=>by rw[IntKind.wrap_i64];omega
 by_cases h:n.tmod 10=0
 ·have hs:secT n=Lib.itoa (n / 10):=by unfold secT;rw[if_pos h]
  rw[hs]at hst ⊢
  rw[yni _ 46 (y2d (by omega) 46 (by decide))]
  simp only[Bool.not_false,cond_true]
  rw[e0,e1]
  simp only
  rw[hw (10 * (n / 10)) (by omega) (by omega),hw (10 * (n / 10)+0) (by omega) (by omega),show 10 * (n / 10)+0=n by omega,hst]
  have w1:zh (n / 10) 0 1200=true:=by unfold zh;rw[decide_eq_true (by omega),decide_eq_true (by omega)];rfl
  rw[w1]
  simp[zh]
 ·have hs:secT n=Lib.itoa (n / 10)++(46::Lib.itoa (n % 10)):=by unfold secT;rw[if_neg h]
  have e2:zk (Lib.itoa (n % 10))=(n % 10,true):=ylc (by omega) (by omega)
  rw[hs]at hst ⊢
  rw[yke _ _ 46 (y2d (by omega) 46 (by decide))]
  simp only[Bool.not_true,cond_false]
  rw[e1,e2]
  simp only
  rw[hw (10 * (n / 10)) (by omega) (by omega),hw (10 * (n / 10)+n % 10) (by omega) (by omega),show 10 * (n / 10)+n % 10=n by omega,hst]
  have w1:zh (n / 10) 0 1200=true:=by unfold zh;rw[decide_eq_true (by omega),decide_eq_true (by omega)];rfl
  have w2:zh (n % 10) 0 9=true:=by unfold zh;rw[decide_eq_true (by omega),decide_eq_true (by omega)];rfl
  rw[w1,w2]
  simp
end Go.Ab

namespace Go.Ab
open Go Go.Proofs
theorem y0p (a b:List UInt8):ze a b=(Lib.trimSuffix a b,Lib.hasSuffix a b):=rfl
theorem yrq (a b:List UInt8):zb a b=Lib.cut a b:=rfl
theorem ysl (k : Int) (hk : 1 ≤ k ∧ k ≤ 8) (b : Int × Int → Except (Sum (Character × Bool) (Int × Int)) (Int × Int))
  (hb:∀ s,b s=(bif decide (s.1≤8)then(bif ((zub s.1) == kt k)then .ok (IntKind.wrap .i64 (s.1+1),s.1)else .ok (IntKind.wrap .i64 (s.1+1),s.2))else .error (.inr (s.1,s.2)))) :
  y6 b (((9-(1:Int)).toNat)+1) (1,0)=.error (.inr (9,k)):=by
 have e:b=fun s=>(bif decide (s.1≤8)then(bif ((zub s.1) == kt k)then .ok (IntKind.wrap .i64 (s.1+1),s.1)else .ok (IntKind.wrap .i64 (s.1+1),s.2))else .error (.inr (s.1,s.2))):=funext hb
 rw[e]
 rcases(show k=1∨k=2∨k=3∨k=4∨k=5∨k=6∨k=7∨k=8 by omega)with h|h|h|h|h|h|h|h<;>subst h<;>rfl
theorem ya2 {ρ : Type} (g : List Int) (h2 : ∀ v ∈ g, 1 ≤ v ∧ v ≤ 9) (r : Nat → List Int → ρ) (b : Nat → List Int → Except ρ (List Int))
  (hb:∀ i s,b i s=(bif (!(zk ((g.map Lib.itoa).getD i default)).2)then .error (r i s)else .ok (s++([(zk ((g.map Lib.itoa).getD i default)).1]:List Int)))) :
  yd b ((g.map Lib.itoa).length-0) 0 []=.ok g:=by
 rw[List.length_map,Nat.sub_zero]
 rw[yjc b (fun j=>[id (g.getD j default)]) g.length 0 [] (fun j s _ hj=>by
  have hj2:j<g.length:=by omega
  have e:(g.map Lib.itoa).getD j default=Lib.itoa (g.getD j default):=by
   rw[List.getD_eq_getElem?_getD,List.getD_eq_getElem?_getD,List.getElem?_map,List.getElem?_eq_getElem hj2];rfl
  have hr:=y9e h2 j
  have e2:zk (Lib.itoa (g.getD j default))=(g.getD j default,true):=ylc (by omega) (by omega)
  rw[hb,e,e2];rfl),yne g default id]
 simp
theorem yow (c:Character) (h:zbb c=true) (h8:c.Kind≠8) (hL:c.Letter≠[]):c.Letter=[76]∧c.Group=[6]:=by
 unfold zbb at h
 simp only[Bool.cond_eq_ite]at h
 repeat' split at h
 all_goals (try simp only[Bool.and_eq_true,Bool.or_eq_true,beq_iff_eq,yxe,decide_eq_true_eq]at *)
 all_goals first
  | (exact absurd h.2 hL;done)
  | (exact absurd h.1 hL;done)
  | (exact h)
  | (rename_i q;exact absurd q hL)
  | (rename_i q;exact absurd q h8)
  | (cases h;done)
theorem y1k (c:Character) (h:zbb c=true) (h8:c.Kind=8):c.Group=[]∧c.Letter.length=1∧65≤(c.Letter.getD 0 0).toNat∧(c.Letter.getD 0 0).toNat≤90:=by
 unfold zbb at h
 rw[h8]at h
 have h:(((zkb c.Letter) != []) && ((c.Group.length:Int) == 0))=true:=h
 rw[Bool.and_eq_true,beq_iff_eq,ykm,decide_eq_true_eq]at h
 exact⟨List.length_eq_zero_iff.1 (by omega),h.1⟩
theorem ydn (k:Int) (h:1≤k∧k≤8):Lib.hasSuffix (kt k) [43,76,70,108]=false:=by
 rcases(show k=1∨k=2∨k=3∨k=4∨k=5∨k=6∨k=7∨k=8 by omega)with h|h|h|h|h|h|h|h<;>subst h<;>decide
theorem yhi (x:List UInt8):Lib.hasSuffix (x++[41]) [43,76,70,108]=false:=yik x [43,76,70] 41 108 (by decide)
theorem y9w (c:Character) (h:zbb c=true):zj (yjd c)=({ Kind:=c.Kind,Group:=c.Group,Letter:=c.Letter,Colors:=[],Period:=0:Character },true):=by
 have hk:=ybd c h
 obtain⟨g1,g2⟩:=y9c c h
 have h40:=(yq3 c.Kind hk).1
 unfold yjd
 by_cases h8:c.Kind=8
 ·obtain⟨f1,f2⟩:=y1k c h h8
  rw[if_pos h8,f1,h8]
  have eH:kt 8++40::(c.Letter++[41])=(kt 8++40::c.Letter)++[41]:=by simp
  have c1:ze (kt 8++40::(c.Letter++[41])) [43,76,70,108]=(kt 8++40::(c.Letter++[41]),false):=by
   rw[y0p,eH,yhi,y3d _ _ (yhi _)]
  have c2:zb (kt 8++40::(c.Letter++[41])) [40]=(kt 8,c.Letter++[41],true):=by rw[yrq,yke _ _ 40 (by decide)]
  have c3:ze (c.Letter++[41]) [41]=(c.Letter,true):=by rw[y0p,y1b,ydc]
  have hw:=ysl 8 (by omega) (y4i (kt 8++40::(c.Letter++[41]))) (fun s=>by unfold y4i;rw[c1];simp only;rw[c2])
  unfold zj
  rw[c1]
  simp only
  rw[c2]
  simp only
  rw[c3,hw]
  rfl
 ·rw[if_neg h8]
  have e8:(c.Kind == 8)=false:=by rw[beq_eq_false_iff_ne];exact h8
  by_cases hL:c.Letter=[]
  ·rw[if_pos hL,List.append_nil,hL]
   by_cases hg:c.Group=[]
   ·have eg:grpT c.Group=[]:=by rw[hg];rfl
    rw[eg,List.append_nil,hg]
    have c1:ze (kt c.Kind) [43,76,70,108]=(kt c.Kind,false):=by
     rw[y0p,ydn _ hk,y3d _ _ (ydn _ hk)]
    have c2:zb (kt c.Kind) [40]=(kt c.Kind,[],false):=by rw[yrq,yni _ 40 h40]
    have hw:=ysl c.Kind hk (y4i (kt c.Kind)) (fun s=>by unfold y4i;rw[c1];simp only;rw[c2])
    unfold zj
    rw[c1]
    simp only
    rw[c2,hw]
    rfl
   ·have eg:grpT c.Group=40::(Lib.join (c.Group.map Lib.itoa) [43]++[41]):=by unfold grpT;rw[if_neg hg]
    rw[eg]
    generalize hJ:Lib.join (c.Group.map Lib.itoa) [43]=J
    have eH:kt c.Kind++40::(J++[41])=(kt c.Kind++40::J)++[41]:=by simp
    have c1:ze (kt c.Kind++40::(J++[41])) [43,76,70,108]=(kt c.Kind++40::(J++[41]),false):=by
     rw[y0p,eH,yhi,y3d _ _ (yhi _)]
    have c2:zb (kt c.Kind++40::(J++[41])) [40]=(kt c.Kind,J++[41],true):=by rw[yrq,yke _ _ 40 h40]
    have c3:ze (J++[41]) [41]=(J,true):=by rw[y0p,y1b,ydc]
    have c4:zd J [43]=c.Group.map Lib.itoa:=by
     show yl 43 J=_
     rw[← hJ];exact yud _ hg g2
    have hw:=ysl c.Kind hk (y4i (kt c.Kind++40::(J++[41]))) (fun s=>by unfold y4i;rw[c1];simp only;rw[c2])
    have hg4:∀ s,yd (y5p (kt c.Kind++40::(J++[41])) s) ((c.Group.map Lib.itoa).length-0) 0 []=.ok c.Group:=fun s=>ya2 c.Group g2 (fun _ _=>({ Kind:=0,Group:=[],Letter:=[],Colors:=[],Period:=0:Character },false)) _ (fun i t=>by unfold y5p;rw[c1];simp only;rw[c2];simp only;rw[c3];simp only;rw[c4])
    unfold zj
    rw[c1]
    simp only
    rw[c2]
    simp only
    rw[c3]
    simp only
    rw[c4,hw]
    simp only[hg4,e8,cond_false,Bool.not_true]
  ·obtain⟨l1,l2⟩:=yow c h h8 hL
   rw[if_neg hL]
   have hg:c.Group≠[]:=by rw[l2];simp
   have eg:grpT c.Group=40::(Lib.join (c.Group.map Lib.itoa) [43]++[41]):=by unfold grpT;rw[if_neg hg]
   rw[eg]
   generalize hJ:Lib.join (c.Group.map Lib.itoa) [43]=J
   have eH:kt c.Kind++(40::(J++[41])++[43,76,70,108])=(kt c.Kind++40::(J++[41]))++[43,76,70,108]:=by simp
   rw[eH,l1]
   have c1:ze ((kt c.Kind++40::(J++[41]))++[43,76,70,108]) [43,76,70,108]=(kt c.Kind++40::(J++[41]),true):=by
    rw[y0p,y1b,ydc]
   have c2:zb (kt c.Kind++40::(J++[41])) [40]=(kt c.Kind,J++[41],true):=by rw[yrq,yke _ _ 40 h40]
   have c3:ze (J++[41]) [41]=(J,true):=by rw[y0p,y1b,ydc]
   have c4:zd J [43]=c.Group.map Lib.itoa:=by
    show yl 43 J=_
    rw[← hJ];exact yud _ hg g2
   have hw:=ysl c.Kind hk (yjq ((kt c.Kind++40::(J++[41]))++[43,76,70,108])) (fun s=>by unfold yjq;rw[c1];simp only;rw[c2])
   have hg4:∀ s,yd (y6p ((kt c.Kind++40::(J++[41]))++[43,76,70,108]) s) ((c.Group.map Lib.itoa).length-0) 0 []=.ok c.Group:=fun s=>ya2 c.Group g2 (fun _ _=>({ Kind:=0,Group:=[],Letter:=[],Colors:=[],Period:=0:Character },false)) _ (fun i t=>by unfold y6p;rw[c1];simp only;rw[c2];simp only;rw[c3];simp only;rw[c4])
   unfold zj
   rw[c1]
   simp only
   rw[c2]
   simp only
   rw[c3]
   simp only
   rw[c4,hw]
   simp only[hg4,e8,cond_false,cond_true,Bool.not_true]
end Go.Ab

namespace Go.Ab
open Go Go.Proofs
def zne (a0:Point):(List UInt8):=
 (bif (!(zrc a0))then[]else((zn a0.X)++[44])++(zn a0.Y))
namespace N108
theorem DD:DOk Tryz.prog (Go.Ab.DD [(107,dP D_zn),(211,dP D_zrc)]):=ya yjj.e <| ya y2l.e <| ye _
theorem dn:type_of% (And.intro @D_zn.eq_1 <| @D_zrc.eq_1):=by and_intros<;>intros<;>rfl
theorem gr {p:Prop} (h:p:=by(grind [yqe]);first|done|fail):p:=h
theorem o0 {p:Prop} (h:p:=by(first|(have h9:=yk3 (p:=a0) (by assumption);have l1:=yqe a0.X;have l2:=yqe a0.Y;(repeat' with_reducible apply And.intro)<;>(first|omega|assumption|(simp only[List.length_append,List.length_cons,List.length_nil,List.length_singleton];omega)|(refine Nat.le_trans (y5g _ _) ?_;simp only[jl,List.length_cons,List.length_nil];omega))));first|done|fail):p:=h
set_option maxHeartbeats 1000000 in
set_option maxRecDepth 20000 in
theorem den (a0:Point)  : Den Tryz.prog 108 [.agg (ypc a0)] (.str (zne a0)):=by
 generalize hR:zne a0=r
 unfold zne at hR
 refine di Tryz.func108 Tryz.ntmps108 Tryz.results108 ?_
 intro c hL hc hk
 clear hL
 simp only[pars,Nat.zero_add]
 iterate 2 refine rS ?_
 refine AWP.cond rfl (fun hb => ?_) (fun hb => ?_)
 ·replace hR:=ct hR
  refine rS ?_
  refine AWP.ret ?_
  subst hR
  exact es
 ·replace hR:=cf hR
  refine rD 7 ?_
  refine AWP.ret ?_
  subst hR
  exact es
end N108
def D_zne : DF
 | [x0]=>some (.str (zne (rdG yhe x0)),false,[wG ypc yhe x0])
 | _=>none
theorem yd0:OkD Tryz.prog 108 D_zne:=by unfold D_zne;exact dk N108.den
end Go.Ab

namespace Go.Ab
open Go Go.Proofs
def zrf (a0:Point):(List UInt8):=
 ((zi a0.X)++[44])++(zi a0.Y)
end Go.Ab

namespace Go.Ab
open Go Go.Proofs
def zed (a0:Mark):(List UInt8):=
 (bif (!(zhc a0))then[]else(bif (a0.Kind == 0)then(znc 0)else(bif (a0.Topmark == [])then(zob [(znc a0.Kind),a0.Colors,a0.Shape,[45]] [32])else(zob [(znc a0.Kind),a0.Colors,a0.Shape,a0.Topmark] [32]))))
namespace N16
theorem DD:DOk Tryz.prog (Go.Ab.DD [(17,dP D_zhc),(22,dP D_znc),(83,dP D_zob)]):=ya y7l.e <| ya ynm.e <| ya yri.e <| ye _
theorem dn:type_of% (And.intro @D_zhc.eq_1 <| And.intro @D_znc.eq_1 <| @D_zob.eq_1):=by and_intros<;>intros<;>rfl
theorem o0 {p:Prop} (h:p:=by(first|(have h9:=y7v (m:=a0) (by assumption);have l1:=yqw a0.Kind;(repeat' with_reducible apply And.intro)<;>(first|omega|assumption|(simp only[List.length_append,List.length_cons,List.length_nil,List.length_singleton];omega)|(refine Nat.le_trans (y5g _ _) ?_;simp only[jl,List.length_cons,List.length_nil];omega))));first|done|fail):p:=h
theorem lx {p:Prop} (h:p:=by(exact lxx);first|done|fail):p:=h
set_option maxHeartbeats 1000000 in
set_option maxRecDepth 20000 in
theorem den (a0:Mark) (hb0:bdMark a0):Den Tryz.prog 16 [.agg (yrc a0)] (.str (zed a0)):=by
 generalize hR:zed a0=r
 unfold zed at hR
 refine di Tryz.func16 Tryz.ntmps16 Tryz.results16 ?_
 intro c hL hc hk
 obtain⟨hL0,_⟩:=hL
 have hw0:bwMark a0:=y0c a0 hL0
 clear hL0
 simp only[pars,Nat.zero_add]
 iterate 2 refine rS ?_
 refine AWP.cond rfl (fun hb => ?_) (fun hb => ?_)
 ·replace hR:=ct hR
  refine rS ?_
  refine AWP.ret ?_
  subst hR
  exact es
 ·replace hR:=cf hR
  refine rS ?_
  refine AWP.cond rfl (fun hb => ?_) (fun hb => ?_)
  ·replace hR:=ct hR
   refine rS ?_
   refine AWP.ret ?_
   subst hR
   exact es
  ·replace hR:=cf hR
   iterate 2 refine rS ?_
   refine AWP.cond rfl (fun hb => ?_) (fun hb => ?_)
   ·replace hR:=ct hR
    refine rS ?_
    refine rD 8 ?_
    refine AWP.ret ?_
    subst hR
    exact es
   ·replace hR:=cf hR
    refine rD 8 ?_
    refine AWP.ret ?_
    subst hR
    exact es
end N16
def D_zed : DF
 | [x0]=>some (.str (zed (rdG yrd x0)),false,[wG yrc yrd x0,bdMark (rdG yrd x0)])
 | _=>none
theorem ypt:OkD Tryz.prog 16 D_zed:=by unfold D_zed;exact dk N16.den
end Go.Ab

namespace Go.Ab
open Go Go.Proofs
def zpc (a0:Mark):(List UInt8):=
 (bif (a0.Kind == 0)then[110,111,110,101]else(bif (a0.Topmark == [])then(((((((zdb ).getD ((a0.Kind).toNat) default)++[32])++a0.Colors)++[32])++a0.Shape)++[32])++[45]else(((((((zdb ).getD ((a0.Kind).toNat) default)++[32])++a0.Colors)++[32])++a0.Shape)++[32])++a0.Topmark))
namespace N281
theorem DD:DOk Tryz.prog (Go.Ab.DD [(333,dP D_zdb)]):=ya ynr.e <| ye _
theorem DZ:DOk Tryz.prog (Go.Ab.DD [(333,dP Dz_zdb)]):=ya y6v.e <| ye _
theorem dn:type_of% (And.intro @D_zdb.eq_1 <| @Dz_zdb.eq_1):=by and_intros<;>intros<;>rfl
theorem o0 {p:Prop} (h:p:=by(first|((repeat' with_reducible apply And.intro)<;>(first|omega|assumption|(simp only[List.length_append,List.length_cons,List.length_nil,List.length_singleton];omega)|(refine Nat.le_trans (y5g _ _) ?_;simp only[jl,List.length_cons,List.length_nil];omega))));first|done|fail):p:=h
set_option maxHeartbeats 1000000 in
set_option maxRecDepth 20000 in
theorem den (a0:Mark) (hb0:bdMark a0) (hp0:zz a0=true):Den Tryz.prog 281 [.ep (yrc a0)] (.str (zpc a0)):=by
 generalize hR:zpc a0=r
 unfold zpc at hR
 refine di Tryz.func281 Tryz.ntmps281 Tryz.results281 ?_
 intro c hL hc hk
 obtain⟨hL0,_⟩:=hL
 have hw0:bwMark a0:=y0c a0 hL0
 clear hL0
 simp only[pars,Nat.zero_add]
 have h9:=y1f (m:=a0) hp0
 have hn:=ypy a0.Kind.toNat
 have hn2:zdb.length=10:=rfl
 iterate 2 refine rS ?_
 refine AWP.cond rfl (fun hb => ?_) (fun hb => ?_)
 ·replace hR:=ct hR
  refine rS ?_
  refine AWP.ret ?_
  subst hR
  exact es
 ·replace hR:=cf hR
  iterate 2 refine rS ?_
  refine AWP.cond rfl (fun hb => ?_) (fun hb => ?_)
  ·replace hR:=ct hR
   refine rS ?_
   refine rZ 22 ?_
   refine AWP.ret ?_
   subst hR
   exact es
  ·replace hR:=cf hR
   refine rZ 22 ?_
   refine AWP.ret ?_
   subst hR
   exact es
end N281
def D_zpc : DF
 | [x0]=>some (.str (zpc (rdP yrd x0)),false,[wP yrc yrd x0,bdMark (rdP yrd x0),zz (rdP yrd x0)=true])
 | _=>none
theorem yuz:OkD Tryz.prog 281 D_zpc:=by unfold D_zpc;exact dk N281.den
end Go.Ab

namespace Go.Ab
open Go Go.Proofs
def zqf (a0:Mark):(List UInt8):=
 (bif (!(zz a0))then[]else(zpc a0))
end Go.Ab

namespace Go.Ab
open Go Go.Proofs
def yal (a0:(List Sector)) (i1:Nat) (s1:List (List UInt8)):Except ((List UInt8)) (List (List UInt8)):=
 .ok (s1++[(((zn ((a0.getD i1 default).From))++[45])++(zn ((a0.getD i1 default).To)))++((a0.getD i1 default).Color)])
def zfc (a0:(List Sector)):(List UInt8):=
 (bif (!(zx a0))then[]else(bif ((a0.length:Int) == 0)then[45]else(match yd (yal a0) (a0.length-0) 0 ([]:List (List UInt8))with|.error e=>e|.ok s1=>(zob s1 [44]))))
namespace N109
theorem DD:DOk Tryz.prog (Go.Ab.DD [(107,dP D_zn),(215,dP D_zx),(83,dP D_zob)]):=ya yjj.e <| ya ytq.e <| ya yri.e <| ye _
theorem dn:type_of% (And.intro @D_zn.eq_1 <| And.intro @D_zx.eq_1 <| @D_zob.eq_1):=by and_intros<;>intros<;>rfl
theorem gr {p:Prop} (h:p:=by(grind [yqe]);first|done|fail):p:=h
theorem o0 {p:Prop} (h:p:=by(first|((have h8:=hsr (by assumption);have h9:=h8.2 i1;have l1:=yqe (a0.getD i1 default).From;have l2:=yqe (a0.getD i1 default).To;(repeat' with_reducible apply And.intro)<;>(first|omega|assumption|(simp only[List.length_append,List.length_cons,List.length_nil,List.length_singleton];omega)|(refine Nat.le_trans (y5g _ _) ?_;simp only[jl,List.length_cons,List.length_nil];omega))))|(have h8:=hsr (by assumption);obtain⟨w1,w2⟩:=hW1;have h9:=ybg [44] s1 1000 w2;simp only[List.length_singleton]at h9;(repeat' with_reducible apply And.intro)<;>omega));first|done|fail):p:=h
set_option maxHeartbeats 1000000 in
set_option maxRecDepth 20000 in
theorem den (a0:(List Sector)) (hb0:a0.length<1099511627776) (hb1:∀ v∈a0,bdSector v):Den Tryz.prog 109 [encL 3 yj a0] (.str (zfc a0)):=by
 generalize hR:zfc a0=r
 unfold zfc at hR
 refine di Tryz.func109 Tryz.ntmps109 Tryz.results109 ?_
 intro c hL hc hk
 obtain⟨hL0,_⟩:=hL
 have hw0:a0.length<9223372036854775808:=Nat.lt_succ_of_le (ym hL0).1
 have hw1:∀ v∈a0,bwSector v:=fun v hv=>yt v ((ym hL0).2 v hv)
 clear hL0
 simp only[pars,Nat.zero_add]
 have hsr:=fun h=>yty (a:=a0) hb0 h
 iterate 2 refine rS ?_
 refine AWP.cond rfl (fun hb => ?_) (fun hb => ?_)
 ·replace hR:=ct hR
  refine rS ?_
  refine AWP.ret ?_
  subst hR
  exact es
 ·replace hR:=cf hR
  refine rS ?_
  refine AWP.cond rfl (fun hb => ?_) (fun hb => ?_)
  ·replace hR:=ct hR
   refine rS ?_
   refine AWP.ret ?_
   subst hR
   exact es
  ·replace hR:=cf hR
   iterate 2 refine rS ?_
   refine AWP.block ?_
   generalize hz1:yd (yal a0) (a0.length-0) 0 ([]:List (List UInt8))=z1 at hR
   refine AWP.range (yal a0) (fun i1 s1=>⟨[(3,.ref 0 1 0 s1.length),(13,encL 3 yj a0),(14,.int .i64 (a0.length:Int)),(15,.int .i64 (i1:Int))],[.arr 9 1 s1.length (fun j=>eS (s1.getD j default))]⟩) (fun i1 s1=>s1.length≤i1∧∀ v∈s1,v.length≤1000) (a0.length) 0 ([]:List (List UInt8)) [0] hz1 ot wt sm ?_
   clear hz1
   intro i1 s1 hi1 hW1 hz1
   refine rS ?_
   refine AWP.seq ?_
   refine AWP.cond rfl (fun hb => ?_) (fun hb => ?_)
   ·have hlt1:i1<a0.length:=ot
    rw[yh hlt1]at hz1;simp only[yal]at hz1
    refine rS ?_
    refine AWP.regP mixed G_ok DD hc 13 [0,1,2,3,4,5,6,7,8,9,10,11] (.alt 12 [] [0,1,2,5] .leaf .stop) (by kernel_rfl) (by kernel_rfl) (by kernel_rfl) (fun K hK => ?_);simp only[yrf,runN,runP,yqb,nthO,ea,absV,absVL,cput,gv,sv,dn,reduceCtorEq,reduceIte,Nat.reduceBEq,Nat.reduceAdd,Nat.reduceEqDiff,Nat.reduceLT,Nat.reduceLeDiff,Nat.reduceMul,Nat.reduceSub,BEq.rfl,beq_self_eq_true,Int.reduceToNat]
    repeat' apply And.intro
    all_goals first|refine hK _ ?_|exact ot
    all_goals clear hK K
    refine rS ?_
    exact⟨_,[3],hlt1,by(have h8:=hsr (by assumption);have h9:=h8.2 i1;have l1:=yqe (a0.getD i1 default).From;have l2:=yqe (a0.getD i1 default).To;obtain⟨w1,w2⟩:=hW1;(repeat' with_reducible apply And.intro)<;>first|(simp only[List.length_append,List.length_cons,List.length_nil,List.length_singleton];omega)|(intro v hv;exact(List.mem_append.1 hv).elim (fun h=>w2 v h) (fun h=>by rw[List.mem_singleton]at h;subst h;simp only[List.length_append,List.length_cons,List.length_nil,List.length_singleton];omega))),hz1,sm⟩
   ·obtain rfl:i1=a0.length:=ot
    rw[yg (Nat.le_refl _)]at hz1;subst hz1;dsimp only at hR
    refine AWP.exit ?_;refine yb ?_
    refine rS ?_
    refine AWP.ret ?_
    subst hR
    exact es
end N109
def D_zfc : DF
 | [x0]=>some (.str (zfc (rdL yp x0)),false,[wL 3 yj yp x0,(rdL yp x0).length<1099511627776,∀ v∈(rdL yp x0),bdSector v])
 | _=>none
theorem yor:OkD Tryz.prog 109 D_zfc:=by unfold D_zfc;exact dk N109.den
end Go.Ab

namespace Go.Ab
open Go Go.Proofs
def y8w (a0:(List Sector)) (i1:Nat) (s1:List UInt8):Except ((List UInt8)) (List UInt8):=
 (bif decide (0<(i1:Int))then .ok ((s1++[44])++((((zi ((a0.getD i1 default).From))++[45])++(zi ((a0.getD i1 default).To)))++((a0.getD i1 default).Color)))else .ok (s1++((((zi ((a0.getD i1 default).From))++[45])++(zi ((a0.getD i1 default).To)))++((a0.getD i1 default).Color))))
def zye (a0:(List Sector)):(List UInt8):=
 (bif ((a0.length:Int) == 0)then[45]else(match yd (y8w a0) (a0.length-0) 0 []with|.error e=>e|.ok s1=>s1))
end Go.Ab

namespace Go.Ab
open Go Go.Proofs
theorem yh5 {p:Point} (h:zwb p=true):zne p=zrf p∧(zrf p).length≤13:=by
 have hr:=ypv h
 unfold zne zrf
 rw[show zrc p=zwb p from rfl,h,ygf _ (by omega) (by omega),ygf _ (by omega) (by omega)]
 refine⟨rfl,?_⟩
 have h1:=ycg p.X 5 (by omega) (by show p.X<(1000000:Int);omega)
 have h2:=ycg p.Y 5 (by omega) (by show p.Y<(1000000:Int);omega)
 simp only[List.length_append,List.length_cons,List.length_nil]
 omega
theorem yg5 (a b c d:List UInt8) (s:List UInt8):Lib.join [a,b,c,d] s=a++(s++(b++(s++(c++(s++d))))):=by
 simp[Lib.join_cons,Lib.joinTail]
theorem ygv {k:Int} (h:0≤k∧k≤9):znc k=zdb.getD k.toNat default:=yj0 _ _ (by omega) (by show k<10;omega)
theorem yy3 (m:Mark):zed m=zqf m:=by
 unfold zed zqf zpc
 rw[yfd,show zoc m=zz m from rfl]
 cases h:zz m with
 | false=>rfl
 | true=>
  simp only[Bool.not_true,cond_false]
  by_cases hk:m.Kind=0
  ·rw[show(m.Kind == 0)=true by simp[hk],cond_true,cond_true];rfl
  ·rw[show(m.Kind == 0)=false by simp[hk],cond_false,cond_false]
   have hr:=y1f (m:=m) h
   rw[ygv ⟨hr.1,hr.2.1⟩]
   have e:∀ a b c d:List UInt8,zob [a,b,c,d] [32]=a++([32]++(b++([32]++(c++([32]++d))))):=fun a b c d=>yg5 a b c d [32]
   rw[e,e]
   simp only[List.append_assoc]
theorem y24 (m:Mark):(zqf m).length≤40:=by
 unfold zqf zpc
 cases h:zz m with
 | false=>simp
 | true=>
  have hr:=y1f (m:=m) h
  simp only[Bool.not_true,cond_false]
  have hn:(zdb.getD m.Kind.toNat default).length≤7:=by
   rcases(show m.Kind=0∨m.Kind=1∨m.Kind=2∨m.Kind=3∨m.Kind=4∨m.Kind=5∨m.Kind=6∨m.Kind=7∨m.Kind=8∨m.Kind=9 by omega)with e|e|e|e|e|e|e|e|e|e<;>rw[e]<;>decide
  simp only[Bool.cond_eq_ite]
  repeat' split
  all_goals (try simp only[List.length_append,List.length_cons,List.length_nil])
  all_goals omega
def scT (s:Sector):List UInt8:=Lib.itoa s.From++(45::(Lib.itoa s.To++s.Color))
def scsT (a:List Sector):List UInt8:=if a=[]then[45]else Lib.join (a.map scT) [44]
theorem y7p {a:List Sector} (h:zq a=true):zfc a=scsT a:=by
 have hr:=yyf h
 unfold zfc scsT
 rw[yhb a (by omega),h]
 simp only[Bool.not_true,cond_false]
 by_cases ha:a=[]
 ·rw[ha];rfl
 ·have hp:0<a.length:=List.length_pos_iff.2 ha
  rw[if_neg ha,show((a.length:Int) == 0)=false by rw[beq_eq_false_iff_ne];omega,cond_false]
  have hl:=yjc (yal a) (fun j=>[scT (a.getD j default)]) a.length 0 [] (fun j s _ _=>by
   unfold yal scT
   simp[yhy])
  rw[yne a default scT,List.nil_append]at hl
  rw[Nat.sub_zero,hl]
  rfl
theorem yrh {a:List Sector} (h:zq a=true):zye a=scsT a:=by
 have hr:=yyf h
 unfold zye scsT
 by_cases ha:a=[]
 ·rw[ha];rfl
 ·have hp:0<a.length:=List.length_pos_iff.2 ha
  rw[if_neg ha,show((a.length:Int) == 0)=false by rw[beq_eq_false_iff_ne];omega,cond_false]
  have hl:=yjc (y8w a) (fun j=>(if j=0 then[]else[44])++scT (a.getD j default)) a.length 0 [] (fun j s _ _=>by
   have h9:=hr.2 j
   unfold y8w scT
   rw[ygf _ (by omega) (by omega),ygf _ (by omega) (by omega)]
   by_cases hj:j=0
   ·subst hj;simp
   ·rw[decide_eq_true (show(0:Int)<(j:Int)by omega),if_neg hj];simp)
  rw[Nat.sub_zero,hl,List.nil_append]
  simp only
  cases a with
  | nil=>exact absurd rfl ha
  | cons x r=>
   rw[List.length_cons,List.range'_succ,List.flatMap_cons,List.map_cons,Lib.join_cons, ← y3t 44 default scT x r]
   have:(List.range' (0+1) r.length).flatMap (fun j=>(if j=0 then[]else[44])++scT ((x::r).getD j default))=(List.range' 1 r.length).flatMap (fun j=>(44:UInt8)::scT ((x::r).getD j default)):=by
    rw[List.flatMap_def,List.flatMap_def]
    congr 1
    apply List.map_congr_left
    intro j hj
    rw[List.mem_range'_1]at hj
    rw[if_neg (by omega)];rfl
   rw[this]
   simp
theorem yi1 {a:List Sector} (h:zq a=true):(scsT a).length≤120:=by
 have hr:=yyf h
 unfold scsT
 split
 ·simp
 ·have h1:=ybg [44] (a.map scT) 8 (fun x hx=>by
   obtain⟨s,hs,rfl⟩:=List.mem_map.1 hx
   obtain⟨i,hi,e⟩:=List.getElem_of_mem hs
   have h9:=hr.2 i
   have hg:a.getD i default=s:=by rw[List.getD_eq_getElem?_getD,List.getElem?_eq_getElem hi,e];rfl
   rw[hg]at h9
   have h1:=ycg s.From 2 (by omega) (by show s.From<(1000:Int);omega)
   have h2:=ycg s.To 2 (by omega) (by show s.To<(1000:Int);omega)
   unfold scT
   simp only[List.length_append,List.length_cons]
   omega)
  rw[List.length_map]at h1
  simp only[List.length_singleton]at h1
  have:a.length * (8+1)≤12 * 9:=Nat.mul_le_mul hr.1 (by omega)
  omega
theorem yqd {ρ σ : Type} {b : Nat → σ → Except ρ σ} {e0 : ρ} (h : ∀ j s e, b j s = .error e → e = e0) : ∀ (n i : Nat) (s : σ) (e : ρ), yd b n i s = .error e → e = e0
 | 0,i,s,e,he=>by simp[yd]at he
 | n+1,i,s,e,he=>by
  simp only[yd]at he
  cases hb:b i s with
  | error e'=>
   rw[hb]at he
   have he:e'=e:=by simpa using he
   rw[← he];exact h _ _ _ hb
  | ok s'=>rw[hb]at he;exact yqd h n (i+1) s' e he
theorem ypk {c:Character} (h:zw c=true):c.Colors.length≤3:=by
 unfold zw at h
 cases h1:((!(znb c.Colors)) || (!(zbb c)))with
 | true=>rw[h1]at h;cases h
 | false=>
  rw[Bool.or_eq_false_iff]at h1
  have h2:znb c.Colors=true:=by simpa using h1.1
  unfold znb at h2
  have he:=yqd (b:=y7f c.Colors) (e0:=false) (fun j s e h=>by
   unfold y7f at h
   rw[Bool.cond_eq_ite]at h
   split at h
   ·simpa using h.symm
   ·cases h) (c.Colors.length-0) 0 (-1)
  generalize yd (y7f c.Colors) (c.Colors.length-0) 0 (-1)=z at h2 he
  cases z with
  | error e=>have:=he e rfl;subst this;cases h2
  | ok s=>simp[zh]at h2;omega
theorem ya4 {c:Character} (h:zw c=true):(chrT c).length≤40:=by
 have hf:=yxb c h
 have hv:=ync c h
 have hk:=ybd c hf
 have hp:=y4c c h
 have hc:=ypk h
 have hK:(kt c.Kind).length≤3:=by
  rcases(show c.Kind=1∨c.Kind=2∨c.Kind=3∨c.Kind=4∨c.Kind=5∨c.Kind=6∨c.Kind=7∨c.Kind=8 by omega)with e|e|e|e|e|e|e|e<;>rw[e]<;>decide
 have hg:(grpT c.Group).length≤10:=by
  unfold grpT
  split
  ·simp
  ·have h1:=ybg [43] (c.Group.map Lib.itoa) 1 (fun x hx=>by
    obtain⟨s,hs,rfl⟩:=List.mem_map.1 hx
    have:=hv.2.1 s hs
    exact ycg s 0 (by omega) (by show s<(10:Int);omega))
   rw[List.length_map,List.length_singleton]at h1
   simp only[List.length_append,List.length_cons,List.length_nil]
   omega
 have hs:(perT c.Period).length≤8:=by
  unfold perT secT
  split
  ·simp
  ·have h1:=ycg (c.Period / 10) 1 (by omega) (by show c.Period / 10<(100:Int);omega)
   have h2:=ycg (c.Period % 10) 0 (by omega) (by show c.Period % 10<(10:Int);omega)
   split<;>simp only[List.length_append,List.length_cons,List.length_nil]<;>omega
 have hh:(yjd c).length≤17:=by
  unfold yjd
  split
  ·rename_i h8
   have h9:=y1k c hf h8
   have:(kt 8).length=2:=rfl
   simp only[List.length_append,List.length_cons,List.length_nil]
   omega
  ·split<;>simp only[List.length_append,List.length_cons,List.length_nil]<;>omega
 unfold chrT
 simp only[List.length_append,List.length_cons]
 omega
theorem yf2 {c:Character} (h:zlb c=true) (hl:c.Colors.length<9223372036854775808):zkc c=zcb c∧(zcb c).length≤40:=by
 rw[← y6e c hl]at h
 rw[ycj c h,yaj c h]
 exact⟨rfl,ya4 h⟩
theorem yb3 {a:Aid} (h:zxb a=true) (hl:a.Light.Colors.length<9223372036854775808) :
  (zn a.Number=zi a.Number∧(zi a.Number).length≤4)∧(zne a.At=zrf a.At∧(zrf a.At).length≤13)∧(zn a.Height=zi a.Height∧(zi a.Height).length≤4) ∧
  (zed a.Mark=zqf a.Mark∧(zqf a.Mark).length≤40)∧(zmf a=true→zkc a.Light=zcb a.Light∧(zcb a.Light).length≤40) ∧
  (zfc a.Sectors=zye a.Sectors∧(zye a.Sectors).length≤120)∧(zn a.Intensity=zi a.Intensity∧(zi a.Intensity).length≤9)∧a.Name.length≤10:=by
 obtain⟨n1,n2,nm,at1,h1,h2,mk,lt,sx,i1,i2⟩:=yve h
 have dq:∀ (n:Int) (k:Nat),0≤n→n≤100000000→n<((10 ^ (k+1):Nat):Int)→zn n=zi n∧(zi n).length≤k+1:=fun n k a b c=>by
  rw[ygf n (by omega) (by omega)]
  exact⟨rfl,ycg n k a c⟩
 refine⟨dq _ 3 (by omega) (by omega) (by show _<(10000:Int);omega),yh5 at1,dq _ 3 (by omega) (by omega) (by show _<(10000:Int);omega),⟨yy3 _,y24 _⟩,fun hq=>yf2 (lt hq) hl,⟨by rw[y7p sx,yrh sx],by rw[yrh sx];exact yi1 sx⟩,dq _ 8 (by omega) (by omega) (by show _<(1000000000:Int);omega),yc0 nm⟩
end Go.Ab

namespace Go.Ab
open Go Go.Proofs
theorem yjo (c:UInt8):∀ a:List UInt8,(c∉a∧Lib.cut a [c]=(a,[],false)∧yl c a=[a])∨∃ l t,a=l++c::t∧c∉l∧Lib.cut a [c]=(l,t,true)∧yl c a=l::yl c t:=by
 intro a
 by_cases h:c∈a
 ·right
  obtain⟨l,t,e,hl⟩:∃ l t,a=l++c::t∧c∉l:=by
   induction a with
   | nil=>simp at h
   | cons b a ih=>
    by_cases hb:c=b
    ·exact⟨[],a,by rw[hb];rfl,by simp⟩
    ·have h2:c∈a:=by
      rcases List.mem_cons.1 h with h|h
      ·exact absurd h hb
      ·exact h
     obtain⟨l,t,e,hl⟩:=ih h2
     exact⟨b::l,t,by rw[e];rfl,by simp[hb,hl]⟩
  exact⟨l,t,e,hl,by rw[e];exact yke l t c hl,by rw[e];exact ykb c l t hl⟩
 ·exact .inl ⟨h,yni a c h,ylb c a h⟩
theorem yfu (c:UInt8) (a:List UInt8) (h:(yl c a).length=1):c∉a:=by
 rcases yjo c a with⟨h1,_,_⟩|⟨l,t,_,_,_,h4⟩
 ·exact h1
 ·rw[h4,List.length_cons]at h
  have:=List.length_pos_iff.2 (y0e c t)
  omega
theorem ynu (n:Int):∀ b∈Lib.itoa n,b=45∨(48≤b.toNat∧b.toNat≤57):=by
 intro b hb
 by_cases h:n<0
 ·rw[ymb h]at hb
  rcases List.mem_cons.1 hb with hb|hb
  ·exact .inl hb
  ·exact .inr ((y4 n.natAbs).1 b hb)
 ·rw[ykd h]at hb
  exact .inr ((y4 n.natAbs).1 b hb)
theorem y0l (n:Int) (c:UInt8) (h1:c≠45) (h2:c.toNat<48∨57<c.toNat):c∉Lib.itoa n:=fun h=>by
 rcases ynu n c h with h|h
 ·exact h1 h
 ·omega
theorem ytl (n:Int):Lib.itoa n≠[]:=(y1j n).2
theorem y5d {w:List UInt8} (hw:w.length≤1048576):(zg w).2=true→w=Lib.itoa (zg w).1∧(zg w).1.natAbs<E18:=by
 intro h
 rcases y2b w hw with⟨n,h1,h2,h3⟩|⟨_,h3⟩
 ·rw[h3];exact⟨h2,h1⟩
 ·rw[h3]at h;cases h
theorem y04 {w:List UInt8} (hw:w.length≤1048576) (c:UInt8) (h1:c≠45) (h2:c.toNat<48∨57<c.toNat) (hc:c∈w):zg w=(0,false):=by
 rcases y2b w hw with⟨n,_,h4,_⟩|⟨_,h3⟩
 ·rw[h4]at hc;exact absurd hc (y0l n c h1 h2)
 ·exact h3
theorem ye3:zg []=(0,false):=by
 rcases y2b [] (by simp)with⟨n,_,h4,_⟩|⟨_,h3⟩
 ·exact absurd h4.symm (ytl n)
 ·exact h3
theorem yoh (w:List UInt8) (hw:w.length≤1048576):zk w=zg w:=y8o w hw
theorem y7i (a:List UInt8) (c:UInt8) (n:Int) (hc:(c.toNat:Int)=n) (ha:a.length≤1048576):za a n=yl c a:=by
 rw[← hc];exact y4j a c (by omega)
theorem yav (a:List UInt8) (c:UInt8):zd a [c]=yl c a:=rfl
theorem cutI (a:List UInt8) (c:UInt8):zb a [c]=Lib.cut a [c]:=rfl
theorem ycw (a:List UInt8) (ha:a.length≤1048576):zjd a=zpb a:=by
 unfold zjd zpb
 rw[cutI,y7i a 44 44 rfl ha]
 rcases yjo 44 a with⟨h1,h2,h3⟩|⟨l,t,e,h1,h2,h3⟩
 ·rw[h2,h3]
  simp only
  rw[yoh [] (by simp),ye3]
  simp
 ·have hlen:a.length=l.length+1+t.length:=by rw[e];simp;omega
  rw[h2,h3]
  simp only
  rw[yoh l (by omega),yoh t (by omega)]
  by_cases ht:(44:UInt8)∈t
  ·rw[y04 (by omega) 44 (by decide) (by decide) ht]
   have hq:2≤(yl 44 t).length:=by
    have:=List.length_pos_iff.2 (y0e 44 t)
    by_cases h:(yl 44 t).length=1
    ·exact absurd ht (yfu 44 t h)
    ·omega
   have:(((l::yl 44 t).length:Int) != 2)=true:=by rw[bne_iff_ne,List.length_cons];omega
   rw[this]
   simp
  ·rw[ylb 44 t ht]
   rfl
theorem ygq (a:List UInt8) (ha:a.length≤1048576) (h:(zpb a).2=true):zwb (zpb a).1=true∧a=zrf (zpb a).1:=by
 unfold zpb at h ⊢
 rw[y7i a 44 44 rfl ha]at h ⊢
 cases hl:(((yl 44 a).length:Int) != 2)with
 | true=>rw[hl]at h;cases h
 | false=>
  rw[hl,cond_false]at h
  rw[cond_false]
  have hl:(yl 44 a).length=2:=by have h:=hl;simp at h;omega
  obtain⟨x,y,e⟩:∃ x y,yl 44 a=[x,y]:=by
   match yl 44 a,hl with
   | [x,y],_=>exact⟨x,y,rfl⟩
  have hj:=yyd 44 a
  have hsl:=(y3 44 a).2
  rw[e]at hj h hsl ⊢
  have hx:x.length≤1048576:=by have:=hsl x (by simp);omega
  have hy:y.length≤1048576:=by have:=hsl y (by simp);omega
  simp only[List.getD_cons_zero,List.getD_cons_succ]at h ⊢
  cases hc:(((!((zg x).2)) || (!((zg y).2))) || (!(zwb ({ X:=(zg x).1,Y:=(zg y).1:Point }))))with
  | true=>rw[hc]at h;cases h
  | false=>
   rw[cond_false]
   simp only[Bool.or_eq_false_iff,Bool.not_eq_false']at hc
   have hr:=ypv hc.2
   refine⟨hc.2,?_⟩
   unfold zrf
   simp only at hr ⊢
   rw[ygf _ (by omega) (by omega),ygf _ (by omega) (by omega), ← (y5d hx hc.1.1).1, ← (y5d hy hc.1.2).1, ← hj]
   simp[ybi]
end Go.Ab

namespace Go.Ab
open Go Go.Proofs
def zgc (a0:(List UInt8)):(Mark×Bool):=
 (bif (a0 == (znc 0))then({ Kind:=0,Colors:=[],Shape:=[],Topmark:=[]:Mark },true)else(bif (((zr a0).length:Int) != 4)then({ Kind:=0,Colors:=[],Shape:=[],Topmark:=[]:Mark },false)else(bif (((zr a0).getD 3 default) == [45])then(bif (((!((zic ((zr a0).getD 0 default)).2)) || (!(zhc ({ Kind:=(zic ((zr a0).getD 0 default)).1,Colors:=((zr a0).getD 1 default),Shape:=((zr a0).getD 2 default),Topmark:=[]:Mark })))) || ((zed ({ Kind:=(zic ((zr a0).getD 0 default)).1,Colors:=((zr a0).getD 1 default),Shape:=((zr a0).getD 2 default),Topmark:=[]:Mark })) != a0))then({ Kind:=0,Colors:=[],Shape:=[],Topmark:=[]:Mark },false)else({ Kind:=(zic ((zr a0).getD 0 default)).1,Colors:=((zr a0).getD 1 default),Shape:=((zr a0).getD 2 default),Topmark:=[]:Mark },true))else(bif (((!((zic ((zr a0).getD 0 default)).2)) || (!(zhc ({ Kind:=(zic ((zr a0).getD 0 default)).1,Colors:=((zr a0).getD 1 default),Shape:=((zr a0).getD 2 default),Topmark:=((zr a0).getD 3 default):Mark })))) || ((zed ({ Kind:=(zic ((zr a0).getD 0 default)).1,Colors:=((zr a0).getD 1 default),Shape:=((zr a0).getD 2 default),Topmark:=((zr a0).getD 3 default):Mark })) != a0))then({ Kind:=0,Colors:=[],Shape:=[],Topmark:=[]:Mark },false)else({ Kind:=(zic ((zr a0).getD 0 default)).1,Colors:=((zr a0).getD 1 default),Shape:=((zr a0).getD 2 default),Topmark:=((zr a0).getD 3 default):Mark },true)))))
namespace N15
theorem DD:DOk Tryz.prog (Go.Ab.DD [(16,dP D_zed),(17,dP D_zhc),(21,dP D_zic),(22,dP D_znc),(82,dP D_zr)]):=ya ypt.e <| ya y7l.e <| ya ycz.e <| ya ynm.e <| ya y82.e <| ye _
theorem dn:type_of% (And.intro @D_zed.eq_1 <| And.intro @D_zhc.eq_1 <| And.intro @D_zic.eq_1 <| And.intro @D_znc.eq_1 <| @D_zr.eq_1):=by and_intros<;>intros<;>rfl
set_option maxHeartbeats 1000000 in
set_option maxRecDepth 20000 in
theorem den (a0:(List UInt8)) (hb0:a0.length<1099511627776) (hp0:a0.length≤1048576):Den Tryz.prog 15 [.str a0] (.tup [.agg (yrc ((zgc a0).1)),.bool ((zgc a0).2)]):=by
 generalize hR:zgc a0=r
 unfold zgc at hR
 refine di Tryz.func15 Tryz.ntmps15 Tryz.results15 ?_
 intro c hL hc hk
 obtain⟨hL0,_⟩:=hL
 have hw0:a0.length<9223372036854775808:=Nat.lt_succ_of_le hL0
 clear hL0
 simp only[pars,Nat.zero_add]
 have hs9:=yc4 a0 (by omega)
 have hs0:=ybf hs9 0
 have hs1:=ybf hs9 1
 have hs2:=ybf hs9 2
 have hs3:=ybf hs9 3
 iterate 2 refine rS ?_
 refine AWP.cond rfl (fun hb => ?_) (fun hb => ?_)
 ·replace hR:=ct hR
  refine rS ?_
  refine AWP.ret ?_
  subst hR
  exact es
 ·replace hR:=cf hR
  iterate 2 refine rS ?_
  refine AWP.cond rfl (fun hb => ?_) (fun hb => ?_)
  ·replace hR:=ct hR
   refine rS ?_
   refine AWP.ret ?_
   subst hR
   exact es
  ·replace hR:=cf hR
   iterate 3 refine rS ?_
   refine AWP.cond rfl (fun hb => ?_) (fun hb => ?_)
   ·replace hR:=ct hR
    refine rS ?_
    refine AWP.seq ?_
    refine AWP.regP mixed G_ok DD hc 10 [0,1,2,3,4,5,6,7,8] (.alt 9 [] [0,1,2,3,4,5,6,7,8] .leaf .stop) (by kernel_rfl) (by kernel_rfl) (by kernel_rfl) (fun K hK => ?_);simp only[yrf,runN,runP,yqb,nthO,ea,absV,absVL,cput,gv,sv,dn,reduceCtorEq,reduceIte,Nat.reduceBEq,Nat.reduceAdd,Nat.reduceEqDiff,Nat.reduceLT,Nat.reduceLeDiff,Nat.reduceMul,Nat.reduceSub,BEq.rfl,beq_self_eq_true,Int.reduceToNat]
    repeat' apply And.intro
    all_goals first|refine hK _ ?_|exact ot
    all_goals clear hK K
    refine rS ?_
    refine AWP.cond rfl (fun hb => ?_) (fun hb => ?_)
    ·replace hR:=ct hR
     refine rS ?_
     refine AWP.ret ?_
     subst hR
     exact es
    ·replace hR:=cf hR
     refine rS ?_
     refine AWP.ret ?_
     subst hR
     exact es
   ·replace hR:=cf hR
    refine AWP.skip ?_
    refine AWP.seq ?_
    refine AWP.regP mixed G_ok DD hc 10 [0,1,2,3,4,5,6,7,8] (.alt 9 [] [0,1,2,3,4,5,6,7,8] .leaf .stop) (by kernel_rfl) (by kernel_rfl) (by kernel_rfl) (fun K hK => ?_);simp only[yrf,runN,runP,yqb,nthO,ea,absV,absVL,cput,gv,sv,dn,reduceCtorEq,reduceIte,Nat.reduceBEq,Nat.reduceAdd,Nat.reduceEqDiff,Nat.reduceLT,Nat.reduceLeDiff,Nat.reduceMul,Nat.reduceSub,BEq.rfl,beq_self_eq_true,Int.reduceToNat]
    repeat' apply And.intro
    all_goals first|refine hK _ ?_|exact ot
    all_goals clear hK K
    refine rS ?_
    refine AWP.cond rfl (fun hb => ?_) (fun hb => ?_)
    ·replace hR:=ct hR
     refine rS ?_
     refine AWP.ret ?_
     subst hR
     exact es
    ·replace hR:=cf hR
     refine rS ?_
     refine AWP.ret ?_
     subst hR
     exact es
end N15
def D_zgc : DF
 | [x0]=>some (.tup [.agg (yrc ((zgc (rdS x0)).1)),.bool ((zgc (rdS x0)).2)],false,[wS x0,(rdS x0).length<1099511627776,(rdS x0).length≤1048576])
 | _=>none
theorem yl0:OkD Tryz.prog 15 D_zgc:=by unfold D_zgc;exact dk N15.den
end Go.Ab

namespace Go.Ab
open Go Go.Proofs
def zxd (a0:(List UInt8)):(Mark×Bool):=
 (bif (a0 == [110,111,110,101])then({ Kind:=0,Colors:=[],Shape:=[],Topmark:=[]:Mark },true)else(bif (((za a0 32).length:Int) != 4)then({ Kind:=0,Colors:=[],Shape:=[],Topmark:=[]:Mark },false)else(bif (((za a0 32).getD 3 default) == [45])then(bif (((!(zsb (ztc ((za a0 32).getD 0 default)))) || (!(zz ({ Kind:=(ztc ((za a0 32).getD 0 default)),Colors:=((za a0 32).getD 1 default),Shape:=((za a0 32).getD 2 default),Topmark:=[]:Mark })))) || ((zpc ({ Kind:=(ztc ((za a0 32).getD 0 default)),Colors:=((za a0 32).getD 1 default),Shape:=((za a0 32).getD 2 default),Topmark:=[]:Mark })) != a0))then({ Kind:=0,Colors:=[],Shape:=[],Topmark:=[]:Mark },false)else({ Kind:=(ztc ((za a0 32).getD 0 default)),Colors:=((za a0 32).getD 1 default),Shape:=((za a0 32).getD 2 default),Topmark:=[]:Mark },true))else(bif (((!(zsb (ztc ((za a0 32).getD 0 default)))) || (!(zz ({ Kind:=(ztc ((za a0 32).getD 0 default)),Colors:=((za a0 32).getD 1 default),Shape:=((za a0 32).getD 2 default),Topmark:=((za a0 32).getD 3 default):Mark })))) || ((zpc ({ Kind:=(ztc ((za a0 32).getD 0 default)),Colors:=((za a0 32).getD 1 default),Shape:=((za a0 32).getD 2 default),Topmark:=((za a0 32).getD 3 default):Mark })) != a0))then({ Kind:=0,Colors:=[],Shape:=[],Topmark:=[]:Mark },false)else({ Kind:=(ztc ((za a0 32).getD 0 default)),Colors:=((za a0 32).getD 1 default),Shape:=((za a0 32).getD 2 default),Topmark:=((za a0 32).getD 3 default):Mark },true)))))
namespace N297
theorem DD:DOk Tryz.prog (Go.Ab.DD [(165,dP D_za),(273,dP D_zz),(281,dP D_zpc),(307,dP D_zsb),(345,dP D_ztc)]):=ya y9g.e <| ya yrw.e <| ya yuz.e <| ya ygs.e <| ya ymy.e <| ye _
theorem dn:type_of% (And.intro @D_za.eq_1 <| And.intro @D_zz.eq_1 <| And.intro @D_zpc.eq_1 <| And.intro @D_zsb.eq_1 <| @D_ztc.eq_1):=by and_intros<;>intros<;>rfl
theorem gr {p:Prop} (h:p:=by(grind [yw,y6b]);first|done|fail):p:=h
set_option maxHeartbeats 1000000 in
set_option maxRecDepth 20000 in
theorem den (a0:(List UInt8)) (hb0:a0.length<1099511627776) (hp0:a0.length≤1048576):Den Tryz.prog 297 [.str a0] (.tup [.agg (yrc ((zxd a0).1)),.bool ((zxd a0).2)]):=by
 generalize hR:zxd a0=r
 unfold zxd at hR
 refine di Tryz.func297 Tryz.ntmps297 Tryz.results297 ?_
 intro c hL hc hk
 obtain⟨hL0,_⟩:=hL
 have hw0:a0.length<9223372036854775808:=Nat.lt_succ_of_le hL0
 clear hL0
 simp only[pars,Nat.zero_add]
 have s0_:=yge a0 32 32 rfl (by omega) 0
 have s1_:=yge a0 32 32 rfl (by omega) 1
 have s2_:=yge a0 32 32 rfl (by omega) 2
 have s3_:=yge a0 32 32 rfl (by omega) 3
 iterate 2 refine rS ?_
 refine AWP.cond rfl (fun hb => ?_) (fun hb => ?_)
 ·replace hR:=ct hR
  refine rS ?_
  refine AWP.ret ?_
  subst hR
  exact es
 ·replace hR:=cf hR
  iterate 2 refine rS ?_
  refine AWP.cond rfl (fun hb => ?_) (fun hb => ?_)
  ·replace hR:=ct hR
   refine rS ?_
   refine AWP.ret ?_
   subst hR
   exact es
  ·replace hR:=cf hR
   refine AWP.skip ?_
   refine AWP.seq ?_
   refine AWP.regP mixed G_ok DD hc 15 [0,1,2,3,4,5,6,7,8,9,10,11,12,13] (.alt 14 [] [0,1,2,3,4,5,6,7,8,9,10,11,12,13] .leaf .stop) (by kernel_rfl) (by kernel_rfl) (by kernel_rfl) (fun K hK => ?_);simp only[yrf,runN,runP,yqb,nthO,ea,absV,absVL,cput,gv,sv,dn,reduceCtorEq,reduceIte,Nat.reduceBEq,Nat.reduceAdd,Nat.reduceEqDiff,Nat.reduceLT,Nat.reduceLeDiff,Nat.reduceMul,Nat.reduceSub,BEq.rfl,beq_self_eq_true,Int.reduceToNat]
   repeat' apply And.intro
   all_goals first|refine hK _ ?_|exact ot
   all_goals clear hK K
   refine rS ?_
   refine AWP.cond rfl (fun hb => ?_) (fun hb => ?_)
   ·replace hR:=ct hR
    iterate 2 refine rS ?_
    refine AWP.cond rfl (fun hb => ?_) (fun hb => ?_)
    ·replace hR:=ct hR
     refine rS ?_
     refine AWP.ret ?_
     subst hR
     exact es
    ·replace hR:=cf hR
     refine rS ?_
     refine AWP.ret ?_
     subst hR
     exact es
   ·replace hR:=cf hR
    refine rS ?_
    refine AWP.cond rfl (fun hb => ?_) (fun hb => ?_)
    ·replace hR:=ct hR
     refine rS ?_
     refine AWP.ret ?_
     subst hR
     exact es
    ·replace hR:=cf hR
     refine rS ?_
     refine AWP.ret ?_
     subst hR
     exact es
end N297
def D_zxd : DF
 | [x0]=>some (.tup [.agg (yrc ((zxd (rdS x0)).1)),.bool ((zxd (rdS x0)).2)],false,[wS x0,(rdS x0).length<1099511627776,(rdS x0).length≤1048576])
 | _=>none
theorem ysx:OkD Tryz.prog 297 D_zxd:=by unfold D_zxd;exact dk N297.den
end Go.Ab

namespace Go.Ab
open Go Go.Proofs
def zzb (a0:(List UInt8)):(Mark×Bool):=
 ((zxd a0).1,(zxd a0).2)
namespace N231
theorem DD:DOk Tryz.prog (Go.Ab.DD [(297,dP D_zxd)]):=ya ysx.e <| ye _
theorem dn:type_of% (@D_zxd.eq_1):=by and_intros<;>intros<;>rfl
theorem den (a0:(List UInt8)) (hb0:a0.length<1099511627776) (hp0:a0.length≤1048576):Den Tryz.prog 231 [.str a0] (.tup [.agg (yrc ((zzb a0).1)),.bool ((zzb a0).2)]):=by
 generalize hR:zzb a0=r
 unfold zzb at hR
 refine di Tryz.func231 Tryz.ntmps231 Tryz.results231 ?_
 intro c hL hc hk
 obtain⟨hL0,_⟩:=hL
 have hw0:a0.length<9223372036854775808:=Nat.lt_succ_of_le hL0
 clear hL0
 simp only[pars,Nat.zero_add]
 iterate 2 refine rS ?_
 refine AWP.ret ?_
 subst hR
 exact es
end N231
def D_zzb : DF
 | [x0]=>some (.tup [.agg (yrc ((zzb (rdS x0)).1)),.bool ((zzb (rdS x0)).2)],false,[wS x0,(rdS x0).length<1099511627776,(rdS x0).length≤1048576])
 | _=>none
theorem yiy:OkD Tryz.prog 231 D_zzb:=by unfold D_zzb;exact dk N231.den
end Go.Ab
