/- A part of a proof: walks of functions and lemmas of our own. No conditions. -/
import Derived.Test.YtijmcongeemehaaGreatDoorFBd
import Derived.Test.YtijmcongeemehaaGreatDoorFAq
import Derived.Test.YtijmcongeemehaaGreatDoorFAr
import Derived.Test.YtijmcongeemehaaGreatDoorFAs
import Derived.Test.YtijmcongeemehaaGreatDoorFAp
import Derived.Test.YtijmcongeemehaaGreatDoorFAl
import Derived.Test.YtijmcongeemehaaGreatDoorFAz
import Derived.Test.YtijmcongeemehaaGreatDoorFAv
import Derived.Test.YtijmcongeemehaaGreatDoorFBc
import Derived.Test.YtijmcongeemehaaGreatDoorFAo
import Derived.Test.YtijmcongeemehaaGreatDoorFAu
import Derived.Test.YtijmcongeemehaaGreatDoorFAt
import Derived.Test.YtijmcongeemehaaGreatDoorFAk
import Derived.Test.YtijmcongeemehaaGreatDoorFAx
import Derived.Test.YtijmcongeemehaaGreatDoorFAy
import Derived.Test.YtijmcongeemehaaGreatDoorFAm
set_option linter.unusedSectionVars false
set_option linter.unusedVariables false
set_option linter.unusedSimpArgs false
set_option maxHeartbeats 1000000
namespace Go.Ab
open Go Go.Proofs
theorem yit (a b:List UInt8):zi a b=(Lib.trimSuffix a b,Lib.hasSuffix a b):=rfl
theorem yhs (a b:List UInt8):zd a b=Lib.cut a b:=rfl
theorem yko (k : Int) (hk : 1 <= k /\ k <= 8) (b : Int × Int -> Except (Sum (Character × Bool) (Int × Int)) (Int × Int))
  (hb:∀ s,b s=(bif decide (s.1<=8)then(bif ((zqc s.1) == kt k)then .ok (IntKind.wrap .i64 (s.1+1),s.1)else .ok (IntKind.wrap .i64 (s.1+1),s.2))else .error (.inr (s.1,s.2)))) :
  y0 b (((9-(1:Int)).toNat)+1) (1,0)=.error (.inr (9,k)):=by
 have e:b=fun s=>(bif decide (s.1<=8)then(bif ((zqc s.1) == kt k)then .ok (IntKind.wrap .i64 (s.1+1),s.1)else .ok (IntKind.wrap .i64 (s.1+1),s.2))else .error (.inr (s.1,s.2))):=funext hb
 rw[e];rcases(show k=1\/k=2\/k=3\/k=4\/k=5\/k=6\/k=7\/k=8 by omega)with h|h|h|h|h|h|h|h<;>subst h<;>rfl
theorem y56 {ρ : Type} (g : List Int) (h2 : ∀ v ∈ g, 1 <= v /\ v <= 9) (r : Nat -> List Int -> ρ) (b : Nat -> List Int -> Except ρ (List Int))
  (hb:∀ i s,b i s=(bif (!(zp ((g.map Lib.itoa).getD i default)).2)then .error (r i s)else .ok (s++([(zp ((g.map Lib.itoa).getD i default)).1]:List Int)))) :
  yf b ((g.map Lib.itoa).length-0) 0 []=.ok g:=by
 rw[List.length_map,Nat.sub_zero]
 rw[y1c b (fun j=>[id (g.getD j default)]) g.length 0 [] (fun j s _ hj=>by
  have hj2:j<g.length:=by omega
  have e:(g.map Lib.itoa).getD j default=Lib.itoa (g.getD j default):=by
   rw[List.getD_eq_getElem?_getD,List.getD_eq_getElem?_getD,List.getElem?_map,List.getElem?_eq_getElem hj2];rfl
  have hr:=yzg h2 j;have e2:zp (Lib.itoa (g.getD j default))=(g.getD j default,true):=yyc (by omega) (by omega)
  rw[hb,e,e2];rfl),y9e g default id]
 simp
theorem y1x (c:Character) (h:zqb c=true) (h8:c.Kind≠8) (hL:c.Letter≠[]):c.Letter=[76]/\c.Group=[6]:=by
 unfold zqb at h;simp only[Bool.cond_eq_ite]at h;repeat' split at h
 all_goals (try simp only[Bool.and_eq_true,Bool.or_eq_true,beq_iff_eq,yye,decide_eq_true_eq]at *)
 all_goals first
  | (exact absurd h.2 hL;done)
  | (exact absurd h.1 hL;done)
  | (exact h)
  | (rename_i q;exact absurd q hL)
  | (rename_i q;exact absurd q h8)
  | (cases h;done)
theorem y0j (c:Character) (h:zqb c=true) (h8:c.Kind=8):c.Group=[]/\c.Letter.length=1/\65<=(c.Letter.getD 0 0).toNat/\(c.Letter.getD 0 0).toNat<=90:=by
 unfold zqb at h;rw[h8]at h;have h:(((zec c.Letter) != []) && ((c.Group.length:Int) == 0))=true:=h;rw[Bool.and_eq_true,beq_iff_eq,ykn,decide_eq_true_eq]at h;exact⟨List.length_eq_zero_iff.1 (by omega),h.1⟩
theorem yer (k:Int) (h:1<=k/\k<=8):Lib.hasSuffix (kt k) [43,76,70,108]=false:=by
 rcases(show k=1\/k=2\/k=3\/k=4\/k=5\/k=6\/k=7\/k=8 by omega)with h|h|h|h|h|h|h|h<;>subst h<;>decide
theorem yoj (x:List UInt8):Lib.hasSuffix (x++[41]) [43,76,70,108]=false:=yvl x [43,76,70] 41 108 (by decide)
theorem yhy (c:Character) (h:zqb c=true):zo (ybd c)=({ Kind:=c.Kind,Group:=c.Group,Letter:=c.Letter,Colors:=[],Period:=0:Character },true):=by
 have hk:=y8c c h;obtain⟨g1,g2⟩:=y7c c h;have h40:=(y16 c.Kind hk).1;unfold ybd;by_cases h8:c.Kind=8
 ·obtain⟨f1,f2⟩:=y0j c h h8
  rw[if_pos h8,f1,h8];have eH:kt 8++40::(c.Letter++[41])=(kt 8++40::c.Letter)++[41]:=by simp
  have c1:zi (kt 8++40::(c.Letter++[41])) [43,76,70,108]=(kt 8++40::(c.Letter++[41]),false):=by
   rw[yit,eH,yoj,yme _ _ (yoj _)]
  have c2:zd (kt 8++40::(c.Letter++[41])) [40]=(kt 8,c.Letter++[41],true):=by rw[yhs,y0e _ _ 40 (by decide)]
  have c3:zi (c.Letter++[41]) [41]=(c.Letter,true):=by rw[yit,yfc,ync]
  have hw:=yko 8 (by omega) (ytk (kt 8++40::(c.Letter++[41]))) (fun s=>by unfold ytk;rw[c1];simp only;rw[c2]);unfold zo;rw[c1];simp only;rw[c2];simp only;rw[c3,hw];rfl
 ·rw[if_neg h8]
  have e8:(c.Kind == 8)=false:=by rw[beq_eq_false_iff_ne];exact h8
  by_cases hL:c.Letter=[]
  ·rw[if_pos hL,List.append_nil,hL]
   by_cases hg:c.Group=[]
   ·have eg:grpT c.Group=[]:=by rw[hg];rfl
    rw[eg,List.append_nil,hg]
    have c1:zi (kt c.Kind) [43,76,70,108]=(kt c.Kind,false):=by
     rw[yit,yer _ hk,yme _ _ (yer _ hk)]
    have c2:zd (kt c.Kind) [40]=(kt c.Kind,[],false):=by rw[yhs,ylj _ 40 h40]
    have hw:=yko c.Kind hk (ytk (kt c.Kind)) (fun s=>by unfold ytk;rw[c1];simp only;rw[c2]);unfold zo;rw[c1];simp only;rw[c2,hw];rfl
   ·have eg:grpT c.Group=40::(Lib.join (c.Group.map Lib.itoa) [43]++[41]):=by unfold grpT;rw[if_neg hg]
    rw[eg];generalize hJ:Lib.join (c.Group.map Lib.itoa) [43]=J;have eH:kt c.Kind++40::(J++[41])=(kt c.Kind++40::J)++[41]:=by simp
    have c1:zi (kt c.Kind++40::(J++[41])) [43,76,70,108]=(kt c.Kind++40::(J++[41]),false):=by
     rw[yit,eH,yoj,yme _ _ (yoj _)]
    have c2:zd (kt c.Kind++40::(J++[41])) [40]=(kt c.Kind,J++[41],true):=by rw[yhs,y0e _ _ 40 h40]
    have c3:zi (J++[41]) [41]=(J,true):=by rw[yit,yfc,ync]
    have c4:zg J [43]=c.Group.map Lib.itoa:=by
     show ym 43 J=_;rw[<- hJ];exact y4d _ hg g2
    have hw:=yko c.Kind hk (ytk (kt c.Kind++40::(J++[41]))) (fun s=>by unfold ytk;rw[c1];simp only;rw[c2]);have hg4:∀ s,yf (yps (kt c.Kind++40::(J++[41])) s) ((c.Group.map Lib.itoa).length-0) 0 []=.ok c.Group:=fun s=>y56 c.Group g2 (fun _ _=>({ Kind:=0,Group:=[],Letter:=[],Colors:=[],Period:=0:Character },false)) _ (fun i t=>by unfold yps;rw[c1];simp only;rw[c2];simp only;rw[c3];simp only;rw[c4])
    unfold zo;rw[c1];simp only;rw[c2];simp only;rw[c3];simp only;rw[c4,hw];simp only[hg4,e8,cond_false,Bool.not_true]
  ·obtain⟨l1,l2⟩:=y1x c h h8 hL
   rw[if_neg hL];have hg:c.Group≠[]:=by rw[l2];simp
   have eg:grpT c.Group=40::(Lib.join (c.Group.map Lib.itoa) [43]++[41]):=by unfold grpT;rw[if_neg hg]
   rw[eg];generalize hJ:Lib.join (c.Group.map Lib.itoa) [43]=J;have eH:kt c.Kind++(40::(J++[41])++[43,76,70,108])=(kt c.Kind++40::(J++[41]))++[43,76,70,108]:=by simp
   rw[eH,l1]
   have c1:zi ((kt c.Kind++40::(J++[41]))++[43,76,70,108]) [43,76,70,108]=(kt c.Kind++40::(J++[41]),true):=by
    rw[yit,yfc,ync]
   have c2:zd (kt c.Kind++40::(J++[41])) [40]=(kt c.Kind,J++[41],true):=by rw[yhs,y0e _ _ 40 h40]
   have c3:zi (J++[41]) [41]=(J,true):=by rw[yit,yfc,ync]
   have c4:zg J [43]=c.Group.map Lib.itoa:=by
    show ym 43 J=_;rw[<- hJ];exact y4d _ hg g2
   have hw:=yko c.Kind hk (yqs ((kt c.Kind++40::(J++[41]))++[43,76,70,108])) (fun s=>by unfold yqs;rw[c1];simp only;rw[c2]);have hg4:∀ s,yf (yts ((kt c.Kind++40::(J++[41]))++[43,76,70,108]) s) ((c.Group.map Lib.itoa).length-0) 0 []=.ok c.Group:=fun s=>y56 c.Group g2 (fun _ _=>({ Kind:=0,Group:=[],Letter:=[],Colors:=[],Period:=0:Character },false)) _ (fun i t=>by unfold yts;rw[c1];simp only;rw[c2];simp only;rw[c3];simp only;rw[c4])
   unfold zo;rw[c1];simp only;rw[c2];simp only;rw[c3];simp only;rw[c4,hw];simp only[hg4,e8,cond_false,cond_true,Bool.not_true]
def zhf (a0:Point):(List UInt8):=
 (bif (!(zld a0))then[]else((zu a0.X)++[44])++(zu a0.Y))
namespace N64
theorem DD:DOk Tryz.prog (Go.Ab.DD [(133,dP D_zld),(63,dP D_zu)]):=ya yun.e <| ya y6j.e <| ye _
theorem dn:type_of% (And.intro @D_zld.eq_1 <| @D_zu.eq_1):=by and_intros<;>intros<;>rfl
theorem gr {p:Prop} (h:p:=by(grind [yxe]);first|done|fail):p:=h
theorem o0 {p:Prop} (h:p:=by(first|(have h9:=yw5 (p:=a0) (by assumption);have l1:=yxe a0.X;have l2:=yxe a0.Y;(repeat' with_reducible apply And.intro)<;>(first|omega|assumption|(simp only[List.length_append,List.length_cons,List.length_nil,List.length_singleton];omega)|(refine Nat.le_trans (yml _ _) ?_;simp only[jl,List.length_cons,List.length_nil];omega))));first|done|fail):p:=h
set_option maxHeartbeats 1000000 in
set_option maxRecDepth 20000 in
theorem den (a0:Point)  : Den Tryz.prog 64 [.agg (yve a0)] (.str (zhf a0)):=by
 generalize hR:zhf a0=r;unfold zhf at hR;refine di Tryz.func64 Tryz.ntmps64 Tryz.results64 ?_;intro c hL hc hk;clear hL;simp only[pars,Nat.zero_add];iterate 2 refine rS ?_
 refine AWP.cond rfl (fun hb => ?_) (fun hb => ?_)
 ·replace hR:=ct hR
  refine rS ?_;refine AWP.ret ?_;subst hR;exact es
 ·replace hR:=cf hR
  refine rD 7 ?_;refine AWP.ret ?_;subst hR;exact es
end N64
def D_zhf : DF
 | [x0]=>some (.str (zhf (rdG yoi x0)),false,[wG yve yoi x0])
 | _=>none
theorem yb2:OkD Tryz.prog 64 D_zhf:=by unfold D_zhf;exact dk N64.den
def zye (a0:Point):(List UInt8):=
 ((zv a0.X)++[44])++(zv a0.Y)
def zyd (a0:Mark):(List UInt8):=
 (bif (!(zcd a0))then[]else(bif (a0.Kind == 0)then(zjd 0)else(bif (a0.Topmark == [])then(zkc [(zjd a0.Kind),a0.Colors,a0.Shape,[45]] [32])else(zkc [(zjd a0.Kind),a0.Colors,a0.Shape,a0.Topmark] [32]))))
namespace N65
theorem DD:DOk Tryz.prog (Go.Ab.DD [(135,dP D_zcd),(147,dP D_zjd),(62,dP D_zkc)]):=ya ylo.e <| ya yfn.e <| ya ymj.e <| ye _
theorem dn:type_of% (And.intro @D_zcd.eq_1 <| And.intro @D_zjd.eq_1 <| @D_zkc.eq_1):=by and_intros<;>intros<;>rfl
theorem o0 {p:Prop} (h:p:=by(first|(have h9:=y3y (m:=a0) (by assumption);have l1:=y4y a0.Kind;(repeat' with_reducible apply And.intro)<;>(first|omega|assumption|(simp only[List.length_append,List.length_cons,List.length_nil,List.length_singleton];omega)|(refine Nat.le_trans (yml _ _) ?_;simp only[jl,List.length_cons,List.length_nil];omega))));first|done|fail):p:=h
theorem lx {p:Prop} (h:p:=by(exact lxx);first|done|fail):p:=h
set_option maxHeartbeats 1000000 in
set_option maxRecDepth 20000 in
theorem den (a0:Mark) (hb0:bdMark a0):Den Tryz.prog 65 [.agg (yzf a0)] (.str (zyd a0)):=by
 generalize hR:zyd a0=r;unfold zyd at hR;refine di Tryz.func65 Tryz.ntmps65 Tryz.results65 ?_;intro c hL hc hk;obtain⟨hL0,_⟩:=hL;have hw0:bwMark a0:=yuh a0 hL0;clear hL0;simp only[pars,Nat.zero_add];iterate 2 refine rS ?_
 refine AWP.cond rfl (fun hb => ?_) (fun hb => ?_)
 ·replace hR:=ct hR
  refine rS ?_;refine AWP.ret ?_;subst hR;exact es
 ·replace hR:=cf hR
  refine rS ?_;refine AWP.cond rfl (fun hb => ?_) (fun hb => ?_)
  ·replace hR:=ct hR
   refine rS ?_;refine AWP.ret ?_;subst hR;exact es
  ·replace hR:=cf hR
   iterate 2 refine rS ?_
   refine AWP.cond rfl (fun hb => ?_) (fun hb => ?_)
   ·replace hR:=ct hR
    refine rS ?_;refine rD 8 ?_;refine AWP.ret ?_;subst hR;exact es
   ·replace hR:=cf hR
    refine rD 8 ?_;refine AWP.ret ?_;subst hR;exact es
end N65
def D_zyd : DF
 | [x0]=>some (.str (zyd (rdG ycj x0)),false,[wG yzf ycj x0,bdMark (rdG ycj x0)])
 | _=>none
theorem ytu:OkD Tryz.prog 65 D_zyd:=by unfold D_zyd;exact dk N65.den
def zoe (a0:Mark):(List UInt8):=
 (bif (a0.Kind == 0)then[110,111,110,101]else(bif (a0.Topmark == [])then(((((((zug ).getD ((a0.Kind).toNat) default)++[32])++a0.Colors)++[32])++a0.Shape)++[32])++[45]else(((((((zug ).getD ((a0.Kind).toNat) default)++[32])++a0.Colors)++[32])++a0.Shape)++[32])++a0.Topmark))
def zjg (a0:Mark):(List UInt8):=
 (bif (!(zrb a0))then[]else(zoe a0))
def yjm (a0:(List Sector)) (i1:Nat) (s1:List (List UInt8)):Except ((List UInt8)) (List (List UInt8)):=
 .ok (s1++[(((zu ((a0.getD i1 default).From))++[45])++(zu ((a0.getD i1 default).To)))++((a0.getD i1 default).Color)])
def zad (a0:(List Sector)):(List UInt8):=
 (bif (!(znb a0))then[]else(bif ((a0.length:Int) == 0)then[45]else(match yf (yjm a0) (a0.length-0) 0 ([]:List (List UInt8))with|.error e=>e|.ok s1=>(zkc s1 [44]))))
namespace N66
theorem DD:DOk Tryz.prog (Go.Ab.DD [(139,dP D_znb),(62,dP D_zkc),(63,dP D_zu)]):=ya yln.e <| ya ymj.e <| ya y6j.e <| ye _
theorem dn:type_of% (And.intro @D_znb.eq_1 <| And.intro @D_zkc.eq_1 <| @D_zu.eq_1):=by and_intros<;>intros<;>rfl
theorem gr {p:Prop} (h:p:=by(grind [yxe]);first|done|fail):p:=h
theorem o0 {p:Prop} (h:p:=by(first|((have h8:=hsr (by assumption);have h9:=h8.2 i1;have l1:=yxe (a0.getD i1 default).From;have l2:=yxe (a0.getD i1 default).To;(repeat' with_reducible apply And.intro)<;>(first|omega|assumption|(simp only[List.length_append,List.length_cons,List.length_nil,List.length_singleton];omega)|(refine Nat.le_trans (yml _ _) ?_;simp only[jl,List.length_cons,List.length_nil];omega))))|(have h8:=hsr (by assumption);obtain⟨w1,w2⟩:=hW1;have h9:=yrh [44] s1 1000 w2;simp only[List.length_singleton]at h9;(repeat' with_reducible apply And.intro)<;>omega));first|done|fail):p:=h
set_option maxHeartbeats 1000000 in
set_option maxRecDepth 20000 in
theorem den (a0:(List Sector)) (hb0:a0.length<1099511627776) (hb1:∀ v∈a0,bdSector v):Den Tryz.prog 66 [encL 3 yl a0] (.str (zad a0)):=by
 generalize hR:zad a0=r;unfold zad at hR;refine di Tryz.func66 Tryz.ntmps66 Tryz.results66 ?_;intro c hL hc hk;obtain⟨hL0,_⟩:=hL;have hw0:a0.length<9223372036854775808:=Nat.lt_succ_of_le (yc hL0).1;have hw1:∀ v∈a0,bwSector v:=fun v hv=>y9 v ((yc hL0).2 v hv)
 clear hL0;simp only[pars,Nat.zero_add];have hsr:=fun h=>yb0 (a:=a0) hb0 h
 iterate 2 refine rS ?_
 refine AWP.cond rfl (fun hb => ?_) (fun hb => ?_)
 ·replace hR:=ct hR
  refine rS ?_;refine AWP.ret ?_;subst hR;exact es
 ·replace hR:=cf hR
  refine rS ?_;refine AWP.cond rfl (fun hb => ?_) (fun hb => ?_)
  ·replace hR:=ct hR
   refine rS ?_;refine AWP.ret ?_;subst hR;exact es
  ·replace hR:=cf hR
   iterate 2 refine rS ?_
   refine AWP.block ?_;generalize hz1:yf (yjm a0) (a0.length-0) 0 ([]:List (List UInt8))=z1 at hR;refine AWP.range (yjm a0) (fun i1 s1=>⟨[(3,.ref 0 1 0 s1.length),(13,encL 3 yl a0),(14,.int .i64 (a0.length:Int)),(15,.int .i64 (i1:Int))],[.arr 9 1 s1.length (fun j=>eS (s1.getD j default))]⟩) (fun i1 s1=>s1.length<=i1/\∀ v∈s1,v.length<=1000) (a0.length) 0 ([]:List (List UInt8)) [0] hz1 ot wt sm ?_;clear hz1;intro i1 s1 hi1 hW1 hz1;refine rS ?_;refine AWP.seq ?_;refine AWP.cond rfl (fun hb => ?_) (fun hb => ?_)
   ·have hlt1:i1<a0.length:=ot
    rw[yp hlt1]at hz1;simp only[yjm]at hz1;refine rS ?_;refine AWP.regP mixed G_ok DD hc 13 [0,1,2,3,4,5,6,7,8,9,10,11] (.alt 12 [] [0,1,2,5] .leaf .stop) (by kernel_rfl) (by kernel_rfl) (by kernel_rfl) (fun K hK => ?_);simp only[ydj,runN,runP,yjc,nthO,ea,absV,absVL,cput,gv,sv,dn,reduceCtorEq,reduceIte,Nat.reduceBEq,Nat.reduceAdd,Nat.reduceEqDiff,Nat.reduceLT,Nat.reduceLeDiff,Nat.reduceMul,Nat.reduceSub,BEq.rfl,beq_self_eq_true,Int.reduceToNat];repeat' apply And.intro
    all_goals first|refine hK _ ?_|exact ot
    all_goals clear hK K
    refine rS ?_;exact⟨_,[3],hlt1,by(have h8:=hsr (by assumption);have h9:=h8.2 i1;have l1:=yxe (a0.getD i1 default).From;have l2:=yxe (a0.getD i1 default).To;obtain⟨w1,w2⟩:=hW1;(repeat' with_reducible apply And.intro)<;>first|(simp only[List.length_append,List.length_cons,List.length_nil,List.length_singleton];omega)|(intro v hv;exact(List.mem_append.1 hv).elim (fun h=>w2 v h) (fun h=>by rw[List.mem_singleton]at h;subst h;simp only[List.length_append,List.length_cons,List.length_nil,List.length_singleton];omega))),hz1,sm⟩
   ·obtain rfl:i1=a0.length:=ot
    rw[yq (Nat.le_refl _)]at hz1;subst hz1;dsimp only at hR;refine AWP.exit ?_;refine yb ?_;refine rS ?_;refine AWP.ret ?_;subst hR;exact es
end N66
def D_zad : DF
 | [x0]=>some (.str (zad (rdL yv x0)),false,[wL 3 yl yv x0,(rdL yv x0).length<1099511627776,∀ v∈(rdL yv x0),bdSector v])
 | _=>none
theorem yhu:OkD Tryz.prog 66 D_zad:=by unfold D_zad;exact dk N66.den
def ylz (a0:(List Sector)) (i1:Nat) (s1:List UInt8):Except ((List UInt8)) (List UInt8):=
 (bif decide (0<(i1:Int))then .ok ((s1++[44])++((((zv ((a0.getD i1 default).From))++[45])++(zv ((a0.getD i1 default).To)))++((a0.getD i1 default).Color)))else .ok (s1++((((zv ((a0.getD i1 default).From))++[45])++(zv ((a0.getD i1 default).To)))++((a0.getD i1 default).Color))))
def zqf (a0:(List Sector)):(List UInt8):=
 (bif ((a0.length:Int) == 0)then[45]else(match yf (ylz a0) (a0.length-0) 0 []with|.error e=>e|.ok s1=>s1))
theorem yq7 {p:Point} (h:zdc p=true):zhf p=zye p/\(zye p).length<=13:=by
 have hr:=ymy h;unfold zhf zye;rw[show zld p=zdc p from rfl,h,yxg _ (by omega) (by omega),yxg _ (by omega) (by omega)];refine⟨rfl,?_⟩;have h1:=y4g p.X 5 (by omega) (by show p.X<(1000000:Int);omega);have h2:=y4g p.Y 5 (by omega) (by show p.Y<(1000000:Int);omega);simp only[List.length_append,List.length_cons,List.length_nil];omega
theorem y28 (a b c d:List UInt8) (s:List UInt8):Lib.join [a,b,c,d] s=a++(s++(b++(s++(c++(s++d))))):=by
 simp[Lib.join_cons,Lib.joinTail]
theorem yex {k:Int} (h:0<=k/\k<=9):zjd k=zug.getD k.toNat default:=yi0 _ _ (by omega) (by show k<10;omega)
theorem yl8 (m:Mark):zyd m=zjg m:=by
 unfold zyd zjg zoe;rw[ysd,show zuc m=zrb m from rfl]
 cases h:zrb m with
 | false=>rfl
 | true=>
  simp only[Bool.not_true,cond_false];by_cases hk:m.Kind=0
  ·rw[show(m.Kind == 0)=true by simp[hk],cond_true,cond_true];rfl
  ·rw[show(m.Kind == 0)=false by simp[hk],cond_false,cond_false]
   have hr:=y8g (m:=m) h;rw[yex ⟨hr.1,hr.2.1⟩];have e:∀ a b c d:List UInt8,zkc [a,b,c,d] [32]=a++([32]++(b++([32]++(c++([32]++d))))):=fun a b c d=>y28 a b c d [32]
   rw[e,e];simp only[List.append_assoc]
theorem y37 (m:Mark):(zjg m).length<=40:=by
 unfold zjg zoe
 cases h:zrb m with
 | false=>simp
 | true=>
  have hr:=y8g (m:=m) h;simp only[Bool.not_true,cond_false]
  have hn:(zug.getD m.Kind.toNat default).length<=7:=by
   rcases(show m.Kind=0\/m.Kind=1\/m.Kind=2\/m.Kind=3\/m.Kind=4\/m.Kind=5\/m.Kind=6\/m.Kind=7\/m.Kind=8\/m.Kind=9 by omega)with e|e|e|e|e|e|e|e|e|e<;>rw[e]<;>decide
  simp only[Bool.cond_eq_ite];repeat' split
  all_goals (try simp only[List.length_append,List.length_cons,List.length_nil])
  all_goals omega
def scT (s:Sector):List UInt8:=Lib.itoa s.From++(45::(Lib.itoa s.To++s.Color))
def scsT (a:List Sector):List UInt8:=if a=[]then[45]else Lib.join (a.map scT) [44]
theorem yws {a:List Sector} (h:zy a=true):zad a=scsT a:=by
 have hr:=yne h;unfold zad scsT;rw[yub a (by omega),h];simp only[Bool.not_true,cond_false];by_cases ha:a=[]
 ·rw[ha];rfl
 ·have hp:0<a.length:=List.length_pos_iff.2 ha
  rw[if_neg ha,show((a.length:Int) == 0)=false by rw[beq_eq_false_iff_ne];omega,cond_false]
  have hl:=y1c (yjm a) (fun j=>[scT (a.getD j default)]) a.length 0 [] (fun j s _ _=>by
   unfold yjm scT
   simp[yo2])
  rw[y9e a default scT,List.nil_append]at hl;rw[Nat.sub_zero,hl];rfl
theorem yfg {a:List Sector} (h:zy a=true):zqf a=scsT a:=by
 have hr:=yne h;unfold zqf scsT;by_cases ha:a=[]
 ·rw[ha];rfl
 ·have hp:0<a.length:=List.length_pos_iff.2 ha
  rw[if_neg ha,show((a.length:Int) == 0)=false by rw[beq_eq_false_iff_ne];omega,cond_false]
  have hl:=y1c (ylz a) (fun j=>(if j=0 then[]else[44])++scT (a.getD j default)) a.length 0 [] (fun j s _ _=>by
   have h9:=hr.2 j;unfold ylz scT;rw[yxg _ (by omega) (by omega),yxg _ (by omega) (by omega)];by_cases hj:j=0
   ·subst hj;simp
   ·rw[decide_eq_true (show(0:Int)<(j:Int)by omega),if_neg hj];simp)
  rw[Nat.sub_zero,hl,List.nil_append];simp only
  cases a with
  | nil=>exact absurd rfl ha
  | cons x r=>
   rw[List.length_cons,List.range'_succ,List.flatMap_cons,List.map_cons,Lib.join_cons, <- yjw 44 default scT x r]
   have:(List.range' (0+1) r.length).flatMap (fun j=>(if j=0 then[]else[44])++scT ((x::r).getD j default))=(List.range' 1 r.length).flatMap (fun j=>(44:UInt8)::scT ((x::r).getD j default)):=by
    rw[List.flatMap_def,List.flatMap_def];congr 1
    apply List.map_congr_left;intro j hj;rw[List.mem_range'_1]at hj;rw[if_neg (by omega)];rfl
   rw[this];simp
theorem y93 {a:List Sector} (h:zy a=true):(scsT a).length<=120:=by
 have hr:=yne h;unfold scsT;split
 ·simp
 ·have h1:=yrh [44] (a.map scT) 8 (fun x hx=>by
   obtain⟨s,hs,rfl⟩:=List.mem_map.1 hx;obtain⟨i,hi,e⟩:=List.getElem_of_mem hs;have h9:=hr.2 i;have hg:a.getD i default=s:=by rw[List.getD_eq_getElem?_getD,List.getElem?_eq_getElem hi,e];rfl
   rw[hg]at h9;have h1:=y4g s.From 2 (by omega) (by show s.From<(1000:Int);omega);have h2:=y4g s.To 2 (by omega) (by show s.To<(1000:Int);omega);unfold scT;simp only[List.length_append,List.length_cons]
   omega)
  rw[List.length_map]at h1;simp only[List.length_singleton]at h1;have:a.length * (8+1)<=12 * 9:=Nat.mul_le_mul hr.1 (by omega);omega
theorem y1d {ρ σ : Type} {b : Nat -> σ -> Except ρ σ} {e0 : ρ} (h : ∀ j s e, b j s = .error e -> e = e0) : ∀ (n i : Nat) (s : σ) (e : ρ), yf b n i s = .error e -> e = e0
 | 0,i,s,e,he=>by simp[yf]at he
 | n+1,i,s,e,he=>by
  simp only[yf]at he
  cases hb:b i s with
  | error e'=>
   rw[hb]at he;have he:e'=e:=by simpa using he
   rw[<- he];exact h _ _ _ hb
  | ok s'=>rw[hb]at he;exact y1d h n (i+1) s' e he
theorem ynm {c:Character} (h:zib c=true):c.Colors.length<=3:=by
 unfold zib at h
 cases h1:((!(zic c.Colors)) || (!(zqb c)))with
 | true=>rw[h1]at h;cases h
 | false=>
  rw[Bool.or_eq_false_iff]at h1;have h2:zic c.Colors=true:=by simpa using h1.1
  unfold zic at h2
  have he:=y1d (b:=ywg c.Colors) (e0:=false) (fun j s e h=>by
   unfold ywg at h;rw[Bool.cond_eq_ite]at h;split at h
   ·simpa using h.symm
   ·cases h) (c.Colors.length-0) 0 (-1)
  generalize yf (ywg c.Colors) (c.Colors.length-0) 0 (-1)=z at h2 he
  cases z with
  | error e=>have:=he e rfl;subst this;cases h2
  | ok s=>simp[zk]at h2;omega
theorem yl7 {c:Character} (h:zib c=true):(chrT c).length<=40:=by
 have hf:=yzb c h;have hv:=ymc c h;have hk:=y8c c hf;have hp:=y2c c h;have hc:=ynm h
 have hK:(kt c.Kind).length<=3:=by
  rcases(show c.Kind=1\/c.Kind=2\/c.Kind=3\/c.Kind=4\/c.Kind=5\/c.Kind=6\/c.Kind=7\/c.Kind=8 by omega)with e|e|e|e|e|e|e|e<;>rw[e]<;>decide
 have hg:(grpT c.Group).length<=10:=by
  unfold grpT;split
  ·simp
  ·have h1:=yrh [43] (c.Group.map Lib.itoa) 1 (fun x hx=>by
    obtain⟨s,hs,rfl⟩:=List.mem_map.1 hx;have:=hv.2.1 s hs
    exact y4g s 0 (by omega) (by show s<(10:Int);omega))
   rw[List.length_map,List.length_singleton]at h1;simp only[List.length_append,List.length_cons,List.length_nil];omega
 have hs:(perT c.Period).length<=8:=by
  unfold perT secT;split
  ·simp
  ·have h1:=y4g (c.Period / 10) 1 (by omega) (by show c.Period / 10<(100:Int);omega)
   have h2:=y4g (c.Period % 10) 0 (by omega) (by show c.Period % 10<(10:Int);omega);split<;>simp only[List.length_append,List.length_cons,List.length_nil]<;>omega
 have hh:(ybd c).length<=17:=by
  unfold ybd;split
  ·rename_i h8
   have h9:=y0j c hf h8;have:(kt 8).length=2:=rfl;simp only[List.length_append,List.length_cons,List.length_nil];omega
  ·split<;>simp only[List.length_append,List.length_cons,List.length_nil]<;>omega
 unfold chrT;simp only[List.length_append,List.length_cons];omega
theorem y0x {c:Character} (h:ztb c=true) (hl:c.Colors.length<9223372036854775808):zgd c=zfd c/\(zfd c).length<=40:=by
 rw[<- yre c hl]at h;rw[ypk c h,ymh c h];exact⟨rfl,yl7 h⟩
theorem yo6 {a:Aid} (h:zmb a=true) (hl:a.Light.Colors.length<9223372036854775808) :
  (zu a.Number=zv a.Number/\(zv a.Number).length<=4)/\(zhf a.At=zye a.At/\(zye a.At).length<=13)/\(zu a.Height=zv a.Height/\(zv a.Height).length<=4) /\
  (zyd a.Mark=zjg a.Mark/\(zjg a.Mark).length<=40)/\(zpf a=true->zgd a.Light=zfd a.Light/\(zfd a.Light).length<=40) /\
  (zad a.Sectors=zqf a.Sectors/\(zqf a.Sectors).length<=120)/\(zu a.Intensity=zv a.Intensity/\(zv a.Intensity).length<=9)/\a.Name.length<=10:=by
 obtain⟨n1,n2,nm,at1,h1,h2,mk,lt,sx,i1,i2⟩:=y6e h
 have dq:∀ (n:Int) (k:Nat),0<=n->n<=100000000->n<((10 ^ (k+1):Nat):Int)->zu n=zv n/\(zv n).length<=k+1:=fun n k a b c=>by
  rw[yxg n (by omega) (by omega)];exact⟨rfl,y4g n k a c⟩
 refine⟨dq _ 3 (by omega) (by omega) (by show _<(10000:Int);omega),yq7 at1,dq _ 3 (by omega) (by omega) (by show _<(10000:Int);omega),⟨yl8 _,y37 _⟩,fun hq=>y0x (lt hq) hl,⟨by rw[yws sx,yfg sx],by rw[yfg sx];exact y93 sx⟩,dq _ 8 (by omega) (by omega) (by show _<(1000000000:Int);omega),ybu nm⟩
def yop (a0:l00Src) (q2:l00Src) (q4:l00Src) (q6:l00Src) (q8:l00Src) (q10:l00Src) (q12:l00Src) (i1:Nat) (s1:List Aid):Except ((List Aid)×l00Src) (List Aid):=
 .ok (s1++[{ Number:=IntKind.wrap .i64 ((i1:Int)+1),Name:=[113],At:={ X:=0,Y:=0:Point },Height:=0,Mark:={ Kind:=0,Colors:=[],Shape:=[],Topmark:=[]:Mark },Light:={ Kind:=0,Group:=[],Letter:=[],Colors:=[],Period:=0:Character },Sectors:=[],Intensity:=0:Aid }])
def ynr (a0:l00Src) (q2:l00Src) (q4:l00Src) (q14:l00Src) (q16:l00Src) (i2:Nat) (s2:List Aid):Except ((List Aid)×l00Src) (List Aid):=
 .ok (s2++[{ Number:=IntKind.wrap .i64 ((i2:Int)+1),Name:=[113],At:={ X:=0,Y:=0:Point },Height:=0,Mark:={ Kind:=0,Colors:=[],Shape:=[],Topmark:=[]:Mark },Light:={ Kind:=0,Group:=[],Letter:=[],Colors:=[],Period:=0:Character },Sectors:=[],Intensity:=0:Aid }])
def ysq (a0:l00Src) (q2:l00Src) (q18:l00Src) (q20:l00Src) (i3:Nat) (s3:List Aid):Except ((List Aid)×l00Src) (List Aid):=
 .ok (s3++[{ Number:=IntKind.wrap .i64 ((i3:Int)+1),Name:=[113],At:={ X:=0,Y:=0:Point },Height:=0,Mark:={ Kind:=0,Colors:=[],Shape:=[],Topmark:=[]:Mark },Light:={ Kind:=0,Group:=[],Letter:=[],Colors:=[],Period:=0:Character },Sectors:=[],Intensity:=0:Aid }])
def zeb (a0:l00Src):(List Aid)×l00Src:=
 (bnd ((zjb a0).2) fun q2=>(bif decide (0<(((zjb a0).1).length:Int))then(bnd ((zh q2 10).2) fun q4=>(bif ((zh q2 10).1)then(bnd ((za q4 (((zjb a0).1).length:Int)).2) fun q6=>(bnd ((zsb q6 (((zjb a0).1).getD ((((za q4 (((zjb a0).1).length:Int)).1)).toNat) default)).2) fun q8=>(bnd ((zh q8 24).2) fun q10=>(bif ((zh q8 24).1)then(bnd ((zb q10 ([24,25]:List Int)).2) fun q12=>(match yf (yop a0 q2 q4 q6 q8 q10 q12) ((((zb q10 ([24,25]:List Int)).1)).toNat-0) 0 ([]:List Aid)with|.error e=>e|.ok s1=>(s1,q12)))else(((zjb a0).1).set ((((za q4 (((zjb a0).1).length:Int)).1)).toNat) ((zsb q6 (((zjb a0).1).getD ((((za q4 (((zjb a0).1).length:Int)).1)).toNat) default)).1),q10)))))else(bnd ((zh q4 24).2) fun q14=>(bif ((zh q4 24).1)then(bnd ((zb q14 ([24,25]:List Int)).2) fun q16=>(match yf (ynr a0 q2 q4 q14 q16) ((((zb q14 ([24,25]:List Int)).1)).toNat-0) 0 ([]:List Aid)with|.error e=>e|.ok s2=>(s2,q16)))else(((zjb a0).1),q14)))))else(bnd ((zh q2 24).2) fun q18=>(bif ((zh q2 24).1)then(bnd ((zb q18 ([24,25]:List Int)).2) fun q20=>(match yf (ysq a0 q2 q18 q20) ((((zb q18 ([24,25]:List Int)).1)).toNat-0) 0 ([]:List Aid)with|.error e=>e|.ok s3=>(s3,q20)))else(((zjb a0).1),q18)))))
namespace N71
theorem DD:DOk Tryz.prog (Go.Ab.DD [(102,dM [true,false] D_za),(150,dM [true,false] D_zh),(151,dM [true,true] D_zb),(39,dM [true] D_zjb),(72,dM [true,false] D_zsb)]):=ya ycd.e <| ya ygi.e <| ya yyk.e <| ya yx0.e <| ya yao.e <| ye _
theorem dn:type_of% (And.intro @D_za.eq_1 <| And.intro @D_zh.eq_1 <| And.intro @D_zb.eq_1 <| And.intro @D_zjb.eq_1 <| @D_zsb.eq_1):=by and_intros<;>intros<;>rfl
theorem o1 {p:Prop} (h:p:=by(first|(exact(pk_b (by assumption) (by assumption) (by omega)).1)|(exact(pk_b (by assumption) (by assumption) (by omega)).2.1)|(exact(pk_b (by assumption) (by assumption) (by omega)).2.2)|(refine SrcOk.mono (by repeat' first|assumption|exact SrcOk.next ‹_› | apply SrcOk.next|apply SrcOk.pick|apply SrcOk.one|apply SrcOk.among|apply SrcOk.text|apply SrcOk.colors|apply SrcOk.point|apply SrcOk.chr|apply SrcOk.sectors|apply SrcOk.aid|apply SrcOk.aids|apply SrcOk.notice|omega) (by omega))|(exact(yg _ (by assumption) (by omega)).1)|(exact(yg _ (by assumption) (by omega)).2 (by omega))|(rename_i h9;simp only[beq_eq_false_iff_ne,ne_eq]at h9;exact(yg _ (by assumption) (by omega)).2 (by omega))|(rename_i h9;replace h9:=of_decide_eq_true h9;exact(yg _ (by assumption) (by omega)).2 (by omega))|(have h9:=ham q10 _ (by assumption) (by omega);omega)|(have h9:=ham q14 _ (by assumption) (by omega);omega)|(have h9:=ham q18 _ (by assumption) (by omega);omega));first|done|fail):p:=h
theorem o2 {p:Prop} (h:p:=by(first|((repeat' with_reducible apply And.intro)<;>first|(simp only[List.length_append,List.length_singleton];(first|done|fail))|(rw[IntKind.wrap_i64];omega)|(intro j hj;by_cases hji:j<s1.length;(focus(simp only[ybf hji,yll hji,cond_true];first|(first|done|fail)|with_reducible rfl));(have e0:j-s1.length=0:=by omega);(simp only[y8e hji hj,yzk hji,cond_false,e0,elt,borrowL,borrow];first|(first|done|fail)|with_reducible rfl))|decide)|((repeat' with_reducible apply And.intro)<;>first|(simp only[List.length_append,List.length_singleton];(first|done|fail))|(rw[IntKind.wrap_i64];omega)|(intro j hj;by_cases hji:j<s2.length;(focus(simp only[ybf hji,yll hji,cond_true];first|(first|done|fail)|with_reducible rfl));(have e0:j-s2.length=0:=by omega);(simp only[y8e hji hj,yzk hji,cond_false,e0,elt,borrowL,borrow];first|(first|done|fail)|with_reducible rfl))|decide)|((repeat' with_reducible apply And.intro)<;>first|(simp only[List.length_append,List.length_singleton];(first|done|fail))|(rw[IntKind.wrap_i64];omega)|(intro j hj;by_cases hji:j<s3.length;(focus(simp only[ybf hji,yll hji,cond_true];first|(first|done|fail)|with_reducible rfl));(have e0:j-s3.length=0:=by omega);(simp only[y8e hji hj,yzk hji,cond_false,e0,elt,borrowL,borrow];first|(first|done|fail)|with_reducible rfl))|decide));first|done|fail):p:=h
theorem lx {p:Prop} (h:p:=by(exact lxx);first|done|fail):p:=h
set_option maxHeartbeats 2000000 in
set_option maxRecDepth 20000 in
theorem den (a0:l00Src) (hp0:SrcOk 300000 a0):DenM Tryz.prog 71 [.op (yk a0)] (encL 16 eAid ((zeb a0).1)) [(.op (yk ((zeb a0).2)))]:=by
 generalize hR:zeb a0=r;unfold zeb at hR;refine djL (gb:=[true]) Tryz.func71 Tryz.ntmps71 Tryz.results71 ?_;intro c hL hc hk;obtain⟨hL0,_⟩:=hL;have hw0:bwl00Src a0:=yab a0 hL0;clear hL0;simp only[adEL,adE,adRL,adR,ownL,encL,sv,List.nil_append,List.append_nil,List.cons_append,List.length_cons,List.length_nil,pars,Nat.zero_add,Nat.reduceAdd]at hk ⊢;have hD0:=yus hp0 (by omega);have hD1:=hD0.1;have hD2:=hD0.2.2;have ham:=fun(s:l00Src) (n:Int) (h:SrcOk n s) (hn:n<=2000000)=>am24 h (by omega)
 iterate 2 refine rS ?_
 generalize hq2:(zjb a0).2=q2 at hR ⊢;replace hR:=bn hR;have hS_q2:SrcOk (304000) q2:=by rw[<- hq2];exact SrcOk.aids hp0 (by omega)
 refine AWP.seq ?_;refine AWP.seq ?_;rcases Bool.eq_false_or_eq_true (decide (0<(((zjb a0).1).length:Int)))with hb|hb
 ·replace hR:=ct hR
  refine rK [(4,0),(5,0),(6,2)] ?_;generalize hq4:(zh q2 10).2=q4 at hR ⊢;replace hR:=bn hR;have hS_q4:SrcOk (304002) q4:=by rw[<- hq4];exact SrcOk.one hS_q2 (by omega)
  refine AWP.cond rfl (fun hb => ?_) (fun hb => ?_)
  ·replace hR:=ct hR
   refine rS ?_;generalize hq6:(za q4 (((zjb a0).1).length:Int)).2=q6 at hR ⊢;replace hR:=bn hR;have hS_q6:SrcOk (304004) q6:=by rw[<- hq6];exact SrcOk.pick hS_q4 (by omega)
   refine rS ?_;refine AWP.arrS 1 (fun j=>eAid ((((zjb a0).1).set ((((za q4 (((zjb a0).1).length:Int)).1)).toNat) ((zsb q6 (((zjb a0).1).getD ((((za q4 (((zjb a0).1).length:Int)).1)).toNat) default)).1)).getD j default)) rfl (by intro i hi;by_cases hik:i=((((za q4 (((zjb a0).1).length:Int)).1)).toNat);(focus(subst hik;rw[y25 _ _ _ hi];simp only[beq_self_eq_true,cond_true];exact y3 _));(rw[yc5 _ _ _ _ hik];simp only[beq_eq_false_iff_ne.2 hik,cond_false];exact y3 _)) ?_;simp only[setE];generalize hq8:(zsb q6 (((zjb a0).1).getD ((((za q4 (((zjb a0).1).length:Int)).1)).toNat) default)).2=q8 at hR ⊢;replace hR:=bn hR;have hS_q8:SrcOk (304008) q8:=by rw[<- hq8];exact SrcOk.bend hS_q6 (by omega)
   refine rS ?_;generalize hq10:(zh q8 24).2=q10 at hR ⊢;replace hR:=bn hR;have hS_q10:SrcOk (304010) q10:=by rw[<- hq10];exact SrcOk.one hS_q8 (by omega)
   refine AWP.cond rfl (fun hb => ?_) (fun hb => ?_)
   ·replace hR:=ct hR
    refine rS ?_;generalize hq12:(zb q10 ([24,25]:List Int)).2=q12 at hR ⊢;replace hR:=bn hR;have hS_q12:SrcOk (304012) q12:=by rw[<- hq12];exact SrcOk.among hS_q10 (by omega)
    iterate 2 refine rS ?_
    refine AWP.block ?_;generalize hz1:yf (yop a0 q2 q4 q6 q8 q10 q12) ((((zb q10 ([24,25]:List Int)).1)).toNat-0) 0 ([]:List Aid)=z1 at hR;refine AWP.range (yop a0 q2 q4 q6 q8 q10 q12) (fun i1 s1=>⟨[(3,.ref 1 16 0 s1.length),(5,.int .i64 ((zb q10 ([24,25]:List Int)).1)),(6,.int .i64 (i1:Int))],[.box [encL 1 eIu8 q12.code,.int .i64 q12.at_,.int .u64 q12.seed],.arr 59 16 s1.length (fun j=>yob (s1.getD j default))]⟩) (fun i1 s1=>s1.length<=([]:List Aid).length+1 * i1) ((((zb q10 ([24,25]:List Int)).1)).toNat) 0 ([]:List Aid) [0,3] hz1 ot wt sm ?_;clear hz1;intro i1 s1 hi1 hW1 hz1;refine rS ?_;refine AWP.cond rfl (fun hb => ?_) (fun hb => ?_)
    ·have hlt1:i1<(((zb q10 ([24,25]:List Int)).1)).toNat:=ot
     rw[yp hlt1]at hz1;simp only[yop]at hz1;refine rS ?_;refine AWP.arrS 3 (fun j=>yob ((s1++[{ Number:=IntKind.wrap .i64 ((i1:Int)+1),Name:=[113],At:={ X:=0,Y:=0:Point },Height:=0,Mark:={ Kind:=0,Colors:=[],Shape:=[],Topmark:=[]:Mark },Light:={ Kind:=0,Group:=[],Letter:=[],Colors:=[],Period:=0:Character },Sectors:=[],Intensity:=0:Aid }]).getD j default)) rfl (by intro i hi;by_cases hji:i<(s1).length;(focus(simp only[joinF,ybf hji,yll hji,cond_true];exact y3 _));(have e0:i-(s1).length=0:=by omega);(simp only[joinF,y8e hji hi,yzk hji,cond_false,e0,elt,borrowL,borrow];(repeat' first|exact rfl|exact trivial|refine⟨?_,?_⟩))) ?_;simp only[setE];refine rS ?_;clear hR;exact⟨_,[0,3],hlt1,wt,hz1,sm⟩
    ·obtain rfl:i1=(((zb q10 ([24,25]:List Int)).1)).toNat:=ot
     rw[yq (Nat.le_refl _)]at hz1;subst hz1;dsimp only at hR;refine AWP.exit ?_;refine yb ?_;refine rS ?_;refine AWP.ret ?_;subst hR;exact esL
   ·replace hR:=cf hR
    refine rS ?_;refine AWP.ret ?_;subst hR;exact esL
  ·replace hR:=cf hR
   refine rS ?_;generalize hq14:(zh q4 24).2=q14 at hR ⊢;replace hR:=bn hR;have hS_q14:SrcOk (304004) q14:=by rw[<- hq14];exact SrcOk.one hS_q4 (by omega)
   refine AWP.cond rfl (fun hb => ?_) (fun hb => ?_)
   ·replace hR:=ct hR
    refine rS ?_;generalize hq16:(zb q14 ([24,25]:List Int)).2=q16 at hR ⊢;replace hR:=bn hR;have hS_q16:SrcOk (304006) q16:=by rw[<- hq16];exact SrcOk.among hS_q14 (by omega)
    iterate 2 refine rS ?_
    refine AWP.block ?_;generalize hz2:yf (ynr a0 q2 q4 q14 q16) ((((zb q14 ([24,25]:List Int)).1)).toNat-0) 0 ([]:List Aid)=z2 at hR;refine AWP.range (ynr a0 q2 q4 q14 q16) (fun i2 s2=>⟨[(3,.ref 1 16 0 s2.length),(5,.int .i64 ((zb q14 ([24,25]:List Int)).1)),(6,.int .i64 (i2:Int))],[.box [encL 1 eIu8 q16.code,.int .i64 q16.at_,.int .u64 q16.seed],.arr 59 16 s2.length (fun j=>yob (s2.getD j default))]⟩) (fun i2 s2=>s2.length<=([]:List Aid).length+1 * i2) ((((zb q14 ([24,25]:List Int)).1)).toNat) 0 ([]:List Aid) [0,3] hz2 ot wt sm ?_;clear hz2;intro i2 s2 hi2 hW2 hz2;refine rS ?_;refine AWP.cond rfl (fun hb => ?_) (fun hb => ?_)
    ·have hlt2:i2<(((zb q14 ([24,25]:List Int)).1)).toNat:=ot
     rw[yp hlt2]at hz2;simp only[ynr]at hz2;refine rS ?_;refine AWP.arrS 3 (fun j=>yob ((s2++[{ Number:=IntKind.wrap .i64 ((i2:Int)+1),Name:=[113],At:={ X:=0,Y:=0:Point },Height:=0,Mark:={ Kind:=0,Colors:=[],Shape:=[],Topmark:=[]:Mark },Light:={ Kind:=0,Group:=[],Letter:=[],Colors:=[],Period:=0:Character },Sectors:=[],Intensity:=0:Aid }]).getD j default)) rfl (by intro i hi;by_cases hji:i<(s2).length;(focus(simp only[joinF,ybf hji,yll hji,cond_true];exact y3 _));(have e0:i-(s2).length=0:=by omega);(simp only[joinF,y8e hji hi,yzk hji,cond_false,e0,elt,borrowL,borrow];(repeat' first|exact rfl|exact trivial|refine⟨?_,?_⟩))) ?_;simp only[setE];refine rS ?_;clear hR;exact⟨_,[0,3],hlt2,wt,hz2,sm⟩
    ·obtain rfl:i2=(((zb q14 ([24,25]:List Int)).1)).toNat:=ot
     rw[yq (Nat.le_refl _)]at hz2;subst hz2;dsimp only at hR;refine AWP.exit ?_;refine yb ?_;refine rS ?_;refine AWP.ret ?_;subst hR;exact esL
   ·replace hR:=cf hR
    refine rS ?_;refine AWP.ret ?_;subst hR;exact esL
 ·replace hR:=cf hR
  refine rK [(4,1),(5,1),(6,3)] ?_;refine AWP.cond rfl (fun hb => ?_) (fun hb => ?_)
  ·exact absurd hb (by decide)
  ·refine rS ?_
   generalize hq18:(zh q2 24).2=q18 at hR ⊢;replace hR:=bn hR;have hS_q18:SrcOk (304002) q18:=by rw[<- hq18];exact SrcOk.one hS_q2 (by omega)
   refine AWP.cond rfl (fun hb => ?_) (fun hb => ?_)
   ·replace hR:=ct hR
    refine rS ?_;generalize hq20:(zb q18 ([24,25]:List Int)).2=q20 at hR ⊢;replace hR:=bn hR;have hS_q20:SrcOk (304004) q20:=by rw[<- hq20];exact SrcOk.among hS_q18 (by omega)
    iterate 2 refine rS ?_
    refine AWP.block ?_;generalize hz3:yf (ysq a0 q2 q18 q20) ((((zb q18 ([24,25]:List Int)).1)).toNat-0) 0 ([]:List Aid)=z3 at hR;refine AWP.range (ysq a0 q2 q18 q20) (fun i3 s3=>⟨[(3,.ref 1 16 0 s3.length),(5,.int .i64 ((zb q18 ([24,25]:List Int)).1)),(6,.int .i64 (i3:Int))],[.box [encL 1 eIu8 q20.code,.int .i64 q20.at_,.int .u64 q20.seed],.arr 59 16 s3.length (fun j=>yob (s3.getD j default))]⟩) (fun i3 s3=>s3.length<=([]:List Aid).length+1 * i3) ((((zb q18 ([24,25]:List Int)).1)).toNat) 0 ([]:List Aid) [0,3] hz3 ot wt sm ?_;clear hz3;intro i3 s3 hi3 hW3 hz3;refine rS ?_;refine AWP.cond rfl (fun hb => ?_) (fun hb => ?_)
    ·have hlt3:i3<(((zb q18 ([24,25]:List Int)).1)).toNat:=ot
     rw[yp hlt3]at hz3;simp only[ysq]at hz3;refine rS ?_;refine AWP.arrS 3 (fun j=>yob ((s3++[{ Number:=IntKind.wrap .i64 ((i3:Int)+1),Name:=[113],At:={ X:=0,Y:=0:Point },Height:=0,Mark:={ Kind:=0,Colors:=[],Shape:=[],Topmark:=[]:Mark },Light:={ Kind:=0,Group:=[],Letter:=[],Colors:=[],Period:=0:Character },Sectors:=[],Intensity:=0:Aid }]).getD j default)) rfl (by intro i hi;by_cases hji:i<(s3).length;(focus(simp only[joinF,ybf hji,yll hji,cond_true];exact y3 _));(have e0:i-(s3).length=0:=by omega);(simp only[joinF,y8e hji hi,yzk hji,cond_false,e0,elt,borrowL,borrow];(repeat' first|exact rfl|exact trivial|refine⟨?_,?_⟩))) ?_;simp only[setE];refine rS ?_;clear hR;exact⟨_,[0,3],hlt3,wt,hz3,sm⟩
    ·obtain rfl:i3=(((zb q18 ([24,25]:List Int)).1)).toNat:=ot
     rw[yq (Nat.le_refl _)]at hz3;subst hz3;dsimp only at hR;refine AWP.exit ?_;refine yb ?_;refine rS ?_;refine AWP.ret ?_;subst hR;exact esL
   ·replace hR:=cf hR
    refine rS ?_;refine AWP.ret ?_;subst hR;exact esL
end N71
def D_zeb : List AV -> Option (AV × List AV × List Prop)
 | [x0]=>some (encL 16 eAid ((zeb (rdQ yn x0)).1),[(.op (yk ((zeb (rdQ yn x0)).2)))],[wQ yk yn x0,SrcOk 300000 (rdQ yn x0)])
 | _=>none
theorem yst:OkM Tryz.prog 71 D_zeb:=by unfold D_zeb;exact dm N71.den
def qAid (i:Int):Aid:={ Number:=i,Name:=[113],At:={ X:=0,Y:=0:Point },Height:=0,Mark:={ Kind:=0,Colors:=[],Shape:=[],Topmark:=[]:Mark },Light:={ Kind:=0,Group:=[],Letter:=[],Colors:=[],Period:=0:Character },Sectors:=[],Intensity:=0 }
theorem yd8 (i:Int):AidQ (qAid i):=⟨⟨(by decide:bdS [113]),(by decide:bdMark ({ Kind:=0,Colors:=[],Shape:=[],Topmark:=[]:Mark })),(by decide:bdCharacter ({ Kind:=0,Group:=[],Letter:=[],Colors:=[],Period:=0:Character })),(by decide:([]:List Sector).length<1099511627776),by simp[qAid]⟩,(by decide:([]:List Int).length<=2),(by decide:([]:List Sector).length<=5)⟩
theorem ye4 {ρ : Type} (b : Nat -> List Aid -> Except ρ (List Aid)) (hb : ∀ i s, b i s = .ok (s ++ [qAid (IntKind.wrap .i64 ((i : Int) + 1))])) : ∀ (k i : Nat) (s : List Aid), (∀ v ∈ s, AidQ v) -> ∃ t, yf b k i s = .ok t /\ (∀ v ∈ t, AidQ v) /\ t.length = s.length + k
 | 0,i,s,h=>⟨s,rfl,h,rfl⟩
 | k+1,i,s,h=>by
  obtain⟨t,h1,h2,h3⟩:=ye4 b hb k (i+1) (s++[qAid (IntKind.wrap .i64 ((i:Int)+1))]) (fun v hv=>by
   rcases List.mem_append.1 hv with hv|hv
   ·exact h v hv
   ·rw[List.mem_singleton]at hv;subst hv;exact yd8 _)
  refine⟨t,by simp only[yf,hb];exact h1,h2,?_⟩;rw[h3,List.length_append,List.length_singleton];omega
def yf2 (n:Int) (r:List Aid×l00Src):Prop:=SrcOk n r.2/\(∀ v∈r.1,AidQ v)/\r.1.length<=25
theorem ym5 {n:Int} {s:l00Src} (h:SrcOk n s) (hn:n<=2000000000):(zb s ([24,25]:List Int)).1=24\/(zb s ([24,25]:List Int)).1=25:=by
 have:=yff (l:=([24,25]:List Int)) h hn (by decide);simp only[List.mem_cons,List.not_mem_nil,or_false]at this;exact this
theorem yvk {n:Int} {s:l00Src} {l:List Aid} (q:SrcOk n s) (hn:n<=1000000) (Q:∀ v∈l,AidQ v) (hl:l.length<=25) (b:l00Src->Nat->List Aid->Except ((List Aid)×l00Src) (List Aid)) (hb:∀ q i s,b q i s=.ok (s++[qAid (IntKind.wrap .i64 ((i:Int)+1))])) :
  yf2 (n+4) (bif (zh s 24).1 then(match yf (b (zb (zh s 24).2 ([24,25]:List Int)).2) (((zb (zh s 24).2 ([24,25]:List Int)).1).toNat-0) 0 ([]:List Aid)with|.error e=>e|.ok s1=>(s1,(zb (zh s 24).2 ([24,25]:List Int)).2))else(l,(zh s 24).2)):=by
 have q14:=q.one (m:=24) (by omega)
 cases(zh s 24).1 with
 | true=>
  rw[cond_true];generalize (zh s 24).2=s14 at q14;have q16:=q14.among (l:=([24,25]:List Int)) (by omega);have hm:=ym5 q14 (by omega);obtain⟨t,h1,h2,h3⟩:=ye4 (b (zb s14 ([24,25]:List Int)).2) (fun i s=>hb _ i s) (((zb s14 ([24,25]:List Int)).1).toNat-0) 0 [] (by simp);rw[h1];exact⟨q16.mono (by omega),h2,by show t.length<=25;rw[h3];simp only[List.length_nil];omega⟩
 | false=>exact⟨q14.mono (by omega),Q,hl⟩
theorem yjl {n:Int} {s:l00Src} (h:SrcOk n s) (hn:n<=300000):yf2 (n+4100) (zeb s):=by
 obtain⟨q2,ho,hl⟩:=yus h (by omega);have mono:∀ {m:Int} {r:List Aid×l00Src},yf2 m r->m<=n+4100->yf2 (n+4100) r:=fun h h2=>⟨h.1.mono h2,h.2⟩
 unfold zeb;simp only[bnd];generalize (zjb s).2=s2 at q2;generalize (zjb s).1=l at ho hl;have Q:=ho.2
 cases hc:decide (0<(l.length:Int))with
 | false=>
  rw[cond_false];exact mono (yvk q2 (by omega) Q (by omega) (ysq s s2 (zh s2 24).2) (fun q i s=>rfl)) (by omega)
 | true=>
 rw[cond_true];rw[decide_eq_true_eq]at hc;have q4:=q2.one (m:=10) (by omega)
 cases(zh s2 10).1 with
 | false=>
  rw[cond_false];exact mono (yvk q4 (by omega) Q (by omega) (ynr s s2 (zh s2 10).2 (zh (zh s2 10).2 24).2) (fun q i s=>rfl)) (by omega)
 | true=>
 rw[cond_true];generalize (zh s2 10).2=s4 at q4;have r6:=yg (l.length:Int) q4 (by omega);have r62:=r6.2 (by omega);have q6:=q4.pick (m:=(l.length:Int)) (by omega);generalize (za s4 (l.length:Int)).2=s6 at q6;generalize (za s4 (l.length:Int)).1=i at r6 r62
 have hi:l.getD i.toNat default∈l:=by
  rw[List.getD_eq_getElem?_getD,List.getElem?_eq_getElem (show i.toNat<l.length by omega)];exact List.getElem_mem _
 have hQ:=Q _ hi;obtain⟨q8,b1,b2,b3⟩:=y8r q6 (by omega) hQ.1;have hB:AidQ (zsb s6 (l.getD i.toNat default)).1:=⟨b1,by rw[b2];exact hQ.2.1,by rw[b3];exact hQ.2.2⟩
 generalize (zsb s6 (l.getD i.toNat default)).2=s8 at q8;generalize (zsb s6 (l.getD i.toNat default)).1=b at hB;exact mono (yvk q8 (by omega) (yis AidQ l _ _ Q hB) (by rw[List.length_set];omega) (yop s s2 s4 s6 s8 (zh s8 24).2) (fun q i s=>rfl)) (by omega)
theorem SrcOk.aidsD {n:Int} {s:l00Src} (h:SrcOk n s) (hn:n<=300000):SrcOk (n+4100) (zeb s).2:=(yjl h hn).1
theorem SrcOk.number {n:Int} {s:l00Src} {l:List Aid} (h:SrcOk n s) (hn:n<=100000000):SrcOk (n+4) (zwd s l).2:=by
 have q2:=h.one (m:=6) (by omega);unfold zwd;simp only[bnd]
 cases((l.length:Int) == 0)with
 | true=>exact(h.pick (m:=32) (by omega)).mono (by omega)
 | false=>
  rw[cond_false]
  cases(zh s 6).1 with
  | true=>exact(q2.pick (m:=32) (by omega)).mono (by omega)
  | false=>exact(q2.pick (m:=(l.length:Int)) (by omega)).mono (by omega)
end Go.Ab
