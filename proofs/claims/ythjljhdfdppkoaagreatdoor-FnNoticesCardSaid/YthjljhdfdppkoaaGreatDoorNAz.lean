/- A part of a proof: walks of functions and lemmas of our own. No conditions. -/
import Derived.Test.YthjljhdfdppkoaaGreatDoorNAy
import Derived.Test.YthjljhdfdppkoaaGreatDoorNAq
import Derived.Test.YthjljhdfdppkoaaGreatDoorNAr
import Derived.Test.YthjljhdfdppkoaaGreatDoorNAs
import Derived.Test.YthjljhdfdppkoaaGreatDoorNAp
import Derived.Test.YthjljhdfdppkoaaGreatDoorNAl
import Derived.Test.YthjljhdfdppkoaaGreatDoorNAo
import Derived.Test.YthjljhdfdppkoaaGreatDoorNAk
import Derived.Test.YthjljhdfdppkoaaGreatDoorNAx
import Derived.Test.YthjljhdfdppkoaaGreatDoorNAu
import Derived.Test.YthjljhdfdppkoaaGreatDoorNAn
import Derived.Test.YthjljhdfdppkoaaGreatDoorNAt
set_option linter.unusedSectionVars false
set_option linter.unusedVariables false
set_option linter.unusedSimpArgs false
set_option maxHeartbeats 1000000
namespace Go.Ab
open Go Go.Proofs
theorem ymu (a b:List UInt8):zf a b=(Lib.trimSuffix a b,Lib.hasSuffix a b):=rfl
theorem y7t (a b:List UInt8):zb a b=Lib.cut a b:=rfl
theorem yup (k : Int) (hk : 1 <= k /\ k <= 8) (b : Int × Int -> Except (Sum (Character × Bool) (Int × Int)) (Int × Int))
  (hb:∀ s,b s=(bif decide (s.1<=8)then(bif ((zuc s.1) == kt k)then .ok (IntKind.wrap .i64 (s.1+1),s.1)else .ok (IntKind.wrap .i64 (s.1+1),s.2))else .error (.inr (s.1,s.2)))) :
  yeb b (((9-(1:Int)).toNat)+1) (1,0)=.error (.inr (9,k)):=by
 have e:b=fun s=>(bif decide (s.1<=8)then(bif ((zuc s.1) == kt k)then .ok (IntKind.wrap .i64 (s.1+1),s.1)else .ok (IntKind.wrap .i64 (s.1+1),s.2))else .error (.inr (s.1,s.2))):=funext hb
 rw[e];rcases(show k=1\/k=2\/k=3\/k=4\/k=5\/k=6\/k=7\/k=8 by omega)with h|h|h|h|h|h|h|h<;>subst h<;>rfl
theorem yubb {ρ : Type} (g : List Int) (h2 : ∀ v ∈ g, 1 <= v /\ v <= 9) (r : Nat -> List Int -> ρ) (b : Nat -> List Int -> Except ρ (List Int))
  (hb:∀ i s,b i s=(bif (!(zj ((g.map Lib.itoa).getD i default)).2)then .error (r i s)else .ok (s++([(zj ((g.map Lib.itoa).getD i default)).1]:List Int)))) :
  yh b ((g.map Lib.itoa).length-0) 0 []=.ok g:=by
 rw[List.length_map,Nat.sub_zero]
 rw[ylf b (fun j=>[id (g.getD j default)]) g.length 0 [] (fun j s _ hj=>by
  have hj2:j<g.length:=by omega
  have e:(g.map Lib.itoa).getD j default=Lib.itoa (g.getD j default):=by
   rw[List.getD_eq_getElem?_getD,List.getD_eq_getElem?_getD,List.getElem?_map,List.getElem?_eq_getElem hj2];rfl
  have hr:=ywk h2 j;have e2:zj (Lib.itoa (g.getD j default))=(g.getD j default,true):=yge (by omega) (by omega)
  rw[hb,e,e2];rfl),y0h g default id]
 simp
theorem y97 (c:Character) (h:zmb c=true) (h8:c.Kind≠8) (hL:c.Letter≠[]):c.Letter=[76]/\c.Group=[6]:=by
 unfold zmb at h;simp only[Bool.cond_eq_ite]at h;repeat' split at h
 all_goals (try simp only[Bool.and_eq_true,Bool.or_eq_true,beq_iff_eq,y1f,decide_eq_true_eq]at *)
 all_goals first
  | (exact absurd h.2 hL;done)
  | (exact absurd h.1 hL;done)
  | (exact h)
  | (rename_i q;exact absurd q hL)
  | (rename_i q;exact absurd q h8)
  | (cases h;done)
theorem ydr (c:Character) (h:zmb c=true) (h8:c.Kind=8):c.Group=[]/\c.Letter.length=1/\65<=(c.Letter.getD 0 0).toNat/\(c.Letter.getD 0 0).toNat<=90:=by
 unfold zmb at h;rw[h8]at h;have h:(((zic c.Letter) != []) && ((c.Group.length:Int) == 0))=true:=h;rw[Bool.and_eq_true,beq_iff_eq,y9n,decide_eq_true_eq]at h;exact⟨List.length_eq_zero_iff.1 (by omega),h.1⟩
theorem y0r (k:Int) (h:1<=k/\k<=8):Lib.hasSuffix (kt k) [43,76,70,108]=false:=by
 rcases(show k=1\/k=2\/k=3\/k=4\/k=5\/k=6\/k=7\/k=8 by omega)with h|h|h|h|h|h|h|h<;>subst h<;>decide
theorem ylk (x:List UInt8):Lib.hasSuffix (x++[41]) [43,76,70,108]=false:=ywm x [43,76,70] 41 108 (by decide)
theorem yh0 (c:Character) (h:zmb c=true):zl (ybk c)=({ Kind:=c.Kind,Group:=c.Group,Letter:=c.Letter,Colors:=[],Period:=0:Character },true):=by
 have hk:=ypg c h;obtain⟨g1,g2⟩:=y6e c h;have h40:=(ykbb c.Kind hk).1;unfold ybk;by_cases h8:c.Kind=8
 ·obtain⟨f1,f2⟩:=ydr c h h8
  rw[if_pos h8,f1,h8];have eH:kt 8++40::(c.Letter++[41])=(kt 8++40::c.Letter)++[41]:=by simp
  have c1:zf (kt 8++40::(c.Letter++[41])) [43,76,70,108]=(kt 8++40::(c.Letter++[41]),false):=by
   rw[ymu,eH,ylk,y4e _ _ (ylk _)]
  have c2:zb (kt 8++40::(c.Letter++[41])) [40]=(kt 8,c.Letter++[41],true):=by rw[y7t,y4f _ _ 40 (by decide)]
  have c3:zf (c.Letter++[41]) [41]=(c.Letter,true):=by rw[ymu,ytc,y2c]
  have hw:=yup 8 (by omega) (yrl (kt 8++40::(c.Letter++[41]))) (fun s=>by unfold yrl;rw[c1];simp only;rw[c2]);unfold zl;rw[c1];simp only;rw[c2];simp only;rw[c3,hw];rfl
 ·rw[if_neg h8]
  have e8:(c.Kind == 8)=false:=by rw[beq_eq_false_iff_ne];exact h8
  by_cases hL:c.Letter=[]
  ·rw[if_pos hL,List.append_nil,hL]
   by_cases hg:c.Group=[]
   ·have eg:grpT c.Group=[]:=by rw[hg];rfl
    rw[eg,List.append_nil,hg]
    have c1:zf (kt c.Kind) [43,76,70,108]=(kt c.Kind,false):=by
     rw[ymu,y0r _ hk,y4e _ _ (y0r _ hk)]
    have c2:zb (kt c.Kind) [40]=(kt c.Kind,[],false):=by rw[y7t,ysp _ 40 h40]
    have hw:=yup c.Kind hk (yrl (kt c.Kind)) (fun s=>by unfold yrl;rw[c1];simp only;rw[c2]);unfold zl;rw[c1];simp only;rw[c2,hw];rfl
   ·have eg:grpT c.Group=40::(Lib.join (c.Group.map Lib.itoa) [43]++[41]):=by unfold grpT;rw[if_neg hg]
    rw[eg];generalize hJ:Lib.join (c.Group.map Lib.itoa) [43]=J;have eH:kt c.Kind++40::(J++[41])=(kt c.Kind++40::J)++[41]:=by simp
    have c1:zf (kt c.Kind++40::(J++[41])) [43,76,70,108]=(kt c.Kind++40::(J++[41]),false):=by
     rw[ymu,eH,ylk,y4e _ _ (ylk _)]
    have c2:zb (kt c.Kind++40::(J++[41])) [40]=(kt c.Kind,J++[41],true):=by rw[y7t,y4f _ _ 40 h40]
    have c3:zf (J++[41]) [41]=(J,true):=by rw[ymu,ytc,y2c]
    have c4:zd J [43]=c.Group.map Lib.itoa:=by
     show ybb 43 J=_;rw[<- hJ];exact ykt _ hg g2
    have hw:=yup c.Kind hk (yrl (kt c.Kind++40::(J++[41]))) (fun s=>by unfold yrl;rw[c1];simp only;rw[c2]);have hg4:∀ s,yh (yhu (kt c.Kind++40::(J++[41])) s) ((c.Group.map Lib.itoa).length-0) 0 []=.ok c.Group:=fun s=>yubb c.Group g2 (fun _ _=>({ Kind:=0,Group:=[],Letter:=[],Colors:=[],Period:=0:Character },false)) _ (fun i t=>by unfold yhu;rw[c1];simp only;rw[c2];simp only;rw[c3];simp only;rw[c4])
    unfold zl;rw[c1];simp only;rw[c2];simp only;rw[c3];simp only;rw[c4,hw];simp only[hg4,e8,cond_false,Bool.not_true]
  ·obtain⟨l1,l2⟩:=y97 c h h8 hL
   rw[if_neg hL];have hg:c.Group≠[]:=by rw[l2];simp
   have eg:grpT c.Group=40::(Lib.join (c.Group.map Lib.itoa) [43]++[41]):=by unfold grpT;rw[if_neg hg]
   rw[eg];generalize hJ:Lib.join (c.Group.map Lib.itoa) [43]=J;have eH:kt c.Kind++(40::(J++[41])++[43,76,70,108])=(kt c.Kind++40::(J++[41]))++[43,76,70,108]:=by simp
   rw[eH,l1]
   have c1:zf ((kt c.Kind++40::(J++[41]))++[43,76,70,108]) [43,76,70,108]=(kt c.Kind++40::(J++[41]),true):=by
    rw[ymu,ytc,y2c]
   have c2:zb (kt c.Kind++40::(J++[41])) [40]=(kt c.Kind,J++[41],true):=by rw[y7t,y4f _ _ 40 h40]
   have c3:zf (J++[41]) [41]=(J,true):=by rw[ymu,ytc,y2c]
   have c4:zd J [43]=c.Group.map Lib.itoa:=by
    show ybb 43 J=_;rw[<- hJ];exact ykt _ hg g2
   have hw:=yup c.Kind hk (yfu ((kt c.Kind++40::(J++[41]))++[43,76,70,108])) (fun s=>by unfold yfu;rw[c1];simp only;rw[c2]);have hg4:∀ s,yh (yuu ((kt c.Kind++40::(J++[41]))++[43,76,70,108]) s) ((c.Group.map Lib.itoa).length-0) 0 []=.ok c.Group:=fun s=>yubb c.Group g2 (fun _ _=>({ Kind:=0,Group:=[],Letter:=[],Colors:=[],Period:=0:Character },false)) _ (fun i t=>by unfold yuu;rw[c1];simp only;rw[c2];simp only;rw[c3];simp only;rw[c4])
   unfold zl;rw[c1];simp only;rw[c2];simp only;rw[c3];simp only;rw[c4,hw];simp only[hg4,e8,cond_false,cond_true,Bool.not_true]
def zqg (a0:Point):(List UInt8):=
 (bif (!(zyd a0))then[]else((zh a0.X)++[44])++(zh a0.Y))
namespace N69
theorem DD:DOk Tryz.prog (Go.Ab.DD [(123,dP D_zyd),(30,dP D_zh)]):=ya yep.e <| ya yvf.e <| yf _
abbrev dn:=cj @D_zyd.eq_1 <| @D_zh.eq_1
theorem gr {p:Prop} (h:p:=by(grind [yrc]);first|done|fail):p:=h
theorem o0 {p:Prop} (h:p:=by(first|(have h9:=y09 (p:=a0) (by assumption);have l1:=yrc a0.X;have l2:=yrc a0.Y;(repeat' with_reducible apply And.intro)<;>(first|omega|assumption|(simp only[List.length_append,List.length_cons,List.length_nil,List.length_singleton];omega)|(refine Nat.le_trans (y3i _ _) ?_;simp only[jl,List.length_cons,List.length_nil];omega))));first|done|fail):p:=h
set_option maxHeartbeats 1000000 in
set_option maxRecDepth 20000 in
theorem den (a0:Point)  : Den Tryz.prog 69 [.agg (ypf a0)] (.str (zqg a0)):=by
 generalize hR:zqg a0=r;unfold zqg at hR;refine di Tryz.func69 Tryz.ntmps69 Tryz.results69 ?_;intro c hL hc hk;clear hL;simp only[pars,Nat.zero_add];iterate 2 refine rS ?_
 refine AWP.cond rfl (fun hb => ?_) (fun hb => ?_)
 ·replace hR:=ct hR
  refine rS ?_;refine AWP.ret ?_;subst hR;exact es
 ·replace hR:=cf hR
  refine rD 7 ?_;refine AWP.ret ?_;subst hR;exact es
end N69
def D_zqg : DF
 | [x0]=>some (.str (zqg (rdG y1k x0)),false,[wG ypf y1k x0])
 | _=>none
theorem yc7:OkD Tryz.prog 69 D_zqg:=by unfold D_zqg;exact dk N69.den
def zrc (a0:Mark):(List UInt8):=
 (bif (!(zed a0))then[]else(bif (a0.Kind == 0)then(zae 0)else(bif (a0.Topmark == [])then(zub [(zae a0.Kind),a0.Colors,a0.Shape,[45]] [32])else(zub [(zae a0.Kind),a0.Colors,a0.Shape,a0.Topmark] [32]))))
namespace N70
theorem DD:DOk Tryz.prog (Go.Ab.DD [(124,dP D_zae),(127,dP D_zed),(32,dP D_zub)]):=ya ydo.e <| ya yzp.e <| ya yai.e <| yf _
abbrev dn:=cj @D_zae.eq_1 <| cj @D_zed.eq_1 <| @D_zub.eq_1
theorem o0 {p:Prop} (h:p:=by(first|(have h9:=yh1 (m:=a0) (by assumption);have l1:=yf1 a0.Kind;(repeat' with_reducible apply And.intro)<;>(first|omega|assumption|(simp only[List.length_append,List.length_cons,List.length_nil,List.length_singleton];omega)|(refine Nat.le_trans (y3i _ _) ?_;simp only[jl,List.length_cons,List.length_nil];omega))));first|done|fail):p:=h
theorem lx {p:Prop} (h:p:=by(exact lxx);first|done|fail):p:=h
set_option maxHeartbeats 1000000 in
set_option maxRecDepth 20000 in
theorem den (a0:Mark) (hb0:bdMark a0):Den Tryz.prog 70 [.agg (ygh a0)] (.str (zrc a0)):=by
 generalize hR:zrc a0=r;unfold zrc at hR;refine di Tryz.func70 Tryz.ntmps70 Tryz.results70 ?_;intro c hL hc hk;obtain⟨hL0,_⟩:=hL;have hw0:bwMark a0:=yti a0 hL0;clear hL0;simp only[pars,Nat.zero_add];iterate 2 refine rS ?_
 refine AWP.cond rfl (fun hb => ?_) (fun hb => ?_)
 ·replace hR:=ct hR
  refine rS ?_;refine AWP.ret ?_;subst hR;exact es
 ·replace hR:=cf hR
  refine rS ?_;refine AWP.cond rfl (fun hb => ?_) (fun hb => ?_)
  ·replace hR:=ct hR
   refine rS ?_;refine AWP.ret ?_;subst hR;exact es
  ·replace hR:=cf hR
   iterate 2 refine rS ?_
   refine AWP.cond rfl (fun hb => ?_) (fun hb => ?_)
   ·replace hR:=ct hR
    refine rS ?_;refine rD 8 ?_;refine AWP.ret ?_;subst hR;exact es
   ·replace hR:=cf hR
    refine rD 8 ?_;refine AWP.ret ?_;subst hR;exact es
end N70
def D_zrc : DF
 | [x0]=>some (.str (zrc (rdG yhm x0)),false,[wG ygh yhm x0,bdMark (rdG yhm x0)])
 | _=>none
theorem yvw:OkD Tryz.prog 70 D_zrc:=by unfold D_zrc;exact dk N70.den
def yan (a0:(List Sector)) (i1:Nat) (s1:List (List UInt8)):Except ((List UInt8)) (List (List UInt8)):=
 .ok (s1++[(((zh ((a0.getD i1 default).From))++[45])++(zh ((a0.getD i1 default).To)))++((a0.getD i1 default).Color)])
def zad (a0:(List Sector)):(List UInt8):=
 (bif (!(zgb a0))then[]else(bif ((a0.length:Int) == 0)then[45]else(match yh (yan a0) (a0.length-0) 0 ([]:List (List UInt8))with|.error e=>e|.ok s1=>(zub s1 [44]))))
namespace N71
theorem DD:DOk Tryz.prog (Go.Ab.DD [(132,dP D_zgb),(30,dP D_zh),(32,dP D_zub)]):=ya yaq.e <| ya yvf.e <| ya yai.e <| yf _
abbrev dn:=cj @D_zgb.eq_1 <| cj @D_zh.eq_1 <| @D_zub.eq_1
theorem gr {p:Prop} (h:p:=by(grind [yrc]);first|done|fail):p:=h
theorem o0 {p:Prop} (h:p:=by(first|((have h8:=hsr (by assumption);have h9:=h8.2 i1;have l1:=yrc (a0.getD i1 default).From;have l2:=yrc (a0.getD i1 default).To;(repeat' with_reducible apply And.intro)<;>(first|omega|assumption|(simp only[List.length_append,List.length_cons,List.length_nil,List.length_singleton];omega)|(refine Nat.le_trans (y3i _ _) ?_;simp only[jl,List.length_cons,List.length_nil];omega))))|(have h8:=hsr (by assumption);obtain⟨w1,w2⟩:=hW1;have h9:=yuk [44] s1 1000 w2;simp only[List.length_singleton]at h9;(repeat' with_reducible apply And.intro)<;>omega));first|done|fail):p:=h
set_option maxHeartbeats 1000000 in
set_option maxRecDepth 20000 in
theorem den (a0:(List Sector)) (hb0:a0.length<1099511627776) (hb1:∀ v∈a0,bdSector v):Den Tryz.prog 71 [encL 3 yr a0] (.str (zad a0)):=by
 generalize hR:zad a0=r;unfold zad at hR;refine di Tryz.func71 Tryz.ntmps71 Tryz.results71 ?_;intro c hL hc hk;obtain⟨hL0,_⟩:=hL;have hw0:a0.length<9223372036854775808:=Nat.lt_succ_of_le (yb hL0).1;have hw1:∀ v∈a0,bwSector v:=fun v hv=>y8 v ((yb hL0).2 v hv)
 clear hL0;simp only[pars,Nat.zero_add];have hsr:=fun h=>yg4 (a:=a0) hb0 h
 iterate 2 refine rS ?_
 refine AWP.cond rfl (fun hb => ?_) (fun hb => ?_)
 ·replace hR:=ct hR
  refine rS ?_;refine AWP.ret ?_;subst hR;exact es
 ·replace hR:=cf hR
  refine rS ?_;refine AWP.cond rfl (fun hb => ?_) (fun hb => ?_)
  ·replace hR:=ct hR
   refine rS ?_;refine AWP.ret ?_;subst hR;exact es
  ·replace hR:=cf hR
   iterate 2 refine rS ?_
   refine AWP.block ?_;generalize hz1:yh (yan a0) (a0.length-0) 0 ([]:List (List UInt8))=z1 at hR;refine AWP.range (yan a0) (fun i1 s1=>⟨[(3,.ref 0 1 0 s1.length),(13,encL 3 yr a0),(14,.int .i64 (a0.length:Int)),(15,.int .i64 (i1:Int))],[.arr 9 1 s1.length (fun j=>eS (s1.getD j default))]⟩) (fun i1 s1=>s1.length<=i1/\∀ v∈s1,v.length<=1000) (a0.length) 0 ([]:List (List UInt8)) [0] hz1 ot wt sm ?_;clear hz1;intro i1 s1 hi1 hW1 hz1;refine rS ?_;refine AWP.seq ?_;refine AWP.cond rfl (fun hb => ?_) (fun hb => ?_)
   ·have hlt1:i1<a0.length:=ot
    rw[yl hlt1]at hz1;simp only[yan]at hz1;refine rS ?_;refine AWP.regP mixed G_ok DD hc 13 [0,1,2,3,4,5,6,7,8,9,10,11] (.alt 12 [] [0,1,2,5] .leaf .stop) (by kernel_rfl) (by kernel_rfl) (by kernel_rfl) (fun K hK => ?_);simp only[ypi,runN,runP,yjc,nthO,ea,absV,ybc,cput,gv,sv,dn,reduceCtorEq,reduceIte,Nat.reduceBEq,Nat.reduceAdd,Nat.reduceEqDiff,Nat.reduceLT,Nat.reduceLeDiff,Nat.reduceMul,Nat.reduceSub,BEq.rfl,beq_self_eq_true,Int.reduceToNat];repeat' apply And.intro
    all_goals first|refine hK _ ?_|exact ot
    all_goals clear hK K
    refine rS ?_;exact⟨_,[3],hlt1,by(have h8:=hsr (by assumption);have h9:=h8.2 i1;have l1:=yrc (a0.getD i1 default).From;have l2:=yrc (a0.getD i1 default).To;obtain⟨w1,w2⟩:=hW1;(repeat' with_reducible apply And.intro)<;>first|(simp only[List.length_append,List.length_cons,List.length_nil,List.length_singleton];omega)|(intro v hv;exact(List.mem_append.1 hv).elim (fun h=>w2 v h) (fun h=>by rw[List.mem_singleton]at h;subst h;simp only[List.length_append,List.length_cons,List.length_nil,List.length_singleton];omega))),hz1,sm⟩
   ·obtain rfl:i1=a0.length:=ot
    rw[yk (Nat.le_refl _)]at hz1;subst hz1;dsimp only at hR;refine AWP.exit ?_;refine yd ?_;refine rS ?_;refine AWP.ret ?_;subst hR;exact es
end N71
def D_zad : DF
 | [x0]=>some (.str (zad (rdL yz x0)),false,[wL 3 yr yz x0,(rdL yz x0).length<1099511627776,∀ v∈(rdL yz x0),bdSector v])
 | _=>none
theorem ytv:OkD Tryz.prog 71 D_zad:=by unfold D_zad;exact dk N71.den
theorem yvbb (a b c d:List UInt8) (s:List UInt8):Lib.join [a,b,c,d] s=a++(s++(b++(s++(c++(s++d))))):=by
 simp[Lib.join_cons,Lib.joinTail]
def scT (s:Sector):List UInt8:=Lib.itoa s.From++(45::(Lib.itoa s.To++s.Color))
def scsT (a:List Sector):List UInt8:=if a=[]then[45]else Lib.join (a.map scT) [44]
theorem ycu {a:List Sector} (h:zv a=true):zad a=scsT a:=by
 have hr:=ycg h;unfold zad scsT;rw[yzb a (by omega),h];simp only[Bool.not_true,cond_false];by_cases ha:a=[]
 ·rw[ha];rfl
 ·have hp:0<a.length:=List.length_pos_iff.2 ha
  rw[if_neg ha,show((a.length:Int) == 0)=false by rw[beq_eq_false_iff_ne];omega,cond_false]
  have hl:=ylf (yan a) (fun j=>[scT (a.getD j default)]) a.length 0 [] (fun j s _ _=>by
   unfold yan scT
   simp[yw6])
  rw[y0h a default scT,List.nil_append]at hl;rw[Nat.sub_zero,hl];rfl
theorem yf8 {a:List Sector} (h:zv a=true):(scsT a).length<=120:=by
 have hr:=ycg h;unfold scsT;split
 ·simp
 ·have h1:=yuk [44] (a.map scT) 8 (fun x hx=>by
   obtain⟨s,hs,rfl⟩:=List.mem_map.1 hx;obtain⟨i,hi,e⟩:=List.getElem_of_mem hs;have h9:=hr.2 i;have hg:a.getD i default=s:=by rw[List.getD_eq_getElem?_getD,List.getElem?_eq_getElem hi,e];rfl
   rw[hg]at h9;have h1:=yae s.From 2 (by omega) (by show s.From<(1000:Int);omega);have h2:=yae s.To 2 (by omega) (by show s.To<(1000:Int);omega);unfold scT;simp only[List.length_append,List.length_cons]
   omega)
  rw[List.length_map]at h1;simp only[List.length_singleton]at h1;have:a.length * (8+1)<=12 * 9:=Nat.mul_le_mul hr.1 (by omega);omega
theorem y8f {ρ σ : Type} {b : Nat -> σ -> Except ρ σ} {e0 : ρ} (h : ∀ j s e, b j s = .error e -> e = e0) : ∀ (n i : Nat) (s : σ) (e : ρ), yh b n i s = .error e -> e = e0
 | 0,i,s,e,he=>by simp[yh]at he
 | n+1,i,s,e,he=>by
  simp only[yh]at he
  cases hb:b i s with
  | error e'=>
   rw[hb]at he;have he:e'=e:=by simpa using he
   rw[<- he];exact h _ _ _ hb
  | ok s'=>rw[hb]at he;exact y8f h n (i+1) s' e he
theorem y4n {c:Character} (h:zfb c=true):c.Colors.length<=3:=by
 unfold zfb at h
 cases h1:((!(zhc c.Colors)) || (!(zmb c)))with
 | true=>rw[h1]at h;cases h
 | false=>
  rw[Bool.or_eq_false_iff]at h1;have h2:zhc c.Colors=true:=by simpa using h1.1
  unfold zhc at h2
  have he:=y8f (b:=yfi c.Colors) (e0:=false) (fun j s e h=>by
   unfold yfi at h;rw[Bool.cond_eq_ite]at h;split at h
   ·simpa using h.symm
   ·cases h) (c.Colors.length-0) 0 (-1)
  generalize yh (yfi c.Colors) (c.Colors.length-0) 0 (-1)=z at h2 he
  cases z with
  | error e=>have:=he e rfl;subst this;cases h2
  | ok s=>simp[ze]at h2;omega
theorem yi8 {c:Character} (h:zfb c=true):(chrT c).length<=40:=by
 have hf:=yzc c h;have hv:=yzd c h;have hk:=ypg c hf;have hp:=y0e c h;have hc:=y4n h
 have hK:(kt c.Kind).length<=3:=by
  rcases(show c.Kind=1\/c.Kind=2\/c.Kind=3\/c.Kind=4\/c.Kind=5\/c.Kind=6\/c.Kind=7\/c.Kind=8 by omega)with e|e|e|e|e|e|e|e<;>rw[e]<;>decide
 have hg:(grpT c.Group).length<=10:=by
  unfold grpT;split
  ·simp
  ·have h1:=yuk [43] (c.Group.map Lib.itoa) 1 (fun x hx=>by
    obtain⟨s,hs,rfl⟩:=List.mem_map.1 hx;have:=hv.2.1 s hs
    exact yae s 0 (by omega) (by show s<(10:Int);omega))
   rw[List.length_map,List.length_singleton]at h1;simp only[List.length_append,List.length_cons,List.length_nil];omega
 have hs:(perT c.Period).length<=8:=by
  unfold perT secT;split
  ·simp
  ·have h1:=yae (c.Period / 10) 1 (by omega) (by show c.Period / 10<(100:Int);omega)
   have h2:=yae (c.Period % 10) 0 (by omega) (by show c.Period % 10<(10:Int);omega);split<;>simp only[List.length_append,List.length_cons,List.length_nil]<;>omega
 have hh:(ybk c).length<=17:=by
  unfold ybk;split
  ·rename_i h8
   have h9:=ydr c hf h8;have:(kt 8).length=2:=rfl;simp only[List.length_append,List.length_cons,List.length_nil];omega
  ·split<;>simp only[List.length_append,List.length_cons,List.length_nil]<;>omega
 unfold chrT;simp only[List.length_append,List.length_cons];omega
def zfe (a0:(List UInt8)):(Mark×Bool):=
 (bif (a0 == (zae 0))then({ Kind:=0,Colors:=[],Shape:=[],Topmark:=[]:Mark },true)else(bif (((zz a0).length:Int) != 4)then({ Kind:=0,Colors:=[],Shape:=[],Topmark:=[]:Mark },false)else(bif (((zz a0).getD 3 default) == [45])then(bif (((!((znd ((zz a0).getD 0 default)).2)) || (!(zed ({ Kind:=(znd ((zz a0).getD 0 default)).1,Colors:=((zz a0).getD 1 default),Shape:=((zz a0).getD 2 default),Topmark:=[]:Mark })))) || ((zrc ({ Kind:=(znd ((zz a0).getD 0 default)).1,Colors:=((zz a0).getD 1 default),Shape:=((zz a0).getD 2 default),Topmark:=[]:Mark })) != a0))then({ Kind:=0,Colors:=[],Shape:=[],Topmark:=[]:Mark },false)else({ Kind:=(znd ((zz a0).getD 0 default)).1,Colors:=((zz a0).getD 1 default),Shape:=((zz a0).getD 2 default),Topmark:=[]:Mark },true))else(bif (((!((znd ((zz a0).getD 0 default)).2)) || (!(zed ({ Kind:=(znd ((zz a0).getD 0 default)).1,Colors:=((zz a0).getD 1 default),Shape:=((zz a0).getD 2 default),Topmark:=((zz a0).getD 3 default):Mark })))) || ((zrc ({ Kind:=(znd ((zz a0).getD 0 default)).1,Colors:=((zz a0).getD 1 default),Shape:=((zz a0).getD 2 default),Topmark:=((zz a0).getD 3 default):Mark })) != a0))then({ Kind:=0,Colors:=[],Shape:=[],Topmark:=[]:Mark },false)else({ Kind:=(znd ((zz a0).getD 0 default)).1,Colors:=((zz a0).getD 1 default),Shape:=((zz a0).getD 2 default),Topmark:=((zz a0).getD 3 default):Mark },true)))))
namespace N60
theorem DD:DOk Tryz.prog (Go.Ab.DD [(124,dP D_zae),(125,dP D_zz),(126,dP D_znd),(127,dP D_zed),(70,dP D_zrc)]):=ya ydo.e <| ya ylab.e <| ya yb7.e <| ya yzp.e <| ya yvw.e <| yf _
abbrev dn:=cj @D_zae.eq_1 <| cj @D_zz.eq_1 <| cj @D_znd.eq_1 <| cj @D_zed.eq_1 <| @D_zrc.eq_1
set_option maxHeartbeats 1000000 in
set_option maxRecDepth 20000 in
theorem den (a0:(List UInt8)) (hb0:a0.length<1099511627776) (hp0:a0.length<=1048576):Den Tryz.prog 60 [.str a0] (.tup [.agg (ygh ((zfe a0).1)),.bool ((zfe a0).2)]):=by
 generalize hR:zfe a0=r;unfold zfe at hR;refine di Tryz.func60 Tryz.ntmps60 Tryz.results60 ?_;intro c hL hc hk;obtain⟨hL0,_⟩:=hL;have hw0:a0.length<9223372036854775808:=Nat.lt_succ_of_le hL0;clear hL0;simp only[pars,Nat.zero_add];have hs9:=yfcb a0 (by omega);have hs0:=yii hs9 0;have hs1:=yii hs9 1;have hs2:=yii hs9 2;have hs3:=yii hs9 3;iterate 2 refine rS ?_
 refine AWP.cond rfl (fun hb => ?_) (fun hb => ?_)
 ·replace hR:=ct hR
  refine rS ?_;refine AWP.ret ?_;subst hR;exact es
 ·replace hR:=cf hR
  iterate 2 refine rS ?_
  refine AWP.cond rfl (fun hb => ?_) (fun hb => ?_)
  ·replace hR:=ct hR
   refine rS ?_;refine AWP.ret ?_;subst hR;exact es
  ·replace hR:=cf hR
   iterate 3 refine rS ?_
   refine AWP.cond rfl (fun hb => ?_) (fun hb => ?_)
   ·replace hR:=ct hR
    refine rS ?_;refine AWP.seq ?_;refine AWP.regP mixed G_ok DD hc 10 [0,1,2,3,4,5,6,7,8] (.alt 9 [] [0,1,2,3,4,5,6,7,8] .leaf .stop) (by kernel_rfl) (by kernel_rfl) (by kernel_rfl) (fun K hK => ?_);simp only[ypi,runN,runP,yjc,nthO,ea,absV,ybc,cput,gv,sv,dn,reduceCtorEq,reduceIte,Nat.reduceBEq,Nat.reduceAdd,Nat.reduceEqDiff,Nat.reduceLT,Nat.reduceLeDiff,Nat.reduceMul,Nat.reduceSub,BEq.rfl,beq_self_eq_true,Int.reduceToNat];repeat' apply And.intro
    all_goals first|refine hK _ ?_|exact ot
    all_goals clear hK K
    refine rS ?_;refine AWP.cond rfl (fun hb => ?_) (fun hb => ?_)
    ·replace hR:=ct hR
     refine rS ?_;refine AWP.ret ?_;subst hR;exact es
    ·replace hR:=cf hR
     refine rS ?_;refine AWP.ret ?_;subst hR;exact es
   ·replace hR:=cf hR
    refine AWP.skip ?_;refine AWP.seq ?_;refine AWP.regP mixed G_ok DD hc 10 [0,1,2,3,4,5,6,7,8] (.alt 9 [] [0,1,2,3,4,5,6,7,8] .leaf .stop) (by kernel_rfl) (by kernel_rfl) (by kernel_rfl) (fun K hK => ?_);simp only[ypi,runN,runP,yjc,nthO,ea,absV,ybc,cput,gv,sv,dn,reduceCtorEq,reduceIte,Nat.reduceBEq,Nat.reduceAdd,Nat.reduceEqDiff,Nat.reduceLT,Nat.reduceLeDiff,Nat.reduceMul,Nat.reduceSub,BEq.rfl,beq_self_eq_true,Int.reduceToNat];repeat' apply And.intro
    all_goals first|refine hK _ ?_|exact ot
    all_goals clear hK K
    refine rS ?_;refine AWP.cond rfl (fun hb => ?_) (fun hb => ?_)
    ·replace hR:=ct hR
     refine rS ?_;refine AWP.ret ?_;subst hR;exact es
    ·replace hR:=cf hR
     refine rS ?_;refine AWP.ret ?_;subst hR;exact es
end N60
def D_zfe : DF
 | [x0]=>some (.tup [.agg (ygh ((zfe (rdS x0)).1)),.bool ((zfe (rdS x0)).2)],false,[wS x0,(rdS x0).length<1099511627776,(rdS x0).length<=1048576])
 | _=>none
theorem y53:OkD Tryz.prog 60 D_zfe:=by unfold D_zfe;exact dk N60.den
abbrev zMark:Mark:={ Kind:=0,Colors:=[],Shape:=[],Topmark:=[]}
def allMarks:List Mark:=zMark::([1,2,3,4,5,6,7,8,9]:List Int).flatMap fun k=>(zcb k).flatMap fun s=>[{ Kind:=k,Colors:=zvd k,Shape:=s,Topmark:=[]},{ Kind:=k,Colors:=zvd k,Shape:=s,Topmark:=zde k }]
theorem y15 {m:Mark} (h:zid m=true):m∈allMarks:=by
 unfold allMarks;rcases yym (m:=m) h with⟨h1,h2,h3,h4⟩|⟨h1,h2,h3,h4⟩
 ·cases m
  simp only at h1 h2 h3 h4;subst h1 h2 h3 h4;exact List.mem_cons_self
 ·refine List.mem_cons_of_mem _ (List.mem_flatMap.2 ⟨m.Kind,?_,List.mem_flatMap.2 ⟨m.Shape,h4,?_⟩⟩)
  ·rcases ydh h1 with e|e|e|e|e|e|e|e|e<;>rw[e]<;>decide
  ·cases m
   simp only at h2 h3 ⊢;subst h2;rcases h3 with e|e
   ·rw[e];exact List.mem_cons_self
   ·rw[e];exact List.mem_cons_of_mem _ List.mem_cons_self
theorem yly (n:Int):∀ b∈Lib.itoa n,b=45\/(48<=b.toNat/\b.toNat<=57):=by
 intro b hb;by_cases h:n<0
 ·rw[y3c h]at hb
  rcases List.mem_cons.1 hb with hb|hb
  ·exact .inl hb
  ·exact .inr ((yub n.natAbs).1 b hb)
 ·rw[yqf h]at hb
  exact .inr ((yub n.natAbs).1 b hb)
theorem y4v (n:Int) (c:UInt8) (h1:c≠45) (h2:c.toNat<48\/57<c.toNat):c∉Lib.itoa n:=fun h=>by
 rcases yly n c h with h|h
 ·exact h1 h
 ·omega
theorem yb0 (n:Int):Lib.itoa n≠[]:=(y21 n).2
theorem ydw (a:List UInt8) (c:UInt8):zd a [c]=ybb c a:=rfl
theorem cutI (a:List UInt8) (c:UInt8):zb a [c]=Lib.cut a [c]:=rfl
def yji (a0:(List UInt8)) (i1:Nat) (s1:List Sector):Except (((List Sector)×Bool)) (List Sector):=
 (bif ((((zb ((zd a0 [44]).getD i1 default) [45]).2.1) == []) || (!(zlb (s1.length:Int) 12)))then .error ([],false)else(bif ((!((zj ((zb ((zd a0 [44]).getD i1 default) [45]).1)).2)) || (!((zj (((zb ((zd a0 [44]).getD i1 default) [45]).2.1).take ((IntKind.wrap .i64 ((((zb ((zd a0 [44]).getD i1 default) [45]).2.1).length:Int)-1)).toNat))).2)))then .error ([],false)else .ok (s1++[{ From:=(zj ((zb ((zd a0 [44]).getD i1 default) [45]).1)).1,To:=(zj (((zb ((zd a0 [44]).getD i1 default) [45]).2.1).take ((IntKind.wrap .i64 ((((zb ((zd a0 [44]).getD i1 default) [45]).2.1).length:Int)-1)).toNat))).1,Color:=(((zb ((zd a0 [44]).getD i1 default) [45]).2.1).take (((zb ((zd a0 [44]).getD i1 default) [45]).2.1).length)).drop ((IntKind.wrap .i64 ((((zb ((zd a0 [44]).getD i1 default) [45]).2.1).length:Int)-1)).toNat):Sector }])))
def zzb (a0:(List UInt8)):((List Sector)×Bool):=
 (bif (a0 == [45])then([],true)else(match yh (yji a0) (((zd a0 [44]).length)-0) 0 ([]:List Sector)with|.error e=>e|.ok s1=>(bif ((!(zgb s1)) || ((zad s1) != a0))then([],false)else(s1,true))))
namespace N62
theorem DD:DOk Tryz.prog (Go.Ab.DD [(122,dP D_zb),(132,dP D_zgb),(24,dP D_zj),(55,dP D_zd),(71,dP D_zad),(78,dP D_zlb)]):=ya yql.e <| ya yaq.e <| ya yhj.e <| ya ysl.e <| ya ytv.e <| ya ymg.e <| yf _
abbrev dn:=cj @D_zb.eq_1 <| cj @D_zgb.eq_1 <| cj @D_zj.eq_1 <| cj @D_zd.eq_1 <| cj @D_zad.eq_1 <| @D_zlb.eq_1
theorem gr {p:Prop} (h:p:=by(grind [y3f]);first|done|fail):p:=h
theorem o0 {p:Prop} (h:p:=by(first|(obtain⟨q1,q2,q3⟩:=hlo i1 _ (by assumption);have h1:=e1 i1;have h2:=hct i1;(repeat' with_reducible apply And.intro)<;>first|with_reducible assumption|exact q2|(rw[q1];omega)|omega)|(have h1:=e1 i1;have h2:=hct i1;(repeat' with_reducible apply And.intro)<;>first|with_reducible assumption|omega)|(obtain⟨w1,w2,w3⟩:=hW1;(repeat' with_reducible apply And.intro)<;>first|with_reducible assumption|omega)|((repeat' with_reducible apply And.intro)<;>omega));first|done|fail):p:=h
theorem o2 {p:Prop} (h:p:=by(first|((repeat' with_reducible apply And.intro)<;>first|(simp only[List.length_append,List.length_singleton];(first|done|fail))|(rw[IntKind.wrap_i64];omega)|(intro j hj;by_cases hji:j<s1.length;(focus(simp only[ypn hji,ykr hji,cond_true];first|(first|done|fail)|with_reducible rfl));(have e0:j-s1.length=0:=by omega);(simp only[ynn hji hj,yst hji,cond_false,e0,elt,y0,ycb];first|(first|done|fail)|with_reducible rfl))|decide));first|done|fail):p:=h
set_option maxHeartbeats 1000000 in
set_option maxRecDepth 20000 in
theorem den (a0:(List UInt8)) (hb0:a0.length<1099511627776) (hp0:a0.length<=1048576):Den Tryz.prog 62 [.str a0] (.tup [ownL 144 3 yr ((zzb a0).1),.bool ((zzb a0).2)]):=by
 generalize hR:zzb a0=r;unfold zzb at hR;refine di Tryz.func62 Tryz.ntmps62 Tryz.results62 ?_;intro c hL hc hk;obtain⟨hL0,_⟩:=hL;have hw0:a0.length<9223372036854775808:=Nat.lt_succ_of_le hL0;clear hL0;simp only[pars,Nat.zero_add];have e1:=fun i=>ygp a0 44 i
 have e2:=yh4 a0 44;have hct:=fun i:Nat=>y3f ((zd a0 [44]).getD i default) [45]
 have hlo:∀ (i:Nat) (b:Bool),((((zb ((zd a0 [44]).getD i default) [45]).2.1) == []) || b)=false->_:=fun i b h=>yjab (y:=(zb ((zd a0 [44]).getD i default) [45]).2.1) (by intro e;rw[e]at h;cases h) (by have h1:=hct i;have h2:=e1 i;omega)
 iterate 2 refine rS ?_
 refine AWP.cond rfl (fun hb => ?_) (fun hb => ?_)
 ·replace hR:=ct hR
  refine rS ?_;refine AWP.ret ?_;subst hR;exact es
 ·replace hR:=cf hR
  iterate 2 refine rS ?_
  refine AWP.block ?_;generalize hz1:yh (yji a0) (((zd a0 [44]).length)-0) 0 ([]:List Sector)=z1 at hR;refine AWP.range (yji a0) (fun i1 s1=>⟨[(0,.str a0),(4,.ref 0 3 0 s1.length),(19,.ref 1 1 0 ((zd a0 [44]).length)),(20,.int .i64 ((zd a0 [44]).length:Int)),(21,.int .i64 (i1:Int))],[.arr 144 3 s1.length (fun j=>yr (s1.getD j default)),.arr 9 1 (zd a0 [44]).length (fun j=>eS ((zd a0 [44]).getD j default))]⟩) (fun i1 s1=>s1.length<=([]:List Sector).length+1 * i1/\s1.length<=i1/\∀ v∈s1,bdSector v) (((zd a0 [44]).length)) 0 ([]:List Sector) [0,1] hz1 ot (by(simp)) sm ?_;clear hz1;intro i1 s1 hi1 hW1 hz1;have hV1:=hW1;obtain⟨hV1_0,hV1_1,hV1_2⟩:=hV1;refine rS ?_;refine AWP.seq ?_;refine AWP.cond rfl (fun hb => ?_) (fun hb => ?_)
  ·have hlt1:i1<((zd a0 [44]).length):=ot
   rw[yl hlt1]at hz1;simp only[yji]at hz1;iterate 3 refine rS ?_
   refine AWP.cond rfl (fun hb => ?_) (fun hb => ?_)
   ·simp only[hb,cond_true]at hz1
    refine rS ?_;refine AWP.ret ?_;subst hz1;dsimp only at hR;subst hR;exact es
   ·simp only[hb,cond_false]at hz1
    iterate 4 refine rS ?_
    refine AWP.cond rfl (fun hb => ?_) (fun hb => ?_)
    ·simp only[hb,cond_true]at hz1
     refine rS ?_;refine AWP.ret ?_;subst hz1;dsimp only at hR;subst hR;exact es
    ·simp only[hb,cond_false]at hz1
     iterate 2 refine rS ?_
     exact⟨_,[3,1],hlt1,by(have h1:=e1 i1;have c1:=hct i1;obtain⟨w0,w1,w2⟩:=hW1;refine⟨by simp only[List.length_append,List.length_cons,List.length_nil,List.length_singleton];omega,by simp only[List.length_append,List.length_cons,List.length_nil,List.length_singleton];omega,fun v hv=>(List.mem_append.1 hv).elim (fun h=>w2 v h) (fun h=>by rw[List.mem_singleton]at h;subst h;show List.length _<1099511627776;simp only[List.length_drop,List.length_take];omega)⟩),hz1,sm⟩
  ·obtain rfl:i1=((zd a0 [44]).length):=ot
   rw[yk (Nat.le_refl _)]at hz1;subst hz1;dsimp only at hR;refine AWP.exit ?_;refine yd ?_;refine rS ?_;refine AWP.cond rfl (fun hb => ?_) (fun hb => ?_)
   ·replace hR:=ct hR
    refine rS ?_;refine AWP.ret ?_;subst hR;exact es
   ·replace hR:=cf hR
    refine rS ?_;refine AWP.ret ?_;subst hR;exact es
end N62
def D_zzb : DF
 | [x0]=>some (.tup [ownL 144 3 yr ((zzb (rdS x0)).1),.bool ((zzb (rdS x0)).2)],false,[wS x0,(rdS x0).length<1099511627776,(rdS x0).length<=1048576])
 | _=>none
theorem yc6:OkD Tryz.prog 62 D_zzb:=by unfold D_zzb;exact dk N62.den
theorem y1bb {l:List Sector} (h:zgb l=true):l.length<=12:=by
 unfold zgb at h
 have he:=y8f (b:=yri l) (e0:=false) (fun j s e h=>by
  unfold yri at h;rw[Bool.cond_eq_ite]at h;split at h
  ·simpa using h.symm
  ·have h2:=y8f (b:=yzj l j s) (e0:=false) (fun k s2 e2 h2=>by
    unfold yzj at h2;rw[Bool.cond_eq_ite]at h2;split at h2
    ·simpa using h2.symm
    ·cases h2) (l.length-0) 0 ()
   generalize yh (yzj l j s) (l.length-0) 0 ()=z at h h2
   cases z with
   | error e3=>
    have h:e3=e:=by simpa using h
    rw[<- h];exact h2 e3 rfl
   | ok _=>cases h) (l.length-0) 0 0
 generalize yh (yri l) (l.length-0) 0 0=z at h he
 cases z with
 | error e=>have:=he e rfl;subst this;cases h
 | ok s=>simp[zlb]at h;omega
theorem ygj (c : UInt8) : ∀ xs : List (List UInt8), Lib.join xs [c] = joinC c xs
 | []=>rfl
 | [x]=>by simp[Lib.join_cons,Lib.joinTail,joinC]
 | x::y::r=>by
  have ih:=ygj c (y::r);rw[joinC, <- ih];simp[Lib.join_cons,Lib.joinTail]
theorem y87 {s:Sector} (h:zdc s=true) (c:UInt8) (h1:c≠45) (h2:c.toNat<48):c∉scT s:=by
 unfold zdc at h;rw[Bool.and_eq_true]at h;unfold scT;intro hm;rw[List.mem_append]at hm;rcases hm with hm|hm
 ·exact y4v _ c h1 (.inl h2) hm
 rcases List.mem_cons.1 hm with hm|hm
 ·exact h1 hm
 rw[List.mem_append]at hm;rcases hm with hm|hm
 ·exact y4v _ c h1 (.inl h2) hm
 ·rcases yvu h.2 with e|e|e|e<;>rw[e]at hm<;>rw[List.mem_singleton]at hm<;>subst hm<;>revert h2<;>decide
theorem yuz {s:Sector} (h:zdc s=true):0<=s.From/\s.From<=359/\0<=s.To/\s.To<=359/\s.Color.length=1/\(45:UInt8)∉s.Color:=by
 have hb:=yso h;unfold zdc at h;rw[Bool.and_eq_true]at h;refine⟨hb.1.1,hb.1.2,hb.2.1,hb.2.2,?_,?_⟩<;>rcases yvu h.2 with e|e|e|e<;>rw[e]<;>decide
theorem ysq {l:List Sector} (h:zv l=true) (hn:l≠[]):ybb 44 (scsT l)=l.map scT:=by
 have h1:=(yfh h).2
 have hmem:∀ s∈l,(44:UInt8)∉scT s:=fun s hs=>by
  obtain⟨i,hi,e⟩:=List.getElem_of_mem hs;have:=h1 i hi;rw[List.getD_eq_getElem?_getD,List.getElem?_eq_getElem hi,Option.getD_some,e]at this;exact y87 this 44 (by decide) (by decide)
 unfold scsT;rw[if_neg hn]
 cases l with
 | nil=>exact absurd rfl hn
 | cons x r=>
  rw[List.map_cons,Lib.join_cons,yjj 44 _ _ (hmem x (by simp)) (fun y hy=>by
   obtain⟨s,hs,rfl⟩:=List.mem_map.1 hy
   exact hmem s (by simp[hs]))]
theorem yacb {l:List Sector} (hn:l≠[]):(scsT l == [45])=false:=by
 rw[beq_eq_false_iff_ne];unfold scsT;rw[if_neg hn]
 cases l with
 | nil=>exact absurd rfl hn
 | cons x r=>
  intro e;rw[List.map_cons,Lib.join_cons]at e;have:=congrArg List.length e;unfold scT at this;have h1:=List.length_pos_iff.2 (yb0 x.From);have h2:=List.length_pos_iff.2 (yb0 x.To);simp only[List.length_append,List.length_cons,List.length_nil]at this;omega
theorem ys9 (l:List Sector) (j:Nat) (hj:j<l.length):(l.map scT).getD j default=scT (l.getD j default):=yc5 scT l j hj
theorem yt1 (x y:List UInt8) (h:y.length=1) (hl:x.length<=1048576):(x++y).take ((IntKind.wrap .i64 (((x++y).length:Int)-1)).toNat)=x/\(((x++y).take (x++y).length).drop ((IntKind.wrap .i64 (((x++y).length:Int)-1)).toNat))=y:=by
 have hw:(IntKind.wrap .i64 (((x++y).length:Int)-1)).toNat=x.length:=by
  rw[List.length_append,h,IntKind.wrap_i64];omega
 rw[hw];exact⟨List.take_left' rfl,by rw[List.take_length,List.drop_left' rfl]⟩
def zrd (a0:(List UInt8)):(Character×Bool):=
 (bif (zb ((zb a0 [32]).2.1) [32]).2.2 then(bif (((!((zl ((zb a0 [32]).1)).2 && (zze (zhe ((zb ((zb a0 [32]).2.1) [32]).2.1) [115])).2)) || (!(zfb ({ Kind:=((zl ((zb a0 [32]).1)).1).Kind,Group:=((zl ((zb a0 [32]).1)).1).Group,Letter:=((zl ((zb a0 [32]).1)).1).Letter,Colors:=(zb ((zb a0 [32]).2.1) [32]).1,Period:=(zze (zhe ((zb ((zb a0 [32]).2.1) [32]).2.1) [115])).1:Character })))) || ((zwd ({ Kind:=((zl ((zb a0 [32]).1)).1).Kind,Group:=((zl ((zb a0 [32]).1)).1).Group,Letter:=((zl ((zb a0 [32]).1)).1).Letter,Colors:=(zb ((zb a0 [32]).2.1) [32]).1,Period:=(zze (zhe ((zb ((zb a0 [32]).2.1) [32]).2.1) [115])).1:Character })) != a0))then({ Kind:=0,Group:=[],Letter:=[],Colors:=[],Period:=0:Character },false)else({ Kind:=((zl ((zb a0 [32]).1)).1).Kind,Group:=((zl ((zb a0 [32]).1)).1).Group,Letter:=((zl ((zb a0 [32]).1)).1).Letter,Colors:=(zb ((zb a0 [32]).2.1) [32]).1,Period:=(zze (zhe ((zb ((zb a0 [32]).2.1) [32]).2.1) [115])).1:Character },true))else(bif (((!((zl ((zb a0 [32]).1)).2)) || (!(zfb ({ Kind:=((zl ((zb a0 [32]).1)).1).Kind,Group:=((zl ((zb a0 [32]).1)).1).Group,Letter:=((zl ((zb a0 [32]).1)).1).Letter,Colors:=(zb ((zb a0 [32]).2.1) [32]).1,Period:=((zl ((zb a0 [32]).1)).1).Period:Character })))) || ((zwd ({ Kind:=((zl ((zb a0 [32]).1)).1).Kind,Group:=((zl ((zb a0 [32]).1)).1).Group,Letter:=((zl ((zb a0 [32]).1)).1).Letter,Colors:=(zb ((zb a0 [32]).2.1) [32]).1,Period:=((zl ((zb a0 [32]).1)).1).Period:Character })) != a0))then({ Kind:=0,Group:=[],Letter:=[],Colors:=[],Period:=0:Character },false)else({ Kind:=((zl ((zb a0 [32]).1)).1).Kind,Group:=((zl ((zb a0 [32]).1)).1).Group,Letter:=((zl ((zb a0 [32]).1)).1).Letter,Colors:=(zb ((zb a0 [32]).2.1) [32]).1,Period:=((zl ((zb a0 [32]).1)).1).Period:Character },true)))
namespace N61
theorem DD:DOk Tryz.prog (Go.Ab.DD [(122,dP D_zb),(128,dP D_zl),(129,dP D_zze),(130,dP D_zhe),(131,dP D_zfb),(68,dP D_zwd)]):=ya yql.e <| ya yhab.e <| ya ym3.e <| ya y03.e <| ya y7o.e <| ya yxx.e <| yf _
abbrev dn:=cj @D_zb.eq_1 <| cj @D_zl.eq_1 <| cj @D_zze.eq_1 <| cj @D_zhe.eq_1 <| cj @D_zfb.eq_1 <| @D_zwd.eq_1
theorem gr {p:Prop} (h:p:=by(grind [y3f,y81]);first|done|fail):p:=h
theorem o0 {p:Prop} (h:p:=by(first|(and_intros<;>first|omega|(intros;omega)|(intros;and_intros<;>first|omega|(show List.length _<_;simp only;omega))|(refine⟨?_,?_,?_⟩<;>(simp only;omega))));first|done|fail):p:=h
set_option maxHeartbeats 1000000 in
set_option maxRecDepth 20000 in
theorem den (a0:(List UInt8)) (hb0:a0.length<1099511627776) (hp0:a0.length<=1048576):Den Tryz.prog 61 [.str a0] (.tup [.agg (y6b ((zrd a0).1)),.bool ((zrd a0).2)]):=by
 generalize hR:zrd a0=r;unfold zrd at hR;refine di Tryz.func61 Tryz.ntmps61 Tryz.results61 ?_;intro c hL hc hk;obtain⟨hL0,_⟩:=hL;have hw0:a0.length<9223372036854775808:=Nat.lt_succ_of_le hL0;clear hL0;simp only[pars,Nat.zero_add];have c1:=y3f a0 [32];have c2:=y3f (zb a0 [32]).2.1 [32];have c3:=y81 (zb (zb a0 [32]).2.1 [32]).2.1 [115];have hrh:=ysu (zb a0 [32]).1 (by omega);obtain⟨hr1,hr2,hr3⟩:=hrh;iterate 6 refine rS ?_
 refine AWP.cond rfl (fun hb => ?_) (fun hb => ?_)
 ·replace hR:=ct hR
  iterate 4 refine rS ?_
  refine AWP.cond rfl (fun hb => ?_) (fun hb => ?_)
  ·replace hR:=ct hR
   refine rS ?_;refine AWP.ret ?_;subst hR;exact es
  ·replace hR:=cf hR
   refine rS ?_;refine AWP.ret ?_;subst hR;exact es
 ·replace hR:=cf hR
  refine rS ?_;refine AWP.cond rfl (fun hb => ?_) (fun hb => ?_)
  ·replace hR:=ct hR
   refine rS ?_;refine AWP.ret ?_;subst hR;exact es
  ·replace hR:=cf hR
   refine rS ?_;refine AWP.ret ?_;subst hR;exact es
end N61
def D_zrd : DF
 | [x0]=>some (.tup [.agg (y6b ((zrd (rdS x0)).1)),.bool ((zrd (rdS x0)).2)],false,[wS x0,(rdS x0).length<1099511627776,(rdS x0).length<=1048576])
 | _=>none
theorem yr6:OkD Tryz.prog 61 D_zrd:=by unfold D_zrd;exact dk N61.den
theorem y1cb (a b:List UInt8):zhe a b=Lib.trimSuffix a b:=rfl
theorem yi2 (s:List UInt8) (h:zjb s=true):(32:UInt8)∉s:=by
 intro hm;obtain⟨i,hi,he⟩:=List.getElem_of_mem hm;unfold zjb at h
 cases hl:yh (yhf s) (s.length-0) 0 ()with
 | error e=>
  rw[hl]at h;obtain⟨j,t,_,_,h3⟩:=ywc hl;unfold yhf at h3;simp only[Bool.cond_eq_ite]at h3;split at h3
  ·cases h3;simp at h
  ·cases h3
 | ok u=>
  have hk:=ylg (fun k (_:Unit)=>∀ j,j<k->ztf ((s.getD j 0).toNat:Int)≠0) hl (by intro j hj;omega) (fun j u v _ _ hI hv=>by
   unfold yhf at hv;simp only[Bool.cond_eq_ite]at hv;split at hv
   ·cases hv
   ·rename_i hn
    simp only[Bool.or_eq_true,beq_iff_eq,not_or]at hn;intro q hq;by_cases hqj:q=j
    ·subst hqj;exact hn.1
    ·exact hI q (by omega))
  have:=hk i (by omega);rw[List.getD_eq_getElem?_getD,List.getElem?_eq_getElem hi,Option.getD_some,he]at this;exact this rfl
theorem yo9 (c:Character) (h:zmb c=true):(32:UInt8)∉ybk c:=by
 have hk:=ypg c h;obtain⟨g1,g2⟩:=y6e c h;have h32:=(ykbb c.Kind hk).2;unfold ybk;by_cases h8:c.Kind=8
 ·rw[if_pos h8]
  obtain⟨_,f2,f3,f4⟩:=ydr c h h8;obtain⟨x,hx⟩:=List.length_eq_one_iff.1 f2;rw[hx]at f3 f4 ⊢;simp only[List.getD_cons_zero]at f3 f4;intro hm;simp only[List.mem_append,List.mem_cons,List.not_mem_nil,or_false]at hm;rcases hm with hm|hm|hm|hm
  ·exact absurd hm (by decide)
  ·exact absurd hm (by decide)
  ·subst hm;exact absurd f3 (by decide)
  ·exact absurd hm (by decide)
 ·rw[if_neg h8]
  intro hm;rcases List.mem_append.1 hm with hm|hm
  ·exact h32 hm
  ·rcases List.mem_append.1 hm with hm|hm
   ·unfold grpT at hm
    split at hm
    ·simp at hm
    ·rcases List.mem_cons.1 hm with hm|hm
     ·exact absurd hm (by decide)
     ·rcases List.mem_append.1 hm with hm|hm
      ·refine yq2 32 (by decide) (c.Group.map Lib.itoa) (fun y hy => ?_) hm
       obtain⟨z,hz,rfl⟩:=List.mem_map.1 hy;exact y7e (by have:=g2 z hz;omega) 32 (by decide)
      ·rw[List.mem_singleton]at hm;exact absurd hm (by decide)
   ·split at hm
    ·simp at hm
    ·exact absurd hm (by decide)
theorem y1j (c:Character) (h:zfb c=true) (hl:c.Colors.length<9223372036854775808):zjb c.Colors=true:=by
 unfold zfb at h;rw[yos _ hl]at h
 cases hc:zjb c.Colors with
 | true=>rfl
 | false=>rw[hc]at h;simp at h
theorem y01 (c:Character) (h:zfb c=true) (hl:c.Colors.length<9223372036854775808):zrd (chrT c)=(c,true):=by
 have hf:=yzc c h;have hr:=yh0 c hf;have hp:=y0e c h;have hp2:=(yzd c h).2.2;have hcol:=yi2 _ (y1j c h hl)
 have c1:zb (chrT c) [32]=(ybk c,c.Colors++perT c.Period,true):=by
  rw[y7t];unfold chrT;rw[y4f _ _ 32 (yo9 c hf)]
 have htext:=yzl c h;unfold zrd;rw[c1];simp only;by_cases h0:c.Period=0
 ·have c2:zb (c.Colors++perT c.Period) [32]=(c.Colors,[],false):=by
   rw[h0,show perT 0=[]from rfl,List.append_nil,y7t,ysp _ 32 hcol]
  rw[c2,hr];simp only[cond_false];have ec:({ Kind:=c.Kind,Group:=c.Group,Letter:=c.Letter,Colors:=c.Colors,Period:=0:Character })=c:=by rw[<- h0]
  simp only[ec,h,htext];simp
 ·have e2:perT c.Period=32::(secT c.Period++[115]):=by unfold perT;rw[if_neg h0]
  have c2:zb (c.Colors++perT c.Period) [32]=(c.Colors,secT c.Period++[115],true):=by
   rw[e2,y7t,y4f _ _ 32 hcol]
  have c3:zhe (secT c.Period++[115]) [115]=secT c.Period:=by rw[y1cb,ytc]
  rw[c2,hr];simp only[cond_true];rw[c3,yi5 _ (by omega) hp2];have ec:({ Kind:=c.Kind,Group:=c.Group,Letter:=c.Letter,Colors:=c.Colors,Period:=c.Period:Character })=c:=rfl;simp only[ec,h,htext];simp
theorem yuo (a:List UInt8):zrd a=({ Kind:=0,Group:=[],Letter:=[],Colors:=[],Period:=0:Character },false)\/∃ c,zfb c=true/\zwd c=a/\zrd a=(c,true):=by
 unfold zrd
 cases(zb ((zb a [32]).2.1) [32]).2.2 with
 | true=>
  simp only[cond_true];generalize hc:({ Kind:=((zl ((zb a [32]).1)).1).Kind,Group:=((zl ((zb a [32]).1)).1).Group,Letter:=((zl ((zb a [32]).1)).1).Letter,Colors:=(zb ((zb a [32]).2.1) [32]).1,Period:=(zze (zhe ((zb ((zb a [32]).2.1) [32]).2.1) [115])).1:Character })=c
  cases hv:zfb c with
  | false=>left;simp
  | true=>
   by_cases ht:zwd c=a
   ·cases hq:((zl ((zb a [32]).1)).2 && (zze (zhe ((zb ((zb a [32]).2.1) [32]).2.1) [115])).2)with
    | true=>right;exact⟨c,hv,ht,by simp[ht]⟩
    | false=>left;simp
   ·left
    have:(zwd c != a)=true:=by simpa using ht
    rw[this];simp
 | false=>
  simp only[cond_false];generalize hc:({ Kind:=((zl ((zb a [32]).1)).1).Kind,Group:=((zl ((zb a [32]).1)).1).Group,Letter:=((zl ((zb a [32]).1)).1).Letter,Colors:=(zb ((zb a [32]).2.1) [32]).1,Period:=((zl ((zb a [32]).1)).1).Period:Character })=c
  cases hv:zfb c with
  | false=>left;simp
  | true=>
   by_cases ht:zwd c=a
   ·cases hq:(zl ((zb a [32]).1)).2 with
    | true=>right;exact⟨c,hv,ht,by simp[ht]⟩
    | false=>left;simp
   ·left
    have:(zwd c != a)=true:=by simpa using ht
    rw[this];simp
theorem ywcb {m:Mark} (h:zid m=true):bdMark m:=by
 have h:=ywp (m:=m) h;exact⟨Nat.lt_of_le_of_lt h.2.2.1 (by decide),Nat.lt_of_le_of_lt h.2.2.2.1 (by decide),Nat.lt_of_le_of_lt h.2.2.2.2 (by decide)⟩
theorem yibb (w:List UInt8) (hw:w.length<=1048576):bdMark (zfe w).1:=by
 have z0:bdMark zMark:=by decide
 have key:∀ m:Mark,∀ b:Bool,bdMark (bif ((b || (!(zed m))) || ((zrc m) != w))then(zMark,false)else(m,true)).1:=fun m b=>by
  cases hc:((b || (!(zed m))) || ((zrc m) != w))with
  | true=>exact z0
  | false=>
   simp only[Bool.or_eq_false_iff,Bool.not_eq_false']at hc;show bdMark m;exact ywcb (by rw[<- show zjd m=zid m from rfl, <- yag];exact hc.1.2)
 unfold zfe
 cases h0:(w == zae 0)with
 | true=>exact z0
 | false=>
  rw[cond_false]
  cases h1:(((zz w).length:Int) != 4)with
  | true=>exact z0
  | false=>
   rw[cond_false]
   cases h2:(((zz w).getD 3 default) == [45])with
   | true=>rw[cond_true];exact key _ _
   | false=>rw[cond_false];exact key _ _
theorem y9ab {l:List Sector} (h:zv l=true):l.length<1099511627776/\∀ v∈l,bdSector v:=by
 have hr:=ycg h;refine⟨Nat.lt_of_le_of_lt hr.1 (by decide),fun v hv => ?_⟩;obtain⟨i,hi,e⟩:=List.getElem_of_mem hv;have h9:=(hr.2 i).2.2.2.2;rw[List.getD_eq_getElem?_getD,List.getElem?_eq_getElem hi,Option.getD_some,e]at h9;exact Nat.lt_of_le_of_lt h9 (by decide)
theorem yfbb (w:List UInt8) (hw:w.length<=1048576):(zzb w).1.length<1099511627776/\∀ v∈(zzb w).1,bdSector v:=by
 unfold zzb
 cases h0:(w == [45])with
 | true=>rw[cond_true];exact⟨by decide,by simp⟩
 | false=>
  rw[cond_false]
  have he:=y8f (b:=yji w) (e0:=([],false)) (fun j s e h=>by
   unfold yji at h;simp only[Bool.cond_eq_ite]at h;split at h
   ·simpa using h.symm
   ·split at h
    ·simpa using h.symm
    ·cases h) ((zd w [44]).length-0) 0 []
  generalize yh (yji w) ((zd w [44]).length-0) 0 []=z at he
  cases z with
  | error e=>rw[he e rfl];exact⟨by show(0:Nat)<_;decide,by intro v hv;cases hv⟩
  | ok s=>
   simp only
   cases hc:((!(zgb s)) || ((zad s) != w))with
   | true=>rw[cond_true];exact⟨by decide,by simp⟩
   | false=>
    rw[cond_false];simp only[Bool.or_eq_false_iff,Bool.not_eq_false']at hc;have h12:=y1bb hc.1;exact y9ab (by rw[<- yzb s (by omega)];exact hc.1)
theorem y8ab {c:Character} (h:zfb c=true):bdCharacter c:=by
 have hf:=yzc c h;have hg:=(yzd c h).1;have hc:=y4n h
 have hl:c.Letter.length<=1:=by
  by_cases h8:c.Kind=8
  ·rw[(ydr c hf h8).2.1];exact Nat.le_refl _
  ·by_cases hL:c.Letter=[]
   ·rw[hL];simp
   ·rw[(y97 c hf h8 hL).1];simp
 exact⟨Nat.lt_of_le_of_lt hg (by decide),Nat.lt_of_le_of_lt hl (by decide),Nat.lt_of_le_of_lt hc (by decide)⟩
theorem y3ab (w:List UInt8):bdCharacter (zrd w).1:=by
 rcases yuo w with h|⟨c,h1,_,h3⟩
 ·rw[h];decide
 ·rw[h3];exact y8ab h1
end Go.Ab
