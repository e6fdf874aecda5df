/- A part of a proof: walks of functions and lemmas of our own. No conditions. -/
import Derived.Test.YtcaopagmcldjmaaGreatDoorAAy
import Derived.Test.YtcaopagmcldjmaaGreatDoorAAo
import Derived.Test.YtcaopagmcldjmaaGreatDoorAAs
import Derived.Test.YtcaopagmcldjmaaGreatDoorAAr
import Derived.Test.YtcaopagmcldjmaaGreatDoorAAx
import Derived.Test.YtcaopagmcldjmaaGreatDoorAAq
import Derived.Test.YtcaopagmcldjmaaGreatDoorAAp
import Derived.Test.YtcaopagmcldjmaaGreatDoorAAl
import Derived.Test.YtcaopagmcldjmaaGreatDoorAAk
import Derived.Test.YtcaopagmcldjmaaGreatDoorAAu
import Derived.Test.YtcaopagmcldjmaaGreatDoorAAt
set_option linter.unusedSectionVars false
set_option linter.unusedVariables false
set_option linter.unusedSimpArgs false
set_option maxHeartbeats 1000000
namespace Go.Ab
open Go Go.Proofs
def kt (k:Int):List UInt8:=([[],[70],[79,99],[73,115,111],[70,108],[76,70,108],[81],[86,81],[77,111]]:List (List UInt8)).getD k.toNat []
def grpT (g:List Int):List UInt8:=if g=[]then[]else 40::(Lib.join (g.map Lib.itoa) [43]++[41])
def yri (c:Character):List UInt8:=
 if c.Kind=8 then kt 8++(40::(c.Letter++[41]))else kt c.Kind++(grpT c.Group++(if c.Letter=[]then[]else[43,76,70,108]))
def secT (n:Int):List UInt8:=if n.tmod 10=0 then Lib.itoa (n / 10)else Lib.itoa (n / 10)++(46::Lib.itoa (n % 10))
def perT (n:Int):List UInt8:=if n=0 then[]else 32::(secT n++[115])
def chrT (c:Character):List UInt8:=yri c++(32::(c.Colors++perT c.Period))
theorem yr6 (k:Int) (h:1<=k/\k<=8):zrc k=kt k:=by
 rcases(show k=1\/k=2\/k=3\/k=4\/k=5\/k=6\/k=7\/k=8 by omega)with h|h|h|h|h|h|h|h<;>subst h<;>rfl
theorem ypt (n:Int) (h1:0<=n) (h2:n<=600):zfe n=secT n:=by
 unfold zfe secT;have hd:n.tdiv 10=n / 10:=Int.tdiv_eq_ediv_of_nonneg h1;have hm:n.tmod 10=n % 10:=Int.tmod_eq_emod_of_nonneg h1;have hw:IntKind.wrap .i64 (n.tdiv 10)=n / 10:=by rw[IntKind.wrap_i64];omega
 rw[hw,hm];by_cases h:n % 10=0
 ·rw[h];rfl
 ·have:(n % 10 == 0)=false:=by rw[beq_eq_false_iff_ne];exact h
  rw[this,if_neg h];simp[yw5]
theorem ybz (c:Character) (hk:1<=c.Kind/\c.Kind<=8):zqd c=yri c:=by
 unfold zqd yri;rw[yr6 _ hk];by_cases h8:c.Kind=8
 ·rw[h8];simp
 ·have e8:(c.Kind == 8)=false:=by rw[beq_eq_false_iff_ne];exact h8
  rw[e8,if_neg h8];simp only[cond_false];have hl:=y3e (yhl c) (fun j=>[Lib.itoa (c.Group.getD j default)]) c.Group.length 0 [] (fun j s _ _=>rfl);rw[yyg c.Group default Lib.itoa,List.nil_append]at hl;simp only[Nat.sub_zero];rw[hl];unfold grpT;by_cases hg:c.Group=[]
  ·rw[hg]
   by_cases hL:c.Letter=[]
   ·rw[hL];simp
   ·have:(c.Letter != [])=true:=by simpa using hL
    rw[this,if_neg hL];simp
  ·have hpos:0<c.Group.length:=List.length_pos_iff.2 hg
   rw[if_neg hg,decide_eq_true (show 0<(c.Group.length:Int)by omega)];have ej:zic (c.Group.map Lib.itoa) [43]=Lib.join (c.Group.map Lib.itoa) [43]:=rfl;by_cases hL:c.Letter=[]
   ·rw[hL];simp[ej]
   ·have:(c.Letter != [])=true:=by simpa using hL
    rw[this,if_neg hL];simp[ej]
theorem yek (c:Character) (h:zgb c=true):znd c=chrT c:=by
 have hk:=ymf c (yoc c h);have hp:=y6d c h;have hp2:=(ygd c h).2.2;unfold znd chrT perT;rw[h,ybz c hk,ypt _ hp hp2];by_cases h0:c.Period=0
 ·rw[h0];simp
 ·have:(c.Period != 0)=true:=by rw[bne_iff_ne];exact h0
  rw[this,if_neg h0];simp
def y6x (c : UInt8) : List (List UInt8) -> List UInt8
 | []=>[]
 | [x]=>x
 | x::y::r=>x++c::y6x c (y::r)
theorem yzx (n:Int):(32:UInt8)∉Lib.itoa n/\Lib.itoa n≠[]:=by
 obtain⟨d1,_,d3,_⟩:=ydb n.natAbs;by_cases h:n<0
 ·rw[ysc h]
  refine⟨fun hm => ?_,by simp⟩;rcases List.mem_cons.1 hm with hm|hm
  ·simp at hm
  ·have:=d1 32 hm;simp at this
 ·rw[ywd h]
  exact⟨fun hm=>by have:=d1 32 hm;simp at this,d3⟩
theorem yoe {n:Int} (h:0<=n) (b:UInt8) (hb:b.toNat<48\/57<b.toNat):b∉Lib.itoa n:=by
 obtain⟨d1,_,_,_⟩:=ydb n.natAbs;rw[ywd (by omega)];intro hm;have:=d1 b hm;omega
theorem ykd {n:Int} (h1:0<=n) (h2:n<=1000000):y8b (Lib.itoa n)=(n,true):=by
 rcases yji (Lib.itoa n)with⟨m,hm,he,hr⟩|⟨hn,_⟩
 ·rw[hr,ynu he]
 ·exact absurd rfl (hn n (by unfold E18;omega))
theorem ysy (b : UInt8) (hb : b ≠ 43) : ∀ (xs : List (List UInt8)), (∀ x ∈ xs, b ∉ x) -> b ∉ Lib.join xs [43]
 | [],_=>by simp[Lib.join_nil]
 | x::r,h=>by
  rw[Lib.join_cons];intro hm;rcases List.mem_append.1 hm with hm|hm
  ·exact h x (by simp) hm
  ·unfold Lib.joinTail at hm
   rw[List.mem_flatten]at hm;obtain⟨l,hl,hbl⟩:=hm;obtain⟨y,hy,rfl⟩:=List.mem_map.1 hl;rcases List.mem_append.1 hbl with h9|h9
   ·rw[List.mem_singleton]at h9;exact hb h9
   ·exact h y (by simp[hy]) h9
theorem yph (b : UInt8) : ∀ (x : List UInt8) (r : List (List UInt8)), b ∉ x -> (∀ y ∈ r, b ∉ y) -> y9 b (x ++ Lib.joinTail [b] r) = x :: r
 | x,[],hx,_=>by simp[Lib.joinTail,yid b x hx]
 | x,y::r,hx,hr=>by
  have e:Lib.joinTail [b] (y::r)=b::(y++Lib.joinTail [b] r):=by simp[Lib.joinTail]
  rw[e,ygb b x _ hx,yph b y r (hr y (by simp)) (fun z hz=>hr z (by simp[hz]))]
theorem ywp (g:List Int) (hg:g≠[]) (h2:∀ v∈g,1<=v/\v<=9):y9 43 (Lib.join (g.map Lib.itoa) [43])=g.map Lib.itoa:=by
 cases g with
 | nil=>exact absurd rfl hg
 | cons x r=>
  rw[List.map_cons,Lib.join_cons];refine yph 43 _ _ (yoe (by have:=h2 x (by simp);omega) 43 (by decide)) ?_;intro y hy;obtain⟨z,hz,rfl⟩:=List.mem_map.1 hy;exact yoe (by have:=h2 z (by simp[hz]);omega) 43 (by decide)
theorem yi7 (k:Int) (h:1<=k/\k<=8):(40:UInt8)∉kt k/\(32:UInt8)∉kt k:=by
 rcases(show k=1\/k=2\/k=3\/k=4\/k=5\/k=6\/k=7\/k=8 by omega)with h|h|h|h|h|h|h|h<;>subst h<;>decide
theorem y00 (n:Int) (h1:0<n) (h2:n<=600):zge (secT n)=(n,true):=by
 have hm:n.tmod 10=n % 10:=Int.tmod_eq_emod_of_nonneg (by omega)
 have z0:Lib.itoa 0=[48]:=by
  rw[ywd (by omega)];first|rfl|decide|(rw[show(0:Int).natAbs=0 from rfl,Lib.decDigits];rfl)
 have e0:zl [48]=(0,true):=by
  have:=ykd (n:=0) (by omega) (by omega);rw[z0]at this;exact this
 have e1:zl (Lib.itoa (n / 10))=(n / 10,true):=ykd (by omega) (by omega);have hst:=ypt n (by omega) h2;have hcut:∀ s,zd s [46]=Lib.cut s [46]:=fun s=>rfl
 unfold zge;simp only[hcut];have hw:∀ m:Int,0<=m->m<=100000->IntKind.wrap .i64 m=m:=fun m _ _=>by rw[IntKind.wrap_i64];omega
 by_cases h:n.tmod 10=0
 ·have hs:secT n=Lib.itoa (n / 10):=by unfold secT;rw[if_pos h]
  rw[hs]at hst ⊢;rw[y5n _ 46 (yoe (by omega) 46 (by decide))];simp only[Bool.not_false,cond_true];rw[e0,e1];simp only;rw[hw (10 * (n / 10)) (by omega) (by omega),hw (10 * (n / 10)+0) (by omega) (by omega),show 10 * (n / 10)+0=n by omega,hst];have w1:zg (n / 10) 0 1200=true:=by unfold zg;rw[decide_eq_true (by omega),decide_eq_true (by omega)];rfl
  rw[w1];simp[zg]
 ·have hs:secT n=Lib.itoa (n / 10)++(46::Lib.itoa (n % 10)):=by unfold secT;rw[if_neg h]
  have e2:zl (Lib.itoa (n % 10))=(n % 10,true):=ykd (by omega) (by omega);rw[hs]at hst ⊢;rw[y0d _ _ 46 (yoe (by omega) 46 (by decide))];simp only[Bool.not_true,cond_false];rw[e1,e2];simp only;rw[hw (10 * (n / 10)) (by omega) (by omega),hw (10 * (n / 10)+n % 10) (by omega) (by omega),show 10 * (n / 10)+n % 10=n by omega,hst];have w1:zg (n / 10) 0 1200=true:=by unfold zg;rw[decide_eq_true (by omega),decide_eq_true (by omega)];rfl
  have w2:zg (n % 10) 0 9=true:=by unfold zg;rw[decide_eq_true (by omega),decide_eq_true (by omega)];rfl
  rw[w1,w2];simp
theorem yds (a b:List UInt8):zi a b=(Lib.trimSuffix a b,Lib.hasSuffix a b):=rfl
theorem yrs (a b:List UInt8):zd a b=Lib.cut a b:=rfl
theorem y6n (k : Int) (hk : 1 <= k /\ k <= 8) (b : Int × Int -> Except (Sum (Character × Bool) (Int × Int)) (Int × Int))
  (hb:∀ s,b s=(bif decide (s.1<=8)then(bif ((zrc s.1) == kt k)then .ok (IntKind.wrap .i64 (s.1+1),s.1)else .ok (IntKind.wrap .i64 (s.1+1),s.2))else .error (.inr (s.1,s.2)))) :
  yeb b (((9-(1:Int)).toNat)+1) (1,0)=.error (.inr (9,k)):=by
 have e:b=fun s=>(bif decide (s.1<=8)then(bif ((zrc s.1) == kt k)then .ok (IntKind.wrap .i64 (s.1+1),s.1)else .ok (IntKind.wrap .i64 (s.1+1),s.2))else .error (.inr (s.1,s.2))):=funext hb
 rw[e];rcases(show k=1\/k=2\/k=3\/k=4\/k=5\/k=6\/k=7\/k=8 by omega)with h|h|h|h|h|h|h|h<;>subst h<;>rfl
theorem ya7 {ρ : Type} (g : List Int) (h2 : ∀ v ∈ g, 1 <= v /\ v <= 9) (r : Nat -> List Int -> ρ) (b : Nat -> List Int -> Except ρ (List Int))
  (hb:∀ i s,b i s=(bif (!(zl ((g.map Lib.itoa).getD i default)).2)then .error (r i s)else .ok (s++([(zl ((g.map Lib.itoa).getD i default)).1]:List Int)))) :
  yf b ((g.map Lib.itoa).length-0) 0 []=.ok g:=by
 rw[List.length_map,Nat.sub_zero]
 rw[y3e b (fun j=>[id (g.getD j default)]) g.length 0 [] (fun j s _ hj=>by
  have hj2:j<g.length:=by omega
  have e:(g.map Lib.itoa).getD j default=Lib.itoa (g.getD j default):=by
   rw[List.getD_eq_getElem?_getD,List.getD_eq_getElem?_getD,List.getElem?_map,List.getElem?_eq_getElem hj2];rfl
  have hr:=y0i h2 j;have e2:zl (Lib.itoa (g.getD j default))=(g.getD j default,true):=ykd (by omega) (by omega)
  rw[hb,e,e2];rfl),yyg g default id]
 simp
theorem yx3 (c:Character) (h:zob c=true) (h8:c.Kind≠8) (hL:c.Letter≠[]):c.Letter=[76]/\c.Group=[6]:=by
 unfold zob at h;simp only[Bool.cond_eq_ite]at h;repeat' split at h
 all_goals (try simp only[Bool.and_eq_true,Bool.or_eq_true,beq_iff_eq,y7e,decide_eq_true_eq]at *)
 all_goals first
  | (exact absurd h.2 hL;done)
  | (exact absurd h.1 hL;done)
  | (exact h)
  | (rename_i q;exact absurd q hL)
  | (rename_i q;exact absurd q h8)
  | (cases h;done)
theorem y8p (c:Character) (h:zob c=true) (h8:c.Kind=8):c.Group=[]/\c.Letter.length=1/\65<=(c.Letter.getD 0 0).toNat/\(c.Letter.getD 0 0).toNat<=90:=by
 unfold zob at h;rw[h8]at h;have h:(((zdc c.Letter) != []) && ((c.Group.length:Int) == 0))=true:=h;rw[Bool.and_eq_true,beq_iff_eq,yan,decide_eq_true_eq]at h;exact⟨List.length_eq_zero_iff.1 (by omega),h.1⟩
theorem yyq (k:Int) (h:1<=k/\k<=8):Lib.hasSuffix (kt k) [43,76,70,108]=false:=by
 rcases(show k=1\/k=2\/k=3\/k=4\/k=5\/k=6\/k=7\/k=8 by omega)with h|h|h|h|h|h|h|h<;>subst h<;>decide
theorem yvi (x:List UInt8):Lib.hasSuffix (x++[41]) [43,76,70,108]=false:=y4k x [43,76,70] 41 108 (by decide)
theorem y0y (c:Character) (h:zob c=true):zq (yri c)=({ Kind:=c.Kind,Group:=c.Group,Letter:=c.Letter,Colors:=[],Period:=0:Character },true):=by
 have hk:=ymf c h;obtain⟨g1,g2⟩:=yle c h;have h40:=(yi7 c.Kind hk).1;unfold yri;by_cases h8:c.Kind=8
 ·obtain⟨f1,f2⟩:=y8p c h h8
  rw[if_pos h8,f1,h8];have eH:kt 8++40::(c.Letter++[41])=(kt 8++40::c.Letter)++[41]:=by simp
  have c1:zi (kt 8++40::(c.Letter++[41])) [43,76,70,108]=(kt 8++40::(c.Letter++[41]),false):=by
   rw[yds,eH,yvi,ype _ _ (yvi _)]
  have c2:zd (kt 8++40::(c.Letter++[41])) [40]=(kt 8,c.Letter++[41],true):=by rw[yrs,y0d _ _ 40 (by decide)]
  have c3:zi (c.Letter++[41]) [41]=(c.Letter,true):=by rw[yds,ydc,yrc]
  have hw:=y6n 8 (by omega) (yjj (kt 8++40::(c.Letter++[41]))) (fun s=>by unfold yjj;rw[c1];simp only;rw[c2]);unfold zq;rw[c1];simp only;rw[c2];simp only;rw[c3,hw];rfl
 ·rw[if_neg h8]
  have e8:(c.Kind == 8)=false:=by rw[beq_eq_false_iff_ne];exact h8
  by_cases hL:c.Letter=[]
  ·rw[if_pos hL,List.append_nil,hL]
   by_cases hg:c.Group=[]
   ·have eg:grpT c.Group=[]:=by rw[hg];rfl
    rw[eg,List.append_nil,hg]
    have c1:zi (kt c.Kind) [43,76,70,108]=(kt c.Kind,false):=by
     rw[yds,yyq _ hk,ype _ _ (yyq _ hk)]
    have c2:zd (kt c.Kind) [40]=(kt c.Kind,[],false):=by rw[yrs,y5n _ 40 h40]
    have hw:=y6n c.Kind hk (yjj (kt c.Kind)) (fun s=>by unfold yjj;rw[c1];simp only;rw[c2]);unfold zq;rw[c1];simp only;rw[c2,hw];rfl
   ·have eg:grpT c.Group=40::(Lib.join (c.Group.map Lib.itoa) [43]++[41]):=by unfold grpT;rw[if_neg hg]
    rw[eg];generalize hJ:Lib.join (c.Group.map Lib.itoa) [43]=J;have eH:kt c.Kind++40::(J++[41])=(kt c.Kind++40::J)++[41]:=by simp
    have c1:zi (kt c.Kind++40::(J++[41])) [43,76,70,108]=(kt c.Kind++40::(J++[41]),false):=by
     rw[yds,eH,yvi,ype _ _ (yvi _)]
    have c2:zd (kt c.Kind++40::(J++[41])) [40]=(kt c.Kind,J++[41],true):=by rw[yrs,y0d _ _ 40 h40]
    have c3:zi (J++[41]) [41]=(J,true):=by rw[yds,ydc,yrc]
    have c4:zf J [43]=c.Group.map Lib.itoa:=by
     show y9 43 J=_;rw[<- hJ];exact ywp _ hg g2
    have hw:=y6n c.Kind hk (yjj (kt c.Kind++40::(J++[41]))) (fun s=>by unfold yjj;rw[c1];simp only;rw[c2]);have hg4:∀ s,yf (yqr (kt c.Kind++40::(J++[41])) s) ((c.Group.map Lib.itoa).length-0) 0 []=.ok c.Group:=fun s=>ya7 c.Group g2 (fun _ _=>({ Kind:=0,Group:=[],Letter:=[],Colors:=[],Period:=0:Character },false)) _ (fun i t=>by unfold yqr;rw[c1];simp only;rw[c2];simp only;rw[c3];simp only;rw[c4])
    unfold zq;rw[c1];simp only;rw[c2];simp only;rw[c3];simp only;rw[c4,hw];simp only[hg4,e8,cond_false,Bool.not_true]
  ·obtain⟨l1,l2⟩:=yx3 c h h8 hL
   rw[if_neg hL];have hg:c.Group≠[]:=by rw[l2];simp
   have eg:grpT c.Group=40::(Lib.join (c.Group.map Lib.itoa) [43]++[41]):=by unfold grpT;rw[if_neg hg]
   rw[eg];generalize hJ:Lib.join (c.Group.map Lib.itoa) [43]=J;have eH:kt c.Kind++(40::(J++[41])++[43,76,70,108])=(kt c.Kind++40::(J++[41]))++[43,76,70,108]:=by simp
   rw[eH,l1]
   have c1:zi ((kt c.Kind++40::(J++[41]))++[43,76,70,108]) [43,76,70,108]=(kt c.Kind++40::(J++[41]),true):=by
    rw[yds,ydc,yrc]
   have c2:zd (kt c.Kind++40::(J++[41])) [40]=(kt c.Kind,J++[41],true):=by rw[yrs,y0d _ _ 40 h40]
   have c3:zi (J++[41]) [41]=(J,true):=by rw[yds,ydc,yrc]
   have c4:zf J [43]=c.Group.map Lib.itoa:=by
    show y9 43 J=_;rw[<- hJ];exact ywp _ hg g2
   have hw:=y6n c.Kind hk (y8r ((kt c.Kind++40::(J++[41]))++[43,76,70,108])) (fun s=>by unfold y8r;rw[c1];simp only;rw[c2]);have hg4:∀ s,yf (yrr ((kt c.Kind++40::(J++[41]))++[43,76,70,108]) s) ((c.Group.map Lib.itoa).length-0) 0 []=.ok c.Group:=fun s=>ya7 c.Group g2 (fun _ _=>({ Kind:=0,Group:=[],Letter:=[],Colors:=[],Period:=0:Character },false)) _ (fun i t=>by unfold yrr;rw[c1];simp only;rw[c2];simp only;rw[c3];simp only;rw[c4])
   unfold zq;rw[c1];simp only;rw[c2];simp only;rw[c3];simp only;rw[c4,hw];simp only[hg4,e8,cond_false,cond_true,Bool.not_true]
def zqf (a0:Point):(List UInt8):=
 (bif (!(zpd a0))then[]else((zo a0.X)++[44])++(zo a0.Y))
namespace N60
theorem DD:DOk Tryz.prog (Go.Ab.DD [(24,dP D_zo),(86,dP D_zpd)]):=ya y3f.e <| ya yum.e <| yd _
theorem dn:type_of% (And.intro @D_zo.eq_1 <| @D_zpd.eq_1):=by and_intros<;>intros<;>rfl
theorem gr {p:Prop} (h:p:=by(grind [ypd]);first|done|fail):p:=h
theorem o0 {p:Prop} (h:p:=by(first|(have h9:=yn5 (p:=a0) (by assumption);have l1:=ypd a0.X;have l2:=ypd a0.Y;(repeat' with_reducible apply And.intro)<;>(first|omega|assumption|(simp only[List.length_append,List.length_cons,List.length_nil,List.length_singleton];omega)|(refine Nat.le_trans (ynj _ _) ?_;simp only[jl,List.length_cons,List.length_nil];omega))));first|done|fail):p:=h
set_option maxHeartbeats 1000000 in
set_option maxRecDepth 20000 in
theorem den (a0:Point)  : Den Tryz.prog 60 [.agg (ytf a0)] (.str (zqf a0)):=by
 generalize hR:zqf a0=r;unfold zqf at hR;refine di Tryz.func60 Tryz.ntmps60 Tryz.results60 ?_;intro c hL hc hk;clear hL;simp only[pars,Nat.zero_add];iterate 2 refine rS ?_
 refine AWP.cond rfl (fun hb => ?_) (fun hb => ?_)
 ·replace hR:=ct hR
  refine rS ?_;refine AWP.ret ?_;subst hR;exact es
 ·replace hR:=cf hR
  refine rD 7 ?_;refine AWP.ret ?_;subst hR;exact es
end N60
def D_zqf : DF
 | [x0]=>some (.str (zqf (rdG yom x0)),false,[wG ytf yom x0])
 | _=>none
theorem yd1:OkD Tryz.prog 60 D_zqf:=by unfold D_zqf;exact dk N60.den
def zpc (a0:Mark):(List UInt8):=
 (bif (!(zzc a0))then[]else(bif (a0.Kind == 0)then(zrd 0)else(bif (a0.Topmark == [])then(zic [(zrd a0.Kind),a0.Colors,a0.Shape,[45]] [32])else(zic [(zrd a0.Kind),a0.Colors,a0.Shape,a0.Topmark] [32]))))
namespace N61
theorem DD:DOk Tryz.prog (Go.Ab.DD [(102,dP D_zrd),(59,dP D_zic),(88,dP D_zzc)]):=ya ydn.e <| ya y6i.e <| ya ywm.e <| yd _
theorem dn:type_of% (And.intro @D_zrd.eq_1 <| And.intro @D_zic.eq_1 <| @D_zzc.eq_1):=by and_intros<;>intros<;>rfl
theorem o0 {p:Prop} (h:p:=by(first|(have h9:=ypx (m:=a0) (by assumption);have l1:=y6w a0.Kind;(repeat' with_reducible apply And.intro)<;>(first|omega|assumption|(simp only[List.length_append,List.length_cons,List.length_nil,List.length_singleton];omega)|(refine Nat.le_trans (ynj _ _) ?_;simp only[jl,List.length_cons,List.length_nil];omega))));first|done|fail):p:=h
theorem lx {p:Prop} (h:p:=by(exact lxx);first|done|fail):p:=h
set_option maxHeartbeats 1000000 in
set_option maxRecDepth 20000 in
theorem den (a0:Mark) (hb0:bdMark a0):Den Tryz.prog 61 [.agg (yqk a0)] (.str (zpc a0)):=by
 generalize hR:zpc a0=r;unfold zpc at hR;refine di Tryz.func61 Tryz.ntmps61 Tryz.results61 ?_;intro c hL hc hk;obtain⟨hL0,_⟩:=hL;have hw0:bwMark a0:=y4p a0 hL0;clear hL0;simp only[pars,Nat.zero_add];iterate 2 refine rS ?_
 refine AWP.cond rfl (fun hb => ?_) (fun hb => ?_)
 ·replace hR:=ct hR
  refine rS ?_;refine AWP.ret ?_;subst hR;exact es
 ·replace hR:=cf hR
  refine rS ?_;refine AWP.cond rfl (fun hb => ?_) (fun hb => ?_)
  ·replace hR:=ct hR
   refine rS ?_;refine AWP.ret ?_;subst hR;exact es
  ·replace hR:=cf hR
   iterate 2 refine rS ?_
   refine AWP.cond rfl (fun hb => ?_) (fun hb => ?_)
   ·replace hR:=ct hR
    refine rS ?_;refine rD 8 ?_;refine AWP.ret ?_;subst hR;exact es
   ·replace hR:=cf hR
    refine rD 8 ?_;refine AWP.ret ?_;subst hR;exact es
end N61
def D_zpc : DF
 | [x0]=>some (.str (zpc (rdG yno x0)),false,[wG yqk yno x0,bdMark (rdG yno x0)])
 | _=>none
theorem ylv:OkD Tryz.prog 61 D_zpc:=by unfold D_zpc;exact dk N61.den
def yel (a0:(List Sector)) (i1:Nat) (s1:List (List UInt8)):Except ((List UInt8)) (List (List UInt8)):=
 .ok (s1++[(((zo ((a0.getD i1 default).From))++[45])++(zo ((a0.getD i1 default).To)))++((a0.getD i1 default).Color)])
def zwc (a0:(List Sector)):(List UInt8):=
 (bif (!(zhb a0))then[]else(bif ((a0.length:Int) == 0)then[45]else(match yf (yel a0) (a0.length-0) 0 ([]:List (List UInt8))with|.error e=>e|.ok s1=>(zic s1 [44]))))
namespace N62
theorem DD:DOk Tryz.prog (Go.Ab.DD [(24,dP D_zo),(59,dP D_zic),(98,dP D_zhb)]):=ya y3f.e <| ya y6i.e <| ya y3m.e <| yd _
theorem dn:type_of% (And.intro @D_zo.eq_1 <| And.intro @D_zic.eq_1 <| @D_zhb.eq_1):=by and_intros<;>intros<;>rfl
theorem gr {p:Prop} (h:p:=by(grind [ypd]);first|done|fail):p:=h
theorem o0 {p:Prop} (h:p:=by(first|((have h8:=hsr (by assumption);have h9:=h8.2 i1;have l1:=ypd (a0.getD i1 default).From;have l2:=ypd (a0.getD i1 default).To;(repeat' with_reducible apply And.intro)<;>(first|omega|assumption|(simp only[List.length_append,List.length_cons,List.length_nil,List.length_singleton];omega)|(refine Nat.le_trans (ynj _ _) ?_;simp only[jl,List.length_cons,List.length_nil];omega))))|(have h8:=hsr (by assumption);obtain⟨w1,w2⟩:=hW1;have h9:=y2i [44] s1 1000 w2;simp only[List.length_singleton]at h9;(repeat' with_reducible apply And.intro)<;>omega));first|done|fail):p:=h
set_option maxHeartbeats 1000000 in
set_option maxRecDepth 20000 in
theorem den (a0:(List Sector)) (hb0:a0.length<1099511627776) (hb1:∀ v∈a0,bdSector v):Den Tryz.prog 62 [encL 3 yx a0] (.str (zwc a0)):=by
 generalize hR:zwc a0=r;unfold zwc at hR;refine di Tryz.func62 Tryz.ntmps62 Tryz.results62 ?_;intro c hL hc hk;obtain⟨hL0,_⟩:=hL;have hw0:a0.length<9223372036854775808:=Nat.lt_succ_of_le (yc hL0).1;have hw1:∀ v∈a0,bwSector v:=fun v hv=>yob v ((yc hL0).2 v hv)
 clear hL0;simp only[pars,Nat.zero_add];have hsr:=fun h=>y0z (a:=a0) hb0 h
 iterate 2 refine rS ?_
 refine AWP.cond rfl (fun hb => ?_) (fun hb => ?_)
 ·replace hR:=ct hR
  refine rS ?_;refine AWP.ret ?_;subst hR;exact es
 ·replace hR:=cf hR
  refine rS ?_;refine AWP.cond rfl (fun hb => ?_) (fun hb => ?_)
  ·replace hR:=ct hR
   refine rS ?_;refine AWP.ret ?_;subst hR;exact es
  ·replace hR:=cf hR
   iterate 2 refine rS ?_
   refine AWP.block ?_;generalize hz1:yf (yel a0) (a0.length-0) 0 ([]:List (List UInt8))=z1 at hR;refine AWP.range (yel a0) (fun i1 s1=>⟨[(3,.ref 0 1 0 s1.length),(13,encL 3 yx a0),(14,.int .i64 (a0.length:Int)),(15,.int .i64 (i1:Int))],[.arr 9 1 s1.length (fun j=>eS (s1.getD j default))]⟩) (fun i1 s1=>s1.length<=i1/\∀ v∈s1,v.length<=1000) (a0.length) 0 ([]:List (List UInt8)) [0] hz1 ot wt sm ?_;clear hz1;intro i1 s1 hi1 hW1 hz1;refine rS ?_;refine AWP.seq ?_;refine AWP.cond rfl (fun hb => ?_) (fun hb => ?_)
   ·have hlt1:i1<a0.length:=ot
    rw[yk hlt1]at hz1;simp only[yel]at hz1;refine rS ?_;refine AWP.regP mixed G_ok DD hc 13 [0,1,2,3,4,5,6,7,8,9,10,11] (.alt 12 [] [0,1,2,5] .leaf .stop) (by kernel_rfl) (by kernel_rfl) (by kernel_rfl) (fun K hK => ?_);simp only[yxh,runN,runP,ycc,nthO,ea,absV,absVL,cput,gv,sv,dn,reduceCtorEq,reduceIte,Nat.reduceBEq,Nat.reduceAdd,Nat.reduceEqDiff,Nat.reduceLT,Nat.reduceLeDiff,Nat.reduceMul,Nat.reduceSub,BEq.rfl,beq_self_eq_true,Int.reduceToNat];repeat' apply And.intro
    all_goals first|refine hK _ ?_|exact ot
    all_goals clear hK K
    refine rS ?_;exact⟨_,[3],hlt1,by(have h8:=hsr (by assumption);have h9:=h8.2 i1;have l1:=ypd (a0.getD i1 default).From;have l2:=ypd (a0.getD i1 default).To;obtain⟨w1,w2⟩:=hW1;(repeat' with_reducible apply And.intro)<;>first|(simp only[List.length_append,List.length_cons,List.length_nil,List.length_singleton];omega)|(intro v hv;exact(List.mem_append.1 hv).elim (fun h=>w2 v h) (fun h=>by rw[List.mem_singleton]at h;subst h;simp only[List.length_append,List.length_cons,List.length_nil,List.length_singleton];omega))),hz1,sm⟩
   ·obtain rfl:i1=a0.length:=ot
    rw[yl (Nat.le_refl _)]at hz1;subst hz1;dsimp only at hR;refine AWP.exit ?_;refine yb ?_;refine rS ?_;refine AWP.ret ?_;subst hR;exact es
end N62
def D_zwc : DF
 | [x0]=>some (.str (zwc (rdL yab x0)),false,[wL 3 yx yab x0,(rdL yab x0).length<1099511627776,∀ v∈(rdL yab x0),bdSector v])
 | _=>none
theorem ykt:OkD Tryz.prog 62 D_zwc:=by unfold D_zwc;exact dk N62.den
def scT (s:Sector):List UInt8:=Lib.itoa s.From++(45::(Lib.itoa s.To++s.Color))
def scsT (a:List Sector):List UInt8:=if a=[]then[45]else Lib.join (a.map scT) [44]
theorem yjs {a:List Sector} (h:zpb a=true):zwc a=scsT a:=by
 have hr:=y1e h;unfold zwc scsT;rw[ysb a (by omega),h];simp only[Bool.not_true,cond_false];by_cases ha:a=[]
 ·rw[ha];rfl
 ·have hp:0<a.length:=List.length_pos_iff.2 ha
  rw[if_neg ha,show((a.length:Int) == 0)=false by rw[beq_eq_false_iff_ne];omega,cond_false]
  have hl:=y3e (yel a) (fun j=>[scT (a.getD j default)]) a.length 0 [] (fun j s _ _=>by
   unfold yel scT
   simp[yw5])
  rw[yyg a default scT,List.nil_append]at hl;rw[Nat.sub_zero,hl];rfl
theorem y83 {a:List Sector} (h:zpb a=true):(scsT a).length<=120:=by
 have hr:=y1e h;unfold scsT;split
 ·simp
 ·have h1:=y2i [44] (a.map scT) 8 (fun x hx=>by
   obtain⟨s,hs,rfl⟩:=List.mem_map.1 hx;obtain⟨i,hi,e⟩:=List.getElem_of_mem hs;have h9:=hr.2 i;have hg:a.getD i default=s:=by rw[List.getD_eq_getElem?_getD,List.getElem?_eq_getElem hi,e];rfl
   rw[hg]at h9;have h1:=y0c s.From 2 (by omega) (by show s.From<(1000:Int);omega);have h2:=y0c s.To 2 (by omega) (by show s.To<(1000:Int);omega);unfold scT;simp only[List.length_append,List.length_cons]
   omega)
  rw[List.length_map]at h1;simp only[List.length_singleton]at h1;have:a.length * (8+1)<=12 * 9:=Nat.mul_le_mul hr.1 (by omega);omega
theorem y9e {ρ σ : Type} {b : Nat -> σ -> Except ρ σ} {e0 : ρ} (h : ∀ j s e, b j s = .error e -> e = e0) : ∀ (n i : Nat) (s : σ) (e : ρ), yf b n i s = .error e -> e = e0
 | 0,i,s,e,he=>by simp[yf]at he
 | n+1,i,s,e,he=>by
  simp only[yf]at he
  cases hb:b i s with
  | error e'=>
   rw[hb]at he;have he:e'=e:=by simpa using he
   rw[<- he];exact h _ _ _ hb
  | ok s'=>rw[hb]at he;exact y9e h n (i+1) s' e he
theorem ymm {c:Character} (h:zgb c=true):c.Colors.length<=3:=by
 unfold zgb at h
 cases h1:((!(zcc c.Colors)) || (!(zob c)))with
 | true=>rw[h1]at h;cases h
 | false=>
  rw[Bool.or_eq_false_iff]at h1;have h2:zcc c.Colors=true:=by simpa using h1.1
  unfold zcc at h2
  have he:=y9e (b:=y7g c.Colors) (e0:=false) (fun j s e h=>by
   unfold y7g at h;rw[Bool.cond_eq_ite]at h;split at h
   ·simpa using h.symm
   ·cases h) (c.Colors.length-0) 0 (-1)
  generalize yf (y7g c.Colors) (c.Colors.length-0) 0 (-1)=z at h2 he
  cases z with
  | error e=>have:=he e rfl;subst this;cases h2
  | ok s=>simp[zg]at h2;omega
theorem y23 {c:Character} (h:zgb c=true):(chrT c).length<=40:=by
 have hf:=yoc c h;have hv:=ygd c h;have hk:=ymf c hf;have hp:=y6d c h;have hc:=ymm h
 have hK:(kt c.Kind).length<=3:=by
  rcases(show c.Kind=1\/c.Kind=2\/c.Kind=3\/c.Kind=4\/c.Kind=5\/c.Kind=6\/c.Kind=7\/c.Kind=8 by omega)with e|e|e|e|e|e|e|e<;>rw[e]<;>decide
 have hg:(grpT c.Group).length<=10:=by
  unfold grpT;split
  ·simp
  ·have h1:=y2i [43] (c.Group.map Lib.itoa) 1 (fun x hx=>by
    obtain⟨s,hs,rfl⟩:=List.mem_map.1 hx;have:=hv.2.1 s hs
    exact y0c s 0 (by omega) (by show s<(10:Int);omega))
   rw[List.length_map,List.length_singleton]at h1;simp only[List.length_append,List.length_cons,List.length_nil];omega
 have hs:(perT c.Period).length<=8:=by
  unfold perT secT;split
  ·simp
  ·have h1:=y0c (c.Period / 10) 1 (by omega) (by show c.Period / 10<(100:Int);omega)
   have h2:=y0c (c.Period % 10) 0 (by omega) (by show c.Period % 10<(10:Int);omega);split<;>simp only[List.length_append,List.length_cons,List.length_nil]<;>omega
 have hh:(yri c).length<=17:=by
  unfold yri;split
  ·rename_i h8
   have h9:=y8p c hf h8;have:(kt 8).length=2:=rfl;simp only[List.length_append,List.length_cons,List.length_nil];omega
  ·split<;>simp only[List.length_append,List.length_cons,List.length_nil]<;>omega
 unfold chrT;simp only[List.length_append,List.length_cons];omega
def zod (a0:(List UInt8)):(Character×Bool):=
 (bif (zd ((zd a0 [32]).2.1) [32]).2.2 then(bif (((!((zq ((zd a0 [32]).1)).2 && (zge (zud ((zd ((zd a0 [32]).2.1) [32]).2.1) [115])).2)) || (!(zgb ({ Kind:=((zq ((zd a0 [32]).1)).1).Kind,Group:=((zq ((zd a0 [32]).1)).1).Group,Letter:=((zq ((zd a0 [32]).1)).1).Letter,Colors:=(zd ((zd a0 [32]).2.1) [32]).1,Period:=(zge (zud ((zd ((zd a0 [32]).2.1) [32]).2.1) [115])).1:Character })))) || ((znd ({ Kind:=((zq ((zd a0 [32]).1)).1).Kind,Group:=((zq ((zd a0 [32]).1)).1).Group,Letter:=((zq ((zd a0 [32]).1)).1).Letter,Colors:=(zd ((zd a0 [32]).2.1) [32]).1,Period:=(zge (zud ((zd ((zd a0 [32]).2.1) [32]).2.1) [115])).1:Character })) != a0))then({ Kind:=0,Group:=[],Letter:=[],Colors:=[],Period:=0:Character },false)else({ Kind:=((zq ((zd a0 [32]).1)).1).Kind,Group:=((zq ((zd a0 [32]).1)).1).Group,Letter:=((zq ((zd a0 [32]).1)).1).Letter,Colors:=(zd ((zd a0 [32]).2.1) [32]).1,Period:=(zge (zud ((zd ((zd a0 [32]).2.1) [32]).2.1) [115])).1:Character },true))else(bif (((!((zq ((zd a0 [32]).1)).2)) || (!(zgb ({ Kind:=((zq ((zd a0 [32]).1)).1).Kind,Group:=((zq ((zd a0 [32]).1)).1).Group,Letter:=((zq ((zd a0 [32]).1)).1).Letter,Colors:=(zd ((zd a0 [32]).2.1) [32]).1,Period:=((zq ((zd a0 [32]).1)).1).Period:Character })))) || ((znd ({ Kind:=((zq ((zd a0 [32]).1)).1).Kind,Group:=((zq ((zd a0 [32]).1)).1).Group,Letter:=((zq ((zd a0 [32]).1)).1).Letter,Colors:=(zd ((zd a0 [32]).2.1) [32]).1,Period:=((zq ((zd a0 [32]).1)).1).Period:Character })) != a0))then({ Kind:=0,Group:=[],Letter:=[],Colors:=[],Period:=0:Character },false)else({ Kind:=((zq ((zd a0 [32]).1)).1).Kind,Group:=((zq ((zd a0 [32]).1)).1).Group,Letter:=((zq ((zd a0 [32]).1)).1).Letter,Colors:=(zd ((zd a0 [32]).2.1) [32]).1,Period:=((zq ((zd a0 [32]).1)).1).Period:Character },true)))
namespace N69
theorem DD:DOk Tryz.prog (Go.Ab.DD [(109,dP D_zq),(110,dP D_zge),(111,dP D_zud),(49,dP D_zd),(58,dP D_znd),(96,dP D_zgb)]):=ya ye6.e <| ya ys2.e <| ya yc2.e <| ya yke.e <| ya ywt.e <| ya yfn.e <| yd _
theorem dn:type_of% (And.intro @D_zq.eq_1 <| And.intro @D_zge.eq_1 <| And.intro @D_zud.eq_1 <| And.intro @D_zd.eq_1 <| And.intro @D_znd.eq_1 <| @D_zgb.eq_1):=by and_intros<;>intros<;>rfl
theorem gr {p:Prop} (h:p:=by(grind [yqy,ykc]);first|done|fail):p:=h
theorem o0 {p:Prop} (h:p:=by(first|(and_intros<;>first|omega|(intros;omega)|(intros;and_intros<;>first|omega|(show List.length _<_;simp only;omega))|(refine⟨?_,?_,?_⟩<;>(simp only;omega))));first|done|fail):p:=h
set_option maxHeartbeats 1000000 in
set_option maxRecDepth 20000 in
theorem den (a0:(List UInt8)) (hb0:a0.length<1099511627776) (hp0:a0.length<=1048576):Den Tryz.prog 69 [.str a0] (.tup [.agg (ypb ((zod a0).1)),.bool ((zod a0).2)]):=by
 generalize hR:zod a0=r;unfold zod at hR;refine di Tryz.func69 Tryz.ntmps69 Tryz.results69 ?_;intro c hL hc hk;obtain⟨hL0,_⟩:=hL;have hw0:a0.length<9223372036854775808:=Nat.lt_succ_of_le hL0;clear hL0;simp only[pars,Nat.zero_add];have c1:=ykc a0 [32];have c2:=ykc (zd a0 [32]).2.1 [32];have c3:=yqy (zd (zd a0 [32]).2.1 [32]).2.1 [115];have hrh:=yhs (zd a0 [32]).1 (by omega);obtain⟨hr1,hr2,hr3⟩:=hrh;iterate 6 refine rS ?_
 refine AWP.cond rfl (fun hb => ?_) (fun hb => ?_)
 ·replace hR:=ct hR
  iterate 4 refine rS ?_
  refine AWP.cond rfl (fun hb => ?_) (fun hb => ?_)
  ·replace hR:=ct hR
   refine rS ?_;refine AWP.ret ?_;subst hR;exact es
  ·replace hR:=cf hR
   refine rS ?_;refine AWP.ret ?_;subst hR;exact es
 ·replace hR:=cf hR
  refine rS ?_;refine AWP.cond rfl (fun hb => ?_) (fun hb => ?_)
  ·replace hR:=ct hR
   refine rS ?_;refine AWP.ret ?_;subst hR;exact es
  ·replace hR:=cf hR
   refine rS ?_;refine AWP.ret ?_;subst hR;exact es
end N69
def D_zod : DF
 | [x0]=>some (.tup [.agg (ypb ((zod (rdS x0)).1)),.bool ((zod (rdS x0)).2)],false,[wS x0,(rdS x0).length<1099511627776,(rdS x0).length<=1048576])
 | _=>none
theorem y5z:OkD Tryz.prog 69 D_zod:=by unfold D_zod;exact dk N69.den
theorem y37 (a b:List UInt8):zud a b=Lib.trimSuffix a b:=rfl
theorem yey (s:List UInt8) (h:zmc s=true):(32:UInt8)∉s:=by
 intro hm;obtain⟨i,hi,he⟩:=List.getElem_of_mem hm;unfold zmc at h
 cases hl:yf (yfh s) (s.length-0) 0 ()with
 | error e=>
  rw[hl]at h;obtain⟨j,t,_,_,h3⟩:=yvb hl;unfold yfh at h3;simp only[Bool.cond_eq_ite]at h3;split at h3
  ·cases h3;simp at h
  ·cases h3
 | ok u=>
  have hk:=yof (fun k (_:Unit)=>∀ j,j<k->zug ((s.getD j 0).toNat:Int)≠0) hl (by intro j hj;omega) (fun j u v _ _ hI hv=>by
   unfold yfh at hv;simp only[Bool.cond_eq_ite]at hv;split at hv
   ·cases hv
   ·rename_i hn
    simp only[Bool.or_eq_true,beq_iff_eq,not_or]at hn;intro q hq;by_cases hqj:q=j
    ·subst hqj;exact hn.1
    ·exact hI q (by omega))
  have:=hk i (by omega);rw[List.getD_eq_getElem?_getD,List.getElem?_eq_getElem hi,Option.getD_some,he]at this;exact this rfl
theorem yk5 (c:Character) (h:zob c=true):(32:UInt8)∉yri c:=by
 have hk:=ymf c h;obtain⟨g1,g2⟩:=yle c h;have h32:=(yi7 c.Kind hk).2;unfold yri;by_cases h8:c.Kind=8
 ·rw[if_pos h8]
  obtain⟨_,f2,f3,f4⟩:=y8p c h h8;obtain⟨x,hx⟩:=List.length_eq_one_iff.1 f2;rw[hx]at f3 f4 ⊢;simp only[List.getD_cons_zero]at f3 f4;intro hm;simp only[List.mem_append,List.mem_cons,List.not_mem_nil,or_false]at hm;rcases hm with hm|hm|hm|hm
  ·exact absurd hm (by decide)
  ·exact absurd hm (by decide)
  ·subst hm;exact absurd f3 (by decide)
  ·exact absurd hm (by decide)
 ·rw[if_neg h8]
  intro hm;rcases List.mem_append.1 hm with hm|hm
  ·exact h32 hm
  ·rcases List.mem_append.1 hm with hm|hm
   ·unfold grpT at hm
    split at hm
    ·simp at hm
    ·rcases List.mem_cons.1 hm with hm|hm
     ·exact absurd hm (by decide)
     ·rcases List.mem_append.1 hm with hm|hm
      ·refine ysy 32 (by decide) (c.Group.map Lib.itoa) (fun y hy => ?_) hm
       obtain⟨z,hz,rfl⟩:=List.mem_map.1 hy;exact yoe (by have:=g2 z hz;omega) 32 (by decide)
      ·rw[List.mem_singleton]at hm;exact absurd hm (by decide)
   ·split at hm
    ·simp at hm
    ·exact absurd hm (by decide)
theorem yei (c:Character) (h:zgb c=true) (hl:c.Colors.length<9223372036854775808):zmc c.Colors=true:=by
 unfold zgb at h;rw[yhp _ hl]at h
 cases hc:zmc c.Colors with
 | true=>rfl
 | false=>rw[hc]at h;simp at h
theorem y4x (c:Character) (h:zgb c=true) (hl:c.Colors.length<9223372036854775808):zod (chrT c)=(c,true):=by
 have hf:=yoc c h;have hr:=y0y c hf;have hp:=y6d c h;have hp2:=(ygd c h).2.2;have hcol:=yey _ (yei c h hl)
 have c1:zd (chrT c) [32]=(yri c,c.Colors++perT c.Period,true):=by
  rw[yrs];unfold chrT;rw[y0d _ _ 32 (yk5 c hf)]
 have htext:=yek c h;unfold zod;rw[c1];simp only;by_cases h0:c.Period=0
 ·have c2:zd (c.Colors++perT c.Period) [32]=(c.Colors,[],false):=by
   rw[h0,show perT 0=[]from rfl,List.append_nil,yrs,y5n _ 32 hcol]
  rw[c2,hr];simp only[cond_false];have ec:({ Kind:=c.Kind,Group:=c.Group,Letter:=c.Letter,Colors:=c.Colors,Period:=0:Character })=c:=by rw[<- h0]
  simp only[ec,h,htext];simp
 ·have e2:perT c.Period=32::(secT c.Period++[115]):=by unfold perT;rw[if_neg h0]
  have c2:zd (c.Colors++perT c.Period) [32]=(c.Colors,secT c.Period++[115],true):=by
   rw[e2,yrs,y0d _ _ 32 hcol]
  have c3:zud (secT c.Period++[115]) [115]=secT c.Period:=by rw[y37,ydc]
  rw[c2,hr];simp only[cond_true];rw[c3,y00 _ (by omega) hp2];have ec:({ Kind:=c.Kind,Group:=c.Group,Letter:=c.Letter,Colors:=c.Colors,Period:=c.Period:Character })=c:=rfl;simp only[ec,h,htext];simp
theorem yyn (a:List UInt8):zod a=({ Kind:=0,Group:=[],Letter:=[],Colors:=[],Period:=0:Character },false)\/∃ c,zgb c=true/\znd c=a/\zod a=(c,true):=by
 unfold zod
 cases(zd ((zd a [32]).2.1) [32]).2.2 with
 | true=>
  simp only[cond_true];generalize hc:({ Kind:=((zq ((zd a [32]).1)).1).Kind,Group:=((zq ((zd a [32]).1)).1).Group,Letter:=((zq ((zd a [32]).1)).1).Letter,Colors:=(zd ((zd a [32]).2.1) [32]).1,Period:=(zge (zud ((zd ((zd a [32]).2.1) [32]).2.1) [115])).1:Character })=c
  cases hv:zgb c with
  | false=>left;simp
  | true=>
   by_cases ht:znd c=a
   ·cases hq:((zq ((zd a [32]).1)).2 && (zge (zud ((zd ((zd a [32]).2.1) [32]).2.1) [115])).2)with
    | true=>right;exact⟨c,hv,ht,by simp[ht]⟩
    | false=>left;simp
   ·left
    have:(znd c != a)=true:=by simpa using ht
    rw[this];simp
 | false=>
  simp only[cond_false];generalize hc:({ Kind:=((zq ((zd a [32]).1)).1).Kind,Group:=((zq ((zd a [32]).1)).1).Group,Letter:=((zq ((zd a [32]).1)).1).Letter,Colors:=(zd ((zd a [32]).2.1) [32]).1,Period:=((zq ((zd a [32]).1)).1).Period:Character })=c
  cases hv:zgb c with
  | false=>left;simp
  | true=>
   by_cases ht:znd c=a
   ·cases hq:(zq ((zd a [32]).1)).2 with
    | true=>right;exact⟨c,hv,ht,by simp[ht]⟩
    | false=>left;simp
   ·left
    have:(znd c != a)=true:=by simpa using ht
    rw[this];simp
def zwd (a0:(List UInt8)):(Mark×Bool):=
 (bif (a0 == (zrd 0))then({ Kind:=0,Colors:=[],Shape:=[],Topmark:=[]:Mark },true)else(bif (((zcb a0).length:Int) != 4)then({ Kind:=0,Colors:=[],Shape:=[],Topmark:=[]:Mark },false)else(bif (((zcb a0).getD 3 default) == [45])then(bif (((!((zgd ((zcb a0).getD 0 default)).2)) || (!(zzc ({ Kind:=(zgd ((zcb a0).getD 0 default)).1,Colors:=((zcb a0).getD 1 default),Shape:=((zcb a0).getD 2 default),Topmark:=[]:Mark })))) || ((zpc ({ Kind:=(zgd ((zcb a0).getD 0 default)).1,Colors:=((zcb a0).getD 1 default),Shape:=((zcb a0).getD 2 default),Topmark:=[]:Mark })) != a0))then({ Kind:=0,Colors:=[],Shape:=[],Topmark:=[]:Mark },false)else({ Kind:=(zgd ((zcb a0).getD 0 default)).1,Colors:=((zcb a0).getD 1 default),Shape:=((zcb a0).getD 2 default),Topmark:=[]:Mark },true))else(bif (((!((zgd ((zcb a0).getD 0 default)).2)) || (!(zzc ({ Kind:=(zgd ((zcb a0).getD 0 default)).1,Colors:=((zcb a0).getD 1 default),Shape:=((zcb a0).getD 2 default),Topmark:=((zcb a0).getD 3 default):Mark })))) || ((zpc ({ Kind:=(zgd ((zcb a0).getD 0 default)).1,Colors:=((zcb a0).getD 1 default),Shape:=((zcb a0).getD 2 default),Topmark:=((zcb a0).getD 3 default):Mark })) != a0))then({ Kind:=0,Colors:=[],Shape:=[],Topmark:=[]:Mark },false)else({ Kind:=(zgd ((zcb a0).getD 0 default)).1,Colors:=((zcb a0).getD 1 default),Shape:=((zcb a0).getD 2 default),Topmark:=((zcb a0).getD 3 default):Mark },true)))))
namespace N68
theorem DD:DOk Tryz.prog (Go.Ab.DD [(102,dP D_zrd),(107,dP D_zcb),(108,dP D_zgd),(61,dP D_zpc),(88,dP D_zzc)]):=ya ydn.e <| ya yr0.e <| ya yg1.e <| ya ylv.e <| ya ywm.e <| yd _
theorem dn:type_of% (And.intro @D_zrd.eq_1 <| And.intro @D_zcb.eq_1 <| And.intro @D_zgd.eq_1 <| And.intro @D_zpc.eq_1 <| @D_zzc.eq_1):=by and_intros<;>intros<;>rfl
set_option maxHeartbeats 1000000 in
set_option maxRecDepth 20000 in
theorem den (a0:(List UInt8)) (hb0:a0.length<1099511627776) (hp0:a0.length<=1048576):Den Tryz.prog 68 [.str a0] (.tup [.agg (yqk ((zwd a0).1)),.bool ((zwd a0).2)]):=by
 generalize hR:zwd a0=r;unfold zwd at hR;refine di Tryz.func68 Tryz.ntmps68 Tryz.results68 ?_;intro c hL hc hk;obtain⟨hL0,_⟩:=hL;have hw0:a0.length<9223372036854775808:=Nat.lt_succ_of_le hL0;clear hL0;simp only[pars,Nat.zero_add];have hs9:=yt6 a0 (by omega);have hs0:=ywg hs9 0;have hs1:=ywg hs9 1;have hs2:=ywg hs9 2;have hs3:=ywg hs9 3;iterate 2 refine rS ?_
 refine AWP.cond rfl (fun hb => ?_) (fun hb => ?_)
 ·replace hR:=ct hR
  refine rS ?_;refine AWP.ret ?_;subst hR;exact es
 ·replace hR:=cf hR
  iterate 2 refine rS ?_
  refine AWP.cond rfl (fun hb => ?_) (fun hb => ?_)
  ·replace hR:=ct hR
   refine rS ?_;refine AWP.ret ?_;subst hR;exact es
  ·replace hR:=cf hR
   iterate 3 refine rS ?_
   refine AWP.cond rfl (fun hb => ?_) (fun hb => ?_)
   ·replace hR:=ct hR
    refine rS ?_;refine AWP.seq ?_;refine AWP.regP mixed G_ok DD hc 10 [0,1,2,3,4,5,6,7,8] (.alt 9 [] [0,1,2,3,4,5,6,7,8] .leaf .stop) (by kernel_rfl) (by kernel_rfl) (by kernel_rfl) (fun K hK => ?_);simp only[yxh,runN,runP,ycc,nthO,ea,absV,absVL,cput,gv,sv,dn,reduceCtorEq,reduceIte,Nat.reduceBEq,Nat.reduceAdd,Nat.reduceEqDiff,Nat.reduceLT,Nat.reduceLeDiff,Nat.reduceMul,Nat.reduceSub,BEq.rfl,beq_self_eq_true,Int.reduceToNat];repeat' apply And.intro
    all_goals first|refine hK _ ?_|exact ot
    all_goals clear hK K
    refine rS ?_;refine AWP.cond rfl (fun hb => ?_) (fun hb => ?_)
    ·replace hR:=ct hR
     refine rS ?_;refine AWP.ret ?_;subst hR;exact es
    ·replace hR:=cf hR
     refine rS ?_;refine AWP.ret ?_;subst hR;exact es
   ·replace hR:=cf hR
    refine AWP.skip ?_;refine AWP.seq ?_;refine AWP.regP mixed G_ok DD hc 10 [0,1,2,3,4,5,6,7,8] (.alt 9 [] [0,1,2,3,4,5,6,7,8] .leaf .stop) (by kernel_rfl) (by kernel_rfl) (by kernel_rfl) (fun K hK => ?_);simp only[yxh,runN,runP,ycc,nthO,ea,absV,absVL,cput,gv,sv,dn,reduceCtorEq,reduceIte,Nat.reduceBEq,Nat.reduceAdd,Nat.reduceEqDiff,Nat.reduceLT,Nat.reduceLeDiff,Nat.reduceMul,Nat.reduceSub,BEq.rfl,beq_self_eq_true,Int.reduceToNat];repeat' apply And.intro
    all_goals first|refine hK _ ?_|exact ot
    all_goals clear hK K
    refine rS ?_;refine AWP.cond rfl (fun hb => ?_) (fun hb => ?_)
    ·replace hR:=ct hR
     refine rS ?_;refine AWP.ret ?_;subst hR;exact es
    ·replace hR:=cf hR
     refine rS ?_;refine AWP.ret ?_;subst hR;exact es
end N68
def D_zwd : DF
 | [x0]=>some (.tup [.agg (yqk ((zwd (rdS x0)).1)),.bool ((zwd (rdS x0)).2)],false,[wS x0,(rdS x0).length<1099511627776,(rdS x0).length<=1048576])
 | _=>none
theorem yk3:OkD Tryz.prog 68 D_zwd:=by unfold D_zwd;exact dk N68.den
abbrev zMark:Mark:={ Kind:=0,Colors:=[],Shape:=[],Topmark:=[]}
def allMarks:List Mark:=zMark::([1,2,3,4,5,6,7,8,9]:List Int).flatMap fun k=>(zqb k).flatMap fun s=>[{ Kind:=k,Colors:=zae k,Shape:=s,Topmark:=[]},{ Kind:=k,Colors:=zae k,Shape:=s,Topmark:=zje k }]
theorem y62 {m:Mark} (h:zmg m=true):m∈allMarks:=by
 unfold allMarks;rcases yhm (m:=m) h with⟨h1,h2,h3,h4⟩|⟨h1,h2,h3,h4⟩
 ·cases m
  simp only at h1 h2 h3 h4;subst h1 h2 h3 h4;exact List.mem_cons_self
 ·refine List.mem_cons_of_mem _ (List.mem_flatMap.2 ⟨m.Kind,?_,List.mem_flatMap.2 ⟨m.Shape,h4,?_⟩⟩)
  ·rcases yag h1 with e|e|e|e|e|e|e|e|e<;>rw[e]<;>decide
  ·cases m
   simp only at h2 h3 ⊢;subst h2;rcases h3 with e|e
   ·rw[e];exact List.mem_cons_self
   ·rw[e];exact List.mem_cons_of_mem _ List.mem_cons_self
theorem ylw (n:Int):∀ b∈Lib.itoa n,b=45\/(48<=b.toNat/\b.toNat<=57):=by
 intro b hb;by_cases h:n<0
 ·rw[ysc h]at hb
  rcases List.mem_cons.1 hb with hb|hb
  ·exact .inl hb
  ·exact .inr ((ydb n.natAbs).1 b hb)
 ·rw[ywd h]at hb
  exact .inr ((ydb n.natAbs).1 b hb)
theorem yov (n:Int) (c:UInt8) (h1:c≠45) (h2:c.toNat<48\/57<c.toNat):c∉Lib.itoa n:=fun h=>by
 rcases ylw n c h with h|h
 ·exact h1 h
 ·omega
theorem y5w (n:Int):Lib.itoa n≠[]:=(yzx n).2
theorem y0q (a:List UInt8) (c:UInt8):zf a [c]=y9 c a:=rfl
theorem cutI (a:List UInt8) (c:UInt8):zd a [c]=Lib.cut a [c]:=rfl
def ybh (a0:(List UInt8)) (i1:Nat) (s1:List Sector):Except (((List Sector)×Bool)) (List Sector):=
 (bif ((((zd ((zf a0 [44]).getD i1 default) [45]).2.1) == []) || (!(zx (s1.length:Int) 12)))then .error ([],false)else(bif ((!((zl ((zd ((zf a0 [44]).getD i1 default) [45]).1)).2)) || (!((zl (((zd ((zf a0 [44]).getD i1 default) [45]).2.1).take ((IntKind.wrap .i64 ((((zd ((zf a0 [44]).getD i1 default) [45]).2.1).length:Int)-1)).toNat))).2)))then .error ([],false)else .ok (s1++[{ From:=(zl ((zd ((zf a0 [44]).getD i1 default) [45]).1)).1,To:=(zl (((zd ((zf a0 [44]).getD i1 default) [45]).2.1).take ((IntKind.wrap .i64 ((((zd ((zf a0 [44]).getD i1 default) [45]).2.1).length:Int)-1)).toNat))).1,Color:=(((zd ((zf a0 [44]).getD i1 default) [45]).2.1).take (((zd ((zf a0 [44]).getD i1 default) [45]).2.1).length)).drop ((IntKind.wrap .i64 ((((zd ((zf a0 [44]).getD i1 default) [45]).2.1).length:Int)-1)).toNat):Sector }])))
def zzb (a0:(List UInt8)):((List Sector)×Bool):=
 (bif (a0 == [45])then([],true)else(match yf (ybh a0) (((zf a0 [44]).length)-0) 0 ([]:List Sector)with|.error e=>e|.ok s1=>(bif ((!(zhb s1)) || ((zwc s1) != a0))then([],false)else(s1,true))))
namespace N70
theorem DD:DOk Tryz.prog (Go.Ab.DD [(23,dP D_zx),(49,dP D_zd),(62,dP D_zwc),(65,dP D_zf),(66,dP D_zl),(98,dP D_zhb)]):=ya yfe.e <| ya yke.e <| ya ykt.e <| ya ypj.e <| ya y9f.e <| ya y3m.e <| yd _
theorem dn:type_of% (And.intro @D_zx.eq_1 <| And.intro @D_zd.eq_1 <| And.intro @D_zwc.eq_1 <| And.intro @D_zf.eq_1 <| And.intro @D_zl.eq_1 <| @D_zhb.eq_1):=by and_intros<;>intros<;>rfl
theorem gr {p:Prop} (h:p:=by(grind [ykc]);first|done|fail):p:=h
theorem o0 {p:Prop} (h:p:=by(first|(obtain⟨q1,q2,q3⟩:=hlo i1 _ (by assumption);have h1:=e1 i1;have h2:=hct i1;(repeat' with_reducible apply And.intro)<;>first|with_reducible assumption|exact q2|(rw[q1];omega)|omega)|(have h1:=e1 i1;have h2:=hct i1;(repeat' with_reducible apply And.intro)<;>first|with_reducible assumption|omega)|(obtain⟨w1,w2,w3⟩:=hW1;(repeat' with_reducible apply And.intro)<;>first|with_reducible assumption|omega)|((repeat' with_reducible apply And.intro)<;>omega));first|done|fail):p:=h
theorem o2 {p:Prop} (h:p:=by(first|((repeat' with_reducible apply And.intro)<;>first|(simp only[List.length_append,List.length_singleton];(first|done|fail))|(rw[IntKind.wrap_i64];omega)|(intro j hj;by_cases hji:j<s1.length;(focus(simp only[yjd hji,yeh hji,cond_true];first|(first|done|fail)|with_reducible rfl));(have e0:j-s1.length=0:=by omega);(simp only[ytd hji hj,y8g hji,cond_false,e0,elt,borrowL,borrow];first|(first|done|fail)|with_reducible rfl))|decide));first|done|fail):p:=h
set_option maxHeartbeats 1000000 in
set_option maxRecDepth 20000 in
theorem den (a0:(List UInt8)) (hb0:a0.length<1099511627776) (hp0:a0.length<=1048576):Den Tryz.prog 70 [.str a0] (.tup [ownL 117 3 yx ((zzb a0).1),.bool ((zzb a0).2)]):=by
 generalize hR:zzb a0=r;unfold zzb at hR;refine di Tryz.func70 Tryz.ntmps70 Tryz.results70 ?_;intro c hL hc hk;obtain⟨hL0,_⟩:=hL;have hw0:a0.length<9223372036854775808:=Nat.lt_succ_of_le hL0;clear hL0;simp only[pars,Nat.zero_add];have e1:=fun i=>ycj a0 44 i
 have e2:=y70 a0 44;have hct:=fun i:Nat=>ykc ((zf a0 [44]).getD i default) [45]
 have hlo:∀ (i:Nat) (b:Bool),((((zd ((zf a0 [44]).getD i default) [45]).2.1) == []) || b)=false->_:=fun i b h=>yh6 (y:=(zd ((zf a0 [44]).getD i default) [45]).2.1) (by intro e;rw[e]at h;cases h) (by have h1:=hct i;have h2:=e1 i;omega)
 iterate 2 refine rS ?_
 refine AWP.cond rfl (fun hb => ?_) (fun hb => ?_)
 ·replace hR:=ct hR
  refine rS ?_;refine AWP.ret ?_;subst hR;exact es
 ·replace hR:=cf hR
  iterate 2 refine rS ?_
  refine AWP.block ?_;generalize hz1:yf (ybh a0) (((zf a0 [44]).length)-0) 0 ([]:List Sector)=z1 at hR;refine AWP.range (ybh a0) (fun i1 s1=>⟨[(0,.str a0),(4,.ref 0 3 0 s1.length),(19,.ref 1 1 0 ((zf a0 [44]).length)),(20,.int .i64 ((zf a0 [44]).length:Int)),(21,.int .i64 (i1:Int))],[.arr 117 3 s1.length (fun j=>yx (s1.getD j default)),.arr 9 1 (zf a0 [44]).length (fun j=>eS ((zf a0 [44]).getD j default))]⟩) (fun i1 s1=>s1.length<=([]:List Sector).length+1 * i1/\s1.length<=i1/\∀ v∈s1,bdSector v) (((zf a0 [44]).length)) 0 ([]:List Sector) [0,1] hz1 ot (by(simp)) sm ?_;clear hz1;intro i1 s1 hi1 hW1 hz1;have hV1:=hW1;obtain⟨hV1_0,hV1_1,hV1_2⟩:=hV1;refine rS ?_;refine AWP.seq ?_;refine AWP.cond rfl (fun hb => ?_) (fun hb => ?_)
  ·have hlt1:i1<((zf a0 [44]).length):=ot
   rw[yk hlt1]at hz1;simp only[ybh]at hz1;iterate 3 refine rS ?_
   refine AWP.cond rfl (fun hb => ?_) (fun hb => ?_)
   ·simp only[hb,cond_true]at hz1
    refine rS ?_;refine AWP.ret ?_;subst hz1;dsimp only at hR;subst hR;exact es
   ·simp only[hb,cond_false]at hz1
    iterate 4 refine rS ?_
    refine AWP.cond rfl (fun hb => ?_) (fun hb => ?_)
    ·simp only[hb,cond_true]at hz1
     refine rS ?_;refine AWP.ret ?_;subst hz1;dsimp only at hR;subst hR;exact es
    ·simp only[hb,cond_false]at hz1
     iterate 2 refine rS ?_
     exact⟨_,[3,1],hlt1,by(have h1:=e1 i1;have c1:=hct i1;obtain⟨w0,w1,w2⟩:=hW1;refine⟨by simp only[List.length_append,List.length_cons,List.length_nil,List.length_singleton];omega,by simp only[List.length_append,List.length_cons,List.length_nil,List.length_singleton];omega,fun v hv=>(List.mem_append.1 hv).elim (fun h=>w2 v h) (fun h=>by rw[List.mem_singleton]at h;subst h;show List.length _<1099511627776;simp only[List.length_drop,List.length_take];omega)⟩),hz1,sm⟩
  ·obtain rfl:i1=((zf a0 [44]).length):=ot
   rw[yl (Nat.le_refl _)]at hz1;subst hz1;dsimp only at hR;refine AWP.exit ?_;refine yb ?_;refine rS ?_;refine AWP.cond rfl (fun hb => ?_) (fun hb => ?_)
   ·replace hR:=ct hR
    refine rS ?_;refine AWP.ret ?_;subst hR;exact es
   ·replace hR:=cf hR
    refine rS ?_;refine AWP.ret ?_;subst hR;exact es
end N70
def D_zzb : DF
 | [x0]=>some (.tup [ownL 117 3 yx ((zzb (rdS x0)).1),.bool ((zzb (rdS x0)).2)],false,[wS x0,(rdS x0).length<1099511627776,(rdS x0).length<=1048576])
 | _=>none
theorem yz0:OkD Tryz.prog 70 D_zzb:=by unfold D_zzb;exact dk N70.den
end Go.Ab
