/- A part of a proof: walks of functions and lemmas of our own. No conditions. -/
import Derived.Test.YtijmcongeemehaaGreatDoorFAl
import Derived.Test.YtijmcongeemehaaGreatDoorFAq
import Derived.Test.YtijmcongeemehaaGreatDoorFAk
import Derived.Test.YtijmcongeemehaaGreatDoorFAi
import Derived.Test.YtijmcongeemehaaGreatDoorFAp
import Derived.Test.YtijmcongeemehaaGreatDoorFAm
import Derived.Test.YtijmcongeemehaaGreatDoorFAn
set_option linter.unusedSectionVars false
set_option linter.unusedVariables false
set_option linter.unusedSimpArgs false
set_option maxHeartbeats 1000000
namespace Go.Ab
open Go Go.Proofs
def zjd (a0:Int):(List UInt8):=
 (zzb a0 ([[110,111,110,101],[108,101,102,116],[114,105,103,104,116],[110,111,114,116,104],[101,97,115,116],[115,111,117,116,104],[119,101,115,116],[100,97,110,103,101,114],[115,97,102,101],[115,112,101,99,105,97,108]]:List (List UInt8)))
namespace N147
theorem DD:DOk Tryz.prog (Go.Ab.DD [(227,dP D_zzb)]):=ya y6g.e <| ye _
theorem dn:type_of% (@D_zzb.eq_1):=by and_intros<;>intros<;>rfl
theorem lx {p:Prop} (h:p:=by(exact lxx);first|done|fail):p:=h
theorem den (a0:Int)  : Den Tryz.prog 147 [.int .i64 a0] (.str (zjd a0)):=by
 generalize hR:zjd a0=r;unfold zjd at hR;refine di Tryz.func147 Tryz.ntmps147 Tryz.results147 ?_;intro c hL hc hk;clear hL;simp only[pars,Nat.zero_add];iterate 2 refine rS ?_
 refine AWP.ret ?_;subst hR;exact es
end N147
def D_zjd : DF
 | [x0]=>some (.str (zjd (rdI x0)),false,[wI .i64 x0])
 | _=>none
theorem yfn:OkD Tryz.prog 147 D_zjd:=by unfold D_zjd;exact dk N147.den
theorem yjs (l:List (List UInt8)) (h:∀ x∈l,x.length<=100) (n:Nat):(l.getD n default).length<=100:=by
 rw[List.getD_eq_getElem?_getD]
 cases hg:l[n]? with
 | none=>show(0:Nat)<=100;omega
 | some x=>exact h x (List.mem_of_getElem? hg)
theorem yq0 (k:Int) (l:List (List UInt8)) (h:∀ x∈l,x.length<=100):(zzb k l).length<=100:=by
 unfold zzb;simp only[Bool.cond_eq_ite];split
 ·simp
 ·exact yjs l h _
def ydr (a0:(List Aid)) (a1:Int) (s1:Int):Except (Sum ((Int×Bool)) (Int)) (Int):=
 (bif (decide (s1<(a0.length:Int)) && decide (((a0.getD ((s1).toNat) default).Number)<a1))then .ok (IntKind.wrap .i64 (s1+1))else .error (.inr s1))
def zab (a0:(List Aid)) (a1:Int):(Int×Bool):=
 (match y0 (ydr a0 a1) ((a0.length-((0:Int)).toNat)+1) 0 with|.error (.inl e)=>e|.error (.inr s1)=>(s1,(decide (s1<(a0.length:Int)) && (((a0.getD ((s1).toNat) default).Number) == a1)))|.ok _=>default)
namespace N75
theorem DD:DOk Tryz.prog (Go.Ab.DD []):=ye _
theorem den (a0:(List Aid)) (a1:Int)  : Den Tryz.prog 75 [encL 16 eAid a0,.int .i64 a1] (.tup [.int .i64 ((zab a0 a1).1),.bool ((zab a0 a1).2)]):=by
 generalize hR:zab a0 a1=r;unfold zab at hR;refine di Tryz.func75 Tryz.ntmps75 Tryz.results75 ?_;intro c hL hc hk;obtain⟨hL0,hL1,_⟩:=hL;have hw0:a0.length<9223372036854775808:=Nat.lt_succ_of_le (yc hL0).1;have hw1:∀ v∈a0,bwAid v:=fun v hv=>y5 v ((yc hL0).2 v hv)
 clear hL0 hL1;simp only[pars,Nat.zero_add];iterate 2 refine rS ?_
 refine AWP.seq ?_;refine AWP.block ?_;generalize hz1:y0 (ydr a0 a1) ((a0.length-((0:Int)).toNat)+1) 0=z1 at hR;refine AWP.whileW (ydr a0 a1) (fun s1=>⟨[(0,encL 16 eAid a0),(1,.int .i64 a1),(6,.int .i64 s1)],[]⟩) (fun s1=>0<=s1/\s1<=a0.length) (fun s1=>a0.length-(s1).toNat) ((a0.length-((0:Int)).toNat)+1) 0 [] hz1 m0 wt sm ?_;clear hz1;intro s1 k1 hW1 hm1 hz1;simp only[ydr]at hz1;refine rS ?_;refine AWP.cond rfl (fun hb => ?_) (fun hb => ?_)
 ·simp only[hb,cond_true]at hz1
  refine rS ?_;exact⟨_,[],ms,wt,hz1,sm⟩
 ·simp only[hb,cond_false]at hz1
  refine AWP.exit ?_;refine yb ?_;subst hz1;dsimp only at hR;refine AWP.seq ?_;refine AWP.regP mixed G_ok DD hc 15 [0,1,2,3,4,5,6,7,8,9,10,11,12,13] (.alt 14 [] [6,7,8,9,10,11,12,13] .leaf .stop) (by kernel_rfl) (by kernel_rfl) (by kernel_rfl) (fun K hK => ?_);simp only[ydj,runN,runP,yjc,nthO,ea,absV,absVL,cput,gv,sv,dn,reduceCtorEq,reduceIte,Nat.reduceBEq,Nat.reduceAdd,Nat.reduceEqDiff,Nat.reduceLT,Nat.reduceLeDiff,Nat.reduceMul,Nat.reduceSub,BEq.rfl,beq_self_eq_true,Int.reduceToNat];repeat' apply And.intro
  all_goals first|refine hK _ ?_|exact ot
  all_goals clear hK K
  refine AWP.ret ?_;subst hR;exact es
end N75
def D_zab : DF
 | [x0,x1]=>some (.tup [.int .i64 ((zab (rdL dAid x0) (rdI x1)).1),.bool ((zab (rdL dAid x0) (rdI x1)).2)],false,[wL 16 eAid dAid x0,wI .i64 x1])
 | _=>none
theorem ypj:OkD Tryz.prog 75 D_zab:=by unfold D_zab;exact dk N75.den
def upto (l:List Aid) (n:Int):Nat:=(l.takeWhile (fun x=>decide (x.Number<n))).length
theorem yoe (l:List Aid) (n:Int):upto l n<=l.length:=by unfold upto;exact(List.takeWhile_prefix _).length_le
theorem yvr {ρ : Type} (l : List Aid) (n : Int) (hl : l.length < 9223372036854775808) (b : Int -> Except (Sum ρ Int) Int)
  (hb:∀ s,b s=bif (decide (s<(l.length:Int)) && decide ((l.getD s.toNat default).Number<n))then .ok (IntKind.wrap .i64 (s+1))else .error (.inr s)) :
  ∀ (r p:List Aid) (k:Nat),l=p++r->r.length<k->y0 b k (p.length:Int)=.error (.inr ((p.length+upto r n:Nat):Int))
 | _,_,0,_,h=>absurd h (Nat.not_lt_zero _)
 | [],p,k+1,e,_=>by
  subst e;simp only[y0,hb,List.append_nil,Int.lt_irrefl,decide_false,Bool.false_and,cond_false];simp[upto]
 | x::r,p,k+1,e,hk=>by
  have hg:l.getD ((p.length:Int)).toNat default=x:=by subst e;simp
  have hlt:decide ((p.length:Int)<(l.length:Int))=true:=by subst e;simp;omega
  simp only[y0,hb,hg,hlt,Bool.true_and]
  cases hx:decide (x.Number<n)with
  | false=>simp[upto,List.takeWhile_cons,hx]
  | true=>
   have hw:IntKind.wrap .i64 ((p.length:Int)+1)=((p++[x]).length:Int):=by
    have:p.length<l.length:=by subst e;simp
    have e2:(p++[x]).length=p.length+1:=by simp
    rw[IntKind.wrap_i64,e2];omega
   simp only[cond_true,hw];rw[yvr l n hl b hb r (p++[x]) k (by simp[e]) (by simp at hk;omega)]
   have e3:(p++[x]).length+upto r n=p.length+upto (x::r) n:=by
    simp[upto,List.takeWhile_cons,hx];omega
   rw[e3]
theorem y6u (l:List Aid) (n:Int) (hl:l.length<9223372036854775808):zab l n=((upto l n:Int),decide (upto l n<l.length) && ((l.getD (upto l n) default).Number == n)):=by
 unfold zab;have:=yvr l n hl (ydr l n) (fun s=>rfl) l [] (l.length-(0:Int).toNat+1) rfl (by simp);simp only[List.length_nil,Nat.zero_add]at this;have e0:((0:Nat):Int)=0:=rfl;simp only[e0]at this;rw[this];simp
theorem yyi (l:List Aid) (n:Int) (hl:l.length<9223372036854775808):0<=(zab l n).1/\(zab l n).1<=l.length/\((zab l n).2=true->(zab l n).1<l.length):=by
 rw[y6u l n hl];have:=yoe l n;refine⟨by simp only;omega,by simp only;omega,fun h => ?_⟩;simp only[Bool.and_eq_true,decide_eq_true_eq]at h;simp only;omega
def zeg (a0:(List Int)):(List Int):=
 (List.replicate 0 (default:Int))++a0
namespace N159
theorem DD:DOk Tryz.prog (Go.Ab.DD []):=ye _
theorem den (a0:(List Int)) (hb0:a0.length<1099511627776):Den Tryz.prog 159 [encL 1 yw a0] (ownL 2 1 yw (zeg a0)):=by
 generalize hR:zeg a0=r;unfold zeg at hR;refine di Tryz.func159 Tryz.ntmps159 Tryz.results159 ?_;intro c hL hc hk;obtain⟨hL0,_⟩:=hL;have hw0:a0.length<9223372036854775808:=Nat.lt_succ_of_le (yc hL0).1;clear hL0;simp only[pars,Nat.zero_add];iterate 2 refine rS ?_
 refine AWP.ret ?_;subst hR;exact es
end N159
def D_zeg : DF
 | [x0]=>some (ownL 2 1 yw (zeg (rdL y4b x0)),false,[wL 1 yw y4b x0,(rdL y4b x0).length<1099511627776])
 | _=>none
theorem y21:OkD Tryz.prog 159 D_zeg:=by unfold D_zeg;exact dk N159.den
def zfg (a0:(List Sector)):(List Sector):=
 (List.replicate 0 (default:Sector))++a0
namespace N160
theorem DD:DOk Tryz.prog (Go.Ab.DD []):=ye _
theorem den (a0:(List Sector)) (hb0:a0.length<1099511627776) (hb1:∀ v∈a0,bdSector v):Den Tryz.prog 160 [encL 3 yl a0] (ownL 135 3 yl (zfg a0)):=by
 generalize hR:zfg a0=r;unfold zfg at hR;refine di Tryz.func160 Tryz.ntmps160 Tryz.results160 ?_;intro c hL hc hk;obtain⟨hL0,_⟩:=hL;have hw0:a0.length<9223372036854775808:=Nat.lt_succ_of_le (yc hL0).1;have hw1:∀ v∈a0,bwSector v:=fun v hv=>y9 v ((yc hL0).2 v hv)
 clear hL0;simp only[pars,Nat.zero_add];iterate 2 refine rS ?_
 refine AWP.ret ?_;subst hR;exact es
end N160
def D_zfg : DF
 | [x0]=>some (ownL 135 3 yl (zfg (rdL yv x0)),false,[wL 3 yl yv x0,(rdL yv x0).length<1099511627776,∀ v∈(rdL yv x0),bdSector v])
 | _=>none
theorem y50:OkD Tryz.prog 160 D_zfg:=by unfold D_zfg;exact dk N160.den
def zdd (a0:Aid):Aid:=
 { Number:=a0.Number,Name:=a0.Name,At:=a0.At,Height:=a0.Height,Mark:=a0.Mark,Light:={ Kind:=a0.Light.Kind,Group:=(zeg a0.Light.Group),Letter:=a0.Light.Letter,Colors:=a0.Light.Colors,Period:=a0.Light.Period:Character },Sectors:=(zfg a0.Sectors),Intensity:=a0.Intensity:Aid }
namespace N78
theorem DD:DOk Tryz.prog (Go.Ab.DD [(159,dP D_zeg),(160,dP D_zfg)]):=ya y21.e <| ya y50.e <| ye _
theorem dn:type_of% (And.intro @D_zeg.eq_1 <| @D_zfg.eq_1):=by and_intros<;>intros<;>rfl
theorem den (a0:Aid) (hb0:bdAid a0):Den Tryz.prog 78 [.agg (eAid a0)] (.agg (yob (zdd a0))):=by
 generalize hR:zdd a0=r;unfold zdd at hR;refine di Tryz.func78 Tryz.ntmps78 Tryz.results78 ?_;intro c hL hc hk;obtain⟨hL0,_⟩:=hL;have hw0:bwAid a0:=y5 a0 hL0;clear hL0;simp only[pars,Nat.zero_add];refine rS ?_;refine AWP.seq ?_;refine AWP.regP mixed G_ok DD hc 9 [0,1,2,4,5] (.alt 3 [7,8] [4,5,7,8] (.alt 6 [] [7,8] .leaf .stop) .stop) (by kernel_rfl) (by kernel_rfl) (by kernel_rfl) (fun K hK => ?_);simp only[ydj,runN,runP,yjc,nthO,ea,absV,absVL,cput,gv,sv,dn,reduceCtorEq,reduceIte,Nat.reduceBEq,Nat.reduceAdd,Nat.reduceEqDiff,Nat.reduceLT,Nat.reduceLeDiff,Nat.reduceMul,Nat.reduceSub,BEq.rfl,beq_self_eq_true,Int.reduceToNat];repeat' apply And.intro
 all_goals first|refine hK _ ?_|exact ot
 all_goals clear hK K
 refine rS ?_;refine AWP.ret ?_;subst hR;exact es
end N78
def D_zdd : DF
 | [x0]=>some (.agg (yob (zdd (rdG dAid x0))),false,[wG eAid dAid x0,bdAid (rdG dAid x0)])
 | _=>none
theorem yuj:OkD Tryz.prog 78 D_zdd:=by unfold D_zdd;exact dk N78.den
def yom (a0:(List Aid)) (i1:Nat) (s1:List Aid):Except ((List Aid)) (List Aid):=
 .ok (s1++[zdd (a0.getD i1 default)])
def zrc (a0:(List Aid)):(List Aid):=
 (match yf (yom a0) (a0.length-0) 0 (List.replicate 0 (default:Aid))with|.error e=>e|.ok s1=>s1)
namespace N77
theorem DD:DOk Tryz.prog (Go.Ab.DD [(78,dP D_zdd)]):=ya yuj.e <| ye _
theorem dn:type_of% (@D_zdd.eq_1):=by and_intros<;>intros<;>rfl
theorem den (a0:(List Aid)) (hb0:a0.length<1099511627776) (hb1:∀ v∈a0,bdAid v) (hp0:a0.length<=1073741824):Den Tryz.prog 77 [encL 16 eAid a0] (ownL 59 16 yob (zrc a0)):=by
 generalize hR:zrc a0=r;unfold zrc at hR;refine di Tryz.func77 Tryz.ntmps77 Tryz.results77 ?_;intro c hL hc hk;obtain⟨hL0,_⟩:=hL;have hw0:a0.length<9223372036854775808:=Nat.lt_succ_of_le (yc hL0).1;have hw1:∀ v∈a0,bwAid v:=fun v hv=>y5 v ((yc hL0).2 v hv)
 clear hL0;simp only[pars,Nat.zero_add];iterate 3 refine rS ?_
 refine AWP.block ?_;generalize hz1:yf (yom a0) (a0.length-0) 0 (List.replicate 0 (default:Aid))=z1 at hR;refine AWP.range (yom a0) (fun i1 s1=>⟨[(3,.ref 0 16 0 s1.length),(10,encL 16 eAid a0),(11,.int .i64 (a0.length:Int)),(12,.int .i64 (i1:Int))],[.arr 59 16 s1.length (fun j=>yob (s1.getD j default))]⟩) (fun i1 s1=>s1.length<=(List.replicate 0 (default:Aid)).length+1 * i1) (a0.length) 0 (List.replicate 0 (default:Aid)) [0] hz1 ot wt sm ?_;clear hz1;intro i1 s1 hi1 hW1 hz1;refine rS ?_;refine AWP.seq ?_;refine AWP.cond rfl (fun hb => ?_) (fun hb => ?_)
 ·have hlt1:i1<a0.length:=ot
  rw[yp hlt1]at hz1;simp only[yom]at hz1;iterate 3 refine rS ?_
  exact⟨_,[5],hlt1,wt,hz1,sm⟩
 ·obtain rfl:i1=a0.length:=ot
  rw[yq (Nat.le_refl _)]at hz1;subst hz1;dsimp only at hR;refine AWP.exit ?_;refine yb ?_;refine rS ?_;refine AWP.ret ?_;subst hR;exact es
end N77
def D_zrc : DF
 | [x0]=>some (ownL 59 16 yob (zrc (rdL dAid x0)),false,[wL 16 eAid dAid x0,(rdL dAid x0).length<1099511627776,∀ v∈(rdL dAid x0),bdAid v,(rdL dAid x0).length<=1073741824])
 | _=>none
theorem yrn:OkD Tryz.prog 77 D_zrc:=by unfold D_zrc;exact dk N77.den
def yqm (a0:(List Sector)) (a1:(List Sector)) (i1:Nat) (s1:Unit):Except (Bool) (Unit):=
 (bif (!(((a0.getD i1 default).From) == ((a1.getD i1 default).From) && (((a0.getD i1 default).To) == ((a1.getD i1 default).To) && ((a0.getD i1 default).Color) == ((a1.getD i1 default).Color))))then .error false else .ok ())
def zbe (a0:(List Sector)) (a1:(List Sector)):Bool:=
 (bif ((a0.length:Int) != (a1.length:Int))then false else(match yf (yqm a0 a1) (a0.length-0) 0 ()with|.error e=>e|.ok s1=>true))
namespace N87
theorem DD:DOk Tryz.prog (Go.Ab.DD []):=ye _
theorem den (a0:(List Sector)) (a1:(List Sector))  : Den Tryz.prog 87 [encL 3 yl a0,encL 3 yl a1] (.bool (zbe a0 a1)):=by
 generalize hR:zbe a0 a1=r;unfold zbe at hR;refine di Tryz.func87 Tryz.ntmps87 Tryz.results87 ?_;intro c hL hc hk;obtain⟨hL0,hL1,_⟩:=hL;have hw0:a0.length<9223372036854775808:=Nat.lt_succ_of_le (yc hL0).1;have hw1:∀ v∈a0,bwSector v:=fun v hv=>y9 v ((yc hL0).2 v hv)
 have hw2:a1.length<9223372036854775808:=Nat.lt_succ_of_le (yc hL1).1;have hw3:∀ v∈a1,bwSector v:=fun v hv=>y9 v ((yc hL1).2 v hv)
 clear hL0 hL1;simp only[pars,Nat.zero_add];iterate 2 refine rS ?_
 refine AWP.cond rfl (fun hb => ?_) (fun hb => ?_)
 ·replace hR:=ct hR
  refine rS ?_;refine AWP.ret ?_;subst hR;exact es
 ·replace hR:=cf hR
  refine rS ?_;refine AWP.block ?_;generalize hz1:yf (yqm a0 a1) (a0.length-0) 0 ()=z1 at hR;refine AWP.range (yqm a0 a1) (fun i1 s1=>⟨[(0,encL 3 yl a0),(1,encL 3 yl a1),(12,.int .i64 (a0.length:Int)),(13,.int .i64 (i1:Int))],[]⟩) (fun i1 s1=>True) (a0.length) 0 () [] hz1 ot wt sm ?_;clear hz1;intro i1 s1 hi1 hW1 hz1;refine rS ?_;refine AWP.seq ?_;refine AWP.cond rfl (fun hb => ?_) (fun hb => ?_)
  ·have hlt1:i1<a0.length:=ot
   rw[yp hlt1]at hz1;simp only[yqm]at hz1;refine rS ?_;refine rD 8 ?_;refine AWP.cond rfl (fun hb => ?_) (fun hb => ?_)
   ·simp only[hb,cond_true]at hz1
    refine rS ?_;refine AWP.ret ?_;subst hz1;dsimp only at hR;subst hR;exact es
   ·simp only[hb,cond_false]at hz1
    refine rS ?_;exact⟨_,[],hlt1,wt,hz1,sm⟩
  ·obtain rfl:i1=a0.length:=ot
   rw[yq (Nat.le_refl _)]at hz1;subst hz1;dsimp only at hR;refine AWP.exit ?_;refine yb ?_;refine rS ?_;refine AWP.ret ?_;subst hR;exact es
end N87
def D_zbe : DF
 | [x0,x1]=>some (.bool (zbe (rdL yv x0) (rdL yv x1)),false,[wL 3 yl yv x0,wL 3 yl yv x1])
 | _=>none
theorem y61:OkD Tryz.prog 87 D_zbe:=by unfold D_zbe;exact dk N87.den
def zce (a0:Aid) (a1:Aid):Bool:=
 ((((((((a0.Number == a1.Number) && (a0.Name == a1.Name)) && (a0.At.X == a1.At.X && a0.At.Y == a1.At.Y)) && (a0.Height == a1.Height)) && (a0.Mark.Kind == a1.Mark.Kind && (a0.Mark.Colors == a1.Mark.Colors && (a0.Mark.Shape == a1.Mark.Shape && a0.Mark.Topmark == a1.Mark.Topmark)))) && (zve a0.Light a1.Light)) && (zbe a0.Sectors a1.Sectors)) && (a0.Intensity == a1.Intensity))
namespace N29
theorem DD:DOk Tryz.prog (Go.Ab.DD [(86,dP D_zve),(87,dP D_zbe)]):=ya yrv.e <| ya y61.e <| ye _
theorem dn:type_of% (And.intro @D_zve.eq_1 <| @D_zbe.eq_1):=by and_intros<;>intros<;>rfl
set_option maxHeartbeats 4000000 in
set_option maxRecDepth 20000 in
theorem den (a0:Aid) (a1:Aid)  : Den Tryz.prog 29 [.agg (eAid a0),.agg (eAid a1)] (.bool (zce a0 a1)):=by
 generalize hR:zce a0 a1=r;unfold zce at hR;refine di Tryz.func29 Tryz.ntmps29 Tryz.results29 ?_;intro c hL hc hk;obtain⟨hL0,hL1,_⟩:=hL;have hw0:bwAid a0:=y5 a0 hL0;have hw1:bwAid a1:=y5 a1 hL1;clear hL0 hL1;simp only[pars,Nat.zero_add];iterate 2 refine rS ?_
 refine AWP.ret ?_;subst hR;exact es
end N29
def D_zce : DF
 | [x0,x1]=>some (.bool (zce (rdG dAid x0) (rdG dAid x1)),false,[wG eAid dAid x0,wG eAid dAid x1])
 | _=>none
theorem yxv:OkD Tryz.prog 29 D_zce:=by unfold D_zce;exact dk N29.den
def zyg (a0:Int):Bool:=
 (zk a0 2000 2273)
def zqg (a0:Int):Bool:=
 ((zyg a0) && ((((a0.tmod 4) == 0) && ((a0.tmod 100) != 0)) || ((a0.tmod 400) == 0)))
def zsd (a0:Int) (a1:Int):Int:=
 (bif ((a1 == 2) && (zqg a0))then 29 else([31,28,31,30,31,30,31,31,30,31,30,31]:List Int).getD ((IntKind.wrap .i64 (a1-1)).toNat) 0)
def znf (a0:Int):Int:=
 (bif (zqg a0)then 366 else 365)
def yyw (y m:Int):Int:=(bif zqg y && decide (m<=2)then 1 else 0)+([365,334,306,275,245,214,184,153,122,92,61,31]:List Int).getD (m-1).toNat 0
theorem ywi (y : Int) : zsd y 1 = 31 /\ zsd y 2 = (bif zqg y then 29 else 28) /\ zsd y 3 = 31 /\ zsd y 4 = 30 /\ zsd y 5 = 31 /\ zsd y 6 = 30
  /\ zsd y 7=31/\zsd y 8=31/\zsd y 9=30/\zsd y 10=31/\zsd y 11=30/\zsd y 12=31:=by
 simp[zsd,IntKind.wrap_i64]
theorem yez (y:Int):yyw y 1=znf y:=by
 unfold znf yyw;cases zqg y<;>rfl
theorem ydw (y m d:Int) (h1:1<=m) (h2:m<=12) (h3:d<yyw y m) (h4:zsd y m<=d):m<=11/\d-zsd y m<yyw y (m+1)/\28<=zsd y m/\zsd y m<=31:=by
 obtain⟨e1,e2,e3,e4,e5,e6,e7,e8,e9,e10,e11,e12⟩:=ywi y
 rcases yel h1 h2 with rfl|rfl|rfl|rfl|rfl|rfl|rfl|rfl|rfl|rfl|rfl|rfl<;>
  simp only[*]at h4 ⊢ <;> simp[yyw]at h3 ⊢ <;> cases hl:zqg y<;>simp_all<;>omega
theorem y54 (y:Int):znf y=365\/znf y=366:=by
 unfold znf;cases zqg y<;>simp
def ynz (a0:Int) (s1:Int×Int):Except (Sum ((Int×Int×Int)) (Int×Int)) (Int×Int):=
 (bif decide ((znf s1.2)<=s1.1)then .ok (IntKind.wrap .i64 (s1.1-(znf s1.2)),IntKind.wrap .i64 (s1.2+1))else .error (.inr (s1.1,s1.2)))
def ydz (a0:Int) (s1:Int×Int) (s2:Int×Int):Except (Sum ((Int×Int×Int)) (Int×Int)) (Int×Int):=
 (bif decide ((zsd s1.2 s2.2)<=s2.1)then .ok (IntKind.wrap .i64 (s2.1-(zsd s1.2 s2.2)),IntKind.wrap .i64 (s2.2+1))else .error (.inr (s2.1,s2.2)))
def zdf (a0:Int):(Int×Int×Int):=
 (match y0 (ynz a0) (((a0).toNat)+1) (a0,2000)with|.error (.inl e)=>e|.error (.inr s1)=>(match y0 (ydz a0 s1) (((s1.1).toNat)+1) (s1.1,1)with|.error (.inl e)=>e|.error (.inr s2)=>(s1.2,s2.2,IntKind.wrap .i64 (s2.1+1))|.ok _=>default)|.ok _=>default)
theorem y5y {y:Int} (h1:2000<=y) (h2:y<=2273):zqg y=ydc y:=by
 unfold zqg ydc zyg zk;simp[h1,h2]
theorem y8t {y m:Int} (hy1:2000<=y) (hy2:y<=2273) (h1:1<=m) (h2:m<=12):zsd y m=mdD (ydc y) m.toNat:=by
 obtain⟨e1,e2,e3,e4,e5,e6,e7,e8,e9,e10,e11,e12⟩:=ywi y;rw[y5y hy1 hy2]at e2;rcases yel h1 h2 with rfl|rfl|rfl|rfl|rfl|rfl|rfl|rfl|rfl|rfl|rfl|rfl<;>simp only[*]<;>cases ydc y<;>rfl
theorem y57 (a:Int) (h1:0<=a) (h2:a<=99999):∃ y m d,zdf a=(y,m,d)/\y<=2273/\ydp a y m d:=by
 have L1 := y1k (body := ynz a) (I := fun s => 0 <= s.1 /\ 2000 <= s.2 /\ ybD s.2 + s.1 = a)
  (Q:=fun r=>∃ s:Int×Int,r=.inr s/\0<=s.1/\2000<=s.2/\ybD s.2+s.1=a/\s.1<znf s.2) (M:=fun s=>s.1.toNat) (by
   rintro⟨d,y⟩ ⟨i1,i2,i3⟩
   simp only[ynz]at i1 i2 i3 ⊢;have hy:=y54 y;have hle:=ycx (y:=y) (by omega);have hnn:=ypr i2;by_cases hc:znf y<=d
   ·have hyd:znf y=365+(bif ydc y then 1 else 0):=by
     unfold znf;rw[y5y i2 hle];cases ydc y<;>rfl
    have hn:=ygt y i2;simp only[hc,decide_true,cond_true];rw[yhl (by omega) (by omega),yhl (by omega) (by omega)];refine⟨⟨by omega,by omega,by omega⟩,by omega⟩
   ·simp only[hc,decide_false,cond_false]
    exact⟨_,rfl,i1,i2,i3,by show d<znf y;omega⟩) (a.toNat+1) (a,2000) ⟨h1,by show(2000:Int)<=2000;omega,by simp[ybD]⟩ (by show a.toNat<a.toNat+1;omega)
 obtain⟨r,e1,s,rfl,q1,q2,q3,q4⟩:=L1;have hle:=ycx (y:=s.2) (by omega);have hnn:=ypr q2;have hyd:=y54 s.2
 have L2 := y1k (body := ydz a s) (I := fun t => 0 <= t.1 /\ 1 <= t.2 /\ t.2 <= 12 /\ t.1 < yyw s.2 t.2 /\ (mbD (ydc s.2) t.2.toNat : Int) + t.1 = s.1)
  (Q:=fun r=>∃ t:Int×Int,r=.inr t/\0<=t.1/\1<=t.2/\t.2<=12/\t.1<zsd s.2 t.2/\(mbD (ydc s.2) t.2.toNat:Int)+t.1=s.1) (M:=fun t=>t.1.toNat) (by
   rintro⟨d,m⟩ ⟨i1,i2,i3,i4,i5⟩
   simp only[ydz]at i1 i2 i3 i4 i5 ⊢;by_cases hc:zsd s.2 m<=d
   ·have hs:=ydw s.2 m d i2 i3 i4 hc
    have hm:=y8t q2 hle i2 i3;have hn:=yx5 (l:=ydc s.2) i2 hs.1;simp only[hc,decide_true,cond_true];rw[yhl (by omega) (by omega),yhl (by omega) (by omega)];refine⟨⟨by omega,by omega,by omega,hs.2.1,by omega⟩,by omega⟩
   ·simp only[hc,decide_false,cond_false]
    exact⟨_,rfl,i1,i2,i3,by show d<zsd s.2 m;omega,i5⟩) (s.1.toNat+1) (s.1,1) ⟨q1,by show(1:Int)<=1;omega,by show(1:Int)<=12;omega,by rw[yez];exact q4,by show(mbD (ydc s.2) 1:Int)+s.1=s.1;rw[yr2];simp⟩ (by show s.1.toNat<s.1.toNat+1;omega)
 obtain⟨r2,e2,t,rfl,p1,p2,p3,p4,p5⟩:=L2;have hm:=y8t q2 hle p2 p3
 have hw:IntKind.wrap .i64 (t.1+1)=t.1+1:=by
  have:=(yuz (l:=ydc s.2) p2 p3)
  refine yhl (by omega) ?_;cases hl:ydc s.2<;>simp only[hl,cond_true,cond_false]at * <;> omega
 refine⟨s.2,t.2,t.1+1,?_,hle,q2,p2,p3,by omega,by omega,by omega⟩;unfold zdf;rw[e1];simp only;rw[e2];simp only[hw]
def zxg (a0:Int) (a1:Int):(List UInt8):=
 (zah [48] (if 0<IntKind.wrap .i64 (a1-((zu a0).length:Int))then IntKind.wrap .i64 (a1-((zu a0).length:Int))else 0))++(zu a0)
def zzg (a0:Int):Bool:=
 (zk a0 0 99999)
def zrg (a0:Int):(List UInt8):=
 (bif (!(zzg a0))then[]else((((zu ((zdf a0).1))++[45])++(zxg ((zdf a0).2.1) 2))++[45])++(zxg ((zdf a0).2.2) 2))
def ybq (a0:(List UInt8)) (i1:Nat) (s1:List (List UInt8)):Except ((List (List UInt8))) (List (List UInt8)):=
 (bif (((zg a0 [32]).getD i1 default) != [])then .ok (s1++[((zg a0 [32]).getD i1 default)])else .ok s1)
def zcb (a0:(List UInt8)):(List (List UInt8)):=
 (match yf (ybq a0) (((zg a0 [32]).length)-0) 0 ([]:List (List UInt8))with|.error e=>e|.ok s1=>s1)
namespace N165
theorem DD:DOk Tryz.prog (Go.Ab.DD [(80,dP D_zg)]):=ya ygo.e <| ye _
theorem dn:type_of% (@D_zg.eq_1):=by and_intros<;>intros<;>rfl
theorem den (a0:(List UInt8)) (hb0:a0.length<1099511627776) (hp0:a0.length<=1048576):Den Tryz.prog 165 [.str a0] (ownL 9 1 eS (zcb a0)):=by
 generalize hR:zcb a0=r;unfold zcb at hR;refine di Tryz.func165 Tryz.ntmps165 Tryz.results165 ?_;intro c hL hc hk;obtain⟨hL0,_⟩:=hL;have hw0:a0.length<9223372036854775808:=Nat.lt_succ_of_le hL0;clear hL0;simp only[pars,Nat.zero_add];have hs9:=yfu a0 [32] (by omega);iterate 3 refine rS ?_
 refine AWP.block ?_;generalize hz1:yf (ybq a0) (((zg a0 [32]).length)-0) 0 ([]:List (List UInt8))=z1 at hR;refine AWP.range (ybq a0) (fun i1 s1=>⟨[(3,.ref 0 1 0 s1.length),(8,.ref 1 1 0 ((zg a0 [32]).length)),(9,.int .i64 ((zg a0 [32]).length:Int)),(10,.int .i64 (i1:Int))],[.arr 9 1 s1.length (fun j=>eS (s1.getD j default)),.arr 9 1 (zg a0 [32]).length (fun j=>eS ((zg a0 [32]).getD j default))]⟩) (fun i1 s1=>s1.length<=([]:List (List UInt8)).length+1 * i1/\s1.length<=i1) (((zg a0 [32]).length)) 0 ([]:List (List UInt8)) [0,1] hz1 ot wt sm ?_;clear hz1;intro i1 s1 hi1 hW1 hz1;refine rS ?_;refine AWP.seq ?_;refine AWP.cond rfl (fun hb => ?_) (fun hb => ?_)
 ·have hlt1:i1<((zg a0 [32]).length):=ot
  rw[yp hlt1]at hz1;simp only[ybq]at hz1;iterate 2 refine rS ?_
  refine AWP.cond rfl (fun hb => ?_) (fun hb => ?_)
  ·simp only[hb,cond_true]at hz1
   iterate 2 refine rS ?_
   exact⟨_,[3,1],hlt1,wt,hz1,sm⟩
  ·simp only[hb,cond_false]at hz1
   refine rS ?_;exact⟨_,[0,1],hlt1,wt,hz1,sm⟩
 ·obtain rfl:i1=((zg a0 [32]).length):=ot
  rw[yq (Nat.le_refl _)]at hz1;subst hz1;dsimp only at hR;refine AWP.exit ?_;refine yb ?_;refine rS ?_;refine AWP.ret ?_;subst hR;exact es
end N165
def D_zcb : DF
 | [x0]=>some (ownL 9 1 eS (zcb (rdS x0)),false,[wS x0,(rdS x0).length<1099511627776,(rdS x0).length<=1048576])
 | _=>none
theorem yv1:OkD Tryz.prog 165 D_zcb:=by unfold D_zcb;exact dk N165.den
theorem yid (l:List (List UInt8)) (b:Nat->List (List UInt8)->Except (List (List UInt8)) (List (List UInt8))) (hb:∀ i s,b i s=(bif (l.getD i default) != []then .ok (s++[l.getD i default])else .ok s)) :
  ∀ (k i:Nat) (s:List (List UInt8)),i+k=l.length->yf b k i s=.ok (s++(l.drop i).filter (· != []))
 | 0,i,s,h=>by
  rw[List.drop_eq_nil_of_le (by omega)];simp[yf]
 | k+1,i,s,h=>by
  have hlt:i<l.length:=by omega
  have hg:l.getD i default=l[i]:=by simp[List.getD,List.getElem?_eq_getElem hlt]
  simp only[yf,hb,hg];rw[List.drop_eq_getElem_cons hlt,List.filter_cons]
  cases hc:(l[i] != [])with
  | true=>
   simp only[cond_true];rw[yid l b hb k (i+1) _ (by omega)];simp
  | false=>
   simp only[cond_false];rw[yid l b hb k (i+1) _ (by omega)];simp
theorem yw7 (a:List UInt8):zcb a=(ym 32 a).filter (· != []):=by
 unfold zcb;rw[yid (zg a [32]) (ybq a) (fun i s=>rfl) _ 0 [] (by omega)];rfl
theorem y45 (a:List UInt8) (ha:a.length<=1048576):∀ x∈zcb a,x.length<=1048576:=by
 intro x hx;rw[yw7]at hx;have:=(ycb 32 a).2 x (List.mem_filter.1 hx).1;omega
theorem ypf {l:List (List UInt8)} (h:∀ x∈l,x.length<=1048576) (i:Nat):(l.getD i default).length<=1048576:=by
 by_cases hi:i<l.length
 ·rw[List.getD_eq_getElem?_getD,List.getElem?_eq_getElem hi]
  exact h _ (List.getElem_mem hi)
 ·rw[List.getD_eq_getElem?_getD,List.getElem?_eq_none (by omega)]
  show([]:List UInt8).length<=_;simp
def zp (a0:(List UInt8)):(Int×Bool):=y2b a0
theorem yr8 (a0:(List UInt8)) (hp0:a0.length<=1048576):Den Tryz.prog 81 [.str a0] (.tup [.int .i64 ((zp a0).1),.bool ((zp a0).2)]):=by
 exact yos a0 hp0
def D_zp : DF
 | [x0]=>some (.tup [.int .i64 ((zp (rdS x0)).1),.bool ((zp (rdS x0)).2)],false,[wS x0,(rdS x0).length<=1048576])
 | _=>none
theorem y3j:OkD Tryz.prog 81 D_zp:=by
 intro xs r z ob h ho;unfold D_zp at h;split at h
 ·simp only[Option.some.injEq,Prod.mk.injEq]at h
  obtain⟨rfl,rfl,rfl⟩:=h;obtain⟨h0,hp0,_⟩:=ho;exact Den.sim (yr8 _ hp0) (yr (yjb h0).1 <| trivial) (yy (yjb h0).2 <| rfl) rfl
 ·cases h
end Go.Ab
