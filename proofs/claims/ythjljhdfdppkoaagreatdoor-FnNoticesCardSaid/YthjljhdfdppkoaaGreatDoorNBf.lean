/- A part of a proof: walks of functions and lemmas of our own. No conditions. -/
import Derived.Test.YthjljhdfdppkoaaGreatDoorNAl
import Derived.Test.YthjljhdfdppkoaaGreatDoorNBa
import Derived.Test.YthjljhdfdppkoaaGreatDoorNBd
import Derived.Test.YthjljhdfdppkoaaGreatDoorNAk
import Derived.Test.YthjljhdfdppkoaaGreatDoorNAt
import Derived.Test.YthjljhdfdppkoaaGreatDoorNBe
import Derived.Test.YthjljhdfdppkoaaGreatDoorNBb
import Derived.Test.YthjljhdfdppkoaaGreatDoorNAr
import Derived.Test.YthjljhdfdppkoaaGreatDoorNAp
import Derived.Test.YthjljhdfdppkoaaGreatDoorNAv
import Derived.Test.YthjljhdfdppkoaaGreatDoorNAq
import Derived.Test.YthjljhdfdppkoaaGreatDoorNAu
import Derived.Test.YthjljhdfdppkoaaGreatDoorNAi
import Derived.Test.YthjljhdfdppkoaaGreatDoorNAz
import Derived.Test.YthjljhdfdppkoaaGreatDoorNAs
import Derived.Test.YthjljhdfdppkoaaGreatDoorNAo
import Derived.Test.YthjljhdfdppkoaaGreatDoorNAm
import Derived.Test.YthjljhdfdppkoaaGreatDoorNAw
set_option linter.unusedSectionVars false
set_option linter.unusedVariables false
set_option linter.unusedSimpArgs false
set_option maxHeartbeats 1000000
namespace Go.Ab
open Go Go.Proofs
def zwf (a0:Notice) (a1:(List Aid)):((List Aid)×Int):=
 (bif (a0.Kind == 1)then((zbg a1 a0.Aid).1,(zbg a1 a0.Aid).2)else(bif (a0.Kind == 2)then((zcg a1 a0.Aid).1,(zcg a1 a0.Aid).2)else((zdg a1 a0.Target).1,(zdg a1 a0.Target).2)))
namespace N86
theorem DD:DOk Tryz.prog (Go.Ab.DD [(149,dP D_zbg),(150,dP D_zcg),(151,dP D_zdg)]):=ya ys6.e <| ya y92.e <| ya yh5.e <| yf _
abbrev dn:=cj @D_zbg.eq_1 <| cj @D_zcg.eq_1 <| @D_zdg.eq_1
theorem den (a0:Notice) (a1:(List Aid)) (hb0:bdNotice a0) (hb1:a1.length<1099511627776) (hb2:∀ v∈a1,bdAid v):Den Tryz.prog 86 [.agg (ye a0),encL 16 eAid a1] (.tup [ownL 37 16 y4b ((zwf a0 a1).1),.int .i64 ((zwf a0 a1).2)]):=by
 generalize hR:zwf a0 a1=r;unfold zwf at hR;refine di Tryz.func86 Tryz.ntmps86 Tryz.results86 ?_;intro c hL hc hk;obtain⟨hL0,hL1,_⟩:=hL;have hw0:bwNotice a0:=yi a0 hL0;have hw1:a1.length<9223372036854775808:=Nat.lt_succ_of_le (yb hL1).1;have hw2:∀ v∈a1,bwAid v:=fun v hv=>y3 v ((yb hL1).2 v hv)
 clear hL0 hL1;simp only[pars,Nat.zero_add];iterate 3 refine rS ?_
 refine AWP.cond rfl (fun hb => ?_) (fun hb => ?_)
 ·replace hR:=ct hR
  refine rS ?_;refine AWP.ret ?_;subst hR;exact es
 ·replace hR:=cf hR
  refine rS ?_;refine AWP.cond rfl (fun hb => ?_) (fun hb => ?_)
  ·replace hR:=ct hR
   refine rS ?_;refine AWP.ret ?_;subst hR;exact es
  ·replace hR:=cf hR
   refine rS ?_;refine AWP.ret ?_;subst hR;exact es
end N86
def D_zwf : DF
 | [x0,x1]=>some (.tup [ownL 37 16 y4b ((zwf (rdG yc x0) (rdL dAid x1)).1),.int .i64 ((zwf (rdG yc x0) (rdL dAid x1)).2)],false,[wG ye yc x0,wL 16 eAid dAid x1,bdNotice (rdG yc x0),(rdL dAid x1).length<1099511627776,∀ v∈(rdL dAid x1),bdAid v])
 | _=>none
theorem yt3:OkD Tryz.prog 86 D_zwf:=by unfold D_zwf;exact dk N86.den
theorem yf9 (P:Aid->Prop) (l:List Aid) (n:Notice) (hl:l.length<9223372036854775807) (hv:∀ v∈l,P v) (ha:P n.Aid):(∀ v∈(zwf n l).1,P v)/\(zwf n l).1.length<=25:=by
 unfold zwf
 cases(n.Kind == 1)with
 | true=>exact yy6 P l _ hl hv ha
 | false=>
  cases(n.Kind == 2)with
  | true=>exact y80 P l n.Aid hv ha
  | false=>exact ys0 P l n.Target hl hv
def yfl (a0:(List Aid)) (a1:(List Notice)) (a2:Int) (i1:Nat) (s1:List Aid):Except (((List Aid)×Int×Int)) (List Aid):=
 (bif (((zwf ((zq a1 a2).getD i1 default) s1).2) != 0)then .error ([],((zq a1 a2).getD i1 default).Number,(zwf ((zq a1 a2).getD i1 default) s1).2)else .ok ((zwf ((zq a1 a2).getD i1 default) s1).1))
def zcd (a0:(List Aid)) (a1:(List Notice)) (a2:Int):((List Aid)×Int×Int):=
 (match yh (yfl a0 a1 a2) (((zq a1 a2).length)-0) 0 (zxb a0)with|.error e=>e|.ok s1=>(s1,0,0))
namespace N41
theorem DD:DOk Tryz.prog (Go.Ab.DD [(43,dP D_zq),(85,dP D_zxb),(86,dP D_zwf)]):=ya y41.e <| ya yok.e <| ya yt3.e <| yf _
abbrev dn:=cj @D_zq.eq_1 <| cj @D_zxb.eq_1 <| @D_zwf.eq_1
abbrev ol:=@ygc
theorem gr {p:Prop} (h:p:=by(grind [yef]);first|done|fail):p:=h
theorem den (a0:(List Aid)) (a1:(List Notice)) (a2:Int) (hb0:a0.length<1099511627776) (hb1:∀ v∈a0,bdAid v) (hb2:a1.length<1099511627776) (hb3:∀ v∈a1,bdNotice v) (hp0:a0.length<=1048576) (hp1:a1.length<=1048576):Den Tryz.prog 41 [encL 16 eAid a0,encL 20 ye a1,.int .i64 a2] (.tup [ownL 37 16 y4b ((zcd a0 a1 a2).1),.int .i64 ((zcd a0 a1 a2).2.1),.int .i64 ((zcd a0 a1 a2).2.2)]):=by
 generalize hR:zcd a0 a1 a2=r;unfold zcd at hR;refine di Tryz.func41 Tryz.ntmps41 Tryz.results41 ?_;intro c hL hc hk;obtain⟨hL0,hL1,hL2,_⟩:=hL;have hw0:a0.length<9223372036854775808:=Nat.lt_succ_of_le (yb hL0).1;have hw1:∀ v∈a0,bwAid v:=fun v hv=>y3 v ((yb hL0).2 v hv)
 have hw2:a1.length<9223372036854775808:=Nat.lt_succ_of_le (yb hL1).1;have hw3:∀ v∈a1,bwNotice v:=fun v hv=>yi v ((yb hL1).2 v hv)
 clear hL0 hL1 hL2;simp only[pars,Nat.zero_add];have hfl:=yef a1 a2;have hfa:=(ynl bdNotice a1 a2 (by assumption)).2;iterate 3 refine rS ?_
 refine AWP.block ?_;generalize hz1:yh (yfl a0 a1 a2) (((zq a1 a2).length)-0) 0 (zxb a0)=z1 at hR;refine AWP.range (yfl a0 a1 a2) (fun i1 s1=>⟨[(9,.ref 0 16 0 s1.length),(18,.ref 1 20 0 ((zq a1 a2).length)),(19,.int .i64 ((zq a1 a2).length:Int)),(20,.int .i64 (i1:Int))],[.arr 37 16 s1.length (fun j=>y4b (s1.getD j default)),.arr 39 20 (zq a1 a2).length (fun j=>ye ((zq a1 a2).getD j default))]⟩) (fun i1 s1=>(∀ v∈s1,bdAid v)/\s1.length<=1048576) (((zq a1 a2).length)) 0 (zxb a0) [0,1] hz1 ot (by(simp only[ygc,ybj];exact⟨by assumption,by omega⟩)) sm ?_;clear hz1;intro i1 s1 hi1 hW1 hz1;have hV1:=hW1;obtain⟨hV1_0,hV1_1⟩:=hV1;refine rS ?_;refine AWP.seq ?_;refine AWP.cond rfl (fun hb => ?_) (fun hb => ?_)
 ·have hlt1:i1<((zq a1 a2).length):=ot
  rw[yl hlt1]at hz1;simp only[yfl]at hz1;iterate 3 refine rS ?_
  refine AWP.cond rfl (fun hb => ?_) (fun hb => ?_)
  ·simp only[hb,cond_true]at hz1
   refine AWP.seq ?_;refine AWP.regP mixed G_ok DD hc 5 [0,1,2] (.alt 3 [] [0,1,2] (.alt 4 [] [2] .leaf .stop) .stop) (by kernel_rfl) (by kernel_rfl) (by kernel_rfl) (fun K hK => ?_);simp only[ypi,runN,runP,yjc,nthO,ea,absV,ybc,cput,gv,sv,dn,reduceCtorEq,reduceIte,Nat.reduceBEq,Nat.reduceAdd,Nat.reduceEqDiff,Nat.reduceLT,Nat.reduceLeDiff,Nat.reduceMul,Nat.reduceSub,BEq.rfl,beq_self_eq_true,Int.reduceToNat];repeat' apply And.intro
   all_goals first|refine hK _ ?_|exact ot
   all_goals clear hK K
   refine AWP.ret ?_;subst hz1;dsimp only at hR;subst hR;exact es
  ·simp only[hb,cond_false]at hz1
   iterate 2 refine rS ?_
   exact⟨_,[3,1],hlt1,by(have h9:=yf9 bdAid s1 ((zq a1 a2).getD i1 default) (by have h1:=hW1.2;omega) hW1.1 (ykf (p:=bdNotice) (by assumption) (by decide) i1);exact⟨h9.1,by have h1:=hW1.2;have h2:=h9.2;omega⟩),hz1,sm⟩
 ·obtain rfl:i1=((zq a1 a2).length):=ot
  rw[yk (Nat.le_refl _)]at hz1;subst hz1;dsimp only at hR;refine AWP.exit ?_;refine yd ?_;refine rS ?_;refine AWP.ret ?_;subst hR;exact es
end N41
def D_zcd : DF
 | [x0,x1,x2]=>some (.tup [ownL 37 16 y4b ((zcd (rdL dAid x0) (rdL yc x1) (rdI x2)).1),.int .i64 ((zcd (rdL dAid x0) (rdL yc x1) (rdI x2)).2.1),.int .i64 ((zcd (rdL dAid x0) (rdL yc x1) (rdI x2)).2.2)],false,[wL 16 eAid dAid x0,wL 20 ye yc x1,wI .i64 x2,(rdL dAid x0).length<1099511627776,∀ v∈(rdL dAid x0),bdAid v,(rdL yc x1).length<1099511627776,∀ v∈(rdL yc x1),bdNotice v,(rdL dAid x0).length<=1048576,(rdL yc x1).length<=1048576])
 | _=>none
theorem y23:OkD Tryz.prog 41 D_zcd:=by unfold D_zcd;exact dk N41.den
def zue (a0:(List Aid)) (a1:(List Notice)) (a2:Int):((List Aid)×Int):=
 (bif ((zyg a0 a1 a2) != 0)then([],(zyg a0 a1 a2))else((zcd a0 a1 a2).1,(zcd a0 a1 a2).2.2))
namespace N14
theorem DD:DOk Tryz.prog (Go.Ab.DD [(40,dP D_zyg),(41,dP D_zcd)]):=ya yj3.e <| ya y23.e <| yf _
abbrev dn:=cj @D_zyg.eq_1 <| @D_zcd.eq_1
theorem den (a0:(List Aid)) (a1:(List Notice)) (a2:Int) (hb0:a0.length<1099511627776) (hb1:∀ v∈a0,bdAid v) (hb2:a1.length<1099511627776) (hb3:∀ v∈a1,bdNotice v) (hp0:a0.length<=1048576) (hp1:a1.length<=1048576):Den Tryz.prog 14 [encL 16 eAid a0,encL 20 ye a1,.int .i64 a2] (.tup [ownL 37 16 y4b ((zue a0 a1 a2).1),.int .i64 ((zue a0 a1 a2).2)]):=by
 generalize hR:zue a0 a1 a2=r;unfold zue at hR;refine di Tryz.func14 Tryz.ntmps14 Tryz.results14 ?_;intro c hL hc hk;obtain⟨hL0,hL1,hL2,_⟩:=hL;have hw0:a0.length<9223372036854775808:=Nat.lt_succ_of_le (yb hL0).1;have hw1:∀ v∈a0,bwAid v:=fun v hv=>y3 v ((yb hL0).2 v hv)
 have hw2:a1.length<9223372036854775808:=Nat.lt_succ_of_le (yb hL1).1;have hw3:∀ v∈a1,bwNotice v:=fun v hv=>yi v ((yb hL1).2 v hv)
 clear hL0 hL1 hL2;simp only[pars,Nat.zero_add];iterate 3 refine rS ?_
 refine AWP.cond rfl (fun hb => ?_) (fun hb => ?_)
 ·replace hR:=ct hR
  refine rS ?_;refine AWP.ret ?_;subst hR;exact es
 ·replace hR:=cf hR
  iterate 2 refine rS ?_
  refine AWP.ret ?_;subst hR;exact es
end N14
def D_zue : DF
 | [x0,x1,x2]=>some (.tup [ownL 37 16 y4b ((zue (rdL dAid x0) (rdL yc x1) (rdI x2)).1),.int .i64 ((zue (rdL dAid x0) (rdL yc x1) (rdI x2)).2)],false,[wL 16 eAid dAid x0,wL 20 ye yc x1,wI .i64 x2,(rdL dAid x0).length<1099511627776,∀ v∈(rdL dAid x0),bdAid v,(rdL yc x1).length<1099511627776,∀ v∈(rdL yc x1),bdNotice v,(rdL dAid x0).length<=1048576,(rdL yc x1).length<=1048576])
 | _=>none
theorem yg3:OkD Tryz.prog 14 D_zue:=by unfold D_zue;exact dk N14.den
def ytq (a0:(List Notice)) (a1:Int) (i1:Nat) (s1:List Int):Except (((List Int)×Int)) (List Int):=
 .ok (s1++([((zq a0 a1).getD i1 default).Number]:List Int))
def zxd (a0:(List Notice)) (a1:Int):((List Int)×Int):=
 (bif (!(ztb a0))then([],1)else(bif (!(zrb a1))then([],2)else(match yh (ytq a0 a1) (((zq a0 a1).length)-0) 0 ([]:List Int)with|.error e=>e|.ok s1=>(s1,0))))
namespace N15
theorem DD:DOk Tryz.prog (Go.Ab.DD [(35,dP D_ztb),(42,dP D_zrb),(43,dP D_zq)]):=ya yek.e <| ya yth.e <| ya y41.e <| yf _
abbrev dn:=cj @D_ztb.eq_1 <| cj @D_zrb.eq_1 <| @D_zq.eq_1
theorem gr {p:Prop} (h:p:=by(grind [yjg,yef]);first|done|fail):p:=h
theorem o1 {p:Prop} (h:p:=by(first|(have h9:=hvl (by assumption);omega)|(have h9:=hvl (by assumption);have h8:=hW1;omega));first|done|fail):p:=h
theorem den (a0:(List Notice)) (a1:Int) (hb0:a0.length<1099511627776) (hb1:∀ v∈a0,bdNotice v):Den Tryz.prog 15 [encL 20 ye a0,.int .i64 a1] (.tup [ownL 2 1 yx ((zxd a0 a1).1),.int .i64 ((zxd a0 a1).2)]):=by
 generalize hR:zxd a0 a1=r;unfold zxd at hR;refine di Tryz.func15 Tryz.ntmps15 Tryz.results15 ?_;intro c hL hc hk;obtain⟨hL0,hL1,_⟩:=hL;have hw0:a0.length<9223372036854775808:=Nat.lt_succ_of_le (yb hL0).1;have hw1:∀ v∈a0,bwNotice v:=fun v hv=>yi v ((yb hL0).2 v hv)
 clear hL0 hL1;simp only[pars,Nat.zero_add];have hfl:=yef a0 a1;have hvl:(!ztb a0)=false->a0.length<=32:=fun h=>yjg (by simpa using h)
 iterate 2 refine rS ?_
 refine AWP.cond rfl (fun hb => ?_) (fun hb => ?_)
 ·replace hR:=ct hR
  refine rS ?_;refine AWP.ret ?_;subst hR;exact es
 ·replace hR:=cf hR
  refine rS ?_;refine AWP.cond rfl (fun hb => ?_) (fun hb => ?_)
  ·replace hR:=ct hR
   refine rS ?_;refine AWP.ret ?_;subst hR;exact es
  ·replace hR:=cf hR
   iterate 2 refine rS ?_
   refine AWP.block ?_;generalize hz1:yh (ytq a0 a1) (((zq a0 a1).length)-0) 0 ([]:List Int)=z1 at hR;refine AWP.range (ytq a0 a1) (fun i1 s1=>⟨[(6,.ref 0 1 0 s1.length),(18,.ref 1 20 0 ((zq a0 a1).length)),(19,.int .i64 ((zq a0 a1).length:Int)),(20,.int .i64 (i1:Int))],[.arr 2 1 s1.length (fun j=>yx (s1.getD j default)),.arr 39 20 (zq a0 a1).length (fun j=>ye ((zq a0 a1).getD j default))]⟩) (fun i1 s1=>s1.length<=([]:List Int).length+1 * i1/\s1.length<=i1) (((zq a0 a1).length)) 0 ([]:List Int) [0,1] hz1 ot wt sm ?_;clear hz1;intro i1 s1 hi1 hW1 hz1;refine rS ?_;refine AWP.seq ?_;refine AWP.cond rfl (fun hb => ?_) (fun hb => ?_)
   ·have hlt1:i1<((zq a0 a1).length):=ot
    rw[yl hlt1]at hz1;simp only[ytq]at hz1;iterate 3 refine rS ?_
    exact⟨_,[4,1],hlt1,wt,hz1,sm⟩
   ·obtain rfl:i1=((zq a0 a1).length):=ot
    rw[yk (Nat.le_refl _)]at hz1;subst hz1;dsimp only at hR;refine AWP.exit ?_;refine yd ?_;refine rS ?_;refine AWP.ret ?_;subst hR;exact es
end N15
def D_zxd : DF
 | [x0,x1]=>some (.tup [ownL 2 1 yx ((zxd (rdL yc x0) (rdI x1)).1),.int .i64 ((zxd (rdL yc x0) (rdI x1)).2)],false,[wL 20 ye yc x0,wI .i64 x1,(rdL yc x0).length<1099511627776,∀ v∈(rdL yc x0),bdNotice v])
 | _=>none
theorem y64:OkD Tryz.prog 15 D_zxd:=by unfold D_zxd;exact dk N15.den
theorem y6f (a:Aid):zqd a a=true:=by
 rw[<- ylj];unfold zmg zxe;rw[yuf,yle];simp
theorem yhz (l:List Aid):zgf l l=true:=by
 unfold zgf;have h0:((l.length:Int) != (l.length:Int))=false:=by simp
 rw[h0,cond_false]
 have:∀ k i,yh (yxn l l) k i ()=.ok ():=by
  intro k
  induction k with
  | zero=>intro i;rfl
  | succ k ih=>intro i;simp only[yh,yxn,y6f,Bool.not_true,cond_false];exact ih (i+1)
 rw[this]
theorem yhw {d:Int} (h0:0<=d) (h1:d<=99999):zrb d=true:=by
 unfold zrb ze;rw[decide_eq_true h0,decide_eq_true h1];rfl
theorem yl2 {A:List Aid} {l:List Notice} {d:Int} (hA:okP AidQ A) (hl:NtsP l) (h0:0<=d) (h1:d<=99999):zyg A l d=0:=by
 unfold zyg;rw[ygq A (fun v h=>(hA.2 v h).l),(y58 A).2 hA.1,yqd l (fun n h=>(hl.q n h).l),hl.ok,yhw h0 h1];rfl
theorem ywn {l:List Notice} {d:Int} (hl:NtsP l) (h0:0<=d) (h1:d<=99999):zxd l d=((zq l d).map fun n=>n.Number,0):=by
 unfold zxd;rw[yqd l (fun n h=>(hl.q n h).l),hl.ok,yhw h0 h1];simp only[Bool.not_true,cond_false];rw[y4z (zq l d) (ytq l d) (fun n=>n.Number) (fun i s _=>rfl)]
theorem y3x (a0:List Int) (hp0:∀ v∈a0,0<=v/\v<=255):okP AidQ (znf a0)/\(znf a0).length<=5:=(yo2 (n:=0) (s:=zje a0) ⟨Int.le_refl _,Int.le_refl _,hp0⟩ (by omega)).2
theorem yh2 (a1:List Int) (e:List Aid) (hp1:∀ v∈a1,0<=v/\v<=255):NtsP (zrg a1 e)/\(zrg a1 e).length<=5:=(ydbb (n:=0) (s:=zje a1) (e:=e) ⟨Int.le_refl _,Int.le_refl _,hp1⟩ (by omega)).2
def zke (a0:(List Notice)) (a1:Notice):((List Notice)×Int):=
 (bif ((!(ztb a0)) || (!(zge a1)))then([],1)else(bif decide (0<(a0.length:Int))then(bif (decide (a1.Number<=((a0.getD ((IntKind.wrap .i64 ((a0.length:Int)-1)).toNat) default).Number)) || decide (a1.Day<((a0.getD ((IntKind.wrap .i64 ((a0.length:Int)-1)).toNat) default).Day)))then([],7)else(bif ((a1.Kind == 4) && (!(zrf a1 a0)))then([],3)else(bif ((a0.length:Int) == 32)then([],5)else((zwc ((zud a0)++[a1])),0))))else(bif ((a1.Kind == 4) && (!(zrf a1 a0)))then([],3)else(bif ((a0.length:Int) == 32)then([],5)else((zwc ((zud a0)++[a1])),0)))))
namespace N12
theorem DD:DOk Tryz.prog (Go.Ab.DD [(29,dP D_zge),(35,dP D_ztb),(36,dP D_zrf),(37,dP D_zwc),(38,dP D_zud)]):=ya yzo.e <| ya yek.e <| ya yiv.e <| ya yq6.e <| ya yb6.e <| yf _
abbrev dn:=cj @D_zge.eq_1 <| cj @D_ztb.eq_1 <| cj @D_zrf.eq_1 <| cj @D_zwc.eq_1 <| cj @D_zud.eq_1 <| @ymo
abbrev ol:=cj @y0i <| @yyg
theorem gr {p:Prop} (h:p:=by(grind [yjg]);first|done|fail):p:=h
theorem o1 {p:Prop} (h:p:=by(first|(rename_i i_ hi_;by_cases hji:i_<(zud a0).length;(focus(rw[ykr hji];rfl));(rw[show i_-(zud a0).length=0 from by omega];simp[elt,ysd,ymd];(first|(first|done|fail)|fail)))|(rename_i i_ hi_;by_cases hji:i_<(zud a0).length;(focus(simp only[ykr hji,cond_true,yfg,yed];exact y6 _));(have e0:i_-(zud a0).length=0:=by omega);simp only[yst hji,cond_false,e0,y7u,yfg,yed];exact y6 _)|(rename_i v_ hv_;exact yc8 (by simp only[yyg];assumption) (by assumption) v_ hv_)|(have h9:=hvl (by assumption);(try simp only[yyg,y0i,List.length_append,List.length_singleton,List.length_cons,List.length_nil]);first|omega|(constructor<;>omega)));first|done|fail):p:=h
set_option maxHeartbeats 4000000 in
set_option maxRecDepth 20000 in
theorem den (a0:(List Notice)) (a1:Notice) (hb0:a0.length<1099511627776) (hb1:∀ v∈a0,bdNotice v) (hb2:bdNotice a1):Den Tryz.prog 12 [encL 20 ye a0,.agg (ye a1)] (.tup [ownL 39 20 y7b ((zke a0 a1).1),.int .i64 ((zke a0 a1).2)]):=by
 generalize hR:zke a0 a1=r;unfold zke at hR;refine di Tryz.func12 Tryz.ntmps12 Tryz.results12 ?_;intro c hL hc hk;obtain⟨hL0,hL1,_⟩:=hL;have hw0:a0.length<9223372036854775808:=Nat.lt_succ_of_le (yb hL0).1;have hw1:∀ v∈a0,bwNotice v:=fun v hv=>yi v ((yb hL0).2 v hv)
 have hw2:bwNotice a1:=yi a1 hL1;clear hL0 hL1;simp only[pars,Nat.zero_add];have hvl:((!(ztb a0)) || (!(zge a1)))=false->a0.length<=32:=fun h=>by rw[Bool.or_eq_false_iff]at h;exact yjg (by simpa using h.1)
 iterate 2 refine rS ?_
 refine AWP.cond rfl (fun hb => ?_) (fun hb => ?_)
 ·replace hR:=ct hR
  refine rS ?_;refine AWP.ret ?_;subst hR;exact es
 ·replace hR:=cf hR
  refine rS ?_;refine AWP.cond rfl (fun hb => ?_) (fun hb => ?_)
  ·replace hR:=ct hR
   iterate 2 refine rS ?_
   refine AWP.cond rfl (fun hb => ?_) (fun hb => ?_)
   ·replace hR:=ct hR
    refine rS ?_;refine AWP.ret ?_;subst hR;exact es
   ·replace hR:=cf hR
    refine rS ?_;refine AWP.cond rfl (fun hb => ?_) (fun hb => ?_)
    ·replace hR:=ct hR
     refine rS ?_;refine AWP.ret ?_;subst hR;exact es
    ·replace hR:=cf hR
     refine rS ?_;refine AWP.cond rfl (fun hb => ?_) (fun hb => ?_)
     ·replace hR:=ct hR
      refine rS ?_;refine AWP.ret ?_;subst hR;exact es
     ·replace hR:=cf hR
      refine AWP.skip ?_;refine AWP.seq ?_;refine AWP.regP mixed G_ok DD hc 4 [0,2] (.alt 1 [] [2] (.alt 3 [] [] .leaf .stop) (.alt 3 [] [0] (.alt 1 [] [] .leaf .stop) .stop)) (by kernel_rfl) (by kernel_rfl) (by kernel_rfl) (fun K hK => ?_);refine ykv ⟨[(4,.ref 0 20 0 ((zwc ((zud a0)++[a1])).length)),(5,.int .i64 0)],[.arr 39 20 (zwc ((zud a0)++[a1])).length (fun j=>y7b ((zwc ((zud a0)++[a1])).getD j default))]⟩ hK ?_ (fun hJ => ?_);rotate_left
      ·simp only[ypi,runN,runP,yjc,nthO,ea,absV,ybc,cput,gv,sv,dn,reduceCtorEq,reduceIte,Nat.reduceBEq,Nat.reduceAdd,Nat.reduceEqDiff,Nat.reduceLT,Nat.reduceLeDiff,Nat.reduceMul,Nat.reduceSub,BEq.rfl,beq_self_eq_true,Int.reduceToNat]
       repeat' apply And.intro
       all_goals first|(refine hJ _ [5] ?_;exact sm)|exact ot
      clear hK K;refine AWP.ret ?_;subst hR;exact es
  ·replace hR:=cf hR
   refine rS ?_;refine AWP.cond rfl (fun hb => ?_) (fun hb => ?_)
   ·replace hR:=ct hR
    refine rS ?_;refine AWP.ret ?_;subst hR;exact es
   ·replace hR:=cf hR
    refine rS ?_;refine AWP.cond rfl (fun hb => ?_) (fun hb => ?_)
    ·replace hR:=ct hR
     refine rS ?_;refine AWP.ret ?_;subst hR;exact es
    ·replace hR:=cf hR
     refine AWP.skip ?_;refine AWP.seq ?_;refine AWP.regP mixed G_ok DD hc 4 [0,2] (.alt 1 [] [2] (.alt 3 [] [] .leaf .stop) (.alt 3 [] [0] (.alt 1 [] [] .leaf .stop) .stop)) (by kernel_rfl) (by kernel_rfl) (by kernel_rfl) (fun K hK => ?_);refine ykv ⟨[(4,.ref 0 20 0 ((zwc ((zud a0)++[a1])).length)),(5,.int .i64 0)],[.arr 39 20 (zwc ((zud a0)++[a1])).length (fun j=>y7b ((zwc ((zud a0)++[a1])).getD j default))]⟩ hK ?_ (fun hJ => ?_);rotate_left
     ·simp only[ypi,runN,runP,yjc,nthO,ea,absV,ybc,cput,gv,sv,dn,reduceCtorEq,reduceIte,Nat.reduceBEq,Nat.reduceAdd,Nat.reduceEqDiff,Nat.reduceLT,Nat.reduceLeDiff,Nat.reduceMul,Nat.reduceSub,BEq.rfl,beq_self_eq_true,Int.reduceToNat]
      repeat' apply And.intro
      all_goals first|(refine hJ _ [4] ?_;exact sm)|exact ot
     clear hK K;refine AWP.ret ?_;subst hR;exact es
end N12
def D_zke : DF
 | [x0,x1]=>some (.tup [ownL 39 20 y7b ((zke (rdL yc x0) (rdG yc x1)).1),.int .i64 ((zke (rdL yc x0) (rdG yc x1)).2)],false,[wL 20 ye yc x0,wG ye yc x1,(rdL yc x0).length<1099511627776,∀ v∈(rdL yc x0),bdNotice v,bdNotice (rdG yc x1)])
 | _=>none
theorem y36:OkD Tryz.prog 12 D_zke:=by unfold D_zke;exact dk N12.den
theorem yyf (l:List Notice) (n:Notice) (hl:∀ m∈l,aidL m.Aid) (hn:aidL n.Aid):zke l n=znc l n:=by
 unfold zke znc;rw[yqd l hl,y0c n hn];simp only[y0i,yyg,ywe,yvh]
 cases hk:zkb l with
 | false=>rfl
 | true=>
  cases zib n with
  | false=>rfl
  | true=>
   simp only[Bool.not_true,Bool.or_false,cond_false];have hd:∀ m∈l,m.Day<=99999:=fun m hm=>yio ((y1t hk).1 m hm)
   rw[y1s l n hd]
   cases decide (0<(l.length:Int))with
   | false=>rfl
   | true=>rfl
theorem y0o (P:Notice->Prop) (l:List Notice) (n:Notice) (hl:∀ m∈l,P m) (hn:P n):(∀ m∈(znc l n).1,P m)/\(znc l n).1.length<=33:=by
 unfold znc
 cases hk:zkb l with
 | false=>exact⟨fun v hv=>by simp at hv,by simp⟩
 | true=>
  have hlen:=(y1t hk).2;simp only[Bool.not_true,Bool.false_or,ywe,yvh]
  cases(!zib n)with
  | true=>exact⟨fun v hv=>by simp at hv,by simp⟩
  | false=>
   simp only[cond_false]
   cases(decide (0<(l.length:Int)) && (decide (n.Number<=((l.getD ((IntKind.wrap .i64 ((l.length:Int)-1)).toNat) default).Number)) || decide (n.Day<((l.getD ((IntKind.wrap .i64 ((l.length:Int)-1)).toNat) default).Day))))with
   | true=>exact⟨fun v hv=>by simp at hv,by simp⟩
   | false=>
    simp only[cond_false]
    cases(!zsb l n)with
    | true=>exact⟨fun v hv=>by simp at hv,by simp⟩
    | false=>
     simp only[cond_false]
     cases((l.length:Int) == 32)with
     | true=>exact⟨fun v hv=>by simp at hv,by simp⟩
     | false=>
      refine⟨fun v hv => ?_,by simp;omega⟩;rcases List.mem_append.1 hv with h|h
      ·exact hl v h
      ·have:v=n:=by simpa using h
       subst this;exact hn
def zig (a0:(List Int)) (a1:(List Notice)) (a2:(List Aid)):Notice:=
 ((zoc (zje a0) a1 a2).1)
namespace N7
theorem DD:DOk Tryz.prog (Go.Ab.DD [(18,dP D_zje),(21,dM [true,false,false] D_zoc)]):=ya yqo.e <| ya y1v.e <| yf _
abbrev dn:=cj @D_zje.eq_1 <| @D_zoc.eq_1
theorem o1 {p:Prop} (h:p:=by(first|(exact⟨Int.le_refl _,by show(0:Int)<=400000;omega,hp0⟩));first|done|fail):p:=h
theorem den (a0:(List Int)) (a1:(List Notice)) (a2:(List Aid)) (hp0:∀ v∈a0,0<=v/\v<=255):Den Tryz.prog 7 [encL 1 eIu8 a0,encL 20 ye a1,encL 16 eAid a2] (.agg (ye (zig a0 a1 a2))):=by
 generalize hR:zig a0 a1 a2=r;unfold zig at hR;refine di Tryz.func7 Tryz.ntmps7 Tryz.results7 ?_;intro c hL hc hk;obtain⟨hL0,hL1,hL2,_⟩:=hL;have hw0:a0.length<9223372036854775808:=Nat.lt_succ_of_le (yb hL0).1;have hw1:a1.length<9223372036854775808:=Nat.lt_succ_of_le (yb hL1).1;have hw2:∀ v∈a1,bwNotice v:=fun v hv=>yi v ((yb hL1).2 v hv)
 have hw3:a2.length<9223372036854775808:=Nat.lt_succ_of_le (yb hL2).1;have hw4:∀ v∈a2,bwAid v:=fun v hv=>y3 v ((yb hL2).2 v hv)
 clear hL0 hL1 hL2;simp only[pars,Nat.zero_add];iterate 3 refine rS ?_
 refine AWP.ret ?_;subst hR;exact es
end N7
def D_zig : DF
 | [x0,x1,x2]=>some (.agg (ye (zig (rdL dIu8 x0) (rdL yc x1) (rdL dAid x2))),false,[wL 1 eIu8 dIu8 x0,wL 20 ye yc x1,wL 16 eAid dAid x2,∀ v∈(rdL dIu8 x0),0<=v/\v<=255])
 | _=>none
theorem y14:OkD Tryz.prog 7 D_zig:=by unfold D_zig;exact dk N7.den
theorem ya8 {a0:List Int} {l:List Notice} (A:List Aid) (hp0:∀ v∈a0,0<=v/\v<=255) (hN:NtsP l) (hl:l.length<=5):AidQ (zig a0 l A).Aid/\bdNotice (zig a0 l A)/\100<=(zig a0 l A).Day:=by
 have h:=y3p (n:=0) (s:=zje a0) (l:=l) (e:=A) ⟨Int.le_refl _,Int.le_refl _,hp0⟩ (by omega) (by omega);exact⟨h.2.1,h.2.1.1,h.2.2 hN.d⟩
theorem y77 {l:List Notice} {n:Notice} (hl:∀ v∈l,AidQ v.Aid) (hn:AidQ n.Aid):(∀ v∈(zke l n).1,AidQ v.Aid)/\(zke l n).1.length<=33:=by
 rw[yyf l n (fun v h=>(hl v h).l) hn.l];exact y0o (fun v=>AidQ v.Aid) l n hl hn
theorem yp8:AidQ { Number:=0,Name:=[],At:={ X:=0,Y:=0:Point },Height:=0,Mark:={ Kind:=0,Colors:=[],Shape:=[],Topmark:=[]:Mark },Light:={ Kind:=0,Group:=[],Letter:=[],Colors:=[],Period:=0:Character },Sectors:=[],Intensity:=0:Aid }:=⟨by decide,by decide,by decide⟩
theorem y19 {n:Notice} (hb:bdNotice n):(ztc n).length<=1048576:=by
 unfold ztc;have hA:aidL n.Aid:=⟨Nat.lt_of_lt_of_le hb.2.2.1.2.2 (by decide),Nat.lt_of_lt_of_le hb.2.2.2.1 (by decide)⟩
 rw[y0c n hA]
 cases h:zib n with
 | false=>simp
 | true=>
  obtain⟨n1,n2,d1,d2,hk⟩:=ylo h
  have e:∀ a b c d:List UInt8,(zub [a,b,c,d] [32]).length=a.length+(1+(b.length+(1+(c.length+(1+d.length))))):=fun a b c d=>by
   show(Lib.join [a,b,c,d] [32]).length=_;rw[yvbb];simp only[List.length_append,List.length_cons,List.length_nil];first|done|omega
  have k1:=yrc n.Number;have k2:=yno n.Day;have k3:=y8q n.Kind;have k4:=ywl n.Aid hb;have k5:=yrc n.Target;have kt:0<=n.Target/\n.Target<=9999:=by omega
  simp only[Bool.not_true,cond_false]
  cases zpc n with
  | true=>rw[cond_true,e];omega
  | false=>rw[cond_false,e];omega
def zjg (a0:(List Notice)):(Int×Int):=
 (bif (!(ztb a0))then(0,1)else(bif ((a0.length:Int) == 0)then(1,0)else(bif (!(zgd (IntKind.wrap .i64 (((a0.getD ((IntKind.wrap .i64 ((a0.length:Int)-1)).toNat) default).Number)+1))))then(0,6)else(IntKind.wrap .i64 (((a0.getD ((IntKind.wrap .i64 ((a0.length:Int)-1)).toNat) default).Number)+1),0))))
namespace N13
theorem DD:DOk Tryz.prog (Go.Ab.DD [(35,dP D_ztb),(39,dP D_zgd)]):=ya yek.e <| ya y5o.e <| yf _
abbrev dn:=cj @D_ztb.eq_1 <| @D_zgd.eq_1
theorem gr {p:Prop} (h:p:=by(grind [yjg]);first|done|fail):p:=h
theorem den (a0:(List Notice)) (hb0:a0.length<1099511627776) (hb1:∀ v∈a0,bdNotice v):Den Tryz.prog 13 [encL 20 ye a0] (.tup [.int .i64 ((zjg a0).1),.int .i64 ((zjg a0).2)]):=by
 generalize hR:zjg a0=r;unfold zjg at hR;refine di Tryz.func13 Tryz.ntmps13 Tryz.results13 ?_;intro c hL hc hk;obtain⟨hL0,_⟩:=hL;have hw0:a0.length<9223372036854775808:=Nat.lt_succ_of_le (yb hL0).1;have hw1:∀ v∈a0,bwNotice v:=fun v hv=>yi v ((yb hL0).2 v hv)
 clear hL0;simp only[pars,Nat.zero_add];iterate 2 refine rS ?_
 refine AWP.cond rfl (fun hb => ?_) (fun hb => ?_)
 ·replace hR:=ct hR
  refine rS ?_;refine AWP.ret ?_;subst hR;exact es
 ·replace hR:=cf hR
  refine rS ?_;refine AWP.cond rfl (fun hb => ?_) (fun hb => ?_)
  ·replace hR:=ct hR
   refine rS ?_;refine AWP.ret ?_;subst hR;exact es
  ·replace hR:=cf hR
   iterate 2 refine rS ?_
   refine AWP.cond rfl (fun hb => ?_) (fun hb => ?_)
   ·replace hR:=ct hR
    refine rS ?_;refine AWP.ret ?_;subst hR;exact es
   ·replace hR:=cf hR
    refine rS ?_;refine AWP.ret ?_;subst hR;exact es
end N13
def D_zjg : DF
 | [x0]=>some (.tup [.int .i64 ((zjg (rdL yc x0)).1),.int .i64 ((zjg (rdL yc x0)).2)],false,[wL 20 ye yc x0,(rdL yc x0).length<1099511627776,∀ v∈(rdL yc x0),bdNotice v])
 | _=>none
theorem y85:OkD Tryz.prog 13 D_zjg:=by unfold D_zjg;exact dk N13.den
def y2m (a0:(List Int)) (a1:(List Int)) (i1:Nat) (s1:Unit):Except (Bool) (Unit):=
 (bif ((a0.getD i1 default) != (a1.getD i1 default))then .error false else .ok ())
def zif (a0:(List Int)) (a1:(List Int)):Bool:=
 (bif ((a0.length:Int) != (a1.length:Int))then false else(match yh (y2m a0 a1) (a0.length-0) 0 ()with|.error e=>e|.ok s1=>true))
namespace N17
theorem DD:DOk Tryz.prog (Go.Ab.DD []):=yf _
theorem den (a0:(List Int)) (a1:(List Int))  : Den Tryz.prog 17 [encL 1 yx a0,encL 1 yx a1] (.bool (zif a0 a1)):=by
 generalize hR:zif a0 a1=r;unfold zif at hR;refine di Tryz.func17 Tryz.ntmps17 Tryz.results17 ?_;intro c hL hc hk;obtain⟨hL0,hL1,_⟩:=hL;have hw0:a0.length<9223372036854775808:=Nat.lt_succ_of_le (yb hL0).1;have hw1:a1.length<9223372036854775808:=Nat.lt_succ_of_le (yb hL1).1;clear hL0 hL1;simp only[pars,Nat.zero_add];iterate 2 refine rS ?_
 refine AWP.cond rfl (fun hb => ?_) (fun hb => ?_)
 ·replace hR:=ct hR
  refine rS ?_;refine AWP.ret ?_;subst hR;exact es
 ·replace hR:=cf hR
  refine rS ?_;refine AWP.block ?_;generalize hz1:yh (y2m a0 a1) (a0.length-0) 0 ()=z1 at hR;refine AWP.range (y2m a0 a1) (fun i1 s1=>⟨[(0,encL 1 yx a0),(1,encL 1 yx a1),(5,.int .i64 (i1:Int))],[]⟩) (fun i1 s1=>True) (a0.length) 0 () [] hz1 ot wt sm ?_;clear hz1;intro i1 s1 hi1 hW1 hz1;refine rS ?_;refine AWP.cond rfl (fun hb => ?_) (fun hb => ?_)
  ·have hlt1:i1<a0.length:=ot
   rw[yl hlt1]at hz1;simp only[y2m]at hz1;refine rD 8 ?_;refine AWP.cond rfl (fun hb => ?_) (fun hb => ?_)
   ·simp only[hb,cond_true]at hz1
    refine rS ?_;refine AWP.ret ?_;subst hz1;dsimp only at hR;subst hR;exact es
   ·simp only[hb,cond_false]at hz1
    refine rS ?_;exact⟨_,[],hlt1,wt,hz1,sm⟩
  ·obtain rfl:i1=a0.length:=ot
   rw[yk (Nat.le_refl _)]at hz1;subst hz1;dsimp only at hR;refine AWP.exit ?_;refine yd ?_;refine rS ?_;refine AWP.ret ?_;subst hR;exact es
end N17
def D_zif : DF
 | [x0,x1]=>some (.bool (zif (rdL ynb x0) (rdL ynb x1)),false,[wL 1 yx ynb x0,wL 1 yx ynb x1])
 | _=>none
theorem y25:OkD Tryz.prog 17 D_zif:=by unfold D_zif;exact dk N17.den
def zsh (a0:(List Int)) (a1:(List Int)):Bool:=
 (decide (1048576<(a0.length:Int)) || decide (1048576<(a1.length:Int)))
namespace N4
theorem DD:DOk Tryz.prog (Go.Ab.DD []):=yf _
theorem den (a0:(List Int)) (a1:(List Int))  : Den Tryz.prog 4 [encL 1 eIu8 a0,encL 1 eIu8 a1] (.bool (zsh a0 a1)):=by
 generalize hR:zsh a0 a1=r;unfold zsh at hR;refine di Tryz.func4 Tryz.ntmps4 Tryz.results4 ?_;intro c hL hc hk;obtain⟨hL0,hL1,_⟩:=hL;have hw0:a0.length<9223372036854775808:=Nat.lt_succ_of_le (yb hL0).1;have hw1:a1.length<9223372036854775808:=Nat.lt_succ_of_le (yb hL1).1;clear hL0 hL1;simp only[pars,Nat.zero_add];iterate 2 refine rS ?_
 refine AWP.ret ?_;subst hR;exact es
end N4
def D_zsh : DF
 | [x0,x1]=>some (.bool (zsh (rdL dIu8 x0) (rdL dIu8 x1)),false,[wL 1 eIu8 dIu8 x0,wL 1 eIu8 dIu8 x1])
 | _=>none
theorem yd5:OkD Tryz.prog 4 D_zsh:=by unfold D_zsh;exact dk N4.den
def zth (a0:Notice):Bool:=
 (zib a0)
namespace N8
theorem DD:DOk Tryz.prog (Go.Ab.DD [(22,dP D_zib)]):=ya yeo.e <| yf _
abbrev dn:=@D_zib.eq_1
theorem den (a0:Notice) (hb0:bdNotice a0):Den Tryz.prog 8 [.agg (ye a0)] (.bool (zth a0)):=by
 generalize hR:zth a0=r;unfold zth at hR;refine di Tryz.func8 Tryz.ntmps8 Tryz.results8 ?_;intro c hL hc hk;obtain⟨hL0,_⟩:=hL;have hw0:bwNotice a0:=yi a0 hL0;clear hL0;simp only[pars,Nat.zero_add];iterate 2 refine rS ?_
 refine AWP.ret ?_;subst hR;exact es
end N8
def D_zth : DF
 | [x0]=>some (.bool (zth (rdG yc x0)),false,[wG ye yc x0,bdNotice (rdG yc x0)])
 | _=>none
theorem yr5:OkD Tryz.prog 8 D_zth:=by unfold D_zth;exact dk N8.den
def zdi (a0:(List Int)) (a1:(List Int)) (qa:List Aid) (ql:List Notice) (qn:Notice) (t1:Unit):Bool:=
 (bnd (zke ql qn) fun qx=>(bif ((qx.2 != 0) || (qn.Kind == 4))then((qx.2 == 0) || ((qx.1.length:Int) == 0))else(bnd (zjg qx.1) fun qb=>(bif (qb.2 != 0)then(qb.2 == 6)else(bnd (zke qx.1 ({ Number:=qb.1,Day:=qn.Day,Kind:=4,Target:=qn.Number,Aid:={ Number:=0,Name:=[],At:={ X:=0,Y:=0:Point },Height:=0,Mark:={ Kind:=0,Colors:=[],Shape:=[],Topmark:=[]:Mark },Light:={ Kind:=0,Group:=[],Letter:=[],Colors:=[],Period:=0:Character },Sectors:=[],Intensity:=0:Aid }:Notice })) fun qg=>(bif (qg.2 == 5)then true else(((((((qg.2 == 0) && (((zue qa ql 99999).2) == ((zue qa qg.1 99999).2))) && (zgf ((zue qa ql 99999).1) ((zue qa qg.1 99999).1))) && (((zxd ql 99999).2) == 0)) && (((zxd qg.1 99999).2) == 0)) && (zif ((zxd ql 99999).1) ((zxd qg.1 99999).1))) && (qb.1 == (IntKind.wrap .i64 (qn.Number+1))))))))))
def zci (a0:(List Int)) (a1:(List Int)):Bool:=
 (bif (zsh a0 a1)then true else(bnd (znf a0) fun qa=>(bnd (zrg a1 qa) fun ql=>(bnd (zig a0 ql qa) fun qn=>(bif (zth qn)then(bif ((!(((zkd (ztc qn))).2)) || (!(zjh [((zkd (ztc qn))).1] [qn])))then false else(zdi a0 a1 qa ql qn ()))else(zdi a0 a1 qa ql qn ()))))))
namespace N3
theorem DD:DOk Tryz.prog (Go.Ab.DD [(10,dP D_ztc),(11,dP D_zjh),(12,dP D_zke),(13,dP D_zjg),(14,dP D_zue),(15,dP D_zxd),(16,dP D_zgf),(17,dP D_zif),(4,dP D_zsh),(5,dP D_znf),(6,dP D_zrg),(7,dP D_zig),(8,dP D_zth),(9,dM [false] D_zkd)]):=ya yrx.e <| ya y94.e <| ya y36.e <| ya y85.e <| ya yg3.e <| ya y64.e <| ya yk4.e <| ya y25.e <| ya yd5.e <| ya yx5.e <| ya y75.e <| ya y14.e <| ya yr5.e <| ya y37.e <| yf _
abbrev dn:=cj @D_ztc.eq_1 <| cj @D_zjh.eq_1 <| cj @D_zke.eq_1 <| cj @D_zjg.eq_1 <| cj @D_zue.eq_1 <| cj @D_zxd.eq_1 <| cj @D_zgf.eq_1 <| cj @D_zif.eq_1 <| cj @D_zsh.eq_1 <| cj @D_znf.eq_1 <| cj @D_zrg.eq_1 <| cj @D_zig.eq_1 <| cj @D_zth.eq_1 <| @D_zkd.eq_1
theorem o0 {p:Prop} (h:p:=by(first|((repeat' with_reducible apply And.intro)<;>first|with_reducible assumption|omega|(intros;first|with_reducible assumption|omega|((repeat' with_reducible apply And.intro)<;>first|with_reducible assumption|omega))));first|done|fail):p:=h
set_option maxHeartbeats 4000000 in
set_option maxRecDepth 20000 in
theorem _root_.Go.Ab.zci_den (a0:(List Int)) (a1:(List Int)) (hp0:∀ v∈a0,0<=v/\v<=255) (hp1:∀ v∈a1,0<=v/\v<=255):Den Tryz.prog 3 [encL 1 eIu8 a0,encL 1 eIu8 a1] (.bool (zci a0 a1)):=by
 generalize hR:zci a0 a1=r;unfold zci at hR;refine di Tryz.func3 Tryz.ntmps3 Tryz.results3 ?_;intro c hL hc hk;obtain⟨hL0,hL1,_⟩:=hL;have hw0:a0.length<9223372036854775808:=Nat.lt_succ_of_le (yb hL0).1;have hw1:a1.length<9223372036854775808:=Nat.lt_succ_of_le (yb hL1).1;clear hL0 hL1;simp only[pars,Nat.zero_add];iterate 2 refine rS ?_
 refine AWP.cond rfl (fun hb => ?_) (fun hb => ?_)
 ·replace hR:=ct hR
  refine rS ?_;refine AWP.ret ?_;subst hR;exact es
 ·replace hR:=cf hR
  refine rS ?_;refine AWP.lendV 5 0 (fun j=>eAid ((znf a0).getD j default)) rfl rfl (Nat.le_refl _) lv1 lv2 ?_;simp only[setE];generalize hqa:znf a0=qa at hR ⊢;replace hR:=bn hR;obtain⟨hA,hA5⟩:okP AidQ qa/\qa.length<=5:=by rw[<- hqa];exact y3x a0 hp0
  have hAb:=fun v h=>(hA.2 v h).1
  refine rS ?_;generalize hql:zrg a1 qa=ql at hR ⊢;replace hR:=bn hR;obtain⟨hN,hN5⟩:NtsP ql/\ql.length<=5:=by rw[<- hql];exact yh2 a1 qa hp1
  have hNb:∀ v∈ql,bdNotice v:=fun v h=>(hN.q v h).1
  refine rS ?_;generalize hqn:zig a0 ql qa=qn at hR ⊢;replace hR:=bn hR;obtain⟨hnq,hnb,hnd⟩:AidQ qn.Aid/\bdNotice qn/\100<=qn.Day:=by rw[<- hqn];exact ya8 qa hp0 hN hN5
  have htx:=y19 hnb;refine AWP.seq ?_;refine AWP.joinC (fun t1:Unit=>⟨[(5,encL 16 eAid qa),(6,encL 20 ye ql),(7,.ptr 0 0)],[.box [.int .i64 qn.Number,.int .i64 qn.Day,.int .i64 qn.Kind,.int .i64 qn.Target,.int .i64 qn.Aid.Number,.str qn.Aid.Name,.int .i64 qn.Aid.At.X,.int .i64 qn.Aid.At.Y,.int .i64 qn.Aid.Height,.int .i64 qn.Aid.Mark.Kind,.str qn.Aid.Mark.Colors,.str qn.Aid.Mark.Shape,.str qn.Aid.Mark.Topmark,.int .i64 qn.Aid.Light.Kind,encL 1 yx qn.Aid.Light.Group,.str qn.Aid.Light.Letter,.str qn.Aid.Light.Colors,.int .i64 qn.Aid.Light.Period,encL 3 yr qn.Aid.Sectors,.int .i64 qn.Aid.Intensity]]⟩) (fun t1=>zdi a0 a1 qa ql qn t1=r) ?_ (fun t1 hV1 => ?_)
  ·refine rS ?_
   refine AWP.cond rfl (fun hb => ?_) (fun hb => ?_)
   ·replace hR:=ct hR
    iterate 2 refine rS ?_
    refine AWP.cond rfl (fun hb => ?_) (fun hb => ?_)
    ·replace hR:=ct hR
     refine rS ?_;refine AWP.ret ?_;subst hR;exact es
    ·replace hR:=cf hR
     refine AWP.skip ?_;exact Meet.end () [1] hR sm
   ·replace hR:=cf hR
    refine AWP.skip ?_;exact Meet.end () [1] hR sm
  ·clear hR
   have hR:=hV1;unfold zdi at hR;refine rS ?_;refine AWP.lendV 10 1 (fun j=>ye (((zke ql qn).1).getD j default)) rfl rfl (Nat.le_refl _) lv1 lv2 ?_;simp only[setE];generalize hqx:zke ql qn=qx at hR ⊢;replace hR:=bn hR;obtain⟨g1,g2⟩:(∀ v∈qx.1,AidQ v.Aid)/\qx.1.length<=33:=by rw[<- hqx];exact y77 hN.q hnq
   have g1b:=fun v h=>(g1 v h).1
   refine rS ?_;refine AWP.cond rfl (fun hb => ?_) (fun hb => ?_)
   ·replace hR:=ct hR
    refine rS ?_;refine AWP.ret ?_;subst hR;exact es
   ·replace hR:=cf hR
    refine rS ?_;generalize hqb:zjg qx.1=qb at hR ⊢;replace hR:=bn hR;refine rS ?_;refine AWP.cond rfl (fun hb => ?_) (fun hb => ?_)
    ·replace hR:=ct hR
     refine rS ?_;refine AWP.ret ?_;subst hR;exact es
    ·replace hR:=cf hR
     refine rS ?_;refine AWP.lendV 14 2 (fun j=>ye (((zke qx.1 ({ Number:=qb.1,Day:=qn.Day,Kind:=4,Target:=qn.Number,Aid:={ Number:=0,Name:=[],At:={ X:=0,Y:=0:Point },Height:=0,Mark:={ Kind:=0,Colors:=[],Shape:=[],Topmark:=[]:Mark },Light:={ Kind:=0,Group:=[],Letter:=[],Colors:=[],Period:=0:Character },Sectors:=[],Intensity:=0:Aid }:Notice })).1).getD j default)) rfl rfl (Nat.le_refl _) lv1 lv2 ?_;simp only[setE];generalize hqg:zke qx.1 ({ Number:=qb.1,Day:=qn.Day,Kind:=4,Target:=qn.Number,Aid:={ Number:=0,Name:=[],At:={ X:=0,Y:=0:Point },Height:=0,Mark:={ Kind:=0,Colors:=[],Shape:=[],Topmark:=[]:Mark },Light:={ Kind:=0,Group:=[],Letter:=[],Colors:=[],Period:=0:Character },Sectors:=[],Intensity:=0:Aid }:Notice })=qg at hR ⊢;replace hR:=bn hR;obtain⟨g3,g4⟩:(∀ v∈qg.1,AidQ v.Aid)/\qg.1.length<=33:=by rw[<- hqg];exact y77 g1 yp8
     have g3b:=fun v h=>(g3 v h).1
     refine rS ?_;refine AWP.lendV 16 3 (fun j=>eAid (((zue qa ql 99999).1).getD j default)) rfl rfl (Nat.le_refl _) lv1 lv2 ?_;simp only[setE];refine rS ?_;refine AWP.lendV 18 4 (fun j=>eAid (((zue qa qg.1 99999).1).getD j default)) rfl rfl (Nat.le_refl _) lv1 lv2 ?_;simp only[setE];iterate 3 refine rS ?_
     refine AWP.cond rfl (fun hb => ?_) (fun hb => ?_)
     ·replace hR:=ct hR
      refine rS ?_;refine AWP.ret ?_;subst hR;exact es
     ·replace hR:=cf hR
      refine rS ?_;refine AWP.ret ?_;subst hR;exact es
end N3
end Go.Ab
