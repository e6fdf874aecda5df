/- A part of a proof: walks of functions and lemmas of our own. No conditions. -/
import Derived.Test.YtbgiihoaldolfaaGreatCAl
import Derived.Test.YtbgiihoaldolfaaGreatCAz
import Derived.Test.YtbgiihoaldolfaaGreatCAi
import Derived.Test.YtbgiihoaldolfaaGreatCAq
import Derived.Test.YtbgiihoaldolfaaGreatCAy
import Derived.Test.YtbgiihoaldolfaaGreatCAs
import Derived.Test.YtbgiihoaldolfaaGreatCAk
import Derived.Test.YtbgiihoaldolfaaGreatCAx
import Derived.Test.YtbgiihoaldolfaaGreatCAo
import Derived.Test.YtbgiihoaldolfaaGreatCAu
import Derived.Test.YtbgiihoaldolfaaGreatCAm
set_option linter.unusedSectionVars false
set_option linter.unusedVariables false
set_option linter.unusedSimpArgs false
set_option maxHeartbeats 1000000
namespace Go.Ab
open Go Go.Proofs
def ysl (a0:(List (List Int))) (a1:(List (List Int))) (i1:Nat) (s1:Unit):Except (Bool) (Unit):=
 (bif (!(zx (a0.getD i1 default) (a1.getD i1 default)))then .error false else .ok ())
def znb (a0:(List (List Int))) (a1:(List (List Int))):Bool:=
 (bif ((a0.length:Int) != (a1.length:Int))then false else(match ye (ysl a0 a1) (a0.length-0) 0 ()with|.error e=>e|.ok s1=>true))
namespace N12
theorem DD:DOk Tryz.prog (Go.Ab.DD [(11,dP D_zx)]):=yd ybm.e <| yj _
theorem dn:type_of% (@D_zx.eq_1):=by and_intros<;>intros<;>rfl
theorem den (a0:(List (List Int))) (a1:(List (List Int)))  : Den Tryz.prog 12 [encL 1 yt a0,encL 1 yt a1] (.bool (znb a0 a1)):=by
 generalize hR:znb a0 a1=r;unfold znb at hR;refine di Tryz.func12 Tryz.ntmps12 Tryz.results12 ?_;intro c hL hc hk;obtain⟨hL0,hL1,_⟩:=hL;have hw0:a0.length<9223372036854775808:=Nat.lt_succ_of_le (yc hL0).1;have hw1:∀ v∈a0,bwLIi64 v:=fun v hv=>ynb v ((yc hL0).2 v hv)
 have hw2:a1.length<9223372036854775808:=Nat.lt_succ_of_le (yc hL1).1;have hw3:∀ v∈a1,bwLIi64 v:=fun v hv=>ynb v ((yc hL1).2 v hv)
 clear hL0 hL1;simp only[pars,Nat.zero_add];iterate 2 refine rS ?_
 refine AWP.cond rfl (fun hb => ?_) (fun hb => ?_)
 ·replace hR:=ct hR
  refine rS ?_;refine AWP.ret ?_;subst hR;exact es
 ·replace hR:=cf hR
  refine rS ?_;refine AWP.block ?_;generalize hz1:ye (ysl a0 a1) (a0.length-0) 0 ()=z1 at hR;refine AWP.range (ysl a0 a1) (fun i1 s1=>⟨[(0,encL 1 yt a0),(1,encL 1 yt a1),(5,.int .i64 (i1:Int))],[]⟩) (fun i1 s1=>True) (a0.length) 0 () [] hz1 ot wt sm ?_;clear hz1;intro i1 s1 hi1 hW1 hz1;refine rS ?_;refine AWP.cond rfl (fun hb => ?_) (fun hb => ?_)
  ·have hlt1:i1<a0.length:=ot
   rw[yg hlt1]at hz1;simp only[ysl]at hz1;refine rD 8 ?_;refine AWP.cond rfl (fun hb => ?_) (fun hb => ?_)
   ·simp only[hb,cond_true]at hz1
    refine rS ?_;refine AWP.ret ?_;subst hz1;dsimp only at hR;subst hR;exact es
   ·simp only[hb,cond_false]at hz1
    refine rS ?_;exact⟨_,[],hlt1,wt,hz1,sm⟩
  ·obtain rfl:i1=a0.length:=ot
   rw[yh (Nat.le_refl _)]at hz1;subst hz1;dsimp only at hR;refine AWP.exit ?_;refine yb ?_;refine rS ?_;refine AWP.ret ?_;subst hR;exact es
end N12
def D_znb : DF
 | [x0,x1]=>some (.bool (znb (rdL yv x0) (rdL yv x1)),false,[wL 1 yt yv x0,wL 1 yt yv x1])
 | _=>none
theorem y7r:OkD Tryz.prog 12 D_znb:=by unfold D_znb;exact dk N12.den
theorem ywr (a b:List Int):zx a b=decide (a=b):=by
 unfold zx;by_cases hl:a.length=b.length
 ·have h1:((a.length:Int) != (b.length:Int))=false:=by simp[hl]
  rw[h1,cond_false,y2e (b:=y8s a b) (fun j => !decide (a.getD j default=b.getD j default)) false (fun j u _ _=>by simp only[y8s,ned])];simp only[Nat.sub_zero,Nat.zero_add];rw[ysr a b hl];by_cases h:a=b<;>simp[h]
 ·have h1:((a.length:Int) != (b.length:Int))=true:=by simp;omega
  have h2:¬ a=b:=fun e=>hl (by rw[e])
  rw[h1,cond_true,decide_eq_false h2]
theorem yav (a b:List (List Int)):znb a b=decide (a=b):=by
 unfold znb;by_cases hl:a.length=b.length
 ·have h1:((a.length:Int) != (b.length:Int))=false:=by simp[hl]
  rw[h1,cond_false,y2e (b:=ysl a b) (fun j => !decide (a.getD j default=b.getD j default)) false (fun j u _ _=>by simp only[ysl,ywr])];simp only[Nat.sub_zero,Nat.zero_add];rw[ysr a b hl];by_cases h:a=b<;>simp[h]
 ·have h1:((a.length:Int) != (b.length:Int))=true:=by simp;omega
  have h2:¬ a=b:=fun e=>hl (by rw[e])
  rw[h1,cond_true,decide_eq_false h2]
def zpd (a0:Character) (a1:Character):Bool:=
 (bif (a0.Kind != a1.Kind)then false else(bif (!(zx a0.Group a1.Group))then false else(bif (a0.Letter != a1.Letter)then false else(bif (a0.Colors != a1.Colors)then false else(bif (a0.Period != a1.Period)then false else true)))))
namespace N31
theorem DD:DOk Tryz.prog (Go.Ab.DD [(11,dP D_zx)]):=yd ybm.e <| yj _
theorem dn:type_of% (@D_zx.eq_1):=by and_intros<;>intros<;>rfl
theorem den (a0:Character) (a1:Character)  : Den Tryz.prog 31 [.agg (eCharacter a0),.agg (eCharacter a1)] (.bool (zpd a0 a1)):=by
 generalize hR:zpd a0 a1=r;unfold zpd at hR;refine di Tryz.func31 Tryz.ntmps31 Tryz.results31 ?_;intro c hL hc hk;obtain⟨hL0,hL1,_⟩:=hL;have hw0:bwCharacter a0:=yf a0 hL0;have hw1:bwCharacter a1:=yf a1 hL1;clear hL0 hL1;simp only[pars,Nat.zero_add];iterate 2 refine rS ?_
 refine AWP.cond rfl (fun hb => ?_) (fun hb => ?_)
 ·replace hR:=ct hR
  refine rS ?_;refine AWP.ret ?_;subst hR;exact es
 ·replace hR:=cf hR
  refine rS ?_;refine AWP.cond rfl (fun hb => ?_) (fun hb => ?_)
  ·replace hR:=ct hR
   refine rS ?_;refine AWP.ret ?_;subst hR;exact es
  ·replace hR:=cf hR
   refine rS ?_;refine AWP.cond rfl (fun hb => ?_) (fun hb => ?_)
   ·replace hR:=ct hR
    refine rS ?_;refine AWP.ret ?_;subst hR;exact es
   ·replace hR:=cf hR
    refine rS ?_;refine AWP.cond rfl (fun hb => ?_) (fun hb => ?_)
    ·replace hR:=ct hR
     refine rS ?_;refine AWP.ret ?_;subst hR;exact es
    ·replace hR:=cf hR
     refine rS ?_;refine AWP.cond rfl (fun hb => ?_) (fun hb => ?_)
     ·replace hR:=ct hR
      refine rS ?_;refine AWP.ret ?_;subst hR;exact es
     ·replace hR:=cf hR
      refine rS ?_;refine AWP.ret ?_;subst hR;exact es
end N31
def D_zpd : DF
 | [x0,x1]=>some (.bool (zpd (rdG ya x0) (rdG ya x1)),false,[wG eCharacter ya x0,wG eCharacter ya x1])
 | _=>none
theorem ydy:OkD Tryz.prog 31 D_zpd:=by unfold D_zpd;exact dk N31.den
def yll (a0:(List Character)) (a1:(List Character)) (i1:Nat) (s1:Unit):Except (Bool) (Unit):=
 (bif (!(zpd (a0.getD i1 default) (a1.getD i1 default)))then .error false else .ok ())
def zob (a0:(List Character)) (a1:(List Character)):Bool:=
 (bif ((a0.length:Int) != (a1.length:Int))then false else(match ye (yll a0 a1) (a0.length-0) 0 ()with|.error e=>e|.ok s1=>true))
namespace N13
theorem DD:DOk Tryz.prog (Go.Ab.DD [(31,dP D_zpd)]):=yd ydy.e <| yj _
theorem dn:type_of% (@D_zpd.eq_1):=by and_intros<;>intros<;>rfl
theorem den (a0:(List Character)) (a1:(List Character))  : Den Tryz.prog 13 [encL 5 eCharacter a0,encL 5 eCharacter a1] (.bool (zob a0 a1)):=by
 generalize hR:zob a0 a1=r;unfold zob at hR;refine di Tryz.func13 Tryz.ntmps13 Tryz.results13 ?_;intro c hL hc hk;obtain⟨hL0,hL1,_⟩:=hL;have hw0:a0.length<9223372036854775808:=Nat.lt_succ_of_le (yc hL0).1;have hw1:∀ v∈a0,bwCharacter v:=fun v hv=>yf v ((yc hL0).2 v hv)
 have hw2:a1.length<9223372036854775808:=Nat.lt_succ_of_le (yc hL1).1;have hw3:∀ v∈a1,bwCharacter v:=fun v hv=>yf v ((yc hL1).2 v hv)
 clear hL0 hL1;simp only[pars,Nat.zero_add];iterate 2 refine rS ?_
 refine AWP.cond rfl (fun hb => ?_) (fun hb => ?_)
 ·replace hR:=ct hR
  refine rS ?_;refine AWP.ret ?_;subst hR;exact es
 ·replace hR:=cf hR
  refine rS ?_;refine AWP.block ?_;generalize hz1:ye (yll a0 a1) (a0.length-0) 0 ()=z1 at hR;refine AWP.range (yll a0 a1) (fun i1 s1=>⟨[(0,encL 5 eCharacter a0),(1,encL 5 eCharacter a1),(5,.int .i64 (i1:Int))],[]⟩) (fun i1 s1=>True) (a0.length) 0 () [] hz1 ot wt sm ?_;clear hz1;intro i1 s1 hi1 hW1 hz1;refine rS ?_;refine AWP.cond rfl (fun hb => ?_) (fun hb => ?_)
  ·have hlt1:i1<a0.length:=ot
   rw[yg hlt1]at hz1;simp only[yll]at hz1;refine rD 8 ?_;refine AWP.cond rfl (fun hb => ?_) (fun hb => ?_)
   ·simp only[hb,cond_true]at hz1
    refine rS ?_;refine AWP.ret ?_;subst hz1;dsimp only at hR;subst hR;exact es
   ·simp only[hb,cond_false]at hz1
    refine rS ?_;exact⟨_,[],hlt1,wt,hz1,sm⟩
  ·obtain rfl:i1=a0.length:=ot
   rw[yh (Nat.le_refl _)]at hz1;subst hz1;dsimp only at hR;refine AWP.exit ?_;refine yb ?_;refine rS ?_;refine AWP.ret ?_;subst hR;exact es
end N13
def D_zob : DF
 | [x0,x1]=>some (.bool (zob (rdL ya x0) (rdL ya x1)),false,[wL 5 eCharacter ya x0,wL 5 eCharacter ya x1])
 | _=>none
theorem yvr:OkD Tryz.prog 13 D_zob:=by unfold D_zob;exact dk N13.den
theorem yf0 (a b:Character):zpd a b=decide (a=b):=by
 unfold zpd;simp only[ywr];by_cases h:a=b
 ·subst h;simp
 ·rw[decide_eq_false h]
  cases a;cases b
  simp only[Character.mk.injEq]at h;simp only[bne_iff_ne,Bool.cond_eq_ite,ite_eq_right_iff]
  (repeat' split)<;>simp_all
theorem ytv (a b:List Character):zob a b=decide (a=b):=by
 unfold zob;by_cases hl:a.length=b.length
 ·have h1:((a.length:Int) != (b.length:Int))=false:=by simp[hl]
  rw[h1,cond_false,y2e (b:=yll a b) (fun j => !decide (a.getD j default=b.getD j default)) false (fun j u _ _=>by simp only[yll,yf0])];simp only[Nat.sub_zero,Nat.zero_add];rw[ysr a b hl];by_cases h:a=b<;>simp[h]
 ·have h1:((a.length:Int) != (b.length:Int))=true:=by simp;omega
  have h2:¬ a=b:=fun e=>hl (by rw[e])
  rw[h1,cond_true,decide_eq_false h2]
def zhe (a0:List (List Int)) (a1:Int) (a2:List Character) (a3 a4:Int):List Int×Int:=
 bif (zyc a0 a1 a2 a3 a4) != 0 then([],zyc a0 a1 a2 a3 a4)else
  (bif (iS (a1.toNat:Int) a2.length (befP a1.toNat a0) (clP a2 a3) 12 a1.toNat [] a4).1 != 0 then([],(iS (a1.toNat:Int) a2.length (befP a1.toNat a0) (clP a2 a3) 12 a1.toNat [] a4).1)else((iS (a1.toNat:Int) a2.length (befP a1.toNat a0) (clP a2 a3) 12 a1.toNat [] a4).2.1,0))
namespace N10
theorem DD:DOk Tryz.prog (Go.Ab.DD [(28,dP D_zyc),(33,dP D_impl_choosing_different)]):=yd y3q.e <| yd yjb.e <| yj _
theorem dnG:type_of% (And.intro @D_zyc.eq_1 <| @D_impl_choosing_different.eq_1):=by and_intros<;>intros<;>rfl
theorem o0 {p:Prop} (h:p:=by(first|exact hob);(first|done|fail)):p:=h
set_option maxHeartbeats 4000000 in
set_option maxRecDepth 40000 in
theorem den (a0:List (List Int)) (a1:Int) (a2:List Character) (a3 a4:Int) (hl0:a0.length<=1048576) (hp0:∀ v∈a0,bdLIi64 v) (hl2:a2.length<=1048576) (hp2:∀ v∈a2,bdCharacter v) :
  Den Tryz.prog 10 [encL 1 yt a0,.int .i64 a1,encL 5 eCharacter a2,.int .i64 a3,.int .i64 a4] (.tup [ownL 2 1 yi (zhe a0 a1 a2 a3 a4).1,.int .i64 (zhe a0 a1 a2 a3 a4).2]):=by
 generalize hR:zhe a0 a1 a2 a3 a4=r;unfold zhe at hR;refine di Tryz.func10 Tryz.ntmps10 Tryz.results10 ?_;intro c hL hc hk0;clear hL;have hcl:=ypq a2 a3;have hk:=And.intro hk0 yac;have dn:=And.intro dnG (And.intro yfe (And.intro y7e (And.intro y0d (And.intro @rdBf.eq_1 (And.intro @rdCl.eq_1 (And.intro @rdCh.eq_1 (choF hcl)))))));simp only[pars,Nat.zero_add];refine rS ?_;refine rS ?_;refine rS ?_;try refine AWP.seq ?_
 refine AWP.cond rfl (fun hb => ?_) (fun hb => ?_)
 ·rw[hb,cond_true]at hR
  refine rS ?_;refine AWP.ret ?_;subst hR;exact es
 ·rw[hb,cond_false]at hR
  have hask:=yai (a0:=a0) (a1:=a1) (a2:=a2) (a3:=a3) (a4:=a4) (by rw[<- ylh hl0 hp2];simpa using hb);obtain⟨n,rfl⟩:∃ n:Nat,a1=(n:Int):=⟨a1.toNat,by have:=hask.pr.n0;omega⟩
  simp only[Int.toNat_natCast]at hR;have hn9:=hask.pr.n1;have hf9:=hask.few;have hb9:=hask.bud;have hcho:=ymz (a3:=a3) hask.pr hl0 hask.few;have hcv:∀ v∈a2,zg v=true/\bdCharacter v:=fun v hv=>⟨hask.chs v hv,hp2 v hv⟩
  have hcd:=N29.den a0 n a2 a3 hask.pr hl0 hask.few hcv hask.tol;refine AWP.skip ?_;repeat refine AWP.seq ?_
  refine AWP.callI G_ok DD hc 4 hcd (by rw[hk0];exact Nat.le_refl _) rfl (by kernel_rfl) rfl rfl (fun K hK => ?_);simp only[yke,choH,choC,ypc,y3c,Nat.blt,Nat.ble,List.map,List.take,List.append,ea,absV,absVL,cput,gv,sv,dn,reduceCtorEq,reduceIte,Nat.reduceBEq,Nat.reduceAdd,Nat.reduceEqDiff,Nat.reduceLT,Nat.reduceLeDiff,Nat.reduceMul,Nat.reduceSub,BEq.rfl,beq_self_eq_true,Int.reduceToNat];refine hK _ ?_;clear hK K;refine rS ?_;refine AWP.nilB 0 149 2 1 (fun j=>yi (([]:List Int).getD j default)) (rest:=[]) rfl (by show dropL 146 ((clP a2 a3).map AV.bool++[AV.int .i64 a4,.int .i64 12,.nils])=_;rw[(choF hcl).2.2.1];rfl) ?_;simp only[setE,putL,(choF hcl).2.2.2.2.2.1,List.length_cons,List.length_nil,Nat.reduceAdd,List.cons_append,List.nil_append];have hrn:=N30.den (n:Int) a2.length (befP n a0) (clP a2 a3) 12 hcho (by omega) n [] a4 (by simp) (fun v hv=>by cases hv) (by omega);generalize iS (n:Int) a2.length (befP n a0) (clP a2 a3) 12 n [] a4=p at hrn hR;repeat refine AWP.seq ?_
  refine AWP.callI G_ok DD hc 1 hrn (by rw[hk0];exact Nat.zero_le _) rfl (by kernel_rfl) rfl rfl (fun K hK => ?_);simp only[yke,choH,choC,ypc,y3c,Nat.blt,Nat.ble,List.map,List.take,List.append,ea,absV,absVL,cput,gv,sv,dn,reduceCtorEq,reduceIte,Nat.reduceBEq,Nat.reduceAdd,Nat.reduceEqDiff,Nat.reduceLT,Nat.reduceLeDiff,Nat.reduceMul,Nat.reduceSub,BEq.rfl,beq_self_eq_true,Int.reduceToNat];refine hK _ ?_;clear hK K;refine rS ?_;try refine AWP.seq ?_
  refine AWP.cond rfl (fun hb2 => ?_) (fun hb2 => ?_)
  ·rw[hb2,cond_true]at hR
   refine rS ?_;refine AWP.ret ?_;subst hR;exact es
  ·rw[hb2,cond_false]at hR
   refine AWP.skip ?_;refine rS ?_;refine AWP.ret ?_;subst hR;exact es
end N10
def zqc (a0:(List (List Int))) (a1:Int) (a2:(List Character)) (a3:Int) (a4:Int):((List Int)×Int):=zhe a0 a1 a2 a3 a4
theorem yp0 (a0:List (List Int)) (a1:Int) (a2:List Character) (a3 a4:Int) (hp0:a0.length<=1048576) (hp1:∀ v∈a0,bdLIi64 v) (hp2:a2.length<=1048576) (hp3:∀ v∈a2,bdCharacter v):Den Tryz.prog 10 [encL 1 yt a0,.int .i64 a1,encL 5 eCharacter a2,.int .i64 a3,.int .i64 a4] (.tup [ownL 2 1 yi (zqc a0 a1 a2 a3 a4).1,.int .i64 (zqc a0 a1 a2 a3 a4).2]):=N10.den a0 a1 a2 a3 a4 hp0 hp1 hp2 hp3
def D_zqc : DF
 | [x0,x1,x2,x3,x4]=>some (.tup [ownL 2 1 yi (zqc (rdL yv x0) (rdI x1) (rdL ya x2) (rdI x3) (rdI x4)).1,.int .i64 (zqc (rdL yv x0) (rdI x1) (rdL ya x2) (rdI x3) (rdI x4)).2],false,[wL 1 yt yv x0,wI .i64 x1,wL 5 eCharacter ya x2,wI .i64 x3,wI .i64 x4,(rdL yv x0).length<=1048576,∀ v∈(rdL yv x0),bdLIi64 v,(rdL ya x2).length<=1048576,∀ v∈(rdL ya x2),bdCharacter v])
 | _=>none
theorem yjy:OkD Tryz.prog 10 D_zqc:=by unfold D_zqc;exact dk yp0
namespace N23
theorem DD:DOk Tryz.prog (Go.Ab.DD [(38,dP D_zj)]):=yd y30.e <| yj _
theorem dn:type_of% (@D_zj.eq_1):=by intros;rfl
set_option maxHeartbeats 4000000 in
set_option maxRecDepth 40000 in
theorem den (a0:List (List Int)) (n:Nat) (a2:List Character) (a3 a4:Int) (ho:PairsOk n a0) (hl0:a0.length<=1048576) (hm:a2.length<=12) (hv:∀ v∈a2,zg v=true/\bdCharacter v) (ht:0<=a3/\a3<=20) :
    DenI Tryz.prog 23 0 [] [encL 1 yt a0,.int .i64 (n:Int),encL 5 eCharacter a2,.int .i64 a3,.int .i64 a4] (runH (befP n a0) (zj a2 a3) 0 a4 [] (List.replicate a2.length (0:Int)) 0 false) (.ptr 0 0):=by
  refine dIL Tryz.func23 Tryz.ntmps23 Tryz.results23 ?_;intro c u hdp hlit hL hc hk0;obtain⟨n0,n1,hrow⟩:=ho;have hlit2:=hlit;simp only[litN,lit1,litR,encL]at hlit2;obtain⟨hl1,hl2,_⟩:=hlit2;have hk:=hk0;unfold runH;simp only[pars,Nat.zero_add,litN,lit1,encL];refine rS ?_;repeat refine AWP.seq ?_
  refine AWP.regP mixed G_ok DD hc 7 [0,1,3,4,6] (.alt 2 [] [3,4,6] (.alt 5 [] [6] .leaf .stop) (.alt 5 [] [0,1,6] (.alt 2 [] [6] .leaf .stop) .stop)) (by kernel_rfl) (by kernel_rfl) (by kernel_rfl) (fun K hK => ?_);refine yly ⟨[(0,.lit (u 0) (encL 1 yt a0)),(1,.int .i64 (n:Int)),(2,.lit (u 2) (encL 5 eCharacter a2)),(3,.int .i64 a3),(4,.int .i64 a4),(11,.ptr 0 0)],[.box [.nils,.ref 1 1 0 (zj a2 a3).length,.nils,.ref 2 1 0 a2.length,.int .i64 0,.int .i64 0,.int .i64 a4,.bool false],.arr 68 1 (zj a2 a3).length (fun j=>eLBO ((zj a2 a3).getD j default)),.arr 2 1 a2.length (fun j=>[.int .i64 0])]⟩ hK ?_ (fun hJ => ?_);rotate_left
  . simp only[yjj,runN,runP,yec,nthO,List.append,ea,absV,absVL,cput,gv,sv,dn,reduceCtorEq,reduceIte,Nat.reduceBEq,Nat.reduceAdd,Nat.reduceEqDiff,Nat.reduceLT,Nat.reduceLeDiff,Nat.reduceMul,Nat.reduceSub,BEq.rfl,beq_self_eq_true,Int.reduceToNat];repeat' apply And.intro
    all_goals first|omega|(refine hJ _ [2,0,1] ?_;exact sm)|(refine hJ _ [2,1,0] ?_;exact sm)|exact hm|exact hv|exact ot
  clear hK K;refine AWP.arrS 2 (fun j=>yi ((List.replicate a2.length (0:Int)).getD j default)) rfl (fun j hj => ?_) ?_
  . rw[show(List.replicate a2.length (0:Int)).getD j default=0 by rw[List.getD_eq_getElem?_getD,List.getElem?_replicate];split<;>rfl];exact yp _
  simp only[setE];refine AWP.nilB 0 0 26 1 (fun j=>yw ((List.replicate 0 (default:List Int)).getD j default)) rfl rfl ?_;simp only[setE,putL];refine rS ?_;try refine AWP.seq ?_
  refine AWP.block ?_;refine AWP.loop (ι:=Nat) (fun q=>⟨[(0,.lit (u 0) (encL 1 yt a0)),(1,.int .i64 (n:Int)),(2,.lit (u 2) (encL 5 eCharacter a2)),(3,.int .i64 a3),(4,.int .i64 a4),(11,.ptr 0 0),(12,.int .i64 ((q:Nat):Int))],[.box [.ref 1 1 0 ((List.replicate q (default:List Int))).length,.ref 2 1 0 (zj a2 a3).length,.nils,.ref 3 1 0 a2.length,.int .i64 0,.int .i64 0,.int .i64 a4,.bool false],.arr 26 1 ((List.replicate q (default:List Int))).length (fun j=>yw (((List.replicate q (default:List Int))).getD j default)),.arr 68 1 (zj a2 a3).length (fun j=>eLBO ((zj a2 a3).getD j default)),.arr 2 1 a2.length (fun j=>yi ((List.replicate a2.length (0:Int)).getD j default))]⟩) (fun q=>q<=n) (fun q=>n-q) 0 (Nat.zero_le _) [0,3,1,2] (by simp only[List.length_replicate];exact sm) ?_;intro q hq;refine rS ?_;try refine AWP.seq ?_
  refine AWP.cond rfl (fun hq1 => ?_) (fun hq1 => ?_)
  . have hlq:q<n:=by simpa using hq1
    refine AWP.skip ?_;try refine AWP.seq ?_
    refine AWP.block ?_;refine rS ?_;refine AWP.arrS 6 (fun j=>yw ((List.replicate (q+1) (default:List Int)).getD j default)) rfl (fun j hj => ?_) ?_
    . by_cases hji:j<(List.replicate q (default:List Int)).length
      . simp only[joinF,ywh hji,cond_true,yde];exact yp _
      . have e0:j-(List.replicate q (default:List Int)).length=0:=by omega
        simp only[joinF,ybj hji,cond_false,e0,elt,yde];exact⟨⟨rfl,rfl,rfl,fun i hi=>absurd hi (Nat.not_lt_zero _)⟩,trivial⟩
    simp only[setE];refine rS ?_;refine⟨q+1,[0,6,2,3],hlq,by omega,?_⟩;have e2:(((q+1:Nat)):Int)=IntKind.wrap .i64 ((q:Int)+1):=by rw[IntKind.wrap_i64];omega
    rw[e2,List.length_replicate,List.length_replicate];exact sm
  . obtain rfl : q = n := by have : ¬ (q < n) := by simpa using hq1
                             omega
    refine AWP.exit ?_;refine yb ?_;refine rS ?_;try refine AWP.seq ?_
    refine AWP.block ?_;refine AWP.loop (ι:=Nat) (fun z=>⟨[(0,.lit (u 0) (encL 1 yt a0)),(1,.int .i64 (q:Int)),(2,.lit (u 2) (encL 5 eCharacter a2)),(3,.int .i64 a3),(4,.int .i64 a4),(11,.ptr 0 0),(13,.int .i64 ((z:Nat):Int))],[.box [.ref 1 1 0 (((a0.take z).foldl befS (List.replicate q (default:List Int)))).length,.ref 2 1 0 (zj a2 a3).length,.nils,.ref 3 1 0 a2.length,.int .i64 0,.int .i64 0,.int .i64 a4,.bool false],.arr 26 1 (((a0.take z).foldl befS (List.replicate q (default:List Int)))).length (fun j=>yw ((((a0.take z).foldl befS (List.replicate q (default:List Int)))).getD j default)),.arr 68 1 (zj a2 a3).length (fun j=>eLBO ((zj a2 a3).getD j default)),.arr 2 1 a2.length (fun j=>yi ((List.replicate a2.length (0:Int)).getD j default))]⟩) (fun z=>z<=a0.length) (fun z=>a0.length-z) 0 (Nat.zero_le _) [0,1,2,3] (by simp only[List.take_zero,List.foldl_nil];exact sm) ?_;intro z hz;have hBl:((a0.take z).foldl befS (List.replicate q (default:List Int))).length=q:=by rw[yyi,List.length_replicate]
    have hBr:=y3i (List.replicate q (default:List Int)) (fun j=>by rw[yde];rfl) a0 z;generalize hB:((a0.take z).foldl befS (List.replicate q (default:List Int)))=B at hBl hBr;refine rS ?_;try refine AWP.seq ?_
    refine AWP.cond rfl (fun hz1 => ?_) (fun hz1 => ?_)
    . have hlz:z<a0.length:=by simpa using hz1
      obtain⟨hr1,hr2,hr3,hr4⟩:=hrow z hlz;have hbl:=hBr (((a0.getD z default).getD 1 default).toNat);have hix:((a0.getD z default).getD 1 default).toNat<B.length:=by omega
      refine AWP.openB ⟨hdp,?_,?_⟩ 70 11 0 0 0 1 (((a0.getD z default).getD 1 default).toNat) 0 rfl (by rw[hc];decide) rfl rfl rfl rfl hix rfl ?_
      . simp only[robT,y2g,NoBor]
        (repeat' first|exact trivial|exact hl1|exact hl2|refine⟨?_,?_⟩)
      . simp only[robH,robE,yvf,lit0,NoBor,NoBorL,sv,true_and,and_true,implies_true]
      refine AWP.skip ?_;try refine AWP.seq ?_
      refine AWP.block ?_;repeat refine AWP.seq ?_
      refine AWP.regP mixed G_ok DD hc 30 [0,1,2,3,4,5,6,7,8,9,10,11,12,13,14,15,16,17,18,19,20,21,22,23,24,25,26,27] (.alt 28 [] [0,1,2,3,4,5,6,7,8,9,10,11,12,13,14,15,16,17,18,19,20,21,22,23] (.alt 29 [] [0,1,2,3,4,5,6,7,8,9,10,11,14,15,16,17,22,23] .leaf .stop) .stop) (by kernel_rfl) (by kernel_rfl) (by kernel_rfl) (fun K hK => ?_);simp only[yjj,runN,runP,yec,nthO,List.append,ea,absV,absVL,cput,gv,sv,dn,reduceCtorEq,reduceIte,Nat.reduceBEq,Nat.reduceAdd,Nat.reduceEqDiff,Nat.reduceLT,Nat.reduceLeDiff,Nat.reduceMul,Nat.reduceSub,BEq.rfl,beq_self_eq_true,Int.reduceToNat];generalize hp9:a0.getD z default=p at *;repeat' apply And.intro
      all_goals first|omega|refine hK _ ?_|(focus(intro i hi;by_cases hi2:i<(B.getD (p.getD 1 default).toNat default).length;(focus(simp only[ywh hi2,Bool.true_or]));(have e0:i-(B.getD (p.getD 1 default).toNat default).length=0:=by omega);(rw[e0,Bool.or_eq_true];right;rfl)))
      all_goals clear hK K
      refine AWP.arrS 1 (fun j=>yw ((befS B p).getD j default)) rfl (fun j hj => ?_) ?_
      . unfold befS;by_cases hjp:j=(p.getD 1 default).toNat
        . rw[<- hjp,yhd _ _ _ hj];simp only[beq_self_eq_true,cond_true];refine⟨⟨rfl,rfl,by simp,fun i hi => ?_⟩,trivial⟩;by_cases hi2:i<(B.getD j default).length
          . simp only[joinF,ysf hi2,ywh hi2,cond_true];exact yp _
          . have e0:i-(B.getD j default).length=0:=by omega
            simp only[joinF,ypf hi2 hi,ybj hi2,cond_false,e0,elt,borrowL,borrow];exact⟨⟨rfl,rfl⟩,trivial⟩
        . rw[yid _ _ _ _ hjp];simp only[beq_eq_false_iff_ne.2 hjp,cond_false];exact yp _
      simp only[setE];refine rS ?_
      have hnx:((a0.take (z+1)).foldl befS (List.replicate q (default:List Int)))=befS B p:=by
        rw[List.take_add_one,List.foldl_append,hB,List.getElem?_eq_getElem hlz, <- hp9,List.getD_eq_getElem?_getD,List.getElem?_eq_getElem hlz];rfl
      refine⟨z+1,[0,1,2,3],hlz,by omega,?_⟩;have e2:(((z+1:Nat)):Int)=IntKind.wrap .i64 ((z:Int)+1):=by rw[IntKind.wrap_i64];omega
      rw[hnx,e2,yzm];exact sm
    . obtain rfl:z=a0.length:=(by have:¬ (z<a0.length):=(by simpa using hz1);omega)
      refine AWP.exit ?_;refine yb ?_;have hBP:B=befP q a0:=by rw[<- hB,List.take_length];rfl
      rw[<- hBP];refine AWP.nilB 0 2 2 1 (fun j=>yi (([]:List Int).getD j default)) rfl rfl ?_;simp only[setE,putL];refine rS ?_;refine AWP.ret ?_;simp only[y2c,en,ea];refine⟨[0,1,2,4,3],?_⟩;rw[List.length_replicate];exact sm
end N23
def zfe (a0:List (List Int)) (a1:Int) (a2:List Character) (a3 a4:Int):List Int×Int:=
 bif (zib a0 a1 a2 a3 a4) != 0 then([],zib a0 a1 a2 a3 a4)else
  (bif (sR (befP a1.toNat a0) (zj a2 a3) (a2.length : Int) a4 a1.toNat [] (List.replicate a2.length 0) 0).1 then (zuc (sR (befP a1.toNat a0) (zj a2 a3) (a2.length : Int) a4 a1.toNat [] (List.replicate a2.length 0) 0).2.1, 0)
   else bif (sR (befP a1.toNat a0) (zj a2 a3) (a2.length:Int) a4 a1.toNat [] (List.replicate a2.length 0) 0).2.2.2.2 then([],5)else([],3))
namespace N7
theorem DD:DOk Tryz.prog (Go.Ab.DD [(22,dP D_zib),(25,dP D_zuc)]):=yd yfr.e <| yd yyr.e <| yj _
theorem dn:type_of% (And.intro @D_zib.eq_1 <| @D_zuc.eq_1):=by and_intros<;>intros<;>rfl
set_option maxHeartbeats 4000000 in
set_option maxRecDepth 40000 in
theorem den (a0:List (List Int)) (a1:Int) (a2:List Character) (a3 a4:Int) (hl0:a0.length<=1048576) (hp0:∀ v∈a0,bdLIi64 v) (hl2:a2.length<=1048576) (hp2:∀ v∈a2,bdCharacter v) :
  Den Tryz.prog 7 [encL 1 yt a0,.int .i64 a1,encL 5 eCharacter a2,.int .i64 a3,.int .i64 a4] (.tup [ownL 2 1 yi (zfe a0 a1 a2 a3 a4).1,.int .i64 (zfe a0 a1 a2 a3 a4).2]):=by
 generalize hR:zfe a0 a1 a2 a3 a4=r;unfold zfe at hR;refine di Tryz.func7 Tryz.ntmps7 Tryz.results7 ?_;intro c hL hc hk;clear hL;simp only[pars,Nat.zero_add];refine rS ?_;refine rS ?_;refine rS ?_;try refine AWP.seq ?_
 refine AWP.cond rfl (fun hb => ?_) (fun hb => ?_)
 ·rw[hb,cond_true]at hR
  refine rS ?_;refine AWP.ret ?_;subst hR;exact es
 ·rw[hb,cond_false]at hR
  have hask:=yai (by simpa using hb:zib a0 a1 a2 a3 a4=0);obtain⟨n,rfl⟩:∃ n:Nat,a1=(n:Int):=⟨a1.toNat,by have:=hask.pr.n0;omega⟩
  simp only[Int.toNat_natCast]at hR;have hcv:∀ v∈a2,zg v=true/\bdCharacter v:=fun v hv=>⟨hask.chs v hv,hp2 v hv⟩
  have hcd:=N23.den a0 n a2 a3 a4 hask.pr hl0 hask.few hcv hask.tol;refine AWP.skip ?_;repeat refine AWP.seq ?_
  refine AWP.callI G_ok DD hc 5 hcd (by rw[hk];exact Nat.le_refl _) rfl (by kernel_rfl) rfl rfl (fun K hK => ?_);simp only[yke,runH,ypc,y3c,Nat.blt,Nat.ble,List.map,List.take,List.append,ea,absV,absVL,cput,gv,sv,dn,reduceCtorEq,reduceIte,Nat.reduceBEq,Nat.reduceAdd,Nat.reduceEqDiff,Nat.reduceLT,Nat.reduceLeDiff,Nat.reduceMul,Nat.reduceSub,BEq.rfl,beq_self_eq_true,Int.reduceToNat];refine hK _ ?_;clear hK K;refine rS ?_;have hrn:=N24.den (befP n a0) (zj a2 a3) (a2.length:Int) a4 (yez hask.pr hl0 hask.few (by have:=hask.bud;omega) (by have:=hask.few;omega)) n [] (List.replicate a2.length 0) 0 (by rw[yff];simp) (by simp) (by rw[List.length_replicate,ysd]) (fun v hv=>by rw[List.mem_replicate]at hv;rw[hv.2];simp) (by have:=hask.bud;omega);repeat refine AWP.seq ?_
  have hlen9:=yqo (befP n a0) (zj a2 a3) (a2.length:Int) a4 n [] (List.replicate a2.length 0) 0;have hn9:=hask.pr.n1;simp only[List.length_nil,Nat.zero_add]at hlen9;generalize sR (befP n a0) (zj a2 a3) (a2.length:Int) a4 n [] (List.replicate a2.length 0) 0=p at hrn hR hlen9;refine AWP.callI G_ok DD hc 1 hrn (by rw[hk];exact Nat.zero_le _) rfl (by kernel_rfl) rfl rfl (fun K hK => ?_);simp only[yke,runH,ypc,y3c,Nat.blt,Nat.ble,List.map,List.take,List.append,ea,absV,absVL,cput,gv,sv,dn,reduceCtorEq,reduceIte,Nat.reduceBEq,Nat.reduceAdd,Nat.reduceEqDiff,Nat.reduceLT,Nat.reduceLeDiff,Nat.reduceMul,Nat.reduceSub,BEq.rfl,beq_self_eq_true,Int.reduceToNat];try refine⟨ot,?_⟩
  refine hK _ ?_;clear hK K;try refine AWP.seq ?_
  refine AWP.cond rfl (fun hb2 => ?_) (fun hb2 => ?_)
  ·rw[hb2,cond_true]at hR
   refine rS ?_;refine AWP.ret ?_;subst hR;exact es
  ·rw[hb2,cond_false]at hR
   refine AWP.skip ?_;refine rS ?_;try refine AWP.seq ?_
   refine AWP.cond rfl (fun hb3 => ?_) (fun hb3 => ?_)
   ·rw[hb3,cond_true]at hR
    refine rS ?_;refine AWP.ret ?_;subst hR;exact es
   ·rw[hb3,cond_false]at hR
    refine AWP.skip ?_;refine rS ?_;refine AWP.ret ?_;subst hR;exact es
end N7
def zlc (a0:(List (List Int))) (a1:Int) (a2:(List Character)) (a3:Int) (a4:Int):((List Int)×Int):=zfe a0 a1 a2 a3 a4
theorem y40 (a0:List (List Int)) (a1:Int) (a2:List Character) (a3 a4:Int) (hp0:a0.length<=1048576) (hp1:∀ v∈a0,bdLIi64 v) (hp2:a2.length<=1048576) (hp3:∀ v∈a2,bdCharacter v):Den Tryz.prog 7 [encL 1 yt a0,.int .i64 a1,encL 5 eCharacter a2,.int .i64 a3,.int .i64 a4] (.tup [ownL 2 1 yi (zlc a0 a1 a2 a3 a4).1,.int .i64 (zlc a0 a1 a2 a3 a4).2]):=N7.den a0 a1 a2 a3 a4 hp0 hp1 hp2 hp3
def D_zlc : DF
 | [x0,x1,x2,x3,x4]=>some (.tup [ownL 2 1 yi (zlc (rdL yv x0) (rdI x1) (rdL ya x2) (rdI x3) (rdI x4)).1,.int .i64 (zlc (rdL yv x0) (rdI x1) (rdL ya x2) (rdI x3) (rdI x4)).2],false,[wL 1 yt yv x0,wI .i64 x1,wL 5 eCharacter ya x2,wI .i64 x3,wI .i64 x4,(rdL yv x0).length<=1048576,∀ v∈(rdL yv x0),bdLIi64 v,(rdL ya x2).length<=1048576,∀ v∈(rdL ya x2),bdCharacter v])
 | _=>none
theorem yzy:OkD Tryz.prog 7 D_zlc:=by unfold D_zlc;exact dk y40
def zie (a0:(List (List Int))) (a1:Int) (a2:(List Character)) (a3:Int) (a4:Int):Bool:=
 (bif decide ((zt a0 1048576)<0)then true else(bif decide ((zdb a2 (zt a0 1048576))<0)then true else(bif ((!(zx ((zqc (zi a0) a1 (zk a2) a3 a4).1) ((zlc (zi a0) a1 (zk a2) a3 a4).1))) || (((zqc (zi a0) a1 (zk a2) a3 a4).2) != ((zlc (zi a0) a1 (zk a2) a3 a4).2)))then false else(bif (!(znb (zi a0) (zi a0)))then false else(bif (!(zob (zk a2) (zk a2)))then false else(bif ((decide (((zod (zk a2) ((zic (zi a0) 1).1)).1)<0) || (!(zx ((zqc (zi a0) a1 (zk a2) a3 a4).1) ((zlc (zi a0) a1 (zk a2) a3 a4).1)))) || (((zqc (zi a0) a1 (zk a2) a3 a4).2) != ((zlc (zi a0) a1 (zk a2) a3 a4).2)))then false else(bif decide ((zjb ((zb ((zqc (zi a0) a1 (zk a2) a3 a4).1) 1).2) 1)<0)then false else(bif ((zjb ((zb ((zqc (zi a0) a1 (zk a2) a3 a4).1) 1).2) 1) != ((zb ((zqc (zi a0) a1 (zk a2) a3 a4).1) 1).1))then false else true))))))))
namespace N3
theorem DD:DOk Tryz.prog (Go.Ab.DD [(10,dP D_zqc),(11,dP D_zx),(12,dP D_znb),(13,dP D_zob),(16,dM [true,false] D_zb),(17,dP D_zjb),(5,dP D_zt),(6,dP D_zdb),(7,dP D_zlc),(8,dP D_zi),(9,dP D_zk)]):=yd yjy.e <| yd ybm.e <| yd y7r.e <| yd yvr.e <| yd ysm.e <| yd y4q.e <| yd ydv.e <| yd yjr.e <| yd yzy.e <| yd y8v.e <| yd yvv.e <| yj _
theorem dn:type_of% (And.intro @D_zqc.eq_1 <| And.intro @D_zx.eq_1 <| And.intro @D_znb.eq_1 <| And.intro @D_zob.eq_1 <| And.intro @D_zb.eq_1 <| And.intro @D_zjb.eq_1 <| And.intro @D_zt.eq_1 <| And.intro @D_zdb.eq_1 <| And.intro @D_zlc.eq_1 <| And.intro @D_zi.eq_1 <| And.intro @D_zk.eq_1 <| And.intro @yle <| @yle):=And.intro @D_zqc.eq_1 <| And.intro @D_zx.eq_1 <| And.intro @D_znb.eq_1 <| And.intro @D_zob.eq_1 <| And.intro @D_zb.eq_1 <| And.intro @D_zjb.eq_1 <| And.intro @D_zt.eq_1 <| And.intro @D_zdb.eq_1 <| And.intro @D_zlc.eq_1 <| And.intro @D_zi.eq_1 <| And.intro @D_zk.eq_1 <| And.intro @yle <| @yle
theorem ol:type_of% (And.intro @yfc <| And.intro @ykt <| @ybt):=And.intro @yfc <| And.intro @ykt <| @ybt
theorem gr {p:Prop} (h:p:=by(grind [yfc,yfc]);first|done|fail):p:=h
theorem o1 {p:Prop} (h:p:=by(first|(exact mrg)|(exact yrf _ _ (by exact mrg))|((try simp only[ol]);first|(have h9:=hG0 (by assumption);first|exact h9.2|exact h9.1|omega)|(have h9:=hG1 (by assumption);first|exact h9.2|exact h9.1|omega)));first|done|fail):p:=h
set_option maxHeartbeats 4000000 in
set_option maxRecDepth 20000 in
theorem _root_.Go.Ab.zie_den (a0:(List (List Int))) (a1:Int) (a2:(List Character)) (a3:Int) (a4:Int)  : Den Tryz.prog 3 [encL 1 yt a0,.int .i64 a1,encL 5 eCharacter a2,.int .i64 a3,.int .i64 a4] (.bool (zie a0 a1 a2 a3 a4)):=by
 generalize hR:zie a0 a1 a2 a3 a4=r;unfold zie at hR;refine yal G_ok Tryz.func3 (by kernel_rfl) rfl Tryz.ntmps3 (by rw[Tryz.results3]) (by simp) rfl ?_;intro c u hdp hlit hL hc hk;obtain⟨hL0,hL1,hL2,hL3,hL4,_⟩:=hL;have hw0:a0.length<9223372036854775808:=Nat.lt_succ_of_le (yc hL0).1;have hw1:∀ v∈a0,bwLIi64 v:=fun v hv=>ynb v ((yc hL0).2 v hv)
 have hw2:a2.length<9223372036854775808:=Nat.lt_succ_of_le (yc hL2).1;have hw3:∀ v∈a2,bwCharacter v:=fun v hv=>yf v ((yc hL2).2 v hv)
 clear hL0 hL1 hL2 hL3 hL4;simp only[litN,lit1,litM,yfo,litR,ynp,encL,sv,Nat.zero_add,Nat.reduceAdd]at hlit;simp only[litN,lit1,litM,yfo,encL,sv,pars,Nat.zero_add,Nat.reduceAdd];have hf0:=y2i a0 (1048576) (by omega) (by omega) hw0 hw1;have hf1:=yhh a2 (zt a0 (1048576)) (by omega) (by omega) hw2 hw3;have hG0:decide (zt a0 (1048576)<0)=false->a0.length<=1048576/\∀ x∈a0,bdLIi64 x:=fun h=>⟨(hf0.2.2 (of_decide_eq_false h)).1,fun x hx=>yxl x ((hf0.2.2 (of_decide_eq_false h)).2 x hx)⟩
 have hG1:decide (zdb a2 (zt a0 (1048576))<0)=false->a2.length<=1048576/\∀ x∈a2,bdCharacter x:=fun h=>⟨(hf1.2.2 (of_decide_eq_false h)).1,fun x hx=>ync x ((hf1.2.2 (of_decide_eq_false h)).2 x hx)⟩
 iterate 4 refine rS ?_
 refine AWP.cond rfl (fun hb => ?_) (fun hb => ?_)
 ·replace hR:=ct hR
  refine rS ?_;refine AWP.ret ?_;subst hR;exact es
 ·replace hR:=cf hR
  iterate 2 refine rS ?_
  refine AWP.cond rfl (fun hb => ?_) (fun hb => ?_)
  ·replace hR:=ct hR
   refine rS ?_;refine AWP.ret ?_;subst hR;exact es
  ·replace hR:=cf hR
   iterate 5 refine rS ?_
   refine AWP.cond rfl (fun hb => ?_) (fun hb => ?_)
   ·replace hR:=ct hR
    refine rS ?_;refine AWP.ret ?_;subst hR;exact es
   ·replace hR:=cf hR
    refine rS ?_;refine AWP.cond rfl (fun hb => ?_) (fun hb => ?_)
    ·replace hR:=ct hR
     refine rS ?_;refine AWP.ret ?_;subst hR;exact es
    ·replace hR:=cf hR
     refine rS ?_;refine AWP.cond rfl (fun hb => ?_) (fun hb => ?_)
     ·replace hR:=ct hR
      refine rS ?_;refine AWP.ret ?_;subst hR;exact es
     ·replace hR:=cf hR
      refine rS ?_;refine AWP.seq ?_;refine rX 2 (N14.den (zi a0) 1 ot) ?_;refine AWP.seq ?_;refine rX 2 (N15.den (zk a2) ((zic (zi a0) 1).1) ot) ?_;refine rS ?_;refine AWP.cond rfl (fun hb => ?_) (fun hb => ?_)
      ·replace hR:=ct hR
       refine rS ?_;refine AWP.ret ?_;subst hR;exact es
      ·replace hR:=cf hR
       iterate 5 refine rS ?_
       refine AWP.cond rfl (fun hb => ?_) (fun hb => ?_)
       ·replace hR:=ct hR
        refine rS ?_;refine AWP.ret ?_;subst hR;exact es
       ·replace hR:=cf hR
        refine rS ?_;refine AWP.cond rfl (fun hb => ?_) (fun hb => ?_)
        ·replace hR:=ct hR
         refine rS ?_;refine AWP.ret ?_;subst hR;exact es
        ·replace hR:=cf hR
         iterate 2 refine rS ?_
         refine AWP.cond rfl (fun hb => ?_) (fun hb => ?_)
         ·exfalso;simp_all
         ·refine rS ?_
          iterate 2 refine rS ?_
          refine AWP.cond rfl (fun hb => ?_) (fun hb => ?_)
          ·exfalso;simp_all
          ·refine rS ?_
           refine AWP.cond rfl (fun hb => ?_) (fun hb => ?_)
           ·exfalso;simp_all
           ·refine rS ?_
            refine AWP.ret ?_;subst hR;exact es
end N3
theorem yov {n:Nat} {a0:List (List Int)} {a2:List Character} {a3 msI ms:Int} (hp:PairsOk n a0) (hl:a0.length<=1048576) (hm:a2.length<=12) (hv:∀ v∈a2,zg v=true/\bdCharacter v) (ht:0<=a3/\a3<=20) (hms:∀ d:Nat,d<a2.length->((d:Int)<msI↔(d:Int)<ms)) :
  Pair a2.length (befP n a0) (clP a2 a3) (zj a2 a3) msI ms:=
 ⟨fun j _=>(ynj hp hl j).2,ysd a2 a3,fun i k hi hk=>by rw[yow hm hv ht hi hk,(ybs hi hk).2],hms⟩
theorem yey {a0:List (List Int)} {a1:Int} {a2:List Character} {a3 a4:Int} (hl:a0.length<=1048576) (hb:∀ v∈a2,bdCharacter v):zhe a0 a1 a2 a3 a4=zfe a0 a1 a2 a3 a4:=by
 unfold zhe zfe;rw[ylh hl hb]
 cases hc:(zib a0 a1 a2 a3 a4 != 0)with
 | true=>rfl
 | false=>
  have hask:=yai (by simpa using hc:zib a0 a1 a2 a3 a4=0);obtain⟨n,rfl⟩:∃ n:Nat,a1=(n:Int):=⟨a1.toNat,by have:=hask.pr.n0;omega⟩
  simp only[Int.toNat_natCast,cond_false];have hf:=hask.few;have hbd:=hask.bud;have hP:=yov (msI:=12) (ms:=(a2.length:Int)) hask.pr hl hask.few (fun v hv=>⟨hask.chs v hv,hb v hv⟩) hask.tol (fun d hd=>by omega);have h:=ymj (n:=(n:Int)) (bud:=a4) hP hbd.2 n [] 0 (by rw[yff];simp) (by simp) (by omega);rw[ypr,Int.sub_zero]at h;generalize iS (n:Int) a2.length (befP n a0) (clP a2 a3) 12 n [] a4=r at h;generalize sR (befP n a0) (zj a2 a3) (a2.length:Int) a4 n [] (List.replicate a2.length 0) 0=p at h;rcases h with⟨h1,h2,h3⟩|⟨h1,h2,h3⟩|⟨h1,h2,h3,h4⟩
  ·rw[h1,h2,h3]
   simp[zuc]
  ·rw[h1,h2,h3];rfl
  ·rw[h1,h2,h3];rfl
theorem yap {α:Type} [Inhabited α] (l:List α) (i q:Nat) (x:α):(l.set i x).getD q default=if q=i/\i<l.length then x else l.getD q default:=by
 by_cases hi:i<l.length
 ·by_cases h:q=i
  ·subst h;rw[if_pos ⟨rfl,hi⟩,yhd _ _ _ hi]
  ·rw[if_neg (fun h2=>h h2.1),yid _ _ _ _ h]
 ·rw[if_neg (fun h2=>hi h2.2),List.set_eq_of_length_le (by omega)]
theorem ywe (a:List (List Int)) (k:Int) (h0:0<=k) (h1:k<=1048576) (hl:a.length<=1048576) (ha:∀ v∈a,v.length<=1048576):0<=(zic a k).1/\(zic a k).1<=1099512676352:=by
 unfold zic
 have hat:∀ q,(a.getD q default).length<=1048576:=fun q=>by
  by_cases hq:q<a.length
  ·exact ha _ (yz hq)
  ·rw[List.getD_eq_getElem?_getD,List.getElem?_eq_none (by omega)];exact Nat.zero_le _
 obtain⟨t,g1,g2⟩:=ym (b:=y5l a k) (fun i s=>0<=s.1/\s.1<=k+1048576 * (i:Int)/\∀ q,(s.2.getD q default).length<=1048576) (k:=a.length-0) (i:=0) (s:=(k,a)) ⟨h0,by simp,hat⟩ (by
  rintro j ⟨s1,s2⟩ _ hj ⟨e1,e2,e3⟩
  have e4:=e3 j;simp only at e1 e2 e4
  have hk:(zb (s2.getD j default) s1).1=s1+1 * ((s2.getD j default).length:Int):=by
   rw[zb_k _ _ (by omega) (by omega) (by omega)]
  refine⟨_,rfl,?_,?_,fun q => ?_⟩
  ·simp only
   rw[hk];omega
  ·simp only
   rw[hk];push_cast
   omega
  ·rw[yap]
   split
   ·rw[yfc];exact e3 j
   ·exact e3 q)
 rw[g1];refine⟨g2.1,?_⟩;have:=g2.2.1;simp only;omega
theorem yad (a:List Character) (k:Int) (h0:0<=k) (h1:k<=1099512676352) (hl:a.length<=1048576) (ha:∀ v∈a,v.Group.length<=1048576):0<=(zod a k).1:=by
 unfold zod
 have hat:∀ q,(a.getD q default).Group.length<=1048576:=fun q=>by
  by_cases hq:q<a.length
  ·exact ha _ (yz hq)
  ·rw[List.getD_eq_getElem?_getD,List.getElem?_eq_none (by omega)];exact Nat.zero_le _
 obtain⟨t,g1,g2⟩:=ym (b:=ytn a k) (fun i s=>0<=s.1/\s.1<=k+1048600 * (i:Int)/\∀ q,(s.2.getD q default).Group.length<=1048576) (k:=a.length-0) (i:=0) (s:=(k,a)) ⟨h0,by simp,hat⟩ (by
  rintro j ⟨s1,s2⟩ _ hj ⟨e1,e2,e3⟩
  have e4:=e3 j;simp only at e1 e2 e4;have w1:IntKind.wrap .i64 (s1+1)=s1+1:=by rw[IntKind.wrap_i64];omega
  have hk:(zb ((s2.getD j default).Group) (IntKind.wrap .i64 (s1+1))).1=s1+1+1 * ((s2.getD j default).Group.length:Int):=by
   rw[w1,zb_k _ _ (by omega) (by omega) (by omega)]
  refine⟨_,rfl,?_,?_,fun q => ?_⟩
  ·simp only
   rw[hk];simp only[IntKind.wrap_i64];omega
  ·simp only
   rw[hk];simp only[IntKind.wrap_i64];push_cast
   omega
  ·rw[yap]
   split
   ·simp only;rw[yfc];exact e3 j
   ·exact e3 q)
 rw[g1];exact g2.1
theorem yqv {a0:List (List Int)} {a1:Int} {a2:List Character} {a3 a4:Int}:(zfe a0 a1 a2 a3 a4).1.length<=24:=by
 unfold zfe
 cases hc:(zib a0 a1 a2 a3 a4 != 0)with
 | true=>exact Nat.zero_le _
 | false=>
  have hask:=yai (by simpa using hc:zib a0 a1 a2 a3 a4=0);have hn:=hask.pr.n1;have h:=yqo (befP a1.toNat a0) (zj a2 a3) (a2.length:Int) a4 a1.toNat [] (List.replicate a2.length 0) 0;simp only[List.length_nil,Nat.zero_add]at h;generalize sR (befP a1.toNat a0) (zj a2 a3) (a2.length:Int) a4 a1.toNat [] (List.replicate a2.length 0) 0=p at h
  cases p.1 with
  | true=>simp[zuc];omega
  | false=>cases p.2.2.2.2<;>exact Nat.zero_le _
theorem yzj (a0:List (List Int)) (a1:Int) (a2:List Character) (a3 a4:Int) (hl0:a0.length<9223372036854775808) (hv0:∀ v∈a0,bwLIi64 v) (hl2:a2.length<9223372036854775808) (hv2:∀ v∈a2,bwCharacter v):zie a0 a1 a2 a3 a4=true:=by
 unfold zie;have f0:=y2i a0 1048576 (by omega) (by omega) hl0 hv0;by_cases c0:zt a0 1048576<0
 ·rw[decide_eq_true c0];rfl
 rw[decide_eq_false c0];simp only[cond_false];have f1:=yhh a2 (zt a0 1048576) (by omega) (by omega) hl2 hv2;by_cases c1:zdb a2 (zt a0 1048576)<0
 ·rw[decide_eq_true c1];rfl
 rw[decide_eq_false c1];simp only[cond_false];obtain⟨k0,k1⟩:=f0.2.2 c0;obtain⟨k2,k3⟩:=f1.2.2 c1;simp only[ykt,ybt,ywr,yav,ytv];rw[show zqc a0 a1 a2 a3 a4=zlc a0 a1 a2 a3 a4 from yey k0 (fun v hv=>ync v (k3 v hv))];have hlen:(zlc a0 a1 a2 a3 a4).1.length<=24:=yqv;have hm:=yyq (zlc a0 a1 a2 a3 a4).1 1 (by omega) (by omega) (by omega);have hm2:=zb_k (zlc a0 a1 a2 a3 a4).1 1 (by omega) (by omega) (by omega);have r0:=ywe a0 1 (by omega) (by omega) k0 (fun v hv=>k1 v hv);have r1:=yad a2 (zic a0 1).1 r0.1 r0.2 k2 (fun v hv=>(k3 v hv).1);rw[hm.1,decide_eq_false (show ¬ (zb (zlc a0 a1 a2 a3 a4).1 1).1<0 by omega),decide_eq_false (show ¬ (zod a2 (zic a0 1).1).1<0 by omega)];simp
end Go.Ab
