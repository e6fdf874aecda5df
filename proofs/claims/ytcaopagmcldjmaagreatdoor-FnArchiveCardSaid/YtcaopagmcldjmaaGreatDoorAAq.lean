/- A part of a proof: walks of functions and lemmas of our own. No conditions. -/
import Derived.Test.YtcaopagmcldjmaaGreatDoorAAl
import Derived.Test.YtcaopagmcldjmaaGreatDoorAAk
import Derived.Test.YtcaopagmcldjmaaGreatDoorAAn
import Derived.Test.YtcaopagmcldjmaaGreatDoorAAi
import Derived.Test.YtcaopagmcldjmaaGreatDoorAAm
import Derived.Test.YtcaopagmcldjmaaGreatDoorAAo
set_option linter.unusedSectionVars false
set_option linter.unusedVariables false
set_option linter.unusedSimpArgs false
set_option maxHeartbeats 1000000
namespace Go.Ab
open Go Go.Proofs
def zig (a0:Int):Bool:=
 (decide (48<=a0) && decide (a0<=57))
namespace N114
theorem DD:DOk Tryz.prog (Go.Ab.DD []):=yd _
theorem den (a0:Int)  : Den Tryz.prog 114 [.int .u8 a0] (.bool (zig a0)):=by
 generalize hR:zig a0=r;unfold zig at hR;refine di Tryz.func114 Tryz.ntmps114 Tryz.results114 ?_;intro c hL hc hk;clear hL;simp only[pars,Nat.zero_add];iterate 2 refine rS ?_
 refine AWP.ret ?_;subst hR;exact es
end N114
def D_zig : DF
 | [x0]=>some (.bool (zig (rdI x0)),false,[wI .u8 x0])
 | _=>none
theorem yi2:OkD Tryz.prog 114 D_zig:=by unfold D_zig;exact dk N114.den
def zx (a0:Int) (a1:Int):Bool:=
 decide (a0<=a1)
namespace N23
theorem DD:DOk Tryz.prog (Go.Ab.DD []):=yd _
theorem den (a0:Int) (a1:Int)  : Den Tryz.prog 23 [.int .i64 a0,.int .i64 a1] (.bool (zx a0 a1)):=by
 generalize hR:zx a0 a1=r;unfold zx at hR;refine di Tryz.func23 Tryz.ntmps23 Tryz.results23 ?_;intro c hL hc hk;clear hL;simp only[pars,Nat.zero_add];iterate 2 refine rS ?_
 refine AWP.ret ?_;subst hR;exact es
end N23
def D_zx : DF
 | [x0,x1]=>some (.bool (zx (rdI x0) (rdI x1)),false,[wI .i64 x0,wI .i64 x1])
 | _=>none
theorem yfe:OkD Tryz.prog 23 D_zx:=by unfold D_zx;exact dk N23.den
def yot (a0:(List UInt8)) (i1:Nat) (s1:Unit):Except (Bool) (Unit):=
 (bif ((!(decide (97<=((a0.getD i1 0).toNat:Int)) && decide (((a0.getD i1 0).toNat:Int)<=122))) && (((i1:Int) == 0) || (!(zig ((a0.getD i1 0).toNat:Int)))))then .error false else .ok ())
def zqc (a0:(List UInt8)):Bool:=
 (match yf (yot a0) (a0.length-0) 0 ()with|.error e=>e|.ok s1=>((a0 != []) && (zx (a0.length:Int) 10)))
namespace N77
theorem DD:DOk Tryz.prog (Go.Ab.DD [(114,dP D_zig),(23,dP D_zx)]):=ya yi2.e <| ya yfe.e <| yd _
theorem dn:type_of% (And.intro @D_zig.eq_1 <| @D_zx.eq_1):=by and_intros<;>intros<;>rfl
theorem den (a0:(List UInt8))  : Den Tryz.prog 77 [.str a0] (.bool (zqc a0)):=by
 generalize hR:zqc a0=r;unfold zqc at hR;refine di Tryz.func77 Tryz.ntmps77 Tryz.results77 ?_;intro c hL hc hk;obtain⟨hL0,_⟩:=hL;have hw0:a0.length<9223372036854775808:=Nat.lt_succ_of_le hL0;clear hL0;simp only[pars,Nat.zero_add];iterate 2 refine rS ?_
 refine AWP.block ?_;generalize hz1:yf (yot a0) (a0.length-0) 0 ()=z1 at hR;refine AWP.range (yot a0) (fun i1 s1=>⟨[(0,.str a0),(3,.int .i64 (i1:Int))],[]⟩) (fun i1 s1=>True) (a0.length) 0 () [] hz1 ot wt sm ?_;clear hz1;intro i1 s1 hi1 hW1 hz1;refine rS ?_;refine AWP.cond rfl (fun hb => ?_) (fun hb => ?_)
 ·have hlt1:i1<a0.length:=ot
  rw[yk hlt1]at hz1;simp only[yot]at hz1;iterate 2 refine rS ?_
  refine AWP.cond rfl (fun hb => ?_) (fun hb => ?_)
  ·simp only[hb,cond_true]at hz1
   refine rS ?_;refine AWP.ret ?_;subst hz1;dsimp only at hR;subst hR;exact es
  ·simp only[hb,cond_false]at hz1
   refine rS ?_;exact⟨_,[],hlt1,wt,hz1,sm⟩
 ·obtain rfl:i1=a0.length:=ot
  rw[yl (Nat.le_refl _)]at hz1;subst hz1;dsimp only at hR;refine AWP.exit ?_;refine yb ?_;refine rS ?_;refine AWP.ret ?_;subst hR;exact es
end N77
def D_zqc : DF
 | [x0]=>some (.bool (zqc (rdS x0)),false,[wS x0])
 | _=>none
theorem yqn:OkD Tryz.prog 77 D_zqc:=by unfold D_zqc;exact dk N77.den
def ycm (a0:(List Item)) (a1:(List UInt8)) (s1:Int):Except (Sum ((Int×Bool)) (Int)) (Int):=
 (bif (decide (s1<(a0.length:Int)) && Op.bytesLess ((a0.getD ((s1).toNat) default).Key) a1)then .ok (IntKind.wrap .i64 (s1+1))else .error (.inr s1))
def zfb (a0:(List Item)) (a1:(List UInt8)):(Int×Bool):=
 (match yeb (ycm a0 a1) ((a0.length-((0:Int)).toNat)+1) 0 with|.error (.inl e)=>e|.error (.inr s1)=>(s1,(decide (s1<(a0.length:Int)) && (((a0.getD ((s1).toNat) default).Key) == a1)))|.ok _=>default)
namespace N31
theorem DD:DOk Tryz.prog (Go.Ab.DD []):=yd _
theorem den (a0:(List Item)) (a1:(List UInt8))  : Den Tryz.prog 31 [encL 2 yr a0,.str a1] (.tup [.int .i64 ((zfb a0 a1).1),.bool ((zfb a0 a1).2)]):=by
 generalize hR:zfb a0 a1=r;unfold zfb at hR;refine di Tryz.func31 Tryz.ntmps31 Tryz.results31 ?_;intro c hL hc hk;obtain⟨hL0,hL1,_⟩:=hL;have hw0:a0.length<9223372036854775808:=Nat.lt_succ_of_le (yc hL0).1;have hw1:∀ v∈a0,bwItem v:=fun v hv=>y6 v ((yc hL0).2 v hv)
 have hw2:a1.length<9223372036854775808:=Nat.lt_succ_of_le hL1;clear hL0 hL1;simp only[pars,Nat.zero_add];iterate 2 refine rS ?_
 refine AWP.seq ?_;refine AWP.block ?_;generalize hz1:yeb (ycm a0 a1) ((a0.length-((0:Int)).toNat)+1) 0=z1 at hR;refine AWP.whileW (ycm a0 a1) (fun s1=>⟨[(0,encL 2 yr a0),(1,.str a1),(6,.int .i64 s1)],[]⟩) (fun s1=>0<=s1/\s1<=a0.length) (fun s1=>a0.length-(s1).toNat) ((a0.length-((0:Int)).toNat)+1) 0 [] hz1 m0 wt sm ?_;clear hz1;intro s1 k1 hW1 hm1 hz1;simp only[ycm]at hz1;refine rS ?_;refine AWP.cond rfl (fun hb => ?_) (fun hb => ?_)
 ·simp only[hb,cond_true]at hz1
  refine rS ?_;exact⟨_,[],ms,wt,hz1,sm⟩
 ·simp only[hb,cond_false]at hz1
  refine AWP.exit ?_;refine yb ?_;subst hz1;dsimp only at hR;refine AWP.seq ?_;refine AWP.regP mixed G_ok DD hc 15 [0,1,2,3,4,5,6,7,8,9,10,11,12,13] (.alt 14 [] [6,7,8,9,10,11,12,13] .leaf .stop) (by kernel_rfl) (by kernel_rfl) (by kernel_rfl) (fun K hK => ?_);simp only[yxh,runN,runP,ycc,nthO,ea,absV,absVL,cput,gv,sv,dn,reduceCtorEq,reduceIte,Nat.reduceBEq,Nat.reduceAdd,Nat.reduceEqDiff,Nat.reduceLT,Nat.reduceLeDiff,Nat.reduceMul,Nat.reduceSub,BEq.rfl,beq_self_eq_true,Int.reduceToNat];repeat' apply And.intro
  all_goals first|refine hK _ ?_|exact ot
  all_goals clear hK K
  refine AWP.ret ?_;subst hR;exact es
end N31
def D_zfb : DF
 | [x0,x1]=>some (.tup [.int .i64 ((zfb (rdL yp x0) (rdS x1)).1),.bool ((zfb (rdL yp x0) (rdS x1)).2)],false,[wL 2 yr yp x0,wS x1])
 | _=>none
theorem y4u:OkD Tryz.prog 31 D_zfb:=by unfold D_zfb;exact dk N31.den
theorem yun (a:List Item) (k:List UInt8) (hl:a.length<9223372036854775808):∃ j:Nat,j<=a.length/\(∀ q,q<j->Op.bytesLess (a.getD q default).Key k=true)/\(j=a.length\/Op.bytesLess (a.getD j default).Key k=false) /\
  zfb a k=((j:Int),decide (j<a.length/\(a.getD j default).Key=k)):=by
 unfold zfb
 obtain⟨j,h1,h2,h3,h4,h5⟩:=yfm (ρ:=Int×Bool) (b:=ycm a k) (fun j=>Op.bytesLess (a.getD j default).Key k) a.length (fun j hj=>by
  simp only[ycm,Int.toNat_natCast];have hw:j<a.length->IntKind.wrap .i64 ((j:Int)+1)=((j+1:Nat):Int):=fun h=>yb2 h hl
  by_cases hj':j<a.length
  ·rw[hw hj']
   simp[hj']
  ·simp[hj']) ((a.length-((0:Int)).toNat)+1) 0 (by omega) (by simp)
 rw[show((0:Nat):Int)=0 from rfl]at h5;refine⟨j,h2,fun q hq=>h3 q (by omega) hq,h4,?_⟩;rw[h5];simp only[Int.toNat_natCast,Prod.mk.injEq,true_and];apply Bool.eq_iff_iff.2;simp
theorem ymt (a:List Item) (k:List UInt8) (hl:a.length<9223372036854775808):0<=(zfb a k).1/\(zfb a k).1<=a.length/\((zfb a k).2=true->(zfb a k).1.toNat<a.length):=by
 obtain⟨j,_,_,_,h4⟩:=yun a k hl;rw[h4];simp only[decide_eq_true_eq];omega
def zvb (a0:(List Item)):(List Item):=
 (List.replicate 0 (default:Item))++a0
namespace N21
theorem DD:DOk Tryz.prog (Go.Ab.DD []):=yd _
theorem den (a0:(List Item)) (hb0:a0.length<1099511627776) (hb1:∀ v∈a0,bdItem v):Den Tryz.prog 21 [encL 2 yr a0] (ownL 38 2 yr (zvb a0)):=by
 generalize hR:zvb a0=r;unfold zvb at hR;refine di Tryz.func21 Tryz.ntmps21 Tryz.results21 ?_;intro c hL hc hk;obtain⟨hL0,_⟩:=hL;have hw0:a0.length<9223372036854775808:=Nat.lt_succ_of_le (yc hL0).1;have hw1:∀ v∈a0,bwItem v:=fun v hv=>y6 v ((yc hL0).2 v hv)
 clear hL0;simp only[pars,Nat.zero_add];iterate 2 refine rS ?_
 refine AWP.ret ?_;subst hR;exact es
end N21
def D_zvb : DF
 | [x0]=>some (ownL 38 2 yr (zvb (rdL yp x0)),false,[wL 2 yr yp x0,(rdL yp x0).length<1099511627776,∀ v∈(rdL yp x0),bdItem v])
 | _=>none
theorem ybt:OkD Tryz.prog 21 D_zvb:=by unfold D_zvb;exact dk N21.den
theorem yzf (a:List Item):zvb a=a:=by simp[zvb]
def zid (a0:(List Item)) (a1:Item):(List Item):=
 (bif (!((zfb (zvb a0) a1.Key).2))then((zhd (zvb a0) ((zfb (zvb a0) a1.Key).1) [a1]))else(zvb a0).set (((zfb (zvb a0) a1.Key).1).toNat) a1)
namespace N22
theorem DD:DOk Tryz.prog (Go.Ab.DD [(21,dP D_zvb),(31,dP D_zfb),(46,dM [true,false,true] D_zhd)]):=ya ybt.e <| ya y4u.e <| ya yd0.e <| yd _
theorem dn:type_of% (And.intro @D_zvb.eq_1 <| And.intro @D_zfb.eq_1 <| @D_zhd.eq_1):=by and_intros<;>intros<;>rfl
theorem ol:type_of% (@yzf):=@yzf
theorem gr {p:Prop} (h:p:=by(grind [ymt,yuw,ydx]);first|done|fail):p:=h
theorem den (a0:(List Item)) (a1:Item) (hb0:a0.length<1099511627776) (hb1:∀ v∈a0,bdItem v) (hb2:bdItem a1):Den Tryz.prog 22 [encL 2 yr a0,.agg (yr a1)] (ownL 38 2 yr (zid a0 a1)):=by
 generalize hR:zid a0 a1=r;unfold zid at hR;refine di Tryz.func22 Tryz.ntmps22 Tryz.results22 ?_;intro c hL hc hk;obtain⟨hL0,hL1,_⟩:=hL;have hw0:a0.length<9223372036854775808:=Nat.lt_succ_of_le (yc hL0).1;have hw1:∀ v∈a0,bwItem v:=fun v hv=>y6 v ((yc hL0).2 v hv)
 have hw2:bwItem a1:=y6 a1 hL1;clear hL0 hL1;simp only[pars,Nat.zero_add];have hix:=ymt a0 a1.Key (by omega);iterate 4 refine rS ?_
 refine AWP.cond rfl (fun hb => ?_) (fun hb => ?_)
 ·replace hR:=ct hR
  refine rS ?_;refine AWP.ret ?_;subst hR;exact es
 ·replace hR:=cf hR
  iterate 2 refine rS ?_
  refine AWP.ret ?_;subst hR;exact es
end N22
def D_zid : DF
 | [x0,x1]=>some (ownL 38 2 yr (zid (rdL yp x0) (rdG yp x1)),false,[wL 2 yr yp x0,wG yr yp x1,(rdL yp x0).length<1099511627776,∀ v∈(rdL yp x0),bdItem v,bdItem (rdG yp x1)])
 | _=>none
theorem ytz:OkD Tryz.prog 22 D_zid:=by unfold D_zid;exact dk N22.den
theorem yxw (l:List Item) (x:Item):(zid l x).length<=l.length+1:=by
 unfold zid;simp only[yzf]
 cases(zfb l x.Key).2 with
 | true=>simp
 | false=>simp[yuw]
theorem y04 (l:List Item) (x v:Item) (h:v∈zid l x):v∈l\/v=x:=by
 unfold zid at h;simp only[yzf]at h;revert h
 cases(zfb l x.Key).2 with
 | true=>
  simp only[Bool.not_true,cond_false];intro h;rcases List.mem_or_eq_of_mem_set h with h|h
  ·exact .inl h
  ·exact .inr h
 | false=>
  simp only[Bool.not_false,cond_true];intro h;rcases ydx _ _ _ _ h with h|h
  ·exact .inl h
  ·simp at h;exact .inr h
def zag (a0:Item):Bool:=
 ((zqc a0.Key) && (zx (a0.Text.length:Int) 400))
namespace N45
theorem DD:DOk Tryz.prog (Go.Ab.DD [(23,dP D_zx),(77,dP D_zqc)]):=ya yfe.e <| ya yqn.e <| yd _
theorem dn:type_of% (And.intro @D_zx.eq_1 <| @D_zqc.eq_1):=by and_intros<;>intros<;>rfl
theorem den (a0:Item)  : Den Tryz.prog 45 [.agg (yr a0)] (.bool (zag a0)):=by
 generalize hR:zag a0=r;unfold zag at hR;refine di Tryz.func45 Tryz.ntmps45 Tryz.results45 ?_;intro c hL hc hk;obtain⟨hL0,_⟩:=hL;have hw0:bwItem a0:=y6 a0 hL0;clear hL0;simp only[pars,Nat.zero_add];iterate 2 refine rS ?_
 refine AWP.ret ?_;subst hR;exact es
end N45
def D_zag : DF
 | [x0]=>some (.bool (zag (rdG yp x0)),false,[wG yr yp x0])
 | _=>none
theorem yp1:OkD Tryz.prog 45 D_zag:=by unfold D_zag;exact dk N45.den
def ydj (a0:(List Item)) (i1:Nat) (s1:Unit):Except (Bool) (Unit):=
 (bif ((!(zag (a0.getD i1 default))) || (decide (0<(i1:Int)) && !(Op.bytesLess ((a0.getD ((IntKind.wrap .i64 ((i1:Int)-1)).toNat) default).Key) ((a0.getD i1 default).Key))))then .error false else .ok ())
def zab (a0:(List Item)):Bool:=
 (match yf (ydj a0) (a0.length-0) 0 ()with|.error e=>e|.ok s1=>(zx (a0.length:Int) 40))
namespace N20
theorem DD:DOk Tryz.prog (Go.Ab.DD [(23,dP D_zx),(45,dP D_zag)]):=ya yfe.e <| ya yp1.e <| yd _
theorem dn:type_of% (And.intro @D_zx.eq_1 <| @D_zag.eq_1):=by and_intros<;>intros<;>rfl
theorem den (a0:(List Item))  : Den Tryz.prog 20 [encL 2 yr a0] (.bool (zab a0)):=by
 generalize hR:zab a0=r;unfold zab at hR;refine di Tryz.func20 Tryz.ntmps20 Tryz.results20 ?_;intro c hL hc hk;obtain⟨hL0,_⟩:=hL;have hw0:a0.length<9223372036854775808:=Nat.lt_succ_of_le (yc hL0).1;have hw1:∀ v∈a0,bwItem v:=fun v hv=>y6 v ((yc hL0).2 v hv)
 clear hL0;simp only[pars,Nat.zero_add];iterate 2 refine rS ?_
 refine AWP.block ?_;generalize hz1:yf (ydj a0) (a0.length-0) 0 ()=z1 at hR;refine AWP.range (ydj a0) (fun i1 s1=>⟨[(0,encL 2 yr a0),(5,encL 2 yr a0),(6,.int .i64 (a0.length:Int)),(7,.int .i64 (i1:Int))],[]⟩) (fun i1 s1=>True) (a0.length) 0 () [] hz1 ot wt sm ?_;clear hz1;intro i1 s1 hi1 hW1 hz1;refine rS ?_;refine AWP.seq ?_;refine AWP.cond rfl (fun hb => ?_) (fun hb => ?_)
 ·have hlt1:i1<a0.length:=ot
  rw[yk hlt1]at hz1;simp only[ydj]at hz1;refine rS ?_;refine rD 18 ?_;refine AWP.cond rfl (fun hb => ?_) (fun hb => ?_)
  ·simp only[hb,cond_true]at hz1
   refine rS ?_;refine AWP.ret ?_;subst hz1;dsimp only at hR;subst hR;exact es
  ·simp only[hb,cond_false]at hz1
   refine rS ?_;exact⟨_,[],hlt1,wt,hz1,sm⟩
 ·obtain rfl:i1=a0.length:=ot
  rw[yl (Nat.le_refl _)]at hz1;subst hz1;dsimp only at hR;refine AWP.exit ?_;refine yb ?_;refine rS ?_;refine AWP.ret ?_;subst hR;exact es
end N20
def D_zab : DF
 | [x0]=>some (.bool (zab (rdL yp x0)),false,[wL 2 yr yp x0])
 | _=>none
theorem y5i:OkD Tryz.prog 20 D_zab:=by unfold D_zab;exact dk N20.den
theorem yrk (a:List Item) (h:zab a=true):a.length<=40:=by
 unfold zab at h;split at h
 ·rename_i e he
  obtain⟨j,t,h1,h2,h3⟩:=yvb he;simp only[ydj]at h3;revert h3
  generalize ((!(zag _)) || _:Bool)=q;cases q<;>simp
  rintro rfl;simp at h
 ·simp only[zx,decide_eq_true_eq]at h
  omega
def yrv (a0:(List Item)) (a1:(List Item)) (i1:Nat) (s1:List Item):Except (((List Item)×Int)) (List Item):=
 .ok (zid s1 (a1.getD i1 default))
def zt (a0:(List Item)) (a1:(List Item)):((List Item)×Int):=
 (bif ((!(zab a0)) || (!(zab a1)))then([],1)else(match yf (yrv a0 a1) (a1.length-0) 0 (zvb a0)with|.error e=>e|.ok s1=>(bif (!(zx (s1.length:Int) 40))then([],5)else(s1,0))))
namespace N6
theorem DD:DOk Tryz.prog (Go.Ab.DD [(20,dP D_zab),(21,dP D_zvb),(22,dP D_zid),(23,dP D_zx)]):=ya y5i.e <| ya ybt.e <| ya ytz.e <| ya yfe.e <| yd _
theorem dn:type_of% (And.intro @D_zab.eq_1 <| And.intro @D_zvb.eq_1 <| And.intro @D_zid.eq_1 <| @D_zx.eq_1):=by and_intros<;>intros<;>rfl
theorem ol:type_of% (@yzf):=@yzf
theorem gr {p:Prop} (h:p:=by(grind [yrk]);first|done|fail):p:=h
theorem den (a0:(List Item)) (a1:(List Item)) (hb0:a0.length<1099511627776) (hb1:∀ v∈a0,bdItem v) (hb2:a1.length<1099511627776) (hb3:∀ v∈a1,bdItem v):Den Tryz.prog 6 [encL 2 yr a0,encL 2 yr a1] (.tup [ownL 38 2 yr ((zt a0 a1).1),.int .i64 ((zt a0 a1).2)]):=by
 generalize hR:zt a0 a1=r;unfold zt at hR;refine di Tryz.func6 Tryz.ntmps6 Tryz.results6 ?_;intro c hL hc hk;obtain⟨hL0,hL1,_⟩:=hL;have hw0:a0.length<9223372036854775808:=Nat.lt_succ_of_le (yc hL0).1;have hw1:∀ v∈a0,bwItem v:=fun v hv=>y6 v ((yc hL0).2 v hv)
 have hw2:a1.length<9223372036854775808:=Nat.lt_succ_of_le (yc hL1).1;have hw3:∀ v∈a1,bwItem v:=fun v hv=>y6 v ((yc hL1).2 v hv)
 clear hL0 hL1;simp only[pars,Nat.zero_add];iterate 2 refine rS ?_
 refine AWP.cond rfl (fun hb => ?_) (fun hb => ?_)
 ·replace hR:=ct hR
  refine rS ?_;refine AWP.ret ?_;subst hR;exact es
 ·replace hR:=cf hR
  iterate 2 refine rS ?_
  refine AWP.block ?_;generalize hz1:yf (yrv a0 a1) (a1.length-0) 0 (zvb a0)=z1 at hR;refine AWP.range (yrv a0 a1) (fun i1 s1=>⟨[(6,.ref 0 2 0 s1.length),(19,encL 2 yr a1),(20,.int .i64 (a1.length:Int)),(21,.int .i64 (i1:Int))],[.arr 38 2 s1.length (fun j=>yr (s1.getD j default))]⟩) (fun i1 s1=>s1.length<=a0.length+i1/\∀ v∈s1,bdItem v) (a1.length) 0 (zvb a0) [0] hz1 ot wt sm ?_;clear hz1;intro i1 s1 hi1 hW1 hz1;have hV1:=hW1;obtain⟨hV1_0,hV1_1⟩:=hV1;refine rS ?_;refine AWP.seq ?_;refine AWP.cond rfl (fun hb => ?_) (fun hb => ?_)
  ·have hlt1:i1<a1.length:=ot
   rw[yk hlt1]at hz1;simp only[yrv]at hz1;iterate 3 refine rS ?_
   exact⟨_,[2],hlt1,by(first|(refine⟨by simp only[yzf];omega,by simp only[yzf];exact hb1⟩)|(refine⟨by have:=yxw s1 (a1.getD i1 default);omega,fun v hv => ?_⟩;rcases y04 _ _ _ hv with h|h;exact hW1.2 v h;subst h;exact y3c hb3 (by decide) _)),hz1,sm⟩
  ·obtain rfl:i1=a1.length:=ot
   rw[yl (Nat.le_refl _)]at hz1;subst hz1;dsimp only at hR;refine AWP.exit ?_;refine yb ?_;refine rS ?_;refine AWP.cond rfl (fun hb => ?_) (fun hb => ?_)
   ·replace hR:=ct hR
    refine rS ?_;refine AWP.ret ?_;subst hR;exact es
   ·replace hR:=cf hR
    refine rS ?_;refine AWP.ret ?_;subst hR;exact es
end N6
def D_zt : DF
 | [x0,x1]=>some (.tup [ownL 38 2 yr ((zt (rdL yp x0) (rdL yp x1)).1),.int .i64 ((zt (rdL yp x0) (rdL yp x1)).2)],false,[wL 2 yr yp x0,wL 2 yr yp x1,(rdL yp x0).length<1099511627776,∀ v∈(rdL yp x0),bdItem v,(rdL yp x1).length<1099511627776,∀ v∈(rdL yp x1),bdItem v])
 | _=>none
theorem y15:OkD Tryz.prog 6 D_zt:=by unfold D_zt;exact dk N6.den
theorem yj4 (a b:List Item):(zt a b).1.length<=40:=by
 unfold zt
 cases h:((!(zab a)) || (!(zab b)))with
 | true=>simp
 | false=>
  simp only[cond_false];split
  ·rename_i e he
   obtain⟨j,t,h1,h2,h3⟩:=yvb he;simp[yrv]at h3
  ·rename_i s hs
   cases hf:zx (s.length:Int) 40 with
   | false=>simp
   | true=>simp[zx]at hf;simp;omega
def zg (a0:Int) (a1:Int) (a2:Int):Bool:=
 (decide (a1<=a0) && decide (a0<=a2))
namespace N81
theorem DD:DOk Tryz.prog (Go.Ab.DD []):=yd _
theorem den (a0:Int) (a1:Int) (a2:Int)  : Den Tryz.prog 81 [.int .i64 a0,.int .i64 a1,.int .i64 a2] (.bool (zg a0 a1 a2)):=by
 generalize hR:zg a0 a1 a2=r;unfold zg at hR;refine di Tryz.func81 Tryz.ntmps81 Tryz.results81 ?_;intro c hL hc hk;clear hL;simp only[pars,Nat.zero_add];iterate 2 refine rS ?_
 refine AWP.ret ?_;subst hR;exact es
end N81
def D_zg : DF
 | [x0,x1,x2]=>some (.bool (zg (rdI x0) (rdI x1) (rdI x2)),false,[wI .i64 x0,wI .i64 x1,wI .i64 x2])
 | _=>none
theorem yhc:OkD Tryz.prog 81 D_zg:=by unfold D_zg;exact dk N81.den
def zjg (a0:Int):Bool:=
 (zg a0 0 359)
namespace N190
theorem DD:DOk Tryz.prog (Go.Ab.DD [(81,dP D_zg)]):=ya yhc.e <| yd _
theorem dn:type_of% (@D_zg.eq_1):=by and_intros<;>intros<;>rfl
theorem ol:type_of% (@zg.eq_1):=@zg.eq_1
theorem den (a0:Int)  : Den Tryz.prog 190 [.int .i64 a0] (.bool (zjg a0)):=by
 generalize hR:zjg a0=r;unfold zjg at hR;refine di Tryz.func190 Tryz.ntmps190 Tryz.results190 ?_;intro c hL hc hk;clear hL;simp only[pars,Nat.zero_add];iterate 2 refine rS ?_
 refine AWP.ret ?_;subst hR;exact es
end N190
def D_zjg : DF
 | [x0]=>some (.bool (zjg (rdI x0)),false,[wI .i64 x0])
 | _=>none
theorem y40:OkD Tryz.prog 190 D_zjg:=by unfold D_zjg;exact dk N190.den
def zbg (a0:(List UInt8)):Bool:=
 (((a0.length:Int) == 1) && (zbc [87,82,71,89] a0))
namespace N191
theorem DD:DOk Tryz.prog (Go.Ab.DD [(145,dP D_zbc)]):=ya y0u.e <| yd _
theorem dn:type_of% (@D_zbc.eq_1):=by and_intros<;>intros<;>rfl
theorem den (a0:(List UInt8))  : Den Tryz.prog 191 [.str a0] (.bool (zbg a0)):=by
 generalize hR:zbg a0=r;unfold zbg at hR;refine di Tryz.func191 Tryz.ntmps191 Tryz.results191 ?_;intro c hL hc hk;obtain⟨hL0,_⟩:=hL;have hw0:a0.length<9223372036854775808:=Nat.lt_succ_of_le hL0;clear hL0;simp only[pars,Nat.zero_add];iterate 2 refine rS ?_
 refine AWP.ret ?_;subst hR;exact es
end N191
def D_zbg : DF
 | [x0]=>some (.bool (zbg (rdS x0)),false,[wS x0])
 | _=>none
theorem yq3:OkD Tryz.prog 191 D_zbg:=by unfold D_zbg;exact dk N191.den
def zcg (a0:Sector):Bool:=
 (((zjg a0.From) && (zjg a0.To)) && (zbg a0.Color))
namespace N142
theorem DD:DOk Tryz.prog (Go.Ab.DD [(190,dP D_zjg),(191,dP D_zbg)]):=ya y40.e <| ya yq3.e <| yd _
theorem dn:type_of% (And.intro @D_zjg.eq_1 <| @D_zbg.eq_1):=by and_intros<;>intros<;>rfl
theorem den (a0:Sector)  : Den Tryz.prog 142 [.agg (yx a0)] (.bool (zcg a0)):=by
 generalize hR:zcg a0=r;unfold zcg at hR;refine di Tryz.func142 Tryz.ntmps142 Tryz.results142 ?_;intro c hL hc hk;obtain⟨hL0,_⟩:=hL;have hw0:bwSector a0:=yob a0 hL0;clear hL0;simp only[pars,Nat.zero_add];iterate 2 refine rS ?_
 refine AWP.ret ?_;subst hR;exact es
end N142
def D_zcg : DF
 | [x0]=>some (.bool (zcg (rdG yab x0)),false,[wG yx yab x0])
 | _=>none
theorem ys3:OkD Tryz.prog 142 D_zcg:=by unfold D_zcg;exact dk N142.den
def zdf (a0:Int) (a1:Int):Int:=
 (IntKind.wrap .i64 ((a0.tmod a1)+a1)).tmod a1
namespace N192
theorem DD:DOk Tryz.prog (Go.Ab.DD []):=yd _
theorem den (a0:Int) (a1:Int) (hp0:0<a1):Den Tryz.prog 192 [.int .i64 a0,.int .i64 a1] (.int .i64 (zdf a0 a1)):=by
 generalize hR:zdf a0 a1=r;unfold zdf at hR;refine di Tryz.func192 Tryz.ntmps192 Tryz.results192 ?_;intro c hL hc hk;clear hL;simp only[pars,Nat.zero_add];iterate 2 refine rS ?_
 refine AWP.ret ?_;subst hR;exact es
end N192
def D_zdf : DF
 | [x0,x1]=>some (.int .i64 (zdf (rdI x0) (rdI x1)),false,[wI .i64 x0,wI .i64 x1,0<(rdI x1)])
 | _=>none
theorem yau:OkD Tryz.prog 192 D_zdf:=by unfold D_zdf;exact dk N192.den
def zxd (a0:Sector):Int:=
 IntKind.wrap .i64 ((zdf (IntKind.wrap .i64 ((IntKind.wrap .i64 (a0.To-a0.From))-1)) 360)+1)
namespace N144
theorem DD:DOk Tryz.prog (Go.Ab.DD [(192,dP D_zdf)]):=ya yau.e <| yd _
theorem dn:type_of% (@D_zdf.eq_1):=by and_intros<;>intros<;>rfl
theorem den (a0:Sector)  : Den Tryz.prog 144 [.agg (yx a0)] (.int .i64 (zxd a0)):=by
 generalize hR:zxd a0=r;unfold zxd at hR;refine di Tryz.func144 Tryz.ntmps144 Tryz.results144 ?_;intro c hL hc hk;obtain⟨hL0,_⟩:=hL;have hw0:bwSector a0:=yob a0 hL0;clear hL0;simp only[pars,Nat.zero_add];iterate 2 refine rS ?_
 refine AWP.ret ?_;subst hR;exact es
end N144
def D_zxd : DF
 | [x0]=>some (.int .i64 (zxd (rdG yab x0)),false,[wG yx yab x0])
 | _=>none
theorem ycu:OkD Tryz.prog 144 D_zxd:=by unfold D_zxd;exact dk N144.den
def zlf (a0:Sector) (a1:Int):Bool:=
 decide ((zdf (IntKind.wrap .i64 (a1-a0.From)) 360)<(zxd a0))
namespace N143
theorem DD:DOk Tryz.prog (Go.Ab.DD [(144,dP D_zxd),(192,dP D_zdf)]):=ya ycu.e <| ya yau.e <| yd _
theorem dn:type_of% (And.intro @D_zxd.eq_1 <| @D_zdf.eq_1):=by and_intros<;>intros<;>rfl
theorem den (a0:Sector) (a1:Int)  : Den Tryz.prog 143 [.agg (yx a0),.int .i64 a1] (.bool (zlf a0 a1)):=by
 generalize hR:zlf a0 a1=r;unfold zlf at hR;refine di Tryz.func143 Tryz.ntmps143 Tryz.results143 ?_;intro c hL hc hk;obtain⟨hL0,hL1,_⟩:=hL;have hw0:bwSector a0:=yob a0 hL0;clear hL0 hL1;simp only[pars,Nat.zero_add];refine rS ?_;refine rD 6 ?_;refine AWP.ret ?_;subst hR;exact es
end N143
def D_zlf : DF
 | [x0,x1]=>some (.bool (zlf (rdG yab x0) (rdI x1)),false,[wG yx yab x0,wI .i64 x1])
 | _=>none
theorem yr1:OkD Tryz.prog 143 D_zlf:=by unfold D_zlf;exact dk N143.den
def ydi (a0:(List Sector)) (i1:Nat) (s1:Int) (i2:Nat) (s2:Unit):Except (Bool) (Unit):=
 (bif (((i2:Int) != (i1:Int)) && (zlf (a0.getD i1 default) ((a0.getD i2 default).From)))then .error false else .ok ())
def yfg (a0:(List Sector)) (i1:Nat) (s1:Int):Except (Bool) (Int):=
 (bif ((!(zcg (a0.getD i1 default))) || (decide (0<(i1:Int)) && decide (((a0.getD i1 default).From)<=((a0.getD ((IntKind.wrap .i64 ((i1:Int)-1)).toNat) default).From))))then .error false else(match yf (ydi a0 i1 s1) (a0.length-0) 0 ()with|.error e=>.error e|.ok s2=>.ok (IntKind.wrap .i64 (s1+(zxd (a0.getD i1 default))))))
def zhb (a0:(List Sector)):Bool:=
 (match yf (yfg a0) (a0.length-0) 0 0 with|.error e=>e|.ok s1=>((zx (a0.length:Int) 12) && decide (s1<=360)))
namespace N98
theorem DD:DOk Tryz.prog (Go.Ab.DD [(142,dP D_zcg),(143,dP D_zlf),(144,dP D_zxd),(23,dP D_zx)]):=ya ys3.e <| ya yr1.e <| ya ycu.e <| ya yfe.e <| yd _
theorem dn:type_of% (And.intro @D_zcg.eq_1 <| And.intro @D_zlf.eq_1 <| And.intro @D_zxd.eq_1 <| @D_zx.eq_1):=by and_intros<;>intros<;>rfl
theorem den (a0:(List Sector))  : Den Tryz.prog 98 [encL 3 yx a0] (.bool (zhb a0)):=by
 generalize hR:zhb a0=r;unfold zhb at hR;refine di Tryz.func98 Tryz.ntmps98 Tryz.results98 ?_;intro c hL hc hk;obtain⟨hL0,_⟩:=hL;have hw0:a0.length<9223372036854775808:=Nat.lt_succ_of_le (yc hL0).1;have hw1:∀ v∈a0,bwSector v:=fun v hv=>yob v ((yc hL0).2 v hv)
 clear hL0;simp only[pars,Nat.zero_add];iterate 3 refine rS ?_
 refine AWP.block ?_;generalize hz1:yf (yfg a0) (a0.length-0) 0 0=z1 at hR;refine AWP.range (yfg a0) (fun i1 s1=>⟨[(0,encL 3 yx a0),(3,.int .i64 s1),(8,encL 3 yx a0),(9,.int .i64 (a0.length:Int)),(10,.int .i64 (i1:Int))],[]⟩) (fun i1 s1=>True) (a0.length) 0 0 [] hz1 ot wt sm ?_;clear hz1;intro i1 s1 hi1 hW1 hz1;refine rS ?_;refine AWP.seq ?_;refine AWP.cond rfl (fun hb => ?_) (fun hb => ?_)
 ·have hlt1:i1<a0.length:=ot
  rw[yk hlt1]at hz1;simp only[yfg]at hz1;refine rS ?_;refine rD 18 ?_;refine AWP.cond rfl (fun hb => ?_) (fun hb => ?_)
  ·simp only[hb,cond_true]at hz1
   refine rS ?_;refine AWP.ret ?_;subst hz1;dsimp only at hR;subst hR;exact es
  ·simp only[hb,cond_false]at hz1
   refine rS ?_;refine AWP.block ?_;generalize hz2:yf (ydi a0 i1 s1) (a0.length-0) 0 ()=z2 at hz1;refine AWP.range (ydi a0 i1 s1) (fun i2 s2=>⟨[(0,encL 3 yx a0),(3,.int .i64 s1),(4,.int .i64 (i1:Int)),(5,.ptr 0 0),(8,encL 3 yx a0),(9,.int .i64 (a0.length:Int)),(10,.int .i64 (i1:Int)),(33,encL 3 yx a0),(34,.int .i64 (a0.length:Int)),(35,.int .i64 (i2:Int))],[.box [.int .i64 ((a0.getD i1 default).From),.int .i64 ((a0.getD i1 default).To),.str ((a0.getD i1 default).Color)]]⟩) (fun i2 s2=>True) (a0.length) 0 () [0] hz2 ot wt sm ?_;clear hz2;intro i2 s2 hi2 hW2 hz2;refine rS ?_;refine AWP.seq ?_;refine AWP.cond rfl (fun hb => ?_) (fun hb => ?_)
   ·have hlt2:i2<a0.length:=ot
    rw[yk hlt2]at hz2;simp only[ydi]at hz2;iterate 2 refine rS ?_
    refine AWP.cond rfl (fun hb => ?_) (fun hb => ?_)
    ·simp only[hb,cond_true]at hz2
     refine rS ?_;refine AWP.ret ?_;subst hz2;dsimp only at hz1;subst hz1;dsimp only at hR;subst hR;exact es
    ·simp only[hb,cond_false]at hz2
     refine rS ?_;exact⟨_,[0],hlt2,wt,hz2,sm⟩
   ·obtain rfl:i2=a0.length:=ot
    rw[yl (Nat.le_refl _)]at hz2;subst hz2;dsimp only at hz1;refine AWP.exit ?_;refine yb ?_;iterate 2 refine rS ?_
    exact⟨_,[],hlt1,wt,hz1,sm⟩
 ·obtain rfl:i1=a0.length:=ot
  rw[yl (Nat.le_refl _)]at hz1;subst hz1;dsimp only at hR;refine AWP.exit ?_;refine yb ?_;refine rS ?_;refine AWP.ret ?_;subst hR;exact es
end N98
def D_zhb : DF
 | [x0]=>some (.bool (zhb (rdL yab x0)),false,[wL 3 yx yab x0])
 | _=>none
theorem y3m:OkD Tryz.prog 98 D_zhb:=by unfold D_zhb;exact dk N98.den
def zef (a0:(List Item)) (a1:(List UInt8)):((List UInt8)×Int):=
 (bif (!(zab a0))then([],1)else(bif (!((zfb a0 a1).2))then([],3)else((a0.getD (((zfb a0 a1).1).toNat) default).Text,0)))
namespace N12
theorem DD:DOk Tryz.prog (Go.Ab.DD [(20,dP D_zab),(31,dP D_zfb)]):=ya y5i.e <| ya y4u.e <| yd _
theorem dn:type_of% (And.intro @D_zab.eq_1 <| @D_zfb.eq_1):=by and_intros<;>intros<;>rfl
theorem gr {p:Prop} (h:p:=by(grind [yrk,ymt]);first|done|fail):p:=h
theorem o0 {p:Prop} (h:p:=by(first|(have h9:=hx4 (by assumption);(repeat' with_reducible apply And.intro)<;>first|with_reducible assumption|omega|(simp only[List.length_append,List.length_cons,List.length_nil,List.length_singleton];omega)));first|done|fail):p:=h
set_option maxHeartbeats 1000000 in
set_option maxRecDepth 20000 in
theorem den (a0:(List Item)) (a1:(List UInt8))  : Den Tryz.prog 12 [encL 2 yr a0,.str a1] (.tup [.str ((zef a0 a1).1),.int .i64 ((zef a0 a1).2)]):=by
 generalize hR:zef a0 a1=r;unfold zef at hR;refine di Tryz.func12 Tryz.ntmps12 Tryz.results12 ?_;intro c hL hc hk;obtain⟨hL0,hL1,_⟩:=hL;have hw0:a0.length<9223372036854775808:=Nat.lt_succ_of_le (yc hL0).1;have hw1:∀ v∈a0,bwItem v:=fun v hv=>y6 v ((yc hL0).2 v hv)
 have hw2:a1.length<9223372036854775808:=Nat.lt_succ_of_le hL1;clear hL0 hL1;simp only[pars,Nat.zero_add];obtain⟨hx1,hx2,hx3⟩:=ymt a0 a1 (by omega);have hx4:(!((zfb a0 a1).2))=false->(zfb a0 a1).1.toNat<a0.length:=fun h=>hx3 (by simpa using h)
 iterate 2 refine rS ?_
 refine AWP.cond rfl (fun hb => ?_) (fun hb => ?_)
 ·replace hR:=ct hR
  refine rS ?_;refine AWP.ret ?_;subst hR;exact es
 ·replace hR:=cf hR
  iterate 2 refine rS ?_
  refine AWP.cond rfl (fun hb => ?_) (fun hb => ?_)
  ·replace hR:=ct hR
   refine rS ?_;refine AWP.ret ?_;subst hR;exact es
  ·replace hR:=cf hR
   refine rS ?_;refine AWP.ret ?_;subst hR;exact es
end N12
def D_zef : DF
 | [x0,x1]=>some (.tup [.str ((zef (rdL yp x0) (rdS x1)).1),.int .i64 ((zef (rdL yp x0) (rdS x1)).2)],false,[wL 2 yr yp x0,wS x1])
 | _=>none
theorem y9z:OkD Tryz.prog 12 D_zef:=by unfold D_zef;exact dk N12.den
def zl (a0:(List UInt8)):(Int×Bool):=y8b a0
theorem yt7 (a0:(List UInt8)) (hp0:a0.length<=1048576):Den Tryz.prog 66 [.str a0] (.tup [.int .i64 ((zl a0).1),.bool ((zl a0).2)]):=by
 exact y1s a0 hp0
def D_zl : DF
 | [x0]=>some (.tup [.int .i64 ((zl (rdS x0)).1),.bool ((zl (rdS x0)).2)],false,[wS x0,(rdS x0).length<=1048576])
 | _=>none
theorem y9f:OkD Tryz.prog 66 D_zl:=by
 intro xs r z ob h ho;unfold D_zl at h;split at h
 ·simp only[Option.some.injEq,Prod.mk.injEq]at h
  obtain⟨rfl,rfl,rfl⟩:=h;obtain⟨h0,hp0,_⟩:=ho;exact Den.sim (yt7 _ hp0) (yh (ycb h0).1 <| trivial) (yw (ycb h0).2 <| rfl) rfl
 ·cases h
theorem ynz (a b:List UInt8):(zhc a b).1.length<=a.length:=by
 unfold zhc zbf;simp only[Bool.cond_eq_ite];split
 ·exact Nat.le_refl _
 ·simp
theorem yd6 {l:List (List UInt8)} {b:Bool} (h:(((l.length:Int) != 3) || b)=false):l.length=3:=by
 simp only[Bool.or_eq_false_iff,bne_eq_false_iff_eq]at h;omega
theorem yj7 {p q:Bool} {n k:Int} (h:(((p || q) || (!(zg n 0 400))) || decide (k<0))=false):0<=n/\n<=400/\0<=k/\IntKind.wrap .i64 (n+1)=n+1:=by
 simp only[Bool.or_eq_false_iff,Bool.not_eq_false',decide_eq_false_iff_not,zg,Bool.and_eq_true,decide_eq_true_eq]at h;refine⟨h.1.2.1,h.1.2.2,by omega,?_⟩;rw[IntKind.wrap_i64];omega
theorem ya8 {r:List UInt8} {n:Int} (h:decide ((r.length:Int)<IntKind.wrap .i64 (n+1))=false) (h1:IntKind.wrap .i64 (n+1)=n+1):n+1<=(r.length:Int):=by
 have:=of_decide_eq_false h;omega
theorem y77 {p:Bool} {n:Int} (h:(!((p) && (zg n 0 40)))=false):0<=n/\n<=40:=by
 simp only[Bool.not_eq_false',zg,Bool.and_eq_true,decide_eq_true_eq]at h;exact h.2
def zn (a0:(List UInt8)):(Item×Int×(List UInt8)×Int):=
 (bif (!((zd a0 [10]).2.2))then({ Key:=[],Text:=[]:Item },0,[],11)else(bif ((((zf ((zd a0 [10]).1) [32]).length:Int) != 3) || (!(zqc ((zf ((zd a0 [10]).1) [32]).getD 0 default))))then({ Key:=[],Text:=[]:Item },0,[],9)else(bif ((((!((zl ((zf ((zd a0 [10]).1) [32]).getD 1 default)).2)) || (!((zl ((zf ((zd a0 [10]).1) [32]).getD 2 default)).2))) || (!(zg ((zl ((zf ((zd a0 [10]).1) [32]).getD 1 default)).1) 0 400))) || decide (((zl ((zf ((zd a0 [10]).1) [32]).getD 2 default)).1)<0))then({ Key:=[],Text:=[]:Item },0,[],9)else(bif decide ((((zd a0 [10]).2.1).length:Int)<(IntKind.wrap .i64 (((zl ((zf ((zd a0 [10]).1) [32]).getD 1 default)).1)+1)))then({ Key:=[],Text:=[]:Item },0,[],11)else(bif (((((zd a0 [10]).2.1).getD (((zl ((zf ((zd a0 [10]).1) [32]).getD 1 default)).1).toNat) 0).toNat:Int) != 10)then({ Key:=[],Text:=[]:Item },0,[],9)else({ Key:=((zf ((zd a0 [10]).1) [32]).getD 0 default),Text:=((zd a0 [10]).2.1).take (((zl ((zf ((zd a0 [10]).1) [32]).getD 1 default)).1).toNat):Item },(zl ((zf ((zd a0 [10]).1) [32]).getD 2 default)).1,(((zd a0 [10]).2.1).take (((zd a0 [10]).2.1).length)).drop ((IntKind.wrap .i64 (((zl ((zf ((zd a0 [10]).1) [32]).getD 1 default)).1)+1)).toNat),0))))))
namespace N51
theorem DD:DOk Tryz.prog (Go.Ab.DD [(49,dP D_zd),(65,dP D_zf),(66,dP D_zl),(77,dP D_zqc),(81,dP D_zg)]):=ya yke.e <| ya ypj.e <| ya y9f.e <| ya yqn.e <| ya yhc.e <| yd _
theorem dn:type_of% (And.intro @D_zd.eq_1 <| And.intro @D_zf.eq_1 <| And.intro @D_zl.eq_1 <| And.intro @D_zqc.eq_1 <| @D_zg.eq_1):=by and_intros<;>intros<;>rfl
theorem ol:type_of% (@zg.eq_1):=@zg.eq_1
theorem gr {p:Prop} (h:p:=by(grind [ykc]);first|done|fail):p:=h
theorem o0 {p:Prop} (h:p:=by(first|(have h3:=yd6 (by assumption);have h4:=yj7 (by assumption);have h5:=ya8 (by assumption) h4.2.2.2;obtain⟨h6,h7,h8,h9⟩:=h4;(repeat' with_reducible apply And.intro)<;>first|with_reducible assumption|omega|(simp only[List.length_append,List.length_cons,List.length_nil,List.length_singleton];omega))|(have h3:=yd6 (by assumption);have h4:=yj7 (by assumption);obtain⟨h6,h7,h8,h9⟩:=h4;(repeat' with_reducible apply And.intro)<;>first|with_reducible assumption|omega|(simp only[List.length_append,List.length_cons,List.length_nil,List.length_singleton];omega))|(have h3:=yd6 (by assumption);(repeat' with_reducible apply And.intro)<;>first|with_reducible assumption|omega|(simp only[List.length_append,List.length_cons,List.length_nil,List.length_singleton];omega))|((repeat' with_reducible apply And.intro)<;>first|with_reducible assumption|omega|(simp only[List.length_append,List.length_cons,List.length_nil,List.length_singleton];omega)));first|done|fail):p:=h
set_option maxHeartbeats 4000000 in
set_option maxRecDepth 20000 in
theorem den (a0:(List UInt8)) (hb0:a0.length<1099511627776) (hp0:a0.length<=1048576):Den Tryz.prog 51 [.str a0] (.tup [.agg (yr ((zn a0).1)),.int .i64 ((zn a0).2.1),.str ((zn a0).2.2.1),.int .i64 ((zn a0).2.2.2)]):=by
 generalize hR:zn a0=r;unfold zn at hR;refine di Tryz.func51 Tryz.ntmps51 Tryz.results51 ?_;intro c hL hc hk;obtain⟨hL0,_⟩:=hL;have hw0:a0.length<9223372036854775808:=Nat.lt_succ_of_le hL0;clear hL0;simp only[pars,Nat.zero_add];have c1:=ykc a0 [10];have e1:=fun i=>ycj ((zd a0 [10]).1) 32 i
 have e10:=e1 0;have e11:=e1 1;have e12:=e1 2;iterate 3 refine rS ?_
 refine AWP.cond rfl (fun hb => ?_) (fun hb => ?_)
 ·replace hR:=ct hR
  refine rS ?_;refine AWP.ret ?_;subst hR;exact es
 ·replace hR:=cf hR
  iterate 2 refine rS ?_
  refine AWP.cond rfl (fun hb => ?_) (fun hb => ?_)
  ·replace hR:=ct hR
   refine rS ?_;refine AWP.ret ?_;subst hR;exact es
  ·replace hR:=cf hR
   iterate 3 refine rS ?_
   refine AWP.cond rfl (fun hb => ?_) (fun hb => ?_)
   ·replace hR:=ct hR
    refine rS ?_;refine AWP.ret ?_;subst hR;exact es
   ·replace hR:=cf hR
    refine rS ?_;refine AWP.cond rfl (fun hb => ?_) (fun hb => ?_)
    ·replace hR:=ct hR
     refine rS ?_;refine AWP.ret ?_;subst hR;exact es
    ·replace hR:=cf hR
     refine rS ?_;refine AWP.cond rfl (fun hb => ?_) (fun hb => ?_)
     ·replace hR:=ct hR
      refine rS ?_;refine AWP.ret ?_;subst hR;exact es
     ·replace hR:=cf hR
      refine AWP.skip ?_;refine AWP.seq ?_;refine AWP.regP mixed G_ok DD hc 14 [0,1,2,3,4,5,6,7,8,9,10,11] (.alt 12 [] [7,8,9,10,11] (.alt 13 [] [8,9,10,11] .leaf .stop) .stop) (by kernel_rfl) (by kernel_rfl) (by kernel_rfl) (fun K hK => ?_);simp only[yxh,runN,runP,ycc,nthO,ea,absV,absVL,cput,gv,sv,dn,reduceCtorEq,reduceIte,Nat.reduceBEq,Nat.reduceAdd,Nat.reduceEqDiff,Nat.reduceLT,Nat.reduceLeDiff,Nat.reduceMul,Nat.reduceSub,BEq.rfl,beq_self_eq_true,Int.reduceToNat];repeat' apply And.intro
      all_goals first|refine hK _ ?_|exact ot
      all_goals clear hK K
      refine AWP.ret ?_;subst hR;exact es
end N51
def D_zn : DF
 | [x0]=>some (.tup [.agg (yr ((zn (rdS x0)).1)),.int .i64 ((zn (rdS x0)).2.1),.str ((zn (rdS x0)).2.2.1),.int .i64 ((zn (rdS x0)).2.2.2)],false,[wS x0,(rdS x0).length<1099511627776,(rdS x0).length<=1048576])
 | _=>none
theorem yus:OkD Tryz.prog 51 D_zn:=by unfold D_zn;exact dk N51.den
def zjb (a0:(List UInt8)):(Int×Bool):=
 ((zl ((zhc a0 [97,114,99,104,105,118,101,32]).1)).1,(((zhc a0 [97,114,99,104,105,118,101,32]).2 && (zl ((zhc a0 [97,114,99,104,105,118,101,32]).1)).2) && (zg ((zl ((zhc a0 [97,114,99,104,105,118,101,32]).1)).1) 0 40)))
namespace N50
theorem DD:DOk Tryz.prog (Go.Ab.DD [(63,dP D_zhc),(66,dP D_zl),(81,dP D_zg)]):=ya yrt.e <| ya y9f.e <| ya yhc.e <| yd _
theorem dn:type_of% (And.intro @D_zhc.eq_1 <| And.intro @D_zl.eq_1 <| @D_zg.eq_1):=by and_intros<;>intros<;>rfl
theorem ol:type_of% (@zg.eq_1):=@zg.eq_1
theorem o0 {p:Prop} (h:p:=by(first|((repeat' with_reducible apply And.intro)<;>first|with_reducible assumption|omega|(simp only[List.length_append,List.length_cons,List.length_nil,List.length_singleton];omega)));first|done|fail):p:=h
set_option maxHeartbeats 1000000 in
set_option maxRecDepth 20000 in
theorem den (a0:(List UInt8)) (hb0:a0.length<1099511627776) (hp0:a0.length<=1048576):Den Tryz.prog 50 [.str a0] (.tup [.int .i64 ((zjb a0).1),.bool ((zjb a0).2)]):=by
 generalize hR:zjb a0=r;unfold zjb at hR;refine di Tryz.func50 Tryz.ntmps50 Tryz.results50 ?_;intro c hL hc hk;obtain⟨hL0,_⟩:=hL;have hw0:a0.length<9223372036854775808:=Nat.lt_succ_of_le hL0;clear hL0;simp only[pars,Nat.zero_add];have c1:=ynz a0 [97,114,99,104,105,118,101,32];iterate 4 refine rS ?_
 refine AWP.ret ?_;subst hR;exact es
end N50
def D_zjb : DF
 | [x0]=>some (.tup [.int .i64 ((zjb (rdS x0)).1),.bool ((zjb (rdS x0)).2)],false,[wS x0,(rdS x0).length<1099511627776,(rdS x0).length<=1048576])
 | _=>none
theorem ytm:OkD Tryz.prog 50 D_zjb:=by unfold D_zjb;exact dk N50.den
theorem y9h {a:List UInt8} (h:(!((zjb a).2))=false):0<=(zjb a).1/\(zjb a).1<=40:=y77 h
theorem yjc (a:List UInt8):((zn a).1.Key.length<=a.length/\(zn a).1.Text.length<=a.length)/\(zn a).2.2.1.length<=a.length:=by
 have h1:=ykc a [10];have h2:=ycj ((zd a [10]).1) 32 0;unfold zn;simp only[Bool.cond_eq_ite]
 (repeat' split)<;>first|(exact⟨⟨Nat.zero_le _,Nat.zero_le _⟩,Nat.zero_le _⟩)|(refine⟨⟨?_,?_⟩,?_⟩<;>simp only[List.length_drop,List.length_take]<;>omega)
theorem ybk {a:List UInt8} (h:a.length<=1048576):bdItem (zn a).1:=
 ⟨Nat.lt_of_le_of_lt (Nat.le_trans (yjc a).1.1 h) (by decide),Nat.lt_of_le_of_lt (Nat.le_trans (yjc a).1.2 h) (by decide)⟩
def zjd (a0:Item) (a1:Bool) (a2:(List Item)):Int×(List Item):=
 (bif a1 then(10,a2)else(bif (decide (0<(a2.length:Int)) && !(Op.bytesLess ((a2.getD ((IntKind.wrap .i64 ((a2.length:Int)-1)).toNat) default).Key) a0.Key))then(7,a2)else(0,a2++[a0])))
namespace N27
theorem DD:DOk Tryz.prog (Go.Ab.DD []):=yd _
theorem den (a0:Item) (a1:Bool) (a2:(List Item)) (F:Nat->List AV) (cx:Item) (hb0:bdItem a0) (hp0:a2.length<=40) (hF:∀ i,i<a2.length->F i=yr (a2.getD i default)):DenH Tryz.prog 27 [.agg (yr a0),.bool a1,.ptr 1 0] [.dead,.box [.ref 2 2 0 a2.length],.arr 38 2 a2.length F,.box [.str cx.Key,.str cx.Text]] (.int .i64 ((zjd a0 a1 a2).1)) [.dead,.box [.ref 4 2 0 ((zjd a0 a1 a2).2).length],.dead,.box [.str cx.Key,.str cx.Text],.arr 38 2 ((zjd a0 a1 a2).2).length (fun j=>yr (((zjd a0 a1 a2).2).getD j default))]:=by
 generalize hR:zjd a0 a1 a2=r;unfold zjd at hR;refine yad (k:=4) (slot:=5) G_ok Tryz.func27 (by kernel_rfl) rfl Tryz.ntmps27 (by rw[Tryz.results27]) (by simp) rfl ?_;intro c hL hc hk;obtain⟨hL0,hL1,hL2,_⟩:=hL;have hw0:bwItem a0:=y6 a0 hL0;clear hL0 hL1 hL2;simp only[pars,Nat.zero_add,Nat.reduceAdd];refine AWP.simD (s':=⟨[(0,.agg (yr a0)),(1,.bool a1),(2,.ptr 1 0)],[.dead,.box [.ref 4 2 0 a2.length],.dead,.box [.str cx.Key,.str cx.Text],.arr 38 2 a2.length (fun j=>yr (a2.getD j default))]⟩) [0,1,2,3,2] ?_ (by rw[hk];exact⟨rfl,rfl,by simp[livL],by simp only[si,ea,gv,sv,hk,reduceCtorEq,reduceIte,Nat.reduceBEq,Nat.reduceAdd,Nat.reduceEqDiff,Nat.reduceLT,Nat.reduceLeDiff,Nat.reduceMul,Nat.reduceSub,BEq.rfl,beq_self_eq_true,Int.reduceToNat];first|exact hF|exact fun i hi=>⟨hF i hi,rfl⟩|(refine⟨?_,?_⟩<;>first|trivial|exact hF),by simp only[si,ea,gv,sv,hk,reduceCtorEq,reduceIte,Nat.reduceBEq,Nat.reduceAdd,Nat.reduceEqDiff,Nat.reduceLT,Nat.reduceLeDiff,Nat.reduceMul,Nat.reduceSub,BEq.rfl,beq_self_eq_true,Int.reduceToNat]<;>trivial⟩);iterate 3 refine rS ?_
 refine AWP.cond rfl (fun hb => ?_) (fun hb => ?_)
 ·replace hR:=ct hR
  refine rS ?_;refine AWP.ret ?_;subst hR;exact⟨[0,1,2,3,4],sm⟩
 ·replace hR:=cf hR
  refine AWP.seq ?_;refine AWP.regP mixed G_ok DD hc 14 [0,1,2,3,4,5,6,7,8,9,10,11,12] (.alt 13 [] [3,4,5,6] .leaf .stop) (by kernel_rfl) (by kernel_rfl) (by kernel_rfl) (fun K hK => ?_);simp only[yxh,runN,runP,ycc,nthO,ea,absV,absVL,cput,gv,sv,dn,reduceCtorEq,reduceIte,Nat.reduceBEq,Nat.reduceAdd,Nat.reduceEqDiff,Nat.reduceLT,Nat.reduceLeDiff,Nat.reduceMul,Nat.reduceSub,BEq.rfl,beq_self_eq_true,Int.reduceToNat];repeat' apply And.intro
  all_goals first|refine hK _ ?_|exact ot
  all_goals clear hK K
  refine AWP.cond rfl (fun hb => ?_) (fun hb => ?_)
  ·replace hR:=ct hR
   refine rS ?_;refine AWP.ret ?_;subst hR;exact⟨[0,1,2,3,4],sm⟩
  ·replace hR:=cf hR
   iterate 2 refine rS ?_
   refine AWP.ret ?_;subst hR;exact⟨[0,1,2,3,7],sm⟩
end N27
def D_zjd : DHF
 | [x0,x1,(.ptr 1 0)],[.dead,.box [.ref 2 2 0 hn],.arr 38 2 hm hF,.box [.str z0,.str z1]]=>some (.int .i64 ((zjd (rdG yp x0) (rdB x1) (decL yp hm hF)).1),[.dead,.box [.ref 4 2 0 ((zjd (rdG yp x0) (rdB x1) (decL yp hm hF)).2).length],.dead,.box [.str z0,.str z1],.arr 38 2 ((zjd (rdG yp x0) (rdB x1) (decL yp hm hF)).2).length (fun j=>yr (((zjd (rdG yp x0) (rdB x1) (decL yp hm hF)).2).getD j default))],[wG yr yp x0,wB x1,bdItem (rdG yp x0),(decL yp hm hF).length<=40,hn=hm,∀ i,i<hm->hF i=yr ((decL yp hm hF).getD i default)])
 | _,_=>none
theorem yq1:OkH Tryz.prog 27 D_zjd:=by
 intro xs h r h' ob h0 ho;unfold D_zjd at h0;split at h0
 ·rename_i x0 x1 hn hm hF z0 z1
  simp only[Option.some.injEq,Prod.mk.injEq]at h0;obtain⟨rfl,rfl,rfl⟩:=h0;obtain⟨h0,h1,hb0,hp0,qn,qF,_⟩:=ho;subst qn;have hl:(decL yp hn hF).length=hn:=ycf _ _ _;have hd:=@N27.den (rdG yp x0) (rdB x1) (decL yp hn hF) hF ⟨z0,z1⟩ (by assumption) (by assumption) (by rw[hl];exact qF);rw[hl]at hd;exact DenH.sim hd (yh (ysl h0).1 <| yh (y8k h1).1 <| yh (yec _) <| trivial)
 ·cases h0
def zkd (a0:Item) (a1:Bool) (a2:(List Item)):Int×(List Item):=
 (bif ((!a1) && (((a2.length:Int) == 0) || Op.bytesLess ((a2.getD ((IntKind.wrap .i64 ((a2.length:Int)-1)).toNat) default).Key) a0.Key))then(0,a2++[a0])else(0,a2))
namespace N29
theorem DD:DOk Tryz.prog (Go.Ab.DD []):=yd _
theorem den (a0:Item) (a1:Bool) (a2:(List Item)) (F:Nat->List AV) (cx:Item) (hb0:bdItem a0) (hp0:a2.length<=40) (hF:∀ i,i<a2.length->F i=yr (a2.getD i default)):DenH Tryz.prog 29 [.agg (yr a0),.bool a1,.ptr 1 0] [.dead,.box [.ref 2 2 0 a2.length],.arr 38 2 a2.length F,.box [.str cx.Key,.str cx.Text]] (.int .i64 ((zkd a0 a1 a2).1)) [.dead,.box [.ref 4 2 0 ((zkd a0 a1 a2).2).length],.dead,.box [.str cx.Key,.str cx.Text],.arr 38 2 ((zkd a0 a1 a2).2).length (fun j=>yr (((zkd a0 a1 a2).2).getD j default))]:=by
 generalize hR:zkd a0 a1 a2=r;unfold zkd at hR;refine yad (k:=4) (slot:=5) G_ok Tryz.func29 (by kernel_rfl) rfl Tryz.ntmps29 (by rw[Tryz.results29]) (by simp) rfl ?_;intro c hL hc hk;obtain⟨hL0,hL1,hL2,_⟩:=hL;have hw0:bwItem a0:=y6 a0 hL0;clear hL0 hL1 hL2;simp only[pars,Nat.zero_add,Nat.reduceAdd];refine AWP.simD (s':=⟨[(0,.agg (yr a0)),(1,.bool a1),(2,.ptr 1 0)],[.dead,.box [.ref 4 2 0 a2.length],.dead,.box [.str cx.Key,.str cx.Text],.arr 38 2 a2.length (fun j=>yr (a2.getD j default))]⟩) [0,1,2,3,2] ?_ (by rw[hk];exact⟨rfl,rfl,by simp[livL],by simp only[si,ea,gv,sv,hk,reduceCtorEq,reduceIte,Nat.reduceBEq,Nat.reduceAdd,Nat.reduceEqDiff,Nat.reduceLT,Nat.reduceLeDiff,Nat.reduceMul,Nat.reduceSub,BEq.rfl,beq_self_eq_true,Int.reduceToNat];first|exact hF|exact fun i hi=>⟨hF i hi,rfl⟩|(refine⟨?_,?_⟩<;>first|trivial|exact hF),by simp only[si,ea,gv,sv,hk,reduceCtorEq,reduceIte,Nat.reduceBEq,Nat.reduceAdd,Nat.reduceEqDiff,Nat.reduceLT,Nat.reduceLeDiff,Nat.reduceMul,Nat.reduceSub,BEq.rfl,beq_self_eq_true,Int.reduceToNat]<;>trivial⟩);iterate 2 refine rS ?_
 refine rD 17 ?_;refine AWP.cond rfl (fun hb => ?_) (fun hb => ?_)
 ·replace hR:=ct hR
  iterate 2 refine rS ?_
  refine AWP.ret ?_;subst hR;exact⟨[0,1,2,3,7],sm⟩
 ·replace hR:=cf hR
  refine rS ?_;refine AWP.ret ?_;subst hR;exact⟨[0,1,2,3,4],sm⟩
end N29
def D_zkd : DHF
 | [x0,x1,(.ptr 1 0)],[.dead,.box [.ref 2 2 0 hn],.arr 38 2 hm hF,.box [.str z0,.str z1]]=>some (.int .i64 ((zkd (rdG yp x0) (rdB x1) (decL yp hm hF)).1),[.dead,.box [.ref 4 2 0 ((zkd (rdG yp x0) (rdB x1) (decL yp hm hF)).2).length],.dead,.box [.str z0,.str z1],.arr 38 2 ((zkd (rdG yp x0) (rdB x1) (decL yp hm hF)).2).length (fun j=>yr (((zkd (rdG yp x0) (rdB x1) (decL yp hm hF)).2).getD j default))],[wG yr yp x0,wB x1,bdItem (rdG yp x0),(decL yp hm hF).length<=40,hn=hm,∀ i,i<hm->hF i=yr ((decL yp hm hF).getD i default)])
 | _,_=>none
theorem yh0:OkH Tryz.prog 29 D_zkd:=by
 intro xs h r h' ob h0 ho;unfold D_zkd at h0;split at h0
 ·rename_i x0 x1 hn hm hF z0 z1
  simp only[Option.some.injEq,Prod.mk.injEq]at h0;obtain⟨rfl,rfl,rfl⟩:=h0;obtain⟨h0,h1,hb0,hp0,qn,qF,_⟩:=ho;subst qn;have hl:(decL yp hn hF).length=hn:=ycf _ _ _;have hd:=@N29.den (rdG yp x0) (rdB x1) (decL yp hn hF) hF ⟨z0,z1⟩ (by assumption) (by assumption) (by rw[hl];exact qF);rw[hl]at hd;exact DenH.sim hd (yh (ysl h0).1 <| yh (y8k h1).1 <| yh (yec _) <| trivial)
 ·cases h0
def zyc (a0:Item) (a1:Bool) (a2:(List Int)) (a3:Int):Int×(List Int)×Int:=
 (bif a1 then(0,a2++([a3]:List Int),IntKind.wrap .i64 (a3+1))else(0,a2,IntKind.wrap .i64 (a3+1)))
namespace N28
theorem DD:DOk Tryz.prog (Go.Ab.DD []):=yd _
theorem den (a0:Item) (a1:Bool) (a2:(List Int)) (a3:Int) (F:Nat->List AV) (cx:Item) (hb0:bdItem a0) (hp0:a2.length<=40) (hF:∀ i,i<a2.length->F i=yv (a2.getD i default)):DenH Tryz.prog 28 [.agg (yr a0),.bool a1,.ptr 1 0,.ptr 2 0] [.dead,.box [.ref 3 1 0 a2.length],.box [.int .i64 a3],.arr 2 1 a2.length F,.box [.str cx.Key,.str cx.Text]] (.int .i64 ((zyc a0 a1 a2 a3).1)) [.dead,.box [.ref 5 1 0 ((zyc a0 a1 a2 a3).2.1).length],.box [.int .i64 ((zyc a0 a1 a2 a3).2.2)],.dead,.box [.str cx.Key,.str cx.Text],.arr 2 1 ((zyc a0 a1 a2 a3).2.1).length (fun j=>yv (((zyc a0 a1 a2 a3).2.1).getD j default))]:=by
 generalize hR:zyc a0 a1 a2 a3=r;unfold zyc at hR;refine yad (k:=5) (slot:=6) G_ok Tryz.func28 (by kernel_rfl) rfl Tryz.ntmps28 (by rw[Tryz.results28]) (by simp) rfl ?_;intro c hL hc hk;obtain⟨hL0,hL1,hL2,hL3,_⟩:=hL;have hw0:bwItem a0:=y6 a0 hL0;clear hL0 hL1 hL2 hL3;simp only[pars,Nat.zero_add,Nat.reduceAdd];refine AWP.simD (s':=⟨[(0,.agg (yr a0)),(1,.bool a1),(2,.ptr 1 0),(3,.ptr 2 0)],[.dead,.box [.ref 5 1 0 a2.length],.box [.int .i64 a3],.dead,.box [.str cx.Key,.str cx.Text],.arr 2 1 a2.length (fun j=>yv (a2.getD j default))]⟩) [0,1,2,3,4,3] ?_ (by rw[hk];exact⟨rfl,rfl,by simp[livL],by simp only[si,ea,gv,sv,hk,reduceCtorEq,reduceIte,Nat.reduceBEq,Nat.reduceAdd,Nat.reduceEqDiff,Nat.reduceLT,Nat.reduceLeDiff,Nat.reduceMul,Nat.reduceSub,BEq.rfl,beq_self_eq_true,Int.reduceToNat];first|exact hF|exact fun i hi=>⟨hF i hi,rfl⟩|(refine⟨?_,?_⟩<;>first|trivial|exact hF),by simp only[si,ea,gv,sv,hk,reduceCtorEq,reduceIte,Nat.reduceBEq,Nat.reduceAdd,Nat.reduceEqDiff,Nat.reduceLT,Nat.reduceLeDiff,Nat.reduceMul,Nat.reduceSub,BEq.rfl,beq_self_eq_true,Int.reduceToNat]<;>trivial⟩);iterate 2 refine rS ?_
 refine AWP.cond rfl (fun hb => ?_) (fun hb => ?_)
 ·replace hR:=ct hR
  iterate 3 refine rS ?_
  refine AWP.ret ?_;subst hR;exact⟨[0,1,2,3,4,8],sm⟩
 ·replace hR:=cf hR
  iterate 2 refine rS ?_
  refine AWP.ret ?_;subst hR;exact⟨[0,1,2,3,4,5],sm⟩
end N28
def D_zyc : DHF
 | [x0,x1,(.ptr 1 0),(.ptr 2 0)],[.dead,.box [.ref 3 1 0 hn],.box [y3],.arr 2 1 hm hF,.box [.str z0,.str z1]]=>some (.int .i64 ((zyc (rdG yp x0) (rdB x1) (decL yhb hm hF) (rdI y3)).1),[.dead,.box [.ref 5 1 0 ((zyc (rdG yp x0) (rdB x1) (decL yhb hm hF) (rdI y3)).2.1).length],.box [.int .i64 ((zyc (rdG yp x0) (rdB x1) (decL yhb hm hF) (rdI y3)).2.2)],.dead,.box [.str z0,.str z1],.arr 2 1 ((zyc (rdG yp x0) (rdB x1) (decL yhb hm hF) (rdI y3)).2.1).length (fun j=>yv (((zyc (rdG yp x0) (rdB x1) (decL yhb hm hF) (rdI y3)).2.1).getD j default))],[wG yr yp x0,wB x1,bdItem (rdG yp x0),(decL yhb hm hF).length<=40,hn=hm,∀ i,i<hm->hF i=yv ((decL yhb hm hF).getD i default),y3=.int .i64 (rdI y3)])
 | _,_=>none
theorem yk0:OkH Tryz.prog 28 D_zyc:=by
 intro xs h r h' ob h0 ho;unfold D_zyc at h0;split at h0
 ·rename_i x0 x1 hn y3 hm hF z0 z1
  simp only[Option.some.injEq,Prod.mk.injEq]at h0;obtain⟨rfl,rfl,rfl⟩:=h0;obtain⟨h0,h1,hb0,hp0,qn,qF,qi0,_⟩:=ho;subst qn;have hl:(decL yhb hn hF).length=hn:=ycf _ _ _;have hd:=@N28.den (rdG yp x0) (rdB x1) (decL yhb hn hF) (rdI y3) hF ⟨z0,z1⟩ (by assumption) (by assumption) (by rw[hl];exact qF);rw[hl]at hd;rw[<- qi0]at hd;exact DenH.sim hd (yh (ysl h0).1 <| yh (y8k h1).1 <| yh (yec _) <| yh (yec _) <| trivial)
 ·cases h0
theorem y1q (x:Item) (d:Bool) (l:List Item):(zjd x d l).2.length<=l.length+1:=by
 unfold zjd;simp only[Bool.cond_eq_ite]
 (repeat' split)<;>simp
theorem ygq (x:Item) (d:Bool) (l:List Item):(zkd x d l).2.length<=l.length+1:=by
 unfold zkd;simp only[Bool.cond_eq_ite]
 (repeat' split)<;>simp
theorem y6q (x:Item) (d:Bool) (l:List Int) (i:Int):(zyc x d l i).2.1.length<=l.length+1:=by
 unfold zyc;simp only[Bool.cond_eq_ite]
 (repeat' split)<;>simp
end Go.Ab
