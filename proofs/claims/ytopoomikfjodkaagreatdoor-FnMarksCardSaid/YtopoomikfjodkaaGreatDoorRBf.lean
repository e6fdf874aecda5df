/- A part of a proof: walks of functions and lemmas of our own. No conditions. -/
import Derived.Test.YtopoomikfjodkaaGreatDoorRAl
import Derived.Test.YtopoomikfjodkaaGreatDoorRBc
set_option linter.unusedSectionVars false
set_option linter.unusedVariables false
set_option linter.unusedSimpArgs false
set_option maxHeartbeats 1000000
namespace Go.Ab
open Go Go.Proofs
def zpd (a0:l00Src):Int×l00Src:=
 (bif decide (a0.at_<(a0.code.length:Int))then(bif decide ((IntKind.wrap .i64 (a0.at_+1))≤(a0.code.length:Int))then(IntKind.wrap .i64 (a0.code.getD ((a0.at_).toNat) default),{ code:=a0.code,at_:=IntKind.wrap .i64 (a0.at_+1),seed:=IntKind.wrap .u64 ((IntKind.wrap .u64 ((IntKind.wrap .u64 (a0.seed * 6364136223846793005))+(IntKind.wrap .u64 (IntKind.wrap .i64 (a0.code.getD ((a0.at_).toNat) default)))))+1442695040888963407):l00Src })else(IntKind.wrap .i64 (IntKind.wrap .u64 (BitVec.ofInt (IntKind.bits .u64) ((IntKind.wrap .u64 ((IntKind.wrap .u64 ((IntKind.wrap .u64 (a0.seed * 6364136223846793005))+(IntKind.wrap .u64 (IntKind.wrap .i64 (a0.code.getD ((a0.at_).toNat) default)))))+1442695040888963407)).fdiv (2 ^ (Min.min 40 (IntKind.bits .u64)))) &&& BitVec.ofInt (IntKind.bits .u64) 255).toNat),{ code:=a0.code,at_:=IntKind.wrap .i64 (a0.at_+1),seed:=IntKind.wrap .u64 ((IntKind.wrap .u64 ((IntKind.wrap .u64 (a0.seed * 6364136223846793005))+(IntKind.wrap .u64 (IntKind.wrap .i64 (a0.code.getD ((a0.at_).toNat) default)))))+1442695040888963407):l00Src }))else(bif decide ((IntKind.wrap .i64 (a0.at_+1))≤(a0.code.length:Int))then(0,{ code:=a0.code,at_:=IntKind.wrap .i64 (a0.at_+1),seed:=IntKind.wrap .u64 ((IntKind.wrap .u64 ((IntKind.wrap .u64 (a0.seed * 6364136223846793005))+(IntKind.wrap .u64 0)))+1442695040888963407):l00Src })else(IntKind.wrap .i64 (IntKind.wrap .u64 (BitVec.ofInt (IntKind.bits .u64) ((IntKind.wrap .u64 ((IntKind.wrap .u64 ((IntKind.wrap .u64 (a0.seed * 6364136223846793005))+(IntKind.wrap .u64 0)))+1442695040888963407)).fdiv (2 ^ (Min.min 40 (IntKind.bits .u64)))) &&& BitVec.ofInt (IntKind.bits .u64) 255).toNat),{ code:=a0.code,at_:=IntKind.wrap .i64 (a0.at_+1),seed:=IntKind.wrap .u64 ((IntKind.wrap .u64 ((IntKind.wrap .u64 (a0.seed * 6364136223846793005))+(IntKind.wrap .u64 0)))+1442695040888963407):l00Src })))
namespace N256
theorem DD:DOk Tryz.prog (Go.Ab.DD []):=yc _
theorem o1 {p:Prop} (h:p:=by(first|(refine SrcOk.mono (by repeat' first|assumption|exact SrcOk.next ‹_› | apply SrcOk.next|apply SrcOk.pick|apply SrcOk.among|apply SrcOk.text|apply SrcOk.name|apply SrcOk.drawName|apply SrcOk.word|apply SrcOk.entry|apply SrcOk.base|omega) (by omega)));first|done|fail):p:=h
theorem den (a0:l00Src) (hp0:SrcOk 1000000 a0):DenM Tryz.prog 256 [.op (ykb a0)] (.int .i64 ((zpd a0).1)) [(.op (ykb ((zpd a0).2)))]:=by
 generalize hR:zpd a0=r
 unfold zpd at hR
 refine dj (gb:=[true]) Tryz.func256 Tryz.ntmps256 Tryz.results256 ?_
 intro c hL hc hk
 obtain⟨hL0,_⟩:=hL
 have hw0:bwl00Src a0:=y8d a0 hL0
 clear hL0
 simp only[adEL,adE,adRL,adR,ownL,encL,sv,List.nil_append,List.append_nil,List.cons_append,List.length_cons,List.length_nil,pars,Nat.zero_add,Nat.reduceAdd]at hk ⊢
 have hp1:=hp0.lo
 have hp2:=hp0.hi
 iterate 2 refine rS ?_
 refine rD 10 ?_
 refine AWP.cond rfl (fun hb => ?_) (fun hb => ?_)
 ·replace hR:=ct hR
  refine rD 11 ?_
  iterate 2 refine rS ?_
  refine rD 10 ?_
  refine AWP.cond rfl (fun hb => ?_) (fun hb => ?_)
  ·replace hR:=ct hR
   refine rS ?_
   refine AWP.ret ?_
   subst hR
   exact es
  ·replace hR:=cf hR
   refine rS ?_
   refine AWP.ret ?_
   subst hR
   exact es
 ·replace hR:=cf hR
  iterate 2 refine rS ?_
  refine rD 10 ?_
  refine AWP.cond rfl (fun hb => ?_) (fun hb => ?_)
  ·replace hR:=ct hR
   refine rS ?_
   refine AWP.ret ?_
   subst hR
   exact es
  ·replace hR:=cf hR
   refine rS ?_
   refine AWP.ret ?_
   subst hR
   exact es
end N256
def D_zpd : List AV → Option (AV × List AV × List Prop)
 | [x0]=>some (.int .i64 ((zpd (rdQ yrb x0)).1),[(.op (ykb ((zpd (rdQ yrb x0)).2)))],[wQ ykb yrb x0,SrcOk 1000000 (rdQ yrb x0)])
 | _=>none
theorem y57:OkM Tryz.prog 256 D_zpd:=by unfold D_zpd;exact dm N256.den
end Go.Ab

namespace Go.Ab
open Go Go.Proofs
theorem yjz {n:Int} {s:l00Src} (h:SrcOk n s) (hn:n≤4000000000):0≤(zpd s).1∧(zpd s).1≤255:=by
 have h1:=h.lo
 have h2:=h.hi
 have hb:0≤s.code.getD s.at_.toNat default∧s.code.getD s.at_.toNat default≤255:=yhn (p:=fun v=>0≤v∧v≤255) h.by_ (by decide) _
 have hand:∀ x:Int,0≤((BitVec.ofInt (IntKind.bits .u64) x &&& BitVec.ofInt (IntKind.bits .u64) 255).toNat:Int)∧((BitVec.ofInt (IntKind.bits .u64) x &&& BitVec.ofInt (IntKind.bits .u64) 255).toNat:Int)≤255:=by
  intro x
  refine⟨Int.natCast_nonneg _,?_⟩
  rw[BitVec.toNat_and]
  have:=Nat.and_le_right (n:=(BitVec.ofInt (IntKind.bits .u64) x).toNat) (m:=(BitVec.ofInt (IntKind.bits .u64) 255).toNat)
  have e:(BitVec.ofInt (IntKind.bits .u64) 255).toNat=255:=by decide
  omega
 have hw:∀ y:Int,0≤y→y≤255→IntKind.wrap .i64 (IntKind.wrap .u64 y)=y:=by
  intro y _ _
  have:IntKind.wrap .u64 y=y:=by
   simp[IntKind.wrap,IntKind.bits,IntKind.signed];omega
  rw[this,IntKind.wrap_i64];omega
 unfold zpd
 simp only[Bool.cond_eq_ite]
 repeat' split
 all_goals first
  | (simp only[IntKind.wrap_i64];omega)
  | (rw[hw _ (hand _).1 (hand _).2];exact hand _)
theorem SrcOk.next {n:Int} {s:l00Src} (h:SrcOk n s) (hn:n≤4000000000):SrcOk (n+1) (zpd s).2:=by
 have h1:=h.lo
 have h2:=h.hi
 unfold zpd
 simp only[Bool.cond_eq_ite]
 repeat' split
 all_goals exact⟨by simp only[IntKind.wrap_i64];omega,by simp only[IntKind.wrap_i64];omega,h.by_⟩
end Go.Ab

namespace Go.Ab
open Go Go.Proofs
def zdb (a0:l00Src) (a1:Int):Int×l00Src:=
 (bif decide (a1≤1)then(0,a0)else(bif decide (200<a1)then((IntKind.wrap .i64 ((IntKind.wrap .i64 (((zpd a0).1) * 256))+((zpd ((zpd a0).2)).1))).tmod a1,(zpd ((zpd a0).2)).2)else(((zpd a0).1).tmod a1,(zpd a0).2)))
namespace N172
theorem DD:DOk Tryz.prog (Go.Ab.DD [(256,dM [true] D_zpd)]):=ya y57.e <| yc _
theorem dn:type_of% (@D_zpd.eq_1):=by and_intros<;>intros<;>rfl
theorem o1 {p:Prop} (h:p:=by(first|(refine SrcOk.mono (by repeat' first|assumption|exact SrcOk.next ‹_› | apply SrcOk.next|apply SrcOk.pick|apply SrcOk.among|apply SrcOk.text|apply SrcOk.name|apply SrcOk.drawName|apply SrcOk.word|apply SrcOk.entry|apply SrcOk.base|omega) (by omega)));first|done|fail):p:=h
theorem den (a0:l00Src) (a1:Int) (hp0:SrcOk 900000 a0):DenM Tryz.prog 172 [.op (ykb a0),.int .i64 a1] (.int .i64 ((zdb a0 a1).1)) [(.op (ykb ((zdb a0 a1).2))),.any]:=by
 generalize hR:zdb a0 a1=r
 unfold zdb at hR
 refine dj (gb:=[true,false]) Tryz.func172 Tryz.ntmps172 Tryz.results172 ?_
 intro c hL hc hk
 obtain⟨hL0,hL1,_⟩:=hL
 have hw0:bwl00Src a0:=y8d a0 hL0
 clear hL0 hL1
 simp only[adEL,adE,adRL,adR,ownL,encL,sv,List.nil_append,List.append_nil,List.cons_append,List.length_cons,List.length_nil,pars,Nat.zero_add,Nat.reduceAdd]at hk ⊢
 iterate 2 refine rS ?_
 refine AWP.cond rfl (fun hb => ?_) (fun hb => ?_)
 ·replace hR:=ct hR
  refine rS ?_
  refine AWP.ret ?_
  subst hR
  exact es
 ·replace hR:=cf hR
  iterate 2 refine rS ?_
  refine AWP.cond rfl (fun hb => ?_) (fun hb => ?_)
  ·replace hR:=ct hR
   iterate 2 refine rS ?_
   refine AWP.ret ?_
   subst hR
   exact es
  ·replace hR:=cf hR
   refine rS ?_
   refine AWP.ret ?_
   subst hR
   exact es
end N172
def D_zdb : List AV → Option (AV × List AV × List Prop)
 | [x0,x1]=>some (.int .i64 ((zdb (rdQ yrb x0) (rdI x1)).1),[(.op (ykb ((zdb (rdQ yrb x0) (rdI x1)).2))),.any],[wQ ykb yrb x0,wI .i64 x1,SrcOk 900000 (rdQ yrb x0)])
 | _=>none
theorem yzp:OkM Tryz.prog 172 D_zdb:=by unfold D_zdb;exact dm N172.den
end Go.Ab

namespace Go.Ab
open Go Go.Proofs
theorem yeh {n:Int} {s:l00Src} (m:Int) (h:SrcOk n s) (hn:n≤2000000000):0≤(zdb s m).1∧(1≤m→(zdb s m).1<m):=by
 have v1:=yjz h (by omega)
 have v2:=yjz (h.next (by omega)) (by omega)
 unfold zdb
 simp only[Bool.cond_eq_ite,decide_eq_true_eq]
 repeat' split
 ·simp;omega
 ·have hx:0≤IntKind.wrap .i64 (IntKind.wrap .i64 ((zpd s).1 * 256)+(zpd (zpd s).2).1):=by
   simp only[IntKind.wrap_i64];omega
  exact⟨Int.tmod_nonneg _ hx,fun _=>Int.tmod_lt_of_pos _ (by omega)⟩
 ·exact⟨Int.tmod_nonneg _ v1.1,fun _=>Int.tmod_lt_of_pos _ (by omega)⟩
theorem SrcOk.pick {n:Int} {s:l00Src} {m:Int} (h:SrcOk n s) (hn:n≤2000000000):SrcOk (n+2) (zdb s m).2:=by
 unfold zdb
 simp only[Bool.cond_eq_ite,decide_eq_true_eq]
 repeat' split
 ·exact h.mono (by omega)
 ·have:=(h.next (by omega)).next (by omega)
  exact this.mono (by omega)
 ·exact(h.next (by omega)).mono (by omega)
end Go.Ab

namespace Go.Ab
open Go Go.Proofs
def zxe (a0:l00Src) (a1:(List (List UInt8))):(List UInt8)×l00Src:=
 ((a1.getD ((((zdb a0 (a1.length:Int)).1)).toNat) default),(zdb a0 (a1.length:Int)).2)
namespace N175
theorem DD:DOk Tryz.prog (Go.Ab.DD [(172,dM [true,false] D_zdb)]):=ya yzp.e <| yc _
theorem dn:type_of% (@D_zdb.eq_1):=by and_intros<;>intros<;>rfl
theorem o1 {p:Prop} (h:p:=by(first|(refine SrcOk.mono (by repeat' first|assumption|exact SrcOk.next ‹_› | apply SrcOk.next|apply SrcOk.pick|apply SrcOk.among|apply SrcOk.text|apply SrcOk.name|apply SrcOk.drawName|apply SrcOk.word|apply SrcOk.entry|apply SrcOk.base|omega) (by omega)));first|done|fail):p:=h
theorem den (a0:l00Src) (a1:(List (List UInt8))) (hp0:SrcOk 800000 a0) (hp1:1≤a1.length):DenM Tryz.prog 175 [.op (ykb a0),ownL 9 1 eS a1] (.str ((zxe a0 a1).1)) [(.op (ykb ((zxe a0 a1).2))),.any]:=by
 generalize hR:zxe a0 a1=r
 unfold zxe at hR
 refine dj (gb:=[true,false]) Tryz.func175 Tryz.ntmps175 Tryz.results175 ?_
 intro c hL hc hk
 obtain⟨hL0,hL1,_⟩:=hL
 have hw0:bwl00Src a0:=y8d a0 hL0
 have hw1:a1.length<9223372036854775808:=Nat.lt_succ_of_le (ylb hL1).1
 have hw2:∀ v∈a1,bwS v:=fun v hv=>y0q v ((ylb hL1).2 v hv)
 clear hL0 hL1
 simp only[adEL,adE,adRL,adR,ownL,encL,sv,List.nil_append,List.append_nil,List.cons_append,List.length_cons,List.length_nil,pars,Nat.zero_add,Nat.reduceAdd]at hk ⊢
 have hr:=yeh (a1.length:Int) hp0 (by omega)
 iterate 2 refine rS ?_
 refine AWP.ret ?_
 subst hR
 exact es
end N175
def D_zxe : List AV → Option (AV × List AV × List Prop)
 | [x0,x1]=>some (.str ((zxe (rdQ yrb x0) (rdL dS x1)).1),[(.op (ykb ((zxe (rdQ yrb x0) (rdL dS x1)).2))),.any],[wQ ykb yrb x0,wO 9 1 eS dS x1,SrcOk 800000 (rdQ yrb x0),1≤(rdL dS x1).length])
 | _=>none
theorem yt5:OkM Tryz.prog 175 D_zxe:=by unfold D_zxe;exact dm N175.den
end Go.Ab

namespace Go.Ab
open Go Go.Proofs
theorem SrcOk.text {n:Int} {s:l00Src} {l} (h:SrcOk n s) (hn:n≤2000000000):SrcOk (n+2) (zxe s l).2:=by
 unfold zxe
 exact h.pick hn
end Go.Ab

namespace Go.Ab
open Go Go.Proofs
def zbg (a0:l00Src) (a1:Int):Bool×l00Src:=
 ((((zdb a0 a1).1) == 0),(zdb a0 a1).2)
namespace N177
theorem DD:DOk Tryz.prog (Go.Ab.DD [(172,dM [true,false] D_zdb)]):=ya yzp.e <| yc _
theorem dn:type_of% (@D_zdb.eq_1):=by and_intros<;>intros<;>rfl
theorem o1 {p:Prop} (h:p:=by(first|(refine SrcOk.mono (by repeat' first|assumption|exact SrcOk.next ‹_› | apply SrcOk.next|apply SrcOk.pick|apply SrcOk.among|apply SrcOk.text|apply SrcOk.name|apply SrcOk.drawName|apply SrcOk.word|apply SrcOk.entry|apply SrcOk.base|omega) (by omega)));first|done|fail):p:=h
theorem den (a0:l00Src) (a1:Int) (hp0:SrcOk 800000 a0):DenM Tryz.prog 177 [.op (ykb a0),.int .i64 a1] (.bool ((zbg a0 a1).1)) [(.op (ykb ((zbg a0 a1).2))),.any]:=by
 generalize hR:zbg a0 a1=r
 unfold zbg at hR
 refine dj (gb:=[true,false]) Tryz.func177 Tryz.ntmps177 Tryz.results177 ?_
 intro c hL hc hk
 obtain⟨hL0,hL1,_⟩:=hL
 have hw0:bwl00Src a0:=y8d a0 hL0
 clear hL0 hL1
 simp only[adEL,adE,adRL,adR,ownL,encL,sv,List.nil_append,List.append_nil,List.cons_append,List.length_cons,List.length_nil,pars,Nat.zero_add,Nat.reduceAdd]at hk ⊢
 iterate 2 refine rS ?_
 refine AWP.ret ?_
 subst hR
 exact es
end N177
def D_zbg : List AV → Option (AV × List AV × List Prop)
 | [x0,x1]=>some (.bool ((zbg (rdQ yrb x0) (rdI x1)).1),[(.op (ykb ((zbg (rdQ yrb x0) (rdI x1)).2))),.any],[wQ ykb yrb x0,wI .i64 x1,SrcOk 800000 (rdQ yrb x0)])
 | _=>none
theorem yr7:OkM Tryz.prog 177 D_zbg:=by unfold D_zbg;exact dm N177.den
end Go.Ab

namespace Go.Ab
open Go Go.Proofs
theorem SrcOk.one {n:Int} {s:l00Src} {m:Int} (h:SrcOk n s) (hn:n≤2000000000):SrcOk (n+2) (zbg s m).2:=by
 unfold zbg
 exact h.pick hn
end Go.Ab

namespace Go.Ab
open Go Go.Proofs
def zjh (a0:l00Src):Mark×l00Src:=
 (bif (((zdb a0 10).1) == 0)then({ Kind:=0,Colors:=[],Shape:=[],Topmark:=[]:Mark },(zdb a0 10).2)else(bif ((zbg ((zxe ((zdb a0 10).2) (zy ((zdb a0 10).1))).2) 4).1)then({ Kind:=((zdb a0 10).1),Colors:=(znd ((zdb a0 10).1)),Shape:=((zxe ((zdb a0 10).2) (zy ((zdb a0 10).1))).1),Topmark:=[]:Mark },(zbg ((zxe ((zdb a0 10).2) (zy ((zdb a0 10).1))).2) 4).2)else({ Kind:=((zdb a0 10).1),Colors:=(znd ((zdb a0 10).1)),Shape:=((zxe ((zdb a0 10).2) (zy ((zdb a0 10).1))).1),Topmark:=(zne ((zdb a0 10).1)):Mark },(zbg ((zxe ((zdb a0 10).2) (zy ((zdb a0 10).1))).2) 4).2)))
namespace N81
theorem DD:DOk Tryz.prog (Go.Ab.DD [(172,dM [true,false] D_zdb),(173,dP D_znd),(174,dP D_zne),(175,dM [true,true] D_zxe),(176,dP D_zy),(177,dM [true,false] D_zbg)]):=ya yzp.e <| ya ybw.e <| ya yrw.e <| ya yt5.e <| ya yf1.e <| ya yr7.e <| yc _
theorem dn:type_of% (And.intro @D_zdb.eq_1 <| And.intro @D_znd.eq_1 <| And.intro @D_zne.eq_1 <| And.intro @D_zxe.eq_1 <| And.intro @D_zy.eq_1 <| @D_zbg.eq_1):=by and_intros<;>intros<;>rfl
theorem o1 {p:Prop} (h:p:=by(first|(refine SrcOk.mono (by repeat' first|assumption|exact SrcOk.next ‹_› | apply SrcOk.next|apply SrcOk.pick|apply SrcOk.one|apply SrcOk.among|apply SrcOk.text|apply SrcOk.colors|apply SrcOk.point|apply SrcOk.chr|apply SrcOk.sectors|apply SrcOk.aid|apply SrcOk.aids|apply SrcOk.notice|omega) (by omega)));first|done|fail):p:=h
set_option maxHeartbeats 1000000 in
set_option maxRecDepth 20000 in
theorem den (a0:l00Src) (hp0:SrcOk 600000 a0):DenM Tryz.prog 81 [.op (ykb a0)] (.agg (y1c ((zjh a0).1))) [(.op (ykb ((zjh a0).2)))]:=by
 generalize hR:zjh a0=r
 unfold zjh at hR
 refine dj (gb:=[true]) Tryz.func81 Tryz.ntmps81 Tryz.results81 ?_
 intro c hL hc hk
 obtain⟨hL0,_⟩:=hL
 have hw0:bwl00Src a0:=y8d a0 hL0
 clear hL0
 simp only[adEL,adE,adRL,adR,ownL,encL,sv,List.nil_append,List.append_nil,List.cons_append,List.length_cons,List.length_nil,pars,Nat.zero_add,Nat.reduceAdd]at hk ⊢
 have hpk:=yeh 10 hp0 (by omega)
 have hpk2:=hpk.2 (by omega)
 have hs5:1≤(zy (zdb a0 10).1).length:=by unfold zy;simp only[Bool.cond_eq_ite];(repeat' split)<;>simp
 iterate 3 refine rS ?_
 refine AWP.cond rfl (fun hb => ?_) (fun hb => ?_)
 ·replace hR:=ct hR
  refine rS ?_
  refine AWP.ret ?_
  subst hR
  exact es
 ·replace hR:=cf hR
  iterate 3 refine rS ?_
  refine AWP.cond rfl (fun hb => ?_) (fun hb => ?_)
  ·replace hR:=ct hR
   iterate 2 refine rS ?_
   refine AWP.ret ?_
   subst hR
   exact es
  ·replace hR:=cf hR
   refine rS ?_
   refine AWP.ret ?_
   subst hR
   exact es
end N81
def D_zjh : List AV → Option (AV × List AV × List Prop)
 | [x0]=>some (.agg (y1c ((zjh (rdQ yrb x0)).1)),[(.op (ykb ((zjh (rdQ yrb x0)).2)))],[wQ ykb yrb x0,SrcOk 600000 (rdQ yrb x0)])
 | _=>none
theorem ya5:OkM Tryz.prog 81 D_zjh:=by unfold D_zjh;exact dm N81.den
end Go.Ab

namespace Go.Ab
open Go Go.Proofs
def zkh (a0:(List Int)):l00Src:=
 { code:=a0,at_:=0,seed:=0:l00Src }
namespace N80
theorem DD:DOk Tryz.prog (Go.Ab.DD []):=yc _
theorem den (a0:(List Int))  : Den Tryz.prog 80 [encL 1 eIu8 a0] (.op (ykb (zkh a0))):=by
 generalize hR:zkh a0=r
 unfold zkh at hR
 refine di Tryz.func80 Tryz.ntmps80 Tryz.results80 ?_
 intro c hL hc hk
 obtain⟨hL0,_⟩:=hL
 have hw0:a0.length<9223372036854775808:=Nat.lt_succ_of_le (yf hL0).1
 clear hL0
 simp only[pars,Nat.zero_add]
 iterate 2 refine rS ?_
 refine AWP.ret ?_
 subst hR
 exact es
end N80
def D_zkh : DF
 | [x0]=>some (.op (ykb (zkh (rdL dIu8 x0))),false,[wL 1 eIu8 dIu8 x0])
 | _=>none
theorem yp6:OkD Tryz.prog 80 D_zkh:=by unfold D_zkh;exact dk N80.den
end Go.Ab

namespace Go.Ab
open Go Go.Proofs
def zhd (a0:(List Int)):Mark:=
 ((zjh (zkh a0)).1)
namespace N14
theorem DD:DOk Tryz.prog (Go.Ab.DD [(80,dP D_zkh),(81,dM [true] D_zjh)]):=ya yp6.e <| ya ya5.e <| yc _
theorem dn:type_of% (And.intro @D_zkh.eq_1 <| @D_zjh.eq_1):=by and_intros<;>intros<;>rfl
theorem o1 {p:Prop} (h:p:=by(first|(exact⟨Int.le_refl _,by show(0:Int)≤600000;omega,hp0⟩));first|done|fail):p:=h
theorem den (a0:(List Int)) (hp0:∀ v∈a0,0≤v∧v≤255):Den Tryz.prog 14 [encL 1 eIu8 a0] (.agg (y1c (zhd a0))):=by
 generalize hR:zhd a0=r
 unfold zhd at hR
 refine di Tryz.func14 Tryz.ntmps14 Tryz.results14 ?_
 intro c hL hc hk
 obtain⟨hL0,_⟩:=hL
 have hw0:a0.length<9223372036854775808:=Nat.lt_succ_of_le (yf hL0).1
 clear hL0
 simp only[pars,Nat.zero_add]
 iterate 3 refine rS ?_
 refine AWP.ret ?_
 subst hR
 exact es
end N14
def D_zhd : DF
 | [x0]=>some (.agg (y1c (zhd (rdL dIu8 x0))),false,[wL 1 eIu8 dIu8 x0,∀ v∈(rdL dIu8 x0),0≤v∧v≤255])
 | _=>none
theorem y7y:OkD Tryz.prog 14 D_zhd:=by unfold D_zhd;exact dk N14.den
end Go.Ab
