/- A part of a proof: walks of functions and lemmas of our own. No conditions. -/
import Derived.Test.YtcaopagmcldjmaaGreatDoorAAl
import Derived.Test.YtcaopagmcldjmaaGreatDoorAAp
import Derived.Test.YtcaopagmcldjmaaGreatDoorAAu
set_option linter.unusedSectionVars false
set_option linter.unusedVariables false
set_option linter.unusedSimpArgs false
set_option maxHeartbeats 1000000
namespace Go.Ab
open Go Go.Proofs
def zyb (a0:l00Src):Int×l00Src:=
 (bif decide (a0.at_<(a0.code.length:Int))then(bif decide ((IntKind.wrap .i64 (a0.at_+1))<=(a0.code.length:Int))then(IntKind.wrap .i64 (a0.code.getD ((a0.at_).toNat) default),{ code:=a0.code,at_:=IntKind.wrap .i64 (a0.at_+1),seed:=IntKind.wrap .u64 ((IntKind.wrap .u64 ((IntKind.wrap .u64 (a0.seed * 6364136223846793005))+(IntKind.wrap .u64 (IntKind.wrap .i64 (a0.code.getD ((a0.at_).toNat) default)))))+1442695040888963407):l00Src })else(IntKind.wrap .i64 (IntKind.wrap .u64 (BitVec.ofInt (IntKind.bits .u64) ((IntKind.wrap .u64 ((IntKind.wrap .u64 ((IntKind.wrap .u64 (a0.seed * 6364136223846793005))+(IntKind.wrap .u64 (IntKind.wrap .i64 (a0.code.getD ((a0.at_).toNat) default)))))+1442695040888963407)).fdiv (2 ^ (Min.min 40 (IntKind.bits .u64)))) &&& BitVec.ofInt (IntKind.bits .u64) 255).toNat),{ code:=a0.code,at_:=IntKind.wrap .i64 (a0.at_+1),seed:=IntKind.wrap .u64 ((IntKind.wrap .u64 ((IntKind.wrap .u64 (a0.seed * 6364136223846793005))+(IntKind.wrap .u64 (IntKind.wrap .i64 (a0.code.getD ((a0.at_).toNat) default)))))+1442695040888963407):l00Src }))else(bif decide ((IntKind.wrap .i64 (a0.at_+1))<=(a0.code.length:Int))then(0,{ code:=a0.code,at_:=IntKind.wrap .i64 (a0.at_+1),seed:=IntKind.wrap .u64 ((IntKind.wrap .u64 ((IntKind.wrap .u64 (a0.seed * 6364136223846793005))+(IntKind.wrap .u64 0)))+1442695040888963407):l00Src })else(IntKind.wrap .i64 (IntKind.wrap .u64 (BitVec.ofInt (IntKind.bits .u64) ((IntKind.wrap .u64 ((IntKind.wrap .u64 ((IntKind.wrap .u64 (a0.seed * 6364136223846793005))+(IntKind.wrap .u64 0)))+1442695040888963407)).fdiv (2 ^ (Min.min 40 (IntKind.bits .u64)))) &&& BitVec.ofInt (IntKind.bits .u64) 255).toNat),{ code:=a0.code,at_:=IntKind.wrap .i64 (a0.at_+1),seed:=IntKind.wrap .u64 ((IntKind.wrap .u64 ((IntKind.wrap .u64 (a0.seed * 6364136223846793005))+(IntKind.wrap .u64 0)))+1442695040888963407):l00Src })))
namespace N76
theorem DD:DOk Tryz.prog (Go.Ab.DD []):=yd _
theorem o1 {p:Prop} (h:p:=by(first|(refine SrcOk.mono (by repeat' first|assumption|exact SrcOk.next ‹_› | apply SrcOk.next|apply SrcOk.pick|apply SrcOk.among|apply SrcOk.text|apply SrcOk.name|apply SrcOk.drawName|apply SrcOk.word|apply SrcOk.entry|apply SrcOk.base|omega) (by omega)));first|done|fail):p:=h
theorem den (a0:l00Src) (hp0:SrcOk 1000000 a0):DenM Tryz.prog 76 [.op (ym a0)] (.int .i64 ((zyb a0).1)) [(.op (ym ((zyb a0).2)))]:=by
 generalize hR:zyb a0=r;unfold zyb at hR;refine dj (gb:=[true]) Tryz.func76 Tryz.ntmps76 Tryz.results76 ?_;intro c hL hc hk;obtain⟨hL0,_⟩:=hL;have hw0:bwl00Src a0:=y7 a0 hL0;clear hL0;simp only[adEL,adE,adRL,adR,ownL,encL,sv,List.nil_append,List.append_nil,List.cons_append,List.length_cons,List.length_nil,pars,Nat.zero_add,Nat.reduceAdd]at hk ⊢;have hp1:=hp0.lo;have hp2:=hp0.hi;iterate 2 refine rS ?_
 refine rD 10 ?_;refine AWP.cond rfl (fun hb => ?_) (fun hb => ?_)
 ·replace hR:=ct hR
  refine rD 11 ?_;iterate 2 refine rS ?_
  refine rD 10 ?_;refine AWP.cond rfl (fun hb => ?_) (fun hb => ?_)
  ·replace hR:=ct hR
   refine rS ?_;refine AWP.ret ?_;subst hR;exact es
  ·replace hR:=cf hR
   refine rS ?_;refine AWP.ret ?_;subst hR;exact es
 ·replace hR:=cf hR
  iterate 2 refine rS ?_
  refine rD 10 ?_;refine AWP.cond rfl (fun hb => ?_) (fun hb => ?_)
  ·replace hR:=ct hR
   refine rS ?_;refine AWP.ret ?_;subst hR;exact es
  ·replace hR:=cf hR
   refine rS ?_;refine AWP.ret ?_;subst hR;exact es
end N76
def D_zyb : List AV -> Option (AV × List AV × List Prop)
 | [x0]=>some (.int .i64 ((zyb (rdQ yn x0)).1),[(.op (ym ((zyb (rdQ yn x0)).2)))],[wQ ym yn x0,SrcOk 1000000 (rdQ yn x0)])
 | _=>none
theorem ygt:OkM Tryz.prog 76 D_zyb:=by unfold D_zyb;exact dm N76.den
theorem yfu {n:Int} {s:l00Src} (h:SrcOk n s) (hn:n<=4000000000):0<=(zyb s).1/\(zyb s).1<=255:=by
 have h1:=h.lo;have h2:=h.hi;have hb:0<=s.code.getD s.at_.toNat default/\s.code.getD s.at_.toNat default<=255:=y3c (p:=fun v=>0<=v/\v<=255) h.by_ (by decide) _
 have hand:∀ x:Int,0<=((BitVec.ofInt (IntKind.bits .u64) x &&& BitVec.ofInt (IntKind.bits .u64) 255).toNat:Int)/\((BitVec.ofInt (IntKind.bits .u64) x &&& BitVec.ofInt (IntKind.bits .u64) 255).toNat:Int)<=255:=by
  intro x;refine⟨Int.natCast_nonneg _,?_⟩;rw[BitVec.toNat_and];have:=Nat.and_le_right (n:=(BitVec.ofInt (IntKind.bits .u64) x).toNat) (m:=(BitVec.ofInt (IntKind.bits .u64) 255).toNat);have e:(BitVec.ofInt (IntKind.bits .u64) 255).toNat=255:=by decide
  omega
 have hw:∀ y:Int,0<=y->y<=255->IntKind.wrap .i64 (IntKind.wrap .u64 y)=y:=by
  intro y _ _
  have:IntKind.wrap .u64 y=y:=by
   simp[IntKind.wrap,IntKind.bits,IntKind.signed];omega
  rw[this,IntKind.wrap_i64];omega
 unfold zyb;simp only[Bool.cond_eq_ite];repeat' split
 all_goals first
  | (simp only[IntKind.wrap_i64];omega)
  | (rw[hw _ (hand _).1 (hand _).2];exact hand _)
theorem SrcOk.next {n:Int} {s:l00Src} (h:SrcOk n s) (hn:n<=4000000000):SrcOk (n+1) (zyb s).2:=by
 have h1:=h.lo;have h2:=h.hi;unfold zyb;simp only[Bool.cond_eq_ite];repeat' split
 all_goals exact⟨by simp only[IntKind.wrap_i64];omega,by simp only[IntKind.wrap_i64];omega,h.by_⟩
def za (a0:l00Src) (a1:Int):Int×l00Src:=
 (bif decide (a1<=1)then(0,a0)else(bif decide (200<a1)then((IntKind.wrap .i64 ((IntKind.wrap .i64 (((zyb a0).1) * 256))+((zyb ((zyb a0).2)).1))).tmod a1,(zyb ((zyb a0).2)).2)else(((zyb a0).1).tmod a1,(zyb a0).2)))
namespace N42
theorem DD:DOk Tryz.prog (Go.Ab.DD [(76,dM [true] D_zyb)]):=ya ygt.e <| yd _
theorem dn:type_of% (@D_zyb.eq_1):=by and_intros<;>intros<;>rfl
theorem o1 {p:Prop} (h:p:=by(first|(refine SrcOk.mono (by repeat' first|assumption|exact SrcOk.next ‹_› | apply SrcOk.next|apply SrcOk.pick|apply SrcOk.among|apply SrcOk.text|apply SrcOk.name|apply SrcOk.drawName|apply SrcOk.word|apply SrcOk.entry|apply SrcOk.base|omega) (by omega)));first|done|fail):p:=h
theorem den (a0:l00Src) (a1:Int) (hp0:SrcOk 900000 a0):DenM Tryz.prog 42 [.op (ym a0),.int .i64 a1] (.int .i64 ((za a0 a1).1)) [(.op (ym ((za a0 a1).2))),.any]:=by
 generalize hR:za a0 a1=r;unfold za at hR;refine dj (gb:=[true,false]) Tryz.func42 Tryz.ntmps42 Tryz.results42 ?_;intro c hL hc hk;obtain⟨hL0,hL1,_⟩:=hL;have hw0:bwl00Src a0:=y7 a0 hL0;clear hL0 hL1;simp only[adEL,adE,adRL,adR,ownL,encL,sv,List.nil_append,List.append_nil,List.cons_append,List.length_cons,List.length_nil,pars,Nat.zero_add,Nat.reduceAdd]at hk ⊢;iterate 2 refine rS ?_
 refine AWP.cond rfl (fun hb => ?_) (fun hb => ?_)
 ·replace hR:=ct hR
  refine rS ?_;refine AWP.ret ?_;subst hR;exact es
 ·replace hR:=cf hR
  iterate 2 refine rS ?_
  refine AWP.cond rfl (fun hb => ?_) (fun hb => ?_)
  ·replace hR:=ct hR
   iterate 2 refine rS ?_
   refine AWP.ret ?_;subst hR;exact es
  ·replace hR:=cf hR
   refine rS ?_;refine AWP.ret ?_;subst hR;exact es
end N42
def D_za : List AV -> Option (AV × List AV × List Prop)
 | [x0,x1]=>some (.int .i64 ((za (rdQ yn x0) (rdI x1)).1),[(.op (ym ((za (rdQ yn x0) (rdI x1)).2))),.any],[wQ ym yn x0,wI .i64 x1,SrcOk 900000 (rdQ yn x0)])
 | _=>none
theorem yuc:OkM Tryz.prog 42 D_za:=by unfold D_za;exact dm N42.den
theorem yg {n:Int} {s:l00Src} (m:Int) (h:SrcOk n s) (hn:n<=2000000000):0<=(za s m).1/\(1<=m->(za s m).1<m):=by
 have v1:=yfu h (by omega);have v2:=yfu (h.next (by omega)) (by omega);unfold za;simp only[Bool.cond_eq_ite,decide_eq_true_eq];repeat' split
 ·simp;omega
 ·have hx:0<=IntKind.wrap .i64 (IntKind.wrap .i64 ((zyb s).1 * 256)+(zyb (zyb s).2).1):=by
   simp only[IntKind.wrap_i64];omega
  exact⟨Int.tmod_nonneg _ hx,fun _=>Int.tmod_lt_of_pos _ (by omega)⟩
 ·exact⟨Int.tmod_nonneg _ v1.1,fun _=>Int.tmod_lt_of_pos _ (by omega)⟩
theorem SrcOk.pick {n:Int} {s:l00Src} {m:Int} (h:SrcOk n s) (hn:n<=2000000000):SrcOk (n+2) (za s m).2:=by
 unfold za;simp only[Bool.cond_eq_ite,decide_eq_true_eq];repeat' split
 ·exact h.mono (by omega)
 ·have:=(h.next (by omega)).next (by omega)
  exact this.mono (by omega)
 ·exact(h.next (by omega)).mono (by omega)
def zb (a0:l00Src) (a1:(List Int)):Int×l00Src:=
 ((a1.getD ((((za a0 (a1.length:Int)).1)).toNat) default),(za a0 (a1.length:Int)).2)
namespace N44
theorem DD:DOk Tryz.prog (Go.Ab.DD [(42,dM [true,false] D_za)]):=ya yuc.e <| yd _
theorem dn:type_of% (@D_za.eq_1):=by and_intros<;>intros<;>rfl
theorem o1 {p:Prop} (h:p:=by(first|(refine SrcOk.mono (by repeat' first|assumption|exact SrcOk.next ‹_› | apply SrcOk.next|apply SrcOk.pick|apply SrcOk.among|apply SrcOk.text|apply SrcOk.name|apply SrcOk.drawName|apply SrcOk.word|apply SrcOk.entry|apply SrcOk.base|omega) (by omega)));first|done|fail):p:=h
theorem den (a0:l00Src) (a1:(List Int)) (hp0:SrcOk 800000 a0) (hp1:1<=a1.length):DenM Tryz.prog 44 [.op (ym a0),ownL 2 1 yv a1] (.int .i64 ((zb a0 a1).1)) [(.op (ym ((zb a0 a1).2))),.any]:=by
 generalize hR:zb a0 a1=r;unfold zb at hR;refine dj (gb:=[true,false]) Tryz.func44 Tryz.ntmps44 Tryz.results44 ?_;intro c hL hc hk;obtain⟨hL0,hL1,_⟩:=hL;have hw0:bwl00Src a0:=y7 a0 hL0;have hw1:a1.length<9223372036854775808:=Nat.lt_succ_of_le (yuj hL1).1;clear hL0 hL1;simp only[adEL,adE,adRL,adR,ownL,encL,sv,List.nil_append,List.append_nil,List.cons_append,List.length_cons,List.length_nil,pars,Nat.zero_add,Nat.reduceAdd]at hk ⊢;have hr:=yg (a1.length:Int) hp0 (by omega);iterate 2 refine rS ?_
 refine AWP.ret ?_;subst hR;exact es
end N44
def D_zb : List AV -> Option (AV × List AV × List Prop)
 | [x0,x1]=>some (.int .i64 ((zb (rdQ yn x0) (rdL yhb x1)).1),[(.op (ym ((zb (rdQ yn x0) (rdL yhb x1)).2))),.any],[wQ ym yn x0,wO 2 1 yv yhb x1,SrcOk 800000 (rdQ yn x0),1<=(rdL yhb x1).length])
 | _=>none
theorem y7h:OkM Tryz.prog 44 D_zb:=by unfold D_zb;exact dm N44.den
theorem SrcOk.among {n:Int} {s:l00Src} {l} (h:SrcOk n s) (hn:n<=2000000000):SrcOk (n+2) (zb s l).2:=by
 unfold zb;exact h.pick hn
def zr (a0:l00Src) (a1:(List (List UInt8))):(List UInt8)×l00Src:=
 ((a1.getD ((((za a0 (a1.length:Int)).1)).toNat) default),(za a0 (a1.length:Int)).2)
namespace N43
theorem DD:DOk Tryz.prog (Go.Ab.DD [(42,dM [true,false] D_za)]):=ya yuc.e <| yd _
theorem dn:type_of% (@D_za.eq_1):=by and_intros<;>intros<;>rfl
theorem o1 {p:Prop} (h:p:=by(first|(refine SrcOk.mono (by repeat' first|assumption|exact SrcOk.next ‹_› | apply SrcOk.next|apply SrcOk.pick|apply SrcOk.among|apply SrcOk.text|apply SrcOk.name|apply SrcOk.drawName|apply SrcOk.word|apply SrcOk.entry|apply SrcOk.base|omega) (by omega)));first|done|fail):p:=h
theorem den (a0:l00Src) (a1:(List (List UInt8))) (hp0:SrcOk 800000 a0) (hp1:1<=a1.length):DenM Tryz.prog 43 [.op (ym a0),ownL 9 1 eS a1] (.str ((zr a0 a1).1)) [(.op (ym ((zr a0 a1).2))),.any]:=by
 generalize hR:zr a0 a1=r;unfold zr at hR;refine dj (gb:=[true,false]) Tryz.func43 Tryz.ntmps43 Tryz.results43 ?_;intro c hL hc hk;obtain⟨hL0,hL1,_⟩:=hL;have hw0:bwl00Src a0:=y7 a0 hL0;have hw1:a1.length<9223372036854775808:=Nat.lt_succ_of_le (yuj hL1).1;have hw2:∀ v∈a1,bwS v:=fun v hv=>yjv v ((yuj hL1).2 v hv)
 clear hL0 hL1;simp only[adEL,adE,adRL,adR,ownL,encL,sv,List.nil_append,List.append_nil,List.cons_append,List.length_cons,List.length_nil,pars,Nat.zero_add,Nat.reduceAdd]at hk ⊢;have hr:=yg (a1.length:Int) hp0 (by omega);iterate 2 refine rS ?_
 refine AWP.ret ?_;subst hR;exact es
end N43
def D_zr : List AV -> Option (AV × List AV × List Prop)
 | [x0,x1]=>some (.str ((zr (rdQ yn x0) (rdL dS x1)).1),[(.op (ym ((zr (rdQ yn x0) (rdL dS x1)).2))),.any],[wQ ym yn x0,wO 9 1 eS dS x1,SrcOk 800000 (rdQ yn x0),1<=(rdL dS x1).length])
 | _=>none
theorem ylh:OkM Tryz.prog 43 D_zr:=by unfold D_zr;exact dm N43.den
theorem SrcOk.text {n:Int} {s:l00Src} {l} (h:SrcOk n s) (hn:n<=2000000000):SrcOk (n+2) (zr s l).2:=by
 unfold zr;exact h.pick hn
def zh (a0:l00Src) (a1:Int):Bool×l00Src:=
 ((((za a0 a1).1) == 0),(za a0 a1).2)
namespace N53
theorem DD:DOk Tryz.prog (Go.Ab.DD [(42,dM [true,false] D_za)]):=ya yuc.e <| yd _
theorem dn:type_of% (@D_za.eq_1):=by and_intros<;>intros<;>rfl
theorem o1 {p:Prop} (h:p:=by(first|(refine SrcOk.mono (by repeat' first|assumption|exact SrcOk.next ‹_› | apply SrcOk.next|apply SrcOk.pick|apply SrcOk.among|apply SrcOk.text|apply SrcOk.name|apply SrcOk.drawName|apply SrcOk.word|apply SrcOk.entry|apply SrcOk.base|omega) (by omega)));first|done|fail):p:=h
theorem den (a0:l00Src) (a1:Int) (hp0:SrcOk 800000 a0):DenM Tryz.prog 53 [.op (ym a0),.int .i64 a1] (.bool ((zh a0 a1).1)) [(.op (ym ((zh a0 a1).2))),.any]:=by
 generalize hR:zh a0 a1=r;unfold zh at hR;refine dj (gb:=[true,false]) Tryz.func53 Tryz.ntmps53 Tryz.results53 ?_;intro c hL hc hk;obtain⟨hL0,hL1,_⟩:=hL;have hw0:bwl00Src a0:=y7 a0 hL0;clear hL0 hL1;simp only[adEL,adE,adRL,adR,ownL,encL,sv,List.nil_append,List.append_nil,List.cons_append,List.length_cons,List.length_nil,pars,Nat.zero_add,Nat.reduceAdd]at hk ⊢;iterate 2 refine rS ?_
 refine AWP.ret ?_;subst hR;exact es
end N53
def D_zh : List AV -> Option (AV × List AV × List Prop)
 | [x0,x1]=>some (.bool ((zh (rdQ yn x0) (rdI x1)).1),[(.op (ym ((zh (rdQ yn x0) (rdI x1)).2))),.any],[wQ ym yn x0,wI .i64 x1,SrcOk 800000 (rdQ yn x0)])
 | _=>none
theorem y6h:OkM Tryz.prog 53 D_zh:=by unfold D_zh;exact dm N53.den
theorem SrcOk.one {n:Int} {s:l00Src} {m:Int} (h:SrcOk n s) (hn:n<=2000000000):SrcOk (n+2) (zh s m).2:=by
 unfold zh;exact h.pick hn
def ze (a0:l00Src):(List UInt8)×l00Src:=
 (((zr a0 ([[87],[87],[82],[71],[89],[87,82],[82,71],[87,82,71],[87,71]]:List (List UInt8))).1),(zr a0 ([[87],[87],[82],[71],[89],[87,82],[82,71],[87,82,71],[87,71]]:List (List UInt8))).2)
namespace N172
theorem DD:DOk Tryz.prog (Go.Ab.DD [(43,dM [true,true] D_zr)]):=ya ylh.e <| yd _
theorem dn:type_of% (@D_zr.eq_1):=by and_intros<;>intros<;>rfl
theorem o1 {p:Prop} (h:p:=by(first|(refine SrcOk.mono (by repeat' first|assumption|exact SrcOk.next ‹_› | apply SrcOk.next|apply SrcOk.pick|apply SrcOk.one|apply SrcOk.among|apply SrcOk.text|apply SrcOk.colors|apply SrcOk.point|apply SrcOk.chr|apply SrcOk.sectors|apply SrcOk.aid|apply SrcOk.aids|apply SrcOk.notice|omega) (by omega)));first|done|fail):p:=h
theorem lx {p:Prop} (h:p:=by(exact lxx);first|done|fail):p:=h
set_option maxHeartbeats 2000000 in
set_option maxRecDepth 20000 in
theorem den (a0:l00Src) (hp0:SrcOk 700000 a0):DenM Tryz.prog 172 [.op (ym a0)] (.str ((ze a0).1)) [(.op (ym ((ze a0).2)))]:=by
 generalize hR:ze a0=r;unfold ze at hR;refine dj (gb:=[true]) Tryz.func172 Tryz.ntmps172 Tryz.results172 ?_;intro c hL hc hk;obtain⟨hL0,_⟩:=hL;have hw0:bwl00Src a0:=y7 a0 hL0;clear hL0;simp only[adEL,adE,adRL,adR,ownL,encL,sv,List.nil_append,List.append_nil,List.cons_append,List.length_cons,List.length_nil,pars,Nat.zero_add,Nat.reduceAdd]at hk ⊢;iterate 2 refine rS ?_
 refine AWP.ret ?_;subst hR;exact es
end N172
def D_ze : List AV -> Option (AV × List AV × List Prop)
 | [x0]=>some (.str ((ze (rdQ yn x0)).1),[(.op (ym ((ze (rdQ yn x0)).2)))],[wQ ym yn x0,SrcOk 700000 (rdQ yn x0)])
 | _=>none
theorem yc5:OkM Tryz.prog 172 D_ze:=by unfold D_ze;exact dm N172.den
theorem SrcOk.colors {n:Int} {s:l00Src} (h:SrcOk n s) (hn:n<=2000000000):SrcOk (n+2) (ze s).2:=by
 unfold ze;exact h.text hn
def zu (a0:Int) (a1:Int):Int:=
 (bif decide (a0<a1)then a0 else a1)
namespace N176
theorem DD:DOk Tryz.prog (Go.Ab.DD []):=yd _
theorem den (a0:Int) (a1:Int)  : Den Tryz.prog 176 [.int .i64 a0,.int .i64 a1] (.int .i64 (zu a0 a1)):=by
 generalize hR:zu a0 a1=r;unfold zu at hR;refine di Tryz.func176 Tryz.ntmps176 Tryz.results176 ?_;intro c hL hc hk;clear hL;simp only[pars,Nat.zero_add];iterate 2 refine rS ?_
 refine AWP.cond rfl (fun hb => ?_) (fun hb => ?_)
 ·replace hR:=ct hR
  refine rS ?_;refine AWP.ret ?_;subst hR;exact es
 ·replace hR:=cf hR
  refine rS ?_;refine AWP.ret ?_;subst hR;exact es
end N176
def D_zu : DF
 | [x0,x1]=>some (.int .i64 (zu (rdI x0) (rdI x1)),false,[wI .i64 x0,wI .i64 x1])
 | _=>none
theorem y65:OkD Tryz.prog 176 D_zu:=by unfold D_zu;exact dk N176.den
def yns (a0:l00Src) (q2:l00Src) (q8:l00Src) (q10:l00Src) (s1:Int×Int×l00Src×List Sector):Except (Sum ((List Sector)×l00Src) (Int×Int×l00Src×List Sector)) (Int×Int×l00Src×List Sector):=
 (bif decide (0<s1.2.1)then(bnd ((za s1.2.2.1 70).2) fun q20=>(bif (decide ((IntKind.wrap .i64 (((za q2 60).1)+360))<(IntKind.wrap .i64 (s1.1+(IntKind.wrap .i64 (((za s1.2.2.1 70).1)+1))))) || decide (359<s1.1))then .error (.inr (s1.1,s1.2.1,q20,s1.2.2.2))else(bnd ((zr q20 [[87],[82],[71],[89]]).2) fun q22=>(bnd ((zh q22 2).2) fun q24=>(bif ((zh q22 2).1)then(bnd ((za q24 40).2) fun q26=>.ok (IntKind.wrap .i64 ((IntKind.wrap .i64 (s1.1+(IntKind.wrap .i64 (((za s1.2.2.1 70).1)+1))))+((za q24 40).1)),IntKind.wrap .i64 (s1.2.1-1),q26,s1.2.2.2++[{ From:=s1.1,To:=(IntKind.wrap .i64 (s1.1+(IntKind.wrap .i64 (((za s1.2.2.1 70).1)+1)))).tmod 360,Color:=((zr q20 [[87],[82],[71],[89]]).1):Sector }]))else .ok (IntKind.wrap .i64 (s1.1+(IntKind.wrap .i64 (((za s1.2.2.1 70).1)+1))),IntKind.wrap .i64 (s1.2.1-1),q24,s1.2.2.2++[{ From:=s1.1,To:=(IntKind.wrap .i64 (s1.1+(IntKind.wrap .i64 (((za s1.2.2.1 70).1)+1)))).tmod 360,Color:=((zr q20 [[87],[82],[71],[89]]).1):Sector }]))))))else .error (.inr (s1.1,s1.2.1,s1.2.2.1,s1.2.2.2)))
def zy (a0:l00Src):(List Sector)×l00Src:=
 (bnd ((za a0 6).2) fun q2=>(bif (((za a0 6).1) == 0)then(([]:List Sector),q2)else(bif (((za a0 6).1) == 1)then(bnd ((za q2 360).2) fun q4=>(bnd ((zr q4 [[87],[82],[71],[89]]).2) fun q6=>([{ From:=((za q2 360).1),To:=((za q2 360).1),Color:=((zr q4 [[87],[82],[71],[89]]).1):Sector }],q6)))else(bnd ((za q2 60).2) fun q8=>(bnd ((za q8 5).2) fun q10=>(match yeb (yns a0 q2 q8 q10) ((((IntKind.wrap .i64 (((za q8 5).1)+1))).toNat)+1) (((za q2 60).1),IntKind.wrap .i64 (((za q8 5).1)+1),q10,([]:List Sector))with|.error (.inl e)=>e|.error (.inr s1)=>(s1.2.2.2,s1.2.2.1)|.ok _=>default))))))
namespace N124
theorem DD:DOk Tryz.prog (Go.Ab.DD [(42,dM [true,false] D_za),(43,dM [true,true] D_zr),(53,dM [true,false] D_zh)]):=ya yuc.e <| ya ylh.e <| ya y6h.e <| yd _
theorem dn:type_of% (And.intro @D_za.eq_1 <| And.intro @D_zr.eq_1 <| @D_zh.eq_1):=by and_intros<;>intros<;>rfl
theorem o1 {p:Prop} (h:p:=by(first|(refine SrcOk.mono (by repeat' first|assumption|exact SrcOk.next ‹_› | apply SrcOk.next|apply SrcOk.pick|apply SrcOk.one|apply SrcOk.among|apply SrcOk.text|apply SrcOk.colors|apply SrcOk.point|apply SrcOk.chr|apply SrcOk.sectors|apply SrcOk.aid|apply SrcOk.aids|apply SrcOk.notice|omega) (by omega))|(exact SrcOk.mono hW1.2.2.1 (by omega)));first|done|fail):p:=h
theorem o2 {p:Prop} (h:p:=by(first|((repeat' with_reducible apply And.intro)<;>first|(simp only[List.length_append,List.length_singleton];(first|done|fail))|(rw[IntKind.wrap_i64];omega)|(intro j hj;by_cases hji:j<s1.2.2.2.length;(focus(simp only[yjd hji,yeh hji,cond_true];first|(first|done|fail)|with_reducible rfl));(have e0:j-s1.2.2.2.length=0:=by omega);(simp only[ytd hji hj,y8g hji,cond_false,e0,elt,borrowL,borrow];first|(first|done|fail)|with_reducible rfl))|decide));first|done|fail):p:=h
theorem lx {p:Prop} (h:p:=by(exact lxx);first|done|fail):p:=h
set_option maxHeartbeats 2000000 in
set_option maxRecDepth 20000 in
theorem den (a0:l00Src) (hp0:SrcOk 600000 a0):DenM Tryz.prog 124 [.op (ym a0)] (ownL 117 3 yx ((zy a0).1)) [(.op (ym ((zy a0).2)))]:=by
 generalize hR:zy a0=r;unfold zy at hR;refine dj (gb:=[true]) Tryz.func124 Tryz.ntmps124 Tryz.results124 ?_;intro c hL hc hk;obtain⟨hL0,_⟩:=hL;have hw0:bwl00Src a0:=y7 a0 hL0;clear hL0;simp only[adEL,adE,adRL,adR,ownL,encL,sv,List.nil_append,List.append_nil,List.cons_append,List.length_cons,List.length_nil,pars,Nat.zero_add,Nat.reduceAdd]at hk ⊢;iterate 3 refine rS ?_
 generalize hq2:(za a0 6).2=q2 at hR ⊢;replace hR:=bn hR;have hS_q2:SrcOk (600002) q2:=by rw[<- hq2];exact SrcOk.pick hp0 (by omega)
 refine rS ?_;refine AWP.cond rfl (fun hb => ?_) (fun hb => ?_)
 ·replace hR:=ct hR
  refine rS ?_;refine AWP.ret ?_;subst hR;exact es
 ·replace hR:=cf hR
  refine rS ?_;refine AWP.cond rfl (fun hb => ?_) (fun hb => ?_)
  ·replace hR:=ct hR
   refine rS ?_;generalize hq4:(za q2 360).2=q4 at hR ⊢;replace hR:=bn hR;have hS_q4:SrcOk (600004) q4:=by rw[<- hq4];exact SrcOk.pick hS_q2 (by omega)
   refine rS ?_;generalize hq6:(zr q4 [[87],[82],[71],[89]]).2=q6 at hR ⊢;replace hR:=bn hR;have hS_q6:SrcOk (600006) q6:=by rw[<- hq6];exact SrcOk.text hS_q4 (by omega)
   refine AWP.ret ?_;subst hR;exact es
  ·replace hR:=cf hR
   refine rS ?_;generalize hq8:(za q2 60).2=q8 at hR ⊢;replace hR:=bn hR;have hS_q8:SrcOk (600004) q8:=by rw[<- hq8];exact SrcOk.pick hS_q2 (by omega)
   iterate 2 refine rS ?_
   generalize hq10:(za q8 5).2=q10 at hR ⊢;replace hR:=bn hR;have hS_q10:SrcOk (600006) q10:=by rw[<- hq10];exact SrcOk.pick hS_q8 (by omega)
   refine AWP.block ?_;generalize hz1:yeb (yns a0 q2 q8 q10) ((((IntKind.wrap .i64 (((za q8 5).1)+1))).toNat)+1) (((za q2 60).1),IntKind.wrap .i64 (((za q8 5).1)+1),q10,([]:List Sector))=z1 at hR;refine AWP.whileW (yns a0 q2 q8 q10) (fun s1=>⟨[(0,.ptr 0 0),(3,.ref 1 3 0 s1.2.2.2.length),(5,.int .i64 s1.1),(6,.int .i64 ((za q2 60).1)),(7,.int .i64 s1.2.1)],[.box [encL 1 eIu8 s1.2.2.1.code,.int .i64 s1.2.2.1.at_,.int .u64 s1.2.2.1.seed],.arr 117 3 s1.2.2.2.length (fun j=>yx (s1.2.2.2.getD j default))]⟩) (fun s1=>0<=s1.2.1/\s1.2.1<=5/\SrcOk (600040+20 * (5-s1.2.1)) s1.2.2.1/\s1.2.2.2.length<=(5-s1.2.1).toNat) (fun s1=>(s1.2.1).toNat) ((((IntKind.wrap .i64 (((za q8 5).1)+1))).toNat)+1) (((za q2 60).1),IntKind.wrap .i64 (((za q8 5).1)+1),q10,([]:List Sector)) [0,1] hz1 m0 (by(have h2:=yg 5 hS_q8 (by omega);have h3:=h2.2 (by omega);have hwr:IntKind.wrap .i64 (((za q8 5).1)+1)=((za q8 5).1)+1:=(by rw[IntKind.wrap_i64];omega);simp only[hwr];exact⟨by omega,by omega,SrcOk.mono (by assumption) (by omega),by simp⟩)) sm ?_;clear hz1;intro s1 k1 hW1 hm1 hz1;simp only[yns]at hz1;refine rS ?_;refine AWP.cond rfl (fun hb => ?_) (fun hb => ?_)
   ·simp only[hb,cond_true]at hz1
    refine rS ?_;generalize hq20:(za s1.2.2.1 70).2=q20 at hz1 ⊢;rw[bndv q20]at hz1;have hS_q20:SrcOk (600040+20 * (5-s1.2.1)+2) q20:=by rw[<- hq20];exact SrcOk.pick hW1.2.2.1 (by omega)
    refine rS ?_;refine AWP.cond rfl (fun hb => ?_) (fun hb => ?_)
    ·simp only[hb,cond_true]at hz1
     refine AWP.exit ?_;refine yni rfl ?_;refine yb ?_;subst hz1;dsimp only at hR;refine rS ?_;refine AWP.ret ?_;subst hR;exact es
    ·simp only[hb,cond_false]at hz1
     iterate 2 refine rS ?_
     generalize hq22:(zr q20 [[87],[82],[71],[89]]).2=q22 at hz1 ⊢;rw[bndv q22]at hz1;have hS_q22:SrcOk (600040+20 * (5-s1.2.1)+2+2) q22:=by rw[<- hq22];exact SrcOk.text hS_q20 (by omega)
     iterate 3 refine rS ?_
     generalize hq24:(zh q22 2).2=q24 at hz1 ⊢;rw[bndv q24]at hz1;have hS_q24:SrcOk (600040+20 * (5-s1.2.1)+2+2+2) q24:=by rw[<- hq24];exact SrcOk.one hS_q22 (by omega)
     refine AWP.cond rfl (fun hb => ?_) (fun hb => ?_)
     ·simp only[hb,cond_true]at hz1
      refine rS ?_;generalize hq26:(za q24 40).2=q26 at hz1 ⊢;rw[bndv q26]at hz1;have hS_q26:SrcOk (600040+20 * (5-s1.2.1)+2+2+2+2) q26:=by rw[<- hq26];exact SrcOk.pick hS_q24 (by omega)
      refine rS ?_;clear hR;exact⟨_,[0,5],by(have hpos:0<s1.2.1:=of_decide_eq_true (by assumption);have hwr:IntKind.wrap .i64 (s1.2.1-1)=s1.2.1-1:=(by rw[IntKind.wrap_i64];omega);(try dsimp only);rw[hwr];omega),by(have hpos:0<s1.2.1:=of_decide_eq_true (by assumption);have hwr:IntKind.wrap .i64 (s1.2.1-1)=s1.2.1-1:=(by rw[IntKind.wrap_i64];omega);(try dsimp only);rw[hwr];have hG:=hW1.2.2.2;exact⟨by omega,by omega,SrcOk.mono (by assumption) (by omega),by simp only[List.length_append,List.length_cons,List.length_nil];omega⟩),hz1,sm⟩
     ·simp only[hb,cond_false]at hz1
      refine rS ?_;clear hR;exact⟨_,[0,5],by(have hpos:0<s1.2.1:=of_decide_eq_true (by assumption);have hwr:IntKind.wrap .i64 (s1.2.1-1)=s1.2.1-1:=(by rw[IntKind.wrap_i64];omega);(try dsimp only);rw[hwr];omega),by(have hpos:0<s1.2.1:=of_decide_eq_true (by assumption);have hwr:IntKind.wrap .i64 (s1.2.1-1)=s1.2.1-1:=(by rw[IntKind.wrap_i64];omega);(try dsimp only);rw[hwr];have hG:=hW1.2.2.2;exact⟨by omega,by omega,SrcOk.mono (by assumption) (by omega),by simp only[List.length_append,List.length_cons,List.length_nil];omega⟩),hz1,sm⟩
   ·simp only[hb,cond_false]at hz1
    refine AWP.exit ?_;refine yb ?_;subst hz1;dsimp only at hR;refine rS ?_;refine AWP.ret ?_;subst hR;exact es
end N124
def D_zy : List AV -> Option (AV × List AV × List Prop)
 | [x0]=>some (ownL 117 3 yx ((zy (rdQ yn x0)).1),[(.op (ym ((zy (rdQ yn x0)).2)))],[wQ ym yn x0,SrcOk 600000 (rdQ yn x0)])
 | _=>none
theorem yb6:OkM Tryz.prog 124 D_zy:=by unfold D_zy;exact dm N124.den
def zub (a0:l00Src):Point×l00Src:=
 (bnd ((zb a0 ([20,100,100,100]:List Int)).2) fun q2=>(bnd ((za q2 ((zb a0 ([20,100,100,100]:List Int)).1)).2) fun q4=>(bnd ((za q4 ((zb a0 ([20,100,100,100]:List Int)).1)).2) fun q6=>(bnd ((zh q6 3).2) fun q8=>(bif ((zh q6 3).1)then(bnd ((za q8 200).2) fun q10=>(bnd ((zh q10 3).2) fun q12=>(bif ((zh q10 3).1)then(bnd ((za q12 200).2) fun q14=>({ X:=IntKind.wrap .i64 ((IntKind.wrap .i64 (10000+(IntKind.wrap .i64 (((za q2 ((zb a0 ([20,100,100,100]:List Int)).1)).1) * 100))))+((za q8 200).1)),Y:=IntKind.wrap .i64 ((IntKind.wrap .i64 (10000+(IntKind.wrap .i64 (((za q4 ((zb a0 ([20,100,100,100]:List Int)).1)).1) * 100))))+((za q12 200).1)):Point },q14))else({ X:=IntKind.wrap .i64 ((IntKind.wrap .i64 (10000+(IntKind.wrap .i64 (((za q2 ((zb a0 ([20,100,100,100]:List Int)).1)).1) * 100))))+((za q8 200).1)),Y:=IntKind.wrap .i64 (10000+(IntKind.wrap .i64 (((za q4 ((zb a0 ([20,100,100,100]:List Int)).1)).1) * 100))):Point },q12))))else(bnd ((zh q8 3).2) fun q16=>(bif ((zh q8 3).1)then(bnd ((za q16 200).2) fun q18=>({ X:=IntKind.wrap .i64 (10000+(IntKind.wrap .i64 (((za q2 ((zb a0 ([20,100,100,100]:List Int)).1)).1) * 100))),Y:=IntKind.wrap .i64 ((IntKind.wrap .i64 (10000+(IntKind.wrap .i64 (((za q4 ((zb a0 ([20,100,100,100]:List Int)).1)).1) * 100))))+((za q16 200).1)):Point },q18))else({ X:=IntKind.wrap .i64 (10000+(IntKind.wrap .i64 (((za q2 ((zb a0 ([20,100,100,100]:List Int)).1)).1) * 100))),Y:=IntKind.wrap .i64 (10000+(IntKind.wrap .i64 (((za q4 ((zb a0 ([20,100,100,100]:List Int)).1)).1) * 100))):Point },q16))))))))
namespace N121
theorem DD:DOk Tryz.prog (Go.Ab.DD [(42,dM [true,false] D_za),(44,dM [true,true] D_zb),(53,dM [true,false] D_zh)]):=ya yuc.e <| ya y7h.e <| ya y6h.e <| yd _
theorem dn:type_of% (And.intro @D_za.eq_1 <| And.intro @D_zb.eq_1 <| @D_zh.eq_1):=by and_intros<;>intros<;>rfl
theorem o1 {p:Prop} (h:p:=by(first|(refine SrcOk.mono (by repeat' first|assumption|exact SrcOk.next ‹_› | apply SrcOk.next|apply SrcOk.pick|apply SrcOk.one|apply SrcOk.among|apply SrcOk.text|apply SrcOk.colors|apply SrcOk.point|apply SrcOk.chr|apply SrcOk.sectors|apply SrcOk.aid|apply SrcOk.aids|apply SrcOk.notice|omega) (by omega)));first|done|fail):p:=h
theorem lx {p:Prop} (h:p:=by(exact lxx);first|done|fail):p:=h
set_option maxHeartbeats 2000000 in
set_option maxRecDepth 20000 in
theorem den (a0:l00Src) (hp0:SrcOk 700000 a0):DenM Tryz.prog 121 [.op (ym a0)] (.agg (ytf ((zub a0).1))) [(.op (ym ((zub a0).2)))]:=by
 generalize hR:zub a0=r;unfold zub at hR;refine dj (gb:=[true]) Tryz.func121 Tryz.ntmps121 Tryz.results121 ?_;intro c hL hc hk;obtain⟨hL0,_⟩:=hL;have hw0:bwl00Src a0:=y7 a0 hL0;clear hL0;simp only[adEL,adE,adRL,adR,ownL,encL,sv,List.nil_append,List.append_nil,List.cons_append,List.length_cons,List.length_nil,pars,Nat.zero_add,Nat.reduceAdd]at hk ⊢;iterate 2 refine rS ?_
 generalize hq2:(zb a0 ([20,100,100,100]:List Int)).2=q2 at hR ⊢;replace hR:=bn hR;have hS_q2:SrcOk (700002) q2:=by rw[<- hq2];exact SrcOk.among hp0 (by omega)
 refine rS ?_;generalize hq4:(za q2 ((zb a0 ([20,100,100,100]:List Int)).1)).2=q4 at hR ⊢;replace hR:=bn hR;have hS_q4:SrcOk (700004) q4:=by rw[<- hq4];exact SrcOk.pick hS_q2 (by omega)
 refine rS ?_;generalize hq6:(za q4 ((zb a0 ([20,100,100,100]:List Int)).1)).2=q6 at hR ⊢;replace hR:=bn hR;have hS_q6:SrcOk (700006) q6:=by rw[<- hq6];exact SrcOk.pick hS_q4 (by omega)
 refine rS ?_;generalize hq8:(zh q6 3).2=q8 at hR ⊢;replace hR:=bn hR;have hS_q8:SrcOk (700008) q8:=by rw[<- hq8];exact SrcOk.one hS_q6 (by omega)
 refine AWP.cond rfl (fun hb => ?_) (fun hb => ?_)
 ·replace hR:=ct hR
  refine rS ?_;generalize hq10:(za q8 200).2=q10 at hR ⊢;replace hR:=bn hR;have hS_q10:SrcOk (700010) q10:=by rw[<- hq10];exact SrcOk.pick hS_q8 (by omega)
  refine rS ?_;generalize hq12:(zh q10 3).2=q12 at hR ⊢;replace hR:=bn hR;have hS_q12:SrcOk (700012) q12:=by rw[<- hq12];exact SrcOk.one hS_q10 (by omega)
  refine AWP.cond rfl (fun hb => ?_) (fun hb => ?_)
  ·replace hR:=ct hR
   refine rS ?_;generalize hq14:(za q12 200).2=q14 at hR ⊢;replace hR:=bn hR;have hS_q14:SrcOk (700014) q14:=by rw[<- hq14];exact SrcOk.pick hS_q12 (by omega)
   refine rS ?_;refine AWP.ret ?_;subst hR;exact es
  ·replace hR:=cf hR
   refine rS ?_;refine AWP.ret ?_;subst hR;exact es
 ·replace hR:=cf hR
  refine rS ?_;generalize hq16:(zh q8 3).2=q16 at hR ⊢;replace hR:=bn hR;have hS_q16:SrcOk (700010) q16:=by rw[<- hq16];exact SrcOk.one hS_q8 (by omega)
  refine AWP.cond rfl (fun hb => ?_) (fun hb => ?_)
  ·replace hR:=ct hR
   refine rS ?_;generalize hq18:(za q16 200).2=q18 at hR ⊢;replace hR:=bn hR;have hS_q18:SrcOk (700012) q18:=by rw[<- hq18];exact SrcOk.pick hS_q16 (by omega)
   refine rS ?_;refine AWP.ret ?_;subst hR;exact es
  ·replace hR:=cf hR
   refine rS ?_;refine AWP.ret ?_;subst hR;exact es
end N121
def D_zub : List AV -> Option (AV × List AV × List Prop)
 | [x0]=>some (.agg (ytf ((zub (rdQ yn x0)).1)),[(.op (ym ((zub (rdQ yn x0)).2)))],[wQ ym yn x0,SrcOk 700000 (rdQ yn x0)])
 | _=>none
theorem ya1:OkM Tryz.prog 121 D_zub:=by unfold D_zub;exact dm N121.den
def zle (a0:Int):(Mark×Int):=
 (bif (!(ztc a0))then({ Kind:=0,Colors:=[],Shape:=[],Topmark:=[]:Mark },2)else({ Kind:=a0,Colors:=(zae a0),Shape:=((zqb a0).getD 0 default),Topmark:=(zje a0):Mark },0))
namespace N122
theorem DD:DOk Tryz.prog (Go.Ab.DD [(168,dP D_ztc),(169,dP D_zae),(170,dP D_zqb),(171,dP D_zje)]):=ya yqt.e <| ya ygu.e <| ya yy0.e <| ya yqv.e <| yd _
theorem DZ:DOk Tryz.prog (Go.Ab.DD [(168,dP D_ztc),(169,dP D_zae),(170,dP Dz_zqb),(171,dP D_zje)]):=ya yqt.e <| ya ygu.e <| ya yhz.e <| ya yqv.e <| yd _
theorem dn:type_of% (And.intro @D_ztc.eq_1 <| And.intro @D_zae.eq_1 <| And.intro @D_zqb.eq_1 <| And.intro @D_zje.eq_1 <| @Dz_zqb.eq_1):=by and_intros<;>intros<;>rfl
theorem o1 {p:Prop} (h:p:=by(first|(have h9:=hki (by assumption);omega));first|done|fail):p:=h
theorem den (a0:Int)  : Den Tryz.prog 122 [.int .i64 a0] (.tup [.agg (yqk ((zle a0).1)),.int .i64 ((zle a0).2)]):=by
 generalize hR:zle a0=r;unfold zle at hR;refine di Tryz.func122 Tryz.ntmps122 Tryz.results122 ?_;intro c hL hc hk;clear hL;simp only[pars,Nat.zero_add];have hs5:1<=(zqb a0).length:=by unfold zqb;simp only[Bool.cond_eq_ite];(repeat' split)<;>simp
 have hki:ztc a0=true->0<=a0/\a0<=9:=fun h=>by unfold ztc zv at h;simp at h;omega
 iterate 2 refine rS ?_
 refine AWP.cond rfl (fun hb => ?_) (fun hb => ?_)
 ·replace hR:=ct hR
  refine rS ?_;refine AWP.ret ?_;subst hR;exact es
 ·replace hR:=cf hR
  refine rZ 9 ?_;refine AWP.ret ?_;subst hR;exact es
end N122
def D_zle : DF
 | [x0]=>some (.tup [.agg (yqk ((zle (rdI x0)).1)),.int .i64 ((zle (rdI x0)).2)],false,[wI .i64 x0])
 | _=>none
theorem yj0:OkD Tryz.prog 122 D_zle:=by unfold D_zle;exact dk N122.den
def zbd (a0:l00Src) (a1:Aid):Aid×l00Src:=
 (bnd ((za a0 24).2) fun q2=>(bif (((za a0 24).1) == 0)then(bnd ((zb q2 ([0,9999,10000]:List Int)).2) fun q4=>({ Number:=((zb q2 ([0,9999,10000]:List Int)).1),Name:=a1.Name,At:=a1.At,Height:=a1.Height,Mark:=a1.Mark,Light:=a1.Light,Sectors:=a1.Sectors,Intensity:=a1.Intensity:Aid },q4))else(bif (((za a0 24).1) == 1)then(bnd ((zr q2 [[],[82,111,99,107]]).2) fun q6=>({ Number:=a1.Number,Name:=((zr q2 [[],[82,111,99,107]]).1),At:=a1.At,Height:=a1.Height,Mark:=a1.Mark,Light:=a1.Light,Sectors:=a1.Sectors,Intensity:=a1.Intensity:Aid },q6))else(bif (((za a0 24).1) == 2)then(bnd ((zb q2 ([(-1),3000,3001]:List Int)).2) fun q8=>({ Number:=a1.Number,Name:=a1.Name,At:=a1.At,Height:=((zb q2 ([(-1),3000,3001]:List Int)).1),Mark:=a1.Mark,Light:=a1.Light,Sectors:=a1.Sectors,Intensity:=a1.Intensity:Aid },q8))else(bif (((za a0 24).1) == 3)then(bnd ((zb q2 ([10,(-1)]:List Int)).2) fun q10=>({ Number:=a1.Number,Name:=a1.Name,At:=a1.At,Height:=a1.Height,Mark:={ Kind:=((zb q2 ([10,(-1)]:List Int)).1),Colors:=a1.Mark.Colors,Shape:=a1.Mark.Shape,Topmark:=a1.Mark.Topmark:Mark },Light:=a1.Light,Sectors:=a1.Sectors,Intensity:=a1.Intensity:Aid },q10))else(bif (((za a0 24).1) == 4)then(bnd ((zb q2 ([0,100000000,100000001]:List Int)).2) fun q12=>({ Number:=a1.Number,Name:=a1.Name,At:=a1.At,Height:=a1.Height,Mark:=a1.Mark,Light:=a1.Light,Sectors:=a1.Sectors,Intensity:=((zb q2 ([0,100000000,100000001]:List Int)).1):Aid },q12))else(bif (((za a0 24).1) == 5)then({ Number:=a1.Number,Name:=a1.Name,At:=a1.At,Height:=a1.Height,Mark:=a1.Mark,Light:={ Kind:=a1.Light.Kind,Group:=a1.Light.Group,Letter:=a1.Light.Letter,Colors:=[87,82,71],Period:=a1.Light.Period:Character },Sectors:=a1.Sectors,Intensity:=a1.Intensity:Aid },q2)else(bif (((za a0 24).1) == 6)then({ Number:=a1.Number,Name:=a1.Name,At:={ X:=200001,Y:=a1.At.Y:Point },Height:=a1.Height,Mark:=a1.Mark,Light:=a1.Light,Sectors:=a1.Sectors,Intensity:=a1.Intensity:Aid },q2)else(a1,q2)))))))))
namespace N54
theorem DD:DOk Tryz.prog (Go.Ab.DD [(42,dM [true,false] D_za),(43,dM [true,true] D_zr),(44,dM [true,true] D_zb)]):=ya yuc.e <| ya ylh.e <| ya y7h.e <| yd _
theorem dn:type_of% (And.intro @D_za.eq_1 <| And.intro @D_zr.eq_1 <| @D_zb.eq_1):=by and_intros<;>intros<;>rfl
theorem o1 {p:Prop} (h:p:=by(first|(refine SrcOk.mono (by repeat' first|assumption|exact SrcOk.next ‹_› | apply SrcOk.next|apply SrcOk.pick|apply SrcOk.one|apply SrcOk.among|apply SrcOk.text|apply SrcOk.colors|apply SrcOk.point|apply SrcOk.chr|apply SrcOk.sectors|apply SrcOk.aid|apply SrcOk.aids|apply SrcOk.notice|omega) (by omega)));first|done|fail):p:=h
theorem lx {p:Prop} (h:p:=by(exact lxx);first|done|fail):p:=h
set_option maxHeartbeats 2000000 in
set_option maxRecDepth 20000 in
theorem den (a0:l00Src) (a1:Aid) (hp0:SrcOk 500000 a0):DenM Tryz.prog 54 [.op (ym a0),.agg (eAid a1)] (.agg (eAid ((zbd a0 a1).1))) [(.op (ym ((zbd a0 a1).2))),.any]:=by
 generalize hR:zbd a0 a1=r;unfold zbd at hR;refine dj (gb:=[true,false]) Tryz.func54 Tryz.ntmps54 Tryz.results54 ?_;intro c hL hc hk;obtain⟨hL0,hL1,_⟩:=hL;have hw0:bwl00Src a0:=y7 a0 hL0;have hw1:bwAid a1:=ylb a1 hL1;clear hL0 hL1;simp only[adEL,adE,adRL,adR,ownL,encL,sv,List.nil_append,List.append_nil,List.cons_append,List.length_cons,List.length_nil,pars,Nat.zero_add,Nat.reduceAdd]at hk ⊢;iterate 2 refine rS ?_
 generalize hq2:(za a0 24).2=q2 at hR ⊢;replace hR:=bn hR;have hS_q2:SrcOk (500002) q2:=by rw[<- hq2];exact SrcOk.pick hp0 (by omega)
 refine rS ?_;refine AWP.cond rfl (fun hb => ?_) (fun hb => ?_)
 ·replace hR:=ct hR
  refine rS ?_;generalize hq4:(zb q2 ([0,9999,10000]:List Int)).2=q4 at hR ⊢;replace hR:=bn hR;have hS_q4:SrcOk (500004) q4:=by rw[<- hq4];exact SrcOk.among hS_q2 (by omega)
  refine rS ?_;refine AWP.ret ?_;subst hR;exact es
 ·replace hR:=cf hR
  refine rS ?_;refine AWP.cond rfl (fun hb => ?_) (fun hb => ?_)
  ·replace hR:=ct hR
   refine rS ?_;generalize hq6:(zr q2 [[],[82,111,99,107]]).2=q6 at hR ⊢;replace hR:=bn hR;have hS_q6:SrcOk (500004) q6:=by rw[<- hq6];exact SrcOk.text hS_q2 (by omega)
   refine rS ?_;refine AWP.ret ?_;subst hR;exact es
  ·replace hR:=cf hR
   refine rS ?_;refine AWP.cond rfl (fun hb => ?_) (fun hb => ?_)
   ·replace hR:=ct hR
    refine rS ?_;generalize hq8:(zb q2 ([(-1),3000,3001]:List Int)).2=q8 at hR ⊢;replace hR:=bn hR;have hS_q8:SrcOk (500004) q8:=by rw[<- hq8];exact SrcOk.among hS_q2 (by omega)
    refine rS ?_;refine AWP.ret ?_;subst hR;exact es
   ·replace hR:=cf hR
    refine rS ?_;refine AWP.cond rfl (fun hb => ?_) (fun hb => ?_)
    ·replace hR:=ct hR
     refine rS ?_;generalize hq10:(zb q2 ([10,(-1)]:List Int)).2=q10 at hR ⊢;replace hR:=bn hR;have hS_q10:SrcOk (500004) q10:=by rw[<- hq10];exact SrcOk.among hS_q2 (by omega)
     refine rS ?_;refine AWP.ret ?_;subst hR;exact es
    ·replace hR:=cf hR
     refine rS ?_;refine AWP.cond rfl (fun hb => ?_) (fun hb => ?_)
     ·replace hR:=ct hR
      refine rS ?_;generalize hq12:(zb q2 ([0,100000000,100000001]:List Int)).2=q12 at hR ⊢;replace hR:=bn hR;have hS_q12:SrcOk (500004) q12:=by rw[<- hq12];exact SrcOk.among hS_q2 (by omega)
      refine rS ?_;refine AWP.ret ?_;subst hR;exact es
     ·replace hR:=cf hR
      refine rS ?_;refine AWP.cond rfl (fun hb => ?_) (fun hb => ?_)
      ·replace hR:=ct hR
       iterate 2 refine rS ?_
       refine AWP.ret ?_;subst hR;exact es
      ·replace hR:=cf hR
       refine rS ?_;refine AWP.cond rfl (fun hb => ?_) (fun hb => ?_)
       ·replace hR:=ct hR
        iterate 2 refine rS ?_
        refine AWP.ret ?_;subst hR;exact es
       ·replace hR:=cf hR
        refine rS ?_;refine AWP.ret ?_;subst hR;exact es
end N54
def D_zbd : List AV -> Option (AV × List AV × List Prop)
 | [x0,x1]=>some (.agg (eAid ((zbd (rdQ yn x0) (rdG dAid x1)).1)),[(.op (ym ((zbd (rdQ yn x0) (rdG dAid x1)).2))),.any],[wQ ym yn x0,wG eAid dAid x1,SrcOk 500000 (rdQ yn x0)])
 | _=>none
theorem ys1:OkM Tryz.prog 54 D_zbd:=by unfold D_zbd;exact dm N54.den
def zxf (a0:(List Item)):Bool:=
 (zmb a0)
namespace N17
theorem DD:DOk Tryz.prog (Go.Ab.DD [(40,dP D_zmb)]):=ya ye3.e <| yd _
theorem dn:type_of% (@D_zmb.eq_1):=by and_intros<;>intros<;>rfl
theorem gr {p:Prop} (h:p:=by(grind [yfz]);first|done|fail):p:=h
theorem den (a0:(List Item))  : Den Tryz.prog 17 [encL 2 yr a0] (.bool (zxf a0)):=by
 generalize hR:zxf a0=r;unfold zxf at hR;refine di Tryz.func17 Tryz.ntmps17 Tryz.results17 ?_;intro c hL hc hk;obtain⟨hL0,_⟩:=hL;have hw0:a0.length<9223372036854775808:=Nat.lt_succ_of_le (yc hL0).1;have hw1:∀ v∈a0,bwItem v:=fun v hv=>y6 v ((yc hL0).2 v hv)
 clear hL0;simp only[pars,Nat.zero_add];iterate 2 refine rS ?_
 refine AWP.ret ?_;subst hR;exact es
end N17
def D_zxf : DF
 | [x0]=>some (.bool (zxf (rdL yp x0)),false,[wL 2 yr yp x0])
 | _=>none
theorem yo3:OkD Tryz.prog 17 D_zxf:=by unfold D_zxf;exact dk N17.den
def y6k (a0:l00Src) (a1:Int) (q2:l00Src) (s1:Int×l00Src×List Int):Except (Sum ((List UInt8)×l00Src) (Int×l00Src×List Int)) (Int×l00Src×List Int):=
 (bif decide (0<s1.1)then(bnd ((zyb s1.2.1).2) fun q6=>.ok (IntKind.wrap .i64 (s1.1-1),q6,s1.2.2++([IntKind.wrap .u8 ((zyb s1.2.1).1)]:List Int)))else .error (.inr (s1.1,s1.2.1,s1.2.2)))
def zvc (a0:l00Src) (a1:Int):(List UInt8)×l00Src:=
 (bnd ((za a0 a1).2) fun q2=>(match yeb (y6k a0 a1 q2) (((((za a0 a1).1)).toNat)+1) (((za a0 a1).1),q2,([]:List Int))with|.error (.inl e)=>e|.error (.inr s1)=>((s1.2.2.map fun z=>UInt8.ofNat z.toNat),s1.2.1)|.ok _=>default))
namespace N74
theorem DD:DOk Tryz.prog (Go.Ab.DD [(42,dM [true,false] D_za),(76,dM [true] D_zyb)]):=ya yuc.e <| ya ygt.e <| yd _
theorem dn:type_of% (And.intro @D_za.eq_1 <| @D_zyb.eq_1):=by and_intros<;>intros<;>rfl
theorem o1 {p:Prop} (h:p:=by(first|(refine SrcOk.mono (by repeat' first|assumption|exact SrcOk.next ‹_› | apply SrcOk.next|apply SrcOk.pick|apply SrcOk.one|apply SrcOk.among|apply SrcOk.text|apply SrcOk.colors|apply SrcOk.point|apply SrcOk.chr|apply SrcOk.sectors|apply SrcOk.aid|apply SrcOk.aids|apply SrcOk.notice|omega) (by omega))|(exact SrcOk.mono hW1.2.2.1 (by omega))|(have hG:=hW1.2.2.2;simp only[List.length_append,List.length_cons,List.length_nil];omega)|(intro v hv;rw[List.mem_singleton]at hv;subst hv;exact IntKind_u8 _));first|done|fail):p:=h
theorem o2 {p:Prop} (h:p:=by(first|((repeat' with_reducible apply And.intro)<;>first|(simp only[List.length_append,List.length_singleton];(first|done|fail))|(rw[IntKind.wrap_i64];omega)|(intro j hj;by_cases hji:j<s1.2.2.length;(focus(simp only[yjd hji,yeh hji,cond_true];first|(first|done|fail)|with_reducible rfl));(have e0:j-s1.2.2.length=0:=by omega);(simp only[ytd hji hj,y8g hji,cond_false,e0,elt,borrowL,borrow];first|(first|done|fail)|with_reducible rfl))|decide));first|done|fail):p:=h
set_option maxHeartbeats 1000000 in
set_option maxRecDepth 20000 in
theorem den (a0:l00Src) (a1:Int) (hp0:SrcOk 700000 a0) (hp1:1<=a1) (hp2:a1<=20):DenM Tryz.prog 74 [.op (ym a0),.int .i64 a1] (.str ((zvc a0 a1).1)) [(.op (ym ((zvc a0 a1).2))),.any]:=by
 generalize hR:zvc a0 a1=r;unfold zvc at hR;refine dj (gb:=[true,false]) Tryz.func74 Tryz.ntmps74 Tryz.results74 ?_;intro c hL hc hk;obtain⟨hL0,hL1,_⟩:=hL;have hw0:bwl00Src a0:=y7 a0 hL0;clear hL0 hL1;simp only[adEL,adE,adRL,adR,ownL,encL,sv,List.nil_append,List.append_nil,List.cons_append,List.length_cons,List.length_nil,pars,Nat.zero_add,Nat.reduceAdd]at hk ⊢;iterate 3 refine rS ?_
 generalize hq2:(za a0 a1).2=q2 at hR ⊢;replace hR:=bn hR;have hS_q2:SrcOk (700002) q2:=by rw[<- hq2];exact SrcOk.pick hp0 (by omega)
 refine AWP.block ?_;generalize hz1:yeb (y6k a0 a1 q2) (((((za a0 a1).1)).toNat)+1) (((za a0 a1).1),q2,([]:List Int))=z1 at hR;refine AWP.whileW (y6k a0 a1 q2) (fun s1=>⟨[(0,.ptr 0 0),(5,.ref 1 1 0 s1.2.2.length),(6,.int .i64 s1.1)],[.box [encL 1 eIu8 s1.2.1.code,.int .i64 s1.2.1.at_,.int .u64 s1.2.1.seed],.arr 5 1 s1.2.2.length (fun j=>eIu8 (s1.2.2.getD j default))]⟩) (fun s1=>0<=s1.1/\s1.1<=20/\SrcOk (700040+2 * (20-s1.1)) s1.2.1/\s1.2.2.length<=(20-s1.1).toNat) (fun s1=>(s1.1).toNat) (((((za a0 a1).1)).toNat)+1) (((za a0 a1).1),q2,([]:List Int)) [0,1] hz1 m0 (by(have h2:=yg a1 hp0 (by omega);have h3:=h2.2 hp1;exact⟨h2.1,by omega,SrcOk.mono (by assumption) (by omega),by simp⟩)) sm ?_;clear hz1;intro s1 k1 hW1 hm1 hz1;simp only[y6k]at hz1;refine rS ?_;refine AWP.cond rfl (fun hb => ?_) (fun hb => ?_)
 ·simp only[hb,cond_true]at hz1
  refine rS ?_;generalize hq6:(zyb s1.2.1).2=q6 at hz1 ⊢;rw[bndv q6]at hz1;have hS_q6:SrcOk (700040+2 * (20-s1.1)+1) q6:=by rw[<- hq6];exact SrcOk.next hW1.2.2.1 (by omega)
  refine rS ?_;clear hR;exact⟨_,[0,3],by(have hpos:0<s1.1:=of_decide_eq_true (by assumption);have hwr:IntKind.wrap .i64 (s1.1-1)=s1.1-1:=(by rw[IntKind.wrap_i64];omega);(try dsimp only);rw[hwr];omega),by(have hpos:0<s1.1:=of_decide_eq_true (by assumption);have hwr:IntKind.wrap .i64 (s1.1-1)=s1.1-1:=(by rw[IntKind.wrap_i64];omega);(try dsimp only);rw[hwr];have hG:=hW1.2.2.2;exact⟨by omega,by omega,SrcOk.mono (by assumption) (by omega),by simp only[List.length_append,List.length_cons,List.length_nil];omega⟩),hz1,sm⟩
 ·simp only[hb,cond_false]at hz1
  refine AWP.exit ?_;refine yb ?_;subst hz1;dsimp only at hR;refine rS ?_;refine AWP.ret ?_;subst hR;exact es
end N74
def D_zvc : List AV -> Option (AV × List AV × List Prop)
 | [x0,x1]=>some (.str ((zvc (rdQ yn x0) (rdI x1)).1),[(.op (ym ((zvc (rdQ yn x0) (rdI x1)).2))),.any],[wQ ym yn x0,wI .i64 x1,SrcOk 700000 (rdQ yn x0),1<=(rdI x1),(rdI x1)<=20])
 | _=>none
theorem yn1:OkM Tryz.prog 74 D_zvc:=by unfold D_zvc;exact dm N74.den
structure WordI (N:Int) (s:Int×l00Src×List Int):Prop where
 a:0<=s.1
 b:s.1<=8
 q:SrcOk (N+(8-s.1)) s.2.1
 n:(s.2.2.length:Int)<=8-s.1
theorem yjn {n:Int} {s:l00Src} (h:SrcOk n s) (hn:n<=1000000):SrcOk (n+30) (zvc s 9).2/\(zvc s 9).1.length<=8:=by
 have hr:=yg 9 h (by omega);have hr2:=hr.2 (by omega);have q2:=h.pick (m:=9) (by omega);unfold zvc;simp only[bnd]
 obtain⟨e,e1,t,rfl,e2⟩:=y7d (b:=y6k s 9 (za s 9).2) (WordI (n+2)) (fun e=>∃ t,e=.inr t/\WordI (n+2) t) (fun s=>s.1.toNat) (fun u hu=>by
  obtain⟨k,src,l⟩:=u;obtain⟨ha,hb,hq,hl⟩:=hu;simp only at ha hb hq hl;unfold y6k;simp only[bnd];by_cases hc:0<k
  ·rw[decide_eq_true hc,cond_true]
   left
   have hw:IntKind.wrap .i64 (k-1)=k-1:=by rw[IntKind.wrap_i64];omega
   rw[hw];exact⟨_,rfl,⟨by show 0<=k-1;omega,by show k-1<=8;omega,(hq.next (by omega)).mono (by show _<=n+2+(8-(k-1));omega),by show((l++[_]).length:Int)<=8-(k-1);simp only[List.length_append,List.length_singleton];omega⟩,by show(k-1).toNat<k.toNat;omega⟩
  ·rw[decide_eq_false hc,cond_false]
   exact .inr ⟨_,rfl,_,rfl,ha,hb,hq,hl⟩) (((za s 9).1).toNat+1) ((za s 9).1,(za s 9).2,([]:List Int)) ⟨hr.1,by show(za s 9).1<=8;omega,q2.mono (by show _<=n+2+(8-(za s 9).1);omega),by show((0:Nat):Int)<=8-(za s 9).1;omega⟩ (by show((za s 9).1).toNat<_;omega)
 rw[e1];have h1:=e2.a;have h2:=e2.n;have h3:=e2.q;exact⟨h3.mono (by omega),by simp only[List.length_map];omega⟩
theorem SrcOk.word {n:Int} {s:l00Src} (h:SrcOk n s) (hn:n<=1000000):SrcOk (n+30) (zvc s 9).2:=(yjn h hn).1
theorem yqh {B:Nat} (s:l00Src) (l:List (List UInt8)) (h:∀ v∈l,v.length<=B):(zr s l).1.length<=B:=by
 show(l.getD _ default).length<=B;generalize (za s (l.length:Int)).1.toNat=i;rw[List.getD_eq_getElem?_getD];by_cases hi:i<l.length
 ·rw[List.getElem?_eq_getElem hi];exact h _ (List.getElem_mem hi)
 ·rw[List.getElem?_eq_none (by omega)];exact Nat.zero_le _
theorem itb1 (s q:l00Src):bdItem ({ Key:=((zr s [[97],[98],[99,104,97,114,116],[108,105,115,116],[110,48,48,49,50],[122,57]]).1),Text:=((zr q [[],[120],[97,32,98],[108,105,110,101,10,108,105,110,101],[97,114,99,104,105,118,101,32,51,10],[49,50,47,114,111,99,107]]).1):Item }):=
 ⟨Nat.lt_of_le_of_lt (yqh (B:=5) s _ (by decide)) (by decide),Nat.lt_of_le_of_lt (yqh (B:=10) q _ (by decide)) (by decide)⟩
theorem itb2 {n:Int} {r:l00Src} (s q:l00Src) (h:SrcOk n r) (hn:n<=1000000):bdItem ({ Key:=((zr s [[97],[98],[99,104,97,114,116],[108,105,115,116],[110,48,48,49,50],[122,57]]).1),Text:=((zr q [[],[120],[97,32,98],[108,105,110,101,10,108,105,110,101],[97,114,99,104,105,118,101,32,51,10],[49,50,47,114,111,99,107]]).1)++((zvc r 9).1):Item }):=
 ⟨Nat.lt_of_le_of_lt (yqh (B:=5) s _ (by decide)) (by decide),by
  have h1:=yqh (B:=10) q [[],[120],[97,32,98],[108,105,110,101,10,108,105,110,101],[97,114,99,104,105,118,101,32,51,10],[49,50,47,114,111,99,107]] (by decide);have h2:=(yjn h hn).2;show List.length (_++_)<_;rw[List.length_append]
  omega⟩
end Go.Ab
