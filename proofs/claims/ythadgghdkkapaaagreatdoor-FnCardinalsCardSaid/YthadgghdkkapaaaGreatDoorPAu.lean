/- A part of a proof: walks of functions and lemmas of our own. No conditions. -/
import Derived.Test.YthadgghdkkapaaaGreatDoorPAl
import Derived.Test.YthadgghdkkapaaaGreatDoorPAo
import Derived.Test.YthadgghdkkapaaaGreatDoorPAs
import Derived.Test.YthadgghdkkapaaaGreatDoorPAt
set_option linter.unusedSectionVars false
set_option linter.unusedVariables false
set_option linter.unusedSimpArgs false
set_option maxHeartbeats 1000000
namespace Go.Ab
open Go Go.Proofs
def zac (a0:l00Src):Int×l00Src:=
 (bif decide (a0.at_<(a0.code.length:Int))then(bif decide ((IntKind.wrap .i64 (a0.at_+1))<=(a0.code.length:Int))then(IntKind.wrap .i64 (a0.code.getD ((a0.at_).toNat) default),{ code:=a0.code,at_:=IntKind.wrap .i64 (a0.at_+1),seed:=IntKind.wrap .u64 ((IntKind.wrap .u64 ((IntKind.wrap .u64 (a0.seed * 6364136223846793005))+(IntKind.wrap .u64 (IntKind.wrap .i64 (a0.code.getD ((a0.at_).toNat) default)))))+1442695040888963407):l00Src })else(IntKind.wrap .i64 (IntKind.wrap .u64 (BitVec.ofInt (IntKind.bits .u64) ((IntKind.wrap .u64 ((IntKind.wrap .u64 ((IntKind.wrap .u64 (a0.seed * 6364136223846793005))+(IntKind.wrap .u64 (IntKind.wrap .i64 (a0.code.getD ((a0.at_).toNat) default)))))+1442695040888963407)).fdiv (2 ^ (Min.min 40 (IntKind.bits .u64)))) &&& BitVec.ofInt (IntKind.bits .u64) 255).toNat),{ code:=a0.code,at_:=IntKind.wrap .i64 (a0.at_+1),seed:=IntKind.wrap .u64 ((IntKind.wrap .u64 ((IntKind.wrap .u64 (a0.seed * 6364136223846793005))+(IntKind.wrap .u64 (IntKind.wrap .i64 (a0.code.getD ((a0.at_).toNat) default)))))+1442695040888963407):l00Src }))else(bif decide ((IntKind.wrap .i64 (a0.at_+1))<=(a0.code.length:Int))then(0,{ code:=a0.code,at_:=IntKind.wrap .i64 (a0.at_+1),seed:=IntKind.wrap .u64 ((IntKind.wrap .u64 ((IntKind.wrap .u64 (a0.seed * 6364136223846793005))+(IntKind.wrap .u64 0)))+1442695040888963407):l00Src })else(IntKind.wrap .i64 (IntKind.wrap .u64 (BitVec.ofInt (IntKind.bits .u64) ((IntKind.wrap .u64 ((IntKind.wrap .u64 ((IntKind.wrap .u64 (a0.seed * 6364136223846793005))+(IntKind.wrap .u64 0)))+1442695040888963407)).fdiv (2 ^ (Min.min 40 (IntKind.bits .u64)))) &&& BitVec.ofInt (IntKind.bits .u64) 255).toNat),{ code:=a0.code,at_:=IntKind.wrap .i64 (a0.at_+1),seed:=IntKind.wrap .u64 ((IntKind.wrap .u64 ((IntKind.wrap .u64 (a0.seed * 6364136223846793005))+(IntKind.wrap .u64 0)))+1442695040888963407):l00Src })))
namespace N149
theorem DD:DOk Tryz.prog (Go.Ab.DD []):=yb _
theorem o1 {p:Prop} (h:p:=by(first|(refine SrcOk.mono (by repeat' first|assumption|exact SrcOk.next ‹_› | apply SrcOk.next|apply SrcOk.pick|apply SrcOk.among|apply SrcOk.text|apply SrcOk.name|apply SrcOk.drawName|apply SrcOk.word|apply SrcOk.entry|apply SrcOk.base|omega) (by omega)));first|done|fail):p:=h
theorem den (a0:l00Src) (hp0:SrcOk 1000000 a0):DenM Tryz.prog 149 [.op (yi a0)] (.int .i64 ((zac a0).1)) [(.op (yi ((zac a0).2)))]:=by
 generalize hR:zac a0=r;unfold zac at hR;refine dj (gb:=[true]) Tryz.func149 Tryz.ntmps149 Tryz.results149 ?_;intro c hL hc hk;obtain⟨hL0,_⟩:=hL;have hw0:bwl00Src a0:=y6 a0 hL0;clear hL0;simp only[adEL,adE,adRL,adR,ownL,encL,sv,List.nil_append,List.append_nil,List.cons_append,List.length_cons,List.length_nil,pars,Nat.zero_add,Nat.reduceAdd]at hk ⊢;have hp1:=hp0.lo;have hp2:=hp0.hi;iterate 2 refine rS ?_
 refine rD 10 ?_;refine AWP.cond rfl (fun hb => ?_) (fun hb => ?_)
 ·replace hR:=ct hR
  refine rD 11 ?_;iterate 2 refine rS ?_
  refine rD 10 ?_;refine AWP.cond rfl (fun hb => ?_) (fun hb => ?_)
  ·replace hR:=ct hR
   refine rS ?_;refine AWP.ret ?_;subst hR;exact es
  ·replace hR:=cf hR
   refine rS ?_;refine AWP.ret ?_;subst hR;exact es
 ·replace hR:=cf hR
  iterate 2 refine rS ?_
  refine rD 10 ?_;refine AWP.cond rfl (fun hb => ?_) (fun hb => ?_)
  ·replace hR:=ct hR
   refine rS ?_;refine AWP.ret ?_;subst hR;exact es
  ·replace hR:=cf hR
   refine rS ?_;refine AWP.ret ?_;subst hR;exact es
end N149
def D_zac : List AV -> Option (AV × List AV × List Prop)
 | [x0]=>some (.int .i64 ((zac (rdQ yj x0)).1),[(.op (yi ((zac (rdQ yj x0)).2)))],[wQ yi yj x0,SrcOk 1000000 (rdQ yj x0)])
 | _=>none
theorem yxu:OkM Tryz.prog 149 D_zac:=by unfold D_zac;exact dm N149.den
theorem ypp {n:Int} {s:l00Src} (h:SrcOk n s) (hn:n<=4000000000):0<=(zac s).1/\(zac s).1<=255:=by
 have h1:=h.lo;have h2:=h.hi;have hb:0<=s.code.getD s.at_.toNat default/\s.code.getD s.at_.toNat default<=255:=ycg (p:=fun v=>0<=v/\v<=255) h.by_ (by decide) _
 have hand:∀ x:Int,0<=((BitVec.ofInt (IntKind.bits .u64) x &&& BitVec.ofInt (IntKind.bits .u64) 255).toNat:Int)/\((BitVec.ofInt (IntKind.bits .u64) x &&& BitVec.ofInt (IntKind.bits .u64) 255).toNat:Int)<=255:=by
  intro x;refine⟨Int.natCast_nonneg _,?_⟩;rw[BitVec.toNat_and];have:=Nat.and_le_right (n:=(BitVec.ofInt (IntKind.bits .u64) x).toNat) (m:=(BitVec.ofInt (IntKind.bits .u64) 255).toNat);have e:(BitVec.ofInt (IntKind.bits .u64) 255).toNat=255:=by decide
  omega
 have hw:∀ y:Int,0<=y->y<=255->IntKind.wrap .i64 (IntKind.wrap .u64 y)=y:=by
  intro y _ _
  have:IntKind.wrap .u64 y=y:=by
   simp[IntKind.wrap,IntKind.bits,IntKind.signed];omega
  rw[this,IntKind.wrap_i64];omega
 unfold zac;simp only[Bool.cond_eq_ite];repeat' split
 all_goals first
  | (simp only[IntKind.wrap_i64];omega)
  | (rw[hw _ (hand _).1 (hand _).2];exact hand _)
theorem SrcOk.next {n:Int} {s:l00Src} (h:SrcOk n s) (hn:n<=4000000000):SrcOk (n+1) (zac s).2:=by
 have h1:=h.lo;have h2:=h.hi;unfold zac;simp only[Bool.cond_eq_ite];repeat' split
 all_goals exact⟨by simp only[IntKind.wrap_i64];omega,by simp only[IntKind.wrap_i64];omega,h.by_⟩
def za (a0:l00Src) (a1:Int):Int×l00Src:=
 (bif decide (a1<=1)then(0,a0)else(bif decide (200<a1)then((IntKind.wrap .i64 ((IntKind.wrap .i64 (((zac a0).1) * 256))+((zac ((zac a0).2)).1))).tmod a1,(zac ((zac a0).2)).2)else(((zac a0).1).tmod a1,(zac a0).2)))
namespace N95
theorem DD:DOk Tryz.prog (Go.Ab.DD [(149,dM [true] D_zac)]):=ya yxu.e <| yb _
theorem dn:type_of% (@D_zac.eq_1):=by and_intros<;>intros<;>rfl
theorem o1 {p:Prop} (h:p:=by(first|(refine SrcOk.mono (by repeat' first|assumption|exact SrcOk.next ‹_› | apply SrcOk.next|apply SrcOk.pick|apply SrcOk.among|apply SrcOk.text|apply SrcOk.name|apply SrcOk.drawName|apply SrcOk.word|apply SrcOk.entry|apply SrcOk.base|omega) (by omega)));first|done|fail):p:=h
theorem den (a0:l00Src) (a1:Int) (hp0:SrcOk 900000 a0):DenM Tryz.prog 95 [.op (yi a0),.int .i64 a1] (.int .i64 ((za a0 a1).1)) [(.op (yi ((za a0 a1).2))),.any]:=by
 generalize hR:za a0 a1=r;unfold za at hR;refine dj (gb:=[true,false]) Tryz.func95 Tryz.ntmps95 Tryz.results95 ?_;intro c hL hc hk;obtain⟨hL0,hL1,_⟩:=hL;have hw0:bwl00Src a0:=y6 a0 hL0;clear hL0 hL1;simp only[adEL,adE,adRL,adR,ownL,encL,sv,List.nil_append,List.append_nil,List.cons_append,List.length_cons,List.length_nil,pars,Nat.zero_add,Nat.reduceAdd]at hk ⊢;iterate 2 refine rS ?_
 refine AWP.cond rfl (fun hb => ?_) (fun hb => ?_)
 ·replace hR:=ct hR
  refine rS ?_;refine AWP.ret ?_;subst hR;exact es
 ·replace hR:=cf hR
  iterate 2 refine rS ?_
  refine AWP.cond rfl (fun hb => ?_) (fun hb => ?_)
  ·replace hR:=ct hR
   iterate 2 refine rS ?_
   refine AWP.ret ?_;subst hR;exact es
  ·replace hR:=cf hR
   refine rS ?_;refine AWP.ret ?_;subst hR;exact es
end N95
def D_za : List AV -> Option (AV × List AV × List Prop)
 | [x0,x1]=>some (.int .i64 ((za (rdQ yj x0) (rdI x1)).1),[(.op (yi ((za (rdQ yj x0) (rdI x1)).2))),.any],[wQ yi yj x0,wI .i64 x1,SrcOk 900000 (rdQ yj x0)])
 | _=>none
theorem ytc:OkM Tryz.prog 95 D_za:=by unfold D_za;exact dm N95.den
theorem yd {n:Int} {s:l00Src} (m:Int) (h:SrcOk n s) (hn:n<=2000000000):0<=(za s m).1/\(1<=m->(za s m).1<m):=by
 have v1:=ypp h (by omega);have v2:=ypp (h.next (by omega)) (by omega);unfold za;simp only[Bool.cond_eq_ite,decide_eq_true_eq];repeat' split
 ·simp;omega
 ·have hx:0<=IntKind.wrap .i64 (IntKind.wrap .i64 ((zac s).1 * 256)+(zac (zac s).2).1):=by
   simp only[IntKind.wrap_i64];omega
  exact⟨Int.tmod_nonneg _ hx,fun _=>Int.tmod_lt_of_pos _ (by omega)⟩
 ·exact⟨Int.tmod_nonneg _ v1.1,fun _=>Int.tmod_lt_of_pos _ (by omega)⟩
theorem SrcOk.pick {n:Int} {s:l00Src} {m:Int} (h:SrcOk n s) (hn:n<=2000000000):SrcOk (n+2) (za s m).2:=by
 unfold za;simp only[Bool.cond_eq_ite,decide_eq_true_eq];repeat' split
 ·exact h.mono (by omega)
 ·have:=(h.next (by omega)).next (by omega)
  exact this.mono (by omega)
 ·exact(h.next (by omega)).mono (by omega)
def zb (a0:l00Src) (a1:(List Int)):Int×l00Src:=
 ((a1.getD ((((za a0 (a1.length:Int)).1)).toNat) default),(za a0 (a1.length:Int)).2)
namespace N97
theorem DD:DOk Tryz.prog (Go.Ab.DD [(95,dM [true,false] D_za)]):=ya ytc.e <| yb _
theorem dn:type_of% (@D_za.eq_1):=by and_intros<;>intros<;>rfl
theorem o1 {p:Prop} (h:p:=by(first|(refine SrcOk.mono (by repeat' first|assumption|exact SrcOk.next ‹_› | apply SrcOk.next|apply SrcOk.pick|apply SrcOk.among|apply SrcOk.text|apply SrcOk.name|apply SrcOk.drawName|apply SrcOk.word|apply SrcOk.entry|apply SrcOk.base|omega) (by omega)));first|done|fail):p:=h
theorem den (a0:l00Src) (a1:(List Int)) (hp0:SrcOk 800000 a0) (hp1:1<=a1.length):DenM Tryz.prog 97 [.op (yi a0),ownL 2 1 yq a1] (.int .i64 ((zb a0 a1).1)) [(.op (yi ((zb a0 a1).2))),.any]:=by
 generalize hR:zb a0 a1=r;unfold zb at hR;refine dj (gb:=[true,false]) Tryz.func97 Tryz.ntmps97 Tryz.results97 ?_;intro c hL hc hk;obtain⟨hL0,hL1,_⟩:=hL;have hw0:bwl00Src a0:=y6 a0 hL0;have hw1:a1.length<9223372036854775808:=Nat.lt_succ_of_le (ypi hL1).1;clear hL0 hL1;simp only[adEL,adE,adRL,adR,ownL,encL,sv,List.nil_append,List.append_nil,List.cons_append,List.length_cons,List.length_nil,pars,Nat.zero_add,Nat.reduceAdd]at hk ⊢;have hr:=yd (a1.length:Int) hp0 (by omega);iterate 2 refine rS ?_
 refine AWP.ret ?_;subst hR;exact es
end N97
def D_zb : List AV -> Option (AV × List AV × List Prop)
 | [x0,x1]=>some (.int .i64 ((zb (rdQ yj x0) (rdL ydb x1)).1),[(.op (yi ((zb (rdQ yj x0) (rdL ydb x1)).2))),.any],[wQ yi yj x0,wO 2 1 yq ydb x1,SrcOk 800000 (rdQ yj x0),1<=(rdL ydb x1).length])
 | _=>none
theorem y6e:OkM Tryz.prog 97 D_zb:=by unfold D_zb;exact dm N97.den
theorem SrcOk.among {n:Int} {s:l00Src} {l} (h:SrcOk n s) (hn:n<=2000000000):SrcOk (n+2) (zb s l).2:=by
 unfold zb;exact h.pick hn
def zg (a0:l00Src) (a1:Int):Bool×l00Src:=
 ((((za a0 a1).1) == 0),(za a0 a1).2)
namespace N99
theorem DD:DOk Tryz.prog (Go.Ab.DD [(95,dM [true,false] D_za)]):=ya ytc.e <| yb _
theorem dn:type_of% (@D_za.eq_1):=by and_intros<;>intros<;>rfl
theorem o1 {p:Prop} (h:p:=by(first|(refine SrcOk.mono (by repeat' first|assumption|exact SrcOk.next ‹_› | apply SrcOk.next|apply SrcOk.pick|apply SrcOk.among|apply SrcOk.text|apply SrcOk.name|apply SrcOk.drawName|apply SrcOk.word|apply SrcOk.entry|apply SrcOk.base|omega) (by omega)));first|done|fail):p:=h
theorem den (a0:l00Src) (a1:Int) (hp0:SrcOk 800000 a0):DenM Tryz.prog 99 [.op (yi a0),.int .i64 a1] (.bool ((zg a0 a1).1)) [(.op (yi ((zg a0 a1).2))),.any]:=by
 generalize hR:zg a0 a1=r;unfold zg at hR;refine dj (gb:=[true,false]) Tryz.func99 Tryz.ntmps99 Tryz.results99 ?_;intro c hL hc hk;obtain⟨hL0,hL1,_⟩:=hL;have hw0:bwl00Src a0:=y6 a0 hL0;clear hL0 hL1;simp only[adEL,adE,adRL,adR,ownL,encL,sv,List.nil_append,List.append_nil,List.cons_append,List.length_cons,List.length_nil,pars,Nat.zero_add,Nat.reduceAdd]at hk ⊢;iterate 2 refine rS ?_
 refine AWP.ret ?_;subst hR;exact es
end N99
def D_zg : List AV -> Option (AV × List AV × List Prop)
 | [x0,x1]=>some (.bool ((zg (rdQ yj x0) (rdI x1)).1),[(.op (yi ((zg (rdQ yj x0) (rdI x1)).2))),.any],[wQ yi yj x0,wI .i64 x1,SrcOk 800000 (rdQ yj x0)])
 | _=>none
theorem y4d:OkM Tryz.prog 99 D_zg:=by unfold D_zg;exact dm N99.den
theorem SrcOk.one {n:Int} {s:l00Src} {m:Int} (h:SrcOk n s) (hn:n<=2000000000):SrcOk (n+2) (zg s m).2:=by
 unfold zg;exact h.pick hn
def zn (a0:l00Src) (a1:(List (List UInt8))):(List UInt8)×l00Src:=
 ((a1.getD ((((za a0 (a1.length:Int)).1)).toNat) default),(za a0 (a1.length:Int)).2)
namespace N96
theorem DD:DOk Tryz.prog (Go.Ab.DD [(95,dM [true,false] D_za)]):=ya ytc.e <| yb _
theorem dn:type_of% (@D_za.eq_1):=by and_intros<;>intros<;>rfl
theorem o1 {p:Prop} (h:p:=by(first|(refine SrcOk.mono (by repeat' first|assumption|exact SrcOk.next ‹_› | apply SrcOk.next|apply SrcOk.pick|apply SrcOk.among|apply SrcOk.text|apply SrcOk.name|apply SrcOk.drawName|apply SrcOk.word|apply SrcOk.entry|apply SrcOk.base|omega) (by omega)));first|done|fail):p:=h
theorem den (a0:l00Src) (a1:(List (List UInt8))) (hp0:SrcOk 800000 a0) (hp1:1<=a1.length):DenM Tryz.prog 96 [.op (yi a0),ownL 9 1 eS a1] (.str ((zn a0 a1).1)) [(.op (yi ((zn a0 a1).2))),.any]:=by
 generalize hR:zn a0 a1=r;unfold zn at hR;refine dj (gb:=[true,false]) Tryz.func96 Tryz.ntmps96 Tryz.results96 ?_;intro c hL hc hk;obtain⟨hL0,hL1,_⟩:=hL;have hw0:bwl00Src a0:=y6 a0 hL0;have hw1:a1.length<9223372036854775808:=Nat.lt_succ_of_le (ypi hL1).1;have hw2:∀ v∈a1,bwS v:=fun v hv=>y7p v ((ypi hL1).2 v hv)
 clear hL0 hL1;simp only[adEL,adE,adRL,adR,ownL,encL,sv,List.nil_append,List.append_nil,List.cons_append,List.length_cons,List.length_nil,pars,Nat.zero_add,Nat.reduceAdd]at hk ⊢;have hr:=yd (a1.length:Int) hp0 (by omega);iterate 2 refine rS ?_
 refine AWP.ret ?_;subst hR;exact es
end N96
def D_zn : List AV -> Option (AV × List AV × List Prop)
 | [x0,x1]=>some (.str ((zn (rdQ yj x0) (rdL dS x1)).1),[(.op (yi ((zn (rdQ yj x0) (rdL dS x1)).2))),.any],[wQ yi yj x0,wO 9 1 eS dS x1,SrcOk 800000 (rdQ yj x0),1<=(rdL dS x1).length])
 | _=>none
theorem yfi:OkM Tryz.prog 96 D_zn:=by unfold D_zn;exact dm N96.den
theorem SrcOk.text {n:Int} {s:l00Src} {l} (h:SrcOk n s) (hn:n<=2000000000):SrcOk (n+2) (zn s l).2:=by
 unfold zn;exact h.pick hn
def zd (a0:l00Src):(List UInt8)×l00Src:=
 (((zn a0 ([[87],[87],[82],[71],[89],[87,82],[82,71],[87,82,71],[87,71]]:List (List UInt8))).1),(zn a0 ([[87],[87],[82],[71],[89],[87,82],[82,71],[87,82,71],[87,71]]:List (List UInt8))).2)
namespace N249
theorem DD:DOk Tryz.prog (Go.Ab.DD [(96,dM [true,true] D_zn)]):=ya yfi.e <| yb _
theorem dn:type_of% (@D_zn.eq_1):=by and_intros<;>intros<;>rfl
theorem o1 {p:Prop} (h:p:=by(first|(refine SrcOk.mono (by repeat' first|assumption|exact SrcOk.next ‹_› | apply SrcOk.next|apply SrcOk.pick|apply SrcOk.one|apply SrcOk.among|apply SrcOk.text|apply SrcOk.colors|apply SrcOk.point|apply SrcOk.chr|apply SrcOk.sectors|apply SrcOk.aid|apply SrcOk.aids|apply SrcOk.notice|omega) (by omega)));first|done|fail):p:=h
theorem lx {p:Prop} (h:p:=by(exact lxx);first|done|fail):p:=h
set_option maxHeartbeats 2000000 in
set_option maxRecDepth 20000 in
theorem den (a0:l00Src) (hp0:SrcOk 700000 a0):DenM Tryz.prog 249 [.op (yi a0)] (.str ((zd a0).1)) [(.op (yi ((zd a0).2)))]:=by
 generalize hR:zd a0=r;unfold zd at hR;refine dj (gb:=[true]) Tryz.func249 Tryz.ntmps249 Tryz.results249 ?_;intro c hL hc hk;obtain⟨hL0,_⟩:=hL;have hw0:bwl00Src a0:=y6 a0 hL0;clear hL0;simp only[adEL,adE,adRL,adR,ownL,encL,sv,List.nil_append,List.append_nil,List.cons_append,List.length_cons,List.length_nil,pars,Nat.zero_add,Nat.reduceAdd]at hk ⊢;iterate 2 refine rS ?_
 refine AWP.ret ?_;subst hR;exact es
end N249
def D_zd : List AV -> Option (AV × List AV × List Prop)
 | [x0]=>some (.str ((zd (rdQ yj x0)).1),[(.op (yi ((zd (rdQ yj x0)).2)))],[wQ yi yj x0,SrcOk 700000 (rdQ yj x0)])
 | _=>none
theorem yfz:OkM Tryz.prog 249 D_zd:=by unfold D_zd;exact dm N249.den
theorem SrcOk.colors {n:Int} {s:l00Src} (h:SrcOk n s) (hn:n<=2000000000):SrcOk (n+2) (zd s).2:=by
 unfold zd;exact h.text hn
def zdg (a0:Aid):Bool:=
 (a0.Light.Kind != 0)
def zl (a0:Int) (a1:Int):Int:=
 (bif decide (a0<a1)then a0 else a1)
namespace N250
theorem DD:DOk Tryz.prog (Go.Ab.DD []):=yb _
theorem den (a0:Int) (a1:Int)  : Den Tryz.prog 250 [.int .i64 a0,.int .i64 a1] (.int .i64 (zl a0 a1)):=by
 generalize hR:zl a0 a1=r;unfold zl at hR;refine di Tryz.func250 Tryz.ntmps250 Tryz.results250 ?_;intro c hL hc hk;clear hL;simp only[pars,Nat.zero_add];iterate 2 refine rS ?_
 refine AWP.cond rfl (fun hb => ?_) (fun hb => ?_)
 ·replace hR:=ct hR
  refine rS ?_;refine AWP.ret ?_;subst hR;exact es
 ·replace hR:=cf hR
  refine rS ?_;refine AWP.ret ?_;subst hR;exact es
end N250
def D_zl : DF
 | [x0,x1]=>some (.int .i64 (zl (rdI x0) (rdI x1)),false,[wI .i64 x0,wI .i64 x1])
 | _=>none
theorem y4z:OkD Tryz.prog 250 D_zl:=by unfold D_zl;exact dk N250.den
def zx (a0:l00Src):Point×l00Src:=
 (bnd ((zb a0 ([20,100,100,100]:List Int)).2) fun q2=>(bnd ((za q2 ((zb a0 ([20,100,100,100]:List Int)).1)).2) fun q4=>(bnd ((za q4 ((zb a0 ([20,100,100,100]:List Int)).1)).2) fun q6=>(bnd ((zg q6 3).2) fun q8=>(bif ((zg q6 3).1)then(bnd ((za q8 200).2) fun q10=>(bnd ((zg q10 3).2) fun q12=>(bif ((zg q10 3).1)then(bnd ((za q12 200).2) fun q14=>({ X:=IntKind.wrap .i64 ((IntKind.wrap .i64 (10000+(IntKind.wrap .i64 (((za q2 ((zb a0 ([20,100,100,100]:List Int)).1)).1) * 100))))+((za q8 200).1)),Y:=IntKind.wrap .i64 ((IntKind.wrap .i64 (10000+(IntKind.wrap .i64 (((za q4 ((zb a0 ([20,100,100,100]:List Int)).1)).1) * 100))))+((za q12 200).1)):Point },q14))else({ X:=IntKind.wrap .i64 ((IntKind.wrap .i64 (10000+(IntKind.wrap .i64 (((za q2 ((zb a0 ([20,100,100,100]:List Int)).1)).1) * 100))))+((za q8 200).1)),Y:=IntKind.wrap .i64 (10000+(IntKind.wrap .i64 (((za q4 ((zb a0 ([20,100,100,100]:List Int)).1)).1) * 100))):Point },q12))))else(bnd ((zg q8 3).2) fun q16=>(bif ((zg q8 3).1)then(bnd ((za q16 200).2) fun q18=>({ X:=IntKind.wrap .i64 (10000+(IntKind.wrap .i64 (((za q2 ((zb a0 ([20,100,100,100]:List Int)).1)).1) * 100))),Y:=IntKind.wrap .i64 ((IntKind.wrap .i64 (10000+(IntKind.wrap .i64 (((za q4 ((zb a0 ([20,100,100,100]:List Int)).1)).1) * 100))))+((za q16 200).1)):Point },q18))else({ X:=IntKind.wrap .i64 (10000+(IntKind.wrap .i64 (((za q2 ((zb a0 ([20,100,100,100]:List Int)).1)).1) * 100))),Y:=IntKind.wrap .i64 (10000+(IntKind.wrap .i64 (((za q4 ((zb a0 ([20,100,100,100]:List Int)).1)).1) * 100))):Point },q16))))))))
namespace N98
theorem DD:DOk Tryz.prog (Go.Ab.DD [(95,dM [true,false] D_za),(97,dM [true,true] D_zb),(99,dM [true,false] D_zg)]):=ya ytc.e <| ya y6e.e <| ya y4d.e <| yb _
theorem dn:type_of% (And.intro @D_za.eq_1 <| And.intro @D_zb.eq_1 <| @D_zg.eq_1):=by and_intros<;>intros<;>rfl
theorem o1 {p:Prop} (h:p:=by(first|(refine SrcOk.mono (by repeat' first|assumption|exact SrcOk.next ‹_› | apply SrcOk.next|apply SrcOk.pick|apply SrcOk.one|apply SrcOk.among|apply SrcOk.text|apply SrcOk.colors|apply SrcOk.point|apply SrcOk.chr|apply SrcOk.sectors|apply SrcOk.aid|apply SrcOk.aids|apply SrcOk.notice|omega) (by omega)));first|done|fail):p:=h
theorem lx {p:Prop} (h:p:=by(exact lxx);first|done|fail):p:=h
set_option maxHeartbeats 2000000 in
set_option maxRecDepth 20000 in
theorem den (a0:l00Src) (hp0:SrcOk 700000 a0):DenM Tryz.prog 98 [.op (yi a0)] (.agg (yx ((zx a0).1))) [(.op (yi ((zx a0).2)))]:=by
 generalize hR:zx a0=r;unfold zx at hR;refine dj (gb:=[true]) Tryz.func98 Tryz.ntmps98 Tryz.results98 ?_;intro c hL hc hk;obtain⟨hL0,_⟩:=hL;have hw0:bwl00Src a0:=y6 a0 hL0;clear hL0;simp only[adEL,adE,adRL,adR,ownL,encL,sv,List.nil_append,List.append_nil,List.cons_append,List.length_cons,List.length_nil,pars,Nat.zero_add,Nat.reduceAdd]at hk ⊢;iterate 2 refine rS ?_
 generalize hq2:(zb a0 ([20,100,100,100]:List Int)).2=q2 at hR ⊢;replace hR:=bn hR;have hS_q2:SrcOk (700002) q2:=by rw[<- hq2];exact SrcOk.among hp0 (by omega)
 refine rS ?_;generalize hq4:(za q2 ((zb a0 ([20,100,100,100]:List Int)).1)).2=q4 at hR ⊢;replace hR:=bn hR;have hS_q4:SrcOk (700004) q4:=by rw[<- hq4];exact SrcOk.pick hS_q2 (by omega)
 refine rS ?_;generalize hq6:(za q4 ((zb a0 ([20,100,100,100]:List Int)).1)).2=q6 at hR ⊢;replace hR:=bn hR;have hS_q6:SrcOk (700006) q6:=by rw[<- hq6];exact SrcOk.pick hS_q4 (by omega)
 refine rS ?_;generalize hq8:(zg q6 3).2=q8 at hR ⊢;replace hR:=bn hR;have hS_q8:SrcOk (700008) q8:=by rw[<- hq8];exact SrcOk.one hS_q6 (by omega)
 refine AWP.cond rfl (fun hb => ?_) (fun hb => ?_)
 ·replace hR:=ct hR
  refine rS ?_;generalize hq10:(za q8 200).2=q10 at hR ⊢;replace hR:=bn hR;have hS_q10:SrcOk (700010) q10:=by rw[<- hq10];exact SrcOk.pick hS_q8 (by omega)
  refine rS ?_;generalize hq12:(zg q10 3).2=q12 at hR ⊢;replace hR:=bn hR;have hS_q12:SrcOk (700012) q12:=by rw[<- hq12];exact SrcOk.one hS_q10 (by omega)
  refine AWP.cond rfl (fun hb => ?_) (fun hb => ?_)
  ·replace hR:=ct hR
   refine rS ?_;generalize hq14:(za q12 200).2=q14 at hR ⊢;replace hR:=bn hR;have hS_q14:SrcOk (700014) q14:=by rw[<- hq14];exact SrcOk.pick hS_q12 (by omega)
   refine rS ?_;refine AWP.ret ?_;subst hR;exact es
  ·replace hR:=cf hR
   refine rS ?_;refine AWP.ret ?_;subst hR;exact es
 ·replace hR:=cf hR
  refine rS ?_;generalize hq16:(zg q8 3).2=q16 at hR ⊢;replace hR:=bn hR;have hS_q16:SrcOk (700010) q16:=by rw[<- hq16];exact SrcOk.one hS_q8 (by omega)
  refine AWP.cond rfl (fun hb => ?_) (fun hb => ?_)
  ·replace hR:=ct hR
   refine rS ?_;generalize hq18:(za q16 200).2=q18 at hR ⊢;replace hR:=bn hR;have hS_q18:SrcOk (700012) q18:=by rw[<- hq18];exact SrcOk.pick hS_q16 (by omega)
   refine rS ?_;refine AWP.ret ?_;subst hR;exact es
  ·replace hR:=cf hR
   refine rS ?_;refine AWP.ret ?_;subst hR;exact es
end N98
def D_zx : List AV -> Option (AV × List AV × List Prop)
 | [x0]=>some (.agg (yx ((zx (rdQ yj x0)).1)),[(.op (yi ((zx (rdQ yj x0)).2)))],[wQ yi yj x0,SrcOk 700000 (rdQ yj x0)])
 | _=>none
theorem yno:OkM Tryz.prog 98 D_zx:=by unfold D_zx;exact dm N98.den
def zr (a0:l00Src) (a1:Danger):Danger×l00Src:=
 (bnd ((za a0 20).2) fun q2=>(bif (((za a0 20).1) == 0)then(bnd ((zn q2 [[],[82,101,101,102]]).2) fun q4=>({ Name:=((zn q2 [[],[82,101,101,102]]).1),At:=a1.At,Radius:=a1.Radius:Danger },q4))else(bif (((za a0 20).1) == 1)then(bnd ((zb q2 ([(-1),0,200000,200001]:List Int)).2) fun q6=>({ Name:=a1.Name,At:={ X:=a1.At.X,Y:=((zb q2 ([(-1),0,200000,200001]:List Int)).1):Point },Radius:=a1.Radius:Danger },q6))else(bif (((za a0 20).1) == 2)then(bnd ((zb q2 ([0,20000,20001]:List Int)).2) fun q8=>({ Name:=a1.Name,At:=a1.At,Radius:=((zb q2 ([0,20000,20001]:List Int)).1):Danger },q8))else(a1,q2)))))
namespace N44
theorem DD:DOk Tryz.prog (Go.Ab.DD [(95,dM [true,false] D_za),(96,dM [true,true] D_zn),(97,dM [true,true] D_zb)]):=ya ytc.e <| ya yfi.e <| ya y6e.e <| yb _
theorem dn:type_of% (And.intro @D_za.eq_1 <| And.intro @D_zn.eq_1 <| @D_zb.eq_1):=by and_intros<;>intros<;>rfl
theorem o1 {p:Prop} (h:p:=by(first|(refine SrcOk.mono (by repeat' first|assumption|exact SrcOk.next ‹_› | apply SrcOk.next|apply SrcOk.pick|apply SrcOk.one|apply SrcOk.among|apply SrcOk.text|apply SrcOk.colors|apply SrcOk.point|apply SrcOk.chr|apply SrcOk.sectors|apply SrcOk.aid|apply SrcOk.aids|apply SrcOk.notice|omega) (by omega))|(exact(yd _ (by assumption) (by omega)).1)|(exact(yd _ (by assumption) (by omega)).2 (by omega))|(rename_i h9;simp only[beq_eq_false_iff_ne,ne_eq]at h9;exact(yd _ (by assumption) (by omega)).2 (by omega))|(rename_i h9;replace h9:=of_decide_eq_true h9;exact(yd _ (by assumption) (by omega)).2 (by omega)));first|done|fail):p:=h
theorem lx {p:Prop} (h:p:=by(exact lxx);first|done|fail):p:=h
set_option maxHeartbeats 2000000 in
set_option maxRecDepth 20000 in
theorem den (a0:l00Src) (a1:Danger) (hp0:SrcOk 600000 a0):DenM Tryz.prog 44 [.op (yi a0),.agg (yr a1)] (.agg (yr ((zr a0 a1).1))) [(.op (yi ((zr a0 a1).2))),.any]:=by
 generalize hR:zr a0 a1=r;unfold zr at hR;refine dj (gb:=[true,false]) Tryz.func44 Tryz.ntmps44 Tryz.results44 ?_;intro c hL hc hk;obtain⟨hL0,hL1,_⟩:=hL;have hw0:bwl00Src a0:=y6 a0 hL0;have hw1:bwDanger a1:=y5 a1 hL1;clear hL0 hL1;simp only[adEL,adE,adRL,adR,ownL,encL,sv,List.nil_append,List.append_nil,List.cons_append,List.length_cons,List.length_nil,pars,Nat.zero_add,Nat.reduceAdd]at hk ⊢;iterate 2 refine rS ?_
 generalize hq2:(za a0 20).2=q2 at hR ⊢;replace hR:=bn hR;have hS_q2:SrcOk (600002) q2:=by rw[<- hq2];exact SrcOk.pick hp0 (by omega)
 refine rS ?_;refine AWP.cond rfl (fun hb => ?_) (fun hb => ?_)
 ·replace hR:=ct hR
  refine rS ?_;generalize hq4:(zn q2 [[],[82,101,101,102]]).2=q4 at hR ⊢;replace hR:=bn hR;have hS_q4:SrcOk (600004) q4:=by rw[<- hq4];exact SrcOk.text hS_q2 (by omega)
  refine rS ?_;refine AWP.ret ?_;subst hR;exact es
 ·replace hR:=cf hR
  refine rS ?_;refine AWP.cond rfl (fun hb => ?_) (fun hb => ?_)
  ·replace hR:=ct hR
   refine rS ?_;generalize hq6:(zb q2 ([(-1),0,200000,200001]:List Int)).2=q6 at hR ⊢;replace hR:=bn hR;have hS_q6:SrcOk (600004) q6:=by rw[<- hq6];exact SrcOk.among hS_q2 (by omega)
   refine rS ?_;refine AWP.ret ?_;subst hR;exact es
  ·replace hR:=cf hR
   refine rS ?_;refine AWP.cond rfl (fun hb => ?_) (fun hb => ?_)
   ·replace hR:=ct hR
    refine rS ?_;generalize hq8:(zb q2 ([0,20000,20001]:List Int)).2=q8 at hR ⊢;replace hR:=bn hR;have hS_q8:SrcOk (600004) q8:=by rw[<- hq8];exact SrcOk.among hS_q2 (by omega)
    refine rS ?_;refine AWP.ret ?_;subst hR;exact es
   ·replace hR:=cf hR
    refine rS ?_;refine AWP.ret ?_;subst hR;exact es
end N44
def D_zr : List AV -> Option (AV × List AV × List Prop)
 | [x0,x1]=>some (.agg (yr ((zr (rdQ yj x0) (rdG yu x1)).1)),[(.op (yi ((zr (rdQ yj x0) (rdG yu x1)).2))),.any],[wQ yi yj x0,wG yr yu x1,SrcOk 600000 (rdQ yj x0)])
 | _=>none
theorem y6t:OkM Tryz.prog 44 D_zr:=by unfold D_zr;exact dm N44.den
def ypo (a0:l00Src) (q2:l00Src) (q8:l00Src) (q10:l00Src) (s1:Int×Int×l00Src×List Sector):Except (Sum ((List Sector)×l00Src) (Int×Int×l00Src×List Sector)) (Int×Int×l00Src×List Sector):=
 (bif decide (0<s1.2.1)then(bnd ((za s1.2.2.1 70).2) fun q20=>(bif (decide ((IntKind.wrap .i64 (((za q2 60).1)+360))<(IntKind.wrap .i64 (s1.1+(IntKind.wrap .i64 (((za s1.2.2.1 70).1)+1))))) || decide (359<s1.1))then .error (.inr (s1.1,s1.2.1,q20,s1.2.2.2))else(bnd ((zn q20 [[87],[82],[71],[89]]).2) fun q22=>(bnd ((zg q22 2).2) fun q24=>(bif ((zg q22 2).1)then(bnd ((za q24 40).2) fun q26=>.ok (IntKind.wrap .i64 ((IntKind.wrap .i64 (s1.1+(IntKind.wrap .i64 (((za s1.2.2.1 70).1)+1))))+((za q24 40).1)),IntKind.wrap .i64 (s1.2.1-1),q26,s1.2.2.2++[{ From:=s1.1,To:=(IntKind.wrap .i64 (s1.1+(IntKind.wrap .i64 (((za s1.2.2.1 70).1)+1)))).tmod 360,Color:=((zn q20 [[87],[82],[71],[89]]).1):Sector }]))else .ok (IntKind.wrap .i64 (s1.1+(IntKind.wrap .i64 (((za s1.2.2.1 70).1)+1))),IntKind.wrap .i64 (s1.2.1-1),q24,s1.2.2.2++[{ From:=s1.1,To:=(IntKind.wrap .i64 (s1.1+(IntKind.wrap .i64 (((za s1.2.2.1 70).1)+1)))).tmod 360,Color:=((zn q20 [[87],[82],[71],[89]]).1):Sector }]))))))else .error (.inr (s1.1,s1.2.1,s1.2.2.1,s1.2.2.2)))
def zt (a0:l00Src):(List Sector)×l00Src:=
 (bnd ((za a0 6).2) fun q2=>(bif (((za a0 6).1) == 0)then(([]:List Sector),q2)else(bif (((za a0 6).1) == 1)then(bnd ((za q2 360).2) fun q4=>(bnd ((zn q4 [[87],[82],[71],[89]]).2) fun q6=>([{ From:=((za q2 360).1),To:=((za q2 360).1),Color:=((zn q4 [[87],[82],[71],[89]]).1):Sector }],q6)))else(bnd ((za q2 60).2) fun q8=>(bnd ((za q8 5).2) fun q10=>(match ymb (ypo a0 q2 q8 q10) ((((IntKind.wrap .i64 (((za q8 5).1)+1))).toNat)+1) (((za q2 60).1),IntKind.wrap .i64 (((za q8 5).1)+1),q10,([]:List Sector))with|.error (.inl e)=>e|.error (.inr s1)=>(s1.2.2.2,s1.2.2.1)|.ok _=>default))))))
namespace N196
theorem DD:DOk Tryz.prog (Go.Ab.DD [(95,dM [true,false] D_za),(96,dM [true,true] D_zn),(99,dM [true,false] D_zg)]):=ya ytc.e <| ya yfi.e <| ya y4d.e <| yb _
theorem dn:type_of% (And.intro @D_za.eq_1 <| And.intro @D_zn.eq_1 <| @D_zg.eq_1):=by and_intros<;>intros<;>rfl
theorem o1 {p:Prop} (h:p:=by(first|(refine SrcOk.mono (by repeat' first|assumption|exact SrcOk.next ‹_› | apply SrcOk.next|apply SrcOk.pick|apply SrcOk.one|apply SrcOk.among|apply SrcOk.text|apply SrcOk.colors|apply SrcOk.point|apply SrcOk.chr|apply SrcOk.sectors|apply SrcOk.aid|apply SrcOk.aids|apply SrcOk.notice|omega) (by omega))|(exact SrcOk.mono hW1.2.2.1 (by omega)));first|done|fail):p:=h
theorem o2 {p:Prop} (h:p:=by(first|((repeat' with_reducible apply And.intro)<;>first|(simp only[List.length_append,List.length_singleton];(first|done|fail))|(rw[IntKind.wrap_i64];omega)|(intro j hj;by_cases hji:j<s1.2.2.2.length;(focus(simp only[yek hji,ydr hji,cond_true];first|(first|done|fail)|with_reducible rfl));(have e0:j-s1.2.2.2.length=0:=by omega);(simp only[yej hji hj,yir hji,cond_false,e0,elt,borrowL,borrow];first|(first|done|fail)|with_reducible rfl))|decide));first|done|fail):p:=h
theorem lx {p:Prop} (h:p:=by(exact lxx);first|done|fail):p:=h
set_option maxHeartbeats 2000000 in
set_option maxRecDepth 20000 in
theorem den (a0:l00Src) (hp0:SrcOk 600000 a0):DenM Tryz.prog 196 [.op (yi a0)] (ownL 165 3 yw ((zt a0).1)) [(.op (yi ((zt a0).2)))]:=by
 generalize hR:zt a0=r;unfold zt at hR;refine dj (gb:=[true]) Tryz.func196 Tryz.ntmps196 Tryz.results196 ?_;intro c hL hc hk;obtain⟨hL0,_⟩:=hL;have hw0:bwl00Src a0:=y6 a0 hL0;clear hL0;simp only[adEL,adE,adRL,adR,ownL,encL,sv,List.nil_append,List.append_nil,List.cons_append,List.length_cons,List.length_nil,pars,Nat.zero_add,Nat.reduceAdd]at hk ⊢;iterate 3 refine rS ?_
 generalize hq2:(za a0 6).2=q2 at hR ⊢;replace hR:=bn hR;have hS_q2:SrcOk (600002) q2:=by rw[<- hq2];exact SrcOk.pick hp0 (by omega)
 refine rS ?_;refine AWP.cond rfl (fun hb => ?_) (fun hb => ?_)
 ·replace hR:=ct hR
  refine rS ?_;refine AWP.ret ?_;subst hR;exact es
 ·replace hR:=cf hR
  refine rS ?_;refine AWP.cond rfl (fun hb => ?_) (fun hb => ?_)
  ·replace hR:=ct hR
   refine rS ?_;generalize hq4:(za q2 360).2=q4 at hR ⊢;replace hR:=bn hR;have hS_q4:SrcOk (600004) q4:=by rw[<- hq4];exact SrcOk.pick hS_q2 (by omega)
   refine rS ?_;generalize hq6:(zn q4 [[87],[82],[71],[89]]).2=q6 at hR ⊢;replace hR:=bn hR;have hS_q6:SrcOk (600006) q6:=by rw[<- hq6];exact SrcOk.text hS_q4 (by omega)
   refine AWP.ret ?_;subst hR;exact es
  ·replace hR:=cf hR
   refine rS ?_;generalize hq8:(za q2 60).2=q8 at hR ⊢;replace hR:=bn hR;have hS_q8:SrcOk (600004) q8:=by rw[<- hq8];exact SrcOk.pick hS_q2 (by omega)
   iterate 2 refine rS ?_
   generalize hq10:(za q8 5).2=q10 at hR ⊢;replace hR:=bn hR;have hS_q10:SrcOk (600006) q10:=by rw[<- hq10];exact SrcOk.pick hS_q8 (by omega)
   refine AWP.block ?_;generalize hz1:ymb (ypo a0 q2 q8 q10) ((((IntKind.wrap .i64 (((za q8 5).1)+1))).toNat)+1) (((za q2 60).1),IntKind.wrap .i64 (((za q8 5).1)+1),q10,([]:List Sector))=z1 at hR;refine AWP.whileW (ypo a0 q2 q8 q10) (fun s1=>⟨[(0,.ptr 0 0),(3,.ref 1 3 0 s1.2.2.2.length),(5,.int .i64 s1.1),(6,.int .i64 ((za q2 60).1)),(7,.int .i64 s1.2.1)],[.box [encL 1 eIu8 s1.2.2.1.code,.int .i64 s1.2.2.1.at_,.int .u64 s1.2.2.1.seed],.arr 165 3 s1.2.2.2.length (fun j=>yw (s1.2.2.2.getD j default))]⟩) (fun s1=>0<=s1.2.1/\s1.2.1<=5/\SrcOk (600040+20 * (5-s1.2.1)) s1.2.2.1/\s1.2.2.2.length<=(5-s1.2.1).toNat) (fun s1=>(s1.2.1).toNat) ((((IntKind.wrap .i64 (((za q8 5).1)+1))).toNat)+1) (((za q2 60).1),IntKind.wrap .i64 (((za q8 5).1)+1),q10,([]:List Sector)) [0,1] hz1 m0 (by(have h2:=yd 5 hS_q8 (by omega);have h3:=h2.2 (by omega);have hwr:IntKind.wrap .i64 (((za q8 5).1)+1)=((za q8 5).1)+1:=(by rw[IntKind.wrap_i64];omega);simp only[hwr];exact⟨by omega,by omega,SrcOk.mono (by assumption) (by omega),by simp⟩)) sm ?_;clear hz1;intro s1 k1 hW1 hm1 hz1;simp only[ypo]at hz1;refine rS ?_;refine AWP.cond rfl (fun hb => ?_) (fun hb => ?_)
   ·simp only[hb,cond_true]at hz1
    refine rS ?_;generalize hq20:(za s1.2.2.1 70).2=q20 at hz1 ⊢;rw[bndv q20]at hz1;have hS_q20:SrcOk (600040+20 * (5-s1.2.1)+2) q20:=by rw[<- hq20];exact SrcOk.pick hW1.2.2.1 (by omega)
    refine rS ?_;refine AWP.cond rfl (fun hb => ?_) (fun hb => ?_)
    ·simp only[hb,cond_true]at hz1
     refine AWP.exit ?_;refine ymg rfl ?_;refine yc ?_;subst hz1;dsimp only at hR;refine rS ?_;refine AWP.ret ?_;subst hR;exact es
    ·simp only[hb,cond_false]at hz1
     iterate 2 refine rS ?_
     generalize hq22:(zn q20 [[87],[82],[71],[89]]).2=q22 at hz1 ⊢;rw[bndv q22]at hz1;have hS_q22:SrcOk (600040+20 * (5-s1.2.1)+2+2) q22:=by rw[<- hq22];exact SrcOk.text hS_q20 (by omega)
     iterate 3 refine rS ?_
     generalize hq24:(zg q22 2).2=q24 at hz1 ⊢;rw[bndv q24]at hz1;have hS_q24:SrcOk (600040+20 * (5-s1.2.1)+2+2+2) q24:=by rw[<- hq24];exact SrcOk.one hS_q22 (by omega)
     refine AWP.cond rfl (fun hb => ?_) (fun hb => ?_)
     ·simp only[hb,cond_true]at hz1
      refine rS ?_;generalize hq26:(za q24 40).2=q26 at hz1 ⊢;rw[bndv q26]at hz1;have hS_q26:SrcOk (600040+20 * (5-s1.2.1)+2+2+2+2) q26:=by rw[<- hq26];exact SrcOk.pick hS_q24 (by omega)
      refine rS ?_;clear hR;exact⟨_,[0,5],by(have hpos:0<s1.2.1:=of_decide_eq_true (by assumption);have hwr:IntKind.wrap .i64 (s1.2.1-1)=s1.2.1-1:=(by rw[IntKind.wrap_i64];omega);(try dsimp only);rw[hwr];omega),by(have hpos:0<s1.2.1:=of_decide_eq_true (by assumption);have hwr:IntKind.wrap .i64 (s1.2.1-1)=s1.2.1-1:=(by rw[IntKind.wrap_i64];omega);(try dsimp only);rw[hwr];have hG:=hW1.2.2.2;exact⟨by omega,by omega,SrcOk.mono (by assumption) (by omega),by simp only[List.length_append,List.length_cons,List.length_nil];omega⟩),hz1,sm⟩
     ·simp only[hb,cond_false]at hz1
      refine rS ?_;clear hR;exact⟨_,[0,5],by(have hpos:0<s1.2.1:=of_decide_eq_true (by assumption);have hwr:IntKind.wrap .i64 (s1.2.1-1)=s1.2.1-1:=(by rw[IntKind.wrap_i64];omega);(try dsimp only);rw[hwr];omega),by(have hpos:0<s1.2.1:=of_decide_eq_true (by assumption);have hwr:IntKind.wrap .i64 (s1.2.1-1)=s1.2.1-1:=(by rw[IntKind.wrap_i64];omega);(try dsimp only);rw[hwr];have hG:=hW1.2.2.2;exact⟨by omega,by omega,SrcOk.mono (by assumption) (by omega),by simp only[List.length_append,List.length_cons,List.length_nil];omega⟩),hz1,sm⟩
   ·simp only[hb,cond_false]at hz1
    refine AWP.exit ?_;refine yc ?_;subst hz1;dsimp only at hR;refine rS ?_;refine AWP.ret ?_;subst hR;exact es
end N196
def D_zt : List AV -> Option (AV × List AV × List Prop)
 | [x0]=>some (ownL 165 3 yw ((zt (rdQ yj x0)).1),[(.op (yi ((zt (rdQ yj x0)).2)))],[wQ yi yj x0,SrcOk 600000 (rdQ yj x0)])
 | _=>none
theorem yyz:OkM Tryz.prog 196 D_zt:=by unfold D_zt;exact dm N196.den
def zqf (a0:Int) (a1:Int):Int:=
 (bif decide (a1<0)then(bif decide ((IntKind.wrap .i64 (0-a0))<0)then IntKind.wrap .i64 (0-(IntKind.wrap .i64 ((IntKind.wrap .i64 ((IntKind.wrap .i64 (0-a1))-(IntKind.wrap .i64 (2 * (IntKind.wrap .i64 (0-a0)))))).tdiv (IntKind.wrap .i64 (2 * (IntKind.wrap .i64 (0-a1)))))))else IntKind.wrap .i64 ((IntKind.wrap .i64 ((IntKind.wrap .i64 (2 * (IntKind.wrap .i64 (0-a0))))+(IntKind.wrap .i64 (0-a1)))).tdiv (IntKind.wrap .i64 (2 * (IntKind.wrap .i64 (0-a1))))))else(bif decide (a0<0)then IntKind.wrap .i64 (0-(IntKind.wrap .i64 ((IntKind.wrap .i64 (a1-(IntKind.wrap .i64 (2 * a0)))).tdiv (IntKind.wrap .i64 (2 * a1)))))else IntKind.wrap .i64 ((IntKind.wrap .i64 ((IntKind.wrap .i64 (2 * a0))+a1)).tdiv (IntKind.wrap .i64 (2 * a1)))))
namespace N263
theorem DD:DOk Tryz.prog (Go.Ab.DD []):=yb _
theorem den (a0:Int) (a1:Int) (hp0:a1=1000000):Den Tryz.prog 263 [.int .i64 a0,.int .i64 a1] (.int .i64 (zqf a0 a1)):=by
 generalize hR:zqf a0 a1=r;unfold zqf at hR;refine di Tryz.func263 Tryz.ntmps263 Tryz.results263 ?_;intro c hL hc hk;clear hL;simp only[pars,Nat.zero_add];iterate 2 refine rS ?_
 refine AWP.cond rfl (fun hb => ?_) (fun hb => ?_)
 ·replace hR:=ct hR
  iterate 3 refine rS ?_
  refine AWP.cond rfl (fun hb => ?_) (fun hb => ?_)
  ·replace hR:=ct hR
   refine rS ?_;refine AWP.ret ?_;subst hR;exact es
  ·replace hR:=cf hR
   refine rS ?_;refine AWP.ret ?_;subst hR;exact es
 ·replace hR:=cf hR
  refine rS ?_;refine AWP.cond rfl (fun hb => ?_) (fun hb => ?_)
  ·replace hR:=ct hR
   refine rS ?_;refine AWP.ret ?_;subst hR;exact es
  ·replace hR:=cf hR
   refine rS ?_;refine AWP.ret ?_;subst hR;exact es
end N263
def D_zqf : DF
 | [x0,x1]=>some (.int .i64 (zqf (rdI x0) (rdI x1)),false,[wI .i64 x0,wI .i64 x1,(rdI x1)=1000000])
 | _=>none
theorem yvx:OkD Tryz.prog 263 D_zqf:=by unfold D_zqf;exact dk N263.den
def zpe (a0:Int):Int:=
 (zsc (zdb ) a0)
namespace N264
theorem DD:DOk Tryz.prog (Go.Ab.DD [(267,dP D_zdb),(268,dP D_zsc)]):=ya ycp.e <| ya yuq.e <| yb _
theorem dn:type_of% (And.intro @D_zdb.eq_1 <| @D_zsc.eq_1):=by and_intros<;>intros<;>rfl
theorem den (a0:Int)  : Den Tryz.prog 264 [.int .i64 a0] (.int .i64 (zpe a0)):=by
 generalize hR:zpe a0=r;unfold zpe at hR;refine di Tryz.func264 Tryz.ntmps264 Tryz.results264 ?_;intro c hL hc hk;clear hL;simp only[pars,Nat.zero_add];iterate 2 refine rS ?_
 refine AWP.ret ?_;subst hR;exact es
end N264
def D_zpe : DF
 | [x0]=>some (.int .i64 (zpe (rdI x0)),false,[wI .i64 x0])
 | _=>none
theorem y8o:OkD Tryz.prog 264 D_zpe:=by unfold D_zpe;exact dk N264.den
def zvf (a0:Int):Int:=
 (zpe (IntKind.wrap .i64 ((zgc a0)+90)))
namespace N265
theorem DD:DOk Tryz.prog (Go.Ab.DD [(264,dP D_zpe),(288,dP D_zgc)]):=ya y8o.e <| ya y3p.e <| yb _
theorem dn:type_of% (And.intro @D_zpe.eq_1 <| @D_zgc.eq_1):=by and_intros<;>intros<;>rfl
theorem den (a0:Int)  : Den Tryz.prog 265 [.int .i64 a0] (.int .i64 (zvf a0)):=by
 generalize hR:zvf a0=r;unfold zvf at hR;refine di Tryz.func265 Tryz.ntmps265 Tryz.results265 ?_;intro c hL hc hk;clear hL;simp only[pars,Nat.zero_add];iterate 2 refine rS ?_
 refine AWP.ret ?_;subst hR;exact es
end N265
def D_zvf : DF
 | [x0]=>some (.int .i64 (zvf (rdI x0)),false,[wI .i64 x0])
 | _=>none
theorem yyv:OkD Tryz.prog 265 D_zvf:=by unfold D_zvf;exact dk N265.den
def zwf (a0:Point) (a1:Int) (a2:Int):Point:=
 { X:=IntKind.wrap .i64 (a0.X+(zqf (IntKind.wrap .i64 (a2 * (zpe a1))) 1000000)),Y:=IntKind.wrap .i64 (a0.Y+(zqf (IntKind.wrap .i64 (a2 * (zvf a1))) 1000000)):Point }
namespace N221
theorem DD:DOk Tryz.prog (Go.Ab.DD [(263,dP D_zqf),(264,dP D_zpe),(265,dP D_zvf)]):=ya yvx.e <| ya y8o.e <| ya yyv.e <| yb _
theorem dn:type_of% (And.intro @D_zqf.eq_1 <| And.intro @D_zpe.eq_1 <| @D_zvf.eq_1):=by and_intros<;>intros<;>rfl
theorem den (a0:Point) (a1:Int) (a2:Int)  : Den Tryz.prog 221 [.agg (yx a0),.int .i64 a1,.int .i64 a2] (.agg (yx (zwf a0 a1 a2))):=by
 generalize hR:zwf a0 a1 a2=r;unfold zwf at hR;refine di Tryz.func221 Tryz.ntmps221 Tryz.results221 ?_;intro c hL hc hk;clear hL;simp only[pars,Nat.zero_add];refine rS ?_;refine rD 16 ?_;refine AWP.ret ?_;subst hR;exact es
end N221
def D_zwf : DF
 | [x0,x1,x2]=>some (.agg (yx (zwf (rdG y7 x0) (rdI x1) (rdI x2))),false,[wG yx y7 x0,wI .i64 x1,wI .i64 x2])
 | _=>none
theorem yxw:OkD Tryz.prog 221 D_zwf:=by unfold D_zwf;exact dk N221.den
def zhc (a0:l00Src):Int×l00Src:=
 (bnd ((zg a0 9).2) fun q2=>(bif ((zg a0 9).1)then(bnd ((zb q2 ([(-1),0,20000,20001]:List Int)).2) fun q4=>(((zb q2 ([(-1),0,20000,20001]:List Int)).1),q4))else(bnd ((za q2 600).2) fun q6=>(((za q2 600).1),q6))))
namespace N46
theorem DD:DOk Tryz.prog (Go.Ab.DD [(95,dM [true,false] D_za),(97,dM [true,true] D_zb),(99,dM [true,false] D_zg)]):=ya ytc.e <| ya y6e.e <| ya y4d.e <| yb _
theorem dn:type_of% (And.intro @D_za.eq_1 <| And.intro @D_zb.eq_1 <| @D_zg.eq_1):=by and_intros<;>intros<;>rfl
theorem o1 {p:Prop} (h:p:=by(first|(refine SrcOk.mono (by repeat' first|assumption|exact SrcOk.next ‹_› | apply SrcOk.next|apply SrcOk.pick|apply SrcOk.one|apply SrcOk.among|apply SrcOk.text|apply SrcOk.colors|apply SrcOk.point|apply SrcOk.chr|apply SrcOk.sectors|apply SrcOk.aid|apply SrcOk.aids|apply SrcOk.notice|omega) (by omega))|(exact(yd _ (by assumption) (by omega)).1)|(exact(yd _ (by assumption) (by omega)).2 (by omega))|(rename_i h9;simp only[beq_eq_false_iff_ne,ne_eq]at h9;exact(yd _ (by assumption) (by omega)).2 (by omega))|(rename_i h9;replace h9:=of_decide_eq_true h9;exact(yd _ (by assumption) (by omega)).2 (by omega)));first|done|fail):p:=h
theorem lx {p:Prop} (h:p:=by(exact lxx);first|done|fail):p:=h
set_option maxHeartbeats 2000000 in
set_option maxRecDepth 20000 in
theorem den (a0:l00Src) (hp0:SrcOk 600000 a0):DenM Tryz.prog 46 [.op (yi a0)] (.int .i64 ((zhc a0).1)) [(.op (yi ((zhc a0).2)))]:=by
 generalize hR:zhc a0=r;unfold zhc at hR;refine dj (gb:=[true]) Tryz.func46 Tryz.ntmps46 Tryz.results46 ?_;intro c hL hc hk;obtain⟨hL0,_⟩:=hL;have hw0:bwl00Src a0:=y6 a0 hL0;clear hL0;simp only[adEL,adE,adRL,adR,ownL,encL,sv,List.nil_append,List.append_nil,List.cons_append,List.length_cons,List.length_nil,pars,Nat.zero_add,Nat.reduceAdd]at hk ⊢;iterate 2 refine rS ?_
 generalize hq2:(zg a0 9).2=q2 at hR ⊢;replace hR:=bn hR;have hS_q2:SrcOk (600002) q2:=by rw[<- hq2];exact SrcOk.one hp0 (by omega)
 refine AWP.cond rfl (fun hb => ?_) (fun hb => ?_)
 ·replace hR:=ct hR
  refine rS ?_;generalize hq4:(zb q2 ([(-1),0,20000,20001]:List Int)).2=q4 at hR ⊢;replace hR:=bn hR;have hS_q4:SrcOk (600004) q4:=by rw[<- hq4];exact SrcOk.among hS_q2 (by omega)
  refine AWP.ret ?_;subst hR;exact es
 ·replace hR:=cf hR
  refine rS ?_;generalize hq6:(za q2 600).2=q6 at hR ⊢;replace hR:=bn hR;have hS_q6:SrcOk (600004) q6:=by rw[<- hq6];exact SrcOk.pick hS_q2 (by omega)
  refine AWP.ret ?_;subst hR;exact es
end N46
def D_zhc : List AV -> Option (AV × List AV × List Prop)
 | [x0]=>some (.int .i64 ((zhc (rdQ yj x0)).1),[(.op (yi ((zhc (rdQ yj x0)).2)))],[wQ yi yj x0,SrcOk 600000 (rdQ yj x0)])
 | _=>none
theorem yip:OkM Tryz.prog 46 D_zhc:=by unfold D_zhc;exact dm N46.den
theorem SrcOk.away {n:Int} {s:l00Src} (h:SrcOk n s) (hn:n<=50000000):SrcOk (n+4) (zhc s).2:=by
 have h1:=h.one (m:=9) (by omega);have h2:=h1.among (l:=([(-1),0,20000,20001]:List Int)) (by omega);have h3:=h1.pick (m:=600) (by omega);unfold zhc;simp only[bnd,Bool.cond_eq_ite]
 (repeat' split)<;>first|exact h2.mono (by omega)|exact h3.mono (by omega)
def yyp (a0:(List Point)) (i1:Nat) (s1:Unit):Except (Bool) (Unit):=
 (bif (!(zeb (a0.getD i1 default)))then .error false else .ok ())
def zje (a0:(List Point)):Bool:=
 (match yh (yyp a0) (a0.length-0) 0 ()with|.error e=>e|.ok s1=>true)
namespace N165
theorem DD:DOk Tryz.prog (Go.Ab.DD [(117,dP D_zeb)]):=ya y1g.e <| yb _
theorem dn:type_of% (@D_zeb.eq_1):=by and_intros<;>intros<;>rfl
theorem den (a0:(List Point))  : Den Tryz.prog 165 [encL 2 yx a0] (.bool (zje a0)):=by
 generalize hR:zje a0=r;unfold zje at hR;refine di Tryz.func165 Tryz.ntmps165 Tryz.results165 ?_;intro c hL hc hk;obtain⟨hL0,_⟩:=hL;have hw0:a0.length<9223372036854775808:=Nat.lt_succ_of_le (yf hL0).1;clear hL0;simp only[pars,Nat.zero_add];iterate 2 refine rS ?_
 refine AWP.block ?_;generalize hz1:yh (yyp a0) (a0.length-0) 0 ()=z1 at hR;refine AWP.range (yyp a0) (fun i1 s1=>⟨[(0,encL 2 yx a0),(3,.int .i64 (i1:Int))],[]⟩) (fun i1 s1=>True) (a0.length) 0 () [] hz1 ot wt sm ?_;clear hz1;intro i1 s1 hi1 hW1 hz1;refine rS ?_;refine AWP.cond rfl (fun hb => ?_) (fun hb => ?_)
 ·have hlt1:i1<a0.length:=ot
  rw[yn hlt1]at hz1;simp only[yyp]at hz1;refine rS ?_;refine AWP.cond rfl (fun hb => ?_) (fun hb => ?_)
  ·simp only[hb,cond_true]at hz1
   refine rS ?_;refine AWP.ret ?_;subst hz1;dsimp only at hR;subst hR;exact es
  ·simp only[hb,cond_false]at hz1
   refine rS ?_;exact⟨_,[],hlt1,wt,hz1,sm⟩
 ·obtain rfl:i1=a0.length:=ot
  rw[yp (Nat.le_refl _)]at hz1;subst hz1;dsimp only at hR;refine AWP.exit ?_;refine yc ?_;refine rS ?_;refine AWP.ret ?_;subst hR;exact es
end N165
def D_zje : DF
 | [x0]=>some (.bool (zje (rdL y7 x0)),false,[wL 2 yx y7 x0])
 | _=>none
theorem y6w:OkD Tryz.prog 165 D_zje:=by unfold D_zje;exact dk N165.den
def ztb (a0:Danger) (a1:Int):((List Point)×Int):=
 (bif (!(zmb a0))then([],1)else(bif (!(zf a1 0 20000))then([],2)else(bif (!(zje [{ X:=a0.At.X,Y:=IntKind.wrap .i64 (a0.At.Y+(IntKind.wrap .i64 (a0.Radius+a1))):Point },{ X:=IntKind.wrap .i64 (a0.At.X+(IntKind.wrap .i64 (a0.Radius+a1))),Y:=a0.At.Y:Point },{ X:=a0.At.X,Y:=IntKind.wrap .i64 (a0.At.Y-(IntKind.wrap .i64 (a0.Radius+a1))):Point },{ X:=IntKind.wrap .i64 (a0.At.X-(IntKind.wrap .i64 (a0.Radius+a1))),Y:=a0.At.Y:Point }]))then([],6)else([{ X:=a0.At.X,Y:=IntKind.wrap .i64 (a0.At.Y+(IntKind.wrap .i64 (a0.Radius+a1))):Point },{ X:=IntKind.wrap .i64 (a0.At.X+(IntKind.wrap .i64 (a0.Radius+a1))),Y:=a0.At.Y:Point },{ X:=a0.At.X,Y:=IntKind.wrap .i64 (a0.At.Y-(IntKind.wrap .i64 (a0.Radius+a1))):Point },{ X:=IntKind.wrap .i64 (a0.At.X-(IntKind.wrap .i64 (a0.Radius+a1))),Y:=a0.At.Y:Point }],0))))
namespace N111
theorem DD:DOk Tryz.prog (Go.Ab.DD [(165,dP D_zje),(79,dP D_zmb),(81,dP D_zf)]):=ya y6w.e <| ya y6o.e <| ya yed.e <| yb _
theorem dn:type_of% (And.intro @D_zje.eq_1 <| And.intro @D_zmb.eq_1 <| @D_zf.eq_1):=by and_intros<;>intros<;>rfl
theorem ol:type_of% (@zf.eq_1):=@zf.eq_1
theorem lx {p:Prop} (h:p:=by(exact lxx);first|done|fail):p:=h
theorem den (a0:Danger) (a1:Int)  : Den Tryz.prog 111 [.agg (yr a0),.int .i64 a1] (.tup [ownL 25 2 yx ((ztb a0 a1).1),.int .i64 ((ztb a0 a1).2)]):=by
 generalize hR:ztb a0 a1=r;unfold ztb at hR;refine di Tryz.func111 Tryz.ntmps111 Tryz.results111 ?_;intro c hL hc hk;obtain⟨hL0,hL1,_⟩:=hL;have hw0:bwDanger a0:=y5 a0 hL0;clear hL0 hL1;simp only[pars,Nat.zero_add];iterate 2 refine rS ?_
 refine AWP.cond rfl (fun hb => ?_) (fun hb => ?_)
 ·replace hR:=ct hR
  refine rS ?_;refine AWP.ret ?_;subst hR;exact es
 ·replace hR:=cf hR
  refine rS ?_;refine AWP.cond rfl (fun hb => ?_) (fun hb => ?_)
  ·replace hR:=ct hR
   refine rS ?_;refine AWP.ret ?_;subst hR;exact es
  ·replace hR:=cf hR
   iterate 3 refine rS ?_
   refine AWP.cond rfl (fun hb => ?_) (fun hb => ?_)
   ·replace hR:=ct hR
    refine rS ?_;refine AWP.ret ?_;subst hR;exact es
   ·replace hR:=cf hR
    refine rS ?_;refine AWP.ret ?_;subst hR;exact es
end N111
def D_ztb : DF
 | [x0,x1]=>some (.tup [ownL 25 2 yx ((ztb (rdG yu x0) (rdI x1)).1),.int .i64 ((ztb (rdG yu x0) (rdI x1)).2)],false,[wG yr yu x0,wI .i64 x1])
 | _=>none
theorem ysw:OkD Tryz.prog 111 D_ztb:=by unfold D_ztb;exact dk N111.den
theorem yr0 (d:Danger) (w:Int) (h:(ztb d w).2=0):(ztb d w).1.length=4:=by
 unfold ztb at h ⊢;simp only[Bool.cond_eq_ite]at h ⊢;split at h
 ·exact absurd h (by decide)
 ·rename_i h1
  rw[if_neg h1];split at h
  ·exact absurd h (by decide)
  ·rename_i h2
   rw[if_neg h2];split at h
   ·exact absurd h (by decide)
   ·rename_i h3
    rw[if_neg h3];rfl
def zbc (a0:(List Int)):l00Src:=
 { code:=a0,at_:=0,seed:=0:l00Src }
namespace N43
theorem DD:DOk Tryz.prog (Go.Ab.DD []):=yb _
theorem den (a0:(List Int))  : Den Tryz.prog 43 [encL 1 eIu8 a0] (.op (yi (zbc a0))):=by
 generalize hR:zbc a0=r;unfold zbc at hR;refine di Tryz.func43 Tryz.ntmps43 Tryz.results43 ?_;intro c hL hc hk;obtain⟨hL0,_⟩:=hL;have hw0:a0.length<9223372036854775808:=Nat.lt_succ_of_le (yf hL0).1;clear hL0;simp only[pars,Nat.zero_add];iterate 2 refine rS ?_
 refine AWP.ret ?_;subst hR;exact es
end N43
def D_zbc : DF
 | [x0]=>some (.op (yi (zbc (rdL dIu8 x0))),false,[wL 1 eIu8 dIu8 x0])
 | _=>none
theorem y7q:OkD Tryz.prog 43 D_zbc:=by unfold D_zbc;exact dk N43.den
end Go.Ab
