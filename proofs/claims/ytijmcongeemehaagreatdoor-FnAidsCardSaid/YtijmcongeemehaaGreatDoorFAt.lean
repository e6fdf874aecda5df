/- A part of a proof: walks of functions and lemmas of our own. No conditions. -/
import Derived.Test.YtijmcongeemehaaGreatDoorFAl
import Derived.Test.YtijmcongeemehaaGreatDoorFAn
set_option linter.unusedSectionVars false
set_option linter.unusedVariables false
set_option linter.unusedSimpArgs false
set_option maxHeartbeats 1000000
namespace Go.Ab
open Go Go.Proofs
def ztc (a0:l00Src):Int×l00Src:=
 (bif decide (a0.at_<(a0.code.length:Int))then(bif decide ((IntKind.wrap .i64 (a0.at_+1))<=(a0.code.length:Int))then(IntKind.wrap .i64 (a0.code.getD ((a0.at_).toNat) default),{ code:=a0.code,at_:=IntKind.wrap .i64 (a0.at_+1),seed:=IntKind.wrap .u64 ((IntKind.wrap .u64 ((IntKind.wrap .u64 (a0.seed * 6364136223846793005))+(IntKind.wrap .u64 (IntKind.wrap .i64 (a0.code.getD ((a0.at_).toNat) default)))))+1442695040888963407):l00Src })else(IntKind.wrap .i64 (IntKind.wrap .u64 (BitVec.ofInt (IntKind.bits .u64) ((IntKind.wrap .u64 ((IntKind.wrap .u64 ((IntKind.wrap .u64 (a0.seed * 6364136223846793005))+(IntKind.wrap .u64 (IntKind.wrap .i64 (a0.code.getD ((a0.at_).toNat) default)))))+1442695040888963407)).fdiv (2 ^ (Min.min 40 (IntKind.bits .u64)))) &&& BitVec.ofInt (IntKind.bits .u64) 255).toNat),{ code:=a0.code,at_:=IntKind.wrap .i64 (a0.at_+1),seed:=IntKind.wrap .u64 ((IntKind.wrap .u64 ((IntKind.wrap .u64 (a0.seed * 6364136223846793005))+(IntKind.wrap .u64 (IntKind.wrap .i64 (a0.code.getD ((a0.at_).toNat) default)))))+1442695040888963407):l00Src }))else(bif decide ((IntKind.wrap .i64 (a0.at_+1))<=(a0.code.length:Int))then(0,{ code:=a0.code,at_:=IntKind.wrap .i64 (a0.at_+1),seed:=IntKind.wrap .u64 ((IntKind.wrap .u64 ((IntKind.wrap .u64 (a0.seed * 6364136223846793005))+(IntKind.wrap .u64 0)))+1442695040888963407):l00Src })else(IntKind.wrap .i64 (IntKind.wrap .u64 (BitVec.ofInt (IntKind.bits .u64) ((IntKind.wrap .u64 ((IntKind.wrap .u64 ((IntKind.wrap .u64 (a0.seed * 6364136223846793005))+(IntKind.wrap .u64 0)))+1442695040888963407)).fdiv (2 ^ (Min.min 40 (IntKind.bits .u64)))) &&& BitVec.ofInt (IntKind.bits .u64) 255).toNat),{ code:=a0.code,at_:=IntKind.wrap .i64 (a0.at_+1),seed:=IntKind.wrap .u64 ((IntKind.wrap .u64 ((IntKind.wrap .u64 (a0.seed * 6364136223846793005))+(IntKind.wrap .u64 0)))+1442695040888963407):l00Src })))
namespace N186
theorem DD:DOk Tryz.prog (Go.Ab.DD []):=ye _
theorem o1 {p:Prop} (h:p:=by(first|(refine SrcOk.mono (by repeat' first|assumption|exact SrcOk.next ‹_› | apply SrcOk.next|apply SrcOk.pick|apply SrcOk.among|apply SrcOk.text|apply SrcOk.name|apply SrcOk.drawName|apply SrcOk.word|apply SrcOk.entry|apply SrcOk.base|omega) (by omega)));first|done|fail):p:=h
theorem den (a0:l00Src) (hp0:SrcOk 1000000 a0):DenM Tryz.prog 186 [.op (yk a0)] (.int .i64 ((ztc a0).1)) [(.op (yk ((ztc a0).2)))]:=by
 generalize hR:ztc a0=r;unfold ztc at hR;refine dj (gb:=[true]) Tryz.func186 Tryz.ntmps186 Tryz.results186 ?_;intro c hL hc hk;obtain⟨hL0,_⟩:=hL;have hw0:bwl00Src a0:=yab a0 hL0;clear hL0;simp only[adEL,adE,adRL,adR,ownL,encL,sv,List.nil_append,List.append_nil,List.cons_append,List.length_cons,List.length_nil,pars,Nat.zero_add,Nat.reduceAdd]at hk ⊢;have hp1:=hp0.lo;have hp2:=hp0.hi;iterate 2 refine rS ?_
 refine rD 10 ?_;refine AWP.cond rfl (fun hb => ?_) (fun hb => ?_)
 ·replace hR:=ct hR
  refine rD 11 ?_;iterate 2 refine rS ?_
  refine rD 10 ?_;refine AWP.cond rfl (fun hb => ?_) (fun hb => ?_)
  ·replace hR:=ct hR
   refine rS ?_;refine AWP.ret ?_;subst hR;exact es
  ·replace hR:=cf hR
   refine rS ?_;refine AWP.ret ?_;subst hR;exact es
 ·replace hR:=cf hR
  iterate 2 refine rS ?_
  refine rD 10 ?_;refine AWP.cond rfl (fun hb => ?_) (fun hb => ?_)
  ·replace hR:=ct hR
   refine rS ?_;refine AWP.ret ?_;subst hR;exact es
  ·replace hR:=cf hR
   refine rS ?_;refine AWP.ret ?_;subst hR;exact es
end N186
def D_ztc : List AV -> Option (AV × List AV × List Prop)
 | [x0]=>some (.int .i64 ((ztc (rdQ yn x0)).1),[(.op (yk ((ztc (rdQ yn x0)).2)))],[wQ yk yn x0,SrcOk 1000000 (rdQ yn x0)])
 | _=>none
theorem yt0:OkM Tryz.prog 186 D_ztc:=by unfold D_ztc;exact dm N186.den
theorem y2u {n:Int} {s:l00Src} (h:SrcOk n s) (hn:n<=4000000000):0<=(ztc s).1/\(ztc s).1<=255:=by
 have h1:=h.lo;have h2:=h.hi;have hb:0<=s.code.getD s.at_.toNat default/\s.code.getD s.at_.toNat default<=255:=ydg (p:=fun v=>0<=v/\v<=255) h.by_ (by decide) _
 have hand:∀ x:Int,0<=((BitVec.ofInt (IntKind.bits .u64) x &&& BitVec.ofInt (IntKind.bits .u64) 255).toNat:Int)/\((BitVec.ofInt (IntKind.bits .u64) x &&& BitVec.ofInt (IntKind.bits .u64) 255).toNat:Int)<=255:=by
  intro x;refine⟨Int.natCast_nonneg _,?_⟩;rw[BitVec.toNat_and];have:=Nat.and_le_right (n:=(BitVec.ofInt (IntKind.bits .u64) x).toNat) (m:=(BitVec.ofInt (IntKind.bits .u64) 255).toNat);have e:(BitVec.ofInt (IntKind.bits .u64) 255).toNat=255:=by decide
  omega
 have hw:∀ y:Int,0<=y->y<=255->IntKind.wrap .i64 (IntKind.wrap .u64 y)=y:=by
  intro y _ _
  have:IntKind.wrap .u64 y=y:=by
   simp[IntKind.wrap,IntKind.bits,IntKind.signed];omega
  rw[this,IntKind.wrap_i64];omega
 unfold ztc;simp only[Bool.cond_eq_ite];repeat' split
 all_goals first
  | (simp only[IntKind.wrap_i64];omega)
  | (rw[hw _ (hand _).1 (hand _).2];exact hand _)
theorem SrcOk.next {n:Int} {s:l00Src} (h:SrcOk n s) (hn:n<=4000000000):SrcOk (n+1) (ztc s).2:=by
 have h1:=h.lo;have h2:=h.hi;unfold ztc;simp only[Bool.cond_eq_ite];repeat' split
 all_goals exact⟨by simp only[IntKind.wrap_i64];omega,by simp only[IntKind.wrap_i64];omega,h.by_⟩
def za (a0:l00Src) (a1:Int):Int×l00Src:=
 (bif decide (a1<=1)then(0,a0)else(bif decide (200<a1)then((IntKind.wrap .i64 ((IntKind.wrap .i64 (((ztc a0).1) * 256))+((ztc ((ztc a0).2)).1))).tmod a1,(ztc ((ztc a0).2)).2)else(((ztc a0).1).tmod a1,(ztc a0).2)))
namespace N102
theorem DD:DOk Tryz.prog (Go.Ab.DD [(186,dM [true] D_ztc)]):=ya yt0.e <| ye _
theorem dn:type_of% (@D_ztc.eq_1):=by and_intros<;>intros<;>rfl
theorem o1 {p:Prop} (h:p:=by(first|(refine SrcOk.mono (by repeat' first|assumption|exact SrcOk.next ‹_› | apply SrcOk.next|apply SrcOk.pick|apply SrcOk.among|apply SrcOk.text|apply SrcOk.name|apply SrcOk.drawName|apply SrcOk.word|apply SrcOk.entry|apply SrcOk.base|omega) (by omega)));first|done|fail):p:=h
theorem den (a0:l00Src) (a1:Int) (hp0:SrcOk 900000 a0):DenM Tryz.prog 102 [.op (yk a0),.int .i64 a1] (.int .i64 ((za a0 a1).1)) [(.op (yk ((za a0 a1).2))),.any]:=by
 generalize hR:za a0 a1=r;unfold za at hR;refine dj (gb:=[true,false]) Tryz.func102 Tryz.ntmps102 Tryz.results102 ?_;intro c hL hc hk;obtain⟨hL0,hL1,_⟩:=hL;have hw0:bwl00Src a0:=yab a0 hL0;clear hL0 hL1;simp only[adEL,adE,adRL,adR,ownL,encL,sv,List.nil_append,List.append_nil,List.cons_append,List.length_cons,List.length_nil,pars,Nat.zero_add,Nat.reduceAdd]at hk ⊢;iterate 2 refine rS ?_
 refine AWP.cond rfl (fun hb => ?_) (fun hb => ?_)
 ·replace hR:=ct hR
  refine rS ?_;refine AWP.ret ?_;subst hR;exact es
 ·replace hR:=cf hR
  iterate 2 refine rS ?_
  refine AWP.cond rfl (fun hb => ?_) (fun hb => ?_)
  ·replace hR:=ct hR
   iterate 2 refine rS ?_
   refine AWP.ret ?_;subst hR;exact es
  ·replace hR:=cf hR
   refine rS ?_;refine AWP.ret ?_;subst hR;exact es
end N102
def D_za : List AV -> Option (AV × List AV × List Prop)
 | [x0,x1]=>some (.int .i64 ((za (rdQ yn x0) (rdI x1)).1),[(.op (yk ((za (rdQ yn x0) (rdI x1)).2))),.any],[wQ yk yn x0,wI .i64 x1,SrcOk 900000 (rdQ yn x0)])
 | _=>none
theorem ycd:OkM Tryz.prog 102 D_za:=by unfold D_za;exact dm N102.den
theorem yg {n:Int} {s:l00Src} (m:Int) (h:SrcOk n s) (hn:n<=2000000000):0<=(za s m).1/\(1<=m->(za s m).1<m):=by
 have v1:=y2u h (by omega);have v2:=y2u (h.next (by omega)) (by omega);unfold za;simp only[Bool.cond_eq_ite,decide_eq_true_eq];repeat' split
 ·simp;omega
 ·have hx:0<=IntKind.wrap .i64 (IntKind.wrap .i64 ((ztc s).1 * 256)+(ztc (ztc s).2).1):=by
   simp only[IntKind.wrap_i64];omega
  exact⟨Int.tmod_nonneg _ hx,fun _=>Int.tmod_lt_of_pos _ (by omega)⟩
 ·exact⟨Int.tmod_nonneg _ v1.1,fun _=>Int.tmod_lt_of_pos _ (by omega)⟩
theorem SrcOk.pick {n:Int} {s:l00Src} {m:Int} (h:SrcOk n s) (hn:n<=2000000000):SrcOk (n+2) (za s m).2:=by
 unfold za;simp only[Bool.cond_eq_ite,decide_eq_true_eq];repeat' split
 ·exact h.mono (by omega)
 ·have:=(h.next (by omega)).next (by omega)
  exact this.mono (by omega)
 ·exact(h.next (by omega)).mono (by omega)
def zb (a0:l00Src) (a1:(List Int)):Int×l00Src:=
 ((a1.getD ((((za a0 (a1.length:Int)).1)).toNat) default),(za a0 (a1.length:Int)).2)
namespace N151
theorem DD:DOk Tryz.prog (Go.Ab.DD [(102,dM [true,false] D_za)]):=ya ycd.e <| ye _
theorem dn:type_of% (@D_za.eq_1):=by and_intros<;>intros<;>rfl
theorem o1 {p:Prop} (h:p:=by(first|(refine SrcOk.mono (by repeat' first|assumption|exact SrcOk.next ‹_› | apply SrcOk.next|apply SrcOk.pick|apply SrcOk.among|apply SrcOk.text|apply SrcOk.name|apply SrcOk.drawName|apply SrcOk.word|apply SrcOk.entry|apply SrcOk.base|omega) (by omega)));first|done|fail):p:=h
theorem den (a0:l00Src) (a1:(List Int)) (hp0:SrcOk 800000 a0) (hp1:1<=a1.length):DenM Tryz.prog 151 [.op (yk a0),ownL 2 1 yw a1] (.int .i64 ((zb a0 a1).1)) [(.op (yk ((zb a0 a1).2))),.any]:=by
 generalize hR:zb a0 a1=r;unfold zb at hR;refine dj (gb:=[true,false]) Tryz.func151 Tryz.ntmps151 Tryz.results151 ?_;intro c hL hc hk;obtain⟨hL0,hL1,_⟩:=hL;have hw0:bwl00Src a0:=yab a0 hL0;have hw1:a1.length<9223372036854775808:=Nat.lt_succ_of_le (yek hL1).1;clear hL0 hL1;simp only[adEL,adE,adRL,adR,ownL,encL,sv,List.nil_append,List.append_nil,List.cons_append,List.length_cons,List.length_nil,pars,Nat.zero_add,Nat.reduceAdd]at hk ⊢;have hr:=yg (a1.length:Int) hp0 (by omega);iterate 2 refine rS ?_
 refine AWP.ret ?_;subst hR;exact es
end N151
def D_zb : List AV -> Option (AV × List AV × List Prop)
 | [x0,x1]=>some (.int .i64 ((zb (rdQ yn x0) (rdL y4b x1)).1),[(.op (yk ((zb (rdQ yn x0) (rdL y4b x1)).2))),.any],[wQ yk yn x0,wO 2 1 yw y4b x1,SrcOk 800000 (rdQ yn x0),1<=(rdL y4b x1).length])
 | _=>none
theorem yyk:OkM Tryz.prog 151 D_zb:=by unfold D_zb;exact dm N151.den
theorem SrcOk.among {n:Int} {s:l00Src} {l} (h:SrcOk n s) (hn:n<=2000000000):SrcOk (n+2) (zb s l).2:=by
 unfold zb;exact h.pick hn
def zw (a0:l00Src) (a1:(List (List UInt8))):(List UInt8)×l00Src:=
 ((a1.getD ((((za a0 (a1.length:Int)).1)).toNat) default),(za a0 (a1.length:Int)).2)
namespace N152
theorem DD:DOk Tryz.prog (Go.Ab.DD [(102,dM [true,false] D_za)]):=ya ycd.e <| ye _
theorem dn:type_of% (@D_za.eq_1):=by and_intros<;>intros<;>rfl
theorem o1 {p:Prop} (h:p:=by(first|(refine SrcOk.mono (by repeat' first|assumption|exact SrcOk.next ‹_› | apply SrcOk.next|apply SrcOk.pick|apply SrcOk.among|apply SrcOk.text|apply SrcOk.name|apply SrcOk.drawName|apply SrcOk.word|apply SrcOk.entry|apply SrcOk.base|omega) (by omega)));first|done|fail):p:=h
theorem den (a0:l00Src) (a1:(List (List UInt8))) (hp0:SrcOk 800000 a0) (hp1:1<=a1.length):DenM Tryz.prog 152 [.op (yk a0),ownL 9 1 eS a1] (.str ((zw a0 a1).1)) [(.op (yk ((zw a0 a1).2))),.any]:=by
 generalize hR:zw a0 a1=r;unfold zw at hR;refine dj (gb:=[true,false]) Tryz.func152 Tryz.ntmps152 Tryz.results152 ?_;intro c hL hc hk;obtain⟨hL0,hL1,_⟩:=hL;have hw0:bwl00Src a0:=yab a0 hL0;have hw1:a1.length<9223372036854775808:=Nat.lt_succ_of_le (yek hL1).1;have hw2:∀ v∈a1,bwS v:=fun v hv=>y2t v ((yek hL1).2 v hv)
 clear hL0 hL1;simp only[adEL,adE,adRL,adR,ownL,encL,sv,List.nil_append,List.append_nil,List.cons_append,List.length_cons,List.length_nil,pars,Nat.zero_add,Nat.reduceAdd]at hk ⊢;have hr:=yg (a1.length:Int) hp0 (by omega);iterate 2 refine rS ?_
 refine AWP.ret ?_;subst hR;exact es
end N152
def D_zw : List AV -> Option (AV × List AV × List Prop)
 | [x0,x1]=>some (.str ((zw (rdQ yn x0) (rdL dS x1)).1),[(.op (yk ((zw (rdQ yn x0) (rdL dS x1)).2))),.any],[wQ yk yn x0,wO 9 1 eS dS x1,SrcOk 800000 (rdQ yn x0),1<=(rdL dS x1).length])
 | _=>none
theorem yen:OkM Tryz.prog 152 D_zw:=by unfold D_zw;exact dm N152.den
theorem SrcOk.text {n:Int} {s:l00Src} {l} (h:SrcOk n s) (hn:n<=2000000000):SrcOk (n+2) (zw s l).2:=by
 unfold zw;exact h.pick hn
def zh (a0:l00Src) (a1:Int):Bool×l00Src:=
 ((((za a0 a1).1) == 0),(za a0 a1).2)
namespace N150
theorem DD:DOk Tryz.prog (Go.Ab.DD [(102,dM [true,false] D_za)]):=ya ycd.e <| ye _
theorem dn:type_of% (@D_za.eq_1):=by and_intros<;>intros<;>rfl
theorem o1 {p:Prop} (h:p:=by(first|(refine SrcOk.mono (by repeat' first|assumption|exact SrcOk.next ‹_› | apply SrcOk.next|apply SrcOk.pick|apply SrcOk.among|apply SrcOk.text|apply SrcOk.name|apply SrcOk.drawName|apply SrcOk.word|apply SrcOk.entry|apply SrcOk.base|omega) (by omega)));first|done|fail):p:=h
theorem den (a0:l00Src) (a1:Int) (hp0:SrcOk 800000 a0):DenM Tryz.prog 150 [.op (yk a0),.int .i64 a1] (.bool ((zh a0 a1).1)) [(.op (yk ((zh a0 a1).2))),.any]:=by
 generalize hR:zh a0 a1=r;unfold zh at hR;refine dj (gb:=[true,false]) Tryz.func150 Tryz.ntmps150 Tryz.results150 ?_;intro c hL hc hk;obtain⟨hL0,hL1,_⟩:=hL;have hw0:bwl00Src a0:=yab a0 hL0;clear hL0 hL1;simp only[adEL,adE,adRL,adR,ownL,encL,sv,List.nil_append,List.append_nil,List.cons_append,List.length_cons,List.length_nil,pars,Nat.zero_add,Nat.reduceAdd]at hk ⊢;iterate 2 refine rS ?_
 refine AWP.ret ?_;subst hR;exact es
end N150
def D_zh : List AV -> Option (AV × List AV × List Prop)
 | [x0,x1]=>some (.bool ((zh (rdQ yn x0) (rdI x1)).1),[(.op (yk ((zh (rdQ yn x0) (rdI x1)).2))),.any],[wQ yk yn x0,wI .i64 x1,SrcOk 800000 (rdQ yn x0)])
 | _=>none
theorem ygi:OkM Tryz.prog 150 D_zh:=by unfold D_zh;exact dm N150.den
theorem SrcOk.one {n:Int} {s:l00Src} {m:Int} (h:SrcOk n s) (hn:n<=2000000000):SrcOk (n+2) (zh s m).2:=by
 unfold zh;exact h.pick hn
def zf (a0:l00Src):(List UInt8)×l00Src:=
 (((zw a0 ([[87],[87],[82],[71],[89],[87,82],[82,71],[87,82,71],[87,71]]:List (List UInt8))).1),(zw a0 ([[87],[87],[82],[71],[89],[87,82],[82,71],[87,82,71],[87,71]]:List (List UInt8))).2)
namespace N232
theorem DD:DOk Tryz.prog (Go.Ab.DD [(152,dM [true,true] D_zw)]):=ya yen.e <| ye _
theorem dn:type_of% (@D_zw.eq_1):=by and_intros<;>intros<;>rfl
theorem o1 {p:Prop} (h:p:=by(first|(refine SrcOk.mono (by repeat' first|assumption|exact SrcOk.next ‹_› | apply SrcOk.next|apply SrcOk.pick|apply SrcOk.one|apply SrcOk.among|apply SrcOk.text|apply SrcOk.colors|apply SrcOk.point|apply SrcOk.chr|apply SrcOk.sectors|apply SrcOk.aid|apply SrcOk.aids|apply SrcOk.notice|omega) (by omega)));first|done|fail):p:=h
theorem lx {p:Prop} (h:p:=by(exact lxx);first|done|fail):p:=h
set_option maxHeartbeats 2000000 in
set_option maxRecDepth 20000 in
theorem den (a0:l00Src) (hp0:SrcOk 700000 a0):DenM Tryz.prog 232 [.op (yk a0)] (.str ((zf a0).1)) [(.op (yk ((zf a0).2)))]:=by
 generalize hR:zf a0=r;unfold zf at hR;refine dj (gb:=[true]) Tryz.func232 Tryz.ntmps232 Tryz.results232 ?_;intro c hL hc hk;obtain⟨hL0,_⟩:=hL;have hw0:bwl00Src a0:=yab a0 hL0;clear hL0;simp only[adEL,adE,adRL,adR,ownL,encL,sv,List.nil_append,List.append_nil,List.cons_append,List.length_cons,List.length_nil,pars,Nat.zero_add,Nat.reduceAdd]at hk ⊢;iterate 2 refine rS ?_
 refine AWP.ret ?_;subst hR;exact es
end N232
def D_zf : List AV -> Option (AV × List AV × List Prop)
 | [x0]=>some (.str ((zf (rdQ yn x0)).1),[(.op (yk ((zf (rdQ yn x0)).2)))],[wQ yk yn x0,SrcOk 700000 (rdQ yn x0)])
 | _=>none
theorem yh5:OkM Tryz.prog 232 D_zf:=by unfold D_zf;exact dm N232.den
theorem SrcOk.colors {n:Int} {s:l00Src} (h:SrcOk n s) (hn:n<=2000000000):SrcOk (n+2) (zf s).2:=by
 unfold zf;exact h.text hn
def zef (a0:Int):Bool:=
 (decide (48<=a0) && decide (a0<=57))
namespace N171
theorem DD:DOk Tryz.prog (Go.Ab.DD []):=ye _
theorem den (a0:Int)  : Den Tryz.prog 171 [.int .u8 a0] (.bool (zef a0)):=by
 generalize hR:zef a0=r;unfold zef at hR;refine di Tryz.func171 Tryz.ntmps171 Tryz.results171 ?_;intro c hL hc hk;clear hL;simp only[pars,Nat.zero_add];iterate 2 refine rS ?_
 refine AWP.ret ?_;subst hR;exact es
end N171
def D_zef : DF
 | [x0]=>some (.bool (zef (rdI x0)),false,[wI .u8 x0])
 | _=>none
theorem ym1:OkD Tryz.prog 171 D_zef:=by unfold D_zef;exact dk N171.den
def yz8 (a0:(List UInt8)) (i1:Nat) (s1:Int):Except ((Int×Bool)) (Int):=
 (bif (!(zef ((a0.getD i1 0).toNat:Int)))then .error (0,false)else .ok (IntKind.wrap .i64 ((IntKind.wrap .i64 (10 * s1))+(IntKind.wrap .i64 (IntKind.wrap .u8 (((a0.getD i1 0).toNat:Int)-48))))))
def yk7 (a0:(List UInt8)) (i2:Nat) (s2:Int):Except ((Int×Bool)) (Int):=
 (bif (!(zef ((a0.getD i2 0).toNat:Int)))then .error (0,false)else .ok (IntKind.wrap .i64 ((IntKind.wrap .i64 (10 * s2))+(IntKind.wrap .i64 (IntKind.wrap .u8 (((a0.getD i2 0).toNat:Int)-48))))))
def zq (a0:(List UInt8)):(Int×Bool):=
 (bif (decide (0<(a0.length:Int)) && (((a0.getD 0 0).toNat:Int) == 45))then(bif ((((a0.length:Int) == 1) || decide (18<(IntKind.wrap .i64 ((a0.length:Int)-1)))) || ((((a0.getD 1 0).toNat:Int) == 48) && decide (1<(a0.length:Int))))then(0,false)else(match yf (yz8 a0) (a0.length-1) 1 0 with|.error e=>e|.ok s1=>(IntKind.wrap .i64 (0-s1),true)))else(bif ((((a0.length:Int) == 0) || decide (18<(IntKind.wrap .i64 ((a0.length:Int)-0)))) || ((((a0.getD 0 0).toNat:Int) == 48) && decide (1<(a0.length:Int))))then(0,false)else(match yf (yk7 a0) (a0.length-0) 0 0 with|.error e=>e|.ok s2=>(s2,true))))
def E18:Nat:=1000000000000000000
theorem yqe (m:Nat):Lib.itoa (m:Int)=Lib.decDigits m:=by
 unfold Lib.itoa;rw[if_neg (by omega)];simp
theorem yxd {n:Int} (h:¬ n<0):Lib.itoa n=Lib.decDigits n.natAbs:=by
 unfold Lib.itoa;rw[if_neg h];congr 1;omega
theorem ywb {n:Int} (h:n<0):Lib.itoa n=45::Lib.decDigits n.natAbs:=by
 unfold Lib.itoa;rw[if_pos h]
theorem y4w (m:Nat):∃ c t,Lib.decDigits m=c::t/\c≠45:=by
 obtain⟨h1,h2,h3,h4⟩:=y8 m;obtain⟨c,t,e⟩:=List.exists_cons_of_ne_nil h3;refine⟨c,t,e,fun h => ?_⟩;have:=h1 c (by rw[e];simp);subst h;simp at this
theorem ydn {n n':Int} (h:Lib.itoa n=Lib.itoa n'):n=n':=by
 have hd:∀ m:Nat,digV 0 (Lib.decDigits m)=m:=fun m=>(y8 m).2.1
 by_cases h1:n<0<;>by_cases h2:n'<0
 ·rw[ywb h1,ywb h2]at h
  have:=congrArg (digV 0) (List.cons.inj h).2;rw[hd,hd]at this;omega
 ·obtain⟨c,t,e,hc⟩:=y4w n'.toNat
  rw[ywb h1,show n'=(n'.toNat:Int)by omega,yqe,e]at h;exact absurd (List.cons.inj h).1.symm hc
 ·obtain⟨c,t,e,hc⟩:=y4w n.toNat
  rw[ywb h2,show n=(n.toNat:Int)by omega,yqe,e]at h;exact absurd (List.cons.inj h).1 hc
 ·rw[show n=(n.toNat:Int)by omega,show n'=(n'.toNat:Int)by omega,yqe,yqe]at h
  have:=congrArg (digV 0) h;rw[hd,hd]at this;omega
theorem yqr (n:Int):(Lib.trimPrefix (Lib.itoa n) [45]).length=(Lib.decDigits n.natAbs).length:=by
 by_cases h:n<0
 ·rw[ywb h];simp[Lib.trimPrefix,Lib.hasPrefix]
 ·obtain⟨c,t,e,hc⟩:=y4w n.toNat
  rw[yxd h];rw[show n.toNat=n.natAbs by omega]at e;unfold Lib.trimPrefix Lib.hasPrefix;rw[if_neg (by rw[e];simp;exact fun h=>hc h.symm)]
theorem yhi (n:Int) (h1:n.natAbs<E18):Lib.parseIntB 64 (Lib.itoa n)=.ok n:=by
 unfold E18 at h1;obtain⟨d1,d2,d3,d4⟩:=y8 n.natAbs
 have hp:Lib.parseUintB 64 (Lib.decDigits n.natAbs)=.ok n.natAbs:=by
  unfold Lib.parseUintB;rw[if_neg d3,yul _ _ 0 d1 (by rw[d2];omega) (by decide),d2]
 by_cases h:n<0
 ·rw[ywb h,Lib.parseIntB_minus,hp]
  show(if 2 ^ (64-1)<n.natAbs then _ else _)=_;rw[if_neg (by omega)];congr 1;omega
 ·obtain⟨c,t,e,hc⟩:=y4w n.natAbs
  have e2:=yxd h;have hc1:=d1 c (by rw[e];simp);rw[e2];rw[e]at hp ⊢;rw[Lib.parseIntB_plain 64 c t (by omega) (by omega),hp];show(if 2 ^ (64-1)<=n.natAbs then _ else _)=_;rw[if_neg (by omega)];congr 1;omega
def y0k (w:List UInt8) (r:Int×Bool):Prop:=
 (∃ n:Int,n.natAbs<E18/\w=Lib.itoa n/\r=(n,true))\/((∀ n:Int,n.natAbs<E18->w≠Lib.itoa n)/\r=(0,false))
theorem y0k.unique {w:List UInt8} {r r':Int×Bool} (h:y0k w r) (h':y0k w r'):r=r':=by
 rcases h with⟨n,h1,h2,rfl⟩|⟨h1,rfl⟩<;>rcases h' with⟨n',h1',h2',rfl⟩|⟨h1',rfl⟩
 ·rw[ydn (h2.symm.trans h2')]
 ·exact absurd h2 (h1' n h1)
 ·exact absurd h2' (h1 n' h1')
 ·rfl
theorem y4i (w:List UInt8):y0k w (y2b w):=by
 unfold y2b;by_cases h18:18<(Lib.trimPrefix w [45]).length
 ·rw[if_pos h18]
  refine .inr ⟨fun n hn e => ?_,rfl⟩;subst e;rw[yqr]at h18;have:=(ytb n.natAbs).2 hn;omega
 ·rw[if_neg h18]
  cases hp:Lib.parseIntB 64 w with
  | ok v=>
   simp only;by_cases hv:Lib.itoa v=w
   ·rw[if_pos hv]
    refine .inl ⟨v,?_,hv.symm,rfl⟩;subst hv;rw[yqr]at h18;exact(ytb v.natAbs).1 (by omega)
   ·rw[if_neg hv]
    refine .inr ⟨fun n hn e => ?_,rfl⟩;subst e;rw[yhi n hn]at hp;cases hp
    exact hv rfl
  | _ => exact .inr ⟨fun n hn e=>(by subst e;rw[yhi n hn]at hp;cases hp),rfl⟩
theorem wid {n:Int} (h1 : -9223372036854775808<=n) (h2:n<=9223372036854775807):IntKind.wrap .i64 n=n:=by
 rw[IntKind.wrap_i64];omega
theorem yai (a:List UInt8) (b:Nat->Int->Except (Int×Bool) Int) (hb:∀ i s,b i s=(bif (!(decide (48<=((a.getD i 0).toNat:Int)) && decide (((a.getD i 0).toNat:Int)<=57)))then .error (0,false)else .ok (IntKind.wrap .i64 ((IntKind.wrap .i64 (10 * s))+(IntKind.wrap .i64 (IntKind.wrap .u8 (((a.getD i 0).toNat:Int)-48))))))) :
  ∀ (k i n:Nat),i+k=a.length->(n+1) * 10 ^ k<=E18->yf b k i (n:Int)=if yjd (a.drop i)then .ok ((digV n (a.drop i):Nat):Int)else .error (0,false)
 | 0,i,n,h,hn=>by
  rw[List.drop_eq_nil_of_le (by omega),yod,if_pos (by intro b hb;simp at hb)];rfl
 | k+1,i,n,h,hn=>by
  have hlt:i<a.length:=by omega
  have hg:a.getD i 0=a[i]:=by simp[List.getD,List.getElem?_eq_getElem hlt]
  rw[List.drop_eq_getElem_cons hlt,ynb];simp only[yf,hb,hg];have h10:(n+1) * 10 ^ (k+1)=((n+1) * 10) * 10 ^ k:=by rw[Nat.pow_succ,Nat.mul_assoc,Nat.mul_comm 10]
  have hone:1<=10 ^ k:=Nat.one_le_pow _ _ (by decide);have hbig:(n+1) * 10 * 1<=(n+1) * 10 * 10 ^ k:=Nat.mul_le_mul_left _ hone;unfold E18 at hn;by_cases hd:48<=a[i].toNat/\a[i].toNat<=57
  ·have e:(!(decide (48<=((a[i]).toNat:Int)) && decide (((a[i]).toNat:Int)<=57)))=false:=by simp;omega
   rw[e,cond_false]
   have hw:IntKind.wrap .i64 ((IntKind.wrap .i64 (10 * (n:Int)))+(IntKind.wrap .i64 (IntKind.wrap .u8 (((a[i]).toNat:Int)-48))))=((10 * n+(a[i].toNat-48):Nat):Int):=by
    rw[wid (n:=10 * (n:Int)) (by omega) (by omega),IntKind.wrap_u8,Int.emod_eq_of_lt (by omega) (by omega),wid (n:=((a[i]).toNat:Int)-48) (by omega) (by omega),wid (by omega) (by omega)];omega
   rw[hw];simp only;have hm:(10 * n+(a[i].toNat-48)+1) * 10 ^ k<=(n+1) * 10 * 10 ^ k:=Nat.mul_le_mul_right _ (by omega);rw[yai a b hb k (i+1) _ (by omega) (by unfold E18;omega)]
   have hiff:yjd (a[i]::a.drop (i+1))↔yjd (a.drop (i+1)):=⟨fun h b hb=>h b (List.mem_cons_of_mem _ hb),fun h b hb=>by
    rcases List.mem_cons.1 hb with rfl|hb
    ·exact hd
    ·exact h b hb⟩
   by_cases hA:yjd (a.drop (i+1))
   ·rw[if_pos hA,if_pos (hiff.2 hA)]
   ·rw[if_neg hA,if_neg (fun h=>hA (hiff.1 h))]
  ·have e:(!(decide (48<=((a[i]).toNat:Int)) && decide (((a[i]).toNat:Int)<=57)))=true:=by
    simp;omega
   rw[e,cond_true];simp only;rw[if_neg (fun h=>hd (h a[i] List.mem_cons_self))]
theorem ye3 {a:List UInt8} (h:0<a.length):a=a.getD 0 0::a.drop 1:=by
 obtain⟨c,t,rfl⟩:=List.exists_cons_of_length_pos h;simp
theorem ygc (w:List UInt8) (hw:w.length<=1048576):y0k w (zq w):=by
 unfold zq;by_cases hneg:0<w.length/\w.getD 0 0=45
 ·have e0:(decide (0<(w.length:Int)) && (((w.getD 0 0).toNat:Int) == 45))=true:=by rw[hneg.2];simp;omega
  rw[e0,cond_true];have hd1:=ye3 hneg.1;rw[hneg.2]at hd1;generalize hr:w.drop 1=r at hd1;have hlen:w.length=r.length+1:=by rw[hd1];simp
  have hg1:w.getD 1 0=r.getD 0 0:=by rw[hd1];simp
  have hno:(∀ m:Nat,m<E18->1<=m->r≠Lib.decDigits m)->∀ n:Int,n.natAbs<E18->w≠Lib.itoa n:=by
   intro h n hn e;by_cases hn0:n<0
   ·rw[ywb hn0,hd1]at e
    exact h n.natAbs hn (by omega) (List.cons.inj e).2
   ·obtain⟨c,t,e3,hc⟩:=y4w n.natAbs
    rw[yxd hn0,e3,hd1]at e;exact hc (List.cons.inj e).1.symm
  by_cases hbad:r=[]\/18<r.length\/r.getD 0 0=48
  ·have e1:((((w.length:Int) == 1) || decide (18<(IntKind.wrap .i64 ((w.length:Int)-1)))) || ((((w.getD 1 0).toNat:Int) == 48) && decide (1<(w.length:Int))))=true:=by
    rw[IntKind.wrap_i64,hg1,hlen];rcases hbad with h|h|h
    ·subst h;simp
    ·simp;left;right;omega
    ·by_cases hr0:r=[]
     ·subst hr0;simp
     ·have:0<r.length:=List.length_pos_iff.2 hr0
      rw[h];simp;right;omega
   rw[e1,cond_true];refine .inr ⟨hno fun m hm h1 e => ?_,rfl⟩;obtain⟨d1,d2,d3,d4⟩:=y8 m;rcases hbad with h|h|h
   ·rw[h]at e;exact d3 e.symm
   ·rw[e]at h;have:=(ytb m).2 hm;omega
   ·rw[e]at h;exact d4 h1 h
  ·have hb1:r≠[]:=fun h=>hbad (.inl h)
   have hb2:r.length<=18:=by
    by_cases h:r.length<=18
    ·exact h
    ·exact absurd (.inr (.inl (by omega))) hbad
   have hb3:r.getD 0 0≠48:=fun h=>hbad (.inr (.inr h))
   have hrp:0<r.length:=List.length_pos_iff.2 hb1;have hn48:¬ (r.getD 0 0).toNat=48:=fun h=>hb3 (UInt8.toNat_inj.1 (by rw[h];rfl))
   have e1:((((w.length:Int) == 1) || decide (18<(IntKind.wrap .i64 ((w.length:Int)-1)))) || ((((w.getD 1 0).toNat:Int) == 48) && decide (1<(w.length:Int))))=false:=by
    rw[IntKind.wrap_i64,hg1,hlen];simp only[Bool.or_eq_false_iff,Bool.and_eq_false_iff,beq_eq_false_iff_ne,decide_eq_false_iff_not];refine⟨⟨by omega,by omega⟩,.inl (by omega)⟩
   rw[e1,cond_false]
   have hpow:(0+1) * 10 ^ (w.length-1)<=E18:=by
    have:10 ^ (w.length-1)<=10 ^ 18:=Nat.pow_le_pow_right (by decide) (by omega);have h6:(10:Nat) ^ 18=1000000000000000000:=by decide
    unfold E18;omega
   have hL:=yai w (yz8 w) (fun i s=>rfl) (w.length-1) 1 0 (by omega) hpow;rw[hr]at hL;rw[show(0:Int)=((0:Nat):Int)from rfl,hL];by_cases hA:yjd r
   ·rw[if_pos hA]
    have hlt:=yxs r 0 hA;have hp2:10 ^ r.length<=10 ^ 18:=Nat.pow_le_pow_right (by decide) hb2;have h6:(10:Nat) ^ 18=1000000000000000000:=by decide
    have hdv:=yil r.length r rfl hA hb1 (.inl hb3)
    have hv1:1<=digV 0 r:=by
     obtain⟨c,t,e⟩:=List.exists_cons_of_ne_nil hb1;have h5:=ypo t (10 * 0+(c.toNat-48));have hc:=hA c (by rw[e];simp);have hcn:c.toNat≠48:=by rw[e]at hn48;simpa using hn48
     have h7:1<=10 ^ t.length:=Nat.one_le_pow _ _ (by decide);have h8:1 * 1<=(10 * 0+(c.toNat-48)) * 10 ^ t.length:=Nat.mul_le_mul (by omega) h7;rw[e,ynb];omega
    simp only;have hwr:IntKind.wrap .i64 (((0:Nat):Int)-((digV 0 r:Nat):Int)) = -((digV 0 r:Nat):Int):=by rw[IntKind.wrap_i64];omega
    rw[hwr];refine .inl ⟨-((digV 0 r:Nat):Int),by unfold E18;omega,?_,rfl⟩;rw[ywb (by omega),show(-((digV 0 r:Nat):Int)).natAbs=digV 0 r by omega,hdv];exact hd1
   ·rw[if_neg hA]
    refine .inr ⟨hno fun m hm h1 e=>hA (by rw[e];exact(y8 m).1),rfl⟩
 ·have e0:(decide (0<(w.length:Int)) && (((w.getD 0 0).toNat:Int) == 45))=false:=by
   simp only[Bool.and_eq_false_iff,beq_eq_false_iff_ne,decide_eq_false_iff_not];by_cases h:0<w.length
   ·right
    intro h2;exact hneg ⟨h,UInt8.toNat_inj.1 (by show _=45;omega)⟩
   ·left;omega
  rw[e0,cond_false]
  have hno:(∀ m:Nat,m<E18->w≠Lib.decDigits m)->∀ n:Int,n.natAbs<E18->w≠Lib.itoa n:=by
   intro h n hn e;by_cases hn0:n<0
   ·rw[ywb hn0]at e
    exact hneg ⟨by rw[e];simp,by rw[e];simp⟩
   ·rw[yxd hn0]at e
    exact h n.natAbs hn e
  by_cases hbad:w=[]\/18<w.length\/(w.getD 0 0=48/\1<w.length)
  ·have e1:((((w.length:Int) == 0) || decide (18<(IntKind.wrap .i64 ((w.length:Int)-0)))) || ((((w.getD 0 0).toNat:Int) == 48) && decide (1<(w.length:Int))))=true:=by
    rw[IntKind.wrap_i64];rcases hbad with h|h|h
    ·subst h;simp
    ·simp;left;right;omega
    ·rw[h.1];simp;right;omega
   rw[e1,cond_true];refine .inr ⟨hno fun m hm e => ?_,rfl⟩;obtain⟨d1,d2,d3,d4⟩:=y8 m;rcases hbad with h|h|h
   ·rw[h]at e;exact d3 e.symm
   ·rw[e]at h;have:=(ytb m).2 hm;omega
   ·rw[e]at h
    by_cases hm0:1<=m
    ·exact d4 hm0 h.1
    ·obtain rfl:m=0:=by omega
     rw[Lib.decDigits_one (by decide)]at h;simp at h
  ·have hb1:w≠[]:=fun h=>hbad (.inl h)
   have hb2:w.length<=18:=by
    by_cases h:w.length<=18
    ·exact h
    ·exact absurd (.inr (.inl (by omega))) hbad
   have hrp:0<w.length:=List.length_pos_iff.2 hb1
   have hb3:w.getD 0 0≠48\/w.length=1:=by
    by_cases h:w.getD 0 0=48
    ·right
     by_cases h1:1<w.length
     ·exact absurd (.inr (.inr ⟨h,h1⟩)) hbad
     ·omega
    ·exact .inl h
   have e1:((((w.length:Int) == 0) || decide (18<(IntKind.wrap .i64 ((w.length:Int)-0)))) || ((((w.getD 0 0).toNat:Int) == 48) && decide (1<(w.length:Int))))=false:=by
    rw[IntKind.wrap_i64];simp only[Bool.or_eq_false_iff,Bool.and_eq_false_iff,beq_eq_false_iff_ne,decide_eq_false_iff_not];refine⟨⟨by omega,by omega⟩,?_⟩;rcases hb3 with h|h
    ·left
     intro h2;exact h (UInt8.toNat_inj.1 (by show _=48;omega))
    ·right;omega
   rw[e1,cond_false]
   have hpow:(0+1) * 10 ^ (w.length-0)<=E18:=by
    have:10 ^ (w.length-0)<=10 ^ 18:=Nat.pow_le_pow_right (by decide) (by omega);have h6:(10:Nat) ^ 18=1000000000000000000:=by decide
    unfold E18;omega
   have hL:=yai w (yk7 w) (fun i s=>rfl) (w.length-0) 0 0 (by omega) hpow;rw[List.drop_zero]at hL;rw[show(0:Int)=((0:Nat):Int)from rfl,hL];by_cases hA:yjd w
   ·rw[if_pos hA]
    have hlt:=yxs w 0 hA;have hp2:10 ^ w.length<=10 ^ 18:=Nat.pow_le_pow_right (by decide) hb2;have h6:(10:Nat) ^ 18=1000000000000000000:=by decide
    have hdv:=yil w.length w rfl hA hb1 hb3;refine .inl ⟨((digV 0 w:Nat):Int),by unfold E18;omega,?_,rfl⟩;rw[yqe,hdv]
   ·rw[if_neg hA]
    refine .inr ⟨hno fun m hm e=>hA (by rw[e];exact(y8 m).1),rfl⟩
theorem y9o (w:List UInt8) (hw:w.length<=1048576):y2b w=zq w:=(y4i w).unique (ygc w hw)
def zn (a0:Int) (a1:Int) (a2:Int):Bool:=
 (decide (a1<=a0) && decide (a0<=a2))
namespace N95
theorem DD:DOk Tryz.prog (Go.Ab.DD []):=ye _
theorem den (a0:Int) (a1:Int) (a2:Int)  : Den Tryz.prog 95 [.int .i64 a0,.int .i64 a1,.int .i64 a2] (.bool (zn a0 a1 a2)):=by
 generalize hR:zn a0 a1 a2=r;unfold zn at hR;refine di Tryz.func95 Tryz.ntmps95 Tryz.results95 ?_;intro c hL hc hk;clear hL;simp only[pars,Nat.zero_add];iterate 2 refine rS ?_
 refine AWP.ret ?_;subst hR;exact es
end N95
def D_zn : DF
 | [x0,x1,x2]=>some (.bool (zn (rdI x0) (rdI x1) (rdI x2)),false,[wI .i64 x0,wI .i64 x1,wI .i64 x2])
 | _=>none
theorem yig:OkD Tryz.prog 95 D_zn:=by unfold D_zn;exact dk N95.den
def zff (a0:Sector):Bool:=
 ((zn a0.From 0 359) && (zn a0.To 0 359))
namespace N262
theorem DD:DOk Tryz.prog (Go.Ab.DD [(95,dP D_zn)]):=ya yig.e <| ye _
theorem dn:type_of% (@D_zn.eq_1):=by and_intros<;>intros<;>rfl
theorem ol:type_of% (@zn.eq_1):=@zn.eq_1
theorem den (a0:Sector)  : Den Tryz.prog 262 [.ep (yl a0)] (.bool (zff a0)):=by
 generalize hR:zff a0=r;unfold zff at hR;refine di Tryz.func262 Tryz.ntmps262 Tryz.results262 ?_;intro c hL hc hk;obtain⟨hL0,_⟩:=hL;have hw0:bwSector a0:=y9 a0 hL0;clear hL0;simp only[pars,Nat.zero_add];iterate 2 refine rS ?_
 refine AWP.ret ?_;subst hR;exact es
end N262
def D_zff : DF
 | [x0]=>some (.bool (zff (rdP yv x0)),false,[wP yl yv x0])
 | _=>none
theorem yh3:OkD Tryz.prog 262 D_zff:=by unfold D_zff;exact dk N262.den
def zee (a0:(List UInt8)):Bool:=
 ((((a0 == [87]) || (a0 == [82])) || (a0 == [71])) || (a0 == [89]))
namespace N263
theorem DD:DOk Tryz.prog (Go.Ab.DD []):=ye _
theorem den (a0:(List UInt8))  : Den Tryz.prog 263 [.str a0] (.bool (zee a0)):=by
 generalize hR:zee a0=r;unfold zee at hR;refine di Tryz.func263 Tryz.ntmps263 Tryz.results263 ?_;intro c hL hc hk;obtain⟨hL0,_⟩:=hL;have hw0:a0.length<9223372036854775808:=Nat.lt_succ_of_le hL0;clear hL0;simp only[pars,Nat.zero_add];iterate 2 refine rS ?_
 refine AWP.ret ?_;subst hR;exact es
end N263
def D_zee : DF
 | [x0]=>some (.bool (zee (rdS x0)),false,[wS x0])
 | _=>none
theorem yu3:OkD Tryz.prog 263 D_zee:=by unfold D_zee;exact dk N263.den
def zfc (a0:Sector):Bool:=
 ((zff a0) && (zee a0.Color))
namespace N204
theorem DD:DOk Tryz.prog (Go.Ab.DD [(262,dP D_zff),(263,dP D_zee)]):=ya yh3.e <| ya yu3.e <| ye _
theorem dn:type_of% (And.intro @D_zff.eq_1 <| @D_zee.eq_1):=by and_intros<;>intros<;>rfl
theorem den (a0:Sector)  : Den Tryz.prog 204 [.ep (yl a0)] (.bool (zfc a0)):=by
 generalize hR:zfc a0=r;unfold zfc at hR;refine di Tryz.func204 Tryz.ntmps204 Tryz.results204 ?_;intro c hL hc hk;obtain⟨hL0,_⟩:=hL;have hw0:bwSector a0:=y9 a0 hL0;clear hL0;simp only[pars,Nat.zero_add];iterate 2 refine rS ?_
 refine AWP.ret ?_;subst hR;exact es
end N204
def D_zfc : DF
 | [x0]=>some (.bool (zfc (rdP yv x0)),false,[wP yl yv x0])
 | _=>none
theorem yt3:OkD Tryz.prog 204 D_zfc:=by unfold D_zfc;exact dk N204.den
def zwf (a0:Sector):Int:=
 (bif (((IntKind.wrap .i64 ((IntKind.wrap .i64 (a0.To-a0.From))+360)).tmod 360) == 0)then 360 else(IntKind.wrap .i64 ((IntKind.wrap .i64 (a0.To-a0.From))+360)).tmod 360)
namespace N205
theorem DD:DOk Tryz.prog (Go.Ab.DD []):=ye _
theorem den (a0:Sector)  : Den Tryz.prog 205 [.ep (yl a0)] (.int .i64 (zwf a0)):=by
 generalize hR:zwf a0=r;unfold zwf at hR;refine di Tryz.func205 Tryz.ntmps205 Tryz.results205 ?_;intro c hL hc hk;obtain⟨hL0,_⟩:=hL;have hw0:bwSector a0:=y9 a0 hL0;clear hL0;simp only[pars,Nat.zero_add];refine rS ?_;refine rD 11 ?_;refine rS ?_;refine AWP.cond rfl (fun hb => ?_) (fun hb => ?_)
 ·replace hR:=ct hR
  refine rS ?_;refine AWP.ret ?_;subst hR;exact es
 ·replace hR:=cf hR
  refine rS ?_;refine AWP.ret ?_;subst hR;exact es
end N205
def D_zwf : DF
 | [x0]=>some (.int .i64 (zwf (rdP yv x0)),false,[wP yl yv x0])
 | _=>none
theorem yr3:OkD Tryz.prog 205 D_zwf:=by unfold D_zwf;exact dk N205.den
def yms (a0:(List Sector)) (i1:Nat) (s1:Unit):Except (Bool) (Unit):=
 (bif ((!(zfc (a0.getD i1 default))) || (decide (0<(i1:Int)) && decide (((a0.getD i1 default).From)<=((a0.getD ((IntKind.wrap .i64 ((i1:Int)-1)).toNat) default).From))))then .error false else .ok ())
def ycn (a0:(List Sector)) (s1:Unit) (s2:Int):Except (Sum (Bool) (Int)) (Int):=
 (bif (decide (s2<(a0.length:Int)) && decide (1<(a0.length:Int)))then(bif decide (((IntKind.wrap .i64 ((IntKind.wrap .i64 (((a0.getD (((IntKind.wrap .i64 (s2+1)).tmod (a0.length:Int)).toNat) default).From)-((a0.getD ((s2).toNat) default).From)))+360)).tmod 360)<(zwf (a0.getD ((s2).toNat) default)))then .error (.inl false)else .ok (IntKind.wrap .i64 (s2+1)))else .error (.inr s2))
def zy (a0:(List Sector)):Bool:=
 (bif decide (12<(a0.length:Int))then false else(match yf (yms a0) (a0.length-0) 0 ()with|.error e=>e|.ok s1=>(match y0 (ycn a0 s1) ((a0.length-((0:Int)).toNat)+1) 0 with|.error (.inl e)=>e|.error (.inr s2)=>true|.ok _=>default)))
namespace N123
theorem DD:DOk Tryz.prog (Go.Ab.DD [(204,dP D_zfc),(205,dP D_zwf)]):=ya yt3.e <| ya yr3.e <| ye _
theorem dn:type_of% (And.intro @D_zfc.eq_1 <| @D_zwf.eq_1):=by and_intros<;>intros<;>rfl
theorem o0 {p:Prop} (h:p:=by(first|(have hb2:=hb;simp only[Bool.and_eq_true,decide_eq_true_eq]at hb2;have h9:=yt7 hW2.1 hb2.1 (by omega);and_intros<;>first|omega|exact h9.1|exact h9.2));first|done|fail):p:=h
theorem den (a0:(List Sector))  : Den Tryz.prog 123 [encL 3 yl a0] (.bool (zy a0)):=by
 generalize hR:zy a0=r;unfold zy at hR;refine di Tryz.func123 Tryz.ntmps123 Tryz.results123 ?_;intro c hL hc hk;obtain⟨hL0,_⟩:=hL;have hw0:a0.length<9223372036854775808:=Nat.lt_succ_of_le (yc hL0).1;have hw1:∀ v∈a0,bwSector v:=fun v hv=>y9 v ((yc hL0).2 v hv)
 clear hL0;simp only[pars,Nat.zero_add];iterate 3 refine rS ?_
 refine AWP.cond rfl (fun hb => ?_) (fun hb => ?_)
 ·replace hR:=ct hR
  refine rS ?_;refine AWP.ret ?_;subst hR;exact es
 ·replace hR:=cf hR
  refine rS ?_;refine AWP.block ?_;generalize hz1:yf (yms a0) (a0.length-0) 0 ()=z1 at hR;refine AWP.range (yms a0) (fun i1 s1=>⟨[(0,encL 3 yl a0),(3,.int .i64 (a0.length:Int)),(4,.int .i64 (i1:Int))],[]⟩) (fun i1 s1=>True) (a0.length) 0 () [] hz1 ot wt sm ?_;clear hz1;intro i1 s1 hi1 hW1 hz1;refine rS ?_;refine AWP.cond rfl (fun hb => ?_) (fun hb => ?_)
  ·have hlt1:i1<a0.length:=ot
   rw[yp hlt1]at hz1;simp only[yms]at hz1;refine rD 23 ?_;refine AWP.cond rfl (fun hb => ?_) (fun hb => ?_)
   ·simp only[hb,cond_true]at hz1
    refine rS ?_;refine AWP.ret ?_;subst hz1;dsimp only at hR;subst hR;exact es
   ·simp only[hb,cond_false]at hz1
    refine rS ?_;exact⟨_,[],hlt1,wt,hz1,sm⟩
  ·obtain rfl:i1=a0.length:=ot
   rw[yq (Nat.le_refl _)]at hz1;subst hz1;dsimp only at hR;refine AWP.exit ?_;refine yb ?_;refine rS ?_;refine AWP.block ?_;generalize hz2:y0 (ycn a0 s1) ((a0.length-((0:Int)).toNat)+1) 0=z2 at hR;refine AWP.whileW (ycn a0 s1) (fun s2=>⟨[(0,encL 3 yl a0),(3,.int .i64 (a0.length:Int)),(5,.int .i64 s2)],[]⟩) (fun s2=>0<=s2/\s2<=a0.length) (fun s2=>a0.length-(s2).toNat) ((a0.length-((0:Int)).toNat)+1) 0 [] hz2 m0 wt sm ?_;clear hz2;intro s2 k2 hW2 hm2 hz2;simp only[ycn]at hz2;refine rS ?_;refine AWP.cond rfl (fun hb => ?_) (fun hb => ?_)
   ·simp only[hb,cond_true]at hz2
    refine rD 21 ?_;refine AWP.cond rfl (fun hb => ?_) (fun hb => ?_)
    ·simp only[hb,cond_true]at hz2
     refine rS ?_;refine AWP.ret ?_;subst hz2;dsimp only at hR;subst hR;exact es
    ·simp only[hb,cond_false]at hz2
     refine rS ?_;exact⟨_,[],ms,wt,hz2,sm⟩
   ·simp only[hb,cond_false]at hz2
    refine AWP.exit ?_;refine yb ?_;subst hz2;dsimp only at hR;refine rS ?_;refine AWP.ret ?_;subst hR;exact es
end N123
def D_zy : DF
 | [x0]=>some (.bool (zy (rdL yv x0)),false,[wL 3 yl yv x0])
 | _=>none
theorem yt6:OkD Tryz.prog 123 D_zy:=by unfold D_zy;exact dk N123.den
def zac (a0:Int):Bool:=
 (zn a0 1 9)
namespace N228
theorem DD:DOk Tryz.prog (Go.Ab.DD [(95,dP D_zn)]):=ya yig.e <| ye _
theorem dn:type_of% (@D_zn.eq_1):=by and_intros<;>intros<;>rfl
theorem ol:type_of% (@zn.eq_1):=@zn.eq_1
theorem den (a0:Int)  : Den Tryz.prog 228 [.int .i64 a0] (.bool (zac a0)):=by
 generalize hR:zac a0=r;unfold zac at hR;refine di Tryz.func228 Tryz.ntmps228 Tryz.results228 ?_;intro c hL hc hk;clear hL;simp only[pars,Nat.zero_add];iterate 2 refine rS ?_
 refine AWP.ret ?_;subst hR;exact es
end N228
def D_zac : DF
 | [x0]=>some (.bool (zac (rdI x0)),false,[wI .i64 x0])
 | _=>none
theorem yqo:OkD Tryz.prog 228 D_zac:=by unfold D_zac;exact dk N228.den
def zkd (a0:Int):(List UInt8):=
 (([[],[82],[71],[66,89],[66,89,66],[89,66],[89,66,89],[66,82,66],[82,87],[89]]:List (List UInt8)).getD ((a0).toNat) default)
namespace N229
theorem DD:DOk Tryz.prog (Go.Ab.DD []):=ye _
theorem lx {p:Prop} (h:p:=by(exact lxx);first|done|fail):p:=h
theorem den (a0:Int) (hp0:0<=a0) (hp1:a0<=9):Den Tryz.prog 229 [.int .i64 a0] (.str (zkd a0)):=by
 generalize hR:zkd a0=r;unfold zkd at hR;refine di Tryz.func229 Tryz.ntmps229 Tryz.results229 ?_;intro c hL hc hk;clear hL;simp only[pars,Nat.zero_add];iterate 2 refine rS ?_
 refine AWP.ret ?_;subst hR;exact es
end N229
def D_zkd : DF
 | [x0]=>some (.str (zkd (rdI x0)),false,[wI .i64 x0,0<=(rdI x0),(rdI x0)<=9])
 | _=>none
theorem y8n:OkD Tryz.prog 229 D_zkd:=by unfold D_zkd;exact dk N229.den
def zhb (a0:Int):(List (List UInt8)):=
 (bif (a0 == 1)then[[99,97,110],[112,105,108,108,97,114],[115,112,97,114]]else(bif (a0 == 2)then[[99,111,110,101],[112,105,108,108,97,114],[115,112,97,114]]else(bif (a0 == 8)then[[115,112,104,101,114,101],[112,105,108,108,97,114],[115,112,97,114]]else(bif (a0 == 9)then[[99,97,110],[99,111,110,101],[112,105,108,108,97,114],[115,112,97,114],[115,112,104,101,114,101]]else[[112,105,108,108,97,114],[115,112,97,114]]))))
namespace N230
theorem DD:DOk Tryz.prog (Go.Ab.DD []):=ye _
theorem lx {p:Prop} (h:p:=by(exact lxx);first|done|fail):p:=h
theorem den (a0:Int)  : Den Tryz.prog 230 [.int .i64 a0] (ownL 9 1 eS (zhb a0)):=by
 generalize hR:zhb a0=r;unfold zhb at hR;refine di Tryz.func230 Tryz.ntmps230 Tryz.results230 ?_;intro c hL hc hk;clear hL;simp only[pars,Nat.zero_add];iterate 3 refine rS ?_
 refine AWP.cond rfl (fun hb => ?_) (fun hb => ?_)
 ·replace hR:=ct hR
  refine rS ?_;refine AWP.ret ?_;subst hR;exact es
 ·replace hR:=cf hR
  refine rS ?_;refine AWP.cond rfl (fun hb => ?_) (fun hb => ?_)
  ·replace hR:=ct hR
   refine rS ?_;refine AWP.ret ?_;subst hR;exact es
  ·replace hR:=cf hR
   refine rS ?_;refine AWP.cond rfl (fun hb => ?_) (fun hb => ?_)
   ·replace hR:=ct hR
    refine rS ?_;refine AWP.ret ?_;subst hR;exact es
   ·replace hR:=cf hR
    refine rS ?_;refine AWP.cond rfl (fun hb => ?_) (fun hb => ?_)
    ·replace hR:=ct hR
     refine rS ?_;refine AWP.ret ?_;subst hR;exact es
    ·replace hR:=cf hR
     refine rS ?_;refine AWP.ret ?_;subst hR;exact es
end N230
def D_zhb : DF
 | [x0]=>some (ownL 9 1 eS (zhb (rdI x0)),false,[wI .i64 x0])
 | _=>none
def Dz_zhb : DF
 | [x0]=>some (ownL 9 1 eS (zhb (rdI x0)),true,[wI .i64 x0])
 | _=>none
theorem y3t:OkD Tryz.prog 230 D_zhb:=by unfold D_zhb;exact dk N230.den
theorem yvz:OkD Tryz.prog 230 Dz_zhb:=by unfold Dz_zhb;exact dk N230.den
def znd (a0:Int):(List UInt8):=
 (([[],[99,97,110],[99,111,110,101],[117,112],[98,97,115,101],[100,111,119,110],[112,111,105,110,116],[98,97,108,108,115],[98,97,108,108],[99,114,111,115,115]]:List (List UInt8)).getD ((a0).toNat) default)
namespace N231
theorem DD:DOk Tryz.prog (Go.Ab.DD []):=ye _
theorem lx {p:Prop} (h:p:=by(exact lxx);first|done|fail):p:=h
theorem den (a0:Int) (hp0:0<=a0) (hp1:a0<=9):Den Tryz.prog 231 [.int .i64 a0] (.str (znd a0)):=by
 generalize hR:znd a0=r;unfold znd at hR;refine di Tryz.func231 Tryz.ntmps231 Tryz.results231 ?_;intro c hL hc hk;clear hL;simp only[pars,Nat.zero_add];iterate 2 refine rS ?_
 refine AWP.ret ?_;subst hR;exact es
end N231
def D_znd : DF
 | [x0]=>some (.str (znd (rdI x0)),false,[wI .i64 x0,0<=(rdI x0),(rdI x0)<=9])
 | _=>none
theorem y5n:OkD Tryz.prog 231 D_znd:=by unfold D_znd;exact dk N231.den
def ygk (a0:Mark) (i1:Nat) (s1:Unit):Except (Bool) (Unit):=
 (bif (((zhb a0.Kind).getD i1 default) == a0.Shape)then .error true else .ok ())
def zrb (a0:Mark):Bool:=
 (bif (a0.Kind == 0)then(a0.Kind == 0 && (a0.Colors == [] && (a0.Shape == [] && a0.Topmark == [])))else(bif (((!(zac a0.Kind)) || (a0.Colors != (zkd a0.Kind))) || ((a0.Topmark != []) && (a0.Topmark != (znd a0.Kind))))then false else(match yf (ygk a0) (((zhb a0.Kind).length)-0) 0 ()with|.error e=>e|.ok s1=>false)))
namespace N200
theorem DD:DOk Tryz.prog (Go.Ab.DD [(228,dP D_zac),(229,dP D_zkd),(230,dP D_zhb),(231,dP D_znd)]):=ya yqo.e <| ya y8n.e <| ya y3t.e <| ya y5n.e <| ye _
theorem dn:type_of% (And.intro @D_zac.eq_1 <| And.intro @D_zkd.eq_1 <| And.intro @D_zhb.eq_1 <| @D_znd.eq_1):=by and_intros<;>intros<;>rfl
theorem o0 {p:Prop} (h:p:=by(first|(simp only[zac,zn];refine⟨fun h => ?_,fun h _ => ?_⟩<;>(simp at h;omega)));first|done|fail):p:=h
theorem den (a0:Mark)  : Den Tryz.prog 200 [.ep (yzf a0)] (.bool (zrb a0)):=by
 generalize hR:zrb a0=r;unfold zrb at hR;refine di Tryz.func200 Tryz.ntmps200 Tryz.results200 ?_;intro c hL hc hk;obtain⟨hL0,_⟩:=hL;have hw0:bwMark a0:=yuh a0 hL0;clear hL0;simp only[pars,Nat.zero_add];have hs5:(zhb a0.Kind).length<=5:=by unfold zhb;simp only[Bool.cond_eq_ite];(repeat' split)<;>simp
 iterate 2 refine rS ?_
 refine AWP.cond rfl (fun hb => ?_) (fun hb => ?_)
 ·replace hR:=ct hR
  refine rS ?_;refine AWP.ret ?_;subst hR;exact es
 ·replace hR:=cf hR
  refine rD 37 ?_;refine AWP.cond rfl (fun hb => ?_) (fun hb => ?_)
  ·replace hR:=ct hR
   refine rS ?_;refine AWP.ret ?_;subst hR;exact es
  ·replace hR:=cf hR
   iterate 2 refine rS ?_
   refine AWP.block ?_;generalize hz1:yf (ygk a0) (((zhb a0.Kind).length)-0) 0 ()=z1 at hR;refine AWP.range (ygk a0) (fun i1 s1=>⟨[(0,.ep (yzf a0)),(3,.ref 0 1 0 ((zhb a0.Kind).length)),(4,.int .i64 (i1:Int))],[.arr 9 1 (zhb a0.Kind).length (fun j=>eS ((zhb a0.Kind).getD j default))]⟩) (fun i1 s1=>True) (((zhb a0.Kind).length)) 0 () [0] hz1 ot wt sm ?_;clear hz1;intro i1 s1 hi1 hW1 hz1;refine rS ?_;refine AWP.cond rfl (fun hb => ?_) (fun hb => ?_)
   ·have hlt1:i1<((zhb a0.Kind).length):=ot
    rw[yp hlt1]at hz1;simp only[ygk]at hz1;refine rD 8 ?_;refine AWP.cond rfl (fun hb => ?_) (fun hb => ?_)
    ·simp only[hb,cond_true]at hz1
     refine rS ?_;refine AWP.ret ?_;subst hz1;dsimp only at hR;subst hR;exact es
    ·simp only[hb,cond_false]at hz1
     refine rS ?_;exact⟨_,[0],hlt1,wt,hz1,sm⟩
   ·obtain rfl:i1=((zhb a0.Kind).length):=ot
    rw[yq (Nat.le_refl _)]at hz1;subst hz1;dsimp only at hR;refine AWP.exit ?_;refine yb ?_;refine rS ?_;refine AWP.ret ?_;subst hR;exact es
end N200
def D_zrb : DF
 | [x0]=>some (.bool (zrb (rdP ycj x0)),false,[wP yzf ycj x0])
 | _=>none
theorem yl0:OkD Tryz.prog 200 D_zrb:=by unfold D_zrb;exact dk N200.den
def zuc (a0:Mark):Bool:=
 (zrb a0)
namespace N120
theorem DD:DOk Tryz.prog (Go.Ab.DD [(200,dP D_zrb)]):=ya yl0.e <| ye _
theorem dn:type_of% (@D_zrb.eq_1):=by and_intros<;>intros<;>rfl
theorem den (a0:Mark)  : Den Tryz.prog 120 [.agg (yzf a0)] (.bool (zuc a0)):=by
 generalize hR:zuc a0=r;unfold zuc at hR;refine di Tryz.func120 Tryz.ntmps120 Tryz.results120 ?_;intro c hL hc hk;obtain⟨hL0,_⟩:=hL;have hw0:bwMark a0:=yuh a0 hL0;clear hL0;simp only[pars,Nat.zero_add];iterate 2 refine rS ?_
 refine AWP.ret ?_;subst hR;exact es
end N120
def D_zuc : DF
 | [x0]=>some (.bool (zuc (rdG ycj x0)),false,[wG yzf ycj x0])
 | _=>none
theorem yn2:OkD Tryz.prog 120 D_zuc:=by unfold D_zuc;exact dk N120.den
def zre (a0:Int):Bool:=
 (decide (97<=a0) && decide (a0<=122))
namespace N199
theorem DD:DOk Tryz.prog (Go.Ab.DD []):=ye _
theorem den (a0:Int)  : Den Tryz.prog 199 [.int .u8 a0] (.bool (zre a0)):=by
 generalize hR:zre a0=r;unfold zre at hR;refine di Tryz.func199 Tryz.ntmps199 Tryz.results199 ?_;intro c hL hc hk;clear hL;simp only[pars,Nat.zero_add];iterate 2 refine rS ?_
 refine AWP.ret ?_;subst hR;exact es
end N199
def D_zre : DF
 | [x0]=>some (.bool (zre (rdI x0)),false,[wI .u8 x0])
 | _=>none
theorem yu2:OkD Tryz.prog 199 D_zre:=by unfold D_zre;exact dk N199.den
def ymt (a0:(List UInt8)) (i1:Nat) (s1:Unit):Except (Bool) (Unit):=
 (bif ((!(zre ((a0.getD i1 0).toNat:Int))) && (!(zef ((a0.getD i1 0).toNat:Int))))then .error false else .ok ())
def zlc (a0:(List UInt8)):Bool:=
 (bif (((a0 == []) || decide (10<(a0.length:Int))) || (!(zre ((a0.getD 0 0).toNat:Int))))then false else(match yf (ymt a0) (a0.length-0) 0 ()with|.error e=>e|.ok s1=>true))
namespace N118
theorem DD:DOk Tryz.prog (Go.Ab.DD [(171,dP D_zef),(199,dP D_zre)]):=ya ym1.e <| ya yu2.e <| ye _
theorem dn:type_of% (And.intro @D_zef.eq_1 <| @D_zre.eq_1):=by and_intros<;>intros<;>rfl
theorem den (a0:(List UInt8))  : Den Tryz.prog 118 [.str a0] (.bool (zlc a0)):=by
 generalize hR:zlc a0=r;unfold zlc at hR;refine di Tryz.func118 Tryz.ntmps118 Tryz.results118 ?_;intro c hL hc hk;obtain⟨hL0,_⟩:=hL;have hw0:a0.length<9223372036854775808:=Nat.lt_succ_of_le hL0;clear hL0;simp only[pars,Nat.zero_add];iterate 2 refine rS ?_
 refine AWP.cond rfl (fun hb => ?_) (fun hb => ?_)
 ·replace hR:=ct hR
  refine rS ?_;refine AWP.ret ?_;subst hR;exact es
 ·replace hR:=cf hR
  refine rS ?_;refine AWP.block ?_;generalize hz1:yf (ymt a0) (a0.length-0) 0 ()=z1 at hR;refine AWP.range (ymt a0) (fun i1 s1=>⟨[(0,.str a0),(3,.int .i64 (i1:Int))],[]⟩) (fun i1 s1=>True) (a0.length) 0 () [] hz1 ot wt sm ?_;clear hz1;intro i1 s1 hi1 hW1 hz1;refine rS ?_;refine AWP.cond rfl (fun hb => ?_) (fun hb => ?_)
  ·have hlt1:i1<a0.length:=ot
   rw[yp hlt1]at hz1;simp only[ymt]at hz1;refine rS ?_;refine AWP.cond rfl (fun hb => ?_) (fun hb => ?_)
   ·simp only[hb,cond_true]at hz1
    refine rS ?_;refine AWP.ret ?_;subst hz1;dsimp only at hR;subst hR;exact es
   ·simp only[hb,cond_false]at hz1
    refine rS ?_;exact⟨_,[],hlt1,wt,hz1,sm⟩
  ·obtain rfl:i1=a0.length:=ot
   rw[yq (Nat.le_refl _)]at hz1;subst hz1;dsimp only at hR;refine AWP.exit ?_;refine yb ?_;refine rS ?_;refine AWP.ret ?_;subst hR;exact es
end N118
def D_zlc : DF
 | [x0]=>some (.bool (zlc (rdS x0)),false,[wS x0])
 | _=>none
theorem yf0:OkD Tryz.prog 118 D_zlc:=by unfold D_zlc;exact dk N118.den
end Go.Ab
