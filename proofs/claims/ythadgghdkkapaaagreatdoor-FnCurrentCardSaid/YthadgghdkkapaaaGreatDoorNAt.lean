/- A part of a proof: walks of functions and lemmas of our own. No conditions. -/
import Derived.Test.YthadgghdkkapaaaGreatDoorNAl
import Derived.Test.YthadgghdkkapaaaGreatDoorNAs
import Derived.Test.YthadgghdkkapaaaGreatDoorNAo
import Derived.Test.YthadgghdkkapaaaGreatDoorNAr
set_option linter.unusedSectionVars false
set_option linter.unusedVariables false
set_option linter.unusedSimpArgs false
set_option maxHeartbeats 1000000
namespace Go.Ab
open Go Go.Proofs
def yxo (a0:l00Src) (q2:l00Src) (q8:l00Src) (q10:l00Src) (s1:Int×Int×l00Src×List Sector):Except (Sum ((List Sector)×l00Src) (Int×Int×l00Src×List Sector)) (Int×Int×l00Src×List Sector):=
 (bif decide (0<s1.2.1)then(bnd ((za s1.2.2.1 70).2) fun q20=>(bif (decide ((IntKind.wrap .i64 (((za q2 60).1)+360))<(IntKind.wrap .i64 (s1.1+(IntKind.wrap .i64 (((za s1.2.2.1 70).1)+1))))) || decide (359<s1.1))then .error (.inr (s1.1,s1.2.1,q20,s1.2.2.2))else(bnd ((zo q20 [[87],[82],[71],[89]]).2) fun q22=>(bnd ((zi q22 2).2) fun q24=>(bif ((zi q22 2).1)then(bnd ((za q24 40).2) fun q26=>.ok (IntKind.wrap .i64 ((IntKind.wrap .i64 (s1.1+(IntKind.wrap .i64 (((za s1.2.2.1 70).1)+1))))+((za q24 40).1)),IntKind.wrap .i64 (s1.2.1-1),q26,s1.2.2.2++[{ From:=s1.1,To:=(IntKind.wrap .i64 (s1.1+(IntKind.wrap .i64 (((za s1.2.2.1 70).1)+1)))).tmod 360,Color:=((zo q20 [[87],[82],[71],[89]]).1):Sector }]))else .ok (IntKind.wrap .i64 (s1.1+(IntKind.wrap .i64 (((za s1.2.2.1 70).1)+1))),IntKind.wrap .i64 (s1.2.1-1),q24,s1.2.2.2++[{ From:=s1.1,To:=(IntKind.wrap .i64 (s1.1+(IntKind.wrap .i64 (((za s1.2.2.1 70).1)+1)))).tmod 360,Color:=((zo q20 [[87],[82],[71],[89]]).1):Sector }]))))))else .error (.inr (s1.1,s1.2.1,s1.2.2.1,s1.2.2.2)))
def zp (a0:l00Src):(List Sector)×l00Src:=
 (bnd ((za a0 6).2) fun q2=>(bif (((za a0 6).1) == 0)then(([]:List Sector),q2)else(bif (((za a0 6).1) == 1)then(bnd ((za q2 360).2) fun q4=>(bnd ((zo q4 [[87],[82],[71],[89]]).2) fun q6=>([{ From:=((za q2 360).1),To:=((za q2 360).1),Color:=((zo q4 [[87],[82],[71],[89]]).1):Sector }],q6)))else(bnd ((za q2 60).2) fun q8=>(bnd ((za q8 5).2) fun q10=>(match yqb (yxo a0 q2 q8 q10) ((((IntKind.wrap .i64 (((za q8 5).1)+1))).toNat)+1) (((za q2 60).1),IntKind.wrap .i64 (((za q8 5).1)+1),q10,([]:List Sector))with|.error (.inl e)=>e|.error (.inr s1)=>(s1.2.2.2,s1.2.2.1)|.ok _=>default))))))
namespace N196
theorem DD:DOk Tryz.prog (Go.Ab.DD [(95,dM [true,false] D_za),(96,dM [true,true] D_zo),(99,dM [true,false] D_zi)]):=ya ybd.e <| ya y7o.e <| ya yol.e <| ye _
theorem dn:type_of% (And.intro @D_za.eq_1 <| And.intro @D_zo.eq_1 <| @D_zi.eq_1):=by and_intros<;>intros<;>rfl
theorem o1 {p:Prop} (h:p:=by(first|(refine SrcOk.mono (by repeat' first|assumption|exact SrcOk.next ‹_› | apply SrcOk.next|apply SrcOk.pick|apply SrcOk.one|apply SrcOk.among|apply SrcOk.text|apply SrcOk.colors|apply SrcOk.point|apply SrcOk.chr|apply SrcOk.sectors|apply SrcOk.aid|apply SrcOk.aids|apply SrcOk.notice|omega) (by omega))|(exact SrcOk.mono hW1.2.2.1 (by omega)));first|done|fail):p:=h
theorem o2 {p:Prop} (h:p:=by(first|((repeat' with_reducible apply And.intro)<;>first|(simp only[List.length_append,List.length_singleton];(first|done|fail))|(rw[IntKind.wrap_i64];omega)|(intro j hj;by_cases hji:j<s1.2.2.2.length;(focus(simp only[yyl hji,yts hji,cond_true];first|(first|done|fail)|with_reducible rfl));(have e0:j-s1.2.2.2.length=0:=by omega);(simp only[y4n hji hj,yyu hji,cond_false,e0,elt,borrowL,borrow];first|(first|done|fail)|with_reducible rfl))|decide));first|done|fail):p:=h
theorem lx {p:Prop} (h:p:=by(exact lxx);first|done|fail):p:=h
set_option maxHeartbeats 2000000 in
set_option maxRecDepth 20000 in
theorem den (a0:l00Src) (hp0:SrcOk 600000 a0):DenM Tryz.prog 196 [.op (yr a0)] (ownL 165 3 yq ((zp a0).1)) [(.op (yr ((zp a0).2)))]:=by
 generalize hR:zp a0=r;unfold zp at hR;refine dj (gb:=[true]) Tryz.func196 Tryz.ntmps196 Tryz.results196 ?_;intro c hL hc hk;obtain⟨hL0,_⟩:=hL;have hw0:bwl00Src a0:=ybb a0 hL0;clear hL0;simp only[adEL,adE,adRL,adR,ownL,encL,sv,List.nil_append,List.append_nil,List.cons_append,List.length_cons,List.length_nil,pars,Nat.zero_add,Nat.reduceAdd]at hk ⊢;iterate 3 refine rS ?_
 generalize hq2:(za a0 6).2=q2 at hR ⊢;replace hR:=bn hR;have hS_q2:SrcOk (600002) q2:=by rw[<- hq2];exact SrcOk.pick hp0 (by omega)
 refine rS ?_;refine AWP.cond rfl (fun hb => ?_) (fun hb => ?_)
 ·replace hR:=ct hR
  refine rS ?_;refine AWP.ret ?_;subst hR;exact es
 ·replace hR:=cf hR
  refine rS ?_;refine AWP.cond rfl (fun hb => ?_) (fun hb => ?_)
  ·replace hR:=ct hR
   refine rS ?_;generalize hq4:(za q2 360).2=q4 at hR ⊢;replace hR:=bn hR;have hS_q4:SrcOk (600004) q4:=by rw[<- hq4];exact SrcOk.pick hS_q2 (by omega)
   refine rS ?_;generalize hq6:(zo q4 [[87],[82],[71],[89]]).2=q6 at hR ⊢;replace hR:=bn hR;have hS_q6:SrcOk (600006) q6:=by rw[<- hq6];exact SrcOk.text hS_q4 (by omega)
   refine AWP.ret ?_;subst hR;exact es
  ·replace hR:=cf hR
   refine rS ?_;generalize hq8:(za q2 60).2=q8 at hR ⊢;replace hR:=bn hR;have hS_q8:SrcOk (600004) q8:=by rw[<- hq8];exact SrcOk.pick hS_q2 (by omega)
   iterate 2 refine rS ?_
   generalize hq10:(za q8 5).2=q10 at hR ⊢;replace hR:=bn hR;have hS_q10:SrcOk (600006) q10:=by rw[<- hq10];exact SrcOk.pick hS_q8 (by omega)
   refine AWP.block ?_;generalize hz1:yqb (yxo a0 q2 q8 q10) ((((IntKind.wrap .i64 (((za q8 5).1)+1))).toNat)+1) (((za q2 60).1),IntKind.wrap .i64 (((za q8 5).1)+1),q10,([]:List Sector))=z1 at hR;refine AWP.whileW (yxo a0 q2 q8 q10) (fun s1=>⟨[(0,.ptr 0 0),(3,.ref 1 3 0 s1.2.2.2.length),(5,.int .i64 s1.1),(6,.int .i64 ((za q2 60).1)),(7,.int .i64 s1.2.1)],[.box [encL 1 eIu8 s1.2.2.1.code,.int .i64 s1.2.2.1.at_,.int .u64 s1.2.2.1.seed],.arr 165 3 s1.2.2.2.length (fun j=>yq (s1.2.2.2.getD j default))]⟩) (fun s1=>0<=s1.2.1/\s1.2.1<=5/\SrcOk (600040+20 * (5-s1.2.1)) s1.2.2.1/\s1.2.2.2.length<=(5-s1.2.1).toNat) (fun s1=>(s1.2.1).toNat) ((((IntKind.wrap .i64 (((za q8 5).1)+1))).toNat)+1) (((za q2 60).1),IntKind.wrap .i64 (((za q8 5).1)+1),q10,([]:List Sector)) [0,1] hz1 m0 (by(have h2:=yj 5 hS_q8 (by omega);have h3:=h2.2 (by omega);have hwr:IntKind.wrap .i64 (((za q8 5).1)+1)=((za q8 5).1)+1:=(by rw[IntKind.wrap_i64];omega);simp only[hwr];exact⟨by omega,by omega,SrcOk.mono (by assumption) (by omega),by simp⟩)) sm ?_;clear hz1;intro s1 k1 hW1 hm1 hz1;simp only[yxo]at hz1;refine rS ?_;refine AWP.cond rfl (fun hb => ?_) (fun hb => ?_)
   ·simp only[hb,cond_true]at hz1
    refine rS ?_;generalize hq20:(za s1.2.2.1 70).2=q20 at hz1 ⊢;rw[bndv q20]at hz1;have hS_q20:SrcOk (600040+20 * (5-s1.2.1)+2) q20:=by rw[<- hq20];exact SrcOk.pick hW1.2.2.1 (by omega)
    refine rS ?_;refine AWP.cond rfl (fun hb => ?_) (fun hb => ?_)
    ·simp only[hb,cond_true]at hz1
     refine AWP.exit ?_;refine yhg rfl ?_;refine yd ?_;subst hz1;dsimp only at hR;refine rS ?_;refine AWP.ret ?_;subst hR;exact es
    ·simp only[hb,cond_false]at hz1
     iterate 2 refine rS ?_
     generalize hq22:(zo q20 [[87],[82],[71],[89]]).2=q22 at hz1 ⊢;rw[bndv q22]at hz1;have hS_q22:SrcOk (600040+20 * (5-s1.2.1)+2+2) q22:=by rw[<- hq22];exact SrcOk.text hS_q20 (by omega)
     iterate 3 refine rS ?_
     generalize hq24:(zi q22 2).2=q24 at hz1 ⊢;rw[bndv q24]at hz1;have hS_q24:SrcOk (600040+20 * (5-s1.2.1)+2+2+2) q24:=by rw[<- hq24];exact SrcOk.one hS_q22 (by omega)
     refine AWP.cond rfl (fun hb => ?_) (fun hb => ?_)
     ·simp only[hb,cond_true]at hz1
      refine rS ?_;generalize hq26:(za q24 40).2=q26 at hz1 ⊢;rw[bndv q26]at hz1;have hS_q26:SrcOk (600040+20 * (5-s1.2.1)+2+2+2+2) q26:=by rw[<- hq26];exact SrcOk.pick hS_q24 (by omega)
      refine rS ?_;clear hR;exact⟨_,[0,5],by(have hpos:0<s1.2.1:=of_decide_eq_true (by assumption);have hwr:IntKind.wrap .i64 (s1.2.1-1)=s1.2.1-1:=(by rw[IntKind.wrap_i64];omega);(try dsimp only);rw[hwr];omega),by(have hpos:0<s1.2.1:=of_decide_eq_true (by assumption);have hwr:IntKind.wrap .i64 (s1.2.1-1)=s1.2.1-1:=(by rw[IntKind.wrap_i64];omega);(try dsimp only);rw[hwr];have hG:=hW1.2.2.2;exact⟨by omega,by omega,SrcOk.mono (by assumption) (by omega),by simp only[List.length_append,List.length_cons,List.length_nil];omega⟩),hz1,sm⟩
     ·simp only[hb,cond_false]at hz1
      refine rS ?_;clear hR;exact⟨_,[0,5],by(have hpos:0<s1.2.1:=of_decide_eq_true (by assumption);have hwr:IntKind.wrap .i64 (s1.2.1-1)=s1.2.1-1:=(by rw[IntKind.wrap_i64];omega);(try dsimp only);rw[hwr];omega),by(have hpos:0<s1.2.1:=of_decide_eq_true (by assumption);have hwr:IntKind.wrap .i64 (s1.2.1-1)=s1.2.1-1:=(by rw[IntKind.wrap_i64];omega);(try dsimp only);rw[hwr];have hG:=hW1.2.2.2;exact⟨by omega,by omega,SrcOk.mono (by assumption) (by omega),by simp only[List.length_append,List.length_cons,List.length_nil];omega⟩),hz1,sm⟩
   ·simp only[hb,cond_false]at hz1
    refine AWP.exit ?_;refine yd ?_;subst hz1;dsimp only at hR;refine rS ?_;refine AWP.ret ?_;subst hR;exact es
end N196
def D_zp : List AV -> Option (AV × List AV × List Prop)
 | [x0]=>some (ownL 165 3 yq ((zp (rdQ yt x0)).1),[(.op (yr ((zp (rdQ yt x0)).2)))],[wQ yr yt x0,SrcOk 600000 (rdQ yt x0)])
 | _=>none
theorem y5z:OkM Tryz.prog 196 D_zp:=by unfold D_zp;exact dm N196.den
def zdb (a0:l00Src):Point×l00Src:=
 (bnd ((zb a0 ([20,100,100,100]:List Int)).2) fun q2=>(bnd ((za q2 ((zb a0 ([20,100,100,100]:List Int)).1)).2) fun q4=>(bnd ((za q4 ((zb a0 ([20,100,100,100]:List Int)).1)).2) fun q6=>(bnd ((zi q6 3).2) fun q8=>(bif ((zi q6 3).1)then(bnd ((za q8 200).2) fun q10=>(bnd ((zi q10 3).2) fun q12=>(bif ((zi q10 3).1)then(bnd ((za q12 200).2) fun q14=>({ X:=IntKind.wrap .i64 ((IntKind.wrap .i64 (10000+(IntKind.wrap .i64 (((za q2 ((zb a0 ([20,100,100,100]:List Int)).1)).1) * 100))))+((za q8 200).1)),Y:=IntKind.wrap .i64 ((IntKind.wrap .i64 (10000+(IntKind.wrap .i64 (((za q4 ((zb a0 ([20,100,100,100]:List Int)).1)).1) * 100))))+((za q12 200).1)):Point },q14))else({ X:=IntKind.wrap .i64 ((IntKind.wrap .i64 (10000+(IntKind.wrap .i64 (((za q2 ((zb a0 ([20,100,100,100]:List Int)).1)).1) * 100))))+((za q8 200).1)),Y:=IntKind.wrap .i64 (10000+(IntKind.wrap .i64 (((za q4 ((zb a0 ([20,100,100,100]:List Int)).1)).1) * 100))):Point },q12))))else(bnd ((zi q8 3).2) fun q16=>(bif ((zi q8 3).1)then(bnd ((za q16 200).2) fun q18=>({ X:=IntKind.wrap .i64 (10000+(IntKind.wrap .i64 (((za q2 ((zb a0 ([20,100,100,100]:List Int)).1)).1) * 100))),Y:=IntKind.wrap .i64 ((IntKind.wrap .i64 (10000+(IntKind.wrap .i64 (((za q4 ((zb a0 ([20,100,100,100]:List Int)).1)).1) * 100))))+((za q16 200).1)):Point },q18))else({ X:=IntKind.wrap .i64 (10000+(IntKind.wrap .i64 (((za q2 ((zb a0 ([20,100,100,100]:List Int)).1)).1) * 100))),Y:=IntKind.wrap .i64 (10000+(IntKind.wrap .i64 (((za q4 ((zb a0 ([20,100,100,100]:List Int)).1)).1) * 100))):Point },q16))))))))
namespace N98
theorem DD:DOk Tryz.prog (Go.Ab.DD [(95,dM [true,false] D_za),(97,dM [true,true] D_zb),(99,dM [true,false] D_zi)]):=ya ybd.e <| ya yto.e <| ya yol.e <| ye _
theorem dn:type_of% (And.intro @D_za.eq_1 <| And.intro @D_zb.eq_1 <| @D_zi.eq_1):=by and_intros<;>intros<;>rfl
theorem o1 {p:Prop} (h:p:=by(first|(refine SrcOk.mono (by repeat' first|assumption|exact SrcOk.next ‹_› | apply SrcOk.next|apply SrcOk.pick|apply SrcOk.one|apply SrcOk.among|apply SrcOk.text|apply SrcOk.colors|apply SrcOk.point|apply SrcOk.chr|apply SrcOk.sectors|apply SrcOk.aid|apply SrcOk.aids|apply SrcOk.notice|omega) (by omega)));first|done|fail):p:=h
theorem lx {p:Prop} (h:p:=by(exact lxx);first|done|fail):p:=h
set_option maxHeartbeats 2000000 in
set_option maxRecDepth 20000 in
theorem den (a0:l00Src) (hp0:SrcOk 700000 a0):DenM Tryz.prog 98 [.op (yr a0)] (.agg (ylg ((zdb a0).1))) [(.op (yr ((zdb a0).2)))]:=by
 generalize hR:zdb a0=r;unfold zdb at hR;refine dj (gb:=[true]) Tryz.func98 Tryz.ntmps98 Tryz.results98 ?_;intro c hL hc hk;obtain⟨hL0,_⟩:=hL;have hw0:bwl00Src a0:=ybb a0 hL0;clear hL0;simp only[adEL,adE,adRL,adR,ownL,encL,sv,List.nil_append,List.append_nil,List.cons_append,List.length_cons,List.length_nil,pars,Nat.zero_add,Nat.reduceAdd]at hk ⊢;iterate 2 refine rS ?_
 generalize hq2:(zb a0 ([20,100,100,100]:List Int)).2=q2 at hR ⊢;replace hR:=bn hR;have hS_q2:SrcOk (700002) q2:=by rw[<- hq2];exact SrcOk.among hp0 (by omega)
 refine rS ?_;generalize hq4:(za q2 ((zb a0 ([20,100,100,100]:List Int)).1)).2=q4 at hR ⊢;replace hR:=bn hR;have hS_q4:SrcOk (700004) q4:=by rw[<- hq4];exact SrcOk.pick hS_q2 (by omega)
 refine rS ?_;generalize hq6:(za q4 ((zb a0 ([20,100,100,100]:List Int)).1)).2=q6 at hR ⊢;replace hR:=bn hR;have hS_q6:SrcOk (700006) q6:=by rw[<- hq6];exact SrcOk.pick hS_q4 (by omega)
 refine rS ?_;generalize hq8:(zi q6 3).2=q8 at hR ⊢;replace hR:=bn hR;have hS_q8:SrcOk (700008) q8:=by rw[<- hq8];exact SrcOk.one hS_q6 (by omega)
 refine AWP.cond rfl (fun hb => ?_) (fun hb => ?_)
 ·replace hR:=ct hR
  refine rS ?_;generalize hq10:(za q8 200).2=q10 at hR ⊢;replace hR:=bn hR;have hS_q10:SrcOk (700010) q10:=by rw[<- hq10];exact SrcOk.pick hS_q8 (by omega)
  refine rS ?_;generalize hq12:(zi q10 3).2=q12 at hR ⊢;replace hR:=bn hR;have hS_q12:SrcOk (700012) q12:=by rw[<- hq12];exact SrcOk.one hS_q10 (by omega)
  refine AWP.cond rfl (fun hb => ?_) (fun hb => ?_)
  ·replace hR:=ct hR
   refine rS ?_;generalize hq14:(za q12 200).2=q14 at hR ⊢;replace hR:=bn hR;have hS_q14:SrcOk (700014) q14:=by rw[<- hq14];exact SrcOk.pick hS_q12 (by omega)
   refine rS ?_;refine AWP.ret ?_;subst hR;exact es
  ·replace hR:=cf hR
   refine rS ?_;refine AWP.ret ?_;subst hR;exact es
 ·replace hR:=cf hR
  refine rS ?_;generalize hq16:(zi q8 3).2=q16 at hR ⊢;replace hR:=bn hR;have hS_q16:SrcOk (700010) q16:=by rw[<- hq16];exact SrcOk.one hS_q8 (by omega)
  refine AWP.cond rfl (fun hb => ?_) (fun hb => ?_)
  ·replace hR:=ct hR
   refine rS ?_;generalize hq18:(za q16 200).2=q18 at hR ⊢;replace hR:=bn hR;have hS_q18:SrcOk (700012) q18:=by rw[<- hq18];exact SrcOk.pick hS_q16 (by omega)
   refine rS ?_;refine AWP.ret ?_;subst hR;exact es
  ·replace hR:=cf hR
   refine rS ?_;refine AWP.ret ?_;subst hR;exact es
end N98
def D_zdb : List AV -> Option (AV × List AV × List Prop)
 | [x0]=>some (.agg (ylg ((zdb (rdQ yt x0)).1)),[(.op (yr ((zdb (rdQ yt x0)).2)))],[wQ yr yt x0,SrcOk 700000 (rdQ yt x0)])
 | _=>none
theorem yzy:OkM Tryz.prog 98 D_zdb:=by unfold D_zdb;exact dm N98.den
def zpd (a0:Int):(Mark×Int):=
 (bif (!(znb a0))then({ Kind:=0,Colors:=[],Shape:=[],Topmark:=[]:Mark },2)else({ Kind:=a0,Colors:=(zuc a0),Shape:=((zv a0).getD 0 default),Topmark:=(zvc a0):Mark },0))
namespace N11
theorem DD:DOk Tryz.prog (Go.Ab.DD [(52,dP D_znb),(53,dP D_zuc),(54,dP D_zv),(55,dP D_zvc)]):=ya yok.e <| ya y6k.e <| ya yav.e <| ya ybl.e <| ye _
theorem DZ:DOk Tryz.prog (Go.Ab.DD [(52,dP D_znb),(53,dP D_zuc),(54,dP Dz_zv),(55,dP D_zvc)]):=ya yok.e <| ya y6k.e <| ya y8v.e <| ya ybl.e <| ye _
theorem dn:type_of% (And.intro @D_znb.eq_1 <| And.intro @D_zuc.eq_1 <| And.intro @D_zv.eq_1 <| And.intro @D_zvc.eq_1 <| @Dz_zv.eq_1):=by and_intros<;>intros<;>rfl
theorem o1 {p:Prop} (h:p:=by(first|(have h9:=hki (by assumption);omega));first|done|fail):p:=h
theorem den (a0:Int)  : Den Tryz.prog 11 [.int .i64 a0] (.tup [.agg (y1g ((zpd a0).1)),.int .i64 ((zpd a0).2)]):=by
 generalize hR:zpd a0=r;unfold zpd at hR;refine di Tryz.func11 Tryz.ntmps11 Tryz.results11 ?_;intro c hL hc hk;clear hL;simp only[pars,Nat.zero_add];have hs5:1<=(zv a0).length:=by unfold zv;simp only[Bool.cond_eq_ite];(repeat' split)<;>simp
 have hki:znb a0=true->0<=a0/\a0<=9:=fun h=>by unfold znb zf at h;simp at h;omega
 iterate 2 refine rS ?_
 refine AWP.cond rfl (fun hb => ?_) (fun hb => ?_)
 ·replace hR:=ct hR
  refine rS ?_;refine AWP.ret ?_;subst hR;exact es
 ·replace hR:=cf hR
  refine rZ 9 ?_;refine AWP.ret ?_;subst hR;exact es
end N11
def D_zpd : DF
 | [x0]=>some (.tup [.agg (y1g ((zpd (rdI x0)).1)),.int .i64 ((zpd (rdI x0)).2)],false,[wI .i64 x0])
 | _=>none
theorem yiy:OkD Tryz.prog 11 D_zpd:=by unfold D_zpd;exact dk N11.den
def y9i (a0:(List Aid)) (a1:(List Aid)) (i1:Nat) (s1:Unit):Except (Bool) (Unit):=
 (bif (!(zxd (a0.getD i1 default) (a1.getD i1 default)))then .error false else .ok ())
def zyc (a0:(List Aid)) (a1:(List Aid)):Bool:=
 (bif ((a0.length:Int) != (a1.length:Int))then false else(match yh (y9i a0 a1) (a0.length-0) 0 ()with|.error e=>e|.ok s1=>true))
namespace N39
theorem DD:DOk Tryz.prog (Go.Ab.DD [(93,dP D_zxd)]):=ya yjq.e <| ye _
theorem dn:type_of% (@D_zxd.eq_1):=by and_intros<;>intros<;>rfl
theorem den (a0:(List Aid)) (a1:(List Aid))  : Den Tryz.prog 39 [encL 16 eAid a0,encL 16 eAid a1] (.bool (zyc a0 a1)):=by
 generalize hR:zyc a0 a1=r;unfold zyc at hR;refine di Tryz.func39 Tryz.ntmps39 Tryz.results39 ?_;intro c hL hc hk;obtain⟨hL0,hL1,_⟩:=hL;have hw0:a0.length<9223372036854775808:=Nat.lt_succ_of_le (yb hL0).1;have hw1:∀ v∈a0,bwAid v:=fun v hv=>yy v ((yb hL0).2 v hv)
 have hw2:a1.length<9223372036854775808:=Nat.lt_succ_of_le (yb hL1).1;have hw3:∀ v∈a1,bwAid v:=fun v hv=>yy v ((yb hL1).2 v hv)
 clear hL0 hL1;simp only[pars,Nat.zero_add];iterate 2 refine rS ?_
 refine AWP.cond rfl (fun hb => ?_) (fun hb => ?_)
 ·replace hR:=ct hR
  refine rS ?_;refine AWP.ret ?_;subst hR;exact es
 ·replace hR:=cf hR
  refine rS ?_;refine AWP.block ?_;generalize hz1:yh (y9i a0 a1) (a0.length-0) 0 ()=z1 at hR;refine AWP.range (y9i a0 a1) (fun i1 s1=>⟨[(0,encL 16 eAid a0),(1,encL 16 eAid a1),(5,.int .i64 (i1:Int))],[]⟩) (fun i1 s1=>True) (a0.length) 0 () [] hz1 ot wt sm ?_;clear hz1;intro i1 s1 hi1 hW1 hz1;refine rS ?_;refine AWP.cond rfl (fun hb => ?_) (fun hb => ?_)
  ·have hlt1:i1<a0.length:=ot
   rw[yp hlt1]at hz1;simp only[y9i]at hz1;refine rD 6 ?_;refine AWP.cond rfl (fun hb => ?_) (fun hb => ?_)
   ·simp only[hb,cond_true]at hz1
    refine rS ?_;refine AWP.ret ?_;subst hz1;dsimp only at hR;subst hR;exact es
   ·simp only[hb,cond_false]at hz1
    refine rS ?_;exact⟨_,[],hlt1,wt,hz1,sm⟩
  ·obtain rfl:i1=a0.length:=ot
   rw[yn (Nat.le_refl _)]at hz1;subst hz1;dsimp only at hR;refine AWP.exit ?_;refine yd ?_;refine rS ?_;refine AWP.ret ?_;subst hR;exact es
end N39
def D_zyc : DF
 | [x0,x1]=>some (.bool (zyc (rdL dAid x0) (rdL dAid x1)),false,[wL 16 eAid dAid x0,wL 16 eAid dAid x1])
 | _=>none
theorem ynv:OkD Tryz.prog 39 D_zyc:=by unfold D_zyc;exact dk N39.den
def zie (a0:(List Int)):l00Src:=
 { code:=a0,at_:=0,seed:=0:l00Src }
namespace N43
theorem DD:DOk Tryz.prog (Go.Ab.DD []):=ye _
theorem den (a0:(List Int))  : Den Tryz.prog 43 [encL 1 eIu8 a0] (.op (yr (zie a0))):=by
 generalize hR:zie a0=r;unfold zie at hR;refine di Tryz.func43 Tryz.ntmps43 Tryz.results43 ?_;intro c hL hc hk;obtain⟨hL0,_⟩:=hL;have hw0:a0.length<9223372036854775808:=Nat.lt_succ_of_le (yb hL0).1;clear hL0;simp only[pars,Nat.zero_add];iterate 2 refine rS ?_
 refine AWP.ret ?_;subst hR;exact es
end N43
def D_zie : DF
 | [x0]=>some (.op (yr (zie (rdL dIu8 x0))),false,[wL 1 eIu8 dIu8 x0])
 | _=>none
theorem yyp:OkD Tryz.prog 43 D_zie:=by unfold D_zie;exact dk N43.den
end Go.Ab
