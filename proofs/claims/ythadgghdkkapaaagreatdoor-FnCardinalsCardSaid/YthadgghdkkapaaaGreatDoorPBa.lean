/- A part of a proof: walks of functions and lemmas of our own. No conditions. -/
import Derived.Test.YthadgghdkkapaaaGreatDoorPAl
import Derived.Test.YthadgghdkkapaaaGreatDoorPAt
import Derived.Test.YthadgghdkkapaaaGreatDoorPAy
import Derived.Test.YthadgghdkkapaaaGreatDoorPAu
import Derived.Test.YthadgghdkkapaaaGreatDoorPAz
import Derived.Test.YthadgghdkkapaaaGreatDoorPAm
import Derived.Test.YthadgghdkkapaaaGreatDoorPAw
import Derived.Test.YthadgghdkkapaaaGreatDoorPAx
import Derived.Test.YthadgghdkkapaaaGreatDoorPAs
import Derived.Test.YthadgghdkkapaaaGreatDoorPAv
import Derived.Test.YthadgghdkkapaaaGreatDoorPAk
set_option linter.unusedSectionVars false
set_option linter.unusedVariables false
set_option linter.unusedSimpArgs false
set_option maxHeartbeats 1000000
namespace Go.Ab
open Go Go.Proofs
def zo (a0:l00Src):Aid×l00Src:=
 (bnd ((za a0 30).2) fun q2=>(bnd ((zn q2 [[114,111,99,107],[101,97,115,116],[112,105,101,114],[98,97,114],[99,97,112,101]]).2) fun q4=>(bnd ((zx q4).2) fun q6=>(bnd ((za q6 500).2) fun q8=>(bnd ((zg q8 2).2) fun q10=>(bif ((zg q8 2).1)then(bnd ((za q10 9).2) fun q12=>(bif (((zcb (IntKind.wrap .i64 (((za q10 9).1)+1))).2) == 0)then(bnd ((zg q12 5).2) fun q14=>(bif ((zg q12 5).1)then({ Number:=IntKind.wrap .i64 (((za a0 30).1)+1),Name:=((zn q2 [[114,111,99,107],[101,97,115,116],[112,105,101,114],[98,97,114],[99,97,112,101]]).1),At:=((zx q4).1),Height:=((za q6 500).1),Mark:=(zcb (IntKind.wrap .i64 (((za q10 9).1)+1))).1,Light:={ Kind:=0,Group:=[],Letter:=[],Colors:=[],Period:=0:Character },Sectors:=[],Intensity:=0:Aid },q14)else(bnd ((zh q14).2) fun q16=>(bnd ((zb q16 ([10,1000,20000,1000000,1]:List Int)).2) fun q18=>(bnd ((zg q18 2).2) fun q20=>(bif ((zg q18 2).1)then({ Number:=IntKind.wrap .i64 (((za a0 30).1)+1),Name:=((zn q2 [[114,111,99,107],[101,97,115,116],[112,105,101,114],[98,97,114],[99,97,112,101]]).1),At:=((zx q4).1),Height:=((za q6 500).1),Mark:=(zcb (IntKind.wrap .i64 (((za q10 9).1)+1))).1,Light:={ Kind:=((zh q14).1).Kind,Group:=((zh q14).1).Group,Letter:=((zh q14).1).Letter,Colors:=(((zh q14).1).Colors).take 1,Period:=((zh q14).1).Period:Character },Sectors:=[],Intensity:=((zb q16 ([10,1000,20000,1000000,1]:List Int)).1):Aid },q20)else(bnd ((zt q20).2) fun q22=>(bif ((((zt q20).1).length:Int) == 0)then({ Number:=IntKind.wrap .i64 (((za a0 30).1)+1),Name:=((zn q2 [[114,111,99,107],[101,97,115,116],[112,105,101,114],[98,97,114],[99,97,112,101]]).1),At:=((zx q4).1),Height:=((za q6 500).1),Mark:=(zcb (IntKind.wrap .i64 (((za q10 9).1)+1))).1,Light:={ Kind:=((zh q14).1).Kind,Group:=((zh q14).1).Group,Letter:=((zh q14).1).Letter,Colors:=(((zh q14).1).Colors).take 1,Period:=((zh q14).1).Period:Character },Sectors:=((zt q20).1),Intensity:=((zb q16 ([10,1000,20000,1000000,1]:List Int)).1):Aid },q22)else(bif decide (3<((zbb ((zt q20).1)).length:Int))then({ Number:=IntKind.wrap .i64 (((za a0 30).1)+1),Name:=((zn q2 [[114,111,99,107],[101,97,115,116],[112,105,101,114],[98,97,114],[99,97,112,101]]).1),At:=((zx q4).1),Height:=((za q6 500).1),Mark:=(zcb (IntKind.wrap .i64 (((za q10 9).1)+1))).1,Light:={ Kind:=((zh q14).1).Kind,Group:=((zh q14).1).Group,Letter:=((zh q14).1).Letter,Colors:=[71],Period:=((zh q14).1).Period:Character },Sectors:=[{ From:=10,To:=200,Color:=[71]:Sector }],Intensity:=((zb q16 ([10,1000,20000,1000000,1]:List Int)).1):Aid },q22)else({ Number:=IntKind.wrap .i64 (((za a0 30).1)+1),Name:=((zn q2 [[114,111,99,107],[101,97,115,116],[112,105,101,114],[98,97,114],[99,97,112,101]]).1),At:=((zx q4).1),Height:=((za q6 500).1),Mark:=(zcb (IntKind.wrap .i64 (((za q10 9).1)+1))).1,Light:={ Kind:=((zh q14).1).Kind,Group:=((zh q14).1).Group,Letter:=((zh q14).1).Letter,Colors:=(zbb ((zt q20).1)),Period:=((zh q14).1).Period:Character },Sectors:=((zt q20).1),Intensity:=((zb q16 ([10,1000,20000,1000000,1]:List Int)).1):Aid },q22))))))))))else(bnd ((zg q12 5).2) fun q24=>(bif ((zg q12 5).1)then({ Number:=IntKind.wrap .i64 (((za a0 30).1)+1),Name:=((zn q2 [[114,111,99,107],[101,97,115,116],[112,105,101,114],[98,97,114],[99,97,112,101]]).1),At:=((zx q4).1),Height:=((za q6 500).1),Mark:={ Kind:=0,Colors:=[],Shape:=[],Topmark:=[]:Mark },Light:={ Kind:=0,Group:=[],Letter:=[],Colors:=[],Period:=0:Character },Sectors:=[],Intensity:=0:Aid },q24)else(bnd ((zh q24).2) fun q26=>(bnd ((zb q26 ([10,1000,20000,1000000,1]:List Int)).2) fun q28=>(bnd ((zg q28 2).2) fun q30=>(bif ((zg q28 2).1)then({ Number:=IntKind.wrap .i64 (((za a0 30).1)+1),Name:=((zn q2 [[114,111,99,107],[101,97,115,116],[112,105,101,114],[98,97,114],[99,97,112,101]]).1),At:=((zx q4).1),Height:=((za q6 500).1),Mark:={ Kind:=0,Colors:=[],Shape:=[],Topmark:=[]:Mark },Light:={ Kind:=((zh q24).1).Kind,Group:=((zh q24).1).Group,Letter:=((zh q24).1).Letter,Colors:=(((zh q24).1).Colors).take 1,Period:=((zh q24).1).Period:Character },Sectors:=[],Intensity:=((zb q26 ([10,1000,20000,1000000,1]:List Int)).1):Aid },q30)else(bnd ((zt q30).2) fun q32=>(bif ((((zt q30).1).length:Int) == 0)then({ Number:=IntKind.wrap .i64 (((za a0 30).1)+1),Name:=((zn q2 [[114,111,99,107],[101,97,115,116],[112,105,101,114],[98,97,114],[99,97,112,101]]).1),At:=((zx q4).1),Height:=((za q6 500).1),Mark:={ Kind:=0,Colors:=[],Shape:=[],Topmark:=[]:Mark },Light:={ Kind:=((zh q24).1).Kind,Group:=((zh q24).1).Group,Letter:=((zh q24).1).Letter,Colors:=(((zh q24).1).Colors).take 1,Period:=((zh q24).1).Period:Character },Sectors:=((zt q30).1),Intensity:=((zb q26 ([10,1000,20000,1000000,1]:List Int)).1):Aid },q32)else(bif decide (3<((zbb ((zt q30).1)).length:Int))then({ Number:=IntKind.wrap .i64 (((za a0 30).1)+1),Name:=((zn q2 [[114,111,99,107],[101,97,115,116],[112,105,101,114],[98,97,114],[99,97,112,101]]).1),At:=((zx q4).1),Height:=((za q6 500).1),Mark:={ Kind:=0,Colors:=[],Shape:=[],Topmark:=[]:Mark },Light:={ Kind:=((zh q24).1).Kind,Group:=((zh q24).1).Group,Letter:=((zh q24).1).Letter,Colors:=[71],Period:=((zh q24).1).Period:Character },Sectors:=[{ From:=10,To:=200,Color:=[71]:Sector }],Intensity:=((zb q26 ([10,1000,20000,1000000,1]:List Int)).1):Aid },q32)else({ Number:=IntKind.wrap .i64 (((za a0 30).1)+1),Name:=((zn q2 [[114,111,99,107],[101,97,115,116],[112,105,101,114],[98,97,114],[99,97,112,101]]).1),At:=((zx q4).1),Height:=((za q6 500).1),Mark:={ Kind:=0,Colors:=[],Shape:=[],Topmark:=[]:Mark },Light:={ Kind:=((zh q24).1).Kind,Group:=((zh q24).1).Group,Letter:=((zh q24).1).Letter,Colors:=(zbb ((zt q30).1)),Period:=((zh q24).1).Period:Character },Sectors:=((zt q30).1),Intensity:=((zb q26 ([10,1000,20000,1000000,1]:List Int)).1):Aid },q32))))))))))))else(bnd ((zg q10 5).2) fun q34=>(bif ((zg q10 5).1)then({ Number:=IntKind.wrap .i64 (((za a0 30).1)+1),Name:=((zn q2 [[114,111,99,107],[101,97,115,116],[112,105,101,114],[98,97,114],[99,97,112,101]]).1),At:=((zx q4).1),Height:=((za q6 500).1),Mark:={ Kind:=0,Colors:=[],Shape:=[],Topmark:=[]:Mark },Light:={ Kind:=0,Group:=[],Letter:=[],Colors:=[],Period:=0:Character },Sectors:=[],Intensity:=0:Aid },q34)else(bnd ((zh q34).2) fun q36=>(bnd ((zb q36 ([10,1000,20000,1000000,1]:List Int)).2) fun q38=>(bnd ((zg q38 2).2) fun q40=>(bif ((zg q38 2).1)then({ Number:=IntKind.wrap .i64 (((za a0 30).1)+1),Name:=((zn q2 [[114,111,99,107],[101,97,115,116],[112,105,101,114],[98,97,114],[99,97,112,101]]).1),At:=((zx q4).1),Height:=((za q6 500).1),Mark:={ Kind:=0,Colors:=[],Shape:=[],Topmark:=[]:Mark },Light:={ Kind:=((zh q34).1).Kind,Group:=((zh q34).1).Group,Letter:=((zh q34).1).Letter,Colors:=(((zh q34).1).Colors).take 1,Period:=((zh q34).1).Period:Character },Sectors:=[],Intensity:=((zb q36 ([10,1000,20000,1000000,1]:List Int)).1):Aid },q40)else(bnd ((zt q40).2) fun q42=>(bif ((((zt q40).1).length:Int) == 0)then({ Number:=IntKind.wrap .i64 (((za a0 30).1)+1),Name:=((zn q2 [[114,111,99,107],[101,97,115,116],[112,105,101,114],[98,97,114],[99,97,112,101]]).1),At:=((zx q4).1),Height:=((za q6 500).1),Mark:={ Kind:=0,Colors:=[],Shape:=[],Topmark:=[]:Mark },Light:={ Kind:=((zh q34).1).Kind,Group:=((zh q34).1).Group,Letter:=((zh q34).1).Letter,Colors:=(((zh q34).1).Colors).take 1,Period:=((zh q34).1).Period:Character },Sectors:=((zt q40).1),Intensity:=((zb q36 ([10,1000,20000,1000000,1]:List Int)).1):Aid },q42)else(bif decide (3<((zbb ((zt q40).1)).length:Int))then({ Number:=IntKind.wrap .i64 (((za a0 30).1)+1),Name:=((zn q2 [[114,111,99,107],[101,97,115,116],[112,105,101,114],[98,97,114],[99,97,112,101]]).1),At:=((zx q4).1),Height:=((za q6 500).1),Mark:={ Kind:=0,Colors:=[],Shape:=[],Topmark:=[]:Mark },Light:={ Kind:=((zh q34).1).Kind,Group:=((zh q34).1).Group,Letter:=((zh q34).1).Letter,Colors:=[71],Period:=((zh q34).1).Period:Character },Sectors:=[{ From:=10,To:=200,Color:=[71]:Sector }],Intensity:=((zb q36 ([10,1000,20000,1000000,1]:List Int)).1):Aid },q42)else({ Number:=IntKind.wrap .i64 (((za a0 30).1)+1),Name:=((zn q2 [[114,111,99,107],[101,97,115,116],[112,105,101,114],[98,97,114],[99,97,112,101]]).1),At:=((zx q4).1),Height:=((za q6 500).1),Mark:={ Kind:=0,Colors:=[],Shape:=[],Topmark:=[]:Mark },Light:={ Kind:=((zh q34).1).Kind,Group:=((zh q34).1).Group,Letter:=((zh q34).1).Letter,Colors:=(zbb ((zt q40).1)),Period:=((zh q34).1).Period:Character },Sectors:=((zt q40).1),Intensity:=((zb q36 ([10,1000,20000,1000000,1]:List Int)).1):Aid },q42))))))))))))))))
namespace N137
theorem DD:DOk Tryz.prog (Go.Ab.DD [(11,dP D_zcb),(122,dP D_zbb),(195,dM [true] D_zh),(196,dM [true] D_zt),(95,dM [true,false] D_za),(96,dM [true,true] D_zn),(97,dM [true,true] D_zb),(98,dM [true] D_zx),(99,dM [true,false] D_zg)]):=ya y2g.e <| ya ybq.e <| ya y6y.e <| ya yyz.e <| ya ytc.e <| ya yfi.e <| ya y6e.e <| ya yno.e <| ya y4d.e <| yb _
theorem dn:type_of% (And.intro @D_zcb.eq_1 <| And.intro @D_zbb.eq_1 <| And.intro @D_zh.eq_1 <| And.intro @D_zt.eq_1 <| And.intro @D_za.eq_1 <| And.intro @D_zn.eq_1 <| And.intro @D_zb.eq_1 <| And.intro @D_zx.eq_1 <| @D_zg.eq_1):=by and_intros<;>intros<;>rfl
theorem o1 {p:Prop} (h:p:=by(first|(refine SrcOk.mono (by repeat' first|assumption|exact SrcOk.next ‹_› | apply SrcOk.next|apply SrcOk.pick|apply SrcOk.one|apply SrcOk.among|apply SrcOk.text|apply SrcOk.colors|apply SrcOk.point|apply SrcOk.chr|apply SrcOk.sectors|apply SrcOk.aid|apply SrcOk.aids|apply SrcOk.notice|omega) (by omega))|(exact yrz (by assumption) (by omega))|(exact yiz (by assumption) (by omega))|(exact y7v (by assumption) (by omega))|(exact y5t (by assumption) (by omega))|(exact y5z (by assumption) (by assumption) (by omega)));first|done|fail):p:=h
theorem lx {p:Prop} (h:p:=by(exact lxx);first|done|fail):p:=h
set_option maxHeartbeats 2000000 in
set_option maxRecDepth 20000 in
theorem den (a0:l00Src) (hp0:SrcOk 500000 a0):DenM Tryz.prog 137 [.op (yi a0)] (.agg (eAid ((zo a0).1))) [(.op (yi ((zo a0).2)))]:=by
 generalize hR:zo a0=r;unfold zo at hR;refine djL (gb:=[true]) Tryz.func137 Tryz.ntmps137 Tryz.results137 ?_;intro c hL hc hk;obtain⟨hL0,_⟩:=hL;have hw0:bwl00Src a0:=y6 a0 hL0;clear hL0;simp only[adEL,adE,adRL,adR,ownL,encL,sv,List.nil_append,List.append_nil,List.cons_append,List.length_cons,List.length_nil,pars,Nat.zero_add,Nat.reduceAdd]at hk ⊢;iterate 2 refine rS ?_
 generalize hq2:(za a0 30).2=q2 at hR ⊢;replace hR:=bn hR;have hS_q2:SrcOk (500002) q2:=by rw[<- hq2];exact SrcOk.pick hp0 (by omega)
 refine rS ?_;generalize hq4:(zn q2 [[114,111,99,107],[101,97,115,116],[112,105,101,114],[98,97,114],[99,97,112,101]]).2=q4 at hR ⊢;replace hR:=bn hR;have hS_q4:SrcOk (500004) q4:=by rw[<- hq4];exact SrcOk.text hS_q2 (by omega)
 refine rS ?_;generalize hq6:(zx q4).2=q6 at hR ⊢;replace hR:=bn hR;have hS_q6:SrcOk (500018) q6:=by rw[<- hq6];exact SrcOk.point hS_q4 (by omega)
 refine rS ?_;generalize hq8:(za q6 500).2=q8 at hR ⊢;replace hR:=bn hR;have hS_q8:SrcOk (500020) q8:=by rw[<- hq8];exact SrcOk.pick hS_q6 (by omega)
 refine rS ?_;generalize hq10:(zg q8 2).2=q10 at hR ⊢;replace hR:=bn hR;have hS_q10:SrcOk (500022) q10:=by rw[<- hq10];exact SrcOk.one hS_q8 (by omega)
 refine AWP.cond rfl (fun hb => ?_) (fun hb => ?_)
 ·replace hR:=ct hR
  refine rS ?_;generalize hq12:(za q10 9).2=q12 at hR ⊢;replace hR:=bn hR;have hS_q12:SrcOk (500024) q12:=by rw[<- hq12];exact SrcOk.pick hS_q10 (by omega)
  refine rS ?_;refine AWP.cond rfl (fun hb => ?_) (fun hb => ?_)
  ·replace hR:=ct hR
   iterate 2 refine rS ?_
   generalize hq14:(zg q12 5).2=q14 at hR ⊢;replace hR:=bn hR;have hS_q14:SrcOk (500026) q14:=by rw[<- hq14];exact SrcOk.one hS_q12 (by omega)
   refine AWP.cond rfl (fun hb => ?_) (fun hb => ?_)
   ·replace hR:=ct hR
    refine rS ?_;refine AWP.ret ?_;subst hR;exact esL
   ·replace hR:=cf hR
    refine rS ?_;generalize hq16:(zh q14).2=q16 at hR ⊢;replace hR:=bn hR;have hS_q16:SrcOk (500126) q16:=by rw[<- hq16];exact SrcOk.chr hS_q14 (by omega)
    refine rS ?_;generalize hq18:(zb q16 ([10,1000,20000,1000000,1]:List Int)).2=q18 at hR ⊢;replace hR:=bn hR;have hS_q18:SrcOk (500128) q18:=by rw[<- hq18];exact SrcOk.among hS_q16 (by omega)
    refine rS ?_;generalize hq20:(zg q18 2).2=q20 at hR ⊢;replace hR:=bn hR;have hS_q20:SrcOk (500130) q20:=by rw[<- hq20];exact SrcOk.one hS_q18 (by omega)
    refine AWP.cond rfl (fun hb => ?_) (fun hb => ?_)
    ·replace hR:=ct hR
     iterate 2 refine rS ?_
     refine AWP.ret ?_;subst hR;exact esL
    ·replace hR:=cf hR
     refine rS ?_;generalize hq22:(zt q20).2=q22 at hR ⊢;replace hR:=bn hR;have hS_q22:SrcOk (500330) q22:=by rw[<- hq22];exact SrcOk.sectors hS_q20 (by omega)
     refine rS ?_;refine AWP.cond rfl (fun hb => ?_) (fun hb => ?_)
     ·replace hR:=ct hR
      iterate 2 refine rS ?_
      refine AWP.ret ?_;subst hR;exact esL
     ·replace hR:=cf hR
      iterate 2 refine rS ?_
      refine AWP.cond rfl (fun hb => ?_) (fun hb => ?_)
      ·replace hR:=ct hR
       iterate 4 refine rS ?_
       refine AWP.ret ?_;subst hR;exact esL
      ·replace hR:=cf hR
       iterate 2 refine rS ?_
       refine AWP.ret ?_;subst hR;exact esL
  ·replace hR:=cf hR
   refine rS ?_;generalize hq24:(zg q12 5).2=q24 at hR ⊢;replace hR:=bn hR;have hS_q24:SrcOk (500026) q24:=by rw[<- hq24];exact SrcOk.one hS_q12 (by omega)
   refine AWP.cond rfl (fun hb => ?_) (fun hb => ?_)
   ·replace hR:=ct hR
    refine rS ?_;refine AWP.ret ?_;subst hR;exact esL
   ·replace hR:=cf hR
    refine rS ?_;generalize hq26:(zh q24).2=q26 at hR ⊢;replace hR:=bn hR;have hS_q26:SrcOk (500126) q26:=by rw[<- hq26];exact SrcOk.chr hS_q24 (by omega)
    refine rS ?_;generalize hq28:(zb q26 ([10,1000,20000,1000000,1]:List Int)).2=q28 at hR ⊢;replace hR:=bn hR;have hS_q28:SrcOk (500128) q28:=by rw[<- hq28];exact SrcOk.among hS_q26 (by omega)
    refine rS ?_;generalize hq30:(zg q28 2).2=q30 at hR ⊢;replace hR:=bn hR;have hS_q30:SrcOk (500130) q30:=by rw[<- hq30];exact SrcOk.one hS_q28 (by omega)
    refine AWP.cond rfl (fun hb => ?_) (fun hb => ?_)
    ·replace hR:=ct hR
     iterate 2 refine rS ?_
     refine AWP.ret ?_;subst hR;exact esL
    ·replace hR:=cf hR
     refine rS ?_;generalize hq32:(zt q30).2=q32 at hR ⊢;replace hR:=bn hR;have hS_q32:SrcOk (500330) q32:=by rw[<- hq32];exact SrcOk.sectors hS_q30 (by omega)
     refine rS ?_;refine AWP.cond rfl (fun hb => ?_) (fun hb => ?_)
     ·replace hR:=ct hR
      iterate 2 refine rS ?_
      refine AWP.ret ?_;subst hR;exact esL
     ·replace hR:=cf hR
      iterate 2 refine rS ?_
      refine AWP.cond rfl (fun hb => ?_) (fun hb => ?_)
      ·replace hR:=ct hR
       iterate 4 refine rS ?_
       refine AWP.ret ?_;subst hR;exact esL
      ·replace hR:=cf hR
       iterate 2 refine rS ?_
       refine AWP.ret ?_;subst hR;exact esL
 ·replace hR:=cf hR
  refine rS ?_;generalize hq34:(zg q10 5).2=q34 at hR ⊢;replace hR:=bn hR;have hS_q34:SrcOk (500024) q34:=by rw[<- hq34];exact SrcOk.one hS_q10 (by omega)
  refine AWP.cond rfl (fun hb => ?_) (fun hb => ?_)
  ·replace hR:=ct hR
   refine rS ?_;refine AWP.ret ?_;subst hR;exact esL
  ·replace hR:=cf hR
   refine rS ?_;generalize hq36:(zh q34).2=q36 at hR ⊢;replace hR:=bn hR;have hS_q36:SrcOk (500124) q36:=by rw[<- hq36];exact SrcOk.chr hS_q34 (by omega)
   refine rS ?_;generalize hq38:(zb q36 ([10,1000,20000,1000000,1]:List Int)).2=q38 at hR ⊢;replace hR:=bn hR;have hS_q38:SrcOk (500126) q38:=by rw[<- hq38];exact SrcOk.among hS_q36 (by omega)
   refine rS ?_;generalize hq40:(zg q38 2).2=q40 at hR ⊢;replace hR:=bn hR;have hS_q40:SrcOk (500128) q40:=by rw[<- hq40];exact SrcOk.one hS_q38 (by omega)
   refine AWP.cond rfl (fun hb => ?_) (fun hb => ?_)
   ·replace hR:=ct hR
    iterate 2 refine rS ?_
    refine AWP.ret ?_;subst hR;exact esL
   ·replace hR:=cf hR
    refine rS ?_;generalize hq42:(zt q40).2=q42 at hR ⊢;replace hR:=bn hR;have hS_q42:SrcOk (500328) q42:=by rw[<- hq42];exact SrcOk.sectors hS_q40 (by omega)
    refine rS ?_;refine AWP.cond rfl (fun hb => ?_) (fun hb => ?_)
    ·replace hR:=ct hR
     iterate 2 refine rS ?_
     refine AWP.ret ?_;subst hR;exact esL
    ·replace hR:=cf hR
     iterate 2 refine rS ?_
     refine AWP.cond rfl (fun hb => ?_) (fun hb => ?_)
     ·replace hR:=ct hR
      iterate 4 refine rS ?_
      refine AWP.ret ?_;subst hR;exact esL
     ·replace hR:=cf hR
      iterate 2 refine rS ?_
      refine AWP.ret ?_;subst hR;exact esL
end N137
def D_zo : List AV -> Option (AV × List AV × List Prop)
 | [x0]=>some (.agg (eAid ((zo (rdQ yj x0)).1)),[(.op (yi ((zo (rdQ yj x0)).2)))],[wQ yi yj x0,SrcOk 500000 (rdQ yj x0)])
 | _=>none
theorem y3z:OkM Tryz.prog 137 D_zo:=by unfold D_zo;exact dm N137.den
theorem yul (a:List Sector):zbb a=ydd a (ydd a (ydd a (ydd a [] 87) 82) 71) 89:=by
 unfold zbb;simp only[yh,Nat.sub_zero];rw[ybc a 0 [] 87 rfl];simp only;rw[ybc a (0+1) _ 82 rfl];simp only;rw[ybc a (0+1+1) _ 71 rfl];simp only;rw[ybc a (0+1+1+1) _ 89 rfl]
theorem ywl {a:List Sector} (h:zab a=true) (hl:0<a.length):(zbb a).length<=3->zpb (zbb a)=true:=by
 have h1:=(yus h).2 0 hl
 have hc:znd (a.getD 0 default).Color=true:=by
  unfold zyb at h1;rw[Bool.and_eq_true]at h1;exact h1.2
 have hm:a.getD 0 default∈a:=by
  rw[List.getD_eq_getElem?_getD,List.getElem?_eq_getElem hl];exact List.getElem_mem hl
 have hany:(a.any (fun x=>x.Color == [87]) || (a.any (fun x=>x.Color == [82]) || (a.any (fun x=>x.Color == [71]) || a.any (fun x=>x.Color == [89]))))=true:=by
  unfold znd at hc;simp only[Bool.or_eq_true,List.any_eq_true]at hc ⊢;rcases hc with((hc|hc)|hc)|hc
  ·exact .inl ⟨_,hm,hc⟩
  ·exact .inr (.inl ⟨_,hm,hc⟩)
  ·exact .inr (.inr (.inl ⟨_,hm,hc⟩))
  ·exact .inr (.inr (.inr ⟨_,hm,hc⟩))
 rw[yul];unfold ydd;revert hany
 cases a.any (fun x=>x.Color == [87])<;>cases a.any (fun x=>x.Color == [82])<;>cases a.any (fun x=>x.Color == [71])<;>cases a.any (fun x=>x.Color == [89])<;>intro hany h3<;>first|(exact absurd hany (by decide))|(exact absurd h3 (by decide))|decide +kernel
theorem yoz {K:Int} {G:List Int} {L C C':List UInt8} {P:Int} (h:zic { Kind:=K,Group:=G,Letter:=L,Colors:=C,Period:=P }=true) (h2:zpb C'=true):zic { Kind:=K,Group:=G,Letter:=L,Colors:=C',Period:=P }=true:=by
 have hC:zpb C=true:=by
  cases hc:zpb C with
  | true=>rfl
  | false=>
   unfold zic zyc at h;simp only[hc,Bool.not_false,Bool.or_true,cond_true,Bool.not_true]at h;cases h
 rw[<- h];unfold zic;rw[y6h K G L C P hC,y6h K G L C' P h2];rfl
def ymt (N:Int) (nm:List UInt8) (p:Point) (h:Int) (mk:Mark) (q:l00Src):Aid×l00Src:=
 (bnd ((zg q 5).2) fun q14=>(bif ((zg q 5).1)then({ Number:=N,Name:=nm,At:=p,Height:=h,Mark:=mk,Light:={ Kind:=0,Group:=[],Letter:=[],Colors:=[],Period:=0:Character },Sectors:=[],Intensity:=0:Aid },q14)else(bnd ((zh q14).2) fun q16=>(bnd ((zb q16 ([10,1000,20000,1000000,1]:List Int)).2) fun q18=>(bnd ((zg q18 2).2) fun q20=>(bif ((zg q18 2).1)then({ Number:=N,Name:=nm,At:=p,Height:=h,Mark:=mk,Light:={ Kind:=((zh q14).1).Kind,Group:=((zh q14).1).Group,Letter:=((zh q14).1).Letter,Colors:=(((zh q14).1).Colors).take 1,Period:=((zh q14).1).Period:Character },Sectors:=[],Intensity:=((zb q16 ([10,1000,20000,1000000,1]:List Int)).1):Aid },q20)else(bnd ((zt q20).2) fun q22=>(bif ((((zt q20).1).length:Int) == 0)then({ Number:=N,Name:=nm,At:=p,Height:=h,Mark:=mk,Light:={ Kind:=((zh q14).1).Kind,Group:=((zh q14).1).Group,Letter:=((zh q14).1).Letter,Colors:=(((zh q14).1).Colors).take 1,Period:=((zh q14).1).Period:Character },Sectors:=((zt q20).1),Intensity:=((zb q16 ([10,1000,20000,1000000,1]:List Int)).1):Aid },q22)else(bif decide (3<((zbb ((zt q20).1)).length:Int))then({ Number:=N,Name:=nm,At:=p,Height:=h,Mark:=mk,Light:={ Kind:=((zh q14).1).Kind,Group:=((zh q14).1).Group,Letter:=((zh q14).1).Letter,Colors:=[71],Period:=((zh q14).1).Period:Character },Sectors:=[{ From:=10,To:=200,Color:=[71]:Sector }],Intensity:=((zb q16 ([10,1000,20000,1000000,1]:List Int)).1):Aid },q22)else({ Number:=N,Name:=nm,At:=p,Height:=h,Mark:=mk,Light:={ Kind:=((zh q14).1).Kind,Group:=((zh q14).1).Group,Letter:=((zh q14).1).Letter,Colors:=(zbb ((zt q20).1)),Period:=((zh q14).1).Period:Character },Sectors:=((zt q20).1),Intensity:=((zb q16 ([10,1000,20000,1000000,1]:List Int)).1):Aid },q22))))))))))
def AidP (n:Int) (r:Aid×l00Src):Prop:=SrcOk n r.2/\zib r.1=true/\(r.1.Light.Group.length<=2/\r.1.Light.Letter.length<=1/\r.1.Light.Colors.length<=3)/\r.1.Sectors.length<=5/\r.1.Number<=30
theorem y9s {C:List UInt8} (h:C∈nineC):zpb (C.take 1)=true/\(C.take 1).length=1:=by
 have:(nineC.all fun C=>zpb (C.take 1) && decide ((C.take 1).length=1))=true:=by decide +kernel
 have:=List.all_eq_true.1 this C h;rw[Bool.and_eq_true,decide_eq_true_eq]at this;exact this
theorem yag {n:Int} {N:Int} {nm:List UInt8} {p:Point} {h:Int} {mk:Mark} {q:l00Src} (hq:SrcOk n q) (hn:n<=1000000) (h1:1<=N) (h2:N<=30) (h3:zob nm=true) (h4:zeb p=true) (h5:0<=h) (h6:h<=3000) (h7:ztc mk=true):AidP (n+310) (ymt N nm p h mk q):=by
 have base:∀ (L:Character) (S:List Sector) (I:Int),(bif (zdd L)then(((S.length:Int) == 0) && (I == 0))else(bif (((!(zic L)) || (!(zf I 1 100000000))) || (!(zab S)))then false else(bif ((S.length:Int) == 0)then((L.Colors.length:Int) == 1)else((zbb S) == L.Colors))))=true->zib { Number:=N,Name:=nm,At:=p,Height:=h,Mark:=mk,Light:=L,Sectors:=S,Intensity:=I:Aid }=true:=fun L S I hh=>by
  unfold zib;have e1:zf N 1 9999=true:=by unfold zf;simp;omega
  have e2:zf h 0 3000=true:=by unfold zf;simp;omega
  simp only[e1,e2,h3,h4,h7,Bool.not_true,Bool.or_self,cond_false];exact hh
 have lit:∀ (L:Character) (S:List Sector) (I:Int),zic L=true->1<=I->I<=100000000->zab S=true->(bif ((S.length:Int) == 0)then((L.Colors.length:Int) == 1)else((zbb S) == L.Colors))=true->zib { Number:=N,Name:=nm,At:=p,Height:=h,Mark:=mk,Light:=L,Sectors:=S,Intensity:=I:Aid }=true:=fun L S I g1 g2 g3 g4 g5=>base L S I (by
  have e0:zdd L=false:=by
   cases e:zdd L with
   | false=>rfl
   | true=>
    unfold zdd at e;simp only[Bool.and_eq_true,beq_iff_eq]at e;unfold zic zyc zff zf at g1;rw[e.1.1.1.1]at g1;cases g1
  have e1:zf I 1 100000000=true:=by unfold zf;simp;omega
  rw[e0,g1,e1,g4]
  exact g5)
 unfold ymt;have q14:=hq.one (m:=5) (by omega);simp only[bnd];generalize (zg q 5).2=s14 at q14
 cases(zg q 5).1 with
 | true=>rw[cond_true];exact⟨q14.mono (by show _<=n+310;omega),base _ _ _ rfl,(by decide:([]:List Int).length<=2/\([]:List UInt8).length<=1/\([]:List UInt8).length<=3),by show(0:Nat)<=5;omega,h2⟩
 | false=>
  rw[cond_false];obtain⟨q16,c1,c2,c3,c4⟩:=yaq q14 (by omega);generalize (zh s14).2=s16 at q16;generalize (zh s14).1=c at c1 c2 c3 c4;obtain⟨K,G,L,C,P⟩:=c;simp only at c2 c3 c4;have hI:=ywf (l:=([10,1000,20000,1000000,1]:List Int)) q16 (by omega) (by decide);have q18:=q16.among (l:=([10,1000,20000,1000000,1]:List Int)) (by omega);generalize (zb s16 ([10,1000,20000,1000000,1]:List Int)).2=s18 at q18;generalize (zb s16 ([10,1000,20000,1000000,1]:List Int)).1=I at hI;have hI:1<=I/\I<=100000000:=by simp only[List.mem_cons,List.not_mem_nil,or_false]at hI;omega
  have q20:=q18.one (m:=2) (by omega);generalize (zg s18 2).2=s20 at q20;obtain⟨t1,t2⟩:=y9s c2
  have z1:zib { Number:=N,Name:=nm,At:=p,Height:=h,Mark:=mk,Light:={ Kind:=K,Group:=G,Letter:=L,Colors:=C.take 1,Period:=P:Character },Sectors:=[],Intensity:=I:Aid }=true:=lit _ _ _ (yoz c1 t1) hI.1 hI.2 (by decide +kernel) (by
   show(((C.take 1).length:Int) == 1)=true
   rw[t2];rfl)
  cases(zg s18 2).1 with
  | true=>exact⟨q20.mono (by show _<=n+310;omega),z1,⟨c3,c4,by show(C.take 1).length<=3;omega⟩,by show(0:Nat)<=5;omega,h2⟩
  | false=>
   rw[cond_false];obtain⟨q22,d1,d2⟩:=yar q20 (by omega);generalize (zt s20).2=s22 at q22;generalize (zt s20).1=S at d1 d2;by_cases hS:S.length=0
   ·have hS2:S=[]:=List.length_eq_zero_iff.1 hS
    subst hS2;exact⟨q22.mono (by show _<=n+310;omega),z1,⟨c3,c4,by show(C.take 1).length<=3;omega⟩,by show(0:Nat)<=5;omega,h2⟩
   ·have e0:((S.length:Int) == 0)=false:=by rw[beq_eq_false_iff_ne];omega
    rw[e0,cond_false];by_cases h3':3<((zbb S).length:Int)
    ·rw[decide_eq_true h3',cond_true]
     exact⟨q22.mono (by show _<=n+310;omega),lit _ _ _ (yoz c1 (by decide +kernel)) hI.1 hI.2 (by decide +kernel) (by show((zbb [{ From:=10,To:=200,Color:=[71]:Sector }]) == [71])=true;decide +kernel),⟨c3,c4,by show(1:Nat)<=3;omega⟩,by show(1:Nat)<=5;omega,h2⟩
    ·rw[decide_eq_false h3',cond_false]
     exact⟨q22.mono (by show _<=n+310;omega),lit _ _ _ (yoz c1 (ywl d2 (by omega) (by omega))) hI.1 hI.2 d2 (by rw[e0,cond_false];simp),⟨c3,c4,by show(zbb S).length<=3;omega⟩,d1,h2⟩
theorem ys0 {k:Int} (h1:1<=k) (h2:k<=9):ztc (zcb k).1=true:=by
 rcases(show k=1\/k=2\/k=3\/k=4\/k=5\/k=6\/k=7\/k=8\/k=9 by omega)with e|e|e|e|e|e|e|e|e<;>rw[e]<;>decide +kernel
theorem yey {n:Int} {s:l00Src} (h:SrcOk n s) (hn:n<=900000):AidP (n+400) (zo s):=by
 have mono:∀ {m:Int} {r:Aid×l00Src},AidP m r->m<=n+400->AidP (n+400) r:=fun h h2=>⟨h.1.mono h2,h.2⟩
 have r1:=yd 30 h (by omega);have r12:=r1.2 (by omega);have q2:=h.pick (m:=30) (by omega);have w1:IntKind.wrap .i64 ((za s 30).1+1)=(za s 30).1+1:=by rw[IntKind.wrap_i64];omega
 unfold zo;simp only[bnd];rw[w1];generalize (za s 30).2=s2 at q2;obtain⟨N,hN⟩:∃ N,N=(za s 30).1+1:=⟨_,rfl⟩
 rw[<- hN];have hnm:=yme (l:=([[114,111,99,107],[101,97,115,116],[112,105,101,114],[98,97,114],[99,97,112,101]]:List (List UInt8))) q2 (by omega) (by decide);have q4:=q2.text (l:=([[114,111,99,107],[101,97,115,116],[112,105,101,114],[98,97,114],[99,97,112,101]]:List (List UInt8))) (by omega);generalize (zn s2 ([[114,111,99,107],[101,97,115,116],[112,105,101,114],[98,97,114],[99,97,112,101]]:List (List UInt8))).2=s4 at q4;generalize (zn s2 ([[114,111,99,107],[101,97,115,116],[112,105,101,114],[98,97,114],[99,97,112,101]]:List (List UInt8))).1=nm at hnm
 have hnm:zob nm=true:=by
  have hs:∀ y∈([[114,111,99,107],[101,97,115,116],[112,105,101,114],[98,97,114],[99,97,112,101]]:List (List UInt8)),zob y=true:=by decide +kernel
  exact hs nm hnm
 obtain⟨q6,hp⟩:=ykq q4 (by omega);generalize (zx s4).2=s6 at q6;generalize (zx s4).1=p at hp;have r3:=yd 500 q6 (by omega);have r32:=r3.2 (by omega);have q8:=q6.pick (m:=500) (by omega);generalize (za s6 500).2=s8 at q8;generalize (za s6 500).1=hh at r3 r32;have q10:=q8.one (m:=2) (by omega);generalize (zg s8 2).2=s10 at q10;have zm:ztc { Kind:=0,Colors:=[],Shape:=[],Topmark:=[]:Mark }=true:=by decide +kernel
 cases(zg s8 2).1 with
 | true=>
  rw[cond_true];have r4:=yd 9 q10 (by omega);have r42:=r4.2 (by omega);have q12:=q10.pick (m:=9) (by omega);have w2:IntKind.wrap .i64 ((za s10 9).1+1)=(za s10 9).1+1:=by rw[IntKind.wrap_i64];omega
  rw[w2];generalize (za s10 9).2=s12 at q12;have hm:=ys0 (k:=(za s10 9).1+1) (by omega) (by omega)
  cases((zcb ((za s10 9).1+1)).2 == 0)with
  | true=>rw[cond_true];exact mono (yag q12 (by omega) (by omega) (by omega) hnm hp r3.1 (by omega) hm) (by omega)
  | false=>rw[cond_false];exact mono (yag q12 (by omega) (by omega) (by omega) hnm hp r3.1 (by omega) zm) (by omega)
 | false=>rw[cond_false];exact mono (yag q10 (by omega) (by omega) (by omega) hnm hp r3.1 (by omega) zm) (by omega)
theorem SrcOk.aid {n:Int} {s:l00Src} (h:SrcOk n s) (hn:n<=900000):SrcOk (n+400) (zo s).2:=(yey h hn).1
theorem y5y {n:Int} {r:Aid×l00Src} (h:AidP n r):bdAid r.1:=by
 obtain⟨_,h1,⟨h2,h3,h4⟩,h5,_⟩:=h;have hr:=ycz h1;have hm:=ydx hr.2.2.2.2.2.2.1;have hn:=yvw hr.2.2.1;have hs:=(ydt hr.2.2.2.2.2.2.2.2.1).2;refine⟨Nat.lt_of_le_of_lt hn (by decide),⟨Nat.lt_of_le_of_lt hm.2.2.1 (by decide),Nat.lt_of_le_of_lt hm.2.2.2.1 (by decide),Nat.lt_of_le_of_lt hm.2.2.2.2 (by decide)⟩,⟨Nat.lt_of_le_of_lt h2 (by decide),Nat.lt_of_le_of_lt h3 (by decide),Nat.lt_of_le_of_lt h4 (by decide)⟩,Nat.lt_of_le_of_lt h5 (by decide),fun v hv => ?_⟩;obtain⟨i,hi,e⟩:=List.getElem_of_mem hv;have:=(hs i).2.2.2.2;rw[List.getD_eq_getElem?_getD,List.getElem?_eq_getElem hi]at this;rw[<- e];exact Nat.lt_of_le_of_lt this (by decide)
def zfe (a0:l00Src):Point×l00Src:=
 (bnd ((zx a0).2) fun q2=>(bnd ((za q2 30).2) fun q4=>(bif (((za q2 30).1) == 0)then(bnd ((zb q4 ([0,(-1),200000,200001]:List Int)).2) fun q6=>({ X:=((zb q4 ([0,(-1),200000,200001]:List Int)).1),Y:=((zx a0).1).Y:Point },q6))else(bif (((za q2 30).1) == 1)then(bnd ((zb q4 ([0,(-1),200000,200001]:List Int)).2) fun q8=>({ X:=((zx a0).1).X,Y:=((zb q4 ([0,(-1),200000,200001]:List Int)).1):Point },q8))else(((zx a0).1),q4)))))
namespace N220
theorem DD:DOk Tryz.prog (Go.Ab.DD [(95,dM [true,false] D_za),(97,dM [true,true] D_zb),(98,dM [true] D_zx)]):=ya ytc.e <| ya y6e.e <| ya yno.e <| yb _
theorem dn:type_of% (And.intro @D_za.eq_1 <| And.intro @D_zb.eq_1 <| @D_zx.eq_1):=by and_intros<;>intros<;>rfl
theorem o1 {p:Prop} (h:p:=by(first|(refine SrcOk.mono (by repeat' first|assumption|exact SrcOk.next ‹_› | apply SrcOk.next|apply SrcOk.pick|apply SrcOk.one|apply SrcOk.among|apply SrcOk.text|apply SrcOk.colors|apply SrcOk.point|apply SrcOk.chr|apply SrcOk.sectors|apply SrcOk.aid|apply SrcOk.aids|apply SrcOk.notice|omega) (by omega))|(exact(yd _ (by assumption) (by omega)).1)|(exact(yd _ (by assumption) (by omega)).2 (by omega))|(rename_i h9;simp only[beq_eq_false_iff_ne,ne_eq]at h9;exact(yd _ (by assumption) (by omega)).2 (by omega))|(rename_i h9;replace h9:=of_decide_eq_true h9;exact(yd _ (by assumption) (by omega)).2 (by omega)));first|done|fail):p:=h
theorem lx {p:Prop} (h:p:=by(exact lxx);first|done|fail):p:=h
set_option maxHeartbeats 2000000 in
set_option maxRecDepth 20000 in
theorem den (a0:l00Src) (hp0:SrcOk 650000 a0):DenM Tryz.prog 220 [.op (yi a0)] (.agg (yx ((zfe a0).1))) [(.op (yi ((zfe a0).2)))]:=by
 generalize hR:zfe a0=r;unfold zfe at hR;refine dj (gb:=[true]) Tryz.func220 Tryz.ntmps220 Tryz.results220 ?_;intro c hL hc hk;obtain⟨hL0,_⟩:=hL;have hw0:bwl00Src a0:=y6 a0 hL0;clear hL0;simp only[adEL,adE,adRL,adR,ownL,encL,sv,List.nil_append,List.append_nil,List.cons_append,List.length_cons,List.length_nil,pars,Nat.zero_add,Nat.reduceAdd]at hk ⊢;iterate 2 refine rS ?_
 generalize hq2:(zx a0).2=q2 at hR ⊢;replace hR:=bn hR;have hS_q2:SrcOk (650014) q2:=by rw[<- hq2];exact SrcOk.point hp0 (by omega)
 refine rS ?_;generalize hq4:(za q2 30).2=q4 at hR ⊢;replace hR:=bn hR;have hS_q4:SrcOk (650016) q4:=by rw[<- hq4];exact SrcOk.pick hS_q2 (by omega)
 refine rS ?_;refine AWP.cond rfl (fun hb => ?_) (fun hb => ?_)
 ·replace hR:=ct hR
  refine rS ?_;generalize hq6:(zb q4 ([0,(-1),200000,200001]:List Int)).2=q6 at hR ⊢;replace hR:=bn hR;have hS_q6:SrcOk (650018) q6:=by rw[<- hq6];exact SrcOk.among hS_q4 (by omega)
  refine rS ?_;refine AWP.ret ?_;subst hR;exact es
 ·replace hR:=cf hR
  refine rS ?_;refine AWP.cond rfl (fun hb => ?_) (fun hb => ?_)
  ·replace hR:=ct hR
   refine rS ?_;generalize hq8:(zb q4 ([0,(-1),200000,200001]:List Int)).2=q8 at hR ⊢;replace hR:=bn hR;have hS_q8:SrcOk (650018) q8:=by rw[<- hq8];exact SrcOk.among hS_q4 (by omega)
   refine rS ?_;refine AWP.ret ?_;subst hR;exact es
  ·replace hR:=cf hR
   refine rS ?_;refine AWP.ret ?_;subst hR;exact es
end N220
def D_zfe : List AV -> Option (AV × List AV × List Prop)
 | [x0]=>some (.agg (yx ((zfe (rdQ yj x0)).1)),[(.op (yi ((zfe (rdQ yj x0)).2)))],[wQ yi yj x0,SrcOk 650000 (rdQ yj x0)])
 | _=>none
theorem yex:OkM Tryz.prog 220 D_zfe:=by unfold D_zfe;exact dm N220.den
theorem SrcOk.bent {n:Int} {s:l00Src} (h:SrcOk n s) (hn:n<=50000000):SrcOk (n+18) (zfe s).2:=by
 have h1:=h.point (by omega);have h2:=h1.pick (m:=30) (by omega);have h3:=h2.among (l:=([0,(-1),200000,200001]:List Int)) (by omega);unfold zfe;simp only[bnd,Bool.cond_eq_ite]
 (repeat' split)<;>first|exact h3.mono (by omega)|exact h2.mono (by omega)
def zmc (a0:l00Src) (a1:Danger):Point×l00Src:=
 (bnd ((zg a0 2).2) fun q2=>(bif ((zg a0 2).1)then(bnd ((zfe q2).2) fun q4=>(((zfe q2).1),q4))else(bnd ((za q2 360).2) fun q6=>(bnd ((za q6 300).2) fun q9=>((zwf a1.At ((za q2 360).1) (IntKind.wrap .i64 ((IntKind.wrap .i64 (a1.Radius+((za q6 300).1)))-50))),q9)))))
namespace N163
theorem DD:DOk Tryz.prog (Go.Ab.DD [(220,dM [true] D_zfe),(221,dP D_zwf),(95,dM [true,false] D_za),(99,dM [true,false] D_zg)]):=ya yex.e <| ya yxw.e <| ya ytc.e <| ya y4d.e <| yb _
theorem dn:type_of% (And.intro @D_zfe.eq_1 <| And.intro @D_zwf.eq_1 <| And.intro @D_za.eq_1 <| @D_zg.eq_1):=by and_intros<;>intros<;>rfl
theorem o1 {p:Prop} (h:p:=by(first|(refine SrcOk.mono (by repeat' first|assumption|exact SrcOk.next ‹_› | apply SrcOk.next|apply SrcOk.pick|apply SrcOk.one|apply SrcOk.among|apply SrcOk.text|apply SrcOk.colors|apply SrcOk.point|apply SrcOk.chr|apply SrcOk.sectors|apply SrcOk.aid|apply SrcOk.aids|apply SrcOk.notice|omega) (by omega))|(exact(yd _ (by assumption) (by omega)).1)|(exact(yd _ (by assumption) (by omega)).2 (by omega))|(rename_i h9;simp only[beq_eq_false_iff_ne,ne_eq]at h9;exact(yd _ (by assumption) (by omega)).2 (by omega))|(rename_i h9;replace h9:=of_decide_eq_true h9;exact(yd _ (by assumption) (by omega)).2 (by omega)));first|done|fail):p:=h
set_option maxHeartbeats 2000000 in
set_option maxRecDepth 20000 in
theorem den (a0:l00Src) (a1:Danger) (hp0:SrcOk 600000 a0):DenM Tryz.prog 163 [.op (yi a0),.ep (yr a1)] (.agg (yx ((zmc a0 a1).1))) [(.op (yi ((zmc a0 a1).2))),.any]:=by
 generalize hR:zmc a0 a1=r;unfold zmc at hR;refine dj (gb:=[true,false]) Tryz.func163 Tryz.ntmps163 Tryz.results163 ?_;intro c hL hc hk;obtain⟨hL0,hL1,_⟩:=hL;have hw0:bwl00Src a0:=y6 a0 hL0;have hw1:bwDanger a1:=y5 a1 hL1;clear hL0 hL1;simp only[adEL,adE,adRL,adR,ownL,encL,sv,List.nil_append,List.append_nil,List.cons_append,List.length_cons,List.length_nil,pars,Nat.zero_add,Nat.reduceAdd]at hk ⊢;iterate 2 refine rS ?_
 generalize hq2:(zg a0 2).2=q2 at hR ⊢;replace hR:=bn hR;have hS_q2:SrcOk (600002) q2:=by rw[<- hq2];exact SrcOk.one hp0 (by omega)
 refine AWP.cond rfl (fun hb => ?_) (fun hb => ?_)
 ·replace hR:=ct hR
  refine rS ?_;generalize hq4:(zfe q2).2=q4 at hR ⊢;replace hR:=bn hR;have hS_q4:SrcOk (600020) q4:=by rw[<- hq4];exact SrcOk.bent hS_q2 (by omega)
  refine AWP.ret ?_;subst hR;exact es
 ·replace hR:=cf hR
  refine rS ?_;generalize hq6:(za q2 360).2=q6 at hR ⊢;replace hR:=bn hR;have hS_q6:SrcOk (600004) q6:=by rw[<- hq6];exact SrcOk.pick hS_q2 (by omega)
  refine AWP.seq ?_;refine AWP.regP mixed G_ok DD hc 14 [0,1,2,3,4,5,6,7,8,9] (.alt 10 [11,12,13] [0,1,2,3,4,5,6,7,8,11,12,13] .leaf .stop) (by kernel_rfl) (by kernel_rfl) (by kernel_rfl) (fun K hK => ?_);simp only[y0f,runN,runP,yzb,nthO,ea,absV,absVL,cput,gv,sv,dn,reduceCtorEq,reduceIte,Nat.reduceBEq,Nat.reduceAdd,Nat.reduceEqDiff,Nat.reduceLT,Nat.reduceLeDiff,Nat.reduceMul,Nat.reduceSub,BEq.rfl,beq_self_eq_true,Int.reduceToNat];repeat' apply And.intro
  all_goals first|refine hK _ ?_|exact ot
  all_goals clear hK K
  generalize hq9:(za q6 300).2=q9 at hR ⊢;replace hR:=bn hR;have hS_q9:SrcOk (600006) q9:=by rw[<- hq9];exact SrcOk.pick hS_q6 (by omega)
  refine AWP.ret ?_;subst hR;exact es
end N163
def D_zmc : List AV -> Option (AV × List AV × List Prop)
 | [x0,x1]=>some (.agg (yx ((zmc (rdQ yj x0) (rdP yu x1)).1)),[(.op (yi ((zmc (rdQ yj x0) (rdP yu x1)).2))),.any],[wQ yi yj x0,wP yr yu x1,SrcOk 600000 (rdQ yj x0)])
 | _=>none
theorem ypv:OkM Tryz.prog 163 D_zmc:=by unfold D_zmc;exact dm N163.den
theorem SrcOk.near {n:Int} {s:l00Src} {d:Danger} (h:SrcOk n s) (hn:n<=40000000):SrcOk (n+24) (zmc s d).2:=by
 have h1:=h.one (m:=2) (by omega);have h2:=h1.bent (by omega);have h3:=(h1.pick (m:=360) (by omega)).pick (m:=300) (by omega);unfold zmc;simp only[bnd,Bool.cond_eq_ite]
 (repeat' split)<;>first|exact h2.mono (by omega)|exact h3.mono (by omega)
def zvc (a0:l00Src) (a1:Danger):Aid×l00Src:=
 (bnd ((zo a0).2) fun q2=>(bnd ((zg q2 4).2) fun q4=>(bif ((zg q2 4).1)then(((zo a0).1),q4)else(bnd ((zmc q4 a1).2) fun q6=>(bif ((!((((zmc q4 a1).1).X) == a1.At.X && (((zmc q4 a1).1).Y) == a1.At.Y)) && (zeb ((zmc q4 a1).1)))then(bif (((zcb (zhe a1 ((zmc q4 a1).1))).2) == 0)then(bnd ((zg q6 8).2) fun q8=>(bif ((zg q6 8).1)then({ Number:=((zo a0).1).Number,Name:=((zo a0).1).Name,At:=a1.At,Height:=((zo a0).1).Height,Mark:=(zcb (zhe a1 ((zmc q4 a1).1))).1,Light:=((zo a0).1).Light,Sectors:=((zo a0).1).Sectors,Intensity:=((zo a0).1).Intensity:Aid },q8)else({ Number:=((zo a0).1).Number,Name:=((zo a0).1).Name,At:=((zmc q4 a1).1),Height:=((zo a0).1).Height,Mark:=(zcb (zhe a1 ((zmc q4 a1).1))).1,Light:=((zo a0).1).Light,Sectors:=((zo a0).1).Sectors,Intensity:=((zo a0).1).Intensity:Aid },q8)))else(bnd ((zg q6 8).2) fun q10=>(bif ((zg q6 8).1)then({ Number:=((zo a0).1).Number,Name:=((zo a0).1).Name,At:=a1.At,Height:=((zo a0).1).Height,Mark:=((zo a0).1).Mark,Light:=((zo a0).1).Light,Sectors:=((zo a0).1).Sectors,Intensity:=((zo a0).1).Intensity:Aid },q10)else({ Number:=((zo a0).1).Number,Name:=((zo a0).1).Name,At:=((zmc q4 a1).1),Height:=((zo a0).1).Height,Mark:=((zo a0).1).Mark,Light:=((zo a0).1).Light,Sectors:=((zo a0).1).Sectors,Intensity:=((zo a0).1).Intensity:Aid },q10))))else(bnd ((zg q6 8).2) fun q12=>(bif ((zg q6 8).1)then({ Number:=((zo a0).1).Number,Name:=((zo a0).1).Name,At:=a1.At,Height:=((zo a0).1).Height,Mark:=((zo a0).1).Mark,Light:=((zo a0).1).Light,Sectors:=((zo a0).1).Sectors,Intensity:=((zo a0).1).Intensity:Aid },q12)else({ Number:=((zo a0).1).Number,Name:=((zo a0).1).Name,At:=((zmc q4 a1).1),Height:=((zo a0).1).Height,Mark:=((zo a0).1).Mark,Light:=((zo a0).1).Light,Sectors:=((zo a0).1).Sectors,Intensity:=((zo a0).1).Intensity:Aid },q12))))))))
namespace N109
theorem DD:DOk Tryz.prog (Go.Ab.DD [(11,dP D_zcb),(117,dP D_zeb),(137,dM [true] D_zo),(163,dM [true,false] D_zmc),(164,dP D_zhe),(99,dM [true,false] D_zg)]):=ya y2g.e <| ya y1g.e <| ya y3z.e <| ya ypv.e <| ya ymv.e <| ya y4d.e <| yb _
theorem dn:type_of% (And.intro @D_zcb.eq_1 <| And.intro @D_zeb.eq_1 <| And.intro @D_zo.eq_1 <| And.intro @D_zmc.eq_1 <| And.intro @D_zhe.eq_1 <| @D_zg.eq_1):=by and_intros<;>intros<;>rfl
theorem o1 {p:Prop} (h:p:=by(first|(refine SrcOk.mono (by repeat' first|assumption|exact SrcOk.next ‹_› | apply SrcOk.next|apply SrcOk.pick|apply SrcOk.one|apply SrcOk.among|apply SrcOk.text|apply SrcOk.colors|apply SrcOk.point|apply SrcOk.chr|apply SrcOk.sectors|apply SrcOk.aid|apply SrcOk.aids|apply SrcOk.notice|omega) (by omega))|(exact(yd _ (by assumption) (by omega)).1)|(exact(yd _ (by assumption) (by omega)).2 (by omega))|(rename_i h9;simp only[beq_eq_false_iff_ne,ne_eq]at h9;exact(yd _ (by assumption) (by omega)).2 (by omega))|(rename_i h9;replace h9:=of_decide_eq_true h9;exact(yd _ (by assumption) (by omega)).2 (by omega)));first|done|fail):p:=h
set_option maxHeartbeats 2000000 in
set_option maxRecDepth 20000 in
theorem den (a0:l00Src) (a1:Danger) (hp0:SrcOk 400000 a0):DenM Tryz.prog 109 [.op (yi a0),.ep (yr a1)] (.agg (eAid ((zvc a0 a1).1))) [(.op (yi ((zvc a0 a1).2))),.any]:=by
 generalize hR:zvc a0 a1=r;unfold zvc at hR;refine djL (gb:=[true,false]) Tryz.func109 Tryz.ntmps109 Tryz.results109 ?_;intro c hL hc hk;obtain⟨hL0,hL1,_⟩:=hL;have hw0:bwl00Src a0:=y6 a0 hL0;have hw1:bwDanger a1:=y5 a1 hL1;clear hL0 hL1;simp only[adEL,adE,adRL,adR,ownL,encL,sv,List.nil_append,List.append_nil,List.cons_append,List.length_cons,List.length_nil,pars,Nat.zero_add,Nat.reduceAdd]at hk ⊢;iterate 2 refine rS ?_
 generalize hq2:(zo a0).2=q2 at hR ⊢;replace hR:=bn hR;have hS_q2:SrcOk (400400) q2:=by rw[<- hq2];exact SrcOk.aid hp0 (by omega)
 refine rS ?_;generalize hq4:(zg q2 4).2=q4 at hR ⊢;replace hR:=bn hR;have hS_q4:SrcOk (400402) q4:=by rw[<- hq4];exact SrcOk.one hS_q2 (by omega)
 refine AWP.cond rfl (fun hb => ?_) (fun hb => ?_)
 ·replace hR:=ct hR
  refine rS ?_;refine AWP.ret ?_;subst hR;exact esL
 ·replace hR:=cf hR
  refine rS ?_;generalize hq6:(zmc q4 a1).2=q6 at hR ⊢;replace hR:=bn hR;have hS_q6:SrcOk (400426) q6:=by rw[<- hq6];exact SrcOk.near hS_q4 (by omega)
  refine rD 12 ?_;refine AWP.cond rfl (fun hb => ?_) (fun hb => ?_)
  ·replace hR:=ct hR
   iterate 2 refine rS ?_
   refine AWP.cond rfl (fun hb => ?_) (fun hb => ?_)
   ·replace hR:=ct hR
    iterate 2 refine rS ?_
    generalize hq8:(zg q6 8).2=q8 at hR ⊢;replace hR:=bn hR;have hS_q8:SrcOk (400428) q8:=by rw[<- hq8];exact SrcOk.one hS_q6 (by omega)
    refine AWP.cond rfl (fun hb => ?_) (fun hb => ?_)
    ·replace hR:=ct hR
     iterate 2 refine rS ?_
     refine AWP.ret ?_;subst hR;exact esL
    ·replace hR:=cf hR
     refine rS ?_;refine AWP.ret ?_;subst hR;exact esL
   ·replace hR:=cf hR
    refine rS ?_;generalize hq10:(zg q6 8).2=q10 at hR ⊢;replace hR:=bn hR;have hS_q10:SrcOk (400428) q10:=by rw[<- hq10];exact SrcOk.one hS_q6 (by omega)
    refine AWP.cond rfl (fun hb => ?_) (fun hb => ?_)
    ·replace hR:=ct hR
     iterate 2 refine rS ?_
     refine AWP.ret ?_;subst hR;exact esL
    ·replace hR:=cf hR
     refine rS ?_;refine AWP.ret ?_;subst hR;exact esL
  ·replace hR:=cf hR
   refine rS ?_;generalize hq12:(zg q6 8).2=q12 at hR ⊢;replace hR:=bn hR;have hS_q12:SrcOk (400428) q12:=by rw[<- hq12];exact SrcOk.one hS_q6 (by omega)
   refine AWP.cond rfl (fun hb => ?_) (fun hb => ?_)
   ·replace hR:=ct hR
    iterate 2 refine rS ?_
    refine AWP.ret ?_;subst hR;exact esL
   ·replace hR:=cf hR
    refine rS ?_;refine AWP.ret ?_;subst hR;exact esL
end N109
def D_zvc : List AV -> Option (AV × List AV × List Prop)
 | [x0,x1]=>some (.agg (eAid ((zvc (rdQ yj x0) (rdP yu x1)).1)),[(.op (yi ((zvc (rdQ yj x0) (rdP yu x1)).2))),.any],[wQ yi yj x0,wP yr yu x1,SrcOk 400000 (rdQ yj x0)])
 | _=>none
theorem ylv:OkM Tryz.prog 109 D_zvc:=by unfold D_zvc;exact dm N109.den
theorem y1j (k:Int):bdMark (zcb k).1:=by
 by_cases h:1<=k/\k<=9
 ·have hk:k=1\/k=2\/k=3\/k=4\/k=5\/k=6\/k=7\/k=8\/k=9:=by omega
  rcases hk with rfl|rfl|rfl|rfl|rfl|rfl|rfl|rfl|rfl<;>decide
 ·have:zhb k=false:=by
   unfold zhb zf;rw[Bool.and_eq_false_iff,decide_eq_false_iff_not,decide_eq_false_iff_not];omega
  unfold zcb;simp only[this,Bool.not_false,cond_true];decide
set_option maxRecDepth 20000 in
theorem yqk {n:Int} {s:l00Src} {d:Danger} (h:SrcOk n s) (hn:n<=800000):SrcOk (n+450) (zvc s d).2/\bdAid (zvc s d).1:=by
 have hb:=y5y (yey h (by omega));have h1:=h.aid (by omega);have h2:=h1.one (m:=4) (by omega);have h3:=h2.near (d:=d) (by omega);have h4:=h3.one (m:=8) (by omega);have e:∀ p m,bdMark m->bdAid { Number:=((zo s).1).Number,Name:=((zo s).1).Name,At:=p,Height:=((zo s).1).Height,Mark:=m,Light:=((zo s).1).Light,Sectors:=((zo s).1).Sectors,Intensity:=((zo s).1).Intensity:Aid }:=fun p m hm=>⟨hb.1,hm,hb.2.2⟩
 unfold zvc;simp only[bnd,Bool.cond_eq_ite]
 (repeat' split)<;>first|exact⟨h2.mono (by omega),hb⟩|exact⟨h4.mono (by omega),e _ _ (y1j _)⟩|exact⟨h4.mono (by omega),e _ _ hb.2.1⟩
theorem SrcOk.mark {n:Int} {s:l00Src} {d:Danger} (h:SrcOk n s) (hn:n<=800000):SrcOk (n+450) (zvc s d).2:=(yqk h hn).1
theorem ygb (n:Int) (p:Point) (k:Int):bdAid { Number:=n,Name:=[99,97,114,100],At:=p,Height:=0,Mark:=(zcb k).1,Light:={ Kind:=0,Group:=[],Letter:=[],Colors:=[],Period:=0:Character },Sectors:=[],Intensity:=0:Aid }:=by
 refine⟨?_,y1j k,?_,?_⟩
 ·show List.length [99,97,114,100]<1099511627776;decide
 ·show bdCharacter { Kind:=0,Group:=[],Letter:=[],Colors:=[],Period:=0 };decide
 ·show bdLSector [];decide
end Go.Ab
