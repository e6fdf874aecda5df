/- A part of a proof: walks of functions and lemmas of our own. No conditions. -/
import Derived.Test.YthadgghdkkapaaaGreatDoorPAl
import Derived.Test.YthadgghdkkapaaaGreatDoorPAm
import Derived.Test.YthadgghdkkapaaaGreatDoorPAk
import Derived.Test.YthadgghdkkapaaaGreatDoorPBa
import Derived.Test.YthadgghdkkapaaaGreatDoorPAt
import Derived.Test.YthadgghdkkapaaaGreatDoorPAw
import Derived.Test.YthadgghdkkapaaaGreatDoorPAu
import Derived.Test.YthadgghdkkapaaaGreatDoorPAz
import Derived.Test.YthadgghdkkapaaaGreatDoorPAn
import Derived.Test.YthadgghdkkapaaaGreatDoorPAr
import Derived.Test.YthadgghdkkapaaaGreatDoorPAx
import Derived.Test.YthadgghdkkapaaaGreatDoorPAo
set_option linter.unusedSectionVars false
set_option linter.unusedVariables false
set_option linter.unusedSimpArgs false
set_option maxHeartbeats 1000000
namespace Go.Ab
open Go Go.Proofs
def ycj (a0:l00Src) (q3:l00Src) (q4:l00Src) (q6:l00Src) (s1:Int×l00Src×List Aid):Except (Sum ((Danger×(List Aid)×Int)×l00Src) (Int×l00Src×List Aid)) (Int×l00Src×List Aid):=
 (bif decide (0<s1.1)then(bnd ((zvc s1.2.1 ((zr q3 ((zp a0).1)).1)).2) fun q18=>(bif (((zid s1.2.2 ((zvc s1.2.1 ((zr q3 ((zp a0).1)).1)).1)).2) == 0)then .ok (IntKind.wrap .i64 (s1.1-1),q18,(zid s1.2.2 ((zvc s1.2.1 ((zr q3 ((zp a0).1)).1)).1)).1)else .ok (IntKind.wrap .i64 (s1.1-1),q18,s1.2.2)))else .error (.inr (s1.1,s1.2.1,s1.2.2)))
def y8j (a0:l00Src) (q3:l00Src) (q4:l00Src) (q6:l00Src) (s1:Int×l00Src×List Aid) (q28:l00Src) (s2:Int×List Aid):Except (Sum ((Danger×(List Aid)×Int)×l00Src) (Int×List Aid)) (Int×List Aid):=
 (bif ((((ztb ((zr q3 ((zp a0).1)).1) 50).2) == 0) && decide (s2.1<4))then(bif (((zid s2.2 ({ Number:=IntKind.wrap .i64 (100+s2.1),Name:=[99,97,114,100],At:=(((ztb ((zr q3 ((zp a0).1)).1) 50).1).getD ((s2.1).toNat) default),Height:=0,Mark:=(zcb (IntKind.wrap .i64 (s2.1+3))).1,Light:={ Kind:=0,Group:=[],Letter:=[],Colors:=[],Period:=0:Character },Sectors:=[],Intensity:=0:Aid })).2) == 0)then .ok (IntKind.wrap .i64 (s2.1+1),(zid s2.2 ({ Number:=IntKind.wrap .i64 (100+s2.1),Name:=[99,97,114,100],At:=(((ztb ((zr q3 ((zp a0).1)).1) 50).1).getD ((s2.1).toNat) default),Height:=0,Mark:=(zcb (IntKind.wrap .i64 (s2.1+3))).1,Light:={ Kind:=0,Group:=[],Letter:=[],Colors:=[],Period:=0:Character },Sectors:=[],Intensity:=0:Aid })).1)else .ok (IntKind.wrap .i64 (s2.1+1),s2.2))else .error (.inr (s2.1,s2.2)))
def zfb (a0:l00Src):(Danger×(List Aid)×Int)×l00Src:=
 (bnd ((zp a0).2) fun q3=>(bnd ((zr q3 ((zp a0).1)).2) fun q4=>(bnd ((za q4 7).2) fun q6=>(match ymb (ycj a0 q3 q4 q6) (((((za q4 7).1)).toNat)+1) (((za q4 7).1),q6,([]:List Aid))with|.error (.inl e)=>e|.error (.inr s1)=>(bnd ((zg s1.2.1 3).2) fun q28=>(bif (((zg s1.2.1 3).1) && (zmb ((zr q3 ((zp a0).1)).1)))then(match ymb (y8j a0 q3 q4 q6 s1 q28) (((4-(0:Int)).toNat)+1) (0,s1.2.2)with|.error (.inl e)=>e|.error (.inr s2)=>(bnd ((zhc q28).2) fun q32=>((((zr q3 ((zp a0).1)).1),s2.2,((zhc q28).1)),q32))|.ok _=>default)else(bnd ((zhc q28).2) fun q34=>((((zr q3 ((zp a0).1)).1),s1.2.2,((zhc q28).1)),q34))))|.ok _=>default))))
namespace N58
theorem DD:DOk Tryz.prog (Go.Ab.DD [(109,dM [true,false] D_zvc),(11,dP D_zcb),(110,dP D_zid),(111,dP D_ztb),(44,dM [true,false] D_zr),(45,dM [true] D_zp),(46,dM [true] D_zhc),(79,dP D_zmb),(95,dM [true,false] D_za),(99,dM [true,false] D_zg)]):=ya ylv.e <| ya y2g.e <| ya yxv.e <| ya ysw.e <| ya y6t.e <| ya y7s.e <| ya yip.e <| ya y6o.e <| ya ytc.e <| ya y4d.e <| yb _
theorem dn:type_of% (And.intro @D_zvc.eq_1 <| And.intro @D_zcb.eq_1 <| And.intro @D_zid.eq_1 <| And.intro @D_ztb.eq_1 <| And.intro @D_zr.eq_1 <| And.intro @D_zp.eq_1 <| And.intro @D_zhc.eq_1 <| And.intro @D_zmb.eq_1 <| And.intro @D_za.eq_1 <| @D_zg.eq_1):=by and_intros<;>intros<;>rfl
theorem o1 {p:Prop} (h:p:=by(first|(exact(ygb _ _ _).1)|(exact(ygb _ _ _).2.1.1)|(exact(ygb _ _ _).2.1.2.1)|(exact(ygb _ _ _).2.1.2.2)|(exact(ygb _ _ _).2.2.1.1)|(exact(ygb _ _ _).2.2.1.2.1)|(exact(ygb _ _ _).2.2.1.2.2)|(exact(ygb _ _ _).2.2.2)|(exact SrcOk.mono hW1.2.2.1 (by omega))|(exact hpm _ _ _ hW1.2.2.1 (by omega))|(exact hW1.2.2.2.2)|(exact hW2.2.2.2)|(exact ygb _ _ _)|(exact hdb _ _ _ hS_q3 (by omega) (hdd _ _ hp0 (by omega)))|(exact hdd _ _ hp0 (by omega))|(have hG:=hW1.2.2.2.1;omega)|(have hG:=hW2.2.2.1;omega)|(have h9:=hb;simp only[Bool.and_eq_true,beq_iff_eq,decide_eq_true_eq]at h9;have hc:=hcp _ _ h9.1;omega)|(refine SrcOk.mono (by repeat' first|assumption|exact SrcOk.next ‹_› | apply SrcOk.next|apply SrcOk.pick|apply SrcOk.one|apply SrcOk.among|apply SrcOk.text|apply SrcOk.colors|apply SrcOk.point|apply SrcOk.chr|apply SrcOk.sectors|apply SrcOk.aid|apply SrcOk.aids|apply SrcOk.notice|omega) (by omega))|(exact(yd _ (by assumption) (by omega)).1)|(exact(yd _ (by assumption) (by omega)).2 (by omega))|(rename_i h9;simp only[beq_eq_false_iff_ne,ne_eq]at h9;exact(yd _ (by assumption) (by omega)).2 (by omega))|(rename_i h9;replace h9:=of_decide_eq_true h9;exact(yd _ (by assumption) (by omega)).2 (by omega)));first|done|fail):p:=h
set_option maxHeartbeats 2000000 in
set_option maxRecDepth 20000 in
theorem den (a0:l00Src) (hp0:SrcOk 300000 a0):DenM Tryz.prog 58 [.op (yi a0)] (.tup [.agg (yr (((zfb a0).1).1)),encL 16 eAid (((zfb a0).1).2.1),.int .i64 (((zfb a0).1).2.2)]) [(.op (yi ((zfb a0).2)))]:=by
 generalize hR:zfb a0=r;unfold zfb at hR;refine djL (gb:=[true]) Tryz.func58 Tryz.ntmps58 Tryz.results58 ?_;intro c hL hc hk;obtain⟨hL0,_⟩:=hL;have hw0:bwl00Src a0:=y6 a0 hL0;clear hL0;simp only[adEL,adE,adRL,adR,ownL,encL,sv,List.nil_append,List.append_nil,List.cons_append,List.length_cons,List.length_nil,pars,Nat.zero_add,Nat.reduceAdd]at hk ⊢;have hpm:=fun(s:l00Src) (n:Int) (d:Danger) (h:SrcOk n s) (hn:n<=800000)=>(yqk (d:=d) h hn).2
 have hcp:=yr0;have hdb:=fun(d:Danger) (s:l00Src) (n:Int) (h:SrcOk n s) (hn:n<=800000) (hd:bdDanger d)=>(yyf (d:=d) h (by omega)).2 hd
 have hdd:=fun(s:l00Src) (n:Int) (h:SrcOk n s) (hn:n<=800000)=>(yfh h (by omega)).2
 iterate 2 refine rS ?_
 generalize hq3:(zp a0).2=q3 at hR ⊢;replace hR:=bn hR;have hS_q3:SrcOk (300020) q3:=by rw[<- hq3];exact SrcOk.dang hp0 (by omega)
 generalize hq4:(zr q3 ((zp a0).1)).2=q4 at hR ⊢;replace hR:=bn hR;have hS_q4:SrcOk (300024) q4:=by rw[<- hq4];exact SrcOk.dbend hS_q3 (by omega)
 refine AWP.lendP 5 2 (yr ((zr q3 ((zp a0).1)).1)) rfl rfl lp1 (by rfl) ?_;simp only[setE];iterate 2 refine rS ?_
 generalize hq6:(za q4 7).2=q6 at hR ⊢;replace hR:=bn hR;have hS_q6:SrcOk (300026) q6:=by rw[<- hq6];exact SrcOk.pick hS_q4 (by omega)
 refine AWP.block ?_;generalize hz1:ymb (ycj a0 q3 q4 q6) (((((za q4 7).1)).toNat)+1) (((za q4 7).1),q6,([]:List Aid))=z1 at hR;refine AWP.whileW (ycj a0 q3 q4 q6) (fun s1=>⟨[(0,.ptr 0 0),(2,.ptr 1 0),(5,.ep (yr ((zr q3 ((zp a0).1)).1))),(6,.ref 2 16 0 s1.2.2.length),(7,.int .i64 s1.1)],[.box [encL 1 eIu8 s1.2.1.code,.int .i64 s1.2.1.at_,.int .u64 s1.2.1.seed],.box [.str [],.int .i64 0,.int .i64 0,.int .i64 0],.arr 45 16 s1.2.2.length (fun j=>yoe (s1.2.2.getD j default))]⟩) (fun s1=>0<=s1.1/\s1.1<=6/\SrcOk (300040+500 * (6-s1.1)) s1.2.1/\s1.2.2.length<=(6-s1.1).toNat/\∀ v∈s1.2.2,bdAid v) (fun s1=>(s1.1).toNat) (((((za q4 7).1)).toNat)+1) (((za q4 7).1),q6,([]:List Aid)) [0,1,3] hz1 m0 (by(have h2:=yd 7 hS_q4 (by omega);have h3:=h2.2 (by omega);refine⟨h2.1,by(try dsimp only);omega,SrcOk.mono (by assumption) (by(try dsimp only);omega),by simp,by simp⟩)) sm ?_;clear hz1;intro s1 k1 hW1 hm1 hz1;simp only[ycj]at hz1;refine rS ?_;refine AWP.cond rfl (fun hb => ?_) (fun hb => ?_)
 ·simp only[hb,cond_true]at hz1
  refine rS ?_;generalize hq18:(zvc s1.2.1 ((zr q3 ((zp a0).1)).1)).2=q18 at hz1 ⊢;rw[bndv q18]at hz1;have hS_q18:SrcOk (300040+500 * (6-s1.1)+450) q18:=by rw[<- hq18];exact SrcOk.mark hW1.2.2.1 (by omega)
  iterate 2 refine rS ?_
  refine AWP.cond rfl (fun hb => ?_) (fun hb => ?_)
  ·simp only[hb,cond_true]at hz1
   iterate 2 refine rS ?_
   clear hR;exact⟨_,[0,1,4],by(have hpos:0<s1.1:=of_decide_eq_true (by assumption);have hwr:IntKind.wrap .i64 (s1.1-1)=s1.1-1:=(by rw[IntKind.wrap_i64];omega);(try dsimp only);rw[hwr];omega),by(have hpos:0<s1.1:=of_decide_eq_true (by assumption);have hwr:IntKind.wrap .i64 (s1.1-1)=s1.1-1:=(by rw[IntKind.wrap_i64];omega);(try dsimp only);rw[hwr];have hG:=hW1.2.2.2.1;have hA:=hpm s1.2.1 _ ((zr q3 ((zp a0).1)).1) hW1.2.2.1 (by omega);have hP:=yxc s1.2.2 (zvc s1.2.1 ((zr q3 ((zp a0).1)).1)).1 bdAid (by omega) hW1.2.2.2.2 hA;exact⟨by omega,by omega,SrcOk.mono (by assumption) (by omega),by omega,by first|exact hP.1|exact hW1.2.2.2.2⟩),hz1,sm⟩
  ·simp only[hb,cond_false]at hz1
   refine rS ?_;clear hR;exact⟨_,[0,1,2],by(have hpos:0<s1.1:=of_decide_eq_true (by assumption);have hwr:IntKind.wrap .i64 (s1.1-1)=s1.1-1:=(by rw[IntKind.wrap_i64];omega);(try dsimp only);rw[hwr];omega),by(have hpos:0<s1.1:=of_decide_eq_true (by assumption);have hwr:IntKind.wrap .i64 (s1.1-1)=s1.1-1:=(by rw[IntKind.wrap_i64];omega);(try dsimp only);rw[hwr];have hG:=hW1.2.2.2.1;have hA:=hpm s1.2.1 _ ((zr q3 ((zp a0).1)).1) hW1.2.2.1 (by omega);have hP:=yxc s1.2.2 (zvc s1.2.1 ((zr q3 ((zp a0).1)).1)).1 bdAid (by omega) hW1.2.2.2.2 hA;exact⟨by omega,by omega,SrcOk.mono (by assumption) (by omega),by omega,by first|exact hP.1|exact hW1.2.2.2.2⟩),hz1,sm⟩
 ·simp only[hb,cond_false]at hz1
  refine AWP.exit ?_;refine yc ?_;subst hz1;dsimp only at hR;refine rS ?_;generalize hq20:(zg s1.2.1 3).2=q20 at hR ⊢;replace hR:=bn hR;have hS_q20:SrcOk (300040+500 * (6-s1.1)+2) q20:=by rw[<- hq20];exact SrcOk.one hW1.2.2.1 (by omega)
  refine AWP.cond rfl (fun hb => ?_) (fun hb => ?_)
  ·replace hR:=ct hR
   iterate 2 refine rS ?_
   refine AWP.block ?_;generalize hz2:ymb (y8j a0 q3 q4 q6 (s1.1,s1.2.1,s1.2.2) q20) (((4-(0:Int)).toNat)+1) (0,s1.2.2)=z2 at hR;refine AWP.whileW (y8j a0 q3 q4 q6 (s1.1,s1.2.1,s1.2.2) q20) (fun s2=>⟨[(0,.ptr 0 0),(2,.ptr 1 0),(5,.ep (yr ((zr q3 ((zp a0).1)).1))),(6,.ref 2 16 0 s2.2.length),(11,.ref 3 2 0 (((ztb ((zr q3 ((zp a0).1)).1) 50).1).length)),(12,.int .i64 ((ztb ((zr q3 ((zp a0).1)).1) 50).2)),(13,.int .i64 s2.1)],[.box [encL 1 eIu8 q20.code,.int .i64 q20.at_,.int .u64 q20.seed],.box [.str [],.int .i64 0,.int .i64 0,.int .i64 0],.arr 45 16 s2.2.length (fun j=>yoe (s2.2.getD j default)),.arr 25 2 ((ztb ((zr q3 ((zp a0).1)).1) 50).1).length (fun j=>yx (((ztb ((zr q3 ((zp a0).1)).1) 50).1).getD j default))]⟩) (fun s2=>0<=s2.1/\s2.1<=4/\s2.2.length<=6+(s2.1).toNat/\∀ v∈s2.2,bdAid v) (fun s2=>(4-s2.1).toNat) (((4-(0:Int)).toNat)+1) (0,s1.2.2) [0,1,2,3] hz2 m0 (by(have hG:=hW1.2.2.2.1;refine⟨by(try dsimp only);omega,by(try dsimp only);omega,by(try dsimp only);omega,hW1.2.2.2.2⟩)) sm ?_;clear hz2;intro s2 k2 hW2 hm2 hz2;simp only[y8j]at hz2;refine rS ?_;refine AWP.cond rfl (fun hb => ?_) (fun hb => ?_)
   ·simp only[hb,cond_true]at hz2
    refine rS ?_;refine AWP.seq ?_;refine AWP.regP mixed G_ok DD hc 14 [0,1,2,3,4,5,6,7,8] (.alt 9 [10,11,12] [10,11,12] (.alt 13 [] [12] .leaf .stop) .stop) (by kernel_rfl) (by kernel_rfl) (by kernel_rfl) (fun K hK => ?_);simp only[y0f,runN,runP,yzb,nthO,ea,absV,absVL,cput,gv,sv,dn,reduceCtorEq,reduceIte,Nat.reduceBEq,Nat.reduceAdd,Nat.reduceEqDiff,Nat.reduceLT,Nat.reduceLeDiff,Nat.reduceMul,Nat.reduceSub,BEq.rfl,beq_self_eq_true,Int.reduceToNat];repeat' apply And.intro
    all_goals first|refine hK _ ?_|exact ot
    all_goals clear hK K
    refine rS ?_;refine AWP.cond rfl (fun hb => ?_) (fun hb => ?_)
    ·simp only[hb,cond_true]at hz2
     iterate 2 refine rS ?_
     clear hR;exact⟨_,[0,1,5,3],by(have h9:(((ztb ((zr q3 ((zp a0).1)).1) 50).2 == 0) && decide (s2.1<4))=true:=(by assumption);simp only[Bool.and_eq_true,beq_iff_eq,decide_eq_true_eq]at h9;have hwr:IntKind.wrap .i64 (s2.1+1)=s2.1+1:=(by rw[IntKind.wrap_i64];omega);(try dsimp only);rw[hwr];omega),by(have h9:(((ztb ((zr q3 ((zp a0).1)).1) 50).2 == 0) && decide (s2.1<4))=true:=(by assumption);simp only[Bool.and_eq_true,beq_iff_eq,decide_eq_true_eq]at h9;have hwr:IntKind.wrap .i64 (s2.1+1)=s2.1+1:=(by rw[IntKind.wrap_i64];omega);(try dsimp only);rw[hwr];have hG:=hW2.2.2.1;have hP:=yxc s2.2 _ bdAid (by omega) hW2.2.2.2 (ygb (IntKind.wrap .i64 (100+s2.1)) (((ztb ((zr q3 ((zp a0).1)).1) 50).1).getD ((s2.1).toNat) default) (IntKind.wrap .i64 (s2.1+3)));exact⟨by omega,by omega,by first|omega|(have:=hP.2;omega),by first|exact hP.1|exact hW2.2.2.2⟩),hz2,sm⟩
    ·simp only[hb,cond_false]at hz2
     refine rS ?_;clear hR;exact⟨_,[0,1,2,3],by(have h9:(((ztb ((zr q3 ((zp a0).1)).1) 50).2 == 0) && decide (s2.1<4))=true:=(by assumption);simp only[Bool.and_eq_true,beq_iff_eq,decide_eq_true_eq]at h9;have hwr:IntKind.wrap .i64 (s2.1+1)=s2.1+1:=(by rw[IntKind.wrap_i64];omega);(try dsimp only);rw[hwr];omega),by(have h9:(((ztb ((zr q3 ((zp a0).1)).1) 50).2 == 0) && decide (s2.1<4))=true:=(by assumption);simp only[Bool.and_eq_true,beq_iff_eq,decide_eq_true_eq]at h9;have hwr:IntKind.wrap .i64 (s2.1+1)=s2.1+1:=(by rw[IntKind.wrap_i64];omega);(try dsimp only);rw[hwr];have hG:=hW2.2.2.1;have hP:=yxc s2.2 _ bdAid (by omega) hW2.2.2.2 (ygb (IntKind.wrap .i64 (100+s2.1)) (((ztb ((zr q3 ((zp a0).1)).1) 50).1).getD ((s2.1).toNat) default) (IntKind.wrap .i64 (s2.1+3)));exact⟨by omega,by omega,by first|omega|(have:=hP.2;omega),by first|exact hP.1|exact hW2.2.2.2⟩),hz2,sm⟩
   ·simp only[hb,cond_false]at hz2
    refine AWP.exit ?_;refine yc ?_;subst hz2;dsimp only at hR;refine AWP.seq ?_;refine AWP.regP mixed G_ok DD hc 5 [0,1,2] (.alt 3 [] [0,1] (.alt 4 [] [1] .leaf .stop) .stop) (by kernel_rfl) (by kernel_rfl) (by kernel_rfl) (fun K hK => ?_);simp only[y0f,runN,runP,yzb,nthO,ea,absV,absVL,cput,gv,sv,dn,reduceCtorEq,reduceIte,Nat.reduceBEq,Nat.reduceAdd,Nat.reduceEqDiff,Nat.reduceLT,Nat.reduceLeDiff,Nat.reduceMul,Nat.reduceSub,BEq.rfl,beq_self_eq_true,Int.reduceToNat];repeat' apply And.intro
    all_goals first|refine hK _ ?_|exact ot
    all_goals clear hK K
    generalize hq22:(zhc q20).2=q22 at hR ⊢;replace hR:=bn hR;have hS_q22:SrcOk (300040+500 * (6-s1.1)+2+4) q22:=by rw[<- hq22];exact SrcOk.away hS_q20 (by omega)
    refine AWP.ret ?_;subst hR;exact esL
  ·replace hR:=cf hR
   refine AWP.skip ?_;refine AWP.seq ?_;refine AWP.regP mixed G_ok DD hc 5 [0,1,2] (.alt 3 [] [0,1] (.alt 4 [] [1] .leaf .stop) .stop) (by kernel_rfl) (by kernel_rfl) (by kernel_rfl) (fun K hK => ?_);simp only[y0f,runN,runP,yzb,nthO,ea,absV,absVL,cput,gv,sv,dn,reduceCtorEq,reduceIte,Nat.reduceBEq,Nat.reduceAdd,Nat.reduceEqDiff,Nat.reduceLT,Nat.reduceLeDiff,Nat.reduceMul,Nat.reduceSub,BEq.rfl,beq_self_eq_true,Int.reduceToNat];repeat' apply And.intro
   all_goals first|refine hK _ ?_|exact ot
   all_goals clear hK K
   generalize hq26:(zhc q20).2=q26 at hR ⊢;replace hR:=bn hR;have hS_q26:SrcOk (300040+500 * (6-s1.1)+2+4) q26:=by rw[<- hq26];exact SrcOk.away hS_q20 (by omega)
   refine AWP.ret ?_;subst hR;exact esL
end N58
def D_zfb : List AV -> Option (AV × List AV × List Prop)
 | [x0]=>some (.tup [.agg (yr (((zfb (rdQ yj x0)).1).1)),encL 16 eAid (((zfb (rdQ yj x0)).1).2.1),.int .i64 (((zfb (rdQ yj x0)).1).2.2)],[(.op (yi ((zfb (rdQ yj x0)).2)))],[wQ yi yj x0,SrcOk 300000 (rdQ yj x0)])
 | _=>none
theorem y5u:OkM Tryz.prog 58 D_zfb:=by unfold D_zfb;exact dm N58.den
def MkI (n:Int) (r:(Danger×(List Aid)×Int)×l00Src):Prop:=SrcOk (n+3000) r.2/\bdDanger r.1.1/\r.1.2.1.length<=10/\∀ v∈r.1.2.1,bdAid v
theorem yyl {n:Int} {s:l00Src} (h:SrcOk n s) (hn:n<=300000):MkI n (zfb s):=by
 have hd:=yfh h (by omega);have hb:=yyf (d:=(zp s).1) hd.1 (by omega);have hbd:=hb.2 hd.2;have h2:=hb.1;have h3:=h2.pick (m:=7) (by omega);have hr:=yd 7 h2 (by omega);have hr2:=hr.2 (by omega);unfold zfb;simp only[bnd];generalize hq3:(zp s).2=q3 at *;generalize hq4:(zr q3 (zp s).1).2=q4 at *;generalize hq6:(za q4 7).2=q6 at *
 obtain ⟨e, he, t, rfl, g1, g2, g3, g4, g5⟩ := ykd (b := ycj s q3 q4 q6) (fun x => 0 <= x.1 /\ x.1 <= 6 /\ SrcOk (n + 30 + 460 * (6 - x.1)) x.2.1 /\ x.2.2.length <= (6 - x.1).toNat /\ ∀ v ∈ x.2.2, bdAid v)
  (fun e=>∃ x,e=.inr x/\0<=x.1/\x.1<=6/\SrcOk (n+30+460 * (6-x.1)) x.2.1/\x.2.2.length<=(6-x.1).toNat/\∀ v∈x.2.2,bdAid v) (fun x=>x.1.toNat) (by
  rintro⟨k,c,l⟩ ⟨i1,i2,i3,i4,i5⟩
  simp only at i1 i2 i3 i4 i5;simp only[ycj,bnd];by_cases hk:0<k
  ·left
   have hw:IntKind.wrap .i64 (k-1)=k-1:=by rw[IntKind.wrap_i64];omega
   rw[decide_eq_true hk,cond_true,hw];have hm:=yqk (d:=(zr q3 (zp s).1).1) i3 (by omega);have hP:=yxc l _ bdAid (by omega) i5 hm.2
   cases((zid l (zvc c (zr q3 (zp s).1).1).1).2 == 0)with
   | true=>exact⟨_,rfl,⟨by simp only;omega,by simp only;omega,hm.1.mono (by simp only;omega),by simp only;omega,hP.1⟩,by simp only;omega⟩
   | false=>exact⟨_,rfl,⟨by simp only;omega,by simp only;omega,hm.1.mono (by simp only;omega),by simp only;omega,i5⟩,by simp only;omega⟩
  ·right
   rw[decide_eq_false hk,cond_false]
   exact⟨_,rfl,_,rfl,i1,i2,i3,i4,i5⟩) ((za q4 7).1.toNat+1) ((za q4 7).1,q6,[]) ⟨hr.1,by simp only;omega,h3.mono (by simp only;omega),by simp,by simp⟩ (Nat.lt_succ_self _)
 simp only[he];have h4:=g3.one (m:=3) (by omega);have h5:=h4.away (by omega)
 cases((zg t.2.1 3).1 && zmb (zr q3 (zp s).1).1)with
 | false=>exact⟨h5.mono (by omega),hbd,by simp only[cond_false];omega,g5⟩
 | true=>
  obtain ⟨e, he2, u, rfl, f1, f2, f3, f4⟩ := ykd (b := y8j s q3 q4 q6 t (zg t.2.1 3).2) (fun x => 0 <= x.1 /\ x.1 <= 4 /\ x.2.length <= 6 + x.1.toNat /\ ∀ v ∈ x.2, bdAid v)
   (fun e=>∃ x,e=.inr x/\0<=x.1/\x.1<=4/\x.2.length<=6+x.1.toNat/\∀ v∈x.2,bdAid v) (fun x=>(4-x.1).toNat) (by
   rintro⟨k,l⟩ ⟨i1,i2,i3,i4⟩
   simp only at i1 i2 i3 i4;simp only[y8j]
   cases hc:((ztb (zr q3 (zp s).1).1 50).2 == 0) && decide (k<4)with
   | true=>
    left
    rw[Bool.and_eq_true,decide_eq_true_eq]at hc;have hw:IntKind.wrap .i64 (k+1)=k+1:=by rw[IntKind.wrap_i64];omega
    rw[cond_true,hw];have hP:=yxc l _ bdAid (by omega) i4 (ygb (IntKind.wrap .i64 (100+k)) ((ztb (zr q3 (zp s).1).1 50).1.getD k.toNat default) (IntKind.wrap .i64 (k+3)));revert hP
    generalize zid l _=A;intro hP
    cases(A.2 == 0)with
    | true=>exact⟨_,rfl,⟨by simp only;omega,by simp only;omega,by simp only;omega,hP.1⟩,by simp only;omega⟩
    | false=>exact⟨_,rfl,⟨by simp only;omega,by simp only;omega,by simp only;omega,i4⟩,by simp only;omega⟩
   | false=>
    right
    exact⟨_,rfl,_,rfl,i1,i2,i3,i4⟩) (((4:Int)-(0:Int)).toNat+1) (0,t.2.2) ⟨by simp only;omega,by simp only;omega,by simp only;omega,g5⟩ (Nat.lt_succ_self _)
  simp only[cond_true,he2];exact⟨h5.mono (by omega),hbd,by simp only;omega,f4⟩
theorem SrcOk.marks {n:Int} {s:l00Src} (h:SrcOk n s) (hn:n<=300000):SrcOk (n+3000) (zfb s).2:=(yyl h hn).1
def zq (a0:(List Int)):(Danger×Int):=
 (bnd ((zp (zbc a0)).2) fun q3=>(bnd ((zr q3 ((zp (zbc a0)).1)).2) fun q4=>(bnd ((zhc q4).2) fun q7=>(((zr q3 ((zp (zbc a0)).1)).1),((zhc q4).1)))))
namespace N8
theorem DD:DOk Tryz.prog (Go.Ab.DD [(43,dP D_zbc),(44,dM [true,false] D_zr),(45,dM [true] D_zp),(46,dM [true] D_zhc)]):=ya y7q.e <| ya y6t.e <| ya y7s.e <| ya yip.e <| yb _
theorem dn:type_of% (And.intro @D_zbc.eq_1 <| And.intro @D_zr.eq_1 <| And.intro @D_zp.eq_1 <| @D_zhc.eq_1):=by and_intros<;>intros<;>rfl
theorem o1 {p:Prop} (h:p:=by(first|(refine SrcOk.mono (by repeat' first|assumption|exact SrcOk.next ‹_› | apply SrcOk.next|apply SrcOk.pick|apply SrcOk.one|apply SrcOk.among|apply SrcOk.text|apply SrcOk.colors|apply SrcOk.point|apply SrcOk.chr|apply SrcOk.sectors|apply SrcOk.aid|apply SrcOk.aids|apply SrcOk.notice|omega) (by omega)));first|done|fail):p:=h
set_option maxHeartbeats 2000000 in
set_option maxRecDepth 20000 in
theorem den (a0:(List Int)) (hp0:∀ v∈a0,0<=v/\v<=255):Den Tryz.prog 8 [encL 1 eIu8 a0] (.tup [.agg (yr ((zq a0).1)),.int .i64 ((zq a0).2)]):=by
 generalize hR:zq a0=r;unfold zq at hR;refine di Tryz.func8 Tryz.ntmps8 Tryz.results8 ?_;intro c hL hc hk;obtain⟨hL0,_⟩:=hL;have hw0:a0.length<9223372036854775808:=Nat.lt_succ_of_le (yf hL0).1;clear hL0;simp only[pars,Nat.zero_add];have hS0:SrcOk 0 (zbc a0):=⟨Int.le_refl _,Int.le_refl _,hp0⟩
 iterate 3 refine rS ?_
 generalize hq3:(zp (zbc a0)).2=q3 at hR ⊢;replace hR:=bn hR;have hS_q3:SrcOk (20) q3:=by rw[<- hq3];exact SrcOk.dang hS0 (by omega)
 generalize hq4:(zr q3 ((zp (zbc a0)).1)).2=q4 at hR ⊢;replace hR:=bn hR;have hS_q4:SrcOk (24) q4:=by rw[<- hq4];exact SrcOk.dbend hS_q3 (by omega)
 refine AWP.seq ?_;refine AWP.regP mixed G_ok DD hc 3 [0,1] (.alt 2 [] [0] .leaf .stop) (by kernel_rfl) (by kernel_rfl) (by kernel_rfl) (fun K hK => ?_);simp only[y0f,runN,runP,yzb,nthO,ea,absV,absVL,cput,gv,sv,dn,reduceCtorEq,reduceIte,Nat.reduceBEq,Nat.reduceAdd,Nat.reduceEqDiff,Nat.reduceLT,Nat.reduceLeDiff,Nat.reduceMul,Nat.reduceSub,BEq.rfl,beq_self_eq_true,Int.reduceToNat];repeat' apply And.intro
 all_goals first|refine hK _ ?_|exact ot
 all_goals clear hK K
 generalize hq7:(zhc q4).2=q7 at hR ⊢;replace hR:=bn hR;have hS_q7:SrcOk (28) q7:=by rw[<- hq7];exact SrcOk.away hS_q4 (by omega)
 refine AWP.ret ?_;subst hR;exact es
end N8
def D_zq : DF
 | [x0]=>some (.tup [.agg (yr ((zq (rdL dIu8 x0)).1)),.int .i64 ((zq (rdL dIu8 x0)).2)],false,[wL 1 eIu8 dIu8 x0,∀ v∈(rdL dIu8 x0),0<=v/\v<=255])
 | _=>none
theorem yzz:OkD Tryz.prog 8 D_zq:=by unfold D_zq;exact dk N8.den
def ze (a0:(List Int)):(Danger×(List Aid)×Int):=
 (bnd ((zfb (zbc a0)).2) fun q2=>(((zfb (zbc a0)).1).1,((zfb (zbc a0)).1).2.1,((zfb (zbc a0)).1).2.2))
namespace N14
theorem DD:DOk Tryz.prog (Go.Ab.DD [(43,dP D_zbc),(58,dM [true] D_zfb)]):=ya y7q.e <| ya y5u.e <| yb _
theorem dn:type_of% (And.intro @D_zbc.eq_1 <| @D_zfb.eq_1):=by and_intros<;>intros<;>rfl
theorem o1 {p:Prop} (h:p:=by(first|(refine SrcOk.mono (by repeat' first|assumption|exact SrcOk.next ‹_› | apply SrcOk.next|apply SrcOk.pick|apply SrcOk.one|apply SrcOk.among|apply SrcOk.text|apply SrcOk.colors|apply SrcOk.point|apply SrcOk.chr|apply SrcOk.sectors|apply SrcOk.aid|apply SrcOk.aids|apply SrcOk.notice|omega) (by omega)));first|done|fail):p:=h
set_option maxHeartbeats 2000000 in
set_option maxRecDepth 20000 in
theorem den (a0:(List Int)) (hp0:∀ v∈a0,0<=v/\v<=255):Den Tryz.prog 14 [encL 1 eIu8 a0] (.tup [.agg (yr ((ze a0).1)),encL 16 eAid ((ze a0).2.1),.int .i64 ((ze a0).2.2)]):=by
 generalize hR:ze a0=r;unfold ze at hR;refine di Tryz.func14 Tryz.ntmps14 Tryz.results14 ?_;intro c hL hc hk;obtain⟨hL0,_⟩:=hL;have hw0:a0.length<9223372036854775808:=Nat.lt_succ_of_le (yf hL0).1;clear hL0;simp only[pars,Nat.zero_add];have hS0:SrcOk 0 (zbc a0):=⟨Int.le_refl _,Int.le_refl _,hp0⟩
 iterate 3 refine rS ?_
 generalize hq2:(zfb (zbc a0)).2=q2 at hR ⊢;replace hR:=bn hR;have hS_q2:SrcOk (3000) q2:=by rw[<- hq2];exact SrcOk.marks hS0 (by omega)
 refine AWP.ret ?_;subst hR;exact es
end N14
def D_ze : DF
 | [x0]=>some (.tup [.agg (yr ((ze (rdL dIu8 x0)).1)),encL 16 eAid ((ze (rdL dIu8 x0)).2.1),.int .i64 ((ze (rdL dIu8 x0)).2.2)],false,[wL 1 eIu8 dIu8 x0,∀ v∈(rdL dIu8 x0),0<=v/\v<=255])
 | _=>none
theorem yvz:OkD Tryz.prog 14 D_ze:=by unfold D_ze;exact dk N14.den
theorem yh0 (a0:List Int) (hp0:∀ v∈a0,0<=v/\v<=255):bdDanger (zq a0).1:=by
 have hS0:SrcOk 0 (zbc a0):=⟨Int.le_refl _,Int.le_refl _,hp0⟩
 have h1:=yfh hS0 (by omega);exact(yyf h1.1 (by omega)).2 h1.2
theorem yuy (a0:List Int) (hp0:∀ v∈a0,0<=v/\v<=255):bdDanger (ze a0).1/\(ze a0).2.1.length<=10/\∀ v∈(ze a0).2.1,bdAid v:=by
 have hS0:SrcOk 0 (zbc a0):=⟨Int.le_refl _,Int.le_refl _,hp0⟩
 exact(yyl hS0 (by omega)).2
def yjm (a0:(List Int)) (a1:Int) (i1:Nat) (s1:Unit):Except (Bool) (Unit):=
 (bif ((a0.getD i1 default) == a1)then .error true else .ok ())
def zjd (a0:(List Int)) (a1:Int):Bool:=
 (match yh (yjm a0 a1) (a0.length-0) 0 ()with|.error e=>e|.ok s1=>false)
namespace N16
theorem DD:DOk Tryz.prog (Go.Ab.DD []):=yb _
theorem den (a0:(List Int)) (a1:Int)  : Den Tryz.prog 16 [encL 1 yq a0,.int .i64 a1] (.bool (zjd a0 a1)):=by
 generalize hR:zjd a0 a1=r;unfold zjd at hR;refine di Tryz.func16 Tryz.ntmps16 Tryz.results16 ?_;intro c hL hc hk;obtain⟨hL0,hL1,_⟩:=hL;have hw0:a0.length<9223372036854775808:=Nat.lt_succ_of_le (yf hL0).1;clear hL0 hL1;simp only[pars,Nat.zero_add];iterate 2 refine rS ?_
 refine AWP.block ?_;generalize hz1:yh (yjm a0 a1) (a0.length-0) 0 ()=z1 at hR;refine AWP.range (yjm a0 a1) (fun i1 s1=>⟨[(0,encL 1 yq a0),(1,.int .i64 a1),(5,.int .i64 (i1:Int))],[]⟩) (fun i1 s1=>True) (a0.length) 0 () [] hz1 ot wt sm ?_;clear hz1;intro i1 s1 hi1 hW1 hz1;refine rS ?_;refine AWP.cond rfl (fun hb => ?_) (fun hb => ?_)
 ·have hlt1:i1<a0.length:=ot
  rw[yn hlt1]at hz1;simp only[yjm]at hz1;refine rS ?_;refine AWP.cond rfl (fun hb => ?_) (fun hb => ?_)
  ·simp only[hb,cond_true]at hz1
   refine rS ?_;refine AWP.ret ?_;subst hz1;dsimp only at hR;subst hR;exact es
  ·simp only[hb,cond_false]at hz1
   refine rS ?_;exact⟨_,[],hlt1,wt,hz1,sm⟩
 ·obtain rfl:i1=a0.length:=ot
  rw[yp (Nat.le_refl _)]at hz1;subst hz1;dsimp only at hR;refine AWP.exit ?_;refine yc ?_;refine rS ?_;refine AWP.ret ?_;subst hR;exact es
end N16
def D_zjd : DF
 | [x0,x1]=>some (.bool (zjd (rdL ydb x0) (rdI x1)),false,[wL 1 yq ydb x0,wI .i64 x1])
 | _=>none
theorem y3u:OkD Tryz.prog 16 D_zjd:=by unfold D_zjd;exact dk N16.den
def zze (a0:(List Int)):Bool:=
 decide (1048576<(a0.length:Int))
namespace N7
theorem DD:DOk Tryz.prog (Go.Ab.DD []):=yb _
theorem den (a0:(List Int))  : Den Tryz.prog 7 [encL 1 eIu8 a0] (.bool (zze a0)):=by
 generalize hR:zze a0=r;unfold zze at hR;refine di Tryz.func7 Tryz.ntmps7 Tryz.results7 ?_;intro c hL hc hk;obtain⟨hL0,_⟩:=hL;have hw0:a0.length<9223372036854775808:=Nat.lt_succ_of_le (yf hL0).1;clear hL0;simp only[pars,Nat.zero_add];iterate 2 refine rS ?_
 refine AWP.ret ?_;subst hR;exact es
end N7
def D_zze : DF
 | [x0]=>some (.bool (zze (rdL dIu8 x0)),false,[wL 1 eIu8 dIu8 x0])
 | _=>none
theorem y5v:OkD Tryz.prog 7 D_zze:=by unfold D_zze;exact dk N7.den
def yvg (a0:(List Int)) (a1:(List Int)) (i1:Nat) (s1:List Aid):Except (Bool) (List Aid):=
 (bif ((((((zwd ((zq a0).1) (((zxb ((zq a0).1) ((zq a0).2)).1).getD i1 default)).2) != 0) || (((zwd ((zq a0).1) (((zxb ((zq a0).1) ((zq a0).2)).1).getD i1 default)).1) != (IntKind.wrap .i64 (3+(i1:Int))))) || (((zcb (IntKind.wrap .i64 (3+(i1:Int)))).2) != 0)) || (!(zqe ((zq a0).1) ({ Number:=IntKind.wrap .i64 ((i1:Int)+1),Name:=[99,97,114,100],At:=(((zxb ((zq a0).1) ((zq a0).2)).1).getD i1 default),Height:=0,Mark:=(zcb (IntKind.wrap .i64 (3+(i1:Int)))).1,Light:={ Kind:=0,Group:=[],Letter:=[],Colors:=[],Period:=0:Character },Sectors:=[],Intensity:=0:Aid }) ((zq a0).2))))then .error false else .ok (s1++[{ Number:=IntKind.wrap .i64 ((i1:Int)+1),Name:=[99,97,114,100],At:=(((zxb ((zq a0).1) ((zq a0).2)).1).getD i1 default),Height:=0,Mark:=(zcb (IntKind.wrap .i64 (3+(i1:Int)))).1,Light:={ Kind:=0,Group:=[],Letter:=[],Colors:=[],Period:=0:Character },Sectors:=[],Intensity:=0:Aid }]))
def y9m (a0:(List Int)) (a1:(List Int)) (s1:List Aid) (i2:Nat) (s2:Unit):Except (Bool) (Unit):=
 (bif (!(zjd ((zk ((ze a1).1) ((ze a1).2.1) (IntKind.wrap .i64 (((ze a1).2.2)+1))).1) (((zk ((ze a1).1) ((ze a1).2.1) ((ze a1).2.2)).1).getD i2 default)))then .error false else .ok ())
def ycn (a0:(List Int)) (a1:(List Int)) (i3:Nat) (s3:Unit):Except (Bool) (Unit):=
 (bif (!(zjd ((zk ((ze a1).1) ((ze a1).2.1) (IntKind.wrap .i64 (((ze a1).2.2)+1))).1) (((zk ((ze a1).1) ((ze a1).2.1) ((ze a1).2.2)).1).getD i3 default)))then .error false else .ok ())
def zcc (a0:(List Int)) (a1:(List Int)):Bool:=
 (bif ((zze a0) || (zze a1))then true else(bif (((zxb ((zq a0).1) ((zq a0).2)).2) == 0)then(bif ((((zxb ((zq a0).1) ((zq a0).2)).1).length:Int) != 4)then false else(match yh (yvg a0 a1) (4-0) 0 ([]:List Aid)with|.error e=>e|.ok s1=>(bif ((!(zod ((zq a0).1) s1 ((zq a0).2))) || (zod ((zq a0).1) (subL s1 1 (s1.length-1)) ((zq a0).2)))then false else(bif ((((zk ((ze a1).1) ((ze a1).2.1) ((ze a1).2.2)).2) != 0) || decide (20000<=((ze a1).2.2)))then((((zk ((ze a1).1) ((ze a1).2.1) ((ze a1).2.2)).2) == 0) || ((((zk ((ze a1).1) ((ze a1).2.1) ((ze a1).2.2)).1).length:Int) == 0))else(bif ((((zk ((ze a1).1) ((ze a1).2.1) (IntKind.wrap .i64 (((ze a1).2.2)+1))).2) != 0) || (!(((((zk ((ze a1).1) ((ze a1).2.1) ((ze a1).2.2)).1).length:Int) == 4) == (zod ((ze a1).1) ((ze a1).2.1) ((ze a1).2.2)))))then false else(match yh (y9m a0 a1 s1) ((((zk ((ze a1).1) ((ze a1).2.1) ((ze a1).2.2)).1).length)-0) 0 ()with|.error e=>e|.ok s2=>true))))))else(bif ((((zk ((ze a1).1) ((ze a1).2.1) ((ze a1).2.2)).2) != 0) || decide (20000<=((ze a1).2.2)))then((((zk ((ze a1).1) ((ze a1).2.1) ((ze a1).2.2)).2) == 0) || ((((zk ((ze a1).1) ((ze a1).2.1) ((ze a1).2.2)).1).length:Int) == 0))else(bif ((((zk ((ze a1).1) ((ze a1).2.1) (IntKind.wrap .i64 (((ze a1).2.2)+1))).2) != 0) || (!(((((zk ((ze a1).1) ((ze a1).2.1) ((ze a1).2.2)).1).length:Int) == 4) == (zod ((ze a1).1) ((ze a1).2.1) ((ze a1).2.2)))))then false else(match yh (ycn a0 a1) ((((zk ((ze a1).1) ((ze a1).2.1) ((ze a1).2.2)).1).length)-0) 0 ()with|.error e=>e|.ok s3=>true)))))
namespace N3
theorem DD:DOk Tryz.prog (Go.Ab.DD [(10,dP D_zwd),(11,dP D_zcb),(12,dP D_zqe),(13,dP D_zod),(14,dP D_ze),(15,dP D_zk),(16,dP D_zjd),(7,dP D_zze),(8,dP D_zq),(9,dP D_zxb)]):=ya yay.e <| ya y2g.e <| ya ynv.e <| ya yrw.e <| ya yvz.e <| ya yqu.e <| ya y3u.e <| ya y5v.e <| ya yzz.e <| ya ypw.e <| yb _
theorem dn:type_of% (And.intro @D_zwd.eq_1 <| And.intro @D_zcb.eq_1 <| And.intro @D_zqe.eq_1 <| And.intro @D_zod.eq_1 <| And.intro @D_ze.eq_1 <| And.intro @D_zk.eq_1 <| And.intro @D_zjd.eq_1 <| And.intro @D_zze.eq_1 <| And.intro @D_zq.eq_1 <| @D_zxb.eq_1):=by and_intros<;>intros<;>rfl
theorem o1 {p:Prop} (h:p:=by(first|(exact(ygb _ _ _).1)|(exact(ygb _ _ _).2.1.1)|(exact(ygb _ _ _).2.1.2.1)|(exact(ygb _ _ _).2.1.2.2)|(exact(ygb _ _ _).2.2.1.1)|(exact(ygb _ _ _).2.2.1.2.1)|(exact(ygb _ _ _).2.2.1.2.2)|(exact(ygb _ _ _).2.2.2)|(exact ygb _ _ _));first|done|fail):p:=h
theorem o2 {p:Prop} (h:p:=by(first|((repeat' with_reducible apply And.intro)<;>first|(simp only[List.length_append,List.length_singleton];(first|done|fail))|(rw[IntKind.wrap_i64];omega)|(intro j hj;by_cases hji:j<s1.length;(focus(simp only[yek hji,ydr hji,cond_true];first|(first|done|fail)|with_reducible rfl));(have e0:j-s1.length=0:=by omega);(simp only[yej hji hj,yir hji,cond_false,e0,elt,borrowL,borrow];first|(first|done|fail)|with_reducible rfl))|decide));first|done|fail):p:=h
set_option maxHeartbeats 4000000 in
set_option maxRecDepth 20000 in
theorem _root_.Go.Ab.zcc_den (a0:(List Int)) (a1:(List Int)) (hp0:∀ v∈a0,0<=v/\v<=255) (hp1:∀ v∈a1,0<=v/\v<=255):Den Tryz.prog 3 [encL 1 eIu8 a0,encL 1 eIu8 a1] (.bool (zcc a0 a1)):=by
 generalize hR:zcc a0 a1=r;unfold zcc at hR;refine di Tryz.func3 Tryz.ntmps3 Tryz.results3 ?_;intro c hL hc hk;obtain⟨hL0,hL1,_⟩:=hL;have hw0:a0.length<9223372036854775808:=Nat.lt_succ_of_le (yf hL0).1;have hw1:a1.length<9223372036854775808:=Nat.lt_succ_of_le (yf hL1).1;clear hL0 hL1;simp only[pars,Nat.zero_add];have hcb:=yh0 a0 hp0;obtain⟨hm1,hm2,hm3⟩:=yuy a1 hp1;have hms:=yd0 (ze a1).1 (ze a1).2.1 (ze a1).2.2;iterate 2 refine rS ?_
 refine AWP.cond rfl (fun hb => ?_) (fun hb => ?_)
 ·replace hR:=ct hR
  refine rS ?_;refine AWP.ret ?_;subst hR;exact es
 ·replace hR:=cf hR
  iterate 3 refine rS ?_
  refine AWP.cond rfl (fun hb => ?_) (fun hb => ?_)
  ·replace hR:=ct hR
   refine rS ?_;refine AWP.cond rfl (fun hb => ?_) (fun hb => ?_)
   ·replace hR:=ct hR
    refine rS ?_;refine AWP.ret ?_;subst hR;exact es
   ·replace hR:=cf hR
    iterate 2 refine rS ?_
    refine AWP.block ?_;generalize hz1:yh (yvg a0 a1) (4-0) 0 ([]:List Aid)=z1 at hR;refine AWP.range (yvg a0 a1) (fun i1 s1=>⟨[(1,encL 1 eIu8 a1),(5,.ptr 0 0),(6,.int .i64 ((zq a0).2)),(7,.ref 1 2 0 (((zxb ((zq a0).1) ((zq a0).2)).1).length)),(9,.ref 2 16 0 s1.length),(10,.int .i64 (i1:Int))],[.box [.str (((zq a0).1).Name),.int .i64 ((((zq a0).1).At).X),.int .i64 ((((zq a0).1).At).Y),.int .i64 (((zq a0).1).Radius)],.arr 25 2 ((zxb ((zq a0).1) ((zq a0).2)).1).length (fun j=>yx (((zxb ((zq a0).1) ((zq a0).2)).1).getD j default)),.arr 45 16 s1.length (fun j=>yoe (s1.getD j default))]⟩) (fun i1 s1=>s1.length<=([]:List Aid).length+1 * i1/\s1.length=i1/\∀ v∈s1,bdAid v) (4) 0 ([]:List Aid) [0,1,2] hz1 ot (by(exact⟨Nat.le_refl 0,rfl,fun v h=>absurd h (by simp)⟩)) sm ?_;clear hz1;intro i1 s1 hi1 hW1 hz1;have hV1:=hW1;obtain⟨hV1_0,hV1_1,hV1_2⟩:=hV1;refine rS ?_;refine AWP.cond rfl (fun hb => ?_) (fun hb => ?_)
    ·have hlt1:i1<4:=ot
     rw[yn hlt1]at hz1;simp only[yvg]at hz1;refine AWP.skip ?_;refine AWP.seq ?_;refine AWP.block ?_;refine AWP.seq ?_;refine AWP.regP mixed G_ok DD hc 10 [0,1,2,3,4,5,6,7,8] (.alt 9 [] [8] .leaf .stop) (by kernel_rfl) (by kernel_rfl) (by kernel_rfl) (fun K hK => ?_);simp only[y0f,runN,runP,yzb,nthO,ea,absV,absVL,cput,gv,sv,dn,reduceCtorEq,reduceIte,Nat.reduceBEq,Nat.reduceAdd,Nat.reduceEqDiff,Nat.reduceLT,Nat.reduceLeDiff,Nat.reduceMul,Nat.reduceSub,BEq.rfl,beq_self_eq_true,Int.reduceToNat];repeat' apply And.intro
     all_goals first|refine hK _ ?_|exact ot
     all_goals clear hK K
     refine rS ?_;refine AWP.seq ?_;refine AWP.regP mixed G_ok DD hc 9 [0,1,2,3,4,5,6,7] (.alt 8 [] [0,1,2,3,4,5,6,7] .leaf .stop) (by kernel_rfl) (by kernel_rfl) (by kernel_rfl) (fun K hK => ?_);simp only[y0f,runN,runP,yzb,nthO,ea,absV,absVL,cput,gv,sv,dn,reduceCtorEq,reduceIte,Nat.reduceBEq,Nat.reduceAdd,Nat.reduceEqDiff,Nat.reduceLT,Nat.reduceLeDiff,Nat.reduceMul,Nat.reduceSub,BEq.rfl,beq_self_eq_true,Int.reduceToNat];repeat' apply And.intro
     all_goals first|refine hK _ ?_|exact ot
     all_goals clear hK K
     refine rS ?_;refine AWP.cond rfl (fun hb => ?_) (fun hb => ?_)
     ·simp only[hb,cond_true]at hz1
      refine rS ?_;refine AWP.ret ?_;subst hz1;dsimp only at hR;subst hR;exact es
     ·simp only[hb,cond_false]at hz1
      refine rS ?_;refine AWP.arrS 6 (fun j=>yoe ((s1++[{ Number:=IntKind.wrap .i64 ((i1:Int)+1),Name:=[99,97,114,100],At:=(((zxb ((zq a0).1) ((zq a0).2)).1).getD i1 default),Height:=0,Mark:=(zcb (IntKind.wrap .i64 (3+(i1:Int)))).1,Light:={ Kind:=0,Group:=[],Letter:=[],Colors:=[],Period:=0:Character },Sectors:=[],Intensity:=0:Aid }]).getD j default)) rfl (by intro i hi;by_cases hji:i<(s1).length;(focus(simp only[joinF,yek hji,ydr hji,cond_true];exact y9 _));(have e0:i-(s1).length=0:=by omega);(simp only[joinF,yej hji hi,yir hji,cond_false,e0,elt,borrowL,borrow];(repeat' first|exact rfl|exact trivial|refine⟨?_,?_⟩))) ?_;simp only[setE];refine rS ?_;exact⟨_,[0,1,6],hlt1,by(refine⟨by simp only[List.length_append,List.length_singleton,List.length_nil];omega,by simp only[List.length_append,List.length_singleton];omega,fun v hv => ?_⟩;rcases List.mem_append.1 hv with h|h;exact hW1.2.2 v h;rw[List.mem_singleton]at h;subst h;exact ygb _ _ _),hz1,sm⟩
    ·obtain rfl:i1=4:=ot
     rw[yp (Nat.le_refl _)]at hz1;subst hz1;dsimp only at hR;refine AWP.exit ?_;refine yc ?_;refine rD 10 ?_;refine AWP.cond rfl (fun hb => ?_) (fun hb => ?_)
     ·replace hR:=ct hR
      refine rS ?_;refine AWP.ret ?_;subst hR;exact es
     ·replace hR:=cf hR
      iterate 3 refine rS ?_
      refine AWP.cond rfl (fun hb => ?_) (fun hb => ?_)
      ·replace hR:=ct hR
       refine rS ?_;refine AWP.ret ?_;subst hR;exact es
      ·replace hR:=cf hR
       iterate 2 refine rS ?_
       refine AWP.cond rfl (fun hb => ?_) (fun hb => ?_)
       ·replace hR:=ct hR
        refine rS ?_;refine AWP.ret ?_;subst hR;exact es
       ·replace hR:=cf hR
        refine rS ?_;refine AWP.block ?_;generalize hz2:yh (y9m a0 a1 s1) ((((zk ((ze a1).1) ((ze a1).2.1) ((ze a1).2.2)).1).length)-0) 0 ()=z2 at hR;refine AWP.range (y9m a0 a1 s1) (fun i2 s2=>⟨[(19,.ref 0 1 0 (((zk ((ze a1).1) ((ze a1).2.1) ((ze a1).2.2)).1).length)),(21,.ref 1 1 0 (((zk ((ze a1).1) ((ze a1).2.1) (IntKind.wrap .i64 (((ze a1).2.2)+1))).1).length)),(23,.int .i64 (i2:Int))],[.arr 2 1 ((zk ((ze a1).1) ((ze a1).2.1) ((ze a1).2.2)).1).length (fun j=>yq (((zk ((ze a1).1) ((ze a1).2.1) ((ze a1).2.2)).1).getD j default)),.arr 2 1 ((zk ((ze a1).1) ((ze a1).2.1) (IntKind.wrap .i64 (((ze a1).2.2)+1))).1).length (fun j=>yq (((zk ((ze a1).1) ((ze a1).2.1) (IntKind.wrap .i64 (((ze a1).2.2)+1))).1).getD j default))]⟩) (fun i2 s2=>True) ((((zk ((ze a1).1) ((ze a1).2.1) ((ze a1).2.2)).1).length)) 0 () [4,5] hz2 ot wt sm ?_;clear hz2;intro i2 s2 hi2 hW2 hz2;refine rS ?_;refine AWP.cond rfl (fun hb => ?_) (fun hb => ?_)
        ·have hlt2:i2<(((zk ((ze a1).1) ((ze a1).2.1) ((ze a1).2.2)).1).length):=ot
         rw[yn hlt2]at hz2;simp only[y9m]at hz2;refine rS ?_;refine AWP.cond rfl (fun hb => ?_) (fun hb => ?_)
         ·simp only[hb,cond_true]at hz2
          refine rS ?_;refine AWP.ret ?_;subst hz2;dsimp only at hR;subst hR;exact es
         ·simp only[hb,cond_false]at hz2
          refine rS ?_;exact⟨_,[0,1],hlt2,wt,hz2,sm⟩
        ·obtain rfl:i2=(((zk ((ze a1).1) ((ze a1).2.1) ((ze a1).2.2)).1).length):=ot
         rw[yp (Nat.le_refl _)]at hz2;subst hz2;dsimp only at hR;refine AWP.exit ?_;refine yc ?_;refine rS ?_;refine AWP.ret ?_;subst hR;exact es
  ·replace hR:=cf hR
   iterate 3 refine rS ?_
   refine AWP.cond rfl (fun hb => ?_) (fun hb => ?_)
   ·replace hR:=ct hR
    refine rS ?_;refine AWP.ret ?_;subst hR;exact es
   ·replace hR:=cf hR
    iterate 2 refine rS ?_
    refine AWP.cond rfl (fun hb => ?_) (fun hb => ?_)
    ·replace hR:=ct hR
     refine rS ?_;refine AWP.ret ?_;subst hR;exact es
    ·replace hR:=cf hR
     refine rS ?_;refine AWP.block ?_;generalize hz3:yh (ycn a0 a1) ((((zk ((ze a1).1) ((ze a1).2.1) ((ze a1).2.2)).1).length)-0) 0 ()=z3 at hR;refine AWP.range (ycn a0 a1) (fun i3 s3=>⟨[(19,.ref 0 1 0 (((zk ((ze a1).1) ((ze a1).2.1) ((ze a1).2.2)).1).length)),(21,.ref 1 1 0 (((zk ((ze a1).1) ((ze a1).2.1) (IntKind.wrap .i64 (((ze a1).2.2)+1))).1).length)),(23,.int .i64 (i3:Int))],[.arr 2 1 ((zk ((ze a1).1) ((ze a1).2.1) ((ze a1).2.2)).1).length (fun j=>yq (((zk ((ze a1).1) ((ze a1).2.1) ((ze a1).2.2)).1).getD j default)),.arr 2 1 ((zk ((ze a1).1) ((ze a1).2.1) (IntKind.wrap .i64 (((ze a1).2.2)+1))).1).length (fun j=>yq (((zk ((ze a1).1) ((ze a1).2.1) (IntKind.wrap .i64 (((ze a1).2.2)+1))).1).getD j default))]⟩) (fun i3 s3=>True) ((((zk ((ze a1).1) ((ze a1).2.1) ((ze a1).2.2)).1).length)) 0 () [3,4] hz3 ot wt sm ?_;clear hz3;intro i3 s3 hi3 hW3 hz3;refine rS ?_;refine AWP.cond rfl (fun hb => ?_) (fun hb => ?_)
     ·have hlt3:i3<(((zk ((ze a1).1) ((ze a1).2.1) ((ze a1).2.2)).1).length):=ot
      rw[yn hlt3]at hz3;simp only[ycn]at hz3;refine rS ?_;refine AWP.cond rfl (fun hb => ?_) (fun hb => ?_)
      ·simp only[hb,cond_true]at hz3
       refine rS ?_;refine AWP.ret ?_;subst hz3;dsimp only at hR;subst hR;exact es
      ·simp only[hb,cond_false]at hz3
       refine rS ?_;exact⟨_,[0,1],hlt3,wt,hz3,sm⟩
     ·obtain rfl:i3=(((zk ((ze a1).1) ((ze a1).2.1) ((ze a1).2.2)).1).length):=ot
      rw[yp (Nat.le_refl _)]at hz3;subst hz3;dsimp only at hR;refine AWP.exit ?_;refine yc ?_;refine rS ?_;refine AWP.ret ?_;subst hR;exact es
end N3
end Go.Ab
