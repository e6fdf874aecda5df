/- A part of a proof: walks of functions and lemmas of our own. No conditions. -/
import Derived.Test.YthjljhdfdppkoaaGreatDoorNBd
import Derived.Test.YthjljhdfdppkoaaGreatDoorNBa
import Derived.Test.YthjljhdfdppkoaaGreatDoorNBc
import Derived.Test.YthjljhdfdppkoaaGreatDoorNAv
import Derived.Test.YthjljhdfdppkoaaGreatDoorNAz
import Derived.Test.YthjljhdfdppkoaaGreatDoorNAy
import Derived.Test.YthjljhdfdppkoaaGreatDoorNAp
import Derived.Test.YthjljhdfdppkoaaGreatDoorNAt
import Derived.Test.YthjljhdfdppkoaaGreatDoorNAl
import Derived.Test.YthjljhdfdppkoaaGreatDoorNAk
import Derived.Test.YthjljhdfdppkoaaGreatDoorNAm
import Derived.Test.YthjljhdfdppkoaaGreatDoorNBb
import Derived.Test.YthjljhdfdppkoaaGreatDoorNAr
set_option linter.unusedSectionVars false
set_option linter.unusedVariables false
set_option linter.unusedSimpArgs false
set_option maxHeartbeats 1000000
namespace Go.Ab
open Go Go.Proofs
def AidQ (a:Aid):Prop:=bdAid a/\a.Light.Group.length<=2/\a.Sectors.length<=5
theorem yn8 {n:Int} {r:Aid×l00Src} (h:AidP n r):AidQ r.1:=⟨yr1 h,h.2.2.1.1,h.2.2.2.1⟩
theorem AidQ.l {a:Aid} (h:AidQ a):aidL a:=⟨Nat.lt_of_lt_of_le h.1.2.2.1.2.2 (by decide),by have:=h.2.2;omega⟩
structure AidsI (N:Int) (s:Int×l00Src×List Aid):Prop where
 a:0<=s.1
 b:s.1<=5
 q:SrcOk (N+400 * (5-s.1)) s.2.1
 n:(s.2.2.length:Int)<=5-s.1
 o:okP AidQ s.2.2
theorem yc1 {N:Int} (a0 q2:l00Src) (hN:N<=500000) (k:Nat) (s:Int×l00Src×List Aid) (h:AidsI N s) (hk:s.1.toNat<k):∃ t,yeb (y6k a0 q2) k s=.error (.inr t)/\AidsI N t:=by
 obtain⟨e,h1,t,rfl,h2⟩:=ysf (b:=y6k a0 q2) (AidsI N) (fun e=>∃ t,e=.inr t/\AidsI N t) (fun s=>s.1.toNat) (fun s h=>by
  obtain⟨k,src,l⟩:=s;obtain⟨ha,hb,hs,hn,ho⟩:=h;simp only at ha hb hs hn ho;unfold y6k;simp only;by_cases hc:0<k
  ·rw[decide_eq_true hc,cond_true]
   left
   have hA:=y9v hs (by omega);have hw:IntKind.wrap .i64 (k-1)=k-1:=by rw[IntKind.wrap_i64];omega
   rw[hw];simp only[bnd];have hs2:=hA.1;have hQ:=yn8 hA;have h1:=hA.2.1;generalize (zo src).2=s2 at hs2;generalize (zo src).1=a at hQ h1;have hpl:=(y5u (fun _=>True) l a (by omega) (fun _ _=>trivial) trivial).2
   cases hp:((zsc l a).2 == 0)with
   | true=>
    rw[cond_true];rw[beq_iff_eq]at hp;have hok:=yoab AidQ ho ⟨h1,hQ⟩ (t:=(zsc l a).1) (Prod.ext rfl hp);exact⟨_,rfl,⟨by show 0<=k-1;omega,by show k-1<=5;omega,hs2.mono (by show _<=N+400 * (5-(k-1));omega),by show((zsc l a).1.length:Int)<=5-(k-1);omega,hok⟩,by show(k-1).toNat<k.toNat;omega⟩
   | false=>
    rw[cond_false];exact⟨_,rfl,⟨by show 0<=k-1;omega,by show k-1<=5;omega,hs2.mono (by show _<=N+400 * (5-(k-1));omega),by show(l.length:Int)<=5-(k-1);omega,ho⟩,by show(k-1).toNat<k.toNat;omega⟩
  ·rw[decide_eq_false hc,cond_false]
   exact .inr ⟨_,rfl,_,rfl,ha,hb,hs,hn,ho⟩) k s h hk
 exact⟨t,h1,h2⟩
theorem yo2 {n:Int} {s:l00Src} (h:SrcOk n s) (hn:n<=400000):SrcOk (n+4000) (zld s).2/\okP AidQ (zld s).1/\(zld s).1.length<=5:=by
 have hr:=yq 6 h (by omega);have hr2:=hr.2 (by omega);have q2:=h.pick (m:=6) (by omega);unfold zld;simp only[bnd];obtain⟨t,e1,e2⟩:=yc1 (N:=n+2) s (za s 6).2 (by omega) (((za s 6).1).toNat+1) ((za s 6).1,(za s 6).2,([]:List Aid)) ⟨hr.1,by show(za s 6).1<=5;omega,q2.mono (by show _<=n+2+400 * (5-(za s 6).1);omega),by show((0:Nat):Int)<=5-(za s 6).1;omega,⟨⟨by simp,List.Pairwise.nil,by simp⟩,by simp⟩⟩ (by show((za s 6).1).toNat<_;omega);rw[e1];have ha:=e2.a;have hl:=e2.n;exact⟨e2.q.mono (by omega),e2.o,by show t.2.2.length<=5;omega⟩
theorem SrcOk.aids {n:Int} {s:l00Src} (h:SrcOk n s) (hn:n<=400000):SrcOk (n+4000) (zld s).2:=(yo2 h hn).1
theorem ypq:AidQ ({ Number:=0,Name:=[],At:={ X:=0,Y:=0:Point },Height:=0,Mark:={ Kind:=0,Colors:=[],Shape:=[],Topmark:=[]:Mark },Light:={ Kind:=0,Group:=[],Letter:=[],Colors:=[],Period:=0:Character },Sectors:=[],Intensity:=0:Aid }):=⟨by decide,by decide,by decide⟩
def zoc (a0:l00Src) (a1:(List Notice)) (a2:(List Aid)):Notice×l00Src:=
 (bnd ((za a0 3).2) fun q4=>(bnd ((za q4 50).2) fun q5=>(bnd ((za q5 4).2) fun q6=>(bif decide (0<(a1.length:Int))then(bnd ((za q6 20).2) fun q9=>(bif ((IntKind.wrap .i64 (1+((za q5 4).1))) == 1)then(bnd ((zo q9).2) fun q11=>({ Number:=IntKind.wrap .i64 ((IntKind.wrap .i64 (1+((za a0 3).1)))+((a1.getD ((IntKind.wrap .i64 ((a1.length:Int)-1)).toNat) default).Number)),Day:=IntKind.wrap .i64 (((a1.getD ((IntKind.wrap .i64 ((a1.length:Int)-1)).toNat) default).Day)+((za q6 20).1)),Kind:=IntKind.wrap .i64 (1+((za q5 4).1)),Target:=0,Aid:=((zo q9).1):Notice },q11))else(bif ((IntKind.wrap .i64 (1+((za q5 4).1))) == 2)then(bnd ((zo q9).2) fun q13=>(bif decide (0<(a2.length:Int))then(bnd ((za q13 4).2) fun q15=>(bif decide (0<((za q13 4).1))then(bnd ((za q15 (a2.length:Int)).2) fun q17=>({ Number:=IntKind.wrap .i64 ((IntKind.wrap .i64 (1+((za a0 3).1)))+((a1.getD ((IntKind.wrap .i64 ((a1.length:Int)-1)).toNat) default).Number)),Day:=IntKind.wrap .i64 (((a1.getD ((IntKind.wrap .i64 ((a1.length:Int)-1)).toNat) default).Day)+((za q6 20).1)),Kind:=IntKind.wrap .i64 (1+((za q5 4).1)),Target:=0,Aid:={ Number:=(a2.getD ((((za q15 (a2.length:Int)).1)).toNat) default).Number,Name:=((zo q9).1).Name,At:=((zo q9).1).At,Height:=((zo q9).1).Height,Mark:=((zo q9).1).Mark,Light:=((zo q9).1).Light,Sectors:=((zo q9).1).Sectors,Intensity:=((zo q9).1).Intensity:Aid }:Notice },q17))else({ Number:=IntKind.wrap .i64 ((IntKind.wrap .i64 (1+((za a0 3).1)))+((a1.getD ((IntKind.wrap .i64 ((a1.length:Int)-1)).toNat) default).Number)),Day:=IntKind.wrap .i64 (((a1.getD ((IntKind.wrap .i64 ((a1.length:Int)-1)).toNat) default).Day)+((za q6 20).1)),Kind:=IntKind.wrap .i64 (1+((za q5 4).1)),Target:=0,Aid:=((zo q9).1):Notice },q15)))else({ Number:=IntKind.wrap .i64 ((IntKind.wrap .i64 (1+((za a0 3).1)))+((a1.getD ((IntKind.wrap .i64 ((a1.length:Int)-1)).toNat) default).Number)),Day:=IntKind.wrap .i64 (((a1.getD ((IntKind.wrap .i64 ((a1.length:Int)-1)).toNat) default).Day)+((za q6 20).1)),Kind:=IntKind.wrap .i64 (1+((za q5 4).1)),Target:=0,Aid:=((zo q9).1):Notice },q13)))else(bif ((IntKind.wrap .i64 (1+((za q5 4).1))) == 3)then(bnd ((za q9 30).2) fun q19=>(bif decide (0<(a2.length:Int))then(bnd ((za q19 4).2) fun q21=>(bif decide (0<((za q19 4).1))then(bnd ((za q21 (a2.length:Int)).2) fun q23=>({ Number:=IntKind.wrap .i64 ((IntKind.wrap .i64 (1+((za a0 3).1)))+((a1.getD ((IntKind.wrap .i64 ((a1.length:Int)-1)).toNat) default).Number)),Day:=IntKind.wrap .i64 (((a1.getD ((IntKind.wrap .i64 ((a1.length:Int)-1)).toNat) default).Day)+((za q6 20).1)),Kind:=IntKind.wrap .i64 (1+((za q5 4).1)),Target:=(a2.getD ((((za q21 (a2.length:Int)).1)).toNat) default).Number,Aid:={ Number:=0,Name:=[],At:={ X:=0,Y:=0:Point },Height:=0,Mark:={ Kind:=0,Colors:=[],Shape:=[],Topmark:=[]:Mark },Light:={ Kind:=0,Group:=[],Letter:=[],Colors:=[],Period:=0:Character },Sectors:=[],Intensity:=0:Aid }:Notice },q23))else({ Number:=IntKind.wrap .i64 ((IntKind.wrap .i64 (1+((za a0 3).1)))+((a1.getD ((IntKind.wrap .i64 ((a1.length:Int)-1)).toNat) default).Number)),Day:=IntKind.wrap .i64 (((a1.getD ((IntKind.wrap .i64 ((a1.length:Int)-1)).toNat) default).Day)+((za q6 20).1)),Kind:=IntKind.wrap .i64 (1+((za q5 4).1)),Target:=IntKind.wrap .i64 (1+((za q9 30).1)),Aid:={ Number:=0,Name:=[],At:={ X:=0,Y:=0:Point },Height:=0,Mark:={ Kind:=0,Colors:=[],Shape:=[],Topmark:=[]:Mark },Light:={ Kind:=0,Group:=[],Letter:=[],Colors:=[],Period:=0:Character },Sectors:=[],Intensity:=0:Aid }:Notice },q21)))else({ Number:=IntKind.wrap .i64 ((IntKind.wrap .i64 (1+((za a0 3).1)))+((a1.getD ((IntKind.wrap .i64 ((a1.length:Int)-1)).toNat) default).Number)),Day:=IntKind.wrap .i64 (((a1.getD ((IntKind.wrap .i64 ((a1.length:Int)-1)).toNat) default).Day)+((za q6 20).1)),Kind:=IntKind.wrap .i64 (1+((za q5 4).1)),Target:=IntKind.wrap .i64 (1+((za q9 30).1)),Aid:={ Number:=0,Name:=[],At:={ X:=0,Y:=0:Point },Height:=0,Mark:={ Kind:=0,Colors:=[],Shape:=[],Topmark:=[]:Mark },Light:={ Kind:=0,Group:=[],Letter:=[],Colors:=[],Period:=0:Character },Sectors:=[],Intensity:=0:Aid }:Notice },q19)))else(bif ((IntKind.wrap .i64 (1+((za q5 4).1))) == 4)then(bnd ((za q9 9).2) fun q25=>(bnd ((za q25 (a1.length:Int)).2) fun q27=>({ Number:=IntKind.wrap .i64 ((IntKind.wrap .i64 (1+((za a0 3).1)))+((a1.getD ((IntKind.wrap .i64 ((a1.length:Int)-1)).toNat) default).Number)),Day:=IntKind.wrap .i64 (((a1.getD ((IntKind.wrap .i64 ((a1.length:Int)-1)).toNat) default).Day)+((za q6 20).1)),Kind:=IntKind.wrap .i64 (1+((za q5 4).1)),Target:=(a1.getD ((((za q25 (a1.length:Int)).1)).toNat) default).Number,Aid:={ Number:=0,Name:=[],At:={ X:=0,Y:=0:Point },Height:=0,Mark:={ Kind:=0,Colors:=[],Shape:=[],Topmark:=[]:Mark },Light:={ Kind:=0,Group:=[],Letter:=[],Colors:=[],Period:=0:Character },Sectors:=[],Intensity:=0:Aid }:Notice },q27)))else({ Number:=IntKind.wrap .i64 ((IntKind.wrap .i64 (1+((za a0 3).1)))+((a1.getD ((IntKind.wrap .i64 ((a1.length:Int)-1)).toNat) default).Number)),Day:=IntKind.wrap .i64 (((a1.getD ((IntKind.wrap .i64 ((a1.length:Int)-1)).toNat) default).Day)+((za q6 20).1)),Kind:=IntKind.wrap .i64 (1+((za q5 4).1)),Target:=0,Aid:={ Number:=0,Name:=[],At:={ X:=0,Y:=0:Point },Height:=0,Mark:={ Kind:=0,Colors:=[],Shape:=[],Topmark:=[]:Mark },Light:={ Kind:=0,Group:=[],Letter:=[],Colors:=[],Period:=0:Character },Sectors:=[],Intensity:=0:Aid }:Notice },q9))))))else(bif ((IntKind.wrap .i64 (1+((za q5 4).1))) == 1)then(bnd ((zo q6).2) fun q29=>({ Number:=IntKind.wrap .i64 (1+((za a0 3).1)),Day:=IntKind.wrap .i64 (100+((za q4 50).1)),Kind:=IntKind.wrap .i64 (1+((za q5 4).1)),Target:=0,Aid:=((zo q6).1):Notice },q29))else(bif ((IntKind.wrap .i64 (1+((za q5 4).1))) == 2)then(bnd ((zo q6).2) fun q31=>(bif decide (0<(a2.length:Int))then(bnd ((za q31 4).2) fun q33=>(bif decide (0<((za q31 4).1))then(bnd ((za q33 (a2.length:Int)).2) fun q35=>({ Number:=IntKind.wrap .i64 (1+((za a0 3).1)),Day:=IntKind.wrap .i64 (100+((za q4 50).1)),Kind:=IntKind.wrap .i64 (1+((za q5 4).1)),Target:=0,Aid:={ Number:=(a2.getD ((((za q33 (a2.length:Int)).1)).toNat) default).Number,Name:=((zo q6).1).Name,At:=((zo q6).1).At,Height:=((zo q6).1).Height,Mark:=((zo q6).1).Mark,Light:=((zo q6).1).Light,Sectors:=((zo q6).1).Sectors,Intensity:=((zo q6).1).Intensity:Aid }:Notice },q35))else({ Number:=IntKind.wrap .i64 (1+((za a0 3).1)),Day:=IntKind.wrap .i64 (100+((za q4 50).1)),Kind:=IntKind.wrap .i64 (1+((za q5 4).1)),Target:=0,Aid:=((zo q6).1):Notice },q33)))else({ Number:=IntKind.wrap .i64 (1+((za a0 3).1)),Day:=IntKind.wrap .i64 (100+((za q4 50).1)),Kind:=IntKind.wrap .i64 (1+((za q5 4).1)),Target:=0,Aid:=((zo q6).1):Notice },q31)))else(bif ((IntKind.wrap .i64 (1+((za q5 4).1))) == 3)then(bnd ((za q6 30).2) fun q37=>(bif decide (0<(a2.length:Int))then(bnd ((za q37 4).2) fun q39=>(bif decide (0<((za q37 4).1))then(bnd ((za q39 (a2.length:Int)).2) fun q41=>({ Number:=IntKind.wrap .i64 (1+((za a0 3).1)),Day:=IntKind.wrap .i64 (100+((za q4 50).1)),Kind:=IntKind.wrap .i64 (1+((za q5 4).1)),Target:=(a2.getD ((((za q39 (a2.length:Int)).1)).toNat) default).Number,Aid:={ Number:=0,Name:=[],At:={ X:=0,Y:=0:Point },Height:=0,Mark:={ Kind:=0,Colors:=[],Shape:=[],Topmark:=[]:Mark },Light:={ Kind:=0,Group:=[],Letter:=[],Colors:=[],Period:=0:Character },Sectors:=[],Intensity:=0:Aid }:Notice },q41))else({ Number:=IntKind.wrap .i64 (1+((za a0 3).1)),Day:=IntKind.wrap .i64 (100+((za q4 50).1)),Kind:=IntKind.wrap .i64 (1+((za q5 4).1)),Target:=IntKind.wrap .i64 (1+((za q6 30).1)),Aid:={ Number:=0,Name:=[],At:={ X:=0,Y:=0:Point },Height:=0,Mark:={ Kind:=0,Colors:=[],Shape:=[],Topmark:=[]:Mark },Light:={ Kind:=0,Group:=[],Letter:=[],Colors:=[],Period:=0:Character },Sectors:=[],Intensity:=0:Aid }:Notice },q39)))else({ Number:=IntKind.wrap .i64 (1+((za a0 3).1)),Day:=IntKind.wrap .i64 (100+((za q4 50).1)),Kind:=IntKind.wrap .i64 (1+((za q5 4).1)),Target:=IntKind.wrap .i64 (1+((za q6 30).1)),Aid:={ Number:=0,Name:=[],At:={ X:=0,Y:=0:Point },Height:=0,Mark:={ Kind:=0,Colors:=[],Shape:=[],Topmark:=[]:Mark },Light:={ Kind:=0,Group:=[],Letter:=[],Colors:=[],Period:=0:Character },Sectors:=[],Intensity:=0:Aid }:Notice },q37)))else(bif ((IntKind.wrap .i64 (1+((za q5 4).1))) == 4)then(bnd ((za q6 9).2) fun q43=>({ Number:=IntKind.wrap .i64 (1+((za a0 3).1)),Day:=IntKind.wrap .i64 (100+((za q4 50).1)),Kind:=IntKind.wrap .i64 (1+((za q5 4).1)),Target:=IntKind.wrap .i64 (1+((za q6 9).1)),Aid:={ Number:=0,Name:=[],At:={ X:=0,Y:=0:Point },Height:=0,Mark:={ Kind:=0,Colors:=[],Shape:=[],Topmark:=[]:Mark },Light:={ Kind:=0,Group:=[],Letter:=[],Colors:=[],Period:=0:Character },Sectors:=[],Intensity:=0:Aid }:Notice },q43))else({ Number:=IntKind.wrap .i64 (1+((za a0 3).1)),Day:=IntKind.wrap .i64 (100+((za q4 50).1)),Kind:=IntKind.wrap .i64 (1+((za q5 4).1)),Target:=0,Aid:={ Number:=0,Name:=[],At:={ X:=0,Y:=0:Point },Height:=0,Mark:={ Kind:=0,Colors:=[],Shape:=[],Topmark:=[]:Mark },Light:={ Kind:=0,Group:=[],Letter:=[],Colors:=[],Period:=0:Character },Sectors:=[],Intensity:=0:Aid }:Notice },q6)))))))))
namespace N21
theorem DD:DOk Tryz.prog (Go.Ab.DD [(45,dM [true,false] D_za),(46,dM [true] D_zo)]):=ya yme.e <| ya yj0.e <| yf _
abbrev dn:=cj @D_za.eq_1 <| @D_zo.eq_1
theorem o1 {p:Prop} (h:p:=by(first|(exact(pk_b (by assumption) (by assumption) (by omega)).1)|(exact(pk_b (by assumption) (by assumption) (by omega)).2.1)|(exact(pk_b (by assumption) (by assumption) (by omega)).2.2)|(refine SrcOk.mono (by repeat' first|assumption|exact SrcOk.next ‹_› | apply SrcOk.next|apply SrcOk.pick|apply SrcOk.one|apply SrcOk.among|apply SrcOk.text|apply SrcOk.colors|apply SrcOk.point|apply SrcOk.chr|apply SrcOk.sectors|apply SrcOk.aid|apply SrcOk.aids|apply SrcOk.notice|omega) (by omega))|(exact(yq _ (by assumption) (by omega)).1)|(exact(yq _ (by assumption) (by omega)).2 (by omega))|(rename_i h9;simp only[beq_eq_false_iff_ne,ne_eq]at h9;exact(yq _ (by assumption) (by omega)).2 (by omega))|(rename_i h9;replace h9:=of_decide_eq_true h9;exact(yq _ (by assumption) (by omega)).2 (by omega)));first|done|fail):p:=h
set_option maxHeartbeats 2000000 in
set_option maxRecDepth 20000 in
theorem den (a0:l00Src) (a1:(List Notice)) (a2:(List Aid)) (hp0:SrcOk 400000 a0):DenM Tryz.prog 21 [.op (yu a0),encL 20 ye a1,encL 16 eAid a2] (.agg (ye ((zoc a0 a1 a2).1))) [(.op (yu ((zoc a0 a1 a2).2))),.any,.any]:=by
 generalize hR:zoc a0 a1 a2=r;unfold zoc at hR;refine djL (gb:=[true,false,false]) Tryz.func21 Tryz.ntmps21 Tryz.results21 ?_;intro c hL hc hk;obtain⟨hL0,hL1,hL2,_⟩:=hL;have hw0:bwl00Src a0:=ygb a0 hL0;have hw1:a1.length<9223372036854775808:=Nat.lt_succ_of_le (yb hL1).1;have hw2:∀ v∈a1,bwNotice v:=fun v hv=>yi v ((yb hL1).2 v hv)
 have hw3:a2.length<9223372036854775808:=Nat.lt_succ_of_le (yb hL2).1;have hw4:∀ v∈a2,bwAid v:=fun v hv=>y3 v ((yb hL2).2 v hv)
 clear hL0 hL1 hL2;simp only[adEL,adE,adRL,adR,ownL,encL,sv,List.nil_append,List.append_nil,List.cons_append,List.length_cons,List.length_nil,pars,Nat.zero_add,Nat.reduceAdd]at hk ⊢;iterate 2 refine rS ?_
 generalize hq4:(za a0 3).2=q4 at hR ⊢;replace hR:=bn hR;have hS_q4:SrcOk (400002) q4:=by rw[<- hq4];exact SrcOk.pick hp0 (by omega)
 generalize hq5:(za q4 50).2=q5 at hR ⊢;replace hR:=bn hR;have hS_q5:SrcOk (400004) q5:=by rw[<- hq5];exact SrcOk.pick hS_q4 (by omega)
 generalize hq6:(za q5 4).2=q6 at hR ⊢;replace hR:=bn hR;have hS_q6:SrcOk (400006) q6:=by rw[<- hq6];exact SrcOk.pick hS_q5 (by omega)
 iterate 2 refine rS ?_
 refine AWP.cond rfl (fun hb => ?_) (fun hb => ?_)
 ·replace hR:=ct hR
  refine rD 9 ?_;refine AWP.regP mixed G_ok DD hc 9 [0,1,2,3,4,5,6] (.alt 7 [8] [0,1,2,3,4,5,8] .leaf .stop) (by kernel_rfl) (by kernel_rfl) (by kernel_rfl) (fun K hK => ?_);simp only[ypi,runN,runP,yjc,nthO,ea,absV,ybc,cput,gv,sv,dn,reduceCtorEq,reduceIte,Nat.reduceBEq,Nat.reduceAdd,Nat.reduceEqDiff,Nat.reduceLT,Nat.reduceLeDiff,Nat.reduceMul,Nat.reduceSub,BEq.rfl,beq_self_eq_true,Int.reduceToNat];repeat' apply And.intro
  all_goals first|refine hK _ ?_|exact ot
  all_goals clear hK K
  generalize hq9:(za q6 20).2=q9 at hR ⊢;replace hR:=bn hR;have hS_q9:SrcOk (400008) q9:=by rw[<- hq9];exact SrcOk.pick hS_q6 (by omega)
  iterate 2 refine rS ?_
  refine AWP.cond rfl (fun hb => ?_) (fun hb => ?_)
  ·replace hR:=ct hR
   refine rS ?_;generalize hq11:(zo q9).2=q11 at hR ⊢;replace hR:=bn hR;have hS_q11:SrcOk (400408) q11:=by rw[<- hq11];exact SrcOk.aid hS_q9 (by omega)
   refine rS ?_;refine AWP.ret ?_;subst hR;exact esL
  ·replace hR:=cf hR
   refine rS ?_;refine AWP.cond rfl (fun hb => ?_) (fun hb => ?_)
   ·replace hR:=ct hR
    refine rS ?_;generalize hq13:(zo q9).2=q13 at hR ⊢;replace hR:=bn hR;have hS_q13:SrcOk (400408) q13:=by rw[<- hq13];exact SrcOk.aid hS_q9 (by omega)
    refine AWP.seq ?_;rcases Bool.eq_false_or_eq_true (decide (0<(a2.length:Int)))with hb|hb
    ·replace hR:=ct hR
     refine rK [(4,0),(5,0),(6,0),(7,2)] ?_;generalize hq15:(za q13 4).2=q15 at hR ⊢;replace hR:=bn hR;have hS_q15:SrcOk (400410) q15:=by rw[<- hq15];exact SrcOk.pick hS_q13 (by omega)
     refine AWP.cond rfl (fun hb => ?_) (fun hb => ?_)
     ·replace hR:=ct hR
      refine rS ?_;generalize hq17:(za q15 (a2.length:Int)).2=q17 at hR ⊢;replace hR:=bn hR;have hS_q17:SrcOk (400412) q17:=by rw[<- hq17];exact SrcOk.pick hS_q15 (by omega)
      refine rS ?_;refine AWP.ret ?_;subst hR;exact esL
     ·replace hR:=cf hR
      refine rS ?_;refine AWP.ret ?_;subst hR;exact esL
    ·replace hR:=cf hR
     refine rK [(4,1),(5,1),(6,1),(7,3)] ?_;refine AWP.cond rfl (fun hb => ?_) (fun hb => ?_)
     ·exact absurd hb (by decide)
     ·refine rS ?_
      refine AWP.ret ?_;subst hR;exact esL
   ·replace hR:=cf hR
    refine rS ?_;refine AWP.cond rfl (fun hb => ?_) (fun hb => ?_)
    ·replace hR:=ct hR
     refine rS ?_;generalize hq19:(za q9 30).2=q19 at hR ⊢;replace hR:=bn hR;have hS_q19:SrcOk (400010) q19:=by rw[<- hq19];exact SrcOk.pick hS_q9 (by omega)
     refine AWP.seq ?_;rcases Bool.eq_false_or_eq_true (decide (0<(a2.length:Int)))with hb|hb
     ·replace hR:=ct hR
      refine rK [(4,0),(5,0),(6,0),(7,2)] ?_;generalize hq21:(za q19 4).2=q21 at hR ⊢;replace hR:=bn hR;have hS_q21:SrcOk (400012) q21:=by rw[<- hq21];exact SrcOk.pick hS_q19 (by omega)
      refine AWP.cond rfl (fun hb => ?_) (fun hb => ?_)
      ·replace hR:=ct hR
       refine rS ?_;generalize hq23:(za q21 (a2.length:Int)).2=q23 at hR ⊢;replace hR:=bn hR;have hS_q23:SrcOk (400014) q23:=by rw[<- hq23];exact SrcOk.pick hS_q21 (by omega)
       refine rS ?_;refine AWP.ret ?_;subst hR;exact esL
      ·replace hR:=cf hR
       refine rS ?_;refine AWP.ret ?_;subst hR;exact esL
     ·replace hR:=cf hR
      refine rK [(4,1),(5,1),(6,1),(7,3)] ?_;refine AWP.cond rfl (fun hb => ?_) (fun hb => ?_)
      ·exact absurd hb (by decide)
      ·refine rS ?_
       refine AWP.ret ?_;subst hR;exact esL
    ·replace hR:=cf hR
     refine rS ?_;refine AWP.cond rfl (fun hb => ?_) (fun hb => ?_)
     ·replace hR:=ct hR
      refine rS ?_;generalize hq25:(za q9 9).2=q25 at hR ⊢;replace hR:=bn hR;have hS_q25:SrcOk (400010) q25:=by rw[<- hq25];exact SrcOk.pick hS_q9 (by omega)
      refine rS ?_;refine AWP.cond rfl (fun hb => ?_) (fun hb => ?_)
      ·refine rS ?_
       generalize hq27:(za q25 (a1.length:Int)).2=q27 at hR ⊢;replace hR:=bn hR;have hS_q27:SrcOk (400012) q27:=by rw[<- hq27];exact SrcOk.pick hS_q25 (by omega)
       refine rS ?_;refine AWP.ret ?_;subst hR;exact esL
      ·exfalso;simp_all
     ·replace hR:=cf hR
      refine rS ?_;refine AWP.ret ?_;subst hR;exact esL
 ·replace hR:=cf hR
  iterate 2 refine rS ?_
  refine AWP.cond rfl (fun hb => ?_) (fun hb => ?_)
  ·replace hR:=ct hR
   refine rS ?_;generalize hq29:(zo q6).2=q29 at hR ⊢;replace hR:=bn hR;have hS_q29:SrcOk (400406) q29:=by rw[<- hq29];exact SrcOk.aid hS_q6 (by omega)
   refine rS ?_;refine AWP.ret ?_;subst hR;exact esL
  ·replace hR:=cf hR
   refine rS ?_;refine AWP.cond rfl (fun hb => ?_) (fun hb => ?_)
   ·replace hR:=ct hR
    refine rS ?_;generalize hq31:(zo q6).2=q31 at hR ⊢;replace hR:=bn hR;have hS_q31:SrcOk (400406) q31:=by rw[<- hq31];exact SrcOk.aid hS_q6 (by omega)
    refine AWP.seq ?_;rcases Bool.eq_false_or_eq_true (decide (0<(a2.length:Int)))with hb|hb
    ·replace hR:=ct hR
     refine rK [(4,0),(5,0),(6,0),(7,2)] ?_;generalize hq33:(za q31 4).2=q33 at hR ⊢;replace hR:=bn hR;have hS_q33:SrcOk (400408) q33:=by rw[<- hq33];exact SrcOk.pick hS_q31 (by omega)
     refine AWP.cond rfl (fun hb => ?_) (fun hb => ?_)
     ·replace hR:=ct hR
      refine rS ?_;generalize hq35:(za q33 (a2.length:Int)).2=q35 at hR ⊢;replace hR:=bn hR;have hS_q35:SrcOk (400410) q35:=by rw[<- hq35];exact SrcOk.pick hS_q33 (by omega)
      refine rS ?_;refine AWP.ret ?_;subst hR;exact esL
     ·replace hR:=cf hR
      refine rS ?_;refine AWP.ret ?_;subst hR;exact esL
    ·replace hR:=cf hR
     refine rK [(4,1),(5,1),(6,1),(7,3)] ?_;refine AWP.cond rfl (fun hb => ?_) (fun hb => ?_)
     ·exact absurd hb (by decide)
     ·refine rS ?_
      refine AWP.ret ?_;subst hR;exact esL
   ·replace hR:=cf hR
    refine rS ?_;refine AWP.cond rfl (fun hb => ?_) (fun hb => ?_)
    ·replace hR:=ct hR
     refine rS ?_;generalize hq37:(za q6 30).2=q37 at hR ⊢;replace hR:=bn hR;have hS_q37:SrcOk (400008) q37:=by rw[<- hq37];exact SrcOk.pick hS_q6 (by omega)
     refine AWP.seq ?_;rcases Bool.eq_false_or_eq_true (decide (0<(a2.length:Int)))with hb|hb
     ·replace hR:=ct hR
      refine rK [(4,0),(5,0),(6,0),(7,2)] ?_;generalize hq39:(za q37 4).2=q39 at hR ⊢;replace hR:=bn hR;have hS_q39:SrcOk (400010) q39:=by rw[<- hq39];exact SrcOk.pick hS_q37 (by omega)
      refine AWP.cond rfl (fun hb => ?_) (fun hb => ?_)
      ·replace hR:=ct hR
       refine rS ?_;generalize hq41:(za q39 (a2.length:Int)).2=q41 at hR ⊢;replace hR:=bn hR;have hS_q41:SrcOk (400012) q41:=by rw[<- hq41];exact SrcOk.pick hS_q39 (by omega)
       refine rS ?_;refine AWP.ret ?_;subst hR;exact esL
      ·replace hR:=cf hR
       refine rS ?_;refine AWP.ret ?_;subst hR;exact esL
     ·replace hR:=cf hR
      refine rK [(4,1),(5,1),(6,1),(7,3)] ?_;refine AWP.cond rfl (fun hb => ?_) (fun hb => ?_)
      ·exact absurd hb (by decide)
      ·refine rS ?_
       refine AWP.ret ?_;subst hR;exact esL
    ·replace hR:=cf hR
     refine rS ?_;refine AWP.cond rfl (fun hb => ?_) (fun hb => ?_)
     ·replace hR:=ct hR
      refine rS ?_;generalize hq43:(za q6 9).2=q43 at hR ⊢;replace hR:=bn hR;have hS_q43:SrcOk (400008) q43:=by rw[<- hq43];exact SrcOk.pick hS_q6 (by omega)
      refine rS ?_;refine AWP.cond rfl (fun hb => ?_) (fun hb => ?_)
      ·exfalso;simp_all
      ·refine rS ?_
       refine AWP.ret ?_;subst hR;exact esL
     ·replace hR:=cf hR
      refine rS ?_;refine AWP.ret ?_;subst hR;exact esL
end N21
def D_zoc : List AV -> Option (AV × List AV × List Prop)
 | [x0,x1,x2]=>some (.agg (ye ((zoc (rdQ yw x0) (rdL yc x1) (rdL dAid x2)).1)),[(.op (yu ((zoc (rdQ yw x0) (rdL yc x1) (rdL dAid x2)).2))),.any,.any],[wQ yu yw x0,wL 20 ye yc x1,wL 16 eAid dAid x2,SrcOk 400000 (rdQ yw x0)])
 | _=>none
theorem y1v:OkM Tryz.prog 21 D_zoc:=by unfold D_zoc;exact dm N21.den
theorem ye5 {a:Aid} (h:AidQ a) (k:Int):AidQ { Number:=k,Name:=a.Name,At:=a.At,Height:=a.Height,Mark:=a.Mark,Light:=a.Light,Sectors:=a.Sectors,Intensity:=a.Intensity:Aid }:=h
def y1p (N D K t4:Int) (s4:l00Src) (e:List Aid) (q0:l00Src):Notice×l00Src:=
 (bif (K == 1)then(bnd ((zo q0).2) fun q28=>({ Number:=N,Day:=D,Kind:=K,Target:=0,Aid:=(zo q0).1:Notice },q28))else(bif (K == 2)then(bnd ((zo q0).2) fun q30=>(bif decide (0<(e.length:Int))then(bnd ((za q30 4).2) fun q32=>(bif decide (0<((za q30 4).1))then(bnd ((za q32 (e.length:Int)).2) fun q34=>({ Number:=N,Day:=D,Kind:=K,Target:=0,Aid:={ Number:=(e.getD ((((za q32 (e.length:Int)).1)).toNat) default).Number,Name:=((zo q0).1).Name,At:=((zo q0).1).At,Height:=((zo q0).1).Height,Mark:=((zo q0).1).Mark,Light:=((zo q0).1).Light,Sectors:=((zo q0).1).Sectors,Intensity:=((zo q0).1).Intensity:Aid }:Notice },q34))else({ Number:=N,Day:=D,Kind:=K,Target:=0,Aid:=(zo q0).1:Notice },q32)))else({ Number:=N,Day:=D,Kind:=K,Target:=0,Aid:=(zo q0).1:Notice },q30)))else(bif (K == 3)then(bnd ((za q0 30).2) fun q36=>(bif decide (0<(e.length:Int))then(bnd ((za q36 4).2) fun q38=>(bif decide (0<((za q36 4).1))then(bnd ((za q38 (e.length:Int)).2) fun q40=>({ Number:=N,Day:=D,Kind:=K,Target:=(e.getD ((((za q38 (e.length:Int)).1)).toNat) default).Number,Aid:={ Number:=0,Name:=[],At:={ X:=0,Y:=0:Point },Height:=0,Mark:={ Kind:=0,Colors:=[],Shape:=[],Topmark:=[]:Mark },Light:={ Kind:=0,Group:=[],Letter:=[],Colors:=[],Period:=0:Character },Sectors:=[],Intensity:=0:Aid }:Notice },q40))else({ Number:=N,Day:=D,Kind:=K,Target:=IntKind.wrap .i64 (1+((za q0 30).1)),Aid:={ Number:=0,Name:=[],At:={ X:=0,Y:=0:Point },Height:=0,Mark:={ Kind:=0,Colors:=[],Shape:=[],Topmark:=[]:Mark },Light:={ Kind:=0,Group:=[],Letter:=[],Colors:=[],Period:=0:Character },Sectors:=[],Intensity:=0:Aid }:Notice },q38)))else({ Number:=N,Day:=D,Kind:=K,Target:=IntKind.wrap .i64 (1+((za q0 30).1)),Aid:={ Number:=0,Name:=[],At:={ X:=0,Y:=0:Point },Height:=0,Mark:={ Kind:=0,Colors:=[],Shape:=[],Topmark:=[]:Mark },Light:={ Kind:=0,Group:=[],Letter:=[],Colors:=[],Period:=0:Character },Sectors:=[],Intensity:=0:Aid }:Notice },q36)))else(bif (K == 4)then({ Number:=N,Day:=D,Kind:=K,Target:=t4,Aid:={ Number:=0,Name:=[],At:={ X:=0,Y:=0:Point },Height:=0,Mark:={ Kind:=0,Colors:=[],Shape:=[],Topmark:=[]:Mark },Light:={ Kind:=0,Group:=[],Letter:=[],Colors:=[],Period:=0:Character },Sectors:=[],Intensity:=0:Aid }:Notice },s4)else({ Number:=N,Day:=D,Kind:=K,Target:=0,Aid:={ Number:=0,Name:=[],At:={ X:=0,Y:=0:Point },Height:=0,Mark:={ Kind:=0,Colors:=[],Shape:=[],Topmark:=[]:Mark },Light:={ Kind:=0,Group:=[],Letter:=[],Colors:=[],Period:=0:Character },Sectors:=[],Intensity:=0:Aid }:Notice },q0)))))
theorem yln {n:Int} {N D K t4:Int} {s4:l00Src} {e:List Aid} {q:l00Src} (h:SrcOk n q) (h4:SrcOk (n+500) s4) (hn:n<=500000):SrcOk (n+500) (y1p N D K t4 s4 e q).2/\AidQ (y1p N D K t4 s4 e q).1.Aid/\(y1p N D K t4 s4 e q).1.Day=D:=by
 have ha:=h.aid (by omega);have hA:=yn8 (y9v h (by omega));have m:∀ {k:Int} {s:l00Src},SrcOk k s->k<=n+500->SrcOk (n+500) s:=fun h h2=>h.mono h2
 unfold y1p;simp only[bnd]
 cases(K == 1)with
 | true=>exact⟨m ha (by omega),hA,rfl⟩
 | false=>
 rw[cond_false]
 cases(K == 2)with
 | true=>
  rw[cond_true]
  cases decide (0<(e.length:Int))with
  | false=>exact⟨m ha (by omega),hA,rfl⟩
  | true=>
   rw[cond_true];have hp:=ha.pick (m:=4) (by omega)
   cases decide (0<(za (zo q).2 4).1)with
   | false=>exact⟨m hp (by omega),hA,rfl⟩
   | true=>exact⟨m (hp.pick (m:=(e.length:Int)) (by omega)) (by omega),ye5 hA _,rfl⟩
 | false=>
 rw[cond_false]
 cases(K == 3)with
 | true=>
  rw[cond_true];have h3:=h.pick (m:=30) (by omega)
  cases decide (0<(e.length:Int))with
  | false=>exact⟨m h3 (by omega),ypq,rfl⟩
  | true=>
   rw[cond_true];have hp:=h3.pick (m:=4) (by omega)
   cases decide (0<(za (za q 30).2 4).1)with
   | false=>exact⟨m hp (by omega),ypq,rfl⟩
   | true=>exact⟨m (hp.pick (m:=(e.length:Int)) (by omega)) (by omega),ypq,rfl⟩
 | false=>
 rw[cond_false]
 cases(K == 4)with
 | true=>exact⟨h4,ypq,rfl⟩
 | false=>exact⟨m h (by omega),ypq,rfl⟩
def y6z (l:List Notice) (d:Int):Prop:=(∀ v∈l,100<=v.Day/\v.Day<=99999)->100<=d
theorem y3p {n:Int} {s:l00Src} {l:List Notice} {e:List Aid} (h:SrcOk n s) (hn:n<=400000) (hl:l.length<1000000):SrcOk (n+600) (zoc s l e).2/\AidQ (zoc s l e).1.Aid/\y6z l (zoc s l e).1.Day:=by
 have h1:=h.pick (m:=3) (by omega);have r2:=yq 50 h1 (by omega);have r2b:=r2.2 (by omega);have h2:=h1.pick (m:=50) (by omega);have h3:=h2.pick (m:=4) (by omega);have hm:∀ {d:Int} {r:Notice×l00Src},SrcOk (n+2+2+2+2+500) r.2/\AidQ r.1.Aid/\r.1.Day=d->y6z l d->SrcOk (n+600) r.2/\AidQ r.1.Aid/\y6z l r.1.Day:=fun⟨a,b,c⟩ hd=>⟨a.mono (by omega),b,by rw[c];exact hd⟩
 unfold zoc;simp only[bnd]
 cases hc:decide (0<(l.length:Int))with
 | true=>
  have hc:=of_decide_eq_true hc;rw[cond_true];have r4:=yq 20 h3 (by omega);have r4b:=r4.2 (by omega);have h4:=h3.pick (m:=20) (by omega);have h5:=h4.pick (m:=9) (by omega);have h6:=h5.pick (m:=(l.length:Int)) (by omega);refine hm (yln (N:=_) (D:=_) (K:=_) (t4:=_) (s4:=(za (za _ 9).2 (l.length:Int)).2) (e:=e) h4 (h6.mono (by omega)) (by omega)) ?_;intro hv;have hw:IntKind.wrap .i64 ((l.length:Int)-1)=(l.length:Int)-1:=by rw[IntKind.wrap_i64];omega
  rw[hw]
  have hg:l.getD ((l.length:Int)-1).toNat default∈l:=by
   have hi:((l.length:Int)-1).toNat<l.length:=by omega
   rw[List.getD_eq_getElem?_getD,List.getElem?_eq_getElem hi];exact List.getElem_mem hi
  have hv:=hv _ hg;generalize (l.getD ((l.length:Int)-1).toNat default).Day=d at hv;rw[IntKind.wrap_i64];omega
 | false=>
  rw[cond_false];refine hm (yln (N:=_) (D:=_) (K:=_) (t4:=_) (s4:=(za _ 9).2) (e:=e) (h3.mono (by omega)) ((h3.pick (m:=9) (by omega)).mono (by omega)) (by omega)) ?_;intro hv;rw[IntKind.wrap_i64];omega
theorem yb8 {n:Int} {s:l00Src} {l:List Notice} {e:List Aid} (h:SrcOk n s) (hn:n<=400000) (hl:l.length<1000000):SrcOk (n+1000) (zoc s l e).2/\bdNotice (zoc s l e).1:=
 ⟨(y3p h hn hl).1.mono (by omega),(y3p h hn hl).2.1.1⟩
theorem SrcOk.notice {n:Int} {s:l00Src} {l:List Notice} {e:List Aid} (h:SrcOk n s) (hn:n<=400000/\l.length<1000000):SrcOk (n+1000) (zoc s l e).2:=(yb8 h hn.1 hn.2).1
def y4k (a0:l00Src) (a1:(List Aid)) (q2:l00Src) (s1:List Notice×Int×l00Src):Except (Sum ((List Notice)×l00Src) (List Notice×Int×l00Src)) (List Notice×Int×l00Src):=
 (bif decide (0<s1.2.1)then(bnd ((zoc s1.2.2 s1.1 a1).2) fun q6=>(bif (((znc s1.1 ((zoc s1.2.2 s1.1 a1).1)).2) == 0)then .ok ((znc s1.1 ((zoc s1.2.2 s1.1 a1).1)).1,IntKind.wrap .i64 (s1.2.1-1),q6)else .ok (s1.1,IntKind.wrap .i64 (s1.2.1-1),q6)))else .error (.inr (s1.1,s1.2.1,s1.2.2)))
def zsd (a0:l00Src) (a1:(List Aid)):(List Notice)×l00Src:=
 (bnd ((za a0 6).2) fun q2=>(match yeb (y4k a0 a1 q2) (((((za a0 6).1)).toNat)+1) (([]:List Notice),((za a0 6).1),q2)with|.error (.inl e)=>e|.error (.inr s1)=>(s1.1,s1.2.2)|.ok _=>default))
namespace N20
theorem DD:DOk Tryz.prog (Go.Ab.DD [(21,dM [true,false,false] D_zoc),(45,dM [true,false] D_za),(48,dP D_znc)]):=ya y1v.e <| ya yme.e <| ya yu6.e <| yf _
abbrev dn:=cj @D_zoc.eq_1 <| cj @D_za.eq_1 <| @D_znc.eq_1
theorem o1 {p:Prop} (h:p:=by(first|(refine SrcOk.mono (by repeat' first|assumption|exact SrcOk.next ‹_› | apply SrcOk.next|apply SrcOk.pick|apply SrcOk.one|apply SrcOk.among|apply SrcOk.text|apply SrcOk.colors|apply SrcOk.point|apply SrcOk.chr|apply SrcOk.sectors|apply SrcOk.aid|apply SrcOk.aids|apply SrcOk.notice|omega) (by omega))|(exact SrcOk.mono hW1.2.2.1 (by omega)));first|done|fail):p:=h
set_option maxHeartbeats 2000000 in
set_option maxRecDepth 20000 in
theorem den (a0:l00Src) (a1:(List Aid)) (hp0:SrcOk 300000 a0):DenM Tryz.prog 20 [.op (yu a0),encL 16 eAid a1] (encL 20 ye ((zsd a0 a1).1)) [(.op (yu ((zsd a0 a1).2))),.any]:=by
 generalize hR:zsd a0 a1=r;unfold zsd at hR;refine dj (gb:=[true,false]) Tryz.func20 Tryz.ntmps20 Tryz.results20 ?_;intro c hL hc hk;obtain⟨hL0,hL1,_⟩:=hL;have hw0:bwl00Src a0:=ygb a0 hL0;have hw1:a1.length<9223372036854775808:=Nat.lt_succ_of_le (yb hL1).1;have hw2:∀ v∈a1,bwAid v:=fun v hv=>y3 v ((yb hL1).2 v hv)
 clear hL0 hL1;simp only[adEL,adE,adRL,adR,ownL,encL,sv,List.nil_append,List.append_nil,List.cons_append,List.length_cons,List.length_nil,pars,Nat.zero_add,Nat.reduceAdd]at hk ⊢;have hpn:=fun(s:l00Src) (n:Int) (l:List Notice) (e:List Aid) (h:SrcOk n s) (hn:n<=400000) (hl:l.length<1000000)=>(yb8 (l:=l) (e:=e) h hn hl).2
 iterate 2 refine rS ?_
 refine AWP.lendV 5 1 (fun j=>ye (([]:List Notice).getD j default)) rfl rfl (Nat.le_refl _) lv1 lv2 ?_;simp only[setE];refine rS ?_;generalize hq2:(za a0 6).2=q2 at hR ⊢;replace hR:=bn hR;have hS_q2:SrcOk (300002) q2:=by rw[<- hq2];exact SrcOk.pick hp0 (by omega)
 refine AWP.block ?_;generalize hz1:yeb (y4k a0 a1 q2) (((((za a0 6).1)).toNat)+1) (([]:List Notice),((za a0 6).1),q2)=z1 at hR;refine AWP.whileW (y4k a0 a1 q2) (fun s1=>⟨[(0,.ptr 0 0),(1,encL 16 eAid a1),(5,encL 20 ye s1.1),(6,.int .i64 s1.2.1)],[.box [encL 1 eIu8 s1.2.2.code,.int .i64 s1.2.2.at_,.int .u64 s1.2.2.seed]]⟩) (fun s1=>0<=s1.2.1/\s1.2.1<=5/\SrcOk (300040+2000 * (5-s1.2.1)) s1.2.2/\s1.1.length<=(5-s1.2.1).toNat/\∀ v∈s1.1,bdNotice v) (fun s1=>(s1.2.1).toNat) (((((za a0 6).1)).toNat)+1) (([]:List Notice),((za a0 6).1),q2) [0] hz1 m0 (by(have h2:=yq 6 hp0 (by omega);have h3:=h2.2 (by omega);refine⟨h2.1,by(try dsimp only);omega,SrcOk.mono (by assumption) (by(try dsimp only);omega),by simp,by simp⟩)) sm ?_;clear hz1;intro s1 k1 hW1 hm1 hz1;simp only[y4k]at hz1;refine rS ?_;refine AWP.cond rfl (fun hb => ?_) (fun hb => ?_)
 ·simp only[hb,cond_true]at hz1
  refine rS ?_;refine AWP.lendV 7 1 (fun j=>ye (((znc s1.1 ((zoc s1.2.2 s1.1 a1).1)).1).getD j default)) rfl rfl (Nat.le_refl _) lv1 lv2 ?_;simp only[setE];generalize hq6:(zoc s1.2.2 s1.1 a1).2=q6 at hz1 ⊢;rw[bndv q6]at hz1;have hS_q6:SrcOk (300040+2000 * (5-s1.2.1)+1000) q6:=by rw[<- hq6];exact SrcOk.notice hW1.2.2.1 (by omega)
  refine rS ?_;refine AWP.cond rfl (fun hb => ?_) (fun hb => ?_)
  ·simp only[hb,cond_true]at hz1
   iterate 2 refine rS ?_
   clear hR;exact⟨_,[0],by(have hpos:0<s1.2.1:=of_decide_eq_true (by assumption);have hwr:IntKind.wrap .i64 (s1.2.1-1)=s1.2.1-1:=(by rw[IntKind.wrap_i64];omega);(try dsimp only);rw[hwr];omega),by(have hpos:0<s1.2.1:=of_decide_eq_true (by assumption);have hwr:IntKind.wrap .i64 (s1.2.1-1)=s1.2.1-1:=(by rw[IntKind.wrap_i64];omega);(try dsimp only);rw[hwr];have hG:=hW1.2.2.2.1;have hA:=hpn s1.2.2 _ s1.1 a1 hW1.2.2.1 (by omega) (by omega);have hP:=ygbb s1.1 _ hW1.2.2.2.2 hA;exact⟨by omega,by omega,SrcOk.mono (by assumption) (by omega),by omega,by first|exact hP.1|exact hW1.2.2.2.2⟩),hz1,sm⟩
  ·simp only[hb,cond_false]at hz1
   refine rS ?_;clear hR;exact⟨_,[0],by(have hpos:0<s1.2.1:=of_decide_eq_true (by assumption);have hwr:IntKind.wrap .i64 (s1.2.1-1)=s1.2.1-1:=(by rw[IntKind.wrap_i64];omega);(try dsimp only);rw[hwr];omega),by(have hpos:0<s1.2.1:=of_decide_eq_true (by assumption);have hwr:IntKind.wrap .i64 (s1.2.1-1)=s1.2.1-1:=(by rw[IntKind.wrap_i64];omega);(try dsimp only);rw[hwr];have hG:=hW1.2.2.2.1;have hA:=hpn s1.2.2 _ s1.1 a1 hW1.2.2.1 (by omega) (by omega);have hP:=ygbb s1.1 _ hW1.2.2.2.2 hA;exact⟨by omega,by omega,SrcOk.mono (by assumption) (by omega),by omega,by first|exact hP.1|exact hW1.2.2.2.2⟩),hz1,sm⟩
 ·simp only[hb,cond_false]at hz1
  refine AWP.exit ?_;refine yd ?_;subst hz1;dsimp only at hR;refine rS ?_;refine AWP.ret ?_;subst hR;exact es
end N20
def D_zsd : List AV -> Option (AV × List AV × List Prop)
 | [x0,x1]=>some (encL 20 ye ((zsd (rdQ yw x0) (rdL dAid x1)).1),[(.op (yu ((zsd (rdQ yw x0) (rdL dAid x1)).2))),.any],[wQ yu yw x0,wL 16 eAid dAid x1,SrcOk 300000 (rdQ yw x0)])
 | _=>none
theorem yb4:OkM Tryz.prog 20 D_zsd:=by unfold D_zsd;exact dm N20.den
structure NtsP (l:List Notice):Prop where
 ok:zkb l=true
 q:∀ v∈l,AidQ v.Aid
 d:∀ v∈l,100<=v.Day/\v.Day<=99999
theorem NtsP.nil:NtsP []:=⟨ym2,fun v h=>absurd h (by simp),fun v h=>absurd h (by simp)⟩
structure NtsI (N:Int) (s:List Notice×Int×l00Src):Prop where
 a:0<=s.2.1
 b:s.2.1<=5
 q:SrcOk (N+1000 * (5-s.2.1)) s.2.2
 l:(s.1.length:Int)<=5-s.2.1
 p:NtsP s.1
theorem y42 {N:Int} (a0 q2:l00Src) (e:List Aid) (hN:N<=300010) (k:Nat) (s:List Notice×Int×l00Src) (h:NtsI N s) (hk:s.2.1.toNat<k):∃ t,yeb (y4k a0 e q2) k s=.error (.inr t)/\NtsI N t:=by
 obtain⟨e,h1,t,rfl,h2⟩:=ysf (b:=y4k a0 e q2) (NtsI N) (fun e=>∃ t,e=.inr t/\NtsI N t) (fun s=>s.2.1.toNat) (fun s h=>by
  obtain⟨l,k,q⟩:=s;obtain⟨ha,hb,hq,hl,hp⟩:=h;simp only at ha hb hq hl;unfold y4k;simp only;by_cases hc:0<k
  ·rw[decide_eq_true hc,cond_true]
   left
   have hn:=y3p (l:=l) (e:=e) hq (by omega) (by omega);obtain⟨n1,n2,n3⟩:=hn;have hw:IntKind.wrap .i64 (k-1)=k-1:=by rw[IntKind.wrap_i64];omega
   simp only[bnd,hw];generalize (zoc q l e).2=q2 at n1;generalize (zoc q l e).1=n at n2 n3 ⊢;have hS:SrcOk (N+1000 * (5-(k-1))) q2:=n1.mono (by omega);rcases y5i l n with⟨_,h2⟩|⟨h2,h3,h4,h5,h6,h7⟩
   ·have:((znc l n).2 == 0)=false:=by rw[beq_eq_false_iff_ne];exact h2
    rw[this,cond_false];exact⟨_,rfl,⟨by show 0<=k-1;omega,by show k-1<=5;omega,hS,by show(l.length:Int)<=5-(k-1);omega,hp⟩,by show(k-1).toNat<k.toNat;omega⟩
   ·rw[h2]
    have hD:100<=n.Day:=n3 hp.d;have hD2:=yio h4;refine⟨_,rfl,⟨by show 0<=k-1;omega,by show k-1<=5;omega,hS,by show((l++[n]).length:Int)<=5-(k-1);rw[List.length_append,List.length_singleton];omega,⟨ydj h3 h4 h5 h6 h7,fun v hv => ?_,fun v hv => ?_⟩⟩,by show(k-1).toNat<k.toNat;omega⟩
    ·rcases List.mem_append.1 hv with h|h
     ·exact hp.q v h
     ·rw[List.mem_singleton]at h;subst h;exact n2
    ·rcases List.mem_append.1 hv with h|h
     ·exact hp.d v h
     ·rw[List.mem_singleton]at h;subst h;exact⟨hD,hD2⟩
  ·rw[decide_eq_false hc,cond_false]
   exact .inr ⟨_,rfl,_,rfl,⟨ha,hb,hq,hl,hp⟩⟩) k s h hk
 exact⟨t,h1,h2⟩
theorem ydbb {n:Int} {s:l00Src} {e:List Aid} (h:SrcOk n s) (hn:n<=300000):SrcOk (n+6000) (zsd s e).2/\NtsP (zsd s e).1/\(zsd s e).1.length<=5:=by
 have hr:=yq 6 h (by omega);have hr2:=hr.2 (by omega);have hq:=h.pick (m:=6) (by omega);unfold zsd;simp only[bnd];obtain⟨t,e1,e2⟩:=y42 (N:=n+2) s (za s 6).2 e (by omega) (((za s 6).1).toNat+1) (([]:List Notice),(za s 6).1,(za s 6).2) ⟨hr.1,by show(za s 6).1<=5;omega,hq.mono (by show _<=n+2+1000 * (5-(za s 6).1);omega),by show((0:Nat):Int)<=5-(za s 6).1;omega,NtsP.nil⟩ (by show((za s 6).1).toNat<_;omega);rw[e1];have ha:=e2.a;have hl:=e2.l;exact⟨e2.q.mono (by omega),e2.p,by show t.1.length<=5;omega⟩
def znf (a0:(List Int)):(List Aid):=
 ((zld (zje a0)).1)
namespace N5
theorem DD:DOk Tryz.prog (Go.Ab.DD [(18,dP D_zje),(19,dM [true] D_zld)]):=ya yqo.e <| ya yn3.e <| yf _
abbrev dn:=cj @D_zje.eq_1 <| @D_zld.eq_1
theorem o1 {p:Prop} (h:p:=by(first|(exact⟨Int.le_refl _,by show(0:Int)<=400000;omega,hp0⟩));first|done|fail):p:=h
theorem den (a0:(List Int)) (hp0:∀ v∈a0,0<=v/\v<=255):Den Tryz.prog 5 [encL 1 eIu8 a0] (ownL 37 16 eAid (znf a0)):=by
 generalize hR:znf a0=r;unfold znf at hR;refine di Tryz.func5 Tryz.ntmps5 Tryz.results5 ?_;intro c hL hc hk;obtain⟨hL0,_⟩:=hL;have hw0:a0.length<9223372036854775808:=Nat.lt_succ_of_le (yb hL0).1;clear hL0;simp only[pars,Nat.zero_add];iterate 3 refine rS ?_
 refine AWP.ret ?_;subst hR;exact es
end N5
def D_znf : DF
 | [x0]=>some (ownL 37 16 eAid (znf (rdL dIu8 x0)),false,[wL 1 eIu8 dIu8 x0,∀ v∈(rdL dIu8 x0),0<=v/\v<=255])
 | _=>none
theorem yx5:OkD Tryz.prog 5 D_znf:=by unfold D_znf;exact dk N5.den
def zrg (a0:(List Int)) (a1:(List Aid)):(List Notice):=
 ((zsd (zje a0) a1).1)
namespace N6
theorem DD:DOk Tryz.prog (Go.Ab.DD [(18,dP D_zje),(20,dM [true,false] D_zsd)]):=ya yqo.e <| ya yb4.e <| yf _
abbrev dn:=cj @D_zje.eq_1 <| @D_zsd.eq_1
theorem o1 {p:Prop} (h:p:=by(first|(exact⟨Int.le_refl _,by show(0:Int)<=300000;omega,hp0⟩));first|done|fail):p:=h
theorem den (a0:(List Int)) (a1:(List Aid)) (hp0:∀ v∈a0,0<=v/\v<=255):Den Tryz.prog 6 [encL 1 eIu8 a0,encL 16 eAid a1] (encL 20 ye (zrg a0 a1)):=by
 generalize hR:zrg a0 a1=r;unfold zrg at hR;refine di Tryz.func6 Tryz.ntmps6 Tryz.results6 ?_;intro c hL hc hk;obtain⟨hL0,hL1,_⟩:=hL;have hw0:a0.length<9223372036854775808:=Nat.lt_succ_of_le (yb hL0).1;have hw1:a1.length<9223372036854775808:=Nat.lt_succ_of_le (yb hL1).1;have hw2:∀ v∈a1,bwAid v:=fun v hv=>y3 v ((yb hL1).2 v hv)
 clear hL0 hL1;simp only[pars,Nat.zero_add];iterate 3 refine rS ?_
 refine AWP.ret ?_;subst hR;exact es
end N6
def D_zrg : DF
 | [x0,x1]=>some (encL 20 ye (zrg (rdL dIu8 x0) (rdL dAid x1)),false,[wL 1 eIu8 dIu8 x0,wL 16 eAid dAid x1,∀ v∈(rdL dIu8 x0),0<=v/\v<=255])
 | _=>none
theorem y75:OkD Tryz.prog 6 D_zrg:=by unfold D_zrg;exact dk N6.den
def zyg (a0:(List Aid)) (a1:(List Notice)) (a2:Int):Int:=
 (bif ((!(zob a0)) || (!(ztb a1)))then 1 else(bif (!(zrb a2))then 2 else 0))
namespace N40
theorem DD:DOk Tryz.prog (Go.Ab.DD [(35,dP D_ztb),(42,dP D_zrb),(84,dP D_zob)]):=ya yek.e <| ya yth.e <| ya ykk.e <| yf _
abbrev dn:=cj @D_ztb.eq_1 <| cj @D_zrb.eq_1 <| @D_zob.eq_1
theorem gr {p:Prop} (h:p:=by(grind [yjg,yhd]);first|done|fail):p:=h
theorem den (a0:(List Aid)) (a1:(List Notice)) (a2:Int) (hb0:a0.length<1099511627776) (hb1:∀ v∈a0,bdAid v) (hb2:a1.length<1099511627776) (hb3:∀ v∈a1,bdNotice v):Den Tryz.prog 40 [encL 16 eAid a0,encL 20 ye a1,.int .i64 a2] (.int .i64 (zyg a0 a1 a2)):=by
 generalize hR:zyg a0 a1 a2=r;unfold zyg at hR;refine di Tryz.func40 Tryz.ntmps40 Tryz.results40 ?_;intro c hL hc hk;obtain⟨hL0,hL1,hL2,_⟩:=hL;have hw0:a0.length<9223372036854775808:=Nat.lt_succ_of_le (yb hL0).1;have hw1:∀ v∈a0,bwAid v:=fun v hv=>y3 v ((yb hL0).2 v hv)
 have hw2:a1.length<9223372036854775808:=Nat.lt_succ_of_le (yb hL1).1;have hw3:∀ v∈a1,bwNotice v:=fun v hv=>yi v ((yb hL1).2 v hv)
 clear hL0 hL1 hL2;simp only[pars,Nat.zero_add];iterate 2 refine rS ?_
 refine AWP.cond rfl (fun hb => ?_) (fun hb => ?_)
 ·replace hR:=ct hR
  refine rS ?_;refine AWP.ret ?_;subst hR;exact es
 ·replace hR:=cf hR
  refine rS ?_;refine AWP.cond rfl (fun hb => ?_) (fun hb => ?_)
  ·replace hR:=ct hR
   refine rS ?_;refine AWP.ret ?_;subst hR;exact es
  ·replace hR:=cf hR
   refine rS ?_;refine AWP.ret ?_;subst hR;exact es
end N40
def D_zyg : DF
 | [x0,x1,x2]=>some (.int .i64 (zyg (rdL dAid x0) (rdL yc x1) (rdI x2)),false,[wL 16 eAid dAid x0,wL 20 ye yc x1,wI .i64 x2,(rdL dAid x0).length<1099511627776,∀ v∈(rdL dAid x0),bdAid v,(rdL yc x1).length<1099511627776,∀ v∈(rdL yc x1),bdNotice v])
 | _=>none
theorem yj3:OkD Tryz.prog 40 D_zyg:=by unfold D_zyg;exact dk N40.den
end Go.Ab
