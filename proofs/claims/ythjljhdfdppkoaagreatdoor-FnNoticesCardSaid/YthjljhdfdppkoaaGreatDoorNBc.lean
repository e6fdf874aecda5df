/- A part of a proof: walks of functions and lemmas of our own. No conditions. -/
import Derived.Test.YthjljhdfdppkoaaGreatDoorNAy
import Derived.Test.YthjljhdfdppkoaaGreatDoorNAv
import Derived.Test.YthjljhdfdppkoaaGreatDoorNAu
import Derived.Test.YthjljhdfdppkoaaGreatDoorNAl
import Derived.Test.YthjljhdfdppkoaaGreatDoorNAk
import Derived.Test.YthjljhdfdppkoaaGreatDoorNAx
import Derived.Test.YthjljhdfdppkoaaGreatDoorNAm
import Derived.Test.YthjljhdfdppkoaaGreatDoorNAp
set_option linter.unusedSectionVars false
set_option linter.unusedVariables false
set_option linter.unusedSimpArgs false
set_option maxHeartbeats 1000000
namespace Go.Ab
open Go Go.Proofs
theorem yhk {n:Int} {s:l00Src} {l:List (List UInt8)} (h:SrcOk n s) (hn:n<=2000000000) (hl:1<=l.length):(zr s l).1∈l:=by
 have hr:=yq (l.length:Int) h hn;have h2:=hr.2 (by omega);unfold zr;simp only;have hi:((za s (l.length:Int)).1).toNat<l.length:=by omega
 rw[List.getD_eq_getElem?_getD,List.getElem?_eq_getElem hi];exact List.getElem_mem hi
theorem yaab {n:Int} {s:l00Src} (h:SrcOk n s) (hn:n<=2000000000):(zac s).1.length<=3:=by
 unfold zac;have:=yhk (l:=([[87],[87],[82],[71],[89],[87,82],[82,71],[87,82,71],[87,71]]:List (List UInt8))) h hn (by decide);simp only;generalize (zr s ([[87],[87],[82],[71],[89],[87,82],[82,71],[87,82,71],[87,71]]:List (List UInt8))).1=x at this;have hs:∀ y∈([[87],[87],[82],[71],[89],[87,82],[82,71],[87,82,71],[87,71]]:List (List UInt8)),y.length<=3:=by decide
 exact hs x this
theorem y4bb {n:Int} {s:l00Src} {l:List Int} (h:SrcOk n s) (hn:n<=2000000000) (hl:1<=l.length):(zk s l).1∈l:=by
 have hr:=yq (l.length:Int) h hn;have h2:=hr.2 (by omega);unfold zk;simp only;have hi:((za s (l.length:Int)).1).toNat<l.length:=by omega
 rw[List.getD_eq_getElem?_getD,List.getElem?_eq_getElem hi];exact List.getElem_mem hi
theorem am9 {n:Int} {s:l00Src} (h:SrcOk n s) (hn:n<=2000000000):0<=(zk s ([0,0,3,6,9]:List Int)).1/\(zk s ([0,0,3,6,9]:List Int)).1<=9:=by
 have:=y4bb (l:=([0,0,3,6,9]:List Int)) h hn (by decide);simp only[List.mem_cons,List.not_mem_nil,or_false]at this;omega
theorem let9 {n:Int} {s:l00Src} (h:SrcOk n s) (hn:n<=2000000000):65<=(UInt8.ofNat (IntKind.wrap .u8 (IntKind.wrap .i64 (65+(za s 26).1))).toNat).toNat/\(UInt8.ofNat (IntKind.wrap .u8 (IntKind.wrap .i64 (65+(za s 26).1))).toNat).toNat<=90:=by
 have hr:=yq 26 h hn;have hr2:=hr.2 (by omega);have hall:((List.range 26).all fun m=>decide (65<=(UInt8.ofNat (IntKind.wrap .u8 (IntKind.wrap .i64 (65+(m:Int)))).toNat).toNat/\(UInt8.ofNat (IntKind.wrap .u8 (IntKind.wrap .i64 (65+(m:Int)))).toNat).toNat<=90))=true:=by decide +kernel
 have:=of_decide_eq_true (List.all_eq_true.1 hall ((za s 26).1).toNat (List.mem_range.2 (by omega)));rwa [show(((za s 26).1).toNat:Int)=(za s 26).1 by omega]at this
theorem y38 {l:List Int} {x:Int} (h:∀ v∈l,v<=9) (hx:x<=9):∀ v∈l++[x],v<=9:=fun v hv=>by
 rcases List.mem_append.1 hv with h1|h1
 ·exact h v h1
 ·rw[List.mem_singleton]at h1;subst h1;exact hx
theorem pk_b {n:Int} {s:l00Src} {k:Nat} (hd:decide (0<(k:Int))=true) (h:SrcOk n s) (hn:n<=2000000000):0<=(za s (k:Int)).1/\(za s (k:Int)).1<(k:Int)/\((za s (k:Int)).1).toNat<k:=by
 have hd:=of_decide_eq_true hd;have hr:=yq (k:Int) h hn;have:=hr.2 (by omega);omega
def zkh (a0:l00Src) (q3:l00Src) (q4:l00Src) (t1:List Int×Int×Int×List UInt8×List Int):Character×l00Src:=
 (bif (zxc ({ Kind:=IntKind.wrap .i64 (1+((za a0 8).1)),Group:=t1.2.2.2.2,Letter:=t1.2.2.2.1,Colors:=((zac q3).1),Period:=0:Character }))then({ Kind:=IntKind.wrap .i64 (1+((za a0 8).1)),Group:=t1.2.2.2.2,Letter:=t1.2.2.2.1,Colors:=((zac q3).1),Period:=0:Character },{ code:=t1.1,at_:=t1.2.1,seed:=t1.2.2.1:l00Src })else(bnd ((zk ({ code:=t1.1,at_:=t1.2.1,seed:=t1.2.2.1:l00Src }) ([0,5,20,50,100,1,200]:List Int)).2) fun q22=>(bif ((IntKind.wrap .i64 (1+((za a0 8).1))) == 3)then({ Kind:=IntKind.wrap .i64 (1+((za a0 8).1)),Group:=t1.2.2.2.2,Letter:=t1.2.2.2.1,Colors:=((zac q3).1),Period:=IntKind.wrap .i64 ((zte 600 (IntKind.wrap .i64 ((znb ({ Kind:=IntKind.wrap .i64 (1+((za a0 8).1)),Group:=t1.2.2.2.2,Letter:=t1.2.2.2.1,Colors:=((zac q3).1),Period:=0:Character }))+((zk ({ code:=t1.1,at_:=t1.2.1,seed:=t1.2.2.1:l00Src }) ([0,5,20,50,100,1,200]:List Int)).1))))+((zte 600 (IntKind.wrap .i64 ((znb ({ Kind:=IntKind.wrap .i64 (1+((za a0 8).1)),Group:=t1.2.2.2.2,Letter:=t1.2.2.2.1,Colors:=((zac q3).1),Period:=0:Character }))+((zk ({ code:=t1.1,at_:=t1.2.1,seed:=t1.2.2.1:l00Src }) ([0,5,20,50,100,1,200]:List Int)).1)))).tmod 2)):Character },q22)else({ Kind:=IntKind.wrap .i64 (1+((za a0 8).1)),Group:=t1.2.2.2.2,Letter:=t1.2.2.2.1,Colors:=((zac q3).1),Period:=(zte 600 (IntKind.wrap .i64 ((znb ({ Kind:=IntKind.wrap .i64 (1+((za a0 8).1)),Group:=t1.2.2.2.2,Letter:=t1.2.2.2.1,Colors:=((zac q3).1),Period:=0:Character }))+((zk ({ code:=t1.1,at_:=t1.2.1,seed:=t1.2.2.1:l00Src }) ([0,5,20,50,100,1,200]:List Int)).1)))):Character },q22))))
def y31 (a0:l00Src) (q3:l00Src) (q4:l00Src) (t2:Bool) (q24:l00Src) (s1:Int×l00Src×List Int):Except (Sum (Character×l00Src) (Int×l00Src×List Int)) (Int×l00Src×List Int):=
 (bif decide (1<s1.1)then(bnd ((za s1.2.1 3).2) fun q30=>.ok (IntKind.wrap .i64 (s1.1-1),q30,s1.2.2++([IntKind.wrap .i64 (1+((za s1.2.1 3).1))]:List Int)))else .error (.inr (s1.1,s1.2.1,s1.2.2)))
def zbi (a0:l00Src) (q3:l00Src) (q4:l00Src) (t2:Bool) (t3:Bool):Character×l00Src:=
 (bif t3 then(bnd ((zk q4 ([0,0,3,6,9]:List Int)).2) fun q32=>(bif decide (0<((zk q4 ([0,0,3,6,9]:List Int)).1))then(bif (((zk q4 ([0,0,3,6,9]:List Int)).1) == 6)then(bnd ((zn q32 2).2) fun q34=>(bif ((zn q32 2).1)then(zkh a0 q3 q4 (q34.code,q34.at_,q34.seed,[76],([((zk q4 ([0,0,3,6,9]:List Int)).1)]:List Int)))else(zkh a0 q3 q4 (q34.code,q34.at_,q34.seed,[],([((zk q4 ([0,0,3,6,9]:List Int)).1)]:List Int)))))else(zkh a0 q3 q4 (q32.code,q32.at_,q32.seed,[],([((zk q4 ([0,0,3,6,9]:List Int)).1)]:List Int))))else(bif (((zk q4 ([0,0,3,6,9]:List Int)).1) == 6)then(bnd ((zn q32 2).2) fun q36=>(bif ((zn q32 2).1)then(zkh a0 q3 q4 (q36.code,q36.at_,q36.seed,[76],([]:List Int)))else(zkh a0 q3 q4 (q36.code,q36.at_,q36.seed,[],([]:List Int)))))else(zkh a0 q3 q4 (q32.code,q32.at_,q32.seed,[],([]:List Int))))))else(bif ((IntKind.wrap .i64 (1+((za a0 8).1))) == 8)then(bnd ((za q4 26).2) fun q38=>(zkh a0 q3 q4 (q38.code,q38.at_,q38.seed,(([IntKind.wrap .u8 (IntKind.wrap .i64 (65+((za q4 26).1)))]:List Int).map fun z=>UInt8.ofNat z.toNat),([]:List Int))))else(zkh a0 q3 q4 (q4.code,q4.at_,q4.seed,[],([]:List Int)))))
def zai (a0:l00Src) (q3:l00Src) (q4:l00Src) (t2:Bool):Character×l00Src:=
 (bif t2 then(bnd ((za q4 4).2) fun q24=>(match yeb (y31 a0 q3 q4 t2 q24) (((((za q4 4).1)).toNat)+1) (((za q4 4).1),q24,([]:List Int))with|.error (.inl e)=>e|.error (.inr s1)=>(bif (!(zkc s1.2.2))then(zkh a0 q3 q4 (s1.2.1.code,s1.2.1.at_,s1.2.1.seed,[],([2]:List Int)))else(zkh a0 q3 q4 (s1.2.1.code,s1.2.1.at_,s1.2.1.seed,[],s1.2.2)))|.ok _=>default))else(bif ((IntKind.wrap .i64 (1+((za a0 8).1))) == 6)then(zbi a0 q3 q4 t2 ((IntKind.wrap .i64 (1+((za a0 8).1))) == 6))else(zbi a0 q3 q4 t2 ((IntKind.wrap .i64 (1+((za a0 8).1))) == 7))))
def zi (a0:l00Src):Character×l00Src:=
 (bnd ((za a0 8).2) fun q3=>(bnd ((zac q3).2) fun q4=>(bif ((IntKind.wrap .i64 (1+((za a0 8).1))) == 2)then(zai a0 q3 q4 ((IntKind.wrap .i64 (1+((za a0 8).1))) == 2))else(bif ((IntKind.wrap .i64 (1+((za a0 8).1))) == 4)then(zai a0 q3 q4 ((IntKind.wrap .i64 (1+((za a0 8).1))) == 4))else(zai a0 q3 q4 ((IntKind.wrap .i64 (1+((za a0 8).1))) == 5))))))
namespace N95
theorem DD:DOk Tryz.prog (Go.Ab.DD [(157,dM [true] D_zac),(158,dP D_zkc),(159,dP D_znb),(160,dP D_zxc),(161,dP D_zte),(45,dM [true,false] D_za),(93,dM [true,false] D_zn),(96,dM [true,true] D_zk)]):=ya yt6.e <| ya yew.e <| ya ylv.e <| ya yoo.e <| ya y84.e <| ya yme.e <| ya yip.e <| ya yqu.e <| yf _
abbrev dn:=cj @D_zac.eq_1 <| cj @D_zkc.eq_1 <| cj @D_znb.eq_1 <| cj @D_zxc.eq_1 <| cj @D_zte.eq_1 <| cj @D_za.eq_1 <| cj @D_zn.eq_1 <| @D_zk.eq_1
theorem o1 {p:Prop} (h:p:=by(first|(with_reducible exact hX1.2.2.2.1)|(with_reducible exact hX1.2.2.2.2)|(have h9:=hX1.2.1;omega)|(have hc3:=hcl q3 _ hS_q3 (by omega);have hx2:=hX1.2.1;have hx3:=hX1.2.2.1;refine⟨?_,?_,?_⟩<;>(show List.length _<1099511627776)<;>omega)|(exact SrcOk.mono hX1.1 (by omega))|(refine SrcOk.mono (by repeat' first|assumption|exact SrcOk.next ‹_› | apply SrcOk.next|apply SrcOk.pick|apply SrcOk.one|apply SrcOk.among|apply SrcOk.text|apply SrcOk.colors|apply SrcOk.point|apply SrcOk.chr|apply SrcOk.sectors|apply SrcOk.aid|apply SrcOk.aids|apply SrcOk.notice|omega) (by omega))|(exact SrcOk.mono hW1.2.2.1 (by omega))|(exact hW1.2.2.2.2)|(intro v hv;rw[List.mem_singleton]at hv;subst hv;have h9:=hax q4 _ hS_q4 (by omega);omega)|(intro v hv;cases hv;(first|done|fail)));first|done|fail):p:=h
theorem o2 {p:Prop} (h:p:=by(first|((repeat' with_reducible apply And.intro)<;>first|(simp only[List.length_append,List.length_singleton];(first|done|fail))|(rw[IntKind.wrap_i64];omega)|(intro j hj;by_cases hji:j<s1.2.2.length;(focus(simp only[ypn hji,ykr hji,cond_true];first|(first|done|fail)|with_reducible rfl));(have e0:j-s1.2.2.length=0:=by omega);(simp only[ynn hji hj,yst hji,cond_false,e0,elt,y0,ycb];first|(first|done|fail)|with_reducible rfl))|decide)|((repeat' with_reducible apply And.intro)<;>first|(simp only[List.length_append,List.length_singleton];(first|done|fail))|(rw[IntKind.wrap_i64];omega)|(intro j hj;by_cases hji:j<s2.2.2.length;(focus(simp only[ypn hji,ykr hji,cond_true];first|(first|done|fail)|with_reducible rfl));(have e0:j-s2.2.2.length=0:=by omega);(simp only[ynn hji hj,yst hji,cond_false,e0,elt,y0,ycb];first|(first|done|fail)|with_reducible rfl))|decide)|((repeat' with_reducible apply And.intro)<;>first|(simp only[List.length_append,List.length_singleton];(first|done|fail))|(rw[IntKind.wrap_i64];omega)|(intro j hj;by_cases hji:j<s3.2.2.length;(focus(simp only[ypn hji,ykr hji,cond_true];first|(first|done|fail)|with_reducible rfl));(have e0:j-s3.2.2.length=0:=by omega);(simp only[ynn hji hj,yst hji,cond_false,e0,elt,y0,ycb];first|(first|done|fail)|with_reducible rfl))|decide));first|done|fail):p:=h
theorem lx {p:Prop} (h:p:=by(exact lxx);first|done|fail):p:=h
set_option maxHeartbeats 8000000 in
set_option maxRecDepth 20000 in
theorem den (a0:l00Src) (hp0:SrcOk 600000 a0):DenM Tryz.prog 95 [.op (yu a0)] (.agg (y6b ((zi a0).1))) [(.op (yu ((zi a0).2)))]:=by
 generalize hR:zi a0=r;unfold zi at hR;refine dj (gb:=[true]) Tryz.func95 Tryz.ntmps95 Tryz.results95 ?_;intro c hL hc hk;obtain⟨hL0,_⟩:=hL;have hw0:bwl00Src a0:=ygb a0 hL0;clear hL0;simp only[adEL,adE,adRL,adR,ownL,encL,sv,List.nil_append,List.append_nil,List.cons_append,List.length_cons,List.length_nil,pars,Nat.zero_add,Nat.reduceAdd]at hk ⊢;have hcl:=fun(s:l00Src) (n:Int) (h:SrcOk n s) (hn:n<=2000000)=>yaab h (by omega)
 have hax:=fun(s:l00Src) (n:Int) (h:SrcOk n s) (hn:n<=2000000)=>am9 h (by omega)
 have hlt:=fun(s:l00Src) (n:Int) (h:SrcOk n s) (hn:n<=2000000)=>let9 h (by omega)
 iterate 2 refine rS ?_
 generalize hq3:(za a0 8).2=q3 at hR ⊢;replace hR:=bn hR;have hS_q3:SrcOk (600002) q3:=by rw[<- hq3];exact SrcOk.pick hp0 (by omega)
 generalize hq4:(zac q3).2=q4 at hR ⊢;replace hR:=bn hR;have hS_q4:SrcOk (600004) q4:=by rw[<- hq4];exact SrcOk.colors hS_q3 (by omega)
 refine AWP.seq ?_;refine AWP.joinC (fun t1:List Int×Int×Int×List UInt8×List Int=>⟨[(0,.ptr 0 0),(2,.ptr 1 0),(3,.ptr 2 0)],[.box [encL 1 eIu8 t1.1,.int .i64 t1.2.1,.int .u64 t1.2.2.1],.box [.int .i64 0,.nils,.str [],.str [],.int .i64 0],.box [.int .i64 (IntKind.wrap .i64 (1+((za a0 8).1))),.ref 3 1 0 t1.2.2.2.2.length,.str t1.2.2.2.1,.str ((zac q3).1),.int .i64 0],.arr 2 1 t1.2.2.2.2.length (fun j=>yx (t1.2.2.2.2.getD j default))]⟩) (fun t1=>(SrcOk 600200 ({ code:=t1.1,at_:=t1.2.1,seed:=t1.2.2.1:l00Src })/\t1.2.2.2.2.length<=3/\t1.2.2.2.1.length<=1/\(∀ v∈t1.2.2.2.2,v<=9)/\((IntKind.wrap .i64 (1+((za a0 8).1)))=8->t1.2.2.2.1.length=1/\65<=(t1.2.2.2.1.getD 0 0).toNat/\(t1.2.2.2.1.getD 0 0).toNat<=90))/\zkh a0 q3 q4 t1=r) ?_ (fun t1 hV1 => ?_)
 ·refine rS ?_
  refine AWP.block ?_;refine AWP.seq ?_;refine AWP.joinC (fun t2:Bool=>⟨[(0,.ptr 0 0),(2,.ptr 1 0),(3,.ptr 2 0),(14,.int .i64 (IntKind.wrap .i64 (1+((za a0 8).1)))),(15,.bool t2)],[.box [encL 1 eIu8 q4.code,.int .i64 q4.at_,.int .u64 q4.seed],.box [.int .i64 0,.nils,.str [],.str [],.int .i64 0],.box [.int .i64 (IntKind.wrap .i64 (1+((za a0 8).1))),.nils,.str [],.str ((zac q3).1),.int .i64 0]]⟩) (fun t2=>(t2=true->(IntKind.wrap .i64 (1+((za a0 8).1)))≠8)/\zai a0 q3 q4 t2=r) ?_ (fun t2 hV2 => ?_)
  ·refine rS ?_
   refine AWP.cond rfl (fun hb => ?_) (fun hb => ?_)
   ·replace hR:=ct hR
    refine AWP.skip ?_;exact Meet.end ((IntKind.wrap .i64 (1+((za a0 8).1))) == 2) [0,1,2] ⟨by((try dsimp only);(intro h8;have h9:=eq_of_beq h8;omega)),hR⟩ sm
   ·replace hR:=cf hR
    refine rS ?_;refine AWP.cond rfl (fun hb => ?_) (fun hb => ?_)
    ·replace hR:=ct hR
     refine AWP.skip ?_;exact Meet.end ((IntKind.wrap .i64 (1+((za a0 8).1))) == 4) [0,1,2] ⟨by((try dsimp only);(intro h8;have h9:=eq_of_beq h8;omega)),hR⟩ sm
    ·replace hR:=cf hR
     refine rS ?_;exact Meet.end ((IntKind.wrap .i64 (1+((za a0 8).1))) == 5) [0,1,2] ⟨by((try dsimp only);(intro h8;have h9:=eq_of_beq h8;omega)),hR⟩ sm
  ·clear hR
   obtain⟨hX2,hR⟩:=hV2;unfold zai at hR;refine AWP.cond rfl (fun hb => ?_) (fun hb => ?_)
   ·replace hR:=ct hR
    refine rS ?_;generalize hq24:(za q4 4).2=q24 at hR ⊢;replace hR:=bn hR;have hS_q24:SrcOk (600006) q24:=by rw[<- hq24];exact SrcOk.pick hS_q4 (by omega)
    refine AWP.block ?_;refine AWP.nilB 2 1 2 1 (fun _=>[]) rfl rfl ?_;try simp only[ea,absV,ybc,cput,gv,sv,dn,reduceCtorEq,reduceIte,Nat.reduceBEq,Nat.reduceAdd,Nat.reduceEqDiff,Nat.reduceLT,Nat.reduceLeDiff,Nat.reduceMul,Nat.reduceSub,BEq.rfl,beq_self_eq_true,Int.reduceToNat];generalize hz1:yeb (y31 a0 q3 q4 t2 q24) (((((za q4 4).1)).toNat)+1) (((za q4 4).1),q24,([]:List Int))=z1 at hR;refine AWP.whileW (y31 a0 q3 q4 t2 q24) (fun s1=>⟨[(0,.ptr 0 0),(2,.ptr 1 0),(3,.ptr 2 0),(4,.int .i64 s1.1)],[.box [encL 1 eIu8 s1.2.1.code,.int .i64 s1.2.1.at_,.int .u64 s1.2.1.seed],.box [.int .i64 0,.nils,.str [],.str [],.int .i64 0],.box [.int .i64 (IntKind.wrap .i64 (1+((za a0 8).1))),.ref 3 1 0 s1.2.2.length,.str [],.str ((zac q3).1),.int .i64 0],.arr 2 1 s1.2.2.length (fun j=>yx (s1.2.2.getD j default))]⟩) (fun s1=>0<=s1.1/\s1.1<=3/\SrcOk (600040+10 * (3-s1.1)) s1.2.1/\s1.2.2.length<=(3-s1.1).toNat/\∀ v∈s1.2.2,v<=9) (fun s1=>(s1.1).toNat) (((((za q4 4).1)).toNat)+1) (((za q4 4).1),q24,([]:List Int)) [0,1,2,3] hz1 m0 (by(have h2:=yq 4 hS_q4 (by omega);have h3:=h2.2 (by omega);exact⟨h2.1,by omega,SrcOk.mono (by assumption) (by omega),by simp,by simp⟩)) sm ?_;clear hz1;intro s1 k1 hW1 hm1 hz1;simp only[y31]at hz1;refine rS ?_;refine AWP.cond rfl (fun hb => ?_) (fun hb => ?_)
    ·simp only[hb,cond_true]at hz1
     refine AWP.skip ?_;refine AWP.seq ?_;refine AWP.block ?_;refine AWP.regP mixed G_ok DD hc 6 [0,1,2] (.alt 3 [4] [0,1,4] (.alt 5 [] [0,1] .leaf .stop) .stop) (by kernel_rfl) (by kernel_rfl) (by kernel_rfl) (fun K hK => ?_);simp only[ypi,runN,runP,yjc,nthO,ea,absV,ybc,cput,gv,sv,dn,reduceCtorEq,reduceIte,Nat.reduceBEq,Nat.reduceAdd,Nat.reduceEqDiff,Nat.reduceLT,Nat.reduceLeDiff,Nat.reduceMul,Nat.reduceSub,BEq.rfl,beq_self_eq_true,Int.reduceToNat];repeat' apply And.intro
     all_goals first|refine hK _ ?_|exact ot
     all_goals clear hK K
     generalize hq30:(za s1.2.1 3).2=q30 at hz1 ⊢;rw[bndv q30]at hz1;have hS_q30:SrcOk (600040+10 * (3-s1.1)+2) q30:=by rw[<- hq30];exact SrcOk.pick hW1.2.2.1 (by omega)
     refine rS ?_;clear hR;exact⟨_,[0,1,2,5],by(have hpos:1<s1.1:=of_decide_eq_true (by assumption);have hwr:IntKind.wrap .i64 (s1.1-1)=s1.1-1:=(by rw[IntKind.wrap_i64];omega);(try dsimp only);rw[hwr];omega),by(have hpos:1<s1.1:=of_decide_eq_true (by assumption);have hwr:IntKind.wrap .i64 (s1.1-1)=s1.1-1:=(by rw[IntKind.wrap_i64];omega);(try dsimp only);rw[hwr];have hG:=hW1.2.2.2.1;have hp3:=yq 3 hW1.2.2.1 (by omega);have hp4:=hp3.2 (by omega);exact⟨by omega,by omega,SrcOk.mono (by assumption) (by omega),by simp only[List.length_append,List.length_cons,List.length_nil];omega,y38 hW1.2.2.2.2 (by rw[IntKind.wrap_i64];omega)⟩),hz1,sm⟩
    ·simp only[hb,cond_false]at hz1
     refine AWP.exit ?_;refine yd ?_;subst hz1;dsimp only at hR;refine rS ?_;refine AWP.cond rfl (fun hb => ?_) (fun hb => ?_)
     ·replace hR:=ct hR
      refine rS ?_;exact Meet.end (s1.2.1.code,s1.2.1.at_,s1.2.1.seed,[],([2]:List Int)) [0,1,2,4] ⟨by((try dsimp only);((repeat' with_reducible apply And.intro)<;>first|exact SrcOk.mono (by assumption) (by omega)|exact SrcOk.mono hW1.2.2.1 (by omega)|decide|(have h9:=hW1.2.2.2.1;omega)|exact hW1.2.2.2.2|(intro v hv;cases hv;done)|(intro v hv;rw[List.mem_singleton]at hv;subst hv;have h9:=hax q4 _ hS_q4 (by omega);omega)|(simp;done)|(intro h8;exact absurd h8 (hX2 (by assumption)))|(intro h8;exact absurd h8 (hX3 (by assumption)))|(intro h8;have h9:=hlt q4 _ hS_q4 (by omega);simpa using h9)|(intro h8;exfalso;grind))),hR⟩ sm
     ·replace hR:=cf hR
      refine AWP.skip ?_;exact Meet.end (s1.2.1.code,s1.2.1.at_,s1.2.1.seed,[],s1.2.2) [0,1,2,3] ⟨by((try dsimp only);((repeat' with_reducible apply And.intro)<;>first|exact SrcOk.mono (by assumption) (by omega)|exact SrcOk.mono hW1.2.2.1 (by omega)|decide|(have h9:=hW1.2.2.2.1;omega)|exact hW1.2.2.2.2|(intro v hv;cases hv;done)|(intro v hv;rw[List.mem_singleton]at hv;subst hv;have h9:=hax q4 _ hS_q4 (by omega);omega)|(simp;done)|(intro h8;exact absurd h8 (hX2 (by assumption)))|(intro h8;exact absurd h8 (hX3 (by assumption)))|(intro h8;have h9:=hlt q4 _ hS_q4 (by omega);simpa using h9)|(intro h8;exfalso;grind))),hR⟩ sm
   ·replace hR:=cf hR
    refine AWP.seq ?_;refine AWP.joinC (fun t3:Bool=>⟨[(0,.ptr 0 0),(2,.ptr 1 0),(3,.ptr 2 0),(14,.int .i64 (IntKind.wrap .i64 (1+((za a0 8).1)))),(39,.bool t3)],[.box [encL 1 eIu8 q4.code,.int .i64 q4.at_,.int .u64 q4.seed],.box [.int .i64 0,.nils,.str [],.str [],.int .i64 0],.box [.int .i64 (IntKind.wrap .i64 (1+((za a0 8).1))),.nils,.str [],.str ((zac q3).1),.int .i64 0]]⟩) (fun t3=>(t3=true->(IntKind.wrap .i64 (1+((za a0 8).1)))≠8)/\zbi a0 q3 q4 t2 t3=r) ?_ (fun t3 hV3 => ?_)
    ·refine rS ?_
     refine AWP.cond rfl (fun hb => ?_) (fun hb => ?_)
     ·replace hR:=ct hR
      refine AWP.skip ?_;exact Meet.end ((IntKind.wrap .i64 (1+((za a0 8).1))) == 6) [0,1,2] ⟨by((try dsimp only);(intro h8;have h9:=eq_of_beq h8;omega)),hR⟩ sm
     ·replace hR:=cf hR
      refine rS ?_;exact Meet.end ((IntKind.wrap .i64 (1+((za a0 8).1))) == 7) [0,1,2] ⟨by((try dsimp only);(intro h8;have h9:=eq_of_beq h8;omega)),hR⟩ sm
    ·clear hR
     obtain⟨hX3,hR⟩:=hV3;unfold zbi at hR;refine AWP.cond rfl (fun hb => ?_) (fun hb => ?_)
     ·replace hR:=ct hR
      refine rS ?_;generalize hq32:(zk q4 ([0,0,3,6,9]:List Int)).2=q32 at hR ⊢;replace hR:=bn hR;have hS_q32:SrcOk (600006) q32:=by rw[<- hq32];exact SrcOk.among hS_q4 (by omega)
      refine rS ?_;refine AWP.cond rfl (fun hb => ?_) (fun hb => ?_)
      ·replace hR:=ct hR
       refine rS ?_;refine AWP.seq ?_;rcases Bool.eq_false_or_eq_true (((zk q4 ([0,0,3,6,9]:List Int)).1) == 6)with hb|hb
       ·replace hR:=ct hR
        refine rK [(3,0),(4,0),(5,2)] ?_;generalize hq34:(zn q32 2).2=q34 at hR ⊢;replace hR:=bn hR;have hS_q34:SrcOk (600008) q34:=by rw[<- hq34];exact SrcOk.one hS_q32 (by omega)
        refine AWP.cond rfl (fun hb => ?_) (fun hb => ?_)
        ·replace hR:=ct hR
         refine rS ?_;exact Meet.end (q34.code,q34.at_,q34.seed,[76],([((zk q4 ([0,0,3,6,9]:List Int)).1)]:List Int)) [0,1,2,4] ⟨by((try dsimp only);((repeat' with_reducible apply And.intro)<;>first|exact SrcOk.mono (by assumption) (by omega)|exact SrcOk.mono hW1.2.2.1 (by omega)|decide|(have h9:=hW1.2.2.2.1;omega)|exact hW1.2.2.2.2|(intro v hv;cases hv;done)|(intro v hv;rw[List.mem_singleton]at hv;subst hv;have h9:=hax q4 _ hS_q4 (by omega);omega)|(simp;done)|(intro h8;exact absurd h8 (hX2 (by assumption)))|(intro h8;exact absurd h8 (hX3 (by assumption)))|(intro h8;have h9:=hlt q4 _ hS_q4 (by omega);simpa using h9)|(intro h8;exfalso;grind))),hR⟩ sm
        ·replace hR:=cf hR
         refine AWP.skip ?_;exact Meet.end (q34.code,q34.at_,q34.seed,[],([((zk q4 ([0,0,3,6,9]:List Int)).1)]:List Int)) [0,1,2,4] ⟨by((try dsimp only);((repeat' with_reducible apply And.intro)<;>first|exact SrcOk.mono (by assumption) (by omega)|exact SrcOk.mono hW1.2.2.1 (by omega)|decide|(have h9:=hW1.2.2.2.1;omega)|exact hW1.2.2.2.2|(intro v hv;cases hv;done)|(intro v hv;rw[List.mem_singleton]at hv;subst hv;have h9:=hax q4 _ hS_q4 (by omega);omega)|(simp;done)|(intro h8;exact absurd h8 (hX2 (by assumption)))|(intro h8;exact absurd h8 (hX3 (by assumption)))|(intro h8;have h9:=hlt q4 _ hS_q4 (by omega);simpa using h9)|(intro h8;exfalso;grind))),hR⟩ sm
       ·replace hR:=cf hR
        refine rK [(3,1),(4,1),(5,3)] ?_;refine AWP.cond rfl (fun hb => ?_) (fun hb => ?_)
        ·exact absurd hb (by decide)
        ·refine AWP.skip ?_
         exact Meet.end (q32.code,q32.at_,q32.seed,[],([((zk q4 ([0,0,3,6,9]:List Int)).1)]:List Int)) [0,1,2,4] ⟨by((try dsimp only);((repeat' with_reducible apply And.intro)<;>first|exact SrcOk.mono (by assumption) (by omega)|exact SrcOk.mono hW1.2.2.1 (by omega)|decide|(have h9:=hW1.2.2.2.1;omega)|exact hW1.2.2.2.2|(intro v hv;cases hv;done)|(intro v hv;rw[List.mem_singleton]at hv;subst hv;have h9:=hax q4 _ hS_q4 (by omega);omega)|(simp;done)|(intro h8;exact absurd h8 (hX2 (by assumption)))|(intro h8;exact absurd h8 (hX3 (by assumption)))|(intro h8;have h9:=hlt q4 _ hS_q4 (by omega);simpa using h9)|(intro h8;exfalso;grind))),hR⟩ sm
      ·replace hR:=cf hR
       refine AWP.skip ?_;refine AWP.seq ?_;rcases Bool.eq_false_or_eq_true (((zk q4 ([0,0,3,6,9]:List Int)).1) == 6)with hb|hb
       ·replace hR:=ct hR
        refine rK [(3,0),(4,0),(5,2)] ?_;generalize hq36:(zn q32 2).2=q36 at hR ⊢;replace hR:=bn hR;have hS_q36:SrcOk (600008) q36:=by rw[<- hq36];exact SrcOk.one hS_q32 (by omega)
        refine AWP.cond rfl (fun hb => ?_) (fun hb => ?_)
        ·replace hR:=ct hR
         refine rS ?_;refine Meet.nilB 2 1 2 1 (fun _=>[]) rfl rfl ?_;try simp only[ea,absV,ybc,cput,gv,sv,dn,reduceCtorEq,reduceIte,Nat.reduceBEq,Nat.reduceAdd,Nat.reduceEqDiff,Nat.reduceLT,Nat.reduceLeDiff,Nat.reduceMul,Nat.reduceSub,BEq.rfl,beq_self_eq_true,Int.reduceToNat];exact Meet.end (q36.code,q36.at_,q36.seed,[76],([]:List Int)) [0,1,2,4] ⟨by((try dsimp only);((repeat' with_reducible apply And.intro)<;>first|exact SrcOk.mono (by assumption) (by omega)|exact SrcOk.mono hW1.2.2.1 (by omega)|decide|(have h9:=hW1.2.2.2.1;omega)|exact hW1.2.2.2.2|(intro v hv;cases hv;done)|(intro v hv;rw[List.mem_singleton]at hv;subst hv;have h9:=hax q4 _ hS_q4 (by omega);omega)|(simp;done)|(intro h8;exact absurd h8 (hX2 (by assumption)))|(intro h8;exact absurd h8 (hX3 (by assumption)))|(intro h8;have h9:=hlt q4 _ hS_q4 (by omega);simpa using h9)|(intro h8;exfalso;grind))),hR⟩ sm
        ·replace hR:=cf hR
         refine AWP.skip ?_;refine Meet.nilB 2 1 2 1 (fun _=>[]) rfl rfl ?_;try simp only[ea,absV,ybc,cput,gv,sv,dn,reduceCtorEq,reduceIte,Nat.reduceBEq,Nat.reduceAdd,Nat.reduceEqDiff,Nat.reduceLT,Nat.reduceLeDiff,Nat.reduceMul,Nat.reduceSub,BEq.rfl,beq_self_eq_true,Int.reduceToNat];exact Meet.end (q36.code,q36.at_,q36.seed,[],([]:List Int)) [0,1,2,4] ⟨by((try dsimp only);((repeat' with_reducible apply And.intro)<;>first|exact SrcOk.mono (by assumption) (by omega)|exact SrcOk.mono hW1.2.2.1 (by omega)|decide|(have h9:=hW1.2.2.2.1;omega)|exact hW1.2.2.2.2|(intro v hv;cases hv;done)|(intro v hv;rw[List.mem_singleton]at hv;subst hv;have h9:=hax q4 _ hS_q4 (by omega);omega)|(simp;done)|(intro h8;exact absurd h8 (hX2 (by assumption)))|(intro h8;exact absurd h8 (hX3 (by assumption)))|(intro h8;have h9:=hlt q4 _ hS_q4 (by omega);simpa using h9)|(intro h8;exfalso;grind))),hR⟩ sm
       ·replace hR:=cf hR
        refine rK [(3,1),(4,1),(5,3)] ?_;refine AWP.cond rfl (fun hb => ?_) (fun hb => ?_)
        ·exact absurd hb (by decide)
        ·refine AWP.skip ?_
         refine Meet.nilB 2 1 2 1 (fun _=>[]) rfl rfl ?_;try simp only[ea,absV,ybc,cput,gv,sv,dn,reduceCtorEq,reduceIte,Nat.reduceBEq,Nat.reduceAdd,Nat.reduceEqDiff,Nat.reduceLT,Nat.reduceLeDiff,Nat.reduceMul,Nat.reduceSub,BEq.rfl,beq_self_eq_true,Int.reduceToNat];exact Meet.end (q32.code,q32.at_,q32.seed,[],([]:List Int)) [0,1,2,4] ⟨by((try dsimp only);((repeat' with_reducible apply And.intro)<;>first|exact SrcOk.mono (by assumption) (by omega)|exact SrcOk.mono hW1.2.2.1 (by omega)|decide|(have h9:=hW1.2.2.2.1;omega)|exact hW1.2.2.2.2|(intro v hv;cases hv;done)|(intro v hv;rw[List.mem_singleton]at hv;subst hv;have h9:=hax q4 _ hS_q4 (by omega);omega)|(simp;done)|(intro h8;exact absurd h8 (hX2 (by assumption)))|(intro h8;exact absurd h8 (hX3 (by assumption)))|(intro h8;have h9:=hlt q4 _ hS_q4 (by omega);simpa using h9)|(intro h8;exfalso;grind))),hR⟩ sm
     ·replace hR:=cf hR
      refine rS ?_;refine AWP.cond rfl (fun hb => ?_) (fun hb => ?_)
      ·replace hR:=ct hR
       refine rS ?_;generalize hq38:(za q4 26).2=q38 at hR ⊢;replace hR:=bn hR;have hS_q38:SrcOk (600006) q38:=by rw[<- hq38];exact SrcOk.pick hS_q4 (by omega)
       refine Meet.nilB 2 1 2 1 (fun _=>[]) rfl rfl ?_;try simp only[ea,absV,ybc,cput,gv,sv,dn,reduceCtorEq,reduceIte,Nat.reduceBEq,Nat.reduceAdd,Nat.reduceEqDiff,Nat.reduceLT,Nat.reduceLeDiff,Nat.reduceMul,Nat.reduceSub,BEq.rfl,beq_self_eq_true,Int.reduceToNat];exact Meet.end (q38.code,q38.at_,q38.seed,(([IntKind.wrap .u8 (IntKind.wrap .i64 (65+((za q4 26).1)))]:List Int).map fun z=>UInt8.ofNat z.toNat),([]:List Int)) [0,1,2,4] ⟨by((try dsimp only);((repeat' with_reducible apply And.intro)<;>first|exact SrcOk.mono (by assumption) (by omega)|exact SrcOk.mono hW1.2.2.1 (by omega)|decide|(have h9:=hW1.2.2.2.1;omega)|exact hW1.2.2.2.2|(intro v hv;cases hv;done)|(intro v hv;rw[List.mem_singleton]at hv;subst hv;have h9:=hax q4 _ hS_q4 (by omega);omega)|(simp;done)|(intro h8;exact absurd h8 (hX2 (by assumption)))|(intro h8;exact absurd h8 (hX3 (by assumption)))|(intro h8;have h9:=hlt q4 _ hS_q4 (by omega);simpa using h9)|(intro h8;exfalso;grind))),hR⟩ sm
      ·replace hR:=cf hR
       refine AWP.skip ?_;refine Meet.nilB 2 1 2 1 (fun _=>[]) rfl rfl ?_;try simp only[ea,absV,ybc,cput,gv,sv,dn,reduceCtorEq,reduceIte,Nat.reduceBEq,Nat.reduceAdd,Nat.reduceEqDiff,Nat.reduceLT,Nat.reduceLeDiff,Nat.reduceMul,Nat.reduceSub,BEq.rfl,beq_self_eq_true,Int.reduceToNat];exact Meet.end (q4.code,q4.at_,q4.seed,[],([]:List Int)) [0,1,2,3] ⟨by((try dsimp only);((repeat' with_reducible apply And.intro)<;>first|exact SrcOk.mono (by assumption) (by omega)|exact SrcOk.mono hW1.2.2.1 (by omega)|decide|(have h9:=hW1.2.2.2.1;omega)|exact hW1.2.2.2.2|(intro v hv;cases hv;done)|(intro v hv;rw[List.mem_singleton]at hv;subst hv;have h9:=hax q4 _ hS_q4 (by omega);omega)|(simp;done)|(intro h8;exact absurd h8 (hX2 (by assumption)))|(intro h8;exact absurd h8 (hX3 (by assumption)))|(intro h8;have h9:=hlt q4 _ hS_q4 (by omega);simpa using h9)|(intro h8;exfalso;grind))),hR⟩ sm
 ·clear hR
  obtain⟨hX1,hR⟩:=hV1;unfold zkh at hR;iterate 2 refine rS ?_
  refine AWP.cond rfl (fun hb => ?_) (fun hb => ?_)
  ·replace hR:=ct hR
   refine rS ?_;refine AWP.ret ?_;subst hR;exact es
  ·replace hR:=cf hR
   refine rS ?_;generalize hq22:(zk ({ code:=t1.1,at_:=t1.2.1,seed:=t1.2.2.1:l00Src }) ([0,5,20,50,100,1,200]:List Int)).2=q22 at hR ⊢;replace hR:=bn hR;have hS_q22:SrcOk (600202) q22:=by rw[<- hq22];exact SrcOk.among hX1.1 (by omega)
   refine rS ?_;refine AWP.cond rfl (fun hb => ?_) (fun hb => ?_)
   ·replace hR:=ct hR
    iterate 2 refine rS ?_
    refine AWP.ret ?_;subst hR;exact es
   ·replace hR:=cf hR
    refine rS ?_;refine AWP.ret ?_;subst hR;exact es
end N95
def D_zi : List AV -> Option (AV × List AV × List Prop)
 | [x0]=>some (.agg (y6b ((zi (rdQ yw x0)).1)),[(.op (yu ((zi (rdQ yw x0)).2)))],[wQ yu yw x0,SrcOk 600000 (rdQ yw x0)])
 | _=>none
theorem yv9:OkM Tryz.prog 95 D_zi:=by unfold D_zi;exact dm N95.den
def nineC:List (List UInt8):=[[87],[82],[71],[89],[87,82],[82,71],[87,82,71],[87,71]]
def famG:List (List Int):=[[],[2],[3],[1,1],[1,2],[1,3],[2,1],[2,2],[2,3],[3,1],[3,2],[3,3]]
def mkC (k:Int) (g:List Int) (l:List UInt8):Character:={ Kind:=k,Group:=g,Letter:=l,Colors:=[87],Period:=0 }
def famC:List Character:=[mkC 1 [] [],mkC 3 [] [],mkC 6 [] [],mkC 7 [] [],mkC 6 [3] [],mkC 6 [6] [],mkC 6 [9] [],mkC 7 [3] [],mkC 7 [6] [],mkC 7 [9] [],mkC 6 [6] [76],mkC 7 [6] [76]]++famG.map (fun g=>mkC 2 g [])++famG.map (fun g=>mkC 4 g [])++famG.map (fun g=>mkC 5 g [])++(List.range 26).map (fun i=>mkC 8 [] [UInt8.ofNat (65+i)])
def chkC (c:Character):Bool:=zee c && (decide (0<=znb c) && (decide (znb c<=600) && (c.Kind != 3 || znb c == 20)))
theorem yu4:(famC.all chkC)=true:=by decide +kernel
theorem ym6 {c:Character} (h:c∈famC):chkC c=true:=List.all_eq_true.1 yu4 c h
structure PreC (c:Character):Prop where
 pp:c.Period=0
 cc:c.Colors∈nineC
 ff:mkC c.Kind c.Group c.Letter∈famC
def ChrP (n:Int) (r:Character×l00Src):Prop:=SrcOk n r.2/\zmc r.1=true/\r.1.Colors∈nineC/\r.1.Group.length<=2/\r.1.Letter.length<=1
def yet (c:Character) (s:l00Src):Character×l00Src:=
 bif zxc c then(c,s)else(bnd ((zk s ([0,5,20,50,100,1,200]:List Int)).2) fun q=>(bif (c.Kind == 3)then({ Kind:=c.Kind,Group:=c.Group,Letter:=c.Letter,Colors:=c.Colors,Period:=IntKind.wrap .i64 ((zte 600 (IntKind.wrap .i64 ((znb c)+((zk s ([0,5,20,50,100,1,200]:List Int)).1))))+((zte 600 (IntKind.wrap .i64 ((znb c)+((zk s ([0,5,20,50,100,1,200]:List Int)).1)))).tmod 2)):Character },q)else({ Kind:=c.Kind,Group:=c.Group,Letter:=c.Letter,Colors:=c.Colors,Period:=(zte 600 (IntKind.wrap .i64 ((znb c)+((zk s ([0,5,20,50,100,1,200]:List Int)).1)))):Character },q)))
theorem y7h {n:Int} {s:l00Src} {l:List Int} (h:SrcOk n s) (hn:n<=2000000000) (hl:1<=l.length):(zk s l).1∈l:=by
 have hr:=yq (l.length:Int) h hn;have h2:=hr.2 (by omega);unfold zk;simp only;have hi:((za s (l.length:Int)).1).toNat<l.length:=by omega
 rw[List.getD_eq_getElem?_getD,List.getElem?_eq_getElem hi];exact List.getElem_mem hi
theorem yr9 {C:List UInt8} (h:C∈nineC):zjb C=true:=by
 have:(nineC.all zjb)=true:=by decide +kernel
 exact List.all_eq_true.1 this C h
theorem ygl (k:Int) (g:List Int) (l C:List UInt8) (p:Int) (h:zjb C=true):zee { Kind:=k,Group:=g,Letter:=l,Colors:=C,Period:=p }=zee (mkC k g l):=by
 have h2:zjb [87]=true:=by decide +kernel
 unfold zee mkC;simp only[h,h2]
theorem ynt (k:Int) (g:List Int) (l C:List UInt8) (p:Int):znb { Kind:=k,Group:=g,Letter:=l,Colors:=C,Period:=p }=znb (mkC k g l):=rfl
theorem yyn (k:Int) (g:List Int) (l C:List UInt8) (p:Int):zxc { Kind:=k,Group:=g,Letter:=l,Colors:=C,Period:=p }=zxc (mkC k g l):=rfl
theorem y17 {k:Int} {g:List Int} {l:List UInt8} (h:mkC k g l∈famC):g.length<=2/\l.length<=1:=by
 have:(famC.all fun c=>decide (c.Group.length<=2/\c.Letter.length<=1))=true:=by decide +kernel
 exact of_decide_eq_true (List.all_eq_true.1 this _ h)
theorem yro {n:Int} {c:Character} {s:l00Src} (hs:SrcOk n s) (hn:n<=1000000000) (hc:PreC c):ChrP (n+2) (yet c s):=by
 obtain⟨K,G,L,C,p⟩:=c;obtain⟨h1,h2,h3⟩:=hc;simp only at h1 h2 h3;subst h1;have hk:=ym6 h3;have hg:=y17 h3;have hcol:=yr9 h2;unfold chkC at hk;simp only[Bool.and_eq_true,decide_eq_true_eq,Bool.or_eq_true,bne_iff_ne,beq_iff_eq]at hk;obtain⟨k1,k2,k3,k4⟩:=hk;have k4:K≠3\/znb (mkC K G L)=20:=k4
 have okP:∀ p:Int,(zxc (mkC K G L)=true->p=0)->(zxc (mkC K G L)=false->(K=3->p.tmod 2=0)/\znb (mkC K G L)<=p/\p<=600)->zmc { Kind:=K,Group:=G,Letter:=L,Colors:=C,Period:=p }=true:=fun p q1 q2=>by
  unfold zmc;rw[ygl K G L C p hcol,k1,yyn,ynt]
  cases hst:zxc (mkC K G L)with
  | true=>simp[q1 hst]
  | false=>
   obtain⟨e1,e2,e3⟩:=q2 hst
   have e4:((K == 3) && (p.tmod 2 != 0))=false:=by
    by_cases hK:K=3
    ·rw[e1 hK];simp
    ·simp[hK]
   simp only[Bool.not_true,cond_false,e4];unfold zg;simp only[Bool.and_eq_true,decide_eq_true_eq];omega
 unfold yet;rw[yyn]
 cases hst:zxc (mkC K G L)with
 | true=>exact⟨hs.mono (by omega),okP 0 (fun _=>rfl) (fun h=>absurd (hst.symm.trans h) (by decide)),h2,hg⟩
 | false=>
  rw[cond_false,ynt];have hx:=y7h (l:=([0,5,20,50,100,1,200]:List Int)) hs (by omega) (by decide);have hq:=hs.among (l:=([0,5,20,50,100,1,200]:List Int)) (by omega);generalize (zk s ([0,5,20,50,100,1,200]:List Int)).1=x at hx;generalize (zk s ([0,5,20,50,100,1,200]:List Int)).2=q at hq
  have hx2:0<=x/\x<=200:=by
   simp only[List.mem_cons,List.not_mem_nil,or_false]at hx;omega
  have hw:IntKind.wrap .i64 (znb (mkC K G L)+x)=znb (mkC K G L)+x:=by rw[IntKind.wrap_i64];omega
  rw[hw]
  have hm:znb (mkC K G L)<=zte 600 (znb (mkC K G L)+x)/\zte 600 (znb (mkC K G L)+x)<=600/\(K=3->zte 600 (znb (mkC K G L)+x)<=220):=by
   unfold zte;by_cases hd:600<znb (mkC K G L)+x
   ·rw[decide_eq_true hd,cond_true];omega
   ·rw[decide_eq_false hd,cond_false];omega
  generalize zte 600 (znb (mkC K G L)+x)=m at hm;show ChrP (n+2) (bif (K == 3)then _ else _)
  cases hK:(K == 3)with
  | true=>
   rw[beq_iff_eq]at hK;have ht:m.tmod 2=m % 2:=Int.tmod_eq_emod_of_nonneg (by omega);have hw2:IntKind.wrap .i64 (m+m % 2)=m+m % 2:=by rw[IntKind.wrap_i64];omega
   have ht2:(m+m % 2).tmod 2=(m+m % 2) % 2:=Int.tmod_eq_emod_of_nonneg (by omega);rw[cond_true,ht,hw2];exact⟨hq,okP _ (fun h=>absurd (hst.symm.trans h) (by decide)) (fun _=>⟨fun _=>by rw[ht2];omega,by omega,by omega⟩),h2,hg⟩
  | false=>
   rw[cond_false];rw[beq_eq_false_iff_ne]at hK;exact⟨hq,okP _ (fun h=>absurd (hst.symm.trans h) (by decide)) (fun _=>⟨fun h=>absurd h hK,hm.1,hm.2.1⟩),h2,hg⟩
theorem y3t {n:Int} {s:l00Src} (h:SrcOk n s) (hn:n<=2000000000):(zac s).1∈nineC:=by
 unfold zac;have:=yhk (l:=([[87],[87],[82],[71],[89],[87,82],[82,71],[87,82,71],[87,71]]:List (List UInt8))) h hn (by decide);simp only;generalize (zr s ([[87],[87],[82],[71],[89],[87,82],[82,71],[87,82,71],[87,71]]:List (List UInt8))).1=x at this;have hs:∀ y∈([[87],[87],[82],[71],[89],[87,82],[82,71],[87,82,71],[87,71]]:List (List UInt8)),y∈nineC:=by decide
 exact hs x this
structure GrpI (N:Int) (s:Int×l00Src×List Int):Prop where
 a:0<=s.1
 b:s.1<=3
 q:SrcOk (N+2 * (3-s.1)) s.2.1
 g:(s.2.2.length:Int)<=3-s.1
 g2:s.1<=1->s.2.2.length<=2
 v:∀ x∈s.2.2,1<=x/\x<=3
def grpStep (s:Int×l00Src×List Int):Except (Sum (Character×l00Src) (Int×l00Src×List Int)) (Int×l00Src×List Int):=
 (bif decide (1<s.1)then(bnd ((za s.2.1 3).2) fun q=>.ok (IntKind.wrap .i64 (s.1-1),q,s.2.2++([IntKind.wrap .i64 (1+((za s.2.1 3).1))]:List Int)))else .error (.inr (s.1,s.2.1,s.2.2)))
theorem ywy {N:Int} (hN:N<=1000000000) (k:Nat) (s:Int×l00Src×List Int) (h:GrpI N s) (hk:s.1.toNat<k):∃ t,yeb grpStep k s=.error (.inr t)/\GrpI N t/\t.1<=1:=by
 obtain⟨e,h1,t,rfl,h2⟩:=ysf (b:=grpStep) (GrpI N) (fun e=>∃ t,e=.inr t/\GrpI N t/\t.1<=1) (fun s=>s.1.toNat) (fun s h=>by
  unfold grpStep;by_cases hc:1<s.1
  ·rw[decide_eq_true hc,cond_true]
   left
   have hb:=h.b;have hr:=yq 3 h.q (by omega);have hr2:=hr.2 (by omega);have hq:=h.q.pick (m:=3) (by omega);have hw:IntKind.wrap .i64 (s.1-1)=s.1-1:=by rw[IntKind.wrap_i64];omega
   have hw2:IntKind.wrap .i64 (1+(za s.2.1 3).1)=1+(za s.2.1 3).1:=by rw[IntKind.wrap_i64];omega
   rw[hw,hw2];have hg:=h.g;refine⟨_,rfl,⟨by show 0<=s.1-1;omega,by show s.1-1<=3;omega,hq.mono (by show _<=N+2 * (3-(s.1-1));omega),?_,fun h9 => ?_,?_⟩,by show(s.1-1).toNat<s.1.toNat;omega⟩
   ·show((s.2.2++[_]).length:Int)<=3-(s.1-1)
    rw[List.length_append,List.length_singleton];omega
   ·show(s.2.2++[_]).length<=2
    have h9:s.1-1<=1:=h9;rw[List.length_append,List.length_singleton];omega
   ·intro x hx
    rcases List.mem_append.1 hx with hx|hx
    ·exact h.v x hx
    ·rw[List.mem_singleton]at hx;subst hx;omega
  ·rw[decide_eq_false hc,cond_false]
   exact .inr ⟨_,rfl,s,rfl,h,by omega⟩) k s h hk
 exact⟨t,h1,h2⟩
theorem yxs {K:Int} (hK:K=2\/K=4\/K=5) {g:List Int} (hl:g.length<=2) (hv:∀ x∈g,1<=x/\x<=3) (hg:zkc g=true):mkC K g []∈famC:=by
 have hm:g∈famG:=by
  match g,hl,hv,hg with
  | [],_,_,_=>decide
  | [a],_,hv,hg=>
   have:=hv a (by simp);rcases(show a=1\/a=2\/a=3 by omega)with e|e|e<;>subst e
   ·exact absurd hg (by decide +kernel)
   ·decide
   ·decide
  | [a,b],_,hv,hg=>
   have h1:=hv a (by simp);have h2:=hv b (by simp);rcases(show a=1\/a=2\/a=3 by omega)with e|e|e<;>subst e<;>rcases(show b=1\/b=2\/b=3 by omega)with e|e|e<;>subst e<;>decide
 unfold famC;simp only[List.mem_append,List.mem_map];rcases hK with rfl|rfl|rfl
 ·exact .inl (.inl (.inl (.inr ⟨g,hm,rfl⟩)))
 ·exact .inl (.inl (.inr ⟨g,hm,rfl⟩))
 ·exact .inl (.inr ⟨g,hm,rfl⟩)
theorem yk2 {N K:Int} {C:List UInt8} (hN:N<=100000000) (hK:K=2\/K=4\/K=5) (hC:C∈nineC) {t:Int×l00Src×List Int} (h:GrpI N t) (h1:t.1<=1) :
  ChrP (N+8) (bif (!(zkc t.2.2))then yet { Kind:=K,Group:=([2]:List Int),Letter:=[],Colors:=C,Period:=0:Character } t.2.1 else yet { Kind:=K,Group:=t.2.2,Letter:=[],Colors:=C,Period:=0:Character } t.2.1):=by
 have ha:=h.a;have hs:SrcOk (N+6) t.2.1:=h.q.mono (by omega);have e8:N+8=N+6+2:=by omega
 rw[e8]
 cases hg:zkc t.2.2 with
 | true=>
  rw[Bool.not_true,cond_false];exact yro (c:={ Kind:=K,Group:=t.2.2,Letter:=[],Colors:=C,Period:=0:Character }) hs (by omega) ⟨rfl,hC,yxs hK (h.g2 h1) h.v hg⟩
 | false=>
  rw[Bool.not_false,cond_true];exact yro (c:={ Kind:=K,Group:=([2]:List Int),Letter:=[],Colors:=C,Period:=0:Character }) hs (by omega) ⟨rfl,hC,by show mkC K [2] []∈famC;exact yxs (g:=[2]) hK (by decide) (by decide) (by decide +kernel)⟩
theorem dj1 (s q3 q4 q:l00Src) (L:List UInt8) (g:List Int):zkh s q3 q4 (q.code,q.at_,q.seed,L,g)=yet { Kind:=IntKind.wrap .i64 (1+(za s 8).1),Group:=g,Letter:=L,Colors:=(zac q3).1,Period:=0:Character } q:=rfl
theorem ywx {n:Int} {s:l00Src} (h:SrcOk n s) (hn:n<=10000000):ChrP (n+100) (zi s):=by
 have hr:=yq 8 h (by omega);have hr2:=hr.2 (by omega);have h3:=h.pick (m:=8) (by omega);have hw:IntKind.wrap .i64 (1+(za s 8).1)=1+(za s 8).1:=by rw[IntKind.wrap_i64];omega
 unfold zi;generalize (za s 8).2=q3 at h3;have hC:=y3t h3 (by omega);have h4:=h3.colors (by omega);simp only[bnd];generalize (zac q3).2=q4 at h4;have mono:∀ {m:Int} {r:Character×l00Src},ChrP m r->m<=n+100->ChrP (n+100) r:=fun h h2=>⟨h.1.mono h2,h.2⟩
 have hp:=yq 4 h4 (by omega);have hp2:=hp.2 (by omega);have h6:=h4.pick (m:=4) (by omega);have hI:GrpI (n+2+2+2) ((za q4 4).1,(za q4 4).2,([]:List Int)):=⟨hp.1,by show(za q4 4).1<=3;omega,h6.mono (by show _<=n+2+2+2+2 * (3-(za q4 4).1);omega),by show((0:Nat):Int)<=3-(za q4 4).1;omega,fun _=>by show(0:Nat)<=2;omega,fun x hx=>absurd hx (by simp)⟩
 have hKr:1<=IntKind.wrap .i64 (1+(za s 8).1)/\IntKind.wrap .i64 (1+(za s 8).1)<=8:=by omega
 clear hw hr hr2
 have leaf:∀ (g:List Int) (L:List UInt8) (q:l00Src) (m:Int),SrcOk m q->m+2<=n+100->mkC (IntKind.wrap .i64 (1+(za s 8).1)) g L∈famC->ChrP (n+100) (zkh s q3 q4 (q.code,q.at_,q.seed,L,g)):=fun g L q m hq hm hf=>by
  rw[dj1];exact mono (yro hq (by omega) ⟨rfl,hC,hf⟩) (by omega)
 have J2:(IntKind.wrap .i64 (1+(za s 8).1)=2\/IntKind.wrap .i64 (1+(za s 8).1)=4\/IntKind.wrap .i64 (1+(za s 8).1)=5)->ChrP (n+100) (zai s q3 q4 true):=fun hK=>by
  obtain⟨t,e1,e2,e3⟩:=ywy (N:=n+2+2+2) (by omega) (((za q4 4).1).toNat+1) _ hI (by show((za q4 4).1).toNat<_;omega);have hb:y31 s q3 q4 true (za q4 4).2=grpStep:=rfl;unfold zai;simp only[bnd];rw[cond_true,hb,e1];exact mono (yk2 (K:=IntKind.wrap .i64 (1+(za s 8).1)) (by omega) hK hC e2 e3) (by omega)
 have qv:∀ (K:Int) (hK:K=6\/K=7),mkC K [] []∈famC/\mkC K [3] []∈famC/\mkC K [6] []∈famC/\mkC K [9] []∈famC/\mkC K [6] [76]∈famC:=fun K hK=>by rcases hK with rfl|rfl<;>decide +kernel
 have J3t:(IntKind.wrap .i64 (1+(za s 8).1)=6\/IntKind.wrap .i64 (1+(za s 8).1)=7)->ChrP (n+100) (zbi s q3 q4 false true):=fun hK=>by
  obtain⟨f1,f2,f3,f4,f5⟩:=qv _ hK;have hx:=y7h (l:=([0,0,3,6,9]:List Int)) h4 (by omega) (by decide);have hq:=h4.among (l:=([0,0,3,6,9]:List Int)) (by omega);have ho:=hq.one (m:=2) (by omega);unfold zbi;simp only[bnd];rw[cond_true];generalize (zk q4 ([0,0,3,6,9]:List Int)).2=q60 at hq ho ⊢;generalize (zk q4 ([0,0,3,6,9]:List Int)).1=x at hx ⊢;generalize (zn q60 2).2=q62 at ho ⊢;generalize (zn q60 2).1=b;simp only[List.mem_cons,List.not_mem_nil,or_false]at hx;rcases hx with rfl|rfl|rfl|rfl|rfl<;>cases b<;>simp only[Int.reduceLT,decide_true,decide_false,Int.reduceBEq,Bool.true_and,Bool.and_true,Bool.and_false,Bool.false_and,cond_true,cond_false,Int.lt_irrefl]<;>first|exact leaf _ _ _ _ ho (by omega) (by assumption)|exact leaf _ _ _ _ hq (by omega) (by assumption)
 have J3f:(IntKind.wrap .i64 (1+(za s 8).1)=8\/IntKind.wrap .i64 (1+(za s 8).1)=1\/IntKind.wrap .i64 (1+(za s 8).1)=3)->ChrP (n+100) (zbi s q3 q4 false false):=fun hK=>by
  unfold zbi;simp only[bnd];rw[cond_false]
  cases c8:(IntKind.wrap .i64 (1+(za s 8).1) == 8)with
  | true=>
   rw[beq_iff_eq]at c8;have hr:=yq 26 h4 (by omega);have hr2:=hr.2 (by omega);have hq:=h4.pick (m:=26) (by omega);have hall:((List.range 26).all fun m=>decide (mkC 8 [] (([IntKind.wrap .u8 (IntKind.wrap .i64 (65+(m:Int)))]:List Int).map fun z=>UInt8.ofNat z.toNat)∈famC))=true:=by decide +kernel
   have hm:mkC 8 [] (([IntKind.wrap .u8 (IntKind.wrap .i64 (65+(za q4 26).1))]:List Int).map fun z=>UInt8.ofNat z.toNat)∈famC:=by
    have:=of_decide_eq_true (List.all_eq_true.1 hall ((za q4 26).1).toNat (List.mem_range.2 (by omega)));rw[show(((za q4 26).1).toNat:Int)=(za q4 26).1 by omega]at this;exact this
   rw[cond_true];exact leaf _ _ _ _ hq (by omega) (by rw[c8];exact hm)
  | false=>
   rw[cond_false];rw[beq_eq_false_iff_ne]at c8;refine leaf _ _ _ _ h4 (by omega) ?_;rcases hK with e|e|e
   ·exact absurd e c8
   all_goals rw[e];decide +kernel
 have J2f:IntKind.wrap .i64 (1+(za s 8).1)≠2->IntKind.wrap .i64 (1+(za s 8).1)≠4->IntKind.wrap .i64 (1+(za s 8).1)≠5->ChrP (n+100) (zai s q3 q4 false):=fun h2 h4 h5=>by
  unfold zai;rw[cond_false]
  cases c6:(IntKind.wrap .i64 (1+(za s 8).1) == 6)with
  | true=>
   rw[beq_iff_eq]at c6;exact J3t (.inl c6)
  | false=>
  rw[cond_false]
  cases c7:(IntKind.wrap .i64 (1+(za s 8).1) == 7)with
  | true=>
   rw[beq_iff_eq]at c7;exact J3t (.inr c7)
  | false=>
   rw[beq_eq_false_iff_ne]at c6 c7;exact J3f (by omega)
 cases c2:(IntKind.wrap .i64 (1+(za s 8).1) == 2)with
 | true=>
  rw[beq_iff_eq]at c2;exact J2 (.inl c2)
 | false=>
 rw[cond_false]
 cases c4:(IntKind.wrap .i64 (1+(za s 8).1) == 4)with
 | true=>
  rw[beq_iff_eq]at c4;exact J2 (.inr (.inl c4))
 | false=>
 rw[cond_false]
 cases c5:(IntKind.wrap .i64 (1+(za s 8).1) == 5)with
 | true=>
  rw[beq_iff_eq]at c5;exact J2 (.inr (.inr c5))
 | false=>
  rw[beq_eq_false_iff_ne]at c2 c4 c5;exact J2f c2 c4 c5
theorem SrcOk.chr {n:Int} {s:l00Src} (h:SrcOk n s) (hn:n<=10000000):SrcOk (n+100) (zi s).2:=(ywx h hn).1
theorem y69 {n:Int} {s:l00Src} (h:SrcOk n s) (hn:n<=10000000):1<=(((zi s).1.Colors).length:Int):=by
 have hc:=(ywx h hn).2.2.1;have:∀ x∈nineC,1<=x.length:=by decide
 have:=this _ hc;omega
theorem yuab {n:Int} {s:l00Src} (h:SrcOk n s) (hn:n<=10000000):bdCharacter (zi s).1:=by
 obtain⟨_,_,hc,hg,hl⟩:=ywx h hn;have:∀ x∈nineC,x.length<=3:=by decide
 have h3:=this _ hc;exact⟨by show List.length _<1099511627776;omega,by show List.length _<1099511627776;omega,by show List.length _<1099511627776;omega⟩
theorem ypl (a : List Sector) (hl : a.length <= 12) (h1 : ∀ i, i < a.length -> zdc (a.getD i default) = true) (h2 : ∀ i, i + 1 < a.length -> (a.getD i default).From < (a.getD (i + 1) default).From)
  (h3:1<a.length->∀ i,i<a.length->yvc (a.getD i default)<=((a.getD ((i+1) % a.length) default).From-(a.getD i default).From+360) % 360):zv a=true:=by
 have sp1:=yxe (b:=yru a) (secQ a) (fun _ u=>u) false (k:=a.length-0) (i:=0) (s:=()) (fun j u _ _=>by cases u;rfl);rcases sp1 with⟨⟨j,_,hj,hq⟩,e1⟩|⟨hq,e1⟩
 ·have:=(y4p a j (by omega)).2 ⟨h1 j (by omega),fun h=>by have:=h2 (j-1) (by omega);rwa [show j-1+1=j by omega]at this⟩
  rw[this]at hq;cases hq
 ·have hb:∀ i,i<a.length->brg (a.getD i default).From/\brg (a.getD i default).To:=fun i hi=>yso (h1 i hi)
  let q2 (j:Nat):Bool:=decide (1<a.length) && decide ((((a.getD ((j+1) % a.length) default).From-(a.getD j default).From+360) % 360)<yvc (a.getD j default))
  have sp2:=ynj (b:=ypp a ()) q2 false (if 1<a.length then a.length else 0) (fun j hj=>by
   simp only[ypp];by_cases hn:1<a.length
   ·rw[if_pos hn]at hj ⊢
    have d1:decide ((1:Int)<(a.length:Int))=true:=by simp;omega
    rw[d1,Bool.and_true];by_cases hjl:j<a.length
    ·have d2:decide ((j:Int)<(a.length:Int))=true:=by simp;omega
     rw[d2,decide_eq_true hjl];simp only[cond_true];have w1:IntKind.wrap .i64 ((j:Int)+1)=((j+1:Nat):Int):=by rw[IntKind.wrap_i64];omega
     have t1:((IntKind.wrap .i64 ((j:Int)+1)).tmod (a.length:Int)).toNat=(j+1) % a.length:=by
      rw[w1,Int.tmod_eq_emod_of_nonneg (by omega),show((j+1:Nat):Int) % (a.length:Int)=(((j+1) % a.length:Nat):Int)from rfl,Int.toNat_natCast]
     rw[t1,Int.toNat_natCast,y4x _ (hb j hjl).1 (hb j hjl).2,w1];have hm:(j+1) % a.length<a.length:=Nat.mod_lt _ (by omega);have b1:=(hb _ hm).1;have b2:=(hb j hjl).1;obtain⟨c1,c2⟩:=b1;obtain⟨c3,c4⟩:=b2;rw[w64 (x:=(a.getD ((j+1) % a.length) default).From-(a.getD j default).From) (by omega) (by omega),w64 (x:=(a.getD ((j+1) % a.length) default).From-(a.getD j default).From+360) (by omega) (by omega),Int.tmod_eq_emod_of_nonneg (by omega)];show _=bif q2 j then _ else _
     rw[show q2 j=decide ((((a.getD ((j+1) % a.length) default).From-(a.getD j default).From+360) % 360)<yvc (a.getD j default))from by show(decide (1<a.length) && _)=_;rw[decide_eq_true hn,Bool.true_and]]
    ·have d2:decide ((j:Int)<(a.length:Int))=false:=by simp;omega
     rw[d2,decide_eq_false hjl];rfl
   ·rw[if_neg hn]at hj ⊢
    have d1:decide ((1:Int)<(a.length:Int))=false:=by simp;omega
    have d3:decide (j<0)=false:=by simp
    rw[d1,Bool.and_false,d3]
    rfl) (if 1<a.length then a.length else 0) 0 (a.length-(0:Int).toNat+1) (by omega) (by simp;split<;>omega)
  have e0:((0:Nat):Int)=0:=rfl;rw[e0]at sp2;unfold zv;rw[decide_eq_false (show ¬ 12<(a.length:Int)by omega),cond_false,e1];simp only;rcases sp2 with⟨⟨j,_,hj,hq2⟩,e3⟩|⟨_,e3⟩
  ·exfalso
   by_cases hn:1<a.length
   ·rw[if_pos hn]at hj
    have hq3:(decide (1<a.length) && decide ((((a.getD ((j+1) % a.length) default).From-(a.getD j default).From+360) % 360)<yvc (a.getD j default)))=true:=hq2;rw[decide_eq_true hn,Bool.true_and]at hq3;have:=of_decide_eq_true hq3;have:=h3 hn j hj;omega
   ·rw[if_neg hn]at hj;omega
  ·rw[e3]
end Go.Ab
