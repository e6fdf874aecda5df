/- Walks and lemmas. No conditions. -/
import Derived.Test.YthmfknndfeepfaaGreatDoorEAq
import Derived.Test.YthmfknndfeepfaaGreatDoorEAn
set_option linter.unusedSectionVars false
set_option linter.unusedVariables false
set_option linter.unusedSimpArgs false
set_option maxHeartbeats 1000000
namespace Go.Ab
open Go Go.Proofs
theorem yvt (a:List Sector):zib a=yxe a (yxe a (yxe a (yxe a [] 87) 82) 71) 89:=by
 unfold zib;simp only[ye,Nat.sub_zero];rw[y7c a 0 [] 87 rfl];simp only;rw[y7c a (0+1) _ 82 rfl];simp only;rw[y7c a (0+1+1) _ 71 rfl];simp only;rw[y7c a (0+1+1+1) _ 89 rfl]
theorem ytu {a:List Sector} (h:zv a=true) (hl:0<a.length):(zib a).length<=3->zmb (zib a)=true:=by
 have h1:=(y3h h).2 0 hl
 have hc:zjf (a.getD 0 default).Color=true:=by
  unfold zkc at h1;rw[Bool.and_eq_true]at h1;exact h1.2
 have hm:a.getD 0 default∈a:=by
  rw[List.getD_eq_getElem?_getD,List.getElem?_eq_getElem hl];exact List.getElem_mem hl
 have hany:(a.any (fun x=>x.Color == [87]) || (a.any (fun x=>x.Color == [82]) || (a.any (fun x=>x.Color == [71]) || a.any (fun x=>x.Color == [89]))))=true:=by
  unfold zjf at hc;simp only[Bool.or_eq_true,List.any_eq_true]at hc ⊢;rcases hc with((hc|hc)|hc)|hc
  ·exact .inl ⟨_,hm,hc⟩
  ·exact .inr (.inl ⟨_,hm,hc⟩)
  ·exact .inr (.inr (.inl ⟨_,hm,hc⟩))
  ·exact .inr (.inr (.inr ⟨_,hm,hc⟩))
 rw[yvt];unfold yxe;revert hany
 cases a.any (fun x=>x.Color == [87])<;>cases a.any (fun x=>x.Color == [82])<;>cases a.any (fun x=>x.Color == [71])<;>cases a.any (fun x=>x.Color == [89])<;>intro hany h3<;>first|(exact absurd hany (by decide))|(exact absurd h3 (by decide))|decide +kernel
theorem y4ab {K:Int} {G:List Int} {L C C':List UInt8} {P:Int} (h:zsc { Kind:=K,Group:=G,Letter:=L,Colors:=C,Period:=P }=true) (h2:zmb C'=true):zsc { Kind:=K,Group:=G,Letter:=L,Colors:=C',Period:=P }=true:=by
 have hC:zmb C=true:=by
  cases hc:zmb C with
  | true=>rfl
  | false=>
   unfold zsc zje at h;simp only[hc,Bool.not_false,Bool.or_true,cond_true,Bool.not_true]at h;cases h
 rw[<- h];unfold zsc;rw[ymm K G L C P hC,ymm K G L C' P h2];rfl
def yr1 (N:Int) (nm:List UInt8) (p:Point) (h:Int) (mk:Mark) (q:l00Src):Aid×l00Src:=
 (bnd ((zn q 5).2) fun q14=>(bif ((zn q 5).1)then({ Number:=N,Name:=nm,At:=p,Height:=h,Mark:=mk,Light:={ Kind:=0,Group:=[],Letter:=[],Colors:=[],Period:=0:Character },Sectors:=[],Intensity:=0:Aid },q14)else(bnd ((zi q14).2) fun q16=>(bnd ((zk q16 ([10,1000,20000,1000000,1]:List Int)).2) fun q18=>(bnd ((zn q18 2).2) fun q20=>(bif ((zn q18 2).1)then({ Number:=N,Name:=nm,At:=p,Height:=h,Mark:=mk,Light:={ Kind:=((zi q14).1).Kind,Group:=((zi q14).1).Group,Letter:=((zi q14).1).Letter,Colors:=(((zi q14).1).Colors).take 1,Period:=((zi q14).1).Period:Character },Sectors:=[],Intensity:=((zk q16 ([10,1000,20000,1000000,1]:List Int)).1):Aid },q20)else(bnd ((zy q20).2) fun q22=>(bif ((((zy q20).1).length:Int) == 0)then({ Number:=N,Name:=nm,At:=p,Height:=h,Mark:=mk,Light:={ Kind:=((zi q14).1).Kind,Group:=((zi q14).1).Group,Letter:=((zi q14).1).Letter,Colors:=(((zi q14).1).Colors).take 1,Period:=((zi q14).1).Period:Character },Sectors:=((zy q20).1),Intensity:=((zk q16 ([10,1000,20000,1000000,1]:List Int)).1):Aid },q22)else(bif decide (3<((zib ((zy q20).1)).length:Int))then({ Number:=N,Name:=nm,At:=p,Height:=h,Mark:=mk,Light:={ Kind:=((zi q14).1).Kind,Group:=((zi q14).1).Group,Letter:=((zi q14).1).Letter,Colors:=[71],Period:=((zi q14).1).Period:Character },Sectors:=[{ From:=10,To:=200,Color:=[71]:Sector }],Intensity:=((zk q16 ([10,1000,20000,1000000,1]:List Int)).1):Aid },q22)else({ Number:=N,Name:=nm,At:=p,Height:=h,Mark:=mk,Light:={ Kind:=((zi q14).1).Kind,Group:=((zi q14).1).Group,Letter:=((zi q14).1).Letter,Colors:=(zib ((zy q20).1)),Period:=((zi q14).1).Period:Character },Sectors:=((zy q20).1),Intensity:=((zk q16 ([10,1000,20000,1000000,1]:List Int)).1):Aid },q22))))))))))
def AidP (n:Int) (r:Aid×l00Src):Prop:=SrcOk n r.2/\zw r.1=true/\(r.1.Light.Group.length<=2/\r.1.Light.Letter.length<=1/\r.1.Light.Colors.length<=3)/\r.1.Sectors.length<=5/\r.1.Number<=30
theorem y82 {C:List UInt8} (h:C∈nineC):zmb (C.take 1)=true/\(C.take 1).length=1:=by
 have:(nineC.all fun C=>zmb (C.take 1) && decide ((C.take 1).length=1))=true:=by decide +kernel
 have:=List.all_eq_true.1 this C h;rw[Bool.and_eq_true,decide_eq_true_eq]at this;exact this
theorem y5j {n:Int} {N:Int} {nm:List UInt8} {p:Point} {h:Int} {mk:Mark} {q:l00Src} (hq:SrcOk n q) (hn:n<=1000000) (h1:1<=N) (h2:N<=30) (h3:zqc nm=true) (h4:zvc p=true) (h5:0<=h) (h6:h<=3000) (h7:zid mk=true):AidP (n+310) (yr1 N nm p h mk q):=by
 have base:∀ (L:Character) (S:List Sector) (I:Int),(bif (zjd L)then(((S.length:Int) == 0) && (I == 0))else(bif (((!(zsc L)) || (!(zj I 1 100000000))) || (!(zv S)))then false else(bif ((S.length:Int) == 0)then((L.Colors.length:Int) == 1)else((zib S) == L.Colors))))=true->zw { Number:=N,Name:=nm,At:=p,Height:=h,Mark:=mk,Light:=L,Sectors:=S,Intensity:=I:Aid }=true:=fun L S I hh=>by
  unfold zw;have e1:zj N 1 9999=true:=by unfold zj;simp;omega
  have e2:zj h 0 3000=true:=by unfold zj;simp;omega
  simp only[e1,e2,h3,h4,h7,Bool.not_true,Bool.or_self,cond_false];exact hh
 have lit:∀ (L:Character) (S:List Sector) (I:Int),zsc L=true->1<=I->I<=100000000->zv S=true->(bif ((S.length:Int) == 0)then((L.Colors.length:Int) == 1)else((zib S) == L.Colors))=true->zw { Number:=N,Name:=nm,At:=p,Height:=h,Mark:=mk,Light:=L,Sectors:=S,Intensity:=I:Aid }=true:=fun L S I g1 g2 g3 g4 g5=>base L S I (by
  have e0:zjd L=false:=by
   cases e:zjd L with
   | false=>rfl
   | true=>
    unfold zjd at e;simp only[Bool.and_eq_true,beq_iff_eq]at e;unfold zsc zje zbh zj at g1;rw[e.1.1.1.1]at g1;cases g1
  have e1:zj I 1 100000000=true:=by unfold zj;simp;omega
  rw[e0,g1,e1,g4]
  exact g5)
 unfold yr1;have q14:=hq.one (m:=5) (by omega);simp only[bnd];generalize (zn q 5).2=s14 at q14
 cases(zn q 5).1 with
 | true=>rw[cond_true];exact⟨q14.mono (by show _<=n+310;omega),base _ _ _ rfl,(by decide:([]:List Int).length<=2/\([]:List UInt8).length<=1/\([]:List UInt8).length<=3),by show(0:Nat)<=5;omega,h2⟩
 | false=>
  rw[cond_false];obtain⟨q16,c1,c2,c3,c4⟩:=yuy q14 (by omega);generalize (zi s14).2=s16 at q16;generalize (zi s14).1=c at c1 c2 c3 c4;obtain⟨K,G,L,C,P⟩:=c;simp only at c2 c3 c4;have hI:=yvi (l:=([10,1000,20000,1000000,1]:List Int)) q16 (by omega) (by decide);have q18:=q16.among (l:=([10,1000,20000,1000000,1]:List Int)) (by omega);generalize (zk s16 ([10,1000,20000,1000000,1]:List Int)).2=s18 at q18;generalize (zk s16 ([10,1000,20000,1000000,1]:List Int)).1=I at hI;have hI:1<=I/\I<=100000000:=by simp only[List.mem_cons,List.not_mem_nil,or_false]at hI;omega
  have q20:=q18.one (m:=2) (by omega);generalize (zn s18 2).2=s20 at q20;obtain⟨t1,t2⟩:=y82 c2
  have z1:zw { Number:=N,Name:=nm,At:=p,Height:=h,Mark:=mk,Light:={ Kind:=K,Group:=G,Letter:=L,Colors:=C.take 1,Period:=P:Character },Sectors:=[],Intensity:=I:Aid }=true:=lit _ _ _ (y4ab c1 t1) hI.1 hI.2 (by decide +kernel) (by
   show(((C.take 1).length:Int) == 1)=true
   rw[t2];rfl)
  cases(zn s18 2).1 with
  | true=>exact⟨q20.mono (by show _<=n+310;omega),z1,⟨c3,c4,by show(C.take 1).length<=3;omega⟩,by show(0:Nat)<=5;omega,h2⟩
  | false=>
   rw[cond_false];obtain⟨q22,d1,d2⟩:=y3y q20 (by omega);generalize (zy s20).2=s22 at q22;generalize (zy s20).1=S at d1 d2;by_cases hS:S.length=0
   ·have hS2:S=[]:=List.length_eq_zero_iff.1 hS
    subst hS2;exact⟨q22.mono (by show _<=n+310;omega),z1,⟨c3,c4,by show(C.take 1).length<=3;omega⟩,by show(0:Nat)<=5;omega,h2⟩
   ·have e0:((S.length:Int) == 0)=false:=by rw[beq_eq_false_iff_ne];omega
    rw[e0,cond_false];by_cases h3':3<((zib S).length:Int)
    ·rw[decide_eq_true h3',cond_true]
     exact⟨q22.mono (by show _<=n+310;omega),lit _ _ _ (y4ab c1 (by decide +kernel)) hI.1 hI.2 (by decide +kernel) (by show((zib [{ From:=10,To:=200,Color:=[71]:Sector }]) == [71])=true;decide +kernel),⟨c3,c4,by show(1:Nat)<=3;omega⟩,by show(1:Nat)<=5;omega,h2⟩
    ·rw[decide_eq_false h3',cond_false]
     exact⟨q22.mono (by show _<=n+310;omega),lit _ _ _ (y4ab c1 (ytu d2 (by omega) (by omega))) hI.1 hI.2 d2 (by rw[e0,cond_false];simp),⟨c3,c4,by show(zib S).length<=3;omega⟩,d1,h2⟩
theorem yueb {k:Int} (h1:1<=k) (h2:k<=9):zid (zlf k).1=true:=by
 rcases(show k=1\/k=2\/k=3\/k=4\/k=5\/k=6\/k=7\/k=8\/k=9 by omega)with e|e|e|e|e|e|e|e|e<;>rw[e]<;>decide +kernel
theorem ymh {n:Int} {s:l00Src} (h:SrcOk n s) (hn:n<=900000):AidP (n+400) (zr s):=by
 have mono:∀ {m:Int} {r:Aid×l00Src},AidP m r->m<=n+400->AidP (n+400) r:=fun h h2=>⟨h.1.mono h2,h.2⟩
 have r1:=yn 30 h (by omega);have r12:=r1.2 (by omega);have q2:=h.pick (m:=30) (by omega);have w1:IntKind.wrap .i64 ((za s 30).1+1)=(za s 30).1+1:=by rw[IntKind.wrap_i64];omega
 unfold zr;simp only[bnd];rw[w1];generalize (za s 30).2=s2 at q2;obtain⟨N,hN⟩:∃ N,N=(za s 30).1+1:=⟨_,rfl⟩
 rw[<- hN];have hnm:=ydl (l:=([[114,111,99,107],[101,97,115,116],[112,105,101,114],[98,97,114],[99,97,112,101]]:List (List UInt8))) q2 (by omega) (by decide);have q4:=q2.text (l:=([[114,111,99,107],[101,97,115,116],[112,105,101,114],[98,97,114],[99,97,112,101]]:List (List UInt8))) (by omega);generalize (zx s2 ([[114,111,99,107],[101,97,115,116],[112,105,101,114],[98,97,114],[99,97,112,101]]:List (List UInt8))).2=s4 at q4;generalize (zx s2 ([[114,111,99,107],[101,97,115,116],[112,105,101,114],[98,97,114],[99,97,112,101]]:List (List UInt8))).1=nm at hnm
 have hnm:zqc nm=true:=by
  have hs:∀ y∈([[114,111,99,107],[101,97,115,116],[112,105,101,114],[98,97,114],[99,97,112,101]]:List (List UInt8)),zqc y=true:=by decide +kernel
  exact hs nm hnm
 obtain⟨q6,hp⟩:=y6x q4 (by omega);generalize (zyb s4).2=s6 at q6;generalize (zyb s4).1=p at hp;have r3:=yn 500 q6 (by omega);have r32:=r3.2 (by omega);have q8:=q6.pick (m:=500) (by omega);generalize (za s6 500).2=s8 at q8;generalize (za s6 500).1=hh at r3 r32;have q10:=q8.one (m:=2) (by omega);generalize (zn s8 2).2=s10 at q10;have zm:zid { Kind:=0,Colors:=[],Shape:=[],Topmark:=[]:Mark }=true:=by decide +kernel
 cases(zn s8 2).1 with
 | true=>
  rw[cond_true];have r4:=yn 9 q10 (by omega);have r42:=r4.2 (by omega);have q12:=q10.pick (m:=9) (by omega);have w2:IntKind.wrap .i64 ((za s10 9).1+1)=(za s10 9).1+1:=by rw[IntKind.wrap_i64];omega
  rw[w2];generalize (za s10 9).2=s12 at q12;have hm:=yueb (k:=(za s10 9).1+1) (by omega) (by omega)
  cases((zlf ((za s10 9).1+1)).2 == 0)with
  | true=>rw[cond_true];exact mono (y5j q12 (by omega) (by omega) (by omega) hnm hp r3.1 (by omega) hm) (by omega)
  | false=>rw[cond_false];exact mono (y5j q12 (by omega) (by omega) (by omega) hnm hp r3.1 (by omega) zm) (by omega)
 | false=>rw[cond_false];exact mono (y5j q10 (by omega) (by omega) (by omega) hnm hp r3.1 (by omega) zm) (by omega)
theorem SrcOk.aid {n:Int} {s:l00Src} (h:SrcOk n s) (hn:n<=900000):SrcOk (n+400) (zr s).2:=(ymh h hn).1
theorem y9q {n:Int} {r:Aid×l00Src} (h:AidP n r):bdAid r.1:=by
 obtain⟨_,h1,⟨h2,h3,h4⟩,h5,_⟩:=h;have hr:=y4c h1;have hm:=ywg hr.2.2.2.2.2.2.1;have hn:=yel hr.2.2.1;have hs:=(y7d hr.2.2.2.2.2.2.2.2.1).2;refine⟨Nat.lt_of_le_of_lt hn (by decide),⟨Nat.lt_of_le_of_lt hm.2.2.1 (by decide),Nat.lt_of_le_of_lt hm.2.2.2.1 (by decide),Nat.lt_of_le_of_lt hm.2.2.2.2 (by decide)⟩,⟨Nat.lt_of_le_of_lt h2 (by decide),Nat.lt_of_le_of_lt h3 (by decide),Nat.lt_of_le_of_lt h4 (by decide)⟩,Nat.lt_of_le_of_lt h5 (by decide),fun v hv => ?_⟩;obtain⟨i,hi,e⟩:=List.getElem_of_mem hv;have:=(hs i).2.2.2.2;rw[List.getD_eq_getElem?_getD,List.getElem?_eq_getElem hi]at this;rw[<- e];exact Nat.lt_of_le_of_lt this (by decide)
def yam (a0:l00Src) (q2:l00Src) (s1:Int×l00Src×List Aid):Except (Sum ((List Aid)×l00Src) (Int×l00Src×List Aid)) (Int×l00Src×List Aid):=
 (bif decide (0<s1.1)then(bnd ((zr s1.2.1).2) fun q6=>(bif (((zec s1.2.2 ((zr s1.2.1).1)).2) == 0)then .ok (IntKind.wrap .i64 (s1.1-1),q6,(zec s1.2.2 ((zr s1.2.1).1)).1)else .ok (IntKind.wrap .i64 (s1.1-1),q6,s1.2.2)))else .error (.inr (s1.1,s1.2.1,s1.2.2)))
def zpd (a0:l00Src):(List Aid)×l00Src:=
 (bnd ((za a0 6).2) fun q2=>(match yab (yam a0 q2) (((((za a0 6).1)).toNat)+1) (((za a0 6).1),q2,([]:List Aid))with|.error (.inl e)=>e|.error (.inr s1)=>(s1.2.2,s1.2.1)|.ok _=>default))
namespace N18
theorem DD:DOk Tryz.prog (Go.Ab.DD [(38,dM [true,false] D_za),(39,dM [true] D_zr),(40,dP D_zec)]):=ya ylf.e <| ya yw3.e <| ya yfx.e <| yc _
abbrev dn:=cj @D_za.eq_1 <| cj @D_zr.eq_1 <| @D_zec.eq_1
theorem o1 {p:Prop} (h:p:=by(first|(refine SrcOk.mono (by repeat' first|assumption|exact SrcOk.next ‹_› | apply SrcOk.next|apply SrcOk.pick|apply SrcOk.one|apply SrcOk.among|apply SrcOk.text|apply SrcOk.colors|apply SrcOk.point|apply SrcOk.chr|apply SrcOk.sectors|apply SrcOk.aid|apply SrcOk.aids|apply SrcOk.notice|omega) (by omega))|(exact SrcOk.mono hW1.2.2.1 (by omega)));first|done|fail):p:=h
set_option maxHeartbeats 2000000 in
set_option maxRecDepth 20000 in
theorem den (a0:l00Src) (hp0:SrcOk 400000 a0):DenM Tryz.prog 18 [.op (yt a0)] (ownL 56 16 eAid ((zpd a0).1)) [(.op (yt ((zpd a0).2)))]:=by
 generalize hR:zpd a0=r;unfold zpd at hR;refine dj (gb:=[true]) Tryz.func18 Tryz.ntmps18 Tryz.results18 ?_;intro c hL hc hk;obtain⟨hL0,_⟩:=hL;have hw0:bwl00Src a0:=ykb a0 hL0;clear hL0;simp only[adEL,adE,adRL,adR,ownL,encL,sv,List.nil_append,List.append_nil,List.cons_append,List.length_cons,List.length_nil,pars,Nat.zero_add,Nat.reduceAdd]at hk ⊢;have hpa:=fun(s:l00Src) (n:Int) (h:SrcOk n s) (hn:n<=900000)=>y9q (ymh h hn)
 iterate 3 refine rS ?_
 generalize hq2:(za a0 6).2=q2 at hR ⊢;replace hR:=bn hR;have hS_q2:SrcOk (400002) q2:=by rw[<- hq2];exact SrcOk.pick hp0 (by omega)
 refine AWP.block ?_;generalize hz1:yab (yam a0 q2) (((((za a0 6).1)).toNat)+1) (((za a0 6).1),q2,([]:List Aid))=z1 at hR;refine AWP.whileW (yam a0 q2) (fun s1=>⟨[(0,.ptr 0 0),(3,.ref 1 16 0 s1.2.2.length),(4,.int .i64 s1.1)],[.box [encL 1 eIu8 s1.2.1.code,.int .i64 s1.2.1.at_,.int .u64 s1.2.1.seed],.arr 56 16 s1.2.2.length (fun j=>ytb (s1.2.2.getD j default))]⟩) (fun s1=>0<=s1.1/\s1.1<=5/\SrcOk (400040+500 * (5-s1.1)) s1.2.1/\s1.2.2.length<=(5-s1.1).toNat/\∀ v∈s1.2.2,bdAid v) (fun s1=>(s1.1).toNat) (((((za a0 6).1)).toNat)+1) (((za a0 6).1),q2,([]:List Aid)) [0,1] hz1 m0 (by(have h2:=yn 6 hp0 (by omega);have h3:=h2.2 (by omega);exact⟨h2.1,by omega,SrcOk.mono (by assumption) (by omega),by simp,by simp⟩)) sm ?_;clear hz1;intro s1 k1 hW1 hm1 hz1;simp only[yam]at hz1;refine rS ?_;refine yb ?_ ?_<;>intro hb
 ·simp only[hb,cond_true]at hz1
  refine rS ?_;generalize hq6:(zr s1.2.1).2=q6 at hz1 ⊢;rw[bndv q6]at hz1;have hS_q6:SrcOk (400040+500 * (5-s1.1)+400) q6:=by rw[<- hq6];exact SrcOk.aid hW1.2.2.1 (by omega)
  iterate 2 refine rS ?_
  refine yb ?_ ?_<;>intro hb
  ·simp only[hb,cond_true]at hz1
   iterate 2 refine rS ?_
   clear hR;exact⟨_,[0,3],by(have hpos:0<s1.1:=of_decide_eq_true (by assumption);have hwr:IntKind.wrap .i64 (s1.1-1)=s1.1-1:=(by rw[IntKind.wrap_i64];omega);(try dsimp only);rw[hwr];omega),by(have hpos:0<s1.1:=of_decide_eq_true (by assumption);have hwr:IntKind.wrap .i64 (s1.1-1)=s1.1-1:=(by rw[IntKind.wrap_i64];omega);(try dsimp only);rw[hwr];have hG:=hW1.2.2.2.1;have hA:=hpa s1.2.1 _ hW1.2.2.1 (by omega);have hP:=yyu bdAid s1.2.2 (zr s1.2.1).1 (by omega) hW1.2.2.2.2 hA;exact⟨by omega,by omega,SrcOk.mono (by assumption) (by omega),by omega,by first|exact hP.1|exact hW1.2.2.2.2⟩),hz1,sm⟩
  ·simp only[hb,cond_false]at hz1
   refine rS ?_;clear hR;exact⟨_,[0,1],by(have hpos:0<s1.1:=of_decide_eq_true (by assumption);have hwr:IntKind.wrap .i64 (s1.1-1)=s1.1-1:=(by rw[IntKind.wrap_i64];omega);(try dsimp only);rw[hwr];omega),by(have hpos:0<s1.1:=of_decide_eq_true (by assumption);have hwr:IntKind.wrap .i64 (s1.1-1)=s1.1-1:=(by rw[IntKind.wrap_i64];omega);(try dsimp only);rw[hwr];have hG:=hW1.2.2.2.1;have hA:=hpa s1.2.1 _ hW1.2.2.1 (by omega);have hP:=yyu bdAid s1.2.2 (zr s1.2.1).1 (by omega) hW1.2.2.2.2 hA;exact⟨by omega,by omega,SrcOk.mono (by assumption) (by omega),by omega,by first|exact hP.1|exact hW1.2.2.2.2⟩),hz1,sm⟩
 ·simp only[hb,cond_false]at hz1
  refine AWP.exit ?_;refine yf ?_;subst hz1;dsimp only at hR;refine rS ?_;refine AWP.lendE 1 (fun j=>eAid (s1.2.2.getD j default)) rfl le1 ?_;simp only[setE];exact retE
end N18
def D_zpd : List AV -> Option (AV × List AV × List Prop)
 | [x0]=>some (ownL 56 16 eAid ((zpd (rdQ yx x0)).1),[(.op (yt ((zpd (rdQ yx x0)).2)))],[wQ yt yx x0,SrcOk 400000 (rdQ yx x0)])
 | _=>none
theorem yl6:OkM Tryz.prog 18 D_zpd:=by unfold D_zpd;exact dm N18.den
def AidQ (a:Aid):Prop:=bdAid a/\a.Light.Group.length<=2/\a.Sectors.length<=5
theorem yj1 {n:Int} {r:Aid×l00Src} (h:AidP n r):AidQ r.1:=⟨y9q h,h.2.2.1.1,h.2.2.2.1⟩
theorem AidQ.l {a:Aid} (h:AidQ a):aidL a:=⟨Nat.lt_of_lt_of_le h.1.2.2.1.2.2 (by decide),by have:=h.2.2;omega⟩
structure AidsI (N:Int) (s:Int×l00Src×List Aid):Prop where
 a:0<=s.1
 b:s.1<=5
 q:SrcOk (N+400 * (5-s.1)) s.2.1
 n:(s.2.2.length:Int)<=5-s.1
 o:okP AidQ s.2.2
theorem ym2 {N:Int} (a0 q2:l00Src) (hN:N<=500000) (k:Nat) (s:Int×l00Src×List Aid) (h:AidsI N s) (hk:s.1.toNat<k):∃ t,yab (yam a0 q2) k s=.error (.inr t)/\AidsI N t:=by
 obtain⟨e,h1,t,rfl,h2⟩:=yqg (b:=yam a0 q2) (AidsI N) (fun e=>∃ t,e=.inr t/\AidsI N t) (fun s=>s.1.toNat) (fun s h=>by
  obtain⟨k,src,l⟩:=s;obtain⟨ha,hb,hs,hn,ho⟩:=h;simp only at ha hb hs hn ho;unfold yam;simp only;by_cases hc:0<k
  ·rw[decide_eq_true hc,cond_true]
   left
   have hA:=ymh hs (by omega);have hw:IntKind.wrap .i64 (k-1)=k-1:=by rw[IntKind.wrap_i64];omega
   rw[hw];simp only[bnd];have hs2:=hA.1;have hQ:=yj1 hA;have h1:=hA.2.1;generalize (zr src).2=s2 at hs2;generalize (zr src).1=a at hQ h1;have hpl:=(yyu (fun _=>True) l a (by omega) (fun _ _=>trivial) trivial).2
   cases hp:((zec l a).2 == 0)with
   | true=>
    rw[cond_true];rw[beq_iff_eq]at hp;have hok:=yvu AidQ ho ⟨h1,hQ⟩ (t:=(zec l a).1) (Prod.ext rfl hp);exact⟨_,rfl,⟨by show 0<=k-1;omega,by show k-1<=5;omega,hs2.mono (by show _<=N+400 * (5-(k-1));omega),by show((zec l a).1.length:Int)<=5-(k-1);omega,hok⟩,by show(k-1).toNat<k.toNat;omega⟩
   | false=>
    rw[cond_false];exact⟨_,rfl,⟨by show 0<=k-1;omega,by show k-1<=5;omega,hs2.mono (by show _<=N+400 * (5-(k-1));omega),by show(l.length:Int)<=5-(k-1);omega,ho⟩,by show(k-1).toNat<k.toNat;omega⟩
  ·rw[decide_eq_false hc,cond_false]
   exact .inr ⟨_,rfl,_,rfl,ha,hb,hs,hn,ho⟩) k s h hk
 exact⟨t,h1,h2⟩
theorem y60 {n:Int} {s:l00Src} (h:SrcOk n s) (hn:n<=400000):SrcOk (n+4000) (zpd s).2/\okP AidQ (zpd s).1/\(zpd s).1.length<=5:=by
 have hr:=yn 6 h (by omega);have hr2:=hr.2 (by omega);have q2:=h.pick (m:=6) (by omega);unfold zpd;simp only[bnd];obtain⟨t,e1,e2⟩:=ym2 (N:=n+2) s (za s 6).2 (by omega) (((za s 6).1).toNat+1) ((za s 6).1,(za s 6).2,([]:List Aid)) ⟨hr.1,by show(za s 6).1<=5;omega,q2.mono (by show _<=n+2+400 * (5-(za s 6).1);omega),by show((0:Nat):Int)<=5-(za s 6).1;omega,⟨⟨by simp,List.Pairwise.nil,by simp⟩,by simp⟩⟩ (by show((za s 6).1).toNat<_;omega);rw[e1];have ha:=e2.a;have hl:=e2.n;exact⟨e2.q.mono (by omega),e2.o,by show t.2.2.length<=5;omega⟩
theorem SrcOk.aids {n:Int} {s:l00Src} (h:SrcOk n s) (hn:n<=400000):SrcOk (n+4000) (zpd s).2:=(y60 h hn).1
def zng (a0:(List Int)):(List Aid):=
 ((zpd (zzf a0)).1)
namespace N5
theorem DD:DOk Tryz.prog (Go.Ab.DD [(17,dP D_zzf),(18,dM [true] D_zpd)]):=ya yzx.e <| ya yl6.e <| yc _
abbrev dn:=cj @D_zzf.eq_1 <| @D_zpd.eq_1
theorem o1 {p:Prop} (h:p:=by(first|(exact⟨Int.le_refl _,by show(0:Int)<=400000;omega,hp0⟩));first|done|fail):p:=h
theorem den (a0:(List Int)) (hp0:∀ v∈a0,0<=v/\v<=255):Den Tryz.prog 5 [encL 1 eIu8 a0] (ownL 56 16 eAid (zng a0)):=by
 generalize hR:zng a0=r;unfold zng at hR;refine di Tryz.func5 Tryz.ntmps5 Tryz.results5 ?_;intro c hL hc hk;obtain⟨hL0,_⟩:=hL;have hw0:=lwA hL0;clear hL0;simp only[pars,Nat.zero_add];iterate 2 refine rS ?_
 exact retR
end N5
def D_zng : DF
 | [x0]=>some (ownL 56 16 eAid (zng (rdL dIu8 x0)),false,[wL 1 eIu8 dIu8 x0,∀ v∈(rdL dIu8 x0),0<=v/\v<=255])
 | _=>none
theorem yz7:OkD Tryz.prog 5 D_zng:=by unfold D_zng;exact dk N5.den
def yef (m:Nat):List Int:=if h:m=0 then[]else(48+(m % 10:Nat):Int)::yef (m / 10)
termination_by m
decreasing_by omega
theorem y5h:yef 0=[]:=by rw[yef];simp
theorem y4j {m:Nat} (h:m≠0):yef m=(48+(m % 10:Nat):Int)::yef (m / 10):=by rw[yef];simp[h]
theorem y6q:∀ (m:Nat),m≠0->(yef m).reverse.map (fun z=>UInt8.ofNat z.toNat)=Go.Lib.decDigits m:=by
 intro m
 induction m using Nat.strongRecOn with
 | ind m ih=>
  intro h;rw[y4j h,Go.Lib.decDigits];have e3:UInt8.ofNat (48+((m % 10:Nat):Int)).toNat=UInt8.ofNat (48+m % 10):=by congr 1
  split
  ·rename_i h10
   have e:m / 10=0:=by omega
   have e2:m % 10=m:=Nat.mod_eq_of_lt h10;rw[e2]at e3 ⊢;simp only[e,y5h,List.reverse_cons,List.reverse_nil,List.nil_append,List.map_cons,List.map_nil];rw[e3]
  ·rw[<- ih (m / 10) (by omega) (by omega)]
   simp only[List.reverse_cons,List.map_append,List.map_cons,List.map_nil,e3]
theorem yy8 (x:Int):(x.tdiv 10).natAbs=x.natAbs / 10:=by
 rcases ytm x with⟨h,e⟩|⟨h,e⟩<;>rw[e]<;>omega
theorem yheb (x:Int):x.tmod 10=x-10 * x.tdiv 10:=Int.tmod_def x 10
theorem yxeb (a0:Int) (m:Int) (ds:List Int) (h1 : -1000000000000<=m) (h2:m<=1000000000000) (h:m≠0) :
  yyr a0 (m,ds)=.ok (m.tdiv 10,ds++[48+((m.natAbs % 10:Nat):Int)]):=by
 have e1:=yheb m;have e2:=ytm m;have hn:(m != 0)=true:=by simpa using h
 unfold yyr;simp only[hn,cond_true];have w1:IntKind.wrap .i64 (m.tdiv 10)=m.tdiv 10:=by rw[IntKind.wrap_i64];omega
 rw[w1];by_cases hm:m.tmod 10<0
 ·simp only[hm,decide_true,cond_true]
  have w2:IntKind.wrap .u8 (IntKind.wrap .i64 (48+(IntKind.wrap .i64 (0-(m.tmod 10)))))=48+((m.natAbs % 10:Nat):Int):=by
   simp only[IntKind.wrap_i64,IntKind.wrap_u8];omega
  rw[w2]
 ·simp only[hm,decide_false,cond_false]
  have w2:IntKind.wrap .u8 (IntKind.wrap .i64 (48+(m.tmod 10)))=48+((m.natAbs % 10:Nat):Int):=by
   simp only[IntKind.wrap_i64,IntKind.wrap_u8];omega
  rw[w2]
theorem y2s (a0:Int):∀ (k:Nat) (m:Int) (ds:List Int),-1000000000000<=m->m<=1000000000000->m.natAbs<k ->
  yab (yyr a0) k (m,ds)=.error (.inr (0,ds++yef m.natAbs))
 | 0,m,ds,_,_,h=>by omega
 | k+1,m,ds,h1,h2,h=>by
  by_cases hm:m=0
  ·subst hm
   simp[yab,yyr,y5h]
  ·have e2:=ytm m
   simp only[yab,yxeb a0 m ds h1 h2 hm];rw[y2s a0 k (m.tdiv 10) _ (by omega) (by omega) (by omega),yy8,List.append_assoc,List.singleton_append, <- y4j (by omega)]
theorem yl0:∀ (m:Nat),(yef m).length<=m:=by
 intro m
 induction m using Nat.strongRecOn with
 | ind m ih=>
  by_cases h:m=0
  ·subst h;simp[y5h]
  ·rw[y4j h]
   have:=ih (m / 10) (by omega);simp only[List.length_cons];omega
theorem yhy {α:Type} (L:List α) (d:α) (k:Nat) (h:k<L.length):L.getD k d::(L.take k).reverse=(L.take (k+1)).reverse:=by
 rw[List.take_add_one,List.reverse_append];simp[List.getD,List.getElem?_eq_getElem h]
theorem ylu (a0:Int) (s1:Int×List Int):∀ (f k:Nat) (out:List Int),k<f->k<=s1.2.length+1->k<=1000000000001 ->
  yab (y5v a0 s1) f ((k:Int)-1,out)=.error (.inr (-1,out++((s1.2++[45]).take k).reverse))
 | 0,k,out,h,_,_=>by omega
 | f+1,0,out,_,_,_=>by simp[yab,y5v]
 | f+1,k+1,out,h,hk,hb=>by
  have e1:IntKind.wrap .i64 (((k+1:Nat):Int)-1-1)=(k:Int)-1:=by rw[IntKind.wrap_i64];omega
  have e2:(((k+1:Nat):Int)-1).toNat=k:=by omega
  have e3:decide (0<=((k+1:Nat):Int)-1)=true:=by simp
  simp only[yab,y5v,e3,cond_true,e1,e2];rw[ylu a0 s1 f k _ (by omega) (by omega) (by omega),List.append_assoc,List.singleton_append,yhy _ _ _ (by simp;omega)]
theorem yfu (a0:Int) (s1:Int×List Int):∀ (f k:Nat) (out:List Int),k<f->k<=s1.2.length->k<=1000000000001 ->
  yab (yqv a0 s1) f ((k:Int)-1,out)=.error (.inr (-1,out++(s1.2.take k).reverse))
 | 0,k,out,h,_,_=>by omega
 | f+1,0,out,_,_,_=>by simp[yab,yqv]
 | f+1,k+1,out,h,hk,hb=>by
  have e1:IntKind.wrap .i64 (((k+1:Nat):Int)-1-1)=(k:Int)-1:=by rw[IntKind.wrap_i64];omega
  have e2:(((k+1:Nat):Int)-1).toNat=k:=by omega
  have e3:decide (0<=((k+1:Nat):Int)-1)=true:=by simp
  simp only[yab,yqv,e3,cond_true,e1,e2];rw[yfu a0 s1 f k _ (by omega) (by omega) (by omega),List.append_assoc,List.singleton_append,yhy _ _ _ (by omega)]
theorem yoi (n:Int) (h1 : -1000000000000<=n) (h2:n<=1000000000000):zf n=Go.Lib.itoa n:=by
 unfold zf Go.Lib.itoa;by_cases h0:n=0
 ·subst h0
  simp[Go.Lib.decDigits]
 have hn:(n == 0)=false:=by simpa using h0
 rw[hn,cond_false,y2s n _ n [] h1 h2 (by omega)];have hl:=yl0 n.natAbs;have hr:=y6q n.natAbs (by omega);simp only[List.nil_append];by_cases hneg:n<0
 ·have e1:IntKind.wrap .i64 (((yef n.natAbs).length+1:Int)-1)=((((yef n.natAbs).length+1:Nat)):Int)-1:=by rw[IntKind.wrap_i64];omega
  simp only[hneg,decide_true,cond_true,e1,if_true];rw[ylu n _ _ _ _ (by omega) (by simp) (by omega)];simp only[List.nil_append];rw[List.take_of_length_le (by simp),List.reverse_append,List.map_append,hr];rfl
 ·have e1:IntKind.wrap .i64 (((yef n.natAbs).length:Int)-1)=(((yef n.natAbs).length:Nat):Int)-1:=by rw[IntKind.wrap_i64];omega
  simp only[hneg,decide_false,cond_false,e1,if_false];rw[yfu n _ _ _ _ (by omega) (by simp) (by omega)];simp only[List.nil_append];rw[List.take_of_length_le (by simp),hr];congr 1
  omega
theorem yhd (n:Int) (h1 : -1000000000000<=n) (h2:n<=1000000000000):(zf n).length<=n.natAbs+2:=by
 rw[yoi n h1 h2];exact yhu n
def zvd (a0:Int):(List UInt8):=
 (bif ((a0.tmod 10) == 0)then(zf (IntKind.wrap .i64 (a0.tdiv 10)))++[115]else(((zf (IntKind.wrap .i64 (a0.tdiv 10)))++[46])++(zf (a0.tmod 10)))++[115])
namespace N193
theorem DD:DOk Tryz.prog (Go.Ab.DD [(78,dP D_zf)]):=ya yrf.e <| yc _
abbrev dn:=@D_zf.eq_1
set_option maxHeartbeats 400000 in
set_option maxRecDepth 20000 in
theorem den (a0:Int) (hp0:0<=a0) (hp1:a0<=1000000):Den Tryz.prog 193 [.int .i64 a0] (.str (zvd a0)):=by
 generalize hR:zvd a0=r;unfold zvd at hR;refine di Tryz.func193 Tryz.ntmps193 Tryz.results193 ?_;intro c hL hc hk;clear hL;simp only[pars,Nat.zero_add];have hd:a0.tdiv 10=a0 / 10:=Int.tdiv_eq_ediv_of_nonneg hp0;have hw:IntKind.wrap .i64 (a0.tdiv 10)=a0 / 10:=by rw[IntKind.wrap_i64];omega
 have ht:=yfl a0;have h1:=yhd (IntKind.wrap .i64 (a0.tdiv 10)) (by omega) (by omega);have h2:=yhd (a0.tmod 10) (by omega) (by omega);have h3:(IntKind.wrap .i64 (a0.tdiv 10)).natAbs<=100000:=by omega
 have h4:(a0.tmod 10).natAbs<=10:=by omega
 iterate 2 refine rS ?_
 refine yb ?_ ?_<;>intro hb
 ·replace hR:=ct hR
  exact retR
 ·replace hR:=cf hR
  exact retR
end N193
def D_zvd : DF
 | [x0]=>some (.str (zvd (rdI x0)),false,[wI .i64 x0,0<=(rdI x0),(rdI x0)<=1000000])
 | _=>none
theorem y4y:OkD Tryz.prog 193 D_zvd:=by unfold D_zvd;exact dk N193.den
theorem ymv (n:Nat):(zyc.getD n default).length<=3:=by
 rw[List.getD_eq_getElem?_getD];have h:∀ x∈zyc,x.length<=3:=by decide
 cases hg:zyc[n]? with
 | none=>show(0:Nat)<=3;omega
 | some x=>exact h x (List.mem_of_getElem? hg)
theorem yo0 (n:Int) (h1:0<=n) (h2:n<=1000000):(zvd n).length<=43:=by
 unfold zvd;have hd:n.tdiv 10=n / 10:=Int.tdiv_eq_ediv_of_nonneg h1;have hw:IntKind.wrap .i64 (n.tdiv 10)=n / 10:=by rw[IntKind.wrap_i64];omega
 have ht:=yfl n;rw[hw,yoi _ (by omega) (by omega),yoi _ (by omega) (by omega)];have h3:=ynj (n / 10) (by omega) (by omega);have h4:=ynj (n.tmod 10) (by omega) (by omega);simp only[Bool.cond_eq_ite];split
 ·simp only[List.length_append,List.length_cons,List.length_nil];omega
 ·simp only[List.length_append,List.length_cons,List.length_nil];omega
def yor (a0:Character) (i1:Nat) (s1:List UInt8):Except ((List UInt8)) (List UInt8):=
 (bif ((i1:Int) == 0)then .ok (s1++([40]++(zf (a0.Group.getD i1 default))))else .ok (s1++([43]++(zf (a0.Group.getD i1 default)))))
def y5s (a0:Character) (i2:Nat) (s2:List UInt8):Except ((List UInt8)) (List UInt8):=
 (bif ((i2:Int) == 0)then .ok (s2++([40]++(zf (a0.Group.getD i2 default))))else .ok (s2++([43]++(zf (a0.Group.getD i2 default)))))
def zzc (a0:Character):(List UInt8):=
 (bif (a0.Kind == 8)then(match ye (yor a0) (a0.Group.length-0) 0 (((zyc ).getD ((a0.Kind).toNat) default)++(([40]++a0.Letter)++[41]))with|.error e=>e|.ok s1=>(bif decide (0<(a0.Group.length:Int))then(bif ((a0.Letter == [76]) && (a0.Kind != 8))then(bif decide (0<a0.Period)then(((s1++[41])++[43,76,70,108])++([32]++a0.Colors))++([32]++(zvd a0.Period))else((s1++[41])++[43,76,70,108])++([32]++a0.Colors))else(bif decide (0<a0.Period)then((s1++[41])++([32]++a0.Colors))++([32]++(zvd a0.Period))else(s1++[41])++([32]++a0.Colors)))else(bif ((a0.Letter == [76]) && (a0.Kind != 8))then(bif decide (0<a0.Period)then((s1++[43,76,70,108])++([32]++a0.Colors))++([32]++(zvd a0.Period))else(s1++[43,76,70,108])++([32]++a0.Colors))else(bif decide (0<a0.Period)then(s1++([32]++a0.Colors))++([32]++(zvd a0.Period))else s1++([32]++a0.Colors)))))else(match ye (y5s a0) (a0.Group.length-0) 0 ((zyc ).getD ((a0.Kind).toNat) default)with|.error e=>e|.ok s2=>(bif decide (0<(a0.Group.length:Int))then(bif ((a0.Letter == [76]) && (a0.Kind != 8))then(bif decide (0<a0.Period)then(((s2++[41])++[43,76,70,108])++([32]++a0.Colors))++([32]++(zvd a0.Period))else((s2++[41])++[43,76,70,108])++([32]++a0.Colors))else(bif decide (0<a0.Period)then((s2++[41])++([32]++a0.Colors))++([32]++(zvd a0.Period))else(s2++[41])++([32]++a0.Colors)))else(bif ((a0.Letter == [76]) && (a0.Kind != 8))then(bif decide (0<a0.Period)then((s2++[43,76,70,108])++([32]++a0.Colors))++([32]++(zvd a0.Period))else(s2++[43,76,70,108])++([32]++a0.Colors))else(bif decide (0<a0.Period)then(s2++([32]++a0.Colors))++([32]++(zvd a0.Period))else s2++([32]++a0.Colors))))))
namespace N133
theorem DD:DOk Tryz.prog (Go.Ab.DD [(192,dP D_zyc),(193,dP D_zvd),(78,dP D_zf)]):=ya yc7.e <| ya y4y.e <| ya yrf.e <| yc _
theorem DZ:DOk Tryz.prog (Go.Ab.DD [(192,dP Dz_zyc),(193,dP D_zvd),(78,dP D_zf)]):=ya y33.e <| ya y4y.e <| ya yrf.e <| yc _
abbrev dn:=cj @D_zyc.eq_1 <| cj @D_zvd.eq_1 <| cj @D_zf.eq_1 <| @Dz_zyc.eq_1
theorem o0 {p:Prop} (h:p:=by(first|(and_intros<;>(first|omega|((try simp only[List.length_append,List.length_cons,List.length_nil,List.length_singleton]);omega)|(have h9:=hg9 i1;omega)|(have h9:=hg9 i2;omega)|(have h9:=hd9 i1;(try simp only[List.length_append,List.length_cons,List.length_nil,List.length_singleton]);omega)|(have h9:=hd9 i2;(try simp only[List.length_append,List.length_cons,List.length_nil,List.length_singleton]);omega)|exact hp1|((try simp only[List.length_append,List.length_cons,List.length_nil,List.length_singleton]at *);omega))));first|done|fail):p:=h
set_option maxHeartbeats 1000000 in
set_option maxRecDepth 20000 in
theorem den (a0:Character) (hb0:bdCharacter a0) (hp0:a0.Group.length<=4) (hp1:∀ v∈a0.Group,1<=v/\v<=9) (hp2:1<=a0.Kind) (hp3:a0.Kind<=8) (hp4:0<=a0.Period) (hp5:a0.Period<=600):Den Tryz.prog 133 [.ep (yh a0)] (.str (zzc a0)):=by
 generalize hR:zzc a0=r;unfold zzc at hR;refine di Tryz.func133 Tryz.ntmps133 Tryz.results133 ?_;intro c hL hc hk;obtain⟨hL0,_⟩:=hL;have hw0:bwCharacter a0:=yp a0 hL0;clear hL0;simp only[pars,Nat.zero_add];have hg9:∀ i:Nat,0<=a0.Group.getD i default/\a0.Group.getD i default<=9:=fun i=>yvg hp1 i
 have hd9:∀ i:Nat,(zf (a0.Group.getD i default)).length<=11:=fun i=>by have h1:=hg9 i;have h2:=yhd (a0.Group.getD i default) (by omega) (by omega);omega
 have hk9:=ymv a0.Kind.toNat;have hk8:zyc.length=9:=rfl;have hs9:=yo0 a0.Period (by omega) (by omega);have hbL:a0.Letter.length<1099511627776:=hb0.2.1;have hbC:a0.Colors.length<1099511627776:=hb0.2.2;refine rS ?_;refine rZ 7 ?_;refine rS ?_;refine yb ?_ ?_<;>intro hb
 ·replace hR:=ct hR
  iterate 2 refine rS ?_
  refine AWP.block ?_;generalize hz1:ye (yor a0) (a0.Group.length-0) 0 (((zyc ).getD ((a0.Kind).toNat) default)++(([40]++a0.Letter)++[41]))=z1 at hR;refine AWP.range (yor a0) (fun i1 s1=>⟨[(0,.ep (yh a0)),(3,.str s1),(4,.int .i64 (i1:Int))],[]⟩) (fun i1 s1=>s1.length<=9+a0.Letter.length+12 * i1) (a0.Group.length) 0 (((zyc ).getD ((a0.Kind).toNat) default)++(([40]++a0.Letter)++[41])) [] hz1 ot (by((try simp only[List.length_append,List.length_cons,List.length_nil,List.length_singleton]);omega)) sm ?_;clear hz1;intro i1 s1 hi1 hW1 hz1;refine rS ?_;refine yb ?_ ?_<;>intro hb
  ·have hlt1:i1<a0.Group.length:=ot
   rw[yi hlt1]at hz1;simp only[yor]at hz1;iterate 2 refine rS ?_
   refine yb ?_ ?_<;>intro hb
   ·simp only[hb,cond_true]at hz1
    iterate 3 refine rS ?_
    exact⟨_,[],hlt1,by(have h9:=hd9 i1;and_intros<;>first|omega|((try simp only[List.length_append,List.length_cons,List.length_nil,List.length_singleton]);omega)|((try simp only[List.length_append,List.length_cons,List.length_nil,List.length_singleton]at *);omega)),hz1,sm⟩
   ·simp only[hb,cond_false]at hz1
    iterate 2 refine rS ?_
    exact⟨_,[],hlt1,by(have h9:=hd9 i1;and_intros<;>first|omega|((try simp only[List.length_append,List.length_cons,List.length_nil,List.length_singleton]);omega)|((try simp only[List.length_append,List.length_cons,List.length_nil,List.length_singleton]at *);omega)),hz1,sm⟩
  ·obtain rfl:i1=a0.Group.length:=ot
   rw[ybb (Nat.le_refl _)]at hz1;subst hz1;dsimp only at hR;refine AWP.exit ?_;refine yf ?_;refine rS ?_;refine yb ?_ ?_<;>intro hb
   ·replace hR:=ct hR
    iterate 2 refine rS ?_
    refine yb ?_ ?_<;>intro hb
    ·replace hR:=ct hR
     iterate 3 refine rS ?_
     refine yb ?_ ?_<;>intro hb
     ·replace hR:=ct hR
      refine rS ?_;exact retR
     ·replace hR:=cf hR
      exact retR
    ·replace hR:=cf hR
     iterate 2 refine rS ?_
     refine yb ?_ ?_<;>intro hb
     ·replace hR:=ct hR
      refine rS ?_;exact retR
     ·replace hR:=cf hR
      exact retR
   ·replace hR:=cf hR
    refine rS ?_;refine yb ?_ ?_<;>intro hb
    ·replace hR:=ct hR
     iterate 3 refine rS ?_
     refine yb ?_ ?_<;>intro hb
     ·replace hR:=ct hR
      refine rS ?_;exact retR
     ·replace hR:=cf hR
      exact retR
    ·replace hR:=cf hR
     iterate 2 refine rS ?_
     refine yb ?_ ?_<;>intro hb
     ·replace hR:=ct hR
      refine rS ?_;exact retR
     ·replace hR:=cf hR
      exact retR
 ·replace hR:=cf hR
  refine rS ?_;refine AWP.block ?_;generalize hz2:ye (y5s a0) (a0.Group.length-0) 0 ((zyc ).getD ((a0.Kind).toNat) default)=z2 at hR;refine AWP.range (y5s a0) (fun i2 s2=>⟨[(0,.ep (yh a0)),(3,.str s2),(4,.int .i64 (i2:Int))],[]⟩) (fun i2 s2=>s2.length<=9+a0.Letter.length+12 * i2) (a0.Group.length) 0 ((zyc ).getD ((a0.Kind).toNat) default) [] hz2 ot (by((try simp only[List.length_append,List.length_cons,List.length_nil,List.length_singleton]);omega)) sm ?_;clear hz2;intro i2 s2 hi2 hW2 hz2;refine rS ?_;refine yb ?_ ?_<;>intro hb
  ·have hlt2:i2<a0.Group.length:=ot
   rw[yi hlt2]at hz2;simp only[y5s]at hz2;iterate 2 refine rS ?_
   refine yb ?_ ?_<;>intro hb
   ·simp only[hb,cond_true]at hz2
    iterate 3 refine rS ?_
    exact⟨_,[],hlt2,by(have h9:=hd9 i2;and_intros<;>first|omega|((try simp only[List.length_append,List.length_cons,List.length_nil,List.length_singleton]);omega)|((try simp only[List.length_append,List.length_cons,List.length_nil,List.length_singleton]at *);omega)),hz2,sm⟩
   ·simp only[hb,cond_false]at hz2
    iterate 2 refine rS ?_
    exact⟨_,[],hlt2,by(have h9:=hd9 i2;and_intros<;>first|omega|((try simp only[List.length_append,List.length_cons,List.length_nil,List.length_singleton]);omega)|((try simp only[List.length_append,List.length_cons,List.length_nil,List.length_singleton]at *);omega)),hz2,sm⟩
  ·obtain rfl:i2=a0.Group.length:=ot
   rw[ybb (Nat.le_refl _)]at hz2;subst hz2;dsimp only at hR;refine AWP.exit ?_;refine yf ?_;refine rS ?_;refine yb ?_ ?_<;>intro hb
   ·replace hR:=ct hR
    iterate 2 refine rS ?_
    refine yb ?_ ?_<;>intro hb
    ·replace hR:=ct hR
     iterate 3 refine rS ?_
     refine yb ?_ ?_<;>intro hb
     ·replace hR:=ct hR
      refine rS ?_;exact retR
     ·replace hR:=cf hR
      exact retR
    ·replace hR:=cf hR
     iterate 2 refine rS ?_
     refine yb ?_ ?_<;>intro hb
     ·replace hR:=ct hR
      refine rS ?_;exact retR
     ·replace hR:=cf hR
      exact retR
   ·replace hR:=cf hR
    refine rS ?_;refine yb ?_ ?_<;>intro hb
    ·replace hR:=ct hR
     iterate 3 refine rS ?_
     refine yb ?_ ?_<;>intro hb
     ·replace hR:=ct hR
      refine rS ?_;exact retR
     ·replace hR:=cf hR
      exact retR
    ·replace hR:=cf hR
     iterate 2 refine rS ?_
     refine yb ?_ ?_<;>intro hb
     ·replace hR:=ct hR
      refine rS ?_;exact retR
     ·replace hR:=cf hR
      exact retR
end N133
def D_zzc : DF
 | [x0]=>some (.str (zzc (rdP yd x0)),false,[wP yh yd x0,bdCharacter (rdP yd x0),(rdP yd x0).Group.length<=4,∀ v∈(rdP yd x0).Group,1<=v/\v<=9,1<=(rdP yd x0).Kind,(rdP yd x0).Kind<=8,0<=(rdP yd x0).Period,(rdP yd x0).Period<=600])
 | _=>none
theorem y24:OkD Tryz.prog 133 D_zzc:=by unfold D_zzc;exact dk N133.den
def zqd (a0:Character):(List UInt8):=
 (bif (!(zfb a0))then[]else(bif (a0.Period != 0)then(((zfe a0)++[32])++a0.Colors)++(([32]++(zef a0.Period))++[115])else((zfe a0)++[32])++a0.Colors))
namespace N62
theorem DD:DOk Tryz.prog (Go.Ab.DD [(110,dP D_zfb),(114,dP D_zfe),(115,dP D_zef)]):=ya yrq.e <| ya yb7.e <| ya yhx.e <| yc _
abbrev dn:=cj @D_zfb.eq_1 <| cj @D_zfe.eq_1 <| @D_zef.eq_1
theorem o0 {p:Prop} (h:p:=by(first|(have q9 := ‹(!zfb a0)=false›;have q8:zfb a0=true:=(by simpa using q9);have h9:=ywd a0 q8;have h8:=yyt a0 h9.1 h9.2.1;have h7:=yae a0 q8;have h6:=yjw a0.Period (by omega) (by omega);first|(refine⟨hb0,h9.1,h9.2.1,?_,?_⟩<;>first|omega|(simp only[List.length_append,List.length_cons,List.length_nil];omega))|(and_intros<;>first|omega|(simp only[List.length_append,List.length_cons,List.length_nil];omega))));first|done|fail):p:=h
set_option maxHeartbeats 400000 in
set_option maxRecDepth 20000 in
theorem den (a0:Character) (hb0:bdCharacter a0):Den Tryz.prog 62 [.agg (yh a0)] (.str (zqd a0)):=by
 generalize hR:zqd a0=r;unfold zqd at hR;refine di Tryz.func62 Tryz.ntmps62 Tryz.results62 ?_;intro c hL hc hk;obtain⟨hL0,_⟩:=hL;have hw0:bwCharacter a0:=yp a0 hL0;clear hL0;simp only[pars,Nat.zero_add];have hbL:a0.Letter.length<1099511627776:=hb0.2.1;have hbC:a0.Colors.length<1099511627776:=hb0.2.2;iterate 2 refine rS ?_
 refine yb ?_ ?_<;>intro hb
 ·replace hR:=ct hR
  exact retR
 ·replace hR:=cf hR
  refine rD 5 ?_;refine rS ?_;refine yb ?_ ?_<;>intro hb
  ·replace hR:=ct hR
   refine rS ?_;exact retR
  ·replace hR:=cf hR
   exact retR
end N62
def D_zqd : DF
 | [x0]=>some (.str (zqd (rdG yd x0)),false,[wG yh yd x0,bdCharacter (rdG yd x0)])
 | _=>none
theorem y3w:OkD Tryz.prog 62 D_zqd:=by unfold D_zqd;exact dk N62.den
def kt (k:Int):List UInt8:=([[],[70],[79,99],[73,115,111],[70,108],[76,70,108],[81],[86,81],[77,111]]:List (List UInt8)).getD k.toNat []
def grpT (g:List Int):List UInt8:=if g=[]then[]else 40::(Lib.join (g.map Lib.itoa) [43]++[41])
def ypj (c:Character):List UInt8:=
 if c.Kind=8 then kt 8++(40::(c.Letter++[41]))else kt c.Kind++(grpT c.Group++(if c.Letter=[]then[]else[43,76,70,108]))
def secT (n:Int):List UInt8:=if n.tmod 10=0 then Lib.itoa (n / 10)else Lib.itoa (n / 10)++(46::Lib.itoa (n % 10))
def perT (n:Int):List UInt8:=if n=0 then[]else 32::(secT n++[115])
def chrT (c:Character):List UInt8:=ypj c++(32::(c.Colors++perT c.Period))
theorem yhbb (k:Int) (h:1<=k/\k<=8):zbd k=kt k:=by
 rcases(show k=1\/k=2\/k=3\/k=4\/k=5\/k=6\/k=7\/k=8 by omega)with h|h|h|h|h|h|h|h<;>subst h<;>rfl
theorem yq4 (k:Int):zyc.getD k.toNat default=kt k:=rfl
theorem yty (n:Int) (h1:0<=n) (h2:n<=600):zef n=secT n:=by
 unfold zef secT;have hd:n.tdiv 10=n / 10:=Int.tdiv_eq_ediv_of_nonneg h1;have hm:n.tmod 10=n % 10:=Int.tmod_eq_emod_of_nonneg h1;have hw:IntKind.wrap .i64 (n.tdiv 10)=n / 10:=by rw[IntKind.wrap_i64];omega
 rw[hw,hm];by_cases h:n % 10=0
 ·rw[h];rfl
 ·have:(n % 10 == 0)=false:=by rw[beq_eq_false_iff_ne];exact h
  rw[this,if_neg h];simp[yg0]
theorem y14 (n:Int) (h1:0<=n) (h2:n<=600):zvd n=secT n++[115]:=by
 unfold zvd secT;have hd:n.tdiv 10=n / 10:=Int.tdiv_eq_ediv_of_nonneg h1;have hm:n.tmod 10=n % 10:=Int.tmod_eq_emod_of_nonneg h1;have hw:IntKind.wrap .i64 (n.tdiv 10)=n / 10:=by rw[IntKind.wrap_i64];omega
 rw[hw,hm,yoi _ (by omega) (by omega),yoi _ (by omega) (by omega)];by_cases h:n % 10=0
 ·rw[h];rfl
 ·have:(n % 10 == 0)=false:=by rw[beq_eq_false_iff_ne];exact h
  rw[this,if_neg h];simp
theorem yc2 (c:Character) (hk:1<=c.Kind/\c.Kind<=8):zfe c=ypj c:=by
 unfold zfe ypj;rw[yhbb _ hk];by_cases h8:c.Kind=8
 ·rw[h8];simp
 ·have e8:(c.Kind == 8)=false:=by rw[beq_eq_false_iff_ne];exact h8
  rw[e8,if_neg h8];simp only[cond_false];have hl:=y9c (yzo c) (fun j=>[Lib.itoa (c.Group.getD j default)]) c.Group.length 0 [] (fun j s _ _=>rfl);rw[ydi c.Group default Lib.itoa,List.nil_append]at hl;simp only[Nat.sub_zero];rw[hl];unfold grpT;by_cases hg:c.Group=[]
  ·rw[hg]
   by_cases hL:c.Letter=[]
   ·rw[hL];simp
   ·have:(c.Letter != [])=true:=by simpa using hL
    rw[this,if_neg hL];simp
  ·have hpos:0<c.Group.length:=List.length_pos_iff.2 hg
   rw[if_neg hg,decide_eq_true (show 0<(c.Group.length:Int)by omega)];have ej:zsb (c.Group.map Lib.itoa) [43]=Lib.join (c.Group.map Lib.itoa) [43]:=rfl;by_cases hL:c.Letter=[]
   ·rw[hL];simp[ej]
   ·have:(c.Letter != [])=true:=by simpa using hL
    rw[this,if_neg hL];simp[ej]
theorem yei (c:Character) (h:zfb c=true):zqd c=chrT c:=by
 have hk:=ysf c (ywc c h);have hp:=yae c h;have hp2:=(ywd c h).2.2;unfold zqd chrT perT;rw[h,yc2 c hk,yty _ hp hp2];by_cases h0:c.Period=0
 ·rw[h0];simp
 ·have:(c.Period != 0)=true:=by rw[bne_iff_ne];exact h0
  rw[this,if_neg h0];simp
theorem yh4 (x:Int) (r:List Int):(List.range' 1 r.length).flatMap (fun j=>(43:UInt8)::Lib.itoa ((x::r).getD j default))=Lib.joinTail [43] (r.map Lib.itoa):=by
 unfold Lib.joinTail;rw[List.map_map, <- List.flatMap_def]
 have h:(List.range' 1 r.length).flatMap (fun j=>(43:UInt8)::Lib.itoa ((x::r).getD j default))=(List.range' 0 r.length).flatMap (fun j=>(43:UInt8)::Lib.itoa (r.getD j default)):=by
  rw[List.flatMap_def,List.flatMap_def];congr 1
  apply List.ext_getElem
  ·simp
  ·intro i h1 h2
   simp[List.getElem_range',Nat.add_comm 1 i]
 rw[h];rw[List.flatMap_def,List.flatMap_def];congr 1
 apply List.ext_getElem
 ·simp
 ·intro i h1 h2
  simp only[List.length_map]at h2;simp[List.getD_eq_getElem?_getD,h2]
def grp0 (g:List Int):List UInt8:=if g=[]then[]else 40::Lib.join (g.map Lib.itoa) [43]
theorem yjy (c : Character) (h2 : ∀ v ∈ c.Group, 1 <= v /\ v <= 9) (b : Nat -> List UInt8 -> Except (List UInt8) (List UInt8))
  (hb:∀ j s,b j s=bif ((j:Int) == 0)then .ok (s++([40]++(zf (c.Group.getD j default))))else .ok (s++([43]++(zf (c.Group.getD j default))))) (s:List UInt8) :
  ye b (c.Group.length-0) 0 s=.ok (s++grp0 c.Group):=by
 have hl:=y9c b (fun j=>(if j=0 then(40:UInt8)else 43)::Lib.itoa (c.Group.getD j default)) c.Group.length 0 s (fun j s _ _=>by
  have hr:=yvg h2 j;rw[hb,yoi _ (by omega) (by omega)];by_cases h:j=0
  ·subst h;rfl
  ·have:((j:Int) == 0)=false:=by rw[beq_eq_false_iff_ne];omega
   rw[this,if_neg h];rfl)
 rw[Nat.sub_zero,hl];congr 2
 generalize c.Group=g
 cases g with
 | nil=>rfl
 | cons x r=>
  unfold grp0;rw[if_neg (by simp),List.length_cons,List.range'_succ,List.flatMap_cons,List.map_cons,Lib.join_cons]
  have:(List.range' (0+1) r.length).flatMap (fun j=>(if j=0 then(40:UInt8)else 43)::Lib.itoa ((x::r).getD j default))=(List.range' 1 r.length).flatMap (fun j=>(43:UInt8)::Lib.itoa ((x::r).getD j default)):=by
   rw[List.flatMap_def,List.flatMap_def];congr 1
   apply List.map_congr_left;intro j hj;rw[List.mem_range'_1]at hj;rw[if_neg (by omega)]
  rw[this,yh4];simp
theorem yv0 (c:Character) (h:zfb c=true):zzc c=chrT c:=by
 have hf:=ywc c h;have hk:=ysf c hf;have hp:=yae c h;obtain⟨g1,g2,hp2⟩:=ywd c h
 have hsec:∀ s:List UInt8,(bif decide (0<c.Period)then s++([32]++(zvd c.Period))else s)=s++perT c.Period:=by
  intro s;unfold perT;by_cases h0:c.Period=0
  ·rw[h0];simp
  ·rw[decide_eq_true (show 0<c.Period by omega),if_neg h0,y14 _ hp hp2];simp
 unfold zzc chrT ypj;rw[yq4,yjy c g2 (yor c) (fun j s=>rfl),yjy c g2 (y5s c) (fun j s=>rfl)];by_cases h8:c.Kind=8
 ·have hg:c.Group=[]:=by
   unfold znb at hf;rw[h8]at hf;have hf:(((zjc c.Letter) != []) && ((c.Group.length:Int) == 0))=true:=hf;rw[Bool.and_eq_true,beq_iff_eq]at hf;exact List.length_eq_zero_iff.1 (by omega)
  rw[h8,hg];have e1:((8:Int) == 8)=true:=rfl;have e2:((8:Int) != 8)=false:=rfl;have e3:decide (0<((([]:List Int).length:Int)))=false:=rfl;simp only[e1,e2,e3,cond_true,cond_false,Bool.and_false,if_true,grp0,hsec];simp
 ·have e8:(c.Kind == 8)=false:=by rw[beq_eq_false_iff_ne];exact h8
  have e9:(c.Kind != 8)=true:=by rw[bne_iff_ne];exact h8
  have hL:(c.Letter == [76])=(c.Letter != []):=(ydu c hf h8).symm;rw[e8,e9,if_neg h8,hL];simp only[cond_false,Bool.and_true,hsec];by_cases hg:c.Group=[]
  ·rw[hg]
   have e3:decide (0<((([]:List Int).length:Int)))=false:=rfl;simp only[e3,cond_false,grp0,grpT,if_true];by_cases hl:c.Letter=[]
   ·rw[hl];simp
   ·have:(c.Letter != [])=true:=by simpa using hl
    rw[this,if_neg hl];simp
  ·have hpos:0<c.Group.length:=List.length_pos_iff.2 hg
   rw[decide_eq_true (show 0<(c.Group.length:Int)by omega)];simp only[cond_true,grp0,grpT,if_neg hg];by_cases hl:c.Letter=[]
   ·rw[hl];simp
   ·have:(c.Letter != [])=true:=by simpa using hl
    rw[this,if_neg hl];simp
def u8D (k:Nat):UInt8:=UInt8.ofNat (48+k)
theorem ytj {k:Nat} (h:k<10):(u8D k).toNat=48+k:=y5o k h
def pad2 (m:Nat):List UInt8:=[u8D (m / 10),u8D (m % 10)]
def pad4 (y:Nat):List UInt8:=[u8D (y / 1000),u8D (y / 100 % 10),u8D (y / 10 % 10),u8D (y % 10)]
theorem ypd {m:Nat} (h:m<100):yle (pad2 m)/\digV 0 (pad2 m)=m:=by
 have h1:=ytj (k:=m / 10) (by omega);have h2:=ytj (k:=m % 10) (by omega);refine⟨fun b hb => ?_,?_⟩
 ·simp only[pad2,List.mem_cons,List.not_mem_nil,or_false]at hb
  rcases hb with rfl|rfl<;>omega
 ·unfold pad2
  rw[ybc,ybc,yjf,h1,h2];omega
theorem yfi {y:Nat} (h:y<10000):yle (pad4 y)/\digV 0 (pad4 y)=y:=by
 have h1:=ytj (k:=y / 1000) (by omega);have h2:=ytj (k:=y / 100 % 10) (by omega);have h3:=ytj (k:=y / 10 % 10) (by omega);have h4:=ytj (k:=y % 10) (by omega);refine⟨fun b hb => ?_,?_⟩
 ·simp only[pad4,List.mem_cons,List.not_mem_nil,or_false]at hb
  rcases hb with rfl|rfl|rfl|rfl<;>omega
 ·unfold pad4
  rw[ybc,ybc,ybc,ybc,yjf,h1,h2,h3,h4];omega
theorem yv4 {y:Nat} (h1:1000<=y) (h2:y<10000):Lib.decDigits y=pad4 y:=by
 rw[yyb y (by omega),yyb (y / 10) (by omega),yyb (y / 10 / 10) (by omega),Lib.decDigits_one (by omega)];unfold pad4 u8D;rw[show y / 10 / 10 / 10=y / 1000 by omega,show y / 10 / 10 % 10=y / 100 % 10 by omega];rfl
theorem ywm {m:Nat} (h:m<100):zhe (m:Int) 2=pad2 m:=by
 unfold zhe;rw[yg0,y0g];by_cases h10:m<10
 ·rw[Lib.decDigits_one h10]
  unfold pad2 u8D;rw[show m / 10=0 by omega,show m % 10=m by omega];rfl
 ·rw[yyb m h10,Lib.decDigits_one (by omega)]
  rfl
def D10 (y m d:Nat):List UInt8:=pad4 y++45::(pad2 m++45::pad2 d)
theorem yqd {a:Int} (h1:0<=a) (h2:a<=99999):∃ y m d:Nat,zz a=((y:Int),(m:Int),(d:Int))/\2000<=y/\y<=2273/\1<=m/\m<=12/\1<=d/\d<=31/\ylm a y m d/\zdb a=D10 y m d:=by
 obtain⟨y,m,d,e,hy,hd⟩:=yfcb a h1 h2;have hm:=y8n (l:=yib y) hd.2.1 hd.2.2.1;obtain⟨q1,q2,q3,q4,q5,q6⟩:=hd;refine⟨y.toNat,m.toNat,d.toNat,?_,by omega,by omega,by omega,by omega,by omega,by omega,?_,?_⟩
 ·rw[e,show(y.toNat:Int)=y by omega,show(m.toNat:Int)=m by omega,show(d.toNat:Int)=d by omega]
 ·rw[show(y.toNat:Int)=y by omega,show(m.toNat:Int)=m by omega,show(d.toNat:Int)=d by omega]
  exact⟨q1,q2,q3,q4,q5,q6⟩
 ·unfold zdb zgd ze
  simp only[h1,h2,decide_true,Bool.and_self,Bool.not_true,cond_false,e];conv=>lhs;rw[show y=(y.toNat:Int)by omega,show m=(m.toNat:Int)by omega,show d=(d.toNat:Int)by omega]
  rw[yg0,y0g,yv4 (by omega) (by omega),ywm (by omega),ywm (by omega)];unfold D10;simp
theorem yd6 (x:Int):(decide (x<48) || decide (57<x)) = !(decide (48<=x) && decide (x<=57)):=by
 apply Bool.eq_iff_iff.2;simp only[Bool.or_eq_true,decide_eq_true_eq,Bool.not_eq_true',Bool.and_eq_false_iff,decide_eq_false_iff_not];omega
theorem yoh (l:List UInt8) (h:l.length<=18) (h0:l≠[]):zab l=if yle l then(((digV 0 l:Nat):Int),true)else(0,false):=by
 unfold zab
 have hpow:(0+1) * 10 ^ (l.length-0)<=E18:=by
  have:10 ^ (l.length-0)<=10 ^ 18:=Nat.pow_le_pow_right (by decide) (by omega);have h6:(10:Nat) ^ 18=1000000000000000000:=by decide
  unfold E18;omega
 have hL:=ybo l (ymo l) (fun i s=>by
  unfold ymo
  rw[yd6]) (l.length-0) 0 0 (by omega) hpow
 rw[List.drop_zero]at hL;rw[show(0:Int)=((0:Nat):Int)from rfl,hL]
 have hw:ze (l.length:Int) 1 18=true:=by
  have:=List.length_pos_iff.2 h0;unfold ze;simp;omega
 by_cases hA:yle l
 ·rw[if_pos hA,if_pos hA];simp only[hw]
 ·rw[if_neg hA,if_neg hA];rfl
theorem yqdb {y:Int} (h1:2000<=y) (h2:y<=2274):0<=ybD y/\ybD y<=100284:=by unfold ybD;omega
theorem yfdb:∀ (l:Bool) (m:Fin 13),mbD l m<=335:=by decide
theorem ymfb {l:Bool} {m:Nat} (h:m<=12):mbD l m<=335:=yfdb l ⟨m,by omega⟩
theorem yjt (y:Nat) (h1:2000<=y) (h2:y<=2273):zcd y=ybD y:=by
 have L1:=y9g (b:=yen y) (I:=fun i t=>2000<=i/\(i<=2273->t=ybD i)) (fun i s hI=>by
  obtain⟨hI1,hI2⟩:=hI;refine⟨_,rfl,by omega,fun hle => ?_⟩;have hs:=hI2 (by omega);have hb:=yqdb (y:=(i:Int)) (by omega) (by omega);have hn:=yrn (i:Int) (by omega)
  have hyd:ztb (i:Int)=365+(bif yib (i:Int)then 1 else 0):=by
   unfold ztb;rw[y8v (by omega) (by omega)];cases yib (i:Int)<;>rfl
  have hy:=yrk (i:Int);rw[yrc (by omega) (by omega),hyd];push_cast
  omega) (y-2000) 2000 0 ⟨by omega,fun _=>by simp[ybD]⟩
 obtain⟨t,e1,_,q1⟩:=L1;have q1:=q1 (by omega);rw[show 2000+(y-2000)=y by omega]at q1;unfold zcd;rw[Int.toNat_natCast,e1];exact q1
theorem yf4 (y m d:Nat) (h1:2000<=y) (h2:y<=2273) (h3:1<=m) (h4:m<=12) (h5:1<=d) (h6:d<=31):zie y m d=ybD y+mbD (yib y) m+d-1:=by
 have hyb:=yqdb (y:=(y:Int)) (by omega) (by omega)
 have L2:=y9g (b:=yrr y m d) (I:=fun i s=>1<=i/\(i<=12->s=ybD y+d-1+mbD (yib y) i)) (fun i s hI=>by
  obtain⟨hI1,hI2⟩:=hI;refine⟨_,rfl,by omega,fun hle => ?_⟩;have hs:=hI2 (by omega);have hm:=ynl (y:=(y:Int)) (m:=(i:Int)) (by omega) (by omega) (by omega) (by omega);have hsu:=yvv (l:=yib y) (m:=(i:Int)) (by omega) (by omega);have hml:=y8n (l:=yib y) (m:=(i:Int)) (by omega) (by omega);have hbl:=ymfb (l:=yib y) (m:=i) (by omega);rw[show((i:Int)+1).toNat=i+1 by omega,Int.toNat_natCast]at hsu;rw[Int.toNat_natCast]at hm hml;rw[yrc (by omega) (by omega),hm]
  omega) (m-1) 1 (ybD y+d-1) ⟨by omega,fun _=>by rw[yll];simp⟩
 obtain⟨u,e2,_,q2⟩:=L2;have q2:=q2 (by omega);rw[show 1+(m-1)=m by omega]at q2;unfold zie;rw[yjt y h1 h2,yrc (n:=ybD y+(d:Int)) (by omega) (by omega),yrc (by omega) (by omega),Int.toNat_natCast,e2];simp only;omega
def yof (w:List UInt8) (r:Int×Bool):Prop:=
 (∃ a:Int,0<=a/\a<=99999/\w=zdb a/\r=(a,true))\/((∀ a:Int,0<=a->a<=99999->w≠zdb a)/\r=(0,false))
theorem y7bb {y m d y' m' d':Nat} (h1:y<10000) (h2:m<100) (h3:d<100) (h1':y'<10000) (h2':m'<100) (h3':d'<100) (h:D10 y m d=D10 y' m' d'):y=y'/\m=m'/\d=d':=by
 have t1:∀ y m d,(D10 y m d).take 4=pad4 y:=fun _ _ _=>rfl
 have t2:∀ y m d,((D10 y m d).take 7).drop 5=pad2 m:=fun _ _ _=>rfl
 have t3:∀ y m d,(D10 y m d).drop 8=pad2 d:=fun _ _ _=>rfl
 have e1:=congrArg (fun l=>digV 0 (List.take 4 l)) h;have e2:=congrArg (fun l=>digV 0 ((List.take 7 l).drop 5)) h;have e3:=congrArg (fun l=>digV 0 (List.drop 8 l)) h;simp only[t1,t2,t3]at e1 e2 e3;rw[(yfi h1).2,(yfi h1').2]at e1;rw[(ypd h2).2,(ypd h2').2]at e2;rw[(ypd h3).2,(ypd h3').2]at e3;exact⟨e1,e2,e3⟩
theorem ygk {a a':Int} (h1:0<=a) (h2:a<=99999) (h1':0<=a') (h2':a'<=99999) (h:zdb a=zdb a'):a=a':=by
 obtain⟨y,m,d,_,_,_,_,_,_,_,hd,e⟩:=yqd h1 h2;obtain⟨y',m',d',_,_,_,_,_,_,_,hd',e'⟩:=yqd h1' h2';rw[e,e']at h;obtain⟨rfl,rfl,rfl⟩:=y7bb (by omega) (by omega) (by omega) (by omega) (by omega) (by omega) h;have q:=hd.2.2.2.2.2;have q':=hd'.2.2.2.2.2;omega
theorem yof.unique {w:List UInt8} {r r':Int×Bool} (h:yof w r) (h':yof w r'):r=r':=by
 rcases h with⟨n,h0,h1,h2,rfl⟩|⟨h1,rfl⟩<;>rcases h' with⟨n',h0',h1',h2',rfl⟩|⟨h1',rfl⟩
 ·rw[ygk h0 h1 h0' h1' (h2.symm.trans h2')]
 ·exact absurd h2 (h1' n h0 h1)
 ·exact absurd h2' (h1 n' h0' h1')
 ·rfl
theorem yof.of {w:List UInt8} {r:Int×Bool} (h1:r=(0,false)\/∃ a:Int,0<=a/\a<=99999/\w=zdb a) (h2:∀ a:Int,0<=a->a<=99999->w=zdb a->r=(a,true)):yof w r:=by
 by_cases h:∃ a:Int,0<=a/\a<=99999/\w=zdb a
 ·obtain⟨a,q1,q2,q3⟩:=h
  exact .inl ⟨a,q1,q2,q3,h2 a q1 q2 q3⟩
 ·refine .inr ⟨fun a q1 q2 q3=>h ⟨a,q1,q2,q3⟩,?_⟩
  rcases h1 with h1|h1
  ·exact h1
  ·exact absurd h1 h
theorem y16 {a:Int} {y m d:Nat} (h1:0<=a) (h2:a<=99999) (hd:ylm a y m d):zrd y m d=(a,0):=by
 obtain⟨q1,q2,q3,q4,q5,q6⟩:=hd;have hle:=y8n (l:=yib y) q2 q3;have hy:=ykn (y:=(y:Int)) (by omega);have hm:=ynl (y:=(y:Int)) (m:=(m:Int)) q1 hy q2 q3;have hn:=yf4 y m d (by omega) (by omega) (by omega) (by omega) (by omega) (by omega);rw[Int.toNat_natCast]at q6;have e:zie y m d=a:=by omega
 have hg:((((!(zte (y:Int))) || (!(zig (m:Int)))) || (!(ze (d:Int) 1 (zhb y m)))) || (!(zgd (zie y m d))))=false:=by
  rw[e];simp only[zte,zig,zgd,ze,Bool.or_eq_false_iff,Bool.not_eq_false',Bool.and_eq_true,decide_eq_true_eq];omega
 unfold zrd;rw[hg,cond_false,e]
theorem y87 (y m d:Int) (h:(zrd y m d).2=0):0<=(zrd y m d).1/\(zrd y m d).1<=99999:=by
 unfold zrd at h ⊢
 cases hg:((((!(zte y)) || (!(zig m))) || (!(ze d 1 (zhb y m)))) || (!(zgd (zie y m d))))with
 | true=>rw[hg]at h;simp at h
 | false=>
  rw[cond_false];simp only[Bool.or_eq_false_iff,Bool.not_eq_false',zgd,ze,Bool.and_eq_true,decide_eq_true_eq]at hg;exact hg.2
theorem ynq (w:List UInt8) (hw:w.length<=1048576):yof w (zff w):=by
 refine yof.of ?_ ?_
 ·unfold zff
  cases hl:(((zb w [45]).length:Int) != 3)with
  | true=>left;rfl
  | false=>
   rw[cond_false];have hok:=y87 ((zab ((zb w [45]).getD 0 default)).1) ((zab ((zb w [45]).getD 1 default)).1) ((zab ((zb w [45]).getD 2 default)).1);generalize zrd ((zab ((zb w [45]).getD 0 default)).1) ((zab ((zb w [45]).getD 1 default)).1) ((zab ((zb w [45]).getD 2 default)).1)=q at hok ⊢
   cases hc:(((((!((zab ((zb w [45]).getD 0 default)).2)) || (!((zab ((zb w [45]).getD 1 default)).2))) || (!((zab ((zb w [45]).getD 2 default)).2))) || (q.2 != 0)) || ((zdb q.1) != w))with
   | true=>left;rfl
   | false=>
    right
    rw[Bool.or_eq_false_iff,Bool.or_eq_false_iff]at hc;obtain⟨⟨_,hq⟩,ht⟩:=hc;have hq:q.2=0:=by simpa using hq
    have ht:zdb q.1=w:=by simpa using ht
    exact⟨q.1,(hok hq).1,(hok hq).2,ht.symm⟩
 ·rintro a h1 h2 rfl
  obtain⟨y,m,d,_,hy1,hy2,hm1,hm2,hd1,hd2,hD,e⟩:=yqd h1 h2;have e45:∀ l:List UInt8,yle l->(45:UInt8)∉l:=fun l h hm=>by have:=h 45 hm;simp at this
  obtain⟨p1,p2⟩:=yfi (y:=y) (by omega);obtain⟨p3,p4⟩:=ypd (m:=m) (by omega);obtain⟨p5,p6⟩:=ypd (m:=d) (by omega)
  have hs:zb (D10 y m d) [45]=[pad4 y,pad2 m,pad2 d]:=by
   unfold zb D10;show yq 45 _=_;rw[y9 _ _ _ (e45 _ p1),y9 _ _ _ (e45 _ p3),yld _ _ (e45 _ p5)]
  have hr:zff (D10 y m d)=(bif zdb a != D10 y m d then(0,false)else(a,true)):=by
   unfold zff;rw[hs];show(bif (((((!((zab (pad4 y)).2)) || (!((zab (pad2 m)).2))) || (!((zab (pad2 d)).2))) || (((zrd ((zab (pad4 y)).1) ((zab (pad2 m)).1) ((zab (pad2 d)).1)).2) != 0)) || ((zdb ((zrd ((zab (pad4 y)).1) ((zab (pad2 m)).1) ((zab (pad2 d)).1)).1)) != D10 y m d))then(0,false)else((zrd ((zab (pad4 y)).1) ((zab (pad2 m)).1) ((zab (pad2 d)).1)).1,true))=_;rw[yoh _ (by simp[pad4]) (by simp[pad4]),yoh _ (by simp[pad2]) (by simp[pad2]),yoh _ (by simp[pad2]) (by simp[pad2]),if_pos p1,if_pos p3,if_pos p5,p2,p4,p6];simp only;rw[y16 h1 h2 hD];simp
  rw[e,hr,e];simp
def joinC (c : UInt8) : List (List UInt8) -> List UInt8
 | []=>[]
 | [x]=>x
 | x::y::r=>x++c::joinC c (y::r)
theorem y1o (c : UInt8) : ∀ l, joinC c (yq c l) = l
 | []=>rfl
 | b::l=>by
  have ih:=y1o c l;simp only[yq];split
  ·rename_i h
   obtain⟨x,r,e⟩:=List.exists_cons_of_ne_nil (y1t c l);rw[e]at ih ⊢;simp only[joinC,List.nil_append];rw[ih,h]
  ·obtain⟨x,r,e⟩:=List.exists_cons_of_ne_nil (y1t c l)
   rw[e]at ih ⊢;simp only
   cases r with
   | nil=>simp only[joinC]at ih ⊢;rw[ih]
   | cons y r=>simp only[joinC,List.cons_append]at ih ⊢;rw[ih]
theorem yhn {a:Int} (h1:0<=a) (h2:a<=99999):(32:UInt8)∉zdb a/\zdb a≠[]/\(zdb a).length<=1048576:=by
 obtain⟨y,m,d,_,_,_,_,_,_,_,_,e⟩:=yqd h1 h2;obtain⟨p1,_⟩:=yfi (y:=y) (by omega);obtain⟨p3,_⟩:=ypd (m:=m) (by omega);obtain⟨p5,_⟩:=ypd (m:=d) (by omega);rw[e];refine⟨fun hm => ?_,by simp[D10,pad4],by simp[D10,pad4,pad2]⟩;unfold D10 at hm;simp only[List.mem_append,List.mem_cons]at hm;rcases hm with hm|hm|hm|hm|hm
 ·have:=p1 32 hm;simp at this
 ·simp at hm
 ·have:=p3 32 hm;simp at this
 ·simp at hm
 ·have:=p5 32 hm;simp at this
theorem ymg (n:Int):(32:UInt8)∉Lib.itoa n/\Lib.itoa n≠[]:=by
 obtain⟨d1,_,d3,_⟩:=yxb n.natAbs;by_cases h:n<0
 ·rw[ybd h]
  refine⟨fun hm => ?_,by simp⟩;rcases List.mem_cons.1 hm with hm|hm
  ·simp at hm
  ·have:=d1 32 hm;simp at this
 ·rw[y3f h]
  exact⟨fun hm=>by have:=d1 32 hm;simp at this,d3⟩
theorem yxd {n:Int} (h:0<=n) (b:UInt8) (hb:b.toNat<48\/57<b.toNat):b∉Lib.itoa n:=by
 obtain⟨d1,_,_,_⟩:=yxb n.natAbs;rw[y3f (by omega)];intro hm;have:=d1 b hm;omega
theorem yqe {n:Int} (h1:0<=n) (h2:n<=1000000):y8b (Lib.itoa n)=(n,true):=by
 rcases yjg (Lib.itoa n)with⟨m,hm,he,hr⟩|⟨hn,_⟩
 ·rw[hr,yml he]
 ·exact absurd rfl (hn n (by unfold E18;omega))
theorem y91 (b : UInt8) (hb : b ≠ 43) : ∀ (xs : List (List UInt8)), (∀ x ∈ xs, b ∉ x) -> b ∉ Lib.join xs [43]
 | [],_=>by simp[Lib.join_nil]
 | x::r,h=>by
  rw[Lib.join_cons];intro hm;rcases List.mem_append.1 hm with hm|hm
  ·exact h x (by simp) hm
  ·unfold Lib.joinTail at hm
   rw[List.mem_flatten]at hm;obtain⟨l,hl,hbl⟩:=hm;obtain⟨y,hy,rfl⟩:=List.mem_map.1 hl;rcases List.mem_append.1 hbl with h9|h9
   ·rw[List.mem_singleton]at h9;exact hb h9
   ·exact h y (by simp[hy]) h9
theorem ykj (b : UInt8) : ∀ (x : List UInt8) (r : List (List UInt8)), b ∉ x -> (∀ y ∈ r, b ∉ y) -> yq b (x ++ Lib.joinTail [b] r) = x :: r
 | x,[],hx,_=>by simp[Lib.joinTail,yld b x hx]
 | x,y::r,hx,hr=>by
  have e:Lib.joinTail [b] (y::r)=b::(y++Lib.joinTail [b] r):=by simp[Lib.joinTail]
  rw[e,y9 b x _ hx,ykj b y r (hr y (by simp)) (fun z hz=>hr z (by simp[hz]))]
theorem yhs (g:List Int) (hg:g≠[]) (h2:∀ v∈g,1<=v/\v<=9):yq 43 (Lib.join (g.map Lib.itoa) [43])=g.map Lib.itoa:=by
 cases g with
 | nil=>exact absurd rfl hg
 | cons x r=>
  rw[List.map_cons,Lib.join_cons];refine ykj 43 _ _ (yxd (by have:=h2 x (by simp);omega) 43 (by decide)) ?_;intro y hy;obtain⟨z,hz,rfl⟩:=List.mem_map.1 hy;exact yxd (by have:=h2 z (by simp[hz]);omega) 43 (by decide)
theorem ypeb (k:Int) (h:1<=k/\k<=8):(40:UInt8)∉kt k/\(32:UInt8)∉kt k:=by
 rcases(show k=1\/k=2\/k=3\/k=4\/k=5\/k=6\/k=7\/k=8 by omega)with h|h|h|h|h|h|h|h<;>subst h<;>decide
theorem y96 (n:Int) (h1:0<n) (h2:n<=600):zgf (secT n)=(n,true):=by
 have hm:n.tmod 10=n % 10:=Int.tmod_eq_emod_of_nonneg (by omega)
 have z0:Lib.itoa 0=[48]:=by
  rw[y3f (by omega)];first|rfl|decide|(rw[show(0:Int).natAbs=0 from rfl,Lib.decDigits];rfl)
 have e0:zl [48]=(0,true):=by
  have:=yqe (n:=0) (by omega) (by omega);rw[z0]at this;exact this
 have e1:zl (Lib.itoa (n / 10))=(n / 10,true):=yqe (by omega) (by omega);have hst:=yty n (by omega) h2;have hcut:∀ s,zd s [46]=Lib.cut s [46]:=fun s=>rfl
 unfold zgf;simp only[hcut];have hw:∀ m:Int,0<=m->m<=100000->IntKind.wrap .i64 m=m:=fun m _ _=>by rw[IntKind.wrap_i64];omega
 by_cases h:n.tmod 10=0
 ·have hs:secT n=Lib.itoa (n / 10):=by unfold secT;rw[if_pos h]
  rw[hs]at hst ⊢;rw[yvq _ 46 (yxd (by omega) 46 (by decide))];simp only[Bool.not_false,cond_true];rw[e0,e1];simp only;rw[hw (10 * (n / 10)) (by omega) (by omega),hw (10 * (n / 10)+0) (by omega) (by omega),show 10 * (n / 10)+0=n by omega,hst];have w1:ze (n / 10) 0 1200=true:=by unfold ze;rw[decide_eq_true (by omega),decide_eq_true (by omega)];rfl
  rw[w1];simp[ze]
 ·have hs:secT n=Lib.itoa (n / 10)++(46::Lib.itoa (n % 10)):=by unfold secT;rw[if_neg h]
  have e2:zl (Lib.itoa (n % 10))=(n % 10,true):=yqe (by omega) (by omega);rw[hs]at hst ⊢;rw[y7f _ _ 46 (yxd (by omega) 46 (by decide))];simp only[Bool.not_true,cond_false];rw[e1,e2];simp only;rw[hw (10 * (n / 10)) (by omega) (by omega),hw (10 * (n / 10)+n % 10) (by omega) (by omega),show 10 * (n / 10)+n % 10=n by omega,hst];have w1:ze (n / 10) 0 1200=true:=by unfold ze;rw[decide_eq_true (by omega),decide_eq_true (by omega)];rfl
  have w2:ze (n % 10) 0 9=true:=by unfold ze;rw[decide_eq_true (by omega),decide_eq_true (by omega)];rfl
  rw[w1,w2];simp
theorem yew (a b:List UInt8):zg a b=(Lib.trimSuffix a b,Lib.hasSuffix a b):=rfl
theorem y7v (a b:List UInt8):zd a b=Lib.cut a b:=rfl
theorem ykq (k : Int) (hk : 1 <= k /\ k <= 8) (b : Int × Int -> Except (Sum (Character × Bool) (Int × Int)) (Int × Int))
  (hb:∀ s,b s=(bif decide (s.1<=8)then(bif ((zbd s.1) == kt k)then .ok (IntKind.wrap .i64 (s.1+1),s.1)else .ok (IntKind.wrap .i64 (s.1+1),s.2))else .error (.inr (s.1,s.2)))) :
  yab b (((9-(1:Int)).toNat)+1) (1,0)=.error (.inr (9,k)):=by
 have e:b=fun s=>(bif decide (s.1<=8)then(bif ((zbd s.1) == kt k)then .ok (IntKind.wrap .i64 (s.1+1),s.1)else .ok (IntKind.wrap .i64 (s.1+1),s.2))else .error (.inr (s.1,s.2))):=funext hb
 rw[e];rcases(show k=1\/k=2\/k=3\/k=4\/k=5\/k=6\/k=7\/k=8 by omega)with h|h|h|h|h|h|h|h<;>subst h<;>rfl
theorem y0eb {ρ : Type} (g : List Int) (h2 : ∀ v ∈ g, 1 <= v /\ v <= 9) (r : Nat -> List Int -> ρ) (b : Nat -> List Int -> Except ρ (List Int))
  (hb:∀ i s,b i s=(bif (!(zl ((g.map Lib.itoa).getD i default)).2)then .error (r i s)else .ok (s++([(zl ((g.map Lib.itoa).getD i default)).1]:List Int)))) :
  ye b ((g.map Lib.itoa).length-0) 0 []=.ok g:=by
 rw[List.length_map,Nat.sub_zero]
 rw[y9c b (fun j=>[id (g.getD j default)]) g.length 0 [] (fun j s _ hj=>by
  have hj2:j<g.length:=by omega
  have e:(g.map Lib.itoa).getD j default=Lib.itoa (g.getD j default):=by
   rw[List.getD_eq_getElem?_getD,List.getD_eq_getElem?_getD,List.getElem?_map,List.getElem?_eq_getElem hj2];rfl
  have hr:=yvg h2 j;have e2:zl (Lib.itoa (g.getD j default))=(g.getD j default,true):=yqe (by omega) (by omega)
  rw[hb,e,e2];rfl),ydi g default id]
 simp
theorem ypab (c:Character) (h:znb c=true) (h8:c.Kind≠8) (hL:c.Letter≠[]):c.Letter=[76]/\c.Group=[6]:=by
 unfold znb at h;simp only[Bool.cond_eq_ite]at h;repeat' split at h
 all_goals (try simp only[Bool.and_eq_true,Bool.or_eq_true,beq_iff_eq,y6f,decide_eq_true_eq]at *)
 all_goals first
  | (exact absurd h.2 hL;done)
  | (exact absurd h.1 hL;done)
  | (exact h)
  | (rename_i q;exact absurd q hL)
  | (rename_i q;exact absurd q h8)
  | (cases h;done)
theorem y7r (c:Character) (h:znb c=true) (h8:c.Kind=8):c.Group=[]/\c.Letter.length=1/\65<=(c.Letter.getD 0 0).toNat/\(c.Letter.getD 0 0).toNat<=90:=by
 unfold znb at h;rw[h8]at h;have h:(((zjc c.Letter) != []) && ((c.Group.length:Int) == 0))=true:=h;rw[Bool.and_eq_true,beq_iff_eq,ypp,decide_eq_true_eq]at h;exact⟨List.length_eq_zero_iff.1 (by omega),h.1⟩
theorem yxt (k:Int) (h:1<=k/\k<=8):Lib.hasSuffix (kt k) [43,76,70,108]=false:=by
 rcases(show k=1\/k=2\/k=3\/k=4\/k=5\/k=6\/k=7\/k=8 by omega)with h|h|h|h|h|h|h|h<;>subst h<;>decide
theorem yil (x:List UInt8):Lib.hasSuffix (x++[41]) [43,76,70,108]=false:=yyn x [43,76,70] 41 108 (by decide)
theorem ye3 (c:Character) (h:znb c=true):zo (ypj c)=({ Kind:=c.Kind,Group:=c.Group,Letter:=c.Letter,Colors:=[],Period:=0:Character },true):=by
 have hk:=ysf c h;obtain⟨g1,g2⟩:=yff c h;have h40:=(ypeb c.Kind hk).1;unfold ypj;by_cases h8:c.Kind=8
 ·obtain⟨f1,f2⟩:=y7r c h h8
  rw[if_pos h8,f1,h8];have eH:kt 8++40::(c.Letter++[41])=(kt 8++40::c.Letter)++[41]:=by simp
  have c1:zg (kt 8++40::(c.Letter++[41])) [43,76,70,108]=(kt 8++40::(c.Letter++[41]),false):=by
   rw[yew,eH,yil,yvf _ _ (yil _)]
  have c2:zd (kt 8++40::(c.Letter++[41])) [40]=(kt 8,c.Letter++[41],true):=by rw[y7v,y7f _ _ 40 (by decide)]
  have c3:zg (c.Letter++[41]) [41]=(c.Letter,true):=by rw[yew,yzc,yad]
  have hw:=ykq 8 (by omega) (y2m (kt 8++40::(c.Letter++[41]))) (fun s=>by unfold y2m;rw[c1];simp only;rw[c2]);unfold zo;rw[c1];simp only;rw[c2];simp only;rw[c3,hw];rfl
 ·rw[if_neg h8]
  have e8:(c.Kind == 8)=false:=by rw[beq_eq_false_iff_ne];exact h8
  by_cases hL:c.Letter=[]
  ·rw[if_pos hL,List.append_nil,hL]
   by_cases hg:c.Group=[]
   ·have eg:grpT c.Group=[]:=by rw[hg];rfl
    rw[eg,List.append_nil,hg]
    have c1:zg (kt c.Kind) [43,76,70,108]=(kt c.Kind,false):=by
     rw[yew,yxt _ hk,yvf _ _ (yxt _ hk)]
    have c2:zd (kt c.Kind) [40]=(kt c.Kind,[],false):=by rw[y7v,yvq _ 40 h40]
    have hw:=ykq c.Kind hk (y2m (kt c.Kind)) (fun s=>by unfold y2m;rw[c1];simp only;rw[c2]);unfold zo;rw[c1];simp only;rw[c2,hw];rfl
   ·have eg:grpT c.Group=40::(Lib.join (c.Group.map Lib.itoa) [43]++[41]):=by unfold grpT;rw[if_neg hg]
    rw[eg];generalize hJ:Lib.join (c.Group.map Lib.itoa) [43]=J;have eH:kt c.Kind++40::(J++[41])=(kt c.Kind++40::J)++[41]:=by simp
    have c1:zg (kt c.Kind++40::(J++[41])) [43,76,70,108]=(kt c.Kind++40::(J++[41]),false):=by
     rw[yew,eH,yil,yvf _ _ (yil _)]
    have c2:zd (kt c.Kind++40::(J++[41])) [40]=(kt c.Kind,J++[41],true):=by rw[y7v,y7f _ _ 40 h40]
    have c3:zg (J++[41]) [41]=(J,true):=by rw[yew,yzc,yad]
    have c4:zb J [43]=c.Group.map Lib.itoa:=by
     show yq 43 J=_;rw[<- hJ];exact yhs _ hg g2
    have hw:=ykq c.Kind hk (y2m (kt c.Kind++40::(J++[41]))) (fun s=>by unfold y2m;rw[c1];simp only;rw[c2]);have hg4:∀ s,ye (yxu (kt c.Kind++40::(J++[41])) s) ((c.Group.map Lib.itoa).length-0) 0 []=.ok c.Group:=fun s=>y0eb c.Group g2 (fun _ _=>({ Kind:=0,Group:=[],Letter:=[],Colors:=[],Period:=0:Character },false)) _ (fun i t=>by unfold yxu;rw[c1];simp only;rw[c2];simp only;rw[c3];simp only;rw[c4])
    unfold zo;rw[c1];simp only;rw[c2];simp only;rw[c3];simp only;rw[c4,hw];simp only[hg4,e8,cond_false,Bool.not_true]
  ·obtain⟨l1,l2⟩:=ypab c h h8 hL
   rw[if_neg hL];have hg:c.Group≠[]:=by rw[l2];simp
   have eg:grpT c.Group=40::(Lib.join (c.Group.map Lib.itoa) [43]++[41]):=by unfold grpT;rw[if_neg hg]
   rw[eg];generalize hJ:Lib.join (c.Group.map Lib.itoa) [43]=J;have eH:kt c.Kind++(40::(J++[41])++[43,76,70,108])=(kt c.Kind++40::(J++[41]))++[43,76,70,108]:=by simp
   rw[eH,l1]
   have c1:zg ((kt c.Kind++40::(J++[41]))++[43,76,70,108]) [43,76,70,108]=(kt c.Kind++40::(J++[41]),true):=by
    rw[yew,yzc,yad]
   have c2:zd (kt c.Kind++40::(J++[41])) [40]=(kt c.Kind,J++[41],true):=by rw[y7v,y7f _ _ 40 h40]
   have c3:zg (J++[41]) [41]=(J,true):=by rw[yew,yzc,yad]
   have c4:zb J [43]=c.Group.map Lib.itoa:=by
    show yq 43 J=_;rw[<- hJ];exact yhs _ hg g2
   have hw:=ykq c.Kind hk (y0u ((kt c.Kind++40::(J++[41]))++[43,76,70,108])) (fun s=>by unfold y0u;rw[c1];simp only;rw[c2]);have hg4:∀ s,ye (y1v ((kt c.Kind++40::(J++[41]))++[43,76,70,108]) s) ((c.Group.map Lib.itoa).length-0) 0 []=.ok c.Group:=fun s=>y0eb c.Group g2 (fun _ _=>({ Kind:=0,Group:=[],Letter:=[],Colors:=[],Period:=0:Character },false)) _ (fun i t=>by unfold y1v;rw[c1];simp only;rw[c2];simp only;rw[c3];simp only;rw[c4])
   unfold zo;rw[c1];simp only;rw[c2];simp only;rw[c3];simp only;rw[c4,hw];simp only[hg4,e8,cond_false,cond_true,Bool.not_true]
def zag (a0:Point):(List UInt8):=
 (bif (!(zyd a0))then[]else((zh a0.X)++[44])++(zh a0.Y))
namespace N63
theorem DD:DOk Tryz.prog (Go.Ab.DD [(59,dP D_zh),(95,dP D_zyd)]):=ya ygf.e <| ya ydq.e <| yc _
abbrev dn:=cj @D_zh.eq_1 <| @D_zyd.eq_1
theorem gr {p:Prop} (h:p:=by(grind [y0c]);first|done|fail):p:=h
theorem o0 {p:Prop} (h:p:=by(first|(have h9:=ybcb (p:=a0) (by assumption);have l1:=y0c a0.X;have l2:=y0c a0.Y;(repeat' with_reducible apply And.intro)<;>(first|omega|assumption|(simp only[List.length_append,List.length_cons,List.length_nil,List.length_singleton];omega)|(refine Nat.le_trans (yfe _ _) ?_;simp only[jl,List.length_cons,List.length_nil];omega))));first|done|fail):p:=h
set_option maxHeartbeats 1000000 in
set_option maxRecDepth 20000 in
theorem den (a0:Point)  : Den Tryz.prog 63 [.agg (y8e a0)] (.str (zag a0)):=by
 generalize hR:zag a0=r;unfold zag at hR;refine di Tryz.func63 Tryz.ntmps63 Tryz.results63 ?_;intro c hL hc hk;clear hL;simp only[pars,Nat.zero_add];iterate 2 refine rS ?_
 refine yb ?_ ?_<;>intro hb
 ·replace hR:=ct hR
  exact retR
 ·replace hR:=cf hR
  refine rD 7 ?_;exact retE
end N63
def D_zag : DF
 | [x0]=>some (.str (zag (rdG ykh x0)),false,[wG y8e ykh x0])
 | _=>none
theorem y76:OkD Tryz.prog 63 D_zag:=by unfold D_zag;exact dk N63.den
def zgg (a0:Point):(List UInt8):=
 ((zf a0.X)++[44])++(zf a0.Y)
namespace N134
theorem DD:DOk Tryz.prog (Go.Ab.DD [(78,dP D_zf)]):=ya yrf.e <| yc _
abbrev dn:=@D_zf.eq_1
theorem o0 {p:Prop} (h:p:=by(first|((repeat' with_reducible apply And.intro)<;>(first|omega|assumption|(simp only[List.length_append,List.length_cons,List.length_nil,List.length_singleton];omega)|(refine Nat.le_trans (yfe _ _) ?_;simp only[jl,List.length_cons,List.length_nil];omega))));first|done|fail):p:=h
set_option maxHeartbeats 1000000 in
set_option maxRecDepth 20000 in
theorem den (a0:Point) (hp0:zvc a0=true):Den Tryz.prog 134 [.agg (y8e a0)] (.str (zgg a0)):=by
 generalize hR:zgg a0=r;unfold zgg at hR;refine di Tryz.func134 Tryz.ntmps134 Tryz.results134 ?_;intro c hL hc hk;clear hL;simp only[pars,Nat.zero_add];have h9:=yas hp0;have l1:=yhd a0.X (by omega) (by omega);have l2:=yhd a0.Y (by omega) (by omega);refine rS ?_;refine rD 7 ?_;exact retE
end N134
def D_zgg : DF
 | [x0]=>some (.str (zgg (rdG ykh x0)),false,[wG y8e ykh x0,zvc (rdG ykh x0)=true])
 | _=>none
theorem yr9:OkD Tryz.prog 134 D_zgg:=by unfold D_zgg;exact dk N134.den
def zwb (a0:Mark):(List UInt8):=
 (bif (!(zod a0))then[]else(bif (a0.Kind == 0)then(zae 0)else(bif (a0.Topmark == [])then(zsb [(zae a0.Kind),a0.Colors,a0.Shape,[45]] [32])else(zsb [(zae a0.Kind),a0.Colors,a0.Shape,a0.Topmark] [32]))))
namespace N64
theorem DD:DOk Tryz.prog (Go.Ab.DD [(116,dP D_zae),(58,dP D_zsb),(97,dP D_zod)]):=ya ydr.e <| ya y6i.e <| ya yzp.e <| yc _
abbrev dn:=cj @D_zae.eq_1 <| cj @D_zsb.eq_1 <| @D_zod.eq_1
theorem o0 {p:Prop} (h:p:=by(first|(have h9:=yi4 (m:=a0) (by assumption);have l1:=y83 a0.Kind;(repeat' with_reducible apply And.intro)<;>(first|omega|assumption|(simp only[List.length_append,List.length_cons,List.length_nil,List.length_singleton];omega)|(refine Nat.le_trans (yfe _ _) ?_;simp only[jl,List.length_cons,List.length_nil];omega))));first|done|fail):p:=h
theorem lx {p:Prop} (h:p:=by(exact lxx);first|done|fail):p:=h
set_option maxHeartbeats 1000000 in
set_option maxRecDepth 20000 in
theorem den (a0:Mark) (hb0:bdMark a0):Den Tryz.prog 64 [.agg (yuf a0)] (.str (zwb a0)):=by
 generalize hR:zwb a0=r;unfold zwb at hR;refine di Tryz.func64 Tryz.ntmps64 Tryz.results64 ?_;intro c hL hc hk;obtain⟨hL0,_⟩:=hL;have hw0:bwMark a0:=y3e a0 hL0;clear hL0;simp only[pars,Nat.zero_add];iterate 2 refine rS ?_
 refine yb ?_ ?_<;>intro hb
 ·replace hR:=ct hR
  exact retR
 ·replace hR:=cf hR
  refine rS ?_;refine yb ?_ ?_<;>intro hb
  ·replace hR:=ct hR
   exact retR
  ·replace hR:=cf hR
   iterate 2 refine rS ?_
   refine yb ?_ ?_<;>intro hb
   ·replace hR:=ct hR
    refine rS ?_;refine rD 8 ?_;exact retE
   ·replace hR:=cf hR
    refine rD 8 ?_;exact retE
end N64
def D_zwb : DF
 | [x0]=>some (.str (zwb (rdG y2f x0)),false,[wG yuf y2f x0,bdMark (rdG y2f x0)])
 | _=>none
theorem yvw:OkD Tryz.prog 64 D_zwb:=by unfold D_zwb;exact dk N64.den
def zph (a0:Mark):(List UInt8):=
 (bif (a0.Kind == 0)then[110,111,110,101]else(bif (a0.Topmark == [])then(((((((zce ).getD ((a0.Kind).toNat) default)++[32])++a0.Colors)++[32])++a0.Shape)++[32])++[45]else(((((((zce ).getD ((a0.Kind).toNat) default)++[32])++a0.Colors)++[32])++a0.Shape)++[32])++a0.Topmark))
namespace N195
theorem DD:DOk Tryz.prog (Go.Ab.DD [(246,dP D_zce)]):=ya yy5.e <| yc _
theorem DZ:DOk Tryz.prog (Go.Ab.DD [(246,dP Dz_zce)]):=ya yk3.e <| yc _
abbrev dn:=cj @D_zce.eq_1 <| @Dz_zce.eq_1
theorem o0 {p:Prop} (h:p:=by(first|((repeat' with_reducible apply And.intro)<;>(first|omega|assumption|(simp only[List.length_append,List.length_cons,List.length_nil,List.length_singleton];omega)|(refine Nat.le_trans (yfe _ _) ?_;simp only[jl,List.length_cons,List.length_nil];omega))));first|done|fail):p:=h
set_option maxHeartbeats 1000000 in
set_option maxRecDepth 20000 in
theorem den (a0:Mark) (hb0:bdMark a0) (hp0:zub a0=true):Den Tryz.prog 195 [.ep (yuf a0)] (.str (zph a0)):=by
 generalize hR:zph a0=r;unfold zph at hR;refine di Tryz.func195 Tryz.ntmps195 Tryz.results195 ?_;intro c hL hc hk;obtain⟨hL0,_⟩:=hL;have hw0:bwMark a0:=y3e a0 hL0;clear hL0;simp only[pars,Nat.zero_add];have h9:=ywg (m:=a0) hp0;have hn:=y46 a0.Kind.toNat;have hn2:zce.length=10:=rfl;iterate 2 refine rS ?_
 refine yb ?_ ?_<;>intro hb
 ·replace hR:=ct hR
  exact retR
 ·replace hR:=cf hR
  iterate 2 refine rS ?_
  refine yb ?_ ?_<;>intro hb
  ·replace hR:=ct hR
   refine rS ?_;refine rZ 22 ?_;exact retE
  ·replace hR:=cf hR
   refine rZ 22 ?_;exact retE
end N195
def D_zph : DF
 | [x0]=>some (.str (zph (rdP y2f x0)),false,[wP yuf y2f x0,bdMark (rdP y2f x0),zub (rdP y2f x0)=true])
 | _=>none
theorem ys8:OkD Tryz.prog 195 D_zph:=by unfold D_zph;exact dk N195.den
def zbg (a0:Mark):(List UInt8):=
 (bif (!(zub a0))then[]else(zph a0))
namespace N135
theorem DD:DOk Tryz.prog (Go.Ab.DD [(194,dP D_zub),(195,dP D_zph)]):=ya yaz.e <| ya ys8.e <| yc _
abbrev dn:=cj @D_zub.eq_1 <| @D_zph.eq_1
theorem o0 {p:Prop} (h:p:=by(first|(have q9 := ‹(!zub a0)=false›;first|(simpa using q9)|((repeat' with_reducible apply And.intro)<;>first|(simpa using q9)|omega)));first|done|fail):p:=h
theorem den (a0:Mark) (hb0:bdMark a0):Den Tryz.prog 135 [.agg (yuf a0)] (.str (zbg a0)):=by
 generalize hR:zbg a0=r;unfold zbg at hR;refine di Tryz.func135 Tryz.ntmps135 Tryz.results135 ?_;intro c hL hc hk;obtain⟨hL0,_⟩:=hL;have hw0:bwMark a0:=y3e a0 hL0;clear hL0;simp only[pars,Nat.zero_add];iterate 2 refine rS ?_
 refine yb ?_ ?_<;>intro hb
 ·replace hR:=ct hR
  exact retR
 ·replace hR:=cf hR
  exact retR
end N135
def D_zbg : DF
 | [x0]=>some (.str (zbg (rdG y2f x0)),false,[wG yuf y2f x0,bdMark (rdG y2f x0)])
 | _=>none
theorem yl7:OkD Tryz.prog 135 D_zbg:=by unfold D_zbg;exact dk N135.den
def ycp (a0:(List Sector)) (i1:Nat) (s1:List (List UInt8)):Except ((List UInt8)) (List (List UInt8)):=
 .ok (s1++[(((zh ((a0.getD i1 default).From))++[45])++(zh ((a0.getD i1 default).To)))++((a0.getD i1 default).Color)])
def zed (a0:(List Sector)):(List UInt8):=
 (bif (!(zjb a0))then[]else(bif ((a0.length:Int) == 0)then[45]else(match ye (ycp a0) (a0.length-0) 0 ([]:List (List UInt8))with|.error e=>e|.ok s1=>(zsb s1 [44]))))
namespace N65
theorem DD:DOk Tryz.prog (Go.Ab.DD [(112,dP D_zjb),(58,dP D_zsb),(59,dP D_zh)]):=ya yfq.e <| ya y6i.e <| ya ygf.e <| yc _
abbrev dn:=cj @D_zjb.eq_1 <| cj @D_zsb.eq_1 <| @D_zh.eq_1
theorem gr {p:Prop} (h:p:=by(grind [y0c]);first|done|fail):p:=h
theorem o0 {p:Prop} (h:p:=by(first|((have h8:=hsr (by assumption);have h9:=h8.2 i1;have l1:=y0c (a0.getD i1 default).From;have l2:=y0c (a0.getD i1 default).To;(repeat' with_reducible apply And.intro)<;>(first|omega|assumption|(simp only[List.length_append,List.length_cons,List.length_nil,List.length_singleton];omega)|(refine Nat.le_trans (yfe _ _) ?_;simp only[jl,List.length_cons,List.length_nil];omega))))|(have h8:=hsr (by assumption);obtain⟨w1,w2⟩:=hW1;have h9:=y5k [44] s1 1000 w2;simp only[List.length_singleton]at h9;(repeat' with_reducible apply And.intro)<;>omega));first|done|fail):p:=h
set_option maxHeartbeats 1000000 in
set_option maxRecDepth 20000 in
theorem den (a0:(List Sector)) (hb0:a0.length<1099511627776) (hb1:∀ v∈a0,bdSector v):Den Tryz.prog 65 [encL 3 yl a0] (.str (zed a0)):=by
 generalize hR:zed a0=r;unfold zed at hR;refine di Tryz.func65 Tryz.ntmps65 Tryz.results65 ?_;intro c hL hc hk;obtain⟨hL0,_⟩:=hL;have hw0:=lwA hL0;have hw1:∀ v∈a0,bwSector v:=fun v hv=>y4 v ((yj hL0).2 v hv)
 clear hL0;simp only[pars,Nat.zero_add];have hsr:=fun h=>ym8 (a:=a0) hb0 h
 iterate 2 refine rS ?_
 refine yb ?_ ?_<;>intro hb
 ·replace hR:=ct hR
  exact retR
 ·replace hR:=cf hR
  refine rS ?_;refine yb ?_ ?_<;>intro hb
  ·replace hR:=ct hR
   exact retR
  ·replace hR:=cf hR
   iterate 2 refine rS ?_
   refine AWP.block ?_;generalize hz1:ye (ycp a0) (a0.length-0) 0 ([]:List (List UInt8))=z1 at hR;refine AWP.range (ycp a0) (fun i1 s1=>⟨[(3,.ref 0 1 0 s1.length),(13,encL 3 yl a0),(14,.int .i64 (a0.length:Int)),(15,.int .i64 (i1:Int))],[.arr 9 1 s1.length (fun j=>eS (s1.getD j default))]⟩) (fun i1 s1=>s1.length<=i1/\∀ v∈s1,v.length<=1000) (a0.length) 0 ([]:List (List UInt8)) [0] hz1 ot wt sm ?_;clear hz1;intro i1 s1 hi1 hW1 hz1;refine rS ?_;refine AWP.seq ?_;refine yb ?_ ?_<;>intro hb
   ·have hlt1:i1<a0.length:=ot
    rw[yi hlt1]at hz1;simp only[ycp]at hz1;refine rS ?_;refine AWP.regP mixed G_ok DD hc 13 [0,1,2,3,4,5,6,7,8,9,10,11] (.alt 12 [] [0,1,2,5] .leaf .stop) (by kernel_rfl) (by kernel_rfl) (by kernel_rfl) (fun K hK => ?_);simp only[y1k,runN,runP,y3c,nthO,ea,absV,yoc,cput,gv,sv,dn,reduceCtorEq,reduceIte,Nat.reduceBEq,Nat.reduceAdd,Nat.reduceEqDiff,Nat.reduceLT,Nat.reduceLeDiff,Nat.reduceMul,Nat.reduceSub,BEq.rfl,beq_self_eq_true,Int.reduceToNat];repeat' apply And.intro
    all_goals first|refine hK _ ?_|exact ot
    all_goals clear hK K
    refine rS ?_;exact⟨_,[3],hlt1,by(have h8:=hsr (by assumption);have h9:=h8.2 i1;have l1:=y0c (a0.getD i1 default).From;have l2:=y0c (a0.getD i1 default).To;obtain⟨w1,w2⟩:=hW1;(repeat' with_reducible apply And.intro)<;>first|(simp only[List.length_append,List.length_cons,List.length_nil,List.length_singleton];omega)|(intro v hv;exact(List.mem_append.1 hv).elim (fun h=>w2 v h) (fun h=>by rw[List.mem_singleton]at h;subst h;simp only[List.length_append,List.length_cons,List.length_nil,List.length_singleton];omega))),hz1,sm⟩
   ·obtain rfl:i1=a0.length:=ot
    exact retX
end N65
def D_zed : DF
 | [x0]=>some (.str (zed (rdL yu x0)),false,[wL 3 yl yu x0,(rdL yu x0).length<1099511627776,∀ v∈(rdL yu x0),bdSector v])
 | _=>none
theorem ydx:OkD Tryz.prog 65 D_zed:=by unfold D_zed;exact dk N65.den
def yeo (a0:(List Sector)) (i1:Nat) (s1:List UInt8):Except ((List UInt8)) (List UInt8):=
 (bif decide (0<(i1:Int))then .ok ((s1++[44])++((((zf ((a0.getD i1 default).From))++[45])++(zf ((a0.getD i1 default).To)))++((a0.getD i1 default).Color)))else .ok (s1++((((zf ((a0.getD i1 default).From))++[45])++(zf ((a0.getD i1 default).To)))++((a0.getD i1 default).Color))))
def zle (a0:(List Sector)):(List UInt8):=
 (bif ((a0.length:Int) == 0)then[45]else(match ye (yeo a0) (a0.length-0) 0 []with|.error e=>e|.ok s1=>s1))
namespace N136
theorem DD:DOk Tryz.prog (Go.Ab.DD [(78,dP D_zf)]):=ya yrf.e <| yc _
abbrev dn:=@D_zf.eq_1
theorem o0 {p:Prop} (h:p:=by(first|(have h9:=hsr.2 i1;have l1:=yhd (a0.getD i1 default).From (by omega) (by omega);have l2:=yhd (a0.getD i1 default).To (by omega) (by omega);(repeat' with_reducible apply And.intro)<;>(first|omega|assumption|(simp only[List.length_append,List.length_cons,List.length_nil,List.length_singleton];omega)|(refine Nat.le_trans (yfe _ _) ?_;simp only[jl,List.length_cons,List.length_nil];omega))));first|done|fail):p:=h
set_option maxHeartbeats 1000000 in
set_option maxRecDepth 20000 in
theorem den (a0:(List Sector)) (hb0:a0.length<1099511627776) (hb1:∀ v∈a0,bdSector v) (hp0:zv a0=true):Den Tryz.prog 136 [encL 3 yl a0] (.str (zle a0)):=by
 generalize hR:zle a0=r;unfold zle at hR;refine di Tryz.func136 Tryz.ntmps136 Tryz.results136 ?_;intro c hL hc hk;obtain⟨hL0,_⟩:=hL;have hw0:=lwA hL0;have hw1:∀ v∈a0,bwSector v:=fun v hv=>y4 v ((yj hL0).2 v hv)
 clear hL0;simp only[pars,Nat.zero_add];have hsr:=y7d hp0;iterate 2 refine rS ?_
 refine yb ?_ ?_<;>intro hb
 ·replace hR:=ct hR
  exact retR
 ·replace hR:=cf hR
  iterate 2 refine rS ?_
  refine AWP.block ?_;generalize hz1:ye (yeo a0) (a0.length-0) 0 []=z1 at hR;refine AWP.range (yeo a0) (fun i1 s1=>⟨[(0,encL 3 yl a0),(3,.str s1),(4,.int .i64 (i1:Int))],[]⟩) (fun i1 s1=>s1.length<=1000 * i1) (a0.length) 0 [] [] hz1 ot wt sm ?_;clear hz1;intro i1 s1 hi1 hW1 hz1;refine rS ?_;refine yb ?_ ?_<;>intro hb
  ·have hlt1:i1<a0.length:=ot
   rw[yi hlt1]at hz1;simp only[yeo]at hz1;refine rS ?_;refine yb ?_ ?_<;>intro hb
   ·simp only[hb,cond_true]at hz1
    refine rS ?_;refine rD 22 ?_;refine rS ?_;exact⟨_,[],hlt1,by(have h9:=hsr.2 i1;have l1:=yhd (a0.getD i1 default).From (by omega) (by omega);have l2:=yhd (a0.getD i1 default).To (by omega) (by omega);simp only[List.length_append,List.length_cons,List.length_nil,List.length_singleton];omega),hz1,sm⟩
   ·simp only[hb,cond_false]at hz1
    refine rD 22 ?_;refine rS ?_;exact⟨_,[],hlt1,by(have h9:=hsr.2 i1;have l1:=yhd (a0.getD i1 default).From (by omega) (by omega);have l2:=yhd (a0.getD i1 default).To (by omega) (by omega);simp only[List.length_append,List.length_cons,List.length_nil,List.length_singleton];omega),hz1,sm⟩
  ·obtain rfl:i1=a0.length:=ot
   exact retX
end N136
def D_zle : DF
 | [x0]=>some (.str (zle (rdL yu x0)),false,[wL 3 yl yu x0,(rdL yu x0).length<1099511627776,∀ v∈(rdL yu x0),bdSector v,zv (rdL yu x0)=true])
 | _=>none
theorem y59:OkD Tryz.prog 136 D_zle:=by unfold D_zle;exact dk N136.den
theorem ypfb {p:Point} (h:zvc p=true):zag p=zgg p/\(zgg p).length<=13:=by
 have hr:=yas h;unfold zag zgg;rw[show zyd p=zvc p from rfl,h,yoi _ (by omega) (by omega),yoi _ (by omega) (by omega)];refine⟨rfl,?_⟩;have h1:=yvd p.X 5 (by omega) (by show p.X<(1000000:Int);omega);have h2:=yvd p.Y 5 (by omega) (by show p.Y<(1000000:Int);omega);simp only[List.length_append,List.length_cons,List.length_nil];omega
theorem yzbb (a b c d:List UInt8) (s:List UInt8):Lib.join [a,b,c,d] s=a++(s++(b++(s++(c++(s++d))))):=by
 simp[Lib.join_cons,Lib.joinTail]
theorem ya3 {k:Int} (h:0<=k/\k<=9):zae k=zce.getD k.toNat default:=yc5 _ _ (by omega) (by show k<10;omega)
theorem ylfb (m:Mark):zwb m=zbg m:=by
 unfold zwb zbg zph;rw[yre,show zid m=zub m from rfl]
 cases h:zub m with
 | false=>rfl
 | true=>
  simp only[Bool.not_true,cond_false];by_cases hk:m.Kind=0
  ·rw[show(m.Kind == 0)=true by simp[hk],cond_true,cond_true];rfl
  ·rw[show(m.Kind == 0)=false by simp[hk],cond_false,cond_false]
   have hr:=ywg (m:=m) h;rw[ya3 ⟨hr.1,hr.2.1⟩];have e:∀ a b c d:List UInt8,zsb [a,b,c,d] [32]=a++([32]++(b++([32]++(c++([32]++d))))):=fun a b c d=>yzbb a b c d [32]
   rw[e,e];simp only[List.append_assoc]
theorem ybeb (m:Mark):(zbg m).length<=40:=by
 unfold zbg zph
 cases h:zub m with
 | false=>simp
 | true=>
  have hr:=ywg (m:=m) h;simp only[Bool.not_true,cond_false]
  have hn:(zce.getD m.Kind.toNat default).length<=7:=by
   rcases(show m.Kind=0\/m.Kind=1\/m.Kind=2\/m.Kind=3\/m.Kind=4\/m.Kind=5\/m.Kind=6\/m.Kind=7\/m.Kind=8\/m.Kind=9 by omega)with e|e|e|e|e|e|e|e|e|e<;>rw[e]<;>decide
  simp only[Bool.cond_eq_ite];repeat' split
  all_goals (try simp only[List.length_append,List.length_cons,List.length_nil])
  all_goals omega
def scT (s:Sector):List UInt8:=Lib.itoa s.From++(45::(Lib.itoa s.To++s.Color))
def scsT (a:List Sector):List UInt8:=if a=[]then[45]else Lib.join (a.map scT) [44]
theorem ylr {a:List Sector} (h:zv a=true):zed a=scsT a:=by
 have hr:=y7d h;unfold zed scsT;rw[y0b a (by omega),h];simp only[Bool.not_true,cond_false];by_cases ha:a=[]
 ·rw[ha];rfl
 ·have hp:0<a.length:=List.length_pos_iff.2 ha
  rw[if_neg ha,show((a.length:Int) == 0)=false by rw[beq_eq_false_iff_ne];omega,cond_false]
  have hl:=y9c (ycp a) (fun j=>[scT (a.getD j default)]) a.length 0 [] (fun j s _ _=>by
   unfold ycp scT
   simp[yg0])
  rw[ydi a default scT,List.nil_append]at hl;rw[Nat.sub_zero,hl];rfl
theorem y81 {a:List Sector} (h:zv a=true):zle a=scsT a:=by
 have hr:=y7d h;unfold zle scsT;by_cases ha:a=[]
 ·rw[ha];rfl
 ·have hp:0<a.length:=List.length_pos_iff.2 ha
  rw[if_neg ha,show((a.length:Int) == 0)=false by rw[beq_eq_false_iff_ne];omega,cond_false]
  have hl:=y9c (yeo a) (fun j=>(if j=0 then[]else[44])++scT (a.getD j default)) a.length 0 [] (fun j s _ _=>by
   have h9:=hr.2 j;unfold yeo scT;rw[yoi _ (by omega) (by omega),yoi _ (by omega) (by omega)];by_cases hj:j=0
   ·subst hj;simp
   ·rw[decide_eq_true (show(0:Int)<(j:Int)by omega),if_neg hj];simp)
  rw[Nat.sub_zero,hl,List.nil_append];simp only
  cases a with
  | nil=>exact absurd rfl ha
  | cons x r=>
   rw[List.length_cons,List.range'_succ,List.flatMap_cons,List.map_cons,Lib.join_cons, <- y2z 44 default scT x r]
   have:(List.range' (0+1) r.length).flatMap (fun j=>(if j=0 then[]else[44])++scT ((x::r).getD j default))=(List.range' 1 r.length).flatMap (fun j=>(44:UInt8)::scT ((x::r).getD j default)):=by
    rw[List.flatMap_def,List.flatMap_def];congr 1
    apply List.map_congr_left;intro j hj;rw[List.mem_range'_1]at hj;rw[if_neg (by omega)];rfl
   rw[this];simp
theorem yt0 {a:List Sector} (h:zv a=true):(scsT a).length<=120:=by
 have hr:=y7d h;unfold scsT;split
 ·simp
 ·have h1:=y5k [44] (a.map scT) 8 (fun x hx=>by
   obtain⟨s,hs,rfl⟩:=List.mem_map.1 hx;obtain⟨i,hi,e⟩:=List.getElem_of_mem hs;have h9:=hr.2 i;have hg:a.getD i default=s:=by rw[List.getD_eq_getElem?_getD,List.getElem?_eq_getElem hi,e];rfl
   rw[hg]at h9;have h1:=yvd s.From 2 (by omega) (by show s.From<(1000:Int);omega);have h2:=yvd s.To 2 (by omega) (by show s.To<(1000:Int);omega);unfold scT;simp only[List.length_append,List.length_cons]
   omega)
  rw[List.length_map]at h1;simp only[List.length_singleton]at h1;have:a.length * (8+1)<=12 * 9:=Nat.mul_le_mul hr.1 (by omega);omega
theorem ypg {ρ σ : Type} {b : Nat -> σ -> Except ρ σ} {e0 : ρ} (h : ∀ j s e, b j s = .error e -> e = e0) : ∀ (n i : Nat) (s : σ) (e : ρ), ye b n i s = .error e -> e = e0
 | 0,i,s,e,he=>by simp[ye]at he
 | n+1,i,s,e,he=>by
  simp only[ye]at he
  cases hb:b i s with
  | error e'=>
   rw[hb]at he;have he:e'=e:=by simpa using he
   rw[<- he];exact h _ _ _ hb
  | ok s'=>rw[hb]at he;exact ypg h n (i+1) s' e he
theorem y4o {c:Character} (h:zfb c=true):c.Colors.length<=3:=by
 unfold zfb at h
 cases h1:((!(zoc c.Colors)) || (!(znb c)))with
 | true=>rw[h1]at h;cases h
 | false=>
  rw[Bool.or_eq_false_iff]at h1;have h2:zoc c.Colors=true:=by simpa using h1.1
  unfold zoc at h2
  have he:=ypg (b:=y2i c.Colors) (e0:=false) (fun j s e h=>by
   unfold y2i at h;rw[Bool.cond_eq_ite]at h;split at h
   ·simpa using h.symm
   ·cases h) (c.Colors.length-0) 0 (-1)
  generalize ye (y2i c.Colors) (c.Colors.length-0) 0 (-1)=z at h2 he
  cases z with
  | error e=>have:=he e rfl;subst this;cases h2
  | ok s=>simp[ze]at h2;omega
theorem y52 {c:Character} (h:zfb c=true):(chrT c).length<=40:=by
 have hf:=ywc c h;have hv:=ywd c h;have hk:=ysf c hf;have hp:=yae c h;have hc:=y4o h
 have hK:(kt c.Kind).length<=3:=by
  rcases(show c.Kind=1\/c.Kind=2\/c.Kind=3\/c.Kind=4\/c.Kind=5\/c.Kind=6\/c.Kind=7\/c.Kind=8 by omega)with e|e|e|e|e|e|e|e<;>rw[e]<;>decide
 have hg:(grpT c.Group).length<=10:=by
  unfold grpT;split
  ·simp
  ·have h1:=y5k [43] (c.Group.map Lib.itoa) 1 (fun x hx=>by
    obtain⟨s,hs,rfl⟩:=List.mem_map.1 hx;have:=hv.2.1 s hs
    exact yvd s 0 (by omega) (by show s<(10:Int);omega))
   rw[List.length_map,List.length_singleton]at h1;simp only[List.length_append,List.length_cons,List.length_nil];omega
 have hs:(perT c.Period).length<=8:=by
  unfold perT secT;split
  ·simp
  ·have h1:=yvd (c.Period / 10) 1 (by omega) (by show c.Period / 10<(100:Int);omega)
   have h2:=yvd (c.Period % 10) 0 (by omega) (by show c.Period % 10<(10:Int);omega);split<;>simp only[List.length_append,List.length_cons,List.length_nil]<;>omega
 have hh:(ypj c).length<=17:=by
  unfold ypj;split
  ·rename_i h8
   have h9:=y7r c hf h8;have:(kt 8).length=2:=rfl;simp only[List.length_append,List.length_cons,List.length_nil];omega
  ·split<;>simp only[List.length_append,List.length_cons,List.length_nil]<;>omega
 unfold chrT;simp only[List.length_append,List.length_cons];omega
theorem ycbb {c:Character} (h:zsc c=true) (hl:c.Colors.length<9223372036854775808):zqd c=zzc c/\(zzc c).length<=40:=by
 rw[<- yzi c hl]at h;rw[yei c h,yv0 c h];exact⟨rfl,y52 h⟩
theorem y1db {a:Aid} (h:zw a=true) (hl:a.Light.Colors.length<9223372036854775808) :
  (zh a.Number=zf a.Number/\(zf a.Number).length<=4)/\(zag a.At=zgg a.At/\(zgg a.At).length<=13)/\(zh a.Height=zf a.Height/\(zf a.Height).length<=4) /\
  (zwb a.Mark=zbg a.Mark/\(zbg a.Mark).length<=40)/\(zgc a=true->zqd a.Light=zzc a.Light/\(zzc a.Light).length<=40) /\
  (zed a.Sectors=zle a.Sectors/\(zle a.Sectors).length<=120)/\(zh a.Intensity=zf a.Intensity/\(zf a.Intensity).length<=9)/\a.Name.length<=10:=by
 obtain⟨n1,n2,nm,at1,h1,h2,mk,lt,sx,i1,i2⟩:=y4c h
 have dq:∀ (n:Int) (k:Nat),0<=n->n<=100000000->n<((10 ^ (k+1):Nat):Int)->zh n=zf n/\(zf n).length<=k+1:=fun n k a b c=>by
  rw[yoi n (by omega) (by omega)];exact⟨rfl,yvd n k a c⟩
 refine⟨dq _ 3 (by omega) (by omega) (by show _<(10000:Int);omega),ypfb at1,dq _ 3 (by omega) (by omega) (by show _<(10000:Int);omega),⟨ylfb _,ybeb _⟩,fun hq=>ycbb (lt hq) hl,⟨by rw[ylr sx,y81 sx],by rw[y81 sx];exact yt0 sx⟩,dq _ 8 (by omega) (by omega) (by show _<(1000000000:Int);omega),yel nm⟩
theorem yne (a:Aid):zrc a a=true:=by
 rw[<- ymj];unfold zsg zbf;rw[ykg,yve];simp
theorem ynz (l:List Aid):zkf l l=true:=by
 unfold zkf;have h0:((l.length:Int) != (l.length:Int))=false:=by simp
 rw[h0,cond_false]
 have:∀ k i,ye (y2o l l) k i ()=.ok ():=by
  intro k
  induction k with
  | zero=>intro i;rfl
  | succ k ih=>intro i;simp only[ye,y2o,yne,Bool.not_true,cond_false];exact ih (i+1)
 rw[this]
theorem yvx (a0:List Int) (hp0:∀ v∈a0,0<=v/\v<=255):okP AidQ (zng a0)/\(zng a0).length<=5:=(y60 (n:=0) (s:=zzf a0) ⟨Int.le_refl _,Int.le_refl _,hp0⟩ (by omega)).2
def yxo (a0:(List Aid)) (a1:(List Aid)) (i1:Nat) (s1:List Correction):Except (((List Correction)×Int)) (List Correction):=
 (bif (!((zzd a1 (a0.getD i1 default)).1))then .ok (s1++[{ Kind:=1,Aid:=zfd (a0.getD i1 default):Correction }])else .ok s1)
def y6o (a0:(List Aid)) (a1:(List Aid)) (s1:List Correction) (i2:Nat) (s2:List Correction):Except (((List Correction)×Int)) (List Correction):=
 (bif (!((zzd a0 (a1.getD i2 default)).1))then .ok (s2++[{ Kind:=2,Aid:=zfd (a1.getD i2 default):Correction }])else(bif (!((zzd a0 (a1.getD i2 default)).2))then .ok (s2++[{ Kind:=3,Aid:=zfd (a1.getD i2 default):Correction }])else .ok s2))
def zxb (a0:(List Aid)) (a1:(List Aid)):((List Correction)×Int):=
 (bif ((!(zgb a0)) || (!(zgb a1)))then([],1)else(match ye (yxo a0 a1) (a0.length-0) 0 ([]:List Correction)with|.error e=>e|.ok s1=>(match ye (y6o a0 a1 s1) (a1.length-0) 0 s1 with|.error e=>e|.ok s2=>(s2,0))))
namespace N7
theorem DD:DOk Tryz.prog (Go.Ab.DD [(20,dP D_zgb),(21,dP D_zzd),(22,dP D_zfd)]):=ya y7g.e <| ya yyx.e <| ya y4k.e <| yc _
abbrev dn:=cj @D_zgb.eq_1 <| cj @D_zzd.eq_1 <| @D_zfd.eq_1
theorem gr {p:Prop} (h:p:=by(grind [ykc]);first|done|fail):p:=h
theorem o2 {p:Prop} (h:p:=by(first|(and_intros<;>first|rfl|decide|(rw[IntKind.wrap_i64];omega)|(simp only[List.length_append,List.length_singleton];(first|done|fail))|(intro j hj;by_cases hji:j<s1.length;(focus(simp only[yik hji,yst hji,cond_true];first|(first|done|fail)|rfl|(and_intros<;>rfl)));(simp only[ypk hji hj,ygu hji,cond_false];first|(first|done|fail)|rfl|(and_intros<;>rfl)))|(intro j hj;by_cases hji:j<s2.length;(focus(simp only[yik hji,yst hji,cond_true];first|(first|done|fail)|rfl|(and_intros<;>rfl)));(simp only[ypk hji hj,ygu hji,cond_false];first|(first|done|fail)|rfl|(and_intros<;>rfl)))));first|done|fail):p:=h
set_option maxHeartbeats 2000000 in
set_option maxRecDepth 20000 in
theorem den (a0:(List Aid)) (a1:(List Aid)) (hb0:a0.length<1099511627776) (hb1:∀ v∈a0,bdAid v) (hb2:a1.length<1099511627776) (hb3:∀ v∈a1,bdAid v):Den Tryz.prog 7 [encL 16 eAid a0,encL 16 eAid a1] (.tup [ownL 61 17 yrd ((zxb a0 a1).1),.int .i64 ((zxb a0 a1).2)]):=by
 generalize hR:zxb a0 a1=r;unfold zxb at hR;refine di Tryz.func7 Tryz.ntmps7 Tryz.results7 ?_;intro c hL hc hk;obtain⟨hL0,hL1,_⟩:=hL;have hw0:=lwA hL0;have hw1:∀ v∈a0,bwAid v:=fun v hv=>yr v ((yj hL0).2 v hv)
 have hw2:=lwA hL1;have hw3:∀ v∈a1,bwAid v:=fun v hv=>yr v ((yj hL1).2 v hv)
 clear hL0 hL1;simp only[pars,Nat.zero_add];iterate 2 refine rS ?_
 refine yb ?_ ?_<;>intro hb
 ·replace hR:=ct hR
  exact retR
 ·replace hR:=cf hR
  iterate 2 refine rS ?_
  refine AWP.block ?_;generalize hz1:ye (yxo a0 a1) (a0.length-0) 0 ([]:List Correction)=z1 at hR;refine AWP.range (yxo a0 a1) (fun i1 s1=>⟨[(0,encL 16 eAid a0),(1,encL 16 eAid a1),(6,.ref 0 17 0 s1.length),(24,encL 16 eAid a0),(25,.int .i64 (a0.length:Int)),(26,.int .i64 (i1:Int))],[.arr 61 17 s1.length (fun j=>yrd (s1.getD j default))]⟩) (fun i1 s1=>s1.length<=([]:List Correction).length+1 * i1) (a0.length) 0 ([]:List Correction) [0] hz1 ot wt sm ?_;clear hz1;intro i1 s1 hi1 hW1 hz1;refine rS ?_;refine AWP.seq ?_;refine yb ?_ ?_<;>intro hb
  ·have hlt1:i1<a0.length:=ot
   rw[yi hlt1]at hz1;simp only[yxo]at hz1;iterate 3 refine rS ?_
   refine yb ?_ ?_<;>intro hb
   ·simp only[hb,cond_true]at hz1
    iterate 2 refine rS ?_
    exact⟨_,[5],hlt1,wt,hz1,sm⟩
   ·simp only[hb,cond_false]at hz1
    refine rS ?_;exact⟨_,[0],hlt1,wt,hz1,sm⟩
  ·obtain rfl:i1=a0.length:=ot
   rw[ybb (Nat.le_refl _)]at hz1;subst hz1;dsimp only at hR;refine AWP.exit ?_;refine yf ?_;refine rS ?_;refine AWP.block ?_;generalize hz2:ye (y6o a0 a1 s1) (a1.length-0) 0 s1=z2 at hR;refine AWP.range (y6o a0 a1 s1) (fun i2 s2=>⟨[(0,encL 16 eAid a0),(6,.ref 0 17 0 s2.length),(45,encL 16 eAid a1),(46,.int .i64 (a1.length:Int)),(47,.int .i64 (i2:Int))],[.arr 61 17 s2.length (fun j=>yrd (s2.getD j default))]⟩) (fun i2 s2=>s2.length<=s1.length+1 * i2) (a1.length) 0 s1 [0] hz2 ot wt sm ?_;clear hz2;intro i2 s2 hi2 hW2 hz2;refine rS ?_;refine AWP.seq ?_;refine yb ?_ ?_<;>intro hb
   ·have hlt2:i2<a1.length:=ot
    rw[yi hlt2]at hz2;simp only[y6o]at hz2;iterate 3 refine rS ?_
    refine yb ?_ ?_<;>intro hb
    ·simp only[hb,cond_true]at hz2
     iterate 2 refine rS ?_
     exact⟨_,[5],hlt2,wt,hz2,sm⟩
    ·simp only[hb,cond_false]at hz2
     refine rS ?_;refine yb ?_ ?_<;>intro hb
     ·simp only[hb,cond_true]at hz2
      iterate 2 refine rS ?_
      exact⟨_,[5],hlt2,wt,hz2,sm⟩
     ·simp only[hb,cond_false]at hz2
      refine rS ?_;exact⟨_,[0],hlt2,wt,hz2,sm⟩
   ·obtain rfl:i2=a1.length:=ot
    rw[ybb (Nat.le_refl _)]at hz2;subst hz2;dsimp only at hR;refine AWP.exit ?_;refine yf ?_;exact retR
end N7
def D_zxb : DF
 | [x0,x1]=>some (.tup [ownL 61 17 yrd ((zxb (rdL dAid x0) (rdL dAid x1)).1),.int .i64 ((zxb (rdL dAid x0) (rdL dAid x1)).2)],false,[wL 16 eAid dAid x0,wL 16 eAid dAid x1,(rdL dAid x0).length<1099511627776,∀ v∈(rdL dAid x0),bdAid v,(rdL dAid x1).length<1099511627776,∀ v∈(rdL dAid x1),bdAid v])
 | _=>none
theorem yw6:OkD Tryz.prog 7 D_zxb:=by unfold D_zxb;exact dk N7.den
end Go.Ab
