/- A part of a proof: walks of functions and lemmas of our own. No conditions. -/
import Derived.Test.YtcaopagmcldjmaaGreatDoorABd
import Derived.Test.YtcaopagmcldjmaaGreatDoorAAy
import Derived.Test.YtcaopagmcldjmaaGreatDoorAAx
import Derived.Test.YtcaopagmcldjmaaGreatDoorAAv
import Derived.Test.YtcaopagmcldjmaaGreatDoorAAu
import Derived.Test.YtcaopagmcldjmaaGreatDoorABc
import Derived.Test.YtcaopagmcldjmaaGreatDoorABb
import Derived.Test.YtcaopagmcldjmaaGreatDoorAAl
import Derived.Test.YtcaopagmcldjmaaGreatDoorAAi
import Derived.Test.YtcaopagmcldjmaaGreatDoorAAm
import Derived.Test.YtcaopagmcldjmaaGreatDoorAAp
import Derived.Test.YtcaopagmcldjmaaGreatDoorAAz
import Derived.Test.YtcaopagmcldjmaaGreatDoorAAk
import Derived.Test.YtcaopagmcldjmaaGreatDoorAAs
import Derived.Test.YtcaopagmcldjmaaGreatDoorABa
import Derived.Test.YtcaopagmcldjmaaGreatDoorAAq
import Derived.Test.YtcaopagmcldjmaaGreatDoorAAt
set_option linter.unusedSectionVars false
set_option linter.unusedVariables false
set_option linter.unusedSimpArgs false
set_option maxHeartbeats 1000000
namespace Go.Ab
open Go Go.Proofs
theorem yko (a:List Sector):zlb a=yvd a (yvd a (yvd a (yvd a [] 87) 82) 71) 89:=by
 unfold zlb;simp only[yf,Nat.sub_zero];rw[yic a 0 [] 87 rfl];simp only;rw[yic a (0+1) _ 82 rfl];simp only;rw[yic a (0+1+1) _ 71 rfl];simp only;rw[yic a (0+1+1+1) _ 89 rfl]
theorem ymo {a:List Sector} (h:zpb a=true) (hl:0<a.length):(zlb a).length<=3->zmc (zlb a)=true:=by
 have h1:=(y6f h).2 0 hl
 have hc:zsg (a.getD 0 default).Color=true:=by
  unfold zzd at h1;rw[Bool.and_eq_true]at h1;exact h1.2
 have hm:a.getD 0 default∈a:=by
  rw[List.getD_eq_getElem?_getD,List.getElem?_eq_getElem hl];exact List.getElem_mem hl
 have hany:(a.any (fun x=>x.Color == [87]) || (a.any (fun x=>x.Color == [82]) || (a.any (fun x=>x.Color == [71]) || a.any (fun x=>x.Color == [89]))))=true:=by
  unfold zsg at hc;simp only[Bool.or_eq_true,List.any_eq_true]at hc ⊢;rcases hc with((hc|hc)|hc)|hc
  ·exact .inl ⟨_,hm,hc⟩
  ·exact .inr (.inl ⟨_,hm,hc⟩)
  ·exact .inr (.inr (.inl ⟨_,hm,hc⟩))
  ·exact .inr (.inr (.inr ⟨_,hm,hc⟩))
 rw[yko];unfold yvd;revert hany
 cases a.any (fun x=>x.Color == [87])<;>cases a.any (fun x=>x.Color == [82])<;>cases a.any (fun x=>x.Color == [71])<;>cases a.any (fun x=>x.Color == [89])<;>intro hany h3<;>first|(exact absurd hany (by decide))|(exact absurd h3 (by decide))|decide +kernel
theorem yd5 {K:Int} {G:List Int} {L C C':List UInt8} {P:Int} (h:zse { Kind:=K,Group:=G,Letter:=L,Colors:=C,Period:=P }=true) (h2:zmc C'=true):zse { Kind:=K,Group:=G,Letter:=L,Colors:=C',Period:=P }=true:=by
 have hC:zmc C=true:=by
  cases hc:zmc C with
  | true=>rfl
  | false=>
   unfold zse ztg at h;simp only[hc,Bool.not_false,Bool.or_true,cond_true,Bool.not_true]at h;cases h
 rw[<- h];unfold zse;rw[ygk K G L C P hC,ygk K G L C' P h2];rfl
def ypy (N:Int) (nm:List UInt8) (p:Point) (h:Int) (mk:Mark) (q:l00Src):Aid×l00Src:=
 (bnd ((zh q 5).2) fun q14=>(bif ((zh q 5).1)then({ Number:=N,Name:=nm,At:=p,Height:=h,Mark:=mk,Light:={ Kind:=0,Group:=[],Letter:=[],Colors:=[],Period:=0:Character },Sectors:=[],Intensity:=0:Aid },q14)else(bnd ((zj q14).2) fun q16=>(bnd ((zb q16 ([10,1000,20000,1000000,1]:List Int)).2) fun q18=>(bnd ((zh q18 2).2) fun q20=>(bif ((zh q18 2).1)then({ Number:=N,Name:=nm,At:=p,Height:=h,Mark:=mk,Light:={ Kind:=((zj q14).1).Kind,Group:=((zj q14).1).Group,Letter:=((zj q14).1).Letter,Colors:=(((zj q14).1).Colors).take 1,Period:=((zj q14).1).Period:Character },Sectors:=[],Intensity:=((zb q16 ([10,1000,20000,1000000,1]:List Int)).1):Aid },q20)else(bnd ((zy q20).2) fun q22=>(bif ((((zy q20).1).length:Int) == 0)then({ Number:=N,Name:=nm,At:=p,Height:=h,Mark:=mk,Light:={ Kind:=((zj q14).1).Kind,Group:=((zj q14).1).Group,Letter:=((zj q14).1).Letter,Colors:=(((zj q14).1).Colors).take 1,Period:=((zj q14).1).Period:Character },Sectors:=((zy q20).1),Intensity:=((zb q16 ([10,1000,20000,1000000,1]:List Int)).1):Aid },q22)else(bif decide (3<((zlb ((zy q20).1)).length:Int))then({ Number:=N,Name:=nm,At:=p,Height:=h,Mark:=mk,Light:={ Kind:=((zj q14).1).Kind,Group:=((zj q14).1).Group,Letter:=((zj q14).1).Letter,Colors:=[71],Period:=((zj q14).1).Period:Character },Sectors:=[{ From:=10,To:=200,Color:=[71]:Sector }],Intensity:=((zb q16 ([10,1000,20000,1000000,1]:List Int)).1):Aid },q22)else({ Number:=N,Name:=nm,At:=p,Height:=h,Mark:=mk,Light:={ Kind:=((zj q14).1).Kind,Group:=((zj q14).1).Group,Letter:=((zj q14).1).Letter,Colors:=(zlb ((zy q20).1)),Period:=((zj q14).1).Period:Character },Sectors:=((zy q20).1),Intensity:=((zb q16 ([10,1000,20000,1000000,1]:List Int)).1):Aid },q22))))))))))
def AidP (n:Int) (r:Aid×l00Src):Prop:=SrcOk n r.2/\zcd r.1=true/\(r.1.Light.Group.length<=2/\r.1.Light.Letter.length<=1/\r.1.Light.Colors.length<=3)/\r.1.Sectors.length<=5/\r.1.Number<=30
theorem yqx {C:List UInt8} (h:C∈nineC):zmc (C.take 1)=true/\(C.take 1).length=1:=by
 have:(nineC.all fun C=>zmc (C.take 1) && decide ((C.take 1).length=1))=true:=by decide +kernel
 have:=List.all_eq_true.1 this C h;rw[Bool.and_eq_true,decide_eq_true_eq]at this;exact this
theorem ymh {n:Int} {N:Int} {nm:List UInt8} {p:Point} {h:Int} {mk:Mark} {q:l00Src} (hq:SrcOk n q) (hn:n<=1000000) (h1:1<=N) (h2:N<=30) (h3:ztb nm=true) (h4:zwf p=true) (h5:0<=h) (h6:h<=3000) (h7:znf mk=true):AidP (n+310) (ypy N nm p h mk q):=by
 have base:∀ (L:Character) (S:List Sector) (I:Int),(bif (zif L)then(((S.length:Int) == 0) && (I == 0))else(bif (((!(zse L)) || (!(zv I 1 100000000))) || (!(zpb S)))then false else(bif ((S.length:Int) == 0)then((L.Colors.length:Int) == 1)else((zlb S) == L.Colors))))=true->zcd { Number:=N,Name:=nm,At:=p,Height:=h,Mark:=mk,Light:=L,Sectors:=S,Intensity:=I:Aid }=true:=fun L S I hh=>by
  unfold zcd;have e1:zv N 1 9999=true:=by unfold zv;simp;omega
  have e2:zv h 0 3000=true:=by unfold zv;simp;omega
  simp only[e1,e2,h3,h4,h7,Bool.not_true,Bool.or_self,cond_false];exact hh
 have lit:∀ (L:Character) (S:List Sector) (I:Int),zse L=true->1<=I->I<=100000000->zpb S=true->(bif ((S.length:Int) == 0)then((L.Colors.length:Int) == 1)else((zlb S) == L.Colors))=true->zcd { Number:=N,Name:=nm,At:=p,Height:=h,Mark:=mk,Light:=L,Sectors:=S,Intensity:=I:Aid }=true:=fun L S I g1 g2 g3 g4 g5=>base L S I (by
  have e0:zif L=false:=by
   cases e:zif L with
   | false=>rfl
   | true=>
    unfold zif at e;simp only[Bool.and_eq_true,beq_iff_eq]at e;unfold zse ztg zwg zv at g1;rw[e.1.1.1.1]at g1;cases g1
  have e1:zv I 1 100000000=true:=by unfold zv;simp;omega
  rw[e0,g1,e1,g4]
  exact g5)
 unfold ypy;have q14:=hq.one (m:=5) (by omega);simp only[bnd];generalize (zh q 5).2=s14 at q14
 cases(zh q 5).1 with
 | true=>rw[cond_true];exact⟨q14.mono (by show _<=n+310;omega),base _ _ _ rfl,(by decide:([]:List Int).length<=2/\([]:List UInt8).length<=1/\([]:List UInt8).length<=3),by show(0:Nat)<=5;omega,h2⟩
 | false=>
  rw[cond_false];obtain⟨q16,c1,c2,c3,c4⟩:=yxt q14 (by omega);generalize (zj s14).2=s16 at q16;generalize (zj s14).1=c at c1 c2 c3 c4;obtain⟨K,G,L,C,P⟩:=c;simp only at c2 c3 c4;have hI:=y5e (l:=([10,1000,20000,1000000,1]:List Int)) q16 (by omega) (by decide);have q18:=q16.among (l:=([10,1000,20000,1000000,1]:List Int)) (by omega);generalize (zb s16 ([10,1000,20000,1000000,1]:List Int)).2=s18 at q18;generalize (zb s16 ([10,1000,20000,1000000,1]:List Int)).1=I at hI;have hI:1<=I/\I<=100000000:=by simp only[List.mem_cons,List.not_mem_nil,or_false]at hI;omega
  have q20:=q18.one (m:=2) (by omega);generalize (zh s18 2).2=s20 at q20;obtain⟨t1,t2⟩:=yqx c2
  have z1:zcd { Number:=N,Name:=nm,At:=p,Height:=h,Mark:=mk,Light:={ Kind:=K,Group:=G,Letter:=L,Colors:=C.take 1,Period:=P:Character },Sectors:=[],Intensity:=I:Aid }=true:=lit _ _ _ (yd5 c1 t1) hI.1 hI.2 (by decide +kernel) (by
   show(((C.take 1).length:Int) == 1)=true
   rw[t2];rfl)
  cases(zh s18 2).1 with
  | true=>exact⟨q20.mono (by show _<=n+310;omega),z1,⟨c3,c4,by show(C.take 1).length<=3;omega⟩,by show(0:Nat)<=5;omega,h2⟩
  | false=>
   rw[cond_false];obtain⟨q22,d1,d2⟩:=yjt q20 (by omega);generalize (zy s20).2=s22 at q22;generalize (zy s20).1=S at d1 d2;by_cases hS:S.length=0
   ·have hS2:S=[]:=List.length_eq_zero_iff.1 hS
    subst hS2;exact⟨q22.mono (by show _<=n+310;omega),z1,⟨c3,c4,by show(C.take 1).length<=3;omega⟩,by show(0:Nat)<=5;omega,h2⟩
   ·have e0:((S.length:Int) == 0)=false:=by rw[beq_eq_false_iff_ne];omega
    rw[e0,cond_false];by_cases h3':3<((zlb S).length:Int)
    ·rw[decide_eq_true h3',cond_true]
     exact⟨q22.mono (by show _<=n+310;omega),lit _ _ _ (yd5 c1 (by decide +kernel)) hI.1 hI.2 (by decide +kernel) (by show((zlb [{ From:=10,To:=200,Color:=[71]:Sector }]) == [71])=true;decide +kernel),⟨c3,c4,by show(1:Nat)<=3;omega⟩,by show(1:Nat)<=5;omega,h2⟩
    ·rw[decide_eq_false h3',cond_false]
     exact⟨q22.mono (by show _<=n+310;omega),lit _ _ _ (yd5 c1 (ymo d2 (by omega) (by omega))) hI.1 hI.2 d2 (by rw[e0,cond_false];simp),⟨c3,c4,by show(zlb S).length<=3;omega⟩,d1,h2⟩
theorem ym7 {k:Int} (h1:1<=k) (h2:k<=9):znf (zle k).1=true:=by
 rcases(show k=1\/k=2\/k=3\/k=4\/k=5\/k=6\/k=7\/k=8\/k=9 by omega)with e|e|e|e|e|e|e|e|e<;>rw[e]<;>decide +kernel
theorem ydz {n:Int} {s:l00Src} (h:SrcOk n s) (hn:n<=900000):AidP (n+400) (ztd s):=by
 have mono:∀ {m:Int} {r:Aid×l00Src},AidP m r->m<=n+400->AidP (n+400) r:=fun h h2=>⟨h.1.mono h2,h.2⟩
 have r1:=yg 30 h (by omega);have r12:=r1.2 (by omega);have q2:=h.pick (m:=30) (by omega);have w1:IntKind.wrap .i64 ((za s 30).1+1)=(za s 30).1+1:=by rw[IntKind.wrap_i64];omega
 unfold ztd;simp only[bnd];rw[w1];generalize (za s 30).2=s2 at q2;obtain⟨N,hN⟩:∃ N,N=(za s 30).1+1:=⟨_,rfl⟩
 rw[<- hN];have hnm:=y6g (l:=([[114,111,99,107],[101,97,115,116],[112,105,101,114],[98,97,114],[99,97,112,101]]:List (List UInt8))) q2 (by omega) (by decide);have q4:=q2.text (l:=([[114,111,99,107],[101,97,115,116],[112,105,101,114],[98,97,114],[99,97,112,101]]:List (List UInt8))) (by omega);generalize (zr s2 ([[114,111,99,107],[101,97,115,116],[112,105,101,114],[98,97,114],[99,97,112,101]]:List (List UInt8))).2=s4 at q4;generalize (zr s2 ([[114,111,99,107],[101,97,115,116],[112,105,101,114],[98,97,114],[99,97,112,101]]:List (List UInt8))).1=nm at hnm
 have hnm:ztb nm=true:=by
  have hs:∀ y∈([[114,111,99,107],[101,97,115,116],[112,105,101,114],[98,97,114],[99,97,112,101]]:List (List UInt8)),ztb y=true:=by decide +kernel
  exact hs nm hnm
 obtain⟨q6,hp⟩:=ybv q4 (by omega);generalize (zub s4).2=s6 at q6;generalize (zub s4).1=p at hp;have r3:=yg 500 q6 (by omega);have r32:=r3.2 (by omega);have q8:=q6.pick (m:=500) (by omega);generalize (za s6 500).2=s8 at q8;generalize (za s6 500).1=hh at r3 r32;have q10:=q8.one (m:=2) (by omega);generalize (zh s8 2).2=s10 at q10;have zm:znf { Kind:=0,Colors:=[],Shape:=[],Topmark:=[]:Mark }=true:=by decide +kernel
 cases(zh s8 2).1 with
 | true=>
  rw[cond_true];have r4:=yg 9 q10 (by omega);have r42:=r4.2 (by omega);have q12:=q10.pick (m:=9) (by omega);have w2:IntKind.wrap .i64 ((za s10 9).1+1)=(za s10 9).1+1:=by rw[IntKind.wrap_i64];omega
  rw[w2];generalize (za s10 9).2=s12 at q12;have hm:=ym7 (k:=(za s10 9).1+1) (by omega) (by omega)
  cases((zle ((za s10 9).1+1)).2 == 0)with
  | true=>rw[cond_true];exact mono (ymh q12 (by omega) (by omega) (by omega) hnm hp r3.1 (by omega) hm) (by omega)
  | false=>rw[cond_false];exact mono (ymh q12 (by omega) (by omega) (by omega) hnm hp r3.1 (by omega) zm) (by omega)
 | false=>rw[cond_false];exact mono (ymh q10 (by omega) (by omega) (by omega) hnm hp r3.1 (by omega) zm) (by omega)
theorem SrcOk.aid {n:Int} {s:l00Src} (h:SrcOk n s) (hn:n<=900000):SrcOk (n+400) (ztd s).2:=(ydz h hn).1
theorem yqw {n:Int} {r:Aid×l00Src} (h:AidP n r):bdAid r.1:=by
 obtain⟨_,h1,⟨h2,h3,h4⟩,h5,_⟩:=h;have hr:=y9b h1;have hm:=yvm hr.2.2.2.2.2.2.1;have hn:=y3n hr.2.2.1;have hs:=(y1e hr.2.2.2.2.2.2.2.2.1).2;refine⟨Nat.lt_of_le_of_lt hn (by decide),⟨Nat.lt_of_le_of_lt hm.2.2.1 (by decide),Nat.lt_of_le_of_lt hm.2.2.2.1 (by decide),Nat.lt_of_le_of_lt hm.2.2.2.2 (by decide)⟩,⟨Nat.lt_of_le_of_lt h2 (by decide),Nat.lt_of_le_of_lt h3 (by decide),Nat.lt_of_le_of_lt h4 (by decide)⟩,Nat.lt_of_le_of_lt h5 (by decide),fun v hv => ?_⟩;obtain⟨i,hi,e⟩:=List.getElem_of_mem hv;have:=(hs i).2.2.2.2;rw[List.getD_eq_getElem?_getD,List.getElem?_eq_getElem hi]at this;rw[<- e];exact Nat.lt_of_le_of_lt this (by decide)
theorem yt5 {n:Int} {s:l00Src} {a:Aid} (h:SrcOk n s) (hn:n<=100000000) (ha:bdAid a):SrcOk (n+4) (zbd s a).2/\bdAid (zbd s a).1/\(zbd s a).1.Light.Group=a.Light.Group/\(zbd s a).1.Sectors=a.Sectors:=by
 have q2:=h.pick (m:=24) (by omega);obtain⟨h1,h2,h3,h4⟩:=ha;unfold zbd;simp only[bnd];generalize (za s 24).2=s2 at q2 ⊢;generalize (za s 24).1=k;have am:∀ l:List Int,SrcOk (n+4) (zb s2 l).2:=fun l=>(q2.among (by omega)).mono (by omega)
 cases(k == 0)with
 | true=>exact⟨am _,⟨h1,h2,h3,h4⟩,rfl,rfl⟩
 | false=>
 rw[cond_false]
 cases(k == 1)with
 | true=>
  have ht:=y6g (l:=([[],[82,111,99,107]]:List (List UInt8))) q2 (by omega) (by decide);have hs:∀ y∈([[],[82,111,99,107]]:List (List UInt8)),bdS y:=by decide
  exact⟨(q2.text (by omega)).mono (by omega),⟨hs _ ht,h2,h3,h4⟩,rfl,rfl⟩
 | false=>
 rw[cond_false]
 cases(k == 2)with
 | true=>exact⟨am _,⟨h1,h2,h3,h4⟩,rfl,rfl⟩
 | false=>
 rw[cond_false]
 cases(k == 3)with
 | true=>exact⟨am _,⟨h1,h2,h3,h4⟩,rfl,rfl⟩
 | false=>
 rw[cond_false]
 cases(k == 4)with
 | true=>exact⟨am _,⟨h1,h2,h3,h4⟩,rfl,rfl⟩
 | false=>
 rw[cond_false]
 cases(k == 5)with
 | true=>exact⟨q2.mono (by show _<=n+4;omega),⟨h1,h2,⟨h3.1,h3.2.1,(by decide:bdS [87,82,71])⟩,h4⟩,rfl,rfl⟩
 | false=>
 rw[cond_false]
 cases(k == 6)with
 | true=>exact⟨q2.mono (by show _<=n+4;omega),⟨h1,h2,h3,h4⟩,rfl,rfl⟩
 | false=>exact⟨q2.mono (by show _<=n+4;omega),⟨h1,h2,h3,h4⟩,rfl,rfl⟩
theorem SrcOk.bend {n:Int} {s:l00Src} {a:Aid} (h:SrcOk n s) (hn:n<=100000000):SrcOk (n+4) (zbd s a).2:=by
 have q2:=h.pick (m:=24) (by omega);unfold zbd;simp only[bnd];generalize (za s 24).2=s2 at q2 ⊢;generalize (za s 24).1=k;have am:∀ l:List Int,SrcOk (n+4) (zb s2 l).2:=fun l=>(q2.among (by omega)).mono (by omega)
 have tx:∀ l:List (List UInt8),SrcOk (n+4) (zr s2 l).2:=fun l=>(q2.text (by omega)).mono (by omega)
 have q:=q2.mono (show n+2<=n+4 by omega);simp only[Bool.cond_eq_ite]
 (repeat' split)<;>first|exact am _|exact tx _|exact q
theorem yxs (P:Aid->Prop) (l:List Aid) (a:Aid) (hl:l.length<9223372036854775807) (hv:∀ v∈l,P v) (ha:P a):(∀ v∈(znc l a).1,P v)/\(znc l a).1.length<=l.length+1:=by
 rw[yto l a (by omega)]
 cases(decide (upto l a.Number<l.length) && ((l.getD (upto l a.Number) default).Number == a.Number))with
 | true=>exact⟨fun v hv=>by simp at hv,by simp⟩
 | false=>
  simp only[cond_false]
  cases((l.length:Int) == 24)with
  | true=>exact⟨fun v hv=>by simp at hv,by simp⟩
  | false=>
   simp only[cond_false,putA];refine⟨fun v h => ?_,by simp;omega⟩;simp only[List.mem_append,List.mem_singleton]at h;rcases h with(h|h)|h
   ·exact hv v (List.mem_of_mem_take h)
   ·subst h;exact ha
   ·exact hv v (List.mem_of_mem_drop h)
theorem y74 {α:Type} (P:α->Prop) (l:List α) (i:Nat) (a:α) (hv:∀ v∈l,P v) (ha:P a):∀ v∈l.set i a,P v:=fun v h=>by
 rcases List.mem_or_eq_of_mem_set h with h|h
 ·exact hv v h
 ·subst h;exact ha
def yhj (a0:l00Src) (q2:l00Src) (s1:Int×l00Src×List Aid):Except (Sum ((List Aid)×l00Src) (Int×l00Src×List Aid)) (Int×l00Src×List Aid):=
 (bif decide (0<s1.1)then(bnd ((ztd s1.2.1).2) fun q6=>(bif (((znc s1.2.2 ((ztd s1.2.1).1)).2) == 0)then .ok (IntKind.wrap .i64 (s1.1-1),q6,(znc s1.2.2 ((ztd s1.2.1).1)).1)else .ok (IntKind.wrap .i64 (s1.1-1),q6,s1.2.2)))else .error (.inr (s1.1,s1.2.1,s1.2.2)))
def zeb (a0:l00Src):(List Aid)×l00Src:=
 (bnd ((za a0 6).2) fun q2=>(match yeb (yhj a0 q2) (((((za a0 6).1)).toNat)+1) (((za a0 6).1),q2,([]:List Aid))with|.error (.inl e)=>e|.error (.inr s1)=>(s1.2.2,s1.2.1)|.ok _=>default))
namespace N52
theorem DD:DOk Tryz.prog (Go.Ab.DD [(42,dM [true,false] D_za),(83,dM [true] D_ztd),(84,dP D_znc)]):=ya yuc.e <| ya yq2.e <| ya yu2.e <| yd _
theorem dn:type_of% (And.intro @D_za.eq_1 <| And.intro @D_ztd.eq_1 <| @D_znc.eq_1):=by and_intros<;>intros<;>rfl
theorem o1 {p:Prop} (h:p:=by(first|(refine SrcOk.mono (by repeat' first|assumption|exact SrcOk.next ‹_› | apply SrcOk.next|apply SrcOk.pick|apply SrcOk.one|apply SrcOk.among|apply SrcOk.text|apply SrcOk.colors|apply SrcOk.point|apply SrcOk.chr|apply SrcOk.sectors|apply SrcOk.aid|apply SrcOk.aids|apply SrcOk.notice|omega) (by omega))|(exact SrcOk.mono hW1.2.2.1 (by omega)));first|done|fail):p:=h
set_option maxHeartbeats 2000000 in
set_option maxRecDepth 20000 in
theorem den (a0:l00Src) (hp0:SrcOk 400000 a0):DenM Tryz.prog 52 [.op (ym a0)] (ownL 69 16 eAid ((zeb a0).1)) [(.op (ym ((zeb a0).2)))]:=by
 generalize hR:zeb a0=r;unfold zeb at hR;refine dj (gb:=[true]) Tryz.func52 Tryz.ntmps52 Tryz.results52 ?_;intro c hL hc hk;obtain⟨hL0,_⟩:=hL;have hw0:bwl00Src a0:=y7 a0 hL0;clear hL0;simp only[adEL,adE,adRL,adR,ownL,encL,sv,List.nil_append,List.append_nil,List.cons_append,List.length_cons,List.length_nil,pars,Nat.zero_add,Nat.reduceAdd]at hk ⊢;have hpa:=fun(s:l00Src) (n:Int) (h:SrcOk n s) (hn:n<=900000)=>yqw (ydz h hn)
 iterate 3 refine rS ?_
 generalize hq2:(za a0 6).2=q2 at hR ⊢;replace hR:=bn hR;have hS_q2:SrcOk (400002) q2:=by rw[<- hq2];exact SrcOk.pick hp0 (by omega)
 refine AWP.block ?_;generalize hz1:yeb (yhj a0 q2) (((((za a0 6).1)).toNat)+1) (((za a0 6).1),q2,([]:List Aid))=z1 at hR;refine AWP.whileW (yhj a0 q2) (fun s1=>⟨[(0,.ptr 0 0),(3,.ref 1 16 0 s1.2.2.length),(4,.int .i64 s1.1)],[.box [encL 1 eIu8 s1.2.1.code,.int .i64 s1.2.1.at_,.int .u64 s1.2.1.seed],.arr 69 16 s1.2.2.length (fun j=>yud (s1.2.2.getD j default))]⟩) (fun s1=>0<=s1.1/\s1.1<=5/\SrcOk (400040+500 * (5-s1.1)) s1.2.1/\s1.2.2.length<=(5-s1.1).toNat/\∀ v∈s1.2.2,bdAid v) (fun s1=>(s1.1).toNat) (((((za a0 6).1)).toNat)+1) (((za a0 6).1),q2,([]:List Aid)) [0,1] hz1 m0 (by(have h2:=yg 6 hp0 (by omega);have h3:=h2.2 (by omega);exact⟨h2.1,by omega,SrcOk.mono (by assumption) (by omega),by simp,by simp⟩)) sm ?_;clear hz1;intro s1 k1 hW1 hm1 hz1;simp only[yhj]at hz1;refine rS ?_;refine AWP.cond rfl (fun hb => ?_) (fun hb => ?_)
 ·simp only[hb,cond_true]at hz1
  refine rS ?_;generalize hq6:(ztd s1.2.1).2=q6 at hz1 ⊢;rw[bndv q6]at hz1;have hS_q6:SrcOk (400040+500 * (5-s1.1)+400) q6:=by rw[<- hq6];exact SrcOk.aid hW1.2.2.1 (by omega)
  iterate 2 refine rS ?_
  refine AWP.cond rfl (fun hb => ?_) (fun hb => ?_)
  ·simp only[hb,cond_true]at hz1
   iterate 2 refine rS ?_
   clear hR;exact⟨_,[0,3],by(have hpos:0<s1.1:=of_decide_eq_true (by assumption);have hwr:IntKind.wrap .i64 (s1.1-1)=s1.1-1:=(by rw[IntKind.wrap_i64];omega);(try dsimp only);rw[hwr];omega),by(have hpos:0<s1.1:=of_decide_eq_true (by assumption);have hwr:IntKind.wrap .i64 (s1.1-1)=s1.1-1:=(by rw[IntKind.wrap_i64];omega);(try dsimp only);rw[hwr];have hG:=hW1.2.2.2.1;have hA:=hpa s1.2.1 _ hW1.2.2.1 (by omega);have hP:=yxs bdAid s1.2.2 (ztd s1.2.1).1 (by omega) hW1.2.2.2.2 hA;exact⟨by omega,by omega,SrcOk.mono (by assumption) (by omega),by omega,by first|exact hP.1|exact hW1.2.2.2.2⟩),hz1,sm⟩
  ·simp only[hb,cond_false]at hz1
   refine rS ?_;clear hR;exact⟨_,[0,1],by(have hpos:0<s1.1:=of_decide_eq_true (by assumption);have hwr:IntKind.wrap .i64 (s1.1-1)=s1.1-1:=(by rw[IntKind.wrap_i64];omega);(try dsimp only);rw[hwr];omega),by(have hpos:0<s1.1:=of_decide_eq_true (by assumption);have hwr:IntKind.wrap .i64 (s1.1-1)=s1.1-1:=(by rw[IntKind.wrap_i64];omega);(try dsimp only);rw[hwr];have hG:=hW1.2.2.2.1;have hA:=hpa s1.2.1 _ hW1.2.2.1 (by omega);have hP:=yxs bdAid s1.2.2 (ztd s1.2.1).1 (by omega) hW1.2.2.2.2 hA;exact⟨by omega,by omega,SrcOk.mono (by assumption) (by omega),by omega,by first|exact hP.1|exact hW1.2.2.2.2⟩),hz1,sm⟩
 ·simp only[hb,cond_false]at hz1
  refine AWP.exit ?_;refine yb ?_;subst hz1;dsimp only at hR;refine rS ?_;refine AWP.lendE 1 (fun j=>eAid (s1.2.2.getD j default)) rfl le1 ?_;simp only[setE];refine AWP.ret ?_;subst hR;exact es
end N52
def D_zeb : List AV -> Option (AV × List AV × List Prop)
 | [x0]=>some (ownL 69 16 eAid ((zeb (rdQ yn x0)).1),[(.op (ym ((zeb (rdQ yn x0)).2)))],[wQ ym yn x0,SrcOk 400000 (rdQ yn x0)])
 | _=>none
theorem ya3:OkM Tryz.prog 52 D_zeb:=by unfold D_zeb;exact dm N52.den
def AidQ (a:Aid):Prop:=bdAid a/\a.Light.Group.length<=2/\a.Sectors.length<=5
theorem y56 {n:Int} {r:Aid×l00Src} (h:AidP n r):AidQ r.1:=⟨yqw h,h.2.2.1.1,h.2.2.2.1⟩
theorem AidQ.l {a:Aid} (h:AidQ a):aidL a:=⟨Nat.lt_of_lt_of_le h.1.2.2.1.2.2 (by decide),by have:=h.2.2;omega⟩
structure AidsI (N:Int) (s:Int×l00Src×List Aid):Prop where
 a:0<=s.1
 b:s.1<=5
 q:SrcOk (N+400 * (5-s.1)) s.2.1
 n:(s.2.2.length:Int)<=5-s.1
 o:okP AidQ s.2.2
theorem yiy {N:Int} (a0 q2:l00Src) (hN:N<=500000) (k:Nat) (s:Int×l00Src×List Aid) (h:AidsI N s) (hk:s.1.toNat<k):∃ t,yeb (yhj a0 q2) k s=.error (.inr t)/\AidsI N t:=by
 obtain⟨e,h1,t,rfl,h2⟩:=y7d (b:=yhj a0 q2) (AidsI N) (fun e=>∃ t,e=.inr t/\AidsI N t) (fun s=>s.1.toNat) (fun s h=>by
  obtain⟨k,src,l⟩:=s;obtain⟨ha,hb,hs,hn,ho⟩:=h;simp only at ha hb hs hn ho;unfold yhj;simp only;by_cases hc:0<k
  ·rw[decide_eq_true hc,cond_true]
   left
   have hA:=ydz hs (by omega);have hw:IntKind.wrap .i64 (k-1)=k-1:=by rw[IntKind.wrap_i64];omega
   rw[hw];simp only[bnd];have hs2:=hA.1;have hQ:=y56 hA;have h1:=hA.2.1;generalize (ztd src).2=s2 at hs2;generalize (ztd src).1=a at hQ h1;have hpl:=(yxs (fun _=>True) l a (by omega) (fun _ _=>trivial) trivial).2
   cases hp:((znc l a).2 == 0)with
   | true=>
    rw[cond_true];rw[beq_iff_eq]at hp;have hok:=yv4 AidQ ho ⟨h1,hQ⟩ (t:=(znc l a).1) (Prod.ext rfl hp);exact⟨_,rfl,⟨by show 0<=k-1;omega,by show k-1<=5;omega,hs2.mono (by show _<=N+400 * (5-(k-1));omega),by show((znc l a).1.length:Int)<=5-(k-1);omega,hok⟩,by show(k-1).toNat<k.toNat;omega⟩
   | false=>
    rw[cond_false];exact⟨_,rfl,⟨by show 0<=k-1;omega,by show k-1<=5;omega,hs2.mono (by show _<=N+400 * (5-(k-1));omega),by show(l.length:Int)<=5-(k-1);omega,ho⟩,by show(k-1).toNat<k.toNat;omega⟩
  ·rw[decide_eq_false hc,cond_false]
   exact .inr ⟨_,rfl,_,rfl,ha,hb,hs,hn,ho⟩) k s h hk
 exact⟨t,h1,h2⟩
theorem yys {n:Int} {s:l00Src} (h:SrcOk n s) (hn:n<=400000):SrcOk (n+4000) (zeb s).2/\okP AidQ (zeb s).1/\(zeb s).1.length<=5:=by
 have hr:=yg 6 h (by omega);have hr2:=hr.2 (by omega);have q2:=h.pick (m:=6) (by omega);unfold zeb;simp only[bnd];obtain⟨t,e1,e2⟩:=yiy (N:=n+2) s (za s 6).2 (by omega) (((za s 6).1).toNat+1) ((za s 6).1,(za s 6).2,([]:List Aid)) ⟨hr.1,by show(za s 6).1<=5;omega,q2.mono (by show _<=n+2+400 * (5-(za s 6).1);omega),by show((0:Nat):Int)<=5-(za s 6).1;omega,⟨⟨by simp,List.Pairwise.nil,by simp⟩,by simp⟩⟩ (by show((za s 6).1).toNat<_;omega);rw[e1];have ha:=e2.a;have hl:=e2.n;exact⟨e2.q.mono (by omega),e2.o,by show t.2.2.length<=5;omega⟩
theorem SrcOk.aids {n:Int} {s:l00Src} (h:SrcOk n s) (hn:n<=400000):SrcOk (n+4000) (zeb s).2:=(yys h hn).1
def yfr (a0:l00Src) (q2:l00Src) (q4:l00Src) (q6:l00Src) (q8:l00Src) (q10:l00Src) (q12:l00Src) (i1:Nat) (s1:List Aid):Except ((List Aid)×l00Src) (List Aid):=
 .ok (s1++[{ Number:=IntKind.wrap .i64 ((i1:Int)+1),Name:=[113],At:={ X:=0,Y:=0:Point },Height:=0,Mark:={ Kind:=0,Colors:=[],Shape:=[],Topmark:=[]:Mark },Light:={ Kind:=0,Group:=[],Letter:=[],Colors:=[],Period:=0:Character },Sectors:=[],Intensity:=0:Aid }])
def ydr (a0:l00Src) (q2:l00Src) (q4:l00Src) (q14:l00Src) (q16:l00Src) (i2:Nat) (s2:List Aid):Except ((List Aid)×l00Src) (List Aid):=
 .ok (s2++[{ Number:=IntKind.wrap .i64 ((i2:Int)+1),Name:=[113],At:={ X:=0,Y:=0:Point },Height:=0,Mark:={ Kind:=0,Colors:=[],Shape:=[],Topmark:=[]:Mark },Light:={ Kind:=0,Group:=[],Letter:=[],Colors:=[],Period:=0:Character },Sectors:=[],Intensity:=0:Aid }])
def ydo (a0:l00Src) (q2:l00Src) (q18:l00Src) (q20:l00Src) (i3:Nat) (s3:List Aid):Except ((List Aid)×l00Src) (List Aid):=
 .ok (s3++[{ Number:=IntKind.wrap .i64 ((i3:Int)+1),Name:=[113],At:={ X:=0,Y:=0:Point },Height:=0,Mark:={ Kind:=0,Colors:=[],Shape:=[],Topmark:=[]:Mark },Light:={ Kind:=0,Group:=[],Letter:=[],Colors:=[],Period:=0:Character },Sectors:=[],Intensity:=0:Aid }])
def zsb (a0:l00Src):(List Aid)×l00Src:=
 (bnd ((zeb a0).2) fun q2=>(bif decide (0<(((zeb a0).1).length:Int))then(bnd ((zh q2 10).2) fun q4=>(bif ((zh q2 10).1)then(bnd ((za q4 (((zeb a0).1).length:Int)).2) fun q6=>(bnd ((zbd q6 (((zeb a0).1).getD ((((za q4 (((zeb a0).1).length:Int)).1)).toNat) default)).2) fun q8=>(bnd ((zh q8 24).2) fun q10=>(bif ((zh q8 24).1)then(bnd ((zb q10 ([24,25]:List Int)).2) fun q12=>(match yf (yfr a0 q2 q4 q6 q8 q10 q12) ((((zb q10 ([24,25]:List Int)).1)).toNat-0) 0 ([]:List Aid)with|.error e=>e|.ok s1=>(s1,q12)))else(((zeb a0).1).set ((((za q4 (((zeb a0).1).length:Int)).1)).toNat) ((zbd q6 (((zeb a0).1).getD ((((za q4 (((zeb a0).1).length:Int)).1)).toNat) default)).1),q10)))))else(bnd ((zh q4 24).2) fun q14=>(bif ((zh q4 24).1)then(bnd ((zb q14 ([24,25]:List Int)).2) fun q16=>(match yf (ydr a0 q2 q4 q14 q16) ((((zb q14 ([24,25]:List Int)).1)).toNat-0) 0 ([]:List Aid)with|.error e=>e|.ok s2=>(s2,q16)))else(((zeb a0).1),q14)))))else(bnd ((zh q2 24).2) fun q18=>(bif ((zh q2 24).1)then(bnd ((zb q18 ([24,25]:List Int)).2) fun q20=>(match yf (ydo a0 q2 q18 q20) ((((zb q18 ([24,25]:List Int)).1)).toNat-0) 0 ([]:List Aid)with|.error e=>e|.ok s3=>(s3,q20)))else(((zeb a0).1),q18)))))
namespace N32
theorem DD:DOk Tryz.prog (Go.Ab.DD [(42,dM [true,false] D_za),(44,dM [true,true] D_zb),(52,dM [true] D_zeb),(53,dM [true,false] D_zh),(54,dM [true,false] D_zbd)]):=ya yuc.e <| ya y7h.e <| ya ya3.e <| ya y6h.e <| ya ys1.e <| yd _
theorem dn:type_of% (And.intro @D_za.eq_1 <| And.intro @D_zb.eq_1 <| And.intro @D_zeb.eq_1 <| And.intro @D_zh.eq_1 <| @D_zbd.eq_1):=by and_intros<;>intros<;>rfl
theorem o1 {p:Prop} (h:p:=by(first|(exact(pk_b (by assumption) (by assumption) (by omega)).1)|(exact(pk_b (by assumption) (by assumption) (by omega)).2.1)|(exact(pk_b (by assumption) (by assumption) (by omega)).2.2)|(refine SrcOk.mono (by repeat' first|assumption|exact SrcOk.next ‹_› | apply SrcOk.next|apply SrcOk.pick|apply SrcOk.one|apply SrcOk.among|apply SrcOk.text|apply SrcOk.colors|apply SrcOk.point|apply SrcOk.chr|apply SrcOk.sectors|apply SrcOk.aid|apply SrcOk.aids|apply SrcOk.notice|omega) (by omega))|(exact(yg _ (by assumption) (by omega)).1)|(exact(yg _ (by assumption) (by omega)).2 (by omega))|(rename_i h9;simp only[beq_eq_false_iff_ne,ne_eq]at h9;exact(yg _ (by assumption) (by omega)).2 (by omega))|(rename_i h9;replace h9:=of_decide_eq_true h9;exact(yg _ (by assumption) (by omega)).2 (by omega))|(have h9:=ham q10 _ (by assumption) (by omega);omega)|(have h9:=ham q14 _ (by assumption) (by omega);omega)|(have h9:=ham q18 _ (by assumption) (by omega);omega));first|done|fail):p:=h
theorem o2 {p:Prop} (h:p:=by(first|((repeat' with_reducible apply And.intro)<;>first|(simp only[List.length_append,List.length_singleton];(first|done|fail))|(rw[IntKind.wrap_i64];omega)|(intro j hj;by_cases hji:j<s1.length;(focus(simp only[yjd hji,yeh hji,cond_true];first|(first|done|fail)|with_reducible rfl));(have e0:j-s1.length=0:=by omega);(simp only[ytd hji hj,y8g hji,cond_false,e0,elt,borrowL,borrow];first|(first|done|fail)|with_reducible rfl))|decide)|((repeat' with_reducible apply And.intro)<;>first|(simp only[List.length_append,List.length_singleton];(first|done|fail))|(rw[IntKind.wrap_i64];omega)|(intro j hj;by_cases hji:j<s2.length;(focus(simp only[yjd hji,yeh hji,cond_true];first|(first|done|fail)|with_reducible rfl));(have e0:j-s2.length=0:=by omega);(simp only[ytd hji hj,y8g hji,cond_false,e0,elt,borrowL,borrow];first|(first|done|fail)|with_reducible rfl))|decide)|((repeat' with_reducible apply And.intro)<;>first|(simp only[List.length_append,List.length_singleton];(first|done|fail))|(rw[IntKind.wrap_i64];omega)|(intro j hj;by_cases hji:j<s3.length;(focus(simp only[yjd hji,yeh hji,cond_true];first|(first|done|fail)|with_reducible rfl));(have e0:j-s3.length=0:=by omega);(simp only[ytd hji hj,y8g hji,cond_false,e0,elt,borrowL,borrow];first|(first|done|fail)|with_reducible rfl))|decide));first|done|fail):p:=h
theorem lx {p:Prop} (h:p:=by(exact lxx);first|done|fail):p:=h
set_option maxHeartbeats 2000000 in
set_option maxRecDepth 20000 in
theorem den (a0:l00Src) (hp0:SrcOk 300000 a0):DenM Tryz.prog 32 [.op (ym a0)] (encL 16 eAid ((zsb a0).1)) [(.op (ym ((zsb a0).2)))]:=by
 generalize hR:zsb a0=r;unfold zsb at hR;refine djL (gb:=[true]) Tryz.func32 Tryz.ntmps32 Tryz.results32 ?_;intro c hL hc hk;obtain⟨hL0,_⟩:=hL;have hw0:bwl00Src a0:=y7 a0 hL0;clear hL0;simp only[adEL,adE,adRL,adR,ownL,encL,sv,List.nil_append,List.append_nil,List.cons_append,List.length_cons,List.length_nil,pars,Nat.zero_add,Nat.reduceAdd]at hk ⊢;have hD0:=yys hp0 (by omega);have hD1:=hD0.1;have hD2:=hD0.2.2;have ham:=fun(s:l00Src) (n:Int) (h:SrcOk n s) (hn:n<=2000000)=>am24 h (by omega)
 iterate 2 refine rS ?_
 generalize hq2:(zeb a0).2=q2 at hR ⊢;replace hR:=bn hR;have hS_q2:SrcOk (304000) q2:=by rw[<- hq2];exact SrcOk.aids hp0 (by omega)
 refine AWP.seq ?_;refine AWP.seq ?_;rcases Bool.eq_false_or_eq_true (decide (0<(((zeb a0).1).length:Int)))with hb|hb
 ·replace hR:=ct hR
  refine rK [(4,0),(5,0),(6,2)] ?_;generalize hq4:(zh q2 10).2=q4 at hR ⊢;replace hR:=bn hR;have hS_q4:SrcOk (304002) q4:=by rw[<- hq4];exact SrcOk.one hS_q2 (by omega)
  refine AWP.cond rfl (fun hb => ?_) (fun hb => ?_)
  ·replace hR:=ct hR
   refine rS ?_;generalize hq6:(za q4 (((zeb a0).1).length:Int)).2=q6 at hR ⊢;replace hR:=bn hR;have hS_q6:SrcOk (304004) q6:=by rw[<- hq6];exact SrcOk.pick hS_q4 (by omega)
   refine rS ?_;refine AWP.arrS 1 (fun j=>eAid ((((zeb a0).1).set ((((za q4 (((zeb a0).1).length:Int)).1)).toNat) ((zbd q6 (((zeb a0).1).getD ((((za q4 (((zeb a0).1).length:Int)).1)).toNat) default)).1)).getD j default)) rfl (by intro i hi;by_cases hik:i=((((za q4 (((zeb a0).1).length:Int)).1)).toNat);(focus(subst hik;rw[ygz _ _ _ hi];simp only[beq_self_eq_true,cond_true];exact yt _));(rw[y8x _ _ _ _ hik];simp only[beq_eq_false_iff_ne.2 hik,cond_false];exact yt _)) ?_;simp only[setE];generalize hq8:(zbd q6 (((zeb a0).1).getD ((((za q4 (((zeb a0).1).length:Int)).1)).toNat) default)).2=q8 at hR ⊢;replace hR:=bn hR;have hS_q8:SrcOk (304008) q8:=by rw[<- hq8];exact SrcOk.bend hS_q6 (by omega)
   refine rS ?_;generalize hq10:(zh q8 24).2=q10 at hR ⊢;replace hR:=bn hR;have hS_q10:SrcOk (304010) q10:=by rw[<- hq10];exact SrcOk.one hS_q8 (by omega)
   refine AWP.cond rfl (fun hb => ?_) (fun hb => ?_)
   ·replace hR:=ct hR
    refine rS ?_;generalize hq12:(zb q10 ([24,25]:List Int)).2=q12 at hR ⊢;replace hR:=bn hR;have hS_q12:SrcOk (304012) q12:=by rw[<- hq12];exact SrcOk.among hS_q10 (by omega)
    iterate 2 refine rS ?_
    refine AWP.block ?_;generalize hz1:yf (yfr a0 q2 q4 q6 q8 q10 q12) ((((zb q10 ([24,25]:List Int)).1)).toNat-0) 0 ([]:List Aid)=z1 at hR;refine AWP.range (yfr a0 q2 q4 q6 q8 q10 q12) (fun i1 s1=>⟨[(3,.ref 1 16 0 s1.length),(5,.int .i64 ((zb q10 ([24,25]:List Int)).1)),(6,.int .i64 (i1:Int))],[.box [encL 1 eIu8 q12.code,.int .i64 q12.at_,.int .u64 q12.seed],.arr 69 16 s1.length (fun j=>yud (s1.getD j default))]⟩) (fun i1 s1=>s1.length<=([]:List Aid).length+1 * i1) ((((zb q10 ([24,25]:List Int)).1)).toNat) 0 ([]:List Aid) [0,3] hz1 ot wt sm ?_;clear hz1;intro i1 s1 hi1 hW1 hz1;refine rS ?_;refine AWP.cond rfl (fun hb => ?_) (fun hb => ?_)
    ·have hlt1:i1<(((zb q10 ([24,25]:List Int)).1)).toNat:=ot
     rw[yk hlt1]at hz1;simp only[yfr]at hz1;refine rS ?_;refine AWP.arrS 3 (fun j=>yud ((s1++[{ Number:=IntKind.wrap .i64 ((i1:Int)+1),Name:=[113],At:={ X:=0,Y:=0:Point },Height:=0,Mark:={ Kind:=0,Colors:=[],Shape:=[],Topmark:=[]:Mark },Light:={ Kind:=0,Group:=[],Letter:=[],Colors:=[],Period:=0:Character },Sectors:=[],Intensity:=0:Aid }]).getD j default)) rfl (by intro i hi;by_cases hji:i<(s1).length;(focus(simp only[joinF,yjd hji,yeh hji,cond_true];exact yt _));(have e0:i-(s1).length=0:=by omega);(simp only[joinF,ytd hji hi,y8g hji,cond_false,e0,elt,borrowL,borrow];(repeat' first|exact rfl|exact trivial|refine⟨?_,?_⟩))) ?_;simp only[setE];refine rS ?_;clear hR;exact⟨_,[0,3],hlt1,wt,hz1,sm⟩
    ·obtain rfl:i1=(((zb q10 ([24,25]:List Int)).1)).toNat:=ot
     rw[yl (Nat.le_refl _)]at hz1;subst hz1;dsimp only at hR;refine AWP.exit ?_;refine yb ?_;refine rS ?_;refine AWP.ret ?_;subst hR;exact esL
   ·replace hR:=cf hR
    refine rS ?_;refine AWP.ret ?_;subst hR;exact esL
  ·replace hR:=cf hR
   refine rS ?_;generalize hq14:(zh q4 24).2=q14 at hR ⊢;replace hR:=bn hR;have hS_q14:SrcOk (304004) q14:=by rw[<- hq14];exact SrcOk.one hS_q4 (by omega)
   refine AWP.cond rfl (fun hb => ?_) (fun hb => ?_)
   ·replace hR:=ct hR
    refine rS ?_;generalize hq16:(zb q14 ([24,25]:List Int)).2=q16 at hR ⊢;replace hR:=bn hR;have hS_q16:SrcOk (304006) q16:=by rw[<- hq16];exact SrcOk.among hS_q14 (by omega)
    iterate 2 refine rS ?_
    refine AWP.block ?_;generalize hz2:yf (ydr a0 q2 q4 q14 q16) ((((zb q14 ([24,25]:List Int)).1)).toNat-0) 0 ([]:List Aid)=z2 at hR;refine AWP.range (ydr a0 q2 q4 q14 q16) (fun i2 s2=>⟨[(3,.ref 1 16 0 s2.length),(5,.int .i64 ((zb q14 ([24,25]:List Int)).1)),(6,.int .i64 (i2:Int))],[.box [encL 1 eIu8 q16.code,.int .i64 q16.at_,.int .u64 q16.seed],.arr 69 16 s2.length (fun j=>yud (s2.getD j default))]⟩) (fun i2 s2=>s2.length<=([]:List Aid).length+1 * i2) ((((zb q14 ([24,25]:List Int)).1)).toNat) 0 ([]:List Aid) [0,3] hz2 ot wt sm ?_;clear hz2;intro i2 s2 hi2 hW2 hz2;refine rS ?_;refine AWP.cond rfl (fun hb => ?_) (fun hb => ?_)
    ·have hlt2:i2<(((zb q14 ([24,25]:List Int)).1)).toNat:=ot
     rw[yk hlt2]at hz2;simp only[ydr]at hz2;refine rS ?_;refine AWP.arrS 3 (fun j=>yud ((s2++[{ Number:=IntKind.wrap .i64 ((i2:Int)+1),Name:=[113],At:={ X:=0,Y:=0:Point },Height:=0,Mark:={ Kind:=0,Colors:=[],Shape:=[],Topmark:=[]:Mark },Light:={ Kind:=0,Group:=[],Letter:=[],Colors:=[],Period:=0:Character },Sectors:=[],Intensity:=0:Aid }]).getD j default)) rfl (by intro i hi;by_cases hji:i<(s2).length;(focus(simp only[joinF,yjd hji,yeh hji,cond_true];exact yt _));(have e0:i-(s2).length=0:=by omega);(simp only[joinF,ytd hji hi,y8g hji,cond_false,e0,elt,borrowL,borrow];(repeat' first|exact rfl|exact trivial|refine⟨?_,?_⟩))) ?_;simp only[setE];refine rS ?_;clear hR;exact⟨_,[0,3],hlt2,wt,hz2,sm⟩
    ·obtain rfl:i2=(((zb q14 ([24,25]:List Int)).1)).toNat:=ot
     rw[yl (Nat.le_refl _)]at hz2;subst hz2;dsimp only at hR;refine AWP.exit ?_;refine yb ?_;refine rS ?_;refine AWP.ret ?_;subst hR;exact esL
   ·replace hR:=cf hR
    refine rS ?_;refine AWP.ret ?_;subst hR;exact esL
 ·replace hR:=cf hR
  refine rK [(4,1),(5,1),(6,3)] ?_;refine AWP.cond rfl (fun hb => ?_) (fun hb => ?_)
  ·exact absurd hb (by decide)
  ·refine rS ?_
   generalize hq18:(zh q2 24).2=q18 at hR ⊢;replace hR:=bn hR;have hS_q18:SrcOk (304002) q18:=by rw[<- hq18];exact SrcOk.one hS_q2 (by omega)
   refine AWP.cond rfl (fun hb => ?_) (fun hb => ?_)
   ·replace hR:=ct hR
    refine rS ?_;generalize hq20:(zb q18 ([24,25]:List Int)).2=q20 at hR ⊢;replace hR:=bn hR;have hS_q20:SrcOk (304004) q20:=by rw[<- hq20];exact SrcOk.among hS_q18 (by omega)
    iterate 2 refine rS ?_
    refine AWP.block ?_;generalize hz3:yf (ydo a0 q2 q18 q20) ((((zb q18 ([24,25]:List Int)).1)).toNat-0) 0 ([]:List Aid)=z3 at hR;refine AWP.range (ydo a0 q2 q18 q20) (fun i3 s3=>⟨[(3,.ref 1 16 0 s3.length),(5,.int .i64 ((zb q18 ([24,25]:List Int)).1)),(6,.int .i64 (i3:Int))],[.box [encL 1 eIu8 q20.code,.int .i64 q20.at_,.int .u64 q20.seed],.arr 69 16 s3.length (fun j=>yud (s3.getD j default))]⟩) (fun i3 s3=>s3.length<=([]:List Aid).length+1 * i3) ((((zb q18 ([24,25]:List Int)).1)).toNat) 0 ([]:List Aid) [0,3] hz3 ot wt sm ?_;clear hz3;intro i3 s3 hi3 hW3 hz3;refine rS ?_;refine AWP.cond rfl (fun hb => ?_) (fun hb => ?_)
    ·have hlt3:i3<(((zb q18 ([24,25]:List Int)).1)).toNat:=ot
     rw[yk hlt3]at hz3;simp only[ydo]at hz3;refine rS ?_;refine AWP.arrS 3 (fun j=>yud ((s3++[{ Number:=IntKind.wrap .i64 ((i3:Int)+1),Name:=[113],At:={ X:=0,Y:=0:Point },Height:=0,Mark:={ Kind:=0,Colors:=[],Shape:=[],Topmark:=[]:Mark },Light:={ Kind:=0,Group:=[],Letter:=[],Colors:=[],Period:=0:Character },Sectors:=[],Intensity:=0:Aid }]).getD j default)) rfl (by intro i hi;by_cases hji:i<(s3).length;(focus(simp only[joinF,yjd hji,yeh hji,cond_true];exact yt _));(have e0:i-(s3).length=0:=by omega);(simp only[joinF,ytd hji hi,y8g hji,cond_false,e0,elt,borrowL,borrow];(repeat' first|exact rfl|exact trivial|refine⟨?_,?_⟩))) ?_;simp only[setE];refine rS ?_;clear hR;exact⟨_,[0,3],hlt3,wt,hz3,sm⟩
    ·obtain rfl:i3=(((zb q18 ([24,25]:List Int)).1)).toNat:=ot
     rw[yl (Nat.le_refl _)]at hz3;subst hz3;dsimp only at hR;refine AWP.exit ?_;refine yb ?_;refine rS ?_;refine AWP.ret ?_;subst hR;exact esL
   ·replace hR:=cf hR
    refine rS ?_;refine AWP.ret ?_;subst hR;exact esL
end N32
def D_zsb : List AV -> Option (AV × List AV × List Prop)
 | [x0]=>some (encL 16 eAid ((zsb (rdQ yn x0)).1),[(.op (ym ((zsb (rdQ yn x0)).2)))],[wQ ym yn x0,SrcOk 300000 (rdQ yn x0)])
 | _=>none
theorem y81:OkM Tryz.prog 32 D_zsb:=by unfold D_zsb;exact dm N32.den
def qAid (i:Int):Aid:={ Number:=i,Name:=[113],At:={ X:=0,Y:=0:Point },Height:=0,Mark:={ Kind:=0,Colors:=[],Shape:=[],Topmark:=[]:Mark },Light:={ Kind:=0,Group:=[],Letter:=[],Colors:=[],Period:=0:Character },Sectors:=[],Intensity:=0 }
theorem yq7 (i:Int):AidQ (qAid i):=⟨⟨(by decide:bdS [113]),(by decide:bdMark ({ Kind:=0,Colors:=[],Shape:=[],Topmark:=[]:Mark })),(by decide:bdCharacter ({ Kind:=0,Group:=[],Letter:=[],Colors:=[],Period:=0:Character })),(by decide:([]:List Sector).length<1099511627776),by simp[qAid]⟩,(by decide:([]:List Int).length<=2),(by decide:([]:List Sector).length<=5)⟩
theorem y93 {ρ : Type} (b : Nat -> List Aid -> Except ρ (List Aid)) (hb : ∀ i s, b i s = .ok (s ++ [qAid (IntKind.wrap .i64 ((i : Int) + 1))])) : ∀ (k i : Nat) (s : List Aid), (∀ v ∈ s, AidQ v) -> ∃ t, yf b k i s = .ok t /\ (∀ v ∈ t, AidQ v) /\ t.length = s.length + k
 | 0,i,s,h=>⟨s,rfl,h,rfl⟩
 | k+1,i,s,h=>by
  obtain⟨t,h1,h2,h3⟩:=y93 b hb k (i+1) (s++[qAid (IntKind.wrap .i64 ((i:Int)+1))]) (fun v hv=>by
   rcases List.mem_append.1 hv with hv|hv
   ·exact h v hv
   ·rw[List.mem_singleton]at hv;subst hv;exact yq7 _)
  refine⟨t,by simp only[yf,hb];exact h1,h2,?_⟩;rw[h3,List.length_append,List.length_singleton];omega
def ypz (n:Int) (r:List Aid×l00Src):Prop:=SrcOk n r.2/\(∀ v∈r.1,AidQ v)/\r.1.length<=25
theorem ys5 {n:Int} {s:l00Src} (h:SrcOk n s) (hn:n<=2000000000):(zb s ([24,25]:List Int)).1=24\/(zb s ([24,25]:List Int)).1=25:=by
 have:=y5e (l:=([24,25]:List Int)) h hn (by decide);simp only[List.mem_cons,List.not_mem_nil,or_false]at this;exact this
theorem ykk {n:Int} {s:l00Src} {l:List Aid} (q:SrcOk n s) (hn:n<=1000000) (Q:∀ v∈l,AidQ v) (hl:l.length<=25) (b:l00Src->Nat->List Aid->Except ((List Aid)×l00Src) (List Aid)) (hb:∀ q i s,b q i s=.ok (s++[qAid (IntKind.wrap .i64 ((i:Int)+1))])) :
  ypz (n+4) (bif (zh s 24).1 then(match yf (b (zb (zh s 24).2 ([24,25]:List Int)).2) (((zb (zh s 24).2 ([24,25]:List Int)).1).toNat-0) 0 ([]:List Aid)with|.error e=>e|.ok s1=>(s1,(zb (zh s 24).2 ([24,25]:List Int)).2))else(l,(zh s 24).2)):=by
 have q14:=q.one (m:=24) (by omega)
 cases(zh s 24).1 with
 | true=>
  rw[cond_true];generalize (zh s 24).2=s14 at q14;have q16:=q14.among (l:=([24,25]:List Int)) (by omega);have hm:=ys5 q14 (by omega);obtain⟨t,h1,h2,h3⟩:=y93 (b (zb s14 ([24,25]:List Int)).2) (fun i s=>hb _ i s) (((zb s14 ([24,25]:List Int)).1).toNat-0) 0 [] (by simp);rw[h1];exact⟨q16.mono (by omega),h2,by show t.length<=25;rw[h3];simp only[List.length_nil];omega⟩
 | false=>exact⟨q14.mono (by omega),Q,hl⟩
theorem y0x {n:Int} {s:l00Src} (h:SrcOk n s) (hn:n<=300000):ypz (n+4100) (zsb s):=by
 obtain⟨q2,ho,hl⟩:=yys h (by omega);have mono:∀ {m:Int} {r:List Aid×l00Src},ypz m r->m<=n+4100->ypz (n+4100) r:=fun h h2=>⟨h.1.mono h2,h.2⟩
 unfold zsb;simp only[bnd];generalize (zeb s).2=s2 at q2;generalize (zeb s).1=l at ho hl;have Q:=ho.2
 cases hc:decide (0<(l.length:Int))with
 | false=>
  rw[cond_false];exact mono (ykk q2 (by omega) Q (by omega) (ydo s s2 (zh s2 24).2) (fun q i s=>rfl)) (by omega)
 | true=>
 rw[cond_true];rw[decide_eq_true_eq]at hc;have q4:=q2.one (m:=10) (by omega)
 cases(zh s2 10).1 with
 | false=>
  rw[cond_false];exact mono (ykk q4 (by omega) Q (by omega) (ydr s s2 (zh s2 10).2 (zh (zh s2 10).2 24).2) (fun q i s=>rfl)) (by omega)
 | true=>
 rw[cond_true];generalize (zh s2 10).2=s4 at q4;have r6:=yg (l.length:Int) q4 (by omega);have r62:=r6.2 (by omega);have q6:=q4.pick (m:=(l.length:Int)) (by omega);generalize (za s4 (l.length:Int)).2=s6 at q6;generalize (za s4 (l.length:Int)).1=i at r6 r62
 have hi:l.getD i.toNat default∈l:=by
  rw[List.getD_eq_getElem?_getD,List.getElem?_eq_getElem (show i.toNat<l.length by omega)];exact List.getElem_mem _
 have hQ:=Q _ hi;obtain⟨q8,b1,b2,b3⟩:=yt5 q6 (by omega) hQ.1;have hB:AidQ (zbd s6 (l.getD i.toNat default)).1:=⟨b1,by rw[b2];exact hQ.2.1,by rw[b3];exact hQ.2.2⟩
 generalize (zbd s6 (l.getD i.toNat default)).2=s8 at q8;generalize (zbd s6 (l.getD i.toNat default)).1=b at hB;exact mono (ykk q8 (by omega) (y74 AidQ l _ _ Q hB) (by rw[List.length_set];omega) (yfr s s2 s4 s6 s8 (zh s8 24).2) (fun q i s=>rfl)) (by omega)
theorem SrcOk.aidsD {n:Int} {s:l00Src} (h:SrcOk n s) (hn:n<=300000):SrcOk (n+4100) (zsb s).2:=(y0x h hn).1
def yop (a0:(List Aid)) (i1:Nat) (s1:List Item):Except (((List Item)×Int)) (List Item):=
 .ok (s1++[{ Key:=[110]++(zvf ((a0.getD i1 default).Number) 4),Text:=(zdd (a0.getD i1 default)):Item }])
def zib (a0:(List Aid)):((List Item)×Int):=
 (bif (!(zmd a0))then([],1)else(match yf (yop a0) (a0.length-0) 0 ([]:List Item)with|.error e=>e|.ok s1=>(s1,0)))
namespace N14
theorem DD:DOk Tryz.prog (Go.Ab.DD [(33,dP D_zmd),(34,dP D_zvf),(35,dP D_zdd)]):=ya y10.e <| ya yc3.e <| ya y4t.e <| yd _
theorem dn:type_of% (And.intro @D_zmd.eq_1 <| And.intro @D_zvf.eq_1 <| @D_zdd.eq_1):=by and_intros<;>intros<;>rfl
theorem gr {p:Prop} (h:p:=by(grind [yxy]);first|done|fail):p:=h
theorem o0 {p:Prop} (h:p:=by(first|(have h9:=y9b (y6m (hva (by assumption)) i1 (by assumption));have l1:=yur _ h9.1 h9.2.1;have l2:=y4s (a0.getD i1 default) (hbe i1);have hbd:=hbe i1;(repeat' with_reducible apply And.intro)<;>first|with_reducible assumption|omega|(simp only[List.length_append,List.length_cons,List.length_nil,List.length_singleton];omega)));first|done|fail):p:=h
set_option maxHeartbeats 1000000 in
set_option maxRecDepth 20000 in
theorem den (a0:(List Aid)) (hb0:a0.length<1099511627776) (hb1:∀ v∈a0,bdAid v):Den Tryz.prog 14 [encL 16 eAid a0] (.tup [ownL 38 2 yr ((zib a0).1),.int .i64 ((zib a0).2)]):=by
 generalize hR:zib a0=r;unfold zib at hR;refine di Tryz.func14 Tryz.ntmps14 Tryz.results14 ?_;intro c hL hc hk;obtain⟨hL0,_⟩:=hL;have hw0:a0.length<9223372036854775808:=Nat.lt_succ_of_le (yc hL0).1;have hw1:∀ v∈a0,bwAid v:=fun v hv=>ylb v ((yc hL0).2 v hv)
 clear hL0;simp only[pars,Nat.zero_add];have hva:=fun h=>yp3 (l:=a0) hb1 h
 have hbe:∀ i:Nat,bdAid (a0.getD i default):=fun i=>y3c hb1 (by decide) i
 iterate 2 refine rS ?_
 refine AWP.cond rfl (fun hb => ?_) (fun hb => ?_)
 ·replace hR:=ct hR
  refine rS ?_;refine AWP.ret ?_;subst hR;exact es
 ·replace hR:=cf hR
  iterate 2 refine rS ?_
  refine AWP.block ?_;generalize hz1:yf (yop a0) (a0.length-0) 0 ([]:List Item)=z1 at hR;refine AWP.range (yop a0) (fun i1 s1=>⟨[(4,.ref 0 2 0 s1.length),(11,encL 16 eAid a0),(12,.int .i64 (a0.length:Int)),(13,.int .i64 (i1:Int))],[.arr 38 2 s1.length (fun j=>yr (s1.getD j default))]⟩) (fun i1 s1=>s1.length<=([]:List Item).length+1 * i1/\s1.length<=i1) (a0.length) 0 ([]:List Item) [0] hz1 ot wt sm ?_;clear hz1;intro i1 s1 hi1 hW1 hz1;refine rS ?_;refine AWP.seq ?_;refine AWP.cond rfl (fun hb => ?_) (fun hb => ?_)
  ·have hlt1:i1<a0.length:=ot
   rw[yk hlt1]at hz1;simp only[yop]at hz1;refine rS ?_;refine AWP.regP mixed G_ok DD hc 9 [0,1,2,3,4,5,6,7] (.alt 8 [] [0,1] .leaf .stop) (by kernel_rfl) (by kernel_rfl) (by kernel_rfl) (fun K hK => ?_);simp only[yxh,runN,runP,ycc,nthO,ea,absV,absVL,cput,gv,sv,dn,reduceCtorEq,reduceIte,Nat.reduceBEq,Nat.reduceAdd,Nat.reduceEqDiff,Nat.reduceLT,Nat.reduceLeDiff,Nat.reduceMul,Nat.reduceSub,BEq.rfl,beq_self_eq_true,Int.reduceToNat];repeat' apply And.intro
   all_goals first|refine hK _ ?_|exact ot
   all_goals clear hK K
   refine rS ?_;exact⟨_,[3],hlt1,wt,hz1,sm⟩
  ·obtain rfl:i1=a0.length:=ot
   rw[yl (Nat.le_refl _)]at hz1;subst hz1;dsimp only at hR;refine AWP.exit ?_;refine yb ?_;refine rS ?_;refine AWP.ret ?_;subst hR;exact es
end N14
def D_zib : DF
 | [x0]=>some (.tup [ownL 38 2 yr ((zib (rdL dAid x0)).1),.int .i64 ((zib (rdL dAid x0)).2)],false,[wL 16 eAid dAid x0,(rdL dAid x0).length<1099511627776,∀ v∈(rdL dAid x0),bdAid v])
 | _=>none
theorem ye1:OkD Tryz.prog 14 D_zib:=by unfold D_zib;exact dk N14.den
def y2l (a0:(List Item)) (i1:Nat) (s1:List Aid):Except (((List Aid)×Int)) (List Aid):=
 (bif (!((zhf ((a0.getD i1 default).Key)).2))then .ok s1 else(bif (!((zaf ((a0.getD i1 default).Text)).2))then .error ([],9)else(bif ((((zaf ((a0.getD i1 default).Text)).1).Number) != ((zhf ((a0.getD i1 default).Key)).1))then .error ([],6)else .ok (s1++[(zaf ((a0.getD i1 default).Text)).1]))))
def zuc (a0:(List Item)):((List Aid)×Int):=
 (bif (!(zab a0))then([],1)else(match yf (y2l a0) (a0.length-0) 0 ([]:List Aid)with|.error e=>e|.ok s1=>(bif (!(zx (s1.length:Int) 24))then([],5)else(s1,0))))
namespace N15
theorem DD:DOk Tryz.prog (Go.Ab.DD [(20,dP D_zab),(23,dP D_zx),(36,dP D_zhf),(37,dP D_zaf)]):=ya y5i.e <| ya yfe.e <| ya yu0.e <| ya yl3.e <| yd _
theorem dn:type_of% (And.intro @D_zab.eq_1 <| And.intro @D_zx.eq_1 <| And.intro @D_zhf.eq_1 <| @D_zaf.eq_1):=by and_intros<;>intros<;>rfl
theorem gr {p:Prop} (h:p:=by(grind [yrk]);first|done|fail):p:=h
theorem o0 {p:Prop} (h:p:=by(first|(have h9:=hit (by assumption) i1 (by assumption);(repeat' with_reducible apply And.intro)<;>first|with_reducible assumption|omega|(simp only[List.length_append,List.length_cons,List.length_nil,List.length_singleton];omega)|(simp only[ob,ln,ol]at *;omega)));first|done|fail):p:=h
set_option maxHeartbeats 1000000 in
set_option maxRecDepth 20000 in
theorem den (a0:(List Item)) (hb0:a0.length<1099511627776) (hb1:∀ v∈a0,bdItem v):Den Tryz.prog 15 [encL 2 yr a0] (.tup [ownL 69 16 yud ((zuc a0).1),.int .i64 ((zuc a0).2)]):=by
 generalize hR:zuc a0=r;unfold zuc at hR;refine di Tryz.func15 Tryz.ntmps15 Tryz.results15 ?_;intro c hL hc hk;obtain⟨hL0,_⟩:=hL;have hw0:a0.length<9223372036854775808:=Nat.lt_succ_of_le (yc hL0).1;have hw1:∀ v∈a0,bwItem v:=fun v hv=>y6 v ((yc hL0).2 v hv)
 clear hL0;simp only[pars,Nat.zero_add];have hit:=fun h i hi=>yil (l:=a0) h i hi
 iterate 2 refine rS ?_
 refine AWP.cond rfl (fun hb => ?_) (fun hb => ?_)
 ·replace hR:=ct hR
  refine rS ?_;refine AWP.ret ?_;subst hR;exact es
 ·replace hR:=cf hR
  iterate 2 refine rS ?_
  refine AWP.block ?_;generalize hz1:yf (y2l a0) (a0.length-0) 0 ([]:List Aid)=z1 at hR;refine AWP.range (y2l a0) (fun i1 s1=>⟨[(4,.ref 0 16 0 s1.length),(15,encL 2 yr a0),(16,.int .i64 (a0.length:Int)),(17,.int .i64 (i1:Int))],[.arr 69 16 s1.length (fun j=>yud (s1.getD j default))]⟩) (fun i1 s1=>s1.length<=([]:List Aid).length+1 * i1/\s1.length<=i1) (a0.length) 0 ([]:List Aid) [0] hz1 ot wt sm ?_;clear hz1;intro i1 s1 hi1 hW1 hz1;refine rS ?_;refine AWP.seq ?_;refine AWP.cond rfl (fun hb => ?_) (fun hb => ?_)
  ·have hlt1:i1<a0.length:=ot
   rw[yk hlt1]at hz1;simp only[y2l]at hz1;iterate 3 refine rS ?_
   refine AWP.cond rfl (fun hb => ?_) (fun hb => ?_)
   ·simp only[hb,cond_true]at hz1
    refine AWP.exit ?_;refine yb ?_;refine rS ?_;exact⟨_,[0],hlt1,wt,hz1,sm⟩
   ·simp only[hb,cond_false]at hz1
    iterate 2 refine rS ?_
    refine AWP.cond rfl (fun hb => ?_) (fun hb => ?_)
    ·simp only[hb,cond_true]at hz1
     refine rS ?_;refine AWP.ret ?_;subst hz1;dsimp only at hR;subst hR;exact es
    ·simp only[hb,cond_false]at hz1
     refine rS ?_;refine AWP.cond rfl (fun hb => ?_) (fun hb => ?_)
     ·simp only[hb,cond_true]at hz1
      refine rS ?_;refine AWP.ret ?_;subst hz1;dsimp only at hR;subst hR;exact es
     ·simp only[hb,cond_false]at hz1
      iterate 2 refine rS ?_
      exact⟨_,[6],hlt1,wt,hz1,sm⟩
  ·obtain rfl:i1=a0.length:=ot
   rw[yl (Nat.le_refl _)]at hz1;subst hz1;dsimp only at hR;refine AWP.exit ?_;refine yb ?_;refine rS ?_;refine AWP.cond rfl (fun hb => ?_) (fun hb => ?_)
   ·replace hR:=ct hR
    refine rS ?_;refine AWP.ret ?_;subst hR;exact es
   ·replace hR:=cf hR
    refine rS ?_;refine AWP.ret ?_;subst hR;exact es
end N15
def D_zuc : DF
 | [x0]=>some (.tup [ownL 69 16 yud ((zuc (rdL yp x0)).1),.int .i64 ((zuc (rdL yp x0)).2)],false,[wL 2 yr yp x0,(rdL yp x0).length<1099511627776,∀ v∈(rdL yp x0),bdItem v])
 | _=>none
theorem yo0:OkD Tryz.prog 15 D_zuc:=by unfold D_zuc;exact dk N15.den
end Go.Ab
