/- A part of a proof: walks of functions and lemmas of our own. No conditions. -/
import Derived.Test.YtijmcongeemehaaGreatDoorFBb
import Derived.Test.YtijmcongeemehaaGreatDoorFAy
import Derived.Test.YtijmcongeemehaaGreatDoorFAz
import Derived.Test.YtijmcongeemehaaGreatDoorFAu
import Derived.Test.YtijmcongeemehaaGreatDoorFAt
import Derived.Test.YtijmcongeemehaaGreatDoorFBa
import Derived.Test.YtijmcongeemehaaGreatDoorFAv
import Derived.Test.YtijmcongeemehaaGreatDoorFAl
import Derived.Test.YtijmcongeemehaaGreatDoorFAi
import Derived.Test.YtijmcongeemehaaGreatDoorFAq
import Derived.Test.YtijmcongeemehaaGreatDoorFAr
import Derived.Test.YtijmcongeemehaaGreatDoorFAk
import Derived.Test.YtijmcongeemehaaGreatDoorFAo
import Derived.Test.YtijmcongeemehaaGreatDoorFAm
set_option linter.unusedSectionVars false
set_option linter.unusedVariables false
set_option linter.unusedSimpArgs false
set_option maxHeartbeats 1000000
namespace Go.Ab
open Go Go.Proofs
theorem yor (a:List Sector):zlb a=ytd a (ytd a (ytd a (ytd a [] 87) 82) 71) 89:=by
 unfold zlb;simp only[yf,Nat.sub_zero];rw[ylc a 0 [] 87 rfl];simp only;rw[ylc a (0+1) _ 82 rfl];simp only;rw[ylc a (0+1+1) _ 71 rfl];simp only;rw[ylc a (0+1+1+1) _ 89 rfl]
theorem y4q {a:List Sector} (h:zy a=true) (hl:0<a.length):(zlb a).length<=3->zob (zlb a)=true:=by
 have h1:=(yvd h).2 0 hl
 have hc:zee (a.getD 0 default).Color=true:=by
  unfold zfc at h1;rw[Bool.and_eq_true]at h1;exact h1.2
 have hm:a.getD 0 default∈a:=by
  rw[List.getD_eq_getElem?_getD,List.getElem?_eq_getElem hl];exact List.getElem_mem hl
 have hany:(a.any (fun x=>x.Color == [87]) || (a.any (fun x=>x.Color == [82]) || (a.any (fun x=>x.Color == [71]) || a.any (fun x=>x.Color == [89]))))=true:=by
  unfold zee at hc;simp only[Bool.or_eq_true,List.any_eq_true]at hc ⊢;rcases hc with((hc|hc)|hc)|hc
  ·exact .inl ⟨_,hm,hc⟩
  ·exact .inr (.inl ⟨_,hm,hc⟩)
  ·exact .inr (.inr (.inl ⟨_,hm,hc⟩))
  ·exact .inr (.inr (.inr ⟨_,hm,hc⟩))
 rw[yor];unfold ytd;revert hany
 cases a.any (fun x=>x.Color == [87])<;>cases a.any (fun x=>x.Color == [82])<;>cases a.any (fun x=>x.Color == [71])<;>cases a.any (fun x=>x.Color == [89])<;>intro hany h3<;>first|(exact absurd hany (by decide))|(exact absurd h3 (by decide))|decide +kernel
theorem yn6 {K:Int} {G:List Int} {L C C':List UInt8} {P:Int} (h:ztb { Kind:=K,Group:=G,Letter:=L,Colors:=C,Period:=P }=true) (h2:zob C'=true):ztb { Kind:=K,Group:=G,Letter:=L,Colors:=C',Period:=P }=true:=by
 have hC:zob C=true:=by
  cases hc:zob C with
  | true=>rfl
  | false=>
   unfold ztb zod at h;simp only[hc,Bool.not_false,Bool.or_true,cond_true,Bool.not_true]at h;cases h
 rw[<- h];unfold ztb;rw[ywj K G L C P hC,ywj K G L C' P h2];rfl
def y9y (N:Int) (nm:List UInt8) (p:Point) (h:Int) (mk:Mark) (q:l00Src):Aid×l00Src:=
 (bnd ((zh q 5).2) fun q14=>(bif ((zh q 5).1)then({ Number:=N,Name:=nm,At:=p,Height:=h,Mark:=mk,Light:={ Kind:=0,Group:=[],Letter:=[],Colors:=[],Period:=0:Character },Sectors:=[],Intensity:=0:Aid },q14)else(bnd ((zj q14).2) fun q16=>(bnd ((zb q16 ([10,1000,20000,1000000,1]:List Int)).2) fun q18=>(bnd ((zh q18 2).2) fun q20=>(bif ((zh q18 2).1)then({ Number:=N,Name:=nm,At:=p,Height:=h,Mark:=mk,Light:={ Kind:=((zj q14).1).Kind,Group:=((zj q14).1).Group,Letter:=((zj q14).1).Letter,Colors:=(((zj q14).1).Colors).take 1,Period:=((zj q14).1).Period:Character },Sectors:=[],Intensity:=((zb q16 ([10,1000,20000,1000000,1]:List Int)).1):Aid },q20)else(bnd ((zbb q20).2) fun q22=>(bif ((((zbb q20).1).length:Int) == 0)then({ Number:=N,Name:=nm,At:=p,Height:=h,Mark:=mk,Light:={ Kind:=((zj q14).1).Kind,Group:=((zj q14).1).Group,Letter:=((zj q14).1).Letter,Colors:=(((zj q14).1).Colors).take 1,Period:=((zj q14).1).Period:Character },Sectors:=((zbb q20).1),Intensity:=((zb q16 ([10,1000,20000,1000000,1]:List Int)).1):Aid },q22)else(bif decide (3<((zlb ((zbb q20).1)).length:Int))then({ Number:=N,Name:=nm,At:=p,Height:=h,Mark:=mk,Light:={ Kind:=((zj q14).1).Kind,Group:=((zj q14).1).Group,Letter:=((zj q14).1).Letter,Colors:=[71],Period:=((zj q14).1).Period:Character },Sectors:=[{ From:=10,To:=200,Color:=[71]:Sector }],Intensity:=((zb q16 ([10,1000,20000,1000000,1]:List Int)).1):Aid },q22)else({ Number:=N,Name:=nm,At:=p,Height:=h,Mark:=mk,Light:={ Kind:=((zj q14).1).Kind,Group:=((zj q14).1).Group,Letter:=((zj q14).1).Letter,Colors:=(zlb ((zbb q20).1)),Period:=((zj q14).1).Period:Character },Sectors:=((zbb q20).1),Intensity:=((zb q16 ([10,1000,20000,1000000,1]:List Int)).1):Aid },q22))))))))))
def AidP (n:Int) (r:Aid×l00Src):Prop:=SrcOk n r.2/\zmb r.1=true/\(r.1.Light.Group.length<=2/\r.1.Light.Letter.length<=1/\r.1.Light.Colors.length<=3)/\r.1.Sectors.length<=5/\r.1.Number<=30
theorem yrz {C:List UInt8} (h:C∈nineC):zob (C.take 1)=true/\(C.take 1).length=1:=by
 have:(nineC.all fun C=>zob (C.take 1) && decide ((C.take 1).length=1))=true:=by decide +kernel
 have:=List.all_eq_true.1 this C h;rw[Bool.and_eq_true,decide_eq_true_eq]at this;exact this
theorem yci {n:Int} {N:Int} {nm:List UInt8} {p:Point} {h:Int} {mk:Mark} {q:l00Src} (hq:SrcOk n q) (hn:n<=1000000) (h1:1<=N) (h2:N<=30) (h3:zlc nm=true) (h4:zdc p=true) (h5:0<=h) (h6:h<=3000) (h7:zuc mk=true):AidP (n+310) (y9y N nm p h mk q):=by
 have base:∀ (L:Character) (S:List Sector) (I:Int),(bif (zvc L)then(((S.length:Int) == 0) && (I == 0))else(bif (((!(ztb L)) || (!(zn I 1 100000000))) || (!(zy S)))then false else(bif ((S.length:Int) == 0)then((L.Colors.length:Int) == 1)else((zlb S) == L.Colors))))=true->zmb { Number:=N,Name:=nm,At:=p,Height:=h,Mark:=mk,Light:=L,Sectors:=S,Intensity:=I:Aid }=true:=fun L S I hh=>by
  unfold zmb;have e1:zn N 1 9999=true:=by unfold zn;simp;omega
  have e2:zn h 0 3000=true:=by unfold zn;simp;omega
  simp only[e1,e2,h3,h4,h7,Bool.not_true,Bool.or_self,cond_false];exact hh
 have lit:∀ (L:Character) (S:List Sector) (I:Int),ztb L=true->1<=I->I<=100000000->zy S=true->(bif ((S.length:Int) == 0)then((L.Colors.length:Int) == 1)else((zlb S) == L.Colors))=true->zmb { Number:=N,Name:=nm,At:=p,Height:=h,Mark:=mk,Light:=L,Sectors:=S,Intensity:=I:Aid }=true:=fun L S I g1 g2 g3 g4 g5=>base L S I (by
  have e0:zvc L=false:=by
   cases e:zvc L with
   | false=>rfl
   | true=>
    unfold zvc at e;simp only[Bool.and_eq_true,beq_iff_eq]at e;unfold ztb zod zof zn at g1;rw[e.1.1.1.1]at g1;cases g1
  have e1:zn I 1 100000000=true:=by unfold zn;simp;omega
  rw[e0,g1,e1,g4]
  exact g5)
 unfold y9y;have q14:=hq.one (m:=5) (by omega);simp only[bnd];generalize (zh q 5).2=s14 at q14
 cases(zh q 5).1 with
 | true=>rw[cond_true];exact⟨q14.mono (by show _<=n+310;omega),base _ _ _ rfl,(by decide:([]:List Int).length<=2/\([]:List UInt8).length<=1/\([]:List UInt8).length<=3),by show(0:Nat)<=5;omega,h2⟩
 | false=>
  rw[cond_false];obtain⟨q16,c1,c2,c3,c4⟩:=yqv q14 (by omega);generalize (zj s14).2=s16 at q16;generalize (zj s14).1=c at c1 c2 c3 c4;obtain⟨K,G,L,C,P⟩:=c;simp only at c2 c3 c4;have hI:=yff (l:=([10,1000,20000,1000000,1]:List Int)) q16 (by omega) (by decide);have q18:=q16.among (l:=([10,1000,20000,1000000,1]:List Int)) (by omega);generalize (zb s16 ([10,1000,20000,1000000,1]:List Int)).2=s18 at q18;generalize (zb s16 ([10,1000,20000,1000000,1]:List Int)).1=I at hI;have hI:1<=I/\I<=100000000:=by simp only[List.mem_cons,List.not_mem_nil,or_false]at hI;omega
  have q20:=q18.one (m:=2) (by omega);generalize (zh s18 2).2=s20 at q20;obtain⟨t1,t2⟩:=yrz c2
  have z1:zmb { Number:=N,Name:=nm,At:=p,Height:=h,Mark:=mk,Light:={ Kind:=K,Group:=G,Letter:=L,Colors:=C.take 1,Period:=P:Character },Sectors:=[],Intensity:=I:Aid }=true:=lit _ _ _ (yn6 c1 t1) hI.1 hI.2 (by decide +kernel) (by
   show(((C.take 1).length:Int) == 1)=true
   rw[t2];rfl)
  cases(zh s18 2).1 with
  | true=>exact⟨q20.mono (by show _<=n+310;omega),z1,⟨c3,c4,by show(C.take 1).length<=3;omega⟩,by show(0:Nat)<=5;omega,h2⟩
  | false=>
   rw[cond_false];obtain⟨q22,d1,d2⟩:=y6t q20 (by omega);generalize (zbb s20).2=s22 at q22;generalize (zbb s20).1=S at d1 d2;by_cases hS:S.length=0
   ·have hS2:S=[]:=List.length_eq_zero_iff.1 hS
    subst hS2;exact⟨q22.mono (by show _<=n+310;omega),z1,⟨c3,c4,by show(C.take 1).length<=3;omega⟩,by show(0:Nat)<=5;omega,h2⟩
   ·have e0:((S.length:Int) == 0)=false:=by rw[beq_eq_false_iff_ne];omega
    rw[e0,cond_false];by_cases h3':3<((zlb S).length:Int)
    ·rw[decide_eq_true h3',cond_true]
     exact⟨q22.mono (by show _<=n+310;omega),lit _ _ _ (yn6 c1 (by decide +kernel)) hI.1 hI.2 (by decide +kernel) (by show((zlb [{ From:=10,To:=200,Color:=[71]:Sector }]) == [71])=true;decide +kernel),⟨c3,c4,by show(1:Nat)<=3;omega⟩,by show(1:Nat)<=5;omega,h2⟩
    ·rw[decide_eq_false h3',cond_false]
     exact⟨q22.mono (by show _<=n+310;omega),lit _ _ _ (yn6 c1 (y4q d2 (by omega) (by omega))) hI.1 hI.2 d2 (by rw[e0,cond_false];simp),⟨c3,c4,by show(zlb S).length<=3;omega⟩,d1,h2⟩
theorem yo8 {k:Int} (h1:1<=k) (h2:k<=9):zuc (zge k).1=true:=by
 rcases(show k=1\/k=2\/k=3\/k=4\/k=5\/k=6\/k=7\/k=8\/k=9 by omega)with e|e|e|e|e|e|e|e|e<;>rw[e]<;>decide +kernel
theorem yeq {n:Int} {s:l00Src} (h:SrcOk n s) (hn:n<=900000):AidP (n+400) (zt s):=by
 have mono:∀ {m:Int} {r:Aid×l00Src},AidP m r->m<=n+400->AidP (n+400) r:=fun h h2=>⟨h.1.mono h2,h.2⟩
 have r1:=yg 30 h (by omega);have r12:=r1.2 (by omega);have q2:=h.pick (m:=30) (by omega);have w1:IntKind.wrap .i64 ((za s 30).1+1)=(za s 30).1+1:=by rw[IntKind.wrap_i64];omega
 unfold zt;simp only[bnd];rw[w1];generalize (za s 30).2=s2 at q2;obtain⟨N,hN⟩:∃ N,N=(za s 30).1+1:=⟨_,rfl⟩
 rw[<- hN];have hnm:=yvh (l:=([[114,111,99,107],[101,97,115,116],[112,105,101,114],[98,97,114],[99,97,112,101]]:List (List UInt8))) q2 (by omega) (by decide);have q4:=q2.text (l:=([[114,111,99,107],[101,97,115,116],[112,105,101,114],[98,97,114],[99,97,112,101]]:List (List UInt8))) (by omega);generalize (zw s2 ([[114,111,99,107],[101,97,115,116],[112,105,101,114],[98,97,114],[99,97,112,101]]:List (List UInt8))).2=s4 at q4;generalize (zw s2 ([[114,111,99,107],[101,97,115,116],[112,105,101,114],[98,97,114],[99,97,112,101]]:List (List UInt8))).1=nm at hnm
 have hnm:zlc nm=true:=by
  have hs:∀ y∈([[114,111,99,107],[101,97,115,116],[112,105,101,114],[98,97,114],[99,97,112,101]]:List (List UInt8)),zlc y=true:=by decide +kernel
  exact hs nm hnm
 obtain⟨q6,hp⟩:=yzv q4 (by omega);generalize (zxb s4).2=s6 at q6;generalize (zxb s4).1=p at hp;have r3:=yg 500 q6 (by omega);have r32:=r3.2 (by omega);have q8:=q6.pick (m:=500) (by omega);generalize (za s6 500).2=s8 at q8;generalize (za s6 500).1=hh at r3 r32;have q10:=q8.one (m:=2) (by omega);generalize (zh s8 2).2=s10 at q10;have zm:zuc { Kind:=0,Colors:=[],Shape:=[],Topmark:=[]:Mark }=true:=by decide +kernel
 cases(zh s8 2).1 with
 | true=>
  rw[cond_true];have r4:=yg 9 q10 (by omega);have r42:=r4.2 (by omega);have q12:=q10.pick (m:=9) (by omega);have w2:IntKind.wrap .i64 ((za s10 9).1+1)=(za s10 9).1+1:=by rw[IntKind.wrap_i64];omega
  rw[w2];generalize (za s10 9).2=s12 at q12;have hm:=yo8 (k:=(za s10 9).1+1) (by omega) (by omega)
  cases((zge ((za s10 9).1+1)).2 == 0)with
  | true=>rw[cond_true];exact mono (yci q12 (by omega) (by omega) (by omega) hnm hp r3.1 (by omega) hm) (by omega)
  | false=>rw[cond_false];exact mono (yci q12 (by omega) (by omega) (by omega) hnm hp r3.1 (by omega) zm) (by omega)
 | false=>rw[cond_false];exact mono (yci q10 (by omega) (by omega) (by omega) hnm hp r3.1 (by omega) zm) (by omega)
theorem SrcOk.aid {n:Int} {s:l00Src} (h:SrcOk n s) (hn:n<=900000):SrcOk (n+400) (zt s).2:=(yeq h hn).1
theorem y5w {n:Int} {r:Aid×l00Src} (h:AidP n r):bdAid r.1:=by
 obtain⟨_,h1,⟨h2,h3,h4⟩,h5,_⟩:=h;have hr:=y6e h1;have hm:=y8g hr.2.2.2.2.2.2.1;have hn:=ybu hr.2.2.1;have hs:=(yne hr.2.2.2.2.2.2.2.2.1).2;refine⟨Nat.lt_of_le_of_lt hn (by decide),⟨Nat.lt_of_le_of_lt hm.2.2.1 (by decide),Nat.lt_of_le_of_lt hm.2.2.2.1 (by decide),Nat.lt_of_le_of_lt hm.2.2.2.2 (by decide)⟩,⟨Nat.lt_of_le_of_lt h2 (by decide),Nat.lt_of_le_of_lt h3 (by decide),Nat.lt_of_le_of_lt h4 (by decide)⟩,Nat.lt_of_le_of_lt h5 (by decide),fun v hv => ?_⟩;obtain⟨i,hi,e⟩:=List.getElem_of_mem hv;have:=(hs i).2.2.2.2;rw[List.getD_eq_getElem?_getD,List.getElem?_eq_getElem hi]at this;rw[<- e];exact Nat.lt_of_le_of_lt this (by decide)
theorem y8r {n:Int} {s:l00Src} {a:Aid} (h:SrcOk n s) (hn:n<=100000000) (ha:bdAid a):SrcOk (n+4) (zsb s a).2/\bdAid (zsb s a).1/\(zsb s a).1.Light.Group=a.Light.Group/\(zsb s a).1.Sectors=a.Sectors:=by
 have q2:=h.pick (m:=24) (by omega);obtain⟨h1,h2,h3,h4⟩:=ha;unfold zsb;simp only[bnd];generalize (za s 24).2=s2 at q2 ⊢;generalize (za s 24).1=k;have am:∀ l:List Int,SrcOk (n+4) (zb s2 l).2:=fun l=>(q2.among (by omega)).mono (by omega)
 cases(k == 0)with
 | true=>exact⟨am _,⟨h1,h2,h3,h4⟩,rfl,rfl⟩
 | false=>
 rw[cond_false]
 cases(k == 1)with
 | true=>
  have ht:=yvh (l:=([[],[82,111,99,107]]:List (List UInt8))) q2 (by omega) (by decide);have hs:∀ y∈([[],[82,111,99,107]]:List (List UInt8)),bdS y:=by decide
  exact⟨(q2.text (by omega)).mono (by omega),⟨hs _ ht,h2,h3,h4⟩,rfl,rfl⟩
 | false=>
 rw[cond_false]
 cases(k == 2)with
 | true=>exact⟨am _,⟨h1,h2,h3,h4⟩,rfl,rfl⟩
 | false=>
 rw[cond_false]
 cases(k == 3)with
 | true=>exact⟨am _,⟨h1,h2,h3,h4⟩,rfl,rfl⟩
 | false=>
 rw[cond_false]
 cases(k == 4)with
 | true=>exact⟨am _,⟨h1,h2,h3,h4⟩,rfl,rfl⟩
 | false=>
 rw[cond_false]
 cases(k == 5)with
 | true=>exact⟨q2.mono (by show _<=n+4;omega),⟨h1,h2,⟨h3.1,h3.2.1,(by decide:bdS [87,82,71])⟩,h4⟩,rfl,rfl⟩
 | false=>
 rw[cond_false]
 cases(k == 6)with
 | true=>exact⟨q2.mono (by show _<=n+4;omega),⟨h1,h2,h3,h4⟩,rfl,rfl⟩
 | false=>exact⟨q2.mono (by show _<=n+4;omega),⟨h1,h2,h3,h4⟩,rfl,rfl⟩
theorem SrcOk.bend {n:Int} {s:l00Src} {a:Aid} (h:SrcOk n s) (hn:n<=100000000):SrcOk (n+4) (zsb s a).2:=by
 have q2:=h.pick (m:=24) (by omega);unfold zsb;simp only[bnd];generalize (za s 24).2=s2 at q2 ⊢;generalize (za s 24).1=k;have am:∀ l:List Int,SrcOk (n+4) (zb s2 l).2:=fun l=>(q2.among (by omega)).mono (by omega)
 have tx:∀ l:List (List UInt8),SrcOk (n+4) (zw s2 l).2:=fun l=>(q2.text (by omega)).mono (by omega)
 have q:=q2.mono (show n+2<=n+4 by omega);simp only[Bool.cond_eq_ite]
 (repeat' split)<;>first|exact am _|exact tx _|exact q
theorem yjy {a:List Aid} (h:zmc a=true):a.length<=24:=by
 unfold zmc at h;split at h
 ·rename_i e he
  obtain⟨j,t,_,_,h3⟩:=ypc he;simp only[yti,Bool.cond_eq_ite]at h3;split at h3
  ·cases h3;cases h
  ·cases h3
 ·have:=of_decide_eq_true h;omega
theorem y3e {a:List Aid} (h:zub a=true):a.length<=24:=by
 unfold zub at h;split at h
 ·rename_i e he
  obtain⟨j,t,_,_,h3⟩:=ypc he;simp only[y4j,Bool.cond_eq_ite]at h3;split at h3
  ·cases h3;cases h
  ·cases h3
 ·unfold zyb at h;have:=of_decide_eq_true h;omega
theorem ylu {ρ α:Type} [Inhabited α] (l:List α) (b:Nat->List α->Except ρ (List α)) (hb:∀ i s,b i s=.ok (s++[l.getD i default])):yf b (l.length-0) 0 ([]:List α)=.ok l:=by
 obtain⟨t,h1,h2⟩:=yqb (b:=b) (fun i s=>s=l.take i) (k:=l.length-0) (i:=0) (s:=[]) (by simp) (by
  intro j u _ hj h;subst h
  exact⟨_,hb j _,(yxl l j (by omega)).symm⟩)
 rw[h1,h2];simp
theorem ysc (a:Aid):zdd a=a:=by simp[zdd,zeg,zfg]
theorem yeb (l:List Aid):zrc l=l:=by
 unfold zrc;rw[show(List.replicate 0 (default:Aid))=[]from rfl,ylu l (yom l) (fun i s=>by simp only[yom,ysc])]
theorem y7p (a:Aid):zxe a=a:=by simp[zxe,zhg,zgg]
theorem yki (l:List Aid):zvd l=l:=by
 unfold zvd;rw[ylu l (ylm l) (fun i s=>by simp only[ylm,y7p])]
def zcc (a0:(List Aid)) (a1:Aid):((List Aid)×Int):=
 (bif ((!(zub a0)) || (!(zxc a1)))then([],1)else(bif (zab a0 a1.Number).2 then([],4)else(bif ((a0.length:Int) == 24)then([],5)else(((zjf (zrc a0) ((zab a0 a1.Number).1) [zdd a1])),0))))
namespace N25
theorem DD:DOk Tryz.prog (Go.Ab.DD [(59,dP D_zxc),(74,dP D_zub),(75,dP D_zab),(76,dM [true,false,true] D_zjf),(77,dP D_zrc),(78,dP D_zdd)]):=ya ynj.e <| ya yej.e <| ya ypj.e <| ya yo0.e <| ya yrn.e <| ya yuj.e <| ye _
theorem dn:type_of% (And.intro @D_zxc.eq_1 <| And.intro @D_zub.eq_1 <| And.intro @D_zab.eq_1 <| And.intro @D_zjf.eq_1 <| And.intro @D_zrc.eq_1 <| @D_zdd.eq_1):=by and_intros<;>intros<;>rfl
theorem ol:type_of% (@yeb):=@yeb
theorem gr {p:Prop} (h:p:=by(grind [y3e,yyi]);first|done|fail):p:=h
theorem o1 {p:Prop} (h:p:=by(first|(have h9:=y3e (a:=a0) (by simp_all);simp only[ob,ln,ol]at *;omega));first|done|fail):p:=h
theorem den (a0:(List Aid)) (a1:Aid) (hb0:a0.length<1099511627776) (hb1:∀ v∈a0,bdAid v) (hb2:bdAid a1):Den Tryz.prog 25 [encL 16 eAid a0,.agg (eAid a1)] (.tup [ownL 59 16 yob ((zcc a0 a1).1),.int .i64 ((zcc a0 a1).2)]):=by
 generalize hR:zcc a0 a1=r;unfold zcc at hR;refine di Tryz.func25 Tryz.ntmps25 Tryz.results25 ?_;intro c hL hc hk;obtain⟨hL0,hL1,_⟩:=hL;have hw0:a0.length<9223372036854775808:=Nat.lt_succ_of_le (yc hL0).1;have hw1:∀ v∈a0,bwAid v:=fun v hv=>y5 v ((yc hL0).2 v hv)
 have hw2:bwAid a1:=y5 a1 hL1;clear hL0 hL1;simp only[pars,Nat.zero_add];have hix:=yyi a0 a1.Number hw0;iterate 2 refine rS ?_
 refine AWP.cond rfl (fun hb => ?_) (fun hb => ?_)
 ·replace hR:=ct hR
  refine rS ?_;refine AWP.ret ?_;subst hR;exact es
 ·replace hR:=cf hR
  iterate 2 refine rS ?_
  refine AWP.cond rfl (fun hb => ?_) (fun hb => ?_)
  ·replace hR:=ct hR
   refine rS ?_;refine AWP.ret ?_;subst hR;exact es
  ·replace hR:=cf hR
   refine rS ?_;refine AWP.cond rfl (fun hb => ?_) (fun hb => ?_)
   ·replace hR:=ct hR
    refine rS ?_;refine AWP.ret ?_;subst hR;exact es
   ·replace hR:=cf hR
    refine AWP.skip ?_;refine AWP.seq ?_;refine AWP.regP mixed G_ok DD hc 6 [0,2,3] (.alt 1 [] [2,3] (.alt 4 [] [2] (.alt 5 [] [2] .leaf .stop) .stop) .stop) (by kernel_rfl) (by kernel_rfl) (by kernel_rfl) (fun K hK => ?_);simp only[ydj,runN,runP,yjc,nthO,ea,absV,absVL,cput,gv,sv,dn,reduceCtorEq,reduceIte,Nat.reduceBEq,Nat.reduceAdd,Nat.reduceEqDiff,Nat.reduceLT,Nat.reduceLeDiff,Nat.reduceMul,Nat.reduceSub,BEq.rfl,beq_self_eq_true,Int.reduceToNat];repeat' apply And.intro
    all_goals first|refine hK _ ?_|exact ot
    all_goals clear hK K
    refine AWP.ret ?_;subst hR;exact es
end N25
def D_zcc : DF
 | [x0,x1]=>some (.tup [ownL 59 16 yob ((zcc (rdL dAid x0) (rdG dAid x1)).1),.int .i64 ((zcc (rdL dAid x0) (rdG dAid x1)).2)],false,[wL 16 eAid dAid x0,wG eAid dAid x1,(rdL dAid x0).length<1099511627776,∀ v∈(rdL dAid x0),bdAid v,bdAid (rdG dAid x1)])
 | _=>none
theorem yc2:OkD Tryz.prog 25 D_zcc:=by unfold D_zcc;exact dk N25.den
def y0m (a0:(List Aid)) (a1:Aid) (s1:Int):Except (Sum (((List Aid)×Int)) (Int)) (Int):=
 (bif (decide (s1<(a0.length:Int)) && decide (((a0.getD ((s1).toNat) default).Number)<a1.Number))then .ok (IntKind.wrap .i64 (s1+1))else .error (.inr s1))
def zoc (a0:(List Aid)) (a1:Aid):((List Aid)×Int):=
 (match y0 (y0m a0 a1) ((a0.length-((0:Int)).toNat)+1) 0 with|.error (.inl e)=>e|.error (.inr s1)=>(bif (decide (s1<(a0.length:Int)) && (((a0.getD ((s1).toNat) default).Number) == a1.Number))then([],4)else(bif ((a0.length:Int) == 24)then([],5)else(((zvd (subL a0 0 ((s1).toNat)))++[zxe a1])++(zvd (subL a0 ((s1).toNat) (a0.length-(s1).toNat))),0)))|.ok _=>default)
namespace N103
theorem DD:DOk Tryz.prog (Go.Ab.DD [(187,dP D_zvd),(188,dP D_zxe)]):=ya yj3.e <| ya yut.e <| ye _
theorem dn:type_of% (And.intro @D_zvd.eq_1 <| @D_zxe.eq_1):=by and_intros<;>intros<;>rfl
theorem ol:type_of% (@yki):=@yki
theorem den (a0:(List Aid)) (a1:Aid) (hb0:a0.length<1099511627776) (hb1:∀ v∈a0,bdAid v) (hb2:bdAid a1) (hp0:a0.length<=1073741824):Den Tryz.prog 103 [encL 16 eAid a0,.ep (eAid a1)] (.tup [ownL 59 16 yob ((zoc a0 a1).1),.int .i64 ((zoc a0 a1).2)]):=by
 generalize hR:zoc a0 a1=r;unfold zoc at hR;refine di Tryz.func103 Tryz.ntmps103 Tryz.results103 ?_;intro c hL hc hk;obtain⟨hL0,hL1,_⟩:=hL;have hw0:a0.length<9223372036854775808:=Nat.lt_succ_of_le (yc hL0).1;have hw1:∀ v∈a0,bwAid v:=fun v hv=>y5 v ((yc hL0).2 v hv)
 have hw2:bwAid a1:=y5 a1 hL1;clear hL0 hL1;simp only[pars,Nat.zero_add];iterate 2 refine rS ?_
 refine AWP.seq ?_;refine AWP.block ?_;generalize hz1:y0 (y0m a0 a1) ((a0.length-((0:Int)).toNat)+1) 0=z1 at hR;refine AWP.whileW (y0m a0 a1) (fun s1=>⟨[(0,encL 16 eAid a0),(1,.ep (eAid a1)),(6,.int .i64 s1)],[]⟩) (fun s1=>0<=s1/\s1<=a0.length) (fun s1=>a0.length-(s1).toNat) ((a0.length-((0:Int)).toNat)+1) 0 [] hz1 m0 wt sm ?_;clear hz1;intro s1 k1 hW1 hm1 hz1;simp only[y0m]at hz1;refine rD 16 ?_;refine AWP.cond rfl (fun hb => ?_) (fun hb => ?_)
 ·simp only[hb,cond_true]at hz1
  refine rS ?_;exact⟨_,[],ms,wt,hz1,sm⟩
 ·simp only[hb,cond_false]at hz1
  refine AWP.exit ?_;refine yb ?_;subst hz1;dsimp only at hR;refine rD 16 ?_;refine AWP.cond rfl (fun hb => ?_) (fun hb => ?_)
  ·replace hR:=ct hR
   refine rS ?_;refine AWP.ret ?_;subst hR;exact es
  ·replace hR:=cf hR
   refine rS ?_;refine AWP.cond rfl (fun hb => ?_) (fun hb => ?_)
   ·replace hR:=ct hR
    refine rS ?_;refine AWP.ret ?_;subst hR;exact es
   ·replace hR:=cf hR
    iterate 3 refine rS ?_
    refine AWP.ret ?_;subst hR;exact es
end N103
def D_zoc : DF
 | [x0,x1]=>some (.tup [ownL 59 16 yob ((zoc (rdL dAid x0) (rdP dAid x1)).1),.int .i64 ((zoc (rdL dAid x0) (rdP dAid x1)).2)],false,[wL 16 eAid dAid x0,wP eAid dAid x1,(rdL dAid x0).length<1099511627776,∀ v∈(rdL dAid x0),bdAid v,bdAid (rdP dAid x1),(rdL dAid x0).length<=1073741824])
 | _=>none
theorem yr0:OkD Tryz.prog 103 D_zoc:=by unfold D_zoc;exact dk N103.den
def aidL (v:Aid):Prop:=v.Light.Colors.length<9223372036854775808/\v.Sectors.length<9223372036854775807
theorem y6w {α:Type} [Inhabited α] (l:List α) (n:Nat) (h:n<=l.length):subL l 0 n=l.take n:=by
 apply ytn
 ·simp[subL,h]
 ·intro i hi
  have hi:i<n:=by simpa [subL]using hi
  simp only[subL,Nat.zero_add];rw[List.getD_eq_getElem?_getD,List.getD_eq_getElem?_getD,List.getElem?_map,List.getElem?_range hi,List.getElem?_take,if_pos hi];simp[List.getD_eq_getElem?_getD]
theorem yey {α:Type} [Inhabited α] (l:List α) (n:Nat) (h:n<=l.length):subL l n (l.length-n)=l.drop n:=by
 apply ytn
 ·simp[subL]
 ·intro i hi
  have hi:i<l.length-n:=by simpa [subL]using hi
  simp only[subL];rw[List.getD_eq_getElem?_getD,List.getD_eq_getElem?_getD,List.getElem?_map,List.getElem?_range hi,List.getElem?_drop];simp[List.getD_eq_getElem?_getD]
theorem yj1 (l:List Aid) (a:Aid) (hl:l.length<9223372036854775808):y0 (y0m l a) ((l.length-((0:Int)).toNat)+1) 0=.error (.inr (upto l a.Number:Int)):=by
 have:=yvr l a.Number hl (y0m l a) (fun s=>rfl) l [] (l.length-(0:Int).toNat+1) rfl (by simp);simp only[List.length_nil,Nat.zero_add]at this;have e0:((0:Nat):Int)=0:=rfl;simp only[e0]at this;exact this
def putA (l:List Aid) (a:Aid):List Aid:=l.take (upto l a.Number)++[a]++l.drop (upto l a.Number)
theorem yal (l:List Aid) (a:Aid) (hl:l.length<9223372036854775808) :
  zoc l a=bif (decide (upto l a.Number<l.length) && ((l.getD (upto l a.Number) default).Number == a.Number))then([],4)else(bif ((l.length:Int) == 24)then([],5)else(putA l a,0)):=by
 unfold zoc;rw[yj1 l a hl];have hu:=yoe l a.Number
 have e:(decide ((upto l a.Number:Int)<(l.length:Int)) && ((l.getD ((upto l a.Number:Int)).toNat default).Number == a.Number))=(decide (upto l a.Number<l.length) && ((l.getD (upto l a.Number) default).Number == a.Number)):=by
  rw[Int.toNat_natCast];congr 1
  exact decide_eq_decide.2 (by omega)
 simp only[yki,y7p];rw[e];simp only[Int.toNat_natCast];rw[y6w l _ hu,yey l _ hu];rfl
theorem yzz (a b:Sector):(a.From == b.From && (a.To == b.To && a.Color == b.Color))=decide (a=b):=by
 cases a;cases b
 apply Bool.eq_iff_iff.2;simp[Sector.mk.injEq]
theorem yyj (a b:List Sector):zbe a b=decide (a=b):=by
 unfold zbe;by_cases hl:a.length=b.length
 ·have h1:((a.length:Int) != (b.length:Int))=false:=by simp[hl]
  rw[h1,cond_false,ykd (b:=yqm a b) (fun j => !decide (a.getD j default=b.getD j default)) false (fun j u _ _=>by simp only[yqm,yzz])];simp only[Nat.sub_zero,Nat.zero_add];rw[y6x a b hl];by_cases h:a=b<;>simp[h]
 ·have h1:((a.length:Int) != (b.length:Int))=true:=by simp;omega
  have h2:¬ a=b:=fun e=>hl (by rw[e])
  rw[h1,cond_true,decide_eq_false h2]
def zvb (a0:(List Aid)) (a1:Aid):((List Aid)×Int):=
 (bif ((!(zub a0)) || (!(zxc a1)))then([],1)else(bif (!((zab a0 a1.Number).2))then([],3)else((zrc a0).set (((zab a0 a1.Number).1).toNat) (zdd a1),0)))
namespace N32
theorem DD:DOk Tryz.prog (Go.Ab.DD [(59,dP D_zxc),(74,dP D_zub),(75,dP D_zab),(77,dP D_zrc),(78,dP D_zdd)]):=ya ynj.e <| ya yej.e <| ya ypj.e <| ya yrn.e <| ya yuj.e <| ye _
theorem dn:type_of% (And.intro @D_zxc.eq_1 <| And.intro @D_zub.eq_1 <| And.intro @D_zab.eq_1 <| And.intro @D_zrc.eq_1 <| @D_zdd.eq_1):=by and_intros<;>intros<;>rfl
theorem ol:type_of% (@yeb):=@yeb
theorem gr {p:Prop} (h:p:=by(grind [y3e,yyi]);first|done|fail):p:=h
theorem den (a0:(List Aid)) (a1:Aid) (hb0:a0.length<1099511627776) (hb1:∀ v∈a0,bdAid v) (hb2:bdAid a1):Den Tryz.prog 32 [encL 16 eAid a0,.agg (eAid a1)] (.tup [ownL 59 16 yob ((zvb a0 a1).1),.int .i64 ((zvb a0 a1).2)]):=by
 generalize hR:zvb a0 a1=r;unfold zvb at hR;refine di Tryz.func32 Tryz.ntmps32 Tryz.results32 ?_;intro c hL hc hk;obtain⟨hL0,hL1,_⟩:=hL;have hw0:a0.length<9223372036854775808:=Nat.lt_succ_of_le (yc hL0).1;have hw1:∀ v∈a0,bwAid v:=fun v hv=>y5 v ((yc hL0).2 v hv)
 have hw2:bwAid a1:=y5 a1 hL1;clear hL0 hL1;simp only[pars,Nat.zero_add];have hix:=yyi a0 a1.Number hw0;iterate 2 refine rS ?_
 refine AWP.cond rfl (fun hb => ?_) (fun hb => ?_)
 ·replace hR:=ct hR
  refine rS ?_;refine AWP.ret ?_;subst hR;exact es
 ·replace hR:=cf hR
  iterate 2 refine rS ?_
  refine AWP.cond rfl (fun hb => ?_) (fun hb => ?_)
  ·replace hR:=ct hR
   refine rS ?_;refine AWP.ret ?_;subst hR;exact es
  ·replace hR:=cf hR
   iterate 3 refine rS ?_
   refine AWP.ret ?_;subst hR;exact es
end N32
def D_zvb : DF
 | [x0,x1]=>some (.tup [ownL 59 16 yob ((zvb (rdL dAid x0) (rdG dAid x1)).1),.int .i64 ((zvb (rdL dAid x0) (rdG dAid x1)).2)],false,[wL 16 eAid dAid x0,wG eAid dAid x1,(rdL dAid x0).length<1099511627776,∀ v∈(rdL dAid x0),bdAid v,bdAid (rdG dAid x1)])
 | _=>none
theorem yr1:OkD Tryz.prog 32 D_zvb:=by unfold D_zvb;exact dk N32.den
def zxd (a0:(List Aid)) (a1:Int):((List Aid)×Int):=
 (bif (!(zub a0))then([],1)else(bif (!((zab a0 a1).2))then([],3)else(((zaf (zrc a0) ((zab a0 a1).1) (IntKind.wrap .i64 (((zab a0 a1).1)+1)))),0)))
namespace N27
theorem DD:DOk Tryz.prog (Go.Ab.DD [(74,dP D_zub),(75,dP D_zab),(77,dP D_zrc),(79,dM [true,false,false] D_zaf)]):=ya yej.e <| ya ypj.e <| ya yrn.e <| ya yi2.e <| ye _
theorem dn:type_of% (And.intro @D_zub.eq_1 <| And.intro @D_zab.eq_1 <| And.intro @D_zrc.eq_1 <| @D_zaf.eq_1):=by and_intros<;>intros<;>rfl
theorem ol:type_of% (@yeb):=@yeb
theorem gr {p:Prop} (h:p:=by(grind [y3e,yyi]);first|done|fail):p:=h
theorem den (a0:(List Aid)) (a1:Int) (hb0:a0.length<1099511627776) (hb1:∀ v∈a0,bdAid v):Den Tryz.prog 27 [encL 16 eAid a0,.int .i64 a1] (.tup [ownL 59 16 yob ((zxd a0 a1).1),.int .i64 ((zxd a0 a1).2)]):=by
 generalize hR:zxd a0 a1=r;unfold zxd at hR;refine di Tryz.func27 Tryz.ntmps27 Tryz.results27 ?_;intro c hL hc hk;obtain⟨hL0,hL1,_⟩:=hL;have hw0:a0.length<9223372036854775808:=Nat.lt_succ_of_le (yc hL0).1;have hw1:∀ v∈a0,bwAid v:=fun v hv=>y5 v ((yc hL0).2 v hv)
 clear hL0 hL1;simp only[pars,Nat.zero_add];have hix:=yyi a0 a1 hw0;iterate 2 refine rS ?_
 refine AWP.cond rfl (fun hb => ?_) (fun hb => ?_)
 ·replace hR:=ct hR
  refine rS ?_;refine AWP.ret ?_;subst hR;exact es
 ·replace hR:=cf hR
  iterate 2 refine rS ?_
  refine AWP.cond rfl (fun hb => ?_) (fun hb => ?_)
  ·replace hR:=ct hR
   refine rS ?_;refine AWP.ret ?_;subst hR;exact es
  ·replace hR:=cf hR
   refine rS ?_;refine AWP.ret ?_;subst hR;exact es
end N27
def D_zxd : DF
 | [x0,x1]=>some (.tup [ownL 59 16 yob ((zxd (rdL dAid x0) (rdI x1)).1),.int .i64 ((zxd (rdL dAid x0) (rdI x1)).2)],false,[wL 16 eAid dAid x0,wI .i64 x1,(rdL dAid x0).length<1099511627776,∀ v∈(rdL dAid x0),bdAid v])
 | _=>none
theorem ya0:OkD Tryz.prog 27 D_zxd:=by unfold D_zxd;exact dk N27.den
def ltA (a b:Aid):Prop:=a.Number<b.Number
theorem yiq (a b c:Aid) (h:ltA a b) (k:ltA b c):ltA a c:=by unfold ltA at *;omega
def okA (l:List Aid):Prop:=(∀ v∈l,zmb v=true)/\l.Pairwise ltA/\l.length<=24
theorem y3h (l:List Aid):zmc l=true↔okA l:=by
 unfold zmc;refine Iff.trans (yls (b:=yti l) (fun j=>(!(zmb (l.getD j default))) || (decide (0<(j:Int)) && decide (((l.getD j default).Number)<=((l.getD ((IntKind.wrap .i64 ((j:Int)-1)).toNat) default).Number)))) l.length _ (fun j u _=>rfl)) ?_;unfold okA;rw[yg4 ltA yiq l,decide_eq_true_eq]
 have e:∀ j:Nat,0<j->j<l.length->l.length<9223372036854775808->(IntKind.wrap .i64 ((j:Int)-1)).toNat=j-1:=by
  intro j h0 h1 h2;rw[IntKind.wrap_i64];omega
 constructor
 ·rintro⟨h1,h2⟩
  have h2':l.length<=24:=by omega
  refine⟨fun v hv => ?_,fun j hj => ?_,h2'⟩
  ·obtain⟨j,hj,rfl⟩:=List.getElem_of_mem hv
   have:=h1 j hj;rw[Bool.or_eq_false_iff]at this;have h3:=this.1;rw[List.getD_eq_getElem?_getD,List.getElem?_eq_getElem hj]at h3;simpa using h3
  ·have:=h1 (j+1) hj
   rw[Bool.or_eq_false_iff,e (j+1) (by omega) hj (by omega)]at this;have h3:=this.2;simp only[Nat.add_sub_cancel]at h3;unfold ltA;simp only[Bool.and_eq_false_iff,decide_eq_false_iff_not]at h3;rcases h3 with h3|h3<;>omega
 ·rintro⟨h1,h2,h3⟩
  refine⟨fun j hj => ?_,by omega⟩;rw[Bool.or_eq_false_iff];constructor
  ·have:l.getD j default∈l:=by
    rw[List.getD_eq_getElem?_getD,List.getElem?_eq_getElem hj];exact List.getElem_mem hj
   rw[h1 _ this];rfl
  ·cases j with
   | zero=>simp
   | succ j=>
    rw[e (j+1) (by omega) hj (by omega)];have:=h2 j hj;unfold ltA at this;simp only[Nat.add_sub_cancel,Bool.and_eq_false_iff,decide_eq_false_iff_not];right;omega
theorem yin (l:List Aid) (n:Int):∀ j,j<upto l n->(l.getD j default).Number<n:=by
 unfold upto
 induction l with
 | nil=>intro j hj;simp at hj
 | cons x l ih=>
  intro j hj;rw[List.takeWhile_cons]at hj;by_cases h:x.Number<n
  ·rw[if_pos (decide_eq_true h)]at hj
   cases j with
   | zero=>exact h
   | succ j=>exact ih j (by simpa using hj)
  ·rw[if_neg (by simpa using h)]at hj
   simp at hj
theorem y2x (l:List Aid) (n:Int):upto l n<l.length->¬ (l.getD (upto l n) default).Number<n:=by
 unfold upto
 induction l with
 | nil=>intro h;simp at h
 | cons x l ih=>
  intro hj;rw[List.takeWhile_cons]at hj ⊢;by_cases h:x.Number<n
  ·rw[if_pos (decide_eq_true h)]at hj ⊢
   exact ih (by simpa using hj)
  ·rw[if_neg (by simpa using h)]
   exact h
theorem ysy (l:List Aid) (n:Int) (j:Nat) (hj:j<=l.length) (h1:∀ q,q<j->(l.getD q default).Number<n) (h2:j<l.length->¬ (l.getD j default).Number<n):upto l n=j:=by
 have hu:=yoe l n;rcases Nat.lt_trichotomy (upto l n) j with h|h|h
 ·exact absurd (h1 _ h) (y2x l n (by omega))
 ·exact h
 ·exact absurd (yin l n j h) (h2 (by omega))
theorem yky {l:List Aid} (h:l.Pairwise ltA) {i j:Nat} (hij:i<j) (hj:j<l.length):(l.getD i default).Number<(l.getD j default).Number:=by
 have:=List.pairwise_iff_getElem.1 h i j (by omega) hj hij;rw[List.getD_eq_getElem?_getD,List.getD_eq_getElem?_getD,List.getElem?_eq_getElem hj,List.getElem?_eq_getElem (show i<l.length by omega)];exact this
def hasN (l:List Aid) (n:Int):Bool:=decide (upto l n<l.length) && ((l.getD (upto l n) default).Number == n)
theorem ybx {l:List Aid} {n:Int} (h:hasN l n=true):upto l n<l.length/\(l.getD (upto l n) default).Number=n:=by
 unfold hasN at h;simpa using h
theorem ywe (l:List Aid) (n:Int) (hl:l.length<9223372036854775808):zab l n=((upto l n:Int),hasN l n):=y6u l n hl
def okP (P:Aid->Prop) (l:List Aid):Prop:=okA l/\∀ v∈l,P v
theorem yfx (P:Aid->Prop) {l t:List Aid} {a:Aid} (hl:okP P l) (ha:zmb a=true/\P a) (h:zoc l a=(t,0)):okP P t:=by
 have hl':=hl.1.2.2;rw[yal l a (by omega)]at h;change (bif hasN l a.Number then([],4)else _)=_ at h
 cases hn:hasN l a.Number with
 | true=>rw[hn]at h;simp at h
 | false=>
  rw[hn,cond_false]at h
  cases h24:((l.length:Int) == 24)with
  | true=>rw[h24]at h;simp at h
  | false=>
   rw[h24,cond_false]at h;simp only[Prod.mk.injEq,and_true]at h;subst h
   have hne:l.length≠24:=by
    intro e;rw[e]at h24;simp at h24
   have hu:=yoe l a.Number
   have hmem:∀ v,v∈putA l a->v∈l\/v=a:=by
    intro v hv;simp only[putA,List.mem_append,List.mem_singleton]at hv;rcases hv with(hv|hv)|hv
    ·exact .inl (List.mem_of_mem_take hv)
    ·exact .inr hv
    ·exact .inl (List.mem_of_mem_drop hv)
   refine⟨⟨fun v hv => ?_,?_,?_⟩,fun v hv => ?_⟩
   ·rcases hmem v hv with h|rfl
    ·exact hl.1.1 v h
    ·exact ha.1
   ·have hpw:=hl.1.2.1
    have h0:l.take (upto l a.Number)++l.drop (upto l a.Number)=l:=List.take_append_drop _ _;have hp2:(l.take (upto l a.Number)++l.drop (upto l a.Number)).Pairwise ltA:=by rw[h0];exact hpw
    rw[List.pairwise_append]at hp2;obtain⟨p1,p2,p3⟩:=hp2
    have hlo:∀ x∈l.take (upto l a.Number),ltA x a:=by
     intro x hx;obtain⟨j,hj,rfl⟩:=List.getElem_of_mem hx;have hj':j<upto l a.Number:=by simp at hj;omega
     have:=yin l a.Number j hj';rw[List.getD_eq_getElem?_getD,List.getElem?_eq_getElem (show j<l.length by omega)]at this;simp only[List.getElem_take];exact this
    have hhi:∀ x∈l.drop (upto l a.Number),ltA a x:=by
     intro x hx;obtain⟨j,hj,rfl⟩:=List.getElem_of_mem hx;have hj':upto l a.Number+j<l.length:=by simp at hj;omega
     simp only[List.getElem_drop];have h1:=y2x l a.Number (by omega)
     have h2:(l.getD (upto l a.Number) default).Number≠a.Number:=by
      unfold hasN at hn;rw[decide_eq_true (show upto l a.Number<l.length by omega)]at hn;simpa using hn
     unfold ltA
     have h3:(l[upto l a.Number+j]'hj').Number=(l.getD (upto l a.Number+j) default).Number:=by
      rw[List.getD_eq_getElem?_getD,List.getElem?_eq_getElem hj'];rfl
     rw[h3]
     cases j with
     | zero=>simp only[Nat.add_zero];omega
     | succ j=>
      have:=yky hpw (show upto l a.Number<upto l a.Number+(j+1)by omega) hj';omega
    unfold putA;rw[List.append_assoc,List.pairwise_append];refine⟨p1,?_,fun x hx y hy => ?_⟩
    ·rw[List.singleton_append,List.pairwise_cons];exact⟨hhi,p2⟩
    ·rw[List.singleton_append,List.mem_cons]at hy
     rcases hy with rfl|hy
     ·exact hlo x hx
     ·exact p3 x hx y hy
   ·simp[putA];omega
   ·rcases hmem v hv with h|rfl
    ·exact hl.2 v h
    ·exact ha.2
theorem y2r (P:Aid->Prop) (l:List Aid) (a:Aid) (hl:l.length<9223372036854775807) (hv:∀ v∈l,P v) (ha:P a):(∀ v∈(zoc l a).1,P v)/\(zoc l a).1.length<=l.length+1:=by
 rw[yal l a (by omega)]
 cases(decide (upto l a.Number<l.length) && ((l.getD (upto l a.Number) default).Number == a.Number))with
 | true=>exact⟨fun v hv=>by simp at hv,by simp⟩
 | false=>
  simp only[cond_false]
  cases((l.length:Int) == 24)with
  | true=>exact⟨fun v hv=>by simp at hv,by simp⟩
  | false=>
   simp only[cond_false,putA];refine⟨fun v h => ?_,by simp;omega⟩;simp only[List.mem_append,List.mem_singleton]at h;rcases h with(h|h)|h
   ·exact hv v (List.mem_of_mem_take h)
   ·subst h;exact ha
   ·exact hv v (List.mem_of_mem_drop h)
theorem yis {α:Type} (P:α->Prop) (l:List α) (i:Nat) (a:α) (hv:∀ v∈l,P v) (ha:P a):∀ v∈l.set i a,P v:=fun v h=>by
 rcases List.mem_or_eq_of_mem_set h with h|h
 ·exact hv v h
 ·subst h;exact ha
def ywk (a0:l00Src) (q2:l00Src) (s1:Int×l00Src×List Aid):Except (Sum ((List Aid)×l00Src) (Int×l00Src×List Aid)) (Int×l00Src×List Aid):=
 (bif decide (0<s1.1)then(bnd ((zt s1.2.1).2) fun q6=>(bif (((zoc s1.2.2 ((zt s1.2.1).1)).2) == 0)then .ok (IntKind.wrap .i64 (s1.1-1),q6,(zoc s1.2.2 ((zt s1.2.1).1)).1)else .ok (IntKind.wrap .i64 (s1.1-1),q6,s1.2.2)))else .error (.inr (s1.1,s1.2.1,s1.2.2)))
def zjb (a0:l00Src):(List Aid)×l00Src:=
 (bnd ((za a0 6).2) fun q2=>(match y0 (ywk a0 q2) (((((za a0 6).1)).toNat)+1) (((za a0 6).1),q2,([]:List Aid))with|.error (.inl e)=>e|.error (.inr s1)=>(s1.2.2,s1.2.1)|.ok _=>default))
namespace N39
theorem DD:DOk Tryz.prog (Go.Ab.DD [(102,dM [true,false] D_za),(103,dP D_zoc),(73,dM [true] D_zt)]):=ya ycd.e <| ya yr0.e <| ya y4s.e <| ye _
theorem dn:type_of% (And.intro @D_za.eq_1 <| And.intro @D_zoc.eq_1 <| @D_zt.eq_1):=by and_intros<;>intros<;>rfl
theorem o1 {p:Prop} (h:p:=by(first|(refine SrcOk.mono (by repeat' first|assumption|exact SrcOk.next ‹_› | apply SrcOk.next|apply SrcOk.pick|apply SrcOk.one|apply SrcOk.among|apply SrcOk.text|apply SrcOk.colors|apply SrcOk.point|apply SrcOk.chr|apply SrcOk.sectors|apply SrcOk.aid|apply SrcOk.aids|apply SrcOk.notice|omega) (by omega))|(exact SrcOk.mono hW1.2.2.1 (by omega)));first|done|fail):p:=h
set_option maxHeartbeats 2000000 in
set_option maxRecDepth 20000 in
theorem den (a0:l00Src) (hp0:SrcOk 400000 a0):DenM Tryz.prog 39 [.op (yk a0)] (ownL 59 16 eAid ((zjb a0).1)) [(.op (yk ((zjb a0).2)))]:=by
 generalize hR:zjb a0=r;unfold zjb at hR;refine dj (gb:=[true]) Tryz.func39 Tryz.ntmps39 Tryz.results39 ?_;intro c hL hc hk;obtain⟨hL0,_⟩:=hL;have hw0:bwl00Src a0:=yab a0 hL0;clear hL0;simp only[adEL,adE,adRL,adR,ownL,encL,sv,List.nil_append,List.append_nil,List.cons_append,List.length_cons,List.length_nil,pars,Nat.zero_add,Nat.reduceAdd]at hk ⊢;have hpa:=fun(s:l00Src) (n:Int) (h:SrcOk n s) (hn:n<=900000)=>y5w (yeq h hn)
 iterate 3 refine rS ?_
 generalize hq2:(za a0 6).2=q2 at hR ⊢;replace hR:=bn hR;have hS_q2:SrcOk (400002) q2:=by rw[<- hq2];exact SrcOk.pick hp0 (by omega)
 refine AWP.block ?_;generalize hz1:y0 (ywk a0 q2) (((((za a0 6).1)).toNat)+1) (((za a0 6).1),q2,([]:List Aid))=z1 at hR;refine AWP.whileW (ywk a0 q2) (fun s1=>⟨[(0,.ptr 0 0),(3,.ref 1 16 0 s1.2.2.length),(4,.int .i64 s1.1)],[.box [encL 1 eIu8 s1.2.1.code,.int .i64 s1.2.1.at_,.int .u64 s1.2.1.seed],.arr 59 16 s1.2.2.length (fun j=>yob (s1.2.2.getD j default))]⟩) (fun s1=>0<=s1.1/\s1.1<=5/\SrcOk (400040+500 * (5-s1.1)) s1.2.1/\s1.2.2.length<=(5-s1.1).toNat/\∀ v∈s1.2.2,bdAid v) (fun s1=>(s1.1).toNat) (((((za a0 6).1)).toNat)+1) (((za a0 6).1),q2,([]:List Aid)) [0,1] hz1 m0 (by(have h2:=yg 6 hp0 (by omega);have h3:=h2.2 (by omega);exact⟨h2.1,by omega,SrcOk.mono (by assumption) (by omega),by simp,by simp⟩)) sm ?_;clear hz1;intro s1 k1 hW1 hm1 hz1;simp only[ywk]at hz1;refine rS ?_;refine AWP.cond rfl (fun hb => ?_) (fun hb => ?_)
 ·simp only[hb,cond_true]at hz1
  refine rS ?_;generalize hq6:(zt s1.2.1).2=q6 at hz1 ⊢;rw[bndv q6]at hz1;have hS_q6:SrcOk (400040+500 * (5-s1.1)+400) q6:=by rw[<- hq6];exact SrcOk.aid hW1.2.2.1 (by omega)
  iterate 2 refine rS ?_
  refine AWP.cond rfl (fun hb => ?_) (fun hb => ?_)
  ·simp only[hb,cond_true]at hz1
   iterate 2 refine rS ?_
   clear hR;exact⟨_,[0,3],by(have hpos:0<s1.1:=of_decide_eq_true (by assumption);have hwr:IntKind.wrap .i64 (s1.1-1)=s1.1-1:=(by rw[IntKind.wrap_i64];omega);(try dsimp only);rw[hwr];omega),by(have hpos:0<s1.1:=of_decide_eq_true (by assumption);have hwr:IntKind.wrap .i64 (s1.1-1)=s1.1-1:=(by rw[IntKind.wrap_i64];omega);(try dsimp only);rw[hwr];have hG:=hW1.2.2.2.1;have hA:=hpa s1.2.1 _ hW1.2.2.1 (by omega);have hP:=y2r bdAid s1.2.2 (zt s1.2.1).1 (by omega) hW1.2.2.2.2 hA;exact⟨by omega,by omega,SrcOk.mono (by assumption) (by omega),by omega,by first|exact hP.1|exact hW1.2.2.2.2⟩),hz1,sm⟩
  ·simp only[hb,cond_false]at hz1
   refine rS ?_;clear hR;exact⟨_,[0,1],by(have hpos:0<s1.1:=of_decide_eq_true (by assumption);have hwr:IntKind.wrap .i64 (s1.1-1)=s1.1-1:=(by rw[IntKind.wrap_i64];omega);(try dsimp only);rw[hwr];omega),by(have hpos:0<s1.1:=of_decide_eq_true (by assumption);have hwr:IntKind.wrap .i64 (s1.1-1)=s1.1-1:=(by rw[IntKind.wrap_i64];omega);(try dsimp only);rw[hwr];have hG:=hW1.2.2.2.1;have hA:=hpa s1.2.1 _ hW1.2.2.1 (by omega);have hP:=y2r bdAid s1.2.2 (zt s1.2.1).1 (by omega) hW1.2.2.2.2 hA;exact⟨by omega,by omega,SrcOk.mono (by assumption) (by omega),by omega,by first|exact hP.1|exact hW1.2.2.2.2⟩),hz1,sm⟩
 ·simp only[hb,cond_false]at hz1
  refine AWP.exit ?_;refine yb ?_;subst hz1;dsimp only at hR;refine rS ?_;refine AWP.lendE 1 (fun j=>eAid (s1.2.2.getD j default)) rfl le1 ?_;simp only[setE];refine AWP.ret ?_;subst hR;exact es
end N39
def D_zjb : List AV -> Option (AV × List AV × List Prop)
 | [x0]=>some (ownL 59 16 eAid ((zjb (rdQ yn x0)).1),[(.op (yk ((zjb (rdQ yn x0)).2)))],[wQ yk yn x0,SrcOk 400000 (rdQ yn x0)])
 | _=>none
theorem yx0:OkM Tryz.prog 39 D_zjb:=by unfold D_zjb;exact dm N39.den
def AidQ (a:Aid):Prop:=bdAid a/\a.Light.Group.length<=2/\a.Sectors.length<=5
theorem yqx {n:Int} {r:Aid×l00Src} (h:AidP n r):AidQ r.1:=⟨y5w h,h.2.2.1.1,h.2.2.2.1⟩
theorem AidQ.l {a:Aid} (h:AidQ a):aidL a:=⟨Nat.lt_of_lt_of_le h.1.2.2.1.2.2 (by decide),by have:=h.2.2;omega⟩
structure AidsI (N:Int) (s:Int×l00Src×List Aid):Prop where
 a:0<=s.1
 b:s.1<=5
 q:SrcOk (N+400 * (5-s.1)) s.2.1
 n:(s.2.2.length:Int)<=5-s.1
 o:okP AidQ s.2.2
theorem ysz {N:Int} (a0 q2:l00Src) (hN:N<=500000) (k:Nat) (s:Int×l00Src×List Aid) (h:AidsI N s) (hk:s.1.toNat<k):∃ t,y0 (ywk a0 q2) k s=.error (.inr t)/\AidsI N t:=by
 obtain⟨e,h1,t,rfl,h2⟩:=ylh (b:=ywk a0 q2) (AidsI N) (fun e=>∃ t,e=.inr t/\AidsI N t) (fun s=>s.1.toNat) (fun s h=>by
  obtain⟨k,src,l⟩:=s;obtain⟨ha,hb,hs,hn,ho⟩:=h;simp only at ha hb hs hn ho;unfold ywk;simp only;by_cases hc:0<k
  ·rw[decide_eq_true hc,cond_true]
   left
   have hA:=yeq hs (by omega);have hw:IntKind.wrap .i64 (k-1)=k-1:=by rw[IntKind.wrap_i64];omega
   rw[hw];simp only[bnd];have hs2:=hA.1;have hQ:=yqx hA;have h1:=hA.2.1;generalize (zt src).2=s2 at hs2;generalize (zt src).1=a at hQ h1;have hpl:=(y2r (fun _=>True) l a (by omega) (fun _ _=>trivial) trivial).2
   cases hp:((zoc l a).2 == 0)with
   | true=>
    rw[cond_true];rw[beq_iff_eq]at hp;have hok:=yfx AidQ ho ⟨h1,hQ⟩ (t:=(zoc l a).1) (Prod.ext rfl hp);exact⟨_,rfl,⟨by show 0<=k-1;omega,by show k-1<=5;omega,hs2.mono (by show _<=N+400 * (5-(k-1));omega),by show((zoc l a).1.length:Int)<=5-(k-1);omega,hok⟩,by show(k-1).toNat<k.toNat;omega⟩
   | false=>
    rw[cond_false];exact⟨_,rfl,⟨by show 0<=k-1;omega,by show k-1<=5;omega,hs2.mono (by show _<=N+400 * (5-(k-1));omega),by show(l.length:Int)<=5-(k-1);omega,ho⟩,by show(k-1).toNat<k.toNat;omega⟩
  ·rw[decide_eq_false hc,cond_false]
   exact .inr ⟨_,rfl,_,rfl,ha,hb,hs,hn,ho⟩) k s h hk
 exact⟨t,h1,h2⟩
theorem yus {n:Int} {s:l00Src} (h:SrcOk n s) (hn:n<=400000):SrcOk (n+4000) (zjb s).2/\okP AidQ (zjb s).1/\(zjb s).1.length<=5:=by
 have hr:=yg 6 h (by omega);have hr2:=hr.2 (by omega);have q2:=h.pick (m:=6) (by omega);unfold zjb;simp only[bnd];obtain⟨t,e1,e2⟩:=ysz (N:=n+2) s (za s 6).2 (by omega) (((za s 6).1).toNat+1) ((za s 6).1,(za s 6).2,([]:List Aid)) ⟨hr.1,by show(za s 6).1<=5;omega,q2.mono (by show _<=n+2+400 * (5-(za s 6).1);omega),by show((0:Nat):Int)<=5-(za s 6).1;omega,⟨⟨by simp,List.Pairwise.nil,by simp⟩,by simp⟩⟩ (by show((za s 6).1).toNat<_;omega);rw[e1];have ha:=e2.a;have hl:=e2.n;exact⟨e2.q.mono (by omega),e2.o,by show t.2.2.length<=5;omega⟩
theorem SrcOk.aids {n:Int} {s:l00Src} (h:SrcOk n s) (hn:n<=400000):SrcOk (n+4000) (zjb s).2:=(yus h hn).1
def yyd (m:Nat):List Int:=if h:m=0 then[]else(48+(m % 10:Nat):Int)::yyd (m / 10)
termination_by m
decreasing_by omega
theorem y8f:yyd 0=[]:=by rw[yyd];simp
theorem yei {m:Nat} (h:m≠0):yyd m=(48+(m % 10:Nat):Int)::yyd (m / 10):=by rw[yyd];simp[h]
theorem ymn:∀ (m:Nat),m≠0->(yyd m).reverse.map (fun z=>UInt8.ofNat z.toNat)=Go.Lib.decDigits m:=by
 intro m
 induction m using Nat.strongRecOn with
 | ind m ih=>
  intro h;rw[yei h,Go.Lib.decDigits];have e3:UInt8.ofNat (48+((m % 10:Nat):Int)).toNat=UInt8.ofNat (48+m % 10):=by congr 1
  split
  ·rename_i h10
   have e:m / 10=0:=by omega
   have e2:m % 10=m:=Nat.mod_eq_of_lt h10;rw[e2]at e3 ⊢;simp only[e,y8f,List.reverse_cons,List.reverse_nil,List.nil_append,List.map_cons,List.map_nil];rw[e3]
  ·rw[<- ih (m / 10) (by omega) (by omega)]
   simp only[List.reverse_cons,List.map_append,List.map_cons,List.map_nil,e3]
theorem y22 (x:Int):(x.tdiv 10).natAbs=x.natAbs / 10:=by
 rcases ykz x with⟨h,e⟩|⟨h,e⟩<;>rw[e]<;>omega
theorem ya8 (x:Int):x.tmod 10=x-10 * x.tdiv 10:=Int.tmod_def x 10
theorem ys8 (a0:Int) (m:Int) (ds:List Int) (h1 : -1000000000000<=m) (h2:m<=1000000000000) (h:m≠0) :
  yaz a0 (m,ds)=.ok (m.tdiv 10,ds++[48+((m.natAbs % 10:Nat):Int)]):=by
 have e1:=ya8 m;have e2:=ykz m;have hn:(m != 0)=true:=by simpa using h
 unfold yaz;simp only[hn,cond_true];have w1:IntKind.wrap .i64 (m.tdiv 10)=m.tdiv 10:=by rw[IntKind.wrap_i64];omega
 rw[w1];by_cases hm:m.tmod 10<0
 ·simp only[hm,decide_true,cond_true]
  have w2:IntKind.wrap .u8 (IntKind.wrap .i64 (48+(IntKind.wrap .i64 (0-(m.tmod 10)))))=48+((m.natAbs % 10:Nat):Int):=by
   simp only[IntKind.wrap_i64,IntKind.wrap_u8];omega
  rw[w2]
 ·simp only[hm,decide_false,cond_false]
  have w2:IntKind.wrap .u8 (IntKind.wrap .i64 (48+(m.tmod 10)))=48+((m.natAbs % 10:Nat):Int):=by
   simp only[IntKind.wrap_i64,IntKind.wrap_u8];omega
  rw[w2]
theorem yvq (a0:Int):∀ (k:Nat) (m:Int) (ds:List Int),-1000000000000<=m->m<=1000000000000->m.natAbs<k ->
  y0 (yaz a0) k (m,ds)=.error (.inr (0,ds++yyd m.natAbs))
 | 0,m,ds,_,_,h=>by omega
 | k+1,m,ds,h1,h2,h=>by
  by_cases hm:m=0
  ·subst hm
   simp[y0,yaz,y8f]
  ·have e2:=ykz m
   simp only[y0,ys8 a0 m ds h1 h2 hm];rw[yvq a0 k (m.tdiv 10) _ (by omega) (by omega) (by omega),y22,List.append_assoc,List.singleton_append, <- yei (by omega)]
theorem ycw:∀ (m:Nat),(yyd m).length<=m:=by
 intro m
 induction m using Nat.strongRecOn with
 | ind m ih=>
  by_cases h:m=0
  ·subst h;simp[y8f]
  ·rw[yei h]
   have:=ih (m / 10) (by omega);simp only[List.length_cons];omega
theorem ykv {α:Type} (L:List α) (d:α) (k:Nat) (h:k<L.length):L.getD k d::(L.take k).reverse=(L.take (k+1)).reverse:=by
 rw[List.take_add_one,List.reverse_append];simp[List.getD,List.getElem?_eq_getElem h]
theorem ynq (a0:Int) (s1:Int×List Int):∀ (f k:Nat) (out:List Int),k<f->k<=s1.2.length+1->k<=1000000000001 ->
  y0 (y30 a0 s1) f ((k:Int)-1,out)=.error (.inr (-1,out++((s1.2++[45]).take k).reverse))
 | 0,k,out,h,_,_=>by omega
 | f+1,0,out,_,_,_=>by simp[y0,y30]
 | f+1,k+1,out,h,hk,hb=>by
  have e1:IntKind.wrap .i64 (((k+1:Nat):Int)-1-1)=(k:Int)-1:=by rw[IntKind.wrap_i64];omega
  have e2:(((k+1:Nat):Int)-1).toNat=k:=by omega
  have e3:decide (0<=((k+1:Nat):Int)-1)=true:=by simp
  simp only[y0,y30,e3,cond_true,e1,e2];rw[ynq a0 s1 f k _ (by omega) (by omega) (by omega),List.append_assoc,List.singleton_append,ykv _ _ _ (by simp;omega)]
theorem ymp (a0:Int) (s1:Int×List Int):∀ (f k:Nat) (out:List Int),k<f->k<=s1.2.length->k<=1000000000001 ->
  y0 (ys0 a0 s1) f ((k:Int)-1,out)=.error (.inr (-1,out++(s1.2.take k).reverse))
 | 0,k,out,h,_,_=>by omega
 | f+1,0,out,_,_,_=>by simp[y0,ys0]
 | f+1,k+1,out,h,hk,hb=>by
  have e1:IntKind.wrap .i64 (((k+1:Nat):Int)-1-1)=(k:Int)-1:=by rw[IntKind.wrap_i64];omega
  have e2:(((k+1:Nat):Int)-1).toNat=k:=by omega
  have e3:decide (0<=((k+1:Nat):Int)-1)=true:=by simp
  simp only[y0,ys0,e3,cond_true,e1,e2];rw[ymp a0 s1 f k _ (by omega) (by omega) (by omega),List.append_assoc,List.singleton_append,ykv _ _ _ (by omega)]
theorem yxg (n:Int) (h1 : -1000000000000<=n) (h2:n<=1000000000000):zv n=Go.Lib.itoa n:=by
 unfold zv Go.Lib.itoa;by_cases h0:n=0
 ·subst h0
  simp[Go.Lib.decDigits]
 have hn:(n == 0)=false:=by simpa using h0
 rw[hn,cond_false,yvq n _ n [] h1 h2 (by omega)];have hl:=ycw n.natAbs;have hr:=ymn n.natAbs (by omega);simp only[List.nil_append];by_cases hneg:n<0
 ·have e1:IntKind.wrap .i64 (((yyd n.natAbs).length+1:Int)-1)=((((yyd n.natAbs).length+1:Nat)):Int)-1:=by rw[IntKind.wrap_i64];omega
  simp only[hneg,decide_true,cond_true,e1,if_true];rw[ynq n _ _ _ _ (by omega) (by simp) (by omega)];simp only[List.nil_append];rw[List.take_of_length_le (by simp),List.reverse_append,List.map_append,hr];rfl
 ·have e1:IntKind.wrap .i64 (((yyd n.natAbs).length:Int)-1)=(((yyd n.natAbs).length:Nat):Int)-1:=by rw[IntKind.wrap_i64];omega
  simp only[hneg,decide_false,cond_false,e1,if_false];rw[ymp n _ _ _ _ (by omega) (by simp) (by omega)];simp only[List.nil_append];rw[List.take_of_length_le (by simp),hr];congr 1
  omega
end Go.Ab
