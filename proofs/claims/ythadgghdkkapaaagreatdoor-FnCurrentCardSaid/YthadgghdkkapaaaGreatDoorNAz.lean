/- A part of a proof: walks of functions and lemmas of our own. No conditions. -/
import Derived.Test.YthadgghdkkapaaaGreatDoorNAy
import Derived.Test.YthadgghdkkapaaaGreatDoorNAu
import Derived.Test.YthadgghdkkapaaaGreatDoorNAw
import Derived.Test.YthadgghdkkapaaaGreatDoorNAv
import Derived.Test.YthadgghdkkapaaaGreatDoorNAt
import Derived.Test.YthadgghdkkapaaaGreatDoorNAs
import Derived.Test.YthadgghdkkapaaaGreatDoorNAr
import Derived.Test.YthadgghdkkapaaaGreatDoorNAx
import Derived.Test.YthadgghdkkapaaaGreatDoorNAl
import Derived.Test.YthadgghdkkapaaaGreatDoorNAi
import Derived.Test.YthadgghdkkapaaaGreatDoorNAq
import Derived.Test.YthadgghdkkapaaaGreatDoorNAo
import Derived.Test.YthadgghdkkapaaaGreatDoorNAm
import Derived.Test.YthadgghdkkapaaaGreatDoorNAk
set_option linter.unusedSectionVars false
set_option linter.unusedVariables false
set_option linter.unusedSimpArgs false
set_option maxHeartbeats 1000000
namespace Go.Ab
open Go Go.Proofs
theorem yfm (a:List Sector):zy a=ydd a (ydd a (ydd a (ydd a [] 87) 82) 71) 89:=by
 unfold zy;simp only[yh,Nat.sub_zero];rw[y8b a 0 [] 87 rfl];simp only;rw[y8b a (0+1) _ 82 rfl];simp only;rw[y8b a (0+1+1) _ 71 rfl];simp only;rw[y8b a (0+1+1+1) _ 89 rfl]
theorem ydn {a:List Sector} (h:zx a=true) (hl:0<a.length):(zy a).length<=3->zpb (zy a)=true:=by
 have h1:=(yfu h).2 0 hl
 have hc:zmd (a.getD 0 default).Color=true:=by
  unfold zwb at h1;rw[Bool.and_eq_true]at h1;exact h1.2
 have hm:a.getD 0 default∈a:=by
  rw[List.getD_eq_getElem?_getD,List.getElem?_eq_getElem hl];exact List.getElem_mem hl
 have hany:(a.any (fun x=>x.Color == [87]) || (a.any (fun x=>x.Color == [82]) || (a.any (fun x=>x.Color == [71]) || a.any (fun x=>x.Color == [89]))))=true:=by
  unfold zmd at hc;simp only[Bool.or_eq_true,List.any_eq_true]at hc ⊢;rcases hc with((hc|hc)|hc)|hc
  ·exact .inl ⟨_,hm,hc⟩
  ·exact .inr (.inl ⟨_,hm,hc⟩)
  ·exact .inr (.inr (.inl ⟨_,hm,hc⟩))
  ·exact .inr (.inr (.inr ⟨_,hm,hc⟩))
 rw[yfm];unfold ydd;revert hany
 cases a.any (fun x=>x.Color == [87])<;>cases a.any (fun x=>x.Color == [82])<;>cases a.any (fun x=>x.Color == [71])<;>cases a.any (fun x=>x.Color == [89])<;>intro hany h3<;>first|(exact absurd hany (by decide))|(exact absurd h3 (by decide))|decide +kernel
theorem y7z {K:Int} {G:List Int} {L C C':List UInt8} {P:Int} (h:zdc { Kind:=K,Group:=G,Letter:=L,Colors:=C,Period:=P }=true) (h2:zpb C'=true):zdc { Kind:=K,Group:=G,Letter:=L,Colors:=C',Period:=P }=true:=by
 have hC:zpb C=true:=by
  cases hc:zpb C with
  | true=>rfl
  | false=>
   unfold zdc zsc at h;simp only[hc,Bool.not_false,Bool.or_true,cond_true,Bool.not_true]at h;cases h
 rw[<- h];unfold zdc;rw[y9h K G L C P hC,y9h K G L C' P h2];rfl
def yru (N:Int) (nm:List UInt8) (p:Point) (h:Int) (mk:Mark) (q:l00Src):Aid×l00Src:=
 (bnd ((zi q 5).2) fun q14=>(bif ((zi q 5).1)then({ Number:=N,Name:=nm,At:=p,Height:=h,Mark:=mk,Light:={ Kind:=0,Group:=[],Letter:=[],Colors:=[],Period:=0:Character },Sectors:=[],Intensity:=0:Aid },q14)else(bnd ((ze q14).2) fun q16=>(bnd ((zb q16 ([10,1000,20000,1000000,1]:List Int)).2) fun q18=>(bnd ((zi q18 2).2) fun q20=>(bif ((zi q18 2).1)then({ Number:=N,Name:=nm,At:=p,Height:=h,Mark:=mk,Light:={ Kind:=((ze q14).1).Kind,Group:=((ze q14).1).Group,Letter:=((ze q14).1).Letter,Colors:=(((ze q14).1).Colors).take 1,Period:=((ze q14).1).Period:Character },Sectors:=[],Intensity:=((zb q16 ([10,1000,20000,1000000,1]:List Int)).1):Aid },q20)else(bnd ((zp q20).2) fun q22=>(bif ((((zp q20).1).length:Int) == 0)then({ Number:=N,Name:=nm,At:=p,Height:=h,Mark:=mk,Light:={ Kind:=((ze q14).1).Kind,Group:=((ze q14).1).Group,Letter:=((ze q14).1).Letter,Colors:=(((ze q14).1).Colors).take 1,Period:=((ze q14).1).Period:Character },Sectors:=((zp q20).1),Intensity:=((zb q16 ([10,1000,20000,1000000,1]:List Int)).1):Aid },q22)else(bif decide (3<((zy ((zp q20).1)).length:Int))then({ Number:=N,Name:=nm,At:=p,Height:=h,Mark:=mk,Light:={ Kind:=((ze q14).1).Kind,Group:=((ze q14).1).Group,Letter:=((ze q14).1).Letter,Colors:=[71],Period:=((ze q14).1).Period:Character },Sectors:=[{ From:=10,To:=200,Color:=[71]:Sector }],Intensity:=((zb q16 ([10,1000,20000,1000000,1]:List Int)).1):Aid },q22)else({ Number:=N,Name:=nm,At:=p,Height:=h,Mark:=mk,Light:={ Kind:=((ze q14).1).Kind,Group:=((ze q14).1).Group,Letter:=((ze q14).1).Letter,Colors:=(zy ((zp q20).1)),Period:=((ze q14).1).Period:Character },Sectors:=((zp q20).1),Intensity:=((zb q16 ([10,1000,20000,1000000,1]:List Int)).1):Aid },q22))))))))))
def AidP (n:Int) (r:Aid×l00Src):Prop:=SrcOk n r.2/\zeb r.1=true/\(r.1.Light.Group.length<=2/\r.1.Light.Letter.length<=1/\r.1.Light.Colors.length<=3)/\r.1.Sectors.length<=5/\r.1.Number<=30
theorem yat {C:List UInt8} (h:C∈nineC):zpb (C.take 1)=true/\(C.take 1).length=1:=by
 have:(nineC.all fun C=>zpb (C.take 1) && decide ((C.take 1).length=1))=true:=by decide +kernel
 have:=List.all_eq_true.1 this C h;rw[Bool.and_eq_true,decide_eq_true_eq]at this;exact this
theorem y9f {n:Int} {N:Int} {nm:List UInt8} {p:Point} {h:Int} {mk:Mark} {q:l00Src} (hq:SrcOk n q) (hn:n<=1000000) (h1:1<=N) (h2:N<=30) (h3:zxb nm=true) (h4:znd p=true) (h5:0<=h) (h6:h<=3000) (h7:znc mk=true):AidP (n+310) (yru N nm p h mk q):=by
 have base:∀ (L:Character) (S:List Sector) (I:Int),(bif (zxc L)then(((S.length:Int) == 0) && (I == 0))else(bif (((!(zdc L)) || (!(zf I 1 100000000))) || (!(zx S)))then false else(bif ((S.length:Int) == 0)then((L.Colors.length:Int) == 1)else((zy S) == L.Colors))))=true->zeb { Number:=N,Name:=nm,At:=p,Height:=h,Mark:=mk,Light:=L,Sectors:=S,Intensity:=I:Aid }=true:=fun L S I hh=>by
  unfold zeb;have e1:zf N 1 9999=true:=by unfold zf;simp;omega
  have e2:zf h 0 3000=true:=by unfold zf;simp;omega
  simp only[e1,e2,h3,h4,h7,Bool.not_true,Bool.or_self,cond_false];exact hh
 have lit:∀ (L:Character) (S:List Sector) (I:Int),zdc L=true->1<=I->I<=100000000->zx S=true->(bif ((S.length:Int) == 0)then((L.Colors.length:Int) == 1)else((zy S) == L.Colors))=true->zeb { Number:=N,Name:=nm,At:=p,Height:=h,Mark:=mk,Light:=L,Sectors:=S,Intensity:=I:Aid }=true:=fun L S I g1 g2 g3 g4 g5=>base L S I (by
  have e0:zxc L=false:=by
   cases e:zxc L with
   | false=>rfl
   | true=>
    unfold zxc at e;simp only[Bool.and_eq_true,beq_iff_eq]at e;unfold zdc zsc zhf zf at g1;rw[e.1.1.1.1]at g1;cases g1
  have e1:zf I 1 100000000=true:=by unfold zf;simp;omega
  rw[e0,g1,e1,g4]
  exact g5)
 unfold yru;have q14:=hq.one (m:=5) (by omega);simp only[bnd];generalize (zi q 5).2=s14 at q14
 cases(zi q 5).1 with
 | true=>rw[cond_true];exact⟨q14.mono (by show _<=n+310;omega),base _ _ _ rfl,(by decide:([]:List Int).length<=2/\([]:List UInt8).length<=1/\([]:List UInt8).length<=3),by show(0:Nat)<=5;omega,h2⟩
 | false=>
  rw[cond_false];obtain⟨q16,c1,c2,c3,c4⟩:=yhp q14 (by omega);generalize (ze s14).2=s16 at q16;generalize (ze s14).1=c at c1 c2 c3 c4;obtain⟨K,G,L,C,P⟩:=c;simp only at c2 c3 c4;have hI:=ylf (l:=([10,1000,20000,1000000,1]:List Int)) q16 (by omega) (by decide);have q18:=q16.among (l:=([10,1000,20000,1000000,1]:List Int)) (by omega);generalize (zb s16 ([10,1000,20000,1000000,1]:List Int)).2=s18 at q18;generalize (zb s16 ([10,1000,20000,1000000,1]:List Int)).1=I at hI;have hI:1<=I/\I<=100000000:=by simp only[List.mem_cons,List.not_mem_nil,or_false]at hI;omega
  have q20:=q18.one (m:=2) (by omega);generalize (zi s18 2).2=s20 at q20;obtain⟨t1,t2⟩:=yat c2
  have z1:zeb { Number:=N,Name:=nm,At:=p,Height:=h,Mark:=mk,Light:={ Kind:=K,Group:=G,Letter:=L,Colors:=C.take 1,Period:=P:Character },Sectors:=[],Intensity:=I:Aid }=true:=lit _ _ _ (y7z c1 t1) hI.1 hI.2 (by decide +kernel) (by
   show(((C.take 1).length:Int) == 1)=true
   rw[t2];rfl)
  cases(zi s18 2).1 with
  | true=>exact⟨q20.mono (by show _<=n+310;omega),z1,⟨c3,c4,by show(C.take 1).length<=3;omega⟩,by show(0:Nat)<=5;omega,h2⟩
  | false=>
   rw[cond_false];obtain⟨q22,d1,d2⟩:=yzp q20 (by omega);generalize (zp s20).2=s22 at q22;generalize (zp s20).1=S at d1 d2;by_cases hS:S.length=0
   ·have hS2:S=[]:=List.length_eq_zero_iff.1 hS
    subst hS2;exact⟨q22.mono (by show _<=n+310;omega),z1,⟨c3,c4,by show(C.take 1).length<=3;omega⟩,by show(0:Nat)<=5;omega,h2⟩
   ·have e0:((S.length:Int) == 0)=false:=by rw[beq_eq_false_iff_ne];omega
    rw[e0,cond_false];by_cases h3':3<((zy S).length:Int)
    ·rw[decide_eq_true h3',cond_true]
     exact⟨q22.mono (by show _<=n+310;omega),lit _ _ _ (y7z c1 (by decide +kernel)) hI.1 hI.2 (by decide +kernel) (by show((zy [{ From:=10,To:=200,Color:=[71]:Sector }]) == [71])=true;decide +kernel),⟨c3,c4,by show(1:Nat)<=3;omega⟩,by show(1:Nat)<=5;omega,h2⟩
    ·rw[decide_eq_false h3',cond_false]
     exact⟨q22.mono (by show _<=n+310;omega),lit _ _ _ (y7z c1 (ydn d2 (by omega) (by omega))) hI.1 hI.2 d2 (by rw[e0,cond_false];simp),⟨c3,c4,by show(zy S).length<=3;omega⟩,d1,h2⟩
theorem yg1 {k:Int} (h1:1<=k) (h2:k<=9):znc (zpd k).1=true:=by
 rcases(show k=1\/k=2\/k=3\/k=4\/k=5\/k=6\/k=7\/k=8\/k=9 by omega)with e|e|e|e|e|e|e|e|e<;>rw[e]<;>decide +kernel
theorem ymq {n:Int} {s:l00Src} (h:SrcOk n s) (hn:n<=900000):AidP (n+400) (zl s):=by
 have mono:∀ {m:Int} {r:Aid×l00Src},AidP m r->m<=n+400->AidP (n+400) r:=fun h h2=>⟨h.1.mono h2,h.2⟩
 have r1:=yj 30 h (by omega);have r12:=r1.2 (by omega);have q2:=h.pick (m:=30) (by omega);have w1:IntKind.wrap .i64 ((za s 30).1+1)=(za s 30).1+1:=by rw[IntKind.wrap_i64];omega
 unfold zl;simp only[bnd];rw[w1];generalize (za s 30).2=s2 at q2;obtain⟨N,hN⟩:∃ N,N=(za s 30).1+1:=⟨_,rfl⟩
 rw[<- hN];have hnm:=y7g (l:=([[114,111,99,107],[101,97,115,116],[112,105,101,114],[98,97,114],[99,97,112,101]]:List (List UInt8))) q2 (by omega) (by decide);have q4:=q2.text (l:=([[114,111,99,107],[101,97,115,116],[112,105,101,114],[98,97,114],[99,97,112,101]]:List (List UInt8))) (by omega);generalize (zo s2 ([[114,111,99,107],[101,97,115,116],[112,105,101,114],[98,97,114],[99,97,112,101]]:List (List UInt8))).2=s4 at q4;generalize (zo s2 ([[114,111,99,107],[101,97,115,116],[112,105,101,114],[98,97,114],[99,97,112,101]]:List (List UInt8))).1=nm at hnm
 have hnm:zxb nm=true:=by
  have hs:∀ y∈([[114,111,99,107],[101,97,115,116],[112,105,101,114],[98,97,114],[99,97,112,101]]:List (List UInt8)),zxb y=true:=by decide +kernel
  exact hs nm hnm
 obtain⟨q6,hp⟩:=yhr q4 (by omega);generalize (zdb s4).2=s6 at q6;generalize (zdb s4).1=p at hp;have r3:=yj 500 q6 (by omega);have r32:=r3.2 (by omega);have q8:=q6.pick (m:=500) (by omega);generalize (za s6 500).2=s8 at q8;generalize (za s6 500).1=hh at r3 r32;have q10:=q8.one (m:=2) (by omega);generalize (zi s8 2).2=s10 at q10;have zm:znc { Kind:=0,Colors:=[],Shape:=[],Topmark:=[]:Mark }=true:=by decide +kernel
 cases(zi s8 2).1 with
 | true=>
  rw[cond_true];have r4:=yj 9 q10 (by omega);have r42:=r4.2 (by omega);have q12:=q10.pick (m:=9) (by omega);have w2:IntKind.wrap .i64 ((za s10 9).1+1)=(za s10 9).1+1:=by rw[IntKind.wrap_i64];omega
  rw[w2];generalize (za s10 9).2=s12 at q12;have hm:=yg1 (k:=(za s10 9).1+1) (by omega) (by omega)
  cases((zpd ((za s10 9).1+1)).2 == 0)with
  | true=>rw[cond_true];exact mono (y9f q12 (by omega) (by omega) (by omega) hnm hp r3.1 (by omega) hm) (by omega)
  | false=>rw[cond_false];exact mono (y9f q12 (by omega) (by omega) (by omega) hnm hp r3.1 (by omega) zm) (by omega)
 | false=>rw[cond_false];exact mono (y9f q10 (by omega) (by omega) (by omega) hnm hp r3.1 (by omega) zm) (by omega)
theorem SrcOk.aid {n:Int} {s:l00Src} (h:SrcOk n s) (hn:n<=900000):SrcOk (n+400) (zl s).2:=(ymq h hn).1
theorem yhu {n:Int} {r:Aid×l00Src} (h:AidP n r):bdAid r.1:=by
 obtain⟨_,h1,⟨h2,h3,h4⟩,h5,_⟩:=h;have hr:=yd1 h1;have hm:=y1v hr.2.2.2.2.2.2.1;have hn:=ysv hr.2.2.1;have hs:=(yos hr.2.2.2.2.2.2.2.2.1).2;refine⟨Nat.lt_of_le_of_lt hn (by decide),⟨Nat.lt_of_le_of_lt hm.2.2.1 (by decide),Nat.lt_of_le_of_lt hm.2.2.2.1 (by decide),Nat.lt_of_le_of_lt hm.2.2.2.2 (by decide)⟩,⟨Nat.lt_of_le_of_lt h2 (by decide),Nat.lt_of_le_of_lt h3 (by decide),Nat.lt_of_le_of_lt h4 (by decide)⟩,Nat.lt_of_le_of_lt h5 (by decide),fun v hv => ?_⟩;obtain⟨i,hi,e⟩:=List.getElem_of_mem hv;have:=(hs i).2.2.2.2;rw[List.getD_eq_getElem?_getD,List.getElem?_eq_getElem hi]at this;rw[<- e];exact Nat.lt_of_le_of_lt this (by decide)
theorem yko (P:Aid->Prop) (l:List Aid) (a:Aid) (hl:l.length<9223372036854775807) (hv:∀ v∈l,P v) (ha:P a):(∀ v∈(zub l a).1,P v)/\(zub l a).1.length<=l.length+1:=by
 rw[yuh l a (by omega)]
 cases(decide (upto l a.Number<l.length) && ((l.getD (upto l a.Number) default).Number == a.Number))with
 | true=>exact⟨fun v hv=>by simp at hv,by simp⟩
 | false=>
  simp only[cond_false]
  cases((l.length:Int) == 24)with
  | true=>exact⟨fun v hv=>by simp at hv,by simp⟩
  | false=>
   simp only[cond_false,putA];refine⟨fun v h => ?_,by simp;omega⟩;simp only[List.mem_append,List.mem_singleton]at h;rcases h with(h|h)|h
   ·exact hv v (List.mem_of_mem_take h)
   ·subst h;exact ha
   ·exact hv v (List.mem_of_mem_drop h)
theorem y6z {α:Type} (P:α->Prop) (l:List α) (i:Nat) (a:α) (hv:∀ v∈l,P v) (ha:P a):∀ v∈l.set i a,P v:=fun v h=>by
 rcases List.mem_or_eq_of_mem_set h with h|h
 ·exact hv v h
 ·subst h;exact ha
theorem y3y (P:Aid->Prop) (l:List Aid) (a:Aid) (hl:l.length<9223372036854775807) (hv:∀ v∈l,P v) (ha:P a):(∀ v∈(zlc l a).1,P v)/\(zlc l a).1.length<=25:=by
 unfold zlc
 cases hb:((!(zz l)) || (!(zzb a)))with
 | true=>exact⟨fun v hv=>by simp at hv,by simp⟩
 | false=>
  have hn:=ycc (a:=l) (by rw[Bool.or_eq_false_iff]at hb;simpa using hb.1);simp only[cond_false,y6,yod]
  cases(zq l a.Number).2 with
  | true=>exact⟨fun v hv=>by simp at hv,by simp⟩
  | false=>
   simp only[cond_false]
   cases((l.length:Int) == 24)with
   | true=>exact⟨fun v hv=>by simp at hv,by simp⟩
   | false=>
    simp only[cond_false,zoe];refine⟨fun v h => ?_,by simp;omega⟩;simp only[List.mem_append,List.mem_singleton]at h;rcases h with(h|h)|h
    ·exact hv v (List.mem_of_mem_take h)
    ·subst h;exact ha
    ·exact hv v (List.mem_of_mem_drop h)
theorem y5u (P:Aid->Prop) (l:List Aid) (a:Aid) (hv:∀ v∈l,P v) (ha:P a):(∀ v∈(zhd l a).1,P v)/\(zhd l a).1.length<=25:=by
 unfold zhd
 cases hb:((!(zz l)) || (!(zzb a)))with
 | true=>exact⟨fun v hv=>by simp at hv,by simp⟩
 | false=>
  have hn:=ycc (a:=l) (by rw[Bool.or_eq_false_iff]at hb;simpa using hb.1);simp only[cond_false,y6,yod]
  cases(!(zq l a.Number).2)with
  | true=>exact⟨fun v hv=>by simp at hv,by simp⟩
  | false=>
   simp only[cond_false];exact⟨y6z P _ _ _ hv ha,by simp;omega⟩
theorem y7u (P:Aid->Prop) (l:List Aid) (n:Int) (hl:l.length<9223372036854775807) (hv:∀ v∈l,P v):(∀ v∈(zid l n).1,P v)/\(zid l n).1.length<=25:=by
 unfold zid
 cases hb:(!(zz l))with
 | true=>exact⟨fun v hv=>by simp at hv,by simp⟩
 | false=>
  have hn:=ycc (a:=l) (by simpa using hb);simp only[cond_false,y6];have hf:=ybo l n (by omega);have hw:IntKind.wrap .i64 ((zq l n).1+1)=(zq l n).1+1:=by rw[IntKind.wrap_i64];omega
  cases(!(zq l n).2)with
  | true=>exact⟨fun v hv=>by simp at hv,by simp⟩
  | false=>
   simp only[cond_false,zpe,hw];refine⟨fun v h => ?_,by simp;omega⟩;rcases List.mem_append.1 h with h|h
   ·exact hv v (List.mem_of_mem_take h)
   ·exact hv v (List.mem_of_mem_drop h)
def yyh (a0:l00Src) (q2:l00Src) (s1:Int×l00Src×List Aid):Except (Sum ((List Aid)×l00Src) (Int×l00Src×List Aid)) (Int×l00Src×List Aid):=
 (bif decide (0<s1.1)then(bnd ((zl s1.2.1).2) fun q6=>(bif (((zub s1.2.2 ((zl s1.2.1).1)).2) == 0)then .ok (IntKind.wrap .i64 (s1.1-1),q6,(zub s1.2.2 ((zl s1.2.1).1)).1)else .ok (IntKind.wrap .i64 (s1.1-1),q6,s1.2.2)))else .error (.inr (s1.1,s1.2.1,s1.2.2)))
def zec (a0:l00Src):(List Aid)×l00Src:=
 (bnd ((za a0 6).2) fun q2=>(match yqb (yyh a0 q2) (((((za a0 6).1)).toNat)+1) (((za a0 6).1),q2,([]:List Aid))with|.error (.inl e)=>e|.error (.inr s1)=>(s1.2.2,s1.2.1)|.ok _=>default))
namespace N85
theorem DD:DOk Tryz.prog (Go.Ab.DD [(137,dM [true] D_zl),(138,dP D_zub),(95,dM [true,false] D_za)]):=ya ywu.e <| ya y4x.e <| ya ybd.e <| ye _
theorem dn:type_of% (And.intro @D_zl.eq_1 <| And.intro @D_zub.eq_1 <| @D_za.eq_1):=by and_intros<;>intros<;>rfl
theorem o1 {p:Prop} (h:p:=by(first|(refine SrcOk.mono (by repeat' first|assumption|exact SrcOk.next ‹_› | apply SrcOk.next|apply SrcOk.pick|apply SrcOk.one|apply SrcOk.among|apply SrcOk.text|apply SrcOk.colors|apply SrcOk.point|apply SrcOk.chr|apply SrcOk.sectors|apply SrcOk.aid|apply SrcOk.aids|apply SrcOk.notice|omega) (by omega))|(exact SrcOk.mono hW1.2.2.1 (by omega)));first|done|fail):p:=h
set_option maxHeartbeats 2000000 in
set_option maxRecDepth 20000 in
theorem den (a0:l00Src) (hp0:SrcOk 400000 a0):DenM Tryz.prog 85 [.op (yr a0)] (ownL 45 16 eAid ((zec a0).1)) [(.op (yr ((zec a0).2)))]:=by
 generalize hR:zec a0=r;unfold zec at hR;refine dj (gb:=[true]) Tryz.func85 Tryz.ntmps85 Tryz.results85 ?_;intro c hL hc hk;obtain⟨hL0,_⟩:=hL;have hw0:bwl00Src a0:=ybb a0 hL0;clear hL0;simp only[adEL,adE,adRL,adR,ownL,encL,sv,List.nil_append,List.append_nil,List.cons_append,List.length_cons,List.length_nil,pars,Nat.zero_add,Nat.reduceAdd]at hk ⊢;have hpa:=fun(s:l00Src) (n:Int) (h:SrcOk n s) (hn:n<=900000)=>yhu (ymq h hn)
 iterate 3 refine rS ?_
 generalize hq2:(za a0 6).2=q2 at hR ⊢;replace hR:=bn hR;have hS_q2:SrcOk (400002) q2:=by rw[<- hq2];exact SrcOk.pick hp0 (by omega)
 refine AWP.block ?_;generalize hz1:yqb (yyh a0 q2) (((((za a0 6).1)).toNat)+1) (((za a0 6).1),q2,([]:List Aid))=z1 at hR;refine AWP.whileW (yyh a0 q2) (fun s1=>⟨[(0,.ptr 0 0),(3,.ref 1 16 0 s1.2.2.length),(4,.int .i64 s1.1)],[.box [encL 1 eIu8 s1.2.1.code,.int .i64 s1.2.1.at_,.int .u64 s1.2.1.seed],.arr 45 16 s1.2.2.length (fun j=>ynb (s1.2.2.getD j default))]⟩) (fun s1=>0<=s1.1/\s1.1<=5/\SrcOk (400040+500 * (5-s1.1)) s1.2.1/\s1.2.2.length<=(5-s1.1).toNat/\∀ v∈s1.2.2,bdAid v) (fun s1=>(s1.1).toNat) (((((za a0 6).1)).toNat)+1) (((za a0 6).1),q2,([]:List Aid)) [0,1] hz1 m0 (by(have h2:=yj 6 hp0 (by omega);have h3:=h2.2 (by omega);exact⟨h2.1,by omega,SrcOk.mono (by assumption) (by omega),by simp,by simp⟩)) sm ?_;clear hz1;intro s1 k1 hW1 hm1 hz1;simp only[yyh]at hz1;refine rS ?_;refine AWP.cond rfl (fun hb => ?_) (fun hb => ?_)
 ·simp only[hb,cond_true]at hz1
  refine rS ?_;generalize hq6:(zl s1.2.1).2=q6 at hz1 ⊢;rw[bndv q6]at hz1;have hS_q6:SrcOk (400040+500 * (5-s1.1)+400) q6:=by rw[<- hq6];exact SrcOk.aid hW1.2.2.1 (by omega)
  iterate 2 refine rS ?_
  refine AWP.cond rfl (fun hb => ?_) (fun hb => ?_)
  ·simp only[hb,cond_true]at hz1
   iterate 2 refine rS ?_
   clear hR;exact⟨_,[0,3],by(have hpos:0<s1.1:=of_decide_eq_true (by assumption);have hwr:IntKind.wrap .i64 (s1.1-1)=s1.1-1:=(by rw[IntKind.wrap_i64];omega);(try dsimp only);rw[hwr];omega),by(have hpos:0<s1.1:=of_decide_eq_true (by assumption);have hwr:IntKind.wrap .i64 (s1.1-1)=s1.1-1:=(by rw[IntKind.wrap_i64];omega);(try dsimp only);rw[hwr];have hG:=hW1.2.2.2.1;have hA:=hpa s1.2.1 _ hW1.2.2.1 (by omega);have hP:=yko bdAid s1.2.2 (zl s1.2.1).1 (by omega) hW1.2.2.2.2 hA;exact⟨by omega,by omega,SrcOk.mono (by assumption) (by omega),by omega,by first|exact hP.1|exact hW1.2.2.2.2⟩),hz1,sm⟩
  ·simp only[hb,cond_false]at hz1
   refine rS ?_;clear hR;exact⟨_,[0,1],by(have hpos:0<s1.1:=of_decide_eq_true (by assumption);have hwr:IntKind.wrap .i64 (s1.1-1)=s1.1-1:=(by rw[IntKind.wrap_i64];omega);(try dsimp only);rw[hwr];omega),by(have hpos:0<s1.1:=of_decide_eq_true (by assumption);have hwr:IntKind.wrap .i64 (s1.1-1)=s1.1-1:=(by rw[IntKind.wrap_i64];omega);(try dsimp only);rw[hwr];have hG:=hW1.2.2.2.1;have hA:=hpa s1.2.1 _ hW1.2.2.1 (by omega);have hP:=yko bdAid s1.2.2 (zl s1.2.1).1 (by omega) hW1.2.2.2.2 hA;exact⟨by omega,by omega,SrcOk.mono (by assumption) (by omega),by omega,by first|exact hP.1|exact hW1.2.2.2.2⟩),hz1,sm⟩
 ·simp only[hb,cond_false]at hz1
  refine AWP.exit ?_;refine yd ?_;subst hz1;dsimp only at hR;refine rS ?_;refine AWP.lendE 1 (fun j=>eAid (s1.2.2.getD j default)) rfl le1 ?_;simp only[setE];refine AWP.ret ?_;subst hR;exact es
end N85
def D_zec : List AV -> Option (AV × List AV × List Prop)
 | [x0]=>some (ownL 45 16 eAid ((zec (rdQ yt x0)).1),[(.op (yr ((zec (rdQ yt x0)).2)))],[wQ yr yt x0,SrcOk 400000 (rdQ yt x0)])
 | _=>none
theorem y9w:OkM Tryz.prog 85 D_zec:=by unfold D_zec;exact dm N85.den
def AidQ (a:Aid):Prop:=bdAid a/\a.Light.Group.length<=2/\a.Sectors.length<=5
theorem yxz {n:Int} {r:Aid×l00Src} (h:AidP n r):AidQ r.1:=⟨yhu h,h.2.2.1.1,h.2.2.2.1⟩
theorem AidQ.l {a:Aid} (h:AidQ a):aidL a:=⟨Nat.lt_of_lt_of_le h.1.2.2.1.2.2 (by decide),by have:=h.2.2;omega⟩
structure AidsI (N:Int) (s:Int×l00Src×List Aid):Prop where
 a:0<=s.1
 b:s.1<=5
 q:SrcOk (N+400 * (5-s.1)) s.2.1
 n:(s.2.2.length:Int)<=5-s.1
 o:okP AidQ s.2.2
theorem yqs {N:Int} (a0 q2:l00Src) (hN:N<=500000) (k:Nat) (s:Int×l00Src×List Aid) (h:AidsI N s) (hk:s.1.toNat<k):∃ t,yqb (yyh a0 q2) k s=.error (.inr t)/\AidsI N t:=by
 obtain⟨e,h1,t,rfl,h2⟩:=y6d (b:=yyh a0 q2) (AidsI N) (fun e=>∃ t,e=.inr t/\AidsI N t) (fun s=>s.1.toNat) (fun s h=>by
  obtain⟨k,src,l⟩:=s;obtain⟨ha,hb,hs,hn,ho⟩:=h;simp only at ha hb hs hn ho;unfold yyh;simp only;by_cases hc:0<k
  ·rw[decide_eq_true hc,cond_true]
   left
   have hA:=ymq hs (by omega);have hw:IntKind.wrap .i64 (k-1)=k-1:=by rw[IntKind.wrap_i64];omega
   rw[hw];simp only[bnd];have hs2:=hA.1;have hQ:=yxz hA;have h1:=hA.2.1;generalize (zl src).2=s2 at hs2;generalize (zl src).1=a at hQ h1;have hpl:=(yko (fun _=>True) l a (by omega) (fun _ _=>trivial) trivial).2
   cases hp:((zub l a).2 == 0)with
   | true=>
    rw[cond_true];rw[beq_iff_eq]at hp;have hok:=yvu AidQ ho ⟨h1,hQ⟩ (t:=(zub l a).1) (Prod.ext rfl hp);exact⟨_,rfl,⟨by show 0<=k-1;omega,by show k-1<=5;omega,hs2.mono (by show _<=N+400 * (5-(k-1));omega),by show((zub l a).1.length:Int)<=5-(k-1);omega,hok⟩,by show(k-1).toNat<k.toNat;omega⟩
   | false=>
    rw[cond_false];exact⟨_,rfl,⟨by show 0<=k-1;omega,by show k-1<=5;omega,hs2.mono (by show _<=N+400 * (5-(k-1));omega),by show(l.length:Int)<=5-(k-1);omega,ho⟩,by show(k-1).toNat<k.toNat;omega⟩
  ·rw[decide_eq_false hc,cond_false]
   exact .inr ⟨_,rfl,_,rfl,ha,hb,hs,hn,ho⟩) k s h hk
 exact⟨t,h1,h2⟩
theorem ycu {n:Int} {s:l00Src} (h:SrcOk n s) (hn:n<=400000):SrcOk (n+4000) (zec s).2/\okP AidQ (zec s).1/\(zec s).1.length<=5:=by
 have hr:=yj 6 h (by omega);have hr2:=hr.2 (by omega);have q2:=h.pick (m:=6) (by omega);unfold zec;simp only[bnd];obtain⟨t,e1,e2⟩:=yqs (N:=n+2) s (za s 6).2 (by omega) (((za s 6).1).toNat+1) ((za s 6).1,(za s 6).2,([]:List Aid)) ⟨hr.1,by show(za s 6).1<=5;omega,q2.mono (by show _<=n+2+400 * (5-(za s 6).1);omega),by show((0:Nat):Int)<=5-(za s 6).1;omega,⟨⟨by simp,List.Pairwise.nil,by simp⟩,by simp⟩⟩ (by show((za s 6).1).toNat<_;omega);rw[e1];have ha:=e2.a;have hl:=e2.n;exact⟨e2.q.mono (by omega),e2.o,by show t.2.2.length<=5;omega⟩
theorem SrcOk.aids {n:Int} {s:l00Src} (h:SrcOk n s) (hn:n<=400000):SrcOk (n+4000) (zec s).2:=(ycu h hn).1
theorem yom:AidQ ({ Number:=0,Name:=[],At:={ X:=0,Y:=0:Point },Height:=0,Mark:={ Kind:=0,Colors:=[],Shape:=[],Topmark:=[]:Mark },Light:={ Kind:=0,Group:=[],Letter:=[],Colors:=[],Period:=0:Character },Sectors:=[],Intensity:=0:Aid }):=⟨by decide,by decide,by decide⟩
def zfc (a0:l00Src) (a1:(List Notice)) (a2:(List Aid)):Notice×l00Src:=
 (bnd ((za a0 3).2) fun q4=>(bnd ((za q4 50).2) fun q5=>(bnd ((za q5 4).2) fun q6=>(bif decide (0<(a1.length:Int))then(bnd ((za q6 20).2) fun q9=>(bif ((IntKind.wrap .i64 (1+((za q5 4).1))) == 1)then(bnd ((zl q9).2) fun q11=>({ Number:=IntKind.wrap .i64 ((IntKind.wrap .i64 (1+((za a0 3).1)))+((a1.getD ((IntKind.wrap .i64 ((a1.length:Int)-1)).toNat) default).Number)),Day:=IntKind.wrap .i64 (((a1.getD ((IntKind.wrap .i64 ((a1.length:Int)-1)).toNat) default).Day)+((za q6 20).1)),Kind:=IntKind.wrap .i64 (1+((za q5 4).1)),Target:=0,Aid:=((zl q9).1):Notice },q11))else(bif ((IntKind.wrap .i64 (1+((za q5 4).1))) == 2)then(bnd ((zl q9).2) fun q13=>(bif decide (0<(a2.length:Int))then(bnd ((za q13 4).2) fun q15=>(bif decide (0<((za q13 4).1))then(bnd ((za q15 (a2.length:Int)).2) fun q17=>({ Number:=IntKind.wrap .i64 ((IntKind.wrap .i64 (1+((za a0 3).1)))+((a1.getD ((IntKind.wrap .i64 ((a1.length:Int)-1)).toNat) default).Number)),Day:=IntKind.wrap .i64 (((a1.getD ((IntKind.wrap .i64 ((a1.length:Int)-1)).toNat) default).Day)+((za q6 20).1)),Kind:=IntKind.wrap .i64 (1+((za q5 4).1)),Target:=0,Aid:={ Number:=(a2.getD ((((za q15 (a2.length:Int)).1)).toNat) default).Number,Name:=((zl q9).1).Name,At:=((zl q9).1).At,Height:=((zl q9).1).Height,Mark:=((zl q9).1).Mark,Light:=((zl q9).1).Light,Sectors:=((zl q9).1).Sectors,Intensity:=((zl q9).1).Intensity:Aid }:Notice },q17))else({ Number:=IntKind.wrap .i64 ((IntKind.wrap .i64 (1+((za a0 3).1)))+((a1.getD ((IntKind.wrap .i64 ((a1.length:Int)-1)).toNat) default).Number)),Day:=IntKind.wrap .i64 (((a1.getD ((IntKind.wrap .i64 ((a1.length:Int)-1)).toNat) default).Day)+((za q6 20).1)),Kind:=IntKind.wrap .i64 (1+((za q5 4).1)),Target:=0,Aid:=((zl q9).1):Notice },q15)))else({ Number:=IntKind.wrap .i64 ((IntKind.wrap .i64 (1+((za a0 3).1)))+((a1.getD ((IntKind.wrap .i64 ((a1.length:Int)-1)).toNat) default).Number)),Day:=IntKind.wrap .i64 (((a1.getD ((IntKind.wrap .i64 ((a1.length:Int)-1)).toNat) default).Day)+((za q6 20).1)),Kind:=IntKind.wrap .i64 (1+((za q5 4).1)),Target:=0,Aid:=((zl q9).1):Notice },q13)))else(bif ((IntKind.wrap .i64 (1+((za q5 4).1))) == 3)then(bnd ((za q9 30).2) fun q19=>(bif decide (0<(a2.length:Int))then(bnd ((za q19 4).2) fun q21=>(bif decide (0<((za q19 4).1))then(bnd ((za q21 (a2.length:Int)).2) fun q23=>({ Number:=IntKind.wrap .i64 ((IntKind.wrap .i64 (1+((za a0 3).1)))+((a1.getD ((IntKind.wrap .i64 ((a1.length:Int)-1)).toNat) default).Number)),Day:=IntKind.wrap .i64 (((a1.getD ((IntKind.wrap .i64 ((a1.length:Int)-1)).toNat) default).Day)+((za q6 20).1)),Kind:=IntKind.wrap .i64 (1+((za q5 4).1)),Target:=(a2.getD ((((za q21 (a2.length:Int)).1)).toNat) default).Number,Aid:={ Number:=0,Name:=[],At:={ X:=0,Y:=0:Point },Height:=0,Mark:={ Kind:=0,Colors:=[],Shape:=[],Topmark:=[]:Mark },Light:={ Kind:=0,Group:=[],Letter:=[],Colors:=[],Period:=0:Character },Sectors:=[],Intensity:=0:Aid }:Notice },q23))else({ Number:=IntKind.wrap .i64 ((IntKind.wrap .i64 (1+((za a0 3).1)))+((a1.getD ((IntKind.wrap .i64 ((a1.length:Int)-1)).toNat) default).Number)),Day:=IntKind.wrap .i64 (((a1.getD ((IntKind.wrap .i64 ((a1.length:Int)-1)).toNat) default).Day)+((za q6 20).1)),Kind:=IntKind.wrap .i64 (1+((za q5 4).1)),Target:=IntKind.wrap .i64 (1+((za q9 30).1)),Aid:={ Number:=0,Name:=[],At:={ X:=0,Y:=0:Point },Height:=0,Mark:={ Kind:=0,Colors:=[],Shape:=[],Topmark:=[]:Mark },Light:={ Kind:=0,Group:=[],Letter:=[],Colors:=[],Period:=0:Character },Sectors:=[],Intensity:=0:Aid }:Notice },q21)))else({ Number:=IntKind.wrap .i64 ((IntKind.wrap .i64 (1+((za a0 3).1)))+((a1.getD ((IntKind.wrap .i64 ((a1.length:Int)-1)).toNat) default).Number)),Day:=IntKind.wrap .i64 (((a1.getD ((IntKind.wrap .i64 ((a1.length:Int)-1)).toNat) default).Day)+((za q6 20).1)),Kind:=IntKind.wrap .i64 (1+((za q5 4).1)),Target:=IntKind.wrap .i64 (1+((za q9 30).1)),Aid:={ Number:=0,Name:=[],At:={ X:=0,Y:=0:Point },Height:=0,Mark:={ Kind:=0,Colors:=[],Shape:=[],Topmark:=[]:Mark },Light:={ Kind:=0,Group:=[],Letter:=[],Colors:=[],Period:=0:Character },Sectors:=[],Intensity:=0:Aid }:Notice },q19)))else(bif ((IntKind.wrap .i64 (1+((za q5 4).1))) == 4)then(bnd ((za q9 9).2) fun q25=>(bnd ((za q25 (a1.length:Int)).2) fun q27=>({ Number:=IntKind.wrap .i64 ((IntKind.wrap .i64 (1+((za a0 3).1)))+((a1.getD ((IntKind.wrap .i64 ((a1.length:Int)-1)).toNat) default).Number)),Day:=IntKind.wrap .i64 (((a1.getD ((IntKind.wrap .i64 ((a1.length:Int)-1)).toNat) default).Day)+((za q6 20).1)),Kind:=IntKind.wrap .i64 (1+((za q5 4).1)),Target:=(a1.getD ((((za q25 (a1.length:Int)).1)).toNat) default).Number,Aid:={ Number:=0,Name:=[],At:={ X:=0,Y:=0:Point },Height:=0,Mark:={ Kind:=0,Colors:=[],Shape:=[],Topmark:=[]:Mark },Light:={ Kind:=0,Group:=[],Letter:=[],Colors:=[],Period:=0:Character },Sectors:=[],Intensity:=0:Aid }:Notice },q27)))else({ Number:=IntKind.wrap .i64 ((IntKind.wrap .i64 (1+((za a0 3).1)))+((a1.getD ((IntKind.wrap .i64 ((a1.length:Int)-1)).toNat) default).Number)),Day:=IntKind.wrap .i64 (((a1.getD ((IntKind.wrap .i64 ((a1.length:Int)-1)).toNat) default).Day)+((za q6 20).1)),Kind:=IntKind.wrap .i64 (1+((za q5 4).1)),Target:=0,Aid:={ Number:=0,Name:=[],At:={ X:=0,Y:=0:Point },Height:=0,Mark:={ Kind:=0,Colors:=[],Shape:=[],Topmark:=[]:Mark },Light:={ Kind:=0,Group:=[],Letter:=[],Colors:=[],Period:=0:Character },Sectors:=[],Intensity:=0:Aid }:Notice },q9))))))else(bif ((IntKind.wrap .i64 (1+((za q5 4).1))) == 1)then(bnd ((zl q6).2) fun q29=>({ Number:=IntKind.wrap .i64 (1+((za a0 3).1)),Day:=IntKind.wrap .i64 (100+((za q4 50).1)),Kind:=IntKind.wrap .i64 (1+((za q5 4).1)),Target:=0,Aid:=((zl q6).1):Notice },q29))else(bif ((IntKind.wrap .i64 (1+((za q5 4).1))) == 2)then(bnd ((zl q6).2) fun q31=>(bif decide (0<(a2.length:Int))then(bnd ((za q31 4).2) fun q33=>(bif decide (0<((za q31 4).1))then(bnd ((za q33 (a2.length:Int)).2) fun q35=>({ Number:=IntKind.wrap .i64 (1+((za a0 3).1)),Day:=IntKind.wrap .i64 (100+((za q4 50).1)),Kind:=IntKind.wrap .i64 (1+((za q5 4).1)),Target:=0,Aid:={ Number:=(a2.getD ((((za q33 (a2.length:Int)).1)).toNat) default).Number,Name:=((zl q6).1).Name,At:=((zl q6).1).At,Height:=((zl q6).1).Height,Mark:=((zl q6).1).Mark,Light:=((zl q6).1).Light,Sectors:=((zl q6).1).Sectors,Intensity:=((zl q6).1).Intensity:Aid }:Notice },q35))else({ Number:=IntKind.wrap .i64 (1+((za a0 3).1)),Day:=IntKind.wrap .i64 (100+((za q4 50).1)),Kind:=IntKind.wrap .i64 (1+((za q5 4).1)),Target:=0,Aid:=((zl q6).1):Notice },q33)))else({ Number:=IntKind.wrap .i64 (1+((za a0 3).1)),Day:=IntKind.wrap .i64 (100+((za q4 50).1)),Kind:=IntKind.wrap .i64 (1+((za q5 4).1)),Target:=0,Aid:=((zl q6).1):Notice },q31)))else(bif ((IntKind.wrap .i64 (1+((za q5 4).1))) == 3)then(bnd ((za q6 30).2) fun q37=>(bif decide (0<(a2.length:Int))then(bnd ((za q37 4).2) fun q39=>(bif decide (0<((za q37 4).1))then(bnd ((za q39 (a2.length:Int)).2) fun q41=>({ Number:=IntKind.wrap .i64 (1+((za a0 3).1)),Day:=IntKind.wrap .i64 (100+((za q4 50).1)),Kind:=IntKind.wrap .i64 (1+((za q5 4).1)),Target:=(a2.getD ((((za q39 (a2.length:Int)).1)).toNat) default).Number,Aid:={ Number:=0,Name:=[],At:={ X:=0,Y:=0:Point },Height:=0,Mark:={ Kind:=0,Colors:=[],Shape:=[],Topmark:=[]:Mark },Light:={ Kind:=0,Group:=[],Letter:=[],Colors:=[],Period:=0:Character },Sectors:=[],Intensity:=0:Aid }:Notice },q41))else({ Number:=IntKind.wrap .i64 (1+((za a0 3).1)),Day:=IntKind.wrap .i64 (100+((za q4 50).1)),Kind:=IntKind.wrap .i64 (1+((za q5 4).1)),Target:=IntKind.wrap .i64 (1+((za q6 30).1)),Aid:={ Number:=0,Name:=[],At:={ X:=0,Y:=0:Point },Height:=0,Mark:={ Kind:=0,Colors:=[],Shape:=[],Topmark:=[]:Mark },Light:={ Kind:=0,Group:=[],Letter:=[],Colors:=[],Period:=0:Character },Sectors:=[],Intensity:=0:Aid }:Notice },q39)))else({ Number:=IntKind.wrap .i64 (1+((za a0 3).1)),Day:=IntKind.wrap .i64 (100+((za q4 50).1)),Kind:=IntKind.wrap .i64 (1+((za q5 4).1)),Target:=IntKind.wrap .i64 (1+((za q6 30).1)),Aid:={ Number:=0,Name:=[],At:={ X:=0,Y:=0:Point },Height:=0,Mark:={ Kind:=0,Colors:=[],Shape:=[],Topmark:=[]:Mark },Light:={ Kind:=0,Group:=[],Letter:=[],Colors:=[],Period:=0:Character },Sectors:=[],Intensity:=0:Aid }:Notice },q37)))else(bif ((IntKind.wrap .i64 (1+((za q5 4).1))) == 4)then(bnd ((za q6 9).2) fun q43=>({ Number:=IntKind.wrap .i64 (1+((za a0 3).1)),Day:=IntKind.wrap .i64 (100+((za q4 50).1)),Kind:=IntKind.wrap .i64 (1+((za q5 4).1)),Target:=IntKind.wrap .i64 (1+((za q6 9).1)),Aid:={ Number:=0,Name:=[],At:={ X:=0,Y:=0:Point },Height:=0,Mark:={ Kind:=0,Colors:=[],Shape:=[],Topmark:=[]:Mark },Light:={ Kind:=0,Group:=[],Letter:=[],Colors:=[],Period:=0:Character },Sectors:=[],Intensity:=0:Aid }:Notice },q43))else({ Number:=IntKind.wrap .i64 (1+((za a0 3).1)),Day:=IntKind.wrap .i64 (100+((za q4 50).1)),Kind:=IntKind.wrap .i64 (1+((za q5 4).1)),Target:=0,Aid:={ Number:=0,Name:=[],At:={ X:=0,Y:=0:Point },Height:=0,Mark:={ Kind:=0,Colors:=[],Shape:=[],Topmark:=[]:Mark },Light:={ Kind:=0,Group:=[],Letter:=[],Colors:=[],Period:=0:Character },Sectors:=[],Intensity:=0:Aid }:Notice },q6)))))))))
namespace N140
theorem DD:DOk Tryz.prog (Go.Ab.DD [(137,dM [true] D_zl),(95,dM [true,false] D_za)]):=ya ywu.e <| ya ybd.e <| ye _
theorem dn:type_of% (And.intro @D_zl.eq_1 <| @D_za.eq_1):=by and_intros<;>intros<;>rfl
theorem o1 {p:Prop} (h:p:=by(first|(exact(pk_b (by assumption) (by assumption) (by omega)).1)|(exact(pk_b (by assumption) (by assumption) (by omega)).2.1)|(exact(pk_b (by assumption) (by assumption) (by omega)).2.2)|(refine SrcOk.mono (by repeat' first|assumption|exact SrcOk.next ‹_› | apply SrcOk.next|apply SrcOk.pick|apply SrcOk.one|apply SrcOk.among|apply SrcOk.text|apply SrcOk.colors|apply SrcOk.point|apply SrcOk.chr|apply SrcOk.sectors|apply SrcOk.aid|apply SrcOk.aids|apply SrcOk.notice|omega) (by omega))|(exact(yj _ (by assumption) (by omega)).1)|(exact(yj _ (by assumption) (by omega)).2 (by omega))|(rename_i h9;simp only[beq_eq_false_iff_ne,ne_eq]at h9;exact(yj _ (by assumption) (by omega)).2 (by omega))|(rename_i h9;replace h9:=of_decide_eq_true h9;exact(yj _ (by assumption) (by omega)).2 (by omega)));first|done|fail):p:=h
set_option maxHeartbeats 2000000 in
set_option maxRecDepth 20000 in
theorem den (a0:l00Src) (a1:(List Notice)) (a2:(List Aid)) (hp0:SrcOk 400000 a0):DenM Tryz.prog 140 [.op (yr a0),encL 20 yf a1,encL 16 eAid a2] (.agg (yf ((zfc a0 a1 a2).1))) [(.op (yr ((zfc a0 a1 a2).2))),.any,.any]:=by
 generalize hR:zfc a0 a1 a2=r;unfold zfc at hR;refine djL (gb:=[true,false,false]) Tryz.func140 Tryz.ntmps140 Tryz.results140 ?_;intro c hL hc hk;obtain⟨hL0,hL1,hL2,_⟩:=hL;have hw0:bwl00Src a0:=ybb a0 hL0;have hw1:a1.length<9223372036854775808:=Nat.lt_succ_of_le (yb hL1).1;have hw2:∀ v∈a1,bwNotice v:=fun v hv=>yi v ((yb hL1).2 v hv)
 have hw3:a2.length<9223372036854775808:=Nat.lt_succ_of_le (yb hL2).1;have hw4:∀ v∈a2,bwAid v:=fun v hv=>yy v ((yb hL2).2 v hv)
 clear hL0 hL1 hL2;simp only[adEL,adE,adRL,adR,ownL,encL,sv,List.nil_append,List.append_nil,List.cons_append,List.length_cons,List.length_nil,pars,Nat.zero_add,Nat.reduceAdd]at hk ⊢;iterate 2 refine rS ?_
 generalize hq4:(za a0 3).2=q4 at hR ⊢;replace hR:=bn hR;have hS_q4:SrcOk (400002) q4:=by rw[<- hq4];exact SrcOk.pick hp0 (by omega)
 generalize hq5:(za q4 50).2=q5 at hR ⊢;replace hR:=bn hR;have hS_q5:SrcOk (400004) q5:=by rw[<- hq5];exact SrcOk.pick hS_q4 (by omega)
 generalize hq6:(za q5 4).2=q6 at hR ⊢;replace hR:=bn hR;have hS_q6:SrcOk (400006) q6:=by rw[<- hq6];exact SrcOk.pick hS_q5 (by omega)
 iterate 2 refine rS ?_
 refine AWP.cond rfl (fun hb => ?_) (fun hb => ?_)
 ·replace hR:=ct hR
  refine AWP.seq ?_;refine AWP.regP mixed G_ok DD hc 9 [0,1,2,3,4,5,6,7,8] .leaf (by kernel_rfl) (by kernel_rfl) (by kernel_rfl) (fun K hK => ?_);simp only[y0g,runN,runP,y5b,nthO,ea,absV,absVL,cput,gv,sv,dn,reduceCtorEq,reduceIte,Nat.reduceBEq,Nat.reduceAdd,Nat.reduceEqDiff,Nat.reduceLT,Nat.reduceLeDiff,Nat.reduceMul,Nat.reduceSub,BEq.rfl,beq_self_eq_true,Int.reduceToNat];repeat' apply And.intro
  all_goals first|refine hK _ ?_|exact ot
  all_goals clear hK K
  refine AWP.regP mixed G_ok DD hc 9 [0,1,2,3,4,5,6] (.alt 7 [8] [0,1,2,3,4,5,8] .leaf .stop) (by kernel_rfl) (by kernel_rfl) (by kernel_rfl) (fun K hK => ?_);simp only[y0g,runN,runP,y5b,nthO,ea,absV,absVL,cput,gv,sv,dn,reduceCtorEq,reduceIte,Nat.reduceBEq,Nat.reduceAdd,Nat.reduceEqDiff,Nat.reduceLT,Nat.reduceLeDiff,Nat.reduceMul,Nat.reduceSub,BEq.rfl,beq_self_eq_true,Int.reduceToNat];repeat' apply And.intro
  all_goals first|refine hK _ ?_|exact ot
  all_goals clear hK K
  generalize hq9:(za q6 20).2=q9 at hR ⊢;replace hR:=bn hR;have hS_q9:SrcOk (400008) q9:=by rw[<- hq9];exact SrcOk.pick hS_q6 (by omega)
  iterate 2 refine rS ?_
  refine AWP.cond rfl (fun hb => ?_) (fun hb => ?_)
  ·replace hR:=ct hR
   refine rS ?_;generalize hq11:(zl q9).2=q11 at hR ⊢;replace hR:=bn hR;have hS_q11:SrcOk (400408) q11:=by rw[<- hq11];exact SrcOk.aid hS_q9 (by omega)
   refine rS ?_;refine AWP.ret ?_;subst hR;exact esL
  ·replace hR:=cf hR
   refine rS ?_;refine AWP.cond rfl (fun hb => ?_) (fun hb => ?_)
   ·replace hR:=ct hR
    refine rS ?_;generalize hq13:(zl q9).2=q13 at hR ⊢;replace hR:=bn hR;have hS_q13:SrcOk (400408) q13:=by rw[<- hq13];exact SrcOk.aid hS_q9 (by omega)
    refine AWP.seq ?_;rcases Bool.eq_false_or_eq_true (decide (0<(a2.length:Int)))with hb|hb
    ·replace hR:=ct hR
     refine rK [(4,0),(5,0),(6,0),(7,2)] ?_;generalize hq15:(za q13 4).2=q15 at hR ⊢;replace hR:=bn hR;have hS_q15:SrcOk (400410) q15:=by rw[<- hq15];exact SrcOk.pick hS_q13 (by omega)
     refine AWP.cond rfl (fun hb => ?_) (fun hb => ?_)
     ·replace hR:=ct hR
      refine rS ?_;generalize hq17:(za q15 (a2.length:Int)).2=q17 at hR ⊢;replace hR:=bn hR;have hS_q17:SrcOk (400412) q17:=by rw[<- hq17];exact SrcOk.pick hS_q15 (by omega)
      refine rS ?_;refine AWP.ret ?_;subst hR;exact esL
     ·replace hR:=cf hR
      refine rS ?_;refine AWP.ret ?_;subst hR;exact esL
    ·replace hR:=cf hR
     refine rK [(4,1),(5,1),(6,1),(7,3)] ?_;refine AWP.cond rfl (fun hb => ?_) (fun hb => ?_)
     ·exact absurd hb (by decide)
     ·refine rS ?_
      refine AWP.ret ?_;subst hR;exact esL
   ·replace hR:=cf hR
    refine rS ?_;refine AWP.cond rfl (fun hb => ?_) (fun hb => ?_)
    ·replace hR:=ct hR
     refine rS ?_;generalize hq19:(za q9 30).2=q19 at hR ⊢;replace hR:=bn hR;have hS_q19:SrcOk (400010) q19:=by rw[<- hq19];exact SrcOk.pick hS_q9 (by omega)
     refine AWP.seq ?_;rcases Bool.eq_false_or_eq_true (decide (0<(a2.length:Int)))with hb|hb
     ·replace hR:=ct hR
      refine rK [(4,0),(5,0),(6,0),(7,2)] ?_;generalize hq21:(za q19 4).2=q21 at hR ⊢;replace hR:=bn hR;have hS_q21:SrcOk (400012) q21:=by rw[<- hq21];exact SrcOk.pick hS_q19 (by omega)
      refine AWP.cond rfl (fun hb => ?_) (fun hb => ?_)
      ·replace hR:=ct hR
       refine rS ?_;generalize hq23:(za q21 (a2.length:Int)).2=q23 at hR ⊢;replace hR:=bn hR;have hS_q23:SrcOk (400014) q23:=by rw[<- hq23];exact SrcOk.pick hS_q21 (by omega)
       refine rS ?_;refine AWP.ret ?_;subst hR;exact esL
      ·replace hR:=cf hR
       refine rS ?_;refine AWP.ret ?_;subst hR;exact esL
     ·replace hR:=cf hR
      refine rK [(4,1),(5,1),(6,1),(7,3)] ?_;refine AWP.cond rfl (fun hb => ?_) (fun hb => ?_)
      ·exact absurd hb (by decide)
      ·refine rS ?_
       refine AWP.ret ?_;subst hR;exact esL
    ·replace hR:=cf hR
     refine rS ?_;refine AWP.cond rfl (fun hb => ?_) (fun hb => ?_)
     ·replace hR:=ct hR
      refine rS ?_;generalize hq25:(za q9 9).2=q25 at hR ⊢;replace hR:=bn hR;have hS_q25:SrcOk (400010) q25:=by rw[<- hq25];exact SrcOk.pick hS_q9 (by omega)
      refine rS ?_;refine AWP.cond rfl (fun hb => ?_) (fun hb => ?_)
      ·refine rS ?_
       generalize hq27:(za q25 (a1.length:Int)).2=q27 at hR ⊢;replace hR:=bn hR;have hS_q27:SrcOk (400012) q27:=by rw[<- hq27];exact SrcOk.pick hS_q25 (by omega)
       refine rS ?_;refine AWP.ret ?_;subst hR;exact esL
      ·exfalso;simp_all
     ·replace hR:=cf hR
      refine rS ?_;refine AWP.ret ?_;subst hR;exact esL
 ·replace hR:=cf hR
  iterate 2 refine rS ?_
  refine AWP.cond rfl (fun hb => ?_) (fun hb => ?_)
  ·replace hR:=ct hR
   refine rS ?_;generalize hq29:(zl q6).2=q29 at hR ⊢;replace hR:=bn hR;have hS_q29:SrcOk (400406) q29:=by rw[<- hq29];exact SrcOk.aid hS_q6 (by omega)
   refine rS ?_;refine AWP.ret ?_;subst hR;exact esL
  ·replace hR:=cf hR
   refine rS ?_;refine AWP.cond rfl (fun hb => ?_) (fun hb => ?_)
   ·replace hR:=ct hR
    refine rS ?_;generalize hq31:(zl q6).2=q31 at hR ⊢;replace hR:=bn hR;have hS_q31:SrcOk (400406) q31:=by rw[<- hq31];exact SrcOk.aid hS_q6 (by omega)
    refine AWP.seq ?_;rcases Bool.eq_false_or_eq_true (decide (0<(a2.length:Int)))with hb|hb
    ·replace hR:=ct hR
     refine rK [(4,0),(5,0),(6,0),(7,2)] ?_;generalize hq33:(za q31 4).2=q33 at hR ⊢;replace hR:=bn hR;have hS_q33:SrcOk (400408) q33:=by rw[<- hq33];exact SrcOk.pick hS_q31 (by omega)
     refine AWP.cond rfl (fun hb => ?_) (fun hb => ?_)
     ·replace hR:=ct hR
      refine rS ?_;generalize hq35:(za q33 (a2.length:Int)).2=q35 at hR ⊢;replace hR:=bn hR;have hS_q35:SrcOk (400410) q35:=by rw[<- hq35];exact SrcOk.pick hS_q33 (by omega)
      refine rS ?_;refine AWP.ret ?_;subst hR;exact esL
     ·replace hR:=cf hR
      refine rS ?_;refine AWP.ret ?_;subst hR;exact esL
    ·replace hR:=cf hR
     refine rK [(4,1),(5,1),(6,1),(7,3)] ?_;refine AWP.cond rfl (fun hb => ?_) (fun hb => ?_)
     ·exact absurd hb (by decide)
     ·refine rS ?_
      refine AWP.ret ?_;subst hR;exact esL
   ·replace hR:=cf hR
    refine rS ?_;refine AWP.cond rfl (fun hb => ?_) (fun hb => ?_)
    ·replace hR:=ct hR
     refine rS ?_;generalize hq37:(za q6 30).2=q37 at hR ⊢;replace hR:=bn hR;have hS_q37:SrcOk (400008) q37:=by rw[<- hq37];exact SrcOk.pick hS_q6 (by omega)
     refine AWP.seq ?_;rcases Bool.eq_false_or_eq_true (decide (0<(a2.length:Int)))with hb|hb
     ·replace hR:=ct hR
      refine rK [(4,0),(5,0),(6,0),(7,2)] ?_;generalize hq39:(za q37 4).2=q39 at hR ⊢;replace hR:=bn hR;have hS_q39:SrcOk (400010) q39:=by rw[<- hq39];exact SrcOk.pick hS_q37 (by omega)
      refine AWP.cond rfl (fun hb => ?_) (fun hb => ?_)
      ·replace hR:=ct hR
       refine rS ?_;generalize hq41:(za q39 (a2.length:Int)).2=q41 at hR ⊢;replace hR:=bn hR;have hS_q41:SrcOk (400012) q41:=by rw[<- hq41];exact SrcOk.pick hS_q39 (by omega)
       refine rS ?_;refine AWP.ret ?_;subst hR;exact esL
      ·replace hR:=cf hR
       refine rS ?_;refine AWP.ret ?_;subst hR;exact esL
     ·replace hR:=cf hR
      refine rK [(4,1),(5,1),(6,1),(7,3)] ?_;refine AWP.cond rfl (fun hb => ?_) (fun hb => ?_)
      ·exact absurd hb (by decide)
      ·refine rS ?_
       refine AWP.ret ?_;subst hR;exact esL
    ·replace hR:=cf hR
     refine rS ?_;refine AWP.cond rfl (fun hb => ?_) (fun hb => ?_)
     ·replace hR:=ct hR
      refine rS ?_;generalize hq43:(za q6 9).2=q43 at hR ⊢;replace hR:=bn hR;have hS_q43:SrcOk (400008) q43:=by rw[<- hq43];exact SrcOk.pick hS_q6 (by omega)
      refine rS ?_;refine AWP.cond rfl (fun hb => ?_) (fun hb => ?_)
      ·exfalso;simp_all
      ·refine rS ?_
       refine AWP.ret ?_;subst hR;exact esL
     ·replace hR:=cf hR
      refine rS ?_;refine AWP.ret ?_;subst hR;exact esL
end N140
def D_zfc : List AV -> Option (AV × List AV × List Prop)
 | [x0,x1,x2]=>some (.agg (yf ((zfc (rdQ yt x0) (rdL yc x1) (rdL dAid x2)).1)),[(.op (yr ((zfc (rdQ yt x0) (rdL yc x1) (rdL dAid x2)).2))),.any,.any],[wQ yr yt x0,wL 20 yf yc x1,wL 16 eAid dAid x2,SrcOk 400000 (rdQ yt x0)])
 | _=>none
theorem ydv:OkM Tryz.prog 140 D_zfc:=by unfold D_zfc;exact dm N140.den
theorem ycw {a:Aid} (h:AidQ a) (k:Int):AidQ { Number:=k,Name:=a.Name,At:=a.At,Height:=a.Height,Mark:=a.Mark,Light:=a.Light,Sectors:=a.Sectors,Intensity:=a.Intensity:Aid }:=h
def yyk (N D K t4:Int) (s4:l00Src) (e:List Aid) (q0:l00Src):Notice×l00Src:=
 (bif (K == 1)then(bnd ((zl q0).2) fun q28=>({ Number:=N,Day:=D,Kind:=K,Target:=0,Aid:=(zl q0).1:Notice },q28))else(bif (K == 2)then(bnd ((zl q0).2) fun q30=>(bif decide (0<(e.length:Int))then(bnd ((za q30 4).2) fun q32=>(bif decide (0<((za q30 4).1))then(bnd ((za q32 (e.length:Int)).2) fun q34=>({ Number:=N,Day:=D,Kind:=K,Target:=0,Aid:={ Number:=(e.getD ((((za q32 (e.length:Int)).1)).toNat) default).Number,Name:=((zl q0).1).Name,At:=((zl q0).1).At,Height:=((zl q0).1).Height,Mark:=((zl q0).1).Mark,Light:=((zl q0).1).Light,Sectors:=((zl q0).1).Sectors,Intensity:=((zl q0).1).Intensity:Aid }:Notice },q34))else({ Number:=N,Day:=D,Kind:=K,Target:=0,Aid:=(zl q0).1:Notice },q32)))else({ Number:=N,Day:=D,Kind:=K,Target:=0,Aid:=(zl q0).1:Notice },q30)))else(bif (K == 3)then(bnd ((za q0 30).2) fun q36=>(bif decide (0<(e.length:Int))then(bnd ((za q36 4).2) fun q38=>(bif decide (0<((za q36 4).1))then(bnd ((za q38 (e.length:Int)).2) fun q40=>({ Number:=N,Day:=D,Kind:=K,Target:=(e.getD ((((za q38 (e.length:Int)).1)).toNat) default).Number,Aid:={ Number:=0,Name:=[],At:={ X:=0,Y:=0:Point },Height:=0,Mark:={ Kind:=0,Colors:=[],Shape:=[],Topmark:=[]:Mark },Light:={ Kind:=0,Group:=[],Letter:=[],Colors:=[],Period:=0:Character },Sectors:=[],Intensity:=0:Aid }:Notice },q40))else({ Number:=N,Day:=D,Kind:=K,Target:=IntKind.wrap .i64 (1+((za q0 30).1)),Aid:={ Number:=0,Name:=[],At:={ X:=0,Y:=0:Point },Height:=0,Mark:={ Kind:=0,Colors:=[],Shape:=[],Topmark:=[]:Mark },Light:={ Kind:=0,Group:=[],Letter:=[],Colors:=[],Period:=0:Character },Sectors:=[],Intensity:=0:Aid }:Notice },q38)))else({ Number:=N,Day:=D,Kind:=K,Target:=IntKind.wrap .i64 (1+((za q0 30).1)),Aid:={ Number:=0,Name:=[],At:={ X:=0,Y:=0:Point },Height:=0,Mark:={ Kind:=0,Colors:=[],Shape:=[],Topmark:=[]:Mark },Light:={ Kind:=0,Group:=[],Letter:=[],Colors:=[],Period:=0:Character },Sectors:=[],Intensity:=0:Aid }:Notice },q36)))else(bif (K == 4)then({ Number:=N,Day:=D,Kind:=K,Target:=t4,Aid:={ Number:=0,Name:=[],At:={ X:=0,Y:=0:Point },Height:=0,Mark:={ Kind:=0,Colors:=[],Shape:=[],Topmark:=[]:Mark },Light:={ Kind:=0,Group:=[],Letter:=[],Colors:=[],Period:=0:Character },Sectors:=[],Intensity:=0:Aid }:Notice },s4)else({ Number:=N,Day:=D,Kind:=K,Target:=0,Aid:={ Number:=0,Name:=[],At:={ X:=0,Y:=0:Point },Height:=0,Mark:={ Kind:=0,Colors:=[],Shape:=[],Topmark:=[]:Mark },Light:={ Kind:=0,Group:=[],Letter:=[],Colors:=[],Period:=0:Character },Sectors:=[],Intensity:=0:Aid }:Notice },q0)))))
theorem y8j {n:Int} {N D K t4:Int} {s4:l00Src} {e:List Aid} {q:l00Src} (h:SrcOk n q) (h4:SrcOk (n+500) s4) (hn:n<=500000):SrcOk (n+500) (yyk N D K t4 s4 e q).2/\AidQ (yyk N D K t4 s4 e q).1.Aid/\(yyk N D K t4 s4 e q).1.Day=D:=by
 have ha:=h.aid (by omega);have hA:=yxz (ymq h (by omega));have m:∀ {k:Int} {s:l00Src},SrcOk k s->k<=n+500->SrcOk (n+500) s:=fun h h2=>h.mono h2
 unfold yyk;simp only[bnd]
 cases(K == 1)with
 | true=>exact⟨m ha (by omega),hA,rfl⟩
 | false=>
 rw[cond_false]
 cases(K == 2)with
 | true=>
  rw[cond_true]
  cases decide (0<(e.length:Int))with
  | false=>exact⟨m ha (by omega),hA,rfl⟩
  | true=>
   rw[cond_true];have hp:=ha.pick (m:=4) (by omega)
   cases decide (0<(za (zl q).2 4).1)with
   | false=>exact⟨m hp (by omega),hA,rfl⟩
   | true=>exact⟨m (hp.pick (m:=(e.length:Int)) (by omega)) (by omega),ycw hA _,rfl⟩
 | false=>
 rw[cond_false]
 cases(K == 3)with
 | true=>
  rw[cond_true];have h3:=h.pick (m:=30) (by omega)
  cases decide (0<(e.length:Int))with
  | false=>exact⟨m h3 (by omega),yom,rfl⟩
  | true=>
   rw[cond_true];have hp:=h3.pick (m:=4) (by omega)
   cases decide (0<(za (za q 30).2 4).1)with
   | false=>exact⟨m hp (by omega),yom,rfl⟩
   | true=>exact⟨m (hp.pick (m:=(e.length:Int)) (by omega)) (by omega),yom,rfl⟩
 | false=>
 rw[cond_false]
 cases(K == 4)with
 | true=>exact⟨h4,yom,rfl⟩
 | false=>exact⟨m h (by omega),yom,rfl⟩
def yuu (l:List Notice) (d:Int):Prop:=(∀ v∈l,100<=v.Day/\v.Day<=99999)->100<=d
theorem y5o {n:Int} {s:l00Src} {l:List Notice} {e:List Aid} (h:SrcOk n s) (hn:n<=400000) (hl:l.length<1000000):SrcOk (n+600) (zfc s l e).2/\AidQ (zfc s l e).1.Aid/\yuu l (zfc s l e).1.Day:=by
 have h1:=h.pick (m:=3) (by omega);have r2:=yj 50 h1 (by omega);have r2b:=r2.2 (by omega);have h2:=h1.pick (m:=50) (by omega);have h3:=h2.pick (m:=4) (by omega);have hm:∀ {d:Int} {r:Notice×l00Src},SrcOk (n+2+2+2+2+500) r.2/\AidQ r.1.Aid/\r.1.Day=d->yuu l d->SrcOk (n+600) r.2/\AidQ r.1.Aid/\yuu l r.1.Day:=fun⟨a,b,c⟩ hd=>⟨a.mono (by omega),b,by rw[c];exact hd⟩
 unfold zfc;simp only[bnd]
 cases hc:decide (0<(l.length:Int))with
 | true=>
  have hc:=of_decide_eq_true hc;rw[cond_true];have r4:=yj 20 h3 (by omega);have r4b:=r4.2 (by omega);have h4:=h3.pick (m:=20) (by omega);have h5:=h4.pick (m:=9) (by omega);have h6:=h5.pick (m:=(l.length:Int)) (by omega);refine hm (y8j (N:=_) (D:=_) (K:=_) (t4:=_) (s4:=(za (za _ 9).2 (l.length:Int)).2) (e:=e) h4 (h6.mono (by omega)) (by omega)) ?_;intro hv;have hw:IntKind.wrap .i64 ((l.length:Int)-1)=(l.length:Int)-1:=by rw[IntKind.wrap_i64];omega
  rw[hw]
  have hg:l.getD ((l.length:Int)-1).toNat default∈l:=by
   have hi:((l.length:Int)-1).toNat<l.length:=by omega
   rw[List.getD_eq_getElem?_getD,List.getElem?_eq_getElem hi];exact List.getElem_mem hi
  have hv:=hv _ hg;generalize (l.getD ((l.length:Int)-1).toNat default).Day=d at hv;rw[IntKind.wrap_i64];omega
 | false=>
  rw[cond_false];refine hm (y8j (N:=_) (D:=_) (K:=_) (t4:=_) (s4:=(za _ 9).2) (e:=e) (h3.mono (by omega)) ((h3.pick (m:=9) (by omega)).mono (by omega)) (by omega)) ?_;intro hv;rw[IntKind.wrap_i64];omega
theorem ybz {n:Int} {s:l00Src} {l:List Notice} {e:List Aid} (h:SrcOk n s) (hn:n<=400000) (hl:l.length<1000000):SrcOk (n+1000) (zfc s l e).2/\bdNotice (zfc s l e).1:=
 ⟨(y5o h hn hl).1.mono (by omega),(y5o h hn hl).2.1.1⟩
theorem SrcOk.notice {n:Int} {s:l00Src} {l:List Notice} {e:List Aid} (h:SrcOk n s) (hn:n<=400000/\l.length<1000000):SrcOk (n+1000) (zfc s l e).2:=(ybz h hn.1 hn.2).1
end Go.Ab
