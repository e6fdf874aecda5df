/- A part of a proof: walks of functions and lemmas of our own. No conditions. -/
import Derived.Test.YtcaopagmcldjmaaGreatDoorAAp
import Derived.Test.YtcaopagmcldjmaaGreatDoorAAv
import Derived.Test.YtcaopagmcldjmaaGreatDoorABb
import Derived.Test.YtcaopagmcldjmaaGreatDoorABc
import Derived.Test.YtcaopagmcldjmaaGreatDoorAAx
import Derived.Test.YtcaopagmcldjmaaGreatDoorAAu
import Derived.Test.YtcaopagmcldjmaaGreatDoorAAy
import Derived.Test.YtcaopagmcldjmaaGreatDoorAAl
import Derived.Test.YtcaopagmcldjmaaGreatDoorAAm
set_option linter.unusedSectionVars false
set_option linter.unusedVariables false
set_option linter.unusedSimpArgs false
set_option maxHeartbeats 1000000
namespace Go.Ab
open Go Go.Proofs
def nineC:List (List UInt8):=[[87],[82],[71],[89],[87,82],[82,71],[87,82,71],[87,71]]
def famG:List (List Int):=[[],[2],[3],[1,1],[1,2],[1,3],[2,1],[2,2],[2,3],[3,1],[3,2],[3,3]]
def mkC (k:Int) (g:List Int) (l:List UInt8):Character:={ Kind:=k,Group:=g,Letter:=l,Colors:=[87],Period:=0 }
def famC:List Character:=[mkC 1 [] [],mkC 3 [] [],mkC 6 [] [],mkC 7 [] [],mkC 6 [3] [],mkC 6 [6] [],mkC 6 [9] [],mkC 7 [3] [],mkC 7 [6] [],mkC 7 [9] [],mkC 6 [6] [76],mkC 7 [6] [76]]++famG.map (fun g=>mkC 2 g [])++famG.map (fun g=>mkC 4 g [])++famG.map (fun g=>mkC 5 g [])++(List.range 26).map (fun i=>mkC 8 [] [UInt8.ofNat (65+i)])
def chkC (c:Character):Bool:=ztg c && (decide (0<=zp c) && (decide (zp c<=600) && (c.Kind != 3 || zp c == 20)))
theorem y4z:(famC.all chkC)=true:=by decide +kernel
theorem y82 {c:Character} (h:c∈famC):chkC c=true:=List.all_eq_true.1 y4z c h
structure PreC (c:Character):Prop where
 pp:c.Period=0
 cc:c.Colors∈nineC
 ff:mkC c.Kind c.Group c.Letter∈famC
def ChrP (n:Int) (r:Character×l00Src):Prop:=SrcOk n r.2/\zse r.1=true/\r.1.Colors∈nineC/\r.1.Group.length<=2/\r.1.Letter.length<=1
def yzp (c:Character) (s:l00Src):Character×l00Src:=
 bif zkb c then(c,s)else(bnd ((zb s ([0,5,20,50,100,1,200]:List Int)).2) fun q=>(bif (c.Kind == 3)then({ Kind:=c.Kind,Group:=c.Group,Letter:=c.Letter,Colors:=c.Colors,Period:=IntKind.wrap .i64 ((zu 600 (IntKind.wrap .i64 ((zp c)+((zb s ([0,5,20,50,100,1,200]:List Int)).1))))+((zu 600 (IntKind.wrap .i64 ((zp c)+((zb s ([0,5,20,50,100,1,200]:List Int)).1)))).tmod 2)):Character },q)else({ Kind:=c.Kind,Group:=c.Group,Letter:=c.Letter,Colors:=c.Colors,Period:=(zu 600 (IntKind.wrap .i64 ((zp c)+((zb s ([0,5,20,50,100,1,200]:List Int)).1)))):Character },q)))
theorem y5e {n:Int} {s:l00Src} {l:List Int} (h:SrcOk n s) (hn:n<=2000000000) (hl:1<=l.length):(zb s l).1∈l:=by
 have hr:=yg (l.length:Int) h hn;have h2:=hr.2 (by omega);unfold zb;simp only;have hi:((za s (l.length:Int)).1).toNat<l.length:=by omega
 rw[List.getD_eq_getElem?_getD,List.getElem?_eq_getElem hi];exact List.getElem_mem hi
theorem y75 {C:List UInt8} (h:C∈nineC):zmc C=true:=by
 have:(nineC.all zmc)=true:=by decide +kernel
 exact List.all_eq_true.1 this C h
theorem ygk (k:Int) (g:List Int) (l C:List UInt8) (p:Int) (h:zmc C=true):ztg { Kind:=k,Group:=g,Letter:=l,Colors:=C,Period:=p }=ztg (mkC k g l):=by
 have h2:zmc [87]=true:=by decide +kernel
 unfold ztg mkC;simp only[h,h2]
theorem y8o (k:Int) (g:List Int) (l C:List UInt8) (p:Int):zp { Kind:=k,Group:=g,Letter:=l,Colors:=C,Period:=p }=zp (mkC k g l):=rfl
theorem ylm (k:Int) (g:List Int) (l C:List UInt8) (p:Int):zkb { Kind:=k,Group:=g,Letter:=l,Colors:=C,Period:=p }=zkb (mkC k g l):=rfl
theorem y32 {k:Int} {g:List Int} {l:List UInt8} (h:mkC k g l∈famC):g.length<=2/\l.length<=1:=by
 have:(famC.all fun c=>decide (c.Group.length<=2/\c.Letter.length<=1))=true:=by decide +kernel
 exact of_decide_eq_true (List.all_eq_true.1 this _ h)
theorem y4n {n:Int} {c:Character} {s:l00Src} (hs:SrcOk n s) (hn:n<=1000000000) (hc:PreC c):ChrP (n+2) (yzp c s):=by
 obtain⟨K,G,L,C,p⟩:=c;obtain⟨h1,h2,h3⟩:=hc;simp only at h1 h2 h3;subst h1;have hk:=y82 h3;have hg:=y32 h3;have hcol:=y75 h2;unfold chkC at hk;simp only[Bool.and_eq_true,decide_eq_true_eq,Bool.or_eq_true,bne_iff_ne,beq_iff_eq]at hk;obtain⟨k1,k2,k3,k4⟩:=hk;have k4:K≠3\/zp (mkC K G L)=20:=k4
 have okP:∀ p:Int,(zkb (mkC K G L)=true->p=0)->(zkb (mkC K G L)=false->(K=3->p.tmod 2=0)/\zp (mkC K G L)<=p/\p<=600)->zse { Kind:=K,Group:=G,Letter:=L,Colors:=C,Period:=p }=true:=fun p q1 q2=>by
  unfold zse;rw[ygk K G L C p hcol,k1,ylm,y8o]
  cases hst:zkb (mkC K G L)with
  | true=>simp[q1 hst]
  | false=>
   obtain⟨e1,e2,e3⟩:=q2 hst
   have e4:((K == 3) && (p.tmod 2 != 0))=false:=by
    by_cases hK:K=3
    ·rw[e1 hK];simp
    ·simp[hK]
   simp only[Bool.not_true,cond_false,e4];unfold zv;simp only[Bool.and_eq_true,decide_eq_true_eq];omega
 unfold yzp;rw[ylm]
 cases hst:zkb (mkC K G L)with
 | true=>exact⟨hs.mono (by omega),okP 0 (fun _=>rfl) (fun h=>absurd (hst.symm.trans h) (by decide)),h2,hg⟩
 | false=>
  rw[cond_false,y8o];have hx:=y5e (l:=([0,5,20,50,100,1,200]:List Int)) hs (by omega) (by decide);have hq:=hs.among (l:=([0,5,20,50,100,1,200]:List Int)) (by omega);generalize (zb s ([0,5,20,50,100,1,200]:List Int)).1=x at hx;generalize (zb s ([0,5,20,50,100,1,200]:List Int)).2=q at hq
  have hx2:0<=x/\x<=200:=by
   simp only[List.mem_cons,List.not_mem_nil,or_false]at hx;omega
  have hw:IntKind.wrap .i64 (zp (mkC K G L)+x)=zp (mkC K G L)+x:=by rw[IntKind.wrap_i64];omega
  rw[hw]
  have hm:zp (mkC K G L)<=zu 600 (zp (mkC K G L)+x)/\zu 600 (zp (mkC K G L)+x)<=600/\(K=3->zu 600 (zp (mkC K G L)+x)<=220):=by
   unfold zu;by_cases hd:600<zp (mkC K G L)+x
   ·rw[decide_eq_true hd,cond_true];omega
   ·rw[decide_eq_false hd,cond_false];omega
  generalize zu 600 (zp (mkC K G L)+x)=m at hm;show ChrP (n+2) (bif (K == 3)then _ else _)
  cases hK:(K == 3)with
  | true=>
   rw[beq_iff_eq]at hK;have ht:m.tmod 2=m % 2:=Int.tmod_eq_emod_of_nonneg (by omega);have hw2:IntKind.wrap .i64 (m+m % 2)=m+m % 2:=by rw[IntKind.wrap_i64];omega
   have ht2:(m+m % 2).tmod 2=(m+m % 2) % 2:=Int.tmod_eq_emod_of_nonneg (by omega);rw[cond_true,ht,hw2];exact⟨hq,okP _ (fun h=>absurd (hst.symm.trans h) (by decide)) (fun _=>⟨fun _=>by rw[ht2];omega,by omega,by omega⟩),h2,hg⟩
  | false=>
   rw[cond_false];rw[beq_eq_false_iff_ne]at hK;exact⟨hq,okP _ (fun h=>absurd (hst.symm.trans h) (by decide)) (fun _=>⟨fun h=>absurd h hK,hm.1,hm.2.1⟩),h2,hg⟩
theorem y2s {n:Int} {s:l00Src} (h:SrcOk n s) (hn:n<=2000000000):(ze s).1∈nineC:=by
 unfold ze;have:=y6g (l:=([[87],[87],[82],[71],[89],[87,82],[82,71],[87,82,71],[87,71]]:List (List UInt8))) h hn (by decide);simp only;generalize (zr s ([[87],[87],[82],[71],[89],[87,82],[82,71],[87,82,71],[87,71]]:List (List UInt8))).1=x at this;have hs:∀ y∈([[87],[87],[82],[71],[89],[87,82],[82,71],[87,82,71],[87,71]]:List (List UInt8)),y∈nineC:=by decide
 exact hs x this
structure GrpI (N:Int) (s:Int×l00Src×List Int):Prop where
 a:0<=s.1
 b:s.1<=3
 q:SrcOk (N+2 * (3-s.1)) s.2.1
 g:(s.2.2.length:Int)<=3-s.1
 g2:s.1<=1->s.2.2.length<=2
 v:∀ x∈s.2.2,1<=x/\x<=3
def grpStep (s:Int×l00Src×List Int):Except (Sum (Character×l00Src) (Int×l00Src×List Int)) (Int×l00Src×List Int):=
 (bif decide (1<s.1)then(bnd ((za s.2.1 3).2) fun q=>.ok (IntKind.wrap .i64 (s.1-1),q,s.2.2++([IntKind.wrap .i64 (1+((za s.2.1 3).1))]:List Int)))else .error (.inr (s.1,s.2.1,s.2.2)))
theorem y2h {N:Int} (hN:N<=1000000000) (k:Nat) (s:Int×l00Src×List Int) (h:GrpI N s) (hk:s.1.toNat<k):∃ t,yeb grpStep k s=.error (.inr t)/\GrpI N t/\t.1<=1:=by
 obtain⟨e,h1,t,rfl,h2⟩:=y7d (b:=grpStep) (GrpI N) (fun e=>∃ t,e=.inr t/\GrpI N t/\t.1<=1) (fun s=>s.1.toNat) (fun s h=>by
  unfold grpStep;by_cases hc:1<s.1
  ·rw[decide_eq_true hc,cond_true]
   left
   have hb:=h.b;have hr:=yg 3 h.q (by omega);have hr2:=hr.2 (by omega);have hq:=h.q.pick (m:=3) (by omega);have hw:IntKind.wrap .i64 (s.1-1)=s.1-1:=by rw[IntKind.wrap_i64];omega
   have hw2:IntKind.wrap .i64 (1+(za s.2.1 3).1)=1+(za s.2.1 3).1:=by rw[IntKind.wrap_i64];omega
   rw[hw,hw2];have hg:=h.g;refine⟨_,rfl,⟨by show 0<=s.1-1;omega,by show s.1-1<=3;omega,hq.mono (by show _<=N+2 * (3-(s.1-1));omega),?_,fun h9 => ?_,?_⟩,by show(s.1-1).toNat<s.1.toNat;omega⟩
   ·show((s.2.2++[_]).length:Int)<=3-(s.1-1)
    rw[List.length_append,List.length_singleton];omega
   ·show(s.2.2++[_]).length<=2
    have h9:s.1-1<=1:=h9;rw[List.length_append,List.length_singleton];omega
   ·intro x hx
    rcases List.mem_append.1 hx with hx|hx
    ·exact h.v x hx
    ·rw[List.mem_singleton]at hx;subst hx;omega
  ·rw[decide_eq_false hc,cond_false]
   exact .inr ⟨_,rfl,s,rfl,h,by omega⟩) k s h hk
 exact⟨t,h1,h2⟩
theorem yoo {K:Int} (hK:K=2\/K=4\/K=5) {g:List Int} (hl:g.length<=2) (hv:∀ x∈g,1<=x/\x<=3) (hg:zlc g=true):mkC K g []∈famC:=by
 have hm:g∈famG:=by
  match g,hl,hv,hg with
  | [],_,_,_=>decide
  | [a],_,hv,hg=>
   have:=hv a (by simp);rcases(show a=1\/a=2\/a=3 by omega)with e|e|e<;>subst e
   ·exact absurd hg (by decide +kernel)
   ·decide
   ·decide
  | [a,b],_,hv,hg=>
   have h1:=hv a (by simp);have h2:=hv b (by simp);rcases(show a=1\/a=2\/a=3 by omega)with e|e|e<;>subst e<;>rcases(show b=1\/b=2\/b=3 by omega)with e|e|e<;>subst e<;>decide
 unfold famC;simp only[List.mem_append,List.mem_map];rcases hK with rfl|rfl|rfl
 ·exact .inl (.inl (.inl (.inr ⟨g,hm,rfl⟩)))
 ·exact .inl (.inl (.inr ⟨g,hm,rfl⟩))
 ·exact .inl (.inr ⟨g,hm,rfl⟩)
theorem y4j {N K:Int} {C:List UInt8} (hN:N<=100000000) (hK:K=2\/K=4\/K=5) (hC:C∈nineC) {t:Int×l00Src×List Int} (h:GrpI N t) (h1:t.1<=1) :
  ChrP (N+8) (bif (!(zlc t.2.2))then yzp { Kind:=K,Group:=([2]:List Int),Letter:=[],Colors:=C,Period:=0:Character } t.2.1 else yzp { Kind:=K,Group:=t.2.2,Letter:=[],Colors:=C,Period:=0:Character } t.2.1):=by
 have ha:=h.a;have hs:SrcOk (N+6) t.2.1:=h.q.mono (by omega);have e8:N+8=N+6+2:=by omega
 rw[e8]
 cases hg:zlc t.2.2 with
 | true=>
  rw[Bool.not_true,cond_false];exact y4n (c:={ Kind:=K,Group:=t.2.2,Letter:=[],Colors:=C,Period:=0:Character }) hs (by omega) ⟨rfl,hC,yoo hK (h.g2 h1) h.v hg⟩
 | false=>
  rw[Bool.not_false,cond_true];exact y4n (c:={ Kind:=K,Group:=([2]:List Int),Letter:=[],Colors:=C,Period:=0:Character }) hs (by omega) ⟨rfl,hC,by show mkC K [2] []∈famC;exact yoo (g:=[2]) hK (by decide) (by decide) (by decide +kernel)⟩
theorem yxt {n:Int} {s:l00Src} (h:SrcOk n s) (hn:n<=10000000):ChrP (n+100) (zj s):=by
 have hr:=yg 8 h (by omega);have hr2:=hr.2 (by omega);have h3:=h.pick (m:=8) (by omega);have hw:IntKind.wrap .i64 (1+(za s 8).1)=1+(za s 8).1:=by rw[IntKind.wrap_i64];omega
 unfold zj;rw[hw];generalize (za s 8).2=q3 at h3;generalize (za s 8).1=k at hr hr2;generalize hK:1+k=K;have hC:=y2s h3 (by omega);have h4:=h3.colors (by omega);simp only[bnd];generalize (ze q3).2=q4 at h4;generalize (ze q3).1=C at hC;have mono:∀ {m:Int} {r:Character×l00Src},ChrP m r->m<=n+100->ChrP (n+100) r:=fun h h2=>⟨h.1.mono h2,h.2⟩
 have hp:=yg 4 h4 (by omega);have hp2:=hp.2 (by omega);have h6:=h4.pick (m:=4) (by omega);have hI:GrpI (n+2+2+2) ((za q4 4).1,(za q4 4).2,([]:List Int)):=⟨hp.1,by show(za q4 4).1<=3;omega,h6.mono (by show _<=n+2+2+2+2 * (3-(za q4 4).1);omega),by show((0:Nat):Int)<=3-(za q4 4).1;omega,fun _=>by show(0:Nat)<=2;omega,fun x hx=>absurd hx (by simp)⟩
 have leaf:∀ (g:List Int) (L:List UInt8) (q:l00Src) (m:Int),SrcOk m q->m+2<=n+100->mkC K g L∈famC->ChrP (n+100) (yzp { Kind:=K,Group:=g,Letter:=L,Colors:=C,Period:=0:Character } q):=fun g L q m hq hm hf=>mono (y4n hq (by omega) ⟨rfl,hC,hf⟩) (by omega)
 have qv:∀ (K:Int) (hK:K=6\/K=7),mkC K [] []∈famC/\mkC K [3] []∈famC/\mkC K [6] []∈famC/\mkC K [9] []∈famC/\mkC K [6] [76]∈famC:=fun K hK=>by rcases hK with rfl|rfl<;>decide +kernel
 cases c2:(K == 2)with
 | true=>
  rw[beq_iff_eq]at c2;obtain⟨t,e1,e2,e3⟩:=y2h (N:=n+2+2+2) (by omega) (((za q4 4).1).toNat+1) _ hI (by show((za q4 4).1).toNat<_;omega);have hb:y0w s q3 q4 (za q4 4).2=grpStep:=rfl;rw[cond_true,hb,e1];exact mono (y4j (by omega) (.inl c2) hC e2 e3) (by omega)
 | false=>
 rw[cond_false]
 cases c4:(K == 4)with
 | true=>
  rw[beq_iff_eq]at c4;obtain⟨t,e1,e2,e3⟩:=y2h (N:=n+2+2+2) (by omega) (((za q4 4).1).toNat+1) _ hI (by show((za q4 4).1).toNat<_;omega);have hb:y9w s q3 q4 (za q4 4).2=grpStep:=rfl;rw[cond_true,hb,e1];exact mono (y4j (by omega) (.inr (.inl c4)) hC e2 e3) (by omega)
 | false=>
 rw[cond_false]
 cases c5:(K == 5)with
 | true=>
  rw[beq_iff_eq]at c5;obtain⟨t,e1,e2,e3⟩:=y2h (N:=n+2+2+2) (by omega) (((za q4 4).1).toNat+1) _ hI (by show((za q4 4).1).toNat<_;omega);have hb:y6y s q3 q4 (za q4 4).2=grpStep:=rfl;rw[cond_true,hb,e1];exact mono (y4j (by omega) (.inr (.inr c5)) hC e2 e3) (by omega)
 | false=>
 rw[cond_false];have hx:=y5e (l:=([0,0,3,6,9]:List Int)) h4 (by omega) (by decide);have hq:=h4.among (l:=([0,0,3,6,9]:List Int)) (by omega);have ho:=hq.one (m:=2) (by omega)
 cases c6:(K == 6)with
 | true=>
  rw[beq_iff_eq]at c6;obtain⟨f1,f2,f3,f4,f5⟩:=qv K (.inl c6);rw[cond_true];generalize (zb q4 ([0,0,3,6,9]:List Int)).2=q60 at hq ho ⊢;generalize (zb q4 ([0,0,3,6,9]:List Int)).1=x at hx ⊢;generalize (zh q60 2).2=q62 at ho ⊢;generalize (zh q60 2).1=b;simp only[List.mem_cons,List.not_mem_nil,or_false]at hx;rcases hx with rfl|rfl|rfl|rfl|rfl<;>cases b<;>simp only[Int.reduceLT,decide_true,decide_false,Int.reduceBEq,Bool.true_and,Bool.and_true,Bool.and_false,Bool.false_and,cond_true,cond_false,Int.lt_irrefl]<;>first|exact leaf _ _ _ _ ho (by omega) (by assumption)|exact leaf _ _ _ _ hq (by omega) (by assumption)
 | false=>
 rw[cond_false]
 cases c7:(K == 7)with
 | true=>
  rw[beq_iff_eq]at c7;obtain⟨f1,f2,f3,f4,f5⟩:=qv K (.inr c7);rw[cond_true];generalize (zb q4 ([0,0,3,6,9]:List Int)).2=q60 at hq ho ⊢;generalize (zb q4 ([0,0,3,6,9]:List Int)).1=x at hx ⊢;generalize (zh q60 2).2=q62 at ho ⊢;generalize (zh q60 2).1=b;simp only[List.mem_cons,List.not_mem_nil,or_false]at hx;rcases hx with rfl|rfl|rfl|rfl|rfl<;>cases b<;>simp only[Int.reduceLT,decide_true,decide_false,Int.reduceBEq,Bool.true_and,Bool.and_true,Bool.and_false,Bool.false_and,cond_true,cond_false,Int.lt_irrefl]<;>first|exact leaf _ _ _ _ ho (by omega) (by assumption)|exact leaf _ _ _ _ hq (by omega) (by assumption)
 | false=>
 rw[cond_false]
 cases c8:(K == 8)with
 | true=>
  rw[beq_iff_eq]at c8;have hr:=yg 26 h4 (by omega);have hr2:=hr.2 (by omega);have hq:=h4.pick (m:=26) (by omega);have hall:((List.range 26).all fun m=>decide (mkC 8 [] (([IntKind.wrap .u8 (IntKind.wrap .i64 (65+(m:Int)))]:List Int).map fun z=>UInt8.ofNat z.toNat)∈famC))=true:=by decide +kernel
  have hm:mkC K [] (([IntKind.wrap .u8 (IntKind.wrap .i64 (65+(za q4 26).1))]:List Int).map fun z=>UInt8.ofNat z.toNat)∈famC:=by
   have:=of_decide_eq_true (List.all_eq_true.1 hall ((za q4 26).1).toNat (List.mem_range.2 (by omega)));rw[show(((za q4 26).1).toNat:Int)=(za q4 26).1 by omega]at this;rw[c8];exact this
  rw[cond_true];exact leaf _ _ _ _ hq (by omega) hm
 | false=>
  rw[cond_false];rw[beq_eq_false_iff_ne]at c2 c4 c5 c6 c7 c8;refine leaf _ _ _ _ h4 (by omega) ?_;rcases(show K=1\/K=3 by omega)with e|e<;>rw[e]<;>decide +kernel
theorem SrcOk.chr {n:Int} {s:l00Src} (h:SrcOk n s) (hn:n<=10000000):SrcOk (n+100) (zj s).2:=(yxt h hn).1
theorem y54 {n:Int} {s:l00Src} (h:SrcOk n s) (hn:n<=10000000):1<=(((zj s).1.Colors).length:Int):=by
 have hc:=(yxt h hn).2.2.1;have:∀ x∈nineC,1<=x.length:=by decide
 have:=this _ hc;omega
theorem yu5 {n:Int} {s:l00Src} (h:SrcOk n s) (hn:n<=10000000):bdCharacter (zj s).1:=by
 obtain⟨_,_,hc,hg,hl⟩:=yxt h hn;have:∀ x∈nineC,x.length<=3:=by decide
 have h3:=this _ hc;exact⟨by show List.length _<1099511627776;omega,by show List.length _<1099511627776;omega,by show List.length _<1099511627776;omega⟩
theorem yik (a : List Sector) (hl : a.length <= 12) (h1 : ∀ i, i < a.length -> zzd (a.getD i default) = true) (h2 : ∀ i, i + 1 < a.length -> (a.getD i default).From < (a.getD (i + 1) default).From)
  (h3:1<a.length->∀ i,i<a.length->ygc (a.getD i default)<=((a.getD ((i+1) % a.length) default).From-(a.getD i default).From+360) % 360):zpb a=true:=by
 have sp1:=ymc (b:=yct a) (secQ a) (fun _ u=>u) false (k:=a.length-0) (i:=0) (s:=()) (fun j u _ _=>by cases u;rfl);rcases sp1 with⟨⟨j,_,hj,hq⟩,e1⟩|⟨hq,e1⟩
 ·have:=(y2m a j (by omega)).2 ⟨h1 j (by omega),fun h=>by have:=h2 (j-1) (by omega);rwa [show j-1+1=j by omega]at this⟩
  rw[this]at hq;cases hq
 ·have hb:∀ i,i<a.length->brg (a.getD i default).From/\brg (a.getD i default).To:=fun i hi=>y0m (h1 i hi)
  let q2 (j:Nat):Bool:=decide (1<a.length) && decide ((((a.getD ((j+1) % a.length) default).From-(a.getD j default).From+360) % 360)<ygc (a.getD j default))
  have sp2:=yth (b:=ydm a ()) q2 false (if 1<a.length then a.length else 0) (fun j hj=>by
   simp only[ydm];by_cases hn:1<a.length
   ·rw[if_pos hn]at hj ⊢
    have d1:decide ((1:Int)<(a.length:Int))=true:=by simp;omega
    rw[d1,Bool.and_true];by_cases hjl:j<a.length
    ·have d2:decide ((j:Int)<(a.length:Int))=true:=by simp;omega
     rw[d2,decide_eq_true hjl];simp only[cond_true];have w1:IntKind.wrap .i64 ((j:Int)+1)=((j+1:Nat):Int):=by rw[IntKind.wrap_i64];omega
     have t1:((IntKind.wrap .i64 ((j:Int)+1)).tmod (a.length:Int)).toNat=(j+1) % a.length:=by
      rw[w1,Int.tmod_eq_emod_of_nonneg (by omega),show((j+1:Nat):Int) % (a.length:Int)=(((j+1) % a.length:Nat):Int)from rfl,Int.toNat_natCast]
     rw[t1,Int.toNat_natCast,y2u _ (hb j hjl).1 (hb j hjl).2,w1];have hm:(j+1) % a.length<a.length:=Nat.mod_lt _ (by omega);have b1:=(hb _ hm).1;have b2:=(hb j hjl).1;obtain⟨c1,c2⟩:=b1;obtain⟨c3,c4⟩:=b2;rw[w64 (x:=(a.getD ((j+1) % a.length) default).From-(a.getD j default).From) (by omega) (by omega),w64 (x:=(a.getD ((j+1) % a.length) default).From-(a.getD j default).From+360) (by omega) (by omega),Int.tmod_eq_emod_of_nonneg (by omega)];show _=bif q2 j then _ else _
     rw[show q2 j=decide ((((a.getD ((j+1) % a.length) default).From-(a.getD j default).From+360) % 360)<ygc (a.getD j default))from by show(decide (1<a.length) && _)=_;rw[decide_eq_true hn,Bool.true_and]]
    ·have d2:decide ((j:Int)<(a.length:Int))=false:=by simp;omega
     rw[d2,decide_eq_false hjl];rfl
   ·rw[if_neg hn]at hj ⊢
    have d1:decide ((1:Int)<(a.length:Int))=false:=by simp;omega
    have d3:decide (j<0)=false:=by simp
    rw[d1,Bool.and_false,d3]
    rfl) (if 1<a.length then a.length else 0) 0 (a.length-(0:Int).toNat+1) (by omega) (by simp;split<;>omega)
  have e0:((0:Nat):Int)=0:=rfl;rw[e0]at sp2;unfold zpb;rw[decide_eq_false (show ¬ 12<(a.length:Int)by omega),cond_false,e1];simp only;rcases sp2 with⟨⟨j,_,hj,hq2⟩,e3⟩|⟨_,e3⟩
  ·exfalso
   by_cases hn:1<a.length
   ·rw[if_pos hn]at hj
    have hq3:(decide (1<a.length) && decide ((((a.getD ((j+1) % a.length) default).From-(a.getD j default).From+360) % 360)<ygc (a.getD j default)))=true:=hq2;rw[decide_eq_true hn,Bool.true_and]at hq3;have:=of_decide_eq_true hq3;have:=h3 hn j hj;omega
   ·rw[if_neg hn]at hj;omega
  ·rw[e3]
theorem ymj {α:Type} [Inhabited α] (l:List α) (x:α) (i:Nat) (h:i<l.length):(l++[x]).getD i default=l.getD i default:=by
 rw[List.getD_eq_getElem?_getD,List.getD_eq_getElem?_getD,List.getElem?_append_left h]
theorem y9q {α:Type} [Inhabited α] (l:List α) (x:α):(l++[x]).getD l.length default=x:=by
 rw[List.getD_eq_getElem?_getD,List.getElem?_append_right (Nat.le_refl _)];simp
structure SecO (start at_:Int) (l:List Sector):Prop where
 o:∀ i,i<l.length->zzd (l.getD i default)=true/\start<=(l.getD i default).From/\(l.getD i default).From+ygc (l.getD i default)<=start+360 /\
  (i+1<l.length->(l.getD i default).From+ygc (l.getD i default)<=(l.getD (i+1) default).From)/\(l.getD i default).From+ygc (l.getD i default)<=at_
 z:0<l.length->(l.getD 0 default).From=start
 e:l.length=0->at_=start
theorem SecO.ok {start at_:Int} {l:List Sector} (h:SecO start at_ l) (hl:l.length<=12) (h0:0<=start):zpb l=true:=by
 have hr:=fun i=>y9g (l.getD i default)
 refine yik l hl (fun i hi=>(h.o i hi).1) (fun i hi=>by have:=(h.o i (by omega)).2.2.2.1 hi;have:=hr i;omega) (fun hn i hi => ?_);have hi1:=h.o i hi;have ri:=hr i;by_cases hlast:i+1=l.length
 ·rw[hlast,Nat.mod_self,h.z (by omega)]
  have h0':=h.o (i-1) (by omega);have r0:=hr (i-1);have hlt:=h0'.2.2.2.1 (by omega);rw[show i-1+1=i by omega]at hlt;have:=h0'.2.1;omega
 ·rw[Nat.mod_eq_of_lt (by omega)]
  have h1:=hi1.2.2.2.1 (by omega);have h2:=(h.o (i+1) (by omega)).2.2.1;have:=hr (i+1);omega
theorem SecO.snoc {start at_ w at2:Int} {l:List Sector} {c:List UInt8} (h:SecO start at_ l) (h0:0<=start) (hs:start<=at_) (h1:at_<=359) (w1:1<=w) (w2:w<=70) (h2:at_+w<=start+360) (hc:zsg c=true) (ha:at_+w<=at2) :
  SecO start at2 (l++[{ From:=at_,To:=(at_+w).tmod 360,Color:=c:Sector }]):=by
 have ht:(at_+w).tmod 360=(at_+w) % 360:=Int.tmod_eq_emod_of_nonneg (by omega)
 have harc:ygc ({ From:=at_,To:=(at_+w).tmod 360,Color:=c:Sector })=w:=by
  unfold ygc;simp only;rw[ht];rcases(show(at_+w) % 360=at_+w\/(at_+w) % 360=at_+w-360 by omega)with e|e<;>rw[e]<;>omega
 have hone:zzd ({ From:=at_,To:=(at_+w).tmod 360,Color:=c:Sector })=true:=by
  unfold zzd zvg zv;simp only;rw[ht,hc];simp only[Bool.and_eq_true,decide_eq_true_eq];exact⟨⟨⟨by omega,by omega⟩,by omega,by omega⟩,trivial⟩
 refine⟨fun i hi => ?_,fun _ => ?_,fun h9=>by rw[List.length_append,List.length_singleton]at h9;omega⟩
 ·rw[List.length_append,List.length_singleton]at hi ⊢
  by_cases hl:i<l.length
  ·rw[ymj l _ i hl]
   obtain⟨q1,q2,q3,q4,q5⟩:=h.o i hl;refine⟨q1,q2,q3,fun h9 => ?_,by omega⟩;by_cases hl2:i+1<l.length
   ·rw[ymj l _ (i+1) hl2];exact q4 hl2
   ·rw[show i+1=l.length by omega,y9q]
    exact q5
  ·rw[show i=l.length by omega,y9q,harc]
   exact⟨hone,hs,h2,fun h9=>by omega,ha⟩
 ·by_cases hl:0<l.length
  ·rw[ymj l _ 0 hl];exact h.z hl
  ·have:=h.e (by omega)
   have hn:l=[]:=List.length_eq_zero_iff.1 (by omega);subst hn;exact this
theorem SecO.mono {start a b:Int} {l:List Sector} (h:SecO start a l) (hl:0<l.length) (hab:a<=b):SecO start b l:=
 ⟨fun i hi=>by obtain⟨q1,q2,q3,q4,q5⟩:=h.o i hi;exact⟨q1,q2,q3,q4,by omega⟩,h.z,fun h9=>by omega⟩
structure SecI (N start:Int) (s:Int×Int×l00Src×List Sector):Prop where
 a:start<=s.1
 b:s.1<=59+110 * (5-s.2.1)
 k0:0<=s.2.1
 k1:s.2.1<=5
 q:SrcOk (N+20 * (5-s.2.1)) s.2.2.1
 n:(s.2.2.2.length:Int)<=5-s.2.1
 o:SecO start s.1 s.2.2.2
def SecP (n:Int) (r:List Sector×l00Src):Prop:=SrcOk n r.2/\r.1.length<=5/\zpb r.1=true
theorem ye4 {n:Int} {s:l00Src} (h:SrcOk n s) (hn:n<=2000000000):zsg (zr s [[87],[82],[71],[89]]).1=true:=by
 have:=y6g (l:=([[87],[82],[71],[89]]:List (List UInt8))) h hn (by decide);generalize (zr s ([[87],[82],[71],[89]]:List (List UInt8))).1=x at this;have hs:∀ y∈([[87],[82],[71],[89]]:List (List UInt8)),zsg y=true:=by decide +kernel
 exact hs x this
theorem yxz {N start:Int} (a0 q2 q8 q10:l00Src) (hst:(za q2 60).1=start) (h0:0<=start) (h59:start<=59) (hN:N<=100000000) (k:Nat) (s:Int×Int×l00Src×List Sector) (h:SecI N start s) (hk:s.2.1.toNat<k) :
  ∃ t,yeb (yns a0 q2 q8 q10) k s=.error (.inr t)/\SrcOk (N+130) t.2.2.1/\t.2.2.2.length<=5/\∃ z,SecO start z t.2.2.2:=by
 obtain⟨e,h1,t,rfl,h2⟩:=y7d (b:=yns a0 q2 q8 q10) (SecI N start) (fun e=>∃ t,e=.inr t/\SrcOk (N+130) t.2.2.1/\t.2.2.2.length<=5/\∃ z,SecO start z t.2.2.2) (fun s=>s.2.1.toNat) (fun s h=>by
  obtain⟨at_,k,src,out⟩:=s;obtain⟨ha,hb,hk0,hk1,hs,hn,ho⟩:=h;simp only at ha hb hk0 hk1 hs hn ho;unfold yns;simp only;rw[hst];by_cases hc:0<k
  ·rw[decide_eq_true hc,cond_true]
   have hr:=yg 70 hs (by omega);have hr2:=hr.2 (by omega);have hq:=hs.pick (m:=70) (by omega);generalize (za src 70).2=q20 at hq;generalize (za src 70).1=p at hr hr2;have w1:IntKind.wrap .i64 (p+1)=p+1:=by rw[IntKind.wrap_i64];omega
   have w2:IntKind.wrap .i64 (start+360)=start+360:=by rw[IntKind.wrap_i64];omega
   have w3:IntKind.wrap .i64 (at_+(p+1))=at_+(p+1):=by rw[IntKind.wrap_i64];omega
   have w4:IntKind.wrap .i64 (k-1)=k-1:=by rw[IntKind.wrap_i64];omega
   rw[w1,w2,w3,w4];simp only[bnd];by_cases hbr:start+360<at_+(p+1)\/359<at_
   ·have:(decide (start+360<at_+(p+1)) || decide (359<at_))=true:=by simp;exact hbr
    rw[this,cond_true];exact .inr ⟨_,rfl,_,rfl,hq.mono (by show _<=N+130;omega),by show out.length<=5;omega,at_,ho⟩
   ·have:(decide (start+360<at_+(p+1)) || decide (359<at_))=false:=by simp;omega
    rw[this,cond_false];left
    have hcol:=ye4 hq (by omega);have hq2:=hq.text (l:=[[87],[82],[71],[89]]) (by omega);generalize (zr q20 [[87],[82],[71],[89]]).2=q22 at hq2;generalize (zr q20 [[87],[82],[71],[89]]).1=c at hcol;have hq3:=hq2.one (m:=2) (by omega);generalize (zh q22 2).2=q24 at hq3;have hx:=ho.snoc (w:=p+1) (c:=c) (at2:=at_+(p+1)) h0 ha (by omega) (by omega) (by omega) (by omega) hcol (Int.le_refl _);have hlen:(out++[{ From:=at_,To:=(at_+(p+1)).tmod 360,Color:=c:Sector }]).length=out.length+1:=by rw[List.length_append,List.length_singleton]
    cases(zh q22 2).1 with
    | true=>
     rw[cond_true];have hr4:=yg 40 hq3 (by omega);have hr42:=hr4.2 (by omega);have hq4:=hq3.pick (m:=40) (by omega);have w5:IntKind.wrap .i64 (at_+(p+1)+(za q24 40).1)=at_+(p+1)+(za q24 40).1:=by rw[IntKind.wrap_i64];omega
     rw[w5];exact⟨_,rfl,⟨by show start<=at_+(p+1)+(za q24 40).1;omega,by show at_+(p+1)+(za q24 40).1<=59+110 * (5-(k-1));omega,by show 0<=k-1;omega,by show k-1<=5;omega,hq4.mono (by show _<=N+20 * (5-(k-1));omega),by show(List.length _:Int)<=5-(k-1);rw[hlen];omega,hx.mono (by rw[hlen];omega) (by show _<=at_+(p+1)+(za q24 40).1;omega)⟩,by show(k-1).toNat<k.toNat;omega⟩
    | false=>
     rw[cond_false];exact⟨_,rfl,⟨by show start<=at_+(p+1);omega,by show at_+(p+1)<=59+110 * (5-(k-1));omega,by show 0<=k-1;omega,by show k-1<=5;omega,hq3.mono (by show _<=N+20 * (5-(k-1));omega),by show(List.length _:Int)<=5-(k-1);rw[hlen];omega,hx⟩,by show(k-1).toNat<k.toNat;omega⟩
  ·rw[decide_eq_false hc,cond_false]
   exact .inr ⟨_,rfl,_,rfl,hs.mono (by show _<=N+130;omega),by show out.length<=5;omega,at_,ho⟩) k s h hk
 exact⟨t,h1,h2⟩
theorem yjt {n:Int} {s:l00Src} (h:SrcOk n s) (hn:n<=10000000):SecP (n+200) (zy s):=by
 have hr:=yg 6 h (by omega);have h2:=h.pick (m:=6) (by omega);unfold zy;simp only[bnd];generalize (za s 6).2=q2 at h2;generalize (za s 6).1=k at hr
 cases(k == 0)with
 | true=>rw[cond_true];exact⟨h2.mono (by show _<=n+200;omega),(by decide:([]:List Sector).length<=5),(by decide +kernel:zpb ([]:List Sector)=true)⟩
 | false=>
  rw[cond_false]
  cases(k == 1)with
  | true=>
   rw[cond_true];have hr3:=yg 360 h2 (by omega);have hr32:=hr3.2 (by omega);have h4:=h2.pick (m:=360) (by omega);generalize (za q2 360).2=q4 at h4;generalize (za q2 360).1=p at hr3 hr32;have hc:=ye4 h4 (by omega);have h6:=h4.text (l:=[[87],[82],[71],[89]]) (by omega);refine⟨h6.mono (by show _<=n+200;omega),by show(1:Nat)<=5;omega,yik _ (by show(1:Nat)<=12;omega) (fun i hi => ?_) (fun i hi => ?_) (fun h9 => ?_)⟩
   ·have hi:i<1:=hi
    rw[show i=0 by omega];show zzd ({ From:=p,To:=p,Color:=_:Sector })=true;unfold zzd zvg zv;simp only;rw[hc];simp only[Bool.and_eq_true,decide_eq_true_eq];exact⟨⟨⟨by omega,by omega⟩,by omega,by omega⟩,trivial⟩
   ·have hi:i+1<1:=hi
    omega
   ·have h9:1<1:=h9
    omega
  | false=>
   rw[cond_false];have hr3:=yg 60 h2 (by omega);have hr32:=hr3.2 (by omega);have h8:=h2.pick (m:=60) (by omega);have hr5:=yg 5 h8 (by omega);have hr52:=hr5.2 (by omega);have h10:=h8.pick (m:=5) (by omega);have w1:IntKind.wrap .i64 ((za (za q2 60).2 5).1+1)=(za (za q2 60).2 5).1+1:=by rw[IntKind.wrap_i64];omega
   rw[w1]
   obtain ⟨t, e1, e2, e3, z, e4⟩ := yxz (N := n + 2 + 2 + 2) (start := (za q2 60).1) s q2 (za q2 60).2 (za (za q2 60).2 5).2 rfl hr3.1 (by omega) (by omega) (((za (za q2 60).2 5).1 + 1).toNat + 1) ((za q2 60).1, (za (za q2 60).2 5).1 + 1, (za (za q2 60).2 5).2, ([] : List Sector))
    ⟨by show(za q2 60).1<=(za q2 60).1;omega,by show(za q2 60).1<=59+110 * (5-((za (za q2 60).2 5).1+1));omega,by show 0<=(za (za q2 60).2 5).1+1;omega,by show(za (za q2 60).2 5).1+1<=5;omega,h10.mono (by show _<=n+2+2+2+20 * (5-((za (za q2 60).2 5).1+1));omega),by show((0:Nat):Int)<=5-((za (za q2 60).2 5).1+1);omega,⟨fun i hi=>absurd hi (by simp),fun h=>absurd h (by simp),fun _=>rfl⟩⟩ (by show((za (za q2 60).2 5).1+1).toNat<_;omega)
   rw[e1];exact⟨e2.mono (by show _<=n+200;omega),e3,e4.ok (by omega) hr3.1⟩
theorem SrcOk.sectors {n:Int} {s:l00Src} (h:SrcOk n s) (hn:n<=10000000):SrcOk (n+200) (zy s).2:=(yjt h hn).1
theorem ys0 {n:Int} {s:l00Src} (h:SrcOk n s) (hn:n<=10000000):(zy s).1.length<1099511627776:=by
 have:=(yjt h hn).2.1;omega
theorem y4w {n:Int} {s:l00Src} (h:SrcOk n s) (hn:n<=10000000):∀ v∈(zy s).1,bdSector v:=fun v hv=>by
 have hr:=(y1e (yjt h hn).2.2).2;obtain⟨i,hi,rfl⟩:=List.getElem_of_mem hv;have:=(hr i).2.2.2.2;rw[List.getD_eq_getElem?_getD,List.getElem?_eq_getElem hi]at this;show List.length _<1099511627776;simp only[Option.getD_some]at this;omega
theorem yi5 {n:Int} {s:l00Src} {v:Sector} (hv:v∈(zy s).1) (h:SrcOk n s) (hn:n<=10000000):bdSector v:=y4w h hn v hv
theorem ybv {n:Int} {s:l00Src} (h:SrcOk n s) (hn:n<=100000000):SrcOk (n+14) (zub s).2/\zwf (zub s).1=true:=by
 have hw:=y5e (l:=([20,100,100,100]:List Int)) h (by omega) (by decide);have h2:=h.among (l:=([20,100,100,100]:List Int)) (by omega)
 have hw:(zb s ([20,100,100,100]:List Int)).1=20\/(zb s ([20,100,100,100]:List Int)).1=100:=by
  simp only[List.mem_cons,List.not_mem_nil,or_false]at hw;omega
 unfold zub;simp only[bnd];generalize (zb s ([20,100,100,100]:List Int)).2=q2 at h2 ⊢;generalize (zb s ([20,100,100,100]:List Int)).1=w at hw ⊢;have r1:=yg w h2 (by omega);have r12:=r1.2 (by omega);have h4:=h2.pick (m:=w) (by omega);generalize (za q2 w).2=q4 at h4 ⊢;generalize (za q2 w).1=x at r1 r12 ⊢;have r2:=yg w h4 (by omega);have r22:=r2.2 (by omega);have h6:=h4.pick (m:=w) (by omega);generalize (za q4 w).2=q6 at h6 ⊢;generalize (za q4 w).1=y at r2 r22 ⊢;have h8:=h6.one (m:=3) (by omega);generalize (zh q6 3).2=q8 at h8 ⊢;have wx:IntKind.wrap .i64 (10000+IntKind.wrap .i64 (x * 100))=10000+x * 100:=by rw[IntKind.wrap_i64,IntKind.wrap_i64];omega
 have wy:IntKind.wrap .i64 (10000+IntKind.wrap .i64 (y * 100))=10000+y * 100:=by rw[IntKind.wrap_i64,IntKind.wrap_i64];omega
 simp only[wx,wy];have r3:=yg 200 h8 (by omega);have r32:=r3.2 (by omega);have h10:=h8.pick (m:=200) (by omega)
 have ok:∀ a b:Int,0<=a->a<=200000->0<=b->b<=200000->zwf { X:=a,Y:=b }=true:=fun a b p q u v=>by
  unfold zwf zv;simp only[Bool.and_eq_true,decide_eq_true_eq];omega
 cases(zh q6 3).1 with
 | true=>
  rw[cond_true];generalize (za q8 200).2=q10 at h10 ⊢;generalize (za q8 200).1=u at r3 r32 ⊢;have wu:IntKind.wrap .i64 (10000+x * 100+u)=10000+x * 100+u:=by rw[IntKind.wrap_i64];omega
  simp only[wu];have h12:=h10.one (m:=3) (by omega);generalize (zh q10 3).2=q12 at h12 ⊢
  cases(zh q10 3).1 with
  | true=>
   rw[cond_true];have r4:=yg 200 h12 (by omega);have r42:=r4.2 (by omega);have h14:=h12.pick (m:=200) (by omega);have wv:IntKind.wrap .i64 (10000+y * 100+(za q12 200).1)=10000+y * 100+(za q12 200).1:=by rw[IntKind.wrap_i64];omega
   simp only[wv];exact⟨h14.mono (by omega),ok _ _ (by omega) (by omega) (by omega) (by omega)⟩
  | false=>exact⟨h12.mono (by omega),ok _ _ (by omega) (by omega) (by omega) (by omega)⟩
 | false=>
  rw[cond_false];have h12:=h8.one (m:=3) (by omega);generalize (zh q8 3).2=q12 at h12 ⊢
  cases(zh q8 3).1 with
  | true=>
   rw[cond_true];have r4:=yg 200 h12 (by omega);have r42:=r4.2 (by omega);have h14:=h12.pick (m:=200) (by omega);have wv:IntKind.wrap .i64 (10000+y * 100+(za q12 200).1)=10000+y * 100+(za q12 200).1:=by rw[IntKind.wrap_i64];omega
   simp only[wv];exact⟨h14.mono (by omega),ok _ _ (by omega) (by omega) (by omega) (by omega)⟩
  | false=>exact⟨h12.mono (by omega),ok _ _ (by omega) (by omega) (by omega) (by omega)⟩
theorem SrcOk.point {n:Int} {s:l00Src} (h:SrcOk n s) (hn:n<=100000000):SrcOk (n+14) (zub s).2:=(ybv h hn).1
def ztd (a0:l00Src):Aid×l00Src:=
 (bnd ((za a0 30).2) fun q2=>(bnd ((zr q2 [[114,111,99,107],[101,97,115,116],[112,105,101,114],[98,97,114],[99,97,112,101]]).2) fun q4=>(bnd ((zub q4).2) fun q6=>(bnd ((za q6 500).2) fun q8=>(bnd ((zh q8 2).2) fun q10=>(bif ((zh q8 2).1)then(bnd ((za q10 9).2) fun q12=>(bif (((zle (IntKind.wrap .i64 (((za q10 9).1)+1))).2) == 0)then(bnd ((zh q12 5).2) fun q14=>(bif ((zh q12 5).1)then({ Number:=IntKind.wrap .i64 (((za a0 30).1)+1),Name:=((zr q2 [[114,111,99,107],[101,97,115,116],[112,105,101,114],[98,97,114],[99,97,112,101]]).1),At:=((zub q4).1),Height:=((za q6 500).1),Mark:=(zle (IntKind.wrap .i64 (((za q10 9).1)+1))).1,Light:={ Kind:=0,Group:=[],Letter:=[],Colors:=[],Period:=0:Character },Sectors:=[],Intensity:=0:Aid },q14)else(bnd ((zj q14).2) fun q16=>(bnd ((zb q16 ([10,1000,20000,1000000,1]:List Int)).2) fun q18=>(bnd ((zh q18 2).2) fun q20=>(bif ((zh q18 2).1)then({ Number:=IntKind.wrap .i64 (((za a0 30).1)+1),Name:=((zr q2 [[114,111,99,107],[101,97,115,116],[112,105,101,114],[98,97,114],[99,97,112,101]]).1),At:=((zub q4).1),Height:=((za q6 500).1),Mark:=(zle (IntKind.wrap .i64 (((za q10 9).1)+1))).1,Light:={ Kind:=((zj q14).1).Kind,Group:=((zj q14).1).Group,Letter:=((zj q14).1).Letter,Colors:=(((zj q14).1).Colors).take 1,Period:=((zj q14).1).Period:Character },Sectors:=[],Intensity:=((zb q16 ([10,1000,20000,1000000,1]:List Int)).1):Aid },q20)else(bnd ((zy q20).2) fun q22=>(bif ((((zy q20).1).length:Int) == 0)then({ Number:=IntKind.wrap .i64 (((za a0 30).1)+1),Name:=((zr q2 [[114,111,99,107],[101,97,115,116],[112,105,101,114],[98,97,114],[99,97,112,101]]).1),At:=((zub q4).1),Height:=((za q6 500).1),Mark:=(zle (IntKind.wrap .i64 (((za q10 9).1)+1))).1,Light:={ Kind:=((zj q14).1).Kind,Group:=((zj q14).1).Group,Letter:=((zj q14).1).Letter,Colors:=(((zj q14).1).Colors).take 1,Period:=((zj q14).1).Period:Character },Sectors:=((zy q20).1),Intensity:=((zb q16 ([10,1000,20000,1000000,1]:List Int)).1):Aid },q22)else(bif decide (3<((zlb ((zy q20).1)).length:Int))then({ Number:=IntKind.wrap .i64 (((za a0 30).1)+1),Name:=((zr q2 [[114,111,99,107],[101,97,115,116],[112,105,101,114],[98,97,114],[99,97,112,101]]).1),At:=((zub q4).1),Height:=((za q6 500).1),Mark:=(zle (IntKind.wrap .i64 (((za q10 9).1)+1))).1,Light:={ Kind:=((zj q14).1).Kind,Group:=((zj q14).1).Group,Letter:=((zj q14).1).Letter,Colors:=[71],Period:=((zj q14).1).Period:Character },Sectors:=[{ From:=10,To:=200,Color:=[71]:Sector }],Intensity:=((zb q16 ([10,1000,20000,1000000,1]:List Int)).1):Aid },q22)else({ Number:=IntKind.wrap .i64 (((za a0 30).1)+1),Name:=((zr q2 [[114,111,99,107],[101,97,115,116],[112,105,101,114],[98,97,114],[99,97,112,101]]).1),At:=((zub q4).1),Height:=((za q6 500).1),Mark:=(zle (IntKind.wrap .i64 (((za q10 9).1)+1))).1,Light:={ Kind:=((zj q14).1).Kind,Group:=((zj q14).1).Group,Letter:=((zj q14).1).Letter,Colors:=(zlb ((zy q20).1)),Period:=((zj q14).1).Period:Character },Sectors:=((zy q20).1),Intensity:=((zb q16 ([10,1000,20000,1000000,1]:List Int)).1):Aid },q22))))))))))else(bnd ((zh q12 5).2) fun q24=>(bif ((zh q12 5).1)then({ Number:=IntKind.wrap .i64 (((za a0 30).1)+1),Name:=((zr q2 [[114,111,99,107],[101,97,115,116],[112,105,101,114],[98,97,114],[99,97,112,101]]).1),At:=((zub q4).1),Height:=((za q6 500).1),Mark:={ Kind:=0,Colors:=[],Shape:=[],Topmark:=[]:Mark },Light:={ Kind:=0,Group:=[],Letter:=[],Colors:=[],Period:=0:Character },Sectors:=[],Intensity:=0:Aid },q24)else(bnd ((zj q24).2) fun q26=>(bnd ((zb q26 ([10,1000,20000,1000000,1]:List Int)).2) fun q28=>(bnd ((zh q28 2).2) fun q30=>(bif ((zh q28 2).1)then({ Number:=IntKind.wrap .i64 (((za a0 30).1)+1),Name:=((zr q2 [[114,111,99,107],[101,97,115,116],[112,105,101,114],[98,97,114],[99,97,112,101]]).1),At:=((zub q4).1),Height:=((za q6 500).1),Mark:={ Kind:=0,Colors:=[],Shape:=[],Topmark:=[]:Mark },Light:={ Kind:=((zj q24).1).Kind,Group:=((zj q24).1).Group,Letter:=((zj q24).1).Letter,Colors:=(((zj q24).1).Colors).take 1,Period:=((zj q24).1).Period:Character },Sectors:=[],Intensity:=((zb q26 ([10,1000,20000,1000000,1]:List Int)).1):Aid },q30)else(bnd ((zy q30).2) fun q32=>(bif ((((zy q30).1).length:Int) == 0)then({ Number:=IntKind.wrap .i64 (((za a0 30).1)+1),Name:=((zr q2 [[114,111,99,107],[101,97,115,116],[112,105,101,114],[98,97,114],[99,97,112,101]]).1),At:=((zub q4).1),Height:=((za q6 500).1),Mark:={ Kind:=0,Colors:=[],Shape:=[],Topmark:=[]:Mark },Light:={ Kind:=((zj q24).1).Kind,Group:=((zj q24).1).Group,Letter:=((zj q24).1).Letter,Colors:=(((zj q24).1).Colors).take 1,Period:=((zj q24).1).Period:Character },Sectors:=((zy q30).1),Intensity:=((zb q26 ([10,1000,20000,1000000,1]:List Int)).1):Aid },q32)else(bif decide (3<((zlb ((zy q30).1)).length:Int))then({ Number:=IntKind.wrap .i64 (((za a0 30).1)+1),Name:=((zr q2 [[114,111,99,107],[101,97,115,116],[112,105,101,114],[98,97,114],[99,97,112,101]]).1),At:=((zub q4).1),Height:=((za q6 500).1),Mark:={ Kind:=0,Colors:=[],Shape:=[],Topmark:=[]:Mark },Light:={ Kind:=((zj q24).1).Kind,Group:=((zj q24).1).Group,Letter:=((zj q24).1).Letter,Colors:=[71],Period:=((zj q24).1).Period:Character },Sectors:=[{ From:=10,To:=200,Color:=[71]:Sector }],Intensity:=((zb q26 ([10,1000,20000,1000000,1]:List Int)).1):Aid },q32)else({ Number:=IntKind.wrap .i64 (((za a0 30).1)+1),Name:=((zr q2 [[114,111,99,107],[101,97,115,116],[112,105,101,114],[98,97,114],[99,97,112,101]]).1),At:=((zub q4).1),Height:=((za q6 500).1),Mark:={ Kind:=0,Colors:=[],Shape:=[],Topmark:=[]:Mark },Light:={ Kind:=((zj q24).1).Kind,Group:=((zj q24).1).Group,Letter:=((zj q24).1).Letter,Colors:=(zlb ((zy q30).1)),Period:=((zj q24).1).Period:Character },Sectors:=((zy q30).1),Intensity:=((zb q26 ([10,1000,20000,1000000,1]:List Int)).1):Aid },q32))))))))))))else(bnd ((zh q10 5).2) fun q34=>(bif ((zh q10 5).1)then({ Number:=IntKind.wrap .i64 (((za a0 30).1)+1),Name:=((zr q2 [[114,111,99,107],[101,97,115,116],[112,105,101,114],[98,97,114],[99,97,112,101]]).1),At:=((zub q4).1),Height:=((za q6 500).1),Mark:={ Kind:=0,Colors:=[],Shape:=[],Topmark:=[]:Mark },Light:={ Kind:=0,Group:=[],Letter:=[],Colors:=[],Period:=0:Character },Sectors:=[],Intensity:=0:Aid },q34)else(bnd ((zj q34).2) fun q36=>(bnd ((zb q36 ([10,1000,20000,1000000,1]:List Int)).2) fun q38=>(bnd ((zh q38 2).2) fun q40=>(bif ((zh q38 2).1)then({ Number:=IntKind.wrap .i64 (((za a0 30).1)+1),Name:=((zr q2 [[114,111,99,107],[101,97,115,116],[112,105,101,114],[98,97,114],[99,97,112,101]]).1),At:=((zub q4).1),Height:=((za q6 500).1),Mark:={ Kind:=0,Colors:=[],Shape:=[],Topmark:=[]:Mark },Light:={ Kind:=((zj q34).1).Kind,Group:=((zj q34).1).Group,Letter:=((zj q34).1).Letter,Colors:=(((zj q34).1).Colors).take 1,Period:=((zj q34).1).Period:Character },Sectors:=[],Intensity:=((zb q36 ([10,1000,20000,1000000,1]:List Int)).1):Aid },q40)else(bnd ((zy q40).2) fun q42=>(bif ((((zy q40).1).length:Int) == 0)then({ Number:=IntKind.wrap .i64 (((za a0 30).1)+1),Name:=((zr q2 [[114,111,99,107],[101,97,115,116],[112,105,101,114],[98,97,114],[99,97,112,101]]).1),At:=((zub q4).1),Height:=((za q6 500).1),Mark:={ Kind:=0,Colors:=[],Shape:=[],Topmark:=[]:Mark },Light:={ Kind:=((zj q34).1).Kind,Group:=((zj q34).1).Group,Letter:=((zj q34).1).Letter,Colors:=(((zj q34).1).Colors).take 1,Period:=((zj q34).1).Period:Character },Sectors:=((zy q40).1),Intensity:=((zb q36 ([10,1000,20000,1000000,1]:List Int)).1):Aid },q42)else(bif decide (3<((zlb ((zy q40).1)).length:Int))then({ Number:=IntKind.wrap .i64 (((za a0 30).1)+1),Name:=((zr q2 [[114,111,99,107],[101,97,115,116],[112,105,101,114],[98,97,114],[99,97,112,101]]).1),At:=((zub q4).1),Height:=((za q6 500).1),Mark:={ Kind:=0,Colors:=[],Shape:=[],Topmark:=[]:Mark },Light:={ Kind:=((zj q34).1).Kind,Group:=((zj q34).1).Group,Letter:=((zj q34).1).Letter,Colors:=[71],Period:=((zj q34).1).Period:Character },Sectors:=[{ From:=10,To:=200,Color:=[71]:Sector }],Intensity:=((zb q36 ([10,1000,20000,1000000,1]:List Int)).1):Aid },q42)else({ Number:=IntKind.wrap .i64 (((za a0 30).1)+1),Name:=((zr q2 [[114,111,99,107],[101,97,115,116],[112,105,101,114],[98,97,114],[99,97,112,101]]).1),At:=((zub q4).1),Height:=((za q6 500).1),Mark:={ Kind:=0,Colors:=[],Shape:=[],Topmark:=[]:Mark },Light:={ Kind:=((zj q34).1).Kind,Group:=((zj q34).1).Group,Letter:=((zj q34).1).Letter,Colors:=(zlb ((zy q40).1)),Period:=((zj q34).1).Period:Character },Sectors:=((zy q40).1),Intensity:=((zb q36 ([10,1000,20000,1000000,1]:List Int)).1):Aid },q42))))))))))))))))
namespace N83
theorem DD:DOk Tryz.prog (Go.Ab.DD [(121,dM [true] D_zub),(122,dP D_zle),(123,dM [true] D_zj),(124,dM [true] D_zy),(125,dP D_zlb),(42,dM [true,false] D_za),(43,dM [true,true] D_zr),(44,dM [true,true] D_zb),(53,dM [true,false] D_zh)]):=ya ya1.e <| ya yj0.e <| ya yg5.e <| ya yb6.e <| ya yh1.e <| ya yuc.e <| ya ylh.e <| ya y7h.e <| ya y6h.e <| yd _
theorem dn:type_of% (And.intro @D_zub.eq_1 <| And.intro @D_zle.eq_1 <| And.intro @D_zj.eq_1 <| And.intro @D_zy.eq_1 <| And.intro @D_zlb.eq_1 <| And.intro @D_za.eq_1 <| And.intro @D_zr.eq_1 <| And.intro @D_zb.eq_1 <| @D_zh.eq_1):=by and_intros<;>intros<;>rfl
theorem o1 {p:Prop} (h:p:=by(first|(refine SrcOk.mono (by repeat' first|assumption|exact SrcOk.next ‹_› | apply SrcOk.next|apply SrcOk.pick|apply SrcOk.one|apply SrcOk.among|apply SrcOk.text|apply SrcOk.colors|apply SrcOk.point|apply SrcOk.chr|apply SrcOk.sectors|apply SrcOk.aid|apply SrcOk.aids|apply SrcOk.notice|omega) (by omega))|(exact y54 (by assumption) (by omega))|(exact yu5 (by assumption) (by omega))|(exact ys0 (by assumption) (by omega))|(exact y4w (by assumption) (by omega))|(exact yi5 (by assumption) (by assumption) (by omega)));first|done|fail):p:=h
theorem lx {p:Prop} (h:p:=by(exact lxx);first|done|fail):p:=h
set_option maxHeartbeats 2000000 in
set_option maxRecDepth 20000 in
theorem den (a0:l00Src) (hp0:SrcOk 500000 a0):DenM Tryz.prog 83 [.op (ym a0)] (.agg (eAid ((ztd a0).1))) [(.op (ym ((ztd a0).2)))]:=by
 generalize hR:ztd a0=r;unfold ztd at hR;refine djL (gb:=[true]) Tryz.func83 Tryz.ntmps83 Tryz.results83 ?_;intro c hL hc hk;obtain⟨hL0,_⟩:=hL;have hw0:bwl00Src a0:=y7 a0 hL0;clear hL0;simp only[adEL,adE,adRL,adR,ownL,encL,sv,List.nil_append,List.append_nil,List.cons_append,List.length_cons,List.length_nil,pars,Nat.zero_add,Nat.reduceAdd]at hk ⊢;iterate 2 refine rS ?_
 generalize hq2:(za a0 30).2=q2 at hR ⊢;replace hR:=bn hR;have hS_q2:SrcOk (500002) q2:=by rw[<- hq2];exact SrcOk.pick hp0 (by omega)
 refine rS ?_;generalize hq4:(zr q2 [[114,111,99,107],[101,97,115,116],[112,105,101,114],[98,97,114],[99,97,112,101]]).2=q4 at hR ⊢;replace hR:=bn hR;have hS_q4:SrcOk (500004) q4:=by rw[<- hq4];exact SrcOk.text hS_q2 (by omega)
 refine rS ?_;generalize hq6:(zub q4).2=q6 at hR ⊢;replace hR:=bn hR;have hS_q6:SrcOk (500018) q6:=by rw[<- hq6];exact SrcOk.point hS_q4 (by omega)
 refine rS ?_;generalize hq8:(za q6 500).2=q8 at hR ⊢;replace hR:=bn hR;have hS_q8:SrcOk (500020) q8:=by rw[<- hq8];exact SrcOk.pick hS_q6 (by omega)
 refine rS ?_;generalize hq10:(zh q8 2).2=q10 at hR ⊢;replace hR:=bn hR;have hS_q10:SrcOk (500022) q10:=by rw[<- hq10];exact SrcOk.one hS_q8 (by omega)
 refine AWP.cond rfl (fun hb => ?_) (fun hb => ?_)
 ·replace hR:=ct hR
  refine rS ?_;generalize hq12:(za q10 9).2=q12 at hR ⊢;replace hR:=bn hR;have hS_q12:SrcOk (500024) q12:=by rw[<- hq12];exact SrcOk.pick hS_q10 (by omega)
  refine rS ?_;refine AWP.cond rfl (fun hb => ?_) (fun hb => ?_)
  ·replace hR:=ct hR
   iterate 2 refine rS ?_
   generalize hq14:(zh q12 5).2=q14 at hR ⊢;replace hR:=bn hR;have hS_q14:SrcOk (500026) q14:=by rw[<- hq14];exact SrcOk.one hS_q12 (by omega)
   refine AWP.cond rfl (fun hb => ?_) (fun hb => ?_)
   ·replace hR:=ct hR
    refine rS ?_;refine AWP.ret ?_;subst hR;exact esL
   ·replace hR:=cf hR
    refine rS ?_;generalize hq16:(zj q14).2=q16 at hR ⊢;replace hR:=bn hR;have hS_q16:SrcOk (500126) q16:=by rw[<- hq16];exact SrcOk.chr hS_q14 (by omega)
    refine rS ?_;generalize hq18:(zb q16 ([10,1000,20000,1000000,1]:List Int)).2=q18 at hR ⊢;replace hR:=bn hR;have hS_q18:SrcOk (500128) q18:=by rw[<- hq18];exact SrcOk.among hS_q16 (by omega)
    refine rS ?_;generalize hq20:(zh q18 2).2=q20 at hR ⊢;replace hR:=bn hR;have hS_q20:SrcOk (500130) q20:=by rw[<- hq20];exact SrcOk.one hS_q18 (by omega)
    refine AWP.cond rfl (fun hb => ?_) (fun hb => ?_)
    ·replace hR:=ct hR
     iterate 2 refine rS ?_
     refine AWP.ret ?_;subst hR;exact esL
    ·replace hR:=cf hR
     refine rS ?_;generalize hq22:(zy q20).2=q22 at hR ⊢;replace hR:=bn hR;have hS_q22:SrcOk (500330) q22:=by rw[<- hq22];exact SrcOk.sectors hS_q20 (by omega)
     refine rS ?_;refine AWP.cond rfl (fun hb => ?_) (fun hb => ?_)
     ·replace hR:=ct hR
      iterate 2 refine rS ?_
      refine AWP.ret ?_;subst hR;exact esL
     ·replace hR:=cf hR
      iterate 2 refine rS ?_
      refine AWP.cond rfl (fun hb => ?_) (fun hb => ?_)
      ·replace hR:=ct hR
       iterate 4 refine rS ?_
       refine AWP.ret ?_;subst hR;exact esL
      ·replace hR:=cf hR
       iterate 2 refine rS ?_
       refine AWP.ret ?_;subst hR;exact esL
  ·replace hR:=cf hR
   refine rS ?_;generalize hq24:(zh q12 5).2=q24 at hR ⊢;replace hR:=bn hR;have hS_q24:SrcOk (500026) q24:=by rw[<- hq24];exact SrcOk.one hS_q12 (by omega)
   refine AWP.cond rfl (fun hb => ?_) (fun hb => ?_)
   ·replace hR:=ct hR
    refine rS ?_;refine AWP.ret ?_;subst hR;exact esL
   ·replace hR:=cf hR
    refine rS ?_;generalize hq26:(zj q24).2=q26 at hR ⊢;replace hR:=bn hR;have hS_q26:SrcOk (500126) q26:=by rw[<- hq26];exact SrcOk.chr hS_q24 (by omega)
    refine rS ?_;generalize hq28:(zb q26 ([10,1000,20000,1000000,1]:List Int)).2=q28 at hR ⊢;replace hR:=bn hR;have hS_q28:SrcOk (500128) q28:=by rw[<- hq28];exact SrcOk.among hS_q26 (by omega)
    refine rS ?_;generalize hq30:(zh q28 2).2=q30 at hR ⊢;replace hR:=bn hR;have hS_q30:SrcOk (500130) q30:=by rw[<- hq30];exact SrcOk.one hS_q28 (by omega)
    refine AWP.cond rfl (fun hb => ?_) (fun hb => ?_)
    ·replace hR:=ct hR
     iterate 2 refine rS ?_
     refine AWP.ret ?_;subst hR;exact esL
    ·replace hR:=cf hR
     refine rS ?_;generalize hq32:(zy q30).2=q32 at hR ⊢;replace hR:=bn hR;have hS_q32:SrcOk (500330) q32:=by rw[<- hq32];exact SrcOk.sectors hS_q30 (by omega)
     refine rS ?_;refine AWP.cond rfl (fun hb => ?_) (fun hb => ?_)
     ·replace hR:=ct hR
      iterate 2 refine rS ?_
      refine AWP.ret ?_;subst hR;exact esL
     ·replace hR:=cf hR
      iterate 2 refine rS ?_
      refine AWP.cond rfl (fun hb => ?_) (fun hb => ?_)
      ·replace hR:=ct hR
       iterate 4 refine rS ?_
       refine AWP.ret ?_;subst hR;exact esL
      ·replace hR:=cf hR
       iterate 2 refine rS ?_
       refine AWP.ret ?_;subst hR;exact esL
 ·replace hR:=cf hR
  refine rS ?_;generalize hq34:(zh q10 5).2=q34 at hR ⊢;replace hR:=bn hR;have hS_q34:SrcOk (500024) q34:=by rw[<- hq34];exact SrcOk.one hS_q10 (by omega)
  refine AWP.cond rfl (fun hb => ?_) (fun hb => ?_)
  ·replace hR:=ct hR
   refine rS ?_;refine AWP.ret ?_;subst hR;exact esL
  ·replace hR:=cf hR
   refine rS ?_;generalize hq36:(zj q34).2=q36 at hR ⊢;replace hR:=bn hR;have hS_q36:SrcOk (500124) q36:=by rw[<- hq36];exact SrcOk.chr hS_q34 (by omega)
   refine rS ?_;generalize hq38:(zb q36 ([10,1000,20000,1000000,1]:List Int)).2=q38 at hR ⊢;replace hR:=bn hR;have hS_q38:SrcOk (500126) q38:=by rw[<- hq38];exact SrcOk.among hS_q36 (by omega)
   refine rS ?_;generalize hq40:(zh q38 2).2=q40 at hR ⊢;replace hR:=bn hR;have hS_q40:SrcOk (500128) q40:=by rw[<- hq40];exact SrcOk.one hS_q38 (by omega)
   refine AWP.cond rfl (fun hb => ?_) (fun hb => ?_)
   ·replace hR:=ct hR
    iterate 2 refine rS ?_
    refine AWP.ret ?_;subst hR;exact esL
   ·replace hR:=cf hR
    refine rS ?_;generalize hq42:(zy q40).2=q42 at hR ⊢;replace hR:=bn hR;have hS_q42:SrcOk (500328) q42:=by rw[<- hq42];exact SrcOk.sectors hS_q40 (by omega)
    refine rS ?_;refine AWP.cond rfl (fun hb => ?_) (fun hb => ?_)
    ·replace hR:=ct hR
     iterate 2 refine rS ?_
     refine AWP.ret ?_;subst hR;exact esL
    ·replace hR:=cf hR
     iterate 2 refine rS ?_
     refine AWP.cond rfl (fun hb => ?_) (fun hb => ?_)
     ·replace hR:=ct hR
      iterate 4 refine rS ?_
      refine AWP.ret ?_;subst hR;exact esL
     ·replace hR:=cf hR
      iterate 2 refine rS ?_
      refine AWP.ret ?_;subst hR;exact esL
end N83
def D_ztd : List AV -> Option (AV × List AV × List Prop)
 | [x0]=>some (.agg (eAid ((ztd (rdQ yn x0)).1)),[(.op (ym ((ztd (rdQ yn x0)).2)))],[wQ ym yn x0,SrcOk 500000 (rdQ yn x0)])
 | _=>none
theorem yq2:OkM Tryz.prog 83 D_ztd:=by unfold D_ztd;exact dm N83.den
end Go.Ab
