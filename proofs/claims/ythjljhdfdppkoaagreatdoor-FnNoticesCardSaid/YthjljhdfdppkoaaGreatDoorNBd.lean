/- A part of a proof: walks of functions and lemmas of our own. No conditions. -/
import Derived.Test.YthjljhdfdppkoaaGreatDoorNAy
import Derived.Test.YthjljhdfdppkoaaGreatDoorNAp
import Derived.Test.YthjljhdfdppkoaaGreatDoorNBc
import Derived.Test.YthjljhdfdppkoaaGreatDoorNAv
import Derived.Test.YthjljhdfdppkoaaGreatDoorNAu
import Derived.Test.YthjljhdfdppkoaaGreatDoorNAl
import Derived.Test.YthjljhdfdppkoaaGreatDoorNAm
import Derived.Test.YthjljhdfdppkoaaGreatDoorNAx
import Derived.Test.YthjljhdfdppkoaaGreatDoorNBa
import Derived.Test.YthjljhdfdppkoaaGreatDoorNAi
import Derived.Test.YthjljhdfdppkoaaGreatDoorNAt
set_option linter.unusedSectionVars false
set_option linter.unusedVariables false
set_option linter.unusedSimpArgs false
set_option maxHeartbeats 1000000
namespace Go.Ab
open Go Go.Proofs
theorem yhl {α:Type} [Inhabited α] (l:List α) (x:α) (i:Nat) (h:i<l.length):(l++[x]).getD i default=l.getD i default:=by
 rw[List.getD_eq_getElem?_getD,List.getD_eq_getElem?_getD,List.getElem?_append_left h]
theorem yir {α:Type} [Inhabited α] (l:List α) (x:α):(l++[x]).getD l.length default=x:=by
 rw[List.getD_eq_getElem?_getD,List.getElem?_append_right (Nat.le_refl _)];simp
structure SecO (start at_:Int) (l:List Sector):Prop where
 o:∀ i,i<l.length->zdc (l.getD i default)=true/\start<=(l.getD i default).From/\(l.getD i default).From+yvc (l.getD i default)<=start+360 /\
  (i+1<l.length->(l.getD i default).From+yvc (l.getD i default)<=(l.getD (i+1) default).From)/\(l.getD i default).From+yvc (l.getD i default)<=at_
 z:0<l.length->(l.getD 0 default).From=start
 e:l.length=0->at_=start
theorem SecO.ok {start at_:Int} {l:List Sector} (h:SecO start at_ l) (hl:l.length<=12) (h0:0<=start):zv l=true:=by
 have hr:=fun i=>yui (l.getD i default)
 refine ypl l hl (fun i hi=>(h.o i hi).1) (fun i hi=>by have:=(h.o i (by omega)).2.2.2.1 hi;have:=hr i;omega) (fun hn i hi => ?_);have hi1:=h.o i hi;have ri:=hr i;by_cases hlast:i+1=l.length
 ·rw[hlast,Nat.mod_self,h.z (by omega)]
  have h0':=h.o (i-1) (by omega);have r0:=hr (i-1);have hlt:=h0'.2.2.2.1 (by omega);rw[show i-1+1=i by omega]at hlt;have:=h0'.2.1;omega
 ·rw[Nat.mod_eq_of_lt (by omega)]
  have h1:=hi1.2.2.2.1 (by omega);have h2:=(h.o (i+1) (by omega)).2.2.1;have:=hr (i+1);omega
theorem SecO.snoc {start at_ w at2:Int} {l:List Sector} {c:List UInt8} (h:SecO start at_ l) (h0:0<=start) (hs:start<=at_) (h1:at_<=359) (w1:1<=w) (w2:w<=70) (h2:at_+w<=start+360) (hc:zcf c=true) (ha:at_+w<=at2) :
  SecO start at2 (l++[{ From:=at_,To:=(at_+w).tmod 360,Color:=c:Sector }]):=by
 have ht:(at_+w).tmod 360=(at_+w) % 360:=Int.tmod_eq_emod_of_nonneg (by omega)
 have harc:yvc ({ From:=at_,To:=(at_+w).tmod 360,Color:=c:Sector })=w:=by
  unfold yvc;simp only;rw[ht];rcases(show(at_+w) % 360=at_+w\/(at_+w) % 360=at_+w-360 by omega)with e|e<;>rw[e]<;>omega
 have hone:zdc ({ From:=at_,To:=(at_+w).tmod 360,Color:=c:Sector })=true:=by
  unfold zdc zng zg;simp only;rw[ht,hc];simp only[Bool.and_eq_true,decide_eq_true_eq];exact⟨⟨⟨by omega,by omega⟩,by omega,by omega⟩,trivial⟩
 refine⟨fun i hi => ?_,fun _ => ?_,fun h9=>by rw[List.length_append,List.length_singleton]at h9;omega⟩
 ·rw[List.length_append,List.length_singleton]at hi ⊢
  by_cases hl:i<l.length
  ·rw[yhl l _ i hl]
   obtain⟨q1,q2,q3,q4,q5⟩:=h.o i hl;refine⟨q1,q2,q3,fun h9 => ?_,by omega⟩;by_cases hl2:i+1<l.length
   ·rw[yhl l _ (i+1) hl2];exact q4 hl2
   ·rw[show i+1=l.length by omega,yir]
    exact q5
  ·rw[show i=l.length by omega,yir,harc]
   exact⟨hone,hs,h2,fun h9=>by omega,ha⟩
 ·by_cases hl:0<l.length
  ·rw[yhl l _ 0 hl];exact h.z hl
  ·have:=h.e (by omega)
   have hn:l=[]:=List.length_eq_zero_iff.1 (by omega);subst hn;exact this
theorem SecO.mono {start a b:Int} {l:List Sector} (h:SecO start a l) (hl:0<l.length) (hab:a<=b):SecO start b l:=
 ⟨fun i hi=>by obtain⟨q1,q2,q3,q4,q5⟩:=h.o i hi;exact⟨q1,q2,q3,q4,by omega⟩,h.z,fun h9=>by omega⟩
structure SecI (N start:Int) (s:Int×Int×l00Src×List Sector):Prop where
 a:start<=s.1
 b:s.1<=59+110 * (5-s.2.1)
 k0:0<=s.2.1
 k1:s.2.1<=5
 q:SrcOk (N+20 * (5-s.2.1)) s.2.2.1
 n:(s.2.2.2.length:Int)<=5-s.2.1
 o:SecO start s.1 s.2.2.2
def SecP (n:Int) (r:List Sector×l00Src):Prop:=SrcOk n r.2/\r.1.length<=5/\zv r.1=true
theorem ye8 {n:Int} {s:l00Src} (h:SrcOk n s) (hn:n<=2000000000):zcf (zr s [[87],[82],[71],[89]]).1=true:=by
 have:=yhk (l:=([[87],[82],[71],[89]]:List (List UInt8))) h hn (by decide);generalize (zr s ([[87],[82],[71],[89]]:List (List UInt8))).1=x at this;have hs:∀ y∈([[87],[82],[71],[89]]:List (List UInt8)),zcf y=true:=by decide +kernel
 exact hs x this
theorem yw5 {N start:Int} (a0 q2 q8 q10:l00Src) (hst:(za q2 60).1=start) (h0:0<=start) (h59:start<=59) (hN:N<=100000000) (k:Nat) (s:Int×Int×l00Src×List Sector) (h:SecI N start s) (hk:s.2.1.toNat<k) :
  ∃ t,yeb (y5t a0 q2 q8 q10) k s=.error (.inr t)/\SrcOk (N+130) t.2.2.1/\t.2.2.2.length<=5/\∃ z,SecO start z t.2.2.2:=by
 obtain⟨e,h1,t,rfl,h2⟩:=ysf (b:=y5t a0 q2 q8 q10) (SecI N start) (fun e=>∃ t,e=.inr t/\SrcOk (N+130) t.2.2.1/\t.2.2.2.length<=5/\∃ z,SecO start z t.2.2.2) (fun s=>s.2.1.toNat) (fun s h=>by
  obtain⟨at_,k,src,out⟩:=s;obtain⟨ha,hb,hk0,hk1,hs,hn,ho⟩:=h;simp only at ha hb hk0 hk1 hs hn ho;unfold y5t;simp only;rw[hst];by_cases hc:0<k
  ·rw[decide_eq_true hc,cond_true]
   have hr:=yq 70 hs (by omega);have hr2:=hr.2 (by omega);have hq:=hs.pick (m:=70) (by omega);generalize (za src 70).2=q20 at hq;generalize (za src 70).1=p at hr hr2;have w1:IntKind.wrap .i64 (p+1)=p+1:=by rw[IntKind.wrap_i64];omega
   have w2:IntKind.wrap .i64 (start+360)=start+360:=by rw[IntKind.wrap_i64];omega
   have w3:IntKind.wrap .i64 (at_+(p+1))=at_+(p+1):=by rw[IntKind.wrap_i64];omega
   have w4:IntKind.wrap .i64 (k-1)=k-1:=by rw[IntKind.wrap_i64];omega
   rw[w1,w2,w3,w4];simp only[bnd];by_cases hbr:start+360<at_+(p+1)\/359<at_
   ·have:(decide (start+360<at_+(p+1)) || decide (359<at_))=true:=by simp;exact hbr
    rw[this,cond_true];exact .inr ⟨_,rfl,_,rfl,hq.mono (by show _<=N+130;omega),by show out.length<=5;omega,at_,ho⟩
   ·have:(decide (start+360<at_+(p+1)) || decide (359<at_))=false:=by simp;omega
    rw[this,cond_false];left
    have hcol:=ye8 hq (by omega);have hq2:=hq.text (l:=[[87],[82],[71],[89]]) (by omega);generalize (zr q20 [[87],[82],[71],[89]]).2=q22 at hq2;generalize (zr q20 [[87],[82],[71],[89]]).1=c at hcol;have hq3:=hq2.one (m:=2) (by omega);generalize (zn q22 2).2=q24 at hq3;have hx:=ho.snoc (w:=p+1) (c:=c) (at2:=at_+(p+1)) h0 ha (by omega) (by omega) (by omega) (by omega) hcol (Int.le_refl _);have hlen:(out++[{ From:=at_,To:=(at_+(p+1)).tmod 360,Color:=c:Sector }]).length=out.length+1:=by rw[List.length_append,List.length_singleton]
    cases(zn q22 2).1 with
    | true=>
     rw[cond_true];have hr4:=yq 40 hq3 (by omega);have hr42:=hr4.2 (by omega);have hq4:=hq3.pick (m:=40) (by omega);have w5:IntKind.wrap .i64 (at_+(p+1)+(za q24 40).1)=at_+(p+1)+(za q24 40).1:=by rw[IntKind.wrap_i64];omega
     rw[w5];exact⟨_,rfl,⟨by show start<=at_+(p+1)+(za q24 40).1;omega,by show at_+(p+1)+(za q24 40).1<=59+110 * (5-(k-1));omega,by show 0<=k-1;omega,by show k-1<=5;omega,hq4.mono (by show _<=N+20 * (5-(k-1));omega),by show(List.length _:Int)<=5-(k-1);rw[hlen];omega,hx.mono (by rw[hlen];omega) (by show _<=at_+(p+1)+(za q24 40).1;omega)⟩,by show(k-1).toNat<k.toNat;omega⟩
    | false=>
     rw[cond_false];exact⟨_,rfl,⟨by show start<=at_+(p+1);omega,by show at_+(p+1)<=59+110 * (5-(k-1));omega,by show 0<=k-1;omega,by show k-1<=5;omega,hq3.mono (by show _<=N+20 * (5-(k-1));omega),by show(List.length _:Int)<=5-(k-1);rw[hlen];omega,hx⟩,by show(k-1).toNat<k.toNat;omega⟩
  ·rw[decide_eq_false hc,cond_false]
   exact .inr ⟨_,rfl,_,rfl,hs.mono (by show _<=N+130;omega),by show out.length<=5;omega,at_,ho⟩) k s h hk
 exact⟨t,h1,h2⟩
theorem yox {n:Int} {s:l00Src} (h:SrcOk n s) (hn:n<=10000000):SecP (n+200) (zt s):=by
 have hr:=yq 6 h (by omega);have h2:=h.pick (m:=6) (by omega);unfold zt;simp only[bnd];generalize (za s 6).2=q2 at h2;generalize (za s 6).1=k at hr
 cases(k == 0)with
 | true=>rw[cond_true];exact⟨h2.mono (by show _<=n+200;omega),(by decide:([]:List Sector).length<=5),(by decide +kernel:zv ([]:List Sector)=true)⟩
 | false=>
  rw[cond_false]
  cases(k == 1)with
  | true=>
   rw[cond_true];have hr3:=yq 360 h2 (by omega);have hr32:=hr3.2 (by omega);have h4:=h2.pick (m:=360) (by omega);generalize (za q2 360).2=q4 at h4;generalize (za q2 360).1=p at hr3 hr32;have hc:=ye8 h4 (by omega);have h6:=h4.text (l:=[[87],[82],[71],[89]]) (by omega);refine⟨h6.mono (by show _<=n+200;omega),by show(1:Nat)<=5;omega,ypl _ (by show(1:Nat)<=12;omega) (fun i hi => ?_) (fun i hi => ?_) (fun h9 => ?_)⟩
   ·have hi:i<1:=hi
    rw[show i=0 by omega];show zdc ({ From:=p,To:=p,Color:=_:Sector })=true;unfold zdc zng zg;simp only;rw[hc];simp only[Bool.and_eq_true,decide_eq_true_eq];exact⟨⟨⟨by omega,by omega⟩,by omega,by omega⟩,trivial⟩
   ·have hi:i+1<1:=hi
    omega
   ·have h9:1<1:=h9
    omega
  | false=>
   rw[cond_false];have hr3:=yq 60 h2 (by omega);have hr32:=hr3.2 (by omega);have h8:=h2.pick (m:=60) (by omega);have hr5:=yq 5 h8 (by omega);have hr52:=hr5.2 (by omega);have h10:=h8.pick (m:=5) (by omega);have w1:IntKind.wrap .i64 ((za (za q2 60).2 5).1+1)=(za (za q2 60).2 5).1+1:=by rw[IntKind.wrap_i64];omega
   rw[w1]
   obtain ⟨t, e1, e2, e3, z, e4⟩ := yw5 (N := n + 2 + 2 + 2) (start := (za q2 60).1) s q2 (za q2 60).2 (za (za q2 60).2 5).2 rfl hr3.1 (by omega) (by omega) (((za (za q2 60).2 5).1 + 1).toNat + 1) ((za q2 60).1, (za (za q2 60).2 5).1 + 1, (za (za q2 60).2 5).2, ([] : List Sector))
    ⟨by show(za q2 60).1<=(za q2 60).1;omega,by show(za q2 60).1<=59+110 * (5-((za (za q2 60).2 5).1+1));omega,by show 0<=(za (za q2 60).2 5).1+1;omega,by show(za (za q2 60).2 5).1+1<=5;omega,h10.mono (by show _<=n+2+2+2+20 * (5-((za (za q2 60).2 5).1+1));omega),by show((0:Nat):Int)<=5-((za (za q2 60).2 5).1+1);omega,⟨fun i hi=>absurd hi (by simp),fun h=>absurd h (by simp),fun _=>rfl⟩⟩ (by show((za (za q2 60).2 5).1+1).toNat<_;omega)
   rw[e1];exact⟨e2.mono (by show _<=n+200;omega),e3,e4.ok (by omega) hr3.1⟩
theorem SrcOk.sectors {n:Int} {s:l00Src} (h:SrcOk n s) (hn:n<=10000000):SrcOk (n+200) (zt s).2:=(yox h hn).1
theorem yz5 {n:Int} {s:l00Src} (h:SrcOk n s) (hn:n<=10000000):(zt s).1.length<1099511627776:=by
 have:=(yox h hn).2.1;omega
theorem y51 {n:Int} {s:l00Src} (h:SrcOk n s) (hn:n<=10000000):∀ v∈(zt s).1,bdSector v:=fun v hv=>by
 have hr:=(ycg (yox h hn).2.2).2;obtain⟨i,hi,rfl⟩:=List.getElem_of_mem hv;have:=(hr i).2.2.2.2;rw[List.getD_eq_getElem?_getD,List.getElem?_eq_getElem hi]at this;show List.length _<1099511627776;simp only[Option.getD_some]at this;omega
theorem yx9 {n:Int} {s:l00Src} {v:Sector} (hv:v∈(zt s).1) (h:SrcOk n s) (hn:n<=10000000):bdSector v:=y51 h hn v hv
theorem y6v {n:Int} {s:l00Src} (h:SrcOk n s) (hn:n<=100000000):SrcOk (n+14) (zwb s).2/\zpd (zwb s).1=true:=by
 have hw:=y7h (l:=([20,100,100,100]:List Int)) h (by omega) (by decide);have h2:=h.among (l:=([20,100,100,100]:List Int)) (by omega)
 have hw:(zk s ([20,100,100,100]:List Int)).1=20\/(zk s ([20,100,100,100]:List Int)).1=100:=by
  simp only[List.mem_cons,List.not_mem_nil,or_false]at hw;omega
 unfold zwb;simp only[bnd];generalize (zk s ([20,100,100,100]:List Int)).2=q2 at h2 ⊢;generalize (zk s ([20,100,100,100]:List Int)).1=w at hw ⊢;have r1:=yq w h2 (by omega);have r12:=r1.2 (by omega);have h4:=h2.pick (m:=w) (by omega);generalize (za q2 w).2=q4 at h4 ⊢;generalize (za q2 w).1=x at r1 r12 ⊢;have r2:=yq w h4 (by omega);have r22:=r2.2 (by omega);have h6:=h4.pick (m:=w) (by omega);generalize (za q4 w).2=q6 at h6 ⊢;generalize (za q4 w).1=y at r2 r22 ⊢;have h8:=h6.one (m:=3) (by omega);generalize (zn q6 3).2=q8 at h8 ⊢;have wx:IntKind.wrap .i64 (10000+IntKind.wrap .i64 (x * 100))=10000+x * 100:=by rw[IntKind.wrap_i64,IntKind.wrap_i64];omega
 have wy:IntKind.wrap .i64 (10000+IntKind.wrap .i64 (y * 100))=10000+y * 100:=by rw[IntKind.wrap_i64,IntKind.wrap_i64];omega
 simp only[wx,wy];have r3:=yq 200 h8 (by omega);have r32:=r3.2 (by omega);have h10:=h8.pick (m:=200) (by omega)
 have ok:∀ a b:Int,0<=a->a<=200000->0<=b->b<=200000->zpd { X:=a,Y:=b }=true:=fun a b p q u v=>by
  unfold zpd zg;simp only[Bool.and_eq_true,decide_eq_true_eq];omega
 cases(zn q6 3).1 with
 | true=>
  rw[cond_true];generalize (za q8 200).2=q10 at h10 ⊢;generalize (za q8 200).1=u at r3 r32 ⊢;have wu:IntKind.wrap .i64 (10000+x * 100+u)=10000+x * 100+u:=by rw[IntKind.wrap_i64];omega
  simp only[wu];have h12:=h10.one (m:=3) (by omega);generalize (zn q10 3).2=q12 at h12 ⊢
  cases(zn q10 3).1 with
  | true=>
   rw[cond_true];have r4:=yq 200 h12 (by omega);have r42:=r4.2 (by omega);have h14:=h12.pick (m:=200) (by omega);have wv:IntKind.wrap .i64 (10000+y * 100+(za q12 200).1)=10000+y * 100+(za q12 200).1:=by rw[IntKind.wrap_i64];omega
   simp only[wv];exact⟨h14.mono (by omega),ok _ _ (by omega) (by omega) (by omega) (by omega)⟩
  | false=>exact⟨h12.mono (by omega),ok _ _ (by omega) (by omega) (by omega) (by omega)⟩
 | false=>
  rw[cond_false];have h12:=h8.one (m:=3) (by omega);generalize (zn q8 3).2=q12 at h12 ⊢
  cases(zn q8 3).1 with
  | true=>
   rw[cond_true];have r4:=yq 200 h12 (by omega);have r42:=r4.2 (by omega);have h14:=h12.pick (m:=200) (by omega);have wv:IntKind.wrap .i64 (10000+y * 100+(za q12 200).1)=10000+y * 100+(za q12 200).1:=by rw[IntKind.wrap_i64];omega
   simp only[wv];exact⟨h14.mono (by omega),ok _ _ (by omega) (by omega) (by omega) (by omega)⟩
  | false=>exact⟨h12.mono (by omega),ok _ _ (by omega) (by omega) (by omega) (by omega)⟩
theorem SrcOk.point {n:Int} {s:l00Src} (h:SrcOk n s) (hn:n<=100000000):SrcOk (n+14) (zwb s).2:=(y6v h hn).1
def zo (a0:l00Src):Aid×l00Src:=
 (bnd ((za a0 30).2) fun q2=>(bnd ((zr q2 [[114,111,99,107],[101,97,115,116],[112,105,101,114],[98,97,114],[99,97,112,101]]).2) fun q4=>(bnd ((zwb q4).2) fun q6=>(bnd ((za q6 500).2) fun q8=>(bnd ((zn q8 2).2) fun q10=>(bif ((zn q8 2).1)then(bnd ((za q10 9).2) fun q12=>(bif (((zff (IntKind.wrap .i64 (((za q10 9).1)+1))).2) == 0)then(bnd ((zn q12 5).2) fun q14=>(bif ((zn q12 5).1)then({ Number:=IntKind.wrap .i64 (((za a0 30).1)+1),Name:=((zr q2 [[114,111,99,107],[101,97,115,116],[112,105,101,114],[98,97,114],[99,97,112,101]]).1),At:=((zwb q4).1),Height:=((za q6 500).1),Mark:=(zff (IntKind.wrap .i64 (((za q10 9).1)+1))).1,Light:={ Kind:=0,Group:=[],Letter:=[],Colors:=[],Period:=0:Character },Sectors:=[],Intensity:=0:Aid },q14)else(bnd ((zi q14).2) fun q16=>(bnd ((zk q16 ([10,1000,20000,1000000,1]:List Int)).2) fun q18=>(bnd ((zn q18 2).2) fun q20=>(bif ((zn q18 2).1)then({ Number:=IntKind.wrap .i64 (((za a0 30).1)+1),Name:=((zr q2 [[114,111,99,107],[101,97,115,116],[112,105,101,114],[98,97,114],[99,97,112,101]]).1),At:=((zwb q4).1),Height:=((za q6 500).1),Mark:=(zff (IntKind.wrap .i64 (((za q10 9).1)+1))).1,Light:={ Kind:=((zi q14).1).Kind,Group:=((zi q14).1).Group,Letter:=((zi q14).1).Letter,Colors:=(((zi q14).1).Colors).take 1,Period:=((zi q14).1).Period:Character },Sectors:=[],Intensity:=((zk q16 ([10,1000,20000,1000000,1]:List Int)).1):Aid },q20)else(bnd ((zt q20).2) fun q22=>(bif ((((zt q20).1).length:Int) == 0)then({ Number:=IntKind.wrap .i64 (((za a0 30).1)+1),Name:=((zr q2 [[114,111,99,107],[101,97,115,116],[112,105,101,114],[98,97,114],[99,97,112,101]]).1),At:=((zwb q4).1),Height:=((za q6 500).1),Mark:=(zff (IntKind.wrap .i64 (((za q10 9).1)+1))).1,Light:={ Kind:=((zi q14).1).Kind,Group:=((zi q14).1).Group,Letter:=((zi q14).1).Letter,Colors:=(((zi q14).1).Colors).take 1,Period:=((zi q14).1).Period:Character },Sectors:=((zt q20).1),Intensity:=((zk q16 ([10,1000,20000,1000000,1]:List Int)).1):Aid },q22)else(bif decide (3<((zeb ((zt q20).1)).length:Int))then({ Number:=IntKind.wrap .i64 (((za a0 30).1)+1),Name:=((zr q2 [[114,111,99,107],[101,97,115,116],[112,105,101,114],[98,97,114],[99,97,112,101]]).1),At:=((zwb q4).1),Height:=((za q6 500).1),Mark:=(zff (IntKind.wrap .i64 (((za q10 9).1)+1))).1,Light:={ Kind:=((zi q14).1).Kind,Group:=((zi q14).1).Group,Letter:=((zi q14).1).Letter,Colors:=[71],Period:=((zi q14).1).Period:Character },Sectors:=[{ From:=10,To:=200,Color:=[71]:Sector }],Intensity:=((zk q16 ([10,1000,20000,1000000,1]:List Int)).1):Aid },q22)else({ Number:=IntKind.wrap .i64 (((za a0 30).1)+1),Name:=((zr q2 [[114,111,99,107],[101,97,115,116],[112,105,101,114],[98,97,114],[99,97,112,101]]).1),At:=((zwb q4).1),Height:=((za q6 500).1),Mark:=(zff (IntKind.wrap .i64 (((za q10 9).1)+1))).1,Light:={ Kind:=((zi q14).1).Kind,Group:=((zi q14).1).Group,Letter:=((zi q14).1).Letter,Colors:=(zeb ((zt q20).1)),Period:=((zi q14).1).Period:Character },Sectors:=((zt q20).1),Intensity:=((zk q16 ([10,1000,20000,1000000,1]:List Int)).1):Aid },q22))))))))))else(bnd ((zn q12 5).2) fun q24=>(bif ((zn q12 5).1)then({ Number:=IntKind.wrap .i64 (((za a0 30).1)+1),Name:=((zr q2 [[114,111,99,107],[101,97,115,116],[112,105,101,114],[98,97,114],[99,97,112,101]]).1),At:=((zwb q4).1),Height:=((za q6 500).1),Mark:={ Kind:=0,Colors:=[],Shape:=[],Topmark:=[]:Mark },Light:={ Kind:=0,Group:=[],Letter:=[],Colors:=[],Period:=0:Character },Sectors:=[],Intensity:=0:Aid },q24)else(bnd ((zi q24).2) fun q26=>(bnd ((zk q26 ([10,1000,20000,1000000,1]:List Int)).2) fun q28=>(bnd ((zn q28 2).2) fun q30=>(bif ((zn q28 2).1)then({ Number:=IntKind.wrap .i64 (((za a0 30).1)+1),Name:=((zr q2 [[114,111,99,107],[101,97,115,116],[112,105,101,114],[98,97,114],[99,97,112,101]]).1),At:=((zwb q4).1),Height:=((za q6 500).1),Mark:={ Kind:=0,Colors:=[],Shape:=[],Topmark:=[]:Mark },Light:={ Kind:=((zi q24).1).Kind,Group:=((zi q24).1).Group,Letter:=((zi q24).1).Letter,Colors:=(((zi q24).1).Colors).take 1,Period:=((zi q24).1).Period:Character },Sectors:=[],Intensity:=((zk q26 ([10,1000,20000,1000000,1]:List Int)).1):Aid },q30)else(bnd ((zt q30).2) fun q32=>(bif ((((zt q30).1).length:Int) == 0)then({ Number:=IntKind.wrap .i64 (((za a0 30).1)+1),Name:=((zr q2 [[114,111,99,107],[101,97,115,116],[112,105,101,114],[98,97,114],[99,97,112,101]]).1),At:=((zwb q4).1),Height:=((za q6 500).1),Mark:={ Kind:=0,Colors:=[],Shape:=[],Topmark:=[]:Mark },Light:={ Kind:=((zi q24).1).Kind,Group:=((zi q24).1).Group,Letter:=((zi q24).1).Letter,Colors:=(((zi q24).1).Colors).take 1,Period:=((zi q24).1).Period:Character },Sectors:=((zt q30).1),Intensity:=((zk q26 ([10,1000,20000,1000000,1]:List Int)).1):Aid },q32)else(bif decide (3<((zeb ((zt q30).1)).length:Int))then({ Number:=IntKind.wrap .i64 (((za a0 30).1)+1),Name:=((zr q2 [[114,111,99,107],[101,97,115,116],[112,105,101,114],[98,97,114],[99,97,112,101]]).1),At:=((zwb q4).1),Height:=((za q6 500).1),Mark:={ Kind:=0,Colors:=[],Shape:=[],Topmark:=[]:Mark },Light:={ Kind:=((zi q24).1).Kind,Group:=((zi q24).1).Group,Letter:=((zi q24).1).Letter,Colors:=[71],Period:=((zi q24).1).Period:Character },Sectors:=[{ From:=10,To:=200,Color:=[71]:Sector }],Intensity:=((zk q26 ([10,1000,20000,1000000,1]:List Int)).1):Aid },q32)else({ Number:=IntKind.wrap .i64 (((za a0 30).1)+1),Name:=((zr q2 [[114,111,99,107],[101,97,115,116],[112,105,101,114],[98,97,114],[99,97,112,101]]).1),At:=((zwb q4).1),Height:=((za q6 500).1),Mark:={ Kind:=0,Colors:=[],Shape:=[],Topmark:=[]:Mark },Light:={ Kind:=((zi q24).1).Kind,Group:=((zi q24).1).Group,Letter:=((zi q24).1).Letter,Colors:=(zeb ((zt q30).1)),Period:=((zi q24).1).Period:Character },Sectors:=((zt q30).1),Intensity:=((zk q26 ([10,1000,20000,1000000,1]:List Int)).1):Aid },q32))))))))))))else(bnd ((zn q10 5).2) fun q34=>(bif ((zn q10 5).1)then({ Number:=IntKind.wrap .i64 (((za a0 30).1)+1),Name:=((zr q2 [[114,111,99,107],[101,97,115,116],[112,105,101,114],[98,97,114],[99,97,112,101]]).1),At:=((zwb q4).1),Height:=((za q6 500).1),Mark:={ Kind:=0,Colors:=[],Shape:=[],Topmark:=[]:Mark },Light:={ Kind:=0,Group:=[],Letter:=[],Colors:=[],Period:=0:Character },Sectors:=[],Intensity:=0:Aid },q34)else(bnd ((zi q34).2) fun q36=>(bnd ((zk q36 ([10,1000,20000,1000000,1]:List Int)).2) fun q38=>(bnd ((zn q38 2).2) fun q40=>(bif ((zn q38 2).1)then({ Number:=IntKind.wrap .i64 (((za a0 30).1)+1),Name:=((zr q2 [[114,111,99,107],[101,97,115,116],[112,105,101,114],[98,97,114],[99,97,112,101]]).1),At:=((zwb q4).1),Height:=((za q6 500).1),Mark:={ Kind:=0,Colors:=[],Shape:=[],Topmark:=[]:Mark },Light:={ Kind:=((zi q34).1).Kind,Group:=((zi q34).1).Group,Letter:=((zi q34).1).Letter,Colors:=(((zi q34).1).Colors).take 1,Period:=((zi q34).1).Period:Character },Sectors:=[],Intensity:=((zk q36 ([10,1000,20000,1000000,1]:List Int)).1):Aid },q40)else(bnd ((zt q40).2) fun q42=>(bif ((((zt q40).1).length:Int) == 0)then({ Number:=IntKind.wrap .i64 (((za a0 30).1)+1),Name:=((zr q2 [[114,111,99,107],[101,97,115,116],[112,105,101,114],[98,97,114],[99,97,112,101]]).1),At:=((zwb q4).1),Height:=((za q6 500).1),Mark:={ Kind:=0,Colors:=[],Shape:=[],Topmark:=[]:Mark },Light:={ Kind:=((zi q34).1).Kind,Group:=((zi q34).1).Group,Letter:=((zi q34).1).Letter,Colors:=(((zi q34).1).Colors).take 1,Period:=((zi q34).1).Period:Character },Sectors:=((zt q40).1),Intensity:=((zk q36 ([10,1000,20000,1000000,1]:List Int)).1):Aid },q42)else(bif decide (3<((zeb ((zt q40).1)).length:Int))then({ Number:=IntKind.wrap .i64 (((za a0 30).1)+1),Name:=((zr q2 [[114,111,99,107],[101,97,115,116],[112,105,101,114],[98,97,114],[99,97,112,101]]).1),At:=((zwb q4).1),Height:=((za q6 500).1),Mark:={ Kind:=0,Colors:=[],Shape:=[],Topmark:=[]:Mark },Light:={ Kind:=((zi q34).1).Kind,Group:=((zi q34).1).Group,Letter:=((zi q34).1).Letter,Colors:=[71],Period:=((zi q34).1).Period:Character },Sectors:=[{ From:=10,To:=200,Color:=[71]:Sector }],Intensity:=((zk q36 ([10,1000,20000,1000000,1]:List Int)).1):Aid },q42)else({ Number:=IntKind.wrap .i64 (((za a0 30).1)+1),Name:=((zr q2 [[114,111,99,107],[101,97,115,116],[112,105,101,114],[98,97,114],[99,97,112,101]]).1),At:=((zwb q4).1),Height:=((za q6 500).1),Mark:={ Kind:=0,Colors:=[],Shape:=[],Topmark:=[]:Mark },Light:={ Kind:=((zi q34).1).Kind,Group:=((zi q34).1).Group,Letter:=((zi q34).1).Letter,Colors:=(zeb ((zt q40).1)),Period:=((zi q34).1).Period:Character },Sectors:=((zt q40).1),Intensity:=((zk q36 ([10,1000,20000,1000000,1]:List Int)).1):Aid },q42))))))))))))))))
namespace N46
theorem DD:DOk Tryz.prog (Go.Ab.DD [(45,dM [true,false] D_za),(91,dM [true,true] D_zr),(92,dM [true] D_zwb),(93,dM [true,false] D_zn),(94,dP D_zff),(95,dM [true] D_zi),(96,dM [true,true] D_zk),(97,dM [true] D_zt),(98,dP D_zeb)]):=ya yme.e <| ya y6u.e <| ya y13.e <| ya yip.e <| ya y83.e <| ya yv9.e <| ya yqu.e <| ya y49.e <| ya y7v.e <| yf _
abbrev dn:=cj @D_za.eq_1 <| cj @D_zr.eq_1 <| cj @D_zwb.eq_1 <| cj @D_zn.eq_1 <| cj @D_zff.eq_1 <| cj @D_zi.eq_1 <| cj @D_zk.eq_1 <| cj @D_zt.eq_1 <| @D_zeb.eq_1
theorem o1 {p:Prop} (h:p:=by(first|(refine SrcOk.mono (by repeat' first|assumption|exact SrcOk.next ‹_› | apply SrcOk.next|apply SrcOk.pick|apply SrcOk.one|apply SrcOk.among|apply SrcOk.text|apply SrcOk.colors|apply SrcOk.point|apply SrcOk.chr|apply SrcOk.sectors|apply SrcOk.aid|apply SrcOk.aids|apply SrcOk.notice|omega) (by omega))|(exact y69 (by assumption) (by omega))|(exact yuab (by assumption) (by omega))|(exact yz5 (by assumption) (by omega))|(exact y51 (by assumption) (by omega))|(exact yx9 (by assumption) (by assumption) (by omega)));first|done|fail):p:=h
theorem lx {p:Prop} (h:p:=by(exact lxx);first|done|fail):p:=h
set_option maxHeartbeats 2000000 in
set_option maxRecDepth 20000 in
theorem den (a0:l00Src) (hp0:SrcOk 500000 a0):DenM Tryz.prog 46 [.op (yu a0)] (.agg (eAid ((zo a0).1))) [(.op (yu ((zo a0).2)))]:=by
 generalize hR:zo a0=r;unfold zo at hR;refine djL (gb:=[true]) Tryz.func46 Tryz.ntmps46 Tryz.results46 ?_;intro c hL hc hk;obtain⟨hL0,_⟩:=hL;have hw0:bwl00Src a0:=ygb a0 hL0;clear hL0;simp only[adEL,adE,adRL,adR,ownL,encL,sv,List.nil_append,List.append_nil,List.cons_append,List.length_cons,List.length_nil,pars,Nat.zero_add,Nat.reduceAdd]at hk ⊢;iterate 2 refine rS ?_
 generalize hq2:(za a0 30).2=q2 at hR ⊢;replace hR:=bn hR;have hS_q2:SrcOk (500002) q2:=by rw[<- hq2];exact SrcOk.pick hp0 (by omega)
 refine rS ?_;generalize hq4:(zr q2 [[114,111,99,107],[101,97,115,116],[112,105,101,114],[98,97,114],[99,97,112,101]]).2=q4 at hR ⊢;replace hR:=bn hR;have hS_q4:SrcOk (500004) q4:=by rw[<- hq4];exact SrcOk.text hS_q2 (by omega)
 refine rS ?_;generalize hq6:(zwb q4).2=q6 at hR ⊢;replace hR:=bn hR;have hS_q6:SrcOk (500018) q6:=by rw[<- hq6];exact SrcOk.point hS_q4 (by omega)
 refine rS ?_;generalize hq8:(za q6 500).2=q8 at hR ⊢;replace hR:=bn hR;have hS_q8:SrcOk (500020) q8:=by rw[<- hq8];exact SrcOk.pick hS_q6 (by omega)
 refine rS ?_;generalize hq10:(zn q8 2).2=q10 at hR ⊢;replace hR:=bn hR;have hS_q10:SrcOk (500022) q10:=by rw[<- hq10];exact SrcOk.one hS_q8 (by omega)
 refine AWP.cond rfl (fun hb => ?_) (fun hb => ?_)
 ·replace hR:=ct hR
  refine rS ?_;generalize hq12:(za q10 9).2=q12 at hR ⊢;replace hR:=bn hR;have hS_q12:SrcOk (500024) q12:=by rw[<- hq12];exact SrcOk.pick hS_q10 (by omega)
  refine rS ?_;refine AWP.cond rfl (fun hb => ?_) (fun hb => ?_)
  ·replace hR:=ct hR
   iterate 2 refine rS ?_
   generalize hq14:(zn q12 5).2=q14 at hR ⊢;replace hR:=bn hR;have hS_q14:SrcOk (500026) q14:=by rw[<- hq14];exact SrcOk.one hS_q12 (by omega)
   refine AWP.cond rfl (fun hb => ?_) (fun hb => ?_)
   ·replace hR:=ct hR
    refine rS ?_;refine AWP.ret ?_;subst hR;exact esL
   ·replace hR:=cf hR
    refine rS ?_;generalize hq16:(zi q14).2=q16 at hR ⊢;replace hR:=bn hR;have hS_q16:SrcOk (500126) q16:=by rw[<- hq16];exact SrcOk.chr hS_q14 (by omega)
    refine rS ?_;generalize hq18:(zk q16 ([10,1000,20000,1000000,1]:List Int)).2=q18 at hR ⊢;replace hR:=bn hR;have hS_q18:SrcOk (500128) q18:=by rw[<- hq18];exact SrcOk.among hS_q16 (by omega)
    refine rS ?_;generalize hq20:(zn q18 2).2=q20 at hR ⊢;replace hR:=bn hR;have hS_q20:SrcOk (500130) q20:=by rw[<- hq20];exact SrcOk.one hS_q18 (by omega)
    refine AWP.cond rfl (fun hb => ?_) (fun hb => ?_)
    ·replace hR:=ct hR
     iterate 2 refine rS ?_
     refine AWP.ret ?_;subst hR;exact esL
    ·replace hR:=cf hR
     refine rS ?_;generalize hq22:(zt q20).2=q22 at hR ⊢;replace hR:=bn hR;have hS_q22:SrcOk (500330) q22:=by rw[<- hq22];exact SrcOk.sectors hS_q20 (by omega)
     refine rS ?_;refine AWP.cond rfl (fun hb => ?_) (fun hb => ?_)
     ·replace hR:=ct hR
      iterate 2 refine rS ?_
      refine AWP.ret ?_;subst hR;exact esL
     ·replace hR:=cf hR
      iterate 2 refine rS ?_
      refine AWP.cond rfl (fun hb => ?_) (fun hb => ?_)
      ·replace hR:=ct hR
       iterate 4 refine rS ?_
       refine AWP.ret ?_;subst hR;exact esL
      ·replace hR:=cf hR
       iterate 2 refine rS ?_
       refine AWP.ret ?_;subst hR;exact esL
  ·replace hR:=cf hR
   refine rS ?_;generalize hq24:(zn q12 5).2=q24 at hR ⊢;replace hR:=bn hR;have hS_q24:SrcOk (500026) q24:=by rw[<- hq24];exact SrcOk.one hS_q12 (by omega)
   refine AWP.cond rfl (fun hb => ?_) (fun hb => ?_)
   ·replace hR:=ct hR
    refine rS ?_;refine AWP.ret ?_;subst hR;exact esL
   ·replace hR:=cf hR
    refine rS ?_;generalize hq26:(zi q24).2=q26 at hR ⊢;replace hR:=bn hR;have hS_q26:SrcOk (500126) q26:=by rw[<- hq26];exact SrcOk.chr hS_q24 (by omega)
    refine rS ?_;generalize hq28:(zk q26 ([10,1000,20000,1000000,1]:List Int)).2=q28 at hR ⊢;replace hR:=bn hR;have hS_q28:SrcOk (500128) q28:=by rw[<- hq28];exact SrcOk.among hS_q26 (by omega)
    refine rS ?_;generalize hq30:(zn q28 2).2=q30 at hR ⊢;replace hR:=bn hR;have hS_q30:SrcOk (500130) q30:=by rw[<- hq30];exact SrcOk.one hS_q28 (by omega)
    refine AWP.cond rfl (fun hb => ?_) (fun hb => ?_)
    ·replace hR:=ct hR
     iterate 2 refine rS ?_
     refine AWP.ret ?_;subst hR;exact esL
    ·replace hR:=cf hR
     refine rS ?_;generalize hq32:(zt q30).2=q32 at hR ⊢;replace hR:=bn hR;have hS_q32:SrcOk (500330) q32:=by rw[<- hq32];exact SrcOk.sectors hS_q30 (by omega)
     refine rS ?_;refine AWP.cond rfl (fun hb => ?_) (fun hb => ?_)
     ·replace hR:=ct hR
      iterate 2 refine rS ?_
      refine AWP.ret ?_;subst hR;exact esL
     ·replace hR:=cf hR
      iterate 2 refine rS ?_
      refine AWP.cond rfl (fun hb => ?_) (fun hb => ?_)
      ·replace hR:=ct hR
       iterate 4 refine rS ?_
       refine AWP.ret ?_;subst hR;exact esL
      ·replace hR:=cf hR
       iterate 2 refine rS ?_
       refine AWP.ret ?_;subst hR;exact esL
 ·replace hR:=cf hR
  refine rS ?_;generalize hq34:(zn q10 5).2=q34 at hR ⊢;replace hR:=bn hR;have hS_q34:SrcOk (500024) q34:=by rw[<- hq34];exact SrcOk.one hS_q10 (by omega)
  refine AWP.cond rfl (fun hb => ?_) (fun hb => ?_)
  ·replace hR:=ct hR
   refine rS ?_;refine AWP.ret ?_;subst hR;exact esL
  ·replace hR:=cf hR
   refine rS ?_;generalize hq36:(zi q34).2=q36 at hR ⊢;replace hR:=bn hR;have hS_q36:SrcOk (500124) q36:=by rw[<- hq36];exact SrcOk.chr hS_q34 (by omega)
   refine rS ?_;generalize hq38:(zk q36 ([10,1000,20000,1000000,1]:List Int)).2=q38 at hR ⊢;replace hR:=bn hR;have hS_q38:SrcOk (500126) q38:=by rw[<- hq38];exact SrcOk.among hS_q36 (by omega)
   refine rS ?_;generalize hq40:(zn q38 2).2=q40 at hR ⊢;replace hR:=bn hR;have hS_q40:SrcOk (500128) q40:=by rw[<- hq40];exact SrcOk.one hS_q38 (by omega)
   refine AWP.cond rfl (fun hb => ?_) (fun hb => ?_)
   ·replace hR:=ct hR
    iterate 2 refine rS ?_
    refine AWP.ret ?_;subst hR;exact esL
   ·replace hR:=cf hR
    refine rS ?_;generalize hq42:(zt q40).2=q42 at hR ⊢;replace hR:=bn hR;have hS_q42:SrcOk (500328) q42:=by rw[<- hq42];exact SrcOk.sectors hS_q40 (by omega)
    refine rS ?_;refine AWP.cond rfl (fun hb => ?_) (fun hb => ?_)
    ·replace hR:=ct hR
     iterate 2 refine rS ?_
     refine AWP.ret ?_;subst hR;exact esL
    ·replace hR:=cf hR
     iterate 2 refine rS ?_
     refine AWP.cond rfl (fun hb => ?_) (fun hb => ?_)
     ·replace hR:=ct hR
      iterate 4 refine rS ?_
      refine AWP.ret ?_;subst hR;exact esL
     ·replace hR:=cf hR
      iterate 2 refine rS ?_
      refine AWP.ret ?_;subst hR;exact esL
end N46
def D_zo : List AV -> Option (AV × List AV × List Prop)
 | [x0]=>some (.agg (eAid ((zo (rdQ yw x0)).1)),[(.op (yu ((zo (rdQ yw x0)).2)))],[wQ yu yw x0,SrcOk 500000 (rdQ yw x0)])
 | _=>none
theorem yj0:OkM Tryz.prog 46 D_zo:=by unfold D_zo;exact dm N46.den
theorem yht (a:List Sector):zeb a=yje a (yje a (yje a (yje a [] 87) 82) 71) 89:=by
 unfold zeb;simp only[yh,Nat.sub_zero];rw[yxc a 0 [] 87 rfl];simp only;rw[yxc a (0+1) _ 82 rfl];simp only;rw[yxc a (0+1+1) _ 71 rfl];simp only;rw[yxc a (0+1+1+1) _ 89 rfl]
theorem yzr {a:List Sector} (h:zv a=true) (hl:0<a.length):(zeb a).length<=3->zjb (zeb a)=true:=by
 have h1:=(yfh h).2 0 hl
 have hc:zcf (a.getD 0 default).Color=true:=by
  unfold zdc at h1;rw[Bool.and_eq_true]at h1;exact h1.2
 have hm:a.getD 0 default∈a:=by
  rw[List.getD_eq_getElem?_getD,List.getElem?_eq_getElem hl];exact List.getElem_mem hl
 have hany:(a.any (fun x=>x.Color == [87]) || (a.any (fun x=>x.Color == [82]) || (a.any (fun x=>x.Color == [71]) || a.any (fun x=>x.Color == [89]))))=true:=by
  unfold zcf at hc;simp only[Bool.or_eq_true,List.any_eq_true]at hc ⊢;rcases hc with((hc|hc)|hc)|hc
  ·exact .inl ⟨_,hm,hc⟩
  ·exact .inr (.inl ⟨_,hm,hc⟩)
  ·exact .inr (.inr (.inl ⟨_,hm,hc⟩))
  ·exact .inr (.inr (.inr ⟨_,hm,hc⟩))
 rw[yht];unfold yje;revert hany
 cases a.any (fun x=>x.Color == [87])<;>cases a.any (fun x=>x.Color == [82])<;>cases a.any (fun x=>x.Color == [71])<;>cases a.any (fun x=>x.Color == [89])<;>intro hany h3<;>first|(exact absurd hany (by decide))|(exact absurd h3 (by decide))|decide +kernel
theorem yn9 {K:Int} {G:List Int} {L C C':List UInt8} {P:Int} (h:zmc { Kind:=K,Group:=G,Letter:=L,Colors:=C,Period:=P }=true) (h2:zjb C'=true):zmc { Kind:=K,Group:=G,Letter:=L,Colors:=C',Period:=P }=true:=by
 have hC:zjb C=true:=by
  cases hc:zjb C with
  | true=>rfl
  | false=>
   unfold zmc zee at h;simp only[hc,Bool.not_false,Bool.or_true,cond_true,Bool.not_true]at h;cases h
 rw[<- h];unfold zmc;rw[ygl K G L C P hC,ygl K G L C' P h2];rfl
def yg0 (N:Int) (nm:List UInt8) (p:Point) (h:Int) (mk:Mark) (q:l00Src):Aid×l00Src:=
 (bnd ((zn q 5).2) fun q14=>(bif ((zn q 5).1)then({ Number:=N,Name:=nm,At:=p,Height:=h,Mark:=mk,Light:={ Kind:=0,Group:=[],Letter:=[],Colors:=[],Period:=0:Character },Sectors:=[],Intensity:=0:Aid },q14)else(bnd ((zi q14).2) fun q16=>(bnd ((zk q16 ([10,1000,20000,1000000,1]:List Int)).2) fun q18=>(bnd ((zn q18 2).2) fun q20=>(bif ((zn q18 2).1)then({ Number:=N,Name:=nm,At:=p,Height:=h,Mark:=mk,Light:={ Kind:=((zi q14).1).Kind,Group:=((zi q14).1).Group,Letter:=((zi q14).1).Letter,Colors:=(((zi q14).1).Colors).take 1,Period:=((zi q14).1).Period:Character },Sectors:=[],Intensity:=((zk q16 ([10,1000,20000,1000000,1]:List Int)).1):Aid },q20)else(bnd ((zt q20).2) fun q22=>(bif ((((zt q20).1).length:Int) == 0)then({ Number:=N,Name:=nm,At:=p,Height:=h,Mark:=mk,Light:={ Kind:=((zi q14).1).Kind,Group:=((zi q14).1).Group,Letter:=((zi q14).1).Letter,Colors:=(((zi q14).1).Colors).take 1,Period:=((zi q14).1).Period:Character },Sectors:=((zt q20).1),Intensity:=((zk q16 ([10,1000,20000,1000000,1]:List Int)).1):Aid },q22)else(bif decide (3<((zeb ((zt q20).1)).length:Int))then({ Number:=N,Name:=nm,At:=p,Height:=h,Mark:=mk,Light:={ Kind:=((zi q14).1).Kind,Group:=((zi q14).1).Group,Letter:=((zi q14).1).Letter,Colors:=[71],Period:=((zi q14).1).Period:Character },Sectors:=[{ From:=10,To:=200,Color:=[71]:Sector }],Intensity:=((zk q16 ([10,1000,20000,1000000,1]:List Int)).1):Aid },q22)else({ Number:=N,Name:=nm,At:=p,Height:=h,Mark:=mk,Light:={ Kind:=((zi q14).1).Kind,Group:=((zi q14).1).Group,Letter:=((zi q14).1).Letter,Colors:=(zeb ((zt q20).1)),Period:=((zi q14).1).Period:Character },Sectors:=((zt q20).1),Intensity:=((zk q16 ([10,1000,20000,1000000,1]:List Int)).1):Aid },q22))))))))))
def AidP (n:Int) (r:Aid×l00Src):Prop:=SrcOk n r.2/\zpb r.1=true/\(r.1.Light.Group.length<=2/\r.1.Light.Letter.length<=1/\r.1.Light.Colors.length<=3)/\r.1.Sectors.length<=5/\r.1.Number<=30
theorem yy0 {C:List UInt8} (h:C∈nineC):zjb (C.take 1)=true/\(C.take 1).length=1:=by
 have:(nineC.all fun C=>zjb (C.take 1) && decide ((C.take 1).length=1))=true:=by decide +kernel
 have:=List.all_eq_true.1 this C h;rw[Bool.and_eq_true,decide_eq_true_eq]at this;exact this
theorem yzi {n:Int} {N:Int} {nm:List UInt8} {p:Point} {h:Int} {mk:Mark} {q:l00Src} (hq:SrcOk n q) (hn:n<=1000000) (h1:1<=N) (h2:N<=30) (h3:zjc nm=true) (h4:zpd p=true) (h5:0<=h) (h6:h<=3000) (h7:zjd mk=true):AidP (n+310) (yg0 N nm p h mk q):=by
 have base:∀ (L:Character) (S:List Sector) (I:Int),(bif (zyc L)then(((S.length:Int) == 0) && (I == 0))else(bif (((!(zmc L)) || (!(zg I 1 100000000))) || (!(zv S)))then false else(bif ((S.length:Int) == 0)then((L.Colors.length:Int) == 1)else((zeb S) == L.Colors))))=true->zpb { Number:=N,Name:=nm,At:=p,Height:=h,Mark:=mk,Light:=L,Sectors:=S,Intensity:=I:Aid }=true:=fun L S I hh=>by
  unfold zpb;have e1:zg N 1 9999=true:=by unfold zg;simp;omega
  have e2:zg h 0 3000=true:=by unfold zg;simp;omega
  simp only[e1,e2,h3,h4,h7,Bool.not_true,Bool.or_self,cond_false];exact hh
 have lit:∀ (L:Character) (S:List Sector) (I:Int),zmc L=true->1<=I->I<=100000000->zv S=true->(bif ((S.length:Int) == 0)then((L.Colors.length:Int) == 1)else((zeb S) == L.Colors))=true->zpb { Number:=N,Name:=nm,At:=p,Height:=h,Mark:=mk,Light:=L,Sectors:=S,Intensity:=I:Aid }=true:=fun L S I g1 g2 g3 g4 g5=>base L S I (by
  have e0:zyc L=false:=by
   cases e:zyc L with
   | false=>rfl
   | true=>
    unfold zyc at e;simp only[Bool.and_eq_true,beq_iff_eq]at e;unfold zmc zee zxg zg at g1;rw[e.1.1.1.1]at g1;cases g1
  have e1:zg I 1 100000000=true:=by unfold zg;simp;omega
  rw[e0,g1,e1,g4]
  exact g5)
 unfold yg0;have q14:=hq.one (m:=5) (by omega);simp only[bnd];generalize (zn q 5).2=s14 at q14
 cases(zn q 5).1 with
 | true=>rw[cond_true];exact⟨q14.mono (by show _<=n+310;omega),base _ _ _ rfl,(by decide:([]:List Int).length<=2/\([]:List UInt8).length<=1/\([]:List UInt8).length<=3),by show(0:Nat)<=5;omega,h2⟩
 | false=>
  rw[cond_false];obtain⟨q16,c1,c2,c3,c4⟩:=ywx q14 (by omega);generalize (zi s14).2=s16 at q16;generalize (zi s14).1=c at c1 c2 c3 c4;obtain⟨K,G,L,C,P⟩:=c;simp only at c2 c3 c4;have hI:=y7h (l:=([10,1000,20000,1000000,1]:List Int)) q16 (by omega) (by decide);have q18:=q16.among (l:=([10,1000,20000,1000000,1]:List Int)) (by omega);generalize (zk s16 ([10,1000,20000,1000000,1]:List Int)).2=s18 at q18;generalize (zk s16 ([10,1000,20000,1000000,1]:List Int)).1=I at hI;have hI:1<=I/\I<=100000000:=by simp only[List.mem_cons,List.not_mem_nil,or_false]at hI;omega
  have q20:=q18.one (m:=2) (by omega);generalize (zn s18 2).2=s20 at q20;obtain⟨t1,t2⟩:=yy0 c2
  have z1:zpb { Number:=N,Name:=nm,At:=p,Height:=h,Mark:=mk,Light:={ Kind:=K,Group:=G,Letter:=L,Colors:=C.take 1,Period:=P:Character },Sectors:=[],Intensity:=I:Aid }=true:=lit _ _ _ (yn9 c1 t1) hI.1 hI.2 (by decide +kernel) (by
   show(((C.take 1).length:Int) == 1)=true
   rw[t2];rfl)
  cases(zn s18 2).1 with
  | true=>exact⟨q20.mono (by show _<=n+310;omega),z1,⟨c3,c4,by show(C.take 1).length<=3;omega⟩,by show(0:Nat)<=5;omega,h2⟩
  | false=>
   rw[cond_false];obtain⟨q22,d1,d2⟩:=yox q20 (by omega);generalize (zt s20).2=s22 at q22;generalize (zt s20).1=S at d1 d2;by_cases hS:S.length=0
   ·have hS2:S=[]:=List.length_eq_zero_iff.1 hS
    subst hS2;exact⟨q22.mono (by show _<=n+310;omega),z1,⟨c3,c4,by show(C.take 1).length<=3;omega⟩,by show(0:Nat)<=5;omega,h2⟩
   ·have e0:((S.length:Int) == 0)=false:=by rw[beq_eq_false_iff_ne];omega
    rw[e0,cond_false];by_cases h3':3<((zeb S).length:Int)
    ·rw[decide_eq_true h3',cond_true]
     exact⟨q22.mono (by show _<=n+310;omega),lit _ _ _ (yn9 c1 (by decide +kernel)) hI.1 hI.2 (by decide +kernel) (by show((zeb [{ From:=10,To:=200,Color:=[71]:Sector }]) == [71])=true;decide +kernel),⟨c3,c4,by show(1:Nat)<=3;omega⟩,by show(1:Nat)<=5;omega,h2⟩
    ·rw[decide_eq_false h3',cond_false]
     exact⟨q22.mono (by show _<=n+310;omega),lit _ _ _ (yn9 c1 (yzr d2 (by omega) (by omega))) hI.1 hI.2 d2 (by rw[e0,cond_false];simp),⟨c3,c4,by show(zeb S).length<=3;omega⟩,d1,h2⟩
theorem ydcb {k:Int} (h1:1<=k) (h2:k<=9):zjd (zff k).1=true:=by
 rcases(show k=1\/k=2\/k=3\/k=4\/k=5\/k=6\/k=7\/k=8\/k=9 by omega)with e|e|e|e|e|e|e|e|e<;>rw[e]<;>decide +kernel
theorem y9v {n:Int} {s:l00Src} (h:SrcOk n s) (hn:n<=900000):AidP (n+400) (zo s):=by
 have mono:∀ {m:Int} {r:Aid×l00Src},AidP m r->m<=n+400->AidP (n+400) r:=fun h h2=>⟨h.1.mono h2,h.2⟩
 have r1:=yq 30 h (by omega);have r12:=r1.2 (by omega);have q2:=h.pick (m:=30) (by omega);have w1:IntKind.wrap .i64 ((za s 30).1+1)=(za s 30).1+1:=by rw[IntKind.wrap_i64];omega
 unfold zo;simp only[bnd];rw[w1];generalize (za s 30).2=s2 at q2;obtain⟨N,hN⟩:∃ N,N=(za s 30).1+1:=⟨_,rfl⟩
 rw[<- hN];have hnm:=yhk (l:=([[114,111,99,107],[101,97,115,116],[112,105,101,114],[98,97,114],[99,97,112,101]]:List (List UInt8))) q2 (by omega) (by decide);have q4:=q2.text (l:=([[114,111,99,107],[101,97,115,116],[112,105,101,114],[98,97,114],[99,97,112,101]]:List (List UInt8))) (by omega);generalize (zr s2 ([[114,111,99,107],[101,97,115,116],[112,105,101,114],[98,97,114],[99,97,112,101]]:List (List UInt8))).2=s4 at q4;generalize (zr s2 ([[114,111,99,107],[101,97,115,116],[112,105,101,114],[98,97,114],[99,97,112,101]]:List (List UInt8))).1=nm at hnm
 have hnm:zjc nm=true:=by
  have hs:∀ y∈([[114,111,99,107],[101,97,115,116],[112,105,101,114],[98,97,114],[99,97,112,101]]:List (List UInt8)),zjc y=true:=by decide +kernel
  exact hs nm hnm
 obtain⟨q6,hp⟩:=y6v q4 (by omega);generalize (zwb s4).2=s6 at q6;generalize (zwb s4).1=p at hp;have r3:=yq 500 q6 (by omega);have r32:=r3.2 (by omega);have q8:=q6.pick (m:=500) (by omega);generalize (za s6 500).2=s8 at q8;generalize (za s6 500).1=hh at r3 r32;have q10:=q8.one (m:=2) (by omega);generalize (zn s8 2).2=s10 at q10;have zm:zjd { Kind:=0,Colors:=[],Shape:=[],Topmark:=[]:Mark }=true:=by decide +kernel
 cases(zn s8 2).1 with
 | true=>
  rw[cond_true];have r4:=yq 9 q10 (by omega);have r42:=r4.2 (by omega);have q12:=q10.pick (m:=9) (by omega);have w2:IntKind.wrap .i64 ((za s10 9).1+1)=(za s10 9).1+1:=by rw[IntKind.wrap_i64];omega
  rw[w2];generalize (za s10 9).2=s12 at q12;have hm:=ydcb (k:=(za s10 9).1+1) (by omega) (by omega)
  cases((zff ((za s10 9).1+1)).2 == 0)with
  | true=>rw[cond_true];exact mono (yzi q12 (by omega) (by omega) (by omega) hnm hp r3.1 (by omega) hm) (by omega)
  | false=>rw[cond_false];exact mono (yzi q12 (by omega) (by omega) (by omega) hnm hp r3.1 (by omega) zm) (by omega)
 | false=>rw[cond_false];exact mono (yzi q10 (by omega) (by omega) (by omega) hnm hp r3.1 (by omega) zm) (by omega)
theorem SrcOk.aid {n:Int} {s:l00Src} (h:SrcOk n s) (hn:n<=900000):SrcOk (n+400) (zo s).2:=(y9v h hn).1
theorem yr1 {n:Int} {r:Aid×l00Src} (h:AidP n r):bdAid r.1:=by
 obtain⟨_,h1,⟨h2,h3,h4⟩,h5,_⟩:=h;have hr:=yke h1;have hm:=ywp hr.2.2.2.2.2.2.1;have hn:=yhp hr.2.2.1;have hs:=(ycg hr.2.2.2.2.2.2.2.2.1).2;refine⟨Nat.lt_of_le_of_lt hn (by decide),⟨Nat.lt_of_le_of_lt hm.2.2.1 (by decide),Nat.lt_of_le_of_lt hm.2.2.2.1 (by decide),Nat.lt_of_le_of_lt hm.2.2.2.2 (by decide)⟩,⟨Nat.lt_of_le_of_lt h2 (by decide),Nat.lt_of_le_of_lt h3 (by decide),Nat.lt_of_le_of_lt h4 (by decide)⟩,Nat.lt_of_le_of_lt h5 (by decide),fun v hv => ?_⟩;obtain⟨i,hi,e⟩:=List.getElem_of_mem hv;have:=(hs i).2.2.2.2;rw[List.getD_eq_getElem?_getD,List.getElem?_eq_getElem hi]at this;rw[<- e];exact Nat.lt_of_le_of_lt this (by decide)
theorem y5u (P:Aid->Prop) (l:List Aid) (a:Aid) (hl:l.length<9223372036854775807) (hv:∀ v∈l,P v) (ha:P a):(∀ v∈(zsc l a).1,P v)/\(zsc l a).1.length<=l.length+1:=by
 rw[yrq l a (by omega)]
 cases(decide (upto l a.Number<l.length) && ((l.getD (upto l a.Number) default).Number == a.Number))with
 | true=>exact⟨fun v hv=>by simp at hv,by simp⟩
 | false=>
  simp only[cond_false]
  cases((l.length:Int) == 24)with
  | true=>exact⟨fun v hv=>by simp at hv,by simp⟩
  | false=>
   simp only[cond_false,putA];refine⟨fun v h => ?_,by simp;omega⟩;simp only[List.mem_append,List.mem_singleton]at h;rcases h with(h|h)|h
   ·exact hv v (List.mem_of_mem_take h)
   ·subst h;exact ha
   ·exact hv v (List.mem_of_mem_drop h)
theorem ycab {α:Type} (P:α->Prop) (l:List α) (i:Nat) (a:α) (hv:∀ v∈l,P v) (ha:P a):∀ v∈l.set i a,P v:=fun v h=>by
 rcases List.mem_or_eq_of_mem_set h with h|h
 ·exact hv v h
 ·subst h;exact ha
theorem yy6 (P:Aid->Prop) (l:List Aid) (a:Aid) (hl:l.length<9223372036854775807) (hv:∀ v∈l,P v) (ha:P a):(∀ v∈(zbg l a).1,P v)/\(zbg l a).1.length<=25:=by
 unfold zbg
 cases hb:((!(zob l)) || (!(zfc a)))with
 | true=>exact⟨fun v hv=>by simp at hv,by simp⟩
 | false=>
  have hn:=yhd (a:=l) (by rw[Bool.or_eq_false_iff]at hb;simpa using hb.1);simp only[cond_false,ygc,ykg]
  cases(zab l a.Number).2 with
  | true=>exact⟨fun v hv=>by simp at hv,by simp⟩
  | false=>
   simp only[cond_false]
   cases((l.length:Int) == 24)with
   | true=>exact⟨fun v hv=>by simp at hv,by simp⟩
   | false=>
    simp only[cond_false,zsg];refine⟨fun v h => ?_,by simp;omega⟩;simp only[List.mem_append,List.mem_singleton]at h;rcases h with(h|h)|h
    ·exact hv v (List.mem_of_mem_take h)
    ·subst h;exact ha
    ·exact hv v (List.mem_of_mem_drop h)
theorem y80 (P:Aid->Prop) (l:List Aid) (a:Aid) (hv:∀ v∈l,P v) (ha:P a):(∀ v∈(zcg l a).1,P v)/\(zcg l a).1.length<=25:=by
 unfold zcg
 cases hb:((!(zob l)) || (!(zfc a)))with
 | true=>exact⟨fun v hv=>by simp at hv,by simp⟩
 | false=>
  have hn:=yhd (a:=l) (by rw[Bool.or_eq_false_iff]at hb;simpa using hb.1);simp only[cond_false,ygc,ykg]
  cases(!(zab l a.Number).2)with
  | true=>exact⟨fun v hv=>by simp at hv,by simp⟩
  | false=>
   simp only[cond_false];exact⟨ycab P _ _ _ hv ha,by simp;omega⟩
theorem ys0 (P:Aid->Prop) (l:List Aid) (n:Int) (hl:l.length<9223372036854775807) (hv:∀ v∈l,P v):(∀ v∈(zdg l n).1,P v)/\(zdg l n).1.length<=25:=by
 unfold zdg
 cases hb:(!(zob l))with
 | true=>exact⟨fun v hv=>by simp at hv,by simp⟩
 | false=>
  have hn:=yhd (a:=l) (by simpa using hb);simp only[cond_false,ygc];have hf:=ydm l n (by omega);have hw:IntKind.wrap .i64 ((zab l n).1+1)=(zab l n).1+1:=by rw[IntKind.wrap_i64];omega
  cases(!(zab l n).2)with
  | true=>exact⟨fun v hv=>by simp at hv,by simp⟩
  | false=>
   simp only[cond_false,ztg,hw];refine⟨fun v h => ?_,by simp;omega⟩;rcases List.mem_append.1 h with h|h
   ·exact hv v (List.mem_of_mem_take h)
   ·exact hv v (List.mem_of_mem_drop h)
def y6k (a0:l00Src) (q2:l00Src) (s1:Int×l00Src×List Aid):Except (Sum ((List Aid)×l00Src) (Int×l00Src×List Aid)) (Int×l00Src×List Aid):=
 (bif decide (0<s1.1)then(bnd ((zo s1.2.1).2) fun q6=>(bif (((zsc s1.2.2 ((zo s1.2.1).1)).2) == 0)then .ok (IntKind.wrap .i64 (s1.1-1),q6,(zsc s1.2.2 ((zo s1.2.1).1)).1)else .ok (IntKind.wrap .i64 (s1.1-1),q6,s1.2.2)))else .error (.inr (s1.1,s1.2.1,s1.2.2)))
def zld (a0:l00Src):(List Aid)×l00Src:=
 (bnd ((za a0 6).2) fun q2=>(match yeb (y6k a0 q2) (((((za a0 6).1)).toNat)+1) (((za a0 6).1),q2,([]:List Aid))with|.error (.inl e)=>e|.error (.inr s1)=>(s1.2.2,s1.2.1)|.ok _=>default))
namespace N19
theorem DD:DOk Tryz.prog (Go.Ab.DD [(45,dM [true,false] D_za),(46,dM [true] D_zo),(47,dP D_zsc)]):=ya yme.e <| ya yj0.e <| ya ys4.e <| yf _
abbrev dn:=cj @D_za.eq_1 <| cj @D_zo.eq_1 <| @D_zsc.eq_1
theorem o1 {p:Prop} (h:p:=by(first|(refine SrcOk.mono (by repeat' first|assumption|exact SrcOk.next ‹_› | apply SrcOk.next|apply SrcOk.pick|apply SrcOk.one|apply SrcOk.among|apply SrcOk.text|apply SrcOk.colors|apply SrcOk.point|apply SrcOk.chr|apply SrcOk.sectors|apply SrcOk.aid|apply SrcOk.aids|apply SrcOk.notice|omega) (by omega))|(exact SrcOk.mono hW1.2.2.1 (by omega)));first|done|fail):p:=h
set_option maxHeartbeats 2000000 in
set_option maxRecDepth 20000 in
theorem den (a0:l00Src) (hp0:SrcOk 400000 a0):DenM Tryz.prog 19 [.op (yu a0)] (ownL 37 16 eAid ((zld a0).1)) [(.op (yu ((zld a0).2)))]:=by
 generalize hR:zld a0=r;unfold zld at hR;refine dj (gb:=[true]) Tryz.func19 Tryz.ntmps19 Tryz.results19 ?_;intro c hL hc hk;obtain⟨hL0,_⟩:=hL;have hw0:bwl00Src a0:=ygb a0 hL0;clear hL0;simp only[adEL,adE,adRL,adR,ownL,encL,sv,List.nil_append,List.append_nil,List.cons_append,List.length_cons,List.length_nil,pars,Nat.zero_add,Nat.reduceAdd]at hk ⊢;have hpa:=fun(s:l00Src) (n:Int) (h:SrcOk n s) (hn:n<=900000)=>yr1 (y9v h hn)
 iterate 3 refine rS ?_
 generalize hq2:(za a0 6).2=q2 at hR ⊢;replace hR:=bn hR;have hS_q2:SrcOk (400002) q2:=by rw[<- hq2];exact SrcOk.pick hp0 (by omega)
 refine AWP.block ?_;generalize hz1:yeb (y6k a0 q2) (((((za a0 6).1)).toNat)+1) (((za a0 6).1),q2,([]:List Aid))=z1 at hR;refine AWP.whileW (y6k a0 q2) (fun s1=>⟨[(0,.ptr 0 0),(3,.ref 1 16 0 s1.2.2.length),(4,.int .i64 s1.1)],[.box [encL 1 eIu8 s1.2.1.code,.int .i64 s1.2.1.at_,.int .u64 s1.2.1.seed],.arr 37 16 s1.2.2.length (fun j=>y4b (s1.2.2.getD j default))]⟩) (fun s1=>0<=s1.1/\s1.1<=5/\SrcOk (400040+500 * (5-s1.1)) s1.2.1/\s1.2.2.length<=(5-s1.1).toNat/\∀ v∈s1.2.2,bdAid v) (fun s1=>(s1.1).toNat) (((((za a0 6).1)).toNat)+1) (((za a0 6).1),q2,([]:List Aid)) [0,1] hz1 m0 (by(have h2:=yq 6 hp0 (by omega);have h3:=h2.2 (by omega);exact⟨h2.1,by omega,SrcOk.mono (by assumption) (by omega),by simp,by simp⟩)) sm ?_;clear hz1;intro s1 k1 hW1 hm1 hz1;simp only[y6k]at hz1;refine rS ?_;refine AWP.cond rfl (fun hb => ?_) (fun hb => ?_)
 ·simp only[hb,cond_true]at hz1
  refine rS ?_;generalize hq6:(zo s1.2.1).2=q6 at hz1 ⊢;rw[bndv q6]at hz1;have hS_q6:SrcOk (400040+500 * (5-s1.1)+400) q6:=by rw[<- hq6];exact SrcOk.aid hW1.2.2.1 (by omega)
  iterate 2 refine rS ?_
  refine AWP.cond rfl (fun hb => ?_) (fun hb => ?_)
  ·simp only[hb,cond_true]at hz1
   iterate 2 refine rS ?_
   clear hR;exact⟨_,[0,3],by(have hpos:0<s1.1:=of_decide_eq_true (by assumption);have hwr:IntKind.wrap .i64 (s1.1-1)=s1.1-1:=(by rw[IntKind.wrap_i64];omega);(try dsimp only);rw[hwr];omega),by(have hpos:0<s1.1:=of_decide_eq_true (by assumption);have hwr:IntKind.wrap .i64 (s1.1-1)=s1.1-1:=(by rw[IntKind.wrap_i64];omega);(try dsimp only);rw[hwr];have hG:=hW1.2.2.2.1;have hA:=hpa s1.2.1 _ hW1.2.2.1 (by omega);have hP:=y5u bdAid s1.2.2 (zo s1.2.1).1 (by omega) hW1.2.2.2.2 hA;exact⟨by omega,by omega,SrcOk.mono (by assumption) (by omega),by omega,by first|exact hP.1|exact hW1.2.2.2.2⟩),hz1,sm⟩
  ·simp only[hb,cond_false]at hz1
   refine rS ?_;clear hR;exact⟨_,[0,1],by(have hpos:0<s1.1:=of_decide_eq_true (by assumption);have hwr:IntKind.wrap .i64 (s1.1-1)=s1.1-1:=(by rw[IntKind.wrap_i64];omega);(try dsimp only);rw[hwr];omega),by(have hpos:0<s1.1:=of_decide_eq_true (by assumption);have hwr:IntKind.wrap .i64 (s1.1-1)=s1.1-1:=(by rw[IntKind.wrap_i64];omega);(try dsimp only);rw[hwr];have hG:=hW1.2.2.2.1;have hA:=hpa s1.2.1 _ hW1.2.2.1 (by omega);have hP:=y5u bdAid s1.2.2 (zo s1.2.1).1 (by omega) hW1.2.2.2.2 hA;exact⟨by omega,by omega,SrcOk.mono (by assumption) (by omega),by omega,by first|exact hP.1|exact hW1.2.2.2.2⟩),hz1,sm⟩
 ·simp only[hb,cond_false]at hz1
  refine AWP.exit ?_;refine yd ?_;subst hz1;dsimp only at hR;refine rS ?_;refine AWP.lendE 1 (fun j=>eAid (s1.2.2.getD j default)) rfl le1 ?_;simp only[setE];refine AWP.ret ?_;subst hR;exact es
end N19
def D_zld : List AV -> Option (AV × List AV × List Prop)
 | [x0]=>some (ownL 37 16 eAid ((zld (rdQ yw x0)).1),[(.op (yu ((zld (rdQ yw x0)).2)))],[wQ yu yw x0,SrcOk 400000 (rdQ yw x0)])
 | _=>none
theorem yn3:OkM Tryz.prog 19 D_zld:=by unfold D_zld;exact dm N19.den
end Go.Ab
