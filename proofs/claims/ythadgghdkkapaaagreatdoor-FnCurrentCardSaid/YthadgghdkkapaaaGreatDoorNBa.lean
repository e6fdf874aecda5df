/- A part of a proof: walks of functions and lemmas of our own. No conditions. -/
import Derived.Test.YthadgghdkkapaaaGreatDoorNAl
import Derived.Test.YthadgghdkkapaaaGreatDoorNAm
import Derived.Test.YthadgghdkkapaaaGreatDoorNAw
import Derived.Test.YthadgghdkkapaaaGreatDoorNAz
import Derived.Test.YthadgghdkkapaaaGreatDoorNAs
import Derived.Test.YthadgghdkkapaaaGreatDoorNAn
import Derived.Test.YthadgghdkkapaaaGreatDoorNAv
import Derived.Test.YthadgghdkkapaaaGreatDoorNAo
import Derived.Test.YthadgghdkkapaaaGreatDoorNAt
import Derived.Test.YthadgghdkkapaaaGreatDoorNAq
import Derived.Test.YthadgghdkkapaaaGreatDoorNAk
import Derived.Test.YthadgghdkkapaaaGreatDoorNAp
import Derived.Test.YthadgghdkkapaaaGreatDoorNAr
set_option linter.unusedSectionVars false
set_option linter.unusedVariables false
set_option linter.unusedSimpArgs false
set_option maxHeartbeats 1000000
namespace Go.Ab
open Go Go.Proofs
def yti (a0:l00Src) (a1:(List Aid)) (q2:l00Src) (s1:List Notice×Int×l00Src):Except (Sum ((List Notice)×l00Src) (List Notice×Int×l00Src)) (List Notice×Int×l00Src):=
 (bif decide (0<s1.2.1)then(bnd ((zfc s1.2.2 s1.1 a1).2) fun q6=>(bif (((zzc s1.1 ((zfc s1.2.2 s1.1 a1).1)).2) == 0)then .ok ((zzc s1.1 ((zfc s1.2.2 s1.1 a1).1)).1,IntKind.wrap .i64 (s1.2.1-1),q6)else .ok (s1.1,IntKind.wrap .i64 (s1.2.1-1),q6)))else .error (.inr (s1.1,s1.2.1,s1.2.2)))
def zgc (a0:l00Src) (a1:(List Aid)):(List Notice)×l00Src:=
 (bnd ((za a0 6).2) fun q2=>(match yqb (yti a0 a1 q2) (((((za a0 6).1)).toNat)+1) (([]:List Notice),((za a0 6).1),q2)with|.error (.inl e)=>e|.error (.inr s1)=>(s1.1,s1.2.2)|.ok _=>default))
namespace N86
theorem DD:DOk Tryz.prog (Go.Ab.DD [(139,dP D_zzc),(140,dM [true,false,false] D_zfc),(95,dM [true,false] D_za)]):=ya ylw.e <| ya ydv.e <| ya ybd.e <| ye _
theorem dn:type_of% (And.intro @D_zzc.eq_1 <| And.intro @D_zfc.eq_1 <| @D_za.eq_1):=by and_intros<;>intros<;>rfl
theorem o1 {p:Prop} (h:p:=by(first|(refine SrcOk.mono (by repeat' first|assumption|exact SrcOk.next ‹_› | apply SrcOk.next|apply SrcOk.pick|apply SrcOk.one|apply SrcOk.among|apply SrcOk.text|apply SrcOk.colors|apply SrcOk.point|apply SrcOk.chr|apply SrcOk.sectors|apply SrcOk.aid|apply SrcOk.aids|apply SrcOk.notice|omega) (by omega))|(exact SrcOk.mono hW1.2.2.1 (by omega)));first|done|fail):p:=h
set_option maxHeartbeats 2000000 in
set_option maxRecDepth 20000 in
theorem den (a0:l00Src) (a1:(List Aid)) (hp0:SrcOk 300000 a0):DenM Tryz.prog 86 [.op (yr a0),encL 16 eAid a1] (encL 20 yf ((zgc a0 a1).1)) [(.op (yr ((zgc a0 a1).2))),.any]:=by
 generalize hR:zgc a0 a1=r;unfold zgc at hR;refine dj (gb:=[true,false]) Tryz.func86 Tryz.ntmps86 Tryz.results86 ?_;intro c hL hc hk;obtain⟨hL0,hL1,_⟩:=hL;have hw0:bwl00Src a0:=ybb a0 hL0;have hw1:a1.length<9223372036854775808:=Nat.lt_succ_of_le (yb hL1).1;have hw2:∀ v∈a1,bwAid v:=fun v hv=>yy v ((yb hL1).2 v hv)
 clear hL0 hL1;simp only[adEL,adE,adRL,adR,ownL,encL,sv,List.nil_append,List.append_nil,List.cons_append,List.length_cons,List.length_nil,pars,Nat.zero_add,Nat.reduceAdd]at hk ⊢;have hpn:=fun(s:l00Src) (n:Int) (l:List Notice) (e:List Aid) (h:SrcOk n s) (hn:n<=400000) (hl:l.length<1000000)=>(ybz (l:=l) (e:=e) h hn hl).2
 iterate 2 refine rS ?_
 refine AWP.lendV 5 1 (fun j=>yf (([]:List Notice).getD j default)) rfl rfl (Nat.le_refl _) lv1 lv2 ?_;simp only[setE];refine rS ?_;generalize hq2:(za a0 6).2=q2 at hR ⊢;replace hR:=bn hR;have hS_q2:SrcOk (300002) q2:=by rw[<- hq2];exact SrcOk.pick hp0 (by omega)
 refine AWP.block ?_;generalize hz1:yqb (yti a0 a1 q2) (((((za a0 6).1)).toNat)+1) (([]:List Notice),((za a0 6).1),q2)=z1 at hR;refine AWP.whileW (yti a0 a1 q2) (fun s1=>⟨[(0,.ptr 0 0),(1,encL 16 eAid a1),(5,encL 20 yf s1.1),(6,.int .i64 s1.2.1)],[.box [encL 1 eIu8 s1.2.2.code,.int .i64 s1.2.2.at_,.int .u64 s1.2.2.seed]]⟩) (fun s1=>0<=s1.2.1/\s1.2.1<=5/\SrcOk (300040+2000 * (5-s1.2.1)) s1.2.2/\s1.1.length<=(5-s1.2.1).toNat/\∀ v∈s1.1,bdNotice v) (fun s1=>(s1.2.1).toNat) (((((za a0 6).1)).toNat)+1) (([]:List Notice),((za a0 6).1),q2) [0] hz1 m0 (by(have h2:=yj 6 hp0 (by omega);have h3:=h2.2 (by omega);refine⟨h2.1,by(try dsimp only);omega,SrcOk.mono (by assumption) (by(try dsimp only);omega),by simp,by simp⟩)) sm ?_;clear hz1;intro s1 k1 hW1 hm1 hz1;simp only[yti]at hz1;refine rS ?_;refine AWP.cond rfl (fun hb => ?_) (fun hb => ?_)
 ·simp only[hb,cond_true]at hz1
  refine rS ?_;refine AWP.lendV 7 1 (fun j=>yf (((zzc s1.1 ((zfc s1.2.2 s1.1 a1).1)).1).getD j default)) rfl rfl (Nat.le_refl _) lv1 lv2 ?_;simp only[setE];generalize hq6:(zfc s1.2.2 s1.1 a1).2=q6 at hz1 ⊢;rw[bndv q6]at hz1;have hS_q6:SrcOk (300040+2000 * (5-s1.2.1)+1000) q6:=by rw[<- hq6];exact SrcOk.notice hW1.2.2.1 (by omega)
  refine rS ?_;refine AWP.cond rfl (fun hb => ?_) (fun hb => ?_)
  ·simp only[hb,cond_true]at hz1
   iterate 2 refine rS ?_
   clear hR;exact⟨_,[0],by(have hpos:0<s1.2.1:=of_decide_eq_true (by assumption);have hwr:IntKind.wrap .i64 (s1.2.1-1)=s1.2.1-1:=(by rw[IntKind.wrap_i64];omega);(try dsimp only);rw[hwr];omega),by(have hpos:0<s1.2.1:=of_decide_eq_true (by assumption);have hwr:IntKind.wrap .i64 (s1.2.1-1)=s1.2.1-1:=(by rw[IntKind.wrap_i64];omega);(try dsimp only);rw[hwr];have hG:=hW1.2.2.2.1;have hA:=hpn s1.2.2 _ s1.1 a1 hW1.2.2.1 (by omega) (by omega);have hP:=y01 s1.1 _ hW1.2.2.2.2 hA;exact⟨by omega,by omega,SrcOk.mono (by assumption) (by omega),by omega,by first|exact hP.1|exact hW1.2.2.2.2⟩),hz1,sm⟩
  ·simp only[hb,cond_false]at hz1
   refine rS ?_;clear hR;exact⟨_,[0],by(have hpos:0<s1.2.1:=of_decide_eq_true (by assumption);have hwr:IntKind.wrap .i64 (s1.2.1-1)=s1.2.1-1:=(by rw[IntKind.wrap_i64];omega);(try dsimp only);rw[hwr];omega),by(have hpos:0<s1.2.1:=of_decide_eq_true (by assumption);have hwr:IntKind.wrap .i64 (s1.2.1-1)=s1.2.1-1:=(by rw[IntKind.wrap_i64];omega);(try dsimp only);rw[hwr];have hG:=hW1.2.2.2.1;have hA:=hpn s1.2.2 _ s1.1 a1 hW1.2.2.1 (by omega) (by omega);have hP:=y01 s1.1 _ hW1.2.2.2.2 hA;exact⟨by omega,by omega,SrcOk.mono (by assumption) (by omega),by omega,by first|exact hP.1|exact hW1.2.2.2.2⟩),hz1,sm⟩
 ·simp only[hb,cond_false]at hz1
  refine AWP.exit ?_;refine yd ?_;subst hz1;dsimp only at hR;refine rS ?_;refine AWP.ret ?_;subst hR;exact es
end N86
def D_zgc : List AV -> Option (AV × List AV × List Prop)
 | [x0,x1]=>some (encL 20 yf ((zgc (rdQ yt x0) (rdL dAid x1)).1),[(.op (yr ((zgc (rdQ yt x0) (rdL dAid x1)).2))),.any],[wQ yr yt x0,wL 16 eAid dAid x1,SrcOk 300000 (rdQ yt x0)])
 | _=>none
theorem ynx:OkM Tryz.prog 86 D_zgc:=by unfold D_zgc;exact dm N86.den
structure NtsP (l:List Notice):Prop where
 ok:zcb l=true
 q:∀ v∈l,AidQ v.Aid
 d:∀ v∈l,100<=v.Day/\v.Day<=99999
theorem NtsP.nil:NtsP []:=⟨ytu,fun v h=>absurd h (by simp),fun v h=>absurd h (by simp)⟩
structure NtsI (N:Int) (s:List Notice×Int×l00Src):Prop where
 a:0<=s.2.1
 b:s.2.1<=5
 q:SrcOk (N+1000 * (5-s.2.1)) s.2.2
 l:(s.1.length:Int)<=5-s.2.1
 p:NtsP s.1
theorem yky {N:Int} (a0 q2:l00Src) (e:List Aid) (hN:N<=300010) (k:Nat) (s:List Notice×Int×l00Src) (h:NtsI N s) (hk:s.2.1.toNat<k):∃ t,yqb (yti a0 e q2) k s=.error (.inr t)/\NtsI N t:=by
 obtain⟨e,h1,t,rfl,h2⟩:=y6d (b:=yti a0 e q2) (NtsI N) (fun e=>∃ t,e=.inr t/\NtsI N t) (fun s=>s.2.1.toNat) (fun s h=>by
  obtain⟨l,k,q⟩:=s;obtain⟨ha,hb,hq,hl,hp⟩:=h;simp only at ha hb hq hl;unfold yti;simp only;by_cases hc:0<k
  ·rw[decide_eq_true hc,cond_true]
   left
   have hn:=y5o (l:=l) (e:=e) hq (by omega) (by omega);obtain⟨n1,n2,n3⟩:=hn;have hw:IntKind.wrap .i64 (k-1)=k-1:=by rw[IntKind.wrap_i64];omega
   simp only[bnd,hw];generalize (zfc q l e).2=q2 at n1;generalize (zfc q l e).1=n at n2 n3 ⊢;have hS:SrcOk (N+1000 * (5-(k-1))) q2:=n1.mono (by omega);rcases y8i l n with⟨_,h2⟩|⟨h2,h3,h4,h5,h6,h7⟩
   ·have:((zzc l n).2 == 0)=false:=by rw[beq_eq_false_iff_ne];exact h2
    rw[this,cond_false];exact⟨_,rfl,⟨by show 0<=k-1;omega,by show k-1<=5;omega,hS,by show(l.length:Int)<=5-(k-1);omega,hp⟩,by show(k-1).toNat<k.toNat;omega⟩
   ·rw[h2]
    have hD:100<=n.Day:=n3 hp.d;have hD2:=yns h4;refine⟨_,rfl,⟨by show 0<=k-1;omega,by show k-1<=5;omega,hS,by show((l++[n]).length:Int)<=5-(k-1);rw[List.length_append,List.length_singleton];omega,⟨ysr h3 h4 h5 h6 h7,fun v hv => ?_,fun v hv => ?_⟩⟩,by show(k-1).toNat<k.toNat;omega⟩
    ·rcases List.mem_append.1 hv with h|h
     ·exact hp.q v h
     ·rw[List.mem_singleton]at h;subst h;exact n2
    ·rcases List.mem_append.1 hv with h|h
     ·exact hp.d v h
     ·rw[List.mem_singleton]at h;subst h;exact⟨hD,hD2⟩
  ·rw[decide_eq_false hc,cond_false]
   exact .inr ⟨_,rfl,_,rfl,⟨ha,hb,hq,hl,hp⟩⟩) k s h hk
 exact⟨t,h1,h2⟩
theorem ym1 {n:Int} {s:l00Src} {e:List Aid} (h:SrcOk n s) (hn:n<=300000):SrcOk (n+6000) (zgc s e).2/\NtsP (zgc s e).1/\(zgc s e).1.length<=5:=by
 have hr:=yj 6 h (by omega);have hr2:=hr.2 (by omega);have hq:=h.pick (m:=6) (by omega);unfold zgc;simp only[bnd];obtain⟨t,e1,e2⟩:=yky (N:=n+2) s (za s 6).2 e (by omega) (((za s 6).1).toNat+1) (([]:List Notice),(za s 6).1,(za s 6).2) ⟨hr.1,by show(za s 6).1<=5;omega,hq.mono (by show _<=n+2+1000 * (5-(za s 6).1);omega),by show((0:Nat):Int)<=5-(za s 6).1;omega,NtsP.nil⟩ (by show((za s 6).1).toNat<_;omega);rw[e1];have ha:=e2.a;have hl:=e2.l;exact⟨e2.q.mono (by omega),e2.p,by show t.1.length<=5;omega⟩
theorem ylu (l:List Aid) (a:Aid) (hl:l.length<9223372036854775807) (hv:∀ v∈l,aidL v) (ha:aidL a):zlc l a=bif ((!(zsb l)) || (!(zeb a)))then([],1)else(bif (hasN l a.Number)then([],4)else(bif ((l.length:Int) == 24)then([],5)else(putA l a,0))):=by
 unfold zlc;rw[ymc l hv,yqd a ha.1 ha.2,yyi l _ (by omega)];simp only[y6,yod,zoe,Int.toNat_natCast,putA]
theorem yhs (l:List Aid) (b:Aid) (hl:l.length<9223372036854775807) (hv:∀ v∈l,aidL v) (hb:aidL b):zhd l b=bif ((!(zsb l)) || (!(zeb b)))then([],1)else(bif (!(hasN l b.Number))then([],3)else(l.set (upto l b.Number) b,0)):=by
 unfold zhd;rw[ymc l hv,yqd b hb.1 hb.2,yyi l _ (by omega)];simp only[y6,yod,Int.toNat_natCast]
theorem yzr (l:List Aid) (n:Int) (hl:l.length<9223372036854775807) (hv:∀ v∈l,aidL v):zid l n=bif (!(zsb l))then([],1)else(bif (!(hasN l n))then([],3)else(l.take (upto l n)++l.drop (upto l n+1),0)):=by
 unfold zid;have hu:=ywk l n;have hw:(IntKind.wrap .i64 ((upto l n:Int)+1)).toNat=upto l n+1:=by rw[IntKind.wrap_i64];omega
 rw[ymc l hv,yyi l _ (by omega)];simp only[y6,zpe,Int.toNat_natCast,hw]
theorem yr0 (P:Aid->Prop) {l:List Aid} {a:Aid} (hl:okP P l) (ha:zeb a=true/\P a) (hn:hasN l a.Number=true):okP P (l.set (upto l a.Number) a):=by
 have hl':=hl.1.2.2;obtain⟨hu,hnum⟩:=yf0 hn
 have hmem:∀ v,v∈l.set (upto l a.Number) a->v∈l\/v=a:=fun v hv=>by
  rcases List.mem_or_eq_of_mem_set hv with h|h
  ·exact .inl h
  ·exact .inr h
 have hN:∀ j,((l.set (upto l a.Number) a).getD j default).Number=(l.getD j default).Number:=by
  intro j;by_cases hj:j=upto l a.Number
  ·subst hj
   rw[hnum,List.getD_eq_getElem?_getD,List.getElem?_set_self hu];rfl
  ·rw[List.getD_eq_getElem?_getD,List.getElem?_set_ne (by omega), <- List.getD_eq_getElem?_getD]
 refine⟨⟨fun v hv => ?_,?_,by simpa using hl'⟩,fun v hv => ?_⟩
 ·rcases hmem v hv with h|rfl
  ·exact hl.1.1 v h
  ·exact ha.1
 ·rw[yhz ltA y7l]
  intro j hj;unfold ltA;rw[hN,hN];exact yst hl.1.2.1 (by omega) (by simpa using hj)
 ·rcases hmem v hv with h|rfl
  ·exact hl.2 v h
  ·exact ha.2
theorem ym0 (P:Aid->Prop) {l:List Aid} {n:Int} (hl:okP P l) (hn:hasN l n=true):okP P (l.take (upto l n)++l.drop (upto l n+1)):=by
 have hl':=hl.1.2.2
 have hsub:(l.take (upto l n)++l.drop (upto l n+1)).Sublist l:=by
  have h0:l.take (upto l n)++l.drop (upto l n)=l:=List.take_append_drop _ _;conv=>rhs;rw[<- h0]
  refine List.Sublist.append (List.Sublist.refl _) ?_;rw[<- List.drop_drop];exact List.drop_sublist _ _
 refine⟨⟨fun v hv=>hl.1.1 v (hsub.subset hv),hl.1.2.1.sublist hsub,?_⟩,fun v hv=>hl.2 v (hsub.subset hv)⟩;have:=hsub.length_le;omega
theorem ymv (P:Aid->Prop) {l:List Aid} {a:Aid} (hl:okP P l) (ha:zeb a=true/\P a) (hn:hasN l a.Number=false) (h24:((l.length:Int) == 24)=false):okP P (putA l a):=by
 refine yvu P hl ha ?_;have:=hl.1.2.2;rw[yuh l a (by omega)];change (bif hasN l a.Number then _ else _)=_
 rw[hn,cond_false,h24,cond_false]
theorem yks (P:Aid->Prop) {l:List Aid} {a:Aid} (hl:l.length<=1000) (hv:∀ v∈l,aidL v) (ha:aidL a):(zlc l a).1=[]/\(zlc l a).2≠0\/okA l/\zeb a=true/\hasN l a.Number=false/\zlc l a=(putA l a,0)/\((l.length:Int) == 24)=false:=by
 rw[ylu l a (by omega) hv ha]
 cases h1:zsb l with
 | false=>left;exact⟨rfl,by simp⟩
 | true=>
  cases h2:zeb a with
  | false=>left;exact⟨rfl,by simp⟩
  | true=>
   cases h3:hasN l a.Number with
   | true=>left;exact⟨rfl,by simp⟩
   | false=>
    cases h4:((l.length:Int) == 24)with
    | true=>left;exact⟨rfl,by simp⟩
    | false=>right;exact⟨(y8f l).1 h1,rfl,rfl,rfl,rfl⟩
theorem y9x (P:Aid->Prop) {l:List Aid} {a:Aid} (hl:okP P l) (hL:∀ v,P v->aidL v) (ha:P a) (h:(zlc l a).2=0):okP P (zlc l a).1:=by
 have h24:=hl.1.2.2;rcases yks P (l:=l) (a:=a) (by omega) (fun v h=>hL v (hl.2 v h)) (hL a ha)with⟨_,h2⟩|⟨_,h2,h3,h4,h5⟩
 ·exact absurd h h2
 ·rw[h4];exact ymv P hl ⟨h2,ha⟩ h3 h5
theorem ykt (P:Aid->Prop) {l:List Aid} {a:Aid} (hl:okP P l) (hL:∀ v,P v->aidL v) (ha:P a) (h:(zhd l a).2=0):okP P (zhd l a).1:=by
 have h24:=hl.1.2.2;rw[yhs l a (by omega) (fun v h=>hL v (hl.2 v h)) (hL a ha)]at h ⊢;rw[(y8f l).2 hl.1]at h ⊢
 cases h2:zeb a with
 | false=>rw[h2]at h;cases h
 | true=>
  cases h3:hasN l a.Number with
  | false=>rw[h2,h3]at h;cases h
  | true=>exact yr0 P hl ⟨h2,ha⟩ h3
theorem ybu (P:Aid->Prop) {l:List Aid} {n:Int} (hl:okP P l) (hL:∀ v,P v->aidL v) (h:(zid l n).2=0):okP P (zid l n).1:=by
 have h24:=hl.1.2.2;rw[yzr l n (by omega) (fun v h=>hL v (hl.2 v h))]at h ⊢;rw[(y8f l).2 hl.1]at h ⊢
 cases h3:hasN l n with
 | false=>rw[h3]at h;cases h
 | true=>exact ym0 P hl h3
def zyd (a0:(List Int)) (a1:Int) (a2:Int):Int:=
 (bif (decide (a2<=1) || decide ((a0.length:Int)<=a1))then 0 else(IntKind.wrap .i64 (a0.getD ((a1).toNat) default)).tmod a2)
namespace N87
theorem DD:DOk Tryz.prog (Go.Ab.DD []):=ye _
theorem den (a0:(List Int)) (a1:Int) (a2:Int) (hp0:0<=a1):Den Tryz.prog 87 [encL 1 eIu8 a0,.int .i64 a1,.int .i64 a2] (.int .i64 (zyd a0 a1 a2)):=by
 generalize hR:zyd a0 a1 a2=r;unfold zyd at hR;refine di Tryz.func87 Tryz.ntmps87 Tryz.results87 ?_;intro c hL hc hk;obtain⟨hL0,hL1,hL2,_⟩:=hL;have hw0:a0.length<9223372036854775808:=Nat.lt_succ_of_le (yb hL0).1;clear hL0 hL1 hL2;simp only[pars,Nat.zero_add];iterate 2 refine rS ?_
 refine AWP.cond rfl (fun hb => ?_) (fun hb => ?_)
 ·replace hR:=ct hR
  refine rS ?_;refine AWP.ret ?_;subst hR;exact es
 ·replace hR:=cf hR
  refine rS ?_;refine AWP.ret ?_;subst hR;exact es
end N87
def D_zyd : DF
 | [x0,x1,x2]=>some (.int .i64 (zyd (rdL dIu8 x0) (rdI x1) (rdI x2)),false,[wL 1 eIu8 dIu8 x0,wI .i64 x1,wI .i64 x2,0<=(rdI x1)])
 | _=>none
theorem yby:OkD Tryz.prog 87 D_zyd:=by unfold D_zyd;exact dk N87.den
def zbb (a0:(List Int)) (a1:Int) (a2:Int):Int:=
 (IntKind.wrap .i64 ((IntKind.wrap .i64 (256 * (zyd a0 a1 256)))+(zyd a0 (IntKind.wrap .i64 (a1+1)) 256))).tmod a2
namespace N35
theorem DD:DOk Tryz.prog (Go.Ab.DD [(87,dP D_zyd)]):=ya yby.e <| ye _
theorem dn:type_of% (@D_zyd.eq_1):=by and_intros<;>intros<;>rfl
theorem o1 {p:Prop} (h:p:=by(first|(rw[IntKind.wrap_i64];omega));first|done|fail):p:=h
theorem den (a0:(List Int)) (a1:Int) (a2:Int) (hp0:0<=a1) (hp1:a1<1000000) (hp2:1<=a2):Den Tryz.prog 35 [encL 1 eIu8 a0,.int .i64 a1,.int .i64 a2] (.int .i64 (zbb a0 a1 a2)):=by
 generalize hR:zbb a0 a1 a2=r;unfold zbb at hR;refine di Tryz.func35 Tryz.ntmps35 Tryz.results35 ?_;intro c hL hc hk;obtain⟨hL0,hL1,hL2,_⟩:=hL;have hw0:a0.length<9223372036854775808:=Nat.lt_succ_of_le (yb hL0).1;clear hL0 hL1 hL2;simp only[pars,Nat.zero_add];iterate 2 refine rS ?_
 refine AWP.ret ?_;subst hR;exact es
end N35
def D_zbb : DF
 | [x0,x1,x2]=>some (.int .i64 (zbb (rdL dIu8 x0) (rdI x1) (rdI x2)),false,[wL 1 eIu8 dIu8 x0,wI .i64 x1,wI .i64 x2,0<=(rdI x1),(rdI x1)<1000000,1<=(rdI x2)])
 | _=>none
theorem y2v:OkD Tryz.prog 35 D_zbb:=by unfold D_zbb;exact dk N35.den
theorem y3m (a:List Int) (h:∀ v∈a,0<=v/\v<=255) (i n:Int) (h0:0<=i) (hn:1<=n):0<=zyd a i n/\zyd a i n<n:=by
 unfold zyd
 cases hb:(decide (n<=1) || decide ((a.length:Int)<=i))with
 | true=>simp only[cond_true];omega
 | false=>
  simp only[cond_false]
  have hx:0<=a.getD i.toNat default/\a.getD i.toNat default<=255:=by
   rw[List.getD_eq_getElem?_getD]
   cases hg:a[i.toNat]? with
   | none=>exact⟨Int.le_refl _,by decide⟩
   | some x=>exact h x (List.mem_of_getElem? hg)
  have hw:IntKind.wrap .i64 (a.getD i.toNat default)=a.getD i.toNat default:=by rw[IntKind.wrap_i64];omega
  rw[hw];exact⟨Int.tmod_nonneg _ hx.1,Int.tmod_lt_of_pos _ (by omega)⟩
theorem yvh (a:List Int) (h:∀ v∈a,0<=v/\v<=255) (k n:Int) (h0:0<=k) (h1:k<=1000000) (hn:1<=n):0<=zbb a k n/\zbb a k n<n:=by
 have h1:=y3m a h k 256 (by omega) (by omega);have h2:=y3m a h (IntKind.wrap .i64 (k+1)) 256 (by rw[IntKind.wrap_i64];omega) (by omega);unfold zbb
 have hw:IntKind.wrap .i64 ((IntKind.wrap .i64 (256 * (zyd a k 256)))+(zyd a (IntKind.wrap .i64 (k+1)) 256))=256 * (zyd a k 256)+(zyd a (IntKind.wrap .i64 (k+1)) 256):=by
  rw[IntKind.wrap_i64,IntKind.wrap_i64 (256 * _)];omega
 rw[hw];exact⟨Int.tmod_nonneg _ (by omega),Int.tmod_lt_of_pos _ (by omega)⟩
def zxf (a0:(List Aid)):Bool:=
 (zsb a0)
namespace N42
theorem DD:DOk Tryz.prog (Go.Ab.DD [(80,dP D_zsb)]):=ya y1w.e <| ye _
theorem dn:type_of% (@D_zsb.eq_1):=by and_intros<;>intros<;>rfl
theorem gr {p:Prop} (h:p:=by(grind [ymu]);first|done|fail):p:=h
theorem den (a0:(List Aid)) (hb0:a0.length<1099511627776) (hb1:∀ v∈a0,bdAid v):Den Tryz.prog 42 [encL 16 eAid a0] (.bool (zxf a0)):=by
 generalize hR:zxf a0=r;unfold zxf at hR;refine di Tryz.func42 Tryz.ntmps42 Tryz.results42 ?_;intro c hL hc hk;obtain⟨hL0,_⟩:=hL;have hw0:a0.length<9223372036854775808:=Nat.lt_succ_of_le (yb hL0).1;have hw1:∀ v∈a0,bwAid v:=fun v hv=>yy v ((yb hL0).2 v hv)
 clear hL0;simp only[pars,Nat.zero_add];iterate 2 refine rS ?_
 refine AWP.ret ?_;subst hR;exact es
end N42
def D_zxf : DF
 | [x0]=>some (.bool (zxf (rdL dAid x0)),false,[wL 16 eAid dAid x0,(rdL dAid x0).length<1099511627776,∀ v∈(rdL dAid x0),bdAid v])
 | _=>none
theorem yuw:OkD Tryz.prog 42 D_zxf:=by unfold D_zxf;exact dk N42.den
def zn (a0:(List Int)):(List Aid):=
 ((zec (zie a0)).1)
namespace N33
theorem DD:DOk Tryz.prog (Go.Ab.DD [(43,dP D_zie),(85,dM [true] D_zec)]):=ya yyp.e <| ya y9w.e <| ye _
theorem dn:type_of% (And.intro @D_zie.eq_1 <| @D_zec.eq_1):=by and_intros<;>intros<;>rfl
theorem o1 {p:Prop} (h:p:=by(first|(exact⟨Int.le_refl _,by show(0:Int)<=400000;omega,hp0⟩));first|done|fail):p:=h
theorem den (a0:(List Int)) (hp0:∀ v∈a0,0<=v/\v<=255):Den Tryz.prog 33 [encL 1 eIu8 a0] (ownL 45 16 eAid (zn a0)):=by
 generalize hR:zn a0=r;unfold zn at hR;refine di Tryz.func33 Tryz.ntmps33 Tryz.results33 ?_;intro c hL hc hk;obtain⟨hL0,_⟩:=hL;have hw0:a0.length<9223372036854775808:=Nat.lt_succ_of_le (yb hL0).1;clear hL0;simp only[pars,Nat.zero_add];iterate 3 refine rS ?_
 refine AWP.ret ?_;subst hR;exact es
end N33
def D_zn : DF
 | [x0]=>some (ownL 45 16 eAid (zn (rdL dIu8 x0)),false,[wL 1 eIu8 dIu8 x0,∀ v∈(rdL dIu8 x0),0<=v/\v<=255])
 | _=>none
theorem y10:OkD Tryz.prog 33 D_zn:=by unfold D_zn;exact dk N33.den
def zgb (a0:(List Int)) (a1:(List Aid)):(List Notice):=
 ((zgc (zie a0) a1).1)
namespace N34
theorem DD:DOk Tryz.prog (Go.Ab.DD [(43,dP D_zie),(86,dM [true,false] D_zgc)]):=ya yyp.e <| ya ynx.e <| ye _
theorem dn:type_of% (And.intro @D_zie.eq_1 <| @D_zgc.eq_1):=by and_intros<;>intros<;>rfl
theorem o1 {p:Prop} (h:p:=by(first|(exact⟨Int.le_refl _,by show(0:Int)<=300000;omega,hp0⟩));first|done|fail):p:=h
theorem den (a0:(List Int)) (a1:(List Aid)) (hp0:∀ v∈a0,0<=v/\v<=255):Den Tryz.prog 34 [encL 1 eIu8 a0,encL 16 eAid a1] (encL 20 yf (zgb a0 a1)):=by
 generalize hR:zgb a0 a1=r;unfold zgb at hR;refine di Tryz.func34 Tryz.ntmps34 Tryz.results34 ?_;intro c hL hc hk;obtain⟨hL0,hL1,_⟩:=hL;have hw0:a0.length<9223372036854775808:=Nat.lt_succ_of_le (yb hL0).1;have hw1:a1.length<9223372036854775808:=Nat.lt_succ_of_le (yb hL1).1;have hw2:∀ v∈a1,bwAid v:=fun v hv=>yy v ((yb hL1).2 v hv)
 clear hL0 hL1;simp only[pars,Nat.zero_add];iterate 3 refine rS ?_
 refine AWP.ret ?_;subst hR;exact es
end N34
def D_zgb : DF
 | [x0,x1]=>some (encL 20 yf (zgb (rdL dIu8 x0) (rdL dAid x1)),false,[wL 1 eIu8 dIu8 x0,wL 16 eAid dAid x1,∀ v∈(rdL dIu8 x0),0<=v/\v<=255])
 | _=>none
theorem y5y:OkD Tryz.prog 34 D_zgb:=by unfold D_zgb;exact dk N34.den
def zoc (a0:(List Aid)) (a1:(List Notice)) (a2:Int):Int:=
 (bif ((!(zz a0)) || (!(zfb a1)))then 1 else(bif (!(zib a2))then 2 else 0))
namespace N88
theorem DD:DOk Tryz.prog (Go.Ab.DD [(59,dP D_zz),(91,dP D_zfb),(92,dP D_zib)]):=ya yai.e <| ya yfl.e <| ya y0f.e <| ye _
theorem dn:type_of% (And.intro @D_zz.eq_1 <| And.intro @D_zfb.eq_1 <| @D_zib.eq_1):=by and_intros<;>intros<;>rfl
theorem gr {p:Prop} (h:p:=by(grind [ycc,yhh]);first|done|fail):p:=h
theorem den (a0:(List Aid)) (a1:(List Notice)) (a2:Int) (hb0:a0.length<1099511627776) (hb1:∀ v∈a0,bdAid v) (hb2:a1.length<1099511627776) (hb3:∀ v∈a1,bdNotice v):Den Tryz.prog 88 [encL 16 eAid a0,encL 20 yf a1,.int .i64 a2] (.int .i64 (zoc a0 a1 a2)):=by
 generalize hR:zoc a0 a1 a2=r;unfold zoc at hR;refine di Tryz.func88 Tryz.ntmps88 Tryz.results88 ?_;intro c hL hc hk;obtain⟨hL0,hL1,hL2,_⟩:=hL;have hw0:a0.length<9223372036854775808:=Nat.lt_succ_of_le (yb hL0).1;have hw1:∀ v∈a0,bwAid v:=fun v hv=>yy v ((yb hL0).2 v hv)
 have hw2:a1.length<9223372036854775808:=Nat.lt_succ_of_le (yb hL1).1;have hw3:∀ v∈a1,bwNotice v:=fun v hv=>yi v ((yb hL1).2 v hv)
 clear hL0 hL1 hL2;simp only[pars,Nat.zero_add];iterate 2 refine rS ?_
 refine AWP.cond rfl (fun hb => ?_) (fun hb => ?_)
 ·replace hR:=ct hR
  refine rS ?_;refine AWP.ret ?_;subst hR;exact es
 ·replace hR:=cf hR
  refine rS ?_;refine AWP.cond rfl (fun hb => ?_) (fun hb => ?_)
  ·replace hR:=ct hR
   refine rS ?_;refine AWP.ret ?_;subst hR;exact es
  ·replace hR:=cf hR
   refine rS ?_;refine AWP.ret ?_;subst hR;exact es
end N88
def D_zoc : DF
 | [x0,x1,x2]=>some (.int .i64 (zoc (rdL dAid x0) (rdL yc x1) (rdI x2)),false,[wL 16 eAid dAid x0,wL 20 yf yc x1,wI .i64 x2,(rdL dAid x0).length<1099511627776,∀ v∈(rdL dAid x0),bdAid v,(rdL yc x1).length<1099511627776,∀ v∈(rdL yc x1),bdNotice v])
 | _=>none
theorem yir:OkD Tryz.prog 88 D_zoc:=by unfold D_zoc;exact dk N88.den
def zpc (a0:Notice) (a1:(List Aid)):((List Aid)×Int):=
 (bif (a0.Kind == 1)then((zlc a1 a0.Aid).1,(zlc a1 a0.Aid).2)else(bif (a0.Kind == 2)then((zhd a1 a0.Aid).1,(zhd a1 a0.Aid).2)else((zid a1 a0.Target).1,(zid a1 a0.Target).2)))
namespace N142
theorem DD:DOk Tryz.prog (Go.Ab.DD [(205,dP D_zlc),(206,dP D_zhd),(207,dP D_zid)]):=ya yqx.e <| ya yhw.e <| ya ywy.e <| ye _
theorem dn:type_of% (And.intro @D_zlc.eq_1 <| And.intro @D_zhd.eq_1 <| @D_zid.eq_1):=by and_intros<;>intros<;>rfl
theorem den (a0:Notice) (a1:(List Aid)) (hb0:bdNotice a0) (hb1:a1.length<1099511627776) (hb2:∀ v∈a1,bdAid v):Den Tryz.prog 142 [.agg (yf a0),encL 16 eAid a1] (.tup [ownL 45 16 ynb ((zpc a0 a1).1),.int .i64 ((zpc a0 a1).2)]):=by
 generalize hR:zpc a0 a1=r;unfold zpc at hR;refine di Tryz.func142 Tryz.ntmps142 Tryz.results142 ?_;intro c hL hc hk;obtain⟨hL0,hL1,_⟩:=hL;have hw0:bwNotice a0:=yi a0 hL0;have hw1:a1.length<9223372036854775808:=Nat.lt_succ_of_le (yb hL1).1;have hw2:∀ v∈a1,bwAid v:=fun v hv=>yy v ((yb hL1).2 v hv)
 clear hL0 hL1;simp only[pars,Nat.zero_add];iterate 3 refine rS ?_
 refine AWP.cond rfl (fun hb => ?_) (fun hb => ?_)
 ·replace hR:=ct hR
  refine rS ?_;refine AWP.ret ?_;subst hR;exact es
 ·replace hR:=cf hR
  refine rS ?_;refine AWP.cond rfl (fun hb => ?_) (fun hb => ?_)
  ·replace hR:=ct hR
   refine rS ?_;refine AWP.ret ?_;subst hR;exact es
  ·replace hR:=cf hR
   refine rS ?_;refine AWP.ret ?_;subst hR;exact es
end N142
def D_zpc : DF
 | [x0,x1]=>some (.tup [ownL 45 16 ynb ((zpc (rdG yc x0) (rdL dAid x1)).1),.int .i64 ((zpc (rdG yc x0) (rdL dAid x1)).2)],false,[wG yf yc x0,wL 16 eAid dAid x1,bdNotice (rdG yc x0),(rdL dAid x1).length<1099511627776,∀ v∈(rdL dAid x1),bdAid v])
 | _=>none
theorem yqw:OkD Tryz.prog 142 D_zpc:=by unfold D_zpc;exact dk N142.den
theorem y90 (P:Aid->Prop) (l:List Aid) (n:Notice) (hl:l.length<9223372036854775807) (hv:∀ v∈l,P v) (ha:P n.Aid):(∀ v∈(zpc n l).1,P v)/\(zpc n l).1.length<=25:=by
 unfold zpc
 cases(n.Kind == 1)with
 | true=>exact y3y P l _ hl hv ha
 | false=>
  cases(n.Kind == 2)with
  | true=>exact y5u P l n.Aid hv ha
  | false=>exact y7u P l n.Target hl hv
def yoi (a0:(List Aid)) (a1:(List Notice)) (a2:Int) (i1:Nat) (s1:List Aid):Except (((List Aid)×Int×Int)) (List Aid):=
 (bif (((zpc ((zk a1 a2).getD i1 default) s1).2) != 0)then .error ([],((zk a1 a2).getD i1 default).Number,(zpc ((zk a1 a2).getD i1 default) s1).2)else .ok ((zpc ((zk a1 a2).getD i1 default) s1).1))
def zjb (a0:(List Aid)) (a1:(List Notice)) (a2:Int):((List Aid)×Int×Int):=
 (match yh (yoi a0 a1 a2) (((zk a1 a2).length)-0) 0 (zhb a0)with|.error e=>e|.ok s1=>(s1,0,0))
namespace N89
theorem DD:DOk Tryz.prog (Go.Ab.DD [(141,dP D_zhb),(142,dP D_zpc),(94,dP D_zk)]):=ya y8g.e <| ya yqw.e <| ya y3s.e <| ye _
theorem dn:type_of% (And.intro @D_zhb.eq_1 <| And.intro @D_zpc.eq_1 <| @D_zk.eq_1):=by and_intros<;>intros<;>rfl
theorem ol:type_of% (@y6):=@y6
theorem gr {p:Prop} (h:p:=by(grind [ygc]);first|done|fail):p:=h
theorem den (a0:(List Aid)) (a1:(List Notice)) (a2:Int) (hb0:a0.length<1099511627776) (hb1:∀ v∈a0,bdAid v) (hb2:a1.length<1099511627776) (hb3:∀ v∈a1,bdNotice v) (hp0:a0.length<=1048576) (hp1:a1.length<=1048576):Den Tryz.prog 89 [encL 16 eAid a0,encL 20 yf a1,.int .i64 a2] (.tup [ownL 45 16 ynb ((zjb a0 a1 a2).1),.int .i64 ((zjb a0 a1 a2).2.1),.int .i64 ((zjb a0 a1 a2).2.2)]):=by
 generalize hR:zjb a0 a1 a2=r;unfold zjb at hR;refine di Tryz.func89 Tryz.ntmps89 Tryz.results89 ?_;intro c hL hc hk;obtain⟨hL0,hL1,hL2,_⟩:=hL;have hw0:a0.length<9223372036854775808:=Nat.lt_succ_of_le (yb hL0).1;have hw1:∀ v∈a0,bwAid v:=fun v hv=>yy v ((yb hL0).2 v hv)
 have hw2:a1.length<9223372036854775808:=Nat.lt_succ_of_le (yb hL1).1;have hw3:∀ v∈a1,bwNotice v:=fun v hv=>yi v ((yb hL1).2 v hv)
 clear hL0 hL1 hL2;simp only[pars,Nat.zero_add];have hfl:=ygc a1 a2;have hfa:=(y7e bdNotice a1 a2 (by assumption)).2;iterate 3 refine rS ?_
 refine AWP.block ?_;generalize hz1:yh (yoi a0 a1 a2) (((zk a1 a2).length)-0) 0 (zhb a0)=z1 at hR;refine AWP.range (yoi a0 a1 a2) (fun i1 s1=>⟨[(9,.ref 0 16 0 s1.length),(18,.ref 1 20 0 ((zk a1 a2).length)),(19,.int .i64 ((zk a1 a2).length:Int)),(20,.int .i64 (i1:Int))],[.arr 45 16 s1.length (fun j=>ynb (s1.getD j default)),.arr 140 20 (zk a1 a2).length (fun j=>yf ((zk a1 a2).getD j default))]⟩) (fun i1 s1=>(∀ v∈s1,bdAid v)/\s1.length<=1048576) (((zk a1 a2).length)) 0 (zhb a0) [0,1] hz1 ot (by(simp only[y6,yee];exact⟨by assumption,by omega⟩)) sm ?_;clear hz1;intro i1 s1 hi1 hW1 hz1;have hV1:=hW1;obtain⟨hV1_0,hV1_1⟩:=hV1;refine rS ?_;refine AWP.seq ?_;refine AWP.cond rfl (fun hb => ?_) (fun hb => ?_)
 ·have hlt1:i1<((zk a1 a2).length):=ot
  rw[yp hlt1]at hz1;simp only[yoi]at hz1;iterate 3 refine rS ?_
  refine AWP.cond rfl (fun hb => ?_) (fun hb => ?_)
  ·simp only[hb,cond_true]at hz1
   refine AWP.seq ?_;refine AWP.regP mixed G_ok DD hc 5 [0,1,2] (.alt 3 [] [0,1,2] (.alt 4 [] [2] .leaf .stop) .stop) (by kernel_rfl) (by kernel_rfl) (by kernel_rfl) (fun K hK => ?_);simp only[y0g,runN,runP,y5b,nthO,ea,absV,absVL,cput,gv,sv,dn,reduceCtorEq,reduceIte,Nat.reduceBEq,Nat.reduceAdd,Nat.reduceEqDiff,Nat.reduceLT,Nat.reduceLeDiff,Nat.reduceMul,Nat.reduceSub,BEq.rfl,beq_self_eq_true,Int.reduceToNat];repeat' apply And.intro
   all_goals first|refine hK _ ?_|exact ot
   all_goals clear hK K
   refine AWP.ret ?_;subst hz1;dsimp only at hR;subst hR;exact es
  ·simp only[hb,cond_false]at hz1
   iterate 2 refine rS ?_
   exact⟨_,[3,1],hlt1,by(have h9:=y90 bdAid s1 ((zk a1 a2).getD i1 default) (by have h1:=hW1.2;omega) hW1.1 (y7d (p:=bdNotice) (by assumption) (by decide) i1);exact⟨h9.1,by have h1:=hW1.2;have h2:=h9.2;omega⟩),hz1,sm⟩
 ·obtain rfl:i1=((zk a1 a2).length):=ot
  rw[yn (Nat.le_refl _)]at hz1;subst hz1;dsimp only at hR;refine AWP.exit ?_;refine yd ?_;refine rS ?_;refine AWP.ret ?_;subst hR;exact es
end N89
def D_zjb : DF
 | [x0,x1,x2]=>some (.tup [ownL 45 16 ynb ((zjb (rdL dAid x0) (rdL yc x1) (rdI x2)).1),.int .i64 ((zjb (rdL dAid x0) (rdL yc x1) (rdI x2)).2.1),.int .i64 ((zjb (rdL dAid x0) (rdL yc x1) (rdI x2)).2.2)],false,[wL 16 eAid dAid x0,wL 20 yf yc x1,wI .i64 x2,(rdL dAid x0).length<1099511627776,∀ v∈(rdL dAid x0),bdAid v,(rdL yc x1).length<1099511627776,∀ v∈(rdL yc x1),bdNotice v,(rdL dAid x0).length<=1048576,(rdL yc x1).length<=1048576])
 | _=>none
theorem y9p:OkD Tryz.prog 89 D_zjb:=by unfold D_zjb;exact dk N89.den
def zab (a0:(List Aid)) (a1:(List Notice)) (a2:Int):((List Aid)×Int):=
 (bif ((zoc a0 a1 a2) != 0)then([],(zoc a0 a1 a2))else((zjb a0 a1 a2).1,(zjb a0 a1 a2).2.2))
namespace N36
theorem DD:DOk Tryz.prog (Go.Ab.DD [(88,dP D_zoc),(89,dP D_zjb)]):=ya yir.e <| ya y9p.e <| ye _
theorem dn:type_of% (And.intro @D_zoc.eq_1 <| @D_zjb.eq_1):=by and_intros<;>intros<;>rfl
theorem den (a0:(List Aid)) (a1:(List Notice)) (a2:Int) (hb0:a0.length<1099511627776) (hb1:∀ v∈a0,bdAid v) (hb2:a1.length<1099511627776) (hb3:∀ v∈a1,bdNotice v) (hp0:a0.length<=1048576) (hp1:a1.length<=1048576):Den Tryz.prog 36 [encL 16 eAid a0,encL 20 yf a1,.int .i64 a2] (.tup [ownL 45 16 ynb ((zab a0 a1 a2).1),.int .i64 ((zab a0 a1 a2).2)]):=by
 generalize hR:zab a0 a1 a2=r;unfold zab at hR;refine di Tryz.func36 Tryz.ntmps36 Tryz.results36 ?_;intro c hL hc hk;obtain⟨hL0,hL1,hL2,_⟩:=hL;have hw0:a0.length<9223372036854775808:=Nat.lt_succ_of_le (yb hL0).1;have hw1:∀ v∈a0,bwAid v:=fun v hv=>yy v ((yb hL0).2 v hv)
 have hw2:a1.length<9223372036854775808:=Nat.lt_succ_of_le (yb hL1).1;have hw3:∀ v∈a1,bwNotice v:=fun v hv=>yi v ((yb hL1).2 v hv)
 clear hL0 hL1 hL2;simp only[pars,Nat.zero_add];iterate 3 refine rS ?_
 refine AWP.cond rfl (fun hb => ?_) (fun hb => ?_)
 ·replace hR:=ct hR
  refine rS ?_;refine AWP.ret ?_;subst hR;exact es
 ·replace hR:=cf hR
  iterate 2 refine rS ?_
  refine AWP.ret ?_;subst hR;exact es
end N36
def D_zab : DF
 | [x0,x1,x2]=>some (.tup [ownL 45 16 ynb ((zab (rdL dAid x0) (rdL yc x1) (rdI x2)).1),.int .i64 ((zab (rdL dAid x0) (rdL yc x1) (rdI x2)).2)],false,[wL 16 eAid dAid x0,wL 20 yf yc x1,wI .i64 x2,(rdL dAid x0).length<1099511627776,∀ v∈(rdL dAid x0),bdAid v,(rdL yc x1).length<1099511627776,∀ v∈(rdL yc x1),bdNotice v,(rdL dAid x0).length<=1048576,(rdL yc x1).length<=1048576])
 | _=>none
theorem y4p:OkD Tryz.prog 36 D_zab:=by unfold D_zab;exact dk N36.den
def zqd (a0:(List Aid)) (a1:(List Notice)) (a2:Int):(Int×Int):=
 (bif ((zoc a0 a1 a2) != 0)then(0,(zoc a0 a1 a2))else((zjb a0 a1 a2).2.1,0))
namespace N37
theorem DD:DOk Tryz.prog (Go.Ab.DD [(88,dP D_zoc),(89,dP D_zjb)]):=ya yir.e <| ya y9p.e <| ye _
theorem dn:type_of% (And.intro @D_zoc.eq_1 <| @D_zjb.eq_1):=by and_intros<;>intros<;>rfl
theorem den (a0:(List Aid)) (a1:(List Notice)) (a2:Int) (hb0:a0.length<1099511627776) (hb1:∀ v∈a0,bdAid v) (hb2:a1.length<1099511627776) (hb3:∀ v∈a1,bdNotice v) (hp0:a0.length<=1048576) (hp1:a1.length<=1048576):Den Tryz.prog 37 [encL 16 eAid a0,encL 20 yf a1,.int .i64 a2] (.tup [.int .i64 ((zqd a0 a1 a2).1),.int .i64 ((zqd a0 a1 a2).2)]):=by
 generalize hR:zqd a0 a1 a2=r;unfold zqd at hR;refine di Tryz.func37 Tryz.ntmps37 Tryz.results37 ?_;intro c hL hc hk;obtain⟨hL0,hL1,hL2,_⟩:=hL;have hw0:a0.length<9223372036854775808:=Nat.lt_succ_of_le (yb hL0).1;have hw1:∀ v∈a0,bwAid v:=fun v hv=>yy v ((yb hL0).2 v hv)
 have hw2:a1.length<9223372036854775808:=Nat.lt_succ_of_le (yb hL1).1;have hw3:∀ v∈a1,bwNotice v:=fun v hv=>yi v ((yb hL1).2 v hv)
 clear hL0 hL1 hL2;simp only[pars,Nat.zero_add];iterate 3 refine rS ?_
 refine AWP.cond rfl (fun hb => ?_) (fun hb => ?_)
 ·replace hR:=ct hR
  refine rS ?_;refine AWP.ret ?_;subst hR;exact es
 ·replace hR:=cf hR
  iterate 2 refine rS ?_
  refine AWP.ret ?_;subst hR;exact es
end N37
def D_zqd : DF
 | [x0,x1,x2]=>some (.tup [.int .i64 ((zqd (rdL dAid x0) (rdL yc x1) (rdI x2)).1),.int .i64 ((zqd (rdL dAid x0) (rdL yc x1) (rdI x2)).2)],false,[wL 16 eAid dAid x0,wL 20 yf yc x1,wI .i64 x2,(rdL dAid x0).length<1099511627776,∀ v∈(rdL dAid x0),bdAid v,(rdL yc x1).length<1099511627776,∀ v∈(rdL yc x1),bdNotice v,(rdL dAid x0).length<=1048576,(rdL yc x1).length<=1048576])
 | _=>none
theorem ypv:OkD Tryz.prog 37 D_zqd:=by unfold D_zqd;exact dk N37.den
def zaf (a0:Edition):Bool:=
 (((zjc a0.Number) && (zib a0.Day)) && (zz a0.Aids))
namespace N90
theorem DD:DOk Tryz.prog (Go.Ab.DD [(104,dP D_zjc),(59,dP D_zz),(92,dP D_zib)]):=ya yrk.e <| ya yai.e <| ya y0f.e <| ye _
theorem dn:type_of% (And.intro @D_zjc.eq_1 <| And.intro @D_zz.eq_1 <| @D_zib.eq_1):=by and_intros<;>intros<;>rfl
theorem gr {p:Prop} (h:p:=by(grind [ycc]);first|done|fail):p:=h
theorem den (a0:Edition) (hb0:bdEdition a0):Den Tryz.prog 90 [.agg (y0d a0)] (.bool (zaf a0)):=by
 generalize hR:zaf a0=r;unfold zaf at hR;refine di Tryz.func90 Tryz.ntmps90 Tryz.results90 ?_;intro c hL hc hk;obtain⟨hL0,_⟩:=hL;have hw0:bwEdition a0:=yig a0 hL0;clear hL0;simp only[pars,Nat.zero_add];iterate 2 refine rS ?_
 refine AWP.ret ?_;subst hR;exact es
end N90
def D_zaf : DF
 | [x0]=>some (.bool (zaf (rdG ykc x0)),false,[wG y0d ykc x0,bdEdition (rdG ykc x0)])
 | _=>none
theorem ybx:OkD Tryz.prog 90 D_zaf:=by unfold D_zaf;exact dk N90.den
def zqc (a0:Edition) (a1:(List Notice)) (a2:Int):(Edition×Int):=
 (bif ((!(zaf a0)) || (!(zfb a1)))then({ Number:=0,Day:=0,Aids:=[]:Edition },1)else(bif (!(zib a2))then({ Number:=0,Day:=0,Aids:=[]:Edition },2)else(bif (decide (a2<a0.Day) || (a0.Number == 9999))then({ Number:=0,Day:=0,Aids:=[]:Edition },7)else(bif (((zab a0.Aids a1 a2).2) != 0)then({ Number:=0,Day:=0,Aids:=[]:Edition },(zab a0.Aids a1 a2).2)else({ Number:=IntKind.wrap .i64 (a0.Number+1),Day:=a2,Aids:=(zab a0.Aids a1 a2).1:Edition },0)))))
namespace N38
theorem DD:DOk Tryz.prog (Go.Ab.DD [(36,dP D_zab),(90,dP D_zaf),(91,dP D_zfb),(92,dP D_zib)]):=ya y4p.e <| ya ybx.e <| ya yfl.e <| ya y0f.e <| ye _
theorem dn:type_of% (And.intro @D_zab.eq_1 <| And.intro @D_zaf.eq_1 <| And.intro @D_zfb.eq_1 <| @D_zib.eq_1):=by and_intros<;>intros<;>rfl
theorem gr {p:Prop} (h:p:=by(grind [yhh]);first|done|fail):p:=h
theorem den (a0:Edition) (a1:(List Notice)) (a2:Int) (hb0:bdEdition a0) (hb1:a1.length<1099511627776) (hb2:∀ v∈a1,bdNotice v) (hp0:a0.Aids.length<=1048576) (hp1:a1.length<=1048576):Den Tryz.prog 38 [.agg (y0d a0),encL 20 yf a1,.int .i64 a2] (.tup [.agg (ydf ((zqc a0 a1 a2).1)),.int .i64 ((zqc a0 a1 a2).2)]):=by
 generalize hR:zqc a0 a1 a2=r;unfold zqc at hR;refine di Tryz.func38 Tryz.ntmps38 Tryz.results38 ?_;intro c hL hc hk;obtain⟨hL0,hL1,hL2,_⟩:=hL;have hw0:bwEdition a0:=yig a0 hL0;have hw1:a1.length<9223372036854775808:=Nat.lt_succ_of_le (yb hL1).1;have hw2:∀ v∈a1,bwNotice v:=fun v hv=>yi v ((yb hL1).2 v hv)
 clear hL0 hL1 hL2;simp only[pars,Nat.zero_add];iterate 2 refine rS ?_
 refine AWP.cond rfl (fun hb => ?_) (fun hb => ?_)
 ·replace hR:=ct hR
  refine rS ?_;refine AWP.ret ?_;subst hR;exact es
 ·replace hR:=cf hR
  refine rS ?_;refine AWP.cond rfl (fun hb => ?_) (fun hb => ?_)
  ·replace hR:=ct hR
   refine rS ?_;refine AWP.ret ?_;subst hR;exact es
  ·replace hR:=cf hR
   refine rS ?_;refine AWP.cond rfl (fun hb => ?_) (fun hb => ?_)
   ·replace hR:=ct hR
    refine rS ?_;refine AWP.ret ?_;subst hR;exact es
   ·replace hR:=cf hR
    iterate 2 refine rS ?_
    refine AWP.cond rfl (fun hb => ?_) (fun hb => ?_)
    ·replace hR:=ct hR
     refine rS ?_;refine AWP.ret ?_;subst hR;exact es
    ·replace hR:=cf hR
     refine rS ?_;refine AWP.ret ?_;subst hR;exact es
end N38
def D_zqc : DF
 | [x0,x1,x2]=>some (.tup [.agg (ydf ((zqc (rdG ykc x0) (rdL yc x1) (rdI x2)).1)),.int .i64 ((zqc (rdG ykc x0) (rdL yc x1) (rdI x2)).2)],false,[wG y0d ykc x0,wL 20 yf yc x1,wI .i64 x2,bdEdition (rdG ykc x0),(rdL yc x1).length<1099511627776,∀ v∈(rdL yc x1),bdNotice v,(rdG ykc x0).Aids.length<=1048576,(rdL yc x1).length<=1048576])
 | _=>none
theorem y0y:OkD Tryz.prog 38 D_zqc:=by unfold D_zqc;exact dk N38.den
def yej (a0:(List Notice)) (a1:Int) (i1:Nat) (s1:List Int):Except (((List Int)×Int)) (List Int):=
 .ok (s1++([((zk a0 a1).getD i1 default).Number]:List Int))
def zhc (a0:(List Notice)) (a1:Int):((List Int)×Int):=
 (bif (!(zfb a0))then([],1)else(bif (!(zib a1))then([],2)else(match yh (yej a0 a1) (((zk a0 a1).length)-0) 0 ([]:List Int)with|.error e=>e|.ok s1=>(s1,0))))
namespace N40
theorem DD:DOk Tryz.prog (Go.Ab.DD [(91,dP D_zfb),(92,dP D_zib),(94,dP D_zk)]):=ya yfl.e <| ya y0f.e <| ya y3s.e <| ye _
theorem dn:type_of% (And.intro @D_zfb.eq_1 <| And.intro @D_zib.eq_1 <| @D_zk.eq_1):=by and_intros<;>intros<;>rfl
theorem gr {p:Prop} (h:p:=by(grind [yhh,ygc]);first|done|fail):p:=h
theorem o1 {p:Prop} (h:p:=by(first|(have h9:=hvl (by assumption);omega)|(have h9:=hvl (by assumption);have h8:=hW1;omega));first|done|fail):p:=h
theorem den (a0:(List Notice)) (a1:Int) (hb0:a0.length<1099511627776) (hb1:∀ v∈a0,bdNotice v):Den Tryz.prog 40 [encL 20 yf a0,.int .i64 a1] (.tup [ownL 2 1 yu ((zhc a0 a1).1),.int .i64 ((zhc a0 a1).2)]):=by
 generalize hR:zhc a0 a1=r;unfold zhc at hR;refine di Tryz.func40 Tryz.ntmps40 Tryz.results40 ?_;intro c hL hc hk;obtain⟨hL0,hL1,_⟩:=hL;have hw0:a0.length<9223372036854775808:=Nat.lt_succ_of_le (yb hL0).1;have hw1:∀ v∈a0,bwNotice v:=fun v hv=>yi v ((yb hL0).2 v hv)
 clear hL0 hL1;simp only[pars,Nat.zero_add];have hfl:=ygc a0 a1;have hvl:(!zfb a0)=false->a0.length<=32:=fun h=>yhh (by simpa using h)
 iterate 2 refine rS ?_
 refine AWP.cond rfl (fun hb => ?_) (fun hb => ?_)
 ·replace hR:=ct hR
  refine rS ?_;refine AWP.ret ?_;subst hR;exact es
 ·replace hR:=cf hR
  refine rS ?_;refine AWP.cond rfl (fun hb => ?_) (fun hb => ?_)
  ·replace hR:=ct hR
   refine rS ?_;refine AWP.ret ?_;subst hR;exact es
  ·replace hR:=cf hR
   iterate 2 refine rS ?_
   refine AWP.block ?_;generalize hz1:yh (yej a0 a1) (((zk a0 a1).length)-0) 0 ([]:List Int)=z1 at hR;refine AWP.range (yej a0 a1) (fun i1 s1=>⟨[(6,.ref 0 1 0 s1.length),(18,.ref 1 20 0 ((zk a0 a1).length)),(19,.int .i64 ((zk a0 a1).length:Int)),(20,.int .i64 (i1:Int))],[.arr 2 1 s1.length (fun j=>yu (s1.getD j default)),.arr 140 20 (zk a0 a1).length (fun j=>yf ((zk a0 a1).getD j default))]⟩) (fun i1 s1=>s1.length<=([]:List Int).length+1 * i1/\s1.length<=i1) (((zk a0 a1).length)) 0 ([]:List Int) [0,1] hz1 ot wt sm ?_;clear hz1;intro i1 s1 hi1 hW1 hz1;refine rS ?_;refine AWP.seq ?_;refine AWP.cond rfl (fun hb => ?_) (fun hb => ?_)
   ·have hlt1:i1<((zk a0 a1).length):=ot
    rw[yp hlt1]at hz1;simp only[yej]at hz1;iterate 3 refine rS ?_
    exact⟨_,[4,1],hlt1,wt,hz1,sm⟩
   ·obtain rfl:i1=((zk a0 a1).length):=ot
    rw[yn (Nat.le_refl _)]at hz1;subst hz1;dsimp only at hR;refine AWP.exit ?_;refine yd ?_;refine rS ?_;refine AWP.ret ?_;subst hR;exact es
end N40
def D_zhc : DF
 | [x0,x1]=>some (.tup [ownL 2 1 yu ((zhc (rdL yc x0) (rdI x1)).1),.int .i64 ((zhc (rdL yc x0) (rdI x1)).2)],false,[wL 20 yf yc x0,wI .i64 x1,(rdL yc x0).length<1099511627776,∀ v∈(rdL yc x0),bdNotice v])
 | _=>none
theorem yaw:OkD Tryz.prog 40 D_zhc:=by unfold D_zhc;exact dk N40.den
def yqn (a0:(List Int)) (a1:Int) (i1:Nat) (s1:Unit):Except (Bool) (Unit):=
 (bif ((a0.getD i1 default) == a1)then .error true else .ok ())
def zrd (a0:(List Int)) (a1:Int):Bool:=
 (match yh (yqn a0 a1) (a0.length-0) 0 ()with|.error e=>e|.ok s1=>false)
namespace N41
theorem DD:DOk Tryz.prog (Go.Ab.DD []):=ye _
theorem den (a0:(List Int)) (a1:Int)  : Den Tryz.prog 41 [encL 1 yu a0,.int .i64 a1] (.bool (zrd a0 a1)):=by
 generalize hR:zrd a0 a1=r;unfold zrd at hR;refine di Tryz.func41 Tryz.ntmps41 Tryz.results41 ?_;intro c hL hc hk;obtain⟨hL0,hL1,_⟩:=hL;have hw0:a0.length<9223372036854775808:=Nat.lt_succ_of_le (yb hL0).1;clear hL0 hL1;simp only[pars,Nat.zero_add];iterate 2 refine rS ?_
 refine AWP.block ?_;generalize hz1:yh (yqn a0 a1) (a0.length-0) 0 ()=z1 at hR;refine AWP.range (yqn a0 a1) (fun i1 s1=>⟨[(0,encL 1 yu a0),(1,.int .i64 a1),(5,.int .i64 (i1:Int))],[]⟩) (fun i1 s1=>True) (a0.length) 0 () [] hz1 ot wt sm ?_;clear hz1;intro i1 s1 hi1 hW1 hz1;refine rS ?_;refine AWP.cond rfl (fun hb => ?_) (fun hb => ?_)
 ·have hlt1:i1<a0.length:=ot
  rw[yp hlt1]at hz1;simp only[yqn]at hz1;refine rS ?_;refine AWP.cond rfl (fun hb => ?_) (fun hb => ?_)
  ·simp only[hb,cond_true]at hz1
   refine rS ?_;refine AWP.ret ?_;subst hz1;dsimp only at hR;subst hR;exact es
  ·simp only[hb,cond_false]at hz1
   refine rS ?_;exact⟨_,[],hlt1,wt,hz1,sm⟩
 ·obtain rfl:i1=a0.length:=ot
  rw[yn (Nat.le_refl _)]at hz1;subst hz1;dsimp only at hR;refine AWP.exit ?_;refine yd ?_;refine rS ?_;refine AWP.ret ?_;subst hR;exact es
end N41
def D_zrd : DF
 | [x0,x1]=>some (.bool (zrd (rdL yhb x0) (rdI x1)),false,[wL 1 yu yhb x0,wI .i64 x1])
 | _=>none
theorem y7x:OkD Tryz.prog 41 D_zrd:=by unfold D_zrd;exact dk N41.den
theorem yzm (a:Aid):zxd a a=true:=by
 rw[<- yck];unfold zye zud;rw[yzh,yve];simp
theorem yzj (l:List Aid):zyc l l=true:=by
 unfold zyc;have h0:((l.length:Int) != (l.length:Int))=false:=by simp
 rw[h0,cond_false]
 have:∀ k i,yh (y9i l l) k i ()=.ok ():=by
  intro k
  induction k with
  | zero=>intro i;rfl
  | succ k ih=>intro i;simp only[yh,y9i,yzm,Bool.not_true,cond_false];exact ih (i+1)
 rw[this]
theorem yd0 {n:Notice} {s:List Aid} (hs:okP AidQ s) (hn:AidQ n.Aid) (h:(zpc n s).2=0):okP AidQ (zpc n s).1:=by
 unfold zpc at h ⊢
 cases h1:(n.Kind == 1)with
 | true=>rw[h1,cond_true]at h;exact y9x AidQ hs (fun v h=>h.l) hn h
 | false=>
  rw[h1,cond_false]at h;rw[cond_false]
  cases h2:(n.Kind == 2)with
  | true=>rw[h2,cond_true]at h;exact ykt AidQ hs (fun v h=>h.l) hn h
  | false=>rw[h2,cond_false]at h;exact ybu AidQ hs (fun v h=>h.l) h
theorem y4m {A:List Aid} {l:List Notice} {d:Int} (hA:okP AidQ A) (hl:∀ v∈l,AidQ v.Aid):(∃ s,zjb A l d=(s,0,0)/\okP AidQ s)\/∃ n,n∈zk l d/\∃ c,c≠0/\zjb A l d=([],n.Number,c):=by
 unfold zjb;rw[y6];have hF:=(y7e (fun v=>AidQ v.Aid) l d hl).2
 cases h:yh (yoi A l d) ((zk l d).length-0) 0 A with
 | error e=>
  right
  obtain⟨j,t,h1,h2,h3⟩:=yfc h;unfold yoi at h3;have hm:(zk l d).getD j default∈zk l d:=yfr (by omega)
  cases hc:((zpc ((zk l d).getD j default) t).2 != 0)with
  | false=>rw[hc,cond_false]at h3;cases h3
  | true=>
   rw[hc,cond_true]at h3;simp only[Except.error.injEq]at h3;subst h3;exact⟨_,hm,_,by simpa using hc,rfl⟩
 | ok s=>
  left
  refine⟨s,rfl,yam (fun _ u=>okP AidQ u) hA (fun j u v h1 h2 hI hb => ?_) h⟩;unfold yoi at hb;have hm:(zk l d).getD j default∈zk l d:=yfr (by omega)
  cases hc:((zpc ((zk l d).getD j default) u).2 != 0)with
  | true=>rw[hc,cond_true]at hb;cases hb
  | false=>
   rw[hc,cond_false]at hb;simp only[Except.ok.injEq]at hb;subst hb;exact yd0 hI (hF _ hm) (by simpa using hc)
theorem ypt {A:List Aid} {l:List Notice} {d:Int} (h:zk l d=[]):zjb A l d=(A,0,0):=by
 unfold zjb;rw[y6,h];rfl
theorem yjl {d:Int} (h0:0<=d) (h1:d<=99999):zib d=true:=by
 unfold zib zg;rw[decide_eq_true h0,decide_eq_true h1];rfl
theorem yap {A:List Aid} {l:List Notice} {d:Int} (hA:okP AidQ A) (hl:NtsP l) (h0:0<=d) (h1:d<=99999):zoc A l d=0:=by
 unfold zoc;rw[ymc A (fun v h=>(hA.2 v h).l),(y8f A).2 hA.1,ytd l (fun n h=>(hl.q n h).l),hl.ok,yjl h0 h1];rfl
theorem yv0 {n:Notice} (h:zvb n=true):1<=n.Number:=by
 unfold zvb zf at h;by_cases h1:1<=n.Number
 ·exact h1
 ·rw[decide_eq_false h1]at h
  simp at h
theorem yvw {l:List Int} {x:Int} (h:x∈l):zrd l x=true:=by
 unfold zrd;rw[ybc (b:=yqn l x) (fun j=>(l.getD j default) == x) true (fun j u _ _=>rfl)]
 have:((List.range (l.length-0)).any fun j=>(l.getD (0+j) default) == x)=true:=by
  rw[List.any_eq_true];obtain⟨j,hj,e⟩:=List.getElem_of_mem h;refine⟨j,by simpa using hj,?_⟩;rw[Nat.zero_add,List.getD_eq_getElem?_getD,List.getElem?_eq_getElem hj];simpa using e
 rw[this];rfl
theorem y1r {l:List Notice} {d:Int} (hl:NtsP l) (h0:0<=d) (h1:d<=99999):zhc l d=((zk l d).map fun n=>n.Number,0):=by
 unfold zhc;rw[ytd l (fun n h=>(hl.q n h).l),hl.ok,yjl h0 h1];simp only[Bool.not_true,cond_false];rw[yhm (zk l d) (yej l d) (fun n=>n.Number) (fun i s _=>rfl)]
theorem ygp (a0:List Int) (hp0:∀ v∈a0,0<=v/\v<=255):okP AidQ (zn a0)/\(zn a0).length<=5:=(ycu (n:=0) (s:=zie a0) ⟨Int.le_refl _,Int.le_refl _,hp0⟩ (by omega)).2
theorem yzu (a1:List Int) (e:List Aid) (hp1:∀ v∈a1,0<=v/\v<=255):NtsP (zgb a1 e)/\(zgb a1 e).length<=5:=(ym1 (n:=0) (s:=zie a1) (e:=e) ⟨Int.le_refl _,Int.le_refl _,hp1⟩ (by omega)).2
theorem yff {A:List Aid} {l:List Notice} (d:Int) (hA:okP AidQ A) (hl:∀ v∈l,AidQ v.Aid):(∀ v∈(zab A l d).1,bdAid v)/\(zab A l d).1.length<=24:=by
 unfold zab
 cases(zoc A l d != 0)with
 | true=>exact⟨fun v h=>absurd h (by simp),by simp⟩
 | false=>
  rw[cond_false];rcases y4m (d:=d) hA hl with⟨s,h1,h2⟩|⟨n,h1,c,h2,h3⟩
  ·rw[h1];exact⟨fun v h=>(h2.2 v h).1,h2.1.2.2⟩
  ·rw[h3];exact⟨fun v h=>absurd h (by simp),by simp⟩
theorem ykv {A:List Aid} {l:List Notice} (n d0 d:Int) (hA:okP AidQ A) (hl:∀ v∈l,AidQ v.Aid):(∀ v∈(zqc { Number:=n,Day:=d0,Aids:=A:Edition } l d).1.Aids,bdAid v)/\(zqc { Number:=n,Day:=d0,Aids:=A:Edition } l d).1.Aids.length<=24:=by
 have hc:=yff d hA hl;unfold zqc
 cases((!(zaf { Number:=n,Day:=d0,Aids:=A:Edition })) || (!(zfb l)))with
 | true=>exact⟨fun v h=>absurd h (by simp),by simp⟩
 | false=>
  rw[cond_false]
  cases(!(zib d))with
  | true=>exact⟨fun v h=>absurd h (by simp),by simp⟩
  | false=>
   rw[cond_false];simp only
   cases(decide (d<d0) || (n == 9999))with
   | true=>exact⟨fun v h=>absurd h (by simp),by simp⟩
   | false=>
    rw[cond_false]
    cases(((zab A l d).2) != 0)with
    | true=>exact⟨fun v h=>absurd h (by simp),by simp⟩
    | false=>exact hc
theorem y1t (l:List Notice) (d:Int):(zhc l d).1.length<=l.length:=by
 unfold zhc
 cases(!(zfb l))with
 | true=>simp
 | false=>
  rw[cond_false]
  cases(!(zib d))with
  | true=>simp
  | false=>
   rw[cond_false,yhm (zk l d) (yej l d) (fun n=>n.Number) (fun i s _=>rfl)];simp only[List.length_map];exact ygc l d
def zyf (a0:(List Int)) (a1:(List Int)):Bool:=
 (decide (1048576<(a0.length:Int)) || decide (1048576<(a1.length:Int)))
namespace N32
theorem DD:DOk Tryz.prog (Go.Ab.DD []):=ye _
theorem den (a0:(List Int)) (a1:(List Int))  : Den Tryz.prog 32 [encL 1 eIu8 a0,encL 1 eIu8 a1] (.bool (zyf a0 a1)):=by
 generalize hR:zyf a0 a1=r;unfold zyf at hR;refine di Tryz.func32 Tryz.ntmps32 Tryz.results32 ?_;intro c hL hc hk;obtain⟨hL0,hL1,_⟩:=hL;have hw0:a0.length<9223372036854775808:=Nat.lt_succ_of_le (yb hL0).1;have hw1:a1.length<9223372036854775808:=Nat.lt_succ_of_le (yb hL1).1;clear hL0 hL1;simp only[pars,Nat.zero_add];iterate 2 refine rS ?_
 refine AWP.ret ?_;subst hR;exact es
end N32
def D_zyf : DF
 | [x0,x1]=>some (.bool (zyf (rdL dIu8 x0) (rdL dIu8 x1)),false,[wL 1 eIu8 dIu8 x0,wL 1 eIu8 dIu8 x1])
 | _=>none
theorem yvv:OkD Tryz.prog 32 D_zyf:=by unfold D_zyf;exact dk N32.den
end Go.Ab
