/- A part of a proof: walks of functions and lemmas of our own. No conditions. -/
import Derived.Test.YtjngmicjnheliaaGreatDoorQAl
import Derived.Test.YtjngmicjnheliaaGreatDoorQAm
import Derived.Test.YtjngmicjnheliaaGreatDoorQAp
import Derived.Test.YtjngmicjnheliaaGreatDoorQAt
import Derived.Test.YtjngmicjnheliaaGreatDoorQAn
import Derived.Test.YtjngmicjnheliaaGreatDoorQAr
import Derived.Test.YtjngmicjnheliaaGreatDoorQAs
import Derived.Test.YtjngmicjnheliaaGreatDoorQAk
set_option linter.unusedSectionVars false
set_option linter.unusedVariables false
set_option linter.unusedSimpArgs false
set_option maxHeartbeats 1000000
namespace Go.Ab
open Go Go.Proofs
def y1i (a0:(List Phase)) (a1:(List Phase)) (a2:Int) (i1:Nat) (s1:Unit):Except (Bool) (Unit):=
 (bif (zxb (zj (zl a0)) (zib [subL (zj (zl a1)) i1 ((zj (zl a1)).length-i1),subL (zj (zl a1)) 0 (i1)]) a2)then .error true else .ok ())
def zpb (a0:(List Phase)) (a1:(List Phase)) (a2:Int):Bool:=
 (bif (((zj (zl a0)).length:Int) != ((zj (zl a1)).length:Int))then false else(match yf (y1i a0 a1 a2) (((zj (zl a1)).length)-0) 0 ()with|.error e=>e|.ok s1=>false))
namespace N53
theorem DD:DOk Tryz.prog (Go.Ab.DD [(84,dP D_zj),(85,dP D_zl),(86,dP D_zib),(87,dP D_zxb)]):=ya yby.e <| ya yzy.e <| ya ykw.e <| ya ytu.e <| ye _
theorem dn:type_of% (And.intro @D_zj.eq_1 <| And.intro @D_zl.eq_1 <| And.intro @D_zib.eq_1 <| @D_zxb.eq_1):=by and_intros<;>intros<;>rfl
theorem o0 {p:Prop} (h:p:=by(first|(refine⟨⟨by omega,by omega,by omega⟩,⟨by omega,by omega,by omega⟩,⟨yvm (zj (zl a1)) 2 ym _ _,yzo (zj (zl a1)) 2 ym _⟩,?_⟩;intro v hv;simp only[List.mem_cons,List.not_mem_nil,or_false]at hv;rcases hv with rfl|rfl<;>(rw[yjb];omega)));first|done|fail):p:=h
theorem lx {p:Prop} (h:p:=by(exact lxx);first|done|fail):p:=h
set_option maxHeartbeats 2000000 in
set_option maxRecDepth 20000 in
theorem den (a0:(List Phase)) (a1:(List Phase)) (a2:Int) (hp0:PhOk a0) (hp1:PhOk a1):Den Tryz.prog 53 [encL 2 ym a0,encL 2 ym a1,.int .i64 a2] (.bool (zpb a0 a1 a2)):=by
 generalize hR:zpb a0 a1 a2=r;unfold zpb at hR;refine di Tryz.func53 Tryz.ntmps53 Tryz.results53 ?_;intro c hL hc hk;obtain⟨hL0,hL1,hL2,_⟩:=hL;have hw0:a0.length<9223372036854775808:=Nat.lt_succ_of_le (yd hL0).1;have hw1:∀ v∈a0,bwPhase v:=fun v hv=>y8 v ((yd hL0).2 v hv)
 have hw2:a1.length<9223372036854775808:=Nat.lt_succ_of_le (yd hL1).1;have hw3:∀ v∈a1,bwPhase v:=fun v hv=>y8 v ((yd hL1).2 v hv)
 clear hL0 hL1 hL2;simp only[pars,Nat.zero_add];have hna:=y1d hp0;have hnb:=y1d hp1;have hoa:=yve hp0;have hob:=yve hp1;have hja:=yex hp0;have hjb:=yex hp1;iterate 2 refine rS ?_
 refine AWP.lendV 7 1 (fun j=>ym ((zj (zl a0)).getD j default)) rfl rfl ot lv1 lv2 ?_;simp only[setE];refine AWP.lendV 8 2 (fun j=>ym ((zj (zl a1)).getD j default)) rfl rfl ot lv1 lv2 ?_;simp only[setE];refine rS ?_;refine AWP.cond rfl (fun hb => ?_) (fun hb => ?_)
 ·replace hR:=ct hR
  refine rS ?_;refine AWP.ret ?_;subst hR;exact es
 ·replace hR:=cf hR
  refine rS ?_;refine AWP.block ?_;generalize hz1:yf (y1i a0 a1 a2) (((zj (zl a1)).length)-0) 0 ()=z1 at hR;refine AWP.range (y1i a0 a1 a2) (fun i1 s1=>⟨[(5,.ptr 0 0),(7,encL 2 ym (zj (zl a0))),(8,encL 2 ym (zj (zl a1))),(23,.int .i64 ((zj (zl a1)).length:Int)),(24,.int .i64 (i1:Int))],[.box [.int .i64 a2]]⟩) (fun i1 s1=>True) (((zj (zl a1)).length)) 0 () [0] hz1 ot wt sm ?_;clear hz1;intro i1 s1 hi1 hW1 hz1;refine rS ?_;refine AWP.seq ?_;refine AWP.cond rfl (fun hb => ?_) (fun hb => ?_)
  ·have hlt1:i1<((zj (zl a1)).length):=ot
   rw[yg hlt1]at hz1;simp only[y1i]at hz1;refine rS ?_;refine rD 6 ?_;refine rS ?_;refine AWP.cond rfl (fun hb => ?_) (fun hb => ?_)
   ·simp only[hb,cond_true]at hz1
    refine rS ?_;refine AWP.ret ?_;subst hz1;dsimp only at hR;subst hR;exact es
   ·simp only[hb,cond_false]at hz1
    refine rS ?_;exact⟨_,[0],hlt1,wt,hz1,sm⟩
  ·obtain rfl:i1=((zj (zl a1)).length):=ot
   rw[yh (Nat.le_refl _)]at hz1;subst hz1;dsimp only at hR;refine AWP.exit ?_;refine yc ?_;refine rS ?_;refine AWP.ret ?_;subst hR;exact es
end N53
def D_zpb : DF
 | [x0,x1,x2]=>some (.bool (zpb (rdL yu x0) (rdL yu x1) (rdI x2)),false,[wL 2 ym yu x0,wL 2 ym yu x1,wI .i64 x2,PhOk (rdL yu x0),PhOk (rdL yu x1)])
 | _=>none
theorem ygp:OkD Tryz.prog 53 D_zpb:=by unfold D_zpb;exact dk N53.den
def ycn (a0:(List Phase)) (a1:(List Phase)) (a2:Int) (i1:Nat) (s1:Unit) (s2:Bool×Int):Except (Sum (Bool) (Bool×Int)) (Bool×Int):=
 (bif (decide (s2.2<((zn a0).length:Int)) && s2.1)then .ok ((((((zn a0).getD ((s2.2).toNat) default).Color) == (((zn a1).getD (((IntKind.wrap .i64 ((i1:Int)+s2.2)).tmod ((zn a1).length:Int)).toNat) default).Color)) && (zb (IntKind.wrap .i64 ((((zn a0).getD ((s2.2).toNat) default).Length)-(((zn a1).getD (((IntKind.wrap .i64 ((i1:Int)+s2.2)).tmod ((zn a1).length:Int)).toNat) default).Length))) (IntKind.wrap .i64 (0-a2)) a2)),IntKind.wrap .i64 (s2.2+1))else .error (.inr (s2.1,s2.2)))
def ymj (a0:(List Phase)) (a1:(List Phase)) (a2:Int) (i1:Nat) (s1:Unit):Except (Bool) (Unit):=
 (match ync (ycn a0 a1 a2 i1 s1) ((((zn a0).length-(0:Int)).toNat)+1) (true,0)with|.error (.inl e)=>.error e|.error (.inr s2)=>(bif s2.1 then .error true else .ok ())|.ok _=>.error default)
def zw (a0:(List Phase)) (a1:(List Phase)) (a2:Int):Bool:=
 (bif (((zn a0).length:Int) != ((zn a1).length:Int))then false else(match yf (ymj a0 a1 a2) (((zn a1).length)-0) 0 ()with|.error e=>e|.ok s1=>false))
namespace N66
theorem DD:DOk Tryz.prog (Go.Ab.DD [(105,dP D_zn),(29,dP D_zb)]):=ya y2x.e <| ya yfd.e <| ye _
theorem dn:type_of% (And.intro @D_zn.eq_1 <| @D_zb.eq_1):=by and_intros<;>intros<;>rfl
theorem ol:type_of% (@zb.eq_1):=@zb.eq_1
theorem o1 {p:Prop} (h:p:=by(first|(have h9:=yqi (a:=IntKind.wrap .i64 ((i1:Int)+s2.2)) (n:=((zn a1).length:Int)) (by first|omega|(rw[IntKind.wrap_i64];omega)|(rw[IntKind.wrap_i64,IntKind.wrap_i64];omega)) (by omega);first|exact h9.1|exact h9.2.1|exact⟨h9.1,h9.2.1⟩|omega)|(have h9:=hW2;omega));first|done|fail):p:=h
set_option maxHeartbeats 2000000 in
set_option maxRecDepth 20000 in
theorem den (a0:(List Phase)) (a1:(List Phase)) (a2:Int) (hp0:PhOk a0) (hp1:PhOk a1):Den Tryz.prog 66 [encL 2 ym a0,encL 2 ym a1,.int .i64 a2] (.bool (zw a0 a1 a2)):=by
 generalize hR:zw a0 a1 a2=r;unfold zw at hR;refine di Tryz.func66 Tryz.ntmps66 Tryz.results66 ?_;intro c hL hc hk;obtain⟨hL0,hL1,hL2,_⟩:=hL;have hw0:a0.length<9223372036854775808:=Nat.lt_succ_of_le (yd hL0).1;have hw1:∀ v∈a0,bwPhase v:=fun v hv=>y8 v ((yd hL0).2 v hv)
 have hw2:a1.length<9223372036854775808:=Nat.lt_succ_of_le (yd hL1).1;have hw3:∀ v∈a1,bwPhase v:=fun v hv=>y8 v ((yd hL1).2 v hv)
 clear hL0 hL1 hL2;simp only[pars,Nat.zero_add];have hja:=ykh hp0;have hjb:=ykh hp1;iterate 4 refine rS ?_
 refine AWP.cond rfl (fun hb => ?_) (fun hb => ?_)
 ·replace hR:=ct hR
  refine rS ?_;refine AWP.ret ?_;subst hR;exact es
 ·replace hR:=cf hR
  refine rS ?_;refine AWP.block ?_;generalize hz1:yf (ymj a0 a1 a2) (((zn a1).length)-0) 0 ()=z1 at hR;refine AWP.range (ymj a0 a1 a2) (fun i1 s1=>⟨[(2,.int .i64 a2),(7,.ref 0 2 0 ((zn a0).length)),(8,.ref 1 2 0 ((zn a1).length)),(9,.int .i64 (i1:Int))],[.arr 105 2 (zn a0).length (fun j=>ym ((zn a0).getD j default)),.arr 105 2 (zn a1).length (fun j=>ym ((zn a1).getD j default))]⟩) (fun i1 s1=>True) (((zn a1).length)) 0 () [0,1] hz1 ot wt sm ?_;clear hz1;intro i1 s1 hi1 hW1 hz1;refine rS ?_;refine AWP.cond rfl (fun hb => ?_) (fun hb => ?_)
  ·have hlt1:i1<((zn a1).length):=ot
   rw[yg hlt1]at hz1;simp only[ymj]at hz1;iterate 2 refine rS ?_
   refine AWP.block ?_;generalize hz2:ync (ycn a0 a1 a2 i1 s1) ((((zn a0).length-(0:Int)).toNat)+1) (true,0)=z2 at hz1;refine AWP.whileW (ycn a0 a1 a2 i1 s1) (fun s2=>⟨[(2,.int .i64 a2),(7,.ref 0 2 0 ((zn a0).length)),(8,.ref 1 2 0 ((zn a1).length)),(9,.int .i64 (i1:Int)),(10,.bool s2.1),(11,.int .i64 s2.2)],[.arr 105 2 (zn a0).length (fun j=>ym ((zn a0).getD j default)),.arr 105 2 (zn a1).length (fun j=>ym ((zn a1).getD j default))]⟩) (fun s2=>0<=s2.2/\s2.2<=(zn a0).length) (fun s2=>((zn a0).length-s2.2).toNat) ((((zn a0).length-(0:Int)).toNat)+1) (true,0) [0,1] hz2 m0 (by(exact⟨by(try dsimp only);omega,by(try dsimp only);omega⟩)) sm ?_;clear hz2;intro s2 k2 hW2 hm2 hz2;simp only[ycn]at hz2;refine rS ?_;refine AWP.cond rfl (fun hb => ?_) (fun hb => ?_)
   ·simp only[hb,cond_true]at hz2
    refine rS ?_;refine rD 22 ?_;refine rS ?_;exact⟨_,[0,1],by(have hcx:(decide (s2.2<((zn a0).length:Int)) && s2.1)=true:=(by assumption);simp only[Bool.and_eq_true,decide_eq_true_eq]at hcx;have hw8:IntKind.wrap .i64 (s2.2+1)=s2.2+1:=(by rw[IntKind.wrap_i64];omega);(try dsimp only);rw[hw8];omega),by(have hcx:(decide (s2.2<((zn a0).length:Int)) && s2.1)=true:=(by assumption);simp only[Bool.and_eq_true,decide_eq_true_eq]at hcx;have hw8:IntKind.wrap .i64 (s2.2+1)=s2.2+1:=(by rw[IntKind.wrap_i64];omega);(try dsimp only);rw[hw8];exact⟨by omega,by omega⟩),hz2,sm⟩
   ·simp only[hb,cond_false]at hz2
    refine AWP.exit ?_;refine yc ?_;subst hz2;dsimp only at hz1;refine rS ?_;refine AWP.cond rfl (fun hb => ?_) (fun hb => ?_)
    ·simp only[hb,cond_true]at hz1
     refine rS ?_;refine AWP.ret ?_;subst hz1;dsimp only at hR;subst hR;exact es
    ·simp only[hb,cond_false]at hz1
     refine rS ?_;exact⟨_,[0,1],hlt1,wt,hz1,sm⟩
  ·obtain rfl:i1=((zn a1).length):=ot
   rw[yh (Nat.le_refl _)]at hz1;subst hz1;dsimp only at hR;refine AWP.exit ?_;refine yc ?_;refine rS ?_;refine AWP.ret ?_;subst hR;exact es
end N66
def D_zw : DF
 | [x0,x1,x2]=>some (.bool (zw (rdL yu x0) (rdL yu x1) (rdI x2)),false,[wL 2 ym yu x0,wL 2 ym yu x1,wI .i64 x2,PhOk (rdL yu x0),PhOk (rdL yu x1)])
 | _=>none
theorem y0x:OkD Tryz.prog 66 D_zw:=by unfold D_zw;exact dk N66.den
def CloB (A B:List (Bool×Int)) (w:Int):Prop:=A.length=B.length/\∃ f,f<B.length/\∀ i,i<A.length->(A.getD i default).1=(B.getD ((f+i) % B.length) default).1 /\ -w<=(A.getD i default).2-(B.getD ((f+i) % B.length) default).2/\(A.getD i default).2-(B.getD ((f+i) % B.length) default).2<=w
def Sm (A:List (Bool×Int)):Prop:=A.length<=1000000/\∀ v∈A,1<=v.2/\v.2<=1000000
theorem Sm.at {A:List (Bool×Int)} (h:Sm A) {i:Nat} (hi:i<A.length):1<=(A.getD i default).2/\(A.getD i default).2<=1000000:=h.2 _ (ysb hi)
theorem y5w (x:UInt8) (a b:Bool):(cs x a == cs x b)=(a == b):=by cases a<;>cases b<;>simp[cs]
theorem ysr (x:UInt8) {u v:Bool×Int} {w:Int} (hu:1<=u.2/\u.2<=1000000) (hv:1<=v.2/\v.2<=1000000):zrd (phB x u) (phB x v) w=true↔u.1=v.1 /\ -w<=u.2-v.2/\u.2-v.2<=w:=by
 unfold zrd zze phB;simp only;rw[y5w,show IntKind.wrap .i64 (u.2-v.2)=u.2-v.2 by rw[IntKind.wrap_i64];omega,show IntKind.wrap .i64 (v.2-u.2)=v.2-u.2 by rw[IntKind.wrap_i64];omega];rw[Bool.and_eq_true,beq_iff_eq,decide_eq_true_eq];split<;>constructor<;>rintro⟨h1,h2⟩<;>refine⟨h1,?_⟩<;>omega
theorem y1p (A T:List Phase) (w:Int) (h:A.length=T.length):zxb A T w=true↔∀ i,i<A.length->zrd (A.getD i default) (T.getD i default) w=true:=by
 unfold zxb;rw[show((A.length:Int) != (T.length:Int))=false by rw[h];simp,cond_false];rcases ybb (b:=y6l A T w) (fun i => !(zrd (A.getD i default) (T.getD i default) w)) (fun _=>false) (k:=A.length-0) (i:=0) (s:=()) (fun j u _ _=>rfl)with⟨j,_,h2,h3,_,h5⟩|⟨h1,h2⟩
 ·rw[h5]
  refine⟨fun h=>(by cases h),fun h => ?_⟩;rw[h j (by omega)]at h3;cases h3
 ·rw[h2]
  exact⟨fun _ i hi=>by have:=h1 i (by omega) (by omega);simpa using this,fun _=>rfl⟩
theorem ynt {x:UInt8} {p q:List Phase} {w:Int} {A B:List (Bool×Int)} (hA:zj (zl p)=A.map (phB x)) (hB:zj (zl q)=B.map (phB x)) (sA:Sm A) (sB:Sm B):zpb p q w=true↔CloB A B w:=by
 unfold zpb;rw[hA,hB,List.length_map,List.length_map];by_cases hl:A.length=B.length
 ·rw[show((A.length:Int) != (B.length:Int))=false by rw[hl];simp,cond_false]
  have hs:∀ f,f<B.length->(zxb (A.map (phB x)) (zib [subL (B.map (phB x)) f ((B.map (phB x)).length-f),subL (B.map (phB x)) 0 f]) w=true↔∀ i,i<A.length->(A.getD i default).1=(B.getD ((f+i) % B.length) default).1 /\ -w<=(A.getD i default).2-(B.getD ((f+i) % B.length) default).2/\(A.getD i default).2-(B.getD ((f+i) % B.length) default).2<=w):=fun f hf=>by
   have hr:zib [subL (B.map (phB x)) f ((B.map (phB x)).length-f),subL (B.map (phB x)) 0 f]=(rotL B f).map (phB x):=by
    rw[ywp, <- yjo];unfold rotL;rw[yke _ _ _ (by rw[List.length_map];omega),yke _ _ _ (by rw[List.length_map];omega),List.drop_zero,List.take_of_length_le (by rw[List.length_drop];omega)];simp
   rw[hr,y1p _ _ _ (by rw[List.length_map,List.length_map,yqb,hl]),List.length_map]
   have hi:∀ i,i<A.length->(zrd ((A.map (phB x)).getD i default) (((rotL B f).map (phB x)).getD i default) w=true↔(A.getD i default).1=(B.getD ((f+i) % B.length) default).1 /\ -w<=(A.getD i default).2-(B.getD ((f+i) % B.length) default).2/\(A.getD i default).2-(B.getD ((f+i) % B.length) default).2<=w):=fun i hi=>by
    rw[yz _ hi,yz _ (by rw[yqb];omega),yxc hf (by omega)];exact ysr x (sA.at hi) (sB.at (Nat.mod_lt _ (by omega)))
   exact⟨fun h i h2=>(hi i h2).1 (h i h2),fun h i h2=>(hi i h2).2 (h i h2)⟩
  rcases ybb (b:=y1i p q w) (fun f=>zxb (A.map (phB x)) (zib [subL (B.map (phB x)) f ((B.map (phB x)).length-f),subL (B.map (phB x)) 0 f]) w) (fun _=>true) (k:=B.length-0) (i:=0) (s:=()) (fun j u _ _=>by unfold y1i;rw[hA,hB])with⟨j,_,h2,h3,_,h5⟩|⟨h1,h2⟩
  ·rw[h5]
   exact⟨fun _=>⟨hl,j,by omega,(hs j (by omega)).1 h3⟩,fun _=>rfl⟩
  ·rw[h2]
   refine⟨fun h=>(by cases h),fun⟨_,f,hf,h⟩ => ?_⟩;have:=h1 f (by omega) (by omega);rw[(hs f hf).2 h]at this;cases this
 ·rw[show((A.length:Int) != (B.length:Int))=true by rw[bne_iff_ne];omega,cond_true]
  exact⟨fun h=>(by cases h),fun⟨h,_⟩=>absurd h hl⟩
theorem ycv {x:UInt8} {p q:List Phase} {w:Int} {A B:List (Bool×Int)} (hA:zn p=A.map (phB x)) (hB:zn q=B.map (phB x)) (sA:Sm A) (sB:Sm B) (hw:0<=w/\w<=20):zw p q w=true↔CloB A B w:=by
 unfold zw;rw[hA,hB,List.length_map,List.length_map];by_cases hl:A.length=B.length
 ·rw[show((A.length:Int) != (B.length:Int))=false by rw[hl];simp,cond_false]
  let P:Nat->Nat->Prop:=fun f i=>(A.getD i default).1=(B.getD ((f+i) % B.length) default).1 /\ -w<=(A.getD i default).2-(B.getD ((f+i) % B.length) default).2/\(A.getD i default).2-(B.getD ((f+i) % B.length) default).2<=w
  have hs:∀ (f:Nat) (u:Unit),f<B.length->∃ s:Bool×Int,ync (ycn p q w f u) (((A.length-(0:Int)).toNat)+1) (true,0)=.error (.inr s)/\(s.1=true↔∀ i,i<A.length->P f i):=fun f u hf=>by
   obtain ⟨e, he, s, rfl, hq⟩ := y9e (b := ycn p q w f u) (fun s => 0 <= s.2 /\ s.2 <= (A.length : Int) /\ (s.1 = true -> ∀ i : Nat, (i : Int) < s.2 -> P f i) /\ (s.1 = false -> ∃ i, i < A.length /\ ¬ P f i))
    (fun e=>∃ s:Bool×Int,e=.inr s/\(s.1=true↔∀ i,i<A.length->P f i)) (fun s=>((A.length:Int)-s.2).toNat) (by
    rintro⟨b,i⟩ ⟨i1,i2,i3,i4⟩
    simp only at i1 i2 i3 i4;obtain⟨k,rfl⟩:∃ k:Nat,i=(k:Int):=⟨i.toNat,by omega⟩
    unfold ycn;simp only;rw[hA,hB,List.length_map,List.length_map];by_cases hk:k<A.length
    ·rw[decide_eq_true (show(k:Int)<(A.length:Int)by omega),Bool.true_and]
     cases b with
     | false=>
      right
      rw[cond_false];obtain⟨z,z1,z2⟩:=i4 rfl;exact⟨_,rfl,_,rfl,⟨fun h=>(by cases h),fun h=>absurd (h z z1) z2⟩⟩
     | true=>
      left
      rw[cond_true]
      have ix:((IntKind.wrap .i64 ((f:Int)+(k:Int))).tmod (B.length:Int)).toNat=(f+k) % B.length:=by
       have:=sB.1;have:=sA.1;rw[show IntKind.wrap .i64 ((f:Int)+(k:Int))=((f+k:Nat):Int)by rw[IntKind.wrap_i64];omega];rw[Int.tmod_eq_emod_of_nonneg (by omega), <- Int.natCast_emod,Int.toNat_natCast]
      have hm:(f+k) % B.length<B.length:=Nat.mod_lt _ (by omega);have bu:=sA.at hk;have bv:=sB.at hm;rw[Int.toNat_natCast,ix,yz _ hk,yz _ hm];have hw1:IntKind.wrap .i64 ((k:Int)+1)=(k:Int)+1:=by have:=sA.1;rw[IntKind.wrap_i64];omega
      rw[hw1]
      have hP:(((phB x (A.getD k default)).Color == (phB x (B.getD ((f+k) % B.length) default)).Color) && (zb (IntKind.wrap .i64 ((phB x (A.getD k default)).Length-(phB x (B.getD ((f+k) % B.length) default)).Length)) (IntKind.wrap .i64 (0-w)) w))=true↔P f k:=by
       show((cs x (A.getD k default).1 == cs x (B.getD ((f+k) % B.length) default).1) && (zb (IntKind.wrap .i64 ((A.getD k default).2-(B.getD ((f+k) % B.length) default).2)) (IntKind.wrap .i64 (0-w)) w))=true↔_;rw[y5w,show IntKind.wrap .i64 ((A.getD k default).2-(B.getD ((f+k) % B.length) default).2)=(A.getD k default).2-(B.getD ((f+k) % B.length) default).2 by rw[IntKind.wrap_i64];omega,show IntKind.wrap .i64 (0-w) = -w by rw[IntKind.wrap_i64];omega];unfold zb;rw[Bool.and_eq_true,Bool.and_eq_true,beq_iff_eq,decide_eq_true_eq,decide_eq_true_eq]
      refine⟨_,rfl,⟨by simp only;omega,by simp only;omega,fun hb z hz => ?_,fun hb=>⟨k,hk,fun hp => ?_⟩⟩,by simp only;omega⟩
      ·simp only at hb hz
       by_cases hzk:z=k
       ·rw[hzk];exact hP.1 hb
       ·exact i3 rfl z (by omega)
      ·simp only at hb
       rw[hP.2 hp]at hb;cases hb
    ·right
     rw[decide_eq_false (show ¬ (k:Int)<(A.length:Int)by omega),Bool.false_and,cond_false];refine⟨_,rfl,_,rfl,?_⟩
     cases b with
     | true=>exact⟨fun _ z hz=>i3 rfl z (by omega),fun _=>rfl⟩
     | false=>
      obtain⟨z,z1,z2⟩:=i4 rfl
      exact⟨fun h=>(by cases h),fun h=>absurd (h z z1) z2⟩) (((A.length-(0:Int)).toNat)+1) (true,0) ⟨by simp,by simp only;omega,fun _ z hz=>by simp only at hz;omega,fun h=>(by cases h)⟩ (by simp only;omega)
   exact⟨s,he,hq⟩
  have hb:∀ (f:Nat) (u:Unit),f<B.length->(ymj p q w f u=.error true/\∀ i,i<A.length->P f i)\/(ymj p q w f u=.ok ()/\¬ ∀ i,i<A.length->P f i):=fun f u hf=>by
   obtain⟨s,e1,e2⟩:=hs f u hf;unfold ymj;rw[hA,List.length_map,e1]
   cases hq:s.1 with
   | true=>exact .inl ⟨by simp[hq],e2.1 hq⟩
   | false=>exact .inr ⟨by simp[hq],fun h=>by rw[e2.2 h]at hq;cases hq⟩
  have key:∀ (n f:Nat) (u:Unit),f+n=B.length->(∃ g,g<B.length/\f<=g/\(∀ i,i<A.length->P g i)/\yf (ymj p q w) n f u=.error true)\/((∀ g,f<=g->g<B.length->¬ ∀ i,i<A.length->P g i)/\yf (ymj p q w) n f u=.ok ()):=by
   intro n
   induction n with
   | zero=>intro f u h;exact .inr ⟨fun g h1 h2=>by omega,rfl⟩
   | succ n ih=>
    intro f u h;simp only[yf];rcases hb f u (by omega)with⟨e,hp⟩|⟨e,hp⟩
    ·rw[e];exact .inl ⟨f,by omega,Nat.le_refl _,hp,rfl⟩
    ·rw[e]
     rcases ih (f+1) () (by omega)with⟨g,g1,g2,g3,g4⟩|⟨g1,g2⟩
     ·exact .inl ⟨g,g1,by omega,g3,g4⟩
     ·refine .inr ⟨fun g h1 h2 => ?_,g2⟩
      by_cases hg:g=f
      ·rw[hg];exact hp
      ·exact g1 g (by omega) h2
  rcases key (B.length-0) 0 () (by omega)with⟨g,g1,_,g3,g4⟩|⟨g1,g2⟩
  ·rw[g4]
   exact⟨fun _=>⟨hl,g,g1,g3⟩,fun _=>rfl⟩
  ·rw[g2]
   exact⟨fun h=>(by cases h),fun⟨_,f,hf,h⟩=>absurd h (g1 f (by omega) hf)⟩
 ·rw[show((A.length:Int) != (B.length:Int))=true by rw[bne_iff_ne];omega,cond_true]
  exact⟨fun h=>(by cases h),fun⟨h,_⟩=>absurd h hl⟩
theorem y2k {ρ σ τ:Type} {b1:Nat->σ->Except ρ σ} {b2:Nat->τ->Except ρ τ} (R:Nat->σ->τ->Prop):∀ {k i:Nat} {s:σ} {t:τ},R i s t ->
  (∀ j u v,i<=j->j<i+k->R j u v->(∃ r,b1 j u=.error r/\b2 j v=.error r)\/∃ u' v',b1 j u=.ok u'/\b2 j v=.ok v'/\R (j+1) u' v') ->
  (∃ r,yf b1 k i s=.error r/\yf b2 k i t=.error r)\/∃ u v,yf b1 k i s=.ok u/\yf b2 k i t=.ok v/\R (i+k) u v
 | 0,i,s,t,h,_=>.inr ⟨s,t,rfl,rfl,h⟩
 | k+1,i,s,t,h,hb=>by
  simp only[yf];rcases hb i s t (Nat.le_refl _) (by omega) h with⟨r,h1,h2⟩|⟨u,v,h1,h2,h3⟩
  ·rw[h1,h2];exact .inl ⟨r,rfl,rfl⟩
  ·rw[h1,h2]
   have:=y2k R (k:=k) (i:=i+1) h3 (fun j u v q1 q2 q3=>hb j u v (by omega) (by omega) q3);rwa [show i+1+k=i+(k+1)by omega]at this
theorem ymf {α σ ρ : Type} (p : α -> Bool) (f : σ -> α -> σ) (r : ρ) : ∀ (l : List α) (s : σ), y5h (fun x s => (bif !(p x) then .error r else .ok (f s x) : Except ρ σ)) l s = bif l.all p then .ok (l.foldl f s) else .error r
 | [],s=>by simp[y5h]
 | x::l,s=>by
  rw[y2d]
  cases hx:p x with
  | false=>simp[hx]
  | true=>
   simp only[Bool.not_true,cond_false,List.all_cons,hx,Bool.true_and,List.foldl_cons];exact ymf p f r l (f s x)
def y0p (g:List Int):Prop:=g.length<=4/\(∀ v∈g,1<=v/\v<=9)/\g.sum<=12/\g≠[1]
theorem yce (g:List Int):g.all (fun v=>zd v 1 9)=true↔∀ v∈g,1<=v/\v<=9:=by
 rw[List.all_eq_true];exact⟨fun h v hv=>by simpa [zd]using h v hv,fun h v hv=>by simpa [zd]using h v hv⟩
theorem wsum (g:List Int) (h:g.length<=4) (hv:∀ v∈g,1<=v/\v<=9):g.foldl (fun s x=>IntKind.wrap .i64 (s+x)) 0=g.sum:=by
 have hw:∀ n:Int,-1000<=n->n<=1000->IntKind.wrap .i64 n=n:=fun n _ _=>by rw[IntKind.wrap_i64];omega
 match g,h,hv with
 | [],_,_=>rfl
 | [a],_,hv=>
  have:=hv a (by simp);simp only[List.foldl_cons,List.foldl_nil,List.sum_cons,List.sum_nil];rw[hw _ (by omega) (by omega)];omega
 | [a,b],_,hv=>
  have:=hv a (by simp);have:=hv b (by simp);simp only[List.foldl_cons,List.foldl_nil,List.sum_cons,List.sum_nil];rw[hw (0+a) (by omega) (by omega),hw _ (by omega) (by omega)];omega
 | [a,b,c],_,hv=>
  have:=hv a (by simp);have:=hv b (by simp);have:=hv c (by simp);simp only[List.foldl_cons,List.foldl_nil,List.sum_cons,List.sum_nil];rw[hw (0+a) (by omega) (by omega),hw (0+a+b) (by omega) (by omega),hw _ (by omega) (by omega)];omega
 | [a,b,c,d],_,hv=>
  have:=hv a (by simp);have:=hv b (by simp);have:=hv c (by simp);have:=hv d (by simp);simp only[List.foldl_cons,List.foldl_nil,List.sum_cons,List.sum_nil];rw[hw (0+a) (by omega) (by omega),hw (0+a+b) (by omega) (by omega),hw (0+a+b+c) (by omega) (by omega),hw _ (by omega) (by omega)];omega
theorem yaz (x y:Int):(x != y) = !decide (x=y):=by by_cases h:x=y<;>simp[h]
theorem yaf (a b:List Int):zlb a b=decide (a=b):=by
 unfold zlb;by_cases hl:a.length=b.length
 ·have h1:((a.length:Int) != (b.length:Int))=false:=by rw[hl];simp
  rw[h1];simp only[cond_false]
  rw[yic (b:=ywi a b) (fun j => !decide (a.getD j default=b.getD j default)) false (fun j u _ _=>by
   simp only[ywi,yaz])]
  simp only[Nat.sub_zero,Nat.zero_add];rw[y2o a b hl];by_cases h:a=b<;>simp[h]
 ·have h1:((a.length:Int) != (b.length:Int))=true:=by simp;omega
  rw[h1];have:¬ a=b:=fun h=>hl (by rw[h])
  simp[this]
theorem ydi (g:List Int):zgc g=true↔y0p g:=by
 unfold zgc;rw[ygc (b:=yal g) (fun(x:Int) (s:Int)=>(bif !(zd x 1 9)then .error false else .ok (IntKind.wrap .i64 (s+x)):Except Bool Int)) g 0 (fun j u _=>rfl),ymf (fun x=>zd x 1 9) (fun s x=>IntKind.wrap .i64 (s+x)) false];unfold y0p
 cases ha:g.all (fun x=>zd x 1 9)with
 | false=>
  simp only[cond_false];constructor
  ·intro h;cases h
  ·rintro⟨_,h,_⟩
   rw[(yce g).2 h]at ha;cases ha
 | true=>
  have hv:=(yce g).1 ha;simp only[cond_true,yaf,zfc,Bool.and_eq_true,decide_eq_true_eq,Bool.not_eq_true',decide_eq_false_iff_not];constructor
  ·rintro⟨⟨h1,h2⟩,h3⟩
   rw[wsum g (by omega) hv]at h2;exact⟨by omega,hv,h2,h3⟩
  ·rintro⟨h1,_,h2,h3⟩
   rw[wsum g h1 hv];exact⟨⟨by omega,h2⟩,h3⟩
theorem yud (g:List Int):zbc g=true↔y0p g:=by
 unfold zbc;rw[ygc (b:=yxk g) (fun(x:Int) (s:Unit)=>(bif !(zd x 1 9)then .error false else .ok ():Except Bool Unit)) g () (fun j u _=>rfl),ymf (fun x=>zd x 1 9) (fun(s:Unit) x=>()) false];unfold y0p
 cases ha:g.all (fun x=>zd x 1 9)with
 | false=>
  simp only[cond_false];constructor
  ·intro h;cases h
  ·rintro⟨_,h,_⟩
   rw[(yce g).2 h]at ha;cases ha
 | true=>
  have hv:=(yce g).1 ha
  have hsum:g.length<=4->(zcd g<=12↔g.sum<=12):=by
   intro h4;unfold zcd
   cases g with
   | nil=>simp
   | cons x t=>
    have h0:(((x::t).length:Int) == 0)=false:=by rw[beq_eq_false_iff_ne];simp only[List.length_cons];omega
    rw[h0];simp only[cond_false];rw[ygc (b:=ysl (x::t)) (fun(y:Int) (s:Int)=>(bif !((fun _=>true) y)then .error 0 else .ok (IntKind.wrap .i64 (s+y)):Except Int Int)) (x::t) 0 (fun j u _=>rfl),ymf (fun _=>true) (fun s x=>IntKind.wrap .i64 (s+x)) 0];rw[show(x::t).all (fun _=>true)=true by simp];simp only[cond_true];rw[wsum _ h4 hv]
  have hone:(!(((g.length:Int) == 1) && (g.getD 0 default == 1)))=true↔g≠[1]:=by
   match g with
   | []=>simp
   | [a]=>simp
   | a::b::t=>
    have:((((a::b::t).length:Int)) == 1)=false:=by rw[beq_eq_false_iff_ne];simp only[List.length_cons];omega
    rw[this];simp
  simp only[cond_true];rw[Bool.and_eq_true,Bool.and_eq_true,hone,decide_eq_true_eq,decide_eq_true_eq];constructor
  ·rintro⟨⟨h1,h2⟩,h3⟩
   exact⟨by omega,hv,(hsum (by omega)).1 h3,h2⟩
  ·rintro⟨h1,_,h2,h3⟩
   exact⟨⟨by omega,h3⟩,(hsum h1).2 h2⟩
theorem y9q {g:List Int} (h:g.length=1) (lo hi:Int) (hr:lo<=g.getD 0 default/\g.getD 0 default<=hi):∀ v∈g,lo<=v/\v<=hi:=by
 obtain⟨x,rfl⟩:=List.length_eq_one_iff.1 h;intro v hv;rw[List.mem_singleton]at hv;subst hv;simpa using hr
theorem ype {g:List Int} (h:(g.length:Int)=0):g.length<=4/\∀ v∈g,1<=v/\v<=9:=by
 have:g=[]:=List.length_eq_zero_iff.1 (by omega);subst this;simp
theorem yug (a:Character) (h:zcb a=true):a.Group.length<=4/\∀ v∈a.Group,1<=v/\v<=9:=by
  unfold zcb at h;simp only[Bool.cond_eq_ite]at h;repeat' split at h
  all_goals (try simp only[Bool.and_eq_true,Bool.or_eq_true,beq_iff_eq,yaf,decide_eq_true_eq,zd]at h)
  all_goals first
    | exact ype h.1
    | exact ype h.2
    | (have:=(ydi _).1 h.2;exact⟨this.1,this.2.1⟩)
    | (rcases h with h | h
       . exact ype h
       . exact⟨by omega,fun v hv=>by have:=y9q (g:=a.Group) (by omega) 2 9 h.2 v hv;omega⟩)
    | (rw[h.2];simp)
    | (cases h)
theorem yml (a:Character) (h:zqc a=true):a.Group.length<=4/\(∀ v∈a.Group,1<=v/\v<=9)/\(a.Kind=8->a.Letter.length=1/\65<=(a.Letter.getD 0 0).toNat/\(a.Letter.getD 0 0).toNat<=90):=by
 unfold zqc at h;simp only[Bool.cond_eq_ite]at h;repeat' split at h
 all_goals (try simp only[Bool.and_eq_true,Bool.or_eq_true,beq_iff_eq,decide_eq_true_eq]at *)
 all_goals first
  | (cases h;done)
  | (exact⟨(ype h.1).1,(ype h.1).2,by intro h8;omega⟩)
  | (exact⟨by omega,fun v hv=>by have:=y9q (g:=a.Group) (by omega) 6 6 (by omega) v hv;omega,by intro h8;omega⟩)
  | (have:=(yud _).1 h.2;exact⟨this.1,this.2.1,by intro h8;omega⟩)
  | (exact⟨(ype h.1.1.1).1,(ype h.1.1.1).2,fun _=>⟨by omega,by omega,by omega⟩⟩)
set_option maxRecDepth 10000 in
theorem y4u:∀ n:Fin 256,zwc (n.val:Int)=zkd [87,82,71,89] (n.val:Int)+1 /\ -1<=zkd [87,82,71,89] (n.val:Int):=by decide
theorem yky (b:UInt8):zwc (b.toNat:Int)=zkd [87,82,71,89] (b.toNat:Int)+1 /\ -1<=zkd [87,82,71,89] (b.toNat:Int):=
 y4u ⟨b.toNat,b.toNat_lt⟩
theorem yts (s:List UInt8) (hl:s.length<9223372036854775808):ztb s=zub s:=by
 unfold ztb zub
 have hs:=y2k (b1:=yti s) (b2:=yoh s) (fun i (x:Int) (_:Unit)=>if i=0 then x = -1 else x+1=zwc ((s.getD (i-1) 0).toNat:Int)/\0<=x) (k:=s.length-0) (i:=0) (s := -1) (t:=()) (by simp) (by
  intro j x u _ hj h;unfold yti yoh;obtain⟨r1,r2⟩:=yky (s.getD j 0);rw[r1];generalize zkd [87,82,71,89] ((s.getD j 0).toNat:Int)=p at *;by_cases h0:j=0
  ·subst h0
   rw[if_pos rfl]at h;subst h;simp only[Int.natCast_zero,show decide ((0:Int)<0)=false from rfl,Bool.false_and,Bool.or_false];by_cases hp:p = -1
   ·subst hp;left;exact⟨false,rfl,rfl⟩
   ·right
    have d1:decide (p <= -1)=false:=decide_eq_false (by omega);have d2:(p+1 == 0)=false:=by rw[beq_eq_false_iff_ne];omega
    rw[d1,d2];exact⟨p,(),rfl,rfl,by rw[if_neg (by omega)];exact⟨r1.symm,by omega⟩⟩
  ·rw[if_neg h0]at h
   obtain⟨h1,h2⟩:=h;have d3:decide (0<(j:Int))=true:=decide_eq_true (by omega);have hw:(IntKind.wrap .i64 ((j:Int)-1)).toNat=j-1:=by rw[IntKind.wrap_i64];omega
   rw[d3,hw, <- h1];simp only[Bool.true_and];by_cases hp:p<=x
   ·left
    have d1:decide (p<=x)=true:=decide_eq_true hp
    have d2:(p+1 == 0 || decide (p+1<=x+1))=true:=by
     rw[Bool.or_eq_true,decide_eq_true_eq];right;omega
    rw[d1,d2];exact⟨false,rfl,rfl⟩
   ·right
    have d1:decide (p<=x)=false:=decide_eq_false hp
    have d2:(p+1 == 0 || decide (p+1<=x+1))=false:=by
     rw[Bool.or_eq_false_iff,beq_eq_false_iff_ne,decide_eq_false_iff_not];omega
    rw[d1,d2]
    exact⟨p,(),rfl,rfl,by rw[if_neg (by omega)];exact⟨by rw[show j+1-1=j by omega];exact r1.symm,by omega⟩⟩)
 rcases hs with⟨r,h1,h2⟩|⟨u,v,h1,h2,_⟩
 ·rw[h1,h2]
 ·rw[h1,h2]
  simp only[zd]
def zcc (a0:Character):Bool:=
 (bif ((!(ztb a0.Colors)) || (!(zcb a0)))then false else(bif (zgb a0)then(a0.Period == 0)else((zd a0.Period (zqe a0) 600) && ((a0.Kind != 3) || ((a0.Period.tmod 2) == 0)))))
namespace N48
theorem DD:DOk Tryz.prog (Go.Ab.DD [(47,dP D_zd),(76,dP D_ztb),(77,dP D_zcb),(78,dP D_zgb),(79,dP D_zqe)]):=ya yfc.e <| ya ywv.e <| ya yrv.e <| ya ypj.e <| ya y5u.e <| ye _
theorem dn:type_of% (And.intro @D_zd.eq_1 <| And.intro @D_ztb.eq_1 <| And.intro @D_zcb.eq_1 <| And.intro @D_zgb.eq_1 <| @D_zqe.eq_1):=by and_intros<;>intros<;>rfl
theorem ol:type_of% (@zd.eq_1):=@zd.eq_1
theorem o0 {p:Prop} (h:p:=by(first|(have q9 := ‹(!ztb a0.Colors || !zcb a0)=false›;have h9:=yug a0 (by simp only[Bool.or_eq_false_iff,Bool.not_eq_false']at q9;exact q9.2);first|exact⟨hb0,h9.1,fun v hv=>(h9.2 v hv).2,fun _ _=>by decide⟩|exact⟨hb0,h9.1,fun v hv=>(h9.2 v hv).2⟩|exact h9.1));first|done|fail):p:=h
theorem den (a0:Character) (hb0:bdCharacter a0):Den Tryz.prog 48 [.agg (eCharacter a0)] (.bool (zcc a0)):=by
 generalize hR:zcc a0=r;unfold zcc at hR;refine di Tryz.func48 Tryz.ntmps48 Tryz.results48 ?_;intro c hL hc hk;obtain⟨hL0,_⟩:=hL;have hw0:bwCharacter a0:=yj a0 hL0;clear hL0;simp only[pars,Nat.zero_add];iterate 2 refine rS ?_
 refine AWP.cond rfl (fun hb => ?_) (fun hb => ?_)
 ·replace hR:=ct hR
  refine rS ?_;refine AWP.ret ?_;subst hR;exact es
 ·replace hR:=cf hR
  refine rS ?_;refine AWP.cond rfl (fun hb => ?_) (fun hb => ?_)
  ·replace hR:=ct hR
   refine rS ?_;refine AWP.ret ?_;subst hR;exact es
  ·replace hR:=cf hR
   refine rD 16 ?_;refine AWP.ret ?_;subst hR;exact es
end N48
def D_zcc : DF
 | [x0]=>some (.bool (zcc (rdG yb x0)),false,[wG eCharacter yb x0,bdCharacter (rdG yb x0)])
 | _=>none
theorem y7v:OkD Tryz.prog 48 D_zcc:=by unfold D_zcc;exact dk N48.den
def zi (a0:Character):Bool:=
 (bif (!(zqc a0))then false else(bif (zdb a0)then(a0.Period == 0)else(bif ((a0.Kind == 3) && ((a0.Period.tmod 2) != 0))then false else(zb a0.Period (zmd a0) 600))))
namespace N34
theorem DD:DOk Tryz.prog (Go.Ab.DD [(29,dP D_zb),(60,dP D_zqc),(61,dP D_zdb),(62,dP D_zmd)]):=ya yfd.e <| ya y4t.e <| ya y6j.e <| ya yav.e <| ye _
theorem dn:type_of% (And.intro @D_zb.eq_1 <| And.intro @D_zqc.eq_1 <| And.intro @D_zdb.eq_1 <| @D_zmd.eq_1):=by and_intros<;>intros<;>rfl
theorem ol:type_of% (@zb.eq_1):=@zb.eq_1
theorem o0 {p:Prop} (h:p:=by(first|(have q9 := ‹(!zqc a0)=false›;have h9:=yml a0 (by simpa using q9);first|exact⟨hb0,h9.1,fun v hv=>(h9.2.1 v hv).2,h9.2.2⟩|exact⟨h9.1,fun v hv=>(h9.2.1 v hv).2,h9.2.2⟩|(and_intros<;>first|exact hb0|exact h9.1|exact fun v hv=>(h9.2.1 v hv).2|exact h9.2.2|decide|(intros;decide))));first|done|fail):p:=h
theorem den (a0:Character) (hb0:bdCharacter a0):Den Tryz.prog 34 [.ep (eCharacter a0)] (.bool (zi a0)):=by
 generalize hR:zi a0=r;unfold zi at hR;refine di Tryz.func34 Tryz.ntmps34 Tryz.results34 ?_;intro c hL hc hk;obtain⟨hL0,_⟩:=hL;have hw0:bwCharacter a0:=yj a0 hL0;clear hL0;simp only[pars,Nat.zero_add];iterate 2 refine rS ?_
 refine AWP.cond rfl (fun hb => ?_) (fun hb => ?_)
 ·replace hR:=ct hR
  refine rS ?_;refine AWP.ret ?_;subst hR;exact es
 ·replace hR:=cf hR
  refine rS ?_;refine AWP.cond rfl (fun hb => ?_) (fun hb => ?_)
  ·replace hR:=ct hR
   refine rS ?_;refine AWP.ret ?_;subst hR;exact es
  ·replace hR:=cf hR
   refine rS ?_;refine AWP.cond rfl (fun hb => ?_) (fun hb => ?_)
   ·replace hR:=ct hR
    refine rS ?_;refine AWP.ret ?_;subst hR;exact es
   ·replace hR:=cf hR
    refine rD 6 ?_;refine AWP.ret ?_;subst hR;exact es
end N34
def D_zi : DF
 | [x0]=>some (.bool (zi (rdP yb x0)),false,[wP eCharacter yb x0,bdCharacter (rdP yb x0)])
 | _=>none
theorem ysy:OkD Tryz.prog 34 D_zi:=by unfold D_zi;exact dk N34.den
theorem yvw (g:List Int):zgc g=zbc g:=Bool.eq_iff_iff.2 ((ydi g).trans (yud g).symm)
theorem yep (a:List UInt8):(zfb a != [])=decide (a.length=1/\65<=(a.getD 0 0).toNat/\(a.getD 0 0).toNat<=90):=by
 rw[yqg];by_cases h:a.length=1/\65<=(a.getD 0 0).toNat/\(a.getD 0 0).toNat<=90
 ·rw[if_pos h,decide_eq_true h]
  have hlt:(a.getD 0 0).toNat-65<yac.length:=by show _<26;omega
  rw[List.getD_eq_getElem?_getD,List.getElem?_eq_getElem hlt,Option.getD_some];have:=(y6e _ (List.getElem_mem hlt)).1;rw[bne_iff_ne];intro h2;rw[h2]at this;simp at this
 ·rw[if_neg h,decide_eq_false h];rfl
theorem yzu (L:List UInt8) (g:List Int) :
  (bif (L == [])then(((g.length:Int) == 0) || (((g.length:Int) == 1) && (zd (g.getD 0 default) 2 9)))else((L == [76]) && (zlb g [6]))) =
  (bif (L == [76])then(((g.length:Int) == 1) && ((g.getD 0 default) == 6))else(((L == []) && decide ((g.length:Int)<=1)) && (zbc g))):=by
 by_cases h1:L=[]
 ·subst h1
  simp only[show(([]:List UInt8) == [])=true from rfl,show(([]:List UInt8) == [76])=false from rfl,cond_true,cond_false,Bool.true_and];apply Bool.eq_iff_iff.2;rw[Bool.and_eq_true,yud,decide_eq_true_eq]
  match g with
  | []=>simp[y0p]
  | [x]=>
   have e:((([x]:List Int).length:Int) == 0)=false:=rfl;have e2:((([x]:List Int).length:Int) == 1)=true:=rfl;rw[e,e2];simp only[Bool.false_or,Bool.true_and,zd,Bool.and_eq_true,decide_eq_true_eq,List.getD_cons_zero,y0p,List.length_singleton,List.mem_singleton,forall_eq,List.sum_cons,List.sum_nil,ne_eq,List.cons.injEq,and_true];omega
  | x::y::t=>
   have e:(((x::y::t).length:Int) == 0)=false:=by rw[beq_eq_false_iff_ne];simp only[List.length_cons];omega
   have e2:(((x::y::t).length:Int) == 1)=false:=by rw[beq_eq_false_iff_ne];simp only[List.length_cons];omega
   rw[e,e2];simp only[Bool.false_and,Bool.or_self,Bool.false_eq_true,false_iff,List.length_cons];omega
 ·have e1:(L == [])=false:=by simpa using h1
  rw[e1];by_cases h2:L=[76]
  ·subst h2
   simp only[BEq.rfl,cond_true,cond_false,Bool.true_and,yaf];apply Bool.eq_iff_iff.2;rw[Bool.and_eq_true,decide_eq_true_eq,beq_iff_eq,beq_iff_eq];constructor
   ·intro h;subst h;simp
   ·rintro⟨h3,h4⟩
    obtain⟨x,rfl⟩:=List.length_eq_one_iff.1 (show g.length=1 by omega);simp only[List.getD_cons_zero]at h4;rw[h4]
  ·have e2:(L == [76])=false:=by simpa using h2
   rw[e2];simp
theorem yxo (c:Character) (hl:c.Colors.length<9223372036854775808):zqc c=(ztb c.Colors && zcb c):=by
 unfold zqc zcb zwd zb;rw[yts _ hl, <- yzu,yvw,yep]
 cases zub c.Colors with
 | false=>simp
 | true=>
  simp only[Bool.not_true,Bool.or_false,Bool.true_and];rcases(show c.Kind=1\/c.Kind=2\/c.Kind=3\/c.Kind=4\/c.Kind=5\/c.Kind=6\/c.Kind=7\/c.Kind=8\/(c.Kind<1\/8<c.Kind)by omega)with h|h|h|h|h|h|h|h|h
  ·rw[h];rfl
  ·rw[h];rfl
  ·rw[h];rfl
  ·rw[h];rfl
  ·rw[h];rfl
  ·rw[h];rfl
  ·rw[h];rfl
  ·rw[h]
   show((((((c.Group.length:Int) == 0) && ((c.Letter.length:Int) == 1)) && decide (65<=((c.Letter.getD 0 0).toNat:Int))) && decide (((c.Letter.getD 0 0).toNat:Int)<=90)))=(decide (c.Letter.length=1/\65<=(c.Letter.getD 0 0).toNat/\(c.Letter.getD 0 0).toNat<=90) && ((c.Group.length:Int) == 0))
   apply Bool.eq_iff_iff.2;simp only[Bool.and_eq_true,beq_iff_eq,decide_eq_true_eq];omega
  ·have e0:(decide (1<=c.Kind) && decide (c.Kind<=8))=false:=by
    rw[Bool.and_eq_false_iff,decide_eq_false_iff_not,decide_eq_false_iff_not];omega
   have e:∀ n:Int,1<=n->n<=8->(c.Kind == n)=false:=fun n h1 h2=>by rw[beq_eq_false_iff_ne];omega
   rw[e0,e 1 (by omega) (by omega),e 2 (by omega) (by omega),e 3 (by omega) (by omega),e 4 (by omega) (by omega),e 5 (by omega) (by omega),e 6 (by omega) (by omega),e 7 (by omega) (by omega),e 8 (by omega) (by omega)];rfl
theorem yjs (l:List Int):zyb l=zp l:=rfl
theorem yld (c:Character):zgb c=zdb c:=rfl
theorem y1s (c:Character) (h:zcb c=true) (h8:c.Kind≠8):(c.Letter != [])=(c.Letter == [76]):=by
 unfold zcb at h;simp only[Bool.cond_eq_ite]at h;have e8:(c.Kind == 8)=false:=by rw[beq_eq_false_iff_ne];exact h8
 repeat' split at h
 all_goals first
  | (rename_i q;rw[e8]at q;cases q;done)
  | (cases h;done)
  | (simp only[Bool.and_eq_true,beq_iff_eq]at h;rw[h.2];rfl)
  | (simp only[Bool.and_eq_true,beq_iff_eq]at h;rw[h.1];rfl)
  | (rename_i q;simp only[beq_iff_eq]at q;rw[q];rfl)
theorem yah (k:Int) (h:k=2\/k=4\/k=5\/k=6\/k=7\/k=8):(zg k).1=zhb k/\(zg k).2.1=zk k:=by
 rcases h with h|h|h|h|h|h<;>subst h<;>exact⟨rfl,rfl⟩
theorem y7o (c:Character) (h:zcb c=true) (hk:c.Kind=2\/c.Kind=4\/c.Kind=5\/c.Kind=6\/c.Kind=7\/c.Kind=8):ze c=za c:=by
 obtain⟨r1,r2⟩:=yah c.Kind hk;by_cases h8:c.Kind=8
 ·have hs:(zfb c.Letter != [])=true:=by
   unfold zcb at h;rw[h8]at h;have h:(((zfb c.Letter) != []) && ((c.Group.length:Int) == 0))=true:=h;rw[Bool.and_eq_true]at h;exact h.1
  rw[yep,decide_eq_true_eq]at hs;have e1:=yqg c.Letter;rw[if_pos hs]at e1;have e2:=yje ((c.Letter.getD 0 0).toNat:Int);rw[ygh _ (by omega) (by omega),show((((c.Letter.getD 0 0).toNat:Int)-65).toNat)=(c.Letter.getD 0 0).toNat-65 by omega]at e2;have hd:(default:List UInt8)=[]:=rfl;rw[hd]at e2
  have hall:∀ x∈yac.getD ((c.Letter.getD 0 0).toNat-65) [],x=45\/x=46:=by
   have hlt:(c.Letter.getD 0 0).toNat-65<yac.length:=by show _<26;omega
   rw[List.getD_eq_getElem?_getD,List.getElem?_eq_getElem hlt,Option.getD_some];exact(y6e _ (List.getElem_mem hlt)).2.2
  generalize yac.getD ((c.Letter.getD 0 0).toNat-65) []=code at *
  have hb:yf (y5p c) code.length 0 []=yf (yig c) code.length 0 []:=yvi _ _ _ (fun j u _ hj=>by
   unfold y5p yig;rw[e1,e2,r1,r2,h8]
   have hg:(code.map (fun c=>if c=46 then(5:Int)else 15)).getD j default=if code.getD j 0=46 then 5 else 15:=by
    rw[List.getD_eq_getElem?_getD,List.getD_eq_getElem?_getD,List.getElem?_map,List.getElem?_eq_getElem (by omega)];rfl
   rw[hg];have hm:=hall (code.getD j 0) (by rw[List.getD_eq_getElem?_getD,List.getElem?_eq_getElem (by omega),Option.getD_some];exact List.getElem_mem _);generalize code.getD j 0=x at hm
   rcases hm with hm|hm<;>subst hm<;>rfl)
  unfold ze za;rw[h8,e1,e2];simp only[List.length_map,Nat.sub_zero];rw[hb];rfl
 ·have e8:(c.Kind == 8)=false:=by rw[beq_eq_false_iff_ne];exact h8
  unfold ze za;rw[e8,y1s c h h8,r2]
  have b3:yxq c=yzf c:=by
   funext i s j t
   unfold yxq yzf;rw[r1,r2]
  have b5:yuq c=yjg c:=by
   funext i s j t
   unfold yuq yjg;rw[r1,r2]
  have b2:yaq c=yne c:=by
   funext i s
   unfold yaq yne;rw[b3];all_goals rfl
  have b4:ybq c=yfg c:=by
   funext i s
   unfold ybq yfg;rw[b5];all_goals rfl
  rw[b2,b4];rfl
theorem y6o (c:Character) (h:zcb c=true) (hs:zgb c=false):zqe c=zmd c:=by
 unfold zqe zmd;rw[hs, <- yld,hs];simp only[cond_false];by_cases h3:c.Kind=3
 ·rw[h3];rfl
 ·have e3:(c.Kind == 3)=false:=by rw[beq_eq_false_iff_ne];exact h3
  rw[e3];simp only[cond_false]
  have hk:c.Kind=2\/c.Kind=4\/c.Kind=5\/c.Kind=6\/c.Kind=7\/c.Kind=8:=by
   unfold zcb at h;unfold zgb at hs;simp only[Bool.cond_eq_ite]at h;simp only[Bool.or_eq_false_iff,beq_eq_false_iff_ne]at hs;repeat' split at h
   all_goals (try simp only[beq_iff_eq]at *)
   all_goals first|omega|(cases h;done)
  rw[y7o c h hk,yjs];have hg:=(yug c h).1
  have hone:c.Kind=6\/c.Kind=7\/c.Kind=8->c.Group.length<=1:=by
   intro hq;unfold zcb at h;simp only[Bool.cond_eq_ite]at h;repeat' split at h
   all_goals (try simp only[Bool.and_eq_true,Bool.or_eq_true,beq_iff_eq,yaf,decide_eq_true_eq]at *)
   all_goals first|omega|(rcases h with h|h<;>omega)|(rw[h.2];simp)
  have e1:∀ n:Int,IntKind.wrap .i64 n=n\/True:=fun _=>.inr trivial
  unfold zxc;rcases hk with hk|hk|hk|hk|hk|hk
  ·rw[hk]
   cases decide (1<(c.Group.length:Int))<;>rfl
  ·rw[hk]
   cases decide (1<(c.Group.length:Int))<;>rfl
  ·rw[hk]
   cases decide (1<(c.Group.length:Int))<;>rfl
  ·have:=hone (by omega)
   rw[hk,decide_eq_false (show ¬ 1<(c.Group.length:Int)by omega)];rfl
  ·have:=hone (by omega)
   rw[hk,decide_eq_false (show ¬ 1<(c.Group.length:Int)by omega)];rfl
  ·have:=hone (by omega)
   rw[hk,decide_eq_false (show ¬ 1<(c.Group.length:Int)by omega)];rfl
theorem yog (c:Character) (hl:c.Colors.length<9223372036854775808):zcc c=zi c:=by
 unfold zcc zi;rw[yxo c hl, <- yld]
 cases h1:ztb c.Colors with
 | false=>rfl
 | true=>
  cases h2:zcb c with
  | false=>rfl
  | true=>
   cases h3:zgb c with
   | true=>rfl
   | false=>
    rw[y6o c h2 h3];simp only[Bool.not_true,Bool.or_self,Bool.and_self,cond_false,zd,zb]
    cases h4:(c.Kind == 3)with
    | false=>
     have:(c.Kind != 3)=true:=by rw[bne,h4];rfl
     rw[this];simp
    | true=>
     have:(c.Kind != 3)=false:=by rw[bne,h4];rfl
     rw[this];simp only[Bool.false_or,Bool.true_and]
     cases h5:(c.Period.tmod 2 == 0)with
     | true=>
      have:(c.Period.tmod 2 != 0)=false:=by rw[bne,h5];rfl
      rw[this];simp
     | false=>
      have:(c.Period.tmod 2 != 0)=true:=by rw[bne,h5];rfl
      rw[this];simp
theorem y0c {c:Character} (h:zi c=true):zqc c=true:=by
 unfold zi at h
 cases hs:zqc c with
 | true=>rfl
 | false=>rw[hs]at h;simp at h
theorem yse {c:Character} (h:zi c=true):c.Group.length<=4/\(∀ v∈c.Group,1<=v/\v<=9)/\(c.Kind=8->c.Letter.length=1/\65<=(c.Letter.getD 0 0).toNat/\(c.Letter.getD 0 0).toNat<=90):=yml c (y0c h)
theorem yfh {c:Character} (h:zi c=true) (hb:bdCharacter c) (k1:c.Kind≠1) (k3:c.Kind≠3):ze c=za c/\(ze c).length<=100:=by
 have hs:=y0c h
 have hk:zwd c.Kind=true:=by
  unfold zqc at hs
  cases hk:zwd c.Kind with
  | true=>rfl
  | false=>rw[hk]at hs;simp at hs
 have hr:1<=c.Kind/\c.Kind<=8:=by unfold zwd zb at hk;simp at hk;omega
 rw[yxo c (Nat.lt_of_lt_of_le hb.2.2 (by decide)),Bool.and_eq_true]at hs;have e:=y7o c hs.2 (by omega);obtain⟨g1,g2,_⟩:=yse h;exact⟨e,by rw[e];exact(y1e c g1 g2).1⟩
def yqf (a0:Character) (a1:(List UInt8)) (i1:Nat) (s1:List Phase):Except ((List Phase)) (List Phase):=
 (bif (!((((i1:Int).tmod 2) == 1) == (a0.Kind == 2)))then .ok (s1++[{ Color:=[],Length:=(((za a0)++([(zk a0.Kind)]:List Int)).getD i1 default):Phase }])else .ok (s1++[{ Color:=a1,Length:=(((za a0)++([(zk a0.Kind)]:List Int)).getD i1 default):Phase }]))
def yhi (a0:Character) (a1:(List UInt8)) (i2:Nat) (s2:List Phase):Except ((List Phase)) (List Phase):=
 (bif (!((((i2:Int).tmod 2) == 1) == (a0.Kind == 2)))then .ok (s2++[{ Color:=[],Length:=(((za a0)++([IntKind.wrap .i64 (a0.Period-(zp (za a0)))]:List Int)).getD i2 default):Phase }])else .ok (s2++[{ Color:=a1,Length:=(((za a0)++([IntKind.wrap .i64 (a0.Period-(zp (za a0)))]:List Int)).getD i2 default):Phase }]))
def zf (a0:Character) (a1:(List UInt8)):(List Phase):=
 (bif (a0.Kind == 1)then[{ Color:=a1,Length:=10:Phase }]else(bif (a0.Kind == 3)then[{ Color:=a1,Length:=IntKind.wrap .i64 (a0.Period.tdiv 2):Phase },{ Color:=[],Length:=IntKind.wrap .i64 (a0.Period.tdiv 2):Phase }]else(bif (zdb a0)then(match yf (yqf a0 a1) (((za a0).length+1)-0) 0 ([]:List Phase)with|.error e=>e|.ok s1=>s1)else(match yf (yhi a0 a1) (((za a0).length+1)-0) 0 ([]:List Phase)with|.error e=>e|.ok s2=>s2))))
namespace N67
theorem DD:DOk Tryz.prog (Go.Ab.DD [(100,dP D_zp),(101,dP D_za),(106,dP D_zk),(61,dP D_zdb)]):=ya y7s.e <| ya y2s.e <| ya yin.e <| ya y6j.e <| ye _
theorem dn:type_of% (And.intro @D_zp.eq_1 <| And.intro @D_za.eq_1 <| And.intro @D_zk.eq_1 <| @D_zdb.eq_1):=by and_intros<;>intros<;>rfl
theorem o0 {p:Prop} (h:p:=by(first|(exact⟨hp2,hcg.1,fun v hv=>(hcg.2.1 v hv).2,hcg.2.2⟩)|(exact⟨hp2,hcg.1,fun v hv=>(hcg.2.1 v hv).2⟩));first|done|fail):p:=h
theorem o2 {p:Prop} (h:p:=by(first|((repeat' with_reducible apply And.intro)<;>first|(simp only[List.length_append,List.length_singleton];(first|done|fail))|(rw[IntKind.wrap_i64];omega)|(intro j hj;by_cases hji:j<(za a0).length;(focus(simp only[y6g hji,yhn hji,cond_true];first|(first|done|fail)|with_reducible rfl));(have e0:j-(za a0).length=0:=by omega);(simp only[ysh hji hj,y0n hji,cond_false,e0,elt,borrowL,borrow];first|(first|done|fail)|with_reducible rfl))|decide)|((repeat' with_reducible apply And.intro)<;>first|(simp only[List.length_append,List.length_singleton];(first|done|fail))|(rw[IntKind.wrap_i64];omega)|(intro j hj;by_cases hji:j<s1.length;(focus(simp only[y6g hji,yhn hji,cond_true];first|(first|done|fail)|with_reducible rfl));(have e0:j-s1.length=0:=by omega);(simp only[ysh hji hj,y0n hji,cond_false,e0,elt,borrowL,borrow];first|(first|done|fail)|with_reducible rfl))|decide)|((repeat' with_reducible apply And.intro)<;>first|(simp only[List.length_append,List.length_singleton];(first|done|fail))|(rw[IntKind.wrap_i64];omega)|(intro j hj;by_cases hji:j<s2.length;(focus(simp only[y6g hji,yhn hji,cond_true];first|(first|done|fail)|with_reducible rfl));(have e0:j-s2.length=0:=by omega);(simp only[ysh hji hj,y0n hji,cond_false,e0,elt,borrowL,borrow];first|(first|done|fail)|with_reducible rfl))|decide));first|done|fail):p:=h
theorem lx {p:Prop} (h:p:=by(exact lxx);first|done|fail):p:=h
set_option maxHeartbeats 2000000 in
set_option maxRecDepth 20000 in
theorem den (a0:Character) (a1:(List UInt8)) (hp0:zi a0=true) (hp1:a1.length<=1) (hp2:bdCharacter a0):Den Tryz.prog 67 [.ep (eCharacter a0),.str a1] (ownL 105 2 ym (zf a0 a1)):=by
 generalize hR:zf a0 a1=r;unfold zf at hR;refine di Tryz.func67 Tryz.ntmps67 Tryz.results67 ?_;intro c hL hc hk;obtain⟨hL0,hL1,_⟩:=hL;have hw0:bwCharacter a0:=yj a0 hL0;have hw1:a1.length<9223372036854775808:=Nat.lt_succ_of_le hL1;clear hL0 hL1;simp only[pars,Nat.zero_add];have hcg:=yse hp0;have htm:=(y1e a0 hcg.1 hcg.2.1).1;iterate 2 refine rS ?_
 refine AWP.cond rfl (fun hb => ?_) (fun hb => ?_)
 ·replace hR:=ct hR
  refine rS ?_;refine AWP.ret ?_;subst hR;exact es
 ·replace hR:=cf hR
  refine rS ?_;refine AWP.cond rfl (fun hb => ?_) (fun hb => ?_)
  ·replace hR:=ct hR
   refine AWP.seq ?_;refine AWP.regP mixed G_ok DD hc 14 [0,1,2,3,4,5,6,7,8,9,10,11,12] (.alt 13 [] [1,2,7,8] .leaf .stop) (by kernel_rfl) (by kernel_rfl) (by kernel_rfl) (fun K hK => ?_);simp only[yan,runN,runP,ywc,nthO,ea,absV,absVL,cput,gv,sv,dn,reduceCtorEq,reduceIte,Nat.reduceBEq,Nat.reduceAdd,Nat.reduceEqDiff,Nat.reduceLT,Nat.reduceLeDiff,Nat.reduceMul,Nat.reduceSub,BEq.rfl,beq_self_eq_true,Int.reduceToNat];repeat' apply And.intro
   all_goals first|refine hK _ ?_|exact ot
   all_goals clear hK K
   refine AWP.ret ?_;subst hR;exact es
  ·replace hR:=cf hR
   refine rS ?_;refine rD 6 ?_;refine rS ?_;refine AWP.cond rfl (fun hb => ?_) (fun hb => ?_)
   ·replace hR:=ct hR
    iterate 4 refine rS ?_
    refine AWP.block ?_;generalize hz1:yf (yqf a0 a1) (((za a0).length+1)-0) 0 ([]:List Phase)=z1 at hR;refine AWP.range (yqf a0 a1) (fun i1 s1=>⟨[(0,.ep (eCharacter a0)),(1,.str a1),(5,.ref 0 1 0 ((za a0).length+1)),(7,.ref 1 2 0 s1.length),(8,.int .i64 (i1:Int))],[.arr 2 1 ((za a0)++([(zk a0.Kind)]:List Int)).length (fun j=>yq (((za a0)++([(zk a0.Kind)]:List Int)).getD j default)),.arr 105 2 s1.length (fun j=>ym (s1.getD j default))]⟩) (fun i1 s1=>s1.length<=([]:List Phase).length+1 * i1) (((za a0).length+1)) 0 ([]:List Phase) [2,3] hz1 ot wt sm ?_;clear hz1;intro i1 s1 hi1 hW1 hz1;refine rS ?_;refine AWP.cond rfl (fun hb => ?_) (fun hb => ?_)
    ·have hlt1:i1<((za a0).length+1):=ot
     rw[yg hlt1]at hz1;simp only[yqf]at hz1;iterate 2 refine rS ?_
     refine AWP.cond rfl (fun hb => ?_) (fun hb => ?_)
     ·simp only[hb,cond_true]at hz1
      iterate 3 refine rS ?_
      exact⟨_,[0,3],hlt1,wt,hz1,sm⟩
     ·simp only[hb,cond_false]at hz1
      iterate 2 refine rS ?_
      exact⟨_,[0,3],hlt1,wt,hz1,sm⟩
    ·obtain rfl:i1=((za a0).length+1):=ot
     rw[yh (Nat.le_refl _)]at hz1;subst hz1;dsimp only at hR;refine AWP.exit ?_;refine yc ?_;refine rS ?_;refine AWP.ret ?_;subst hR;exact es
   ·replace hR:=cf hR
    iterate 3 refine rS ?_
    refine AWP.block ?_;generalize hz2:yf (yhi a0 a1) (((za a0).length+1)-0) 0 ([]:List Phase)=z2 at hR;refine AWP.range (yhi a0 a1) (fun i2 s2=>⟨[(0,.ep (eCharacter a0)),(1,.str a1),(5,.ref 0 1 0 ((za a0).length+1)),(7,.ref 1 2 0 s2.length),(8,.int .i64 (i2:Int))],[.arr 2 1 ((za a0)++([IntKind.wrap .i64 (a0.Period-(zp (za a0)))]:List Int)).length (fun j=>yq (((za a0)++([IntKind.wrap .i64 (a0.Period-(zp (za a0)))]:List Int)).getD j default)),.arr 105 2 s2.length (fun j=>ym (s2.getD j default))]⟩) (fun i2 s2=>s2.length<=([]:List Phase).length+1 * i2) (((za a0).length+1)) 0 ([]:List Phase) [2,3] hz2 ot wt sm ?_;clear hz2;intro i2 s2 hi2 hW2 hz2;refine rS ?_;refine AWP.cond rfl (fun hb => ?_) (fun hb => ?_)
    ·have hlt2:i2<((za a0).length+1):=ot
     rw[yg hlt2]at hz2;simp only[yhi]at hz2;iterate 2 refine rS ?_
     refine AWP.cond rfl (fun hb => ?_) (fun hb => ?_)
     ·simp only[hb,cond_true]at hz2
      iterate 3 refine rS ?_
      exact⟨_,[0,3],hlt2,wt,hz2,sm⟩
     ·simp only[hb,cond_false]at hz2
      iterate 2 refine rS ?_
      exact⟨_,[0,3],hlt2,wt,hz2,sm⟩
    ·obtain rfl:i2=((za a0).length+1):=ot
     rw[yh (Nat.le_refl _)]at hz2;subst hz2;dsimp only at hR;refine AWP.exit ?_;refine yc ?_;refine rS ?_;refine AWP.ret ?_;subst hR;exact es
end N67
def D_zf : DF
 | [x0,x1]=>some (ownL 105 2 ym (zf (rdP yb x0) (rdS x1)),false,[wP eCharacter yb x0,wS x1,zi (rdP yb x0)=true,(rdS x1).length<=1,bdCharacter (rdP yb x0)])
 | _=>none
theorem ywx:OkD Tryz.prog 67 D_zf:=by unfold D_zf;exact dk N67.den
end Go.Ab
