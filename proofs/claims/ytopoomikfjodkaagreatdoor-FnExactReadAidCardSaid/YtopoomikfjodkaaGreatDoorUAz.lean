/- A part of a proof: walks of functions and lemmas of our own. No conditions. -/
import Derived.Test.YtopoomikfjodkaaGreatDoorUAo
import Derived.Test.YtopoomikfjodkaaGreatDoorUAy
import Derived.Test.YtopoomikfjodkaaGreatDoorUAr
import Derived.Test.YtopoomikfjodkaaGreatDoorUAt
import Derived.Test.YtopoomikfjodkaaGreatDoorUAq
import Derived.Test.YtopoomikfjodkaaGreatDoorUAs
import Derived.Test.YtopoomikfjodkaaGreatDoorUAl
import Derived.Test.YtopoomikfjodkaaGreatDoorUAw
import Derived.Test.YtopoomikfjodkaaGreatDoorUAx
import Derived.Test.YtopoomikfjodkaaGreatDoorUAv
import Derived.Test.YtopoomikfjodkaaGreatDoorUAu
set_option linter.unusedSectionVars false
set_option linter.unusedVariables false
set_option linter.unusedSimpArgs false
set_option maxHeartbeats 1000000
namespace Go.Ab
open Go Go.Proofs
abbrev y0u:Mark:={ Kind:=0,Colors:=[],Shape:=[],Topmark:=[]}
def allMarks:List Mark:=y0u::([1,2,3,4,5,6,7,8,9]:List Int).flatMap fun k=>(zib k).flatMap fun s=>[{ Kind:=k,Colors:=zud k,Shape:=s,Topmark:=[]},{ Kind:=k,Colors:=zud k,Shape:=s,Topmark:=zae k }]
theorem y40 {m:Mark} (h:zz m=true):m∈allMarks:=by
 unfold allMarks
 rcases ywk (m:=m) h with⟨h1,h2,h3,h4⟩|⟨h1,h2,h3,h4⟩
 ·cases m
  simp only at h1 h2 h3 h4
  subst h1 h2 h3 h4
  exact List.mem_cons_self
 ·refine List.mem_cons_of_mem _ (List.mem_flatMap.2 ⟨m.Kind,?_,List.mem_flatMap.2 ⟨m.Shape,h4,?_⟩⟩)
  ·rcases yvf h1 with e|e|e|e|e|e|e|e|e<;>rw[e]<;>decide
  ·cases m
   simp only at h2 h3 ⊢
   subst h2
   rcases h3 with e|e
   ·rw[e];exact List.mem_cons_self
   ·rw[e];exact List.mem_cons_of_mem _ List.mem_cons_self
theorem ytt:(allMarks.all fun m=>decide (zgc (zpc m)=(m,true)) && decide (zxd (zpc m)=(m,true)))=true:=by decide +kernel
theorem yjx {m:Mark} (h:zz m=true):zgc (zpc m)=(m,true)∧zxd (zpc m)=(m,true):=by
 have:=List.all_eq_true.1 ytt m (y40 h)
 rw[Bool.and_eq_true]at this
 exact⟨of_decide_eq_true this.1,of_decide_eq_true this.2⟩
theorem yy2:RdOk (fun m=>zz m=true) zpc y0u zgc 1048576:=.of (fun p h _=>(yjx h).1) (fun a ha=>by
 have key:∀ m:Mark,∀ b:Bool,((b || (!(zhc m))) || ((zed m) != a))=false→zz m=true∧a=zpc m:=fun m b hc=>by
  simp only[Bool.or_eq_false_iff,Bool.not_eq_false',bne_eq_false_iff_eq]at hc
  have h1:zz m=true:=by rw[← show zoc m=zz m from rfl, ← yfd];exact hc.1.2
  refine⟨h1,?_⟩
  rw[← hc.2,yy3]
  unfold zqf
  rw[h1];rfl
 unfold zgc
 cases h0:(a == znc 0)with
 | true=>exact .inr ⟨y0u,rfl,by decide,eq_of_beq h0⟩
 | false=>
  rw[cond_false]
  cases h1:(((zr a).length:Int) != 4)with
  | true=>exact .inl rfl
  | false=>
   rw[cond_false]
   cases h2:(((zr a).getD 3 default) == [45])with
   | true=>rw[cond_true];exact yeh a _ _ (key _ _)
   | false=>rw[cond_false];exact yeh a _ _ (key _ _))
theorem yv3:RdOk (fun m=>zz m=true) zpc y0u zxd 1048576:=.of (fun p h _=>(yjx h).2) (fun a ha=>by
 have key:∀ m:Mark,∀ b:Bool,((b || (!(zz m))) || ((zpc m) != a))=false→zz m=true∧a=zpc m:=fun m b hc=>by
  simp only[Bool.or_eq_false_iff,Bool.not_eq_false',bne_eq_false_iff_eq]at hc
  exact⟨hc.1.2,hc.2.symm⟩
 unfold zxd
 cases h0:(a == [110,111,110,101])with
 | true=>exact .inr ⟨y0u,rfl,by decide,eq_of_beq h0⟩
 | false=>
  rw[cond_false]
  cases h1:(((za a 32).length:Int) != 4)with
  | true=>exact .inl rfl
  | false=>
   rw[cond_false]
   cases h2:(((za a 32).getD 3 default) == [45])with
   | true=>rw[cond_true];exact yeh a _ _ (key _ _)
   | false=>rw[cond_false];exact yeh a _ _ (key _ _))
theorem yjn (a:List UInt8) (ha:a.length≤1048576):zgc a=zzb a:=(yy2.eq yv3 a ha)
end Go.Ab

namespace Go.Ab
open Go Go.Proofs
def y9f (a0:(List UInt8)) (i1:Nat) (s1:List Sector):Except (((List Sector)×Bool)) (List Sector):=
 (bif ((((zb ((zd a0 [44]).getD i1 default) [45]).2.1) == []) || (!(zrb (s1.length:Int) 12)))then .error ([],false)else(bif ((!((zk ((zb ((zd a0 [44]).getD i1 default) [45]).1)).2)) || (!((zk (((zb ((zd a0 [44]).getD i1 default) [45]).2.1).take ((IntKind.wrap .i64 ((((zb ((zd a0 [44]).getD i1 default) [45]).2.1).length:Int)-1)).toNat))).2)))then .error ([],false)else .ok (s1++[{ From:=(zk ((zb ((zd a0 [44]).getD i1 default) [45]).1)).1,To:=(zk (((zb ((zd a0 [44]).getD i1 default) [45]).2.1).take ((IntKind.wrap .i64 ((((zb ((zd a0 [44]).getD i1 default) [45]).2.1).length:Int)-1)).toNat))).1,Color:=(((zb ((zd a0 [44]).getD i1 default) [45]).2.1).take (((zb ((zd a0 [44]).getD i1 default) [45]).2.1).length)).drop ((IntKind.wrap .i64 ((((zb ((zd a0 [44]).getD i1 default) [45]).2.1).length:Int)-1)).toNat):Sector }])))
def zfb (a0:(List UInt8)):((List Sector)×Bool):=
 (bif (a0 == [45])then([],true)else(match yd (y9f a0) (((zd a0 [44]).length)-0) 0 ([]:List Sector)with|.error e=>e|.ok s1=>(bif ((!(zx s1)) || ((zfc s1) != a0))then([],false)else(s1,true))))
namespace N138
theorem DD:DOk Tryz.prog (Go.Ab.DD [(109,dP D_zfc),(135,dP D_zd),(136,dP D_zk),(160,dP D_zrb),(184,dP D_zb),(215,dP D_zx)]):=ya yor.e <| ya yrl.e <| ya ymj.e <| ya ygi.e <| ya y2j.e <| ya ytq.e <| ye _
theorem dn:type_of% (And.intro @D_zfc.eq_1 <| And.intro @D_zd.eq_1 <| And.intro @D_zk.eq_1 <| And.intro @D_zrb.eq_1 <| And.intro @D_zb.eq_1 <| @D_zx.eq_1):=by and_intros<;>intros<;>rfl
theorem gr {p:Prop} (h:p:=by(grind [yle]);first|done|fail):p:=h
theorem o0 {p:Prop} (h:p:=by(first|(obtain⟨q1,q2,q3⟩:=hlo i1 _ (by assumption);have h1:=e1 i1;have h2:=hct i1;(repeat' with_reducible apply And.intro)<;>first|with_reducible assumption|exact q2|(rw[q1];omega)|omega)|(have h1:=e1 i1;have h2:=hct i1;(repeat' with_reducible apply And.intro)<;>first|with_reducible assumption|omega)|(obtain⟨w1,w2,w3⟩:=hW1;(repeat' with_reducible apply And.intro)<;>first|with_reducible assumption|omega)|((repeat' with_reducible apply And.intro)<;>omega));first|done|fail):p:=h
theorem o2 {p:Prop} (h:p:=by(first|((repeat' with_reducible apply And.intro)<;>first|(simp only[List.length_append,List.length_singleton];(first|done|fail))|(rw[IntKind.wrap_i64];omega)|(intro j hj;by_cases hji:j<s1.length;(focus(simp only[yk1 hji,yp4 hji,cond_true];first|(first|done|fail)|with_reducible rfl));(have e0:j-s1.length=0:=by omega);(simp only[y21 hji hj,y63 hji,cond_false,e0,elt,borrowL,borrow];first|(first|done|fail)|with_reducible rfl))|decide));first|done|fail):p:=h
set_option maxHeartbeats 1000000 in
set_option maxRecDepth 20000 in
theorem den (a0:(List UInt8)) (hb0:a0.length<1099511627776) (hp0:a0.length≤1048576):Den Tryz.prog 138 [.str a0] (.tup [ownL 188 3 yj ((zfb a0).1),.bool ((zfb a0).2)]):=by
 generalize hR:zfb a0=r
 unfold zfb at hR
 refine di Tryz.func138 Tryz.ntmps138 Tryz.results138 ?_
 intro c hL hc hk
 obtain⟨hL0,_⟩:=hL
 have hw0:a0.length<9223372036854775808:=Nat.lt_succ_of_le hL0
 clear hL0
 simp only[pars,Nat.zero_add]
 have e1:=fun i=>y2s a0 44 i
 have e2:=ys0 a0 44
 have hct:=fun i:Nat=>yle ((zd a0 [44]).getD i default) [45]
 have hlo:∀ (i:Nat) (b:Bool),((((zb ((zd a0 [44]).getD i default) [45]).2.1) == []) || b)=false→_:=fun i b h=>ybx (y:=(zb ((zd a0 [44]).getD i default) [45]).2.1) (by intro e;rw[e]at h;cases h) (by have h1:=hct i;have h2:=e1 i;omega)
 iterate 2 refine rS ?_
 refine AWP.cond rfl (fun hb => ?_) (fun hb => ?_)
 ·replace hR:=ct hR
  refine rS ?_
  refine AWP.ret ?_
  subst hR
  exact es
 ·replace hR:=cf hR
  iterate 2 refine rS ?_
  refine AWP.block ?_
  generalize hz1:yd (y9f a0) (((zd a0 [44]).length)-0) 0 ([]:List Sector)=z1 at hR
  refine AWP.range (y9f a0) (fun i1 s1=>⟨[(0,.str a0),(4,.ref 0 3 0 s1.length),(19,.ref 1 1 0 ((zd a0 [44]).length)),(20,.int .i64 ((zd a0 [44]).length:Int)),(21,.int .i64 (i1:Int))],[.arr 188 3 s1.length (fun j=>yj (s1.getD j default)),.arr 9 1 (zd a0 [44]).length (fun j=>eS ((zd a0 [44]).getD j default))]⟩) (fun i1 s1=>s1.length≤([]:List Sector).length+1 * i1∧s1.length≤i1∧∀ v∈s1,bdSector v) (((zd a0 [44]).length)) 0 ([]:List Sector) [0,1] hz1 ot (by(simp)) sm ?_
  clear hz1
  intro i1 s1 hi1 hW1 hz1
  have hV1:=hW1;obtain⟨hV1_0,hV1_1,hV1_2⟩:=hV1
  refine rS ?_
  refine AWP.seq ?_
  refine AWP.cond rfl (fun hb => ?_) (fun hb => ?_)
  ·have hlt1:i1<((zd a0 [44]).length):=ot
   rw[yh hlt1]at hz1;simp only[y9f]at hz1
   iterate 3 refine rS ?_
   refine AWP.cond rfl (fun hb => ?_) (fun hb => ?_)
   ·simp only[hb,cond_true]at hz1
    refine rS ?_
    refine AWP.ret ?_
    subst hz1
    dsimp only at hR
    subst hR
    exact es
   ·simp only[hb,cond_false]at hz1
    iterate 4 refine rS ?_
    refine AWP.cond rfl (fun hb => ?_) (fun hb => ?_)
    ·simp only[hb,cond_true]at hz1
     refine rS ?_
     refine AWP.ret ?_
     subst hz1
     dsimp only at hR
     subst hR
     exact es
    ·simp only[hb,cond_false]at hz1
     iterate 2 refine rS ?_
     exact⟨_,[3,1],hlt1,by(have h1:=e1 i1;have c1:=hct i1;obtain⟨w0,w1,w2⟩:=hW1;refine⟨by simp only[List.length_append,List.length_cons,List.length_nil,List.length_singleton];omega,by simp only[List.length_append,List.length_cons,List.length_nil,List.length_singleton];omega,fun v hv=>(List.mem_append.1 hv).elim (fun h=>w2 v h) (fun h=>by rw[List.mem_singleton]at h;subst h;show List.length _<1099511627776;simp only[List.length_drop,List.length_take];omega)⟩),hz1,sm⟩
  ·obtain rfl:i1=((zd a0 [44]).length):=ot
   rw[yg (Nat.le_refl _)]at hz1;subst hz1;dsimp only at hR
   refine AWP.exit ?_;refine yb ?_
   refine rS ?_
   refine AWP.cond rfl (fun hb => ?_) (fun hb => ?_)
   ·replace hR:=ct hR
    refine rS ?_
    refine AWP.ret ?_
    subst hR
    exact es
   ·replace hR:=cf hR
    refine rS ?_
    refine AWP.ret ?_
    subst hR
    exact es
end N138
def D_zfb : DF
 | [x0]=>some (.tup [ownL 188 3 yj ((zfb (rdS x0)).1),.bool ((zfb (rdS x0)).2)],false,[wS x0,(rdS x0).length<1099511627776,(rdS x0).length≤1048576])
 | _=>none
theorem y60:OkD Tryz.prog 138 D_zfb:=by unfold D_zfb;exact dk N138.den
end Go.Ab

namespace Go.Ab
open Go Go.Proofs
theorem y53 {l:List Sector} (h:zx l=true):l.length≤12:=by
 unfold zx at h
 have he:=yqd (b:=ymm l) (e0:=false) (fun j s e h=>by
  unfold ymm at h
  rw[Bool.cond_eq_ite]at h
  split at h
  ·simpa using h.symm
  ·have h2:=yqd (b:=ytp l j s) (e0:=false) (fun k s2 e2 h2=>by
    unfold ytp at h2
    rw[Bool.cond_eq_ite]at h2
    split at h2
    ·simpa using h2.symm
    ·cases h2) (l.length-0) 0 ()
   generalize yd (ytp l j s) (l.length-0) 0 ()=z at h h2
   cases z with
   | error e3=>
    have h:e3=e:=by simpa using h
    rw[← h];exact h2 e3 rfl
   | ok _=>cases h) (l.length-0) 0 0
 generalize yd (ymm l) (l.length-0) 0 0=z at h he
 cases z with
 | error e=>have:=he e rfl;subst this;cases h
 | ok s=>simp[zrb]at h;omega
theorem yok (c : UInt8) : ∀ xs : List (List UInt8), Lib.join xs [c] = ybi c xs
 | []=>rfl
 | [x]=>by simp[Lib.join_cons,Lib.joinTail,ybi]
 | x::y::r=>by
  have ih:=yok c (y::r)
  rw[ybi, ← ih]
  simp[Lib.join_cons,Lib.joinTail]
theorem ye4 {s:Sector} (h:zjc s=true) (c:UInt8) (h1:c≠45) (h2:c.toNat<48):c∉scT s:=by
 unfold zjc at h
 rw[Bool.and_eq_true]at h
 unfold scT
 intro hm
 rw[List.mem_append]at hm
 rcases hm with hm|hm
 ·exact y0l _ c h1 (.inl h2) hm
 rcases List.mem_cons.1 hm with hm|hm
 ·exact h1 hm
 rw[List.mem_append]at hm
 rcases hm with hm|hm
 ·exact y0l _ c h1 (.inl h2) hm
 ·rcases yer h.2 with e|e|e|e<;>rw[e]at hm<;>rw[List.mem_singleton]at hm<;>subst hm<;>revert h2<;>decide
theorem y9n {s:Sector} (h:zjc s=true):0≤s.From∧s.From≤359∧0≤s.To∧s.To≤359∧s.Color.length=1∧(45:UInt8)∉s.Color:=by
 have hb:=y0q h
 unfold zjc at h
 rw[Bool.and_eq_true]at h
 refine⟨hb.1.1,hb.1.2,hb.2.1,hb.2.2,?_,?_⟩<;>rcases yer h.2 with e|e|e|e<;>rw[e]<;>decide
theorem y4f {l:List Sector} (h:zq l=true) (hn:l≠[]):yl 44 (scsT l)=l.map scT:=by
 have h1:=(yee h).2
 have hmem:∀ s∈l,(44:UInt8)∉scT s:=fun s hs=>by
  obtain⟨i,hi,e⟩:=List.getElem_of_mem hs
  have:=h1 i hi
  rw[List.getD_eq_getElem?_getD,List.getElem?_eq_getElem hi,Option.getD_some,e]at this
  exact ye4 this 44 (by decide) (by decide)
 unfold scsT
 rw[if_neg hn]
 cases l with
 | nil=>exact absurd rfl hn
 | cons x r=>
  rw[List.map_cons,Lib.join_cons,yhh 44 _ _ (hmem x (by simp)) (fun y hy=>by
   obtain⟨s,hs,rfl⟩:=List.mem_map.1 hy
   exact hmem s (by simp[hs]))]
theorem yl1 {l:List Sector} (hn:l≠[]):(scsT l == [45])=false:=by
 rw[beq_eq_false_iff_ne]
 unfold scsT
 rw[if_neg hn]
 cases l with
 | nil=>exact absurd rfl hn
 | cons x r=>
  intro e
  rw[List.map_cons,Lib.join_cons]at e
  have:=congrArg List.length e
  unfold scT at this
  have h1:=List.length_pos_iff.2 (ytl x.From)
  have h2:=List.length_pos_iff.2 (ytl x.To)
  simp only[List.length_append,List.length_cons,List.length_nil]at this
  omega
theorem yyw (l:List Sector) (j:Nat) (hj:j<l.length):(l.map scT).getD j default=scT (l.getD j default):=y7y scT l j hj
theorem ytn (x y:List UInt8) (h:y.length=1) (hl:x.length≤1048576):(x++y).take ((IntKind.wrap .i64 (((x++y).length:Int)-1)).toNat)=x∧(((x++y).take (x++y).length).drop ((IntKind.wrap .i64 (((x++y).length:Int)-1)).toNat))=y:=by
 have hw:(IntKind.wrap .i64 (((x++y).length:Int)-1)).toNat=x.length:=by
  rw[List.length_append,h,IntKind.wrap_i64];omega
 rw[hw]
 exact⟨List.take_left' rfl,by rw[List.take_length,List.drop_left' rfl]⟩
theorem yfi {n:Int} (h0:0≤n) (h1:n≤359):(Lib.itoa n).length≤3∧(45:UInt8)∉Lib.itoa n∧ytb (Lib.itoa n)=(n,true)∧zg (Lib.itoa n)=(n,true):=by
 have hk:=ycg n 2 h0 (by show n<(1000:Int);omega)
 exact⟨hk,y2d h0 45 (by decide),ylc h0 (by omega),ykx (by unfold E18;omega) (by omega)⟩
theorem y84 {l:List Sector} (h:zq l=true):zfb (zye l)=(l,true):=by
 rw[yrh h]
 by_cases hn:l=[]
 ·subst hn;rfl
 have hv:zx l=true:=by
  have:=(yee h).1
  rw[yhb l (by omega)];exact h
 unfold zfb
 rw[yl1 hn,cond_false,yav,y4f h hn,List.length_map]
 obtain⟨t,q1,q2⟩:=y5 (b:=y9f (scsT l)) (fun i s=>s=l.take i) (k:=l.length-0) (i:=0) (s:=[]) rfl (fun j u _ hj hu=>by
  have hj:j<l.length:=by omega
  refine⟨_,?_,rfl⟩
  subst hu
  have h1:=y9n ((yee h).2 j hj)
  obtain⟨f1,f2,f3,_⟩:=yfi h1.1 h1.2.1
  obtain⟨t1,t2,t3,_⟩:=yfi h1.2.2.1 h1.2.2.2.1
  have h12:=(yee h).1
  unfold y9f
  rw[yav,y4f h hn,yyw l j hj,cutI]
  unfold scT
  rw[yke _ _ 45 f2]
  simp only
  have hne:(Lib.itoa (l.getD j default).To++(l.getD j default).Color == [])=false:=by
   rw[beq_eq_false_iff_ne]
   intro e
   have:=congrArg List.length e
   simp only[List.length_append,List.length_nil]at this
   omega
  have tl:=ytn (Lib.itoa (l.getD j default).To) (l.getD j default).Color h1.2.2.2.2.1 (by omega)
  have hf:zrb ((l.take j).length:Int) 12=true:=by
   unfold zrb
   rw[List.length_take]
   simp;omega
  have r1:zk (Lib.itoa (l.getD j default).From)=((l.getD j default).From,true):=f3
  have r2:zk (Lib.itoa (l.getD j default).To)=((l.getD j default).To,true):=t3
  rw[hne,hf,tl.1,tl.2,r1,r2]
  simp only[Bool.not_true,Bool.or_self,cond_false]
  rw[yme l j hj])
 rw[q1]
 simp only
 have:t=l:=by rw[q2];simp
 rw[this,hv,y7p h]
 simp
theorem yj4 {l:List Sector} (h:zq l=true):zab (zye l)=(l,true):=by
 have hlen:=yi1 h
 rw[yrh h]
 by_cases hn:l=[]
 ·subst hn;rfl
 unfold zab
 have h12:=(yee h).1
 have hs:=y7i (scsT l) 44 44 rfl (by omega)
 rw[yl1 hn,cond_false,hs,y4f h hn,List.length_map,decide_eq_false (show ¬ 12<(l.length:Int)by omega),cond_false]
 have hl:=yjc (ylf (scsT l)) (fun j=>[l.getD j default]) l.length 0 [] (fun j u _ hj=>by
  have hj:j<l.length:=by omega
  have h1:=y9n ((yee h).2 j hj)
  obtain⟨f1,f2,_,f3⟩:=yfi h1.1 h1.2.1
  obtain⟨t1,t2,_,t3⟩:=yfi h1.2.2.1 h1.2.2.2.1
  unfold ylf
  have hno:(45:UInt8)∉Lib.itoa (l.getD j default).To++(l.getD j default).Color:=fun hm=>by
   rcases List.mem_append.1 hm with hm|hm
   ·exact t2 hm
   ·exact h1.2.2.2.2.2 hm
  have e2:za (scT (l.getD j default)) 45=[Lib.itoa (l.getD j default).From,Lib.itoa (l.getD j default).To++(l.getD j default).Color]:=by
   rw[y7i _ 45 45 rfl (by unfold scT;simp only[List.length_append,List.length_cons];omega)]
   unfold scT
   rw[ykb 45 _ _ f2,ylb 45 _ hno]
  rw[hs,y4f h hn,yyw l j hj,e2]
  simp only[List.getD_cons_zero,List.getD_cons_succ]
  have tl:=ytn (Lib.itoa (l.getD j default).To) (l.getD j default).Color h1.2.2.2.2.1 (by omega)
  have hp:=List.length_pos_iff.2 (ytl (l.getD j default).To)
  have hq:decide (((Lib.itoa (l.getD j default).To++(l.getD j default).Color).length:Int)<2)=false:=decide_eq_false (by rw[List.length_append];omega)
  rw[hq,tl.1,tl.2,f3,t3]
  rfl)
 rw[Nat.sub_zero,hl,List.nil_append]
 have e:=yne l default (fun s=>s)
 rw[List.map_id']at e
 rw[e]
 simp only
 rw[h]
 rfl
theorem yk2:RdOk (fun l=>zq l=true) zye [] zfb 1048576:=.of (fun p h _=>y84 h) (fun a ha=>by
 unfold zfb
 cases h0:(a == [45])with
 | true=>exact .inr ⟨[],rfl,ygr,eq_of_beq h0⟩
 | false=>
  rw[cond_false]
  have he:=yqd (b:=y9f a) (e0:=([],false)) (fun j s e h=>by
   unfold y9f at h
   simp only[Bool.cond_eq_ite]at h
   split at h
   ·simpa using h.symm
   ·split at h
    ·simpa using h.symm
    ·cases h) ((zd a [44]).length-0) 0 []
  generalize yd (y9f a) ((zd a [44]).length-0) 0 []=z at he
  cases z with
  | error e=>exact .inl (he e rfl)
  | ok s=>
   refine yeh a s _ (fun hc => ?_)
   simp only[Bool.or_eq_false_iff,Bool.not_eq_false',bne_eq_false_iff_eq]at hc
   have h12:=y53 hc.1
   have hv:zq s=true:=by rw[← yhb s (by omega)];exact hc.1
   exact⟨hv,by rw[← hc.2,y7p hv,yrh hv]⟩)
theorem yky {w : List UInt8} (hw : w.length ≤ 1048576) {u r : List Sector} {e : List Sector × Bool}
  (h:(bif ((((za w 45).length:Int) != 2) || decide ((((za w 45).getD 1 default).length:Int)<2))then(.error ([],false):Except (List Sector×Bool) (List Sector))else(bif ((!((zg ((za w 45).getD 0 default)).2)) || (!((zg (((za w 45).getD 1 default).take ((IntKind.wrap .i64 ((((za w 45).getD 1 default).length:Int)-1)).toNat))).2)))then .error ([],false)else .ok (u++[{ From:=(zg ((za w 45).getD 0 default)).1,To:=(zg (((za w 45).getD 1 default).take ((IntKind.wrap .i64 ((((za w 45).getD 1 default).length:Int)-1)).toNat))).1,Color:=(((za w 45).getD 1 default).take (((za w 45).getD 1 default).length)).drop ((IntKind.wrap .i64 ((((za w 45).getD 1 default).length:Int)-1)).toNat):Sector }])))=.ok r) :
  ∃ s,r=u++[s]∧w=scT s:=by
 rw[y7i w 45 45 rfl hw]at h
 cases hl:((((yl 45 w).length:Int) != 2) || decide ((((yl 45 w).getD 1 default).length:Int)<2))with
 | true=>rw[hl]at h;cases h
 | false=>
  rw[hl,cond_false]at h
  rw[Bool.or_eq_false_iff]at hl
  have hl2:(yl 45 w).length=2:=by have h:=hl.1;simp at h;omega
  obtain⟨x,y,e⟩:∃ x y,yl 45 w=[x,y]:=by
   match yl 45 w,hl2 with
   | [x,y],_=>exact⟨x,y,rfl⟩
  have hj:=yyd 45 w
  have hsl:=(y3 45 w).2
  rw[e]at hj h hl hsl
  have hx:x.length≤1048576:=by have:=hsl x (by simp);omega
  have hy:y.length≤1048576:=by have:=hsl y (by simp);omega
  simp only[List.getD_cons_zero,List.getD_cons_succ]at h hl
  have hy2:2≤y.length:=by have:=of_decide_eq_false hl.2;omega
  have hwr:(IntKind.wrap .i64 ((y.length:Int)-1)).toNat=y.length-1:=by rw[IntKind.wrap_i64];omega
  rw[hwr]at h
  cases hc:((!((zg x).2)) || (!((zg (y.take (y.length-1))).2)))with
  | true=>rw[hc]at h;cases h
  | false=>
   rw[hc,cond_false]at h
   simp only[Bool.or_eq_false_iff,Bool.not_eq_false']at hc
   have n1:=(y5d hx hc.1).1
   have n2:=(y5d (by rw[List.length_take];omega) hc.2).1
   have h:=Except.ok.inj h
   refine⟨_,h.symm,?_⟩
   unfold scT
   simp only
   rw[← n1, ← n2,List.take_length,List.take_append_drop, ← hj]
   simp[ybi]
theorem yu4:RdOk (fun l=>zq l=true) zye [] zab 1048576:=.of (fun p h _=>yj4 h) (fun a ha=>by
 unfold zab
 have hs:=y7i a 44 44 rfl ha
 cases h0:(a == [45])with
 | true=>exact .inr ⟨[],rfl,ygr,eq_of_beq h0⟩
 | false=>
  rw[cond_false]
  cases h12:decide (12<((za a 44).length:Int))with
  | true=>exact .inl rfl
  | false=>
   rw[cond_false]
   have he:=yqd (b:=ylf a) (e0:=([],false)) (fun j s e h=>by
    unfold ylf at h
    simp only[Bool.cond_eq_ite]at h
    split at h
    ·simpa using h.symm
    ·split at h
     ·simpa using h.symm
     ·cases h) ((za a 44).length-0) 0 []
   cases hz:yd (ylf a) ((za a 44).length-0) 0 []with
   | error e=>exact .inl (he e hz)
   | ok s=>
    refine yeh a s _ (fun hc => ?_)
    have hv:zq s=true:=by simpa using hc
    refine⟨hv,?_⟩
    rw[yrh hv]
    have hk:=ydf (fun k (t:List Sector)=>t.map scT=(yl 44 a).take k) hz rfl (fun j u v _ hj hI hb=>by
     have hj:j<(yl 44 a).length:=by rw[hs]at hj;omega
     have hw:((yl 44 a).getD j default).length≤1048576:=by
      have:=(y3 44 a).2 ((yl 44 a).getD j default) (by rw[List.getD_eq_getElem?_getD,List.getElem?_eq_getElem hj];simp)
      omega
     unfold ylf at hb
     rw[hs]at hb
     obtain⟨q,e1,e2⟩:=yky (e:=([],false)) hw hb
     rw[e1,List.map_append,hI,List.map_singleton, ← e2,yme _ j hj])
    rw[hs,Nat.sub_zero,Nat.zero_add,List.take_length]at hk
    have hn:s≠[]:=fun e=>by
     rw[e]at hk
     exact y0e 44 a hk.symm
    unfold scsT
    rw[if_neg hn,hk,yok,yyd])
theorem ypp (a:List UInt8) (ha:a.length≤1048576):zfb a=zab a:=yk2.eq yu4 a ha
end Go.Ab

namespace Go.Ab
open Go Go.Proofs
def zce (a0:Aid):(List UInt8):=
 (bif (!(zxe a0))then[]else(bif (zqd a0)then(zob [(zn a0.Number),a0.Name,(zne a0.At),(zn a0.Height),(zed a0.Mark),(zkc a0.Light),(zfc a0.Sectors),(zn a0.Intensity)] [47])else(zob [(zn a0.Number),a0.Name,(zne a0.At),(zn a0.Height),(zed a0.Mark),[45],(zfc a0.Sectors),(zn a0.Intensity)] [47])))
namespace N32
theorem DD:DOk Tryz.prog (Go.Ab.DD [(104,dP D_zxe),(105,dP D_zqd),(106,dP D_zkc),(107,dP D_zn),(108,dP D_zne),(109,dP D_zfc),(16,dP D_zed),(83,dP D_zob)]):=ya ylx.e <| ya yur.e <| ya yot.e <| ya yjj.e <| ya yd0.e <| ya yor.e <| ya ypt.e <| ya yri.e <| ye _
theorem dn:type_of% (And.intro @D_zxe.eq_1 <| And.intro @D_zqd.eq_1 <| And.intro @D_zkc.eq_1 <| And.intro @D_zn.eq_1 <| And.intro @D_zne.eq_1 <| And.intro @D_zfc.eq_1 <| And.intro @D_zed.eq_1 <| @D_zob.eq_1):=by and_intros<;>intros<;>rfl
theorem gr {p:Prop} (h:p:=by(grind [yqe]);first|done|fail):p:=h
theorem o0 {p:Prop} (h:p:=by(first|(have h9:=y3r hb0 (by assumption);have hr:=yve h9;obtain⟨⟨e1,l1⟩,⟨e2,l2⟩,⟨e3,l3⟩,⟨e4,l4⟩,hch,⟨e6,l6⟩,⟨e7,l7⟩,l8⟩:=yb3 h9 (Nat.lt_of_lt_of_le hb0.2.2.1.2.2 (by decide));obtain⟨e5,l5⟩:=hch (by rw[← hlt h9];assumption);rw[← e5]at l5;rw[← e1]at l1;rw[← e2]at l2;rw[← e3]at l3;rw[← e4]at l4;rw[← e6]at l6;rw[← e7]at l7;(repeat' with_reducible apply And.intro)<;>(first|omega|exact hb0.2.1|exact hb0.2.2.2.1|exact hb0.2.2.2.2|exact hb0.2.2.1|exact hr.2.2.2.1|exact hr.2.2.2.2.2.2.2.2.1|(refine Nat.le_trans (y5g _ _) ?_;simp only[jl,List.length_cons,List.length_nil];omega)))|(have h9:=y3r hb0 (by assumption);have hr:=yve h9;obtain⟨⟨e1,l1⟩,⟨e2,l2⟩,⟨e3,l3⟩,⟨e4,l4⟩,hch,⟨e6,l6⟩,⟨e7,l7⟩,l8⟩:=yb3 h9 (Nat.lt_of_lt_of_le hb0.2.2.1.2.2 (by decide));skip;rw[← e1]at l1;rw[← e2]at l2;rw[← e3]at l3;rw[← e4]at l4;rw[← e6]at l6;rw[← e7]at l7;(repeat' with_reducible apply And.intro)<;>(first|omega|exact hb0.2.1|exact hb0.2.2.2.1|exact hb0.2.2.2.2|exact hb0.2.2.1|exact hr.2.2.2.1|exact hr.2.2.2.2.2.2.2.2.1|(refine Nat.le_trans (y5g _ _) ?_;simp only[jl,List.length_cons,List.length_nil];omega))));first|done|fail):p:=h
theorem lx {p:Prop} (h:p:=by(exact lxx);first|done|fail):p:=h
set_option maxHeartbeats 4000000 in
set_option maxRecDepth 20000 in
theorem den (a0:Aid) (hb0:bdAid a0):Den Tryz.prog 32 [.agg (eAid a0)] (.str (zce a0)):=by
 generalize hR:zce a0=r
 unfold zce at hR
 refine di Tryz.func32 Tryz.ntmps32 Tryz.results32 ?_
 intro c hL hc hk
 obtain⟨hL0,_⟩:=hL
 have hw0:bwAid a0:=y7c a0 hL0
 clear hL0
 simp only[pars,Nat.zero_add]
 have hlt:=fun h=>y11 (a:=a0) h (Nat.lt_of_lt_of_le hb0.2.2.1.2.2 (by decide))
 iterate 2 refine rS ?_
 refine AWP.cond rfl (fun hb => ?_) (fun hb => ?_)
 ·replace hR:=ct hR
  refine rS ?_
  refine AWP.ret ?_
  subst hR
  exact es
 ·replace hR:=cf hR
  iterate 2 refine rS ?_
  refine AWP.cond rfl (fun hb => ?_) (fun hb => ?_)
  ·replace hR:=ct hR
   refine rS ?_
   refine rD 21 ?_
   refine AWP.ret ?_
   subst hR
   exact es
  ·replace hR:=cf hR
   refine rD 21 ?_
   refine AWP.ret ?_
   subst hR
   exact es
end N32
def D_zce : DF
 | [x0]=>some (.str (zce (rdG dAid x0)),false,[wG eAid dAid x0,bdAid (rdG dAid x0)])
 | _=>none
theorem yby:OkD Tryz.prog 32 D_zce:=by unfold D_zce;exact dk N32.den
end Go.Ab

namespace Go.Ab
open Go Go.Proofs
def zwf (a0:Aid):(List UInt8):=
 (bif (zmf a0)then((((((((((((((zi a0.Number)++[47])++a0.Name)++[47])++(zrf a0.At))++[47])++(zi a0.Height))++[47])++(zqf a0.Mark))++[47])++(zcb a0.Light))++[47])++(zye a0.Sectors))++[47])++(zi a0.Intensity)else((((((((((((((zi a0.Number)++[47])++a0.Name)++[47])++(zrf a0.At))++[47])++(zi a0.Height))++[47])++(zqf a0.Mark))++[47])++[45])++[47])++(zye a0.Sectors))++[47])++(zi a0.Intensity))
end Go.Ab


namespace Go.Ab
open Go Go.Proofs
theorem yf5 (a b c d e f g h:List UInt8) (s:List UInt8):Lib.join [a,b,c,d,e,f,g,h] s=a++(s++(b++(s++(c++(s++(d++(s++(e++(s++(f++(s++(g++(s++h))))))))))))):=by
 simp[Lib.join_cons,Lib.joinTail]
theorem yqz {a:Aid} (h:zxb a=true) (hl:a.Light.Colors.length<9223372036854775808):zce a=zwf a∧(zwf a).length≤300:=by
 have hr:=yve h
 have hs:=(yyf hr.2.2.2.2.2.2.2.2.1).1
 obtain⟨⟨e1,l1⟩,⟨e2,l2⟩,⟨e3,l3⟩,⟨e4,l4⟩,hch,⟨e6,l6⟩,⟨e7,l7⟩,l8⟩:=yb3 h hl
 have e:∀ a b c d e f g h:List UInt8,zob [a,b,c,d,e,f,g,h] [47]=a++([47]++(b++([47]++(c++([47]++(d++([47]++(e++([47]++(f++([47]++(g++([47]++h))))))))))))):=fun a b c d e f g h=>yf5 a b c d e f g h [47]
 unfold zce zwf
 rw[yof a hl (by omega),h,y11 h hl]
 simp only[Bool.not_true,cond_false]
 cases ht:zmf a with
 | true=>
  obtain⟨e5,l5⟩:=hch ht
  simp only[cond_true]
  rw[e,e1,e2,e3,e4,e5,e6,e7]
  refine⟨by simp only[List.append_assoc],?_⟩
  simp only[List.length_append,List.length_cons,List.length_nil]
  omega
 | false=>
  simp only[cond_false]
  rw[e,e1,e2,e3,e4,e6,e7]
  refine⟨by simp only[List.append_assoc],?_⟩
  simp only[List.length_append,List.length_cons,List.length_nil]
  omega
end Go.Ab

namespace Go.Ab
open Go Go.Proofs
def zlc (a0:(List UInt8)):(Character×Bool):=
 (bif (zb ((zb a0 [32]).2.1) [32]).2.2 then(bif (((!((zj ((zb a0 [32]).1)).2 && (zmd (zvc ((zb ((zb a0 [32]).2.1) [32]).2.1) [115])).2)) || (!(zw ({ Kind:=((zj ((zb a0 [32]).1)).1).Kind,Group:=((zj ((zb a0 [32]).1)).1).Group,Letter:=((zj ((zb a0 [32]).1)).1).Letter,Colors:=(zb ((zb a0 [32]).2.1) [32]).1,Period:=(zmd (zvc ((zb ((zb a0 [32]).2.1) [32]).2.1) [115])).1:Character })))) || ((zkc ({ Kind:=((zj ((zb a0 [32]).1)).1).Kind,Group:=((zj ((zb a0 [32]).1)).1).Group,Letter:=((zj ((zb a0 [32]).1)).1).Letter,Colors:=(zb ((zb a0 [32]).2.1) [32]).1,Period:=(zmd (zvc ((zb ((zb a0 [32]).2.1) [32]).2.1) [115])).1:Character })) != a0))then({ Kind:=0,Group:=[],Letter:=[],Colors:=[],Period:=0:Character },false)else({ Kind:=((zj ((zb a0 [32]).1)).1).Kind,Group:=((zj ((zb a0 [32]).1)).1).Group,Letter:=((zj ((zb a0 [32]).1)).1).Letter,Colors:=(zb ((zb a0 [32]).2.1) [32]).1,Period:=(zmd (zvc ((zb ((zb a0 [32]).2.1) [32]).2.1) [115])).1:Character },true))else(bif (((!((zj ((zb a0 [32]).1)).2)) || (!(zw ({ Kind:=((zj ((zb a0 [32]).1)).1).Kind,Group:=((zj ((zb a0 [32]).1)).1).Group,Letter:=((zj ((zb a0 [32]).1)).1).Letter,Colors:=(zb ((zb a0 [32]).2.1) [32]).1,Period:=((zj ((zb a0 [32]).1)).1).Period:Character })))) || ((zkc ({ Kind:=((zj ((zb a0 [32]).1)).1).Kind,Group:=((zj ((zb a0 [32]).1)).1).Group,Letter:=((zj ((zb a0 [32]).1)).1).Letter,Colors:=(zb ((zb a0 [32]).2.1) [32]).1,Period:=((zj ((zb a0 [32]).1)).1).Period:Character })) != a0))then({ Kind:=0,Group:=[],Letter:=[],Colors:=[],Period:=0:Character },false)else({ Kind:=((zj ((zb a0 [32]).1)).1).Kind,Group:=((zj ((zb a0 [32]).1)).1).Group,Letter:=((zj ((zb a0 [32]).1)).1).Letter,Colors:=(zb ((zb a0 [32]).2.1) [32]).1,Period:=((zj ((zb a0 [32]).1)).1).Period:Character },true)))
namespace N89
theorem DD:DOk Tryz.prog (Go.Ab.DD [(106,dP D_zkc),(184,dP D_zb),(185,dP D_zj),(186,dP D_zmd),(187,dP D_zvc),(91,dP D_zw)]):=ya yot.e <| ya y2j.e <| ya yd3.e <| ya ymx.e <| ya y3y.e <| ya yxp.e <| ye _
theorem dn:type_of% (And.intro @D_zkc.eq_1 <| And.intro @D_zb.eq_1 <| And.intro @D_zj.eq_1 <| And.intro @D_zmd.eq_1 <| And.intro @D_zvc.eq_1 <| @D_zw.eq_1):=by and_intros<;>intros<;>rfl
theorem gr {p:Prop} (h:p:=by(grind [yle,ydv]);first|done|fail):p:=h
theorem o0 {p:Prop} (h:p:=by(first|(and_intros<;>first|omega|(intros;omega)|(intros;and_intros<;>first|omega|(show List.length _<_;simp only;omega))|(refine⟨?_,?_,?_⟩<;>(simp only;omega))));first|done|fail):p:=h
set_option maxHeartbeats 1000000 in
set_option maxRecDepth 20000 in
theorem den (a0:(List UInt8)) (hb0:a0.length<1099511627776) (hp0:a0.length≤1048576):Den Tryz.prog 89 [.str a0] (.tup [.agg (y8 ((zlc a0).1)),.bool ((zlc a0).2)]):=by
 generalize hR:zlc a0=r
 unfold zlc at hR
 refine di Tryz.func89 Tryz.ntmps89 Tryz.results89 ?_
 intro c hL hc hk
 obtain⟨hL0,_⟩:=hL
 have hw0:a0.length<9223372036854775808:=Nat.lt_succ_of_le hL0
 clear hL0
 simp only[pars,Nat.zero_add]
 have c1:=yle a0 [32]
 have c2:=yle (zb a0 [32]).2.1 [32]
 have c3:=ydv (zb (zb a0 [32]).2.1 [32]).2.1 [115]
 have hrh:=y2q (zb a0 [32]).1 (by omega)
 obtain⟨hr1,hr2,hr3⟩:=hrh
 iterate 6 refine rS ?_
 refine AWP.cond rfl (fun hb => ?_) (fun hb => ?_)
 ·replace hR:=ct hR
  iterate 4 refine rS ?_
  refine AWP.cond rfl (fun hb => ?_) (fun hb => ?_)
  ·replace hR:=ct hR
   refine rS ?_
   refine AWP.ret ?_
   subst hR
   exact es
  ·replace hR:=cf hR
   refine rS ?_
   refine AWP.ret ?_
   subst hR
   exact es
 ·replace hR:=cf hR
  refine rS ?_
  refine AWP.cond rfl (fun hb => ?_) (fun hb => ?_)
  ·replace hR:=ct hR
   refine rS ?_
   refine AWP.ret ?_
   subst hR
   exact es
  ·replace hR:=cf hR
   refine rS ?_
   refine AWP.ret ?_
   subst hR
   exact es
end N89
def D_zlc : DF
 | [x0]=>some (.tup [.agg (y8 ((zlc (rdS x0)).1)),.bool ((zlc (rdS x0)).2)],false,[wS x0,(rdS x0).length<1099511627776,(rdS x0).length≤1048576])
 | _=>none
theorem yxz:OkD Tryz.prog 89 D_zlc:=by unfold D_zlc;exact dk N89.den
end Go.Ab

namespace Go.Ab
open Go Go.Proofs
theorem yd5 (a b:List UInt8):zvc a b=Lib.trimSuffix a b:=rfl
theorem yip (s:List UInt8) (h:zvb s=true):(32:UInt8)∉s:=by
 intro hm
 obtain⟨i,hi,he⟩:=List.getElem_of_mem hm
 unfold zvb at h
 cases hl:yd (yzg s) (s.length-0) 0 ()with
 | error e=>
  rw[hl]at h
  obtain⟨j,t,_,_,h3⟩:=y6d hl
  unfold yzg at h3
  simp only[Bool.cond_eq_ite]at h3
  split at h3
  ·cases h3;simp at h
  ·cases h3
 | ok u=>
  have hk:=ydf (fun k (_:Unit)=>∀ j,j<k→zbe ((s.getD j 0).toNat:Int)≠0) hl (by intro j hj;omega) (fun j u v _ _ hI hv=>by
   unfold yzg at hv
   simp only[Bool.cond_eq_ite]at hv
   split at hv
   ·cases hv
   ·rename_i hn
    simp only[Bool.or_eq_true,beq_iff_eq,not_or]at hn
    intro q hq
    by_cases hqj:q=j
    ·subst hqj;exact hn.1
    ·exact hI q (by omega))
  have:=hk i (by omega)
  rw[List.getD_eq_getElem?_getD,List.getElem?_eq_getElem hi,Option.getD_some,he]at this
  exact this rfl
theorem y2p (c:Character) (h:zbb c=true):(32:UInt8)∉yjd c:=by
 have hk:=ybd c h
 obtain⟨g1,g2⟩:=y9c c h
 have h32:=(yq3 c.Kind hk).2
 unfold yjd
 by_cases h8:c.Kind=8
 ·rw[if_pos h8]
  obtain⟨_,f2,f3,f4⟩:=y1k c h h8
  obtain⟨x,hx⟩:=List.length_eq_one_iff.1 f2
  rw[hx]at f3 f4 ⊢
  simp only[List.getD_cons_zero]at f3 f4
  intro hm
  simp only[List.mem_append,List.mem_cons,List.not_mem_nil,or_false]at hm
  rcases hm with hm|hm|hm|hm
  ·exact absurd hm (by decide)
  ·exact absurd hm (by decide)
  ·subst hm;exact absurd f3 (by decide)
  ·exact absurd hm (by decide)
 ·rw[if_neg h8]
  intro hm
  rcases List.mem_append.1 hm with hm|hm
  ·exact h32 hm
  ·rcases List.mem_append.1 hm with hm|hm
   ·unfold grpT at hm
    split at hm
    ·simp at hm
    ·rcases List.mem_cons.1 hm with hm|hm
     ·exact absurd hm (by decide)
     ·rcases List.mem_append.1 hm with hm|hm
      ·refine y02 32 (by decide) (c.Group.map Lib.itoa) (fun y hy => ?_) hm
       obtain⟨z,hz,rfl⟩:=List.mem_map.1 hy
       exact y2d (by have:=g2 z hz;omega) 32 (by decide)
      ·rw[List.mem_singleton]at hm;exact absurd hm (by decide)
   ·split at hm
    ·simp at hm
    ·exact absurd hm (by decide)
theorem yxh (c:Character) (h:zw c=true) (hl:c.Colors.length<9223372036854775808):zvb c.Colors=true:=by
 unfold zw at h
 rw[y2n _ hl]at h
 cases hc:zvb c.Colors with
 | true=>rfl
 | false=>rw[hc]at h;simp at h
theorem yjw (c:Character) (h:zw c=true) (hl:c.Colors.length<9223372036854775808):zlc (chrT c)=(c,true):=by
 have hf:=yxb c h
 have hr:=y9w c hf
 have hp:=y4c c h
 have hp2:=(ync c h).2.2
 have hcol:=yip _ (yxh c h hl)
 have c1:zb (chrT c) [32]=(yjd c,c.Colors++perT c.Period,true):=by
  rw[yrq];unfold chrT;rw[yke _ _ 32 (y2p c hf)]
 have htext:=ycj c h
 unfold zlc
 rw[c1]
 simp only
 by_cases h0:c.Period=0
 ·have c2:zb (c.Colors++perT c.Period) [32]=(c.Colors,[],false):=by
   rw[h0,show perT 0=[]from rfl,List.append_nil,yrq,yni _ 32 hcol]
  rw[c2,hr]
  simp only[cond_false]
  have ec:({ Kind:=c.Kind,Group:=c.Group,Letter:=c.Letter,Colors:=c.Colors,Period:=0:Character })=c:=by rw[← h0]
  simp only[ec,h,htext]
  simp
 ·have e2:perT c.Period=32::(secT c.Period++[115]):=by unfold perT;rw[if_neg h0]
  have c2:zb (c.Colors++perT c.Period) [32]=(c.Colors,secT c.Period++[115],true):=by
   rw[e2,yrq,yke _ _ 32 hcol]
  have c3:zvc (secT c.Period++[115]) [115]=secT c.Period:=by rw[yd5,y1b]
  rw[c2,hr]
  simp only[cond_true]
  rw[c3,yxm _ (by omega) hp2]
  have ec:({ Kind:=c.Kind,Group:=c.Group,Letter:=c.Letter,Colors:=c.Colors,Period:=c.Period:Character })=c:=rfl
  simp only[ec,h,htext]
  simp
theorem ypg (a:List UInt8):zlc a=({ Kind:=0,Group:=[],Letter:=[],Colors:=[],Period:=0:Character },false)∨∃ c,zw c=true∧zkc c=a∧zlc a=(c,true):=by
 unfold zlc
 cases(zb ((zb a [32]).2.1) [32]).2.2 with
 | true=>
  simp only[cond_true]
  generalize hc:({ Kind:=((zj ((zb a [32]).1)).1).Kind,Group:=((zj ((zb a [32]).1)).1).Group,Letter:=((zj ((zb a [32]).1)).1).Letter,Colors:=(zb ((zb a [32]).2.1) [32]).1,Period:=(zmd (zvc ((zb ((zb a [32]).2.1) [32]).2.1) [115])).1:Character })=c
  cases hv:zw c with
  | false=>left;simp
  | true=>
   by_cases ht:zkc c=a
   ·cases hq:((zj ((zb a [32]).1)).2 && (zmd (zvc ((zb ((zb a [32]).2.1) [32]).2.1) [115])).2)with
    | true=>right;exact⟨c,hv,ht,by simp[ht]⟩
    | false=>left;simp
   ·left
    have:(zkc c != a)=true:=by simpa using ht
    rw[this];simp
 | false=>
  simp only[cond_false]
  generalize hc:({ Kind:=((zj ((zb a [32]).1)).1).Kind,Group:=((zj ((zb a [32]).1)).1).Group,Letter:=((zj ((zb a [32]).1)).1).Letter,Colors:=(zb ((zb a [32]).2.1) [32]).1,Period:=((zj ((zb a [32]).1)).1).Period:Character })=c
  cases hv:zw c with
  | false=>left;simp
  | true=>
   by_cases ht:zkc c=a
   ·cases hq:(zj ((zb a [32]).1)).2 with
    | true=>right;exact⟨c,hv,ht,by simp[ht]⟩
    | false=>left;simp
   ·left
    have:(zkc c != a)=true:=by simpa using ht
    rw[this];simp
end Go.Ab

namespace Go.Ab
open Go Go.Proofs
def parB (s:List UInt8×List UInt8×Int):Except (Sum (Character×Bool) (List UInt8×List UInt8×Int)) (List UInt8×List UInt8×Int):=
 (bif decide (s.2.2<(s.1.length:Int))then(bif ((((s.1.getD ((s.2.2).toNat) 0).toNat:Int) == 40) && (((s.1.getD ((IntKind.wrap .i64 ((s.1.length:Int)-1)).toNat) 0).toNat:Int) == 41))then .error (.inr (s.1.take ((s.2.2).toNat),(s.1.take ((IntKind.wrap .i64 ((s.1.length:Int)-1)).toNat)).drop ((IntKind.wrap .i64 (s.2.2+1)).toNat),s.2.2))else .ok (s.1,s.2.1,IntKind.wrap .i64 (s.2.2+1)))else .error (.inr (s.1,s.2.1,s.2.2)))
theorem yfg (p X:List UInt8) (h40:(40:UInt8)∉p) (hl:(p++40::(X++[41])).length≤1048576):∀ (k i n:Nat),i+k=p.length→k<n →
  y6 parB n (p++40::(X++[41]),[],(i:Int))=.error (.inr (p,X,(p.length:Int)))
 | k,i,0,_,h=>by omega
 | 0,i,n+1,h,_=>by
  have hi:i=p.length:=by omega
  subst hi
  simp only[List.length_append,List.length_cons,List.length_nil]at hl
  have d1:decide (((p.length:Nat):Int)<((p++40::(X++[41])).length:Int))=true:=decide_eq_true (by simp only[List.length_append,List.length_cons,List.length_nil];omega)
  have w1:IntKind.wrap .i64 (((p++40::(X++[41])).length:Int)-1)=((p.length+1+X.length:Nat):Int):=by
   simp only[List.length_append,List.length_cons,List.length_nil];rw[IntKind.wrap_i64];omega
  have w2:IntKind.wrap .i64 ((p.length:Int)+1)=((p.length+1:Nat):Int):=by rw[IntKind.wrap_i64];omega
  have g1:(p++40::(X++[41])).getD p.length 0=40:=by
   rw[List.getD_eq_getElem?_getD,List.getElem?_append_right (Nat.le_refl _)];simp
  have g2:(p++40::(X++[41])).getD (p.length+1+X.length) 0=41:=by
   rw[List.getD_eq_getElem?_getD,List.getElem?_append_right (by omega),show p.length+1+X.length-p.length=X.length+1 by omega,List.getElem?_cons_succ,List.getElem?_append_right (Nat.le_refl _)];simp
  simp only[y6,parB]
  rw[d1,w1,w2,Int.toNat_natCast,Int.toNat_natCast,Int.toNat_natCast,g1,g2]
  have t1:(p++40::(X++[41])).take p.length=p:=List.take_left' rfl
  have t2:((p++40::(X++[41])).take (p.length+1+X.length)).drop (p.length+1)=X:=by
   have:p++40::(X++[41])=(p++[40])++(X++[41]):=by simp
   rw[this,List.take_append,List.drop_append]
   simp
  rw[t1,t2]
  rfl
 | k+1,i,n+1,h,hn=>by
  simp only[List.length_append,List.length_cons,List.length_nil]at hl
  have d1:decide ((i:Int)<((p++40::(X++[41])).length:Int))=true:=decide_eq_true (by simp only[List.length_append,List.length_cons,List.length_nil];omega)
  have w2:IntKind.wrap .i64 ((i:Int)+1)=((i+1:Nat):Int):=by rw[IntKind.wrap_i64];omega
  have hi:i<p.length:=by omega
  have g1:(((((p++40::(X++[41])).getD i 0).toNat:Int)) == 40)=false:=by
   rw[List.getD_eq_getElem?_getD,List.getElem?_append_left hi,List.getElem?_eq_getElem hi,Option.getD_some,beq_eq_false_iff_ne]
   intro he
   have:p[i]=40:=UInt8.toNat_inj.1 (by show _=40;omega)
   exact h40 (this ▸ List.getElem_mem hi)
  have:=yfg p X h40 (by simp only[List.length_append,List.length_cons,List.length_nil];exact hl) k (i+1) n (by omega) (by omega)
  simp only[y6,parB]
  rw[d1,Int.toNat_natCast,g1,w2]
  simp only[Bool.false_and,cond_true,cond_false]
  exact this
theorem yrt (p:List UInt8) (h40:(40:UInt8)∉p) (hl:p.length≤1048576):∀ (k i n:Nat),i+k=p.length→k<n →
  y6 parB n (p,[],(i:Int))=.error (.inr (p,[],(p.length:Int)))
 | k,i,0,_,h=>by omega
 | 0,i,n+1,h,_=>by
  have hi:i=p.length:=by omega
  subst hi
  simp only[y6,parB]
  rw[decide_eq_false (by omega)]
  rfl
 | k+1,i,n+1,h,hn=>by
  have hi:i<p.length:=by omega
  have d1:decide ((i:Int)<(p.length:Int))=true:=decide_eq_true (by omega)
  have w2:IntKind.wrap .i64 ((i:Int)+1)=((i+1:Nat):Int):=by rw[IntKind.wrap_i64];omega
  have g1:((((p.getD i 0).toNat:Int)) == 40)=false:=by
   rw[List.getD_eq_getElem?_getD,List.getElem?_eq_getElem hi,Option.getD_some,beq_eq_false_iff_ne]
   intro he
   have:p[i]=40:=UInt8.toNat_inj.1 (by show _=40;omega)
   exact h40 (this ▸ List.getElem_mem hi)
  have:=yrt p h40 hl k (i+1) n (by omega) (by omega)
  simp only[y6,parB]
  rw[d1,Int.toNat_natCast,g1,w2]
  simp only[Bool.false_and,cond_true,cond_false]
  exact this
theorem ydm (k:Int) (hk:1≤k∧k≤8) (b:Nat→Int→Except (Character×Bool) Int) (hb:∀ i s,b i s=(bif (((zm ).getD i default) == kt k)then .ok (i:Int)else .ok s)) :
  yd b (((zm ).length)-1) 1 0=.ok k:=by
 have e:b=fun i s=>(bif (((zm ).getD i default) == kt k)then .ok (i:Int)else .ok s):=funext fun i=>funext fun s=>hb i s
 rw[e]
 rcases(show k=1∨k=2∨k=3∨k=4∨k=5∨k=6∨k=7∨k=8 by omega)with h|h|h|h|h|h|h|h<;>subst h<;>rfl
theorem y73 {ρ : Type} (g : List Int) (h2 : ∀ v ∈ g, 1 ≤ v ∧ v ≤ 9) (r : Nat → List Int → ρ) (b : Nat → List Int → Except ρ (List Int))
  (hb:∀ i s,b i s=(bif (!(zg ((g.map Lib.itoa).getD i default)).2)then .error (r i s)else .ok (s++([(zg ((g.map Lib.itoa).getD i default)).1]:List Int)))) :
  yd b ((g.map Lib.itoa).length-0) 0 []=.ok g:=by
 refine ya2 g h2 r b (fun i s => ?_)
 rw[hb]
 have e:zg ((g.map Lib.itoa).getD i default)=zk ((g.map Lib.itoa).getD i default):=by
  have hlen:((g.map Lib.itoa).getD i default).length≤1048576:=by
   rw[List.getD_eq_getElem?_getD,List.getElem?_map]
   cases hg:g[i]? with
   | none=>show(0:Nat)≤_;omega
   | some x=>
    have:=h2 x (List.mem_of_getElem? hg)
    have:=ypd x (by omega) (by omega)
    simp only[Option.map_some,Option.getD_some];omega
  exact(y8o _ hlen).symm
 rw[e]
end Go.Ab

namespace Go.Ab
open Go Go.Proofs
def y8j (a0:(List UInt8)) (s1:Int):Except (Sum ((Int×Bool)) (Int)) (Int):=
 (bif decide (s1≤600)then(bif ((zqb s1) == a0)then .error (.inl (s1,true))else .ok (IntKind.wrap .i64 (s1+1)))else .error (.inr s1))
def zyb (a0:(List UInt8)):(Int×Bool):=
 (match y6 (y8j a0) (((601-(1:Int)).toNat)+1) 1 with|.error (.inl e)=>e|.error (.inr s1)=>(0,false)|.ok _=>default)
namespace N299
theorem DD:DOk Tryz.prog (Go.Ab.DD [(280,dP D_zqb)]):=ya yvm.e <| ye _
theorem dn:type_of% (@D_zqb.eq_1):=by and_intros<;>intros<;>rfl
theorem den (a0:(List UInt8)) (hb0:a0.length<1099511627776):Den Tryz.prog 299 [.str a0] (.tup [.int .i64 ((zyb a0).1),.bool ((zyb a0).2)]):=by
 generalize hR:zyb a0=r
 unfold zyb at hR
 refine di Tryz.func299 Tryz.ntmps299 Tryz.results299 ?_
 intro c hL hc hk
 obtain⟨hL0,_⟩:=hL
 have hw0:a0.length<9223372036854775808:=Nat.lt_succ_of_le hL0
 clear hL0
 simp only[pars,Nat.zero_add]
 iterate 2 refine rS ?_
 refine AWP.block ?_
 generalize hz1:y6 (y8j a0) (((601-(1:Int)).toNat)+1) 1=z1 at hR
 refine AWP.whileW (y8j a0) (fun s1=>⟨[(0,.str a0),(4,.int .i64 s1)],[]⟩) (fun s1=>1≤s1∧s1≤601) (fun s1=>(601-s1).toNat) (((601-(1:Int)).toNat)+1) 1 [] hz1 m0 wt sm ?_
 clear hz1
 intro s1 k1 hW1 hm1 hz1
 simp only[y8j]at hz1
 refine rS ?_
 refine AWP.cond rfl (fun hb => ?_) (fun hb => ?_)
 ·simp only[hb,cond_true]at hz1
  refine rS ?_
  refine AWP.cond rfl (fun hb => ?_) (fun hb => ?_)
  ·simp only[hb,cond_true]at hz1
   refine rS ?_
   refine AWP.ret ?_
   subst hz1
   dsimp only at hR
   subst hR
   exact es
  ·simp only[hb,cond_false]at hz1
   refine rS ?_
   exact⟨_,[],ms,wt,hz1,sm⟩
 ·simp only[hb,cond_false]at hz1
  refine AWP.exit ?_
  refine yb ?_
  subst hz1;dsimp only at hR
  refine rS ?_
  refine AWP.ret ?_
  subst hR
  exact es
end N299
def D_zyb : DF
 | [x0]=>some (.tup [.int .i64 ((zyb (rdS x0)).1),.bool ((zyb (rdS x0)).2)],false,[wS x0,(rdS x0).length<1099511627776])
 | _=>none
theorem y90:OkD Tryz.prog 299 D_zyb:=by unfold D_zyb;exact dk N299.den
end Go.Ab
