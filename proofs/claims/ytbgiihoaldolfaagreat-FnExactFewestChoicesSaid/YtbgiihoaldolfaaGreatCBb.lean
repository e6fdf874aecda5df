/- A part of a proof: walks of functions and lemmas of our own. No conditions. -/
import Derived.Test.YtbgiihoaldolfaaGreatCBa
import Derived.Test.YtbgiihoaldolfaaGreatCAl
import Derived.Test.YtbgiihoaldolfaaGreatCAy
import Derived.Test.YtbgiihoaldolfaaGreatCAs
import Derived.Test.YtbgiihoaldolfaaGreatCAk
import Derived.Test.YtbgiihoaldolfaaGreatCAm
import Derived.Test.YtbgiihoaldolfaaGreatCAz
import Derived.Test.YtbgiihoaldolfaaGreatCAq
set_option linter.unusedSectionVars false
set_option linter.unusedVariables false
set_option linter.unusedSimpArgs false
set_option maxHeartbeats 1000000
namespace Go.Ab
open Go Go.Proofs
def y0f (n:Nat) (bf:List (List Int)) (cl:List (List Bool)) (bud:Int) (q:Nat) (nd:Int):Except (List Int×Int×Int) Int:=
 bif (sR bf cl (q:Int) bud n [] (List.replicate cl.length (0:Int)) nd).1 then .error (zuc (sR bf cl (q:Int) bud n [] (List.replicate cl.length (0:Int)) nd).2.1,(q:Int),0)else
  (bif (sR bf cl (q:Int) bud n [] (List.replicate cl.length (0:Int)) nd).2.2.2.2 then .error ([],0,5)else .ok (sR bf cl (q:Int) bud n [] (List.replicate cl.length (0:Int)) nd).2.2.2.1)
def zee (a0:List (List Int)) (a1:Int) (a2:List Character) (a3 a4:Int):List Int×Int×Int:=
 bif (zib a0 a1 a2 a3 a4) != 0 then([],0,zib a0 a1 a2 a3 a4)else
  (match ye (y0f a1.toNat (befP a1.toNat a0) (zj a2 a3) a4) (a2.length+1-0) 0 0 with|.error e=>e|.ok _=>([],0,3))
namespace N18
theorem DD:DOk Tryz.prog (Go.Ab.DD [(22,dP D_zib),(25,dP D_zuc)]):=yd yfr.e <| yd yyr.e <| yj _
theorem dn:type_of% (And.intro @D_zib.eq_1 <| @D_zuc.eq_1):=by and_intros<;>intros<;>rfl
set_option maxHeartbeats 4000000 in
set_option maxRecDepth 40000 in
theorem den (a0:List (List Int)) (a1:Int) (a2:List Character) (a3 a4:Int) (hl0:a0.length<=1048576) (hp0:∀ v∈a0,bdLIi64 v) (hl2:a2.length<=1048576) (hp2:∀ v∈a2,bdCharacter v) :
  Den Tryz.prog 18 [encL 1 yt a0,.int .i64 a1,encL 5 eCharacter a2,.int .i64 a3,.int .i64 a4] (.tup [ownL 2 1 yi (zee a0 a1 a2 a3 a4).1,.int .i64 (zee a0 a1 a2 a3 a4).2.1,.int .i64 (zee a0 a1 a2 a3 a4).2.2]):=by
 generalize hR:zee a0 a1 a2 a3 a4=r;unfold zee at hR;refine di Tryz.func18 Tryz.ntmps18 Tryz.results18 ?_;intro c hL hc hk;clear hL;simp only[pars,Nat.zero_add];refine rS ?_;refine rS ?_;refine rS ?_;try refine AWP.seq ?_
 refine AWP.cond rfl (fun hb => ?_) (fun hb => ?_)
 ·rw[hb,cond_true]at hR
  refine rS ?_;refine AWP.ret ?_;subst hR;exact es
 ·rw[hb,cond_false]at hR
  have hask:=yai (by simpa using hb:zib a0 a1 a2 a3 a4=0);obtain⟨n,rfl⟩:∃ n:Nat,a1=(n:Int):=⟨a1.toNat,by have:=hask.pr.n0;omega⟩
  simp only[Int.toNat_natCast]at hR;have hn9:=hask.pr.n1;have hf9:=hask.few;have hb9:=hask.bud;have hcv:∀ v∈a2,zg v=true/\bdCharacter v:=fun v hv=>⟨hask.chs v hv,hp2 v hv⟩
  have hcd:=N23.den a0 n a2 a3 a4 hask.pr hl0 hask.few hcv hask.tol;refine AWP.skip ?_;repeat refine AWP.seq ?_
  refine AWP.callI G_ok DD hc 5 hcd (by rw[hk];exact Nat.le_refl _) rfl (by kernel_rfl) rfl rfl (fun K hK => ?_);simp only[yke,runH,ypc,y3c,Nat.blt,Nat.ble,List.map,List.take,List.append,ea,absV,absVL,cput,gv,sv,dn,reduceCtorEq,reduceIte,Nat.reduceBEq,Nat.reduceAdd,Nat.reduceEqDiff,Nat.reduceLT,Nat.reduceLeDiff,Nat.reduceMul,Nat.reduceSub,BEq.rfl,beq_self_eq_true,Int.reduceToNat];refine hK _ ?_;clear hK K;refine rS ?_;try refine AWP.seq ?_
  refine AWP.block ?_;have hcll:=ysd a2 a3;generalize hz1:ye (y0f n (befP n a0) (zj a2 a3) a4) (a2.length+1-0) 0 0=z1 at hR;refine AWP.range (y0f n (befP n a0) (zj a2 a3) a4) (fun q nd=>⟨[(0,encL 1 yt a0),(1,.int .i64 (n:Int)),(2,encL 5 eCharacter a2),(3,.int .i64 a3),(4,.int .i64 a4),(14,.ptr 0 0),(15,.int .i64 ((q:Nat):Int))],[.box [.ref 1 1 0 (befP n a0).length,.ref 2 1 0 (zj a2 a3).length,.ref 3 1 0 ([]:List Int).length,.ref 4 1 0 (List.replicate a2.length (0:Int)).length,.int .i64 (((q-1:Nat)):Int),.int .i64 nd,.int .i64 a4,.bool false],.arr 26 1 (befP n a0).length (fun j=>yw ((befP n a0).getD j default)),.arr 68 1 (zj a2 a3).length (fun j=>eLBO ((zj a2 a3).getD j default)),.arr 2 1 ([]:List Int).length (fun j=>yi (([]:List Int).getD j default)),.arr 2 1 (List.replicate a2.length (0:Int)).length (fun j=>yi ((List.replicate a2.length (0:Int)).getD j default))]⟩) (fun q nd=>0<=nd/\nd<=a4) (a2.length+1) 0 0 [0,1,2,3,4] hz1 (Nat.zero_le _) (by(try dsimp only);omega) sm ?_;clear hz1;intro q nd hq hW1 hz1;refine rS ?_;try refine AWP.seq ?_
  refine AWP.cond rfl (fun hb1 => ?_) (fun hb1 => ?_)
  ·have hlq:q<a2.length+1:=by have:=of_decide_eq_true hb1;omega
   rw[yg hlq]at hz1;simp only[y0f,hcll]at hz1;refine AWP.skip ?_;try refine AWP.seq ?_
   refine AWP.block ?_;refine rS ?_;have hrn:=N24.den (befP n a0) (zj a2 a3) (q:Int) a4 (yez hask.pr hl0 hask.few (by omega) (by omega)) n [] (List.replicate a2.length (0:Int)) nd (by rw[yff];simp) (by simp) (by rw[List.length_replicate,ysd]) (fun v hv=>by rw[List.mem_replicate]at hv;rw[hv.2];simp) hW1;have hpr:=yog (befP n a0) (zj a2 a3) (q:Int) a4 n [] (List.replicate a2.length (0:Int)) nd hW1;have hlen9:=yqo (befP n a0) (zj a2 a3) (q:Int) a4 n [] (List.replicate a2.length (0:Int)) nd;simp only[List.length_nil,Nat.zero_add]at hlen9;generalize sR (befP n a0) (zj a2 a3) (q:Int) a4 n [] (List.replicate a2.length (0:Int)) nd=p at hrn hz1 hpr hlen9;repeat refine AWP.seq ?_
   refine AWP.callI G_ok DD hc 1 hrn (by rw[hk];exact Nat.zero_le _) rfl (by kernel_rfl) rfl rfl (fun K hK => ?_);simp only[yke,runH,ypc,y3c,Nat.blt,Nat.ble,List.map,List.take,List.append,ea,absV,absVL,cput,gv,sv,dn,reduceCtorEq,reduceIte,Nat.reduceBEq,Nat.reduceAdd,Nat.reduceEqDiff,Nat.reduceLT,Nat.reduceLeDiff,Nat.reduceMul,Nat.reduceSub,BEq.rfl,beq_self_eq_true,Int.reduceToNat];try refine⟨ot,?_⟩
   refine hK _ ?_;clear hK K;try refine AWP.seq ?_
   refine AWP.cond rfl (fun hb2 => ?_) (fun hb2 => ?_)
   ·rw[hb2,cond_true]at hz1
    refine rS ?_;refine AWP.ret ?_;subst hz1;dsimp only at hR;subst hR;exact es
   ·rw[hb2,cond_false]at hz1
    obtain⟨hp8,hp9⟩:=hpr.1 hb2;refine AWP.skip ?_;refine rS ?_;try refine AWP.seq ?_
    refine AWP.cond rfl (fun hb3 => ?_) (fun hb3 => ?_)
    ·rw[hb3,cond_true]at hz1
     refine rS ?_;refine AWP.ret ?_;subst hz1;dsimp only at hR;subst hR;exact es
    ·rw[hb3,cond_false]at hz1
     refine AWP.skip ?_;rw[hp8,hp9,hb3];refine rS ?_;exact⟨_,[0,1,2,3,4],hlq,hpr.2,hz1,sm⟩
  ·obtain rfl:q=a2.length+1:=by have:=of_decide_eq_false hb1;omega
   rw[yh (Nat.le_refl _)]at hz1;subst hz1;dsimp only at hR;refine AWP.exit ?_;refine yb ?_;refine rS ?_;refine AWP.ret ?_;subst hR;exact es
end N18
def zub (a0:(List (List Int))) (a1:Int) (a2:(List Character)) (a3:Int) (a4:Int):((List Int)×Int×Int):=zee a0 a1 a2 a3 a4
theorem y00 (a0:List (List Int)) (a1:Int) (a2:List Character) (a3 a4:Int) (hp0:a0.length<=1048576) (hp1:∀ v∈a0,bdLIi64 v) (hp2:a2.length<=1048576) (hp3:∀ v∈a2,bdCharacter v):Den Tryz.prog 18 [encL 1 yt a0,.int .i64 a1,encL 5 eCharacter a2,.int .i64 a3,.int .i64 a4] (.tup [ownL 2 1 yi (zub a0 a1 a2 a3 a4).1,.int .i64 (zub a0 a1 a2 a3 a4).2.1,.int .i64 (zub a0 a1 a2 a3 a4).2.2]):=N18.den a0 a1 a2 a3 a4 hp0 hp1 hp2 hp3
def D_zub : DF
 | [x0,x1,x2,x3,x4]=>some (.tup [ownL 2 1 yi (zub (rdL yv x0) (rdI x1) (rdL ya x2) (rdI x3) (rdI x4)).1,.int .i64 (zub (rdL yv x0) (rdI x1) (rdL ya x2) (rdI x3) (rdI x4)).2.1,.int .i64 (zub (rdL yv x0) (rdI x1) (rdL ya x2) (rdI x3) (rdI x4)).2.2],false,[wL 1 yt yv x0,wI .i64 x1,wL 5 eCharacter ya x2,wI .i64 x3,wI .i64 x4,(rdL yv x0).length<=1048576,∀ v∈(rdL yv x0),bdLIi64 v,(rdL ya x2).length<=1048576,∀ v∈(rdL ya x2),bdCharacter v])
 | _=>none
theorem ylw:OkD Tryz.prog 18 D_zub:=by unfold D_zub;exact dk y00
def yil (n:Nat) (m:Nat) (bf:List (List Int)) (kl:List Bool) (q:Nat) (b:Int):Except (List Int×Int×Int) Int:=
 bif (iS (n:Int) m bf kl (q:Int) n [] b).1 == 0 then .error ((iS (n:Int) m bf kl (q:Int) n [] b).2.1,ydg (iS (n:Int) m bf kl (q:Int) n [] b).2.1,0)else
  (bif (iS (n:Int) m bf kl (q:Int) n [] b).1 == 5 then .error ([],0,5)else .ok (iS (n:Int) m bf kl (q:Int) n [] b).2.2)
def zge (a0:List (List Int)) (a1:Int) (a2:List Character) (a3 a4:Int):List Int×Int×Int:=
 bif (zyc a0 a1 a2 a3 a4) != 0 then([],0,zyc a0 a1 a2 a3 a4)else
  (match ye (yil a1.toNat a2.length (befP a1.toNat a0) (clP a2 a3)) (a2.length+1-0) 0 a4 with|.error e=>e|.ok _=>([],0,3))
namespace N19
theorem DD:DOk Tryz.prog (Go.Ab.DD [(28,dP D_zyc),(33,dP D_impl_choosing_different)]):=yd y3q.e <| yd yjb.e <| yj _
theorem dnG:type_of% (And.intro @D_zyc.eq_1 <| @D_impl_choosing_different.eq_1):=by and_intros<;>intros<;>rfl
theorem o0 {p:Prop} (h:p:=by(first|exact hob);(first|done|fail)):p:=h
set_option maxHeartbeats 4000000 in
set_option maxRecDepth 40000 in
theorem den (a0:List (List Int)) (a1:Int) (a2:List Character) (a3 a4:Int) (hl0:a0.length<=1048576) (hp0:∀ v∈a0,bdLIi64 v) (hl2:a2.length<=1048576) (hp2:∀ v∈a2,bdCharacter v) :
  Den Tryz.prog 19 [encL 1 yt a0,.int .i64 a1,encL 5 eCharacter a2,.int .i64 a3,.int .i64 a4] (.tup [ownL 2 1 yi (zge a0 a1 a2 a3 a4).1,.int .i64 (zge a0 a1 a2 a3 a4).2.1,.int .i64 (zge a0 a1 a2 a3 a4).2.2]):=by
 generalize hR:zge a0 a1 a2 a3 a4=r;unfold zge at hR;refine di Tryz.func19 Tryz.ntmps19 Tryz.results19 ?_;intro c hL hc hk0;clear hL;have hcl:=ypq a2 a3;have hk:=And.intro hk0 yac;have dn:=And.intro dnG (And.intro yfe (And.intro y7e (And.intro y0d (And.intro @rdBf.eq_1 (And.intro @rdCl.eq_1 (And.intro @rdCh.eq_1 (choF hcl)))))));simp only[pars,Nat.zero_add];refine rS ?_;refine rS ?_;refine rS ?_;try refine AWP.seq ?_
 refine AWP.cond rfl (fun hb => ?_) (fun hb => ?_)
 ·rw[hb,cond_true]at hR
  refine rS ?_;refine AWP.ret ?_;subst hR;exact es
 ·rw[hb,cond_false]at hR
  have hask:=yai (a0:=a0) (a1:=a1) (a2:=a2) (a3:=a3) (a4:=a4) (by rw[<- ylh hl0 hp2];simpa using hb);obtain⟨n,rfl⟩:∃ n:Nat,a1=(n:Int):=⟨a1.toNat,by have:=hask.pr.n0;omega⟩
  simp only[Int.toNat_natCast]at hR;have hn9:=hask.pr.n1;have hf9:=hask.few;have hb9:=hask.bud;have hcho:=ymz (a3:=a3) hask.pr hl0 hask.few;have hcv:∀ v∈a2,zg v=true/\bdCharacter v:=fun v hv=>⟨hask.chs v hv,hp2 v hv⟩
  have hcd:=N29.den a0 n a2 a3 hask.pr hl0 hask.few hcv hask.tol;refine AWP.skip ?_;repeat refine AWP.seq ?_
  refine AWP.callI G_ok DD hc 4 hcd (by rw[hk0];exact Nat.le_refl _) rfl (by kernel_rfl) rfl rfl (fun K hK => ?_);simp only[yke,choH,choC,ypc,y3c,Nat.blt,Nat.ble,List.map,List.take,List.append,ea,absV,absVL,cput,gv,sv,dn,reduceCtorEq,reduceIte,Nat.reduceBEq,Nat.reduceAdd,Nat.reduceEqDiff,Nat.reduceLT,Nat.reduceLeDiff,Nat.reduceMul,Nat.reduceSub,BEq.rfl,beq_self_eq_true,Int.reduceToNat];refine hK _ ?_;clear hK K;refine rS ?_;refine rS ?_;refine AWP.nilB 0 149 2 1 (fun j=>yi (([]:List Int).getD j default)) (rest:=[]) rfl (by show dropL 146 ((clP a2 a3).map AV.bool++[AV.int .i64 a4,.int .i64 0,.nils])=_;rw[(choF hcl).2.2.1];rfl) ?_;simp only[setE,putL,(choF hcl).2.2.2.2.2.1,List.length_cons,List.length_nil,Nat.reduceAdd,List.cons_append,List.nil_append];try refine AWP.seq ?_
  refine AWP.block ?_;generalize hz1:ye (yil n a2.length (befP n a0) (clP a2 a3)) (a2.length+1-0) 0 a4=z1 at hR;refine AWP.range (yil n a2.length (befP n a0) (clP a2 a3)) (fun q b=>⟨[(0,encL 1 yt a0),(1,.int .i64 (n:Int)),(2,encL 5 eCharacter a2),(3,.int .i64 a3),(4,.int .i64 a4),(14,.ptr 0 0)],[.box (.int .i64 (n:Int)::.int .i64 (a2.length:Int)::.ref 1 1 0 (befP n a0).length::((clP a2 a3).map AV.bool++[.int .i64 b,.int .i64 ((q:Nat):Int),.ref 2 1 0 ([]:List Int).length])),.arr 26 1 (befP n a0).length (fun j=>yw ((befP n a0).getD j default)),.arr 2 1 ([]:List Int).length (fun j=>yi (([]:List Int).getD j default))]⟩) (fun q b=>0<=b/\b<=20000) (a2.length+1) 0 a4 [0,1,2] hz1 (Nat.zero_le _) (by(try dsimp only);omega) sm ?_;clear hz1;intro q b hq hW1 hz1;refine rS ?_;try refine AWP.seq ?_
  refine AWP.cond rfl (fun hb1 => ?_) (fun hb1 => ?_)
  ·have hlq:q<a2.length+1:=by have:=of_decide_eq_true hb1;omega
   rw[yg hlq]at hz1;simp only[yil]at hz1;refine AWP.skip ?_;try refine AWP.seq ?_
   refine AWP.block ?_;have hrn:=N30.den (n:Int) a2.length (befP n a0) (clP a2 a3) (q:Int) hcho (by omega) n [] b (by simp) (fun v hv=>by cases hv) hW1;have hpr:=yym (n:Int) a2.length (befP n a0) (clP a2 a3) (q:Int) n [] b hW1;have hlen9:=yrz (n:Int) a2.length (befP n a0) (clP a2 a3) (q:Int) n [] b;have hcd9:=yqr (n:Int) a2.length (befP n a0) (clP a2 a3) (q:Int) n [] b;simp only[List.length_nil,Nat.zero_add]at hlen9;generalize iS (n:Int) a2.length (befP n a0) (clP a2 a3) (q:Int) n [] b=p at hrn hz1 hpr hlen9 hcd9;repeat refine AWP.seq ?_
   refine AWP.callI G_ok DD hc 1 hrn (by rw[hk0];exact Nat.zero_le _) rfl (by kernel_rfl) rfl rfl (fun K hK => ?_);simp only[yke,choH,choC,ypc,y3c,Nat.blt,Nat.ble,List.map,List.take,List.append,ea,absV,absVL,cput,gv,sv,dn,reduceCtorEq,reduceIte,Nat.reduceBEq,Nat.reduceAdd,Nat.reduceEqDiff,Nat.reduceLT,Nat.reduceLeDiff,Nat.reduceMul,Nat.reduceSub,BEq.rfl,beq_self_eq_true,Int.reduceToNat];try refine⟨ot,?_⟩
   refine hK _ ?_;clear hK K;try refine AWP.seq ?_
   refine AWP.block ?_;refine rS ?_;try refine AWP.seq ?_
   refine AWP.cond rfl (fun hb2 => ?_) (fun hb2 => ?_)
   ·rw[hb2,cond_true]at hz1
    have hob:((befP n a0).length<=(befP n a0).length/\p.2.1.length<=p.2.1.length/\wCho (.int .i64 (n:Int)::.int .i64 (a2.length:Int)::(.sl none 1 (befP n a0).length fun i=>[.sl none 1 ((befP n a0).getD i default).length fun i1=>[.int .i64 (((befP n a0).getD i default).getD i1 default)]])::((clP a2 a3).map AV.bool++[.int .i64 p.2.2,.int .i64 (q:Int),.sl none 1 p.2.1.length fun j=>[.int .i64 (p.2.1.getD j default)]]))/\(clP a2 a3).length=144/\p.2.1.length<=24):=⟨Nat.le_refl _,Nat.le_refl _,yek ..,hcl,by omega⟩
    refine rD 6 ?_;refine AWP.ret ?_;subst hz1;dsimp only at hR;subst hR;exact es
   ·rw[hb2,cond_false]at hz1
    refine rS ?_;try refine AWP.seq ?_
    refine AWP.cond rfl (fun hb3 => ?_) (fun hb3 => ?_)
    ·rw[hb3,cond_true]at hz1
     refine rS ?_;refine AWP.ret ?_;subst hz1;dsimp only at hR;subst hR;exact es
    ·rw[hb3,cond_false]at hz1
     have hp3:p.1=3:=by
      have h1:p.1≠0:=by simpa using hb2
      have h2:p.1≠5:=by simpa using hb3
      omega
     refine AWP.skip ?_;rw[hpr.1 hp3];refine rS ?_;exact⟨_,[0,1,2],hlq,⟨hpr.2.1,by have:=hpr.2.2;omega⟩,hz1,sm⟩
  ·obtain rfl:q=a2.length+1:=by have:=of_decide_eq_false hb1;omega
   rw[yh (Nat.le_refl _)]at hz1;subst hz1;dsimp only at hR;refine AWP.exit ?_;refine yb ?_;refine rS ?_;refine AWP.ret ?_;subst hR;exact es
end N19
def zyb (a0:(List (List Int))) (a1:Int) (a2:(List Character)) (a3:Int) (a4:Int):((List Int)×Int×Int):=zge a0 a1 a2 a3 a4
theorem y50 (a0:List (List Int)) (a1:Int) (a2:List Character) (a3 a4:Int) (hp0:a0.length<=1048576) (hp1:∀ v∈a0,bdLIi64 v) (hp2:a2.length<=1048576) (hp3:∀ v∈a2,bdCharacter v):Den Tryz.prog 19 [encL 1 yt a0,.int .i64 a1,encL 5 eCharacter a2,.int .i64 a3,.int .i64 a4] (.tup [ownL 2 1 yi (zyb a0 a1 a2 a3 a4).1,.int .i64 (zyb a0 a1 a2 a3 a4).2.1,.int .i64 (zyb a0 a1 a2 a3 a4).2.2]):=N19.den a0 a1 a2 a3 a4 hp0 hp1 hp2 hp3
def D_zyb : DF
 | [x0,x1,x2,x3,x4]=>some (.tup [ownL 2 1 yi (zyb (rdL yv x0) (rdI x1) (rdL ya x2) (rdI x3) (rdI x4)).1,.int .i64 (zyb (rdL yv x0) (rdI x1) (rdL ya x2) (rdI x3) (rdI x4)).2.1,.int .i64 (zyb (rdL yv x0) (rdI x1) (rdL ya x2) (rdI x3) (rdI x4)).2.2],false,[wL 1 yt yv x0,wI .i64 x1,wL 5 eCharacter ya x2,wI .i64 x3,wI .i64 x4,(rdL yv x0).length<=1048576,∀ v∈(rdL yv x0),bdLIi64 v,(rdL ya x2).length<=1048576,∀ v∈(rdL ya x2),bdCharacter v])
 | _=>none
theorem y2x:OkD Tryz.prog 19 D_zyb:=by unfold D_zyb;exact dk y50
def zje (a0:(List (List Int))) (a1:Int) (a2:(List Character)) (a3:Int) (a4:Int):Bool:=
 (bif decide ((zt a0 1048576)<0)then true else(bif decide ((zdb a2 (zt a0 1048576))<0)then true else(bif (((!(zx ((zyb (zi a0) a1 (zk a2) a3 a4).1) ((zub (zi a0) a1 (zk a2) a3 a4).1))) || (((zyb (zi a0) a1 (zk a2) a3 a4).2.1) != ((zub (zi a0) a1 (zk a2) a3 a4).2.1))) || (((zyb (zi a0) a1 (zk a2) a3 a4).2.2) != ((zub (zi a0) a1 (zk a2) a3 a4).2.2)))then false else(bif (!(znb (zi a0) (zi a0)))then false else(bif (!(zob (zk a2) (zk a2)))then false else(bif (((decide (((zod (zk a2) ((zic (zi a0) 1).1)).1)<0) || (!(zx ((zyb (zi a0) a1 (zk a2) a3 a4).1) ((zub (zi a0) a1 (zk a2) a3 a4).1)))) || (((zyb (zi a0) a1 (zk a2) a3 a4).2.1) != ((zub (zi a0) a1 (zk a2) a3 a4).2.1))) || (((zyb (zi a0) a1 (zk a2) a3 a4).2.2) != ((zub (zi a0) a1 (zk a2) a3 a4).2.2)))then false else(bif decide ((zjb ((zb ((zyb (zi a0) a1 (zk a2) a3 a4).1) 1).2) 1)<0)then false else(bif ((zjb ((zb ((zyb (zi a0) a1 (zk a2) a3 a4).1) 1).2) 1) != ((zb ((zyb (zi a0) a1 (zk a2) a3 a4).1) 1).1))then false else true))))))))
namespace N4
theorem DD:DOk Tryz.prog (Go.Ab.DD [(11,dP D_zx),(12,dP D_znb),(13,dP D_zob),(16,dM [true,false] D_zb),(17,dP D_zjb),(18,dP D_zub),(19,dP D_zyb),(5,dP D_zt),(6,dP D_zdb),(8,dP D_zi),(9,dP D_zk)]):=yd ybm.e <| yd y7r.e <| yd yvr.e <| yd ysm.e <| yd y4q.e <| yd ylw.e <| yd y2x.e <| yd ydv.e <| yd yjr.e <| yd y8v.e <| yd yvv.e <| yj _
theorem dn:type_of% (And.intro @D_zx.eq_1 <| And.intro @D_znb.eq_1 <| And.intro @D_zob.eq_1 <| And.intro @D_zb.eq_1 <| And.intro @D_zjb.eq_1 <| And.intro @D_zub.eq_1 <| And.intro @D_zyb.eq_1 <| And.intro @D_zt.eq_1 <| And.intro @D_zdb.eq_1 <| And.intro @D_zi.eq_1 <| And.intro @D_zk.eq_1 <| And.intro @yle <| @yle):=And.intro @D_zx.eq_1 <| And.intro @D_znb.eq_1 <| And.intro @D_zob.eq_1 <| And.intro @D_zb.eq_1 <| And.intro @D_zjb.eq_1 <| And.intro @D_zub.eq_1 <| And.intro @D_zyb.eq_1 <| And.intro @D_zt.eq_1 <| And.intro @D_zdb.eq_1 <| And.intro @D_zi.eq_1 <| And.intro @D_zk.eq_1 <| And.intro @yle <| @yle
theorem ol:type_of% (And.intro @yfc <| And.intro @ykt <| @ybt):=And.intro @yfc <| And.intro @ykt <| @ybt
theorem gr {p:Prop} (h:p:=by(grind [yfc,yfc]);first|done|fail):p:=h
theorem o1 {p:Prop} (h:p:=by(first|(exact mrg)|(exact yrf _ _ (by exact mrg))|((try simp only[ol]);first|(have h9:=hG0 (by assumption);first|exact h9.2|exact h9.1|omega)|(have h9:=hG1 (by assumption);first|exact h9.2|exact h9.1|omega)));first|done|fail):p:=h
set_option maxHeartbeats 4000000 in
set_option maxRecDepth 20000 in
theorem _root_.Go.Ab.zje_den (a0:(List (List Int))) (a1:Int) (a2:(List Character)) (a3:Int) (a4:Int)  : Den Tryz.prog 4 [encL 1 yt a0,.int .i64 a1,encL 5 eCharacter a2,.int .i64 a3,.int .i64 a4] (.bool (zje a0 a1 a2 a3 a4)):=by
 generalize hR:zje a0 a1 a2 a3 a4=r;unfold zje at hR;refine yal G_ok Tryz.func4 (by kernel_rfl) rfl Tryz.ntmps4 (by rw[Tryz.results4]) (by simp) rfl ?_;intro c u hdp hlit hL hc hk;obtain⟨hL0,hL1,hL2,hL3,hL4,_⟩:=hL;have hw0:a0.length<9223372036854775808:=Nat.lt_succ_of_le (yc hL0).1;have hw1:∀ v∈a0,bwLIi64 v:=fun v hv=>ynb v ((yc hL0).2 v hv)
 have hw2:a2.length<9223372036854775808:=Nat.lt_succ_of_le (yc hL2).1;have hw3:∀ v∈a2,bwCharacter v:=fun v hv=>yf v ((yc hL2).2 v hv)
 clear hL0 hL1 hL2 hL3 hL4;simp only[litN,lit1,litM,yfo,litR,ynp,encL,sv,Nat.zero_add,Nat.reduceAdd]at hlit;simp only[litN,lit1,litM,yfo,encL,sv,pars,Nat.zero_add,Nat.reduceAdd];have hf0:=y2i a0 (1048576) (by omega) (by omega) hw0 hw1;have hf1:=yhh a2 (zt a0 (1048576)) (by omega) (by omega) hw2 hw3;have hG0:decide (zt a0 (1048576)<0)=false->a0.length<=1048576/\∀ x∈a0,bdLIi64 x:=fun h=>⟨(hf0.2.2 (of_decide_eq_false h)).1,fun x hx=>yxl x ((hf0.2.2 (of_decide_eq_false h)).2 x hx)⟩
 have hG1:decide (zdb a2 (zt a0 (1048576))<0)=false->a2.length<=1048576/\∀ x∈a2,bdCharacter x:=fun h=>⟨(hf1.2.2 (of_decide_eq_false h)).1,fun x hx=>ync x ((hf1.2.2 (of_decide_eq_false h)).2 x hx)⟩
 iterate 4 refine rS ?_
 refine AWP.cond rfl (fun hb => ?_) (fun hb => ?_)
 ·replace hR:=ct hR
  refine rS ?_;refine AWP.ret ?_;subst hR;exact es
 ·replace hR:=cf hR
  iterate 2 refine rS ?_
  refine AWP.cond rfl (fun hb => ?_) (fun hb => ?_)
  ·replace hR:=ct hR
   refine rS ?_;refine AWP.ret ?_;subst hR;exact es
  ·replace hR:=cf hR
   iterate 5 refine rS ?_
   refine AWP.cond rfl (fun hb => ?_) (fun hb => ?_)
   ·replace hR:=ct hR
    refine rS ?_;refine AWP.ret ?_;subst hR;exact es
   ·replace hR:=cf hR
    refine rS ?_;refine AWP.cond rfl (fun hb => ?_) (fun hb => ?_)
    ·replace hR:=ct hR
     refine rS ?_;refine AWP.ret ?_;subst hR;exact es
    ·replace hR:=cf hR
     refine rS ?_;refine AWP.cond rfl (fun hb => ?_) (fun hb => ?_)
     ·replace hR:=ct hR
      refine rS ?_;refine AWP.ret ?_;subst hR;exact es
     ·replace hR:=cf hR
      refine rS ?_;refine AWP.seq ?_;refine rX 2 (N14.den (zi a0) 1 ot) ?_;refine AWP.seq ?_;refine rX 2 (N15.den (zk a2) ((zic (zi a0) 1).1) ot) ?_;refine rS ?_;refine AWP.cond rfl (fun hb => ?_) (fun hb => ?_)
      ·replace hR:=ct hR
       refine rS ?_;refine AWP.ret ?_;subst hR;exact es
      ·replace hR:=cf hR
       iterate 5 refine rS ?_
       refine AWP.cond rfl (fun hb => ?_) (fun hb => ?_)
       ·replace hR:=ct hR
        refine rS ?_;refine AWP.ret ?_;subst hR;exact es
       ·replace hR:=cf hR
        refine rS ?_;refine AWP.cond rfl (fun hb => ?_) (fun hb => ?_)
        ·replace hR:=ct hR
         refine rS ?_;refine AWP.ret ?_;subst hR;exact es
        ·replace hR:=cf hR
         iterate 2 refine rS ?_
         refine AWP.cond rfl (fun hb => ?_) (fun hb => ?_)
         ·exfalso;simp_all
         ·refine rS ?_
          iterate 2 refine rS ?_
          refine AWP.cond rfl (fun hb => ?_) (fun hb => ?_)
          ·exfalso;simp_all
          ·refine rS ?_
           refine AWP.cond rfl (fun hb => ?_) (fun hb => ?_)
           ·exfalso;simp_all
           ·refine rS ?_
            refine AWP.ret ?_;subst hR;exact es
end N4
theorem ytl {ρ σ : Type} {b : Nat -> σ -> Except ρ σ} {m : Nat} (W : Nat -> σ -> Prop) (V : ρ -> Prop) (hb : ∀ i s, i < m -> W i s -> match b i s with | .ok t => W (i + 1) t | .error e => V e) : ∀ (k i : Nat) (s : σ), i + k = m -> W i s -> match ye b k i s with | .ok t => W m t | .error e => V e
 | 0,i,s,hk,h=>by
  obtain rfl:i=m:=by omega
  exact h
 | k+1,i,s,hk,h=>by
  have h1:=hb i s (by omega) h;simp only[ye]
  cases hbi:b i s with
  | error e=>rw[hbi]at h1;exact h1
  | ok t=>rw[hbi]at h1;exact ytl W V hb k (i+1) t (by omega) h1
def ywv (bf:List (List Int)) (kl:List Bool) (ms:Int) (ch:List Int) (c:Nat):Bool:=(!(yob bf kl ch (c:Int))) || ((!(zrc ch (c:Int))) && decide (ms<=ydg ch))
def ExtP (m : Nat) (bf : List (List Int)) (kl : List Bool) (ms : Int) : Nat -> List Int -> List Int -> Prop
 | 0,ch,f=>f=ch
 | k+1,ch,f=>∃ c,c<m/\ywv bf kl ms ch c=false/\ExtP m bf kl ms k (ch++[(c:Int)]) f
theorem yoz (n:Int) (m:Nat) (bf:List (List Int)) (kl:List Bool) (ms:Int):∀ (k:Nat) (ch:List Int) (b:Int),
  ((iS n m bf kl ms k ch b).1=0->ExtP m bf kl ms k ch (iS n m bf kl ms k ch b).2.1)/\((iS n m bf kl ms k ch b).1=3->∀ f,¬ ExtP m bf kl ms k ch f)
 | 0,ch,b=>⟨(fun _=>rfl),(fun h=>by cases h)⟩
 | k+1,ch,b=>by
  have ih:=yoz n m bf kl ms k
  have h:=ytl (m:=m) (b:=iS_b n m bf kl ms (iS n m bf kl ms k) ch) (fun i _=>∀ j,j<i->ywv bf kl ms ch j=false->∀ f,¬ ExtP m bf kl ms k (ch++[(j:Int)]) f) (fun e=>(e.1=0->ExtP m bf kl ms (k+1) ch e.2.1)/\(e.1=3->∀ f,¬ ExtP m bf kl ms (k+1) ch f)) (fun i t hi ht=>by
   unfold iS_b
   cases hc1:((!(yob bf kl ch (i:Int))) || ((!(zrc ch (i:Int))) && decide (ms<=ydg ch)))with
   | true=>
    intro j hj hov;by_cases hji:j=i
    ·subst hji
     unfold ywv at hov;rw[hc1]at hov;cases hov
    ·exact ht j (by omega) hov
   | false=>
    cases hc2:(t == 0)with
    | true=>exact⟨(fun h=>by cases h),(fun h=>by cases h)⟩
    | false=>
     have h1:=ih (ch++[(i:Int)]) (IntKind.wrap .i64 (t-1));generalize iS n m bf kl ms k (ch++[(i:Int)]) (IntKind.wrap .i64 (t-1))=r at h1
     cases hc3:(r.1 != 3)with
     | true=>
      have hne:r.1≠3:=by simpa using hc3
      exact⟨fun h=>⟨i,hi,hc1,h1.1 h⟩,fun h=>absurd h hne⟩
     | false=>
      have he:r.1=3:=by simpa using hc3
      intro j hj hov;by_cases hji:j=i
      ·subst hji;exact h1.2 he
      ·exact ht j (by omega) hov) (m-0) 0 b (by omega) (fun j hj=>by omega)
  unfold iS
  cases hl:ye (iS_b n m bf kl ms (iS n m bf kl ms k) ch) (m-0) 0 b with
  | error e=>rw[hl]at h;exact h
  | ok t=>
   rw[hl]at h;refine⟨(fun h=>by cases h),(fun _ f hf => ?_)⟩;obtain⟨c,hc,h1,h2⟩:=hf;exact h c hc h1 f h2
theorem yjm {m c:Nat} {ch:List Int} (hch:∀ v∈ch,0<=v/\v<(m:Int)) (hc:c<m):∀ v∈ch++[(c:Int)],0<=v/\v<(m:Int):=fun v hv=>by
 rcases List.mem_append.1 hv with h|h
 ·exact hch v h
 ·rw[List.mem_singleton]at h;subst h;omega
theorem y8l {m:Nat} {bf:List (List Int)} {kl:List Bool} {ms:Int} {ch:List Int} {c:Nat} (hch:∀ v∈ch,0<=v/\v<(m:Int)):ywv bf kl ms ch c=false↔yob bf kl ch (c:Int)=true/\((c:Int)∈ch\/((numP m ch:Nat):Int)<ms):=by
 unfold ywv;rw[yoi,ygm hch];simp only[Bool.or_eq_false_iff,Bool.and_eq_false_iff,Bool.not_eq_false',decide_eq_false_iff_not,decide_eq_true_eq];constructor
 ·rintro⟨h1,h2|h2⟩
  ·exact⟨h1,.inl h2⟩
  ·exact⟨h1,.inr (by omega)⟩
 ·rintro⟨h1,h2|h2⟩
  ·exact⟨h1,.inl h2⟩
  ·exact⟨h1,.inr (by omega)⟩
theorem yiq {m:Nat} {bf:List (List Int)} {kl:List Bool} {ms:Int}:∀ (k:Nat) (ch f:List Int),(∀ v∈ch,0<=v/\v<(m:Int))->ExtP m bf kl ms k ch f ->
  (∀ v∈f,0<=v/\v<(m:Int))/\numP m ch<=numP m f/\(((numP m ch:Nat):Int)<=ms->((numP m f:Nat):Int)<=ms)
 | 0,ch,f,hch,h=>by
  have e:f=ch:=h;subst e;exact⟨hch,Nat.le_refl _,id⟩
 | k+1,ch,f,hch,h=>by
  obtain⟨c,hc,h1,h2⟩:=h;obtain⟨_,h3⟩:=(y8l hch).1 h1;obtain⟨g1,g2,g3⟩:=yiq k _ _ (yjm hch hc) h2;have hs:=ynk (m:=m) (l:=ch) (x:=(c:Int)) (by omega) (by omega);refine⟨g1,by omega,fun hle=>g3 ?_⟩;rw[hs];by_cases hm:(c:Int)∈ch
  ·rw[if_pos hm];omega
  ·rw[if_neg hm]
   have:((numP m ch:Nat):Int)<ms:=h3.resolve_left hm;omega
theorem ymu {m : Nat} {bf : List (List Int)} {kl : List Bool} {ms ms' : Int} : ∀ (k : Nat) (ch f : List Int), (∀ v ∈ ch, 0 <= v /\ v < (m : Int)) -> ExtP m bf kl ms k ch f -> ((numP m f : Nat) : Int) <= ms' -> ExtP m bf kl ms' k ch f
 | 0,ch,f,hch,h,_=>h
 | k+1,ch,f,hch,h,hle=>by
  obtain⟨c,hc,h1,h2⟩:=h;obtain⟨h4,h3⟩:=(y8l hch).1 h1;have hs:=ynk (m:=m) (l:=ch) (x:=(c:Int)) (by omega) (by omega);have hn:=(yiq k _ _ (yjm hch hc) h2).2.1;refine⟨c,hc,(y8l hch).2 ⟨h4,?_⟩,ymu k _ _ (yjm hch hc) h2 hle⟩;by_cases hm:(c:Int)∈ch
  ·exact .inl hm
  ·rw[if_neg hm]at hs
   exact .inr (by omega)
theorem yar {n m:Nat} {bf:List (List Int)} {kl:List Bool} {cl:List (List Bool)} {bud:Int} (hp:∀ ms:Int,Pair m bf kl cl ms ms) (hbud:bud<=20000) (hn:n=bf.length):∀ (k q:Nat) (nd:Int),0<=nd/\nd<=bud->(∀ f,0<q->¬ ExtP m bf kl ((q:Int)-1) n [] f) ->
  (match ye (yil n m bf kl) k q (bud-nd)with|.error e=>e|.ok _=>([],0,3))=(match ye (y0f n bf cl bud) k q nd with|.error e=>e|.ok _=>([],0,3))
 | 0,q,nd,_,_=>rfl
 | k+1,q,nd,hnd,hno=>by
  have ih:=yar hp hbud hn k (q+1);have hnil:∀ v∈([]:List Int),0<=v/\v<(m:Int):=fun v hv=>by cases hv
  have h:=ymj (n:=(n:Int)) (bud:=bud) (hp q) hbud n [] nd (by simp[hn]) hnil hnd;have hext:=yoz (n:Int) m bf kl (q:Int) n [] (bud-nd);have hpr:=yog bf cl (q:Int) bud n [] (y8b m []) nd hnd;rw[ypr]at h hpr;have hlen:=(hp q).len;simp only[ye]
  rw[show yil n m bf kl q (bud-nd)=(bif (iS (n:Int) m bf kl (q:Int) n [] (bud-nd)).1 == 0 then .error ((iS (n:Int) m bf kl (q:Int) n [] (bud-nd)).2.1,ydg (iS (n:Int) m bf kl (q:Int) n [] (bud-nd)).2.1,0)else
   (bif (iS (n:Int) m bf kl (q:Int) n [] (bud-nd)).1 == 5 then .error ([],0,5)else .ok (iS (n:Int) m bf kl (q:Int) n [] (bud-nd)).2.2))from rfl,
   show y0f n bf cl bud q nd=(bif (sR bf cl (q:Int) bud n [] (List.replicate m (0:Int)) nd).1 then .error (zuc (sR bf cl (q:Int) bud n [] (List.replicate m (0:Int)) nd).2.1,(q:Int),0)else
   (bif (sR bf cl (q:Int) bud n [] (List.replicate m (0:Int)) nd).2.2.2.2 then .error ([],0,5)else .ok (sR bf cl (q:Int) bud n [] (List.replicate m (0:Int)) nd).2.2.2.1))by unfold y0f;rw[hlen]]
  generalize iS (n:Int) m bf kl (q:Int) n [] (bud-nd)=r at h hext;generalize sR bf cl (q:Int) bud n [] (List.replicate m 0) nd=p at h hpr;rcases h with⟨h1,h2,h3⟩|⟨h1,h2,h3⟩|⟨h1,h2,h3,h4⟩
  ·have he:=hext.1 h1
   obtain⟨g1,g2,g3⟩:=yiq n [] _ hnil he;have hz:numP m ([]:List Int)=0:=by unfold numP memN;simp
   rw[hz]at g3;have hle:((numP m r.2.1:Nat):Int)<=(q:Int):=g3 (by omega)
   have hq:ydg r.2.1=(q:Int):=by
    rw[ygm g1];by_cases hlt:((numP m r.2.1:Nat):Int)<(q:Int)
    ·exact absurd (ymu n [] _ hnil he (by omega:((numP m r.2.1:Nat):Int)<=(q:Int)-1)) (hno _ (by omega))
    ·omega
   rw[show(r.1 == 0)=true by rw[h1];rfl,h2, <- h3,hq];simp[zuc]
  ·rw[h1,h2,h3];rfl
  ·rw[show(r.1 == 0)=false by rw[h1];rfl,show(r.1 == 5)=false by rw[h1];rfl,h2,h3,h4]
   simp only[cond_false];refine ih _ hpr.2 fun f _ => ?_
   rw[show((q+1:Nat):Int)-1=(q:Int)by omega];exact hext.2 h1 f
theorem yp1 {a0:List (List Int)} {a1:Int} {a2:List Character} {a3 a4:Int} (hl:a0.length<=1048576) (hb:∀ v∈a2,bdCharacter v):zge a0 a1 a2 a3 a4=zee a0 a1 a2 a3 a4:=by
 unfold zge zee;rw[ylh hl hb]
 cases hc:(zib a0 a1 a2 a3 a4 != 0)with
 | true=>rfl
 | false=>
  have hask:=yai (by simpa using hc:zib a0 a1 a2 a3 a4=0);obtain⟨n,rfl⟩:∃ n:Nat,a1=(n:Int):=⟨a1.toNat,by have:=hask.pr.n0;omega⟩
  simp only[Int.toNat_natCast,cond_false];have hbd:=hask.bud;have h:=yar (n:=n) (bud:=a4) (fun ms=>yov (msI:=ms) (ms:=ms) hask.pr hl hask.few (fun v hv=>⟨hask.chs v hv,hb v hv⟩) hask.tol (fun d hd=>Iff.rfl)) hbd.2 (yff n a0).symm (a2.length+1-0) 0 0 (by omega) (fun f h=>by omega);rw[Int.sub_zero]at h;exact h
theorem ya1 {a0:List (List Int)} {a1:Int} {a2:List Character} {a3 a4:Int}:(zee a0 a1 a2 a3 a4).1.length<=24:=by
 unfold zee
 cases hc:(zib a0 a1 a2 a3 a4 != 0)with
 | true=>exact Nat.zero_le _
 | false=>
  have hask:=yai (by simpa using hc:zib a0 a1 a2 a3 a4=0);have hn:=hask.pr.n1
  have h:=y1d (b:=y0f a1.toNat (befP a1.toNat a0) (zj a2 a3) a4) (fun _=>True) (fun e=>e.1.length<=24) (fun q t _=>by
   unfold y0f;have h:=yqo (befP a1.toNat a0) (zj a2 a3) (q:Int) a4 a1.toNat [] (List.replicate (zj a2 a3).length 0) t;simp only[List.length_nil,Nat.zero_add]at h;generalize sR (befP a1.toNat a0) (zj a2 a3) (q:Int) a4 a1.toNat [] (List.replicate (zj a2 a3).length 0) t=p at h
   cases p.1 with
   | true=>simp[zuc];omega
   | false=>
    cases p.2.2.2.2 with
    | true=>exact Nat.zero_le _
    | false=>trivial) (a2.length+1-0) 0 0 trivial
  cases hl:ye (y0f a1.toNat (befP a1.toNat a0) (zj a2 a3) a4) (a2.length+1-0) 0 0 with
  | error e=>rw[hl]at h;simpa using h
  | ok t=>exact Nat.zero_le _
theorem yoh (a0:List (List Int)) (a1:Int) (a2:List Character) (a3 a4:Int) (hl0:a0.length<9223372036854775808) (hv0:∀ v∈a0,bwLIi64 v) (hl2:a2.length<9223372036854775808) (hv2:∀ v∈a2,bwCharacter v):zje a0 a1 a2 a3 a4=true:=by
 unfold zje;have f0:=y2i a0 1048576 (by omega) (by omega) hl0 hv0;by_cases c0:zt a0 1048576<0
 ·rw[decide_eq_true c0];rfl
 rw[decide_eq_false c0];simp only[cond_false];have f1:=yhh a2 (zt a0 1048576) (by omega) (by omega) hl2 hv2;by_cases c1:zdb a2 (zt a0 1048576)<0
 ·rw[decide_eq_true c1];rfl
 rw[decide_eq_false c1];simp only[cond_false];obtain⟨k0,k1⟩:=f0.2.2 c0;obtain⟨k2,k3⟩:=f1.2.2 c1;simp only[ykt,ybt,ywr,yav,ytv];rw[show zyb a0 a1 a2 a3 a4=zub a0 a1 a2 a3 a4 from yp1 k0 (fun v hv=>ync v (k3 v hv))];have hlen:(zub a0 a1 a2 a3 a4).1.length<=24:=ya1;have hm:=yyq (zub a0 a1 a2 a3 a4).1 1 (by omega) (by omega) (by omega);have hm2:=zb_k (zub a0 a1 a2 a3 a4).1 1 (by omega) (by omega) (by omega);have r0:=ywe a0 1 (by omega) (by omega) k0 (fun v hv=>k1 v hv);have r1:=yad a2 (zic a0 1).1 r0.1 r0.2 k2 (fun v hv=>(k3 v hv).1);rw[hm.1,decide_eq_false (show ¬ (zb (zub a0 a1 a2 a3 a4).1 1).1<0 by omega),decide_eq_false (show ¬ (zod a2 (zic a0 1).1).1<0 by omega)];simp
end Go.Ab
