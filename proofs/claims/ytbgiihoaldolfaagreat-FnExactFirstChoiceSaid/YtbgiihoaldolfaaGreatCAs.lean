/- A part of a proof: walks of functions and lemmas of our own. No conditions. -/
import Derived.Test.YtbgiihoaldolfaaGreatCAl
import Derived.Test.YtbgiihoaldolfaaGreatCAr
import Derived.Test.YtbgiihoaldolfaaGreatCAo
import Derived.Test.YtbgiihoaldolfaaGreatCAq
import Derived.Test.YtbgiihoaldolfaaGreatCAn
set_option linter.unusedSectionVars false
set_option linter.unusedVariables false
set_option linter.unusedSimpArgs false
set_option maxHeartbeats 1000000
namespace Go.Ab
open Go Go.Proofs
def zae (a0:Int):Bool:=
 (zh a0 0 20)
namespace N41
theorem DD:DOk Tryz.prog (Go.Ab.DD [(42,dP D_zh)]):=yd yeg.e <| yj _
theorem dn:type_of% (@D_zh.eq_1):=by and_intros<;>intros<;>rfl
theorem ol:type_of% (@zh.eq_1):=@zh.eq_1
theorem den (a0:Int)  : Den Tryz.prog 41 [.int .i64 a0] (.bool (zae a0)):=by
 generalize hR:zae a0=r;unfold zae at hR;refine di Tryz.func41 Tryz.ntmps41 Tryz.results41 ?_;intro c hL hc hk;clear hL;simp only[pars,Nat.zero_add];iterate 2 refine rS ?_
 refine AWP.ret ?_;subst hR;exact es
end N41
def D_zae : DF
 | [x0]=>some (.bool (zae (rdI x0)),false,[wI .i64 x0])
 | _=>none
theorem ysx:OkD Tryz.prog 41 D_zae:=by unfold D_zae;exact dk N41.den
def zbe (a0:(List Int)):(List Int):=
 (List.replicate 0 (default:Int))++a0
namespace N47
theorem DD:DOk Tryz.prog (Go.Ab.DD []):=yj _
theorem den (a0:(List Int)) (hb0:a0.length<1099511627776):Den Tryz.prog 47 [encL 1 yi a0] (ownL 2 1 yi (zbe a0)):=by
 generalize hR:zbe a0=r;unfold zbe at hR;refine di Tryz.func47 Tryz.ntmps47 Tryz.results47 ?_;intro c hL hc hk;obtain⟨hL0,_⟩:=hL;have hw0:a0.length<9223372036854775808:=Nat.lt_succ_of_le (yc hL0).1;clear hL0;simp only[pars,Nat.zero_add];iterate 2 refine rS ?_
 refine AWP.ret ?_;subst hR;exact es
end N47
def D_zbe : DF
 | [x0]=>some (ownL 2 1 yi (zbe (rdL ydb x0)),false,[wL 1 yi ydb x0,(rdL ydb x0).length<1099511627776])
 | _=>none
theorem yyw:OkD Tryz.prog 47 D_zbe:=by unfold D_zbe;exact dk N47.den
namespace N33
theorem DD:DOk Tryz.prog (Go.Ab.DD [(47,dP D_zbe),(48,dM [true] D_slices_Sort_int64),(49,dM [true] D_slices_Compact_int64)]):=yd yyw.e <| yd yne.e <| yd ygd.e <| yj _
theorem o0 {p:Prop} (h:p:=by((repeat' with_reducible apply And.intro)<;>first|omega|decide|(rw[hsub,yyd];omega)|(rw[yyd];omega));(first|done|fail)):p:=h
theorem dnG:type_of% (And.intro @D_zbe.eq_1 <| And.intro @D_slices_Sort_int64.eq_1 <| @D_slices_Compact_int64.eq_1):=by and_intros<;>intros<;>rfl
set_option maxHeartbeats 4000000 in
set_option maxRecDepth 40000 in
theorem den (cn cm b ms:Int) (bf:List (List Int)) (kl:List Bool) (ch:List Int) (hcl:kl.length=144) (hch:ch.length<=24) :
  Den Tryz.prog 33 [.ep (choC cn cm (encL 1 yt bf) kl b ms (encL 1 yi ch))] (.int .i64 (ydg ch)):=by
 refine di Tryz.func33 Tryz.ntmps33 Tryz.results33 ?_;intro c hL hc hk0;clear hL;have hk:=And.intro hk0 yac;have dn:=And.intro dnG (choF hcl);have hcid:zbe ch=ch:=by unfold zbe;simp
 have hsl:=yyd ch;have hsub:subL (yof ch) 0 ch.length=yof ch:=by rw[<- hsl];exact y6i _
 have hcl2:=ynl (yof ch);unfold choC;simp only[pars,Nat.zero_add];refine rS ?_;refine rS ?_;rw[hcid];refine rS ?_;refine rS ?_;refine AWP.ret ?_;rw[hsub];unfold ydg;exact es
end N33
theorem yjb:OkD Tryz.prog 33 D_impl_choosing_different:=by
 intro xs r z ob h ho;unfold D_impl_choosing_different at h;split at h
 ·rename_i cs
  simp only[Option.some.injEq,Prod.mk.injEq]at h;obtain⟨rfl,rfl,rfl⟩:=h;obtain⟨⟨n0,m0,b0,ms0,hw⟩,hcl,hch,_⟩:=ho;refine Den.sim (N33.den n0 m0 b0 ms0 (rdBf cs) (rdCl cs) (rdCh cs) hcl hch) ?_ ?_ rfl
  ·exact y5 hw trivial
  ·exact y7 rfl rfl
 ·cases h
theorem OB9 (n:Int) (m:Nat) (bf:List (List Int)) (kl:List Bool) (ms:Int) (ch:List Int) (b1:Int) (i1:Nat) (ho:ChoOk n m bf kl) (hch:ChOk m ch) (hl:(ch.length:Int)<n) (hi:i1<m) :
  (bf.length<=bf.length/\ch.length<=ch.length/\wCho (.int .i64 n::.int .i64 m::(.sl none 1 bf.length fun i=>[.sl none 1 (bf.getD i default).length fun i1=>[.int .i64 ((bf.getD i default).getD i1 default)]])::(kl.map AV.bool++[.int .i64 b1,.int .i64 ms,.sl none 1 ch.length fun j=>[.int .i64 (ch.getD j default)]])) /\
  (∃ n m,ChoOk n m bf kl/\ChOk m ch/\(ch.length:Int)<n/\0<=(i1:Int)/\(i1:Int)<m)/\((!!yob bf kl ch (i1:Int))=true->ch.length<=ch.length) /\
  ((!!yob bf kl ch (i1:Int))=true->(!zrc ch (i1:Int))=true->bf.length<=bf.length/\ch.length<=ch.length/\wCho (.int .i64 n::.int .i64 m::(.sl none 1 bf.length fun i=>[.sl none 1 (bf.getD i default).length fun i1=>[.int .i64 ((bf.getD i default).getD i1 default)]])::(kl.map AV.bool++[.int .i64 b1,.int .i64 ms,.sl none 1 ch.length fun j=>[.int .i64 (ch.getD j default)]]))/\kl.length=144/\ch.length<=24)):=
 ⟨Nat.le_refl _,Nat.le_refl _,yek ..,⟨n,m,ho,hch,hl,by omega,by omega⟩,fun _=>Nat.le_refl _,fun _ _=>⟨Nat.le_refl _,Nat.le_refl _,yek ..,ho.cl,by have:=ho.n1;omega⟩⟩
namespace N30
theorem DD:DOk Tryz.prog (Go.Ab.DD [(45,dP D_impl_choosing_allowed),(46,dP D_zrc),(33,dP D_impl_choosing_different)]):=yd y6c.e <| yd yvy.e <| yd yjb.e <| yj _
theorem o0 {p:Prop} (h:p:=by(first|exact hob.1|exact hob.2);(first|done|fail)):p:=h
theorem dnG:type_of% (And.intro @D_impl_choosing_allowed.eq_1 <| And.intro @D_zrc.eq_1 <| @D_impl_choosing_different.eq_1):=by and_intros<;>intros<;>rfl
set_option maxHeartbeats 2000000 in
set_option maxRecDepth 20000 in
theorem den (n:Int) (m:Nat) (bf:List (List Int)) (kl:List Bool) (ms:Int) (ho:ChoOk n m bf kl) (hms:0<=ms/\ms<=12):∀ (k:Nat) (ch:List Int) (b:Int),(ch.length:Int)+k=n->ChOk m ch->0<=b/\b<=20000 ->
  DenI Tryz.prog 30 1 (choH n m bf kl b ms ch) [.ptr 0 0] (choH n m bf kl (iS n m bf kl ms k ch b).2.2 ms (iS n m bf kl ms k ch b).2.1) (.int .i64 (iS n m bf kl ms k ch b).1):=by
 intro k
 induction k with
 | zero=>
  intro ch b hlk hch hb;refine dI Tryz.func30 Tryz.ntmps30 Tryz.results30 ?_;intro c hL hc hk0;have hk:=And.intro hk0 yac;clear hL;have ho9:=ho;obtain⟨n0,n1,m0,m1,hlen,hcl,hrow⟩:=ho;have dn:=And.intro dnG (And.intro yfe (And.intro y7e (And.intro y0d (And.intro @rdBf.eq_1 (And.intro @rdCl.eq_1 (And.intro @rdCh.eq_1 (choF hcl)))))));unfold choH choC;simp only[pars,Nat.zero_add,iS];refine rS ?_;refine rS ?_;refine rS ?_;refine AWP.cond rfl (fun hb => ?_) (fun hb => ?_)
  ·refine rS ?_
   refine AWP.ret ?_;simp only[y2c,en,ea];refine⟨[0,1,2],?_⟩;exact sm
  ·exfalso
   simp only[beq_eq_false_iff_ne]at hb;omega
 | succ k ih=>
  intro ch b hlk hch hbd;generalize hR:iS n m bf kl ms (k+1) ch b=r;unfold iS at hR;refine dI Tryz.func30 Tryz.ntmps30 Tryz.results30 ?_;intro c hL hc hk0;have hk:=And.intro hk0 yac;clear hL;have ho9:=ho;obtain⟨n0,n1,m0,m1,hlen,hcl,hrow⟩:=ho;have dn:=And.intro dnG (And.intro yfe (And.intro y7e (And.intro y0d (And.intro @rdBf.eq_1 (And.intro @rdCl.eq_1 (And.intro @rdCh.eq_1 (choF hcl)))))));unfold choH choC;simp only[pars,Nat.zero_add];refine rS ?_;refine rS ?_;refine rS ?_;refine AWP.cond rfl (fun hb => ?_) (fun hb => ?_)
  ·exfalso
   have h9:=eq_of_beq hb;omega
  ·refine rS ?_
   refine AWP.block ?_;generalize hz1:ye (iS_b n m bf kl ms (iS n m bf kl ms k) ch) (m-0) 0 b=z1 at hR;refine AWP.range (iS_b n m bf kl ms (iS n m bf kl ms k) ch) (fun i1 b1=>⟨[(0,.ptr 0 0),(3,.int .i64 ((ch.length:Nat):Int)),(20,.int .i64 (m:Int)),(21,.int .i64 ((i1:Nat):Int))],[.box (.int .i64 n::.int .i64 (m:Int)::.ref 1 1 0 bf.length::(kl.map AV.bool++[.int .i64 b1,.int .i64 ms,.ref 2 1 0 ch.length])),.arr 26 1 bf.length (fun j=>yw (bf.getD j default)),.arr 2 1 ch.length (fun j=>yi (ch.getD j default))]⟩) (fun i1 b1=>0<=b1/\b1<=20000) m 0 b [0,1,2] hz1 ot (by exact hbd) sm ?_;clear hz1;intro i1 b1 hi1 hW1 hz1;refine rS ?_;refine AWP.seq ?_;refine AWP.cond rfl (fun hb => ?_) (fun hb => ?_)
   ·have hlt1:i1<m:=ot
    rw[yg hlt1]at hz1;simp only[iS_b]at hz1;refine AWP.skip ?_;refine AWP.seq ?_;refine AWP.block ?_;refine rS ?_;have hob:=And.intro (OB9 n m bf kl ms ch b1 i1 ho9 hch (by omega) hlt1) True.intro;refine rD 22 ?_;refine AWP.cond rfl (fun hb1 => ?_) (fun hb1 => ?_)
    ·rw[hb1,cond_true]at hz1
     refine AWP.exit ?_;refine yb ?_;refine rS ?_;exact⟨_,[0,1,2],hlt1,hW1,hz1,sm⟩
    ·rw[hb1,cond_false]at hz1
     refine AWP.skip ?_;refine rS ?_;refine AWP.cond rfl (fun hb2 => ?_) (fun hb2 => ?_)
     ·rw[hb2,cond_true]at hz1
      refine rS ?_;refine AWP.ret ?_;subst hz1;dsimp only at hR;subst hR;simp only[y2c,en,ea];refine⟨[0,1,2],?_⟩;exact sm
     ·rw[hb2,cond_false]at hz1
      refine AWP.skip ?_;refine rS ?_;refine rS ?_;have hb0:b1≠0:=by simpa using hb2
      have hw:IntKind.wrap .i64 (b1-1)=b1-1:=by rw[IntKind.wrap_i64];omega
      refine AWP.sim (s':=⟨[(0,.ptr 0 0),(3,.int .i64 ((ch.length:Nat):Int)),(20,.int .i64 (m:Int)),(21,.int .i64 ((i1:Nat):Int))],[.box (.int .i64 n::.int .i64 (m:Int)::.ref 1 1 0 bf.length::(kl.map AV.bool++[.int .i64 (IntKind.wrap .i64 (b1-1)),.int .i64 ms,.ref 2 1 0 (ch++[(i1:Int)]).length])),.arr 26 1 bf.length (fun j=>yw (bf.getD j default)),.arr 2 1 (ch++[(i1:Int)]).length (fun j=>yi ((ch++[(i1:Int)]).getD j default))]⟩) [0,1,4] ?_ sm
      have hchk:ChOk m (ch++[(i1:Int)]):=fun v hv=>by
       rcases List.mem_append.1 hv with h|h
       ·exact hch v h
       ·rw[List.mem_singleton]at h;subst h;omega
      have hih:=ih (ch++[(i1:Int)]) (IntKind.wrap .i64 (b1-1)) (by rw[List.length_append,List.length_singleton];omega) hchk (by rw[hw];omega);have hpr:=yym n m bf kl ms k (ch++[(i1:Int)]) (IntKind.wrap .i64 (b1-1)) (by rw[hw];omega);generalize iS n m bf kl ms k (ch++[(i1:Int)]) (IntKind.wrap .i64 (b1-1))=q at hih hpr hz1;repeat refine AWP.seq ?_
      refine AWP.callI G_ok DD hc 1 hih (by rw[hk0];exact Nat.le_refl _) rfl (by kernel_rfl) rfl rfl (fun K hK => ?_);simp only[yke,choH,choC,ypc,y3c,Nat.blt,Nat.ble,List.map,List.take,List.append,ea,absV,absVL,cput,gv,sv,dn,reduceCtorEq,reduceIte,Nat.reduceBEq,Nat.reduceAdd,Nat.reduceEqDiff,Nat.reduceLT,Nat.reduceLeDiff,Nat.reduceMul,Nat.reduceSub,BEq.rfl,beq_self_eq_true,Int.reduceToNat];refine hK _ ?_;clear hK K;refine rS ?_;refine AWP.cond rfl (fun hb3 => ?_) (fun hb3 => ?_)
      ·rw[hb3,cond_true]at hz1
       refine rS ?_;refine AWP.ret ?_;subst hz1;dsimp only at hR;subst hR;simp only[y2c,en,ea];refine⟨[0,1,2],?_⟩;exact sm
      ·rw[hb3,cond_false]at hz1
       have hq3:q.1=3:=by simpa using hb3
       have hq:=hpr.1 hq3;refine AWP.skip ?_;rw[hq];refine rS ?_;refine AWP.cutE 2 ch.length rfl (by rw[List.length_append];omega) ?_;simp only[setE];refine AWP.arrS 2 (fun j=>yi (ch.getD j default)) rfl (fun j hj => ?_) ?_
       ·rw[show(ch++[(i1:Int)]).getD j default=ch.getD j default by rw[List.getD_eq_getElem?_getD,List.getD_eq_getElem?_getD,List.getElem?_append_left hj]];exact yp _
       simp only[setE];refine rS ?_;exact⟨_,[0,1,2],hlt1,⟨hpr.2.1,by have:=hpr.2.2;omega⟩,hz1,sm⟩
   ·obtain rfl:i1=m:=ot
    rw[yh (Nat.le_refl _)]at hz1;subst hz1;dsimp only at hR;refine AWP.exit ?_;refine yb ?_;refine rS ?_;refine AWP.ret ?_;subst hR;simp only[y2c,en,ea];refine⟨[0,1,2],?_⟩;exact sm
end N30
end Go.Ab
