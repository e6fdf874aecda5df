/- A part of a proof: walks of functions and lemmas of our own. No conditions. -/
import Derived.Test.YtcaopagmcldjmaaGreatDoorAAl
import Derived.Test.YtcaopagmcldjmaaGreatDoorAAq
import Derived.Test.YtcaopagmcldjmaaGreatDoorAAi
import Derived.Test.YtcaopagmcldjmaaGreatDoorAAo
import Derived.Test.YtcaopagmcldjmaaGreatDoorAAn
import Derived.Lib.Join
set_option linter.unusedSectionVars false
set_option linter.unusedVariables false
set_option linter.unusedSimpArgs false
set_option maxHeartbeats 1000000
namespace Go.Ab
open Go Go.Proofs
def y6j (a0:(List UInt8)) (a1:Int) (i1:Nat) (s1:Int) (i2:Nat) (s2:Int):Except (Int) (Int):=
 (bif decide (65535<(IntKind.wrap .i64 (s2 * 2)))then .ok (IntKind.wrap .i64 (BitVec.ofInt (IntKind.bits .i64) (IntKind.wrap .i64 (BitVec.ofInt (IntKind.bits .i64) (IntKind.wrap .i64 (s2 * 2)) &&& BitVec.ofInt (IntKind.bits .i64) 65535).toNat) ^^^ BitVec.ofInt (IntKind.bits .i64) 4129).toNat)else .ok (IntKind.wrap .i64 (s2 * 2)))
def yzj (a0:(List UInt8)) (a1:Int) (i1:Nat) (s1:Int):Except (Int) (Int):=
 (match yf (y6j a0 a1 i1 s1) (8-0) 0 (IntKind.wrap .i64 (BitVec.ofInt (IntKind.bits .i64) s1 ^^^ BitVec.ofInt (IntKind.bits .i64) (IntKind.wrap .i64 ((IntKind.wrap .i64 ((a0.getD i1 0).toNat:Int)) * 256))).toNat)with|.error e=>.error e|.ok s2=>.ok s2)
def zjc (a0:(List UInt8)) (a1:Int):Int:=
 (bif (!(zg a1 0 65535))then 0 else(match yf (yzj a0 a1) (a0.length-0) 0 a1 with|.error e=>e|.ok s1=>s1))
namespace N48
theorem DD:DOk Tryz.prog (Go.Ab.DD [(81,dP D_zg)]):=ya yhc.e <| yd _
theorem dn:type_of% (@D_zg.eq_1):=by and_intros<;>intros<;>rfl
theorem ol:type_of% (@zg.eq_1):=@zg.eq_1
theorem den (a0:(List UInt8)) (a1:Int)  : Den Tryz.prog 48 [.str a0,.int .i64 a1] (.int .i64 (zjc a0 a1)):=by
 generalize hR:zjc a0 a1=r;unfold zjc at hR;refine di Tryz.func48 Tryz.ntmps48 Tryz.results48 ?_;intro c hL hc hk;obtain⟨hL0,hL1,_⟩:=hL;have hw0:a0.length<9223372036854775808:=Nat.lt_succ_of_le hL0;clear hL0 hL1;simp only[pars,Nat.zero_add];iterate 2 refine rS ?_
 refine AWP.cond rfl (fun hb => ?_) (fun hb => ?_)
 ·replace hR:=ct hR
  refine rS ?_;refine AWP.ret ?_;subst hR;exact es
 ·replace hR:=cf hR
  refine rS ?_;refine AWP.block ?_;generalize hz1:yf (yzj a0 a1) (a0.length-0) 0 a1=z1 at hR;refine AWP.range (yzj a0 a1) (fun i1 s1=>⟨[(0,.str a0),(1,.int .i64 s1),(5,.int .i64 (i1:Int))],[]⟩) (fun i1 s1=>True) (a0.length) 0 a1 [] hz1 ot wt sm ?_;clear hz1;intro i1 s1 hi1 hW1 hz1;refine rS ?_;refine AWP.cond rfl (fun hb => ?_) (fun hb => ?_)
  ·have hlt1:i1<a0.length:=ot
   rw[yk hlt1]at hz1;simp only[yzj]at hz1;iterate 2 refine rS ?_
   refine AWP.block ?_;generalize hz2:yf (y6j a0 a1 i1 s1) (8-0) 0 (IntKind.wrap .i64 (BitVec.ofInt (IntKind.bits .i64) s1 ^^^ BitVec.ofInt (IntKind.bits .i64) (IntKind.wrap .i64 ((IntKind.wrap .i64 ((a0.getD i1 0).toNat:Int)) * 256))).toNat)=z2 at hz1;refine AWP.range (y6j a0 a1 i1 s1) (fun i2 s2=>⟨[(0,.str a0),(1,.int .i64 s2),(5,.int .i64 (i1:Int)),(22,.int .i64 (i2:Int))],[]⟩) (fun i2 s2=>True) (8) 0 (IntKind.wrap .i64 (BitVec.ofInt (IntKind.bits .i64) s1 ^^^ BitVec.ofInt (IntKind.bits .i64) (IntKind.wrap .i64 ((IntKind.wrap .i64 ((a0.getD i1 0).toNat:Int)) * 256))).toNat) [] hz2 ot wt sm ?_;clear hz2;intro i2 s2 hi2 hW2 hz2;refine rS ?_;refine AWP.seq ?_;refine AWP.cond rfl (fun hb => ?_) (fun hb => ?_)
   ·have hlt2:i2<8:=ot
    rw[yk hlt2]at hz2;simp only[y6j]at hz2;iterate 2 refine rS ?_
    refine AWP.cond rfl (fun hb => ?_) (fun hb => ?_)
    ·simp only[hb,cond_true]at hz2
     iterate 2 refine rS ?_
     exact⟨_,[],hlt2,wt,hz2,sm⟩
    ·simp only[hb,cond_false]at hz2
     refine rS ?_;exact⟨_,[],hlt2,wt,hz2,sm⟩
   ·obtain rfl:i2=8:=ot
    rw[yl (Nat.le_refl _)]at hz2;subst hz2;dsimp only at hz1;refine AWP.exit ?_;refine yb ?_;refine rS ?_;exact⟨_,[],hlt1,wt,hz1,sm⟩
  ·obtain rfl:i1=a0.length:=ot
   rw[yl (Nat.le_refl _)]at hz1;subst hz1;dsimp only at hR;refine AWP.exit ?_;refine yb ?_;refine rS ?_;refine AWP.ret ?_;subst hR;exact es
end N48
def D_zjc : DF
 | [x0,x1]=>some (.int .i64 (zjc (rdS x0) (rdI x1)),false,[wS x0,wI .i64 x1])
 | _=>none
theorem yl0:OkD Tryz.prog 48 D_zjc:=by unfold D_zjc;exact dk N48.den
def u16 (x:Int):Prop:=0<=x/\x<=65535
theorem yz6 {x y:Int} (hx:u16 x) (hy:u16 y):u16 (IntKind.wrap .i64 ((BitVec.ofInt (IntKind.bits .i64) x ^^^ BitVec.ofInt (IntKind.bits .i64) y).toNat:Int)):=by
 unfold u16 at *;obtain⟨n,rfl⟩:∃ n:Nat,x=n:=⟨x.toNat,by omega⟩
 obtain⟨m,rfl⟩:∃ n:Nat,y=n:=⟨y.toNat,by omega⟩
 have h:(BitVec.ofInt (IntKind.bits .i64) (n:Int) ^^^ BitVec.ofInt (IntKind.bits .i64) (m:Int)).toNat=n ^^^ m:=by
  show(BitVec.ofInt 64 (n:Int) ^^^ BitVec.ofInt 64 (m:Int)).toNat=n ^^^ m;rw[BitVec.toNat_xor,BitVec.ofInt_natCast,BitVec.ofInt_natCast,BitVec.toNat_ofNat,BitVec.toNat_ofNat,Nat.mod_eq_of_lt (by omega),Nat.mod_eq_of_lt (by omega)]
 rw[h,IntKind.wrap_i64];have:=Nat.xor_lt_two_pow (n:=16) (show n<2 ^ 16 by omega) (show m<2 ^ 16 by omega);omega
theorem y27 {x:Int} (hx:0<=x) (hx2:x<=131070):u16 (IntKind.wrap .i64 ((BitVec.ofInt (IntKind.bits .i64) x &&& BitVec.ofInt (IntKind.bits .i64) 65535).toNat:Int)):=by
 unfold u16;obtain⟨n,rfl⟩:∃ n:Nat,x=n:=⟨x.toNat,by omega⟩
 have h:(BitVec.ofInt (IntKind.bits .i64) (n:Int) &&& BitVec.ofInt (IntKind.bits .i64) 65535).toNat=n &&& 65535:=by
  show(BitVec.ofInt 64 (n:Int) &&& BitVec.ofInt 64 ((65535:Nat):Int)).toNat=n &&& 65535;rw[BitVec.toNat_and,BitVec.ofInt_natCast,BitVec.ofInt_natCast,BitVec.toNat_ofNat,BitVec.toNat_ofNat,Nat.mod_eq_of_lt (by omega),Nat.mod_eq_of_lt (by omega)]
 rw[h,IntKind.wrap_i64];have:n &&& 65535<=65535:=Nat.and_le_right;omega
theorem ys7 (a:List UInt8) (k:Int) (i:Nat) (s:Int) (j:Nat) (t:Int) (ht:u16 t):∃ r,y6j a k i s j t=.ok r/\u16 r:=by
 unfold y6j;have hw:IntKind.wrap .i64 (t * 2)=t * 2:=by unfold u16 at ht;rw[IntKind.wrap_i64];omega
 rw[hw];by_cases h:65535<t * 2
 ·rw[decide_eq_true h]
  exact⟨_,rfl,yz6 (y27 (by unfold u16 at ht;omega) (by unfold u16 at ht;omega)) ⟨by omega,by omega⟩⟩
 ·rw[decide_eq_false h]
  exact⟨_,rfl,by unfold u16 at *;omega⟩
theorem ye7 (a:List UInt8) (k:Int) (i:Nat) (s:Int) (hs:u16 s):∃ r,yzj a k i s=.ok r/\u16 r:=by
 unfold yzj;have hb:(a.getD i 0).toNat<256:=(a.getD i 0).toNat_lt
 have h0:u16 (IntKind.wrap .i64 ((BitVec.ofInt (IntKind.bits .i64) s ^^^ BitVec.ofInt (IntKind.bits .i64) (IntKind.wrap .i64 ((IntKind.wrap .i64 ((a.getD i 0).toNat:Int)) * 256))).toNat:Int)):=by
  refine yz6 hs ?_;unfold u16;rw[IntKind.wrap_i64,IntKind.wrap_i64];omega
 obtain⟨t,h1,h2⟩:=yy (b:=y6j a k i s) (fun _ s=>u16 s) (k:=8-0) (i:=0) h0 (fun j u _ _ hu=>ys7 a k i s j u hu);rw[h1];exact⟨_,rfl,h2⟩
theorem yzs (a:List UInt8):u16 (zjc a 65535):=by
 unfold zjc;have e:(!(zg 65535 0 65535))=false:=by decide
 rw[e,cond_false];obtain⟨t,h1,h2⟩:=yy (b:=yzj a 65535) (fun _ s=>u16 s) (k:=a.length-0) (i:=0) (s:=65535) ⟨by omega,by omega⟩ (fun j u _ _ hu=>ye7 a 65535 j u hu);rw[h1];exact h2
def zo (a0:Int):(List UInt8):=
 (zpg a0 10)
namespace N24
theorem DD:DOk Tryz.prog (Go.Ab.DD [(47,dP D_zpg)]):=ya yx2.e <| yd _
theorem dn:type_of% (@D_zpg.eq_1):=by and_intros<;>intros<;>rfl
theorem den (a0:Int) (hp0 : -9223372036854775808<=a0) (hp1:a0<=9223372036854775807):Den Tryz.prog 24 [.int .i64 a0] (.str (zo a0)):=by
 generalize hR:zo a0=r;unfold zo at hR;refine di Tryz.func24 Tryz.ntmps24 Tryz.results24 ?_;intro c hL hc hk;clear hL;simp only[pars,Nat.zero_add];iterate 2 refine rS ?_
 refine AWP.ret ?_;subst hR;exact es
end N24
def D_zo : DF
 | [x0]=>some (.str (zo (rdI x0)),false,[wI .i64 x0,-9223372036854775808<=(rdI x0),(rdI x0)<=9223372036854775807])
 | _=>none
theorem y3f:OkD Tryz.prog 24 D_zo:=by unfold D_zo;exact dk N24.den
theorem yfx (n:Int):(Go.Lib.itoa n).length<=n.natAbs+2:=by
 unfold Go.Lib.itoa;split
 ·have:=y8c n.natAbs
  simp only[List.length_cons];omega
 ·have:=y8c n.toNat
  omega
theorem yw5 (n:Int):zo n=Go.Lib.itoa n:=rfl
theorem ypd (n:Int):(zo n).length<=n.natAbs+2:=yfx n
theorem yzv (n:Int) (h1 : -9223372036854775808<=n) (h2:n<=9223372036854775807):(Lib.itoa n).length<=20:=by
 have h3:(Lib.decDigits n.natAbs).length<=19:=by
  by_cases h:n.natAbs<10
  ·have:=(ytc n.natAbs).2 (by omega);omega
  ·rw[yxd _ h,List.length_append,List.length_singleton]
   have:=(ytc (n.natAbs / 10)).2 (by omega);omega
 by_cases h:n<0
 ·rw[ysc h,List.length_cons];omega
 ·rw[ywd h];omega
theorem y3b (n:Int) (h1 : -9223372036854775808<=n) (h2:n<=9223372036854775807):(zo n).length<=20:=yzv n h1 h2
theorem yyl (n:Int):(zo (IntKind.wrap .i64 n)).length<=20:=y3b _ (by rw[IntKind.wrap_i64];omega) (by rw[IntKind.wrap_i64];omega)
theorem yju (n:Int) : -10<n.tmod 10/\n.tmod 10<10:=⟨by have:=Int.lt_tmod_of_pos n (b:=10) (by omega);omega,Int.tmod_lt_of_pos n (by omega)⟩
theorem y2i (s : List UInt8) : ∀ (xs : List (List UInt8)) (m : Nat), (∀ x ∈ xs, x.length <= m) -> (Lib.join xs s).length <= xs.length * (m + s.length)
 | [],m,_=>by simp[Lib.join_nil]
 | x::r,m,h=>by
  rw[Lib.join_cons,List.length_append];have h1:=h x (by simp)
  have h2:∀ r:List (List UInt8),(∀ x∈r,x.length<=m)->(Lib.joinTail s r).length<=r.length * (m+s.length):=by
   intro r
   induction r with
   | nil=>intro _;simp[Lib.joinTail]
   | cons y r ih=>
    intro h;have h3:=ih (fun z hz=>h z (by simp[hz]));have h4:=h y (by simp);unfold Lib.joinTail at h3 ⊢;simp only[List.map_cons,List.flatten_cons,List.length_append,List.length_cons];rw[Nat.add_mul];omega
  have h3:=h2 r (fun z hz=>h z (by simp[hz]));rw[List.length_cons,Nat.add_mul];omega
theorem yym {l:List Int} (h:∀ v∈l,v<=9) (i:Nat):l.getD i default<=9:=by
 rw[List.getD_eq_getElem?_getD]
 cases hg:l[i]? with
 | none=>show(0:Int)<=9;omega
 | some x=>have:=h x (List.mem_of_getElem? hg);simpa only[Option.getD_some]
theorem y0i {l:List Int} (h:∀ v∈l,1<=v/\v<=9) (i:Nat):0<=l.getD i default/\l.getD i default<=9:=by
 rw[List.getD_eq_getElem?_getD]
 cases hg:l[i]? with
 | none=>show(0:Int)<=0/\(0:Int)<=9;omega
 | some x=>have:=h x (List.mem_of_getElem? hg);simp only[Option.getD_some];omega
def jl : List (List UInt8) -> Nat
 | []=>0
 | x::r=>x.length+jl r
theorem yii (s : List UInt8) : ∀ r : List (List UInt8), (Lib.joinTail s r).length = jl r + r.length * s.length
 | []=>by simp[Lib.joinTail,jl]
 | x::r=>by
  have ih:=yii s r;unfold Lib.joinTail at ih ⊢;simp only[List.map_cons,List.flatten_cons,List.length_append,List.length_cons,jl,ih,Nat.add_mul];omega
theorem ynj (s:List UInt8) (xs:List (List UInt8)):(Lib.join xs s).length<=jl xs+xs.length * s.length:=by
 cases xs with
 | nil=>simp[Lib.join_nil]
 | cons x r=>
  rw[Lib.join_cons,List.length_append,yii];simp only[jl,List.length_cons,Nat.add_mul];omega
theorem y8y : ∀ (k n : Nat), n < 10 ^ (k + 1) -> (Lib.decDigits n).length <= k + 1
 | 0,n,h=>by rw[Lib.decDigits_one (by simpa using h)];simp
 | k+1,n,h=>by
  by_cases h10:n<10
  ·rw[Lib.decDigits_one h10];simp
  ·rw[yxd _ h10,List.length_append,List.length_singleton]
   have:=y8y k (n / 10) (by rw[Nat.div_lt_iff_lt_mul (by decide)];rwa [Nat.pow_succ]at h);omega
theorem y0c (n:Int) (k:Nat) (h0:0<=n) (h:n<((10 ^ (k+1):Nat):Int)):(Lib.itoa n).length<=k+1:=by
 rw[ywd (by omega)];exact y8y k _ (by omega)
def zrf (a0:Int):Bool:=
 (zg a0 1 9)
namespace N128
theorem DD:DOk Tryz.prog (Go.Ab.DD [(81,dP D_zg)]):=ya yhc.e <| yd _
theorem dn:type_of% (@D_zg.eq_1):=by and_intros<;>intros<;>rfl
theorem ol:type_of% (@zg.eq_1):=@zg.eq_1
theorem den (a0:Int)  : Den Tryz.prog 128 [.int .i64 a0] (.bool (zrf a0)):=by
 generalize hR:zrf a0=r;unfold zrf at hR;refine di Tryz.func128 Tryz.ntmps128 Tryz.results128 ?_;intro c hL hc hk;clear hL;simp only[pars,Nat.zero_add];iterate 2 refine rS ?_
 refine AWP.ret ?_;subst hR;exact es
end N128
def D_zrf : DF
 | [x0]=>some (.bool (zrf (rdI x0)),false,[wI .i64 x0])
 | _=>none
theorem y6u:OkD Tryz.prog 128 D_zrf:=by unfold D_zrf;exact dk N128.den
def zsf (a0:Int) (a1:Int):Bool:=
 (decide (0<=a0) && decide (a0<a1))
namespace N193
theorem DD:DOk Tryz.prog (Go.Ab.DD []):=yd _
theorem den (a0:Int) (a1:Int)  : Den Tryz.prog 193 [.int .i64 a0,.int .i64 a1] (.bool (zsf a0 a1)):=by
 generalize hR:zsf a0 a1=r;unfold zsf at hR;refine di Tryz.func193 Tryz.ntmps193 Tryz.results193 ?_;intro c hL hc hk;clear hL;simp only[pars,Nat.zero_add];iterate 2 refine rS ?_
 refine AWP.ret ?_;subst hR;exact es
end N193
def D_zsf : DF
 | [x0,x1]=>some (.bool (zsf (rdI x0) (rdI x1)),false,[wI .i64 x0,wI .i64 x1])
 | _=>none
theorem yv0:OkD Tryz.prog 193 D_zsf:=by unfold D_zsf;exact dk N193.den
def zac (a0:Int) (a1:(List (List UInt8))):(List UInt8):=
 (bif (!(zsf a0 (a1.length:Int)))then[]else(a1.getD ((a0).toNat) default))
namespace N147
theorem DD:DOk Tryz.prog (Go.Ab.DD [(193,dP D_zsf)]):=ya yv0.e <| yd _
theorem dn:type_of% (@D_zsf.eq_1):=by and_intros<;>intros<;>rfl
theorem ol:type_of% (@zsf.eq_1):=@zsf.eq_1
theorem den (a0:Int) (a1:(List (List UInt8)))  : Den Tryz.prog 147 [.int .i64 a0,encL 1 eS a1] (.str (zac a0 a1)):=by
 generalize hR:zac a0 a1=r;unfold zac at hR;refine di Tryz.func147 Tryz.ntmps147 Tryz.results147 ?_;intro c hL hc hk;obtain⟨hL0,hL1,_⟩:=hL;have hw0:a1.length<9223372036854775808:=Nat.lt_succ_of_le (yc hL1).1;have hw1:∀ v∈a1,bwS v:=fun v hv=>yjv v ((yc hL1).2 v hv)
 clear hL0 hL1;simp only[pars,Nat.zero_add];iterate 2 refine rS ?_
 refine AWP.cond rfl (fun hb => ?_) (fun hb => ?_)
 ·replace hR:=ct hR
  refine rS ?_;refine AWP.ret ?_;subst hR;exact es
 ·replace hR:=cf hR
  refine rS ?_;refine AWP.ret ?_;subst hR;exact es
end N147
def D_zac : DF
 | [x0,x1]=>some (.str (zac (rdI x0) (rdL dS x1)),false,[wI .i64 x0,wL 1 eS dS x1])
 | _=>none
theorem ypg:OkD Tryz.prog 147 D_zac:=by unfold D_zac;exact dk N147.den
def ztf (a0:Int):(List UInt8):=
 (zac a0 ([[],[82],[71],[66,89],[66,89,66],[89,66],[89,66,89],[66,82,66],[82,87],[89]]:List (List UInt8)))
namespace N129
theorem DD:DOk Tryz.prog (Go.Ab.DD [(147,dP D_zac)]):=ya ypg.e <| yd _
theorem dn:type_of% (@D_zac.eq_1):=by and_intros<;>intros<;>rfl
theorem lx {p:Prop} (h:p:=by(exact lxx);first|done|fail):p:=h
theorem den (a0:Int)  : Den Tryz.prog 129 [.int .i64 a0] (.str (ztf a0)):=by
 generalize hR:ztf a0=r;unfold ztf at hR;refine di Tryz.func129 Tryz.ntmps129 Tryz.results129 ?_;intro c hL hc hk;clear hL;simp only[pars,Nat.zero_add];iterate 2 refine rS ?_
 refine AWP.ret ?_;subst hR;exact es
end N129
def D_ztf : DF
 | [x0]=>some (.str (ztf (rdI x0)),false,[wI .i64 x0])
 | _=>none
theorem y8t:OkD Tryz.prog 129 D_ztf:=by unfold D_ztf;exact dk N129.den
theorem y0t {P:List UInt8->Prop} (n:Int) (l:List (List UInt8)) (h0:P []) (h:∀ y∈l,P y):P (zac n l):=by
 unfold zac
 cases hb:zsf n (l.length:Int)with
 | false=>exact h0
 | true=>
  simp only[Bool.not_true,cond_false];rw[List.getD_eq_getElem?_getD];by_cases hi:n.toNat<l.length
  ·rw[List.getElem?_eq_getElem hi];exact h _ (List.getElem_mem hi)
  ·rw[List.getElem?_eq_none (by omega)];exact h0
def zde (a0:Int):(List (List UInt8)):=
 (zqg (zac a0 ([[],[99,97,110,32,112,105,108,108,97,114,32,115,112,97,114],[99,111,110,101,32,112,105,108,108,97,114,32,115,112,97,114],[112,105,108,108,97,114,32,115,112,97,114],[112,105,108,108,97,114,32,115,112,97,114],[112,105,108,108,97,114,32,115,112,97,114],[112,105,108,108,97,114,32,115,112,97,114],[112,105,108,108,97,114,32,115,112,97,114],[115,112,104,101,114,101,32,112,105,108,108,97,114,32,115,112,97,114],[99,97,110,32,99,111,110,101,32,112,105,108,108,97,114,32,115,112,97,114,32,115,112,104,101,114,101]]:List (List UInt8))))
namespace N131
theorem DD:DOk Tryz.prog (Go.Ab.DD [(147,dP D_zac),(179,dP D_zqg)]):=ya ypg.e <| ya yu1.e <| yd _
theorem dn:type_of% (And.intro @D_zac.eq_1 <| @D_zqg.eq_1):=by and_intros<;>intros<;>rfl
theorem o0 {p:Prop} (h:p:=by(first|(and_intros<;>first|exact y0t (P:=fun y=>y.length<=1048576) _ _ (by simp) (by simp)|exact y0t (P:=fun y=>∀ x∈y,x.toNat<128) _ _ (by simp) (by simp)));first|done|fail):p:=h
theorem lx {p:Prop} (h:p:=by(exact lxx);first|done|fail):p:=h
theorem den (a0:Int)  : Den Tryz.prog 131 [.int .i64 a0] (ownL 9 1 eS (zde a0)):=by
 generalize hR:zde a0=r;unfold zde at hR;refine di Tryz.func131 Tryz.ntmps131 Tryz.results131 ?_;intro c hL hc hk;clear hL;simp only[pars,Nat.zero_add];iterate 2 refine rS ?_
 refine AWP.ret ?_;subst hR;exact es
end N131
def D_zde : DF
 | [x0]=>some (ownL 9 1 eS (zde (rdI x0)),false,[wI .i64 x0])
 | _=>none
def Dz_zde : DF
 | [x0]=>some (ownL 9 1 eS (zde (rdI x0)),true,[wI .i64 x0])
 | _=>none
theorem yg2:OkD Tryz.prog 131 D_zde:=by unfold D_zde;exact dk N131.den
theorem y8w:OkD Tryz.prog 131 Dz_zde:=by unfold Dz_zde;exact dk N131.den
def zuf (a0:Int):(List UInt8):=
 (zac a0 ([[],[99,97,110],[99,111,110,101],[117,112],[98,97,115,101],[100,111,119,110],[112,111,105,110,116],[98,97,108,108,115],[98,97,108,108],[99,114,111,115,115]]:List (List UInt8)))
namespace N132
theorem DD:DOk Tryz.prog (Go.Ab.DD [(147,dP D_zac)]):=ya ypg.e <| yd _
theorem dn:type_of% (@D_zac.eq_1):=by and_intros<;>intros<;>rfl
theorem lx {p:Prop} (h:p:=by(exact lxx);first|done|fail):p:=h
theorem den (a0:Int)  : Den Tryz.prog 132 [.int .i64 a0] (.str (zuf a0)):=by
 generalize hR:zuf a0=r;unfold zuf at hR;refine di Tryz.func132 Tryz.ntmps132 Tryz.results132 ?_;intro c hL hc hk;clear hL;simp only[pars,Nat.zero_add];iterate 2 refine rS ?_
 refine AWP.ret ?_;subst hR;exact es
end N132
def D_zuf : DF
 | [x0]=>some (.str (zuf (rdI x0)),false,[wI .i64 x0])
 | _=>none
theorem yku:OkD Tryz.prog 132 D_zuf:=by unfold D_zuf;exact dk N132.den
def zzc (a0:Mark):Bool:=
 (bif (a0.Kind == 0 && (a0.Colors == [] && (a0.Shape == [] && a0.Topmark == [])))then true else((((zrf a0.Kind) && (a0.Colors == (ztf a0.Kind))) && (zkf (zde a0.Kind) a0.Shape)) && ((a0.Topmark == []) || (a0.Topmark == (zuf a0.Kind)))))
namespace N88
theorem DD:DOk Tryz.prog (Go.Ab.DD [(128,dP D_zrf),(129,dP D_ztf),(130,dP D_zkf),(131,dP D_zde),(132,dP D_zuf)]):=ya y6u.e <| ya y8t.e <| ya ytu.e <| ya yg2.e <| ya yku.e <| yd _
theorem DZ:DOk Tryz.prog (Go.Ab.DD [(128,dP D_zrf),(129,dP D_ztf),(130,dP D_zkf),(131,dP Dz_zde),(132,dP D_zuf)]):=ya y6u.e <| ya y8t.e <| ya ytu.e <| ya y8w.e <| ya yku.e <| yd _
theorem dn:type_of% (And.intro @D_zrf.eq_1 <| And.intro @D_ztf.eq_1 <| And.intro @D_zkf.eq_1 <| And.intro @D_zde.eq_1 <| And.intro @D_zuf.eq_1 <| @Dz_zde.eq_1):=by and_intros<;>intros<;>rfl
theorem den (a0:Mark) (hb0:bdMark a0):Den Tryz.prog 88 [.agg (yqk a0)] (.bool (zzc a0)):=by
 generalize hR:zzc a0=r;unfold zzc at hR;refine di Tryz.func88 Tryz.ntmps88 Tryz.results88 ?_;intro c hL hc hk;obtain⟨hL0,_⟩:=hL;have hw0:bwMark a0:=y4p a0 hL0;clear hL0;simp only[pars,Nat.zero_add];iterate 2 refine rS ?_
 refine AWP.cond rfl (fun hb => ?_) (fun hb => ?_)
 ·replace hR:=ct hR
  refine rS ?_;refine AWP.ret ?_;subst hR;exact es
 ·replace hR:=cf hR
  refine rZ 32 ?_;refine AWP.ret ?_;subst hR;exact es
end N88
def D_zzc : DF
 | [x0]=>some (.bool (zzc (rdG yno x0)),false,[wG yqk yno x0,bdMark (rdG yno x0)])
 | _=>none
theorem ywm:OkD Tryz.prog 88 D_zzc:=by unfold D_zzc;exact dk N88.den
def yfp (a0:(List Int)) (i1:Nat) (s1:Int):Except (Bool) (Int):=
 (bif (!(zg (a0.getD i1 default) 1 9))then .error false else .ok (IntKind.wrap .i64 (s1+(a0.getD i1 default))))
def zvd (a0:(List Int)):Bool:=
 (match yf (yfp a0) (a0.length-0) 0 0 with|.error e=>e|.ok s1=>(((zx (a0.length:Int) 4) && decide (s1<=12)) && (!(zxc a0 ([1]:List Int)))))
namespace N183
theorem DD:DOk Tryz.prog (Go.Ab.DD [(184,dP D_zxc),(23,dP D_zx),(81,dP D_zg)]):=ya yiv.e <| ya yfe.e <| ya yhc.e <| yd _
theorem dn:type_of% (And.intro @D_zxc.eq_1 <| And.intro @D_zx.eq_1 <| @D_zg.eq_1):=by and_intros<;>intros<;>rfl
theorem ol:type_of% (@zg.eq_1):=@zg.eq_1
theorem den (a0:(List Int))  : Den Tryz.prog 183 [encL 1 yv a0] (.bool (zvd a0)):=by
 generalize hR:zvd a0=r;unfold zvd at hR;refine di Tryz.func183 Tryz.ntmps183 Tryz.results183 ?_;intro c hL hc hk;obtain⟨hL0,_⟩:=hL;have hw0:a0.length<9223372036854775808:=Nat.lt_succ_of_le (yc hL0).1;clear hL0;simp only[pars,Nat.zero_add];iterate 3 refine rS ?_
 refine AWP.block ?_;generalize hz1:yf (yfp a0) (a0.length-0) 0 0=z1 at hR;refine AWP.range (yfp a0) (fun i1 s1=>⟨[(0,encL 1 yv a0),(3,.int .i64 s1),(6,encL 1 yv a0),(7,.int .i64 (a0.length:Int)),(8,.int .i64 (i1:Int))],[]⟩) (fun i1 s1=>True) (a0.length) 0 0 [] hz1 ot wt sm ?_;clear hz1;intro i1 s1 hi1 hW1 hz1;refine rS ?_;refine AWP.seq ?_;refine AWP.cond rfl (fun hb => ?_) (fun hb => ?_)
 ·have hlt1:i1<a0.length:=ot
  rw[yk hlt1]at hz1;simp only[yfp]at hz1;iterate 2 refine rS ?_
  refine AWP.cond rfl (fun hb => ?_) (fun hb => ?_)
  ·simp only[hb,cond_true]at hz1
   refine rS ?_;refine AWP.ret ?_;subst hz1;dsimp only at hR;subst hR;exact es
  ·simp only[hb,cond_false]at hz1
   iterate 2 refine rS ?_
   exact⟨_,[],hlt1,wt,hz1,sm⟩
 ·obtain rfl:i1=a0.length:=ot
  rw[yl (Nat.le_refl _)]at hz1;subst hz1;dsimp only at hR;refine AWP.exit ?_;refine yb ?_;refine rS ?_;refine AWP.ret ?_;subst hR;exact es
end N183
def D_zvd : DF
 | [x0]=>some (.bool (zvd (rdL yhb x0)),false,[wL 1 yv yhb x0])
 | _=>none
theorem ymz:OkD Tryz.prog 183 D_zvd:=by unfold D_zvd;exact dk N183.den
def y7g (a0:(List UInt8)) (i1:Nat) (s1:Int):Except (Bool) (Int):=
 (bif decide ((zcf [87,82,71,89] ((a0.getD i1 0).toNat:Int))<=s1)then .error false else .ok (zcf [87,82,71,89] ((a0.getD i1 0).toNat:Int)))
def zcc (a0:(List UInt8)):Bool:=
 (match yf (y7g a0) (a0.length-0) 0 (-1)with|.error e=>e|.ok s1=>(zg (a0.length:Int) 1 3))
namespace N138
theorem DD:DOk Tryz.prog (Go.Ab.DD [(182,dP D_zcf),(81,dP D_zg)]):=ya y51.e <| ya yhc.e <| yd _
theorem dn:type_of% (And.intro @D_zcf.eq_1 <| @D_zg.eq_1):=by and_intros<;>intros<;>rfl
theorem ol:type_of% (@zg.eq_1):=@zg.eq_1
theorem den (a0:(List UInt8))  : Den Tryz.prog 138 [.str a0] (.bool (zcc a0)):=by
 generalize hR:zcc a0=r;unfold zcc at hR;refine di Tryz.func138 Tryz.ntmps138 Tryz.results138 ?_;intro c hL hc hk;obtain⟨hL0,_⟩:=hL;have hw0:a0.length<9223372036854775808:=Nat.lt_succ_of_le hL0;clear hL0;simp only[pars,Nat.zero_add];iterate 3 refine rS ?_
 refine AWP.block ?_;generalize hz1:yf (y7g a0) (a0.length-0) 0 (-1)=z1 at hR;refine AWP.range (y7g a0) (fun i1 s1=>⟨[(0,.str a0),(3,.int .i64 s1),(4,.int .i64 (i1:Int))],[]⟩) (fun i1 s1=>True) (a0.length) 0 (-1) [] hz1 ot wt sm ?_;clear hz1;intro i1 s1 hi1 hW1 hz1;refine rS ?_;refine AWP.cond rfl (fun hb => ?_) (fun hb => ?_)
 ·have hlt1:i1<a0.length:=ot
  rw[yk hlt1]at hz1;simp only[y7g]at hz1;iterate 2 refine rS ?_
  refine AWP.cond rfl (fun hb => ?_) (fun hb => ?_)
  ·simp only[hb,cond_true]at hz1
   refine rS ?_;refine AWP.ret ?_;subst hz1;dsimp only at hR;subst hR;exact es
  ·simp only[hb,cond_false]at hz1
   iterate 2 refine rS ?_
   exact⟨_,[],hlt1,wt,hz1,sm⟩
 ·obtain rfl:i1=a0.length:=ot
  rw[yl (Nat.le_refl _)]at hz1;subst hz1;dsimp only at hR;refine AWP.exit ?_;refine yb ?_;refine rS ?_;refine AWP.ret ?_;subst hR;exact es
end N138
def D_zcc : DF
 | [x0]=>some (.bool (zcc (rdS x0)),false,[wS x0])
 | _=>none
theorem y20:OkD Tryz.prog 138 D_zcc:=by unfold D_zcc;exact dk N138.den
def zdc (a0:(List UInt8)):(List UInt8):=
 (bif ((((a0.length:Int) != 1) || Op.bytesLess a0 [65]) || !(Op.bytesLess a0 [90] || a0 == [90]))then[]else([[46,45],[45,46,46,46],[45,46,45,46],[45,46,46],[46],[46,46,45,46],[45,45,46],[46,46,46,46],[46,46],[46,45,45,45],[45,46,45],[46,45,46,46],[45,45],[45,46],[45,45,45],[46,45,45,46],[45,45,46,45],[46,45,46],[46,46,46],[45],[46,46,45],[46,46,46,45],[46,45,45],[45,46,46,45],[45,46,45,45],[45,45,46,46]]:List (List UInt8)).getD ((IntKind.wrap .u8 (((a0.getD 0 0).toNat:Int)-65)).toNat) [])
namespace N185
theorem DD:DOk Tryz.prog (Go.Ab.DD []):=yd _
theorem o0 {p:Prop} (h:p:=by(first|(simp only[Bool.or_eq_false_iff,Bool.not_eq_false',Bool.or_eq_true,bne_eq_false_iff_eq]at hb;have h9:=yb0 a0 hb;have h8:=hb.1.1;and_intros<;>omega));first|done|fail):p:=h
theorem den (a0:(List UInt8))  : Den Tryz.prog 185 [.str a0] (.str (zdc a0)):=by
 generalize hR:zdc a0=r;unfold zdc at hR;refine di Tryz.func185 Tryz.ntmps185 Tryz.results185 ?_;intro c hL hc hk;obtain⟨hL0,_⟩:=hL;have hw0:a0.length<9223372036854775808:=Nat.lt_succ_of_le hL0;clear hL0;simp only[pars,Nat.zero_add];iterate 2 refine rS ?_
 refine AWP.cond rfl (fun hb => ?_) (fun hb => ?_)
 ·replace hR:=ct hR
  refine rS ?_;refine AWP.ret ?_;subst hR;exact es
 ·replace hR:=cf hR
  refine rS ?_;refine AWP.ret ?_;subst hR;exact es
end N185
def D_zdc : DF
 | [x0]=>some (.str (zdc (rdS x0)),false,[wS x0])
 | _=>none
theorem y7u:OkD Tryz.prog 185 D_zdc:=by unfold D_zdc;exact dk N185.den
def zob (a0:Character):Bool:=
 (bif (a0.Kind == 1)then(((a0.Group.length:Int) == 0) && (a0.Letter == []))else(bif (a0.Kind == 3)then(((a0.Group.length:Int) == 0) && (a0.Letter == []))else(bif (a0.Kind == 2)then((a0.Letter == []) && (zvd a0.Group))else(bif (a0.Kind == 4)then((a0.Letter == []) && (zvd a0.Group))else(bif (a0.Kind == 5)then((a0.Letter == []) && (zvd a0.Group))else(bif (a0.Kind == 6)then(bif (a0.Letter == [])then(((a0.Group.length:Int) == 0) || (((a0.Group.length:Int) == 1) && (zg (a0.Group.getD 0 default) 2 9)))else((a0.Letter == [76]) && (zxc a0.Group ([6]:List Int))))else(bif (a0.Kind == 7)then(bif (a0.Letter == [])then(((a0.Group.length:Int) == 0) || (((a0.Group.length:Int) == 1) && (zg (a0.Group.getD 0 default) 2 9)))else((a0.Letter == [76]) && (zxc a0.Group ([6]:List Int))))else(bif (a0.Kind == 8)then(((zdc a0.Letter) != []) && ((a0.Group.length:Int) == 0))else false))))))))
namespace N139
theorem DD:DOk Tryz.prog (Go.Ab.DD [(183,dP D_zvd),(184,dP D_zxc),(185,dP D_zdc),(81,dP D_zg)]):=ya ymz.e <| ya yiv.e <| ya y7u.e <| ya yhc.e <| yd _
theorem dn:type_of% (And.intro @D_zvd.eq_1 <| And.intro @D_zxc.eq_1 <| And.intro @D_zdc.eq_1 <| @D_zg.eq_1):=by and_intros<;>intros<;>rfl
theorem ol:type_of% (@zg.eq_1):=@zg.eq_1
theorem den (a0:Character)  : Den Tryz.prog 139 [.agg (yq a0)] (.bool (zob a0)):=by
 generalize hR:zob a0=r;unfold zob at hR;refine di Tryz.func139 Tryz.ntmps139 Tryz.results139 ?_;intro c hL hc hk;obtain⟨hL0,_⟩:=hL;have hw0:bwCharacter a0:=yz a0 hL0;clear hL0;simp only[pars,Nat.zero_add];iterate 3 refine rS ?_
 refine AWP.cond rfl (fun hb => ?_) (fun hb => ?_)
 ·replace hR:=ct hR
  refine AWP.skip ?_;refine AWP.cond rfl (fun hb => ?_) (fun hb => ?_)
  ·refine rS ?_
   refine AWP.ret ?_;subst hR;exact es
  ·exfalso;simp_all
 ·replace hR:=cf hR
  refine rS ?_;refine AWP.cond rfl (fun hb => ?_) (fun hb => ?_)
  ·replace hR:=ct hR
   refine rS ?_;refine AWP.ret ?_;subst hR;exact es
  ·replace hR:=cf hR
   refine rS ?_;refine AWP.cond rfl (fun hb => ?_) (fun hb => ?_)
   ·replace hR:=ct hR
    refine AWP.skip ?_;refine AWP.cond rfl (fun hb => ?_) (fun hb => ?_)
    ·refine rS ?_
     refine AWP.ret ?_;subst hR;exact es
    ·exfalso;simp_all
   ·replace hR:=cf hR
    refine rS ?_;refine AWP.cond rfl (fun hb => ?_) (fun hb => ?_)
    ·replace hR:=ct hR
     refine AWP.skip ?_;refine AWP.cond rfl (fun hb => ?_) (fun hb => ?_)
     ·refine rS ?_
      refine AWP.ret ?_;subst hR;exact es
     ·exfalso;simp_all
    ·replace hR:=cf hR
     refine rS ?_;refine AWP.cond rfl (fun hb => ?_) (fun hb => ?_)
     ·replace hR:=ct hR
      refine rS ?_;refine AWP.ret ?_;subst hR;exact es
     ·replace hR:=cf hR
      refine rS ?_;refine AWP.cond rfl (fun hb => ?_) (fun hb => ?_)
      ·replace hR:=ct hR
       refine AWP.skip ?_;refine AWP.cond rfl (fun hb => ?_) (fun hb => ?_)
       ·refine rS ?_
        refine AWP.cond rfl (fun hb => ?_) (fun hb => ?_)
        ·replace hR:=ct hR
         refine rS ?_;refine AWP.ret ?_;subst hR;exact es
        ·replace hR:=cf hR
         refine rS ?_;refine AWP.ret ?_;subst hR;exact es
       ·exfalso;simp_all
      ·replace hR:=cf hR
       refine rS ?_;refine AWP.cond rfl (fun hb => ?_) (fun hb => ?_)
       ·replace hR:=ct hR
        refine rS ?_;refine AWP.cond rfl (fun hb => ?_) (fun hb => ?_)
        ·replace hR:=ct hR
         refine rS ?_;refine AWP.ret ?_;subst hR;exact es
        ·replace hR:=cf hR
         refine rS ?_;refine AWP.ret ?_;subst hR;exact es
       ·replace hR:=cf hR
        refine rS ?_;refine AWP.cond rfl (fun hb => ?_) (fun hb => ?_)
        ·replace hR:=ct hR
         refine rS ?_;refine AWP.ret ?_;subst hR;exact es
        ·replace hR:=cf hR
         refine rS ?_;refine AWP.ret ?_;subst hR;exact es
end N139
def D_zob : DF
 | [x0]=>some (.bool (zob (rdG ye x0)),false,[wG yq ye x0])
 | _=>none
theorem y01:OkD Tryz.prog 139 D_zob:=by unfold D_zob;exact dk N139.den
theorem yyi (a:List UInt8):zdc a=if a.length=1/\65<=(a.getD 0 0).toNat/\(a.getD 0 0).toNat<=90 then y6c.getD ((a.getD 0 0).toNat-65) []else[]:=by
 unfold zdc;by_cases h1:a.length=1
 ·have c1:((a.length:Int) != 1)=false:=by rw[h1];rfl
  rw[c1,yng a 65 h1,yng a 90 h1,yry a 90 h1];have e1:(65:UInt8).toNat=65:=rfl;have e2:(90:UInt8).toNat=90:=rfl;rw[e1,e2];by_cases h2:65<=(a.getD 0 0).toNat/\(a.getD 0 0).toNat<=90
  ·rw[if_pos ⟨h1,h2⟩,decide_eq_false (by omega)]
   have c2:(decide ((a.getD 0 0).toNat<90) || decide ((a.getD 0 0).toNat=90))=true:=by
    rw[Bool.or_eq_true,decide_eq_true_eq,decide_eq_true_eq];omega
   rw[c2];simp only[Bool.or_self,Bool.not_true,cond_false];rw[yvk _ (by omega) (by omega),show((((a.getD 0 0).toNat:Int)-65).toNat)=(a.getD 0 0).toNat-65 by omega];rfl
  ·rw[if_neg (fun h=>h2 h.2)]
   by_cases h3:(a.getD 0 0).toNat<65
   ·rw[decide_eq_true h3];rfl
   ·have c2:(decide ((a.getD 0 0).toNat<90) || decide ((a.getD 0 0).toNat=90))=false:=by
     rw[decide_eq_false (by omega),decide_eq_false (by omega)];rfl
    rw[c2,decide_eq_false h3];rfl
 ·have c1:((a.length:Int) != 1)=true:=by rw[bne_iff_ne];omega
  rw[c1,if_neg (fun h=>h1 h.1)];rfl
theorem yux (a:List UInt8):(zdc a).length<=4:=by
 rw[yyi];split
 ·exact yoj _
 ·simp
theorem y6s (a:List UInt8):∀ x∈zdc a,x.toNat<128:=by
 intro x hx;rw[yyi]at hx;split at hx
 ·rw[List.getD_eq_getElem?_getD]at hx
  cases h:y6c[(a.getD 0 0).toNat-65]? with
  | none=>rw[h]at hx;simp at hx
  | some y=>
   rw[h]at hx;rcases(yhh y (List.mem_of_getElem? h)).2.2 x hx with e|e<;>subst e<;>decide
 ·simp at hx
def zrg (a0:Int):Bool:=
 ((a0 == 6) || (a0 == 7))
namespace N186
theorem DD:DOk Tryz.prog (Go.Ab.DD []):=yd _
theorem den (a0:Int)  : Den Tryz.prog 186 [.int .i64 a0] (.bool (zrg a0)):=by
 generalize hR:zrg a0=r;unfold zrg at hR;refine di Tryz.func186 Tryz.ntmps186 Tryz.results186 ?_;intro c hL hc hk;clear hL;simp only[pars,Nat.zero_add];iterate 2 refine rS ?_
 refine AWP.ret ?_;subst hR;exact es
end N186
def D_zrg : DF
 | [x0]=>some (.bool (zrg (rdI x0)),false,[wI .i64 x0])
 | _=>none
theorem yi3:OkD Tryz.prog 186 D_zrg:=by unfold D_zrg;exact dk N186.den
def zld (a0:Character):Bool:=
 ((a0.Kind == 1) || ((zrg a0.Kind) && ((a0.Group.length:Int) == 0)))
namespace N140
theorem DD:DOk Tryz.prog (Go.Ab.DD [(186,dP D_zrg)]):=ya yi3.e <| yd _
theorem dn:type_of% (@D_zrg.eq_1):=by and_intros<;>intros<;>rfl
theorem den (a0:Character)  : Den Tryz.prog 140 [.agg (yq a0)] (.bool (zld a0)):=by
 generalize hR:zld a0=r;unfold zld at hR;refine di Tryz.func140 Tryz.ntmps140 Tryz.results140 ?_;intro c hL hc hk;obtain⟨hL0,_⟩:=hL;have hw0:bwCharacter a0:=yz a0 hL0;clear hL0;simp only[pars,Nat.zero_add];iterate 2 refine rS ?_
 refine AWP.ret ?_;subst hR;exact es
end N140
def D_zld : DF
 | [x0]=>some (.bool (zld (rdG ye x0)),false,[wG yq ye x0])
 | _=>none
theorem y9s:OkD Tryz.prog 140 D_zld:=by unfold D_zld;exact dk N140.den
def zdb (a0:Int):(Int×Int×Int):=
 (bif (a0 == 2)then(10,10,15)else(bif (a0 == 4)then(5,15,20)else(bif (a0 == 5)then(20,20,25)else(bif (a0 == 6)then(5,5,20)else(bif (a0 == 7)then(2,3,10)else(bif (a0 == 8)then(5,5,30)else(0,0,0)))))))
namespace N187
theorem DD:DOk Tryz.prog (Go.Ab.DD []):=yd _
theorem den (a0:Int)  : Den Tryz.prog 187 [.int .i64 a0] (.tup [.int .i64 ((zdb a0).1),.int .i64 ((zdb a0).2.1),.int .i64 ((zdb a0).2.2)]):=by
 generalize hR:zdb a0=r;unfold zdb at hR;refine di Tryz.func187 Tryz.ntmps187 Tryz.results187 ?_;intro c hL hc hk;clear hL;simp only[pars,Nat.zero_add];iterate 3 refine rS ?_
 refine AWP.cond rfl (fun hb => ?_) (fun hb => ?_)
 ·replace hR:=ct hR
  refine rS ?_;refine AWP.ret ?_;subst hR;exact es
 ·replace hR:=cf hR
  refine rS ?_;refine AWP.cond rfl (fun hb => ?_) (fun hb => ?_)
  ·replace hR:=ct hR
   refine rS ?_;refine AWP.ret ?_;subst hR;exact es
  ·replace hR:=cf hR
   refine rS ?_;refine AWP.cond rfl (fun hb => ?_) (fun hb => ?_)
   ·replace hR:=ct hR
    refine rS ?_;refine AWP.ret ?_;subst hR;exact es
   ·replace hR:=cf hR
    refine rS ?_;refine AWP.cond rfl (fun hb => ?_) (fun hb => ?_)
    ·replace hR:=ct hR
     refine rS ?_;refine AWP.ret ?_;subst hR;exact es
    ·replace hR:=cf hR
     refine rS ?_;refine AWP.cond rfl (fun hb => ?_) (fun hb => ?_)
     ·replace hR:=ct hR
      refine rS ?_;refine AWP.ret ?_;subst hR;exact es
     ·replace hR:=cf hR
      refine rS ?_;refine AWP.cond rfl (fun hb => ?_) (fun hb => ?_)
      ·replace hR:=ct hR
       refine rS ?_;refine AWP.ret ?_;subst hR;exact es
      ·replace hR:=cf hR
       refine rS ?_;refine AWP.ret ?_;subst hR;exact es
end N187
def D_zdb : DF
 | [x0]=>some (.tup [.int .i64 ((zdb (rdI x0)).1),.int .i64 ((zdb (rdI x0)).2.1),.int .i64 ((zdb (rdI x0)).2.2)],false,[wI .i64 x0])
 | _=>none
theorem yav:OkD Tryz.prog 187 D_zdb:=by unfold D_zdb;exact dk N187.den
def ycv (a0:(List Int)) (i1:Nat) (s1:Int):Except (Int) (Int):=
 .ok (IntKind.wrap .i64 (s1+(a0.getD i1 default)))
def zve (a0:(List Int)):Int:=
 (match yf (ycv a0) (a0.length-0) 0 0 with|.error e=>e|.ok s1=>s1)
namespace N188
theorem DD:DOk Tryz.prog (Go.Ab.DD []):=yd _
theorem den (a0:(List Int))  : Den Tryz.prog 188 [encL 1 yv a0] (.int .i64 (zve a0)):=by
 generalize hR:zve a0=r;unfold zve at hR;refine di Tryz.func188 Tryz.ntmps188 Tryz.results188 ?_;intro c hL hc hk;obtain⟨hL0,_⟩:=hL;have hw0:a0.length<9223372036854775808:=Nat.lt_succ_of_le (yc hL0).1;clear hL0;simp only[pars,Nat.zero_add];iterate 3 refine rS ?_
 refine AWP.block ?_;generalize hz1:yf (ycv a0) (a0.length-0) 0 0=z1 at hR;refine AWP.range (ycv a0) (fun i1 s1=>⟨[(3,.int .i64 s1),(6,encL 1 yv a0),(7,.int .i64 (a0.length:Int)),(8,.int .i64 (i1:Int))],[]⟩) (fun i1 s1=>True) (a0.length) 0 0 [] hz1 ot wt sm ?_;clear hz1;intro i1 s1 hi1 hW1 hz1;refine rS ?_;refine AWP.seq ?_;refine AWP.cond rfl (fun hb => ?_) (fun hb => ?_)
 ·have hlt1:i1<a0.length:=ot
  rw[yk hlt1]at hz1;simp only[ycv]at hz1;iterate 3 refine rS ?_
  exact⟨_,[],hlt1,wt,hz1,sm⟩
 ·obtain rfl:i1=a0.length:=ot
  rw[yl (Nat.le_refl _)]at hz1;subst hz1;dsimp only at hR;refine AWP.exit ?_;refine yb ?_;refine rS ?_;refine AWP.ret ?_;subst hR;exact es
end N188
def D_zve : DF
 | [x0]=>some (.int .i64 (zve (rdL yhb x0)),false,[wL 1 yv yhb x0])
 | _=>none
theorem yv1:OkD Tryz.prog 188 D_zve:=by unfold D_zve;exact dk N188.den
def yzl (a0:Character) (i1:Nat) (s1:List Int):Except ((List Int)) (List Int):=
 (bif decide (0<(i1:Int))then(bif ((((zdc a0.Letter).getD i1 0).toNat:Int) == 45)then .ok ((s1++([(zdb a0.Kind).2.1]:List Int))++([IntKind.wrap .i64 (3 * ((zdb a0.Kind).1))]:List Int))else .ok ((s1++([(zdb a0.Kind).2.1]:List Int))++([(zdb a0.Kind).1]:List Int)))else(bif ((((zdc a0.Letter).getD i1 0).toNat:Int) == 45)then .ok (s1++([IntKind.wrap .i64 (3 * ((zdb a0.Kind).1))]:List Int))else .ok (s1++([(zdb a0.Kind).1]:List Int))))
def yml (a0:Character) (i2:Nat) (s2:List Int) (i3:Nat) (s3:List Int):Except ((List Int)) (List Int):=
 (bif decide (0<(i3:Int))then .ok ((s3++([(zdb a0.Kind).2.1]:List Int))++([(zdb a0.Kind).1]:List Int))else(bif decide (0<(i2:Int))then .ok ((s3++([IntKind.wrap .i64 (((zdb a0.Kind).2.1)+20)]:List Int))++([(zdb a0.Kind).1]:List Int))else .ok (s3++([(zdb a0.Kind).1]:List Int))))
def y6l (a0:Character) (i2:Nat) (s2:List Int):Except ((List Int)) (List Int):=
 (match yf (yml a0 i2 s2) (((([1]:List Int).getD i2 default)).toNat-0) 0 s2 with|.error e=>.error e|.ok s3=>.ok s3)
def ytl (a0:Character) (i4:Nat) (s4:List Int) (i5:Nat) (s5:List Int):Except ((List Int)) (List Int):=
 (bif decide (0<(i5:Int))then .ok ((s5++([(zdb a0.Kind).2.1]:List Int))++([(zdb a0.Kind).1]:List Int))else(bif decide (0<(i4:Int))then .ok ((s5++([IntKind.wrap .i64 (((zdb a0.Kind).2.1)+20)]:List Int))++([(zdb a0.Kind).1]:List Int))else .ok (s5++([(zdb a0.Kind).1]:List Int))))
def y5l (a0:Character) (i4:Nat) (s4:List Int):Except ((List Int)) (List Int):=
 (match yf (ytl a0 i4 s4) (((a0.Group.getD i4 default)).toNat-0) 0 s4 with|.error e=>.error e|.ok s5=>.ok s5)
def zbb (a0:Character):(List Int):=
 (bif (a0.Kind == 8)then(match yf (yzl a0) ((zdc a0.Letter).length-0) 0 ([]:List Int)with|.error e=>e|.ok s1=>s1)else(bif ((a0.Group.length:Int) == 0)then(match yf (y6l a0) (1-0) 0 ([]:List Int)with|.error e=>e|.ok s2=>(bif (a0.Letter != [])then s2++([(zdb a0.Kind).2.1,20]:List Int)else s2))else(match yf (y5l a0) (a0.Group.length-0) 0 ([]:List Int)with|.error e=>e|.ok s4=>(bif (a0.Letter != [])then s4++([(zdb a0.Kind).2.1,20]:List Int)else s4))))
namespace N189
theorem DD:DOk Tryz.prog (Go.Ab.DD [(185,dP D_zdc),(187,dP D_zdb)]):=ya y7u.e <| ya yav.e <| yd _
theorem dn:type_of% (And.intro @D_zdc.eq_1 <| @D_zdb.eq_1):=by and_intros<;>intros<;>rfl
theorem o2 {p:Prop} (h:p:=by(first|(and_intros<;>first|decide|omega|(simp;(first|done|fail))|(rw[IntKind.wrap_i64];have:=hg9 i4;omega)|(rw[IntKind.wrap_i64];have:=hg1 i2;omega)|(rw[IntKind.wrap_i64];omega)|(intro i hi;exact ygh _ _ i hi)|(intro i hi;exact ymq _ _ _ i hi)));first|done|fail):p:=h
theorem o3 {p:Prop} (h:p:=by(first|(refine⟨⟨Nat.le_refl _,fun i hi=>y3p _ _ _ i hi⟩,.inl fun i hi=>by rw[ywi _ _ _ i hi];simp[NoBorL,NoBor],by simp,fun i hi=>by rw[ywi _ _ _ i hi];exact yt _⟩));first|done|fail):p:=h
theorem lx {p:Prop} (h:p:=by(exact lxx);first|done|fail):p:=h
set_option maxHeartbeats 1000000 in
set_option maxRecDepth 20000 in
theorem den (a0:Character) (hb0:bdCharacter a0) (hp0:a0.Group.length<=4) (hp1:∀ v∈a0.Group,v<=9):Den Tryz.prog 189 [.agg (yq a0)] (ownL 2 1 yv (zbb a0)):=by
 generalize hR:zbb a0=r;unfold zbb at hR;refine di Tryz.func189 Tryz.ntmps189 Tryz.results189 ?_;intro c hL hc hk;obtain⟨hL0,_⟩:=hL;have hw0:bwCharacter a0:=yz a0 hL0;clear hL0;simp only[pars,Nat.zero_add];have hg9:∀ i:Nat,a0.Group.getD i default<=9:=fun i=>yym hp1 i
 have hs9:=yux a0.Letter;have hs8:=y6s a0.Letter;have hg1:∀ i:Nat,([1]:List Int).getD i default<=9:=fun i=>yym (by simp) i
 iterate 3 refine rS ?_
 refine AWP.cond rfl (fun hb => ?_) (fun hb => ?_)
 ·replace hR:=ct hR
  iterate 2 refine rS ?_
  refine AWP.block ?_;refine AWP.lensT 27 rfl (fun hLn1 => ?_);generalize hz1:yf (yzl a0) ((zdc a0.Letter).length-0) 0 ([]:List Int)=z1 at hR;refine AWP.range (yzl a0) (fun i1 s1=>⟨[(3,.int .i64 ((zdb a0.Kind).1)),(4,.int .i64 ((zdb a0.Kind).2.1)),(6,.ref 0 1 0 s1.length),(28,.ptr 1 0)],[.arr 2 1 s1.length (fun j=>yv (s1.getD j default)),.it (zdc a0.Letter) i1 (decide (i1<(zdc a0.Letter).length))]⟩) (fun i1 s1=>s1.length<=([]:List Int).length+2 * i1/\s1.length<=2 * i1) ((zdc a0.Letter).length) 0 ([]:List Int) [1,2] hz1 ot wt sm ?_;clear hz1;intro i1 s1 hi1 hW1 hz1;refine AWP.seq ?_;by_cases hlt1:i1<(zdc a0.Letter).length
  ·rw[yk hlt1]at hz1;simp only[yzl]at hz1
   rw[decide_eq_true hlt1];refine rS ?_;refine AWP.seq ?_;refine AWP.cond rfl (fun hb => ?_) (fun hb=>by cases hb);iterate 2 refine rS ?_
   refine AWP.cond rfl (fun hb => ?_) (fun hb => ?_)
   ·simp only[hb,cond_true]at hz1
    iterate 2 refine rS ?_
    refine AWP.cond rfl (fun hb => ?_) (fun hb => ?_)
    ·simp only[hb,cond_true]at hz1
     refine rS ?_;exact⟨_,[5,1],hlt1,wt,hz1,sm⟩
    ·simp only[hb,cond_false]at hz1
     refine rS ?_;exact⟨_,[5,1],hlt1,wt,hz1,sm⟩
   ·simp only[hb,cond_false]at hz1
    refine rS ?_;refine AWP.cond rfl (fun hb => ?_) (fun hb => ?_)
    ·simp only[hb,cond_true]at hz1
     refine rS ?_;exact⟨_,[3,1],hlt1,wt,hz1,sm⟩
    ·simp only[hb,cond_false]at hz1
     refine rS ?_;exact⟨_,[3,1],hlt1,wt,hz1,sm⟩
  ·obtain rfl:i1=(zdc a0.Letter).length:=by omega
   rw[yl (Nat.le_refl _)]at hz1;subst hz1;dsimp only at hR;simp only[Nat.lt_irrefl,decide_false];refine rS ?_;refine AWP.seq ?_;refine AWP.cond rfl (fun hb=>by cases hb) (fun hb => ?_);refine AWP.exit ?_;refine yb ?_;refine rS ?_;refine AWP.ret ?_;subst hR;exact es
 ·replace hR:=cf hR
  iterate 2 refine rS ?_
  refine AWP.cond rfl (fun hb => ?_) (fun hb => ?_)
  ·replace hR:=ct hR
   iterate 3 refine rS ?_
   refine AWP.block ?_;generalize hz2:yf (y6l a0) (1-0) 0 ([]:List Int)=z2 at hR;refine AWP.range (y6l a0) (fun i2 s2=>⟨[(1,.ptr 0 0),(3,.int .i64 ((zdb a0.Kind).1)),(4,.int .i64 ((zdb a0.Kind).2.1)),(10,.ref 1 1 0 s2.length),(58,.ref 2 1 0 1),(59,.int .i64 1),(60,.int .i64 (i2:Int))],[.box [.int .i64 a0.Kind,encL 1 yv a0.Group,.str a0.Letter,.str a0.Colors,.int .i64 a0.Period],.arr 2 1 s2.length (fun j=>yv (s2.getD j default)),.arr 2 1 ([1]:List Int).length (fun j=>yv (([1]:List Int).getD j default))]⟩) (fun i2 s2=>s2.length<=18 * i2) (1) 0 ([]:List Int) [0,2,1] hz2 ot wt sm ?_;clear hz2;intro i2 s2 hi2 hW2 hz2;refine rS ?_;refine AWP.seq ?_;refine AWP.cond rfl (fun hb => ?_) (fun hb => ?_)
   ·have hlt2:i2<1:=ot
    rw[yk hlt2]at hz2;simp only[y6l]at hz2;iterate 2 refine rS ?_
    refine AWP.block ?_;generalize hz3:yf (yml a0 i2 s2) (((([1]:List Int).getD i2 default)).toNat-0) 0 s2=z3 at hz2;refine AWP.range (yml a0 i2 s2) (fun i3 s3=>⟨[(1,.ptr 0 0),(3,.int .i64 ((zdb a0.Kind).1)),(4,.int .i64 ((zdb a0.Kind).2.1)),(10,.ref 1 1 0 s3.length),(11,.int .i64 (i2:Int)),(58,.ref 2 1 0 1),(59,.int .i64 1),(60,.int .i64 (i2:Int)),(65,.int .i64 (([1]:List Int).getD i2 default)),(66,.int .i64 (i3:Int))],[.box [.int .i64 a0.Kind,encL 1 yv a0.Group,.str a0.Letter,.str a0.Colors,.int .i64 a0.Period],.arr 2 1 s3.length (fun j=>yv (s3.getD j default)),.arr 2 1 ([1]:List Int).length (fun j=>yv (([1]:List Int).getD j default))]⟩) (fun i3 s3=>s3.length<=s2.length+2 * i3/\s3.length<=18 * i2+2 * i3) (((([1]:List Int).getD i2 default)).toNat) 0 s2 [0,1,2] hz3 ot wt sm ?_;clear hz3;intro i3 s3 hi3 hW3 hz3;refine rS ?_;refine AWP.seq ?_;refine AWP.cond rfl (fun hb => ?_) (fun hb => ?_)
    ·have hlt3:i3<((([1]:List Int).getD i2 default)).toNat:=ot
     rw[yk hlt3]at hz3;simp only[yml]at hz3;iterate 2 refine rS ?_
     refine AWP.cond rfl (fun hb => ?_) (fun hb => ?_)
     ·simp only[hb,cond_true]at hz3
      iterate 3 refine rS ?_
      exact⟨_,[0,6,2],hlt3,wt,hz3,sm⟩
     ·simp only[hb,cond_false]at hz3
      refine rS ?_;refine AWP.cond rfl (fun hb => ?_) (fun hb => ?_)
      ·simp only[hb,cond_true]at hz3
       iterate 3 refine rS ?_
       exact⟨_,[0,6,2],hlt3,wt,hz3,sm⟩
      ·simp only[hb,cond_false]at hz3
       iterate 2 refine rS ?_
       exact⟨_,[0,4,2],hlt3,wt,hz3,sm⟩
    ·obtain rfl:i3=((([1]:List Int).getD i2 default)).toNat:=ot
     rw[yl (Nat.le_refl _)]at hz3;subst hz3;dsimp only at hz2;refine AWP.exit ?_;refine yb ?_;refine rS ?_;exact⟨_,[0,1,2],hlt2,by(have h9:=hg1 i2;omega),hz2,sm⟩
   ·obtain rfl:i2=1:=ot
    rw[yl (Nat.le_refl _)]at hz2;subst hz2;dsimp only at hR;refine AWP.exit ?_;refine yb ?_;refine rS ?_;refine AWP.cond rfl (fun hb => ?_) (fun hb => ?_)
    ·replace hR:=ct hR
     iterate 2 refine rS ?_
     refine AWP.ret ?_;subst hR;exact es
    ·replace hR:=cf hR
     refine rS ?_;refine AWP.ret ?_;subst hR;exact es
  ·replace hR:=cf hR
   iterate 2 refine rS ?_
   refine AWP.block ?_;refine AWP.lensS 9 rfl (fun hLn4 => ?_);generalize hz4:yf (y5l a0) (a0.Group.length-0) 0 ([]:List Int)=z4 at hR;refine AWP.range (y5l a0) (fun i4 s4=>⟨[(1,.ptr 0 0),(3,.int .i64 ((zdb a0.Kind).1)),(4,.int .i64 ((zdb a0.Kind).2.1)),(10,.ref 1 1 0 s4.length),(58,encL 1 yv a0.Group),(59,.int .i64 (a0.Group.length:Int)),(60,.int .i64 (i4:Int))],[.box [.int .i64 a0.Kind,encL 1 yv a0.Group,.str a0.Letter,.str a0.Colors,.int .i64 a0.Period],.arr 2 1 s4.length (fun j=>yv (s4.getD j default))]⟩) (fun i4 s4=>s4.length<=18 * i4) (a0.Group.length) 0 ([]:List Int) [0,1] hz4 ot wt sm ?_;clear hz4;intro i4 s4 hi4 hW4 hz4;refine rS ?_;refine AWP.seq ?_;refine AWP.cond rfl (fun hb => ?_) (fun hb => ?_)
   ·have hlt4:i4<a0.Group.length:=ot
    rw[yk hlt4]at hz4;simp only[y5l]at hz4;iterate 2 refine rS ?_
    refine AWP.block ?_;generalize hz5:yf (ytl a0 i4 s4) (((a0.Group.getD i4 default)).toNat-0) 0 s4=z5 at hz4;refine AWP.range (ytl a0 i4 s4) (fun i5 s5=>⟨[(1,.ptr 0 0),(3,.int .i64 ((zdb a0.Kind).1)),(4,.int .i64 ((zdb a0.Kind).2.1)),(10,.ref 1 1 0 s5.length),(11,.int .i64 (i4:Int)),(58,encL 1 yv a0.Group),(59,.int .i64 (a0.Group.length:Int)),(60,.int .i64 (i4:Int)),(65,.int .i64 (a0.Group.getD i4 default)),(66,.int .i64 (i5:Int))],[.box [.int .i64 a0.Kind,encL 1 yv a0.Group,.str a0.Letter,.str a0.Colors,.int .i64 a0.Period],.arr 2 1 s5.length (fun j=>yv (s5.getD j default))]⟩) (fun i5 s5=>s5.length<=s4.length+2 * i5/\s5.length<=18 * i4+2 * i5) (((a0.Group.getD i4 default)).toNat) 0 s4 [0,1] hz5 ot wt sm ?_;clear hz5;intro i5 s5 hi5 hW5 hz5;refine rS ?_;refine AWP.seq ?_;refine AWP.cond rfl (fun hb => ?_) (fun hb => ?_)
    ·have hlt5:i5<((a0.Group.getD i4 default)).toNat:=ot
     rw[yk hlt5]at hz5;simp only[ytl]at hz5;iterate 2 refine rS ?_
     refine AWP.cond rfl (fun hb => ?_) (fun hb => ?_)
     ·simp only[hb,cond_true]at hz5
      iterate 3 refine rS ?_
      exact⟨_,[0,5],hlt5,wt,hz5,sm⟩
     ·simp only[hb,cond_false]at hz5
      refine rS ?_;refine AWP.cond rfl (fun hb => ?_) (fun hb => ?_)
      ·simp only[hb,cond_true]at hz5
       iterate 3 refine rS ?_
       exact⟨_,[0,5],hlt5,wt,hz5,sm⟩
      ·simp only[hb,cond_false]at hz5
       iterate 2 refine rS ?_
       exact⟨_,[0,3],hlt5,wt,hz5,sm⟩
    ·obtain rfl:i5=((a0.Group.getD i4 default)).toNat:=ot
     rw[yl (Nat.le_refl _)]at hz5;subst hz5;dsimp only at hz4;refine AWP.exit ?_;refine yb ?_;refine rS ?_;exact⟨_,[0,1],hlt4,by(have h9:=hg9 i4;omega),hz4,sm⟩
   ·obtain rfl:i4=a0.Group.length:=ot
    rw[yl (Nat.le_refl _)]at hz4;subst hz4;dsimp only at hR;refine AWP.exit ?_;refine yb ?_;refine rS ?_;refine AWP.cond rfl (fun hb => ?_) (fun hb => ?_)
    ·replace hR:=ct hR
     iterate 2 refine rS ?_
     refine AWP.ret ?_;subst hR;exact es
    ·replace hR:=cf hR
     refine rS ?_;refine AWP.ret ?_;subst hR;exact es
end N189
def D_zbb : DF
 | [x0]=>some (ownL 2 1 yv (zbb (rdG ye x0)),false,[wG yq ye x0,bdCharacter (rdG ye x0),(rdG ye x0).Group.length<=4,∀ v∈(rdG ye x0).Group,v<=9])
 | _=>none
theorem yx0:OkD Tryz.prog 189 D_zbb:=by unfold D_zbb;exact dk N189.den
def zdg (a0:Character):Int:=
 (bif (zld a0)then 0 else(bif (a0.Kind == 3)then 20 else(bif decide (1<(a0.Group.length:Int))then IntKind.wrap .i64 ((zve (zbb a0))+(IntKind.wrap .i64 (((zdb a0.Kind).2.2)+20)))else IntKind.wrap .i64 ((zve (zbb a0))+((zdb a0.Kind).2.2)))))
namespace N141
theorem DD:DOk Tryz.prog (Go.Ab.DD [(140,dP D_zld),(187,dP D_zdb),(188,dP D_zve),(189,dP D_zbb)]):=ya y9s.e <| ya yav.e <| ya yv1.e <| ya yx0.e <| yd _
theorem dn:type_of% (And.intro @D_zld.eq_1 <| And.intro @D_zdb.eq_1 <| And.intro @D_zve.eq_1 <| @D_zbb.eq_1):=by and_intros<;>intros<;>rfl
theorem den (a0:Character) (hb0:bdCharacter a0) (hp0:a0.Group.length<=4) (hp1:∀ v∈a0.Group,v<=9):Den Tryz.prog 141 [.agg (yq a0)] (.int .i64 (zdg a0)):=by
 generalize hR:zdg a0=r;unfold zdg at hR;refine di Tryz.func141 Tryz.ntmps141 Tryz.results141 ?_;intro c hL hc hk;obtain⟨hL0,_⟩:=hL;have hw0:bwCharacter a0:=yz a0 hL0;clear hL0;simp only[pars,Nat.zero_add];iterate 2 refine rS ?_
 refine AWP.cond rfl (fun hb => ?_) (fun hb => ?_)
 ·replace hR:=ct hR
  refine rS ?_;refine AWP.ret ?_;subst hR;exact es
 ·replace hR:=cf hR
  refine rS ?_;refine AWP.cond rfl (fun hb => ?_) (fun hb => ?_)
  ·replace hR:=ct hR
   refine rS ?_;refine AWP.ret ?_;subst hR;exact es
  ·replace hR:=cf hR
   iterate 2 refine rS ?_
   refine AWP.cond rfl (fun hb => ?_) (fun hb => ?_)
   ·replace hR:=ct hR
    iterate 2 refine rS ?_
    refine AWP.ret ?_;subst hR;exact es
   ·replace hR:=cf hR
    refine rS ?_;refine AWP.ret ?_;subst hR;exact es
end N141
def D_zdg : DF
 | [x0]=>some (.int .i64 (zdg (rdG ye x0)),false,[wG yq ye x0,bdCharacter (rdG ye x0),(rdG ye x0).Group.length<=4,∀ v∈(rdG ye x0).Group,v<=9])
 | _=>none
theorem y92:OkD Tryz.prog 141 D_zdg:=by unfold D_zdg;exact dk N141.den
end Go.Ab
