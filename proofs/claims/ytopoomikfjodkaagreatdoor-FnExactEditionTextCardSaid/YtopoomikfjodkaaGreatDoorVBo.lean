/- A part of a proof: walks of functions and lemmas of our own. No conditions. -/
import Derived.Test.YtopoomikfjodkaaGreatDoorVAl
import Derived.Test.YtopoomikfjodkaaGreatDoorVAi
import Derived.Test.YtopoomikfjodkaaGreatDoorVAw
import Derived.Test.YtopoomikfjodkaaGreatDoorVBc
import Derived.Test.YtopoomikfjodkaaGreatDoorVAs
import Derived.Test.YtopoomikfjodkaaGreatDoorVBg
import Derived.Test.YtopoomikfjodkaaGreatDoorVAt
import Derived.Test.YtopoomikfjodkaaGreatDoorVBk
import Derived.Test.YtopoomikfjodkaaGreatDoorVAy
import Derived.Test.YtopoomikfjodkaaGreatDoorVBa
import Derived.Test.YtopoomikfjodkaaGreatDoorVBl
import Derived.Test.YtopoomikfjodkaaGreatDoorVAv
import Derived.Test.YtopoomikfjodkaaGreatDoorVAp
import Derived.Test.YtopoomikfjodkaaGreatDoorVBi
import Derived.Test.YtopoomikfjodkaaGreatDoorVAz
import Derived.Test.YtopoomikfjodkaaGreatDoorVBm
set_option linter.unusedSectionVars false
set_option linter.unusedVariables false
set_option linter.unusedSimpArgs false
set_option maxHeartbeats 1000000
namespace Go.Ab
open Go Go.Proofs
def u16 (x:Int):Prop:=0≤x∧x≤65535
theorem y44 {x y:Int} (hx:u16 x) (hy:u16 y):u16 (IntKind.wrap .i64 ((BitVec.ofInt (IntKind.bits .i64) x ^^^ BitVec.ofInt (IntKind.bits .i64) y).toNat:Int)):=by
 unfold u16 at *
 obtain⟨n,rfl⟩:∃ n:Nat,x=n:=⟨x.toNat,by omega⟩
 obtain⟨m,rfl⟩:∃ n:Nat,y=n:=⟨y.toNat,by omega⟩
 have h:(BitVec.ofInt (IntKind.bits .i64) (n:Int) ^^^ BitVec.ofInt (IntKind.bits .i64) (m:Int)).toNat=n ^^^ m:=by
  show(BitVec.ofInt 64 (n:Int) ^^^ BitVec.ofInt 64 (m:Int)).toNat=n ^^^ m
  rw[BitVec.toNat_xor,BitVec.ofInt_natCast,BitVec.ofInt_natCast,BitVec.toNat_ofNat,BitVec.toNat_ofNat,Nat.mod_eq_of_lt (by omega),Nat.mod_eq_of_lt (by omega)]
 rw[h,IntKind.wrap_i64]
 have:=Nat.xor_lt_two_pow (n:=16) (show n<2 ^ 16 by omega) (show m<2 ^ 16 by omega)
 omega
theorem yy5 {x:Int} (hx:0≤x) (hx2:x≤131070):u16 (IntKind.wrap .i64 ((BitVec.ofInt (IntKind.bits .i64) x &&& BitVec.ofInt (IntKind.bits .i64) 65535).toNat:Int)):=by
 unfold u16
 obtain⟨n,rfl⟩:∃ n:Nat,x=n:=⟨x.toNat,by omega⟩
 have h:(BitVec.ofInt (IntKind.bits .i64) (n:Int) &&& BitVec.ofInt (IntKind.bits .i64) 65535).toNat=n &&& 65535:=by
  show(BitVec.ofInt 64 (n:Int) &&& BitVec.ofInt 64 ((65535:Nat):Int)).toNat=n &&& 65535
  rw[BitVec.toNat_and,BitVec.ofInt_natCast,BitVec.ofInt_natCast,BitVec.toNat_ofNat,BitVec.toNat_ofNat,Nat.mod_eq_of_lt (by omega),Nat.mod_eq_of_lt (by omega)]
 rw[h,IntKind.wrap_i64]
 have:n &&& 65535≤65535:=Nat.and_le_right
 omega
theorem yo5 (a:List UInt8) (k:Int) (i:Nat) (s:Int) (j:Nat) (t:Int) (ht:u16 t):∃ r,ydk a k i s j t=.ok r∧u16 r:=by
 unfold ydk
 have hw:IntKind.wrap .i64 (t * 2)=t * 2:=by unfold u16 at ht;rw[IntKind.wrap_i64];omega
 rw[hw]
 by_cases h:65535<t * 2
 ·rw[decide_eq_true h]
  exact⟨_,rfl,y44 (yy5 (by unfold u16 at ht;omega) (by unfold u16 at ht;omega)) ⟨by omega,by omega⟩⟩
 ·rw[decide_eq_false h]
  exact⟨_,rfl,by unfold u16 at *;omega⟩
theorem y94 (a:List UInt8) (k:Int) (i:Nat) (s:Int) (hs:u16 s):∃ r,yem a k i s=.ok r∧u16 r:=by
 unfold yem
 have hb:(a.getD i 0).toNat<256:=(a.getD i 0).toNat_lt
 have h0:u16 (IntKind.wrap .i64 ((BitVec.ofInt (IntKind.bits .i64) s ^^^ BitVec.ofInt (IntKind.bits .i64) (IntKind.wrap .i64 ((IntKind.wrap .i64 ((a.getD i 0).toNat:Int)) * 256))).toNat:Int)):=by
  refine y44 hs ?_
  unfold u16
  rw[IntKind.wrap_i64,IntKind.wrap_i64]
  omega
 obtain⟨t,h1,h2⟩:=yq (b:=ydk a k i s) (fun _ s=>u16 s) (k:=8-0) (i:=0) h0 (fun j u _ _ hu=>yo5 a k i s j u hu)
 rw[h1]
 exact⟨_,rfl,h2⟩
theorem yrq (a:List UInt8):u16 (zp a 65535):=by
 unfold zp
 have e:(!(zb 65535 0 65535))=false:=by decide
 rw[e,cond_false]
 obtain⟨t,h1,h2⟩:=yq (b:=yem a 65535) (fun _ s=>u16 s) (k:=a.length-0) (i:=0) (s:=65535) ⟨by omega,by omega⟩ (fun j u _ _ hu=>y94 a 65535 j u hu)
 rw[h1]
 exact h2
theorem ycw (a:List UInt8) (k:Int) (i:Nat) (s:Int) (j:Nat) (t:Int):y8i a k i s j t=ydk a k i s j t:=by
 unfold y8i ydk
 have e:(2:Int) ^ (Min.min 1 (IntKind.bits .i64))=2:=by decide
 rw[e]
theorem yb2 (a:List UInt8):zp a 65535=zfb a 65535:=by
 unfold zp zfb
 have e:(!(zb 65535 0 65535))=false:=by decide
 have e8:(2:Int) ^ (Min.min 8 (IntKind.bits .i64))=256:=by decide
 rw[e,cond_false]
 have hb:yel a 65535=yem a 65535:=by
  funext i s
  unfold yel yem
  rw[e8,show y8i a 65535 i s=ydk a 65535 i s from by funext j t;exact ycw a 65535 i s j t]
  all_goals rfl
 rw[hb]
 all_goals rfl
end Go.Ab

namespace Go.Ab
open Go Go.Proofs
def zhg (a0:Edition):Bool:=
 (((zsc a0.Number) && (zmc a0.Day)) && (zwb a0.Aids))
namespace N131
theorem DD:DOk Tryz.prog (Go.Ab.DD [(117,dP D_zwb),(209,dP D_zsc),(227,dP D_zmc)]):=ya y9r.e <| ya yol.e <| ya yjl.e <| yd _
theorem dn:type_of% (And.intro @D_zwb.eq_1 <| And.intro @D_zsc.eq_1 <| @D_zmc.eq_1):=by and_intros<;>intros<;>rfl
theorem gr {p:Prop} (h:p:=by(grind [y7j]);first|done|fail):p:=h
theorem den (a0:Edition) (hb0:bdEdition a0):Den Tryz.prog 131 [.agg (eEdition a0)] (.bool (zhg a0)):=by
 generalize hR:zhg a0=r
 unfold zhg at hR
 refine di Tryz.func131 Tryz.ntmps131 Tryz.results131 ?_
 intro c hL hc hk
 obtain⟨hL0,_⟩:=hL
 have hw0:bwEdition a0:=ydb a0 hL0
 clear hL0
 simp only[pars,Nat.zero_add]
 iterate 2 refine rS ?_
 refine AWP.ret ?_
 subst hR
 exact es
end N131
def D_zhg : DF
 | [x0]=>some (.bool (zhg (rdG yv x0)),false,[wG eEdition yv x0,bdEdition (rdG yv x0)])
 | _=>none
theorem y0x:OkD Tryz.prog 131 D_zhg:=by unfold D_zhg;exact dk N131.den
end Go.Ab

namespace Go.Ab
open Go Go.Proofs
def zzd (a0:Edition):Bool:=
 (((ze a0.Number 1 9999) && (zxd a0.Day)) && (zcb a0.Aids))
namespace N129
theorem DD:DOk Tryz.prog (Go.Ab.DD [(114,dP D_zcb),(170,dP D_ze),(223,dP D_zxd)]):=ya ynt.e <| ya yld.e <| ya y5r.e <| yd _
theorem dn:type_of% (And.intro @D_zcb.eq_1 <| And.intro @D_ze.eq_1 <| @D_zxd.eq_1):=by and_intros<;>intros<;>rfl
theorem ol:type_of% (@ze.eq_1):=@ze.eq_1
theorem gr {p:Prop} (h:p:=by(grind [ywg]);first|done|fail):p:=h
theorem den (a0:Edition) (hb0:bdEdition a0):Den Tryz.prog 129 [.ep (eEdition a0)] (.bool (zzd a0)):=by
 generalize hR:zzd a0=r
 unfold zzd at hR
 refine di Tryz.func129 Tryz.ntmps129 Tryz.results129 ?_
 intro c hL hc hk
 obtain⟨hL0,_⟩:=hL
 have hw0:bwEdition a0:=ydb a0 hL0
 clear hL0
 simp only[pars,Nat.zero_add]
 iterate 2 refine rS ?_
 refine AWP.ret ?_
 subst hR
 exact es
end N129
def D_zzd : DF
 | [x0]=>some (.bool (zzd (rdP yv x0)),false,[wP eEdition yv x0,bdEdition (rdP yv x0)])
 | _=>none
theorem yf1:OkD Tryz.prog 129 D_zzd:=by unfold D_zzd;exact dk N129.den
end Go.Ab

namespace Go.Ab
open Go Go.Proofs
def zig (a0:(List UInt8)):(List UInt8):=
 [99,104,101,99,107,32]++(zd (zp a0 65535))
namespace N133
theorem DD:DOk Tryz.prog (Go.Ab.DD [(107,dP D_zd),(229,dP D_zp)]):=ya yjd.e <| ya yk4.e <| yd _
theorem dn:type_of% (And.intro @D_zd.eq_1 <| @D_zp.eq_1):=by and_intros<;>intros<;>rfl
theorem gr {p:Prop} (h:p:=by(grind [yvb]);first|done|fail):p:=h
theorem o0 {p:Prop} (h:p:=by(first|((repeat' with_reducible apply And.intro)<;>(first|omega|assumption|(simp only[List.length_append,List.length_cons,List.length_nil,List.length_singleton];omega)|(refine Nat.le_trans (ylc _ _) ?_;simp only[jl,List.length_cons,List.length_nil];omega))));first|done|fail):p:=h
set_option maxHeartbeats 1000000 in
set_option maxRecDepth 20000 in
theorem den (a0:(List UInt8)) (hb0:a0.length<1099511627776):Den Tryz.prog 133 [.str a0] (.str (zig a0)):=by
 generalize hR:zig a0=r
 unfold zig at hR
 refine di Tryz.func133 Tryz.ntmps133 Tryz.results133 ?_
 intro c hL hc hk
 obtain⟨hL0,_⟩:=hL
 have hw0:a0.length<9223372036854775808:=Nat.lt_succ_of_le hL0
 clear hL0
 simp only[pars,Nat.zero_add]
 have h9:=yrq a0
 have h9:0≤zp a0 65535∧zp a0 65535≤65535:=h9
 have l1:=yvb (zp a0 65535)
 iterate 2 refine rS ?_
 refine AWP.ret ?_
 subst hR
 exact es
end N133
def D_zig : DF
 | [x0]=>some (.str (zig (rdS x0)),false,[wS x0,(rdS x0).length<1099511627776])
 | _=>none
theorem y1z:OkD Tryz.prog 133 D_zig:=by unfold D_zig;exact dk N133.den
end Go.Ab

namespace Go.Ab
open Go Go.Proofs
theorem yiv {e:Edition} (h:zzd e=true):1≤e.Number∧e.Number≤9999∧0≤e.Day∧e.Day≤99999∧e.Aids.length≤24∧zcb e.Aids=true:=by
 unfold zzd zxd ze at h
 simp only[Bool.and_eq_true,decide_eq_true_eq]at h
 have:=ywg h.2
 exact⟨h.1.1.1,h.1.1.2,h.1.2.1,h.1.2.2,this,h.2⟩
theorem yas {e:Edition} (hb:∀ v∈e.Aids,aidL v):zhg e=zzd e:=by
 unfold zhg zzd
 rw[yke e.Aids hb]
 rfl
theorem yg3 {e:Edition} (hb:bdEdition e) (h:(!zhg e)=false):1≤e.Number∧e.Number≤9999∧0≤e.Day∧e.Day≤99999∧e.Aids.length≤24∧zcb e.Aids=true:=by
 refine yiv ?_
 rw[← yas (fun v hv=>⟨Nat.lt_of_lt_of_le (hb.2 v hv).2.2.1.2.2 (by decide),Nat.lt_of_lt_of_le (hb.2 v hv).2.2.2.1 (by decide)⟩)];simpa using h
theorem y6n (a b c:Int) (h0 : -9223372036854775808≤a) (h1:a≤9223372036854775807) (h2 : -9223372036854775808≤c) (h3:c≤9223372036854775807):(zve a b c).length≤20000:=by
 have l1:=ydc a h0 h1
 have l2:=y6j b
 have l3:=ydc c h2 h3
 unfold zve
 refine Nat.le_trans (ylc _ _) ?_
 simp only[jl,List.length_cons,List.length_nil]
 omega
theorem yul (s:List UInt8):(zig s).length≤100000:=by
 have h9:0≤zp s 65535∧zp s 65535≤65535:=yrq s
 have l1:=yvb (zp s 65535)
 unfold zig
 simp only[List.length_append,List.length_cons,List.length_nil]
 omega
theorem y0s (s:List UInt8):0≤zfb s 65535∧zfb s 65535≤65535:=by
 rw[← yb2];exact yrq s
end Go.Ab

namespace Go.Ab
open Go Go.Proofs
def zsb (a0:Edition):Edition:=
 { Number:=a0.Number,Day:=a0.Day,Aids:=(zk a0.Aids):Edition }
namespace N50
theorem DD:DOk Tryz.prog (Go.Ab.DD [(36,dP D_zk)]):=ya ygw.e <| yd _
theorem dn:type_of% (@D_zk.eq_1):=by and_intros<;>intros<;>rfl
theorem ol:type_of% (@yfu):=@yfu
theorem den (a0:Edition) (hb0:bdEdition a0) (hp0:a0.Aids.length≤1048576):Den Tryz.prog 50 [.agg (eEdition a0)] (.agg (yje (zsb a0))):=by
 generalize hR:zsb a0=r
 unfold zsb at hR
 refine di Tryz.func50 Tryz.ntmps50 Tryz.results50 ?_
 intro c hL hc hk
 obtain⟨hL0,_⟩:=hL
 have hw0:bwEdition a0:=ydb a0 hL0
 clear hL0
 simp only[pars,Nat.zero_add]
 iterate 6 refine rS ?_
 refine AWP.ret ?_
 subst hR
 exact es
end N50
def D_zsb : DF
 | [x0]=>some (.agg (yje (zsb (rdG yv x0))),false,[wG eEdition yv x0,bdEdition (rdG yv x0),(rdG yv x0).Aids.length≤1048576])
 | _=>none
def Dz_zsb : DF
 | [x0]=>some (.agg (yje (zsb (rdG yv x0))),true,[wG eEdition yv x0,bdEdition (rdG yv x0),(rdG yv x0).Aids.length≤1048576])
 | _=>none
theorem ysz:OkD Tryz.prog 50 D_zsb:=by unfold D_zsb;exact dk N50.den
theorem yev:OkD Tryz.prog 50 Dz_zsb:=by unfold Dz_zsb;exact dk N50.den
end Go.Ab

namespace Go.Ab
open Go Go.Proofs
theorem yav (v:Edition):zsb v=v:=by
 unfold zsb
 simp only[yfu]
end Go.Ab

namespace Go.Ab
open Go Go.Proofs
def zse (a0:Edition) (a1:Edition):Bool:=
 (bif (a0.Number != a1.Number)then false else(bif (a0.Day != a1.Day)then false else(bif (!(zzb a0.Aids a1.Aids))then false else true)))
namespace N52
theorem DD:DOk Tryz.prog (Go.Ab.DD [(39,dP D_zzb)]):=ya ygr.e <| yd _
theorem dn:type_of% (@D_zzb.eq_1):=by and_intros<;>intros<;>rfl
theorem den (a0:Edition) (a1:Edition)  : Den Tryz.prog 52 [.agg (eEdition a0),.agg (eEdition a1)] (.bool (zse a0 a1)):=by
 generalize hR:zse a0 a1=r
 unfold zse at hR
 refine di Tryz.func52 Tryz.ntmps52 Tryz.results52 ?_
 intro c hL hc hk
 obtain⟨hL0,hL1,_⟩:=hL
 have hw0:bwEdition a0:=ydb a0 hL0
 have hw1:bwEdition a1:=ydb a1 hL1
 clear hL0 hL1
 simp only[pars,Nat.zero_add]
 iterate 2 refine rS ?_
 refine AWP.cond rfl (fun hb => ?_) (fun hb => ?_)
 ·replace hR:=ct hR
  refine rS ?_
  refine AWP.ret ?_
  subst hR
  exact es
 ·replace hR:=cf hR
  refine rS ?_
  refine AWP.cond rfl (fun hb => ?_) (fun hb => ?_)
  ·replace hR:=ct hR
   refine rS ?_
   refine AWP.ret ?_
   subst hR
   exact es
  ·replace hR:=cf hR
   refine rS ?_
   refine AWP.cond rfl (fun hb => ?_) (fun hb => ?_)
   ·replace hR:=ct hR
    refine rS ?_
    refine AWP.ret ?_
    subst hR
    exact es
   ·replace hR:=cf hR
    refine rS ?_
    refine AWP.ret ?_
    subst hR
    exact es
end N52
def D_zse : DF
 | [x0,x1]=>some (.bool (zse (rdG yv x0) (rdG yv x1)),false,[wG eEdition yv x0,wG eEdition yv x1])
 | _=>none
theorem ytr:OkD Tryz.prog 52 D_zse:=by unfold D_zse;exact dk N52.den
end Go.Ab

namespace Go.Ab
open Go Go.Proofs
theorem yp3 (a b:Edition):zse a b=decide (a=b):=by
 unfold zse
 simp only[yxw]
 by_cases h:a=b
 ·subst h;simp
 ·rw[decide_eq_false h]
  cases a;cases b
  simp only[Edition.mk.injEq]at h
  simp only[bne_iff_ne,Bool.cond_eq_ite,ite_eq_right_iff]
  (repeat' split)<;>simp_all
end Go.Ab

namespace Go.Ab
open Go Go.Proofs
def zjd (a0:Edition) (a1:Int):Int:=
 (bif decide ((zx a0.Aids a1)<0)then(-1)else(zx a0.Aids a1))
namespace N48
theorem DD:DOk Tryz.prog (Go.Ab.DD [(34,dP D_zx)]):=ya y3v.e <| yd _
theorem dn:type_of% (@D_zx.eq_1):=by and_intros<;>intros<;>rfl
theorem den (a0:Edition) (a1:Int)  : Den Tryz.prog 48 [.agg (eEdition a0),.int .i64 a1] (.int .i64 (zjd a0 a1)):=by
 generalize hR:zjd a0 a1=r
 unfold zjd at hR
 refine di Tryz.func48 Tryz.ntmps48 Tryz.results48 ?_
 intro c hL hc hk
 obtain⟨hL0,hL1,_⟩:=hL
 have hw0:bwEdition a0:=ydb a0 hL0
 clear hL0 hL1
 simp only[pars,Nat.zero_add]
 iterate 3 refine rS ?_
 refine AWP.cond rfl (fun hb => ?_) (fun hb => ?_)
 ·replace hR:=ct hR
  refine rS ?_
  refine AWP.ret ?_
  subst hR
  exact es
 ·replace hR:=cf hR
  refine rS ?_
  refine AWP.ret ?_
  subst hR
  exact es
end N48
def D_zjd : DF
 | [x0,x1]=>some (.int .i64 (zjd (rdG yv x0) (rdI x1)),false,[wG eEdition yv x0,wI .i64 x1])
 | _=>none
theorem y7r:OkD Tryz.prog 48 D_zjd:=by unfold D_zjd;exact dk N48.den
end Go.Ab

namespace Go.Ab
open Go Go.Proofs
theorem ycp (x:Edition) (n:Int) (h0 : -1≤n) (h1:n≤1048576) (hx:bwEdition x) : -1≤zjd x n∧zjd x n≤n∧(¬ zjd x n<0→yzi x):=by
 have b0:=hx
 unfold zjd
 have f0:=yom x.Aids (n) (by omega) (by omega) b0.1 b0.2
 by_cases c0:zx x.Aids (n)<0
 ·rw[decide_eq_true c0];exact⟨by simp,by simpa using h0,fun h=>absurd (by simp) h⟩
 rw[decide_eq_false c0]
 simp only[cond_false]
 exact⟨by omega,by omega,fun _=>f0.2.2 c0⟩
end Go.Ab

namespace Go.Ab
open Go Go.Proofs
def yxi (a0:Edition) (i1:Nat) (s1:List UInt8):Except (((List UInt8)×Int)) (List UInt8):=
 .ok (s1++((znb (a0.Aids.getD i1 default))++[10]))
def zic (a0:Edition):((List UInt8)×Int):=
 (bif (!(zhg a0))then([],1)else(match yf (yxi a0) (a0.Aids.length-0) 0 ((zve a0.Number a0.Day (a0.Aids.length:Int))++[10])with|.error e=>e|.ok s1=>((s1++(zig s1))++[10],0)))
namespace N51
theorem DD:DOk Tryz.prog (Go.Ab.DD [(131,dP D_zhg),(132,dP D_zve),(133,dP D_zig),(32,dP D_znb)]):=ya y0x.e <| ya yk1.e <| ya y1z.e <| ya yzg.e <| yd _
theorem dn:type_of% (And.intro @D_zhg.eq_1 <| And.intro @D_zve.eq_1 <| And.intro @D_zig.eq_1 <| @D_znb.eq_1):=by and_intros<;>intros<;>rfl
theorem o0 {p:Prop} (h:p:=by(first|(have h9:=hve (by assumption);have l2:=y6d (a0.Aids.getD i1 default) (hbe i1);have hbd:=hbe i1;(repeat' with_reducible apply And.intro)<;>first|with_reducible assumption|omega|(simp only[List.length_append,List.length_cons,List.length_nil,List.length_singleton];omega))|(have h9:=hve (by assumption);have h8:=hh (by omega) (by omega) (by omega) (by omega);(repeat' with_reducible apply And.intro)<;>first|with_reducible assumption|omega|(simp only[List.length_append,List.length_cons,List.length_nil,List.length_singleton];omega))|(have h9:=hve (by assumption);have l3:=yul s1;(repeat' with_reducible apply And.intro)<;>first|with_reducible assumption|omega|(simp only[List.length_append,List.length_cons,List.length_nil,List.length_singleton];omega)));first|done|fail):p:=h
set_option maxHeartbeats 1000000 in
set_option maxRecDepth 20000 in
theorem den (a0:Edition) (hb0:bdEdition a0):Den Tryz.prog 51 [.agg (eEdition a0)] (.tup [.str ((zic a0).1),.int .i64 ((zic a0).2)]):=by
 generalize hR:zic a0=r
 unfold zic at hR
 refine di Tryz.func51 Tryz.ntmps51 Tryz.results51 ?_
 intro c hL hc hk
 obtain⟨hL0,_⟩:=hL
 have hw0:bwEdition a0:=ydb a0 hL0
 clear hL0
 simp only[pars,Nat.zero_add]
 have hve:=fun h=>yg3 (e:=a0) hb0 h
 have hh:=y6n a0.Number a0.Day (a0.Aids.length:Int)
 have hbe:∀ i:Nat,bdAid (a0.Aids.getD i default):=fun i=>ybd hb0.2 (by decide) i
 have hbl:a0.Aids.length<1099511627776:=hb0.1
 have hbv:∀ v∈a0.Aids,bdAid v:=hb0.2
 iterate 2 refine rS ?_
 refine AWP.cond rfl (fun hb => ?_) (fun hb => ?_)
 ·replace hR:=ct hR
  refine rS ?_
  refine AWP.ret ?_
  subst hR
  exact es
 ·replace hR:=cf hR
  iterate 2 refine rS ?_
  refine AWP.block ?_
  refine AWP.lensS 15 rfl (fun hLn1 => ?_)
  generalize hz1:yf (yxi a0) (a0.Aids.length-0) 0 ((zve a0.Number a0.Day (a0.Aids.length:Int))++[10])=z1 at hR
  refine AWP.range (yxi a0) (fun i1 s1=>⟨[(4,.str s1),(20,encL 16 eAid a0.Aids),(21,.int .i64 (a0.Aids.length:Int)),(22,.int .i64 (i1:Int))],[]⟩) (fun i1 s1=>s1.length≤100000+400 * i1) (a0.Aids.length) 0 ((zve a0.Number a0.Day (a0.Aids.length:Int))++[10]) [] hz1 ot (by(have h9:=hve (by assumption);have h8:=hh (by omega) (by omega) (by omega) (by omega);simp only[List.length_append,List.length_cons,List.length_nil,List.length_singleton];omega)) sm ?_
  clear hz1
  intro i1 s1 hi1 hW1 hz1
  refine rS ?_
  refine AWP.seq ?_
  refine AWP.cond rfl (fun hb => ?_) (fun hb => ?_)
  ·have hlt1:i1<a0.Aids.length:=ot
   rw[yh hlt1]at hz1;simp only[yxi]at hz1
   iterate 3 refine rS ?_
   exact⟨_,[],hlt1,by(have l2:=y6d (a0.Aids.getD i1 default) (hbe i1);simp only[List.length_append,List.length_cons,List.length_nil,List.length_singleton];omega),hz1,sm⟩
  ·obtain rfl:i1=a0.Aids.length:=ot
   rw[yi (Nat.le_refl _)]at hz1;subst hz1;dsimp only at hR
   refine AWP.exit ?_;refine yb ?_
   refine rS ?_
   refine AWP.ret ?_
   subst hR
   exact es
end N51
def D_zic : DF
 | [x0]=>some (.tup [.str ((zic (rdG yv x0)).1),.int .i64 ((zic (rdG yv x0)).2)],false,[wG eEdition yv x0,bdEdition (rdG yv x0)])
 | _=>none
theorem yqr:OkD Tryz.prog 51 D_zic:=by unfold D_zic;exact dk N51.den
end Go.Ab

namespace Go.Ab
open Go Go.Proofs
def y8m (a0:Edition) (i1:Nat) (s1:List UInt8):Except ((List UInt8)) (List UInt8):=
 .ok (s1++((zw (a0.Aids.getD i1 default))++[10]))
def zme (a0:Edition):(List UInt8):=
 (match yf (y8m a0) (a0.Aids.length-0) 0 (((((([101,100,105,116,105,111,110,32]++(za a0.Number))++[32])++(zrb a0.Day))++[32])++(za (a0.Aids.length:Int)))++[10])with|.error e=>e|.ok s1=>((s1++[99,104,101,99,107,32])++(za (zfb s1 65535)))++[10])
namespace N130
theorem DD:DOk Tryz.prog (Go.Ab.DD [(166,dP D_za),(167,dP D_zfb),(225,dP D_zrb),(99,dP D_zw)]):=ya ytc.e <| ya yl1.e <| ya yjm.e <| ya yij.e <| yd _
theorem dn:type_of% (And.intro @D_za.eq_1 <| And.intro @D_zfb.eq_1 <| And.intro @D_zrb.eq_1 <| @D_zw.eq_1):=by and_intros<;>intros<;>rfl
theorem o0 {p:Prop} (h:p:=by(first|(have h8:=hon i1 (by assumption);have l4:=yce (hbe i1) h8;have hbd:=hbe i1;(repeat' with_reducible apply And.intro)<;>first|with_reducible assumption|omega|(simp only[List.length_append,List.length_cons,List.length_nil,List.length_singleton];omega))|(have hc:=y0s s1;have l5:=y0b (zfb s1 65535) (by omega) (by omega);(repeat' with_reducible apply And.intro)<;>first|with_reducible assumption|omega|(simp only[List.length_append,List.length_cons,List.length_nil,List.length_singleton];omega))|((repeat' with_reducible apply And.intro)<;>first|with_reducible assumption|omega|(simp only[List.length_append,List.length_cons,List.length_nil,List.length_singleton];omega)));first|done|fail):p:=h
set_option maxHeartbeats 1000000 in
set_option maxRecDepth 20000 in
theorem den (a0:Edition) (hb0:bdEdition a0) (hp0:zzd a0=true):Den Tryz.prog 130 [.ep (eEdition a0)] (.str (zme a0)):=by
 generalize hR:zme a0=r
 unfold zme at hR
 refine di Tryz.func130 Tryz.ntmps130 Tryz.results130 ?_
 intro c hL hc hk
 obtain⟨hL0,_⟩:=hL
 have hw0:bwEdition a0:=ydb a0 hL0
 clear hL0
 simp only[pars,Nat.zero_add]
 have h9:=yiv hp0
 have hon:=y8f h9.2.2.2.2.2
 have l1:=y0b a0.Number (by omega) (by omega)
 have l2:=ysx a0.Day (by omega) (by omega)
 have l3:=y0b (a0.Aids.length:Int) (by omega) (by omega)
 have hbe:∀ i:Nat,bdAid (a0.Aids.getD i default):=fun i=>ybd hb0.2 (by decide) i
 have hbl:a0.Aids.length<1099511627776:=hb0.1
 have hbv:∀ v∈a0.Aids,bdAid v:=hb0.2
 refine rS ?_
 refine rD 22 ?_
 refine rS ?_
 refine AWP.block ?_
 refine AWP.lensS 22 rfl (fun hLn1 => ?_)
 generalize hz1:yf (y8m a0) (a0.Aids.length-0) 0 (((((([101,100,105,116,105,111,110,32]++(za a0.Number))++[32])++(zrb a0.Day))++[32])++(za (a0.Aids.length:Int)))++[10])=z1 at hR
 refine AWP.range (y8m a0) (fun i1 s1=>⟨[(0,.ep (eEdition a0)),(3,.str s1),(4,.int .i64 (i1:Int))],[]⟩) (fun i1 s1=>s1.length≤100000+400 * i1) (a0.Aids.length) 0 (((((([101,100,105,116,105,111,110,32]++(za a0.Number))++[32])++(zrb a0.Day))++[32])++(za (a0.Aids.length:Int)))++[10]) [] hz1 ot (by(simp only[List.length_append,List.length_cons,List.length_nil,List.length_singleton];omega)) sm ?_
 clear hz1
 intro i1 s1 hi1 hW1 hz1
 refine rS ?_
 refine AWP.cond rfl (fun hb => ?_) (fun hb => ?_)
 ·have hlt1:i1<a0.Aids.length:=ot
  rw[yh hlt1]at hz1;simp only[y8m]at hz1
  iterate 2 refine rS ?_
  exact⟨_,[],hlt1,by(have h8:=hon i1 (by assumption);have l4:=yce (hbe i1) h8;simp only[List.length_append,List.length_cons,List.length_nil,List.length_singleton];omega),hz1,sm⟩
 ·obtain rfl:i1=a0.Aids.length:=ot
  rw[yi (Nat.le_refl _)]at hz1;subst hz1;dsimp only at hR
  refine AWP.exit ?_;refine yb ?_
  refine rS ?_
  refine AWP.ret ?_
  subst hR
  exact es
end N130
def D_zme : DF
 | [x0]=>some (.str (zme (rdP yv x0)),false,[wP eEdition yv x0,bdEdition (rdP yv x0),zzd (rdP yv x0)=true])
 | _=>none
theorem y1x:OkD Tryz.prog 130 D_zme:=by unfold D_zme;exact dk N130.den
end Go.Ab

namespace Go.Ab
open Go Go.Proofs
def zne (a0:Edition):((List UInt8)×Int):=
 (bif (!(zzd a0))then([],1)else((zme a0),0))
namespace N49
theorem DD:DOk Tryz.prog (Go.Ab.DD [(129,dP D_zzd),(130,dP D_zme)]):=ya yf1.e <| ya y1x.e <| yd _
theorem dn:type_of% (And.intro @D_zzd.eq_1 <| @D_zme.eq_1):=by and_intros<;>intros<;>rfl
theorem o0 {p:Prop} (h:p:=by(first|(have q9 := ‹(!zzd a0)=false›;have q8:zzd a0=true:=(by simpa using q9);(repeat' with_reducible apply And.intro)<;>first|exact q8|assumption|omega));first|done|fail):p:=h
theorem den (a0:Edition) (hb0:bdEdition a0):Den Tryz.prog 49 [.agg (eEdition a0)] (.tup [.str ((zne a0).1),.int .i64 ((zne a0).2)]):=by
 generalize hR:zne a0=r
 unfold zne at hR
 refine di Tryz.func49 Tryz.ntmps49 Tryz.results49 ?_
 intro c hL hc hk
 obtain⟨hL0,_⟩:=hL
 have hw0:bwEdition a0:=ydb a0 hL0
 clear hL0
 simp only[pars,Nat.zero_add]
 iterate 2 refine rS ?_
 refine AWP.cond rfl (fun hb => ?_) (fun hb => ?_)
 ·replace hR:=ct hR
  refine rS ?_
  refine AWP.ret ?_
  subst hR
  exact es
 ·replace hR:=cf hR
  refine rS ?_
  refine AWP.ret ?_
  subst hR
  exact es
end N49
def D_zne : DF
 | [x0]=>some (.tup [.str ((zne (rdG yv x0)).1),.int .i64 ((zne (rdG yv x0)).2)],false,[wG eEdition yv x0,bdEdition (rdG yv x0)])
 | _=>none
theorem yds:OkD Tryz.prog 49 D_zne:=by unfold D_zne;exact dk N49.den
end Go.Ab

namespace Go.Ab
open Go Go.Proofs
def zfh (a0:Edition):Bool:=
 (bif decide ((zjd a0 1048576)<0)then true else(bif ((((zic (zsb a0)).1) != ((zne (zsb a0)).1)) || (((zic (zsb a0)).2) != ((zne (zsb a0)).2)))then false else(bif (!(zse (zsb a0) (zsb a0)))then false else true)))
namespace N7
theorem DD:DOk Tryz.prog (Go.Ab.DD [(48,dP D_zjd),(49,dP D_zne),(50,dP D_zsb),(51,dP D_zic),(52,dP D_zse)]):=ya y7r.e <| ya yds.e <| ya ysz.e <| ya yqr.e <| ya ytr.e <| yd _
theorem DZ:DOk Tryz.prog (Go.Ab.DD [(48,dP D_zjd),(49,dP D_zne),(50,dP Dz_zsb),(51,dP D_zic),(52,dP D_zse)]):=ya y7r.e <| ya yds.e <| ya yev.e <| ya yqr.e <| ya ytr.e <| yd _
theorem dn:type_of% (And.intro @D_zjd.eq_1 <| And.intro @D_zne.eq_1 <| And.intro @D_zsb.eq_1 <| And.intro @D_zic.eq_1 <| And.intro @D_zse.eq_1 <| @Dz_zsb.eq_1):=by and_intros<;>intros<;>rfl
theorem ol:type_of% (@yav):=@yav
theorem o1 {p:Prop} (h:p:=by(first|((try simp only[ol]);first|(have h9:=hG0 (by assumption);first|exact h9.2|exact h9.1|omega))|((try simp only[ol]);have h9:=(hG0 (by assumption)).2;first|exact h9.1|exact h9.2|exact h9.2.1.1|exact h9.2.1.2.1|exact h9.2.1.2.2|exact h9.2.2.1.1|exact h9.2.2.1.2.1|exact h9.2.2.1.2.2|exact h9.2.2.2.1|exact h9.2.2.2.2|omega)|((try simp only[ol]);have h9:=(hG0 (by assumption)).1;first|exact h9.1|omega));first|done|fail):p:=h
set_option maxHeartbeats 4000000 in
set_option maxRecDepth 20000 in
theorem _root_.Go.Ab.zfh_den (a0:Edition)  : Den Tryz.prog 7 [.agg (eEdition a0)] (.bool (zfh a0)):=by
 generalize hR:zfh a0=r
 unfold zfh at hR
 refine di Tryz.func7 Tryz.ntmps7 Tryz.results7 ?_
 intro c hL hc hk
 obtain⟨hL0,_⟩:=hL
 have hw0:bwEdition a0:=ydb a0 hL0
 clear hL0
 simp only[pars,Nat.zero_add]
 have hf0:=ycp a0 (1048576) (by omega) (by omega) hw0
 have hG0:decide (zjd a0 (1048576)<0)=false→yzi a0∧bdEdition a0:=fun h=>⟨hf0.2.2 (of_decide_eq_false h),y4o a0 (hf0.2.2 (of_decide_eq_false h))⟩
 iterate 4 refine rS ?_
 refine AWP.cond rfl (fun hb => ?_) (fun hb => ?_)
 ·replace hR:=ct hR
  refine rS ?_
  refine AWP.ret ?_
  subst hR
  exact es
 ·replace hR:=cf hR
  iterate 4 refine rS ?_
  refine AWP.cond rfl (fun hb => ?_) (fun hb => ?_)
  ·replace hR:=ct hR
   refine rS ?_
   refine AWP.ret ?_
   subst hR
   exact es
  ·replace hR:=cf hR
   refine rZ 3 ?_
   refine AWP.cond rfl (fun hb => ?_) (fun hb => ?_)
   ·replace hR:=ct hR
    refine rS ?_
    refine AWP.ret ?_
    subst hR
    exact es
   ·replace hR:=cf hR
    refine rS ?_
    refine AWP.ret ?_
    subst hR
    exact es
end N7
end Go.Ab

namespace Go.Ab
open Go Go.Proofs
theorem y6w (e:Edition) (hl:∀ v∈e.Aids,aidL v):zic e=zne e:=by
 unfold zic zne
 rw[yas hl]
 cases h:zzd e with
 | false=>rfl
 | true=>
  have hr:=yiv h
  have hd:∀ m:Int,0≤m→m≤99999→zd m=za m:=fun m a b=>by rw[ycf m (by omega) (by omega)];rfl
  simp only[Bool.not_true,cond_false]
  unfold zme zve
  have ej:∀ a b c d:List UInt8,zr [a,b,c,d] [32]=a++([32]++(b++([32]++(c++([32]++d))))):=fun a b c d=>yc3 a b c d [32]
  have hb:∀ j (u:List UInt8),j<e.Aids.length→yxi e j u=.ok (u++(zw (e.Aids.getD j default)++[10])):=fun j u hj=>by
   have h1:=y8f hr.2.2.2.2.2 j hj
   have hA:aidL (e.Aids.getD j default):=by
    rw[List.getD_eq_getElem?_getD,List.getElem?_eq_getElem hj]
    exact hl _ (List.getElem_mem hj)
   unfold yxi
   rw[(yae h1 hA.1).1]
  have l1:=yqc (yxi e) (fun j=>zw (e.Aids.getD j default)++[10]) e.Aids.length 0
  have l2:=yqc (y8m e) (fun j=>zw (e.Aids.getD j default)++[10]) e.Aids.length 0
  rw[Nat.sub_zero,l1 _ (fun j s _ hj=>hb j s (by omega)),l2 _ (fun j s _ hj=>rfl),ej,yej _ hr.2.2.1 hr.2.2.2.1,hd _ (by omega) (by omega),hd _ (by omega) (by omega)]
  simp only
  unfold zig
  have hs:([101,100,105,116,105,111,110]:List UInt8)++([32]++(za e.Number++([32]++(zrb e.Day++([32]++za (e.Aids.length:Int))))))++[10]=((((([101,100,105,116,105,111,110,32]++za e.Number)++[32])++zrb e.Day)++[32])++za (e.Aids.length:Int))++[10]:=by simp
  rw[hs,yb2]
  generalize ((((([101,100,105,116,105,111,110,32]++za e.Number)++[32])++zrb e.Day)++[32])++za (e.Aids.length:Int))++[10]++(List.range' 0 e.Aids.length).flatMap (fun j=>zw (e.Aids.getD j default)++[10])=t
  have hc:0≤zfb t 65535∧zfb t 65535≤65535:=y0s t
  rw[hd _ hc.1 (by omega)]
  simp
theorem yrj (a0:Edition) (hf:bwEdition a0):zfh a0=true:=by
 unfold zfh
 have f0:=ycp a0 1048576 (by omega) (by omega) hf
 by_cases c0:zjd a0 1048576<0
 ·rw[decide_eq_true c0];rfl
 rw[decide_eq_false c0]
 obtain⟨g0,g1⟩:=f0.2.2 c0
 simp only[yav,yp3]
 rw[y6w a0 (fun v h=>(yhx (hf.2 v h) (g1 v h)).1)]
 simp
end Go.Ab
