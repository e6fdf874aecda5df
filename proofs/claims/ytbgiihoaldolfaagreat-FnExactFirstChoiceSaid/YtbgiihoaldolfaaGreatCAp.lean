/- A part of a proof: walks of functions and lemmas of our own. No conditions. -/
import Derived.Test.YtbgiihoaldolfaaGreatCAl
import Derived.Test.YtbgiihoaldolfaaGreatCAn
import Derived.Handy
import Derived.WalkKit
import Derived.Lib.Walk
import Derived.Lib.SliceRun
import Derived.Lib.AppendZerosOnto
import Derived.Test.YtbgiihoaldolfaaGreatCAo
import Derived.Test.YtbgiihoaldolfaaGreatCAi
import Derived.Lib.ParseIntBTie
import Derived.Lib.ItoaNum
import Derived.Lib.Strings
import Derived.Lib.Join
set_option linter.unusedSectionVars false
set_option linter.unusedVariables false
set_option linter.unusedSimpArgs false
set_option maxHeartbeats 1000000
namespace Go.Ab
open Go Go.Proofs Go.RowKit Go.Lib Go.Shelf
set_option maxHeartbeats 2000000 in
set_option maxRecDepth 100000 in
theorem yxu (n:Nat) (w:World) (h0:0<n) (hb:n<=1099511627776):Calls Tryz.prog 142 #[.slice none 0 0,.int .i64 (n:Int)] w fun x w'=>∃ b' cap' cur',x=.returned (.slice (some ⟨b',0,none⟩) 0 cap')/\AppOut w w' 9 1 0 0 none [] [] b' cap' cur':=by
 obtain⟨i0,z,ET⟩:=ElT.mk' (tS:=121) (tE:=9) G_ok rfl rfl rfl (by decide);obtain⟨u0,inf0,zero0,size0,byt0,zs0,pos0,zone0⟩:=ET;have u3:Tryz.prog.underlying 3=some (.int .i64):=by kernel_rfl
 have h1:¬ ((n:Int)<0):=by omega
 have h2:wrap64 ((0:Int)-(0:Int))=0:=by unfold wrap64;omega
 have h3:wrap64 ((n:Int)-0)=(n:Int):=by unfold wrap64;omega
 have h4:(n:Int) > 0:=by omega
 have hold:(Builtin.firstCells i0.size 0 (.slice none 0 0)).run Tryz.prog w.drew=.ok #[] w.drew:=run_firstCells_none w.drew i0.size 0 0 0;have hbig:(0+n) * i0.bytes<=140737488355328:=by rw[byt0];omega
 have hrz:∀ ty,(Builtin.append_ #[121,3] ty #[.slice none 0 0,.int .i64 (n:Int)]).run Tryz.prog w =
   .ok (.slice (some ⟨w.heap.size,0,none⟩) (0+n) (grownCap w (0+n) 0 9)) (w.drew.alloc (.cells (#[]++Builtin.zeroCells z.cells n++Builtin.zeroCells z.cells (grownCap w (0+n) 0 9-(0+n))) 9)):=fun ty=>
  Lib.run_append_grow_zeros w 121 3 ty 9 i0 z .i64 .i64 u0 u3 inf0 zero0 none 0 0 [] hold n h0 (by omega) (by omega) (by omega) (by rw[byt0];omega) (growslice_fits (by omega) hbig)
 have hGn:0+n<=grownCap w (0+n) 0 9:=grownCap_ge w _ _ _;have hG63:grownCap w (0+n) 0 9<=maxLen:=grownCap_le_maxLen w (0+n) 0 9 (by unfold maxLen;omega);generalize grownCap w (0+n) 0 9=G at hrz hGn hG63;have hgz:G<=9223372036854775807:=by unfold maxLen at hG63;omega
 have fin:AppOut w (w.drew.alloc (.cells (#[]++Builtin.zeroCells z.cells n++Builtin.zeroCells z.cells (G-(0+n))) 9)) 9 1 0 0 none [] [] w.heap.size G (#[]++Builtin.zeroCells z.cells n++Builtin.zeroCells z.cells (G-(0+n))):=by
  refine⟨rfl,rfl,rfl,by show w.heap.size<=(w.heap.push _).size;rw[Array.size_push];omega,?_,heap_alloc_new w.drew _,?_,by omega,hG63,fun j hj=>by omega,fun j hj=>by omega,.inr rfl⟩
  ·intro k hk _
   show(w.heap.push _)[k]? = _;rw[Array.getElem?_push,if_neg (by omega)]
  ·simp only[Array.size_append,size_zeroCells,zs0,List.size_toArray,List.length_nil,Nat.zero_add]
   rw[<- Nat.add_mul];congr 1;omega
 clear hold hbig hG63;generalize (#[]++Builtin.zeroCells z.cells n++Builtin.zeroCells z.cells (G-(0+n)))=Z at hrz fin;go_enter Tryz.func142,Tryz.ntmps142
 go_wp2_with (at_builtin;refine Lib.wpList_append_run _ rfl _ _ _ _ rfl _ _ rfl rfl _ _ (hrz _) ?_)
 all_goals (go_ret;first|exact⟨_,_,_,rfl,fin⟩|exact⟨_,_,rfl,_,fin⟩)
set_option maxHeartbeats 2000000 in
set_option maxRecDepth 100000 in
theorem yht (w:World):Calls Tryz.prog 142 #[.slice none 0 0,.int .i64 0] w fun x w'=>x=.returned (.slice none 0 0)/\w'=w:=by
 go_enter Tryz.func142,Tryz.ntmps142
 go_wp2
 go_ret
 exact⟨rfl,rfl⟩
set_option maxHeartbeats 2000000 in
set_option maxRecDepth 100000 in
theorem yhv (n:Nat) (w:World) (h0:0<n) (hb:n<=1099511627776):Calls Tryz.prog 127 #[.slice none 0 0,.int .i64 (n:Int)] w fun x w'=>∃ b' cap' cur',x=.returned (.slice (some ⟨b',0,none⟩) 0 cap')/\AppOut w w' 112 2 0 0 none [] [] b' cap' cur':=by
 obtain⟨i0,z,ET⟩:=ElT.mk' (tS:=88) (tE:=112) G_ok rfl rfl rfl (by decide);obtain⟨u0,inf0,zero0,size0,byt0,zs0,pos0,zone0⟩:=ET;have u3:Tryz.prog.underlying 3=some (.int .i64):=by kernel_rfl
 have h1:¬ ((n:Int)<0):=by omega
 have h2:wrap64 ((0:Int)-(0:Int))=0:=by unfold wrap64;omega
 have h3:wrap64 ((n:Int)-0)=(n:Int):=by unfold wrap64;omega
 have h4:(n:Int) > 0:=by omega
 have hold:(Builtin.firstCells i0.size 0 (.slice none 0 0)).run Tryz.prog w.drew=.ok #[] w.drew:=run_firstCells_none w.drew i0.size 0 0 0;have hbig:(0+n) * i0.bytes<=140737488355328:=by rw[byt0];omega
 have hrz:∀ ty,(Builtin.append_ #[88,3] ty #[.slice none 0 0,.int .i64 (n:Int)]).run Tryz.prog w =
   .ok (.slice (some ⟨w.heap.size,0,none⟩) (0+n) (grownCap w (0+n) 0 112)) (w.drew.alloc (.cells (#[]++Builtin.zeroCells z.cells n++Builtin.zeroCells z.cells (grownCap w (0+n) 0 112-(0+n))) 112)):=fun ty=>
  Lib.run_append_grow_zeros w 88 3 ty 112 i0 z .i64 .i64 u0 u3 inf0 zero0 none 0 0 [] hold n h0 (by omega) (by omega) (by omega) (by rw[byt0];omega) (growslice_fits (by omega) hbig)
 have hGn:0+n<=grownCap w (0+n) 0 112:=grownCap_ge w _ _ _;have hG63:grownCap w (0+n) 0 112<=maxLen:=grownCap_le_maxLen w (0+n) 0 112 (by unfold maxLen;omega);generalize grownCap w (0+n) 0 112=G at hrz hGn hG63;have hgz:G<=9223372036854775807:=by unfold maxLen at hG63;omega
 have fin:AppOut w (w.drew.alloc (.cells (#[]++Builtin.zeroCells z.cells n++Builtin.zeroCells z.cells (G-(0+n))) 112)) 112 2 0 0 none [] [] w.heap.size G (#[]++Builtin.zeroCells z.cells n++Builtin.zeroCells z.cells (G-(0+n))):=by
  refine⟨rfl,rfl,rfl,by show w.heap.size<=(w.heap.push _).size;rw[Array.size_push];omega,?_,heap_alloc_new w.drew _,?_,by omega,hG63,fun j hj=>by omega,fun j hj=>by omega,.inr rfl⟩
  ·intro k hk _
   show(w.heap.push _)[k]? = _;rw[Array.getElem?_push,if_neg (by omega)]
  ·simp only[Array.size_append,size_zeroCells,zs0,List.size_toArray,List.length_nil,Nat.zero_add]
   rw[<- Nat.add_mul];congr 1;omega
 clear hold hbig hG63;generalize (#[]++Builtin.zeroCells z.cells n++Builtin.zeroCells z.cells (G-(0+n)))=Z at hrz fin;go_enter Tryz.func127,Tryz.ntmps127
 go_wp2_with (at_builtin;refine Lib.wpList_append_run _ rfl _ _ _ _ rfl _ _ rfl rfl _ _ (hrz _) ?_)
 all_goals (go_ret;first|exact⟨_,_,_,rfl,fin⟩|exact⟨_,_,rfl,_,fin⟩)
set_option maxHeartbeats 2000000 in
set_option maxRecDepth 100000 in
theorem y1s (w:World):Calls Tryz.prog 127 #[.slice none 0 0,.int .i64 0] w fun x w'=>x=.returned (.slice none 0 0)/\w'=w:=by
 go_enter Tryz.func127,Tryz.ntmps127
 go_wp2
 go_ret
 exact⟨rfl,rfl⟩
end Go.Ab
namespace Go.Ab
open Go Go.Proofs
def zed (a0:(List (List UInt8))) (a1:Int):(List (List UInt8)):=[]
theorem yn0 (n:Int) (h0:0<=n) (h1:n<=1099511627776):Den Tryz.prog 142 [.nils,.int .i64 n] (ownL 9 1 eS (zed [] n)):=by
 obtain⟨m,rfl⟩:∃ m:Nat,n=(m:Int):=⟨n.toNat,by omega⟩
 have vals:∀ {w:World} {M:Nat->Prop} {vs:List Value},RepL w M [.nils,.int .i64 (m:Int)] noMap vs []->vs=[.slice none 0 0,.int .i64 (m:Int)]:=by
  intro w M vs hr;simp only[RepL,Rep]at hr;obtain⟨u0,us0,f0,g0,rfl,_,⟨rfl,_⟩,u1,us1,f1,g1,rfl,_,⟨rfl,_⟩,rfl,_⟩:=hr;rfl
 by_cases hm:m=0
 ·subst hm
  refine Den.plain ⟨_,Tryz.func142,rfl,rfl⟩ (by simp[NoOwnL,NoOwn]) ?_;intro w M vs hI hr;rw[vals hr];refine(yht w).mono ?_;rintro x w' ⟨rfl,rfl⟩
  exact⟨_,rfl,Grow.refl _,fun M'=>by simp only[ownL,zed,Rep];first|exact .inl ⟨rfl,rfl,rfl⟩|simp[emptyV]⟩
 ·refine Den.fresh (l:=(zed [] (m:Int))) ⟨_,Tryz.func142,rfl,rfl⟩ (by simp[NoOwnL,NoOwn]) (fun _=>[]) (fun w M i hi=>absurd hi (by show ¬ i<0;omega)) ?_
  intro w M vs hI hr;rw[vals hr];exact yxu m w (by omega) (by omega)
def D_zed : DF
 | [.nils,x1]=>some (ownL 9 1 eS (zed [] (rdI x1)),false,[wI .i64 x1,0<=rdI x1,rdI x1<=1099511627776])
 | _=>none
theorem yww:OkD Tryz.prog 142 D_zed:=by
 intro xs r z ob h ho;unfold D_zed at h;split at h
 ·simp only[Option.some.injEq,Prod.mk.injEq]at h
  obtain⟨rfl,rfl,rfl⟩:=h;obtain⟨h0,hp0,hp1,_⟩:=ho;exact Den.sim (yn0 _ hp0 hp1) (y5 (yoc _) <| y5 (y8e h0).1 <| trivial) (y7 rfl <| y7 (y8e h0).2 <| rfl) rfl
 ·cases h
def y1o (a0:(List (List (List UInt8)))) (i1:Nat) (s1:Int):Except ((List (List UInt8))) (Int):=
 .ok (IntKind.wrap .i64 (s1+((a0.getD i1 default).length:Int)))
def yin (a0:(List (List (List UInt8)))) (s1:Int) (i2:Nat) (s2:List (List UInt8)):Except ((List (List UInt8))) (List (List UInt8)):=
 .ok (s2++(a0.getD i2 default))
def zvb (a0:(List (List (List UInt8)))):(List (List UInt8)):=
 (match ye (y1o a0) (a0.length-0) 0 0 with|.error e=>e|.ok s1=>(match ye (yin a0 s1) (a0.length-0) 0 (zed [] s1)with|.error e=>e|.ok s2=>s2))
namespace N139
theorem DD:DOk Tryz.prog (Go.Ab.DD [(142,dP D_zed)]):=yd yww.e <| yj _
theorem dn:type_of% (@D_zed.eq_1):=by and_intros<;>intros<;>rfl
theorem den (a0:(List (List (List UInt8)))) (hp0:∀ v∈a0,v.length<=1048576) (hp1:a0.length<=2):Den Tryz.prog 139 [encL 1 eLS a0] (ownL 9 1 eS (zvb a0)):=by
 generalize hR:zvb a0=r;unfold zvb at hR;refine di Tryz.func139 Tryz.ntmps139 Tryz.results139 ?_;intro c hL hc hk;obtain⟨hL0,_⟩:=hL;have hw0:a0.length<9223372036854775808:=Nat.lt_succ_of_le (yc hL0).1;have hw1:∀ v∈a0,bwLS v:=fun v hv=>y8z v ((yc hL0).2 v hv)
 clear hL0;simp only[pars,Nat.zero_add];have hgd:=fun(i:Nat) (hi:i<a0.length)=>hp0 _ (yz hi)
 iterate 3 refine rS ?_
 refine AWP.block ?_;generalize hz1:ye (y1o a0) (a0.length-0) 0 0=z1 at hR;refine AWP.range (y1o a0) (fun i1 s1=>⟨[(0,encL 1 eLS a0),(3,.int .i64 s1),(9,encL 1 eLS a0),(10,.int .i64 (a0.length:Int)),(11,.int .i64 (i1:Int))],[]⟩) (fun i1 s1=>0<=s1/\s1<=1048576 * i1) (a0.length) 0 0 [] hz1 ot (by(exact⟨Int.le_refl _,Int.le_refl _⟩)) sm ?_;clear hz1;intro i1 s1 hi1 hW1 hz1;refine rS ?_;refine AWP.seq ?_;refine AWP.cond rfl (fun hb => ?_) (fun hb => ?_)
 ·have hlt1:i1<a0.length:=ot
  rw[yg hlt1]at hz1;simp only[y1o]at hz1;iterate 3 refine rS ?_
  refine AWP.cond rfl (fun hb => ?_) (fun hb => ?_)
  ·exfalso;have hb:=of_decide_eq_true hb;have hv:=hgd i1 hlt1;rw[IntKind.wrap_i64]at hb;have h9:=hW1;omega
  ·refine rS ?_
   exact⟨_,[],hlt1,by(have hv:=hgd i1 (by assumption);refine⟨?_,?_⟩<;>(rw[IntKind.wrap_i64];have h9:=hW1;omega)),hz1,sm⟩
 ·obtain rfl:i1=a0.length:=ot
  rw[yh (Nat.le_refl _)]at hz1;subst hz1;dsimp only at hR;refine AWP.exit ?_;refine yb ?_;iterate 2 refine rS ?_
  refine AWP.block ?_;generalize hz2:ye (yin a0 s1) (a0.length-0) 0 (zed [] s1)=z2 at hR;refine AWP.range (yin a0 s1) (fun i2 s2=>⟨[(6,.ref 0 1 0 s2.length),(25,encL 1 eLS a0),(26,.int .i64 (a0.length:Int)),(27,.int .i64 (i2:Int))],[.arr 9 1 s2.length (fun j=>eS (s2.getD j default))]⟩) (fun i2 s2=>s2.length<=1048576 * i2) (a0.length) 0 (zed [] s1) [0] hz2 ot (by(exact Nat.zero_le _)) sm ?_;clear hz2;intro i2 s2 hi2 hW2 hz2;refine rS ?_;refine AWP.seq ?_;refine AWP.cond rfl (fun hb => ?_) (fun hb => ?_)
  ·have hlt2:i2<a0.length:=ot
   rw[yg hlt2]at hz2;simp only[yin]at hz2;iterate 3 refine rS ?_
   exact⟨_,[1],hlt2,by(have hv:=hgd i2 (by assumption);have h9:=hW2;simp only[List.length_append];omega),hz2,sm⟩
  ·obtain rfl:i2=a0.length:=ot
   rw[yh (Nat.le_refl _)]at hz2;subst hz2;dsimp only at hR;refine AWP.exit ?_;refine yb ?_;refine rS ?_;refine AWP.ret ?_;subst hR;exact es
end N139
def D_zvb : DF
 | [x0]=>some (ownL 9 1 eS (zvb (rdL dLS x0)),false,[wL 1 eLS dLS x0,∀ v∈(rdL dLS x0),v.length<=1048576,(rdL dLS x0).length<=2])
 | _=>none
theorem yhy:OkD Tryz.prog 139 D_zvb:=by unfold D_zvb;exact dk N139.den
theorem yuq {α:Type} [Inhabited α] (l:List α) (e:Nat) (enc:α->List AV) (lo n:Nat):simOL [.sl none e n fun i=>enc (l.getD (lo+i) default)] [.sl none e (subL l lo n).length fun i=>enc ((subL l lo n).getD i default)]:=by
 rw[yqb];refine⟨⟨rfl,rfl,rfl,fun i hi => ?_⟩,trivial⟩;show simOL (enc (l.getD (lo+i) default)) (enc ((subL l lo n).getD i default));rw[yse _ _ _ _ hi];exact yp _
theorem y8r {α:Type} [Inhabited α] (l:List α) (e:Nat) (enc:α->List AV) (n:Nat):simOL [.sl none e n fun i=>enc (l.getD i default)] [.sl none e (subL l 0 n).length fun i=>enc ((subL l 0 n).getD i default)]:=by
 have h:=yuq l e enc 0 n;simpa only[Nat.zero_add]using h
def zqd (a0:(List UInt8)):Bool:=
 (a0 != a0)
namespace N143
theorem DD:DOk Tryz.prog (Go.Ab.DD []):=yj _
theorem den (a0:(List UInt8))  : Den Tryz.prog 143 [.str a0] (.bool (zqd a0)):=by
 generalize hR:zqd a0=r;unfold zqd at hR;refine di Tryz.func143 Tryz.ntmps143 Tryz.results143 ?_;intro c hL hc hk;obtain⟨hL0,_⟩:=hL;have hw0:a0.length<9223372036854775808:=Nat.lt_succ_of_le hL0;clear hL0;simp only[pars,Nat.zero_add];iterate 2 refine rS ?_
 refine AWP.ret ?_;subst hR;exact es
end N143
def D_zqd : DF
 | [x0]=>some (.bool (zqd (rdS x0)),false,[wS x0])
 | _=>none
theorem y8w:OkD Tryz.prog 143 D_zqd:=by unfold D_zqd;exact dk N143.den
def zrd (a0:(List UInt8)) (a1:(List UInt8)):Int:=
 (bif (zqd a0)then(bif (zqd a1)then 0 else(-1))else(bif (zqd a1)then 1 else(bif Op.bytesLess a0 a1 then(-1)else(bif !(Op.bytesLess a0 a1 || a0 == a1)then 1 else 0))))
namespace N140
theorem DD:DOk Tryz.prog (Go.Ab.DD [(143,dP D_zqd)]):=yd y8w.e <| yj _
theorem dn:type_of% (@D_zqd.eq_1):=by and_intros<;>intros<;>rfl
theorem den (a0:(List UInt8)) (a1:(List UInt8))  : Den Tryz.prog 140 [.str a0,.str a1] (.int .i64 (zrd a0 a1)):=by
 generalize hR:zrd a0 a1=r;unfold zrd at hR;refine di Tryz.func140 Tryz.ntmps140 Tryz.results140 ?_;intro c hL hc hk;obtain⟨hL0,hL1,_⟩:=hL;have hw0:a0.length<9223372036854775808:=Nat.lt_succ_of_le hL0;have hw1:a1.length<9223372036854775808:=Nat.lt_succ_of_le hL1;clear hL0 hL1;simp only[pars,Nat.zero_add];iterate 4 refine rS ?_
 refine AWP.cond rfl (fun hb => ?_) (fun hb => ?_)
 ·replace hR:=ct hR
  refine rS ?_;refine AWP.cond rfl (fun hb => ?_) (fun hb => ?_)
  ·replace hR:=ct hR
   refine rS ?_;refine AWP.ret ?_;subst hR;exact es
  ·replace hR:=cf hR
   refine rS ?_;refine AWP.ret ?_;subst hR;exact es
 ·replace hR:=cf hR
  refine rS ?_;refine AWP.cond rfl (fun hb => ?_) (fun hb => ?_)
  ·replace hR:=ct hR
   refine rS ?_;refine AWP.ret ?_;subst hR;exact es
  ·replace hR:=cf hR
   refine rS ?_;refine AWP.cond rfl (fun hb => ?_) (fun hb => ?_)
   ·replace hR:=ct hR
    refine rS ?_;refine AWP.ret ?_;subst hR;exact es
   ·replace hR:=cf hR
    refine rS ?_;refine AWP.cond rfl (fun hb => ?_) (fun hb => ?_)
    ·replace hR:=ct hR
     refine rS ?_;refine AWP.ret ?_;subst hR;exact es
    ·replace hR:=cf hR
     refine rS ?_;refine AWP.ret ?_;subst hR;exact es
end N140
def D_zrd : DF
 | [x0,x1]=>some (.int .i64 (zrd (rdS x0) (rdS x1)),false,[wS x0,wS x1])
 | _=>none
theorem yvw:OkD Tryz.prog 140 D_zrd:=by unfold D_zrd;exact dk N140.den
def y9i (a0:(List (List UInt8))) (a1:(List (List UInt8))) (i1:Nat) (s1:Unit):Except (Int) (Unit):=
 (bif decide ((a1.length:Int)<=(i1:Int))then .error 1 else(bif ((zrd (a0.getD i1 default) (a1.getD i1 default)) != 0)then .error (zrd (a0.getD i1 default) (a1.getD i1 default))else .ok ()))
def zzb (a0:(List (List UInt8))) (a1:(List (List UInt8))):Int:=
 (match ye (y9i a0 a1) (a0.length-0) 0 ()with|.error e=>e|.ok s1=>(bif decide ((a0.length:Int)<(a1.length:Int))then(-1)else 0))
namespace N126
theorem DD:DOk Tryz.prog (Go.Ab.DD [(140,dP D_zrd)]):=yd yvw.e <| yj _
theorem dn:type_of% (@D_zrd.eq_1):=by and_intros<;>intros<;>rfl
theorem den (a0:(List (List UInt8))) (a1:(List (List UInt8)))  : Den Tryz.prog 126 [encL 1 eS a0,encL 1 eS a1] (.int .i64 (zzb a0 a1)):=by
 generalize hR:zzb a0 a1=r;unfold zzb at hR;refine di Tryz.func126 Tryz.ntmps126 Tryz.results126 ?_;intro c hL hc hk;obtain⟨hL0,hL1,_⟩:=hL;have hw0:a0.length<9223372036854775808:=Nat.lt_succ_of_le (yc hL0).1;have hw1:∀ v∈a0,bwS v:=fun v hv=>ykl v ((yc hL0).2 v hv)
 have hw2:a1.length<9223372036854775808:=Nat.lt_succ_of_le (yc hL1).1;have hw3:∀ v∈a1,bwS v:=fun v hv=>ykl v ((yc hL1).2 v hv)
 clear hL0 hL1;simp only[pars,Nat.zero_add];iterate 2 refine rS ?_
 refine AWP.block ?_;generalize hz1:ye (y9i a0 a1) (a0.length-0) 0 ()=z1 at hR;refine AWP.range (y9i a0 a1) (fun i1 s1=>⟨[(0,encL 1 eS a0),(1,encL 1 eS a1),(9,encL 1 eS a0),(10,.int .i64 (a0.length:Int)),(11,.int .i64 (i1:Int))],[]⟩) (fun i1 s1=>True) (a0.length) 0 () [] hz1 ot wt sm ?_;clear hz1;intro i1 s1 hi1 hW1 hz1;refine rS ?_;refine AWP.seq ?_;refine AWP.cond rfl (fun hb => ?_) (fun hb => ?_)
 ·have hlt1:i1<a0.length:=ot
  rw[yg hlt1]at hz1;simp only[y9i]at hz1;iterate 2 refine rS ?_
  refine AWP.cond rfl (fun hb => ?_) (fun hb => ?_)
  ·simp only[hb,cond_true]at hz1
   refine rS ?_;refine AWP.ret ?_;subst hz1;dsimp only at hR;subst hR;exact es
  ·simp only[hb,cond_false]at hz1
   iterate 3 refine rS ?_
   refine AWP.cond rfl (fun hb => ?_) (fun hb => ?_)
   ·simp only[hb,cond_true]at hz1
    refine rS ?_;refine AWP.ret ?_;subst hz1;dsimp only at hR;subst hR;exact es
   ·simp only[hb,cond_false]at hz1
    refine rS ?_;exact⟨_,[],hlt1,wt,hz1,sm⟩
 ·obtain rfl:i1=a0.length:=ot
  rw[yh (Nat.le_refl _)]at hz1;subst hz1;dsimp only at hR;refine AWP.exit ?_;refine yb ?_;refine rS ?_;refine AWP.cond rfl (fun hb => ?_) (fun hb => ?_)
  ·replace hR:=ct hR
   refine rS ?_;refine AWP.ret ?_;subst hR;exact es
  ·replace hR:=cf hR
   refine rS ?_;refine AWP.ret ?_;subst hR;exact es
end N126
def D_zzb : DF
 | [x0,x1]=>some (.int .i64 (zzb (rdL dS x0) (rdL dS x1)),false,[wL 1 eS dS x0,wL 1 eS dS x1])
 | _=>none
theorem y8x:OkD Tryz.prog 126 D_zzb:=by unfold D_zzb;exact dk N126.den
def zfd (a0:(List Phase)) (a1:Int):(List Phase):=[]
theorem ya0 (n:Int) (h0:0<=n) (h1:n<=1099511627776):Den Tryz.prog 127 [.nils,.int .i64 n] (ownL 112 2 yn (zfd [] n)):=by
 obtain⟨m,rfl⟩:∃ m:Nat,n=(m:Int):=⟨n.toNat,by omega⟩
 have vals:∀ {w:World} {M:Nat->Prop} {vs:List Value},RepL w M [.nils,.int .i64 (m:Int)] noMap vs []->vs=[.slice none 0 0,.int .i64 (m:Int)]:=by
  intro w M vs hr;simp only[RepL,Rep]at hr;obtain⟨u0,us0,f0,g0,rfl,_,⟨rfl,_⟩,u1,us1,f1,g1,rfl,_,⟨rfl,_⟩,rfl,_⟩:=hr;rfl
 by_cases hm:m=0
 ·subst hm
  refine Den.plain ⟨_,Tryz.func127,rfl,rfl⟩ (by simp[NoOwnL,NoOwn]) ?_;intro w M vs hI hr;rw[vals hr];refine(y1s w).mono ?_;rintro x w' ⟨rfl,rfl⟩
  exact⟨_,rfl,Grow.refl _,fun M'=>by simp only[ownL,zfd,Rep];first|exact .inl ⟨rfl,rfl,rfl⟩|simp[emptyV]⟩
 ·refine Den.fresh (l:=(zfd [] (m:Int))) ⟨_,Tryz.func127,rfl,rfl⟩ (by simp[NoOwnL,NoOwn]) (fun _=>[]) (fun w M i hi=>absurd hi (by show ¬ i<0;omega)) ?_
  intro w M vs hI hr;rw[vals hr];exact yhv m w (by omega) (by omega)
def D_zfd : DF
 | [.nils,x1]=>some (ownL 112 2 yn (zfd [] (rdI x1)),false,[wI .i64 x1,0<=rdI x1,rdI x1<=1099511627776])
 | _=>none
theorem y5y:OkD Tryz.prog 127 D_zfd:=by
 intro xs r z ob h ho;unfold D_zfd at h;split at h
 ·simp only[Option.some.injEq,Prod.mk.injEq]at h
  obtain⟨rfl,rfl,rfl⟩:=h;obtain⟨h0,hp0,hp1,_⟩:=ho;exact Den.sim (ya0 _ hp0 hp1) (y5 (yoc _) <| y5 (y8e h0).1 <| trivial) (y7 rfl <| y7 (y8e h0).2 <| rfl) rfl
 ·cases h
def yyn (a0:(List (List Phase))) (i1:Nat) (s1:Int):Except ((List Phase)) (Int):=
 .ok (IntKind.wrap .i64 (s1+((a0.getD i1 default).length:Int)))
def y3o (a0:(List (List Phase))) (s1:Int) (i2:Nat) (s2:List Phase):Except ((List Phase)) (List Phase):=
 .ok (s2++(a0.getD i2 default))
def zpb (a0:(List (List Phase))):(List Phase):=
 (match ye (yyn a0) (a0.length-0) 0 0 with|.error e=>e|.ok s1=>(match ye (y3o a0 s1) (a0.length-0) 0 (zfd [] s1)with|.error e=>e|.ok s2=>s2))
namespace N106
theorem DD:DOk Tryz.prog (Go.Ab.DD [(127,dP D_zfd)]):=yd y5y.e <| yj _
theorem dn:type_of% (@D_zfd.eq_1):=by and_intros<;>intros<;>rfl
theorem den (a0:(List (List Phase))) (hp0:∀ v∈a0,v.length<=1048576) (hp1:a0.length<=2):Den Tryz.prog 106 [encL 1 y7f a0] (ownL 112 2 yn (zpb a0)):=by
 generalize hR:zpb a0=r;unfold zpb at hR;refine di Tryz.func106 Tryz.ntmps106 Tryz.results106 ?_;intro c hL hc hk;obtain⟨hL0,_⟩:=hL;have hw0:a0.length<9223372036854775808:=Nat.lt_succ_of_le (yc hL0).1;have hw1:∀ v∈a0,bwLPhase v:=fun v hv=>ypp v ((yc hL0).2 v hv)
 clear hL0;simp only[pars,Nat.zero_add];have hgd:=fun(i:Nat) (hi:i<a0.length)=>hp0 _ (yz hi)
 iterate 3 refine rS ?_
 refine AWP.block ?_;generalize hz1:ye (yyn a0) (a0.length-0) 0 0=z1 at hR;refine AWP.range (yyn a0) (fun i1 s1=>⟨[(0,encL 1 y7f a0),(3,.int .i64 s1),(9,encL 1 y7f a0),(10,.int .i64 (a0.length:Int)),(11,.int .i64 (i1:Int))],[]⟩) (fun i1 s1=>0<=s1/\s1<=1048576 * i1) (a0.length) 0 0 [] hz1 ot (by(exact⟨Int.le_refl _,Int.le_refl _⟩)) sm ?_;clear hz1;intro i1 s1 hi1 hW1 hz1;refine rS ?_;refine AWP.seq ?_;refine AWP.cond rfl (fun hb => ?_) (fun hb => ?_)
 ·have hlt1:i1<a0.length:=ot
  rw[yg hlt1]at hz1;simp only[yyn]at hz1;iterate 3 refine rS ?_
  refine AWP.cond rfl (fun hb => ?_) (fun hb => ?_)
  ·exfalso;have hb:=of_decide_eq_true hb;have hv:=hgd i1 hlt1;rw[IntKind.wrap_i64]at hb;have h9:=hW1;omega
  ·refine rS ?_
   exact⟨_,[],hlt1,by(have hv:=hgd i1 (by assumption);refine⟨?_,?_⟩<;>(rw[IntKind.wrap_i64];have h9:=hW1;omega)),hz1,sm⟩
 ·obtain rfl:i1=a0.length:=ot
  rw[yh (Nat.le_refl _)]at hz1;subst hz1;dsimp only at hR;refine AWP.exit ?_;refine yb ?_;iterate 2 refine rS ?_
  refine AWP.block ?_;generalize hz2:ye (y3o a0 s1) (a0.length-0) 0 (zfd [] s1)=z2 at hR;refine AWP.range (y3o a0 s1) (fun i2 s2=>⟨[(6,.ref 0 2 0 s2.length),(25,encL 1 y7f a0),(26,.int .i64 (a0.length:Int)),(27,.int .i64 (i2:Int))],[.arr 112 2 s2.length (fun j=>yn (s2.getD j default))]⟩) (fun i2 s2=>s2.length<=1048576 * i2) (a0.length) 0 (zfd [] s1) [0] hz2 ot (by(exact Nat.zero_le _)) sm ?_;clear hz2;intro i2 s2 hi2 hW2 hz2;refine rS ?_;refine AWP.seq ?_;refine AWP.cond rfl (fun hb => ?_) (fun hb => ?_)
  ·have hlt2:i2<a0.length:=ot
   rw[yg hlt2]at hz2;simp only[y3o]at hz2;iterate 3 refine rS ?_
   exact⟨_,[1],hlt2,by(have hv:=hgd i2 (by assumption);have h9:=hW2;simp only[List.length_append];omega),hz2,sm⟩
  ·obtain rfl:i2=a0.length:=ot
   rw[yh (Nat.le_refl _)]at hz2;subst hz2;dsimp only at hR;refine AWP.exit ?_;refine yb ?_;refine rS ?_;refine AWP.ret ?_;subst hR;exact es
end N106
def D_zpb : DF
 | [x0]=>some (ownL 112 2 yn (zpb (rdL y3b x0)),false,[wL 1 y7f y3b x0,∀ v∈(rdL y3b x0),v.length<=1048576,(rdL y3b x0).length<=2])
 | _=>none
theorem ypy:OkD Tryz.prog 106 D_zpb:=by unfold D_zpb;exact dk N106.den
end Go.Ab
namespace Go.Ab
open Go
def y0c:List (List UInt8):=[[46,45],[45,46,46,46],[45,46,45,46],[45,46,46],[46],[46,46,45,46],[45,45,46],[46,46,46,46],[46,46],[46,45,45,45],[45,46,45],[46,45,46,46],[45,45],[45,46],[45,45,45],[46,45,45,46],[45,45,46,45],[46,45,46],[46,46,46],[45],[46,46,45],[46,46,46,45],[46,45,45],[45,46,46,45],[45,46,45,45],[45,45,46,46]]
theorem y5g:∀ x∈y0c,1<=x.length/\x.length<=4/\∀ c∈x,c=45\/c=46:=by decide
theorem yxj (n:Nat):(y0c.getD n default).length<=4:=by
 rw[List.getD_eq_getElem?_getD]
 cases h:y0c[n]? with
 | none=>show(0:Nat)<=4;omega
 | some x=>exact(y5g x (List.mem_of_getElem? h)).2.1
theorem y3x (n:Nat):(([[46,45],[45,46,46,46],[45,46,45,46],[45,46,46],[46],[46,46,45,46],[45,45,46],[46,46,46,46],[46,46],[46,45,45,45],[45,46,45],[46,45,46,46],[45,45],[45,46],[45,45,45],[46,45,45,46],[45,45,46,45],[46,45,46],[46,46,46],[45],[46,46,45],[46,46,46,45],[46,45,45],[45,46,46,45],[45,46,45,45],[45,45,46,46]]:List (List UInt8)).getD n default).length<=4:=yxj n
theorem yjh (a:List UInt8) (c:UInt8) (h:a.length=1):Op.bytesLess a [c]=decide ((a.getD 0 0).toNat<c.toNat):=by
 obtain⟨x,rfl⟩:=List.length_eq_one_iff.1 h;simp only[Op.bytesLess,Bool.and_false,Bool.or_false,List.getD_cons_zero];rfl
theorem y4t (a:List UInt8) (c:UInt8) (h:a.length=1):(a == [c])=decide ((a.getD 0 0).toNat=c.toNat):=by
 obtain⟨x,rfl⟩:=List.length_eq_one_iff.1 h;apply Bool.eq_iff_iff.2;simp[UInt8.toNat_inj]
theorem ygj (n:Int) (h1:0<=n) (h2:n<256):IntKind.wrap .u8 n=n:=by
 have:IntKind.wrap .u8 n=n % 256:=rfl;rw[this];omega
theorem ymy (a:List UInt8) (h:((a.length:Int)=1/\Op.bytesLess a [65]=false)/\(Op.bytesLess a [90]=true\/(a == [90])=true)) :
  0<=IntKind.wrap .u8 (((a.getD 0 0).toNat:Int)-65)/\IntKind.wrap .u8 (((a.getD 0 0).toNat:Int)-65)<26/\0<=IntKind.wrap .u8 (((a.getD 0 0).toNat:Int) + -65)/\IntKind.wrap .u8 (((a.getD 0 0).toNat:Int) + -65)<26:=by
 have h1:a.length=1:=by omega
 rw[yjh a 65 h1,yjh a 90 h1,y4t a 90 h1]at h;have e1:(65:UInt8).toNat=65:=rfl;have e2:(90:UInt8).toNat=90:=rfl;rw[e1,e2]at h;simp only[decide_eq_true_eq,decide_eq_false_iff_not]at h;have hx:65<=(a.getD 0 0).toNat/\(a.getD 0 0).toNat<=90:=by omega
 rw[ygj _ (by omega) (by omega),ygj _ (by omega) (by omega)];omega
def yvz (l:List UInt8):Prop:=∀ b∈l,48<=b.toNat/\b.toNat<=57
instance (l:List UInt8):Decidable (yvz l):=by unfold yvz;infer_instance
end Go.Ab
namespace Go.Ab
open Go Go.Proofs
theorem y4m {l:List Int} (h:∀ v∈l,v<=9) (i:Nat):l.getD i default<=9:=by
 rw[List.getD_eq_getElem?_getD]
 cases hg:l[i]? with
 | none=>show(0:Int)<=9;omega
 | some x=>have:=h x (List.mem_of_getElem? hg);simpa only[Option.getD_some]
end Go.Ab
namespace Go.Ab
open Go
theorem yvi (s:List Int) (a b:Int) (i:Nat) (hi:i<s.length+2):(bif i.blt s.length then[AV.int .i64 (s.getD i default)]else borrowL (elt [[AV.int .i64 a],[AV.int .i64 b]] (i-s.length)))=[AV.int .i64 ((s++[a,b]).getD i default)]:=by
 by_cases h:i<s.length
 ·have:i.blt s.length=true:=by rw[Nat.blt_eq];exact h
  rw[this];simp[List.getD_eq_getElem?_getD,List.getElem?_append_left h]
 ·have:i.blt s.length=false:=by rw[<- Bool.not_eq_true,Nat.blt_eq];exact h
  rw[this];rcases(show i=s.length\/i=s.length+1 by omega)with h1|h1
  ·subst h1
   simp[elt,borrowL,borrow,List.getD_eq_getElem?_getD]
  ·subst h1
   simp[elt,borrowL,borrow,List.getD_eq_getElem?_getD]
theorem ylm (s:List Int) (a:Int) (i:Nat) (hi:i<s.length+1):(bif i.blt s.length then[AV.int .i64 (s.getD i default)]else borrowL (elt [[AV.int .i64 a]] (i-s.length)))=[AV.int .i64 ((s++[a]).getD i default)]:=by
 by_cases h:i<s.length
 ·have:i.blt s.length=true:=by rw[Nat.blt_eq];exact h
  rw[this];simp[List.getD_eq_getElem?_getD,List.getElem?_append_left h]
 ·have:i.blt s.length=false:=by rw[<- Bool.not_eq_true,Nat.blt_eq];exact h
  rw[this];have h1:i=s.length:=by omega
  subst h1;simp[elt,borrowL,borrow,List.getD_eq_getElem?_getD]
theorem yao (s:List Int) (a b:Int) (i:Nat) (hi:i<s.length+1+1):(bif i.blt (s.length+1)then bif i.blt s.length then[AV.int .i64 (s.getD i default)]else borrowL (elt [[AV.int .i64 a]] (i-s.length))else borrowL (elt [[AV.int .i64 b]] (i-(s.length+1))))=[AV.int .i64 ((s++[a]++[b]).getD i default)]:=by
 by_cases h:i<s.length+1
 ·have:i.blt (s.length+1)=true:=by rw[Nat.blt_eq];exact h
  rw[this,cond_true];refine(ylm s a i h).trans ?_;rw[List.getD_eq_getElem?_getD,List.getD_eq_getElem?_getD,List.getElem?_append_left (l₁:=s++[a]) (l₂:=[b]) (by simpa using h)]
 ·have:i.blt (s.length+1)=false:=by rw[<- Bool.not_eq_true,Nat.blt_eq];exact h
  rw[this];have h1:i=s.length+1:=by omega
  subst h1;simp[elt,borrowL,borrow,List.getD_eq_getElem?_getD]
theorem y9m (s:List Int) (a b:Int) (i:Nat) (hi:i<s.length+2):(i.blt s.length || pureL (borrowL (elt [[AV.int .i64 a],[AV.int .i64 b]] (i-s.length))))=true:=by
 by_cases h:i<s.length
 ·have:i.blt s.length=true:=by rw[Nat.blt_eq];exact h
  rw[this];rfl
 ·rcases(show i-s.length=0\/i-s.length=1 by omega)with h1|h1<;>rw[h1]<;>simp[elt,borrowL,borrow,pureL,pureV]
end Go.Ab
namespace Go.Ab
open Go Go.Proofs
def y0l (a0:(List Int)) (a1:(List Int)) (i1:Nat) (s1:Unit):Except (Bool) (Unit):=
 (bif ((a0.getD i1 default) != (a1.getD i1 default))then .error false else .ok ())
def zrb (a0:(List Int)) (a1:(List Int)):Bool:=
 (bif ((a0.length:Int) != (a1.length:Int))then false else(match ye (y0l a0 a1) (a0.length-0) 0 ()with|.error e=>e|.ok s1=>true))
namespace N97
theorem DD:DOk Tryz.prog (Go.Ab.DD []):=yj _
theorem den (a0:(List Int)) (a1:(List Int))  : Den Tryz.prog 97 [encL 1 yi a0,encL 1 yi a1] (.bool (zrb a0 a1)):=by
 generalize hR:zrb a0 a1=r;unfold zrb at hR;refine di Tryz.func97 Tryz.ntmps97 Tryz.results97 ?_;intro c hL hc hk;obtain⟨hL0,hL1,_⟩:=hL;have hw0:a0.length<9223372036854775808:=Nat.lt_succ_of_le (yc hL0).1;have hw1:a1.length<9223372036854775808:=Nat.lt_succ_of_le (yc hL1).1;clear hL0 hL1;simp only[pars,Nat.zero_add];iterate 2 refine rS ?_
 refine AWP.cond rfl (fun hb => ?_) (fun hb => ?_)
 ·replace hR:=ct hR
  refine rS ?_;refine AWP.ret ?_;subst hR;exact es
 ·replace hR:=cf hR
  refine rS ?_;refine AWP.block ?_;generalize hz1:ye (y0l a0 a1) (a0.length-0) 0 ()=z1 at hR;refine AWP.range (y0l a0 a1) (fun i1 s1=>⟨[(0,encL 1 yi a0),(1,encL 1 yi a1),(12,.int .i64 (a0.length:Int)),(13,.int .i64 (i1:Int))],[]⟩) (fun i1 s1=>True) (a0.length) 0 () [] hz1 ot wt sm ?_;clear hz1;intro i1 s1 hi1 hW1 hz1;refine rS ?_;refine AWP.seq ?_;refine AWP.cond rfl (fun hb => ?_) (fun hb => ?_)
  ·have hlt1:i1<a0.length:=ot
   rw[yg hlt1]at hz1;simp only[y0l]at hz1;refine rS ?_;refine rD 8 ?_;refine AWP.cond rfl (fun hb => ?_) (fun hb => ?_)
   ·simp only[hb,cond_true]at hz1
    refine rS ?_;refine AWP.ret ?_;subst hz1;dsimp only at hR;subst hR;exact es
   ·simp only[hb,cond_false]at hz1
    refine rS ?_;exact⟨_,[],hlt1,wt,hz1,sm⟩
  ·obtain rfl:i1=a0.length:=ot
   rw[yh (Nat.le_refl _)]at hz1;subst hz1;dsimp only at hR;refine AWP.exit ?_;refine yb ?_;refine rS ?_;refine AWP.ret ?_;subst hR;exact es
end N97
def D_zrb : DF
 | [x0,x1]=>some (.bool (zrb (rdL ydb x0) (rdL ydb x1)),false,[wL 1 yi ydb x0,wL 1 yi ydb x1])
 | _=>none
theorem y7q:OkD Tryz.prog 97 D_zrb:=by unfold D_zrb;exact dk N97.den
def yan {α ρ σ : Type} (g : α -> σ -> Except ρ σ) : List α -> σ -> Except ρ σ
  | [],s=>.ok s
  | x :: t, s => match g x s with
    | .error r=>.error r
    | .ok s'=>yan g t s'
theorem yzs {α ρ σ : Type} (g : α -> σ -> Except ρ σ) (x : α) (t : List α) (s : σ) : yan g (x :: t) s = match g x s with
  | .error r=>.error r
  | .ok s'=>yan g t s':=rfl
theorem yvl {α ρ σ : Type} [Inhabited α] {b : Nat -> σ -> Except ρ σ} (g : α -> σ -> Except ρ σ) (l : List α) : ∀ (k i : Nat) (s : σ), i + k = l.length -> (∀ j u, i <= j -> j < l.length -> b j u = g (l.getD j default) u) -> ye b k i s = yan g (l.drop i) s
 | 0,i,s,h,_=>by rw[List.drop_eq_nil_of_le (by omega)];rfl
 | k+1,i,s,h,hb=>by
  have hi:i<l.length:=by omega
  rw[List.drop_eq_getElem_cons hi];simp only[ye,yan];rw[hb i s (Nat.le_refl _) hi,List.getD_eq_getElem?_getD,List.getElem?_eq_getElem hi,Option.getD_some]
  cases g l[i] s with
  | error r=>rfl
  | ok s'=>exact yvl g l k (i+1) s' (by omega) (fun j u h1 h2=>hb j u (by omega) h2)
theorem y3f {α ρ σ:Type} [Inhabited α] {b:Nat->σ->Except ρ σ} (g:α->σ->Except ρ σ) (l:List α) (s:σ) (hb:∀ j u,j<l.length->b j u=g (l.getD j default) u):ye b (l.length-0) 0 s=yan g l s:=by
 rw[yvl g l (l.length-0) 0 s (by omega) (fun j u _ h=>hb j u h),List.drop_zero]
def zcd (a0:(List UInt8)) (a1:Int):Int:=Go.Lib.indexByte a0 a1.toNat.toUInt8
theorem yt0 (a0:(List UInt8)) (a1:Int)  : Den Tryz.prog 95 [.str a0,.int .u8 a1] (.int .i64 (zcd a0 a1)):=by
 refine Den.plain ⟨_,Tryz.func95,rfl,rfl⟩ (by simp[NoOwnL,NoOwn]) ?_;intro w M vs hI hr;simp only[RepL]at hr;obtain⟨u0,us0,f0,g0,rfl,h0e,h0,u1,us1,f1,g1,rfl,h1e,h1,rfl,_⟩:=hr;have e0:=h0.val_str;have e1:=h1.val_int;subst e0 e1;refine(Any.strings_IndexByte Tryz.lays137 ⟨a0.toArray⟩ a1 w).mono ?_;rintro e w' ⟨rfl,rfl⟩
 exact⟨_,rfl,Grow.refl _,fun M'=>yrb _ _⟩
def D_zcd : DF
 | [x0,x1]=>some (.int .i64 (zcd (rdS x0) (rdI x1)),false,[wS x0,wI .u8 x1])
 | _=>none
theorem ycy:OkD Tryz.prog 95 D_zcd:=by
 intro xs r z ob h ho;unfold D_zcd at h;split at h
 ·simp only[Option.some.injEq,Prod.mk.injEq]at h
  obtain⟨rfl,rfl,rfl⟩:=h;obtain⟨h0,h1,_⟩:=ho;exact Den.sim (yt0 _ _ ) (y5 (ykh h0).1 <| y5 (y8e h1).1 <| trivial) (y7 (ykh h0).2 <| y7 (y8e h1).2 <| rfl) rfl
 ·cases h
end Go.Ab
namespace Go.Ab
open Go
theorem ywo {ρ α : Type} (b : Nat -> List α -> Except ρ (List α)) (f : Nat -> List α) : ∀ (n i : Nat) (s : List α), (∀ j s, i <= j -> j < i + n -> b j s = .ok (s ++ f j)) -> ye b n i s = .ok (s ++ (List.range' i n).flatMap f)
 | 0,i,s,_=>by simp[ye]
 | n+1,i,s,h=>by
  simp only[ye];rw[h i s (Nat.le_refl _) (by omega)];simp only;rw[ywo b f n (i+1) _ (fun j s h1 h2=>h j s (by omega) (by omega)),List.range'_succ,List.flatMap_cons,List.append_assoc]
theorem y9k {ρ σ:Type} {b b':Nat->σ->Except ρ σ} (n i:Nat) (s:σ) (h:∀ j u,i<=j->j<i+n->b j u=b' j u):ye b n i s=ye b' n i s:=loopR_congr0 n i s h
where
 loopR_congr0 {ρ σ:Type} {b b':Nat->σ->Except ρ σ}:∀ (n i:Nat) (s:σ),(∀ j u,i<=j->j<i+n->b j u=b' j u)->ye b n i s=ye b' n i s
 | 0,i,s,_=>rfl
 | n+1,i,s,h=>by
  simp only[ye];rw[h i s (Nat.le_refl _) (by omega)]
  cases b' i s with
  | error r=>rfl
  | ok t=>exact loopR_congr0 n (i+1) t (fun j u h1 h2=>h j u (by omega) (by omega))
theorem yyu {α β:Type} (l:List α) (d:α) (f:α->β):(List.range' 0 l.length).flatMap (fun j=>[f (l.getD j d)])=l.map f:=by
 rw[<- List.map_eq_flatMap];apply List.ext_getElem
 ·simp
 ·intro i h1 h2
  simp only[List.length_map]at h2;simp[List.getD_eq_getElem?_getD,h2]
end Go.Ab
namespace Go.Ab
open Go Go.Proofs
theorem ywu {l:List UInt8} (hl:l.length<1099511627776) (i:Nat):((l.take (IntKind.wrap .i64 ((i:Int)+1)).toNat).drop i).length<=1:=by
 rw[List.length_drop,List.length_take];by_cases h:i<l.length
 ·rw[show(IntKind.wrap .i64 ((i:Int)+1)).toNat=i+1 by rw[IntKind.wrap_i64];omega]
  omega
 ·omega
end Go.Ab
