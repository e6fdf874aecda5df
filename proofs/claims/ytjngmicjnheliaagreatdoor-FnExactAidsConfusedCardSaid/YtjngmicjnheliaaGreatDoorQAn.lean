/- A part of a proof: walks of functions and lemmas of our own. No conditions. -/
import Derived.Test.YtjngmicjnheliaaGreatDoorQAl
import Derived.Test.YtjngmicjnheliaaGreatDoorQAi
import Derived.Test.YtjngmicjnheliaaGreatDoorQAm
import Derived.Handy
import Derived.WalkKit
import Derived.Lib.Walk
import Derived.Lib.SliceRun
import Derived.Lib.AppendZerosOnto
import Derived.Shelf.Strings.Prefix
import Derived.Shelf.Strings.Search3
import Derived.Shelf.Strings.Cut
import Derived.Shelf.Small.Strs
import Derived.Shelf.Strings.Search1
import Derived.Shelf.Strings.Search2
import Derived.Shelf.LaysM
import Derived.Shelf.Strings.Shaped
import Derived.Shelf.Strings.Fields
import Derived.Shelf.Unicode.Latin
import Derived.Shelf.Unicode.Is16White
import Derived.Shelf.Unicode.IsSpaceAny
import Derived.Shelf.Unicode.Is16Any
import Derived.Shelf.Unicode.Is32Any
import Derived.Shelf.Unicode.ExclAny
import Derived.Test.YtjngmicjnheliaaGreatDoorProg
import Derived.Lib.ParseIntBTie
import Derived.Lib.ItoaNum
import Derived.Lib.Strings
set_option linter.unusedSectionVars false
set_option linter.unusedVariables false
set_option linter.unusedSimpArgs false
set_option maxHeartbeats 1000000
namespace Go.Ab
theorem ysb {α:Type} [Inhabited α] {l:List α} {i:Nat} (h:i<l.length):l.getD i default∈l:=by
 rw[List.getD_eq_getElem?_getD,List.getElem?_eq_getElem h];exact List.getElem_mem h
end Go.Ab
namespace Go.Ab
open Go Go.Proofs
def PhOk (p:List Phase):Prop:=1<=p.length/\p.length<=1000/\∀ v∈p,1<=v.Length/\v.Length<=1000/\v.Color.length<=1
theorem PhOk.at {p:List Phase} (h:PhOk p) {i:Nat} (hi:i<p.length):1<=(p.getD i default).Length/\(p.getD i default).Length<=1000/\(p.getD i default).Color.length<=1:=h.2.2 _ (ysb hi)
theorem yqi {a n:Int} (h0:0<=a) (hn:0<n):0<=a.tmod n/\a.tmod n<n/\(a.tmod n).toNat<n.toNat:=by
 have h1:=Int.tmod_nonneg n h0;have h2:=Int.tmod_lt_of_pos a hn;exact⟨h1,h2,by omega⟩
end Go.Ab
namespace Go.Ab
open Go
theorem y9e {ρ σ : Type} {b : σ -> Except ρ σ} (I : σ -> Prop) (Q : ρ -> Prop) (m : σ -> Nat) (h : ∀ s, I s -> (∃ t, b s = .ok t /\ I t /\ m t < m s) \/ ∃ e, b s = .error e /\ Q e) : ∀ (k : Nat) (s : σ), I s -> m s < k -> ∃ e, ync b k s = .error e /\ Q e
 | 0,s,_,hk=>by omega
 | k+1,s,hI,hk=>by
  rcases h s hI with⟨t,h1,h2,h3⟩|⟨e,h1,h2⟩
  ·obtain⟨e,h4,h5⟩:=y9e I Q m h k t h2 (by omega)
   exact⟨e,by simp only[ync,h1];exact h4,h5⟩
  ·exact⟨e,by simp only[ync,h1],h2⟩
end Go.Ab
namespace Go.Ab
open Go Go.Proofs
theorem y6g {α:Type} [Inhabited α] {l:List α} {x:α} {j:Nat} (h:j<l.length):(l++[x]).getD j default=l.getD j default:=by
 rw[List.getD_eq_getElem?_getD,List.getD_eq_getElem?_getD,List.getElem?_append_left h]
theorem ysh {α:Type} [Inhabited α] {l:List α} {x:α} {j:Nat} (h:¬ j<l.length) (h2:j<l.length+1):(l++[x]).getD j default=x:=by
 have:j=l.length:=by omega
 subst this;simp
theorem yhn {j n:Nat} (h:j<n):Nat.blt j n=true:=by
 cases hb:Nat.blt j n with
 | true=>rfl
 | false=>rw[<- Bool.not_eq_true,Nat.blt_eq]at hb;exact absurd h hb
theorem y0n {j n:Nat} (h:¬ j<n):Nat.blt j n=false:=by
 cases hb:Nat.blt j n with
 | true=>rw[Nat.blt_eq]at hb;exact absurd hb h
 | false=>rfl
theorem yyr {α:Type} [Inhabited α] (l:List α) (i:Nat) (b:α) (h:i<l.length):(l.set i b).getD i default=b:=by
 rw[List.getD_eq_getElem?_getD,List.getElem?_set_self h];rfl
theorem y0s {α:Type} [Inhabited α] (l:List α) (k i:Nat) (b:α) (h:i≠k):(l.set k b).getD i default=l.getD i default:=by
 rw[List.getD_eq_getElem?_getD,List.getElem?_set_ne (by omega), <- List.getD_eq_getElem?_getD]
end Go.Ab
namespace Go.Ab
open Go Go.Proofs Go.RowKit Go.Lib Go.Shelf
set_option maxHeartbeats 2000000 in
set_option maxRecDepth 100000 in
theorem y8q (n:Nat) (w:World) (h0:0<n) (hb:n<=1099511627776):Calls Tryz.prog 149 #[.slice none 0 0,.int .i64 (n:Int)] w fun x w'=>∃ b' cap' cur',x=.returned (.slice (some ⟨b',0,none⟩) 0 cap')/\AppOut w w' 9 1 0 0 none [] [] b' cap' cur':=by
 obtain⟨i0,z,ET⟩:=ElT.mk' (tS:=92) (tE:=9) G_ok rfl rfl rfl (by decide);obtain⟨u0,inf0,zero0,size0,byt0,zs0,pos0,zone0⟩:=ET;have u3:Tryz.prog.underlying 3=some (.int .i64):=by kernel_rfl
 have h1:¬ ((n:Int)<0):=by omega
 have h2:wrap64 ((0:Int)-(0:Int))=0:=by unfold wrap64;omega
 have h3:wrap64 ((n:Int)-0)=(n:Int):=by unfold wrap64;omega
 have h4:(n:Int) > 0:=by omega
 have hold:(Builtin.firstCells i0.size 0 (.slice none 0 0)).run Tryz.prog w.drew=.ok #[] w.drew:=run_firstCells_none w.drew i0.size 0 0 0;have hbig:(0+n) * i0.bytes<=140737488355328:=by rw[byt0];omega
 have hrz:∀ ty,(Builtin.append_ #[92,3] ty #[.slice none 0 0,.int .i64 (n:Int)]).run Tryz.prog w =
   .ok (.slice (some ⟨w.heap.size,0,none⟩) (0+n) (grownCap w (0+n) 0 9)) (w.drew.alloc (.cells (#[]++Builtin.zeroCells z.cells n++Builtin.zeroCells z.cells (grownCap w (0+n) 0 9-(0+n))) 9)):=fun ty=>
  Lib.run_append_grow_zeros w 92 3 ty 9 i0 z .i64 .i64 u0 u3 inf0 zero0 none 0 0 [] hold n h0 (by omega) (by omega) (by omega) (by rw[byt0];omega) (growslice_fits (by omega) hbig)
 have hGn:0+n<=grownCap w (0+n) 0 9:=grownCap_ge w _ _ _;have hG63:grownCap w (0+n) 0 9<=maxLen:=grownCap_le_maxLen w (0+n) 0 9 (by unfold maxLen;omega);generalize grownCap w (0+n) 0 9=G at hrz hGn hG63;have hgz:G<=9223372036854775807:=by unfold maxLen at hG63;omega
 have fin:AppOut w (w.drew.alloc (.cells (#[]++Builtin.zeroCells z.cells n++Builtin.zeroCells z.cells (G-(0+n))) 9)) 9 1 0 0 none [] [] w.heap.size G (#[]++Builtin.zeroCells z.cells n++Builtin.zeroCells z.cells (G-(0+n))):=by
  refine⟨rfl,rfl,rfl,by show w.heap.size<=(w.heap.push _).size;rw[Array.size_push];omega,?_,heap_alloc_new w.drew _,?_,by omega,hG63,fun j hj=>by omega,fun j hj=>by omega,.inr rfl⟩
  ·intro k hk _
   show(w.heap.push _)[k]? = _;rw[Array.getElem?_push,if_neg (by omega)]
  ·simp only[Array.size_append,size_zeroCells,zs0,List.size_toArray,List.length_nil,Nat.zero_add]
   rw[<- Nat.add_mul];congr 1;omega
 clear hold hbig hG63;generalize (#[]++Builtin.zeroCells z.cells n++Builtin.zeroCells z.cells (G-(0+n)))=Z at hrz fin;go_enter Tryz.func149,Tryz.ntmps149
 go_wp2_with (at_builtin;refine Lib.wpList_append_run _ rfl _ _ _ _ rfl _ _ rfl rfl _ _ (hrz _) ?_)
 all_goals (go_ret;first|exact⟨_,_,_,rfl,fin⟩|exact⟨_,_,rfl,_,fin⟩)
set_option maxHeartbeats 2000000 in
set_option maxRecDepth 100000 in
theorem yeq (w:World):Calls Tryz.prog 149 #[.slice none 0 0,.int .i64 0] w fun x w'=>x=.returned (.slice none 0 0)/\w'=w:=by
 go_enter Tryz.func149,Tryz.ntmps149
 go_wp2
 go_ret
 exact⟨rfl,rfl⟩
set_option maxHeartbeats 2000000 in
set_option maxRecDepth 100000 in
theorem yur (n:Nat) (w:World) (h0:0<n) (hb:n<=1099511627776):Calls Tryz.prog 123 #[.slice none 0 0,.int .i64 (n:Int)] w fun x w'=>∃ b' cap' cur',x=.returned (.slice (some ⟨b',0,none⟩) 0 cap')/\AppOut w w' 105 2 0 0 none [] [] b' cap' cur':=by
 obtain⟨i0,z,ET⟩:=ElT.mk' (tS:=81) (tE:=105) G_ok rfl rfl rfl (by decide);obtain⟨u0,inf0,zero0,size0,byt0,zs0,pos0,zone0⟩:=ET;have u3:Tryz.prog.underlying 3=some (.int .i64):=by kernel_rfl
 have h1:¬ ((n:Int)<0):=by omega
 have h2:wrap64 ((0:Int)-(0:Int))=0:=by unfold wrap64;omega
 have h3:wrap64 ((n:Int)-0)=(n:Int):=by unfold wrap64;omega
 have h4:(n:Int) > 0:=by omega
 have hold:(Builtin.firstCells i0.size 0 (.slice none 0 0)).run Tryz.prog w.drew=.ok #[] w.drew:=run_firstCells_none w.drew i0.size 0 0 0;have hbig:(0+n) * i0.bytes<=140737488355328:=by rw[byt0];omega
 have hrz:∀ ty,(Builtin.append_ #[81,3] ty #[.slice none 0 0,.int .i64 (n:Int)]).run Tryz.prog w =
   .ok (.slice (some ⟨w.heap.size,0,none⟩) (0+n) (grownCap w (0+n) 0 105)) (w.drew.alloc (.cells (#[]++Builtin.zeroCells z.cells n++Builtin.zeroCells z.cells (grownCap w (0+n) 0 105-(0+n))) 105)):=fun ty=>
  Lib.run_append_grow_zeros w 81 3 ty 105 i0 z .i64 .i64 u0 u3 inf0 zero0 none 0 0 [] hold n h0 (by omega) (by omega) (by omega) (by rw[byt0];omega) (growslice_fits (by omega) hbig)
 have hGn:0+n<=grownCap w (0+n) 0 105:=grownCap_ge w _ _ _;have hG63:grownCap w (0+n) 0 105<=maxLen:=grownCap_le_maxLen w (0+n) 0 105 (by unfold maxLen;omega);generalize grownCap w (0+n) 0 105=G at hrz hGn hG63;have hgz:G<=9223372036854775807:=by unfold maxLen at hG63;omega
 have fin:AppOut w (w.drew.alloc (.cells (#[]++Builtin.zeroCells z.cells n++Builtin.zeroCells z.cells (G-(0+n))) 105)) 105 2 0 0 none [] [] w.heap.size G (#[]++Builtin.zeroCells z.cells n++Builtin.zeroCells z.cells (G-(0+n))):=by
  refine⟨rfl,rfl,rfl,by show w.heap.size<=(w.heap.push _).size;rw[Array.size_push];omega,?_,heap_alloc_new w.drew _,?_,by omega,hG63,fun j hj=>by omega,fun j hj=>by omega,.inr rfl⟩
  ·intro k hk _
   show(w.heap.push _)[k]? = _;rw[Array.getElem?_push,if_neg (by omega)]
  ·simp only[Array.size_append,size_zeroCells,zs0,List.size_toArray,List.length_nil,Nat.zero_add]
   rw[<- Nat.add_mul];congr 1;omega
 clear hold hbig hG63;generalize (#[]++Builtin.zeroCells z.cells n++Builtin.zeroCells z.cells (G-(0+n)))=Z at hrz fin;go_enter Tryz.func123,Tryz.ntmps123
 go_wp2_with (at_builtin;refine Lib.wpList_append_run _ rfl _ _ _ _ rfl _ _ rfl rfl _ _ (hrz _) ?_)
 all_goals (go_ret;first|exact⟨_,_,_,rfl,fin⟩|exact⟨_,_,rfl,_,fin⟩)
set_option maxHeartbeats 2000000 in
set_option maxRecDepth 100000 in
theorem yrq (w:World):Calls Tryz.prog 123 #[.slice none 0 0,.int .i64 0] w fun x w'=>x=.returned (.slice none 0 0)/\w'=w:=by
 go_enter Tryz.func123,Tryz.ntmps123
 go_wp2
 go_ret
 exact⟨rfl,rfl⟩
end Go.Ab
namespace Go.Ab
open Go Go.Proofs
def zod (a0:(List (List UInt8))) (a1:Int):(List (List UInt8)):=[]
theorem yqy (n:Int) (h0:0<=n) (h1:n<=1099511627776):Den Tryz.prog 149 [.nils,.int .i64 n] (ownL 9 1 eS (zod [] n)):=by
 obtain⟨m,rfl⟩:∃ m:Nat,n=(m:Int):=⟨n.toNat,by omega⟩
 have vals:∀ {w:World} {M:Nat->Prop} {vs:List Value},RepL w M [.nils,.int .i64 (m:Int)] yn vs []->vs=[.slice none 0 0,.int .i64 (m:Int)]:=by
  intro w M vs hr;simp only[RepL,Rep]at hr;obtain⟨u0,us0,f0,g0,rfl,_,⟨rfl,_⟩,u1,us1,f1,g1,rfl,_,⟨rfl,_⟩,rfl,_⟩:=hr;rfl
 by_cases hm:m=0
 ·subst hm
  refine Den.plain ⟨_,Tryz.func149,rfl,rfl⟩ (by simp[NoOwnL,NoOwn]) ?_;intro w M vs hI hr;rw[vals hr];refine(yeq w).mono ?_;rintro x w' ⟨rfl,rfl⟩
  exact⟨_,rfl,Grow.refl _,fun M'=>by simp only[ownL,zod,Rep];first|exact .inl ⟨rfl,rfl,rfl⟩|simp[emptyV]⟩
 ·refine Den.fresh (l:=(zod [] (m:Int))) ⟨_,Tryz.func149,rfl,rfl⟩ (by simp[NoOwnL,NoOwn]) (fun _=>[]) (fun w M i hi=>absurd hi (by show ¬ i<0;omega)) ?_
  intro w M vs hI hr;rw[vals hr];exact y8q m w (by omega) (by omega)
def D_zod : DF
 | [.nils,x1]=>some (ownL 9 1 eS (zod [] (rdI x1)),false,[wI .i64 x1,0<=rdI x1,rdI x1<=1099511627776])
 | _=>none
theorem y0w:OkD Tryz.prog 149 D_zod:=by
 intro xs r z ob h ho;unfold D_zod at h;split at h
 ·simp only[Option.some.injEq,Prod.mk.injEq]at h
  obtain⟨rfl,rfl,rfl⟩:=h;obtain⟨h0,hp0,hp1,_⟩:=ho;exact Den.sim (yqy _ hp0 hp1) (yeb (ytd _) <| yeb (ycg h0).1 <| trivial) (yfb rfl <| yfb (ycg h0).2 <| rfl) rfl
 ·cases h
def yrk (a0:(List (List (List UInt8)))) (i1:Nat) (s1:Int):Except ((List (List UInt8))) (Int):=
 .ok (IntKind.wrap .i64 (s1+((a0.getD i1 default).length:Int)))
def ylk (a0:(List (List (List UInt8)))) (s1:Int) (i2:Nat) (s2:List (List UInt8)):Except ((List (List UInt8))) (List (List UInt8)):=
 .ok (s2++(a0.getD i2 default))
def zsb (a0:(List (List (List UInt8)))):(List (List UInt8)):=
 (match yf (yrk a0) (a0.length-0) 0 0 with|.error e=>e|.ok s1=>(match yf (ylk a0 s1) (a0.length-0) 0 (zod [] s1)with|.error e=>e|.ok s2=>s2))
namespace N141
theorem DD:DOk Tryz.prog (Go.Ab.DD [(149,dP D_zod)]):=ya y0w.e <| ye _
theorem dn:type_of% (@D_zod.eq_1):=by and_intros<;>intros<;>rfl
theorem den (a0:(List (List (List UInt8)))) (hp0:∀ v∈a0,v.length<=1048576) (hp1:a0.length<=2):Den Tryz.prog 141 [encL 1 eLS a0] (ownL 9 1 eS (zsb a0)):=by
 generalize hR:zsb a0=r;unfold zsb at hR;refine di Tryz.func141 Tryz.ntmps141 Tryz.results141 ?_;intro c hL hc hk;obtain⟨hL0,_⟩:=hL;have hw0:a0.length<9223372036854775808:=Nat.lt_succ_of_le (yd hL0).1;have hw1:∀ v∈a0,bwLS v:=fun v hv=>ycy v ((yd hL0).2 v hv)
 clear hL0;simp only[pars,Nat.zero_add];have hgd:=fun(i:Nat) (hi:i<a0.length)=>hp0 _ (ysb hi)
 iterate 3 refine rS ?_
 refine AWP.block ?_;generalize hz1:yf (yrk a0) (a0.length-0) 0 0=z1 at hR;refine AWP.range (yrk a0) (fun i1 s1=>⟨[(0,encL 1 eLS a0),(3,.int .i64 s1),(9,encL 1 eLS a0),(10,.int .i64 (a0.length:Int)),(11,.int .i64 (i1:Int))],[]⟩) (fun i1 s1=>0<=s1/\s1<=1048576 * i1) (a0.length) 0 0 [] hz1 ot (by(exact⟨Int.le_refl _,Int.le_refl _⟩)) sm ?_;clear hz1;intro i1 s1 hi1 hW1 hz1;refine rS ?_;refine AWP.seq ?_;refine AWP.cond rfl (fun hb => ?_) (fun hb => ?_)
 ·have hlt1:i1<a0.length:=ot
  rw[yg hlt1]at hz1;simp only[yrk]at hz1;iterate 3 refine rS ?_
  refine AWP.cond rfl (fun hb => ?_) (fun hb => ?_)
  ·exfalso;have hb:=of_decide_eq_true hb;have hv:=hgd i1 hlt1;rw[IntKind.wrap_i64]at hb;have h9:=hW1;omega
  ·refine rS ?_
   exact⟨_,[],hlt1,by(have hv:=hgd i1 (by assumption);refine⟨?_,?_⟩<;>(rw[IntKind.wrap_i64];have h9:=hW1;omega)),hz1,sm⟩
 ·obtain rfl:i1=a0.length:=ot
  rw[yh (Nat.le_refl _)]at hz1;subst hz1;dsimp only at hR;refine AWP.exit ?_;refine yc ?_;iterate 2 refine rS ?_
  refine AWP.block ?_;generalize hz2:yf (ylk a0 s1) (a0.length-0) 0 (zod [] s1)=z2 at hR;refine AWP.range (ylk a0 s1) (fun i2 s2=>⟨[(6,.ref 0 1 0 s2.length),(25,encL 1 eLS a0),(26,.int .i64 (a0.length:Int)),(27,.int .i64 (i2:Int))],[.arr 9 1 s2.length (fun j=>eS (s2.getD j default))]⟩) (fun i2 s2=>s2.length<=1048576 * i2) (a0.length) 0 (zod [] s1) [0] hz2 ot (by(exact Nat.zero_le _)) sm ?_;clear hz2;intro i2 s2 hi2 hW2 hz2;refine rS ?_;refine AWP.seq ?_;refine AWP.cond rfl (fun hb => ?_) (fun hb => ?_)
  ·have hlt2:i2<a0.length:=ot
   rw[yg hlt2]at hz2;simp only[ylk]at hz2;iterate 3 refine rS ?_
   exact⟨_,[1],hlt2,by(have hv:=hgd i2 (by assumption);have h9:=hW2;simp only[List.length_append];omega),hz2,sm⟩
  ·obtain rfl:i2=a0.length:=ot
   rw[yh (Nat.le_refl _)]at hz2;subst hz2;dsimp only at hR;refine AWP.exit ?_;refine yc ?_;refine rS ?_;refine AWP.ret ?_;subst hR;exact es
end N141
def D_zsb : DF
 | [x0]=>some (ownL 9 1 eS (zsb (rdL dLS x0)),false,[wL 1 eLS dLS x0,∀ v∈(rdL dLS x0),v.length<=1048576,(rdL dLS x0).length<=2])
 | _=>none
theorem yyt:OkD Tryz.prog 141 D_zsb:=by unfold D_zsb;exact dk N141.den
theorem yvm {α:Type} [Inhabited α] (l:List α) (e:Nat) (enc:α->List AV) (lo n:Nat):simOL [.sl none e n fun i=>enc (l.getD (lo+i) default)] [.sl none e (subL l lo n).length fun i=>enc ((subL l lo n).getD i default)]:=by
 rw[yjb];refine⟨⟨rfl,rfl,rfl,fun i hi => ?_⟩,trivial⟩;show simOL (enc (l.getD (lo+i) default)) (enc ((subL l lo n).getD i default));rw[yxd _ _ _ _ hi];exact y9 _
theorem yzo {α:Type} [Inhabited α] (l:List α) (e:Nat) (enc:α->List AV) (n:Nat):simOL [.sl none e n fun i=>enc (l.getD i default)] [.sl none e (subL l 0 n).length fun i=>enc ((subL l 0 n).getD i default)]:=by
 have h:=yvm l e enc 0 n;simpa only[Nat.zero_add]using h
def zpd (a0:(List Phase)) (a1:Int):(List Phase):=[]
theorem y4x (n:Int) (h0:0<=n) (h1:n<=1099511627776):Den Tryz.prog 123 [.nils,.int .i64 n] (ownL 105 2 ym (zpd [] n)):=by
 obtain⟨m,rfl⟩:∃ m:Nat,n=(m:Int):=⟨n.toNat,by omega⟩
 have vals:∀ {w:World} {M:Nat->Prop} {vs:List Value},RepL w M [.nils,.int .i64 (m:Int)] yn vs []->vs=[.slice none 0 0,.int .i64 (m:Int)]:=by
  intro w M vs hr;simp only[RepL,Rep]at hr;obtain⟨u0,us0,f0,g0,rfl,_,⟨rfl,_⟩,u1,us1,f1,g1,rfl,_,⟨rfl,_⟩,rfl,_⟩:=hr;rfl
 by_cases hm:m=0
 ·subst hm
  refine Den.plain ⟨_,Tryz.func123,rfl,rfl⟩ (by simp[NoOwnL,NoOwn]) ?_;intro w M vs hI hr;rw[vals hr];refine(yrq w).mono ?_;rintro x w' ⟨rfl,rfl⟩
  exact⟨_,rfl,Grow.refl _,fun M'=>by simp only[ownL,zpd,Rep];first|exact .inl ⟨rfl,rfl,rfl⟩|simp[emptyV]⟩
 ·refine Den.fresh (l:=(zpd [] (m:Int))) ⟨_,Tryz.func123,rfl,rfl⟩ (by simp[NoOwnL,NoOwn]) (fun _=>[]) (fun w M i hi=>absurd hi (by show ¬ i<0;omega)) ?_
  intro w M vs hI hr;rw[vals hr];exact yur m w (by omega) (by omega)
def D_zpd : DF
 | [.nils,x1]=>some (ownL 105 2 ym (zpd [] (rdI x1)),false,[wI .i64 x1,0<=rdI x1,rdI x1<=1099511627776])
 | _=>none
theorem yvu:OkD Tryz.prog 123 D_zpd:=by
 intro xs r z ob h ho;unfold D_zpd at h;split at h
 ·simp only[Option.some.injEq,Prod.mk.injEq]at h
  obtain⟨rfl,rfl,rfl⟩:=h;obtain⟨h0,hp0,hp1,_⟩:=ho;exact Den.sim (y4x _ hp0 hp1) (yeb (ytd _) <| yeb (ycg h0).1 <| trivial) (yfb rfl <| yfb (ycg h0).2 <| rfl) rfl
 ·cases h
def ypk (a0:(List (List Phase))) (i1:Nat) (s1:Int):Except ((List Phase)) (Int):=
 .ok (IntKind.wrap .i64 (s1+((a0.getD i1 default).length:Int)))
def y4k (a0:(List (List Phase))) (s1:Int) (i2:Nat) (s2:List Phase):Except ((List Phase)) (List Phase):=
 .ok (s2++(a0.getD i2 default))
def zib (a0:(List (List Phase))):(List Phase):=
 (match yf (ypk a0) (a0.length-0) 0 0 with|.error e=>e|.ok s1=>(match yf (y4k a0 s1) (a0.length-0) 0 (zpd [] s1)with|.error e=>e|.ok s2=>s2))
namespace N86
theorem DD:DOk Tryz.prog (Go.Ab.DD [(123,dP D_zpd)]):=ya yvu.e <| ye _
theorem dn:type_of% (@D_zpd.eq_1):=by and_intros<;>intros<;>rfl
theorem den (a0:(List (List Phase))) (hp0:∀ v∈a0,v.length<=1048576) (hp1:a0.length<=2):Den Tryz.prog 86 [encL 1 yue a0] (ownL 105 2 ym (zib a0)):=by
 generalize hR:zib a0=r;unfold zib at hR;refine di Tryz.func86 Tryz.ntmps86 Tryz.results86 ?_;intro c hL hc hk;obtain⟨hL0,_⟩:=hL;have hw0:a0.length<9223372036854775808:=Nat.lt_succ_of_le (yd hL0).1;have hw1:∀ v∈a0,bwLPhase v:=fun v hv=>yzm v ((yd hL0).2 v hv)
 clear hL0;simp only[pars,Nat.zero_add];have hgd:=fun(i:Nat) (hi:i<a0.length)=>hp0 _ (ysb hi)
 iterate 3 refine rS ?_
 refine AWP.block ?_;generalize hz1:yf (ypk a0) (a0.length-0) 0 0=z1 at hR;refine AWP.range (ypk a0) (fun i1 s1=>⟨[(0,encL 1 yue a0),(3,.int .i64 s1),(9,encL 1 yue a0),(10,.int .i64 (a0.length:Int)),(11,.int .i64 (i1:Int))],[]⟩) (fun i1 s1=>0<=s1/\s1<=1048576 * i1) (a0.length) 0 0 [] hz1 ot (by(exact⟨Int.le_refl _,Int.le_refl _⟩)) sm ?_;clear hz1;intro i1 s1 hi1 hW1 hz1;refine rS ?_;refine AWP.seq ?_;refine AWP.cond rfl (fun hb => ?_) (fun hb => ?_)
 ·have hlt1:i1<a0.length:=ot
  rw[yg hlt1]at hz1;simp only[ypk]at hz1;iterate 3 refine rS ?_
  refine AWP.cond rfl (fun hb => ?_) (fun hb => ?_)
  ·exfalso;have hb:=of_decide_eq_true hb;have hv:=hgd i1 hlt1;rw[IntKind.wrap_i64]at hb;have h9:=hW1;omega
  ·refine rS ?_
   exact⟨_,[],hlt1,by(have hv:=hgd i1 (by assumption);refine⟨?_,?_⟩<;>(rw[IntKind.wrap_i64];have h9:=hW1;omega)),hz1,sm⟩
 ·obtain rfl:i1=a0.length:=ot
  rw[yh (Nat.le_refl _)]at hz1;subst hz1;dsimp only at hR;refine AWP.exit ?_;refine yc ?_;iterate 2 refine rS ?_
  refine AWP.block ?_;generalize hz2:yf (y4k a0 s1) (a0.length-0) 0 (zpd [] s1)=z2 at hR;refine AWP.range (y4k a0 s1) (fun i2 s2=>⟨[(6,.ref 0 2 0 s2.length),(25,encL 1 yue a0),(26,.int .i64 (a0.length:Int)),(27,.int .i64 (i2:Int))],[.arr 105 2 s2.length (fun j=>ym (s2.getD j default))]⟩) (fun i2 s2=>s2.length<=1048576 * i2) (a0.length) 0 (zpd [] s1) [0] hz2 ot (by(exact Nat.zero_le _)) sm ?_;clear hz2;intro i2 s2 hi2 hW2 hz2;refine rS ?_;refine AWP.seq ?_;refine AWP.cond rfl (fun hb => ?_) (fun hb => ?_)
  ·have hlt2:i2<a0.length:=ot
   rw[yg hlt2]at hz2;simp only[y4k]at hz2;iterate 3 refine rS ?_
   exact⟨_,[1],hlt2,by(have hv:=hgd i2 (by assumption);have h9:=hW2;simp only[List.length_append];omega),hz2,sm⟩
  ·obtain rfl:i2=a0.length:=ot
   rw[yh (Nat.le_refl _)]at hz2;subst hz2;dsimp only at hR;refine AWP.exit ?_;refine yc ?_;refine rS ?_;refine AWP.ret ?_;subst hR;exact es
end N86
def D_zib : DF
 | [x0]=>some (ownL 105 2 ym (zib (rdL yub x0)),false,[wL 1 yue yub x0,∀ v∈(rdL yub x0),v.length<=1048576,(rdL yub x0).length<=2])
 | _=>none
theorem ykw:OkD Tryz.prog 86 D_zib:=by unfold D_zib;exact dk N86.den
def zge (a0:(List UInt8)):Bool:=
 (a0 != a0)
namespace N150
theorem DD:DOk Tryz.prog (Go.Ab.DD []):=ye _
theorem den (a0:(List UInt8))  : Den Tryz.prog 150 [.str a0] (.bool (zge a0)):=by
 generalize hR:zge a0=r;unfold zge at hR;refine di Tryz.func150 Tryz.ntmps150 Tryz.results150 ?_;intro c hL hc hk;obtain⟨hL0,_⟩:=hL;have hw0:a0.length<9223372036854775808:=Nat.lt_succ_of_le hL0;clear hL0;simp only[pars,Nat.zero_add];iterate 2 refine rS ?_
 refine AWP.ret ?_;subst hR;exact es
end N150
def D_zge : DF
 | [x0]=>some (.bool (zge (rdS x0)),false,[wS x0])
 | _=>none
theorem yqv:OkD Tryz.prog 150 D_zge:=by unfold D_zge;exact dk N150.den
def zhe (a0:(List UInt8)) (a1:(List UInt8)):Int:=
 (bif (zge a0)then(bif (zge a1)then 0 else(-1))else(bif (zge a1)then 1 else(bif Op.bytesLess a0 a1 then(-1)else(bif !(Op.bytesLess a0 a1 || a0 == a1)then 1 else 0))))
namespace N142
theorem DD:DOk Tryz.prog (Go.Ab.DD [(150,dP D_zge)]):=ya yqv.e <| ye _
theorem dn:type_of% (@D_zge.eq_1):=by and_intros<;>intros<;>rfl
theorem den (a0:(List UInt8)) (a1:(List UInt8))  : Den Tryz.prog 142 [.str a0,.str a1] (.int .i64 (zhe a0 a1)):=by
 generalize hR:zhe a0 a1=r;unfold zhe at hR;refine di Tryz.func142 Tryz.ntmps142 Tryz.results142 ?_;intro c hL hc hk;obtain⟨hL0,hL1,_⟩:=hL;have hw0:a0.length<9223372036854775808:=Nat.lt_succ_of_le hL0;have hw1:a1.length<9223372036854775808:=Nat.lt_succ_of_le hL1;clear hL0 hL1;simp only[pars,Nat.zero_add];iterate 4 refine rS ?_
 refine AWP.cond rfl (fun hb => ?_) (fun hb => ?_)
 ·replace hR:=ct hR
  refine rS ?_;refine AWP.cond rfl (fun hb => ?_) (fun hb => ?_)
  ·replace hR:=ct hR
   refine rS ?_;refine AWP.ret ?_;subst hR;exact es
  ·replace hR:=cf hR
   refine rS ?_;refine AWP.ret ?_;subst hR;exact es
 ·replace hR:=cf hR
  refine rS ?_;refine AWP.cond rfl (fun hb => ?_) (fun hb => ?_)
  ·replace hR:=ct hR
   refine rS ?_;refine AWP.ret ?_;subst hR;exact es
  ·replace hR:=cf hR
   refine rS ?_;refine AWP.cond rfl (fun hb => ?_) (fun hb => ?_)
   ·replace hR:=ct hR
    refine rS ?_;refine AWP.ret ?_;subst hR;exact es
   ·replace hR:=cf hR
    refine rS ?_;refine AWP.cond rfl (fun hb => ?_) (fun hb => ?_)
    ·replace hR:=ct hR
     refine rS ?_;refine AWP.ret ?_;subst hR;exact es
    ·replace hR:=cf hR
     refine rS ?_;refine AWP.ret ?_;subst hR;exact es
end N142
def D_zhe : DF
 | [x0,x1]=>some (.int .i64 (zhe (rdS x0) (rdS x1)),false,[wS x0,wS x1])
 | _=>none
theorem y8v:OkD Tryz.prog 142 D_zhe:=by unfold D_zhe;exact dk N142.den
def y7h (a0:(List (List UInt8))) (a1:(List (List UInt8))) (i1:Nat) (s1:Unit):Except (Int) (Unit):=
 (bif decide ((a1.length:Int)<=(i1:Int))then .error 1 else(bif ((zhe (a0.getD i1 default) (a1.getD i1 default)) != 0)then .error (zhe (a0.getD i1 default) (a1.getD i1 default))else .ok ()))
def zwb (a0:(List (List UInt8))) (a1:(List (List UInt8))):Int:=
 (match yf (y7h a0 a1) (a0.length-0) 0 ()with|.error e=>e|.ok s1=>(bif decide ((a0.length:Int)<(a1.length:Int))then(-1)else 0))
namespace N122
theorem DD:DOk Tryz.prog (Go.Ab.DD [(142,dP D_zhe)]):=ya y8v.e <| ye _
theorem dn:type_of% (@D_zhe.eq_1):=by and_intros<;>intros<;>rfl
theorem den (a0:(List (List UInt8))) (a1:(List (List UInt8)))  : Den Tryz.prog 122 [encL 1 eS a0,encL 1 eS a1] (.int .i64 (zwb a0 a1)):=by
 generalize hR:zwb a0 a1=r;unfold zwb at hR;refine di Tryz.func122 Tryz.ntmps122 Tryz.results122 ?_;intro c hL hc hk;obtain⟨hL0,hL1,_⟩:=hL;have hw0:a0.length<9223372036854775808:=Nat.lt_succ_of_le (yd hL0).1;have hw1:∀ v∈a0,bwS v:=fun v hv=>ydf v ((yd hL0).2 v hv)
 have hw2:a1.length<9223372036854775808:=Nat.lt_succ_of_le (yd hL1).1;have hw3:∀ v∈a1,bwS v:=fun v hv=>ydf v ((yd hL1).2 v hv)
 clear hL0 hL1;simp only[pars,Nat.zero_add];iterate 2 refine rS ?_
 refine AWP.block ?_;generalize hz1:yf (y7h a0 a1) (a0.length-0) 0 ()=z1 at hR;refine AWP.range (y7h a0 a1) (fun i1 s1=>⟨[(0,encL 1 eS a0),(1,encL 1 eS a1),(9,encL 1 eS a0),(10,.int .i64 (a0.length:Int)),(11,.int .i64 (i1:Int))],[]⟩) (fun i1 s1=>True) (a0.length) 0 () [] hz1 ot wt sm ?_;clear hz1;intro i1 s1 hi1 hW1 hz1;refine rS ?_;refine AWP.seq ?_;refine AWP.cond rfl (fun hb => ?_) (fun hb => ?_)
 ·have hlt1:i1<a0.length:=ot
  rw[yg hlt1]at hz1;simp only[y7h]at hz1;iterate 2 refine rS ?_
  refine AWP.cond rfl (fun hb => ?_) (fun hb => ?_)
  ·simp only[hb,cond_true]at hz1
   refine rS ?_;refine AWP.ret ?_;subst hz1;dsimp only at hR;subst hR;exact es
  ·simp only[hb,cond_false]at hz1
   iterate 3 refine rS ?_
   refine AWP.cond rfl (fun hb => ?_) (fun hb => ?_)
   ·simp only[hb,cond_true]at hz1
    refine rS ?_;refine AWP.ret ?_;subst hz1;dsimp only at hR;subst hR;exact es
   ·simp only[hb,cond_false]at hz1
    refine rS ?_;exact⟨_,[],hlt1,wt,hz1,sm⟩
 ·obtain rfl:i1=a0.length:=ot
  rw[yh (Nat.le_refl _)]at hz1;subst hz1;dsimp only at hR;refine AWP.exit ?_;refine yc ?_;refine rS ?_;refine AWP.cond rfl (fun hb => ?_) (fun hb => ?_)
  ·replace hR:=ct hR
   refine rS ?_;refine AWP.ret ?_;subst hR;exact es
  ·replace hR:=cf hR
   refine rS ?_;refine AWP.ret ?_;subst hR;exact es
end N122
def D_zwb : DF
 | [x0,x1]=>some (.int .i64 (zwb (rdL dS x0) (rdL dS x1)),false,[wL 1 eS dS x0,wL 1 eS dS x1])
 | _=>none
theorem ymw:OkD Tryz.prog 122 D_zwb:=by unfold D_zwb;exact dk N122.den
end Go.Ab
namespace Go.Ab
open Go
theorem y1k {ρ α : Type} (b : Nat -> List α -> Except ρ (List α)) (f : Nat -> List α) : ∀ (n i : Nat) (s : List α), (∀ j s, i <= j -> j < i + n -> b j s = .ok (s ++ f j)) -> yf b n i s = .ok (s ++ (List.range' i n).flatMap f)
 | 0,i,s,_=>by simp[yf]
 | n+1,i,s,h=>by
  simp only[yf];rw[h i s (Nat.le_refl _) (by omega)];simp only;rw[y1k b f n (i+1) _ (fun j s h1 h2=>h j s (by omega) (by omega)),List.range'_succ,List.flatMap_cons,List.append_assoc]
theorem yvi {ρ σ:Type} {b b':Nat->σ->Except ρ σ} (n i:Nat) (s:σ) (h:∀ j u,i<=j->j<i+n->b j u=b' j u):yf b n i s=yf b' n i s:=loopR_congr0 n i s h
where
 loopR_congr0 {ρ σ:Type} {b b':Nat->σ->Except ρ σ}:∀ (n i:Nat) (s:σ),(∀ j u,i<=j->j<i+n->b j u=b' j u)->yf b n i s=yf b' n i s
 | 0,i,s,_=>rfl
 | n+1,i,s,h=>by
  simp only[yf];rw[h i s (Nat.le_refl _) (by omega)]
  cases b' i s with
  | error r=>rfl
  | ok t=>exact loopR_congr0 n (i+1) t (fun j u h1 h2=>h j u (by omega) (by omega))
theorem ygs {α β:Type} (l:List α) (d:α) (f:α->β):(List.range' 0 l.length).flatMap (fun j=>[f (l.getD j d)])=l.map f:=by
 rw[<- List.map_eq_flatMap];apply List.ext_getElem
 ·simp
 ·intro i h1 h2
  simp only[List.length_map]at h2;simp[List.getD_eq_getElem?_getD,h2]
end Go.Ab
namespace Go.Ab
open Go Go.Proofs
def ywi (a0:(List Int)) (a1:(List Int)) (i1:Nat) (s1:Unit):Except (Bool) (Unit):=
 (bif ((a0.getD i1 default) != (a1.getD i1 default))then .error false else .ok ())
def zlb (a0:(List Int)) (a1:(List Int)):Bool:=
 (bif ((a0.length:Int) != (a1.length:Int))then false else(match yf (ywi a0 a1) (a0.length-0) 0 ()with|.error e=>e|.ok s1=>true))
namespace N113
theorem DD:DOk Tryz.prog (Go.Ab.DD []):=ye _
theorem den (a0:(List Int)) (a1:(List Int))  : Den Tryz.prog 113 [encL 1 yq a0,encL 1 yq a1] (.bool (zlb a0 a1)):=by
 generalize hR:zlb a0 a1=r;unfold zlb at hR;refine di Tryz.func113 Tryz.ntmps113 Tryz.results113 ?_;intro c hL hc hk;obtain⟨hL0,hL1,_⟩:=hL;have hw0:a0.length<9223372036854775808:=Nat.lt_succ_of_le (yd hL0).1;have hw1:a1.length<9223372036854775808:=Nat.lt_succ_of_le (yd hL1).1;clear hL0 hL1;simp only[pars,Nat.zero_add];iterate 2 refine rS ?_
 refine AWP.cond rfl (fun hb => ?_) (fun hb => ?_)
 ·replace hR:=ct hR
  refine rS ?_;refine AWP.ret ?_;subst hR;exact es
 ·replace hR:=cf hR
  refine rS ?_;refine AWP.block ?_;generalize hz1:yf (ywi a0 a1) (a0.length-0) 0 ()=z1 at hR;refine AWP.range (ywi a0 a1) (fun i1 s1=>⟨[(0,encL 1 yq a0),(1,encL 1 yq a1),(12,.int .i64 (a0.length:Int)),(13,.int .i64 (i1:Int))],[]⟩) (fun i1 s1=>True) (a0.length) 0 () [] hz1 ot wt sm ?_;clear hz1;intro i1 s1 hi1 hW1 hz1;refine rS ?_;refine AWP.seq ?_;refine AWP.cond rfl (fun hb => ?_) (fun hb => ?_)
  ·have hlt1:i1<a0.length:=ot
   rw[yg hlt1]at hz1;simp only[ywi]at hz1;refine rS ?_;refine rD 8 ?_;refine AWP.cond rfl (fun hb => ?_) (fun hb => ?_)
   ·simp only[hb,cond_true]at hz1
    refine rS ?_;refine AWP.ret ?_;subst hz1;dsimp only at hR;subst hR;exact es
   ·simp only[hb,cond_false]at hz1
    refine rS ?_;exact⟨_,[],hlt1,wt,hz1,sm⟩
  ·obtain rfl:i1=a0.length:=ot
   rw[yh (Nat.le_refl _)]at hz1;subst hz1;dsimp only at hR;refine AWP.exit ?_;refine yc ?_;refine rS ?_;refine AWP.ret ?_;subst hR;exact es
end N113
def D_zlb : DF
 | [x0,x1]=>some (.bool (zlb (rdL ynb x0) (rdL ynb x1)),false,[wL 1 yq ynb x0,wL 1 yq ynb x1])
 | _=>none
theorem yto:OkD Tryz.prog 113 D_zlb:=by unfold D_zlb;exact dk N113.den
def y5h {α ρ σ : Type} (g : α -> σ -> Except ρ σ) : List α -> σ -> Except ρ σ
  | [],s=>.ok s
  | x :: t, s => match g x s with
    | .error r=>.error r
    | .ok s'=>y5h g t s'
theorem y2d {α ρ σ : Type} (g : α -> σ -> Except ρ σ) (x : α) (t : List α) (s : σ) : y5h g (x :: t) s = match g x s with
  | .error r=>.error r
  | .ok s'=>y5h g t s':=rfl
theorem yij {α ρ σ : Type} [Inhabited α] {b : Nat -> σ -> Except ρ σ} (g : α -> σ -> Except ρ σ) (l : List α) : ∀ (k i : Nat) (s : σ), i + k = l.length -> (∀ j u, i <= j -> j < l.length -> b j u = g (l.getD j default) u) -> yf b k i s = y5h g (l.drop i) s
 | 0,i,s,h,_=>by rw[List.drop_eq_nil_of_le (by omega)];rfl
 | k+1,i,s,h,hb=>by
  have hi:i<l.length:=by omega
  rw[List.drop_eq_getElem_cons hi];simp only[yf,y5h];rw[hb i s (Nat.le_refl _) hi,List.getD_eq_getElem?_getD,List.getElem?_eq_getElem hi,Option.getD_some]
  cases g l[i] s with
  | error r=>rfl
  | ok s'=>exact yij g l k (i+1) s' (by omega) (fun j u h1 h2=>hb j u (by omega) h2)
theorem ygc {α ρ σ:Type} [Inhabited α] {b:Nat->σ->Except ρ σ} (g:α->σ->Except ρ σ) (l:List α) (s:σ) (hb:∀ j u,j<l.length->b j u=g (l.getD j default) u):yf b (l.length-0) 0 s=y5h g l s:=by
 rw[yij g l (l.length-0) 0 s (by omega) (fun j u _ h=>hb j u h),List.drop_zero]
theorem y0k {j:Nat} (h:0<j) (hn:j<9223372036854775808):(IntKind.wrap .i64 ((j:Int)-1)).toNat=j-1:=by
 rw[IntKind.wrap_i64];omega
end Go.Ab
namespace Go.Ab
open Go
def yac:List (List UInt8):=[[46,45],[45,46,46,46],[45,46,45,46],[45,46,46],[46],[46,46,45,46],[45,45,46],[46,46,46,46],[46,46],[46,45,45,45],[45,46,45],[46,45,46,46],[45,45],[45,46],[45,45,45],[46,45,45,46],[45,45,46,45],[46,45,46],[46,46,46],[45],[46,46,45],[46,46,46,45],[46,45,45],[45,46,46,45],[45,46,45,45],[45,45,46,46]]
theorem y6e:∀ x∈yac,1<=x.length/\x.length<=4/\∀ c∈x,c=45\/c=46:=by decide
theorem yci (n:Nat):(yac.getD n default).length<=4:=by
 rw[List.getD_eq_getElem?_getD]
 cases h:yac[n]? with
 | none=>show(0:Nat)<=4;omega
 | some x=>exact(y6e x (List.mem_of_getElem? h)).2.1
theorem yxu (n:Nat):(([[46,45],[45,46,46,46],[45,46,45,46],[45,46,46],[46],[46,46,45,46],[45,45,46],[46,46,46,46],[46,46],[46,45,45,45],[45,46,45],[46,45,46,46],[45,45],[45,46],[45,45,45],[46,45,45,46],[45,45,46,45],[46,45,46],[46,46,46],[45],[46,46,45],[46,46,46,45],[46,45,45],[45,46,46,45],[45,46,45,45],[45,45,46,46]]:List (List UInt8)).getD n default).length<=4:=yci n
end Go.Ab
namespace Go.Ab
open Go
theorem ykf (a:List UInt8) (c:UInt8) (h:a.length=1):Op.bytesLess a [c]=decide ((a.getD 0 0).toNat<c.toNat):=by
 obtain⟨x,rfl⟩:=List.length_eq_one_iff.1 h;simp only[Op.bytesLess,Bool.and_false,Bool.or_false,List.getD_cons_zero];rfl
theorem y9r (a:List UInt8) (c:UInt8) (h:a.length=1):(a == [c])=decide ((a.getD 0 0).toNat=c.toNat):=by
 obtain⟨x,rfl⟩:=List.length_eq_one_iff.1 h;apply Bool.eq_iff_iff.2;simp[UInt8.toNat_inj]
theorem ygh (n:Int) (h1:0<=n) (h2:n<256):IntKind.wrap .u8 n=n:=by
 have:IntKind.wrap .u8 n=n % 256:=rfl;rw[this];omega
theorem y2v (a:List UInt8) (h:((a.length:Int)=1/\Op.bytesLess a [65]=false)/\(Op.bytesLess a [90]=true\/(a == [90])=true)) :
  0<=IntKind.wrap .u8 (((a.getD 0 0).toNat:Int)-65)/\IntKind.wrap .u8 (((a.getD 0 0).toNat:Int)-65)<26/\0<=IntKind.wrap .u8 (((a.getD 0 0).toNat:Int) + -65)/\IntKind.wrap .u8 (((a.getD 0 0).toNat:Int) + -65)<26:=by
 have h1:a.length=1:=by omega
 rw[ykf a 65 h1,ykf a 90 h1,y9r a 90 h1]at h;have e1:(65:UInt8).toNat=65:=rfl;have e2:(90:UInt8).toNat=90:=rfl;rw[e1,e2]at h;simp only[decide_eq_true_eq,decide_eq_false_iff_not]at h;have hx:65<=(a.getD 0 0).toNat/\(a.getD 0 0).toNat<=90:=by omega
 rw[ygh _ (by omega) (by omega),ygh _ (by omega) (by omega)];omega
end Go.Ab
namespace Go.Proofs
open Go.Shelf
def Tryz.lays137_ren:Go.Shelf.Ren:=⟨fun|137=>111|217=>135|266=>147|n=>n,fun|9=>9|5=>5|3=>3|n=>n,fun|n=>n⟩
theorem Tryz.lays137 : Go.Proofs.Lays.n137 Tryz.prog Tryz.lays137_ren := {
 mixed:=by kernel_rfl
 f137:=Tryz.func111.trans (congrArg some (by kernel_rfl))
 f217:=Tryz.func135.trans (congrArg some (by kernel_rfl))
 f266:=Tryz.func147.trans (congrArg some (by kernel_rfl))
 t3:=Tryz.underlying3
 a3:=Tryz.isAgg3
 z3:=Tryz.sizeOf3
 v3:=Tryz.zeroValue3
 t5:=Tryz.underlying5
 a5:=Tryz.isAgg5
 z5:=Tryz.sizeOf5
 v5:=Tryz.zeroValue5
 t9:=Tryz.underlying9
 a9:=Tryz.isAgg9
 z9:=Tryz.sizeOf9
 v9:=Tryz.zeroValue9 }
def Tryz.lays144_ren:Go.Shelf.Ren:=⟨fun|144=>52|143=>83|219=>119|217=>135|225=>136|224=>137|267=>138|266=>147|314=>148|n=>n,fun|9=>9|4=>4|3=>3|5=>5|46=>139|146=>149|51=>146|n=>n,fun|1=>1|n=>n⟩
theorem Tryz.lays144 : Go.Proofs.Lays.n144 Tryz.prog Tryz.lays144_ren := {
 mixed:=by kernel_rfl
 f143:=Tryz.func83.trans (congrArg some (by kernel_rfl))
 f144:=Tryz.func52.trans (congrArg some (by kernel_rfl))
 f217:=Tryz.func135.trans (congrArg some (by kernel_rfl))
 f219:=Tryz.func119.trans (congrArg some (by kernel_rfl))
 f224:=Tryz.func137.trans (congrArg some (by kernel_rfl))
 f225:=Tryz.func136.trans (congrArg some (by kernel_rfl))
 f266:=Tryz.func147.trans (congrArg some (by kernel_rfl))
 f267:=Tryz.func138.trans (congrArg some (by kernel_rfl))
 f314:=Tryz.func148.trans (congrArg some (by kernel_rfl))
 t3:=Tryz.underlying3
 a3:=Tryz.isAgg3
 z3:=Tryz.sizeOf3
 v3:=Tryz.zeroValue3
 t4:=Tryz.underlying4
 a4:=Tryz.isAgg4
 z4:=Tryz.sizeOf4
 v4:=Tryz.zeroValue4
 t5:=Tryz.underlying5
 a5:=Tryz.isAgg5
 z5:=Tryz.sizeOf5
 v5:=Tryz.zeroValue5
 t9:=Tryz.underlying9
 a9:=Tryz.isAgg9
 z9:=Tryz.sizeOf9
 v9:=Tryz.zeroValue9
 t46:=Tryz.underlying139
 a46:=Tryz.isAgg139
 z46:=Tryz.sizeOf139
 v46:=Tryz.zeroValue139
 t51:=Tryz.underlying146
 a51:=Tryz.isAgg146
 z51:=Tryz.sizeOf146
 v51:=Tryz.zeroValue146
 t146:=Tryz.underlying149
 a146:=Tryz.isAgg149
 z146:=Tryz.sizeOf149
 v146:=Tryz.zeroValue149
 g1:=by kernel_rfl }
def Tryz.lays157_ren:Go.Shelf.Ren:=⟨fun|157=>109|229=>133|199=>134|261=>146|311=>151|312=>152|n=>n,fun|9=>9|31=>92|3=>3|5=>5|4=>4|119=>134|0=>0|40=>136|152=>143|21=>21|154=>145|51=>146|141=>148|196=>155|193=>152|198=>158|49=>156|194=>153|201=>161|226=>163|46=>139|227=>164|n=>n,fun|0=>0|6=>2|n=>n⟩
theorem Tryz.lays157 : Go.Proofs.Lays.n157 Tryz.prog Tryz.lays157_ren := {
 mixed:=by kernel_rfl
 f157:=Tryz.func109.trans (congrArg some (by kernel_rfl))
 f199:=Tryz.func134.trans (congrArg some (by kernel_rfl))
 f229:=Tryz.func133.trans (congrArg some (by kernel_rfl))
 f261:=Tryz.func146.trans (congrArg some (by kernel_rfl))
 f311:=Tryz.func151.trans (congrArg some (by kernel_rfl))
 f312:=Tryz.func152.trans (congrArg some (by kernel_rfl))
 t0:=Tryz.underlying0
 a0:=Tryz.isAgg0
 z0:=Tryz.sizeOf0
 v0:=Tryz.zeroValue0
 t3:=Tryz.underlying3
 a3:=Tryz.isAgg3
 z3:=Tryz.sizeOf3
 v3:=Tryz.zeroValue3
 t4:=Tryz.underlying4
 a4:=Tryz.isAgg4
 z4:=Tryz.sizeOf4
 v4:=Tryz.zeroValue4
 t5:=Tryz.underlying5
 a5:=Tryz.isAgg5
 z5:=Tryz.sizeOf5
 v5:=Tryz.zeroValue5
 t9:=Tryz.underlying9
 a9:=Tryz.isAgg9
 z9:=Tryz.sizeOf9
 v9:=Tryz.zeroValue9
 t21:=Tryz.underlying21
 a21:=Tryz.isAgg21
 z21:=Tryz.sizeOf21
 v21:=Tryz.zeroValue21
 t31:=Tryz.underlying92
 a31:=Tryz.isAgg92
 z31:=Tryz.sizeOf92
 v31:=Tryz.zeroValue92
 t40:=Tryz.underlying136
 a40:=Tryz.isAgg136
 z40:=Tryz.sizeOf136
 v40:=Tryz.zeroValue136
 t46:=Tryz.underlying139
 a46:=Tryz.isAgg139
 z46:=Tryz.sizeOf139
 v46:=Tryz.zeroValue139
 t49:=Tryz.underlying156
 a49:=Tryz.isAgg156
 z49:=Tryz.sizeOf156
 v49:=Tryz.zeroValue156
 t51:=Tryz.underlying146
 a51:=Tryz.isAgg146
 z51:=Tryz.sizeOf146
 v51:=Tryz.zeroValue146
 t119:=Tryz.underlying134
 a119:=Tryz.isAgg134
 z119:=Tryz.sizeOf134
 t141:=Tryz.underlying148
 a141:=Tryz.isAgg148
 z141:=Tryz.sizeOf148
 v141:=Tryz.zeroValue148
 t152:=Tryz.underlying143
 a152:=Tryz.isAgg143
 z152:=Tryz.sizeOf143
 v152:=Tryz.zeroValue143
 t154:=Tryz.underlying145
 a154:=Tryz.isAgg145
 z154:=Tryz.sizeOf145
 v154:=Tryz.zeroValue145
 t193:=Tryz.underlying152
 a193:=Tryz.isAgg152
 z193:=Tryz.sizeOf152
 v193:=Tryz.zeroValue152
 t194:=Tryz.underlying153
 a194:=Tryz.isAgg153
 z194:=Tryz.sizeOf153
 v194:=Tryz.zeroValue153
 t196:=Tryz.underlying155
 a196:=Tryz.isAgg155
 z196:=Tryz.sizeOf155
 v196:=Tryz.zeroValue155
 t198:=Tryz.underlying158
 a198:=Tryz.isAgg158
 z198:=Tryz.sizeOf158
 v198:=Tryz.zeroValue158
 t201:=Tryz.underlying161
 a201:=Tryz.isAgg161
 z201:=Tryz.sizeOf161
 v201:=Tryz.zeroValue161
 t226:=Tryz.underlying163
 a226:=Tryz.isAgg163
 z226:=Tryz.sizeOf163
 v226:=Tryz.zeroValue163
 t227:=Tryz.underlying164
 a227:=Tryz.isAgg164
 z227:=Tryz.sizeOf164
 v227:=Tryz.zeroValue164
 g0:=by kernel_rfl
 g6:=by kernel_rfl }
end Go.Proofs
namespace Go.Ab
open Go Go.Proofs
def zkd (a0:(List UInt8)) (a1:Int):Int:=Go.Lib.indexByte a0 a1.toNat.toUInt8
theorem yfy (a0:(List UInt8)) (a1:Int)  : Den Tryz.prog 111 [.str a0,.int .u8 a1] (.int .i64 (zkd a0 a1)):=by
 refine Den.plain ⟨_,Tryz.func111,rfl,rfl⟩ (by simp[NoOwnL,NoOwn]) ?_;intro w M vs hI hr;simp only[RepL]at hr;obtain⟨u0,us0,f0,g0,rfl,h0e,h0,u1,us1,f1,g1,rfl,h1e,h1,rfl,_⟩:=hr;have e0:=h0.val_str;have e1:=h1.val_int;subst e0 e1;refine(Any.strings_IndexByte Tryz.lays137 ⟨a0.toArray⟩ a1 w).mono ?_;rintro e w' ⟨rfl,rfl⟩
 exact⟨_,rfl,Grow.refl _,fun M'=>yib _ _⟩
def D_zkd : DF
 | [x0,x1]=>some (.int .i64 (zkd (rdS x0) (rdI x1)),false,[wS x0,wI .u8 x1])
 | _=>none
theorem y5v:OkD Tryz.prog 111 D_zkd:=by
 intro xs r z ob h ho;unfold D_zkd at h;split at h
 ·simp only[Option.some.injEq,Prod.mk.injEq]at h
  obtain⟨rfl,rfl,rfl⟩:=h;obtain⟨h0,h1,_⟩:=ho;exact Den.sim (yfy _ _ ) (yeb (yee h0).1 <| yeb (ycg h1).1 <| trivial) (yfb (yee h0).2 <| yfb (ycg h1).2 <| rfl) rfl
 ·cases h
end Go.Ab
namespace Go.Ab
open Go
def yox (l:List UInt8):Prop:=∀ b∈l,48<=b.toNat/\b.toNat<=57
instance (l:List UInt8):Decidable (yox l):=by unfold yox;infer_instance
end Go.Ab
