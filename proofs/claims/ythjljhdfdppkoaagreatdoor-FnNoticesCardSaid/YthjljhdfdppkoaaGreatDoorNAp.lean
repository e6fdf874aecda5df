/- A part of a proof: walks of functions and lemmas of our own. No conditions. -/
import Derived.Test.YthjljhdfdppkoaaGreatDoorNAm
import Derived.Test.YthjljhdfdppkoaaGreatDoorNAl
import Derived.Test.YthjljhdfdppkoaaGreatDoorNAn
import Derived.Shelf.Strings.Split
import Derived.Test.YthjljhdfdppkoaaGreatDoorNAo
import Derived.Test.YthjljhdfdppkoaaGreatDoorNAi
import Derived.Handy
import Derived.Test.YthjljhdfdppkoaaGreatDoorNAj
import Derived.Test.YthjljhdfdppkoaaGreatDoorRows
set_option linter.unusedSectionVars false
set_option linter.unusedVariables false
set_option linter.unusedSimpArgs false
set_option maxHeartbeats 1000000
namespace Go.Ab
open Go Go.Proofs
theorem yw0 {f : FuncId} {T : TypeId} (hok : FnOk Tryz.prog f) (a0 a1 : List UInt8) (hp0 : a0.length <= 1048576) (hp1 : a1.length = 1)
  (hS:∀ (s sep:ByteArray) (m:Int) (w:World),s.size<4294967281->w.cell? ⟨0,0,none⟩=some (.int .i64 m)->1<=sep.size->Calls Tryz.prog f #[.string s,.string sep] w fun e w'=>
   e=.returned (.slice (some ⟨w.heap.size,0,none⟩) (Go.Lib.countB s sep+1) (Go.Lib.countB s sep+1))/\w'=w.alloc (.cells ((Go.Lib.splitB sep 0 (Go.Lib.countB s sep) s).map Value.string).toArray T)) :
  Den Tryz.prog f [.str a0,.str a1] (ownL T 1 (fun s:List UInt8=>[.str s]) (ybb (a1.getD 0 0) a0)):=by
 obtain⟨c,rfl⟩:∃ c,a1=[c]:=List.length_eq_one_iff.1 hp1
 have hl:Go.Lib.splitB ⟨#[c]⟩ 0 (Go.Lib.countB ⟨a0.toArray⟩ ⟨#[c]⟩) ⟨a0.toArray⟩=(ybb c a0).map fun x=>(⟨x.toArray⟩:ByteArray):=by
  have h1:=Go.Lib.splitB_data ⟨#[c]⟩ 0 (Go.Lib.countB ⟨a0.toArray⟩ ⟨#[c]⟩) ⟨a0.toArray⟩;rw[show Go.Lib.splitK (⟨#[c]⟩:ByteArray).data.toList 0 (Go.Lib.countB ⟨a0.toArray⟩ ⟨#[c]⟩) (⟨a0.toArray⟩:ByteArray).data.toList=ybb c a0 from yy2 c _ a0 (Nat.le_refl _)]at h1;rw[<- h1,List.map_map];refine(List.map_id'' (fun x => ?_) _).symm;rfl
 have hcl:(ybb c a0).length=Go.Lib.countB ⟨a0.toArray⟩ ⟨#[c]⟩+1:=by
  have h2:=Go.Lib.splitB_all ⟨#[c]⟩ (by show 1<=1;omega) 0 (Go.Lib.countB ⟨a0.toArray⟩ ⟨#[c]⟩) ⟨a0.toArray⟩ rfl;rw[hl]at h2;simpa using h2
 obtain⟨l1,l2⟩:=ytd c a0
 have hnth:∀ i,i<(ybb c a0).length->((ybb c a0).getD i default).length<=maxLen:=by
  intro i hi
  have:(ybb c a0).getD i default∈ybb c a0:=by
   rw[List.getD_eq_getElem?_getD,List.getElem?_eq_getElem hi];simp
  have:=l2 _ this;unfold maxLen;omega
 refine Den.fresh (T:=T) (e:=1) (enc:=fun s:List UInt8=>[.str s]) (l:=ybb c a0) hok (by simp[yob,yxb]) (fun i=>[Value.string ⟨((ybb c a0).getD i default).toArray⟩]) (fun w M i hi=>⟨?_,rfl,by simp[Value.oneCell']⟩) ?_
 ·simp only[RepL]
  exact⟨_,[],[],[],rfl,rfl,y1b _ (hnth i hi),rfl,rfl⟩
 ·intro w M vs hI hr
  simp only[RepL]at hr;obtain⟨u0,us0,f0,g0,rfl,h0e,h0,u1,us1,f1,g1,rfl,h1e,h1,rfl,_⟩:=hr;have e0:=h0.val_str;have e1:=h1.val_str;subst e0 e1;obtain⟨m,hm⟩:=hI.1.2;refine(hS ⟨a0.toArray⟩ ⟨#[c]⟩ m w (by show a0.length<_;omega) hm (by show 1<=1;omega)).mono ?_;rintro e w' ⟨rfl,rfl⟩
  refine⟨w.heap.size,(ybb c a0).length,((ybb c a0).map fun x=>Value.string ⟨x.toArray⟩).toArray,by rw[<- hcl],?_⟩
  have hmap:(Go.Lib.splitB ⟨#[c]⟩ 0 (Go.Lib.countB ⟨a0.toArray⟩ ⟨#[c]⟩) ⟨a0.toArray⟩).map Value.string=(ybb c a0).map fun x=>Value.string ⟨x.toArray⟩:=by
   rw[hl,List.map_map];rfl
  rw[hmap];have hfl:=y7l w T ((ybb c a0).map fun x=>Value.string ⟨x.toArray⟩) (by rw[List.length_map];unfold maxLen;omega);rw[List.length_map]at hfl
  have hus:((List.range (ybb c a0).length).flatMap fun i=>[((ybb c a0).map fun x=>Value.string ⟨x.toArray⟩).getD i default])=(List.range (ybb c a0).length).flatMap fun i=>[Value.string ⟨((ybb c a0).getD i default).toArray⟩]:=by
   rw[List.flatMap_def,List.flatMap_def];congr 1
   apply List.map_congr_left;intro i hi;have hi:=List.mem_range.1 hi;simp[List.getD_eq_getElem?_getD,List.getElem?_map,List.getElem?_eq_getElem hi]
  rw[hus]at hfl;exact hfl
def zd (a0:(List UInt8)) (a1:(List UInt8)):(List (List UInt8)):=ybb (a1.getD 0 0) a0
theorem y5bb (a0:(List UInt8)) (a1:(List UInt8)) (hp0:a0.length<=1048576) (hp1:a1.length=1):Den Tryz.prog 55 [.str a0,.str a1] (ownL 9 1 eS (zd a0 a1)):=by
 exact yw0 ⟨_,Tryz.func55,rfl,rfl⟩ a0 a1 hp0 hp1 (fun s sep m w=>Any.strings_Split Tryz.lays146 (by kernel_rfl) s sep m w)
def D_zd : DF
 | [x0,x1]=>some (ownL 9 1 eS (zd (rdS x0) (rdS x1)),false,[wS x0,wS x1,(rdS x0).length<=1048576,(rdS x1).length=1])
 | _=>none
theorem ysl:OkD Tryz.prog 55 D_zd:=by
 intro xs r z ob h ho;unfold D_zd at h;split at h
 ·simp only[Option.some.injEq,Prod.mk.injEq]at h
  obtain⟨rfl,rfl,rfl⟩:=h;obtain⟨h0,h1,hp0,hp1,_⟩:=ho;exact Den.sim (y5bb _ _ hp0 hp1) (yp (yfb h0).1 <| yp (yfb h1).1 <| trivial) (yt (yfb h0).2 <| yt (yfb h1).2 <| rfl) rfl
 ·cases h
theorem y6q (a b:List UInt8) (h:a.length<=1048576):(zd a b).length<=1048577/\∀ x∈zd a b,x.length<=1048576:=by
 obtain⟨h1,h2⟩:=ytd (b.getD 0 0) a;exact⟨by unfold zd;omega,fun x hx=>by have:=h2 x hx;omega⟩
def zb (a0:(List UInt8)) (a1:(List UInt8)):((List UInt8)×(List UInt8)×Bool):=Go.Lib.cut a0 a1
theorem ywbb (a0:(List UInt8)) (a1:(List UInt8)) (hp0:a0.length<=1048576):Den Tryz.prog 122 [.str a0,.str a1] (.tup [.str ((zb a0 a1).1),.str ((zb a0 a1).2.1),.bool ((zb a0 a1).2.2)]):=by
 refine Den.plain ⟨_,Tryz.func122,rfl,rfl⟩ (by simp[yob,yxb]) ?_;intro w M vs hI hr;simp only[RepL]at hr;obtain⟨u0,us0,f0,g0,rfl,h0e,h0,u1,us1,f1,g1,rfl,h1e,h1,rfl,_⟩:=hr;have e0:=h0.val_str;have e1:=h1.val_str;subst e0 e1;obtain⟨m,hm⟩:=hI.1.2;refine(Any.strings_Cut Tryz.lays145 ⟨a0.toArray⟩ ⟨a1.toArray⟩ m w (by show a0.length<_;omega) hm).mono ?_;rintro e w' ⟨rfl,k,rfl⟩
 exact⟨_,rfl,yy1 w k,fun M'=>yq1 (y1b _ (by have:=yku a0 a1;show(Go.Lib.cut a0 a1).1.length<=maxLen;unfold maxLen;omega)) (y1b _ (by have:=yku a0 a1;show(Go.Lib.cut a0 a1).2.1.length<=maxLen;unfold maxLen;omega)) (yuc _)⟩
def D_zb : DF
 | [x0,x1]=>some (.tup [.str ((zb (rdS x0) (rdS x1)).1),.str ((zb (rdS x0) (rdS x1)).2.1),.bool ((zb (rdS x0) (rdS x1)).2.2)],false,[wS x0,wS x1,(rdS x0).length<=1048576])
 | _=>none
theorem yql:OkD Tryz.prog 122 D_zb:=by
 intro xs r z ob h ho;unfold D_zb at h;split at h
 ·simp only[Option.some.injEq,Prod.mk.injEq]at h
  obtain⟨rfl,rfl,rfl⟩:=h;obtain⟨h0,h1,hp0,_⟩:=ho;exact Den.sim (ywbb _ _ hp0) (yp (yfb h0).1 <| yp (yfb h1).1 <| trivial) (yt (yfb h0).2 <| yt (yfb h1).2 <| rfl) rfl
 ·cases h
def zf (a0:(List UInt8)) (a1:(List UInt8)):((List UInt8)×Bool):=(Go.Lib.trimSuffix a0 a1,Go.Lib.hasSuffix a0 a1)
theorem yybb (a0:(List UInt8)) (a1:(List UInt8)) (hp0:a0.length<=1048576):Den Tryz.prog 188 [.str a0,.str a1] (.tup [.str ((zf a0 a1).1),.bool ((zf a0 a1).2)]):=by
 refine Den.plain ⟨_,Tryz.func188,rfl,rfl⟩ (by simp[yob,yxb]) ?_;intro w M vs hI hr;simp only[RepL]at hr;obtain⟨u0,us0,f0,g0,rfl,h0e,h0,u1,us1,f1,g1,rfl,h1e,h1,rfl,_⟩:=hr;have e0:=h0.val_str;have e1:=h1.val_str;subst e0 e1;refine(Any.strings_CutSuffix Tryz.lays104 ⟨a0.toArray⟩ ⟨a1.toArray⟩ w (by show a0.length<=_;omega)).mono ?_;rintro e w' ⟨rfl,rfl⟩
 exact⟨_,rfl,Grow.refl _,fun M'=>yrab (y1b _ (by have:=yfd a0 a1;show(Go.Lib.trimSuffix a0 a1).length<=maxLen;unfold maxLen;omega)) (yuc _)⟩
def D_zf : DF
 | [x0,x1]=>some (.tup [.str ((zf (rdS x0) (rdS x1)).1),.bool ((zf (rdS x0) (rdS x1)).2)],false,[wS x0,wS x1,(rdS x0).length<=1048576])
 | _=>none
theorem yxab:OkD Tryz.prog 188 D_zf:=by
 intro xs r z ob h ho;unfold D_zf at h;split at h
 ·simp only[Option.some.injEq,Prod.mk.injEq]at h
  obtain⟨rfl,rfl,rfl⟩:=h;obtain⟨h0,h1,hp0,_⟩:=ho;exact Den.sim (yybb _ _ hp0) (yp (yfb h0).1 <| yp (yfb h1).1 <| trivial) (yt (yfb h0).2 <| yt (yfb h1).2 <| rfl) rfl
 ·cases h
theorem y3f (a b:List UInt8):(zb a b).1.length<=a.length/\(zb a b).2.1.length<=a.length:=yku a b
theorem ysr (a b:List UInt8):(zf a b).1.length<=a.length:=yfd a b
theorem ylg {ρ σ : Type} {b : Nat -> σ -> Except ρ σ} (I : Nat -> σ -> Prop) : ∀ {k i : Nat} {s t : σ}, yh b k i s = .ok t -> I i s -> (∀ j u v, i <= j -> j < i + k -> I j u -> b j u = .ok v -> I (j + 1) v) -> I (i + k) t
 | 0,i,s,t,h,h0,_=>by simp only[yh,Except.ok.injEq]at h;subst h;exact h0
 | k+1,i,s,t,h,h0,hb=>by
  simp only[yh]at h
  cases hq:b i s with
  | error e=>rw[hq]at h;simp at h
  | ok v=>
   rw[hq]at h;have:=ylg I (k:=k) (i:=i+1) h (hb i s v (Nat.le_refl _) (by omega) h0 hq) (fun j u v h1 h2=>hb j u v (by omega) (by omega));rw[show i+1+k=i+(k+1)by omega]at this;exact this
theorem yy9 {l:List (List UInt8)} {m:Nat} (h:∀ x∈l,x.length<=m) (i:Nat):(l.getD i default).length<=m:=by
 rw[List.getD_eq_getElem?_getD]
 cases hg:l[i]? with
 | none=>exact Nat.zero_le _
 | some x=>exact h x (List.mem_of_getElem? hg)
theorem ygp (a:List UInt8) (c:UInt8) (i:Nat):((zd a [c]).getD i default).length<=a.length:=yy9 (ytd c a).2 i
theorem yh4 (a:List UInt8) (c:UInt8):(zd a [c]).length<=a.length+1:=(ytd c a).1
theorem yjab {y:List UInt8} (h:y≠[]) (hl:y.length<=1048576):IntKind.wrap .i64 ((y.length:Int)-1)=(y.length:Int)-1/\(List.take (IntKind.wrap .i64 ((y.length:Int)-1)).toNat y).length<=1048576/\1<=y.length:=by
 have:=List.length_pos_iff.2 h;refine⟨by rw[IntKind.wrap_i64];omega,?_,this⟩;rw[List.length_take];omega
theorem ypn {α:Type} [Inhabited α] {l:List α} {x:α} {j:Nat} (h:j<l.length):(l++[x]).getD j default=l.getD j default:=by
 rw[List.getD_eq_getElem?_getD,List.getD_eq_getElem?_getD,List.getElem?_append_left h]
theorem ynn {α:Type} [Inhabited α] {l:List α} {x:α} {j:Nat} (h:¬ j<l.length) (h2:j<l.length+1):(l++[x]).getD j default=x:=by
 have:j=l.length:=by omega
 subst this;simp
theorem ykr {j n:Nat} (h:j<n):Nat.blt j n=true:=by
 cases hb:Nat.blt j n with
 | true=>rfl
 | false=>rw[<- Bool.not_eq_true,Nat.blt_eq]at hb;exact absurd h hb
theorem yst {j n:Nat} (h:¬ j<n):Nat.blt j n=false:=by
 cases hb:Nat.blt j n with
 | true=>rw[Nat.blt_eq]at hb;exact absurd hb h
 | false=>rfl
def zhe (a0:(List UInt8)) (a1:(List UInt8)):(List UInt8):=Go.Lib.trimSuffix a0 a1
theorem yq9 (a0:(List UInt8)) (a1:(List UInt8)) (hp0:a0.length<=1048576):Den Tryz.prog 130 [.str a0,.str a1] (.str (zhe a0 a1)):=by
 refine Den.plain ⟨_,Tryz.func130,rfl,rfl⟩ (by simp[yob,yxb]) ?_;intro w M vs hI hr;simp only[RepL]at hr;obtain⟨u0,us0,f0,g0,rfl,h0e,h0,u1,us1,f1,g1,rfl,h1e,h1,rfl,_⟩:=hr;have e0:=h0.val_str;have e1:=h1.val_str;subst e0 e1;refine(Any.strings_TrimSuffix Tryz.lays102 ⟨a0.toArray⟩ ⟨a1.toArray⟩ w (by show a0.length<=_;omega)).mono ?_;rintro e w' ⟨rfl,rfl⟩
 exact⟨_,rfl,Grow.refl _,fun M'=>y1b _ (by have:=yfd a0 a1;show(Go.Lib.trimSuffix a0 a1).length<=maxLen;unfold maxLen;omega)⟩
def D_zhe : DF
 | [x0,x1]=>some (.str (zhe (rdS x0) (rdS x1)),false,[wS x0,wS x1,(rdS x0).length<=1048576])
 | _=>none
theorem y03:OkD Tryz.prog 130 D_zhe:=by
 intro xs r z ob h ho;unfold D_zhe at h;split at h
 ·simp only[Option.some.injEq,Prod.mk.injEq]at h
  obtain⟨rfl,rfl,rfl⟩:=h;obtain⟨h0,h1,hp0,_⟩:=ho;exact Den.sim (yq9 _ _ hp0) (yp (yfb h0).1 <| yp (yfb h1).1 <| trivial) (yt (yfb h0).2 <| yt (yfb h1).2 <| rfl) rfl
 ·cases h
theorem y81 (a b:List UInt8):(zhe a b).length<=a.length:=yfd a b
end Go.Ab
namespace Go.Ab
open Go Go.Proofs Go.RowKit Go.Lib Go.Shelf
set_option maxHeartbeats 4000000 in
set_option maxRecDepth 100000 in
theorem ydab:yg8 Tryz.prog 211 37 16 208:=by
 intro w v y n i m A B news hin hm hA hB hN oA oB oN hv hy hne hby hbig;obtain⟨i0,z,ET⟩:=ElT.mk' (tS:=24) (tE:=37) G_ok rfl rfl rfl (by decide);obtain⟨u0,inf0,zero0,size0,byt0,zs0,pos0,zone0⟩:=ET;have u3:Tryz.prog.underlying 3=some (.int .i64):=by kernel_rfl
 rcases hy with⟨_,h⟩|⟨vb,vc,vcur,rfl,hvh,hvs,hvm,hvc,hvn⟩
 ·omega
 have hz1:¬ ((m:Int)=0):=by omega
 have hsrc:∀ (j:Nat) (u:Value),news[j]? = some u->w.cell? ((⟨vb,0,none⟩:Addr).add j)=some u:=by
  intro j u hu;have hj:j<m * 16:=by rw[<- hN];exact(List.getElem?_eq_some_iff.1 hu).1
  rw[Addr.add_lit,Nat.zero_add,cell_of_row w vb j vcur 37 (0,0) hvh,hvn j hj];exact hu
 by_cases hend:i=n
 ·subst hend
  have hB0:B=[]:=List.eq_nil_of_length_eq_zero (by simpa using hB);subst hB0
  obtain⟨v',w',hr,ho⟩:=yin (P:=Tryz.prog) (w:=w) (ty:=24) (y:=.slice (some ⟨vb,0,none⟩) m vc) u0 inf0 zero0 size0 byt0 zs0 hA hN oN (by
   rcases hv with h|⟨b,c,cur,h1,h2,h3,h4,h5,h6⟩
   ·exact .inl h
   ·exact .inr ⟨b,c,cur,h1,h2,h3,h4,h5,fun j hj=>by rw[h6 j hj,List.append_nil]⟩) (.inr ⟨_,_,rfl,hsrc⟩) hby hbig
  rcases ho with⟨_,h,_⟩|⟨b',cap',cur',rfl,ho⟩
  ·omega
  have fin:AppOut w w' 37 16 (i+m) 0 v.ownBlock (A++news++[]) [] b' cap' cur':=by
   refine⟨ho.os,ho.tape,ho.output,ho.size,ho.other,ho.row,ho.len,by have:=ho.fit;omega,ho.big,?_,fun j hj=>by omega,ho.place⟩;intro j hj;rw[List.append_nil];by_cases h:j<i * 16
   ·rw[List.getElem?_append_left (by omega)];exact ho.olds j h
   ·have:=ho.adds (j-i * 16) (by omega)
    rw[List.getElem?_append_right (by omega),hA, <- this];congr 1;omega
  rw[List.append_nil]at fin
  have hsh:(v=.slice none 0 0/\i=0)\/∃ b c,v=.slice (some ⟨b,0,none⟩) i c/\i<=c/\c<=9223372036854775807:=by
   rcases hv with h|⟨b,c,cur,h1,h2,h3,h4,h5,h6⟩
   ·exact .inl h
   ·exact .inr ⟨b,c,h1,h4,h5⟩
  clear hne ho hv hvh hvs hvn hsrc hA hB hN oA oB oN;rcases hsh with⟨rfl,rfl⟩|⟨b,c,rfl,hic,hcm⟩
  ·go_enter Tryz.func211,Tryz.ntmps211
   go_wp2_with (at_builtin;refine yie _ rfl _ _ _ _ rfl _ _ rfl rfl hr ?_)
   go_ret
   rw[Nat.zero_add]at fin ⊢;first|exact⟨b',cap',cur',rfl,by first|exact fin|(rw[List.append_nil];exact fin)⟩|exact⟨b',cap',rfl,cur',by first|exact fin|(rw[List.append_nil];exact fin)⟩
  ·go_enter Tryz.func211,Tryz.ntmps211
   go_wp2_with (at_builtin;refine yie _ rfl _ _ _ _ rfl _ _ rfl rfl hr ?_)
   all_goals go_ret
   all_goals first|exact⟨b',cap',cur',rfl,by first|exact fin|(rw[List.append_nil];exact fin)⟩|exact⟨b',cap',rfl,cur',by first|exact fin|(rw[List.append_nil];exact fin)⟩
 ·have hlt:i<n:=by omega
  rcases hv with⟨_,h⟩|⟨b,c,cur,rfl,hb,hcs,hnc,hcm,hold⟩
  ·omega
  have hvb:vb≠b:=fun h=>hne b rfl (by rw[h];rfl)
  have mixed:Tryz.prog.follows .mixedOrders=true:=by kernel_rfl
  have hz2:¬ ((i:Int)=(n:Int)):=by omega
  have hcSX:c<=9223372036854775807:=hcm;have hw1:IntKind.i64.wrap ((i:Int)+(m:Int))=(i:Int)+(m:Int):=by rw[IntKind.wrap_i64];omega
  have hb1:(0:Int)<=(i:Int)+(m:Int):=by omega
  have hin:i<=n:=by omega
  have htn:((i:Int)+(m:Int)).toNat=i+m:=by omega
  have hb4:¬ (c=i):=by omega
  have hAn:A.length+B.length=n * 16:=by omega
  have hgA:∀ (j:Nat) (u:Value),A[j]? = some u->cur[j]? = some u:=by
   intro j u hu;have hj:j<A.length:=(List.getElem?_eq_some_iff.1 hu).1;rw[hold j (by omega),List.getElem?_append_left hj,hu]
  have hgB:∀ (j:Nat) (u:Value),B[j]? = some u->cur[i * 16+j]? = some u:=by
   intro j u hu;have hj:j<B.length:=(List.getElem?_eq_some_iff.1 hu).1;rw[hold _ (by omega),List.getElem?_append_right (by omega),hA,Nat.add_sub_cancel_left,hu]
  by_cases hroom:n+m<=c
  ·have hb2:¬ (c=i+m):=by omega
   have hb3:(i:Int)<=(n:Int)+(m:Int):=by omega
   have hmin:Nat.min (n+m-i) (n+m-(i+m))=n-i:=by simp only[Nat.min_def];split<;>omega
   have hmin2:Nat.min m (n+m-i)=m:=by simp only[Nat.min_def];split<;>omega
   obtain⟨cur1,hcur1⟩:∃ cur1,cur1=(putV ((i+m) * 16) B cur.toList).toArray:=⟨_,rfl⟩
   have hl1:cur1.size=cur.size:=by rw[hcur1];simp[ykb]
   have hov:∀ lb cb,(callFunc 254 #[.slice (some ⟨vb,0,none⟩) m vc,.slice (some ⟨b,(i+m) * 16,none⟩) lb cb]).run Tryz.prog w=.ok (.value (.bool false)) w:=fun lb cb=>by
    rw[run_callFunc_extern Tryz.func254 (by kernel_rfl) (by kernel_rfl) (by kernel_rfl) (e:=Extern.SlicesOverlaps.overlaps #[24,24] #[4]) (by kernel_rfl),
     yqp w 24 4 37 i0 u0 inf0 vb b 0 ((i+m) * 16) m vc lb cb hvb vcur cur 37 37 hvh hb (by omega)]
    rfl
   have hcp1:∀ ty dc sc,(Builtin.copy_ #[24,24] ty #[.slice (some ⟨b,(i+m) * 16,none⟩) (n+m-(i+m)) dc,.slice (some ⟨b,i * 16,none⟩) (n+m-i) sc]).run Tryz.prog w.drew=.ok (goInt ((n-i:Nat):Int)) (w.drew.setRow b cur1):=fun ty dc sc=>by
    rw[hcur1]
    exact yzh w.drew 24 24 ty 37 i0 b ((i + m) * 16) _ dc ⟨b, i * 16, none⟩ _ sc (n - i) cur 37 B u0 inf0 hb hmin (by rw [size0]; exact hB)
     (fun j u hj=>by rw[Addr.add_lit,cell_of_row w.drew b _ cur 37 (0,0) hb];exact hgB j u hj) (by omega) oB
   have hr1:∀ W:World,W.heap=(w.drew.setRow b cur1).heap->W.heap[b]? = some (.cells cur1 37 (0,0)):=fun W h=>by rw[h];exact setRow_heap w.drew b cur cur1 37 (0,0) hb
   have hcp2:∀ (W:World),W.heap=(w.drew.setRow b cur1).heap->∀ ty dc,(Builtin.copy_ #[24,24] ty #[.slice (some ⟨b,i * 16,none⟩) (n+m-i) dc,.slice (some ⟨vb,0,none⟩) m vc]).run Tryz.prog W=.ok (goInt m) (W.setRow b (putV (i * 16) news cur1.toList).toArray):=fun W hW ty dc=>
    yzh W 24 24 ty 37 i0 b (i * 16) _ dc ⟨vb, 0, none⟩ m vc m cur1 37 news u0 inf0 (hr1 W hW) hmin2 (by rw [size0]; exact hN)
     (fun j u hj=>by
      have hj2:j<m * 16:=by rw[<- hN];exact(List.getElem?_eq_some_iff.1 hj).1
      have hvh2:W.heap[vb]? = some (.cells vcur 37 (0,0)):=by rw[hW,setRow_other w.drew b vb cur1 hvb];exact hvh
      rw[Addr.add_lit,Nat.zero_add,cell_of_row W vb j vcur 37 (0,0) hvh2,hvn j hj2];exact hj) (by omega) oN
   have fin:∀ W:World,W.heap=(w.drew.setRow b cur1).heap->W.os=w.os->W.tape=w.tape->W.output=w.output ->
     AppOut w (W.setRow b (putV (i * 16) news cur1.toList).toArray) 37 16 (n+m) 0 (Value.ownBlock (.slice (some ⟨b,0,none⟩) n c)) (A++news++B) [] b c (putV (i * 16) news cur1.toList).toArray:=by
    intro W hW h1 h2 h3;refine⟨h1,h2,h3,?_,?_,setRow_heap W b cur1 _ 37 (0,0) (hr1 W hW),by simp[ykb,hl1,hcs],by omega,hcm,?_,fun j hj=>by omega,.inl rfl⟩
    ·simp[hW]
    ·intro k hk hkb
     rw[setRow_other W b k _ hkb,hW,setRow_other w.drew b k _ hkb];rfl
    ·intro j hj
     simp only[List.getElem?_toArray,ymb];have hcl:cur1.toList.length=c * 16:=by simp[hl1,hcs]
     by_cases h1:j<i * 16
     ·rw[if_neg (by omega),List.append_assoc,List.getElem?_append_left (by omega),hcur1]
      simp only[ymb];rw[if_neg (by omega)];have:A[j]? = some A[j]:=List.getElem?_eq_getElem (by omega);rw[this];simpa using hgA j _ this
     ·by_cases h2:j<(i+m) * 16
      ·rw[if_pos (by rw[hcl,hN];omega),List.append_assoc,List.getElem?_append_right (by omega),List.getElem?_append_left (by omega),hA]
      ·rw[if_neg (by omega),List.getElem?_append_right (by simp only[List.length_append];omega),hcur1]
       simp only[ymb];rw[if_pos (by simp only[Array.length_toList];omega)];congr 1;simp only[List.length_append];omega
   clear hold hgA hgB hcs hb hvh hvs hvn hsrc hA hB hN oA oB oN hne hby hAn hr1 zero0 byt0 zs0 zone0 size0 hcur1 hl1 hmin hmin2;go_enter Tryz.func211,Tryz.ntmps211
   go_wp2_with (simp only[hov])
   go_region_law_o (refine yqn rfl _ _ 24 24 rfl _ _ (by simp[Act.eval,Act.put]) (by simp[Act.eval,Act.put]) (hcp1 _ _ _) ?_)
   go_wp2_with (at_builtin;refine yor _ rfl _ _ 24 24 rfl _ _ rfl rfl (hcp2 _ rfl _ _) ?_)
   go_ret
   exact⟨b,c,_,rfl,fin _ rfl rfl rfl rfl⟩
  ·have hz3:(c:Int)<(n:Int)+(m:Int):=by omega
   have hbw:b<w.heap.size:=(Array.getElem?_eq_some_iff.1 hb).1;have hvw:vb<w.heap.size:=(Array.getElem?_eq_some_iff.1 hvh).1;have hik:i+(n+m-i)=n+m:=by omega
   have hrz:∀ ty,(Builtin.append_ #[24,3] ty #[.slice (some ⟨b,0,none⟩) i c,.int .i64 ((n:Int)+(m:Int)-(i:Int))]).run Tryz.prog w=.ok (.slice (some ⟨w.heap.size,0,none⟩) (n+m) (grownCap w (n+m) c 37)) (w.drew.alloc (.cells (A.toArray++Builtin.zeroCells z.cells (n+m-i)++Builtin.zeroCells z.cells (grownCap w (n+m) c 37-(n+m))) 37)):=fun ty=>by
    have h := y9j (P := Tryz.prog) w 24 3 ty 37 i0 z u0 u3 inf0 zero0 ⟨b, 0, none⟩ i c A (by rw [size0]; exact hA)
     (fun j u hj=>by rw[Addr.add_lit,Nat.zero_add,cell_of_row w b _ cur 37 (0,0) hb];exact hgA j u hj) (n+m-i) (by omega) (by rw[size0];decide) (by omega) (by omega) (by rw[byt0,hik];exact hby)
    rw[hik,show((n+m-i:Nat):Int)=(n:Int)+(m:Int)-(i:Int)by omega]at h;exact h
   obtain⟨N,hN0⟩:∃ N,N=w.heap.size:=⟨_,rfl⟩
   obtain⟨G9,hG⟩:∃ G9,G9=grownCap w (n+m) c 37:=⟨_,rfl⟩
   have hGn:n+m<=G9:=by rw[hG];exact grownCap_ge w _ _ _
   have hGSX:G9<=9223372036854775807:=by
    have:=grownCap_le_maxLen w (n+m) c 37 (by unfold maxLen;omega);rw[<- hG]at this;unfold maxLen at this;omega
   obtain⟨row,hrow⟩:∃ row:Array Value,row=A.toArray++Builtin.zeroCells z.cells (n+m-i)++Builtin.zeroCells z.cells (G9-(n+m)):=⟨_,rfl⟩
   rw[<- hG, <- hrow, <- hN0]at hrz
   have hrl:row.size=G9 * 16:=by
    rw[hrow];simp only[Array.size_append,List.size_toArray,size_zeroCells,zs0,hA];omega
   have hGi:¬ (G9=i):=by omega
   have hGim:¬ (G9=i+m):=by omega
   have hbN:b≠N:=by omega
   have hvN:vb≠N:=by omega
   have hmin1:Nat.min m (n+m-i)=m:=by simp only[Nat.min_def];split<;>omega
   have hmin2:Nat.min (n-i) (n+m-(i+m))=n-i:=by simp only[Nat.min_def];split<;>omega
   have hW1:∀ W:World,W.heap=w.heap.push (.cells row 37)->W.heap[N]? = some (.cells row 37 (0,0))/\W.heap[b]? = some (.cells cur 37 (0,0))/\W.heap[vb]? = some (.cells vcur 37 (0,0)):=by
    intro W h;rw[h];refine⟨by rw[hN0];simp,?_,?_⟩
    ·rw[Array.getElem?_push,if_neg (by omega)];exact hb
    ·rw[Array.getElem?_push,if_neg (by omega)];exact hvh
   obtain⟨row2,hrow2⟩:∃ row2,row2=(putV (i * 16) news row.toList).toArray:=⟨_,rfl⟩
   have hl2:row2.size=G9 * 16:=by rw[hrow2];simp[ykb,hrl]
   have hcpA:∀ (W:World),W.heap=w.heap.push (.cells row 37)->∀ ty dc,(Builtin.copy_ #[24,24] ty #[.slice (some ⟨N,i * 16,none⟩) (n+m-i) dc,.slice (some ⟨vb,0,none⟩) m vc]).run Tryz.prog W=.ok (goInt m) (W.setRow N row2):=fun W hW ty dc=>by
    rw[hrow2]
    exact yzh W 24 24 ty 37 i0 N (i * 16) _ dc ⟨vb, 0, none⟩ m vc m row 37 news u0 inf0 (hW1 W hW).1 hmin1 (by rw [size0]; exact hN)
     (fun j u hj=>by
      have hj2:j<m * 16:=by rw[<- hN];exact(List.getElem?_eq_some_iff.1 hj).1
      rw[Addr.add_lit,Nat.zero_add,cell_of_row W vb j vcur 37 (0,0) (hW1 W hW).2.2,hvn j hj2];exact hj) (by omega) oN
   have hW2:∀ W W0:World,W0.heap=w.heap.push (.cells row 37)->W.heap=(W0.setRow N row2).heap->W.heap[N]? = some (.cells row2 37 (0,0))/\W.heap[b]? = some (.cells cur 37 (0,0)):=by
    intro W W0 h0 h;rw[h];exact⟨setRow_heap W0 N row row2 37 (0,0) (hW1 W0 h0).1,by rw[setRow_other W0 N b row2 hbN];exact(hW1 W0 h0).2.1⟩
   have hcpB:∀ (W W0:World),W0.heap=w.heap.push (.cells row 37)->W.heap=(W0.setRow N row2).heap->∀ ty dc sc,(Builtin.copy_ #[24,24] ty #[.slice (some ⟨N,(i+m) * 16,none⟩) (n+m-(i+m)) dc,.slice (some ⟨b,i * 16,none⟩) (n-i) sc]).run Tryz.prog W=.ok (goInt ((n-i:Nat):Int)) (W.setRow N (putV ((i+m) * 16) B row2.toList).toArray):=fun W W0 h0 hW ty dc sc=>
    yzh W 24 24 ty 37 i0 N ((i + m) * 16) _ dc ⟨b, i * 16, none⟩ _ sc (n - i) row2 37 B u0 inf0 (hW2 W W0 h0 hW).1 hmin2 (by rw [size0]; exact hB)
     (fun j u hj=>by rw[Addr.add_lit,cell_of_row W b _ cur 37 (0,0) (hW2 W W0 h0 hW).2];exact hgB j u hj) (by omega) oB
   have fin:∀ W W0:World,W0.heap=w.heap.push (.cells row 37)->W.heap=(W0.setRow N row2).heap->W.os=w.os->W.tape=w.tape->W.output=w.output ->
     AppOut w (W.setRow N (putV ((i+m) * 16) B row2.toList).toArray) 37 16 (n+m) 0 (Value.ownBlock (.slice (some ⟨b,0,none⟩) n c)) (A++news++B) [] N G9 (putV ((i+m) * 16) B row2.toList).toArray:=by
    intro W W0 h0 hW h1 h2 h3;refine⟨h1,h2,h3,?_,?_,setRow_heap W N row2 _ 37 (0,0) (hW2 W W0 h0 hW).1,by simp[ykb,hl2],by omega,hGSX,?_,fun j hj=>by omega,.inr hN0⟩
    ·simp[hW,h0]
    ·intro k hk hkb
     rw[setRow_other W N k _ hkb,hW,setRow_other W0 N k _ hkb,h0,Array.getElem?_push,if_neg (by omega)]
    ·intro j hj
     simp only[List.getElem?_toArray,ymb];have hcl:row2.toList.length=G9 * 16:=by simp[hl2]
     have hcl1:row.toList.length=G9 * 16:=by simp[hrl]
     by_cases h1:(i+m) * 16<=j
     ·rw[if_pos (by omega),List.getElem?_append_right (by simp only[List.length_append];omega)]
      congr 1;simp only[List.length_append];omega
     ·rw[if_neg (by omega),hrow2,List.getElem?_append_left (by simp only[List.length_append];omega)]
      simp only[ymb];by_cases h2:i * 16<=j
      ·rw[if_pos (by omega),List.getElem?_append_right (by omega),hA]
      ·rw[if_neg (by omega),List.getElem?_append_left (by omega),hrow]
       rw[Array.toList_append,Array.toList_append,List.append_assoc,List.getElem?_append_left (by simp;omega)]
   clear hold hgA hgB hcs hb hvh hvs hvn hsrc hA hB hN oA oB oN hne hby hAn zero0 byt0 zs0 zone0 size0 hW1 hW2 hrl hl2 hik hrow hrow2 hG hmin1 hmin2 hbw hvw;subst hN0;have hcpA1:=hcpA (w.alloc (.cells row 37)).drew rfl;have hcpB1:=hcpB ((w.alloc (.cells row 37)).drew.setRow w.heap.size row2).drew (w.alloc (.cells row 37)).drew rfl rfl;go_enter Tryz.func211,Tryz.ntmps211
   go_wp2_with (at_builtin;refine yie _ rfl _ _ _ _ rfl _ _ rfl rfl (hrz _) ?_)
   go_region_law_o (refine yqn rfl _ _ 24 24 rfl _ _ (by simp[Act.eval,Act.put]) (by simp[Act.eval,Act.put]) (hcpB1 _ _ _) ?_)
   go_wp2
   go_ret
   first|exact⟨_,_,_,rfl,fin _ (w.alloc (.cells row 37)).drew rfl rfl rfl rfl rfl⟩|exact⟨_,_,rfl,_,fin _ (w.alloc (.cells row 37)).drew rfl rfl rfl rfl rfl⟩
def zsg (a0:(List Aid)) (a1:Int) (a2:(List Aid)):List Aid:=a0.take a1.toNat++a2++a0.drop a1.toNat
theorem yyab (a0:(List Aid)) (a1:Int) (a2:(List Aid)) (hp0:0<=a1) (hp1:a1<=a0.length) (hp2:0<a2.length) (hp3:a0.length<338311270084) (hp4:a2.length<338311270084):DenM Tryz.prog 211 [ownL 37 16 y4b a0,.int .i64 a1,ownL 37 16 y4b a2] (ownL 37 16 y4b (zsg a0 a1 a2)) [.any,.any,.any]:=
 yz8 ⟨_,Tryz.func211,rfl,rfl⟩ ydab (fun v=>by simp[y4b,ownL,y5b,yac,yx,yr]) a0 a2 a1 hp0 hp1 hp2 (by omega) (by omega)
def D_zsg : List AV -> Option (AV × List AV × List Prop)
 | [x0,x1,x2]=>some (ownL 37 16 y4b (zsg (rdL dAid x0) (rdI x1) (rdL dAid x2)),[.any,.any,.any],[wO 37 16 y4b dAid x0,wI .i64 x1,wO 37 16 y4b dAid x2,0<=(rdI x1),(rdI x1)<=(rdL dAid x0).length,0<(rdL dAid x2).length,(rdL dAid x0).length<338311270084,(rdL dAid x2).length<338311270084])
 | _=>none
theorem yu7:OkM Tryz.prog 211 D_zsg:=by
 intro xs r outs ob h ho;unfold D_zsg at h;split at h
 ·simp only[Option.some.injEq,Prod.mk.injEq]at h
  obtain⟨rfl,rfl,rfl⟩:=h;obtain⟨h0,h1,h2,hp0,hp1,hp2,hp3,hp4,_⟩:=ho;exact DenM.sim (yyab _ _ _ hp0 hp1 hp2 hp3 hp4) (yp (y2q h0) <| yp (yod h1).1 <| yp (y2q h2) <| trivial)
 ·cases h
end Go.Ab
namespace Go.Ab
open Go Go.Proofs
def yat {ρ σ α : Type} (f : α -> σ -> Except ρ σ) : List α -> σ -> Except ρ σ
  | [],s=>.ok s
  | x :: l, s => match f x s with
    | .error e=>.error e
    | .ok t=>yat f l t
theorem y5j {ρ σ α:Type} [Inhabited α] (l:List α) (b:Nat->σ->Except ρ σ) (f:α->σ->Except ρ σ) (hb:∀ i s,i<l.length->b i s=f (l.getD i default) s) :
  ∀ (r p:List α) (s:σ),l=p++r->yh b r.length p.length s=yat f r s
 | [],p,s,_=>rfl
 | x::r,p,s,e=>by
  have hi:p.length<l.length:=by subst e;simp
  have hg:l.getD p.length default=x:=by subst e;simp
  simp only[List.length_cons,yh,yat];rw[hb _ _ hi,hg]
  cases f x s with
  | error e=>rfl
  | ok t=>
   have:=y5j l b f hb r (p++[x]) t (by simp[e]);simpa using this
theorem yfv {ρ σ α:Type} [Inhabited α] (l:List α) (b:Nat->σ->Except ρ σ) (f:α->σ->Except ρ σ) (s:σ) (hb:∀ i s,i<l.length->b i s=f (l.getD i default) s) :
  yh b (l.length-0) 0 s=yat f l s:=y5j l b f hb l [] s rfl
theorem yrj {ρ α β:Type} [Inhabited α] (l:List α) (b:Nat->List β->Except ρ (List β)) (p:α->Bool) (g:α->β) (hb:∀ i s,i<l.length->b i s=bif p (l.getD i default)then .ok (s++[g (l.getD i default)])else .ok s) :
  yh b (l.length-0) 0 ([]:List β)=.ok ((l.filter p).map g):=by
 rw[yfv l b (fun x s=>bif p x then .ok (s++[g x])else .ok s) [] hb]
 have:∀ (r:List α) (s:List β),yat (ρ:=ρ) (fun x s=>bif p x then .ok (s++[g x])else .ok s) r s=.ok (s++(r.filter p).map g):=by
  intro r
  induction r with
  | nil=>intro s;simp[yat]
  | cons x r ih=>
   intro s
   cases h:p x with
   | true=>simp only[yat,h,cond_true];rw[ih];simp[h]
   | false=>simp only[yat,h,cond_false];rw[ih];simp[h]
 simpa using this l []
theorem y4z {ρ α β:Type} [Inhabited α] (l:List α) (b:Nat->List β->Except ρ (List β)) (g:α->β) (hb:∀ i s,i<l.length->b i s=.ok (s++[g (l.getD i default)])) :
  yh b (l.length-0) 0 ([]:List β)=.ok (l.map g):=by
 have:=yrj (ρ:=ρ) l b (fun _=>true) g (fun i s hi=>by rw[hb i s hi];rfl);rw[this,List.filter_eq_self.2 (fun _ _=>rfl)]
theorem ylm {ρ : Type} {b b' : Nat -> Unit -> Except ρ Unit} (ok : Nat -> Prop) (hok : ∀ j, b' j () = .ok () -> ok j) : ∀ (k i : Nat), (∀ q, q < i -> ok q) -> (∀ j, i <= j -> j < i + k -> (∀ q, q < j -> ok q) -> b j () = b' j ()) -> yh b k i () = yh b' k i ()
 | 0,i,_,_=>rfl
 | k+1,i,h0,hs=>by
  have h:=hs i (Nat.le_refl _) (by omega) h0;simp only[yh];rw[h]
  cases hb:b' i ()with
  | error e=>rfl
  | ok t=>
   refine ylm ok hok k (i+1) (fun q hq => ?_) (fun j h1 h2 h3=>hs j (by omega) (by omega) h3);by_cases hqi:q<i
   ·exact h0 q hqi
   ·have:q=i:=by omega
    subst this;exact hok q hb
theorem yzbb {α:Type} [Inhabited α] (R:α->α->Prop) (ht:∀ a b c,R a b->R b c->R a c) (l:List α):l.Pairwise R↔∀ j,j+1<l.length->R (l.getD j default) (l.getD (j+1) default):=by
 rw[List.pairwise_iff_getElem];constructor
 ·intro h j hj
  have:=h j (j+1) (by omega) hj (by omega);rw[List.getD_eq_getElem?_getD,List.getD_eq_getElem?_getD,List.getElem?_eq_getElem hj,List.getElem?_eq_getElem (show j<l.length by omega)];exact this
 ·intro h i j hi hj hij
  have h':∀ j (hj:j+1<l.length),R (l[j]'(by omega)) (l[j+1]'hj):=by
   intro j hj;have:=h j hj;rw[List.getD_eq_getElem?_getD,List.getD_eq_getElem?_getD,List.getElem?_eq_getElem hj,List.getElem?_eq_getElem (show j<l.length by omega)]at this;exact this
  obtain⟨d,rfl⟩:∃ d,j=i+1+d:=⟨j-(i+1),by omega⟩
  clear hij
  induction d with
  | zero=>exact h' i hj
  | succ d ih=>exact ht _ _ _ (ih (by omega) h') (h' (i+1+d) hj)
theorem yah {b:Nat->Unit->Except Bool Unit} (p:Nat->Bool) (n:Nat) (r:Bool) (hb:∀ j u,j<n->b j u=bif p j then .error false else .ok ()) :
  (match yh b (n-0) 0 ()with|.error e=>e|.ok _=>r)=true↔(∀ j,j<n->p j=false)/\r=true:=by
 rw[yid p false (fun j u _ hj=>hb j u (by omega))];simp only[Nat.sub_zero,Nat.zero_add]
 cases h:(List.range n).any fun j=>p j with
 | true=>
  simp only[cond_true];constructor
  ·intro h;cases h
  ·rintro⟨h1,_⟩
   obtain⟨j,hj,hp⟩:=List.any_eq_true.1 h;rw[h1 j (by simpa using hj)]at hp;cases hp
 | false=>
  simp only[cond_false];constructor
  ·intro hr
   refine⟨fun j hj => ?_,hr⟩
   cases hp:p j with
   | false=>rfl
   | true=>exact absurd (List.any_eq_true.2 ⟨j,List.mem_range.2 hj,hp⟩) (by rw[h];simp)
  ·exact fun h=>h.2
end Go.Ab
namespace Go.Ab
open Go Go.Proofs Go.RowKit Go.Lib Go.Shelf
set_option maxHeartbeats 4000000 in
set_option maxRecDepth 100000 in
theorem yh9:yd8 Tryz.prog 212 37 16:=by
 intro w b cap n i j cur A C B hij hjn hA hC hB oB hb hcs hnc hcm hold;obtain⟨i0,z,ET⟩:=ElT.mk' (tS:=24) (tE:=37) G_ok rfl rfl rfl (by decide);obtain⟨u0,inf0,zero0,size0,byt0,zs0,pos0,zone0⟩:=ET;have mixed:Tryz.prog.follows .mixedOrders=true:=by kernel_rfl
 have hz2:¬ ((i:Int)=(j:Int)):=by omega
 have hcSX:cap<=9223372036854775807:=hcm;have hic:i<=cap:=by omega
 have hjc:j<=cap:=by omega
 have hin:i<=n:=by omega
 have hnn:i+(n-j)=n-(j-i):=by omega
 have hgA:∀ (k:Nat) (u:Value),A[k]? = some u->cur[k]? = some u:=by
  intro k u hu;have hj:k<A.length:=(List.getElem?_eq_some_iff.1 hu).1;rw[hold k (by omega),List.append_assoc,List.getElem?_append_left hj,hu]
 have hgB:∀ (k:Nat) (u:Value),B[k]? = some u->cur[j * 16+k]? = some u:=by
  intro k u hu;have hj:k<B.length:=(List.getElem?_eq_some_iff.1 hu).1;rw[hold _ (by omega),List.getElem?_append_right (by simp only[List.length_append];omega),show j * 16+k-(A++C).length=k by simp only[List.length_append];omega,hu]
 obtain⟨src,hsrc⟩:∃ src:Addr,(if cap=j then(⟨b,0,none⟩:Addr)else⟨b,j * 16,none⟩)=src:=⟨_,rfl⟩
 have hsc:∀ (k:Nat) (u:Value),B[k]? = some u->w.drew.cell? (src.add k)=some u:=by
  intro k u hu;have hj:k<B.length:=(List.getElem?_eq_some_iff.1 hu).1;rw[<- hsrc,if_neg (by omega),Addr.add_lit,cell_of_row w.drew b _ cur 37 (0,0) hb];exact hgB k u hu
 obtain⟨cur1,hcur1⟩:∃ cur1,cur1=(putV (i * 16) B cur.toList).toArray:=⟨_,rfl⟩
 have hl1:cur1.size=cap * 16:=by rw[hcur1];simp[ykb,hcs]
 have hap:∀ ty,(Builtin.append_ #[24,24] ty #[.slice (some ⟨b,0,none⟩) i cap,.slice (some src) (n-j) (cap-j)]).run Tryz.prog w.drew=.ok (.slice (some ⟨b,0,none⟩) (n-(j-i)) cap) (w.drew.setRow b cur1):=fun ty=>by
  have h:=run_append_room (P:=Tryz.prog) w.drew 24 ty 37 i0 u0 inf0 b i cap cur hb src (n-j) (cap-j) B (by rw[size0];exact hB) hsc oB (by omega) (by rw[size0];omega);rw[size0,ybe (i * 16) B cur.toList (by simp;omega), <- hcur1,hnn]at h;exact h
 have hr1:(w.drew.setRow b cur1).heap[b]? = some (.cells cur1 37 (0,0)):=setRow_heap w.drew b cur cur1 37 (0,0) hb;obtain⟨cur2,hcur2⟩:∃ cur2,cur2=(putV ((n-(j-i)) * 16) ((List.range (j-i)).flatMap fun _=>z.cells.toList) cur1.toList).toArray:=⟨_,rfl⟩
 have hcl:∀ ty c,(Builtin.clear_ #[24] ty #[.slice (some ⟨b,(n-(j-i)) * 16,none⟩) (n-(n-(j-i))) c]).run Tryz.prog (w.drew.setRow b cur1)=.ok (.tuple #[]) ((w.drew.setRow b cur1).setRow b cur2):=fun ty c=>by
  rw[show n-(n-(j-i))=j-i by omega,hcur2];exact y6y _ 24 ty 37 i0 z u0 inf0 zero0 (by rw[size0];exact zs0) zone0 b _ (j-i) c 37 cur1 hr1 (by rw[size0,hl1];omega) (by omega)
 have hvl:=yff (vs:=fun _=>z.cells.toList) (e:=16) (j-i) (fun _ _=>by simpa using zs0)
 have fin:AppOut w ((w.drew.setRow b cur1).setRow b cur2) 37 16 (n-(j-i)) 0 (some b) (A++B) [] b cap cur2:=by
  refine⟨rfl,rfl,rfl,by simp,?_,setRow_heap _ b cur1 _ 37 (0,0) hr1,by rw[hcur2];simp[ykb,hl1],by omega,hcm,?_,fun j hj=>by omega,.inl rfl⟩
  ·intro k hk hkb
   rw[setRow_other _ b k _ hkb,setRow_other w.drew b k _ hkb];rfl
  ·intro k hk
   rw[hcur2];simp only[List.getElem?_toArray,ymb];rw[if_neg (by omega),hcur1];simp only[ymb];by_cases h1:k<i * 16
   ·rw[if_neg (by omega),List.getElem?_append_left (by omega)]
    have:A[k]? = some A[k]:=List.getElem?_eq_getElem (by omega);rw[this];simpa using hgA k _ this
   ·rw[if_pos (by simp only[Array.length_toList];omega),List.getElem?_append_right (by omega),hA]
 have hile:i<=j:=by omega
 have hne1:¬ (cap=n-(j-i)):=by omega
 have hle1:n-(j-i)<=n:=by omega
 by_cases hcj:cap=j
 all_goals
  first|rw[if_pos hcj]at hsrc|rw[if_neg hcj]at hsrc
  subst hsrc;try subst hcj
  clear hold hgA hgB hcs hb hA hC hB oB zero0 byt0 zs0 zone0 size0 hr1 hcur1 hcur2 hl1 hvl hsc hnn;go_enter Tryz.func212,Tryz.ntmps212
  go_wp2
  go_region_law_o (refine y5r rfl _ _ 24 24 rfl _ _ (by simp[Act.eval,Act.put]<;>omega) (by simp[Act.eval,Act.put]<;>omega) (hap _) ?_)
  go_wp2
  go_ret
  first|exact⟨_,rfl,fin⟩|exact⟨rfl,_,fin⟩
def ztg (a0:(List Aid)) (a1:Int) (a2:Int):List Aid:=a0.take a1.toNat++a0.drop a2.toNat
theorem yiab (a0:(List Aid)) (a1:Int) (a2:Int) (hp0:0<=a1) (hp1:a1<a2) (hp2:a2<=a0.length):DenM Tryz.prog 212 [ownL 37 16 y4b a0,.int .i64 a1,.int .i64 a2] (ownL 37 16 y4b (ztg a0 a1 a2)) [.any,.any,.any]:=
 ynab ⟨_,Tryz.func212,rfl,rfl⟩ yh9 (fun v=>by simp[y4b,ownL,y5b,yac,yx,yr]) a0 a1 a2 hp0 hp1 hp2
def D_ztg : List AV -> Option (AV × List AV × List Prop)
 | [x0,x1,x2]=>some (ownL 37 16 y4b (ztg (rdL dAid x0) (rdI x1) (rdI x2)),[.any,.any,.any],[wO 37 16 y4b dAid x0,wI .i64 x1,wI .i64 x2,0<=(rdI x1),(rdI x1)<(rdI x2),(rdI x2)<=(rdL dAid x0).length])
 | _=>none
theorem y56:OkM Tryz.prog 212 D_ztg:=by
 intro xs r outs ob h ho;unfold D_ztg at h;split at h
 ·simp only[Option.some.injEq,Prod.mk.injEq]at h
  obtain⟨rfl,rfl,rfl⟩:=h;obtain⟨h0,h1,h2,hp0,hp1,hp2,_⟩:=ho;exact DenM.sim (yiab _ _ _ hp0 hp1 hp2) (yp (y2q h0) <| yp (yod h1).1 <| yp (yod h2).1 <| trivial)
 ·cases h
end Go.Ab
namespace Go.Ab
open Go
theorem ysf {ρ σ : Type} {b : σ -> Except ρ σ} (I : σ -> Prop) (Q : ρ -> Prop) (m : σ -> Nat) (h : ∀ s, I s -> (∃ t, b s = .ok t /\ I t /\ m t < m s) \/ ∃ e, b s = .error e /\ Q e) : ∀ (k : Nat) (s : σ), I s -> m s < k -> ∃ e, yeb b k s = .error e /\ Q e
 | 0,s,_,hk=>by omega
 | k+1,s,hI,hk=>by
  rcases h s hI with⟨t,h1,h2,h3⟩|⟨e,h1,h2⟩
  ·obtain⟨e,h4,h5⟩:=ysf I Q m h k t h2 (by omega)
   exact⟨e,by simp only[yeb,h1];exact h4,h5⟩
  ·exact⟨e,by simp only[yeb,h1],h2⟩
end Go.Ab
namespace Go.Ab
open Go Go.Proofs
theorem y7u (x:List AV):elt [x] 0=x:=rfl
theorem yfg (v:Notice):y0 [.int .i64 v.Number,.int .i64 v.Day,.int .i64 v.Kind,.int .i64 v.Target,.int .i64 v.Aid.Number,.str v.Aid.Name,.int .i64 v.Aid.At.X,.int .i64 v.Aid.At.Y,.int .i64 v.Aid.Height,.int .i64 v.Aid.Mark.Kind,.str v.Aid.Mark.Colors,.str v.Aid.Mark.Shape,.str v.Aid.Mark.Topmark,.int .i64 v.Aid.Light.Kind,.sl none 1 v.Aid.Light.Group.length (fun j=>[.int .i64 (v.Aid.Light.Group.getD j default)]),.str v.Aid.Light.Letter,.str v.Aid.Light.Colors,.int .i64 v.Aid.Light.Period,.sl none 3 v.Aid.Sectors.length (fun j=>[.int .i64 ((v.Aid.Sectors.getD j default).From),.int .i64 ((v.Aid.Sectors.getD j default).To),.str ((v.Aid.Sectors.getD j default).Color)]),.int .i64 v.Aid.Intensity]=[.int .i64 v.Number,.int .i64 v.Day,.int .i64 v.Kind,.int .i64 v.Target,.int .i64 v.Aid.Number,.str v.Aid.Name,.int .i64 v.Aid.At.X,.int .i64 v.Aid.At.Y,.int .i64 v.Aid.Height,.int .i64 v.Aid.Mark.Kind,.str v.Aid.Mark.Colors,.str v.Aid.Mark.Shape,.str v.Aid.Mark.Topmark,.int .i64 v.Aid.Light.Kind,.sl none 1 v.Aid.Light.Group.length (fun j=>[.int .i64 (v.Aid.Light.Group.getD j default)]),.str v.Aid.Light.Letter,.str v.Aid.Light.Colors,.int .i64 v.Aid.Light.Period,.sl none 3 v.Aid.Sectors.length (fun j=>[.int .i64 ((v.Aid.Sectors.getD j default).From),.int .i64 ((v.Aid.Sectors.getD j default).To),.str ((v.Aid.Sectors.getD j default).Color)]),.int .i64 v.Aid.Intensity]:=rfl
theorem ymo (l:List Notice) (x:Notice):decL yc (l.length+1) (fun i=>y0 (bif i.blt l.length then[.int .i64 ((l.getD i default).Number),.int .i64 ((l.getD i default).Day),.int .i64 ((l.getD i default).Kind),.int .i64 ((l.getD i default).Target),.int .i64 (((l.getD i default).Aid).Number),.str (((l.getD i default).Aid).Name),.int .i64 ((((l.getD i default).Aid).At).X),.int .i64 ((((l.getD i default).Aid).At).Y),.int .i64 (((l.getD i default).Aid).Height),.int .i64 ((((l.getD i default).Aid).Mark).Kind),.str ((((l.getD i default).Aid).Mark).Colors),.str ((((l.getD i default).Aid).Mark).Shape),.str ((((l.getD i default).Aid).Mark).Topmark),.int .i64 ((((l.getD i default).Aid).Light).Kind),.sl none 1 ((((l.getD i default).Aid).Light).Group).length (fun j=>[.int .i64 (((((l.getD i default).Aid).Light).Group).getD j default)]),.str ((((l.getD i default).Aid).Light).Letter),.str ((((l.getD i default).Aid).Light).Colors),.int .i64 ((((l.getD i default).Aid).Light).Period),.sl none 3 (((l.getD i default).Aid).Sectors).length (fun j=>[.int .i64 (((((l.getD i default).Aid).Sectors).getD j default).From),.int .i64 (((((l.getD i default).Aid).Sectors).getD j default).To),.str (((((l.getD i default).Aid).Sectors).getD j default).Color)]),.int .i64 (((l.getD i default).Aid).Intensity)]else elt [[.int .i64 x.Number,.int .i64 x.Day,.int .i64 x.Kind,.int .i64 x.Target,.int .i64 x.Aid.Number,.str x.Aid.Name,.int .i64 x.Aid.At.X,.int .i64 x.Aid.At.Y,.int .i64 x.Aid.Height,.int .i64 x.Aid.Mark.Kind,.str x.Aid.Mark.Colors,.str x.Aid.Mark.Shape,.str x.Aid.Mark.Topmark,.int .i64 x.Aid.Light.Kind,.sl none 1 x.Aid.Light.Group.length (fun j=>[.int .i64 (x.Aid.Light.Group.getD j default)]),.str x.Aid.Light.Letter,.str x.Aid.Light.Colors,.int .i64 x.Aid.Light.Period,.sl none 3 x.Aid.Sectors.length (fun j=>[.int .i64 ((x.Aid.Sectors.getD j default).From),.int .i64 ((x.Aid.Sectors.getD j default).To),.str ((x.Aid.Sectors.getD j default).Color)]),.int .i64 x.Aid.Intensity]] (i-l.length)))=l++[x]:=by
 unfold decL;apply List.ext_getElem
 ·simp
 intro i h1 h2;rw[List.getElem_map,List.getElem_range];show yc (y0 (bif i.blt l.length then[.int .i64 ((l.getD i default).Number),.int .i64 ((l.getD i default).Day),.int .i64 ((l.getD i default).Kind),.int .i64 ((l.getD i default).Target),.int .i64 (((l.getD i default).Aid).Number),.str (((l.getD i default).Aid).Name),.int .i64 ((((l.getD i default).Aid).At).X),.int .i64 ((((l.getD i default).Aid).At).Y),.int .i64 (((l.getD i default).Aid).Height),.int .i64 ((((l.getD i default).Aid).Mark).Kind),.str ((((l.getD i default).Aid).Mark).Colors),.str ((((l.getD i default).Aid).Mark).Shape),.str ((((l.getD i default).Aid).Mark).Topmark),.int .i64 ((((l.getD i default).Aid).Light).Kind),.sl none 1 ((((l.getD i default).Aid).Light).Group).length (fun j=>[.int .i64 (((((l.getD i default).Aid).Light).Group).getD j default)]),.str ((((l.getD i default).Aid).Light).Letter),.str ((((l.getD i default).Aid).Light).Colors),.int .i64 ((((l.getD i default).Aid).Light).Period),.sl none 3 (((l.getD i default).Aid).Sectors).length (fun j=>[.int .i64 (((((l.getD i default).Aid).Sectors).getD j default).From),.int .i64 (((((l.getD i default).Aid).Sectors).getD j default).To),.str (((((l.getD i default).Aid).Sectors).getD j default).Color)]),.int .i64 (((l.getD i default).Aid).Intensity)]else elt [[.int .i64 x.Number,.int .i64 x.Day,.int .i64 x.Kind,.int .i64 x.Target,.int .i64 x.Aid.Number,.str x.Aid.Name,.int .i64 x.Aid.At.X,.int .i64 x.Aid.At.Y,.int .i64 x.Aid.Height,.int .i64 x.Aid.Mark.Kind,.str x.Aid.Mark.Colors,.str x.Aid.Mark.Shape,.str x.Aid.Mark.Topmark,.int .i64 x.Aid.Light.Kind,.sl none 1 x.Aid.Light.Group.length (fun j=>[.int .i64 (x.Aid.Light.Group.getD j default)]),.str x.Aid.Light.Letter,.str x.Aid.Light.Colors,.int .i64 x.Aid.Light.Period,.sl none 3 x.Aid.Sectors.length (fun j=>[.int .i64 ((x.Aid.Sectors.getD j default).From),.int .i64 ((x.Aid.Sectors.getD j default).To),.str ((x.Aid.Sectors.getD j default).Color)]),.int .i64 x.Aid.Intensity]] (i-l.length)))=_;have hi:i<l.length+1:=by simpa using h1
 by_cases h:i<l.length
 ·rw[show i.blt l.length=true from by rw[Nat.blt_eq];exact h,cond_true,List.getElem_append_left h]
  rw[yfg (l.getD i default),yed,List.getD_eq_getElem?_getD,List.getElem?_eq_getElem h];rfl
 ·have e:i=l.length:=by omega
  subst e;rw[show(l.length).blt l.length=false from by rw[<- Bool.not_eq_true,Nat.blt_eq];omega,cond_false,Nat.sub_self];rw[show elt [[.int .i64 x.Number,.int .i64 x.Day,.int .i64 x.Kind,.int .i64 x.Target,.int .i64 x.Aid.Number,.str x.Aid.Name,.int .i64 x.Aid.At.X,.int .i64 x.Aid.At.Y,.int .i64 x.Aid.Height,.int .i64 x.Aid.Mark.Kind,.str x.Aid.Mark.Colors,.str x.Aid.Mark.Shape,.str x.Aid.Mark.Topmark,.int .i64 x.Aid.Light.Kind,.sl none 1 x.Aid.Light.Group.length (fun j=>[.int .i64 (x.Aid.Light.Group.getD j default)]),.str x.Aid.Light.Letter,.str x.Aid.Light.Colors,.int .i64 x.Aid.Light.Period,.sl none 3 x.Aid.Sectors.length (fun j=>[.int .i64 ((x.Aid.Sectors.getD j default).From),.int .i64 ((x.Aid.Sectors.getD j default).To),.str ((x.Aid.Sectors.getD j default).Color)]),.int .i64 x.Aid.Intensity]] 0=[.int .i64 x.Number,.int .i64 x.Day,.int .i64 x.Kind,.int .i64 x.Target,.int .i64 x.Aid.Number,.str x.Aid.Name,.int .i64 x.Aid.At.X,.int .i64 x.Aid.At.Y,.int .i64 x.Aid.Height,.int .i64 x.Aid.Mark.Kind,.str x.Aid.Mark.Colors,.str x.Aid.Mark.Shape,.str x.Aid.Mark.Topmark,.int .i64 x.Aid.Light.Kind,.sl none 1 x.Aid.Light.Group.length (fun j=>[.int .i64 (x.Aid.Light.Group.getD j default)]),.str x.Aid.Light.Letter,.str x.Aid.Light.Colors,.int .i64 x.Aid.Light.Period,.sl none 3 x.Aid.Sectors.length (fun j=>[.int .i64 ((x.Aid.Sectors.getD j default).From),.int .i64 ((x.Aid.Sectors.getD j default).To),.str ((x.Aid.Sectors.getD j default).Color)]),.int .i64 x.Aid.Intensity]from rfl,yfg x,yed];simp
end Go.Ab
