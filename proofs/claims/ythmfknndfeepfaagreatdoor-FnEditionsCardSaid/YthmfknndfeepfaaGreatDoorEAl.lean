/- Walks and lemmas. No conditions. -/
import Derived.Test.YthmfknndfeepfaaGreatDoorRows
import Derived.Test.YthmfknndfeepfaaGreatDoorEAk
set_option linter.unusedSectionVars false
set_option linter.unusedVariables false
set_option linter.unusedSimpArgs false
set_option maxHeartbeats 1000000
namespace Go.Ab
open Go Go.Proofs
theorem y10 {f : FuncId} {T : TypeId} (hok : FnOk Tryz.prog f) (a0 a1 : List UInt8) (hp0 : a0.length <= 1048576) (hp1 : a1.length = 1)
  (hS:∀ (s sep:ByteArray) (m:Int) (w:World),s.size<4294967281->w.cell? ⟨0,0,none⟩=some (.int .i64 m)->1<=sep.size->Calls Tryz.prog f #[.string s,.string sep] w fun e w'=>
   e=.returned (.slice (some ⟨w.heap.size,0,none⟩) (Go.Lib.countB s sep+1) (Go.Lib.countB s sep+1))/\w'=w.alloc (.cells ((Go.Lib.splitB sep 0 (Go.Lib.countB s sep) s).map Value.string).toArray T)) :
  Den Tryz.prog f [.str a0,.str a1] (ownL T 1 (fun s:List UInt8=>[.str s]) (yq (a1.getD 0 0) a0)):=by
 obtain⟨c,rfl⟩:∃ c,a1=[c]:=List.length_eq_one_iff.1 hp1
 have hl:Go.Lib.splitB ⟨#[c]⟩ 0 (Go.Lib.countB ⟨a0.toArray⟩ ⟨#[c]⟩) ⟨a0.toArray⟩=(yq c a0).map fun x=>(⟨x.toArray⟩:ByteArray):=by
  have h1:=Go.Lib.splitB_data ⟨#[c]⟩ 0 (Go.Lib.countB ⟨a0.toArray⟩ ⟨#[c]⟩) ⟨a0.toArray⟩;rw[show Go.Lib.splitK (⟨#[c]⟩:ByteArray).data.toList 0 (Go.Lib.countB ⟨a0.toArray⟩ ⟨#[c]⟩) (⟨a0.toArray⟩:ByteArray).data.toList=yq c a0 from y78 c _ a0 (Nat.le_refl _)]at h1;rw[<- h1,List.map_map];refine(List.map_id'' (fun x => ?_) _).symm;rfl
 have hcl:(yq c a0).length=Go.Lib.countB ⟨a0.toArray⟩ ⟨#[c]⟩+1:=by
  have h2:=Go.Lib.splitB_all ⟨#[c]⟩ (by show 1<=1;omega) 0 (Go.Lib.countB ⟨a0.toArray⟩ ⟨#[c]⟩) ⟨a0.toArray⟩ rfl;rw[hl]at h2;simpa using h2
 obtain⟨l1,l2⟩:=y6c c a0
 have hnth:∀ i,i<(yq c a0).length->((yq c a0).getD i default).length<=maxLen:=by
  intro i hi
  have:(yq c a0).getD i default∈yq c a0:=by
   rw[List.getD_eq_getElem?_getD,List.getElem?_eq_getElem hi];simp
  have:=l2 _ this;unfold maxLen;omega
 refine Den.fresh (T:=T) (e:=1) (enc:=fun s:List UInt8=>[.str s]) (l:=yq c a0) hok (by simp[yvb,y3b]) (fun i=>[Value.string ⟨((yq c a0).getD i default).toArray⟩]) (fun w M i hi=>⟨?_,rfl,by simp[Value.oneCell']⟩) ?_
 ·simp only[RepL]
  exact⟨_,[],[],[],rfl,rfl,y7b _ (hnth i hi),rfl,rfl⟩
 ·intro w M vs hI hr
  simp only[RepL]at hr;obtain⟨u0,us0,f0,g0,rfl,h0e,h0,u1,us1,f1,g1,rfl,h1e,h1,rfl,_⟩:=hr;have e0:=h0.val_str;have e1:=h1.val_str;subst e0 e1;obtain⟨m,hm⟩:=hI.1.2;refine(hS ⟨a0.toArray⟩ ⟨#[c]⟩ m w (by show a0.length<_;omega) hm (by show 1<=1;omega)).mono ?_;rintro e w' ⟨rfl,rfl⟩
  refine⟨w.heap.size,(yq c a0).length,((yq c a0).map fun x=>Value.string ⟨x.toArray⟩).toArray,by rw[<- hcl],?_⟩
  have hmap:(Go.Lib.splitB ⟨#[c]⟩ 0 (Go.Lib.countB ⟨a0.toArray⟩ ⟨#[c]⟩) ⟨a0.toArray⟩).map Value.string=(yq c a0).map fun x=>Value.string ⟨x.toArray⟩:=by
   rw[hl,List.map_map];rfl
  rw[hmap];have hfl:=y3m w T ((yq c a0).map fun x=>Value.string ⟨x.toArray⟩) (by rw[List.length_map];unfold maxLen;omega);rw[List.length_map]at hfl
  have hus:((List.range (yq c a0).length).flatMap fun i=>[((yq c a0).map fun x=>Value.string ⟨x.toArray⟩).getD i default])=(List.range (yq c a0).length).flatMap fun i=>[Value.string ⟨((yq c a0).getD i default).toArray⟩]:=by
   rw[List.flatMap_def,List.flatMap_def];congr 1
   apply List.map_congr_left;intro i hi;have hi:=List.mem_range.1 hi;simp[List.getD_eq_getElem?_getD,List.getElem?_map,List.getElem?_eq_getElem hi]
  rw[hus]at hfl;exact hfl
def zb (a0:(List UInt8)) (a1:(List UInt8)):(List (List UInt8)):=yq (a1.getD 0 0) a0
theorem yoeb (a0:(List UInt8)) (a1:(List UInt8)) (hp0:a0.length<=1048576) (hp1:a1.length=1):Den Tryz.prog 32 [.str a0,.str a1] (ownL 9 1 eS (zb a0 a1)):=by
 exact y10 ⟨_,Tryz.func32,rfl,rfl⟩ a0 a1 hp0 hp1 (fun s sep m w=>Any.strings_Split Tryz.lays146 (by kernel_rfl) s sep m w)
def D_zb : DF
 | [x0,x1]=>some (ownL 9 1 eS (zb (rdS x0) (rdS x1)),false,[wS x0,wS x1,(rdS x0).length<=1048576,(rdS x1).length=1])
 | _=>none
theorem yxj:OkD Tryz.prog 32 D_zb:=by
 intro xs r z ob h ho;unfold D_zb at h;split at h
 ·simp only[Option.some.injEq,Prod.mk.injEq]at h
  obtain⟨rfl,rfl,rfl⟩:=h;obtain⟨h0,h1,hp0,hp1,_⟩:=ho;exact Den.sim (yoeb _ _ hp0 hp1) (yv (yob h0).1 <| yv (yob h1).1 <| trivial) (y7 (yob h0).2 <| y7 (yob h1).2 <| rfl) rfl
 ·cases h
theorem y6s (a b:List UInt8) (h:a.length<=1048576):(zb a b).length<=1048577/\∀ x∈zb a b,x.length<=1048576:=by
 obtain⟨h1,h2⟩:=y6c (b.getD 0 0) a;exact⟨by unfold zb;omega,fun x hx=>by have:=h2 x hx;omega⟩
def zd (a0:(List UInt8)) (a1:(List UInt8)):((List UInt8)×(List UInt8)×Bool):=Go.Lib.cut a0 a1
theorem y8eb (a0:(List UInt8)) (a1:(List UInt8)) (hp0:a0.length<=1048576):Den Tryz.prog 124 [.str a0,.str a1] (.tup [.str ((zd a0 a1).1),.str ((zd a0 a1).2.1),.bool ((zd a0 a1).2.2)]):=by
 refine Den.plain ⟨_,Tryz.func124,rfl,rfl⟩ (by simp[yvb,y3b]) ?_;intro w M vs hI hr;simp only[RepL]at hr;obtain⟨u0,us0,f0,g0,rfl,h0e,h0,u1,us1,f1,g1,rfl,h1e,h1,rfl,_⟩:=hr;have e0:=h0.val_str;have e1:=h1.val_str;subst e0 e1;obtain⟨m,hm⟩:=hI.1.2;refine(Any.strings_Cut Tryz.lays145 ⟨a0.toArray⟩ ⟨a1.toArray⟩ m w (by show a0.length<_;omega) hm).mono ?_;rintro e w' ⟨rfl,k,rfl⟩
 exact⟨_,rfl,yb2 w k,fun M'=>yf2 (y7b _ (by have:=yov a0 a1;show(Go.Lib.cut a0 a1).1.length<=maxLen;unfold maxLen;omega)) (y7b _ (by have:=yov a0 a1;show(Go.Lib.cut a0 a1).2.1.length<=maxLen;unfold maxLen;omega)) (y2c _)⟩
def D_zd : DF
 | [x0,x1]=>some (.tup [.str ((zd (rdS x0) (rdS x1)).1),.str ((zd (rdS x0) (rdS x1)).2.1),.bool ((zd (rdS x0) (rdS x1)).2.2)],false,[wS x0,wS x1,(rdS x0).length<=1048576])
 | _=>none
theorem yrl:OkD Tryz.prog 124 D_zd:=by
 intro xs r z ob h ho;unfold D_zd at h;split at h
 ·simp only[Option.some.injEq,Prod.mk.injEq]at h
  obtain⟨rfl,rfl,rfl⟩:=h;obtain⟨h0,h1,hp0,_⟩:=ho;exact Den.sim (y8eb _ _ hp0) (yv (yob h0).1 <| yv (yob h1).1 <| trivial) (y7 (yob h0).2 <| y7 (yob h1).2 <| rfl) rfl
 ·cases h
def zg (a0:(List UInt8)) (a1:(List UInt8)):((List UInt8)×Bool):=(Go.Lib.trimSuffix a0 a1,Go.Lib.hasSuffix a0 a1)
theorem yfeb (a0:(List UInt8)) (a1:(List UInt8)) (hp0:a0.length<=1048576):Den Tryz.prog 183 [.str a0,.str a1] (.tup [.str ((zg a0 a1).1),.bool ((zg a0 a1).2)]):=by
 refine Den.plain ⟨_,Tryz.func183,rfl,rfl⟩ (by simp[yvb,y3b]) ?_;intro w M vs hI hr;simp only[RepL]at hr;obtain⟨u0,us0,f0,g0,rfl,h0e,h0,u1,us1,f1,g1,rfl,h1e,h1,rfl,_⟩:=hr;have e0:=h0.val_str;have e1:=h1.val_str;subst e0 e1;refine(Any.strings_CutSuffix Tryz.lays104 ⟨a0.toArray⟩ ⟨a1.toArray⟩ w (by show a0.length<=_;omega)).mono ?_;rintro e w' ⟨rfl,rfl⟩
 exact⟨_,rfl,Grow.refl _,fun M'=>ygcb (y7b _ (by have:=yod a0 a1;show(Go.Lib.trimSuffix a0 a1).length<=maxLen;unfold maxLen;omega)) (y2c _)⟩
def D_zg : DF
 | [x0,x1]=>some (.tup [.str ((zg (rdS x0) (rdS x1)).1),.bool ((zg (rdS x0) (rdS x1)).2)],false,[wS x0,wS x1,(rdS x0).length<=1048576])
 | _=>none
theorem y3cb:OkD Tryz.prog 183 D_zg:=by
 intro xs r z ob h ho;unfold D_zg at h;split at h
 ·simp only[Option.some.injEq,Prod.mk.injEq]at h
  obtain⟨rfl,rfl,rfl⟩:=h;obtain⟨h0,h1,hp0,_⟩:=ho;exact Den.sim (yfeb _ _ hp0) (yv (yob h0).1 <| yv (yob h1).1 <| trivial) (y7 (yob h0).2 <| y7 (yob h1).2 <| rfl) rfl
 ·cases h
theorem yrg (a b:List UInt8):(zd a b).1.length<=a.length/\(zd a b).2.1.length<=a.length:=yov a b
theorem y0r (a b:List UInt8):(zg a b).1.length<=a.length:=yod a b
end Go.Ab
namespace Go.Ab
open Go
structure RdOk {α:Type} (V:α->Prop) (T:α->List UInt8) (z:α) (f:List UInt8->α×Bool) (N:Nat):Prop where
 r1:∀ p,V p->(T p).length<=N->f (T p)=(p,true)
 r2:∀ a:List UInt8,a.length<=N->(f a).2=true->V (f a).1/\a=T (f a).1
 r3:∀ a:List UInt8,a.length<=N->(f a).2=false->(f a).1=z
theorem RdOk.of {α:Type} {V:α->Prop} {T:α->List UInt8} {z:α} {f:List UInt8->α×Bool} {N:Nat} (r1:∀ p,V p->(T p).length<=N->f (T p)=(p,true)) (inv:∀ a:List UInt8,a.length<=N->f a=(z,false)\/∃ p,f a=(p,true)/\V p/\a=T p):RdOk V T z f N:=
 ⟨r1,fun a h e=>by
  rcases inv a h with h1|⟨p,h1,h2,h3⟩
  ·rw[h1]at e;cases e
  ·rw[h1];exact⟨h2,h3⟩,fun a h e=>by
  rcases inv a h with h1|⟨p,h1,h2,h3⟩
  ·rw[h1]
  ·rw[h1]at e;cases e⟩
theorem y6m {α:Type} [Inhabited α] (l:List α) (j:Nat) (hj:j<l.length):l.take j++[l.getD j default]=l.take (j+1):=by
 rw[List.take_succ_eq_append_getElem hj,List.getD_eq_getElem?_getD,List.getElem?_eq_getElem hj];rfl
end Go.Ab
namespace Go.Ab
open Go Go.Proofs
theorem ybh {ρ σ : Type} {b : Nat -> σ -> Except ρ σ} (I : Nat -> σ -> Prop) : ∀ {k i : Nat} {s t : σ}, ye b k i s = .ok t -> I i s -> (∀ j u v, i <= j -> j < i + k -> I j u -> b j u = .ok v -> I (j + 1) v) -> I (i + k) t
 | 0,i,s,t,h,h0,_=>by simp only[ye,Except.ok.injEq]at h;subst h;exact h0
 | k+1,i,s,t,h,h0,hb=>by
  simp only[ye]at h
  cases hq:b i s with
  | error e=>rw[hq]at h;simp at h
  | ok v=>
   rw[hq]at h;have:=ybh I (k:=k) (i:=i+1) h (hb i s v (Nat.le_refl _) (by omega) h0 hq) (fun j u v h1 h2=>hb j u v (by omega) (by omega));rw[show i+1+k=i+(k+1)by omega]at this;exact this
theorem ylcb {l:List (List UInt8)} {m:Nat} (h:∀ x∈l,x.length<=m) (i:Nat):(l.getD i default).length<=m:=by
 rw[List.getD_eq_getElem?_getD]
 cases hg:l[i]? with
 | none=>exact Nat.zero_le _
 | some x=>exact h x (List.mem_of_getElem? hg)
theorem ycr (a:List UInt8) (c:UInt8) (i:Nat):((zb a [c]).getD i default).length<=a.length:=ylcb (y6c c a).2 i
theorem y5x (a:List UInt8) (c:UInt8):(zb a [c]).length<=a.length+1:=(y6c c a).1
theorem y7ab {y:List UInt8} (h:y≠[]) (hl:y.length<=1048576):IntKind.wrap .i64 ((y.length:Int)-1)=(y.length:Int)-1/\(List.take (IntKind.wrap .i64 ((y.length:Int)-1)).toNat y).length<=1048576/\1<=y.length:=by
 have:=List.length_pos_iff.2 h;refine⟨by rw[IntKind.wrap_i64];omega,?_,this⟩;rw[List.length_take];omega
def zne (a0:(List UInt8)) (a1:(List UInt8)):(List UInt8):=Go.Lib.trimSuffix a0 a1
theorem ymbb (a0:(List UInt8)) (a1:(List UInt8)) (hp0:a0.length<=1048576):Den Tryz.prog 128 [.str a0,.str a1] (.str (zne a0 a1)):=by
 refine Den.plain ⟨_,Tryz.func128,rfl,rfl⟩ (by simp[yvb,y3b]) ?_;intro w M vs hI hr;simp only[RepL]at hr;obtain⟨u0,us0,f0,g0,rfl,h0e,h0,u1,us1,f1,g1,rfl,h1e,h1,rfl,_⟩:=hr;have e0:=h0.val_str;have e1:=h1.val_str;subst e0 e1;refine(Any.strings_TrimSuffix Tryz.lays102 ⟨a0.toArray⟩ ⟨a1.toArray⟩ w (by show a0.length<=_;omega)).mono ?_;rintro e w' ⟨rfl,rfl⟩
 exact⟨_,rfl,Grow.refl _,fun M'=>y7b _ (by have:=yod a0 a1;show(Go.Lib.trimSuffix a0 a1).length<=maxLen;unfold maxLen;omega)⟩
def D_zne : DF
 | [x0,x1]=>some (.str (zne (rdS x0) (rdS x1)),false,[wS x0,wS x1,(rdS x0).length<=1048576])
 | _=>none
theorem yd7:OkD Tryz.prog 128 D_zne:=by
 intro xs r z ob h ho;unfold D_zne at h;split at h
 ·simp only[Option.some.injEq,Prod.mk.injEq]at h
  obtain⟨rfl,rfl,rfl⟩:=h;obtain⟨h0,h1,hp0,_⟩:=ho;exact Den.sim (ymbb _ _ hp0) (yv (yob h0).1 <| yv (yob h1).1 <| trivial) (y7 (yob h0).2 <| y7 (yob h1).2 <| rfl) rfl
 ·cases h
theorem yd3 (a b:List UInt8):(zne a b).length<=a.length:=yod a b
end Go.Ab
namespace Go.Ab
open Go
def chkW:List UInt8:=[99,104,101,99,107,32]
theorem y9db {D:List UInt8} (hD:∀ x∈D,48<=x.toNat/\x.toNat<=57) {d:Nat} (hd:0<d) (hl:d<(chkW++D).length) (h1:(chkW++D).getD d 0=99) (h2:(chkW++D).getD (d+1) 0=104):False:=by
 unfold chkW at hl h1 h2
 match d,hd with
 | 1,_=>exact absurd (show([99,104,101,99,107,32]:List UInt8).getD 1 0=99 from h1) (by decide)
 | 2,_=>exact absurd (show([99,104,101,99,107,32]:List UInt8).getD 2 0=99 from h1) (by decide)
 | 3,_=>exact absurd (show([99,104,101,99,107,32]:List UInt8).getD 4 0=104 from h2) (by decide)
 | 4,_=>exact absurd (show([99,104,101,99,107,32]:List UInt8).getD 4 0=99 from h1) (by decide)
 | 5,_=>exact absurd (show([99,104,101,99,107,32]:List UInt8).getD 5 0=99 from h1) (by decide)
 | d+6,_=>
  have hlt:d<D.length:=by simp at hl;omega
  have e:(([99,104,101,99,107,32]:List UInt8)++D).getD (d+6) 0=D[d]:=by
   rw[List.getD_eq_getElem?_getD,List.getElem?_append_right (by simp)];simp[hlt]
  rw[e]at h1;have:=hD _ (List.getElem_mem hlt);rw[h1]at this;exact absurd this.2 (by decide)
theorem y79 {D:List UInt8} (hD:∀ x∈D,48<=x.toNat/\x.toNat<=57):(10:UInt8)∉chkW++D:=by
 intro h;rcases List.mem_append.1 h with h|h
 ·revert h;decide
 ·have:=hD _ h;exact absurd this.1 (by decide)
theorem ypbb {E C:List UInt8}:((E++[10])++C++[10]).getD E.length 0=10:=by
 simp[List.getD_eq_getElem?_getD,List.getElem?_append]
theorem yhw {B C:List UInt8} {j:Nat} (h:j<C.length):(B++C++[10]).getD (B.length+j) 0=C.getD j 0:=by
 rw[List.getD_eq_getElem?_getD,List.getD_eq_getElem?_getD,List.append_assoc,List.getElem?_append_right (by omega),List.getElem?_append_left (by omega)];congr 2;omega
theorem y8db {C:List UInt8} {j:Nat} (h:j<C.length):C.getD j 0∈C:=by
 rw[List.getD_eq_getElem?_getD,List.getElem?_eq_getElem h];exact List.getElem_mem h
theorem yaab {E D E' D' : List UInt8} {k : Nat} (hD' : ∀ x ∈ D', 48 <= x.toNat /\ x.toNat <= 57)
  (hs:∀ j,j≠k->(((E'++[10])++(chkW++D')++[10]).getD j 0)=(((E++[10])++(chkW++D)++[10]).getD j 0))
  (hn:((E'++[10])++(chkW++D')++[10]).length=((E++[10])++(chkW++D)++[10]).length) (hlt:D.length<D'.length):False:=by
 have hw:chkW.length=6:=rfl;simp only[List.length_append,List.length_singleton,hw]at hn
 have hk:E.length=k:=by
  apply Classical.byContradiction;intro hne;have h1:=hs E.length hne;rw[ypbb]at h1;have hj:E.length-(E'.length+1)<(chkW++D').length:=by simp only[List.length_append,hw];omega
  have h2:=yhw (B:=E'++[10]) (C:=chkW++D') hj;rw[show(E'++([10]:List UInt8)).length+(E.length-(E'.length+1))=E.length from by simp only[List.length_append,List.length_singleton];omega]at h2;rw[h2]at h1;have:=y8db hj;rw[h1]at this;exact y79 hD' this
 have q:∀ j,j<2->(chkW++D').getD (E.length-E'.length+j) 0=(chkW++D).getD j 0:=fun j hj=>by
  have h1:=hs (E.length+1+j) (by omega);have h2:=yhw (B:=E++[10]) (C:=chkW++D) (j:=j) (by simp only[List.length_append,hw];omega);have h3:=yhw (B:=E'++[10]) (C:=chkW++D') (j:=E.length-E'.length+j) (by simp only[List.length_append,hw];omega);rw[show(E++([10]:List UInt8)).length+j=E.length+1+j from by simp]at h2;rw[show(E'++([10]:List UInt8)).length+(E.length-E'.length+j)=E.length+1+j from by simp only[List.length_append,List.length_singleton];omega]at h3;rw[h2,h3]at h1;exact h1
 exact y9db hD' (d:=E.length-E'.length) (by omega) (by simp only[List.length_append,hw];omega) (q 0 (by omega)) (q 1 (by omega))
theorem ykdb (dec : Int -> List UInt8) (crc : List UInt8 -> Int) (hdig : ∀ l, ∀ x ∈ dec (crc l), 48 <= x.toNat /\ x.toNat <= 57) (hdec : ∀ a b, dec (crc a) = dec (crc b) -> crc a = crc b)
  (hcrc:∀ (l:List UInt8) (k:Nat) (x:UInt8),k<l.length->x≠l.getD k 0->crc (l.set k x)≠crc l)
  {E E':List UInt8} {k:Nat} {x:UInt8} (hk:k<((E++[10])++(chkW++dec (crc (E++[10])))++[10]).length)
  (hx:x≠((E++[10])++(chkW++dec (crc (E++[10])))++[10]).getD k 0)
  (hs:((E++[10])++(chkW++dec (crc (E++[10])))++[10]).set k x=(E'++[10])++(chkW++dec (crc (E'++[10])))++[10]):False:=by
 have hn:=congrArg List.length hs;rw[List.length_set]at hn
 have hj:∀ j,j≠k->(((E'++[10])++(chkW++dec (crc (E'++[10])))++[10]).getD j 0)=(((E++[10])++(chkW++dec (crc (E++[10])))++[10]).getD j 0):=fun j hne=>by
  rw[<- hs,List.getD_eq_getElem?_getD,List.getD_eq_getElem?_getD,List.getElem?_set_ne (Ne.symm hne)]
 rcases Nat.lt_trichotomy (dec (crc (E++[10]))).length (dec (crc (E'++[10]))).length with hlt|heq|hgt
 ·exact yaab (hdig _) hj hn.symm hlt
 ·have hE:(E++[10]).length=(E'++[10]).length:=by
   simp only[List.length_append,List.length_singleton]at hn ⊢;omega
  have ea:∀ F:List UInt8,(F++[10])++(chkW++dec (crc (F++[10])))++[10]=(F++[10])++((chkW++dec (crc (F++[10])))++[10]):=fun F=>List.append_assoc _ _ _
  rw[ea E,ea E']at hs;rw[ea E]at hx hk;by_cases hkB:k<(E++[10]).length
  ·rw[List.set_append_left _ _ hkB]at hs
   obtain⟨h1,h2⟩:=List.append_inj hs (by rw[List.length_set];exact hE)
   have h3:dec (crc (E++[10]))=dec (crc (E'++[10])):=by
    have:=List.append_cancel_right h2;exact List.append_cancel_left this
   have h4:=hdec _ _ h3;refine hcrc (E++[10]) k x hkB ?_ (by rw[h1];exact h4.symm);intro e;apply hx;rw[e,List.getD_eq_getElem?_getD,List.getD_eq_getElem?_getD,List.getElem?_append_left hkB]
  ·rw[List.set_append_right _ _ (by omega)]at hs
   obtain⟨h1,h2⟩:=List.append_inj hs hE;rw[<- h1]at h2;have h3:=congrArg (fun l=>l.getD (k-(E++[10]).length) 0) h2;apply hx;rw[List.getD_eq_getElem?_getD,List.getElem?_append_right (by omega)]
   have hb:k-(E++[10]).length<(chkW++dec (crc (E++[10]))++[10]).length:=by
    rw[List.length_append]at hk;omega
   simp only[List.getD_eq_getElem?_getD]at h3;rw[List.getElem?_set_self hb]at h3;simpa using h3
 ·exact yaab (hdig _) (fun j hne=>(hj j hne).symm) hn hgt
theorem yht (c : UInt8) : ∀ (l : List UInt8), 2 <= (yq c l).length -> ∀ x ∈ yq c l, x.length + 1 <= l.length
 | [],h=>by simp[yq]at h
 | b::l,h=>by
  obtain⟨_,g2⟩:=y6c c l;have ih:=yht c l;simp only[yq]at h ⊢;split
  ·intro x hx
   simp only[List.length_cons,List.mem_cons]at hx ⊢;rcases hx with rfl|hx
   ·simp
   ·have:=g2 x hx;omega
  ·rename_i hb
   rw[if_neg hb]at h;split
   ·rename_i he
    rw[he]at h;simp at h
   ·rename_i y r he
    rw[he]at h ih;simp only[List.length_cons]at h;have ih:=ih (by simp only[List.length_cons];omega);intro x hx;simp only[List.mem_cons,List.length_cons]at hx ⊢;rcases hx with rfl|hx
    ·have:=ih y (by simp);simp only[List.length_cons];omega
    ·have:=ih x (by simp[hx]);omega
theorem y93 (c:UInt8) (l:List UInt8) (h:2<=(yq c l).length) (i:Nat):((yq c l).getD i default).length+1<=l.length:=by
 rw[List.getD_eq_getElem?_getD]
 cases hg:(yq c l)[i]? with
 | none=>
  cases l with
  | nil=>simp[yq]at h
  | cons b l=>show 0+1<=_;simp
 | some x=>exact yht c l h x (List.mem_of_getElem? hg)
end Go.Ab
