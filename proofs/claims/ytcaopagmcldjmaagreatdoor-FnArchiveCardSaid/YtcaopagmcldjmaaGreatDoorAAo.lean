/- A part of a proof: walks of functions and lemmas of our own. No conditions. -/
import Derived.Test.YtcaopagmcldjmaaGreatDoorAAm
import Derived.Test.YtcaopagmcldjmaaGreatDoorAAl
import Derived.Test.YtcaopagmcldjmaaGreatDoorAAn
import Derived.Shelf.Strings.Prefix
import Derived.Shelf.Strconv.ParseIntPublic10
import Derived.Lib.ParseIntBTie
import Derived.Handy
import Derived.WideShapes
import Derived.ProofKit
import Derived.Lib.Split
import Derived.Lib.IndexLaws
import Derived.Lib.IndexBytes
import Derived.Lib.CountLaws
import Derived.Shelf.Strings.Split
import Derived.Test.YtcaopagmcldjmaaGreatDoorAAi
import Derived.Lib.ItoaNum
import Derived.Lib.Strings
import Derived.Shelf.Strings.Fields
import Derived.Below
import Derived.Lib.Join
import Derived.Shelf.Strings.OnBuilder
import Derived.Lib.IndexMore
set_option linter.unusedSectionVars false
set_option linter.unusedVariables false
set_option linter.unusedSimpArgs false
set_option maxHeartbeats 1000000
namespace Go.Ab
open Go Go.Proofs Go.RowKit
def y8b (s:List UInt8):Int×Bool:=
 if 18 < (Go.Lib.trimPrefix s [45]).length then (0, false) else match Go.Lib.parseIntB 64 s with
  | .ok v=>if Go.Lib.itoa v=s then(v,true)else(0,false)
  | _=>(0,false)
theorem Grow.trans' {a b c:World} (h1:Grow a b) (h2:Grow b c):Grow a c:=
 ⟨h2.os.trans h1.os,h2.tape.trans h1.tape,h2.output.trans h1.output,Nat.le_trans h1.size h2.size,fun k hk=>(h2.block k (Nat.lt_of_lt_of_le hk h1.size)).trans (h1.block k hk)⟩
theorem Grow.refl' (a:World):Grow a a:=⟨rfl,rfl,rfl,Nat.le_refl _,fun _ _=>rfl⟩
theorem yj1 {w w':World} (h:ycp w) (hg:Grow w w'):ycp w':=
 inv0.stable w w' h hg.os fun b hb=>hg.block b (inv0.inside w h b hb)
theorem yyv (s:ByteArray) (w:World):Calls Tryz.prog 105 #[.string s,.string ⟨#[45]⟩] w fun e w'=>e=.returned (.string ⟨(Go.Lib.trimPrefix s.data.toList [45]).toArray⟩)/\w'=w:=
 Any.strings_TrimPrefix Tryz.lays101 s ⟨#[45]⟩ w
theorem yfw (w:World) (e:TypeId) (t:ByteArray):Grow w (Go.Lib.bytesWorld w e t):=by
 unfold Go.Lib.bytesWorld World.freeze;rw[if_neg (by decide)]
 have hs:(w.drew.alloc (.cells (Go.Lib.bytesCells w e t) e)).heap.size=w.heap.size+1:=by
  show(w.heap.push _).size=_;simp
 refine⟨rfl,rfl,rfl,?_,fun k hk => ?_⟩
 ·show w.heap.size<=(Array.modify _ _ _).size
  rw[Array.size_modify,hs];omega
 ·show(Array.modify _ _ _)[k]? = _
  rw[Array.getElem?_modify,if_neg (by show ¬ w.heap.size=k;omega)];show(w.heap.push _)[k]? = _;rw[Array.getElem?_push,if_neg (by omega)]
theorem yxr (s:ByteArray) (w:World) (hs:s.size<=1048576) (hw:ycp w):Calls Tryz.prog 106 #[.string s,.int .i64 10,.int .i64 64] w fun e w'=>
  Grow w w'/\((∃ v,Go.Lib.parseIntB 64 s.data.toList=.ok v/\e=.returned (.tuple #[.int .i64 v,.nilIface]))\/((∀ v,Go.Lib.parseIntB 64 s.data.toList≠.ok v)/\∃ v t p,e=.returned (.tuple #[.int .i64 v,.iface t p]))):=by
 cases h:Go.Lib.parseIntB 64 s.data.toList with
 | ok v=>
  refine(Any.strconv_ParseInt_10_at64_ok Tryz.laysC174 s (by omega) v h w).mono ?_;rintro e w' ⟨rfl,hw'⟩
  refine⟨?_,.inl ⟨v,rfl,rfl⟩⟩;rcases hw' with rfl|⟨t,rfl⟩
  ·exact Grow.refl' _
  ·exact yfw _ _ _
 | range=>
  obtain⟨te,pe,hc⟩:=hw.2.2.1;refine(Any.strconv_ParseInt_10_at64_range Tryz.laysC174 s (by omega) h _ w hc (.inr ⟨te,pe,rfl⟩)).mono ?_;rintro e w' ⟨N,rfl,_,_,hB⟩
  exact⟨yif hB,.inr ⟨by simp,_,_,_,rfl⟩⟩
 | _ =>
  obtain⟨te,pe,hc⟩:=hw.2.1;refine(Any.strconv_ParseInt_10_at64_syntax Tryz.laysC174 s (by omega) h _ w hc (.inr ⟨te,pe,rfl⟩)).mono ?_;rintro e w' ⟨N,rfl,_,_,hB⟩
  exact⟨yif hB,.inr ⟨by simp,_,_,_,rfl⟩⟩
theorem y5p (n:Int) (w:World) (h0 : -9223372036854775808<=n) (h1:n<=9223372036854775807) (hw:ycp w):Calls Tryz.prog 47 #[.int .i64 n,.int .i64 10] w fun e w'=>
  e=.returned (.string ⟨(Go.Lib.itoa n).toArray⟩)/\Grow w w':=by
 refine(Any.strconv_FormatInt_10 Tryz.laysM173 n h0 h1 w hw.1.1).mono ?_;rintro e w' ⟨rfl,k,os,rfl⟩
 exact⟨rfl,ywl w k os⟩
theorem y9m (n:Int) (w:World) (h0 : -9223372036854775808<=n) (h1:n<=9223372036854775807) (hw:ycp w):Calls Tryz.prog 24 #[.int .i64 n] w fun e w'=>
  e=.returned (.string ⟨(Go.Lib.itoa n).toArray⟩)/\Grow w w':=by
 go_enter Tryz.func24,Tryz.ntmps24
 go_wp2_with (go_at_call 47;refine(y5p _ _ h0 h1 hw).mono ?_;rintro e w' ⟨rfl,hg⟩)
 go_ret
 exact⟨rfl,hg⟩
set_option maxHeartbeats 1000000 in
theorem ykp (s:ByteArray) (w:World) (hs:s.size<=1048576) (hw:ycp w):Calls Tryz.prog 66 #[.string s] w fun e w'=>
  Grow w w'/\e=.returned (.tuple #[.int .i64 (y8b s.data.toList).1,.bool (y8b s.data.toList).2]):=by
 go_enter Tryz.func66,Tryz.ntmps66
 go_wp2_with (first
  | (go_at_call 105;refine(yyv _ _).mono ?_;rintro e w' ⟨rfl,rfl⟩)
  | (go_at_call 106;refine(yxr _ _ hs hw).mono ?_;rintro e w' ⟨hg,⟨v,hv,rfl⟩|⟨hv,v,t,p,rfl⟩⟩)
  | (go_at_call 24;have hb:=Go.Lib.parseIntB_bounds hv;refine(y9m _ _ (by omega) (by omega) (yj1 hw hg)).mono ?_;rintro e w'' ⟨rfl,hg2⟩))
 ·go_ret2
  rename_i h
  have h:18<(Go.Lib.trimPrefix s.data.toList [45]).length:=by omega
  refine⟨Grow.refl' _,?_⟩;unfold y8b;rw[if_pos h];rfl
 ·go_ret2
  rename_i hne
  rw[ByteArray.toList_eq]at hne;have hne:Go.Lib.itoa v≠s.data.toList:=by simpa using hne
  refine⟨Grow.trans' hg hg2,?_⟩;unfold y8b;rw[if_neg (by omega),hv];simp only;rw[if_neg hne];rfl
 ·go_ret2
  rename_i hne
  rw[ByteArray.toList_eq]at hne;have hne:Go.Lib.itoa v=s.data.toList:=by simpa using hne
  refine⟨Grow.trans' hg hg2,?_⟩;unfold y8b;rw[if_neg (by omega),hv];simp only;rw[if_pos hne];rfl
 ·go_ret2
  refine⟨hg,?_⟩;unfold y8b;rw[if_neg (by omega)]
  cases hp:Go.Lib.parseIntB 64 s.data.toList with
  | ok v=>exact absurd hp (hv v)
  | _=>rfl
theorem y1s (a0:List UInt8) (hp0:a0.length<=1048576):Den Tryz.prog 66 [.str a0] (.tup [.int .i64 (y8b a0).1,.bool (y8b a0).2]):=by
 refine Den.plain ⟨_,Tryz.func66,rfl,rfl⟩ (by simp[NoOwnL,NoOwn]) ?_;intro w M vs hI hr;simp only[RepL]at hr;obtain⟨u0,us0,f0,g0,rfl,h0e,h0,rfl,_⟩:=hr;have e0:=h0.val_str;subst e0;refine(ykp ⟨a0.toArray⟩ w (by show a0.length<=_;omega) hI).mono ?_;rintro e w' ⟨hg,rfl⟩
 refine⟨_,rfl,hg,fun M' => ?_⟩;simp only[Rep];exact⟨_,rfl,by simp only[RepL];exact⟨_,[_],[],[],rfl,rfl,yjb _ _,_,[],[],[],rfl,rfl,yfc _,rfl,rfl⟩⟩
end Go.Ab
namespace Go.Ab
open Go Go.Proofs
def zd (a0:(List UInt8)) (a1:(List UInt8)):((List UInt8)×(List UInt8)×Bool):=Go.Lib.cut a0 a1
theorem y16 (a0:(List UInt8)) (a1:(List UInt8)) (hp0:a0.length<=1048576):Den Tryz.prog 49 [.str a0,.str a1] (.tup [.str ((zd a0 a1).1),.str ((zd a0 a1).2.1),.bool ((zd a0 a1).2.2)]):=by
 refine Den.plain ⟨_,Tryz.func49,rfl,rfl⟩ (by simp[NoOwnL,NoOwn]) ?_;intro w M vs hI hr;simp only[RepL]at hr;obtain⟨u0,us0,f0,g0,rfl,h0e,h0,u1,us1,f1,g1,rfl,h1e,h1,rfl,_⟩:=hr;have e0:=h0.val_str;have e1:=h1.val_str;subst e0 e1;obtain⟨m,hm⟩:=hI.1.2;refine(Any.strings_Cut Tryz.lays145 ⟨a0.toArray⟩ ⟨a1.toArray⟩ m w (by show a0.length<_;omega) hm).mono ?_;rintro e w' ⟨rfl,k,rfl⟩
 exact⟨_,rfl,ynx w k,fun M'=>yrx (ywb _ (by have:=y6r a0 a1;show(Go.Lib.cut a0 a1).1.length<=maxLen;unfold maxLen;omega)) (ywb _ (by have:=y6r a0 a1;show(Go.Lib.cut a0 a1).2.1.length<=maxLen;unfold maxLen;omega)) (yfc _)⟩
def D_zd : DF
 | [x0,x1]=>some (.tup [.str ((zd (rdS x0) (rdS x1)).1),.str ((zd (rdS x0) (rdS x1)).2.1),.bool ((zd (rdS x0) (rdS x1)).2.2)],false,[wS x0,wS x1,(rdS x0).length<=1048576])
 | _=>none
theorem yke:OkD Tryz.prog 49 D_zd:=by
 intro xs r z ob h ho;unfold D_zd at h;split at h
 ·simp only[Option.some.injEq,Prod.mk.injEq]at h
  obtain⟨rfl,rfl,rfl⟩:=h;obtain⟨h0,h1,hp0,_⟩:=ho;exact Den.sim (y16 _ _ hp0) (yh (ycb h0).1 <| yh (ycb h1).1 <| trivial) (yw (ycb h0).2 <| yw (ycb h1).2 <| rfl) rfl
 ·cases h
theorem ykc (a b:List UInt8):(zd a b).1.length<=a.length/\(zd a b).2.1.length<=a.length:=y6r a b
end Go.Ab
namespace Go.Ab
open Go Go.Lib
def y9 (c : UInt8) : List UInt8 -> List (List UInt8)
  | []=>[[]]
  | b :: l => if b = c then [] :: y9 c l else match y9 c l with
    | []=>[[b]]
    | x::r=>(b::x)::r
theorem yid (c : UInt8) : ∀ l : List UInt8, c ∉ l -> y9 c l = [l]
 | [],_=>rfl
 | b::l,h=>by
  simp only[List.mem_cons,not_or]at h;rw[y9,if_neg (fun e=>h.1 e.symm),yid c l h.2]
theorem ygb (c : UInt8) : ∀ (a l : List UInt8), c ∉ a -> y9 c (a ++ c :: l) = a :: y9 c l
 | [],l,_=>by simp[y9]
 | b::a,l,h=>by
  simp only[List.mem_cons,not_or]at h;rw[List.cons_append,y9,if_neg (fun e=>h.1 e.symm),ygb c a l h.2]
theorem ym0 (c:UInt8):∀ (n:Nat) (s:List UInt8),s.length<=n->splitK [c] 0 (count s [c]) s=y9 c s:=by
 intro n
 induction n with
 | zero=>
  intro s h;have:s=[]:=List.length_eq_zero_iff.1 (by omega);subst this;have hi:index [] [c] = -1:=by rw[index_one];rfl
  rw[count_miss hi];rfl
 | succ n ih=>
  intro s h;have h1:=index_one s c;by_cases hm:indexByte s c = -1
  ·rw[count_miss (by rw[h1];exact hm)]
   have hn:=indexByte_none hm
   rw[yid c s (fun hc=>by
    obtain⟨k,hk⟩:=List.getElem?_of_mem hc
    exact hn k hk)]
   rfl
  ·have hge:=indexByte_ge s c
   obtain⟨o,ho⟩:∃ o:Nat,indexByte s c=o:=⟨(indexByte s c).toNat,by omega⟩
   obtain⟨e1,e2⟩:=indexByte_some ho;have hio:index s [c]=(o:Int):=h1.trans ho;rw[count_hit (by simp) hio,Nat.add_comm,splitK,if_neg (by rw[hio];simp),hio];have hlt:o<s.length:=(List.getElem?_eq_some_iff.1 e1).1
   have hs:s=s.take o++c::s.drop (o+1):=by
    conv=>lhs;rw[<- List.take_append_drop o s]
    rw[List.drop_eq_getElem_cons hlt];congr 2
    exact(List.getElem?_eq_some_iff.1 e1).2
   have hnot:c∉s.take o:=fun hc=>by
    obtain⟨k,hk⟩:=List.getElem?_of_mem hc
    have hko:k<o:=by
     have:=(List.getElem?_eq_some_iff.1 hk).1;simp at this;omega
    rw[List.getElem?_take_of_lt hko]at hk;exact e2 k hko hk
   have hd:s.drop ((o:Int).toNat+[c].length)=s.drop (o+1):=by simp
   rw[hd,show o+[c].length=o+1 from rfl,ih (s.drop (o+1)) (by simp;omega)];conv=>rhs;rw[hs]
   rw[ygb c _ _ hnot];simp
theorem ycd (c : UInt8) : ∀ (l : List UInt8), (y9 c l).length <= l.length + 1 /\ ∀ x ∈ y9 c l, x.length <= l.length
 | []=>by simp[y9]
 | b::l=>by
  obtain⟨h1,h2⟩:=ycd c l;simp only[y9];split
  ·simp only[List.length_cons,List.mem_cons]
   refine⟨by omega,fun x hx => ?_⟩;rcases hx with rfl|hx
   ·simp
   ·have:=h2 x hx;omega
  ·split
   ·simp
   ·rename_i x r he
    rw[he]at h1 h2;simp only[List.length_cons,List.mem_cons]at h1 ⊢;refine⟨by omega,fun y hy => ?_⟩;rcases hy with rfl|hy
    ·have:=h2 x (by simp);simp only[List.length_cons];omega
    ·have:=h2 y (by simp[hy]);omega
end Go.Ab
namespace Go.Ab
open Go Go.Proofs
theorem y4y {f : FuncId} {T : TypeId} (hok : FnOk Tryz.prog f) (a0 a1 : List UInt8) (hp0 : a0.length <= 1048576) (hp1 : a1.length = 1)
  (hS:∀ (s sep:ByteArray) (m:Int) (w:World),s.size<4294967281->w.cell? ⟨1,0,none⟩=some (.int .i64 m)->1<=sep.size->Calls Tryz.prog f #[.string s,.string sep] w fun e w'=>
   e=.returned (.slice (some ⟨w.heap.size,0,none⟩) (Go.Lib.countB s sep+1) (Go.Lib.countB s sep+1))/\w'=w.alloc (.cells ((Go.Lib.splitB sep 0 (Go.Lib.countB s sep) s).map Value.string).toArray T)) :
  Den Tryz.prog f [.str a0,.str a1] (ownL T 1 (fun s:List UInt8=>[.str s]) (y9 (a1.getD 0 0) a0)):=by
 obtain⟨c,rfl⟩:∃ c,a1=[c]:=List.length_eq_one_iff.1 hp1
 have hl:Go.Lib.splitB ⟨#[c]⟩ 0 (Go.Lib.countB ⟨a0.toArray⟩ ⟨#[c]⟩) ⟨a0.toArray⟩=(y9 c a0).map fun x=>(⟨x.toArray⟩:ByteArray):=by
  have h1:=Go.Lib.splitB_data ⟨#[c]⟩ 0 (Go.Lib.countB ⟨a0.toArray⟩ ⟨#[c]⟩) ⟨a0.toArray⟩;rw[show Go.Lib.splitK (⟨#[c]⟩:ByteArray).data.toList 0 (Go.Lib.countB ⟨a0.toArray⟩ ⟨#[c]⟩) (⟨a0.toArray⟩:ByteArray).data.toList=y9 c a0 from ym0 c _ a0 (Nat.le_refl _)]at h1;rw[<- h1,List.map_map];refine(List.map_id'' (fun x => ?_) _).symm;rfl
 have hcl:(y9 c a0).length=Go.Lib.countB ⟨a0.toArray⟩ ⟨#[c]⟩+1:=by
  have h2:=Go.Lib.splitB_all ⟨#[c]⟩ (by show 1<=1;omega) 0 (Go.Lib.countB ⟨a0.toArray⟩ ⟨#[c]⟩) ⟨a0.toArray⟩ rfl;rw[hl]at h2;simpa using h2
 obtain⟨l1,l2⟩:=ycd c a0
 have hnth:∀ i,i<(y9 c a0).length->((y9 c a0).getD i default).length<=maxLen:=by
  intro i hi
  have:(y9 c a0).getD i default∈y9 c a0:=by
   rw[List.getD_eq_getElem?_getD,List.getElem?_eq_getElem hi];simp
  have:=l2 _ this;unfold maxLen;omega
 refine Den.fresh (T:=T) (e:=1) (enc:=fun s:List UInt8=>[.str s]) (l:=y9 c a0) hok (by simp[NoOwnL,NoOwn]) (fun i=>[Value.string ⟨((y9 c a0).getD i default).toArray⟩]) (fun w M i hi=>⟨?_,rfl,by simp[Value.oneCell']⟩) ?_
 ·simp only[RepL]
  exact⟨_,[],[],[],rfl,rfl,ywb _ (hnth i hi),rfl,rfl⟩
 ·intro w M vs hI hr
  simp only[RepL]at hr;obtain⟨u0,us0,f0,g0,rfl,h0e,h0,u1,us1,f1,g1,rfl,h1e,h1,rfl,_⟩:=hr;have e0:=h0.val_str;have e1:=h1.val_str;subst e0 e1;obtain⟨m,hm⟩:=hI.1.2;refine(hS ⟨a0.toArray⟩ ⟨#[c]⟩ m w (by show a0.length<_;omega) hm (by show 1<=1;omega)).mono ?_;rintro e w' ⟨rfl,rfl⟩
  refine⟨w.heap.size,(y9 c a0).length,((y9 c a0).map fun x=>Value.string ⟨x.toArray⟩).toArray,by rw[<- hcl],?_⟩
  have hmap:(Go.Lib.splitB ⟨#[c]⟩ 0 (Go.Lib.countB ⟨a0.toArray⟩ ⟨#[c]⟩) ⟨a0.toArray⟩).map Value.string=(y9 c a0).map fun x=>Value.string ⟨x.toArray⟩:=by
   rw[hl,List.map_map];rfl
  rw[hmap];have hfl:=yuk w T ((y9 c a0).map fun x=>Value.string ⟨x.toArray⟩) (by rw[List.length_map];unfold maxLen;omega);rw[List.length_map]at hfl
  have hus:((List.range (y9 c a0).length).flatMap fun i=>[((y9 c a0).map fun x=>Value.string ⟨x.toArray⟩).getD i default])=(List.range (y9 c a0).length).flatMap fun i=>[Value.string ⟨((y9 c a0).getD i default).toArray⟩]:=by
   rw[List.flatMap_def,List.flatMap_def];congr 1
   apply List.map_congr_left;intro i hi;have hi:=List.mem_range.1 hi;simp[List.getD_eq_getElem?_getD,List.getElem?_map,List.getElem?_eq_getElem hi]
  rw[hus]at hfl;exact hfl
def zf (a0:(List UInt8)) (a1:(List UInt8)):(List (List UInt8)):=y9 (a1.getD 0 0) a0
theorem yl7 (a0:(List UInt8)) (a1:(List UInt8)) (hp0:a0.length<=1048576) (hp1:a1.length=1):Den Tryz.prog 65 [.str a0,.str a1] (ownL 9 1 eS (zf a0 a1)):=by
 exact y4y ⟨_,Tryz.func65,rfl,rfl⟩ a0 a1 hp0 hp1 (fun s sep m w=>Any.strings_Split Tryz.lays146 (by kernel_rfl) s sep m w)
def D_zf : DF
 | [x0,x1]=>some (ownL 9 1 eS (zf (rdS x0) (rdS x1)),false,[wS x0,wS x1,(rdS x0).length<=1048576,(rdS x1).length=1])
 | _=>none
theorem ypj:OkD Tryz.prog 65 D_zf:=by
 intro xs r z ob h ho;unfold D_zf at h;split at h
 ·simp only[Option.some.injEq,Prod.mk.injEq]at h
  obtain⟨rfl,rfl,rfl⟩:=h;obtain⟨h0,h1,hp0,hp1,_⟩:=ho;exact Den.sim (yl7 _ _ hp0 hp1) (yh (ycb h0).1 <| yh (ycb h1).1 <| trivial) (yw (ycb h0).2 <| yw (ycb h1).2 <| rfl) rfl
 ·cases h
theorem yet (a b:List UInt8) (h:a.length<=1048576):(zf a b).length<=1048577/\∀ x∈zf a b,x.length<=1048576:=by
 obtain⟨h1,h2⟩:=ycd (b.getD 0 0) a;exact⟨by unfold zf;omega,fun x hx=>by have:=h2 x hx;omega⟩
theorem yw4 {l:List (List UInt8)} {m:Nat} (h:∀ x∈l,x.length<=m) (i:Nat):(l.getD i default).length<=m:=by
 rw[List.getD_eq_getElem?_getD]
 cases hg:l[i]? with
 | none=>exact Nat.zero_le _
 | some x=>exact h x (List.mem_of_getElem? hg)
theorem ycj (a:List UInt8) (c:UInt8) (i:Nat):((zf a [c]).getD i default).length<=a.length:=yw4 (ycd c a).2 i
theorem y70 (a:List UInt8) (c:UInt8):(zf a [c]).length<=a.length+1:=(ycd c a).1
theorem yh6 {y:List UInt8} (h:y≠[]) (hl:y.length<=1048576):IntKind.wrap .i64 ((y.length:Int)-1)=(y.length:Int)-1/\(List.take (IntKind.wrap .i64 ((y.length:Int)-1)).toNat y).length<=1048576/\1<=y.length:=by
 have:=List.length_pos_iff.2 h;refine⟨by rw[IntKind.wrap_i64];omega,?_,this⟩;rw[List.length_take];omega
end Go.Ab
namespace Go.Ab
open Go
def y6c:List (List UInt8):=[[46,45],[45,46,46,46],[45,46,45,46],[45,46,46],[46],[46,46,45,46],[45,45,46],[46,46,46,46],[46,46],[46,45,45,45],[45,46,45],[46,45,46,46],[45,45],[45,46],[45,45,45],[46,45,45,46],[45,45,46,45],[46,45,46],[46,46,46],[45],[46,46,45],[46,46,46,45],[46,45,45],[45,46,46,45],[45,46,45,45],[45,45,46,46]]
theorem yhh:∀ x∈y6c,1<=x.length/\x.length<=4/\∀ c∈x,c=45\/c=46:=by decide
theorem yoj (n:Nat):(y6c.getD n default).length<=4:=by
 rw[List.getD_eq_getElem?_getD]
 cases h:y6c[n]? with
 | none=>show(0:Nat)<=4;omega
 | some x=>exact(yhh x (List.mem_of_getElem? h)).2.1
theorem y31 (n:Nat):(([[46,45],[45,46,46,46],[45,46,45,46],[45,46,46],[46],[46,46,45,46],[45,45,46],[46,46,46,46],[46,46],[46,45,45,45],[45,46,45],[46,45,46,46],[45,45],[45,46],[45,45,45],[46,45,45,46],[45,45,46,45],[46,45,46],[46,46,46],[45],[46,46,45],[46,46,46,45],[46,45,45],[45,46,46,45],[45,46,45,45],[45,45,46,46]]:List (List UInt8)).getD n default).length<=4:=yoj n
theorem yng (a:List UInt8) (c:UInt8) (h:a.length=1):Op.bytesLess a [c]=decide ((a.getD 0 0).toNat<c.toNat):=by
 obtain⟨x,rfl⟩:=List.length_eq_one_iff.1 h;simp only[Op.bytesLess,Bool.and_false,Bool.or_false,List.getD_cons_zero];rfl
theorem yry (a:List UInt8) (c:UInt8) (h:a.length=1):(a == [c])=decide ((a.getD 0 0).toNat=c.toNat):=by
 obtain⟨x,rfl⟩:=List.length_eq_one_iff.1 h;apply Bool.eq_iff_iff.2;simp[UInt8.toNat_inj]
theorem yvk (n:Int) (h1:0<=n) (h2:n<256):IntKind.wrap .u8 n=n:=by
 have:IntKind.wrap .u8 n=n % 256:=rfl;rw[this];omega
theorem yb0 (a:List UInt8) (h:((a.length:Int)=1/\Op.bytesLess a [65]=false)/\(Op.bytesLess a [90]=true\/(a == [90])=true)) :
  0<=IntKind.wrap .u8 (((a.getD 0 0).toNat:Int)-65)/\IntKind.wrap .u8 (((a.getD 0 0).toNat:Int)-65)<26/\0<=IntKind.wrap .u8 (((a.getD 0 0).toNat:Int) + -65)/\IntKind.wrap .u8 (((a.getD 0 0).toNat:Int) + -65)<26:=by
 have h1:a.length=1:=by omega
 rw[yng a 65 h1,yng a 90 h1,yry a 90 h1]at h;have e1:(65:UInt8).toNat=65:=rfl;have e2:(90:UInt8).toNat=90:=rfl;rw[e1,e2]at h;simp only[decide_eq_true_eq,decide_eq_false_iff_not]at h;have hx:65<=(a.getD 0 0).toNat/\(a.getD 0 0).toNat<=90:=by omega
 rw[yvk _ (by omega) (by omega),yvk _ (by omega) (by omega)];omega
theorem y3e {ρ α : Type} (b : Nat -> List α -> Except ρ (List α)) (f : Nat -> List α) : ∀ (n i : Nat) (s : List α), (∀ j s, i <= j -> j < i + n -> b j s = .ok (s ++ f j)) -> yf b n i s = .ok (s ++ (List.range' i n).flatMap f)
 | 0,i,s,_=>by simp[yf]
 | n+1,i,s,h=>by
  simp only[yf];rw[h i s (Nat.le_refl _) (by omega)];simp only;rw[y3e b f n (i+1) _ (fun j s h1 h2=>h j s (by omega) (by omega)),List.range'_succ,List.flatMap_cons,List.append_assoc]
theorem ybl {ρ σ:Type} {b b':Nat->σ->Except ρ σ} (n i:Nat) (s:σ) (h:∀ j u,i<=j->j<i+n->b j u=b' j u):yf b n i s=yf b' n i s:=loopR_congr0 n i s h
where
 loopR_congr0 {ρ σ:Type} {b b':Nat->σ->Except ρ σ}:∀ (n i:Nat) (s:σ),(∀ j u,i<=j->j<i+n->b j u=b' j u)->yf b n i s=yf b' n i s
 | 0,i,s,_=>rfl
 | n+1,i,s,h=>by
  simp only[yf];rw[h i s (Nat.le_refl _) (by omega)]
  cases b' i s with
  | error r=>rfl
  | ok t=>exact loopR_congr0 n (i+1) t (fun j u h1 h2=>h j u (by omega) (by omega))
theorem yyg {α β:Type} (l:List α) (d:α) (f:α->β):(List.range' 0 l.length).flatMap (fun j=>[f (l.getD j d)])=l.map f:=by
 rw[<- List.map_eq_flatMap];apply List.ext_getElem
 ·simp
 ·intro i h1 h2
  simp only[List.length_map]at h2;simp[List.getD_eq_getElem?_getD,h2]
def y5c (l:List UInt8):Prop:=∀ b∈l,48<=b.toNat/\b.toNat<=57
instance (l:List UInt8):Decidable (y5c l):=by unfold y5c;infer_instance
def digV (n:Nat) (l:List UInt8):Nat:=l.foldl (fun k b=>10 * k+(b.toNat-48)) n
theorem yee (n:Nat):digV n []=n:=List.foldl_nil
theorem yqc (n:Nat) (c:UInt8) (l:List UInt8):digV n (c::l)=digV (10 * n+(c.toNat-48)) l:=List.foldl_cons ..
theorem yhy (b:UInt8) (l:List UInt8) (n:Nat):digV n (l++[b])=10 * digV n l+(b.toNat-48):=by
 unfold digV;rw[List.foldl_append,List.foldl_cons,List.foldl_nil]
theorem ym5 (l:List UInt8):∀ (n:Nat),y5c l->digV n l<(n+1) * 10 ^ l.length:=by
 induction l with
 | nil=>intro n _;rw[yee,List.length_nil,Nat.pow_zero];omega
 | cons c l ih=>
  intro n h;have hc:=h c (by simp);have h1:=ih (10 * n+(c.toNat-48)) (fun b hb=>h b (by simp[hb]));rw[yqc,List.length_cons,Nat.pow_succ];have h2:(10 * n+(c.toNat-48)+1) * 10 ^ l.length<=((n+1) * 10) * 10 ^ l.length:=Nat.mul_le_mul_right _ (by omega);have h3:((n+1) * 10) * 10 ^ l.length=(n+1) * (10 ^ l.length * 10):=by rw[Nat.mul_assoc,Nat.mul_comm 10]
  omega
theorem yez (l:List UInt8):∀ (n:Nat),n * 10 ^ l.length<=digV n l:=by
 induction l with
 | nil=>intro n;rw[yee,List.length_nil,Nat.pow_zero];omega
 | cons c l ih=>
  intro n;have h1:=ih (10 * n+(c.toNat-48));rw[yqc,List.length_cons,Nat.pow_succ];have h2:(n * 10) * 10 ^ l.length<=(10 * n+(c.toNat-48)) * 10 ^ l.length:=Nat.mul_le_mul_right _ (by omega);have h3:(n * 10) * 10 ^ l.length=n * (10 ^ l.length * 10):=by rw[Nat.mul_assoc,Nat.mul_comm 10]
  omega
theorem yxd (m:Nat) (h:¬ m<10):Lib.decDigits m=Lib.decDigits (m / 10)++[UInt8.ofNat (48+m % 10)]:=by
 rw[Lib.decDigits,dif_neg h]
theorem yfo (d:Nat) (h:d<10):(UInt8.ofNat (48+d)).toNat=48+d:=by
 rw[UInt8.toNat_ofNat'];omega
theorem ydb (m:Nat):y5c (Lib.decDigits m)/\digV 0 (Lib.decDigits m)=m/\Lib.decDigits m≠[]/\(1<=m->(Lib.decDigits m).getD 0 0≠48):=by
 induction m using Nat.strongRecOn with
 | ind m ih=>
  by_cases h:m<10
  ·rw[Lib.decDigits_one h]
   refine⟨fun b hb => ?_,?_,by simp,fun h1 => ?_⟩
   ·simp only[List.mem_singleton]at hb
    subst hb;rw[yfo m h];omega
   ·rw[yqc,yee,yfo m h];omega
   ·intro e
    have e2:(UInt8.ofNat (48+m)).toNat=48:=by
     have:(UInt8.ofNat (48+m))=48:=by simpa using e
     rw[this];rfl
    rw[yfo m h]at e2;omega
  ·obtain⟨i1,i2,i3,i4⟩:=ih (m / 10) (by omega)
   rw[yxd m h];refine⟨fun b hb => ?_,?_,by simp,fun _ => ?_⟩
   ·rcases List.mem_append.1 hb with hb|hb
    ·exact i1 b hb
    ·simp only[List.mem_singleton]at hb
     subst hb;rw[yfo _ (by omega)];omega
   ·rw[yhy,i2,yfo _ (by omega)];omega
   ·obtain⟨c,t,e⟩:=List.exists_cons_of_ne_nil i3
    have:=i4 (by omega);rw[e]at this ⊢;simpa using this
theorem ytc (m:Nat):(Lib.decDigits m).length<=18↔m<1000000000000000000:=by
 obtain⟨h1,h2,h3,h4⟩:=ydb m;constructor
 ·intro h
  have:=ym5 (Lib.decDigits m) 0 h1;rw[h2]at this;have h5:10 ^ (Lib.decDigits m).length<=10 ^ 18:=Nat.pow_le_pow_right (by decide) h;have h6:(10:Nat) ^ 18=1000000000000000000:=by decide
  omega
 ·intro h
  by_cases hl:(Lib.decDigits m).length<=18
  ·exact hl
  ·exfalso
   obtain⟨c,t,e⟩:=List.exists_cons_of_ne_nil h3
   have hm:1<=m:=by
    by_cases h0:m=0
    ·subst h0;rw[Lib.decDigits_one (by decide)]at hl;simp at hl
    ·omega
   have h48:=h4 hm;rw[e]at h48 h1 h2 hl;have hc:=h1 c (by simp)
   have hc1:49<=c.toNat:=by
    have:c.toNat≠48:=fun e2=>h48 (by
     have:c=48:=UInt8.toNat_inj.1 (by rw[e2];rfl)
     simp[this])
    omega
   have h5:=yez t (10 * 0+(c.toNat-48));have h6:digV 0 (c::t)=digV (10 * 0+(c.toNat-48)) t:=yqc ..;have h7:10 ^ 18<=10 ^ t.length:=Nat.pow_le_pow_right (by decide) (by simp at hl;omega);have h8:(10:Nat) ^ 18=1000000000000000000:=by decide
   have h9:1 * 10 ^ t.length<=(10 * 0+(c.toNat-48)) * 10 ^ t.length:=Nat.mul_le_mul_right _ (by omega);omega
theorem y0k (M:Nat) (l:List UInt8):∀ (n:Nat),y5c l->digV n l<=M->M<18446744073709551616->Lib.parseUintM M n l=.ok (digV n l):=by
 induction l with
 | nil=>intro n _ _ _;rw[yee,Lib.parseUintM]
 | cons c l ih=>
  intro n h hM h64;have hc:=h c (by simp);have h1:=yez l (10 * n+(c.toNat-48));have h2:1<=10 ^ l.length:=Nat.one_le_pow _ _ (by decide);have h3:(10 * n+(c.toNat-48)) * 1<=(10 * n+(c.toNat-48)) * 10 ^ l.length:=Nat.mul_le_mul_left _ h2;rw[yqc]at hM ⊢;rw[Lib.parseUintM,if_pos hc,if_neg (by omega),if_neg (by omega),Nat.mul_comm n 10];exact ih _ (fun b hb=>h b (by simp[hb])) hM h64
end Go.Ab
namespace Go.Ab
open Go Go.Proofs
def E18:Nat:=1000000000000000000
theorem y3i (m:Nat):Lib.itoa (m:Int)=Lib.decDigits m:=by
 unfold Lib.itoa;rw[if_neg (by omega)];simp
theorem ywd {n:Int} (h:¬ n<0):Lib.itoa n=Lib.decDigits n.natAbs:=by
 unfold Lib.itoa;rw[if_neg h];congr 1;omega
theorem ysc {n:Int} (h:n<0):Lib.itoa n=45::Lib.decDigits n.natAbs:=by
 unfold Lib.itoa;rw[if_pos h]
theorem yp0 (m:Nat):∃ c t,Lib.decDigits m=c::t/\c≠45:=by
 obtain⟨h1,h2,h3,h4⟩:=ydb m;obtain⟨c,t,e⟩:=List.exists_cons_of_ne_nil h3;refine⟨c,t,e,fun h => ?_⟩;have:=h1 c (by rw[e];simp);subst h;simp at this
theorem ynu {n n':Int} (h:Lib.itoa n=Lib.itoa n'):n=n':=by
 have hd:∀ m:Nat,digV 0 (Lib.decDigits m)=m:=fun m=>(ydb m).2.1
 by_cases h1:n<0<;>by_cases h2:n'<0
 ·rw[ysc h1,ysc h2]at h
  have:=congrArg (digV 0) (List.cons.inj h).2;rw[hd,hd]at this;omega
 ·obtain⟨c,t,e,hc⟩:=yp0 n'.toNat
  rw[ysc h1,show n'=(n'.toNat:Int)by omega,y3i,e]at h;exact absurd (List.cons.inj h).1.symm hc
 ·obtain⟨c,t,e,hc⟩:=yp0 n.toNat
  rw[ysc h2,show n=(n.toNat:Int)by omega,y3i,e]at h;exact absurd (List.cons.inj h).1 hc
 ·rw[show n=(n.toNat:Int)by omega,show n'=(n'.toNat:Int)by omega,y3i,y3i]at h
  have:=congrArg (digV 0) h;rw[hd,hd]at this;omega
theorem y1o (n:Int):(Lib.trimPrefix (Lib.itoa n) [45]).length=(Lib.decDigits n.natAbs).length:=by
 by_cases h:n<0
 ·rw[ysc h];simp[Lib.trimPrefix,Lib.hasPrefix]
 ·obtain⟨c,t,e,hc⟩:=yp0 n.toNat
  rw[ywd h];rw[show n.toNat=n.natAbs by omega]at e;unfold Lib.trimPrefix Lib.hasPrefix;rw[if_neg (by rw[e];simp;exact fun h=>hc h.symm)]
theorem y3h (n:Int) (h1:n.natAbs<E18):Lib.parseIntB 64 (Lib.itoa n)=.ok n:=by
 unfold E18 at h1;obtain⟨d1,d2,d3,d4⟩:=ydb n.natAbs
 have hp:Lib.parseUintB 64 (Lib.decDigits n.natAbs)=.ok n.natAbs:=by
  unfold Lib.parseUintB;rw[if_neg d3,y0k _ _ 0 d1 (by rw[d2];omega) (by decide),d2]
 by_cases h:n<0
 ·rw[ysc h,Lib.parseIntB_minus,hp]
  show(if 2 ^ (64-1)<n.natAbs then _ else _)=_;rw[if_neg (by omega)];congr 1;omega
 ·obtain⟨c,t,e,hc⟩:=yp0 n.natAbs
  have e2:=ywd h;have hc1:=d1 c (by rw[e];simp);rw[e2];rw[e]at hp ⊢;rw[Lib.parseIntB_plain 64 c t (by omega) (by omega),hp];show(if 2 ^ (64-1)<=n.natAbs then _ else _)=_;rw[if_neg (by omega)];congr 1;omega
def y55 (w:List UInt8) (r:Int×Bool):Prop:=
 (∃ n:Int,n.natAbs<E18/\w=Lib.itoa n/\r=(n,true))\/((∀ n:Int,n.natAbs<E18->w≠Lib.itoa n)/\r=(0,false))
theorem yji (w:List UInt8):y55 w (y8b w):=by
 unfold y8b;by_cases h18:18<(Lib.trimPrefix w [45]).length
 ·rw[if_pos h18]
  refine .inr ⟨fun n hn e => ?_,rfl⟩;subst e;rw[y1o]at h18;have:=(ytc n.natAbs).2 hn;omega
 ·rw[if_neg h18]
  cases hp:Lib.parseIntB 64 w with
  | ok v=>
   simp only;by_cases hv:Lib.itoa v=w
   ·rw[if_pos hv]
    refine .inl ⟨v,?_,hv.symm,rfl⟩;subst hv;rw[y1o]at h18;exact(ytc v.natAbs).1 (by omega)
   ·rw[if_neg hv]
    refine .inr ⟨fun n hn e => ?_,rfl⟩;subst e;rw[y3h n hn]at hp;cases hp
    exact hv rfl
  | _ => exact .inr ⟨fun n hn e=>(by subst e;rw[y3h n hn]at hp;cases hp),rfl⟩
theorem wid {n:Int} (h1 : -9223372036854775808<=n) (h2:n<=9223372036854775807):IntKind.wrap .i64 n=n:=by
 rw[IntKind.wrap_i64];omega
theorem y0l (a:List UInt8) (b:Nat->Int->Except (Int×Bool) Int) (hb:∀ i s,b i s=(bif (!(decide (48<=((a.getD i 0).toNat:Int)) && decide (((a.getD i 0).toNat:Int)<=57)))then .error (0,false)else .ok (IntKind.wrap .i64 ((IntKind.wrap .i64 (10 * s))+(IntKind.wrap .i64 (IntKind.wrap .u8 (((a.getD i 0).toNat:Int)-48))))))) :
  ∀ (k i n:Nat),i+k=a.length->(n+1) * 10 ^ k<=E18->yf b k i (n:Int)=if y5c (a.drop i)then .ok ((digV n (a.drop i):Nat):Int)else .error (0,false)
 | 0,i,n,h,hn=>by
  rw[List.drop_eq_nil_of_le (by omega),yee,if_pos (by intro b hb;simp at hb)];rfl
 | k+1,i,n,h,hn=>by
  have hlt:i<a.length:=by omega
  have hg:a.getD i 0=a[i]:=by simp[List.getD,List.getElem?_eq_getElem hlt]
  rw[List.drop_eq_getElem_cons hlt,yqc];simp only[yf,hb,hg];have h10:(n+1) * 10 ^ (k+1)=((n+1) * 10) * 10 ^ k:=by rw[Nat.pow_succ,Nat.mul_assoc,Nat.mul_comm 10]
  have hone:1<=10 ^ k:=Nat.one_le_pow _ _ (by decide);have hbig:(n+1) * 10 * 1<=(n+1) * 10 * 10 ^ k:=Nat.mul_le_mul_left _ hone;unfold E18 at hn;by_cases hd:48<=a[i].toNat/\a[i].toNat<=57
  ·have e:(!(decide (48<=((a[i]).toNat:Int)) && decide (((a[i]).toNat:Int)<=57)))=false:=by simp;omega
   rw[e,cond_false]
   have hw:IntKind.wrap .i64 ((IntKind.wrap .i64 (10 * (n:Int)))+(IntKind.wrap .i64 (IntKind.wrap .u8 (((a[i]).toNat:Int)-48))))=((10 * n+(a[i].toNat-48):Nat):Int):=by
    rw[wid (n:=10 * (n:Int)) (by omega) (by omega),IntKind.wrap_u8,Int.emod_eq_of_lt (by omega) (by omega),wid (n:=((a[i]).toNat:Int)-48) (by omega) (by omega),wid (by omega) (by omega)];omega
   rw[hw];simp only;have hm:(10 * n+(a[i].toNat-48)+1) * 10 ^ k<=(n+1) * 10 * 10 ^ k:=Nat.mul_le_mul_right _ (by omega);rw[y0l a b hb k (i+1) _ (by omega) (by unfold E18;omega)]
   have hiff:y5c (a[i]::a.drop (i+1))↔y5c (a.drop (i+1)):=⟨fun h b hb=>h b (List.mem_cons_of_mem _ hb),fun h b hb=>by
    rcases List.mem_cons.1 hb with rfl|hb
    ·exact hd
    ·exact h b hb⟩
   by_cases hA:y5c (a.drop (i+1))
   ·rw[if_pos hA,if_pos (hiff.2 hA)]
   ·rw[if_neg hA,if_neg (fun h=>hA (hiff.1 h))]
  ·have e:(!(decide (48<=((a[i]).toNat:Int)) && decide (((a[i]).toNat:Int)<=57)))=true:=by
    simp;omega
   rw[e,cond_true];simp only;rw[if_neg (fun h=>hd (h a[i] List.mem_cons_self))]
def zpg (a0:Int) (a1:Int):(List UInt8):=Go.Lib.itoa a0
theorem ym6 (a0:Int) (a1:Int) (hp0:a1=10) (hp1 : -9223372036854775808<=a0) (hp2:a0<=9223372036854775807):Den Tryz.prog 47 [.int .i64 a0,.int .i64 a1] (.str (zpg a0 a1)):=by
 subst hp0;refine Den.plain ⟨_,Tryz.func47,rfl,rfl⟩ (by simp[NoOwnL,NoOwn]) ?_;intro w M vs hI hr;simp only[RepL]at hr;obtain⟨u0,us0,f0,g0,rfl,h0e,h0,u1,us1,f1,g1,rfl,h1e,h1,rfl,_⟩:=hr;have e0:=h0.val_int;have e1:=h1.val_int;subst e0 e1;refine(Any.strconv_FormatInt_10 Tryz.laysM173 a0 hp1 hp2 w hI.1.1).mono ?_;rintro e w' ⟨rfl,k,os,rfl⟩
 exact⟨_,rfl,ywl w k os,fun M'=>ywb _ (yj2 hp1 hp2)⟩
def D_zpg : DF
 | [x0,x1]=>some (.str (zpg (rdI x0) (rdI x1)),false,[wI .i64 x0,wI .i64 x1,(rdI x1)=10,-9223372036854775808<=(rdI x0),(rdI x0)<=9223372036854775807])
 | _=>none
theorem yx2:OkD Tryz.prog 47 D_zpg:=by
 intro xs r z ob h ho;unfold D_zpg at h;split at h
 ·simp only[Option.some.injEq,Prod.mk.injEq]at h
  obtain⟨rfl,rfl,rfl⟩:=h;obtain⟨h0,h1,hp0,hp1,hp2,_⟩:=ho;exact Den.sim (ym6 _ _ hp0 hp1 hp2) (yh (yue h0).1 <| yh (yue h1).1 <| trivial) (yw (yue h0).2 <| yw (yue h1).2 <| rfl) rfl
 ·cases h
end Go.Ab
namespace Go.Ab
open Go
theorem ywi (s:List Int) (a b:Int) (i:Nat) (hi:i<s.length+2):(bif i.blt s.length then[AV.int .i64 (s.getD i default)]else borrowL (elt [[AV.int .i64 a],[AV.int .i64 b]] (i-s.length)))=[AV.int .i64 ((s++[a,b]).getD i default)]:=by
 by_cases h:i<s.length
 ·have:i.blt s.length=true:=by rw[Nat.blt_eq];exact h
  rw[this];simp[List.getD_eq_getElem?_getD,List.getElem?_append_left h]
 ·have:i.blt s.length=false:=by rw[<- Bool.not_eq_true,Nat.blt_eq];exact h
  rw[this];rcases(show i=s.length\/i=s.length+1 by omega)with h1|h1
  ·subst h1
   simp[elt,borrowL,borrow,List.getD_eq_getElem?_getD]
  ·subst h1
   simp[elt,borrowL,borrow,List.getD_eq_getElem?_getD]
theorem ygh (s:List Int) (a:Int) (i:Nat) (hi:i<s.length+1):(bif i.blt s.length then[AV.int .i64 (s.getD i default)]else borrowL (elt [[AV.int .i64 a]] (i-s.length)))=[AV.int .i64 ((s++[a]).getD i default)]:=by
 by_cases h:i<s.length
 ·have:i.blt s.length=true:=by rw[Nat.blt_eq];exact h
  rw[this];simp[List.getD_eq_getElem?_getD,List.getElem?_append_left h]
 ·have:i.blt s.length=false:=by rw[<- Bool.not_eq_true,Nat.blt_eq];exact h
  rw[this];have h1:i=s.length:=by omega
  subst h1;simp[elt,borrowL,borrow,List.getD_eq_getElem?_getD]
theorem ymq (s:List Int) (a b:Int) (i:Nat) (hi:i<s.length+1+1):(bif i.blt (s.length+1)then bif i.blt s.length then[AV.int .i64 (s.getD i default)]else borrowL (elt [[AV.int .i64 a]] (i-s.length))else borrowL (elt [[AV.int .i64 b]] (i-(s.length+1))))=[AV.int .i64 ((s++[a]++[b]).getD i default)]:=by
 by_cases h:i<s.length+1
 ·have:i.blt (s.length+1)=true:=by rw[Nat.blt_eq];exact h
  rw[this,cond_true];refine(ygh s a i h).trans ?_;rw[List.getD_eq_getElem?_getD,List.getD_eq_getElem?_getD,List.getElem?_append_left (l₁:=s++[a]) (l₂:=[b]) (by simpa using h)]
 ·have:i.blt (s.length+1)=false:=by rw[<- Bool.not_eq_true,Nat.blt_eq];exact h
  rw[this];have h1:i=s.length+1:=by omega
  subst h1;simp[elt,borrowL,borrow,List.getD_eq_getElem?_getD]
theorem y3p (s:List Int) (a b:Int) (i:Nat) (hi:i<s.length+2):(i.blt s.length || pureL (borrowL (elt [[AV.int .i64 a],[AV.int .i64 b]] (i-s.length))))=true:=by
 by_cases h:i<s.length
 ·have:i.blt s.length=true:=by rw[Nat.blt_eq];exact h
  rw[this];rfl
 ·rcases(show i-s.length=0\/i-s.length=1 by omega)with h1|h1<;>rw[h1]<;>simp[elt,borrowL,borrow,pureL,pureV]
end Go.Ab
namespace Go.Ab
open Go Go.Proofs
def ycq (a0:(List (List UInt8))) (a1:(List UInt8)) (i1:Nat) (s1:Unit):Except (Int) (Unit):=
 (bif (a1 == (a0.getD i1 default))then .error (i1:Int)else .ok ())
def zue (a0:(List (List UInt8))) (a1:(List UInt8)):Int:=
 (match yf (ycq a0 a1) (a0.length-0) 0 ()with|.error e=>e|.ok s1=>(-1))
namespace N178
theorem DD:DOk Tryz.prog (Go.Ab.DD []):=yd _
theorem den (a0:(List (List UInt8))) (a1:(List UInt8))  : Den Tryz.prog 178 [encL 1 eS a0,.str a1] (.int .i64 (zue a0 a1)):=by
 generalize hR:zue a0 a1=r;unfold zue at hR;refine di Tryz.func178 Tryz.ntmps178 Tryz.results178 ?_;intro c hL hc hk;obtain⟨hL0,hL1,_⟩:=hL;have hw0:a0.length<9223372036854775808:=Nat.lt_succ_of_le (yc hL0).1;have hw1:∀ v∈a0,bwS v:=fun v hv=>yjv v ((yc hL0).2 v hv)
 have hw2:a1.length<9223372036854775808:=Nat.lt_succ_of_le hL1;clear hL0 hL1;simp only[pars,Nat.zero_add];iterate 2 refine rS ?_
 refine AWP.block ?_;generalize hz1:yf (ycq a0 a1) (a0.length-0) 0 ()=z1 at hR;refine AWP.range (ycq a0 a1) (fun i1 s1=>⟨[(0,encL 1 eS a0),(1,.str a1),(7,.int .i64 (a0.length:Int)),(8,.int .i64 (i1:Int))],[]⟩) (fun i1 s1=>True) (a0.length) 0 () [] hz1 ot wt sm ?_;clear hz1;intro i1 s1 hi1 hW1 hz1;refine rS ?_;refine AWP.seq ?_;refine AWP.cond rfl (fun hb => ?_) (fun hb => ?_)
 ·have hlt1:i1<a0.length:=ot
  rw[yk hlt1]at hz1;simp only[ycq]at hz1;iterate 2 refine rS ?_
  refine AWP.cond rfl (fun hb => ?_) (fun hb => ?_)
  ·simp only[hb,cond_true]at hz1
   refine rS ?_;refine AWP.ret ?_;subst hz1;dsimp only at hR;subst hR;exact es
  ·simp only[hb,cond_false]at hz1
   refine rS ?_;exact⟨_,[],hlt1,wt,hz1,sm⟩
 ·obtain rfl:i1=a0.length:=ot
  rw[yl (Nat.le_refl _)]at hz1;subst hz1;dsimp only at hR;refine AWP.exit ?_;refine yb ?_;refine rS ?_;refine AWP.ret ?_;subst hR;exact es
end N178
def D_zue : DF
 | [x0,x1]=>some (.int .i64 (zue (rdL dS x0) (rdS x1)),false,[wL 1 eS dS x0,wS x1])
 | _=>none
theorem ya2:OkD Tryz.prog 178 D_zue:=by unfold D_zue;exact dk N178.den
def zkf (a0:(List (List UInt8))) (a1:(List UInt8)):Bool:=
 decide (0<=(zue a0 a1))
namespace N130
theorem DD:DOk Tryz.prog (Go.Ab.DD [(178,dP D_zue)]):=ya ya2.e <| yd _
theorem dn:type_of% (@D_zue.eq_1):=by and_intros<;>intros<;>rfl
theorem den (a0:(List (List UInt8))) (a1:(List UInt8))  : Den Tryz.prog 130 [encL 1 eS a0,.str a1] (.bool (zkf a0 a1)):=by
 generalize hR:zkf a0 a1=r;unfold zkf at hR;refine di Tryz.func130 Tryz.ntmps130 Tryz.results130 ?_;intro c hL hc hk;obtain⟨hL0,hL1,_⟩:=hL;have hw0:a0.length<9223372036854775808:=Nat.lt_succ_of_le (yc hL0).1;have hw1:∀ v∈a0,bwS v:=fun v hv=>yjv v ((yc hL0).2 v hv)
 have hw2:a1.length<9223372036854775808:=Nat.lt_succ_of_le hL1;clear hL0 hL1;simp only[pars,Nat.zero_add];iterate 2 refine rS ?_
 refine AWP.ret ?_;subst hR;exact es
end N130
def D_zkf : DF
 | [x0,x1]=>some (.bool (zkf (rdL dS x0) (rdS x1)),false,[wL 1 eS dS x0,wS x1])
 | _=>none
theorem ytu:OkD Tryz.prog 130 D_zkf:=by unfold D_zkf;exact dk N130.den
theorem yrd : ∀ (l cur : List UInt8) (m : Nat), cur.length + l.length <= m -> (Go.Lib.fieldsGo cur l).length <= cur.length + l.length /\ ∀ x ∈ Go.Lib.fieldsGo cur l, x.length <= m
 | [],cur,m,h=>by
  cases cur with
  | nil=>simp[Go.Lib.fieldsGo]
  | cons a c=>
   simp only[Go.Lib.fieldsGo,List.isEmpty_cons,List.length_cons,List.length_nil];refine⟨by simp,fun x hx => ?_⟩;simp at hx
   subst hx;simpa using h
 | b::l,cur,m,h=>by
  simp only[List.length_cons]at h ⊢;simp only[Go.Lib.fieldsGo];split
  ·split
   ·have:=yrd l [] m (by simp;omega)
    simp only[List.length_nil]at this;exact⟨by omega,this.2⟩
   ·rename_i hc
    have:=yrd l [] m (by simp;omega);simp only[List.length_nil]at this;have hcl:0<cur.length:=by cases cur with|nil=>simp at hc|cons _ _=>simp
    refine⟨by simp only[List.length_cons];omega,fun x hx => ?_⟩;rcases List.mem_cons.1 hx with rfl|hx
    ·omega
    ·exact this.2 x hx
  ·have:=yrd l (cur++[b]) m (by simp;omega)
   simp only[List.length_append,List.length_cons,List.length_nil]at this;exact⟨by omega,this.2⟩
theorem y7v (s:List UInt8):(Go.Lib.fields s).length<=s.length/\∀ x∈Go.Lib.fields s,x.length<=s.length:=by
 have:=yrd s [] s.length (by simp);simpa [Go.Lib.fields]using this
theorem ymw {f : FuncId} {T : TypeId} (hok : FnOk Tryz.prog f) (a0 : List UInt8) (hp0 : a0.length <= 1048576) (hp1 : ∀ x ∈ a0, x.toNat < 128)
  (hS:∀ (s:ByteArray) (w:World),s.size<4294967281->(∀ (j:Nat) b,s.data.toList[j]? = some b->b.toNat<128)->Go.Lib.TabIs Tryz.prog w tn1 .u8 Go.Lib.asciiSpaceTab->Calls Tryz.prog f #[.string s] w fun e w'=>
   e=.returned (.slice (some ⟨w.heap.size,0,none⟩) (Go.Lib.fields s.data.toList).length (Go.Lib.fields s.data.toList).length)/\w'=w.alloc (.cells ((Go.Lib.fields s.data.toList).map fun l=>Value.string ⟨l.toArray⟩).toArray T)) :
  Den Tryz.prog f [.str a0] (ownL T 1 (fun s:List UInt8=>[.str s]) (Go.Lib.fields a0)):=by
 obtain⟨l1,l2⟩:=y7v a0
 have hnth:∀ i,i<(Go.Lib.fields a0).length->((Go.Lib.fields a0).getD i default).length<=maxLen:=by
  intro i hi
  have:(Go.Lib.fields a0).getD i default∈Go.Lib.fields a0:=by
   rw[List.getD_eq_getElem?_getD,List.getElem?_eq_getElem hi];simp
  have:=l2 _ this;unfold maxLen;omega
 refine Den.fresh (T:=T) (e:=1) (enc:=fun s:List UInt8=>[.str s]) (l:=Go.Lib.fields a0) hok (by simp[NoOwnL,NoOwn]) (fun i=>[Value.string ⟨((Go.Lib.fields a0).getD i default).toArray⟩]) (fun w M i hi=>⟨?_,rfl,by simp[Value.oneCell']⟩) ?_
 ·simp only[RepL]
  exact⟨_,[],[],[],rfl,rfl,ywb _ (hnth i hi),rfl,rfl⟩
 ·intro w M vs hI hr
  simp only[RepL]at hr;obtain⟨u0,us0,f0,g0,rfl,h0e,h0,rfl,_⟩:=hr;have e0:=h0.val_str;subst e0;refine(hS ⟨a0.toArray⟩ w (by show a0.length<_;omega) (fun j b hb=>hp1 b (List.mem_of_getElem? hb)) hI.2.2.2).mono ?_;rintro e w' ⟨rfl,rfl⟩
  refine⟨w.heap.size,(Go.Lib.fields a0).length,((Go.Lib.fields a0).map fun x=>Value.string ⟨x.toArray⟩).toArray,rfl,?_⟩;have hfl:=yuk w T ((Go.Lib.fields a0).map fun x=>Value.string ⟨x.toArray⟩) (by rw[List.length_map];unfold maxLen;omega);rw[List.length_map]at hfl
  have hus:((List.range (Go.Lib.fields a0).length).flatMap fun i=>[((Go.Lib.fields a0).map fun x=>Value.string ⟨x.toArray⟩).getD i default])=(List.range (Go.Lib.fields a0).length).flatMap fun i=>[Value.string ⟨((Go.Lib.fields a0).getD i default).toArray⟩]:=by
   rw[List.flatMap_def,List.flatMap_def];congr 1
   apply List.map_congr_left;intro i hi;have hi:=List.mem_range.1 hi;simp[List.getD_eq_getElem?_getD,List.getElem?_map,List.getElem?_eq_getElem hi]
  rw[hus]at hfl;exact hfl
def zqg (a0:(List UInt8)):(List (List UInt8)):=Go.Lib.fields a0
theorem yx5 (a0:(List UInt8)) (hp0:a0.length<=1048576) (hp1:∀ x∈a0,x.toNat<128):Den Tryz.prog 179 [.str a0] (ownL 9 1 eS (zqg a0)):=by
 exact ymw ⟨_,Tryz.func179,rfl,rfl⟩ a0 hp0 hp1 (fun s w h1 h2 h3=>Any.strings_Fields Tryz.lays157 (by kernel_rfl) (by kernel_rfl) s w h1 h2 h3)
def D_zqg : DF
 | [x0]=>some (ownL 9 1 eS (zqg (rdS x0)),false,[wS x0,(rdS x0).length<=1048576,∀ x∈(rdS x0),x.toNat<128])
 | _=>none
theorem yu1:OkD Tryz.prog 179 D_zqg:=by
 intro xs r z ob h ho;unfold D_zqg at h;split at h
 ·simp only[Option.some.injEq,Prod.mk.injEq]at h
  obtain⟨rfl,rfl,rfl⟩:=h;obtain⟨h0,hp0,hp1,_⟩:=ho;exact Den.sim (yx5 _ hp0 hp1) (yh (ycb h0).1 <| trivial) (yw (ycb h0).2 <| rfl) rfl
 ·cases h
def ynm (a0:(List Int)) (a1:(List Int)) (i1:Nat) (s1:Unit):Except (Bool) (Unit):=
 (bif ((a0.getD i1 default) != (a1.getD i1 default))then .error false else .ok ())
def zxc (a0:(List Int)) (a1:(List Int)):Bool:=
 (bif ((a0.length:Int) != (a1.length:Int))then false else(match yf (ynm a0 a1) (a0.length-0) 0 ()with|.error e=>e|.ok s1=>true))
namespace N184
theorem DD:DOk Tryz.prog (Go.Ab.DD []):=yd _
theorem den (a0:(List Int)) (a1:(List Int))  : Den Tryz.prog 184 [encL 1 yv a0,encL 1 yv a1] (.bool (zxc a0 a1)):=by
 generalize hR:zxc a0 a1=r;unfold zxc at hR;refine di Tryz.func184 Tryz.ntmps184 Tryz.results184 ?_;intro c hL hc hk;obtain⟨hL0,hL1,_⟩:=hL;have hw0:a0.length<9223372036854775808:=Nat.lt_succ_of_le (yc hL0).1;have hw1:a1.length<9223372036854775808:=Nat.lt_succ_of_le (yc hL1).1;clear hL0 hL1;simp only[pars,Nat.zero_add];iterate 2 refine rS ?_
 refine AWP.cond rfl (fun hb => ?_) (fun hb => ?_)
 ·replace hR:=ct hR
  refine rS ?_;refine AWP.ret ?_;subst hR;exact es
 ·replace hR:=cf hR
  refine rS ?_;refine AWP.block ?_;generalize hz1:yf (ynm a0 a1) (a0.length-0) 0 ()=z1 at hR;refine AWP.range (ynm a0 a1) (fun i1 s1=>⟨[(0,encL 1 yv a0),(1,encL 1 yv a1),(12,.int .i64 (a0.length:Int)),(13,.int .i64 (i1:Int))],[]⟩) (fun i1 s1=>True) (a0.length) 0 () [] hz1 ot wt sm ?_;clear hz1;intro i1 s1 hi1 hW1 hz1;refine rS ?_;refine AWP.seq ?_;refine AWP.cond rfl (fun hb => ?_) (fun hb => ?_)
  ·have hlt1:i1<a0.length:=ot
   rw[yk hlt1]at hz1;simp only[ynm]at hz1;refine rS ?_;refine rD 8 ?_;refine AWP.cond rfl (fun hb => ?_) (fun hb => ?_)
   ·simp only[hb,cond_true]at hz1
    refine rS ?_;refine AWP.ret ?_;subst hz1;dsimp only at hR;subst hR;exact es
   ·simp only[hb,cond_false]at hz1
    refine rS ?_;exact⟨_,[],hlt1,wt,hz1,sm⟩
  ·obtain rfl:i1=a0.length:=ot
   rw[yl (Nat.le_refl _)]at hz1;subst hz1;dsimp only at hR;refine AWP.exit ?_;refine yb ?_;refine rS ?_;refine AWP.ret ?_;subst hR;exact es
end N184
def D_zxc : DF
 | [x0,x1]=>some (.bool (zxc (rdL yhb x0) (rdL yhb x1)),false,[wL 1 yv yhb x0,wL 1 yv yhb x1])
 | _=>none
theorem yiv:OkD Tryz.prog 184 D_zxc:=by unfold D_zxc;exact dk N184.den
def zcf (a0:(List UInt8)) (a1:Int):Int:=Go.Lib.indexByte a0 a1.toNat.toUInt8
theorem yl6 (a0:(List UInt8)) (a1:Int)  : Den Tryz.prog 182 [.str a0,.int .u8 a1] (.int .i64 (zcf a0 a1)):=by
 refine Den.plain ⟨_,Tryz.func182,rfl,rfl⟩ (by simp[NoOwnL,NoOwn]) ?_;intro w M vs hI hr;simp only[RepL]at hr;obtain⟨u0,us0,f0,g0,rfl,h0e,h0,u1,us1,f1,g1,rfl,h1e,h1,rfl,_⟩:=hr;have e0:=h0.val_str;have e1:=h1.val_int;subst e0 e1;refine(Any.strings_IndexByte Tryz.lays137 ⟨a0.toArray⟩ a1 w).mono ?_;rintro e w' ⟨rfl,rfl⟩
 exact⟨_,rfl,Grow.refl _,fun M'=>yjb _ _⟩
def D_zcf : DF
 | [x0,x1]=>some (.int .i64 (zcf (rdS x0) (rdI x1)),false,[wS x0,wI .u8 x1])
 | _=>none
theorem y51:OkD Tryz.prog 182 D_zcf:=by
 intro xs r z ob h ho;unfold D_zcf at h;split at h
 ·simp only[Option.some.injEq,Prod.mk.injEq]at h
  obtain⟨rfl,rfl,rfl⟩:=h;obtain⟨h0,h1,_⟩:=ho;exact Den.sim (yl6 _ _ ) (yh (ycb h0).1 <| yh (yue h1).1 <| trivial) (yw (ycb h0).2 <| yw (yue h1).2 <| rfl) rfl
 ·cases h
theorem yzt {i:Nat} (h:i<4):(([87,82,71,89]:List UInt8).take (IntKind.wrap .i64 ((i:Int)+1)).toNat |>.drop i).length=1:=by
 rw[show(IntKind.wrap .i64 ((i:Int)+1)).toNat=i+1 from by rw[IntKind.wrap_i64];omega];rcases i with _|_|_|_|i<;>first|rfl|omega
theorem yzz (i:Nat):(([87,82,71,89]:List UInt8).take (IntKind.wrap .i64 ((i:Int)+1)).toNat |>.drop i).length<=1\/4<=i:=by
 by_cases h:i<4
 ·left;rw[yzt h];exact Nat.le_refl _
 ·right;omega
theorem ned {α:Type} [DecidableEq α] (x y:α):(x != y) = !decide (x=y):=by by_cases h:x=y<;>simp[h]
open Go.RowKit in
theorem ye2 {f : FuncId} (hok : FnOk Tryz.prog f) (a0 : List (List UInt8)) (a1 : List UInt8) (hp0 : a0.length <= 1048576) (hp1 : (Go.Lib.join a0 a1).length <= 1099511627776)
  (hS:∀ (bk o c:Nat) (xs:List ByteArray) (sep:ByteArray) (w:World),(∀ (j:Nat) x,xs[j]? = some x->w.cell? ⟨bk,o+j,none⟩=some (.string x))->bk<w.heap.size->xs.length<=140737488355328->xs.length<=c ->
   (Go.Lib.join (xs.map (·.data.toList)) sep.data.toList).length<=140737488355328 ->
   Calls Tryz.prog f #[.slice (some ⟨bk,o,none⟩) xs.length c,.string sep] w fun e w'=>e=.returned (.string ⟨(Go.Lib.join (xs.map (·.data.toList)) sep.data.toList).toArray⟩)/\Below w.heap.size w w')
  (hN:∀ (a:Option Addr) (c:Nat) (sep:ByteArray) (w:World),Calls Tryz.prog f #[.slice a 0 c,.string sep] w fun e w'=>e=.returned (.string ⟨#[]⟩)/\w'=w) :
  Den Tryz.prog f [encL 1 (fun s:List UInt8=>[.str s]) a0,.str a1] (.str (Go.Lib.join a0 a1)):=by
 refine Den.plain hok (by simp[NoOwnL,NoOwn,encL]) ?_;intro w M vs hI hr;simp only[RepL]at hr;obtain⟨u0,us0,f0,g0,rfl,h0e,h0,u1,us1,f1,g1,rfl,h1e,h1,rfl,_⟩:=hr;have e1:=h1.val_str;subst e1;simp only[encL,Rep]at h0;rcases h0 with⟨hn,hev,_⟩|⟨b,o,cap,us,fps,rfl,⟨hc1,hc2⟩,hb,hcl,_⟩
 ·have h9:a0=[]:=List.length_eq_zero_iff.1 hn
  subst h9;rcases hev with rfl|⟨a,c,rfl⟩
  ·refine(hN none 0 ⟨a1.toArray⟩ w).mono ?_
   rintro e w' ⟨rfl,rfl⟩
   exact⟨_,rfl,Grow.refl _,fun M'=>ywb [] (by unfold maxLen;simp)⟩
  ·refine(hN (some a) c ⟨a1.toArray⟩ w).mono ?_
   rintro e w' ⟨rfl,rfl⟩
   exact⟨_,rfl,Grow.refl _,fun M'=>ywb [] (by unfold maxLen;simp)⟩
 ·have hx:((a0.map fun x=>(⟨x.toArray⟩:ByteArray)).map fun x=>x.data.toList)=a0:=by
   rw[List.map_map];exact List.map_id'' (fun x=>rfl) _
  have hcall:=hS b o cap (a0.map fun x=>(⟨x.toArray⟩:ByteArray)) ⟨a1.toArray⟩ w (fun j x hj=>by
   rw[List.getElem?_map]at hj
   cases hg:a0[j]? with
   | none=>rw[hg]at hj;simp at hj
   | some y=>
    rw[hg]at hj;simp only[Option.map_some,Option.some.injEq]at hj;subst hj;have hjl:=(List.getElem?_eq_some_iff.1 hg).1;obtain⟨c1,c2,c3⟩:=hcl j hjl;simp only[RepL]at c1;obtain⟨v,vs',q1,q2,hus,_,hv,hvs,_⟩:=c1;subst hvs;have hv:=hv.val_str;subst hv;rw[hus]at c3;have hgd:a0.getD j default=y:=by rw[List.getD_eq_getElem?_getD,hg];rfl
    rw[hgd]at c3;have h0:=(c3 0 _ rfl).1;rw[Nat.mul_one,Nat.add_zero]at h0
    exact h0) hb (by rw[List.length_map];omega) (by rw[List.length_map];exact hc1) (by rw[hx];exact Nat.le_trans hp1 (by omega))
  rw[List.length_map,hx]at hcall;refine hcall.mono ?_;rintro e w' ⟨rfl,hbl⟩
  exact⟨_,rfl,yif hbl,fun M'=>ywb _ (by unfold maxLen;omega)⟩
def zic (a0:(List (List UInt8))) (a1:(List UInt8)):(List UInt8):=Go.Lib.join a0 a1
theorem ye5 (a0:(List (List UInt8))) (a1:(List UInt8)) (hp0:a0.length<=1048576) (hp1:(Go.Lib.join a0 a1).length<=1099511627776):Den Tryz.prog 59 [encL 1 eS a0,.str a1] (.str (zic a0 a1)):=by
 exact ye2 ⟨_,Tryz.func59,rfl,rfl⟩ a0 a1 hp0 hp1 (fun bk o c xs sep w h1 h2 h3 h4 h5=>Any.strings_Join Tryz.lays156 Tryz.Builder_Extra_156 bk o c xs sep w h1 h2 h3 h4 h5) (fun a c sep w=>Any.strings_Join_none Tryz.lays156 Tryz.Builder_Extra_156 a c sep w)
def D_zic : DF
 | [x0,x1]=>some (.str (zic (rdL dS x0) (rdS x1)),false,[wL 1 eS dS x0,wS x1,(rdL dS x0).length<=1048576,(Go.Lib.join (rdL dS x0) (rdS x1)).length<=1099511627776])
 | _=>none
theorem y6i:OkD Tryz.prog 59 D_zic:=by
 intro xs r z ob h ho;unfold D_zic at h;split at h
 ·simp only[Option.some.injEq,Prod.mk.injEq]at h
  obtain⟨rfl,rfl,rfl⟩:=h;obtain⟨h0,h1,hp0,hp1,_⟩:=ho;exact Den.sim (ye5 _ _ hp0 hp1) (yh (y2g h0).1 <| yh (ycb h1).1 <| trivial) (yw (y2g h0).2 <| yw (ycb h1).2 <| rfl) rfl
 ·cases h
end Go.Ab
namespace Go.Ab
open Go
theorem yxf : ∀ (l : List UInt8) (c : UInt8), c ∉ l -> Lib.index l [c] = -1
 | [],c,_=>rfl
 | b::l,c,h=>by
  have h1:¬ c=b:=fun e=>h (by simp[e])
  have h2:=yxf l c (fun e=>h (by simp[e]));have h3:(c == b)=false:=by simpa using h1
  simp[Lib.index,h2,List.isPrefixOf,h3]
theorem yog : ∀ (l t : List UInt8) (c : UInt8), c ∉ l -> Lib.index (l ++ c :: t) [c] = l.length
 | [],t,c,_=>by simp[Lib.index,List.isPrefixOf]
 | b::l,t,c,h=>by
  have h1:¬ c=b:=fun e=>h (by simp[e])
  have h2:=yog l t c (fun e=>h (by simp[e]));have h3:(c == b)=false:=by simpa using h1
  have h4:((l.length:Int) == -1)=false:=by rw[beq_eq_false_iff_ne];omega
  simp only[List.cons_append,Lib.index,h2,List.isPrefixOf,h3,h4,Bool.false_and,List.length_cons];simp
theorem y0d (l t:List UInt8) (c:UInt8) (h:c∉l):Lib.cut (l++c::t) [c]=(l,t,true):=by
 unfold Lib.cut;rw[yog l t c h,if_pos (by omega)];simp only[Int.toNat_natCast,List.length_singleton];rw[List.take_left' rfl, <- List.drop_drop,List.drop_left' rfl];rfl
theorem y5n (l:List UInt8) (c:UInt8) (h:c∉l):Lib.cut l [c]=(l,[],false):=by
 unfold Lib.cut;rw[yxf l c h,if_neg (by omega)]
theorem yrc (l p:List UInt8):Lib.hasSuffix (l++p) p=true:=by
 unfold Lib.hasSuffix;rw[List.isSuffixOf_iff_suffix];exact List.suffix_append l p
theorem ydc (l p:List UInt8):Lib.trimSuffix (l++p) p=l:=by
 unfold Lib.trimSuffix;rw[yrc];simp
theorem y4k (l p:List UInt8) (a b:UInt8) (h:a≠b):Lib.hasSuffix (l++[a]) (p++[b])=false:=by
 cases hs:Lib.hasSuffix (l++[a]) (p++[b])with
 | false=>rfl
 | true=>
  unfold Lib.hasSuffix at hs;rw[List.isSuffixOf_iff_suffix]at hs;obtain⟨t,ht⟩:=hs;have:=congrArg List.getLast? ht;rw[<- List.append_assoc]at this;simp at this
  exact absurd this.symm h
theorem ype (l p:List UInt8) (h:Lib.hasSuffix l p=false):Lib.trimSuffix l p=l:=by
 unfold Lib.trimSuffix;rw[h];simp
end Go.Ab
