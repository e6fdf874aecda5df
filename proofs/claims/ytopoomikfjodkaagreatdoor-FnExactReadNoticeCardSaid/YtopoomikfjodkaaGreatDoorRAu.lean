/- A part of a proof: walks of functions and lemmas of our own. No conditions. -/
import Derived.Test.YtopoomikfjodkaaGreatDoorRAp
import Derived.Test.YtopoomikfjodkaaGreatDoorRAm
import Derived.Test.YtopoomikfjodkaaGreatDoorRAl
import Derived.Shelf.Strings.Split
set_option linter.unusedSectionVars false
set_option linter.unusedVariables false
set_option linter.unusedSimpArgs false
set_option maxHeartbeats 1000000
namespace Go.Ab
open Go Go.Lib
def cutK (c : UInt8) : Nat → List UInt8 → List (List UInt8) × List UInt8
  | 0,s=>([],s)
  | _+1,[]=>([],[])
  | k + 1, b :: s => if b = c then ([] :: (cutK c k s).1, (cutK c k s).2) else match cutK c (k + 1) s with
    | ([],r)=>([],b::r)
    | (x::w,r)=>((b::x)::w,r)
theorem y1d (c : UInt8) : ∀ (k : Nat) (l : List UInt8), c ∉ l → cutK c k l = ([], l)
 | 0,l,_=>by cases l<;>rfl
 | k+1,[],_=>rfl
 | k+1,b::l,h=>by
  simp only[List.mem_cons,not_or]at h
  rw[cutK,if_neg (fun e=>h.1 e.symm),y1d c (k+1) l h.2]
theorem yde (c : UInt8) (k : Nat) : ∀ (a l : List UInt8), c ∉ a → cutK c (k + 1) (a ++ c :: l) = (a :: (cutK c k l).1, (cutK c k l).2)
 | [],l,_=>by rw[List.nil_append,cutK,if_pos rfl]
 | b::a,l,h=>by
  simp only[List.mem_cons,not_or]at h
  rw[List.cons_append,cutK,if_neg (fun e=>h.1 e.symm),yde c k a l h.2]
theorem ygj (c:UInt8) (s:List UInt8):cutK c 0 s=([],s):=by cases s<;>rfl
theorem y2j (c : UInt8) : ∀ s : List UInt8, c ∉ s ∨ ∃ l t, s = l ++ c :: t ∧ c ∉ l
 | []=>.inl (by simp)
 | b::s=>by
  by_cases h:b=c
  ·exact .inr ⟨[],s,by rw[h];rfl,by simp⟩
  ·rcases y2j c s with h1|⟨l,t,h1,h2⟩
   ·exact .inl (by simp only[List.mem_cons,not_or];exact⟨fun e=>h e.symm,h1⟩)
   ·exact .inr ⟨b::l,t,by rw[h1];rfl,by simp only[List.mem_cons,not_or];exact⟨fun e=>h e.symm,h2⟩⟩
theorem ymx {c:UInt8} {l t:List UInt8} (h:c∉l):index (l++c::t) [c]=(l.length:Int):=by
 have h1:=index_one (l++c::t) c
 by_cases hm:indexByte (l++c::t) c = -1
 ·exact absurd (by rw[List.getElem?_append_right (Nat.le_refl _)];simp) (indexByte_none hm l.length)
 ·have hge:=indexByte_ge (l++c::t) c
  obtain⟨o,ho⟩:∃ o:Nat,indexByte (l++c::t) c=o:=⟨(indexByte (l++c::t) c).toNat,by omega⟩
  obtain⟨e1,e2⟩:=indexByte_some ho
  rw[h1,ho]
  have hle:o≤l.length:=by
   by_cases hlt:l.length<o
   ·exact absurd (by rw[List.getElem?_append_right (Nat.le_refl _)];simp) (e2 l.length hlt)
   ·omega
  have hge2:l.length≤o:=by
   by_cases hlt:o<l.length
   ·rw[List.getElem?_append_left hlt]at e1
    exact absurd (List.mem_of_getElem? e1) h
   ·omega
  omega
theorem yt1 {c:UInt8} {s:List UInt8} (h:c∉s):index s [c] = -1:=by
 rw[index_one]
 by_cases hm:indexByte s c = -1
 ·exact hm
 ·have hge:=indexByte_ge s c
  obtain⟨o,ho⟩:∃ o:Nat,indexByte s c=o:=⟨(indexByte s c).toNat,by omega⟩
  exact absurd (List.mem_of_getElem? (indexByte_some ho).1) h
theorem ynn (c : UInt8) : ∀ (k : Nat) (s : List UInt8), splitK [c] 0 k s = (cutK c k s).1 ++ [(cutK c k s).2]
 | 0,s=>by rw[ygj];rfl
 | k+1,s=>by
  rcases y2j c s with h|⟨l,t,rfl,h⟩
  ·rw[y1d c _ s h,splitK,yt1 h,if_pos (by decide)]
   rfl
  ·rw[yde c k l t h,splitK,if_neg (by rw[ymx h];simp),ymx h]
   have e1:(l++c::t).drop ((l.length:Int).toNat+[c].length)=t:=by
    simp
   rw[e1,ynn c k t]
   simp
theorem ygl (c:UInt8) (k:Nat) (s:List UInt8):(cutK c k s).1.length≤k∧(cutK c k s).1.length+(cutK c k s).2.length≤s.length∧∀ x∈(cutK c k s).1,x.length≤s.length:=by
 induction k generalizing s with
 | zero=>rw[ygj];simp
 | succ k ih=>
  rcases y2j c s with h|⟨l,t,rfl,h⟩
  ·rw[y1d c _ s h];simp
  ·rw[yde c k l t h]
   obtain⟨h1,h2,h3⟩:=ih t
   simp only[List.length_cons,List.length_append,List.mem_cons]
   refine⟨by omega,by omega,fun x hx => ?_⟩
   rcases hx with rfl|hx
   ·omega
   ·have:=h3 x hx;omega
theorem cut3 {c:UInt8} {s:List UInt8} (h:(cutK c 3 s).1.length=3):∃ a b d r,cutK c 3 s=([a,b,d],r)∧s=a++c::(b++c::(d++c::r))∧c∉a∧c∉b∧c∉d:=by
 rcases y2j c s with h1|⟨a,t,rfl,h1⟩
 ·rw[y1d c _ s h1]at h;cases h
 rw[yde c 2 a t h1]at h ⊢
 rcases y2j c t with h2|⟨b,t,rfl,h2⟩
 ·rw[y1d c _ t h2]at h;cases h
 rw[yde c 1 b t h2]at h ⊢
 rcases y2j c t with h3|⟨d,t,rfl,h3⟩
 ·rw[y1d c _ t h3]at h;cases h
 rw[yde c 0 d t h3,ygj]at h ⊢
 exact⟨a,b,d,t,rfl,rfl,h1,h2,h3⟩
end Go.Ab

namespace Go.Ab
open Go Go.Proofs
theorem yrt (w:World) (T:TypeId) (l ex:List Value) (hm:(l++ex).length≤maxLen) :
  AppOut w (w.alloc (.cells (l++ex).toArray T)) T 1 l.length 0 none ((List.range l.length).flatMap fun i=>[l.getD i default]) [] w.heap.size (l.length+ex.length) (l++ex).toArray:=by
 have hflat:(List.range l.length).flatMap (fun i=>[l.getD i default])=l:=by
  have : ∀ (k : List Nat), k.flatMap (fun i => [l.getD i default]) = k.map (fun i => l.getD i default) := fun k => by induction k with
   | nil=>rfl
   | cons a k ih=>rw[List.flatMap_cons,ih];rfl
  rw[this]
  exact yjc l
 rw[List.length_append]at hm
 refine⟨rfl,rfl,rfl,by simp,?_,heap_alloc_new w _,by simp,by omega,hm,?_,fun j hj=>by omega,.inr rfl⟩
 ·intro k hk _
  show(w.heap.push _)[k]? = _
  rw[Array.getElem?_push,if_neg (by omega)]
 ·intro j hj
  rw[hflat]
  simp only[List.getElem?_toArray]
  rw[List.getElem?_append_left (by omega)]
theorem y1n (c : UInt8) : ∀ (k : Nat) (s : List UInt8), (Lib.splitK [c] 0 k s).length ≤ k + 1 ∧ ∀ x ∈ Lib.splitK [c] 0 k s, x.length ≤ s.length
 | 0,s=>by simp[Lib.splitK]
 | k+1,s=>by
  unfold Lib.splitK
  split
  ·simp
  ·have h:=y1n c k (s.drop ((Lib.index s [c]).toNat+[c].length))
   refine⟨by rw[List.length_cons];omega,fun x hx => ?_⟩
   rcases List.mem_cons.1 hx with rfl|hx
   ·rw[List.length_take];omega
   ·have:=h.2 x hx
    rw[List.length_drop]at this
    omega
theorem yy0 {f : FuncId} {T : TypeId} (hok : FnOk Tryz.prog f) (a0 a1 : List UInt8) (a2 : Int) (hp0 : a0.length ≤ 1048576) (hp1 : a1.length = 1) (hp2 : a2 = 4)
  (hS:∀ (s sep:ByteArray) (m:Int) (w:World),s.size<4294967281→w.cell? ⟨2,0,none⟩=some (.int .i64 m)→1≤sep.size→Calls Tryz.prog f #[.string s,.string sep,.int .i64 ((4:Nat):Int)] w fun e w'=>
   e=.returned (.slice (some ⟨w.heap.size,0,none⟩) (Lib.splitB sep 0 (min 4 (s.size+1)-1) s).length (min 4 (s.size+1)))∧w'=w.alloc (.cells (Lib.cellsOf (Lib.splitB sep 0 (min 4 (s.size+1)-1) s) (min 4 (s.size+1))) T)) :
  Den Tryz.prog f [.str a0,.str a1,.int .i64 a2] (ownL T 1 (fun s:List UInt8=>[.str s]) (Lib.splitK [a1.getD 0 0] 0 (min 4 (a0.length+1)-1) a0)):=by
 subst hp2
 obtain⟨c,rfl⟩:∃ c,a1=[c]:=List.length_eq_one_iff.1 hp1
 show Den Tryz.prog f [.str a0,.str [c],.int .i64 4] (ownL T 1 (fun s:List UInt8=>[.str s]) (Lib.splitK [c] 0 (min 4 (a0.length+1)-1) a0))
 generalize hq:Lib.splitK [c] 0 (min 4 (a0.length+1)-1) a0=q
 obtain⟨l1,l2⟩:=y1n c (min 4 (a0.length+1)-1) a0
 rw[hq]at l1 l2
 have hl:Lib.splitB ⟨#[c]⟩ 0 (min 4 (a0.length+1)-1) ⟨a0.toArray⟩=q.map fun x=>(⟨x.toArray⟩:ByteArray):=by
  have h1:=Lib.splitB_data ⟨#[c]⟩ 0 (min 4 (a0.length+1)-1) ⟨a0.toArray⟩
  rw[show Lib.splitK (⟨#[c]⟩:ByteArray).data.toList 0 (min 4 (a0.length+1)-1) (⟨a0.toArray⟩:ByteArray).data.toList=q from hq]at h1
  rw[← h1,List.map_map]
  refine(List.map_id'' (fun x => ?_) _).symm
  rfl
 have hnth:∀ i,i<q.length→(q.getD i default).length≤maxLen:=by
  intro i hi
  have:q.getD i default∈q:=by
   rw[List.getD_eq_getElem?_getD,List.getElem?_eq_getElem hi]
   simp
  have:=l2 _ this
  unfold maxLen
  omega
 refine Den.fresh (T:=T) (e:=1) (enc:=fun s:List UInt8=>[.str s]) (l:=q) hok (by simp[NoOwnL,NoOwn]) (fun i=>[Value.string ⟨(q.getD i default).toArray⟩]) (fun w M i hi=>⟨?_,rfl,by simp[Value.oneCell']⟩) ?_
 ·simp only[RepL]
  exact⟨_,[],[],[],rfl,rfl,y1b _ (hnth i hi),rfl,rfl⟩
 ·intro w M vs hI hr
  simp only[RepL]at hr
  obtain⟨u0,us0,f0,g0,rfl,h0e,h0,u1,us1,f1,g1,rfl,h1e,h1,u2,us2,f2,g2,rfl,h2e,h2,rfl,_⟩:=hr
  have e0:=h0.val_str
  have e1:=h1.val_str
  have e2:=h2.val_int
  subst e0 e1 e2
  obtain⟨m,hm⟩:=hI.1.2
  refine(hS ⟨a0.toArray⟩ ⟨#[c]⟩ m w (by show a0.length<_;omega) hm (by show 1≤1;omega)).mono ?_
  have hsz:(⟨a0.toArray⟩:ByteArray).size=a0.length:=by simp[ByteArray.size]
  rw[hsz,hl]
  rintro e w' ⟨rfl,rfl⟩
  have hlq:(q.map fun x=>(⟨x.toArray⟩:ByteArray)).length=q.length:=by rw[List.length_map]
  have hcells:Lib.cellsOf (q.map fun x=>(⟨x.toArray⟩:ByteArray)) (min 4 (a0.length+1))=((q.map fun x=>Value.string ⟨x.toArray⟩)++List.replicate (min 4 (a0.length+1)-q.length) (Value.string ByteArray.empty)).toArray:=by
   unfold Lib.cellsOf
   rw[List.map_map,hlq]
   rfl
  rw[hlq,hcells]
  have hfl:=yrt w T (q.map fun x=>Value.string ⟨x.toArray⟩) (List.replicate (min 4 (a0.length+1)-q.length) (Value.string ByteArray.empty)) (by rw[List.length_append,List.length_map,List.length_replicate];unfold maxLen;omega)
  rw[List.length_map,List.length_replicate]at hfl
  have hus:((List.range q.length).flatMap fun i=>[(q.map fun x=>Value.string ⟨x.toArray⟩).getD i default])=(List.range q.length).flatMap fun i=>[Value.string ⟨(q.getD i default).toArray⟩]:=by
   rw[List.flatMap_def,List.flatMap_def]
   congr 1
   apply List.map_congr_left
   intro i hi
   have hi:=List.mem_range.1 hi
   simp[List.getD_eq_getElem?_getD,List.getElem?_map,List.getElem?_eq_getElem hi]
  rw[hus]at hfl
  have hcap:q.length+(min 4 (a0.length+1)-q.length)=min 4 (a0.length+1):=by omega
  rw[hcap]at hfl
  exact⟨w.heap.size,_,_,rfl,hfl⟩
end Go.Ab

namespace Go.Ab
open Go Go.Proofs
def zbb (a0:(List UInt8)) (a1:(List UInt8)) (a2:Int):(List (List UInt8)):=Go.Lib.splitK [a1.getD 0 0] 0 (min 4 (a0.length+1)-1) a0
theorem yibb (a0:(List UInt8)) (a1:(List UInt8)) (a2:Int) (hp0:a0.length≤1048576) (hp1:a1.length=1) (hp2:a2=4):Den Tryz.prog 163 [.str a0,.str a1,.int .i64 a2] (ownL 9 1 eS (zbb a0 a1 a2)):=by
 exact yy0 ⟨_,Tryz.func163,rfl,rfl⟩ a0 a1 a2 hp0 hp1 hp2 (fun s sep m w h1 h2 h3=>Any.strings_SplitN Tryz.lays147 (by kernel_rfl) s sep 4 m w h1 h2 h3 (by decide) (by decide))
def D_zbb : DF
 | [x0,x1,x2]=>some (ownL 9 1 eS (zbb (rdS x0) (rdS x1) (rdI x2)),false,[wS x0,wS x1,wI .i64 x2,(rdS x0).length≤1048576,(rdS x1).length=1,(rdI x2)=4])
 | _=>none
theorem yj4:OkD Tryz.prog 163 D_zbb:=by
 intro xs r z ob h ho
 unfold D_zbb at h
 split at h
 ·simp only[Option.some.injEq,Prod.mk.injEq]at h
  obtain⟨rfl,rfl,rfl⟩:=h
  obtain⟨h0,h1,h2,hp0,hp1,hp2,_⟩:=ho
  exact Den.sim (yibb _ _ _ hp0 hp1 hp2) (yu (ycb h0).1 <| yu (ycb h1).1 <| yu (ydf h2).1 <| trivial) (yw (ycb h0).2 <| yw (ycb h1).2 <| yw (ydf h2).2 <| rfl) rfl
 ·cases h
end Go.Ab

namespace Go.Ab
open Go Go.Proofs
theorem yds (s:List UInt8):zbb s [32] 4=(cutK 32 (min 4 (s.length+1)-1) s).1++[(cutK 32 (min 4 (s.length+1)-1) s).2]:=ynn 32 _ s
theorem yt0 (s:List UInt8) (hs:s.length≤1048576):(∀ i:Nat,((zbb s [32] 4).getD i default).length≤1048576)∧(zbb s [32] 4).length≤4:=by
 rw[yds]
 obtain⟨h1,h2,h3⟩:=ygl 32 (min 4 (s.length+1)-1) s
 refine⟨fun i => ?_,by rw[List.length_append,List.length_singleton];omega⟩
 rw[List.getD_eq_getElem?_getD]
 cases hg:((cutK 32 (min 4 (s.length+1)-1) s).1++[(cutK 32 (min 4 (s.length+1)-1) s).2])[i]? with
 | none=>exact Nat.zero_le _
 | some x=>
  show x.length≤_
  rcases List.mem_append.1 (List.mem_of_getElem? hg)with h|h
  ·have:=h3 x h;omega
  ·rw[List.mem_singleton]at h;subst h;omega
theorem yl4 (s:List UInt8):(∃ a b d r,cutK 32 3 s=([a,b,d],r)∧zbb s [32] 4=[a,b,d,r]∧s=a++32::(b++32::(d++32::r)))∨((cutK 32 3 s).1.length≠3∧(zbb s [32] 4).length≠4):=by
 rw[yds]
 by_cases h3:(cutK 32 3 s).1.length=3
 ·have hl:=(ygl 32 3 s).2.1
  obtain⟨a,b,d,r,h1,h2,_⟩:=cut3 h3
  rw[show min 4 (s.length+1)-1=3 by omega]
  exact .inl ⟨a,b,d,r,h1,by rw[h1];rfl,h2⟩
 ·refine .inr ⟨h3,?_⟩
  rw[List.length_append,List.length_singleton]
  have hl:=(ygl 32 (min 4 (s.length+1)-1) s).1
  by_cases hs:3≤s.length
  ·rw[show min 4 (s.length+1)-1=3 by omega];omega
  ·omega
end Go.Ab
