/- Walks and lemmas. No conditions. -/
import Derived.Lib.Overlaps
import Derived.Lib.Walk
import Derived.Shelf.RegionOpenPlain
import Derived.HandedShaped
import Derived.LaidLaws
import Derived.Test.YthmfknndfeepfaaGreatDoorEAh
import Derived.Test.YthmfknndfeepfaaGreatDoorEAg
set_option linter.unusedSectionVars false
set_option linter.unusedVariables false
set_option linter.unusedSimpArgs false
namespace Go.Ab
open Go
variable [Inv]
def ytab (w:World) (T:TypeId) (e n:Nat) (v:Value) (old:List Value):Prop:=
 (v=.slice none 0 0/\n=0)\/∃ b cap cur,v=.slice (some ⟨b,0,none⟩) n cap/\w.heap[b]? = some (.cells cur T (0,0))/\cur.size=cap * e/\n<=cap/\cap<=maxLen/\∀ j,j<n * e->cur[j]? = old[j]?
theorem yr3 {w:World} {M:Nat->Prop} {T:TypeId} {e n:Nat} {f:Nat->List AV} {μ:Map} {v:Value} {fp:List Nat} (h:Rep w M (.sl (some T) e n f) μ v fp) :
  ∃ (us:Nat->List Value) (fps:Nat->List Nat),ytab w T e n v ((List.range n).flatMap us)/\(∀ i,i<n->RepL w M (f i) yw (us i) (fps i)/\(us i).length=e/\∀ u∈us i,u.oneCell'=true) /\
   ((n=0/\v=.slice none 0 0/\fp=[])\/∃ b cap,v=.slice (some ⟨b,0,none⟩) n cap/\fp=b::(List.range n).flatMap fps/\b<w.heap.size):=by
 simp only[Rep]at h;rcases h with⟨rfl,hv,rfl⟩|⟨b,o,cap,us,fps,rfl,⟨hn,hn2⟩,hb,hc,rfl,rfl,cur,hcur,hsz,hcm⟩
 ·exact⟨fun _=>[],fun _=>[],.inl ⟨hv,rfl⟩,fun i hi=>by omega,.inl ⟨rfl,hv,rfl⟩⟩
 ·refine⟨us,fps,.inr ⟨b,cap,cur,rfl,hcur,hsz,hn,hcm,?_⟩,fun i hi => ?_,.inr ⟨b,cap,rfl,rfl,hb⟩⟩
  ·intro j hj
   have he:0<e:=by
    rcases Nat.eq_zero_or_pos e with h|h
    ·subst h;simp at hj
    ·exact h
   obtain⟨h1,h2,h3⟩:=hc (j / e) (Nat.div_lt_of_lt_mul (by rw[Nat.mul_comm];exact hj));have hk:=Nat.mod_lt j he;have hi:j / e<n:=Nat.div_lt_of_lt_mul (by rw[Nat.mul_comm];exact hj);have hj2:j=j / e * e+j % e:=by rw[Nat.mul_comm];exact(Nat.div_add_mod j e).symm
   have hg:(us (j / e))[j % e]? = some ((us (j / e))[j % e]'(by omega)):=List.getElem?_eq_getElem (by omega);have h4:=(h3 _ _ hg).1;rw[cell_of_row w b _ cur T (0,0) hcur,Nat.zero_add, <- hj2]at h4;rw[h4];conv=>rhs;rw[hj2]
   rw[ynd (fun i hi=>(hc i hi).2.1) hi hk,hg]
  ·obtain⟨h1,h2,h3⟩:=hc i hi
   refine⟨h1,h2,fun u hu => ?_⟩;obtain⟨k,hk,he⟩:=List.getElem_of_mem hu;exact(h3 k u (by rw[List.getElem?_eq_getElem hk,he])).2
theorem y7u {w w' : World} {M' : Nat -> Prop} {T : TypeId} {e n : Nat} {ob : Option Nat} {f : Nat -> List AV} {us : Nat -> List Value} {fps : Nat -> List Nat} {row : List Value} {b' cap' : Nat} {cur' : Array Value}
  (ho:AppOut w w' T e n 0 ob row [] b' cap' cur') (hrow:row=(List.range n).flatMap us)
  (hel:∀ i,i<n->RepL w' M' (f i) yw (us i) (fps i)/\(us i).length=e/\∀ u∈us i,u.oneCell'=true) :
  Rep w' M' (.sl (some T) e n f) yw (.slice (some ⟨b',0,none⟩) n cap') (b'::(List.range n).flatMap fps):=by
 simp only[Rep]
 have hlt:b'<w'.heap.size:=by
  have:=ho.row;exact(Array.getElem?_eq_some_iff.1 this).1
 refine .inr ⟨b',0,cap',us,fps,rfl,⟨by have:=ho.fit;omega,by have:=ho.fit;have:=ho.big;omega⟩,hlt,fun i hi => ?_,rfl,rfl,cur',ho.row,ho.len,ho.big⟩;obtain⟨h1,h2,h3⟩:=hel i hi;refine⟨h1,h2,fun j u hu => ?_⟩;have hj:j<e:=by rw[<- h2];exact(List.getElem?_eq_some_iff.1 hu).1
 have hlt2:i * e+j<n * e:=by
  have:(i+1) * e<=n * e:=Nat.mul_le_mul_right _ hi;rw[Nat.add_mul,Nat.one_mul]at this;omega
 refine⟨?_,h3 u (List.mem_of_getElem? hu)⟩;rw[cell_of_row w' b' _ cur' T (0,0) ho.row,Nat.zero_add,ho.olds _ hlt2,hrow,ynd (fun i hi=>(hel i hi).2.1) hi hj];exact hu
theorem ybi {w w' : World} {M M' : Nat -> Prop} {T : TypeId} {e n m : Nat} {ob : Option Nat} {row news : List Value} {b' cap' : Nat} {cur' : Array Value} {x : List AV} {us : List Value} {fp : List Nat}
  (ho:AppOut w w' T e n m ob row news b' cap' cur') (hn:y4b x) (h:RepL w M x yw us fp) (hb:b'∉fp):RepL w' M' x yw us fp:=
 RepL.mono x (Map.le_refl _) ⟨ho.size,fun b _ h=>(h trivial).elim,fun b hb2 hh=>ho.other b hb2 (by
  rintro rfl
  rcases hh with hh|hh
  ·exact hh trivial
  ·exact hb hh)⟩ (RepL.noBor (M':=fun _=>True) x hn h)
theorem ytc {α:Type} (f:Nat->List α) (i n:Nat) (hi:i<=n):(List.range n).flatMap f=(List.range i).flatMap f++(List.range (n-i)).flatMap (fun k=>f (i+k)):=by
 have h:=yud f (fun k=>f (i+k)) i (n-i);rw[Nat.add_sub_cancel' hi]at h;rw[<- h];congr 1
 funext k
 split
 ·rfl
 ·rw[Nat.add_sub_cancel' (by omega)]
end Go.Ab
namespace Go.Ab
open Go
variable [Inv]
theorem Den.plain {P : Program} {f : FuncId} {xs : List AV} {r : AV} (hok : FnOk P f) (hno : yvb xs)
  (h:∀ (w:World) (M:Nat->Prop) (vs:List Value),Inv.ok w->RepL w M xs yw vs []->Calls P f vs.toArray w fun e w'=>∃ v,e=.returned v/\Grow w w'/\∀ M',Rep w' M' r yw v []):Den P f xs r:=by
 refine⟨hok,?_⟩;intro w M vs fpA i1 i2 hr hnd hM hlt;have hfp:=yvb.fp xs hno hr;subst hfp
 have htop:y1 xs vs=[]:=by
  apply List.eq_nil_iff_forall_not_mem.2;intro b hb;have:=yvc xs hr b hb;simp at this
 refine(h w _ vs i1 hr).mono ?_;rintro e w' ⟨v,rfl,hg,hv⟩
 refine⟨v,[],rfl,⟨hg.os,hg.tape,hg.output,hg.size,fun k hk _=>hg.block k hk⟩,hv _,List.nodup_nil,by simp,fun b hb => ?_⟩;have:=y2h r (hv (fun _=>False)) b hb;simp at this
theorem Den.fresh {α : Type} [Inhabited α] {P : Program} {f : FuncId} {xs : List AV} {T : TypeId} {e : Nat} {enc : α -> List AV} {l : List α} (hok : FnOk P f) (hno : yvb xs)
  (us:Nat->List Value) (hus:∀ w M i,i<l.length->RepL w M (enc (l.getD i default)) yw (us i) []/\(us i).length=e/\∀ u∈us i,u.oneCell'=true)
  (h:∀ (w:World) (M:Nat->Prop) (vs:List Value),Inv.ok w->RepL w M xs yw vs []->Calls P f vs.toArray w fun ex w'=>∃ b' cap' cur',ex=.returned (.slice (some ⟨b',0,none⟩) l.length cap')/\AppOut w w' T e l.length 0 none ((List.range l.length).flatMap us) [] b' cap' cur') :
  Den P f xs (ownL T e enc l):=by
 refine⟨hok,?_⟩;intro w M vs fpA i1 i2 hr hnd hM hlt;have hfp:=yvb.fp xs hno hr;subst hfp;refine(h w _ vs i1 hr).mono ?_;rintro ex w' ⟨b',cap',cur',rfl,ho⟩
 have hb:b'=w.heap.size:=by
  rcases ho.place with h|h
  ·cases h
  ·exact h
 have hf:(List.range l.length).flatMap (fun _=>([]:List Nat))=[]:=by simp
 have hR:=y7u (M':=fun c=>M c\/c∈[b']) (f:=fun k=>enc (l.getD k default)) (us:=us) (fps:=fun _=>[]) ho rfl (fun i hi=>hus w' _ i hi);rw[hf]at hR;refine⟨_,[b'],rfl,⟨ho.os,ho.tape,ho.output,ho.size,fun k hk _=>ho.other k hk (by omega)⟩,hR,by simp,?_,?_⟩
 ·intro b hb2
  simp only[List.mem_singleton]at hb2;subst hb2;exact⟨.inr (by omega),(Array.getElem?_eq_some_iff.1 ho.row).1⟩
 ·intro b hb2
  simp only[tops,yjc,ownL,List.mem_singleton]at hb2;subst hb2;exact .inr (by omega)
theorem y3m (w:World) (T:TypeId) (l:List Value) (hm:l.length<=maxLen) :
  AppOut w (w.alloc (.cells l.toArray T)) T 1 l.length 0 none ((List.range l.length).flatMap fun i=>[l.getD i default]) [] w.heap.size l.length l.toArray:=by
 have hflat:(List.range l.length).flatMap (fun i=>[l.getD i default])=l:=by
  have : ∀ (k : List Nat), k.flatMap (fun i => [l.getD i default]) = k.map (fun i => l.getD i default) := fun k => by induction k with
   | nil=>rfl
   | cons a k ih=>rw[List.flatMap_cons,ih];rfl
  rw[this];exact yxc l
 refine⟨rfl,rfl,rfl,by simp,?_,heap_alloc_new w _,by simp,by simp,hm,?_,fun j hj=>by omega,.inr rfl⟩
 ·intro k hk _
  show(w.heap.push _)[k]? = _;rw[Array.getElem?_push,if_neg (by omega)]
 ·intro j hj
  rw[hflat];simp
end Go.Ab
namespace Go.Ab
open Go
variable [Inv]
def ywn {α:Type} (i m:Nat) (f g:Nat->α):Nat->α:=fun k=>if k<i+m then(if k<i then f k else g (k-i))else f (i+(k-(i+m)))
theorem yhp {α:Type} (i m n:Nat) (hi:i<=n) (f g:Nat->List α) :
  (List.range (n+m)).flatMap (ywn i m f g)=(List.range i).flatMap f++(List.range m).flatMap g++(List.range (n-i)).flatMap (fun k=>f (i+k)):=by
 have h:=yud (fun k=>if k<i then f k else g (k-i)) (fun k=>f (i+k)) (i+m) (n-i);rw[show i+m+(n-i)=n+m by omega]at h;rw[<- yud f g i m, <- h];rfl
theorem ytz {α:Type} [Inhabited α] (l x:List α) (i k:Nat) (hi:i<=l.length) (hk:k<l.length+x.length) :
  (l.take i++x++l.drop i).getD k default=ywn i x.length (fun j=>l.getD j default) (fun j=>x.getD j default) k:=by
 simp only[ywn,List.getD_eq_getElem?_getD];split
 ·rename_i h1
  rw[List.getElem?_append_left (by simp;omega)];split
  ·rename_i h2
   rw[List.getElem?_append_left (by simp;omega),List.getElem?_take_of_lt h2]
  ·rename_i h2
   rw[List.getElem?_append_right (by simp;omega)];congr 3
   simp;omega
 ·rename_i h1
  rw[List.getElem?_append_right (by simp;omega),List.getElem?_drop];congr 3
  simp;omega
def ydab (P:Program) (f:FuncId) (T:TypeId) (e bytes:Nat):Prop:=
 ∀ (w:World) (v y:Value) (n i m:Nat) (A B news:List Value),i<=n->0<m->A.length=i * e->B.length=(n-i) * e->news.length=m * e ->
  (∀ u∈A,u.oneCell'=true)->(∀ u∈B,u.oneCell'=true)->(∀ u∈news,u.oneCell'=true) ->
  ytab w T e n v (A++B)->ytab w T e m y news->(∀ b,v.ownBlock=some b->y.ownBlock≠some b)->(n+m) * bytes<=140737488355328->n+m<=140737488355328 ->
  Calls P f #[v,.int .i64 i,y] w fun ex w'=>∃ b' cap' cur',ex=.returned (.slice (some ⟨b',0,none⟩) (n+m) cap')/\AppOut w w' T e (n+m) 0 v.ownBlock (A++news++B) [] b' cap' cur'
theorem y6bb {α : Type} [Inhabited α] {P : Program} {f : FuncId} {T : TypeId} {e bytes : Nat} {enc : α -> List AV} (hok : FnOk P f) (hraw : ydab P f T e bytes) (hnb : ∀ v, y4b (enc v))
  (l x:List α) (i:Int) (h0:0<=i) (hi:i<=l.length) (hm:0<x.length) (hb1:(l.length+x.length) * bytes<=140737488355328) (hb2:l.length+x.length<=140737488355328) :
  DenM P f [ownL T e enc l,.int .i64 i,ownL T e enc x] (ownL T e enc (l.take i.toNat++x++l.drop i.toNat)) [.any,.any,.any]:=by
 obtain⟨i,rfl⟩:=Int.eq_ofNat_of_zero_le h0;simp only[Int.ofNat_eq_natCast,Int.toNat_natCast]at hi ⊢;replace hi:i<=l.length:=by omega
 refine⟨hok,?_⟩;intro w M vs fpA i1 i2 hr hnd hM hlt;have hlt':=RepL.fp_lt _ hr;simp only[RepL]at hr;obtain⟨v,_,fp0,_,rfl,rfl,hv,_,_,_,_,rfl,rfl,hi2,y,_,fp2,_,rfl,rfl,hy,rfl,rfl⟩:=hr;simp only[Rep]at hi2;obtain⟨rfl,rfl⟩:=hi2;simp only[List.nil_append,List.append_nil]at hnd hM hlt' ⊢;obtain⟨us,fps,r1,q1,p1⟩:=yr3 hv;obtain⟨us2,fps2,r2,q2,p2⟩:=yr3 hy;rcases p2 with⟨h,_⟩|⟨vb,vcap,hyv,rfl,hvb⟩
 ·omega
 -- the blocks
 have hblk:∀ b,v.ownBlock=some b->b∈fp0:=by
  intro b hb;rcases p1 with⟨_,rfl,_⟩|⟨b0,cap,rfl,rfl,_⟩
  ·simp[Value.ownBlock]at hb
  ·simp[Value.ownBlock]at hb;simp[hb]
 have hfl0:∀ b,b∈(List.range l.length).flatMap fps->b∈fp0/\v.ownBlock≠some b:=by
  intro b hb;rcases p1 with⟨h0,_,_⟩|⟨b0,cap,rfl,rfl,_⟩
  ·rw[h0]at hb;simp at hb
  ·refine⟨List.mem_cons_of_mem _ hb,?_⟩
   have:=(List.nodup_cons.1 (List.nodup_append.1 hnd).1).1;simp[Value.ownBlock]
   rintro rfl
   exact this hb
 have hdis:∀ b,b∈fp0->b∉vb::(List.range x.length).flatMap fps2:=fun b h1 h2=>(List.nodup_append.1 hnd).2.2 b h1 b h2 rfl
 have hn0:((List.range l.length).flatMap fps).Nodup:=by
  rcases p1 with⟨h0,_,_⟩|⟨b0,cap,rfl,rfl,_⟩
  ·rw[h0];simp
  ·exact(List.nodup_cons.1 (List.nodup_append.1 hnd).1).2
 have hn2:((List.range x.length).flatMap fps2).Nodup:=(List.nodup_cons.1 (List.nodup_append.1 hnd).2.1).2;have hsp:=ytc us i l.length hi;have hspf:=ytc fps i l.length hi;rw[hsp]at r1;have hla:((List.range i).flatMap us).length=i * e:=ynb (fun k hk=>(q1 k (by omega)).2.1);have hlb:((List.range (l.length-i)).flatMap (fun k=>us (i+k))).length=(l.length-i) * e:=ynb (fun k hk=>(q1 (i+k) (by omega)).2.1);have hln:((List.range x.length).flatMap us2).length=x.length * e:=ynb (fun k hk=>(q2 k hk).2.1)
 have o1:∀ u∈(List.range i).flatMap us,u.oneCell'=true:=by
  intro u hu;obtain⟨k,hk,hu⟩:=List.mem_flatMap.1 hu;exact(q1 k (by have:=List.mem_range.1 hk;omega)).2.2 u hu
 have o2:∀ u∈(List.range (l.length-i)).flatMap (fun k=>us (i+k)),u.oneCell'=true:=by
  intro u hu;obtain⟨k,hk,hu⟩:=List.mem_flatMap.1 hu;exact(q1 (i+k) (by have:=List.mem_range.1 hk;omega)).2.2 u hu
 have o3:∀ u∈(List.range x.length).flatMap us2,u.oneCell'=true:=by
  intro u hu;obtain⟨k,hk,hu⟩:=List.mem_flatMap.1 hu;exact(q2 k (List.mem_range.1 hk)).2.2 u hu
 have hne:∀ b,v.ownBlock=some b->y.ownBlock≠some b:=by
  intro b hb hyb;rw[hyv]at hyb;simp[Value.ownBlock]at hyb
  exact hdis b (hblk b hb) (by simp[hyb])
 refine(hraw w v y l.length i x.length _ _ _ hi hm hla hlb hln o1 o2 o3 r1 r2 hne hb1 hb2).mono ?_;rintro ex w' ⟨b',cap',cur',rfl,ho⟩
 have hb':b'∉(List.range l.length).flatMap fps/\b'∉(List.range x.length).flatMap fps2:=by
  rcases ho.place with h|h
  ·exact⟨fun hb=>(hfl0 b' hb).2 h,fun hb=>hdis b' (hblk b' h) (List.mem_cons_of_mem _ hb)⟩
  ·subst h
   exact⟨fun hb=>Nat.lt_irrefl _ (hlt' _ (List.mem_append_left _ (hfl0 _ hb).1)),fun hb=>Nat.lt_irrefl _ (hlt' _ (List.mem_append_right _ (List.mem_cons_of_mem _ hb)))⟩
 have hrow:=yhp i x.length l.length hi us us2;have hfp:=yhp i x.length l.length hi fps fps2;have hlen:(l.take i++x++l.drop i).length=l.length+x.length:=by simp;omega
 have hperm:((List.range (l.length+x.length)).flatMap (ywn i x.length fps fps2)).Perm ((List.range l.length).flatMap fps++(List.range x.length).flatMap fps2):=by
  rw[hfp,hspf,List.append_assoc,List.append_assoc];exact List.Perm.append_left _ List.perm_append_comm
 have hmem:∀ b,b∈b'::(List.range (l.length+x.length)).flatMap (ywn i x.length fps fps2)->b=b'\/b∈fp0\/b∈vb::(List.range x.length).flatMap fps2:=by
  intro b hb;rcases List.mem_cons.1 hb with h|h
  ·exact .inl h
  ·rcases List.mem_append.1 (hperm.mem_iff.1 h)with h|h
   ·exact .inr (.inl (hfl0 b h).1)
   ·exact .inr (.inr (List.mem_cons_of_mem _ h))
 have hold:∀ b,b=b'->b∈fp0\/w.heap.size<=b:=by
  rintro b rfl
  rcases ho.place with h|h
  ·exact .inl (hblk _ h)
  ·exact .inr (by omega)
 have hlt'':b'<w'.heap.size:=(Array.getElem?_eq_some_iff.1 ho.row).1
 have htop:∀ b,v.ownBlock=some b->b∈y1 [ownL T e enc l,.int .i64 (i:Int),ownL T e enc x] [v,.int .i64 (i:Int),y]:=by
  intro b hb;rcases p1 with⟨_,rfl,_⟩|⟨b0,cap,rfl,rfl,_⟩
  ·simp[Value.ownBlock]at hb
  ·simp[Value.ownBlock]at hb
   simp[y1,tops,yjc,ownL,hb]
 refine⟨_,b'::(List.range (l.length+x.length)).flatMap (ywn i x.length fps fps2),[],rfl,⟨ho.os,ho.tape,ho.output,ho.size,?_⟩,?_,?_,?_,?_,?_⟩
 ·intro k hk hk2
  refine ho.other k hk ?_;rintro rfl
  rcases ho.place with h|h
  ·exact hk2 (htop _ h)
  ·omega
 ·have:=y7u (M':=fun b=>M b\/b∈(b'::(List.range (l.length+x.length)).flatMap (ywn i x.length fps fps2))++[]) (f:=fun k=>enc ((l.take i++x++l.drop i).getD k default)) (us:=ywn i x.length us us2) (fps:=ywn i x.length fps fps2) ho hrow.symm (by
   intro k hk;have mem1:∀ j,j<l.length->b'∉fps j:=fun j hj hb=>hb'.1 (List.mem_flatMap.2 ⟨j,List.mem_range.2 hj,hb⟩)
   have mem2:∀ j,j<x.length->b'∉fps2 j:=fun j hj hb=>hb'.2 (List.mem_flatMap.2 ⟨j,List.mem_range.2 hj,hb⟩)
   rw[ytz l x i k hi hk];simp only[ywn];split
   ·split
    ·obtain⟨h1,h2,h3⟩:=q1 k (by omega)
     exact⟨ybi ho (hnb _) h1 (mem1 _ (by omega)),h2,h3⟩
    ·obtain⟨h1,h2,h3⟩:=q2 (k-i) (by omega)
     exact⟨ybi ho (hnb _) h1 (mem2 _ (by omega)),h2,h3⟩
   ·obtain⟨h1,h2,h3⟩:=q1 (i+(k-(i+x.length))) (by omega)
    exact⟨ybi ho (hnb _) h1 (mem1 _ (by omega)),h2,h3⟩)
  simp only[ownL,hlen];exact this
 ·exact⟨_,_,[],[],rfl,rfl,by simp only[Rep],_,_,[],[],rfl,rfl,by simp only[Rep],_,_,[],[],rfl,rfl,by simp only[Rep],rfl,rfl⟩
 ·simp only[List.append_nil,List.nodup_cons]
  refine⟨fun hb => ?_,hperm.nodup_iff.2 (List.nodup_append.2 ⟨hn0,hn2,fun a ha b hb => ?_⟩)⟩
  ·rcases List.mem_append.1 (hperm.mem_iff.1 hb)with h|h
   ·exact hb'.1 h
   ·exact hb'.2 h
  ·rintro rfl
   exact hdis a (hfl0 a ha).1 (List.mem_cons_of_mem _ hb)
 ·intro b hb
  simp only[List.append_nil]at hb;rcases hmem b hb with h|h|h
  ·refine⟨?_,by rw[h];exact hlt''⟩
   rcases hold b h with h|h
   ·exact .inl (List.mem_append_left _ h)
   ·exact .inr h
  ·exact⟨.inl (List.mem_append_left _ h),Nat.lt_of_lt_of_le (hlt' b (List.mem_append_left _ h)) ho.size⟩
  ·exact⟨.inl (List.mem_append_right _ h),Nat.lt_of_lt_of_le (hlt' b (List.mem_append_right _ h)) ho.size⟩
 ·intro b hb
  simp only[tops,yjc,ownL,y1,List.append_nil,List.mem_singleton]at hb;subst hb;rcases ho.place with h|h
  ·exact .inl (htop _ h)
  ·exact .inr (by omega)
end Go.Ab
namespace Go.Ab
open Go
variable [Inv]
theorem yyi {P : Program} (w : World) (dT sT ty et : TypeId) (i : TypeInfo) (b o dLen dCap : Nat) (a : Addr) (sLen sCap m : Nat) (cur : Array Value) (T : TypeId) (cs : List Value)
  (hu:P.underlying dT=some (.slice et)) (hi:P.info? et=some i) (hb:w.heap[b]? = some (.cells cur T (0,0))) (hm:Nat.min sLen dLen=m) (hn:cs.length=m * i.size)
  (hsrc:∀ j v,cs[j]? = some v->w.cell? (a.add j)=some v) (hfit:o+cs.length<=cur.size) (h1:∀ v∈cs,v.oneCell'=true) :
  (Builtin.copy_ #[dT,sT] ty #[.slice (some ⟨b,o,none⟩) dLen dCap,.slice (some a) sLen sCap]).run P w=.ok (goInt m) (w.setRow b (putV o cs cur.toList).toArray):=by
 have hl:=run_loadCells_list (P:=P) w a cs hsrc;have hst:=run_storeCells_at P b o T cs 0 cur w hb (by simpa using hfit) h1;rw[Nat.add_zero,ype o cs cur.toList (by simpa using hfit)]at hst;simp[Builtin.copy_,run_underlying hu,Builtin.lenOf,Builtin.firstCells,sizeOf,typeInfo,hi,hm, <- hn,hl,hst]
theorem y7t {P : Program} (w : World) {ops : Array Oper} {rest : List Oper} {o : Oper} {a : Act} {Q : Exit -> Act -> World -> Prop} (hgd : o.guard = none) (d s : Operand) (t t' : TypeId)
  (ho:o.op=.call { callee:=.builtin .copy,args := #[d,s],argTypes := #[t,t']}) (v u:Value) (hd:a.eval d=v) (hs:a.eval s=u) {v':Value} {w':World}
  (hr:(Builtin.copy_ #[t,t'] o.type #[v,u]).run P w=.ok v' w') (h:wpList P ops Q rest (a.put o.dst v') w'):wpList P ops Q (o::rest) a w:=
 wpList_plain hgd fun _ hK=>by
  unfold Oper.wp execOp;simp only[ho,resolve,invoke,builtin,Sem.run_bind,Sem.run_pure,Result.andThen_ok,List.map_toArray,List.map_cons,List.map_nil,hd,hs,hr];exact hK _ _ h
theorem yqo {P : Program} {ops : Array Oper} {o : Oper} {a : Act} {w : World} {K : Act -> World -> Prop} {Q : Exit -> Act -> World -> Prop} {E : Prop}
  (hg:o.guard=none) (d x:Operand) (dT sT:TypeId) (hop:o.op=Op.call { callee:=Callee.builtin Builtin.copy,args := #[d,x],argTypes := #[dT,sT]})
  (v u:Value) (hd:a.eval d=v) (hx:a.eval x=u) {v':Value} {w':World} (hr:(Builtin.copy_ #[dT,sT] o.type #[v,u]).run P w=.ok v' w') (hK:K (a.put o.dst v') w') :
  if Region.wanted o (yielded ops a.tmps)=true then Oper.wp P o a w K Q else E:=by
 have hw:Region.wanted o (yielded ops a.tmps)=true:=by simp[Region.wanted,hg]
 rw[if_pos hw];unfold Oper.wp;simp[execOp,hop,resolve,invoke,builtin,hd,hx,hr,Result.andThen]
 exact hK
theorem yye {P : Program} (w : World) {ops : Array Oper} {rest : List Oper} {o : Oper} {a : Act} {Q : Exit -> Act -> World -> Prop} (hgd : o.guard = none) (d s : Operand) (t t' : TypeId)
  (ho:o.op=.call { callee:=.builtin .append,args := #[d,s],argTypes := #[t,t']}) (v u:Value) (hd:a.eval d=v) (hs:a.eval s=u) {v':Value} {w':World}
  (hr:(Builtin.append_ #[t,t'] o.type #[v,u]).run P w=.ok v' w') (h:wpList P ops Q rest (a.put o.dst v') w'):wpList P ops Q (o::rest) a w:=
 wpList_plain hgd fun _ hK=>by
  unfold Oper.wp execOp;simp only[ho,resolve,invoke,builtin,Sem.run_bind,Sem.run_pure,Result.andThen_ok,List.map_toArray,List.map_cons,List.map_nil,hd,hs,hr];exact hK _ _ h
theorem y0k {P : Program} (w : World) (t tn ty e : TypeId) (i : TypeInfo) (z : Value) (ht : P.underlying t = some (.slice e)) (htn : P.underlying tn = some (.int .i64)) (hi : P.info? e = some i) (hz : i.zero = some z)
  (b:Addr) (sLen sCap:Nat) (olds:List Value) (hlo:olds.length=sLen * i.size) (holds:∀ j v,olds[j]? = some v->w.cell? (b.add j)=some v)
  (k:Nat) (h0:0<k) (hs:0<i.size) (hg:sCap<sLen+k) (h63:sLen+k<=140737488355328) (h48:(sLen+k) * i.bytes<=140737488355328) :
  (Builtin.append_ #[t,tn] ty #[.slice (some b) sLen sCap,.int .i64 k]).run P w =
   .ok (.slice (some ⟨w.heap.size, 0, none⟩) (sLen + k) (grownCap w (sLen + k) sCap e))
    (w.drew.alloc (.cells (olds.toArray++Builtin.zeroCells z.cells k++Builtin.zeroCells z.cells (grownCap w (sLen+k) sCap e-(sLen+k))) e)):=by
 have hold:=run_firstCells_some (P:=P) w.drew i.size sLen b sLen sCap olds hlo (by simpa using holds);have hfit:=growslice_fits hg h48;have hk:k≠0:=by omega
 have hw:IntKind.i64.wrap (k:Int)=k:=by rw[IntKind.wrap_i64];omega
 have hn:¬ (sLen+k<=sCap):=by omega
 have h63':¬ (9223372036854775807<((sLen:Int)+(k:Int))):=by omega
 have h48':¬ (281474976710656<Builtin.nextslicecap (sLen+k) sCap * i.bytes):=by omega
 have h48i:¬ (281474976710656<(k:Int) * (i.bytes:Int)):=by
  rw[<- Int.natCast_mul];have:k * i.bytes<=(sLen+k) * i.bytes:=Nat.mul_le_mul_right _ (by omega);omega
 have hneg:¬ ((k:Int)<0):=by omega
 have hns:¬ (k * i.size=0):=Nat.mul_ne_zero hk (by omega);simp[Builtin.append_,run_underlying ht,run_underlying htn,sizeOf,typeInfo,zeroValue,hi,hz,asInt,asIntOf,hw,hn,hneg,hns,h63',h48',h48i,Question.forced,hold,newRow,grownCap]
theorem yqp {P : Program} (w : World) (tS tR et : TypeId) (i : TypeInfo) (ht : P.underlying tS = some (.slice et)) (hi : P.info? et = some i)
  (a b o p la ca lb cb:Nat) (hne:a≠b) (c1 c2:Array Value) (T1 T2:TypeId) (h1:w.heap[a]? = some (.cells c1 T1 (0,0))) (h2:w.heap[b]? = some (.cells c2 T2 (0,0))) (h3:0<c2.size) :
  (Extern.SlicesOverlaps.overlaps #[tS,tS] #[tR] #[.slice (some ⟨a,o,none⟩) la ca,.slice (some ⟨b,p,none⟩) lb cb]).run P w=.ok (.bool false) w:=by
 exact Lib.run_overlaps_apart w tS tR et ht i.size (fun w=>by simp[sizeOf,typeInfo,hi]) ⟨a,o,none⟩ ⟨b,p,none⟩ la ca lb cb hne T1 T2 c1.size c2.size (by simp[World.shape?,h1]) (by simp[World.shape?,h2]) (by omega) (by simp[World.frozen?,h1]) (by simp[World.frozen?,h1])
end Go.Ab
namespace Go.Ab
open Go
variable [Inv]
structure ElT (P:Program) (tS tE:TypeId) (e bytes:Nat) (i:TypeInfo) (z:Value):Prop where
 und:P.underlying tS=some (.slice tE)
 inf:P.info? tE=some i
 zero:i.zero=some z
 size:i.size=e
 byt:i.bytes=bytes
 zs:z.cells.size=e
 pos:0<e
 zone:∀ u∈z.cells,u.oneCell'=true
theorem ElT.mk' {P:Program} {Γ:Env} (hΓ:TyOk P Γ) {tS tE:TypeId} {e bytes a b:Nat} {zs:List AV} {zs':List AV} {ti:TI} {o:Bool} (h1:tget Γ tS=some ⟨.slice tE,a,b,zs',o⟩) (h2:tget Γ tE=some ⟨ti,e,bytes,zs,true⟩) (hl:zs.length=e) (hp:0<e) :
  ∃ i z,ElT P tS tE e bytes i z:=by
 obtain⟨inf,d,i1,i2,i3,i4,i5,i6,i7⟩:=yg (TyOk.get hΓ h1);obtain⟨jnf,d',j1,j2,j3,j4,j5,j6,j7⟩:=yg (TyOk.get hΓ h2)
 have hu:P.underlying tS=some (.slice tE):=by
  rw[i2];cases d<;>simp[tiOf]at i3
  all_goals first|(simp[i3];done)|(subst i3;rfl)|(split at i3<;>simp_all)
 cases hz:jnf.zero with
 | none=>simp[hz]at j7
 | some z=>
  simp only[hz,Option.map_some,Option.getD_some]at j6 j7;refine⟨jnf,z,hu,j1,hz,j4,j5,?_,hp,?_⟩
  ·have:=congrArg List.length j6
   simp at this
   rw[<- this];exact hl
  ·intro u hu2
   have:=List.all_eq_true.1 j7.symm u (by simpa using hu2);exact this
end Go.Ab
namespace Go.Ab
open Go
variable [Inv]
theorem yn0 {P : Program} (w : World) (t ty et : TypeId) (i : TypeInfo) (z : Value) (hu : P.underlying t = some (.slice et)) (hi : P.info? et = some i) (hz : i.zero = some z) (hzs : z.cells.size = i.size) (hone : ∀ u ∈ z.cells, u.oneCell' = true)
  (b o n c T:Nat) (cur:Array Value) (hb:w.heap[b]? = some (.cells cur T (0,0))) (hfit:o+n * i.size<=cur.size) (hn:0<n) :
  (Builtin.clear_ #[t] ty #[.slice (some ⟨b,o,none⟩) n c]).run P w=.ok (.tuple #[]) (w.setRow b (putV o ((List.range n).flatMap fun _=>z.cells.toList) cur.toList).toArray):=by
 have hvl:=yxf (vs:=fun _=>z.cells.toList) (e:=i.size) n (fun _ _=>by simpa using hzs)
 have hst:=run_storeCells_at P b o T ((List.range n).flatMap fun _=>z.cells.toList) 0 cur w hb (by rw[hvl];simpa using hfit) (by
  intro v hv;obtain⟨_,_,hv⟩:=List.mem_flatMap.1 hv
  exact hone v (by simpa using hv))
 simp only[Nat.add_zero]at hst;rw[ype _ _ _ (by rw[hvl];simpa using hfit)]at hst;obtain⟨n1,rfl⟩:∃ n1,n=n1+1:=⟨n-1,by omega⟩
 have hzv:(zeroValue et).run P w=.ok z w:=by
  simp[zeroValue,typeInfo,hi,hz]
 simp only[Builtin.clear_,Sem.run_bind,run_underlying hu,Result.andThen_ok,List.getElem?_toArray,List.getElem?_cons_zero,hzv,Sem.run_pure];rw[ykk hzs];erw [hst]
 rfl
theorem y0t {P : Program} {ops : Array Oper} {o : Oper} {a : Act} {w : World} {K : Act -> World -> Prop} {Q : Exit -> Act -> World -> Prop} {E : Prop}
  (hg:o.guard=none) (d x:Operand) (dT sT:TypeId) (hop:o.op=Op.call { callee:=Callee.builtin Builtin.append,args := #[d,x],argTypes := #[dT,sT]})
  (v u:Value) (hd:a.eval d=v) (hx:a.eval x=u) {v':Value} {w':World} (hr:(Builtin.append_ #[dT,sT] o.type #[v,u]).run P w=.ok v' w') (hK:K (a.put o.dst v') w') :
  if Region.wanted o (yielded ops a.tmps)=true then Oper.wp P o a w K Q else E:=by
 have hw:Region.wanted o (yielded ops a.tmps)=true:=by simp[Region.wanted,hg]
 rw[if_pos hw];unfold Oper.wp;simp[execOp,hop,resolve,invoke,builtin,hd,hx,hr,Result.andThen]
 exact hK
def y69 (P:Program) (f:FuncId) (T:TypeId) (e:Nat):Prop:=
 ∀ (w:World) (b cap n i j:Nat) (cur:Array Value) (A C B:List Value),i<j->j<=n->A.length=i * e->C.length=(j-i) * e->B.length=(n-j) * e->(∀ u∈B,u.oneCell'=true) ->
  w.heap[b]? = some (.cells cur T (0,0))->cur.size=cap * e->n<=cap->cap<=maxLen->(∀ k,k<n * e->cur[k]? = (A++C++B)[k]?) ->
  Calls P f #[.slice (some ⟨b,0,none⟩) n cap,.int .i64 i,.int .i64 j] w fun ex w'=>∃ cur',ex=.returned (.slice (some ⟨b,0,none⟩) (n-(j-i)) cap)/\AppOut w w' T e (n-(j-i)) 0 (some b) (A++B) [] b cap cur'
theorem ysab {α : Type} [Inhabited α] {P : Program} {f : FuncId} {T : TypeId} {e : Nat} {enc : α -> List AV} (hok : FnOk P f) (hraw : y69 P f T e) (hnb : ∀ v, y4b (enc v))
  (l:List α) (i j:Int) (h0:0<=i) (hi:i<j) (hj:j<=l.length) :
  DenM P f [ownL T e enc l,.int .i64 i,.int .i64 j] (ownL T e enc (l.take i.toNat++l.drop j.toNat)) [.any,.any,.any]:=by
 obtain⟨i,rfl⟩:=Int.eq_ofNat_of_zero_le h0;obtain⟨j,rfl⟩:=Int.eq_ofNat_of_zero_le (a:=j) (by omega);simp only[Int.ofNat_eq_natCast,Int.toNat_natCast]at hi hj ⊢;replace hi:i<j:=by omega
 replace hj:j<=l.length:=by omega
 refine⟨hok,?_⟩;intro w M vs fpA i1 i2 hr hnd hM hlt;have hlt':=RepL.fp_lt _ hr;simp only[RepL]at hr;obtain⟨v,_,fp0,_,rfl,rfl,hv,_,_,_,_,rfl,rfl,hi2,_,_,_,_,rfl,rfl,hj2,rfl,rfl⟩:=hr;simp only[Rep]at hi2 hj2;obtain⟨rfl,rfl⟩:=hi2;obtain⟨rfl,rfl⟩:=hj2;simp only[List.append_nil]at hnd hM hlt' ⊢;obtain⟨us,fps,r1,q1,p1⟩:=yr3 hv;rcases p1 with⟨h,_⟩|⟨b,cap0,rfl,rfl,hvb⟩
 ·omega
 rcases r1 with⟨h,_⟩|⟨b2,cap,cur,he,hb,hcs,hnc,hcm,hold⟩
 ·cases h
 simp only[Value.slice.injEq,Option.some.injEq,Addr.mk.injEq,true_and,and_true]at he;obtain⟨rfl,rfl⟩:=he;obtain⟨hnb1,hnd1⟩:=List.nodup_cons.1 hnd;have hsp:=ytc us i l.length (by omega);have hsp2:=ytc (fun k=>us (i+k)) (j-i) (l.length-i) (by omega);have hspf:=ytc fps i l.length (by omega);have hspf2:=ytc (fun k=>fps (i+k)) (j-i) (l.length-i) (by omega);have ej:∀ k,i+(j-i+k)=j+k:=fun k=>by omega
 have el:l.length-i-(j-i)=l.length-j:=by omega
 simp only[ej,el]at hsp2 hspf2;rw[hsp,hsp2, <- List.append_assoc]at hold;have hla:((List.range i).flatMap us).length=i * e:=ynb (fun k hk=>(q1 k (by omega)).2.1);have hlc:((List.range (j-i)).flatMap (fun k=>us (i+k))).length=(j-i) * e:=ynb (fun k hk=>(q1 (i+k) (by omega)).2.1);have hlb:((List.range (l.length-j)).flatMap (fun k=>us (j+k))).length=(l.length-j) * e:=ynb (fun k hk=>(q1 (j+k) (by omega)).2.1)
 have o2:∀ u∈(List.range (l.length-j)).flatMap (fun k=>us (j+k)),u.oneCell'=true:=by
  intro u hu;obtain⟨k,hk,hu⟩:=List.mem_flatMap.1 hu;exact(q1 (j+k) (by have:=List.mem_range.1 hk;omega)).2.2 u hu
 refine(hraw w _ _ l.length i j cur _ _ _ hi hj hla hlc hlb o2 hb hcs hnc hcm hold).mono ?_;rintro ex w' ⟨cur',rfl,ho⟩
 have hlen:(l.take i++l.drop j).length=l.length-(j-i):=by simp;omega
 -- the elements that stay
 have hjoin:∀ {β:Type} (f:Nat->List β),(List.range (l.length-(j-i))).flatMap (fun k=>if k<i then f k else f (j+(k-i)))=(List.range i).flatMap f++(List.range (l.length-j)).flatMap (fun k=>f (j+k)):=by
  intro β f;have:=yud f (fun k=>f (j+k)) i (l.length-j);rw[show i+(l.length-j)=l.length-(j-i)by omega]at this;exact this
 have hsub:((List.range (l.length-(j-i))).flatMap (fun k=>if k<i then fps k else fps (j+(k-i)))).Sublist ((List.range l.length).flatMap fps):=by
  rw[hjoin fps,hspf,hspf2];exact List.Sublist.append_left (List.sublist_append_right _ _) _
 have hgd:∀ k,k<l.length-(j-i)->(l.take i++l.drop j).getD k default=if k<i then l.getD k default else l.getD (j+(k-i)) default:=by
  intro k hk;simp only[List.getD_eq_getElem?_getD];split
  ·rename_i h2
   rw[List.getElem?_append_left (by simp;omega),List.getElem?_take_of_lt h2]
  ·rename_i h2
   rw[List.getElem?_append_right (by simp;omega),List.getElem?_drop];congr 3
   simp;omega
 have mem1:∀ k,k<l.length->b∉fps k:=fun k hk hb=>hnb1 (List.mem_flatMap.2 ⟨k,List.mem_range.2 hk,hb⟩)
 have hlt'':b<w'.heap.size:=(Array.getElem?_eq_some_iff.1 ho.row).1;refine⟨_,b::(List.range (l.length-(j-i))).flatMap (fun k=>if k<i then fps k else fps (j+(k-i))),[],rfl,⟨ho.os,ho.tape,ho.output,ho.size,?_⟩,?_,?_,?_,?_,?_⟩
 ·intro k hk hk2
  refine ho.other k hk ?_;rintro rfl
  exact hk2 (by simp[y1,tops,yjc,ownL])
 ·have:=y7u (M':=fun c=>M c\/c∈(b::(List.range (l.length-(j-i))).flatMap (fun k=>if k<i then fps k else fps (j+(k-i))))++[]) (f:=fun k=>enc ((l.take i++l.drop j).getD k default)) (us:=fun k=>if k<i then us k else us (j+(k-i))) (fps:=fun k=>if k<i then fps k else fps (j+(k-i))) ho (hjoin us).symm (by
   intro k hk;simp only[hgd k hk];split
   ·obtain⟨h1,h2,h3⟩:=q1 k (by omega)
    exact⟨ybi ho (hnb _) h1 (mem1 _ (by omega)),h2,h3⟩
   ·obtain⟨h1,h2,h3⟩:=q1 (j+(k-i)) (by omega)
    exact⟨ybi ho (hnb _) h1 (mem1 _ (by omega)),h2,h3⟩)
  simp only[ownL,hlen];exact this
 ·exact⟨_,_,[],[],rfl,rfl,by simp only[Rep],_,_,[],[],rfl,rfl,by simp only[Rep],_,_,[],[],rfl,rfl,by simp only[Rep],rfl,rfl⟩
 ·simp only[List.append_nil]
  exact List.Nodup.sublist (List.Sublist.cons_cons _ hsub) hnd
 ·intro c hc
  simp only[List.append_nil]at hc;have hc2:c∈b::(List.range l.length).flatMap fps:=(List.Sublist.cons_cons _ hsub).subset hc;exact⟨.inl hc2,Nat.lt_of_lt_of_le (hlt' c hc2) ho.size⟩
 ·intro c hc
  simp only[tops,yjc,ownL,y1,List.append_nil,List.mem_singleton]at hc;subst hc;exact .inl (by simp[y1,tops,yjc,ownL])
end Go.Ab
namespace Go.Ab
open Go
variable [Inv]
variable {P:Program} {c:Ctx} {s:St} {N:St->Prop} {E:Nat->St->Prop} {R:St->Prop}
theorem AWP.arrS {code : Code} (id : Nat) {T : TypeId} {e n : Nat} {f : Nat -> List AV} (f' : Nat -> List AV) (hid : nthE s.h id = some (.arr T e n f)) (hx : ∀ i, i < n -> yec (f i) (f' i))
  (h:AWP P c code N E R ⟨s.t,setE s.h id (.arr T e n f')⟩):AWP P c code N E R s:=by
 refine⟨fun a w hs=>h.run a w ?_⟩;obtain⟨μ,FP,hW,htl,h1,h2,h3⟩:=hs;have hlt:=yed hid
 have hget:∀ k,nthE (setE s.h id (.arr T e n f')) k=if k=id then some (.arr T e n f')else nthE s.h k:=by
  intro k;rw[y6];by_cases hk:k=id
  ·subst hk;rw[if_pos ⟨rfl,hlt⟩,if_pos rfl]
  ·rw[if_neg (fun h=>hk h.1),if_neg hk]
 have hhot:∀ b,hot c.M0 (Hof (setE s.h id (.arr T e n f'))) μ b->hot c.M0 (Hof s.h) μ b:=by
  rintro b (hb|⟨k,cap,e',hm,he,hl⟩)
  ·exact .inl hb
  ·right
   rw[show Hof (setE s.h id (.arr T e n f')) k=nthE (setE s.h id (.arr T e n f')) k from rfl,hget]at he;by_cases hk:k=id
   ·subst hk;exact⟨k,cap,_,hm,hid,rfl⟩
   ·rw[if_neg hk]at he;exact⟨k,cap,e',hm,he,hl⟩
 have hsm:∀ fq,Same w (hot c.M0 (Hof s.h) μ) w (hot c.M0 (Hof (setE s.h id (.arr T e n f'))) μ) fq:=fun fq=>⟨Nat.le_refl _,fun b _ hb hh=>hb (hhot b hh),fun _ _ _=>rfl⟩
 refine⟨μ,FP,⟨hW.keep,hW.base,?_,hW.out,hW.nodup,hW.disj,hW.new,?_⟩,?_,fun i=>Rep.mono _ (Map.le_refl _) (hsm _) (h1 i),h2,h3⟩
 ·intro k L hk
  obtain⟨e2,g1,g2⟩:=hW.ent k L hk;have g3:=yic.mono (Map.le_refl _) (hsm _) (fun b hb=>(hW.new k b hb).2) g2;rw[show Hof (setE s.h id (.arr T e n f')) k=nthE (setE s.h id (.arr T e n f')) k from rfl,hget];by_cases hki:k=id
  ·subst hki
   rw[show Hof s.h k=nthE s.h k from rfl,hid]at g1;cases g1
   refine⟨_,if_pos rfl,?_⟩
   cases L with
   | nil=>exact g3
   | blk b cap=>
    obtain⟨cur,us,fps,q1,q2,q3,q4,q5,q6⟩:=g3;exact⟨cur,us,fps,q1,q2,q3,q4,fun i hi=>⟨ycc _ _ (hx i hi) (q5 i hi).1,(q5 i hi).2⟩,q6⟩
  ·exact⟨e2,by rw[if_neg hki];exact g1,g3⟩
 ·intro k b cap e' hm he hli
  rw[show Hof (setE s.h id (.arr T e n f')) k=nthE (setE s.h id (.arr T e n f')) k from rfl,hget]at he;by_cases hki:k=id
  ·subst hki;exact hW.top k b cap _ hm hid rfl
  ·rw[if_neg hki]at he;exact hW.top k b cap e' hm he hli
 ·intro k hk
  rw[y0]at hk;exact htl k hk
theorem y09 {α:Type} [Inhabited α] (n i:Nat):(List.replicate n (default:α)).getD i default=default:=by
 rw[List.getD_eq_getElem?_getD,List.getElem?_replicate];split<;>rfl
theorem zs {p:Prop} (h:p:=by(intro i hi;rw[y09];(repeat' first|exact rfl|exact trivial|refine⟨?_,?_⟩));first|done|fail):p:=h
end Go.Ab
namespace Go.Ab
open Go
variable [Inv]
variable {P:Program} {c:Ctx} {s:St} {N:St->Prop} {E:Nat->St->Prop} {R:St->Prop}
theorem AWP.lendE {code : Code} (id : Nat) {T : TypeId} {e n : Nat} {f : Nat -> List AV} (f' : Nat -> List AV) (hid : nthE s.h id = some (.arr T e n f)) (hx : ∀ i, i < n -> yec (yz (f i)) (f' i))
  (h:AWP P c code N E R ⟨s.t,setE s.h id (.arr T e n f')⟩):AWP P c code N E R s:=by
 refine⟨fun a w hs=>h.run a w ?_⟩;obtain⟨μ,FP,hW,htl,h1,h2,h3⟩:=hs;have hlt:=yed hid
 have hget:∀ k,nthE (setE s.h id (.arr T e n f')) k=if k=id then some (.arr T e n f')else nthE s.h k:=by
  intro k;rw[y6];by_cases hk:k=id
  ·subst hk;rw[if_pos ⟨rfl,hlt⟩,if_pos rfl]
  ·rw[if_neg (fun h=>hk h.1),if_neg hk]
 have hhot:∀ b,hot c.M0 (Hof (setE s.h id (.arr T e n f'))) μ b->hot c.M0 (Hof s.h) μ b:=by
  rintro b (hb|⟨k,cap,e',hm,he,hl⟩)
  ·exact .inl hb
  ·right
   rw[show Hof (setE s.h id (.arr T e n f')) k=nthE (setE s.h id (.arr T e n f')) k from rfl,hget]at he;by_cases hk:k=id
   ·subst hk;exact⟨k,cap,_,hm,hid,rfl⟩
   ·rw[if_neg hk]at he;exact⟨k,cap,e',hm,he,hl⟩
 have hsm:∀ fq,Same w (hot c.M0 (Hof s.h) μ) w (hot c.M0 (Hof (setE s.h id (.arr T e n f'))) μ) fq:=fun fq=>⟨Nat.le_refl _,fun b _ hb hh=>hb (hhot b hh),fun _ _ _=>rfl⟩
 have htopin:∀ k b cap e',μ k=some (.blk b cap)->Hof s.h k=some e'->e'.live=true->b∈FP k:=by
  intro k b cap e' hm he hl;obtain⟨e2,g1,g2⟩:=hW.ent k _ hm;rw[he]at g1;cases g1
  cases e' with
  | dead=>cases hl
  | box cs=>obtain⟨b',cap',us,T',hL,hfp,_⟩:=g2;cases hL;rw[hfp];simp
  | it l p m=>obtain⟨b',hL,hfp,_⟩:=g2;cases hL;rw[hfp];simp
  | byt l=>obtain⟨b',cur,T,hL,hfp,_⟩:=g2;cases hL;rw[hfp];simp
  | arr T' e' n' f'=>obtain⟨cur,us,fps,_,_,_,_,_,hfp⟩:=g2;rw[hfp];simp
 let FP2:Nat->List Nat:=fun k=>if k=id then(match μ id with|some (.blk b _)=>[b]|_=>[])else FP k
 have hsub:∀ k b,b∈FP2 k->b∈FP k:=by
  intro k b hb;simp only[FP2]at hb;by_cases hk:k=id
  ·subst hk
   rw[if_pos rfl]at hb
   cases hm:μ k with
   | none=>rw[hm]at hb;cases hb
   | some L=>
    rw[hm]at hb
    cases L with
    | nil=>cases hb
    | blk b' cap=>
     simp only[List.mem_singleton]at hb;subst hb;exact htopin k b cap _ hm hid rfl
  ·rw[if_neg hk]at hb;exact hb
 refine⟨μ,FP2,⟨hW.keep,hW.base,?_,?_,?_,?_,fun k b hb=>hW.new k b (hsub k b hb),?_⟩,?_,fun i=>Rep.mono _ (Map.le_refl _) (hsm _) (h1 i),h2,h3⟩
 ·intro k L hk
  obtain⟨e2,g1,g2⟩:=hW.ent k L hk;rw[show Hof (setE s.h id (.arr T e n f')) k=nthE (setE s.h id (.arr T e n f')) k from rfl,hget];by_cases hki:k=id
  ·subst hki
   rw[show Hof s.h k=nthE s.h k from rfl,hid]at g1;cases g1
   refine⟨_,if_pos rfl,?_⟩;have hF:FP2 k=(match μ k with|some (.blk b _)=>[b]|_=>[]):=if_pos rfl;rw[hF,hk]
   cases L with
   | nil=>exact⟨g2.1,rfl⟩
   | blk b cap=>
    have hnd:=hW.nodup k;have g3:=yic.mono (Map.le_refl _) (hsm _) (fun b hb=>(hW.new k b hb).2) g2;obtain⟨cur,us,fps,q1,q2,q3,q4,q5,q6⟩:=g3;refine⟨cur,us,fun _=>[],q1,q2,q3,q4,fun i hi=>⟨?_,(q5 i hi).2⟩,by simp⟩;refine ycc _ _ (hx i hi) (yub (f i) (fun x hxm hh => ?_) (q5 i hi).1);have hmem:x∈(List.range n).flatMap fps:=List.mem_flatMap.2 ⟨i,List.mem_range.2 hi,hxm⟩;have hxF:x∈FP k:=by rw[q6];exact List.mem_cons_of_mem _ hmem
    rcases hhot x hh with hM|⟨k2,cap2,e2,hm2,he2,hl2⟩
    ·have hc:=c.cold0 x hM
     rcases(hW.new k x hxF).1 with h5|h5
     ·exact hc.2 h5
     ·omega
    ·by_cases hkk:k2=k
     ·subst hkk
      rw[hk]at hm2;simp only[Option.some.injEq,Loc.blk.injEq]at hm2;rw[q6]at hnd;rw[<- hm2.1]at hmem;exact(List.nodup_cons.1 hnd).1 hmem
     ·exact hW.disj k2 k hkk x (htopin k2 x cap2 e2 hm2 he2 hl2) hxF
  ·have g3:=yic.mono (Map.le_refl _) (hsm _) (fun b hb=>(hW.new k b hb).2) g2
   refine⟨e2,by rw[if_neg hki];exact g1,?_⟩;rw[show FP2 k=FP k from if_neg hki];exact g3
 ·intro k hk
  by_cases hki:k=id
  ·subst hki
   rw[show FP2 k=(match μ k with|some (.blk b _)=>[b]|_=>[])from if_pos rfl,hk]
  ·rw[show FP2 k=FP k from if_neg hki];exact hW.out k hk
 ·intro k
  by_cases hki:k=id
  ·subst hki
   rw[show FP2 k=(match μ k with|some (.blk b _)=>[b]|_=>[])from if_pos rfl];split<;>simp
  ·rw[show FP2 k=FP k from if_neg hki];exact hW.nodup k
 ·intro i j hij b hb hb2
  exact hW.disj i j hij b (hsub i b hb) (hsub j b hb2)
 ·intro k b cap e' hm he hli
  rw[show Hof (setE s.h id (.arr T e n f')) k=nthE (setE s.h id (.arr T e n f')) k from rfl,hget]at he;by_cases hki:k=id
  ·subst hki;exact hW.top k b cap _ hm hid rfl
  ·rw[if_neg hki]at he;exact hW.top k b cap e' hm he hli
 ·intro k hk
  rw[y0]at hk;exact htl k hk
theorem le1 {p:Prop} (h:p:=by(intro i hi;first|exact y3 _|(simp only[yz,yeb];exact y3 _)|(simp[yz,yeb,yec,simO]));first|done|fail):p:=h
end Go.Ab
namespace Go.Ab
open Go
variable [Inv]
def Meet (c:Ctx) {ι:Type} (I:ι->St) (V:ι->Prop) (s:St):Prop:=∀ a w,WRs c s a w->∃ i rl s2,V i/\simK c.k0 rl s2 (I i)/\WRs c s2 a w
theorem AWP.joinC {P : Program} {c : Ctx} {N : St -> Prop} {E : Nat -> St -> Prop} {R : St -> Prop} {s : St} {ι : Type} {x y : Code} (I : ι -> St) (V : ι -> Prop)
  (h:AWP P c x (Meet c I V) E R s) (hN:∀ i,V i->AWP P c y N E R (I i)):AWP P c x (AWP P c y N E R) E R s:=
 AWP.mono (fun s' hm=>⟨fun a w hw=>by
  obtain⟨i,rl,s2,hv,hs,hw2⟩:=hm a w hw
  exact((hN i hv).sim rl hs).run a w hw2⟩) (fun _ _ h=>h) (fun _ h=>h) h
theorem Meet.end {c:Ctx} {ι:Type} {I:ι->St} {V:ι->Prop} {s:St} (i:ι) (rl:List Nat) (hv:V i) (hs:simK c.k0 rl s (I i)):Meet c I V s:=fun _ _ hw=>⟨i,rl,s,hv,hs,hw⟩
theorem Meet.nilB {c : Ctx} {ι : Type} {I : ι -> St} {V : ι -> Prop} {s : St} (id o : Nat) (T : TypeId) (e : Nat) (f : Nat -> List AV) {cs rest : List AV} (hid : nthE s.h id = some (.box cs)) (hx : yyc o cs = .nils :: rest)
  (h:Meet c I V ⟨s.t,setE s.h id (.box (putL o [.ref s.h.length e 0 0] cs))++[.arr T e 0 f]⟩):Meet c I V s:=fun a w hw=>h a w (hw.nilB id o T e f hid hx)
end Go.Ab
namespace Go.Ab
open Go
variable [Inv]
def yjm (Γ:Env) (rs:List ResultVar) (bk:List AV) (r:AV) (outs:List AV) (s:St):Prop:=
  match resA Γ s rs with
  | some (xs, o1) => match yoc s.h xs with
    | some (ys, h', ob) => match y7i h' bk with
      | some (zs,_,ob2)=>allP o1/\allP ob/\allP ob2/\ydd zs/\simO (yji (yz ys)) r/\yec zs outs
      | none=>False
    | none=>False
  | none=>False
section
variable {P:Program}
theorem ykv {f : FuncId} {fn : Func} {code : Code} {xs : List AV} {r : AV} {outs : List AV} {gb : List Bool} {N : Nat} {rs : List ResultVar} {Γ : Env} (hΓ : TyOk P Γ) (hf : P.funcs[f]? = some fn) (hname : (fn.name == "runtime.NumGoroutine") = false)
  (hb:fn.body=some code) (hN:fn.ntmps=N) (hr:fn.results.toList=rs) (hlen:xs.length<=N)
  (h:∀ c:Ctx,yzd xs->c.nt=N->c.k0=(adEL xs).length->AWP P c code (yjm Γ rs (posL gb (adRL 0 xs)) r outs) (fun _ _=>False) (yjm Γ rs (posL gb (adRL 0 xs)) r outs) ⟨pars 0 (adRL 0 xs),adEL xs⟩):DenM P f xs r outs:=by
 refine⟨⟨fn,hf,hname,by rw[hb];rfl⟩,?_⟩;intro w M vs fpA hI hIM hA hAn hAm hM;obtain⟨ls,hAd,hAdR⟩:=yzm xs hA;have hlsn:=yzb (ls:=ls) (by rw[<- hAd.fps];exact hAn);have hlt:∀ b,b∈fpA->b<w.heap.size:=RepL.fp_lt xs hA;have htf:∀ b,b∈y1 xs vs->b∈fpA:=yvc xs hA
 have hfpA:∀ (k:Nat) (L:Loc) (fq:List Nat),ls[k]? = some (L,fq)->∀ b,b∈fq->b∈fpA:=fun k L fq hk b hb=>by
  rw[hAd.fps];exact List.mem_flatten.2 ⟨fq,List.mem_map.2 ⟨(L,fq),List.mem_of_getElem? hk,rfl⟩,hb⟩
 let μ0:Map:=fun j=>(ls[j]?).map (·.1)
 let FP0:Nat->List Nat:=fun j=>((ls[j]?).map (·.2)).getD []
 have hbase:∀ j L,μ0 j=some L->j<(adEL xs).length:=by
  intro j L hj;simp only[μ0]at hj
  cases hls:ls[j]? with
  | none=>simp[hls]at hj
  | some p=>rw[<- hAd.len];exact(List.getElem?_eq_some_iff.1 hls).1
 let c:Ctx:={ w0:=w,M0:=M,F0:=fpA,T0:=y1 xs vs,mu0:=μ0,k0:=(adEL xs).length,nt:=N,cold0:=fun b hb=>⟨hM b hb,fun h=>hAm b h hb⟩,own0:=hlt,top0:=htf,base0:=hbase,inv0:=hI,invM:=hIM }
 have hhot:∀ b,hot c.M0 (Hof (adEL xs)) μ0 b->M b\/b∈y1 xs vs:=by
  rintro b (hb|⟨id,cap,e,hm,he,hl⟩)
  ·exact .inl hb
  ·right
   simp only[μ0]at hm
   cases hls:ls[id]? with
   | none=>simp[hls]at hm
   | some p=>
    obtain⟨L,fq⟩:=p;simp only[hls,Option.map_some,Option.some.injEq]at hm;subst hm;simp only[Hof,yjb]at he;exact(hAd.ok id e _ fq he hls).2 b cap rfl
 have hR0:RepL w (fun b=>M b\/b∈y1 xs vs) (adRL 0 xs) μ0 vs []:=hAdR 0 μ0 (fun j L fq hj=>by simp only[μ0,Nat.zero_add,hj];rfl);have hA':RepL w (hot c.M0 (Hof (adEL xs)) μ0) (adRL 0 xs) μ0 vs []:=y1e hhot hR0;have hvl:=hA.length;have hal:(adRL 0 xs).length=xs.length:=by rw[<- hA'.length,hvl]
 refine calls_of_wp hf hb ?_;refine wp_mono ((h c (RepL.lens xs hA) rfl rfl).run _ _ ⟨μ0,FP0,⟨⟨rfl,rfl,rfl,Nat.le_refl _,fun _ _ _=>rfl⟩,Map.le_refl _,?_,?_,?_,?_,?_,?_⟩,?_,?_,?_,rfl⟩) ?_
 ·intro id L hm
  simp only[μ0]at hm
  cases hls:ls[id]? with
  | none=>simp[hls]at hm
  | some p=>
   obtain⟨L',fq⟩:=p;simp only[hls,Option.map_some,Option.some.injEq]at hm;subst hm;have hid:id<(adEL xs).length:=by rw[<- hAd.len];exact(List.getElem?_eq_some_iff.1 hls).1
   refine⟨_,by simp only[Hof,yjb];exact List.getElem?_eq_getElem hid,?_⟩;have hok:=(hAd.ok id _ _ fq (List.getElem?_eq_getElem hid) hls).1 μ0;simp only[FP0,hls,Option.map_some,Option.getD_some];exact yic.mono (Map.le_refl _) ⟨Nat.le_refl _,fun b _ hb hh=>hb (hhot b hh),fun _ _ _=>rfl⟩ (fun b hb=>hlt b (hfpA _ _ _ hls b hb)) hok
 ·intro id hm
  simp only[μ0]at hm;simp only[FP0]
  cases hls:ls[id]? with
  | none=>rfl
  | some p=>simp[hls]at hm
 ·intro id
  simp only[FP0]
  cases hls:ls[id]? with
  | none=>simp
  | some p=>obtain⟨L,fq⟩:=p;exact hlsn.1 id L fq hls
 ·intro i j hij b hbi hbj
  simp only[FP0]at hbi hbj
  cases hli:ls[i]? with
  | none=>simp[hli]at hbi
  | some p=>
   cases hlj:ls[j]? with
   | none=>simp[hlj]at hbj
   | some q=>
    obtain⟨L1,f1⟩:=p;obtain⟨L2,f2⟩:=q;simp only[hli,hlj,Option.map_some,Option.getD_some]at hbi hbj;exact hlsn.2 i j L1 f1 L2 f2 hij hli hlj b hbi hbj
 ·intro i b hb
  simp only[FP0]at hb
  cases hls:ls[i]? with
  | none=>simp[hls]at hb
  | some p=>
   obtain⟨L,fq⟩:=p;simp only[hls,Option.map_some,Option.getD_some]at hb;exact⟨.inl (hfpA _ _ _ hls b hb),hlt b (hfpA _ _ _ hls b hb)⟩
 ·intro id b cap e hm he hl
  left
  simp only[μ0]at hm
  cases hls:ls[id]? with
  | none=>simp[hls]at hm
  | some p=>
   obtain⟨L,fq⟩:=p;simp only[hls,Option.map_some,Option.some.injEq]at hm;subst hm;simp only[Hof,yjb]at he;exact(hAd.ok id e _ fq he hls).2 b cap rfl
 ·intro j hj
  simp only[μ0];rw[List.getElem?_eq_none (by rw[hAd.len];exact hj)];rfl
 ·intro i
  have:=y8k (k:=0) (i:=i) (rest:=(Array.replicate (fn.ntmps-vs.toArray.size) undef).toList) hA' (Nat.zero_le _)
  have e:(vs.toArray++Array.replicate (fn.ntmps-vs.toArray.size) undef).getD i undef=(((vs++(Array.replicate (fn.ntmps-vs.toArray.size) undef).toList)[i-0]?).getD undef):=by
   rw[Array.getD_eq_getD_getElem?, <- Array.getElem?_toList];simp
  rw[e];exact this
 ·simp only[Array.size_append,List.size_toArray,Array.size_replicate]
  show vs.length+(fn.ntmps-vs.length)=N;omega
 ·intro e a w' hp
  have main:∀ s',yjm Γ rs (posL gb (adRL 0 xs)) r outs s'->WRs c s' a w'->bodyPost P fn (fun e w'=>∃ v fpR fpO,e=.returned v/\Keep w (y1 xs vs) w'/\Rep w' (fun b=>M b\/b∈fpR++fpO) r yw v fpR /\
    RepL w' (fun b=>M b\/b∈fpR++fpO) outs yw vs fpO/\(fpR++fpO).Nodup/\(∀ b,b∈fpR++fpO->(b∈fpA\/w.heap.size<=b)/\b<w'.heap.size) /\
    (∀ b,b∈tops r v++y1 outs vs->b∈y1 xs vs\/w.heap.size<=b)) .ret a w':=by
   intro s' hE hs';simp only[yjm]at hE;split at hE
   ·rename_i xs0 o1 hres0
    split at hE
    ·rename_i ys h' ob habs
     split at hE
     ·rename_i zs h'' ob2 hback
      obtain⟨ho1,ho,ho2,hf2,hpack,hsim⟩:=hE;obtain⟨μ,FP,hW,htl,h1,h2,h3⟩:=hs'
      have hmap:∃ us,(fn.results.toList.mapM (fun|.tmp t=>pure (a.tmps.getD t undef)|.cell b t=>do loadVar t (<- asAddr (a.tmps.getD b undef)):ResultVar->Sem Value)).run P w'=.ok us w'/\RepL w' (hot c.M0 (Hof s'.h) μ) xs0 μ us []:=by
       rw[hr];exact yql hΓ hW a.tmps h1 (fun _=>rfl) (fun _ _=>rfl) hres0 ho1
      obtain⟨us,hrun,hres⟩:=hmap;obtain⟨K1,fp1,hr1,hgone1,hown1⟩:=y3g hW (fun _ _ he _=>he) hres habs ho;have htops1:=y5g (fun _ _ he _=>he) hres habs;have hpos:RepL w' (hot c.M0 (Hof s'.h) μ) (posL gb (adRL 0 xs)) μ vs []:=ybl hW.base hR0;obtain⟨K2,fp2,hr2,hgone2,hown2,htops2⟩:=yzh hW (fun id e he hl=>hgone1.sub id e he hl) hpos hback ho2;have hown:=Owns.app hW hgone1 hgone2 hown1 hown2
      have hnew:∀ b,b∈fp1++fp2->(b∈fpA\/w.heap.size<=b)/\b<w'.heap.size:=by
       intro b hb;obtain⟨id,_,hid⟩:=hown.2 b hb;exact hW.new id b hid
      have htop:∀ b,b∈fp1++fp2->hot c.M0 (Hof s'.h) μ b->b∈y1 xs vs\/w.heap.size<=b:=by
       intro b hb hh;rcases hh with hh|⟨id,cap,e,hm,he,hl⟩
       ·have hc:=c.cold0 b hh
        rcases(hnew b hb).1 with h5|h5
        ·exact absurd h5 hc.2
        ·exact .inr h5
       ·exact hW.top id b cap e hm he hl
      let v0:Value:=if h:us.toArray.size=1 then us.toArray[0]else .tuple us.toArray
      have hcold:∀ b,b<w'.heap.size->¬ hot c.M0 (Hof s'.h) μ b->¬ (M b\/b∈[]++fp2):=by
       rintro b _ hn (hm|hm)
       ·exact hn (.inl hm)
       ·exact hn (htops2 b (ydd.tops zs hf2 hr2 b (by simpa using hm)))
      have hd12:∀ b,b∈fp1->b∉fp2:=fun b h1 h2=>(List.nodup_append.1 hown.1).2.2 b h1 b h2 rfl
      have hfree:∀ b,b∈fp1->¬ (M b\/b∈[]++fp2):=by
       rintro b hb (hm|hm)
       ·have hc:=c.cold0 b hm
        rcases(hnew b (List.mem_append_left _ hb)).1 with h5|h5
        ·exact hc.2 h5
        ·have:c.w0.heap.size=w.heap.size:=rfl
         omega
       ·exact hd12 b hb (by simpa using hm)
      have hYZ:RepL w' (fun b=>M b\/b∈[]++fp2) (yz ys) yw us []/\RepL w' (fun b=>M b\/b∈[]++fp2) zs yw vs fp2:=
       ⟨yub ys hfree (RepL.mono ys (Map.le_refl _) ⟨Nat.le_refl _,hcold,fun _ _ _=>rfl⟩ hr1),RepL.mono zs (Map.le_refl _) ⟨Nat.le_refl _,hcold,fun _ _ _=>rfl⟩ hr2⟩
      have hrp1:Rep w' (fun b=>M b\/b∈[]++fp2) (yji (yz ys)) yw v0 []:=yhl hYZ.1;refine⟨h3,v0,?_,v0,[],fp2,rfl,hW.keep,?_,?_,by simpa using (List.nodup_append.1 hown.1).2.1,fun b hb=>hnew b (List.mem_append_right _ (by simpa using hb)),?_⟩
      ·unfold results
       rw[Sem.run_bind, <- Array.toArray_toList (xs:=fn.results),List.mapM_toArray];simp only[Sem.run_map];erw [hrun]
       rfl
      ·exact y1g _ _ hpack hrp1
      ·exact ycc _ _ hsim hYZ.2
      ·intro b hb
       rcases List.mem_append.1 hb with hb|hb
       ·rw[y1m _ _ hpack hrp1]at hb
        have hbf:=y2h _ hrp1 b hb;cases hbf
       ·rw[y4d _ _ hsim hr2]at hb
        have hbf:b∈fp2:=yvc _ hr2 b hb;exact htop b (List.mem_append_right _ hbf) (htops2 b hb)
     ·exact hE.elim
    ·exact hE.elim
   ·exact hE.elim
  cases e with
  | normal=>obtain⟨s',h1,h2⟩:=hp;exact main s' h1 h2
  | ret=>obtain⟨s',h1,h2⟩:=hp;exact main s' h1 h2
  | exit id=>obtain⟨s',h1,h2⟩:=hp;exact h1.elim
  | _=>exact hp.elim
end
section
variable {P:Program} {f:FuncId} {fn:Func} {code:Code} {xs:List AV} {r:AV} {N:Nat} {Γ:Env} {A:Array ResultVar}
theorem djL {outs : List AV} {gb : List Bool} (hf : P.funcs[f]? = some fn) (hN : fn.ntmps = N) (hr : fn.results = A)
  (h:∀ c:Ctx,yzd xs->c.nt=N->c.k0=(adEL xs).length->AWP P c code (yjm Γ A.toList (posL gb (adRL 0 xs)) r outs) (fun _ _=>False) (yjm Γ A.toList (posL gb (adRL 0 xs)) r outs) ⟨pars 0 (adRL 0 xs),adEL xs⟩)
  (hb:fn.body=some code:=by rfl) (hΓ:TyOk P Γ:=by exact G_ok) (hname:(fn.name == "runtime.NumGoroutine")=false:=by kernel_rfl) (hlen:xs.length<=N:=by simp):DenM P f xs r outs:=
 ykv hΓ hf hname hb hN (by rw[hr]) hlen h
end
theorem esL {p:Prop} (h:p:=by((simp only[yjm,en,si,ea,gv,sv,hk,reduceCtorEq,reduceIte,Nat.reduceBEq,Nat.reduceAdd,Nat.reduceEqDiff,Nat.reduceLT,Nat.reduceLeDiff,Nat.reduceMul,Nat.reduceSub,BEq.rfl,beq_self_eq_true,Int.reduceToNat];first|done|exact o3|exact cl));(first|done|fail)):p:=h
theorem y1h {p:Prop} (h:p:=by(refine rS ?_;refine AWP.ret ?_;subst hR;exact esL);(first|done|fail)):p:=h
end Go.Ab
namespace Go.Ab
open Go
variable [Inv]
variable {P:Program} {c:Ctx} {s:St} {N:St->Prop} {E:Nat->St->Prop} {R:St->Prop}
theorem yn9 (q i:Nat) (x:AV) (t:List (Nat×AV)):get ((q,x)::t) i=if i=q then x else get t i:=by
 simp only[get];by_cases h:i=q
 ·subst h;rw[if_pos rfl];simp
 ·rw[if_neg h]
  cases hb:Nat.beq i q with
  | true=>exact absurd (Nat.eq_of_beq_eq_true hb) h
  | false=>simp
theorem AWP.lendV {code : Code} (q id : Nat) {T : TypeId} {e n m : Nat} {f : Nat -> List AV} (f' : Nat -> List AV) (hq : get s.t q = .ref id e 0 n) (hid : nthE s.h id = some (.arr T e m f)) (hnm : n <= m)
  (hx:∀ i,i<n->yec (yz (f i)) (f' i)) (hp:∀ i,i<n->y9d (f' i)=true)
  (h:AWP P c code N E R ⟨(q,.sl none e n f')::s.t,setE s.h id .dead⟩):AWP P c code N E R s:=by
 refine⟨fun a w hs=>h.run a w ?_⟩;obtain⟨μ,FP,hW,htl,h1,h2,h3⟩:=hs;have hlt:=yed hid
 have hget:∀ k,nthE (setE s.h id .dead) k=if k=id then some .dead else nthE s.h k:=by
  intro k;rw[y6];by_cases hk:k=id
  ·subst hk;rw[if_pos ⟨rfl,hlt⟩,if_pos rfl]
  ·rw[if_neg (fun h=>hk h.1),if_neg hk]
 have hhot:∀ b,hot c.M0 (Hof (setE s.h id .dead)) μ b->c.M0 b\/∃ k cap e',k≠id/\μ k=some (.blk b cap)/\Hof s.h k=some e'/\e'.live=true:=by
  rintro b (hb|⟨k,cap,e',hm,he,hl⟩)
  ·exact .inl hb
  ·rw[show Hof (setE s.h id .dead) k=nthE (setE s.h id .dead) k from rfl,hget]at he
   by_cases hk:k=id
   ·subst hk;rw[if_pos rfl]at he;cases he;cases hl
   ·rw[if_neg hk]at he;exact .inr ⟨k,cap,e',hk,hm,he,hl⟩
 have hhot2:∀ b,hot c.M0 (Hof (setE s.h id .dead)) μ b->hot c.M0 (Hof s.h) μ b:=by
  intro b hb;rcases hhot b hb with h5|⟨k,cap,e',_,hm,he,hl⟩
  ·exact .inl h5
  ·exact .inr ⟨k,cap,e',hm,he,hl⟩
 have hsm:∀ fq,Same w (hot c.M0 (Hof s.h) μ) w (hot c.M0 (Hof (setE s.h id .dead)) μ) fq:=fun fq=>⟨Nat.le_refl _,fun b _ hb hh=>hb (hhot2 b hh),fun _ _ _=>rfl⟩
 have htopin:∀ k b cap e',μ k=some (.blk b cap)->Hof s.h k=some e'->e'.live=true->b∈FP k:=by
  intro k b cap e' hm he hl;obtain⟨e2,g1,g2⟩:=hW.ent k _ hm;rw[he]at g1;cases g1
  cases e' with
  | dead=>cases hl
  | box cs=>obtain⟨b',cap',us,T',hL,hfp,_⟩:=g2;cases hL;rw[hfp];simp
  | it l p m=>obtain⟨b',hL,hfp,_⟩:=g2;cases hL;rw[hfp];simp
  | byt l=>obtain⟨b',cur,T,hL,hfp,_⟩:=g2;cases hL;rw[hfp];simp
  | arr T' e' n' f'=>obtain⟨cur,us,fps,_,_,_,_,_,hfp⟩:=g2;rw[hfp];simp
 have hcold:∀ x,x∈FP id->¬ hot c.M0 (Hof (setE s.h id .dead)) μ x:=by
  intro x hx hh;rcases hhot x hh with hM|⟨k,cap,e',hk,hm,he,hl⟩
  ·have hc:=c.cold0 x hM
   rcases(hW.new id x hx).1 with h5|h5
   ·exact hc.2 h5
   ·omega
  ·exact hW.disj k id hk x (htopin k x cap e' hm he hl) hx
 let FP2:Nat->List Nat:=fun k=>if k=id then[]else FP k
 have hsub:∀ k b,b∈FP2 k->b∈FP k:=by
  intro k b hb;simp only[FP2]at hb;by_cases hk:k=id
  ·rw[if_pos hk]at hb;cases hb
  ·rw[if_neg hk]at hb;exact hb
 have hslot:Rep w (hot c.M0 (Hof (setE s.h id .dead)) μ) (.sl none e n f') μ (a.tmps.getD q undef) []:=by
  have hr:=h1 q;rw[hq]at hr;simp only[Rep]at hr ⊢;obtain⟨_,hr⟩:=hr
  cases hm:μ id with
  | none=>rw[hm]at hr;exact hr.elim
  | some L=>
   rw[hm]at hr;obtain⟨e2,g1,g2⟩:=hW.ent id L hm;rw[show Hof s.h id=nthE s.h id from rfl,hid]at g1;cases g1
   cases L with
   | nil=>
    obtain⟨_,hn,hv⟩:=hr;exact .inl ⟨hn,by rw[hv];simp[y7e],trivial⟩
   | blk b cap=>
    obtain⟨hn,o,hv,ho⟩:=hr
    have ho:o=0:=by
     rcases ho with h5|h5
     ·exact absurd rfl h5.1
     ·simpa using h5
    subst ho;have g3:=yic.mono (Map.le_refl _) (hsm _) (fun b hb=>(hW.new id b hb).2) g2;obtain⟨cur,us,fps,q1,q2,q3,q4,q5,q6⟩:=g3;have hbF:b∈FP id:=by rw[q6];simp
    refine .inr ⟨b,0,cap-0,us,fun _=>[],hv,⟨by omega,by omega⟩,(hW.new id b hbF).2,fun i hi => ?_,hcold b hbF,trivial,fun _ _=>rfl⟩;obtain⟨r1,r2,r3⟩:=q5 i (by omega);refine⟨y1b _ (hp i hi) (ycc _ _ (hx i hi) (yub (f i) (fun x hxm=>hcold x ?_) r1)),r2,by simpa using r3⟩;rw[q6];exact List.mem_cons_of_mem _ (List.mem_flatMap.2 ⟨i,List.mem_range.2 (by omega),hxm⟩)
 refine⟨μ,FP2,⟨hW.keep,hW.base,?_,?_,?_,?_,fun k b hb=>hW.new k b (hsub k b hb),?_⟩,?_,fun i => ?_,h2,h3⟩
 ·intro k L hk
  obtain⟨e2,g1,g2⟩:=hW.ent k L hk;rw[show Hof (setE s.h id .dead) k=nthE (setE s.h id .dead) k from rfl,hget];by_cases hki:k=id
  ·subst hki
   exact⟨.dead,if_pos rfl,if_pos rfl⟩
  ·have g3:=yic.mono (Map.le_refl _) (hsm _) (fun b hb=>(hW.new k b hb).2) g2
   refine⟨e2,by rw[if_neg hki];exact g1,?_⟩;rw[show FP2 k=FP k from if_neg hki];exact g3
 ·intro k hk
  by_cases hki:k=id
  ·exact if_pos hki
  ·rw[show FP2 k=FP k from if_neg hki];exact hW.out k hk
 ·intro k
  by_cases hki:k=id
  ·rw[show FP2 k=[]from if_pos hki];simp
  ·rw[show FP2 k=FP k from if_neg hki];exact hW.nodup k
 ·intro i j hij b hb hb2
  exact hW.disj i j hij b (hsub i b hb) (hsub j b hb2)
 ·intro k b cap e' hm he hli
  rw[show Hof (setE s.h id .dead) k=nthE (setE s.h id .dead) k from rfl,hget]at he;by_cases hki:k=id
  ·subst hki;rw[if_pos rfl]at he;cases he;cases hli
  ·rw[if_neg hki]at he;exact hW.top k b cap e' hm he hli
 ·intro k hk
  rw[y0]at hk;exact htl k hk
 ·rw[show get (⟨(q,.sl none e n f')::s.t,setE s.h id .dead⟩:St).t i=get ((q,.sl none e n f')::s.t) i from rfl,yn9]
  by_cases hi:i=q
  ·subst hi;rw[if_pos rfl];exact hslot
  ·rw[if_neg hi];exact Rep.mono _ (Map.le_refl _) (hsm _) (h1 i)
theorem lv1 {p:Prop} (h:p:=by(intro i hi;first|exact y3 _|exact absurd hi (Nat.not_lt_zero _)|(simp only[yz,yeb];exact y3 _)|(simp[yz,yeb,yec,simO]));first|done|fail):p:=h
theorem lv2 {p:Prop} (h:p:=by(intro i hi;rfl);first|done|fail):p:=h
end Go.Ab
namespace Go.Ab
open Go Go.Deep Go.ChangeShapes Go.WideShapes Go.ChangeAt Go.RowKit
abbrev U8:={ n:Int // 0<=n/\n<=255 }
instance:Inhabited U8:=⟨⟨0,by decide⟩⟩
theorem ygdb {P:Program} {t:TypeId} (ht:P.underlying t=some (.int .u8)):Rd P t (fun n:U8=>[.int .u8 n.1]):=by
 intro H enc W base sp hd fuel cs x h;obtain⟨n,rfl,_,hw⟩:=DataW.trod_int ht h
 have hr:0<=n/\n<=255:=by
  simp[Lit.wf]at hw
  have q1:IntKind.u8.min=0:=by decide
  have q2:IntKind.u8.max=255:=by decide
  omega
 exact⟨⟨n,hr⟩,rep1 (by simp[Rep]),by simp[Value.oneCell']⟩
theorem y80 (l:List U8):encL 1 (fun n:Int=>[.int .u8 n]) (l.map Subtype.val)=encL 1 (fun n:U8=>[.int .u8 n.1]) l:=by
 simp only[encL,List.length_map];congr 1
 funext i
 simp only[List.getD_eq_getElem?_getD,List.getElem?_map]
 cases l[i]? with
 | none=>rfl
 | some u=>rfl
theorem y7x (l:List U8):∀ v∈l.map Subtype.val,0<=v/\v<=255:=fun v hv=>by
 obtain⟨u,_,rfl⟩:=List.mem_map.1 hv;exact u.2
end Go.Ab
namespace Go.Ab
open Go
variable {H:Type} {enc:TypeId×Value->H}
theorem ysd {a : Assume} {C : Checked} {os : Os} {f : FuncId} {fn : Func} {s : ChangeSpec} {conds : List PathCond} {apart fresh handsOn again : Bool} {X : World -> Array Value -> Prop}
  (hX:∀ (w w':World) (args:Array Value),w.heap=w'.heap->X w args->X w' args)
  (own:ownKnob C.prog.godebug=none) (started:os.Started) (noInit:C.prog.inits.idxOf? f=none) (hfn:C.prog.funcs[f]? = some fn)
  (witness:∃ (w:World) (tape:Tape) (i:Input),w.os=os/\(w.forCall tape i).Shaped C.prog/\i.vars=[]/\Input.okWide C.prog (w.forCall tape i) .any w.heap.size f i /\
   ((s.pre enc C.prog fn conds apart (w.forCall tape i).memory i.args/\X (w.forCall tape i).memory i.args)/\sizedMet enc C.prog fn (OpenSpec.ofChange s) apart (w.forCall tape i).memory i.args)/\a.holds C.prog (lone (Frame.enter C.prog f i.args .normal) [] (w.forCall tape i)))
  (contract:∀ (W:World) (base:Nat) (args:Array Value) (ds gs:List (DataW H)) (before:List MemPlace),
   (∀ (j:Nat) t v,fn.params[j]? = some t->args[j]? = some v->Value.okWide C.prog W .any base t v) ->
   DataW.Whole enc C.prog fn.params.toList s.vars apart W args.toList ds gs before ->
   conds.all (PathCond.test C.prog ⟨fn.params.toList,ds,s.plain.varTypes C.prog,gs⟩)=true->X W args->W.ShapedOpen C.prog ->
   Calls C.prog f args W fun e W'=>∃ v,e=.returned v/\s.post enc C.prog fn apart fresh handsOn again W args v W') :
  ReturnsInHanded a C os f .any (fun w args=>(s.pre enc C.prog fn conds apart w args/\X w args)/\sizedMet enc C.prog fn (OpenSpec.ofChange s) apart w args) (s.post enc C.prog fn apart fresh handsOn again):=by
 refine returnsInHanded_of_calls own started noInit witness ?_;intro w tape i _ hsh _ hok hpre hholds;obtain⟨_,_,_,fn',hfn',_,_,_,_,hval⟩:=hok;have e:fn'=fn:=Option.some.inj (hfn'.symm.trans hfn);subst e;obtain⟨⟨⟨ds,gs,before,hw,hc⟩,hx⟩,hz⟩:=hpre;have hw':=DataW.Whole.of_heap (w':=w.forCall tape i) (by rfl) hw;refine(contract (w.forCall tape i) w.heap.size i.args ds gs before hval hw' hc (hX _ _ _ (by rfl) hx) hsh).mono fun e W' ⟨v,he,hp⟩ => ?_
 subst he;exact ChangeSpec.post_blind hp
theorem y6h {P : Program} {W : World} {name nm : String} {d : DataW Unit} {rest : List (String × DataW Unit)} {g : Nat} {ti : TypeId} {ms : Array (String × TypeId)}
  (h:laidMet P ((name,.iface nm d)::rest) W) (hg:P.globalNamed name=some g) (ht:(P.globals[g]?).map (·.type)=some ti) (hi:P.underlying ti=some (.interface ms)) :
  ∃ te pe,W.cell? ⟨g,0,none⟩=some (.iface te pe):=by
 obtain⟨ps,⟨g0,t0,cs0,f0,p0,q0,hg0,ht0,hv0,hd0,_⟩,_⟩:=h;obtain rfl:=Option.some.inj (hg.symm.trans hg0);obtain rfl:=Option.some.inj (ht.symm.trans ht0);obtain⟨f1,u,v,e,_,_⟩:=iface_of_trod hi hd0;exact⟨u,v,by have:=World.var?_cell hg0 hv0 0;obtain⟨l0⟩:=cs0;simp only at e;subst e;simpa using this⟩
end Go.Ab
