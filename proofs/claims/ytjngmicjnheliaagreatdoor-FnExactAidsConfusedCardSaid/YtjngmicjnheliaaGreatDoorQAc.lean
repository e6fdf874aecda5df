/- A part of a proof: walks of functions and lemmas of our own. No conditions. -/
import Derived.Test.YtjngmicjnheliaaGreatDoorQAb
import Derived.Lib.OthersKept
set_option linter.unusedSectionVars false
set_option linter.unusedVariables false
set_option linter.unusedSimpArgs false
namespace Go.Ab
open Go
variable [Inv]
theorem y4m {l:List Nat} {f g:Nat->List Nat} (h:∀ i,i∈l->(g i).Sublist (f i)):(l.flatMap g).Sublist (l.flatMap f):=by
 induction l with
 | nil=>simp
 | cons a l ih=>
  rw[List.flatMap_cons,List.flatMap_cons];exact(h a (by simp)).append (ih fun i hi=>h i (by simp[hi]))
theorem yif {vs : Nat -> List Value} {e : Nat} : ∀ (m : Nat), (∀ k, k < m -> (vs k).length = e) -> ((List.range m).flatMap vs).length = m * e
 | 0,_=>by simp
 | m+1,h=>by
  rw[List.range_succ,List.flatMap_append,List.length_append,yif m (fun k hk=>h k (by omega))];simp[h m (by omega),Nat.add_mul]
theorem yck {vs : Nat -> List Value} {e : Nat} : ∀ (m : Nat), (∀ k, k < m -> (vs k).length = e) -> ∀ k j, k < m -> j < e -> ((List.range m).flatMap vs)[k * e + j]? = (vs k)[j]?
 | 0,_,k,j,hk,_=>by omega
 | m+1,h,k,j,hk,hj=>by
  rw[List.range_succ,List.flatMap_append];have hl:=yif (vs:=vs) m (fun k hk=>h k (by omega));by_cases hkm:k<m
  ·have:(k+1) * e<=m * e:=Nat.mul_le_mul_right _ hkm
   rw[Nat.add_mul,Nat.one_mul]at this;rw[List.getElem?_append_left (by rw[hl];omega)];exact yck m (fun k hk=>h k (by omega)) k j hkm hj
  ·have:k=m:=by omega
   subst this;rw[List.getElem?_append_right (by rw[hl];omega),hl,Nat.add_sub_cancel_left];simp
section
variable {P:Program} {Γ:Env} {c:Ctx} {μ:Map} {FP:Nat->List Nat} {w:World}
theorem WR.seg {h : List Ent} (hW : WR c (Hof h) μ FP w) {id b cap off m T e n : Nat} {f g : Nat -> List AV} {vs : Nat -> List Value} {cur : Array Value} (hm : μ id = some (.blk b cap)) (hid : nthE h id = some (.arr T e n f))
  (hh:w.heap[b]? = some (.cells cur T (0,0))) (hfit:off+m<=n) (hg:∀ k,k<m->RepL w (hot c.M0 (Hof h) μ) (g k) μ (vs k) []/\(vs k).length=e/\∀ u∈vs k,u.oneCell'=true) :
  ∃ fp',WR c (Hof (setE h id (.arr T e n (fun j=>bif Nat.ble off j && Nat.blt j (off+m)then g (j-off)else f j)))) μ (updF FP id fp') (w.setRow b (putV (off * e) ((List.range m).flatMap vs) cur.toList).toArray) /\
   Trans c.M0 (Hof h) μ w (Hof (setE h id (.arr T e n (fun j=>bif Nat.ble off j && Nat.blt j (off+m)then g (j-off)else f j)))) μ (w.setRow b (putV (off * e) ((List.range m).flatMap vs) cur.toList).toArray):=by
 obtain⟨ent,he,hok⟩:=hW.ent id _ hm;have he2:Hof h id=some (.arr T e n f):=hid;rw[he2]at he;cases he;obtain⟨cur',us,fps,hh',h3,h4,h5,hcl,hF⟩:=hok;rw[hh]at hh';cases hh';have hnd:=hW.nodup id;rw[hF]at hnd
 have hsub:((List.range n).flatMap fun j=>if off<=j/\j<off+m then[]else fps j).Sublist ((List.range n).flatMap fps):=by
  refine y4m fun i _ => ?_
  split
  ·simp
  ·exact List.Sublist.refl _
 have hvl:=yif (vs:=vs) m (fun k hk=>(hg k hk).2.1)
 have hsz:off * e+m * e<=cur.size:=by
  rw[h3, <- Nat.add_mul];exact Nat.mul_le_mul_right _ (by omega)
 refine⟨b::(List.range n).flatMap fun j=>if off<=j/\j<off+m then[]else fps j,?_⟩;refine hW.write (Free.nil _ _ _) hm hid rfl _ (e':=.arr T e n (fun j=>bif Nat.ble off j && Nat.blt j (off+m)then g (j-off)else f j)) ?_ ?_ ?_
 ·intro y hy
  left
  rw[hF];rcases List.mem_cons.1 hy with rfl|hy
  ·simp
  ·exact List.mem_cons_of_mem _ (hsub.subset hy)
 ·exact(List.Sublist.cons_cons b hsub).nodup hnd
 ·intro M' hs
  refine⟨_,fun j=>if off<=j/\j<off+m then vs (j-off)else us j,fun j=>if off<=j/\j<off+m then[]else fps j,setRow_heap w b _ _ T (0,0) hh,by simp[y2b,h3],h4,h5,?_,rfl⟩;intro j hj
  have hcell:∀ q,q<e->(w.setRow b (putV (off * e) ((List.range m).flatMap vs) cur.toList).toArray).cell? ⟨b,j * e+q,none⟩=if off<=j/\j<off+m then(vs (j-off))[q]? else w.cell? ⟨b,j * e+q,none⟩:=by
   intro q hq;rw[cell_of_row _ _ _ _ _ _ (setRow_heap w b _ _ T (0,0) hh),cell_of_row _ _ _ _ _ _ hh];simp only[List.getElem?_toArray,yvb,hvl];have hjc:(j+1) * e<=cap * e:=Nat.mul_le_mul_right _ (by omega);rw[Nat.add_mul,Nat.one_mul]at hjc;by_cases hin:off<=j/\j<off+m
   ·have e1:j * e=off * e+(j-off) * e:=by rw[<- Nat.add_mul];congr 1;omega
    have e2:(j-off+1) * e<=m * e:=Nat.mul_le_mul_right _ (by omega);rw[Nat.add_mul,Nat.one_mul]at e2;rw[if_pos hin,if_pos ⟨by omega,by omega,by rw[Array.length_toList,h3];omega⟩];rw[e1,Nat.add_assoc,Nat.add_sub_cancel_left];exact yck m (fun k hk=>(hg k hk).2.1) (j-off) q (by omega) hq
   ·rw[if_neg hin,if_neg]
    ·simp
    ·rintro⟨g1,g2,_⟩
     apply hin;constructor
     ·refine Nat.le_of_not_lt fun hlt => ?_
      have:(j+1) * e<=off * e:=Nat.mul_le_mul_right _ hlt;rw[Nat.add_mul,Nat.one_mul]at this;omega
     ·refine Nat.lt_of_not_le fun hle => ?_
      have:(off+m) * e<=j * e:=Nat.mul_le_mul_right _ hle;rw[Nat.add_mul]at this;omega
  by_cases hin:off<=j/\j<off+m
  ·have hb1:(Nat.ble off j && Nat.blt j (off+m))=true:=by simp only[Bool.and_eq_true,Nat.ble_eq,Nat.blt_eq];exact hin
   simp only[hb1,cond_true,if_pos hin];obtain⟨q1,q2,q3⟩:=hg (j-off) (by omega);refine⟨RepL.mono _ (Map.le_refl _) (hs [] (by simp)) q1,q2,?_⟩;intro q u hu;have hq:q<e:=by rw[<- q2];exact(List.getElem?_eq_some_iff.1 hu).1
   rw[hcell q hq,if_pos hin];exact⟨hu,q3 u (List.mem_of_getElem? hu)⟩
  ·have hb1:(Nat.ble off j && Nat.blt j (off+m))=false:=by
    rw[Bool.eq_false_iff];intro hb;simp only[Bool.and_eq_true,Nat.ble_eq,Nat.blt_eq]at hb;exact hin hb
   simp only[hb1,cond_false,if_neg hin];obtain⟨d1,d2,d3⟩:=hcl j hj
   have hbj:b∉fps j:=by
    intro hb;rw[List.nodup_cons]at hnd;exact hnd.1 (List.mem_flatMap.2 ⟨j,List.mem_range.2 hj,hb⟩)
   refine⟨RepL.mono _ (Map.le_refl _) (hs (fps j) hbj) d1,d2,?_⟩;intro q u hu;have hq:q<e:=by rw[<- d2];exact(List.getElem?_eq_some_iff.1 hu).1
   rw[hcell q hq,if_neg hin];exact d3 q u hu
def clearA (Γ:Env) (h:List Ent) (t:TypeId) (x:AV):NewR:=
  match tget Γ t with
  | some j => match j.ti with
    | .slice et => match tget Γ et with
      | some k => match k.ones, absL h k.zero with
        | true,some (ys,_,[])=>if k.zero.length=k.size/\0<k.size then
            match x with
            | .ref id e off n => match nthE h id with
              | some (.arr T e' n' f)=>if e=e'/\e=k.size then some (.any,setE h id (.arr T e n' (fun j=>bif Nat.ble off j && Nat.blt j (off+n)then ys else f j)),[off+n<=n'])else none
              | _=>none
            | .nils=>some (.any,h,[])
            | _=>none
          else none
        | _,_=>none
      | none=>none
    | _=>none
  | none=>none
theorem ybm {z:Array Value} {n e:Nat} (hz:z.size=e):(Builtin.zeroCells z n).toList=(List.range n).flatMap fun _=>z.toList:=by
 subst hz;apply List.ext_getElem?;intro i;have hl:=yif (vs:=fun _=>z.toList) (e:=z.size) n (fun _ _=>by simp);by_cases hi:i<n * z.size
 ·have hpos:0<z.size:=by
   rcases Nat.eq_zero_or_pos z.size with h|h
   ·rw[h]at hi;simp at hi
   ·exact h
  have e1:i=(i / z.size) * z.size+i % z.size:=by rw[Nat.mul_comm];exact(Nat.div_add_mod i z.size).symm
  have hlt:i / z.size<n:=(Nat.div_lt_iff_lt_mul hpos).2 hi;have hmod:=Nat.mod_lt i hpos;have h2:=yck (vs:=fun _=>z.toList) (e:=z.size) n (fun _ _=>by simp) (i / z.size) (i % z.size) hlt hmod;rw[<- e1]at h2;rw[h2];simp[Builtin.zeroCells,hi,hmod]
 ·rw[List.getElem?_eq_none (by simp[Builtin.zeroCells];omega),List.getElem?_eq_none (by rw[hl];omega)]
theorem yjk (hΓ : TyOk P Γ) {h h' : List Ent} {t ty : TypeId} {x r : AV} {vx : Value} {obl : List Prop} (hW : WR c (Hof h) μ FP w) (hd : Tail h μ)
  (hb:clearA Γ h t x=some (r,h',obl)) (ho:allP obl) (hx:Rep w (hot c.M0 (Hof h) μ) x μ vx []) :
  ∃ z μ' w',(Builtin.clear_ #[t] ty #[vx]).run P w=.ok z w'/\Next1 c h μ w h' μ' w'/\Rep w' (hot c.M0 (Hof h') μ') r μ' z []:=by
 unfold clearA at hb;split at hb
 ·rename_i j ht
  obtain⟨inf,d,hinf,hdd,hti,_⟩:=yi (hΓ.get ht);split at hb
  ·rename_i et hk
   rw[hk]at hti;have:=ytb hti;subst this
   cases het:tget Γ et with
   | none=>simp[het]at hb
   | some k=>
    obtain⟨inf2,d2,hinf2,hd2,hti2,hsz2,hby2,hzero2,hones2⟩:=yi (hΓ.get het);simp only[het]at hb;split at hb
    ·rename_i ys h0 hall habs
     split at hb
     ·rename_i hlen
      have hav:∀ x∈k.zero,∃ v,x=avOf v:=by
       intro x hx;rw[hzero2]at hx;obtain⟨v,_,rfl⟩:=List.mem_map.1 hx;exact⟨v,rfl⟩
      obtain⟨rfl,rfl⟩:=yeh hav habs
      cases hz:inf2.zero with
      | none=>rw[hones2,hz]at hall;simp at hall
      | some z=>
       have hr:=yhf (M:=hot c.M0 (Hof h0) μ) (μ:=μ) (w:=w) (hΓ.get het) hinf2 hz
       have hone:∀ u∈z.cells.toList,u.oneCell'=true:=by
        rw[hones2,hz]at hall;simp only[Option.map_some,Option.getD_some,List.all_eq_true]at hall;exact hall
       have hzs:z.cells.size=k.size:=by rw[<- hlen.1, <- hr.length];simp
       split at hb
       ·rename_i id e off n
        split at hb
        ·rename_i T e' n' f hid
         split at hb
         ·rename_i hee
          obtain⟨rfl,rfl⟩:=hee;simp only[Option.some.injEq,Prod.mk.injEq]at hb;obtain⟨rfl,rfl,rfl⟩:=hb;have hle:=ho.1;simp only[Rep]at hx;obtain⟨_,hx⟩:=hx
          cases hm:μ id with
          | none=>simp[hm]at hx
          | some L=>
           cases L with
           | nil=>
            simp only[hm]at hx;obtain⟨rfl,rfl,rfl⟩:=hx;have hsame:∀ j,(bif Nat.ble 0 j && Nat.blt j (0+0)then k.zero else f j)=f j:=by intro j;simp[Nat.blt,Nat.ble]
            simp only[hsame]
            have hset:setE h0 id (.arr T k.size n' f)=h0:=by
             have:∀ (l:List Ent) (i:Nat) (e:Ent),nthE l i=some e->setE l i e=l:=by
              intro l
              induction l with
              | nil=>intro i e h;simp[nthE]at h
              | cons y l ih=>
               intro i e h
               cases i with
               | zero=>simp[nthE]at h;simp[setE,h]
               | succ i=>simp only[setE];rw[ih i e (by simpa [nthE]using h)]
             exact this _ _ _ hid
            rw[hset];exact⟨.tuple #[],μ,w,by simp[Builtin.clear_,run_underlying hdd],⟨⟨FP,hW⟩,hd,Trans.refl _ _ _ _⟩,by simp[Rep]⟩
           | blk b cap=>
            simp only[hm]at hx;obtain⟨hcap,o,rfl,hoo⟩:=hx;obtain⟨ent,he,hok⟩:=hW.ent id _ hm;have he2:Hof h0 id=some (.arr T k.size n' f):=hid;rw[he2]at he;cases he;obtain⟨cur,us,fps,hh,h3,h4,h5,hcl,hF⟩:=hok;obtain⟨fp',q1,q2⟩:=hW.seg hm hid hh hle (g:=fun _=>k.zero) (vs:=fun _=>z.cells.toList) (fun _ _=>⟨hr,by simpa using hzs,hone⟩);by_cases hn0:n=0
            ·subst hn0
             have hrow:(putV (off * k.size) ((List.range 0).flatMap fun _=>z.cells.toList) cur.toList).toArray=cur:=by
              apply Array.ext';apply List.ext_getElem?;intro q;simp[yvb]
              intro h6 h7;omega
             rw[hrow,setRow_self w b cur T (0,0) hh]at q1 q2;exact⟨.tuple #[],μ,w,by simp[Builtin.clear_,run_underlying hdd],⟨⟨_,q1⟩,fun i hi=>hd i (by rw[yy]at hi;exact hi),q2⟩,by simp[Rep]⟩
            ·have ho2:o=off * k.size:=by
              rcases hoo with h6|h6
              ·omega
              ·exact h6
             subst ho2;have hvl:=yif (vs:=fun _=>z.cells.toList) (e:=k.size) n (fun _ _=>by simpa using hzs)
             have hfit:off * k.size+0+((List.range n).flatMap fun _=>z.cells.toList).length<=cur.size:=by
              rw[hvl,h3,Nat.add_zero, <- Nat.add_mul];exact Nat.mul_le_mul_right _ (by omega)
             have hst:=run_storeCells_at P b (off * k.size) T ((List.range n).flatMap fun _=>z.cells.toList) 0 cur w hh hfit (by
              intro v hv;obtain⟨_,_,hv⟩:=List.mem_flatMap.1 hv
              exact hone v hv)
             simp only[Nat.add_zero]at hst hfit;rw[y5e _ _ _ (by simpa using hfit)]at hst;obtain⟨n1,rfl⟩:∃ n1,n=n1+1:=⟨n-1,by omega⟩
             refine⟨.tuple #[],μ,_,?_,⟨⟨_,q1⟩,fun i hi=>hd i (by rw[yy]at hi;exact hi),q2⟩,by simp[Rep]⟩
             have hzv:(zeroValue et).run P w=.ok z w:=by
              simp[zeroValue,typeInfo,hinf2,hz]
             simp only[Builtin.clear_,Sem.run_bind,run_underlying hdd,Result.andThen_ok,List.getElem?_toArray,List.getElem?_cons_zero,hzv,Sem.run_pure];rw[ybm hzs];erw [hst]
             rfl
         ·simp at hb
        ·simp at hb
       ·simp only[Option.some.injEq,Prod.mk.injEq]at hb
        obtain⟨rfl,rfl,rfl⟩:=hb;simp only[Rep]at hx;obtain⟨rfl,_⟩:=hx;exact⟨.tuple #[],μ,w,by simp[Builtin.clear_,run_underlying hdd],⟨⟨FP,hW⟩,hd,Trans.refl _ _ _ _⟩,by simp[Rep]⟩
       ·simp at hb
     ·simp at hb
    ·simp at hb
  ·simp at hb
 ·simp at hb
end
end Go.Ab
namespace Go.Ab
open Go
variable [Inv]
section
variable {P:Program} {Γ:Env} {c:Ctx} {μ:Map} {FP:Nat->List Nat} {w:World} {R:List Nat}
theorem y7m {h h':List Ent} {x r:AV} {v:Value} {obl:List Prop} (hW:WR c (Hof h) μ FP w) (hd:Tail h μ) (hb:nextA h x=some (r,h',obl)) (hx:Rep w (hot c.M0 (Hof h) μ) x μ v []) (ty:TypeId) :
  ∃ z w',(Instr.next v true ty).run P w=.ok z w'/\Next1 c h μ w h' μ w'/\Rep w' (hot c.M0 (Hof h') μ) r μ z []:=by
 unfold nextA at hb;split at hb
 ·rename_i id
  simp only[Rep]at hx;obtain⟨_,b,cap,hm,rfl⟩:=hx;obtain⟨e,he,hok⟩:=hW.ent id _ hm;split at hb
  ·rename_i l p hid
   simp only[Option.some.injEq,Prod.mk.injEq]at hb;obtain⟨rfl,rfl,rfl⟩:=hb;have he2:Hof h id=some (.it l p true):=hid;rw[he2]at he;cases he;obtain⟨b',h1,h2,hh,hmore,hasc,hlen⟩:=hok;cases h1
   have hp:p<l.length:=of_decide_eq_true hmore.symm;have hps:p<(⟨l.toArray⟩:ByteArray).size:=by simpa [ByteArray.size]using hp
   have hget:(⟨l.toArray⟩:ByteArray)[p]'hps=l.getD p 0:=by
    simp[ByteArray.getElem_eq_getElem_data,List.getD,List.getElem?_eq_getElem hp]
   have hax:((⟨l.toArray⟩:ByteArray)[p]'hps).toNat<128:=by
    rw[hget];refine hasc _ ?_;rw[List.getD_eq_getElem?_getD,List.getElem?_eq_getElem hp];simp
   have hrun:=Lib.run_next_ascii_at (P:=P) w b ⟨l.toArray⟩ p ty hh hps hax;rw[hget]at hrun;refine⟨_,_,hrun,?_,?_⟩
   ·obtain ⟨q1, q2⟩ := WR.writeW (w' := w.iterAt b ⟨l.toArray⟩ (p + 1)) hW (Free.nil _ _ _) hm hid rfl rfl rfl rfl (Lib.iterAt_size _ _ _ _) (fun x hx => Lib.iterAt_other w b x _ _ hx) (e' := .it l (p + 1) (decide (p + 1 < l.length))) (fp' := [b]) (by intro y hy; rw [h2]; exact .inl hy) (by simp)
     (fun M' hs=>⟨b,rfl,rfl,Lib.iterAt_heap w b _ p _ hh,rfl,hasc,hlen⟩)
    exact⟨⟨_,q1⟩,fun i hi=>hd i (by rw[yy]at hi;exact hi),q2⟩
   ·simp only[Rep]
    refine⟨_,rfl,?_⟩;simp only[RepL];exact⟨_,_,[],[],rfl,rfl,ybc _,_,_,[],[],rfl,rfl,yib _ _,_,_,[],[],rfl,rfl,yib _ _,rfl,rfl⟩
  ·rename_i l p hid
   simp only[Option.some.injEq,Prod.mk.injEq]at hb;obtain⟨rfl,rfl,rfl⟩:=hb;have he2:Hof h id=some (.it l p false):=hid;rw[he2]at he;cases he;obtain⟨b',h1,h2,hh,hmore,hasc,hlen⟩:=hok;cases h1
   have hp:¬ p<l.length:=of_decide_eq_false hmore.symm;have hps:¬ p<(⟨l.toArray⟩:ByteArray).size:=by simpa [ByteArray.size]using hp
   refine⟨_,w,Lib.run_next_end_at (P:=P) w b ⟨l.toArray⟩ p ty hh hps,⟨⟨_,hW⟩,hd,Trans.refl _ _ _ _⟩,?_⟩;simp only[Rep];refine⟨_,rfl,?_⟩;simp only[RepL];exact⟨_,_,[],[],rfl,rfl,ybc _,rfl,rfl⟩
  ·simp at hb
 ·simp at hb
end
end Go.Ab
namespace Go.Ab
open Go
variable [Inv]
structure AppOut (w w':World) (et:TypeId) (e n m:Nat) (ob:Option Nat) (old news:List Value) (b' cap':Nat) (cur':Array Value):Prop where
 os:w'.os=w.os
 tape:w'.tape=w.tape
 output:w'.output=w.output
 size:w.heap.size<=w'.heap.size
 other:∀ k,k<w.heap.size->k≠b'->w'.heap[k]? = w.heap[k]?
 row:w'.heap[b']? = some (.cells cur' et (0,0))
 len:cur'.size=cap' * e
 fit:n+m<=cap'
 big:cap'<=maxLen
 olds:∀ j,j<n * e->cur'[j]? = old[j]?
 adds:∀ j,j<m * e->cur'[n * e+j]? = news[j]?
 place:ob=some b'\/b'=w.heap.size
theorem ycr {w : World} {et : TypeId} {e n m : Nat} {ob : Option Nat} {old news : List Value} {z : Value} {cap' : Nat} (hz : z.cells.size = e) (ho : old.length = n * e) (hn : news.length = m * e)
  (hfit:n+m<=cap') (hbig:cap'<=maxLen) :
  AppOut w (w.drew.alloc (.cells (old.toArray++news.toArray++Builtin.zeroCells z.cells (cap'-(n+m))) et)) et e n m ob old news w.heap.size cap' (old.toArray++news.toArray++Builtin.zeroCells z.cells (cap'-(n+m))):=by
 refine⟨rfl,rfl,rfl,?_,?_,?_,?_,hfit,hbig,?_,?_,.inr rfl⟩
 ·simp
 ·intro k hk _
  show((w.drew).heap.push _)[k]? = _;rw[Array.getElem?_push,if_neg (by simp;omega)];rfl
 ·exact heap_alloc_new w.drew _
 ·simp only[Array.size_append,List.size_toArray,size_zeroCells,hz,ho,hn, <- Nat.add_mul]
  congr 1;omega
 ·intro j hj
  rw[Array.getElem?_append_left (by simp;omega),Array.getElem?_append_left (by simp;omega)];simp
 ·intro j hj
  rw[Array.getElem?_append_left (by simp;omega),Array.getElem?_append_right (by simp;omega)];simp[ho]
theorem y9p {P : Program} {w : World} {t ty et : TypeId} {i : TypeInfo} {z : Value} {e bytes : Nat} (ht : P.underlying t = some (.slice et)) (hi : P.info? et = some i) (hz : i.zero = some z)
  (hsz:i.size=e) (hby:i.bytes=bytes) (hzs:z.cells.size=e)
  {v y:Value} {n m:Nat} {old news:List Value} (ho:old.length=n * e) (hn:news.length=m * e) (h1:∀ u∈news,u.oneCell'=true)
  (hv:(v=.slice none 0 0/\n=0)\/∃ b cap cur,v=.slice (some ⟨b,0,none⟩) n cap/\w.heap[b]? = some (.cells cur et (0,0))/\cur.size=cap * e/\n<=cap/\cap<=maxLen/\∀ j,j<n * e->cur[j]? = old[j]?)
  (hy:(y=.slice none 0 0/\m=0)\/∃ a cp,y=.slice (some a) m cp/\∀ j u,news[j]? = some u->w.cell? (a.add j)=some u)
  (hbytes:(n+m) * bytes<=140737488355328) (hbig:n+m<=140737488355328) :
  ∃ v' w',(Builtin.append_ #[t,t] ty #[v,y]).run P w=.ok v' w' /\
   ((v'=.slice none 0 0/\n+m=0/\w'=w/\v=.slice none 0 0)\/∃ b' cap' cur',v'=.slice (some ⟨b',0,none⟩) (n+m) cap'/\AppOut w w' et e n m v.ownBlock old news b' cap' cur'):=by
 subst hsz;subst hby;have hmax:n+m<=maxLen:=by simp only[maxLen];omega
 have h63:((n+m:Nat):Int)<=9223372036854775807:=by omega
 rcases hv with⟨rfl,rfl⟩|⟨b,cap,cur,rfl,hb,hcs,hnc,hcm,hco⟩
 ·have hold:old=[]:=List.eq_nil_of_length_eq_zero (by simpa using ho)
  subst hold;rcases hy with⟨rfl,rfl⟩|⟨a,cp,rfl,hnews⟩
  ·refine⟨.slice none 0 0,w,?_,.inl ⟨rfl,rfl,rfl,rfl⟩⟩
   simp[Builtin.append_,run_underlying ht,sizeOf,typeInfo,hi,Builtin.lenOf,Builtin.firstCells]
  ·by_cases hm:m=0
   ·subst hm
    refine⟨.slice none 0 0,w,?_,.inl ⟨rfl,rfl,rfl,rfl⟩⟩;simp[Builtin.append_,run_underlying ht,sizeOf,typeInfo,hi,Builtin.lenOf,Builtin.firstCells,loadCells,loadCellsFrom]
   ·have hr:=run_append_nil (P:=P) w t ty et i z ht hi hz a m cp news hn hnews (by omega) (by omega) (by simp only[Nat.zero_add]at hbytes;omega)
    have hge:=grownCap_ge w m 0 et;refine⟨_,_,hr,.inr ⟨w.heap.size,grownCap w m 0 et,news.toArray++Builtin.zeroCells z.cells (grownCap w m 0 et-m),by simp,?_⟩⟩;have:=ycr (w:=w) (et:=et) (n:=0) (m:=m) (ob:=Value.ownBlock (.slice none 0 0)) (old:=[]) (cap':=grownCap w m 0 et) hzs (by simp) hn (by omega) (grownCap_le_maxLen w m 0 et (by omega));simpa using this
 ·have holds:∀ j u,old[j]? = some u->w.cell? ((⟨b,0,none⟩:Addr).add j)=some u:=by
   intro j u hu;have hj:j<n * i.size:=by rw[<- ho];exact(List.getElem?_eq_some_iff.1 hu).1
   rw[Addr.add_lit,Nat.zero_add,cell_of_row w b j cur et (0,0) hb,hco j hj];exact hu
  have hcl:n * i.size<=cur.size:=by rw[hcs];exact Nat.mul_le_mul_right _ hnc
  rcases hy with⟨rfl,rfl⟩|⟨a,cp,rfl,hnews⟩
  ·refine⟨.slice (some ⟨b,0,none⟩) n cap,w,?_,.inr ⟨b,cap,cur,rfl,rfl,rfl,rfl,Nat.le_refl _,fun _ _ _=>rfl,hb,hcs,hnc,hcm,hco,by simp,.inl rfl⟩⟩
   simp[Builtin.append_,run_underlying ht,sizeOf,typeInfo,hi,Builtin.lenOf,Builtin.firstCells,hnc,storeCells]
  ·by_cases hroom:n+m<=cap
   ·have hfit:n * i.size+news.length<=cur.size:=by rw[hn,hcs, <- Nat.add_mul];exact Nat.mul_le_mul_right _ hroom
    have hr:=run_append_room (P:=P) w t ty et i ht hi b n cap cur hb a m cp news hn hnews h1 hroom hfit;rw[y5e (n * i.size) news cur.toList (by simpa using hfit)]at hr;refine⟨_,_,hr,.inr ⟨b,cap,(putV (n * i.size) news cur.toList).toArray,rfl,rfl,rfl,rfl,by simp,fun k _ hk=>setRow_other w b k _ hk,setRow_heap w b _ _ et (0,0) hb,by simp[y2b,hcs],hroom,hcm,?_,?_,.inl rfl⟩⟩
    ·intro j hj
     simp only[List.getElem?_toArray,yvb];rw[if_neg (by omega)];simpa using hco j hj
    ·intro j hj
     simp only[List.getElem?_toArray,yvb];rw[if_pos (by simp only[Array.length_toList];omega)];congr 1;omega
   ·have hr:=run_append_grow (P:=P) w t ty et i z ht hi hz ⟨b,0,none⟩ n cap old ho holds a m cp news hn hnews (by omega) h63 (growslice_fits (by omega) hbytes)
    have hge:=grownCap_ge w (n+m) cap et;exact⟨_,_,hr,.inr ⟨w.heap.size,grownCap w (n+m) cap et,_,rfl,ycr hzs ho hn hge (grownCap_le_maxLen w (n+m) cap et hmax)⟩⟩
end Go.Ab
namespace Go.Ab
open Go
variable [Inv]
def killO (h : List Ent) : Option Nat -> List Ent
 | none=>h
 | some id=>setE h id .dead
def killF (FP : Nat -> List Nat) : Option Nat -> Nat -> List Nat
 | none=>FP
 | some id=>updF FP id []
def joinF (n:Nat) (f g:Nat->List AV):Nat->List AV:=fun i=>bif Nat.blt i n then f i else g (i-n)
section
variable {P:Program} {Γ:Env} {c:Ctx} {μ:Map} {FP:Nat->List Nat} {w:World} {R:List Nat}
theorem yhr (h:List Ent) (b:Option Nat) (j:Nat) (hj:b≠some j):nthE (killO h b) j=nthE h j:=by
 cases b with
 | none=>rfl
 | some id=>
  simp only[killO,yv];rw[if_neg];rintro⟨rfl,_⟩
  exact hj rfl
theorem yuc (h:List Ent) (b:Option Nat):(killO h b).length=h.length:=by
 cases b with
 | none=>rfl
 | some id=>exact yy _ _ _
theorem y5c (FP:Nat->List Nat) (b:Option Nat) (j:Nat):killF FP b j=if b=some j then[]else FP j:=by
 cases b with
 | none=>simp[killF]
 | some id=>
  simp only[killF,updF,Option.some.injEq];by_cases h:j=id
  ·rw[if_pos h,if_pos h.symm]
  ·rw[if_neg h,if_neg (fun e=>h e.symm)]
theorem y1b {α : Type} {us : Nat -> List α} {e : Nat} : ∀ {n : Nat}, (∀ i, i < n -> (us i).length = e) -> ((List.range n).flatMap us).length = n * e
 | 0,_=>by simp
 | n+1,h=>by
  rw[List.range_succ,List.flatMap_append,List.length_append,y1b (fun i hi=>h i (by omega))];simp[h n (by omega),Nat.add_mul]
theorem yhc {α : Type} {us : Nat -> List α} {e : Nat} : ∀ {n i k : Nat}, (∀ i, i < n -> (us i).length = e) -> i < n -> k < e -> ((List.range n).flatMap us)[i * e + k]? = (us i)[k]?
 | 0,i,k,_,hi,_=>by omega
 | n+1,i,k,h,hi,hk=>by
  rw[List.range_succ,List.flatMap_append];have hl:=y1b (n:=n) (fun i hi=>h i (by omega));by_cases hin:i<n
  ·have:(i+1) * e<=n * e:=Nat.mul_le_mul_right _ hin
   rw[Nat.add_mul,Nat.one_mul]at this;rw[List.getElem?_append_left (by omega)];exact yhc (fun i hi=>h i (by omega)) hin hk
  ·have hi2:i=n:=by omega
   subst hi2;rw[List.getElem?_append_right (by omega),hl];simp
theorem yvc {α β : Type} {f g : α -> List β} : ∀ {l : List α}, (∀ x, x ∈ l -> f x = g x) -> l.flatMap f = l.flatMap g
 | [],_=>rfl
 | x::l,h=>by
  rw[List.flatMap_cons,List.flatMap_cons,h x (by simp),yvc (fun y hy=>h y (by simp[hy]))]
theorem ydl {α:Type} (f g:Nat->List α) (n m:Nat):(List.range (n+m)).flatMap (fun i=>if i<n then f i else g (i-n))=(List.range n).flatMap f++(List.range m).flatMap g:=by
 rw[List.range_add,List.flatMap_append,List.flatMap_map];congr 1
 ·apply yvc
  intro i hi;rw[if_pos (List.mem_range.1 hi)]
 ·apply yvc
  intro i _;rw[if_neg (by omega)];congr 1;omega
structure Elts (w:World) (M:Nat->Prop) (μ:Map) (e n:Nat) (f:Nat->List AV) (us:Nat->List Value) (fps:Nat->List Nat):Prop where
 rep:∀ i,i<n->RepL w M (f i) μ (us i) (fps i)
 len:∀ i,i<n->(us i).length=e
 one:∀ i,i<n->∀ u∈us i,u.oneCell'=true
theorem yps {h : List Ent} (hW : WR c (Hof h) μ FP w) (hR : Free c FP w R) (hd : Tail h μ) {base : Option Nat} {et : TypeId} {e n m : Nat} {f g : Nat -> List AV} {us us2 : Nat -> List Value} {fps fps2 : Nat -> List Nat}
  {ob:Option Nat} (hbase:∀ id,base=some id->∃ e0,nthE h id=some e0/\e0.live=true)
  (hob:∀ b,ob=some b->∃ id cap,base=some id/\μ id=some (.blk b cap)/\FP id=b::(FP id).tail)
  (hf:Elts w (hot c.M0 (Hof h) μ) μ e n f us fps) (hg:Elts w (hot c.M0 (Hof h) μ) μ e m g us2 fps2)
  (hfp1:∀ b,b∈(List.range n).flatMap fps->∃ id,base=some id/\b∈(FP id).tail) (hnd1:((List.range n).flatMap fps).Nodup)
  (hfp2:∀ b,b∈(List.range m).flatMap fps2->b∈R) (hnd2:((List.range m).flatMap fps2).Nodup)
  {w':World} {v':Value}
  (hout:(v'=.slice none 0 0/\n+m=0/\w'=w)\/∃ b' cap' cur',v'=.slice (some ⟨b',0,none⟩) (n+m) cap'/\AppOut w w' et e n m ob ((List.range n).flatMap us) ((List.range m).flatMap us2) b' cap' cur') :
  ∃ μ',Next1 c h μ w (killO h base++[.arr et e (n+m) (joinF n f g)]) μ' w'/\Rep w' (hot c.M0 (Hof (killO h base++[.arr et e (n+m) (joinF n f g)])) μ') (.ref h.length e 0 (n+m)) μ' v' []:=by
 generalize hh2:killO h base++[.arr et e (n+m) (joinF n f g)]=h2;have hnone:μ h.length=none:=hd _ (Nat.le_refl _);have hbl:∀ id,base=some id->id<h.length:=fun id hb=>by obtain⟨e0,he,_⟩:=hbase id hb;exact ymc he
 have hget:∀ j,base≠some j->j≠h.length->Hof h2 j=Hof h j:=by
  intro j hj hj2;subst hh2;simp only[Hof,yoc,yuc];rw[if_neg hj2,yhr h base j hj]
 have hgetD:∀ id,base=some id->Hof h2 id=some .dead:=by
  intro id hb;have:=hbl id hb;subst hh2;simp only[Hof,yoc,yuc];rw[if_neg (by omega),hb];simp[killO,yv,this]
 have hgetN:Hof h2 h.length=some (.arr et e (n+m) (joinF n f g)):=by
  subst hh2;simp only[Hof,yoc,yuc,if_true]
 have hlen2:h2.length=h.length+1:=by subst hh2;simp[yuc]
 have hleU:∀ L,μ.le (updM μ h.length L):=by
  intro L i L' hi;simp only[updM];rw[if_neg]
  ·exact hi
  ·intro e;subst e;rw[hnone]at hi;cases hi
 -- the general step
 have main:∀ (L:Loc) (fp:List Nat),
   w'.os=w.os->w'.tape=w.tape->w'.output=w.output->w.heap.size<=w'.heap.size ->
   (∀ b,b<w.heap.size->w'.heap[b]? = w.heap[b]? \/ (hot c.M0 (Hof h) μ b/\∃ k,base=some k/\b∈FP k)) ->
   (∀ b cap,L=.blk b cap->hot c.M0 (Hof h) μ b\/w.heap.size<=b) ->
   (∀ b,b∈fp->(∃ k,base=some k/\b∈FP k)\/(w.heap.size<=b/\b<w'.heap.size)\/b∈R)->fp.Nodup ->
   ((∀ b,b<w.heap.size->¬ hot c.M0 (Hof h) μ b->¬ hot c.M0 (Hof h2) (updM μ h.length L) b)->y0b w' (hot c.M0 (Hof h2) (updM μ h.length L)) (updM μ h.length L) (.arr et e (n+m) (joinF n f g)) L fp) ->
   Next1 c h μ w h2 (updM μ h.length L) w':=by
  intro L fp hos htape hout2 hsz hblk hL hfp hnd hok
  have hle:μ.le (updM μ h.length L):=by
   intro i L' hi;simp only[updM];rw[if_neg]
   ·exact hi
   ·intro e;subst e;rw[hnone]at hi;cases hi
  have hcold:∀ b,b<w.heap.size->¬ hot c.M0 (Hof h) μ b->¬ hot c.M0 (Hof h2) (updM μ h.length L) b:=by
   intro b hb hn hh;rcases hh with hh|⟨i,cap,e',hm,he,hl⟩
   ·exact hn (.inl hh)
   ·simp only[updM]at hm
    split at hm
    ·cases hm
     rcases hL b cap rfl with h1|h1
     ·exact hn h1
     ·omega
    ·rename_i hne
     by_cases hbi:base=some i
     ·rw[hgetD i hbi]at he;cases he;simp[Ent.live]at hl
     ·rw[hget i hbi hne]at he
      exact hn (.inr ⟨i,cap,e',hm,he,hl⟩)
  have hup := WR.update (H' := Hof h2) (μ' := updM μ h.length L) (FP' := updF (killF FP base) h.length fp) (w' := w') (fun i => base = some i) R hW hR hos htape hout2 hsz hblk hle
   (fun i hi hk=>hget i hk (fun he=>hi (by rw[he];exact hnone)))
   (by
    intro i hi hk;simp only[updF]
    rw[if_neg (fun he=>hi (by rw[he];exact hnone)),y5c,if_neg hk])
   (by
    intro i L' hi hL';by_cases hil:i=h.length
    ·subst hil
     simp only[updM,if_true,Option.some.injEq]at hL';subst hL';exact⟨_,hgetN,by simp only[updF,if_true];exact hok hcold⟩
    ·simp only[updM,if_neg hil]at hL'
     rcases hi with hi|hi
     ·rw[hi]at hL';cases hL'
     ·exact⟨.dead,hgetD i hi,by simp[y0b,updF,hil,y5c,hi]⟩)
   (by
    intro i b cap e' hi hm he hl;by_cases hil:i=h.length
    ·subst hil
     simp only[updM,if_true,Option.some.injEq]at hm;exact hL b cap hm
    ·simp only[updM,if_neg hil]at hm
     rcases hi with hi|hi
     ·rw[hi]at hm;cases hm
     ·rw[hgetD i hi]at he;cases he;simp[Ent.live]at hl)
   (by
    intro i b hi hb;simp only[updF]at hb;split at hb
    ·exact hfp b hb
    ·rw[y5c]at hb
     split at hb
     ·simp at hb
     ·rename_i h1 h2
      rcases hi with hi|hi
      ·rw[hW.out i hi]at hb;simp at hb
      ·exact absurd hi h2)
   (by
    intro i hi;simp only[updM]at hi;split at hi
    ·cases hi
    ·rename_i hne
     simp only[updF,if_neg hne,y5c];split
     ·rfl
     ·exact hW.out i hi)
   (by
    intro i _;simp only[updF];split
    ·exact hnd
    ·rw[y5c]
     split
     ·simp
     ·exact hW.nodup i)
   (by
    intro i j hij hi hj b hbi hbj
    have hz:∀ i,i≠h.length->(μ i=none\/base=some i)->killF FP base i=[]:=by
     intro i hne hi;rw[y5c];split
     ·rfl
     ·rename_i hb
      exact hW.out i (hi.resolve_right hb)
    simp only[updF]at hbi hbj;by_cases h1:i=h.length
    ·by_cases h2:j=h.length
     ·omega
     ·rw[if_neg h2,hz j h2 hj]at hbj;simp at hbj
    ·rw[if_neg h1,hz i h1 hi]at hbi;simp at hbi)
  refine⟨⟨_,hup.1⟩,?_,hup.2⟩;intro i hi;rw[hlen2]at hi;simp only[updM];rw[if_neg (by omega)];exact hd i (by omega)
 rcases hout with⟨rfl,hnm,rfl⟩|⟨b',cap',cur',rfl,hA⟩
 ·refine⟨updM μ h.length .nil,main .nil [] rfl rfl rfl (Nat.le_refl _) (fun _ _=>.inl rfl) (by intro b cap he;cases he) (by simp) (by simp) (fun _=>⟨hnm,rfl⟩),?_⟩
  simp only[Rep,updM,if_true];exact⟨trivial,trivial,hnm,trivial⟩
 ·have hplace:(∃ id cap,base=some id/\μ id=some (.blk b' cap)/\FP id=b'::(FP id).tail)\/b'=w.heap.size:=by
   rcases hA.place with h1|h1
   ·exact .inl (hob b' h1)
   ·exact .inr h1
  have hb'lt:b'<w'.heap.size:=(Array.getElem?_eq_some_iff.1 hA.row).1
  have hb'hot:hot c.M0 (Hof h) μ b'\/b'=w.heap.size:=by
   rcases hplace with⟨id,cap,h1,h2,h3⟩|h1
   ·obtain⟨e0,he,hl⟩:=hbase id h1
    exact .inl (.inr ⟨id,cap,e0,h2,he,hl⟩)
   ·exact .inr h1
  have hfps:∀ i,i<n->∀ b,b∈fps i->b∈(List.range n).flatMap fps:=fun i hi b hb=>List.mem_flatMap.2 ⟨i,List.mem_range.2 hi,hb⟩
  have hfps2:∀ i,i<m->∀ b,b∈fps2 i->b∈(List.range m).flatMap fps2:=fun i hi b hb=>List.mem_flatMap.2 ⟨i,List.mem_range.2 hi,hb⟩
  have hne1:∀ b,b∈(List.range n).flatMap fps->b≠b':=by
   intro b hb e;subst e;obtain⟨id,h1,h2⟩:=hfp1 b hb;rcases hplace with⟨id',cap,h3,h4,h5⟩|h3
   ·rw[h1]at h3;cases h3
    have:=hW.nodup id;rw[h5,List.nodup_cons]at this;exact this.1 h2
   ·have:=(hW.new id b (List.mem_of_mem_tail h2)).2
    omega
  have hne2:∀ b,b∈(List.range m).flatMap fps2->b≠b':=by
   intro b hb e;subst e;have hbR:=hfp2 b hb;rcases hplace with⟨id',cap,h3,h4,h5⟩|h3
   ·exact hR.disj b hbR id' (by rw[h5];simp)
   ·have:=(hR.new b hbR).2
    omega
  refine⟨updM μ h.length (.blk b' cap'),main (.blk b' cap') (b'::((List.range n).flatMap fps++(List.range m).flatMap fps2)) hA.os hA.tape hA.output hA.size ?_ ?_ ?_ ?_ ?_,?_⟩
  ·intro b hb
   by_cases hbb:b=b'
   ·subst hbb
    rcases hplace with⟨id,cap,h1,h2,h3⟩|h1
    ·obtain⟨e0,he,hl⟩:=hbase id h1
     exact .inr ⟨.inr ⟨id,cap,e0,h2,he,hl⟩,id,h1,by rw[h3];simp⟩
    ·omega
   ·exact .inl (hA.other b hb hbb)
  ·intro b cap he
   cases he
   rcases hb'hot with h1|h1
   ·exact .inl h1
   ·exact .inr (by omega)
  ·intro b hb
   rcases List.mem_cons.1 hb with rfl|hb
   ·rcases hplace with⟨id,cap,h1,h2,h3⟩|h1
    ·exact .inl ⟨id,h1,by rw[h3];simp⟩
    ·exact .inr (.inl ⟨by omega,hb'lt⟩)
   ·rcases List.mem_append.1 hb with hb|hb
    ·obtain⟨id,h1,h2⟩:=hfp1 b hb
     exact .inl ⟨id,h1,List.mem_of_mem_tail h2⟩
    ·exact .inr (.inr (hfp2 b hb))
  ·rw[List.nodup_cons,List.nodup_append]
   refine⟨?_,hnd1,hnd2,?_⟩
   ·intro hm
    rcases List.mem_append.1 hm with hm|hm
    ·exact hne1 b' hm rfl
    ·exact hne2 b' hm rfl
   ·intro a ha b hb hab
    subst hab;obtain⟨id,h1,h2⟩:=hfp1 a ha;exact hR.disj a (hfp2 a hb) id (List.mem_of_mem_tail h2)
  ·intro hcold
   have hsame:∀ fq:List Nat,(∀ b,b∈fq->b≠b')->Same w (hot c.M0 (Hof h) μ) w' (hot c.M0 (Hof h2) (updM μ h.length (.blk b' cap'))) fq:=by
    intro fq hq;refine⟨hA.size,hcold,fun b hb hh=>hA.other b hb ?_⟩;rintro rfl
    rcases hh with hh|hh
    ·rcases hb'hot with h1|h1
     ·exact hh h1
     ·omega
    ·exact hq b hh rfl
   refine⟨cur',fun i=>if i<n then us i else us2 (i-n),fun i=>if i<n then fps i else fps2 (i-n),hA.row,hA.len,hA.fit,hA.big,?_,by rw[ydl]⟩;intro i hi;by_cases hin:i<n
   ·have hbl:Nat.blt i n=true:=by simpa [Nat.blt_eq]using hin
    simp only[joinF,hbl,cond_true,if_pos hin];refine⟨RepL.mono _ (hleU _) (hsame _ (fun b hb=>hne1 b (hfps i hin b hb))) (hf.rep i hin),hf.len i hin,?_⟩;intro k u hu;have hk:k<e:=by have:=(List.getElem?_eq_some_iff.1 hu).1;rw[hf.len i hin]at this;exact this
    refine⟨?_,hf.one i hin u (List.mem_of_getElem? hu)⟩
    have hlt:i * e+k<n * e:=by
     have:(i+1) * e<=n * e:=Nat.mul_le_mul_right _ hin;rw[Nat.add_mul,Nat.one_mul]at this;omega
    rw[cell_of_row _ _ _ _ _ _ hA.row,hA.olds _ hlt,yhc hf.len hin hk];exact hu
   ·have hbl:Nat.blt i n=false:=by
     cases hb:Nat.blt i n
     ·rfl
     ·exact absurd (by simpa [Nat.blt_eq]using hb) hin
    have him:i-n<m:=by omega
    simp only[joinF,hbl,cond_false,if_neg hin];refine⟨RepL.mono _ (hleU _) (hsame _ (fun b hb=>hne2 b (hfps2 (i-n) him b hb))) (hg.rep _ him),hg.len _ him,?_⟩;intro k u hu;have hk:k<e:=by have:=(List.getElem?_eq_some_iff.1 hu).1;rw[hg.len _ him]at this;exact this
    refine⟨?_,hg.one _ him u (List.mem_of_getElem? hu)⟩
    have hlt:(i-n) * e+k<m * e:=by
     have:(i-n+1) * e<=m * e:=Nat.mul_le_mul_right _ him;rw[Nat.add_mul,Nat.one_mul]at this;omega
    have e1:i * e+k=n * e+((i-n) * e+k):=by
     have:i=n+(i-n):=by omega
     rw[this,Nat.add_mul,Nat.add_sub_cancel_left];omega
    rw[cell_of_row _ _ _ _ _ _ hA.row,e1,hA.adds _ hlt,yhc hg.len him hk];exact hu
  ·simp only[Rep,updM,if_true]
   exact⟨trivial,by have:=hA.fit;omega,0,by simp,.inr (by simp)⟩
end
end Go.Ab
namespace Go.Ab
open Go
variable [Inv]
def flatZ : List AV -> Bool
 | []=>true
 | .int _ _::l=>flatZ l
 | .bool _::l=>flatZ l
 | .str _::l=>flatZ l
 | _=>false
def srcA (e : Nat) (flat : Bool) (h : List Ent) : AV -> Option ((Nat × (Nat -> List AV)) × List Ent × List Prop)
  | .nils=>some ((0,fun _=>[]),h,[])
  | .sl none e' m g=>if e'=e then some ((m,g),h,[])else none
  | .ref id e' off m => match nthE h id with
    | some (.arr _ e2 n2 f2)=>if e'=e/\e2=e then
        match flat with
        | true=>some ((m,fun i=>borrowL (f2 (off+i))),h,[off+m<=n2])
        | false => match off with
          | 0=>some ((m,f2),setE h id .dead,[m<=n2])
          | _+1=>none
      else none
    | _=>none
  | _=>none
def baseA (e : Nat) (et : TypeId) (h : List Ent) : AV -> Option ((Nat × (Nat -> List AV)) × Option Nat × List Prop)
  | .nils=>some ((0,fun _=>[]),none,[])
  | .ref id e' 0 n => match nthE h id with
    | some (.arr T e2 n2 f)=>if e'=e/\e2=e/\T=et then some ((n,f),some id,[n<=n2])else none
    | _=>none
  | _=>none
def appendA (Γ:Env) (h:List Ent) (t:TypeId) (x y:AV):NewR:=
  match tget Γ t with
  | some j => match j.ti with
    | .slice et => match tget Γ et with
      | some k => match k.ones, srcA k.size (flatZ k.zero) h y with
        | true, some ((m, g), h1, o1) => match baseA k.size et h1 x with
          | some ((n,f),b,o2)=>if k.zero.length=k.size then some (.ref h.length k.size 0 (n+m),killO h1 b++[.arr et k.size (n+m) (joinF n f g)],
              ((n+m) * k.bytes<=140737488355328/\n+m<=140737488355328)::(o1++o2))else none
          | none=>none
        | _,_=>none
      | none=>none
    | _=>none
  | none=>none
section
variable {P:Program} {Γ:Env} {c:Ctx} {μ:Map} {FP:Nat->List Nat} {w:World} {R:List Nat}
theorem Elts.mono {w w':World} {M M':Nat->Prop} {μ:Map} {e n:Nat} {f:Nat->List AV} {us:Nat->List Value} {fps:Nat->List Nat} (h:Elts w M μ e n f us fps) (hs:∀ fp:List Nat,Same w M w' M' fp):Elts w' M' μ e n f us fps:=
 ⟨fun i hi=>RepL.mono _ (Map.le_refl _) (hs _) (h.rep i hi),h.len,h.one⟩
theorem y9c {h:List Ent} (hW:WR c (Hof h) μ FP w) {id b cap:Nat} {T:TypeId} {e n:Nat} {f:Nat->List AV} (hm:μ id=some (.blk b cap)) (he:nthE h id=some (.arr T e n f)) :
  ∃ cur us fps,Elts w (hot c.M0 (Hof h) μ) μ e n f us fps/\w.heap[b]? = some (.cells cur T (0,0))/\cur.size=cap * e/\n<=cap/\cap<=maxLen /\
   (∀ i,i<n->y9b w b (i * e) (us i))/\FP id=b::(List.range n).flatMap fps:=by
 obtain⟨ent,he1,hok⟩:=hW.ent id _ hm;have he2:Hof h id=some (.arr T e n f):=he;rw[he2]at he1;cases he1;obtain⟨cur,us,fps,hh,h1,h2,h3,hcl,hF⟩:=hok
 exact⟨cur,us,fps,⟨fun i hi=>(hcl i hi).1,fun i hi=>(hcl i hi).2.1,fun i hi u hu=>by
  obtain⟨j,hj⟩:=List.getElem?_of_mem hu
  exact((hcl i hi).2.2 j u hj).2⟩,hh,h1,h2,h3,fun i hi=>(hcl i hi).2.2,hF⟩
theorem Elts.le {w:World} {M:Nat->Prop} {μ:Map} {e n m:Nat} {f:Nat->List AV} {us:Nat->List Value} {fps:Nat->List Nat} (h:Elts w M μ e n f us fps) (hm:m<=n):Elts w M μ e m f us fps:=
 ⟨fun i hi=>h.rep i (by omega),fun i hi=>h.len i (by omega),fun i hi=>h.one i (by omega)⟩
theorem y6d {w:World} {b o e m:Nat} {us:Nat->List Value} (hl:∀ i,i<m->(us i).length=e) (hc:∀ i,i<m->y9b w b (o+i * e) (us i)) :
  ∀ j u,((List.range m).flatMap us)[j]? = some u->w.cell? ((⟨b,o,none⟩:Addr).add j)=some u:=by
 intro j u hu;have hj:j<m * e:=by rw[<- y1b hl];exact(List.getElem?_eq_some_iff.1 hu).1
 have he:0<e:=by
  rcases Nat.eq_zero_or_pos e with h0|h0
  ·subst h0;simp at hj
  ·exact h0
 have hi:j / e<m:=Nat.div_lt_of_lt_mul (by rwa [Nat.mul_comm]at hj);have hk:j % e<e:=Nat.mod_lt _ he;have hdm:j / e * e+j % e=j:=by rw[Nat.mul_comm];exact Nat.div_add_mod j e
 rw[<- hdm,yhc hl hi hk]at hu;rw[Addr.add_lit, <- hdm, <- Nat.add_assoc];exact(hc _ hi _ _ hu).1
theorem yup {h h1 : List Ent} {e m : Nat} {flat : Bool} {g : Nat -> List AV} {y : AV} {vy : Value} {obl : List Prop} (hW : WR c (Hof h) μ FP w) (hs : srcA e flat h y = some ((m, g), h1, obl)) (ho : allP obl)
  (hy:Rep w (hot c.M0 (Hof h) μ) y μ vy []) :
  ∃ FP1 R us2 fps2,WR c (Hof h1) μ FP1 w/\Free c FP1 w R/\Trans c.M0 (Hof h) μ w (Hof h1) μ w/\h1.length=h.length/\Elts w (hot c.M0 (Hof h1) μ) μ e m g us2 fps2 /\
   (∀ b,b∈(List.range m).flatMap fps2->b∈R)/\((List.range m).flatMap fps2).Nodup /\
   ((vy=.slice none 0 0/\m=0)\/∃ a cp,vy=.slice (some a) m cp/\∀ j u,((List.range m).flatMap us2)[j]? = some u->w.cell? (a.add j)=some u):=by
 have hno:∀ m:Nat,((List.range m).flatMap fun _=>([]:List Nat))=[]:=by intro m;simp
 unfold srcA at hs;split at hs
 ·simp only[Option.some.injEq,Prod.mk.injEq]at hs
  obtain⟨⟨rfl,rfl⟩,rfl,rfl⟩:=hs;simp only[Rep]at hy;exact⟨FP,[],fun _=>[],fun _=>[],hW,Free.nil _ _ _,Trans.refl _ _ _ _,rfl,⟨by omega,by omega,by omega⟩,by intro b hb;rw[hno]at hb;exact hb,by rw[hno];simp,.inl ⟨hy.1,rfl⟩⟩
 ·rename_i e' m' g'
  split at hs
  ·rename_i hee
   subst hee;simp only[Option.some.injEq,Prod.mk.injEq]at hs;obtain⟨⟨rfl,rfl⟩,rfl,rfl⟩:=hs;simp only[Rep]at hy;rcases hy with⟨rfl,rfl|⟨a,cp,rfl⟩,_⟩|⟨b,o,cap,us,fps,rfl,hn,hb,hc,hM,_,hfp⟩
   ·exact⟨FP,[],fun _=>[],fun _=>[],hW,Free.nil _ _ _,Trans.refl _ _ _ _,rfl,⟨by omega,by omega,by omega⟩,by intro b hb;rw[hno]at hb;exact hb,by rw[hno];simp,.inl ⟨rfl,rfl⟩⟩
   ·exact⟨FP,[],fun _=>[],fun _=>[],hW,Free.nil _ _ _,Trans.refl _ _ _ _,rfl,⟨by omega,by omega,by omega⟩,by intro b hb;rw[hno]at hb;exact hb,by rw[hno];simp,.inr ⟨a,cp,rfl,by intro j u hu;simp at hu⟩⟩
   ·refine⟨FP,[],us,fun _=>[],hW,Free.nil _ _ _,Trans.refl _ _ _ _,rfl,⟨?_,fun i hi=>(hc i hi).2.1,?_⟩,by intro b hb;rw[hno]at hb;exact hb,by rw[hno];simp,.inr ⟨⟨b,o,none⟩,cap,rfl,y6d (fun i hi=>(hc i hi).2.1) (fun i hi=>(hc i hi).2.2)⟩⟩
    ·intro i hi
     have:=(hc i hi).1;rw[hfp i hi]at this;exact this.lift
    ·intro i hi u hu
     obtain⟨j,hj⟩:=List.getElem?_of_mem hu;exact((hc i hi).2.2 j u hj).2
  ·simp at hs
 ·rename_i id e' off m'
  split at hs
  ·rename_i T e2 n2 f2 hid
   split at hs
   ·rename_i hee
    obtain⟨rfl,rfl⟩:=hee;split at hs
    ·simp only[Option.some.injEq,Prod.mk.injEq]at hs
     obtain⟨⟨rfl,rfl⟩,rfl,rfl⟩:=hs;have hle:=ho.1;simp only[Rep]at hy;obtain⟨_,hy⟩:=hy
     cases hm:μ id with
     | none=>simp[hm]at hy
     | some L=>
      cases L with
      | nil=>
       simp only[hm]at hy;obtain⟨rfl,rfl,rfl⟩:=hy;exact⟨FP,[],fun _=>[],fun _=>[],hW,Free.nil _ _ _,Trans.refl _ _ _ _,rfl,⟨by omega,by omega,by omega⟩,by intro b hb;rw[hno]at hb;exact hb,by rw[hno];simp,.inl ⟨rfl,rfl⟩⟩
      | blk b cap=>
       simp only[hm]at hy;obtain⟨hcap,o,rfl,hoo⟩:=hy;obtain⟨cur,us,fps,hE,hh,h1,h2,h3,hcl,hF⟩:=y9c hW hm hid;refine⟨FP,[],fun i=>us (off+i),fun _=>[],hW,Free.nil _ _ _,Trans.refl _ _ _ _,rfl,⟨?_,fun i hi=>hE.len _ (by omega),fun i hi=>hE.one _ (by omega)⟩,by intro b hb;rw[hno]at hb;exact hb,by rw[hno];simp,?_⟩
       ·intro i hi
        exact ymb _ (fun x hx=>hW.inner_cold hm hF (List.mem_flatMap.2 ⟨off+i,List.mem_range.2 (by omega),hx⟩)) (hE.rep (off+i) (by omega))
       ·refine .inr ⟨⟨b,o,none⟩,cap-off,rfl,?_⟩
        by_cases hm0:m'=0
        ·subst hm0;intro j u hu;simp at hu
        ·have hoe:o=off * e2:=by
          rcases hoo with h5|h5
          ·omega
          ·exact h5
         subst hoe;refine y6d (fun i hi=>hE.len _ (by omega)) (fun i hi => ?_);have:=hcl (off+i) (by omega);rwa [Nat.add_mul]at this
    ·split at hs
     ·simp only[Option.some.injEq,Prod.mk.injEq]at hs
      obtain⟨⟨rfl,rfl⟩,rfl,rfl⟩:=hs;have hle:=ho.1;obtain⟨k1,k2,k3⟩:=hW.kill (Free.nil _ _ _) hid;simp only[List.nil_append]at k3;simp only[Rep]at hy;obtain⟨_,hy⟩:=hy
      cases hm:μ id with
      | none=>simp[hm]at hy
      | some L=>
       cases L with
       | nil=>
        simp only[hm]at hy;obtain⟨_,rfl,rfl⟩:=hy;exact⟨_,_,fun _=>[],fun _=>[],k1,k3,k2,yy _ _ _,⟨by omega,by omega,by omega⟩,by simp,by simp,.inl ⟨rfl,rfl⟩⟩
       | blk b cap=>
        simp only[hm]at hy;obtain⟨hcap,o,rfl,hoo⟩:=hy;obtain⟨cur,us,fps,hE,hh,h1,h2,h3,hcl,hF⟩:=y9c hW hm hid;have hsub:((List.range m').flatMap fps).Sublist ((List.range n2).flatMap fps):=yab fps hle;have hnd:=hW.nodup id;rw[hF,List.nodup_cons]at hnd;refine⟨_,_,us,fps,k1,k3,k2,yy _ _ _,(hE.mono (k2.sameFp)).le hle,?_,hnd.2.sublist hsub,?_⟩
        ·intro x hx
         rw[hF];exact List.mem_cons_of_mem _ (hsub.subset hx)
        ·refine .inr ⟨⟨b,o,none⟩,cap-0,rfl,?_⟩
         have hoe:o=0:=by
          rcases hoo with h5|h5
          ·omega
          ·simpa using h5
         subst hoe;refine y6d (fun i hi=>hE.len _ (by omega)) (fun i hi => ?_);simpa using hcl i (by omega)
     ·simp at hs
   ·simp at hs
  ·simp at hs
 ·simp at hs
theorem ygn {h1 : List Ent} {e n : Nat} {et : TypeId} {f : Nat -> List AV} {x : AV} {vx : Value} {bo : Option Nat} {o2 : List Prop} {FP1 : Nat -> List Nat} (a1 : WR c (Hof h1) μ FP1 w)
  (hba:baseA e et h1 x=some ((n,f),bo,o2)) (ho2:allP o2) (hx:Rep w (hot c.M0 (Hof h1) μ) x μ vx []) :
  ∃ ob us fps,(∀ id,bo=some id->∃ e0,nthE h1 id=some e0/\e0.live=true)/\(∀ b,ob=some b->∃ id cap,bo=some id/\μ id=some (.blk b cap)/\FP1 id=b::(FP1 id).tail) /\
   Elts w (hot c.M0 (Hof h1) μ) μ e n f us fps/\(∀ b,b∈(List.range n).flatMap fps->∃ id,bo=some id/\b∈(FP1 id).tail)/\((List.range n).flatMap fps).Nodup/\vx.ownBlock=ob /\
   ((vx=.slice none 0 0/\n=0)\/∃ b cap cur,vx=.slice (some ⟨b,0,none⟩) n cap/\w.heap[b]? = some (.cells cur et (0,0))/\cur.size=cap * e/\n<=cap/\cap<=maxLen/\∀ j,j<n * e->cur[j]? = ((List.range n).flatMap us)[j]?):=by
 unfold baseA at hba;split at hba
 ·simp only[Option.some.injEq,Prod.mk.injEq]at hba
  obtain⟨⟨rfl,rfl⟩,rfl,rfl⟩:=hba;simp only[Rep]at hx;obtain⟨rfl,_⟩:=hx;exact⟨none,fun _=>[],fun _=>[],by simp,by simp,⟨by omega,by omega,by omega⟩,by simp,by simp,rfl,.inl ⟨rfl,rfl⟩⟩
 ·rename_i id e' n'
  split at hba
  ·rename_i T e2 n2 f' hid
   split at hba
   ·rename_i hcond
    obtain⟨rfl,rfl,rfl⟩:=hcond;simp only[Option.some.injEq,Prod.mk.injEq]at hba;obtain⟨⟨rfl,rfl⟩,rfl,rfl⟩:=hba;have hle:=ho2.1
    have hlive:∀ id',some id=some id'->∃ e0,nthE h1 id'=some e0/\e0.live=true:=by
     intro id' he;cases he;exact⟨_,hid,rfl⟩
    simp only[Rep]at hx;obtain⟨_,hx⟩:=hx
    cases hm:μ id with
    | none=>simp[hm]at hx
    | some L=>
     cases L with
     | nil=>
      simp only[hm]at hx;obtain⟨_,rfl,rfl⟩:=hx;exact⟨none,fun _=>[],fun _=>[],hlive,by simp,⟨by omega,by omega,by omega⟩,by simp,by simp,rfl,.inl ⟨rfl,rfl⟩⟩
     | blk b cap=>
      simp only[hm]at hx;obtain⟨hcap,o,rfl,hoo⟩:=hx;obtain⟨cur,us,fps,hE,hh,h1',h2,h3,hcl,hF⟩:=y9c a1 hm hid
      have hoe:o=0:=by
       rcases hoo with h5|h5
       ·omega
       ·simpa using h5
      subst hoe;have hnd:=a1.nodup id;rw[hF,List.nodup_cons]at hnd;have hsub:((List.range n').flatMap fps).Sublist ((List.range n2).flatMap fps):=yab fps hle;refine⟨some b,us,fps,hlive,?_,hE.le hle,?_,hnd.2.sublist hsub,rfl,.inr ⟨b,cap-0,cur,rfl,hh,by simpa using h1',by omega,by omega,?_⟩⟩
      ·intro b' hb'
       cases hb'
       exact⟨id,cap,rfl,hm,by rw[hF];rfl⟩
      ·intro x hxm
       exact⟨id,rfl,by rw[hF];exact hsub.subset hxm⟩
      ·intro j hj
       have hcf:=y6d (w:=w) (b:=b) (o:=0) (e:=e2) (m:=n') (us:=us) (fun i hi=>hE.len _ (by omega)) (fun i hi=>by simpa using hcl i (by omega));have hlen:j<((List.range n').flatMap us).length:=by rw[y1b (fun i hi=>hE.len _ (by omega))];exact hj
       have:=hcf j _ (List.getElem?_eq_getElem hlen);rw[Addr.add_lit,Nat.zero_add,cell_of_row w b j cur T (0,0) hh]at this;rw[this,List.getElem?_eq_getElem hlen]
   ·simp at hba
  ·simp at hba
 ·simp at hba
theorem y2j (hΓ : TyOk P Γ) {h h' : List Ent} {t ty : TypeId} {x y r : AV} {vx vy : Value} {obl : List Prop} (hW : WR c (Hof h) μ FP w) (hd : Tail h μ)
  (hb:appendA Γ h t x y=some (r,h',obl)) (ho:allP obl)
  (hx:Rep w (hot c.M0 (Hof h) μ) x μ vx []) (hy:Rep w (hot c.M0 (Hof h) μ) y μ vy []) :
  ∃ z μ' w',(Builtin.append_ #[t,t] ty #[vx,vy]).run P w=.ok z w'/\Next1 c h μ w h' μ' w'/\Rep w' (hot c.M0 (Hof h') μ') r μ' z []:=by
 unfold appendA at hb
 cases ht:tget Γ t with
 | none=>simp[ht]at hb
 | some j=>
  obtain⟨inf,d,hinf,hdd,hti,_⟩:=yi (hΓ.get ht);simp only[ht]at hb;split at hb
  ·rename_i et hk
   rw[hk]at hti;have:=ytb hti;subst this
   cases het:tget Γ et with
   | none=>simp[het]at hb
   | some k=>
    obtain⟨inf2,d2,hinf2,hd2,hti2,hsz2,hby2,hzero2,hones2⟩:=yi (hΓ.get het);simp only[het]at hb;split at hb
    ·rename_i m g h1 o1 hones hsrc
     cases hba:baseA k.size et h1 x with
     | none=>simp[hba]at hb
     | some p=>
      obtain⟨⟨n,f⟩,bo,o2⟩:=p;simp only[hba]at hb;split at hb
      case isFalse=>simp at hb
      rename_i hzl
      simp only[Option.some.injEq,Prod.mk.injEq]at hb;obtain⟨rfl,rfl,rfl⟩:=hb;obtain⟨⟨hbytes,hbig⟩,ho'⟩:=ho;obtain⟨ho1,ho2⟩:=yk.1 ho';obtain⟨FP1,R,us2,fps2,a1,a2,a3,a4,a5,a6,a7,a8⟩:=yup hW hsrc ho1 hy;have hd1:Tail h1 μ:=fun i hi=>hd i (by omega)
      cases hz:inf2.zero with
      | none=>rw[hones2,hz]at hones;simp at hones
      | some z=>
       have hzs:z.cells.size=k.size:=by rw[<- hzl,hzero2,hz];simp
       -- the base
       have hbase:∃ ob us fps,(∀ id,bo=some id->∃ e0,nthE h1 id=some e0/\e0.live=true)/\(∀ b,ob=some b->∃ id cap,bo=some id/\μ id=some (.blk b cap)/\FP1 id=b::(FP1 id).tail) /\
         Elts w (hot c.M0 (Hof h1) μ) μ k.size n f us fps/\(∀ b,b∈(List.range n).flatMap fps->∃ id,bo=some id/\b∈(FP1 id).tail)/\((List.range n).flatMap fps).Nodup/\vx.ownBlock=ob /\
         ((vx=.slice none 0 0/\n=0)\/∃ b cap cur,vx=.slice (some ⟨b,0,none⟩) n cap/\w.heap[b]? = some (.cells cur et (0,0))/\cur.size=cap * k.size/\n<=cap/\cap<=maxLen/\∀ j,j<n * k.size->cur[j]? = ((List.range n).flatMap us)[j]?):=by
        exact ygn a1 hba ho2 (Rep.mono x (Map.le_refl _) (a3.sameFp []) hx)
       obtain⟨ob,us,fps,b1,b2,b3,b4,b5,b6,b7⟩:=hbase
       obtain ⟨v', w', hrun, hout⟩ := y9p (P := P) (ty := ty) hdd hinf2 hz hsz2 hby2 hzs (old := (List.range n).flatMap us) (news := (List.range m).flatMap us2) (y1b b3.len) (y1b a5.len)
        (by intro u hu;obtain⟨i,hi,hui⟩:=List.mem_flatMap.1 hu;exact a5.one i (List.mem_range.1 hi) u hui) b7 a8 hbytes hbig
       rw[b6]at hout
       obtain⟨μ',q1,q2⟩:=yps a1 a2 hd1 (ob:=ob) b1 b2 b3 a5 b4 b5 a6 a7 (w':=w') (v':=v') (et:=et) (by
        rcases hout with⟨h5,h6,h7,_⟩|h5
        ·exact .inl ⟨h5,h6,h7⟩
        ·exact .inr h5)
       rw[show h.length=h1.length from a4.symm];exact⟨v',μ',w',hrun,⟨q1.wr,q1.tail,a3.trans q1.tr⟩,q2⟩
    ·simp at hb
  ·simp at hb
end
end Go.Ab
namespace Go.Ab
open Go
variable [Inv]
mutual
def NoBor : AV -> Prop
 | .sl none _ _ _=>False
 | .sl (some _) _ n f=>∀ i,i<n->NoBorL (f i)
 | .ep _=>False
 | .op cs=>NoBorL cs
 | .agg cs=>NoBorL cs
 | .tup cs=>NoBorL cs
 | .fn _ _ cs=>NoBorL cs
 | .gd _ x=>NoBor x
 | .lit _ _=>False
 | _=>True
def NoBorL : List AV -> Prop
 | []=>True
 | x::xs=>NoBor x/\NoBorL xs
end
mutual
theorem Rep.noBor {w : World} {M M' : Nat -> Prop} : ∀ (x : AV) {μ : Map} {v : Value} {fp : List Nat}, NoBor x -> Rep w M x μ v fp -> Rep w M' x μ v fp
 | .int _ _,_,_,_,_,h=>by simpa only[Rep]using h
 | .bool _,_,_,_,_,h=>by simpa only[Rep]using h
 | .str _,_,_,_,_,h=>by simpa only[Rep]using h
 | .nils,_,_,_,_,h=>by simpa only[Rep]using h
 | .any,_,_,_,_,h=>by simpa only[Rep]using h
 | .ref ..,_,_,_,_,h=>by simpa only[Rep]using h
 | .ptr ..,_,_,_,_,h=>by simpa only[Rep]using h
 | .pe ..,_,_,_,_,h=>by simpa only[Rep]using h
 | .ep _,_,_,_,hn,_=>by simp[NoBor]at hn
 | .lit _ _,_,_,_,hn,_=>by simp[NoBor]at hn
 | .op cs,μ,v,fp,hn,h=>by
  simp only[Rep,NoBor]at h hn ⊢;obtain⟨b,us,T,e,e2,hb,hh,hone,hr⟩:=h;exact⟨b,us,T,e,e2,hb,hh,hone,RepL.noBor cs hn hr⟩
 | .agg cs,μ,v,fp,hn,h=>by
  simp only[Rep,NoBor]at h hn ⊢;obtain⟨us,e,h⟩:=h;exact⟨us,e,RepL.noBor cs hn h⟩
 | .tup cs,μ,v,fp,hn,h=>by
  simp only[Rep,NoBor]at h hn ⊢;obtain⟨us,e,h⟩:=h;exact⟨us,e,RepL.noBor cs hn h⟩
 | .fn f k cs,μ,v,fp,hn,h=>by
  simp only[Rep,NoBor]at h hn ⊢;obtain⟨e0,us,e,h⟩:=h;exact⟨e0,us,e,RepL.noBor cs hn h⟩
 | .gd gs x,μ,v,fp,hn,h=>by
  simp only[Rep,NoBor]at h hn ⊢;exact⟨h.1,fun hg=>Rep.noBor x hn (h.2.1 hg),h.2.2⟩
 | .sl none e n f,μ,v,fp,hn,h=>by simp[NoBor]at hn
 | .sl (some T) e n f,μ,v,fp,hn,h=>by
  simp only[Rep,NoBor]at h hn ⊢;rcases h with h|⟨b,o,cap,us,fps,hv,hnn,hb,hc,ho⟩
  ·exact .inl h
  ·exact .inr ⟨b,o,cap,us,fps,hv,hnn,hb,fun i hi=>⟨RepL.noBor (f i) (hn i hi) (hc i hi).1,(hc i hi).2⟩,ho⟩
theorem RepL.noBor {w : World} {M M' : Nat -> Prop} : ∀ (xs : List AV) {μ : Map} {us : List Value} {fp : List Nat}, NoBorL xs -> RepL w M xs μ us fp -> RepL w M' xs μ us fp
 | [],_,_,_,_,h=>by simpa only[RepL]using h
 | x::xs,μ,us,fp,hn,h=>by
  simp only[RepL,NoBorL]at h hn ⊢;obtain⟨u,us',f1,f2,e1,e2,h1,h2⟩:=h;exact⟨u,us',f1,f2,e1,e2,Rep.noBor x hn.1 h1,RepL.noBor xs hn.2 h2⟩
end
def yyb : AV -> Value -> List Nat
 | .sl (some _) _ _ _,.slice (some a) _ _=>[a.block]
 | .op _,.pointer (some a)=>[a.block]
 | _,_=>[]
mutual
def tops : AV -> Value -> List Nat
 | .agg cs,.agg us=>ycb cs us.toList
 | .tup cs,.tuple us=>ycb cs us.toList
 | x,v=>yyb x v
def ycb : List AV -> List Value -> List Nat
 | x::xs,v::vs=>tops x v++ycb xs vs
 | _,_=>[]
end
def FnOk (P:Program) (f:FuncId):Prop:=∃ fn,P.funcs[f]? = some fn/\(fn.name == "runtime.NumGoroutine")=false/\fn.body.isNone=false
def Den (P:Program) (f:FuncId) (xs:List AV) (r:AV):Prop:=
 FnOk P f/\∀ (w:World) (M:Nat->Prop) (vs:List Value) (fpA:List Nat),Inv.ok w->(∀ b,Inv.dom b->¬ M b/\b∉fpA) ->
  RepL w (fun b=>M b\/b∈ycb xs vs) xs yn vs fpA->fpA.Nodup->(∀ b,b∈fpA->¬ M b)->(∀ b,M b->b<w.heap.size) ->
  Calls P f vs.toArray w fun e w'=>∃ v fpR,e=.returned v/\Keep w (ycb xs vs) w'/\Rep w' (fun b=>M b\/b∈fpR) r yn v fpR/\fpR.Nodup /\
   (∀ b,b∈fpR->(b∈fpA\/w.heap.size<=b)/\b<w'.heap.size)/\(∀ b,b∈tops r v->b∈ycb xs vs\/w.heap.size<=b)
def mapO (f : AV -> Option (AV × List Prop)) : List AV -> Option (List AV × List Prop)
  | []=>some ([],[])
  | x :: xs => match f x with
    | some (y, o1) => match mapO f xs with
      | some (ys,o2)=>some (y::ys,o1++o2)
      | none=>none
    | none=>none
def snapC (h : List Ent) : Nat -> AV -> Option (AV × List Prop)
  | 0,_=>none
  | d + 1, x => match x with
    | .int k n=>some (.int k n,[])
    | .bool b=>some (.bool b,[])
    | .str l=>some (.str l,[])
    | .nils=>some (.nils,[])
    | .sl none e n f=>some (.sl none e n f,[])
    | .ep cs=>some (.ep cs,[])
    | .ref id e off n => match nthE h id with
      | some (.arr _ e' n' f)=>if e=e' then some (.sl none e n (fun i=>borrowL (f (off+i))),[off+n<=n',∀ i,i<n->pureL (f (off+i))=true])else none
      | _=>none
    | .pe id e i o => match nthE h id with
      | some (.arr _ e' n' f)=>if e=e' then some (.ep (dropL o (borrowL (f i))),[i<n',pureL (f i)=true])else none
      | _=>none
    | .ptr id o => match nthE h id with
      | some (.box cs) => match mapO (snapC h d) (dropL o cs) with
        | some (ys,ob)=>some (.ep ys,ob)
        | none=>none
      | _=>none
    | .agg cs => match mapO (snapC h d) cs with
      | some (ys,ob)=>some (.agg ys,ob)
      | none=>none
    | .fn f k cs => match mapO (snapC h d) cs with
      | some (ys,ob)=>some (.fn f k ys,ob)
      | none=>none
    | .lit _ x=>some (x,[])
    | _=>none
section
variable {P:Program} {Γ:Env} {c:Ctx} {μ:Map} {FP:Nat->List Nat} {w:World}
theorem y7c {M M':Nat->Prop} {x:AV} {v:Value} (hM:∀ b,M' b->M b) (h:Rep w M x μ v []):Rep w M' x μ v []:=
 Rep.mono x (Map.le_refl _) ⟨Nat.le_refl _,fun b _ hb h'=>hb (hM b h'),fun _ _ _=>rfl⟩ h
theorem yuf {M M':Nat->Prop} {xs:List AV} {us:List Value} (hM:∀ b,M' b->M b) (h:RepL w M xs μ us []):RepL w M' xs μ us []:=
 RepL.mono xs (Map.le_refl _) ⟨Nat.le_refl _,fun b _ hb h'=>hb (hM b h'),fun _ _ _=>rfl⟩ h
theorem yuj {M M':Nat->Prop} {μ':Map} {g:AV->Option (AV×List Prop)} (hg:∀ x y ob v,g x=some (y,ob)->allP ob->Rep w M x μ v []->Rep w M' y μ' v []) :
  ∀ {xs ys:List AV} {ob:List Prop} {us:List Value},mapO g xs=some (ys,ob)->allP ob->RepL w M xs μ us []->RepL w M' ys μ' us []
 | [],ys,ob,us,h,_,hr=>by
  simp only[mapO,Option.some.injEq,Prod.mk.injEq]at h;obtain⟨rfl,rfl⟩:=h;simpa only[RepL]using hr
 | x::xs,ys,ob,us,h,ho,hr=>by
  simp only[mapO]at h
  cases hx:g x with
  | none=>simp[hx]at h
  | some p=>
   obtain⟨y,o1⟩:=p;simp only[hx]at h
   cases hxs:mapO g xs with
   | none=>simp[hxs]at h
   | some q=>
    obtain⟨zs,o2⟩:=q;simp only[hxs,Option.some.injEq,Prod.mk.injEq]at h;obtain⟨rfl,rfl⟩:=h;obtain⟨ho1,ho2⟩:=yk.1 ho;simp only[RepL]at hr ⊢;obtain⟨u,us',f1,f2,e1,hfp,h1,h2⟩:=hr;obtain⟨rfl,rfl⟩:=List.append_eq_nil_iff.1 hfp.symm;exact⟨u,us',[],[],e1,rfl,hg x y o1 u hx ho1 h1,yuj hg hxs ho2 h2⟩
theorem yqe {h h1 : List Ent} {M' : Nat -> Prop} (hW : WR c (Hof h) μ FP w) (hM' : ∀ b, M' b -> hot c.M0 (Hof h) μ b)
  (hsub:∀ id e,nthE h1 id=some e->e.live=true->nthE h id=some e)
  (hlive:∀ id b cap e,μ id=some (.blk b cap)->nthE h1 id=some e->e.live=true->M' b->False) :
  ∀ (d:Nat) (x y:AV) (ob:List Prop) (v:Value),snapC h1 d x=some (y,ob)->allP ob->Rep w (hot c.M0 (Hof h) μ) x μ v []->Rep w M' y yn v []
 | 0,x,y,ob,v,hs,_,_=>by simp[snapC]at hs
 | d+1,x,y,ob,v,hs,ho,hx=>by
  have ih:=yqe hW hM' hsub hlive d
  have hML:∀ {cs ys:List AV} {ob:List Prop} {us:List Value},mapO (snapC h1 d) cs=some (ys,ob)->allP ob->RepL w (hot c.M0 (Hof h) μ) cs μ us []->RepL w M' ys yn us []:=
   fun h1 h2 h3=>yuj ih h1 h2 h3
  cases x with
  | int k n=>simp only[snapC,Option.some.injEq,Prod.mk.injEq]at hs;obtain⟨rfl,rfl⟩:=hs;simpa only[Rep]using hx
  | bool b=>simp only[snapC,Option.some.injEq,Prod.mk.injEq]at hs;obtain⟨rfl,rfl⟩:=hs;simpa only[Rep]using hx
  | str l=>simp only[snapC,Option.some.injEq,Prod.mk.injEq]at hs;obtain⟨rfl,rfl⟩:=hs;simpa only[Rep]using hx
  | nils=>simp only[snapC,Option.some.injEq,Prod.mk.injEq]at hs;obtain⟨rfl,rfl⟩:=hs;simpa only[Rep]using hx
  | ep cs=>simp only[snapC,Option.some.injEq,Prod.mk.injEq]at hs;obtain⟨rfl,rfl⟩:=hs;have:=y7c hM' hx;simpa only[Rep]using this
  | sl own e n f=>
   cases own with
   | none=>simp only[snapC,Option.some.injEq,Prod.mk.injEq]at hs;obtain⟨rfl,rfl⟩:=hs;have:=y7c hM' hx;simpa only[Rep]using this
   | some T=>simp[snapC]at hs
  | tup _=>simp[snapC]at hs
  | op _=>simp[snapC]at hs
  | gd _ _=>simp[snapC]at hs
  | any=>simp[snapC]at hs
  | lit u x=>
   simp only[snapC,Option.some.injEq,Prod.mk.injEq]at hs;obtain⟨rfl,rfl⟩:=hs;simp only[Rep]at hx;exact y7c hM' hx.2.2
  | agg cs=>
   simp only[snapC]at hs
   cases hm:mapO (snapC h1 d) cs with
   | none=>simp[hm]at hs
   | some p=>
    obtain⟨ys,o1⟩:=p;simp only[hm,Option.some.injEq,Prod.mk.injEq]at hs;obtain⟨rfl,rfl⟩:=hs;simp only[Rep]at hx ⊢;obtain⟨us,e,hr⟩:=hx;exact⟨us,e,hML hm ho hr⟩
  | fn f k cs=>
   simp only[snapC]at hs
   cases hm:mapO (snapC h1 d) cs with
   | none=>simp[hm]at hs
   | some p=>
    obtain⟨ys,o1⟩:=p;simp only[hm,Option.some.injEq,Prod.mk.injEq]at hs;obtain⟨rfl,rfl⟩:=hs;simp only[Rep]at hx ⊢;obtain⟨e0,us,e,hr⟩:=hx;exact⟨trivial,us,e,hML hm ho hr⟩
  | ptr id o=>
   simp only[snapC]at hs;split at hs
   ·rename_i cs hid1
    have hid:=hsub _ _ hid1 rfl
    cases hm:mapO (snapC h1 d) (dropL o cs)with
    | none=>simp[hm]at hs
    | some p=>
     obtain⟨ys,o1⟩:=p;simp only[hm,Option.some.injEq,Prod.mk.injEq]at hs;obtain⟨rfl,rfl⟩:=hs;simp only[Rep]at hx ⊢;obtain⟨_,b,cap,hmu,rfl⟩:=hx;obtain⟨e,he,hok⟩:=hW.ent id _ hmu;have he2:Hof h id=some (.box cs):=hid;rw[he2]at he;cases he;obtain⟨b',cap',us,T,h1,h2,hh,hone,hr⟩:=hok;cases h1
     refine⟨trivial,b,o,us.drop o,rfl,(hW.lt hmu hid rfl).2,fun hb=>hlive id b cap _ hmu hid1 rfl hb,hML hm ho (yrc hr),?_⟩;intro j u hu;rw[List.getElem?_drop]at hu;rw[cell_of_row w b (o+j) us.toArray T (0,0) hh];exact⟨by simpa using hu,hone u (List.mem_of_getElem? hu)⟩
   ·simp at hs
  | pe id e i o=>
   simp only[snapC]at hs;split at hs
   ·rename_i T e' n' f hid1
    have hid:=hsub _ _ hid1 rfl;split at hs
    ·rename_i hee
     subst hee;simp only[Option.some.injEq,Prod.mk.injEq]at hs;obtain⟨rfl,rfl⟩:=hs;have hi:=ho.1;simp only[Rep]at hx ⊢;obtain⟨_,b,cap,hmu,rfl⟩:=hx;obtain⟨cur,us,fps,hE,hh,h1,h2,h3,hcl,hF⟩:=y9c hW hmu hid;have hr:=ymb (f i) (fun x hx=>hW.inner_cold hmu hF (List.mem_flatMap.2 ⟨i,List.mem_range.2 hi,hx⟩)) (ykb (μ':=yn) (f i) ho.2.1 (hE.rep i hi));exact⟨trivial,b,i * e+o,(us i).drop o,rfl,(hW.lt hmu hid rfl).2,fun hb=>hlive id b cap _ hmu hid1 rfl hb,yrc (yuf hM' hr),(hcl i hi).drop⟩
    ·simp at hs
   ·simp at hs
  | ref id e off n=>
   simp only[snapC]at hs;split at hs
   ·rename_i T e' n' f hid1
    have hid:=hsub _ _ hid1 rfl;split at hs
    ·rename_i hee
     subst hee;simp only[Option.some.injEq,Prod.mk.injEq]at hs;obtain⟨rfl,rfl⟩:=hs;have hle:=ho.1;simp only[Rep]at hx ⊢;obtain⟨_,hx⟩:=hx
     cases hm:μ id with
     | none=>simp[hm]at hx
     | some L=>
      cases L with
      | nil=>
       simp only[hm]at hx;obtain⟨_,rfl,rfl⟩:=hx;exact .inl ⟨rfl,.inl rfl,trivial⟩
      | blk b cap=>
       simp only[hm]at hx;obtain⟨hcap,o,rfl,hoo⟩:=hx;obtain⟨cur,us,fps,hE,hh,h1,h2,h3,hcl,hF⟩:=y9c hW hm hid;refine .inr ⟨b,o,cap-off,fun i=>us (off+i),fun _=>[],rfl,by omega,(hW.lt hm hid rfl).2,?_,fun hb=>hlive id b cap _ hm hid1 rfl hb,trivial,by simp⟩;intro i hi;have hr:=ymb (f (off+i)) (fun x hx=>hW.inner_cold hm hF (List.mem_flatMap.2 ⟨off+i,List.mem_range.2 (by omega),hx⟩)) (ykb (μ':=yn) (f (off+i)) (ho.2.1 i hi) (hE.rep (off+i) (by omega)));refine⟨yuf hM' hr,hE.len _ (by omega),?_⟩
       have hoe:o=off * e:=by
        rcases hoo with h5|h5
        ·omega
        ·exact h5
       subst hoe;have:=hcl (off+i) (by omega);rwa [Nat.add_mul]at this
    ·simp at hs
   ·simp at hs
end
end Go.Ab
namespace Go.Ab
open Go
variable [Inv]
mutual
def adE : AV -> List Ent
 | .sl (some T) e n f=>[.arr T e n f]
 | .op cs=>[.box cs]
 | .agg cs=>adEL cs
 | .tup cs=>adEL cs
 | _=>[]
def adEL : List AV -> List Ent
 | []=>[]
 | x::xs=>adE x++adEL xs
end
mutual
def adR (k : Nat) : AV -> AV
 | .sl (some _) e n _=>.ref k e 0 n
 | .op _=>.ptr k 0
 | .agg cs=>.agg (adRL k cs)
 | .tup cs=>.tup (adRL k cs)
 | x=>x
def adRL (k : Nat) : List AV -> List AV
 | []=>[]
 | x::xs=>adR k x::adRL (k+(adE x).length) xs
end
section
variable {P:Program} {c:Ctx} {μ:Map} {FP:Nat->List Nat} {w:World}
theorem Rep.fpNil {w:World} {M:Nat->Prop} {μ:Map} {x:AV} {v:Value} {fp:List Nat} (h:Rep w M x μ v fp) (hx:∀ T e n f,x≠.sl (some T) e n f) (h1:∀ cs,x≠.agg cs) (h2:∀ cs,x≠.tup cs) (h3:∀ cs,x≠.op cs):fp=[]:=by
 cases x with
 | sl own e n f=>
  cases own with
  | some T=>exact absurd rfl (hx T e n f)
  | none=>
   simp only[Rep]at h;rcases h with⟨_,_,h⟩|⟨b,o,cap,us,fps,_,_,_,_,_,h,_⟩<;>exact h
 | agg cs=>exact absurd rfl (h1 cs)
 | tup cs=>exact absurd rfl (h2 cs)
 | op cs=>exact absurd rfl (h3 cs)
 | int _ _=>simp only[Rep]at h;exact h.2
 | bool _=>simp only[Rep]at h;exact h.2
 | str _=>simp only[Rep]at h;exact h.2
 | nils=>simp only[Rep]at h;exact h.2
 | any=>simpa only[Rep]using h
 | lit _ _=>simp only[Rep]at h;exact h.1
 | ref _ _ _ _=>simp only[Rep]at h;exact h.1
 | ptr _ _=>simp only[Rep]at h;exact h.1
 | pe _ _ _ _=>simp only[Rep]at h;exact h.1
 | ep _=>simp only[Rep]at h;exact h.1
 | fn _ _ _=>simp only[Rep]at h;exact h.1
 | gd _ _=>simp only[Rep]at h;exact h.1
structure Ad (w:World) (M:Nat->Prop) (es:List Ent) (ls:List (Loc×List Nat)) (fp tp:List Nat):Prop where
 len:ls.length=es.length
 fps:fp=(ls.map (·.2)).flatten
 ok:∀ (k:Nat) (e:Ent) (L:Loc) (fq:List Nat),es[k]? = some e->ls[k]? = some (L,fq)->(∀ μ,y0b w M μ e L fq)/\∀ b cap,L=.blk b cap->b∈tp
theorem Ad.append {w:World} {M:Nat->Prop} {es es':List Ent} {ls ls':List (Loc×List Nat)} {fp fp' tp tp':List Nat} (h:Ad w M es ls fp tp) (h':Ad w M es' ls' fp' tp') :
  Ad w M (es++es') (ls++ls') (fp++fp') (tp++tp'):=by
 refine⟨by simp[h.len,h'.len],by simp[h.fps,h'.fps],?_⟩;intro k e L fq he hl;by_cases hk:k<es.length
 ·rw[List.getElem?_append_left hk]at he
  rw[List.getElem?_append_left (by rw[h.len];exact hk)]at hl;obtain⟨h1,h2⟩:=h.ok k e L fq he hl;exact⟨h1,fun b cap hL=>List.mem_append_left _ (h2 b cap hL)⟩
 ·rw[List.getElem?_append_right (by omega)]at he
  rw[List.getElem?_append_right (by rw[h.len];omega),h.len]at hl;obtain⟨h1,h2⟩:=h'.ok _ e L fq he hl;exact⟨h1,fun b cap hL=>List.mem_append_right _ (h2 b cap hL)⟩
mutual
theorem y0r {w:World} {M:Nat->Prop}:∀ (x:AV) {v:Value} {fp:List Nat},Rep w M x yn v fp ->
  ∃ ls,Ad w M (adE x) ls fp (tops x v)/\∀ (k:Nat) (μ:Map),(∀ (j:Nat) (L:Loc) (fq:List Nat),ls[j]? = some (L,fq)->μ (k+j)=some L)->Rep w M (adR k x) μ v []
 | .agg cs,v,fp,h=>by
  simp only[Rep]at h;obtain⟨us,rfl,h⟩:=h;obtain⟨ls,h1,h2⟩:=yym cs h;refine⟨ls,by simpa only[adE,tops]using h1,fun k μ hk => ?_⟩;simp only[adR,Rep];exact⟨us,rfl,h2 k μ hk⟩
 | .tup cs,v,fp,h=>by
  simp only[Rep]at h;obtain⟨us,rfl,h⟩:=h;obtain⟨ls,h1,h2⟩:=yym cs h;refine⟨ls,by simpa only[adE,tops]using h1,fun k μ hk => ?_⟩;simp only[adR,Rep];exact⟨us,rfl,h2 k μ hk⟩
 | .sl (some T) e n f,v,fp,h=>by
  simp only[Rep]at h;rcases h with⟨rfl,rfl,rfl⟩|⟨b,o,cap,us,fps,rfl,hn,hb,hc,rfl,rfl,cur,hcur,hsz,hcm⟩
  ·refine⟨[(.nil,[])],⟨rfl,by simp,?_⟩,?_⟩
   ·intro k e' L fq he hl
    cases k with
    | zero=>
     simp only[adE,List.getElem?_cons_zero,Option.some.injEq,Prod.mk.injEq]at he hl;obtain⟨rfl,rfl⟩:=hl;subst he;exact⟨fun μ=>⟨rfl,rfl⟩,by intro b cap h;cases h⟩
    | succ k=>simp[adE]at he
   ·intro k μ hk
    have:=hk 0 .nil [] rfl;simp only[adR,Rep];simp only[Nat.add_zero]at this;rw[this];exact⟨trivial,trivial,trivial,trivial⟩
  ·refine⟨[(.blk b cap,b::(List.range n).flatMap fps)],⟨rfl,by simp,?_⟩,?_⟩
   ·intro k e' L fq he hl
    cases k with
    | zero=>
     simp only[adE,List.getElem?_cons_zero,Option.some.injEq,Prod.mk.injEq]at he hl;obtain⟨rfl,rfl⟩:=hl;subst he;refine⟨fun μ=>⟨cur,us,fps,hcur,hsz,hn.1,hcm,fun i hi => ?_,rfl⟩,by intro b' cap' h;cases h;simp[tops,yyb]⟩;obtain⟨h1,h2,h3⟩:=hc i hi;exact⟨h1.lift,h2,by simpa using h3⟩
    | succ k=>simp[adE]at he
   ·intro k μ hk
    have:=hk 0 (.blk b cap) _ rfl;simp only[adR,Rep];simp only[Nat.add_zero]at this;rw[this];exact⟨trivial,by omega,0,rfl,.inr (by simp)⟩
 | .op cs,v,fp,h=>by
  simp only[Rep]at h;obtain⟨b,us,T,rfl,rfl,hb,hh,hone,hr⟩:=h;refine⟨[(.blk b 0,[b])],⟨rfl,by simp,?_⟩,?_⟩
  ·intro k e' L fq he hl
   cases k with
   | zero=>
    simp only[adE,List.getElem?_cons_zero,Option.some.injEq,Prod.mk.injEq]at he hl;obtain⟨rfl,rfl⟩:=hl;subst he;exact⟨fun μ=>⟨b,0,us,T,rfl,rfl,hh,hone,hr.lift⟩,by intro b' cap' h;cases h;simp[tops,yyb]⟩
   | succ k=>simp[adE]at he
  ·intro k μ hk
   have:=hk 0 (.blk b 0) _ rfl;simp only[adR,Rep];simp only[Nat.add_zero]at this;exact⟨trivial,b,0,this,rfl⟩
 | .sl none e n f,v,fp,h=>by
  have hfp:=h.fpNil (by intros;simp) (by intros;simp) (by intros;simp) (by intros;simp);subst hfp;exact⟨[],⟨rfl,rfl,by simp[adE]⟩,fun k μ _=>by simpa only[adR]using h.ofNoMap⟩
 | .int k n,v,fp,h=>by
  have hfp:=h.fpNil (by intros;simp) (by intros;simp) (by intros;simp) (by intros;simp);subst hfp;exact⟨[],⟨rfl,rfl,by simp[adE]⟩,fun k μ _=>by simpa only[adR]using h.ofNoMap⟩
 | .bool k,v,fp,h=>by
  have hfp:=h.fpNil (by intros;simp) (by intros;simp) (by intros;simp) (by intros;simp);subst hfp;exact⟨[],⟨rfl,rfl,by simp[adE]⟩,fun k μ _=>by simpa only[adR]using h.ofNoMap⟩
 | .str k,v,fp,h=>by
  have hfp:=h.fpNil (by intros;simp) (by intros;simp) (by intros;simp) (by intros;simp);subst hfp;exact⟨[],⟨rfl,rfl,by simp[adE]⟩,fun k μ _=>by simpa only[adR]using h.ofNoMap⟩
 | .nils,v,fp,h=>by
  have hfp:=h.fpNil (by intros;simp) (by intros;simp) (by intros;simp) (by intros;simp);subst hfp;exact⟨[],⟨rfl,rfl,by simp[adE]⟩,fun k μ _=>by simpa only[adR]using h.ofNoMap⟩
 | .any,v,fp,h=>by
  have hfp:=h.fpNil (by intros;simp) (by intros;simp) (by intros;simp) (by intros;simp);subst hfp;exact⟨[],⟨rfl,rfl,by simp[adE]⟩,fun k μ _=>by simpa only[adR]using h.ofNoMap⟩
 | .lit _ _,v,fp,h=>by
  have hfp:=h.fpNil (by intros;simp) (by intros;simp) (by intros;simp) (by intros;simp);subst hfp;exact⟨[],⟨rfl,rfl,by simp[adE]⟩,fun k μ _=>by simpa only[adR]using h.ofNoMap⟩
 | .ref _ _ _ _,v,fp,h=>by simp[Rep,yn]at h
 | .ptr _ _,v,fp,h=>by simp[Rep,yn]at h
 | .pe _ _ _ _,v,fp,h=>by simp[Rep,yn]at h
 | .ep k,v,fp,h=>by
  have hfp:=h.fpNil (by intros;simp) (by intros;simp) (by intros;simp) (by intros;simp);subst hfp;exact⟨[],⟨rfl,rfl,by simp[adE]⟩,fun k μ _=>by simpa only[adR]using h.ofNoMap⟩
 | .fn k _ cs,v,fp,h=>by
  have hfp:=h.fpNil (by intros;simp) (by intros;simp) (by intros;simp) (by intros;simp);subst hfp;exact⟨[],⟨rfl,rfl,by simp[adE]⟩,fun k μ _=>by simpa only[adR]using h.ofNoMap⟩
 | .gd k cs,v,fp,h=>by
  have hfp:=h.fpNil (by intros;simp) (by intros;simp) (by intros;simp) (by intros;simp);subst hfp;exact⟨[],⟨rfl,rfl,by simp[adE]⟩,fun k μ _=>by simpa only[adR]using h.ofNoMap⟩
theorem yym {w:World} {M:Nat->Prop}:∀ (xs:List AV) {vs:List Value} {fp:List Nat},RepL w M xs yn vs fp ->
  ∃ ls,Ad w M (adEL xs) ls fp (ycb xs vs)/\∀ (k:Nat) (μ:Map),(∀ (j:Nat) (L:Loc) (fq:List Nat),ls[j]? = some (L,fq)->μ (k+j)=some L)->RepL w M (adRL k xs) μ vs []
 | [],vs,fp,h=>by
  simp only[RepL]at h;obtain⟨rfl,rfl⟩:=h;exact⟨[],⟨rfl,rfl,by simp[adEL]⟩,fun k μ _=>by simp[adRL,RepL]⟩
 | x::xs,vs,fp,h=>by
  simp only[RepL]at h;obtain⟨u,us',f1,f2,rfl,rfl,h1,h2⟩:=h;obtain⟨l1,a1,a2⟩:=y0r x h1;obtain⟨l2,b1,b2⟩:=yym xs h2;refine⟨l1++l2,by simp only[adEL,ycb];exact a1.append b1,fun k μ hk => ?_⟩;simp only[adRL,RepL];refine⟨u,us',[],[],rfl,rfl,a2 k μ (fun j L fq hj=>hk j L fq ?_),b2 _ μ (fun j L fq hj => ?_)⟩
  ·rw[List.getElem?_append_left (List.getElem?_eq_some_iff.1 hj).1];exact hj
  ·have:=hk (l1.length+j) L fq (by rw[List.getElem?_append_right (by omega),Nat.add_sub_cancel_left];exact hj)
   rw[a1.len, <- Nat.add_assoc]at this;exact this
end
end
end Go.Ab
namespace Go.Ab
open Go
variable [Inv]
section
variable {P:Program} {c:Ctx} {μ:Map} {FP:Nat->List Nat} {w:World}
theorem yyl {h:List Ent} (hW:WR c (Hof h) μ FP w) {b:Nat} (hb:hot c.M0 (Hof h) μ b):b<w.heap.size:=by
 rcases hb with hb|⟨id,cap,e,hm,he,hl⟩
 ·exact Nat.lt_of_lt_of_le (c.cold0 b hb).1 hW.keep.size
 ·exact(hW.lt hm he hl).2
theorem ymg (h h':List Ent) (j:Nat):nthE (h++h') j=if j<h.length then nthE h j else nthE h' (j-h.length):=by
 rw[yrb,yrb,yrb];split
 ·rename_i hj;rw[List.getElem?_append_left hj]
 ·rename_i hj;rw[List.getElem?_append_right (by omega)]
theorem y5b {ls:List (Loc×List Nat)} (h:(ls.map (·.2)).flatten.Nodup):(∀ (k:Nat) (L:Loc) (fq:List Nat),ls[k]? = some (L,fq)->fq.Nodup) /\
  ∀ (i j:Nat) (L1:Loc) (f1:List Nat) (L2:Loc) (f2:List Nat),i≠j->ls[i]? = some (L1,f1)->ls[j]? = some (L2,f2)->∀ b,b∈f1->b∉f2:=by
 induction ls with
 | nil=>simp
 | cons x ls ih=>
  simp only[List.map_cons,List.flatten_cons,List.nodup_append]at h;obtain⟨ih1,ih2⟩:=ih h.2.1
  have hmem:∀ (j:Nat) (L2:Loc) (f2:List Nat),ls[j]? = some (L2,f2)->∀ b,b∈f2->b∈(ls.map (·.2)).flatten:=fun j L2 f2 hj b hb=>
   List.mem_flatten.2 ⟨f2,List.mem_map.2 ⟨(L2,f2),List.mem_of_getElem? hj,rfl⟩,hb⟩
  constructor
  ·intro k L fq hk
   cases k with
   | zero=>simp only[List.getElem?_cons_zero,Option.some.injEq]at hk;subst hk;exact h.1
   | succ k=>exact ih1 k L fq (by simpa using hk)
  ·intro i j L1 f1 L2 f2 hij hi hj b hb hb2
   cases i with
   | zero=>
    simp only[List.getElem?_cons_zero,Option.some.injEq]at hi;subst hi
    cases j with
    | zero=>exact hij rfl
    | succ j=>exact h.2.2 b hb b (hmem j L2 f2 (by simpa using hj) b hb2) rfl
   | succ i=>
    cases j with
    | zero=>
     simp only[List.getElem?_cons_zero,Option.some.injEq]at hj;subst hj;exact h.2.2 b hb2 b (hmem i L1 f1 (by simpa using hi) b hb) rfl
    | succ j=>exact ih2 i j L1 f1 L2 f2 (by omega) (by simpa using hi) (by simpa using hj) b hb hb2
mutual
theorem y8g {w : World} {M : Nat -> Prop} : ∀ (x : AV) {μ : Map} {v : Value} {fp : List Nat}, Rep w M x μ v fp -> ∀ b, b ∈ tops x v -> b ∈ fp
 | .agg cs,μ,v,fp,h,b,hb=>by
  simp only[Rep]at h;obtain⟨us,rfl,h⟩:=h;exact ycc cs h b (by simpa only[tops]using hb)
 | .tup cs,μ,v,fp,h,b,hb=>by
  simp only[Rep]at h;obtain⟨us,rfl,h⟩:=h;exact ycc cs h b (by simpa only[tops]using hb)
 | .sl (some T) e n f,μ,v,fp,h,b,hb=>by
  simp only[Rep]at h;rcases h with⟨_,rfl,_⟩|⟨b',o,cap,us,fps,rfl,hn,hb',hc,rfl,rfl,_⟩
  ·simp[tops,yyb]at hb
  ·simp only[tops,yyb,List.mem_singleton]at hb;subst hb;simp
 | .op cs,μ,v,fp,h,b,hb=>by
  simp only[Rep]at h;obtain⟨b',us,T,rfl,rfl,_⟩:=h;simp only[tops,yyb,List.mem_singleton]at hb;subst hb;simp
 | .sl none e n f,_,v,_,_,_,hb=>by simp[tops,yyb]at hb
 | .int _ _,_,v,_,_,_,hb=>by simp[tops,yyb]at hb
 | .bool _,_,v,_,_,_,hb=>by simp[tops,yyb]at hb
 | .str _,_,v,_,_,_,hb=>by simp[tops,yyb]at hb
 | .nils,_,v,_,_,_,hb=>by simp[tops,yyb]at hb
 | .any,_,v,_,_,_,hb=>by simp[tops,yyb]at hb
 | .lit ..,_,v,_,_,_,hb=>by simp[tops,yyb]at hb
 | .ref ..,_,v,_,_,_,hb=>by simp[tops,yyb]at hb
 | .ptr ..,_,v,_,_,_,hb=>by simp[tops,yyb]at hb
 | .pe ..,_,v,_,_,_,hb=>by simp[tops,yyb]at hb
 | .ep ..,_,v,_,_,_,hb=>by simp[tops,yyb]at hb
 | .fn ..,_,v,_,_,_,hb=>by simp[tops,yyb]at hb
 | .gd ..,_,v,_,_,_,hb=>by simp[tops,yyb]at hb
theorem ycc {w : World} {M : Nat -> Prop} : ∀ (xs : List AV) {μ : Map} {vs : List Value} {fp : List Nat}, RepL w M xs μ vs fp -> ∀ b, b ∈ ycb xs vs -> b ∈ fp
 | [],_,_,_,_,b,hb=>by simp[ycb]at hb
 | x::xs,μ,vs,fp,h,b,hb=>by
  simp only[RepL]at h;obtain⟨u,us',f1,f2,rfl,rfl,h1,h2⟩:=h;simp only[ycb,List.mem_append]at hb;rcases hb with hb|hb
  ·exact List.mem_append_left _ (y8g x h1 b hb)
  ·exact List.mem_append_right _ (ycc xs h2 b hb)
end
theorem y0q {h h1 : List Ent} {f : FuncId} {az : List AV} {r : AV} {vs : List Value} {fpA : List Nat} (hW : WR c (Hof h) μ FP w) (hd : Tail h μ) (Kl : List Nat) (hlen : h1.length = h.length)
  (hk1:∀ id,id∈Kl->nthE h1 id=some .dead/\∃ e,nthE h id=some e/\e.live=true) (hk2:∀ id,id∉Kl->nthE h1 id=nthE h id)
  {M:Nat->Prop} (hMhot:∀ b,M b->hot c.M0 (Hof h) μ b) (hA:RepL w (fun b=>M b\/b∈ycb az vs) az yn vs fpA) (hAn:fpA.Nodup) (hAm:∀ b,b∈fpA->¬ M b)
  (hAk:∀ b,b∈fpA->∃ id,id∈Kl/\b∈FP id) (hAt:∀ b,b∈ycb az vs->∃ id,id∈Kl/\∃ cap,μ id=some (.blk b cap))
  (hres:NoBor r\/∀ b,hot c.M0 (Hof h) μ b->M b\/∃ id,id∈Kl/\∃ cap,μ id=some (.blk b cap)) (hD:Den P f az r) :
  Calls P f vs.toArray w fun e w'=>∃ v μ',e=.returned v/\Next1 c h μ w (h1++adE r) μ' w'/\Rep w' (hot c.M0 (Hof (h1++adE r)) μ') (adR h.length r) μ' v []:=by
 refine(hD.2 w M vs fpA hW.inv (fun b hb=>⟨fun h=>hW.inv_hot hb (hMhot b h),fun h=>by obtain⟨id,_,h2⟩:=hAk b h;exact hW.inv_fp hb id h2⟩) hA hAn hAm (fun b hb=>yyl hW (hMhot b hb))).mono ?_;rintro e w' ⟨v,fpR,rfl,hK,hr,hRn,hRm,hRt⟩
 generalize hh2:h1++adE r=h2
 have htopK:∀ id b cap,id∈Kl->μ id=some (.blk b cap)->hot c.M0 (Hof h) μ b/\b∈FP id:=by
  intro id b cap hid hm;obtain⟨_,e0,he,hl⟩:=hk1 id hid;exact⟨.inr ⟨id,cap,e0,hm,he,hl⟩,(hW.lt hm he hl).1⟩
 have hold:∀ id,μ id≠none->id<h.length:=fun id hid=>Nat.lt_of_not_le fun hle=>hid (hd id hle)
 have hH2old:∀ id,id<h.length->Hof h2 id=nthE h1 id:=by
  intro id hid;subst hh2;simp only[Hof,ymg];rw[if_pos (by omega)]
 have hcoldTop:∀ b,b∈ycb az vs->hot c.M0 (Hof h) μ b:=fun b hb=>by
  obtain⟨id,hid,cap,hm⟩:=hAt b hb;exact(htopK id b cap hid hm).1
 -- live blocks of h1 are not handed over
 have hlive1:∀ id b cap e,μ id=some (.blk b cap)->nthE h1 id=some e->e.live=true->hot c.M0 (Hof h) μ b/\∀ id',id'∈Kl->∀ cap',μ id'≠some (.blk b cap'):=by
  intro id b cap e hm he hl;have hnk:id∉Kl:=fun hk=>by rw[(hk1 id hk).1]at he;cases he;simp[Ent.live]at hl
  rw[hk2 id hnk]at he;refine⟨.inr ⟨id,cap,e,hm,he,hl⟩,fun id' hid' cap' hm' => ?_⟩;exact hW.disj id id' (fun e=>hnk (e ▸ hid')) b (hW.lt hm he hl).1 (htopK id' b cap' hid' hm').2
 -- the result,read where only what is live or comes is hot
 have hrX:Rep w' (fun b=>hot c.M0 (Hof h1) μ b\/b∈tops r v) r yn v fpR:=by
  rcases hres with hnb|hop
  ·exact Rep.noBor r hnb hr
  ·refine Rep.mono r (Map.le_refl _) ⟨Nat.le_refl _,fun b _ hb hh=>hb ?_,fun _ _ _=>rfl⟩ hr
   rcases hh with hh|hh
   ·left
    rcases hh with hh|⟨id,cap,e,hm,he,hl⟩
    ·rcases hop b (.inl hh)with h1|⟨id,hid,cap,hm⟩
     ·exact h1
     ·exfalso
      have h2:=(htopK id b cap hid hm).2;have h3:=c.cold0 b hh;rcases(hW.new id b h2).1 with h4|h4
      ·exact h3.2 h4
      ·omega
    ·have hl1:=hlive1 id b cap e hm he hl
     rcases hop b hl1.1 with h1|⟨id',hid',cap',hm'⟩
     ·exact h1
     ·exact absurd hm' (hl1.2 id' hid' cap')
   ·exact .inr (y8g r hr b hh)
 obtain⟨ls,hAd,hAdR⟩:=y0r r hrX;have hlsn:=y5b (ls:=ls) (by rw[<- hAd.fps];exact hRn);let μ':Map:=fun i=>if i<h.length then μ i else(ls[i-h.length]?).map (·.1)
 let FP':Nat->List Nat:=fun i=>if i<h.length then(if i∈Kl then[]else FP i)else((ls[i-h.length]?).map (·.2)).getD []
 have hμold:∀ i,i<h.length->μ' i=μ i:=fun i hi=>by simp only[μ',if_pos hi]
 have hμnew:∀ i,h.length<=i->μ' i=(ls[i-h.length]?).map (·.1):=fun i hi=>by simp only[μ'];rw[if_neg (by omega)]
 have hFold:∀ i,i<h.length->FP' i=if i∈Kl then[]else FP i:=fun i hi=>by simp only[FP',if_pos hi]
 have hFnew:∀ i,h.length<=i->FP' i=((ls[i-h.length]?).map (·.2)).getD []:=fun i hi=>by simp only[FP'];rw[if_neg (by omega)]
 have hHnew:∀ i,h.length<=i->Hof h2 i=(adE r)[i-h.length]? := by
  intro i hi;subst hh2;simp only[Hof,ymg];rw[if_neg (by omega),yrb,hlen]
 have hKold:∀ id,id∈Kl->id<h.length:=fun id hid=>by obtain⟨_,e,he,_⟩:=hk1 id hid;exact ymc he
 have hle:μ.le μ':=fun i L hi=>by rw[hμold i (hold i (by simp[hi]))];exact hi
 have hlsE:∀ (k:Nat) (L:Loc) (fq:List Nat),ls[k]? = some (L,fq)->∃ e,(adE r)[k]? = some e:=by
  intro k L fq hk;have:k<(adE r).length:=by rw[<- hAd.len];exact(List.getElem?_eq_some_iff.1 hk).1
  exact⟨_,List.getElem?_eq_getElem this⟩
 have hfpR:∀ (k:Nat) (L:Loc) (fq:List Nat),ls[k]? = some (L,fq)->∀ b,b∈fq->b∈fpR:=fun k L fq hk b hb=>by
  rw[hAd.fps];exact List.mem_flatten.2 ⟨fq,List.mem_map.2 ⟨(L,fq),List.mem_of_getElem? hk,rfl⟩,hb⟩
 -- what is hot behind the call
 have hhot':∀ b,hot c.M0 (Hof h2) μ' b->hot c.M0 (Hof h1) μ b\/b∈tops r v:=by
  intro b hb;rcases hb with hb|⟨id,cap,e,hm,he,hl⟩
  ·exact .inl (.inl hb)
  ·by_cases hid:id<h.length
   ·rw[hμold id hid]at hm
    rw[hH2old id hid]at he;exact .inl (.inr ⟨id,cap,e,hm,he,hl⟩)
   ·rw[hμnew id (by omega)]at hm
    rw[hHnew id (by omega)]at he
    cases hls:ls[id-h.length]? with
    | none=>simp[hls]at hm
    | some p=>
     obtain⟨L,fq⟩:=p;simp only[hls,Option.map_some,Option.some.injEq]at hm;subst hm;exact .inr ((hAd.ok _ e _ fq he hls).2 b cap rfl)
 have hup := WR.update (H' := Hof h2) (μ' := μ') (FP' := FP') (w' := w') (fun i => i ∈ Kl) [] hW (Free.nil _ _ _) hK.os hK.tape hK.output hK.size
  (by
   intro b hb;by_cases hbt:b∈ycb az vs
   ·obtain⟨id,hid,cap,hm⟩:=hAt b hbt
    exact .inr ⟨(htopK id b cap hid hm).1,id,hid,(htopK id b cap hid hm).2⟩
   ·exact .inl (hK.block b hb hbt))
  hle
  (by
   intro i hi hk
   rw[hH2old i (hold i hi),hk2 i hk];rfl)
  (by
   intro i hi hk
   rw[hFold i (hold i hi),if_neg hk])
  (by
   intro i L hi hL;by_cases hid:i<h.length
   ·rw[hμold i hid]at hL
    rcases hi with hi|hi
    ·rw[hi]at hL;cases hL
    ·exact⟨.dead,by rw[hH2old i hid];exact(hk1 i hi).1,by rw[hFold i hid,if_pos hi];rfl⟩
   ·rw[hμnew i (by omega)]at hL
    cases hls:ls[i-h.length]? with
    | none=>simp[hls]at hL
    | some p=>
     obtain⟨L',fq⟩:=p;simp only[hls,Option.map_some,Option.some.injEq]at hL;subst hL;obtain⟨e,he⟩:=hlsE _ _ _ hls;refine⟨e,by rw[hHnew i (by omega)];exact he,?_⟩;rw[hFnew i (by omega),hls];simp only[Option.map_some,Option.getD_some]
     exact y0b.mono (Map.le_refl _) ⟨Nat.le_refl _,fun b _ hb hh=>hb (hhot' b hh),fun _ _ _=>rfl⟩ (fun b hb=>(hRm b (hfpR _ _ _ hls b hb)).2) ((hAd.ok _ e _ fq he hls).1 μ'))
  (by
   intro i b cap e hi hm he hl;by_cases hid:i<h.length
   ·rw[hμold i hid]at hm
    rcases hi with hi|hi
    ·rw[hi]at hm;cases hm
    ·rw[hH2old i hid,(hk1 i hi).1]at he;cases he;simp[Ent.live]at hl
   ·have hb:hot c.M0 (Hof h2) μ' b:=.inr ⟨i,cap,e,hm,he,hl⟩
    rw[hμnew i (by omega)]at hm;rw[hHnew i (by omega)]at he
    cases hls:ls[i-h.length]? with
    | none=>simp[hls]at hm
    | some p=>
     obtain⟨L,fq⟩:=p;simp only[hls,Option.map_some,Option.some.injEq]at hm;subst hm;have:=(hAd.ok _ e _ fq he hls).2 b cap rfl;rcases hRt b this with h3|h3
     ·exact .inl (hcoldTop b h3)
     ·exact .inr h3)
  (by
   intro i b hi hb;by_cases hid:i<h.length
   ·rw[hFold i hid]at hb
    split at hb
    ·simp at hb
    ·rename_i hk
     rw[hW.out i (hi.resolve_right hk)]at hb;simp at hb
   ·rw[hFnew i (by omega)]at hb
    cases hls:ls[i-h.length]? with
    | none=>simp[hls]at hb
    | some p=>
     obtain⟨L,fq⟩:=p;simp only[hls,Option.map_some,Option.getD_some]at hb;have h3:=hRm b (hfpR _ _ _ hls b hb);rcases h3.1 with h4|h4
     ·obtain⟨id,hid',hF⟩:=hAk b h4
      exact .inl ⟨id,hid',hF⟩
     ·exact .inr (.inl ⟨h4,h3.2⟩))
  (by
   intro i hi;by_cases hid:i<h.length
   ·rw[hμold i hid]at hi
    rw[hFold i hid];split
    ·rfl
    ·exact hW.out i hi
   ·rw[hμnew i (by omega)]at hi
    rw[hFnew i (by omega)]
    cases hls:ls[i-h.length]? with
    | none=>rfl
    | some p=>simp[hls]at hi)
  (by
   intro i _;by_cases hid:i<h.length
   ·rw[hFold i hid]
    split
    ·simp
    ·exact hW.nodup i
   ·rw[hFnew i (by omega)]
    cases hls:ls[i-h.length]? with
    | none=>simp
    | some p=>obtain⟨L,fq⟩:=p;exact hlsn.1 _ L fq hls)
  (by
   have hempty:∀ i,i<h.length->(μ i=none\/i∈Kl)->FP' i=[]:=by
    intro i hid hi;rw[hFold i hid];split
    ·rfl
    ·rename_i hk;exact hW.out i (hi.resolve_right hk)
   intro i j hij hi hj b hbi hbj;by_cases hid:i<h.length
   ·rw[hempty i hid hi]at hbi;simp at hbi
   ·by_cases hjd:j<h.length
    ·rw[hempty j hjd hj]at hbj;simp at hbj
    ·rw[hFnew i (by omega)]at hbi
     rw[hFnew j (by omega)]at hbj
     cases hli:ls[i-h.length]? with
     | none=>simp[hli]at hbi
     | some p=>
      cases hlj:ls[j-h.length]? with
      | none=>simp[hlj]at hbj
      | some q=>
       obtain⟨L1,f1⟩:=p;obtain⟨L2,f2⟩:=q;simp only[hli,hlj,Option.map_some,Option.getD_some]at hbi hbj
       exact hlsn.2 _ _ L1 f1 L2 f2 (by omega) hli hlj b hbi hbj)
 refine⟨v,μ',rfl,⟨⟨FP',hup.1⟩,?_,hup.2⟩,?_⟩
 ·intro i hi
  subst hh2;rw[List.length_append,hlen]at hi;rw[hμnew i (by omega),List.getElem?_eq_none (by rw[hAd.len];omega)];rfl
 ·refine Rep.mono _ (Map.le_refl _) ⟨Nat.le_refl _,fun b _ hb hh=>hb (hhot' b hh),fun _ _ _=>rfl⟩ (hAdR h.length μ' ?_)
  intro j L fq hj;rw[hμnew _ (by omega),Nat.add_sub_cancel_left,hj];rfl
end
end Go.Ab
