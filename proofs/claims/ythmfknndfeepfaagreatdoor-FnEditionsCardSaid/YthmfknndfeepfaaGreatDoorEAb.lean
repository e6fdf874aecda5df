/- Walks and lemmas. No conditions. -/
import Derived.Lib.OthersKept
import Derived.Test.YthmfknndfeepfaaGreatDoorEAa
set_option linter.unusedSectionVars false
set_option linter.unusedVariables false
set_option linter.unusedSimpArgs false
namespace Go.Ab
open Go
variable [Inv]
section
variable {P:Program} {Γ:Env} {c:Ctx} {μ:Map} {FP:Nat->List Nat} {w:World} {R:List Nat}
theorem yft {sz : Nat} : ∀ {xs : List AV} {h h' : List Ent} {css : List (List AV)} {obl : List Prop}, yvk h sz xs = some (css, h', obl) -> css.length = xs.length
 | [],h,h',css,obl,ha=>by
  simp only[yvk,Option.some.injEq,Prod.mk.injEq]at ha;obtain⟨rfl,rfl,rfl⟩:=ha;rfl
 | x::xs,h,h',css,obl,ha=>by
  simp only[yvk]at ha;split at ha
  ·split at ha
   ·split at ha
    ·split at ha
     ·rename_i h2 _ _ hr
      simp only[Option.some.injEq,Prod.mk.injEq]at ha;obtain⟨rfl,rfl,rfl⟩:=ha;simp[yft hr]
     ·simp at ha
    ·simp at ha
   ·simp at ha
  ·simp at ha
theorem ynn {sz:Nat}:∀ {xs:List AV} {h h':List Ent} {css:List (List AV)} {vs:List Value} {obl:List Prop} {FP:Nat->List Nat} {R:List Nat},WR c (Hof h) μ FP w->Free c FP w R ->
  RepL w (hot c.M0 (Hof h) μ) xs μ vs []->yvk h sz xs=some (css,h',obl)->allP obl ->
  ∃ FP',∃ uss:List (List Value),∃ fpss:List (List Nat),WR c (Hof h') μ FP' w/\Free c FP' w (R++fpss.flatten)/\Trans c.M0 (Hof h) μ w (Hof h') μ w/\h'.length=h.length /\
   uss.length=xs.length/\fpss.length=xs.length/\vs.map (·.cells)=uss.map (·.toArray) /\
   (∀ i,i<xs.length->RepL w (hot c.M0 (Hof h') μ) (elt css i) yw (uss.getD i []) (fpss.getD i [])/\(uss.getD i []).length=sz/\∀ u∈uss.getD i [],u.oneCell'=true)
 | [],h,h',css,vs,obl,FP,R,hW,hR,hx,ha,_=>by
  simp only[yvk,Option.some.injEq,Prod.mk.injEq]at ha;obtain⟨rfl,rfl,rfl⟩:=ha;simp only[RepL]at hx;obtain⟨rfl,_⟩:=hx;exact⟨FP,[],[],hW,by simpa using hR,Trans.refl _ _ _ _,rfl,rfl,rfl,rfl,by simp⟩
 | x::xs,h,h',css,vs,obl,FP,R,hW,hR,hx,ha,ho=>by
  simp only[RepL]at hx;obtain⟨v,vs',f1,f2,rfl,hfp,h1,h2⟩:=hx;obtain⟨rfl,rfl⟩:=List.append_eq_nil_iff.1 hfp.symm;simp only[yvk]at ha
  cases hc:ytd x with
  | none=>simp[hc]at ha
  | some cs=>
   simp only[hc]at ha;split at ha
   ·rename_i hlen
    cases hal:absL h cs with
    | none=>simp[hal]at ha
    | some p=>
     obtain⟨ys,h1',o1⟩:=p;simp only[hal]at ha
     cases hll:yvk h1' sz xs with
     | none=>simp[hll]at ha
     | some q=>
      obtain⟨yss,h2',o2⟩:=q;simp only[hll,Option.some.injEq,Prod.mk.injEq]at ha;obtain⟨rfl,rfl,rfl⟩:=ha;obtain⟨ho1,ho2⟩:=yk.1 ho;obtain⟨us,hu,hr⟩:=h1.cells hc;obtain⟨FP1,fp1,a1,a2,a3,a4,a5,a6⟩:=yzg hW hR hr hal ho1;obtain⟨FP2,uss,fpss,b1,b2,b3,b4,b5,b6,b7,b8⟩:=ynn a1 a2 (RepL.mono xs (Map.le_refl _) (a4.sameFp _) h2) hll ho2;refine⟨FP2,us::uss,fp1::fpss,b1,by simpa using b2,a4.trans b3,b4.trans a6,by simp[b5],by simp[b6],by simp[hu,b7],?_⟩;intro i hi
      cases i with
      | zero=>
       simp only[elt,List.getD_cons_zero];exact⟨RepL.mono ys (Map.le_refl _) (b3.sameFp _) a3,by rw[hr.length,hlen],a5⟩
      | succ i=>
       simp only[elt,List.getD_cons_succ];exact b8 i (by simpa using hi)
   ·simp at ha
theorem yxh : ∀ (pre ns rest : List Value), ns.length <= rest.length -> putV pre.length ns (pre ++ rest) = pre ++ ns ++ rest.drop ns.length
 | [],[],rest,_=>by simp[putV]
 | [],n::ns,[],h=>by simp at h
 | [],n::ns,r::rest,h=>by
  have:=yxh [] ns rest (by simpa using h);simp only[List.length_nil,List.nil_append]at this;simp[putV,this]
 | p::pre,ns,rest,h=>by
  have:=yxh pre ns rest h;simp only[List.append_assoc]at this;simp[putV,this]
theorem y1y (sz:Nat):∀ (vs:List (Nat×Value)) (uss:List (List Value)) (pre rest:List Value) (k:Nat),(∀ i p,vs[i]? = some p->p.1=k+i)->vs.map (·.2.cells)=uss.map (·.toArray) ->
  (∀ us∈uss,us.length=sz)->pre.length=k * sz->rest.length=uss.length * sz ->
  Instr.fill (fun i=>some (i * sz,sz)) (pre++rest).toArray vs=some (pre++uss.flatten).toArray
 | [],uss,pre,rest,k,_,hv,_,_,hr=>by
  have:uss=[]:=by simpa using hv.symm
  subst this;have:rest=[]:=List.eq_nil_of_length_eq_zero (by simpa using hr);subst this;simp[Instr.fill]
 | p::vs,uss,pre,rest,k,hk,hv,hs,hp,hr=>by
  cases uss with
  | nil=>simp at hv
  | cons us uss=>
   obtain⟨i,v⟩:=p;have hi:i=k:=by have:=hk 0 (i,v) rfl;simpa using this
   subst hi;simp only[List.map_cons,List.cons.injEq]at hv;have hus:us.length=sz:=hs us (by simp);have hrl:rest.length=sz+uss.length * sz:=by rw[hr,List.length_cons,Nat.add_mul,Nat.one_mul,Nat.add_comm]
   have hcond:¬ (v.cells.size≠sz\/i * sz+v.cells.size > (pre++rest).toArray.size):=by
    rw[hv.1];simp only[List.size_toArray,List.length_append];omega
   simp only[Instr.fill];rw[if_neg (by simpa using hcond),hv.1,ytg, <- hp,yxh pre us rest (by omega)]
   have ih := y1y sz vs uss (pre ++ us) (rest.drop us.length) (i + 1) (fun j q hq => by have := hk (j + 1) q (by simpa using hq); omega) hv.2 (fun x hx => hs x (by simp [hx]))
    (by simp[hp,hus,Nat.add_mul]) (by rw[List.length_drop];omega)
   rw[ih];simp
theorem y5m : ∀ {l : List (Nat × AV)} {k : Nat}, ywj k l = true -> ∀ i p, l[i]? = some p -> p.1 = k + i
 | [],_,_,i,p,h=>by simp at h
 | (j,x)::l,k,hs,i,p,h=>by
  simp only[ywj,Bool.and_eq_true]at hs;have hj:j=k:=Nat.eq_of_beq_eq_true hs.1
  cases i with
  | zero=>simp only[List.getElem?_cons_zero,Option.some.injEq]at h;subst h;simp[hj]
  | succ i=>
   have:=y5m hs.2 i p (by simpa using h);omega
theorem ygm {sz : Nat} : ∀ {uss : List (List Value)} {i j : Nat}, (∀ us ∈ uss, us.length = sz) -> i < uss.length -> j < sz -> uss.flatten[i * sz + j]? = (uss.getD i [])[j]?
 | [],i,j,_,hi,_=>by simp at hi
 | us::uss,0,j,hs,_,hj=>by
  have hl:us.length=sz:=hs us (by simp);simp only[List.flatten_cons,Nat.zero_mul,Nat.zero_add,List.getD_cons_zero];rw[List.getElem?_append_left (by omega)]
 | us::uss,i+1,j,hs,hi,hj=>by
  have hl:us.length=sz:=hs us (by simp);simp only[List.flatten_cons,List.getD_cons_succ];rw[List.getElem?_append_right (by rw[hl,Nat.add_mul];omega),hl];have:(i+1) * sz+j-sz=i * sz+j:=by rw[Nat.add_mul];omega
  rw[this];exact ygm (fun x hx=>hs x (by simp[hx])) (by simpa using hi) hj
theorem ylh {sz : Nat} : ∀ {uss : List (List Value)}, (∀ us ∈ uss, us.length = sz) -> uss.flatten.length = uss.length * sz
 | [],_=>by simp
 | us::uss,hs=>by
  rw[List.flatten_cons,List.length_append,ylh (fun x hx=>hs x (by simp[hx])),hs us (by simp),List.length_cons,Nat.add_mul,Nat.one_mul,Nat.add_comm]
theorem yck : ∀ (l : List (List Nat)), (List.range l.length).flatMap (fun i => l.getD i []) = l.flatten
 | []=>by simp
 | x::l=>by
  rw[List.length_cons,List.range_succ_eq_map,List.flatMap_cons,List.flatMap_map,List.flatten_cons];simp only[List.getD_cons_zero,List.getD_cons_succ];rw[yck l]
theorem yup (hΓ : TyOk P Γ) {h h' : List Ent} {t : TypeId} {len : Nat} {parts : List (Nat × AV)} {vals : List (Nat × Value)} {r : AV} {obl : List Prop} (hW : WR c (Hof h) μ FP w) (hd : Tail h μ)
  (hb:y2q Γ h t len parts=some (r,h',obl)) (ho:allP obl)
  (hv:vals.map (·.1)=parts.map (·.1)) (hr:RepL w (hot c.M0 (Hof h) μ) (parts.map (·.2)) μ (vals.map (·.2)) []) :
  ∃ z μ' w',(Instr.buildSlice t len vals.toArray).run P w=.ok z w'/\Next1 c h μ w h' μ' w'/\Rep w' (hot c.M0 (Hof h') μ') r μ' z []:=by
 unfold y2q at hb
 cases ht:tget Γ t with
 | none=>simp[ht]at hb
 | some j=>
  obtain⟨inf,d,hinf,hdd,hti,_⟩:=yg (hΓ.get ht);simp only[ht]at hb;split at hb
  ·rename_i et hk
   rw[hk]at hti;have:=y6b hti;subst this
   cases het:tget Γ et with
   | none=>simp[het]at hb
   | some k=>
    obtain⟨inf2,d2,hinf2,hd2,hti2,hsz2,hby2,hzero2,hones2⟩:=yg (hΓ.get het);simp only[het]at hb;split at hb
    ·simp at hb
    ·rename_i z0 zs hz0
     split at hb
     ·rename_i hcond
      obtain⟨hpl,hseq,hsz,hlen16⟩:=hcond
      cases hll:yvk h k.size (parts.map (·.2))with
      | none=>simp[hll]at hb
      | some p=>
       obtain⟨css,h1,o1⟩:=p;simp only[hll,Option.some.injEq,Prod.mk.injEq]at hb;obtain⟨rfl,rfl,rfl⟩:=hb
       cases hz:inf2.zero with
       | none=>rw[hzero2,hz]at hz0;simp at hz0
       | some z=>
        obtain⟨FP1,uss,fpss,a1,a2,a3,a4,a5,a6,a7,a8⟩:=ynn hW (Free.nil _ _ _) hr hll ho;simp only[List.nil_append]at a2;simp only[List.length_map,hpl]at a5 a6 a8
        have husz:∀ us∈uss,us.length=k.size:=by
         intro us hus;obtain⟨i,hi,rfl⟩:=List.getElem_of_mem hus;have:=(a8 i (by omega)).2.1;simpa [List.getD_eq_getElem?_getD,List.getElem?_eq_getElem hi]using this
        have hd1:Tail h1 μ:=fun id hid=>hd id (by omega)
        have hvk:∀ i p,vals[i]? = some p->p.1=0+i:=by
         intro i p hp;have h1:(vals.map (·.1))[i]? = some p.1:=by simp[hp]
         rw[hv,List.getElem?_map,Option.map_eq_some_iff]at h1;obtain⟨q,hq,he⟩:=h1;rw[<- he];exact y5m hseq i q hq
        have hfill:=y1y k.size vals uss [] ((List.range (len * k.size)).map fun i=>z.cells[i % z.cells.size]!) 0 hvk (by simpa [List.map_map,Function.comp_def]using a7) husz (by simp) (by simp[a5]);simp only[List.nil_append]at hfill
        have hrun:(Instr.buildSlice t len vals.toArray).run P w=.ok (.slice (some ⟨w.heap.size,0,none⟩) len len) (w.alloc (.cells uss.flatten.toArray et)):=by
         have hn2:¬ (16777216<len * k.size):=by omega
         have key:∀ zc:Array Value,(len * k.size=0\/zc=z.cells)->(Instr.fill (fun i=>some (i * k.size,k.size)) ((Array.range (len * k.size)).map fun i=>zc[i % zc.size]!) vals)=some uss.flatten.toArray:=by
          intro zc hzc
          have e1:((Array.range (len * k.size)).map fun i=>zc[i % zc.size]!)=((List.range (len * k.size)).map fun i=>z.cells[i % z.cells.size]!).toArray:=by
           rcases hzc with h0|rfl
           ·rw[h0];simp
           ·apply Array.ext';simp
          rw[e1];exact hfill
         have hlet:∀ zc:Array Value,(len * k.size=0\/zc=z.cells)->(do
           let some cells := Instr.fill (fun i => some (i * k.size, k.size)) ((Array.range (len * k.size)).map fun i => zc[i % zc.size]!) vals
            | stuck "buildSlice: a part of the wrong size"
           pure (.slice (some (<- newRow et cells)) len len):Sem Value).run P w=.ok (.slice (some ⟨w.heap.size,0,none⟩) len len) (w.alloc (.cells uss.flatten.toArray et)):=by
          intro zc hzc;rw[key zc hzc];simp[newRow]
         have hzv:(zeroValue et).run P w=.ok z w:=by
          simp only[zeroValue,typeInfo,Sem.run_bind,run_program,hinf2,Result.andThen_ok,Sem.run_pure,hz]
         unfold Instr.buildSlice;simp only[Sem.run_bind,run_underlying hdd,Result.andThen_ok,yrb (P:=P) (w:=w) (hΓ.get het),gt_iff_lt,Nat.reducePow,hn2,if_false];by_cases hn:len * k.size=0
         ·rw[if_pos hn]
          exact hlet #[] (.inl hn)
         ·rw[if_neg hn,Sem.run_bind,hzv]
          exact hlet z.cells (.inr rfl)
        obtain ⟨q1, q2, q3⟩ := a1.put a2 hd1 (Grow.alloc w (.cells uss.flatten.toArray et)) (e := .arr et k.size len (eltX css)) (L := .blk w.heap.size len) (fp := w.heap.size :: fpss.flatten)
         (by intro b cap he;cases he;exact Nat.le_refl _)
         (by
          intro b hb;rcases List.mem_cons.1 hb with rfl|hb
          ·exact .inl ⟨Nat.le_refl _,by simp⟩
          ·exact .inr hb)
         (by
          rw[List.nodup_cons];refine⟨fun hm => ?_,a2.nodup⟩;have:=(a2.new _ hm).2
          omega)
         (fun M' hs=>by
          refine⟨_,fun i=>uss.getD i [],fun i=>fpss.getD i [],heap_alloc_new w _,by simp[ylh husz,a5],Nat.le_refl _,by simp only[maxLen];omega,?_,?_⟩
          ·intro i hi
           obtain⟨c1,c2,c3⟩:=a8 i hi;rw[<- y1cb css i (by have:=yft hll;simp only[List.length_map,hpl]at this;omega)]at c1;refine⟨RepL.mono _ (yhi _) (hs.sub ?_) c1,c2,?_⟩
           ·intro x hx
            have hi2:i<fpss.length:=by omega
            simp only[List.getD_eq_getElem?_getD,List.getElem?_eq_getElem hi2,Option.getD_some]at hx;exact List.mem_flatten.2 ⟨_,List.getElem_mem hi2,hx⟩
           ·intro j u hu
            have hj:j<k.size:=by
             have:=(List.getElem?_eq_some_iff.1 hu).1;rw[c2]at this;exact this
            refine⟨?_,c3 u (List.mem_of_getElem? hu)⟩;rw[cell_of_row _ _ _ _ _ _ (heap_alloc_new w _)];simp only[List.getElem?_toArray];rw[ygm husz (by omega) hj];exact hu
          ·have:=yck fpss
           rw[a6]at this
           rw[this])
        refine⟨_,_,_,hrun,⟨⟨_,q1⟩,q3,?_⟩,?_⟩
        ·have:=a3.trans q2
         exact this
        ·simp only[Rep]
         rw[show h.length=h1.length from a4.symm];simp only[updM,if_true];exact⟨trivial,by omega,0,by simp,.inr (by simp)⟩
     ·simp at hb
  ·simp at hb
end
end Go.Ab
namespace Go.Ab
open Go
variable [Inv]
def y7y (Γ:Env) (h:List Ent) (t:TypeId) (a x:AV):Option (List Ent×List Prop):=
  match tget Γ t,ytd x with
  | some k,some ns=>if ns.length=k.size then
      match a with
      | .ptr id o => match nthE h id with
        | some (.box cs)=>if y8m ns=true/\o+ns.length<=cs.length then some (setE h id (.box (putL o ns cs)),[])else none
        | _=>none
      | .pe id e i o => match absL h ns with
        | some (ys, h1, o1) => match nthE h1 id with
          | some (.arr T e' n f)=>if e=e'/\o+ns.length<=e then
              some (setE h1 id (.arr T e n (fun j=>bif Nat.beq j i then putL o ys (f j)else f j)),(i<n)::o1)
            else none
          | some (.byt l) => match ns with
            | [.int .u8 z]=>if e=1/\o=0 then some (setE h1 id (.byt (l.set i (UInt8.ofNat z.toNat))),(i<l.length)::(0<=z)::(z<256)::o1)else none
            | _=>none
          | _=>none
        | none=>none
      | _=>none
    else none
  | _,_=>none
section
variable {P:Program} {Γ:Env} {c:Ctx} {μ:Map} {FP:Nat->List Nat} {w:World} {R:List Nat}
theorem WR.writeW {w' : World} {h : List Ent} (hW : WR c (Hof h) μ FP w) (hR : Free c FP w R) {id b cap : Nat} {e0 e' : Ent} (hm : μ id = some (.blk b cap)) (he0 : nthE h id = some e0) (hl0 : e0.live = true)
  (hos:w'.os=w.os) (htp:w'.tape=w.tape) (hot':w'.output=w.output) (hsz:w'.heap.size=w.heap.size) (hre:∀ x,x≠b->w'.heap[x]? = w.heap[x]?) {fp':List Nat} (hfp:∀ x,x∈fp'->x∈FP id\/x∈R) (hnd:fp'.Nodup)
  (hok:∀ M',(∀ fq:List Nat,b∉fq->Same w (hot c.M0 (Hof h) μ) w' M' fq)->yic w' M' μ e' (.blk b cap) fp') :
  WR c (Hof (setE h id e')) μ (updF FP id fp') w'/\Trans c.M0 (Hof h) μ w (Hof (setE h id e')) μ w':=by
 have hlt:=yed he0;have hbF:=(hW.lt hm he0 hl0).1;have hbhot:hot c.M0 (Hof h) μ b:=.inr ⟨id,cap,e0,hm,he0,hl0⟩;have hsame:Hof (setE h id e') id=some e':=by simp[Hof,y6,hlt]
 have hoth:∀ i,i≠id->Hof (setE h id e') i=Hof h i:=fun i hi=>by simp[Hof,y6,hi]
 have hcold:∀ x,x<w.heap.size->¬ hot c.M0 (Hof h) μ x->¬ hot c.M0 (Hof (setE h id e')) μ x:=by
  intro x _ hn hh;rcases hh with hh|⟨i,cp,e,hi,he,hl⟩
  ·exact hn (.inl hh)
  ·by_cases hid:i=id
   ·subst hid
    exact hn (.inr ⟨i,cp,e0,hi,he0,hl0⟩)
   ·rw[hoth i hid]at he
    exact hn (.inr ⟨i,cp,e,hi,he,hl⟩)
 refine WR.update (fun i=>i=id) R hW hR hos htp hot' (by omega) ?_ (Map.le_refl _) (fun i _ hi=>hoth i hi) (fun i _ hi=>by simp[updF,hi]) ?_ ?_ ?_ ?_ ?_ ?_
 ·intro x hx
  by_cases hxb:x=b
  ·subst hxb;exact .inr ⟨hbhot,id,rfl,hbF⟩
  ·exact .inl (hre x hxb)
 ·intro i L hi hL
  rcases hi with hi|rfl
  ·rw[hi]at hL;cases hL
  ·rw[hm]at hL;cases hL
   refine⟨e',hsame,?_⟩;simp only[updF,if_true];refine hok _ (fun fq hq=>⟨by omega,hcold,fun x hx hh => ?_⟩);rw[hre];rintro rfl
   rcases hh with hh|hh
   ·exact hh hbhot
   ·exact hq hh
 ·intro i b' cp e hi hm' _ _
  rcases hi with hi|rfl
  ·rw[hi]at hm';cases hm'
  ·rw[hm]at hm';cases hm';exact .inl hbhot
 ·intro i x hi hx
  simp only[updF]at hx;split at hx
  ·rename_i heq
   rcases hfp x hx with h1|h1
   ·exact .inl ⟨id,rfl,h1⟩
   ·exact .inr (.inr h1)
  ·rename_i hne
   rcases hi with hi|hi
   ·rw[hW.out i hi]at hx;simp at hx
   ·exact absurd hi hne
 ·intro i hi
  simp only[updF];split
  ·rename_i heq;subst heq;rw[hm]at hi;cases hi
  ·exact hW.out i hi
 ·intro i _
  simp only[updF];split
  ·exact hnd
  ·exact hW.nodup i
 ·intro i j hij hi hj x hx hx'
  simp only[updF]at hx hx';split at hx
  ·rename_i hi2
   split at hx'
   ·omega
   ·rename_i hj2
    rcases hj with hj|hj
    ·rw[hW.out j hj]at hx';simp at hx'
    ·exact hj2 hj
  ·rename_i hi2
   rcases hi with hi|hi
   ·rw[hW.out i hi]at hx;simp at hx
   ·exact hi2 hi
theorem WR.write {h : List Ent} (hW : WR c (Hof h) μ FP w) (hR : Free c FP w R) {id b cap : Nat} {e0 e' : Ent} (hm : μ id = some (.blk b cap)) (he0 : nthE h id = some e0) (hl0 : e0.live = true)
  (cs':Array Value) {fp':List Nat} (hfp:∀ x,x∈fp'->x∈FP id\/x∈R) (hnd:fp'.Nodup)
  (hok:∀ M',(∀ fq:List Nat,b∉fq->Same w (hot c.M0 (Hof h) μ) (w.setRow b cs') M' fq)->yic (w.setRow b cs') M' μ e' (.blk b cap) fp') :
  WR c (Hof (setE h id e')) μ (updF FP id fp') (w.setRow b cs')/\Trans c.M0 (Hof h) μ w (Hof (setE h id e')) μ (w.setRow b cs'):=
 WR.writeW (w':=w.setRow b cs') hW hR hm he0 hl0 rfl rfl rfl (by simp) (fun x hx=>setRow_other w b x cs' hx) hfp hnd hok
theorem y2u {w:World} {M:Nat->Prop} {μ:Map}:∀ {k:Nat} {ns cs:List AV} {vs us:List Value} {fp gp:List Nat},RepL w M ns μ vs gp->RepL w M cs μ us fp ->
  ∃ fq,RepL w M (putL k ns cs) μ (putV k vs us) fq/\(∀ b,b∈fq->b∈fp\/b∈gp)/\(fp.Nodup->gp.Nodup->(∀ b,b∈gp->b∉fp)->fq.Nodup)
 | 0,[],cs,vs,us,fp,gp,h1,h2=>by
  simp only[RepL]at h1;obtain⟨rfl,rfl⟩:=h1;exact⟨fp,by simpa [putL,putV]using h2,fun b hb=>.inl hb,fun h _ _=>h⟩
 | 0,n::ns,[],vs,us,fp,gp,h1,h2=>by
  simp only[RepL]at h1 h2;obtain⟨u,us',f1,f2,rfl,_,_,_⟩:=h1;obtain⟨rfl,rfl⟩:=h2;exact⟨[],by simp[putL,putV,RepL],by simp,by simp⟩
 | 0,n::ns,c::cs,vs,us,fp,gp,h1,h2=>by
  simp only[RepL]at h1 h2;obtain⟨u,us',f1,f2,rfl,rfl,a1,a2⟩:=h1;obtain⟨v,vs',g1,g2,rfl,rfl,b1,b2⟩:=h2;obtain⟨fq,q1,q2,q3⟩:=y2u (k:=0) a2 b2;refine⟨f1++fq,by simp only[putL,putV,RepL];exact⟨u,_,f1,fq,rfl,rfl,a1,q1⟩,?_,?_⟩
  ·intro b hb
   rcases List.mem_append.1 hb with hb|hb
   ·exact .inr (by simp[hb])
   ·rcases q2 b hb with hb|hb
    ·exact .inl (by simp[hb])
    ·exact .inr (by simp[hb])
  ·intro n1 n2 nd
   rw[List.nodup_append]at n1 n2 ⊢;refine⟨n2.1,q3 n1.2.1 n2.2.1 (fun b hb hb'=>nd b (by simp[hb]) (by simp[hb'])),?_⟩;intro a ha b hb hab;subst hab;rcases q2 a hb with hb|hb
   ·exact nd a (by simp[ha]) (by simp[hb])
   ·exact n2.2.2 a ha a hb rfl
 | k+1,ns,[],vs,us,fp,gp,h1,h2=>by
  simp only[RepL]at h2;obtain⟨rfl,rfl⟩:=h2;exact⟨[],by simp[putL,putV,RepL],by simp,by simp⟩
 | k+1,ns,c::cs,vs,us,fp,gp,h1,h2=>by
  simp only[RepL]at h2;obtain⟨v,vs',g1,g2,rfl,rfl,b1,b2⟩:=h2;obtain⟨fq,q1,q2,q3⟩:=y2u (k:=k) h1 b2;refine⟨g1++fq,by simp only[putL,putV,RepL];exact⟨v,_,g1,fq,rfl,rfl,b1,q1⟩,?_,?_⟩
  ·intro b hb
   rcases List.mem_append.1 hb with hb|hb
   ·exact .inl (by simp[hb])
   ·rcases q2 b hb with hb|hb
    ·exact .inl (by simp[hb])
    ·exact .inr hb
  ·intro n1 n2 nd
   rw[List.nodup_append]at n1 ⊢;refine⟨n1.1,q3 n1.2.1 n2 (fun b hb hb'=>nd b hb (by simp[hb'])),?_⟩;intro a ha b hb hab;subst hab;rcases q2 a hb with hb|hb
   ·exact n1.2.2 a ha a hb rfl
   ·exact nd a hb (by simp[ha])
theorem ype : ∀ (k : Nat) (vs us : List Value), k + vs.length <= us.length -> us.take k ++ vs ++ us.drop (k + vs.length) = putV k vs us
 | 0,[],us,_=>by simp[putV]
 | 0,v::vs,[],h=>by simp at h
 | 0,v::vs,u::us,h=>by
  have:=ype 0 vs us (by simp at h;omega);simp only[Nat.zero_add,List.take_zero,List.nil_append]at this;simp[putV,this]
 | k+1,vs,[],h=>by simp at h
 | k+1,vs,u::us,h=>by
  have:=ype k vs us (by simp at h;omega);simp only[putV,List.take_succ_cons,List.cons_append, <- this];rw[show k+1+vs.length=(k+vs.length)+1 from by omega,List.drop_succ_cons]
theorem ylk {t : TypeId} {k : TInfo} (hΓ : yze P t = some k) {v : Value} {vs : List Value} (hv : v.cells = vs.toArray) (hlen : vs.length = k.size) {b o T : Nat} {cur : Array Value} (hb : w.heap[b]? = some (.cells cur T (0, 0)))
  (hfit:o+vs.length<=cur.size) (hone:∀ u∈vs,u.oneCell'=true) :
  (Instr.storeAt t (.pointer (some ⟨b,o,none⟩)) v).run P w=.ok () (w.setRow b (putV o vs cur.toList).toArray):=by
 have h1:=run_storeCells_at P b o T vs 0 cur w hb (by simpa using hfit) hone;simp only[Nat.add_zero]at h1;rw[ype o vs cur.toList (by simpa using hfit)]at h1;have hs:(sizeOf t).run P w=.ok k.size w:=yrb hΓ;have hc:¬ (v.cells.size≠k.size):=by rw[hv];simpa using hlen
 simp only[Instr.storeAt,Instr.sureAddr,Sem.run_bind,Sem.run_pure,Result.andThen_ok,storeVar,hs];rw[if_neg hc,hv];exact h1
theorem yaq {t : TypeId} {k : TInfo} (hΓ : yze P t = some k) {v u : Value} (hv : v.cells = #[u]) (hlen : 1 = k.size) {b o T : Nat} {fz : Nat × Nat} {cur : Array Value} (hb : w.heap[b]? = some (.cells cur T fz))
  (hfz:o<fz.1) (hi:o<cur.size) (hone:u.oneCell'=true) :
  (Instr.storeAt t (.pointer (some ⟨b,o,none⟩)) v).run P w=.ok () (w.setRow b (cur.setIfInBounds o u)):=by
 have hadd:(⟨b,o,none⟩:Addr).add 0=⟨b,o,none⟩:=by unfold Addr.add;split<;>simp_all
 have hcell:w.cell? ⟨b,o,none⟩=some cur[o]:=by simp[World.cell?,hb,hi]
 have hfro:w.frozen? ⟨b,o,none⟩=false:=by
  obtain⟨lo,hi'⟩:=fz;simp only[World.frozen?,hb,Bool.and_eq_false_iff,decide_eq_false_iff_not];left
  simp only at hfz;omega
 have hst:(store ((⟨b,o,none⟩:Addr).add 0) u).run P w=.ok () (w.setRow b (cur.setIfInBounds o u)):=by
  rw[hadd,run_store P w _ u _ hone,hcell];simp[hfro,setCell_eq_setRow w b o cur T fz u hb]
 have hs:(sizeOf t).run P w=.ok k.size w:=yrb hΓ;have hc:¬ (v.cells.size≠k.size):=by rw[hv];simpa using hlen
 simp only[Instr.storeAt,Instr.sureAddr,Sem.run_bind,Sem.run_pure,Result.andThen_ok,storeVar,hs];rw[if_neg hc,hv];show(storeCells ⟨b,o,none⟩ [u] 0).run P w=_;simp only[storeCells,Sem.run_bind,hst,Result.andThen_ok];rfl
theorem ycf:∀ {l:List Nat} {fps:Nat->List Nat} {i:Nat} {fq:List Nat},l.Nodup->(l.flatMap fps).Nodup->fq.Nodup->(∀ b,b∈fq->b∈fps i\/∀ j∈l,b∉fps j) ->
  (l.flatMap fun j=>if j=i then fq else fps j).Nodup/\∀ b,b∈(l.flatMap fun j=>if j=i then fq else fps j)->b∈l.flatMap fps\/b∈fq
 | [],fps,i,fq,_,_,_,_=>by simp
 | a::l,fps,i,fq,hl,hn,hq,hb=>by
  rw[List.nodup_cons]at hl;rw[List.flatMap_cons,List.nodup_append]at hn;have ih:=ycf (fq:=fq) (i:=i) hl.2 hn.2.1 hq (fun b h1=>(hb b h1).imp id (fun h2 j hj=>h2 j (by simp[hj])));constructor
  ·rw[List.flatMap_cons,List.nodup_append]
   refine⟨?_,ih.1,?_⟩
   ·split
    ·exact hq
    ·exact hn.1
   ·intro x hx y hy hxy
    subst hxy;obtain⟨j,hj,hxj⟩:=List.mem_flatMap.1 hy;have hja:j≠a:=fun e=>hl.1 (e ▸ hj)
    split at hx
    ·rename_i hai
     subst hai;rw[if_neg hja]at hxj;rcases hb x hx with h1|h1
     ·exact hn.2.2 x h1 x (List.mem_flatMap.2 ⟨j,hj,hxj⟩) rfl
     ·exact h1 j (by simp[hj]) hxj
    ·rename_i hai
     split at hxj
     ·rename_i hji
      subst hji;rcases hb x hxj with h1|h1
      ·exact hn.2.2 x hx x (List.mem_flatMap.2 ⟨j,hj,h1⟩) rfl
      ·exact h1 a (by simp) hx
     ·exact hn.2.2 x hx x (List.mem_flatMap.2 ⟨j,hj,hxj⟩) rfl
  ·intro b hbm
   rw[List.flatMap_cons]at hbm ⊢;rcases List.mem_append.1 hbm with h1|h1
   ·split at h1
    ·exact .inr h1
    ·exact .inl (List.mem_append_left _ h1)
   ·rcases ih.2 b h1 with h2|h2
    ·exact .inl (List.mem_append_right _ h2)
    ·exact .inr h2
theorem yzs (hΓ : TyOk P Γ) {h h' : List Ent} {t : TypeId} {a x : AV} {va v : Value} {obl : List Prop} (hW : WR c (Hof h) μ FP w) (hd : Tail h μ)
  (hb:y7y Γ h t a x=some (h',obl)) (ho:allP obl)
  (ha:Rep w (hot c.M0 (Hof h) μ) a μ va []) (hx:Rep w (hot c.M0 (Hof h) μ) x μ v []) :
  ∃ w',(Instr.storeAt t va v).run P w=.ok () w'/\Next1 c h μ w h' μ w':=by
 unfold y7y at hb;split at hb
 ·rename_i k ns ht hc
  split at hb
  ·rename_i hlen
   obtain⟨vs,hv,hr⟩:=hx.cells hc;have hvl:vs.length=k.size:=by rw[hr.length,hlen]
   split at hb
   ·rename_i id o
    split at hb
    ·rename_i cs hid
     split at hb
     ·rename_i hcond
      simp only[Option.some.injEq,Prod.mk.injEq]at hb;obtain⟨rfl,rfl⟩:=hb;simp only[Rep]at ha;obtain⟨_,b,cap,hm,rfl⟩:=ha;obtain⟨e,he,hok⟩:=hW.ent id _ hm;have he2:Hof h id=some (.box cs):=hid;rw[he2]at he;cases he;obtain⟨b',cap',us,T,h1,h2,hh,hone,hus⟩:=hok;cases h1
      have hone2:=hr.one hcond.1;have husl:=hus.length;have hrun:=ylk (P:=P) (hΓ.get ht) hv hvl hh (o:=o) (by simp only[List.size_toArray];have:=hr.length;omega) hone2;refine⟨_,hrun,?_⟩
      have hone3:∀ u∈putV o vs us,u.oneCell'=true:=by
       intro u hu;obtain⟨j,hj⟩:=List.getElem?_of_mem hu;rw[ypb]at hj;split at hj
       ·exact hone2 u (List.mem_of_getElem? hj)
       ·exact hone u (List.mem_of_getElem? hj)
      obtain ⟨q1, q2⟩ := hW.write (Free.nil _ _ _) hm hid rfl (putV o vs us).toArray (e' := .box (putL o ns cs)) (fp' := [b]) (by intro y hy; rw [h2]; exact .inl hy) (by simp)
       (fun M' hs=>⟨b,cap,putV o vs us,T,rfl,rfl,setRow_heap w b _ _ T (0,0) hh,hone3,RepL.mono _ (Map.le_refl _) (hs [] (by simp)) (ypi hr hus)⟩)
      exact⟨⟨_,by simpa using q1⟩,fun i hi=>hd i (by rw[y0]at hi;exact hi),by simpa using q2⟩
     ·simp at hb
    ·simp at hb
   ·rename_i id e i o
    cases hal:absL h ns with
    | none=>simp[hal]at hb
    | some p=>
     obtain⟨ys,h1,o1⟩:=p;simp only[hal]at hb;split at hb
     ·rename_i T e' n f hid
      split at hb
      ·rename_i hcond
       obtain⟨rfl,hfit⟩:=hcond;simp only[Option.some.injEq,Prod.mk.injEq]at hb;obtain⟨rfl,rfl⟩:=hb;have hin:=ho.1;obtain⟨FP1,fp1,a1,a2,a3,a4,a5,a6⟩:=yzg hW (Free.nil _ _ _) hr hal ho.2;simp only[List.nil_append]at a2;simp only[Rep]at ha;obtain⟨_,b,cap,hm,rfl⟩:=ha;obtain⟨ent,he,hok⟩:=a1.ent id _ hm;have he2:Hof h1 id=some (.arr T e n f):=hid;rw[he2]at he;cases he;obtain⟨cur,us,fps,hh,h3,h4,h5,hcl,hF⟩:=hok
       have hfit2:i * e+o+vs.length<=cur.size:=by
        have:(i+1) * e<=cap * e:=Nat.mul_le_mul_right _ (by omega);rw[Nat.add_mul,Nat.one_mul]at this;have:=hr.length;omega
       have hrun:=ylk (P:=P) (hΓ.get ht) hv hvl hh (o:=i * e+o) hfit2 a5;refine⟨_,hrun,?_⟩;obtain⟨c1,c2,c3⟩:=hcl i hin;obtain⟨fq,q1,q2,q3⟩:=y2u (k:=o) a3.lift c1;have hndF:=a1.nodup id;rw[hF,List.nodup_cons]at hndF;have hfree:∀ y,y∈fp1->y∉FP1 id:=fun y hy=>a2.disj y hy id
       have hsub:∀ j,j<n->(fps j).Sublist ((List.range n).flatMap fps):=by
        intro j hj;have:=yhb fps (show j+1<=n from hj);rw[List.range_succ,List.flatMap_append]at this;refine List.Sublist.trans ?_ this;simp
       have hfqnd:fq.Nodup:=q3 (hndF.2.sublist (hsub i hin)) a2.nodup (fun y hy hy'=>hfree y hy (by rw[hF];exact List.mem_cons_of_mem _ ((hsub i hin).subset hy')))
       have hupd:=ycf (i:=i) (fq:=fq) List.nodup_range hndF.2 hfqnd (by
        intro y hy;rcases q2 y hy with h6|h6
        ·exact .inl h6
        ·exact .inr (fun j hj hj'=>hfree y h6 (by rw[hF];exact List.mem_cons_of_mem _ (List.mem_flatMap.2 ⟨j,hj,hj'⟩))))
       have hbfq:∀ j,j<n->b∉(if j=i then fq else fps j):=by
        intro j hj hmem;split at hmem
        ·rcases q2 b hmem with h6|h6
         ·exact hndF.1 ((hsub i hin).subset h6)
         ·exact hfree b h6 (by rw[hF];simp)
        ·exact hndF.1 ((hsub j hj).subset hmem)
       obtain ⟨r1, r2⟩ := a1.write a2 hm hid rfl (putV (i * e + o) vs cur.toList).toArray (e' := .arr T e n (fun j => bif Nat.beq j i then putL o ys (f j) else f j))
        (fp':=b::(List.range n).flatMap fun j=>if j=i then fq else fps j)
        (by
         intro y hy;rcases List.mem_cons.1 hy with rfl|hy
         ·exact .inl (by rw[hF];simp)
         ·rcases hupd.2 y hy with h6|h6
          ·exact .inl (by rw[hF];exact List.mem_cons_of_mem _ h6)
          ·rcases q2 y h6 with h7|h7
           ·exact .inl (by rw[hF];exact List.mem_cons_of_mem _ ((hsub i hin).subset h7))
           ·exact .inr h7)
        (by
         rw[List.nodup_cons];refine⟨?_,hupd.1⟩;intro hmem;obtain⟨j,hj,hj'⟩:=List.mem_flatMap.1 hmem
         exact hbfq j (List.mem_range.1 hj) hj')
        (fun M' hs=>by
         refine⟨_,fun j=>if j=i then putV o vs (us i)else us j,fun j=>if j=i then fq else fps j,setRow_heap w b _ _ T (0,0) hh,by simp[ymb,h3],h4,h5,?_,rfl⟩;intro j hj;obtain⟨d1,d2,d3⟩:=hcl j hj
         have hcell:∀ m,m<e->(w.setRow b (putV (i * e+o) vs cur.toList).toArray).cell? ⟨b,j * e+m,none⟩=if j=i/\o<=m/\m<o+vs.length then vs[m-o]? else w.cell? ⟨b,j * e+m,none⟩:=by
          intro m hm2;rw[cell_of_row _ _ _ _ _ _ (setRow_heap w b _ _ T (0,0) hh),cell_of_row _ _ _ _ _ _ hh];simp only[List.getElem?_toArray,ypb];by_cases hji:j=i
          ·subst hji
           by_cases hmo:o<=m/\m<o+vs.length
           ·rw[if_pos (by simp only[Array.length_toList];omega),if_pos ⟨rfl,hmo⟩]
            congr 1;omega
           ·rw[if_neg (by omega),if_neg (fun h=>hmo h.2)]
            simp
          ·have hne:¬ (i * e+o<=j * e+m/\j * e+m<i * e+o+vs.length/\j * e+m<cur.toList.length):=by
            rintro⟨g1,g2,_⟩
            have hvl2:=hr.length;rcases Nat.lt_or_gt_of_ne hji with hlt|hgt
            ·have:(j+1) * e<=i * e:=Nat.mul_le_mul_right _ hlt
             rw[Nat.add_mul,Nat.one_mul]at this;omega
            ·have:(i+1) * e<=j * e:=Nat.mul_le_mul_right _ hgt
             rw[Nat.add_mul,Nat.one_mul]at this;omega
           rw[if_neg hne,if_neg (fun h=>hji h.1)];simp
         by_cases hji:j=i
         ·subst hji
          simp only[Nat.beq_refl,cond_true,if_true];refine⟨RepL.mono _ (Map.le_refl _) (hs fq (by have:=hbfq j hj;simpa using this)) q1,by rw[ymb];exact d2,?_⟩;intro m u hu;rw[ypb]at hu
          have hme:m<e:=by
           split at hu
           ·omega
           ·have:=(List.getElem?_eq_some_iff.1 hu).1;omega
          rw[hcell m hme];split at hu
          ·rename_i hcnd
           rw[if_pos ⟨rfl,hcnd.1,hcnd.2.1⟩];exact⟨hu,a5 u (List.mem_of_getElem? hu)⟩
          ·rename_i hcnd
           have hmu:=(List.getElem?_eq_some_iff.1 hu).1;rw[if_neg (by rintro⟨_,g1,g2⟩;exact hcnd ⟨g1,g2,hmu⟩)];exact d3 m u hu
         ·have hbeq:Nat.beq j i=false:=by
           cases hbb:Nat.beq j i
           ·rfl
           ·exact absurd (Nat.eq_of_beq_eq_true hbb) hji
          simp only[hbeq,cond_false,if_neg hji];refine⟨RepL.mono _ (Map.le_refl _) (hs (fps j) (by have:=hbfq j hj;rwa [if_neg hji]at this)) d1,d2,?_⟩;intro m u hu;have hme:m<e:=by have:=(List.getElem?_eq_some_iff.1 hu).1;omega
          rw[hcell m hme,if_neg (fun h=>hji h.1)]
          exact d3 m u hu)
       exact⟨⟨_,r1⟩,fun i hi=>hd i (by rw[y0,a6]at hi;exact hi),a4.trans r2⟩
      ·simp at hb
     ·rename_i l hid
      split at hb
      ·rename_i z
       split at hb
       ·rename_i hcond
        obtain⟨rfl,rfl⟩:=hcond;simp only[Option.some.injEq,Prod.mk.injEq]at hb;obtain⟨rfl,rfl⟩:=hb;obtain⟨hin,hz0,hz1,ho1⟩:=ho;have hin':i<l.length:=hin;have hz0':0<=z:=hz0;have hz1':z<256:=hz1;obtain⟨FP1,fp1,a1,a2,a3,a4,a5,a6⟩:=yzg hW (Free.nil _ _ _) hr hal ho1;simp only[List.nil_append]at a2
        have hvs:vs=[Value.int .u8 z]:=by
         simp only[RepL,Rep]at hr;obtain⟨u,us',f1,f2,h5,_,⟨h6,_⟩,h7,_⟩:=hr;rw[h5,h6,h7]
        subst hvs;simp only[Rep]at ha;obtain⟨_,b,cap,hm,rfl⟩:=ha;obtain⟨ent,he,hok⟩:=a1.ent id _ hm;have he2:Hof h1 id=some (.byt l):=hid;rw[he2]at he;cases he;obtain⟨b',cur,T,h3,h4,hh,h5,h6,hcl⟩:=hok;cases h3
        have hrun:=yaq (P:=P) (hΓ.get ht) hv hvl hh (o:=i * 1+0) (by simp only;omega) (by omega) rfl;refine⟨_,hrun,?_⟩
        obtain ⟨r1, r2⟩ := a1.write a2 hm hid rfl (cur.setIfInBounds (i * 1 + 0) (Value.int .u8 z)) (e' := .byt (l.set i (UInt8.ofNat z.toNat))) (fp' := [b]) (by intro y hy; rw [h4]; exact .inl hy) (by simp)
         (fun M' hs=>by
          refine⟨b,cur.setIfInBounds (i * 1+0) (Value.int .u8 z),T,by simp,rfl,?_,by simpa using h5,by simpa using h6,?_⟩
          ·have:=setRow_heap w b cur (cur.setIfInBounds (i * 1+0) (Value.int .u8 z)) T _ hh
           simpa using this
          ·intro j hj
           rw[List.length_set]at hj;simp only[Nat.mul_one,Nat.add_zero];by_cases hji:i=j
           ·subst hji
            have hlt:i<cur.size:=by omega
            rw[Array.getElem?_setIfInBounds_self];simp only[hlt,if_true];congr 2
            rw[List.getD_eq_getElem?_getD,List.getElem?_set_self hin'];simp only[Option.getD_some,UInt8.toNat_ofNat'];omega
           ·rw[Array.getElem?_setIfInBounds_ne hji,hcl j hj]
            congr 3
            rw[List.getD_eq_getElem?_getD,List.getD_eq_getElem?_getD,List.getElem?_set_ne hji])
        exact⟨⟨_,r1⟩,fun i hi=>hd i (by rw[y0,a6]at hi;exact hi),a4.trans r2⟩
       ·simp at hb
      ·simp at hb
     ·simp at hb
   ·simp at hb
  ·simp at hb
 ·simp at hb
end
end Go.Ab
namespace Go.Ab
open Go
variable [Inv]
theorem yaw {l:List Nat} {f g:Nat->List Nat} (h:∀ i,i∈l->(g i).Sublist (f i)):(l.flatMap g).Sublist (l.flatMap f):=by
 induction l with
 | nil=>simp
 | cons a l ih=>
  rw[List.flatMap_cons,List.flatMap_cons];exact(h a (by simp)).append (ih fun i hi=>h i (by simp[hi]))
theorem yxf {vs : Nat -> List Value} {e : Nat} : ∀ (m : Nat), (∀ k, k < m -> (vs k).length = e) -> ((List.range m).flatMap vs).length = m * e
 | 0,_=>by simp
 | m+1,h=>by
  rw[List.range_succ,List.flatMap_append,List.length_append,yxf m (fun k hk=>h k (by omega))];simp[h m (by omega),Nat.add_mul]
theorem ybr {vs : Nat -> List Value} {e : Nat} : ∀ (m : Nat), (∀ k, k < m -> (vs k).length = e) -> ∀ k j, k < m -> j < e -> ((List.range m).flatMap vs)[k * e + j]? = (vs k)[j]?
 | 0,_,k,j,hk,_=>by omega
 | m+1,h,k,j,hk,hj=>by
  rw[List.range_succ,List.flatMap_append];have hl:=yxf (vs:=vs) m (fun k hk=>h k (by omega));by_cases hkm:k<m
  ·have:(k+1) * e<=m * e:=Nat.mul_le_mul_right _ hkm
   rw[Nat.add_mul,Nat.one_mul]at this;rw[List.getElem?_append_left (by rw[hl];omega)];exact ybr m (fun k hk=>h k (by omega)) k j hkm hj
  ·have:k=m:=by omega
   subst this;rw[List.getElem?_append_right (by rw[hl];omega),hl,Nat.add_sub_cancel_left];simp
section
variable {P:Program} {Γ:Env} {c:Ctx} {μ:Map} {FP:Nat->List Nat} {w:World}
theorem WR.seg {h : List Ent} (hW : WR c (Hof h) μ FP w) {id b cap off m T e n : Nat} {f g : Nat -> List AV} {vs : Nat -> List Value} {cur : Array Value} (hm : μ id = some (.blk b cap)) (hid : nthE h id = some (.arr T e n f))
  (hh:w.heap[b]? = some (.cells cur T (0,0))) (hfit:off+m<=n) (hg:∀ k,k<m->RepL w (hot c.M0 (Hof h) μ) (g k) μ (vs k) []/\(vs k).length=e/\∀ u∈vs k,u.oneCell'=true) :
  ∃ fp',WR c (Hof (setE h id (.arr T e n (fun j=>bif Nat.ble off j && Nat.blt j (off+m)then g (j-off)else f j)))) μ (updF FP id fp') (w.setRow b (putV (off * e) ((List.range m).flatMap vs) cur.toList).toArray) /\
   Trans c.M0 (Hof h) μ w (Hof (setE h id (.arr T e n (fun j=>bif Nat.ble off j && Nat.blt j (off+m)then g (j-off)else f j)))) μ (w.setRow b (putV (off * e) ((List.range m).flatMap vs) cur.toList).toArray):=by
 obtain⟨ent,he,hok⟩:=hW.ent id _ hm;have he2:Hof h id=some (.arr T e n f):=hid;rw[he2]at he;cases he;obtain⟨cur',us,fps,hh',h3,h4,h5,hcl,hF⟩:=hok;rw[hh]at hh';cases hh';have hnd:=hW.nodup id;rw[hF]at hnd
 have hsub:((List.range n).flatMap fun j=>if off<=j/\j<off+m then[]else fps j).Sublist ((List.range n).flatMap fps):=by
  refine yaw fun i _ => ?_
  split
  ·simp
  ·exact List.Sublist.refl _
 have hvl:=yxf (vs:=vs) m (fun k hk=>(hg k hk).2.1)
 have hsz:off * e+m * e<=cur.size:=by
  rw[h3, <- Nat.add_mul];exact Nat.mul_le_mul_right _ (by omega)
 refine⟨b::(List.range n).flatMap fun j=>if off<=j/\j<off+m then[]else fps j,?_⟩;refine hW.write (Free.nil _ _ _) hm hid rfl _ (e':=.arr T e n (fun j=>bif Nat.ble off j && Nat.blt j (off+m)then g (j-off)else f j)) ?_ ?_ ?_
 ·intro y hy
  left
  rw[hF];rcases List.mem_cons.1 hy with rfl|hy
  ·simp
  ·exact List.mem_cons_of_mem _ (hsub.subset hy)
 ·exact(List.Sublist.cons_cons b hsub).nodup hnd
 ·intro M' hs
  refine⟨_,fun j=>if off<=j/\j<off+m then vs (j-off)else us j,fun j=>if off<=j/\j<off+m then[]else fps j,setRow_heap w b _ _ T (0,0) hh,by simp[ymb,h3],h4,h5,?_,rfl⟩;intro j hj
  have hcell:∀ q,q<e->(w.setRow b (putV (off * e) ((List.range m).flatMap vs) cur.toList).toArray).cell? ⟨b,j * e+q,none⟩=if off<=j/\j<off+m then(vs (j-off))[q]? else w.cell? ⟨b,j * e+q,none⟩:=by
   intro q hq;rw[cell_of_row _ _ _ _ _ _ (setRow_heap w b _ _ T (0,0) hh),cell_of_row _ _ _ _ _ _ hh];simp only[List.getElem?_toArray,ypb,hvl];have hjc:(j+1) * e<=cap * e:=Nat.mul_le_mul_right _ (by omega);rw[Nat.add_mul,Nat.one_mul]at hjc;by_cases hin:off<=j/\j<off+m
   ·have e1:j * e=off * e+(j-off) * e:=by rw[<- Nat.add_mul];congr 1;omega
    have e2:(j-off+1) * e<=m * e:=Nat.mul_le_mul_right _ (by omega);rw[Nat.add_mul,Nat.one_mul]at e2;rw[if_pos hin,if_pos ⟨by omega,by omega,by rw[Array.length_toList,h3];omega⟩];rw[e1,Nat.add_assoc,Nat.add_sub_cancel_left];exact ybr m (fun k hk=>(hg k hk).2.1) (j-off) q (by omega) hq
   ·rw[if_neg hin,if_neg]
    ·simp
    ·rintro⟨g1,g2,_⟩
     apply hin;constructor
     ·refine Nat.le_of_not_lt fun hlt => ?_
      have:(j+1) * e<=off * e:=Nat.mul_le_mul_right _ hlt;rw[Nat.add_mul,Nat.one_mul]at this;omega
     ·refine Nat.lt_of_not_le fun hle => ?_
      have:(off+m) * e<=j * e:=Nat.mul_le_mul_right _ hle;rw[Nat.add_mul]at this;omega
  by_cases hin:off<=j/\j<off+m
  ·have hb1:(Nat.ble off j && Nat.blt j (off+m))=true:=by simp only[Bool.and_eq_true,Nat.ble_eq,Nat.blt_eq];exact hin
   simp only[hb1,cond_true,if_pos hin];obtain⟨q1,q2,q3⟩:=hg (j-off) (by omega);refine⟨RepL.mono _ (Map.le_refl _) (hs [] (by simp)) q1,q2,?_⟩;intro q u hu;have hq:q<e:=by rw[<- q2];exact(List.getElem?_eq_some_iff.1 hu).1
   rw[hcell q hq,if_pos hin];exact⟨hu,q3 u (List.mem_of_getElem? hu)⟩
  ·have hb1:(Nat.ble off j && Nat.blt j (off+m))=false:=by
    rw[Bool.eq_false_iff];intro hb;simp only[Bool.and_eq_true,Nat.ble_eq,Nat.blt_eq]at hb;exact hin hb
   simp only[hb1,cond_false,if_neg hin];obtain⟨d1,d2,d3⟩:=hcl j hj
   have hbj:b∉fps j:=by
    intro hb;rw[List.nodup_cons]at hnd;exact hnd.1 (List.mem_flatMap.2 ⟨j,List.mem_range.2 hj,hb⟩)
   refine⟨RepL.mono _ (Map.le_refl _) (hs (fps j) hbj) d1,d2,?_⟩;intro q u hu;have hq:q<e:=by rw[<- d2];exact(List.getElem?_eq_some_iff.1 hu).1
   rw[hcell q hq,if_neg hin];exact d3 q u hu
def yoy (Γ:Env) (h:List Ent) (t:TypeId) (x:AV):NewR:=
  match tget Γ t with
  | some j => match j.ti with
    | .slice et => match tget Γ et with
      | some k => match k.ones, absL h k.zero with
        | true,some (ys,_,[])=>if k.zero.length=k.size/\0<k.size then
            match x with
            | .ref id e off n => match nthE h id with
              | some (.arr T e' n' f)=>if e=e'/\e=k.size then some (.any,setE h id (.arr T e n' (fun j=>bif Nat.ble off j && Nat.blt j (off+n)then ys else f j)),[off+n<=n'])else none
              | _=>none
            | .nils=>some (.any,h,[])
            | _=>none
          else none
        | _,_=>none
      | none=>none
    | _=>none
  | none=>none
theorem ykk {z:Array Value} {n e:Nat} (hz:z.size=e):(Builtin.zeroCells z n).toList=(List.range n).flatMap fun _=>z.toList:=by
 subst hz;apply List.ext_getElem?;intro i;have hl:=yxf (vs:=fun _=>z.toList) (e:=z.size) n (fun _ _=>by simp);by_cases hi:i<n * z.size
 ·have hpos:0<z.size:=by
   rcases Nat.eq_zero_or_pos z.size with h|h
   ·rw[h]at hi;simp at hi
   ·exact h
  have e1:i=(i / z.size) * z.size+i % z.size:=by rw[Nat.mul_comm];exact(Nat.div_add_mod i z.size).symm
  have hlt:i / z.size<n:=(Nat.div_lt_iff_lt_mul hpos).2 hi;have hmod:=Nat.mod_lt i hpos;have h2:=ybr (vs:=fun _=>z.toList) (e:=z.size) n (fun _ _=>by simp) (i / z.size) (i % z.size) hlt hmod;rw[<- e1]at h2;rw[h2];simp[Builtin.zeroCells,hi,hmod]
 ·rw[List.getElem?_eq_none (by simp[Builtin.zeroCells];omega),List.getElem?_eq_none (by rw[hl];omega)]
theorem ytt (hΓ : TyOk P Γ) {h h' : List Ent} {t ty : TypeId} {x r : AV} {vx : Value} {obl : List Prop} (hW : WR c (Hof h) μ FP w) (hd : Tail h μ)
  (hb:yoy Γ h t x=some (r,h',obl)) (ho:allP obl) (hx:Rep w (hot c.M0 (Hof h) μ) x μ vx []) :
  ∃ z μ' w',(Builtin.clear_ #[t] ty #[vx]).run P w=.ok z w'/\Next1 c h μ w h' μ' w'/\Rep w' (hot c.M0 (Hof h') μ') r μ' z []:=by
 unfold yoy at hb;split at hb
 ·rename_i j ht
  obtain⟨inf,d,hinf,hdd,hti,_⟩:=yg (hΓ.get ht);split at hb
  ·rename_i et hk
   rw[hk]at hti;have:=y6b hti;subst this
   cases het:tget Γ et with
   | none=>simp[het]at hb
   | some k=>
    obtain⟨inf2,d2,hinf2,hd2,hti2,hsz2,hby2,hzero2,hones2⟩:=yg (hΓ.get het);simp only[het]at hb;split at hb
    ·rename_i ys h0 hall habs
     split at hb
     ·rename_i hlen
      have hav:∀ x∈k.zero,∃ v,x=avOf v:=by
       intro x hx;rw[hzero2]at hx;obtain⟨v,_,rfl⟩:=List.mem_map.1 hx;exact⟨v,rfl⟩
      obtain⟨rfl,rfl⟩:=ytn hav habs
      cases hz:inf2.zero with
      | none=>rw[hones2,hz]at hall;simp at hall
      | some z=>
       have hr:=ygi (M:=hot c.M0 (Hof h0) μ) (μ:=μ) (w:=w) (hΓ.get het) hinf2 hz
       have hone:∀ u∈z.cells.toList,u.oneCell'=true:=by
        rw[hones2,hz]at hall;simp only[Option.map_some,Option.getD_some,List.all_eq_true]at hall;exact hall
       have hzs:z.cells.size=k.size:=by rw[<- hlen.1, <- hr.length];simp
       split at hb
       ·rename_i id e off n
        split at hb
        ·rename_i T e' n' f hid
         split at hb
         ·rename_i hee
          obtain⟨rfl,rfl⟩:=hee;simp only[Option.some.injEq,Prod.mk.injEq]at hb;obtain⟨rfl,rfl,rfl⟩:=hb;have hle:=ho.1;simp only[Rep]at hx;obtain⟨_,hx⟩:=hx
          cases hm:μ id with
          | none=>simp[hm]at hx
          | some L=>
           cases L with
           | nil=>
            simp only[hm]at hx;obtain⟨rfl,rfl,rfl⟩:=hx;have hsame:∀ j,(bif Nat.ble 0 j && Nat.blt j (0+0)then k.zero else f j)=f j:=by intro j;simp[Nat.blt,Nat.ble]
            simp only[hsame]
            have hset:setE h0 id (.arr T k.size n' f)=h0:=by
             have:∀ (l:List Ent) (i:Nat) (e:Ent),nthE l i=some e->setE l i e=l:=by
              intro l
              induction l with
              | nil=>intro i e h;simp[nthE]at h
              | cons y l ih=>
               intro i e h
               cases i with
               | zero=>simp[nthE]at h;simp[setE,h]
               | succ i=>simp only[setE];rw[ih i e (by simpa [nthE]using h)]
             exact this _ _ _ hid
            rw[hset];exact⟨.tuple #[],μ,w,by simp[Builtin.clear_,run_underlying hdd],⟨⟨FP,hW⟩,hd,Trans.refl _ _ _ _⟩,by simp[Rep]⟩
           | blk b cap=>
            simp only[hm]at hx;obtain⟨hcap,o,rfl,hoo⟩:=hx;obtain⟨ent,he,hok⟩:=hW.ent id _ hm;have he2:Hof h0 id=some (.arr T k.size n' f):=hid;rw[he2]at he;cases he;obtain⟨cur,us,fps,hh,h3,h4,h5,hcl,hF⟩:=hok;obtain⟨fp',q1,q2⟩:=hW.seg hm hid hh hle (g:=fun _=>k.zero) (vs:=fun _=>z.cells.toList) (fun _ _=>⟨hr,by simpa using hzs,hone⟩);by_cases hn0:n=0
            ·subst hn0
             have hrow:(putV (off * k.size) ((List.range 0).flatMap fun _=>z.cells.toList) cur.toList).toArray=cur:=by
              apply Array.ext';apply List.ext_getElem?;intro q;simp[ypb]
              intro h6 h7;omega
             rw[hrow,setRow_self w b cur T (0,0) hh]at q1 q2;exact⟨.tuple #[],μ,w,by simp[Builtin.clear_,run_underlying hdd],⟨⟨_,q1⟩,fun i hi=>hd i (by rw[y0]at hi;exact hi),q2⟩,by simp[Rep]⟩
            ·have ho2:o=off * k.size:=by
              rcases hoo with h6|h6
              ·omega
              ·exact h6
             subst ho2;have hvl:=yxf (vs:=fun _=>z.cells.toList) (e:=k.size) n (fun _ _=>by simpa using hzs)
             have hfit:off * k.size+0+((List.range n).flatMap fun _=>z.cells.toList).length<=cur.size:=by
              rw[hvl,h3,Nat.add_zero, <- Nat.add_mul];exact Nat.mul_le_mul_right _ (by omega)
             have hst:=run_storeCells_at P b (off * k.size) T ((List.range n).flatMap fun _=>z.cells.toList) 0 cur w hh hfit (by
              intro v hv;obtain⟨_,_,hv⟩:=List.mem_flatMap.1 hv
              exact hone v hv)
             simp only[Nat.add_zero]at hst hfit;rw[ype _ _ _ (by simpa using hfit)]at hst;obtain⟨n1,rfl⟩:∃ n1,n=n1+1:=⟨n-1,by omega⟩
             refine⟨.tuple #[],μ,_,?_,⟨⟨_,q1⟩,fun i hi=>hd i (by rw[y0]at hi;exact hi),q2⟩,by simp[Rep]⟩
             have hzv:(zeroValue et).run P w=.ok z w:=by
              simp[zeroValue,typeInfo,hinf2,hz]
             simp only[Builtin.clear_,Sem.run_bind,run_underlying hdd,Result.andThen_ok,List.getElem?_toArray,List.getElem?_cons_zero,hzv,Sem.run_pure];rw[ykk hzs];erw [hst]
             rfl
         ·simp at hb
        ·simp at hb
       ·simp only[Option.some.injEq,Prod.mk.injEq]at hb
        obtain⟨rfl,rfl,rfl⟩:=hb;simp only[Rep]at hx;obtain⟨rfl,_⟩:=hx;exact⟨.tuple #[],μ,w,by simp[Builtin.clear_,run_underlying hdd],⟨⟨FP,hW⟩,hd,Trans.refl _ _ _ _⟩,by simp[Rep]⟩
       ·simp at hb
     ·simp at hb
    ·simp at hb
  ·simp at hb
 ·simp at hb
end
end Go.Ab
namespace Go.Ab
open Go
variable [Inv]
section
variable {P:Program} {Γ:Env} {c:Ctx} {μ:Map} {FP:Nat->List Nat} {w:World} {R:List Nat}
theorem y0v {h h':List Ent} {x r:AV} {v:Value} {obl:List Prop} (hW:WR c (Hof h) μ FP w) (hd:Tail h μ) (hb:yu7 h x=some (r,h',obl)) (hx:Rep w (hot c.M0 (Hof h) μ) x μ v []) (ty:TypeId) :
  ∃ z w',(Instr.next v true ty).run P w=.ok z w'/\Next1 c h μ w h' μ w'/\Rep w' (hot c.M0 (Hof h') μ) r μ z []:=by
 unfold yu7 at hb;split at hb
 ·rename_i id
  simp only[Rep]at hx;obtain⟨_,b,cap,hm,rfl⟩:=hx;obtain⟨e,he,hok⟩:=hW.ent id _ hm;split at hb
  ·rename_i l p hid
   simp only[Option.some.injEq,Prod.mk.injEq]at hb;obtain⟨rfl,rfl,rfl⟩:=hb;have he2:Hof h id=some (.it l p true):=hid;rw[he2]at he;cases he;obtain⟨b',h1,h2,hh,hmore,hasc,hlen⟩:=hok;cases h1
   have hp:p<l.length:=of_decide_eq_true hmore.symm;have hps:p<(⟨l.toArray⟩:ByteArray).size:=by simpa [ByteArray.size]using hp
   have hget:(⟨l.toArray⟩:ByteArray)[p]'hps=l.getD p 0:=by
    simp[ByteArray.getElem_eq_getElem_data,List.getD,List.getElem?_eq_getElem hp]
   have hax:((⟨l.toArray⟩:ByteArray)[p]'hps).toNat<128:=by
    rw[hget];refine hasc _ ?_;rw[List.getD_eq_getElem?_getD,List.getElem?_eq_getElem hp];simp
   have hrun:=Lib.run_next_ascii_at (P:=P) w b ⟨l.toArray⟩ p ty hh hps hax;rw[hget]at hrun;refine⟨_,_,hrun,?_,?_⟩
   ·obtain ⟨q1, q2⟩ := WR.writeW (w' := w.iterAt b ⟨l.toArray⟩ (p + 1)) hW (Free.nil _ _ _) hm hid rfl rfl rfl rfl (Lib.iterAt_size _ _ _ _) (fun x hx => Lib.iterAt_other w b x _ _ hx) (e' := .it l (p + 1) (decide (p + 1 < l.length))) (fp' := [b]) (by intro y hy; rw [h2]; exact .inl hy) (by simp)
     (fun M' hs=>⟨b,rfl,rfl,Lib.iterAt_heap w b _ p _ hh,rfl,hasc,hlen⟩)
    exact⟨⟨_,q1⟩,fun i hi=>hd i (by rw[y0]at hi;exact hi),q2⟩
   ·simp only[Rep]
    refine⟨_,rfl,?_⟩;simp only[RepL];exact⟨_,_,[],[],rfl,rfl,y2c _,_,_,[],[],rfl,rfl,yqb _ _,_,_,[],[],rfl,rfl,yqb _ _,rfl,rfl⟩
  ·rename_i l p hid
   simp only[Option.some.injEq,Prod.mk.injEq]at hb;obtain⟨rfl,rfl,rfl⟩:=hb;have he2:Hof h id=some (.it l p false):=hid;rw[he2]at he;cases he;obtain⟨b',h1,h2,hh,hmore,hasc,hlen⟩:=hok;cases h1
   have hp:¬ p<l.length:=of_decide_eq_false hmore.symm;have hps:¬ p<(⟨l.toArray⟩:ByteArray).size:=by simpa [ByteArray.size]using hp
   refine⟨_,w,Lib.run_next_end_at (P:=P) w b ⟨l.toArray⟩ p ty hh hps,⟨⟨_,hW⟩,hd,Trans.refl _ _ _ _⟩,?_⟩;simp only[Rep];refine⟨_,rfl,?_⟩;simp only[RepL];exact⟨_,_,[],[],rfl,rfl,y2c _,rfl,rfl⟩
  ·simp at hb
 ·simp at hb
end
end Go.Ab
namespace Go.Ab
open Go
variable [Inv]
structure AppOut (w w':World) (et:TypeId) (e n m:Nat) (ob:Option Nat) (old news:List Value) (b' cap':Nat) (cur':Array Value):Prop where
 os:w'.os=w.os
 tape:w'.tape=w.tape
 output:w'.output=w.output
 size:w.heap.size<=w'.heap.size
 other:∀ k,k<w.heap.size->k≠b'->w'.heap[k]? = w.heap[k]?
 row:w'.heap[b']? = some (.cells cur' et (0,0))
 len:cur'.size=cap' * e
 fit:n+m<=cap'
 big:cap'<=maxLen
 olds:∀ j,j<n * e->cur'[j]? = old[j]?
 adds:∀ j,j<m * e->cur'[n * e+j]? = news[j]?
 place:ob=some b'\/b'=w.heap.size
theorem y40 {w : World} {et : TypeId} {e n m : Nat} {ob : Option Nat} {old news : List Value} {z : Value} {cap' : Nat} (hz : z.cells.size = e) (ho : old.length = n * e) (hn : news.length = m * e)
  (hfit:n+m<=cap') (hbig:cap'<=maxLen) :
  AppOut w (w.drew.alloc (.cells (old.toArray++news.toArray++Builtin.zeroCells z.cells (cap'-(n+m))) et)) et e n m ob old news w.heap.size cap' (old.toArray++news.toArray++Builtin.zeroCells z.cells (cap'-(n+m))):=by
 refine⟨rfl,rfl,rfl,?_,?_,?_,?_,hfit,hbig,?_,?_,.inr rfl⟩
 ·simp
 ·intro k hk _
  show((w.drew).heap.push _)[k]? = _;rw[Array.getElem?_push,if_neg (by simp;omega)];rfl
 ·exact heap_alloc_new w.drew _
 ·simp only[Array.size_append,List.size_toArray,size_zeroCells,hz,ho,hn, <- Nat.add_mul]
  congr 1;omega
 ·intro j hj
  rw[Array.getElem?_append_left (by simp;omega),Array.getElem?_append_left (by simp;omega)];simp
 ·intro j hj
  rw[Array.getElem?_append_left (by simp;omega),Array.getElem?_append_right (by simp;omega)];simp[ho]
theorem y0o {P : Program} {w : World} {t ty et : TypeId} {i : TypeInfo} {z : Value} {e bytes : Nat} (ht : P.underlying t = some (.slice et)) (hi : P.info? et = some i) (hz : i.zero = some z)
  (hsz:i.size=e) (hby:i.bytes=bytes) (hzs:z.cells.size=e)
  {v y:Value} {n m:Nat} {old news:List Value} (ho:old.length=n * e) (hn:news.length=m * e) (h1:∀ u∈news,u.oneCell'=true)
  (hv:(v=.slice none 0 0/\n=0)\/∃ b cap cur,v=.slice (some ⟨b,0,none⟩) n cap/\w.heap[b]? = some (.cells cur et (0,0))/\cur.size=cap * e/\n<=cap/\cap<=maxLen/\∀ j,j<n * e->cur[j]? = old[j]?)
  (hy:(y=.slice none 0 0/\m=0)\/∃ a cp,y=.slice (some a) m cp/\∀ j u,news[j]? = some u->w.cell? (a.add j)=some u)
  (hbytes:(n+m) * bytes<=140737488355328) (hbig:n+m<=140737488355328) :
  ∃ v' w',(Builtin.append_ #[t,t] ty #[v,y]).run P w=.ok v' w' /\
   ((v'=.slice none 0 0/\n+m=0/\w'=w/\v=.slice none 0 0)\/∃ b' cap' cur',v'=.slice (some ⟨b',0,none⟩) (n+m) cap'/\AppOut w w' et e n m v.ownBlock old news b' cap' cur'):=by
 subst hsz;subst hby;have hmax:n+m<=maxLen:=by simp only[maxLen];omega
 have h63:((n+m:Nat):Int)<=9223372036854775807:=by omega
 rcases hv with⟨rfl,rfl⟩|⟨b,cap,cur,rfl,hb,hcs,hnc,hcm,hco⟩
 ·have hold:old=[]:=List.eq_nil_of_length_eq_zero (by simpa using ho)
  subst hold;rcases hy with⟨rfl,rfl⟩|⟨a,cp,rfl,hnews⟩
  ·refine⟨.slice none 0 0,w,?_,.inl ⟨rfl,rfl,rfl,rfl⟩⟩
   simp[Builtin.append_,run_underlying ht,sizeOf,typeInfo,hi,Builtin.lenOf,Builtin.firstCells]
  ·by_cases hm:m=0
   ·subst hm
    refine⟨.slice none 0 0,w,?_,.inl ⟨rfl,rfl,rfl,rfl⟩⟩;simp[Builtin.append_,run_underlying ht,sizeOf,typeInfo,hi,Builtin.lenOf,Builtin.firstCells,loadCells,loadCellsFrom]
   ·have hr:=run_append_nil (P:=P) w t ty et i z ht hi hz a m cp news hn hnews (by omega) (by omega) (by simp only[Nat.zero_add]at hbytes;omega)
    have hge:=grownCap_ge w m 0 et;refine⟨_,_,hr,.inr ⟨w.heap.size,grownCap w m 0 et,news.toArray++Builtin.zeroCells z.cells (grownCap w m 0 et-m),by simp,?_⟩⟩;have:=y40 (w:=w) (et:=et) (n:=0) (m:=m) (ob:=Value.ownBlock (.slice none 0 0)) (old:=[]) (cap':=grownCap w m 0 et) hzs (by simp) hn (by omega) (grownCap_le_maxLen w m 0 et (by omega));simpa using this
 ·have holds:∀ j u,old[j]? = some u->w.cell? ((⟨b,0,none⟩:Addr).add j)=some u:=by
   intro j u hu;have hj:j<n * i.size:=by rw[<- ho];exact(List.getElem?_eq_some_iff.1 hu).1
   rw[Addr.add_lit,Nat.zero_add,cell_of_row w b j cur et (0,0) hb,hco j hj];exact hu
  have hcl:n * i.size<=cur.size:=by rw[hcs];exact Nat.mul_le_mul_right _ hnc
  rcases hy with⟨rfl,rfl⟩|⟨a,cp,rfl,hnews⟩
  ·refine⟨.slice (some ⟨b,0,none⟩) n cap,w,?_,.inr ⟨b,cap,cur,rfl,rfl,rfl,rfl,Nat.le_refl _,fun _ _ _=>rfl,hb,hcs,hnc,hcm,hco,by simp,.inl rfl⟩⟩
   simp[Builtin.append_,run_underlying ht,sizeOf,typeInfo,hi,Builtin.lenOf,Builtin.firstCells,hnc,storeCells]
  ·by_cases hroom:n+m<=cap
   ·have hfit:n * i.size+news.length<=cur.size:=by rw[hn,hcs, <- Nat.add_mul];exact Nat.mul_le_mul_right _ hroom
    have hr:=run_append_room (P:=P) w t ty et i ht hi b n cap cur hb a m cp news hn hnews h1 hroom hfit;rw[ype (n * i.size) news cur.toList (by simpa using hfit)]at hr;refine⟨_,_,hr,.inr ⟨b,cap,(putV (n * i.size) news cur.toList).toArray,rfl,rfl,rfl,rfl,by simp,fun k _ hk=>setRow_other w b k _ hk,setRow_heap w b _ _ et (0,0) hb,by simp[ymb,hcs],hroom,hcm,?_,?_,.inl rfl⟩⟩
    ·intro j hj
     simp only[List.getElem?_toArray,ypb];rw[if_neg (by omega)];simpa using hco j hj
    ·intro j hj
     simp only[List.getElem?_toArray,ypb];rw[if_pos (by simp only[Array.length_toList];omega)];congr 1;omega
   ·have hr:=run_append_grow (P:=P) w t ty et i z ht hi hz ⟨b,0,none⟩ n cap old ho holds a m cp news hn hnews (by omega) h63 (growslice_fits (by omega) hbytes)
    have hge:=grownCap_ge w (n+m) cap et;exact⟨_,_,hr,.inr ⟨w.heap.size,grownCap w (n+m) cap et,_,rfl,y40 hzs ho hn hge (grownCap_le_maxLen w (n+m) cap et hmax)⟩⟩
end Go.Ab
namespace Go.Ab
open Go
variable [Inv]
def ybq (h : List Ent) : Option Nat -> List Ent
 | none=>h
 | some id=>setE h id .dead
def ykz (FP : Nat -> List Nat) : Option Nat -> Nat -> List Nat
 | none=>FP
 | some id=>updF FP id []
def ykr (n:Nat) (f g:Nat->List AV):Nat->List AV:=fun i=>bif Nat.blt i n then f i else g (i-n)
section
variable {P:Program} {Γ:Env} {c:Ctx} {μ:Map} {FP:Nat->List Nat} {w:World} {R:List Nat}
theorem yn1 (h:List Ent) (b:Option Nat) (j:Nat) (hj:b≠some j):nthE (ybq h b) j=nthE h j:=by
 cases b with
 | none=>rfl
 | some id=>
  simp only[ybq,y6];rw[if_neg];rintro⟨rfl,_⟩
  exact hj rfl
theorem yme (h:List Ent) (b:Option Nat):(ybq h b).length=h.length:=by
 cases b with
 | none=>rfl
 | some id=>exact y0 _ _ _
theorem y5e (FP:Nat->List Nat) (b:Option Nat) (j:Nat):ykz FP b j=if b=some j then[]else FP j:=by
 cases b with
 | none=>simp[ykz]
 | some id=>
  simp only[ykz,updF,Option.some.injEq];by_cases h:j=id
  ·rw[if_pos h,if_pos h.symm]
  ·rw[if_neg h,if_neg (fun e=>h e.symm)]
theorem ynb {α : Type} {us : Nat -> List α} {e : Nat} : ∀ {n : Nat}, (∀ i, i < n -> (us i).length = e) -> ((List.range n).flatMap us).length = n * e
 | 0,_=>by simp
 | n+1,h=>by
  rw[List.range_succ,List.flatMap_append,List.length_append,ynb (fun i hi=>h i (by omega))];simp[h n (by omega),Nat.add_mul]
theorem ynd {α : Type} {us : Nat -> List α} {e : Nat} : ∀ {n i k : Nat}, (∀ i, i < n -> (us i).length = e) -> i < n -> k < e -> ((List.range n).flatMap us)[i * e + k]? = (us i)[k]?
 | 0,i,k,_,hi,_=>by omega
 | n+1,i,k,h,hi,hk=>by
  rw[List.range_succ,List.flatMap_append];have hl:=ynb (n:=n) (fun i hi=>h i (by omega));by_cases hin:i<n
  ·have:(i+1) * e<=n * e:=Nat.mul_le_mul_right _ hin
   rw[Nat.add_mul,Nat.one_mul]at this;rw[List.getElem?_append_left (by omega)];exact ynd (fun i hi=>h i (by omega)) hin hk
  ·have hi2:i=n:=by omega
   subst hi2;rw[List.getElem?_append_right (by omega),hl];simp
theorem yte {α β : Type} {f g : α -> List β} : ∀ {l : List α}, (∀ x, x ∈ l -> f x = g x) -> l.flatMap f = l.flatMap g
 | [],_=>rfl
 | x::l,h=>by
  rw[List.flatMap_cons,List.flatMap_cons,h x (by simp),yte (fun y hy=>h y (by simp[hy]))]
theorem yud {α:Type} (f g:Nat->List α) (n m:Nat):(List.range (n+m)).flatMap (fun i=>if i<n then f i else g (i-n))=(List.range n).flatMap f++(List.range m).flatMap g:=by
 rw[List.range_add,List.flatMap_append,List.flatMap_map];congr 1
 ·apply yte
  intro i hi;rw[if_pos (List.mem_range.1 hi)]
 ·apply yte
  intro i _;rw[if_neg (by omega)];congr 1;omega
structure Elts (w:World) (M:Nat->Prop) (μ:Map) (e n:Nat) (f:Nat->List AV) (us:Nat->List Value) (fps:Nat->List Nat):Prop where
 rep:∀ i,i<n->RepL w M (f i) μ (us i) (fps i)
 len:∀ i,i<n->(us i).length=e
 one:∀ i,i<n->∀ u∈us i,u.oneCell'=true
theorem ya2 {h : List Ent} (hW : WR c (Hof h) μ FP w) (hR : Free c FP w R) (hd : Tail h μ) {base : Option Nat} {et : TypeId} {e n m : Nat} {f g : Nat -> List AV} {us us2 : Nat -> List Value} {fps fps2 : Nat -> List Nat}
  {ob:Option Nat} (hbase:∀ id,base=some id->∃ e0,nthE h id=some e0/\e0.live=true)
  (hob:∀ b,ob=some b->∃ id cap,base=some id/\μ id=some (.blk b cap)/\FP id=b::(FP id).tail)
  (hf:Elts w (hot c.M0 (Hof h) μ) μ e n f us fps) (hg:Elts w (hot c.M0 (Hof h) μ) μ e m g us2 fps2)
  (hfp1:∀ b,b∈(List.range n).flatMap fps->∃ id,base=some id/\b∈(FP id).tail) (hnd1:((List.range n).flatMap fps).Nodup)
  (hfp2:∀ b,b∈(List.range m).flatMap fps2->b∈R) (hnd2:((List.range m).flatMap fps2).Nodup)
  {w':World} {v':Value}
  (hout:(v'=.slice none 0 0/\n+m=0/\w'=w)\/∃ b' cap' cur',v'=.slice (some ⟨b',0,none⟩) (n+m) cap'/\AppOut w w' et e n m ob ((List.range n).flatMap us) ((List.range m).flatMap us2) b' cap' cur') :
  ∃ μ',Next1 c h μ w (ybq h base++[.arr et e (n+m) (ykr n f g)]) μ' w'/\Rep w' (hot c.M0 (Hof (ybq h base++[.arr et e (n+m) (ykr n f g)])) μ') (.ref h.length e 0 (n+m)) μ' v' []:=by
 generalize hh2:ybq h base++[.arr et e (n+m) (ykr n f g)]=h2;have hnone:μ h.length=none:=hd _ (Nat.le_refl _);have hbl:∀ id,base=some id->id<h.length:=fun id hb=>by obtain⟨e0,he,_⟩:=hbase id hb;exact yed he
 have hget:∀ j,base≠some j->j≠h.length->Hof h2 j=Hof h j:=by
  intro j hj hj2;subst hh2;simp only[Hof,ync,yme];rw[if_neg hj2,yn1 h base j hj]
 have hgetD:∀ id,base=some id->Hof h2 id=some .dead:=by
  intro id hb;have:=hbl id hb;subst hh2;simp only[Hof,ync,yme];rw[if_neg (by omega),hb];simp[ybq,y6,this]
 have hgetN:Hof h2 h.length=some (.arr et e (n+m) (ykr n f g)):=by
  subst hh2;simp only[Hof,ync,yme,if_true]
 have hlen2:h2.length=h.length+1:=by subst hh2;simp[yme]
 have hleU:∀ L,μ.le (updM μ h.length L):=by
  intro L i L' hi;simp only[updM];rw[if_neg]
  ·exact hi
  ·intro e;subst e;rw[hnone]at hi;cases hi
 -- the general step
 have main:∀ (L:Loc) (fp:List Nat),
   w'.os=w.os->w'.tape=w.tape->w'.output=w.output->w.heap.size<=w'.heap.size ->
   (∀ b,b<w.heap.size->w'.heap[b]? = w.heap[b]? \/ (hot c.M0 (Hof h) μ b/\∃ k,base=some k/\b∈FP k)) ->
   (∀ b cap,L=.blk b cap->hot c.M0 (Hof h) μ b\/w.heap.size<=b) ->
   (∀ b,b∈fp->(∃ k,base=some k/\b∈FP k)\/(w.heap.size<=b/\b<w'.heap.size)\/b∈R)->fp.Nodup ->
   ((∀ b,b<w.heap.size->¬ hot c.M0 (Hof h) μ b->¬ hot c.M0 (Hof h2) (updM μ h.length L) b)->yic w' (hot c.M0 (Hof h2) (updM μ h.length L)) (updM μ h.length L) (.arr et e (n+m) (ykr n f g)) L fp) ->
   Next1 c h μ w h2 (updM μ h.length L) w':=by
  intro L fp hos htape hout2 hsz hblk hL hfp hnd hok
  have hle:μ.le (updM μ h.length L):=by
   intro i L' hi;simp only[updM];rw[if_neg]
   ·exact hi
   ·intro e;subst e;rw[hnone]at hi;cases hi
  have hcold:∀ b,b<w.heap.size->¬ hot c.M0 (Hof h) μ b->¬ hot c.M0 (Hof h2) (updM μ h.length L) b:=by
   intro b hb hn hh;rcases hh with hh|⟨i,cap,e',hm,he,hl⟩
   ·exact hn (.inl hh)
   ·simp only[updM]at hm
    split at hm
    ·cases hm
     rcases hL b cap rfl with h1|h1
     ·exact hn h1
     ·omega
    ·rename_i hne
     by_cases hbi:base=some i
     ·rw[hgetD i hbi]at he;cases he;simp[Ent.live]at hl
     ·rw[hget i hbi hne]at he
      exact hn (.inr ⟨i,cap,e',hm,he,hl⟩)
  have hup := WR.update (H' := Hof h2) (μ' := updM μ h.length L) (FP' := updF (ykz FP base) h.length fp) (w' := w') (fun i => base = some i) R hW hR hos htape hout2 hsz hblk hle
   (fun i hi hk=>hget i hk (fun he=>hi (by rw[he];exact hnone)))
   (by
    intro i hi hk;simp only[updF]
    rw[if_neg (fun he=>hi (by rw[he];exact hnone)),y5e,if_neg hk])
   (by
    intro i L' hi hL';by_cases hil:i=h.length
    ·subst hil
     simp only[updM,if_true,Option.some.injEq]at hL';subst hL';exact⟨_,hgetN,by simp only[updF,if_true];exact hok hcold⟩
    ·simp only[updM,if_neg hil]at hL'
     rcases hi with hi|hi
     ·rw[hi]at hL';cases hL'
     ·exact⟨.dead,hgetD i hi,by simp[yic,updF,hil,y5e,hi]⟩)
   (by
    intro i b cap e' hi hm he hl;by_cases hil:i=h.length
    ·subst hil
     simp only[updM,if_true,Option.some.injEq]at hm;exact hL b cap hm
    ·simp only[updM,if_neg hil]at hm
     rcases hi with hi|hi
     ·rw[hi]at hm;cases hm
     ·rw[hgetD i hi]at he;cases he;simp[Ent.live]at hl)
   (by
    intro i b hi hb;simp only[updF]at hb;split at hb
    ·exact hfp b hb
    ·rw[y5e]at hb
     split at hb
     ·simp at hb
     ·rename_i h1 h2
      rcases hi with hi|hi
      ·rw[hW.out i hi]at hb;simp at hb
      ·exact absurd hi h2)
   (by
    intro i hi;simp only[updM]at hi;split at hi
    ·cases hi
    ·rename_i hne
     simp only[updF,if_neg hne,y5e];split
     ·rfl
     ·exact hW.out i hi)
   (by
    intro i _;simp only[updF];split
    ·exact hnd
    ·rw[y5e]
     split
     ·simp
     ·exact hW.nodup i)
   (by
    intro i j hij hi hj b hbi hbj
    have hz:∀ i,i≠h.length->(μ i=none\/base=some i)->ykz FP base i=[]:=by
     intro i hne hi;rw[y5e];split
     ·rfl
     ·rename_i hb
      exact hW.out i (hi.resolve_right hb)
    simp only[updF]at hbi hbj;by_cases h1:i=h.length
    ·by_cases h2:j=h.length
     ·omega
     ·rw[if_neg h2,hz j h2 hj]at hbj;simp at hbj
    ·rw[if_neg h1,hz i h1 hi]at hbi;simp at hbi)
  refine⟨⟨_,hup.1⟩,?_,hup.2⟩;intro i hi;rw[hlen2]at hi;simp only[updM];rw[if_neg (by omega)];exact hd i (by omega)
 rcases hout with⟨rfl,hnm,rfl⟩|⟨b',cap',cur',rfl,hA⟩
 ·refine⟨updM μ h.length .nil,main .nil [] rfl rfl rfl (Nat.le_refl _) (fun _ _=>.inl rfl) (by intro b cap he;cases he) (by simp) (by simp) (fun _=>⟨hnm,rfl⟩),?_⟩
  simp only[Rep,updM,if_true];exact⟨trivial,trivial,hnm,trivial⟩
 ·have hplace:(∃ id cap,base=some id/\μ id=some (.blk b' cap)/\FP id=b'::(FP id).tail)\/b'=w.heap.size:=by
   rcases hA.place with h1|h1
   ·exact .inl (hob b' h1)
   ·exact .inr h1
  have hb'lt:b'<w'.heap.size:=(Array.getElem?_eq_some_iff.1 hA.row).1
  have hb'hot:hot c.M0 (Hof h) μ b'\/b'=w.heap.size:=by
   rcases hplace with⟨id,cap,h1,h2,h3⟩|h1
   ·obtain⟨e0,he,hl⟩:=hbase id h1
    exact .inl (.inr ⟨id,cap,e0,h2,he,hl⟩)
   ·exact .inr h1
  have hfps:∀ i,i<n->∀ b,b∈fps i->b∈(List.range n).flatMap fps:=fun i hi b hb=>List.mem_flatMap.2 ⟨i,List.mem_range.2 hi,hb⟩
  have hfps2:∀ i,i<m->∀ b,b∈fps2 i->b∈(List.range m).flatMap fps2:=fun i hi b hb=>List.mem_flatMap.2 ⟨i,List.mem_range.2 hi,hb⟩
  have hne1:∀ b,b∈(List.range n).flatMap fps->b≠b':=by
   intro b hb e;subst e;obtain⟨id,h1,h2⟩:=hfp1 b hb;rcases hplace with⟨id',cap,h3,h4,h5⟩|h3
   ·rw[h1]at h3;cases h3
    have:=hW.nodup id;rw[h5,List.nodup_cons]at this;exact this.1 h2
   ·have:=(hW.new id b (List.mem_of_mem_tail h2)).2
    omega
  have hne2:∀ b,b∈(List.range m).flatMap fps2->b≠b':=by
   intro b hb e;subst e;have hbR:=hfp2 b hb;rcases hplace with⟨id',cap,h3,h4,h5⟩|h3
   ·exact hR.disj b hbR id' (by rw[h5];simp)
   ·have:=(hR.new b hbR).2
    omega
  refine⟨updM μ h.length (.blk b' cap'),main (.blk b' cap') (b'::((List.range n).flatMap fps++(List.range m).flatMap fps2)) hA.os hA.tape hA.output hA.size ?_ ?_ ?_ ?_ ?_,?_⟩
  ·intro b hb
   by_cases hbb:b=b'
   ·subst hbb
    rcases hplace with⟨id,cap,h1,h2,h3⟩|h1
    ·obtain⟨e0,he,hl⟩:=hbase id h1
     exact .inr ⟨.inr ⟨id,cap,e0,h2,he,hl⟩,id,h1,by rw[h3];simp⟩
    ·omega
   ·exact .inl (hA.other b hb hbb)
  ·intro b cap he
   cases he
   rcases hb'hot with h1|h1
   ·exact .inl h1
   ·exact .inr (by omega)
  ·intro b hb
   rcases List.mem_cons.1 hb with rfl|hb
   ·rcases hplace with⟨id,cap,h1,h2,h3⟩|h1
    ·exact .inl ⟨id,h1,by rw[h3];simp⟩
    ·exact .inr (.inl ⟨by omega,hb'lt⟩)
   ·rcases List.mem_append.1 hb with hb|hb
    ·obtain⟨id,h1,h2⟩:=hfp1 b hb
     exact .inl ⟨id,h1,List.mem_of_mem_tail h2⟩
    ·exact .inr (.inr (hfp2 b hb))
  ·rw[List.nodup_cons,List.nodup_append]
   refine⟨?_,hnd1,hnd2,?_⟩
   ·intro hm
    rcases List.mem_append.1 hm with hm|hm
    ·exact hne1 b' hm rfl
    ·exact hne2 b' hm rfl
   ·intro a ha b hb hab
    subst hab;obtain⟨id,h1,h2⟩:=hfp1 a ha;exact hR.disj a (hfp2 a hb) id (List.mem_of_mem_tail h2)
  ·intro hcold
   have hsame:∀ fq:List Nat,(∀ b,b∈fq->b≠b')->Same w (hot c.M0 (Hof h) μ) w' (hot c.M0 (Hof h2) (updM μ h.length (.blk b' cap'))) fq:=by
    intro fq hq;refine⟨hA.size,hcold,fun b hb hh=>hA.other b hb ?_⟩;rintro rfl
    rcases hh with hh|hh
    ·rcases hb'hot with h1|h1
     ·exact hh h1
     ·omega
    ·exact hq b hh rfl
   refine⟨cur',fun i=>if i<n then us i else us2 (i-n),fun i=>if i<n then fps i else fps2 (i-n),hA.row,hA.len,hA.fit,hA.big,?_,by rw[yud]⟩;intro i hi;by_cases hin:i<n
   ·have hbl:Nat.blt i n=true:=by simpa [Nat.blt_eq]using hin
    simp only[ykr,hbl,cond_true,if_pos hin];refine⟨RepL.mono _ (hleU _) (hsame _ (fun b hb=>hne1 b (hfps i hin b hb))) (hf.rep i hin),hf.len i hin,?_⟩;intro k u hu;have hk:k<e:=by have:=(List.getElem?_eq_some_iff.1 hu).1;rw[hf.len i hin]at this;exact this
    refine⟨?_,hf.one i hin u (List.mem_of_getElem? hu)⟩
    have hlt:i * e+k<n * e:=by
     have:(i+1) * e<=n * e:=Nat.mul_le_mul_right _ hin;rw[Nat.add_mul,Nat.one_mul]at this;omega
    rw[cell_of_row _ _ _ _ _ _ hA.row,hA.olds _ hlt,ynd hf.len hin hk];exact hu
   ·have hbl:Nat.blt i n=false:=by
     cases hb:Nat.blt i n
     ·rfl
     ·exact absurd (by simpa [Nat.blt_eq]using hb) hin
    have him:i-n<m:=by omega
    simp only[ykr,hbl,cond_false,if_neg hin];refine⟨RepL.mono _ (hleU _) (hsame _ (fun b hb=>hne2 b (hfps2 (i-n) him b hb))) (hg.rep _ him),hg.len _ him,?_⟩;intro k u hu;have hk:k<e:=by have:=(List.getElem?_eq_some_iff.1 hu).1;rw[hg.len _ him]at this;exact this
    refine⟨?_,hg.one _ him u (List.mem_of_getElem? hu)⟩
    have hlt:(i-n) * e+k<m * e:=by
     have:(i-n+1) * e<=m * e:=Nat.mul_le_mul_right _ him;rw[Nat.add_mul,Nat.one_mul]at this;omega
    have e1:i * e+k=n * e+((i-n) * e+k):=by
     have:i=n+(i-n):=by omega
     rw[this,Nat.add_mul,Nat.add_sub_cancel_left];omega
    rw[cell_of_row _ _ _ _ _ _ hA.row,e1,hA.adds _ hlt,ynd hg.len him hk];exact hu
  ·simp only[Rep,updM,if_true]
   exact⟨trivial,by have:=hA.fit;omega,0,by simp,.inr (by simp)⟩
end
end Go.Ab
namespace Go.Ab
open Go
variable [Inv]
def ytp : List AV -> Bool
 | []=>true
 | .int _ _::l=>ytp l
 | .bool _::l=>ytp l
 | .str _::l=>ytp l
 | _=>false
def srcA (e : Nat) (flat : Bool) (h : List Ent) : AV -> Option ((Nat × (Nat -> List AV)) × List Ent × List Prop)
  | .nils=>some ((0,fun _=>[]),h,[])
  | .sl none e' m g=>if e'=e then some ((m,g),h,[])else none
  | .ref id e' off m => match nthE h id with
    | some (.arr _ e2 n2 f2)=>if e'=e/\e2=e then
        match flat with
        | true=>some ((m,fun i=>yz (f2 (off+i))),h,[off+m<=n2])
        | false => match off with
          | 0=>some ((m,f2),setE h id .dead,[m<=n2])
          | _+1=>none
      else none
    | _=>none
  | _=>none
def yw2 (e : Nat) (et : TypeId) (h : List Ent) : AV -> Option ((Nat × (Nat -> List AV)) × Option Nat × List Prop)
  | .nils=>some ((0,fun _=>[]),none,[])
  | .ref id e' 0 n => match nthE h id with
    | some (.arr T e2 n2 f)=>if e'=e/\e2=e/\T=et then some ((n,f),some id,[n<=n2])else none
    | _=>none
  | _=>none
def y6p (Γ:Env) (h:List Ent) (t:TypeId) (x y:AV):NewR:=
  match tget Γ t with
  | some j => match j.ti with
    | .slice et => match tget Γ et with
      | some k => match k.ones, srcA k.size (ytp k.zero) h y with
        | true, some ((m, g), h1, o1) => match yw2 k.size et h1 x with
          | some ((n,f),b,o2)=>if k.zero.length=k.size then some (.ref h.length k.size 0 (n+m),ybq h1 b++[.arr et k.size (n+m) (ykr n f g)],
              ((n+m) * k.bytes<=140737488355328/\n+m<=140737488355328)::(o1++o2))else none
          | none=>none
        | _,_=>none
      | none=>none
    | _=>none
  | none=>none
section
variable {P:Program} {Γ:Env} {c:Ctx} {μ:Map} {FP:Nat->List Nat} {w:World} {R:List Nat}
theorem Elts.mono {w w':World} {M M':Nat->Prop} {μ:Map} {e n:Nat} {f:Nat->List AV} {us:Nat->List Value} {fps:Nat->List Nat} (h:Elts w M μ e n f us fps) (hs:∀ fp:List Nat,Same w M w' M' fp):Elts w' M' μ e n f us fps:=
 ⟨fun i hi=>RepL.mono _ (Map.le_refl _) (hs _) (h.rep i hi),h.len,h.one⟩
theorem y2e {h:List Ent} (hW:WR c (Hof h) μ FP w) {id b cap:Nat} {T:TypeId} {e n:Nat} {f:Nat->List AV} (hm:μ id=some (.blk b cap)) (he:nthE h id=some (.arr T e n f)) :
  ∃ cur us fps,Elts w (hot c.M0 (Hof h) μ) μ e n f us fps/\w.heap[b]? = some (.cells cur T (0,0))/\cur.size=cap * e/\n<=cap/\cap<=maxLen /\
   (∀ i,i<n->yyd w b (i * e) (us i))/\FP id=b::(List.range n).flatMap fps:=by
 obtain⟨ent,he1,hok⟩:=hW.ent id _ hm;have he2:Hof h id=some (.arr T e n f):=he;rw[he2]at he1;cases he1;obtain⟨cur,us,fps,hh,h1,h2,h3,hcl,hF⟩:=hok
 exact⟨cur,us,fps,⟨fun i hi=>(hcl i hi).1,fun i hi=>(hcl i hi).2.1,fun i hi u hu=>by
  obtain⟨j,hj⟩:=List.getElem?_of_mem hu
  exact((hcl i hi).2.2 j u hj).2⟩,hh,h1,h2,h3,fun i hi=>(hcl i hi).2.2,hF⟩
theorem Elts.le {w:World} {M:Nat->Prop} {μ:Map} {e n m:Nat} {f:Nat->List AV} {us:Nat->List Value} {fps:Nat->List Nat} (h:Elts w M μ e n f us fps) (hm:m<=n):Elts w M μ e m f us fps:=
 ⟨fun i hi=>h.rep i (by omega),fun i hi=>h.len i (by omega),fun i hi=>h.one i (by omega)⟩
theorem y8g {w:World} {b o e m:Nat} {us:Nat->List Value} (hl:∀ i,i<m->(us i).length=e) (hc:∀ i,i<m->yyd w b (o+i * e) (us i)) :
  ∀ j u,((List.range m).flatMap us)[j]? = some u->w.cell? ((⟨b,o,none⟩:Addr).add j)=some u:=by
 intro j u hu;have hj:j<m * e:=by rw[<- ynb hl];exact(List.getElem?_eq_some_iff.1 hu).1
 have he:0<e:=by
  rcases Nat.eq_zero_or_pos e with h0|h0
  ·subst h0;simp at hj
  ·exact h0
 have hi:j / e<m:=Nat.div_lt_of_lt_mul (by rwa [Nat.mul_comm]at hj);have hk:j % e<e:=Nat.mod_lt _ he;have hdm:j / e * e+j % e=j:=by rw[Nat.mul_comm];exact Nat.div_add_mod j e
 rw[<- hdm,ynd hl hi hk]at hu;rw[Addr.add_lit, <- hdm, <- Nat.add_assoc];exact(hc _ hi _ _ hu).1
theorem ywz {h h1 : List Ent} {e m : Nat} {flat : Bool} {g : Nat -> List AV} {y : AV} {vy : Value} {obl : List Prop} (hW : WR c (Hof h) μ FP w) (hs : srcA e flat h y = some ((m, g), h1, obl)) (ho : allP obl)
  (hy:Rep w (hot c.M0 (Hof h) μ) y μ vy []) :
  ∃ FP1 R us2 fps2,WR c (Hof h1) μ FP1 w/\Free c FP1 w R/\Trans c.M0 (Hof h) μ w (Hof h1) μ w/\h1.length=h.length/\Elts w (hot c.M0 (Hof h1) μ) μ e m g us2 fps2 /\
   (∀ b,b∈(List.range m).flatMap fps2->b∈R)/\((List.range m).flatMap fps2).Nodup /\
   ((vy=.slice none 0 0/\m=0)\/∃ a cp,vy=.slice (some a) m cp/\∀ j u,((List.range m).flatMap us2)[j]? = some u->w.cell? (a.add j)=some u):=by
 have hno:∀ m:Nat,((List.range m).flatMap fun _=>([]:List Nat))=[]:=by intro m;simp
 unfold srcA at hs;split at hs
 ·simp only[Option.some.injEq,Prod.mk.injEq]at hs
  obtain⟨⟨rfl,rfl⟩,rfl,rfl⟩:=hs;simp only[Rep]at hy;exact⟨FP,[],fun _=>[],fun _=>[],hW,Free.nil _ _ _,Trans.refl _ _ _ _,rfl,⟨by omega,by omega,by omega⟩,by intro b hb;rw[hno]at hb;exact hb,by rw[hno];simp,.inl ⟨hy.1,rfl⟩⟩
 ·rename_i e' m' g'
  split at hs
  ·rename_i hee
   subst hee;simp only[Option.some.injEq,Prod.mk.injEq]at hs;obtain⟨⟨rfl,rfl⟩,rfl,rfl⟩:=hs;simp only[Rep]at hy;rcases hy with⟨rfl,rfl|⟨a,cp,rfl⟩,_⟩|⟨b,o,cap,us,fps,rfl,hn,hb,hc,hM,_,hfp⟩
   ·exact⟨FP,[],fun _=>[],fun _=>[],hW,Free.nil _ _ _,Trans.refl _ _ _ _,rfl,⟨by omega,by omega,by omega⟩,by intro b hb;rw[hno]at hb;exact hb,by rw[hno];simp,.inl ⟨rfl,rfl⟩⟩
   ·exact⟨FP,[],fun _=>[],fun _=>[],hW,Free.nil _ _ _,Trans.refl _ _ _ _,rfl,⟨by omega,by omega,by omega⟩,by intro b hb;rw[hno]at hb;exact hb,by rw[hno];simp,.inr ⟨a,cp,rfl,by intro j u hu;simp at hu⟩⟩
   ·refine⟨FP,[],us,fun _=>[],hW,Free.nil _ _ _,Trans.refl _ _ _ _,rfl,⟨?_,fun i hi=>(hc i hi).2.1,?_⟩,by intro b hb;rw[hno]at hb;exact hb,by rw[hno];simp,.inr ⟨⟨b,o,none⟩,cap,rfl,y8g (fun i hi=>(hc i hi).2.1) (fun i hi=>(hc i hi).2.2)⟩⟩
    ·intro i hi
     have:=(hc i hi).1;rw[hfp i hi]at this;exact this.lift
    ·intro i hi u hu
     obtain⟨j,hj⟩:=List.getElem?_of_mem hu;exact((hc i hi).2.2 j u hj).2
  ·simp at hs
 ·rename_i id e' off m'
  split at hs
  ·rename_i T e2 n2 f2 hid
   split at hs
   ·rename_i hee
    obtain⟨rfl,rfl⟩:=hee;split at hs
    ·simp only[Option.some.injEq,Prod.mk.injEq]at hs
     obtain⟨⟨rfl,rfl⟩,rfl,rfl⟩:=hs;have hle:=ho.1;simp only[Rep]at hy;obtain⟨_,hy⟩:=hy
     cases hm:μ id with
     | none=>simp[hm]at hy
     | some L=>
      cases L with
      | nil=>
       simp only[hm]at hy;obtain⟨rfl,rfl,rfl⟩:=hy;exact⟨FP,[],fun _=>[],fun _=>[],hW,Free.nil _ _ _,Trans.refl _ _ _ _,rfl,⟨by omega,by omega,by omega⟩,by intro b hb;rw[hno]at hb;exact hb,by rw[hno];simp,.inl ⟨rfl,rfl⟩⟩
      | blk b cap=>
       simp only[hm]at hy;obtain⟨hcap,o,rfl,hoo⟩:=hy;obtain⟨cur,us,fps,hE,hh,h1,h2,h3,hcl,hF⟩:=y2e hW hm hid;refine⟨FP,[],fun i=>us (off+i),fun _=>[],hW,Free.nil _ _ _,Trans.refl _ _ _ _,rfl,⟨?_,fun i hi=>hE.len _ (by omega),fun i hi=>hE.one _ (by omega)⟩,by intro b hb;rw[hno]at hb;exact hb,by rw[hno];simp,?_⟩
       ·intro i hi
        exact yub _ (fun x hx=>hW.inner_cold hm hF (List.mem_flatMap.2 ⟨off+i,List.mem_range.2 (by omega),hx⟩)) (hE.rep (off+i) (by omega))
       ·refine .inr ⟨⟨b,o,none⟩,cap-off,rfl,?_⟩
        by_cases hm0:m'=0
        ·subst hm0;intro j u hu;simp at hu
        ·have hoe:o=off * e2:=by
          rcases hoo with h5|h5
          ·omega
          ·exact h5
         subst hoe;refine y8g (fun i hi=>hE.len _ (by omega)) (fun i hi => ?_);have:=hcl (off+i) (by omega);rwa [Nat.add_mul]at this
    ·split at hs
     ·simp only[Option.some.injEq,Prod.mk.injEq]at hs
      obtain⟨⟨rfl,rfl⟩,rfl,rfl⟩:=hs;have hle:=ho.1;obtain⟨k1,k2,k3⟩:=hW.kill (Free.nil _ _ _) hid;simp only[List.nil_append]at k3;simp only[Rep]at hy;obtain⟨_,hy⟩:=hy
      cases hm:μ id with
      | none=>simp[hm]at hy
      | some L=>
       cases L with
       | nil=>
        simp only[hm]at hy;obtain⟨_,rfl,rfl⟩:=hy;exact⟨_,_,fun _=>[],fun _=>[],k1,k3,k2,y0 _ _ _,⟨by omega,by omega,by omega⟩,by simp,by simp,.inl ⟨rfl,rfl⟩⟩
       | blk b cap=>
        simp only[hm]at hy;obtain⟨hcap,o,rfl,hoo⟩:=hy;obtain⟨cur,us,fps,hE,hh,h1,h2,h3,hcl,hF⟩:=y2e hW hm hid;have hsub:((List.range m').flatMap fps).Sublist ((List.range n2).flatMap fps):=yhb fps hle;have hnd:=hW.nodup id;rw[hF,List.nodup_cons]at hnd;refine⟨_,_,us,fps,k1,k3,k2,y0 _ _ _,(hE.mono (k2.sameFp)).le hle,?_,hnd.2.sublist hsub,?_⟩
        ·intro x hx
         rw[hF];exact List.mem_cons_of_mem _ (hsub.subset hx)
        ·refine .inr ⟨⟨b,o,none⟩,cap-0,rfl,?_⟩
         have hoe:o=0:=by
          rcases hoo with h5|h5
          ·omega
          ·simpa using h5
         subst hoe;refine y8g (fun i hi=>hE.len _ (by omega)) (fun i hi => ?_);simpa using hcl i (by omega)
     ·simp at hs
   ·simp at hs
  ·simp at hs
 ·simp at hs
theorem ynv {h1 : List Ent} {e n : Nat} {et : TypeId} {f : Nat -> List AV} {x : AV} {vx : Value} {bo : Option Nat} {o2 : List Prop} {FP1 : Nat -> List Nat} (a1 : WR c (Hof h1) μ FP1 w)
  (hba:yw2 e et h1 x=some ((n,f),bo,o2)) (ho2:allP o2) (hx:Rep w (hot c.M0 (Hof h1) μ) x μ vx []) :
  ∃ ob us fps,(∀ id,bo=some id->∃ e0,nthE h1 id=some e0/\e0.live=true)/\(∀ b,ob=some b->∃ id cap,bo=some id/\μ id=some (.blk b cap)/\FP1 id=b::(FP1 id).tail) /\
   Elts w (hot c.M0 (Hof h1) μ) μ e n f us fps/\(∀ b,b∈(List.range n).flatMap fps->∃ id,bo=some id/\b∈(FP1 id).tail)/\((List.range n).flatMap fps).Nodup/\vx.ownBlock=ob /\
   ((vx=.slice none 0 0/\n=0)\/∃ b cap cur,vx=.slice (some ⟨b,0,none⟩) n cap/\w.heap[b]? = some (.cells cur et (0,0))/\cur.size=cap * e/\n<=cap/\cap<=maxLen/\∀ j,j<n * e->cur[j]? = ((List.range n).flatMap us)[j]?):=by
 unfold yw2 at hba;split at hba
 ·simp only[Option.some.injEq,Prod.mk.injEq]at hba
  obtain⟨⟨rfl,rfl⟩,rfl,rfl⟩:=hba;simp only[Rep]at hx;obtain⟨rfl,_⟩:=hx;exact⟨none,fun _=>[],fun _=>[],by simp,by simp,⟨by omega,by omega,by omega⟩,by simp,by simp,rfl,.inl ⟨rfl,rfl⟩⟩
 ·rename_i id e' n'
  split at hba
  ·rename_i T e2 n2 f' hid
   split at hba
   ·rename_i hcond
    obtain⟨rfl,rfl,rfl⟩:=hcond;simp only[Option.some.injEq,Prod.mk.injEq]at hba;obtain⟨⟨rfl,rfl⟩,rfl,rfl⟩:=hba;have hle:=ho2.1
    have hlive:∀ id',some id=some id'->∃ e0,nthE h1 id'=some e0/\e0.live=true:=by
     intro id' he;cases he;exact⟨_,hid,rfl⟩
    simp only[Rep]at hx;obtain⟨_,hx⟩:=hx
    cases hm:μ id with
    | none=>simp[hm]at hx
    | some L=>
     cases L with
     | nil=>
      simp only[hm]at hx;obtain⟨_,rfl,rfl⟩:=hx;exact⟨none,fun _=>[],fun _=>[],hlive,by simp,⟨by omega,by omega,by omega⟩,by simp,by simp,rfl,.inl ⟨rfl,rfl⟩⟩
     | blk b cap=>
      simp only[hm]at hx;obtain⟨hcap,o,rfl,hoo⟩:=hx;obtain⟨cur,us,fps,hE,hh,h1',h2,h3,hcl,hF⟩:=y2e a1 hm hid
      have hoe:o=0:=by
       rcases hoo with h5|h5
       ·omega
       ·simpa using h5
      subst hoe;have hnd:=a1.nodup id;rw[hF,List.nodup_cons]at hnd;have hsub:((List.range n').flatMap fps).Sublist ((List.range n2).flatMap fps):=yhb fps hle;refine⟨some b,us,fps,hlive,?_,hE.le hle,?_,hnd.2.sublist hsub,rfl,.inr ⟨b,cap-0,cur,rfl,hh,by simpa using h1',by omega,by omega,?_⟩⟩
      ·intro b' hb'
       cases hb'
       exact⟨id,cap,rfl,hm,by rw[hF];rfl⟩
      ·intro x hxm
       exact⟨id,rfl,by rw[hF];exact hsub.subset hxm⟩
      ·intro j hj
       have hcf:=y8g (w:=w) (b:=b) (o:=0) (e:=e2) (m:=n') (us:=us) (fun i hi=>hE.len _ (by omega)) (fun i hi=>by simpa using hcl i (by omega));have hlen:j<((List.range n').flatMap us).length:=by rw[ynb (fun i hi=>hE.len _ (by omega))];exact hj
       have:=hcf j _ (List.getElem?_eq_getElem hlen);rw[Addr.add_lit,Nat.zero_add,cell_of_row w b j cur T (0,0) hh]at this;rw[this,List.getElem?_eq_getElem hlen]
   ·simp at hba
  ·simp at hba
 ·simp at hba
theorem ywq (hΓ : TyOk P Γ) {h h' : List Ent} {t ty : TypeId} {x y r : AV} {vx vy : Value} {obl : List Prop} (hW : WR c (Hof h) μ FP w) (hd : Tail h μ)
  (hb:y6p Γ h t x y=some (r,h',obl)) (ho:allP obl)
  (hx:Rep w (hot c.M0 (Hof h) μ) x μ vx []) (hy:Rep w (hot c.M0 (Hof h) μ) y μ vy []) :
  ∃ z μ' w',(Builtin.append_ #[t,t] ty #[vx,vy]).run P w=.ok z w'/\Next1 c h μ w h' μ' w'/\Rep w' (hot c.M0 (Hof h') μ') r μ' z []:=by
 unfold y6p at hb
 cases ht:tget Γ t with
 | none=>simp[ht]at hb
 | some j=>
  obtain⟨inf,d,hinf,hdd,hti,_⟩:=yg (hΓ.get ht);simp only[ht]at hb;split at hb
  ·rename_i et hk
   rw[hk]at hti;have:=y6b hti;subst this
   cases het:tget Γ et with
   | none=>simp[het]at hb
   | some k=>
    obtain⟨inf2,d2,hinf2,hd2,hti2,hsz2,hby2,hzero2,hones2⟩:=yg (hΓ.get het);simp only[het]at hb;split at hb
    ·rename_i m g h1 o1 hones hsrc
     cases hba:yw2 k.size et h1 x with
     | none=>simp[hba]at hb
     | some p=>
      obtain⟨⟨n,f⟩,bo,o2⟩:=p;simp only[hba]at hb;split at hb
      case isFalse=>simp at hb
      rename_i hzl
      simp only[Option.some.injEq,Prod.mk.injEq]at hb;obtain⟨rfl,rfl,rfl⟩:=hb;obtain⟨⟨hbytes,hbig⟩,ho'⟩:=ho;obtain⟨ho1,ho2⟩:=yk.1 ho';obtain⟨FP1,R,us2,fps2,a1,a2,a3,a4,a5,a6,a7,a8⟩:=ywz hW hsrc ho1 hy;have hd1:Tail h1 μ:=fun i hi=>hd i (by omega)
      cases hz:inf2.zero with
      | none=>rw[hones2,hz]at hones;simp at hones
      | some z=>
       have hzs:z.cells.size=k.size:=by rw[<- hzl,hzero2,hz];simp
       -- the base
       have hbase:∃ ob us fps,(∀ id,bo=some id->∃ e0,nthE h1 id=some e0/\e0.live=true)/\(∀ b,ob=some b->∃ id cap,bo=some id/\μ id=some (.blk b cap)/\FP1 id=b::(FP1 id).tail) /\
         Elts w (hot c.M0 (Hof h1) μ) μ k.size n f us fps/\(∀ b,b∈(List.range n).flatMap fps->∃ id,bo=some id/\b∈(FP1 id).tail)/\((List.range n).flatMap fps).Nodup/\vx.ownBlock=ob /\
         ((vx=.slice none 0 0/\n=0)\/∃ b cap cur,vx=.slice (some ⟨b,0,none⟩) n cap/\w.heap[b]? = some (.cells cur et (0,0))/\cur.size=cap * k.size/\n<=cap/\cap<=maxLen/\∀ j,j<n * k.size->cur[j]? = ((List.range n).flatMap us)[j]?):=by
        exact ynv a1 hba ho2 (Rep.mono x (Map.le_refl _) (a3.sameFp []) hx)
       obtain⟨ob,us,fps,b1,b2,b3,b4,b5,b6,b7⟩:=hbase
       obtain ⟨v', w', hrun, hout⟩ := y0o (P := P) (ty := ty) hdd hinf2 hz hsz2 hby2 hzs (old := (List.range n).flatMap us) (news := (List.range m).flatMap us2) (ynb b3.len) (ynb a5.len)
        (by intro u hu;obtain⟨i,hi,hui⟩:=List.mem_flatMap.1 hu;exact a5.one i (List.mem_range.1 hi) u hui) b7 a8 hbytes hbig
       rw[b6]at hout
       obtain⟨μ',q1,q2⟩:=ya2 a1 a2 hd1 (ob:=ob) b1 b2 b3 a5 b4 b5 a6 a7 (w':=w') (v':=v') (et:=et) (by
        rcases hout with⟨h5,h6,h7,_⟩|h5
        ·exact .inl ⟨h5,h6,h7⟩
        ·exact .inr h5)
       rw[show h.length=h1.length from a4.symm];exact⟨v',μ',w',hrun,⟨q1.wr,q1.tail,a3.trans q1.tr⟩,q2⟩
    ·simp at hb
  ·simp at hb
end
end Go.Ab
namespace Go.Ab
open Go
variable [Inv]
mutual
def ygc : AV -> Prop
 | .sl none _ _ _=>False
 | .sl (some _) _ n f=>∀ i,i<n->y4b (f i)
 | .ep _=>False
 | .op cs=>y4b cs
 | .agg cs=>y4b cs
 | .tup cs=>y4b cs
 | .fn _ _ cs=>y4b cs
 | .gd _ x=>ygc x
 | .lit _ _=>False
 | _=>True
def y4b : List AV -> Prop
 | []=>True
 | x::xs=>ygc x/\y4b xs
end
mutual
theorem Rep.noBor {w : World} {M M' : Nat -> Prop} : ∀ (x : AV) {μ : Map} {v : Value} {fp : List Nat}, ygc x -> Rep w M x μ v fp -> Rep w M' x μ v fp
 | .int _ _,_,_,_,_,h=>by simpa only[Rep]using h
 | .bool _,_,_,_,_,h=>by simpa only[Rep]using h
 | .str _,_,_,_,_,h=>by simpa only[Rep]using h
 | .nils,_,_,_,_,h=>by simpa only[Rep]using h
 | .any,_,_,_,_,h=>by simpa only[Rep]using h
 | .ref ..,_,_,_,_,h=>by simpa only[Rep]using h
 | .ptr ..,_,_,_,_,h=>by simpa only[Rep]using h
 | .pe ..,_,_,_,_,h=>by simpa only[Rep]using h
 | .ep _,_,_,_,hn,_=>by simp[ygc]at hn
 | .lit _ _,_,_,_,hn,_=>by simp[ygc]at hn
 | .op cs,μ,v,fp,hn,h=>by
  simp only[Rep,ygc]at h hn ⊢;obtain⟨b,us,T,e,e2,hb,hh,hone,hr⟩:=h;exact⟨b,us,T,e,e2,hb,hh,hone,RepL.noBor cs hn hr⟩
 | .agg cs,μ,v,fp,hn,h=>by
  simp only[Rep,ygc]at h hn ⊢;obtain⟨us,e,h⟩:=h;exact⟨us,e,RepL.noBor cs hn h⟩
 | .tup cs,μ,v,fp,hn,h=>by
  simp only[Rep,ygc]at h hn ⊢;obtain⟨us,e,h⟩:=h;exact⟨us,e,RepL.noBor cs hn h⟩
 | .fn f k cs,μ,v,fp,hn,h=>by
  simp only[Rep,ygc]at h hn ⊢;obtain⟨e0,us,e,h⟩:=h;exact⟨e0,us,e,RepL.noBor cs hn h⟩
 | .gd gs x,μ,v,fp,hn,h=>by
  simp only[Rep,ygc]at h hn ⊢;exact⟨h.1,fun hg=>Rep.noBor x hn (h.2.1 hg),h.2.2⟩
 | .sl none e n f,μ,v,fp,hn,h=>by simp[ygc]at hn
 | .sl (some T) e n f,μ,v,fp,hn,h=>by
  simp only[Rep,ygc]at h hn ⊢;rcases h with h|⟨b,o,cap,us,fps,hv,hnn,hb,hc,ho⟩
  ·exact .inl h
  ·exact .inr ⟨b,o,cap,us,fps,hv,hnn,hb,fun i hi=>⟨RepL.noBor (f i) (hn i hi) (hc i hi).1,(hc i hi).2⟩,ho⟩
theorem RepL.noBor {w : World} {M M' : Nat -> Prop} : ∀ (xs : List AV) {μ : Map} {us : List Value} {fp : List Nat}, y4b xs -> RepL w M xs μ us fp -> RepL w M' xs μ us fp
 | [],_,_,_,_,h=>by simpa only[RepL]using h
 | x::xs,μ,us,fp,hn,h=>by
  simp only[RepL,y4b]at h hn ⊢;obtain⟨u,us',f1,f2,e1,e2,h1,h2⟩:=h;exact⟨u,us',f1,f2,e1,e2,Rep.noBor x hn.1 h1,RepL.noBor xs hn.2 h2⟩
end
def yjc : AV -> Value -> List Nat
 | .sl (some _) _ _ _,.slice (some a) _ _=>[a.block]
 | .op _,.pointer (some a)=>[a.block]
 | _,_=>[]
mutual
def tops : AV -> Value -> List Nat
 | .agg cs,.agg us=>y1 cs us.toList
 | .tup cs,.tuple us=>y1 cs us.toList
 | x,v=>yjc x v
def y1 : List AV -> List Value -> List Nat
 | x::xs,v::vs=>tops x v++y1 xs vs
 | _,_=>[]
end
def FnOk (P:Program) (f:FuncId):Prop:=∃ fn,P.funcs[f]? = some fn/\(fn.name == "runtime.NumGoroutine")=false/\fn.body.isNone=false
def Den (P:Program) (f:FuncId) (xs:List AV) (r:AV):Prop:=
 FnOk P f/\∀ (w:World) (M:Nat->Prop) (vs:List Value) (fpA:List Nat),Inv.ok w->(∀ b,Inv.dom b->¬ M b/\b∉fpA) ->
  RepL w (fun b=>M b\/b∈y1 xs vs) xs yw vs fpA->fpA.Nodup->(∀ b,b∈fpA->¬ M b)->(∀ b,M b->b<w.heap.size) ->
  Calls P f vs.toArray w fun e w'=>∃ v fpR,e=.returned v/\Keep w (y1 xs vs) w'/\Rep w' (fun b=>M b\/b∈fpR) r yw v fpR/\fpR.Nodup /\
   (∀ b,b∈fpR->(b∈fpA\/w.heap.size<=b)/\b<w'.heap.size)/\(∀ b,b∈tops r v->b∈y1 xs vs\/w.heap.size<=b)
def mapO (f : AV -> Option (AV × List Prop)) : List AV -> Option (List AV × List Prop)
  | []=>some ([],[])
  | x :: xs => match f x with
    | some (y, o1) => match mapO f xs with
      | some (ys,o2)=>some (y::ys,o1++o2)
      | none=>none
    | none=>none
def yfb (h : List Ent) : Nat -> AV -> Option (AV × List Prop)
  | 0,_=>none
  | d + 1, x => match x with
    | .int k n=>some (.int k n,[])
    | .bool b=>some (.bool b,[])
    | .str l=>some (.str l,[])
    | .nils=>some (.nils,[])
    | .sl none e n f=>some (.sl none e n f,[])
    | .ep cs=>some (.ep cs,[])
    | .ref id e off n => match nthE h id with
      | some (.arr _ e' n' f)=>if e=e' then some (.sl none e n (fun i=>yz (f (off+i))),[off+n<=n',∀ i,i<n->y9d (f (off+i))=true])else none
      | _=>none
    | .pe id e i o => match nthE h id with
      | some (.arr _ e' n' f)=>if e=e' then some (.ep (yyc o (yz (f i))),[i<n',y9d (f i)=true])else none
      | _=>none
    | .ptr id o => match nthE h id with
      | some (.box cs) => match mapO (yfb h d) (yyc o cs) with
        | some (ys,ob)=>some (.ep ys,ob)
        | none=>none
      | _=>none
    | .agg cs => match mapO (yfb h d) cs with
      | some (ys,ob)=>some (.agg ys,ob)
      | none=>none
    | .fn f k cs => match mapO (yfb h d) cs with
      | some (ys,ob)=>some (.fn f k ys,ob)
      | none=>none
    | .lit _ x=>some (x,[])
    | _=>none
section
variable {P:Program} {Γ:Env} {c:Ctx} {μ:Map} {FP:Nat->List Nat} {w:World}
theorem ydf {M M':Nat->Prop} {x:AV} {v:Value} (hM:∀ b,M' b->M b) (h:Rep w M x μ v []):Rep w M' x μ v []:=
 Rep.mono x (Map.le_refl _) ⟨Nat.le_refl _,fun b _ hb h'=>hb (hM b h'),fun _ _ _=>rfl⟩ h
theorem y1e {M M':Nat->Prop} {xs:List AV} {us:List Value} (hM:∀ b,M' b->M b) (h:RepL w M xs μ us []):RepL w M' xs μ us []:=
 RepL.mono xs (Map.le_refl _) ⟨Nat.le_refl _,fun b _ hb h'=>hb (hM b h'),fun _ _ _=>rfl⟩ h
theorem yar {M M':Nat->Prop} {μ':Map} {g:AV->Option (AV×List Prop)} (hg:∀ x y ob v,g x=some (y,ob)->allP ob->Rep w M x μ v []->Rep w M' y μ' v []) :
  ∀ {xs ys:List AV} {ob:List Prop} {us:List Value},mapO g xs=some (ys,ob)->allP ob->RepL w M xs μ us []->RepL w M' ys μ' us []
 | [],ys,ob,us,h,_,hr=>by
  simp only[mapO,Option.some.injEq,Prod.mk.injEq]at h;obtain⟨rfl,rfl⟩:=h;simpa only[RepL]using hr
 | x::xs,ys,ob,us,h,ho,hr=>by
  simp only[mapO]at h
  cases hx:g x with
  | none=>simp[hx]at h
  | some p=>
   obtain⟨y,o1⟩:=p;simp only[hx]at h
   cases hxs:mapO g xs with
   | none=>simp[hxs]at h
   | some q=>
    obtain⟨zs,o2⟩:=q;simp only[hxs,Option.some.injEq,Prod.mk.injEq]at h;obtain⟨rfl,rfl⟩:=h;obtain⟨ho1,ho2⟩:=yk.1 ho;simp only[RepL]at hr ⊢;obtain⟨u,us',f1,f2,e1,hfp,h1,h2⟩:=hr;obtain⟨rfl,rfl⟩:=List.append_eq_nil_iff.1 hfp.symm;exact⟨u,us',[],[],e1,rfl,hg x y o1 u hx ho1 h1,yar hg hxs ho2 h2⟩
theorem yph {h h1 : List Ent} {M' : Nat -> Prop} (hW : WR c (Hof h) μ FP w) (hM' : ∀ b, M' b -> hot c.M0 (Hof h) μ b)
  (hsub:∀ id e,nthE h1 id=some e->e.live=true->nthE h id=some e)
  (hlive:∀ id b cap e,μ id=some (.blk b cap)->nthE h1 id=some e->e.live=true->M' b->False) :
  ∀ (d:Nat) (x y:AV) (ob:List Prop) (v:Value),yfb h1 d x=some (y,ob)->allP ob->Rep w (hot c.M0 (Hof h) μ) x μ v []->Rep w M' y yw v []
 | 0,x,y,ob,v,hs,_,_=>by simp[yfb]at hs
 | d+1,x,y,ob,v,hs,ho,hx=>by
  have ih:=yph hW hM' hsub hlive d
  have hML:∀ {cs ys:List AV} {ob:List Prop} {us:List Value},mapO (yfb h1 d) cs=some (ys,ob)->allP ob->RepL w (hot c.M0 (Hof h) μ) cs μ us []->RepL w M' ys yw us []:=
   fun h1 h2 h3=>yar ih h1 h2 h3
  cases x with
  | int k n=>simp only[yfb,Option.some.injEq,Prod.mk.injEq]at hs;obtain⟨rfl,rfl⟩:=hs;simpa only[Rep]using hx
  | bool b=>simp only[yfb,Option.some.injEq,Prod.mk.injEq]at hs;obtain⟨rfl,rfl⟩:=hs;simpa only[Rep]using hx
  | str l=>simp only[yfb,Option.some.injEq,Prod.mk.injEq]at hs;obtain⟨rfl,rfl⟩:=hs;simpa only[Rep]using hx
  | nils=>simp only[yfb,Option.some.injEq,Prod.mk.injEq]at hs;obtain⟨rfl,rfl⟩:=hs;simpa only[Rep]using hx
  | ep cs=>simp only[yfb,Option.some.injEq,Prod.mk.injEq]at hs;obtain⟨rfl,rfl⟩:=hs;have:=ydf hM' hx;simpa only[Rep]using this
  | sl own e n f=>
   cases own with
   | none=>simp only[yfb,Option.some.injEq,Prod.mk.injEq]at hs;obtain⟨rfl,rfl⟩:=hs;have:=ydf hM' hx;simpa only[Rep]using this
   | some T=>simp[yfb]at hs
  | tup _=>simp[yfb]at hs
  | op _=>simp[yfb]at hs
  | gd _ _=>simp[yfb]at hs
  | any=>simp[yfb]at hs
  | lit u x=>
   simp only[yfb,Option.some.injEq,Prod.mk.injEq]at hs;obtain⟨rfl,rfl⟩:=hs;simp only[Rep]at hx;exact ydf hM' hx.2.2
  | agg cs=>
   simp only[yfb]at hs
   cases hm:mapO (yfb h1 d) cs with
   | none=>simp[hm]at hs
   | some p=>
    obtain⟨ys,o1⟩:=p;simp only[hm,Option.some.injEq,Prod.mk.injEq]at hs;obtain⟨rfl,rfl⟩:=hs;simp only[Rep]at hx ⊢;obtain⟨us,e,hr⟩:=hx;exact⟨us,e,hML hm ho hr⟩
  | fn f k cs=>
   simp only[yfb]at hs
   cases hm:mapO (yfb h1 d) cs with
   | none=>simp[hm]at hs
   | some p=>
    obtain⟨ys,o1⟩:=p;simp only[hm,Option.some.injEq,Prod.mk.injEq]at hs;obtain⟨rfl,rfl⟩:=hs;simp only[Rep]at hx ⊢;obtain⟨e0,us,e,hr⟩:=hx;exact⟨trivial,us,e,hML hm ho hr⟩
  | ptr id o=>
   simp only[yfb]at hs;split at hs
   ·rename_i cs hid1
    have hid:=hsub _ _ hid1 rfl
    cases hm:mapO (yfb h1 d) (yyc o cs)with
    | none=>simp[hm]at hs
    | some p=>
     obtain⟨ys,o1⟩:=p;simp only[hm,Option.some.injEq,Prod.mk.injEq]at hs;obtain⟨rfl,rfl⟩:=hs;simp only[Rep]at hx ⊢;obtain⟨_,b,cap,hmu,rfl⟩:=hx;obtain⟨e,he,hok⟩:=hW.ent id _ hmu;have he2:Hof h id=some (.box cs):=hid;rw[he2]at he;cases he;obtain⟨b',cap',us,T,h1,h2,hh,hone,hr⟩:=hok;cases h1
     refine⟨trivial,b,o,us.drop o,rfl,(hW.lt hmu hid rfl).2,fun hb=>hlive id b cap _ hmu hid1 rfl hb,hML hm ho (yoe hr),?_⟩;intro j u hu;rw[List.getElem?_drop]at hu;rw[cell_of_row w b (o+j) us.toArray T (0,0) hh];exact⟨by simpa using hu,hone u (List.mem_of_getElem? hu)⟩
   ·simp at hs
  | pe id e i o=>
   simp only[yfb]at hs;split at hs
   ·rename_i T e' n' f hid1
    have hid:=hsub _ _ hid1 rfl;split at hs
    ·rename_i hee
     subst hee;simp only[Option.some.injEq,Prod.mk.injEq]at hs;obtain⟨rfl,rfl⟩:=hs;have hi:=ho.1;simp only[Rep]at hx ⊢;obtain⟨_,b,cap,hmu,rfl⟩:=hx;obtain⟨cur,us,fps,hE,hh,h1,h2,h3,hcl,hF⟩:=y2e hW hmu hid;have hr:=yub (f i) (fun x hx=>hW.inner_cold hmu hF (List.mem_flatMap.2 ⟨i,List.mem_range.2 hi,hx⟩)) (y1b (μ':=yw) (f i) ho.2.1 (hE.rep i hi));exact⟨trivial,b,i * e+o,(us i).drop o,rfl,(hW.lt hmu hid rfl).2,fun hb=>hlive id b cap _ hmu hid1 rfl hb,yoe (y1e hM' hr),(hcl i hi).drop⟩
    ·simp at hs
   ·simp at hs
  | ref id e off n=>
   simp only[yfb]at hs;split at hs
   ·rename_i T e' n' f hid1
    have hid:=hsub _ _ hid1 rfl;split at hs
    ·rename_i hee
     subst hee;simp only[Option.some.injEq,Prod.mk.injEq]at hs;obtain⟨rfl,rfl⟩:=hs;have hle:=ho.1;simp only[Rep]at hx ⊢;obtain⟨_,hx⟩:=hx
     cases hm:μ id with
     | none=>simp[hm]at hx
     | some L=>
      cases L with
      | nil=>
       simp only[hm]at hx;obtain⟨_,rfl,rfl⟩:=hx;exact .inl ⟨rfl,.inl rfl,trivial⟩
      | blk b cap=>
       simp only[hm]at hx;obtain⟨hcap,o,rfl,hoo⟩:=hx;obtain⟨cur,us,fps,hE,hh,h1,h2,h3,hcl,hF⟩:=y2e hW hm hid;refine .inr ⟨b,o,cap-off,fun i=>us (off+i),fun _=>[],rfl,by omega,(hW.lt hm hid rfl).2,?_,fun hb=>hlive id b cap _ hm hid1 rfl hb,trivial,by simp⟩;intro i hi;have hr:=yub (f (off+i)) (fun x hx=>hW.inner_cold hm hF (List.mem_flatMap.2 ⟨off+i,List.mem_range.2 (by omega),hx⟩)) (y1b (μ':=yw) (f (off+i)) (ho.2.1 i hi) (hE.rep (off+i) (by omega)));refine⟨y1e hM' hr,hE.len _ (by omega),?_⟩
       have hoe:o=off * e:=by
        rcases hoo with h5|h5
        ·omega
        ·exact h5
       subst hoe;have:=hcl (off+i) (by omega);rwa [Nat.add_mul]at this
    ·simp at hs
   ·simp at hs
end
end Go.Ab
namespace Go.Ab
open Go
variable [Inv]
mutual
def adE : AV -> List Ent
 | .sl (some T) e n f=>[.arr T e n f]
 | .op cs=>[.box cs]
 | .agg cs=>adEL cs
 | .tup cs=>adEL cs
 | _=>[]
def adEL : List AV -> List Ent
 | []=>[]
 | x::xs=>adE x++adEL xs
end
mutual
def adR (k : Nat) : AV -> AV
 | .sl (some _) e n _=>.ref k e 0 n
 | .op _=>.ptr k 0
 | .agg cs=>.agg (adRL k cs)
 | .tup cs=>.tup (adRL k cs)
 | x=>x
def adRL (k : Nat) : List AV -> List AV
 | []=>[]
 | x::xs=>adR k x::adRL (k+(adE x).length) xs
end
section
variable {P:Program} {c:Ctx} {μ:Map} {FP:Nat->List Nat} {w:World}
theorem Rep.fpNil {w:World} {M:Nat->Prop} {μ:Map} {x:AV} {v:Value} {fp:List Nat} (h:Rep w M x μ v fp) (hx:∀ T e n f,x≠.sl (some T) e n f) (h1:∀ cs,x≠.agg cs) (h2:∀ cs,x≠.tup cs) (h3:∀ cs,x≠.op cs):fp=[]:=by
 cases x with
 | sl own e n f=>
  cases own with
  | some T=>exact absurd rfl (hx T e n f)
  | none=>
   simp only[Rep]at h;rcases h with⟨_,_,h⟩|⟨b,o,cap,us,fps,_,_,_,_,_,h,_⟩<;>exact h
 | agg cs=>exact absurd rfl (h1 cs)
 | tup cs=>exact absurd rfl (h2 cs)
 | op cs=>exact absurd rfl (h3 cs)
 | int _ _=>simp only[Rep]at h;exact h.2
 | bool _=>simp only[Rep]at h;exact h.2
 | str _=>simp only[Rep]at h;exact h.2
 | nils=>simp only[Rep]at h;exact h.2
 | any=>simpa only[Rep]using h
 | lit _ _=>simp only[Rep]at h;exact h.1
 | ref _ _ _ _=>simp only[Rep]at h;exact h.1
 | ptr _ _=>simp only[Rep]at h;exact h.1
 | pe _ _ _ _=>simp only[Rep]at h;exact h.1
 | ep _=>simp only[Rep]at h;exact h.1
 | fn _ _ _=>simp only[Rep]at h;exact h.1
 | gd _ _=>simp only[Rep]at h;exact h.1
structure Ad (w:World) (M:Nat->Prop) (es:List Ent) (ls:List (Loc×List Nat)) (fp tp:List Nat):Prop where
 len:ls.length=es.length
 fps:fp=(ls.map (·.2)).flatten
 ok:∀ (k:Nat) (e:Ent) (L:Loc) (fq:List Nat),es[k]? = some e->ls[k]? = some (L,fq)->(∀ μ,yic w M μ e L fq)/\∀ b cap,L=.blk b cap->b∈tp
theorem Ad.append {w:World} {M:Nat->Prop} {es es':List Ent} {ls ls':List (Loc×List Nat)} {fp fp' tp tp':List Nat} (h:Ad w M es ls fp tp) (h':Ad w M es' ls' fp' tp') :
  Ad w M (es++es') (ls++ls') (fp++fp') (tp++tp'):=by
 refine⟨by simp[h.len,h'.len],by simp[h.fps,h'.fps],?_⟩;intro k e L fq he hl;by_cases hk:k<es.length
 ·rw[List.getElem?_append_left hk]at he
  rw[List.getElem?_append_left (by rw[h.len];exact hk)]at hl;obtain⟨h1,h2⟩:=h.ok k e L fq he hl;exact⟨h1,fun b cap hL=>List.mem_append_left _ (h2 b cap hL)⟩
 ·rw[List.getElem?_append_right (by omega)]at he
  rw[List.getElem?_append_right (by rw[h.len];omega),h.len]at hl;obtain⟨h1,h2⟩:=h'.ok _ e L fq he hl;exact⟨h1,fun b cap hL=>List.mem_append_right _ (h2 b cap hL)⟩
mutual
theorem y71 {w:World} {M:Nat->Prop}:∀ (x:AV) {v:Value} {fp:List Nat},Rep w M x yw v fp ->
  ∃ ls,Ad w M (adE x) ls fp (tops x v)/\∀ (k:Nat) (μ:Map),(∀ (j:Nat) (L:Loc) (fq:List Nat),ls[j]? = some (L,fq)->μ (k+j)=some L)->Rep w M (adR k x) μ v []
 | .agg cs,v,fp,h=>by
  simp only[Rep]at h;obtain⟨us,rfl,h⟩:=h;obtain⟨ls,h1,h2⟩:=yzm cs h;refine⟨ls,by simpa only[adE,tops]using h1,fun k μ hk => ?_⟩;simp only[adR,Rep];exact⟨us,rfl,h2 k μ hk⟩
 | .tup cs,v,fp,h=>by
  simp only[Rep]at h;obtain⟨us,rfl,h⟩:=h;obtain⟨ls,h1,h2⟩:=yzm cs h;refine⟨ls,by simpa only[adE,tops]using h1,fun k μ hk => ?_⟩;simp only[adR,Rep];exact⟨us,rfl,h2 k μ hk⟩
 | .sl (some T) e n f,v,fp,h=>by
  simp only[Rep]at h;rcases h with⟨rfl,rfl,rfl⟩|⟨b,o,cap,us,fps,rfl,hn,hb,hc,rfl,rfl,cur,hcur,hsz,hcm⟩
  ·refine⟨[(.nil,[])],⟨rfl,by simp,?_⟩,?_⟩
   ·intro k e' L fq he hl
    cases k with
    | zero=>
     simp only[adE,List.getElem?_cons_zero,Option.some.injEq,Prod.mk.injEq]at he hl;obtain⟨rfl,rfl⟩:=hl;subst he;exact⟨fun μ=>⟨rfl,rfl⟩,by intro b cap h;cases h⟩
    | succ k=>simp[adE]at he
   ·intro k μ hk
    have:=hk 0 .nil [] rfl;simp only[adR,Rep];simp only[Nat.add_zero]at this;rw[this];exact⟨trivial,trivial,trivial,trivial⟩
  ·refine⟨[(.blk b cap,b::(List.range n).flatMap fps)],⟨rfl,by simp,?_⟩,?_⟩
   ·intro k e' L fq he hl
    cases k with
    | zero=>
     simp only[adE,List.getElem?_cons_zero,Option.some.injEq,Prod.mk.injEq]at he hl;obtain⟨rfl,rfl⟩:=hl;subst he;refine⟨fun μ=>⟨cur,us,fps,hcur,hsz,hn.1,hcm,fun i hi => ?_,rfl⟩,by intro b' cap' h;cases h;simp[tops,yjc]⟩;obtain⟨h1,h2,h3⟩:=hc i hi;exact⟨h1.lift,h2,by simpa using h3⟩
    | succ k=>simp[adE]at he
   ·intro k μ hk
    have:=hk 0 (.blk b cap) _ rfl;simp only[adR,Rep];simp only[Nat.add_zero]at this;rw[this];exact⟨trivial,by omega,0,rfl,.inr (by simp)⟩
 | .op cs,v,fp,h=>by
  simp only[Rep]at h;obtain⟨b,us,T,rfl,rfl,hb,hh,hone,hr⟩:=h;refine⟨[(.blk b 0,[b])],⟨rfl,by simp,?_⟩,?_⟩
  ·intro k e' L fq he hl
   cases k with
   | zero=>
    simp only[adE,List.getElem?_cons_zero,Option.some.injEq,Prod.mk.injEq]at he hl;obtain⟨rfl,rfl⟩:=hl;subst he;exact⟨fun μ=>⟨b,0,us,T,rfl,rfl,hh,hone,hr.lift⟩,by intro b' cap' h;cases h;simp[tops,yjc]⟩
   | succ k=>simp[adE]at he
  ·intro k μ hk
   have:=hk 0 (.blk b 0) _ rfl;simp only[adR,Rep];simp only[Nat.add_zero]at this;exact⟨trivial,b,0,this,rfl⟩
 | .sl none e n f,v,fp,h=>by
  have hfp:=h.fpNil (by intros;simp) (by intros;simp) (by intros;simp) (by intros;simp);subst hfp;exact⟨[],⟨rfl,rfl,by simp[adE]⟩,fun k μ _=>by simpa only[adR]using h.ofNoMap⟩
 | .int k n,v,fp,h=>by
  have hfp:=h.fpNil (by intros;simp) (by intros;simp) (by intros;simp) (by intros;simp);subst hfp;exact⟨[],⟨rfl,rfl,by simp[adE]⟩,fun k μ _=>by simpa only[adR]using h.ofNoMap⟩
 | .bool k,v,fp,h=>by
  have hfp:=h.fpNil (by intros;simp) (by intros;simp) (by intros;simp) (by intros;simp);subst hfp;exact⟨[],⟨rfl,rfl,by simp[adE]⟩,fun k μ _=>by simpa only[adR]using h.ofNoMap⟩
 | .str k,v,fp,h=>by
  have hfp:=h.fpNil (by intros;simp) (by intros;simp) (by intros;simp) (by intros;simp);subst hfp;exact⟨[],⟨rfl,rfl,by simp[adE]⟩,fun k μ _=>by simpa only[adR]using h.ofNoMap⟩
 | .nils,v,fp,h=>by
  have hfp:=h.fpNil (by intros;simp) (by intros;simp) (by intros;simp) (by intros;simp);subst hfp;exact⟨[],⟨rfl,rfl,by simp[adE]⟩,fun k μ _=>by simpa only[adR]using h.ofNoMap⟩
 | .any,v,fp,h=>by
  have hfp:=h.fpNil (by intros;simp) (by intros;simp) (by intros;simp) (by intros;simp);subst hfp;exact⟨[],⟨rfl,rfl,by simp[adE]⟩,fun k μ _=>by simpa only[adR]using h.ofNoMap⟩
 | .lit _ _,v,fp,h=>by
  have hfp:=h.fpNil (by intros;simp) (by intros;simp) (by intros;simp) (by intros;simp);subst hfp;exact⟨[],⟨rfl,rfl,by simp[adE]⟩,fun k μ _=>by simpa only[adR]using h.ofNoMap⟩
 | .ref _ _ _ _,v,fp,h=>by simp[Rep,yw]at h
 | .ptr _ _,v,fp,h=>by simp[Rep,yw]at h
 | .pe _ _ _ _,v,fp,h=>by simp[Rep,yw]at h
 | .ep k,v,fp,h=>by
  have hfp:=h.fpNil (by intros;simp) (by intros;simp) (by intros;simp) (by intros;simp);subst hfp;exact⟨[],⟨rfl,rfl,by simp[adE]⟩,fun k μ _=>by simpa only[adR]using h.ofNoMap⟩
 | .fn k _ cs,v,fp,h=>by
  have hfp:=h.fpNil (by intros;simp) (by intros;simp) (by intros;simp) (by intros;simp);subst hfp;exact⟨[],⟨rfl,rfl,by simp[adE]⟩,fun k μ _=>by simpa only[adR]using h.ofNoMap⟩
 | .gd k cs,v,fp,h=>by
  have hfp:=h.fpNil (by intros;simp) (by intros;simp) (by intros;simp) (by intros;simp);subst hfp;exact⟨[],⟨rfl,rfl,by simp[adE]⟩,fun k μ _=>by simpa only[adR]using h.ofNoMap⟩
theorem yzm {w:World} {M:Nat->Prop}:∀ (xs:List AV) {vs:List Value} {fp:List Nat},RepL w M xs yw vs fp ->
  ∃ ls,Ad w M (adEL xs) ls fp (y1 xs vs)/\∀ (k:Nat) (μ:Map),(∀ (j:Nat) (L:Loc) (fq:List Nat),ls[j]? = some (L,fq)->μ (k+j)=some L)->RepL w M (adRL k xs) μ vs []
 | [],vs,fp,h=>by
  simp only[RepL]at h;obtain⟨rfl,rfl⟩:=h;exact⟨[],⟨rfl,rfl,by simp[adEL]⟩,fun k μ _=>by simp[adRL,RepL]⟩
 | x::xs,vs,fp,h=>by
  simp only[RepL]at h;obtain⟨u,us',f1,f2,rfl,rfl,h1,h2⟩:=h;obtain⟨l1,a1,a2⟩:=y71 x h1;obtain⟨l2,b1,b2⟩:=yzm xs h2;refine⟨l1++l2,by simp only[adEL,y1];exact a1.append b1,fun k μ hk => ?_⟩;simp only[adRL,RepL];refine⟨u,us',[],[],rfl,rfl,a2 k μ (fun j L fq hj=>hk j L fq ?_),b2 _ μ (fun j L fq hj => ?_)⟩
  ·rw[List.getElem?_append_left (List.getElem?_eq_some_iff.1 hj).1];exact hj
  ·have:=hk (l1.length+j) L fq (by rw[List.getElem?_append_right (by omega),Nat.add_sub_cancel_left];exact hj)
   rw[a1.len, <- Nat.add_assoc]at this;exact this
end
end
end Go.Ab
namespace Go.Ab
open Go
variable [Inv]
section
variable {P:Program} {c:Ctx} {μ:Map} {FP:Nat->List Nat} {w:World}
theorem ywr {h:List Ent} (hW:WR c (Hof h) μ FP w) {b:Nat} (hb:hot c.M0 (Hof h) μ b):b<w.heap.size:=by
 rcases hb with hb|⟨id,cap,e,hm,he,hl⟩
 ·exact Nat.lt_of_lt_of_le (c.cold0 b hb).1 hW.keep.size
 ·exact(hW.lt hm he hl).2
theorem y6k (h h':List Ent) (j:Nat):nthE (h++h') j=if j<h.length then nthE h j else nthE h' (j-h.length):=by
 rw[yjb,yjb,yjb];split
 ·rename_i hj;rw[List.getElem?_append_left hj]
 ·rename_i hj;rw[List.getElem?_append_right (by omega)]
theorem yzb {ls:List (Loc×List Nat)} (h:(ls.map (·.2)).flatten.Nodup):(∀ (k:Nat) (L:Loc) (fq:List Nat),ls[k]? = some (L,fq)->fq.Nodup) /\
  ∀ (i j:Nat) (L1:Loc) (f1:List Nat) (L2:Loc) (f2:List Nat),i≠j->ls[i]? = some (L1,f1)->ls[j]? = some (L2,f2)->∀ b,b∈f1->b∉f2:=by
 induction ls with
 | nil=>simp
 | cons x ls ih=>
  simp only[List.map_cons,List.flatten_cons,List.nodup_append]at h;obtain⟨ih1,ih2⟩:=ih h.2.1
  have hmem:∀ (j:Nat) (L2:Loc) (f2:List Nat),ls[j]? = some (L2,f2)->∀ b,b∈f2->b∈(ls.map (·.2)).flatten:=fun j L2 f2 hj b hb=>
   List.mem_flatten.2 ⟨f2,List.mem_map.2 ⟨(L2,f2),List.mem_of_getElem? hj,rfl⟩,hb⟩
  constructor
  ·intro k L fq hk
   cases k with
   | zero=>simp only[List.getElem?_cons_zero,Option.some.injEq]at hk;subst hk;exact h.1
   | succ k=>exact ih1 k L fq (by simpa using hk)
  ·intro i j L1 f1 L2 f2 hij hi hj b hb hb2
   cases i with
   | zero=>
    simp only[List.getElem?_cons_zero,Option.some.injEq]at hi;subst hi
    cases j with
    | zero=>exact hij rfl
    | succ j=>exact h.2.2 b hb b (hmem j L2 f2 (by simpa using hj) b hb2) rfl
   | succ i=>
    cases j with
    | zero=>
     simp only[List.getElem?_cons_zero,Option.some.injEq]at hj;subst hj;exact h.2.2 b hb2 b (hmem i L1 f1 (by simpa using hi) b hb) rfl
    | succ j=>exact ih2 i j L1 f1 L2 f2 (by omega) (by simpa using hi) (by simpa using hj) b hb hb2
mutual
theorem y2h {w : World} {M : Nat -> Prop} : ∀ (x : AV) {μ : Map} {v : Value} {fp : List Nat}, Rep w M x μ v fp -> ∀ b, b ∈ tops x v -> b ∈ fp
 | .agg cs,μ,v,fp,h,b,hb=>by
  simp only[Rep]at h;obtain⟨us,rfl,h⟩:=h;exact yvc cs h b (by simpa only[tops]using hb)
 | .tup cs,μ,v,fp,h,b,hb=>by
  simp only[Rep]at h;obtain⟨us,rfl,h⟩:=h;exact yvc cs h b (by simpa only[tops]using hb)
 | .sl (some T) e n f,μ,v,fp,h,b,hb=>by
  simp only[Rep]at h;rcases h with⟨_,rfl,_⟩|⟨b',o,cap,us,fps,rfl,hn,hb',hc,rfl,rfl,_⟩
  ·simp[tops,yjc]at hb
  ·simp only[tops,yjc,List.mem_singleton]at hb;subst hb;simp
 | .op cs,μ,v,fp,h,b,hb=>by
  simp only[Rep]at h;obtain⟨b',us,T,rfl,rfl,_⟩:=h;simp only[tops,yjc,List.mem_singleton]at hb;subst hb;simp
 | .sl none e n f,_,v,_,_,_,hb=>by simp[tops,yjc]at hb
 | .int _ _,_,v,_,_,_,hb=>by simp[tops,yjc]at hb
 | .bool _,_,v,_,_,_,hb=>by simp[tops,yjc]at hb
 | .str _,_,v,_,_,_,hb=>by simp[tops,yjc]at hb
 | .nils,_,v,_,_,_,hb=>by simp[tops,yjc]at hb
 | .any,_,v,_,_,_,hb=>by simp[tops,yjc]at hb
 | .lit ..,_,v,_,_,_,hb=>by simp[tops,yjc]at hb
 | .ref ..,_,v,_,_,_,hb=>by simp[tops,yjc]at hb
 | .ptr ..,_,v,_,_,_,hb=>by simp[tops,yjc]at hb
 | .pe ..,_,v,_,_,_,hb=>by simp[tops,yjc]at hb
 | .ep ..,_,v,_,_,_,hb=>by simp[tops,yjc]at hb
 | .fn ..,_,v,_,_,_,hb=>by simp[tops,yjc]at hb
 | .gd ..,_,v,_,_,_,hb=>by simp[tops,yjc]at hb
theorem yvc {w : World} {M : Nat -> Prop} : ∀ (xs : List AV) {μ : Map} {vs : List Value} {fp : List Nat}, RepL w M xs μ vs fp -> ∀ b, b ∈ y1 xs vs -> b ∈ fp
 | [],_,_,_,_,b,hb=>by simp[y1]at hb
 | x::xs,μ,vs,fp,h,b,hb=>by
  simp only[RepL]at h;obtain⟨u,us',f1,f2,rfl,rfl,h1,h2⟩:=h;simp only[y1,List.mem_append]at hb;rcases hb with hb|hb
  ·exact List.mem_append_left _ (y2h x h1 b hb)
  ·exact List.mem_append_right _ (yvc xs h2 b hb)
end
theorem y22 {h h1 : List Ent} {f : FuncId} {az : List AV} {r : AV} {vs : List Value} {fpA : List Nat} (hW : WR c (Hof h) μ FP w) (hd : Tail h μ) (Kl : List Nat) (hlen : h1.length = h.length)
  (hk1:∀ id,id∈Kl->nthE h1 id=some .dead/\∃ e,nthE h id=some e/\e.live=true) (hk2:∀ id,id∉Kl->nthE h1 id=nthE h id)
  {M:Nat->Prop} (hMhot:∀ b,M b->hot c.M0 (Hof h) μ b) (hA:RepL w (fun b=>M b\/b∈y1 az vs) az yw vs fpA) (hAn:fpA.Nodup) (hAm:∀ b,b∈fpA->¬ M b)
  (hAk:∀ b,b∈fpA->∃ id,id∈Kl/\b∈FP id) (hAt:∀ b,b∈y1 az vs->∃ id,id∈Kl/\∃ cap,μ id=some (.blk b cap))
  (hres:ygc r\/∀ b,hot c.M0 (Hof h) μ b->M b\/∃ id,id∈Kl/\∃ cap,μ id=some (.blk b cap)) (hD:Den P f az r) :
  Calls P f vs.toArray w fun e w'=>∃ v μ',e=.returned v/\Next1 c h μ w (h1++adE r) μ' w'/\Rep w' (hot c.M0 (Hof (h1++adE r)) μ') (adR h.length r) μ' v []:=by
 refine(hD.2 w M vs fpA hW.inv (fun b hb=>⟨fun h=>hW.inv_hot hb (hMhot b h),fun h=>by obtain⟨id,_,h2⟩:=hAk b h;exact hW.inv_fp hb id h2⟩) hA hAn hAm (fun b hb=>ywr hW (hMhot b hb))).mono ?_;rintro e w' ⟨v,fpR,rfl,hK,hr,hRn,hRm,hRt⟩
 generalize hh2:h1++adE r=h2
 have htopK:∀ id b cap,id∈Kl->μ id=some (.blk b cap)->hot c.M0 (Hof h) μ b/\b∈FP id:=by
  intro id b cap hid hm;obtain⟨_,e0,he,hl⟩:=hk1 id hid;exact⟨.inr ⟨id,cap,e0,hm,he,hl⟩,(hW.lt hm he hl).1⟩
 have hold:∀ id,μ id≠none->id<h.length:=fun id hid=>Nat.lt_of_not_le fun hle=>hid (hd id hle)
 have hH2old:∀ id,id<h.length->Hof h2 id=nthE h1 id:=by
  intro id hid;subst hh2;simp only[Hof,y6k];rw[if_pos (by omega)]
 have hcoldTop:∀ b,b∈y1 az vs->hot c.M0 (Hof h) μ b:=fun b hb=>by
  obtain⟨id,hid,cap,hm⟩:=hAt b hb;exact(htopK id b cap hid hm).1
 -- live blocks of h1 are not handed over
 have hlive1:∀ id b cap e,μ id=some (.blk b cap)->nthE h1 id=some e->e.live=true->hot c.M0 (Hof h) μ b/\∀ id',id'∈Kl->∀ cap',μ id'≠some (.blk b cap'):=by
  intro id b cap e hm he hl;have hnk:id∉Kl:=fun hk=>by rw[(hk1 id hk).1]at he;cases he;simp[Ent.live]at hl
  rw[hk2 id hnk]at he;refine⟨.inr ⟨id,cap,e,hm,he,hl⟩,fun id' hid' cap' hm' => ?_⟩;exact hW.disj id id' (fun e=>hnk (e ▸ hid')) b (hW.lt hm he hl).1 (htopK id' b cap' hid' hm').2
 -- the result,read where only what is live or comes is hot
 have hrX:Rep w' (fun b=>hot c.M0 (Hof h1) μ b\/b∈tops r v) r yw v fpR:=by
  rcases hres with hnb|hop
  ·exact Rep.noBor r hnb hr
  ·refine Rep.mono r (Map.le_refl _) ⟨Nat.le_refl _,fun b _ hb hh=>hb ?_,fun _ _ _=>rfl⟩ hr
   rcases hh with hh|hh
   ·left
    rcases hh with hh|⟨id,cap,e,hm,he,hl⟩
    ·rcases hop b (.inl hh)with h1|⟨id,hid,cap,hm⟩
     ·exact h1
     ·exfalso
      have h2:=(htopK id b cap hid hm).2;have h3:=c.cold0 b hh;rcases(hW.new id b h2).1 with h4|h4
      ·exact h3.2 h4
      ·omega
    ·have hl1:=hlive1 id b cap e hm he hl
     rcases hop b hl1.1 with h1|⟨id',hid',cap',hm'⟩
     ·exact h1
     ·exact absurd hm' (hl1.2 id' hid' cap')
   ·exact .inr (y2h r hr b hh)
 obtain⟨ls,hAd,hAdR⟩:=y71 r hrX;have hlsn:=yzb (ls:=ls) (by rw[<- hAd.fps];exact hRn);let μ':Map:=fun i=>if i<h.length then μ i else(ls[i-h.length]?).map (·.1)
 let FP':Nat->List Nat:=fun i=>if i<h.length then(if i∈Kl then[]else FP i)else((ls[i-h.length]?).map (·.2)).getD []
 have hμold:∀ i,i<h.length->μ' i=μ i:=fun i hi=>by simp only[μ',if_pos hi]
 have hμnew:∀ i,h.length<=i->μ' i=(ls[i-h.length]?).map (·.1):=fun i hi=>by simp only[μ'];rw[if_neg (by omega)]
 have hFold:∀ i,i<h.length->FP' i=if i∈Kl then[]else FP i:=fun i hi=>by simp only[FP',if_pos hi]
 have hFnew:∀ i,h.length<=i->FP' i=((ls[i-h.length]?).map (·.2)).getD []:=fun i hi=>by simp only[FP'];rw[if_neg (by omega)]
 have hHnew:∀ i,h.length<=i->Hof h2 i=(adE r)[i-h.length]? := by
  intro i hi;subst hh2;simp only[Hof,y6k];rw[if_neg (by omega),yjb,hlen]
 have hKold:∀ id,id∈Kl->id<h.length:=fun id hid=>by obtain⟨_,e,he,_⟩:=hk1 id hid;exact yed he
 have hle:μ.le μ':=fun i L hi=>by rw[hμold i (hold i (by simp[hi]))];exact hi
 have hlsE:∀ (k:Nat) (L:Loc) (fq:List Nat),ls[k]? = some (L,fq)->∃ e,(adE r)[k]? = some e:=by
  intro k L fq hk;have:k<(adE r).length:=by rw[<- hAd.len];exact(List.getElem?_eq_some_iff.1 hk).1
  exact⟨_,List.getElem?_eq_getElem this⟩
 have hfpR:∀ (k:Nat) (L:Loc) (fq:List Nat),ls[k]? = some (L,fq)->∀ b,b∈fq->b∈fpR:=fun k L fq hk b hb=>by
  rw[hAd.fps];exact List.mem_flatten.2 ⟨fq,List.mem_map.2 ⟨(L,fq),List.mem_of_getElem? hk,rfl⟩,hb⟩
 -- what is hot behind the call
 have hhot':∀ b,hot c.M0 (Hof h2) μ' b->hot c.M0 (Hof h1) μ b\/b∈tops r v:=by
  intro b hb;rcases hb with hb|⟨id,cap,e,hm,he,hl⟩
  ·exact .inl (.inl hb)
  ·by_cases hid:id<h.length
   ·rw[hμold id hid]at hm
    rw[hH2old id hid]at he;exact .inl (.inr ⟨id,cap,e,hm,he,hl⟩)
   ·rw[hμnew id (by omega)]at hm
    rw[hHnew id (by omega)]at he
    cases hls:ls[id-h.length]? with
    | none=>simp[hls]at hm
    | some p=>
     obtain⟨L,fq⟩:=p;simp only[hls,Option.map_some,Option.some.injEq]at hm;subst hm;exact .inr ((hAd.ok _ e _ fq he hls).2 b cap rfl)
 have hup := WR.update (H' := Hof h2) (μ' := μ') (FP' := FP') (w' := w') (fun i => i ∈ Kl) [] hW (Free.nil _ _ _) hK.os hK.tape hK.output hK.size
  (by
   intro b hb;by_cases hbt:b∈y1 az vs
   ·obtain⟨id,hid,cap,hm⟩:=hAt b hbt
    exact .inr ⟨(htopK id b cap hid hm).1,id,hid,(htopK id b cap hid hm).2⟩
   ·exact .inl (hK.block b hb hbt))
  hle
  (by
   intro i hi hk
   rw[hH2old i (hold i hi),hk2 i hk];rfl)
  (by
   intro i hi hk
   rw[hFold i (hold i hi),if_neg hk])
  (by
   intro i L hi hL;by_cases hid:i<h.length
   ·rw[hμold i hid]at hL
    rcases hi with hi|hi
    ·rw[hi]at hL;cases hL
    ·exact⟨.dead,by rw[hH2old i hid];exact(hk1 i hi).1,by rw[hFold i hid,if_pos hi];rfl⟩
   ·rw[hμnew i (by omega)]at hL
    cases hls:ls[i-h.length]? with
    | none=>simp[hls]at hL
    | some p=>
     obtain⟨L',fq⟩:=p;simp only[hls,Option.map_some,Option.some.injEq]at hL;subst hL;obtain⟨e,he⟩:=hlsE _ _ _ hls;refine⟨e,by rw[hHnew i (by omega)];exact he,?_⟩;rw[hFnew i (by omega),hls];simp only[Option.map_some,Option.getD_some]
     exact yic.mono (Map.le_refl _) ⟨Nat.le_refl _,fun b _ hb hh=>hb (hhot' b hh),fun _ _ _=>rfl⟩ (fun b hb=>(hRm b (hfpR _ _ _ hls b hb)).2) ((hAd.ok _ e _ fq he hls).1 μ'))
  (by
   intro i b cap e hi hm he hl;by_cases hid:i<h.length
   ·rw[hμold i hid]at hm
    rcases hi with hi|hi
    ·rw[hi]at hm;cases hm
    ·rw[hH2old i hid,(hk1 i hi).1]at he;cases he;simp[Ent.live]at hl
   ·have hb:hot c.M0 (Hof h2) μ' b:=.inr ⟨i,cap,e,hm,he,hl⟩
    rw[hμnew i (by omega)]at hm;rw[hHnew i (by omega)]at he
    cases hls:ls[i-h.length]? with
    | none=>simp[hls]at hm
    | some p=>
     obtain⟨L,fq⟩:=p;simp only[hls,Option.map_some,Option.some.injEq]at hm;subst hm;have:=(hAd.ok _ e _ fq he hls).2 b cap rfl;rcases hRt b this with h3|h3
     ·exact .inl (hcoldTop b h3)
     ·exact .inr h3)
  (by
   intro i b hi hb;by_cases hid:i<h.length
   ·rw[hFold i hid]at hb
    split at hb
    ·simp at hb
    ·rename_i hk
     rw[hW.out i (hi.resolve_right hk)]at hb;simp at hb
   ·rw[hFnew i (by omega)]at hb
    cases hls:ls[i-h.length]? with
    | none=>simp[hls]at hb
    | some p=>
     obtain⟨L,fq⟩:=p;simp only[hls,Option.map_some,Option.getD_some]at hb;have h3:=hRm b (hfpR _ _ _ hls b hb);rcases h3.1 with h4|h4
     ·obtain⟨id,hid',hF⟩:=hAk b h4
      exact .inl ⟨id,hid',hF⟩
     ·exact .inr (.inl ⟨h4,h3.2⟩))
  (by
   intro i hi;by_cases hid:i<h.length
   ·rw[hμold i hid]at hi
    rw[hFold i hid];split
    ·rfl
    ·exact hW.out i hi
   ·rw[hμnew i (by omega)]at hi
    rw[hFnew i (by omega)]
    cases hls:ls[i-h.length]? with
    | none=>rfl
    | some p=>simp[hls]at hi)
  (by
   intro i _;by_cases hid:i<h.length
   ·rw[hFold i hid]
    split
    ·simp
    ·exact hW.nodup i
   ·rw[hFnew i (by omega)]
    cases hls:ls[i-h.length]? with
    | none=>simp
    | some p=>obtain⟨L,fq⟩:=p;exact hlsn.1 _ L fq hls)
  (by
   have hempty:∀ i,i<h.length->(μ i=none\/i∈Kl)->FP' i=[]:=by
    intro i hid hi;rw[hFold i hid];split
    ·rfl
    ·rename_i hk;exact hW.out i (hi.resolve_right hk)
   intro i j hij hi hj b hbi hbj;by_cases hid:i<h.length
   ·rw[hempty i hid hi]at hbi;simp at hbi
   ·by_cases hjd:j<h.length
    ·rw[hempty j hjd hj]at hbj;simp at hbj
    ·rw[hFnew i (by omega)]at hbi
     rw[hFnew j (by omega)]at hbj
     cases hli:ls[i-h.length]? with
     | none=>simp[hli]at hbi
     | some p=>
      cases hlj:ls[j-h.length]? with
      | none=>simp[hlj]at hbj
      | some q=>
       obtain⟨L1,f1⟩:=p;obtain⟨L2,f2⟩:=q;simp only[hli,hlj,Option.map_some,Option.getD_some]at hbi hbj
       exact hlsn.2 _ _ L1 f1 L2 f2 (by omega) hli hlj b hbi hbj)
 refine⟨v,μ',rfl,⟨⟨FP',hup.1⟩,?_,hup.2⟩,?_⟩
 ·intro i hi
  subst hh2;rw[List.length_append,hlen]at hi;rw[hμnew i (by omega),List.getElem?_eq_none (by rw[hAd.len];omega)];rfl
 ·refine Rep.mono _ (Map.le_refl _) ⟨Nat.le_refl _,fun b _ hb hh=>hb (hhot' b hh),fun _ _ _=>rfl⟩ (hAdR h.length μ' ?_)
  intro j L fq hj;rw[hμnew _ (by omega),Nat.add_sub_cancel_left,hj];rfl
end
end Go.Ab
namespace Go.Ab
open Go
variable [Inv]
def absV (h : List Ent) : AV -> Option (AV × List Ent × List Prop)
  | .agg cs => match absL h cs with
    | some (ys,h',ob)=>some (.agg ys,h',ob)
    | none=>none
  | x=>absC h x
def yoc (h : List Ent) : List AV -> Option (List AV × List Ent × List Prop)
  | []=>some ([],h,[])
  | x :: xs => match absV h x with
    | some (y, h1, o1) => match yoc h1 xs with
      | some (ys,h2,o2)=>some (y::ys,h2,o1++o2)
      | none=>none
    | none=>none
structure Gone (h h':List Ent) (K:List Nat):Prop where
 sub:∀ (id:Nat) (e:Ent),nthE h' id=some e->e.live=true->nthE h id=some e
 kill:∀ id,id∈K->(∃ e,nthE h id=some e/\e.live=true)/\∀ e,nthE h' id=some e->e.live=false
theorem Gone.refl (h:List Ent):Gone h h []:=⟨fun _ _ he _=>he,by simp⟩
theorem Gone.trans {h h1 h2:List Ent} {K1 K2:List Nat} (a:Gone h h1 K1) (b:Gone h1 h2 K2):Gone h h2 (K1++K2):=by
 refine⟨fun id e he hl=>a.sub id e (b.sub id e he hl) hl,fun id hid => ?_⟩;rcases List.mem_append.1 hid with hid|hid
 ·obtain⟨h1',h2'⟩:=a.kill id hid
  refine⟨h1',fun e he => ?_⟩
  cases hl:e.live with
  | false=>rfl
  | true=>rw[h2' e (b.sub id e he hl)]at hl;cases hl
 ·obtain⟨⟨e,he,hl⟩,h2'⟩:=b.kill id hid
  exact⟨⟨e,a.sub id e he hl,hl⟩,h2'⟩
section
variable {c:Ctx} {μ:Map} {FP:Nat->List Nat} {w:World} {h0:List Ent}
def Owns (FP:Nat->List Nat) (K fp:List Nat):Prop:=fp.Nodup/\∀ b,b∈fp->∃ id,id∈K/\b∈FP id
theorem Owns.app (hW:WR c (Hof h0) μ FP w) {h h1 h2:List Ent} {K1 K2 f1 f2:List Nat} (g1:Gone h h1 K1) (g2:Gone h1 h2 K2) (o1:Owns FP K1 f1) (o2:Owns FP K2 f2):Owns FP (K1++K2) (f1++f2):=by
 refine⟨List.nodup_append.2 ⟨o1.1,o2.1,?_⟩,?_⟩
 ·intro a ha b hb e
  subst e;obtain⟨i,hi,hai⟩:=o1.2 a ha;obtain⟨j,hj,haj⟩:=o2.2 a hb
  have hij:i≠j:=by
   rintro rfl
   obtain⟨⟨e,he,hl⟩,_⟩:=g2.kill i hj;rw[(g1.kill i hi).2 e he]at hl;cases hl
  exact hW.disj i j hij a hai haj
 ·intro b hb
  rcases List.mem_append.1 hb with hb|hb
  ·obtain⟨i,hi,h⟩:=o1.2 b hb;exact⟨i,List.mem_append_left _ hi,h⟩
  ·obtain⟨i,hi,h⟩:=o2.2 b hb;exact⟨i,List.mem_append_right _ hi,h⟩
theorem yki (hW : WR c (Hof h0) μ FP w) {h h' : List Ent} {x y : AV} {v : Value} {ob : List Prop} (hsub : ∀ (id : Nat) (e : Ent), nthE h id = some e -> e.live = true -> nthE h0 id = some e)
  (hx:Rep w (hot c.M0 (Hof h0) μ) x μ v []) (ha:absC h x=some (y,h',ob)) (ho:allP ob) :
  ∃ K fp,Rep w (hot c.M0 (Hof h0) μ) y yw v fp/\Gone h h' K/\Owns FP K fp:=by
 have plain:∀ {z:AV},Rep w (hot c.M0 (Hof h0) μ) z yw v []->z=y->h=h'->∃ K fp,Rep w (hot c.M0 (Hof h0) μ) y yw v fp/\Gone h h' K/\Owns FP K fp:=by
  rintro z hz rfl rfl
  exact⟨[],[],hz,Gone.refl _,by simp[Owns]⟩
 cases x with
 | int k n=>simp only[absC,Option.some.injEq,Prod.mk.injEq]at ha;exact plain (by simpa only[Rep]using hx) ha.1 ha.2.1
 | bool b=>simp only[absC,Option.some.injEq,Prod.mk.injEq]at ha;exact plain (by simpa only[Rep]using hx) ha.1 ha.2.1
 | str l=>simp only[absC,Option.some.injEq,Prod.mk.injEq]at ha;exact plain (by simpa only[Rep]using hx) ha.1 ha.2.1
 | nils=>simp only[absC,Option.some.injEq,Prod.mk.injEq]at ha;exact plain (by simpa only[Rep]using hx) ha.1 ha.2.1
 | sl own e n f=>
  cases own with
  | none=>simp only[absC,Option.some.injEq,Prod.mk.injEq]at ha;exact plain (by simpa only[Rep]using hx) ha.1 ha.2.1
  | some T=>simp[absC]at ha
 | agg _=>simp[absC]at ha
 | tup _=>simp[absC]at ha
 | op _=>simp[absC]at ha
 | ptr id off=>
  simp only[absC]at ha;split at ha
  ·rename_i cs hid
   split at ha
   ·rename_i hp
    simp only[Option.some.injEq,Prod.mk.injEq]at ha;obtain⟨rfl,rfl,rfl⟩:=ha
    have hgone:Gone h (setE h id .dead) [id]:=by
     refine⟨fun i e he hl => ?_,fun i hi => ?_⟩
     ·rw[y6]at he
      split at he
      ·cases he;simp[Ent.live]at hl
      ·exact he
     ·simp only[List.mem_singleton]at hi
      subst hi;refine⟨⟨_,hid,rfl⟩,fun e he => ?_⟩;rw[y6,if_pos ⟨rfl,yed hid⟩]at he;cases he;rfl
    simp only[Rep]at hx;obtain⟨_,b,cap,hm,rfl⟩:=hx;obtain⟨ent,he,hok⟩:=hW.ent id _ hm;have he2:Hof h0 id=some (.box cs):=hsub id _ hid rfl;rw[he2]at he;cases he;obtain⟨b',cap',us,T,h1,h2,hh,hone,hr⟩:=hok;cases h1
    have hblt:b<w.heap.size:=(hW.new id b (by rw[h2];simp)).2;refine⟨[id],[b],?_,hgone,by simp,fun z hz=>⟨id,by simp,by rw[h2];exact hz⟩⟩;simp only[Rep];exact⟨b,us,T,rfl,rfl,hblt,hh,hone,y1b cs hp hr⟩
   ·simp at ha
  ·simp at ha
 | pe _ _ _ _=>simp[absC]at ha
 | ep _=>simp[absC]at ha
 | fn _ _ _=>simp[absC]at ha
 | gd _ _=>simp[absC]at ha
 | any=>simp[absC]at ha
 | lit _ _=>simp[absC]at ha
 | ref id e off n=>
  simp only[absC]at ha;split at ha
  ·rename_i T e' n' f hid
   split at ha
   ·rename_i hee
    subst hee;simp only[Option.some.injEq,Prod.mk.injEq]at ha;obtain⟨rfl,rfl,rfl⟩:=ha;have hn:=ho.1
    have hgone:Gone h (setE h id .dead) [id]:=by
     refine⟨fun i e he hl => ?_,fun i hi => ?_⟩
     ·rw[y6]at he
      split at he
      ·cases he;simp[Ent.live]at hl
      ·exact he
     ·simp only[List.mem_singleton]at hi
      subst hi;refine⟨⟨_,hid,rfl⟩,fun e he => ?_⟩;rw[y6,if_pos ⟨rfl,yed hid⟩]at he;cases he;rfl
    simp only[Rep]at hx;obtain⟨_,hx⟩:=hx
    cases hm:μ id with
    | none=>simp[hm]at hx
    | some L=>
     cases L with
     | nil=>
      simp only[hm]at hx;obtain⟨_,rfl,rfl⟩:=hx;exact⟨[id],[],by simp[Rep,y7e],hgone,by simp[Owns]⟩
     | blk b cap=>
      simp only[hm]at hx;obtain⟨hcap,o,rfl,hoo⟩:=hx;obtain⟨ent,he,hok⟩:=hW.ent id _ hm;have he2:Hof h0 id=some (.arr T e n' f):=hsub id _ hid rfl;rw[he2]at he;cases he;obtain⟨cur,us,fps,hh,h1,h2,h3,hcl,hF⟩:=hok;have hblt:b<w.heap.size:=(hW.new id b (by rw[hF];simp)).2
      have hsl:List.Sublist (b::(List.range n).flatMap fps) (FP id):=by
       rw[hF];exact List.Sublist.cons_cons _ (yhb fps hn)
      refine⟨[id],b::(List.range n).flatMap fps,?_,hgone,hsl.nodup (hW.nodup id),fun z hz=>⟨id,by simp,hsl.subset hz⟩⟩;simp only[Rep];refine .inr ⟨b,0,cap,us,fps,?_,by omega,hblt,?_,rfl,rfl,cur,hh,h1,h3⟩
      ·have:o=0:=by
        rcases hoo with h5|h5
        ·omega
        ·simpa using h5
       subst this;simp
      ·intro i hi
       have:=hcl i (by omega);exact⟨y1b (f i) (ho.2.1 i hi) this.1,this.2.1,by simpa using this.2.2⟩
   ·simp at ha
  ·simp at ha
theorem yds (hW:WR c (Hof h0) μ FP w):∀ {xs:List AV} {h h':List Ent} {ys:List AV} {us:List Value} {ob:List Prop},(∀ (id:Nat) (e:Ent),nthE h id=some e->e.live=true->nthE h0 id=some e) ->
  RepL w (hot c.M0 (Hof h0) μ) xs μ us []->absL h xs=some (ys,h',ob)->allP ob->∃ K fp,RepL w (hot c.M0 (Hof h0) μ) ys yw us fp/\Gone h h' K/\Owns FP K fp
 | [],h,h',ys,us,ob,hsub,hx,ha,_=>by
  simp only[absL,Option.some.injEq,Prod.mk.injEq]at ha;obtain⟨rfl,rfl,rfl⟩:=ha;simp only[RepL]at hx;exact⟨[],[],by simp only[RepL];exact⟨hx.1,trivial⟩,Gone.refl _,by simp[Owns]⟩
 | x::xs,h,h',ys,us,ob,hsub,hx,ha,ho=>by
  simp only[absL]at ha
  cases h1:absC h x with
  | none=>simp[h1]at ha
  | some p=>
   obtain⟨y,h2,o1⟩:=p;simp only[h1]at ha
   cases h3:absL h2 xs with
   | none=>simp[h3]at ha
   | some q=>
    obtain⟨ys',h4,o2⟩:=q;simp only[h3,Option.some.injEq,Prod.mk.injEq]at ha;obtain⟨rfl,rfl,rfl⟩:=ha;obtain⟨ho1,ho2⟩:=yk.1 ho;simp only[RepL]at hx;obtain⟨u,us',f1,f2,rfl,e2,hu,hus⟩:=hx;obtain⟨rfl,rfl⟩:=List.append_eq_nil_iff.1 e2.symm;obtain⟨K1,g1,r1,go1,ow1⟩:=yki hW hsub hu h1 ho1;obtain⟨K2,g2,r2,go2,ow2⟩:=yds hW (fun id e he hl=>hsub id e (go1.sub id e he hl) hl) hus h3 ho2;exact⟨K1++K2,g1++g2,by simp only[RepL];exact⟨u,us',g1,g2,rfl,rfl,r1,r2⟩,go1.trans go2,Owns.app hW go1 go2 ow1 ow2⟩
theorem y3r (hW : WR c (Hof h0) μ FP w) {h h' : List Ent} {x y : AV} {v : Value} {ob : List Prop} (hsub : ∀ (id : Nat) (e : Ent), nthE h id = some e -> e.live = true -> nthE h0 id = some e)
  (hx:Rep w (hot c.M0 (Hof h0) μ) x μ v []) (ha:absV h x=some (y,h',ob)) (ho:allP ob) :
  ∃ K fp,Rep w (hot c.M0 (Hof h0) μ) y yw v fp/\Gone h h' K/\Owns FP K fp:=by
 cases x with
 | agg cs=>
  simp only[absV]at ha
  cases h1:absL h cs with
  | none=>simp[h1]at ha
  | some p=>
   obtain⟨ys,h2,o1⟩:=p;simp only[h1,Option.some.injEq,Prod.mk.injEq]at ha;obtain⟨rfl,rfl,rfl⟩:=ha;simp only[Rep]at hx;obtain⟨us,rfl,hus⟩:=hx;obtain⟨K,fp,r,g,o⟩:=yds hW hsub hus h1 ho;exact⟨K,fp,by simp only[Rep];exact⟨us,rfl,r⟩,g,o⟩
 | _=>exact yki hW hsub hx ha ho
theorem y3g (hW:WR c (Hof h0) μ FP w):∀ {xs:List AV} {h h':List Ent} {ys:List AV} {us:List Value} {ob:List Prop},(∀ (id:Nat) (e:Ent),nthE h id=some e->e.live=true->nthE h0 id=some e) ->
  RepL w (hot c.M0 (Hof h0) μ) xs μ us []->yoc h xs=some (ys,h',ob)->allP ob->∃ K fp,RepL w (hot c.M0 (Hof h0) μ) ys yw us fp/\Gone h h' K/\Owns FP K fp
 | [],h,h',ys,us,ob,hsub,hx,ha,_=>by
  simp only[yoc,Option.some.injEq,Prod.mk.injEq]at ha;obtain⟨rfl,rfl,rfl⟩:=ha;simp only[RepL]at hx;exact⟨[],[],by simp only[RepL];exact⟨hx.1,trivial⟩,Gone.refl _,by simp[Owns]⟩
 | x::xs,h,h',ys,us,ob,hsub,hx,ha,ho=>by
  simp only[yoc]at ha
  cases h1:absV h x with
  | none=>simp[h1]at ha
  | some p=>
   obtain⟨y,h2,o1⟩:=p;simp only[h1]at ha
   cases h3:yoc h2 xs with
   | none=>simp[h3]at ha
   | some q=>
    obtain⟨ys',h4,o2⟩:=q;simp only[h3,Option.some.injEq,Prod.mk.injEq]at ha;obtain⟨rfl,rfl,rfl⟩:=ha;obtain⟨ho1,ho2⟩:=yk.1 ho;simp only[RepL]at hx;obtain⟨u,us',f1,f2,rfl,e2,hu,hus⟩:=hx;obtain⟨rfl,rfl⟩:=List.append_eq_nil_iff.1 e2.symm;obtain⟨K1,g1,r1,go1,ow1⟩:=y3r hW hsub hu h1 ho1;obtain⟨K2,g2,r2,go2,ow2⟩:=y3g hW (fun id e he hl=>hsub id e (go1.sub id e he hl) hl) hus h3 ho2;exact⟨K1++K2,g1++g2,by simp only[RepL];exact⟨u,us',g1,g2,rfl,rfl,r1,r2⟩,go1.trans go2,Owns.app hW go1 go2 ow1 ow2⟩
end
end Go.Ab
namespace Go.Ab
open Go
variable [Inv]
mutual
def y3b : AV -> Prop
 | .sl (some _) _ _ _=>False
 | .op _=>False
 | .agg cs=>yvb cs
 | .tup cs=>yvb cs
 | _=>True
def yvb : List AV -> Prop
 | []=>True
 | x::xs=>y3b x/\yvb xs
end
mutual
def y9m : AV -> Prop
 | .sl (some _) _ n f=>∀ i,i<n->yvb (f i)
 | .agg cs=>ydd cs
 | .tup cs=>ydd cs
 | _=>True
def ydd : List AV -> Prop
 | []=>True
 | x::xs=>y9m x/\ydd xs
end
mutual
theorem y3b.fp {w : World} {M : Nat -> Prop} : ∀ (x : AV) {μ : Map} {v : Value} {fp : List Nat}, y3b x -> Rep w M x μ v fp -> fp = []
 | .int _ _,_,_,_,_,h=>by simp only[Rep]at h;exact h.2
 | .bool _,_,_,_,_,h=>by simp only[Rep]at h;exact h.2
 | .str _,_,_,_,_,h=>by simp only[Rep]at h;exact h.2
 | .nils,_,_,_,_,h=>by simp only[Rep]at h;exact h.2
 | .any,_,_,_,_,h=>by simpa only[Rep]using h
 | .ref ..,_,_,_,_,h=>by simp only[Rep]at h;exact h.1
 | .ptr ..,_,_,_,_,h=>by simp only[Rep]at h;exact h.1
 | .pe ..,_,_,_,_,h=>by simp only[Rep]at h;exact h.1
 | .ep _,_,_,_,_,h=>by simp only[Rep]at h;exact h.1
 | .fn ..,_,_,_,_,h=>by simp only[Rep]at h;exact h.1
 | .lit ..,_,_,_,_,h=>by simp only[Rep]at h;exact h.1
 | .gd ..,_,_,_,_,h=>by simp only[Rep]at h;exact h.1
 | .agg cs,_,_,_,hn,h=>by
  simp only[Rep,y3b]at h hn;obtain⟨us,_,h⟩:=h;exact yvb.fp cs hn h
 | .tup cs,_,_,_,hn,h=>by
  simp only[Rep,y3b]at h hn;obtain⟨us,_,h⟩:=h;exact yvb.fp cs hn h
 | .sl (some _) _ _ _,_,_,_,hn,_=>by simp[y3b]at hn
 | .op _,_,_,_,hn,_=>by simp[y3b]at hn
 | .sl none _ _ _,_,_,_,_,h=>by
  simp only[Rep]at h;rcases h with h|⟨_,_,_,_,_,_,_,_,_,h⟩
  ·exact h.2.2
  ·exact h.2.1
theorem yvb.fp {w : World} {M : Nat -> Prop} : ∀ (xs : List AV) {μ : Map} {us : List Value} {fp : List Nat}, yvb xs -> RepL w M xs μ us fp -> fp = []
 | [],_,_,_,_,h=>by simp only[RepL]at h;exact h.2
 | x::xs,_,_,_,hn,h=>by
  simp only[RepL,yvb]at h hn;obtain⟨u,us',f1,f2,_,rfl,h1,h2⟩:=h;rw[y3b.fp x hn.1 h1,yvb.fp xs hn.2 h2];rfl
end
mutual
theorem y9m.tops {w : World} {M : Nat -> Prop} : ∀ (x : AV) {μ : Map} {v : Value} {fp : List Nat}, y9m x -> Rep w M x μ v fp -> ∀ b, b ∈ fp -> b ∈ tops x v
 | .int _ _,_,_,_,_,h=>by simp only[Rep]at h;simp[h.2]
 | .bool _,_,_,_,_,h=>by simp only[Rep]at h;simp[h.2]
 | .str _,_,_,_,_,h=>by simp only[Rep]at h;simp[h.2]
 | .nils,_,_,_,_,h=>by simp only[Rep]at h;simp[h.2]
 | .any,_,_,_,_,h=>by simp only[Rep]at h;simp[h]
 | .ref ..,_,_,_,_,h=>by simp only[Rep]at h;simp[h.1]
 | .ptr ..,_,_,_,_,h=>by simp only[Rep]at h;simp[h.1]
 | .pe ..,_,_,_,_,h=>by simp only[Rep]at h;simp[h.1]
 | .ep _,_,_,_,_,h=>by simp only[Rep]at h;simp[h.1]
 | .fn ..,_,_,_,_,h=>by simp only[Rep]at h;simp[h.1]
 | .lit ..,_,_,_,_,h=>by simp only[Rep]at h;simp[h.1]
 | .gd ..,_,_,_,_,h=>by simp only[Rep]at h;simp[h.1]
 | .agg cs,_,_,_,hn,h=>by
  simp only[Rep,y9m]at h hn;obtain⟨us,rfl,h⟩:=h;simpa only[Go.Ab.tops]using ydd.tops cs hn h
 | .tup cs,_,_,_,hn,h=>by
  simp only[Rep,y9m]at h hn;obtain⟨us,rfl,h⟩:=h;simpa only[Go.Ab.tops]using ydd.tops cs hn h
 | .op cs,μ,v,fp,_,h=>by
  simp only[Rep]at h;obtain⟨b',us,T,rfl,rfl,_⟩:=h;intro b hb;simpa [Go.Ab.tops,yjc]using hb
 | .sl none _ _ _,_,_,_,_,h=>by
  have:=y3b.fp (.sl none _ _ _) (by simp[y3b]) h;simp[this]
 | .sl (some _) e n f,_,v,fp,hn,h=>by
  simp only[Rep,y9m]at h hn;rcases h with h|⟨b',o,cap,us,fps,rfl,hnn,hb',hc,rfl,rfl,_⟩
  ·simp[h.2.2]
  ·intro b hb
   have hz:(List.range n).flatMap fps=[]:=by
    apply List.eq_nil_iff_forall_not_mem.2;intro z hz;obtain⟨i,hi,hzi⟩:=List.mem_flatMap.1 hz;have hi:=List.mem_range.1 hi;rw[yvb.fp (f i) (hn i hi) (hc i hi).1]at hzi;simp at hzi
   rw[hz]at hb;simpa [Go.Ab.tops,yjc]using hb
theorem ydd.tops {w : World} {M : Nat -> Prop} : ∀ (xs : List AV) {μ : Map} {us : List Value} {fp : List Nat}, ydd xs -> RepL w M xs μ us fp -> ∀ b, b ∈ fp -> b ∈ y1 xs us
 | [],_,_,_,_,h=>by simp only[RepL]at h;simp[h.2]
 | x::xs,_,_,_,hn,h=>by
  simp only[RepL,ydd]at h hn;obtain⟨u,us',f1,f2,rfl,rfl,h1,h2⟩:=h;intro b hb;simp only[y1,List.mem_append]at hb ⊢;exact hb.imp (y9m.tops x hn.1 h1 b) (ydd.tops xs hn.2 h2 b)
end
section
variable {c:Ctx} {μ:Map} {w:World} {h0:List Ent}
theorem yfj {h h' : List Ent} {x y : AV} {v : Value} {ob : List Prop} (hsub : ∀ (id : Nat) (e : Ent), nthE h id = some e -> e.live = true -> nthE h0 id = some e)
  (hx:Rep w (hot c.M0 (Hof h0) μ) x μ v []) (ha:absC h x=some (y,h',ob)):∀ b,b∈tops y v->hot c.M0 (Hof h0) μ b:=by
 cases x with
 | ref id e off n=>
  simp only[absC]at ha;split at ha
  ·rename_i T e' n' f hid
   split at ha
   ·rename_i hee
    subst hee;simp only[Option.some.injEq,Prod.mk.injEq]at ha;obtain⟨rfl,rfl,rfl⟩:=ha;simp only[Rep]at hx;obtain⟨_,hx⟩:=hx
    cases hm:μ id with
    | none=>simp[hm]at hx
    | some L=>
     cases L with
     | nil=>
      simp only[hm]at hx;obtain⟨_,rfl,rfl⟩:=hx;simp[tops,yjc]
     | blk b cap=>
      simp only[hm]at hx;obtain⟨hcap,o,rfl,hoo⟩:=hx;intro z hz;simp only[tops,yjc,List.mem_singleton]at hz;subst hz;exact .inr ⟨id,cap,_,hm,hsub id _ hid rfl,rfl⟩
   ·simp at ha
  ·simp at ha
 | ptr id off=>
  simp only[absC]at ha;split at ha
  ·rename_i cs hid
   split at ha
   ·simp only[Option.some.injEq,Prod.mk.injEq]at ha
    obtain⟨rfl,rfl,rfl⟩:=ha;simp only[Rep]at hx;obtain⟨_,b,cap,hm,rfl⟩:=hx;intro z hz;simp only[tops,yjc,List.mem_singleton]at hz;subst hz;exact .inr ⟨id,cap,_,hm,hsub id _ hid rfl,rfl⟩
   ·simp at ha
  ·simp at ha
 | sl own e n f=>
  cases own with
  | none=>simp only[absC,Option.some.injEq,Prod.mk.injEq]at ha;obtain⟨rfl,rfl,rfl⟩:=ha;simp[tops,yjc]
  | some T=>simp[absC]at ha
 | int _ _=>simp only[absC,Option.some.injEq,Prod.mk.injEq]at ha;obtain⟨rfl,rfl,rfl⟩:=ha;simp[tops,yjc]
 | bool _=>simp only[absC,Option.some.injEq,Prod.mk.injEq]at ha;obtain⟨rfl,rfl,rfl⟩:=ha;simp[tops,yjc]
 | str _=>simp only[absC,Option.some.injEq,Prod.mk.injEq]at ha;obtain⟨rfl,rfl,rfl⟩:=ha;simp[tops,yjc]
 | nils=>simp only[absC,Option.some.injEq,Prod.mk.injEq]at ha;obtain⟨rfl,rfl,rfl⟩:=ha;simp[tops,yjc]
 | _=>simp[absC]at ha
theorem yow {h h':List Ent} {x y:AV} {ob:List Prop} (ha:absC h x=some (y,h',ob)):∀ (id:Nat) (e:Ent),nthE h' id=some e->e.live=true->nthE h id=some e:=by
 have same:h'=h->∀ (id:Nat) (e:Ent),nthE h' id=some e->e.live=true->nthE h id=some e:=by rintro rfl id e he _;exact he
 cases x with
 | ref id e off n=>
  simp only[absC]at ha;split at ha
  ·split at ha
   ·simp only[Option.some.injEq,Prod.mk.injEq]at ha
    obtain⟨rfl,rfl,rfl⟩:=ha;intro i e he hl;rw[y6]at he;split at he
    ·cases he;simp[Ent.live]at hl
    ·exact he
   ·simp at ha
  ·simp at ha
 | ptr id off=>
  simp only[absC]at ha;split at ha
  ·split at ha
   ·simp only[Option.some.injEq,Prod.mk.injEq]at ha
    obtain⟨rfl,rfl,rfl⟩:=ha;intro i e he hl;rw[y6]at he;split at he
    ·cases he;simp[Ent.live]at hl
    ·exact he
   ·simp at ha
  ·simp at ha
 | sl own e n f=>
  cases own with
  | none=>simp only[absC,Option.some.injEq,Prod.mk.injEq]at ha;exact same ha.2.1.symm
  | some T=>simp[absC]at ha
 | int _ _=>simp only[absC,Option.some.injEq,Prod.mk.injEq]at ha;exact same ha.2.1.symm
 | bool _=>simp only[absC,Option.some.injEq,Prod.mk.injEq]at ha;exact same ha.2.1.symm
 | str _=>simp only[absC,Option.some.injEq,Prod.mk.injEq]at ha;exact same ha.2.1.symm
 | nils=>simp only[absC,Option.some.injEq,Prod.mk.injEq]at ha;exact same ha.2.1.symm
 | _=>simp[absC]at ha
theorem y3s:∀ {xs:List AV} {h h':List Ent} {ys:List AV} {us:List Value} {ob:List Prop},(∀ (id:Nat) (e:Ent),nthE h id=some e->e.live=true->nthE h0 id=some e) ->
  RepL w (hot c.M0 (Hof h0) μ) xs μ us []->absL h xs=some (ys,h',ob)->(∀ b,b∈y1 ys us->hot c.M0 (Hof h0) μ b)/\∀ (id:Nat) (e:Ent),nthE h' id=some e->e.live=true->nthE h id=some e
 | [],h,h',ys,us,ob,hsub,hx,ha=>by
  simp only[absL,Option.some.injEq,Prod.mk.injEq]at ha;obtain⟨rfl,rfl,rfl⟩:=ha;exact⟨by simp[y1],fun _ _ he _=>he⟩
 | x::xs,h,h',ys,us,ob,hsub,hx,ha=>by
  simp only[absL]at ha
  cases h1:absC h x with
  | none=>simp[h1]at ha
  | some p=>
   obtain⟨y,h2,o1⟩:=p;simp only[h1]at ha
   cases h3:absL h2 xs with
   | none=>simp[h3]at ha
   | some q=>
    obtain⟨ys',h4,o2⟩:=q;simp only[h3,Option.some.injEq,Prod.mk.injEq]at ha;obtain⟨rfl,rfl,rfl⟩:=ha;simp only[RepL]at hx;obtain⟨u,us',f1,f2,rfl,e2,hu,hus⟩:=hx;obtain⟨rfl,rfl⟩:=List.append_eq_nil_iff.1 e2.symm;have hs1:=yow h1;have ih:=y3s (fun id e he hl=>hsub id e (hs1 id e he hl) hl) hus h3;refine⟨?_,fun id e he hl=>hs1 id e (ih.2 id e he hl) hl⟩;intro b hb;simp only[y1,List.mem_append]at hb;exact hb.elim (yfj hsub hu h1 b) (ih.1 b)
theorem ypt {h h' : List Ent} {x y : AV} {v : Value} {ob : List Prop} (hsub : ∀ (id : Nat) (e : Ent), nthE h id = some e -> e.live = true -> nthE h0 id = some e)
  (hx:Rep w (hot c.M0 (Hof h0) μ) x μ v []) (ha:absV h x=some (y,h',ob)):(∀ b,b∈tops y v->hot c.M0 (Hof h0) μ b)/\∀ (id:Nat) (e:Ent),nthE h' id=some e->e.live=true->nthE h id=some e:=by
 cases x with
 | agg cs=>
  simp only[absV]at ha
  cases h1:absL h cs with
  | none=>simp[h1]at ha
  | some p=>
   obtain⟨ys,h2,o1⟩:=p;simp only[h1,Option.some.injEq,Prod.mk.injEq]at ha;obtain⟨rfl,rfl,rfl⟩:=ha;simp only[Rep]at hx;obtain⟨us,rfl,hus⟩:=hx;have:=y3s hsub hus h1;exact⟨by simpa only[tops]using this.1,this.2⟩
 | _=>
  refine⟨yfj hsub hx ha,?_⟩;simp only[absV]at ha;exact yow ha
theorem y5g:∀ {xs:List AV} {h h':List Ent} {ys:List AV} {us:List Value} {ob:List Prop},(∀ (id:Nat) (e:Ent),nthE h id=some e->e.live=true->nthE h0 id=some e) ->
  RepL w (hot c.M0 (Hof h0) μ) xs μ us []->yoc h xs=some (ys,h',ob)->∀ b,b∈y1 ys us->hot c.M0 (Hof h0) μ b
 | [],h,h',ys,us,ob,hsub,hx,ha=>by
  simp only[yoc,Option.some.injEq,Prod.mk.injEq]at ha;obtain⟨rfl,rfl,rfl⟩:=ha;simp[y1]
 | x::xs,h,h',ys,us,ob,hsub,hx,ha=>by
  simp only[yoc]at ha
  cases h1:absV h x with
  | none=>simp[h1]at ha
  | some p=>
   obtain⟨y,h2,o1⟩:=p;simp only[h1]at ha
   cases h3:yoc h2 xs with
   | none=>simp[h3]at ha
   | some q=>
    obtain⟨ys',h4,o2⟩:=q;simp only[h3,Option.some.injEq,Prod.mk.injEq]at ha;obtain⟨rfl,rfl,rfl⟩:=ha;simp only[RepL]at hx;obtain⟨u,us',f1,f2,rfl,e2,hu,hus⟩:=hx;obtain⟨rfl,rfl⟩:=List.append_eq_nil_iff.1 e2.symm;have hs1:=ypt hsub hu h1;have ih:=y5g (fun id e he hl=>hsub id e (hs1.2 id e he hl) hl) hus h3;intro b hb;simp only[y1,List.mem_append]at hb;exact hb.elim (hs1.1 b) (ih b)
end
end Go.Ab
namespace Go.Ab
open Go
variable [Inv]
mutual
def noId : AV -> Bool
  | .ref .. => false
  | .ptr .. => false
  | .pe .. => false
  | .agg cs=>y6d cs
  | .tup cs=>y6d cs
  | .fn _ _ cs=>y6d cs
  | .sl (some _) _ _ _=>false
  | .op _=>false
  | .gd _ _=>false
  | .any=>false
  | .lit .. => false
  | _=>true
def y6d : List AV -> Bool
  | []=>true
  | x :: xs => match noId x with
    | true=>y6d xs
    | false=>false
end
def ybg : List Bool -> List AV -> Bool
  | true::ms,_::xs=>ybg ms xs
  | false :: ms, x :: xs => match noId x with
    | true=>ybg ms xs
    | false=>false
  | _,_=>true
section
variable {P:Program} {c:Ctx} {μ:Map} {FP:Nat->List Nat} {w:World}
mutual
theorem yww {w : World} {M : Nat -> Prop} : ∀ (x : AV) {μ : Map} {v : Value}, noId x = true -> Rep w M x μ v [] -> Rep w M x yw v []
 | .int _ _,_,_,_,h=>by simpa only[Rep]using h
 | .bool _,_,_,_,h=>by simpa only[Rep]using h
 | .str _,_,_,_,h=>by simpa only[Rep]using h
 | .nils,_,_,_,h=>by simpa only[Rep]using h
 | .any,_,_,hn,_=>by simp[noId]at hn
 | .lit ..,_,_,hn,_=>by simp[noId]at hn
 | .ref ..,_,_,hn,_=>by simp[noId]at hn
 | .ptr ..,_,_,hn,_=>by simp[noId]at hn
 | .pe ..,_,_,hn,_=>by simp[noId]at hn
 | .gd ..,_,_,hn,_=>by simp[noId]at hn
 | .sl (some _) _ _ _,_,_,hn,_=>by simp[noId]at hn
 | .op _,_,_,hn,_=>by simp[noId]at hn
 | .sl none _ _ _,_,_,_,h=>by simpa only[Rep]using h
 | .ep _,_,_,_,h=>by simpa only[Rep]using h
 | .agg cs,μ,v,hn,h=>by
  simp only[Rep,noId]at h hn ⊢;obtain⟨us,e,h⟩:=h;exact⟨us,e,y9f cs hn h⟩
 | .tup cs,μ,v,hn,h=>by
  simp only[Rep,noId]at h hn ⊢;obtain⟨us,e,h⟩:=h;exact⟨us,e,y9f cs hn h⟩
 | .fn f k cs,μ,v,hn,h=>by
  simp only[Rep,noId]at h hn ⊢;obtain⟨e0,us,e,h⟩:=h;exact⟨e0,us,e,y9f cs hn h⟩
theorem y9f {w : World} {M : Nat -> Prop} : ∀ (xs : List AV) {μ : Map} {us : List Value}, y6d xs = true -> RepL w M xs μ us [] -> RepL w M xs yw us []
 | [],_,_,_,h=>by simpa only[RepL]using h
 | x::xs,μ,us,hn,h=>by
  simp only[RepL,y6d]at h hn ⊢
  cases hx:noId x with
  | false=>simp[hx]at hn
  | true=>
   simp only[hx]at hn;obtain⟨u,us',f1,f2,e1,e2,h1,h2⟩:=h;obtain⟨rfl,rfl⟩:=List.append_eq_nil_iff.1 e2.symm;exact⟨u,us',[],[],e1,rfl,yww x hx h1,y9f xs hn h2⟩
end
mutual
theorem ywt {h : List Ent} : ∀ (d : Nat) (x y : AV) (ob : List Prop), noId x = true -> yfb h d x = some (y, ob) -> y = x
 | 0,x,y,ob,_,hs=>by simp[yfb]at hs
 | d+1,x,y,ob,hn,hs=>by
  have ih:=yij (h:=h) d
  cases x with
  | sl own e n f=>
   cases own with
   | none=>simp only[yfb,Option.some.injEq,Prod.mk.injEq]at hs;exact hs.1.symm
   | some T=>simp[noId]at hn
  | agg cs=>
   simp only[noId,yfb]at hn hs
   cases hm:mapO (yfb h d) cs with
   | none=>simp[hm]at hs
   | some p=>
    simp only[hm,Option.some.injEq,Prod.mk.injEq]at hs;rw[<- hs.1,ih cs p.1 p.2 hn (by rw[hm])]
  | fn f k cs=>
   simp only[noId,yfb]at hn hs
   cases hm:mapO (yfb h d) cs with
   | none=>simp[hm]at hs
   | some p=>
    simp only[hm,Option.some.injEq,Prod.mk.injEq]at hs;rw[<- hs.1,ih cs p.1 p.2 hn (by rw[hm])]
  | int _ _=>simp only[yfb,Option.some.injEq,Prod.mk.injEq]at hs;exact hs.1.symm
  | bool _=>simp only[yfb,Option.some.injEq,Prod.mk.injEq]at hs;exact hs.1.symm
  | str _=>simp only[yfb,Option.some.injEq,Prod.mk.injEq]at hs;exact hs.1.symm
  | nils=>simp only[yfb,Option.some.injEq,Prod.mk.injEq]at hs;exact hs.1.symm
  | ep _=>simp only[yfb,Option.some.injEq,Prod.mk.injEq]at hs;exact hs.1.symm
  | tup _=>simp[yfb]at hs
  | op _=>simp[noId]at hn
  | gd _ _=>simp[noId]at hn
  | any=>simp[noId]at hn
  | lit _ _=>simp[noId]at hn
  | ref _ _ _ _=>simp[noId]at hn
  | ptr _ _=>simp[noId]at hn
  | pe _ _ _ _=>simp[noId]at hn
theorem yij {h : List Ent} : ∀ (d : Nat) (xs ys : List AV) (ob : List Prop), y6d xs = true -> mapO (yfb h d) xs = some (ys, ob) -> ys = xs
 | d,[],ys,ob,_,hs=>by simp only[mapO,Option.some.injEq,Prod.mk.injEq]at hs;exact hs.1.symm
 | d,x::xs,ys,ob,hn,hs=>by
  simp only[y6d,mapO]at hn hs
  cases hx:noId x with
  | false=>simp[hx]at hn
  | true=>
   simp only[hx]at hn
   cases h1:yfb h d x with
   | none=>simp[h1]at hs
   | some p=>
    simp only[h1]at hs
    cases h2:mapO (yfb h d) xs with
    | none=>simp[h2]at hs
    | some q=>
     simp only[h2,Option.some.injEq,Prod.mk.injEq]at hs;rw[<- hs.1,ywt d x p.1 p.2 hx (by rw[h1]),yij d xs q.1 q.2 hn (by rw[h2])]
end
end
end Go.Ab
namespace Go.Ab
open Go
variable [Inv]
def DenM (P:Program) (f:FuncId) (xs:List AV) (r:AV) (outs:List AV):Prop:=
 FnOk P f/\∀ (w:World) (M:Nat->Prop) (vs:List Value) (fpA:List Nat),Inv.ok w->(∀ b,Inv.dom b->¬ M b/\b∉fpA) ->
  RepL w (fun b=>M b\/b∈y1 xs vs) xs yw vs fpA->fpA.Nodup->(∀ b,b∈fpA->¬ M b)->(∀ b,M b->b<w.heap.size) ->
  Calls P f vs.toArray w fun e w'=>∃ v fpR fpO,e=.returned v/\Keep w (y1 xs vs) w'/\Rep w' (fun b=>M b\/b∈fpR++fpO) r yw v fpR /\
   RepL w' (fun b=>M b\/b∈fpR++fpO) outs yw vs fpO/\(fpR++fpO).Nodup /\
   (∀ b,b∈fpR++fpO->(b∈fpA\/w.heap.size<=b)/\b<w'.heap.size)/\(∀ b,b∈tops r v++y1 outs vs->b∈y1 xs vs\/w.heap.size<=b)
def ygd (h : List Ent) : List Bool -> List AV -> Option (List AV × List Ent × List Prop)
  | _,[]=>some ([],h,[])
  | true :: ms, x :: xs => match absV h x with
    | some (y, h1, o1) => match ygd h1 ms xs with
      | some (ys,h2,o2)=>some (y::ys,h2,o1++o2)
      | none=>none
    | none=>none
  | false :: ms, x :: xs => match ygd h ms xs with
    | some (ys, h2, o2) => match yfb h2 8 x with
      | some (y,o1)=>some (y::ys,h2,o1++o2)
      | none=>none
    | none=>none
  | [],_::_=>none
def yid : List Ent -> List (Nat × Ent) -> List Ent
 | h,[]=>h
 | h,(id,e)::l=>yid (setE h id e) l
def bkC : AV -> AV -> List (Nat × Ent)
 | .ref id _ 0 _,.sl (some T) e n f=>[(id,.arr T e n f)]
 | .ptr id 0,.op cs=>[(id,.box cs)]
 | _,_=>[]
def bkL : List AV -> List AV -> List (Nat × Ent)
 | x::xs,y::ys=>bkC x y++bkL xs ys
 | _,_=>[]
def bkV : AV -> AV -> List (Nat × Ent)
 | .agg xs,.agg ys=>bkL xs ys
 | x,y=>bkC x y
def bkVL : List Bool -> List AV -> List AV -> List (Nat × Ent)
 | true::ms,x::xs,y::ys=>bkV x y++bkVL ms xs ys
 | false::ms,_::xs,_::ys=>bkVL ms xs ys
 | _,_,_=>[]
section
variable {P:Program} {c:Ctx} {μ:Map} {FP:Nat->List Nat} {w:World} {h0:List Ent}
theorem yiw {h h':List Ent} {x y z:AV} {ob:List Prop} {K:List Nat} (ha:absC h x=some (y,h',ob)) (hK:∀ id e,nthE h id=some e->e.live=true->nthE h' id=some .dead->id∈K) :
  ∀ p,p∈bkC x z->p.1∈K:=by
 intro p hp;unfold bkC at hp;split at hp
 ·simp only[absC]at ha
  split at ha
  ·rename_i hid _
   split at ha
   ·simp only[Option.some.injEq,Prod.mk.injEq]at ha
    obtain⟨_,rfl,_⟩:=ha;simp only[List.mem_singleton]at hp;subst hp;exact hK _ _ hid rfl (by rw[y6,if_pos ⟨rfl,yed hid⟩])
   ·simp at ha
  ·simp at ha
 ·simp only[absC]at ha
  split at ha
  ·rename_i hid _
   split at ha
   ·simp only[Option.some.injEq,Prod.mk.injEq]at ha
    obtain⟨_,rfl,_⟩:=ha;simp only[List.mem_singleton]at hp;subst hp;exact hK _ _ hid rfl (by rw[y6,if_pos ⟨rfl,yed hid⟩])
   ·simp at ha
  ·simp at ha
 ·simp at hp
structure Kills (h h':List Ent) (K:List Nat):Prop where
 len:h'.length=h.length
 dead:∀ id e,nthE h id=some e->e.live=true->nthE h' id=some .dead->id∈K
 live:∀ id e,nthE h id=some e->(e.live=false->nthE h' id=some e)
 isDead:∀ id,id∈K->nthE h' id=some .dead
 other:∀ id,id∉K->nthE h' id=nthE h id
 was:∀ id,id∈K->∃ e,nthE h id=some e/\e.live=true
theorem Kills.refl (h:List Ent):Kills h h []:=
 ⟨rfl,fun id e h1 h2 h3=>by rw[h1]at h3;cases h3;simp[Ent.live]at h2,fun _ _ h1 _=>h1,by simp,fun _ _=>rfl,by simp⟩
theorem y0x {e:Ent} (h:e.live=false):e=.dead:=by cases e<;>simp[Ent.live]at h<;>rfl
theorem Kills.trans {h h1 h2:List Ent} {K1 K2:List Nat} (a:Kills h h1 K1) (b:Kills h1 h2 K2):Kills h h2 (K1++K2):=by
 refine⟨b.len.trans a.len,?_,?_,?_,?_,?_⟩
 ·intro id e he hl hd
  by_cases h1':id∈K1
  ·exact List.mem_append_left _ h1'
  ·have:=a.other id h1'
   rw[he]at this;exact List.mem_append_right _ (b.dead id e this hl hd)
 ·intro id e he hl
  have:=y0x hl;subst this;exact b.live id _ (a.live id _ he rfl) rfl
 ·intro id hid
  by_cases h2':id∈K2
  ·exact b.isDead id h2'
  ·rw[b.other id h2']
   exact a.isDead id ((List.mem_append.1 hid).resolve_right h2')
 ·intro id hid
  rw[b.other id fun h=>hid (List.mem_append_right _ h),a.other id fun h=>hid (List.mem_append_left _ h)]
 ·intro id hid
  by_cases h1':id∈K1
  ·exact a.was id h1'
  ·obtain⟨e,he,hl⟩:=b.was id ((List.mem_append.1 hid).resolve_left h1')
   rw[a.other id h1']at he;exact⟨e,he,hl⟩
theorem Kills.one {h:List Ent} {id:Nat} {e:Ent} (he:nthE h id=some e) (hl:e.live=true):Kills h (setE h id .dead) [id]:=by
 refine⟨y0 _ _ _,?_,?_,?_,?_,?_⟩
 ·intro i e' h1 h2 h3
  rw[y6]at h3;split at h3
  ·rename_i hh;simp[hh.1]
  ·rw[h1]at h3;cases h3;simp[Ent.live]at h2
 ·intro i e' h1 h2
  rw[y6];split
  ·rename_i hh;rw[y0x h2]
  ·exact h1
 ·intro i hi
  simp only[List.mem_singleton]at hi;subst hi;rw[y6,if_pos ⟨rfl,yed he⟩]
 ·intro i hi
  rw[y6,if_neg (fun h=>hi (by simp[h.1]))]
 ·intro i hi
  simp only[List.mem_singleton]at hi;subst hi;exact⟨e,he,hl⟩
theorem Kills.sub {h h':List Ent} {K:List Nat} (a:Kills h h' K):∀ id e,nthE h' id=some e->e.live=true->nthE h id=some e:=by
 intro id e he hl;by_cases hk:id∈K
 ·rw[a.isDead id hk]at he;cases he;simp[Ent.live]at hl
 ·rwa [a.other id hk]at he
theorem y1j {h h':List Ent} {x y:AV} {ob:List Prop} (ha:absC h x=some (y,h',ob)):∃ K,Kills h h' K:=by
 have same:h=h'->∃ K,Kills h h' K:=by rintro rfl;exact⟨[],Kills.refl _⟩
 cases x with
 | ref id e off n=>
  simp only[absC]at ha;split at ha
  ·rename_i hid
   split at ha
   ·simp only[Option.some.injEq,Prod.mk.injEq]at ha
    obtain⟨rfl,rfl,rfl⟩:=ha;exact⟨_,Kills.one hid rfl⟩
   ·simp at ha
  ·simp at ha
 | ptr id off=>
  simp only[absC]at ha;split at ha
  ·rename_i hid
   split at ha
   ·simp only[Option.some.injEq,Prod.mk.injEq]at ha
    obtain⟨rfl,rfl,rfl⟩:=ha;exact⟨_,Kills.one hid rfl⟩
   ·simp at ha
  ·simp at ha
 | sl own e n f=>
  cases own with
  | none=>simp only[absC,Option.some.injEq,Prod.mk.injEq]at ha;exact same ha.2.1
  | some T=>simp[absC]at ha
 | int _ _=>simp only[absC,Option.some.injEq,Prod.mk.injEq]at ha;exact same ha.2.1
 | bool _=>simp only[absC,Option.some.injEq,Prod.mk.injEq]at ha;exact same ha.2.1
 | str _=>simp only[absC,Option.some.injEq,Prod.mk.injEq]at ha;exact same ha.2.1
 | nils=>simp only[absC,Option.some.injEq,Prod.mk.injEq]at ha;exact same ha.2.1
 | _=>simp[absC]at ha
theorem y2j : ∀ {xs : List AV} {h h' : List Ent} {ys : List AV} {ob : List Prop}, absL h xs = some (ys, h', ob) -> ∃ K, Kills h h' K
 | [],h,h',ys,ob,ha=>by
  simp only[absL,Option.some.injEq,Prod.mk.injEq]at ha;obtain⟨_,rfl,_⟩:=ha;exact⟨[],Kills.refl _⟩
 | x::xs,h,h',ys,ob,ha=>by
  simp only[absL]at ha
  cases h1:absC h x with
  | none=>simp[h1]at ha
  | some p=>
   obtain⟨y,h2,o1⟩:=p;simp only[h1]at ha
   cases h3:absL h2 xs with
   | none=>simp[h3]at ha
   | some q=>
    obtain⟨ys',h4,o2⟩:=q;simp only[h3,Option.some.injEq,Prod.mk.injEq]at ha;obtain⟨rfl,rfl,rfl⟩:=ha;obtain⟨K1,k1⟩:=y1j h1;obtain⟨K2,k2⟩:=y2j h3;exact⟨K1++K2,k1.trans k2⟩
theorem yep {h h':List Ent} {x y:AV} {ob:List Prop} (ha:absV h x=some (y,h',ob)):∃ K,Kills h h' K:=by
 cases x with
 | agg cs=>
  simp only[absV]at ha
  cases h1:absL h cs with
  | none=>simp[h1]at ha
  | some p=>
   obtain⟨ys,h2,o1⟩:=p;simp only[h1,Option.some.injEq,Prod.mk.injEq]at ha;obtain⟨rfl,rfl,rfl⟩:=ha;exact y2j h1
 | _=>simp only[absV]at ha;exact y1j ha
theorem yx0 : ∀ {xs ys zs : List AV} {h h' : List Ent} {ob : List Prop} {K : List Nat}, absL h xs = some (ys, h', ob) -> Kills h h' K -> ∀ p, p ∈ bkL xs zs -> p.1 ∈ K
 | [],_,_,_,_,_,_,_,_=>by simp[bkL]
 | _::_,_,[],_,_,_,_,_,_=>by simp[bkL]
 | x::xs,ys,z::zs,h,h',ob,K,ha,hK=>by
  simp only[absL]at ha
  cases h1:absC h x with
  | none=>simp[h1]at ha
  | some p=>
   obtain⟨y,h2,o1⟩:=p;simp only[h1]at ha
   cases h3:absL h2 xs with
   | none=>simp[h3]at ha
   | some q=>
    obtain⟨ys',h4,o2⟩:=q;simp only[h3,Option.some.injEq,Prod.mk.injEq]at ha;obtain⟨rfl,rfl,rfl⟩:=ha;obtain⟨K2,k2⟩:=y2j h3;obtain⟨K1,k1⟩:=y1j h1;intro p hp;simp only[bkL,List.mem_append]at hp;rcases hp with hp|hp
    ·refine yiw h1 (fun id e he hl hd=>hK.dead id e he hl ?_) p hp
     exact k2.live id _ hd rfl
    ·have h5:=yx0 h3 k2 p hp
     obtain⟨e,he,hl⟩:=k2.was _ h5;exact hK.dead _ e (k1.sub _ _ he hl) hl (k2.isDead _ h5)
theorem y1bb {x y z:AV} {h h':List Ent} {ob:List Prop} {K:List Nat} (ha:absV h x=some (y,h',ob)) (hK:Kills h h' K):∀ p,p∈bkV x z->p.1∈K:=by
 intro p hp
 cases x with
 | agg cs=>
  simp only[absV]at ha
  cases h1:absL h cs with
  | none=>simp[h1]at ha
  | some q=>
   obtain⟨ys,h2,o1⟩:=q;simp only[h1,Option.some.injEq,Prod.mk.injEq]at ha;obtain⟨rfl,rfl,rfl⟩:=ha
   cases z with
   | agg zs=>exact yx0 h1 hK p (by simpa only[bkV]using hp)
   | _=>simp[bkV,bkC]at hp
 | ref id e off n=>exact yiw (x:=.ref id e off n) ha hK.dead p (by simpa only[bkV]using hp)
 | ptr id off=>exact yiw (x:=.ptr id off) ha hK.dead p (by simpa only[bkV]using hp)
 | _=>cases z<;>simp[bkV,bkC]at hp
theorem ywf : ∀ {ms : List Bool} {xs ys : List AV} {h h' : List Ent} {ob : List Prop}, ygd h ms xs = some (ys, h', ob) -> ∃ K, Kills h h' K
 | _,[],_,_,_,_,ha=>by
  simp only[ygd,Option.some.injEq,Prod.mk.injEq]at ha;obtain⟨_,rfl,_⟩:=ha;exact⟨[],Kills.refl _⟩
 | [],_::_,_,_,_,_,ha=>by simp[ygd]at ha
 | true::ms,x::xs,ys,h,h',ob,ha=>by
  simp only[ygd]at ha
  cases h1:absV h x with
  | none=>simp[h1]at ha
  | some p=>
   obtain⟨y,h2,o1⟩:=p;simp only[h1]at ha
   cases h3:ygd h2 ms xs with
   | none=>simp[h3]at ha
   | some q=>
    obtain⟨ys',h4,o2⟩:=q;simp only[h3,Option.some.injEq,Prod.mk.injEq]at ha;obtain⟨rfl,rfl,rfl⟩:=ha;obtain⟨K1,k1⟩:=yep h1;obtain⟨K2,k2⟩:=ywf h3;exact⟨K1++K2,k1.trans k2⟩
 | false::ms,x::xs,ys,h,h',ob,ha=>by
  simp only[ygd]at ha
  cases h3:ygd h ms xs with
  | none=>simp[h3]at ha
  | some q=>
   obtain⟨ys',h4,o2⟩:=q;simp only[h3]at ha
   cases h1:yfb h4 8 x with
   | none=>simp[h1]at ha
   | some p=>
    simp only[h1,Option.some.injEq,Prod.mk.injEq]at ha;obtain⟨rfl,rfl,rfl⟩:=ha;exact ywf h3
theorem yhq : ∀ {ms : List Bool} {xs ys zs : List AV} {h h' : List Ent} {ob : List Prop} {K : List Nat}, ygd h ms xs = some (ys, h', ob) -> Kills h h' K -> ∀ p, p ∈ bkVL ms xs zs -> p.1 ∈ K
 | _,[],_,_,_,_,_,_,_,_=>by simp[bkVL]
 | _,_::_,_,[],_,_,_,_,_,_=>by simp[bkVL]
 | [],_::_,_,_,_,_,_,_,ha,_=>by simp[ygd]at ha
 | true::ms,x::xs,ys,z::zs,h,h',ob,K,ha,hK=>by
  simp only[ygd]at ha
  cases h1:absV h x with
  | none=>simp[h1]at ha
  | some p=>
   obtain⟨y,h2,o1⟩:=p;simp only[h1]at ha
   cases h3:ygd h2 ms xs with
   | none=>simp[h3]at ha
   | some q=>
    obtain⟨ys',h4,o2⟩:=q;simp only[h3,Option.some.injEq,Prod.mk.injEq]at ha;obtain⟨rfl,rfl,rfl⟩:=ha;obtain⟨K1,k1⟩:=yep h1;obtain⟨K2,k2⟩:=ywf h3;intro p hp;simp only[bkVL,List.mem_append]at hp;rcases hp with hp|hp
    ·have h5:=y1bb h1 k1 p hp
     obtain⟨e,he,hl⟩:=k1.was _ h5;exact hK.dead _ e he hl (k2.live _ _ (k1.isDead _ h5) rfl)
    ·have h5:=yhq h3 k2 p hp
     obtain⟨e,he,hl⟩:=k2.was _ h5;exact hK.dead _ e (k1.sub _ _ he hl) hl (k2.isDead _ h5)
 | false::ms,x::xs,ys,z::zs,h,h',ob,K,ha,hK=>by
  simp only[ygd]at ha
  cases h3:ygd h ms xs with
  | none=>simp[h3]at ha
  | some q=>
   obtain⟨ys',h4,o2⟩:=q;simp only[h3]at ha
   cases h1:yfb h4 8 x with
   | none=>simp[h1]at ha
   | some p=>
    simp only[h1,Option.some.injEq,Prod.mk.injEq]at ha;obtain⟨rfl,rfl,rfl⟩:=ha;intro p hp;simp only[bkVL]at hp;exact yhq h3 hK p hp
theorem y7j (hW:WR c (Hof h0) μ FP w):∀ {ms:List Bool} {xs ys:List AV} {h h':List Ent} {us:List Value} {ob:List Prop},(∀ (id:Nat) (e:Ent),nthE h id=some e->e.live=true->nthE h0 id=some e) ->
  RepL w (hot c.M0 (Hof h0) μ) xs μ us []->ygd h ms xs=some (ys,h',ob)->allP ob ->
  ∃ K fp,Gone h h' K/\Owns FP K fp/\(∀ b,b∈y1 ys us->hot c.M0 (Hof h0) μ b) /\
   ∀ M':Nat->Prop,(∀ b,M' b->hot c.M0 (Hof h0) μ b)->(ybg ms xs=true\/∀ id b cap e,μ id=some (.blk b cap)->nthE h' id=some e->e.live=true->M' b->False)->RepL w M' ys yw us fp
 | ms,[],ys,h,h',us,ob,hsub,hx,ha,_=>by
  simp only[ygd,Option.some.injEq,Prod.mk.injEq]at ha;obtain⟨rfl,rfl,rfl⟩:=ha;simp only[RepL]at hx;exact⟨[],[],Gone.refl _,by simp[Owns],by simp[y1],fun M' _ _=>by simp only[RepL];exact⟨hx.1,trivial⟩⟩
 | [],x::xs,ys,h,h',us,ob,hsub,hx,ha,ho=>by simp[ygd]at ha
 | true::ms,x::xs,ys,h,h',us,ob,hsub,hx,ha,ho=>by
  simp only[ygd]at ha
  cases h1:absV h x with
  | none=>simp[h1]at ha
  | some p=>
   obtain⟨y,h2,o1⟩:=p;simp only[h1]at ha
   cases h3:ygd h2 ms xs with
   | none=>simp[h3]at ha
   | some q=>
    obtain⟨ys',h4,o2⟩:=q;simp only[h3,Option.some.injEq,Prod.mk.injEq]at ha;obtain⟨rfl,rfl,rfl⟩:=ha;obtain⟨ho1,ho2⟩:=yk.1 ho;simp only[RepL]at hx;obtain⟨u,us',f1,f2,rfl,e2,hu,hus⟩:=hx;obtain⟨rfl,rfl⟩:=List.append_eq_nil_iff.1 e2.symm;obtain⟨K1,g1,r1,go1,ow1⟩:=y3r hW hsub hu h1 ho1;obtain⟨t1,_⟩:=ypt hsub hu h1;obtain⟨K2,g2,go2,ow2,t2,r2⟩:=y7j hW (fun id e he hl=>hsub id e (go1.sub id e he hl) hl) hus h3 ho2;refine⟨K1++K2,g1++g2,go1.trans go2,Owns.app hW go1 go2 ow1 ow2,?_,fun M' hM hl => ?_⟩
    ·intro b hb
     simp only[y1,List.mem_append]at hb;exact hb.elim (t1 b) (t2 b)
    ·simp only[RepL]
     refine⟨u,us',g1,g2,rfl,rfl,?_,r2 M' hM (hl.imp (fun h=>by simpa only[ybg]using h) id)⟩;exact Rep.mono y (Map.le_refl _) ⟨Nat.le_refl _,fun b _ hb h'=>hb (hM b h'),fun _ _ _=>rfl⟩ r1
 | false::ms,x::xs,ys,h,h',us,ob,hsub,hx,ha,ho=>by
  simp only[ygd]at ha
  cases h3:ygd h ms xs with
  | none=>simp[h3]at ha
  | some q=>
   obtain⟨ys',h4,o2⟩:=q;simp only[h3]at ha
   cases h1:yfb h4 8 x with
   | none=>simp[h1]at ha
   | some p=>
    obtain⟨y,o1⟩:=p;simp only[h1,Option.some.injEq,Prod.mk.injEq]at ha;obtain⟨rfl,rfl,rfl⟩:=ha;obtain⟨ho1,ho2⟩:=yk.1 ho;simp only[RepL]at hx;obtain⟨u,us',f1,f2,rfl,e2,hu,hus⟩:=hx;obtain⟨rfl,rfl⟩:=List.append_eq_nil_iff.1 e2.symm;obtain⟨K2,g2,go2,ow2,t2,r2⟩:=y7j hW hsub hus h3 ho2
    have snap:∀ M':Nat->Prop,(∀ b,M' b->hot c.M0 (Hof h0) μ b)->(noId x=true\/∀ id b cap e,μ id=some (.blk b cap)->nthE h4 id=some e->e.live=true->M' b->False)->Rep w M' y yw u []:=by
     intro M' hM hl;rcases hl with hl|hl
     ·rw[ywt 8 x y o1 hl h1]
      exact Rep.mono x (Map.le_refl _) ⟨Nat.le_refl _,fun b _ hb h'=>hb (hM b h'),fun _ _ _=>rfl⟩ (yww x hl hu)
     ·exact yph hW hM (fun id e he hl=>hsub id e (go2.sub id e he hl) hl) hl 8 x y o1 u h1 ho1 hu
    refine⟨K2,g2,go2,ow2,?_,fun M' hM hl => ?_⟩
    ·intro b hb
     simp only[y1,List.mem_append]at hb;rcases hb with hb|hb
     ·have:=y2h y (snap (fun _=>False) (fun _ h=>h.elim) (.inr fun _ _ _ _ _ _ _ h=>h)) b hb
      simp at this
     ·exact t2 b hb
    ·simp only[RepL]
     have hl2:(noId x=true/\ybg ms xs=true)\/∀ id b cap e,μ id=some (.blk b cap)->nthE h4 id=some e->e.live=true->M' b->False:=by
      rcases hl with hl|hl
      ·left
       simp only[ybg]at hl
       cases hx:noId x with
       | true=>rw[hx]at hl;exact⟨rfl,hl⟩
       | false=>rw[hx]at hl;cases hl
      ·exact .inr hl
     exact⟨u,us',[],g2,rfl,rfl,snap M' hM (hl2.imp And.left id),r2 M' hM (hl2.imp And.right id)⟩
end
end Go.Ab
