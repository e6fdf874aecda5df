/- A part of a proof: walks of functions and lemmas of our own. No conditions. -/
import Derived.Test.YthjljhdfdppkoaaGreatDoorNAd
set_option linter.unusedSectionVars false
set_option linter.unusedVariables false
set_option linter.unusedSimpArgs false
namespace Go.Ab
open Go
variable [Inv]
def DenH (P:Program) (f:FuncId) (xs:List AV) (h:List Ent) (r:AV) (h':List Ent):Prop:=
 FnOk P f/\∀ (c:Ctx) (μ:Map) (FP:Nat->List Nat) (w:World) (vs:List Value),c.w0=w->c.k0=h.length->WR c (Hof h) μ FP w->Tail h μ->RepL w (hot c.M0 (Hof h) μ) xs μ vs [] ->
  Calls P f vs.toArray w fun e w'=>∃ v μ' FP',e=.returned v/\WR c (Hof h') μ' FP' w'/\Tail h' μ'/\Rep w' (hot c.M0 (Hof h') μ') r μ' v []
structure Dn where
 d:FuncId->List AV->Option (AV×Bool×List Prop)
 md:FuncId->Option (List Bool)
 m:FuncId->List AV->Option (AV×List AV×List Prop)
 hh:FuncId->List AV->List Ent->Option (AV×List Ent×List Prop)
structure DOk (P:Program) (D:Dn):Prop where
 d:∀ f xs r z ob,D.d f xs=some (r,z,ob)->allP ob->Den P f xs r
 m:∀ f xs r outs ob,D.m f xs=some (r,outs,ob)->allP ob->DenM P f xs r outs
 hh:∀ f xs h r h' ob,D.hh f xs h=some (r,h',ob)->allP ob->DenH P f xs h r h'
def y6j : List Ent -> Bool
 | []=>true
 | .dead::h=>y6j h
 | _::_=>false
def yk1 (D:Dn) (h:List Ent) (f:FuncId) (xs:List AV):Option (AV×List Ent×List Prop):=
  match mapO (ydb h 8) xs with
  | some (ys, o1) => match D.d f ys with
    | some (r, z, o2) => match z with
      | true=>some (ycb r,[],o1++(o2++[yac r\/y6j h=true\/ywd xs=true]))
      | false=>some (adR h.length r,adE r,o1++(o2++[yac r\/y6j h=true\/ywd xs=true]))
    | none=>none
  | none=>none
def yl5 (D:Dn) (h:List Ent) (f:FuncId) (ms:List Bool) (xs:List AV):Option (AV×List Ent×List Prop):=
  match y8c h ms xs with
  | some (ys, h1, o1) => match D.m f ys with
    | some (r,outs,o2)=>some (adR h.length r,ycd h1 (bkVL ms xs outs)++adE r,o1++(o2++[yac r/\y5b outs\/ywf ms xs=true,((bkVL ms xs outs).map (·.1)).Nodup]))
    | none=>none
  | none=>none
section
variable {P:Program} {Γ:Env} {c:Ctx} {μ:Map} {FP:Nat->List Nat} {w:World}
theorem ywt {h h' : List Ent} {D : Dn} {f : FuncId} {ms : List Bool} {xs : List AV} {x : AV} {ob : List Prop} {vs : List Value} (hD : DOk P D) (hW : WR c (Hof h) μ FP w) (hd : Tail h μ)
  (he:yl5 D h f ms xs=some (x,h',ob)) (ho:allP ob) (hx:RepL w (hot c.M0 (Hof h) μ) xs μ vs []) :
  FnOk P f/\Calls P f vs.toArray w fun e w'=>∃ v μ',e=.returned v/\Next1 c h μ w h' μ' w'/\Rep w' (hot c.M0 (Hof h') μ') x μ' v []:=by
 unfold yl5 at he;split at he
 ·rename_i ys h1 o1 ha
  split at he
  ·rename_i r outs o2 hm
   simp only[Option.some.injEq,Prod.mk.injEq]at he;obtain⟨rfl,rfl,rfl⟩:=he;obtain⟨ho1,ho2⟩:=yn.1 ho;obtain⟨ho2,h3,h5,_⟩:=yn.1 ho2;have hden:=hD.m f ys r outs o2 hm ho2;exact⟨hden.1,y4y hW hd hx ha ho1 h3 h5 hden⟩
  ·cases he
 ·cases he
theorem ywu {h h':List Ent} {f:FuncId} {xs:List AV} {r:AV} {vs:List Value} (hW:WR c (Hof h) μ FP w) (hd:Tail h μ) (hD:DenH P f xs h r h') (hx:RepL w (hot c.M0 (Hof h) μ) xs μ vs []) :
    FnOk P f/\Calls P f vs.toArray w fun e w'=>∃ v μ',e=.returned v/\Next1 c h μ w h' μ' w'/\Rep w' (hot c.M0 (Hof h') μ') r μ' v []:=by
  refine⟨hD.1,?_⟩;have hsome:∀ id,μ id≠none->id<h.length:=fun id hi=>Nat.lt_of_not_le fun hl=>hi (hd id hl)
  have hF:∀ b,b∈(List.range h.length).flatMap FP↔∃ id,b∈FP id:=fun b=>by
    constructor
    . intro hb;obtain⟨id,_,hb⟩:=List.mem_flatMap.1 hb;exact⟨id,hb⟩
    . rintro⟨id,hb⟩
      refine List.mem_flatMap.2 ⟨id,List.mem_range.2 (hsome id fun hm => ?_),hb⟩;rw[hW.out id hm]at hb;cases hb
  have hT:∃ T:List Nat,∀ b,b∈T↔∃ id cap e,μ id=some (.blk b cap)/\Hof h id=some e/\e.live=true:=by
    refine ⟨(List.range h.length).flatMap fun id => match μ id, nthE h id with
      | some (.blk b _),some e=>if e.live=true then[b]else[]
      | _,_=>[],fun b => ?_⟩
    constructor
    . intro hb;obtain⟨id,_,hb⟩:=List.mem_flatMap.1 hb;split at hb
      . rename_i b' cap e hm he
        split at hb
        . rename_i hl
          rw[List.mem_singleton]at hb;subst hb;exact⟨id,cap,e,hm,he,hl⟩
        . cases hb
      . cases hb
    . rintro⟨id,cap,e,hm,he,hl⟩
      refine List.mem_flatMap.2 ⟨id,List.mem_range.2 (hsome id (by rw[hm];simp)),?_⟩;have he':nthE h id=some e:=he;rw[hm,he'];simp[hl]
  obtain⟨T,hT⟩:=hT;have hnew:∀ id b,b∈FP id->(b∈c.F0\/c.w0.heap.size<=b)/\b<w.heap.size:=hW.new
  let c1 : Ctx := { w0 := w, M0 := c.M0, F0 := (List.range h.length).flatMap FP, T0 := T, mu0 := μ, k0 := h.length, nt := c.nt
                    cold0:=fun b hb=>by
                      have h1:=c.cold0 b hb;refine⟨Nat.lt_of_lt_of_le h1.1 hW.keep.size,fun h2 => ?_⟩;obtain⟨id,h2⟩:=(hF b).1 h2;rcases(hnew id b h2).1 with h3|h3
                      . exact h1.2 h3
                      . omega
                    own0:=fun b hb=>by
                      obtain⟨id,h2⟩:=(hF b).1 hb;exact(hnew id b h2).2
                    top0:=fun b hb=>by
                      obtain⟨id,cap,e,hm,he,hl⟩:=(hT b).1 hb;exact(hF b).2 ⟨id,(hW.lt hm he hl).1⟩
                    base0:=fun id L hm=>hsome id (by rw[hm];simp)
                    inv0:=hW.inv
                    invM:=fun b hb=>⟨(c.invM b hb).1,fun h2=>by
                      obtain⟨id,h2⟩:=(hF b).1 h2
                      exact hW.inv_fp hb id h2⟩}
  have h1:WR c1 (Hof h) μ FP w:=⟨⟨rfl,rfl,rfl,Nat.le_refl _,fun _ _ _=>rfl⟩,Map.le_refl _,hW.ent,hW.out,hW.nodup,hW.disj,
    fun id b hb=>⟨.inl ((hF b).2 ⟨id,hb⟩),(hnew id b hb).2⟩,fun id b cap e hm he hl=>.inl ((hT b).2 ⟨id,cap,e,hm,he,hl⟩)⟩
  refine(hD.2 c1 μ FP w vs rfl rfl h1 hd hx).mono ?_;rintro e w' ⟨v,μ',FP',rfl,h2,ht,hr⟩
  have hsz:c.w0.heap.size<=w.heap.size:=hW.keep.size
  refine⟨v,μ',rfl,⟨⟨FP',⟨h2.keep.os.trans hW.keep.os,h2.keep.tape.trans hW.keep.tape,h2.keep.output.trans hW.keep.output,Nat.le_trans hsz h2.keep.size,fun k hk hk2 => ?_⟩,
    hW.base.trans h2.base,h2.ent,h2.out,h2.nodup,h2.disj,fun id b hb => ?_,fun id b cap e hm he hl => ?_⟩,ht,h2.base,h2.keep.size,fun b hb hn hh => ?_,fun b hb hn => ?_⟩,hr⟩
  . refine(h2.keep.block k (Nat.lt_of_lt_of_le hk hsz) fun hkT => ?_).trans (hW.keep.block k hk hk2);obtain⟨id,cap,e,hm,he,hl⟩:=(hT k).1 hkT;rcases hW.top id k cap e hm he hl with h3|h3
    . exact hk2 h3
    . omega
  . have h3:=h2.new id b hb;refine⟨?_,h3.2⟩;rcases h3.1 with h4|h4
    . obtain⟨id',h5⟩:=(hF b).1 h4;exact(hnew id' b h5).1
    . exact .inr (Nat.le_trans hsz h4)
  . rcases h2.top id b cap e hm he hl with h4|h4
    . obtain⟨id',cap',e',hm',he',hl'⟩:=(hT b).1 h4;exact hW.top id' b cap' e' hm' he' hl'
    . exact .inr (Nat.le_trans hsz h4)
  . rcases hh with hh|⟨id,cap,e,hm,he,hl⟩
    . exact hn (.inl hh)
    . rcases h2.top id b cap e hm he hl with h4|h4
      . exact hn (.inr ((hT b).1 h4))
      . exact absurd hb (Nat.not_lt.2 h4)
  . exact h2.keep.block b hb fun hbT=>hn.elim (fun h3=>h3 (.inr ((hT b).1 hbT))) (fun h3=>by cases h3)
theorem WR.grow {h:List Ent} (hW:WR c (Hof h) μ FP w) {w':World} (hg:Grow w w'):WR c (Hof h) μ FP w'/\Trans c.M0 (Hof h) μ w (Hof h) μ w':=
 WR.update (fun _ => False) [] hW (Free.nil _ _ _) hg.os hg.tape hg.output hg.size (fun b hb => .inl (hg.block b hb)) (Map.le_refl _) (fun _ _ _ => rfl) (fun _ _ _ => rfl)
  (fun i L hi hL=>by have hi:=hi.resolve_right id;rw[hi]at hL;cases hL)
  (fun i b cap e hi hm=>by have hi:=hi.resolve_right id;rw[hi]at hm;cases hm)
  (fun i b hi hb=>by have hi:=hi.resolve_right id;rw[hW.out i hi]at hb;simp at hb)
  hW.out (fun i _=>hW.nodup i) (fun i j hij _ _=>hW.disj i j hij)
theorem y60 {h:List Ent} (hd:y6j h=true):∀ (id:Nat) (e:Ent),nthE h id=some e->e.live=false:=by
 induction h with
 | nil=>intro id e he;simp[nthE]at he
 | cons x h ih=>
  intro id e he
  cases x with
  | dead=>
   simp only[y6j]at hd;rw[yib]at he
   cases id with
   | zero=>simp at he;subst he;rfl
   | succ id=>exact ih hd id e (by rw[yib];simpa using he)
  | box _=>simp[y6j]at hd
  | arr _ _ _ _=>simp[y6j]at hd
  | it _ _ _=>simp[y6j]at hd
theorem ycv {h es : List Ent} {D : Dn} {f : FuncId} {xs : List AV} {x : AV} {ob : List Prop} {vs : List Value} (hD : DOk P D) (hW : WR c (Hof h) μ FP w) (hd : Tail h μ)
  (he:yk1 D h f xs=some (x,es,ob)) (ho:allP ob) (hx:RepL w (hot c.M0 (Hof h) μ) xs μ vs []) :
  FnOk P f/\Calls P f vs.toArray w fun e w'=>∃ v μ',e=.returned v/\Next1 c h μ w (h++es) μ' w'/\Rep w' (hot c.M0 (Hof (h++es)) μ') x μ' v []:=by
 unfold yk1 at he
 cases hm:mapO (ydb h 8) xs with
 | none=>simp[hm]at he
 | some p=>
  obtain⟨ys,o1⟩:=p;simp only[hm]at he
  cases hDf:D.d f ys with
  | none=>simp[hDf]at he
  | some q=>
   obtain⟨r,z,o2⟩:=q;simp only[hDf]at he
   have ho':allP o1/\allP o2/\(yac r\/y6j h=true\/ywd xs=true):=by
    cases z<;>simp only[Option.some.injEq,Prod.mk.injEq]at he<;>obtain⟨_,_,rfl⟩:=he<;>
     exact⟨(yn.1 ho).1,(yn.1 (yn.1 ho).2).1,((yn.1 (yn.1 ho).2).2).1⟩
   obtain⟨ho1,ho2,ho3⟩:=ho';have hden:=hD.d f ys r z o2 hDf ho2;refine⟨hden.1,?_⟩
   -- the blocks that stay hot for the callee
   have key:∃ M:Nat->Prop,(∀ b,M b->hot c.M0 (Hof h) μ b)/\RepL w M ys yy vs []/\(yac r\/∀ b,hot c.M0 (Hof h) μ b->M b):=by
    have hcl : RepL w c.M0 ys yy vs [] := y6p (ylh hW (h1 := h) (M' := c.M0) (fun b hb => .inl hb) (fun _ _ h _ => h)
     (fun id b cap e hmu hid hl hb=>by
      have h1:=hW.lt hmu hid hl;have h2:=c.cold0 b hb;rcases(hW.new id b h1.1).1 with h3|h3
      ·exact h2.2 h3
      ·omega) 8) hm ho1 hx
    rcases ho3 with h1|h1|h1
    ·exact⟨c.M0,fun b hb=>.inl hb,hcl,.inl h1⟩
    ·refine⟨c.M0,fun b hb=>.inl hb,hcl,.inr fun b hb => ?_⟩
     rcases hb with hb|⟨id,cap,e,hmu,hid,hl⟩
     ·exact hb
     ·rw[y60 h1 id e hid]at hl;cases hl
    ·refine⟨hot c.M0 (Hof h) μ,fun b hb=>hb,?_,.inr fun b hb=>hb⟩
     rw[yej 8 xs ys o1 h1 hm];exact yrf xs h1 hx
   obtain⟨M,hMh,hys,hres⟩:=key
   have htop:y4 ys vs=[]:=by
    apply List.eq_nil_iff_forall_not_mem.2;intro b hb;have:=ync ys hys b hb;simp at this
   have hys2:RepL w (fun b=>M b\/b∈y4 ys vs) ys yy vs []:=by
    rw[htop];simpa using hys
   cases z with
   | false=>
    simp only[Option.some.injEq,Prod.mk.injEq]at he;obtain⟨rfl,rfl,_⟩:=he
    exact yg2 hW hd [] (h1 := h) rfl (by simp) (by simp) hMh hys2 (by simp) (by simp) (by simp) (by rw [htop]; simp)
     (hres.imp id (fun h b hb=>.inl (h b hb))) hden
   | true=>
    simp only[Option.some.injEq,Prod.mk.injEq]at he;obtain⟨rfl,rfl,_⟩:=he;refine(hden.2 w M vs [] hW.inv (fun b hb=>⟨fun h=>hW.inv_hot hb (hMh b h),by simp⟩) hys2 (by simp) (by simp) (fun b hb=>yes hW (hMh b hb))).mono ?_;rintro e w' ⟨v,fpR,rfl,hK,hr,hRn,hRm,hRt⟩
    rw[htop]at hK;have hg:Grow w w':=⟨hK.os,hK.tape,hK.output,hK.size,fun k hk=>hK.block k hk (by simp)⟩
    obtain⟨hW',hT'⟩:=hW.grow hg
    have hcold:∀ b,b∈fpR->¬ hot c.M0 (Hof h) μ b:=by
     intro b hb hh;have h1:=yes hW hh;have h2:=(hRm b hb).1;simp at h2
     omega
    have hr2:Rep w' (hot c.M0 (Hof h) μ) r yy v fpR:=by
     rcases hres with hnb|hop
     ·exact Rep.noBor r hnb hr
     ·exact Rep.mono r (Map.le_refl _) ⟨Nat.le_refl _,fun b _ hb hh=>hb (.inl (hop b hh)),fun _ _ _=>rfl⟩ hr
    refine⟨v,μ,rfl,?_,?_⟩
    ·rw[List.append_nil]
     exact⟨⟨FP,hW'⟩,hd,hT'⟩
    ·rw[List.append_nil]
     exact(y0m r hcold hr2).ofNoMap
end
end Go.Ab
namespace Go.Ab
open Go
variable [Inv]
def ytf : Op -> Option (Operand × List Operand)
  | .call c => match c.callee with
    | .value f=>some (f,c.args.toList)
    | _=>none
  | _=>none
def ywo (D:Dn) (g:List Bool) (t:List (Nat×AV)) (h:List Ent) (fop:Operand) (args:List Operand):NewR:=
  match al g t fop with
  | .fn f k cs => match D.md f with
    | some ms => match g with
      | [] => match D.hh f (cs.take k ++ args.map (al [] t) ++ cs.drop k) h with
        | some (x,h',ob)=>some (x,h',yab [] t (fop::args)++ob)
        | none => match yl5 D h f ms (cs.take k ++ args.map (al [] t) ++ cs.drop k) with
          | some (x,h',ob)=>some (x,h',yab [] t (fop::args)++ob)
          | none=>none
      | _=>none
    | none => match yk1 D h f (cs.take k ++ args.map (al g t) ++ cs.drop k) with
      | some (x, es, ob) => match g, es with
        | [],es=>some (x,h++es,yab [] t (fop::args)++ob)
        | b::g',[]=>some (.gd (b::g') x,h,impL (b::g') (yab (b::g') t (fop::args)++ob))
        | _,_=>none
      | none=>none
  | _=>none
def litA : NewR -> Option (AV × List Prop)
 | some (.ref id e off n,[.arr _ e' m f],ob)=>some (.sl none e n f,ob++[id=0,off=0,e=e',n<=m,∀ i,i<n->ysd (f i)=true/\yob (f i)])
 | _=>none
def yij (α : Operand -> AV) : List Operand -> Bool
 | []=>true
 | x::xs=>ymd (α x) && yij α xs
def yhs (Γ:Env) (g:List Bool) (t:List (Nat×AV)) (h:List Ent) (op:Op):NewR:=
  match y0g Γ h (al g t) op with
  | some (x,ob)=>some (ysi g x,h,impL g (yab g t (ybo op)++ob))
  | none => match g with
    | [] => match y7f Γ h (al [] t) op with
      | some (x,h',ob)=>some (x,h',yab [] t (ybo op)++ob)
      | none=>none
    | b :: g => bif yij (al (b :: g) t) op.operands.toList then (match litA (y7f Γ [] (al (b :: g) t) op) with
      | some (x,ob)=>some (ysi (b::g) x,h,impL (b::g) (yab (b::g) t (ybo op)++ob))
      | none=>none)else none
def yne (Γ:Env) (D:Dn) (all:Array Oper) (t:List (Nat×AV)) (h:List Ent) (o:Oper):NewR:=
  match ypb all t o.guard with
  | none=>none
  | some g => match o.op with
    | .pick c a b => match yal g t c a b with
      | some (x,ob)=>some (ysi g x,h,impL g ob)
      | none=>none
    | .store t' a x => match g, o.dst with
      | [], none => match yzv Γ h t' (al [] t a) (al [] t x) with
        | some (h',ob)=>some (.any,h',yab [] t [a,x]++ob)
        | none=>none
      | _,_=>none
    | op => match ytf op with
      | some (fop,args)=>ywo D g t h fop args
      | none=>yhs Γ g t h op
section
variable {P:Program} {Γ:Env} {D:Dn} {c:Ctx} {s:St} {μ:Map} {FP:Nat->List Nat} {w:World} {a:Act} {all:Array Oper} {o:Oper}
def yic (c:Ctx) (s:St) (μ:Map) (w:World) (a:Act) (dst:Option Nat) (x:AV) (h':List Ent) (a':Act) (w':World):Prop:=
 ∃ v μ',a'=a.put dst v/\Next1 c s.h μ w h' μ' w'/\Rep w' (hot c.M0 (Hof h') μ') x μ' v []
theorem yqi {M:Nat->Prop} {g:List Bool} {x:AV} {v:Value} (hg:allT g) (h:Rep w M x μ v []):Rep w M (ysi g x) μ v []:=by
 unfold ysi;split
 ·exact h
 ·simp only[Rep]
  exact⟨trivial,fun _=>h,fun hn=>absurd hg hn⟩
theorem yf4 {M:Nat->Prop} {g:List Bool} {x:AV} (hg:¬ allT g):Rep w M (ysi g x) μ undef []:=by
 unfold ysi;split
 ·exact absurd (by simp[allT]) hg
 ·simp only[Rep]
  exact⟨trivial,fun h=>absurd h hg,fun _=>trivial⟩
theorem Next1.same {h:List Ent} (hW:WR c (Hof h) μ FP w) (hd:Tail h μ):Next1 c h μ w h μ w:=⟨⟨FP,hW⟩,hd,Trans.refl _ _ _ _⟩
theorem y6bb (hT:TR c s μ w a) {g:List Bool} (hg:allT g) {x:Operand} (ho:allP (y8i g (opnd s.t x)).2):Rep w (hot c.M0 (Hof s.h) μ) (al g s.t x) μ (a.eval x) []:=
 yte hg (ydf hT x) ho
theorem ybg {ρ:Operand->Value} {z:Value} {w':World} {K:Act->World->Prop} {Q:Exit->Act->World->Prop} (h:(execOp ρ o).run P w=.ok (.value z) w') (he:a.eval=ρ) (hK:K (a.put o.dst z) w') :
  o.wp P a w K Q:=by
 subst he;unfold Oper.wp;rw[h];exact hK
theorem yj5 {g:List Bool} {cc x y:Operand} {r:AV} {ob:List Prop} (hT:TR c s μ w a) (hg:allT g) (he:yal g s.t cc x y=some (r,ob)) (ho:allP ob) :
  ∃ z,(do pure (Next.value (if <- asBool (a.eval cc)then a.eval x else a.eval y)):Sem Next).run P w=.ok (.value z) w/\Rep w (hot c.M0 (Hof s.h) μ) r μ z []:=by
 unfold yal at he;split at he
 ·rename_i bc o1 hc
  split at he
  ·rename_i p o2 q o3 hp hq
   simp only[Option.some.injEq,Prod.mk.injEq]at he;obtain⟨rfl,rfl⟩:=he;obtain⟨ho1,ho23⟩:=yn.1 ho;obtain⟨ho2,ho3⟩:=yn.1 ho23;have hcr:=yte hg (ydf hT cc) (by rw[hc];exact ho1);rw[hc]at hcr;have hcv:=hcr.val_bool;rw[yig]at ho2 ho3
   cases bc with
   | true=>
    have h1:=yte (g:=g++[true]) (by intro b hb;rcases List.mem_append.1 hb with hb|hb;exact hg b hb;simpa using hb) (ydf hT x) (by rw[hp];exact ho2 (by simp[allT]));rw[hp]at h1;refine⟨a.eval x,?_,by simpa using h1⟩;rw[hcv];simp[asBool]
   | false=>
    have h1:=yte (g:=g++[!false]) (by intro b hb;rcases List.mem_append.1 hb with hb|hb;exact hg b hb;simpa using hb) (ydf hT y) (by rw[hq];exact ho3 (by simp[allT]));rw[hq]at h1;refine⟨a.eval y,?_,by simpa using h1⟩;rw[hcv];simp[asBool]
  ·simp at he
 ·simp at he
theorem y6l (hΓ : TyOk P Γ) {h h' : List Ent} {α : Operand -> AV} {ρ : Operand -> Value} {r : AV} {ob : List Prop} (hW : WR c (Hof h) μ FP w) (hd : Tail h μ)
  (he:y7f Γ h α o.op=some (r,h',ob)) (ho:allP ob) (hρ:∀ x,x∈o.op.operands.toList->Rep w (hot c.M0 (Hof h) μ) (α x) μ (ρ x) []) :
  ∃ z μ' w',(execOp ρ o).run P w=.ok (.value z) w'/\Next1 c h μ w h' μ' w'/\Rep w' (hot c.M0 (Hof h') μ') r μ' z []:=by
 have lift:∀ {s:Sem Value} {z:Value} {w':World},s.run P w=.ok z w'->(do pure (Next.value (<- s)):Sem Next).run P w=.ok (.value z) w':=by
  intro s z w' hs;rw[Sem.run_bind,hs];rfl
 obtain⟨dst,op,type,pos,after,guard⟩:=o;simp only at he hρ;unfold y7f at he;split at he
 ·rename_i T x
  obtain⟨z,μ',w',h1,h2,h3⟩:=ysy (P:=P) hW hd he (hρ x (by simp[Op.operands])) T;exact⟨z,μ',w',by simp only[execOp];exact lift h1,h2,h3⟩
 ·rename_i T
  obtain⟨z,μ',w',h1,h2,h3⟩:=y5s (P:=P) hΓ hW hd he;exact⟨z,μ',w',by simp only[execOp];exact lift h1,h2,h3⟩
 ·rename_i T n parts
  have hr:=yeg (M:=hot c.M0 (Hof h) μ) (μ:=μ) (w:=w) (α:=α) (ρ:=ρ) (l:=parts.toList.map (·.2)) (by
   intro x hx
   exact hρ x (by simpa [Op.operands]using hx))
  obtain⟨z,μ',w',h1,h2,h3⟩:=ypo (P:=P) (vals:=parts.toList.map fun p=>(p.1,ρ p.2)) hΓ hW hd he ho (by simp) (by simpa [List.map_map,Function.comp_def]using hr);refine⟨z,μ',w',?_,h2,h3⟩;simp only[execOp]
  have e:(parts.map fun x=>match x with|(i,x)=>(i,ρ x))=(parts.toList.map fun p=>(p.1,ρ p.2)).toArray:=by
   apply Array.ext';simp
  rw[e];exact lift h1
 ·rename_i T l cc
  obtain⟨z,μ',w',h1,h2,h3⟩:=ydt (P:=P) hΓ hW hd he ho (hρ l (by simp[Op.operands])) (hρ cc (by simp[Op.operands]));exact⟨z,μ',w',by simp only[execOp];exact lift h1,h2,h3⟩
 ·rename_i cl
  split at he
  ·rename_i x y t t' hcal hargs hts
   split at he
   ·rename_i htt
    subst htt;have hxm:Rep w (hot c.M0 (Hof h) μ) (α x) μ (ρ x) []:=hρ x (by simp[Op.operands,Call.operands,hcal,hargs]);have hym:Rep w (hot c.M0 (Hof h) μ) (α y) μ (ρ y) []:=hρ y (by simp[Op.operands,Call.operands,hcal,hargs]);obtain⟨z,μ',w',h1,h2,h3⟩:=yrp (P:=P) (ty:=type) hΓ hW hd he ho hxm hym;refine⟨z,μ',w',?_,h2,h3⟩;have ea:cl.args.map ρ = #[ρ x,ρ y]:=by apply Array.ext';simp[hargs]
    have et:cl.argTypes = #[t,t]:=by apply Array.ext';simpa using hts
    simp only[execOp,resolve,hcal,Sem.run_bind,Sem.run_pure,Result.andThen_ok,invoke,builtin,ea,et];rw[h1];rfl
   ·simp at he
  ·rename_i x t hcal hargs hts
   have hxm:Rep w (hot c.M0 (Hof h) μ) (α x) μ (ρ x) []:=hρ x (by simp[Op.operands,Call.operands,hcal,hargs]);obtain⟨z,μ',w',h1,h2,h3⟩:=y7q (P:=P) (ty:=type) hΓ hW hd he ho hxm;refine⟨z,μ',w',?_,h2,h3⟩;have ea:cl.args.map ρ = #[ρ x]:=by apply Array.ext';simp[hargs]
   have et:cl.argTypes = #[t]:=by apply Array.ext';simpa using hts
   simp only[execOp,resolve,hcal,Sem.run_bind,Sem.run_pure,Result.andThen_ok,invoke,builtin,ea,et];rw[h1];rfl
  ·simp at he
 ·rename_i t x
  obtain⟨z,μ',w',h1,h2,h3⟩:=yct (P:=P) hΓ hW hd he ho (hρ x (by simp[Op.operands]));exact⟨z,μ',w',by simp only[execOp];exact lift h1,h2,h3⟩
 ·rename_i x
  obtain⟨z,w',h1,h2,h3⟩:=y6t (P:=P) hW hd he (hρ x (by simp[Op.operands])) type;exact⟨z,μ,w',by simp only[execOp];exact lift h1,h2,h3⟩
 ·simp at he
end
end Go.Ab
namespace Go.Ab
open Go
variable [Inv]
section
variable {P:Program} {Γ:Env} {D:Dn} {c:Ctx} {s:St} {μ:Map} {FP:Nat->List Nat} {w:World} {a:Act} {all:Array Oper} {o:Oper} {Q:Exit->Act->World->Prop}
theorem RepL.app {M : Nat -> Prop} : ∀ {xs ys : List AV} {us vs : List Value}, RepL w M xs μ us [] -> RepL w M ys μ vs [] -> RepL w M (xs ++ ys) μ (us ++ vs) []
 | [],ys,us,vs,h1,h2=>by
  simp only[RepL]at h1;rw[h1.1];simpa using h2
 | x::xs,ys,us,vs,h1,h2=>by
  simp only[RepL,List.cons_append]at h1 ⊢;obtain⟨u,us',f1,f2,rfl,e2,h3,h4⟩:=h1;obtain⟨rfl,rfl⟩:=List.append_eq_nil_iff.1 e2.symm;exact⟨u,us'++vs,[],[],rfl,rfl,h3,RepL.app h4 h2⟩
theorem ycl (hT:TR c s μ w a) {g:List Bool} (hg:allT g):∀ {l:List Operand},allP (yab g s.t l)->∀ x∈l,Rep w (hot c.M0 (Hof s.h) μ) (al g s.t x) μ (a.eval x) []:=
 fun h x hx=>y6bb hT hg (y3j h x hx)
theorem y4q {α : Operand -> AV} : ∀ {l : List Operand}, yij α l = true -> ∀ x ∈ l, ymd (α x) = true
 | [],_,x,h=>by simp at h
 | y::l,hp,x,h=>by
  simp only[yij,Bool.and_eq_true]at hp;rcases List.mem_cons.1 h with rfl|h
  ·exact hp.1
  ·exact y4q hp.2 x h
theorem yt0 (hΓ : TyOk P Γ) {h : List Ent} {α : Operand -> AV} {ρ : Operand -> Value} {y : AV} {ob : List Prop} (hW : WR c (Hof h) μ FP w) (hd : Tail h μ)
  (hpo:yij α o.op.operands.toList=true) (he:litA (y7f Γ [] α o.op)=some (y,ob)) (ho:allP ob) (hρ:∀ x,x∈o.op.operands.toList->Rep w (hot c.M0 (Hof h) μ) (α x) μ (ρ x) []) :
  ∃ z w',(execOp ρ o).run P w=.ok (.value z) w'/\Next1 c h μ w h μ w'/\Rep w' (hot c.M0 (Hof h) μ) y μ z []:=by
 cases hev:y7f Γ [] α o.op with
 | none=>rw[hev]at he;simp[litA]at he
 | some p=>
  obtain⟨x,h',ob1⟩:=p;rw[hev]at he;unfold litA at he;split at he
  ·rename_i id e off n T e' m f ob2 heq
   simp only[Option.some.injEq,Prod.mk.injEq]at heq he;obtain⟨rfl,rfl,rfl⟩:=heq;obtain⟨rfl,rfl⟩:=he;obtain⟨ho1,ho2⟩:=yn.1 ho;simp only[allP,and_true]at ho2;obtain⟨rfl,rfl,rfl,hnm,hpf⟩:=ho2;let c':Ctx:={ w0:=w,M0:=hot c.M0 (Hof h) μ,F0:=[],T0:=[],mu0:=yy,k0:=0,nt:=0,cold0:=fun b hb=>⟨yes hW hb,by simp⟩,own0:=by simp,top0:=by simp,base0:=by simp[yy],inv0:=hW.inv,invM:=fun b hb=>⟨hW.inv_hot hb,by simp⟩}
   have hhot:∀ b,hot c'.M0 (Hof []) yy b->hot c.M0 (Hof h) μ b:=by
    rintro b (hb|⟨id,cap,e,hm,_⟩)
    ·exact hb
    ·cases hm
   have hW':WR c' (Hof []) yy (fun _=>[]) w:=by
    refine⟨⟨rfl,rfl,rfl,Nat.le_refl _,fun _ _ _=>rfl⟩,Map.le_refl _,?_,?_,?_,?_,?_,?_⟩
    ·intro id L hm;cases hm
    ·intro _ _;rfl
    ·intro _;simp
    ·intro i j _ b hb;simp at hb
    ·intro i b hb;simp at hb
    ·intro id b cap e hm;cases hm
   have hop:∀ x,x∈o.op.operands.toList->Rep w (hot c'.M0 (Hof []) yy) (α x) yy (ρ x) []:=fun x hx=>
    Rep.mono _ (Map.le_refl _) ⟨Nat.le_refl _,fun b _ hb hh=>hb (hhot b hh),fun _ _ _=>rfl⟩ (y2v _ (y4q hpo x hx) (hρ x hx))
   obtain⟨z,μ',w',h1,⟨⟨FP',hWn⟩,_,_⟩,h3⟩:=y6l (P:=P) hΓ hW' (fun _ _=>rfl) hev ho1 hop;have hk:=hWn.keep;have hgrow:Grow w w':=⟨hk.os,hk.tape,hk.output,hk.size,fun b hb=>hk.block b hb (by simp[c'])⟩
   obtain⟨hW2,htr⟩:=hW.grow hgrow;refine⟨z,w',h1,⟨⟨FP,hW2⟩,hd,htr⟩,?_⟩;simp only[Rep]at h3;obtain⟨_,h3⟩:=h3
   cases hmu:μ' 0 with
   | none=>simp[hmu]at h3
   | some L=>
    obtain⟨e0,he0,hok⟩:=hWn.ent 0 _ hmu;simp only[Hof,nthE,Option.some.injEq]at he0;subst he0
    cases L with
    | nil=>
     simp only[hmu]at h3;obtain⟨_,rfl,rfl⟩:=h3;simp only[Rep];exact .inl ⟨trivial,.inl rfl,trivial⟩
    | blk b cap=>
     simp only[hmu]at h3;obtain⟨hcap,o',rfl,hoo⟩:=h3;obtain⟨cur,us,fps,hh,hsz,hcap2,hml,hcl,hF⟩:=hok;have ho':o'=0:=by rcases hoo with h|h<;>omega
     subst ho';have hnew:=hWn.new 0 b (by rw[hF];simp);have hb:w.heap.size<=b:=hnew.1.resolve_left (by simp[c']);simp only[Rep];refine .inr ⟨b,0,cap,us,fun _=>[],by simp,⟨by omega,by omega⟩,hnew.2,fun i hi => ?_,fun hh => ?_,trivial,fun _ _=>rfl⟩
     ·obtain⟨d1,d2,d3⟩:=hcl i (by omega)
      obtain⟨p1,p2⟩:=hpf i hi;have hfp:=yob.fp (f i) p2 d1;rw[hfp]at d1;refine⟨RepL.mono (f i) (Map.le_refl _) ⟨Nat.le_refl _,fun b _ hb hh=>hb ?_,fun _ _ _=>rfl⟩ (y2b (μ':=yy) (f i) p1 d1),d2,by simpa using d3⟩;exact .inl hh
     ·have:=yes hW hh
      omega
  ·simp at he
theorem yn0 (hΓ : TyOk P Γ) (hW : WR c (Hof s.h) μ FP w) (hd : Tail s.h μ) (hT : TR c s μ w a) {g : List Bool} (hg : allT g) {x : AV} {h' : List Ent} {ob : List Prop}
  (he:yhs Γ g s.t s.h o.op=some (x,h',ob)) (ho:allP ob):o.wp P a w (yic c s μ w a o.dst x h') Q:=by
 unfold yhs at he;split at he
 ·rename_i y ob' hev
  simp only[Option.some.injEq,Prod.mk.injEq]at he;obtain⟨rfl,rfl,rfl⟩:=he;rw[yig]at ho;obtain⟨ho1,ho2⟩:=yn.1 (ho hg);obtain⟨z,h1,h2⟩:=ydu hΓ hW (h:=s.h) (fun i _ he _=>he) hev ho2 (ρ:=a.eval) (ycl hT hg ho1);exact ybg h1 rfl ⟨z,μ,rfl,Next1.same hW hd,yqi hg h2⟩
 ·split at he
  ·split at he
   ·rename_i y h'' ob' hev
    simp only[Option.some.injEq,Prod.mk.injEq]at he;obtain⟨rfl,rfl,rfl⟩:=he;obtain⟨ho1,ho2⟩:=yn.1 ho;obtain⟨z,μ',w',h1,h2,h3⟩:=y6l (P:=P) hΓ hW hd hev ho2 (ρ:=a.eval) (ycl hT hg ho1);exact ybg h1 rfl ⟨z,μ',rfl,h2,h3⟩
   ·simp at he
  ·rename_i b g' g9
   cases hpo:yij (al (b::g') s.t) o.op.operands.toList with
   | false=>rw[hpo]at he;simp at he
   | true=>
    rw[hpo]at he;simp only[cond_true]at he;split at he
    ·rename_i y ob' hev
     simp only[Option.some.injEq,Prod.mk.injEq]at he;obtain⟨rfl,rfl,rfl⟩:=he;rw[yig]at ho;obtain⟨ho1,ho2⟩:=yn.1 (ho hg);obtain⟨z,w',h1,h2,h3⟩:=yt0 (P:=P) hΓ hW hd hpo hev ho2 (ρ:=a.eval) (ycl hT hg ho1);exact ybg h1 rfl ⟨z,μ,rfl,h2,yqi hg h3⟩
    ·simp at he
theorem ytn {M : Nat -> Prop} : ∀ (k : Nat) {xs : List AV} {us : List Value}, RepL w M xs μ us [] -> RepL w M (xs.take k) μ (us.take k) [] /\ RepL w M (xs.drop k) μ (us.drop k) []
 | 0,xs,us,h=>by simpa [RepL]using h
 | k+1,[],us,h=>by
  simp only[RepL]at h;simp[RepL,h.1]
 | k+1,x::xs,us,h=>by
  simp only[RepL]at h;obtain⟨u,us',f1,f2,rfl,e2,h1,h2⟩:=h;obtain⟨rfl,rfl⟩:=List.append_eq_nil_iff.1 e2.symm;obtain⟨h3,h4⟩:=ytn k h2;simp only[List.take_succ_cons,List.drop_succ_cons,RepL];exact⟨⟨u,_,[],[],rfl,rfl,h1,h3⟩,h4⟩
theorem y8o (hT : TR c s μ w a) {g : List Bool} (hg : allT g) {f : FuncId} {k : Nat} {cs : List AV} {y : AV} {h' : List Ent} {fop : Operand} {args : List Operand} (hc : ytf o.op = some (fop, args)) (hf : al g s.t fop = .fn f k cs)
  (ho1:allP (yab g s.t (fop::args)))
  (hcall:∀ vs,RepL w (hot c.M0 (Hof s.h) μ) (cs.take k++args.map (al g s.t)++cs.drop k) μ vs []->FnOk P f/\Calls P f vs.toArray w fun e w'=>∃ v μ',e=.returned v/\Next1 c s.h μ w h' μ' w'/\Rep w' (hot c.M0 (Hof h') μ') y μ' v []) :
  o.wp P a w (yic c s μ w a o.dst y h') Q:=by
 have hr:=ycl hT hg ho1;have hfr:=hr fop (by simp);rw[hf]at hfr;simp only[Rep]at hfr;obtain⟨_,us,hfv,hus⟩:=hfr;have has:=yeg (M:=hot c.M0 (Hof s.h) μ) (μ:=μ) (w:=w) (α:=al g s.t) (ρ:=a.eval) (l:=args) (fun z hz=>hr z (by simp[hz]));obtain⟨husT,husD⟩:=ytn k hus;have hall:=RepL.app (RepL.app husT has) husD;obtain⟨hok,hcalls⟩:=hcall _ hall;obtain⟨fn,hfn,hname,hbody⟩:=hok
 have hrun:(execOp a.eval o).run P w=.ok (.enter f (us.take k++args.map a.eval++us.drop k).toArray) w:=by
  unfold ytf at hc;split at hc
  ·rename_i cl hop
   split at hc
   ·rename_i fo hcal
    simp only[Option.some.injEq,Prod.mk.injEq]at hc;obtain⟨rfl,rfl⟩:=hc;simp only[execOp,hop,resolve,hcal,hfv,Deferred.ofValue,Sem.run_bind,Sem.run_pure,Result.andThen_ok,invoke,callFunc,run_program,hfn,hname,hbody]
    have e:(us.take k).toArray++cl.args.map a.eval++(us.drop k).toArray=(us.take k++cl.args.toList.map a.eval++us.drop k).toArray:=by
     apply Array.ext';simp
    rw[e];rfl
   ·simp at hc
  ·simp at hc
 unfold Oper.wp;rw[hrun];show Calls P f _ w _;refine hcalls.mono ?_;rintro e w' ⟨v,μ',rfl,h1,h2⟩
 exact⟨v,μ',rfl,h1,h2⟩
theorem y70 (hD : DOk P D) (hW : WR c (Hof s.h) μ FP w) (hd : Tail s.h μ) (hT : TR c s μ w a) {g : List Bool} (hg : allT g) {x : AV} {h' : List Ent} {ob : List Prop} {fop : Operand} {args : List Operand}
  (hc:ytf o.op=some (fop,args)) (he:ywo D g s.t s.h fop args=some (x,h',ob)) (ho:allP ob):o.wp P a w (yic c s μ w a o.dst x h') Q:=by
 unfold ywo at he;split at he
 ·rename_i f k cs hf
  split at he
  ·rename_i ms hmd
   split at he
   ·split at he
    ·rename_i y h'' ob' hcl
     simp only[Option.some.injEq,Prod.mk.injEq]at he;obtain⟨rfl,rfl,rfl⟩:=he;obtain⟨ho1,ho2⟩:=yn.1 ho;exact y8o hT hg hc hf ho1 fun vs hvs=>ywu hW hd (hD.hh _ _ _ _ _ _ hcl ho2) hvs
    ·split at he
     ·rename_i y h'' ob' hcl
      simp only[Option.some.injEq,Prod.mk.injEq]at he;obtain⟨rfl,rfl,rfl⟩:=he;obtain⟨ho1,ho2⟩:=yn.1 ho;exact y8o hT hg hc hf ho1 fun vs hvs=>ywt hD hW hd hcl ho2 hvs
     ·simp at he
   ·simp at he
  ·split at he
   ·rename_i y es ob' hcl
    have main:allP (yab g s.t (fop::args))->allP ob'->o.wp P a w (yic c s μ w a o.dst y (s.h++es)) Q:=fun ho1 ho2=>
     y8o hT hg hc hf ho1 fun vs hvs=>ycv hD hW hd hcl ho2 hvs
    split at he
    ·simp only[Option.some.injEq,Prod.mk.injEq]at he
     obtain⟨rfl,rfl,rfl⟩:=he;obtain⟨ho1,ho2⟩:=yn.1 ho;exact main ho1 ho2
    ·simp only[Option.some.injEq,Prod.mk.injEq]at he
     obtain⟨rfl,rfl,rfl⟩:=he;rw[yig]at ho;obtain⟨ho1,ho2⟩:=yn.1 (ho hg);refine Oper.wp_mono ?_ (main ho1 ho2);rintro a' w' ⟨v,μ',h1,h2,h3⟩
     rw[List.append_nil]at h2 h3;exact⟨v,μ',h1,h2,yqi (g:=_::_) hg h3⟩
    ·simp at he
   ·simp at he
 ·simp at he
theorem y1w (hΓ : TyOk P Γ) (hD : DOk P D) (hW : WR c (Hof s.h) μ FP w) (hd : Tail s.h μ) (hT : TR c s μ w a) {x : AV} {h' : List Ent} {ob : List Prop}
  (he:yne Γ D all s.t s.h o=some (x,h',ob)) (ho:allP ob) :
  if Region.wanted o (yielded all a.tmps)then o.wp P a w (yic c s μ w a o.dst x h') Q else yic c s μ w a o.dst x h' (a.put o.dst undef) w:=by
 unfold yne at he
 cases hgd:ypb all s.t o.guard with
 | none=>simp[hgd]at he
 | some g=>
  simp only[hgd]at he;have hwant:=y7d hT hgd;split
  ·rename_i hwt
   have hg:=hwant.1 hwt;split at he
   ·rename_i cc y z hop
    split at he
    ·rename_i r ob' hp
     simp only[Option.some.injEq,Prod.mk.injEq]at he;obtain⟨rfl,rfl,rfl⟩:=he;rw[yig]at ho;obtain⟨v,h1,h2⟩:=yj5 (P:=P) hT hg hp (ho hg);exact ybg (by simp only[execOp,hop];exact h1) rfl ⟨v,μ,rfl,Next1.same hW hd,yqi hg h2⟩
    ·simp at he
   ·rename_i t' y z hop
    split at he
    ·rename_i hdst
     split at he
     ·rename_i h'' ob' hst
      simp only[Option.some.injEq,Prod.mk.injEq]at he;obtain⟨rfl,rfl,rfl⟩:=he;obtain⟨ho1,ho2⟩:=yn.1 ho;have hr:=ycl hT hg ho1;obtain⟨w',h1,h2⟩:=y9s (P:=P) hΓ hW hd hst ho2 (hr y (by simp)) (hr z (by simp));unfold Oper.wp
      have hrun:(execOp a.eval o).run P w=.ok .skip w':=by
       simp only[execOp,hop];rw[Sem.run_bind,h1];rfl
      rw[hrun];show yic c s μ w a o.dst .any h'' (a.put o.dst undef) w';exact⟨undef,μ,rfl,h2,by simp[Rep]⟩
     ·simp at he
    ·simp at he
   ·split at he
    ·rename_i fop args hc
     exact y70 hD hW hd hT hg hc he ho
    ·exact yn0 hΓ hW hd hT hg he ho
  ·rename_i hwt
   have hg:¬ allT g:=fun h=>hwt (hwant.2 h)
   have same:∀ {y:AV},x=ysi g y->h'=s.h->yic c s μ w a o.dst x h' (a.put o.dst undef) w:=by
    rintro y rfl rfl
    exact⟨undef,μ,rfl,Next1.same hW hd,yf4 hg⟩
   have hne:g≠[]:=by rintro rfl;exact hg (by simp[allT])
   split at he
   ·split at he
    ·simp only[Option.some.injEq,Prod.mk.injEq]at he
     exact same he.1.symm he.2.1.symm
    ·simp at he
   ·split at he
    ·exact absurd rfl hne
    ·simp at he
   ·split at he
    ·unfold ywo at he
     split at he
     ·split at he
      ·split at he
       ·exact absurd rfl hne
       ·simp at he
      ·split at he
       ·split at he
        ·exact absurd rfl hne
        ·simp only[Option.some.injEq,Prod.mk.injEq]at he
         exact same he.1.symm he.2.1.symm
        ·simp at he
       ·simp at he
     ·simp at he
    ·unfold yhs at he
     split at he
     ·simp only[Option.some.injEq,Prod.mk.injEq]at he
      exact same he.1.symm he.2.1.symm
     ·split at he
      ·exact absurd rfl hne
      ·rename_i b g' g9
       cases hpo:yij (al (b::g') s.t) o.op.operands.toList with
       | false=>rw[hpo]at he;simp at he
       | true=>
        rw[hpo]at he;simp only[cond_true]at he;split at he
        ·simp only[Option.some.injEq,Prod.mk.injEq]at he
         exact same he.1.symm he.2.1.symm
        ·simp at he
end
end Go.Ab
namespace Go.Ab
open Go
variable [Inv]
def yif (Γ:Env) (D:Dn) (all:Array Oper) (t:List (Nat×AV)) (h:List Ent) (o:Oper):Option (AV×List Prop):=
  match ypb all t o.guard with
  | none=>none
  | some g => match o.op with
    | .pick c a b => match yal g t c a b with
      | some (x,ob)=>some (ysi g x,impL g ob)
      | none=>none
    | .store _ _ _=>none
    | op => match ytf op with
      | some (fop, args) => match al g t fop with
        | .fn f k cs => match D.md f with
          | some _=>none
          | none => match yk1 D h f (cs.take k ++ args.map (al g t) ++ cs.drop k) with
            | some (x,[],ob)=>some (ysi g x,impL g (yab g t (fop::args)++ob))
            | _=>none
        | _=>none
      | none => match y0g Γ h (al g t) op with
        | some (x,ob)=>some (ysi g x,impL g (yab g t (ybo op)++ob))
        | none=>none
theorem ylp {ps:List Prop}:allP (impL [] ps)↔allP ps:=by rw[yig];simp[allT]
theorem yrt {Γ : Env} {D : Dn} {all : Array Oper} {t : List (Nat × AV)} {h : List Ent} {o : Oper} {g : List Bool} (hgd : ypb all t o.guard = some g)
  (hn1:∀ c a b,o.op=.pick c a b->False) (hn2:∀ t a x,o.op=.store t a x->False) :
  yne Γ D all t h o=(match ytf o.op with|some (fop,args)=>ywo D g t h fop args|none=>yhs Γ g t h o.op):=by
 obtain⟨dst,op,type,pos,after,guard⟩:=o;simp only at hgd hn1 hn2;unfold yne;simp only[hgd];all_goals cases op
 all_goals first
  | rfl
  | exact absurd rfl (hn1 _ _ _)
  | exact absurd rfl (hn2 _ _ _)
theorem yll {Γ:Env} {D:Dn} {all:Array Oper} {t:List (Nat×AV)} {h:List Ent} {o:Oper} {x:AV} {ob:List Prop} (hq:yif Γ D all t h o=some (x,ob)) :
  ∃ ob',yne Γ D all t h o=some (x,h,ob')/\(allP ob->allP ob'):=by
 unfold yif at hq
 cases hgd:ypb all t o.guard with
 | none=>simp[hgd]at hq
 | some g=>
  simp only[hgd]at hq;split at hq
  ·rename_i c a b hop
   split at hq
   ·rename_i y ob' hp
    simp only[Option.some.injEq,Prod.mk.injEq]at hq;obtain⟨rfl,rfl⟩:=hq;exact⟨impL g ob',by unfold yne;simp only[hgd,hop,hp],id⟩
   ·simp at hq
  ·simp at hq
  ·rename_i hn1 hn2
   rw[yrt hgd hn1 hn2];split at hq
   ·rename_i fop args hc
    split at hq
    ·rename_i f k cs hf
     split at hq
     ·simp at hq
     ·rename_i hmd
      split at hq
      ·rename_i y ob' hcl
       simp only[Option.some.injEq,Prod.mk.injEq]at hq;obtain⟨rfl,rfl⟩:=hq
       cases g with
       | nil=>exact⟨yab [] t (fop::args)++ob',by simp only[ywo,hf,hcl,hmd,ysi,List.append_nil],fun h=>ylp.1 h⟩
       | cons b g=>exact⟨_,by simp only[ywo,hf,hcl,hmd,ysi],id⟩
      ·simp at hq
    ·simp at hq
   ·split at hq
    ·rename_i y ob' hev
     simp only[Option.some.injEq,Prod.mk.injEq]at hq;obtain⟨rfl,rfl⟩:=hq;exact⟨_,by simp only[yhs,hev],id⟩
    ·simp at hq
def yu0 (l:List Nat) (t t':List (Nat×AV)):Prop:=∀ i,i∈l->get t i=get t' i
theorem yve {l:List Nat} {t t':List (Nat×AV)} (ha:yu0 l t t') {x:Operand} (hx:∀ i,x=.tmp i->i∈l):opnd t x=opnd t' x:=by
 cases x with
 | tmp i=>exact ha i (hx i rfl)
 | const v=>rfl
 | func f=>rfl
 | global g=>rfl
theorem y9b {l : List Nat} {t t' : List (Nat × AV)} (ha : yu0 l t t') (g : List Bool) : ∀ {xs : List Operand}, (∀ x ∈ xs, ∀ i, x = .tmp i -> i ∈ l) -> yab g t xs = yab g t' xs
 | [],_=>rfl
 | x::xs,hx=>by
  have h1:=y9b ha g (xs:=xs) fun y hy=>hx y (List.mem_cons_of_mem _ hy)
  simp only[yab,yve ha (hx x (by simp)),h1]
theorem yjl {Γ:Env} {h:List Ent} {α β:Operand->AV} {op:Op} (ha:∀ x,x∈op.operands.toList->α x=β x):y0g Γ h α op=y0g Γ h β op:=by
  cases op
  case call cl=>
    simp only[y0g,y62]
    cases hcal:cl.callee with
    | builtin b=>
      have:cl.args.toList.map α=cl.args.toList.map β:=List.map_congr_left fun x hx=>ha x (by simp[Op.operands,Call.operands,hcal,hx])
      simp only[this]
    | value f=>rfl
    | invoke r n=>rfl
  case build t parts=>
    simp only[y0g]
    have:(parts.toList.map fun p=>(p.1,α p.2))=(parts.toList.map fun p=>(p.1,β p.2)):=List.map_congr_left fun p hp=>by
      rw[ha p.2 (by simp only[Op.operands];exact List.mem_map.2 ⟨p,hp,rfl⟩)]
    rw[this]
  case makeFunc fn fst caps=>
    simp only[y0g];have:caps.toList.map α=caps.toList.map β:=List.map_congr_left fun x hx=>ha x (by simp only[Op.operands,Array.toList_append];exact List.mem_append_right _ hx)
    have h2:fst.toList.map α=fst.toList.map β:=List.map_congr_left fun x hx=>ha x (by simp only[Op.operands,Array.toList_append];exact List.mem_append_left _ hx)
    rw[this,h2]
  case slice t x lo hi mx=>
    cases mx with
    | none=>
      simp only[y0g];have h1:α x=β x:=ha x (by simp[Op.operands])
      have h2:omap α lo=omap β lo:=by
        cases lo with
        | none=>rfl
        | some y=>simp only[omap];rw[ha y (by simp[Op.operands])]
      have h3:omap α hi=omap β hi:=by
        cases hi with
        | none=>rfl
        | some y=>simp only[omap];rw[ha y (by simp[Op.operands])]
      rw[h1,h2,h3]
    | some m=>rfl
  all_goals first
    | rfl
    | (simp only [Op.operands] at ha
       simp only[y0g]
       simp[ha])
theorem yyj {all:Array Oper} {o:Oper} {x:Operand} (hx:x∈o.op.operands.toList) (i:Nat) (he:x=.tmp i):i∈o.looksAt all:=by
 subst he;unfold Oper.looksAt;apply List.mem_append_left;rw[List.mem_filterMap];exact⟨_,hx,rfl⟩
theorem yci {all:Array Oper} {o:Oper} {t t':List (Nat×AV)} (ha:yu0 (o.looksAt all) t t'):ypb all t o.guard=ypb all t' o.guard:=by
 cases hg:o.guard with
 | none=>rfl
 | some p=>
  obtain⟨j,want⟩:=p;simp only[ypb]
  cases hj:all[j]? with
  | none=>rfl
  | some oj=>
   simp only
   cases hd:oj.dst with
   | none=>rfl
   | some d=>
    simp only
    rw[ha d (by
     unfold Oper.looksAt;apply List.mem_append_right
     simp[hg,hj,hd])]
theorem yfm {Γ:Env} {D:Dn} {all:Array Oper} {t t':List (Nat×AV)} {h:List Ent} {o:Oper} (ha:yu0 (o.looksAt all) t t'):yif Γ D all t h o=yif Γ D all t' h o:=by
 have hop:∀ x∈o.op.operands.toList,∀ i,x=.tmp i->i∈o.looksAt all:=fun x hx i he=>yyj hx i he
 have hal:∀ g x,x∈o.op.operands.toList->al g t x=al g t' x:=fun g x hx=>by
  unfold al;rw[yve ha (hop x hx)]
 unfold yif;rw[yci ha]
 cases hgd:ypb all t' o.guard with
 | none=>rfl
 | some g=>
  simp only;split
  ·rename_i c a b hope
   have h1:∀ x,x=c\/x=a\/x=b->opnd t x=opnd t' x:=fun x hx=>yve ha (hop x (by rw[hope];simpa [Op.operands]using hx))
   have:yal g t c a b=yal g t' c a b:=by
    unfold yal;rw[h1 c (by simp),h1 a (by simp),h1 b (by simp)]
   rw[this]
  ·rfl
  ·have hst:yab g t (ybo o.op)=yab g t' (ybo o.op):=y9b ha g hop
   have hev:y0g Γ h (al g t) o.op=y0g Γ h (al g t') o.op:=yjl fun x hx=>hal g x hx
   cases hc:ytf o.op with
   | none=>
    simp only;rw[hev,hst]
   | some p=>
    obtain⟨fop,args⟩:=p
    have hmem:∀ x,x∈fop::args->x∈o.op.operands.toList:=by
     intro x hx;unfold ytf at hc;split at hc
     ·rename_i cl hope
      split at hc
      ·rename_i fo hcal
       simp only[Option.some.injEq,Prod.mk.injEq]at hc;obtain⟨rfl,rfl⟩:=hc;rw[hope];simpa [Op.operands,Call.operands,hcal]using hx
      ·simp at hc
     ·simp at hc
    simp only
    rw[hal g fop (hmem fop (by simp)),y9b ha g (xs:=fop::args) (fun x hx=>hop x (hmem x hx)),
     List.map_congr_left (f:=al g t) (g:=al g t') (l:=args) fun x hx=>hal g x (hmem x (by simp[hx]))]
end Go.Ab
namespace Go.Ab
open Go
variable [Inv]
def runA (Γ : Env) (D : Dn) (all : Array Oper) : List Oper -> List (Nat × AV) -> List Ent -> Option (List (Nat × AV) × List Ent × List Prop)
  | [],t,h=>some (t,h,[])
  | o :: os, t, h => match yne Γ D all t h o with
    | some (x, h', ob) => match runA Γ D all os (put t o.dst x) h' with
      | some (t'',h'',ob')=>some (t'',h'',ob++ob')
      | none=>none
    | none=>none
def runQ (Γ : Env) (D : Dn) (all : Array Oper) (h : List Ent) : List Oper -> List (Nat × AV) -> Option (List (Nat × AV) × List Prop)
  | [],t=>some (t,[])
  | o :: os, t => match yif Γ D all t h o with
    | some (x, ob) => match runQ Γ D all h os (put t o.dst x) with
      | some (t',ob')=>some (t',ob++ob')
      | none=>none
    | none=>none
def y1g (nt : Nat) (ops : List Oper) : Bool := ops.all fun o => match o.dst with
 | some d=>Nat.blt d nt
 | none=>true
section
variable {P:Program} {Γ:Env} {D:Dn} {c:Ctx} {s:St} {μ:Map} {FP:Nat->List Nat} {w:World} {a:Act} {all:Array Oper} {o:Oper} {Q:Exit->Act->World->Prop}
theorem yic.wrs {x:AV} {h':List Ent} {a':Act} {w':World} (hT:TR c s μ w a) (hd:∀ d,o.dst=some d->d<c.nt) (hb:yic c s μ w a o.dst x h' a' w'):WRs c ⟨put s.t o.dst x,h'⟩ a' w':=by
 obtain⟨v,μ',rfl,hN,hx⟩:=hb;obtain⟨FP',hW⟩:=hN.wr;exact⟨μ',FP',hW,hN.tail,TR.put hT hN.tr hd hx⟩
theorem ytp (hΓ : TyOk P Γ) (hD : DOk P D) (hs : WRs c s a w) {x : AV} {h' : List Ent} {ob : List Prop} (he : yne Γ D all s.t s.h o = some (x, h', ob)) (ho : allP ob)
  (hd:∀ d,o.dst=some d->d<c.nt) {K:Act->World->Prop} (hK:∀ a w,WRs c ⟨put s.t o.dst x,h'⟩ a w->K a w) :
  if Region.wanted o (yielded all a.tmps)then o.wp P a w K Q else K (a.put o.dst undef) w:=by
 obtain⟨μ,FP,hW,hdd,hT⟩:=hs;have h:=y1w (Q:=Q) hΓ hD hW hdd hT he ho;split
 ·rename_i hw
  rw[if_pos hw]at h;exact Oper.wp_mono (fun a' w' hb=>hK a' w' (yic.wrs hT hd hb)) h
 ·rename_i hw
  rw[if_neg hw]at h;exact hK _ _ (yic.wrs hT hd h)
theorem yzm {nt:Nat} {o:Oper} {os:List Oper} (h:y1g nt (o::os)=true):(∀ d,o.dst=some d->d<nt)/\y1g nt os=true:=by
 simp only[y1g,List.all_cons,Bool.and_eq_true]at h;refine⟨fun d hd => ?_,h.2⟩;have:=h.1;rw[hd]at this;simpa using this
theorem ygr (hΓ:TyOk P Γ) (hD:DOk P D):∀ {os:List Oper} {s:St} {a:Act} {w:World} {t':List (Nat×AV)} {h':List Ent} {ob:List Prop},WRs c s a w->runA Γ D all os s.t s.h=some (t',h',ob)->allP ob ->
  y1g c.nt os=true->(∀ a w,WRs c ⟨t',h'⟩ a w->Q .normal a w)->wpList P all Q os a w
 | [],s,a,w,t',h',ob,hs,hr,ho,hd,hQ=>by
  simp only[runA,Option.some.injEq,Prod.mk.injEq]at hr;obtain⟨rfl,rfl,_⟩:=hr;exact hQ a w hs
 | o::os,s,a,w,t',h',ob,hs,hr,ho,hd,hQ=>by
  simp only[runA]at hr
  cases h1:yne Γ D all s.t s.h o with
  | none=>simp[h1]at hr
  | some p=>
   obtain⟨x,h2,ob1⟩:=p;simp only[h1]at hr
   cases h3:runA Γ D all os (put s.t o.dst x) h2 with
   | none=>simp[h3]at hr
   | some q=>
    obtain⟨t3,h3',ob3⟩:=q;simp only[h3,Option.some.injEq,Prod.mk.injEq]at hr;obtain⟨rfl,rfl,rfl⟩:=hr;obtain⟨ho1,ho2⟩:=yn.1 ho;have hd':=yzm hd;refine wpList_step fun K hK => ?_
    have h4:=ytp (Q:=Q) (K:=K) hΓ hD hs h1 ho1 hd'.1 (fun a' w' hs'=>hK a' w' (ygr hΓ hD (s:=⟨put s.t o.dst x,h2⟩) hs' h3 ho2 hd'.2 hQ));exact h4
theorem yhy (hΓ : TyOk P Γ) (hD : DOk P D) {id : Nat} {ops : Array Oper} {t' : List (Nat × AV)} {h' : List Ent} {ob : List Prop} (hs : WRs c s a w) (hr : runA Γ D ops ops.toList s.t s.h = some (t', h', ob)) (ho : allP ob)
  (hd:y1g c.nt ops.toList=true) (hQ:∀ a w,WRs c ⟨t',h'⟩ a w->Q .normal a w):(Code.region id ops false).wp P Q a w:=
 wp_region_list (ygr hΓ hD hs hr ho hd hQ)
end
end Go.Ab
namespace Go.Ab
open Go
variable [Inv]
def dirB (ops : Array Oper) (k j : Nat) : Bool := match ops[k]? with
 | some o=>o.after.any fun e=>Region.binds .any e && Nat.beq e.on j
 | none=>false
def yzf (ops : Array Oper) : Nat -> Nat -> Nat -> Bool
 | 0,k,j=>dirB ops k j
 | f+1,k,j=>dirB ops k j || (List.range k).any fun l=>dirB ops k l && yzf ops f l j
def ys1 (ops:Array Oper) (m i:Nat) (o:Oper):Bool:=
  (match o.dst with
    | some d => !(o.looksAt ops).contains d
    | none=>true) &&
  (List.range m).all fun j => Nat.beq j i || match ops[j]? with
    | some oj => match oj.dst with
      | some d=>(o.dst != some d) && (!(o.looksAt ops).contains d || (Nat.blt j i && dirB ops i j))
      | none=>true
    | none=>true
def yaf (ops:Array Oper) (m:Nat):Bool:=
 Nat.ble m ops.size && (List.range ops.size).all fun i => match ops[i]? with
  | none=>false
  | some o=>(o.after.all fun e => !Region.binds .any e || Nat.blt e.on i) && (bif Nat.blt i m then ys1 ops m i o else(List.range i).all fun j=>yzf ops 3 i j)
structure AnyOk (ops:Array Oper) (m:Nat):Prop where
 le:m<=ops.size
 back:∀ (i:Nat) (o:Oper),ops[i]? = some o->∀ e∈o.after,Region.binds .any e=true->e.on<i
 own:∀ (i:Nat) (o:Oper),ops[i]? = some o->i<m->∀ d,o.dst=some d->d∉o.looksAt ops
 apart:∀ (i j:Nat) (o oj:Oper) (d:Nat),ops[i]? = some o->ops[j]? = some oj->i<m->j<m->j≠i->oj.dst=some d->o.dst≠some d/\(d∈o.looksAt ops->j<i/\dirB ops i j=true)
 late:∀ i,m<=i->i<ops.size->∀ j,j<i->yzf ops 3 i j=true
theorem ymm {ops:Array Oper} {m:Nat} (h:yaf ops m=true):AnyOk ops m:=by
  simp only[yaf,Bool.and_eq_true,List.all_eq_true,List.mem_range]at h;obtain⟨hm,h⟩:=h
  have hi:∀ (i:Nat) (o:Oper),ops[i]? = some o->(o.after.all fun e => !Region.binds .any e || Nat.blt e.on i)=true/\(bif Nat.blt i m then ys1 ops m i o else(List.range i).all fun j=>yzf ops 3 i j)=true:=by
    intro i o ho
    have hlt:i<ops.size:=by
      rcases Nat.lt_or_ge i ops.size with h|h
      . exact h
      . rw[Array.getElem?_eq_none h]at ho;cases ho
    have:=h i hlt;rw[ho]at this;simpa only[Bool.and_eq_true]using this
  have hearly:∀ (i:Nat) (o:Oper),ops[i]? = some o->i<m->ys1 ops m i o=true:=by
    intro i o ho him;have:=(hi i o ho).2;rw[show Nat.blt i m=true by simpa using him]at this;exact this
  refine⟨by simpa using hm,?_,?_,?_,?_⟩
  . intro i o ho e he hb;have:=(hi i o ho).1;rw[Array.all_eq_true_iff_forall_mem]at this;have:=this e he;rw[hb]at this;simpa using this
  . intro i o ho him d hd;have:=hearly i o ho him;simp only[ys1,Bool.and_eq_true]at this;have:=this.1;rw[hd]at this;simpa using this
  . intro i j o oj d ho hoj him hjm hji hd;have:=hearly i o ho him;simp only[ys1,Bool.and_eq_true,List.all_eq_true,List.mem_range]at this;have:=this.2 j hjm;rw[hoj]at this;simp only[hd,Bool.or_eq_true,Bool.and_eq_true]at this;rcases this with h1|h1
    . exact absurd (by simpa using h1) hji
    . refine⟨by simpa using h1.1,fun hdm => ?_⟩;rcases h1.2 with h2|h2
      . simp[hdm]at h2
      . exact⟨by simpa using h2.1,h2.2⟩
  . intro i him hlt j hj;have h1:=(hi i _ (Array.getElem?_eq_getElem hlt)).2
    have hb:Nat.blt i m=false:=by
      cases hq:Nat.blt i m with
      | false=>rfl
      | true => have : i < m := by simpa using hq
                omega
    rw[hb]at h1;simp only[cond_false,List.all_eq_true,List.mem_range]at h1;exact h1 j hj
def unl (listed : Array Bool) : Nat -> Nat
 | 0=>0
 | k+1=>unl listed k+bif listed.getD k true then 0 else 1
theorem ycc {listed:Array Bool} {i j:Nat} (hi:i<listed.size) (b:Bool):(listed.setIfInBounds i true).getD j b=if j=i then true else listed.getD j b:=by
 simp only[Array.getD_eq_getD_getElem?];by_cases h:j=i
 ·subst h
  simp[hi]
 ·rw[Array.getElem?_setIfInBounds_ne (fun e=>h e.symm),if_neg h]
theorem y8t {listed : Array Bool} {i : Nat} (hi : i < listed.size) (hu : listed.getD i true = false) : ∀ k, unl (listed.setIfInBounds i true) k + (if i < k then 1 else 0) = unl listed k
 | 0=>by simp[unl]
 | k+1=>by
  have ih:=y8t hi hu k;simp only[unl,ycc hi];by_cases h:k=i
  ·subst h
   rw[if_pos rfl,hu];simp at ih ⊢
   omega
  ·rw[if_neg h]
   by_cases h2:i<k
   ·rw[if_pos h2]at ih
    rw[if_pos (by omega)];omega
   ·rw[if_neg h2]at ih
    rw[if_neg (by omega)];omega
theorem y9p {listed : Array Bool} : ∀ {k : Nat}, unl listed k = 0 -> ∀ i, i < k -> listed.getD i true = true
 | 0,_,i,hi=>by omega
 | k+1,h,i,hi=>by
  simp only[unl]at h;by_cases h2:i=k
  ·subst h2
   cases hl:listed.getD i true with
   | true=>rfl
   | false=>rw[hl]at h;simp at h
  ·exact y9p (k:=k) (by omega) i (by omega)
theorem y4d {ops : Array Oper} {listed : Array Bool} {i : Nat} : i ∈ Region.ready .any ops listed ↔
  ∃ o,ops[i]? = some o/\listed.getD i true=false/\∀ e∈o.after,Region.binds .any e=true->listed.getD e.on false=true:=by
 unfold Region.ready;rw[List.mem_filter];constructor
 ·rintro⟨h1,h2⟩
  have hlt:=List.mem_range.1 h1;rw[Array.getElem?_eq_getElem hlt]at h2 ⊢;simp only[Option.map_some,Option.getD_some,Bool.and_eq_true,Bool.not_eq_true']at h2;refine⟨_,rfl,h2.1,fun e he hb => ?_⟩;have:=(Array.all_eq_true_iff_forall_mem.1 h2.2) e he;rw[hb]at this;simpa using this
 ·rintro⟨o,ho,h1,h2⟩
  have hlt:i<ops.size:=by
   rcases Nat.lt_or_ge i ops.size with h|h
   ·exact h
   ·rw[Array.getElem?_eq_none h]at ho;cases ho
  refine⟨List.mem_range.2 hlt,?_⟩;rw[ho];simp only[Option.map_some,Option.getD_some,Bool.and_eq_true,Bool.not_eq_true'];refine⟨h1,Array.all_eq_true_iff_forall_mem.2 fun e he => ?_⟩
  cases hb:Region.binds .any e with
  | false=>rfl
  | true=>simp[h2 e he hb]
def yfq (ops:Array Oper) (listed:Array Bool):Prop:=∀ (i:Nat) (o:Oper),ops[i]? = some o->listed.getD i true=true->∀ e∈o.after,Region.binds .any e=true->listed.getD e.on false=true
theorem ymi {ops:Array Oper} {k j:Nat}:dirB ops k j=true↔∃ o,ops[k]? = some o/\∃ e∈o.after,Region.binds .any e=true/\e.on=j:=by
 unfold dirB;constructor
 ·intro h
  split at h
  ·rename_i o ho
   rw[<- Array.any_toList,List.any_eq_true]at h;obtain⟨e,he,h2⟩:=h;have he:=Array.mem_toList_iff.1 he;simp only[Bool.and_eq_true]at h2;exact⟨o,ho,e,he,h2.1,Nat.eq_of_beq_eq_true h2.2⟩
  ·cases h
 ·rintro⟨o,ho,e,he,h1,h2⟩
  rw[ho];simp only;rw[<- Array.any_toList,List.any_eq_true];exact⟨e,Array.mem_toList_iff.2 he,by simp[h1,h2]⟩
theorem yyc {ops : Array Oper} {listed : Array Bool} (hsz : listed.size = ops.size) (hc : yfq ops listed) : ∀ (f k j : Nat), (∀ l, dirB ops k l = true -> listed.getD l false = true) -> yzf ops f k j = true -> listed.getD j false = true
 | 0,k,j,hk,h=>hk j h
 | f+1,k,j,hk,h=>by
  simp only[yzf,Bool.or_eq_true,List.any_eq_true,Bool.and_eq_true]at h;rcases h with h|⟨l,_,h1,h2⟩
  ·exact hk j h
  ·refine yyc hsz hc f l j (fun l' hl' => ?_) h2
   obtain⟨o,ho,e,he,hb,rfl⟩:=ymi.1 hl';have hl:=hk l h1
   have hlt:l<ops.size:=by
    rcases Nat.lt_or_ge l ops.size with h|h
    ·exact h
    ·rw[Array.getElem?_eq_none h]at ho;cases ho
   refine hc l o ho ?_ e he hb;have hlt2:l<listed.size:=by omega
   simpa [Array.getD_eq_getD_getElem?,hlt2]using hl
end Go.Ab
namespace Go.Ab
open Go
variable [Inv]
section
variable {P:Program} {Γ:Env} {D:Dn} {c:Ctx} {h:List Ent} {all:Array Oper} {Q:Exit->Act->World->Prop}
theorem y7k:∀ {os:List Oper} {t t':List (Nat×AV)} {ob:List Prop},runQ Γ D all h os t=some (t',ob)->allP ob ->
  ∃ (T:Nat->List (Nat×AV)) (X:Nat->AV),T 0=t/\T os.length=t'/\∀ (i:Nat) (o:Oper),os[i]? = some o->(∃ ob',yif Γ D all (T i) h o=some (X i,ob')/\allP ob')/\T (i+1)=put (T i) o.dst (X i)
 | [],t,t',ob,hr,_=>by
  simp only[runQ,Option.some.injEq,Prod.mk.injEq]at hr;obtain⟨rfl,_⟩:=hr;exact⟨fun _=>t,fun _=>.any,rfl,rfl,by simp⟩
 | o::os,t,t',ob,hr,ho=>by
  simp only[runQ]at hr
  cases h1:yif Γ D all t h o with
  | none=>simp[h1]at hr
  | some p=>
   obtain⟨x,ob1⟩:=p;simp only[h1]at hr
   cases h2:runQ Γ D all h os (put t o.dst x)with
   | none=>simp[h2]at hr
   | some q=>
    obtain⟨t2,ob2⟩:=q;simp only[h2,Option.some.injEq,Prod.mk.injEq]at hr;obtain⟨rfl,rfl⟩:=hr;obtain⟨ho1,ho2⟩:=yn.1 ho;obtain⟨T,X,hT0,hTn,hT⟩:=y7k h2 ho2;refine⟨fun i=>match i with|0=>t|i+1=>T i,fun i=>match i with|0=>x|i+1=>X i,rfl,by simpa using hTn,?_⟩;intro i o' ho'
    cases i with
    | zero=>
     simp only[List.getElem?_cons_zero,Option.some.injEq]at ho';subst ho';exact⟨⟨ob1,h1,ho1⟩,hT0⟩
    | succ i=>
     simp only[List.getElem?_cons_succ]at ho';exact hT i o' ho'
theorem y5 {listed:Array Bool} {i:Nat} (hi:i<listed.size) (b b':Bool):listed.getD i b=listed.getD i b':=by
 simp[Array.getD_eq_getD_getElem?,hi]
theorem yxo (hΓ : TyOk P Γ) (hD : DOk P D) {ops : Array Oper} {m : Nat} (hok : AnyOk ops m) (hdn : ∀ (i : Nat) (o : Oper), ops[i]? = some o -> ∀ d, o.dst = some d -> d < c.nt) {t' : List (Nat × AV)} {h' : List Ent}
  (hQ:∀ a w,WRs c ⟨t',h'⟩ a w->Q .normal a w):∀ (fuel k:Nat) (listed:Array Bool) (a:Act) (w:World) (s:St) (ob:List Prop),m<=k->k<=ops.size->ops.size<=k+fuel->listed.size=ops.size ->
   (∀ i,i<ops.size->listed.getD i true=decide (i<k))->WRs c s a w->runA Γ D ops (ops.toList.drop k) s.t s.h=some (t',h',ob)->allP ob->wpAny P .any ops Q fuel listed a w:=by
 have hdone:∀ (k:Nat) (listed:Array Bool) (a:Act) (w:World) (s:St) (ob:List Prop),k=ops.size->(∀ i,i<ops.size->listed.getD i true=decide (i<k))->WRs c s a w ->
   runA Γ D ops (ops.toList.drop k) s.t s.h=some (t',h',ob)->Region.ready .any ops listed=[]/\Q .normal a w:=by
  intro k listed a w s ob hk hl hs hr;subst hk;constructor
  ·apply List.eq_nil_iff_forall_not_mem.2
   intro i hi;obtain⟨o,ho,hf,_⟩:=y4d.1 hi
   have hlt:i<ops.size:=by
    rcases Nat.lt_or_ge i ops.size with h|h
    ·exact h
    ·rw[Array.getElem?_eq_none h]at ho;cases ho
   rw[hl i hlt]at hf;simp[hlt]at hf
  ·rw[List.drop_eq_nil_of_le (by simp)]at hr
   simp only[runA,Option.some.injEq,Prod.mk.injEq]at hr;obtain⟨rfl,rfl,_⟩:=hr;exact hQ a w hs
 intro fuel
 induction fuel with
 | zero=>
  intro k listed a w s ob hmk hkn hf hsz hl hs hr ho;exact hdone k listed a w s ob (by omega) hl hs hr
 | succ fuel ih=>
  intro k listed a w s ob hmk hkn hf hsz hl hs hr ho;by_cases hk:k=ops.size
  ·have h1:=hdone k listed a w s ob hk hl hs hr
   refine⟨fun _=>h1.2,?_⟩;rw[h1.1];simp
  ·have hklt:k<ops.size:=by omega
   have hcl:yfq ops listed:=by
    intro i o hio hli e he hb
    have hlt:i<ops.size:=by
     rcases Nat.lt_or_ge i ops.size with h|h
     ·exact h
     ·rw[Array.getElem?_eq_none h]at hio;cases hio
    have hei:=hok.back i o hio e he hb;have hik:i<k:=by simpa [hl i hlt]using hli
    rw[y5 (by omega) false true,hl e.on (by omega)];simp;omega
   have honly:∀ i,i∈Region.ready .any ops listed->i=k:=by
    intro i hi;obtain⟨o,hio,hf,hready⟩:=y4d.1 hi
    have hlt:i<ops.size:=by
     rcases Nat.lt_or_ge i ops.size with h|h
     ·exact h
     ·rw[Array.getElem?_eq_none h]at hio;cases hio
    have hik:¬ i<k:=by
     intro h;rw[hl i hlt]at hf;simp[h]at hf
    rcases Nat.lt_or_ge k i with h1|h1
    ·exfalso
     have h2:=yyc hsz hcl 3 i k (fun l hl'=>by
      obtain⟨o2,ho2,e,he,hb,rfl⟩:=ymi.1 hl';rw[hio]at ho2;cases ho2
      exact hready e he hb) (hok.late i (by omega) hlt k h1)
     rw[y5 (by omega) false true,hl k hklt]at h2;simp at h2
    ·omega
   have hin:k∈Region.ready .any ops listed:=by
    refine y4d.2 ⟨ops[k],Array.getElem?_eq_getElem hklt,by simp[hl k hklt],fun e he hb => ?_⟩;have h3:=hok.back k _ (Array.getElem?_eq_getElem hklt) e he hb;rw[y5 (by omega) false true,hl e.on (by omega)];simpa using h3
   refine⟨fun h0 => ?_,fun i hi => ?_⟩
   ·rw[h0]at hin;simp at hin
   ·have:=honly i hi
    subst this
    have hdrop:ops.toList.drop i=ops[i]::ops.toList.drop (i+1):=by
     rw[List.drop_eq_getElem_cons (by simpa using hklt)];simp
    rw[hdrop]at hr;simp only[runA]at hr
    cases h1:yne Γ D ops s.t s.h ops[i]with
    | none=>simp[h1]at hr
    | some p=>
     obtain⟨x,h2,ob1⟩:=p;simp only[h1]at hr
     cases h3:runA Γ D ops (ops.toList.drop (i+1)) (put s.t ops[i].dst x) h2 with
     | none=>simp[h3]at hr
     | some q=>
      obtain⟨t3,h3',ob3⟩:=q;simp only[h3,Option.some.injEq,Prod.mk.injEq]at hr;obtain⟨rfl,rfl,rfl⟩:=hr;obtain⟨ho1,ho2⟩:=yn.1 ho;unfold wpOp;rw[Array.getElem?_eq_getElem hklt];simp only
      have h4:=ytp (Q:=Q) (K:=wpAny P .any ops Q fuel (listed.setIfInBounds i true)) hΓ hD hs h1 ho1 (hdn i _ (Array.getElem?_eq_getElem hklt)) (fun a' w' hs'=>
       ih (i+1) _ a' w' ⟨put s.t ops[i].dst x,h2⟩ ob3 (by omega) (by omega) (by omega) (by simpa using hsz) (by
        intro j hj;rw[ycc (by omega)];by_cases hji:j=i
        ·subst hji;simp
        ·rw[if_neg hji,hl j hj]
         have:(j<i)↔(j<i+1):=by omega
         simp[this]) hs' h3 ho2)
      split
      ·rename_i hw
       rw[if_pos hw]at h4;exact .inl h4
      ·rename_i hw
       rw[if_neg hw]at h4;exact h4
end
end Go.Ab
namespace Go.Ab
open Go
variable [Inv]
def mask (l:List Nat) (t:List (Nat×AV)):List (Nat×AV):=l.map fun j=>(j,get t j)
theorem yng (t : List (Nat × AV)) : ∀ (l : List Nat) (j : Nat), get (mask l t) j = if j ∈ l then get t j else .any
 | [],j=>by simp[mask,get]
 | k::l,j=>by
  have ih:=yng t l j;simp only[mask,List.map_cons,get]at ih ⊢
  cases hb:Nat.beq j k with
  | true=>
   have:=Nat.eq_of_beq_eq_true hb;subst this;simp
  | false=>
   have hne:j≠k:=by
    rintro rfl
    simp at hb
   simp only[cond_false,List.mem_cons,hne,false_or];exact ih
theorem yr2 {listed : Array Bool} {m : Nat} : ∀ {n : Nat}, (∀ k, m <= k -> k < n -> listed.getD k true = false) -> n <= m + unl listed n
 | 0,_=>by omega
 | n+1,h=>by
  have ih:=yr2 (n:=n) fun k h1 h2=>h k h1 (by omega)
  simp only[unl];by_cases hm:m<=n
  ·rw[h n hm (by omega)]
   simp only[cond_false];omega
  ·omega
section
variable {P:Program} {Γ:Env} {D:Dn} {c:Ctx} {h:List Ent} {Q:Exit->Act->World->Prop}
def ytbb (c:Ctx) (h:List Ent) (ops:Array Oper) (m:Nat) (tm:List (Nat×AV)) (listed:Array Bool) (a:Act) (w:World):Prop:=
 ∃ μ FP,WR c (Hof h) μ FP w/\Tail h μ/\a.tmps.size=c.nt/\a.defers=[] /\
  ∀ i,(∀ (j:Nat) (o:Oper),j<m->ops[j]? = some o->listed.getD j true=false->o.dst≠some i)->Rep w (hot c.M0 (Hof h) μ) (get tm i) μ (a.tmps.getD i undef) []
theorem ye2 (hΓ : TyOk P Γ) (hD : DOk P D) {ops : Array Oper} {m : Nat} (hok : AnyOk ops m) (hdn : ∀ (i : Nat) (o : Oper), ops[i]? = some o -> ∀ d, o.dst = some d -> d < c.nt) {t' : List (Nat × AV)} {h' : List Ent} {ob : List Prop}
    (hQ:∀ a w,WRs c ⟨t',h'⟩ a w->Q .normal a w) (T:Nat->List (Nat×AV)) (X:Nat->AV)
    (hT:∀ (i:Nat) (o:Oper),i<m->ops[i]? = some o->(∃ ob',yif Γ D ops (T i) h o=some (X i,ob')/\allP ob')/\T (i+1)=put (T i) o.dst (X i))
    (hr:runA Γ D ops (ops.toList.drop m) (T m) h=some (t',h',ob)) (ho:allP ob) :
    ∀ (fuel:Nat) (listed:Array Bool) (a:Act) (w:World),unl listed ops.size<=fuel->listed.size=ops.size->(∀ k,m<=k->k<ops.size->listed.getD k true=false)->yfq ops listed ->
      ytbb c h ops m (T m) listed a w->wpAny P .any ops Q fuel listed a w:=by
  have hlt:∀ {i:Nat} {o:Oper},ops[i]? = some o->i<ops.size:=by
    intro i o hio;rcases Nat.lt_or_ge i ops.size with h|h
    . exact h
    . rw[Array.getElem?_eq_none h]at hio;cases hio
  have hm:=hok.le
  -- the writes of the first part are apart
  have hlast:∀ (i:Nat) (o:Oper) (d:Nat),i<m->ops[i]? = some o->o.dst=some d->∀ k,i<k->k<=m->get (T k) d=X i:=by
    intro i o d him hio hd k
    induction k with
    | zero=>intro h;omega
    | succ k ih=>
      intro h1 h2;have hk:k<ops.size:=by omega
      obtain⟨_,hTk⟩:=hT k _ (by omega) (Array.getElem?_eq_getElem hk);rw[hTk];by_cases hki:k=i
      . subst hki;have:ops[k]=o:=by rw[Array.getElem?_eq_getElem hk]at hio;exact Option.some.inj hio
        rw[this,hd,ydg,if_pos rfl]
      . have hap:=(hok.apart k i _ o d (Array.getElem?_eq_getElem hk) hio (by omega) him (fun e=>hki e.symm) hd).1
        cases hdk:ops[k].dst with
        | none=>exact ih (by omega) (by omega)
        | some d'=>
          rw[ydg,if_neg]
          . exact ih (by omega) (by omega)
          . rintro rfl
            exact hap hdk
  have hlook:∀ (i:Nat) (o:Oper) (d:Nat),i<m->ops[i]? = some o->d∈o.looksAt ops->∀ k,i<=k->k<=m->get (T k) d=get (T i) d:=by
    intro i o d him hio hd k
    induction k with
    | zero => intro h _; have : i = 0 := by omega
              subst this;rfl
    | succ k ih=>
      intro h1 h2;by_cases hki:i=k+1
      . subst hki;rfl
      . have hk:k<ops.size:=by omega
        obtain⟨_,hTk⟩:=hT k _ (by omega) (Array.getElem?_eq_getElem hk);rw[hTk]
        cases hdk:ops[k].dst with
        | none=>exact ih (by omega) (by omega)
        | some d'=>
          rw[ydg,if_neg]
          . exact ih (by omega) (by omega)
          . rintro rfl
            by_cases hik:i=k
            . subst hik;have:ops[i]=o:=by rw[Array.getElem?_eq_getElem hk]at hio;exact Option.some.inj hio
              exact hok.own i o hio him d (by rw[<- this];exact hdk) hd
            . have:=((hok.apart i k o _ d hio (Array.getElem?_eq_getElem hk) him (by omega) (fun e=>hik e.symm) hdk).2 hd).1;omega
  intro fuel
  induction fuel with
  | zero=>
    intro listed a w hf hsz hun hcl hmid;have hall:=y9p (Nat.le_zero.1 hf);obtain⟨μ,FP,hW,htl,h1,h2,h3⟩:=hmid
    have hnm:m=ops.size:=by
      rcases Nat.lt_or_ge m ops.size with h|h
      . have:=hun m (Nat.le_refl _) h;rw[hall m h]at this;cases this
      . omega
    refine yxo hΓ hD hok hdn hQ 0 m listed a w ⟨T m,h⟩ ob (Nat.le_refl _) hm (by omega) hsz (fun i hi=>by rw[hall i hi];simp;omega) ⟨μ,FP,hW,htl,?_,h1,h2⟩ hr ho;intro i;refine h3 i fun j o hjm hjo hl => ?_
    rw[hall j (by omega)]at hl;cases hl
  | succ fuel ih=>
    intro listed a w hf hsz hun hcl hmid;by_cases hall:∀ i,i<m->listed.getD i true=true
    . obtain⟨μ,FP,hW,htl,h1,h2,h3⟩:=hmid;have hge:=yr2 hun;refine yxo hΓ hD hok hdn hQ (fuel+1) m listed a w ⟨T m,h⟩ ob (Nat.le_refl _) hm (by omega) hsz (fun i hi => ?_) ⟨μ,FP,hW,htl,?_,h1,h2⟩ hr ho
      . by_cases him:i<m
        . rw[hall i him];simp[him]
        . rw[hun i (by omega) hi];simp[him]
      . intro i;refine h3 i fun j o hjm hjo hl => ?_
        rw[hall j hjm]at hl;cases hl
    . refine⟨fun h0 => ?_,fun i hi => ?_⟩
      . exfalso;apply hall
        have:∀ i,i<ops.size->listed.getD i true=true:=by
          intro i
          induction i using Nat.strongRecOn with
          | _ i ihi=>
            intro hi
            cases hl:listed.getD i true with
            | true=>rfl
            | false=>
              exfalso
              have:i∈Region.ready .any ops listed:=by
                refine y4d.2 ⟨ops[i],Array.getElem?_eq_getElem hi,hl,fun e he hb => ?_⟩;have h3:=hok.back i _ (Array.getElem?_eq_getElem hi) e he hb;rw[y5 (by omega) false true];exact ihi e.on h3 (by omega)
              rw[h0]at this;simp at this
        exact fun i him=>this i (by omega)
      . obtain⟨o,hio,hli,hready⟩:=y4d.1 hi;have hin:=hlt hio
        have hdir:∀ l,dirB ops i l=true->listed.getD l false=true:=fun l hl'=>by
          obtain⟨o2,ho2,e,he,hb,rfl⟩:=ymi.1 hl';rw[hio]at ho2;cases ho2;exact hready e he hb
        have him:i<m:=by
          rcases Nat.lt_or_ge i m with h1|h1
          . exact h1
          . exfalso;apply hall;intro j hj;rw[y5 (by omega) true false];exact yyc hsz hcl 3 i j hdir (hok.late i h1 hin j (by omega))
        obtain⟨⟨ob',hq,hob'⟩,hTi⟩:=hT i o him hio;obtain⟨μ,FP,hW,htl,h1,h2,h3⟩:=hmid
        have hTR:TR c ⟨mask (o.looksAt ops) (T i),h⟩ μ w a:=by
          refine⟨fun j => ?_,h1,h2⟩;show Rep w _ (get (mask (o.looksAt ops) (T i)) j) μ _ [];rw[yng];split
          . rename_i hj
            rw[<- hlook i o j him hio hj m (by omega) (Nat.le_refl _)];refine h3 j fun k ok hkm hko hl hdk => ?_
            by_cases hki:k=i
            . subst hki;rw[hio]at hko;cases hko;exact hok.own k o hio him j hdk hj
            . have h4:=((hok.apart i k o ok j hio hko him hkm hki hdk).2 hj).2;have h5:=hdir k h4;rw[y5 (by omega) false true,hl]at h5;cases h5
          . simp[Rep]
        have hq2:yif Γ D ops (mask (o.looksAt ops) (T i)) h o=some (X i,ob'):=by
          rw[<- hq];refine yfm fun j hj => ?_
          rw[yng,if_pos hj]
        obtain⟨ob2,hA,hob2⟩:=yll hq2;have hrun:=y1w (s:=⟨mask (o.looksAt ops) (T i),h⟩) (Q:=Q) hΓ hD hW htl hTR hA (hob2 hob')
        have hnext:∀ a' w',yic c ⟨mask (o.looksAt ops) (T i),h⟩ μ w a o.dst (X i) h a' w'->wpAny P .any ops Q fuel (listed.setIfInBounds i true) a' w':=by
          rintro a' w' ⟨v,μ',rfl,hN,hx⟩
          obtain⟨FP',hW'⟩:=hN.wr;have hun':=y8t (listed:=listed) (i:=i) (by omega) hli ops.size;rw[if_pos hin]at hun';refine ih _ _ _ (by omega) (by simpa using hsz) ?_ ?_ ⟨μ',FP',hW',hN.tail,?_,?_,?_⟩
          . intro k hk hkn;rw[ycc (by omega),if_neg (by omega)];exact hun k hk hkn
          . intro k ok hko hlk e he hb;rw[ycc (by omega)]at hlk ⊢;by_cases hei:e.on=i
            . rw[if_pos hei]
            . rw[if_neg hei];by_cases hki:k=i
              . subst hki;rw[hio]at hko;cases hko;exact hready e he hb
              . rw[if_neg hki]at hlk;exact hcl k ok hko hlk e he hb
          . cases hd:o.dst<;>simpa [Act.put]using h1
          . cases hd:o.dst<;>simpa [Act.put]using h2
          . intro j hj;by_cases hdj:o.dst=some j
            . rw[hlast i o j him hio hdj m him (Nat.le_refl _)];have hjn:j<a.tmps.size:=by rw[h1];exact hdn i o hio j hdj
              have:(a.put o.dst v).tmps.getD j undef=v:=by simp[hdj,Act.put,hjn]
              rw[this];exact hx
            . have:(a.put o.dst v).tmps.getD j undef=a.tmps.getD j undef:=by
                cases hd:o.dst with
                | none=>rfl
                | some d=>
                  simp only[Act.put,Array.getD_eq_getD_getElem?];rw[Array.getElem?_setIfInBounds_ne (fun e=>hdj (by rw[hd,e]))]
              rw[this];refine hN.tr.rep (h3 j fun k ok hkm hko hl => ?_);by_cases hki:k=i
              . subst hki;rw[hio]at hko;cases hko;exact hdj
              . refine hj k ok hkm hko ?_;rw[ycc (by omega),if_neg hki];exact hl
        unfold wpOp;rw[hio];simp only;split
        . rename_i hw
          rw[if_pos hw]at hrun;exact .inl (Oper.wp_mono hnext hrun)
        . rename_i hw
          rw[if_neg hw]at hrun;exact hnext _ _ hrun
theorem WR.drew {c:Ctx} {μ:Map} {FP:Nat->List Nat} {w:World} (hW:WR c (Hof h) μ FP w):WR c (Hof h) μ FP { w with drawn:=w.drawn+1 }/\Trans c.M0 (Hof h) μ w (Hof h) μ { w with drawn:=w.drawn+1 }:=
 hW.grow (Grow.drew w)
theorem WRs.drew {c:Ctx} {s:St} {a:Act} {w:World} (hs:WRs c s a w):WRs c s a { w with drawn:=w.drawn+1 }:=by
 obtain⟨μ,FP,hW,htl,h1,h2⟩:=hs;obtain⟨hW',hT⟩:=WR.drew hW;exact⟨μ,FP,hW',htl,fun i=>hT.rep (h1 i),h2⟩
theorem yey (hmix : P.follows .mixedOrders = true) (hΓ : TyOk P Γ) (hD : DOk P D) {id : Nat} {ops : Array Oper} (m : Nat) {s : St} {a : Act} {w : World} {t1 t' : List (Nat × AV)} {h' : List Ent} {ob1 ob : List Prop}
  (hs:WRs c s a w) (hck:yaf ops m=true) (hd:y1g c.nt ops.toList=true) (hq:runQ Γ D ops s.h (ops.toList.take m) s.t=some (t1,ob1)) (ho1:allP ob1)
  (hr:runA Γ D ops (ops.toList.drop m) t1 s.h=some (t',h',ob)) (ho:allP ob) (hQ:∀ a w,WRs c ⟨t',h'⟩ a w->Q .normal a w):(Code.region id ops true).wp P Q a w:=by
 have hok:=ymm hck
 have hdn:∀ (i:Nat) (o:Oper),ops[i]? = some o->∀ d,o.dst=some d->d<c.nt:=by
  intro i o hio d hdd;simp only[y1g,List.all_eq_true]at hd;have hmem:o∈ops.toList:=Array.mem_toList_iff.2 (Array.mem_of_getElem? hio);have:=hd o hmem;rw[hdd]at this;simpa using this
 obtain⟨T,X,hT0,hTn,hT⟩:=y7k hq ho1
 have hlen:(ops.toList.take m).length=m:=by
  have:=hok.le;simp;omega
 rw[hlen]at hTn;refine wp_region_any hmix ?_;refine ye2 (h:=s.h) hΓ hD hok hdn hQ T X (fun i o him hio=>hT i o ?_) (by rw[hTn];exact hr) ho ops.size _ a _ ?_ (by simp) ?_ ?_ ?_
 ·rw[List.getElem?_take,if_pos him]
  simpa using hio
 ·have:∀ (l:Array Bool) (k:Nat),unl l k<=k:=by
   intro l k
   induction k with
   | zero=>simp[unl]
   | succ k ih=>simp only[unl];cases l.getD k true<;>simp<;>omega
  exact this _ _
 ·intro k _ hk
  simp[Array.getD_eq_getD_getElem?,hk]
 ·intro i o hio hl
  have:i<ops.size:=by
   rcases Nat.lt_or_ge i ops.size with h|h
   ·exact h
   ·rw[Array.getElem?_eq_none h]at hio;cases hio
  simp[Array.getD_eq_getD_getElem?,this]at hl
 ·obtain⟨μ,FP,hW,htl,h1,h2,h3⟩:=hs.drew
  refine⟨μ,FP,hW,htl,h2,h3,?_⟩;intro i hi
  have hnone:∀ (k:Nat),k<=m->get (T k) i=get s.t i:=by
   intro k
   induction k with
   | zero=>intro _;rw[hT0]
   | succ k ih=>
    intro hk;have hkn:k<ops.size:=by have:=hok.le;omega
    have hik:=hi k _ (by omega) (Array.getElem?_eq_getElem hkn) (by simp[Array.getD_eq_getD_getElem?,hkn]);obtain⟨_,hTk⟩:=hT k ops[k] (by rw[List.getElem?_take,if_pos (by omega)];simp[hkn]);rw[hTk]
    cases hdk:ops[k].dst with
    | none=>exact ih (by omega)
    | some d=>
     rw[ydg,if_neg]
     ·exact ih (by omega)
     ·rintro rfl
      exact hik hdk
  rw[hnone m (Nat.le_refl _)];exact h1 i
end
end Go.Ab
namespace Go.Ab
open Go
variable [Inv]
def yocb (c : Ctx) (N : St -> Prop) (E : Nat -> St -> Prop) (R : St -> Prop) : Exit -> Act -> World -> Prop
 | .normal,a,w=>∃ s,N s/\WRs c s a w
 | .exit id,a,w=>∃ s,E id s/\WRs c s a w
 | .ret,a,w=>∃ s,R s/\WRs c s a w
 | _,_,_=>False
structure AWP (P:Program) (c:Ctx) (code:Code) (N:St->Prop) (E:Nat->St->Prop) (R:St->Prop) (s:St):Prop where
 run:∀ a w,WRs c s a w->code.wp P (yocb c N E R) a w
def yyl (id:Nat) (N:St->Prop) (E:Nat->St->Prop):Nat->St->Prop:=fun k s=>bif Nat.beq k id then N s else E k s
theorem yd {id:Nat} {N:St->Prop} {E:Nat->St->Prop} {s:St} (h:N s):yyl id N E id s:=by
 simp only[yyl,Nat.beq_refl,cond_true];exact h
theorem ywj {id k:Nat} {N:St->Prop} {E:Nat->St->Prop} {s:St} (hk:Nat.beq k id=false) (h:E k s):yyl id N E k s:=by
 simp only[yyl,hk,cond_false];exact h
def yoi (r:Option (List (Nat×AV)×List Ent×List Prop)) (K:St->Prop):Prop:=
 match r with
 | some (t,h,ob)=>allP ob/\K ⟨t,h⟩
 | none=>False
def run2 (Γ:Env) (D:Dn) (ops:Array Oper) (m:Nat) (s:St):Option (List (Nat×AV)×List Ent×List Prop):=
  match runQ Γ D ops s.h (ops.toList.take m) s.t with
  | some (t1, ob1) => match runA Γ D ops (ops.toList.drop m) t1 s.h with
    | some (t2,h2,ob2)=>some (t2,h2,ob1++ob2)
    | none=>none
  | none=>none
section
variable {P:Program} {Γ:Env} {D:Dn} {c:Ctx} {N:St->Prop} {E:Nat->St->Prop} {R:St->Prop} {s:St}
theorem AWP.mono {code:Code} {N':St->Prop} {E':Nat->St->Prop} {R':St->Prop} (hn:∀ s,N s->N' s) (he:∀ k s,E k s->E' k s) (hr:∀ s,R s->R' s) (h:AWP P c code N E R s):AWP P c code N' E' R' s:=
 ⟨fun a w hs=>wp_mono (h.run a w hs) fun e _ _ hp=>by
  cases e with
  | normal=>obtain⟨s',h1,h2⟩:=hp;exact⟨s',hn s' h1,h2⟩
  | exit id=>obtain⟨s',h1,h2⟩:=hp;exact⟨s',he id s' h1,h2⟩
  | ret=>obtain⟨s',h1,h2⟩:=hp;exact⟨s',hr s' h1,h2⟩
  | _=>exact hp.elim⟩
theorem AWP.skip (h:N s):AWP P c .skip N E R s:=⟨fun _ _ hs=>wp_skip ⟨s,h,hs⟩⟩
theorem AWP.exit {id:Nat} (h:E id s):AWP P c (.exit id) N E R s:=⟨fun _ _ hs=>wp_exit ⟨s,h,hs⟩⟩
theorem AWP.ret (h:R s):AWP P c .ret N E R s:=⟨fun _ _ hs=>wp_ret ⟨s,h,hs⟩⟩
theorem AWP.seq {x y:Code} (h:AWP P c x (AWP P c y N E R) E R s):AWP P c (.seq x y) N E R s:=by
 refine⟨fun a w hs => ?_⟩;refine wp_seq (wp_mono (h.run a w hs) ?_);intro e a w hp
 cases e with
 | normal=>obtain⟨s',h1,h2⟩:=hp;exact h1.run a w h2
 | exit id=>exact hp
 | ret=>exact hp
 | _=>exact hp.elim
theorem AWP.block {id:Nat} {x:Code} (h:AWP P c x N (yyl id N E) R s):AWP P c (.block id x) N E R s:=by
 refine⟨fun a w hs => ?_⟩;refine wp_block (wp_mono (h.run a w hs) ?_);intro e a w hp
 cases e with
 | normal=>exact hp
 | exit id'=>
  simp only[Exit.inBlock];obtain⟨s',h1,h2⟩:=hp;split
  ·rename_i hid;subst hid
   simp only[yyl,Nat.beq_refl,cond_true]at h1;exact⟨s',h1,h2⟩
  ·rename_i hid
   have hb:Nat.beq id' id=false:=by
    cases hq:Nat.beq id' id with
    | false=>rfl
    | true=>exact absurd (Nat.eq_of_beq_eq_true hq) hid
   simp only[yyl,hb,cond_false]at h1;exact⟨s',h1,h2⟩
 | ret=>exact hp
 | _=>exact hp.elim
theorem AWP.cond {o:Operand} {x y:Code} {b:Bool} (ho:opnd s.t o=.bool b) (ht:b=true->AWP P c x N E R s) (hf:b=false->AWP P c y N E R s):AWP P c (.cond o x y) N E R s:=by
 refine⟨fun a w hs => ?_⟩
 have hr:a.eval o=.bool b:=by
  obtain⟨μ,FP,_,_,hT⟩:=hs;have:=ydf hT o;rw[ho]at this;exact this.val_bool
 exact wp_cond_split hr (fun e=>(ht e).run a w hs) (fun e=>(hf e).run a w hs)
theorem AWP.regS {nt : Nat} (hΓ : TyOk P Γ) (hD : DOk P D) (hn : c.nt = nt) {id : Nat} {ops : Array Oper} (hd : y1g nt ops.toList = true)
  (h:∀ K:St->Prop,(∀ s,N s->K s)->yoi (runA Γ D ops ops.toList s.t s.h) K):AWP P c (.region id ops false) N E R s:=by
 refine⟨fun a w hs => ?_⟩;have h:=h _ fun _ h=>h
 unfold yoi at h;split at h
 ·rename_i t' h' ob hr
  exact yhy hΓ hD hs hr h.1 (by rw[hn];exact hd) fun a w hs'=>⟨_,h.2,hs'⟩
 ·exact h.elim
theorem AWP.regD {nt : Nat} (hmix : P.follows .mixedOrders = true) (hΓ : TyOk P Γ) (hD : DOk P D) (hn : c.nt = nt) {id : Nat} {ops : Array Oper} (m : Nat) (hck : yaf ops m = true) (hd : y1g nt ops.toList = true)
  (h:∀ K:St->Prop,(∀ s,N s->K s)->yoi (run2 Γ D ops m s) K):AWP P c (.region id ops true) N E R s:=by
 refine⟨fun a w hs => ?_⟩;have h:=h _ fun _ h=>h
 unfold yoi at h;split at h
 ·rename_i t' h' ob hr
  unfold run2 at hr;split at hr
  ·rename_i t1 ob1 hq
   split at hr
   ·rename_i t2 h2 ob2 hr2
    simp only[Option.some.injEq,Prod.mk.injEq]at hr;obtain⟨rfl,rfl,rfl⟩:=hr;obtain⟨ho1,ho2⟩:=yn.1 h.1;exact yey hmix hΓ hD m hs hck (by rw[hn];exact hd) hq ho1 hr2 ho2 fun a w hs'=>⟨_,h.2,hs'⟩
   ·cases hr
  ·cases hr
 ·exact h.elim
end
def pars : Nat -> List AV -> List (Nat × AV)
 | _,[]=>[]
 | k,x::xs=>(k,x)::pars (k+1) xs
def resA (Γ : Env) (s : St) : List ResultVar -> Option (List AV × List Prop)
  | []=>some ([],[])
  | .tmp t :: rs => match resA Γ s rs with
    | some (xs,ob)=>some (get s.t t::xs,ob)
    | none=>none
  | .cell a t :: rs => match ymn Γ s.h t (get s.t a) with
    | some (x, o1) => match resA Γ s rs with
      | some (xs,ob)=>some (x::xs,o1++ob)
      | none=>none
    | none=>none
def y4h : List AV -> AV
 | [y]=>y
 | ys=>.tup ys
mutual
def simO : AV -> AV -> Prop
 | .sl o e n f,.sl o' e' n' f'=>o=o'/\e=e'/\n=n'/\∀ i,i<n->ydc (f i) (f' i)
 | .agg cs,.agg cs'=>ydc cs cs'
 | .op cs,.op cs'=>ydc cs cs'
 | .ep cs,.ep cs'=>yck cs cs'
 | .tup cs,.tup cs'=>ydc cs cs'
 | .int k n,.int k' n'=>k=k'/\n=n'
 | .bool b,.bool b'=>b=b'
 | .str b,.str b'=>b=b'
 | .nils,.nils=>True
 | .nils,.sl none _ n' _=>n'=0
 | .nils,.sl (some _) _ n' _=>n'=0
 | x,x'=>x=x'
def ydc : List AV -> List AV -> Prop
 | [],[]=>True
 | x::xs,x'::xs'=>simO x x'/\ydc xs xs'
 | _,_=>False
def yck : List AV -> List AV -> Prop
 | _,[]=>True
 | x::xs,x'::xs'=>simO x x'/\yck xs xs'
 | [],_::_=>False
end
mutual
theorem yyd : ∀ x : AV, simO x x
 | .sl o e n f=>by simp only[simO];exact⟨trivial,trivial,trivial,fun i _=>y6 (f i)⟩
 | .agg cs=>by simp only[simO];exact y6 cs
 | .op cs=>by simp only[simO];exact y6 cs
 | .tup cs=>by simp only[simO];exact y6 cs
 | .int _ _=>by simp[simO]
 | .bool _=>by simp[simO]
 | .str _=>by simp[simO]
 | .nils=>by simp[simO]
 | .ref .. => by simp[simO]
 | .ptr .. => by simp[simO]
 | .pe .. => by simp[simO]
 | .ep cs=>by simp only[simO];exact y4i cs
 | .fn .. => by simp[simO]
 | .gd .. => by simp[simO]
 | .any=>by simp[simO]
 | .lit .. => by simp[simO]
theorem y6 : ∀ xs : List AV, ydc xs xs
 | []=>by simp[ydc]
 | x::xs=>by simp only[ydc];exact⟨yyd x,y6 xs⟩
theorem y4i : ∀ xs : List AV, yck xs xs
 | []=>by simp[yck]
 | x::xs=>by simp only[yck];exact⟨yyd x,y4i xs⟩
end
mutual
theorem ytg {w : World} {M : Nat -> Prop} {μ : Map} : ∀ (x x' : AV) {v : Value} {fp : List Nat}, simO x x' -> Rep w M x μ v fp -> Rep w M x' μ v fp
 | .sl o e n f,x',v,fp,hs,h=>by
  cases x' with
  | sl o' e' n' f'=>
   simp only[simO]at hs;obtain⟨rfl,rfl,rfl,hf⟩:=hs;simp only[Rep]at h ⊢;rcases h with h|⟨b,o,cap,us,fps,hv,hn,hb,hc,ho⟩
   ·exact .inl h
   ·exact .inr ⟨b,o,cap,us,fps,hv,hn,hb,fun i hi=>⟨yhc (f i) (f' i) (hf i hi) (hc i hi).1,(hc i hi).2⟩,ho⟩
  | _=>simp[simO]at hs
 | .agg cs,x',v,fp,hs,h=>by
  cases x' with
  | agg cs'=>
   simp only[simO]at hs;simp only[Rep]at h ⊢;obtain⟨us,e,h⟩:=h;exact⟨us,e,yhc cs cs' hs h⟩
  | _=>simp[simO]at hs
 | .op cs,x',v,fp,hs,h=>by
  cases x' with
  | op cs'=>
   simp only[simO]at hs;simp only[Rep]at h ⊢;obtain⟨b,us,T,e,e2,hb,hh,hone,hr⟩:=h;exact⟨b,us,T,e,e2,hb,hh,hone,yhc cs cs' hs hr⟩
  | _=>simp[simO]at hs
 | .tup cs,x',v,fp,hs,h=>by
  cases x' with
  | tup cs'=>
   simp only[simO]at hs;simp only[Rep]at h ⊢;obtain⟨us,e,h⟩:=h;exact⟨us,e,yhc cs cs' hs h⟩
  | _=>simp[simO]at hs
 | .int k n,x',v,fp,hs,h=>by
  cases x' with
  | int k' n'=>simp only[simO]at hs;obtain⟨rfl,rfl⟩:=hs;exact h
  | _=>simp[simO]at hs
 | .bool k,x',v,fp,hs,h=>by
  cases x' with
  | bool k'=>simp only[simO]at hs;subst hs;exact h
  | _=>simp[simO]at hs
 | .str k,x',v,fp,hs,h=>by
  cases x' with
  | str k'=>simp only[simO]at hs;subst hs;exact h
  | _=>simp[simO]at hs
 | .nils,x',v,fp,hs,h=>by
  cases x' with
  | nils=>exact h
  | sl o e n f=>
   have hn:n=0:=by cases o<;>simpa only[simO]using hs
   subst hn;simp only[Rep]at h ⊢;exact .inl ⟨trivial,by rw[h.1];exact y3e.nil o,h.2⟩
  | _=>simp[simO]at hs
 | .ref ..,x',v,fp,hs,h=>by cases x'<;>simp[simO]at hs;obtain⟨rfl,rfl,rfl,rfl⟩:=hs;exact h
 | .ptr ..,x',v,fp,hs,h=>by cases x'<;>simp[simO]at hs;obtain⟨rfl,rfl⟩:=hs;exact h
 | .pe ..,x',v,fp,hs,h=>by cases x'<;>simp[simO]at hs;obtain⟨rfl,rfl,rfl,rfl⟩:=hs;exact h
 | .ep cs,x',v,fp,hs,h=>by
  cases x' with
  | ep cs'=>
   simp only[simO]at hs;simp only[Rep]at h ⊢;obtain⟨e0,b,o,us,e,hb,hm,hr,hc⟩:=h;obtain⟨us',r,hus,hr'⟩:=yrr cs cs' hs hr;refine⟨e0,b,o,us',e,hb,hm,hr',fun j u hu=>hc j u ?_⟩;have hj:=(List.getElem?_eq_some_iff.1 hu).1;rw[hus,List.getElem?_append_left hj];exact hu
  | _=>simp[simO]at hs
 | .fn ..,x',v,fp,hs,h=>by cases x'<;>simp[simO]at hs;obtain⟨rfl,rfl,rfl⟩:=hs;exact h
 | .lit ..,x',v,fp,hs,h=>by cases x'<;>simp[simO]at hs;obtain⟨rfl,rfl⟩:=hs;exact h
 | .gd ..,x',v,fp,hs,h=>by cases x'<;>simp[simO]at hs;obtain⟨rfl,rfl⟩:=hs;exact h
 | .any,x',v,fp,hs,h=>by cases x'<;>simp[simO]at hs;exact h
theorem yhc {w : World} {M : Nat -> Prop} {μ : Map} : ∀ (xs xs' : List AV) {us : List Value} {fp : List Nat}, ydc xs xs' -> RepL w M xs μ us fp -> RepL w M xs' μ us fp
 | [],xs',us,fp,hs,h=>by cases xs'<;>simp only[ydc]at hs;exact h
 | x::xs,xs',us,fp,hs,h=>by
  cases xs'<;>simp only[ydc]at hs
  simp only[RepL]at h ⊢;obtain⟨u,us',f1,f2,rfl,rfl,h1,h2⟩:=h;exact⟨u,us',f1,f2,rfl,rfl,ytg x _ hs.1 h1,yhc xs _ hs.2 h2⟩
theorem yrr {w : World} {M : Nat -> Prop} {μ : Map} : ∀ (xs xs' : List AV) {us : List Value}, yck xs xs' -> RepL w M xs μ us [] -> ∃ us' r, us = us' ++ r /\ RepL w M xs' μ us' []
 | xs,[],us,hs,h=>⟨[],us,rfl,by simp[RepL]⟩
 | [],x'::xs',us,hs,h=>by simp only[yck]at hs
 | x::xs,x'::xs',us,hs,h=>by
  simp only[yck]at hs;simp only[RepL]at h;obtain⟨u,us0,f1,f2,rfl,e,h1,h2⟩:=h;obtain⟨rfl,rfl⟩:=List.append_eq_nil_iff.1 e.symm;obtain⟨us',r,rfl,h3⟩:=yrr xs xs' hs.2 h2;refine⟨u::us',r,rfl,?_⟩;simp only[RepL];exact⟨u,us',[],[],rfl,rfl,ytg x _ hs.1 h1,h3⟩
end
def Ends (Γ:Env) (rs:List ResultVar) (r:AV) (s:St):Prop:=
  match resA Γ s rs with
  | some (xs, o1) => match ybc s.h xs with
    | some (ys,_,ob)=>allP o1/\allP ob/\(y5b ys\/y7c ys)/\simO (y4h ys) r
    | none=>False
  | none=>False
mutual
theorem ykab {w : World} {M : Nat -> Prop} : ∀ (x : AV) {μ : Map} {v : Value} {fp : List Nat}, noId x = true -> Rep w M x μ v fp -> fp = []
 | .sl (some _) _ _ _,_,_,_,hn,_=>by simp[noId]at hn
 | .op _,_,_,_,hn,_=>by simp[noId]at hn
 | .agg cs,_,_,_,hn,h=>by
  simp only[Rep,noId]at h hn;obtain⟨us,_,h⟩:=h;exact y8h cs hn h
 | .tup cs,_,_,_,hn,h=>by
  simp only[Rep,noId]at h hn;obtain⟨us,_,h⟩:=h;exact y8h cs hn h
 | .sl none e n f,_,_,_,_,h=>yxb.fp (.sl none e n f) (by simp[yxb]) h
 | .int a b,_,_,_,_,h=>yxb.fp (.int a b) (by simp[yxb]) h
 | .bool a,_,_,_,_,h=>yxb.fp (.bool a) (by simp[yxb]) h
 | .str a,_,_,_,_,h=>yxb.fp (.str a) (by simp[yxb]) h
 | .nils,_,_,_,_,h=>yxb.fp .nils (by simp[yxb]) h
 | .any,_,_,_,hn,_=>by simp[noId]at hn
 | .lit ..,_,_,_,hn,_=>by simp[noId]at hn
 | .ref ..,_,_,_,hn,_=>by simp[noId]at hn
 | .ptr ..,_,_,_,hn,_=>by simp[noId]at hn
 | .pe ..,_,_,_,hn,_=>by simp[noId]at hn
 | .gd ..,_,_,_,hn,_=>by simp[noId]at hn
 | .ep cs,_,_,_,_,h=>yxb.fp (.ep cs) (by simp[yxb]) h
 | .fn f k cs,_,_,_,_,h=>yxb.fp (.fn f k cs) (by simp[yxb]) h
theorem y8h {w : World} {M : Nat -> Prop} : ∀ (xs : List AV) {μ : Map} {us : List Value} {fp : List Nat}, ywd xs = true -> RepL w M xs μ us fp -> fp = []
 | [],_,_,_,_,h=>by simp only[RepL]at h;exact h.2
 | x::xs,_,_,_,hn,h=>by
  simp only[RepL,ywd]at h hn
  cases hx:noId x with
  | false=>simp[hx]at hn
  | true=>
   simp only[hx]at hn;obtain⟨u,us',f1,f2,_,rfl,h1,h2⟩:=h;rw[ykab x hx h1,y8h xs hn h2];rfl
end
section
variable {P:Program}
theorem ypk {w : World} {M : Nat -> Prop} {μ : Map} : ∀ {xs : List AV} {vs : List Value} (k i : Nat) (rest : List Value), RepL w M xs μ vs [] -> k <= i -> Rep w M (get (pars k xs) i) μ (((vs ++ rest)[i - k]?).getD undef) []
 | [],vs,k,i,rest,h,hi=>by simp[pars,get,Rep]
 | x::xs,vs,k,i,rest,h,hi=>by
  simp only[RepL]at h;obtain⟨u,us',f1,f2,rfl,e2,h1,h2⟩:=h;obtain⟨rfl,rfl⟩:=List.append_eq_nil_iff.1 e2.symm;simp only[pars,get]
  cases hb:Nat.beq i k with
  | true=>
   have:=Nat.eq_of_beq_eq_true hb;subst this;simpa using h1
  | false=>
   have hne:i≠k:=by rintro rfl;simp at hb
   have:=ypk (k+1) i rest h2 (by omega);have e:i-k=(i-(k+1))+1:=by omega
   rw[e];simpa using this
theorem y7j {w:World} {t:TypeId} {u z:Value} (h:(Instr.loadAt t u).run P w=.ok z w):(do loadVar t (<- asAddr u):Sem Value).run P w=.ok z w:=by
 unfold Instr.loadAt Instr.sureAddr at h;split at h
 ·simpa [asAddr]using h
 ·simp at h
theorem yxl {Γ : Env} (hΓ : TyOk P Γ) {c : Ctx} {μ : Map} {FP : Nat -> List Nat} {w : World} {s : St} (hW : WR c (Hof s.h) μ FP w) (tmps : Array Value) (h : ∀ i, Rep w (hot c.M0 (Hof s.h) μ) (get s.t i) μ (tmps.getD i undef) [])
  {g:ResultVar->Sem Value} (hg:∀ t,g (.tmp t)=pure (tmps.getD t undef)) (hg2:∀ a t,g (.cell a t)=do loadVar t (<- asAddr (tmps.getD a undef))):∀ {rs:List ResultVar} {xs:List AV} {ob:List Prop},resA Γ s rs=some (xs,ob)->allP ob ->
  ∃ us,(rs.mapM g).run P w=.ok us w/\RepL w (hot c.M0 (Hof s.h) μ) xs μ us []
 | [],xs,ob,hr,_=>by
  simp only[resA,Option.some.injEq,Prod.mk.injEq]at hr;obtain⟨rfl,_⟩:=hr;exact⟨[],rfl,by simp[RepL]⟩
 | .tmp t::rs,xs,ob,hr,ho=>by
  simp only[resA]at hr
  cases h1:resA Γ s rs with
  | none=>simp[h1]at hr
  | some p=>
   obtain⟨xs',ob'⟩:=p;simp only[h1,Option.some.injEq,Prod.mk.injEq]at hr;obtain⟨rfl,rfl⟩:=hr;obtain⟨us,h2,h3⟩:=yxl hΓ hW tmps h hg hg2 h1 ho;refine⟨tmps.getD t undef::us,?_,?_⟩
   ·rw[List.mapM_cons,Sem.run_bind,hg]
    simp only[Sem.run_pure,Result.andThen_ok,Sem.run_bind,h2]
   ·simp only[RepL]
    exact⟨_,_,[],[],rfl,rfl,h t,h3⟩
 | .cell a t::rs,xs,ob,hr,ho=>by
  simp only[resA]at hr
  cases h0:ymn Γ s.h t (get s.t a)with
  | none=>simp[h0]at hr
  | some q=>
   obtain⟨x,o1⟩:=q;simp only[h0]at hr
   cases h1:resA Γ s rs with
   | none=>simp[h1]at hr
   | some p=>
    obtain⟨xs',ob'⟩:=p;simp only[h1,Option.some.injEq,Prod.mk.injEq]at hr;obtain⟨rfl,rfl⟩:=hr;obtain⟨ho1,ho2⟩:=yn.1 ho;obtain⟨us,h2,h3⟩:=yxl hΓ hW tmps h hg hg2 h1 ho2;obtain⟨z,h4,h5⟩:=y0j (P:=P) hΓ hW (h:=s.h) (fun i _ he _=>he) h0 ho1 (h a);refine⟨z::us,?_,?_⟩
    ·rw[List.mapM_cons,Sem.run_bind,hg2,y7j h4]
     simp only[Sem.run_pure,Result.andThen_ok,Sem.run_bind,h2]
    ·simp only[RepL]
     exact⟨_,_,[],[],rfl,rfl,h5,h3⟩
theorem yvk {w:World} {M:Nat->Prop} {ys:List AV} {us:List Value} {fp:List Nat} (h:RepL w M ys yy us fp) :
  Rep w M (y4h ys) yy (if h:us.toArray.size=1 then us.toArray[0]else .tuple us.toArray) fp:=by
 match ys,us,h with
 | [],us,h=>
  simp only[RepL]at h;obtain⟨rfl,rfl⟩:=h;simp[y4h,Rep,RepL]
 | [y],us,h=>
  simp only[RepL]at h;obtain⟨u,us',f1,f2,rfl,rfl,h1,rfl,rfl⟩:=h;simpa [y4h]using h1
 | y::z::ys,us,h=>
  have hl:=h.length;have hne:¬ us.toArray.size=1:=by simp[hl]
  rw[dif_neg hne];simp only[y4h,Rep];exact⟨us,rfl,h⟩
theorem ya2 {f : FuncId} {fn : Func} {code : Code} {xs : List AV} {r : AV} {N : Nat} {rs : List ResultVar} {Γ : Env} (hΓ : TyOk P Γ) (hf : P.funcs[f]? = some fn) (hname : (fn.name == "runtime.NumGoroutine") = false) (hb : fn.body = some code)
  (hN:fn.ntmps=N) (hr:fn.results.toList=rs) (hlen:xs.length<=N) (hx:ywd xs=true) (h:∀ c:Ctx,yrd xs->c.nt=N->c.k0=0->AWP P c code (Ends Γ rs r) (fun _ _=>False) (Ends Γ rs r) ⟨pars 0 xs,[]⟩):Den P f xs r:=by
 refine⟨⟨fn,hf,hname,by rw[hb];rfl⟩,?_⟩;intro w M vs fpA hI hIM hA hAn hAm hM;have hfpA:fpA=[]:=y8h xs hx hA;subst hfpA
 have htop:y4 xs vs=[]:=by
  apply List.eq_nil_iff_forall_not_mem.2;intro b hb;have:=ync xs hA b hb;simp at this
 rw[htop]at hA ⊢;let c:Ctx:={ w0:=w,M0:=M,F0:=[],T0:=[],mu0:=yy,k0:=0,base0:=by simp[yy],nt:=N,cold0:=fun b hb=>⟨hM b hb,by simp⟩,own0:=by simp,top0:=by simp,inv0:=hI,invM:=fun b hb=>⟨(hIM b hb).1,by simp⟩}
 have hhot:∀ b,hot c.M0 (Hof []) yy b->M b:=by
  rintro b (hb|⟨id,cap,e,hm,_⟩)
  ·exact hb
  ·cases hm
 have hA':RepL w (hot c.M0 (Hof []) yy) xs yy vs []:=yye (fun b hb=>.inl (hhot b hb)) hA;have hvl:=hA.length;refine calls_of_wp hf hb ?_;refine wp_mono ((h c (RepL.lens xs hA) rfl rfl).run _ _ ⟨yy,fun _=>[],⟨⟨rfl,rfl,rfl,Nat.le_refl _,fun _ _ _=>rfl⟩,Map.le_refl _,?_,?_,?_,?_,?_,?_⟩,?_,?_,?_,rfl⟩) ?_
 ·intro id L hm;cases hm
 ·intro _ _;rfl
 ·intro _;simp
 ·intro i j _ b hb;simp at hb
 ·intro i b hb;simp at hb
 ·intro id b cap e hm;cases hm
 ·intro _ _;rfl
 ·intro i
  have:=ypk (k:=0) (i:=i) (rest:=(Array.replicate (fn.ntmps-vs.toArray.size) undef).toList) hA' (Nat.zero_le _)
  have e:(vs.toArray++Array.replicate (fn.ntmps-vs.toArray.size) undef).getD i undef=(((vs++(Array.replicate (fn.ntmps-vs.toArray.size) undef).toList)[i-0]?).getD undef):=by
   rw[Array.getD_eq_getD_getElem?, <- Array.getElem?_toList];simp
  rw[e];exact this
 ·simp only[Array.size_append,List.size_toArray,Array.size_replicate]
  show vs.length+(fn.ntmps-vs.length)=N;omega
 ·intro e a w' hp
  have main:∀ s',Ends Γ rs r s'->WRs c s' a w'->bodyPost P fn (fun e w'=>∃ v fpR,e=.returned v/\Keep w [] w'/\Rep w' (fun b=>M b\/b∈fpR) r yy v fpR/\fpR.Nodup /\
    (∀ b,b∈fpR->(b∈([]:List Nat)\/w.heap.size<=b)/\b<w'.heap.size)/\(∀ b,b∈tops r v->b∈([]:List Nat)\/w.heap.size<=b)) .ret a w':=by
   intro s' hE hs';simp only[Ends]at hE;split at hE
   ·rename_i xs0 o1 hres0
    split at hE
    ·rename_i ys h' ob habs
     obtain⟨ho1,ho,hflat,hpack⟩:=hE;obtain⟨μ,FP,hW,htl,h1,h2,h3⟩:=hs'
     have hmap:∃ us,(fn.results.toList.mapM (fun|.tmp t=>pure (a.tmps.getD t undef)|.cell b t=>do loadVar t (<- asAddr (a.tmps.getD b undef)):ResultVar->Sem Value)).run P w'=.ok us w'/\RepL w' (hot c.M0 (Hof s'.h) μ) xs0 μ us []:=by
      rw[hr];exact yxl hΓ hW a.tmps h1 (fun _=>rfl) (fun _ _=>rfl) hres0 ho1
     obtain⟨us,hrun,hres⟩:=hmap;obtain⟨K,fp,hr1,hgone,hown⟩:=yvg hW (fun _ _ he _=>he) hres habs ho;have htops:=ywg (fun _ _ he _=>he) hres habs
     have hnew:∀ b,b∈fp->w.heap.size<=b/\b<w'.heap.size:=by
      intro b hb;obtain⟨id,_,hid⟩:=hown.2 b hb;have:=hW.new id b hid;exact⟨this.1.resolve_left (by simp[c]),this.2⟩
     have hrL:RepL w' (fun b=>M b\/b∈fp) ys yy us fp:=by
      rcases hflat with hnb|hfl
      ·exact RepL.noBor ys hnb hr1
      ·refine RepL.mono ys (Map.le_refl _) ⟨Nat.le_refl _,fun b _ hb hh=>hb ?_,fun _ _ _=>rfl⟩ hr1
       rcases hh with hh|hh
       ·exact .inl hh
       ·exact htops b (y7c.tops ys hfl hr1 b hh)
     refine⟨h3,(if h:us.toArray.size=1 then us.toArray[0]else .tuple us.toArray),?_,_,fp,rfl,hW.keep,?_,hown.1,fun b hb=>⟨.inr (hnew b hb).1,(hnew b hb).2⟩,?_⟩
     ·unfold results
      rw[Sem.run_bind, <- Array.toArray_toList (xs:=fn.results),List.mapM_toArray];simp only[Sem.run_map];erw [hrun]
      rfl
     ·exact ytg _ _ hpack (yvk hrL)
     ·intro b hb
      right
      exact(hnew b (ych r (ytg _ _ hpack (yvk hrL)) b hb)).1
    ·exact hE.elim
   ·exact hE.elim
  cases e with
  | normal=>obtain⟨s',h1,h2⟩:=hp;exact main s' h1 h2
  | ret=>obtain⟨s',h1,h2⟩:=hp;exact main s' h1 h2
  | exit id=>obtain⟨s',h1,h2⟩:=hp;exact h1.elim
  | _=>exact hp.elim
end
end Go.Ab
