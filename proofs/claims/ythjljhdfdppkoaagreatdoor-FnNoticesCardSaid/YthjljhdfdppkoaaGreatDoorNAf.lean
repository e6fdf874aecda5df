/- A part of a proof: walks of functions and lemmas of our own. No conditions. -/
import Derived.Test.YthjljhdfdppkoaaGreatDoorNAe
import Derived.ProofKit
set_option linter.unusedSectionVars false
set_option linter.unusedVariables false
set_option linter.unusedSimpArgs false
namespace Go.Ab
open Go
variable [Inv]
omit [Inv]in
theorem nbeq (a b:Nat):Nat.beq a b=(a == b):=Bool.eq_iff_iff.2 (by simp)
def rho (n0 : Nat) : List Nat -> Nat -> Nat
 | [],j=>n0+j
 | i::_,0=>i
 | _::l,j+1=>rho (n0+1) l j
mutual
def simA (ρ : Nat -> Nat) : AV -> AV -> Prop
 | _,.any=>True
 | .int k n,.int k' n'=>k=k'/\n=n'
 | .bool b,.bool b'=>b=b'
 | .str l,.str l'=>l=l'
 | .nils,.nils=>True
 | .agg cs,.agg cs'=>simL ρ cs cs'
 | .tup cs,.tup cs'=>simL ρ cs cs'
 | .sl o e n f,.sl o' e' n' f'=>o=o'/\e=e'/\n=n'/\∀ i,i<n->f i=f' i
 | .ref id e off n,.ref id' e' off' n'=>id=ρ id'/\e=e'/\off=off'/\n=n'
 | .ptr id o,.ptr id' o'=>id=ρ id'/\o=o'
 | .pe id e i o,.pe id' e' i' o'=>id=ρ id'/\e=e'/\i=i'/\o=o'
 | .ep cs,.ep cs'=>cs=cs'
 | .fn f k cs,.fn f' k' cs'=>f=f'/\k=k'/\simL ρ cs cs'
 | .gd gs x,.gd gs' x'=>gs=gs'/\simA ρ x x'
 | .lit u x,.lit u' x'=>u=u'/\x=x'
 | _,_=>False
def simL (ρ : Nat -> Nat) : List AV -> List AV -> Prop
 | [],[]=>True
 | x::xs,x'::xs'=>simA ρ x x'/\simL ρ xs xs'
 | _,_=>False
end
def simE (ρ : Nat -> Nat) : Ent -> Ent -> Prop
 | _,.dead=>True
 | .box cs,.box cs'=>simL ρ cs cs'
 | .it l p m,.it l' p' m'=>l=l'/\p=p'/\m=m'
 | .arr T e n f,.arr T' e' n' f'=>T=T'/\e=e'/\n=n'/\∀ i,i<n->f i=f' i/\ysd (f' i)=true
 | _,_=>False
def simH (ρ : Nat -> Nat) (h : List Ent) : Nat -> List Ent -> Prop
  | _,[]=>True
  | j, e' :: h' => (match nthE h (ρ j) with
    | some e=>simE ρ e e'
    | none=>False)/\simH ρ h (j+1) h'
def simT (ρ : Nat -> Nat) (t : List (Nat × AV)) : List (Nat × AV) -> Prop
 | []=>True
 | (i,x')::t'=>simA ρ (get t i) x'/\simT ρ t t'
def simS (rl:List Nat) (s s':St):Prop:=
 rl.length=s'.h.length/\rl.Nodup/\simH (rho s.h.length rl) s.h 0 s'.h/\simT (rho s.h.length rl) s.t s'.t
theorem yq8 : ∀ (n0 : Nat) (rl : List Nat) (j : Nat), rl.length <= j -> n0 <= rho n0 rl j
 | n0,[],j,_=>by simp[rho]
 | n0,i::l,0,h=>by simp at h
 | n0,i::l,j+1,h=>by
  simp only[rho];have:=yq8 (n0+1) l j (by simpa using h);omega
theorem y8u : ∀ (n0 : Nat) (rl : List Nat) (j : Nat), j < rl.length -> rl[j]? = some (rho n0 rl j)
 | n0,[],j,h=>by simp at h
 | n0,i::l,0,h=>by simp[rho]
 | n0,i::l,j+1,h=>by
  simp only[rho,List.getElem?_cons_succ];exact y8u (n0+1) l j (by simpa using h)
section
variable {w:World} {M M':Nat->Prop} {μ:Map} {ρ:Nat->Nat}
mutual
theorem yap (hM : ∀ b, M' b -> M b) : ∀ (x' x : AV) {v : Value}, simA ρ x x' -> Rep w M x μ v [] -> Rep w M' x' (fun j => μ (ρ j)) v []
 | .any,x,v,hs,h=>by simp[Rep]
 | .lit u' y',x,v,hs,h=>by
  cases x<;>simp only[simA]at hs
  obtain⟨rfl,rfl⟩:=hs;simp only[Rep]at h ⊢;exact⟨trivial,h.2.1,yre hM h.2.2⟩
 | .int k' n',x,v,hs,h=>by
  cases x<;>simp only[simA]at hs
  obtain⟨rfl,rfl⟩:=hs;simpa only[Rep]using h
 | .bool b',x,v,hs,h=>by
  cases x<;>simp only[simA]at hs
  subst hs;simpa only[Rep]using h
 | .str b',x,v,hs,h=>by
  cases x<;>simp only[simA]at hs
  subst hs;simpa only[Rep]using h
 | .nils,x,v,hs,h=>by
  cases x<;>simp only[simA]at hs
  simpa only[Rep]using h
 | .op cs',x,v,hs,h=>by
  cases x<;>simp only[simA]at hs
 | .agg cs',x,v,hs,h=>by
  cases x<;>simp only[simA]at hs
  simp only[Rep]at h ⊢;obtain⟨us,e,h⟩:=h;exact⟨us,e,ywi hM cs' _ hs h⟩
 | .tup cs',x,v,hs,h=>by
  cases x<;>simp only[simA]at hs
  simp only[Rep]at h ⊢;obtain⟨us,e,h⟩:=h;exact⟨us,e,ywi hM cs' _ hs h⟩
 | .sl o' e' n' f',x,v,hs,h=>by
  cases x<;>simp only[simA]at hs
  obtain⟨rfl,rfl,rfl,hf⟩:=hs;have h:=yre hM h;simp only[Rep]at h ⊢;rcases h with h|⟨b,o,cap,us,fps,hv,hn,hb,hc,ho⟩
  ·exact .inl h
  ·exact .inr ⟨b,o,cap,us,fps,hv,hn,hb,fun i hi=>by rw[<- hf i hi];exact hc i hi,ho⟩
 | .ref id' e' off' n',x,v,hs,h=>by
  cases x<;>simp only[simA]at hs
  obtain⟨rfl,rfl,rfl,rfl⟩:=hs;simpa only[Rep]using h
 | .ptr id' o',x,v,hs,h=>by
  cases x<;>simp only[simA]at hs
  obtain⟨rfl,rfl⟩:=hs;simpa only[Rep]using h
 | .pe id' e' i' o',x,v,hs,h=>by
  cases x<;>simp only[simA]at hs
  obtain⟨rfl,rfl,rfl,rfl⟩:=hs;simpa only[Rep]using h
 | .ep cs',x,v,hs,h=>by
  cases x<;>simp only[simA]at hs
  subst hs;have h:=yre hM h;simpa only[Rep]using h
 | .fn f' k' cs',x,v,hs,h=>by
  cases x<;>simp only[simA]at hs
  obtain⟨rfl,rfl,hs⟩:=hs;simp only[Rep]at h ⊢;obtain⟨e0,us,e,h⟩:=h;exact⟨e0,us,e,ywi hM cs' _ hs h⟩
 | .gd gs' x',x,v,hs,h=>by
  cases x<;>simp only[simA]at hs
  obtain⟨rfl,hs⟩:=hs;simp only[Rep]at h ⊢;exact⟨h.1,fun hg=>yap hM x' _ hs (h.2.1 hg),h.2.2⟩
theorem ywi (hM : ∀ b, M' b -> M b) : ∀ (xs' xs : List AV) {us : List Value}, simL ρ xs xs' -> RepL w M xs μ us [] -> RepL w M' xs' (fun j => μ (ρ j)) us []
 | [],xs,us,hs,h=>by
  cases xs<;>simp only[simL]at hs
  simpa only[RepL]using h
 | x'::xs',xs,us,hs,h=>by
  cases xs<;>simp only[simL]at hs
  simp only[RepL]at h ⊢;obtain⟨u,us',f1,f2,rfl,e2,h1,h2⟩:=h;obtain⟨rfl,rfl⟩:=List.append_eq_nil_iff.1 e2.symm;exact⟨u,us',[],[],rfl,rfl,yap hM x' _ hs.1 h1,ywi hM xs' _ hs.2 h2⟩
end
theorem ytw {h : List Ent} : ∀ {h' : List Ent} {k j : Nat} {e' : Ent}, simH ρ h k h' -> nthE h' j = some e' -> ∃ e, nthE h (ρ (k + j)) = some e /\ simE ρ e e'
 | [],k,j,e',_,he=>by simp[nthE]at he
 | x::h',k,j,e',hs,he=>by
  simp only[simH]at hs;rw[yib]at he
  cases j with
  | zero=>
   simp only[List.getElem?_cons_zero,Option.some.injEq]at he;subst he;have:=hs.1;split at this
   ·rename_i e heq;exact⟨e,heq,this⟩
   ·exact this.elim
  | succ j=>
   simp only[List.getElem?_cons_succ]at he;have:=ytw (j:=j) hs.2 (by rw[yib];exact he);have e:k+(j+1)=k+1+j:=by omega
   rw[e];exact this
theorem yux {t : List (Nat × AV)} : ∀ {t' : List (Nat × AV)} (i : Nat), simT ρ t t' -> simA ρ (get t i) (get t' i)
 | [],i,_=>by simp[get,simA]
 | (j,x')::t',i,hs=>by
  simp only[simT]at hs;simp only[get]
  cases hb:Nat.beq i j with
  | true=>
   have:=Nat.eq_of_beq_eq_true hb;subst this;exact hs.1
  | false=>exact yux i hs.2
theorem yys {e e':Ent} (hs:simE ρ e e') (hl:e'.live=true):e.live=true:=by
 cases e'<;>cases e<;>simp_all[simE,Ent.live]
theorem ymab {e e':Ent} {L:Loc} {fp:List Nat} (hM:∀ b,M' b->M b) (hs:simE ρ e e') (h:ylc w M μ e L fp):ylc w M' (fun j=>μ (ρ j)) e' L (match e' with|.dead=>[]|_=>fp):=by
 cases e' with
 | dead=>simp[ylc]
 | box cs'=>
  cases e<;>simp only[simE]at hs
  simp only[ylc]at h ⊢;obtain⟨b,cap,us,T,h1,h2,h3,h4,h5⟩:=h;exact⟨b,cap,us,T,h1,h2,h3,h4,ywi hM _ _ hs h5⟩
 | it l p m=>
  cases e<;>simp only[simE]at hs
  obtain⟨rfl,rfl,rfl⟩:=hs;simpa only[ylc]using h
 | arr T' e' n' f'=>
  cases e<;>simp only[simE]at hs
  obtain⟨rfl,rfl,rfl,hf⟩:=hs
  cases L with
  | nil=>simpa only[ylc]using h
  | blk b cap=>
   simp only[ylc]at h ⊢;obtain⟨cur,us,fps,h1,h2,h3,h4,h5,h6⟩:=h;refine⟨cur,us,fps,h1,h2,h3,h4,fun i hi => ?_,h6⟩;have hq:=(hf i hi).2;rw[<- (hf i hi).1]at hq ⊢;exact⟨RepL.mono _ (Map.le_refl _) ⟨Nat.le_refl _,fun b _ hb h'=>hb (hM b h'),fun _ _ _=>rfl⟩ (y2b _ hq (h5 i hi).1),(h5 i hi).2⟩
end
def yyr : Nat -> Nat -> List Nat -> Bool
 | 0,_,_=>true
 | k+1,j,i::l=>Nat.beq i j && yyr k (j+1) l
 | _+1,_,[]=>false
theorem ycr : ∀ {k j0 : Nat} {rl : List Nat} (n0 : Nat), yyr k j0 rl = true -> ∀ j, j < k -> rho n0 rl j = j0 + j
 | 0,_,_,_,_,j,h=>by omega
 | k+1,_,[],_,h,_,_=>by simp[yyr]at h
 | k+1,j0,i::l,n0,h,j,hj=>by
  simp only[yyr,Bool.and_eq_true]at h
  cases j with
  | zero=>simpa [rho]using Nat.eq_of_beq_eq_true h.1
  | succ j=>
   simp only[rho];rw[ycr (n0+1) h.2 j (by omega)];omega
def simK (k:Nat) (rl:List Nat) (s s':St):Prop:=yyr k 0 rl=true/\simS rl s s'
theorem WRs.sim {c:Ctx} {rl:List Nat} {s s':St} {a:Act} {w:World} (hsim:simK c.k0 rl s s') (hs:WRs c s a w):WRs c s' a w:=by
 obtain⟨hfix,hlen,hnd,hH,hT⟩:=hsim;have hfix:=ycr s.h.length hfix;obtain⟨μ,FP,hW,htl,h1,h2,h3⟩:=hs;generalize hρ:rho s.h.length rl=ρ at hH hT hfix;have hbig:∀ j,rl.length<=j->μ (ρ j)=none:=fun j hj=>htl _ (by rw[<- hρ];exact yq8 _ _ _ hj)
 have hinj:∀ i j,i≠j->i<rl.length->j<rl.length->ρ i≠ρ j:=by
  intro i j hij hi hj e;have e1:=y8u s.h.length rl i hi;have e2:=y8u s.h.length rl j hj;rw[hρ]at e1 e2;rw[e]at e1;exact hij ((List.getElem?_inj hi hnd).1 (by rw[e1,e2]))
 have hsmall:∀ j,j<rl.length->∃ e e',nthE s'.h j=some e'/\nthE s.h (ρ j)=some e/\simE ρ e e':=by
  intro j hj;have:∃ e',nthE s'.h j=some e':=⟨s'.h[j],by rw[yib,List.getElem?_eq_getElem (by omega)]⟩
  obtain⟨e',he'⟩:=this;obtain⟨e,he,hs⟩:=ytw hH he';rw[Nat.zero_add]at he;exact⟨e,e',he',he,hs⟩
 have hsome:∀ j L,μ (ρ j)=some L->j<rl.length:=fun j L hj=>Nat.lt_of_not_le fun h=>by rw[hbig j h]at hj;cases hj
 have hhot:∀ b,hot c.M0 (Hof s'.h) (fun j=>μ (ρ j)) b->hot c.M0 (Hof s.h) μ b:=by
  rintro b (hb|⟨id,cap,e',hm,he,hl⟩)
  ·exact .inl hb
  ·obtain⟨e,e2,he2,heo,hse⟩:=hsmall id (hsome id _ hm)
   have he':nthE s'.h id=some e':=he;rw[he2]at he';cases he';exact .inr ⟨ρ id,cap,e,hm,heo,yys hse hl⟩
 let FP' : Nat -> List Nat := fun j => match nthE s'.h j with
  | some .dead=>[]
  | _=>FP (ρ j)
 have hFP:∀ j b,b∈FP' j->b∈FP (ρ j):=by
  intro j b hb;simp only[FP']at hb;split at hb
  ·simp at hb
  ·exact hb
 refine⟨fun j=>μ (ρ j),FP',⟨hW.keep,fun j L hj=>by rw[hfix j (c.base0 j L hj),Nat.zero_add];exact hW.base j L hj,?_,?_,?_,?_,?_,?_⟩,?_,?_,h2,h3⟩
 ·intro id L hm
  obtain⟨e,e',he',he,hse⟩:=hsmall id (hsome id _ hm);obtain⟨e2,he2,hok⟩:=hW.ent (ρ id) L hm;have heo:Hof s.h (ρ id)=some e:=he;rw[heo]at he2;cases he2;refine⟨e',he',?_⟩;have:=ymab hhot hse hok;simp only[FP',he'];cases e'<;>exact this
 ·intro id hm
  simp only[FP'];split
  ·rfl
  ·exact hW.out _ hm
 ·intro id
  simp only[FP'];split
  ·simp
  ·exact hW.nodup _
 ·intro i j hij b hbi hbj
  have hbi:=hFP i b hbi;have hbj:=hFP j b hbj;have lt:∀ k,b∈FP (ρ k)->k<rl.length:=fun k hk=>Nat.lt_of_not_le fun h=>by rw[hW.out _ (hbig k h)]at hk;simp at hk
  exact hW.disj _ _ (hinj i j hij (lt i hbi) (lt j hbj)) b hbi hbj
 ·intro id b hb
  exact hW.new _ b (hFP id b hb)
 ·intro id b cap e' hm he hl
  obtain⟨e,e2,he2,heo,hse⟩:=hsmall id (hsome id _ hm);have he':nthE s'.h id=some e':=he;rw[he2]at he';cases he';exact hW.top _ b cap e hm heo (yys hse hl)
 ·intro id hid
  exact hbig id (by omega)
 ·intro i
  exact yap hhot _ _ (yux i hT) (h1 i)
section
variable {P:Program} {c:Ctx} {N:St->Prop} {E:Nat->St->Prop} {R:St->Prop} {s:St}
theorem AWP.sim {code:Code} {s':St} (rl:List Nat) (h:AWP P c code N E R s') (hs:simK c.k0 rl s s'):AWP P c code N E R s:=⟨fun a w hw=>h.run a w (hw.sim hs)⟩
theorem AWP.loop {ι : Type} (I : ι -> St) (V : ι -> Prop) (m : ι -> Nat) {body : Code} (i0 : ι) (h0 : V i0) (rl : List Nat) (hs : simK c.k0 rl s (I i0))
  (round:∀ i,V i->AWP P c body (fun s'=>∃ j rl,V j/\m j<m i/\simK c.k0 rl s' (I j)) E R (I i)):AWP P c (.loop body) N E R s:=by
 refine⟨fun a w hw => ?_⟩;let J:Act->World->Prop:=fun a w=>∃ i,V i/\WRs c (I i) a w
 let B:Act->World->Nat->Prop:=fun a w n=>∃ i,V i/\WRs c (I i) a w/\m i=n
 have least:∀ a w,J a w->∃ n,B a w n/\∀ k,B a w k->n<=k:=by
  rintro a w ⟨i,hi,hw⟩
  have:∀ n,B a w n->∃ n,B a w n/\∀ k,B a w k->n<=k:=by
   intro n
   induction n using Nat.strongRecOn with
   | _ n ih=>
    intro hn;by_cases h:∃ k,k<n/\B a w k
    ·obtain⟨k,hk,hb⟩:=h
     exact ih k hk hb
    ·exact⟨n,hn,fun k hk=>Nat.le_of_not_lt fun hlt=>h ⟨k,hlt,hk⟩⟩
  exact this (m i) ⟨i,hi,hw,rfl⟩
 classical
 let μ:Act->World->Nat:=fun a w=>if h:J a w then(least a w h).choose else 0
 have hμ:∀ a w (h:J a w),B a w (μ a w)/\∀ k,B a w k->μ a w<=k:=by
  intro a w h;have:μ a w=(least a w h).choose:=dif_pos h;rw[this];exact(least a w h).choose_spec
 refine wp_loop J μ ⟨i0,h0,hw.sim hs⟩ ?_;intro a w hJ;obtain⟨⟨i,hi,hwi,hmi⟩,_⟩:=hμ a w hJ;refine wp_mono ((round i hi).run a w hwi) ?_;intro e a' w' hp
 cases e with
 | normal=>
  obtain⟨s',⟨j,rl',hj,hlt,hsim⟩,hw'⟩:=hp;have hwj:=hw'.sim hsim;have hJ':J a' w':=⟨j,hj,hwj⟩
  refine⟨hJ',?_⟩;have:=(hμ a' w' hJ').2 (m j) ⟨j,hj,hwj,rfl⟩;omega
 | exit id=>exact hp
 | ret=>exact hp
 | _=>exact hp.elim
end
end Go.Ab
namespace Go.Ab
open Go
variable [Inv]
theorem yy4:allP []=True:=rfl
abbrev DF:=List AV->Option (AV×Bool×List Prop)
structure DE where
 d:DF
 md:Option (List Bool)
 m:List AV->Option (AV×List AV×List Prop)
 hh:List AV->List Ent->Option (AV×List Ent×List Prop)
def dP (d:DF):DE:=⟨d,none,fun _=>none,fun _ _=>none⟩
def dM (ms:List Bool) (m:List AV->Option (AV×List AV×List Prop)):DE:=⟨fun _=>none,some ms,m,fun _ _=>none⟩
abbrev DHF:=List AV->List Ent->Option (AV×List Ent×List Prop)
def dH (m:DHF):DE:=⟨fun _=>none,some [],fun _=>none,m⟩
def ddD : List (FuncId × DE) -> FuncId -> List AV -> Option (AV × Bool × List Prop)
 | [],_,_=>none
 | (g,d)::r,f,xs=>bif Nat.beq f g then d.d xs else ddD r f xs
def ddMd : List (FuncId × DE) -> FuncId -> Option (List Bool)
 | [],_=>none
 | (g,d)::r,f=>bif Nat.beq f g then d.md else ddMd r f
def ddM : List (FuncId × DE) -> FuncId -> List AV -> Option (AV × List AV × List Prop)
 | [],_,_=>none
 | (g,d)::r,f,xs=>bif Nat.beq f g then d.m xs else ddM r f xs
def ddH : List (FuncId × DE) -> FuncId -> List AV -> List Ent -> Option (AV × List Ent × List Prop)
 | [],_,_,_=>none
 | (g,d)::r,f,xs,h=>bif Nat.beq f g then d.hh xs h else ddH r f xs h
def DD (l:List (FuncId×DE)):Dn:=⟨ddD l,ddMd l,ddM l,ddH l⟩
structure OkE (P:Program) (f:FuncId) (x:DE):Prop where
 d:∀ xs r z ob,x.d xs=some (r,z,ob)->allP ob->Den P f xs r
 m:∀ xs r outs ob,x.m xs=some (r,outs,ob)->allP ob->DenM P f xs r outs
 hh:∀ xs h r h' ob,x.hh xs h=some (r,h',ob)->allP ob->DenH P f xs h r h'
def OkH (P:Program) (f:FuncId) (d:DHF):Prop:=∀ xs h r h' ob,d xs h=some (r,h',ob)->allP ob->DenH P f xs h r h'
def OkD (P:Program) (f:FuncId) (d:DF):Prop:=∀ xs r z ob,d xs=some (r,z,ob)->allP ob->Den P f xs r
def OkM (P:Program) (f:FuncId) (m:List AV->Option (AV×List AV×List Prop)):Prop:=∀ xs r outs ob,m xs=some (r,outs,ob)->allP ob->DenM P f xs r outs
theorem OkD.e {P:Program} {f:FuncId} {d:DF} (h:OkD P f d):OkE P f (dP d):=⟨h,fun _ _ _ _ h=>by simp[dP]at h,fun _ _ _ _ _ h=>by simp[dP]at h⟩
theorem OkM.e {P:Program} {f:FuncId} {ms:List Bool} {m:List AV->Option (AV×List AV×List Prop)} (h:OkM P f m):OkE P f (dM ms m):=⟨fun _ _ _ _ h=>by simp[dM]at h,h,fun _ _ _ _ _ h=>by simp[dM]at h⟩
theorem OkH.e {P:Program} {f:FuncId} {m:DHF} (h:OkH P f m):OkE P f (dH m):=⟨fun _ _ _ _ h=>by simp[dH]at h,fun _ _ _ _ h=>by simp[dH]at h,h⟩
theorem yf (P:Program):DOk P (DD []):=⟨fun _ _ _ _ _ h=>by simp[DD,ddD]at h,fun _ _ _ _ _ h=>by simp[DD,ddM]at h,fun _ _ _ _ _ _ h=>by simp[DD,ddH]at h⟩
theorem ya {P:Program} {g:FuncId} {d:DE} {l:List (FuncId×DE)} (h:OkE P g d) (hl:DOk P (DD l)):DOk P (DD ((g,d)::l)):=by
 constructor
 ·intro f xs r z ob hd ho
  simp only[DD,ddD]at hd
  cases hb:Nat.beq f g with
  | true=>
   rw[hb]at hd;have:=Nat.eq_of_beq_eq_true hb;subst this;exact h.d xs r z ob hd ho
  | false=>
   rw[hb]at hd;exact hl.d f xs r z ob hd ho
 ·intro f xs r z ob hd ho
  simp only[DD,ddM]at hd
  cases hb:Nat.beq f g with
  | true=>
   rw[hb]at hd;have:=Nat.eq_of_beq_eq_true hb;subst this;exact h.m xs r z ob hd ho
  | false=>
   rw[hb]at hd;exact hl.m f xs r z ob hd ho
 ·intro f xs k r k' ob hd ho
  simp only[DD,ddH]at hd
  cases hb:Nat.beq f g with
  | true=>
   rw[hb]at hd;have:=Nat.eq_of_beq_eq_true hb;subst this;exact h.hh xs k r k' ob hd ho
  | false=>
   rw[hb]at hd;exact hl.hh f xs k r k' ob hd ho
def yh8 : Op -> Bool
  | .assign _=>true
  | .store .. => true
  | .box .. => true
  | .alloc _=>true
  | .buildSlice .. => true
  | .makeSlice .. => true
  | .range .. => true
  | .next .. => true
  | .call c => match c.callee with
    | .builtin .append=>true
    | .builtin .clear=>true
    | _=>false
  | _=>false
def yl9 : List Oper -> Nat
 | []=>0
 | o::os=>bif yh8 o.op then 0 else yl9 os+1
def encL {α:Type} [Inhabited α] (e:Nat) (enc:α->List AV) (l:List α):AV:=.sl none e l.length (fun i=>enc (l.getD i default))
def ownL {α:Type} [Inhabited α] (T:TypeId) (e:Nat) (enc:α->List AV) (l:List α):AV:=.sl (some T) e l.length (fun i=>enc (l.getD i default))
def decL {α:Type} (dec:List AV->α) (n:Nat) (f:Nat->List AV):List α:=(List.range n).map fun i=>dec (f i)
omit [Inv]in
theorem yqm {α:Type} (dec:List AV->α) (n:Nat) (f:Nat->List AV):(decL dec n f).length=n:=by simp[decL]
omit [Inv]in
theorem y7s {α:Type} [Inhabited α] (dec:List AV->α) (n:Nat) (f:Nat->List AV) (i:Nat) (hi:i<n):(decL dec n f).getD i default=dec (f i):=by
 simp[decL,List.getD_eq_getElem?_getD,hi]
omit [Inv]in
theorem yyb {α:Type} [Inhabited α] (l:List α):(List.range l.length).map (fun i=>l.getD i default)=l:=by
 apply List.ext_getElem
 ·simp
 ·intro i h1 h2
  simp[List.getD_eq_getElem?_getD,h2]
theorem Den.sim {P:Program} {f:FuncId} {xs xs':List AV} {r:AV} (h:Den P f xs' r) (hs:ydc xs xs') (hx:ywd xs=true) (hx':ywd xs'=true):Den P f xs r:=by
 refine⟨h.1,?_⟩;intro w M vs fpA hI hIM hA hAn hAm hM
 have htop:∀ {ys:List AV},RepL w (fun b=>M b\/b∈y4 xs vs) ys yy vs []->y4 ys vs=[]:=by
  intro ys hy;apply List.eq_nil_iff_forall_not_mem.2;intro b hb;have:=ync ys hy b hb;simp at this
 have hfp:fpA=[]:=y8h xs hx hA;subst hfp;have hA':=yhc xs xs' hs hA;have h1:=htop hA;have h2:=htop hA';have:=h.2 w M vs [] hI hIM (by rw[h2];rw[h1]at hA';exact hA') hAn hAm hM;rw[h1];rw[h2]at this;exact this
theorem yo0 {α:Type} [Inhabited α] {e n:Nat} {x:Nat->List AV} (enc:α->List AV) (dec:List AV->α) (h:∀ i,i<n->ydc (x i) (enc (dec (x i)))):simO (.sl none e n x) (encL e enc (decL dec n x)):=by
 simp only[simO,encL,yqm,true_and];intro i hi;rw[y7s dec n x i hi];exact h i hi
omit [Inv]in
theorem yt9 (a b:Bool):(bif a then b else false)=(a && b):=by cases a<;>rfl
omit [Inv]in
theorem yrbb (a b:Bool):(bif a then true else b)=(a || b):=by cases a<;>rfl
end Go.Ab
namespace Go.Ab
open Go Go.ChangeShapes Go.WideShapes Go.ChangeAt Go.RowKit
variable [Inv]
theorem Keep.below {W W':World} (h:Keep W [] W'):Below W.heap.size W W':=⟨h.os,h.tape,h.output,h.size,fun k hk=>h.block k hk (by simp)⟩
theorem Keep.kept {W W':World} (h:Keep W [] W') (may:MemPlace->Prop):W.keptBut W' may:=by
 refine⟨h.os,h.output,fun i hi => ?_⟩;rw[h.block i hi (by simp)];split<;>simp_all
theorem yei {H:Type} {enc:TypeId×Value->H} {P:Program} (hl:laidOutB P=true) {W W':World} (hb:Below W.heap.size W W') :
  ∀ {ts:List TypeId} {vs:List Value} {ds:List (DataW H)} {ps:List MemPlace},(ts.all fun t=>P.readableRec t && decide (t<P.types.size))=true->(∀ x∈ps,x.block<W.heap.size) ->
   DataW.TrodAll enc P W 0 (fun _=>true) true ts vs ds ps->DataW.TrodAll enc P W' 0 (fun b=>decide (b<W.heap.size)) true ts vs ds ps
 | [],[],[],ps,_,_,h=>h
 | t::ts,v::vs,d::ds,ps,ht,hlt,h=>by
  obtain⟨p,q,h1,h2,rfl⟩:=h;simp only[List.all_cons,Bool.and_eq_true,decide_eq_true_eq]at ht;refine⟨p,q,Below.trod hl ht.1.1 ht.1.2 h1 hb (fun x hx=>hlt x (by simp[hx])),yei hl hb ?_ (fun x hx=>hlt x (by simp[hx])) h2,rfl⟩;simpa using ht.2
 | [],_::_,_,_,_,_,h=>h.elim
 | [],[],_::_,_,_,_,h=>h.elim
 | _::_,[],_,_,_,_,h=>h.elim
 | _::_,_::_,[],_,_,_,h=>h.elim
theorem yx3 {H : Type} {enc : TypeId × Value -> H} {P : Program} {f : FuncId} {fn : Func} {s : ChangeSpec} {W : World} {args : Array Value} {ds gs : List (DataW H)} {before : List MemPlace} {xs : List AV} {tb : TypeId}
  (hl:laidOutB P=true) (hres:fn.resultTypes = #[tb]) (htb:P.underlying tb=some .bool) (hvars:s.vars=[]) (hts:(fn.params.toList.all fun t=>P.readableRec t && decide (t<P.types.size))=true)
  (hs:∀ p,DataW.TrodAll enc P W 0 (fun _=>true) true fn.params.toList args.toList ds p->(s.fn H (ds++gs)).results=[.lit (.bool true)]/\(s.fn H (ds++gs)).args=ds/\(s.fn H (ds++gs)).vars=[])
  (hW:DataW.Whole enc P fn.params.toList s.vars false W args.toList ds gs before)
  (hI:Inv.ok W) (hD:Den P f xs (.bool true)) (hx:RepL W (fun _=>False) xs yy args.toList []) :
  Calls P f args W fun e W'=>∃ v,e=.returned v/\s.post enc P fn false true false false W args v W':=by
 have htop:y4 xs args.toList=[]:=by
  apply List.eq_nil_iff_forall_not_mem.2;intro b hb;have:=ync xs hx b hb;simp at this
 have hc:=hD.2 W (fun _=>False) args.toList [] hI (by simp) (by rw[htop];simpa using hx) (by simp) (by simp) (by simp);rw[htop]at hc;simp only[Array.toArray_toList]at hc;refine hc.mono ?_;rintro e W' ⟨v,fpR,rfl,hK,hr,_⟩
 refine⟨v,rfl,?_⟩;have hv:=hr.val_bool;subst hv;have hlt:=hW.lt;obtain⟨p,q,hA,hV,hbe,hfz,hnd⟩:=id hW;obtain⟨h1,h2,h3⟩:=hs p hA
 have hq:q=[]:=by
  rw[hvars]at hV
  cases gs with
  | nil=>exact hV
  | cons _ _=>exact hV.elim
 refine⟨ds,gs,before,[],p,[],hW,?_,?_,?_,hK.kept _,by simp⟩
 ·rw[h1,hres]
  exact⟨[],[],⟨1,by simp[DataW.trod,htb,Value.cells]⟩,rfl,rfl⟩
 ·rw[h2]
  exact yei hl hK.below hts (fun x hx=>hlt x (by rw[hbe];simp[hx])) hA
 ·rw[h3,hvars]
  rfl
end Go.Ab
namespace Go.Ab
open Go
variable [Inv]
def posC : AV -> AV
 | .ref id e off n=>.ref id e off n
 | .ptr id off=>.ptr id off
 | _=>.any
def posV : AV -> AV
 | .agg cs=>.agg (cs.map posC)
 | x=>posC x
def posL : List Bool -> List AV -> List AV
 | true::gb,x::xs=>posV x::posL gb xs
 | _::gb,_::xs=>.any::posL gb xs
 | [],_::xs=>.any::posL [] xs
 | _,[]=>[]
def ygz (h : List Ent) : AV -> Option (AV × List Ent × List Prop)
 | .ref id e off n=>absC h (.ref id e off n)
 | .ptr id off=>absC h (.ptr id off)
 | _=>some (.any,h,[])
def ymp (h : List Ent) : List AV -> Option (List AV × List Ent × List Prop)
  | []=>some ([],h,[])
  | x :: xs => match ygz h x with
    | some (y, h1, o1) => match ymp h1 xs with
      | some (ys,h2,o2)=>some (y::ys,h2,o1++o2)
      | none=>none
    | none=>none
def y71 (h : List Ent) : AV -> Option (AV × List Ent × List Prop)
  | .agg cs => match ymp h cs with
    | some (ys,h',ob)=>some (.agg ys,h',ob)
    | none=>none
  | x=>ygz h x
def y2h (h : List Ent) : List AV -> Option (List AV × List Ent × List Prop)
  | []=>some ([],h,[])
  | x :: xs => match y71 h x with
    | some (y, h1, o1) => match y2h h1 xs with
      | some (ys,h2,o2)=>some (y::ys,h2,o1++o2)
      | none=>none
    | none=>none
def y3u (Γ:Env) (rs:List ResultVar) (bk:List AV) (r:AV) (outs:List AV) (s:St):Prop:=
  match resA Γ s rs with
  | some (xs, o1) => match ybc s.h xs with
    | some (ys, h', ob) => match y2h h' bk with
      | some (zs,_,ob2)=>allP o1/\allP ob/\allP ob2/\(y5b ys/\y5b zs\/y7c ys/\y7c zs)/\simO (y4h ys) r/\ydc zs outs
      | none=>False
    | none=>False
  | none=>False
section
variable {P:Program} {c:Ctx} {μ:Map} {FP:Nat->List Nat} {w:World} {h0:List Ent}
theorem ykw {w w':World} {M M':Nat->Prop} {μ μ':Map} (hμ:μ.le μ') {x:AV} {v:Value} (h:Rep w M x μ v []):Rep w' M' (posC x) μ' v []:=by
 unfold posC;split
 ·simp only[Rep]at h ⊢
  refine⟨trivial,?_⟩;have h2:=h.2;rename_i id e off n
  cases hm:μ id with
  | none=>simp[hm]at h2
  | some L=>rw[hμ id L hm];simpa [hm]using h2
 ·simp only[Rep]at h ⊢
  obtain⟨_,b,cap,hm,hv⟩:=h;exact⟨trivial,b,cap,hμ _ _ hm,hv⟩
 ·simp[Rep]
theorem y0s {w w' : World} {M M' : Nat -> Prop} {μ μ' : Map} (hμ : μ.le μ') : ∀ {xs : List AV} {vs : List Value}, RepL w M xs μ vs [] -> RepL w' M' (xs.map posC) μ' vs []
 | [],vs,h=>by simpa [RepL]using h
 | x::xs,vs,h=>by
  simp only[RepL,List.map_cons]at h ⊢;obtain⟨u,us',f1,f2,rfl,e2,h1,h2⟩:=h;obtain⟨rfl,rfl⟩:=List.append_eq_nil_iff.1 e2.symm;exact⟨u,us',[],[],rfl,rfl,ykw hμ h1,y0s hμ h2⟩
theorem yu2 {w w':World} {M M':Nat->Prop} {μ μ':Map} (hμ:μ.le μ') {x:AV} {v:Value} (h:Rep w M x μ v []):Rep w' M' (posV x) μ' v []:=by
 unfold posV;split
 ·simp only[Rep]at h ⊢
  obtain⟨us,e,h⟩:=h;exact⟨us,e,y0s hμ h⟩
 ·exact ykw hμ h
theorem yik {w w' : World} {M M' : Nat -> Prop} {μ μ' : Map} (hμ : μ.le μ') : ∀ {gb : List Bool} {xs : List AV} {vs : List Value}, RepL w M xs μ vs [] -> RepL w' M' (posL gb xs) μ' vs []
 | gb,[],vs,h=>by cases gb<;>simpa [RepL,posL]using h
 | gb,x::xs,vs,h=>by
  simp only[RepL]at h;obtain⟨u,us',f1,f2,rfl,e2,h1,h2⟩:=h;obtain⟨rfl,rfl⟩:=List.append_eq_nil_iff.1 e2.symm
  have any:∀ gb,RepL w' M' (.any::posL gb xs) μ' (u::us') []:=fun gb=>by
   simp only[RepL];exact⟨u,us',[],[],rfl,rfl,by simp[Rep],yik hμ h2⟩
  cases gb with
  | nil=>simp only[posL];exact any []
  | cons b gb=>
   cases b with
   | false=>simp only[posL];exact any gb
   | true=>
    simp only[posL,RepL];exact⟨u,us',[],[],rfl,rfl,yu2 hμ h1,yik hμ h2⟩
theorem y7n (hW : WR c (Hof h0) μ FP w) {h h' : List Ent} {x y : AV} {v : Value} {ob : List Prop} (hsub : ∀ (id : Nat) (e : Ent), nthE h id = some e -> e.live = true -> nthE h0 id = some e)
  (hx:Rep w (hot c.M0 (Hof h0) μ) x μ v []) (ha:ygz h x=some (y,h',ob)) (ho:allP ob) :
  ∃ K fp,Rep w (hot c.M0 (Hof h0) μ) y yy v fp/\Gone h h' K/\Owns FP K fp/\∀ b,b∈tops y v->hot c.M0 (Hof h0) μ b:=by
 unfold ygz at ha;split at ha
 ·obtain⟨K,fp,h1,h2,h3⟩:=yki hW hsub hx ha ho
  exact⟨K,fp,h1,h2,h3,ydi hsub hx ha⟩
 ·obtain⟨K,fp,h1,h2,h3⟩:=yki hW hsub hx ha ho
  exact⟨K,fp,h1,h2,h3,ydi hsub hx ha⟩
 ·simp only[Option.some.injEq,Prod.mk.injEq]at ha
  obtain⟨rfl,rfl,rfl⟩:=ha;exact⟨[],[],by simp[Rep],Gone.refl _,by simp[Owns],by simp[tops,yec]⟩
theorem y3m (hW:WR c (Hof h0) μ FP w):∀ {xs:List AV} {h h':List Ent} {ys:List AV} {us:List Value} {ob:List Prop},(∀ (id:Nat) (e:Ent),nthE h id=some e->e.live=true->nthE h0 id=some e) ->
  RepL w (hot c.M0 (Hof h0) μ) xs μ us []->ymp h xs=some (ys,h',ob)->allP ob ->
  ∃ K fp,RepL w (hot c.M0 (Hof h0) μ) ys yy us fp/\Gone h h' K/\Owns FP K fp/\∀ b,b∈y4 ys us->hot c.M0 (Hof h0) μ b
 | [],h,h',ys,us,ob,hsub,hx,ha,_=>by
  simp only[ymp,Option.some.injEq,Prod.mk.injEq]at ha;obtain⟨rfl,rfl,rfl⟩:=ha;simp only[RepL]at hx;exact⟨[],[],by simp only[RepL];exact⟨hx.1,trivial⟩,Gone.refl _,by simp[Owns],by simp[y4]⟩
 | x::xs,h,h',ys,us,ob,hsub,hx,ha,ho=>by
  simp only[ymp]at ha
  cases h1:ygz h x with
  | none=>simp[h1]at ha
  | some p=>
   obtain⟨y,h2,o1⟩:=p;simp only[h1]at ha
   cases h3:ymp h2 xs with
   | none=>simp[h3]at ha
   | some q=>
    obtain⟨ys',h4,o2⟩:=q;simp only[h3,Option.some.injEq,Prod.mk.injEq]at ha;obtain⟨rfl,rfl,rfl⟩:=ha;obtain⟨ho1,ho2⟩:=yn.1 ho;simp only[RepL]at hx;obtain⟨u,us',f1,f2,rfl,e2,hu,hus⟩:=hx;obtain⟨rfl,rfl⟩:=List.append_eq_nil_iff.1 e2.symm;obtain⟨K1,g1,r1,go1,ow1,t1⟩:=y7n hW hsub hu h1 ho1;obtain⟨K2,g2,r2,go2,ow2,t2⟩:=y3m hW (fun id e he hl=>hsub id e (go1.sub id e he hl) hl) hus h3 ho2;refine⟨K1++K2,g1++g2,by simp only[RepL];exact⟨u,us',g1,g2,rfl,rfl,r1,r2⟩,go1.trans go2,Owns.app hW go1 go2 ow1 ow2,?_⟩;intro b hb;simp only[y4,List.mem_append]at hb;exact hb.elim (t1 b) (t2 b)
theorem ybz (hW : WR c (Hof h0) μ FP w) {h h' : List Ent} {x y : AV} {v : Value} {ob : List Prop} (hsub : ∀ (id : Nat) (e : Ent), nthE h id = some e -> e.live = true -> nthE h0 id = some e)
  (hx:Rep w (hot c.M0 (Hof h0) μ) x μ v []) (ha:y71 h x=some (y,h',ob)) (ho:allP ob) :
  ∃ K fp,Rep w (hot c.M0 (Hof h0) μ) y yy v fp/\Gone h h' K/\Owns FP K fp/\∀ b,b∈tops y v->hot c.M0 (Hof h0) μ b:=by
 cases x with
 | agg cs=>
  simp only[y71]at ha
  cases h1:ymp h cs with
  | none=>simp[h1]at ha
  | some p=>
   obtain⟨ys,h2,o1⟩:=p;simp only[h1,Option.some.injEq,Prod.mk.injEq]at ha;obtain⟨rfl,rfl,rfl⟩:=ha;simp only[Rep]at hx;obtain⟨us,rfl,hus⟩:=hx;obtain⟨K,fp,r,g,o,t⟩:=y3m hW hsub hus h1 ho;exact⟨K,fp,by simp only[Rep];exact⟨us,rfl,r⟩,g,o,by simpa only[tops]using t⟩
 | _=>exact y7n hW hsub hx ha ho
theorem yih (hW:WR c (Hof h0) μ FP w):∀ {xs:List AV} {h h':List Ent} {ys:List AV} {us:List Value} {ob:List Prop},(∀ (id:Nat) (e:Ent),nthE h id=some e->e.live=true->nthE h0 id=some e) ->
  RepL w (hot c.M0 (Hof h0) μ) xs μ us []->y2h h xs=some (ys,h',ob)->allP ob ->
  ∃ K fp,RepL w (hot c.M0 (Hof h0) μ) ys yy us fp/\Gone h h' K/\Owns FP K fp/\∀ b,b∈y4 ys us->hot c.M0 (Hof h0) μ b
 | [],h,h',ys,us,ob,hsub,hx,ha,_=>by
  simp only[y2h,Option.some.injEq,Prod.mk.injEq]at ha;obtain⟨rfl,rfl,rfl⟩:=ha;simp only[RepL]at hx;exact⟨[],[],by simp only[RepL];exact⟨hx.1,trivial⟩,Gone.refl _,by simp[Owns],by simp[y4]⟩
 | x::xs,h,h',ys,us,ob,hsub,hx,ha,ho=>by
  simp only[y2h]at ha
  cases h1:y71 h x with
  | none=>simp[h1]at ha
  | some p=>
   obtain⟨y,h2,o1⟩:=p;simp only[h1]at ha
   cases h3:y2h h2 xs with
   | none=>simp[h3]at ha
   | some q=>
    obtain⟨ys',h4,o2⟩:=q;simp only[h3,Option.some.injEq,Prod.mk.injEq]at ha;obtain⟨rfl,rfl,rfl⟩:=ha;obtain⟨ho1,ho2⟩:=yn.1 ho;simp only[RepL]at hx;obtain⟨u,us',f1,f2,rfl,e2,hu,hus⟩:=hx;obtain⟨rfl,rfl⟩:=List.append_eq_nil_iff.1 e2.symm;obtain⟨K1,g1,r1,go1,ow1,t1⟩:=ybz hW hsub hu h1 ho1;obtain⟨K2,g2,r2,go2,ow2,t2⟩:=yih hW (fun id e he hl=>hsub id e (go1.sub id e he hl) hl) hus h3 ho2;refine⟨K1++K2,g1++g2,by simp only[RepL];exact⟨u,us',g1,g2,rfl,rfl,r1,r2⟩,go1.trans go2,Owns.app hW go1 go2 ow1 ow2,?_⟩;intro b hb;simp only[y4,List.mem_append]at hb;exact hb.elim (t1 b) (t2 b)
mutual
theorem yam {w : World} {M : Nat -> Prop} {μ : Map} : ∀ (x x' : AV) {v : Value} {fp : List Nat}, simO x x' -> Rep w M x μ v fp -> tops x' v = tops x v
 | .sl o e n f,x',v,fp,hs,h=>by
  cases x' with
  | sl o' e' n' f'=>
   simp only[simO]at hs;obtain⟨rfl,rfl,rfl,hf⟩:=hs;cases o<;>cases v<;>first|rfl|(rename_i a _ _;cases a<;>rfl)
  | _=>simp[simO]at hs
 | .agg cs,x',v,fp,hs,h=>by
  cases x' with
  | agg cs'=>
   simp only[simO]at hs;simp only[Rep]at h;obtain⟨us,rfl,h⟩:=h;simp only[tops];exact yud cs cs' hs h
  | _=>simp[simO]at hs
 | .op cs,x',v,fp,hs,h=>by
  cases x' with
  | op cs'=>
   simp only[Rep]at h;obtain⟨b,us,T,rfl,_⟩:=h;rfl
  | _=>simp[simO]at hs
 | .tup cs,x',v,fp,hs,h=>by
  cases x' with
  | tup cs'=>
   simp only[simO]at hs;simp only[Rep]at h;obtain⟨us,rfl,h⟩:=h;simp only[tops];exact yud cs cs' hs h
  | _=>simp[simO]at hs
 | .int k n,x',v,fp,hs,h=>by
  cases x' with
  | int k' n'=>simp only[simO]at hs;obtain⟨rfl,rfl⟩:=hs;rfl
  | _=>simp[simO]at hs
 | .bool k,x',v,fp,hs,h=>by
  cases x' with
  | bool k'=>simp only[simO]at hs;subst hs;rfl
  | _=>simp[simO]at hs
 | .str k,x',v,fp,hs,h=>by
  cases x' with
  | str k'=>simp only[simO]at hs;subst hs;rfl
  | _=>simp[simO]at hs
 | .nils,x',v,fp,hs,h=>by
  simp only[Rep]at h;obtain⟨rfl,_⟩:=h
  cases x' with
  | nils=>rfl
  | sl o e n f=>cases o<;>rfl
  | _=>simp[simO]at hs
 | .ref ..,x',v,fp,hs,h=>by cases x'<;>simp[simO]at hs;obtain⟨rfl,rfl,rfl,rfl⟩:=hs;rfl
 | .ptr ..,x',v,fp,hs,h=>by cases x'<;>simp[simO]at hs;obtain⟨rfl,rfl⟩:=hs;rfl
 | .pe ..,x',v,fp,hs,h=>by cases x'<;>simp[simO]at hs;obtain⟨rfl,rfl,rfl,rfl⟩:=hs;rfl
 | .ep cs,x',v,fp,hs,h=>by cases x'<;>simp[simO]at hs;simp only[Rep]at h;obtain⟨_,b,o,us,rfl,_⟩:=h;rfl
 | .fn ..,x',v,fp,hs,h=>by cases x'<;>simp[simO]at hs;obtain⟨rfl,rfl,rfl⟩:=hs;rfl
 | .lit ..,x',v,fp,hs,h=>by cases x'<;>simp[simO]at hs;obtain⟨rfl,rfl⟩:=hs;rfl
 | .gd ..,x',v,fp,hs,h=>by cases x'<;>simp[simO]at hs;obtain⟨rfl,rfl⟩:=hs;rfl
 | .any,x',v,fp,hs,h=>by cases x'<;>simp[simO]at hs;rfl
theorem yud {w : World} {M : Nat -> Prop} {μ : Map} : ∀ (xs xs' : List AV) {us : List Value} {fp : List Nat}, ydc xs xs' -> RepL w M xs μ us fp -> y4 xs' us = y4 xs us
 | [],xs',us,fp,hs,h=>by cases xs'<;>simp only[ydc]at hs;rfl
 | x::xs,xs',us,fp,hs,h=>by
  cases xs'<;>simp only[ydc]at hs
  simp only[RepL]at h;obtain⟨u,us',f1,f2,rfl,rfl,h1,h2⟩:=h;simp only[y4,yam x _ hs.1 h1,yud xs _ hs.2 h2]
end
mutual
theorem Rep.fp_lt {w : World} {M : Nat -> Prop} : ∀ (x : AV) {μ : Map} {v : Value} {fp : List Nat}, Rep w M x μ v fp -> ∀ b, b ∈ fp -> b < w.heap.size
 | .agg cs,μ,v,fp,h,b,hb=>by
  simp only[Rep]at h;obtain⟨us,rfl,h⟩:=h;exact RepL.fp_lt cs h b hb
 | .tup cs,μ,v,fp,h,b,hb=>by
  simp only[Rep]at h;obtain⟨us,rfl,h⟩:=h;exact RepL.fp_lt cs h b hb
 | .op cs,μ,v,fp,h,b,hb=>by
  simp only[Rep]at h;obtain⟨b',us,T,rfl,rfl,hlt,_⟩:=h;simp only[List.mem_singleton]at hb;subst hb;exact hlt
 | .sl own e n f,μ,v,fp,h,b,hb=>by
  simp only[Rep]at h;rcases h with⟨_,_,rfl⟩|⟨b',o,cap,us,fps,hv,hn,hb',hc,ho⟩
  ·simp at hb
  ·cases own with
   | none=>obtain⟨_,rfl,_⟩:=ho;simp at hb
   | some T=>
    obtain⟨rfl,rfl,_⟩:=ho;rcases List.mem_cons.1 hb with rfl|hb
    ·exact hb'
    ·obtain⟨i,hi,hbi⟩:=List.mem_flatMap.1 hb
     exact RepL.fp_lt (f i) (hc i (List.mem_range.1 hi)).1 b hbi
 | .int _ _,_,_,_,h,b,hb=>by simp only[Rep]at h;rw[h.2]at hb;simp at hb
 | .bool _,_,_,_,h,b,hb=>by simp only[Rep]at h;rw[h.2]at hb;simp at hb
 | .str _,_,_,_,h,b,hb=>by simp only[Rep]at h;rw[h.2]at hb;simp at hb
 | .nils,_,_,_,h,b,hb=>by simp only[Rep]at h;rw[h.2]at hb;simp at hb
 | .any,_,_,_,h,b,hb=>by simp only[Rep]at h;rw[h]at hb;simp at hb
 | .ref ..,_,_,_,h,b,hb=>by simp only[Rep]at h;rw[h.1]at hb;simp at hb
 | .ptr ..,_,_,_,h,b,hb=>by simp only[Rep]at h;rw[h.1]at hb;simp at hb
 | .pe ..,_,_,_,h,b,hb=>by simp only[Rep]at h;rw[h.1]at hb;simp at hb
 | .ep ..,_,_,_,h,b,hb=>by simp only[Rep]at h;rw[h.1]at hb;simp at hb
 | .fn ..,_,_,_,h,b,hb=>by simp only[Rep]at h;rw[h.1]at hb;simp at hb
 | .lit ..,_,_,_,h,b,hb=>by simp only[Rep]at h;rw[h.1]at hb;simp at hb
 | .gd ..,_,_,_,h,b,hb=>by simp only[Rep]at h;rw[h.1]at hb;simp at hb
theorem RepL.fp_lt {w : World} {M : Nat -> Prop} : ∀ (xs : List AV) {μ : Map} {us : List Value} {fp : List Nat}, RepL w M xs μ us fp -> ∀ b, b ∈ fp -> b < w.heap.size
 | [],_,_,_,h,b,hb=>by simp only[RepL]at h;rw[h.2]at hb;simp at hb
 | x::xs,_,_,_,h,b,hb=>by
  simp only[RepL]at h;obtain⟨u,us',f1,f2,rfl,rfl,h1,h2⟩:=h;rcases List.mem_append.1 hb with hb|hb
  ·exact Rep.fp_lt x h1 b hb
  ·exact RepL.fp_lt xs h2 b hb
end
end
section
variable {P:Program}
theorem ygy {f : FuncId} {fn : Func} {code : Code} {xs : List AV} {r : AV} {outs : List AV} {gb : List Bool} {N : Nat} {rs : List ResultVar} {Γ : Env} (hΓ : TyOk P Γ) (hf : P.funcs[f]? = some fn) (hname : (fn.name == "runtime.NumGoroutine") = false)
  (hb:fn.body=some code) (hN:fn.ntmps=N) (hr:fn.results.toList=rs) (hlen:xs.length<=N)
  (h:∀ c:Ctx,yrd xs->c.nt=N->c.k0=(adEL xs).length->AWP P c code (y3u Γ rs (posL gb (adRL 0 xs)) r outs) (fun _ _=>False) (y3u Γ rs (posL gb (adRL 0 xs)) r outs) ⟨pars 0 (adRL 0 xs),adEL xs⟩):DenM P f xs r outs:=by
 refine⟨⟨fn,hf,hname,by rw[hb];rfl⟩,?_⟩;intro w M vs fpA hI hIM hA hAn hAm hM;obtain⟨ls,hAd,hAdR⟩:=yvl xs hA;have hlsn:=y3b (ls:=ls) (by rw[<- hAd.fps];exact hAn);have hlt:∀ b,b∈fpA->b<w.heap.size:=RepL.fp_lt xs hA;have htf:∀ b,b∈y4 xs vs->b∈fpA:=ync xs hA
 have hfpA:∀ (k:Nat) (L:Loc) (fq:List Nat),ls[k]? = some (L,fq)->∀ b,b∈fq->b∈fpA:=fun k L fq hk b hb=>by
  rw[hAd.fps];exact List.mem_flatten.2 ⟨fq,List.mem_map.2 ⟨(L,fq),List.mem_of_getElem? hk,rfl⟩,hb⟩
 let μ0:Map:=fun j=>(ls[j]?).map (·.1)
 let FP0:Nat->List Nat:=fun j=>((ls[j]?).map (·.2)).getD []
 have hbase:∀ j L,μ0 j=some L->j<(adEL xs).length:=by
  intro j L hj;simp only[μ0]at hj
  cases hls:ls[j]? with
  | none=>simp[hls]at hj
  | some p=>rw[<- hAd.len];exact(List.getElem?_eq_some_iff.1 hls).1
 let c:Ctx:={ w0:=w,M0:=M,F0:=fpA,T0:=y4 xs vs,mu0:=μ0,k0:=(adEL xs).length,nt:=N,cold0:=fun b hb=>⟨hM b hb,fun h=>hAm b h hb⟩,own0:=hlt,top0:=htf,base0:=hbase,inv0:=hI,invM:=hIM }
 have hhot:∀ b,hot c.M0 (Hof (adEL xs)) μ0 b->M b\/b∈y4 xs vs:=by
  rintro b (hb|⟨id,cap,e,hm,he,hl⟩)
  ·exact .inl hb
  ·right
   simp only[μ0]at hm
   cases hls:ls[id]? with
   | none=>simp[hls]at hm
   | some p=>
    obtain⟨L,fq⟩:=p;simp only[hls,Option.map_some,Option.some.injEq]at hm;subst hm;simp only[Hof,yib]at he;exact(hAd.ok id e _ fq he hls).2 b cap rfl
 have hR0:RepL w (fun b=>M b\/b∈y4 xs vs) (adRL 0 xs) μ0 vs []:=hAdR 0 μ0 (fun j L fq hj=>by simp only[μ0,Nat.zero_add,hj];rfl);have hA':RepL w (hot c.M0 (Hof (adEL xs)) μ0) (adRL 0 xs) μ0 vs []:=yye hhot hR0;have hvl:=hA.length;have hal:(adRL 0 xs).length=xs.length:=by rw[<- hA'.length,hvl]
 refine calls_of_wp hf hb ?_;refine wp_mono ((h c (RepL.lens xs hA) rfl rfl).run _ _ ⟨μ0,FP0,⟨⟨rfl,rfl,rfl,Nat.le_refl _,fun _ _ _=>rfl⟩,Map.le_refl _,?_,?_,?_,?_,?_,?_⟩,?_,?_,?_,rfl⟩) ?_
 ·intro id L hm
  simp only[μ0]at hm
  cases hls:ls[id]? with
  | none=>simp[hls]at hm
  | some p=>
   obtain⟨L',fq⟩:=p;simp only[hls,Option.map_some,Option.some.injEq]at hm;subst hm;have hid:id<(adEL xs).length:=by rw[<- hAd.len];exact(List.getElem?_eq_some_iff.1 hls).1
   refine⟨_,by simp only[Hof,yib];exact List.getElem?_eq_getElem hid,?_⟩;have hok:=(hAd.ok id _ _ fq (List.getElem?_eq_getElem hid) hls).1 μ0;simp only[FP0,hls,Option.map_some,Option.getD_some];exact ylc.mono (Map.le_refl _) ⟨Nat.le_refl _,fun b _ hb hh=>hb (hhot b hh),fun _ _ _=>rfl⟩ (fun b hb=>hlt b (hfpA _ _ _ hls b hb)) hok
 ·intro id hm
  simp only[μ0]at hm;simp only[FP0]
  cases hls:ls[id]? with
  | none=>rfl
  | some p=>simp[hls]at hm
 ·intro id
  simp only[FP0]
  cases hls:ls[id]? with
  | none=>simp
  | some p=>obtain⟨L,fq⟩:=p;exact hlsn.1 id L fq hls
 ·intro i j hij b hbi hbj
  simp only[FP0]at hbi hbj
  cases hli:ls[i]? with
  | none=>simp[hli]at hbi
  | some p=>
   cases hlj:ls[j]? with
   | none=>simp[hlj]at hbj
   | some q=>
    obtain⟨L1,f1⟩:=p;obtain⟨L2,f2⟩:=q;simp only[hli,hlj,Option.map_some,Option.getD_some]at hbi hbj;exact hlsn.2 i j L1 f1 L2 f2 hij hli hlj b hbi hbj
 ·intro i b hb
  simp only[FP0]at hb
  cases hls:ls[i]? with
  | none=>simp[hls]at hb
  | some p=>
   obtain⟨L,fq⟩:=p;simp only[hls,Option.map_some,Option.getD_some]at hb;exact⟨.inl (hfpA _ _ _ hls b hb),hlt b (hfpA _ _ _ hls b hb)⟩
 ·intro id b cap e hm he hl
  left
  simp only[μ0]at hm
  cases hls:ls[id]? with
  | none=>simp[hls]at hm
  | some p=>
   obtain⟨L,fq⟩:=p;simp only[hls,Option.map_some,Option.some.injEq]at hm;subst hm;simp only[Hof,yib]at he;exact(hAd.ok id e _ fq he hls).2 b cap rfl
 ·intro j hj
  simp only[μ0];rw[List.getElem?_eq_none (by rw[hAd.len];exact hj)];rfl
 ·intro i
  have:=ypk (k:=0) (i:=i) (rest:=(Array.replicate (fn.ntmps-vs.toArray.size) undef).toList) hA' (Nat.zero_le _)
  have e:(vs.toArray++Array.replicate (fn.ntmps-vs.toArray.size) undef).getD i undef=(((vs++(Array.replicate (fn.ntmps-vs.toArray.size) undef).toList)[i-0]?).getD undef):=by
   rw[Array.getD_eq_getD_getElem?, <- Array.getElem?_toList];simp
  rw[e];exact this
 ·simp only[Array.size_append,List.size_toArray,Array.size_replicate]
  show vs.length+(fn.ntmps-vs.length)=N;omega
 ·intro e a w' hp
  have main:∀ s',y3u Γ rs (posL gb (adRL 0 xs)) r outs s'->WRs c s' a w'->bodyPost P fn (fun e w'=>∃ v fpR fpO,e=.returned v/\Keep w (y4 xs vs) w'/\Rep w' (fun b=>M b\/b∈fpR++fpO) r yy v fpR /\
    RepL w' (fun b=>M b\/b∈fpR++fpO) outs yy vs fpO/\(fpR++fpO).Nodup/\(∀ b,b∈fpR++fpO->(b∈fpA\/w.heap.size<=b)/\b<w'.heap.size) /\
    (∀ b,b∈tops r v++y4 outs vs->b∈y4 xs vs\/w.heap.size<=b)) .ret a w':=by
   intro s' hE hs';simp only[y3u]at hE;split at hE
   ·rename_i xs0 o1 hres0
    split at hE
    ·rename_i ys h' ob habs
     split at hE
     ·rename_i zs h'' ob2 hback
      obtain⟨ho1,ho,ho2,hnb,hpack,hsim⟩:=hE;obtain⟨μ,FP,hW,htl,h1,h2,h3⟩:=hs'
      have hmap:∃ us,(fn.results.toList.mapM (fun|.tmp t=>pure (a.tmps.getD t undef)|.cell b t=>do loadVar t (<- asAddr (a.tmps.getD b undef)):ResultVar->Sem Value)).run P w'=.ok us w'/\RepL w' (hot c.M0 (Hof s'.h) μ) xs0 μ us []:=by
       rw[hr];exact yxl hΓ hW a.tmps h1 (fun _=>rfl) (fun _ _=>rfl) hres0 ho1
      obtain⟨us,hrun,hres⟩:=hmap;obtain⟨K1,fp1,hr1,hgone1,hown1⟩:=yvg hW (fun _ _ he _=>he) hres habs ho;have htops1:=ywg (fun _ _ he _=>he) hres habs;have hpos:RepL w' (hot c.M0 (Hof s'.h) μ) (posL gb (adRL 0 xs)) μ vs []:=yik hW.base hR0;obtain⟨K2,fp2,hr2,hgone2,hown2,htops2⟩:=yih hW (fun id e he hl=>hgone1.sub id e he hl) hpos hback ho2;have hown:=Owns.app hW hgone1 hgone2 hown1 hown2
      have hnew:∀ b,b∈fp1++fp2->(b∈fpA\/w.heap.size<=b)/\b<w'.heap.size:=by
       intro b hb;obtain⟨id,_,hid⟩:=hown.2 b hb;exact hW.new id b hid
      have htop:∀ b,b∈fp1++fp2->hot c.M0 (Hof s'.h) μ b->b∈y4 xs vs\/w.heap.size<=b:=by
       intro b hb hh;rcases hh with hh|⟨id,cap,e,hm,he,hl⟩
       ·have hc:=c.cold0 b hh
        rcases(hnew b hb).1 with h5|h5
        ·exact absurd h5 hc.2
        ·exact .inr h5
       ·exact hW.top id b cap e hm he hl
      let v0:Value:=if h:us.toArray.size=1 then us.toArray[0]else .tuple us.toArray
      have hYZ:RepL w' (fun b=>M b\/b∈fp1++fp2) ys yy us fp1/\RepL w' (fun b=>M b\/b∈fp1++fp2) zs yy vs fp2:=by
       rcases hnb with⟨hnb1,hnb2⟩|⟨hf1,hf2⟩
       ·exact⟨RepL.noBor ys hnb1 hr1,RepL.noBor zs hnb2 hr2⟩
       ·have hcold:∀ b,b<w'.heap.size->¬ hot c.M0 (Hof s'.h) μ b->¬ (M b\/b∈fp1++fp2):=by
         rintro b _ hn (hm|hm)
         ·exact hn (.inl hm)
         ·rcases List.mem_append.1 hm with hm|hm
          ·exact hn (htops1 b (y7c.tops ys hf1 hr1 b hm))
          ·exact hn (htops2 b (y7c.tops zs hf2 hr2 b hm))
        exact⟨RepL.mono ys (Map.le_refl _) ⟨Nat.le_refl _,hcold,fun _ _ _=>rfl⟩ hr1,RepL.mono zs (Map.le_refl _) ⟨Nat.le_refl _,hcold,fun _ _ _=>rfl⟩ hr2⟩
      have hrp1:Rep w' (fun b=>M b\/b∈fp1++fp2) (y4h ys) yy v0 fp1:=yvk hYZ.1;refine⟨h3,v0,?_,v0,fp1,fp2,rfl,hW.keep,?_,?_,hown.1,hnew,?_⟩
      ·unfold results
       rw[Sem.run_bind, <- Array.toArray_toList (xs:=fn.results),List.mapM_toArray];simp only[Sem.run_map];erw [hrun]
       rfl
      ·exact ytg _ _ hpack hrp1
      ·exact yhc _ _ hsim hYZ.2
      ·intro b hb
       rcases List.mem_append.1 hb with hb|hb
       ·rw[yam _ _ hpack hrp1]at hb
        have hbf:b∈fp1:=ych _ hrp1 b hb;refine htop b (List.mem_append_left _ hbf) (htops1 b ?_)
        have hpk:∀ (ys:List AV) (us:List Value),ys.length=us.length->∀ b,b∈tops (y4h ys) (if h:us.toArray.size=1 then us.toArray[0]else .tuple us.toArray)->b∈y4 ys us:=by
         intro ys us hl b hb
         match ys,us,hl with
         | [],[],_=>simp[y4h,tops,y4]at hb
         | [y],[u],_=>simpa [y4h,y4]using hb
         | y::y2::ys,u::u2::us,hl=>
          rw[dif_neg (by simp)]at hb;simpa only[y4h,tops]using hb
        exact hpk ys us hr1.length.symm b hb
       ·rw[yud _ _ hsim hr2]at hb
        have hbf:b∈fp2:=ync _ hr2 b hb;exact htop b (List.mem_append_right _ hbf) (htops2 b hb)
     ·exact hE.elim
    ·exact hE.elim
   ·exact hE.elim
  cases e with
  | normal=>obtain⟨s',h1,h2⟩:=hp;exact main s' h1 h2
  | ret=>obtain⟨s',h1,h2⟩:=hp;exact main s' h1 h2
  | exit id=>obtain⟨s',h1,h2⟩:=hp;exact h1.elim
  | _=>exact hp.elim
end
end Go.Ab
