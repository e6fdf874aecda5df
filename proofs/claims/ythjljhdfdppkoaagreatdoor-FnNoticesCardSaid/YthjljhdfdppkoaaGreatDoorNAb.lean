/- A part of a proof: walks of functions and lemmas of our own. No conditions. -/
import Derived.Test.YthjljhdfdppkoaaGreatDoorNAa
import Derived.Laws.BytesString
set_option linter.unusedSectionVars false
set_option linter.unusedVariables false
set_option linter.unusedSimpArgs false
namespace Go.Ab
open Go
variable [Inv]
def oneA : AV -> Bool
 | .agg _|.tup _|.any|.gd _ _|.lit _ _=>false
 | _=>true
def ygd : AV -> Option (List AV)
 | .agg cs=>some cs
 | .tup _=>none
 | .any=>none
 | .gd _ _=>none
 | .lit _ _=>none
 | x=>some [x]
def y2l : List AV -> Bool
 | []=>true
 | x::xs=>oneA x && y2l xs
def putL : Nat -> List AV -> List AV -> List AV
 | 0,[],cs=>cs
 | 0,n::ns,_::cs=>n::putL 0 ns cs
 | 0,_::_,[]=>[]
 | k+1,ns,c::cs=>c::putL k ns cs
 | _+1,_,[]=>[]
def putV : Nat -> List Value -> List Value -> List Value
 | 0,[],cs=>cs
 | 0,n::ns,_::cs=>n::putV 0 ns cs
 | 0,_::_,[]=>[]
 | k+1,ns,c::cs=>c::putV k ns cs
 | _+1,_,[]=>[]
def yph (Γ : Env) (fs : List (Nat × TypeId)) : List AV -> List (Nat × AV) -> Option (List AV)
  | cs,[]=>some cs
  | cs, (i, x) :: rest => match nthF fs i with
    | some (off, ft) => match tget Γ ft, ygd x with
      | some k,some xs=>if xs.length=k.size/\off+xs.length<=cs.length then yph Γ fs (putL off xs cs) rest else none
      | _,_=>none
    | none=>none
def y1y (Γ : Env) : List (Nat × TypeId) -> Bool
  | []=>true
  | (_, t) :: fs => match tget Γ t with
    | some _=>y1y Γ fs
    | none=>false
def yxg (k : Nat) : List AV -> List (Nat × AV) -> Option (List AV)
  | cs,[]=>some cs
  | cs, (i, x) :: rest => match ygd x with
    | some xs=>if xs.length=k/\i * k+xs.length<=cs.length then yxg k (putL (i * k) xs cs) rest else none
    | none=>none
def yyv (Γ:Env) (t:TypeId) (parts:List (Nat×AV)):Option (AV×List Prop):=
  match tget Γ t with
  | some j => match j.ti with
    | .struct fs _ => match y1y Γ fs, j.zero, yph Γ fs j.zero parts with
      | true,_::_,some cs=>some (.agg cs,[])
      | _,_,_=>none
    | .array _ e => match tget Γ e, j.zero with
      | some ke, z0 :: zs => match yxg ke.size (z0 :: zs) parts with
        | some cs=>some (.agg cs,[])
        | none=>none
      | _,_=>none
    | _=>none
  | none=>none
section
variable {P:Program} {Γ:Env} {w:World} {M:Nat->Prop} {μ:Map}
theorem Rep.cells {x:AV} {v:Value} {cs:List AV} (h:ygd x=some cs) (hx:Rep w M x μ v []):∃ us,v.cells=us.toArray/\RepL w M cs μ us []:=by
  cases x with
  | agg ds=>
    simp only[ygd,Option.some.injEq]at h;subst h;simp only[Rep]at hx;obtain⟨us,rfl,hr⟩:=hx;exact⟨us,rfl,hr⟩
  | tup _=>simp[ygd]at h
  | any=>simp[ygd]at h
  | gd _ _=>simp[ygd]at h
  | lit _ _=>simp[ygd]at h
  | _=>
    simp only[ygd,Option.some.injEq]at h;subst h;refine⟨[v],?_,by simp only[RepL];exact⟨v,[],[],[],rfl,rfl,hx,rfl,rfl⟩⟩;simp only[Rep]at hx
    first
      | (obtain⟨rfl,_⟩:=hx;rfl)
      | (obtain⟨⟨rfl,_⟩,_⟩:=hx;rfl)
      | (obtain⟨_,_,_,rfl,_⟩:=hx;rfl)
      | (obtain⟨_,b,cap,_,rfl⟩:=hx;rfl)
      | (obtain⟨_,b,o,us,rfl,_⟩:=hx;rfl)
      | (obtain⟨_,us,rfl,_⟩:=hx;rfl)
      | (rcases hx with ⟨_, h3, _⟩ | ⟨b, o, cap, us, fps, rfl, _⟩
         . rcases h3.bor with rfl|⟨_,_,rfl⟩<;>rfl
         . rfl)
      | (obtain ⟨_, hx⟩ := hx
         revert hx
         cases μ _ with
         | none=>intro hx;exact hx.elim
         | some L=>
           cases L with
           | nil=>intro hx;obtain⟨_,_,rfl⟩:=hx;rfl
           | blk b cap=>intro hx;obtain⟨_,o,rfl,_⟩:=hx;rfl)
theorem Rep.one {x:AV} {v:Value} {fp:List Nat} (h:oneA x=true) (hx:Rep w M x μ v fp):v.oneCell'=true:=by
  cases x with
  | agg ds=>simp[oneA]at h
  | tup _=>simp[oneA]at h
  | any=>simp[oneA]at h
  | gd _ _=>simp[oneA]at h
  | lit _ _=>simp[oneA]at h
  | _=>
    simp only[Rep]at hx
    first
      | (obtain⟨rfl,_⟩:=hx;rfl)
      | (obtain⟨⟨rfl,_⟩,_⟩:=hx;rfl)
      | (obtain⟨_,_,_,rfl,_⟩:=hx;rfl)
      | (obtain⟨_,b,cap,_,rfl⟩:=hx;rfl)
      | (obtain⟨_,b,o,us,rfl,_⟩:=hx;rfl)
      | (obtain⟨_,us,rfl,_⟩:=hx;rfl)
      | (rcases hx with ⟨_, h3, _⟩ | ⟨b, o, cap, us, fps, rfl, _⟩
         . rcases h3.bor with rfl|⟨_,_,rfl⟩<;>rfl
         . rfl)
      | (obtain ⟨_, hx⟩ := hx
         revert hx
         cases μ _ with
         | none=>intro hx;exact hx.elim
         | some L=>
           cases L with
           | nil=>intro hx;obtain⟨_,_,rfl⟩:=hx;rfl
           | blk b cap=>intro hx;obtain⟨_,o,rfl,_⟩:=hx;rfl)
theorem RepL.one : ∀ {xs : List AV} {us : List Value} {fp : List Nat}, y2l xs = true -> RepL w M xs μ us fp -> ∀ u ∈ us, u.oneCell' = true
 | [],us,fp,_,h=>by simp only[RepL]at h;simp[h.1]
 | x::xs,us,fp,ho,h=>by
  simp only[RepL]at h;obtain⟨u,us',f1,f2,rfl,rfl,h1,h2⟩:=h;simp only[y2l,Bool.and_eq_true]at ho;intro y hy;rcases List.mem_cons.1 hy with rfl|hy
  ·exact h1.one ho.1
  ·exact RepL.one ho.2 h2 y hy
theorem yqh : ∀ {k : Nat} {ns cs : List AV} {vs us : List Value}, RepL w M ns μ vs [] -> RepL w M cs μ us [] -> RepL w M (putL k ns cs) μ (putV k vs us) []
 | 0,[],cs,vs,us,h1,h2=>by
  simp only[RepL]at h1;simp[putL,putV,h1.1,h2]
 | 0,n::ns,[],vs,us,h1,h2=>by
  simp only[RepL]at h1 h2;obtain⟨u,us',f1,f2,rfl,_,_,_⟩:=h1;simp[putL,putV,h2.1,RepL]
 | 0,n::ns,c::cs,vs,us,h1,h2=>by
  simp only[RepL]at h1 h2;obtain⟨u,us',f1,f2,rfl,hf,a1,a2⟩:=h1;obtain⟨v,vs',g1,g2,rfl,hg,b1,b2⟩:=h2;obtain⟨rfl,rfl⟩:=List.append_eq_nil_iff.1 hf.symm;obtain⟨rfl,rfl⟩:=List.append_eq_nil_iff.1 hg.symm;simp only[putL,putV,RepL];exact⟨u,_,[],[],rfl,rfl,a1,yqh a2 b2⟩
 | k+1,ns,[],vs,us,h1,h2=>by
  simp only[RepL]at h2;simp[putL,putV,h2.1,RepL]
 | k+1,ns,c::cs,vs,us,h1,h2=>by
  simp only[RepL]at h2;obtain⟨v,vs',g1,g2,rfl,hg,b1,b2⟩:=h2;obtain⟨rfl,rfl⟩:=List.append_eq_nil_iff.1 hg.symm;simp only[putL,putV,RepL];exact⟨v,_,[],[],rfl,rfl,b1,yqh h1 b2⟩
theorem ykb : ∀ (k : Nat) (ns cs : List Value), (putV k ns cs).length = cs.length
 | 0,[],cs=>by simp[putV]
 | 0,n::ns,[]=>rfl
 | 0,n::ns,c::cs=>by simp[putV,ykb 0 ns cs]
 | k+1,ns,[]=>rfl
 | k+1,ns,c::cs=>by simp[putV,ykb k ns cs]
theorem ymb : ∀ (k : Nat) (ns cs : List Value) (j : Nat), (putV k ns cs)[j]? = if k <= j /\ j < k + ns.length /\ j < cs.length then ns[j - k]? else cs[j]?
 | 0,[],cs,j=>by simp[putV]
 | 0,n::ns,[],j=>by simp[putV]
 | 0,n::ns,c::cs,0=>by simp[putV]
 | 0,n::ns,c::cs,j+1=>by
  have:=ymb 0 ns cs j;simp only[putV,List.getElem?_cons_succ,this,Nat.zero_le,true_and,Nat.zero_add,Nat.sub_zero,List.length_cons];by_cases h:j<ns.length/\j<cs.length
  ·rw[if_pos h,if_pos (by omega)]
  ·rw[if_neg h,if_neg (by omega)]
 | k+1,ns,[],j=>by simp[putV]
 | k+1,ns,c::cs,0=>by simp[putV]
 | k+1,ns,c::cs,j+1=>by
  have:=ymb k ns cs j;simp only[putV,List.getElem?_cons_succ,this,List.length_cons,Nat.add_sub_add_right];by_cases h:k<=j/\j<k+ns.length/\j<cs.length
  ·rw[if_pos h,if_pos (by omega)]
  ·rw[if_neg h,if_neg (by omega)]
theorem y4s (off:Nat):∀ (ns:List Value) (k:Nat) (cs:Array Value),
  ((ns.zipIdx k).foldl (fun cs (p:Value×Nat)=>cs.setIfInBounds (off+p.2) p.1) cs).toList=putV (off+k) ns cs.toList
 | [],k,cs=>by
  simp only[List.zipIdx_nil,List.foldl_nil];apply List.ext_getElem?;intro j;rw[ymb];simp
  intro h1 h2;omega
 | n::ns,k,cs=>by
  simp only[List.zipIdx_cons,List.foldl_cons];rw[y4s off ns (k+1)];apply List.ext_getElem?;intro j;rw[ymb,ymb];simp only[Array.toList_setIfInBounds,List.length_set,List.getElem?_set,List.length_cons];by_cases hj:j<cs.toList.length
  ·by_cases h1:off+k=j
   ·subst h1
    rw[if_neg (by omega),if_pos rfl,if_pos (by simpa using hj),if_pos (by omega)];simp
   ·by_cases h2:off+(k+1)<=j/\j<off+(k+1)+ns.length
    ·rw[if_pos ⟨h2.1,h2.2,hj⟩,if_pos (by omega)]
     have:j-(off+k)=j-(off+(k+1))+1:=by omega
     rw[this,List.getElem?_cons_succ]
    ·rw[if_neg (by omega),if_neg h1,if_neg (by omega)]
  ·have hn:cs.toList[j]? = none:=List.getElem?_eq_none (by omega)
   have hneg:∀ A B:Prop,¬ (A/\B/\j<cs.toList.length):=fun A B h=>hj h.2.2
   rw[if_neg (hneg _ _),if_neg (hneg _ _),hn];by_cases h1:off+k=j
   ·rw[if_pos h1,if_neg (by have hl:cs.toList.length=cs.size:=Array.length_toList;omega)]
   ·rw[if_neg h1]
theorem y5f (off:Nat) (vs us:List Value):vs.toArray.zipIdx.foldl (fun cs (p:Value×Nat)=>cs.setIfInBounds (off+p.2) p.1) us.toArray=(putV off vs us).toArray:=by
 have h:=y4s off vs 0 us.toArray;apply Array.ext';rw[<- Array.foldl_toList];simpa using h
theorem y5h {t:TypeId} {j:TInfo} (h:ygf P t=some j) {inf:TypeInfo} (hinf:P.info? t=some inf) {z:Value} (hz:inf.zero=some z):RepL w M j.zero μ z.cells.toList []:=by
 obtain⟨inf',d,hinf',hd,hti,_,_,hzero,_⟩:=ym h;rw[hinf]at hinf';cases hinf';rw[hzero,hz];simp only[Option.map_some,Option.getD_some];generalize z.cells.toList=l
 induction l with
 | nil=>simp[RepL]
 | cons v l ih=>
  simp only[List.map_cons,RepL];refine⟨v,l,[],[],rfl,rfl,?_,ih⟩;unfold avOf;split<;>first|exact yvs _|simp[Rep]
theorem y8l (hΓ:TyOk P Γ):∀ (fs:List Field),(∀ f∈fs,∃ k,(sizeOf f.type).run P w=.ok k w) ->
  ∃ l:List (Nat×Nat),(fs.mapM (m:=Sem) fun(f:Field)=>do pure (f.offset, <- sizeOf f.type)).run P w=.ok l w /\
   ∀ (i:Nat) (f:Field),fs[i]? = some f->∃ k,(sizeOf f.type).run P w=.ok k w/\l[i]? = some (f.offset,k)
 | [],_=>⟨[],by simp,by simp⟩
 | f::fs,h=>by
  obtain⟨k,hk⟩:=h f (by simp);obtain⟨l,h1,h2⟩:=y8l hΓ fs (fun g hg=>h g (by simp[hg]));refine⟨(f.offset,k)::l,by simp only[List.mapM_cons,Sem.run_bind,hk,h1,Result.andThen_ok,Sem.run_pure],?_⟩;intro i g hg
  cases i with
  | zero=>simp only[List.getElem?_cons_zero,Option.some.injEq]at hg;subst hg;exact⟨k,hk,rfl⟩
  | succ i=>exact h2 i g (by simpa using hg)
theorem yis (hΓ : TyOk P Γ) : ∀ {fs : List Field}, y1y Γ (fs.map fun f => (f.offset, f.type)) = true -> ∀ f ∈ fs, ∃ k, (sizeOf f.type).run P w = .ok k w
 | [],_=>by simp
 | g::fs,h=>by
  simp only[List.map_cons,y1y]at h
  cases ht:tget Γ g.type with
  | none=>simp[ht]at h
  | some j=>
   simp only[ht]at h;intro f hf;rcases List.mem_cons.1 hf with rfl|hf
   ·exact⟨_,ytb (hΓ.get ht)⟩
   ·exact yis hΓ h f hf
theorem yni (hΓ:TyOk P Γ) {fs:List Field} {l:List (Nat×Nat)} (hl:∀ (i:Nat) (f:Field),fs[i]? = some f->∃ k,(sizeOf f.type).run P w=.ok k w/\l[i]? = some (f.offset,k)) :
  ∀ {parts:List (Nat×AV)} {vals:List (Nat×Value)} {cs r:List AV} {us:List Value},yph Γ (fs.map fun f=>(f.offset,f.type)) cs parts=some r ->
   vals.map (·.1)=parts.map (·.1)->RepL w M (parts.map (·.2)) μ (vals.map (·.2)) []->RepL w M cs μ us [] ->
   ∃ us',Instr.fill (fun i=>l.toArray[i]?) us.toArray vals=some us'.toArray/\RepL w M r μ us' []
 | [],vals,cs,r,us,h,hv,hr,hc=>by
  simp only[yph,Option.some.injEq]at h;subst h;have:vals=[]:=by simpa using hv
  subst this;exact⟨us,rfl,hc⟩
 | (i,x)::parts,vals,cs,r,us,h,hv,hr,hc=>by
  simp only[yph,ynk]at h
  cases vals with
  | nil=>simp at hv
  | cons p vals=>
   obtain⟨i',v⟩:=p;simp only[List.map_cons,List.cons.injEq]at hv;obtain⟨rfl,hv⟩:=hv;simp only[List.map_cons,RepL]at hr;obtain⟨v',vs',f1,f2,he,hfp,hx,hr⟩:=hr;obtain⟨rfl,rfl⟩:=List.cons.inj he;obtain⟨rfl,rfl⟩:=List.append_eq_nil_iff.1 hfp.symm
   cases hf:(fs.map fun f=>(f.offset,f.type))[i']? with
   | none=>simp[hf]at h
   | some q=>
    obtain⟨off,ft⟩:=q;simp only[hf]at h;simp only[List.getElem?_map,Option.map_eq_some_iff,Prod.mk.injEq]at hf;obtain⟨f,hf1,rfl,rfl⟩:=hf;obtain⟨k,hk,hlk⟩:=hl i' f hf1
    cases ht:tget Γ f.type with
    | none=>simp[ht]at h
    | some j=>
     cases hcl:ygd x with
     | none=>simp[ht,hcl]at h
     | some xs=>
      simp only[ht,hcl]at h;split at h
      ·rename_i hlen
       have hk2:=ytb (P:=P) (w:=w) (hΓ.get ht);rw[hk]at hk2;have hkj:k=j.size:=by cases hk2;rfl
       obtain⟨vs,hvc,hvr⟩:=hx.cells hcl;have hvl:=hvr.length;have hul:=hc.length;obtain⟨us',h1,h2⟩:=yni hΓ hl h hv hr (yqh (k:=f.offset) hvr hc);refine⟨us',?_,h2⟩;have hlk':l.toArray[i']? = some (f.offset,k):=by simpa using hlk
       have hcond:¬ (v.cells.size≠k\/f.offset+v.cells.size > us.toArray.size):=by
        rw[hvc];simp only[List.size_toArray];omega
       simp only[Instr.fill,hlk'];rw[if_neg (by simpa using hcond),hvc,y5f];exact h1
      ·simp at h
theorem y9g {k:Nat} :
  ∀ {parts:List (Nat×AV)} {vals:List (Nat×Value)} {cs r:List AV} {us:List Value},yxg k cs parts=some r ->
   vals.map (·.1)=parts.map (·.1)->RepL w M (parts.map (·.2)) μ (vals.map (·.2)) []->RepL w M cs μ us [] ->
   ∃ us',Instr.fill (fun i=>some (i * k,k)) us.toArray vals=some us'.toArray/\RepL w M r μ us' []
 | [],vals,cs,r,us,h,hv,hr,hc=>by
  simp only[yxg,Option.some.injEq]at h;subst h;have:vals=[]:=by simpa using hv
  subst this;exact⟨us,rfl,hc⟩
 | (i,x)::parts,vals,cs,r,us,h,hv,hr,hc=>by
  simp only[yxg]at h
  cases vals with
  | nil=>simp at hv
  | cons p vals=>
   obtain⟨i',v⟩:=p;simp only[List.map_cons,List.cons.injEq]at hv;obtain⟨rfl,hv⟩:=hv;simp only[List.map_cons,RepL]at hr;obtain⟨v',vs',f1,f2,he,hfp,hx,hr⟩:=hr;obtain⟨rfl,rfl⟩:=List.cons.inj he;obtain⟨rfl,rfl⟩:=List.append_eq_nil_iff.1 hfp.symm
   cases hcl:ygd x with
   | none=>simp[hcl]at h
   | some xs=>
    simp only[hcl]at h;split at h
    ·rename_i hlen
     obtain⟨vs,hvc,hvr⟩:=hx.cells hcl;have hvl:=hvr.length;have hul:=hc.length;obtain⟨us',h1,h2⟩:=y9g h hv hr (yqh (k:=i' * k) hvr hc);refine⟨us',?_,h2⟩
     have hcond:¬ (v.cells.size≠k\/i' * k+v.cells.size > us.toArray.size):=by
      rw[hvc];simp only[List.size_toArray];omega
     simp only[Instr.fill];rw[if_neg (by simpa using hcond),hvc,y5f];exact h1
    ·simp at h
theorem y8s (hΓ : TyOk P Γ) {t : TypeId} {parts : List (Nat × AV)} {vals : List (Nat × Value)} {r : AV} {obl : List Prop} (h : yyv Γ t parts = some (r, obl))
  (hv:vals.map (·.1)=parts.map (·.1)) (hr:RepL w M (parts.map (·.2)) μ (vals.map (·.2)) []) :
  ∃ z,(Instr.build t vals.toArray).run P w=.ok z w/\Rep w M r μ z []:=by
 unfold yyv at h
 cases ht:tget Γ t with
 | none=>simp[ht]at h
 | some j=>
  obtain⟨inf,d,hinf,hd,hti,hsz,hby,hzero,_⟩:=ym (hΓ.get ht);simp only[ht]at h;split at h
  ·rename_i fs cmp hk
   rw[hk]at hti;obtain⟨fs',rfl,rfl,_⟩:=yue hti;split at h
   ·rename_i z0 zs cs htys hz0 hgo
    simp only[Option.some.injEq,Prod.mk.injEq]at h;obtain⟨rfl,rfl⟩:=h
    cases hz:inf.zero with
    | none=>rw[hzero,hz]at hz0;simp at hz0
    | some z=>
     obtain⟨l,hl1,hl2⟩:=y8l (P:=P) (w:=w) hΓ fs'.toList (yis hΓ htys);obtain⟨us',h1,h2⟩:=yni hΓ hl2 hgo hv hr (y5h (M:=M) (μ:=μ) (hΓ.get ht) hinf hz);refine⟨.agg us'.toArray,?_,by simp only[Rep];exact⟨us',rfl,h2⟩⟩;simp only[Array.toArray_toList]at h1;simp only[Instr.build,zeroValue,typeInfo,Sem.run_bind,run_program,hinf,Result.andThen_ok,Sem.run_pure,hz,run_underlying hd,Array.mapM_eq_mapM_toList,Sem.run_map,hl1,h1]
   ·simp at h
  ·rename_i n e hk
   rw[hk]at hti;have:=ycf hti;subst this;split at h
   ·rename_i ke z0 zs hte hz0
    split at h
    ·rename_i cs hgo
     simp only[Option.some.injEq,Prod.mk.injEq]at h;obtain⟨rfl,rfl⟩:=h;rw[<- hz0]at hgo
     cases hz:inf.zero with
     | none=>rw[hzero,hz]at hz0;simp at hz0
     | some z=>
      have hsz2:=ytb (P:=P) (w:=w) (hΓ.get hte);obtain⟨us',h1,h2⟩:=y9g hgo hv hr (y5h (M:=M) (μ:=μ) (hΓ.get ht) hinf hz);refine⟨.agg us'.toArray,?_,by simp only[Rep];exact⟨us',rfl,h2⟩⟩;simp only[Array.toArray_toList]at h1;simp only[Instr.build,zeroValue,typeInfo,Sem.run_bind,run_program,hinf,Result.andThen_ok,Sem.run_pure,hz,run_underlying hd,hsz2,h1]
    ·simp at h
   ·simp at h
  ·simp at h
end
end Go.Ab
namespace Go.Ab
open Go
variable [Inv]
def yn4 : Value -> AV
 | .agg cs=>.agg (cs.toList.map avOf)
 | v=>avOf v
def get : List (Nat × AV) -> Nat -> AV
 | [],_=>.any
 | (j,x)::r,i=>bif Nat.beq i j then x else get r i
def opnd (t : List (Nat × AV)) : Operand -> AV
 | .tmp i=>get t i
 | .const v=>yn4 v
 | .func f=>.fn f 0 []
 | .global _=>.any
def yn1 : AV -> Option (AV × List Prop)
 | .ptr i o=>some (.ptr i o,[])
 | .pe i e n o=>some (.pe i e n o,[])
 | .ep cs=>some (.ep cs,[])
 | .fn f k cs=>some (.fn f k cs,[])
 | _=>none
def yd6 : AV -> AV
 | .lit _ x=>x
 | x=>x
theorem y1r {w:World} {M:Nat->Prop} {μ:Map} {x:AV} {v:Value} (h:Rep w M x μ v []):Rep w M (yd6 x) μ v []:=by
 cases x with
 | lit u x=>
  simp only[Rep]at h;exact Rep.mono x (yli μ) ⟨Nat.le_refl _,fun _ _ h=>h,fun _ _ _=>rfl⟩ h.2.2
 | _=>exact h
def y18 (Γ:Env) (b:Builtin) (ts:List TypeId) (xs:List AV):Option (AV×List Prop):=
 match b,ts,xs with
 | .len,[t],[x]=>lenA Γ t (yd6 x)
 | .min,_,x::ys=>fst2 (minA x ys) []
 | .max,_,x::ys=>fst2 (maxA x ys) []
 | _,_,_=>none
def y62 (Γ:Env) (α:Operand->AV) (c:Call):Option (AV×List Prop):=
 match c.callee with
 | .builtin b=>y18 Γ b c.argTypes.toList (c.args.toList.map α)
 | _=>none
def omap (α : Operand -> AV) : Option Operand -> Option AV
 | none=>none
 | some x=>some (α x)
def byA : List AV -> UInt8
 | [.int .u8 n]=>UInt8.ofNat n.toNat
 | _=>0
def isBy : List AV -> Bool
 | [.int .u8 _]=>true
 | _=>false
def yi7 (Γ:Env) (h:List Ent) (s d:TypeId) (x:AV):Option (AV×List Prop):=
  match x with
  | .ref id e off n => match tget Γ s, tget Γ d with
    | some js, some jd => match js.ti, jd.ti with
      | .slice et, .string => match tget Γ et with
        | some k => match k.ti, nthE h id with
          | .int .u8,some (.arr _ e' n' f)=>if e=1/\e'=1 then some (.str ((List.range n).map fun i=>byA (f (off+i))),[off+n<=n',∀ i,i<n->isBy (f (off+i))=true])else none
          | _,_=>none
        | none=>none
      | _,_=>none
    | _,_=>none
  | .sl none e n f => match tget Γ s, tget Γ d with
    | some js, some jd => match js.ti, jd.ti with
      | .slice et, .string => match tget Γ et with
        | some k => match k.ti with
          | .int .u8=>if e=1 then some (.str ((List.range n).map fun i=>byA (f i)),[∀ i,i<n->isBy (f i)=true])else none
          | _=>none
        | none=>none
      | _,_=>none
    | _,_=>none
  | x=>yj6 Γ s d x
def y0g (Γ:Env) (h:List Ent) (α:Operand->AV) (op:Op):Option (AV×List Prop):=
  match op with
  | .move x=>some (α x,[])
  | .assign x=>some (α x,[])
  | .binOp op t x y _=>binA Γ op t (α x) (α y)
  | .unOp op _ x=>unA op (α x)
  | .nilCheck x=>yn1 (α x)
  | .fieldAddr t x i=>ysx Γ t (α x) i
  | .indexAddr t x i=>ypv Γ t (yd6 (α x)) (α i)
  | .index t x i=>y3w Γ t (α x) (α i)
  | .load t x=>ymn Γ h t (α x)
  | .slice t x lo hi none=>y8x Γ t (α x) (omap α lo) (omap α hi)
  | .convert s d x=>yi7 Γ h s d (α x)
  | .extract x i=>yzk (α x) i
  | .build t parts=>yyv Γ t (parts.toList.map fun p=>(p.1,α p.2))
  | .field t x i=>y5x Γ t (α x) i
  | .makeFunc fn fst caps => match fn with
    | .func f=>some (.fn f fst.toList.length (fst.toList.map α++caps.toList.map α),[])
    | _=>none
  | .call c=>y62 Γ α c
  | _=>none
section
variable {P:Program} {Γ:Env} {c:Ctx} {H:Hp} {μ:Map} {FP:Nat->List Nat} {w:World}
theorem yeg {M : Nat -> Prop} {α : Operand -> AV} {ρ : Operand -> Value} : ∀ {l : List Operand}, (∀ o ∈ l, Rep w M (α o) μ (ρ o) []) -> RepL w M (l.map α) μ (l.map ρ) []
 | [],_=>by simp[RepL]
 | o::l,h=>by
  simp only[List.map_cons,RepL];exact⟨ρ o,l.map ρ,[],[],rfl,rfl,h o (by simp),yeg fun p hp=>h p (by simp[hp])⟩
theorem y2u (ns:List Int):∀ r:ByteArray,ns.foldl (fun r n=>r.push (UInt8.ofNat n.toNat)) r=⟨r.data++(ns.map fun n=>UInt8.ofNat n.toNat).toArray⟩:=by
 induction ns with
 | nil=>intro r;simp
 | cons n ns ih=>
  intro r;simp only[List.foldl_cons,ih,List.map_cons];congr 1
  apply Array.ext';simp[ByteArray.push]
theorem yuq {M : Nat -> Prop} {b o n cap : Nat} {g : Nat -> List AV} {us : Nat -> List Value} {s d et : TypeId} {w : World} (hs : P.underlying s = some (.slice et)) (he : P.underlying et = some (.int .u8)) (hd : P.underlying d = some .string)
  (hn:n<=maxLen) (hc:∀ i,i<n->RepL w M (g i) μ (us i) []/\yld w b (o+i) (us i)) (hby:∀ i,i<n->isBy (g i)=true) :
  (convert s d (.slice (some ⟨b,o,none⟩) n cap)).run P w=.ok (.string ⟨((List.range n).map fun i=>byA (g i)).toArray⟩) w/\Rep w M (.str ((List.range n).map fun i=>byA (g i))) μ (.string ⟨((List.range n).map fun i=>byA (g i)).toArray⟩) []:=by
 refine⟨?_,y1b _ (by simpa using hn)⟩;rw[run_convert_bytes_string w s d et _ n cap hs he hd]
 have hex:∀ i,∃ z:Int,i<n->g i=[.int .u8 z]:=by
  intro i;by_cases hi:i<n
  ·have:=hby i hi
   unfold isBy at this;split at this
   ·rename_i z hz;exact⟨z,fun _=>hz⟩
   ·cases this
  ·exact⟨0,fun h=>absurd h hi⟩
 obtain⟨z,hz⟩:=Classical.axiomOfChoice hex
 have hl:=run_loadCells_list (P:=P) w ⟨b,o,none⟩ ((List.range n).map fun i=>Value.int .u8 (z i)) (fun j v hv=>by
  simp only[List.getElem?_map,Option.map_eq_some_iff]at hv;obtain⟨i,hi,rfl⟩:=hv
  have hjn:j<n:=by
   have:=(List.getElem?_eq_some_iff.1 hi).1;simpa using this
  have hij:i=j:=by
   rw[List.getElem?_range hjn]at hi;exact(Option.some.inj hi).symm
  subst hij;obtain⟨h1,h2⟩:=hc i hjn;rw[hz i hjn]at h1;simp only[RepL]at h1;obtain⟨u,us',f1,f2,e1,e2,hu,_,_⟩:=h1;have hu':=hu.val_int;subst hu';rw[Addr.add_lit];have:=(h2 0 (.int .u8 (z i)) (by rw[e1];rfl)).1
  simpa using this)
 simp only[List.length_map,List.length_range]at hl;rw[run_bytesToString w ⟨b,o,none⟩ n cap ((List.range n).map z) (by rw[hl];congr 1;apply Array.ext';simp)];congr 1
 rw[y2u];congr 1
 congr 1
 apply Array.ext';simp[ByteArray.empty,ByteArray.emptyWithCapacity]
 show[]++_=_;rw[List.nil_append];apply List.map_congr_left;intro i hi;rw[hz i (List.mem_range.1 hi)];rfl
theorem yut (hΓ:TyOk P Γ) (hW:WR c H μ FP w) {h:List Ent} (hH:HAg h H μ) {s d:TypeId} {x r:AV} {u:Value} {obl:List Prop} (he:yi7 Γ h s d x=some (r,obl)) (ho:allP obl) (hx:Rep w (hot c.M0 H μ) x μ u []) :
  ∃ z,(convert s d u).run P w=.ok z w/\Rep w (hot c.M0 H μ) r μ z []:=by
 have hnil:∀ {et:TypeId},P.underlying s=some (.slice et)->P.underlying et=some (.int .u8)->P.underlying d=some .string->∀ cap,(convert s d (.slice none 0 cap)).run P w=.ok (.string ⟨#[]⟩) w:=by
  intro et h1 h2 h3 cap;rw[run_convert_bytes_string w s d et _ 0 cap h1 h2 h3];simp[Conv.bytesToString];rfl
 unfold yi7 at he;split at he
 ·rename_i id e off n
  split at he
  case h_2=>cases he
  rename_i js jd hs hd
  split at he
  case h_2=>cases he
  rename_i et hjs hjd
  split at he
  case h_2=>cases he
  rename_i k hk
  split at he
  case h_2=>cases he
  rename_i T e' n' f hki hid
  split at he
  case isFalse=>cases he
  rename_i hee
  obtain⟨rfl,rfl⟩:=hee;simp only[Option.some.injEq,Prod.mk.injEq]at he;obtain⟨rfl,rfl⟩:=he;obtain⟨inf1,d1,hinf1,hd1,hti1,_⟩:=ym (hΓ.get hs);obtain⟨inf2,d2,hinf2,hd2,hti2,_⟩:=ym (hΓ.get hd);obtain⟨inf3,d3,hinf3,hd3,hti3,_⟩:=ym (hΓ.get hk);rw[hjs]at hti1;have:=ypc hti1;subst this;rw[hjd]at hti2;have:=y6c hti2;subst this;rw[hki]at hti3;have:=ytr hti3;subst this;obtain⟨ho1,ho2,_⟩:=ho;simp only[Rep]at hx;obtain⟨_,hx⟩:=hx
  cases hm:μ id with
  | none=>simp[hm]at hx
  | some L=>
   cases L with
   | nil=>
    simp only[hm]at hx;obtain⟨rfl,rfl,rfl⟩:=hx;exact⟨_,hnil hd1 hd3 hd2 0,y1b [] (Nat.zero_le _)⟩
   | blk b cap=>
    simp only[hm]at hx;obtain⟨hcap,o,rfl,hoo⟩:=hx;obtain⟨e1,he1,hok⟩:=hW.ent id _ hm;have he2:=hH id _ hid (by simp[hm]);rw[he2]at he1;cases he1;obtain⟨cur,us,fps,hh,h1,h2,h3,hcl,hF⟩:=hok;by_cases hn0:n=0
    ·subst hn0
     refine⟨.string ⟨#[]⟩,?_,y1b [] (Nat.zero_le _)⟩;rw[run_convert_bytes_string w s d et _ 0 _ hd1 hd3 hd2];rw[run_bytesToString w ⟨b,o,none⟩ 0 _ [] (by have:=run_loadCells_list (P:=P) w ⟨b,o,none⟩ [] (by simp);simpa using this)];rfl
    ·have hoe:o=off:=by
      rcases hoo with h5|h5
      ·omega
      ·simpa using h5
     subst hoe
     obtain⟨q1,q2⟩:=yuq (P:=P) (w:=w) (μ:=μ) (M:=hot c.M0 H μ) (b:=b) (o:=o) (n:=n) (cap:=cap-o) (g:=fun i=>f (o+i)) (us:=fun i=>us (o+i)) hd1 hd3 hd2 (by omega) (fun i hi=>by
      obtain⟨c1,c2,c3⟩:=hcl (o+i) (by omega)
      have hfp:fps (o+i)=[]:=by
       have hb:=ho2 i hi;unfold isBy at hb;split at hb
       ·rename_i z hz
        rw[hz]at c1;simp only[RepL,Rep]at c1;obtain⟨_,_,f1,f2,_,e2,⟨_,rfl⟩,_,rfl⟩:=c1;exact e2
       ·cases hb
      rw[hfp]at c1
      exact⟨c1,by simpa using c3⟩) ho2
     exact⟨_,q1,q2⟩
 ·rename_i e n f
  split at he
  case h_2=>cases he
  rename_i js jd hs hd
  split at he
  case h_2=>cases he
  rename_i et hjs hjd
  split at he
  case h_2=>cases he
  rename_i k hk
  split at he
  case h_2=>cases he
  rename_i hki
  split at he
  case isFalse=>cases he
  rename_i hee
  subst hee;simp only[Option.some.injEq,Prod.mk.injEq]at he;obtain⟨rfl,rfl⟩:=he;obtain⟨inf1,d1,hinf1,hd1,hti1,_⟩:=ym (hΓ.get hs);obtain⟨inf2,d2,hinf2,hd2,hti2,_⟩:=ym (hΓ.get hd);obtain⟨inf3,d3,hinf3,hd3,hti3,_⟩:=ym (hΓ.get hk);rw[hjs]at hti1;have:=ypc hti1;subst this;rw[hjd]at hti2;have:=y6c hti2;subst this;rw[hki]at hti3;have:=ytr hti3;subst this;obtain⟨ho2,_⟩:=ho;simp only[Rep]at hx;rcases hx with⟨rfl,rfl|⟨a,cap,rfl⟩,_⟩|⟨b,o,cap,us,fps,rfl,hn,hb,hc,hM,_,hfp⟩
  ·exact⟨_,hnil hd1 hd3 hd2 0,y1b [] (Nat.zero_le _)⟩
  ·refine⟨.string ⟨#[]⟩,?_,y1b [] (Nat.zero_le _)⟩
   rw[run_convert_bytes_string w s d et _ 0 _ hd1 hd3 hd2];rw[run_bytesToString w a 0 _ [] (by have:=run_loadCells_list (P:=P) w a [] (by simp);simpa using this)];rfl
  ·obtain⟨q1,q2⟩:=yuq (P:=P) (w:=w) (μ:=μ) (M:=hot c.M0 H μ) (b:=b) (o:=o) (n:=n) (cap:=cap) (g:=f) (us:=us) hd1 hd3 hd2 hn.2 (fun i hi=>by
    obtain⟨c1,c2,c3⟩:=hc i hi;rw[hfp i hi]at c1
    exact⟨c1.lift,by simpa using c3⟩) ho2
   exact⟨_,q1,q2⟩
 ·exact ygv (P:=P) hΓ he hx
theorem ydu (hΓ : TyOk P Γ) (hW : WR c H μ FP w) {h : List Ent} (hH : HAg h H μ) {α : Operand -> AV} {ρ : Operand -> Value} {o : Oper} {r : AV} {obl : List Prop}
  (he:y0g Γ h α o.op=some (r,obl)) (ho:allP obl) (hρ:∀ x,x∈o.op.operands.toList->Rep w (hot c.M0 H μ) (α x) μ (ρ x) []) :
  ∃ z,(execOp ρ o).run P w=.ok (.value z) w/\Rep w (hot c.M0 H μ) r μ z []:=by
 have lift:∀ {s:Sem Value} {z:Value},s.run P w=.ok z w->(do pure (Next.value (<- s)):Sem Next).run P w=.ok (.value z) w:=by
  intro s z hs;rw[Sem.run_bind,hs];rfl
 obtain⟨dst,op,type,pos,after,guard⟩:=o;simp only at he hρ;unfold y0g at he;split at he
 case h_1 x=>
  simp only[Option.some.injEq,Prod.mk.injEq]at he;obtain⟨rfl,rfl⟩:=he;exact⟨ρ x,by simp[execOp],hρ x (by simp[Op.operands])⟩
 case h_2 x=>
  simp only[Option.some.injEq,Prod.mk.injEq]at he;obtain⟨rfl,rfl⟩:=he;exact⟨ρ x,by simp[execOp],hρ x (by simp[Op.operands])⟩
 case h_3 op t x y t2=>
  obtain⟨z,h1,h2⟩:=yaz (P:=P) hΓ he ho (hρ x (by simp[Op.operands])) (hρ y (by simp[Op.operands])) x y;exact⟨z,by simp only[execOp];exact lift h1,h2⟩
 case h_4 op t x=>
  obtain⟨z,h1,h2⟩:=yf2 (P:=P) he (hρ x (by simp[Op.operands]));exact⟨z,by simp only[execOp];exact lift h1,h2⟩
 case h_5 x=>
  have hx:=hρ x (by simp[Op.operands]);unfold yn1 at he;split at he<;>simp only[Option.some.injEq,Prod.mk.injEq,reduceCtorEq]at he
  all_goals
   obtain⟨rfl,rfl⟩:=he;rename_i hax
   rw[hax]at hx;refine⟨ρ x,?_,hx⟩;simp only[Rep]at hx
  ·obtain⟨_,b,cap,_,e⟩:=hx;simp[execOp,e]
  ·obtain⟨_,b,cap,_,e⟩:=hx;simp[execOp,e]
  ·obtain⟨_,b,o,us,e,_⟩:=hx;simp[execOp,e]
  ·obtain⟨_,us,e,_⟩:=hx;simp[execOp,e]
 case h_6 t x i=>
  obtain⟨z,h1,h2⟩:=yar (P:=P) hΓ he (hρ x (by simp[Op.operands]));exact⟨z,by simp only[execOp];exact lift h1,h2⟩
 case h_7 t x i=>
  obtain⟨z,h1,h2⟩:=y5q (P:=P) hΓ he ho (y1r (hρ x (by simp[Op.operands]))) (hρ i (by simp[Op.operands]));exact⟨z,by simp only[execOp];exact lift h1,h2⟩
 case h_8 t x i=>
  obtain⟨z,h1,h2⟩:=y6r (P:=P) hΓ he ho (hρ x (by simp[Op.operands])) (hρ i (by simp[Op.operands]));exact⟨z,by simp only[execOp];exact lift h1,h2⟩
 case h_9 t x=>
  obtain⟨z,h1,h2⟩:=y0j (P:=P) hΓ hW hH he ho (hρ x (by simp[Op.operands]));exact⟨z,by simp only[execOp];exact lift h1,h2⟩
 case h_10 t x lo hi=>
  obtain ⟨z, h1, h2⟩ := y3s (P := P) (vlo := lo.map ρ) (vhi := hi.map ρ) hΓ he ho (hρ x (by simp [Op.operands]))
   (by
    intro a ha
    cases lo with
    | none=>simp[omap]at ha
    | some y=>simp only[omap,Option.some.injEq]at ha;subst ha;exact⟨ρ y,rfl,hρ y (by simp[Op.operands])⟩)
   (by intro hn;cases lo<;>simp[omap]at hn ⊢)
   (by
    intro a ha
    cases hi with
    | none=>simp[omap]at ha
    | some y=>simp only[omap,Option.some.injEq]at ha;subst ha;exact⟨ρ y,rfl,hρ y (by simp[Op.operands])⟩)
   (by intro hn;cases hi<;>simp[omap]at hn ⊢)
  exact⟨z,by simp only[execOp];exact lift h1,h2⟩
 case h_11 s d x=>
  obtain⟨z,h1,h2⟩:=yut (P:=P) hΓ hW hH he ho (hρ x (by simp[Op.operands]));exact⟨z,by simp only[execOp];exact lift h1,h2⟩
 case h_12 x i=>
  obtain⟨z,h1,h2⟩:=ysm (P:=P) he (hρ x (by simp[Op.operands]));exact⟨z,by simp only[execOp];exact lift h1,h2⟩
 case h_13 t parts=>
  have hr:=yeg (M:=hot c.M0 H μ) (μ:=μ) (w:=w) (α:=α) (ρ:=ρ) (l:=parts.toList.map (·.2)) (by
   intro o ho2
   exact hρ o (by simpa [Op.operands]using ho2))
  obtain⟨z,h1,h2⟩:=y8s (P:=P) (vals:=parts.toList.map fun p=>(p.1,ρ p.2)) hΓ he (by simp) (by simpa [List.map_map,Function.comp_def]using hr);refine⟨z,?_,h2⟩;simp only[execOp]
  have e:(parts.map fun x=>match x with|(i,x)=>(i,ρ x))=(parts.toList.map fun p=>(p.1,ρ p.2)).toArray:=by
   apply Array.ext';simp
  rw[e];exact lift h1
 case h_14 t x i=>
  obtain⟨z,h1,h2⟩:=yfr (P:=P) hΓ he (hρ x (by simp[Op.operands]));exact⟨z,by simp only[execOp];exact lift h1,h2⟩
 case h_15 fn fst caps=>
  split at he
  ·rename_i f
   simp only[Option.some.injEq,Prod.mk.injEq]at he;obtain⟨rfl,rfl⟩:=he
   have hr:=yeg (M:=hot c.M0 H μ) (μ:=μ) (w:=w) (α:=α) (ρ:=ρ) (l:=fst.toList++caps.toList) (by
    intro o ho2
    exact hρ o (by simpa only[Op.operands,Array.toList_append]using ho2))
   rw[List.map_append,List.map_append]at hr
   refine⟨.func (.func f) (fst.toList.map ρ).toArray (caps.toList.map ρ).toArray,?_,by
    simp only[Rep];refine⟨trivial,_,?_,hr⟩;have e:fst.toList.length=(fst.toList.map ρ).length:=by simp
    rw[e,List.take_left,List.drop_left]⟩
   have e1:fst.map ρ=(fst.toList.map ρ).toArray:=by
    apply Array.ext';simp
   have e2:caps.map ρ=(caps.toList.map ρ).toArray:=by
    apply Array.ext';simp
   simp only[execOp,e1,e2,Instr.makeFunc];rfl
  ·simp at he
 case h_16 cl=>
  unfold y62 at he;split at he
  ·rename_i b hb
   unfold y18 at he
   have hr:=yeg (M:=hot c.M0 H μ) (μ:=μ) (w:=w) (α:=α) (ρ:=ρ) (l:=cl.args.toList) (by
    intro o ho2
    exact hρ o (by simp only[Op.operands,Call.operands,hb,Array.toList_append];exact List.mem_append_right _ ho2))
   have ea:cl.args.map ρ=(cl.args.toList.map ρ).toArray:=by apply Array.ext';simp
   split at he
   ·rename_i t x hts hxs
    have ht:cl.argTypes = #[t]:=by apply Array.ext';simpa using hts
    rw[hxs]at hr;simp only[RepL]at hr;obtain⟨u,us',f1,f2,hu,hfp,h1,h2,_⟩:=hr;subst h2;obtain⟨rfl,rfl⟩:=List.append_eq_nil_iff.1 hfp.symm;obtain⟨z,h3,h4⟩:=ynz (P:=P) (ty:=type) hΓ he (y1r h1);refine⟨z,?_,h4⟩;simp only[execOp,resolve,hb,Sem.run_bind,Sem.run_pure,Result.andThen_ok,invoke,builtin,ea,hu,ht];rw[h3];rfl
   ·rename_i x ys hxs
    cases hm:minA x ys with
    | none=>simp[hm,fst2]at he
    | some m=>
     simp only[hm,fst2,Option.some.injEq,Prod.mk.injEq]at he;obtain⟨rfl,rfl⟩:=he;rw[hxs]at hr;simp only[RepL]at hr;obtain⟨u,us',f1,f2,hu,hfp,h1,h2⟩:=hr;obtain⟨rfl,rfl⟩:=List.append_eq_nil_iff.1 hfp.symm;obtain⟨z,h3,h4⟩:=y8m (P:=P) hm h1 h2;refine⟨z,?_,h4⟩;simp only[execOp,resolve,hb,Sem.run_bind,Sem.run_pure,Result.andThen_ok,invoke,builtin,ea,hu,Builtin.min_];rw[h3];rfl
   ·rename_i x ys hxs
    cases hm:maxA x ys with
    | none=>simp[hm,fst2]at he
    | some m=>
     simp only[hm,fst2,Option.some.injEq,Prod.mk.injEq]at he;obtain⟨rfl,rfl⟩:=he;rw[hxs]at hr;simp only[RepL]at hr;obtain⟨u,us',f1,f2,hu,hfp,h1,h2⟩:=hr;obtain⟨rfl,rfl⟩:=List.append_eq_nil_iff.1 hfp.symm;obtain⟨z,h3,h4⟩:=y0n (P:=P) hm h1 h2;refine⟨z,?_,h4⟩;simp only[execOp,resolve,hb,Sem.run_bind,Sem.run_pure,Result.andThen_ok,invoke,builtin,ea,hu,Builtin.max_];rw[h3];rfl
   ·simp at he
  ·simp at he
 case h_17=>simp at he
end
end Go.Ab
namespace Go.Ab
open Go
variable [Inv]
def Hof (h:List Ent):Hp:=fun id=>nthE h id
def setE : List Ent -> Nat -> Ent -> List Ent
 | [],_,_=>[]
 | _::l,0,e=>e::l
 | x::l,n+1,e=>x::setE l n e
theorem y9 : ∀ (h : List Ent) (i j : Nat) (e : Ent), nthE (setE h i e) j = if j = i /\ i < h.length then some e else nthE h j
 | [],i,j,e=>by simp[setE,nthE]
 | x::l,0,0,e=>by simp[setE,nthE]
 | x::l,0,j+1,e=>by simp[setE,nthE]
 | x::l,i+1,0,e=>by simp[setE,nthE]
 | x::l,i+1,j+1,e=>by simp[setE,nthE,y9 l i j e]
theorem y7 : ∀ (h : List Ent) (i : Nat) (e : Ent), (setE h i e).length = h.length
 | [],_,_=>rfl
 | _::_,0,_=>rfl
 | _::l,n+1,e=>by simp[setE,y7 l n e]
theorem ykc (h:List Ent) (e:Ent) (j:Nat):nthE (h++[e]) j=if j=h.length then some e else nthE h j:=by
 rw[yib,yib];by_cases hj:j<h.length
 ·rw[List.getElem?_append_left hj,if_neg (by omega)]
 ·by_cases he:j=h.length
  ·subst he;simp
  ·have h1:(h++[e]).length<=j:=by rw[List.length_append,List.length_singleton];omega
   have h2:h.length<=j:=by omega
   rw[if_neg he,List.getElem?_eq_none h1,List.getElem?_eq_none h2]
theorem yad {h:List Ent} {j:Nat} {e:Ent} (hj:nthE h j=some e):j<h.length:=by
 rw[yib]at hj;exact(List.getElem?_eq_some_iff.1 hj).1
def absC (h : List Ent) : AV -> Option (AV × List Ent × List Prop)
  | .ref id e off n => match nthE h id, off with
    | some (.arr T e' n' f),0=>if e=e' then some (.sl (some T) e n f,setE h id .dead,[n<=n',∀ i,i<n->ysd (f i)=true])else none
    | _,_=>none
  | .ptr id off => match nthE h id, off with
    | some (.box cs), 0 => match ysd cs with
      | true=>some (.op cs,setE h id .dead,[])
      | false=>none
    | _,_=>none
  | .int k n=>some (.int k n,h,[])
  | .bool b=>some (.bool b,h,[])
  | .str l=>some (.str l,h,[])
  | .nils=>some (.nils,h,[])
  | .sl none e n f=>some (.sl none e n f,h,[])
  | _=>none
def absL (h : List Ent) : List AV -> Option (List AV × List Ent × List Prop)
  | []=>some ([],h,[])
  | x :: xs => match absC h x with
    | some (y, h1, o1) => match absL h1 xs with
      | some (ys,h2,o2)=>some (y::ys,h2,o1++o2)
      | none=>none
    | none=>none
def updF (FP:Nat->List Nat) (id:Nat) (fp:List Nat):Nat->List Nat:=fun i=>if i=id then fp else FP i
section
variable {c:Ctx} {μ:Map} {FP:Nat->List Nat} {w:World} {R:List Nat}
theorem WR.kill {h:List Ent} (hW:WR c (Hof h) μ FP w) (hR:Free c FP w R) {id:Nat} {e:Ent} (hid:nthE h id=some e) :
  WR c (Hof (setE h id .dead)) μ (updF FP id []) w/\Trans c.M0 (Hof h) μ w (Hof (setE h id .dead)) μ w/\Free c (updF FP id []) w (R++FP id):=by
 have hlt:=yad hid;have hdead:Hof (setE h id .dead) id=some .dead:=by simp[Hof,y9,hlt]
 have hoth:∀ i,i≠id->Hof (setE h id .dead) i=Hof h i:=fun i hi=>by simp[Hof,y9,hi]
 have hup := WR.update (H' := Hof (setE h id .dead)) (μ' := μ) (FP' := updF FP id []) (w' := w) (fun i => i = id) [] hW (Free.nil _ _ _) rfl rfl rfl (Nat.le_refl _) (fun _ _ => .inl rfl) (Map.le_refl _)
  (fun i _ hi=>hoth i hi) (fun i _ hi=>by simp[updF,hi])
  (by
   intro i L hi hL;rcases hi with hi|rfl
   ·rw[hi]at hL;cases hL
   ·exact⟨.dead,hdead,by simp[ylc,updF]⟩)
  (by
   intro i b cap e' hi hL he hl;rcases hi with hi|rfl
   ·rw[hi]at hL;cases hL
   ·rw[hdead]at he;cases he;simp[Ent.live]at hl)
  (by
   intro i b hi hb;rcases hi with hi|rfl
   ·simp only[updF]at hb
    split at hb
    ·simp at hb
    ·rw[hW.out i hi]at hb;simp at hb
   ·simp[updF]at hb)
  (by
   intro i hi;simp only[updF];split
   ·rfl
   ·exact hW.out i hi)
  (by
   intro i hi;simp only[updF];split
   ·simp
   ·exact hW.nodup i)
  (by
   intro i j hij _ _ b hbi hbj;simp only[updF]at hbi hbj;split at hbi
   ·simp at hbi
   ·split at hbj
    ·simp at hbj
    ·exact hW.disj i j hij b hbi hbj)
 refine⟨hup.1,hup.2,?_,?_,?_⟩
 ·rw[List.nodup_append]
  refine⟨hR.nodup,hW.nodup id,?_⟩;intro a ha b hb hab;subst hab;exact hR.disj a ha id hb
 ·intro b hb i hbi
  simp only[updF]at hbi;split at hbi
  ·simp at hbi
  ·rename_i hi
   rcases List.mem_append.1 hb with hb|hb
   ·exact hR.disj b hb i hbi
   ·exact hW.disj id i (fun e=>hi e.symm) b hb hbi
 ·intro b hb
  rcases List.mem_append.1 hb with hb|hb
  ·exact hR.new b hb
  ·exact hW.new id b hb
theorem Trans.sameFp {M0:Nat->Prop} {H H':Hp} {μ':Map} (t:Trans M0 H μ w H' μ' w) (fp:List Nat):Same w (hot M0 H μ) w (hot M0 H' μ') fp:=
 ⟨Nat.le_refl _,t.same.cold,fun _ _ _=>rfl⟩
theorem Free.mem {FP':Nat->List Nat} {R':List Nat} (h:Free c FP' w R') (hs:R.Sublist R'):Free c FP' w R:=
 ⟨h.nodup.sublist hs,fun b hb=>h.disj b (hs.subset hb),fun b hb=>h.new b (hs.subset hb)⟩
theorem yhb (fps:Nat->List Nat) {n m:Nat} (h:n<=m):((List.range n).flatMap fps).Sublist ((List.range m).flatMap fps):=by
 obtain⟨k,rfl⟩:=Nat.le.dest h;rw[List.range_add,List.flatMap_append];exact List.sublist_append_left _ _
theorem yiz {h h' : List Ent} {x y : AV} {v : Value} {obl : List Prop} (hW : WR c (Hof h) μ FP w) (hR : Free c FP w R) (hx : Rep w (hot c.M0 (Hof h) μ) x μ v [])
  (ha:absC h x=some (y,h',obl)) (ho:allP obl) :
  ∃ FP' fp,WR c (Hof h') μ FP' w/\Free c FP' w (R++fp)/\Rep w (hot c.M0 (Hof h') μ) y yy v fp/\Trans c.M0 (Hof h) μ w (Hof h') μ w/\v.oneCell'=true/\h'.length=h.length:=by
 have hone:oneA x=true->v.oneCell'=true:=fun h1=>hx.one h1
 cases x with
 | int k n=>simp only[absC,Option.some.injEq,Prod.mk.injEq]at ha;obtain⟨rfl,rfl,rfl⟩:=ha;exact⟨FP,[],hW,by simpa using hR,by simpa only[Rep]using hx,Trans.refl _ _ _ _,hone rfl,rfl⟩
 | bool b=>simp only[absC,Option.some.injEq,Prod.mk.injEq]at ha;obtain⟨rfl,rfl,rfl⟩:=ha;exact⟨FP,[],hW,by simpa using hR,by simpa only[Rep]using hx,Trans.refl _ _ _ _,hone rfl,rfl⟩
 | str l=>simp only[absC,Option.some.injEq,Prod.mk.injEq]at ha;obtain⟨rfl,rfl,rfl⟩:=ha;exact⟨FP,[],hW,by simpa using hR,by simpa only[Rep]using hx,Trans.refl _ _ _ _,hone rfl,rfl⟩
 | nils=>simp only[absC,Option.some.injEq,Prod.mk.injEq]at ha;obtain⟨rfl,rfl,rfl⟩:=ha;exact⟨FP,[],hW,by simpa using hR,by simpa only[Rep]using hx,Trans.refl _ _ _ _,hone rfl,rfl⟩
 | sl own e n f=>
  cases own with
  | none=>simp only[absC,Option.some.injEq,Prod.mk.injEq]at ha;obtain⟨rfl,rfl,rfl⟩:=ha;exact⟨FP,[],hW,by simpa using hR,by simpa only[Rep]using hx,Trans.refl _ _ _ _,hone rfl,rfl⟩
  | some T=>simp[absC]at ha
 | agg _=>simp[absC]at ha
 | tup _=>simp[absC]at ha
 | ptr id off=>
  simp only[absC]at ha;split at ha
  ·rename_i cs hid
   split at ha
   ·rename_i hp
    simp only[Option.some.injEq,Prod.mk.injEq]at ha;obtain⟨rfl,rfl,rfl⟩:=ha;obtain⟨k1,k2,k3⟩:=hW.kill hR hid;simp only[Rep]at hx;obtain⟨_,b,cap,hm,rfl⟩:=hx;obtain⟨ent,he,hok⟩:=hW.ent id _ hm;have he2:Hof h id=some (.box cs):=hid;rw[he2]at he;cases he;obtain⟨b',cap',us,T,h1,h2,hh,hone',hr⟩:=hok;cases h1
    have hblt:b<w.heap.size:=(hW.new id b (by rw[h2];simp)).2;refine⟨_,[b],k1,k3.mem (by rw[h2];exact List.Sublist.refl _),?_,k2,rfl,y7 _ _ _⟩;simp only[Rep];exact⟨b,us,T,rfl,rfl,hblt,hh,hone',RepL.mono cs (Map.le_refl _) (k2.sameFp _) (y2b cs hp hr)⟩
   ·simp at ha
  ·simp at ha
 | op _=>simp[absC]at ha
 | pe _ _ _ _=>simp[absC]at ha
 | ep _=>simp[absC]at ha
 | fn _ _ _=>simp[absC]at ha
 | gd _ _=>simp[absC]at ha
 | any=>simp[absC]at ha
 | lit _ _=>simp[absC]at ha
 | ref id e off n=>
  simp only[absC]at ha;split at ha
  ·rename_i T e' n' f hid
   split at ha
   ·rename_i hee
    subst hee;simp only[Option.some.injEq,Prod.mk.injEq]at ha;obtain⟨rfl,rfl,rfl⟩:=ha;have hn:=ho.1;obtain⟨k1,k2,k3⟩:=hW.kill hR hid;simp only[Rep]at hx;obtain⟨_,hx⟩:=hx
    cases hm:μ id with
    | none=>simp[hm]at hx
    | some L=>
     cases L with
     | nil=>
      simp only[hm]at hx;obtain⟨_,rfl,rfl⟩:=hx;exact⟨_,[],k1,k3.mem (by simp),by simp[Rep,y3e],k2,rfl,y7 _ _ _⟩
     | blk b cap=>
      simp only[hm]at hx;obtain⟨hcap,o,rfl,hoo⟩:=hx;obtain⟨ent,he,hok⟩:=hW.ent id _ hm;have he2:Hof h id=some (.arr T e n' f):=hid;rw[he2]at he;cases he;obtain⟨cur,us,fps,hh,h1,h2,h3,hcl,hF⟩:=hok;have hblt:b<w.heap.size:=(hW.new id b (by rw[hF];simp)).2;refine⟨_,b::(List.range n).flatMap fps,k1,k3.mem ?_,?_,k2,rfl,y7 _ _ _⟩
      ·rw[hF]
       exact List.Sublist.append_left (List.Sublist.cons_cons _ (yhb fps hn)) _
      ·simp only[Rep]
       refine .inr ⟨b,0,cap,us,fps,?_,by omega,hblt,?_,rfl,rfl,cur,hh,h1,h3⟩
       ·have:o=0:=by
         rcases hoo with h5|h5
         ·omega
         ·simpa using h5
        subst this;simp
       ·intro i hi
        obtain⟨c1,c2,c3⟩:=hcl i (by omega);exact⟨RepL.mono (f i) (Map.le_refl _) (k2.sameFp _) (y2b (f i) (ho.2.1 i hi) c1),c2,by simpa using c3⟩
   ·simp at ha
  ·simp at ha
theorem yfj:∀ {xs:List AV} {h h':List Ent} {ys:List AV} {us:List Value} {obl:List Prop} {FP:Nat->List Nat} {R:List Nat},WR c (Hof h) μ FP w->Free c FP w R ->
  RepL w (hot c.M0 (Hof h) μ) xs μ us []->absL h xs=some (ys,h',obl)->allP obl ->
  ∃ FP' fp,WR c (Hof h') μ FP' w/\Free c FP' w (R++fp)/\RepL w (hot c.M0 (Hof h') μ) ys yy us fp/\Trans c.M0 (Hof h) μ w (Hof h') μ w/\(∀ u∈us,u.oneCell'=true)/\h'.length=h.length
 | [],h,h',ys,us,obl,FP,R,hW,hR,hx,ha,_=>by
  simp only[absL,Option.some.injEq,Prod.mk.injEq]at ha;obtain⟨rfl,rfl,rfl⟩:=ha;simp only[RepL]at hx;obtain⟨rfl,_⟩:=hx;exact⟨FP,[],hW,by simpa using hR,by simp[RepL],Trans.refl _ _ _ _,by simp,rfl⟩
 | x::xs,h,h',ys,us,obl,FP,R,hW,hR,hx,ha,ho=>by
  simp only[RepL]at hx;obtain⟨u,us',f1,f2,rfl,hfp,h1,h2⟩:=hx;obtain⟨rfl,rfl⟩:=List.append_eq_nil_iff.1 hfp.symm;simp only[absL]at ha
  cases hc:absC h x with
  | none=>simp[hc]at ha
  | some p=>
   obtain⟨y,h1',o1⟩:=p;simp only[hc]at ha
   cases hl:absL h1' xs with
   | none=>simp[hl]at ha
   | some q=>
    obtain⟨zs,h2',o2⟩:=q;simp only[hl,Option.some.injEq,Prod.mk.injEq]at ha;obtain⟨rfl,rfl,rfl⟩:=ha;obtain⟨ho1,ho2⟩:=yn.1 ho;obtain⟨FP1,fp1,a1,a2,a3,a4,a5,a6⟩:=yiz hW hR h1 hc ho1;obtain⟨FP2,fp2,b1,b2,b3,b4,b5,b6⟩:=yfj a1 a2 (RepL.mono xs (Map.le_refl _) (a4.sameFp _) h2) hl ho2;refine⟨FP2,fp1++fp2,b1,by simpa using b2,?_,a4.trans b4,?_,b6.trans a6⟩
    ·simp only[RepL]
     exact⟨u,us',fp1,fp2,rfl,rfl,Rep.mono y (Map.le_refl _) (b4.sameFp _) a3,b3⟩
    ·intro z hz
     rcases List.mem_cons.1 hz with rfl|hz
     ·exact a5
     ·exact b5 z hz
end
end Go.Ab
namespace Go.Ab
open Go
variable [Inv]
def updM (μ:Map) (id:Nat) (L:Loc):Map:=fun i=>if i=id then some L else μ i
structure Grow (w w':World):Prop where
 os:w'.os=w.os
 tape:w'.tape=w.tape
 output:w'.output=w.output
 size:w.heap.size<=w'.heap.size
 block:∀ k,k<w.heap.size->w'.heap[k]? = w.heap[k]?
theorem Grow.alloc (w:World) (o:Obj):Grow w (w.alloc o):=⟨rfl,rfl,rfl,by simp,fun k hk=>by show(w.heap.push o)[k]? = _;rw[Array.getElem?_push,if_neg (by omega)]⟩
theorem Grow.drew (w:World):Grow w w.drew:=⟨rfl,rfl,rfl,Nat.le_refl _,fun _ _=>rfl⟩
theorem Grow.trans {a b c:World} (h:Grow a b) (k:Grow b c):Grow a c:=
 ⟨k.os.trans h.os,k.tape.trans h.tape,k.output.trans h.output,Nat.le_trans h.size k.size,fun i hi=>(k.block i (Nat.lt_of_lt_of_le hi h.size)).trans (h.block i hi)⟩
theorem Grow.refl (a:World):Grow a a:=⟨rfl,rfl,rfl,Nat.le_refl _,fun _ _=>rfl⟩
section
variable {c:Ctx} {μ:Map} {FP:Nat->List Nat} {w:World} {R:List Nat}
def Tail (h:List Ent) (μ:Map):Prop:=∀ id,h.length<=id->μ id=none
theorem y8g {h:List Ent} {e:Ent} {μ:Map} (hd:Tail h μ):∀ id,μ id≠none->Hof (h++[e]) id=Hof h id:=by
 intro id hid;simp only[Hof,ykc];rw[if_neg];intro heq;exact hid (hd id (by omega))
theorem WR.put {h : List Ent} (hW : WR c (Hof h) μ FP w) (hR : Free c FP w R) (hd : Tail h μ) {w' : World} (hg : Grow w w') {e : Ent} {L : Loc} {fp : List Nat}
  (hL:∀ b cap,L=.blk b cap->w.heap.size<=b) (hfp:∀ b,b∈fp->(w.heap.size<=b/\b<w'.heap.size)\/b∈R) (hnd:fp.Nodup)
  (hok:∀ M',Same w (hot c.M0 (Hof h) μ) w' M' R->ylc w' M' (updM μ h.length L) e L fp) :
  WR c (Hof (h++[e])) (updM μ h.length L) (updF FP h.length fp) w'/\Trans c.M0 (Hof h) μ w (Hof (h++[e])) (updM μ h.length L) w'/\Tail (h++[e]) (updM μ h.length L):=by
 have hnone:μ h.length=none:=hd _ (Nat.le_refl _)
 have hle:μ.le (updM μ h.length L):=by
  intro i L' hi;simp only[updM];rw[if_neg]
  ·exact hi
  ·intro e;subst e;rw[hnone]at hi;cases hi
 have hcold:∀ b,b<w.heap.size->¬ hot c.M0 (Hof h) μ b->¬ hot c.M0 (Hof (h++[e])) (updM μ h.length L) b:=by
  intro b hb hn hh;rcases hh with hh|⟨i,cap,e',hm,he,hl⟩
  ·exact hn (.inl hh)
  ·simp only[updM]at hm
   split at hm
   ·cases hm
    have:=hL b cap rfl;omega
   ·exact hn (.inr ⟨i,cap,e',hm,by rw[<- y8g (e:=e) hd i (by simp[hm])];exact he,hl⟩)
 have hup := WR.update (H' := Hof (h ++ [e])) (μ' := updM μ h.length L) (FP' := updF FP h.length fp) (w' := w') (fun _ => False) R hW hR hg.os hg.tape hg.output hg.size (fun b hb => .inl (hg.block b hb)) hle
  (fun i hi _=>y8g hd i hi)
  (by
   intro i hi _;simp only[updF];rw[if_neg]
   intro e;subst e;exact hi hnone)
  (by
   intro i L' hi hL';have hi:=hi.resolve_right id;simp only[updM]at hL';split at hL'
   ·rename_i heq
    subst heq;cases hL'
    refine⟨e,by simp[Hof,ykc],?_⟩;simp only[updF,if_true];exact hok _ ⟨hg.size,hcold,fun b hb _=>hg.block b hb⟩
   ·rw[hi]at hL';cases hL')
  (by
   intro i b cap e' hi hm _ _;have hi:=hi.resolve_right id;simp only[updM]at hm;split at hm
   ·cases hm;exact .inr (hL b cap rfl)
   ·rw[hi]at hm;cases hm)
  (by
   intro i b hi hb;have hi:=hi.resolve_right id;simp only[updF]at hb;split at hb
   ·exact .inr (hfp b hb)
   ·rw[hW.out i hi]at hb;simp at hb)
  (by
   intro i hi;simp only[updM,updF]at hi ⊢;split at hi
   ·cases hi
   ·rename_i hne
    rw[if_neg hne];exact hW.out i hi)
  (by
   intro i hi;simp only[updF];split
   ·exact hnd
   ·exact hW.nodup i)
  (by
   intro i j hij hi hj b hbi hbj;have hi:=hi.resolve_right id;have hj:=hj.resolve_right id;simp only[updF]at hbi hbj;split at hbi
   ·split at hbj
    ·omega
    ·rw[hW.out j hj]at hbj;simp at hbj
   ·rw[hW.out i hi]at hbi;simp at hbi)
 refine⟨hup.1,hup.2,?_⟩;intro i hi;simp only[List.length_append,List.length_singleton]at hi;simp only[updM];rw[if_neg (by omega)];exact hd i (by omega)
end
end Go.Ab
namespace Go.Ab
open Go
variable [Inv]
def elt : List (List AV) -> Nat -> List AV
 | [],_=>[]
 | x::_,0=>x
 | _::l,n+1=>elt l n
def litS : List (List AV) -> Option (List (List UInt8))
  | []=>some []
  | x :: r => match x with
    | [.str s] => match litS r with
      | some l=>some (s::l)
      | none=>none
    | _=>none
def nine {α : Type} : List α -> Bool
 | _::_::_::_::_::_::_::_::_::_=>true
 | _=>false
def eltY (css : List (List AV)) : Option (List (List UInt8)) -> Nat -> List AV
 | some l=>fun i=>[.str (l.getD i default)]
 | none=>elt css
def eltX (css:List (List AV)):Nat->List AV:=bif nine css then eltY css (litS css)else elt css
theorem y4w : ∀ {css : List (List AV)} {l : List (List UInt8)}, litS css = some l -> ∀ i, i < css.length -> elt css i = [.str (l.getD i default)]
 | [],_,_,i,hi=>by simp at hi
 | x::r,l,h,i,hi=>by
  simp only[litS]at h;split at h
  ·split at h
   ·rename_i l' hl
    simp only[Option.some.injEq]at h;subst h
    cases i with
    | zero=>simp[elt]
    | succ i=>simpa [elt]using y4w hl i (by simpa using hi)
   ·simp at h
  ·simp at h
theorem yeab (css:List (List AV)) (i:Nat) (hi:i<css.length):eltX css i=elt css i:=by
 unfold eltX;cases nine css
 ·rfl
 ·simp only[cond_true]
  cases hl:litS css with
  | none=>rfl
  | some l=>exact(y4w hl i hi).symm
def y8j (h : List Ent) (sz : Nat) : List AV -> Option (List (List AV) × List Ent × List Prop)
  | []=>some ([],h,[])
  | x :: xs => match ygd x with
    | some cs=>if cs.length=sz then
        match absL h cs with
        | some (ys, h1, o1) => match y8j h1 sz xs with
          | some (yss,h2,o2)=>some (ys::yss,h2,o1++o2)
          | none=>none
        | none=>none
      else none
    | none=>none
def ykj : Nat -> List (Nat × AV) -> Bool
 | _,[]=>true
 | k,(i,_)::l=>Nat.beq i k && ykj (k+1) l
abbrev NewR:=Option (AV×List Ent×List Prop)
def boxA (h:List Ent) (x:AV):NewR:=
  match ygd x with
  | some cs => match y2l cs with
    | true=>some (.ptr h.length 0,h++[.box cs],[])
    | false=>none
  | none=>none
def y1x (Γ:Env) (h:List Ent) (t:TypeId):NewR:=
  match tget Γ t with
  | some j => match j.ones with
    | true=>some (.ptr h.length 0,h++[.box j.zero],[])
    | false=>none
  | none=>none
def y9o (Γ:Env) (h:List Ent) (t:TypeId) (len:Nat) (parts:List (Nat×AV)):NewR:=
  match tget Γ t with
  | some j => match j.ti with
    | .slice et => match tget Γ et with
      | some k => match k.zero with
        | []=>none
        | _::_=>if parts.length=len/\ykj 0 parts=true/\len * k.size<=16777216/\len<=16777216 then
            match y8j h k.size (parts.map (·.2))with
            | some (css,h1,o)=>some (.ref h.length k.size 0 len,h1++[.arr et k.size len (eltX css)],o)
            | none=>none
          else none
      | none=>none
    | _=>none
  | none=>none
def ytx (Γ:Env) (h:List Ent) (t:TypeId) (l c:AV):NewR:=
  match tget Γ t,l,c with
  | some j, .int _ l, .int _ c => match j.ti with
    | .slice et => match tget Γ et with
      | some k => match k.ones, absL h k.zero with
        | true,some (ys,_,[])=>if k.zero.length=k.size/\0<k.size then
            some (.ref h.length k.size 0 l.toNat,h++[.arr et k.size l.toNat (fun _=>ys)],[0<=l/\l<=c/\c * k.bytes<=140737488355328/\c<=140737488355328])
          else none
        | _,_=>none
      | none=>none
    | _=>none
  | _,_,_=>none
def yrv (Γ:Env) (h:List Ent) (t:TypeId) (x:AV):NewR:=
  match tget Γ t,x with
  | some j, .str l => match j.ti with
    | .string=>some (.ptr h.length 0,h++[.it l 0 (decide (0<l.length))],[∀ x∈l,x.toNat<128])
    | _=>none
  | _,_=>none
def y63 (h:List Ent) (x:AV):NewR:=
  match x with
  | .ptr id 0 => match nthE h id with
    | some (.it l p true)=>some (.tup [.bool true,.int .i64 p,.int .i32 (l.getD p 0).toNat],setE h id (.it l (p+1) (decide (p+1<l.length))),[])
    | some (.it _ _ false)=>some (.tup [.bool false],h,[])
    | _=>none
  | _=>none
section
variable {P:Program} {Γ:Env} {c:Ctx} {μ:Map} {FP:Nat->List Nat} {w:World} {R:List Nat}
structure Next1 (c:Ctx) (h:List Ent) (μ:Map) (w:World) (h':List Ent) (μ':Map) (w':World):Prop where
 wr:∃ FP',WR c (Hof h') μ' FP' w'
 tail:Tail h' μ'
 tr:Trans c.M0 (Hof h) μ w (Hof h') μ' w'
theorem yas {h:List Ent} (hW:WR c (Hof h) μ FP w) (hd:Tail h μ) {cs:List AV} {us:List Value} (hr:RepL w (hot c.M0 (Hof h) μ) cs μ us []) (hone:∀ u∈us,u.oneCell'=true) (T:TypeId) :
  Next1 c h μ w (h++[.box cs]) (updM μ h.length (.blk w.heap.size 0)) (w.alloc (.cells us.toArray T)):=by
 have hle:μ.le (updM μ h.length (.blk w.heap.size 0)):=by
  intro i L' hi;simp only[updM];rw[if_neg]
  ·exact hi
  ·intro e;subst e;rw[hd _ (Nat.le_refl _)]at hi;cases hi
 obtain ⟨h1, h2, h3⟩ := hW.put (Free.nil _ _ _) hd (Grow.alloc w (.cells us.toArray T)) (e := .box cs) (L := .blk w.heap.size 0) (fp := [w.heap.size])
  (by intro b cap he;cases he;exact Nat.le_refl _) (by intro b hb;simp at hb;subst hb;exact .inl ⟨Nat.le_refl _,by simp⟩) (by simp)
  (fun M' hs=>⟨w.heap.size,0,us,T,rfl,rfl,heap_alloc_new w _,hone,RepL.mono cs hle hs hr⟩)
 exact⟨⟨_,h1⟩,h3,h2⟩
theorem ysy {h h':List Ent} {x r:AV} {v:Value} {obl:List Prop} (hW:WR c (Hof h) μ FP w) (hd:Tail h μ) (hb:boxA h x=some (r,h',obl)) (hx:Rep w (hot c.M0 (Hof h) μ) x μ v []) (T:TypeId) :
  ∃ z μ' w',(Instr.box T v).run P w=.ok z w'/\Next1 c h μ w h' μ' w'/\Rep w' (hot c.M0 (Hof h') μ') r μ' z []:=by
 unfold boxA at hb
 cases hc:ygd x with
 | none=>simp[hc]at hb
 | some cs=>
  simp only[hc]at hb;split at hb
  ·rename_i hall
   simp only[Option.some.injEq,Prod.mk.injEq]at hb;obtain⟨rfl,rfl,rfl⟩:=hb;obtain⟨us,hu,hr⟩:=hx.cells hc;refine⟨.pointer (some ⟨w.heap.size,0,none⟩),updM μ h.length (.blk w.heap.size 0),w.alloc (.cells us.toArray T),?_,yas hW hd hr (hr.one hall) T,?_⟩
   ·simp[Instr.box,newVar,newRow,hu]
   ·simp only[Rep]
    exact⟨trivial,w.heap.size,0,by simp[updM],rfl⟩
  ·simp at hb
theorem yct (hΓ : TyOk P Γ) {h h' : List Ent} {t : TypeId} {x r : AV} {v : Value} {obl : List Prop} (hW : WR c (Hof h) μ FP w) (hd : Tail h μ) (hb : yrv Γ h t x = some (r, h', obl)) (ho : allP obl)
  (hx:Rep w (hot c.M0 (Hof h) μ) x μ v []) :
  ∃ z μ' w',(Instr.range t v).run P w=.ok z w'/\Next1 c h μ w h' μ' w'/\Rep w' (hot c.M0 (Hof h') μ') r μ' z []:=by
 unfold yrv at hb;split at hb
 ·rename_i j l ht
  obtain⟨inf,d,hinf,hdd,hti,_⟩:=ym (hΓ.get ht);split at hb
  ·rename_i hk
   rw[hk]at hti;have:=y6c hti;subst this;simp only[Option.some.injEq,Prod.mk.injEq]at hb;obtain⟨rfl,rfl,rfl⟩:=hb;have ex:=hx.val_str;have hl:l.length<=maxLen:=by simp only[Rep]at hx;exact hx.1.2
   subst ex
   have hle:μ.le (updM μ h.length (.blk w.heap.size 0)):=by
    intro i L' hi;simp only[updM];rw[if_neg]
    ·exact hi
    ·intro e;subst e;rw[hd _ (Nat.le_refl _)]at hi;cases hi
   obtain ⟨h1, h2, h3⟩ := hW.put (Free.nil _ _ _) hd (Grow.alloc w (.stringIter ⟨l.toArray⟩ 0)) (e := .it l 0 (decide (0 < l.length))) (L := .blk w.heap.size 0) (fp := [w.heap.size])
    (by intro b cap he;cases he;exact Nat.le_refl _) (by intro b hb;simp at hb;subst hb;exact .inl ⟨Nat.le_refl _,by simp⟩) (by simp)
    (fun M' hs=>⟨w.heap.size,rfl,rfl,heap_alloc_new w _,rfl,ho.1,hl⟩)
   refine⟨.pointer (some ⟨w.heap.size,0,none⟩),updM μ h.length (.blk w.heap.size 0),w.alloc (.stringIter ⟨l.toArray⟩ 0),?_,⟨⟨_,h1⟩,h3,h2⟩,?_⟩
   ·simp[Instr.range,run_underlying hdd]
   ·simp only[Rep]
    exact⟨trivial,w.heap.size,0,by simp[updM],rfl⟩
  ·simp at hb
 ·simp at hb
theorem y5s (hΓ:TyOk P Γ) {h h':List Ent} {t:TypeId} {r:AV} {obl:List Prop} (hW:WR c (Hof h) μ FP w) (hd:Tail h μ) (hb:y1x Γ h t=some (r,h',obl)) :
  ∃ z μ' w',(Instr.alloc t true (.tuple #[])).run P w=.ok z w'/\Next1 c h μ w h' μ' w'/\Rep w' (hot c.M0 (Hof h') μ') r μ' z []:=by
 unfold y1x at hb
 cases ht:tget Γ t with
 | none=>simp[ht]at hb
 | some j=>
  obtain⟨inf,d,hinf,hdd,hti,hsz,hby,hzero,hones⟩:=ym (hΓ.get ht);simp only[ht]at hb;split at hb
  ·rename_i hall
   simp only[Option.some.injEq,Prod.mk.injEq]at hb;obtain⟨rfl,rfl,rfl⟩:=hb
   cases hz:inf.zero with
   | none=>rw[hones,hz]at hall;simp at hall
   | some z=>
    have hr:=y5h (M:=hot c.M0 (Hof h) μ) (μ:=μ) (w:=w) (hΓ.get ht) hinf hz
    have hone:∀ u∈z.cells.toList,u.oneCell'=true:=by
     rw[hones,hz]at hall;simp only[Option.map_some,Option.getD_some,List.all_eq_true]at hall;exact hall
    refine⟨.pointer (some ⟨w.heap.size,0,none⟩),updM μ h.length (.blk w.heap.size 0),w.alloc (.cells z.cells.toList.toArray t),?_,yas hW hd hr hone t,?_⟩
    ·simp[Instr.alloc,newVar,newRow,zeroValue,typeInfo,hinf,hz]
    ·simp only[Rep]
     exact⟨trivial,w.heap.size,0,by simp[updM],rfl⟩
  ·simp at hb
theorem y8p (z:Array Value) (n e i j:Nat) (hz:z.size=e) (hi:i<n) (hj:j<e):(madeCells z (n * e))[i * e+j]? = z[j]? := by
 have hlt:i * e+j<n * e:=by
  calc i * e + j < i * e + e := by omega
   _=(i+1) * e:=by rw[Nat.add_mul,Nat.one_mul]
   _<=n * e:=Nat.mul_le_mul_right _ hi
 have hmod:(i * e+j) % z.size=j:=by rw[hz,Nat.mul_comm,Nat.mul_add_mod,Nat.mod_eq_of_lt hj]
 have hjz:j<z.size:=by omega
 simp only[madeCells,Array.getElem?_map,Array.getElem?_range,if_pos hlt,Option.map_some,hmod];rw[getElem!_pos z j hjz,Array.getElem?_eq_getElem hjz]
theorem ygm {h : List Ent} : ∀ {xs ys : List AV} {h' : List Ent} {obl : List Prop}, (∀ x ∈ xs, ∃ v, x = avOf v) -> absL h xs = some (ys, h', obl) -> ys = xs /\ h' = h
 | [],ys,h',obl,_,ha=>by
  simp only[absL,Option.some.injEq,Prod.mk.injEq]at ha;obtain⟨rfl,rfl,_⟩:=ha;exact⟨rfl,rfl⟩
 | x::xs,ys,h',obl,hv,ha=>by
  obtain⟨v,hxv⟩:=hv x (by simp);simp only[absL]at ha
  have hx:∀ y h1 o1,absC h x=some (y,h1,o1)->y=x/\h1=h:=by
   intro y h1 o1 hc;subst hxv;unfold avOf at hc ⊢;split at hc
   case h_3=>revert hc;cases decide (_<=4096)<;>intro hc<;>simp only[cond_true,cond_false,absC,Option.some.injEq,Prod.mk.injEq,reduceCtorEq]at hc ⊢;obtain⟨rfl,rfl,_⟩:=hc;exact⟨rfl,rfl⟩
   all_goals simp only[absC,Option.some.injEq,Prod.mk.injEq,reduceCtorEq]at hc
   all_goals
    obtain⟨rfl,rfl,_⟩:=hc;exact⟨rfl,rfl⟩
  cases hc:absC h x with
  | none=>simp[hc]at ha
  | some p=>
   obtain⟨y,h1,o1⟩:=p;obtain⟨rfl,rfl⟩:=hx y h1 o1 hc;simp only[hc]at ha
   cases hl:absL h1 xs with
   | none=>simp[hl]at ha
   | some q=>
    obtain⟨zs,h2,o2⟩:=q;simp only[hl,Option.some.injEq,Prod.mk.injEq]at ha;obtain⟨rfl,rfl,rfl⟩:=ha;obtain⟨rfl,rfl⟩:=ygm (fun x hx=>hv x (by simp[hx])) hl;exact⟨rfl,rfl⟩
theorem Rep.avOf_any {w w':World} {M M':Nat->Prop} {μ μ':Map} {v u:Value} {fp:List Nat} (h:Rep w M (avOf v) μ u fp):Rep w' M' (avOf v) μ' u fp:=by
 unfold avOf at h ⊢;split at h
 case h_3=>revert h;cases decide (_<=4096)<;>intro h<;>simpa only[cond_true,cond_false,Rep]using h
 all_goals simpa only[Rep]using h
theorem RepL.avOf_any {w w' : World} {M M' : Nat -> Prop} {μ μ' : Map} : ∀ {xs : List AV} {us : List Value} {fp : List Nat}, (∀ x ∈ xs, ∃ v, x = avOf v) -> RepL w M xs μ us fp -> RepL w' M' xs μ' us fp
 | [],us,fp,_,h=>by simpa only[RepL]using h
 | x::xs,us,fp,hv,h=>by
  simp only[RepL]at h ⊢;obtain⟨u,us',f1,f2,e1,e2,h1,h2⟩:=h;obtain⟨v,rfl⟩:=hv x (by simp);exact⟨u,us',f1,f2,e1,e2,h1.avOf_any,RepL.avOf_any (fun y hy=>hv y (by simp[hy])) h2⟩
theorem ydt (hΓ : TyOk P Γ) {h h' : List Ent} {t : TypeId} {l cp r : AV} {vl vc : Value} {obl : List Prop} (hW : WR c (Hof h) μ FP w) (hd : Tail h μ) (hb : ytx Γ h t l cp = some (r, h', obl)) (ho : allP obl)
  (hl:Rep w (hot c.M0 (Hof h) μ) l μ vl []) (hc:Rep w (hot c.M0 (Hof h) μ) cp μ vc []) :
  ∃ z μ' w',(Instr.makeSlice t vl vc).run P w=.ok z w'/\Next1 c h μ w h' μ' w'/\Rep w' (hot c.M0 (Hof h') μ') r μ' z []:=by
 unfold ytx at hb;split at hb
 ·rename_i j kl l kc cc ht
  have el:=hl.val_int;have ec:=hc.val_int;subst el;subst ec;obtain⟨inf,d,hinf,hdd,hti,_⟩:=ym (hΓ.get ht);split at hb
  ·rename_i et hk
   rw[hk]at hti;have:=ypc hti;subst this
   cases het:tget Γ et with
   | none=>simp[het]at hb
   | some k=>
    obtain⟨inf2,d2,hinf2,hd2,hti2,hsz2,hby2,hzero2,hones2⟩:=ym (hΓ.get het);simp only[het]at hb;split at hb
    ·rename_i ys h0 hall habs
     split at hb
     ·rename_i hlen
      simp only[Option.some.injEq,Prod.mk.injEq]at hb;obtain⟨rfl,rfl,rfl⟩:=hb;obtain⟨⟨b1,b2,b3,b4⟩,_⟩:=ho
      have hav:∀ x∈k.zero,∃ v,x=avOf v:=by
       intro x hx;rw[hzero2]at hx;obtain⟨v,_,rfl⟩:=List.mem_map.1 hx;exact⟨v,rfl⟩
      obtain⟨rfl,rfl⟩:=ygm hav habs
      cases hz:inf2.zero with
      | none=>rw[hones2,hz]at hall;simp at hall
      | some z=>
       have hr:=y5h (M:=hot c.M0 (Hof h0) μ) (μ:=yy) (w:=w) (hΓ.get het) hinf2 hz
       have hone:∀ u∈z.cells.toList,u.oneCell'=true:=by
        rw[hones2,hz]at hall;simp only[Option.map_some,Option.getD_some,List.all_eq_true]at hall;exact hall
       have hzs:z.cells.size=k.size:=by rw[<- hlen.1, <- hr.length];simp
       have hrun:=run_make (P:=P) w t et inf2 z hdd hinf2 hz kl kc l cc b1 b2 (by rw[hby2];have:(k.bytes:Int) * cc=cc * k.bytes:=Int.mul_comm _ _;omega) (by omega);rw[hsz2]at hrun
       obtain ⟨q1, q2, q3⟩ := hW.put (Free.nil _ _ _) hd (Grow.alloc w (.cells (madeCells z.cells (cc.toNat * k.size)) et)) (e := .arr et k.size l.toNat (fun _ => k.zero)) (L := .blk w.heap.size cc.toNat) (fp := [w.heap.size])
        (by intro b cap he;cases he;exact Nat.le_refl _) (by intro b hb;simp at hb;subst hb;exact .inl ⟨Nat.le_refl _,by simp⟩) (by simp)
        (fun M' hs=>by
         refine⟨_,fun _=>z.cells.toList,fun _=>[],heap_alloc_new w _,by simp[madeCells],by omega,by simp only[maxLen];omega,?_,by simp⟩;intro i hi;refine⟨hr.avOf_any hav,by simpa using hzs,?_⟩;intro j u hu
         have hj:j<k.size:=by
          have:=(List.getElem?_eq_some_iff.1 hu).1;simpa [hzs]using this
         refine⟨?_,hone u (List.mem_of_getElem? hu)⟩;rw[cell_of_row _ _ _ _ _ _ (heap_alloc_new w _),y8p z.cells cc.toNat k.size i j hzs (by omega) hj]
         simpa using hu)
       refine⟨.slice (some ⟨w.heap.size,0,none⟩) l.toNat cc.toNat,_,_,hrun,⟨⟨_,q1⟩,q3,q2⟩,?_⟩;simp only[Rep,updM,if_true];exact⟨trivial,by omega,0,by simp,.inr (by simp)⟩
     ·simp at hb
    ·simp at hb
  ·simp at hb
 ·simp at hb
end
end Go.Ab
namespace Go.Ab
open Go
variable [Inv]
section
variable {P:Program} {Γ:Env} {c:Ctx} {μ:Map} {FP:Nat->List Nat} {w:World} {R:List Nat}
theorem y7r {sz : Nat} : ∀ {xs : List AV} {h h' : List Ent} {css : List (List AV)} {obl : List Prop}, y8j h sz xs = some (css, h', obl) -> css.length = xs.length
 | [],h,h',css,obl,ha=>by
  simp only[y8j,Option.some.injEq,Prod.mk.injEq]at ha;obtain⟨rfl,rfl,rfl⟩:=ha;rfl
 | x::xs,h,h',css,obl,ha=>by
  simp only[y8j]at ha;split at ha
  ·split at ha
   ·split at ha
    ·split at ha
     ·rename_i h2 _ _ hr
      simp only[Option.some.injEq,Prod.mk.injEq]at ha;obtain⟨rfl,rfl,rfl⟩:=ha;simp[y7r hr]
     ·simp at ha
    ·simp at ha
   ·simp at ha
  ·simp at ha
theorem yml {sz:Nat}:∀ {xs:List AV} {h h':List Ent} {css:List (List AV)} {vs:List Value} {obl:List Prop} {FP:Nat->List Nat} {R:List Nat},WR c (Hof h) μ FP w->Free c FP w R ->
  RepL w (hot c.M0 (Hof h) μ) xs μ vs []->y8j h sz xs=some (css,h',obl)->allP obl ->
  ∃ FP',∃ uss:List (List Value),∃ fpss:List (List Nat),WR c (Hof h') μ FP' w/\Free c FP' w (R++fpss.flatten)/\Trans c.M0 (Hof h) μ w (Hof h') μ w/\h'.length=h.length /\
   uss.length=xs.length/\fpss.length=xs.length/\vs.map (·.cells)=uss.map (·.toArray) /\
   (∀ i,i<xs.length->RepL w (hot c.M0 (Hof h') μ) (elt css i) yy (uss.getD i []) (fpss.getD i [])/\(uss.getD i []).length=sz/\∀ u∈uss.getD i [],u.oneCell'=true)
 | [],h,h',css,vs,obl,FP,R,hW,hR,hx,ha,_=>by
  simp only[y8j,Option.some.injEq,Prod.mk.injEq]at ha;obtain⟨rfl,rfl,rfl⟩:=ha;simp only[RepL]at hx;obtain⟨rfl,_⟩:=hx;exact⟨FP,[],[],hW,by simpa using hR,Trans.refl _ _ _ _,rfl,rfl,rfl,rfl,by simp⟩
 | x::xs,h,h',css,vs,obl,FP,R,hW,hR,hx,ha,ho=>by
  simp only[RepL]at hx;obtain⟨v,vs',f1,f2,rfl,hfp,h1,h2⟩:=hx;obtain⟨rfl,rfl⟩:=List.append_eq_nil_iff.1 hfp.symm;simp only[y8j]at ha
  cases hc:ygd x with
  | none=>simp[hc]at ha
  | some cs=>
   simp only[hc]at ha;split at ha
   ·rename_i hlen
    cases hal:absL h cs with
    | none=>simp[hal]at ha
    | some p=>
     obtain⟨ys,h1',o1⟩:=p;simp only[hal]at ha
     cases hll:y8j h1' sz xs with
     | none=>simp[hll]at ha
     | some q=>
      obtain⟨yss,h2',o2⟩:=q;simp only[hll,Option.some.injEq,Prod.mk.injEq]at ha;obtain⟨rfl,rfl,rfl⟩:=ha;obtain⟨ho1,ho2⟩:=yn.1 ho;obtain⟨us,hu,hr⟩:=h1.cells hc;obtain⟨FP1,fp1,a1,a2,a3,a4,a5,a6⟩:=yfj hW hR hr hal ho1;obtain⟨FP2,uss,fpss,b1,b2,b3,b4,b5,b6,b7,b8⟩:=yml a1 a2 (RepL.mono xs (Map.le_refl _) (a4.sameFp _) h2) hll ho2;refine⟨FP2,us::uss,fp1::fpss,b1,by simpa using b2,a4.trans b3,b4.trans a6,by simp[b5],by simp[b6],by simp[hu,b7],?_⟩;intro i hi
      cases i with
      | zero=>
       simp only[elt,List.getD_cons_zero];exact⟨RepL.mono ys (Map.le_refl _) (b3.sameFp _) a3,by rw[hr.length,hlen],a5⟩
      | succ i=>
       simp only[elt,List.getD_cons_succ];exact b8 i (by simpa using hi)
   ·simp at ha
theorem yhh : ∀ (pre ns rest : List Value), ns.length <= rest.length -> putV pre.length ns (pre ++ rest) = pre ++ ns ++ rest.drop ns.length
 | [],[],rest,_=>by simp[putV]
 | [],n::ns,[],h=>by simp at h
 | [],n::ns,r::rest,h=>by
  have:=yhh [] ns rest (by simpa using h);simp only[List.length_nil,List.nil_append]at this;simp[putV,this]
 | p::pre,ns,rest,h=>by
  have:=yhh pre ns rest h;simp only[List.append_assoc]at this;simp[putV,this]
theorem ypw (sz:Nat):∀ (vs:List (Nat×Value)) (uss:List (List Value)) (pre rest:List Value) (k:Nat),(∀ i p,vs[i]? = some p->p.1=k+i)->vs.map (·.2.cells)=uss.map (·.toArray) ->
  (∀ us∈uss,us.length=sz)->pre.length=k * sz->rest.length=uss.length * sz ->
  Instr.fill (fun i=>some (i * sz,sz)) (pre++rest).toArray vs=some (pre++uss.flatten).toArray
 | [],uss,pre,rest,k,_,hv,_,_,hr=>by
  have:uss=[]:=by simpa using hv.symm
  subst this;have:rest=[]:=List.eq_nil_of_length_eq_zero (by simpa using hr);subst this;simp[Instr.fill]
 | p::vs,uss,pre,rest,k,hk,hv,hs,hp,hr=>by
  cases uss with
  | nil=>simp at hv
  | cons us uss=>
   obtain⟨i,v⟩:=p;have hi:i=k:=by have:=hk 0 (i,v) rfl;simpa using this
   subst hi;simp only[List.map_cons,List.cons.injEq]at hv;have hus:us.length=sz:=hs us (by simp);have hrl:rest.length=sz+uss.length * sz:=by rw[hr,List.length_cons,Nat.add_mul,Nat.one_mul,Nat.add_comm]
   have hcond:¬ (v.cells.size≠sz\/i * sz+v.cells.size > (pre++rest).toArray.size):=by
    rw[hv.1];simp only[List.size_toArray,List.length_append];omega
   simp only[Instr.fill];rw[if_neg (by simpa using hcond),hv.1,y5f, <- hp,yhh pre us rest (by omega)]
   have ih := ypw sz vs uss (pre ++ us) (rest.drop us.length) (i + 1) (fun j q hq => by have := hk (j + 1) q (by simpa using hq); omega) hv.2 (fun x hx => hs x (by simp [hx]))
    (by simp[hp,hus,Nat.add_mul]) (by rw[List.length_drop];omega)
   rw[ih];simp
theorem ypm : ∀ {l : List (Nat × AV)} {k : Nat}, ykj k l = true -> ∀ i p, l[i]? = some p -> p.1 = k + i
 | [],_,_,i,p,h=>by simp at h
 | (j,x)::l,k,hs,i,p,h=>by
  simp only[ykj,Bool.and_eq_true]at hs;have hj:j=k:=Nat.eq_of_beq_eq_true hs.1
  cases i with
  | zero=>simp only[List.getElem?_cons_zero,Option.some.injEq]at h;subst h;simp[hj]
  | succ i=>
   have:=ypm hs.2 i p (by simpa using h);omega
theorem yjm {sz : Nat} : ∀ {uss : List (List Value)} {i j : Nat}, (∀ us ∈ uss, us.length = sz) -> i < uss.length -> j < sz -> uss.flatten[i * sz + j]? = (uss.getD i [])[j]?
 | [],i,j,_,hi,_=>by simp at hi
 | us::uss,0,j,hs,_,hj=>by
  have hl:us.length=sz:=hs us (by simp);simp only[List.flatten_cons,Nat.zero_mul,Nat.zero_add,List.getD_cons_zero];rw[List.getElem?_append_left (by omega)]
 | us::uss,i+1,j,hs,hi,hj=>by
  have hl:us.length=sz:=hs us (by simp);simp only[List.flatten_cons,List.getD_cons_succ];rw[List.getElem?_append_right (by rw[hl,Nat.add_mul];omega),hl];have:(i+1) * sz+j-sz=i * sz+j:=by rw[Nat.add_mul];omega
  rw[this];exact yjm (fun x hx=>hs x (by simp[hx])) (by simpa using hi) hj
theorem y5g {sz : Nat} : ∀ {uss : List (List Value)}, (∀ us ∈ uss, us.length = sz) -> uss.flatten.length = uss.length * sz
 | [],_=>by simp
 | us::uss,hs=>by
  rw[List.flatten_cons,List.length_append,y5g (fun x hx=>hs x (by simp[hx])),hs us (by simp),List.length_cons,Nat.add_mul,Nat.one_mul,Nat.add_comm]
theorem ypj : ∀ (l : List (List Nat)), (List.range l.length).flatMap (fun i => l.getD i []) = l.flatten
 | []=>by simp
 | x::l=>by
  rw[List.length_cons,List.range_succ_eq_map,List.flatMap_cons,List.flatMap_map,List.flatten_cons];simp only[List.getD_cons_zero,List.getD_cons_succ];rw[ypj l]
theorem ypo (hΓ : TyOk P Γ) {h h' : List Ent} {t : TypeId} {len : Nat} {parts : List (Nat × AV)} {vals : List (Nat × Value)} {r : AV} {obl : List Prop} (hW : WR c (Hof h) μ FP w) (hd : Tail h μ)
  (hb:y9o Γ h t len parts=some (r,h',obl)) (ho:allP obl)
  (hv:vals.map (·.1)=parts.map (·.1)) (hr:RepL w (hot c.M0 (Hof h) μ) (parts.map (·.2)) μ (vals.map (·.2)) []) :
  ∃ z μ' w',(Instr.buildSlice t len vals.toArray).run P w=.ok z w'/\Next1 c h μ w h' μ' w'/\Rep w' (hot c.M0 (Hof h') μ') r μ' z []:=by
 unfold y9o at hb
 cases ht:tget Γ t with
 | none=>simp[ht]at hb
 | some j=>
  obtain⟨inf,d,hinf,hdd,hti,_⟩:=ym (hΓ.get ht);simp only[ht]at hb;split at hb
  ·rename_i et hk
   rw[hk]at hti;have:=ypc hti;subst this
   cases het:tget Γ et with
   | none=>simp[het]at hb
   | some k=>
    obtain⟨inf2,d2,hinf2,hd2,hti2,hsz2,hby2,hzero2,hones2⟩:=ym (hΓ.get het);simp only[het]at hb;split at hb
    ·simp at hb
    ·rename_i z0 zs hz0
     split at hb
     ·rename_i hcond
      obtain⟨hpl,hseq,hsz,hlen16⟩:=hcond
      cases hll:y8j h k.size (parts.map (·.2))with
      | none=>simp[hll]at hb
      | some p=>
       obtain⟨css,h1,o1⟩:=p;simp only[hll,Option.some.injEq,Prod.mk.injEq]at hb;obtain⟨rfl,rfl,rfl⟩:=hb
       cases hz:inf2.zero with
       | none=>rw[hzero2,hz]at hz0;simp at hz0
       | some z=>
        obtain⟨FP1,uss,fpss,a1,a2,a3,a4,a5,a6,a7,a8⟩:=yml hW (Free.nil _ _ _) hr hll ho;simp only[List.nil_append]at a2;simp only[List.length_map,hpl]at a5 a6 a8
        have husz:∀ us∈uss,us.length=k.size:=by
         intro us hus;obtain⟨i,hi,rfl⟩:=List.getElem_of_mem hus;have:=(a8 i (by omega)).2.1;simpa [List.getD_eq_getElem?_getD,List.getElem?_eq_getElem hi]using this
        have hd1:Tail h1 μ:=fun id hid=>hd id (by omega)
        have hvk:∀ i p,vals[i]? = some p->p.1=0+i:=by
         intro i p hp;have h1:(vals.map (·.1))[i]? = some p.1:=by simp[hp]
         rw[hv,List.getElem?_map,Option.map_eq_some_iff]at h1;obtain⟨q,hq,he⟩:=h1;rw[<- he];exact ypm hseq i q hq
        have hfill:=ypw k.size vals uss [] ((List.range (len * k.size)).map fun i=>z.cells[i % z.cells.size]!) 0 hvk (by simpa [List.map_map,Function.comp_def]using a7) husz (by simp) (by simp[a5]);simp only[List.nil_append]at hfill
        have hrun:(Instr.buildSlice t len vals.toArray).run P w=.ok (.slice (some ⟨w.heap.size,0,none⟩) len len) (w.alloc (.cells uss.flatten.toArray et)):=by
         have hn2:¬ (16777216<len * k.size):=by omega
         have key:∀ zc:Array Value,(len * k.size=0\/zc=z.cells)->(Instr.fill (fun i=>some (i * k.size,k.size)) ((Array.range (len * k.size)).map fun i=>zc[i % zc.size]!) vals)=some uss.flatten.toArray:=by
          intro zc hzc
          have e1:((Array.range (len * k.size)).map fun i=>zc[i % zc.size]!)=((List.range (len * k.size)).map fun i=>z.cells[i % z.cells.size]!).toArray:=by
           rcases hzc with h0|rfl
           ·rw[h0];simp
           ·apply Array.ext';simp
          rw[e1];exact hfill
         have hlet:∀ zc:Array Value,(len * k.size=0\/zc=z.cells)->(do
           let some cells := Instr.fill (fun i => some (i * k.size, k.size)) ((Array.range (len * k.size)).map fun i => zc[i % zc.size]!) vals
            | stuck "buildSlice: a part of the wrong size"
           pure (.slice (some (<- newRow et cells)) len len):Sem Value).run P w=.ok (.slice (some ⟨w.heap.size,0,none⟩) len len) (w.alloc (.cells uss.flatten.toArray et)):=by
          intro zc hzc;rw[key zc hzc];simp[newRow]
         have hzv:(zeroValue et).run P w=.ok z w:=by
          simp only[zeroValue,typeInfo,Sem.run_bind,run_program,hinf2,Result.andThen_ok,Sem.run_pure,hz]
         unfold Instr.buildSlice;simp only[Sem.run_bind,run_underlying hdd,Result.andThen_ok,ytb (P:=P) (w:=w) (hΓ.get het),gt_iff_lt,Nat.reducePow,hn2,if_false];by_cases hn:len * k.size=0
         ·rw[if_pos hn]
          exact hlet #[] (.inl hn)
         ·rw[if_neg hn,Sem.run_bind,hzv]
          exact hlet z.cells (.inr rfl)
        obtain ⟨q1, q2, q3⟩ := a1.put a2 hd1 (Grow.alloc w (.cells uss.flatten.toArray et)) (e := .arr et k.size len (eltX css)) (L := .blk w.heap.size len) (fp := w.heap.size :: fpss.flatten)
         (by intro b cap he;cases he;exact Nat.le_refl _)
         (by
          intro b hb;rcases List.mem_cons.1 hb with rfl|hb
          ·exact .inl ⟨Nat.le_refl _,by simp⟩
          ·exact .inr hb)
         (by
          rw[List.nodup_cons];refine⟨fun hm => ?_,a2.nodup⟩;have:=(a2.new _ hm).2
          omega)
         (fun M' hs=>by
          refine⟨_,fun i=>uss.getD i [],fun i=>fpss.getD i [],heap_alloc_new w _,by simp[y5g husz,a5],Nat.le_refl _,by simp only[maxLen];omega,?_,?_⟩
          ·intro i hi
           obtain⟨c1,c2,c3⟩:=a8 i hi;rw[<- yeab css i (by have:=y7r hll;simp only[List.length_map,hpl]at this;omega)]at c1;refine⟨RepL.mono _ (yli _) (hs.sub ?_) c1,c2,?_⟩
           ·intro x hx
            have hi2:i<fpss.length:=by omega
            simp only[List.getD_eq_getElem?_getD,List.getElem?_eq_getElem hi2,Option.getD_some]at hx;exact List.mem_flatten.2 ⟨_,List.getElem_mem hi2,hx⟩
           ·intro j u hu
            have hj:j<k.size:=by
             have:=(List.getElem?_eq_some_iff.1 hu).1;rw[c2]at this;exact this
            refine⟨?_,c3 u (List.mem_of_getElem? hu)⟩;rw[cell_of_row _ _ _ _ _ _ (heap_alloc_new w _)];simp only[List.getElem?_toArray];rw[yjm husz (by omega) hj];exact hu
          ·have:=ypj fpss
           rw[a6]at this
           rw[this])
        refine⟨_,_,_,hrun,⟨⟨_,q1⟩,q3,?_⟩,?_⟩
        ·have:=a3.trans q2
         exact this
        ·simp only[Rep]
         rw[show h.length=h1.length from a4.symm];simp only[updM,if_true];exact⟨trivial,by omega,0,by simp,.inr (by simp)⟩
     ·simp at hb
  ·simp at hb
end
end Go.Ab
