/- A part of a proof: walks of functions and lemmas of our own. No conditions. -/
import Derived.Test.YtbgiihoaldolfaaGreatCAe
import Derived.ProofKit
set_option linter.unusedSectionVars false
set_option linter.unusedVariables false
set_option linter.unusedSimpArgs false
namespace Go.Ab
open Go
variable [Inv]
theorem ygr:allP []=True:=rfl
abbrev DF:=List AV->Option (AV×Bool×List Prop)
structure DE where
 d:DF
 md:Option (List Bool)
 m:List AV->Option (AV×List AV×List Prop)
def dP (d:DF):DE:=⟨d,none,fun _=>none⟩
def dM (ms:List Bool) (m:List AV->Option (AV×List AV×List Prop)):DE:=⟨fun _=>none,some ms,m⟩
def ddD : List (FuncId × DE) -> FuncId -> List AV -> Option (AV × Bool × List Prop)
 | [],_,_=>none
 | (g,d)::r,f,xs=>bif Nat.beq f g then d.d xs else ddD r f xs
def ddMd : List (FuncId × DE) -> FuncId -> Option (List Bool)
 | [],_=>none
 | (g,d)::r,f=>bif Nat.beq f g then d.md else ddMd r f
def ddM : List (FuncId × DE) -> FuncId -> List AV -> Option (AV × List AV × List Prop)
 | [],_,_=>none
 | (g,d)::r,f,xs=>bif Nat.beq f g then d.m xs else ddM r f xs
def DD (l:List (FuncId×DE)):Dn:=⟨ddD l,ddMd l,ddM l⟩
structure OkE (P:Program) (f:FuncId) (x:DE):Prop where
 d:∀ xs r z ob,x.d xs=some (r,z,ob)->allP ob->Den P f xs r
 m:∀ xs r outs ob,x.m xs=some (r,outs,ob)->allP ob->DenM P f xs r outs
def OkD (P:Program) (f:FuncId) (d:DF):Prop:=∀ xs r z ob,d xs=some (r,z,ob)->allP ob->Den P f xs r
def OkM (P:Program) (f:FuncId) (m:List AV->Option (AV×List AV×List Prop)):Prop:=∀ xs r outs ob,m xs=some (r,outs,ob)->allP ob->DenM P f xs r outs
theorem OkD.e {P:Program} {f:FuncId} {d:DF} (h:OkD P f d):OkE P f (dP d):=⟨h,fun _ _ _ _ h=>by simp[dP]at h⟩
theorem OkM.e {P:Program} {f:FuncId} {ms:List Bool} {m:List AV->Option (AV×List AV×List Prop)} (h:OkM P f m):OkE P f (dM ms m):=⟨fun _ _ _ _ h=>by simp[dM]at h,h⟩
theorem yj (P:Program):DOk P (DD []):=⟨fun _ _ _ _ _ h=>by simp[DD,ddD]at h,fun _ _ _ _ _ h=>by simp[DD,ddM]at h⟩
theorem yd {P:Program} {g:FuncId} {d:DE} {l:List (FuncId×DE)} (h:OkE P g d) (hl:DOk P (DD l)):DOk P (DD ((g,d)::l)):=by
 constructor
 ·intro f xs r z ob hd ho
  simp only[DD,ddD]at hd
  cases hb:Nat.beq f g with
  | true=>
   rw[hb]at hd;have:=Nat.eq_of_beq_eq_true hb;subst this;exact h.d xs r z ob hd ho
  | false=>
   rw[hb]at hd;exact hl.d f xs r z ob hd ho
 ·intro f xs r z ob hd ho
  simp only[DD,ddM]at hd
  cases hb:Nat.beq f g with
  | true=>
   rw[hb]at hd;have:=Nat.eq_of_beq_eq_true hb;subst this;exact h.m xs r z ob hd ho
  | false=>
   rw[hb]at hd;exact hl.m f xs r z ob hd ho
def isLate : Op -> Bool
  | .assign _=>true
  | .store .. => true
  | .box .. => true
  | .alloc _=>true
  | .buildSlice .. => true
  | .makeSlice .. => true
  | .range .. => true
  | .next .. => true
  | .call c => match c.callee with
    | .builtin .append=>true
    | .builtin .clear=>true
    | _=>false
  | _=>false
def autoM : List Oper -> Nat
 | []=>0
 | o::os=>bif isLate o.op then 0 else autoM os+1
def encL {α:Type} [Inhabited α] (e:Nat) (enc:α->List AV) (l:List α):AV:=.sl none e l.length (fun i=>enc (l.getD i default))
def ownL {α:Type} [Inhabited α] (T:TypeId) (e:Nat) (enc:α->List AV) (l:List α):AV:=.sl (some T) e l.length (fun i=>enc (l.getD i default))
def decL {α:Type} (dec:List AV->α) (n:Nat) (f:Nat->List AV):List α:=(List.range n).map fun i=>dec (f i)
omit [Inv]in
theorem ypj {α:Type} (dec:List AV->α) (n:Nat) (f:Nat->List AV):(decL dec n f).length=n:=by simp[decL]
omit [Inv]in
theorem ylo {α:Type} [Inhabited α] (dec:List AV->α) (n:Nat) (f:Nat->List AV) (i:Nat) (hi:i<n):(decL dec n f).getD i default=dec (f i):=by
 simp[decL,List.getD_eq_getElem?_getD,hi]
omit [Inv]in
theorem y8 {α:Type} [Inhabited α] (l:List α):(List.range l.length).map (fun i=>l.getD i default)=l:=by
 apply List.ext_getElem
 ·simp
 ·intro i h1 h2
  simp[List.getD_eq_getElem?_getD,h2]
theorem Den.sim {P:Program} {f:FuncId} {xs xs':List AV} {r:AV} (h:Den P f xs' r) (hs:simOL xs xs') (hx:noIdL xs=true) (hx':noIdL xs'=true):Den P f xs r:=by
 refine⟨h.1,?_⟩;intro w M vs fpA hI hIM hA hAn hAm hM
 have htop:∀ {ys:List AV},RepL w (fun b=>M b\/b∈yx xs vs) ys noMap vs []->yx ys vs=[]:=by
  intro ys hy;apply List.eq_nil_iff_forall_not_mem.2;intro b hb;have:=yzb ys hy b hb;simp at this
 have hfp:fpA=[]:=ylf xs hx hA;subst hfp;have hA':=yvb xs xs' hs hA;have h1:=htop hA;have h2:=htop hA';have:=h.2 w M vs [] hI hIM (by rw[h2];rw[h1]at hA';exact hA') hAn hAm hM;rw[h1];rw[h2]at this;exact this
theorem yrv {α:Type} [Inhabited α] {e n:Nat} {x:Nat->List AV} (enc:α->List AV) (dec:List AV->α) (h:∀ i,i<n->simOL (x i) (enc (dec (x i)))):simO (.sl none e n x) (encL e enc (decL dec n x)):=by
 simp only[simO,encL,ypj,true_and];intro i hi;rw[ylo dec n x i hi];exact h i hi
omit [Inv]in
theorem y9v (a b:Bool):(bif a then b else false)=(a && b):=by cases a<;>rfl
omit [Inv]in
theorem yqz (a b:Bool):(bif a then true else b)=(a || b):=by cases a<;>rfl
end Go.Ab
namespace Go.Ab
open Go Go.ChangeShapes Go.WideShapes Go.ChangeAt Go.RowKit
variable [Inv]
theorem Keep.below {W W':World} (h:Keep W [] W'):Below W.heap.size W W':=⟨h.os,h.tape,h.output,h.size,fun k hk=>h.block k hk (by simp)⟩
theorem Keep.kept {W W':World} (h:Keep W [] W') (may:MemPlace->Prop):W.keptBut W' may:=by
 refine⟨h.os,h.output,fun i hi => ?_⟩;rw[h.block i hi (by simp)];split<;>simp_all
theorem y8g {H:Type} {enc:TypeId×Value->H} {P:Program} (hl:laidOutB P=true) {W W':World} (hb:Below W.heap.size W W') :
  ∀ {ts:List TypeId} {vs:List Value} {ds:List (DataW H)} {ps:List MemPlace},(ts.all fun t=>P.readableRec t && decide (t<P.types.size))=true->(∀ x∈ps,x.block<W.heap.size) ->
   DataW.TrodAll enc P W 0 (fun _=>true) true ts vs ds ps->DataW.TrodAll enc P W' 0 (fun b=>decide (b<W.heap.size)) true ts vs ds ps
 | [],[],[],ps,_,_,h=>h
 | t::ts,v::vs,d::ds,ps,ht,hlt,h=>by
  obtain⟨p,q,h1,h2,rfl⟩:=h;simp only[List.all_cons,Bool.and_eq_true,decide_eq_true_eq]at ht;refine⟨p,q,Below.trod hl ht.1.1 ht.1.2 h1 hb (fun x hx=>hlt x (by simp[hx])),y8g hl hb ?_ (fun x hx=>hlt x (by simp[hx])) h2,rfl⟩;simpa using ht.2
 | [],_::_,_,_,_,_,h=>h.elim
 | [],[],_::_,_,_,_,h=>h.elim
 | _::_,[],_,_,_,_,h=>h.elim
 | _::_,_::_,[],_,_,_,h=>h.elim
theorem yts {H : Type} {enc : TypeId × Value -> H} {P : Program} {f : FuncId} {fn : Func} {s : ChangeSpec} {W : World} {args : Array Value} {ds gs : List (DataW H)} {before : List MemPlace} {xs : List AV} {tb : TypeId}
  (hl:laidOutB P=true) (hres:fn.resultTypes = #[tb]) (htb:P.underlying tb=some .bool) (hvars:s.vars=[]) (hts:(fn.params.toList.all fun t=>P.readableRec t && decide (t<P.types.size))=true)
  (hs:∀ p,DataW.TrodAll enc P W 0 (fun _=>true) true fn.params.toList args.toList ds p->(s.fn H (ds++gs)).results=[.lit (.bool true)]/\(s.fn H (ds++gs)).args=ds/\(s.fn H (ds++gs)).vars=[])
  (hW:DataW.Whole enc P fn.params.toList s.vars false W args.toList ds gs before)
  (hI:Inv.ok W) (hD:Den P f xs (.bool true)) (hx:RepL W (fun _=>False) xs noMap args.toList []) :
  Calls P f args W fun e W'=>∃ v,e=.returned v/\s.post enc P fn false true false false W args v W':=by
 have htop:yx xs args.toList=[]:=by
  apply List.eq_nil_iff_forall_not_mem.2;intro b hb;have:=yzb xs hx b hb;simp at this
 have hc:=hD.2 W (fun _=>False) args.toList [] hI (by simp) (by rw[htop];simpa using hx) (by simp) (by simp) (by simp);rw[htop]at hc;simp only[Array.toArray_toList]at hc;refine hc.mono ?_;rintro e W' ⟨v,fpR,rfl,hK,hr,_⟩
 refine⟨v,rfl,?_⟩;have hv:=hr.val_bool;subst hv;have hlt:=hW.lt;obtain⟨p,q,hA,hV,hbe,hfz,hnd⟩:=id hW;obtain⟨h1,h2,h3⟩:=hs p hA
 have hq:q=[]:=by
  rw[hvars]at hV
  cases gs with
  | nil=>exact hV
  | cons _ _=>exact hV.elim
 refine⟨ds,gs,before,[],p,[],hW,?_,?_,?_,hK.kept _,by simp⟩
 ·rw[h1,hres]
  exact⟨[],[],⟨1,by simp[DataW.trod,htb,Value.cells]⟩,rfl,rfl⟩
 ·rw[h2]
  exact y8g hl hK.below hts (fun x hx=>hlt x (by rw[hbe];simp[hx])) hA
 ·rw[h3,hvars]
  rfl
end Go.Ab
namespace Go.Ab
open Go
variable [Inv]
def posC : AV -> AV
 | .ref id e off n=>.ref id e off n
 | .ptr id off=>.ptr id off
 | _=>.any
def posV : AV -> AV
 | .agg cs=>.agg (cs.map posC)
 | x=>posC x
def posL : List Bool -> List AV -> List AV
 | true::gb,x::xs=>posV x::posL gb xs
 | _::gb,_::xs=>.any::posL gb xs
 | [],_::xs=>.any::posL [] xs
 | _,[]=>[]
def absBC (h : List Ent) : AV -> Option (AV × List Ent × List Prop)
 | .ref id e off n=>absC h (.ref id e off n)
 | .ptr id off=>absC h (.ptr id off)
 | _=>some (.any,h,[])
def absBL (h : List Ent) : List AV -> Option (List AV × List Ent × List Prop)
  | []=>some ([],h,[])
  | x :: xs => match absBC h x with
    | some (y, h1, o1) => match absBL h1 xs with
      | some (ys,h2,o2)=>some (y::ys,h2,o1++o2)
      | none=>none
    | none=>none
def absBV (h : List Ent) : AV -> Option (AV × List Ent × List Prop)
  | .agg cs => match absBL h cs with
    | some (ys,h',ob)=>some (.agg ys,h',ob)
    | none=>none
  | x=>absBC h x
def absBVL (h : List Ent) : List AV -> Option (List AV × List Ent × List Prop)
  | []=>some ([],h,[])
  | x :: xs => match absBV h x with
    | some (y, h1, o1) => match absBVL h1 xs with
      | some (ys,h2,o2)=>some (y::ys,h2,o1++o2)
      | none=>none
    | none=>none
def EndsM (Γ:Env) (rs:List ResultVar) (bk:List AV) (r:AV) (outs:List AV) (s:St):Prop:=
  match resA Γ s rs with
  | some (xs, o1) => match absVL s.h xs with
    | some (ys, h', ob) => match absBVL h' bk with
      | some (zs,_,ob2)=>allP o1/\allP ob/\allP ob2/\(NoBorL ys/\NoBorL zs\/FlatOL ys/\FlatOL zs)/\simO (packA ys) r/\simOL zs outs
      | none=>False
    | none=>False
  | none=>False
section
variable {P:Program} {c:Ctx} {μ:Map} {FP:Nat->List Nat} {w:World} {h0:List Ent}
theorem y0r {w w':World} {M M':Nat->Prop} {μ μ':Map} (hμ:μ.le μ') {x:AV} {v:Value} (h:Rep w M x μ v []):Rep w' M' (posC x) μ' v []:=by
 unfold posC;split
 ·simp only[Rep]at h ⊢
  refine⟨trivial,?_⟩;have h2:=h.2;rename_i id e off n
  cases hm:μ id with
  | none=>simp[hm]at h2
  | some L=>rw[hμ id L hm];simpa [hm]using h2
 ·simp only[Rep]at h ⊢
  obtain⟨_,b,cap,hm,hv⟩:=h;exact⟨trivial,b,cap,hμ _ _ hm,hv⟩
 ·simp[Rep]
theorem yuo {w w' : World} {M M' : Nat -> Prop} {μ μ' : Map} (hμ : μ.le μ') : ∀ {xs : List AV} {vs : List Value}, RepL w M xs μ vs [] -> RepL w' M' (xs.map posC) μ' vs []
 | [],vs,h=>by simpa [RepL]using h
 | x::xs,vs,h=>by
  simp only[RepL,List.map_cons]at h ⊢;obtain⟨u,us',f1,f2,rfl,e2,h1,h2⟩:=h;obtain⟨rfl,rfl⟩:=List.append_eq_nil_iff.1 e2.symm;exact⟨u,us',[],[],rfl,rfl,y0r hμ h1,yuo hμ h2⟩
theorem y7w {w w':World} {M M':Nat->Prop} {μ μ':Map} (hμ:μ.le μ') {x:AV} {v:Value} (h:Rep w M x μ v []):Rep w' M' (posV x) μ' v []:=by
 unfold posV;split
 ·simp only[Rep]at h ⊢
  obtain⟨us,e,h⟩:=h;exact⟨us,e,yuo hμ h⟩
 ·exact y0r hμ h
theorem yui {w w' : World} {M M' : Nat -> Prop} {μ μ' : Map} (hμ : μ.le μ') : ∀ {gb : List Bool} {xs : List AV} {vs : List Value}, RepL w M xs μ vs [] -> RepL w' M' (posL gb xs) μ' vs []
 | gb,[],vs,h=>by cases gb<;>simpa [RepL,posL]using h
 | gb,x::xs,vs,h=>by
  simp only[RepL]at h;obtain⟨u,us',f1,f2,rfl,e2,h1,h2⟩:=h;obtain⟨rfl,rfl⟩:=List.append_eq_nil_iff.1 e2.symm
  have any:∀ gb,RepL w' M' (.any::posL gb xs) μ' (u::us') []:=fun gb=>by
   simp only[RepL];exact⟨u,us',[],[],rfl,rfl,by simp[Rep],yui hμ h2⟩
  cases gb with
  | nil=>simp only[posL];exact any []
  | cons b gb=>
   cases b with
   | false=>simp only[posL];exact any gb
   | true=>
    simp only[posL,RepL];exact⟨u,us',[],[],rfl,rfl,y7w hμ h1,yui hμ h2⟩
theorem yol (hW : WR c (Hof h0) μ FP w) {h h' : List Ent} {x y : AV} {v : Value} {ob : List Prop} (hsub : ∀ (id : Nat) (e : Ent), nthE h id = some e -> e.live = true -> nthE h0 id = some e)
  (hx:Rep w (hot c.M0 (Hof h0) μ) x μ v []) (ha:absBC h x=some (y,h',ob)) (ho:allP ob) :
  ∃ K fp,Rep w (hot c.M0 (Hof h0) μ) y noMap v fp/\Gone h h' K/\Owns FP K fp/\∀ b,b∈tops y v->hot c.M0 (Hof h0) μ b:=by
 unfold absBC at ha;split at ha
 ·obtain⟨K,fp,h1,h2,h3⟩:=y4g hW hsub hx ha ho
  exact⟨K,fp,h1,h2,h3,yah hsub hx ha⟩
 ·obtain⟨K,fp,h1,h2,h3⟩:=y4g hW hsub hx ha ho
  exact⟨K,fp,h1,h2,h3,yah hsub hx ha⟩
 ·simp only[Option.some.injEq,Prod.mk.injEq]at ha
  obtain⟨rfl,rfl,rfl⟩:=ha;exact⟨[],[],by simp[Rep],Gone.refl _,by simp[Owns],by simp[tops,yyb]⟩
theorem yyl (hW:WR c (Hof h0) μ FP w):∀ {xs:List AV} {h h':List Ent} {ys:List AV} {us:List Value} {ob:List Prop},(∀ (id:Nat) (e:Ent),nthE h id=some e->e.live=true->nthE h0 id=some e) ->
  RepL w (hot c.M0 (Hof h0) μ) xs μ us []->absBL h xs=some (ys,h',ob)->allP ob ->
  ∃ K fp,RepL w (hot c.M0 (Hof h0) μ) ys noMap us fp/\Gone h h' K/\Owns FP K fp/\∀ b,b∈yx ys us->hot c.M0 (Hof h0) μ b
 | [],h,h',ys,us,ob,hsub,hx,ha,_=>by
  simp only[absBL,Option.some.injEq,Prod.mk.injEq]at ha;obtain⟨rfl,rfl,rfl⟩:=ha;simp only[RepL]at hx;exact⟨[],[],by simp only[RepL];exact⟨hx.1,trivial⟩,Gone.refl _,by simp[Owns],by simp[yx]⟩
 | x::xs,h,h',ys,us,ob,hsub,hx,ha,ho=>by
  simp only[absBL]at ha
  cases h1:absBC h x with
  | none=>simp[h1]at ha
  | some p=>
   obtain⟨y,h2,o1⟩:=p;simp only[h1]at ha
   cases h3:absBL h2 xs with
   | none=>simp[h3]at ha
   | some q=>
    obtain⟨ys',h4,o2⟩:=q;simp only[h3,Option.some.injEq,Prod.mk.injEq]at ha;obtain⟨rfl,rfl,rfl⟩:=ha;obtain⟨ho1,ho2⟩:=yl.1 ho;simp only[RepL]at hx;obtain⟨u,us',f1,f2,rfl,e2,hu,hus⟩:=hx;obtain⟨rfl,rfl⟩:=List.append_eq_nil_iff.1 e2.symm;obtain⟨K1,g1,r1,go1,ow1,t1⟩:=yol hW hsub hu h1 ho1;obtain⟨K2,g2,r2,go2,ow2,t2⟩:=yyl hW (fun id e he hl=>hsub id e (go1.sub id e he hl) hl) hus h3 ho2;refine⟨K1++K2,g1++g2,by simp only[RepL];exact⟨u,us',g1,g2,rfl,rfl,r1,r2⟩,go1.trans go2,Owns.app hW go1 go2 ow1 ow2,?_⟩;intro b hb;simp only[yx,List.mem_append]at hb;exact hb.elim (t1 b) (t2 b)
theorem y3s (hW : WR c (Hof h0) μ FP w) {h h' : List Ent} {x y : AV} {v : Value} {ob : List Prop} (hsub : ∀ (id : Nat) (e : Ent), nthE h id = some e -> e.live = true -> nthE h0 id = some e)
  (hx:Rep w (hot c.M0 (Hof h0) μ) x μ v []) (ha:absBV h x=some (y,h',ob)) (ho:allP ob) :
  ∃ K fp,Rep w (hot c.M0 (Hof h0) μ) y noMap v fp/\Gone h h' K/\Owns FP K fp/\∀ b,b∈tops y v->hot c.M0 (Hof h0) μ b:=by
 cases x with
 | agg cs=>
  simp only[absBV]at ha
  cases h1:absBL h cs with
  | none=>simp[h1]at ha
  | some p=>
   obtain⟨ys,h2,o1⟩:=p;simp only[h1,Option.some.injEq,Prod.mk.injEq]at ha;obtain⟨rfl,rfl,rfl⟩:=ha;simp only[Rep]at hx;obtain⟨us,rfl,hus⟩:=hx;obtain⟨K,fp,r,g,o,t⟩:=yyl hW hsub hus h1 ho;exact⟨K,fp,by simp only[Rep];exact⟨us,rfl,r⟩,g,o,by simpa only[tops]using t⟩
 | _=>exact yol hW hsub hx ha ho
theorem ygg (hW:WR c (Hof h0) μ FP w):∀ {xs:List AV} {h h':List Ent} {ys:List AV} {us:List Value} {ob:List Prop},(∀ (id:Nat) (e:Ent),nthE h id=some e->e.live=true->nthE h0 id=some e) ->
  RepL w (hot c.M0 (Hof h0) μ) xs μ us []->absBVL h xs=some (ys,h',ob)->allP ob ->
  ∃ K fp,RepL w (hot c.M0 (Hof h0) μ) ys noMap us fp/\Gone h h' K/\Owns FP K fp/\∀ b,b∈yx ys us->hot c.M0 (Hof h0) μ b
 | [],h,h',ys,us,ob,hsub,hx,ha,_=>by
  simp only[absBVL,Option.some.injEq,Prod.mk.injEq]at ha;obtain⟨rfl,rfl,rfl⟩:=ha;simp only[RepL]at hx;exact⟨[],[],by simp only[RepL];exact⟨hx.1,trivial⟩,Gone.refl _,by simp[Owns],by simp[yx]⟩
 | x::xs,h,h',ys,us,ob,hsub,hx,ha,ho=>by
  simp only[absBVL]at ha
  cases h1:absBV h x with
  | none=>simp[h1]at ha
  | some p=>
   obtain⟨y,h2,o1⟩:=p;simp only[h1]at ha
   cases h3:absBVL h2 xs with
   | none=>simp[h3]at ha
   | some q=>
    obtain⟨ys',h4,o2⟩:=q;simp only[h3,Option.some.injEq,Prod.mk.injEq]at ha;obtain⟨rfl,rfl,rfl⟩:=ha;obtain⟨ho1,ho2⟩:=yl.1 ho;simp only[RepL]at hx;obtain⟨u,us',f1,f2,rfl,e2,hu,hus⟩:=hx;obtain⟨rfl,rfl⟩:=List.append_eq_nil_iff.1 e2.symm;obtain⟨K1,g1,r1,go1,ow1,t1⟩:=y3s hW hsub hu h1 ho1;obtain⟨K2,g2,r2,go2,ow2,t2⟩:=ygg hW (fun id e he hl=>hsub id e (go1.sub id e he hl) hl) hus h3 ho2;refine⟨K1++K2,g1++g2,by simp only[RepL];exact⟨u,us',g1,g2,rfl,rfl,r1,r2⟩,go1.trans go2,Owns.app hW go1 go2 ow1 ow2,?_⟩;intro b hb;simp only[yx,List.mem_append]at hb;exact hb.elim (t1 b) (t2 b)
mutual
theorem y5n {w : World} {M : Nat -> Prop} {μ : Map} : ∀ (x x' : AV) {v : Value} {fp : List Nat}, simO x x' -> Rep w M x μ v fp -> tops x' v = tops x v
 | .sl o e n f,x',v,fp,hs,h=>by
  cases x' with
  | sl o' e' n' f'=>
   simp only[simO]at hs;obtain⟨rfl,rfl,rfl,hf⟩:=hs;cases o<;>cases v<;>first|rfl|(rename_i a _ _;cases a<;>rfl)
  | _=>simp[simO]at hs
 | .agg cs,x',v,fp,hs,h=>by
  cases x' with
  | agg cs'=>
   simp only[simO]at hs;simp only[Rep]at h;obtain⟨us,rfl,h⟩:=h;simp only[tops];exact ypd cs cs' hs h
  | _=>simp[simO]at hs
 | .op cs,x',v,fp,hs,h=>by
  cases x' with
  | op cs'=>
   simp only[Rep]at h;obtain⟨b,us,T,rfl,_⟩:=h;rfl
  | _=>simp[simO]at hs
 | .tup cs,x',v,fp,hs,h=>by
  cases x' with
  | tup cs'=>
   simp only[simO]at hs;simp only[Rep]at h;obtain⟨us,rfl,h⟩:=h;simp only[tops];exact ypd cs cs' hs h
  | _=>simp[simO]at hs
 | .int k n,x',v,fp,hs,h=>by
  cases x' with
  | int k' n'=>simp only[simO]at hs;obtain⟨rfl,rfl⟩:=hs;rfl
  | _=>simp[simO]at hs
 | .bool k,x',v,fp,hs,h=>by
  cases x' with
  | bool k'=>simp only[simO]at hs;subst hs;rfl
  | _=>simp[simO]at hs
 | .str k,x',v,fp,hs,h=>by
  cases x' with
  | str k'=>simp only[simO]at hs;subst hs;rfl
  | _=>simp[simO]at hs
 | .nils,x',v,fp,hs,h=>by
  simp only[Rep]at h;obtain⟨rfl,_⟩:=h
  cases x' with
  | nils=>rfl
  | sl o e n f=>cases o<;>rfl
  | _=>simp[simO]at hs
 | .ref ..,x',v,fp,hs,h=>by cases x'<;>simp[simO]at hs;obtain⟨rfl,rfl,rfl,rfl⟩:=hs;rfl
 | .ptr ..,x',v,fp,hs,h=>by cases x'<;>simp[simO]at hs;obtain⟨rfl,rfl⟩:=hs;rfl
 | .pe ..,x',v,fp,hs,h=>by cases x'<;>simp[simO]at hs;obtain⟨rfl,rfl,rfl,rfl⟩:=hs;rfl
 | .ep cs,x',v,fp,hs,h=>by cases x'<;>simp[simO]at hs;simp only[Rep]at h;obtain⟨_,b,o,us,rfl,_⟩:=h;rfl
 | .fn ..,x',v,fp,hs,h=>by cases x'<;>simp[simO]at hs;obtain⟨rfl,rfl,rfl⟩:=hs;rfl
 | .lit ..,x',v,fp,hs,h=>by cases x'<;>simp[simO]at hs;obtain⟨rfl,rfl⟩:=hs;rfl
 | .gd ..,x',v,fp,hs,h=>by cases x'<;>simp[simO]at hs;obtain⟨rfl,rfl⟩:=hs;rfl
 | .any,x',v,fp,hs,h=>by cases x'<;>simp[simO]at hs;rfl
theorem ypd {w : World} {M : Nat -> Prop} {μ : Map} : ∀ (xs xs' : List AV) {us : List Value} {fp : List Nat}, simOL xs xs' -> RepL w M xs μ us fp -> yx xs' us = yx xs us
 | [],xs',us,fp,hs,h=>by cases xs'<;>simp only[simOL]at hs;rfl
 | x::xs,xs',us,fp,hs,h=>by
  cases xs'<;>simp only[simOL]at hs
  simp only[RepL]at h;obtain⟨u,us',f1,f2,rfl,rfl,h1,h2⟩:=h;simp only[yx,y5n x _ hs.1 h1,ypd xs _ hs.2 h2]
end
mutual
theorem Rep.fp_lt {w : World} {M : Nat -> Prop} : ∀ (x : AV) {μ : Map} {v : Value} {fp : List Nat}, Rep w M x μ v fp -> ∀ b, b ∈ fp -> b < w.heap.size
 | .agg cs,μ,v,fp,h,b,hb=>by
  simp only[Rep]at h;obtain⟨us,rfl,h⟩:=h;exact RepL.fp_lt cs h b hb
 | .tup cs,μ,v,fp,h,b,hb=>by
  simp only[Rep]at h;obtain⟨us,rfl,h⟩:=h;exact RepL.fp_lt cs h b hb
 | .op cs,μ,v,fp,h,b,hb=>by
  simp only[Rep]at h;obtain⟨b',us,T,rfl,rfl,hlt,_⟩:=h;simp only[List.mem_singleton]at hb;subst hb;exact hlt
 | .sl own e n f,μ,v,fp,h,b,hb=>by
  simp only[Rep]at h;rcases h with⟨_,_,rfl⟩|⟨b',o,cap,us,fps,hv,hn,hb',hc,ho⟩
  ·simp at hb
  ·cases own with
   | none=>obtain⟨_,rfl,_⟩:=ho;simp at hb
   | some T=>
    obtain⟨rfl,rfl,_⟩:=ho;rcases List.mem_cons.1 hb with rfl|hb
    ·exact hb'
    ·obtain⟨i,hi,hbi⟩:=List.mem_flatMap.1 hb
     exact RepL.fp_lt (f i) (hc i (List.mem_range.1 hi)).1 b hbi
 | .int _ _,_,_,_,h,b,hb=>by simp only[Rep]at h;rw[h.2]at hb;simp at hb
 | .bool _,_,_,_,h,b,hb=>by simp only[Rep]at h;rw[h.2]at hb;simp at hb
 | .str _,_,_,_,h,b,hb=>by simp only[Rep]at h;rw[h.2]at hb;simp at hb
 | .nils,_,_,_,h,b,hb=>by simp only[Rep]at h;rw[h.2]at hb;simp at hb
 | .any,_,_,_,h,b,hb=>by simp only[Rep]at h;rw[h]at hb;simp at hb
 | .ref ..,_,_,_,h,b,hb=>by simp only[Rep]at h;rw[h.1]at hb;simp at hb
 | .ptr ..,_,_,_,h,b,hb=>by simp only[Rep]at h;rw[h.1]at hb;simp at hb
 | .pe ..,_,_,_,h,b,hb=>by simp only[Rep]at h;rw[h.1]at hb;simp at hb
 | .ep ..,_,_,_,h,b,hb=>by simp only[Rep]at h;rw[h.1]at hb;simp at hb
 | .fn ..,_,_,_,h,b,hb=>by simp only[Rep]at h;rw[h.1]at hb;simp at hb
 | .lit ..,_,_,_,h,b,hb=>by simp only[Rep]at h;rw[h.1]at hb;simp at hb
 | .gd ..,_,_,_,h,b,hb=>by simp only[Rep]at h;rw[h.1]at hb;simp at hb
theorem RepL.fp_lt {w : World} {M : Nat -> Prop} : ∀ (xs : List AV) {μ : Map} {us : List Value} {fp : List Nat}, RepL w M xs μ us fp -> ∀ b, b ∈ fp -> b < w.heap.size
 | [],_,_,_,h,b,hb=>by simp only[RepL]at h;rw[h.2]at hb;simp at hb
 | x::xs,_,_,_,h,b,hb=>by
  simp only[RepL]at h;obtain⟨u,us',f1,f2,rfl,rfl,h1,h2⟩:=h;rcases List.mem_append.1 hb with hb|hb
  ·exact Rep.fp_lt x h1 b hb
  ·exact RepL.fp_lt xs h2 b hb
end
end
section
variable {P:Program}
theorem yst {f : FuncId} {fn : Func} {code : Code} {xs : List AV} {r : AV} {outs : List AV} {gb : List Bool} {N : Nat} {rs : List ResultVar} {Γ : Env} (hΓ : TyOk P Γ) (hf : P.funcs[f]? = some fn) (hname : (fn.name == "runtime.NumGoroutine") = false)
  (hb:fn.body=some code) (hN:fn.ntmps=N) (hr:fn.results.toList=rs) (hlen:xs.length<=N)
  (h:∀ c:Ctx,ydc xs->c.nt=N->c.k0=(adEL xs).length->AWP P c code (EndsM Γ rs (posL gb (adRL 0 xs)) r outs) (fun _ _=>False) (EndsM Γ rs (posL gb (adRL 0 xs)) r outs) ⟨pars 0 (adRL 0 xs),adEL xs⟩):DenM P f xs r outs:=by
 refine⟨⟨fn,hf,hname,by rw[hb];rfl⟩,?_⟩;intro w M vs fpA hI hIM hA hAn hAm hM;obtain⟨ls,hAd,hAdR⟩:=yfk xs hA;have hlsn:=yeb (ls:=ls) (by rw[<- hAd.fps];exact hAn);have hlt:∀ b,b∈fpA->b<w.heap.size:=RepL.fp_lt xs hA;have htf:∀ b,b∈yx xs vs->b∈fpA:=yzb xs hA
 have hfpA:∀ (k:Nat) (L:Loc) (fq:List Nat),ls[k]? = some (L,fq)->∀ b,b∈fq->b∈fpA:=fun k L fq hk b hb=>by
  rw[hAd.fps];exact List.mem_flatten.2 ⟨fq,List.mem_map.2 ⟨(L,fq),List.mem_of_getElem? hk,rfl⟩,hb⟩
 let μ0:Map:=fun j=>(ls[j]?).map (·.1)
 let FP0:Nat->List Nat:=fun j=>((ls[j]?).map (·.2)).getD []
 have hbase:∀ j L,μ0 j=some L->j<(adEL xs).length:=by
  intro j L hj;simp only[μ0]at hj
  cases hls:ls[j]? with
  | none=>simp[hls]at hj
  | some p=>rw[<- hAd.len];exact(List.getElem?_eq_some_iff.1 hls).1
 let c:Ctx:={ w0:=w,M0:=M,F0:=fpA,T0:=yx xs vs,mu0:=μ0,k0:=(adEL xs).length,nt:=N,cold0:=fun b hb=>⟨hM b hb,fun h=>hAm b h hb⟩,own0:=hlt,top0:=htf,base0:=hbase,inv0:=hI,invM:=hIM }
 have hhot:∀ b,hot c.M0 (Hof (adEL xs)) μ0 b->M b\/b∈yx xs vs:=by
  rintro b (hb|⟨id,cap,e,hm,he,hl⟩)
  ·exact .inl hb
  ·right
   simp only[μ0]at hm
   cases hls:ls[id]? with
   | none=>simp[hls]at hm
   | some p=>
    obtain⟨L,fq⟩:=p;simp only[hls,Option.map_some,Option.some.injEq]at hm;subst hm;simp only[Hof,yfb]at he;exact(hAd.ok id e _ fq he hls).2 b cap rfl
 have hR0:RepL w (fun b=>M b\/b∈yx xs vs) (adRL 0 xs) μ0 vs []:=hAdR 0 μ0 (fun j L fq hj=>by simp only[μ0,Nat.zero_add,hj];rfl);have hA':RepL w (hot c.M0 (Hof (adEL xs)) μ0) (adRL 0 xs) μ0 vs []:=yuc hhot hR0;have hvl:=hA.length;have hal:(adRL 0 xs).length=xs.length:=by rw[<- hA'.length,hvl]
 refine calls_of_wp hf hb ?_;refine wp_mono ((h c (RepL.lens xs hA) rfl rfl).run _ _ ⟨μ0,FP0,⟨⟨rfl,rfl,rfl,Nat.le_refl _,fun _ _ _=>rfl⟩,Map.le_refl _,?_,?_,?_,?_,?_,?_⟩,?_,?_,?_,rfl⟩) ?_
 ·intro id L hm
  simp only[μ0]at hm
  cases hls:ls[id]? with
  | none=>simp[hls]at hm
  | some p=>
   obtain⟨L',fq⟩:=p;simp only[hls,Option.map_some,Option.some.injEq]at hm;subst hm;have hid:id<(adEL xs).length:=by rw[<- hAd.len];exact(List.getElem?_eq_some_iff.1 hls).1
   refine⟨_,by simp only[Hof,yfb];exact List.getElem?_eq_getElem hid,?_⟩;have hok:=(hAd.ok id _ _ fq (List.getElem?_eq_getElem hid) hls).1 μ0;simp only[FP0,hls,Option.map_some,Option.getD_some];exact yhb.mono (Map.le_refl _) ⟨Nat.le_refl _,fun b _ hb hh=>hb (hhot b hh),fun _ _ _=>rfl⟩ (fun b hb=>hlt b (hfpA _ _ _ hls b hb)) hok
 ·intro id hm
  simp only[μ0]at hm;simp only[FP0]
  cases hls:ls[id]? with
  | none=>rfl
  | some p=>simp[hls]at hm
 ·intro id
  simp only[FP0]
  cases hls:ls[id]? with
  | none=>simp
  | some p=>obtain⟨L,fq⟩:=p;exact hlsn.1 id L fq hls
 ·intro i j hij b hbi hbj
  simp only[FP0]at hbi hbj
  cases hli:ls[i]? with
  | none=>simp[hli]at hbi
  | some p=>
   cases hlj:ls[j]? with
   | none=>simp[hlj]at hbj
   | some q=>
    obtain⟨L1,f1⟩:=p;obtain⟨L2,f2⟩:=q;simp only[hli,hlj,Option.map_some,Option.getD_some]at hbi hbj;exact hlsn.2 i j L1 f1 L2 f2 hij hli hlj b hbi hbj
 ·intro i b hb
  simp only[FP0]at hb
  cases hls:ls[i]? with
  | none=>simp[hls]at hb
  | some p=>
   obtain⟨L,fq⟩:=p;simp only[hls,Option.map_some,Option.getD_some]at hb;exact⟨.inl (hfpA _ _ _ hls b hb),hlt b (hfpA _ _ _ hls b hb)⟩
 ·intro id b cap e hm he hl
  left
  simp only[μ0]at hm
  cases hls:ls[id]? with
  | none=>simp[hls]at hm
  | some p=>
   obtain⟨L,fq⟩:=p;simp only[hls,Option.map_some,Option.some.injEq]at hm;subst hm;simp only[Hof,yfb]at he;exact(hAd.ok id e _ fq he hls).2 b cap rfl
 ·intro j hj
  simp only[μ0];rw[List.getElem?_eq_none (by rw[hAd.len];exact hj)];rfl
 ·intro i
  have:=yce (k:=0) (i:=i) (rest:=(Array.replicate (fn.ntmps-vs.toArray.size) undef).toList) hA' (Nat.zero_le _)
  have e:(vs.toArray++Array.replicate (fn.ntmps-vs.toArray.size) undef).getD i undef=(((vs++(Array.replicate (fn.ntmps-vs.toArray.size) undef).toList)[i-0]?).getD undef):=by
   rw[Array.getD_eq_getD_getElem?, <- Array.getElem?_toList];simp
  rw[e];exact this
 ·simp only[Array.size_append,List.size_toArray,Array.size_replicate]
  show vs.length+(fn.ntmps-vs.length)=N;omega
 ·intro e a w' hp
  have main:∀ s',EndsM Γ rs (posL gb (adRL 0 xs)) r outs s'->WRs c s' a w'->bodyPost P fn (fun e w'=>∃ v fpR fpO,e=.returned v/\Keep w (yx xs vs) w'/\Rep w' (fun b=>M b\/b∈fpR++fpO) r noMap v fpR /\
    RepL w' (fun b=>M b\/b∈fpR++fpO) outs noMap vs fpO/\(fpR++fpO).Nodup/\(∀ b,b∈fpR++fpO->(b∈fpA\/w.heap.size<=b)/\b<w'.heap.size) /\
    (∀ b,b∈tops r v++yx outs vs->b∈yx xs vs\/w.heap.size<=b)) .ret a w':=by
   intro s' hE hs';simp only[EndsM]at hE;split at hE
   ·rename_i xs0 o1 hres0
    split at hE
    ·rename_i ys h' ob habs
     split at hE
     ·rename_i zs h'' ob2 hback
      obtain⟨ho1,ho,ho2,hnb,hpack,hsim⟩:=hE;obtain⟨μ,FP,hW,htl,h1,h2,h3⟩:=hs'
      have hmap:∃ us,(fn.results.toList.mapM (fun|.tmp t=>pure (a.tmps.getD t undef)|.cell b t=>do loadVar t (<- asAddr (a.tmps.getD b undef)):ResultVar->Sem Value)).run P w'=.ok us w'/\RepL w' (hot c.M0 (Hof s'.h) μ) xs0 μ us []:=by
       rw[hr];exact y5f hΓ hW a.tmps h1 (fun _=>rfl) (fun _ _=>rfl) hres0 ho1
      obtain⟨us,hrun,hres⟩:=hmap;obtain⟨K1,fp1,hr1,hgone1,hown1⟩:=ymd hW (fun _ _ he _=>he) hres habs ho;have htops1:=yod (fun _ _ he _=>he) hres habs;have hpos:RepL w' (hot c.M0 (Hof s'.h) μ) (posL gb (adRL 0 xs)) μ vs []:=yui hW.base hR0;obtain⟨K2,fp2,hr2,hgone2,hown2,htops2⟩:=ygg hW (fun id e he hl=>hgone1.sub id e he hl) hpos hback ho2;have hown:=Owns.app hW hgone1 hgone2 hown1 hown2
      have hnew:∀ b,b∈fp1++fp2->(b∈fpA\/w.heap.size<=b)/\b<w'.heap.size:=by
       intro b hb;obtain⟨id,_,hid⟩:=hown.2 b hb;exact hW.new id b hid
      have htop:∀ b,b∈fp1++fp2->hot c.M0 (Hof s'.h) μ b->b∈yx xs vs\/w.heap.size<=b:=by
       intro b hb hh;rcases hh with hh|⟨id,cap,e,hm,he,hl⟩
       ·have hc:=c.cold0 b hh
        rcases(hnew b hb).1 with h5|h5
        ·exact absurd h5 hc.2
        ·exact .inr h5
       ·exact hW.top id b cap e hm he hl
      let v0:Value:=if h:us.toArray.size=1 then us.toArray[0]else .tuple us.toArray
      have hYZ:RepL w' (fun b=>M b\/b∈fp1++fp2) ys noMap us fp1/\RepL w' (fun b=>M b\/b∈fp1++fp2) zs noMap vs fp2:=by
       rcases hnb with⟨hnb1,hnb2⟩|⟨hf1,hf2⟩
       ·exact⟨RepL.noBor ys hnb1 hr1,RepL.noBor zs hnb2 hr2⟩
       ·have hcold:∀ b,b<w'.heap.size->¬ hot c.M0 (Hof s'.h) μ b->¬ (M b\/b∈fp1++fp2):=by
         rintro b _ hn (hm|hm)
         ·exact hn (.inl hm)
         ·rcases List.mem_append.1 hm with hm|hm
          ·exact hn (htops1 b (FlatOL.tops ys hf1 hr1 b hm))
          ·exact hn (htops2 b (FlatOL.tops zs hf2 hr2 b hm))
        exact⟨RepL.mono ys (Map.le_refl _) ⟨Nat.le_refl _,hcold,fun _ _ _=>rfl⟩ hr1,RepL.mono zs (Map.le_refl _) ⟨Nat.le_refl _,hcold,fun _ _ _=>rfl⟩ hr2⟩
      have hrp1:Rep w' (fun b=>M b\/b∈fp1++fp2) (packA ys) noMap v0 fp1:=ydf hYZ.1;refine⟨h3,v0,?_,v0,fp1,fp2,rfl,hW.keep,?_,?_,hown.1,hnew,?_⟩
      ·unfold results
       rw[Sem.run_bind, <- Array.toArray_toList (xs:=fn.results),List.mapM_toArray];simp only[Sem.run_map];erw [hrun]
       rfl
      ·exact y9c _ _ hpack hrp1
      ·exact yvb _ _ hsim hYZ.2
      ·intro b hb
       rcases List.mem_append.1 hb with hb|hb
       ·rw[y5n _ _ hpack hrp1]at hb
        have hbf:b∈fp1:=y2f _ hrp1 b hb;refine htop b (List.mem_append_left _ hbf) (htops1 b ?_)
        have hpk:∀ (ys:List AV) (us:List Value),ys.length=us.length->∀ b,b∈tops (packA ys) (if h:us.toArray.size=1 then us.toArray[0]else .tuple us.toArray)->b∈yx ys us:=by
         intro ys us hl b hb
         match ys,us,hl with
         | [],[],_=>simp[packA,tops,yx]at hb
         | [y],[u],_=>simpa [packA,yx]using hb
         | y::y2::ys,u::u2::us,hl=>
          rw[dif_neg (by simp)]at hb;simpa only[packA,tops]using hb
        exact hpk ys us hr1.length.symm b hb
       ·rw[ypd _ _ hsim hr2]at hb
        have hbf:b∈fp2:=yzb _ hr2 b hb;exact htop b (List.mem_append_right _ hbf) (htops2 b hb)
     ·exact hE.elim
    ·exact hE.elim
   ·exact hE.elim
  cases e with
  | normal=>obtain⟨s',h1,h2⟩:=hp;exact main s' h1 h2
  | ret=>obtain⟨s',h1,h2⟩:=hp;exact main s' h1 h2
  | exit id=>obtain⟨s',h1,h2⟩:=hp;exact h1.elim
  | _=>exact hp.elim
end
end Go.Ab
