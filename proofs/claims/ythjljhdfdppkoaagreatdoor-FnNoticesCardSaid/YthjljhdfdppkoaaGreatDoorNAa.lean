/- A part of a proof: walks of functions and lemmas of our own. No conditions. -/
import Derived.WalkKit
import Derived.Orders
import Derived.ChangeKeysEq
set_option linter.unusedSectionVars false
set_option linter.unusedVariables false
set_option linter.unusedSimpArgs false
namespace Go.Ab
open Go
inductive AV where
 | int (k:IntKind) (n:Int)
 | bool (b:Bool)
 | str (l:List UInt8)
 | nils
 | agg (cs:List AV)
 | tup (vs:List AV)
 | sl (own:Option TypeId) (e n:Nat) (f:Nat->List AV)
 | ref (id e off n:Nat)
 | ptr (id off:Nat)
 | pe (id e i off:Nat)
 | ep (cs:List AV)
 | op (cs:List AV)
 | fn (f:FuncId) (k:Nat) (cs:List AV)
 | gd (gs:List Bool) (x:AV)
 | any
 | lit (u:Value) (x:AV)
deriving Inhabited
inductive Loc where
 | nil
 | blk (b cap:Nat)
abbrev Map:=Nat->Option Loc
def yy:Map:=fun _=>none
def y3e : Option TypeId -> Value -> Prop
 | none,v=>v=.slice none 0 0\/∃ a cap,v=.slice (some a) 0 cap
 | some _,v=>v=.slice none 0 0
theorem y3e.bor {own:Option TypeId} {v:Value} (h:y3e own v):y3e none v:=by
 cases own with
 | none=>exact h
 | some T=>exact .inl h
theorem y3e.nil (own:Option TypeId):y3e own (.slice none 0 0):=by
 cases own with
 | none=>exact .inl rfl
 | some T=>rfl
def yld (w:World) (b o:Nat) (us:List Value):Prop:=
 ∀ j u,us[j]? = some u->w.cell? ⟨b,o+j,none⟩=some u/\u.oneCell'=true
mutual
def Rep (w : World) (M : Nat -> Prop) : AV -> Map -> Value -> List Nat -> Prop
  | .int k n,_,v,fp=>v=.int k n/\fp=[]
  | .bool b,_,v,fp=>v=.bool b/\fp=[]
  | .str l,_,v,fp=>(v=.string ⟨l.toArray⟩/\l.length<=maxLen)/\fp=[]
  | .nils,_,v,fp=>v=.slice none 0 0/\fp=[]
  | .agg cs,μ,v,fp=>∃ us,v=.agg us.toArray/\RepL w M cs μ us fp
  | .tup cs,μ,v,fp=>∃ us,v=.tuple us.toArray/\RepL w M cs μ us fp
  | .sl own e n f,_,v,fp=>
    (n=0/\y3e own v/\fp=[]) \/
    ∃ b o cap,∃ us:Nat->List Value,∃ fps:Nat->List Nat,v=.slice (some ⟨b,o,none⟩) n cap/\(n<=cap/\n<=maxLen)/\b<w.heap.size /\
      (∀ i,i<n->RepL w M (f i) yy (us i) (fps i)/\(us i).length=e/\yld w b (o+i * e) (us i)) /\
      (match own with
       | none=>¬ M b/\fp=[]/\∀ i,i<n->fps i=[]
       | some T=>o=0/\fp=b::(List.range n).flatMap fps/\∃ cur,w.heap[b]? = some (.cells cur T (0,0))/\cur.size=cap * e/\cap<=maxLen)
  | .ref id e off n,μ,v,fp=>fp=[] /\
    match μ id with
    | none=>False
    | some .nil=>off=0/\n=0/\v=.slice none 0 0
    | some (.blk b cap)=>off+n<=cap/\∃ o,v=.slice (some ⟨b,o,none⟩) n (cap-off)/\((off≠0/\off=cap)\/o=off * e)
  | .ptr id off,μ,v,fp=>fp=[]/\∃ b cap,μ id=some (.blk b cap)/\v=.pointer (some ⟨b,off,none⟩)
  | .pe id e i off,μ,v,fp=>fp=[]/\∃ b cap,μ id=some (.blk b cap)/\v=.pointer (some ⟨b,i * e+off,none⟩)
  | .ep cs,_,v,fp=>fp=[]/\∃ b o us,v=.pointer (some ⟨b,o,none⟩)/\b<w.heap.size/\¬ M b/\RepL w M cs yy us []/\yld w b o us
  | .op cs,_,v,fp=>∃ b us T,v=.pointer (some ⟨b,0,none⟩)/\fp=[b]/\b<w.heap.size/\w.heap[b]? = some (.cells us.toArray T (0,0))/\(∀ u∈us,u.oneCell'=true)/\RepL w M cs yy us []
  | .fn f k cs,μ,v,fp=>fp=[]/\∃ us,v=.func (.func f) (us.take k).toArray (us.drop k).toArray/\RepL w M cs μ us []
  | .gd gs x,μ,v,fp=>fp=[]/\((∀ g∈gs,g=true)->Rep w M x μ v [])/\((¬ ∀ g∈gs,g=true)->v=undef)
  | .any,_,_,fp=>fp=[]
  | .lit u x,_,v,fp=>fp=[]/\v=u/\Rep w M x yy v []
def RepL (w : World) (M : Nat -> Prop) : List AV -> Map -> List Value -> List Nat -> Prop
  | [],_,us,fp=>us=[]/\fp=[]
  | x::xs,μ,us,fp=>∃ u us' f1 f2,us=u::us'/\fp=f1++f2/\Rep w M x μ u f1/\RepL w M xs μ us' f2
end
theorem World.cell_congr {w w':World} {b o:Nat} (h:w'.heap[b]? = w.heap[b]?):w'.cell? ⟨b,o,none⟩=w.cell? ⟨b,o,none⟩:=
 World.cell?_of_block (a:=⟨b,o,none⟩) h
theorem yld.congr {w w':World} {b o:Nat} {us:List Value} (h:yld w b o us) (hb:w'.heap[b]? = w.heap[b]?):yld w' b o us:=
 fun j u hu=>⟨(World.cell_congr hb).trans (h j u hu).1,(h j u hu).2⟩
def Map.le (μ μ':Map):Prop:=∀ id L,μ id=some L->μ' id=some L
theorem yli (μ:Map):yy.le μ:=fun _ _ h=>by simp[yy]at h
theorem Map.le_refl (μ:Map):μ.le μ:=fun _ _ h=>h
theorem Map.le.trans {a b c:Map} (h:a.le b) (k:b.le c):a.le c:=fun id L e=>k id L (h id L e)
structure Same (w:World) (M:Nat->Prop) (w':World) (M':Nat->Prop) (fp:List Nat):Prop where
 size:w.heap.size<=w'.heap.size
 cold:∀ b,b<w.heap.size->¬ M b->¬ M' b
 heap:∀ b,b<w.heap.size->(¬ M b\/b∈fp)->w'.heap[b]? = w.heap[b]?
theorem Same.sub {w w':World} {M M':Nat->Prop} {fp fq:List Nat} (h:Same w M w' M' fp) (hq:∀ b,b∈fq->b∈fp):Same w M w' M' fq:=
 ⟨h.size,h.cold,fun b hb hh=>h.heap b hb (hh.imp id (hq b))⟩
mutual
theorem Rep.mono {w w' : World} {M M' : Nat -> Prop} : ∀ (x : AV) {μ μ' : Map} {v : Value} {fp : List Nat}, μ.le μ' -> Same w M w' M' fp -> Rep w M x μ v fp -> Rep w' M' x μ' v fp
 | .int _ _,_,_,_,_,_,_,h=>by simpa only[Rep]using h
 | .bool _,_,_,_,_,_,_,h=>by simpa only[Rep]using h
 | .str _,_,_,_,_,_,_,h=>by simpa only[Rep]using h
 | .nils,_,_,_,_,_,_,h=>by simpa only[Rep]using h
 | .any,_,_,_,_,_,_,h=>by simpa only[Rep]using h
 | .lit u x,_,_,_,_,_,hs,h=>by
  simp only[Rep]at h ⊢;obtain⟨rfl,e,h⟩:=h;exact⟨rfl,e,Rep.mono x (Map.le_refl _) hs h⟩
 | .agg cs,μ,μ',v,fp,hμ,hs,h=>by
  simp only[Rep]at h ⊢;obtain⟨us,e,h⟩:=h;exact⟨us,e,RepL.mono cs hμ hs h⟩
 | .tup cs,μ,μ',v,fp,hμ,hs,h=>by
  simp only[Rep]at h ⊢;obtain⟨us,e,h⟩:=h;exact⟨us,e,RepL.mono cs hμ hs h⟩
 | .ref id e off n,μ,μ',v,fp,hμ,hs,h=>by
  simp only[Rep]at h ⊢;refine⟨h.1,?_⟩;have h2:=h.2
  cases hm:μ id with
  | none=>simp[hm]at h2
  | some L=>rw[hμ id L hm];simpa [hm]using h2
 | .ptr id off,μ,μ',v,fp,hμ,hs,h=>by
  simp only[Rep]at h ⊢;obtain⟨h1,b,cap,hm,hv⟩:=h;exact⟨h1,b,cap,hμ _ _ hm,hv⟩
 | .pe id e i off,μ,μ',v,fp,hμ,hs,h=>by
  simp only[Rep]at h ⊢;obtain⟨h1,b,cap,hm,hv⟩:=h;exact⟨h1,b,cap,hμ _ _ hm,hv⟩
 | .fn f k caps,μ,μ',v,fp,hμ,hs,h=>by
  simp only[Rep]at h ⊢;obtain⟨rfl,us,e,h⟩:=h;exact⟨rfl,us,e,RepL.mono caps hμ hs h⟩
 | .gd gs x,μ,μ',v,fp,hμ,hs,h=>by
  simp only[Rep]at h ⊢;obtain⟨rfl,h,h2⟩:=h;exact⟨rfl,fun hg=>Rep.mono x hμ hs (h hg),h2⟩
 | .ep cs,μ,μ',v,fp,hμ,hs,h=>by
  simp only[Rep]at h ⊢;obtain⟨rfl,b,o,us,e,hb,hm,hl,hc⟩:=h;exact⟨rfl,b,o,us,e,Nat.lt_of_lt_of_le hb hs.size,hs.cold b hb hm,RepL.mono cs (Map.le_refl _) hs hl,hc.congr (hs.heap b hb (.inl hm))⟩
 | .op cs,μ,μ',v,fp,hμ,hs,h=>by
  simp only[Rep]at h ⊢;obtain⟨b,us,T,e,rfl,hb,hh,hone,hr⟩:=h;exact⟨b,us,T,e,rfl,Nat.lt_of_lt_of_le hb hs.size,by rw[hs.heap b hb (.inr (by simp))];exact hh,hone,RepL.mono cs (Map.le_refl _) (hs.sub (by simp)) hr⟩
 | .sl own e n f,μ,μ',v,fp,hμ,hs,h=>by
  simp only[Rep]at h ⊢;rcases h with h|⟨b,o,cap,us,fps,hv,hn,hb,hc,ho⟩
  ·exact .inl h
  ·refine .inr ⟨b,o,cap,us,fps,hv,hn,Nat.lt_of_lt_of_le hb hs.size,?_,?_⟩
   ·cases own with
    | none=>
     obtain⟨hm,rfl,hf⟩:=ho;intro i hi;obtain⟨h1,h2,h3⟩:=hc i hi;exact⟨RepL.mono (f i) (Map.le_refl _) (hs.sub (by rw[hf i hi];simp)) h1,h2,h3.congr (hs.heap b hb (.inl hm))⟩
    | some T=>
     obtain⟨rfl,rfl,cur,hcur,hsz⟩:=ho;intro i hi;obtain⟨h1,h2,h3⟩:=hc i hi;refine⟨RepL.mono (f i) (Map.le_refl _) (hs.sub ?_) h1,h2,h3.congr (hs.heap b hb (.inr (by simp)))⟩;intro x hx;exact List.mem_cons_of_mem _ (List.mem_flatMap.2 ⟨i,List.mem_range.2 hi,hx⟩)
   ·cases own with
    | none=>
     obtain⟨hm,rfl,hf⟩:=ho;exact⟨hs.cold b hb hm,rfl,hf⟩
    | some T=>
     obtain⟨rfl,rfl,cur,hcur,hsz⟩:=ho;exact⟨rfl,rfl,cur,by rw[hs.heap b hb (.inr (by simp))];exact hcur,hsz⟩
theorem RepL.mono {w w' : World} {M M' : Nat -> Prop} : ∀ (xs : List AV) {μ μ' : Map} {us : List Value} {fp : List Nat}, μ.le μ' -> Same w M w' M' fp -> RepL w M xs μ us fp -> RepL w' M' xs μ' us fp
 | [],_,_,_,_,_,_,h=>by simpa only[RepL]using h
 | x::xs,μ,μ',us,fp,hμ,hs,h=>by
  simp only[RepL]at h ⊢;obtain⟨u,us',f1,f2,rfl,rfl,h1,h2⟩:=h;exact⟨u,us',f1,f2,rfl,rfl,Rep.mono x hμ (hs.sub (by simp;exact fun b hb=>.inl hb)) h1,RepL.mono xs hμ (hs.sub (by simp;exact fun b hb=>.inr hb)) h2⟩
end
mutual
def ymd : AV -> Bool
  | .ref .. => false
  | .ptr .. => false
  | .pe .. => false
  | .gd .. => false
  | .agg cs=>ysd cs
  | .tup cs=>ysd cs
  | .fn _ _ cs=>ysd cs
  | _=>true
def ysd : List AV -> Bool
  | []=>true
  | x :: xs => match ymd x with
    | true=>ysd xs
    | false=>false
end
mutual
theorem y2v {w : World} {M : Nat -> Prop} : ∀ (x : AV) {μ μ' : Map} {v : Value} {fp : List Nat}, ymd x = true -> Rep w M x μ v fp -> Rep w M x μ' v fp
 | .int ..,_,_,_,_,_,h=>by simpa only[Rep]using h
 | .bool ..,_,_,_,_,_,h=>by simpa only[Rep]using h
 | .str ..,_,_,_,_,_,h=>by simpa only[Rep]using h
 | .nils,_,_,_,_,_,h=>by simpa only[Rep]using h
 | .any,_,_,_,_,_,h=>by simpa only[Rep]using h
 | .lit ..,_,_,_,_,_,h=>by simpa only[Rep]using h
 | .sl ..,_,_,_,_,_,h=>by simpa only[Rep]using h
 | .op ..,_,_,_,_,_,h=>by simpa only[Rep]using h
 | .ep ..,_,_,_,_,_,h=>by simpa only[Rep]using h
 | .ref ..,_,_,_,_,hn,_=>by simp[ymd]at hn
 | .ptr ..,_,_,_,_,hn,_=>by simp[ymd]at hn
 | .pe ..,_,_,_,_,hn,_=>by simp[ymd]at hn
 | .gd ..,_,_,_,_,hn,_=>by simp[ymd]at hn
 | .agg cs,μ,μ',v,fp,hn,h=>by
  simp only[Rep,ymd]at h hn ⊢;obtain⟨us,e,h⟩:=h;exact⟨us,e,y2b cs hn h⟩
 | .tup cs,μ,μ',v,fp,hn,h=>by
  simp only[Rep,ymd]at h hn ⊢;obtain⟨us,e,h⟩:=h;exact⟨us,e,y2b cs hn h⟩
 | .fn f k cs,μ,μ',v,fp,hn,h=>by
  simp only[Rep,ymd]at h hn ⊢;obtain⟨e0,us,e,h⟩:=h;exact⟨e0,us,e,y2b cs hn h⟩
theorem y2b {w : World} {M : Nat -> Prop} : ∀ (xs : List AV) {μ μ' : Map} {us : List Value} {fp : List Nat}, ysd xs = true -> RepL w M xs μ us fp -> RepL w M xs μ' us fp
 | [],_,_,_,_,_,h=>by simpa only[RepL]using h
 | x::xs,μ,μ',us,fp,hn,h=>by
  simp only[RepL,ysd]at h hn ⊢
  cases hx:ymd x with
  | false=>simp[hx]at hn
  | true=>
   rw[hx]at hn;obtain⟨u,us',f1,f2,e1,e2,h1,h2⟩:=h;exact⟨u,us',f1,f2,e1,e2,y2v x hx h1,y2b xs hn h2⟩
end
theorem Rep.lift {w:World} {M:Nat->Prop} {x:AV} {μ:Map} {v:Value} {fp:List Nat} (h:Rep w M x yy v fp):Rep w M x μ v fp:=
 Rep.mono x (yli μ) ⟨Nat.le_refl _,fun _ _ h=>h,fun _ _ _=>rfl⟩ h
theorem RepL.lift {w:World} {M:Nat->Prop} {xs:List AV} {μ:Map} {us:List Value} {fp:List Nat} (h:RepL w M xs yy us fp):RepL w M xs μ us fp:=
 RepL.mono xs (yli μ) ⟨Nat.le_refl _,fun _ _ h=>h,fun _ _ _=>rfl⟩ h
mutual
def y2g : AV -> Prop
 | .str l=>l.length<=9223372036854775807
 | .sl _ _ n f=>n<=9223372036854775807/\∀ i,i<n->yrd (f i)
 | .agg cs=>yrd cs
 | .tup cs=>yrd cs
 | .ep cs=>yrd cs
 | .op cs=>yrd cs
 | .fn _ _ cs=>yrd cs
 | .lit _ x=>y2g x
 | _=>True
def yrd : List AV -> Prop
 | []=>True
 | x::xs=>y2g x/\yrd xs
end
mutual
theorem Rep.lens {w : World} {M : Nat -> Prop} : ∀ (x : AV) {μ : Map} {v : Value} {fp : List Nat}, Rep w M x μ v fp -> y2g x
 | .str l,_,_,_,h=>by
  simp only[Rep,y2g]at h ⊢;have e:maxLen=9223372036854775807:=by decide
  have:=h.1.2;omega
 | .sl own e n f,_,_,_,h=>by
  simp only[Rep,y2g]at h ⊢;rcases h with⟨rfl,_⟩|⟨b,o,cap,us,fps,hv,hn,hb,hc,ho⟩
  ·exact⟨Nat.zero_le _,fun i hi=>by omega⟩
  ·have e:maxLen=9223372036854775807:=by decide
   exact⟨by omega,fun i hi=>RepL.lens (f i) (hc i hi).1⟩
 | .agg cs,_,_,_,h=>by
  simp only[Rep,y2g]at h ⊢;obtain⟨us,e,h⟩:=h;exact RepL.lens cs h
 | .tup cs,_,_,_,h=>by
  simp only[Rep,y2g]at h ⊢;obtain⟨us,e,h⟩:=h;exact RepL.lens cs h
 | .ep cs,_,_,_,h=>by
  simp only[Rep,y2g]at h ⊢;obtain⟨_,b,o,us,e,_,_,h,_⟩:=h;exact RepL.lens cs h
 | .op cs,_,_,_,h=>by
  simp only[Rep,y2g]at h ⊢;obtain⟨b,us,T,_,_,_,_,_,h⟩:=h;exact RepL.lens cs h
 | .fn _ _ cs,_,_,_,h=>by
  simp only[Rep,y2g]at h ⊢;obtain⟨_,us,_,h⟩:=h;exact RepL.lens cs h
 | .int ..,_,_,_,_=>trivial
 | .bool ..,_,_,_,_=>trivial
 | .nils,_,_,_,_=>trivial
 | .any,_,_,_,_=>trivial
 | .lit u x,_,_,_,h=>by
  simp only[Rep,y2g]at h ⊢;exact Rep.lens x h.2.2
 | .ref ..,_,_,_,_=>trivial
 | .ptr ..,_,_,_,_=>trivial
 | .pe ..,_,_,_,_=>trivial
 | .gd ..,_,_,_,_=>trivial
theorem RepL.lens {w : World} {M : Nat -> Prop} : ∀ (xs : List AV) {μ : Map} {us : List Value} {fp : List Nat}, RepL w M xs μ us fp -> yrd xs
 | [],_,_,_,_=>trivial
 | x::xs,_,_,_,h=>by
  simp only[RepL,yrd]at h ⊢;obtain⟨u,us',f1,f2,_,_,h1,h2⟩:=h;exact⟨Rep.lens x h1,RepL.lens xs h2⟩
end
end Go.Ab
namespace Go.Ab
open Go
inductive Ent where
 | box (cs:List AV)
 | arr (T:TypeId) (e n:Nat) (f:Nat->List AV)
 | it (l:List UInt8) (p:Nat) (more:Bool)
 | dead
def Ent.live : Ent -> Bool
 | .dead=>false
 | _=>true
class Inv where
 ok:World->Prop
 dom:Nat->Prop
 inside:∀ w,ok w->∀ b,dom b->b<w.heap.size
 stable:∀ w w':World,ok w->w'.os=w.os->(∀ b,dom b->w'.heap[b]? = w.heap[b]?)->ok w'
variable [Inv]
structure Ctx where
 w0:World
 M0:Nat->Prop
 F0:List Nat
 T0:List Nat
 mu0:Map
 k0:Nat
 nt:Nat
 cold0:∀ b,M0 b->b<w0.heap.size/\b∉F0
 own0:∀ b,b∈F0->b<w0.heap.size
 top0:∀ b,b∈T0->b∈F0
 base0:∀ id L,mu0 id=some L->id<k0
 inv0:Inv.ok w0
 invM:∀ b,Inv.dom b->¬ M0 b/\b∉F0
abbrev Hp:=Nat->Option Ent
def hot (M0:Nat->Prop) (H:Hp) (μ:Map):Nat->Prop:=
 fun b=>M0 b\/∃ id cap e,μ id=some (.blk b cap)/\H id=some e/\e.live=true
def ylc (w : World) (M : Nat -> Prop) (μ : Map) : Ent -> Loc -> List Nat -> Prop
 | .dead,_,fp=>fp=[]
 | .box cs,L,fp=>∃ b cap us T,L=.blk b cap/\fp=[b]/\w.heap[b]? = some (.cells us.toArray T (0,0))/\(∀ u∈us,u.oneCell'=true)/\RepL w M cs μ us []
 | .it l p more,L,fp=>∃ b,L=.blk b 0/\fp=[b]/\w.heap[b]? = some (.stringIter ⟨l.toArray⟩ p)/\more=decide (p<l.length)/\(∀ x∈l,x.toNat<128)/\l.length<=maxLen
 | .arr _ _ n _,.nil,fp=>n=0/\fp=[]
 | .arr T e n f,.blk b cap,fp=>∃ cur,∃ us:Nat->List Value,∃ fps:Nat->List Nat,w.heap[b]? = some (.cells cur T (0,0))/\cur.size=cap * e/\n<=cap/\cap<=maxLen /\
   (∀ i,i<n->RepL w M (f i) μ (us i) (fps i)/\(us i).length=e/\yld w b (i * e) (us i))/\fp=b::(List.range n).flatMap fps
structure Keep (w0:World) (F0:List Nat) (w:World):Prop where
 os:w.os=w0.os
 tape:w.tape=w0.tape
 output:w.output=w0.output
 size:w0.heap.size<=w.heap.size
 block:∀ k,k<w0.heap.size->k∉F0->w.heap[k]? = w0.heap[k]?
structure WR (c:Ctx) (H:Hp) (μ:Map) (FP:Nat->List Nat) (w:World):Prop where
 keep:Keep c.w0 c.T0 w
 base:c.mu0.le μ
 ent:∀ id L,μ id=some L->∃ e,H id=some e/\ylc w (hot c.M0 H μ) μ e L (FP id)
 out:∀ id,μ id=none->FP id=[]
 nodup:∀ id,(FP id).Nodup
 disj:∀ i j,i≠j->∀ b,b∈FP i->b∉FP j
 new:∀ id b,b∈FP id->(b∈c.F0\/c.w0.heap.size<=b)/\b<w.heap.size
 top:∀ id b cap e,μ id=some (.blk b cap)->H id=some e->e.live=true->b∈c.T0\/c.w0.heap.size<=b
structure Trans (M0:Nat->Prop) (H:Hp) (μ:Map) (w:World) (H':Hp) (μ':Map) (w':World):Prop where
 le:μ.le μ'
 same:Same w (hot M0 H μ) w' (hot M0 H' μ') []
theorem Trans.rep {M0:Nat->Prop} {H H':Hp} {μ μ':Map} {w w':World} (t:Trans M0 H μ w H' μ' w') {x:AV} {v:Value} (h:Rep w (hot M0 H μ) x μ v []) :
  Rep w' (hot M0 H' μ') x μ' v []:=Rep.mono x t.le t.same h
theorem Trans.refl (M0:Nat->Prop) (H:Hp) (μ:Map) (w:World):Trans M0 H μ w H μ w:=
 ⟨Map.le_refl _,Nat.le_refl _,fun _ _ h=>h,fun _ _ _=>rfl⟩
theorem Trans.trans {M0:Nat->Prop} {H H' H'':Hp} {μ μ' μ'':Map} {w w' w'':World} (t:Trans M0 H μ w H' μ' w') (k:Trans M0 H' μ' w' H'' μ'' w'') :
  Trans M0 H μ w H'' μ'' w'':=
 ⟨t.le.trans k.le,Nat.le_trans t.same.size k.same.size,fun b hb h=>k.same.cold b (Nat.lt_of_lt_of_le hb t.same.size) (t.same.cold b hb h),
  fun b hb h=>by
   have h':¬ hot M0 H μ b:=h.resolve_right (by simp)
   rw[k.same.heap b (Nat.lt_of_lt_of_le hb t.same.size) (.inl (t.same.cold b hb h')),t.same.heap b hb h]⟩
theorem WR.lt {c:Ctx} {H:Hp} {μ:Map} {FP:Nat->List Nat} {w:World} (h:WR c H μ FP w) {id b cap:Nat} {e:Ent} (hm:μ id=some (.blk b cap)) (he:H id=some e) (hl:e.live=true) :
  b∈FP id/\b<w.heap.size:=by
 obtain⟨e',he',hok⟩:=h.ent id _ hm;rw[he]at he';cases he'
 have hb:b∈FP id:=by
  cases e with
  | dead=>simp[Ent.live]at hl
  | box cs=>obtain⟨b',cap',us,T,h1,h2,_⟩:=hok;cases h1;rw[h2];simp
  | it l p m=>obtain⟨b',h1,h2,_⟩:=hok;cases h1;rw[h2];simp
  | arr T e n f=>obtain⟨cur,us,fps,_,_,_,_,_,h2⟩:=hok;rw[h2];simp
 exact⟨hb,(h.new id b hb).2⟩
theorem ylc.topMem {w:World} {M:Nat->Prop} {μ:Map} {e:Ent} {b cap:Nat} {fp:List Nat} (h:ylc w M μ e (.blk b cap) fp) (hl:e.live=true):b∈fp:=by
 cases e with
 | dead=>simp[Ent.live]at hl
 | box cs=>obtain⟨b',cap',us,T,h1,h2,_⟩:=h;cases h1;rw[h2];simp
 | it l p m=>obtain⟨b',h1,h2,_⟩:=h;cases h1;rw[h2];simp
 | arr T e n f=>obtain⟨cur,us,fps,_,_,_,_,_,h2⟩:=h;rw[h2];simp
theorem ylc.mono {w w' : World} {M M' : Nat -> Prop} {μ μ' : Map} {e : Ent} {L : Loc} {fp : List Nat} (hμ : μ.le μ') (hs : Same w M w' M' fp) (hlt : ∀ b ∈ fp, b < w.heap.size)
  (h:ylc w M μ e L fp):ylc w' M' μ' e L fp:=by
 cases e with
 | dead=>exact h
 | box cs=>
  obtain⟨b,cap,us,T,rfl,rfl,hh,h1,hr⟩:=h;exact⟨b,cap,us,T,rfl,rfl,by rw[hs.heap b (hlt b (by simp)) (.inr (by simp))];exact hh,h1,RepL.mono cs hμ (hs.sub (by simp)) hr⟩
 | it l p m=>
  obtain⟨b,rfl,rfl,hh,h1⟩:=h;exact⟨b,rfl,rfl,by rw[hs.heap b (hlt b (by simp)) (.inr (by simp))];exact hh,h1⟩
 | arr T e n f=>
  cases L with
  | nil=>exact h
  | blk b cap=>
   obtain⟨cur,us,fps,hh,h1,h2,h3,hc,rfl⟩:=h;have hb:=hs.heap b (hlt b (by simp)) (.inr (by simp));refine⟨cur,us,fps,by rw[hb];exact hh,h1,h2,h3,?_,rfl⟩;intro i hi;obtain⟨a1,a2,a3⟩:=hc i hi;exact⟨RepL.mono (f i) hμ (hs.sub fun x hx=>List.mem_cons_of_mem _ (List.mem_flatMap.2 ⟨i,List.mem_range.2 hi,hx⟩)) a1,a2,a3.congr hb⟩
theorem WR.inv {c:Ctx} {H:Hp} {μ:Map} {FP:Nat->List Nat} {w:World} (h:WR c H μ FP w):Inv.ok w:=
 Inv.stable c.w0 w c.inv0 h.keep.os fun b hb=>h.keep.block b (Inv.inside _ c.inv0 b hb) fun ht=>(c.invM b hb).2 (c.top0 b ht)
theorem WR.inv_fp {c:Ctx} {H:Hp} {μ:Map} {FP:Nat->List Nat} {w:World} (h:WR c H μ FP w) {b:Nat} (hb:Inv.dom b) (id:Nat):b∉FP id:=by
 intro hf;rcases(h.new id b hf).1 with h1|h1
 ·exact(c.invM b hb).2 h1
 ·have:=Inv.inside _ c.inv0 b hb
  omega
theorem WR.inv_hot {c:Ctx} {H:Hp} {μ:Map} {FP:Nat->List Nat} {w:World} (h:WR c H μ FP w) {b:Nat} (hb:Inv.dom b):¬ hot c.M0 H μ b:=by
 rintro(h1|⟨id,cap,e,hm,he,hl⟩)
 ·exact(c.invM b hb).1 h1
 ·exact h.inv_fp hb id (h.lt hm he hl).1
end Go.Ab
namespace Go.Ab
open Go
variable [Inv]
structure Free (c:Ctx) (FP:Nat->List Nat) (w:World) (R:List Nat):Prop where
 nodup:R.Nodup
 disj:∀ b,b∈R->∀ id,b∉FP id
 new:∀ b,b∈R->(b∈c.F0\/c.w0.heap.size<=b)/\b<w.heap.size
theorem Free.nil (c:Ctx) (FP:Nat->List Nat) (w:World):Free c FP w []:=⟨by simp,by simp,by simp⟩
theorem WR.update {c : Ctx} {H H' : Hp} {μ μ' : Map} {FP FP' : Nat -> List Nat} {w w' : World} (K : Nat -> Prop) (R : List Nat) (h : WR c H μ FP w) (hR : Free c FP w R)
  (hos:w'.os=w.os) (htape:w'.tape=w.tape) (hout:w'.output=w.output) (hsz:w.heap.size<=w'.heap.size)
  (hblk:∀ b,b<w.heap.size->w'.heap[b]? = w.heap[b]? \/ (hot c.M0 H μ b/\∃ k,K k/\b∈FP k))
  (hle:μ.le μ') (hH:∀ id,μ id≠none->¬ K id->H' id=H id) (hFP:∀ id,μ id≠none->¬ K id->FP' id=FP id)
  (hnew:∀ id L,(μ id=none\/K id)->μ' id=some L->∃ e,H' id=some e/\ylc w' (hot c.M0 H' μ') μ' e L (FP' id))
  (hblkNew:∀ id b cap e,(μ id=none\/K id)->μ' id=some (.blk b cap)->H' id=some e->e.live=true->hot c.M0 H μ b\/w.heap.size<=b)
  (hfpNew:∀ id b,(μ id=none\/K id)->b∈FP' id->(∃ k,K k/\b∈FP k)\/(w.heap.size<=b/\b<w'.heap.size)\/b∈R)
  (hout':∀ id,μ' id=none->FP' id=[])
  (hnd:∀ id,(μ id=none\/K id)->(FP' id).Nodup)
  (hdj:∀ i j,i≠j->(μ i=none\/K i)->(μ j=none\/K j)->∀ b,b∈FP' i->b∉FP' j) :
  WR c H' μ' FP' w'/\Trans c.M0 H μ w H' μ' w':=by
 have hcold:∀ b,b<w.heap.size->¬ hot c.M0 H μ b->¬ hot c.M0 H' μ' b:=by
  intro b hb hn hh;rcases hh with hh|⟨id,cap,e,hm,he,hl⟩
  ·exact hn (.inl hh)
  ·by_cases hK:μ id=none\/K id
   ·rcases hblkNew id b cap e hK hm he hl with h1|h1
    ·exact hn h1
    ·omega
   ·have hnn:μ id≠none:=fun e=>hK (.inl e)
    cases hμ:μ id with
    | none=>exact hnn hμ
    | some L=>
     have hL:=hle id L hμ;rw[hm]at hL;cases hL;exact hn (.inr ⟨id,cap,e,hμ,by rw[<- hH id hnn (fun e=>hK (.inr e))];exact he,hl⟩)
 have hsame0:Same w (hot c.M0 H μ) w' (hot c.M0 H' μ') []:=
  ⟨hsz,hcold,fun b hb hh=>(hblk b hb).resolve_right (fun⟨h1,_⟩=>(hh.resolve_right (by simp)) h1)⟩
 have hcase:∀ id,(μ id=none\/K id)\/(μ id≠none/\¬ K id):=fun id=>by
  by_cases h1:μ id=none
  ·exact .inl (.inl h1)
  ·by_cases h2:K id
   ·exact .inl (.inr h2)
   ·exact .inr ⟨h1,h2⟩
 refine⟨⟨?_,h.base.trans hle,?_,hout',?_,?_,?_,?_⟩,hle,hsame0⟩
 ·refine⟨hos.trans h.keep.os,htape.trans h.keep.tape,hout.trans h.keep.output,Nat.le_trans h.keep.size hsz,fun k hk hf => ?_⟩
  rcases hblk k (Nat.lt_of_lt_of_le hk h.keep.size)with h1|⟨h1,i,_,h2⟩
  ·exact h1.trans (h.keep.block k hk hf)
  ·rcases h1 with hM|⟨id,cap,e,hm,he,hl⟩
   ·have hc:=c.cold0 k hM
    rcases(h.new i k h2).1 with h3|h3
    ·exact absurd h3 hc.2
    ·omega
   ·rcases h.top id k cap e hm he hl with h3|h3
    ·exact absurd h3 hf
    ·omega
 ·intro id L hL
  rcases hcase id with hK|⟨hn,hK⟩
  ·exact hnew id L hK hL
  ·cases hμ:μ id with
   | none=>exact absurd hμ hn
   | some L0=>
    have h0:=hle id L0 hμ;rw[hL]at h0;cases h0;obtain⟨e,he,hok⟩:=h.ent id L hμ;refine⟨e,(hH id hn hK).trans he,?_⟩;rw[hFP id hn hK];refine ylc.mono hle ⟨hsz,hcold,fun b hb hh => ?_⟩ (fun b hb=>(h.new id b hb).2) hok;rcases hblk b hb with h1|⟨h1,k,hk,h2⟩
    ·exact h1
    ·rcases hh with hh|hh
     ·exact absurd h1 hh
     ·exact absurd h2 (h.disj id k (fun e=>hK (e ▸ hk)) b hh)
 ·intro id
  rcases hcase id with hK|⟨hn,hK⟩
  ·exact hnd id hK
  ·rw[hFP id hn hK];exact h.nodup id
 ·intro i j hij b hbi hbj
  rcases hcase i with hKi|⟨hni,hKi⟩
  ·rcases hcase j with hKj|⟨hnj,hKj⟩
   ·exact hdj i j hij hKi hKj b hbi hbj
   ·rw[hFP j hnj hKj]at hbj
    have h1:=(h.new j b hbj).2;rcases hfpNew i b hKi hbi with⟨k,hk,h2⟩|h2|h2
    ·exact h.disj k j (fun e=>hKj (e ▸ hk)) b h2 hbj
    ·omega
    ·exact hR.disj b h2 j hbj
  ·rw[hFP i hni hKi]at hbi
   rcases hcase j with hKj|⟨hnj,hKj⟩
   ·have h1:=(h.new i b hbi).2
    rcases hfpNew j b hKj hbj with⟨k,hk,h2⟩|h2|h2
    ·exact h.disj k i (fun e=>hKi (e ▸ hk)) b h2 hbi
    ·omega
    ·exact hR.disj b h2 i hbi
   ·rw[hFP j hnj hKj]at hbj
    exact h.disj i j hij b hbi hbj
 ·intro id b hb
  rcases hcase id with hK|⟨hn,hK⟩
  ·rcases hfpNew id b hK hb with⟨k,_,h2⟩|h2|h2
   ·have:=h.new k b h2
    exact⟨this.1,Nat.lt_of_lt_of_le this.2 hsz⟩
   ·exact⟨.inr (Nat.le_trans h.keep.size h2.1),h2.2⟩
   ·have:=hR.new b h2
    exact⟨this.1,Nat.lt_of_lt_of_le this.2 hsz⟩
  ·rw[hFP id hn hK]at hb
   have:=h.new id b hb;exact⟨this.1,Nat.lt_of_lt_of_le this.2 hsz⟩
 ·intro id b cap e hm he hl
  rcases hcase id with hK|⟨hn,hK⟩
  ·rcases hblkNew id b cap e hK hm he hl with h1|h1
   ·rcases h1 with hM|⟨id',cap',e',hm',he',hl'⟩
    ·have hc:=c.cold0 b hM
     obtain⟨e2,he2,hok⟩:=hnew id _ hK hm;rw[he]at he2;cases he2;have hb:=hok.topMem hl;rcases hfpNew id b hK hb with⟨k,_,h2⟩|h2|h2
     ·rcases(h.new k b h2).1 with h3|h3
      ·exact absurd h3 hc.2
      ·omega
     ·have:=h.keep.size;omega
     ·rcases(hR.new b h2).1 with h3|h3
      ·exact absurd h3 hc.2
      ·omega
    ·exact h.top id' b cap' e' hm' he' hl'
   ·exact .inr (Nat.le_trans h.keep.size h1)
  ·cases hμ:μ id with
   | none=>exact absurd hμ hn
   | some L=>
    have hL:=hle id L hμ;rw[hm]at hL;cases hL;exact h.top id b cap e hμ (by rw[<- hH id hn hK];exact he) hl
end Go.Ab
namespace Go.Ab
open Go
inductive TI where
 | int (k:IntKind)|bool|string
 | ptr (e:TypeId)|slice (e:TypeId)
 | struct (fs:List (Nat×TypeId)) (cmp:Bool)
 | array (n:Nat) (e:TypeId)
 | other
structure TInfo where
 ti:TI
 size:Nat
 bytes:Nat
 zero:List AV
 ones:Bool
abbrev Env:=List (TypeId×TInfo)
def tget : Env -> TypeId -> Option TInfo
 | [],_=>none
 | (j,x)::r,i=>bif Nat.beq i j then some x else tget r i
def avOf : Value -> AV
 | .int k n=>.int k n
 | .bool b=>.bool b
 | .string s=>bif decide (s.data.toList.length<=4096)then .str s.data.toList else .any
 | .slice none 0 0=>.nils
 | _=>.any
def tiOf (P : Program) (t : TypeId) : TypeDesc -> TI
 | .int k=>.int k
 | .bool=>.bool
 | .string=>.string
 | .pointer e=>.ptr e
 | .slice e=>.slice e
 | .struct fs=>.struct (fs.toList.map fun f=>(f.offset,f.type)) (!P.stoodInHeld t && !P.eqGuardType P.depth t && fs.toList.all fun f=>f.name != "_")
 | .array n e=>.array n e
 | _=>.other
def ygf (P:Program) (t:TypeId):Option TInfo:=
 match P.info? t,P.underlying t with
 | some i,some d=>some { ti:=tiOf P t d,size:=i.size,bytes:=i.bytes,zero:=(((i.zero.map fun z=>z.cells.toList).getD []).map avOf),ones:=((i.zero.map fun z=>z.cells.toList.all fun u=>u.oneCell').getD false)}
 | _,_=>none
def TyOk (P:Program) (Γ:Env):Prop:=Γ.map (fun p=>ygf P p.1)=Γ.map (fun p=>some p.2)
theorem TyOk.get {P : Program} {t : TypeId} {i : TInfo} : ∀ {Γ : Env}, TyOk P Γ -> tget Γ t = some i -> ygf P t = some i
 | [],_,h=>by simp[tget]at h
 | (j,x)::r,hΓ,h=>by
  simp only[TyOk,List.map_cons,List.cons.injEq]at hΓ;simp only[tget]at h
  cases hb:Nat.beq t j with
  | true=>
   rw[hb]at h;have:t=j:=Nat.eq_of_beq_eq_true hb;subst this;simp only[cond_true]at h;rw[hΓ.1,h]
  | false=>
   rw[hb]at h;exact TyOk.get (Γ:=r) hΓ.2 h
theorem ym {P:Program} {t:TypeId} {i:TInfo} (h:ygf P t=some i) :
  ∃ inf d,P.info? t=some inf/\P.underlying t=some d/\i.ti=tiOf P t d/\inf.size=i.size/\inf.bytes=i.bytes/\i.zero=(((inf.zero.map fun z=>z.cells.toList).getD []).map avOf)/\i.ones=((inf.zero.map fun z=>z.cells.toList.all fun u=>u.oneCell').getD false):=by
 unfold ygf at h
 cases h1:P.info? t with
 | none=>simp[h1]at h
 | some inf=>
  cases h2:P.underlying t with
  | none=>simp[h1,h2]at h
  | some d=>
   simp only[h1,h2,Option.some.injEq]at h;subst h;exact⟨inf,d,rfl,rfl,rfl,rfl,rfl,rfl,rfl⟩
theorem ypc {P:Program} {t e:TypeId} {d:TypeDesc} (h:TI.slice e=tiOf P t d):d=.slice e:=by
 cases d<;>simp[tiOf]at h;exact congrArg _ h.symm
theorem ytr {P:Program} {t:TypeId} {k:IntKind} {d:TypeDesc} (h:TI.int k=tiOf P t d):d=.int k:=by
 cases d<;>simp[tiOf]at h;exact congrArg _ h.symm
theorem y9t {P:Program} {t:TypeId} {d:TypeDesc} (h:TI.bool=tiOf P t d):d=.bool:=by
 cases d<;>simp[tiOf]at h;rfl
theorem y6c {P:Program} {t:TypeId} {d:TypeDesc} (h:TI.string=tiOf P t d):d=.string:=by
 cases d<;>simp[tiOf]at h;rfl
theorem ycf {P:Program} {t e:TypeId} {n:Nat} {d:TypeDesc} (h:TI.array n e=tiOf P t d):d=.array n e:=by
 cases d<;>simp[tiOf]at h;rw[h.1,h.2]
theorem yue {P:Program} {t:TypeId} {l:List (Nat×TypeId)} {c:Bool} {d:TypeDesc} (h:TI.struct l c=tiOf P t d) :
  ∃ fs,d=.struct fs/\l=fs.toList.map (fun f=>(f.offset,f.type))/\c=(!P.stoodInHeld t && !P.eqGuardType P.depth t && fs.toList.all fun f=>f.name != "_"):=by
 cases d<;>simp[tiOf]at h
 rename_i fs
 exact⟨fs,rfl,h.1,by simp[h.2]⟩
def y3g : Nat -> List AV -> Option (List AV)
  | 0,_=>some []
  | _+1,[]=>none
  | n + 1, x :: xs => match y3g n xs with
    | some ys=>some (x::ys)
    | none=>none
def y9i (i:TInfo) (cs:List AV):Option AV:=
  match i.ti with
  | .struct _ _ | .array _ _ => match y3g i.size cs with
    | some ys=>some (.agg ys)
    | none=>none
  | _ => match cs with
    | x::_=>some x
    | []=>none
mutual
def ycb : AV -> AV
 | .sl _ e n f=>.sl none e n (fun i=>y0 (f i))
 | .agg cs=>.agg (y0 cs)
 | .tup cs=>.tup (y0 cs)
 | .op cs=>.ep cs
 | x=>x
def y0 : List AV -> List AV
 | []=>[]
 | x::xs=>ycb x::y0 xs
end
theorem RepL.length {w : World} {M : Nat -> Prop} {μ : Map} : ∀ {xs : List AV} {us : List Value} {fp : List Nat}, RepL w M xs μ us fp -> us.length = xs.length
 | [],us,fp,h=>by simp only[RepL]at h;simp[h.1]
 | x::xs,us,fp,h=>by
  simp only[RepL]at h;obtain⟨u,us',f1,f2,rfl,rfl,_,h2⟩:=h;simp[RepL.length h2]
theorem y9l {w:World} {M:Nat->Prop} {μ:Map}:∀ {n:Nat} {cs ys:List AV} {us:List Value} {fp:List Nat},y3g n cs=some ys->RepL w M cs μ us fp ->
  ∃ us1 us2 f1 f2,us=us1++us2/\us1.length=n/\fp=f1++f2/\RepL w M ys μ us1 f1
 | 0,cs,ys,us,fp,h,hr=>by
  simp only[y3g,Option.some.injEq]at h;subst h;exact⟨[],us,[],fp,rfl,rfl,rfl,by simp[RepL]⟩
 | n+1,[],ys,us,fp,h,hr=>by simp[y3g]at h
 | n+1,x::xs,ys,us,fp,h,hr=>by
  simp only[y3g]at h
  cases ht:y3g n xs with
  | none=>simp[ht]at h
  | some zs=>
   simp only[ht,Option.some.injEq]at h;subst h;simp only[RepL]at hr;obtain⟨u,us',f1,f2,rfl,rfl,h1,h2⟩:=hr;obtain⟨us1,us2,g1,g2,rfl,hl,rfl,h3⟩:=y9l ht h2;refine⟨u::us1,us2,f1++g1,g2,rfl,by simp[hl],by simp,?_⟩;simp only[RepL];exact⟨u,us1,f1,g1,rfl,rfl,h1,h3⟩
def yof : TypeDesc -> Bool
 | .struct _|.array _ _=>true
 | _=>false
theorem y3d {P:Program} {t:TypeId} {d:TypeDesc} (h:P.underlying t=some d) (w:World) :
  (isAgg t).run P w=.ok (yof d) w:=by
 unfold isAgg;rw[Sem.run_bind,run_underlying h w];cases d<;>simp[yof]
theorem y9k {P : Program} {t : TypeId} {i : TInfo} {w : World} {M : Nat -> Prop} {μ : Map} {cs : List AV} {us : List Value} {x : AV} {b o : Nat}
  (hi:ygf P t=some i) (hl:y9i i cs=some x) (hr:RepL w M cs μ us []) (hc:∀ j u,us[j]? = some u->w.cell? ⟨b,o+j,none⟩=some u) :
  ∃ v,(loadVar t ⟨b,o,none⟩).run P w=.ok v w/\Rep w M x μ v []:=by
 obtain⟨inf,d,hinf,hd,hti,hsz,_,_,_⟩:=ym hi;have hag:=y3d (P:=P) hd w
 have hone:∀ y ys,cs=y::ys->yof d=false->∃ v,(loadVar t ⟨b,o,none⟩).run P w=.ok v w/\Rep w M y μ v []:=by
  intro y ys hcs hf;subst hcs;simp only[RepL]at hr;obtain⟨u,us',f1,f2,rfl,hfp,h1,h2⟩:=hr;have hcell:=hc 0 u (by simp);simp only[Nat.add_zero]at hcell;have hf1:f1=[]:=(List.append_eq_nil_iff.1 hfp.symm).1;subst hf1;refine⟨u,?_,h1⟩;unfold loadVar;rw[Sem.run_bind,hag,hf];simp[run_load,hcell]
 have hmany:∀ ys,y3g i.size cs=some ys->yof d=true->∃ v,(loadVar t ⟨b,o,none⟩).run P w=.ok v w/\Rep w M (.agg ys) μ v []:=by
  intro ys hy hf;obtain⟨us1,us2,f1,f2,rfl,hlen,hfp,h3⟩:=y9l hy hr;have hf1:f1=[]:=(List.append_eq_nil_iff.1 hfp.symm).1;subst hf1
  have hl2:=run_loadCells_list (P:=P) w ⟨b,o,none⟩ us1 (fun j v hv=>by
   rw[Addr.add_lit]
   exact hc j v (by
    have hj:j<us1.length:=(List.getElem?_eq_some_iff.1 hv).1
    rw[List.getElem?_append_left hj];exact hv))
  refine⟨.agg us1.toArray,?_,by simp only[Rep];exact⟨us1,rfl,h3⟩⟩;unfold loadVar;rw[Sem.run_bind,hag,hf];simp only[Result.andThen_ok,if_true,Sem.run_bind,sizeOf,typeInfo,run_program,hinf,Sem.run_pure,hsz, <- hlen,hl2]
 unfold y9i at hl
 cases ht:i.ti with
 | struct fs cmp=>
  rw[ht]at hl hti;simp only at hl;obtain⟨fs',rfl,_⟩:=yue hti
  cases hy:y3g i.size cs with
  | none=>simp[hy]at hl
  | some ys=>simp only[hy,Option.some.injEq]at hl;subst hl;exact hmany ys hy rfl
 | array n e=>
  rw[ht]at hl hti;simp only at hl;have:=ycf hti;subst this
  cases hy:y3g i.size cs with
  | none=>simp[hy]at hl
  | some ys=>simp only[hy,Option.some.injEq]at hl;subst hl;exact hmany ys hy rfl
 | _=>
  rw[ht]at hl hti;simp only at hl
  cases cs with
  | nil=>simp at hl
  | cons y ys=>
   simp only[Option.some.injEq]at hl;subst hl;refine hone y ys rfl ?_;cases d<;>simp[tiOf,yof]at hti ⊢
mutual
theorem y0m {w : World} {M : Nat -> Prop} : ∀ (x : AV) {μ : Map} {v : Value} {fp : List Nat}, (∀ b, b ∈ fp -> ¬ M b) -> Rep w M x μ v fp -> Rep w M (ycb x) μ v []
 | .sl own e n f,μ,v,fp,hM,h=>by
  simp only[Rep,ycb]at h ⊢;rcases h with⟨h1,h2,h3⟩|⟨b,o,cap,us,fps,hv,hn,hb,hc,ho⟩
  ·exact .inl ⟨h1,h2.bor,trivial⟩
  ·refine .inr ⟨b,o,cap,us,fun _=>[],hv,hn,hb,?_,?_⟩
   ·intro i hi
    obtain⟨h1,h2,h3⟩:=hc i hi;refine⟨yqb (f i) ?_ h1,h2,h3⟩;intro x hx
    cases own with
    | none=>rw[ho.2.2 i hi]at hx;simp at hx
    | some T=>
     obtain⟨_,rfl,_⟩:=ho;exact hM x (List.mem_cons_of_mem _ (List.mem_flatMap.2 ⟨i,List.mem_range.2 hi,hx⟩))
   ·refine⟨?_,by simp⟩
    cases own with
    | none=>exact ho.1
    | some T=>obtain⟨_,rfl,_⟩:=ho;exact hM b (by simp)
 | .agg cs,μ,v,fp,hM,h=>by
  simp only[Rep,ycb]at h ⊢;obtain⟨us,e,h⟩:=h;exact⟨us,e,yqb cs hM h⟩
 | .tup cs,μ,v,fp,hM,h=>by
  simp only[Rep,ycb]at h ⊢;obtain⟨us,e,h⟩:=h;exact⟨us,e,yqb cs hM h⟩
 | .op cs,μ,v,fp,hM,h=>by
  simp only[Rep,ycb]at h ⊢;obtain⟨b,us,T,e,rfl,hb,hh,hone,hr⟩:=h;refine⟨trivial,b,0,us,e,hb,hM b (by simp),hr,fun j u hu => ?_⟩;rw[cell_of_row w b (0+j) us.toArray T (0,0) hh];exact⟨by simpa using hu,hone u (List.mem_of_getElem? hu)⟩
 | .int k n,_,_,_,_,h=>by simp only[Rep,ycb]at h ⊢;exact⟨h.1,trivial⟩
 | .bool b,_,_,_,_,h=>by simp only[Rep,ycb]at h ⊢;exact⟨h.1,trivial⟩
 | .str l,_,_,_,_,h=>by simp only[Rep,ycb]at h ⊢;exact⟨h.1,trivial⟩
 | .nils,_,_,_,_,h=>by simp only[Rep,ycb]at h ⊢;exact⟨h.1,trivial⟩
 | .any,_,_,_,_,h=>by simp only[Rep,ycb]
 | .lit ..,_,_,_,_,h=>by simp only[Rep,ycb]at h ⊢;exact⟨trivial,h.2⟩
 | .ref ..,_,_,_,_,h=>by simp only[Rep,ycb]at h ⊢;exact⟨trivial,h.2⟩
 | .ptr ..,_,_,_,_,h=>by simp only[Rep,ycb]at h ⊢;exact⟨trivial,h.2⟩
 | .pe ..,_,_,_,_,h=>by simp only[Rep,ycb]at h ⊢;exact⟨trivial,h.2⟩
 | .ep ..,_,_,_,_,h=>by simp only[Rep,ycb]at h ⊢;exact⟨trivial,h.2⟩
 | .fn ..,_,_,_,_,h=>by simp only[Rep,ycb]at h ⊢;exact⟨trivial,h.2⟩
 | .gd ..,_,_,_,_,h=>by simp only[Rep,ycb]at h ⊢;exact⟨trivial,h.2⟩
theorem yqb {w : World} {M : Nat -> Prop} : ∀ (xs : List AV) {μ : Map} {us : List Value} {fp : List Nat}, (∀ b, b ∈ fp -> ¬ M b) -> RepL w M xs μ us fp -> RepL w M (y0 xs) μ us []
 | [],_,_,_,_,h=>by simp only[RepL,y0]at h ⊢;exact⟨h.1,trivial⟩
 | x::xs,μ,us,fp,hM,h=>by
  simp only[RepL,y0]at h ⊢;obtain⟨u,us',f1,f2,rfl,rfl,h1,h2⟩:=h;exact⟨u,us',[],[],rfl,rfl,y0m x (fun b hb=>hM b (by simp[hb])) h1,yqb xs (fun b hb=>hM b (by simp[hb])) h2⟩
end
end Go.Ab
namespace Go.Ab
open Go
def allP : List Prop -> Prop
 | []=>True
 | p::ps=>p/\allP ps
theorem yn {l r:List Prop}:allP (l++r)↔allP l/\allP r:=by
 induction l with
 | nil=>simp[allP]
 | cons p l ih=>simp[allP,ih,and_assoc]
def cmpI (op:BinOp) (a b:Int):Option Bool:=
 match op with
 | .lss=>some (decide (a<b))
 | .leq=>some (decide (a<=b))
 | .gtr=>some (decide (b<a))
 | .geq=>some (decide (b<=a))
 | .eql=>some (a == b)
 | .neq=>some (a != b)
 | _=>none
def intA (op:BinOp) (k:IntKind) (a b:Int):Option (AV×List Prop):=
 match op with
 | .add=>some (.int k (k.wrap (a+b)),[])
 | .sub=>some (.int k (k.wrap (a-b)),[])
 | .mul=>some (.int k (k.wrap (a * b)),[])
 | .quo=>some (.int k (k.wrap (a.tdiv b)),[b≠0])
 | .rem=>some (.int k (a.tmod b),[b≠0])
 | .and=>some (.int k (k.wrap (BitVec.ofInt k.bits a &&& BitVec.ofInt k.bits b).toNat),[])
 | .or=>some (.int k (k.wrap (BitVec.ofInt k.bits a ||| BitVec.ofInt k.bits b).toNat),[])
 | .xor=>some (.int k (k.wrap (BitVec.ofInt k.bits a ^^^ BitVec.ofInt k.bits b).toNat),[])
 | .lss=>some (.bool (decide (a<b)),[])
 | .leq=>some (.bool (decide (a<=b)),[])
 | .gtr=>some (.bool (decide (b<a)),[])
 | .geq=>some (.bool (decide (b<=a)),[])
 | .eql=>some (.bool (a == b),[])
 | .neq=>some (.bool (a != b),[])
 | .shl=>some (.int k (k.wrap (a * 2 ^ (Min.min b.toNat k.bits))),[0<=b])
 | .shr=>some (.int k (a.fdiv (2 ^ (Min.min b.toNat k.bits))),[0<=b])
 | _=>none
def strA (op:BinOp) (a b:List UInt8):Option (AV×List Prop):=
 match op with
 | .add=>some (.str (a++b),[((a.length+b.length:Nat):Int)<=9223372036854775807])
 | .eql=>some (.bool (a == b),[])
 | .neq=>some (.bool (a != b),[])
 | .lss=>some (.bool (Op.bytesLess a b),[])
 | .leq=>some (.bool (Op.bytesLess a b || a == b),[])
 | .gtr=>some (.bool (!(Op.bytesLess a b || a == b)),[])
 | .geq=>some (.bool (!(Op.bytesLess a b)),[])
 | _=>none
def y5k (Γ:Env) (t:TypeId) (x y:AV):Option Bool:=
  match tget Γ t with
  | some i => match i.ti, x, y with
    | .int _,.int k a,.int k' b=>if k=k' then some (a == b)else none
    | .string,.str a,.str b=>some (a == b)
    | .bool,.bool a,.bool b=>some (a == b)
    | _,_,_=>none
  | none=>none
def nth : List AV -> Nat -> Option AV
 | [],_=>none
 | x::_,0=>some x
 | _::xs,n+1=>nth xs n
def eqFields (Γ : Env) (xs ys : List AV) : List (Nat × TypeId) -> Option Bool
  | []=>some true
  | (o, t) :: fs => match nth xs o, nth ys o with
    | some x, some y => match y5k Γ t x y, eqFields Γ xs ys fs with
      | some b,some r=>some (b && r)
      | _,_=>none
    | _,_=>none
def y9u (Γ : Env) (xs ys : List AV) (t : TypeId) (c : Nat) : Nat -> Nat -> Option Bool
  | 0,_=>some true
  | n + 1, i => match nth xs (i * c), nth ys (i * c) with
    | some x, some y => match y5k Γ t x y, y9u Γ xs ys t c n (i + 1) with
      | some b,some r=>some (b && r)
      | _,_=>none
    | _,_=>none
def eqA (Γ:Env) (t:TypeId) (x y:AV):Option Bool:=
  match x,y with
  | .bool a, .bool b => match tget Γ t with
    | some i => match i.ti with
      | .bool=>some (a == b)
      | _=>none
    | none=>none
  | .agg xs, .agg ys => match tget Γ t with
    | some i => match i.ti with
      | .struct fs true=>eqFields Γ xs ys fs
      | .array n et => match tget Γ et with
        | some k => match k.ti with
          | .bool=>y9u Γ xs ys et k.size n 0
          | _=>none
        | none=>none
      | _=>none
    | none=>none
  | _,_=>none
def binA (Γ:Env) (op:BinOp) (t:TypeId) (x y:AV):Option (AV×List Prop):=
  match x,y with
  | .int k a,.int k' b=>if k=k' then intA op k a b else
    match op with
    | .shl=>some (.int k (k.wrap (a * 2 ^ (Min.min b.toNat k.bits))),[0<=b])
    | .shr=>some (.int k (a.fdiv (2 ^ (Min.min b.toNat k.bits))),[0<=b])
    | _=>none
  | .str a,.str b=>strA op a b
  | x, y => match op with
    | .eql => match eqA Γ t x y with
      | some b=>some (.bool b,[])
      | none=>none
    | .neq => match eqA Γ t x y with
      | some b=>some (.bool (!b),[])
      | none=>none
    | _=>none
section
variable {P:Program} {Γ:Env} {w:World} {M:Nat->Prop} {μ:Map}
theorem Rep.val_int {k:IntKind} {n:Int} {v:Value} {fp:List Nat} (h:Rep w M (.int k n) μ v fp):v=.int k n:=by simp only[Rep]at h;exact h.1
theorem Rep.val_bool {b:Bool} {v:Value} {fp:List Nat} (h:Rep w M (.bool b) μ v fp):v=.bool b:=by simp only[Rep]at h;exact h.1
theorem Rep.val_str {l:List UInt8} {v:Value} {fp:List Nat} (h:Rep w M (.str l) μ v fp):v=.string ⟨l.toArray⟩:=by simp only[Rep]at h;exact h.1.1
theorem Rep.len_str {l:List UInt8} {v:Value} {fp:List Nat} (h:Rep w M (.str l) μ v fp):l.length<=maxLen:=by simp only[Rep]at h;exact h.1.2
theorem ykq:maxLen=9223372036854775807:=by decide
theorem ysb (k:IntKind) (n:Int):Rep w M (.int k n) μ (.int k n) []:=by simp[Rep]
theorem yuc (b:Bool):Rep w M (.bool b) μ (.bool b) []:=by simp[Rep]
theorem yvs (s:ByteArray):Rep w M (bif decide (s.data.toList.length<=4096)then .str s.data.toList else .any) μ (.string s) []:=by
 cases h:decide (s.data.toList.length<=4096)with
 | false=>simp[Rep]
 | true=>
  have h:=of_decide_eq_true h;have e:=ykq;simp only[cond_true,Rep];exact⟨⟨by simp,by omega⟩,trivial⟩
theorem y1b (l:List UInt8) (hl:l.length<=maxLen):Rep w M (.str l) μ (.string ⟨l.toArray⟩) []:=by simp[Rep,hl]
theorem yny {op:BinOp} {k:IntKind} {a b:Int} {x:AV} {obl:List Prop} (h:intA op k a b=some (x,obl)) (ho:allP obl) (t:TypeId) :
  ∃ v,(binOp op t (.int k a) (.int k b)).run P w=.ok v w/\Rep w M x μ v []:=by
 cases op<;>simp only[intA,Option.some.injEq,Prod.mk.injEq,reduceCtorEq]at h
 case quo=>
  obtain⟨rfl,rfl⟩:=h;have hb:b≠0:=ho.1;exact⟨_,by simp[binOp,Op.intDiv,hb],ysb _ _⟩
 case rem=>
  obtain⟨rfl,rfl⟩:=h;have hb:b≠0:=ho.1;exact⟨_,by simp[binOp,Op.intDiv,hb],ysb _ _⟩
 case shl=>
  obtain⟨rfl,rfl⟩:=h;have hb:¬ b<0:=by have:=ho.1;omega
  exact⟨_,by simp[binOp,Op.shift,hb],ysb _ _⟩
 case shr=>
  obtain⟨rfl,rfl⟩:=h;have hb:¬ b<0:=by have:=ho.1;omega
  exact⟨_,by simp[binOp,Op.shift,hb],ysb _ _⟩
 all_goals
  obtain⟨rfl,rfl⟩:=h
  first
   | (refine⟨_,?_,yuc _⟩;simp[binOp,Op.intCmp];done)
   | (refine⟨_,?_,ysb _ _⟩;simp only[binOp,ne_eq,not_true_eq_false,if_false];rfl)
theorem y7y {op:BinOp} {a b:List UInt8} {x:AV} {obl:List Prop} (h:strA op a b=some (x,obl)) (ho:allP obl) (t:TypeId) :
  ∃ v,(binOp op t (.string ⟨a.toArray⟩) (.string ⟨b.toArray⟩)).run P w=.ok v w/\Rep w M x μ v []:=by
 cases op<;>simp only[strA,Option.some.injEq,Prod.mk.injEq,reduceCtorEq]at h
 case add=>
  obtain⟨rfl,rfl⟩:=h;have hb:((a.length+b.length:Nat):Int)<=9223372036854775807:=ho.1;refine⟨_,?_,y1b _ (by rw[ykq,List.length_append];omega)⟩
  have e:(⟨a.toArray⟩:ByteArray)++⟨b.toArray⟩=⟨(a++b).toArray⟩:=by
   apply ByteArray.ext;simp[ByteArray.data_append]
  have hs:¬ (((⟨a.toArray⟩:ByteArray).size+(⟨b.toArray⟩:ByteArray).size:Nat):Int) > IntKind.i64.max:=by
   have e1:(⟨a.toArray⟩:ByteArray).size=a.length:=by simp[ByteArray.size]
   have e2:(⟨b.toArray⟩:ByteArray).size=b.length:=by simp[ByteArray.size]
   have e3:IntKind.i64.max=9223372036854775807:=by decide
   rw[e1,e2,e3];omega
  simp only[binOp,Op.stringOp,if_neg hs,e,Sem.run_pure]
 all_goals
  obtain⟨rfl,rfl⟩:=h
  first
   | (refine⟨_,?_,yuc _⟩;simp[binOp,Op.stringOp];done)
   | (refine⟨_,?_,yuc _⟩;simp[binOp,Op.stringOp,bne];done)
theorem y4j {t:TypeId} {x y:AV} {u v:Value} {b:Bool} (hΓ:TyOk P Γ) (h:y5k Γ t x y=some b) (hx:Rep w M x μ u []) (hy:Rep w M y μ v []) (d:Nat) :
  (Op.equalIn (d+1) t u v).run P w=.ok b w/\(isAgg t).run P w=.ok false w:=by
 unfold y5k at h
 cases ht:tget Γ t with
 | none=>simp[ht]at h
 | some i=>
  obtain⟨inf,ds,hinf,hd,hti,_⟩:=ym (hΓ.get ht);simp only[ht]at h;split at h
  ·rename_i k0 k1 a k2 b' hk
   rw[hk]at hti;have:=ytr hti;subst this;have e1:=hx.val_int;have e2:=hy.val_int;subst e1;subst e2;split at h
   ·rename_i hkk
    subst hkk;simp only[Option.some.injEq]at h;subst h;exact⟨run_equalIn_int w d t _ _ _ _ hd,by rw[y3d hd];rfl⟩
   ·simp at h
  ·rename_i a b' hk
   rw[hk]at hti;have:=y6c hti;subst this;have e1:=hx.val_str;have e2:=hy.val_str;subst e1;subst e2;simp only[Option.some.injEq]at h;subst h;refine⟨?_,by rw[y3d hd];rfl⟩;rw[run_equalIn_string w d t _ _ hd];simp
  ·rename_i a b' hk
   rw[hk]at hti;have:=y9t hti;subst this;have e1:=hx.val_bool;have e2:=hy.val_bool;subst e1;subst e2;simp only[Option.some.injEq]at h;subst h;exact⟨run_equalIn_bool' w d t _ _ hd,by rw[y3d hd];rfl⟩
  ·simp at h
theorem y1i : ∀ {xs : List AV} {us : List Value} {n : Nat} {x : AV}, nth xs n = some x -> RepL w M xs μ us [] -> ∃ u, us[n]? = some u /\ Rep w M x μ u []
 | [],_,_,_,h,_=>by simp[nth]at h
 | y::xs,us,n,x,h,hr=>by
  simp only[RepL]at hr;obtain⟨u,us',f1,f2,rfl,hfp,h1,h2⟩:=hr;obtain⟨rfl,rfl⟩:=List.append_eq_nil_iff.1 hfp.symm
  cases n with
  | zero=>simp only[nth,Option.some.injEq]at h;subst h;exact⟨u,rfl,h1⟩
  | succ n=>
   simp only[nth]at h;obtain⟨u',h3,h4⟩:=y1i h h2;exact⟨u',by simpa using h3,h4⟩
theorem y8e {t:TypeId} {us:List Value} {n:Nat} {u:Value} (hag:(isAgg t).run P w=.ok false w) (h:us[n]? = some u):(part t us.toArray n).run P w=.ok u w:=by
 unfold part;rw[Sem.run_bind,hag];simp[h]
theorem y7g (hΓ:TyOk P Γ) {xs ys:List AV} {us vs:List Value} (hx:RepL w M xs μ us []) (hy:RepL w M ys μ vs []) (d:Nat):∀ (fs:List Field) {b:Bool},
  (fs.all fun f=>f.name != "_")=true->eqFields Γ xs ys (fs.map fun f=>(f.offset,f.type))=some b->(Op.eqFields (d+1) us.toArray vs.toArray fs).run P w=.ok b w
 | [],b,_,h=>by simp only[List.map_nil,eqFields,Option.some.injEq]at h;subst h;simp[Op.eqFields]
 | f::fs,b,hn,h=>by
  simp only[List.all_cons,Bool.and_eq_true]at hn;simp only[List.map_cons,eqFields]at h
  cases h1:nth xs f.offset with
  | none=>simp[h1]at h
  | some x=>
   cases h2:nth ys f.offset with
   | none=>simp[h1,h2]at h
   | some y=>
    simp only[h1,h2]at h
    cases h3:y5k Γ f.type x y with
    | none=>simp[h3]at h
    | some b1=>
     cases h4:eqFields Γ xs ys (fs.map fun f=>(f.offset,f.type))with
     | none=>simp[h3,h4]at h
     | some b2=>
      simp only[h3,h4,Option.some.injEq]at h;subst h;obtain⟨u,hu,hxu⟩:=y1i h1 hx;obtain⟨v,hv,hyv⟩:=y1i h2 hy;obtain⟨he,hag⟩:=y4j hΓ h3 hxu hyv d;have ih:=y7g hΓ hx hy d fs hn.2 h4
      have hne:f.name ≠ "_" := by simpa using hn.1
      simp only[Op.eqFields,if_pos hne,Sem.run_bind,y8e hag hu,y8e hag hv,he,Result.andThen_ok];cases b1
      ·simp
      ·simp[ih]
theorem ykm (hΓ:TyOk P Γ) {xs ys:List AV} {us vs:List Value} (hx:RepL w M xs μ us []) (hy:RepL w M ys μ vs []) (d:Nat) {et:TypeId} {c:Nat} (hc:P.cellsOf et=c):∀ (n i:Nat) {b:Bool},
  y9u Γ xs ys et c n i=some b->(Op.eqItems (d+1) et (P.cellsOf et) us.toArray vs.toArray (List.range' i n)).run P w=.ok b w
 | 0,i,b,h=>by simp only[y9u,Option.some.injEq]at h;subst h;simp[Op.eqItems]
 | n+1,i,b,h=>by
  simp only[y9u]at h
  cases h1:nth xs (i * c)with
  | none=>simp[h1]at h
  | some x=>
   cases h2:nth ys (i * c)with
   | none=>simp[h1,h2]at h
   | some y=>
    simp only[h1,h2]at h
    cases h3:y5k Γ et x y with
    | none=>simp[h3]at h
    | some b1=>
     cases h4:y9u Γ xs ys et c n (i+1)with
     | none=>simp[h3,h4]at h
     | some b2=>
      simp only[h3,h4,Option.some.injEq]at h;subst h;obtain⟨u,hu,hxu⟩:=y1i h1 hx;obtain⟨v,hv,hyv⟩:=y1i h2 hy;obtain⟨he,hag⟩:=y4j hΓ h3 hxu hyv d;have ih:=ykm hΓ hx hy d hc n (i+1) h4;rw[<- hc]at hu hv;simp only[List.range'_succ,Op.eqItems,Sem.run_bind,y8e hag hu,y8e hag hv,he,Result.andThen_ok];cases b1
      ·simp
      ·simp[ih]
theorem y2p {t et:TypeId} {n:Nat} (ht:P.underlying t=some (.array n et)) (he:P.underlying et=some .bool):P.eqGuardType P.depth t=false:=by
 have hd:P.depth=(2 * (P.types.size+Made.depth))+1+1:=rfl;rw[hd,Program.eqGuardType,ht];simp only;rw[Program.eqGuardType,he]
theorem yaz (hΓ : TyOk P Γ) {op : BinOp} {t : TypeId} {x y r : AV} {u v : Value} {obl : List Prop} (h : binA Γ op t x y = some (r, obl)) (ho : allP obl)
  (hx:Rep w M x μ u []) (hy:Rep w M y μ v []) (xo yo:Operand) :
  ∃ z,(do eqGuard op t xo yo u v;binOp op t u v:Sem Value).run P w=.ok z w/\Rep w M r μ z []:=by
 unfold binA at h;split at h
 ·rename_i k a k' b
  have e1:=hx.val_int;have e2:=hy.val_int;subst e1;subst e2;have hg:(eqGuard op t xo yo (.int k a) (.int k' b)).run P w=.ok () w:=by cases op<;>simp[eqGuard]
  rw[Sem.run_bind,hg];simp only[Result.andThen_ok];split at h
  ·rename_i hk;subst hk
   exact yny h ho t
  ·split at h
   ·simp only[Option.some.injEq,Prod.mk.injEq]at h
    obtain⟨rfl,rfl⟩:=h;have hb:¬ b<0:=by have:=ho.1;omega
    exact⟨_,by simp[binOp,Op.shift,hb],ysb _ _⟩
   ·simp only[Option.some.injEq,Prod.mk.injEq]at h
    obtain⟨rfl,rfl⟩:=h;have hb:¬ b<0:=by have:=ho.1;omega
    exact⟨_,by simp[binOp,Op.shift,hb],ysb _ _⟩
   ·simp at h
 ·rename_i a b
  have e1:=hx.val_str;have e2:=hy.val_str;subst e1;subst e2;have hg:(eqGuard op t xo yo (.string ⟨a.toArray⟩) (.string ⟨b.toArray⟩)).run P w=.ok () w:=by cases op<;>simp[eqGuard]
  rw[Sem.run_bind,hg];simp only[Result.andThen_ok];exact y7y h ho t
 ·have key:∀ b,eqA Γ t x y=some b->(op=.eql\/op=.neq)->∃ z,(do eqGuard op t xo yo u v;binOp op t u v:Sem Value).run P w=.ok z w/\z=.bool (if op=.eql then b else !b):=by
   intro b hb hop;unfold eqA at hb;split at hb
   ·rename_i p q _ _
    have e1:=hx.val_bool;have e2:=hy.val_bool;subst e1;subst e2
    cases ht:tget Γ t with
    | none=>simp[ht]at hb
    | some i=>
     obtain⟨inf,ds,hinf,hd,hti,_⟩:=ym (hΓ.get ht);simp only[ht]at hb;split at hb
     ·rename_i hk
      rw[hk]at hti;have:=y9t hti;subst this;simp only[Option.some.injEq]at hb;subst hb;have he:=run_equalIn_bool' (P:=P) w 9999 t p q hd;rcases hop with rfl|rfl
      ·exact⟨_,by simp[eqGuard,binOp,Op.equal,Op.maxDepth,he],rfl⟩
      ·exact⟨_,by simp[eqGuard,binOp,Op.equal,Op.maxDepth,he],rfl⟩
     ·simp at hb
   ·rename_i xs ys _ _
    cases ht:tget Γ t with
    | none=>simp[ht]at hb
    | some i=>
     obtain⟨inf,ds,hinf,hd,hti,_⟩:=ym (hΓ.get ht);simp only[ht]at hb;split at hb
     ·rename_i fs hk
      rw[hk]at hti;obtain⟨fs',rfl,rfl,hc⟩:=yue hti;simp only[Rep]at hx hy;obtain⟨us,rfl,hx⟩:=hx;obtain⟨vs,rfl,hy⟩:=hy
      have hc':P.stoodInHeld t=false/\P.eqGuardType P.depth t=false/\(fs'.toList.all fun f=>f.name != "_")=true:=by
       have:=hc.symm;simp only[Bool.and_eq_true,Bool.not_eq_true']at this;exact⟨this.1.1,this.1.2,this.2⟩
      have hf:P.fieldsOf t=fs':=by simp[Program.fieldsOf,hd]
      have he:(Op.equalIn 10000 t (.agg us.toArray) (.agg vs.toArray)).run P w=.ok b w:=by
       rw[run_equalIn_struct w 9999 t _ _ (by rw[hf];exact hd) hc'.1,hf];exact y7g hΓ hx hy 9998 fs'.toList hc'.2.2 hb
      have hg:=run_eqGuard_agg (P:=P) w op t xo yo us.toArray vs.toArray hc'.2.1;rw[Sem.run_bind,hg];simp only[Result.andThen_ok];rcases hop with rfl|rfl
      ·rw[run_eql_struct,he];exact⟨_,rfl,rfl⟩
      ·rw[run_neq_struct,he];exact⟨_,rfl,rfl⟩
     ·rename_i n et hk
      rw[hk]at hti;have:=ycf hti;subst this;simp only[Rep]at hx hy;obtain⟨us,rfl,hx⟩:=hx;obtain⟨vs,rfl,hy⟩:=hy
      cases hte:tget Γ et with
      | none=>simp[hte]at hb
      | some k=>
       obtain⟨infe,de,hinfe,hde,htie,hsze,_⟩:=ym (hΓ.get hte);simp only[hte]at hb;split at hb
       ·rename_i hke
        rw[hke]at htie;have:=y9t htie;subst this;have hcs:P.cellsOf et=k.size:=by simp[Program.cellsOf,hinfe,hsze]
        have he:(Op.equalIn 10000 t (.agg us.toArray) (.agg vs.toArray)).run P w=.ok b w:=by
         rw[run_equalIn_array w 9999 us.toArray vs.toArray hd hinfe,List.range_eq_range'];exact ykm hΓ hx hy 9998 hcs n 0 hb
        have hg:=run_eqGuard_agg (P:=P) w op t xo yo us.toArray vs.toArray (y2p hd hde);rw[Sem.run_bind,hg];simp only[Result.andThen_ok];rcases hop with rfl|rfl
        ·rw[run_eql_struct,he];exact⟨_,rfl,rfl⟩
        ·rw[run_neq_struct,he];exact⟨_,rfl,rfl⟩
       ·simp at hb
     ·simp at hb
   ·simp at hb
  split at h
  ·cases hb:eqA Γ t x y with
   | none=>simp[hb]at h
   | some b=>
    simp only[hb,Option.some.injEq,Prod.mk.injEq]at h;obtain⟨rfl,rfl⟩:=h;obtain⟨z,h1,rfl⟩:=key b hb (.inl rfl);exact⟨_,h1,by simpa using yuc b⟩
  ·cases hb:eqA Γ t x y with
   | none=>simp[hb]at h
   | some b=>
    simp only[hb,Option.some.injEq,Prod.mk.injEq]at h;obtain⟨rfl,rfl⟩:=h;obtain⟨z,h1,rfl⟩:=key b hb (.inr rfl);exact⟨_,h1,by simpa using yuc (!b)⟩
  ·simp at h
end
end Go.Ab
namespace Go.Ab
open Go
def unA (op:UnOp) (x:AV):Option (AV×List Prop):=
 match op,x with
 | .not,.bool b=>some (.bool (!b),[])
 | .neg,.int k n=>some (.int k (k.wrap (0-n)),[])
 | _,_=>none
def ysc : Nat -> List AV -> List AV
 | 0,l=>l
 | _+1,[]=>[]
 | n+1,_::l=>ysc n l
def nthF : List (Nat × TypeId) -> Nat -> Option (Nat × TypeId)
 | [],_=>none
 | x::_,0=>some x
 | _::l,n+1=>nthF l n
def ysx (Γ:Env) (t:TypeId) (x:AV) (i:Nat):Option (AV×List Prop):=
  match tget Γ t with
  | some j => match j.ti with
    | .struct fs _ => match nthF fs i with
      | some (off, ft) => match tget Γ ft with
        | some k => match k.size with
          | 0=>none
          | _ + 1 => match x with
            | .ep cs=>some (.ep (ysc off cs),[])
            | .ptr id o=>some (.ptr id (o+off),[])
            | .pe id e n o=>some (.pe id e n (o+off),[])
            | _=>none
        | none=>none
      | none=>none
    | _=>none
  | none=>none
def ypv (Γ:Env) (t:TypeId) (x i:AV):Option (AV×List Prop):=
  match tget Γ t,i with
  | some j, .int _ i => match j.ti with
    | .slice et => match tget Γ et with
      | some k => match x with
        | .sl none e n f=>if k.size=e then some (.ep (f i.toNat),[0<=i/\i<(n:Int)])else none
        | .ref id e off n=>if k.size=e then some (.pe id e (off+i.toNat) 0,[0<=i/\i<(n:Int)])else none
        | .nils=>some (.any,[False])
        | _=>none
      | none=>none
    | .array n et => match tget Γ et with
      | some k => match x with
        | .ptr id o=>some (.ptr id (o+i.toNat * k.size),[0<=i/\i<(n:Int)])
        | .ep cs=>some (.ep (ysc (i.toNat * k.size) cs),[0<=i/\i<(n:Int)])
        | _=>none
      | none=>none
    | _=>none
  | _,_=>none
def yau : List AV -> List Int
 | .int _ n::r=>n::yau r
 | _::r=>0::yau r
 | []=>[]
def allI (k : IntKind) : List AV -> Bool
 | .int k' _::r=>if k'=k then allI k r else false
 | _::_=>false
 | []=>true
def y0t : List AV -> List (List UInt8)
 | .str l::r=>l::y0t r
 | _::r=>[]::y0t r
 | []=>[]
def allS : List AV -> Bool
 | .str _::r=>allS r
 | _::_=>false
 | []=>true
def y3w (Γ:Env) (t:TypeId) (x i:AV):Option (AV×List Prop):=
  match tget Γ t,i with
  | some j, .int _ i => match j.ti, x with
    | .string,.str l=>some (.int .u8 (l.getD i.toNat 0).toNat,[0<=i/\i<(l.length:Int)])
    | .array n e, .agg cs => match tget Γ e with
      | some ke => match ke.ti with
        | .int k=>if ke.size=1/\cs.length=n/\allI k cs=true then some (.int k ((yau cs).getD i.toNat 0),[0<=i/\i<(n:Int)])else none
        | .string=>if ke.size=1/\cs.length=n/\allS cs=true then some (.str ((y0t cs).getD i.toNat []),[0<=i/\i<(n:Int)])else none
        | _=>none
      | none=>none
    | _,_=>none
  | _,_=>none
def fst2 {α:Type} (x:Option α) (ps:List Prop):Option (α×List Prop):=
 match x with
 | some y=>some (y,ps)
 | none=>none
def nthE : List Ent -> Nat -> Option Ent
 | [],_=>none
 | x::_,0=>some x
 | _::l,n+1=>nthE l n
def ymn (Γ:Env) (h:List Ent) (t:TypeId) (x:AV):Option (AV×List Prop):=
  match tget Γ t with
  | some j => match x with
    | .ep cs=>fst2 (y9i j cs) []
    | .ptr id o => match nthE h id with
      | some (.box cs)=>fst2 (y9i j (ysc o cs)) []
      | _=>none
    | .pe id e i o => match nthE h id with
      | some (.arr _ e' n f)=>if e=e' then fst2 (y9i j (ysc o (y0 (f i)))) [i<n]else none
      | _=>none
    | _=>none
  | none=>none
section
variable {P:Program} {Γ:Env} {w:World} {M:Nat->Prop} {μ:Map}
theorem yf2 {op:UnOp} {x r:AV} {u:Value} {obl:List Prop} (h:unA op x=some (r,obl)) (hx:Rep w M x μ u []) :
  ∃ z,(Op.unary op u).run P w=.ok z w/\Rep w M r μ z []:=by
 unfold unA at h;split at h
 ·simp only[Option.some.injEq,Prod.mk.injEq]at h
  obtain⟨rfl,rfl⟩:=h;have e1:=hx.val_bool;subst e1;exact⟨_,by simp[Op.unary],yuc _⟩
 ·simp only[Option.some.injEq,Prod.mk.injEq]at h
  obtain⟨rfl,rfl⟩:=h;have e1:=hx.val_int;subst e1;exact⟨_,by simp[Op.unary,Op.intArith],ysb _ _⟩
 ·simp at h
theorem yfe : ∀ {n : Nat} {cs : List AV} {us : List Value}, RepL w M cs μ us [] -> RepL w M (ysc n cs) μ (us.drop n) []
 | 0,cs,us,h=>by simpa [ysc]using h
 | n+1,[],us,h=>by
  simp only[RepL]at h;simp[ysc,RepL,h.1]
 | n+1,x::cs,us,h=>by
  simp only[RepL]at h;obtain⟨u,us',f1,f2,rfl,hfp,h1,h2⟩:=h;obtain⟨rfl,rfl⟩:=List.append_eq_nil_iff.1 hfp.symm;simpa [ysc]using yfe h2
theorem yld.drop {b o n:Nat} {us:List Value} (h:yld w b o us):yld w b (o+n) (us.drop n):=by
 intro j u hu;rw[List.getElem?_drop]at hu;have:=h (n+j) u hu;rwa [<- Nat.add_assoc]at this
theorem ynk : ∀ (l : List (Nat × TypeId)) (n : Nat), nthF l n = l[n]?
 | [],n=>by simp[nthF]
 | x::l,0=>by simp[nthF]
 | x::l,n+1=>by simp[nthF,ynk l n]
theorem yib : ∀ (l : List Ent) (n : Nat), nthE l n = l[n]?
 | [],n=>by simp[nthE]
 | x::l,0=>by simp[nthE]
 | x::l,n+1=>by simp[nthE,yib l n]
theorem ytb {t:TypeId} {i:TInfo} (h:ygf P t=some i):(sizeOf t).run P w=.ok i.size w:=by
 obtain⟨inf,d,hinf,hd,hti,hsz,_⟩:=ym h;simp[sizeOf,typeInfo,hinf,hsz]
theorem yar (hΓ:TyOk P Γ) {t:TypeId} {x r:AV} {i:Nat} {u:Value} {obl:List Prop} (h:ysx Γ t x i=some (r,obl)) (hx:Rep w M x μ u []) :
  ∃ z,(Instr.fieldAt t u i).run P w=.ok z w/\Rep w M r μ z []:=by
 unfold ysx at h
 cases ht:tget Γ t with
 | none=>simp[ht]at h
 | some j=>
  obtain⟨inf,d,hinf,hd,hti,_⟩:=ym (hΓ.get ht);simp only[ht]at h;split at h
  ·rename_i fs cmp hk
   rw[hk]at hti;obtain⟨fs',rfl,rfl,_⟩:=yue hti;rw[ynk]at h
   cases hf:(fs'.toList.map fun f=>(f.offset,f.type))[i]? with
   | none=>simp[hf]at h
   | some p=>
    obtain⟨off,ft⟩:=p;simp only[hf]at h
    cases hft:tget Γ ft with
    | none=>simp[hft]at h
    | some k=>
     simp only[hft]at h;split at h
     ·simp at h
     ·rename_i m hm
      simp only[List.getElem?_map,Option.map_eq_some_iff,Prod.mk.injEq]at hf;obtain⟨f,hf1,hf2,hf3⟩:=hf;have hf1':fs'[i]? = some f:=by simpa using hf1
      have hso:(sizeOf f.type).run P w=.ok (m+1) w:=by rw[hf3,ytb (hΓ.get hft),hm]
      have key:∀ b o,(Instr.fieldAt t (.pointer (some ⟨b,o,none⟩)) i).run P w=.ok (.pointer (some ⟨b,o+off,none⟩)) w:=by
       intro b o;simp[Instr.fieldAt,run_underlying hd,hf1',Instr.sureAddr,fieldPlace,hso,Addr.add_lit,hf2]
      split at h
      ·rename_i cs
       simp only[Option.some.injEq,Prod.mk.injEq]at h;obtain⟨rfl,rfl⟩:=h;simp only[Rep]at hx;obtain⟨_,b,o,us,rfl,hb,hM,hl,hc⟩:=hx;refine⟨_,key b o,?_⟩;simp only[Rep];exact⟨trivial,b,o+off,us.drop off,rfl,hb,hM,yfe hl,hc.drop⟩
      ·rename_i id o
       simp only[Option.some.injEq,Prod.mk.injEq]at h;obtain⟨rfl,rfl⟩:=h;simp only[Rep]at hx;obtain⟨_,b,cap,hm',rfl⟩:=hx;refine⟨_,key b o,?_⟩;simp only[Rep];exact⟨trivial,b,cap,hm',rfl⟩
      ·rename_i id e n o
       simp only[Option.some.injEq,Prod.mk.injEq]at h;obtain⟨rfl,rfl⟩:=h;simp only[Rep]at hx;obtain⟨_,b,cap,hm',rfl⟩:=hx;refine⟨_,key b _,?_⟩;simp only[Rep];exact⟨trivial,b,cap,hm',by simp[Nat.add_assoc]⟩
      ·simp at h
  ·simp at h
theorem y5q (hΓ : TyOk P Γ) {t : TypeId} {x y r : AV} {u v : Value} {obl : List Prop} (h : ypv Γ t x y = some (r, obl)) (ho : allP obl)
  (hx:Rep w M x μ u []) (hy:Rep w M y μ v []) :
  ∃ z,(Instr.indexAt t u v).run P w=.ok z w/\Rep w M r μ z []:=by
 unfold ypv at h;split at h
 ·rename_i j ik i ht
  obtain⟨inf,d,hinf,hd,hti,_⟩:=ym (hΓ.get ht);have ey:=hy.val_int;subst ey;split at h
  ·rename_i et hk
   rw[hk]at hti;have:=ypc hti;subst this
   cases het:tget Γ et with
   | none=>simp[het]at h
   | some k=>
    simp only[het]at h;have hso:=ytb (P:=P) (w:=w) (hΓ.get het);split at h
    ·rename_i e n f
     split at h
     ·rename_i hke
      simp only[Option.some.injEq,Prod.mk.injEq]at h;obtain⟨rfl,rfl⟩:=h;have hb:=ho.1;simp only[Rep]at hx;rcases hx with⟨h1,_,_⟩|⟨b,o,cap,us,fps,rfl,hn,hbl,hc,hM,_,hfp⟩
      ·omega
      ·have hi:i.toNat<n:=by omega
       obtain⟨c1,c2,c3⟩:=hc i.toNat hi;refine⟨.pointer (some ⟨b,o+i.toNat * e,none⟩),?_,?_⟩
       ·simp[Instr.indexAt,asIntOf,run_underlying hd,hso,hb,Addr.add_lit,hke]
       ·simp only[Rep]
        exact⟨trivial,b,_,us i.toNat,rfl,hbl,hM,by rw[hfp _ hi]at c1;exact c1,c3⟩
     ·simp at h
    ·rename_i id e off n
     split at h
     ·rename_i hke
      simp only[Option.some.injEq,Prod.mk.injEq]at h;obtain⟨rfl,rfl⟩:=h;have hb:=ho.1;simp only[Rep]at hx;obtain⟨_,hx⟩:=hx
      cases hm:μ id with
      | none=>simp[hm]at hx
      | some L=>
       cases L with
       | nil=>simp only[hm]at hx;omega
       | blk b cap=>
        simp only[hm]at hx;obtain⟨hcap,o,rfl,hoo⟩:=hx
        have hoe:o=off * e:=by
         rcases hoo with h1|h1
         ·omega
         ·exact h1
        subst hoe;refine⟨.pointer (some ⟨b,off * e+i.toNat * e,none⟩),?_,?_⟩
        ·simp[Instr.indexAt,asIntOf,run_underlying hd,hso,hb,Addr.add_lit,hke]
        ·simp only[Rep]
         exact⟨trivial,b,cap,hm,by simp[Nat.add_mul]⟩
     ·simp at h
    ·simp only[Option.some.injEq,Prod.mk.injEq]at h
     obtain⟨rfl,rfl⟩:=h;exact ho.1.elim
    ·simp at h
  ·rename_i n et hk
   rw[hk]at hti;have:=ycf hti;subst this
   cases het:tget Γ et with
   | none=>simp[het]at h
   | some k=>
    simp only[het]at h;have hso:=ytb (P:=P) (w:=w) (hΓ.get het);split at h
    ·rename_i id o
     simp only[Option.some.injEq,Prod.mk.injEq]at h;obtain⟨rfl,rfl⟩:=h;have hb:=ho.1;simp only[Rep]at hx;obtain⟨_,b,cap,hm,rfl⟩:=hx;refine⟨.pointer (some ⟨b,o+i.toNat * k.size,none⟩),?_,?_⟩
     ·simp[Instr.indexAt,asIntOf,run_underlying hd,Instr.sureAddr,hso,hb,Addr.add_lit]
     ·simp only[Rep]
      exact⟨trivial,b,cap,hm,rfl⟩
    ·rename_i cs
     simp only[Option.some.injEq,Prod.mk.injEq]at h;obtain⟨rfl,rfl⟩:=h;have hb:=ho.1;simp only[Rep]at hx;obtain⟨_,b,o,us,rfl,hbl,hM,hl,hc⟩:=hx;refine⟨.pointer (some ⟨b,o+i.toNat * k.size,none⟩),?_,?_⟩
     ·simp[Instr.indexAt,asIntOf,run_underlying hd,Instr.sureAddr,hso,hb,Addr.add_lit]
     ·simp only[Rep]
      exact⟨trivial,b,_,us.drop _,rfl,hbl,hM,yfe hl,hc.drop⟩
    ·simp at h
  ·simp at h
 ·simp at h
theorem ypx {k : IntKind} : ∀ {cs : List AV} {us : List Value}, allI k cs = true -> RepL w M cs μ us [] -> ∀ i, i < cs.length -> us[i]? = some (.int k ((yau cs).getD i 0))
 | [],us,_,_,i,hi=>by simp at hi
 | c::cs,us,h,hr,i,hi=>by
  simp only[RepL]at hr;obtain⟨u,us',f1,f2,rfl,hf,h1,h2⟩:=hr;obtain⟨rfl,rfl⟩:=List.append_eq_nil_iff.1 hf.symm
  cases c with
  | int k' n=>
   simp only[allI]at h;split at h
   ·rename_i e;subst e
    cases i with
    | zero=>have:=h1.val_int;subst this;simp[yau]
    | succ i=>simpa [yau]using ypx h h2 i (by simpa using hi)
   ·cases h
  | _=>simp[allI]at h
theorem yww : ∀ {cs : List AV} {us : List Value}, allS cs = true -> RepL w M cs μ us [] -> ∀ i, i < cs.length -> ∃ u, us[i]? = some u /\ Rep w M (.str ((y0t cs).getD i [])) μ u []
 | [],us,_,_,i,hi=>by simp at hi
 | c::cs,us,h,hr,i,hi=>by
  simp only[RepL]at hr;obtain⟨u,us',f1,f2,rfl,hf,h1,h2⟩:=hr;obtain⟨rfl,rfl⟩:=List.append_eq_nil_iff.1 hf.symm
  cases c with
  | str l=>
   simp only[allS]at h
   cases i with
   | zero=>exact⟨u,by simp,by simpa [y0t]using h1⟩
   | succ i=>simpa [y0t]using yww h h2 i (by simpa using hi)
  | _=>simp[allS]at h
theorem y6r (hΓ : TyOk P Γ) {t : TypeId} {x y r : AV} {u v : Value} {obl : List Prop} (h : y3w Γ t x y = some (r, obl)) (ho : allP obl)
  (hx:Rep w M x μ u []) (hy:Rep w M y μ v []) :
  ∃ z,(Instr.index t u v).run P w=.ok z w/\Rep w M r μ z []:=by
 unfold y3w at h;split at h
 ·rename_i j ik i ht
  obtain⟨inf,d,hinf,hd,hti,_⟩:=ym (hΓ.get ht);have ey:=hy.val_int;subst ey;split at h
  ·rename_i l hk
   rw[hk]at hti;have:=y6c hti;subst this;simp only[Option.some.injEq,Prod.mk.injEq]at h;obtain⟨rfl,rfl⟩:=h;have hb:=ho.1;have ex:=hx.val_str;subst ex;refine⟨_,?_,ysb _ _⟩;have hlt:i.toNat<l.length:=by omega
   have hs:(⟨l.toArray⟩:ByteArray)[i.toNat]? = some l[i.toNat]:=by
    rw[getElem?_pos (⟨l.toArray⟩:ByteArray) i.toNat (by simpa [ByteArray.size]using hlt)];simp[ByteArray.getElem_eq_getElem_data]
   simp only[Instr.index,asIntOf,Sem.run_bind,Sem.run_pure,Result.andThen_ok,run_underlying hd,if_pos hb.1,hs];simp[List.getElem?_eq_getElem hlt]
  ·rename_i n e cs hk
   rw[hk]at hti;have:=ycf hti;subst this;simp only[Rep]at hx;obtain⟨us,rfl,hr⟩:=hx;split at h
   ·rename_i ke hte
    obtain⟨_,d2,_,hd2,hti2,_⟩:=ym (hΓ.get hte);have hsz:=ytb (P:=P) (w:=w) (hΓ.get hte);split at h
    ·rename_i k hk2
     rw[hk2]at hti2;have:=ytr hti2;subst this;split at h
     ·rename_i hc
      simp only[Option.some.injEq,Prod.mk.injEq]at h;obtain⟨rfl,rfl⟩:=h;have hb:=ho.1;rw[hc.1]at hsz;have hu:=ypx hc.2.2 hr i.toNat (by omega);refine⟨_,?_,ysb _ _⟩;have hag:(isAgg e).run P w=.ok false w:=by rw[y3d hd2];rfl
      simp only[Instr.index,asIntOf,Sem.run_bind,Sem.run_pure,Result.andThen_ok,run_underlying hd,if_pos hb,hsz,Nat.mul_one];exact y8e hag hu
     ·cases h
    ·rename_i hk2
     rw[hk2]at hti2;have:=y6c hti2;subst this;split at h
     ·rename_i hc
      simp only[Option.some.injEq,Prod.mk.injEq]at h;obtain⟨rfl,rfl⟩:=h;have hb:=ho.1;rw[hc.1]at hsz;obtain⟨u,hu,hru⟩:=yww hc.2.2 hr i.toNat (by omega);refine⟨u,?_,hru⟩;have hag:(isAgg e).run P w=.ok false w:=by rw[y3d hd2];rfl
      simp only[Instr.index,asIntOf,Sem.run_bind,Sem.run_pure,Result.andThen_ok,run_underlying hd,if_pos hb,hsz,Nat.mul_one];exact y8e hag hu
     ·cases h
    ·cases h
   ·cases h
  ·simp at h
 ·simp at h
end
end Go.Ab
namespace Go.Ab
open Go
variable [Inv]
theorem Rep.ofNoMap {w:World} {M:Nat->Prop} {x:AV} {v:Value} {μ:Map} (h:Rep w M x yy v []):Rep w M x μ v []:=
 Rep.mono x (yli μ) ⟨Nat.le_refl _,fun _ _ h=>h,fun _ _ _=>rfl⟩ h
section
variable {P:Program} {Γ:Env} {c:Ctx} {H:Hp} {μ:Map} {FP:Nat->List Nat} {w:World}
theorem WR.inner_cold (hW:WR c H μ FP w) {id b cap:Nat} {rest:List Nat} (hm:μ id=some (.blk b cap)) (hF:FP id=b::rest) {x:Nat} (hx:x∈rest):¬ hot c.M0 H μ x:=by
 have hxF:x∈FP id:=by rw[hF];exact List.mem_cons_of_mem _ hx
 intro hh;rcases hh with h|⟨id',cap',e,hm',he,hl⟩
 ·have h1:=c.cold0 x h
  rcases(hW.new id x hxF).1 with h2|h2
  ·exact h1.2 h2
  ·omega
 ·have h1:=(hW.lt hm' he hl).1
  by_cases hid:id'=id
  ·subst hid
   rw[hm]at hm';cases hm'
   have:=hW.nodup id';rw[hF]at this;exact(List.nodup_cons.1 this).1 hx
  ·exact hW.disj id' id hid x h1 hxF
def HAg (h:List Ent) (H:Hp) (μ:Map):Prop:=∀ id e,nthE h id=some e->μ id≠none->H id=some e
theorem y0j (hΓ : TyOk P Γ) (hW : WR c H μ FP w) {h : List Ent} (hH : HAg h H μ) {t : TypeId} {x r : AV} {u : Value} {obl : List Prop} (hl : ymn Γ h t x = some (r, obl)) (ho : allP obl)
  (hx:Rep w (hot c.M0 H μ) x μ u []) :
  ∃ z,(Instr.loadAt t u).run P w=.ok z w/\Rep w (hot c.M0 H μ) r μ z []:=by
 unfold ymn at hl
 cases ht:tget Γ t with
 | none=>simp[ht]at hl
 | some j=>
  have hj:=hΓ.get ht;simp only[ht]at hl;split at hl
  ·rename_i cs
   cases hc:y9i j cs with
   | none=>simp[hc,fst2]at hl
   | some y=>
    simp only[hc,fst2,Option.some.injEq,Prod.mk.injEq]at hl;obtain⟨rfl,rfl⟩:=hl;simp only[Rep]at hx;obtain⟨_,b,o,us,rfl,hbl,hM,hr,hcl⟩:=hx;obtain⟨v,h1,h2⟩:=y9k (P:=P) hj hc hr (fun j u hu=>(hcl j u hu).1);exact⟨v,by simp[Instr.loadAt,Instr.sureAddr,h1],h2.ofNoMap⟩
  ·rename_i id o
   split at hl
   ·rename_i cs hid
    cases hc:y9i j (ysc o cs)with
    | none=>simp[hc,fst2]at hl
    | some y=>
     simp only[hc,fst2,Option.some.injEq,Prod.mk.injEq]at hl;obtain⟨rfl,rfl⟩:=hl;simp only[Rep]at hx;obtain⟨_,b,cap,hm,rfl⟩:=hx;obtain⟨e,he,hok⟩:=hW.ent id _ hm;have he2:=hH id _ hid (by simp[hm]);rw[he2]at he;cases he;obtain⟨b',cap',us,T,h1,h2,hh,hone,hr⟩:=hok;cases h1
     obtain⟨v,h3,h4⟩:=y9k (P:=P) (b:=b) (o:=o) hj hc (yfe (n:=o) hr) (fun j u hu=>by
      rw[List.getElem?_drop]at hu;rw[cell_of_row w b (o+j) us.toArray T (0,0) hh]
      simpa using hu)
     exact⟨v,by simp[Instr.loadAt,Instr.sureAddr,h3],h4⟩
   ·simp at hl
  ·rename_i id e i o
   split at hl
   ·rename_i T e' n f hid
    split at hl
    ·rename_i hee
     subst hee
     cases hc:y9i j (ysc o (y0 (f i)))with
     | none=>simp[hc,fst2]at hl
     | some y=>
      simp only[hc,fst2,Option.some.injEq,Prod.mk.injEq]at hl;obtain⟨rfl,rfl⟩:=hl;have hi:=ho.1;simp only[Rep]at hx;obtain⟨_,b,cap,hm,rfl⟩:=hx;obtain⟨e1,he,hok⟩:=hW.ent id _ hm;have he2:=hH id _ hid (by simp[hm]);rw[he2]at he;cases he;obtain⟨cur,us,fps,hh,h1,h2,h3,hcl,hF⟩:=hok;obtain⟨c1,c2,c3⟩:=hcl i hi;have hr:=yqb (f i) (fun x hx=>hW.inner_cold hm hF (List.mem_flatMap.2 ⟨i,List.mem_range.2 hi,hx⟩)) c1;obtain⟨v,h4,h5⟩:=y9k (P:=P) (b:=b) (o:=i * e+o) hj hc (yfe (n:=o) hr) (fun j u hu=>(c3.drop (n:=o) j u hu).1);exact⟨v,by simp[Instr.loadAt,Instr.sureAddr,h4],h5⟩
    ·simp at hl
   ·simp at hl
  ·simp at hl
end
end Go.Ab
namespace Go.Ab
open Go
variable [Inv]
def loN : Option AV -> Option Int
 | none=>some 0
 | some (.int _ n)=>some n
 | _=>none
def hiN (len : Nat) : Option AV -> Option Int
 | none=>some len
 | some (.int _ n)=>some n
 | _=>none
def y8x (Γ:Env) (t:TypeId) (x:AV) (lo hi:Option AV):Option (AV×List Prop):=
  match tget Γ t,loN lo with
  | some j, some l => match j.ti, x with
    | .string, .str s => match hiN s.length hi with
      | some h=>some (.str ((s.take h.toNat).drop l.toNat),[0<=l/\l<=h/\h<=(s.length:Int)])
      | none=>none
    | .slice et, .sl none e n f => match tget Γ et, hiN n hi with
      | some k,some h=>if k.size=e then some (.sl none e (h.toNat-l.toNat) (fun i=>f (l.toNat+i)),[0<=l/\l<=h/\h<=(n:Int)])else none
      | _,_=>none
    | .slice et, .ref id e off n => match tget Γ et, hiN n hi with
      | some k,some h=>if k.size=e then some (.ref id e (off+l.toNat) (h.toNat-l.toNat),[0<=l/\l<=h/\h<=(n:Int)])else none
      | _,_=>none
    | .slice et, .nils => match tget Γ et, hiN 0 hi with
      | some _,some h=>some (.nils,[l=0/\h=0])
      | _,_=>none
    | _,_=>none
  | _,_=>none
def yj6 (Γ:Env) (s d:TypeId) (x:AV):Option (AV×List Prop):=
  match tget Γ s,tget Γ d with
  | some _, some j => match j.ti, x with
    | .int k,.int _ n=>some (.int k (k.wrap n),[])
    | .string,.str l=>some (.str l,[])
    | _,_=>none
  | _,_=>none
def yzk (x:AV) (i:Nat):Option (AV×List Prop):=
 match x with
 | .tup vs=>fst2 (nth vs i) []
 | _=>none
def y5x (Γ:Env) (t:TypeId) (x:AV) (i:Nat):Option (AV×List Prop):=
  match tget Γ t with
  | some j => match j.ti, x with
    | .struct fs _, .agg cs => match nthF fs i with
      | some (off, ft) => match tget Γ ft with
        | some k=>fst2 (y9i k (ysc off cs)) []
        | none=>none
      | none=>none
    | _,_=>none
  | none=>none
def lenA (Γ:Env) (t:TypeId) (x:AV):Option (AV×List Prop):=
  match tget Γ t with
  | some j => match j.ti, x with
    | .string,.str l=>some (.int .i64 l.length,[])
    | .slice _,.sl none _ n _=>some (.int .i64 n,[])
    | .slice _,.ref _ _ _ n=>some (.int .i64 n,[])
    | .slice _,.nils=>some (.int .i64 0,[])
    | .array n _,_=>some (.int .i64 n,[])
    | _,_=>none
  | none=>none
def minA : AV -> List AV -> Option AV
 | x,[]=>some x
 | .int k a,.int _ b::r=>minA (.int k (if b<a then b else a)) r
 | _,_=>none
def maxA : AV -> List AV -> Option AV
 | x,[]=>some x
 | .int k a,.int _ b::r=>maxA (.int k (if a<b then b else a)) r
 | _,_=>none
section
variable {P:Program} {Γ:Env} {w:World} {M:Nat->Prop} {μ:Map}
theorem yjo (l:List UInt8) (a b:Nat):(⟨l.toArray⟩:ByteArray).extract a b=⟨((l.take b).drop a).toArray⟩:=by
 apply ByteArray.ext;simp only[ByteArray.data_extract];apply Array.ext';simp only[Array.toList_extract,List.extract_eq_take_drop,List.drop_take]
theorem ygv (hΓ:TyOk P Γ) {s d:TypeId} {x r:AV} {u:Value} {obl:List Prop} (h:yj6 Γ s d x=some (r,obl)) (hx:Rep w M x μ u []) :
  ∃ z,(convert s d u).run P w=.ok z w/\Rep w M r μ z []:=by
 unfold yj6 at h;split at h
 ·rename_i i j hs hd
  obtain⟨inf1,d1,hinf1,hd1,_⟩:=ym (hΓ.get hs);obtain⟨inf2,d2,hinf2,hd2,hti,_⟩:=ym (hΓ.get hd);split at h
  ·rename_i k k' n hk
   rw[hk]at hti;have:=ytr hti;subst this;simp only[Option.some.injEq,Prod.mk.injEq]at h;obtain⟨rfl,rfl⟩:=h;have e1:=hx.val_int;subst e1;exact⟨_,by simp[convert,run_underlying hd1,run_underlying hd2,Conv.intToInt],ysb _ _⟩
  ·rename_i l hk
   rw[hk]at hti;have:=y6c hti;subst this;simp only[Option.some.injEq,Prod.mk.injEq]at h;obtain⟨rfl,rfl⟩:=h;have e2:=hx.len_str;have e1:=hx.val_str;subst e1;refine⟨_,?_,y1b _ e2⟩;cases d1<;>simp[convert,run_underlying hd1,run_underlying hd2]
  ·simp at h
 ·simp at h
theorem yak {xs:List AV} {us:List Value} {n:Nat} {x:AV} (h:nth xs n=some x) (hr:RepL w M xs μ us []):∃ u,us.toArray[n]? = some u/\Rep w M x μ u []:=by
 obtain⟨u,h1,h2⟩:=y1i h hr;exact⟨u,by simpa using h1,h2⟩
theorem ysm {x r:AV} {i:Nat} {u:Value} {obl:List Prop} (h:yzk x i=some (r,obl)) (hx:Rep w M x μ u []) :
  ∃ z,(Instr.extract u i).run P w=.ok z w/\Rep w M r μ z []:=by
 unfold yzk at h;split at h
 ·rename_i vs
  cases hn:nth vs i with
  | none=>simp[hn,fst2]at h
  | some y=>
   simp only[hn,fst2,Option.some.injEq,Prod.mk.injEq]at h;obtain⟨rfl,rfl⟩:=h;simp only[Rep]at hx;obtain⟨us,rfl,hr⟩:=hx;obtain⟨z,h1,h2⟩:=yak hn hr;exact⟨z,by simp[Instr.extract]at h1 ⊢;simp[h1],h2⟩
 ·simp at h
theorem ynz (hΓ:TyOk P Γ) {t ty:TypeId} {x r:AV} {u:Value} {obl:List Prop} (h:lenA Γ t x=some (r,obl)) (hx:Rep w M x μ u []) :
  ∃ z,(Builtin.len_ #[t] ty #[u]).run P w=.ok z w/\Rep w M r μ z []:=by
 unfold lenA at h
 cases ht:tget Γ t with
 | none=>simp[ht]at h
 | some j=>
  obtain⟨inf,d,hinf,hd,hti,_⟩:=ym (hΓ.get ht);simp only[ht]at h;split at h
  ·rename_i l hk
   rw[hk]at hti;have:=y6c hti;subst this;simp only[Option.some.injEq,Prod.mk.injEq]at h;obtain⟨rfl,rfl⟩:=h;have e1:=hx.val_str;subst e1;exact⟨_,by simp[Builtin.len_,run_underlying hd,goInt,show(⟨l.toArray⟩:ByteArray).size=l.length from rfl],ysb _ _⟩
  ·rename_i et e n f hk
   rw[hk]at hti;have:=ypc hti;subst this;simp only[Option.some.injEq,Prod.mk.injEq]at h;obtain⟨rfl,rfl⟩:=h;refine⟨.int .i64 n,?_,ysb _ _⟩;simp only[Rep]at hx;rcases hx with⟨rfl,rfl|⟨_,_,rfl⟩,_⟩|⟨b,o,cap,us,fps,rfl,_⟩
   ·simp[Builtin.len_,run_underlying hd,goInt]
   ·simp[Builtin.len_,run_underlying hd,goInt]
   ·simp[Builtin.len_,run_underlying hd,goInt]
  ·rename_i et id e off n hk
   rw[hk]at hti;have:=ypc hti;subst this;simp only[Option.some.injEq,Prod.mk.injEq]at h;obtain⟨rfl,rfl⟩:=h;refine⟨.int .i64 n,?_,ysb _ _⟩;simp only[Rep]at hx;obtain⟨_,hx⟩:=hx
   cases hm:μ id with
   | none=>simp[hm]at hx
   | some L=>
    cases L with
    | nil=>
     simp only[hm]at hx;obtain⟨_,rfl,rfl⟩:=hx;simp[Builtin.len_,run_underlying hd,goInt]
    | blk b cap=>
     simp only[hm]at hx;obtain⟨_,o,rfl,_⟩:=hx;simp[Builtin.len_,run_underlying hd,goInt]
  ·rename_i et hk
   rw[hk]at hti;have:=ypc hti;subst this;simp only[Option.some.injEq,Prod.mk.injEq]at h;obtain⟨rfl,rfl⟩:=h;simp only[Rep]at hx;obtain⟨rfl,_⟩:=hx;exact⟨_,by simp[Builtin.len_,run_underlying hd,goInt],ysb _ _⟩
  ·rename_i n et hk
   rw[hk]at hti;have:=ycf hti;subst this;simp only[Option.some.injEq,Prod.mk.injEq]at h;obtain⟨rfl,rfl⟩:=h;exact⟨_,by simp[Builtin.len_,run_underlying hd,goInt],ysb _ _⟩
  ·simp at h
theorem y8m:∀ {xs:List AV} {x r:AV} {u:Value} {us:List Value},minA x xs=some r->Rep w M x μ u []->RepL w M xs μ us [] ->
  ∃ z,(us.foldlM Builtin.min2 u).run P w=.ok z w/\Rep w M r μ z []
 | [],x,r,u,us,h,hx,hs=>by
  simp only[minA,Option.some.injEq]at h;subst h;simp only[RepL]at hs;obtain⟨rfl,_⟩:=hs;exact⟨u,by simp,hx⟩
 | y::xs,x,r,u,us,h,hx,hs=>by
  simp only[RepL]at hs;obtain⟨v,us',f1,f2,rfl,hfp,h1,h2⟩:=hs;obtain⟨rfl,rfl⟩:=List.append_eq_nil_iff.1 hfp.symm;unfold minA at h;split at h
  ·rename_i heq;cases heq
  ·rename_i k a k' b rr heq
   cases heq
   have e1:=hx.val_int;have e2:=h1.val_int;subst e1;subst e2;obtain⟨z,h3,h4⟩:=y8m h (ysb k _) h2;refine⟨z,?_,h4⟩;rw[List.foldlM_cons,Sem.run_bind];simp only[Builtin.min2,Sem.run_pure,Result.andThen_ok];exact h3
  ·simp at h
theorem y0n:∀ {xs:List AV} {x r:AV} {u:Value} {us:List Value},maxA x xs=some r->Rep w M x μ u []->RepL w M xs μ us [] ->
  ∃ z,(us.foldlM Builtin.max2 u).run P w=.ok z w/\Rep w M r μ z []
 | [],x,r,u,us,h,hx,hs=>by
  simp only[maxA,Option.some.injEq]at h;subst h;simp only[RepL]at hs;obtain⟨rfl,_⟩:=hs;exact⟨u,by simp,hx⟩
 | y::xs,x,r,u,us,h,hx,hs=>by
  simp only[RepL]at hs;obtain⟨v,us',f1,f2,rfl,hfp,h1,h2⟩:=hs;obtain⟨rfl,rfl⟩:=List.append_eq_nil_iff.1 hfp.symm;unfold maxA at h;split at h
  ·rename_i heq;cases heq
  ·rename_i k a k' b rr heq
   cases heq
   have e1:=hx.val_int;have e2:=h1.val_int;subst e1;subst e2;obtain⟨z,h3,h4⟩:=y0n h (ysb k _) h2;refine⟨z,?_,h4⟩;rw[List.foldlM_cons,Sem.run_bind];simp only[Builtin.max2,Sem.run_pure,Result.andThen_ok,gt_iff_lt];exact h3
  ·simp at h
theorem y55 {t : TypeId} {i : TInfo} {cs : List AV} {us : List Value} {x : AV} {o : Nat}
  (hi:ygf P t=some i) (hl:y9i i (ysc o cs)=some x) (hr:RepL w M cs μ us []) :
  ∃ v,(part t us.toArray o).run P w=.ok v w/\Rep w M x μ v []:=by
 have hr:=yfe (n:=o) hr;obtain⟨inf,d,hinf,hd,hti,hsz,_,_,_⟩:=ym hi;have hag:=y3d (P:=P) hd w
 have hone:∀ y ys,ysc o cs=y::ys->yof d=false->∃ v,(part t us.toArray o).run P w=.ok v w/\Rep w M y μ v []:=by
  intro y ys hcs hf;rw[hcs]at hr;simp only[RepL]at hr;obtain⟨u,us',f1,f2,hdr,hfp,h1,h2⟩:=hr;have hf1:f1=[]:=(List.append_eq_nil_iff.1 hfp.symm).1;subst hf1;refine⟨u,y8e (by rw[hag,hf]) ?_,h1⟩;have:=congrArg (·[0]?) hdr;simpa using this
 have hmany:∀ ys,y3g i.size (ysc o cs)=some ys->yof d=true->∃ v,(part t us.toArray o).run P w=.ok v w/\Rep w M (.agg ys) μ v []:=by
  intro ys hy hf;obtain⟨us1,us2,f1,f2,hdr,hlen,hfp,h3⟩:=y9l hy hr;have hf1:f1=[]:=(List.append_eq_nil_iff.1 hfp.symm).1;subst hf1;refine⟨.agg us1.toArray,?_,by simp only[Rep];exact⟨us1,rfl,h3⟩⟩;unfold part;rw[Sem.run_bind,hag,hf];simp only[Result.andThen_ok,if_true,Sem.run_bind,sizeOf,typeInfo,run_program,hinf,Sem.run_pure,hsz, <- hlen];congr 2
  apply Array.ext';simp only[Array.toList_extract,List.extract_eq_take_drop,Nat.add_sub_cancel_left];rw[show(us.toArray.toList.drop o)=us1++us2 from by simpa using hdr];simp
 unfold y9i at hl
 cases ht:i.ti with
 | struct fs cmp=>
  rw[ht]at hl hti;simp only at hl;obtain⟨fs',rfl,_⟩:=yue hti
  cases hy:y3g i.size (ysc o cs)with
  | none=>simp[hy]at hl
  | some ys=>simp only[hy,Option.some.injEq]at hl;subst hl;exact hmany ys hy rfl
 | array n e=>
  rw[ht]at hl hti;simp only at hl;have:=ycf hti;subst this
  cases hy:y3g i.size (ysc o cs)with
  | none=>simp[hy]at hl
  | some ys=>simp only[hy,Option.some.injEq]at hl;subst hl;exact hmany ys hy rfl
 | _=>
  rw[ht]at hl hti;simp only at hl
  cases hcs:ysc o cs with
  | nil=>simp[hcs]at hl
  | cons y ys=>
   simp only[hcs,Option.some.injEq]at hl;subst hl;refine hone y ys hcs ?_;cases d<;>simp[tiOf,yof]at hti ⊢
theorem yfr (hΓ:TyOk P Γ) {t:TypeId} {x r:AV} {i:Nat} {u:Value} {obl:List Prop} (h:y5x Γ t x i=some (r,obl)) (hx:Rep w M x μ u []) :
  ∃ z,(Instr.field t u i).run P w=.ok z w/\Rep w M r μ z []:=by
 unfold y5x at h
 cases ht:tget Γ t with
 | none=>simp[ht]at h
 | some j=>
  obtain⟨inf,d,hinf,hd,hti,_⟩:=ym (hΓ.get ht);simp only[ht]at h;split at h
  ·rename_i fs cmp cs hk
   rw[hk]at hti;obtain⟨fs',rfl,rfl,_⟩:=yue hti;rw[ynk]at h
   cases hf:(fs'.toList.map fun f=>(f.offset,f.type))[i]? with
   | none=>simp[hf]at h
   | some p=>
    obtain⟨off,ft⟩:=p;simp only[hf]at h
    cases hft:tget Γ ft with
    | none=>simp[hft]at h
    | some k=>
     simp only[hft]at h
     cases hl:y9i k (ysc off cs)with
     | none=>simp[hl,fst2]at h
     | some y=>
      simp only[hl,fst2,Option.some.injEq,Prod.mk.injEq]at h;obtain⟨rfl,rfl⟩:=h;simp only[List.getElem?_map,Option.map_eq_some_iff,Prod.mk.injEq]at hf;obtain⟨f,hf1,hf2,hf3⟩:=hf;have hf1':fs'[i]? = some f:=by simpa using hf1
      simp only[Rep]at hx;obtain⟨us,rfl,hr⟩:=hx;obtain⟨v,h1,h2⟩:=y55 (P:=P) (hΓ.get hft) hl hr;refine⟨v,?_,h2⟩;simp[Instr.field,run_underlying hd,hf1',asAgg,hf2,hf3,h1]
  ·simp at h
end
end Go.Ab
namespace Go.Ab
open Go
variable [Inv]
section
variable {P:Program} {Γ:Env} {w:World} {M:Nat->Prop} {μ:Map}
theorem y0b {isSlice : Bool} {len cap : Nat} {lo hi : Option AV} {vlo vhi : Option Value} {l h : Int}
  (hl:loN lo=some l) (hh:hiN len hi=some h) (hb:0<=l/\l<=h/\h<=(len:Int)) (hc:len<=cap)
  (hlo:∀ a,lo=some a->∃ v,vlo=some v/\Rep w M a μ v []) (hlo0:lo=none->vlo=none)
  (hhi:∀ a,hi=some a->∃ v,vhi=some v/\Rep w M a μ v []) (hhi0:hi=none->vhi=none) :
  (Instr.sliceBounds isSlice len cap vlo vhi none).run P w=.ok (l.toNat,h.toNat,cap) w:=by
 have bound:∀ (k:IntKind) (n:Int) (y:Nat) (code:BoundsCode),0<=n/\n<=(y:Int)->(Instr.sliceBound (.int k n) y code).run P w=.ok n.toNat w:=by
  intro k n y code hn;simp[Instr.sliceBound,asIntOf,hn]
 have hv:(vhi=none/\h=(len:Int))\/∃ k,vhi=some (.int k h):=by
  cases hi with
  | none=>simp only[hiN,Option.some.injEq]at hh;exact .inl ⟨hhi0 rfl,hh.symm⟩
  | some a=>
   obtain⟨v,e,hv⟩:=hhi a rfl;cases a<;>simp only[hiN,Option.some.injEq,reduceCtorEq]at hh
   rename_i k n
   subst hh;exact .inr ⟨k,by rw[e,hv.val_int]⟩
 have hw:(vlo=none/\l=0)\/∃ k,vlo=some (.int k l):=by
  cases lo with
  | none=>simp only[loN,Option.some.injEq]at hl;exact .inl ⟨hlo0 rfl,hl.symm⟩
  | some a=>
   obtain⟨v,e,hv⟩:=hlo a rfl;cases a<;>simp only[loN,Option.some.injEq,reduceCtorEq]at hl
   rename_i k n
   subst hl;exact .inr ⟨k,by rw[e,hv.val_int]⟩
 clear hlo hlo0 hhi hhi0 hl hh;unfold Instr.sliceBounds;rcases hv with⟨rfl,rfl⟩|⟨k,rfl⟩<;>rcases hw with⟨rfl,rfl⟩|⟨k',rfl⟩
 ·simp
 ·simp[bound k' l len _ (by omega)]
 ·simp[bound k h cap _ (by omega)]
 ·simp[bound k h cap _ (by omega),bound k' l h.toNat _ (by omega)]
theorem y3s (hΓ : TyOk P Γ) {t : TypeId} {x r : AV} {lo hi : Option AV} {u : Value} {vlo vhi : Option Value} {obl : List Prop} (h : y8x Γ t x lo hi = some (r, obl)) (ho : allP obl)
  (hx:Rep w M x μ u [])
  (hlo:∀ a,lo=some a->∃ v,vlo=some v/\Rep w M a μ v []) (hlo0:lo=none->vlo=none)
  (hhi:∀ a,hi=some a->∃ v,vhi=some v/\Rep w M a μ v []) (hhi0:hi=none->vhi=none) :
  ∃ z,(Instr.sliceAt t u vlo vhi none).run P w=.ok z w/\Rep w M r μ z []:=by
 unfold y8x at h;split at h
 ·rename_i j l ht hl
  obtain⟨inf,d,hinf,hd,hti,_⟩:=ym (hΓ.get ht);split at h
  ·rename_i s hk
   rw[hk]at hti;have:=y6c hti;subst this;split at h
   ·rename_i hh hhh
    simp only[Option.some.injEq,Prod.mk.injEq]at h;obtain⟨rfl,rfl⟩:=h;have hb:=ho.1;have e3:=hx.len_str;have e1:=hx.val_str;subst e1;have hs:(⟨s.toArray⟩:ByteArray).size=s.length:=rfl;have hsb:=y0b (P:=P) (isSlice:=false) (cap:=s.length) hl hhh hb (Nat.le_refl _) hlo hlo0 hhi hhi0;refine⟨_,?_,y1b _ (by simp only[List.length_drop,List.length_take];omega)⟩;simp only[Instr.sliceAt,Instr.slice,Sem.run_bind,run_underlying hd,Result.andThen_ok,hs,Option.isSome_none,Bool.false_eq_true,if_false,Sem.run_pure,hsb,yjo]
   ·simp at h
  ·rename_i et e n f hk
   rw[hk]at hti;have:=ypc hti;subst this;split at h
   ·rename_i k hh het hhh
    split at h
    ·rename_i hke
     simp only[Option.some.injEq,Prod.mk.injEq]at h;obtain⟨rfl,rfl⟩:=h;have hb:=ho.1;have hso:=ytb (P:=P) (w:=w) (hΓ.get het);simp only[Rep]at hx
     have hemp:∀ oa cap,(oa=none->cap=0)->n=0->u=.slice oa 0 cap->∃ z,(Instr.sliceAt t u vlo vhi none).run P w=.ok z w/\Rep w M (.sl none e (hh.toNat-l.toNat) fun i=>f (l.toNat+i)) μ z []:=by
      rintro oa cap hoa rfl rfl
      have hsb:=y0b (P:=P) (isSlice:=true) (cap:=cap) hl hhh hb (Nat.zero_le _) hlo hlo0 hhi hhi0;have e1:l.toNat=0:=by omega
      have e2:hh.toNat=0:=by omega
      rw[e1,e2]at hsb
      cases oa with
      | none=>
       obtain rfl:=hoa rfl;refine⟨.slice none 0 0,by simp[Instr.sliceAt,Instr.slice,run_underlying hd,hsb,hso],?_⟩;simp only[Rep];exact .inl ⟨by omega,.inl rfl,trivial⟩
      | some a=>
       refine⟨.slice (some (if cap=0 then a else a.add 0)) 0 cap,?_,?_⟩
       ·simp[Instr.sliceAt,Instr.slice,run_underlying hd,hsb,hso]
        split<;>rfl
       ·simp only[Rep]
        exact .inl ⟨by omega,.inr ⟨_,_,rfl⟩,trivial⟩
     rcases hx with⟨hn0,hv|⟨a,cap,hv⟩,_⟩|⟨b,o,cap,us,fps,rfl,hn,hbl,hc,hM,_,hfp⟩
     ·exact hemp none 0 (fun _=>rfl) hn0 hv
     ·exact hemp (some a) cap (by simp) hn0 hv
     ·have hsb:=y0b (P:=P) (isSlice:=true) (cap:=cap) hl hhh hb hn.1 hlo hlo0 hhi hhi0
      refine⟨.slice (some (if cap=l.toNat then⟨b,o,none⟩else(⟨b,o,none⟩:Addr).add (l.toNat * k.size))) (hh.toNat-l.toNat) (cap-l.toNat),?_,?_⟩
      ·simp only[Instr.sliceAt,Instr.slice,Sem.run_bind,run_underlying hd,Result.andThen_ok,hsb,hso,Sem.run_pure]
       split<;>simp_all
      ·simp only[Rep]
       by_cases hcl:cap=l.toNat
       ·refine .inr ⟨b,o,cap-l.toNat,fun _=>[],fun _=>[],by rw[if_pos hcl],by omega,hbl,?_,hM,trivial,by simp⟩
        intro i hi;omega
       ·refine .inr ⟨b,o+l.toNat * k.size,cap-l.toNat,fun i=>us (l.toNat+i),fun _=>[],by rw[if_neg hcl,Addr.add_lit],by omega,hbl,?_,hM,trivial,by simp⟩
        intro i hi;have hi':l.toNat+i<n:=by omega
        obtain⟨c1,c2,c3⟩:=hc (l.toNat+i) hi';rw[hfp _ hi']at c1;refine⟨c1,c2,?_⟩;have:o+l.toNat * k.size+i * e=o+(l.toNat+i) * e:=by rw[hke,Nat.add_mul];omega
        rw[this];exact c3
    ·simp at h
   ·simp at h
  ·rename_i et id e off n hk
   rw[hk]at hti;have:=ypc hti;subst this;split at h
   ·rename_i k hh het hhh
    split at h
    ·rename_i hke
     simp only[Option.some.injEq,Prod.mk.injEq]at h;obtain⟨rfl,rfl⟩:=h;have hb:=ho.1;have hso:=ytb (P:=P) (w:=w) (hΓ.get het);simp only[Rep]at hx;obtain⟨_,hx⟩:=hx
     cases hm:μ id with
     | none=>simp[hm]at hx
     | some L=>
      cases L with
      | nil=>
       simp only[hm]at hx;obtain⟨rfl,rfl,rfl⟩:=hx;have hsb:=y0b (P:=P) (isSlice:=true) (cap:=0) hl hhh hb (Nat.le_refl _) hlo hlo0 hhi hhi0;have e1:l.toNat=0:=by omega
       have e2:hh.toNat=0:=by omega
       rw[e1,e2]at hsb;refine⟨.slice none 0 0,?_,?_⟩
       ·simp[Instr.sliceAt,Instr.slice,run_underlying hd,hsb,hso]
       ·simp only[Rep,hm]
        exact⟨trivial,by omega,by omega,trivial⟩
      | blk b cap=>
       simp only[hm]at hx;obtain⟨hcap,o,rfl,hoo⟩:=hx;have hsb:=y0b (P:=P) (isSlice:=true) (cap:=cap-off) hl hhh hb (by omega) hlo hlo0 hhi hhi0;refine⟨.slice (some (if cap-off=l.toNat then⟨b,o,none⟩else(⟨b,o,none⟩:Addr).add (l.toNat * k.size))) (hh.toNat-l.toNat) (cap-off-l.toNat),?_,?_⟩
       ·simp only[Instr.sliceAt,Instr.slice,Sem.run_bind,run_underlying hd,Result.andThen_ok,hsb,hso,Sem.run_pure]
        split<;>simp_all
       ·simp only[Rep,hm]
        refine⟨trivial,by omega,?_⟩;by_cases hcl:cap-off=l.toNat
        ·by_cases h0:off+l.toNat=0
         ·refine⟨o,by rw[if_pos hcl];congr 1;omega,.inr ?_⟩
          rcases hoo with h1|h1
          ·omega
          ·rw[h1,h0,show off=0 by omega]
         ·exact⟨o,by rw[if_pos hcl];congr 1;omega,.inl ⟨h0,by omega⟩⟩
        ·refine⟨o+l.toNat * k.size,by rw[if_neg hcl,Addr.add_lit];congr 1;omega,.inr ?_⟩
         rcases hoo with h1|h1
         ·omega
         ·rw[h1,hke,Nat.add_mul]
    ·simp at h
   ·simp at h
  ·rename_i et hk
   rw[hk]at hti;have:=ypc hti;subst this;split at h
   ·rename_i k hh het hhh
    simp only[Option.some.injEq,Prod.mk.injEq]at h;obtain⟨rfl,rfl⟩:=h;obtain⟨rfl,rfl⟩:=ho.1;have hso:=ytb (P:=P) (w:=w) (hΓ.get het);simp only[Rep]at hx;obtain⟨rfl,_⟩:=hx;have hsb:=y0b (P:=P) (isSlice:=true) (cap:=0) (len:=0) hl hhh (by simp) (Nat.le_refl _) hlo hlo0 hhi hhi0;exact⟨.slice none 0 0,by simp only[Int.toNat_zero]at hsb;simp[Instr.sliceAt,Instr.slice,run_underlying hd,hsb,hso],by simp[Rep]⟩
   ·simp at h
  ·simp at h
 ·simp at h
end
end Go.Ab
