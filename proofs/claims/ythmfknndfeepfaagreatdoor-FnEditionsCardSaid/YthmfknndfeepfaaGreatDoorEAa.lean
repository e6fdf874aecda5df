/- Walks and lemmas. No conditions. -/
import Derived.WalkKit
import Derived.Lib.ConvBytes
set_option linter.unusedSectionVars false
set_option linter.unusedVariables false
set_option linter.unusedSimpArgs false
namespace Go.Ab
open Go
inductive AV where
 | int (k:IntKind) (n:Int)
 | bool (b:Bool)
 | str (l:List UInt8)
 | nils
 | agg (cs:List AV)
 | tup (vs:List AV)
 | sl (own:Option TypeId) (e n:Nat) (f:Nat->List AV)
 | ref (id e off n:Nat)
 | ptr (id off:Nat)
 | pe (id e i off:Nat)
 | ep (cs:List AV)
 | op (cs:List AV)
 | fn (f:FuncId) (k:Nat) (cs:List AV)
 | gd (gs:List Bool) (x:AV)
 | any
 | lit (u:Value) (x:AV)
deriving Inhabited
inductive Loc where
 | nil
 | blk (b cap:Nat)
abbrev Map:=Nat->Option Loc
def yw:Map:=fun _=>none
def y7e : Option TypeId -> Value -> Prop
 | none,v=>v=.slice none 0 0\/∃ a cap,v=.slice (some a) 0 cap
 | some _,v=>v=.slice none 0 0
theorem y7e.bor {own:Option TypeId} {v:Value} (h:y7e own v):y7e none v:=by
 cases own with
 | none=>exact h
 | some T=>exact .inl h
theorem y7e.nil (own:Option TypeId):y7e own (.slice none 0 0):=by
 cases own with
 | none=>exact .inl rfl
 | some T=>rfl
def yyd (w:World) (b o:Nat) (us:List Value):Prop:=
 ∀ j u,us[j]? = some u->w.cell? ⟨b,o+j,none⟩=some u/\u.oneCell'=true
mutual
def Rep (w : World) (M : Nat -> Prop) : AV -> Map -> Value -> List Nat -> Prop
  | .int k n,_,v,fp=>v=.int k n/\fp=[]
  | .bool b,_,v,fp=>v=.bool b/\fp=[]
  | .str l,_,v,fp=>(v=.string ⟨l.toArray⟩/\l.length<=maxLen)/\fp=[]
  | .nils,_,v,fp=>v=.slice none 0 0/\fp=[]
  | .agg cs,μ,v,fp=>∃ us,v=.agg us.toArray/\RepL w M cs μ us fp
  | .tup cs,μ,v,fp=>∃ us,v=.tuple us.toArray/\RepL w M cs μ us fp
  | .sl own e n f,_,v,fp=>
    (n=0/\y7e own v/\fp=[]) \/
    ∃ b o cap,∃ us:Nat->List Value,∃ fps:Nat->List Nat,v=.slice (some ⟨b,o,none⟩) n cap/\(n<=cap/\n<=maxLen)/\b<w.heap.size /\
      (∀ i,i<n->RepL w M (f i) yw (us i) (fps i)/\(us i).length=e/\yyd w b (o+i * e) (us i)) /\
      (match own with
       | none=>¬ M b/\fp=[]/\∀ i,i<n->fps i=[]
       | some T=>o=0/\fp=b::(List.range n).flatMap fps/\∃ cur,w.heap[b]? = some (.cells cur T (0,0))/\cur.size=cap * e/\cap<=maxLen)
  | .ref id e off n,μ,v,fp=>fp=[] /\
    match μ id with
    | none=>False
    | some .nil=>off=0/\n=0/\v=.slice none 0 0
    | some (.blk b cap)=>off+n<=cap/\∃ o,v=.slice (some ⟨b,o,none⟩) n (cap-off)/\((off≠0/\off=cap)\/o=off * e)
  | .ptr id off,μ,v,fp=>fp=[]/\∃ b cap,μ id=some (.blk b cap)/\v=.pointer (some ⟨b,off,none⟩)
  | .pe id e i off,μ,v,fp=>fp=[]/\∃ b cap,μ id=some (.blk b cap)/\v=.pointer (some ⟨b,i * e+off,none⟩)
  | .ep cs,_,v,fp=>fp=[]/\∃ b o us,v=.pointer (some ⟨b,o,none⟩)/\b<w.heap.size/\¬ M b/\RepL w M cs yw us []/\yyd w b o us
  | .op cs,_,v,fp=>∃ b us T,v=.pointer (some ⟨b,0,none⟩)/\fp=[b]/\b<w.heap.size/\w.heap[b]? = some (.cells us.toArray T (0,0))/\(∀ u∈us,u.oneCell'=true)/\RepL w M cs yw us []
  | .fn f k cs,μ,v,fp=>fp=[]/\∃ us,v=.func (.func f) (us.take k).toArray (us.drop k).toArray/\RepL w M cs μ us []
  | .gd gs x,μ,v,fp=>fp=[]/\((∀ g∈gs,g=true)->Rep w M x μ v [])/\((¬ ∀ g∈gs,g=true)->v=undef)
  | .any,_,_,fp=>fp=[]
  | .lit u x,_,v,fp=>fp=[]/\v=u/\Rep w M x yw v []
def RepL (w : World) (M : Nat -> Prop) : List AV -> Map -> List Value -> List Nat -> Prop
  | [],_,us,fp=>us=[]/\fp=[]
  | x::xs,μ,us,fp=>∃ u us' f1 f2,us=u::us'/\fp=f1++f2/\Rep w M x μ u f1/\RepL w M xs μ us' f2
end
theorem World.cell_congr {w w':World} {b o:Nat} (h:w'.heap[b]? = w.heap[b]?):w'.cell? ⟨b,o,none⟩=w.cell? ⟨b,o,none⟩:=
 World.cell?_of_block (a:=⟨b,o,none⟩) h
theorem yyd.congr {w w':World} {b o:Nat} {us:List Value} (h:yyd w b o us) (hb:w'.heap[b]? = w.heap[b]?):yyd w' b o us:=
 fun j u hu=>⟨(World.cell_congr hb).trans (h j u hu).1,(h j u hu).2⟩
def Map.le (μ μ':Map):Prop:=∀ id L,μ id=some L->μ' id=some L
theorem yhi (μ:Map):yw.le μ:=fun _ _ h=>by simp[yw]at h
theorem Map.le_refl (μ:Map):μ.le μ:=fun _ _ h=>h
theorem Map.le.trans {a b c:Map} (h:a.le b) (k:b.le c):a.le c:=fun id L e=>k id L (h id L e)
structure Same (w:World) (M:Nat->Prop) (w':World) (M':Nat->Prop) (fp:List Nat):Prop where
 size:w.heap.size<=w'.heap.size
 cold:∀ b,b<w.heap.size->¬ M b->¬ M' b
 heap:∀ b,b<w.heap.size->(¬ M b\/b∈fp)->w'.heap[b]? = w.heap[b]?
theorem Same.sub {w w':World} {M M':Nat->Prop} {fp fq:List Nat} (h:Same w M w' M' fp) (hq:∀ b,b∈fq->b∈fp):Same w M w' M' fq:=
 ⟨h.size,h.cold,fun b hb hh=>h.heap b hb (hh.imp id (hq b))⟩
mutual
theorem Rep.mono {w w' : World} {M M' : Nat -> Prop} : ∀ (x : AV) {μ μ' : Map} {v : Value} {fp : List Nat}, μ.le μ' -> Same w M w' M' fp -> Rep w M x μ v fp -> Rep w' M' x μ' v fp
 | .int _ _,_,_,_,_,_,_,h=>by simpa only[Rep]using h
 | .bool _,_,_,_,_,_,_,h=>by simpa only[Rep]using h
 | .str _,_,_,_,_,_,_,h=>by simpa only[Rep]using h
 | .nils,_,_,_,_,_,_,h=>by simpa only[Rep]using h
 | .any,_,_,_,_,_,_,h=>by simpa only[Rep]using h
 | .lit u x,_,_,_,_,_,hs,h=>by
  simp only[Rep]at h ⊢;obtain⟨rfl,e,h⟩:=h;exact⟨rfl,e,Rep.mono x (Map.le_refl _) hs h⟩
 | .agg cs,μ,μ',v,fp,hμ,hs,h=>by
  simp only[Rep]at h ⊢;obtain⟨us,e,h⟩:=h;exact⟨us,e,RepL.mono cs hμ hs h⟩
 | .tup cs,μ,μ',v,fp,hμ,hs,h=>by
  simp only[Rep]at h ⊢;obtain⟨us,e,h⟩:=h;exact⟨us,e,RepL.mono cs hμ hs h⟩
 | .ref id e off n,μ,μ',v,fp,hμ,hs,h=>by
  simp only[Rep]at h ⊢;refine⟨h.1,?_⟩;have h2:=h.2
  cases hm:μ id with
  | none=>simp[hm]at h2
  | some L=>rw[hμ id L hm];simpa [hm]using h2
 | .ptr id off,μ,μ',v,fp,hμ,hs,h=>by
  simp only[Rep]at h ⊢;obtain⟨h1,b,cap,hm,hv⟩:=h;exact⟨h1,b,cap,hμ _ _ hm,hv⟩
 | .pe id e i off,μ,μ',v,fp,hμ,hs,h=>by
  simp only[Rep]at h ⊢;obtain⟨h1,b,cap,hm,hv⟩:=h;exact⟨h1,b,cap,hμ _ _ hm,hv⟩
 | .fn f k caps,μ,μ',v,fp,hμ,hs,h=>by
  simp only[Rep]at h ⊢;obtain⟨rfl,us,e,h⟩:=h;exact⟨rfl,us,e,RepL.mono caps hμ hs h⟩
 | .gd gs x,μ,μ',v,fp,hμ,hs,h=>by
  simp only[Rep]at h ⊢;obtain⟨rfl,h,h2⟩:=h;exact⟨rfl,fun hg=>Rep.mono x hμ hs (h hg),h2⟩
 | .ep cs,μ,μ',v,fp,hμ,hs,h=>by
  simp only[Rep]at h ⊢;obtain⟨rfl,b,o,us,e,hb,hm,hl,hc⟩:=h;exact⟨rfl,b,o,us,e,Nat.lt_of_lt_of_le hb hs.size,hs.cold b hb hm,RepL.mono cs (Map.le_refl _) hs hl,hc.congr (hs.heap b hb (.inl hm))⟩
 | .op cs,μ,μ',v,fp,hμ,hs,h=>by
  simp only[Rep]at h ⊢;obtain⟨b,us,T,e,rfl,hb,hh,hone,hr⟩:=h;exact⟨b,us,T,e,rfl,Nat.lt_of_lt_of_le hb hs.size,by rw[hs.heap b hb (.inr (by simp))];exact hh,hone,RepL.mono cs (Map.le_refl _) (hs.sub (by simp)) hr⟩
 | .sl own e n f,μ,μ',v,fp,hμ,hs,h=>by
  simp only[Rep]at h ⊢;rcases h with h|⟨b,o,cap,us,fps,hv,hn,hb,hc,ho⟩
  ·exact .inl h
  ·refine .inr ⟨b,o,cap,us,fps,hv,hn,Nat.lt_of_lt_of_le hb hs.size,?_,?_⟩
   ·cases own with
    | none=>
     obtain⟨hm,rfl,hf⟩:=ho;intro i hi;obtain⟨h1,h2,h3⟩:=hc i hi;exact⟨RepL.mono (f i) (Map.le_refl _) (hs.sub (by rw[hf i hi];simp)) h1,h2,h3.congr (hs.heap b hb (.inl hm))⟩
    | some T=>
     obtain⟨rfl,rfl,cur,hcur,hsz⟩:=ho;intro i hi;obtain⟨h1,h2,h3⟩:=hc i hi;refine⟨RepL.mono (f i) (Map.le_refl _) (hs.sub ?_) h1,h2,h3.congr (hs.heap b hb (.inr (by simp)))⟩;intro x hx;exact List.mem_cons_of_mem _ (List.mem_flatMap.2 ⟨i,List.mem_range.2 hi,hx⟩)
   ·cases own with
    | none=>
     obtain⟨hm,rfl,hf⟩:=ho;exact⟨hs.cold b hb hm,rfl,hf⟩
    | some T=>
     obtain⟨rfl,rfl,cur,hcur,hsz⟩:=ho;exact⟨rfl,rfl,cur,by rw[hs.heap b hb (.inr (by simp))];exact hcur,hsz⟩
theorem RepL.mono {w w' : World} {M M' : Nat -> Prop} : ∀ (xs : List AV) {μ μ' : Map} {us : List Value} {fp : List Nat}, μ.le μ' -> Same w M w' M' fp -> RepL w M xs μ us fp -> RepL w' M' xs μ' us fp
 | [],_,_,_,_,_,_,h=>by simpa only[RepL]using h
 | x::xs,μ,μ',us,fp,hμ,hs,h=>by
  simp only[RepL]at h ⊢;obtain⟨u,us',f1,f2,rfl,rfl,h1,h2⟩:=h;exact⟨u,us',f1,f2,rfl,rfl,Rep.mono x hμ (hs.sub (by simp;exact fun b hb=>.inl hb)) h1,RepL.mono xs hμ (hs.sub (by simp;exact fun b hb=>.inr hb)) h2⟩
end
mutual
def y1d : AV -> Bool
  | .ref .. => false
  | .ptr .. => false
  | .pe .. => false
  | .gd .. => false
  | .agg cs=>y9d cs
  | .tup cs=>y9d cs
  | .fn _ _ cs=>y9d cs
  | _=>true
def y9d : List AV -> Bool
  | []=>true
  | x :: xs => match y1d x with
    | true=>y9d xs
    | false=>false
end
mutual
theorem y7w {w : World} {M : Nat -> Prop} : ∀ (x : AV) {μ μ' : Map} {v : Value} {fp : List Nat}, y1d x = true -> Rep w M x μ v fp -> Rep w M x μ' v fp
 | .int ..,_,_,_,_,_,h=>by simpa only[Rep]using h
 | .bool ..,_,_,_,_,_,h=>by simpa only[Rep]using h
 | .str ..,_,_,_,_,_,h=>by simpa only[Rep]using h
 | .nils,_,_,_,_,_,h=>by simpa only[Rep]using h
 | .any,_,_,_,_,_,h=>by simpa only[Rep]using h
 | .lit ..,_,_,_,_,_,h=>by simpa only[Rep]using h
 | .sl ..,_,_,_,_,_,h=>by simpa only[Rep]using h
 | .op ..,_,_,_,_,_,h=>by simpa only[Rep]using h
 | .ep ..,_,_,_,_,_,h=>by simpa only[Rep]using h
 | .ref ..,_,_,_,_,hn,_=>by simp[y1d]at hn
 | .ptr ..,_,_,_,_,hn,_=>by simp[y1d]at hn
 | .pe ..,_,_,_,_,hn,_=>by simp[y1d]at hn
 | .gd ..,_,_,_,_,hn,_=>by simp[y1d]at hn
 | .agg cs,μ,μ',v,fp,hn,h=>by
  simp only[Rep,y1d]at h hn ⊢;obtain⟨us,e,h⟩:=h;exact⟨us,e,y1b cs hn h⟩
 | .tup cs,μ,μ',v,fp,hn,h=>by
  simp only[Rep,y1d]at h hn ⊢;obtain⟨us,e,h⟩:=h;exact⟨us,e,y1b cs hn h⟩
 | .fn f k cs,μ,μ',v,fp,hn,h=>by
  simp only[Rep,y1d]at h hn ⊢;obtain⟨e0,us,e,h⟩:=h;exact⟨e0,us,e,y1b cs hn h⟩
theorem y1b {w : World} {M : Nat -> Prop} : ∀ (xs : List AV) {μ μ' : Map} {us : List Value} {fp : List Nat}, y9d xs = true -> RepL w M xs μ us fp -> RepL w M xs μ' us fp
 | [],_,_,_,_,_,h=>by simpa only[RepL]using h
 | x::xs,μ,μ',us,fp,hn,h=>by
  simp only[RepL,y9d]at h hn ⊢
  cases hx:y1d x with
  | false=>simp[hx]at hn
  | true=>
   rw[hx]at hn;obtain⟨u,us',f1,f2,e1,e2,h1,h2⟩:=h;exact⟨u,us',f1,f2,e1,e2,y7w x hx h1,y1b xs hn h2⟩
end
theorem Rep.lift {w:World} {M:Nat->Prop} {x:AV} {μ:Map} {v:Value} {fp:List Nat} (h:Rep w M x yw v fp):Rep w M x μ v fp:=
 Rep.mono x (yhi μ) ⟨Nat.le_refl _,fun _ _ h=>h,fun _ _ _=>rfl⟩ h
theorem RepL.lift {w:World} {M:Nat->Prop} {xs:List AV} {μ:Map} {us:List Value} {fp:List Nat} (h:RepL w M xs yw us fp):RepL w M xs μ us fp:=
 RepL.mono xs (yhi μ) ⟨Nat.le_refl _,fun _ _ h=>h,fun _ _ _=>rfl⟩ h
mutual
def yhg : AV -> Prop
 | .str l=>l.length<=9223372036854775807
 | .sl _ _ n f=>n<=9223372036854775807/\∀ i,i<n->yzd (f i)
 | .agg cs=>yzd cs
 | .tup cs=>yzd cs
 | .ep cs=>yzd cs
 | .op cs=>yzd cs
 | .fn _ _ cs=>yzd cs
 | .lit _ x=>yhg x
 | _=>True
def yzd : List AV -> Prop
 | []=>True
 | x::xs=>yhg x/\yzd xs
end
mutual
theorem Rep.lens {w : World} {M : Nat -> Prop} : ∀ (x : AV) {μ : Map} {v : Value} {fp : List Nat}, Rep w M x μ v fp -> yhg x
 | .str l,_,_,_,h=>by
  simp only[Rep,yhg]at h ⊢;have e:maxLen=9223372036854775807:=by decide
  have:=h.1.2;omega
 | .sl own e n f,_,_,_,h=>by
  simp only[Rep,yhg]at h ⊢;rcases h with⟨rfl,_⟩|⟨b,o,cap,us,fps,hv,hn,hb,hc,ho⟩
  ·exact⟨Nat.zero_le _,fun i hi=>by omega⟩
  ·have e:maxLen=9223372036854775807:=by decide
   exact⟨by omega,fun i hi=>RepL.lens (f i) (hc i hi).1⟩
 | .agg cs,_,_,_,h=>by
  simp only[Rep,yhg]at h ⊢;obtain⟨us,e,h⟩:=h;exact RepL.lens cs h
 | .tup cs,_,_,_,h=>by
  simp only[Rep,yhg]at h ⊢;obtain⟨us,e,h⟩:=h;exact RepL.lens cs h
 | .ep cs,_,_,_,h=>by
  simp only[Rep,yhg]at h ⊢;obtain⟨_,b,o,us,e,_,_,h,_⟩:=h;exact RepL.lens cs h
 | .op cs,_,_,_,h=>by
  simp only[Rep,yhg]at h ⊢;obtain⟨b,us,T,_,_,_,_,_,h⟩:=h;exact RepL.lens cs h
 | .fn _ _ cs,_,_,_,h=>by
  simp only[Rep,yhg]at h ⊢;obtain⟨_,us,_,h⟩:=h;exact RepL.lens cs h
 | .int ..,_,_,_,_=>trivial
 | .bool ..,_,_,_,_=>trivial
 | .nils,_,_,_,_=>trivial
 | .any,_,_,_,_=>trivial
 | .lit u x,_,_,_,h=>by
  simp only[Rep,yhg]at h ⊢;exact Rep.lens x h.2.2
 | .ref ..,_,_,_,_=>trivial
 | .ptr ..,_,_,_,_=>trivial
 | .pe ..,_,_,_,_=>trivial
 | .gd ..,_,_,_,_=>trivial
theorem RepL.lens {w : World} {M : Nat -> Prop} : ∀ (xs : List AV) {μ : Map} {us : List Value} {fp : List Nat}, RepL w M xs μ us fp -> yzd xs
 | [],_,_,_,_=>trivial
 | x::xs,_,_,_,h=>by
  simp only[RepL,yzd]at h ⊢;obtain⟨u,us',f1,f2,_,_,h1,h2⟩:=h;exact⟨Rep.lens x h1,RepL.lens xs h2⟩
end
end Go.Ab
namespace Go.Ab
open Go
inductive Ent where
 | box (cs:List AV)
 | arr (T:TypeId) (e n:Nat) (f:Nat->List AV)
 | it (l:List UInt8) (p:Nat) (more:Bool)
 | byt (l:List UInt8)
 | dead
def Ent.live : Ent -> Bool
 | .dead=>false
 | _=>true
class Inv where
 ok:World->Prop
 dom:Nat->Prop
 inside:∀ w,ok w->∀ b,dom b->b<w.heap.size
 stable:∀ w w':World,ok w->w'.os=w.os->(∀ b,dom b->w'.heap[b]? = w.heap[b]?)->ok w'
variable [Inv]
structure Ctx where
 w0:World
 M0:Nat->Prop
 F0:List Nat
 T0:List Nat
 mu0:Map
 k0:Nat
 nt:Nat
 cold0:∀ b,M0 b->b<w0.heap.size/\b∉F0
 own0:∀ b,b∈F0->b<w0.heap.size
 top0:∀ b,b∈T0->b∈F0
 base0:∀ id L,mu0 id=some L->id<k0
 inv0:Inv.ok w0
 invM:∀ b,Inv.dom b->¬ M0 b/\b∉F0
abbrev Hp:=Nat->Option Ent
def hot (M0:Nat->Prop) (H:Hp) (μ:Map):Nat->Prop:=
 fun b=>M0 b\/∃ id cap e,μ id=some (.blk b cap)/\H id=some e/\e.live=true
def yic (w : World) (M : Nat -> Prop) (μ : Map) : Ent -> Loc -> List Nat -> Prop
 | .dead,_,fp=>fp=[]
 | .box cs,L,fp=>∃ b cap us T,L=.blk b cap/\fp=[b]/\w.heap[b]? = some (.cells us.toArray T (0,0))/\(∀ u∈us,u.oneCell'=true)/\RepL w M cs μ us []
 | .it l p more,L,fp=>∃ b,L=.blk b 0/\fp=[b]/\w.heap[b]? = some (.stringIter ⟨l.toArray⟩ p)/\more=decide (p<l.length)/\(∀ x∈l,x.toNat<128)/\l.length<=maxLen
 | .byt l,L,fp=>∃ b cur T,L=.blk b cur.size/\fp=[b]/\w.heap[b]? = some (.cells cur T (cur.size,cur.size+1))/\l.length<=cur.size/\l.length<=maxLen/\∀ j,j<l.length->cur[j]? = some (.int .u8 (l.getD j 0).toNat)
 | .arr _ _ n _,.nil,fp=>n=0/\fp=[]
 | .arr T e n f,.blk b cap,fp=>∃ cur,∃ us:Nat->List Value,∃ fps:Nat->List Nat,w.heap[b]? = some (.cells cur T (0,0))/\cur.size=cap * e/\n<=cap/\cap<=maxLen /\
   (∀ i,i<n->RepL w M (f i) μ (us i) (fps i)/\(us i).length=e/\yyd w b (i * e) (us i))/\fp=b::(List.range n).flatMap fps
structure Keep (w0:World) (F0:List Nat) (w:World):Prop where
 os:w.os=w0.os
 tape:w.tape=w0.tape
 output:w.output=w0.output
 size:w0.heap.size<=w.heap.size
 block:∀ k,k<w0.heap.size->k∉F0->w.heap[k]? = w0.heap[k]?
structure WR (c:Ctx) (H:Hp) (μ:Map) (FP:Nat->List Nat) (w:World):Prop where
 keep:Keep c.w0 c.T0 w
 base:c.mu0.le μ
 ent:∀ id L,μ id=some L->∃ e,H id=some e/\yic w (hot c.M0 H μ) μ e L (FP id)
 out:∀ id,μ id=none->FP id=[]
 nodup:∀ id,(FP id).Nodup
 disj:∀ i j,i≠j->∀ b,b∈FP i->b∉FP j
 new:∀ id b,b∈FP id->(b∈c.F0\/c.w0.heap.size<=b)/\b<w.heap.size
 top:∀ id b cap e,μ id=some (.blk b cap)->H id=some e->e.live=true->b∈c.T0\/c.w0.heap.size<=b
structure Trans (M0:Nat->Prop) (H:Hp) (μ:Map) (w:World) (H':Hp) (μ':Map) (w':World):Prop where
 le:μ.le μ'
 same:Same w (hot M0 H μ) w' (hot M0 H' μ') []
theorem Trans.rep {M0:Nat->Prop} {H H':Hp} {μ μ':Map} {w w':World} (t:Trans M0 H μ w H' μ' w') {x:AV} {v:Value} (h:Rep w (hot M0 H μ) x μ v []) :
  Rep w' (hot M0 H' μ') x μ' v []:=Rep.mono x t.le t.same h
theorem Trans.refl (M0:Nat->Prop) (H:Hp) (μ:Map) (w:World):Trans M0 H μ w H μ w:=
 ⟨Map.le_refl _,Nat.le_refl _,fun _ _ h=>h,fun _ _ _=>rfl⟩
theorem Trans.trans {M0:Nat->Prop} {H H' H'':Hp} {μ μ' μ'':Map} {w w' w'':World} (t:Trans M0 H μ w H' μ' w') (k:Trans M0 H' μ' w' H'' μ'' w'') :
  Trans M0 H μ w H'' μ'' w'':=
 ⟨t.le.trans k.le,Nat.le_trans t.same.size k.same.size,fun b hb h=>k.same.cold b (Nat.lt_of_lt_of_le hb t.same.size) (t.same.cold b hb h),
  fun b hb h=>by
   have h':¬ hot M0 H μ b:=h.resolve_right (by simp)
   rw[k.same.heap b (Nat.lt_of_lt_of_le hb t.same.size) (.inl (t.same.cold b hb h')),t.same.heap b hb h]⟩
theorem WR.lt {c:Ctx} {H:Hp} {μ:Map} {FP:Nat->List Nat} {w:World} (h:WR c H μ FP w) {id b cap:Nat} {e:Ent} (hm:μ id=some (.blk b cap)) (he:H id=some e) (hl:e.live=true) :
  b∈FP id/\b<w.heap.size:=by
 obtain⟨e',he',hok⟩:=h.ent id _ hm;rw[he]at he';cases he'
 have hb:b∈FP id:=by
  cases e with
  | dead=>simp[Ent.live]at hl
  | box cs=>obtain⟨b',cap',us,T,h1,h2,_⟩:=hok;cases h1;rw[h2];simp
  | it l p m=>obtain⟨b',h1,h2,_⟩:=hok;cases h1;rw[h2];simp
  | byt l=>obtain⟨b',cur,T,h1,h2,_⟩:=hok;cases h1;rw[h2];simp
  | arr T e n f=>obtain⟨cur,us,fps,_,_,_,_,_,h2⟩:=hok;rw[h2];simp
 exact⟨hb,(h.new id b hb).2⟩
theorem yic.topMem {w:World} {M:Nat->Prop} {μ:Map} {e:Ent} {b cap:Nat} {fp:List Nat} (h:yic w M μ e (.blk b cap) fp) (hl:e.live=true):b∈fp:=by
 cases e with
 | dead=>simp[Ent.live]at hl
 | box cs=>obtain⟨b',cap',us,T,h1,h2,_⟩:=h;cases h1;rw[h2];simp
 | it l p m=>obtain⟨b',h1,h2,_⟩:=h;cases h1;rw[h2];simp
 | byt l=>obtain⟨b',cur,T,h1,h2,_⟩:=h;cases h1;rw[h2];simp
 | arr T e n f=>obtain⟨cur,us,fps,_,_,_,_,_,h2⟩:=h;rw[h2];simp
theorem yic.mono {w w' : World} {M M' : Nat -> Prop} {μ μ' : Map} {e : Ent} {L : Loc} {fp : List Nat} (hμ : μ.le μ') (hs : Same w M w' M' fp) (hlt : ∀ b ∈ fp, b < w.heap.size)
  (h:yic w M μ e L fp):yic w' M' μ' e L fp:=by
 cases e with
 | dead=>exact h
 | box cs=>
  obtain⟨b,cap,us,T,rfl,rfl,hh,h1,hr⟩:=h;exact⟨b,cap,us,T,rfl,rfl,by rw[hs.heap b (hlt b (by simp)) (.inr (by simp))];exact hh,h1,RepL.mono cs hμ (hs.sub (by simp)) hr⟩
 | it l p m=>
  obtain⟨b,rfl,rfl,hh,h1⟩:=h;exact⟨b,rfl,rfl,by rw[hs.heap b (hlt b (by simp)) (.inr (by simp))];exact hh,h1⟩
 | byt l=>
  obtain⟨b,cur,T,rfl,rfl,hh,h1⟩:=h;exact⟨b,cur,T,rfl,rfl,by rw[hs.heap b (hlt b (by simp)) (.inr (by simp))];exact hh,h1⟩
 | arr T e n f=>
  cases L with
  | nil=>exact h
  | blk b cap=>
   obtain⟨cur,us,fps,hh,h1,h2,h3,hc,rfl⟩:=h;have hb:=hs.heap b (hlt b (by simp)) (.inr (by simp));refine⟨cur,us,fps,by rw[hb];exact hh,h1,h2,h3,?_,rfl⟩;intro i hi;obtain⟨a1,a2,a3⟩:=hc i hi;exact⟨RepL.mono (f i) hμ (hs.sub fun x hx=>List.mem_cons_of_mem _ (List.mem_flatMap.2 ⟨i,List.mem_range.2 hi,hx⟩)) a1,a2,a3.congr hb⟩
theorem WR.inv {c:Ctx} {H:Hp} {μ:Map} {FP:Nat->List Nat} {w:World} (h:WR c H μ FP w):Inv.ok w:=
 Inv.stable c.w0 w c.inv0 h.keep.os fun b hb=>h.keep.block b (Inv.inside _ c.inv0 b hb) fun ht=>(c.invM b hb).2 (c.top0 b ht)
theorem WR.inv_fp {c:Ctx} {H:Hp} {μ:Map} {FP:Nat->List Nat} {w:World} (h:WR c H μ FP w) {b:Nat} (hb:Inv.dom b) (id:Nat):b∉FP id:=by
 intro hf;rcases(h.new id b hf).1 with h1|h1
 ·exact(c.invM b hb).2 h1
 ·have:=Inv.inside _ c.inv0 b hb
  omega
theorem WR.inv_hot {c:Ctx} {H:Hp} {μ:Map} {FP:Nat->List Nat} {w:World} (h:WR c H μ FP w) {b:Nat} (hb:Inv.dom b):¬ hot c.M0 H μ b:=by
 rintro(h1|⟨id,cap,e,hm,he,hl⟩)
 ·exact(c.invM b hb).1 h1
 ·exact h.inv_fp hb id (h.lt hm he hl).1
end Go.Ab
namespace Go.Ab
open Go
variable [Inv]
structure Free (c:Ctx) (FP:Nat->List Nat) (w:World) (R:List Nat):Prop where
 nodup:R.Nodup
 disj:∀ b,b∈R->∀ id,b∉FP id
 new:∀ b,b∈R->(b∈c.F0\/c.w0.heap.size<=b)/\b<w.heap.size
theorem Free.nil (c:Ctx) (FP:Nat->List Nat) (w:World):Free c FP w []:=⟨by simp,by simp,by simp⟩
theorem WR.update {c : Ctx} {H H' : Hp} {μ μ' : Map} {FP FP' : Nat -> List Nat} {w w' : World} (K : Nat -> Prop) (R : List Nat) (h : WR c H μ FP w) (hR : Free c FP w R)
  (hos:w'.os=w.os) (htape:w'.tape=w.tape) (hout:w'.output=w.output) (hsz:w.heap.size<=w'.heap.size)
  (hblk:∀ b,b<w.heap.size->w'.heap[b]? = w.heap[b]? \/ (hot c.M0 H μ b/\∃ k,K k/\b∈FP k))
  (hle:μ.le μ') (hH:∀ id,μ id≠none->¬ K id->H' id=H id) (hFP:∀ id,μ id≠none->¬ K id->FP' id=FP id)
  (hnew:∀ id L,(μ id=none\/K id)->μ' id=some L->∃ e,H' id=some e/\yic w' (hot c.M0 H' μ') μ' e L (FP' id))
  (hblkNew:∀ id b cap e,(μ id=none\/K id)->μ' id=some (.blk b cap)->H' id=some e->e.live=true->hot c.M0 H μ b\/w.heap.size<=b)
  (hfpNew:∀ id b,(μ id=none\/K id)->b∈FP' id->(∃ k,K k/\b∈FP k)\/(w.heap.size<=b/\b<w'.heap.size)\/b∈R)
  (hout':∀ id,μ' id=none->FP' id=[])
  (hnd:∀ id,(μ id=none\/K id)->(FP' id).Nodup)
  (hdj:∀ i j,i≠j->(μ i=none\/K i)->(μ j=none\/K j)->∀ b,b∈FP' i->b∉FP' j) :
  WR c H' μ' FP' w'/\Trans c.M0 H μ w H' μ' w':=by
 have hcold:∀ b,b<w.heap.size->¬ hot c.M0 H μ b->¬ hot c.M0 H' μ' b:=by
  intro b hb hn hh;rcases hh with hh|⟨id,cap,e,hm,he,hl⟩
  ·exact hn (.inl hh)
  ·by_cases hK:μ id=none\/K id
   ·rcases hblkNew id b cap e hK hm he hl with h1|h1
    ·exact hn h1
    ·omega
   ·have hnn:μ id≠none:=fun e=>hK (.inl e)
    cases hμ:μ id with
    | none=>exact hnn hμ
    | some L=>
     have hL:=hle id L hμ;rw[hm]at hL;cases hL;exact hn (.inr ⟨id,cap,e,hμ,by rw[<- hH id hnn (fun e=>hK (.inr e))];exact he,hl⟩)
 have hsame0:Same w (hot c.M0 H μ) w' (hot c.M0 H' μ') []:=
  ⟨hsz,hcold,fun b hb hh=>(hblk b hb).resolve_right (fun⟨h1,_⟩=>(hh.resolve_right (by simp)) h1)⟩
 have hcase:∀ id,(μ id=none\/K id)\/(μ id≠none/\¬ K id):=fun id=>by
  by_cases h1:μ id=none
  ·exact .inl (.inl h1)
  ·by_cases h2:K id
   ·exact .inl (.inr h2)
   ·exact .inr ⟨h1,h2⟩
 refine⟨⟨?_,h.base.trans hle,?_,hout',?_,?_,?_,?_⟩,hle,hsame0⟩
 ·refine⟨hos.trans h.keep.os,htape.trans h.keep.tape,hout.trans h.keep.output,Nat.le_trans h.keep.size hsz,fun k hk hf => ?_⟩
  rcases hblk k (Nat.lt_of_lt_of_le hk h.keep.size)with h1|⟨h1,i,_,h2⟩
  ·exact h1.trans (h.keep.block k hk hf)
  ·rcases h1 with hM|⟨id,cap,e,hm,he,hl⟩
   ·have hc:=c.cold0 k hM
    rcases(h.new i k h2).1 with h3|h3
    ·exact absurd h3 hc.2
    ·omega
   ·rcases h.top id k cap e hm he hl with h3|h3
    ·exact absurd h3 hf
    ·omega
 ·intro id L hL
  rcases hcase id with hK|⟨hn,hK⟩
  ·exact hnew id L hK hL
  ·cases hμ:μ id with
   | none=>exact absurd hμ hn
   | some L0=>
    have h0:=hle id L0 hμ;rw[hL]at h0;cases h0;obtain⟨e,he,hok⟩:=h.ent id L hμ;refine⟨e,(hH id hn hK).trans he,?_⟩;rw[hFP id hn hK];refine yic.mono hle ⟨hsz,hcold,fun b hb hh => ?_⟩ (fun b hb=>(h.new id b hb).2) hok;rcases hblk b hb with h1|⟨h1,k,hk,h2⟩
    ·exact h1
    ·rcases hh with hh|hh
     ·exact absurd h1 hh
     ·exact absurd h2 (h.disj id k (fun e=>hK (e ▸ hk)) b hh)
 ·intro id
  rcases hcase id with hK|⟨hn,hK⟩
  ·exact hnd id hK
  ·rw[hFP id hn hK];exact h.nodup id
 ·intro i j hij b hbi hbj
  rcases hcase i with hKi|⟨hni,hKi⟩
  ·rcases hcase j with hKj|⟨hnj,hKj⟩
   ·exact hdj i j hij hKi hKj b hbi hbj
   ·rw[hFP j hnj hKj]at hbj
    have h1:=(h.new j b hbj).2;rcases hfpNew i b hKi hbi with⟨k,hk,h2⟩|h2|h2
    ·exact h.disj k j (fun e=>hKj (e ▸ hk)) b h2 hbj
    ·omega
    ·exact hR.disj b h2 j hbj
  ·rw[hFP i hni hKi]at hbi
   rcases hcase j with hKj|⟨hnj,hKj⟩
   ·have h1:=(h.new i b hbi).2
    rcases hfpNew j b hKj hbj with⟨k,hk,h2⟩|h2|h2
    ·exact h.disj k i (fun e=>hKi (e ▸ hk)) b h2 hbi
    ·omega
    ·exact hR.disj b h2 i hbi
   ·rw[hFP j hnj hKj]at hbj
    exact h.disj i j hij b hbi hbj
 ·intro id b hb
  rcases hcase id with hK|⟨hn,hK⟩
  ·rcases hfpNew id b hK hb with⟨k,_,h2⟩|h2|h2
   ·have:=h.new k b h2
    exact⟨this.1,Nat.lt_of_lt_of_le this.2 hsz⟩
   ·exact⟨.inr (Nat.le_trans h.keep.size h2.1),h2.2⟩
   ·have:=hR.new b h2
    exact⟨this.1,Nat.lt_of_lt_of_le this.2 hsz⟩
  ·rw[hFP id hn hK]at hb
   have:=h.new id b hb;exact⟨this.1,Nat.lt_of_lt_of_le this.2 hsz⟩
 ·intro id b cap e hm he hl
  rcases hcase id with hK|⟨hn,hK⟩
  ·rcases hblkNew id b cap e hK hm he hl with h1|h1
   ·rcases h1 with hM|⟨id',cap',e',hm',he',hl'⟩
    ·have hc:=c.cold0 b hM
     obtain⟨e2,he2,hok⟩:=hnew id _ hK hm;rw[he]at he2;cases he2;have hb:=hok.topMem hl;rcases hfpNew id b hK hb with⟨k,_,h2⟩|h2|h2
     ·rcases(h.new k b h2).1 with h3|h3
      ·exact absurd h3 hc.2
      ·omega
     ·have:=h.keep.size;omega
     ·rcases(hR.new b h2).1 with h3|h3
      ·exact absurd h3 hc.2
      ·omega
    ·exact h.top id' b cap' e' hm' he' hl'
   ·exact .inr (Nat.le_trans h.keep.size h1)
  ·cases hμ:μ id with
   | none=>exact absurd hμ hn
   | some L=>
    have hL:=hle id L hμ;rw[hm]at hL;cases hL;exact h.top id b cap e hμ (by rw[<- hH id hn hK];exact he) hl
end Go.Ab
namespace Go.Ab
open Go
inductive TI where
 | int (k:IntKind)|bool|string
 | ptr (e:TypeId)|slice (e:TypeId)
 | struct (fs:List (Nat×TypeId)) (cmp:Bool)
 | array (n:Nat) (e:TypeId)
 | other
structure TInfo where
 ti:TI
 size:Nat
 bytes:Nat
 zero:List AV
 ones:Bool
abbrev Env:=List (TypeId×TInfo)
def tget : Env -> TypeId -> Option TInfo
 | [],_=>none
 | (j,x)::r,i=>bif Nat.beq i j then some x else tget r i
def avOf : Value -> AV
 | .int k n=>.int k n
 | .bool b=>.bool b
 | .string s=>bif decide (s.data.toList.length<=4096)then .str s.data.toList else .any
 | .slice none 0 0=>.nils
 | _=>.any
def tiOf (P : Program) (t : TypeId) : TypeDesc -> TI
 | .int k=>.int k
 | .bool=>.bool
 | .string=>.string
 | .pointer e=>.ptr e
 | .slice e=>.slice e
 | .struct fs=>.struct (fs.toList.map fun f=>(f.offset,f.type)) (!P.stoodInHeld t && !P.eqGuardType P.depth t && fs.toList.all fun f=>f.name != "_")
 | .array n e=>.array n e
 | _=>.other
def yze (P:Program) (t:TypeId):Option TInfo:=
 match P.info? t,P.underlying t with
 | some i,some d=>some { ti:=tiOf P t d,size:=i.size,bytes:=i.bytes,zero:=(((i.zero.map fun z=>z.cells.toList).getD []).map avOf),ones:=((i.zero.map fun z=>z.cells.toList.all fun u=>u.oneCell').getD false)}
 | _,_=>none
def TyOk (P:Program) (Γ:Env):Prop:=Γ.map (fun p=>yze P p.1)=Γ.map (fun p=>some p.2)
theorem TyOk.get {P : Program} {t : TypeId} {i : TInfo} : ∀ {Γ : Env}, TyOk P Γ -> tget Γ t = some i -> yze P t = some i
 | [],_,h=>by simp[tget]at h
 | (j,x)::r,hΓ,h=>by
  simp only[TyOk,List.map_cons,List.cons.injEq]at hΓ;simp only[tget]at h
  cases hb:Nat.beq t j with
  | true=>
   rw[hb]at h;have:t=j:=Nat.eq_of_beq_eq_true hb;subst this;simp only[cond_true]at h;rw[hΓ.1,h]
  | false=>
   rw[hb]at h;exact TyOk.get (Γ:=r) hΓ.2 h
theorem yg {P:Program} {t:TypeId} {i:TInfo} (h:yze P t=some i) :
  ∃ inf d,P.info? t=some inf/\P.underlying t=some d/\i.ti=tiOf P t d/\inf.size=i.size/\inf.bytes=i.bytes/\i.zero=(((inf.zero.map fun z=>z.cells.toList).getD []).map avOf)/\i.ones=((inf.zero.map fun z=>z.cells.toList.all fun u=>u.oneCell').getD false):=by
 unfold yze at h
 cases h1:P.info? t with
 | none=>simp[h1]at h
 | some inf=>
  cases h2:P.underlying t with
  | none=>simp[h1,h2]at h
  | some d=>
   simp only[h1,h2,Option.some.injEq]at h;subst h;exact⟨inf,d,rfl,rfl,rfl,rfl,rfl,rfl,rfl⟩
theorem y6b {P:Program} {t e:TypeId} {d:TypeDesc} (h:TI.slice e=tiOf P t d):d=.slice e:=by
 cases d<;>simp[tiOf]at h;exact congrArg _ h.symm
theorem y6l {P:Program} {t:TypeId} {k:IntKind} {d:TypeDesc} (h:TI.int k=tiOf P t d):d=.int k:=by
 cases d<;>simp[tiOf]at h;exact congrArg _ h.symm
theorem yzu {P:Program} {t:TypeId} {d:TypeDesc} (h:TI.bool=tiOf P t d):d=.bool:=by
 cases d<;>simp[tiOf]at h;rfl
theorem y1c {P:Program} {t:TypeId} {d:TypeDesc} (h:TI.string=tiOf P t d):d=.string:=by
 cases d<;>simp[tiOf]at h;rfl
theorem ykf {P:Program} {t e:TypeId} {n:Nat} {d:TypeDesc} (h:TI.array n e=tiOf P t d):d=.array n e:=by
 cases d<;>simp[tiOf]at h;rw[h.1,h.2]
theorem y0e {P:Program} {t:TypeId} {l:List (Nat×TypeId)} {c:Bool} {d:TypeDesc} (h:TI.struct l c=tiOf P t d) :
  ∃ fs,d=.struct fs/\l=fs.toList.map (fun f=>(f.offset,f.type))/\c=(!P.stoodInHeld t && !P.eqGuardType P.depth t && fs.toList.all fun f=>f.name != "_"):=by
 cases d<;>simp[tiOf]at h
 rename_i fs
 exact⟨fs,rfl,h.1,by simp[h.2]⟩
def ydh : Nat -> List AV -> Option (List AV)
  | 0,_=>some []
  | _+1,[]=>none
  | n + 1, x :: xs => match ydh n xs with
    | some ys=>some (x::ys)
    | none=>none
def ysh (i:TInfo) (cs:List AV):Option AV:=
  match i.ti with
  | .struct _ _ | .array _ _ => match ydh i.size cs with
    | some ys=>some (.agg ys)
    | none=>none
  | _ => match cs with
    | x::_=>some x
    | []=>none
mutual
def yeb : AV -> AV
 | .sl _ e n f=>.sl none e n (fun i=>yz (f i))
 | .agg cs=>.agg (yz cs)
 | .tup cs=>.tup (yz cs)
 | .op cs=>.ep cs
 | x=>x
def yz : List AV -> List AV
 | []=>[]
 | x::xs=>yeb x::yz xs
end
theorem RepL.length {w : World} {M : Nat -> Prop} {μ : Map} : ∀ {xs : List AV} {us : List Value} {fp : List Nat}, RepL w M xs μ us fp -> us.length = xs.length
 | [],us,fp,h=>by simp only[RepL]at h;simp[h.1]
 | x::xs,us,fp,h=>by
  simp only[RepL]at h;obtain⟨u,us',f1,f2,rfl,rfl,_,h2⟩:=h;simp[RepL.length h2]
theorem ytl {w:World} {M:Nat->Prop} {μ:Map}:∀ {n:Nat} {cs ys:List AV} {us:List Value} {fp:List Nat},ydh n cs=some ys->RepL w M cs μ us fp ->
  ∃ us1 us2 f1 f2,us=us1++us2/\us1.length=n/\fp=f1++f2/\RepL w M ys μ us1 f1
 | 0,cs,ys,us,fp,h,hr=>by
  simp only[ydh,Option.some.injEq]at h;subst h;exact⟨[],us,[],fp,rfl,rfl,rfl,by simp[RepL]⟩
 | n+1,[],ys,us,fp,h,hr=>by simp[ydh]at h
 | n+1,x::xs,ys,us,fp,h,hr=>by
  simp only[ydh]at h
  cases ht:ydh n xs with
  | none=>simp[ht]at h
  | some zs=>
   simp only[ht,Option.some.injEq]at h;subst h;simp only[RepL]at hr;obtain⟨u,us',f1,f2,rfl,rfl,h1,h2⟩:=hr;obtain⟨us1,us2,g1,g2,rfl,hl,rfl,h3⟩:=ytl ht h2;refine⟨u::us1,us2,f1++g1,g2,rfl,by simp[hl],by simp,?_⟩;simp only[RepL];exact⟨u,us1,f1,g1,rfl,rfl,h1,h3⟩
def yog : TypeDesc -> Bool
 | .struct _|.array _ _=>true
 | _=>false
theorem ybe {P:Program} {t:TypeId} {d:TypeDesc} (h:P.underlying t=some d) (w:World) :
  (isAgg t).run P w=.ok (yog d) w:=by
 unfold isAgg;rw[Sem.run_bind,run_underlying h w];cases d<;>simp[yog]
theorem y5i {P : Program} {t : TypeId} {i : TInfo} {w : World} {M : Nat -> Prop} {μ : Map} {cs : List AV} {us : List Value} {x : AV} {b o : Nat}
  (hi:yze P t=some i) (hl:ysh i cs=some x) (hr:RepL w M cs μ us []) (hc:∀ j u,us[j]? = some u->w.cell? ⟨b,o+j,none⟩=some u) :
  ∃ v,(loadVar t ⟨b,o,none⟩).run P w=.ok v w/\Rep w M x μ v []:=by
 obtain⟨inf,d,hinf,hd,hti,hsz,_,_,_⟩:=yg hi;have hag:=ybe (P:=P) hd w
 have hone:∀ y ys,cs=y::ys->yog d=false->∃ v,(loadVar t ⟨b,o,none⟩).run P w=.ok v w/\Rep w M y μ v []:=by
  intro y ys hcs hf;subst hcs;simp only[RepL]at hr;obtain⟨u,us',f1,f2,rfl,hfp,h1,h2⟩:=hr;have hcell:=hc 0 u (by simp);simp only[Nat.add_zero]at hcell;have hf1:f1=[]:=(List.append_eq_nil_iff.1 hfp.symm).1;subst hf1;refine⟨u,?_,h1⟩;unfold loadVar;rw[Sem.run_bind,hag,hf];simp[run_load,hcell]
 have hmany:∀ ys,ydh i.size cs=some ys->yog d=true->∃ v,(loadVar t ⟨b,o,none⟩).run P w=.ok v w/\Rep w M (.agg ys) μ v []:=by
  intro ys hy hf;obtain⟨us1,us2,f1,f2,rfl,hlen,hfp,h3⟩:=ytl hy hr;have hf1:f1=[]:=(List.append_eq_nil_iff.1 hfp.symm).1;subst hf1
  have hl2:=run_loadCells_list (P:=P) w ⟨b,o,none⟩ us1 (fun j v hv=>by
   rw[Addr.add_lit]
   exact hc j v (by
    have hj:j<us1.length:=(List.getElem?_eq_some_iff.1 hv).1
    rw[List.getElem?_append_left hj];exact hv))
  refine⟨.agg us1.toArray,?_,by simp only[Rep];exact⟨us1,rfl,h3⟩⟩;unfold loadVar;rw[Sem.run_bind,hag,hf];simp only[Result.andThen_ok,if_true,Sem.run_bind,sizeOf,typeInfo,run_program,hinf,Sem.run_pure,hsz, <- hlen,hl2]
 unfold ysh at hl
 cases ht:i.ti with
 | struct fs cmp=>
  rw[ht]at hl hti;simp only at hl;obtain⟨fs',rfl,_⟩:=y0e hti
  cases hy:ydh i.size cs with
  | none=>simp[hy]at hl
  | some ys=>simp only[hy,Option.some.injEq]at hl;subst hl;exact hmany ys hy rfl
 | array n e=>
  rw[ht]at hl hti;simp only at hl;have:=ykf hti;subst this
  cases hy:ydh i.size cs with
  | none=>simp[hy]at hl
  | some ys=>simp only[hy,Option.some.injEq]at hl;subst hl;exact hmany ys hy rfl
 | _=>
  rw[ht]at hl hti;simp only at hl
  cases cs with
  | nil=>simp at hl
  | cons y ys=>
   simp only[Option.some.injEq]at hl;subst hl;refine hone y ys rfl ?_;cases d<;>simp[tiOf,yog]at hti ⊢
mutual
theorem ygp {w : World} {M : Nat -> Prop} : ∀ (x : AV) {μ : Map} {v : Value} {fp : List Nat}, (∀ b, b ∈ fp -> ¬ M b) -> Rep w M x μ v fp -> Rep w M (yeb x) μ v []
 | .sl own e n f,μ,v,fp,hM,h=>by
  simp only[Rep,yeb]at h ⊢;rcases h with⟨h1,h2,h3⟩|⟨b,o,cap,us,fps,hv,hn,hb,hc,ho⟩
  ·exact .inl ⟨h1,h2.bor,trivial⟩
  ·refine .inr ⟨b,o,cap,us,fun _=>[],hv,hn,hb,?_,?_⟩
   ·intro i hi
    obtain⟨h1,h2,h3⟩:=hc i hi;refine⟨yub (f i) ?_ h1,h2,h3⟩;intro x hx
    cases own with
    | none=>rw[ho.2.2 i hi]at hx;simp at hx
    | some T=>
     obtain⟨_,rfl,_⟩:=ho;exact hM x (List.mem_cons_of_mem _ (List.mem_flatMap.2 ⟨i,List.mem_range.2 hi,hx⟩))
   ·refine⟨?_,by simp⟩
    cases own with
    | none=>exact ho.1
    | some T=>obtain⟨_,rfl,_⟩:=ho;exact hM b (by simp)
 | .agg cs,μ,v,fp,hM,h=>by
  simp only[Rep,yeb]at h ⊢;obtain⟨us,e,h⟩:=h;exact⟨us,e,yub cs hM h⟩
 | .tup cs,μ,v,fp,hM,h=>by
  simp only[Rep,yeb]at h ⊢;obtain⟨us,e,h⟩:=h;exact⟨us,e,yub cs hM h⟩
 | .op cs,μ,v,fp,hM,h=>by
  simp only[Rep,yeb]at h ⊢;obtain⟨b,us,T,e,rfl,hb,hh,hone,hr⟩:=h;refine⟨trivial,b,0,us,e,hb,hM b (by simp),hr,fun j u hu => ?_⟩;rw[cell_of_row w b (0+j) us.toArray T (0,0) hh];exact⟨by simpa using hu,hone u (List.mem_of_getElem? hu)⟩
 | .int k n,_,_,_,_,h=>by simp only[Rep,yeb]at h ⊢;exact⟨h.1,trivial⟩
 | .bool b,_,_,_,_,h=>by simp only[Rep,yeb]at h ⊢;exact⟨h.1,trivial⟩
 | .str l,_,_,_,_,h=>by simp only[Rep,yeb]at h ⊢;exact⟨h.1,trivial⟩
 | .nils,_,_,_,_,h=>by simp only[Rep,yeb]at h ⊢;exact⟨h.1,trivial⟩
 | .any,_,_,_,_,h=>by simp only[Rep,yeb]
 | .lit ..,_,_,_,_,h=>by simp only[Rep,yeb]at h ⊢;exact⟨trivial,h.2⟩
 | .ref ..,_,_,_,_,h=>by simp only[Rep,yeb]at h ⊢;exact⟨trivial,h.2⟩
 | .ptr ..,_,_,_,_,h=>by simp only[Rep,yeb]at h ⊢;exact⟨trivial,h.2⟩
 | .pe ..,_,_,_,_,h=>by simp only[Rep,yeb]at h ⊢;exact⟨trivial,h.2⟩
 | .ep ..,_,_,_,_,h=>by simp only[Rep,yeb]at h ⊢;exact⟨trivial,h.2⟩
 | .fn ..,_,_,_,_,h=>by simp only[Rep,yeb]at h ⊢;exact⟨trivial,h.2⟩
 | .gd ..,_,_,_,_,h=>by simp only[Rep,yeb]at h ⊢;exact⟨trivial,h.2⟩
theorem yub {w : World} {M : Nat -> Prop} : ∀ (xs : List AV) {μ : Map} {us : List Value} {fp : List Nat}, (∀ b, b ∈ fp -> ¬ M b) -> RepL w M xs μ us fp -> RepL w M (yz xs) μ us []
 | [],_,_,_,_,h=>by simp only[RepL,yz]at h ⊢;exact⟨h.1,trivial⟩
 | x::xs,μ,us,fp,hM,h=>by
  simp only[RepL,yz]at h ⊢;obtain⟨u,us',f1,f2,rfl,rfl,h1,h2⟩:=h;exact⟨u,us',[],[],rfl,rfl,ygp x (fun b hb=>hM b (by simp[hb])) h1,yub xs (fun b hb=>hM b (by simp[hb])) h2⟩
end
end Go.Ab
namespace Go.Ab
open Go
def allP : List Prop -> Prop
 | []=>True
 | p::ps=>p/\allP ps
theorem yk {l r:List Prop}:allP (l++r)↔allP l/\allP r:=by
 induction l with
 | nil=>simp[allP]
 | cons p l ih=>simp[allP,ih,and_assoc]
def cmpI (op:BinOp) (a b:Int):Option Bool:=
 match op with
 | .lss=>some (decide (a<b))
 | .leq=>some (decide (a<=b))
 | .gtr=>some (decide (b<a))
 | .geq=>some (decide (b<=a))
 | .eql=>some (a == b)
 | .neq=>some (a != b)
 | _=>none
def intA (op:BinOp) (k:IntKind) (a b:Int):Option (AV×List Prop):=
 match op with
 | .add=>some (.int k (k.wrap (a+b)),[])
 | .sub=>some (.int k (k.wrap (a-b)),[])
 | .mul=>some (.int k (k.wrap (a * b)),[])
 | .quo=>some (.int k (k.wrap (a.tdiv b)),[b≠0])
 | .rem=>some (.int k (a.tmod b),[b≠0])
 | .and=>some (.int k (k.wrap (BitVec.ofInt k.bits a &&& BitVec.ofInt k.bits b).toNat),[])
 | .or=>some (.int k (k.wrap (BitVec.ofInt k.bits a ||| BitVec.ofInt k.bits b).toNat),[])
 | .xor=>some (.int k (k.wrap (BitVec.ofInt k.bits a ^^^ BitVec.ofInt k.bits b).toNat),[])
 | .lss=>some (.bool (decide (a<b)),[])
 | .leq=>some (.bool (decide (a<=b)),[])
 | .gtr=>some (.bool (decide (b<a)),[])
 | .geq=>some (.bool (decide (b<=a)),[])
 | .eql=>some (.bool (a == b),[])
 | .neq=>some (.bool (a != b),[])
 | .shl=>some (.int k (k.wrap (a * 2 ^ (Min.min b.toNat k.bits))),[0<=b])
 | .shr=>some (.int k (a.fdiv (2 ^ (Min.min b.toNat k.bits))),[0<=b])
 | _=>none
def strA (op:BinOp) (a b:List UInt8):Option (AV×List Prop):=
 match op with
 | .add=>some (.str (a++b),[((a.length+b.length:Nat):Int)<=9223372036854775807])
 | .eql=>some (.bool (a == b),[])
 | .neq=>some (.bool (a != b),[])
 | .lss=>some (.bool (Op.bytesLess a b),[])
 | .leq=>some (.bool (Op.bytesLess a b || a == b),[])
 | .gtr=>some (.bool (!(Op.bytesLess a b || a == b)),[])
 | .geq=>some (.bool (!(Op.bytesLess a b)),[])
 | _=>none
def ymn (Γ:Env) (t:TypeId) (x y:AV):Option Bool:=
  match tget Γ t with
  | some i => match i.ti, x, y with
    | .int _,.int k a,.int k' b=>if k=k' then some (a == b)else none
    | .string,.str a,.str b=>some (a == b)
    | .bool,.bool a,.bool b=>some (a == b)
    | _,_,_=>none
  | none=>none
def nth : List AV -> Nat -> Option AV
 | [],_=>none
 | x::_,0=>some x
 | _::xs,n+1=>nth xs n
def eqFields (Γ : Env) (xs ys : List AV) : List (Nat × TypeId) -> Option Bool
  | []=>some true
  | (o, t) :: fs => match nth xs o, nth ys o with
    | some x, some y => match ymn Γ t x y, eqFields Γ xs ys fs with
      | some b,some r=>some (b && r)
      | _,_=>none
    | _,_=>none
def ymw (Γ : Env) (xs ys : List AV) (t : TypeId) (c : Nat) : Nat -> Nat -> Option Bool
  | 0,_=>some true
  | n + 1, i => match nth xs (i * c), nth ys (i * c) with
    | some x, some y => match ymn Γ t x y, ymw Γ xs ys t c n (i + 1) with
      | some b,some r=>some (b && r)
      | _,_=>none
    | _,_=>none
def eqA (Γ:Env) (t:TypeId) (x y:AV):Option Bool:=
  match x,y with
  | .bool a, .bool b => match tget Γ t with
    | some i => match i.ti with
      | .bool=>some (a == b)
      | _=>none
    | none=>none
  | .agg xs, .agg ys => match tget Γ t with
    | some i => match i.ti with
      | .struct fs true=>eqFields Γ xs ys fs
      | .array n et => match tget Γ et with
        | some k => match k.ti with
          | .bool=>ymw Γ xs ys et k.size n 0
          | _=>none
        | none=>none
      | _=>none
    | none=>none
  | _,_=>none
def binA (Γ:Env) (op:BinOp) (t:TypeId) (x y:AV):Option (AV×List Prop):=
  match x,y with
  | .int k a,.int k' b=>if k=k' then intA op k a b else
    match op with
    | .shl=>some (.int k (k.wrap (a * 2 ^ (Min.min b.toNat k.bits))),[0<=b])
    | .shr=>some (.int k (a.fdiv (2 ^ (Min.min b.toNat k.bits))),[0<=b])
    | _=>none
  | .str a,.str b=>strA op a b
  | x, y => match op with
    | .eql => match eqA Γ t x y with
      | some b=>some (.bool b,[])
      | none=>none
    | .neq => match eqA Γ t x y with
      | some b=>some (.bool (!b),[])
      | none=>none
    | _=>none
section
variable {P:Program} {Γ:Env} {w:World} {M:Nat->Prop} {μ:Map}
theorem Rep.val_int {k:IntKind} {n:Int} {v:Value} {fp:List Nat} (h:Rep w M (.int k n) μ v fp):v=.int k n:=by simp only[Rep]at h;exact h.1
theorem Rep.val_bool {b:Bool} {v:Value} {fp:List Nat} (h:Rep w M (.bool b) μ v fp):v=.bool b:=by simp only[Rep]at h;exact h.1
theorem Rep.val_str {l:List UInt8} {v:Value} {fp:List Nat} (h:Rep w M (.str l) μ v fp):v=.string ⟨l.toArray⟩:=by simp only[Rep]at h;exact h.1.1
theorem Rep.len_str {l:List UInt8} {v:Value} {fp:List Nat} (h:Rep w M (.str l) μ v fp):l.length<=maxLen:=by simp only[Rep]at h;exact h.1.2
theorem yct:maxLen=9223372036854775807:=by decide
theorem yqb (k:IntKind) (n:Int):Rep w M (.int k n) μ (.int k n) []:=by simp[Rep]
theorem y2c (b:Bool):Rep w M (.bool b) μ (.bool b) []:=by simp[Rep]
theorem y1s (s:ByteArray):Rep w M (bif decide (s.data.toList.length<=4096)then .str s.data.toList else .any) μ (.string s) []:=by
 cases h:decide (s.data.toList.length<=4096)with
 | false=>simp[Rep]
 | true=>
  have h:=of_decide_eq_true h;have e:=yct;simp only[cond_true,Rep];exact⟨⟨by simp,by omega⟩,trivial⟩
theorem y7b (l:List UInt8) (hl:l.length<=maxLen):Rep w M (.str l) μ (.string ⟨l.toArray⟩) []:=by simp[Rep,hl]
theorem y1z {op:BinOp} {k:IntKind} {a b:Int} {x:AV} {obl:List Prop} (h:intA op k a b=some (x,obl)) (ho:allP obl) (t:TypeId) :
  ∃ v,(binOp op t (.int k a) (.int k b)).run P w=.ok v w/\Rep w M x μ v []:=by
 cases op<;>simp only[intA,Option.some.injEq,Prod.mk.injEq,reduceCtorEq]at h
 case quo=>
  obtain⟨rfl,rfl⟩:=h;have hb:b≠0:=ho.1;exact⟨_,by simp[binOp,Op.intDiv,hb],yqb _ _⟩
 case rem=>
  obtain⟨rfl,rfl⟩:=h;have hb:b≠0:=ho.1;exact⟨_,by simp[binOp,Op.intDiv,hb],yqb _ _⟩
 case shl=>
  obtain⟨rfl,rfl⟩:=h;have hb:¬ b<0:=by have:=ho.1;omega
  exact⟨_,by simp[binOp,Op.shift,hb],yqb _ _⟩
 case shr=>
  obtain⟨rfl,rfl⟩:=h;have hb:¬ b<0:=by have:=ho.1;omega
  exact⟨_,by simp[binOp,Op.shift,hb],yqb _ _⟩
 all_goals
  obtain⟨rfl,rfl⟩:=h
  first
   | (refine⟨_,?_,y2c _⟩;simp[binOp,Op.intCmp];done)
   | (refine⟨_,?_,yqb _ _⟩;simp only[binOp,ne_eq,not_true_eq_false,if_false];rfl)
theorem yjz {op:BinOp} {a b:List UInt8} {x:AV} {obl:List Prop} (h:strA op a b=some (x,obl)) (ho:allP obl) (t:TypeId) :
  ∃ v,(binOp op t (.string ⟨a.toArray⟩) (.string ⟨b.toArray⟩)).run P w=.ok v w/\Rep w M x μ v []:=by
 cases op<;>simp only[strA,Option.some.injEq,Prod.mk.injEq,reduceCtorEq]at h
 case add=>
  obtain⟨rfl,rfl⟩:=h;have hb:((a.length+b.length:Nat):Int)<=9223372036854775807:=ho.1;refine⟨_,?_,y7b _ (by rw[yct,List.length_append];omega)⟩
  have e:(⟨a.toArray⟩:ByteArray)++⟨b.toArray⟩=⟨(a++b).toArray⟩:=by
   apply ByteArray.ext;simp[ByteArray.data_append]
  have hs:¬ (((⟨a.toArray⟩:ByteArray).size+(⟨b.toArray⟩:ByteArray).size:Nat):Int) > IntKind.i64.max:=by
   have e1:(⟨a.toArray⟩:ByteArray).size=a.length:=by simp[ByteArray.size]
   have e2:(⟨b.toArray⟩:ByteArray).size=b.length:=by simp[ByteArray.size]
   have e3:IntKind.i64.max=9223372036854775807:=by decide
   rw[e1,e2,e3];omega
  simp only[binOp,Op.stringOp,if_neg hs,e,Sem.run_pure]
 all_goals
  obtain⟨rfl,rfl⟩:=h
  first
   | (refine⟨_,?_,y2c _⟩;simp[binOp,Op.stringOp];done)
   | (refine⟨_,?_,y2c _⟩;simp[binOp,Op.stringOp,bne];done)
theorem ysk {t:TypeId} {x y:AV} {u v:Value} {b:Bool} (hΓ:TyOk P Γ) (h:ymn Γ t x y=some b) (hx:Rep w M x μ u []) (hy:Rep w M y μ v []) (d:Nat) :
  (Op.equalIn (d+1) t u v).run P w=.ok b w/\(isAgg t).run P w=.ok false w:=by
 unfold ymn at h
 cases ht:tget Γ t with
 | none=>simp[ht]at h
 | some i=>
  obtain⟨inf,ds,hinf,hd,hti,_⟩:=yg (hΓ.get ht);simp only[ht]at h;split at h
  ·rename_i k0 k1 a k2 b' hk
   rw[hk]at hti;have:=y6l hti;subst this;have e1:=hx.val_int;have e2:=hy.val_int;subst e1;subst e2;split at h
   ·rename_i hkk
    subst hkk;simp only[Option.some.injEq]at h;subst h;exact⟨run_equalIn_int w d t _ _ _ _ hd,by rw[ybe hd];rfl⟩
   ·simp at h
  ·rename_i a b' hk
   rw[hk]at hti;have:=y1c hti;subst this;have e1:=hx.val_str;have e2:=hy.val_str;subst e1;subst e2;simp only[Option.some.injEq]at h;subst h;refine⟨?_,by rw[ybe hd];rfl⟩;rw[run_equalIn_string w d t _ _ hd];simp
  ·rename_i a b' hk
   rw[hk]at hti;have:=yzu hti;subst this;have e1:=hx.val_bool;have e2:=hy.val_bool;subst e1;subst e2;simp only[Option.some.injEq]at h;subst h;exact⟨run_equalIn_bool' w d t _ _ hd,by rw[ybe hd];rfl⟩
  ·simp at h
theorem y8j : ∀ {xs : List AV} {us : List Value} {n : Nat} {x : AV}, nth xs n = some x -> RepL w M xs μ us [] -> ∃ u, us[n]? = some u /\ Rep w M x μ u []
 | [],_,_,_,h,_=>by simp[nth]at h
 | y::xs,us,n,x,h,hr=>by
  simp only[RepL]at hr;obtain⟨u,us',f1,f2,rfl,hfp,h1,h2⟩:=hr;obtain⟨rfl,rfl⟩:=List.append_eq_nil_iff.1 hfp.symm
  cases n with
  | zero=>simp only[nth,Option.some.injEq]at h;subst h;exact⟨u,rfl,h1⟩
  | succ n=>
   simp only[nth]at h;obtain⟨u',h3,h4⟩:=y8j h h2;exact⟨u',by simpa using h3,h4⟩
theorem ynf {t:TypeId} {us:List Value} {n:Nat} {u:Value} (hag:(isAgg t).run P w=.ok false w) (h:us[n]? = some u):(part t us.toArray n).run P w=.ok u w:=by
 unfold part;rw[Sem.run_bind,hag];simp[h]
theorem yjh (hΓ:TyOk P Γ) {xs ys:List AV} {us vs:List Value} (hx:RepL w M xs μ us []) (hy:RepL w M ys μ vs []) (d:Nat):∀ (fs:List Field) {b:Bool},
  (fs.all fun f=>f.name != "_")=true->eqFields Γ xs ys (fs.map fun f=>(f.offset,f.type))=some b->(Op.eqFields (d+1) us.toArray vs.toArray fs).run P w=.ok b w
 | [],b,_,h=>by simp only[List.map_nil,eqFields,Option.some.injEq]at h;subst h;simp[Op.eqFields]
 | f::fs,b,hn,h=>by
  simp only[List.all_cons,Bool.and_eq_true]at hn;simp only[List.map_cons,eqFields]at h
  cases h1:nth xs f.offset with
  | none=>simp[h1]at h
  | some x=>
   cases h2:nth ys f.offset with
   | none=>simp[h1,h2]at h
   | some y=>
    simp only[h1,h2]at h
    cases h3:ymn Γ f.type x y with
    | none=>simp[h3]at h
    | some b1=>
     cases h4:eqFields Γ xs ys (fs.map fun f=>(f.offset,f.type))with
     | none=>simp[h3,h4]at h
     | some b2=>
      simp only[h3,h4,Option.some.injEq]at h;subst h;obtain⟨u,hu,hxu⟩:=y8j h1 hx;obtain⟨v,hv,hyv⟩:=y8j h2 hy;obtain⟨he,hag⟩:=ysk hΓ h3 hxu hyv d;have ih:=yjh hΓ hx hy d fs hn.2 h4
      have hne:f.name ≠ "_" := by simpa using hn.1
      simp only[Op.eqFields,if_pos hne,Sem.run_bind,ynf hag hu,ynf hag hv,he,Result.andThen_ok];cases b1
      ·simp
      ·simp[ih]
theorem y0l (hΓ:TyOk P Γ) {xs ys:List AV} {us vs:List Value} (hx:RepL w M xs μ us []) (hy:RepL w M ys μ vs []) (d:Nat) {et:TypeId} {c:Nat} (hc:P.cellsOf et=c):∀ (n i:Nat) {b:Bool},
  ymw Γ xs ys et c n i=some b->(Op.eqItems (d+1) et (P.cellsOf et) us.toArray vs.toArray (List.range' i n)).run P w=.ok b w
 | 0,i,b,h=>by simp only[ymw,Option.some.injEq]at h;subst h;simp[Op.eqItems]
 | n+1,i,b,h=>by
  simp only[ymw]at h
  cases h1:nth xs (i * c)with
  | none=>simp[h1]at h
  | some x=>
   cases h2:nth ys (i * c)with
   | none=>simp[h1,h2]at h
   | some y=>
    simp only[h1,h2]at h
    cases h3:ymn Γ et x y with
    | none=>simp[h3]at h
    | some b1=>
     cases h4:ymw Γ xs ys et c n (i+1)with
     | none=>simp[h3,h4]at h
     | some b2=>
      simp only[h3,h4,Option.some.injEq]at h;subst h;obtain⟨u,hu,hxu⟩:=y8j h1 hx;obtain⟨v,hv,hyv⟩:=y8j h2 hy;obtain⟨he,hag⟩:=ysk hΓ h3 hxu hyv d;have ih:=y0l hΓ hx hy d hc n (i+1) h4;rw[<- hc]at hu hv;simp only[List.range'_succ,Op.eqItems,Sem.run_bind,ynf hag hu,ynf hag hv,he,Result.andThen_ok];cases b1
      ·simp
      ·simp[ih]
theorem yop {t et:TypeId} {n:Nat} (ht:P.underlying t=some (.array n et)) (he:P.underlying et=some .bool):P.eqGuardType P.depth t=false:=by
 have hd:P.depth=(2 * (P.types.size+Made.depth))+1+1:=rfl;rw[hd,Program.eqGuardType,ht];simp only;rw[Program.eqGuardType,he]
theorem yf0 (hΓ : TyOk P Γ) {op : BinOp} {t : TypeId} {x y r : AV} {u v : Value} {obl : List Prop} (h : binA Γ op t x y = some (r, obl)) (ho : allP obl)
  (hx:Rep w M x μ u []) (hy:Rep w M y μ v []) (xo yo:Operand) :
  ∃ z,(do eqGuard op t xo yo u v;binOp op t u v:Sem Value).run P w=.ok z w/\Rep w M r μ z []:=by
 unfold binA at h;split at h
 ·rename_i k a k' b
  have e1:=hx.val_int;have e2:=hy.val_int;subst e1;subst e2;have hg:(eqGuard op t xo yo (.int k a) (.int k' b)).run P w=.ok () w:=by cases op<;>simp[eqGuard]
  rw[Sem.run_bind,hg];simp only[Result.andThen_ok];split at h
  ·rename_i hk;subst hk
   exact y1z h ho t
  ·split at h
   ·simp only[Option.some.injEq,Prod.mk.injEq]at h
    obtain⟨rfl,rfl⟩:=h;have hb:¬ b<0:=by have:=ho.1;omega
    exact⟨_,by simp[binOp,Op.shift,hb],yqb _ _⟩
   ·simp only[Option.some.injEq,Prod.mk.injEq]at h
    obtain⟨rfl,rfl⟩:=h;have hb:¬ b<0:=by have:=ho.1;omega
    exact⟨_,by simp[binOp,Op.shift,hb],yqb _ _⟩
   ·simp at h
 ·rename_i a b
  have e1:=hx.val_str;have e2:=hy.val_str;subst e1;subst e2;have hg:(eqGuard op t xo yo (.string ⟨a.toArray⟩) (.string ⟨b.toArray⟩)).run P w=.ok () w:=by cases op<;>simp[eqGuard]
  rw[Sem.run_bind,hg];simp only[Result.andThen_ok];exact yjz h ho t
 ·have key:∀ b,eqA Γ t x y=some b->(op=.eql\/op=.neq)->∃ z,(do eqGuard op t xo yo u v;binOp op t u v:Sem Value).run P w=.ok z w/\z=.bool (if op=.eql then b else !b):=by
   intro b hb hop;unfold eqA at hb;split at hb
   ·rename_i p q _ _
    have e1:=hx.val_bool;have e2:=hy.val_bool;subst e1;subst e2
    cases ht:tget Γ t with
    | none=>simp[ht]at hb
    | some i=>
     obtain⟨inf,ds,hinf,hd,hti,_⟩:=yg (hΓ.get ht);simp only[ht]at hb;split at hb
     ·rename_i hk
      rw[hk]at hti;have:=yzu hti;subst this;simp only[Option.some.injEq]at hb;subst hb;have he:=run_equalIn_bool' (P:=P) w 9999 t p q hd;rcases hop with rfl|rfl
      ·exact⟨_,by simp[eqGuard,binOp,Op.equal,Op.maxDepth,he],rfl⟩
      ·exact⟨_,by simp[eqGuard,binOp,Op.equal,Op.maxDepth,he],rfl⟩
     ·simp at hb
   ·rename_i xs ys _ _
    cases ht:tget Γ t with
    | none=>simp[ht]at hb
    | some i=>
     obtain⟨inf,ds,hinf,hd,hti,_⟩:=yg (hΓ.get ht);simp only[ht]at hb;split at hb
     ·rename_i fs hk
      rw[hk]at hti;obtain⟨fs',rfl,rfl,hc⟩:=y0e hti;simp only[Rep]at hx hy;obtain⟨us,rfl,hx⟩:=hx;obtain⟨vs,rfl,hy⟩:=hy
      have hc':P.stoodInHeld t=false/\P.eqGuardType P.depth t=false/\(fs'.toList.all fun f=>f.name != "_")=true:=by
       have:=hc.symm;simp only[Bool.and_eq_true,Bool.not_eq_true']at this;exact⟨this.1.1,this.1.2,this.2⟩
      have hf:P.fieldsOf t=fs':=by simp[Program.fieldsOf,hd]
      have he:(Op.equalIn 10000 t (.agg us.toArray) (.agg vs.toArray)).run P w=.ok b w:=by
       rw[run_equalIn_struct w 9999 t _ _ (by rw[hf];exact hd) hc'.1,hf];exact yjh hΓ hx hy 9998 fs'.toList hc'.2.2 hb
      have hg:=run_eqGuard_agg (P:=P) w op t xo yo us.toArray vs.toArray hc'.2.1;rw[Sem.run_bind,hg];simp only[Result.andThen_ok];rcases hop with rfl|rfl
      ·rw[run_eql_struct,he];exact⟨_,rfl,rfl⟩
      ·rw[run_neq_struct,he];exact⟨_,rfl,rfl⟩
     ·rename_i n et hk
      rw[hk]at hti;have:=ykf hti;subst this;simp only[Rep]at hx hy;obtain⟨us,rfl,hx⟩:=hx;obtain⟨vs,rfl,hy⟩:=hy
      cases hte:tget Γ et with
      | none=>simp[hte]at hb
      | some k=>
       obtain⟨infe,de,hinfe,hde,htie,hsze,_⟩:=yg (hΓ.get hte);simp only[hte]at hb;split at hb
       ·rename_i hke
        rw[hke]at htie;have:=yzu htie;subst this;have hcs:P.cellsOf et=k.size:=by simp[Program.cellsOf,hinfe,hsze]
        have he:(Op.equalIn 10000 t (.agg us.toArray) (.agg vs.toArray)).run P w=.ok b w:=by
         rw[run_equalIn_array w 9999 us.toArray vs.toArray hd hinfe,List.range_eq_range'];exact y0l hΓ hx hy 9998 hcs n 0 hb
        have hg:=run_eqGuard_agg (P:=P) w op t xo yo us.toArray vs.toArray (yop hd hde);rw[Sem.run_bind,hg];simp only[Result.andThen_ok];rcases hop with rfl|rfl
        ·rw[run_eql_struct,he];exact⟨_,rfl,rfl⟩
        ·rw[run_neq_struct,he];exact⟨_,rfl,rfl⟩
       ·simp at hb
     ·simp at hb
   ·simp at hb
  split at h
  ·cases hb:eqA Γ t x y with
   | none=>simp[hb]at h
   | some b=>
    simp only[hb,Option.some.injEq,Prod.mk.injEq]at h;obtain⟨rfl,rfl⟩:=h;obtain⟨z,h1,rfl⟩:=key b hb (.inl rfl);exact⟨_,h1,by simpa using y2c b⟩
  ·cases hb:eqA Γ t x y with
   | none=>simp[hb]at h
   | some b=>
    simp only[hb,Option.some.injEq,Prod.mk.injEq]at h;obtain⟨rfl,rfl⟩:=h;obtain⟨z,h1,rfl⟩:=key b hb (.inr rfl);exact⟨_,h1,by simpa using y2c (!b)⟩
  ·simp at h
end
end Go.Ab
namespace Go.Ab
open Go
def unA (op:UnOp) (x:AV):Option (AV×List Prop):=
 match op,x with
 | .not,.bool b=>some (.bool (!b),[])
 | .neg,.int k n=>some (.int k (k.wrap (0-n)),[])
 | _,_=>none
def yyc : Nat -> List AV -> List AV
 | 0,l=>l
 | _+1,[]=>[]
 | n+1,_::l=>yyc n l
def nthF : List (Nat × TypeId) -> Nat -> Option (Nat × TypeId)
 | [],_=>none
 | x::_,0=>some x
 | _::l,n+1=>nthF l n
def y2x (Γ:Env) (t:TypeId) (x:AV) (i:Nat):Option (AV×List Prop):=
  match tget Γ t with
  | some j => match j.ti with
    | .struct fs _ => match nthF fs i with
      | some (off, ft) => match tget Γ ft with
        | some k => match k.size with
          | 0=>none
          | _ + 1 => match x with
            | .ep cs=>some (.ep (yyc off cs),[])
            | .ptr id o=>some (.ptr id (o+off),[])
            | .pe id e n o=>some (.pe id e n (o+off),[])
            | _=>none
        | none=>none
      | none=>none
    | _=>none
  | none=>none
def yyy (Γ:Env) (t:TypeId) (x i:AV):Option (AV×List Prop):=
  match tget Γ t,i with
  | some j, .int _ i => match j.ti with
    | .slice et => match tget Γ et with
      | some k => match x with
        | .sl none e n f=>if k.size=e then some (.ep (f i.toNat),[0<=i/\i<(n:Int)])else none
        | .ref id e off n=>if k.size=e then some (.pe id e (off+i.toNat) 0,[0<=i/\i<(n:Int)])else none
        | .nils=>some (.any,[False])
        | _=>none
      | none=>none
    | .array n et => match tget Γ et with
      | some k => match x with
        | .ptr id o=>some (.ptr id (o+i.toNat * k.size),[0<=i/\i<(n:Int)])
        | .ep cs=>some (.ep (yyc (i.toNat * k.size) cs),[0<=i/\i<(n:Int)])
        | _=>none
      | none=>none
    | _=>none
  | _,_=>none
def ykw : List AV -> List Int
 | .int _ n::r=>n::ykw r
 | _::r=>0::ykw r
 | []=>[]
def allI (k : IntKind) : List AV -> Bool
 | .int k' _::r=>if k'=k then allI k r else false
 | _::_=>false
 | []=>true
def y3v : List AV -> List (List UInt8)
 | .str l::r=>l::y3v r
 | _::r=>[]::y3v r
 | []=>[]
def allS : List AV -> Bool
 | .str _::r=>allS r
 | _::_=>false
 | []=>true
def yrw (Γ:Env) (t:TypeId) (x i:AV):Option (AV×List Prop):=
  match tget Γ t,i with
  | some j, .int _ i => match j.ti, x with
    | .string,.str l=>some (.int .u8 (l.getD i.toNat 0).toNat,[0<=i/\i<(l.length:Int)])
    | .array n e, .agg cs => match tget Γ e with
      | some ke => match ke.ti with
        | .int k=>if ke.size=1/\cs.length=n/\allI k cs=true then some (.int k ((ykw cs).getD i.toNat 0),[0<=i/\i<(n:Int)])else none
        | .string=>if ke.size=1/\cs.length=n/\allS cs=true then some (.str ((y3v cs).getD i.toNat []),[0<=i/\i<(n:Int)])else none
        | _=>none
      | none=>none
    | _,_=>none
  | _,_=>none
def fst2 {α:Type} (x:Option α) (ps:List Prop):Option (α×List Prop):=
 match x with
 | some y=>some (y,ps)
 | none=>none
def nthE : List Ent -> Nat -> Option Ent
 | [],_=>none
 | x::_,0=>some x
 | _::l,n+1=>nthE l n
def ydo (Γ:Env) (h:List Ent) (t:TypeId) (x:AV):Option (AV×List Prop):=
  match tget Γ t with
  | some j => match x with
    | .ep cs=>fst2 (ysh j cs) []
    | .ptr id o => match nthE h id with
      | some (.box cs)=>fst2 (ysh j (yyc o cs)) []
      | _=>none
    | .pe id e i o => match nthE h id with
      | some (.arr _ e' n f)=>if e=e' then fst2 (ysh j (yyc o (yz (f i)))) [i<n]else none
      | some (.byt l)=>if e=1/\o=0 then fst2 (ysh j [.int .u8 (l.getD i 0).toNat]) [i<l.length]else none
      | _=>none
    | _=>none
  | none=>none
section
variable {P:Program} {Γ:Env} {w:World} {M:Nat->Prop} {μ:Map}
theorem y03 {op:UnOp} {x r:AV} {u:Value} {obl:List Prop} (h:unA op x=some (r,obl)) (hx:Rep w M x μ u []) :
  ∃ z,(Op.unary op u).run P w=.ok z w/\Rep w M r μ z []:=by
 unfold unA at h;split at h
 ·simp only[Option.some.injEq,Prod.mk.injEq]at h
  obtain⟨rfl,rfl⟩:=h;have e1:=hx.val_bool;subst e1;exact⟨_,by simp[Op.unary],y2c _⟩
 ·simp only[Option.some.injEq,Prod.mk.injEq]at h
  obtain⟨rfl,rfl⟩:=h;have e1:=hx.val_int;subst e1;exact⟨_,by simp[Op.unary,Op.intArith],yqb _ _⟩
 ·simp at h
theorem yoe : ∀ {n : Nat} {cs : List AV} {us : List Value}, RepL w M cs μ us [] -> RepL w M (yyc n cs) μ (us.drop n) []
 | 0,cs,us,h=>by simpa [yyc]using h
 | n+1,[],us,h=>by
  simp only[RepL]at h;simp[yyc,RepL,h.1]
 | n+1,x::cs,us,h=>by
  simp only[RepL]at h;obtain⟨u,us',f1,f2,rfl,hfp,h1,h2⟩:=h;obtain⟨rfl,rfl⟩:=List.append_eq_nil_iff.1 hfp.symm;simpa [yyc]using yoe h2
theorem yyd.drop {b o n:Nat} {us:List Value} (h:yyd w b o us):yyd w b (o+n) (us.drop n):=by
 intro j u hu;rw[List.getElem?_drop]at hu;have:=h (n+j) u hu;rwa [<- Nat.add_assoc]at this
theorem ykl : ∀ (l : List (Nat × TypeId)) (n : Nat), nthF l n = l[n]?
 | [],n=>by simp[nthF]
 | x::l,0=>by simp[nthF]
 | x::l,n+1=>by simp[nthF,ykl l n]
theorem yjb : ∀ (l : List Ent) (n : Nat), nthE l n = l[n]?
 | [],n=>by simp[nthE]
 | x::l,0=>by simp[nthE]
 | x::l,n+1=>by simp[nthE,yjb l n]
theorem yrb {t:TypeId} {i:TInfo} (h:yze P t=some i):(sizeOf t).run P w=.ok i.size w:=by
 obtain⟨inf,d,hinf,hd,hti,hsz,_⟩:=yg h;simp[sizeOf,typeInfo,hinf,hsz]
theorem y2t (hΓ:TyOk P Γ) {t:TypeId} {x r:AV} {i:Nat} {u:Value} {obl:List Prop} (h:y2x Γ t x i=some (r,obl)) (hx:Rep w M x μ u []) :
  ∃ z,(Instr.fieldAt t u i).run P w=.ok z w/\Rep w M r μ z []:=by
 unfold y2x at h
 cases ht:tget Γ t with
 | none=>simp[ht]at h
 | some j=>
  obtain⟨inf,d,hinf,hd,hti,_⟩:=yg (hΓ.get ht);simp only[ht]at h;split at h
  ·rename_i fs cmp hk
   rw[hk]at hti;obtain⟨fs',rfl,rfl,_⟩:=y0e hti;rw[ykl]at h
   cases hf:(fs'.toList.map fun f=>(f.offset,f.type))[i]? with
   | none=>simp[hf]at h
   | some p=>
    obtain⟨off,ft⟩:=p;simp only[hf]at h
    cases hft:tget Γ ft with
    | none=>simp[hft]at h
    | some k=>
     simp only[hft]at h;split at h
     ·simp at h
     ·rename_i m hm
      simp only[List.getElem?_map,Option.map_eq_some_iff,Prod.mk.injEq]at hf;obtain⟨f,hf1,hf2,hf3⟩:=hf;have hf1':fs'[i]? = some f:=by simpa using hf1
      have hso:(sizeOf f.type).run P w=.ok (m+1) w:=by rw[hf3,yrb (hΓ.get hft),hm]
      have key:∀ b o,(Instr.fieldAt t (.pointer (some ⟨b,o,none⟩)) i).run P w=.ok (.pointer (some ⟨b,o+off,none⟩)) w:=by
       intro b o;simp[Instr.fieldAt,run_underlying hd,hf1',Instr.sureAddr,fieldPlace,hso,Addr.add_lit,hf2]
      split at h
      ·rename_i cs
       simp only[Option.some.injEq,Prod.mk.injEq]at h;obtain⟨rfl,rfl⟩:=h;simp only[Rep]at hx;obtain⟨_,b,o,us,rfl,hb,hM,hl,hc⟩:=hx;refine⟨_,key b o,?_⟩;simp only[Rep];exact⟨trivial,b,o+off,us.drop off,rfl,hb,hM,yoe hl,hc.drop⟩
      ·rename_i id o
       simp only[Option.some.injEq,Prod.mk.injEq]at h;obtain⟨rfl,rfl⟩:=h;simp only[Rep]at hx;obtain⟨_,b,cap,hm',rfl⟩:=hx;refine⟨_,key b o,?_⟩;simp only[Rep];exact⟨trivial,b,cap,hm',rfl⟩
      ·rename_i id e n o
       simp only[Option.some.injEq,Prod.mk.injEq]at h;obtain⟨rfl,rfl⟩:=h;simp only[Rep]at hx;obtain⟨_,b,cap,hm',rfl⟩:=hx;refine⟨_,key b _,?_⟩;simp only[Rep];exact⟨trivial,b,cap,hm',by simp[Nat.add_assoc]⟩
      ·simp at h
  ·simp at h
theorem yqu (hΓ : TyOk P Γ) {t : TypeId} {x y r : AV} {u v : Value} {obl : List Prop} (h : yyy Γ t x y = some (r, obl)) (ho : allP obl)
  (hx:Rep w M x μ u []) (hy:Rep w M y μ v []) :
  ∃ z,(Instr.indexAt t u v).run P w=.ok z w/\Rep w M r μ z []:=by
 unfold yyy at h;split at h
 ·rename_i j ik i ht
  obtain⟨inf,d,hinf,hd,hti,_⟩:=yg (hΓ.get ht);have ey:=hy.val_int;subst ey;split at h
  ·rename_i et hk
   rw[hk]at hti;have:=y6b hti;subst this
   cases het:tget Γ et with
   | none=>simp[het]at h
   | some k=>
    simp only[het]at h;have hso:=yrb (P:=P) (w:=w) (hΓ.get het);split at h
    ·rename_i e n f
     split at h
     ·rename_i hke
      simp only[Option.some.injEq,Prod.mk.injEq]at h;obtain⟨rfl,rfl⟩:=h;have hb:=ho.1;simp only[Rep]at hx;rcases hx with⟨h1,_,_⟩|⟨b,o,cap,us,fps,rfl,hn,hbl,hc,hM,_,hfp⟩
      ·omega
      ·have hi:i.toNat<n:=by omega
       obtain⟨c1,c2,c3⟩:=hc i.toNat hi;refine⟨.pointer (some ⟨b,o+i.toNat * e,none⟩),?_,?_⟩
       ·simp[Instr.indexAt,asIntOf,run_underlying hd,hso,hb,Addr.add_lit,hke]
       ·simp only[Rep]
        exact⟨trivial,b,_,us i.toNat,rfl,hbl,hM,by rw[hfp _ hi]at c1;exact c1,c3⟩
     ·simp at h
    ·rename_i id e off n
     split at h
     ·rename_i hke
      simp only[Option.some.injEq,Prod.mk.injEq]at h;obtain⟨rfl,rfl⟩:=h;have hb:=ho.1;simp only[Rep]at hx;obtain⟨_,hx⟩:=hx
      cases hm:μ id with
      | none=>simp[hm]at hx
      | some L=>
       cases L with
       | nil=>simp only[hm]at hx;omega
       | blk b cap=>
        simp only[hm]at hx;obtain⟨hcap,o,rfl,hoo⟩:=hx
        have hoe:o=off * e:=by
         rcases hoo with h1|h1
         ·omega
         ·exact h1
        subst hoe;refine⟨.pointer (some ⟨b,off * e+i.toNat * e,none⟩),?_,?_⟩
        ·simp[Instr.indexAt,asIntOf,run_underlying hd,hso,hb,Addr.add_lit,hke]
        ·simp only[Rep]
         exact⟨trivial,b,cap,hm,by simp[Nat.add_mul]⟩
     ·simp at h
    ·simp only[Option.some.injEq,Prod.mk.injEq]at h
     obtain⟨rfl,rfl⟩:=h;exact ho.1.elim
    ·simp at h
  ·rename_i n et hk
   rw[hk]at hti;have:=ykf hti;subst this
   cases het:tget Γ et with
   | none=>simp[het]at h
   | some k=>
    simp only[het]at h;have hso:=yrb (P:=P) (w:=w) (hΓ.get het);split at h
    ·rename_i id o
     simp only[Option.some.injEq,Prod.mk.injEq]at h;obtain⟨rfl,rfl⟩:=h;have hb:=ho.1;simp only[Rep]at hx;obtain⟨_,b,cap,hm,rfl⟩:=hx;refine⟨.pointer (some ⟨b,o+i.toNat * k.size,none⟩),?_,?_⟩
     ·simp[Instr.indexAt,asIntOf,run_underlying hd,Instr.sureAddr,hso,hb,Addr.add_lit]
     ·simp only[Rep]
      exact⟨trivial,b,cap,hm,rfl⟩
    ·rename_i cs
     simp only[Option.some.injEq,Prod.mk.injEq]at h;obtain⟨rfl,rfl⟩:=h;have hb:=ho.1;simp only[Rep]at hx;obtain⟨_,b,o,us,rfl,hbl,hM,hl,hc⟩:=hx;refine⟨.pointer (some ⟨b,o+i.toNat * k.size,none⟩),?_,?_⟩
     ·simp[Instr.indexAt,asIntOf,run_underlying hd,Instr.sureAddr,hso,hb,Addr.add_lit]
     ·simp only[Rep]
      exact⟨trivial,b,_,us.drop _,rfl,hbl,hM,yoe hl,hc.drop⟩
    ·simp at h
  ·simp at h
 ·simp at h
theorem yqy {k : IntKind} : ∀ {cs : List AV} {us : List Value}, allI k cs = true -> RepL w M cs μ us [] -> ∀ i, i < cs.length -> us[i]? = some (.int k ((ykw cs).getD i 0))
 | [],us,_,_,i,hi=>by simp at hi
 | c::cs,us,h,hr,i,hi=>by
  simp only[RepL]at hr;obtain⟨u,us',f1,f2,rfl,hf,h1,h2⟩:=hr;obtain⟨rfl,rfl⟩:=List.append_eq_nil_iff.1 hf.symm
  cases c with
  | int k' n=>
   simp only[allI]at h;split at h
   ·rename_i e;subst e
    cases i with
    | zero=>have:=h1.val_int;subst this;simp[ykw]
    | succ i=>simpa [ykw]using yqy h h2 i (by simpa using hi)
   ·cases h
  | _=>simp[allI]at h
theorem yux : ∀ {cs : List AV} {us : List Value}, allS cs = true -> RepL w M cs μ us [] -> ∀ i, i < cs.length -> ∃ u, us[i]? = some u /\ Rep w M (.str ((y3v cs).getD i [])) μ u []
 | [],us,_,_,i,hi=>by simp at hi
 | c::cs,us,h,hr,i,hi=>by
  simp only[RepL]at hr;obtain⟨u,us',f1,f2,rfl,hf,h1,h2⟩:=hr;obtain⟨rfl,rfl⟩:=List.append_eq_nil_iff.1 hf.symm
  cases c with
  | str l=>
   simp only[allS]at h
   cases i with
   | zero=>exact⟨u,by simp,by simpa [y3v]using h1⟩
   | succ i=>simpa [y3v]using yux h h2 i (by simpa using hi)
  | _=>simp[allS]at h
theorem yks (hΓ : TyOk P Γ) {t : TypeId} {x y r : AV} {u v : Value} {obl : List Prop} (h : yrw Γ t x y = some (r, obl)) (ho : allP obl)
  (hx:Rep w M x μ u []) (hy:Rep w M y μ v []) :
  ∃ z,(Instr.index t u v).run P w=.ok z w/\Rep w M r μ z []:=by
 unfold yrw at h;split at h
 ·rename_i j ik i ht
  obtain⟨inf,d,hinf,hd,hti,_⟩:=yg (hΓ.get ht);have ey:=hy.val_int;subst ey;split at h
  ·rename_i l hk
   rw[hk]at hti;have:=y1c hti;subst this;simp only[Option.some.injEq,Prod.mk.injEq]at h;obtain⟨rfl,rfl⟩:=h;have hb:=ho.1;have ex:=hx.val_str;subst ex;refine⟨_,?_,yqb _ _⟩;have hlt:i.toNat<l.length:=by omega
   have hs:(⟨l.toArray⟩:ByteArray)[i.toNat]? = some l[i.toNat]:=by
    rw[getElem?_pos (⟨l.toArray⟩:ByteArray) i.toNat (by simpa [ByteArray.size]using hlt)];simp[ByteArray.getElem_eq_getElem_data]
   simp only[Instr.index,asIntOf,Sem.run_bind,Sem.run_pure,Result.andThen_ok,run_underlying hd,if_pos hb.1,hs];simp[List.getElem?_eq_getElem hlt]
  ·rename_i n e cs hk
   rw[hk]at hti;have:=ykf hti;subst this;simp only[Rep]at hx;obtain⟨us,rfl,hr⟩:=hx;split at h
   ·rename_i ke hte
    obtain⟨_,d2,_,hd2,hti2,_⟩:=yg (hΓ.get hte);have hsz:=yrb (P:=P) (w:=w) (hΓ.get hte);split at h
    ·rename_i k hk2
     rw[hk2]at hti2;have:=y6l hti2;subst this;split at h
     ·rename_i hc
      simp only[Option.some.injEq,Prod.mk.injEq]at h;obtain⟨rfl,rfl⟩:=h;have hb:=ho.1;rw[hc.1]at hsz;have hu:=yqy hc.2.2 hr i.toNat (by omega);refine⟨_,?_,yqb _ _⟩;have hag:(isAgg e).run P w=.ok false w:=by rw[ybe hd2];rfl
      simp only[Instr.index,asIntOf,Sem.run_bind,Sem.run_pure,Result.andThen_ok,run_underlying hd,if_pos hb,hsz,Nat.mul_one];exact ynf hag hu
     ·cases h
    ·rename_i hk2
     rw[hk2]at hti2;have:=y1c hti2;subst this;split at h
     ·rename_i hc
      simp only[Option.some.injEq,Prod.mk.injEq]at h;obtain⟨rfl,rfl⟩:=h;have hb:=ho.1;rw[hc.1]at hsz;obtain⟨u,hu,hru⟩:=yux hc.2.2 hr i.toNat (by omega);refine⟨u,?_,hru⟩;have hag:(isAgg e).run P w=.ok false w:=by rw[ybe hd2];rfl
      simp only[Instr.index,asIntOf,Sem.run_bind,Sem.run_pure,Result.andThen_ok,run_underlying hd,if_pos hb,hsz,Nat.mul_one];exact ynf hag hu
     ·cases h
    ·cases h
   ·cases h
  ·simp at h
 ·simp at h
end
end Go.Ab
namespace Go.Ab
open Go
variable [Inv]
theorem Rep.ofNoMap {w:World} {M:Nat->Prop} {x:AV} {v:Value} {μ:Map} (h:Rep w M x yw v []):Rep w M x μ v []:=
 Rep.mono x (yhi μ) ⟨Nat.le_refl _,fun _ _ h=>h,fun _ _ _=>rfl⟩ h
section
variable {P:Program} {Γ:Env} {c:Ctx} {H:Hp} {μ:Map} {FP:Nat->List Nat} {w:World}
theorem WR.inner_cold (hW:WR c H μ FP w) {id b cap:Nat} {rest:List Nat} (hm:μ id=some (.blk b cap)) (hF:FP id=b::rest) {x:Nat} (hx:x∈rest):¬ hot c.M0 H μ x:=by
 have hxF:x∈FP id:=by rw[hF];exact List.mem_cons_of_mem _ hx
 intro hh;rcases hh with h|⟨id',cap',e,hm',he,hl⟩
 ·have h1:=c.cold0 x h
  rcases(hW.new id x hxF).1 with h2|h2
  ·exact h1.2 h2
  ·omega
 ·have h1:=(hW.lt hm' he hl).1
  by_cases hid:id'=id
  ·subst hid
   rw[hm]at hm';cases hm'
   have:=hW.nodup id';rw[hF]at this;exact(List.nodup_cons.1 this).1 hx
  ·exact hW.disj id' id hid x h1 hxF
def HAg (h:List Ent) (H:Hp) (μ:Map):Prop:=∀ id e,nthE h id=some e->μ id≠none->H id=some e
theorem yhk (hΓ : TyOk P Γ) (hW : WR c H μ FP w) {h : List Ent} (hH : HAg h H μ) {t : TypeId} {x r : AV} {u : Value} {obl : List Prop} (hl : ydo Γ h t x = some (r, obl)) (ho : allP obl)
  (hx:Rep w (hot c.M0 H μ) x μ u []) :
  ∃ z,(Instr.loadAt t u).run P w=.ok z w/\Rep w (hot c.M0 H μ) r μ z []:=by
 unfold ydo at hl
 cases ht:tget Γ t with
 | none=>simp[ht]at hl
 | some j=>
  have hj:=hΓ.get ht;simp only[ht]at hl;split at hl
  ·rename_i cs
   cases hc:ysh j cs with
   | none=>simp[hc,fst2]at hl
   | some y=>
    simp only[hc,fst2,Option.some.injEq,Prod.mk.injEq]at hl;obtain⟨rfl,rfl⟩:=hl;simp only[Rep]at hx;obtain⟨_,b,o,us,rfl,hbl,hM,hr,hcl⟩:=hx;obtain⟨v,h1,h2⟩:=y5i (P:=P) hj hc hr (fun j u hu=>(hcl j u hu).1);exact⟨v,by simp[Instr.loadAt,Instr.sureAddr,h1],h2.ofNoMap⟩
  ·rename_i id o
   split at hl
   ·rename_i cs hid
    cases hc:ysh j (yyc o cs)with
    | none=>simp[hc,fst2]at hl
    | some y=>
     simp only[hc,fst2,Option.some.injEq,Prod.mk.injEq]at hl;obtain⟨rfl,rfl⟩:=hl;simp only[Rep]at hx;obtain⟨_,b,cap,hm,rfl⟩:=hx;obtain⟨e,he,hok⟩:=hW.ent id _ hm;have he2:=hH id _ hid (by simp[hm]);rw[he2]at he;cases he;obtain⟨b',cap',us,T,h1,h2,hh,hone,hr⟩:=hok;cases h1
     obtain⟨v,h3,h4⟩:=y5i (P:=P) (b:=b) (o:=o) hj hc (yoe (n:=o) hr) (fun j u hu=>by
      rw[List.getElem?_drop]at hu;rw[cell_of_row w b (o+j) us.toArray T (0,0) hh]
      simpa using hu)
     exact⟨v,by simp[Instr.loadAt,Instr.sureAddr,h3],h4⟩
   ·simp at hl
  ·rename_i id e i o
   split at hl
   ·rename_i T e' n f hid
    split at hl
    ·rename_i hee
     subst hee
     cases hc:ysh j (yyc o (yz (f i)))with
     | none=>simp[hc,fst2]at hl
     | some y=>
      simp only[hc,fst2,Option.some.injEq,Prod.mk.injEq]at hl;obtain⟨rfl,rfl⟩:=hl;have hi:=ho.1;simp only[Rep]at hx;obtain⟨_,b,cap,hm,rfl⟩:=hx;obtain⟨e1,he,hok⟩:=hW.ent id _ hm;have he2:=hH id _ hid (by simp[hm]);rw[he2]at he;cases he;obtain⟨cur,us,fps,hh,h1,h2,h3,hcl,hF⟩:=hok;obtain⟨c1,c2,c3⟩:=hcl i hi;have hr:=yub (f i) (fun x hx=>hW.inner_cold hm hF (List.mem_flatMap.2 ⟨i,List.mem_range.2 hi,hx⟩)) c1;obtain⟨v,h4,h5⟩:=y5i (P:=P) (b:=b) (o:=i * e+o) hj hc (yoe (n:=o) hr) (fun j u hu=>(c3.drop (n:=o) j u hu).1);exact⟨v,by simp[Instr.loadAt,Instr.sureAddr,h4],h5⟩
    ·simp at hl
   ·rename_i l hid
    split at hl
    ·rename_i hee
     obtain⟨rfl,rfl⟩:=hee
     cases hc:ysh j [.int .u8 (l.getD i 0).toNat]with
     | none=>simp only[hc,fst2]at hl;cases hl
     | some y=>
      simp only[hc,fst2,Option.some.injEq,Prod.mk.injEq]at hl;obtain⟨rfl,rfl⟩:=hl;have hi:=ho.1;simp only[Rep]at hx;obtain⟨_,b,cap,hm,rfl⟩:=hx;obtain⟨e1,he,hok⟩:=hW.ent id _ hm;have he2:=hH id _ hid (by simp[hm]);rw[he2]at he;cases he;obtain⟨b',cur,T,h1,h2,hh,_,_,hcl⟩:=hok;cases h1
      have hr:RepL w (hot c.M0 H μ) [.int .u8 (l.getD i 0).toNat] μ [Value.int .u8 (l.getD i 0).toNat] []:=by
       simp only[RepL];exact⟨_,_,[],[],rfl,rfl,yqb _ _,rfl,rfl⟩
      obtain⟨v,h4,h5⟩:=y5i (P:=P) (b:=b) (o:=i * 1+0) hj hc hr (fun k u hu=>by
       rw[cell_of_row w b _ cur T _ hh]
       cases k with
       | zero=>simp only[List.getElem?_cons_zero,Option.some.injEq]at hu;subst hu;simpa using hcl i hi
       | succ k=>simp at hu)
      exact⟨v,by simp only[Instr.loadAt,Instr.sureAddr,Sem.run_bind,Sem.run_pure,Result.andThen_ok];exact h4,h5⟩
    ·simp at hl
   ·simp at hl
  ·simp at hl
end
end Go.Ab
namespace Go.Ab
open Go
variable [Inv]
def loN : Option AV -> Option Int
 | none=>some 0
 | some (.int _ n)=>some n
 | _=>none
def hiN (len : Nat) : Option AV -> Option Int
 | none=>some len
 | some (.int _ n)=>some n
 | _=>none
def y5w (Γ:Env) (t:TypeId) (x:AV) (lo hi:Option AV):Option (AV×List Prop):=
  match tget Γ t,loN lo with
  | some j, some l => match j.ti, x with
    | .string, .str s => match hiN s.length hi with
      | some h=>some (.str ((s.take h.toNat).drop l.toNat),[0<=l/\l<=h/\h<=(s.length:Int)])
      | none=>none
    | .slice et, .sl none e n f => match tget Γ et, hiN n hi with
      | some k,some h=>if k.size=e then some (.sl none e (h.toNat-l.toNat) (fun i=>f (l.toNat+i)),[0<=l/\l<=h/\h<=(n:Int)])else none
      | _,_=>none
    | .slice et, .ref id e off n => match tget Γ et, hiN n hi with
      | some k,some h=>if k.size=e then some (.ref id e (off+l.toNat) (h.toNat-l.toNat),[0<=l/\l<=h/\h<=(n:Int)])else none
      | _,_=>none
    | .slice et, .nils => match tget Γ et, hiN 0 hi with
      | some _,some h=>some (.nils,[l=0/\h=0])
      | _,_=>none
    | _,_=>none
  | _,_=>none
def y98 (Γ:Env) (s d:TypeId) (x:AV):Option (AV×List Prop):=
  match tget Γ s,tget Γ d with
  | some _, some j => match j.ti, x with
    | .int k,.int _ n=>some (.int k (k.wrap n),[])
    | .string,.str l=>some (.str l,[])
    | _,_=>none
  | _,_=>none
def y9k (x:AV) (i:Nat):Option (AV×List Prop):=
 match x with
 | .tup vs=>fst2 (nth vs i) []
 | _=>none
def y6w (Γ:Env) (t:TypeId) (x:AV) (i:Nat):Option (AV×List Prop):=
  match tget Γ t with
  | some j => match j.ti, x with
    | .struct fs _, .agg cs => match nthF fs i with
      | some (off, ft) => match tget Γ ft with
        | some k=>fst2 (ysh k (yyc off cs)) []
        | none=>none
      | none=>none
    | _,_=>none
  | none=>none
def lenA (Γ:Env) (t:TypeId) (x:AV):Option (AV×List Prop):=
  match tget Γ t with
  | some j => match j.ti, x with
    | .string,.str l=>some (.int .i64 l.length,[])
    | .slice _,.sl none _ n _=>some (.int .i64 n,[])
    | .slice _,.ref _ _ _ n=>some (.int .i64 n,[])
    | .slice _,.nils=>some (.int .i64 0,[])
    | .array n _,_=>some (.int .i64 n,[])
    | _,_=>none
  | none=>none
def minA : AV -> List AV -> Option AV
 | x,[]=>some x
 | .int k a,.int _ b::r=>minA (.int k (if b<a then b else a)) r
 | _,_=>none
def maxA : AV -> List AV -> Option AV
 | x,[]=>some x
 | .int k a,.int _ b::r=>maxA (.int k (if a<b then b else a)) r
 | _,_=>none
section
variable {P:Program} {Γ:Env} {w:World} {M:Nat->Prop} {μ:Map}
theorem y1q (l:List UInt8) (a b:Nat):(⟨l.toArray⟩:ByteArray).extract a b=⟨((l.take b).drop a).toArray⟩:=by
 apply ByteArray.ext;simp only[ByteArray.data_extract];apply Array.ext';simp only[Array.toList_extract,List.extract_eq_take_drop,List.drop_take]
theorem yfw (hΓ:TyOk P Γ) {s d:TypeId} {x r:AV} {u:Value} {obl:List Prop} (h:y98 Γ s d x=some (r,obl)) (hx:Rep w M x μ u []) :
  ∃ z,(convert s d u).run P w=.ok z w/\Rep w M r μ z []:=by
 unfold y98 at h;split at h
 ·rename_i i j hs hd
  obtain⟨inf1,d1,hinf1,hd1,_⟩:=yg (hΓ.get hs);obtain⟨inf2,d2,hinf2,hd2,hti,_⟩:=yg (hΓ.get hd);split at h
  ·rename_i k k' n hk
   rw[hk]at hti;have:=y6l hti;subst this;simp only[Option.some.injEq,Prod.mk.injEq]at h;obtain⟨rfl,rfl⟩:=h;have e1:=hx.val_int;subst e1;exact⟨_,by simp[convert,run_underlying hd1,run_underlying hd2,Conv.intToInt],yqb _ _⟩
  ·rename_i l hk
   rw[hk]at hti;have:=y1c hti;subst this;simp only[Option.some.injEq,Prod.mk.injEq]at h;obtain⟨rfl,rfl⟩:=h;have e2:=hx.len_str;have e1:=hx.val_str;subst e1;refine⟨_,?_,y7b _ e2⟩;cases d1<;>simp[convert,run_underlying hd1,run_underlying hd2]
  ·simp at h
 ·simp at h
theorem yzk {xs:List AV} {us:List Value} {n:Nat} {x:AV} (h:nth xs n=some x) (hr:RepL w M xs μ us []):∃ u,us.toArray[n]? = some u/\Rep w M x μ u []:=by
 obtain⟨u,h1,h2⟩:=y8j h hr;exact⟨u,by simpa using h1,h2⟩
theorem yvn {x r:AV} {i:Nat} {u:Value} {obl:List Prop} (h:y9k x i=some (r,obl)) (hx:Rep w M x μ u []) :
  ∃ z,(Instr.extract u i).run P w=.ok z w/\Rep w M r μ z []:=by
 unfold y9k at h;split at h
 ·rename_i vs
  cases hn:nth vs i with
  | none=>simp[hn,fst2]at h
  | some y=>
   simp only[hn,fst2,Option.some.injEq,Prod.mk.injEq]at h;obtain⟨rfl,rfl⟩:=h;simp only[Rep]at hx;obtain⟨us,rfl,hr⟩:=hx;obtain⟨z,h1,h2⟩:=yzk hn hr;exact⟨z,by simp[Instr.extract]at h1 ⊢;simp[h1],h2⟩
 ·simp at h
theorem ymz (hΓ:TyOk P Γ) {t ty:TypeId} {x r:AV} {u:Value} {obl:List Prop} (h:lenA Γ t x=some (r,obl)) (hx:Rep w M x μ u []) :
  ∃ z,(Builtin.len_ #[t] ty #[u]).run P w=.ok z w/\Rep w M r μ z []:=by
 unfold lenA at h
 cases ht:tget Γ t with
 | none=>simp[ht]at h
 | some j=>
  obtain⟨inf,d,hinf,hd,hti,_⟩:=yg (hΓ.get ht);simp only[ht]at h;split at h
  ·rename_i l hk
   rw[hk]at hti;have:=y1c hti;subst this;simp only[Option.some.injEq,Prod.mk.injEq]at h;obtain⟨rfl,rfl⟩:=h;have e1:=hx.val_str;subst e1;exact⟨_,by simp[Builtin.len_,run_underlying hd,goInt,show(⟨l.toArray⟩:ByteArray).size=l.length from rfl],yqb _ _⟩
  ·rename_i et e n f hk
   rw[hk]at hti;have:=y6b hti;subst this;simp only[Option.some.injEq,Prod.mk.injEq]at h;obtain⟨rfl,rfl⟩:=h;refine⟨.int .i64 n,?_,yqb _ _⟩;simp only[Rep]at hx;rcases hx with⟨rfl,rfl|⟨_,_,rfl⟩,_⟩|⟨b,o,cap,us,fps,rfl,_⟩
   ·simp[Builtin.len_,run_underlying hd,goInt]
   ·simp[Builtin.len_,run_underlying hd,goInt]
   ·simp[Builtin.len_,run_underlying hd,goInt]
  ·rename_i et id e off n hk
   rw[hk]at hti;have:=y6b hti;subst this;simp only[Option.some.injEq,Prod.mk.injEq]at h;obtain⟨rfl,rfl⟩:=h;refine⟨.int .i64 n,?_,yqb _ _⟩;simp only[Rep]at hx;obtain⟨_,hx⟩:=hx
   cases hm:μ id with
   | none=>simp[hm]at hx
   | some L=>
    cases L with
    | nil=>
     simp only[hm]at hx;obtain⟨_,rfl,rfl⟩:=hx;simp[Builtin.len_,run_underlying hd,goInt]
    | blk b cap=>
     simp only[hm]at hx;obtain⟨_,o,rfl,_⟩:=hx;simp[Builtin.len_,run_underlying hd,goInt]
  ·rename_i et hk
   rw[hk]at hti;have:=y6b hti;subst this;simp only[Option.some.injEq,Prod.mk.injEq]at h;obtain⟨rfl,rfl⟩:=h;simp only[Rep]at hx;obtain⟨rfl,_⟩:=hx;exact⟨_,by simp[Builtin.len_,run_underlying hd,goInt],yqb _ _⟩
  ·rename_i n et hk
   rw[hk]at hti;have:=ykf hti;subst this;simp only[Option.some.injEq,Prod.mk.injEq]at h;obtain⟨rfl,rfl⟩:=h;exact⟨_,by simp[Builtin.len_,run_underlying hd,goInt],yqb _ _⟩
  ·simp at h
theorem yoo:∀ {xs:List AV} {x r:AV} {u:Value} {us:List Value},minA x xs=some r->Rep w M x μ u []->RepL w M xs μ us [] ->
  ∃ z,(us.foldlM Builtin.min2 u).run P w=.ok z w/\Rep w M r μ z []
 | [],x,r,u,us,h,hx,hs=>by
  simp only[minA,Option.some.injEq]at h;subst h;simp only[RepL]at hs;obtain⟨rfl,_⟩:=hs;exact⟨u,by simp,hx⟩
 | y::xs,x,r,u,us,h,hx,hs=>by
  simp only[RepL]at hs;obtain⟨v,us',f1,f2,rfl,hfp,h1,h2⟩:=hs;obtain⟨rfl,rfl⟩:=List.append_eq_nil_iff.1 hfp.symm;unfold minA at h;split at h
  ·rename_i heq;cases heq
  ·rename_i k a k' b rr heq
   cases heq
   have e1:=hx.val_int;have e2:=h1.val_int;subst e1;subst e2;obtain⟨z,h3,h4⟩:=yoo h (yqb k _) h2;refine⟨z,?_,h4⟩;rw[List.foldlM_cons,Sem.run_bind];simp only[Builtin.min2,Sem.run_pure,Result.andThen_ok];exact h3
  ·simp at h
theorem y3o:∀ {xs:List AV} {x r:AV} {u:Value} {us:List Value},maxA x xs=some r->Rep w M x μ u []->RepL w M xs μ us [] ->
  ∃ z,(us.foldlM Builtin.max2 u).run P w=.ok z w/\Rep w M r μ z []
 | [],x,r,u,us,h,hx,hs=>by
  simp only[maxA,Option.some.injEq]at h;subst h;simp only[RepL]at hs;obtain⟨rfl,_⟩:=hs;exact⟨u,by simp,hx⟩
 | y::xs,x,r,u,us,h,hx,hs=>by
  simp only[RepL]at hs;obtain⟨v,us',f1,f2,rfl,hfp,h1,h2⟩:=hs;obtain⟨rfl,rfl⟩:=List.append_eq_nil_iff.1 hfp.symm;unfold maxA at h;split at h
  ·rename_i heq;cases heq
  ·rename_i k a k' b rr heq
   cases heq
   have e1:=hx.val_int;have e2:=h1.val_int;subst e1;subst e2;obtain⟨z,h3,h4⟩:=y3o h (yqb k _) h2;refine⟨z,?_,h4⟩;rw[List.foldlM_cons,Sem.run_bind];simp only[Builtin.max2,Sem.run_pure,Result.andThen_ok,gt_iff_lt];exact h3
  ·simp at h
theorem yl9 {t : TypeId} {i : TInfo} {cs : List AV} {us : List Value} {x : AV} {o : Nat}
  (hi:yze P t=some i) (hl:ysh i (yyc o cs)=some x) (hr:RepL w M cs μ us []) :
  ∃ v,(part t us.toArray o).run P w=.ok v w/\Rep w M x μ v []:=by
 have hr:=yoe (n:=o) hr;obtain⟨inf,d,hinf,hd,hti,hsz,_,_,_⟩:=yg hi;have hag:=ybe (P:=P) hd w
 have hone:∀ y ys,yyc o cs=y::ys->yog d=false->∃ v,(part t us.toArray o).run P w=.ok v w/\Rep w M y μ v []:=by
  intro y ys hcs hf;rw[hcs]at hr;simp only[RepL]at hr;obtain⟨u,us',f1,f2,hdr,hfp,h1,h2⟩:=hr;have hf1:f1=[]:=(List.append_eq_nil_iff.1 hfp.symm).1;subst hf1;refine⟨u,ynf (by rw[hag,hf]) ?_,h1⟩;have:=congrArg (·[0]?) hdr;simpa using this
 have hmany:∀ ys,ydh i.size (yyc o cs)=some ys->yog d=true->∃ v,(part t us.toArray o).run P w=.ok v w/\Rep w M (.agg ys) μ v []:=by
  intro ys hy hf;obtain⟨us1,us2,f1,f2,hdr,hlen,hfp,h3⟩:=ytl hy hr;have hf1:f1=[]:=(List.append_eq_nil_iff.1 hfp.symm).1;subst hf1;refine⟨.agg us1.toArray,?_,by simp only[Rep];exact⟨us1,rfl,h3⟩⟩;unfold part;rw[Sem.run_bind,hag,hf];simp only[Result.andThen_ok,if_true,Sem.run_bind,sizeOf,typeInfo,run_program,hinf,Sem.run_pure,hsz, <- hlen];congr 2
  apply Array.ext';simp only[Array.toList_extract,List.extract_eq_take_drop,Nat.add_sub_cancel_left];rw[show(us.toArray.toList.drop o)=us1++us2 from by simpa using hdr];simp
 unfold ysh at hl
 cases ht:i.ti with
 | struct fs cmp=>
  rw[ht]at hl hti;simp only at hl;obtain⟨fs',rfl,_⟩:=y0e hti
  cases hy:ydh i.size (yyc o cs)with
  | none=>simp[hy]at hl
  | some ys=>simp only[hy,Option.some.injEq]at hl;subst hl;exact hmany ys hy rfl
 | array n e=>
  rw[ht]at hl hti;simp only at hl;have:=ykf hti;subst this
  cases hy:ydh i.size (yyc o cs)with
  | none=>simp[hy]at hl
  | some ys=>simp only[hy,Option.some.injEq]at hl;subst hl;exact hmany ys hy rfl
 | _=>
  rw[ht]at hl hti;simp only at hl
  cases hcs:yyc o cs with
  | nil=>simp[hcs]at hl
  | cons y ys=>
   simp only[hcs,Option.some.injEq]at hl;subst hl;refine hone y ys hcs ?_;cases d<;>simp[tiOf,yog]at hti ⊢
theorem yxr (hΓ:TyOk P Γ) {t:TypeId} {x r:AV} {i:Nat} {u:Value} {obl:List Prop} (h:y6w Γ t x i=some (r,obl)) (hx:Rep w M x μ u []) :
  ∃ z,(Instr.field t u i).run P w=.ok z w/\Rep w M r μ z []:=by
 unfold y6w at h
 cases ht:tget Γ t with
 | none=>simp[ht]at h
 | some j=>
  obtain⟨inf,d,hinf,hd,hti,_⟩:=yg (hΓ.get ht);simp only[ht]at h;split at h
  ·rename_i fs cmp cs hk
   rw[hk]at hti;obtain⟨fs',rfl,rfl,_⟩:=y0e hti;rw[ykl]at h
   cases hf:(fs'.toList.map fun f=>(f.offset,f.type))[i]? with
   | none=>simp[hf]at h
   | some p=>
    obtain⟨off,ft⟩:=p;simp only[hf]at h
    cases hft:tget Γ ft with
    | none=>simp[hft]at h
    | some k=>
     simp only[hft]at h
     cases hl:ysh k (yyc off cs)with
     | none=>simp[hl,fst2]at h
     | some y=>
      simp only[hl,fst2,Option.some.injEq,Prod.mk.injEq]at h;obtain⟨rfl,rfl⟩:=h;simp only[List.getElem?_map,Option.map_eq_some_iff,Prod.mk.injEq]at hf;obtain⟨f,hf1,hf2,hf3⟩:=hf;have hf1':fs'[i]? = some f:=by simpa using hf1
      simp only[Rep]at hx;obtain⟨us,rfl,hr⟩:=hx;obtain⟨v,h1,h2⟩:=yl9 (P:=P) (hΓ.get hft) hl hr;refine⟨v,?_,h2⟩;simp[Instr.field,run_underlying hd,hf1',asAgg,hf2,hf3,h1]
  ·simp at h
end
end Go.Ab
namespace Go.Ab
open Go
variable [Inv]
section
variable {P:Program} {Γ:Env} {w:World} {M:Nat->Prop} {μ:Map}
theorem y2b {isSlice : Bool} {len cap : Nat} {lo hi : Option AV} {vlo vhi : Option Value} {l h : Int}
  (hl:loN lo=some l) (hh:hiN len hi=some h) (hb:0<=l/\l<=h/\h<=(len:Int)) (hc:len<=cap)
  (hlo:∀ a,lo=some a->∃ v,vlo=some v/\Rep w M a μ v []) (hlo0:lo=none->vlo=none)
  (hhi:∀ a,hi=some a->∃ v,vhi=some v/\Rep w M a μ v []) (hhi0:hi=none->vhi=none) :
  (Instr.sliceBounds isSlice len cap vlo vhi none).run P w=.ok (l.toNat,h.toNat,cap) w:=by
 have bound:∀ (k:IntKind) (n:Int) (y:Nat) (code:BoundsCode),0<=n/\n<=(y:Int)->(Instr.sliceBound (.int k n) y code).run P w=.ok n.toNat w:=by
  intro k n y code hn;simp[Instr.sliceBound,asIntOf,hn]
 have hv:(vhi=none/\h=(len:Int))\/∃ k,vhi=some (.int k h):=by
  cases hi with
  | none=>simp only[hiN,Option.some.injEq]at hh;exact .inl ⟨hhi0 rfl,hh.symm⟩
  | some a=>
   obtain⟨v,e,hv⟩:=hhi a rfl;cases a<;>simp only[hiN,Option.some.injEq,reduceCtorEq]at hh
   rename_i k n
   subst hh;exact .inr ⟨k,by rw[e,hv.val_int]⟩
 have hw:(vlo=none/\l=0)\/∃ k,vlo=some (.int k l):=by
  cases lo with
  | none=>simp only[loN,Option.some.injEq]at hl;exact .inl ⟨hlo0 rfl,hl.symm⟩
  | some a=>
   obtain⟨v,e,hv⟩:=hlo a rfl;cases a<;>simp only[loN,Option.some.injEq,reduceCtorEq]at hl
   rename_i k n
   subst hl;exact .inr ⟨k,by rw[e,hv.val_int]⟩
 clear hlo hlo0 hhi hhi0 hl hh;unfold Instr.sliceBounds;rcases hv with⟨rfl,rfl⟩|⟨k,rfl⟩<;>rcases hw with⟨rfl,rfl⟩|⟨k',rfl⟩
 ·simp
 ·simp[bound k' l len _ (by omega)]
 ·simp[bound k h cap _ (by omega)]
 ·simp[bound k h cap _ (by omega),bound k' l h.toNat _ (by omega)]
theorem y4r (hΓ : TyOk P Γ) {t : TypeId} {x r : AV} {lo hi : Option AV} {u : Value} {vlo vhi : Option Value} {obl : List Prop} (h : y5w Γ t x lo hi = some (r, obl)) (ho : allP obl)
  (hx:Rep w M x μ u [])
  (hlo:∀ a,lo=some a->∃ v,vlo=some v/\Rep w M a μ v []) (hlo0:lo=none->vlo=none)
  (hhi:∀ a,hi=some a->∃ v,vhi=some v/\Rep w M a μ v []) (hhi0:hi=none->vhi=none) :
  ∃ z,(Instr.sliceAt t u vlo vhi none).run P w=.ok z w/\Rep w M r μ z []:=by
 unfold y5w at h;split at h
 ·rename_i j l ht hl
  obtain⟨inf,d,hinf,hd,hti,_⟩:=yg (hΓ.get ht);split at h
  ·rename_i s hk
   rw[hk]at hti;have:=y1c hti;subst this;split at h
   ·rename_i hh hhh
    simp only[Option.some.injEq,Prod.mk.injEq]at h;obtain⟨rfl,rfl⟩:=h;have hb:=ho.1;have e3:=hx.len_str;have e1:=hx.val_str;subst e1;have hs:(⟨s.toArray⟩:ByteArray).size=s.length:=rfl;have hsb:=y2b (P:=P) (isSlice:=false) (cap:=s.length) hl hhh hb (Nat.le_refl _) hlo hlo0 hhi hhi0;refine⟨_,?_,y7b _ (by simp only[List.length_drop,List.length_take];omega)⟩;simp only[Instr.sliceAt,Instr.slice,Sem.run_bind,run_underlying hd,Result.andThen_ok,hs,Option.isSome_none,Bool.false_eq_true,if_false,Sem.run_pure,hsb,y1q]
   ·simp at h
  ·rename_i et e n f hk
   rw[hk]at hti;have:=y6b hti;subst this;split at h
   ·rename_i k hh het hhh
    split at h
    ·rename_i hke
     simp only[Option.some.injEq,Prod.mk.injEq]at h;obtain⟨rfl,rfl⟩:=h;have hb:=ho.1;have hso:=yrb (P:=P) (w:=w) (hΓ.get het);simp only[Rep]at hx
     have hemp:∀ oa cap,(oa=none->cap=0)->n=0->u=.slice oa 0 cap->∃ z,(Instr.sliceAt t u vlo vhi none).run P w=.ok z w/\Rep w M (.sl none e (hh.toNat-l.toNat) fun i=>f (l.toNat+i)) μ z []:=by
      rintro oa cap hoa rfl rfl
      have hsb:=y2b (P:=P) (isSlice:=true) (cap:=cap) hl hhh hb (Nat.zero_le _) hlo hlo0 hhi hhi0;have e1:l.toNat=0:=by omega
      have e2:hh.toNat=0:=by omega
      rw[e1,e2]at hsb
      cases oa with
      | none=>
       obtain rfl:=hoa rfl;refine⟨.slice none 0 0,by simp[Instr.sliceAt,Instr.slice,run_underlying hd,hsb,hso],?_⟩;simp only[Rep];exact .inl ⟨by omega,.inl rfl,trivial⟩
      | some a=>
       refine⟨.slice (some (if cap=0 then a else a.add 0)) 0 cap,?_,?_⟩
       ·simp[Instr.sliceAt,Instr.slice,run_underlying hd,hsb,hso]
        split<;>rfl
       ·simp only[Rep]
        exact .inl ⟨by omega,.inr ⟨_,_,rfl⟩,trivial⟩
     rcases hx with⟨hn0,hv|⟨a,cap,hv⟩,_⟩|⟨b,o,cap,us,fps,rfl,hn,hbl,hc,hM,_,hfp⟩
     ·exact hemp none 0 (fun _=>rfl) hn0 hv
     ·exact hemp (some a) cap (by simp) hn0 hv
     ·have hsb:=y2b (P:=P) (isSlice:=true) (cap:=cap) hl hhh hb hn.1 hlo hlo0 hhi hhi0
      refine⟨.slice (some (if cap=l.toNat then⟨b,o,none⟩else(⟨b,o,none⟩:Addr).add (l.toNat * k.size))) (hh.toNat-l.toNat) (cap-l.toNat),?_,?_⟩
      ·simp only[Instr.sliceAt,Instr.slice,Sem.run_bind,run_underlying hd,Result.andThen_ok,hsb,hso,Sem.run_pure]
       split<;>simp_all
      ·simp only[Rep]
       by_cases hcl:cap=l.toNat
       ·refine .inr ⟨b,o,cap-l.toNat,fun _=>[],fun _=>[],by rw[if_pos hcl],by omega,hbl,?_,hM,trivial,by simp⟩
        intro i hi;omega
       ·refine .inr ⟨b,o+l.toNat * k.size,cap-l.toNat,fun i=>us (l.toNat+i),fun _=>[],by rw[if_neg hcl,Addr.add_lit],by omega,hbl,?_,hM,trivial,by simp⟩
        intro i hi;have hi':l.toNat+i<n:=by omega
        obtain⟨c1,c2,c3⟩:=hc (l.toNat+i) hi';rw[hfp _ hi']at c1;refine⟨c1,c2,?_⟩;have:o+l.toNat * k.size+i * e=o+(l.toNat+i) * e:=by rw[hke,Nat.add_mul];omega
        rw[this];exact c3
    ·simp at h
   ·simp at h
  ·rename_i et id e off n hk
   rw[hk]at hti;have:=y6b hti;subst this;split at h
   ·rename_i k hh het hhh
    split at h
    ·rename_i hke
     simp only[Option.some.injEq,Prod.mk.injEq]at h;obtain⟨rfl,rfl⟩:=h;have hb:=ho.1;have hso:=yrb (P:=P) (w:=w) (hΓ.get het);simp only[Rep]at hx;obtain⟨_,hx⟩:=hx
     cases hm:μ id with
     | none=>simp[hm]at hx
     | some L=>
      cases L with
      | nil=>
       simp only[hm]at hx;obtain⟨rfl,rfl,rfl⟩:=hx;have hsb:=y2b (P:=P) (isSlice:=true) (cap:=0) hl hhh hb (Nat.le_refl _) hlo hlo0 hhi hhi0;have e1:l.toNat=0:=by omega
       have e2:hh.toNat=0:=by omega
       rw[e1,e2]at hsb;refine⟨.slice none 0 0,?_,?_⟩
       ·simp[Instr.sliceAt,Instr.slice,run_underlying hd,hsb,hso]
       ·simp only[Rep,hm]
        exact⟨trivial,by omega,by omega,trivial⟩
      | blk b cap=>
       simp only[hm]at hx;obtain⟨hcap,o,rfl,hoo⟩:=hx;have hsb:=y2b (P:=P) (isSlice:=true) (cap:=cap-off) hl hhh hb (by omega) hlo hlo0 hhi hhi0;refine⟨.slice (some (if cap-off=l.toNat then⟨b,o,none⟩else(⟨b,o,none⟩:Addr).add (l.toNat * k.size))) (hh.toNat-l.toNat) (cap-off-l.toNat),?_,?_⟩
       ·simp only[Instr.sliceAt,Instr.slice,Sem.run_bind,run_underlying hd,Result.andThen_ok,hsb,hso,Sem.run_pure]
        split<;>simp_all
       ·simp only[Rep,hm]
        refine⟨trivial,by omega,?_⟩;by_cases hcl:cap-off=l.toNat
        ·by_cases h0:off+l.toNat=0
         ·refine⟨o,by rw[if_pos hcl];congr 1;omega,.inr ?_⟩
          rcases hoo with h1|h1
          ·omega
          ·rw[h1,h0,show off=0 by omega]
         ·exact⟨o,by rw[if_pos hcl];congr 1;omega,.inl ⟨h0,by omega⟩⟩
        ·refine⟨o+l.toNat * k.size,by rw[if_neg hcl,Addr.add_lit];congr 1;omega,.inr ?_⟩
         rcases hoo with h1|h1
         ·omega
         ·rw[h1,hke,Nat.add_mul]
    ·simp at h
   ·simp at h
  ·rename_i et hk
   rw[hk]at hti;have:=y6b hti;subst this;split at h
   ·rename_i k hh het hhh
    simp only[Option.some.injEq,Prod.mk.injEq]at h;obtain⟨rfl,rfl⟩:=h;obtain⟨rfl,rfl⟩:=ho.1;have hso:=yrb (P:=P) (w:=w) (hΓ.get het);simp only[Rep]at hx;obtain⟨rfl,_⟩:=hx;have hsb:=y2b (P:=P) (isSlice:=true) (cap:=0) (len:=0) hl hhh (by simp) (Nat.le_refl _) hlo hlo0 hhi hhi0;exact⟨.slice none 0 0,by simp only[Int.toNat_zero]at hsb;simp[Instr.sliceAt,Instr.slice,run_underlying hd,hsb,hso],by simp[Rep]⟩
   ·simp at h
  ·simp at h
 ·simp at h
end
end Go.Ab
namespace Go.Ab
open Go
variable [Inv]
def oneA : AV -> Bool
 | .agg _|.tup _|.any|.gd _ _|.lit _ _=>false
 | _=>true
def ytd : AV -> Option (List AV)
 | .agg cs=>some cs
 | .tup _=>none
 | .any=>none
 | .gd _ _=>none
 | .lit _ _=>none
 | x=>some [x]
def y8m : List AV -> Bool
 | []=>true
 | x::xs=>oneA x && y8m xs
def putL : Nat -> List AV -> List AV -> List AV
 | 0,[],cs=>cs
 | 0,n::ns,_::cs=>n::putL 0 ns cs
 | 0,_::_,[]=>[]
 | k+1,ns,c::cs=>c::putL k ns cs
 | _+1,_,[]=>[]
def putV : Nat -> List Value -> List Value -> List Value
 | 0,[],cs=>cs
 | 0,n::ns,_::cs=>n::putV 0 ns cs
 | 0,_::_,[]=>[]
 | k+1,ns,c::cs=>c::putV k ns cs
 | _+1,_,[]=>[]
def yuh (Γ : Env) (fs : List (Nat × TypeId)) : List AV -> List (Nat × AV) -> Option (List AV)
  | cs,[]=>some cs
  | cs, (i, x) :: rest => match nthF fs i with
    | some (off, ft) => match tget Γ ft, ytd x with
      | some k,some xs=>if xs.length=k.size/\off+xs.length<=cs.length then yuh Γ fs (putL off xs cs) rest else none
      | _,_=>none
    | none=>none
def yc0 (Γ : Env) : List (Nat × TypeId) -> Bool
  | []=>true
  | (_, t) :: fs => match tget Γ t with
    | some _=>yc0 Γ fs
    | none=>false
def yug (k : Nat) : List AV -> List (Nat × AV) -> Option (List AV)
  | cs,[]=>some cs
  | cs, (i, x) :: rest => match ytd x with
    | some xs=>if xs.length=k/\i * k+xs.length<=cs.length then yug k (putL (i * k) xs cs) rest else none
    | none=>none
def yix (Γ:Env) (t:TypeId) (parts:List (Nat×AV)):Option (AV×List Prop):=
  match tget Γ t with
  | some j => match j.ti with
    | .struct fs _ => match yc0 Γ fs, j.zero, yuh Γ fs j.zero parts with
      | true,_::_,some cs=>some (.agg cs,[])
      | _,_,_=>none
    | .array _ e => match tget Γ e, j.zero with
      | some ke, z0 :: zs => match yug ke.size (z0 :: zs) parts with
        | some cs=>some (.agg cs,[])
        | none=>none
      | _,_=>none
    | _=>none
  | none=>none
section
variable {P:Program} {Γ:Env} {w:World} {M:Nat->Prop} {μ:Map}
theorem Rep.cells {x:AV} {v:Value} {cs:List AV} (h:ytd x=some cs) (hx:Rep w M x μ v []):∃ us,v.cells=us.toArray/\RepL w M cs μ us []:=by
  cases x with
  | agg ds=>
    simp only[ytd,Option.some.injEq]at h;subst h;simp only[Rep]at hx;obtain⟨us,rfl,hr⟩:=hx;exact⟨us,rfl,hr⟩
  | tup _=>simp[ytd]at h
  | any=>simp[ytd]at h
  | gd _ _=>simp[ytd]at h
  | lit _ _=>simp[ytd]at h
  | _=>
    simp only[ytd,Option.some.injEq]at h;subst h;refine⟨[v],?_,by simp only[RepL];exact⟨v,[],[],[],rfl,rfl,hx,rfl,rfl⟩⟩;simp only[Rep]at hx
    first
      | (obtain⟨rfl,_⟩:=hx;rfl)
      | (obtain⟨⟨rfl,_⟩,_⟩:=hx;rfl)
      | (obtain⟨_,_,_,rfl,_⟩:=hx;rfl)
      | (obtain⟨_,b,cap,_,rfl⟩:=hx;rfl)
      | (obtain⟨_,b,o,us,rfl,_⟩:=hx;rfl)
      | (obtain⟨_,us,rfl,_⟩:=hx;rfl)
      | (rcases hx with ⟨_, h3, _⟩ | ⟨b, o, cap, us, fps, rfl, _⟩
         . rcases h3.bor with rfl|⟨_,_,rfl⟩<;>rfl
         . rfl)
      | (obtain ⟨_, hx⟩ := hx
         revert hx
         cases μ _ with
         | none=>intro hx;exact hx.elim
         | some L=>
           cases L with
           | nil=>intro hx;obtain⟨_,_,rfl⟩:=hx;rfl
           | blk b cap=>intro hx;obtain⟨_,o,rfl,_⟩:=hx;rfl)
theorem Rep.one {x:AV} {v:Value} {fp:List Nat} (h:oneA x=true) (hx:Rep w M x μ v fp):v.oneCell'=true:=by
  cases x with
  | agg ds=>simp[oneA]at h
  | tup _=>simp[oneA]at h
  | any=>simp[oneA]at h
  | gd _ _=>simp[oneA]at h
  | lit _ _=>simp[oneA]at h
  | _=>
    simp only[Rep]at hx
    first
      | (obtain⟨rfl,_⟩:=hx;rfl)
      | (obtain⟨⟨rfl,_⟩,_⟩:=hx;rfl)
      | (obtain⟨_,_,_,rfl,_⟩:=hx;rfl)
      | (obtain⟨_,b,cap,_,rfl⟩:=hx;rfl)
      | (obtain⟨_,b,o,us,rfl,_⟩:=hx;rfl)
      | (obtain⟨_,us,rfl,_⟩:=hx;rfl)
      | (rcases hx with ⟨_, h3, _⟩ | ⟨b, o, cap, us, fps, rfl, _⟩
         . rcases h3.bor with rfl|⟨_,_,rfl⟩<;>rfl
         . rfl)
      | (obtain ⟨_, hx⟩ := hx
         revert hx
         cases μ _ with
         | none=>intro hx;exact hx.elim
         | some L=>
           cases L with
           | nil=>intro hx;obtain⟨_,_,rfl⟩:=hx;rfl
           | blk b cap=>intro hx;obtain⟨_,o,rfl,_⟩:=hx;rfl)
theorem RepL.one : ∀ {xs : List AV} {us : List Value} {fp : List Nat}, y8m xs = true -> RepL w M xs μ us fp -> ∀ u ∈ us, u.oneCell' = true
 | [],us,fp,_,h=>by simp only[RepL]at h;simp[h.1]
 | x::xs,us,fp,ho,h=>by
  simp only[RepL]at h;obtain⟨u,us',f1,f2,rfl,rfl,h1,h2⟩:=h;simp only[y8m,Bool.and_eq_true]at ho;intro y hy;rcases List.mem_cons.1 hy with rfl|hy
  ·exact h1.one ho.1
  ·exact RepL.one ho.2 h2 y hy
theorem ypi : ∀ {k : Nat} {ns cs : List AV} {vs us : List Value}, RepL w M ns μ vs [] -> RepL w M cs μ us [] -> RepL w M (putL k ns cs) μ (putV k vs us) []
 | 0,[],cs,vs,us,h1,h2=>by
  simp only[RepL]at h1;simp[putL,putV,h1.1,h2]
 | 0,n::ns,[],vs,us,h1,h2=>by
  simp only[RepL]at h1 h2;obtain⟨u,us',f1,f2,rfl,_,_,_⟩:=h1;simp[putL,putV,h2.1,RepL]
 | 0,n::ns,c::cs,vs,us,h1,h2=>by
  simp only[RepL]at h1 h2;obtain⟨u,us',f1,f2,rfl,hf,a1,a2⟩:=h1;obtain⟨v,vs',g1,g2,rfl,hg,b1,b2⟩:=h2;obtain⟨rfl,rfl⟩:=List.append_eq_nil_iff.1 hf.symm;obtain⟨rfl,rfl⟩:=List.append_eq_nil_iff.1 hg.symm;simp only[putL,putV,RepL];exact⟨u,_,[],[],rfl,rfl,a1,ypi a2 b2⟩
 | k+1,ns,[],vs,us,h1,h2=>by
  simp only[RepL]at h2;simp[putL,putV,h2.1,RepL]
 | k+1,ns,c::cs,vs,us,h1,h2=>by
  simp only[RepL]at h2;obtain⟨v,vs',g1,g2,rfl,hg,b1,b2⟩:=h2;obtain⟨rfl,rfl⟩:=List.append_eq_nil_iff.1 hg.symm;simp only[putL,putV,RepL];exact⟨v,_,[],[],rfl,rfl,b1,ypi h1 b2⟩
theorem ymb : ∀ (k : Nat) (ns cs : List Value), (putV k ns cs).length = cs.length
 | 0,[],cs=>by simp[putV]
 | 0,n::ns,[]=>rfl
 | 0,n::ns,c::cs=>by simp[putV,ymb 0 ns cs]
 | k+1,ns,[]=>rfl
 | k+1,ns,c::cs=>by simp[putV,ymb k ns cs]
theorem ypb : ∀ (k : Nat) (ns cs : List Value) (j : Nat), (putV k ns cs)[j]? = if k <= j /\ j < k + ns.length /\ j < cs.length then ns[j - k]? else cs[j]?
 | 0,[],cs,j=>by simp[putV]
 | 0,n::ns,[],j=>by simp[putV]
 | 0,n::ns,c::cs,0=>by simp[putV]
 | 0,n::ns,c::cs,j+1=>by
  have:=ypb 0 ns cs j;simp only[putV,List.getElem?_cons_succ,this,Nat.zero_le,true_and,Nat.zero_add,Nat.sub_zero,List.length_cons];by_cases h:j<ns.length/\j<cs.length
  ·rw[if_pos h,if_pos (by omega)]
  ·rw[if_neg h,if_neg (by omega)]
 | k+1,ns,[],j=>by simp[putV]
 | k+1,ns,c::cs,0=>by simp[putV]
 | k+1,ns,c::cs,j+1=>by
  have:=ypb k ns cs j;simp only[putV,List.getElem?_cons_succ,this,List.length_cons,Nat.add_sub_add_right];by_cases h:k<=j/\j<k+ns.length/\j<cs.length
  ·rw[if_pos h,if_pos (by omega)]
  ·rw[if_neg h,if_neg (by omega)]
theorem y3t (off:Nat):∀ (ns:List Value) (k:Nat) (cs:Array Value),
  ((ns.zipIdx k).foldl (fun cs (p:Value×Nat)=>cs.setIfInBounds (off+p.2) p.1) cs).toList=putV (off+k) ns cs.toList
 | [],k,cs=>by
  simp only[List.zipIdx_nil,List.foldl_nil];apply List.ext_getElem?;intro j;rw[ypb];simp
  intro h1 h2;omega
 | n::ns,k,cs=>by
  simp only[List.zipIdx_cons,List.foldl_cons];rw[y3t off ns (k+1)];apply List.ext_getElem?;intro j;rw[ypb,ypb];simp only[Array.toList_setIfInBounds,List.length_set,List.getElem?_set,List.length_cons];by_cases hj:j<cs.toList.length
  ·by_cases h1:off+k=j
   ·subst h1
    rw[if_neg (by omega),if_pos rfl,if_pos (by simpa using hj),if_pos (by omega)];simp
   ·by_cases h2:off+(k+1)<=j/\j<off+(k+1)+ns.length
    ·rw[if_pos ⟨h2.1,h2.2,hj⟩,if_pos (by omega)]
     have:j-(off+k)=j-(off+(k+1))+1:=by omega
     rw[this,List.getElem?_cons_succ]
    ·rw[if_neg (by omega),if_neg h1,if_neg (by omega)]
  ·have hn:cs.toList[j]? = none:=List.getElem?_eq_none (by omega)
   have hneg:∀ A B:Prop,¬ (A/\B/\j<cs.toList.length):=fun A B h=>hj h.2.2
   rw[if_neg (hneg _ _),if_neg (hneg _ _),hn];by_cases h1:off+k=j
   ·rw[if_pos h1,if_neg (by have hl:cs.toList.length=cs.size:=Array.length_toList;omega)]
   ·rw[if_neg h1]
theorem ytg (off:Nat) (vs us:List Value):vs.toArray.zipIdx.foldl (fun cs (p:Value×Nat)=>cs.setIfInBounds (off+p.2) p.1) us.toArray=(putV off vs us).toArray:=by
 have h:=y3t off vs 0 us.toArray;apply Array.ext';rw[<- Array.foldl_toList];simpa using h
theorem ygi {t:TypeId} {j:TInfo} (h:yze P t=some j) {inf:TypeInfo} (hinf:P.info? t=some inf) {z:Value} (hz:inf.zero=some z):RepL w M j.zero μ z.cells.toList []:=by
 obtain⟨inf',d,hinf',hd,hti,_,_,hzero,_⟩:=yg h;rw[hinf]at hinf';cases hinf';rw[hzero,hz];simp only[Option.map_some,Option.getD_some];generalize z.cells.toList=l
 induction l with
 | nil=>simp[RepL]
 | cons v l ih=>
  simp only[List.map_cons,RepL];refine⟨v,l,[],[],rfl,rfl,?_,ih⟩;unfold avOf;split<;>first|exact y1s _|simp[Rep]
theorem yfm (hΓ:TyOk P Γ):∀ (fs:List Field),(∀ f∈fs,∃ k,(sizeOf f.type).run P w=.ok k w) ->
  ∃ l:List (Nat×Nat),(fs.mapM (m:=Sem) fun(f:Field)=>do pure (f.offset, <- sizeOf f.type)).run P w=.ok l w /\
   ∀ (i:Nat) (f:Field),fs[i]? = some f->∃ k,(sizeOf f.type).run P w=.ok k w/\l[i]? = some (f.offset,k)
 | [],_=>⟨[],by simp,by simp⟩
 | f::fs,h=>by
  obtain⟨k,hk⟩:=h f (by simp);obtain⟨l,h1,h2⟩:=yfm hΓ fs (fun g hg=>h g (by simp[hg]));refine⟨(f.offset,k)::l,by simp only[List.mapM_cons,Sem.run_bind,hk,h1,Result.andThen_ok,Sem.run_pure],?_⟩;intro i g hg
  cases i with
  | zero=>simp only[List.getElem?_cons_zero,Option.some.injEq]at hg;subst hg;exact⟨k,hk,rfl⟩
  | succ i=>exact h2 i g (by simpa using hg)
theorem y5t (hΓ : TyOk P Γ) : ∀ {fs : List Field}, yc0 Γ (fs.map fun f => (f.offset, f.type)) = true -> ∀ f ∈ fs, ∃ k, (sizeOf f.type).run P w = .ok k w
 | [],_=>by simp
 | g::fs,h=>by
  simp only[List.map_cons,yc0]at h
  cases ht:tget Γ g.type with
  | none=>simp[ht]at h
  | some j=>
   simp only[ht]at h;intro f hf;rcases List.mem_cons.1 hf with rfl|hf
   ·exact⟨_,yrb (hΓ.get ht)⟩
   ·exact y5t hΓ h f hf
theorem yxi (hΓ:TyOk P Γ) {fs:List Field} {l:List (Nat×Nat)} (hl:∀ (i:Nat) (f:Field),fs[i]? = some f->∃ k,(sizeOf f.type).run P w=.ok k w/\l[i]? = some (f.offset,k)) :
  ∀ {parts:List (Nat×AV)} {vals:List (Nat×Value)} {cs r:List AV} {us:List Value},yuh Γ (fs.map fun f=>(f.offset,f.type)) cs parts=some r ->
   vals.map (·.1)=parts.map (·.1)->RepL w M (parts.map (·.2)) μ (vals.map (·.2)) []->RepL w M cs μ us [] ->
   ∃ us',Instr.fill (fun i=>l.toArray[i]?) us.toArray vals=some us'.toArray/\RepL w M r μ us' []
 | [],vals,cs,r,us,h,hv,hr,hc=>by
  simp only[yuh,Option.some.injEq]at h;subst h;have:vals=[]:=by simpa using hv
  subst this;exact⟨us,rfl,hc⟩
 | (i,x)::parts,vals,cs,r,us,h,hv,hr,hc=>by
  simp only[yuh,ykl]at h
  cases vals with
  | nil=>simp at hv
  | cons p vals=>
   obtain⟨i',v⟩:=p;simp only[List.map_cons,List.cons.injEq]at hv;obtain⟨rfl,hv⟩:=hv;simp only[List.map_cons,RepL]at hr;obtain⟨v',vs',f1,f2,he,hfp,hx,hr⟩:=hr;obtain⟨rfl,rfl⟩:=List.cons.inj he;obtain⟨rfl,rfl⟩:=List.append_eq_nil_iff.1 hfp.symm
   cases hf:(fs.map fun f=>(f.offset,f.type))[i']? with
   | none=>simp[hf]at h
   | some q=>
    obtain⟨off,ft⟩:=q;simp only[hf]at h;simp only[List.getElem?_map,Option.map_eq_some_iff,Prod.mk.injEq]at hf;obtain⟨f,hf1,rfl,rfl⟩:=hf;obtain⟨k,hk,hlk⟩:=hl i' f hf1
    cases ht:tget Γ f.type with
    | none=>simp[ht]at h
    | some j=>
     cases hcl:ytd x with
     | none=>simp[ht,hcl]at h
     | some xs=>
      simp only[ht,hcl]at h;split at h
      ·rename_i hlen
       have hk2:=yrb (P:=P) (w:=w) (hΓ.get ht);rw[hk]at hk2;have hkj:k=j.size:=by cases hk2;rfl
       obtain⟨vs,hvc,hvr⟩:=hx.cells hcl;have hvl:=hvr.length;have hul:=hc.length;obtain⟨us',h1,h2⟩:=yxi hΓ hl h hv hr (ypi (k:=f.offset) hvr hc);refine⟨us',?_,h2⟩;have hlk':l.toArray[i']? = some (f.offset,k):=by simpa using hlk
       have hcond:¬ (v.cells.size≠k\/f.offset+v.cells.size > us.toArray.size):=by
        rw[hvc];simp only[List.size_toArray];omega
       simp only[Instr.fill,hlk'];rw[if_neg (by simpa using hcond),hvc,ytg];exact h1
      ·simp at h
theorem yhh {k:Nat} :
  ∀ {parts:List (Nat×AV)} {vals:List (Nat×Value)} {cs r:List AV} {us:List Value},yug k cs parts=some r ->
   vals.map (·.1)=parts.map (·.1)->RepL w M (parts.map (·.2)) μ (vals.map (·.2)) []->RepL w M cs μ us [] ->
   ∃ us',Instr.fill (fun i=>some (i * k,k)) us.toArray vals=some us'.toArray/\RepL w M r μ us' []
 | [],vals,cs,r,us,h,hv,hr,hc=>by
  simp only[yug,Option.some.injEq]at h;subst h;have:vals=[]:=by simpa using hv
  subst this;exact⟨us,rfl,hc⟩
 | (i,x)::parts,vals,cs,r,us,h,hv,hr,hc=>by
  simp only[yug]at h
  cases vals with
  | nil=>simp at hv
  | cons p vals=>
   obtain⟨i',v⟩:=p;simp only[List.map_cons,List.cons.injEq]at hv;obtain⟨rfl,hv⟩:=hv;simp only[List.map_cons,RepL]at hr;obtain⟨v',vs',f1,f2,he,hfp,hx,hr⟩:=hr;obtain⟨rfl,rfl⟩:=List.cons.inj he;obtain⟨rfl,rfl⟩:=List.append_eq_nil_iff.1 hfp.symm
   cases hcl:ytd x with
   | none=>simp[hcl]at h
   | some xs=>
    simp only[hcl]at h;split at h
    ·rename_i hlen
     obtain⟨vs,hvc,hvr⟩:=hx.cells hcl;have hvl:=hvr.length;have hul:=hc.length;obtain⟨us',h1,h2⟩:=yhh h hv hr (ypi (k:=i' * k) hvr hc);refine⟨us',?_,h2⟩
     have hcond:¬ (v.cells.size≠k\/i' * k+v.cells.size > us.toArray.size):=by
      rw[hvc];simp only[List.size_toArray];omega
     simp only[Instr.fill];rw[if_neg (by simpa using hcond),hvc,ytg];exact h1
    ·simp at h
theorem y2r (hΓ : TyOk P Γ) {t : TypeId} {parts : List (Nat × AV)} {vals : List (Nat × Value)} {r : AV} {obl : List Prop} (h : yix Γ t parts = some (r, obl))
  (hv:vals.map (·.1)=parts.map (·.1)) (hr:RepL w M (parts.map (·.2)) μ (vals.map (·.2)) []) :
  ∃ z,(Instr.build t vals.toArray).run P w=.ok z w/\Rep w M r μ z []:=by
 unfold yix at h
 cases ht:tget Γ t with
 | none=>simp[ht]at h
 | some j=>
  obtain⟨inf,d,hinf,hd,hti,hsz,hby,hzero,_⟩:=yg (hΓ.get ht);simp only[ht]at h;split at h
  ·rename_i fs cmp hk
   rw[hk]at hti;obtain⟨fs',rfl,rfl,_⟩:=y0e hti;split at h
   ·rename_i z0 zs cs htys hz0 hgo
    simp only[Option.some.injEq,Prod.mk.injEq]at h;obtain⟨rfl,rfl⟩:=h
    cases hz:inf.zero with
    | none=>rw[hzero,hz]at hz0;simp at hz0
    | some z=>
     obtain⟨l,hl1,hl2⟩:=yfm (P:=P) (w:=w) hΓ fs'.toList (y5t hΓ htys);obtain⟨us',h1,h2⟩:=yxi hΓ hl2 hgo hv hr (ygi (M:=M) (μ:=μ) (hΓ.get ht) hinf hz);refine⟨.agg us'.toArray,?_,by simp only[Rep];exact⟨us',rfl,h2⟩⟩;simp only[Array.toArray_toList]at h1;simp only[Instr.build,zeroValue,typeInfo,Sem.run_bind,run_program,hinf,Result.andThen_ok,Sem.run_pure,hz,run_underlying hd,Array.mapM_eq_mapM_toList,Sem.run_map,hl1,h1]
   ·simp at h
  ·rename_i n e hk
   rw[hk]at hti;have:=ykf hti;subst this;split at h
   ·rename_i ke z0 zs hte hz0
    split at h
    ·rename_i cs hgo
     simp only[Option.some.injEq,Prod.mk.injEq]at h;obtain⟨rfl,rfl⟩:=h;rw[<- hz0]at hgo
     cases hz:inf.zero with
     | none=>rw[hzero,hz]at hz0;simp at hz0
     | some z=>
      have hsz2:=yrb (P:=P) (w:=w) (hΓ.get hte);obtain⟨us',h1,h2⟩:=yhh hgo hv hr (ygi (M:=M) (μ:=μ) (hΓ.get ht) hinf hz);refine⟨.agg us'.toArray,?_,by simp only[Rep];exact⟨us',rfl,h2⟩⟩;simp only[Array.toArray_toList]at h1;simp only[Instr.build,zeroValue,typeInfo,Sem.run_bind,run_program,hinf,Result.andThen_ok,Sem.run_pure,hz,run_underlying hd,hsz2,h1]
    ·simp at h
   ·simp at h
  ·simp at h
end
end Go.Ab
namespace Go.Ab
open Go
variable [Inv]
def yq6 : Value -> AV
 | .agg cs=>.agg (cs.toList.map avOf)
 | v=>avOf v
def get : List (Nat × AV) -> Nat -> AV
 | [],_=>.any
 | (j,x)::r,i=>bif Nat.beq i j then x else get r i
def opnd (t : List (Nat × AV)) : Operand -> AV
 | .tmp i=>get t i
 | .const v=>yq6 v
 | .func f=>.fn f 0 []
 | .global _=>.any
def ya1 : AV -> Option (AV × List Prop)
 | .ptr i o=>some (.ptr i o,[])
 | .pe i e n o=>some (.pe i e n o,[])
 | .ep cs=>some (.ep cs,[])
 | .fn f k cs=>some (.fn f k cs,[])
 | _=>none
def y38 : AV -> AV
 | .lit _ x=>x
 | x=>x
theorem yqr {w:World} {M:Nat->Prop} {μ:Map} {x:AV} {v:Value} (h:Rep w M x μ v []):Rep w M (y38 x) μ v []:=by
 cases x with
 | lit u x=>
  simp only[Rep]at h;exact Rep.mono x (yhi μ) ⟨Nat.le_refl _,fun _ _ h=>h,fun _ _ _=>rfl⟩ h.2.2
 | _=>exact h
def yxcb (Γ:Env) (b:Builtin) (ts:List TypeId) (xs:List AV):Option (AV×List Prop):=
 match b,ts,xs with
 | .len,[t],[x]=>lenA Γ t (y38 x)
 | .min,_,x::ys=>fst2 (minA x ys) []
 | .max,_,x::ys=>fst2 (maxA x ys) []
 | _,_,_=>none
def ya5 (Γ:Env) (α:Operand->AV) (c:Call):Option (AV×List Prop):=
 match c.callee with
 | .builtin b=>yxcb Γ b c.argTypes.toList (c.args.toList.map α)
 | _=>none
def omap (α : Operand -> AV) : Option Operand -> Option AV
 | none=>none
 | some x=>some (α x)
def byA : List AV -> UInt8
 | [.int .u8 n]=>UInt8.ofNat n.toNat
 | _=>0
def isBy : List AV -> Bool
 | [.int .u8 _]=>true
 | _=>false
def yh9 (Γ:Env) (h:List Ent) (s d:TypeId) (x:AV):Option (AV×List Prop):=
  match x with
  | .ref id e off n => match tget Γ s, tget Γ d with
    | some js, some jd => match js.ti, jd.ti with
      | .slice et, .string => match tget Γ et with
        | some k => match k.ti, nthE h id with
          | .int .u8,some (.arr _ e' n' f)=>if e=1/\e'=1 then some (.str ((List.range n).map fun i=>byA (f (off+i))),[off+n<=n',∀ i,i<n->isBy (f (off+i))=true])else none
          | .int .u8,some (.byt l)=>if e=1/\off=0 then some (.str l,[n=l.length])else none
          | _,_=>none
        | none=>none
      | _,_=>none
    | _,_=>none
  | .sl none e n f => match tget Γ s, tget Γ d with
    | some js, some jd => match js.ti, jd.ti with
      | .slice et, .string => match tget Γ et with
        | some k => match k.ti with
          | .int .u8=>if e=1 then some (.str ((List.range n).map fun i=>byA (f i)),[∀ i,i<n->isBy (f i)=true])else none
          | _=>none
        | none=>none
      | _,_=>none
    | _,_=>none
  | x=>y98 Γ s d x
def yeh (Γ:Env) (h:List Ent) (α:Operand->AV) (op:Op):Option (AV×List Prop):=
  match op with
  | .move x=>some (α x,[])
  | .assign x=>some (α x,[])
  | .binOp op t x y _=>binA Γ op t (α x) (α y)
  | .unOp op _ x=>unA op (α x)
  | .nilCheck x=>ya1 (α x)
  | .fieldAddr t x i=>y2x Γ t (α x) i
  | .indexAddr t x i=>yyy Γ t (y38 (α x)) (α i)
  | .index t x i=>yrw Γ t (α x) (α i)
  | .load t x=>ydo Γ h t (α x)
  | .slice t x lo hi none=>y5w Γ t (α x) (omap α lo) (omap α hi)
  | .convert s d x=>yh9 Γ h s d (α x)
  | .extract x i=>y9k (α x) i
  | .build t parts=>yix Γ t (parts.toList.map fun p=>(p.1,α p.2))
  | .field t x i=>y6w Γ t (α x) i
  | .makeFunc fn fst caps => match fn with
    | .func f=>some (.fn f fst.toList.length (fst.toList.map α++caps.toList.map α),[])
    | _=>none
  | .call c=>ya5 Γ α c
  | _=>none
section
variable {P:Program} {Γ:Env} {c:Ctx} {H:Hp} {μ:Map} {FP:Nat->List Nat} {w:World}
theorem yyg {M : Nat -> Prop} {α : Operand -> AV} {ρ : Operand -> Value} : ∀ {l : List Operand}, (∀ o ∈ l, Rep w M (α o) μ (ρ o) []) -> RepL w M (l.map α) μ (l.map ρ) []
 | [],_=>by simp[RepL]
 | o::l,h=>by
  simp only[List.map_cons,RepL];exact⟨ρ o,l.map ρ,[],[],rfl,rfl,h o (by simp),yyg fun p hp=>h p (by simp[hp])⟩
theorem y1u (ns:List Int):∀ r:ByteArray,ns.foldl (fun r n=>r.push (UInt8.ofNat n.toNat)) r=⟨r.data++(ns.map fun n=>UInt8.ofNat n.toNat).toArray⟩:=by
 induction ns with
 | nil=>intro r;simp
 | cons n ns ih=>
  intro r;simp only[List.foldl_cons,ih,List.map_cons];congr 1
  apply Array.ext';simp[ByteArray.push]
theorem yym {M : Nat -> Prop} {b o n cap : Nat} {g : Nat -> List AV} {us : Nat -> List Value} {s d et : TypeId} {w : World} (hs : P.underlying s = some (.slice et)) (he : P.underlying et = some (.int .u8)) (hd : P.underlying d = some .string)
  (hn:n<=maxLen) (hc:∀ i,i<n->RepL w M (g i) μ (us i) []/\yyd w b (o+i) (us i)) (hby:∀ i,i<n->isBy (g i)=true) :
  (convert s d (.slice (some ⟨b,o,none⟩) n cap)).run P w=.ok (.string ⟨((List.range n).map fun i=>byA (g i)).toArray⟩) w/\Rep w M (.str ((List.range n).map fun i=>byA (g i))) μ (.string ⟨((List.range n).map fun i=>byA (g i)).toArray⟩) []:=by
 refine⟨?_,y7b _ (by simpa using hn)⟩;rw[run_convert_bytes_string w s d et _ n cap hs he hd]
 have hex:∀ i,∃ z:Int,i<n->g i=[.int .u8 z]:=by
  intro i;by_cases hi:i<n
  ·have:=hby i hi
   unfold isBy at this;split at this
   ·rename_i z hz;exact⟨z,fun _=>hz⟩
   ·cases this
  ·exact⟨0,fun h=>absurd h hi⟩
 obtain⟨z,hz⟩:=Classical.axiomOfChoice hex
 have hl:=run_loadCells_list (P:=P) w ⟨b,o,none⟩ ((List.range n).map fun i=>Value.int .u8 (z i)) (fun j v hv=>by
  simp only[List.getElem?_map,Option.map_eq_some_iff]at hv;obtain⟨i,hi,rfl⟩:=hv
  have hjn:j<n:=by
   have:=(List.getElem?_eq_some_iff.1 hi).1;simpa using this
  have hij:i=j:=by
   rw[List.getElem?_range hjn]at hi;exact(Option.some.inj hi).symm
  subst hij;obtain⟨h1,h2⟩:=hc i hjn;rw[hz i hjn]at h1;simp only[RepL]at h1;obtain⟨u,us',f1,f2,e1,e2,hu,_,_⟩:=h1;have hu':=hu.val_int;subst hu';rw[Addr.add_lit];have:=(h2 0 (.int .u8 (z i)) (by rw[e1];rfl)).1
  simpa using this)
 simp only[List.length_map,List.length_range]at hl;rw[run_bytesToString w ⟨b,o,none⟩ n cap ((List.range n).map z) (by rw[hl];congr 1;apply Array.ext';simp)];congr 1
 rw[y1u];congr 1
 congr 1
 apply Array.ext';simp[ByteArray.empty,ByteArray.emptyWithCapacity]
 show[]++_=_;rw[List.nil_append];apply List.map_congr_left;intro i hi;rw[hz i (List.mem_range.1 hi)];rfl
theorem yxv (hΓ:TyOk P Γ) (hW:WR c H μ FP w) {h:List Ent} (hH:HAg h H μ) {s d:TypeId} {x r:AV} {u:Value} {obl:List Prop} (he:yh9 Γ h s d x=some (r,obl)) (ho:allP obl) (hx:Rep w (hot c.M0 H μ) x μ u []) :
  ∃ z,(convert s d u).run P w=.ok z w/\Rep w (hot c.M0 H μ) r μ z []:=by
 have hnil:∀ {et:TypeId},P.underlying s=some (.slice et)->P.underlying et=some (.int .u8)->P.underlying d=some .string->∀ cap,(convert s d (.slice none 0 cap)).run P w=.ok (.string ⟨#[]⟩) w:=by
  intro et h1 h2 h3 cap;rw[run_convert_bytes_string w s d et _ 0 cap h1 h2 h3];simp[Conv.bytesToString];rfl
 unfold yh9 at he;split at he
 ·rename_i id e off n
  split at he
  case h_2=>cases he
  rename_i js jd hs hd
  split at he
  case h_2=>cases he
  rename_i et hjs hjd
  split at he
  case h_2=>cases he
  rename_i k hk
  split at he
  case h_3=>cases he
  case h_2=>
   rename_i l hki hid
   split at he
   case isFalse=>cases he
   rename_i hee
   obtain⟨rfl,rfl⟩:=hee;simp only[Option.some.injEq,Prod.mk.injEq]at he;obtain⟨rfl,rfl⟩:=he;obtain⟨inf1,d1,hinf1,hd1,hti1,_⟩:=yg (hΓ.get hs);obtain⟨inf2,d2,hinf2,hd2,hti2,_⟩:=yg (hΓ.get hd);obtain⟨inf3,d3,hinf3,hd3,hti3,_⟩:=yg (hΓ.get hk);rw[hjs]at hti1;have:=y6b hti1;subst this;rw[hjd]at hti2;have:=y1c hti2;subst this;rw[hki]at hti3;have:=y6l hti3;subst this;have hn:=ho.1;subst hn;simp only[Rep]at hx;obtain⟨_,hx⟩:=hx
   cases hm:μ id with
   | none=>simp[hm]at hx
   | some L=>
    cases L with
    | nil=>
     obtain⟨e1,he1,hok⟩:=hW.ent id _ hm;have he2:=hH id _ hid (by simp[hm]);rw[he2]at he1;cases he1;obtain⟨b,cur,T,h1,_⟩:=hok;cases h1
    | blk b cap=>
     simp only[hm]at hx;obtain⟨hcap,o,rfl,hoo⟩:=hx;obtain⟨e1,he1,hok⟩:=hW.ent id _ hm;have he2:=hH id _ hid (by simp[hm]);rw[he2]at he1;cases he1;obtain⟨b',cur,T,h1,h2,hh,h3,h4,hcl⟩:=hok;cases h1
     have ho0:o=0:=by
      rcases hoo with h5|h5
      ·exact absurd rfl h5.1
      ·simpa using h5
     subst ho0
     obtain⟨q1,q2⟩:=yym (P:=P) (w:=w) (μ:=μ) (M:=hot c.M0 H μ) (b:=b) (o:=0) (n:=l.length) (cap:=cur.size-0) (g:=fun i=>[.int .u8 (l.getD i 0).toNat]) (us:=fun i=>[Value.int .u8 (l.getD i 0).toNat]) hd1 hd3 hd2 h4 (fun i hi=>by
      refine⟨by simp only[RepL];exact⟨_,_,[],[],rfl,rfl,yqb _ _,rfl,rfl⟩,fun j u hu => ?_⟩
      cases j with
      | zero=>
       simp only[List.getElem?_cons_zero,Option.some.injEq]at hu;subst hu;rw[cell_of_row w b _ cur T _ hh];exact⟨by simpa using hcl i hi,rfl⟩
      | succ j=>simp at hu) (fun i hi=>rfl)
     have hl:((List.range l.length).map fun i=>byA [.int .u8 (l.getD i 0).toNat])=l:=by
      apply List.ext_getElem
      ·simp
      ·intro i h5 h6
       rw[List.getElem_map,List.getElem_range];show UInt8.ofNat (((l.getD i 0).toNat:Int)).toNat=_;rw[Int.toNat_natCast,UInt8.ofNat_toNat,List.getD_eq_getElem?_getD,List.getElem?_eq_getElem h6];rfl
     rw[hl]at q1 q2;exact⟨_,q1,q2⟩
  rename_i T e' n' f hki hid
  split at he
  case isFalse=>cases he
  rename_i hee
  obtain⟨rfl,rfl⟩:=hee;simp only[Option.some.injEq,Prod.mk.injEq]at he;obtain⟨rfl,rfl⟩:=he;obtain⟨inf1,d1,hinf1,hd1,hti1,_⟩:=yg (hΓ.get hs);obtain⟨inf2,d2,hinf2,hd2,hti2,_⟩:=yg (hΓ.get hd);obtain⟨inf3,d3,hinf3,hd3,hti3,_⟩:=yg (hΓ.get hk);rw[hjs]at hti1;have:=y6b hti1;subst this;rw[hjd]at hti2;have:=y1c hti2;subst this;rw[hki]at hti3;have:=y6l hti3;subst this;obtain⟨ho1,ho2,_⟩:=ho;simp only[Rep]at hx;obtain⟨_,hx⟩:=hx
  cases hm:μ id with
  | none=>simp[hm]at hx
  | some L=>
   cases L with
   | nil=>
    simp only[hm]at hx;obtain⟨rfl,rfl,rfl⟩:=hx;exact⟨_,hnil hd1 hd3 hd2 0,y7b [] (Nat.zero_le _)⟩
   | blk b cap=>
    simp only[hm]at hx;obtain⟨hcap,o,rfl,hoo⟩:=hx;obtain⟨e1,he1,hok⟩:=hW.ent id _ hm;have he2:=hH id _ hid (by simp[hm]);rw[he2]at he1;cases he1;obtain⟨cur,us,fps,hh,h1,h2,h3,hcl,hF⟩:=hok;by_cases hn0:n=0
    ·subst hn0
     refine⟨.string ⟨#[]⟩,?_,y7b [] (Nat.zero_le _)⟩;rw[run_convert_bytes_string w s d et _ 0 _ hd1 hd3 hd2];rw[run_bytesToString w ⟨b,o,none⟩ 0 _ [] (by have:=run_loadCells_list (P:=P) w ⟨b,o,none⟩ [] (by simp);simpa using this)];rfl
    ·have hoe:o=off:=by
      rcases hoo with h5|h5
      ·omega
      ·simpa using h5
     subst hoe
     obtain⟨q1,q2⟩:=yym (P:=P) (w:=w) (μ:=μ) (M:=hot c.M0 H μ) (b:=b) (o:=o) (n:=n) (cap:=cap-o) (g:=fun i=>f (o+i)) (us:=fun i=>us (o+i)) hd1 hd3 hd2 (by omega) (fun i hi=>by
      obtain⟨c1,c2,c3⟩:=hcl (o+i) (by omega)
      have hfp:fps (o+i)=[]:=by
       have hb:=ho2 i hi;unfold isBy at hb;split at hb
       ·rename_i z hz
        rw[hz]at c1;simp only[RepL,Rep]at c1;obtain⟨_,_,f1,f2,_,e2,⟨_,rfl⟩,_,rfl⟩:=c1;exact e2
       ·cases hb
      rw[hfp]at c1
      exact⟨c1,by simpa using c3⟩) ho2
     exact⟨_,q1,q2⟩
 ·rename_i e n f
  split at he
  case h_2=>cases he
  rename_i js jd hs hd
  split at he
  case h_2=>cases he
  rename_i et hjs hjd
  split at he
  case h_2=>cases he
  rename_i k hk
  split at he
  case h_2=>cases he
  rename_i hki
  split at he
  case isFalse=>cases he
  rename_i hee
  subst hee;simp only[Option.some.injEq,Prod.mk.injEq]at he;obtain⟨rfl,rfl⟩:=he;obtain⟨inf1,d1,hinf1,hd1,hti1,_⟩:=yg (hΓ.get hs);obtain⟨inf2,d2,hinf2,hd2,hti2,_⟩:=yg (hΓ.get hd);obtain⟨inf3,d3,hinf3,hd3,hti3,_⟩:=yg (hΓ.get hk);rw[hjs]at hti1;have:=y6b hti1;subst this;rw[hjd]at hti2;have:=y1c hti2;subst this;rw[hki]at hti3;have:=y6l hti3;subst this;obtain⟨ho2,_⟩:=ho;simp only[Rep]at hx;rcases hx with⟨rfl,rfl|⟨a,cap,rfl⟩,_⟩|⟨b,o,cap,us,fps,rfl,hn,hb,hc,hM,_,hfp⟩
  ·exact⟨_,hnil hd1 hd3 hd2 0,y7b [] (Nat.zero_le _)⟩
  ·refine⟨.string ⟨#[]⟩,?_,y7b [] (Nat.zero_le _)⟩
   rw[run_convert_bytes_string w s d et _ 0 _ hd1 hd3 hd2];rw[run_bytesToString w a 0 _ [] (by have:=run_loadCells_list (P:=P) w a [] (by simp);simpa using this)];rfl
  ·obtain⟨q1,q2⟩:=yym (P:=P) (w:=w) (μ:=μ) (M:=hot c.M0 H μ) (b:=b) (o:=o) (n:=n) (cap:=cap) (g:=f) (us:=us) hd1 hd3 hd2 hn.2 (fun i hi=>by
    obtain⟨c1,c2,c3⟩:=hc i hi;rw[hfp i hi]at c1
    exact⟨c1.lift,by simpa using c3⟩) ho2
   exact⟨_,q1,q2⟩
 ·exact yfw (P:=P) hΓ he hx
theorem y5u (hΓ : TyOk P Γ) (hW : WR c H μ FP w) {h : List Ent} (hH : HAg h H μ) {α : Operand -> AV} {ρ : Operand -> Value} {o : Oper} {r : AV} {obl : List Prop}
  (he:yeh Γ h α o.op=some (r,obl)) (ho:allP obl) (hρ:∀ x,x∈o.op.operands.toList->Rep w (hot c.M0 H μ) (α x) μ (ρ x) []) :
  ∃ z,(execOp ρ o).run P w=.ok (.value z) w/\Rep w (hot c.M0 H μ) r μ z []:=by
 have lift:∀ {s:Sem Value} {z:Value},s.run P w=.ok z w->(do pure (Next.value (<- s)):Sem Next).run P w=.ok (.value z) w:=by
  intro s z hs;rw[Sem.run_bind,hs];rfl
 obtain⟨dst,op,type,pos,after,guard⟩:=o;simp only at he hρ;unfold yeh at he;split at he
 case h_1 x=>
  simp only[Option.some.injEq,Prod.mk.injEq]at he;obtain⟨rfl,rfl⟩:=he;exact⟨ρ x,by simp[execOp],hρ x (by simp[Op.operands])⟩
 case h_2 x=>
  simp only[Option.some.injEq,Prod.mk.injEq]at he;obtain⟨rfl,rfl⟩:=he;exact⟨ρ x,by simp[execOp],hρ x (by simp[Op.operands])⟩
 case h_3 op t x y t2=>
  obtain⟨z,h1,h2⟩:=yf0 (P:=P) hΓ he ho (hρ x (by simp[Op.operands])) (hρ y (by simp[Op.operands])) x y;exact⟨z,by simp only[execOp];exact lift h1,h2⟩
 case h_4 op t x=>
  obtain⟨z,h1,h2⟩:=y03 (P:=P) he (hρ x (by simp[Op.operands]));exact⟨z,by simp only[execOp];exact lift h1,h2⟩
 case h_5 x=>
  have hx:=hρ x (by simp[Op.operands]);unfold ya1 at he;split at he<;>simp only[Option.some.injEq,Prod.mk.injEq,reduceCtorEq]at he
  all_goals
   obtain⟨rfl,rfl⟩:=he;rename_i hax
   rw[hax]at hx;refine⟨ρ x,?_,hx⟩;simp only[Rep]at hx
  ·obtain⟨_,b,cap,_,e⟩:=hx;simp[execOp,e]
  ·obtain⟨_,b,cap,_,e⟩:=hx;simp[execOp,e]
  ·obtain⟨_,b,o,us,e,_⟩:=hx;simp[execOp,e]
  ·obtain⟨_,us,e,_⟩:=hx;simp[execOp,e]
 case h_6 t x i=>
  obtain⟨z,h1,h2⟩:=y2t (P:=P) hΓ he (hρ x (by simp[Op.operands]));exact⟨z,by simp only[execOp];exact lift h1,h2⟩
 case h_7 t x i=>
  obtain⟨z,h1,h2⟩:=yqu (P:=P) hΓ he ho (yqr (hρ x (by simp[Op.operands]))) (hρ i (by simp[Op.operands]));exact⟨z,by simp only[execOp];exact lift h1,h2⟩
 case h_8 t x i=>
  obtain⟨z,h1,h2⟩:=yks (P:=P) hΓ he ho (hρ x (by simp[Op.operands])) (hρ i (by simp[Op.operands]));exact⟨z,by simp only[execOp];exact lift h1,h2⟩
 case h_9 t x=>
  obtain⟨z,h1,h2⟩:=yhk (P:=P) hΓ hW hH he ho (hρ x (by simp[Op.operands]));exact⟨z,by simp only[execOp];exact lift h1,h2⟩
 case h_10 t x lo hi=>
  obtain ⟨z, h1, h2⟩ := y4r (P := P) (vlo := lo.map ρ) (vhi := hi.map ρ) hΓ he ho (hρ x (by simp [Op.operands]))
   (by
    intro a ha
    cases lo with
    | none=>simp[omap]at ha
    | some y=>simp only[omap,Option.some.injEq]at ha;subst ha;exact⟨ρ y,rfl,hρ y (by simp[Op.operands])⟩)
   (by intro hn;cases lo<;>simp[omap]at hn ⊢)
   (by
    intro a ha
    cases hi with
    | none=>simp[omap]at ha
    | some y=>simp only[omap,Option.some.injEq]at ha;subst ha;exact⟨ρ y,rfl,hρ y (by simp[Op.operands])⟩)
   (by intro hn;cases hi<;>simp[omap]at hn ⊢)
  exact⟨z,by simp only[execOp];exact lift h1,h2⟩
 case h_11 s d x=>
  obtain⟨z,h1,h2⟩:=yxv (P:=P) hΓ hW hH he ho (hρ x (by simp[Op.operands]));exact⟨z,by simp only[execOp];exact lift h1,h2⟩
 case h_12 x i=>
  obtain⟨z,h1,h2⟩:=yvn (P:=P) he (hρ x (by simp[Op.operands]));exact⟨z,by simp only[execOp];exact lift h1,h2⟩
 case h_13 t parts=>
  have hr:=yyg (M:=hot c.M0 H μ) (μ:=μ) (w:=w) (α:=α) (ρ:=ρ) (l:=parts.toList.map (·.2)) (by
   intro o ho2
   exact hρ o (by simpa [Op.operands]using ho2))
  obtain⟨z,h1,h2⟩:=y2r (P:=P) (vals:=parts.toList.map fun p=>(p.1,ρ p.2)) hΓ he (by simp) (by simpa [List.map_map,Function.comp_def]using hr);refine⟨z,?_,h2⟩;simp only[execOp]
  have e:(parts.map fun x=>match x with|(i,x)=>(i,ρ x))=(parts.toList.map fun p=>(p.1,ρ p.2)).toArray:=by
   apply Array.ext';simp
  rw[e];exact lift h1
 case h_14 t x i=>
  obtain⟨z,h1,h2⟩:=yxr (P:=P) hΓ he (hρ x (by simp[Op.operands]));exact⟨z,by simp only[execOp];exact lift h1,h2⟩
 case h_15 fn fst caps=>
  split at he
  ·rename_i f
   simp only[Option.some.injEq,Prod.mk.injEq]at he;obtain⟨rfl,rfl⟩:=he
   have hr:=yyg (M:=hot c.M0 H μ) (μ:=μ) (w:=w) (α:=α) (ρ:=ρ) (l:=fst.toList++caps.toList) (by
    intro o ho2
    exact hρ o (by simpa only[Op.operands,Array.toList_append]using ho2))
   rw[List.map_append,List.map_append]at hr
   refine⟨.func (.func f) (fst.toList.map ρ).toArray (caps.toList.map ρ).toArray,?_,by
    simp only[Rep];refine⟨trivial,_,?_,hr⟩;have e:fst.toList.length=(fst.toList.map ρ).length:=by simp
    rw[e,List.take_left,List.drop_left]⟩
   have e1:fst.map ρ=(fst.toList.map ρ).toArray:=by
    apply Array.ext';simp
   have e2:caps.map ρ=(caps.toList.map ρ).toArray:=by
    apply Array.ext';simp
   simp only[execOp,e1,e2,Instr.makeFunc];rfl
  ·simp at he
 case h_16 cl=>
  unfold ya5 at he;split at he
  ·rename_i b hb
   unfold yxcb at he
   have hr:=yyg (M:=hot c.M0 H μ) (μ:=μ) (w:=w) (α:=α) (ρ:=ρ) (l:=cl.args.toList) (by
    intro o ho2
    exact hρ o (by simp only[Op.operands,Call.operands,hb,Array.toList_append];exact List.mem_append_right _ ho2))
   have ea:cl.args.map ρ=(cl.args.toList.map ρ).toArray:=by apply Array.ext';simp
   split at he
   ·rename_i t x hts hxs
    have ht:cl.argTypes = #[t]:=by apply Array.ext';simpa using hts
    rw[hxs]at hr;simp only[RepL]at hr;obtain⟨u,us',f1,f2,hu,hfp,h1,h2,_⟩:=hr;subst h2;obtain⟨rfl,rfl⟩:=List.append_eq_nil_iff.1 hfp.symm;obtain⟨z,h3,h4⟩:=ymz (P:=P) (ty:=type) hΓ he (yqr h1);refine⟨z,?_,h4⟩;simp only[execOp,resolve,hb,Sem.run_bind,Sem.run_pure,Result.andThen_ok,invoke,builtin,ea,hu,ht];rw[h3];rfl
   ·rename_i x ys hxs
    cases hm:minA x ys with
    | none=>simp[hm,fst2]at he
    | some m=>
     simp only[hm,fst2,Option.some.injEq,Prod.mk.injEq]at he;obtain⟨rfl,rfl⟩:=he;rw[hxs]at hr;simp only[RepL]at hr;obtain⟨u,us',f1,f2,hu,hfp,h1,h2⟩:=hr;obtain⟨rfl,rfl⟩:=List.append_eq_nil_iff.1 hfp.symm;obtain⟨z,h3,h4⟩:=yoo (P:=P) hm h1 h2;refine⟨z,?_,h4⟩;simp only[execOp,resolve,hb,Sem.run_bind,Sem.run_pure,Result.andThen_ok,invoke,builtin,ea,hu,Builtin.min_];rw[h3];rfl
   ·rename_i x ys hxs
    cases hm:maxA x ys with
    | none=>simp[hm,fst2]at he
    | some m=>
     simp only[hm,fst2,Option.some.injEq,Prod.mk.injEq]at he;obtain⟨rfl,rfl⟩:=he;rw[hxs]at hr;simp only[RepL]at hr;obtain⟨u,us',f1,f2,hu,hfp,h1,h2⟩:=hr;obtain⟨rfl,rfl⟩:=List.append_eq_nil_iff.1 hfp.symm;obtain⟨z,h3,h4⟩:=y3o (P:=P) hm h1 h2;refine⟨z,?_,h4⟩;simp only[execOp,resolve,hb,Sem.run_bind,Sem.run_pure,Result.andThen_ok,invoke,builtin,ea,hu,Builtin.max_];rw[h3];rfl
   ·simp at he
  ·simp at he
 case h_17=>simp at he
end
end Go.Ab
namespace Go.Ab
open Go
variable [Inv]
def Hof (h:List Ent):Hp:=fun id=>nthE h id
def setE : List Ent -> Nat -> Ent -> List Ent
 | [],_,_=>[]
 | _::l,0,e=>e::l
 | x::l,n+1,e=>x::setE l n e
theorem y6 : ∀ (h : List Ent) (i j : Nat) (e : Ent), nthE (setE h i e) j = if j = i /\ i < h.length then some e else nthE h j
 | [],i,j,e=>by simp[setE,nthE]
 | x::l,0,0,e=>by simp[setE,nthE]
 | x::l,0,j+1,e=>by simp[setE,nthE]
 | x::l,i+1,0,e=>by simp[setE,nthE]
 | x::l,i+1,j+1,e=>by simp[setE,nthE,y6 l i j e]
theorem y0 : ∀ (h : List Ent) (i : Nat) (e : Ent), (setE h i e).length = h.length
 | [],_,_=>rfl
 | _::_,0,_=>rfl
 | _::l,n+1,e=>by simp[setE,y0 l n e]
theorem ync (h:List Ent) (e:Ent) (j:Nat):nthE (h++[e]) j=if j=h.length then some e else nthE h j:=by
 rw[yjb,yjb];by_cases hj:j<h.length
 ·rw[List.getElem?_append_left hj,if_neg (by omega)]
 ·by_cases he:j=h.length
  ·subst he;simp
  ·have h1:(h++[e]).length<=j:=by rw[List.length_append,List.length_singleton];omega
   have h2:h.length<=j:=by omega
   rw[if_neg he,List.getElem?_eq_none h1,List.getElem?_eq_none h2]
theorem yed {h:List Ent} {j:Nat} {e:Ent} (hj:nthE h j=some e):j<h.length:=by
 rw[yjb]at hj;exact(List.getElem?_eq_some_iff.1 hj).1
def absC (h : List Ent) : AV -> Option (AV × List Ent × List Prop)
  | .ref id e off n => match nthE h id, off with
    | some (.arr T e' n' f),0=>if e=e' then some (.sl (some T) e n f,setE h id .dead,[n<=n',∀ i,i<n->y9d (f i)=true])else none
    | _,_=>none
  | .ptr id off => match nthE h id, off with
    | some (.box cs), 0 => match y9d cs with
      | true=>some (.op cs,setE h id .dead,[])
      | false=>none
    | _,_=>none
  | .int k n=>some (.int k n,h,[])
  | .bool b=>some (.bool b,h,[])
  | .str l=>some (.str l,h,[])
  | .nils=>some (.nils,h,[])
  | .sl none e n f=>some (.sl none e n f,h,[])
  | _=>none
def absL (h : List Ent) : List AV -> Option (List AV × List Ent × List Prop)
  | []=>some ([],h,[])
  | x :: xs => match absC h x with
    | some (y, h1, o1) => match absL h1 xs with
      | some (ys,h2,o2)=>some (y::ys,h2,o1++o2)
      | none=>none
    | none=>none
def updF (FP:Nat->List Nat) (id:Nat) (fp:List Nat):Nat->List Nat:=fun i=>if i=id then fp else FP i
section
variable {c:Ctx} {μ:Map} {FP:Nat->List Nat} {w:World} {R:List Nat}
theorem WR.kill {h:List Ent} (hW:WR c (Hof h) μ FP w) (hR:Free c FP w R) {id:Nat} {e:Ent} (hid:nthE h id=some e) :
  WR c (Hof (setE h id .dead)) μ (updF FP id []) w/\Trans c.M0 (Hof h) μ w (Hof (setE h id .dead)) μ w/\Free c (updF FP id []) w (R++FP id):=by
 have hlt:=yed hid;have hdead:Hof (setE h id .dead) id=some .dead:=by simp[Hof,y6,hlt]
 have hoth:∀ i,i≠id->Hof (setE h id .dead) i=Hof h i:=fun i hi=>by simp[Hof,y6,hi]
 have hup := WR.update (H' := Hof (setE h id .dead)) (μ' := μ) (FP' := updF FP id []) (w' := w) (fun i => i = id) [] hW (Free.nil _ _ _) rfl rfl rfl (Nat.le_refl _) (fun _ _ => .inl rfl) (Map.le_refl _)
  (fun i _ hi=>hoth i hi) (fun i _ hi=>by simp[updF,hi])
  (by
   intro i L hi hL;rcases hi with hi|rfl
   ·rw[hi]at hL;cases hL
   ·exact⟨.dead,hdead,by simp[yic,updF]⟩)
  (by
   intro i b cap e' hi hL he hl;rcases hi with hi|rfl
   ·rw[hi]at hL;cases hL
   ·rw[hdead]at he;cases he;simp[Ent.live]at hl)
  (by
   intro i b hi hb;rcases hi with hi|rfl
   ·simp only[updF]at hb
    split at hb
    ·simp at hb
    ·rw[hW.out i hi]at hb;simp at hb
   ·simp[updF]at hb)
  (by
   intro i hi;simp only[updF];split
   ·rfl
   ·exact hW.out i hi)
  (by
   intro i hi;simp only[updF];split
   ·simp
   ·exact hW.nodup i)
  (by
   intro i j hij _ _ b hbi hbj;simp only[updF]at hbi hbj;split at hbi
   ·simp at hbi
   ·split at hbj
    ·simp at hbj
    ·exact hW.disj i j hij b hbi hbj)
 refine⟨hup.1,hup.2,?_,?_,?_⟩
 ·rw[List.nodup_append]
  refine⟨hR.nodup,hW.nodup id,?_⟩;intro a ha b hb hab;subst hab;exact hR.disj a ha id hb
 ·intro b hb i hbi
  simp only[updF]at hbi;split at hbi
  ·simp at hbi
  ·rename_i hi
   rcases List.mem_append.1 hb with hb|hb
   ·exact hR.disj b hb i hbi
   ·exact hW.disj id i (fun e=>hi e.symm) b hb hbi
 ·intro b hb
  rcases List.mem_append.1 hb with hb|hb
  ·exact hR.new b hb
  ·exact hW.new id b hb
theorem Trans.sameFp {M0:Nat->Prop} {H H':Hp} {μ':Map} (t:Trans M0 H μ w H' μ' w) (fp:List Nat):Same w (hot M0 H μ) w (hot M0 H' μ') fp:=
 ⟨Nat.le_refl _,t.same.cold,fun _ _ _=>rfl⟩
theorem Free.mem {FP':Nat->List Nat} {R':List Nat} (h:Free c FP' w R') (hs:R.Sublist R'):Free c FP' w R:=
 ⟨h.nodup.sublist hs,fun b hb=>h.disj b (hs.subset hb),fun b hb=>h.new b (hs.subset hb)⟩
theorem yhb (fps:Nat->List Nat) {n m:Nat} (h:n<=m):((List.range n).flatMap fps).Sublist ((List.range m).flatMap fps):=by
 obtain⟨k,rfl⟩:=Nat.le.dest h;rw[List.range_add,List.flatMap_append];exact List.sublist_append_left _ _
theorem yd0 {h h' : List Ent} {x y : AV} {v : Value} {obl : List Prop} (hW : WR c (Hof h) μ FP w) (hR : Free c FP w R) (hx : Rep w (hot c.M0 (Hof h) μ) x μ v [])
  (ha:absC h x=some (y,h',obl)) (ho:allP obl) :
  ∃ FP' fp,WR c (Hof h') μ FP' w/\Free c FP' w (R++fp)/\Rep w (hot c.M0 (Hof h') μ) y yw v fp/\Trans c.M0 (Hof h) μ w (Hof h') μ w/\v.oneCell'=true/\h'.length=h.length:=by
 have hone:oneA x=true->v.oneCell'=true:=fun h1=>hx.one h1
 cases x with
 | int k n=>simp only[absC,Option.some.injEq,Prod.mk.injEq]at ha;obtain⟨rfl,rfl,rfl⟩:=ha;exact⟨FP,[],hW,by simpa using hR,by simpa only[Rep]using hx,Trans.refl _ _ _ _,hone rfl,rfl⟩
 | bool b=>simp only[absC,Option.some.injEq,Prod.mk.injEq]at ha;obtain⟨rfl,rfl,rfl⟩:=ha;exact⟨FP,[],hW,by simpa using hR,by simpa only[Rep]using hx,Trans.refl _ _ _ _,hone rfl,rfl⟩
 | str l=>simp only[absC,Option.some.injEq,Prod.mk.injEq]at ha;obtain⟨rfl,rfl,rfl⟩:=ha;exact⟨FP,[],hW,by simpa using hR,by simpa only[Rep]using hx,Trans.refl _ _ _ _,hone rfl,rfl⟩
 | nils=>simp only[absC,Option.some.injEq,Prod.mk.injEq]at ha;obtain⟨rfl,rfl,rfl⟩:=ha;exact⟨FP,[],hW,by simpa using hR,by simpa only[Rep]using hx,Trans.refl _ _ _ _,hone rfl,rfl⟩
 | sl own e n f=>
  cases own with
  | none=>simp only[absC,Option.some.injEq,Prod.mk.injEq]at ha;obtain⟨rfl,rfl,rfl⟩:=ha;exact⟨FP,[],hW,by simpa using hR,by simpa only[Rep]using hx,Trans.refl _ _ _ _,hone rfl,rfl⟩
  | some T=>simp[absC]at ha
 | agg _=>simp[absC]at ha
 | tup _=>simp[absC]at ha
 | ptr id off=>
  simp only[absC]at ha;split at ha
  ·rename_i cs hid
   split at ha
   ·rename_i hp
    simp only[Option.some.injEq,Prod.mk.injEq]at ha;obtain⟨rfl,rfl,rfl⟩:=ha;obtain⟨k1,k2,k3⟩:=hW.kill hR hid;simp only[Rep]at hx;obtain⟨_,b,cap,hm,rfl⟩:=hx;obtain⟨ent,he,hok⟩:=hW.ent id _ hm;have he2:Hof h id=some (.box cs):=hid;rw[he2]at he;cases he;obtain⟨b',cap',us,T,h1,h2,hh,hone',hr⟩:=hok;cases h1
    have hblt:b<w.heap.size:=(hW.new id b (by rw[h2];simp)).2;refine⟨_,[b],k1,k3.mem (by rw[h2];exact List.Sublist.refl _),?_,k2,rfl,y0 _ _ _⟩;simp only[Rep];exact⟨b,us,T,rfl,rfl,hblt,hh,hone',RepL.mono cs (Map.le_refl _) (k2.sameFp _) (y1b cs hp hr)⟩
   ·simp at ha
  ·simp at ha
 | op _=>simp[absC]at ha
 | pe _ _ _ _=>simp[absC]at ha
 | ep _=>simp[absC]at ha
 | fn _ _ _=>simp[absC]at ha
 | gd _ _=>simp[absC]at ha
 | any=>simp[absC]at ha
 | lit _ _=>simp[absC]at ha
 | ref id e off n=>
  simp only[absC]at ha;split at ha
  ·rename_i T e' n' f hid
   split at ha
   ·rename_i hee
    subst hee;simp only[Option.some.injEq,Prod.mk.injEq]at ha;obtain⟨rfl,rfl,rfl⟩:=ha;have hn:=ho.1;obtain⟨k1,k2,k3⟩:=hW.kill hR hid;simp only[Rep]at hx;obtain⟨_,hx⟩:=hx
    cases hm:μ id with
    | none=>simp[hm]at hx
    | some L=>
     cases L with
     | nil=>
      simp only[hm]at hx;obtain⟨_,rfl,rfl⟩:=hx;exact⟨_,[],k1,k3.mem (by simp),by simp[Rep,y7e],k2,rfl,y0 _ _ _⟩
     | blk b cap=>
      simp only[hm]at hx;obtain⟨hcap,o,rfl,hoo⟩:=hx;obtain⟨ent,he,hok⟩:=hW.ent id _ hm;have he2:Hof h id=some (.arr T e n' f):=hid;rw[he2]at he;cases he;obtain⟨cur,us,fps,hh,h1,h2,h3,hcl,hF⟩:=hok;have hblt:b<w.heap.size:=(hW.new id b (by rw[hF];simp)).2;refine⟨_,b::(List.range n).flatMap fps,k1,k3.mem ?_,?_,k2,rfl,y0 _ _ _⟩
      ·rw[hF]
       exact List.Sublist.append_left (List.Sublist.cons_cons _ (yhb fps hn)) _
      ·simp only[Rep]
       refine .inr ⟨b,0,cap,us,fps,?_,by omega,hblt,?_,rfl,rfl,cur,hh,h1,h3⟩
       ·have:o=0:=by
         rcases hoo with h5|h5
         ·omega
         ·simpa using h5
        subst this;simp
       ·intro i hi
        obtain⟨c1,c2,c3⟩:=hcl i (by omega);exact⟨RepL.mono (f i) (Map.le_refl _) (k2.sameFp _) (y1b (f i) (ho.2.1 i hi) c1),c2,by simpa using c3⟩
   ·simp at ha
  ·simp at ha
theorem yzg:∀ {xs:List AV} {h h':List Ent} {ys:List AV} {us:List Value} {obl:List Prop} {FP:Nat->List Nat} {R:List Nat},WR c (Hof h) μ FP w->Free c FP w R ->
  RepL w (hot c.M0 (Hof h) μ) xs μ us []->absL h xs=some (ys,h',obl)->allP obl ->
  ∃ FP' fp,WR c (Hof h') μ FP' w/\Free c FP' w (R++fp)/\RepL w (hot c.M0 (Hof h') μ) ys yw us fp/\Trans c.M0 (Hof h) μ w (Hof h') μ w/\(∀ u∈us,u.oneCell'=true)/\h'.length=h.length
 | [],h,h',ys,us,obl,FP,R,hW,hR,hx,ha,_=>by
  simp only[absL,Option.some.injEq,Prod.mk.injEq]at ha;obtain⟨rfl,rfl,rfl⟩:=ha;simp only[RepL]at hx;obtain⟨rfl,_⟩:=hx;exact⟨FP,[],hW,by simpa using hR,by simp[RepL],Trans.refl _ _ _ _,by simp,rfl⟩
 | x::xs,h,h',ys,us,obl,FP,R,hW,hR,hx,ha,ho=>by
  simp only[RepL]at hx;obtain⟨u,us',f1,f2,rfl,hfp,h1,h2⟩:=hx;obtain⟨rfl,rfl⟩:=List.append_eq_nil_iff.1 hfp.symm;simp only[absL]at ha
  cases hc:absC h x with
  | none=>simp[hc]at ha
  | some p=>
   obtain⟨y,h1',o1⟩:=p;simp only[hc]at ha
   cases hl:absL h1' xs with
   | none=>simp[hl]at ha
   | some q=>
    obtain⟨zs,h2',o2⟩:=q;simp only[hl,Option.some.injEq,Prod.mk.injEq]at ha;obtain⟨rfl,rfl,rfl⟩:=ha;obtain⟨ho1,ho2⟩:=yk.1 ho;obtain⟨FP1,fp1,a1,a2,a3,a4,a5,a6⟩:=yd0 hW hR h1 hc ho1;obtain⟨FP2,fp2,b1,b2,b3,b4,b5,b6⟩:=yzg a1 a2 (RepL.mono xs (Map.le_refl _) (a4.sameFp _) h2) hl ho2;refine⟨FP2,fp1++fp2,b1,by simpa using b2,?_,a4.trans b4,?_,b6.trans a6⟩
    ·simp only[RepL]
     exact⟨u,us',fp1,fp2,rfl,rfl,Rep.mono y (Map.le_refl _) (b4.sameFp _) a3,b3⟩
    ·intro z hz
     rcases List.mem_cons.1 hz with rfl|hz
     ·exact a5
     ·exact b5 z hz
end
end Go.Ab
namespace Go.Ab
open Go
variable [Inv]
def updM (μ:Map) (id:Nat) (L:Loc):Map:=fun i=>if i=id then some L else μ i
structure Grow (w w':World):Prop where
 os:w'.os=w.os
 tape:w'.tape=w.tape
 output:w'.output=w.output
 size:w.heap.size<=w'.heap.size
 block:∀ k,k<w.heap.size->w'.heap[k]? = w.heap[k]?
theorem Grow.alloc (w:World) (o:Obj):Grow w (w.alloc o):=⟨rfl,rfl,rfl,by simp,fun k hk=>by show(w.heap.push o)[k]? = _;rw[Array.getElem?_push,if_neg (by omega)]⟩
theorem Grow.drew (w:World):Grow w w.drew:=⟨rfl,rfl,rfl,Nat.le_refl _,fun _ _=>rfl⟩
theorem Grow.trans {a b c:World} (h:Grow a b) (k:Grow b c):Grow a c:=
 ⟨k.os.trans h.os,k.tape.trans h.tape,k.output.trans h.output,Nat.le_trans h.size k.size,fun i hi=>(k.block i (Nat.lt_of_lt_of_le hi h.size)).trans (h.block i hi)⟩
theorem Grow.refl (a:World):Grow a a:=⟨rfl,rfl,rfl,Nat.le_refl _,fun _ _=>rfl⟩
section
variable {c:Ctx} {μ:Map} {FP:Nat->List Nat} {w:World} {R:List Nat}
def Tail (h:List Ent) (μ:Map):Prop:=∀ id,h.length<=id->μ id=none
theorem yih {h:List Ent} {e:Ent} {μ:Map} (hd:Tail h μ):∀ id,μ id≠none->Hof (h++[e]) id=Hof h id:=by
 intro id hid;simp only[Hof,ync];rw[if_neg];intro heq;exact hid (hd id (by omega))
theorem WR.put {h : List Ent} (hW : WR c (Hof h) μ FP w) (hR : Free c FP w R) (hd : Tail h μ) {w' : World} (hg : Grow w w') {e : Ent} {L : Loc} {fp : List Nat}
  (hL:∀ b cap,L=.blk b cap->w.heap.size<=b) (hfp:∀ b,b∈fp->(w.heap.size<=b/\b<w'.heap.size)\/b∈R) (hnd:fp.Nodup)
  (hok:∀ M',Same w (hot c.M0 (Hof h) μ) w' M' R->yic w' M' (updM μ h.length L) e L fp) :
  WR c (Hof (h++[e])) (updM μ h.length L) (updF FP h.length fp) w'/\Trans c.M0 (Hof h) μ w (Hof (h++[e])) (updM μ h.length L) w'/\Tail (h++[e]) (updM μ h.length L):=by
 have hnone:μ h.length=none:=hd _ (Nat.le_refl _)
 have hle:μ.le (updM μ h.length L):=by
  intro i L' hi;simp only[updM];rw[if_neg]
  ·exact hi
  ·intro e;subst e;rw[hnone]at hi;cases hi
 have hcold:∀ b,b<w.heap.size->¬ hot c.M0 (Hof h) μ b->¬ hot c.M0 (Hof (h++[e])) (updM μ h.length L) b:=by
  intro b hb hn hh;rcases hh with hh|⟨i,cap,e',hm,he,hl⟩
  ·exact hn (.inl hh)
  ·simp only[updM]at hm
   split at hm
   ·cases hm
    have:=hL b cap rfl;omega
   ·exact hn (.inr ⟨i,cap,e',hm,by rw[<- yih (e:=e) hd i (by simp[hm])];exact he,hl⟩)
 have hup := WR.update (H' := Hof (h ++ [e])) (μ' := updM μ h.length L) (FP' := updF FP h.length fp) (w' := w') (fun _ => False) R hW hR hg.os hg.tape hg.output hg.size (fun b hb => .inl (hg.block b hb)) hle
  (fun i hi _=>yih hd i hi)
  (by
   intro i hi _;simp only[updF];rw[if_neg]
   intro e;subst e;exact hi hnone)
  (by
   intro i L' hi hL';have hi:=hi.resolve_right id;simp only[updM]at hL';split at hL'
   ·rename_i heq
    subst heq;cases hL'
    refine⟨e,by simp[Hof,ync],?_⟩;simp only[updF,if_true];exact hok _ ⟨hg.size,hcold,fun b hb _=>hg.block b hb⟩
   ·rw[hi]at hL';cases hL')
  (by
   intro i b cap e' hi hm _ _;have hi:=hi.resolve_right id;simp only[updM]at hm;split at hm
   ·cases hm;exact .inr (hL b cap rfl)
   ·rw[hi]at hm;cases hm)
  (by
   intro i b hi hb;have hi:=hi.resolve_right id;simp only[updF]at hb;split at hb
   ·exact .inr (hfp b hb)
   ·rw[hW.out i hi]at hb;simp at hb)
  (by
   intro i hi;simp only[updM,updF]at hi ⊢;split at hi
   ·cases hi
   ·rename_i hne
    rw[if_neg hne];exact hW.out i hi)
  (by
   intro i hi;simp only[updF];split
   ·exact hnd
   ·exact hW.nodup i)
  (by
   intro i j hij hi hj b hbi hbj;have hi:=hi.resolve_right id;have hj:=hj.resolve_right id;simp only[updF]at hbi hbj;split at hbi
   ·split at hbj
    ·omega
    ·rw[hW.out j hj]at hbj;simp at hbj
   ·rw[hW.out i hi]at hbi;simp at hbi)
 refine⟨hup.1,hup.2,?_⟩;intro i hi;simp only[List.length_append,List.length_singleton]at hi;simp only[updM];rw[if_neg (by omega)];exact hd i (by omega)
end
end Go.Ab
namespace Go.Ab
open Go
variable [Inv]
def elt : List (List AV) -> Nat -> List AV
 | [],_=>[]
 | x::_,0=>x
 | _::l,n+1=>elt l n
def litS : List (List AV) -> Option (List (List UInt8))
  | []=>some []
  | x :: r => match x with
    | [.str s] => match litS r with
      | some l=>some (s::l)
      | none=>none
    | _=>none
def nine {α : Type} : List α -> Bool
 | _::_::_::_::_::_::_::_::_::_=>true
 | _=>false
def eltY (css : List (List AV)) : Option (List (List UInt8)) -> Nat -> List AV
 | some l=>fun i=>[.str (l.getD i default)]
 | none=>elt css
def eltX (css:List (List AV)):Nat->List AV:=bif nine css then eltY css (litS css)else elt css
theorem yax : ∀ {css : List (List AV)} {l : List (List UInt8)}, litS css = some l -> ∀ i, i < css.length -> elt css i = [.str (l.getD i default)]
 | [],_,_,i,hi=>by simp at hi
 | x::r,l,h,i,hi=>by
  simp only[litS]at h;split at h
  ·split at h
   ·rename_i l' hl
    simp only[Option.some.injEq]at h;subst h
    cases i with
    | zero=>simp[elt]
    | succ i=>simpa [elt]using yax hl i (by simpa using hi)
   ·simp at h
  ·simp at h
theorem y1cb (css:List (List AV)) (i:Nat) (hi:i<css.length):eltX css i=elt css i:=by
 unfold eltX;cases nine css
 ·rfl
 ·simp only[cond_true]
  cases hl:litS css with
  | none=>rfl
  | some l=>exact(yax hl i hi).symm
def yvk (h : List Ent) (sz : Nat) : List AV -> Option (List (List AV) × List Ent × List Prop)
  | []=>some ([],h,[])
  | x :: xs => match ytd x with
    | some cs=>if cs.length=sz then
        match absL h cs with
        | some (ys, h1, o1) => match yvk h1 sz xs with
          | some (yss,h2,o2)=>some (ys::yss,h2,o1++o2)
          | none=>none
        | none=>none
      else none
    | none=>none
def ywj : Nat -> List (Nat × AV) -> Bool
 | _,[]=>true
 | k,(i,_)::l=>Nat.beq i k && ywj (k+1) l
abbrev NewR:=Option (AV×List Ent×List Prop)
def boxA (h:List Ent) (x:AV):NewR:=
  match ytd x with
  | some cs => match y8m cs with
    | true=>some (.ptr h.length 0,h++[.box cs],[])
    | false=>none
  | none=>none
def yny (Γ:Env) (h:List Ent) (t:TypeId):NewR:=
  match tget Γ t with
  | some j => match j.ones with
    | true=>some (.ptr h.length 0,h++[.box j.zero],[])
    | false=>none
  | none=>none
def y2q (Γ:Env) (h:List Ent) (t:TypeId) (len:Nat) (parts:List (Nat×AV)):NewR:=
  match tget Γ t with
  | some j => match j.ti with
    | .slice et => match tget Γ et with
      | some k => match k.zero with
        | []=>none
        | _::_=>if parts.length=len/\ywj 0 parts=true/\len * k.size<=16777216/\len<=16777216 then
            match yvk h k.size (parts.map (·.2))with
            | some (css,h1,o)=>some (.ref h.length k.size 0 len,h1++[.arr et k.size len (eltX css)],o)
            | none=>none
          else none
      | none=>none
    | _=>none
  | none=>none
def yly (Γ:Env) (h:List Ent) (t:TypeId) (l c:AV):NewR:=
  match tget Γ t,l,c with
  | some j, .int _ l, .int _ c => match j.ti with
    | .slice et => match tget Γ et with
      | some k => match k.ones, absL h k.zero with
        | true,some (ys,_,[])=>if k.zero.length=k.size/\0<k.size then
            some (.ref h.length k.size 0 l.toNat,h++[.arr et k.size l.toNat (fun _=>ys)],[0<=l/\l<=c/\c * k.bytes<=140737488355328/\c<=140737488355328])
          else none
        | _,_=>none
      | none=>none
    | _=>none
  | _,_,_=>none
def ycy (Γ:Env) (h:List Ent) (t:TypeId) (x:AV):NewR:=
  match tget Γ t,x with
  | some j, .str l => match j.ti with
    | .string=>some (.ptr h.length 0,h++[.it l 0 (decide (0<l.length))],[∀ x∈l,x.toNat<128])
    | _=>none
  | _,_=>none
def strB (Γ:Env) (h:List Ent) (s d:TypeId) (x:AV):NewR:=
  match tget Γ s,tget Γ d,x with
  | some _, some j, .str l => match j.ti with
    | .slice et => match tget Γ et with
      | some k => match k.ti with
        | .int .u8=>some (.ref h.length 1 0 l.length,h++[.byt l],[])
        | _=>none
      | none=>none
    | _=>none
  | _,_,_=>none
def yu7 (h:List Ent) (x:AV):NewR:=
  match x with
  | .ptr id 0 => match nthE h id with
    | some (.it l p true)=>some (.tup [.bool true,.int .i64 p,.int .i32 (l.getD p 0).toNat],setE h id (.it l (p+1) (decide (p+1<l.length))),[])
    | some (.it _ _ false)=>some (.tup [.bool false],h,[])
    | _=>none
  | _=>none
section
variable {P:Program} {Γ:Env} {c:Ctx} {μ:Map} {FP:Nat->List Nat} {w:World} {R:List Nat}
structure Next1 (c:Ctx) (h:List Ent) (μ:Map) (w:World) (h':List Ent) (μ':Map) (w':World):Prop where
 wr:∃ FP',WR c (Hof h') μ' FP' w'
 tail:Tail h' μ'
 tr:Trans c.M0 (Hof h) μ w (Hof h') μ' w'
theorem y7s {h:List Ent} (hW:WR c (Hof h) μ FP w) (hd:Tail h μ) {cs:List AV} {us:List Value} (hr:RepL w (hot c.M0 (Hof h) μ) cs μ us []) (hone:∀ u∈us,u.oneCell'=true) (T:TypeId) :
  Next1 c h μ w (h++[.box cs]) (updM μ h.length (.blk w.heap.size 0)) (w.alloc (.cells us.toArray T)):=by
 have hle:μ.le (updM μ h.length (.blk w.heap.size 0)):=by
  intro i L' hi;simp only[updM];rw[if_neg]
  ·exact hi
  ·intro e;subst e;rw[hd _ (Nat.le_refl _)]at hi;cases hi
 obtain ⟨h1, h2, h3⟩ := hW.put (Free.nil _ _ _) hd (Grow.alloc w (.cells us.toArray T)) (e := .box cs) (L := .blk w.heap.size 0) (fp := [w.heap.size])
  (by intro b cap he;cases he;exact Nat.le_refl _) (by intro b hb;simp at hb;subst hb;exact .inl ⟨Nat.le_refl _,by simp⟩) (by simp)
  (fun M' hs=>⟨w.heap.size,0,us,T,rfl,rfl,heap_alloc_new w _,hone,RepL.mono cs hle hs hr⟩)
 exact⟨⟨_,h1⟩,h3,h2⟩
theorem yoz {h h':List Ent} {x r:AV} {v:Value} {obl:List Prop} (hW:WR c (Hof h) μ FP w) (hd:Tail h μ) (hb:boxA h x=some (r,h',obl)) (hx:Rep w (hot c.M0 (Hof h) μ) x μ v []) (T:TypeId) :
  ∃ z μ' w',(Instr.box T v).run P w=.ok z w'/\Next1 c h μ w h' μ' w'/\Rep w' (hot c.M0 (Hof h') μ') r μ' z []:=by
 unfold boxA at hb
 cases hc:ytd x with
 | none=>simp[hc]at hb
 | some cs=>
  simp only[hc]at hb;split at hb
  ·rename_i hall
   simp only[Option.some.injEq,Prod.mk.injEq]at hb;obtain⟨rfl,rfl,rfl⟩:=hb;obtain⟨us,hu,hr⟩:=hx.cells hc;refine⟨.pointer (some ⟨w.heap.size,0,none⟩),updM μ h.length (.blk w.heap.size 0),w.alloc (.cells us.toArray T),?_,y7s hW hd hr (hr.one hall) T,?_⟩
   ·simp[Instr.box,newVar,newRow,hu]
   ·simp only[Rep]
    exact⟨trivial,w.heap.size,0,by simp[updM],rfl⟩
  ·simp at hb
theorem ybs (hΓ : TyOk P Γ) {h h' : List Ent} {t : TypeId} {x r : AV} {v : Value} {obl : List Prop} (hW : WR c (Hof h) μ FP w) (hd : Tail h μ) (hb : ycy Γ h t x = some (r, h', obl)) (ho : allP obl)
  (hx:Rep w (hot c.M0 (Hof h) μ) x μ v []) :
  ∃ z μ' w',(Instr.range t v).run P w=.ok z w'/\Next1 c h μ w h' μ' w'/\Rep w' (hot c.M0 (Hof h') μ') r μ' z []:=by
 unfold ycy at hb;split at hb
 ·rename_i j l ht
  obtain⟨inf,d,hinf,hdd,hti,_⟩:=yg (hΓ.get ht);split at hb
  ·rename_i hk
   rw[hk]at hti;have:=y1c hti;subst this;simp only[Option.some.injEq,Prod.mk.injEq]at hb;obtain⟨rfl,rfl,rfl⟩:=hb;have ex:=hx.val_str;have hl:l.length<=maxLen:=by simp only[Rep]at hx;exact hx.1.2
   subst ex
   have hle:μ.le (updM μ h.length (.blk w.heap.size 0)):=by
    intro i L' hi;simp only[updM];rw[if_neg]
    ·exact hi
    ·intro e;subst e;rw[hd _ (Nat.le_refl _)]at hi;cases hi
   obtain ⟨h1, h2, h3⟩ := hW.put (Free.nil _ _ _) hd (Grow.alloc w (.stringIter ⟨l.toArray⟩ 0)) (e := .it l 0 (decide (0 < l.length))) (L := .blk w.heap.size 0) (fp := [w.heap.size])
    (by intro b cap he;cases he;exact Nat.le_refl _) (by intro b hb;simp at hb;subst hb;exact .inl ⟨Nat.le_refl _,by simp⟩) (by simp)
    (fun M' hs=>⟨w.heap.size,rfl,rfl,heap_alloc_new w _,rfl,ho.1,hl⟩)
   refine⟨.pointer (some ⟨w.heap.size,0,none⟩),updM μ h.length (.blk w.heap.size 0),w.alloc (.stringIter ⟨l.toArray⟩ 0),?_,⟨⟨_,h1⟩,h3,h2⟩,?_⟩
   ·simp[Instr.range,run_underlying hdd]
   ·simp only[Rep]
    exact⟨trivial,w.heap.size,0,by simp[updM],rfl⟩
  ·simp at hb
 ·simp at hb
theorem Grow.bytesW (w:World) (e:TypeId) (s:ByteArray):Grow w (Lib.bytesWorld w e s):=
 ⟨rfl,rfl,rfl,by rw[Lib.bytesWorld_size];omega,fun k hk=>Lib.bytesWorld_at_old w e s k hk⟩
theorem y6z (hΓ : TyOk P Γ) {h h' : List Ent} {t d : TypeId} {x r : AV} {v : Value} {obl : List Prop} (hW : WR c (Hof h) μ FP w) (hd : Tail h μ) (hb : strB Γ h t d x = some (r, h', obl))
  (hx:Rep w (hot c.M0 (Hof h) μ) x μ v []) :
  ∃ z μ' w',(convert t d v).run P w=.ok z w'/\Next1 c h μ w h' μ' w'/\Rep w' (hot c.M0 (Hof h') μ') r μ' z []:=by
 unfold strB at hb;split at hb
 case h_2=>cases hb
 rename_i js jd l hs hdd
 obtain⟨inf1,d1,hinf1,hd1,hti1,_⟩:=yg (hΓ.get hs);obtain⟨inf2,d2,hinf2,hd2,hti2,_⟩:=yg (hΓ.get hdd);split at hb
 case h_2=>cases hb
 rename_i et hk
 rw[hk]at hti2;have:=y6b hti2;subst this;split at hb
 case h_2=>cases hb
 rename_i k hke
 obtain⟨inf3,d3,hinf3,hd3,hti3,_⟩:=yg (hΓ.get hke);split at hb
 case h_2=>cases hb
 rename_i hki
 rw[hki]at hti3;have:=y6l hti3;subst this;simp only[Option.some.injEq,Prod.mk.injEq]at hb;obtain⟨rfl,rfl,rfl⟩:=hb;have ex:=hx.val_str;have hl:l.length<=maxLen:=by simp only[Rep]at hx;exact hx.1.2
 subst ex;have hsz:(⟨l.toArray⟩:ByteArray).size=l.length:=by simp[ByteArray.size]
 have hge:l.length<=(Lib.bytesCells w et ⟨l.toArray⟩).size:=by simp[Lib.bytesCells]
 obtain ⟨h1, h2, h3⟩ := hW.put (Free.nil _ _ _) hd (Grow.bytesW w et ⟨l.toArray⟩) (e := .byt l) (L := .blk w.heap.size (Lib.bytesCells w et ⟨l.toArray⟩).size) (fp := [w.heap.size])
  (by intro b cap he;cases he;exact Nat.le_refl _) (by intro b hb;simp at hb;subst hb;exact .inl ⟨Nat.le_refl _,by rw[Lib.bytesWorld_size];omega⟩) (by simp)
  (fun M' hs=>⟨w.heap.size,_,et,rfl,rfl,Lib.bytesWorld_at_new w et _,hge,hl,by
   intro j hj
   simp[Lib.bytesCells,Array.getElem?_append,hj]⟩)
 have hcap:grownCap w (⟨l.toArray⟩:ByteArray).size 0 et=(Lib.bytesCells w et ⟨l.toArray⟩).size:=by
  have:=grownCap_ge w (⟨l.toArray⟩:ByteArray).size 0 et;simp only[Lib.bytesCells,Array.size_append,Array.size_map,Array.size_replicate];rw[hsz]at this ⊢;simp
  omega
 refine⟨_,updM μ h.length (.blk w.heap.size (Lib.bytesCells w et ⟨l.toArray⟩).size),_,Lib.run_convert_string_bytes w t d et ⟨l.toArray⟩ hd1 hd2 hd3,⟨⟨_,h1⟩,h3,h2⟩,?_⟩;simp only[Rep];refine⟨trivial,?_⟩;simp only[updM,if_true];exact⟨by omega,0,by rw[hcap,hsz];rfl,.inr (by simp)⟩
theorem yws (hΓ:TyOk P Γ) {h h':List Ent} {t:TypeId} {r:AV} {obl:List Prop} (hW:WR c (Hof h) μ FP w) (hd:Tail h μ) (hb:yny Γ h t=some (r,h',obl)) :
  ∃ z μ' w',(Instr.alloc t true (.tuple #[])).run P w=.ok z w'/\Next1 c h μ w h' μ' w'/\Rep w' (hot c.M0 (Hof h') μ') r μ' z []:=by
 unfold yny at hb
 cases ht:tget Γ t with
 | none=>simp[ht]at hb
 | some j=>
  obtain⟨inf,d,hinf,hdd,hti,hsz,hby,hzero,hones⟩:=yg (hΓ.get ht);simp only[ht]at hb;split at hb
  ·rename_i hall
   simp only[Option.some.injEq,Prod.mk.injEq]at hb;obtain⟨rfl,rfl,rfl⟩:=hb
   cases hz:inf.zero with
   | none=>rw[hones,hz]at hall;simp at hall
   | some z=>
    have hr:=ygi (M:=hot c.M0 (Hof h) μ) (μ:=μ) (w:=w) (hΓ.get ht) hinf hz
    have hone:∀ u∈z.cells.toList,u.oneCell'=true:=by
     rw[hones,hz]at hall;simp only[Option.map_some,Option.getD_some,List.all_eq_true]at hall;exact hall
    refine⟨.pointer (some ⟨w.heap.size,0,none⟩),updM μ h.length (.blk w.heap.size 0),w.alloc (.cells z.cells.toList.toArray t),?_,y7s hW hd hr hone t,?_⟩
    ·simp[Instr.alloc,newVar,newRow,zeroValue,typeInfo,hinf,hz]
    ·simp only[Rep]
     exact⟨trivial,w.heap.size,0,by simp[updM],rfl⟩
  ·simp at hb
theorem y8p (z:Array Value) (n e i j:Nat) (hz:z.size=e) (hi:i<n) (hj:j<e):(madeCells z (n * e))[i * e+j]? = z[j]? := by
 have hlt:i * e+j<n * e:=by
  calc i * e + j < i * e + e := by omega
   _=(i+1) * e:=by rw[Nat.add_mul,Nat.one_mul]
   _<=n * e:=Nat.mul_le_mul_right _ hi
 have hmod:(i * e+j) % z.size=j:=by rw[hz,Nat.mul_comm,Nat.mul_add_mod,Nat.mod_eq_of_lt hj]
 have hjz:j<z.size:=by omega
 simp only[madeCells,Array.getElem?_map,Array.getElem?_range,if_pos hlt,Option.map_some,hmod];rw[getElem!_pos z j hjz,Array.getElem?_eq_getElem hjz]
theorem ytn {h : List Ent} : ∀ {xs ys : List AV} {h' : List Ent} {obl : List Prop}, (∀ x ∈ xs, ∃ v, x = avOf v) -> absL h xs = some (ys, h', obl) -> ys = xs /\ h' = h
 | [],ys,h',obl,_,ha=>by
  simp only[absL,Option.some.injEq,Prod.mk.injEq]at ha;obtain⟨rfl,rfl,_⟩:=ha;exact⟨rfl,rfl⟩
 | x::xs,ys,h',obl,hv,ha=>by
  obtain⟨v,hxv⟩:=hv x (by simp);simp only[absL]at ha
  have hx:∀ y h1 o1,absC h x=some (y,h1,o1)->y=x/\h1=h:=by
   intro y h1 o1 hc;subst hxv;unfold avOf at hc ⊢;split at hc
   case h_3=>revert hc;cases decide (_<=4096)<;>intro hc<;>simp only[cond_true,cond_false,absC,Option.some.injEq,Prod.mk.injEq,reduceCtorEq]at hc ⊢;obtain⟨rfl,rfl,_⟩:=hc;exact⟨rfl,rfl⟩
   all_goals simp only[absC,Option.some.injEq,Prod.mk.injEq,reduceCtorEq]at hc
   all_goals
    obtain⟨rfl,rfl,_⟩:=hc;exact⟨rfl,rfl⟩
  cases hc:absC h x with
  | none=>simp[hc]at ha
  | some p=>
   obtain⟨y,h1,o1⟩:=p;obtain⟨rfl,rfl⟩:=hx y h1 o1 hc;simp only[hc]at ha
   cases hl:absL h1 xs with
   | none=>simp[hl]at ha
   | some q=>
    obtain⟨zs,h2,o2⟩:=q;simp only[hl,Option.some.injEq,Prod.mk.injEq]at ha;obtain⟨rfl,rfl,rfl⟩:=ha;obtain⟨rfl,rfl⟩:=ytn (fun x hx=>hv x (by simp[hx])) hl;exact⟨rfl,rfl⟩
theorem Rep.avOf_any {w w':World} {M M':Nat->Prop} {μ μ':Map} {v u:Value} {fp:List Nat} (h:Rep w M (avOf v) μ u fp):Rep w' M' (avOf v) μ' u fp:=by
 unfold avOf at h ⊢;split at h
 case h_3=>revert h;cases decide (_<=4096)<;>intro h<;>simpa only[cond_true,cond_false,Rep]using h
 all_goals simpa only[Rep]using h
theorem RepL.avOf_any {w w' : World} {M M' : Nat -> Prop} {μ μ' : Map} : ∀ {xs : List AV} {us : List Value} {fp : List Nat}, (∀ x ∈ xs, ∃ v, x = avOf v) -> RepL w M xs μ us fp -> RepL w' M' xs μ' us fp
 | [],us,fp,_,h=>by simpa only[RepL]using h
 | x::xs,us,fp,hv,h=>by
  simp only[RepL]at h ⊢;obtain⟨u,us',f1,f2,e1,e2,h1,h2⟩:=h;obtain⟨v,rfl⟩:=hv x (by simp);exact⟨u,us',f1,f2,e1,e2,h1.avOf_any,RepL.avOf_any (fun y hy=>hv y (by simp[hy])) h2⟩
theorem yau (hΓ : TyOk P Γ) {h h' : List Ent} {t : TypeId} {l cp r : AV} {vl vc : Value} {obl : List Prop} (hW : WR c (Hof h) μ FP w) (hd : Tail h μ) (hb : yly Γ h t l cp = some (r, h', obl)) (ho : allP obl)
  (hl:Rep w (hot c.M0 (Hof h) μ) l μ vl []) (hc:Rep w (hot c.M0 (Hof h) μ) cp μ vc []) :
  ∃ z μ' w',(Instr.makeSlice t vl vc).run P w=.ok z w'/\Next1 c h μ w h' μ' w'/\Rep w' (hot c.M0 (Hof h') μ') r μ' z []:=by
 unfold yly at hb;split at hb
 ·rename_i j kl l kc cc ht
  have el:=hl.val_int;have ec:=hc.val_int;subst el;subst ec;obtain⟨inf,d,hinf,hdd,hti,_⟩:=yg (hΓ.get ht);split at hb
  ·rename_i et hk
   rw[hk]at hti;have:=y6b hti;subst this
   cases het:tget Γ et with
   | none=>simp[het]at hb
   | some k=>
    obtain⟨inf2,d2,hinf2,hd2,hti2,hsz2,hby2,hzero2,hones2⟩:=yg (hΓ.get het);simp only[het]at hb;split at hb
    ·rename_i ys h0 hall habs
     split at hb
     ·rename_i hlen
      simp only[Option.some.injEq,Prod.mk.injEq]at hb;obtain⟨rfl,rfl,rfl⟩:=hb;obtain⟨⟨b1,b2,b3,b4⟩,_⟩:=ho
      have hav:∀ x∈k.zero,∃ v,x=avOf v:=by
       intro x hx;rw[hzero2]at hx;obtain⟨v,_,rfl⟩:=List.mem_map.1 hx;exact⟨v,rfl⟩
      obtain⟨rfl,rfl⟩:=ytn hav habs
      cases hz:inf2.zero with
      | none=>rw[hones2,hz]at hall;simp at hall
      | some z=>
       have hr:=ygi (M:=hot c.M0 (Hof h0) μ) (μ:=yw) (w:=w) (hΓ.get het) hinf2 hz
       have hone:∀ u∈z.cells.toList,u.oneCell'=true:=by
        rw[hones2,hz]at hall;simp only[Option.map_some,Option.getD_some,List.all_eq_true]at hall;exact hall
       have hzs:z.cells.size=k.size:=by rw[<- hlen.1, <- hr.length];simp
       have hrun:=run_make (P:=P) w t et inf2 z hdd hinf2 hz kl kc l cc b1 b2 (by rw[hby2];have:(k.bytes:Int) * cc=cc * k.bytes:=Int.mul_comm _ _;omega) (by omega);rw[hsz2]at hrun
       obtain ⟨q1, q2, q3⟩ := hW.put (Free.nil _ _ _) hd (Grow.alloc w (.cells (madeCells z.cells (cc.toNat * k.size)) et)) (e := .arr et k.size l.toNat (fun _ => k.zero)) (L := .blk w.heap.size cc.toNat) (fp := [w.heap.size])
        (by intro b cap he;cases he;exact Nat.le_refl _) (by intro b hb;simp at hb;subst hb;exact .inl ⟨Nat.le_refl _,by simp⟩) (by simp)
        (fun M' hs=>by
         refine⟨_,fun _=>z.cells.toList,fun _=>[],heap_alloc_new w _,by simp[madeCells],by omega,by simp only[maxLen];omega,?_,by simp⟩;intro i hi;refine⟨hr.avOf_any hav,by simpa using hzs,?_⟩;intro j u hu
         have hj:j<k.size:=by
          have:=(List.getElem?_eq_some_iff.1 hu).1;simpa [hzs]using this
         refine⟨?_,hone u (List.mem_of_getElem? hu)⟩;rw[cell_of_row _ _ _ _ _ _ (heap_alloc_new w _),y8p z.cells cc.toNat k.size i j hzs (by omega) hj]
         simpa using hu)
       refine⟨.slice (some ⟨w.heap.size,0,none⟩) l.toNat cc.toNat,_,_,hrun,⟨⟨_,q1⟩,q3,q2⟩,?_⟩;simp only[Rep,updM,if_true];exact⟨trivial,by omega,0,by simp,.inr (by simp)⟩
     ·simp at hb
    ·simp at hb
  ·simp at hb
 ·simp at hb
end
end Go.Ab
