/- Walks and lemmas. No conditions. -/
import Derived.Deep.Strs
import Derived.Test.YthmfknndfeepfaaGreatDoorEAd
set_option linter.unusedSectionVars false
set_option linter.unusedVariables false
set_option linter.unusedSimpArgs false
namespace Go.Ab
open Go Go.Deep Go.ChangeShapes Go.WideShapes Go.ChangeAt Go.RowKit
def Rd (P:Program) {α:Type} (t:TypeId) (e:α->List AV):Prop:=
 ∀ {H:Type} {enc:TypeId×Value->H} {W:World} {base:Nat} {sp:Nat->Bool} {hd:Bool} {fuel:Nat} {cs:List Value} {x:DataW H×List MemPlace},DataW.trod enc P W base sp hd fuel t cs=some x ->
  ∃ v:α,RepL W (fun _=>False) (e v) yw cs []/\(∀ u∈cs,u.oneCell'=true)
theorem rep1 {W:World} {M:Nat->Prop} {μ:Map} {x:AV} {v:Value} (h:Rep W M x μ v []):RepL W M [x] μ [v] []:=by
 simp only[RepL];exact⟨v,[],[],[],rfl,rfl,h,rfl,rfl⟩
theorem ysw {P:Program} {α:Type} [Inhabited α] {t te:TypeId} {k:Nat} {e:α->List AV} (ht:P.underlying t=some (.slice te)) (hk:P.cellsOf te=k) (hk0:0<k) (he:Rd P te e):Rd P t (fun l:List α=>[encL k e l]):=by
 intro H enc W base sp hd fuel cs x h;rcases open_slice ht h with⟨rfl,_⟩|⟨a,len,cap,m,n,D,Pl,rfl,hb,hl,hm,hme,_,hel⟩
 ·exact⟨[],rep1 (by simp[encL,Rep,y7e]),by simp[Value.oneCell']⟩
 ·have hlm:len<=m:=by rw[hme];split<;>omega
  have hex:∀ i,∃ u:α,i<len->∃ cs':List Value,RepL W (fun _=>False) (e u) yw cs' []/\cs'.length=k/\(∀ j x,cs'[j]? = some x->W.cell? (a.add (i * k+j))=some x/\x.oneCell'=true):=by
   intro i;by_cases hi:i<len
   ·obtain⟨cs',hc,hq⟩:=hel i (by omega)
    obtain⟨u,h1,h2⟩:=he hq;obtain⟨_,c2,hc3⟩:=World.cells?_some hc;rw[hk]at c2 hc3;refine⟨u,fun _=>⟨cs',h1,c2,fun j x hx => ?_⟩⟩;have hj:j<k:=by rw[<- c2];exact(List.getElem?_eq_some_iff.1 hx).1
    have h3:=hc3 j hj;rw[hx,Addr.add_add]at h3;exact⟨h3,h2 x (List.mem_of_getElem? hx)⟩
   ·exact⟨default,fun h=>absurd h hi⟩
  obtain⟨g,hg⟩:=Classical.axiomOfChoice hex;refine⟨(List.range len).map g,rep1 ?_,by simp[Value.oneCell']⟩;simp only[encL,Rep];by_cases h0:len=0
  ·subst h0;exact .inl ⟨by simp,.inr ⟨_,_,rfl⟩,trivial⟩
  ·have hex2:∀ i,∃ us:List Value,i<len->RepL W (fun _=>False) (e (g i)) yw us []/\us.length=k/\(∀ j x,us[j]? = some x->W.cell? (a.add (i * k+j))=some x/\x.oneCell'=true):=by
    intro i;by_cases hi:i<len
    ·obtain⟨us,h⟩:=hg i hi;exact⟨us,fun _=>h⟩
    ·exact⟨[],fun h=>absurd h hi⟩
   obtain⟨us,hus⟩:=Classical.axiomOfChoice hex2;obtain⟨b,o,sp'⟩:=a
   have hz:∃ x,W.cell? ⟨b,o,sp'⟩=some x:=by
    obtain⟨_,h2,h3⟩:=hus 0 (by omega);have hx:(us 0)[0]? = some ((us 0)[0]'(by omega)):=List.getElem?_eq_getElem _;have:=(h3 0 _ hx).1;rw[show 0 * k+0=0 by omega]at this;exact⟨_,by simpa [Addr.add]using this⟩
   obtain⟨x0,hx0⟩:=hz
   have hsp:sp'=none/\b<W.heap.size:=by
    unfold World.cell? at hx0;split at hx0
    ·rename_i c _ _ hh
     split at hx0
     ·cases hx0
     ·rename_i hs
      refine⟨by simpa using hs,?_⟩;exact(Array.getElem?_eq_some_iff.1 hh).1
    ·cases hx0
   obtain⟨rfl,hblt⟩:=hsp;refine .inr ⟨b,o,cap,us,fun _=>[],by simp,⟨by simpa using hl,by simp;omega⟩,hblt,?_,by simp,trivial,by simp⟩;intro i hi;simp at hi
   have hgd:((List.range len).map g).getD i default=g i:=by simp[List.getD_eq_getElem?_getD,hi]
   rw[hgd];obtain⟨h1,h2,h3⟩:=hus i hi;refine⟨h1,h2,fun j u hu => ?_⟩;have:=h3 j u hu;rw[Addr.add_lit, <- Nat.add_assoc]at this;exact this
theorem yrt {P : Program} {α : Type} {t : TypeId} {e : α -> AV} (hr : Rd P t (fun v => [e v])) {H : Type} {enc : TypeId × Value -> H} {W : World} {v : Value} {d : DataW H} {ps : List MemPlace} (hv : ∀ us, v ≠ .agg us)
  (h:DataW.Trod enc P W 0 (fun _=>true) true t v d ps):∃ a:α,Rep W (fun _=>False) (e a) yw v []:=by
 obtain⟨fuel,h⟩:=h
 have hc:v.cells.toList=[v]:=by
  cases v<;>first|rfl|exact absurd rfl (hv _)
 rw[hc]at h;obtain⟨a,h1,_⟩:=hr h;simp only[RepL]at h1;obtain⟨u,us',f1,f2,e1,e2,hu,_,_⟩:=h1;simp only[List.cons.injEq]at e1;obtain⟨rfl,_⟩:=e1;obtain⟨rfl,_⟩:=List.append_eq_nil_iff.1 e2.symm;exact⟨a,hu⟩
end Go.Ab
