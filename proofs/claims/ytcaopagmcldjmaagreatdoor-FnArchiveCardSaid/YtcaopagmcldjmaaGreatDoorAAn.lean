/- A part of a proof: walks of functions and lemmas of our own. No conditions. -/
import Derived.Test.YtcaopagmcldjmaaGreatDoorAAl
import Derived.Test.YtcaopagmcldjmaaGreatDoorAAi
import Derived.Test.YtcaopagmcldjmaaGreatDoorAAm
import Derived.Handy
import Derived.Shelf.Strings.Prefix
import Derived.Shelf.Strings.Search3
import Derived.Shelf.Strings.Cut
import Derived.Shelf.Strings.Builder1
import Derived.Shelf.Strings.Builder2
import Derived.Shelf.Strings.OnBuilder
import Derived.Shelf.Small.Strs
import Derived.Shelf.Small.Wraps
import Derived.Shelf.Strings.BuilderF
import Derived.Shelf.Utf8.RuneCount
import Derived.Shelf.Strconv.Itoa0
import Derived.Shelf.Strconv.Itoa1
import Derived.Shelf.LaysM
import Derived.Shelf.Strconv.Itoa2
import Derived.Shelf.Strconv.Itoa3
import Derived.Shelf.Strconv.Itoa4
import Derived.Shelf.Strconv.ParseIntEmpty
import Derived.Shelf.Strconv.Clone
import Derived.Shelf.Strconv.SyntaxError
import Derived.Shelf.LaysC
import Derived.Shelf.Strconv.ToError
import Derived.Shelf.Strconv.Lower
import Derived.Shelf.Strconv.ParseUint10
import Derived.Shelf.Strconv.ParseUint10Empty
import Derived.Shelf.Strconv.ParseUint10Any
import Derived.Shelf.Strconv.ParseInt10
import Derived.Shelf.Strconv.RangeError
import Derived.Shelf.Strconv.ToErrorRange
import Derived.Shelf.Strconv.ParseUintEmpty
import Derived.Shelf.Strconv.ParseUint10b64
import Derived.Shelf.Strconv.ParseUint10b32
import Derived.Shelf.Strconv.ParseUint10b16
import Derived.Shelf.Strconv.ParseUint10b8
import Derived.Shelf.Strconv.ParseUint10At
import Derived.Shelf.Strconv.ParseInt10At64
import Derived.Shelf.Strconv.ParseInt10At32
import Derived.Shelf.Strconv.ParseInt10At16
import Derived.Shelf.Strconv.ParseInt10At8
import Derived.Shelf.Strconv.ParseInt10All
import Derived.Shelf.Strconv.ParseIntPublic10
import Derived.Shelf.Strconv.ErrVarParseInt
import Derived.Shelf.Strings.Search1
import Derived.Shelf.Strings.Search2
import Derived.Shelf.Strings.Count
import Derived.Shelf.Strings.Shaped
import Derived.Shelf.Strings.Split
import Derived.Shelf.Strings.Fields
import Derived.Shelf.Strings.SplitShaped
import Derived.Shelf.Unicode.Latin
import Derived.Shelf.Unicode.Decode
import Derived.Shelf.Strings.RuneCount
import Derived.Shelf.Strings.Explode
import Derived.Shelf.Bits.Mul64
import Derived.Shelf.Strings.Repeat
import Derived.Shelf.Unicode.DecodeSlow
import Derived.Shelf.Unicode.DecodeAny
import Derived.Shelf.Unicode.Is16White
import Derived.Shelf.Unicode.IsSpaceAny
import Derived.Shelf.Unicode.Is16Any
import Derived.Shelf.Unicode.Is32Any
import Derived.Shelf.Unicode.ExclAny
import Derived.Test.YtcaopagmcldjmaaGreatDoorProg
import Derived.Below
set_option linter.unusedSectionVars false
set_option linter.unusedVariables false
set_option linter.unusedSimpArgs false
set_option maxHeartbeats 1000000
namespace Go.Ab
open Go Go.Proofs
def y1h {α ρ σ : Type} (g : α -> σ -> Except ρ σ) : List α -> σ -> Except ρ σ
  | [],s=>.ok s
  | x :: t, s => match g x s with
    | .error r=>.error r
    | .ok s'=>y1h g t s'
theorem ynf {α ρ σ : Type} (g : α -> σ -> Except ρ σ) (x : α) (t : List α) (s : σ) : y1h g (x :: t) s = match g x s with
  | .error r=>.error r
  | .ok s'=>y1h g t s':=rfl
theorem ypl {α ρ σ : Type} [Inhabited α] {b : Nat -> σ -> Except ρ σ} (g : α -> σ -> Except ρ σ) (l : List α) : ∀ (k i : Nat) (s : σ), i + k = l.length -> (∀ j u, i <= j -> j < l.length -> b j u = g (l.getD j default) u) -> yf b k i s = y1h g (l.drop i) s
 | 0,i,s,h,_=>by rw[List.drop_eq_nil_of_le (by omega)];rfl
 | k+1,i,s,h,hb=>by
  have hi:i<l.length:=by omega
  rw[List.drop_eq_getElem_cons hi];simp only[yf,y1h];rw[hb i s (Nat.le_refl _) hi,List.getD_eq_getElem?_getD,List.getElem?_eq_getElem hi,Option.getD_some]
  cases g l[i] s with
  | error r=>rfl
  | ok s'=>exact ypl g l k (i+1) s' (by omega) (fun j u h1 h2=>hb j u (by omega) h2)
theorem yvc {α ρ σ:Type} [Inhabited α] {b:Nat->σ->Except ρ σ} (g:α->σ->Except ρ σ) (l:List α) (s:σ) (hb:∀ j u,j<l.length->b j u=g (l.getD j default) u):yf b (l.length-0) 0 s=y1h g l s:=by
 rw[ypl g l (l.length-0) 0 s (by omega) (fun j u _ h=>hb j u h),List.drop_zero]
theorem ypo {ρ:Type} {b:Nat->Unit->Except ρ Unit} (p:Nat->Bool) (r:ρ) (n:Nat) (hb:∀ j u,j<n->b j u=bif p j then .error r else .ok ()) :
  ((∀ q,q<n->p q=false)/\yf b (n-0) 0 ()=.ok ())\/((∃ q,q<n/\p q=true)/\yf b (n-0) 0 ()=.error r):=by
 rcases yde (b:=b) p (fun _=>r) (k:=n-0) (i:=0) (s:=()) (fun j u _ h=>hb j u (by omega))with⟨j,h1,h2,h3,h4,h5⟩|⟨h1,h2⟩
 ·exact .inr ⟨⟨j,by omega,h3⟩,h5⟩
 ·exact .inl ⟨fun q hq=>h1 q (by omega) (by omega),h2⟩
theorem yfm {ρ:Type} {b:Int->Except (Sum ρ Int) Int} (p:Nat->Bool) (n:Nat) (hb:∀ j:Nat,j<=n->b (j:Int)=bif (decide (j<n) && p j)then .ok ((j+1:Nat):Int)else .error (.inr (j:Int))) :
  ∀ (f i:Nat),i<=n->n-i<f->∃ j,i<=j/\j<=n/\(∀ q,i<=q->q<j->p q=true)/\(j=n\/p j=false)/\yeb b f (i:Int)=.error (.inr (j:Int))
 | 0,i,h1,h2=>by omega
 | f+1,i,h1,h2=>by
  simp only[yeb,hb i h1]
  cases hc:(decide (i<n) && p i)with
  | false=>
   refine⟨i,Nat.le_refl _,h1,fun q a b=>by omega,?_,rfl⟩;by_cases hi:i<n
   ·right;simpa [hi]using hc
   ·left;omega
  | true=>
   simp only[Bool.and_eq_true,decide_eq_true_eq]at hc;obtain⟨j,g1,g2,g3,g4,g5⟩:=yfm p n hb f (i+1) hc.1 (by omega);refine⟨j,by omega,g2,fun q a b => ?_,g4,by simpa using g5⟩;by_cases hq:q=i
   ·rw[hq];exact hc.2
   ·exact g3 q (by omega) b
theorem ysz {α β:Type} [Inhabited α] [Inhabited β] (f:α->β) (l:List α) (i:Nat) (h:i<l.length):(l.map f).getD i default=f (l.getD i default):=by
 simp[List.getD_eq_getElem?_getD,h]
theorem yb2 {j n:Nat} (h:j<n) (hn:n<9223372036854775808):IntKind.wrap .i64 ((j:Int)+1)=((j+1:Nat):Int):=by
 rw[IntKind.wrap_i64];omega
theorem y2j {j:Nat} (h:0<j) (hn:j<9223372036854775808):(IntKind.wrap .i64 ((j:Int)-1)).toNat=j-1:=by
 rw[IntKind.wrap_i64];omega
theorem yhe : ∀ a : List UInt8, Op.bytesLess a a = false
 | []=>rfl
 | x::a=>by simp[Op.bytesLess,yhe a]
theorem y4h : ∀ a b c : List UInt8, Op.bytesLess a b = true -> Op.bytesLess b c = true -> Op.bytesLess a c = true
 | _,_,[],_,h=>by simp[Op.bytesLess]at h
 | _,[],_::_,h,_=>by simp[Op.bytesLess]at h
 | [],_::_,_::_,_,_=>rfl
 | x::a,y::b,z::c,h1,h2=>by
  simp only[Op.bytesLess,Bool.or_eq_true,Bool.and_eq_true,decide_eq_true_eq,beq_iff_eq]at h1 h2 ⊢;rcases h1 with h1|⟨h1,h1'⟩<;>rcases h2 with h2|⟨h2,h2'⟩
  ·left;exact UInt8.lt_trans h1 h2
  ·left;rw[<- h2];exact h1
  ·left;rw[h1];exact h2
  ·right;exact⟨h1.trans h2,y4h a b c h1' h2'⟩
theorem yrh : ∀ a b : List UInt8, Op.bytesLess a b = false -> a ≠ b -> Op.bytesLess b a = true
 | [],[],_,h=>absurd rfl h
 | x::a,[],_,_=>rfl
 | [],y::b,h,_=>by simp[Op.bytesLess]at h
 | x::a,y::b,h,hn=>by
  simp only[Op.bytesLess,Bool.or_eq_false_iff,Bool.and_eq_false_iff,decide_eq_false_iff_not,beq_eq_false_iff_ne]at h;simp only[Op.bytesLess,Bool.or_eq_true,Bool.and_eq_true,decide_eq_true_eq,beq_iff_eq];obtain⟨h1,h2⟩:=h;by_cases hxy:x=y
  ·right
   refine⟨hxy.symm,yrh a b ?_ (fun he=>hn (by rw[hxy,he]))⟩;rcases h2 with h2|h2
   ·exact absurd hxy h2
   ·exact h2
  ·left
   have:y<=x:=UInt8.not_lt.1 h1;exact UInt8.lt_of_le_of_ne this (fun e=>hxy e.symm)
end Go.Ab
namespace Go.Ab
open Go Go.Proofs Go.RowKit Go.Lib Go.Shelf
set_option maxHeartbeats 4000000 in
set_option maxRecDepth 100000 in
theorem yp6:ym4 Tryz.prog 46 38 2 32:=by
 intro w v y n i m A B news hin hm hA hB hN oA oB oN hv hy hne hby hbig;obtain⟨i0,z,ET⟩:=ElT.mk' (tS:=24) (tE:=38) G_ok rfl rfl rfl (by decide);obtain⟨u0,inf0,zero0,size0,byt0,zs0,pos0,zone0⟩:=ET;have u3:Tryz.prog.underlying 3=some (.int .i64):=by kernel_rfl
 rcases hy with⟨_,h⟩|⟨vb,vc,vcur,rfl,hvh,hvs,hvm,hvc,hvn⟩
 ·omega
 have hz1:¬ ((m:Int)=0):=by omega
 have hsrc:∀ (j:Nat) (u:Value),news[j]? = some u->w.cell? ((⟨vb,0,none⟩:Addr).add j)=some u:=by
  intro j u hu;have hj:j<m * 2:=by rw[<- hN];exact(List.getElem?_eq_some_iff.1 hu).1
  rw[Addr.add_lit,Nat.zero_add,cell_of_row w vb j vcur 38 (0,0) hvh,hvn j hj];exact hu
 by_cases hend:i=n
 ·subst hend
  have hB0:B=[]:=List.eq_nil_of_length_eq_zero (by simpa using hB);subst hB0
  obtain⟨v',w',hr,ho⟩:=yem (P:=Tryz.prog) (w:=w) (ty:=24) (y:=.slice (some ⟨vb,0,none⟩) m vc) u0 inf0 zero0 size0 byt0 zs0 hA hN oN (by
   rcases hv with h|⟨b,c,cur,h1,h2,h3,h4,h5,h6⟩
   ·exact .inl h
   ·exact .inr ⟨b,c,cur,h1,h2,h3,h4,h5,fun j hj=>by rw[h6 j hj,List.append_nil]⟩) (.inr ⟨_,_,rfl,hsrc⟩) hby hbig
  rcases ho with⟨_,h,_⟩|⟨b',cap',cur',rfl,ho⟩
  ·omega
  have fin:AppOut w w' 38 2 (i+m) 0 v.ownBlock (A++news++[]) [] b' cap' cur':=by
   refine⟨ho.os,ho.tape,ho.output,ho.size,ho.other,ho.row,ho.len,by have:=ho.fit;omega,ho.big,?_,fun j hj=>by omega,ho.place⟩;intro j hj;rw[List.append_nil];by_cases h:j<i * 2
   ·rw[List.getElem?_append_left (by omega)];exact ho.olds j h
   ·have:=ho.adds (j-i * 2) (by omega)
    rw[List.getElem?_append_right (by omega),hA, <- this];congr 1;omega
  rw[List.append_nil]at fin
  have hsh:(v=.slice none 0 0/\i=0)\/∃ b c,v=.slice (some ⟨b,0,none⟩) i c/\i<=c/\c<=9223372036854775807:=by
   rcases hv with h|⟨b,c,cur,h1,h2,h3,h4,h5,h6⟩
   ·exact .inl h
   ·exact .inr ⟨b,c,h1,h4,h5⟩
  clear hne ho hv hvh hvs hvn hsrc hA hB hN oA oB oN;rcases hsh with⟨rfl,rfl⟩|⟨b,c,rfl,hic,hcm⟩
  ·go_enter Tryz.func46,Tryz.ntmps46
   go_wp2_with (at_builtin;refine yyd _ rfl _ _ _ _ rfl _ _ rfl rfl hr ?_)
   go_ret
   rw[Nat.zero_add]at fin ⊢;first|exact⟨b',cap',cur',rfl,by first|exact fin|(rw[List.append_nil];exact fin)⟩|exact⟨b',cap',rfl,cur',by first|exact fin|(rw[List.append_nil];exact fin)⟩
  ·go_enter Tryz.func46,Tryz.ntmps46
   go_wp2_with (at_builtin;refine yyd _ rfl _ _ _ _ rfl _ _ rfl rfl hr ?_)
   all_goals go_ret
   all_goals first|exact⟨b',cap',cur',rfl,by first|exact fin|(rw[List.append_nil];exact fin)⟩|exact⟨b',cap',rfl,cur',by first|exact fin|(rw[List.append_nil];exact fin)⟩
 ·have hlt:i<n:=by omega
  rcases hv with⟨_,h⟩|⟨b,c,cur,rfl,hb,hcs,hnc,hcm,hold⟩
  ·omega
  have hvb:vb≠b:=fun h=>hne b rfl (by rw[h];rfl)
  have mixed:Tryz.prog.follows .mixedOrders=true:=by kernel_rfl
  have hz2:¬ ((i:Int)=(n:Int)):=by omega
  have hcSX:c<=9223372036854775807:=hcm;have hw1:IntKind.i64.wrap ((i:Int)+(m:Int))=(i:Int)+(m:Int):=by rw[IntKind.wrap_i64];omega
  have hb1:(0:Int)<=(i:Int)+(m:Int):=by omega
  have hin:i<=n:=by omega
  have htn:((i:Int)+(m:Int)).toNat=i+m:=by omega
  have hb4:¬ (c=i):=by omega
  have hAn:A.length+B.length=n * 2:=by omega
  have hgA:∀ (j:Nat) (u:Value),A[j]? = some u->cur[j]? = some u:=by
   intro j u hu;have hj:j<A.length:=(List.getElem?_eq_some_iff.1 hu).1;rw[hold j (by omega),List.getElem?_append_left hj,hu]
  have hgB:∀ (j:Nat) (u:Value),B[j]? = some u->cur[i * 2+j]? = some u:=by
   intro j u hu;have hj:j<B.length:=(List.getElem?_eq_some_iff.1 hu).1;rw[hold _ (by omega),List.getElem?_append_right (by omega),hA,Nat.add_sub_cancel_left,hu]
  by_cases hroom:n+m<=c
  ·have hb2:¬ (c=i+m):=by omega
   have hb3:(i:Int)<=(n:Int)+(m:Int):=by omega
   have hmin:Nat.min (n+m-i) (n+m-(i+m))=n-i:=by simp only[Nat.min_def];split<;>omega
   have hmin2:Nat.min m (n+m-i)=m:=by simp only[Nat.min_def];split<;>omega
   obtain⟨cur1,hcur1⟩:∃ cur1,cur1=(putV ((i+m) * 2) B cur.toList).toArray:=⟨_,rfl⟩
   have hl1:cur1.size=cur.size:=by rw[hcur1];simp[ynb]
   have hov:∀ lb cb,(callFunc 78 #[.slice (some ⟨vb,0,none⟩) m vc,.slice (some ⟨b,(i+m) * 2,none⟩) lb cb]).run Tryz.prog w=.ok (.value (.bool false)) w:=fun lb cb=>by
    rw[run_callFunc_extern Tryz.func78 (by kernel_rfl) (by kernel_rfl) (by kernel_rfl) (e:=Extern.SlicesOverlaps.overlaps #[24,24] #[4]) (by kernel_rfl),
     yin w 24 4 38 i0 u0 inf0 vb b 0 ((i+m) * 2) m vc lb cb hvb vcur cur 38 38 hvh hb (by omega)]
    rfl
   have hcp1:∀ ty dc sc,(Builtin.copy_ #[24,24] ty #[.slice (some ⟨b,(i+m) * 2,none⟩) (n+m-(i+m)) dc,.slice (some ⟨b,i * 2,none⟩) (n+m-i) sc]).run Tryz.prog w.drew=.ok (goInt ((n-i:Nat):Int)) (w.drew.setRow b cur1):=fun ty dc sc=>by
    rw[hcur1]
    exact ylg w.drew 24 24 ty 38 i0 b ((i + m) * 2) _ dc ⟨b, i * 2, none⟩ _ sc (n - i) cur 38 B u0 inf0 hb hmin (by rw [size0]; exact hB)
     (fun j u hj=>by rw[Addr.add_lit,cell_of_row w.drew b _ cur 38 (0,0) hb];exact hgB j u hj) (by omega) oB
   have hr1:∀ W:World,W.heap=(w.drew.setRow b cur1).heap->W.heap[b]? = some (.cells cur1 38 (0,0)):=fun W h=>by rw[h];exact setRow_heap w.drew b cur cur1 38 (0,0) hb
   have hcp2:∀ (W:World),W.heap=(w.drew.setRow b cur1).heap->∀ ty dc,(Builtin.copy_ #[24,24] ty #[.slice (some ⟨b,i * 2,none⟩) (n+m-i) dc,.slice (some ⟨vb,0,none⟩) m vc]).run Tryz.prog W=.ok (goInt m) (W.setRow b (putV (i * 2) news cur1.toList).toArray):=fun W hW ty dc=>
    ylg W 24 24 ty 38 i0 b (i * 2) _ dc ⟨vb, 0, none⟩ m vc m cur1 38 news u0 inf0 (hr1 W hW) hmin2 (by rw [size0]; exact hN)
     (fun j u hj=>by
      have hj2:j<m * 2:=by rw[<- hN];exact(List.getElem?_eq_some_iff.1 hj).1
      have hvh2:W.heap[vb]? = some (.cells vcur 38 (0,0)):=by rw[hW,setRow_other w.drew b vb cur1 hvb];exact hvh
      rw[Addr.add_lit,Nat.zero_add,cell_of_row W vb j vcur 38 (0,0) hvh2,hvn j hj2];exact hj) (by omega) oN
   have fin:∀ W:World,W.heap=(w.drew.setRow b cur1).heap->W.os=w.os->W.tape=w.tape->W.output=w.output ->
     AppOut w (W.setRow b (putV (i * 2) news cur1.toList).toArray) 38 2 (n+m) 0 (Value.ownBlock (.slice (some ⟨b,0,none⟩) n c)) (A++news++B) [] b c (putV (i * 2) news cur1.toList).toArray:=by
    intro W hW h1 h2 h3;refine⟨h1,h2,h3,?_,?_,setRow_heap W b cur1 _ 38 (0,0) (hr1 W hW),by simp[ynb,hl1,hcs],by omega,hcm,?_,fun j hj=>by omega,.inl rfl⟩
    ·simp[hW]
    ·intro k hk hkb
     rw[setRow_other W b k _ hkb,hW,setRow_other w.drew b k _ hkb];rfl
    ·intro j hj
     simp only[List.getElem?_toArray,ymb];have hcl:cur1.toList.length=c * 2:=by simp[hl1,hcs]
     by_cases h1:j<i * 2
     ·rw[if_neg (by omega),List.append_assoc,List.getElem?_append_left (by omega),hcur1]
      simp only[ymb];rw[if_neg (by omega)];have:A[j]? = some A[j]:=List.getElem?_eq_getElem (by omega);rw[this];simpa using hgA j _ this
     ·by_cases h2:j<(i+m) * 2
      ·rw[if_pos (by rw[hcl,hN];omega),List.append_assoc,List.getElem?_append_right (by omega),List.getElem?_append_left (by omega),hA]
      ·rw[if_neg (by omega),List.getElem?_append_right (by simp only[List.length_append];omega),hcur1]
       simp only[ymb];rw[if_pos (by simp only[Array.length_toList];omega)];congr 1;simp only[List.length_append];omega
   clear hold hgA hgB hcs hb hvh hvs hvn hsrc hA hB hN oA oB oN hne hby hAn hr1 zero0 byt0 zs0 zone0 size0 hcur1 hl1 hmin hmin2;go_enter Tryz.func46,Tryz.ntmps46
   go_wp2_with (simp only[hov])
   go_region_law_o (refine yal rfl _ _ 24 24 rfl _ _ (by simp[Act.eval,Act.put]) (by simp[Act.eval,Act.put]) (hcp1 _ _ _) ?_)
   go_wp2_with (at_builtin;refine yrp _ rfl _ _ 24 24 rfl _ _ rfl rfl (hcp2 _ rfl _ _) ?_)
   go_ret
   exact⟨b,c,_,rfl,fin _ rfl rfl rfl rfl⟩
  ·have hz3:(c:Int)<(n:Int)+(m:Int):=by omega
   have hbw:b<w.heap.size:=(Array.getElem?_eq_some_iff.1 hb).1;have hvw:vb<w.heap.size:=(Array.getElem?_eq_some_iff.1 hvh).1;have hik:i+(n+m-i)=n+m:=by omega
   have hrz:∀ ty,(Builtin.append_ #[24,3] ty #[.slice (some ⟨b,0,none⟩) i c,.int .i64 ((n:Int)+(m:Int)-(i:Int))]).run Tryz.prog w=.ok (.slice (some ⟨w.heap.size,0,none⟩) (n+m) (grownCap w (n+m) c 38)) (w.drew.alloc (.cells (A.toArray++Builtin.zeroCells z.cells (n+m-i)++Builtin.zeroCells z.cells (grownCap w (n+m) c 38-(n+m))) 38)):=fun ty=>by
    have h := yti (P := Tryz.prog) w 24 3 ty 38 i0 z u0 u3 inf0 zero0 ⟨b, 0, none⟩ i c A (by rw [size0]; exact hA)
     (fun j u hj=>by rw[Addr.add_lit,Nat.zero_add,cell_of_row w b _ cur 38 (0,0) hb];exact hgA j u hj) (n+m-i) (by omega) (by rw[size0];decide) (by omega) (by omega) (by rw[byt0,hik];exact hby)
    rw[hik,show((n+m-i:Nat):Int)=(n:Int)+(m:Int)-(i:Int)by omega]at h;exact h
   obtain⟨N,hN0⟩:∃ N,N=w.heap.size:=⟨_,rfl⟩
   obtain⟨G9,hG⟩:∃ G9,G9=grownCap w (n+m) c 38:=⟨_,rfl⟩
   have hGn:n+m<=G9:=by rw[hG];exact grownCap_ge w _ _ _
   have hGSX:G9<=9223372036854775807:=by
    have:=grownCap_le_maxLen w (n+m) c 38 (by unfold maxLen;omega);rw[<- hG]at this;unfold maxLen at this;omega
   obtain⟨row,hrow⟩:∃ row:Array Value,row=A.toArray++Builtin.zeroCells z.cells (n+m-i)++Builtin.zeroCells z.cells (G9-(n+m)):=⟨_,rfl⟩
   rw[<- hG, <- hrow, <- hN0]at hrz
   have hrl:row.size=G9 * 2:=by
    rw[hrow];simp only[Array.size_append,List.size_toArray,size_zeroCells,zs0,hA];omega
   have hGi:¬ (G9=i):=by omega
   have hGim:¬ (G9=i+m):=by omega
   have hbN:b≠N:=by omega
   have hvN:vb≠N:=by omega
   have hmin1:Nat.min m (n+m-i)=m:=by simp only[Nat.min_def];split<;>omega
   have hmin2:Nat.min (n-i) (n+m-(i+m))=n-i:=by simp only[Nat.min_def];split<;>omega
   have hW1:∀ W:World,W.heap=w.heap.push (.cells row 38)->W.heap[N]? = some (.cells row 38 (0,0))/\W.heap[b]? = some (.cells cur 38 (0,0))/\W.heap[vb]? = some (.cells vcur 38 (0,0)):=by
    intro W h;rw[h];refine⟨by rw[hN0];simp,?_,?_⟩
    ·rw[Array.getElem?_push,if_neg (by omega)];exact hb
    ·rw[Array.getElem?_push,if_neg (by omega)];exact hvh
   obtain⟨row2,hrow2⟩:∃ row2,row2=(putV (i * 2) news row.toList).toArray:=⟨_,rfl⟩
   have hl2:row2.size=G9 * 2:=by rw[hrow2];simp[ynb,hrl]
   have hcpA:∀ (W:World),W.heap=w.heap.push (.cells row 38)->∀ ty dc,(Builtin.copy_ #[24,24] ty #[.slice (some ⟨N,i * 2,none⟩) (n+m-i) dc,.slice (some ⟨vb,0,none⟩) m vc]).run Tryz.prog W=.ok (goInt m) (W.setRow N row2):=fun W hW ty dc=>by
    rw[hrow2]
    exact ylg W 24 24 ty 38 i0 N (i * 2) _ dc ⟨vb, 0, none⟩ m vc m row 38 news u0 inf0 (hW1 W hW).1 hmin1 (by rw [size0]; exact hN)
     (fun j u hj=>by
      have hj2:j<m * 2:=by rw[<- hN];exact(List.getElem?_eq_some_iff.1 hj).1
      rw[Addr.add_lit,Nat.zero_add,cell_of_row W vb j vcur 38 (0,0) (hW1 W hW).2.2,hvn j hj2];exact hj) (by omega) oN
   have hW2:∀ W W0:World,W0.heap=w.heap.push (.cells row 38)->W.heap=(W0.setRow N row2).heap->W.heap[N]? = some (.cells row2 38 (0,0))/\W.heap[b]? = some (.cells cur 38 (0,0)):=by
    intro W W0 h0 h;rw[h];exact⟨setRow_heap W0 N row row2 38 (0,0) (hW1 W0 h0).1,by rw[setRow_other W0 N b row2 hbN];exact(hW1 W0 h0).2.1⟩
   have hcpB:∀ (W W0:World),W0.heap=w.heap.push (.cells row 38)->W.heap=(W0.setRow N row2).heap->∀ ty dc sc,(Builtin.copy_ #[24,24] ty #[.slice (some ⟨N,(i+m) * 2,none⟩) (n+m-(i+m)) dc,.slice (some ⟨b,i * 2,none⟩) (n-i) sc]).run Tryz.prog W=.ok (goInt ((n-i:Nat):Int)) (W.setRow N (putV ((i+m) * 2) B row2.toList).toArray):=fun W W0 h0 hW ty dc sc=>
    ylg W 24 24 ty 38 i0 N ((i + m) * 2) _ dc ⟨b, i * 2, none⟩ _ sc (n - i) row2 38 B u0 inf0 (hW2 W W0 h0 hW).1 hmin2 (by rw [size0]; exact hB)
     (fun j u hj=>by rw[Addr.add_lit,cell_of_row W b _ cur 38 (0,0) (hW2 W W0 h0 hW).2];exact hgB j u hj) (by omega) oB
   have fin:∀ W W0:World,W0.heap=w.heap.push (.cells row 38)->W.heap=(W0.setRow N row2).heap->W.os=w.os->W.tape=w.tape->W.output=w.output ->
     AppOut w (W.setRow N (putV ((i+m) * 2) B row2.toList).toArray) 38 2 (n+m) 0 (Value.ownBlock (.slice (some ⟨b,0,none⟩) n c)) (A++news++B) [] N G9 (putV ((i+m) * 2) B row2.toList).toArray:=by
    intro W W0 h0 hW h1 h2 h3;refine⟨h1,h2,h3,?_,?_,setRow_heap W N row2 _ 38 (0,0) (hW2 W W0 h0 hW).1,by simp[ynb,hl2],by omega,hGSX,?_,fun j hj=>by omega,.inr hN0⟩
    ·simp[hW,h0]
    ·intro k hk hkb
     rw[setRow_other W N k _ hkb,hW,setRow_other W0 N k _ hkb,h0,Array.getElem?_push,if_neg (by omega)]
    ·intro j hj
     simp only[List.getElem?_toArray,ymb];have hcl:row2.toList.length=G9 * 2:=by simp[hl2]
     have hcl1:row.toList.length=G9 * 2:=by simp[hrl]
     by_cases h1:(i+m) * 2<=j
     ·rw[if_pos (by omega),List.getElem?_append_right (by simp only[List.length_append];omega)]
      congr 1;simp only[List.length_append];omega
     ·rw[if_neg (by omega),hrow2,List.getElem?_append_left (by simp only[List.length_append];omega)]
      simp only[ymb];by_cases h2:i * 2<=j
      ·rw[if_pos (by omega),List.getElem?_append_right (by omega),hA]
      ·rw[if_neg (by omega),List.getElem?_append_left (by omega),hrow]
       rw[Array.toList_append,Array.toList_append,List.append_assoc,List.getElem?_append_left (by simp;omega)]
   clear hold hgA hgB hcs hb hvh hvs hvn hsrc hA hB hN oA oB oN hne hby hAn zero0 byt0 zs0 zone0 size0 hW1 hW2 hrl hl2 hik hrow hrow2 hG hmin1 hmin2 hbw hvw;subst hN0;have hcpA1:=hcpA (w.alloc (.cells row 38)).drew rfl;have hcpB1:=hcpB ((w.alloc (.cells row 38)).drew.setRow w.heap.size row2).drew (w.alloc (.cells row 38)).drew rfl rfl;go_enter Tryz.func46,Tryz.ntmps46
   go_wp2_with (at_builtin;refine yyd _ rfl _ _ _ _ rfl _ _ rfl rfl (hrz _) ?_)
   go_region_law_o (refine yal rfl _ _ 24 24 rfl _ _ (by simp[Act.eval,Act.put]) (by simp[Act.eval,Act.put]) (hcpB1 _ _ _) ?_)
   go_wp2
   go_ret
   first|exact⟨_,_,_,rfl,fin _ (w.alloc (.cells row 38)).drew rfl rfl rfl rfl rfl⟩|exact⟨_,_,rfl,_,fin _ (w.alloc (.cells row 38)).drew rfl rfl rfl rfl rfl⟩
def zhd (a0:(List Item)) (a1:Int) (a2:(List Item)):List Item:=a0.take a1.toNat++a2++a0.drop a1.toNat
theorem yr5 (a0:(List Item)) (a1:Int) (a2:(List Item)) (hp0:0<=a1) (hp1:a1<=a0.length) (hp2:0<a2.length) (hp3:a0.length<1099511627776) (hp4:a2.length<1099511627776):DenM Tryz.prog 46 [ownL 38 2 yr a0,.int .i64 a1,ownL 38 2 yr a2] (ownL 38 2 yr (zhd a0 a1 a2)) [.any,.any,.any]:=
 yv5 ⟨_,Tryz.func46,rfl,rfl⟩ yp6 (fun v=>by simp[yr,ownL,NoBorL,NoBor]) a0 a2 a1 hp0 hp1 hp2 (by omega) (by omega)
def D_zhd : List AV -> Option (AV × List AV × List Prop)
 | [x0,x1,x2]=>some (ownL 38 2 yr (zhd (rdL yp x0) (rdI x1) (rdL yp x2)),[.any,.any,.any],[wO 38 2 yr yp x0,wI .i64 x1,wO 38 2 yr yp x2,0<=(rdI x1),(rdI x1)<=(rdL yp x0).length,0<(rdL yp x2).length,(rdL yp x0).length<1099511627776,(rdL yp x2).length<1099511627776])
 | _=>none
theorem yd0:OkM Tryz.prog 46 D_zhd:=by
 intro xs r outs ob h ho;unfold D_zhd at h;split at h
 ·simp only[Option.some.injEq,Prod.mk.injEq]at h
  obtain⟨rfl,rfl,rfl⟩:=h;obtain⟨h0,h1,h2,hp0,hp1,hp2,hp3,hp4,_⟩:=ho;exact DenM.sim (yr5 _ _ _ hp0 hp1 hp2 hp3 hp4) (yh (yeu h0) <| yh (yue h1).1 <| yh (yeu h2) <| trivial)
 ·cases h
end Go.Ab
namespace Go.Ab
open Go Go.Proofs
theorem yuw (l:List Item) (i:Int) (x:List Item):(zhd l i x).length=l.length+x.length:=by
 simp[zhd];omega
theorem ydx (l:List Item) (i:Int) (x:List Item) (v:Item) (h:v∈zhd l i x):v∈l\/v∈x:=by
 simp only[zhd,List.mem_append]at h;rcases h with(h|h)|h
 ·exact .inl (List.mem_of_mem_take h)
 ·exact .inr h
 ·exact .inl (List.mem_of_mem_drop h)
end Go.Ab
namespace Go.Ab
theorem y9u {f : Nat -> Int} {n : Nat} (hs : ∀ i, i + 1 < n -> f i < f (i + 1)) : ∀ (d i : Nat), i + d + 1 < n -> f i < f (i + d + 1)
 | 0,i,h=>hs i h
 | d+1,i,h=>by
  have h1:=y9u hs d i (by omega);have h2:=hs (i+d+1) (by omega);have:i+(d+1)+1=i+d+1+1:=by omega
  rw[this];omega
theorem y8d {f:Nat->Int} {n:Nat} (hs:∀ i,i+1<n->f i<f (i+1)) {i k:Nat} (h:i<k) (hk:k<n):f i<f k:=by
 have:=y9u hs (k-i-1) i (by omega);rwa [show i+(k-i-1)+1=k by omega]at this
theorem ysv {f arc:Nat->Int} {n:Nat} (hf:∀ i,i<n->0<=f i/\f i<=359) (hs:∀ i,i+1<n->f i<f (i+1)) :
  (∀ i,i<n->∀ k,k<n->k≠i->arc i<=(f k-f i) % 360)↔(1<n->∀ i,i<n->arc i<=(f ((i+1) % n)-f i+360) % 360):=by
 constructor
 ·intro h hn i hi
  have hne:(i+1) % n≠i:=by
   by_cases h2:i+1<n
   ·rw[Nat.mod_eq_of_lt h2];omega
   ·have:i+1=n:=by omega
    rw[this,Nat.mod_self];omega
  have:=h i hi ((i+1) % n) (Nat.mod_lt _ (by omega)) hne;omega
 ·intro h i hi k hk hki
  have hn:1<n:=by omega
  have h1:=h hn i hi;have fi:=hf i hi;have fk:=hf k hk;by_cases h2:i+1<n
  ·rw[Nat.mod_eq_of_lt h2]at h1
   have g:=hs i h2;have fn:=hf (i+1) h2;have e1:(f (i+1)-f i+360) % 360=f (i+1)-f i:=by omega
   rw[e1]at h1;by_cases h3:i<k
   ·have:f (i+1)<=f k:=by
     by_cases h4:k=i+1
     ·rw[h4];omega
     ·have:=y8d hs (i:=i+1) (k:=k) (by omega) hk;omega
    have:(f k-f i) % 360=f k-f i:=by omega
    omega
   ·have:=y8d hs (i:=k) (k:=i) (by omega) hi
    have:(f k-f i) % 360=f k-f i+360:=by omega
    omega
  ·have hin:i+1=n:=by omega
   rw[hin,Nat.mod_self]at h1;have f0:=hf 0 (by omega);have g:=y8d hs (i:=0) (k:=i) (by omega) hi;have e1:(f 0-f i+360) % 360=f 0-f i+360:=by omega
   rw[e1]at h1
   have:f 0<=f k:=by
    by_cases h4:k=0
    ·rw[h4];omega
    ·have:=y8d hs (i:=0) (k:=k) (by omega) hk;omega
   have:=y8d hs (i:=k) (k:=i) (by omega) hi;have:(f k-f i) % 360=f k-f i+360:=by omega
   omega
theorem yl2 {f arc S : Nat -> Int} {n : Nat} (hf : ∀ i, i < n -> 0 <= f i /\ f i <= 359) (hs : ∀ i, i + 1 < n -> f i < f (i + 1)) (ha : ∀ i, i < n -> 1 <= arc i /\ arc i <= 360)
  (h:1<n->∀ i,i<n->arc i<=(f ((i+1) % n)-f i+360) % 360) (h0:S 0=0) (hS:∀ i,i<n->S (i+1)=S i+arc i):S n<=360:=by
 by_cases hn:1<n
 ·have key:∀ j,j<n->S j<=f j-f 0:=by
   intro j
   induction j with
   | zero=>intro _;rw[h0];omega
   | succ j ih=>
    intro hj;have i1:=ih (by omega);have i2:=h hn j (by omega);rw[Nat.mod_eq_of_lt hj]at i2;have g:=hs j hj;have fj:=hf j (by omega);have fj1:=hf (j+1) hj;have e1:(f (j+1)-f j+360) % 360=f (j+1)-f j:=by omega
    rw[hS j (by omega)];omega
  have k1:=key (n-1) (by omega);have i2:=h hn (n-1) (by omega);rw[show n-1+1=n by omega,Nat.mod_self]at i2;have f0:=hf 0 (by omega);have fn:=hf (n-1) (by omega);have g:=y8d hs (i:=0) (k:=n-1) (by omega) (by omega);have e1:(f 0-f (n-1)+360) % 360=f 0-f (n-1)+360:=by omega
  have:=hS (n-1) (by omega);rw[show n-1+1=n by omega]at this;omega
 ·by_cases h1:n=1
  ·subst h1
   have:=hS 0 (by omega);have a0:=ha 0 (by omega);simp only[Nat.zero_add]at this;omega
  ·have:n=0:=by omega
   subst this;omega
end Go.Ab
namespace Go.Ab
open Go Go.Proofs
theorem yzc (a b:List UInt8):(Go.Lib.trimSuffix a b).length<=a.length:=by
 unfold Go.Lib.trimSuffix;split
 ·simp
 ·omega
theorem y6r (a b:List UInt8):(Go.Lib.cut a b).1.length<=a.length/\(Go.Lib.cut a b).2.1.length<=a.length:=by
 unfold Go.Lib.cut;split
 ·simp only[List.length_take,List.length_drop];omega
 ·simp
theorem ynx (w:World) (k:Nat):Grow w (w.drewN k):=⟨rfl,rfl,rfl,Nat.le_refl _,fun _ _=>rfl⟩
theorem y85 {w:World} {M:Nat->Prop} {μ:Map} {x y:AV} {u v:Value} (h1:Rep w M x μ u []) (h2:Rep w M y μ v []):Rep w M (.tup [x,y]) μ (.tuple #[u,v]) []:=by
 simp only[Rep,RepL];exact⟨[u,v],rfl,u,[v],[],[],rfl,rfl,h1,v,[],[],[],rfl,rfl,h2,rfl,rfl⟩
theorem yrx {w:World} {M:Nat->Prop} {μ:Map} {x y z:AV} {u v t:Value} (h1:Rep w M x μ u []) (h2:Rep w M y μ v []) (h3:Rep w M z μ t []):Rep w M (.tup [x,y,z]) μ (.tuple #[u,v,t]) []:=by
 simp only[Rep,RepL];exact⟨[u,v,t],rfl,u,[v,t],[],[],rfl,rfl,h1,v,[t],[],[],rfl,rfl,h2,t,[],[],[],rfl,rfl,h3,rfl,rfl⟩
end Go.Ab
namespace Go.Proofs
open Go.Shelf
def Tryz.lays156_ren:Go.Shelf.Ren:=⟨fun|156=>59|165=>92|166=>93|169=>95|240=>136|241=>137|276=>180|277=>181|n=>n,fun|31=>83|9=>9|3=>3|4=>4|0=>0|20=>20|72=>134|76=>138|70=>132|37=>22|75=>137|127=>172|164=>193|5=>5|80=>141|n=>n,fun|n=>n⟩
theorem Tryz.lays156 : Go.Proofs.Lays.n156 Tryz.prog Tryz.lays156_ren := {
 mixed:=by kernel_rfl
 f156:=Tryz.func59.trans (congrArg some (by kernel_rfl))
 f165:=Tryz.func92.trans (congrArg some (by kernel_rfl))
 f166:=Tryz.func93.trans (congrArg some (by kernel_rfl))
 f169:=Tryz.func95.trans (congrArg some (by kernel_rfl))
 f240:=Tryz.func136.trans (congrArg some (by kernel_rfl))
 f241:=Tryz.func137.trans (congrArg some (by kernel_rfl))
 f276:=Tryz.func180.trans (congrArg some (by kernel_rfl))
 f277:=Tryz.func181.trans (congrArg some (by kernel_rfl))
 t0:=Tryz.underlying0
 a0:=Tryz.isAgg0
 z0:=Tryz.sizeOf0
 v0:=Tryz.zeroValue0
 t3:=Tryz.underlying3
 a3:=Tryz.isAgg3
 z3:=Tryz.sizeOf3
 v3:=Tryz.zeroValue3
 t4:=Tryz.underlying4
 a4:=Tryz.isAgg4
 z4:=Tryz.sizeOf4
 v4:=Tryz.zeroValue4
 t9:=Tryz.underlying9
 a9:=Tryz.isAgg9
 z9:=Tryz.sizeOf9
 v9:=Tryz.zeroValue9
 t20:=Tryz.underlying20
 a20:=Tryz.isAgg20
 z20:=Tryz.sizeOf20
 v20:=Tryz.zeroValue20
 t31:=Tryz.underlying83
 a31:=Tryz.isAgg83
 z31:=Tryz.sizeOf83
 v31:=Tryz.zeroValue83
 t37:=Tryz.underlying22
 a37:=Tryz.isAgg22
 z37:=Tryz.sizeOf22
 v37:=Tryz.zeroValue22
 t70:=Tryz.underlying132
 a70:=Tryz.isAgg132
 z70:=Tryz.sizeOf132
 v70:=Tryz.zeroValue132
 t72:=Tryz.underlying134
 a72:=Tryz.isAgg134
 z72:=Tryz.sizeOf134
 v72:=Tryz.zeroValue134
 t75:=Tryz.underlying137
 a75:=Tryz.isAgg137
 z75:=Tryz.sizeOf137
 v75:=Tryz.zeroValue137
 t76:=Tryz.underlying138
 a76:=Tryz.isAgg138
 z76:=Tryz.sizeOf138
 v76:=Tryz.zeroValue138
 t127:=Tryz.underlying172
 a127:=Tryz.isAgg172
 z127:=Tryz.sizeOf172
 v127:=Tryz.zeroValue172
 t164:=Tryz.underlying193
 a164:=Tryz.isAgg193
 z164:=Tryz.sizeOf193
 v164:=Tryz.zeroValue193 }
theorem Tryz.Builder_Extra_156 : Builder.Extra Tryz.prog Tryz.lays156_ren := {
 sizeBuilder:=by kernel_rfl
 liesBuilder:=by kernel_rfl
 t5:=Tryz.underlying5
 a5:=Tryz.isAgg5
 z5:=Tryz.sizeOf5
 v5:=Tryz.zeroValue5
 infoByte:=by kernel_rfl
 cellsByte:=by kernel_rfl
 sizeByte:=by kernel_rfl
 neB5:=by decide }
def Tryz.lays137_ren:Go.Shelf.Ren:=⟨fun|137=>182|217=>164|266=>206|n=>n,fun|9=>9|5=>5|3=>3|n=>n,fun|n=>n⟩
theorem Tryz.lays137 : Go.Proofs.Lays.n137 Tryz.prog Tryz.lays137_ren := {
 mixed:=by kernel_rfl
 f137:=Tryz.func182.trans (congrArg some (by kernel_rfl))
 f217:=Tryz.func164.trans (congrArg some (by kernel_rfl))
 f266:=Tryz.func206.trans (congrArg some (by kernel_rfl))
 t3:=Tryz.underlying3
 a3:=Tryz.isAgg3
 z3:=Tryz.sizeOf3
 v3:=Tryz.zeroValue3
 t5:=Tryz.underlying5
 a5:=Tryz.isAgg5
 z5:=Tryz.sizeOf5
 v5:=Tryz.zeroValue5
 t9:=Tryz.underlying9
 a9:=Tryz.isAgg9
 z9:=Tryz.sizeOf9
 v9:=Tryz.zeroValue9 }
def Tryz.lays104_ren:Go.Shelf.Ren:=⟨fun|104=>154|211=>202|207=>203|n=>n,fun|9=>9|4=>4|24=>102|3=>3|n=>n,fun|n=>n⟩
theorem Tryz.lays104 : Go.Proofs.Lays.n104 Tryz.prog Tryz.lays104_ren := {
 mixed:=by kernel_rfl
 f104:=Tryz.func154.trans (congrArg some (by kernel_rfl))
 f207:=Tryz.func203.trans (congrArg some (by kernel_rfl))
 f211:=Tryz.func202.trans (congrArg some (by kernel_rfl))
 t3:=Tryz.underlying3
 a3:=Tryz.isAgg3
 z3:=Tryz.sizeOf3
 v3:=Tryz.zeroValue3
 t4:=Tryz.underlying4
 a4:=Tryz.isAgg4
 z4:=Tryz.sizeOf4
 v4:=Tryz.zeroValue4
 t9:=Tryz.underlying9
 a9:=Tryz.isAgg9
 z9:=Tryz.sizeOf9
 v9:=Tryz.zeroValue9
 t24:=Tryz.underlying102
 a24:=Tryz.isAgg102
 z24:=Tryz.sizeOf102
 v24:=Tryz.zeroValue102 }
def Tryz.laysM173_ren:Go.Shelf.Ren:=⟨fun|173=>47|246=>80|283=>116|284=>117|285=>118|286=>119|129=>160|317=>159|318=>161|319=>162|320=>163|337=>204|338=>205|n=>n,fun|2=>2|3=>3|9=>9|4=>4|171=>152|0=>0|53=>78|37=>22|5=>5|173=>155|212=>180|51=>167|20=>20|213=>181|46=>128|232=>222|233=>223|n=>n,fun|17=>0|18=>5|19=>6|n=>n⟩
theorem Tryz.laysM173 : Go.Proofs.LaysM.n173 Tryz.prog Tryz.laysM173_ren := {
 mixed:=by kernel_rfl
 f129:=Tryz.func160.trans (congrArg some (by kernel_rfl))
 f173:=Tryz.func47.trans (congrArg some (by kernel_rfl))
 f246:=Tryz.func80.trans (congrArg some (by kernel_rfl))
 f283:=Tryz.func116.trans (congrArg some (by kernel_rfl))
 f284:=Tryz.func117.trans (congrArg some (by kernel_rfl))
 f285:=Tryz.func118.trans (congrArg some (by kernel_rfl))
 f286:=Tryz.func119.trans (congrArg some (by kernel_rfl))
 f317:=Tryz.func159.trans (congrArg some (by kernel_rfl))
 f318:=Tryz.func161.trans (congrArg some (by kernel_rfl))
 f319:=Tryz.func162.trans (congrArg some (by kernel_rfl))
 f320:=Tryz.func163.trans (congrArg some (by kernel_rfl))
 f337:=Tryz.func204.trans (congrArg some (by kernel_rfl))
 f338:=Tryz.func205.trans (congrArg some (by kernel_rfl))
 t0:=Tryz.underlying0
 a0:=Tryz.isAgg0
 z0:=Tryz.sizeOf0
 v0:=Tryz.zeroValue0
 t2:=Tryz.underlying2
 a2:=Tryz.isAgg2
 z2:=Tryz.sizeOf2
 v2:=Tryz.zeroValue2
 t3:=Tryz.underlying3
 a3:=Tryz.isAgg3
 z3:=Tryz.sizeOf3
 v3:=Tryz.zeroValue3
 t4:=Tryz.underlying4
 a4:=Tryz.isAgg4
 z4:=Tryz.sizeOf4
 v4:=Tryz.zeroValue4
 t5:=Tryz.underlying5
 a5:=Tryz.isAgg5
 z5:=Tryz.sizeOf5
 v5:=Tryz.zeroValue5
 t9:=Tryz.underlying9
 a9:=Tryz.isAgg9
 z9:=Tryz.sizeOf9
 v9:=Tryz.zeroValue9
 t20:=Tryz.underlying20
 a20:=Tryz.isAgg20
 z20:=Tryz.sizeOf20
 v20:=Tryz.zeroValue20
 t37:=Tryz.underlying22
 a37:=Tryz.isAgg22
 z37:=Tryz.sizeOf22
 v37:=Tryz.zeroValue22
 t46:=Tryz.underlying128
 a46:=Tryz.isAgg128
 z46:=Tryz.sizeOf128
 v46:=Tryz.zeroValue128
 t51:=Tryz.underlying167
 a51:=Tryz.isAgg167
 z51:=Tryz.sizeOf167
 v51:=Tryz.zeroValue167
 t53:=Tryz.underlying78
 a53:=Tryz.isAgg78
 z53:=Tryz.sizeOf78
 v53:=Tryz.zeroValue78
 t171:=Tryz.underlying152
 a171:=Tryz.isAgg152
 z171:=Tryz.sizeOf152
 v171:=Tryz.zeroValue152
 t173:=Tryz.underlying155
 a173:=Tryz.isAgg155
 z173:=Tryz.sizeOf155
 v173:=Tryz.zeroValue155
 t212:=Tryz.underlying180
 a212:=Tryz.isAgg180
 z212:=Tryz.sizeOf180
 v212:=Tryz.zeroValue180
 t213:=Tryz.underlying181
 a213:=Tryz.isAgg181
 z213:=Tryz.sizeOf181
 t232:=Tryz.underlying222
 a232:=Tryz.isAgg222
 z232:=Tryz.sizeOf222
 v232:=Tryz.zeroValue222
 t233:=Tryz.underlying223
 a233:=Tryz.isAgg223
 z233:=Tryz.sizeOf223
 v233:=Tryz.zeroValue223
 g17:=by kernel_rfl
 g18:=by kernel_rfl
 g19:=by kernel_rfl
 i0:=by kernel_rfl
 i2:=by kernel_rfl
 i3:=by kernel_rfl
 i4:=by kernel_rfl
 i5:=by kernel_rfl
 i9:=by kernel_rfl
 i20:=by kernel_rfl
 i37:=by kernel_rfl
 i46:=by kernel_rfl
 i51:=by kernel_rfl
 i53:=by kernel_rfl
 i171:=by kernel_rfl
 i173:=by kernel_rfl
 i212:=by kernel_rfl
 i232:=by kernel_rfl
 i233:=by kernel_rfl
 m17:=by kernel_rfl
 m18:=by kernel_rfl
 m19:=by kernel_rfl }
def Tryz.laysC174_ren:Go.Shelf.Ren:=⟨fun|174=>106|247=>152|245=>153|287=>197|279=>198|280=>199|281=>200|282=>201|321=>217|322=>218|316=>219|171=>221|205=>220|243=>226|246=>80|283=>116|284=>117|285=>118|286=>119|129=>160|317=>159|318=>161|319=>162|320=>163|337=>204|338=>205|n=>n,fun|9=>9|3=>3|2=>2|75=>137|85=>146|4=>4|167=>204|5=>5|53=>78|175=>205|46=>128|168=>207|37=>22|0=>0|210=>220|21=>21|127=>172|145=>235|143=>233|171=>152|173=>155|212=>180|51=>167|20=>20|213=>181|232=>222|233=>223|80=>141|n=>n,fun|15=>3|16=>4|17=>0|18=>5|19=>6|n=>n⟩
theorem Tryz.laysC174 : Go.Proofs.LaysC.n174 Tryz.prog Tryz.laysC174_ren := {
 mixed:=by kernel_rfl
 f129:=Tryz.func160.trans (congrArg some (by kernel_rfl))
 f171:=Tryz.func221.trans (congrArg some (by kernel_rfl))
 f174:=Tryz.func106.trans (congrArg some (by kernel_rfl))
 f205:=Tryz.func220.trans (congrArg some (by kernel_rfl))
 f243:=Tryz.func226.trans (congrArg some (by kernel_rfl))
 f245:=Tryz.func153.trans (congrArg some (by kernel_rfl))
 f246:=Tryz.func80.trans (congrArg some (by kernel_rfl))
 f247:=Tryz.func152.trans (congrArg some (by kernel_rfl))
 f279:=Tryz.func198.trans (congrArg some (by kernel_rfl))
 f280:=Tryz.func199.trans (congrArg some (by kernel_rfl))
 f281:=Tryz.func200.trans (congrArg some (by kernel_rfl))
 f282:=Tryz.func201.trans (congrArg some (by kernel_rfl))
 f283:=Tryz.func116.trans (congrArg some (by kernel_rfl))
 f284:=Tryz.func117.trans (congrArg some (by kernel_rfl))
 f285:=Tryz.func118.trans (congrArg some (by kernel_rfl))
 f286:=Tryz.func119.trans (congrArg some (by kernel_rfl))
 f287:=Tryz.func197.trans (congrArg some (by kernel_rfl))
 f316:=Tryz.func219.trans (congrArg some (by kernel_rfl))
 f317:=Tryz.func159.trans (congrArg some (by kernel_rfl))
 f318:=Tryz.func161.trans (congrArg some (by kernel_rfl))
 f319:=Tryz.func162.trans (congrArg some (by kernel_rfl))
 f320:=Tryz.func163.trans (congrArg some (by kernel_rfl))
 f321:=Tryz.func217.trans (congrArg some (by kernel_rfl))
 f322:=Tryz.func218.trans (congrArg some (by kernel_rfl))
 f337:=Tryz.func204.trans (congrArg some (by kernel_rfl))
 f338:=Tryz.func205.trans (congrArg some (by kernel_rfl))
 t0:=Tryz.underlying0
 a0:=Tryz.isAgg0
 z0:=Tryz.sizeOf0
 v0:=Tryz.zeroValue0
 t2:=Tryz.underlying2
 a2:=Tryz.isAgg2
 z2:=Tryz.sizeOf2
 v2:=Tryz.zeroValue2
 t3:=Tryz.underlying3
 a3:=Tryz.isAgg3
 z3:=Tryz.sizeOf3
 v3:=Tryz.zeroValue3
 t4:=Tryz.underlying4
 a4:=Tryz.isAgg4
 z4:=Tryz.sizeOf4
 v4:=Tryz.zeroValue4
 t5:=Tryz.underlying5
 a5:=Tryz.isAgg5
 z5:=Tryz.sizeOf5
 v5:=Tryz.zeroValue5
 t9:=Tryz.underlying9
 a9:=Tryz.isAgg9
 z9:=Tryz.sizeOf9
 v9:=Tryz.zeroValue9
 t20:=Tryz.underlying20
 a20:=Tryz.isAgg20
 z20:=Tryz.sizeOf20
 v20:=Tryz.zeroValue20
 t21:=Tryz.underlying21
 a21:=Tryz.isAgg21
 z21:=Tryz.sizeOf21
 v21:=Tryz.zeroValue21
 t37:=Tryz.underlying22
 a37:=Tryz.isAgg22
 z37:=Tryz.sizeOf22
 v37:=Tryz.zeroValue22
 t46:=Tryz.underlying128
 a46:=Tryz.isAgg128
 z46:=Tryz.sizeOf128
 v46:=Tryz.zeroValue128
 t51:=Tryz.underlying167
 a51:=Tryz.isAgg167
 z51:=Tryz.sizeOf167
 v51:=Tryz.zeroValue167
 t53:=Tryz.underlying78
 a53:=Tryz.isAgg78
 z53:=Tryz.sizeOf78
 v53:=Tryz.zeroValue78
 t75:=Tryz.underlying137
 a75:=Tryz.isAgg137
 z75:=Tryz.sizeOf137
 v75:=Tryz.zeroValue137
 t85:=Tryz.underlying146
 a85:=Tryz.isAgg146
 z85:=Tryz.sizeOf146
 v85:=Tryz.zeroValue146
 t127:=Tryz.underlying172
 a127:=Tryz.isAgg172
 z127:=Tryz.sizeOf172
 v127:=Tryz.zeroValue172
 t143:=Tryz.underlying233
 a143:=Tryz.isAgg233
 z143:=Tryz.sizeOf233
 v143:=Tryz.zeroValue233
 t145:=Tryz.underlying235
 a145:=Tryz.isAgg235
 z145:=Tryz.sizeOf235
 v145:=Tryz.zeroValue235
 t167:=Tryz.underlying204
 a167:=Tryz.isAgg204
 z167:=Tryz.sizeOf204
 v167:=Tryz.zeroValue204
 t168:=Tryz.underlying207
 a168:=Tryz.isAgg207
 z168:=Tryz.sizeOf207
 v168:=Tryz.zeroValue207
 t171:=Tryz.underlying152
 a171:=Tryz.isAgg152
 z171:=Tryz.sizeOf152
 v171:=Tryz.zeroValue152
 t173:=Tryz.underlying155
 a173:=Tryz.isAgg155
 z173:=Tryz.sizeOf155
 v173:=Tryz.zeroValue155
 t175:=Tryz.underlying205
 a175:=Tryz.isAgg205
 z175:=Tryz.sizeOf205
 v175:=Tryz.zeroValue205
 t210:=Tryz.underlying220
 a210:=Tryz.isAgg220
 z210:=Tryz.sizeOf220
 v210:=Tryz.zeroValue220
 t212:=Tryz.underlying180
 a212:=Tryz.isAgg180
 z212:=Tryz.sizeOf180
 v212:=Tryz.zeroValue180
 t213:=Tryz.underlying181
 a213:=Tryz.isAgg181
 z213:=Tryz.sizeOf181
 t232:=Tryz.underlying222
 a232:=Tryz.isAgg222
 z232:=Tryz.sizeOf222
 v232:=Tryz.zeroValue222
 t233:=Tryz.underlying223
 a233:=Tryz.isAgg223
 z233:=Tryz.sizeOf223
 v233:=Tryz.zeroValue223
 g15:=by kernel_rfl
 g16:=by kernel_rfl
 g17:=by kernel_rfl
 g18:=by kernel_rfl
 g19:=by kernel_rfl
 t80:=Tryz.underlying141
 a80:=Tryz.isAgg141
 z80:=Tryz.sizeOf141
 v80:=Tryz.zeroValue141
 i0:=by kernel_rfl
 i2:=by kernel_rfl
 i3:=by kernel_rfl
 i4:=by kernel_rfl
 i5:=by kernel_rfl
 i9:=by kernel_rfl
 i20:=by kernel_rfl
 i21:=by kernel_rfl
 i37:=by kernel_rfl
 i46:=by kernel_rfl
 i51:=by kernel_rfl
 i53:=by kernel_rfl
 i75:=by kernel_rfl
 i80:=by kernel_rfl
 i85:=by kernel_rfl
 i127:=by kernel_rfl
 i143:=by kernel_rfl
 i145:=by kernel_rfl
 i167:=by kernel_rfl
 i168:=by kernel_rfl
 i171:=by kernel_rfl
 i173:=by kernel_rfl
 i175:=by kernel_rfl
 i210:=by kernel_rfl
 i212:=by kernel_rfl
 i232:=by kernel_rfl
 i233:=by kernel_rfl
 m15:=by kernel_rfl
 m16:=by kernel_rfl
 m17:=by kernel_rfl
 m18:=by kernel_rfl
 m19:=by kernel_rfl
 c0:=by kernel_rfl
 c2:=by kernel_rfl
 c3:=by kernel_rfl
 c4:=by kernel_rfl
 c5:=by kernel_rfl
 c9:=by kernel_rfl
 c20:=by kernel_rfl
 c21:=by kernel_rfl
 c37:=by kernel_rfl
 c46:=by kernel_rfl
 c51:=by kernel_rfl
 c53:=by kernel_rfl
 c75:=by kernel_rfl
 c80:=by kernel_rfl
 c85:=by kernel_rfl
 c127:=by kernel_rfl
 c143:=by kernel_rfl
 c145:=by kernel_rfl
 c167:=by kernel_rfl
 c168:=by kernel_rfl
 c171:=by kernel_rfl
 c173:=by kernel_rfl
 c175:=by kernel_rfl
 c210:=by kernel_rfl
 c212:=by kernel_rfl
 c213:=by kernel_rfl
 c232:=by kernel_rfl
 c233:=by kernel_rfl }
def Tryz.lays144_ren:Go.Shelf.Ren:=⟨fun|144=>145|143=>150|219=>120|217=>164|225=>165|224=>166|267=>167|266=>206|314=>207|n=>n,fun|9=>9|4=>4|3=>3|5=>5|46=>128|146=>168|51=>167|n=>n,fun|1=>1|n=>n⟩
theorem Tryz.lays144 : Go.Proofs.Lays.n144 Tryz.prog Tryz.lays144_ren := {
 mixed:=by kernel_rfl
 f143:=Tryz.func150.trans (congrArg some (by kernel_rfl))
 f144:=Tryz.func145.trans (congrArg some (by kernel_rfl))
 f217:=Tryz.func164.trans (congrArg some (by kernel_rfl))
 f219:=Tryz.func120.trans (congrArg some (by kernel_rfl))
 f224:=Tryz.func166.trans (congrArg some (by kernel_rfl))
 f225:=Tryz.func165.trans (congrArg some (by kernel_rfl))
 f266:=Tryz.func206.trans (congrArg some (by kernel_rfl))
 f267:=Tryz.func167.trans (congrArg some (by kernel_rfl))
 f314:=Tryz.func207.trans (congrArg some (by kernel_rfl))
 t3:=Tryz.underlying3
 a3:=Tryz.isAgg3
 z3:=Tryz.sizeOf3
 v3:=Tryz.zeroValue3
 t4:=Tryz.underlying4
 a4:=Tryz.isAgg4
 z4:=Tryz.sizeOf4
 v4:=Tryz.zeroValue4
 t5:=Tryz.underlying5
 a5:=Tryz.isAgg5
 z5:=Tryz.sizeOf5
 v5:=Tryz.zeroValue5
 t9:=Tryz.underlying9
 a9:=Tryz.isAgg9
 z9:=Tryz.sizeOf9
 v9:=Tryz.zeroValue9
 t46:=Tryz.underlying128
 a46:=Tryz.isAgg128
 z46:=Tryz.sizeOf128
 v46:=Tryz.zeroValue128
 t51:=Tryz.underlying167
 a51:=Tryz.isAgg167
 z51:=Tryz.sizeOf167
 v51:=Tryz.zeroValue167
 t146:=Tryz.underlying168
 a146:=Tryz.isAgg168
 z146:=Tryz.sizeOf168
 v146:=Tryz.zeroValue168
 g1:=by kernel_rfl }
def Tryz.lays145_ren:Go.Shelf.Ren:=⟨fun|145=>49|220=>82|219=>120|217=>164|225=>165|224=>166|267=>167|266=>206|314=>207|n=>n,fun|9=>9|4=>4|59=>88|3=>3|5=>5|46=>128|146=>168|51=>167|n=>n,fun|1=>1|n=>n⟩
theorem Tryz.lays145 : Go.Proofs.Lays.n145 Tryz.prog Tryz.lays145_ren := {
 mixed:=by kernel_rfl
 f145:=Tryz.func49.trans (congrArg some (by kernel_rfl))
 f217:=Tryz.func164.trans (congrArg some (by kernel_rfl))
 f219:=Tryz.func120.trans (congrArg some (by kernel_rfl))
 f220:=Tryz.func82.trans (congrArg some (by kernel_rfl))
 f224:=Tryz.func166.trans (congrArg some (by kernel_rfl))
 f225:=Tryz.func165.trans (congrArg some (by kernel_rfl))
 f266:=Tryz.func206.trans (congrArg some (by kernel_rfl))
 f267:=Tryz.func167.trans (congrArg some (by kernel_rfl))
 f314:=Tryz.func207.trans (congrArg some (by kernel_rfl))
 t3:=Tryz.underlying3
 a3:=Tryz.isAgg3
 z3:=Tryz.sizeOf3
 v3:=Tryz.zeroValue3
 t4:=Tryz.underlying4
 a4:=Tryz.isAgg4
 z4:=Tryz.sizeOf4
 v4:=Tryz.zeroValue4
 t5:=Tryz.underlying5
 a5:=Tryz.isAgg5
 z5:=Tryz.sizeOf5
 v5:=Tryz.zeroValue5
 t9:=Tryz.underlying9
 a9:=Tryz.isAgg9
 z9:=Tryz.sizeOf9
 v9:=Tryz.zeroValue9
 t46:=Tryz.underlying128
 a46:=Tryz.isAgg128
 z46:=Tryz.sizeOf128
 v46:=Tryz.zeroValue128
 t51:=Tryz.underlying167
 a51:=Tryz.isAgg167
 z51:=Tryz.sizeOf167
 v51:=Tryz.zeroValue167
 t59:=Tryz.underlying88
 a59:=Tryz.isAgg88
 z59:=Tryz.sizeOf88
 v59:=Tryz.zeroValue88
 t146:=Tryz.underlying168
 a146:=Tryz.isAgg168
 z146:=Tryz.sizeOf168
 v146:=Tryz.zeroValue168
 g1:=by kernel_rfl }
def Tryz.lays101_ren:Go.Shelf.Ren:=⟨fun|101=>105|208=>151|206=>135|n=>n,fun|9=>9|4=>4|3=>3|n=>n,fun|n=>n⟩
theorem Tryz.lays101 : Go.Proofs.Lays.n101 Tryz.prog Tryz.lays101_ren := {
 mixed:=by kernel_rfl
 f101:=Tryz.func105.trans (congrArg some (by kernel_rfl))
 f206:=Tryz.func135.trans (congrArg some (by kernel_rfl))
 f208:=Tryz.func151.trans (congrArg some (by kernel_rfl))
 t3:=Tryz.underlying3
 a3:=Tryz.isAgg3
 z3:=Tryz.sizeOf3
 v3:=Tryz.zeroValue3
 t4:=Tryz.underlying4
 a4:=Tryz.isAgg4
 z4:=Tryz.sizeOf4
 v4:=Tryz.zeroValue4
 t9:=Tryz.underlying9
 a9:=Tryz.isAgg9
 z9:=Tryz.sizeOf9
 v9:=Tryz.zeroValue9 }
def Tryz.lays102_ren:Go.Shelf.Ren:=⟨fun|102=>111|209=>155|207=>203|n=>n,fun|9=>9|4=>4|3=>3|n=>n,fun|n=>n⟩
theorem Tryz.lays102 : Go.Proofs.Lays.n102 Tryz.prog Tryz.lays102_ren := {
 mixed:=by kernel_rfl
 f102:=Tryz.func111.trans (congrArg some (by kernel_rfl))
 f207:=Tryz.func203.trans (congrArg some (by kernel_rfl))
 f209:=Tryz.func155.trans (congrArg some (by kernel_rfl))
 t3:=Tryz.underlying3
 a3:=Tryz.isAgg3
 z3:=Tryz.sizeOf3
 v3:=Tryz.zeroValue3
 t4:=Tryz.underlying4
 a4:=Tryz.isAgg4
 z4:=Tryz.sizeOf4
 v4:=Tryz.zeroValue4
 t9:=Tryz.underlying9
 a9:=Tryz.isAgg9
 z9:=Tryz.sizeOf9
 v9:=Tryz.zeroValue9 }
def Tryz.lays146_ren:Go.Shelf.Ren:=⟨fun|146=>65|221=>104|268=>148|138=>149|143=>150|195=>194|197=>195|218=>196|219=>120|260=>216|217=>164|225=>165|224=>166|267=>167|266=>206|314=>207|n=>n,fun|9=>9|31=>83|3=>3|4=>4|0=>0|105=>202|21=>21|5=>5|46=>128|119=>214|139=>232|138=>231|146=>168|51=>167|n=>n,fun|1=>1|3=>8|4=>9|n=>n⟩
theorem Tryz.lays146 : Go.Proofs.Lays.n146 Tryz.prog Tryz.lays146_ren := {
 mixed:=by kernel_rfl
 f138:=Tryz.func149.trans (congrArg some (by kernel_rfl))
 f143:=Tryz.func150.trans (congrArg some (by kernel_rfl))
 f146:=Tryz.func65.trans (congrArg some (by kernel_rfl))
 f195:=Tryz.func194.trans (congrArg some (by kernel_rfl))
 f197:=Tryz.func195.trans (congrArg some (by kernel_rfl))
 f217:=Tryz.func164.trans (congrArg some (by kernel_rfl))
 f218:=Tryz.func196.trans (congrArg some (by kernel_rfl))
 f219:=Tryz.func120.trans (congrArg some (by kernel_rfl))
 f221:=Tryz.func104.trans (congrArg some (by kernel_rfl))
 f224:=Tryz.func166.trans (congrArg some (by kernel_rfl))
 f225:=Tryz.func165.trans (congrArg some (by kernel_rfl))
 f260:=Tryz.func216.trans (congrArg some (by kernel_rfl))
 f266:=Tryz.func206.trans (congrArg some (by kernel_rfl))
 f267:=Tryz.func167.trans (congrArg some (by kernel_rfl))
 f268:=Tryz.func148.trans (congrArg some (by kernel_rfl))
 f314:=Tryz.func207.trans (congrArg some (by kernel_rfl))
 t0:=Tryz.underlying0
 a0:=Tryz.isAgg0
 z0:=Tryz.sizeOf0
 v0:=Tryz.zeroValue0
 t3:=Tryz.underlying3
 a3:=Tryz.isAgg3
 z3:=Tryz.sizeOf3
 v3:=Tryz.zeroValue3
 t4:=Tryz.underlying4
 a4:=Tryz.isAgg4
 z4:=Tryz.sizeOf4
 v4:=Tryz.zeroValue4
 t5:=Tryz.underlying5
 a5:=Tryz.isAgg5
 z5:=Tryz.sizeOf5
 v5:=Tryz.zeroValue5
 t9:=Tryz.underlying9
 a9:=Tryz.isAgg9
 z9:=Tryz.sizeOf9
 v9:=Tryz.zeroValue9
 t21:=Tryz.underlying21
 a21:=Tryz.isAgg21
 z21:=Tryz.sizeOf21
 v21:=Tryz.zeroValue21
 t31:=Tryz.underlying83
 a31:=Tryz.isAgg83
 z31:=Tryz.sizeOf83
 v31:=Tryz.zeroValue83
 t46:=Tryz.underlying128
 a46:=Tryz.isAgg128
 z46:=Tryz.sizeOf128
 v46:=Tryz.zeroValue128
 t51:=Tryz.underlying167
 a51:=Tryz.isAgg167
 z51:=Tryz.sizeOf167
 v51:=Tryz.zeroValue167
 t105:=Tryz.underlying202
 a105:=Tryz.isAgg202
 z105:=Tryz.sizeOf202
 v105:=Tryz.zeroValue202
 t119:=Tryz.underlying214
 a119:=Tryz.isAgg214
 z119:=Tryz.sizeOf214
 t138:=Tryz.underlying231
 a138:=Tryz.isAgg231
 z138:=Tryz.sizeOf231
 v138:=Tryz.zeroValue231
 t139:=Tryz.underlying232
 a139:=Tryz.isAgg232
 z139:=Tryz.sizeOf232
 v139:=Tryz.zeroValue232
 t146:=Tryz.underlying168
 a146:=Tryz.isAgg168
 z146:=Tryz.sizeOf168
 v146:=Tryz.zeroValue168
 g1:=by kernel_rfl
 g3:=by kernel_rfl
 g4:=by kernel_rfl }
def Tryz.lays157_ren:Go.Shelf.Ren:=⟨fun|157=>179|229=>214|199=>215|261=>225|311=>227|312=>228|n=>n,fun|9=>9|31=>83|3=>3|5=>5|4=>4|119=>214|0=>0|40=>216|152=>225|21=>21|154=>227|51=>167|141=>229|196=>239|193=>236|198=>242|49=>240|194=>237|201=>245|226=>247|46=>128|227=>248|n=>n,fun|0=>2|6=>7|n=>n⟩
theorem Tryz.lays157 : Go.Proofs.Lays.n157 Tryz.prog Tryz.lays157_ren := {
 mixed:=by kernel_rfl
 f157:=Tryz.func179.trans (congrArg some (by kernel_rfl))
 f199:=Tryz.func215.trans (congrArg some (by kernel_rfl))
 f229:=Tryz.func214.trans (congrArg some (by kernel_rfl))
 f261:=Tryz.func225.trans (congrArg some (by kernel_rfl))
 f311:=Tryz.func227.trans (congrArg some (by kernel_rfl))
 f312:=Tryz.func228.trans (congrArg some (by kernel_rfl))
 t0:=Tryz.underlying0
 a0:=Tryz.isAgg0
 z0:=Tryz.sizeOf0
 v0:=Tryz.zeroValue0
 t3:=Tryz.underlying3
 a3:=Tryz.isAgg3
 z3:=Tryz.sizeOf3
 v3:=Tryz.zeroValue3
 t4:=Tryz.underlying4
 a4:=Tryz.isAgg4
 z4:=Tryz.sizeOf4
 v4:=Tryz.zeroValue4
 t5:=Tryz.underlying5
 a5:=Tryz.isAgg5
 z5:=Tryz.sizeOf5
 v5:=Tryz.zeroValue5
 t9:=Tryz.underlying9
 a9:=Tryz.isAgg9
 z9:=Tryz.sizeOf9
 v9:=Tryz.zeroValue9
 t21:=Tryz.underlying21
 a21:=Tryz.isAgg21
 z21:=Tryz.sizeOf21
 v21:=Tryz.zeroValue21
 t31:=Tryz.underlying83
 a31:=Tryz.isAgg83
 z31:=Tryz.sizeOf83
 v31:=Tryz.zeroValue83
 t40:=Tryz.underlying216
 a40:=Tryz.isAgg216
 z40:=Tryz.sizeOf216
 v40:=Tryz.zeroValue216
 t46:=Tryz.underlying128
 a46:=Tryz.isAgg128
 z46:=Tryz.sizeOf128
 v46:=Tryz.zeroValue128
 t49:=Tryz.underlying240
 a49:=Tryz.isAgg240
 z49:=Tryz.sizeOf240
 v49:=Tryz.zeroValue240
 t51:=Tryz.underlying167
 a51:=Tryz.isAgg167
 z51:=Tryz.sizeOf167
 v51:=Tryz.zeroValue167
 t119:=Tryz.underlying214
 a119:=Tryz.isAgg214
 z119:=Tryz.sizeOf214
 t141:=Tryz.underlying229
 a141:=Tryz.isAgg229
 z141:=Tryz.sizeOf229
 v141:=Tryz.zeroValue229
 t152:=Tryz.underlying225
 a152:=Tryz.isAgg225
 z152:=Tryz.sizeOf225
 v152:=Tryz.zeroValue225
 t154:=Tryz.underlying227
 a154:=Tryz.isAgg227
 z154:=Tryz.sizeOf227
 v154:=Tryz.zeroValue227
 t193:=Tryz.underlying236
 a193:=Tryz.isAgg236
 z193:=Tryz.sizeOf236
 v193:=Tryz.zeroValue236
 t194:=Tryz.underlying237
 a194:=Tryz.isAgg237
 z194:=Tryz.sizeOf237
 v194:=Tryz.zeroValue237
 t196:=Tryz.underlying239
 a196:=Tryz.isAgg239
 z196:=Tryz.sizeOf239
 v196:=Tryz.zeroValue239
 t198:=Tryz.underlying242
 a198:=Tryz.isAgg242
 z198:=Tryz.sizeOf242
 v198:=Tryz.zeroValue242
 t201:=Tryz.underlying245
 a201:=Tryz.isAgg245
 z201:=Tryz.sizeOf245
 v201:=Tryz.zeroValue245
 t226:=Tryz.underlying247
 a226:=Tryz.isAgg247
 z226:=Tryz.sizeOf247
 v226:=Tryz.zeroValue247
 t227:=Tryz.underlying248
 a227:=Tryz.isAgg248
 z227:=Tryz.sizeOf248
 v227:=Tryz.zeroValue248
 g0:=by kernel_rfl
 g6:=by kernel_rfl }
def Tryz.lays105_ren:Go.Shelf.Ren:=⟨fun|105=>56|212=>90|99=>91|165=>92|166=>93|170=>94|169=>95|263=>133|264=>134|206=>135|240=>136|241=>137|276=>180|277=>181|n=>n,fun|9=>9|3=>3|4=>4|20=>20|0=>0|46=>128|109=>129|5=>5|72=>134|76=>138|51=>167|146=>168|53=>78|148=>170|70=>132|37=>22|75=>137|127=>172|164=>193|80=>141|n=>n,fun|n=>n⟩
theorem Tryz.lays105 : Go.Proofs.Lays.n105 Tryz.prog Tryz.lays105_ren := {
 mixed:=by kernel_rfl
 f99:=Tryz.func91.trans (congrArg some (by kernel_rfl))
 f105:=Tryz.func56.trans (congrArg some (by kernel_rfl))
 f165:=Tryz.func92.trans (congrArg some (by kernel_rfl))
 f166:=Tryz.func93.trans (congrArg some (by kernel_rfl))
 f169:=Tryz.func95.trans (congrArg some (by kernel_rfl))
 f170:=Tryz.func94.trans (congrArg some (by kernel_rfl))
 f206:=Tryz.func135.trans (congrArg some (by kernel_rfl))
 f212:=Tryz.func90.trans (congrArg some (by kernel_rfl))
 f240:=Tryz.func136.trans (congrArg some (by kernel_rfl))
 f241:=Tryz.func137.trans (congrArg some (by kernel_rfl))
 f263:=Tryz.func133.trans (congrArg some (by kernel_rfl))
 f264:=Tryz.func134.trans (congrArg some (by kernel_rfl))
 f276:=Tryz.func180.trans (congrArg some (by kernel_rfl))
 f277:=Tryz.func181.trans (congrArg some (by kernel_rfl))
 t0:=Tryz.underlying0
 a0:=Tryz.isAgg0
 z0:=Tryz.sizeOf0
 v0:=Tryz.zeroValue0
 t3:=Tryz.underlying3
 a3:=Tryz.isAgg3
 z3:=Tryz.sizeOf3
 v3:=Tryz.zeroValue3
 t4:=Tryz.underlying4
 a4:=Tryz.isAgg4
 z4:=Tryz.sizeOf4
 v4:=Tryz.zeroValue4
 t5:=Tryz.underlying5
 a5:=Tryz.isAgg5
 z5:=Tryz.sizeOf5
 v5:=Tryz.zeroValue5
 t9:=Tryz.underlying9
 a9:=Tryz.isAgg9
 z9:=Tryz.sizeOf9
 v9:=Tryz.zeroValue9
 t20:=Tryz.underlying20
 a20:=Tryz.isAgg20
 z20:=Tryz.sizeOf20
 v20:=Tryz.zeroValue20
 t37:=Tryz.underlying22
 a37:=Tryz.isAgg22
 z37:=Tryz.sizeOf22
 v37:=Tryz.zeroValue22
 t46:=Tryz.underlying128
 a46:=Tryz.isAgg128
 z46:=Tryz.sizeOf128
 v46:=Tryz.zeroValue128
 t51:=Tryz.underlying167
 a51:=Tryz.isAgg167
 z51:=Tryz.sizeOf167
 v51:=Tryz.zeroValue167
 t53:=Tryz.underlying78
 a53:=Tryz.isAgg78
 z53:=Tryz.sizeOf78
 v53:=Tryz.zeroValue78
 t70:=Tryz.underlying132
 a70:=Tryz.isAgg132
 z70:=Tryz.sizeOf132
 v70:=Tryz.zeroValue132
 t72:=Tryz.underlying134
 a72:=Tryz.isAgg134
 z72:=Tryz.sizeOf134
 v72:=Tryz.zeroValue134
 t75:=Tryz.underlying137
 a75:=Tryz.isAgg137
 z75:=Tryz.sizeOf137
 v75:=Tryz.zeroValue137
 t76:=Tryz.underlying138
 a76:=Tryz.isAgg138
 z76:=Tryz.sizeOf138
 v76:=Tryz.zeroValue138
 t109:=Tryz.underlying129
 a109:=Tryz.isAgg129
 z109:=Tryz.sizeOf129
 v109:=Tryz.zeroValue129
 t127:=Tryz.underlying172
 a127:=Tryz.isAgg172
 z127:=Tryz.sizeOf172
 v127:=Tryz.zeroValue172
 t146:=Tryz.underlying168
 a146:=Tryz.isAgg168
 z146:=Tryz.sizeOf168
 v146:=Tryz.zeroValue168
 t148:=Tryz.underlying170
 a148:=Tryz.isAgg170
 z148:=Tryz.sizeOf170
 v148:=Tryz.zeroValue170
 t164:=Tryz.underlying193
 a164:=Tryz.isAgg193
 z164:=Tryz.sizeOf193
 v164:=Tryz.zeroValue193 }
theorem Tryz.Builder_Extra_105 : Builder.Extra Tryz.prog Tryz.lays105_ren := {
 sizeBuilder:=by kernel_rfl
 liesBuilder:=by kernel_rfl
 t5:=Tryz.underlying5
 a5:=Tryz.isAgg5
 z5:=Tryz.sizeOf5
 v5:=Tryz.zeroValue5
 infoByte:=by kernel_rfl
 cellsByte:=by kernel_rfl
 sizeByte:=by kernel_rfl
 neB5:=by decide }
end Go.Proofs
namespace Go.Ab
open Go Go.Proofs
def zbc (a0:(List UInt8)) (a1:(List UInt8)):Bool:=decide (0<=Go.Lib.indexByte a0 (a1.getD 0 0))
theorem yx4 (a0:(List UInt8)) (a1:(List UInt8)) (hp0:a1.length=1):Den Tryz.prog 145 [.str a0,.str a1] (.bool (zbc a0 a1)):=by
 obtain⟨c,rfl⟩:∃ c,a1=[c]:=List.length_eq_one_iff.1 hp0;refine Den.plain ⟨_,Tryz.func145,rfl,rfl⟩ (by simp[NoOwnL,NoOwn]) ?_;intro w M vs hI hr;simp only[RepL]at hr;obtain⟨u0,us0,f0,g0,rfl,h0e,h0,u1,us1,f1,g1,rfl,h1e,h1,rfl,_⟩:=hr;have e0:=h0.val_str;have e1:=h1.val_str;subst e0 e1;refine(Any.strings_Contains_one Tryz.lays144 ⟨a0.toArray⟩ c w).mono ?_;rintro e w' ⟨rfl,rfl⟩
 exact⟨_,rfl,Grow.refl _,fun M'=>yfc _⟩
def D_zbc : DF
 | [x0,x1]=>some (.bool (zbc (rdS x0) (rdS x1)),false,[wS x0,wS x1,(rdS x1).length=1])
 | _=>none
theorem y0u:OkD Tryz.prog 145 D_zbc:=by
 intro xs r z ob h ho;unfold D_zbc at h;split at h
 ·simp only[Option.some.injEq,Prod.mk.injEq]at h
  obtain⟨rfl,rfl,rfl⟩:=h;obtain⟨h0,h1,hp0,_⟩:=ho;exact Den.sim (yx4 _ _ hp0) (yh (ycb h0).1 <| yh (ycb h1).1 <| trivial) (yw (ycb h0).2 <| yw (ycb h1).2 <| rfl) rfl
 ·cases h
end Go.Ab
namespace Go.Ab
open Go Go.Proofs
def zjf (a0:(List UInt8)) (a1:(List UInt8)):Bool:=
 (decide ((a1.length:Int)<=(a0.length:Int)) && ((a0.take a1.length) == a1))
namespace N135
theorem DD:DOk Tryz.prog (Go.Ab.DD []):=yd _
theorem den (a0:(List UInt8)) (a1:(List UInt8))  : Den Tryz.prog 135 [.str a0,.str a1] (.bool (zjf a0 a1)):=by
 generalize hR:zjf a0 a1=r;unfold zjf at hR;refine di Tryz.func135 Tryz.ntmps135 Tryz.results135 ?_;intro c hL hc hk;obtain⟨hL0,hL1,_⟩:=hL;have hw0:a0.length<9223372036854775808:=Nat.lt_succ_of_le hL0;have hw1:a1.length<9223372036854775808:=Nat.lt_succ_of_le hL1;clear hL0 hL1;simp only[pars,Nat.zero_add];iterate 2 refine rS ?_
 refine AWP.ret ?_;subst hR;exact es
end N135
def D_zjf : DF
 | [x0,x1]=>some (.bool (zjf (rdS x0) (rdS x1)),false,[wS x0,wS x1])
 | _=>none
theorem yt2:OkD Tryz.prog 135 D_zjf:=by unfold D_zjf;exact dk N135.den
def zbf (a0:(List UInt8)) (a1:(List UInt8)):((List UInt8)×Bool):=
 (bif (!(zjf a0 a1))then(a0,false)else((a0.take a0.length).drop a1.length,true))
namespace N103
theorem DD:DOk Tryz.prog (Go.Ab.DD [(135,dP D_zjf)]):=ya yt2.e <| yd _
theorem dn:type_of% (@D_zjf.eq_1):=by and_intros<;>intros<;>rfl
theorem o0 {p:Prop} (h:p:=by(first|(have h9:=hpx (by assumption);(repeat' with_reducible apply And.intro)<;>omega));first|done|fail):p:=h
theorem den (a0:(List UInt8)) (a1:(List UInt8))  : Den Tryz.prog 103 [.str a0,.str a1] (.tup [.str ((zbf a0 a1).1),.bool ((zbf a0 a1).2)]):=by
 generalize hR:zbf a0 a1=r;unfold zbf at hR;refine di Tryz.func103 Tryz.ntmps103 Tryz.results103 ?_;intro c hL hc hk;obtain⟨hL0,hL1,_⟩:=hL;have hw0:a0.length<9223372036854775808:=Nat.lt_succ_of_le hL0;have hw1:a1.length<9223372036854775808:=Nat.lt_succ_of_le hL1;clear hL0 hL1;simp only[pars,Nat.zero_add];have hpx:(!(zjf a0 a1))=false->a1.length<=a0.length:=fun h=>by unfold zjf at h;simp at h;omega
 iterate 2 refine rS ?_
 refine AWP.cond rfl (fun hb => ?_) (fun hb => ?_)
 ·replace hR:=ct hR
  refine rS ?_;refine AWP.ret ?_;subst hR;exact es
 ·replace hR:=cf hR
  refine rS ?_;refine AWP.ret ?_;subst hR;exact es
end N103
def D_zbf : DF
 | [x0,x1]=>some (.tup [.str ((zbf (rdS x0) (rdS x1)).1),.bool ((zbf (rdS x0) (rdS x1)).2)],false,[wS x0,wS x1])
 | _=>none
theorem yo2:OkD Tryz.prog 103 D_zbf:=by unfold D_zbf;exact dk N103.den
def zhc (a0:(List UInt8)) (a1:(List UInt8)):((List UInt8)×Bool):=
 ((zbf a0 a1).1,(zbf a0 a1).2)
namespace N63
theorem DD:DOk Tryz.prog (Go.Ab.DD [(103,dP D_zbf)]):=ya yo2.e <| yd _
theorem dn:type_of% (@D_zbf.eq_1):=by and_intros<;>intros<;>rfl
theorem den (a0:(List UInt8)) (a1:(List UInt8))  : Den Tryz.prog 63 [.str a0,.str a1] (.tup [.str ((zhc a0 a1).1),.bool ((zhc a0 a1).2)]):=by
 generalize hR:zhc a0 a1=r;unfold zhc at hR;refine di Tryz.func63 Tryz.ntmps63 Tryz.results63 ?_;intro c hL hc hk;obtain⟨hL0,hL1,_⟩:=hL;have hw0:a0.length<9223372036854775808:=Nat.lt_succ_of_le hL0;have hw1:a1.length<9223372036854775808:=Nat.lt_succ_of_le hL1;clear hL0 hL1;simp only[pars,Nat.zero_add];iterate 2 refine rS ?_
 refine AWP.ret ?_;subst hR;exact es
end N63
def D_zhc : DF
 | [x0,x1]=>some (.tup [.str ((zhc (rdS x0) (rdS x1)).1),.bool ((zhc (rdS x0) (rdS x1)).2)],false,[wS x0,wS x1])
 | _=>none
theorem yrt:OkD Tryz.prog 63 D_zhc:=by unfold D_zhc;exact dk N63.den
theorem ywl (w:World) (k:Nat) (os:Array Obj):Grow w (Go.Sort.grow (w.drewN k) os):=by
 refine⟨rfl,rfl,rfl,?_,fun i hi => ?_⟩
 ·show w.heap.size<=(w.heap++os).size
  simp
 ·show(w.heap++os)[i]? = w.heap[i]?
  rw[Array.getElem?_append_left hi]
open Go.RowKit in
theorem yif {w w':World} (h:Below w.heap.size w w'):Grow w w':=⟨h.os,h.tape,h.output,h.size,fun k hk=>h.block k hk⟩
theorem y8c (u:Nat):(Go.Lib.decDigits u).length<=u / 2+1:=by
 induction u using Nat.strongRecOn with
 | ind u ih=>
  rw[Go.Lib.decDigits];split
  ·simp
  ·have:=ih (u / 10) (by omega)
   simp only[List.length_append,List.length_cons,List.length_nil];omega
theorem yj2 {n:Int} (h1 : -9223372036854775808<=n) (h2:n<=9223372036854775807):(Go.Lib.itoa n).length<=maxLen:=by
 unfold Go.Lib.itoa maxLen;split
 ·have:=y8c n.natAbs
  simp only[List.length_cons];omega
 ·have:=y8c n.toNat
  omega
theorem yxk (l:List UInt8) (c:Nat):(Go.Lib.repeatL l c).length=l.length * c:=by
 rw[Go.Lib.repeatL_length,Nat.mul_comm]
end Go.Ab
