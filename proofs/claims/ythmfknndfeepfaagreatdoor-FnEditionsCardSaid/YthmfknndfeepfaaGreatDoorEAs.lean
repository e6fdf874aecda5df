/- Walks and lemmas. No conditions. -/
import Derived.Test.YthmfknndfeepfaaGreatDoorEAr
set_option linter.unusedSectionVars false
set_option linter.unusedVariables false
set_option linter.unusedSimpArgs false
set_option maxHeartbeats 1000000
namespace Go.Ab
open Go Go.Proofs
theorem yb4 {a b:Aid} (h:zrc a b=true):a=b:=by
 rw[<- ymj]at h;unfold zsg zbf at h;rw[ykg,yve]at h;obtain⟨a1,a2,⟨a3,a4⟩,a5,⟨a6,a7,a8,a9⟩,⟨b1,b2,b3,b4,b5⟩,a10,a11⟩:=a;obtain⟨c1,c2,⟨c3,c4⟩,c5,⟨c6,c7,c8,c9⟩,⟨d1,d2,d3,d4,d5⟩,c10,c11⟩:=b;simp only[Bool.and_eq_true,beq_iff_eq,decide_eq_true_eq,Point.mk.injEq]at h;simp only[and_assoc]at h;obtain⟨rfl,rfl,rfl,rfl,rfl,rfl,rfl,rfl,rfl,rfl,rfl,rfl,rfl,rfl,rfl,rfl⟩:=h;rfl
theorem memI {l:List Aid} {v:Aid} (h:v∈l):∃ i,i<l.length/\l.getD i default=v:=by
 obtain⟨i,hi,e⟩:=List.getElem_of_mem h;exact⟨i,hi,by rw[List.getD_eq_getElem?_getD,List.getElem?_eq_getElem hi];exact e⟩
theorem memG {l:List Aid} {i:Nat} (h:i<l.length):l.getD i default∈l:=by
 rw[List.getD_eq_getElem?_getD,List.getElem?_eq_getElem h];exact List.getElem_mem h
theorem y3db {l:List Aid} (h:l.Pairwise ltA) {v w:Aid} (hv:v∈l) (hw:w∈l) (e:v.Number=w.Number):v=w:=by
 obtain⟨i,hi,rfl⟩:=memI hv;obtain⟨j,hj,rfl⟩:=memI hw;rcases Nat.lt_trichotomy i j with h1|h1|h1
 ·have:=ygg h h1 hj;omega
 ·subst h1;rfl
 ·have:=ygg h h1 hi;omega
theorem yjl {l:List Aid} (h:l.Pairwise ltA) {v:Aid} (hv:v∈l):upto l v.Number<l.length/\l.getD (upto l v.Number) default=v:=by
 obtain⟨i,hi,rfl⟩:=memI hv;have e:upto l (l.getD i default).Number=i:=yz1 l _ i (by omega) (fun q hq=>ygg h hq hi) (fun _=>by omega);rw[e];exact⟨hi,rfl⟩
theorem yac {l:List Aid} (h:l.Pairwise ltA) {n:Int}:hasN l n=true↔∃ v∈l,v.Number=n:=by
 constructor
 ·intro hn
  obtain⟨h1,h2⟩:=ynh hn;exact⟨_,memG h1,h2⟩
 ·rintro⟨v,hv,rfl⟩
  obtain⟨h1,h2⟩:=yjl h hv;unfold hasN;rw[decide_eq_true h1,h2];simp
theorem extA : ∀ {l m : List Aid}, l.Pairwise ltA -> m.Pairwise ltA -> (∀ v, v ∈ l ↔ v ∈ m) -> l = m
 | [],[],_,_,_=>rfl
 | [],y::m,_,_,h=>absurd ((h y).2 (by simp)) (by simp)
 | x::l,[],_,_,h=>absurd ((h x).1 (by simp)) (by simp)
 | x::l,y::m,h1,h2,h=>by
  rw[List.pairwise_cons]at h1 h2;unfold ltA at h1 h2
  have e:x=y:=by
   rcases List.mem_cons.1 ((h x).1 (by simp))with e|e
   ·exact e
   ·rcases List.mem_cons.1 ((h y).2 (by simp))with e'|e'
    ·exact e'.symm
    ·have:=h2.1 x e
     have:=h1.1 y e';omega
  subst e;congr 1
  refine extA h1.2 h2.2 (fun v=>⟨fun hv => ?_,fun hv => ?_⟩)
  ·rcases List.mem_cons.1 ((h v).1 (by simp[hv]))with e|e
   ·subst e;have:=h1.1 v hv;omega
   ·exact e
  ·rcases List.mem_cons.1 ((h v).2 (by simp[hv]))with e|e
   ·subst e;have:=h2.1 v hv;omega
   ·exact e
theorem ygz : ∀ (l m : List Int), l.Nodup -> (∀ x ∈ l, x ∈ m) -> l.length <= m.length
 | [],m,_,_=>by simp
 | x::l,m,hn,hs=>by
  rw[List.nodup_cons]at hn;have hx:=hs x (by simp);have:=ygz l (m.erase x) hn.2 (fun y hy=>(List.mem_erase_of_ne (fun e=>hn.1 (by rw[<- e];exact hy))).2 (hs y (by simp[hy])));rw[List.length_erase_of_mem hx]at this;have:=List.length_pos_of_mem hx;simp only[List.length_cons];omega
theorem yrfb {l:List Aid} (h:l.Pairwise ltA):(l.map (·.Number)).Nodup:=by
 unfold List.Nodup;rw[List.pairwise_map];exact h.imp (fun {a b} hab e=>by unfold ltA at hab;omega)
theorem yebb {S b:List Aid} {y:Aid} (hS:S.Pairwise ltA) (hb:b.Pairwise ltA) (hs:∀ v∈S,hasN b v.Number=true) (hy:y∈b) (hn:hasN S y.Number=false):S.length<b.length:=by
 have h:=ygz (y.Number::S.map (·.Number)) (b.map (·.Number)) (by
  rw[List.nodup_cons];refine⟨fun hm => ?_,yrfb hS⟩;obtain⟨v,hv,e⟩:=List.mem_map.1 hm;rw[(yac hS).2 ⟨v,hv,e⟩]at hn
  cases hn) (fun x hx=>by
  rcases List.mem_cons.1 hx with rfl|hx
  ·exact List.mem_map.2 ⟨y,hy,rfl⟩
  ·obtain⟨v,hv,rfl⟩:=List.mem_map.1 hx
   obtain⟨w,hw,e⟩:=(yac hb).1 (hs v hv)
   exact List.mem_map.2 ⟨w,hw,e⟩)
 simp only[List.length_cons,List.length_map]at h;omega
theorem y4u {l:List Aid} (h:l.Pairwise ltA) {n:Int} (hn:hasN l n=true) (v:Aid):v∈l.take (upto l n)++l.drop (upto l n+1)↔v∈l/\v.Number≠n:=by
 obtain⟨hu,hN⟩:=ynh hn
 have e:l=l.take (upto l n)++l.getD (upto l n) default::l.drop (upto l n+1):=by
  rw[List.getD_eq_getElem?_getD,List.getElem?_eq_getElem hu];simp
 generalize l.getD (upto l n) default=z at e hN;generalize l.take (upto l n)=p at e ⊢;generalize l.drop (upto l n+1)=r at e ⊢;subst e;rw[List.pairwise_append,List.pairwise_cons]at h;unfold ltA at h;simp only[List.mem_append,List.mem_cons];constructor
 ·rintro(hv|hv)
  ·exact⟨.inl hv,by have:=h.2.2 v hv z (by simp);omega⟩
  ·exact⟨.inr (.inr hv),by have:=h.2.1.1 v hv;omega⟩
 ·rintro⟨hv|rfl|hv,h2⟩
  ·exact .inl hv
  ·exact absurd hN h2
  ·exact .inr hv
theorem y6ab {l:List Aid} (h:l.Pairwise ltA) {y:Aid} (hn:hasN l y.Number=true) (v:Aid):v∈l.set (upto l y.Number) y↔v=y\/(v∈l/\v.Number≠y.Number):=by
 obtain⟨hu,hN⟩:=ynh hn;rw[List.set_eq_take_append_cons_drop,if_pos hu];have:=y4u h hn v;simp only[List.mem_append,List.mem_cons]at this ⊢;rw[<- this];constructor
 ·rintro(h1|h1|h1)
  ·exact .inr (.inl h1)
  ·exact .inl h1
  ·exact .inr (.inr h1)
 ·rintro(h1|h1|h1)
  ·exact .inr (.inl h1)
  ·exact .inl h1
  ·exact .inr (.inr h1)
theorem y2bb (l:List Aid) (y v:Aid):v∈putA l y↔v∈l\/v=y:=by
 unfold putA;have e:=List.take_append_drop (upto l y.Number) l;have:v∈l↔v∈l.take (upto l y.Number)\/v∈l.drop (upto l y.Number):=by rw[<- List.mem_append,e]
 simp only[List.mem_append,List.mem_singleton];rw[this];constructor
 ·rintro((h1|h1)|h1)
  ·exact .inl (.inl h1)
  ·exact .inr h1
  ·exact .inl (.inr h1)
 ·rintro((h1|h1)|h1)
  ·exact .inl (.inl h1)
  ·exact .inr h1
  ·exact .inl (.inr h1)
def y0h (c:Correction) (s:List Aid):Except (List Aid×Int) (List Aid):=bif (((zud c s).2) != 0)then .error ([],(zud c s).2)else .ok ((zud c s).1)
theorem yeq {c:Correction} {s t:List Aid} (h:zud c s=(t,0)):y0h c s=.ok t:=by
 unfold y0h;rw[h];rfl
section
variable {P:Aid->Prop} (hP:∀ v,P v->aidL v)
include hP
theorem yy0 {S:List Aid} (hS:okP P S) {x:Aid} (hx:x∈S):y0h { Kind:=1,Aid:=x:Correction } S=.ok (S.take (upto S x.Number)++S.drop (upto S x.Number+1)):=by
 have hlen:=hS.1.2.2;have hn:=(yac hS.1.2.1).2 ⟨x,hx,rfl⟩;refine yeq ?_;unfold zud;simp only[yqm S x (by omega),(yjl hS.1.2.1 hx).2,yne,hn];have e:=ye0 S x.Number (by omega) (fun v h=>hP v (hS.2 v h));rw[(y4h S).2 hS.1,hn]at e;rw[e];rfl
theorem yx8 {S:List Aid} (hS:okP P S) {y:Aid} (h1:zw y=true) (hy:P y) (hn:hasN S y.Number=false) (hl:S.length<24):y0h { Kind:=2,Aid:=y:Correction } S=.ok (putA S y):=by
 refine yeq ?_;unfold zud;have e:=yx3 S y (by omega) (fun v h=>hP v (hS.2 v h)) (hP y hy);rw[(y4h S).2 hS.1,hn,h1]at e;have h24:((S.length:Int) == 24)=false:=by rw[beq_eq_false_iff_ne];omega
 rw[h24]at e;simp only[e];rfl
theorem yo8 {S:List Aid} (hS:okP P S) {y:Aid} (h1:zw y=true) (hy:P y) (hn:hasN S y.Number=true):y0h { Kind:=3,Aid:=y:Correction } S=.ok (S.set (upto S y.Number) y):=by
 have hlen:=hS.1.2.2;refine yeq ?_;unfold zud;have e:=ya0 S y (by omega) (fun v h=>hP v (hS.2 v h)) (hP y hy);rw[(y4h S).2 hS.1,hn,h1]at e;simp only[e];rfl
def dg1 (b:List Aid) (x:Aid):List Correction:=bif !(hasN b x.Number)then[{ Kind:=1,Aid:=x:Correction }]else[]
def dg2 (a:List Aid) (y:Aid):List Correction:=bif !(hasN a y.Number)then[{ Kind:=2,Aid:=y:Correction }]else(bif !(zrc (a.getD (upto a y.Number) default) y)then[{ Kind:=3,Aid:=y:Correction }]else[])
theorem y00 {b:List Aid}:∀ (xs S:List Aid),okP P S->xs.Pairwise ltA->(∀ x∈xs,hasN b x.Number=false->x∈S) ->
  ∃ S',y9e y0h (xs.flatMap (dg1 b)) S=.ok S'/\okP P S'/\∀ v,v∈S'↔v∈S/\¬ (v∈xs/\hasN b v.Number=false)
 | [],S,hS,_,_=>⟨S,rfl,hS,fun v=>by simp⟩
 | x::xs,S,hS,hp,hm=>by
  rw[List.pairwise_cons]at hp
  cases hx:hasN b x.Number with
  | true=>
   obtain⟨S',h1,h2,h3⟩:=y00 xs S hS hp.2 (fun z hz=>hm z (by simp[hz]));refine⟨S',?_,h2,fun v => ?_⟩
   ·rw[List.flatMap_cons,show dg1 b x=[]from by unfold dg1;rw[hx];rfl];exact h1
   ·rw[h3 v]
    refine and_congr_right fun _=>not_congr ⟨fun h=>⟨by simp[h.1],h.2⟩,fun h=>⟨?_,h.2⟩⟩
    rcases List.mem_cons.1 h.1 with e|e
    ·subst e;rw[hx]at h;cases h.2
    ·exact e
  | false=>
   have hxS:=hm x (by simp) hx;have hn:=(yac hS.1.2.1).2 ⟨x,hxS,rfl⟩;have hr:=yfbb P hS hn
   obtain⟨S',h1,h2,h3⟩:=y00 xs _ hr hp.2 (fun z hz hzb=>by
    rw[y4u hS.1.2.1 hn];refine⟨hm z (by simp[hz]) hzb,?_⟩;have:=hp.1 z hz;unfold ltA at this
    omega)
   refine⟨S',?_,h2,fun v => ?_⟩
   ·rw[List.flatMap_cons,show dg1 b x=[{ Kind:=1,Aid:=x:Correction }]from by unfold dg1;rw[hx];rfl]
    show y9e y0h ({ Kind:=1,Aid:=x:Correction }::xs.flatMap (dg1 b)) S=_;simp only[y9e];rw[yy0 hP hS hxS];exact h1
   ·rw[h3 v,y4u hS.1.2.1 hn]
    constructor
    ·rintro⟨⟨hv,hne⟩,h4⟩
     refine⟨hv,fun h5 => ?_⟩;rcases List.mem_cons.1 h5.1 with e|e
     ·subst e;exact hne rfl
     ·exact h4 ⟨e,h5.2⟩
    ·rintro⟨hv,h4⟩
     refine⟨⟨hv,fun e => ?_⟩,fun h5=>h4 ⟨by simp[h5.1],h5.2⟩⟩;have:=y3db hS.1.2.1 hv hxS e;subst this;exact h4 ⟨by simp,hx⟩
def cor (a:List Aid) (y:Aid):Bool := !(hasN a y.Number && zrc (a.getD (upto a y.Number) default) y)
theorem y32 {a b:List Aid} (hb:okP P b):∀ (ys S:List Aid),okP P S->ys.Pairwise ltA->(∀ y∈ys,y∈b)->(∀ v∈S,hasN b v.Number=true)->(∀ y∈ys,hasN S y.Number=hasN a y.Number) ->
  ∃ S',y9e y0h (ys.flatMap (dg2 a)) S=.ok S'/\okP P S'/\∀ v,v∈S'↔(v∈ys/\cor a v=true)\/(v∈S/\∀ y∈ys,cor a y=true->y.Number≠v.Number)
 | [],S,hS,_,_,_,_=>⟨S,rfl,hS,fun v=>by simp⟩
 | y::ys,S,hS,hp,hyb,hSb,hna=>by
  rw[List.pairwise_cons]at hp;have hy:=hyb y (by simp);have hone:=hb.1.1 y hy;have hPy:=hb.2 y hy;have hnum:=hna y (by simp);have hlt:∀ z∈ys,z.Number≠y.Number:=fun z hz=>by have:=hp.1 z hz;unfold ltA at this;omega
  -- what one correction does,and the rest
  have key:∀ T,y0h (((dg2 a y).getD 0 default)) S=.ok T->(dg2 a y).length=1->cor a y=true->okP P T->(∀ v,v∈T↔v=y\/(v∈S/\v.Number≠y.Number)) ->
    ∃ S',y9e y0h ((y::ys).flatMap (dg2 a)) S=.ok S'/\okP P S'/\∀ v,v∈S'↔(v∈y::ys/\cor a v=true)\/(v∈S/\∀ z∈y::ys,cor a z=true->z.Number≠v.Number):=fun T hT h1 hc hok hmem=>by
   obtain⟨c,hc1⟩:=List.length_eq_one_iff.1 h1
   obtain⟨S',k1,k2,k3⟩:=y32 hb ys T hok hp.2 (fun z hz=>hyb z (by simp[hz])) (fun v hv=>by
    rcases(hmem v).1 hv with rfl|hv
    ·exact(yac hb.1.2.1).2 ⟨v,hy,rfl⟩
    ·exact hSb v hv.1) (fun z hz=>by
    rw[<- hna z (by simp[hz]),Bool.eq_iff_iff,yac hok.1.2.1,yac hS.1.2.1];constructor
    ·rintro⟨v,hv,e⟩
     rcases(hmem v).1 hv with rfl|hv
     ·exact absurd e.symm (hlt z hz)
     ·exact⟨v,hv.1,e⟩
    ·rintro⟨v,hv,e⟩
     exact⟨v,(hmem v).2 (.inr ⟨hv,by rw[e];exact hlt z hz⟩),e⟩)
   refine⟨S',?_,k2,fun v => ?_⟩
   ·rw[List.flatMap_cons,hc1]
    rw[hc1]at hT;show y9e y0h (c::ys.flatMap (dg2 a)) S=_;simp only[y9e];have:y0h c S=.ok T:=hT;rw[this];exact k1
   ·rw[k3 v,hmem v]
    constructor
    ·rintro(⟨h4,h5⟩|⟨rfl|⟨h4,h5⟩,h6⟩)
     ·exact .inl ⟨by simp[h4],h5⟩
     ·exact .inl ⟨by simp,hc⟩
     ·refine .inr ⟨h4,fun z hz hzc => ?_⟩
      rcases List.mem_cons.1 hz with rfl|hz
      ·exact fun e=>h5 e.symm
      ·exact h6 z hz hzc
    ·rintro(⟨h4,h5⟩|⟨h4,h5⟩)
     ·rcases List.mem_cons.1 h4 with rfl|h4
      ·exact .inr ⟨.inl rfl,fun z hz _=>hlt z hz⟩
      ·exact .inl ⟨h4,h5⟩
     ·exact .inr ⟨.inr ⟨h4,fun e=>h5 y (by simp) hc e.symm⟩,fun z hz hzc=>h5 z (by simp[hz]) hzc⟩
  cases hN:hasN a y.Number with
  | false=>
   rw[hN]at hnum;have hl:=yebb hS.1.2.1 hb.1.2.1 hSb hy hnum;have h24:=hb.1.2.2;have eg:dg2 a y=[{ Kind:=2,Aid:=y:Correction }]:=by unfold dg2;rw[hN];rfl
   have hS24:((S.length:Int) == 24)=false:=by rw[beq_eq_false_iff_ne];omega
   refine key (putA S y) (by rw[eg];exact yx8 hP hS hone hPy hnum (by omega)) (by rw[eg];rfl) (by unfold cor;rw[hN];rfl) (y19 P hS ⟨hone,hPy⟩ hnum hS24) (fun v => ?_);rw[y2bb];constructor
   ·rintro(h4|h4)
    ·refine .inr ⟨h4,fun e => ?_⟩
     rw[(yac hS.1.2.1).2 ⟨v,h4,e⟩]at hnum;cases hnum
    ·exact .inl h4
   ·rintro(h4|h4)
    ·exact .inr h4
    ·exact .inl h4.1
  | true=>
   rw[hN]at hnum
   cases hs:zrc (a.getD (upto a y.Number) default) y with
   | false=>
    have eg:dg2 a y=[{ Kind:=3,Aid:=y:Correction }]:=by unfold dg2;rw[hN,hs];rfl
    exact key (S.set (upto S y.Number) y) (by rw[eg];exact yo8 hP hS hone hPy hnum) (by rw[eg];rfl) (by unfold cor;rw[hN,hs];rfl) (y5cb P hS ⟨hone,hPy⟩ hnum) (y6ab hS.1.2.1 hnum)
   | true=>
    have eg:dg2 a y=[]:=by unfold dg2;rw[hN,hs];rfl
    have hc:cor a y=false:=by unfold cor;rw[hN,hs];rfl
    obtain⟨S',k1,k2,k3⟩:=y32 hb ys S hS hp.2 (fun z hz=>hyb z (by simp[hz])) hSb (fun z hz=>hna z (by simp[hz]));refine⟨S',by rw[List.flatMap_cons,eg];exact k1,k2,fun v => ?_⟩;rw[k3 v];constructor
    ·rintro(⟨h4,h5⟩|⟨h4,h5⟩)
     ·exact .inl ⟨by simp[h4],h5⟩
     ·refine .inr ⟨h4,fun z hz hzc => ?_⟩
      rcases List.mem_cons.1 hz with rfl|hz
      ·rw[hc]at hzc;cases hzc
      ·exact h5 z hz hzc
    ·rintro(⟨h4,h5⟩|⟨h4,h5⟩)
     ·rcases List.mem_cons.1 h4 with rfl|h4
      ·rw[hc]at h5;cases h5
      ·exact .inl ⟨h4,h5⟩
     ·exact .inr ⟨h4,fun z hz hzc=>h5 z (by simp[hz]) hzc⟩
end
end Go.Ab
namespace Go.Ab
open Go Go.Proofs
def u16 (x:Int):Prop:=0<=x/\x<=65535
theorem ykeb {x y:Int} (hx:u16 x) (hy:u16 y):u16 (IntKind.wrap .i64 ((BitVec.ofInt (IntKind.bits .i64) x ^^^ BitVec.ofInt (IntKind.bits .i64) y).toNat:Int)):=by
 unfold u16 at *;obtain⟨n,rfl⟩:∃ n:Nat,x=n:=⟨x.toNat,by omega⟩
 obtain⟨m,rfl⟩:∃ n:Nat,y=n:=⟨y.toNat,by omega⟩
 have h:(BitVec.ofInt (IntKind.bits .i64) (n:Int) ^^^ BitVec.ofInt (IntKind.bits .i64) (m:Int)).toNat=n ^^^ m:=by
  show(BitVec.ofInt 64 (n:Int) ^^^ BitVec.ofInt 64 (m:Int)).toNat=n ^^^ m;rw[BitVec.toNat_xor,BitVec.ofInt_natCast,BitVec.ofInt_natCast,BitVec.toNat_ofNat,BitVec.toNat_ofNat,Nat.mod_eq_of_lt (by omega),Nat.mod_eq_of_lt (by omega)]
 rw[h,IntKind.wrap_i64];have:=Nat.xor_lt_two_pow (n:=16) (show n<2 ^ 16 by omega) (show m<2 ^ 16 by omega);omega
theorem ybfb {x:Int} (hx:0<=x) (hx2:x<=131070):u16 (IntKind.wrap .i64 ((BitVec.ofInt (IntKind.bits .i64) x &&& BitVec.ofInt (IntKind.bits .i64) 65535).toNat:Int)):=by
 unfold u16;obtain⟨n,rfl⟩:∃ n:Nat,x=n:=⟨x.toNat,by omega⟩
 have h:(BitVec.ofInt (IntKind.bits .i64) (n:Int) &&& BitVec.ofInt (IntKind.bits .i64) 65535).toNat=n &&& 65535:=by
  show(BitVec.ofInt 64 (n:Int) &&& BitVec.ofInt 64 ((65535:Nat):Int)).toNat=n &&& 65535;rw[BitVec.toNat_and,BitVec.ofInt_natCast,BitVec.ofInt_natCast,BitVec.toNat_ofNat,BitVec.toNat_ofNat,Nat.mod_eq_of_lt (by omega),Nat.mod_eq_of_lt (by omega)]
 rw[h,IntKind.wrap_i64];have:n &&& 65535<=65535:=Nat.and_le_right;omega
theorem y9eb (a:List UInt8) (k:Int) (i:Nat) (s:Int) (j:Nat) (t:Int) (ht:u16 t):∃ r,yyj a k i s j t=.ok r/\u16 r:=by
 unfold yyj;have hw:IntKind.wrap .i64 (t * 2)=t * 2:=by unfold u16 at ht;rw[IntKind.wrap_i64];omega
 rw[hw];by_cases h:65535<t * 2
 ·rw[decide_eq_true h]
  exact⟨_,rfl,ykeb (ybfb (by unfold u16 at ht;omega) (by unfold u16 at ht;omega)) ⟨by omega,by omega⟩⟩
 ·rw[decide_eq_false h]
  exact⟨_,rfl,by unfold u16 at *;omega⟩
theorem y6db (a:List UInt8) (k:Int) (i:Nat) (s:Int) (hs:u16 s):∃ r,y2k a k i s=.ok r/\u16 r:=by
 unfold y2k;have hb:(a.getD i 0).toNat<256:=(a.getD i 0).toNat_lt
 have h0:u16 (IntKind.wrap .i64 ((BitVec.ofInt (IntKind.bits .i64) s ^^^ BitVec.ofInt (IntKind.bits .i64) (IntKind.wrap .i64 ((IntKind.wrap .i64 ((a.getD i 0).toNat:Int)) * 256))).toNat:Int)):=by
  refine ykeb hs ?_;unfold u16;rw[IntKind.wrap_i64,IntKind.wrap_i64];omega
 obtain⟨t,h1,h2⟩:=ydb (b:=yyj a k i s) (fun _ s=>u16 s) (k:=8-0) (i:=0) h0 (fun j u _ _ hu=>y9eb a k i s j u hu);rw[h1];exact⟨_,rfl,h2⟩
theorem y3p (a:List UInt8):u16 (zu a 65535):=by
 unfold zu;have e:(!(ze 65535 0 65535))=false:=by decide
 rw[e,cond_false];obtain⟨t,h1,h2⟩:=ydb (b:=y2k a 65535) (fun _ s=>u16 s) (k:=a.length-0) (i:=0) (s:=65535) ⟨by omega,by omega⟩ (fun j u _ _ hu=>y6db a 65535 j u hu);rw[h1];exact h2
theorem y72 (a:List UInt8) (k:Int) (i:Nat) (s:Int) (j:Nat) (t:Int):ycn a k i s j t=yyj a k i s j t:=by
 unfold ycn yyj;have e:(2:Int) ^ (Min.min 1 (IntKind.bits .i64))=2:=by decide
 rw[e]
theorem yqab (a:List UInt8):zu a 65535=zhc a 65535:=by
 unfold zu zhc;have e:(!(ze 65535 0 65535))=false:=by decide
 have e8:(2:Int) ^ (Min.min 8 (IntKind.bits .i64))=256:=by decide
 rw[e,cond_false]
 have hb:yco a 65535=y2k a 65535:=by
  funext i s
  unfold yco y2k;rw[e8,show ycn a 65535 i s=yyj a 65535 i s from by funext j t;exact y72 a 65535 i s j t];all_goals rfl
 rw[hb];all_goals rfl
theorem ytx {l:List Aid} (h:zdc l=true):∀ i,i<l.length->zw (l.getD i default)=true:=by
 unfold zdc at h;rcases y5d (b:=yti l) (fun j=>(!(zw (l.getD j default))) || (decide (0<(j:Int)) && decide (((l.getD j default).Number)<=((l.getD ((IntKind.wrap .i64 ((j:Int)-1)).toNat) default).Number)))) (fun _ u=>u) false (k:=l.length-0) (i:=0) (s:=()) (fun j u _ _=>by cases u;rfl)with⟨_,e1⟩|⟨hq,_⟩
 ·rw[e1]at h;cases h
 ·intro i hi
  have:=hq i (Nat.zero_le _) (by omega);rw[Bool.or_eq_false_iff]at this;simpa using this.1
def zvg (a0:Edition):Bool:=
 (((zpe a0.Number) && (zgd a0.Day)) && (zgb a0.Aids))
namespace N28
theorem DD:DOk Tryz.prog (Go.Ab.DD [(20,dP D_zgb),(56,dP D_zpe),(57,dP D_zgd)]):=ya y7g.e <| ya ypq.e <| ya ysq.e <| yc _
abbrev dn:=cj @D_zgb.eq_1 <| cj @D_zpe.eq_1 <| @D_zgd.eq_1
theorem gr {p:Prop} (h:p:=by(grind [ykc]);first|done|fail):p:=h
theorem den (a0:Edition) (hb0:bdEdition a0):Den Tryz.prog 28 [.agg (ywb a0)] (.bool (zvg a0)):=by
 generalize hR:zvg a0=r;unfold zvg at hR;refine di Tryz.func28 Tryz.ntmps28 Tryz.results28 ?_;intro c hL hc hk;obtain⟨hL0,_⟩:=hL;have hw0:bwEdition a0:=ysc a0 hL0;clear hL0;simp only[pars,Nat.zero_add];refine rS ?_;exact retR
end N28
def D_zvg : DF
 | [x0]=>some (.bool (zvg (rdG ygb x0)),false,[wG ywb ygb x0,bdEdition (rdG ygb x0)])
 | _=>none
theorem y64:OkD Tryz.prog 28 D_zvg:=by unfold D_zvg;exact dk N28.den
def zxe (a0:Edition):Bool:=
 (((zj a0.Number 1 9999) && (zlh a0.Day)) && (zdc a0.Aids))
namespace N36
theorem DD:DOk Tryz.prog (Go.Ab.DD [(75,dP D_zj),(76,dP D_zlh),(77,dP D_zdc)]):=ya yyf.e <| ya yx4.e <| ya y95.e <| yc _
abbrev dn:=cj @D_zj.eq_1 <| cj @D_zlh.eq_1 <| @D_zdc.eq_1
abbrev ol:=@zj.eq_1
theorem gr {p:Prop} (h:p:=by(grind [yut]);first|done|fail):p:=h
theorem den (a0:Edition) (hb0:bdEdition a0):Den Tryz.prog 36 [.ep (ywb a0)] (.bool (zxe a0)):=by
 generalize hR:zxe a0=r;unfold zxe at hR;refine di Tryz.func36 Tryz.ntmps36 Tryz.results36 ?_;intro c hL hc hk;obtain⟨hL0,_⟩:=hL;have hw0:bwEdition a0:=ysc a0 hL0;clear hL0;simp only[pars,Nat.zero_add];refine rS ?_;exact retR
end N36
def D_zxe : DF
 | [x0]=>some (.bool (zxe (rdP ygb x0)),false,[wP ywb ygb x0,bdEdition (rdP ygb x0)])
 | _=>none
theorem yy4:OkD Tryz.prog 36 D_zxe:=by unfold D_zxe;exact dk N36.den
def zde (a0:(List UInt8)):(List UInt8):=
 [99,104,101,99,107,32]++(zh (zu a0 65535))
namespace N31
theorem DD:DOk Tryz.prog (Go.Ab.DD [(59,dP D_zh),(66,dP D_zu)]):=ya ygf.e <| ya y7cb.e <| yc _
abbrev dn:=cj @D_zh.eq_1 <| @D_zu.eq_1
theorem gr {p:Prop} (h:p:=by(grind [y0c]);first|done|fail):p:=h
theorem o0 {p:Prop} (h:p:=by(first|((repeat' with_reducible apply And.intro)<;>(first|omega|assumption|(simp only[List.length_append,List.length_cons,List.length_nil,List.length_singleton];omega)|(refine Nat.le_trans (yfe _ _) ?_;simp only[jl,List.length_cons,List.length_nil];omega))));first|done|fail):p:=h
set_option maxHeartbeats 1000000 in
set_option maxRecDepth 20000 in
theorem den (a0:(List UInt8)) (hb0:a0.length<1099511627776):Den Tryz.prog 31 [.str a0] (.str (zde a0)):=by
 generalize hR:zde a0=r;unfold zde at hR;refine di Tryz.func31 Tryz.ntmps31 Tryz.results31 ?_;intro c hL hc hk;obtain⟨hL0,_⟩:=hL;have hw0:=lwS hL0;clear hL0;simp only[pars,Nat.zero_add];have h9:=y3p a0;have h9:0<=zu a0 65535/\zu a0 65535<=65535:=h9;have l1:=y0c (zu a0 65535);refine rS ?_;exact retR
end N31
def D_zde : DF
 | [x0]=>some (.str (zde (rdS x0)),false,[wS x0,(rdS x0).length<1099511627776])
 | _=>none
theorem y2y:OkD Tryz.prog 31 D_zde:=by unfold D_zde;exact dk N31.den
theorem yh2 {e:Edition} (h:zxe e=true):1<=e.Number/\e.Number<=9999/\0<=e.Day/\e.Day<=99999/\e.Aids.length<=24/\zdc e.Aids=true:=by
 unfold zxe zlh zj at h;simp only[Bool.and_eq_true,decide_eq_true_eq]at h;have:=yut h.2;exact⟨h.1.1.1,h.1.1.2,h.1.2.1,h.1.2.2,this,h.2⟩
theorem yiq {e:Edition} (hb:∀ v∈e.Aids,aidL v):zvg e=zxe e:=by
 unfold zvg zxe;rw[ypc e.Aids hb];rfl
theorem y8bb {e:Edition} (hb:bdEdition e) (h:(!zvg e)=false):1<=e.Number/\e.Number<=9999/\0<=e.Day/\e.Day<=99999/\e.Aids.length<=24/\zdc e.Aids=true:=by
 refine yh2 ?_;rw[<- yiq (fun v hv=>⟨Nat.lt_of_lt_of_le (hb.2 v hv).2.2.1.2.2 (by decide),Nat.lt_of_lt_of_le (hb.2 v hv).2.2.2.1 (by decide)⟩)];simpa using h
theorem yqk (a b c:Int) (h0 : -9223372036854775808<=a) (h1:a<=9223372036854775807) (h2 : -9223372036854775808<=c) (h3:c<=9223372036854775807):(zpc a b c).length<=20000:=by
 have l1:=yfd a h0 h1;have l2:=ywp b;have l3:=yfd c h2 h3;unfold zpc;refine Nat.le_trans (yfe _ _) ?_;simp only[jl,List.length_cons,List.length_nil];omega
theorem y3d (s:List UInt8):(zde s).length<=100000:=by
 have h9:0<=zu s 65535/\zu s 65535<=65535:=y3p s;have l1:=y0c (zu s 65535);unfold zde;simp only[List.length_append,List.length_cons,List.length_nil];omega
theorem ycx (s:List UInt8):0<=zhc s 65535/\zhc s 65535<=65535:=by
 rw[<- yqab];exact y3p s
def zme (a0:(List UInt8)):(Mark×Bool):=
 (bif (a0 == (zae 0))then({ Kind:=0,Colors:=[],Shape:=[],Topmark:=[]:Mark },true)else(bif (((zp a0).length:Int) != 4)then({ Kind:=0,Colors:=[],Shape:=[],Topmark:=[]:Mark },false)else(bif (((zp a0).getD 3 default) == [45])then(bif (((!((zsd ((zp a0).getD 0 default)).2)) || (!(zod ({ Kind:=(zsd ((zp a0).getD 0 default)).1,Colors:=((zp a0).getD 1 default),Shape:=((zp a0).getD 2 default),Topmark:=[]:Mark })))) || ((zwb ({ Kind:=(zsd ((zp a0).getD 0 default)).1,Colors:=((zp a0).getD 1 default),Shape:=((zp a0).getD 2 default),Topmark:=[]:Mark })) != a0))then({ Kind:=0,Colors:=[],Shape:=[],Topmark:=[]:Mark },false)else({ Kind:=(zsd ((zp a0).getD 0 default)).1,Colors:=((zp a0).getD 1 default),Shape:=((zp a0).getD 2 default),Topmark:=[]:Mark },true))else(bif (((!((zsd ((zp a0).getD 0 default)).2)) || (!(zod ({ Kind:=(zsd ((zp a0).getD 0 default)).1,Colors:=((zp a0).getD 1 default),Shape:=((zp a0).getD 2 default),Topmark:=((zp a0).getD 3 default):Mark })))) || ((zwb ({ Kind:=(zsd ((zp a0).getD 0 default)).1,Colors:=((zp a0).getD 1 default),Shape:=((zp a0).getD 2 default),Topmark:=((zp a0).getD 3 default):Mark })) != a0))then({ Kind:=0,Colors:=[],Shape:=[],Topmark:=[]:Mark },false)else({ Kind:=(zsd ((zp a0).getD 0 default)).1,Colors:=((zp a0).getD 1 default),Shape:=((zp a0).getD 2 default),Topmark:=((zp a0).getD 3 default):Mark },true)))))
namespace N72
theorem DD:DOk Tryz.prog (Go.Ab.DD [(116,dP D_zae),(125,dP D_zsd),(64,dP D_zwb),(68,dP D_zp),(97,dP D_zod)]):=ya ydr.e <| ya yv5.e <| ya yvw.e <| ya yu3.e <| ya yzp.e <| yc _
abbrev dn:=cj @D_zae.eq_1 <| cj @D_zsd.eq_1 <| cj @D_zwb.eq_1 <| cj @D_zp.eq_1 <| @D_zod.eq_1
set_option maxHeartbeats 1000000 in
set_option maxRecDepth 20000 in
theorem den (a0:(List UInt8)) (hb0:a0.length<1099511627776) (hp0:a0.length<=1048576):Den Tryz.prog 72 [.str a0] (.tup [.agg (yuf ((zme a0).1)),.bool ((zme a0).2)]):=by
 generalize hR:zme a0=r;unfold zme at hR;refine di Tryz.func72 Tryz.ntmps72 Tryz.results72 ?_;intro c hL hc hk;obtain⟨hL0,_⟩:=hL;have hw0:=lwS hL0;clear hL0;simp only[pars,Nat.zero_add];have hs9:=yoab a0 (by omega);have hs0:=yhf hs9 0;have hs1:=yhf hs9 1;have hs2:=yhf hs9 2;have hs3:=yhf hs9 3;iterate 2 refine rS ?_
 refine yb ?_ ?_<;>intro hb
 ·replace hR:=ct hR
  exact retR
 ·replace hR:=cf hR
  iterate 2 refine rS ?_
  refine yb ?_ ?_<;>intro hb
  ·replace hR:=ct hR
   exact retR
  ·replace hR:=cf hR
   iterate 3 refine rS ?_
   refine yb ?_ ?_<;>intro hb
   ·replace hR:=ct hR
    refine rS ?_;refine AWP.seq ?_;refine AWP.regP mixed G_ok DD hc 10 [0,1,2,3,4,5,6,7,8] (.alt 9 [] [0,1,2,3,4,5,6,7,8] .leaf .stop) (by kernel_rfl) (by kernel_rfl) (by kernel_rfl) (fun K hK => ?_);simp only[y1k,runN,runP,y3c,nthO,ea,absV,yoc,cput,gv,sv,dn,reduceCtorEq,reduceIte,Nat.reduceBEq,Nat.reduceAdd,Nat.reduceEqDiff,Nat.reduceLT,Nat.reduceLeDiff,Nat.reduceMul,Nat.reduceSub,BEq.rfl,beq_self_eq_true,Int.reduceToNat];repeat' apply And.intro
    all_goals first|refine hK _ ?_|exact ot
    all_goals clear hK K
    refine rS ?_;refine yb ?_ ?_<;>intro hb
    ·replace hR:=ct hR
     exact retR
    ·replace hR:=cf hR
     exact retR
   ·replace hR:=cf hR
    refine AWP.skip ?_;refine AWP.seq ?_;refine AWP.regP mixed G_ok DD hc 10 [0,1,2,3,4,5,6,7,8] (.alt 9 [] [0,1,2,3,4,5,6,7,8] .leaf .stop) (by kernel_rfl) (by kernel_rfl) (by kernel_rfl) (fun K hK => ?_);simp only[y1k,runN,runP,y3c,nthO,ea,absV,yoc,cput,gv,sv,dn,reduceCtorEq,reduceIte,Nat.reduceBEq,Nat.reduceAdd,Nat.reduceEqDiff,Nat.reduceLT,Nat.reduceLeDiff,Nat.reduceMul,Nat.reduceSub,BEq.rfl,beq_self_eq_true,Int.reduceToNat];repeat' apply And.intro
    all_goals first|refine hK _ ?_|exact ot
    all_goals clear hK K
    refine rS ?_;refine yb ?_ ?_<;>intro hb
    ·replace hR:=ct hR
     exact retR
    ·replace hR:=cf hR
     exact retR
end N72
def D_zme : DF
 | [x0]=>some (.tup [.agg (yuf ((zme (rdS x0)).1)),.bool ((zme (rdS x0)).2)],false,[wS x0,(rdS x0).length<1099511627776,(rdS x0).length<=1048576])
 | _=>none
theorem y34:OkD Tryz.prog 72 D_zme:=by unfold D_zme;exact dk N72.den
abbrev zMark:Mark:={ Kind:=0,Colors:=[],Shape:=[],Topmark:=[]}
def allMarks:List Mark:=zMark::([1,2,3,4,5,6,7,8,9]:List Int).flatMap fun k=>(zeb k).flatMap fun s=>[{ Kind:=k,Colors:=zbe k,Shape:=s,Topmark:=[]},{ Kind:=k,Colors:=zbe k,Shape:=s,Topmark:=zke k }]
theorem yc9 {m:Mark} (h:zub m=true):m∈allMarks:=by
 unfold allMarks;rcases y4n (m:=m) h with⟨h1,h2,h3,h4⟩|⟨h1,h2,h3,h4⟩
 ·cases m
  simp only at h1 h2 h3 h4;subst h1 h2 h3 h4;exact List.mem_cons_self
 ·refine List.mem_cons_of_mem _ (List.mem_flatMap.2 ⟨m.Kind,?_,List.mem_flatMap.2 ⟨m.Shape,h4,?_⟩⟩)
  ·rcases yth h1 with e|e|e|e|e|e|e|e|e<;>rw[e]<;>decide
  ·cases m
   simp only at h2 h3 ⊢;subst h2;rcases h3 with e|e
   ·rw[e];exact List.mem_cons_self
   ·rw[e];exact List.mem_cons_of_mem _ List.mem_cons_self
theorem yi0 (n:Int):∀ b∈Lib.itoa n,b=45\/(48<=b.toNat/\b.toNat<=57):=by
 intro b hb;by_cases h:n<0
 ·rw[ybd h]at hb
  rcases List.mem_cons.1 hb with hb|hb
  ·exact .inl hb
  ·exact .inr ((yxb n.natAbs).1 b hb)
 ·rw[y3f h]at hb
  exact .inr ((yxb n.natAbs).1 b hb)
theorem yky (n:Int) (c:UInt8) (h1:c≠45) (h2:c.toNat<48\/57<c.toNat):c∉Lib.itoa n:=fun h=>by
 rcases yi0 n c h with h|h
 ·exact h1 h
 ·omega
theorem yi2 (n:Int):Lib.itoa n≠[]:=(ymg n).2
theorem yul (a:List UInt8) (c:UInt8):zb a [c]=yq c a:=rfl
theorem cutI (a:List UInt8) (c:UInt8):zd a [c]=Lib.cut a [c]:=rfl
def y8i (a0:(List UInt8)) (i1:Nat) (s1:List Sector):Except (((List Sector)×Bool)) (List Sector):=
 (bif ((((zd ((zb a0 [44]).getD i1 default) [45]).2.1) == []) || (!(zzb (s1.length:Int) 12)))then .error ([],false)else(bif ((!((zl ((zd ((zb a0 [44]).getD i1 default) [45]).1)).2)) || (!((zl (((zd ((zb a0 [44]).getD i1 default) [45]).2.1).take ((IntKind.wrap .i64 ((((zd ((zb a0 [44]).getD i1 default) [45]).2.1).length:Int)-1)).toNat))).2)))then .error ([],false)else .ok (s1++[{ From:=(zl ((zd ((zb a0 [44]).getD i1 default) [45]).1)).1,To:=(zl (((zd ((zb a0 [44]).getD i1 default) [45]).2.1).take ((IntKind.wrap .i64 ((((zd ((zb a0 [44]).getD i1 default) [45]).2.1).length:Int)-1)).toNat))).1,Color:=(((zd ((zb a0 [44]).getD i1 default) [45]).2.1).take (((zd ((zb a0 [44]).getD i1 default) [45]).2.1).length)).drop ((IntKind.wrap .i64 ((((zd ((zb a0 [44]).getD i1 default) [45]).2.1).length:Int)-1)).toNat):Sector }])))
def zic (a0:(List UInt8)):((List Sector)×Bool):=
 (bif (a0 == [45])then([],true)else(match ye (y8i a0) (((zb a0 [44]).length)-0) 0 ([]:List Sector)with|.error e=>e|.ok s1=>(bif ((!(zjb s1)) || ((zed s1) != a0))then([],false)else(s1,true))))
namespace N74
theorem DD:DOk Tryz.prog (Go.Ab.DD [(112,dP D_zjb),(124,dP D_zd),(32,dP D_zb),(45,dP D_zzb),(65,dP D_zed),(69,dP D_zl)]):=ya yfq.e <| ya yrl.e <| ya yxj.e <| ya y4i.e <| ya ydx.e <| ya yrj.e <| yc _
abbrev dn:=cj @D_zjb.eq_1 <| cj @D_zd.eq_1 <| cj @D_zb.eq_1 <| cj @D_zzb.eq_1 <| cj @D_zed.eq_1 <| @D_zl.eq_1
theorem gr {p:Prop} (h:p:=by(grind [yrg]);first|done|fail):p:=h
theorem o0 {p:Prop} (h:p:=by(first|(obtain⟨q1,q2,q3⟩:=hlo i1 _ (by assumption);have h1:=e1 i1;have h2:=hct i1;(repeat' with_reducible apply And.intro)<;>first|with_reducible assumption|exact q2|(rw[q1];omega)|omega)|(have h1:=e1 i1;have h2:=hct i1;(repeat' with_reducible apply And.intro)<;>first|with_reducible assumption|omega)|(obtain⟨w1,w2,w3⟩:=hW1;(repeat' with_reducible apply And.intro)<;>first|with_reducible assumption|omega)|((repeat' with_reducible apply And.intro)<;>omega));first|done|fail):p:=h
theorem o2 {p:Prop} (h:p:=by(first|((repeat' with_reducible apply And.intro)<;>first|(simp only[List.length_append,List.length_singleton];(first|done|fail))|(rw[IntKind.wrap_i64];omega)|(intro j hj;by_cases hji:j<s1.length;(focus(simp only[yik hji,yst hji,cond_true];first|(first|done|fail)|with_reducible rfl));(have e0:j-s1.length=0:=by omega);(simp only[ypk hji hj,ygu hji,cond_false,e0,elt,yz,yeb];first|(first|done|fail)|with_reducible rfl))|decide));first|done|fail):p:=h
set_option maxHeartbeats 1000000 in
set_option maxRecDepth 20000 in
theorem den (a0:(List UInt8)) (hb0:a0.length<1099511627776) (hp0:a0.length<=1048576):Den Tryz.prog 74 [.str a0] (.tup [ownL 97 3 yl ((zic a0).1),.bool ((zic a0).2)]):=by
 generalize hR:zic a0=r;unfold zic at hR;refine di Tryz.func74 Tryz.ntmps74 Tryz.results74 ?_;intro c hL hc hk;obtain⟨hL0,_⟩:=hL;have hw0:=lwS hL0;clear hL0;simp only[pars,Nat.zero_add];have e1:=fun i=>ycr a0 44 i
 have e2:=y5x a0 44;have hct:=fun i:Nat=>yrg ((zb a0 [44]).getD i default) [45]
 have hlo:∀ (i:Nat) (b:Bool),((((zd ((zb a0 [44]).getD i default) [45]).2.1) == []) || b)=false->_:=fun i b h=>y7ab (y:=(zd ((zb a0 [44]).getD i default) [45]).2.1) (by intro e;rw[e]at h;cases h) (by have h1:=hct i;have h2:=e1 i;omega)
 iterate 2 refine rS ?_
 refine yb ?_ ?_<;>intro hb
 ·replace hR:=ct hR
  exact retR
 ·replace hR:=cf hR
  iterate 2 refine rS ?_
  refine AWP.block ?_;generalize hz1:ye (y8i a0) (((zb a0 [44]).length)-0) 0 ([]:List Sector)=z1 at hR;refine AWP.range (y8i a0) (fun i1 s1=>⟨[(0,.str a0),(4,.ref 0 3 0 s1.length),(19,.ref 1 1 0 ((zb a0 [44]).length)),(20,.int .i64 ((zb a0 [44]).length:Int)),(21,.int .i64 (i1:Int))],[.arr 97 3 s1.length (fun j=>yl (s1.getD j default)),.arr 9 1 (zb a0 [44]).length (fun j=>eS ((zb a0 [44]).getD j default))]⟩) (fun i1 s1=>s1.length<=([]:List Sector).length+1 * i1/\s1.length<=i1/\∀ v∈s1,bdSector v) (((zb a0 [44]).length)) 0 ([]:List Sector) [0,1] hz1 ot (by(simp)) sm ?_;clear hz1;intro i1 s1 hi1 hW1 hz1;have hV1:=hW1;obtain⟨hV1_0,hV1_1,hV1_2⟩:=hV1;refine rS ?_;refine AWP.seq ?_;refine yb ?_ ?_<;>intro hb
  ·have hlt1:i1<((zb a0 [44]).length):=ot
   rw[yi hlt1]at hz1;simp only[y8i]at hz1;iterate 3 refine rS ?_
   refine yb ?_ ?_<;>intro hb
   ·simp only[hb,cond_true]at hz1
    refine rS ?_;refine AWP.ret ?_;subst hz1;dsimp only at hR;subst hR;exact es
   ·simp only[hb,cond_false]at hz1
    iterate 4 refine rS ?_
    refine yb ?_ ?_<;>intro hb
    ·simp only[hb,cond_true]at hz1
     refine rS ?_;refine AWP.ret ?_;subst hz1;dsimp only at hR;subst hR;exact es
    ·simp only[hb,cond_false]at hz1
     iterate 2 refine rS ?_
     exact⟨_,[3,1],hlt1,by(have h1:=e1 i1;have c1:=hct i1;obtain⟨w0,w1,w2⟩:=hW1;refine⟨by simp only[List.length_append,List.length_cons,List.length_nil,List.length_singleton];omega,by simp only[List.length_append,List.length_cons,List.length_nil,List.length_singleton];omega,fun v hv=>(List.mem_append.1 hv).elim (fun h=>w2 v h) (fun h=>by rw[List.mem_singleton]at h;subst h;show List.length _<1099511627776;simp only[List.length_drop,List.length_take];omega)⟩),hz1,sm⟩
  ·obtain rfl:i1=((zb a0 [44]).length):=ot
   rw[ybb (Nat.le_refl _)]at hz1;subst hz1;dsimp only at hR;refine AWP.exit ?_;refine yf ?_;refine rS ?_;refine yb ?_ ?_<;>intro hb
   ·replace hR:=ct hR
    exact retR
   ·replace hR:=cf hR
    exact retR
end N74
def D_zic : DF
 | [x0]=>some (.tup [ownL 97 3 yl ((zic (rdS x0)).1),.bool ((zic (rdS x0)).2)],false,[wS x0,(rdS x0).length<1099511627776,(rdS x0).length<=1048576])
 | _=>none
theorem yp4:OkD Tryz.prog 74 D_zic:=by unfold D_zic;exact dk N74.den
theorem yaeb {l:List Sector} (h:zjb l=true):l.length<=12:=by
 unfold zjb at h
 have he:=ypg (b:=yii l) (e0:=false) (fun j s e h=>by
  unfold yii at h;rw[Bool.cond_eq_ite]at h;split at h
  ·simpa using h.symm
  ·have h2:=ypg (b:=yfk l j s) (e0:=false) (fun k s2 e2 h2=>by
    unfold yfk at h2;rw[Bool.cond_eq_ite]at h2;split at h2
    ·simpa using h2.symm
    ·cases h2) (l.length-0) 0 ()
   generalize ye (yfk l j s) (l.length-0) 0 ()=z at h h2
   cases z with
   | error e3=>
    have h:e3=e:=by simpa using h
    rw[<- h];exact h2 e3 rfl
   | ok _=>cases h) (l.length-0) 0 0
 generalize ye (yii l) (l.length-0) 0 0=z at h he
 cases z with
 | error e=>have:=he e rfl;subst this;cases h
 | ok s=>simp[zzb]at h;omega
theorem yzj (c : UInt8) : ∀ xs : List (List UInt8), Lib.join xs [c] = joinC c xs
 | []=>rfl
 | [x]=>by simp[Lib.join_cons,Lib.joinTail,joinC]
 | x::y::r=>by
  have ih:=yzj c (y::r);rw[joinC, <- ih];simp[Lib.join_cons,Lib.joinTail]
theorem yrab {s:Sector} (h:zkc s=true) (c:UInt8) (h1:c≠45) (h2:c.toNat<48):c∉scT s:=by
 unfold zkc at h;rw[Bool.and_eq_true]at h;unfold scT;intro hm;rw[List.mem_append]at hm;rcases hm with hm|hm
 ·exact yky _ c h1 (.inl h2) hm
 rcases List.mem_cons.1 hm with hm|hm
 ·exact h1 hm
 rw[List.mem_append]at hm;rcases hm with hm|hm
 ·exact yky _ c h1 (.inl h2) hm
 ·rcases y9u h.2 with e|e|e|e<;>rw[e]at hm<;>rw[List.mem_singleton]at hm<;>subst hm<;>revert h2<;>decide
theorem ym1 {s:Sector} (h:zkc s=true):0<=s.From/\s.From<=359/\0<=s.To/\s.To<=359/\s.Color.length=1/\(45:UInt8)∉s.Color:=by
 have hb:=ytq h;unfold zkc at h;rw[Bool.and_eq_true]at h;refine⟨hb.1.1,hb.1.2,hb.2.1,hb.2.2,?_,?_⟩<;>rcases y9u h.2 with e|e|e|e<;>rw[e]<;>decide
theorem ycs {l:List Sector} (h:zv l=true) (hn:l≠[]):yq 44 (scsT l)=l.map scT:=by
 have h1:=(y3h h).2
 have hmem:∀ s∈l,(44:UInt8)∉scT s:=fun s hs=>by
  obtain⟨i,hi,e⟩:=List.getElem_of_mem hs;have:=h1 i hi;rw[List.getD_eq_getElem?_getD,List.getElem?_eq_getElem hi,Option.getD_some,e]at this;exact yrab this 44 (by decide) (by decide)
 unfold scsT;rw[if_neg hn]
 cases l with
 | nil=>exact absurd rfl hn
 | cons x r=>
  rw[List.map_cons,Lib.join_cons,ykj 44 _ _ (hmem x (by simp)) (fun y hy=>by
   obtain⟨s,hs,rfl⟩:=List.mem_map.1 hy
   exact hmem s (by simp[hs]))]
theorem ywdb {l:List Sector} (hn:l≠[]):(scsT l == [45])=false:=by
 rw[beq_eq_false_iff_ne];unfold scsT;rw[if_neg hn]
 cases l with
 | nil=>exact absurd rfl hn
 | cons x r=>
  intro e;rw[List.map_cons,Lib.join_cons]at e;have:=congrArg List.length e;unfold scT at this;have h1:=List.length_pos_iff.2 (yi2 x.From);have h2:=List.length_pos_iff.2 (yi2 x.To);simp only[List.length_append,List.length_cons,List.length_nil]at this;omega
theorem yrbb (l:List Sector) (j:Nat) (hj:j<l.length):(l.map scT).getD j default=scT (l.getD j default):=y45 scT l j hj
theorem y02 (x y:List UInt8) (h:y.length=1) (hl:x.length<=1048576):(x++y).take ((IntKind.wrap .i64 (((x++y).length:Int)-1)).toNat)=x/\(((x++y).take (x++y).length).drop ((IntKind.wrap .i64 (((x++y).length:Int)-1)).toNat))=y:=by
 have hw:(IntKind.wrap .i64 (((x++y).length:Int)-1)).toNat=x.length:=by
  rw[List.length_append,h,IntKind.wrap_i64];omega
 rw[hw];exact⟨List.take_left' rfl,by rw[List.take_length,List.drop_left' rfl]⟩
def zee (a0:(List UInt8)):(Character×Bool):=
 (bif (zd ((zd a0 [32]).2.1) [32]).2.2 then(bif (((!((zo ((zd a0 [32]).1)).2 && (zgf (zne ((zd ((zd a0 [32]).2.1) [32]).2.1) [115])).2)) || (!(zfb ({ Kind:=((zo ((zd a0 [32]).1)).1).Kind,Group:=((zo ((zd a0 [32]).1)).1).Group,Letter:=((zo ((zd a0 [32]).1)).1).Letter,Colors:=(zd ((zd a0 [32]).2.1) [32]).1,Period:=(zgf (zne ((zd ((zd a0 [32]).2.1) [32]).2.1) [115])).1:Character })))) || ((zqd ({ Kind:=((zo ((zd a0 [32]).1)).1).Kind,Group:=((zo ((zd a0 [32]).1)).1).Group,Letter:=((zo ((zd a0 [32]).1)).1).Letter,Colors:=(zd ((zd a0 [32]).2.1) [32]).1,Period:=(zgf (zne ((zd ((zd a0 [32]).2.1) [32]).2.1) [115])).1:Character })) != a0))then({ Kind:=0,Group:=[],Letter:=[],Colors:=[],Period:=0:Character },false)else({ Kind:=((zo ((zd a0 [32]).1)).1).Kind,Group:=((zo ((zd a0 [32]).1)).1).Group,Letter:=((zo ((zd a0 [32]).1)).1).Letter,Colors:=(zd ((zd a0 [32]).2.1) [32]).1,Period:=(zgf (zne ((zd ((zd a0 [32]).2.1) [32]).2.1) [115])).1:Character },true))else(bif (((!((zo ((zd a0 [32]).1)).2)) || (!(zfb ({ Kind:=((zo ((zd a0 [32]).1)).1).Kind,Group:=((zo ((zd a0 [32]).1)).1).Group,Letter:=((zo ((zd a0 [32]).1)).1).Letter,Colors:=(zd ((zd a0 [32]).2.1) [32]).1,Period:=((zo ((zd a0 [32]).1)).1).Period:Character })))) || ((zqd ({ Kind:=((zo ((zd a0 [32]).1)).1).Kind,Group:=((zo ((zd a0 [32]).1)).1).Group,Letter:=((zo ((zd a0 [32]).1)).1).Letter,Colors:=(zd ((zd a0 [32]).2.1) [32]).1,Period:=((zo ((zd a0 [32]).1)).1).Period:Character })) != a0))then({ Kind:=0,Group:=[],Letter:=[],Colors:=[],Period:=0:Character },false)else({ Kind:=((zo ((zd a0 [32]).1)).1).Kind,Group:=((zo ((zd a0 [32]).1)).1).Group,Letter:=((zo ((zd a0 [32]).1)).1).Letter,Colors:=(zd ((zd a0 [32]).2.1) [32]).1,Period:=((zo ((zd a0 [32]).1)).1).Period:Character },true)))
namespace N73
theorem DD:DOk Tryz.prog (Go.Ab.DD [(110,dP D_zfb),(124,dP D_zd),(126,dP D_zo),(127,dP D_zgf),(128,dP D_zne),(62,dP D_zqd)]):=ya yrq.e <| ya yrl.e <| ya yucb.e <| ya yw5.e <| ya yd7.e <| ya y3w.e <| yc _
abbrev dn:=cj @D_zfb.eq_1 <| cj @D_zd.eq_1 <| cj @D_zo.eq_1 <| cj @D_zgf.eq_1 <| cj @D_zne.eq_1 <| @D_zqd.eq_1
theorem gr {p:Prop} (h:p:=by(grind [yrg,yd3]);first|done|fail):p:=h
theorem o0 {p:Prop} (h:p:=by(first|(and_intros<;>first|omega|(intros;omega)|(intros;and_intros<;>first|omega|(show List.length _<_;simp only;omega))|(refine⟨?_,?_,?_⟩<;>(simp only;omega))));first|done|fail):p:=h
set_option maxHeartbeats 1000000 in
set_option maxRecDepth 20000 in
theorem den (a0:(List UInt8)) (hb0:a0.length<1099511627776) (hp0:a0.length<=1048576):Den Tryz.prog 73 [.str a0] (.tup [.agg (y9b ((zee a0).1)),.bool ((zee a0).2)]):=by
 generalize hR:zee a0=r;unfold zee at hR;refine di Tryz.func73 Tryz.ntmps73 Tryz.results73 ?_;intro c hL hc hk;obtain⟨hL0,_⟩:=hL;have hw0:=lwS hL0;clear hL0;simp only[pars,Nat.zero_add];have c1:=yrg a0 [32];have c2:=yrg (zd a0 [32]).2.1 [32];have c3:=yd3 (zd (zd a0 [32]).2.1 [32]).2.1 [115];have hrh:=y2v (zd a0 [32]).1 (by omega);obtain⟨hr1,hr2,hr3⟩:=hrh;iterate 6 refine rS ?_
 refine yb ?_ ?_<;>intro hb
 ·replace hR:=ct hR
  iterate 4 refine rS ?_
  refine yb ?_ ?_<;>intro hb
  ·replace hR:=ct hR
   exact retR
  ·replace hR:=cf hR
   exact retR
 ·replace hR:=cf hR
  refine rS ?_;refine yb ?_ ?_<;>intro hb
  ·replace hR:=ct hR
   exact retR
  ·replace hR:=cf hR
   exact retR
end N73
def D_zee : DF
 | [x0]=>some (.tup [.agg (y9b ((zee (rdS x0)).1)),.bool ((zee (rdS x0)).2)],false,[wS x0,(rdS x0).length<1099511627776,(rdS x0).length<=1048576])
 | _=>none
theorem y57:OkD Tryz.prog 73 D_zee:=by unfold D_zee;exact dk N73.den
theorem ydfb (a b:List UInt8):zne a b=Lib.trimSuffix a b:=rfl
theorem yj2 (s:List UInt8) (h:zmb s=true):(32:UInt8)∉s:=by
 intro hm;obtain⟨i,hi,he⟩:=List.getElem_of_mem hm;unfold zmb at h
 cases hl:ye (y0f s) (s.length-0) 0 ()with
 | error e=>
  rw[hl]at h;obtain⟨j,t,_,_,h3⟩:=ymd hl;unfold y0f at h3;simp only[Bool.cond_eq_ite]at h3;split at h3
  ·cases h3;simp at h
  ·cases h3
 | ok u=>
  have hk:=ybh (fun k (_:Unit)=>∀ j,j<k->zyf ((s.getD j 0).toNat:Int)≠0) hl (by intro j hj;omega) (fun j u v _ _ hI hv=>by
   unfold y0f at hv;simp only[Bool.cond_eq_ite]at hv;split at hv
   ·cases hv
   ·rename_i hn
    simp only[Bool.or_eq_true,beq_iff_eq,not_or]at hn;intro q hq;by_cases hqj:q=j
    ·subst hqj;exact hn.1
    ·exact hI q (by omega))
  have:=hk i (by omega);rw[List.getD_eq_getElem?_getD,List.getElem?_eq_getElem hi,Option.getD_some,he]at this;exact this rfl
theorem yzab (c:Character) (h:znb c=true):(32:UInt8)∉ypj c:=by
 have hk:=ysf c h;obtain⟨g1,g2⟩:=yff c h;have h32:=(ypeb c.Kind hk).2;unfold ypj;by_cases h8:c.Kind=8
 ·rw[if_pos h8]
  obtain⟨_,f2,f3,f4⟩:=y7r c h h8;obtain⟨x,hx⟩:=List.length_eq_one_iff.1 f2;rw[hx]at f3 f4 ⊢;simp only[List.getD_cons_zero]at f3 f4;intro hm;simp only[List.mem_append,List.mem_cons,List.not_mem_nil,or_false]at hm;rcases hm with hm|hm|hm|hm
  ·exact absurd hm (by decide)
  ·exact absurd hm (by decide)
  ·subst hm;exact absurd f3 (by decide)
  ·exact absurd hm (by decide)
 ·rw[if_neg h8]
  intro hm;rcases List.mem_append.1 hm with hm|hm
  ·exact h32 hm
  ·rcases List.mem_append.1 hm with hm|hm
   ·unfold grpT at hm
    split at hm
    ·simp at hm
    ·rcases List.mem_cons.1 hm with hm|hm
     ·exact absurd hm (by decide)
     ·rcases List.mem_append.1 hm with hm|hm
      ·refine y91 32 (by decide) (c.Group.map Lib.itoa) (fun y hy => ?_) hm
       obtain⟨z,hz,rfl⟩:=List.mem_map.1 hy;exact yxd (by have:=g2 z hz;omega) 32 (by decide)
      ·rw[List.mem_singleton]at hm;exact absurd hm (by decide)
   ·split at hm
    ·simp at hm
    ·exact absurd hm (by decide)
theorem ydk (c:Character) (h:zfb c=true) (hl:c.Colors.length<9223372036854775808):zmb c.Colors=true:=by
 unfold zfb at h;rw[yus _ hl]at h
 cases hc:zmb c.Colors with
 | true=>rfl
 | false=>rw[hc]at h;simp at h
theorem y41 (c:Character) (h:zfb c=true) (hl:c.Colors.length<9223372036854775808):zee (chrT c)=(c,true):=by
 have hf:=ywc c h;have hr:=ye3 c hf;have hp:=yae c h;have hp2:=(ywd c h).2.2;have hcol:=yj2 _ (ydk c h hl)
 have c1:zd (chrT c) [32]=(ypj c,c.Colors++perT c.Period,true):=by
  rw[y7v];unfold chrT;rw[y7f _ _ 32 (yzab c hf)]
 have htext:=yei c h;unfold zee;rw[c1];simp only;by_cases h0:c.Period=0
 ·have c2:zd (c.Colors++perT c.Period) [32]=(c.Colors,[],false):=by
   rw[h0,show perT 0=[]from rfl,List.append_nil,y7v,yvq _ 32 hcol]
  rw[c2,hr];simp only[cond_false];have ec:({ Kind:=c.Kind,Group:=c.Group,Letter:=c.Letter,Colors:=c.Colors,Period:=0:Character })=c:=by rw[<- h0]
  simp only[ec,h,htext];simp
 ·have e2:perT c.Period=32::(secT c.Period++[115]):=by unfold perT;rw[if_neg h0]
  have c2:zd (c.Colors++perT c.Period) [32]=(c.Colors,secT c.Period++[115],true):=by
   rw[e2,y7v,y7f _ _ 32 hcol]
  have c3:zne (secT c.Period++[115]) [115]=secT c.Period:=by rw[ydfb,yzc]
  rw[c2,hr];simp only[cond_true];rw[c3,y96 _ (by omega) hp2];have ec:({ Kind:=c.Kind,Group:=c.Group,Letter:=c.Letter,Colors:=c.Colors,Period:=c.Period:Character })=c:=rfl;simp only[ec,h,htext];simp
theorem ymr (a:List UInt8):zee a=({ Kind:=0,Group:=[],Letter:=[],Colors:=[],Period:=0:Character },false)\/∃ c,zfb c=true/\zqd c=a/\zee a=(c,true):=by
 unfold zee
 cases(zd ((zd a [32]).2.1) [32]).2.2 with
 | true=>
  simp only[cond_true];generalize hc:({ Kind:=((zo ((zd a [32]).1)).1).Kind,Group:=((zo ((zd a [32]).1)).1).Group,Letter:=((zo ((zd a [32]).1)).1).Letter,Colors:=(zd ((zd a [32]).2.1) [32]).1,Period:=(zgf (zne ((zd ((zd a [32]).2.1) [32]).2.1) [115])).1:Character })=c
  cases hv:zfb c with
  | false=>left;simp
  | true=>
   by_cases ht:zqd c=a
   ·cases hq:((zo ((zd a [32]).1)).2 && (zgf (zne ((zd ((zd a [32]).2.1) [32]).2.1) [115])).2)with
    | true=>right;exact⟨c,hv,ht,by simp[ht]⟩
    | false=>left;simp
   ·left
    have:(zqd c != a)=true:=by simpa using ht
    rw[this];simp
 | false=>
  simp only[cond_false];generalize hc:({ Kind:=((zo ((zd a [32]).1)).1).Kind,Group:=((zo ((zd a [32]).1)).1).Group,Letter:=((zo ((zd a [32]).1)).1).Letter,Colors:=(zd ((zd a [32]).2.1) [32]).1,Period:=((zo ((zd a [32]).1)).1).Period:Character })=c
  cases hv:zfb c with
  | false=>left;simp
  | true=>
   by_cases ht:zqd c=a
   ·cases hq:(zo ((zd a [32]).1)).2 with
    | true=>right;exact⟨c,hv,ht,by simp[ht]⟩
    | false=>left;simp
   ·left
    have:(zqd c != a)=true:=by simpa using ht
    rw[this];simp
theorem yifb {m:Mark} (h:zub m=true):bdMark m:=by
 have h:=ywg (m:=m) h;exact⟨Nat.lt_of_le_of_lt h.2.2.1 (by decide),Nat.lt_of_le_of_lt h.2.2.2.1 (by decide),Nat.lt_of_le_of_lt h.2.2.2.2 (by decide)⟩
theorem ynfb (w:List UInt8) (hw:w.length<=1048576):bdMark (zme w).1:=by
 have z0:bdMark zMark:=by decide
 have key:∀ m:Mark,∀ b:Bool,bdMark (bif ((b || (!(zod m))) || ((zwb m) != w))then(zMark,false)else(m,true)).1:=fun m b=>by
  cases hc:((b || (!(zod m))) || ((zwb m) != w))with
  | true=>exact z0
  | false=>
   simp only[Bool.or_eq_false_iff,Bool.not_eq_false']at hc;show bdMark m;exact yifb (by rw[<- show zid m=zub m from rfl, <- yre];exact hc.1.2)
 unfold zme
 cases h0:(w == zae 0)with
 | true=>exact z0
 | false=>
  rw[cond_false]
  cases h1:(((zp w).length:Int) != 4)with
  | true=>exact z0
  | false=>
   rw[cond_false]
   cases h2:(((zp w).getD 3 default) == [45])with
   | true=>rw[cond_true];exact key _ _
   | false=>rw[cond_false];exact key _ _
theorem yleb {l:List Sector} (h:zv l=true):l.length<1099511627776/\∀ v∈l,bdSector v:=by
 have hr:=y7d h;refine⟨Nat.lt_of_le_of_lt hr.1 (by decide),fun v hv => ?_⟩;obtain⟨i,hi,e⟩:=List.getElem_of_mem hv;have h9:=(hr.2 i).2.2.2.2;rw[List.getD_eq_getElem?_getD,List.getElem?_eq_getElem hi,Option.getD_some,e]at h9;exact Nat.lt_of_le_of_lt h9 (by decide)
theorem yefb (w:List UInt8) (hw:w.length<=1048576):(zic w).1.length<1099511627776/\∀ v∈(zic w).1,bdSector v:=by
 unfold zic
 cases h0:(w == [45])with
 | true=>rw[cond_true];exact⟨by decide,by simp⟩
 | false=>
  rw[cond_false]
  have he:=ypg (b:=y8i w) (e0:=([],false)) (fun j s e h=>by
   unfold y8i at h;simp only[Bool.cond_eq_ite]at h;split at h
   ·simpa using h.symm
   ·split at h
    ·simpa using h.symm
    ·cases h) ((zb w [44]).length-0) 0 []
  generalize ye (y8i w) ((zb w [44]).length-0) 0 []=z at he
  cases z with
  | error e=>rw[he e rfl];exact⟨by show(0:Nat)<_;decide,by intro v hv;cases hv⟩
  | ok s=>
   simp only
   cases hc:((!(zjb s)) || ((zed s) != w))with
   | true=>rw[cond_true];exact⟨by decide,by simp⟩
   | false=>
    rw[cond_false];simp only[Bool.or_eq_false_iff,Bool.not_eq_false']at hc;have h12:=yaeb hc.1;exact yleb (by rw[<- y0b s (by omega)];exact hc.1)
theorem ytdb {c:Character} (h:zfb c=true):bdCharacter c:=by
 have hf:=ywc c h;have hg:=(ywd c h).1;have hc:=y4o h
 have hl:c.Letter.length<=1:=by
  by_cases h8:c.Kind=8
  ·rw[(y7r c hf h8).2.1];exact Nat.le_refl _
  ·by_cases hL:c.Letter=[]
   ·rw[hL];simp
   ·rw[(ypab c hf h8 hL).1];simp
 exact⟨Nat.lt_of_le_of_lt hg (by decide),Nat.lt_of_le_of_lt hl (by decide),Nat.lt_of_le_of_lt hc (by decide)⟩
theorem ykfb (w:List UInt8):bdCharacter (zee w).1:=by
 rcases ymr w with h|⟨c,h1,_,h3⟩
 ·rw[h];decide
 ·rw[h3];exact ytdb h1
theorem yf1 {b:UInt8} (hb:b=47\/b=10) (s:List UInt8) (h:zmb s=true):b∉s:=by
 intro hm;obtain⟨i,hi,he⟩:=List.getElem_of_mem hm;unfold zmb at h
 cases hl:ye (y0f s) (s.length-0) 0 ()with
 | error e=>
  rw[hl]at h;obtain⟨j,t,_,_,h3⟩:=ymd hl;unfold y0f at h3;simp only[Bool.cond_eq_ite]at h3;split at h3
  ·cases h3;simp at h
  ·cases h3
 | ok u=>
  have hk:=ybh (fun k (_:Unit)=>∀ j,j<k->zyf ((s.getD j 0).toNat:Int)≠0) hl (by intro j hj;omega) (fun j u v _ _ hI hv=>by
   unfold y0f at hv;simp only[Bool.cond_eq_ite]at hv;split at hv
   ·cases hv
   ·rename_i hn
    simp only[Bool.or_eq_true,beq_iff_eq,not_or]at hn;intro q hq;by_cases hqj:q=j
    ·subst hqj;exact hn.1
    ·exact hI q (by omega))
  have:=hk i (by omega);rw[List.getD_eq_getElem?_getD,List.getElem?_eq_getElem hi,Option.getD_some,he]at this;exact this (by rcases hb with rfl|rfl<;>rfl)
theorem ycdb {b:UInt8} (hb:b=47\/b=10) (c:Character) (h:znb c=true):b∉ypj c:=by
 have hk:=ysf c h;obtain⟨g1,g2⟩:=yff c h
 have h47:b∉kt c.Kind:=by
  rcases(show c.Kind=1\/c.Kind=2\/c.Kind=3\/c.Kind=4\/c.Kind=5\/c.Kind=6\/c.Kind=7\/c.Kind=8 by omega)with e|e|e|e|e|e|e|e<;>rw[e]<;>rcases hb with rfl|rfl<;>decide
 unfold ypj;by_cases h8:c.Kind=8
 ·rw[if_pos h8]
  obtain⟨_,f2,f3,f4⟩:=y7r c h h8;obtain⟨x,hx⟩:=List.length_eq_one_iff.1 f2;rw[hx]at f3 f4 ⊢;simp only[List.getD_cons_zero]at f3 f4;intro hm;simp only[List.mem_append,List.mem_cons,List.not_mem_nil,or_false]at hm;rcases hm with hm|hm|hm|hm
  ·exact absurd hm (by rcases hb with rfl|rfl<;>decide)
  ·exact absurd hm (by rcases hb with rfl|rfl<;>decide)
  ·subst hm;exact absurd f3 (by rcases hb with rfl|rfl<;>decide)
  ·exact absurd hm (by rcases hb with rfl|rfl<;>decide)
 ·rw[if_neg h8]
  intro hm;rcases List.mem_append.1 hm with hm|hm
  ·exact h47 hm
  ·rcases List.mem_append.1 hm with hm|hm
   ·unfold grpT at hm
    split at hm
    ·simp at hm
    ·rcases List.mem_cons.1 hm with hm|hm
     ·exact absurd hm (by rcases hb with rfl|rfl<;>decide)
     ·rcases List.mem_append.1 hm with hm|hm
      ·refine y91 b (by rcases hb with rfl|rfl<;>decide) (c.Group.map Lib.itoa) (fun y hy => ?_) hm
       obtain⟨z,hz,rfl⟩:=List.mem_map.1 hy;exact yxd (by have:=g2 z hz;omega) b (by rcases hb with rfl|rfl<;>decide)
      ·rw[List.mem_singleton]at hm;exact absurd hm (by rcases hb with rfl|rfl<;>decide)
   ·split at hm
    ·simp at hm
    ·exact absurd hm (by rcases hb with rfl|rfl<;>decide)
theorem yjeb {b:UInt8} (hb:b=47\/b=10) (n:Int) (h1:0<=n) (h2:n<=600):b∉perT n:=by
 unfold perT;split
 ·simp
 ·unfold secT
  have i1:=yxd (n:=n / 10) (by omega) b (by rcases hb with rfl|rfl<;>decide);have i2:=yxd (n:=n % 10) (by omega) b (by rcases hb with rfl|rfl<;>decide);split
  ·intro hm
   simp only[List.mem_append,List.mem_cons,List.not_mem_nil,or_false]at hm;rcases hm with hm|hm|hm
   ·exact absurd hm (by rcases hb with rfl|rfl<;>decide)
   ·exact i1 hm
   ·exact absurd hm (by rcases hb with rfl|rfl<;>decide)
  ·intro hm
   simp only[List.mem_append,List.mem_cons,List.not_mem_nil,or_false]at hm;rcases hm with hm|(hm|hm|hm)|hm
   ·exact absurd hm (by rcases hb with rfl|rfl<;>decide)
   ·exact i1 hm
   ·exact absurd hm (by rcases hb with rfl|rfl<;>decide)
   ·exact i2 hm
   ·exact absurd hm (by rcases hb with rfl|rfl<;>decide)
theorem yiab {b:UInt8} (hb:b=47\/b=10) (c:Character) (h:zfb c=true) (hl:c.Colors.length<9223372036854775808):b∉chrT c:=by
 have hf:=ywc c h;have hp:=yae c h;have hp2:=(ywd c h).2.2;unfold chrT;intro hm;simp only[List.mem_append,List.mem_cons]at hm;rcases hm with hm|hm|hm|hm
 ·exact ycdb hb c hf hm
 ·exact absurd hm (by rcases hb with rfl|rfl<;>decide)
 ·exact yf1 hb _ (ydk c h hl) hm
 ·exact yjeb hb _ hp hp2 hm
theorem yry (c : UInt8) (hc : c ≠ 44) : ∀ (xs : List (List UInt8)), (∀ x ∈ xs, c ∉ x) -> c ∉ Lib.join xs [44]
 | [],_=>by simp[Lib.join_nil]
 | x::r,h=>by
  rw[yzj]
  cases r with
  | nil=>exact h x (by simp)
  | cons y r=>
   simp only[joinC];have ih:=yry c hc (y::r) (fun z hz=>h z (by simp[hz]));rw[yzj]at ih;intro hm;simp only[List.mem_append,List.mem_cons]at hm;rcases hm with hm|hm|hm
   ·exact h x (by simp) hm
   ·exact hc hm
   ·exact ih hm
theorem ycab {b:UInt8} (hb:b=47\/b=10) {l:List Sector} (h:zv l=true):b∉scsT l:=by
 unfold scsT;split
 ·rcases hb with rfl|rfl<;>decide
 ·refine yry b (by rcases hb with rfl|rfl<;>decide) _ (fun x hx => ?_)
  obtain⟨s,hs,rfl⟩:=List.mem_map.1 hx;obtain⟨i,hi,e⟩:=List.getElem_of_mem hs;have:=(y3h h).2 i hi;rw[List.getD_eq_getElem?_getD,List.getElem?_eq_getElem hi]at this;rw[<- e];exact yrab this b (by rcases hb with rfl|rfl<;>decide) (by rcases hb with rfl|rfl<;>decide)
theorem yt3 {b:UInt8} (hb:b=47\/b=10) {s:List UInt8} (h:zqc s=true):b∉s:=by
 obtain⟨h1,h2,h3⟩:=(ywh s).1 h;intro hm;obtain⟨j,hj,e⟩:=List.getElem_of_mem hm;have:=h3 j hj;have hg:s.getD j 0=b:=by simp[List.getD,List.getElem?_eq_getElem hj,e]
 rw[hg]at this;rcases hb with rfl|rfl<;>rcases this with⟨h,_⟩|⟨_,h,_⟩<;>simp at h
theorem yyab (c:Character) (h:zfb c=true) (hl:c.Colors.length<9223372036854775808):(47:UInt8)∉chrT c:=yiab (.inl rfl) c h hl
theorem ytbb {l:List Sector} (h:zv l=true):(47:UInt8)∉scsT l:=ycab (.inl rfl) h
theorem y36 {s:List UInt8} (h:zqc s=true):(47:UInt8)∉s:=yt3 (.inl rfl) h
theorem y4l {n:Int} (h0:0<=n) (h1:n<=100000000):zl (zh n)=(n,true):=by
 show y8b (Lib.itoa n)=(n,true)
 rcases yjg (Lib.itoa n)with⟨m,hm,he,hr⟩|⟨hn,_⟩
 ·rw[hr,yml he]
 ·exact absurd rfl (hn n (by unfold E18;omega))
theorem yek {n:Int} (h0:0<=n) (c:UInt8) (hc:c.toNat<48):c∉zh n:=yxd h0 c (.inl hc)
def ptT (p:Point):List UInt8:=zh p.X++44::zh p.Y
theorem pt_I {p:Point} (h:zvc p=true):zag p=ptT p/\(ptT p).length<=13/\(47:UInt8)∉ptT p/\zhf (ptT p)=(p,true):=by
 obtain⟨h1,h2,h3,h4⟩:=yas h;have hv:zyd p=true:=h;refine⟨?_,?_,?_,?_⟩
 ·unfold zag ptT
  rw[hv];simp
 ·have k1:=yvd p.X 5 (by omega) (by show p.X<(1000000:Int);omega)
  have k2:=yvd p.Y 5 (by omega) (by show p.Y<(1000000:Int);omega);show(Lib.itoa p.X++44::Lib.itoa p.Y).length<=13;rw[List.length_append,List.length_cons];omega
 ·unfold ptT
  intro hm;rcases List.mem_append.1 hm with hm|hm
  ·exact yek h1 47 (by decide) hm
  ·rcases List.mem_cons.1 hm with hm|hm
   ·cases hm
   ·exact yek h3 47 (by decide) hm
 ·unfold zhf
  have e:zd (ptT p) [44]=(zh p.X,zh p.Y,true):=y7f _ _ 44 (yek h1 44 (by decide));rw[e];simp only;rw[y4l h1 (by omega),y4l h3 (by omega)];have e2:({ X:=p.X,Y:=p.Y }:Point)=p:=rfl;simp only[e2,hv];rfl
theorem yvbb:(allMarks.all fun m=>(decide (zme (zwb m)=(m,true)) && !((zwb m).contains 47) && !((zwb m).contains 10)) && decide ((zwb m).length<=40))=true:=by decide +kernel
theorem yxq {m:Mark} (h:zub m=true):zme (zwb m)=(m,true)/\(47:UInt8)∉zwb m/\(10:UInt8)∉zwb m/\(zwb m).length<=40:=by
 have:=List.all_eq_true.1 yvbb m (yc9 h);simp only[Bool.and_eq_true,decide_eq_true_eq,Bool.not_eq_true',List.contains_eq_mem,decide_eq_false_iff_not]at this;exact⟨this.1.1.1,this.1.1.2,this.1.2,this.2⟩
theorem yqs {m:Mark} (h:zub m=true):zme (zwb m)=(m,true)/\(47:UInt8)∉zwb m/\(zwb m).length<=40:=⟨(yxq h).1,(yxq h).2.1,(yxq h).2.2.2⟩
theorem sx_I {l:List Sector} (h:zv l=true):zic (scsT l)=(l,true):=by
 by_cases hn:l=[]
 ·subst hn;rfl
 have hv:zjb l=true:=by
  have:=(y3h h).1;rw[y0b l (by omega)];exact h
 unfold zic;rw[ywdb hn,cond_false,yul,ycs h hn,List.length_map]
 obtain⟨t,q1,q2⟩:=ydb (b:=y8i (scsT l)) (fun i s=>s=l.take i) (k:=l.length-0) (i:=0) (s:=[]) rfl (fun j u _ hj hu=>by
  have hj:j<l.length:=by omega
  refine⟨_,?_,rfl⟩;subst hu;have h1:=ym1 ((y3h h).2 j hj);have k2:=yvd (l.getD j default).To 2 (by omega) (by show _<(1000:Int);omega);have h12:=(y3h h).1;unfold y8i;rw[yul,ycs h hn,yrbb l j hj,cutI];unfold scT;rw[y7f (Lib.itoa _) _ 45 (yek h1.1 45 (by decide))];simp only
  have hne:(Lib.itoa (l.getD j default).To++(l.getD j default).Color == [])=false:=by
   rw[beq_eq_false_iff_ne];intro e;have:=congrArg List.length e;simp only[List.length_append,List.length_nil]at this;omega
  have tl:=y02 (Lib.itoa (l.getD j default).To) (l.getD j default).Color h1.2.2.2.2.1 (by omega)
  have hf:zzb ((l.take j).length:Int) 12=true:=by
   unfold zzb;rw[List.length_take];simp;omega
  have r1:zl (Lib.itoa (l.getD j default).From)=((l.getD j default).From,true):=y4l h1.1 (by omega);have r2:zl (Lib.itoa (l.getD j default).To)=((l.getD j default).To,true):=y4l h1.2.2.1 (by omega);rw[hne,hf,tl.1,tl.2,r1,r2];simp only[Bool.not_true,Bool.or_self,cond_false]
  rw[y6m l j hj])
 rw[q1];simp only;have:t=l:=by rw[q2];simp
 rw[this,hv,ylr h];simp
theorem ygo {a:Aid} (h:zw a=true) (hl:a.Light.Colors.length<9223372036854775808) (ht:zgc a=true):zfb a.Light=true:=by
 rw[yzi _ hl];exact(y4c h).2.2.2.2.2.2.2.1 ht
theorem ap_I {a:Aid} (h:zw a=true) (hl:a.Light.Colors.length<9223372036854775808) :
  (zh a.Number).length<=4/\(zag a.At).length<=13/\(zh a.Height).length<=4/\(zwb a.Mark).length<=40/\(zgc a=true->(zqd a.Light).length<=40)/\(zed a.Sectors).length<=120/\(zh a.Intensity).length<=9/\a.Name.length<=10:=by
 obtain⟨n1,n2,nm,at1,h1,h2,mk,lt,sx,i1,i2⟩:=y4c h;refine⟨yvd a.Number 3 (by omega) (by show _<(10000:Int);omega),?_,yvd a.Height 3 (by omega) (by show _<(10000:Int);omega),(yqs mk).2.2,fun hq => ?_,?_,yvd a.Intensity 8 (by omega) (by show _<(1000000000:Int);omega),yel nm⟩
 ·rw[(pt_I at1).1];exact(pt_I at1).2.1
 ·rw[yei a.Light (ygo h hl hq)];exact y52 (ygo h hl hq)
 ·rw[ylr sx];exact yt0 sx
def ztc (a0:Aid):(List UInt8):=
 (bif (!(zmc a0))then[]else(bif (zpf a0)then(zsb [(zh a0.Number),a0.Name,(zag a0.At),(zh a0.Height),(zwb a0.Mark),(zqd a0.Light),(zed a0.Sectors),(zh a0.Intensity)] [47])else(zsb [(zh a0.Number),a0.Name,(zag a0.At),(zh a0.Height),(zwb a0.Mark),[45],(zed a0.Sectors),(zh a0.Intensity)] [47])))
namespace N30
theorem DD:DOk Tryz.prog (Go.Ab.DD [(44,dP D_zmc),(58,dP D_zsb),(59,dP D_zh),(61,dP D_zpf),(62,dP D_zqd),(63,dP D_zag),(64,dP D_zwb),(65,dP D_zed)]):=ya y9i.e <| ya y6i.e <| ya ygf.e <| ya y8y.e <| ya y3w.e <| ya y76.e <| ya yvw.e <| ya ydx.e <| yc _
abbrev dn:=cj @D_zmc.eq_1 <| cj @D_zsb.eq_1 <| cj @D_zh.eq_1 <| cj @D_zpf.eq_1 <| cj @D_zqd.eq_1 <| cj @D_zag.eq_1 <| cj @D_zwb.eq_1 <| @D_zed.eq_1
theorem gr {p:Prop} (h:p:=by(grind [y0c]);first|done|fail):p:=h
theorem o0 {p:Prop} (h:p:=by(first|(have h9:=ypw hb0 (by assumption);have hr:=y4c h9;obtain⟨l1,l2,l3,l4,hch,l6,l7,l8⟩:=ap_I h9 (Nat.lt_of_lt_of_le hb0.2.2.1.2.2 (by decide));have l5:=hch (by rw[<- hlt h9];assumption);(repeat' with_reducible apply And.intro)<;>(first|omega|exact hb0.2.1|exact hb0.2.2.2.1|exact hb0.2.2.2.2|exact hb0.2.2.1|exact hr.2.2.2.1|exact hr.2.2.2.2.2.2.2.2.1|(refine Nat.le_trans (yfe _ _) ?_;simp only[jl,List.length_cons,List.length_nil];omega)))|(have h9:=ypw hb0 (by assumption);have hr:=y4c h9;obtain⟨l1,l2,l3,l4,hch,l6,l7,l8⟩:=ap_I h9 (Nat.lt_of_lt_of_le hb0.2.2.1.2.2 (by decide));skip;(repeat' with_reducible apply And.intro)<;>(first|omega|exact hb0.2.1|exact hb0.2.2.2.1|exact hb0.2.2.2.2|exact hb0.2.2.1|exact hr.2.2.2.1|exact hr.2.2.2.2.2.2.2.2.1|(refine Nat.le_trans (yfe _ _) ?_;simp only[jl,List.length_cons,List.length_nil];omega))));first|done|fail):p:=h
theorem lx {p:Prop} (h:p:=by(exact lxx);first|done|fail):p:=h
set_option maxHeartbeats 4000000 in
set_option maxRecDepth 20000 in
theorem den (a0:Aid) (hb0:bdAid a0):Den Tryz.prog 30 [.agg (eAid a0)] (.str (ztc a0)):=by
 generalize hR:ztc a0=r;unfold ztc at hR;refine di Tryz.func30 Tryz.ntmps30 Tryz.results30 ?_;intro c hL hc hk;obtain⟨hL0,_⟩:=hL;have hw0:bwAid a0:=yr a0 hL0;clear hL0;simp only[pars,Nat.zero_add];have hlt:=fun h=>y30 (a:=a0) h (Nat.lt_of_lt_of_le hb0.2.2.1.2.2 (by decide))
 iterate 2 refine rS ?_
 refine yb ?_ ?_<;>intro hb
 ·replace hR:=ct hR
  exact retR
 ·replace hR:=cf hR
  iterate 2 refine rS ?_
  refine yb ?_ ?_<;>intro hb
  ·replace hR:=ct hR
   refine rS ?_;refine rD 21 ?_;exact retE
  ·replace hR:=cf hR
   refine rD 21 ?_;exact retE
end N30
def D_ztc : DF
 | [x0]=>some (.str (ztc (rdG dAid x0)),false,[wG eAid dAid x0,bdAid (rdG dAid x0)])
 | _=>none
theorem ykx:OkD Tryz.prog 30 D_ztc:=by unfold D_ztc;exact dk N30.den
def zcg (a0:(List UInt8)):(Aid×Bool):=
 (bif (((zb a0 [47]).length:Int) != 8)then({ Number:=0,Name:=[],At:={ X:=0,Y:=0:Point },Height:=0,Mark:={ Kind:=0,Colors:=[],Shape:=[],Topmark:=[]:Mark },Light:={ Kind:=0,Group:=[],Letter:=[],Colors:=[],Period:=0:Character },Sectors:=[],Intensity:=0:Aid },false)else(bif (((zb a0 [47]).getD 5 default) == [45])then(bif ((!(((zl ((zb a0 [47]).getD 0 default)).2) == true && (((zhf ((zb a0 [47]).getD 2 default)).2) == true && (((zl ((zb a0 [47]).getD 3 default)).2) == true && (((zme ((zb a0 [47]).getD 4 default)).2) == true && (true == true && (((zic ((zb a0 [47]).getD 6 default)).2) == true && ((zl ((zb a0 [47]).getD 7 default)).2) == true))))))) || ((ztc ({ Number:=(zl ((zb a0 [47]).getD 0 default)).1,Name:=((zb a0 [47]).getD 1 default),At:=(zhf ((zb a0 [47]).getD 2 default)).1,Height:=(zl ((zb a0 [47]).getD 3 default)).1,Mark:=(zme ((zb a0 [47]).getD 4 default)).1,Light:=(zee ((zb a0 [47]).getD 5 default)).1,Sectors:=(zic ((zb a0 [47]).getD 6 default)).1,Intensity:=(zl ((zb a0 [47]).getD 7 default)).1:Aid })) != a0))then({ Number:=0,Name:=[],At:={ X:=0,Y:=0:Point },Height:=0,Mark:={ Kind:=0,Colors:=[],Shape:=[],Topmark:=[]:Mark },Light:={ Kind:=0,Group:=[],Letter:=[],Colors:=[],Period:=0:Character },Sectors:=[],Intensity:=0:Aid },false)else({ Number:=(zl ((zb a0 [47]).getD 0 default)).1,Name:=((zb a0 [47]).getD 1 default),At:=(zhf ((zb a0 [47]).getD 2 default)).1,Height:=(zl ((zb a0 [47]).getD 3 default)).1,Mark:=(zme ((zb a0 [47]).getD 4 default)).1,Light:=(zee ((zb a0 [47]).getD 5 default)).1,Sectors:=(zic ((zb a0 [47]).getD 6 default)).1,Intensity:=(zl ((zb a0 [47]).getD 7 default)).1:Aid },true))else(bif ((!(((zl ((zb a0 [47]).getD 0 default)).2) == true && (((zhf ((zb a0 [47]).getD 2 default)).2) == true && (((zl ((zb a0 [47]).getD 3 default)).2) == true && (((zme ((zb a0 [47]).getD 4 default)).2) == true && (((zee ((zb a0 [47]).getD 5 default)).2) == true && (((zic ((zb a0 [47]).getD 6 default)).2) == true && ((zl ((zb a0 [47]).getD 7 default)).2) == true))))))) || ((ztc ({ Number:=(zl ((zb a0 [47]).getD 0 default)).1,Name:=((zb a0 [47]).getD 1 default),At:=(zhf ((zb a0 [47]).getD 2 default)).1,Height:=(zl ((zb a0 [47]).getD 3 default)).1,Mark:=(zme ((zb a0 [47]).getD 4 default)).1,Light:=(zee ((zb a0 [47]).getD 5 default)).1,Sectors:=(zic ((zb a0 [47]).getD 6 default)).1,Intensity:=(zl ((zb a0 [47]).getD 7 default)).1:Aid })) != a0))then({ Number:=0,Name:=[],At:={ X:=0,Y:=0:Point },Height:=0,Mark:={ Kind:=0,Colors:=[],Shape:=[],Topmark:=[]:Mark },Light:={ Kind:=0,Group:=[],Letter:=[],Colors:=[],Period:=0:Character },Sectors:=[],Intensity:=0:Aid },false)else({ Number:=(zl ((zb a0 [47]).getD 0 default)).1,Name:=((zb a0 [47]).getD 1 default),At:=(zhf ((zb a0 [47]).getD 2 default)).1,Height:=(zl ((zb a0 [47]).getD 3 default)).1,Mark:=(zme ((zb a0 [47]).getD 4 default)).1,Light:=(zee ((zb a0 [47]).getD 5 default)).1,Sectors:=(zic ((zb a0 [47]).getD 6 default)).1,Intensity:=(zl ((zb a0 [47]).getD 7 default)).1:Aid },true))))
namespace N34
theorem DD:DOk Tryz.prog (Go.Ab.DD [(30,dP D_ztc),(32,dP D_zb),(69,dP D_zl),(71,dP D_zhf),(72,dP D_zme),(73,dP D_zee),(74,dP D_zic)]):=ya ykx.e <| ya yxj.e <| ya yrj.e <| ya yp8.e <| ya y34.e <| ya y57.e <| ya yp4.e <| yc _
abbrev dn:=cj @D_ztc.eq_1 <| cj @D_zb.eq_1 <| cj @D_zl.eq_1 <| cj @D_zhf.eq_1 <| cj @D_zme.eq_1 <| cj @D_zee.eq_1 <| @D_zic.eq_1
set_option maxHeartbeats 4000000 in
set_option maxRecDepth 20000 in
theorem den (a0:(List UInt8)) (hb0:a0.length<1099511627776) (hp0:a0.length<=1048576):Den Tryz.prog 34 [.str a0] (.tup [.agg (ytb ((zcg a0).1)),.bool ((zcg a0).2)]):=by
 generalize hR:zcg a0=r;unfold zcg at hR;refine di Tryz.func34 Tryz.ntmps34 Tryz.results34 ?_;intro c hL hc hk;obtain⟨hL0,_⟩:=hL;have hw0:=lwS hL0;clear hL0;simp only[pars,Nat.zero_add];have e1:=fun i=>ycr a0 47 i
 have s0_:=e1 0;have s1_:=e1 1;have s2_:=e1 2;have s3_:=e1 3;have s4_:=e1 4;have s5_:=e1 5;have s6_:=e1 6;have s7_:=e1 7;have b4:=ynfb ((zb a0 [47]).getD 4 default) (by omega);have b5:=ykfb ((zb a0 [47]).getD 5 default);have b6:=yefb ((zb a0 [47]).getD 6 default) (by omega);have b61:=b6.1;have b62:=b6.2;iterate 3 refine rS ?_
 refine yb ?_ ?_<;>intro hb
 ·replace hR:=ct hR
  exact retR
 ·replace hR:=cf hR
  iterate 10 refine rS ?_
  refine yb ?_ ?_<;>intro hb
  ·replace hR:=ct hR
   iterate 2 refine rS ?_
   refine yb ?_ ?_<;>intro hb
   ·replace hR:=ct hR
    exact retR
   ·replace hR:=cf hR
    exact retR
  ·replace hR:=cf hR
   refine rS ?_;refine yb ?_ ?_<;>intro hb
   ·replace hR:=ct hR
    exact retR
   ·replace hR:=cf hR
    exact retR
end N34
def D_zcg : DF
 | [x0]=>some (.tup [.agg (ytb ((zcg (rdS x0)).1)),.bool ((zcg (rdS x0)).2)],false,[wS x0,(rdS x0).length<1099511627776,(rdS x0).length<=1048576])
 | _=>none
theorem ys5:OkD Tryz.prog 34 D_zcg:=by unfold D_zcg;exact dk N34.den
def ztf (a0:Aid):(List UInt8):=
 (bif (zgc a0)then((((((((((((((zf a0.Number)++[47])++a0.Name)++[47])++(zgg a0.At))++[47])++(zf a0.Height))++[47])++(zbg a0.Mark))++[47])++(zzc a0.Light))++[47])++(zle a0.Sectors))++[47])++(zf a0.Intensity)else((((((((((((((zf a0.Number)++[47])++a0.Name)++[47])++(zgg a0.At))++[47])++(zf a0.Height))++[47])++(zbg a0.Mark))++[47])++[45])++[47])++(zle a0.Sectors))++[47])++(zf a0.Intensity))
namespace N80
theorem DD:DOk Tryz.prog (Go.Ab.DD [(132,dP D_zgc),(133,dP D_zzc),(134,dP D_zgg),(135,dP D_zbg),(136,dP D_zle),(78,dP D_zf)]):=ya yg5.e <| ya y24.e <| ya yr9.e <| ya yl7.e <| ya y59.e <| ya yrf.e <| yc _
abbrev dn:=cj @D_zgc.eq_1 <| cj @D_zzc.eq_1 <| cj @D_zgg.eq_1 <| cj @D_zbg.eq_1 <| cj @D_zle.eq_1 <| @D_zf.eq_1
theorem o0 {p:Prop} (h:p:=by(first|(obtain⟨c1,c2,c3,c4,c5,c6⟩:=hlt (by assumption);obtain⟨e5,l5⟩:=hch (by assumption);(repeat' with_reducible apply And.intro)<;>first|omega|with_reducible assumption|(simp only[List.length_append,List.length_cons,List.length_nil,List.length_singleton];omega))|((repeat' with_reducible apply And.intro)<;>first|omega|with_reducible assumption|(simp only[List.length_append,List.length_cons,List.length_nil,List.length_singleton];omega)));first|done|fail):p:=h
set_option maxHeartbeats 4000000 in
set_option maxRecDepth 20000 in
theorem den (a0:Aid) (hb0:bdAid a0) (hp0:zw a0=true):Den Tryz.prog 80 [.ep (eAid a0)] (.str (ztf a0)):=by
 generalize hR:ztf a0=r;unfold ztf at hR;refine di Tryz.func80 Tryz.ntmps80 Tryz.results80 ?_;intro c hL hc hk;obtain⟨hL0,_⟩:=hL;have hw0:bwAid a0:=yr a0 hL0;clear hL0;simp only[pars,Nat.zero_add];have h9:=hp0;have hr:=y4c h9;obtain⟨⟨e1,l1⟩,⟨e2,l2⟩,⟨e3,l3⟩,⟨e4,l4⟩,hch,⟨e6,l6⟩,⟨e7,l7⟩,l8⟩:=y1db h9 (Nat.lt_of_lt_of_le hb0.2.2.1.2.2 (by decide));have hlt:=fun h=>yeeb hp0 hb0 h
 have hbM:bdMark a0.Mark:=hb0.2.1;have hbC:bdCharacter a0.Light:=hb0.2.2.1;have hbS1:a0.Sectors.length<1099511627776:=hb0.2.2.2.1;have hbS2:∀ v∈a0.Sectors,bdSector v:=hb0.2.2.2.2;have hat:zvc a0.At=true:=hr.2.2.2.1;have hsx:zv a0.Sectors=true:=hr.2.2.2.2.2.2.2.2.1;iterate 3 refine rS ?_
 refine yb ?_ ?_<;>intro hb
 ·replace hR:=ct hR
  refine rS ?_;refine rD 49 ?_;exact retE
 ·replace hR:=cf hR
  refine rD 49 ?_;exact retE
end N80
def D_ztf : DF
 | [x0]=>some (.str (ztf (rdP dAid x0)),false,[wP eAid dAid x0,bdAid (rdP dAid x0),zw (rdP dAid x0)=true])
 | _=>none
theorem ys6:OkD Tryz.prog 80 D_ztf:=by unfold D_ztf;exact dk N80.den
theorem ywfb (a b c d e f g h:List UInt8) (s:List UInt8):Lib.join [a,b,c,d,e,f,g,h] s=a++(s++(b++(s++(c++(s++(d++(s++(e++(s++(f++(s++(g++(s++h))))))))))))):=by
 simp[Lib.join_cons,Lib.joinTail]
theorem y7k {a:Aid} (h:zw a=true) (hl:a.Light.Colors.length<9223372036854775808):ztc a=ztf a/\(ztf a).length<=300:=by
 have hr:=y4c h;have hs:=(y7d hr.2.2.2.2.2.2.2.2.1).1;obtain⟨⟨e1,l1⟩,⟨e2,l2⟩,⟨e3,l3⟩,⟨e4,l4⟩,hch,⟨e6,l6⟩,⟨e7,l7⟩,l8⟩:=y1db h hl;have e:∀ a b c d e f g h:List UInt8,zsb [a,b,c,d,e,f,g,h] [47]=a++([47]++(b++([47]++(c++([47]++(d++([47]++(e++([47]++(f++([47]++(g++([47]++h))))))))))))):=fun a b c d e f g h=>ywfb a b c d e f g h [47]
 unfold ztc ztf;rw[yqc a hl (by omega),h,y30 h hl];simp only[Bool.not_true,cond_false]
 cases ht:zgc a with
 | true=>
  obtain⟨e5,l5⟩:=hch ht;simp only[cond_true];rw[e,e1,e2,e3,e4,e5,e6,e7];refine⟨by simp only[List.append_assoc],?_⟩;simp only[List.length_append,List.length_cons,List.length_nil];omega
 | false=>
  simp only[cond_false];rw[e,e1,e2,e3,e4,e6,e7];refine⟨by simp only[List.append_assoc],?_⟩;simp only[List.length_append,List.length_cons,List.length_nil];omega
theorem y5l (a:Aid) (hb:bdAid a):(ztc a).length<=300:=by
 have hl:a.Light.Colors.length<9223372036854775808:=Nat.lt_of_lt_of_le hb.2.2.1.2.2 (by decide);have hs:a.Sectors.length<9223372036854775807:=Nat.lt_of_lt_of_le hb.2.2.2.1 (by decide)
 cases h:zw a with
 | true=>rw[(y7k h hl).1];exact(y7k h hl).2
 | false=>
  unfold ztc;rw[yqc a hl hs,h];simp
theorem yzl {a:Aid} (hb:bdAid a) (h:zw a=true):(ztf a).length<=300:=(y7k h (Nat.lt_of_lt_of_le hb.2.2.1.2.2 (by decide))).2
abbrev zChr:Character:={ Kind:=0,Group:=[],Letter:=[],Colors:=[],Period:=0 }
theorem ykcb (a:Int) (h1:0<=a) (h2:a<=99999):∃ y m d,zz a=(y,m,d)/\zlb a=(y,m,d)/\2000<=y/\y<=2273/\1<=m/\m<=12/\1<=d/\d<=31:=by
 obtain⟨y,m,d,e1,hy,hd⟩:=yfcb a h1 h2;obtain⟨y',m',d',e2,hd'⟩:=ynab a h1 h2;obtain⟨rfl,rfl,rfl⟩:=hd.unique hd';have hm:=y8n (l:=yib y) hd.2.1 hd.2.2.1;exact⟨y,m,d,e1,e2,hd.1,hy,hd.2.1,hd.2.2.1,hd.2.2.2.1,by have:=hd.2.2.2.2.1;omega⟩
def zye (a0:Int):(List UInt8):=
 (bif decide (a0<10)then[48]++(zf a0)else(zf a0))
namespace N131
theorem DD:DOk Tryz.prog (Go.Ab.DD [(78,dP D_zf)]):=ya yrf.e <| yc _
abbrev dn:=@D_zf.eq_1
theorem den (a0:Int) (hp0:0<=a0) (hp1:a0<=1000):Den Tryz.prog 131 [.int .i64 a0] (.str (zye a0)):=by
 generalize hR:zye a0=r;unfold zye at hR;refine di Tryz.func131 Tryz.ntmps131 Tryz.results131 ?_;intro c hL hc hk;clear hL;simp only[pars,Nat.zero_add];have l1:=yhd a0 (by omega) (by omega);iterate 2 refine rS ?_
 refine yb ?_ ?_<;>intro hb
 ·replace hR:=ct hR
  exact retR
 ·replace hR:=cf hR
  exact retR
end N131
def D_zye : DF
 | [x0]=>some (.str (zye (rdI x0)),false,[wI .i64 x0,0<=(rdI x0),(rdI x0)<=1000])
 | _=>none
theorem yz8:OkD Tryz.prog 131 D_zye:=by unfold D_zye;exact dk N131.den
theorem ynp (a:Int) (h1:0<=a) (h2:a<=1000):(zye a).length<=2000:=by
 have hl:=yhd a (by omega) (by omega);unfold zye;cases decide (a<10)<;>simp<;>omega
def zqe (a0:Int):(List UInt8):=
 ((((zf ((zlb a0).1))++[45])++(zye ((zlb a0).2.1)))++[45])++(zye ((zlb a0).2.2))
namespace N79
theorem DD:DOk Tryz.prog (Go.Ab.DD [(130,dP D_zlb),(131,dP D_zye),(78,dP D_zf)]):=ya yc8.e <| ya yz8.e <| ya yrf.e <| yc _
abbrev dn:=cj @D_zlb.eq_1 <| cj @D_zye.eq_1 <| @D_zf.eq_1
theorem o0 {p:Prop} (h:p:=by(first|(have hr:=yn2 a0 hp0 hp1;have l1:=yhd (zlb a0).1 (by omega) (by omega);have l2:=ynp (zlb a0).2.1 (by omega) (by omega);have l3:=ynp (zlb a0).2.2 (by omega) (by omega);(try simp only[List.length_append,List.length_cons,List.length_nil]);omega));first|done|fail):p:=h
theorem den (a0:Int) (hp0:0<=a0) (hp1:a0<=99999):Den Tryz.prog 79 [.int .i64 a0] (.str (zqe a0)):=by
 generalize hR:zqe a0=r;unfold zqe at hR;refine di Tryz.func79 Tryz.ntmps79 Tryz.results79 ?_;intro c hL hc hk;clear hL;simp only[pars,Nat.zero_add];iterate 2 refine rS ?_
 exact retR
end N79
def D_zqe : DF
 | [x0]=>some (.str (zqe (rdI x0)),false,[wI .i64 x0,0<=(rdI x0),(rdI x0)<=99999])
 | _=>none
theorem ye6:OkD Tryz.prog 79 D_zqe:=by unfold D_zqe;exact dk N79.den
theorem y8cb (a:Int) (h1:0<=a) (h2:a<=99999):(zqe a).length<=10000:=by
 have hr:=yn2 a h1 h2;have l1:=yhd (zlb a).1 (by omega) (by omega);have l2:=ynp (zlb a).2.1 (by omega) (by omega);have l3:=ynp (zlb a).2.2 (by omega) (by omega);unfold zqe;simp only[List.length_append,List.length_cons,List.length_nil];omega
theorem yzz (n:Int) (h1:0<=n) (h2:n<100):(Go.Lib.itoa n).length=if n<10 then 1 else 2:=by
 unfold Go.Lib.itoa;rw[if_neg (by omega),Go.Lib.decDigits];by_cases h:n<10
 ·rw[dif_pos (by omega),if_pos h];rfl
 ·rw[dif_neg (by omega),if_neg h,Go.Lib.decDigits,dif_pos (by omega)];rfl
theorem yls (n:Int) (h1:0<=n) (h2:n<100):zhe n 2=zye n:=by
 unfold zhe zye;have hl:=yzz n h1 h2;rw[yg0,yoi n (by omega) (by omega)];by_cases h:n<10
 ·rw[if_pos h]at hl
  rw[hl];simp only[h,decide_true,cond_true];rfl
 ·rw[if_neg h]at hl
  rw[hl];simp only[h,decide_false,cond_false];rfl
theorem ycv (a:Int) (h1:0<=a) (h2:a<=99999):zdb a=zqe a:=by
 obtain⟨y,m,d,e1,e2,hr⟩:=ykcb a h1 h2;unfold zdb zqe zgd ze;simp only[h1,h2,decide_true,Bool.and_self,Bool.not_true,cond_false,e1,e2];rw[yg0,yoi y (by omega) (by omega),yls m (by omega) (by omega),yls d (by omega) (by omega)]
theorem yxab {c:Character} (h:zjd c=true):c=zChr:=by
 obtain⟨K,G,L,C,P⟩:=c;unfold zjd at h;simp only[Bool.and_eq_true,beq_iff_eq]at h;obtain⟨⟨⟨⟨h1,h2⟩,h3⟩,h4⟩,h5⟩:=h;have hG:G=[]:=List.length_eq_zero_iff.1 (by omega);subst h1 hG h3 h4 h5;rfl
theorem yibb {a:Aid} (h:zw a=true) (hl:zgc a=false):a.Light=zChr:=by
 have hk:a.Light.Kind=0:=by
  unfold zgc at hl;simpa using hl
 unfold zw at h
 cases hc:(((((!(zj a.Number 1 9999)) || (!(zqc a.Name))) || (!(zvc a.At))) || (!(zj a.Height 0 3000))) || (!(zid a.Mark)))with
 | true=>rw[hc]at h;cases h
 | false=>
  rw[hc,cond_false]at h
  cases hp:zjd a.Light with
  | true=>exact yxab hp
  | false=>
   rw[hp,cond_false]at h
   cases hd:(((!(zsc a.Light)) || (!(zj a.Intensity 1 100000000))) || (!(zv a.Sectors)))with
   | true=>rw[hd]at h;cases h
   | false=>
    simp only[Bool.or_eq_false_iff,Bool.not_eq_false']at hd;have g1:=hd.1.1;unfold zsc zje zbh zj at g1;rw[hk]at g1;cases g1
def T8 (a:Aid) (w:List UInt8):List UInt8:=zh a.Number++47::(a.Name++47::(ptT a.At++47::(zh a.Height++47::(zwb a.Mark++47::(w++47::(scsT a.Sectors++47::zh a.Intensity))))))
theorem yxdb (a b c d e f g h:List UInt8) (s:List UInt8):Lib.join [a,b,c,d,e,f,g,h] s=a++(s++(b++(s++(c++(s++(d++(s++(e++(s++(f++(s++(g++(s++h))))))))))))):=by
 simp[Lib.join_cons,Lib.joinTail]
theorem ycw {a:Aid} (h:zw a=true) (hl:a.Light.Colors.length<9223372036854775808):ztc a=T8 a (bif zgc a then chrT a.Light else[45]):=by
 obtain⟨n1,n2,nm,at1,h1,h2,mk,lt,sx,i1,i2⟩:=y4c h;have hsl:=(y7d sx).1
 have e:∀ a b c d e f g h:List UInt8,zsb [a,b,c,d,e,f,g,h] [47]=a++47::(b++47::(c++47::(d++47::(e++47::(f++47::(g++47::h)))))):=fun a b c d e f g h=>by
  show Lib.join [a,b,c,d,e,f,g,h] [47]=_;rw[yxdb];simp
 unfold ztc T8;rw[yqc a hl (by omega),h,y30 h hl,(pt_I at1).1,ylr sx,e,e]
 cases ht:zgc a with
 | true=>
  rw[yei a.Light (ygo h hl ht)];rfl
 | false=>rfl
theorem yk1 {a:Aid} (h:zw a=true) (hl:a.Light.Colors.length<9223372036854775808):(ztc a).length<=300:=by
 obtain⟨n1,n2,nm,at1,h1,h2,mk,lt,sx,i1,i2⟩:=y4c h;have k1:=yvd a.Number 3 (by omega) (by show _<(10000:Int);omega);have k2:=yel nm;have k3:=(pt_I at1).2.1;have k4:=yvd a.Height 3 (by omega) (by show _<(10000:Int);omega);have k5:=(yqs mk).2.2;have k6:=yt0 sx;have k7:=yvd a.Intensity 8 (by omega) (by show _<(1000000000:Int);omega)
 have k8:(bif zgc a then chrT a.Light else[45]).length<=40:=by
  cases ht:zgc a with
  | true=>exact y52 (ygo h hl ht)
  | false=>show([45]:List UInt8).length<=40;decide
 rw[ycw h hl];generalize (bif zgc a then chrT a.Light else[45])=w at k8;show(Lib.itoa a.Number++47::(a.Name++47::(ptT a.At++47::(Lib.itoa a.Height++47::(zwb a.Mark++47::(w++47::(scsT a.Sectors++47::Lib.itoa a.Intensity))))))).length<=300;simp only[List.length_append,List.length_cons];omega
theorem y4w {a:Aid} (h:zw a=true) {w:List UInt8} (hw:(47:UInt8)∉w):yq 47 (T8 a w)=[zh a.Number,a.Name,ptT a.At,zh a.Height,zwb a.Mark,w,scsT a.Sectors,zh a.Intensity]:=by
 obtain⟨n1,n2,nm,at1,h1,h2,mk,lt,sx,i1,i2⟩:=y4c h;unfold T8;rw[y9 47 _ _ (yek (by omega) 47 (by decide)),y9 47 _ _ (y36 nm),y9 47 _ _ (pt_I at1).2.2.1,y9 47 _ _ (yek h1 47 (by decide)),y9 47 _ _ (yqs mk).2.1,y9 47 _ _ hw,y9 47 _ _ (ytbb sx),yld 47 _ (yek i1 47 (by decide))]
theorem y53:(zee [45]).1=({ Kind:=0,Group:=[],Letter:=[],Colors:=[],Period:=0 }:Character):=by decide +kernel
theorem yes {a:Aid} (h:zw a=true) (hl:a.Light.Colors.length<9223372036854775808):zcg (ztc a)=(a,true):=by
 obtain⟨n1,n2,nm,at1,h1,h2,mk,lt,sx,i1,i2⟩:=y4c h;have ht:=ycw h hl;have ea:({ Number:=a.Number,Name:=a.Name,At:=a.At,Height:=a.Height,Mark:=a.Mark,Light:=a.Light,Sectors:=a.Sectors,Intensity:=a.Intensity:Aid })=a:=rfl
 cases hlt:zgc a with
 | true=>
  have hv:=ygo h hl hlt;rw[hlt,cond_true]at ht;have hsp:=(show zb (ztc a) [47]=yq 47 (T8 a (chrT a.Light))by rw[yul,ht]).trans (y4w h (yyab _ hv hl))
  have hne:(chrT a.Light == [45])=false:=by
   rw[beq_eq_false_iff_ne];intro e;have:(32:UInt8)∈chrT a.Light:=by unfold chrT;simp
   rw[e]at this;exact absurd this (by decide)
  unfold zcg;rw[hsp];simp only[List.getD_cons_zero,List.getD_cons_succ];rw[y4l (n:=a.Number) (by omega) (by omega),y4l h1 (by omega),y4l i1 i2,(pt_I at1).2.2.2,(yqs mk).1,sx_I sx,hne,y41 _ hv hl];simp only[ea,bne_self_eq_false];rfl
 | false=>
  have hz:({ Kind:=0,Group:=[],Letter:=[],Colors:=[],Period:=0 }:Character)=a.Light:=(yibb h hlt).symm;rw[hlt,cond_false]at ht;have hsp:=(show zb (ztc a) [47]=yq 47 (T8 a [45])by rw[yul,ht]).trans (y4w h (w:=[45]) (by decide));unfold zcg;rw[hsp];simp only[List.getD_cons_zero,List.getD_cons_succ];rw[y4l (n:=a.Number) (by omega) (by omega),y4l h1 (by omega),y4l i1 i2,(pt_I at1).2.2.2,(yqs mk).1,sx_I sx,y53,hz];simp only[ea,bne_self_eq_false];rfl
theorem y7p {d:Int} (h1:0<=d) (h2:d<=99999):zff (zdb d)=(d,true):=by
 rcases ynq (zdb d) (yhn h1 h2).2.2 with⟨x,x1,x2,x3,x4⟩|⟨h3,_⟩
 ·rw[x4,ygk h1 h2 x1 x2 x3]
 ·exact absurd rfl (h3 d h1 h2)
def zwd (a0:(List UInt8)) (a1:Int):(Edition×Bool):=
 (bif (((zp a0).length:Int) != 4)then({ Number:=0,Day:=0,Aids:=[]:Edition },false)else({ Number:=(zl ((zp a0).getD 1 default)).1,Day:=(zff ((zp a0).getD 2 default)).1,Aids:=[]:Edition },((((zl ((zp a0).getD 1 default)).2 && (zff ((zp a0).getD 2 default)).2) && (zpe ((zl ((zp a0).getD 1 default)).1))) && ((zpc ((zl ((zp a0).getD 1 default)).1) ((zff ((zp a0).getD 2 default)).1) a1) == a0))))
namespace N33
theorem DD:DOk Tryz.prog (Go.Ab.DD [(29,dP D_zpc),(56,dP D_zpe),(68,dP D_zp),(69,dP D_zl),(70,dP D_zff)]):=ya yey.e <| ya ypq.e <| ya yu3.e <| ya yrj.e <| ya yh8.e <| yc _
abbrev dn:=cj @D_zpc.eq_1 <| cj @D_zpe.eq_1 <| cj @D_zp.eq_1 <| cj @D_zl.eq_1 <| @D_zff.eq_1
set_option maxHeartbeats 1000000 in
set_option maxRecDepth 20000 in
theorem den (a0:(List UInt8)) (a1:Int) (hb0:a0.length<1099511627776) (hp0:a0.length<=1048576) (hp1:0<=a1) (hp2:a1<=2000000):Den Tryz.prog 33 [.str a0,.int .i64 a1] (.tup [.agg (yig ((zwd a0 a1).1)),.bool ((zwd a0 a1).2)]):=by
 generalize hR:zwd a0 a1=r;unfold zwd at hR;refine di Tryz.func33 Tryz.ntmps33 Tryz.results33 ?_;intro c hL hc hk;obtain⟨hL0,hL1,_⟩:=hL;have hw0:=lwS hL0;clear hL0 hL1;simp only[pars,Nat.zero_add];have hs9:=yoab a0 hp0;have hsa:=yhf hs9 1;have hsb:=yhf hs9 2;have hrd:=ynbb hsa;have hrd1:=hrd.1;have hrd2:=hrd.2;iterate 3 refine rS ?_
 refine yb ?_ ?_<;>intro hb
 ·replace hR:=ct hR
  exact retR
 ·replace hR:=cf hR
  iterate 3 refine rS ?_
  exact retR
end N33
def D_zwd : DF
 | [x0,x1]=>some (.tup [.agg (yig ((zwd (rdS x0) (rdI x1)).1)),.bool ((zwd (rdS x0) (rdI x1)).2)],false,[wS x0,wI .i64 x1,(rdS x0).length<1099511627776,(rdS x0).length<=1048576,0<=(rdI x1),(rdI x1)<=2000000])
 | _=>none
theorem yp5:OkD Tryz.prog 33 D_zwd:=by unfold D_zwd;exact dk N33.den
structure HeadOk (line:List UInt8) (k N D:Int):Prop where
 n1:1<=N
 n2:N<=9999
 d1:0<=D
 d2:D<=99999
 e:line=([101,100,105,116,105,111,110]:List UInt8)++32::(Lib.itoa N++32::(zdb D++32::Lib.itoa k))
theorem yhm (N D k:Int):zpc N D k=([101,100,105,116,105,111,110]:List UInt8)++32::(Lib.itoa N++32::(zdb D++32::Lib.itoa k)):=by
 have ej:∀ a b c d:List UInt8,zsb [a,b,c,d] [32]=a++([32]++(b++([32]++(c++([32]++d))))):=fun a b c d=>yzbb a b c d [32]
 unfold zpc;rw[ej];rfl
theorem HeadOk.split {line:List UInt8} {k N D:Int} (h:HeadOk line k N D):yq 32 line=[[101,100,105,116,105,111,110],Lib.itoa N,zdb D,Lib.itoa k]:=by
 rw[h.e,y9 32 _ _ (by decide),y9 32 _ _ (ymg N).1,y9 32 _ _ (yhn h.d1 h.d2).1,yld 32 _ (ymg k).1]
theorem ytcb {a:Aid} (h:zw a=true) (hl:a.Light.Colors.length<9223372036854775808):(10:UInt8)∉ztc a:=by
 obtain⟨n1,n2,nm,at1,h1,h2,mk,lt,sx,i1,i2⟩:=y4c h;obtain⟨p1,p2,p3,p4⟩:=yas at1
 have hc:(10:UInt8)∉(bif zgc a then chrT a.Light else[45]):=by
  cases ht:zgc a with
  | true=>exact yiab (.inr rfl) a.Light (ygo h hl ht) hl
  | false=>exact(show(10:UInt8)∉([45]:List UInt8)by decide)
 rw[ycw h hl];unfold T8 ptT;generalize (bif zgc a then chrT a.Light else[45])=w at hc;have d:∀ {n:Int},0<=n->(10:UInt8)∉zh n:=fun h0=>yek h0 10 (by decide)
 have e7:¬ (10:UInt8)=47:=by decide
 have e4:¬ (10:UInt8)=44:=by decide
 simp only[List.mem_append,List.mem_cons,not_or];exact⟨d (by omega),e7,yt3 (.inr rfl) nm,e7,⟨d p1,e4,d p3⟩,e7,d h1,e7,(yxq mk).2.2.1,e7,hc,e7,ycab (.inr rfl) sx,e7,d i1⟩
end Go.Ab
namespace Go.Ab
open Go
def crB (n:Nat):Nat:=if 65535<n * 2 then((n * 2) &&& 65535) ^^^ 4129 else n * 2
theorem yxy {n:Nat} (h:n<65536):crB n<65536:=by
 unfold crB;split
 ·exact Nat.xor_lt_two_pow (n:=16) (Nat.lt_of_le_of_lt Nat.and_le_right (by decide)) (by decide)
 ·omega
theorem y92 (n:Nat):(crB n).testBit 0=decide (65535<n * 2):=by
 unfold crB;split
 ·rename_i h
  rw[Nat.testBit_xor,Nat.testBit_and,decide_eq_true h];have:(n * 2).testBit 0=false:=by rw[Nat.testBit_zero];simp
  rw[this];decide
 ·rename_i h
  rw[decide_eq_false h,Nat.testBit_zero];simp
theorem yzcb {n m:Nat} (hn:n<65536) (hm:m<65536) (h:crB n=crB m):n=m:=by
 have hp:decide (65535<n * 2)=decide (65535<m * 2):=by rw[<- y92, <- y92,h]
 unfold crB at h;by_cases c:65535<n * 2
 ·rw[decide_eq_true c]at hp
  have c2:65535<m * 2:=of_decide_eq_true hp.symm;rw[if_pos c,if_pos c2]at h
  have h1:(n * 2) &&& 65535=(m * 2) &&& 65535:=by
   have:=congrArg (fun z=>z ^^^ 4129) h;simpa [Nat.xor_assoc]using this
  have e:∀ z:Nat,z &&& 65535=z % 65536:=fun z=>Nat.and_two_pow_sub_one_eq_mod z 16
  rw[e,e]at h1;omega
 ·rw[decide_eq_false c]at hp
  have c2:¬ 65535<m * 2:=of_decide_eq_false hp.symm;rw[if_neg c,if_neg c2]at h;omega
def crB8 : Nat -> Nat -> Nat
 | 0,n=>n
 | k+1,n=>crB8 k (crB n)
theorem yi1 : ∀ (k : Nat) {n : Nat}, n < 65536 -> crB8 k n < 65536
 | 0,_,h=>h
 | k+1,_,h=>yi1 k (yxy h)
theorem yir : ∀ (k : Nat) {n m : Nat}, n < 65536 -> m < 65536 -> crB8 k n = crB8 k m -> n = m
 | 0,_,_,_,_,h=>h
 | k+1,_,_,hn,hm,h=>yzcb hn hm (yir k (yxy hn) (yxy hm) h)
def crcS (s:Nat) (b:UInt8):Nat:=crB8 8 (s ^^^ (b.toNat * 256))
theorem yfo {s:Nat} (b:UInt8) (h:s<65536):s ^^^ (b.toNat * 256)<65536:=by
 have:=b.toNat_lt;exact Nat.xor_lt_two_pow (n:=16) h (by omega)
theorem ylj {s:Nat} (b:UInt8) (h:s<65536):crcS s b<65536:=yi1 8 (yfo b h)
theorem y7eb {s t:Nat} (b:UInt8) (hs:s<65536) (ht:t<65536) (h:crcS s b=crcS t b):s=t:=by
 have:=yir 8 (yfo b hs) (yfo b ht) h;have:=congrArg (fun z=>z ^^^ (b.toNat * 256)) this;simpa [Nat.xor_assoc]using this
theorem yedb {s:Nat} (b d:UInt8) (hs:s<65536) (h:crcS s b=crcS s d):b=d:=by
 have h1:=yir 8 (yfo b hs) (yfo d hs) h;have h2:=congrArg (fun z=>s ^^^ z) h1;simp only[<- Nat.xor_assoc,Nat.xor_self,Nat.zero_xor]at h2;exact UInt8.toNat_inj.1 (by omega)
theorem yl5 (l:List UInt8):∀ {s:Nat},s<65536->l.foldl crcS s<65536:=by
 induction l with
 | nil=>intro s h;exact h
 | cons b l ih=>intro s h;rw[List.foldl_cons];exact ih (ylj b h)
theorem yh1 (l:List UInt8):∀ {s t:Nat},s<65536->t<65536->l.foldl crcS s=l.foldl crcS t->s=t:=by
 induction l with
 | nil=>intro s t _ _ h;exact h
 | cons b l ih=>intro s t hs ht h;rw[List.foldl_cons,List.foldl_cons]at h;exact y7eb b hs ht (ih (ylj b hs) (ylj b ht) h)
theorem yl3 {l:List UInt8} {k:Nat} {x:UInt8} {s:Nat} (hs:s<65536) (hk:k<l.length) (hx:x≠l.getD k 0):(l.set k x).foldl crcS s≠l.foldl crcS s:=by
 intro h
 have e:l=l.take k++l.getD k 0::l.drop (k+1):=by
  rw[List.getD_eq_getElem?_getD,List.getElem?_eq_getElem hk];simp
 have e2:l.set k x=l.take k++x::l.drop (k+1):=by
  rw[List.set_eq_take_append_cons_drop,if_pos hk]
 rw[e2]at h;have h3:(l.take k++x::l.drop (k+1)).foldl crcS s=(l.take k++l.getD k 0::l.drop (k+1)).foldl crcS s:=by rw[h, <- e]
 rw[List.foldl_append,List.foldl_append,List.foldl_cons,List.foldl_cons]at h3;have hb:=yl5 (l.take k) hs;exact hx (yedb _ _ hb (yh1 _ (ylj _ hb) (ylj _ hb) h3))
theorem xorN {n m:Nat} (hn:n<65536) (hm:m<65536):IntKind.wrap .i64 ((BitVec.ofInt (IntKind.bits .i64) (n:Int) ^^^ BitVec.ofInt (IntKind.bits .i64) (m:Int)).toNat:Int)=((n ^^^ m:Nat):Int):=by
 have h:(BitVec.ofInt (IntKind.bits .i64) (n:Int) ^^^ BitVec.ofInt (IntKind.bits .i64) (m:Int)).toNat=n ^^^ m:=by
  show(BitVec.ofInt 64 (n:Int) ^^^ BitVec.ofInt 64 (m:Int)).toNat=n ^^^ m;rw[BitVec.toNat_xor,BitVec.ofInt_natCast,BitVec.ofInt_natCast,BitVec.toNat_ofNat,BitVec.toNat_ofNat,Nat.mod_eq_of_lt (by omega),Nat.mod_eq_of_lt (by omega)]
 rw[h,IntKind.wrap_i64];have:=Nat.xor_lt_two_pow (n:=16) (show n<2 ^ 16 by omega) (show m<2 ^ 16 by omega);omega
theorem andN {n:Nat} (hn:n<131072):IntKind.wrap .i64 ((BitVec.ofInt (IntKind.bits .i64) (n:Int) &&& BitVec.ofInt (IntKind.bits .i64) 65535).toNat:Int)=((n &&& 65535:Nat):Int):=by
 have h:(BitVec.ofInt (IntKind.bits .i64) (n:Int) &&& BitVec.ofInt (IntKind.bits .i64) 65535).toNat=n &&& 65535:=by
  show(BitVec.ofInt 64 (n:Int) &&& BitVec.ofInt 64 ((65535:Nat):Int)).toNat=n &&& 65535;rw[BitVec.toNat_and,BitVec.ofInt_natCast,BitVec.ofInt_natCast,BitVec.toNat_ofNat,BitVec.toNat_ofNat,Nat.mod_eq_of_lt (by omega),Nat.mod_eq_of_lt (by omega)]
 rw[h,IntKind.wrap_i64];have:n &&& 65535<=65535:=Nat.and_le_right;omega
theorem ybdb (a:List UInt8) (k:Int) (i:Nat) (s:Int) (j:Nat) {n:Nat} (hn:n<65536):yyj a k i s j (n:Int)=.ok ((crB n:Nat):Int):=by
 unfold yyj crB;have hw:IntKind.wrap .i64 ((n:Int) * 2)=((n * 2:Nat):Int):=by rw[IntKind.wrap_i64];omega
 rw[hw];by_cases h:65535<n * 2
 ·rw[decide_eq_true (show(65535:Int)<((n * 2:Nat):Int)by omega),if_pos h,andN (by omega)]
  have h4:(4129:Int)=((4129:Nat):Int):=rfl;rw[h4,xorN (Nat.lt_of_le_of_lt Nat.and_le_right (by decide)) (by decide)];rfl
 ·rw[decide_eq_false (show ¬ (65535:Int)<((n * 2:Nat):Int)by omega),if_neg h]
  rfl
theorem y3eb (a : List UInt8) (k : Int) (i : Nat) (s : Int) : ∀ (q j : Nat) {n : Nat}, n < 65536 -> ye (yyj a k i s) q j (n : Int) = .ok ((crB8 q n : Nat) : Int)
 | 0,_,_,_=>rfl
 | q+1,j,n,hn=>by
  simp only[ye,ybdb a k i s j hn,crB8];exact y3eb a k i s q (j+1) (yxy hn)
theorem y6cb (a:List UInt8) (k:Int) (i:Nat) {n:Nat} (hn:n<65536):y2k a k i (n:Int)=.ok ((crcS n (a.getD i 0):Nat):Int):=by
 unfold y2k crcS;have hb:(a.getD i 0).toNat<256:=(a.getD i 0).toNat_lt;have h1:IntKind.wrap .i64 ((IntKind.wrap .i64 ((a.getD i 0).toNat:Int)) * 256)=(((a.getD i 0).toNat * 256:Nat):Int):=by rw[IntKind.wrap_i64,IntKind.wrap_i64];omega
 rw[h1,xorN hn (by omega),y3eb a k i _ 8 0 (yfo _ hn)]
theorem ydeb (a : List UInt8) (k : Int) : ∀ (q i : Nat) {n : Nat}, i + q = a.length -> n < 65536 -> ye (y2k a k) q i (n : Int) = .ok (((a.drop i).foldl crcS n : Nat) : Int)
 | 0,i,n,hi,_=>by rw[List.drop_eq_nil_of_le (by omega)];rfl
 | q+1,i,n,hi,hn=>by
  have hlt:i<a.length:=by omega
  simp only[ye,y6cb a k i hn];rw[ydeb a k q (i+1) (by omega) (ylj _ hn),List.drop_eq_getElem_cons hlt,List.foldl_cons,List.getD_eq_getElem?_getD,List.getElem?_eq_getElem hlt];rfl
theorem yzy (a:List UInt8):zu a 65535=((a.foldl crcS 65535:Nat):Int):=by
 unfold zu;have e:(!(ze 65535 0 65535))=false:=by decide
 rw[e,cond_false];have h:(65535:Int)=((65535:Nat):Int):=rfl;rw[h,Nat.sub_zero,ydeb a _ a.length 0 (by omega) (by decide)];rfl
theorem ywbb {l:List UInt8} {k:Nat} {x:UInt8} (hk:k<l.length) (hx:x≠l.getD k 0):zu (l.set k x) 65535≠zu l 65535:=by
 rw[yzy,yzy];intro h;exact yl3 (s:=65535) (by decide) hk hx (by omega)
end Go.Ab
