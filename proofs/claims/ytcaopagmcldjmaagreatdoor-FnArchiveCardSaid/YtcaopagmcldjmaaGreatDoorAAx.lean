/- A part of a proof: walks of functions and lemmas of our own. No conditions. -/
import Derived.Test.YtcaopagmcldjmaaGreatDoorAAi
import Derived.Test.YtcaopagmcldjmaaGreatDoorAAn
import Derived.Test.YtcaopagmcldjmaaGreatDoorAAq
import Derived.Test.YtcaopagmcldjmaaGreatDoorAAu
import Derived.Test.YtcaopagmcldjmaaGreatDoorAAl
import Derived.Test.YtcaopagmcldjmaaGreatDoorAAr
import Derived.Test.YtcaopagmcldjmaaGreatDoorAAo
set_option linter.unusedSectionVars false
set_option linter.unusedVariables false
set_option linter.unusedSimpArgs false
set_option maxHeartbeats 1000000

namespace Go.Ab
open Go Go.Proofs
def yoh (a:List Item):Prop:=a.Pairwise (fun x y=>Op.bytesLess x.Key y.Key=true)
theorem yzo (a:List Item) (h:∀ i,i+1<a.length->Op.bytesLess (a.getD i default).Key (a.getD (i+1) default).Key=true):yoh a:=by
 induction a with
 | nil=>exact List.Pairwise.nil
 | cons x t ih=>
  have ht:yoh t:=ih fun i hi=>by
   have:=h (i+1) (by simpa using hi);simpa using this
  refine List.pairwise_cons.2 ⟨?_,ht⟩;intro y hy
  cases t with
  | nil=>simp at hy
  | cons z t=>
   have h0:=h 0 (by simp);simp at h0
   rcases List.mem_cons.1 hy with rfl|hy
   ·exact h0
   ·exact y4h _ _ _ h0 ((List.pairwise_cons.1 ht).1 y hy)
theorem yts (a:List Item) (h:zmb a=true) (hl:a.length<9223372036854775808):yoh a:=by
 unfold zmb at h;split at h
 ·rename_i e he
  obtain⟨j,t,h1,h2,h3⟩:=yvb he;simp only[y4e,Bool.cond_eq_ite]at h3;split at h3
  ·simp only[Except.error.injEq]at h3;rw[<- h3]at h;cases h
  ·cases h3
 ·rename_i s hs
  refine yzo a fun i hi => ?_
  rcases ypo (b:=y4e a) (fun i=>((!(zsc (a.getD i default))) || (decide (0<(i:Int)) && !(Op.bytesLess ((a.getD ((IntKind.wrap .i64 ((i:Int)-1)).toNat) default).Key) ((a.getD i default).Key))))) false a.length (fun j u _=>rfl)with⟨g,_⟩|⟨_,g⟩
  ·have:=g (i+1) hi
   simp only[Bool.or_eq_false_iff]at this;have h2:=this.2;rw[y2j (by omega) (by omega)]at h2;simp only[Nat.add_sub_cancel,Bool.and_eq_false_iff,decide_eq_false_iff_not,Bool.not_eq_false']at h2;rcases h2 with h2|h2
   ·omega
   ·exact h2
  ·rw[g]at hs;cases hs
def yib (x : Item) : List Item -> List Item
 | []=>[x]
 | y::t=>bif Op.bytesLess y.Key x.Key then y::yib x t else(bif y.Key == x.Key then x::t else x::y::t)
theorem yep (x : Item) : ∀ a : List Item, yoh a -> yoh (yib x a) /\ ∀ v, v ∈ yib x a -> v ∈ a \/ v = x
 | [],_=>by simp[yib,yoh]
 | y::t,h=>by
  obtain⟨h1,h2⟩:=List.pairwise_cons.1 h;obtain⟨i1,i2⟩:=yep x t h2;simp only[yib]
  cases hc:Op.bytesLess y.Key x.Key with
  | true=>
   refine⟨List.pairwise_cons.2 ⟨fun v hv => ?_,i1⟩,fun v hv => ?_⟩
   ·rcases i2 v hv with hv|rfl
    ·exact h1 v hv
    ·exact hc
   ·rcases List.mem_cons.1 hv with rfl|hv
    ·simp
    ·rcases i2 v hv with hv|rfl<;>simp_all
  | false=>
   cases he:y.Key == x.Key with
   | true=>
    have he2:y.Key=x.Key:=by simpa using he
    refine⟨List.pairwise_cons.2 ⟨fun v hv => ?_,h2⟩,fun v hv => ?_⟩
    ·rw[<- he2];exact h1 v hv
    ·simp only[cond_false,cond_true]at hv
     rcases List.mem_cons.1 hv with rfl|hv
     ·simp
     ·simp[hv]
   | false=>
    have hlt:=yrh _ _ hc (by simpa using he);refine⟨List.pairwise_cons.2 ⟨fun v hv => ?_,h⟩,fun v hv => ?_⟩
    ·rcases List.mem_cons.1 hv with rfl|hv
     ·exact hlt
     ·exact y4h _ _ _ hlt (h1 v hv)
    ·simp only[cond_false]at hv
     rcases List.mem_cons.1 hv with rfl|hv
     ·simp
     ·exact .inl hv
theorem y4l (x:Item):∀ (a:List Item) (j:Nat),j<=a.length->(∀ q,q<j->Op.bytesLess (a.getD q default).Key x.Key=true)->(j=a.length\/Op.bytesLess (a.getD j default).Key x.Key=false) ->
  yib x a=(bif decide (j<a.length/\(a.getD j default).Key=x.Key)then a.set j x else a.take j++[x]++a.drop j)
 | [],j,h,_,_=>by
  have:j=0:=by simpa using h
  subst this;simp[yib]
 | y::t,0,_,_,h=>by
  have hy:Op.bytesLess y.Key x.Key=false:=by
   rcases h with h|h
   ·simp at h
   ·simpa using h
  simp only[yib,hy,cond_false];by_cases he:y.Key=x.Key
  ·simp[he]
  ·have h5:(y.Key == x.Key)=false:=by simpa using he
   simp[he,h5]
 | y::t,j+1,h1,h2,h3=>by
  have hy:Op.bytesLess y.Key x.Key=true:=by simpa using h2 0 (by omega)
  simp only[yib,hy,cond_true];rw[y4l x t j (by simpa using h1) (fun q hq=>by simpa using h2 (q+1) (by omega)) (by simpa using h3)];by_cases hd:j<t.length/\(t.getD j default).Key=x.Key
  ·have hd2:j+1<(y::t).length/\((y::t).getD (j+1) default).Key=x.Key:=by simpa using hd
   rw[decide_eq_true hd,decide_eq_true hd2];simp
  ·have hd2:¬ (j+1<(y::t).length/\((y::t).getD (j+1) default).Key=x.Key):=by simpa using hd
   rw[decide_eq_false hd,decide_eq_false hd2];simp
theorem yow (a:List Item) (x:Item) (hl:a.length<9223372036854775808):zid a x=yib x a:=by
 unfold zid;simp only[yzf];obtain⟨j,h1,h2,h3,h4⟩:=yun a x.Key hl;rw[h4,y4l x a j h1 h2 h3];simp only[zhd,Int.toNat_natCast];cases decide (j<a.length/\(a.getD j default).Key=x.Key)<;>rfl
theorem ynp {b:Nat->Unit->Except Bool Unit} {n:Nat} {p:Nat->Bool} {x:Bool} (hb:∀ j u,j<n->b j u=bif p j then .error false else .ok ()) :
  ((match yf b (n-0) 0 ()with|.error e=>e|.ok _=>x)=true)↔(∀ j,j<n->p j=false)/\x=true:=by
 rw[ydd (b:=b) p false (fun j u _ h=>hb j u (by omega))];simp only[Nat.sub_zero,Nat.zero_add]
 cases h:(List.range n).any (fun j=>p j)with
 | true=>
  simp only[cond_true];obtain⟨j,h1,h2⟩:=List.any_eq_true.1 h;constructor
  ·intro h;cases h
  ·rintro⟨h3,_⟩;rw[h3 j (List.mem_range.1 h1)]at h2;cases h2
 | false=>
  simp only[cond_false];rw[List.any_eq_false]at h;exact⟨fun hx=>⟨fun j hj=>by simpa using h j (List.mem_range.2 hj),hx⟩,fun hx=>hx.2⟩
theorem y5v (a:List UInt8):zqc a=true↔a≠[]/\a.length<=10/\∀ j,j<a.length->((97<=(a.getD j 0).toNat/\(a.getD j 0).toNat<=122)\/(j≠0/\48<=(a.getD j 0).toNat/\(a.getD j 0).toNat<=57)):=by
 unfold zqc;refine(ynp (n:=a.length) (p:=fun j=>_) (fun j u _=>by rfl)).trans ?_;simp only[zx,zig,Bool.and_eq_true,bne_iff_ne,decide_eq_true_eq];constructor
 ·rintro⟨h1,h2,h3⟩
  refine⟨h2,by omega,fun j hj => ?_⟩;have:=h1 j hj;simp[-List.getD_eq_getElem?_getD]at this
  omega
 ·rintro⟨h2,h3,h1⟩
  refine⟨fun j hj => ?_,h2,by omega⟩;have:=h1 j hj;simp[-List.getD_eq_getElem?_getD]
  omega
theorem y2b (a:List UInt8):ztb a=true↔a≠[]/\a.length<=10/\∀ j,j<a.length->((97<=(a.getD j 0).toNat/\(a.getD j 0).toNat<=122)\/(j≠0/\48<=(a.getD j 0).toNat/\(a.getD j 0).toNat<=57)):=by
 unfold ztb;by_cases hn:a=[]
 ·subst hn;simp
 by_cases h10:10<a.length
 ·have:((a == []) || decide (10<(a.length:Int)))=true:=by simp;right;omega
  rw[this];simp;omega
 have hp:0<a.length:=by cases a<;>simp_all
 have:((a == []) || decide (10<(a.length:Int)))=false:=by simp;exact⟨hn,by omega⟩
 rw[this];by_cases hs:zye ((a.getD 0 0).toNat:Int)=true
 ·rw[hs]
  refine(ynp (n:=a.length) (p:=fun j=>_) (fun j u _=>by rfl)).trans ?_;simp only[zye,Bool.and_eq_true,decide_eq_true_eq]at hs;constructor
  ·rintro⟨h1,_⟩
   refine⟨hn,by omega,fun j hj => ?_⟩;have:=h1 j hj;simp[zye,zhg,-List.getD_eq_getElem?_getD]at this
   by_cases hj0:j=0
   ·subst hj0;omega
   ·omega
  ·rintro⟨_,_,h1⟩
   refine⟨fun j hj => ?_,rfl⟩;have:=h1 j hj;simp[zye,zhg,-List.getD_eq_getElem?_getD]
   omega
 ·have hs':zye ((a.getD 0 0).toNat:Int)=false:=by simpa using hs
  rw[hs'];simp only[Bool.not_false,Bool.or_true,cond_true];constructor
  ·intro h;cases h
  ·rintro⟨_,_,h1⟩
   have:=h1 0 hp;exfalso;apply hs;simp[zye,-List.getD_eq_getElem?_getD]
   simp[-List.getD_eq_getElem?_getD]at this
   omega
theorem ywr (a:List UInt8):zqc a=ztb a:=Bool.eq_iff_iff.2 ((y5v a).trans (y2b a).symm)
theorem y6v (c:List UInt8):zbg c=zsg c:=by
 unfold zbg zsg
 match c with
 | []=>rfl
 | [b]=>
  simp only[List.length_singleton,zbc,List.getD_cons_zero,Go.Lib.indexByte];by_cases h1:b=87
  ·subst h1;rfl
  by_cases h2:b=82
  ·subst h2;rfl
  by_cases h3:b=71
  ·subst h3;rfl
  by_cases h4:b=89
  ·subst h4;rfl
  have e:∀ x:UInt8,b≠x->([b] == [x])=false:=by intro x h;simp[h]
  rw[e _ h1,e _ h2,e _ h3,e _ h4];have n1:¬ (87:UInt8)=b:=fun h=>h1 h.symm
  have n2:¬ (82:UInt8)=b:=fun h=>h2 h.symm
  have n3:¬ (71:UInt8)=b:=fun h=>h3 h.symm
  have n4:¬ (89:UInt8)=b:=fun h=>h4 h.symm
  simp[n1,n2,n3,n4]
 | a::b::t=>
  have e:∀ x:UInt8,((a::b::t) == [x])=false:=by intro x;simp
  rw[e,e,e,e];have:(((a::b::t).length:Int) == 1)=false:=by simp;omega
  rw[this];rfl
theorem yfy (s:Sector):zcg s=zzd s:=by
 unfold zcg zzd zvg;rw[y6v];rfl
theorem yk6 (a:Int):a.tmod 360=if 0<=a then a % 360 else -((-a) % 360):=by
 split
 ·rw[Int.tmod_eq_emod_of_nonneg (by omega)]
 ·have e:a = -(-a):=by omega
  rw[e,Int.neg_tmod,Int.tmod_eq_emod_of_nonneg (by omega)];simp
theorem ylp (a:Int):zdf a 360=a % 360:=by
 unfold zdf;rw[yk6 a]
 have e:IntKind.wrap .i64 ((if 0<=a then a % 360 else -((-a) % 360))+360)=(if 0<=a then a % 360 else -((-a) % 360))+360:=by
  rw[IntKind.wrap_i64];split<;>omega
 rw[e,yk6];split<;>split<;>omega
def brg (n:Int):Prop:=0<=n/\n<=359
theorem w64 {x:Int} (h1 : -9223372036854775808<=x) (h2:x<=9223372036854775807):IntKind.wrap .i64 x=x:=by rw[IntKind.wrap_i64];omega
def ygc (s:Sector):Int:=(s.To-s.From-1) % 360+1
theorem y2t (s:Sector) (h1:brg s.From) (h2:brg s.To):zxd s=ygc s:=by
 obtain⟨a1,a2⟩:=h1;obtain⟨b1,b2⟩:=h2;unfold zxd ygc;rw[w64 (x:=s.To-s.From) (by omega) (by omega),w64 (x:=s.To-s.From-1) (by omega) (by omega),ylp,w64 (by omega) (by omega)]
theorem y2u (s:Sector) (h1:brg s.From) (h2:brg s.To):zxg s=ygc s:=by
 obtain⟨a1,a2⟩:=h1;obtain⟨b1,b2⟩:=h2;unfold zxg ygc;rw[w64 (x:=s.To-s.From) (by omega) (by omega),w64 (x:=s.To-s.From+360) (by omega) (by omega),yk6,if_pos (by omega)]
 cases hb:((s.To-s.From+360) % 360 == 0)with
 | true=>have:=eq_of_beq hb;simp only[cond_true];omega
 | false=>
  have:(s.To-s.From+360) % 360≠0:=by intro h;rw[h]at hb;exact absurd hb (by decide)
  simp only[cond_false];omega
theorem yhu (s:Sector) (b:Int) (h1:brg s.From) (h2:brg s.To) (h3:brg b):zlf s b=decide ((b-s.From) % 360<ygc s):=by
 unfold zlf;obtain⟨a1,a2⟩:=h1;obtain⟨c1,c2⟩:=h3;rw[w64 (x:=b-s.From) (by omega) (by omega),ylp,y2t s ⟨a1,a2⟩ h2]
theorem y9g (s:Sector):1<=ygc s/\ygc s<=360:=by unfold ygc;omega
def itR {σ : Type} (g : Nat -> σ -> σ) : Nat -> Nat -> σ -> σ
 | 0,_,s=>s
 | k+1,i,s=>itR g k (i+1) (g i s)
theorem yeg {σ : Type} (g : Nat -> σ -> σ) : ∀ (k i : Nat) (s : σ), itR g (k + 1) i s = g (i + k) (itR g k i s)
 | 0,i,s=>rfl
 | k+1,i,s=>by
  have:=yeg g k (i+1) (g i s);rw[show itR g (k+1+1) i s=itR g (k+1) (i+1) (g i s)from rfl,this,show i+1+k=i+(k+1)by omega];rfl
theorem ymc {ρ σ:Type} {b:Nat->σ->Except ρ σ} (p:Nat->Bool) (g:Nat->σ->σ) (r:ρ):∀ {k i:Nat} {s:σ},(∀ j u,i<=j->j<i+k->b j u=bif p j then .error r else .ok (g j u)) ->
  ((∃ j,i<=j/\j<i+k/\p j=true)/\yf b k i s=.error r)\/((∀ j,i<=j->j<i+k->p j=false)/\yf b k i s=.ok (itR g k i s))
 | 0,i,s,_=>.inr ⟨fun j h1 h2=>by omega,rfl⟩
 | k+1,i,s,hb=>by
  simp only[yf,hb i s (Nat.le_refl _) (by omega)]
  cases hp:p i with
  | true=>exact .inl ⟨⟨i,Nat.le_refl _,by omega,hp⟩,rfl⟩
  | false=>
   simp only[cond_false];rcases ymc p g r (k:=k) (i:=i+1) (s:=g i s) (fun j u h1 h2=>hb j u (by omega) (by omega))with⟨⟨j,h1,h2,h3⟩,h4⟩|⟨h1,h2⟩
   ·exact .inl ⟨⟨j,by omega,by omega,h3⟩,h4⟩
   ·refine .inr ⟨fun j h3 h4 => ?_,h2⟩
    by_cases hji:j=i
    ·subst hji;exact hp
    ·exact h1 j (by omega) (by omega)
theorem yth {ρ:Type} {b:Int->Except (Sum ρ Int) Int} (q:Nat->Bool) (r:ρ) (n:Nat) (hb:∀ j:Nat,j<=n->b (j:Int)=bif decide (j<n)then(bif q j then .error (.inl r)else .ok ((j+1:Nat):Int))else .error (.inr (j:Int))) :
  ∀ (m i k:Nat),i+m=n->m<k->((∃ j,i<=j/\j<n/\q j=true)/\yeb b k (i:Int)=.error (.inl r))\/((∀ j,i<=j->j<n->q j=false)/\yeb b k (i:Int)=.error (.inr (n:Int)))
 | _,_,0,_,h=>absurd h (Nat.not_lt_zero _)
 | 0,i,k+1,e,_=>by
  have:i=n:=by omega
  subst this;right
  refine⟨fun j h1 h2=>by omega,?_⟩;simp only[yeb,hb i (Nat.le_refl _),Nat.lt_irrefl,decide_false,cond_false]
 | m+1,i,k+1,e,hk=>by
  simp only[yeb,hb i (by omega),show i<n by omega,decide_true,cond_true]
  cases hq:q i with
  | true=>exact .inl ⟨⟨i,Nat.le_refl _,by omega,hq⟩,rfl⟩
  | false=>
   simp only[cond_false];rcases yth q r n hb m (i+1) k (by omega) (by omega)with⟨⟨j,h1,h2,h3⟩,h4⟩|⟨h1,h2⟩
   ·exact .inl ⟨⟨j,by omega,h2,h3⟩,h4⟩
   ·refine .inr ⟨fun j h3 h4 => ?_,h2⟩
    by_cases hji:j=i
    ·subst hji;exact hq
    ·exact h1 j (by omega) h4
theorem ybd (a:List Item):zab a=zmb a:=by
 unfold zab zmb
 have:ydj a=y4e a:=by
  funext i s
  unfold ydj y4e zag zsc;rw[ywr];rfl
 rw[this];rfl
theorem ywq {l:List Item} (h:zmb l=true):∀ i,i<l.length->zsc (l.getD i default)=true:=by
 unfold zmb at h;rcases ymc (b:=y4e l) (fun j=>(!(zsc (l.getD j default))) || (decide (0<(j:Int)) && (!(Op.bytesLess ((l.getD ((IntKind.wrap .i64 ((j:Int)-1)).toNat) default).Key) ((l.getD j default).Key))))) (fun _ u=>u) false (k:=l.length-0) (i:=0) (s:=()) (fun j u _ _=>by cases u;rfl)with⟨_,e1⟩|⟨hq,_⟩
 ·rw[e1]at h;cases h
 ·intro i hi
  have:=hq i (Nat.zero_le _) (by omega);rw[Bool.or_eq_false_iff]at this;simpa using this.1
theorem yxv {l:List Item} (h:(!zmb l)=false) (i:Nat) (hi:i<l.length):(l.getD i default).Key.length<=10/\(l.getD i default).Text.length<=400:=by
 have h1:=ywq (by simpa using h) i hi;unfold zsc at h1;rw[Bool.and_eq_true,decide_eq_true_eq]at h1;exact⟨((y2b _).1 h1.1).2.1,by omega⟩
theorem yil {l:List Item} (h:(!zab l)=false) (i:Nat) (hi:i<l.length):(l.getD i default).Key.length<=10/\(l.getD i default).Text.length<=400:=by
 rw[ybd]at h;exact yxv h i hi
structure OkI (l:List Item):Prop where
 r:yoh l
 o:∀ v∈l,zsc v=true
 n:l.length<=40
theorem getI {α:Type} [Inhabited α] {l:List α} {i:Nat} (h:i<l.length):l.getD i default=l[i]:=by
 rw[List.getD_eq_getElem?_getD,List.getElem?_eq_getElem h,Option.getD_some]
theorem ymp {l:List Item} (h:zmb l=true):OkI l:=by
 have hn:=yfz l h;refine⟨yts l h (by omega),fun v hv => ?_,hn⟩;obtain⟨i,hi,e⟩:=List.getElem_of_mem hv;have:=ywq h i hi;rw[getI hi,e]at this;exact this
theorem ynn {l:List Item} (h:yoh l) {i j:Nat} (hij:i<j) (hj:j<l.length):Op.bytesLess (l.getD i default).Key (l.getD j default).Key=true:=by
 rw[getI (by omega:i<l.length),getI hj];exact List.pairwise_iff_getElem.1 h i j (by omega) hj hij
theorem yi4 {l:List Item} (h:OkI l):zmb l=true:=by
 have hn:=h.n;unfold zmb;rcases ymc (b:=y4e l) (fun i=>((!(zsc (l.getD i default))) || (decide (0<(i:Int)) && !(Op.bytesLess ((l.getD ((IntKind.wrap .i64 ((i:Int)-1)).toNat) default).Key) ((l.getD i default).Key))))) (fun _ u=>u) false (k:=l.length-0) (i:=0) (s:=()) (fun j u _ _=>by cases u;rfl)with⟨⟨j,_,hj,hp⟩,_⟩|⟨_,e⟩
 ·exfalso
  have hj:j<l.length:=by omega
  have h1:=h.o _ (List.getElem_mem hj);rw[<- getI hj]at h1;simp only[h1,Bool.not_true,Bool.false_or,Bool.and_eq_true,decide_eq_true_eq,Bool.not_eq_true']at hp;have hw:(IntKind.wrap .i64 ((j:Int)-1)).toNat=j-1:=by rw[IntKind.wrap_i64];omega
  rw[hw,ynn h.r (by omega) hj]at hp;exact absurd hp.2 (by simp)
 ·rw[e]
  exact decide_eq_true (by omega)
theorem y2e {l:List Item} (h:OkI l):zab l=true:=by rw[ybd];exact yi4 h
theorem yyx (x : Item) : ∀ a : List Item, x ∈ yib x a
 | []=>by simp[yib]
 | y::t=>by
  simp only[yib]
  cases Op.bytesLess y.Key x.Key with
  | true=>simp[yyx x t]
  | false=>cases y.Key == x.Key<;>simp
theorem ywu (x v : Item) (hk : v.Key ≠ x.Key) : ∀ a : List Item, v ∈ a -> v ∈ yib x a
 | [],h=>by simp at h
 | y::t,h=>by
  simp only[yib];rcases List.mem_cons.1 h with rfl|h
  ·cases Op.bytesLess v.Key x.Key with
   | true=>simp
   | false=>
    rw[show(v.Key == x.Key)=false by simpa using hk];simp
  ·cases Op.bytesLess y.Key x.Key with
   | true=>simp[ywu x v hk t h]
   | false=>cases y.Key == x.Key<;>simp[h]
theorem yh4 (x : Item) : ∀ a : List Item, yoh a -> x ∈ a -> yib x a = a
 | [],_,h=>by simp at h
 | y::t,hr,h=>by
  obtain⟨h1,h2⟩:=List.pairwise_cons.1 hr;simp only[yib];rcases List.mem_cons.1 h with rfl|h
  ·rw[yhe];simp
  ·rw[h1 x h,cond_true,yh4 x t h2 h]
def yve (a b:List Item):List Item:=b.foldl (fun s x=>yib x s) a
theorem ynw (a:List Item) (x:Item) (b:List Item):yve a (x::b)=yve (yib x a) b:=rfl
theorem ysh : ∀ (b a : List Item), yoh a -> yoh (yve a b) /\ ∀ v, v ∈ yve a b -> v ∈ a \/ v ∈ b
 | [],a,h=>⟨h,fun v hv=>.inl hv⟩
 | x::b,a,h=>by
  obtain⟨h1,h2⟩:=yep x a h;obtain⟨h3,h4⟩:=ysh b (yib x a) h1;refine⟨h3,fun v hv => ?_⟩;rcases h4 v hv with hv|hv
  ·rcases h2 v hv with hv|rfl
   ·exact .inl hv
   ·exact .inr (by simp)
  ·exact .inr (List.mem_cons_of_mem _ hv)
theorem y0p (v : Item) : ∀ (b a : List Item), (∀ x ∈ b, v.Key ≠ x.Key) -> v ∈ a -> v ∈ yve a b
 | [],a,_,h=>h
 | x::b,a,hb,h=>y0p v b (yib x a) (fun y hy=>hb y (List.mem_cons_of_mem _ hy)) (ywu x v (hb x (by simp)) a h)
theorem ylu : ∀ (b a : List Item), yoh b -> ∀ x ∈ b, x ∈ yve a b
 | [],_,_,x,h=>by simp at h
 | y::b,a,hr,x,h=>by
  obtain⟨h1,h2⟩:=List.pairwise_cons.1 hr;rcases List.mem_cons.1 h with rfl|h
  ·refine y0p x b (yib x a) (fun z hz e => ?_) (yyx x a)
   have:=h1 z hz;rw[e,yhe]at this;cases this
  ·exact ylu b (yib y a) h2 x h
theorem yvy (m : List Item) (hm : yoh m) : ∀ b : List Item, (∀ x ∈ b, x ∈ m) -> yve m b = m
 | [],_=>rfl
 | x::b,h=>by
  rw[ynw,yh4 x m hm (h x (by simp))];exact yvy m hm b (fun y hy=>h y (List.mem_cons_of_mem _ hy))
theorem ytp : ∀ (t s : List Item), s.length + t.length < 9223372036854775808 -> y1h (ρ := List Item × Int) (fun x s => .ok (zid s x)) t s = .ok (yve s t)
 | [],s,_=>rfl
 | x::t,s,h=>by
  simp only[List.length_cons]at h;have hl:=yxw s x;simp only[y1h];rw[ytp t _ (by omega),yow s x (by omega)];rfl
theorem ylj {a b:List Item} (ha:OkI a) (hb:OkI b):zt a b=bif decide ((yve a b).length<=40)then(yve a b,0)else([],5):=by
 have n1:=ha.n;have n2:=hb.n;unfold zt;rw[y2e ha,y2e hb];simp only[Bool.not_true,Bool.or_self,cond_false,yzf];rw[yvc (b:=yrv a b) (fun x s=>.ok (zid s x)) b a (fun j u hj=>rfl),ytp b a (by omega)];simp only[zx];by_cases h3:(yve a b).length<=40
 ·rw[decide_eq_true h3,decide_eq_true (show((yve a b).length:Int)<=40 by omega)];rfl
 ·rw[decide_eq_false h3,decide_eq_false (show ¬ ((yve a b).length:Int)<=40 by omega)];rfl
theorem y22 {a b:List Item} (h:(zt a b).2=0):OkI a/\OkI b/\(zt a b).1=yve a b/\OkI (yve a b):=by
 have hv:zmb a=true/\zmb b=true:=by
  unfold zt at h;rw[ybd,ybd]at h;cases h1:zmb a<;>cases h2:zmb b<;>rw[h1,h2]at h<;>first|exact⟨rfl,rfl⟩|(simp at h)
 have ha:=ymp hv.1;have hb:=ymp hv.2;have e:=ylj ha hb;refine⟨ha,hb,?_⟩;rw[e]at h ⊢;by_cases h3:(yve a b).length<=40
 ·rw[decide_eq_true h3,cond_true]at h ⊢
  obtain⟨q1,q2⟩:=ysh b a ha.r;exact⟨rfl,q1,fun v hv=>(q2 v hv).elim (ha.o v) (hb.o v),h3⟩
 ·rw[decide_eq_false h3,cond_false]at h
  cases h
theorem yos {m b:List Item} (hm:OkI m) (hb:OkI b) (h:∀ x∈b,x∈m):zt m b=(m,0):=by
 rw[ylj hm hb,yvy m hm.r b h,decide_eq_true hm.n];rfl
theorem y1v {m:List Item} (hm:OkI m) {x:Item} (hx:x∈m):zef m x.Key=(x.Text,0):=by
 have hn:=hm.n;obtain⟨i,hi,e⟩:=List.getElem_of_mem hx;rw[<- getI hi]at e;obtain⟨j,h1,h2,h3,h4⟩:=yun m x.Key (by omega)
 have hj:j=i:=by
  rcases Nat.lt_trichotomy j i with h|h|h
  ·have h5:=ynn hm.r h hi
   rw[e]at h5;rcases h3 with h3|h3
   ·omega
   ·rw[h5]at h3;cases h3
  ·exact h
  ·have h5:=h2 i h
   rw[e,yhe]at h5;cases h5
 subst hj;unfold zef;rw[y2e hm,h4];simp only[Int.toNat_natCast,e];simp[hi]
def yqp (a0:Character) (i1:Nat) (s1:List Int):Except ((List Int)) (List Int):=
 (bif decide (0<(i1:Int))then .ok ((s1++([5]:List Int))++([((zwb ((a0.Letter.getD 0 0).toNat:Int)).getD i1 default)]:List Int))else .ok (s1++([((zwb ((a0.Letter.getD 0 0).toNat:Int)).getD i1 default)]:List Int)))
def ygr (a0:Character) (i2:Nat) (s2:List Int) (i3:Nat) (s3:List Int):Except ((List Int)) (List Int):=
 (bif decide (0<(i3:Int))then .ok ((s3++([(zkc a0.Kind)]:List Int))++([(zke a0.Kind)]:List Int))else(bif decide (0<(i2:Int))then .ok ((s3++([IntKind.wrap .i64 ((zkc a0.Kind)+20)]:List Int))++([(zke a0.Kind)]:List Int))else .ok (s3++([(zke a0.Kind)]:List Int))))
def yer (a0:Character) (i2:Nat) (s2:List Int):Except ((List Int)) (List Int):=
 (match yf (ygr a0 i2 s2) (((([1]:List Int).getD i2 default)).toNat-0) 0 s2 with|.error e=>.error e|.ok s3=>.ok s3)
def yvq (a0:Character) (i4:Nat) (s4:List Int) (i5:Nat) (s5:List Int):Except ((List Int)) (List Int):=
 (bif decide (0<(i5:Int))then .ok ((s5++([(zkc a0.Kind)]:List Int))++([(zke a0.Kind)]:List Int))else(bif decide (0<(i4:Int))then .ok ((s5++([IntKind.wrap .i64 ((zkc a0.Kind)+20)]:List Int))++([(zke a0.Kind)]:List Int))else .ok (s5++([(zke a0.Kind)]:List Int))))
def ysp (a0:Character) (i4:Nat) (s4:List Int):Except ((List Int)) (List Int):=
 (match yf (yvq a0 i4 s4) (((a0.Group.getD i4 default)).toNat-0) 0 s4 with|.error e=>.error e|.ok s5=>.ok s5)
def zw (a0:Character):(List Int):=
 (bif (a0.Kind == 8)then(match yf (yqp a0) (((zwb ((a0.Letter.getD 0 0).toNat:Int)).length)-0) 0 ([]:List Int)with|.error e=>e|.ok s1=>s1)else(bif ((a0.Group.length:Int) == 0)then(match yf (yer a0) (1-0) 0 ([]:List Int)with|.error e=>e|.ok s2=>(bif (a0.Letter == [76])then s2++([(zkc a0.Kind),20]:List Int)else s2))else(match yf (ysp a0) (a0.Group.length-0) 0 ([]:List Int)with|.error e=>e|.ok s4=>(bif (a0.Letter == [76])then s4++([(zkc a0.Kind),20]:List Int)else s4))))
namespace N211
theorem DD:DOk Tryz.prog (Go.Ab.DD [(222,dP D_zwb),(223,dP D_zkc),(224,dP D_zke)]):=ya yw1.e <| ya yst.e <| ya yh2.e <| yd _
theorem dn:type_of% (And.intro @D_zwb.eq_1 <| And.intro @D_zkc.eq_1 <| @D_zke.eq_1):=by and_intros<;>intros<;>rfl
theorem o2 {p:Prop} (h:p:=by(first|(and_intros<;>first|decide|omega|(simp;(first|done|fail))|(rw[IntKind.wrap_i64];have:=hg9 i4;omega)|(rw[IntKind.wrap_i64];have:=hg1 i2;omega)|(rw[IntKind.wrap_i64];omega)|(intro i hi;exact ygh _ _ i hi)|(intro i hi;exact ymq _ _ _ i hi)));first|done|fail):p:=h
theorem o3 {p:Prop} (h:p:=by(first|(refine⟨⟨Nat.le_refl _,fun i hi=>y3p _ _ _ i hi⟩,.inl fun i hi=>by rw[ywi _ _ _ i hi];simp[NoBorL,NoBor],by simp,fun i hi=>by rw[ywi _ _ _ i hi];exact yt _⟩));first|done|fail):p:=h
theorem lx {p:Prop} (h:p:=by(exact lxx);first|done|fail):p:=h
set_option maxHeartbeats 1000000 in
set_option maxRecDepth 20000 in
theorem den (a0:Character) (hb0:bdCharacter a0) (hp0:a0.Group.length<=4) (hp1:∀ v∈a0.Group,v<=9) (hp2:a0.Kind=8->a0.Letter.length=1/\65<=(a0.Letter.getD 0 0).toNat/\(a0.Letter.getD 0 0).toNat<=90):Den Tryz.prog 211 [.ep (yq a0)] (ownL 2 1 yv (zw a0)):=by
 generalize hR:zw a0=r;unfold zw at hR;refine di Tryz.func211 Tryz.ntmps211 Tryz.results211 ?_;intro c hL hc hk;obtain⟨hL0,_⟩:=hL;have hw0:bwCharacter a0:=yz a0 hL0;clear hL0;simp only[pars,Nat.zero_add];have hg9:∀ i:Nat,a0.Group.getD i default<=9:=fun i=>yym hp1 i
 have hs9:=y2o ((a0.Letter.getD 0 0).toNat:Int);have hg1:∀ i:Nat,([1]:List Int).getD i default<=9:=fun i=>yym (by simp) i
 iterate 3 refine rS ?_
 refine AWP.cond rfl (fun hb => ?_) (fun hb => ?_)
 ·replace hR:=ct hR
  iterate 2 refine rS ?_
  refine AWP.block ?_;generalize hz1:yf (yqp a0) (((zwb ((a0.Letter.getD 0 0).toNat:Int)).length)-0) 0 ([]:List Int)=z1 at hR;refine AWP.range (yqp a0) (fun i1 s1=>⟨[(3,.ref 0 1 0 s1.length),(4,.ref 1 1 0 ((zwb ((a0.Letter.getD 0 0).toNat:Int)).length)),(5,.int .i64 (i1:Int))],[.arr 2 1 s1.length (fun j=>yv (s1.getD j default)),.arr 2 1 (zwb ((a0.Letter.getD 0 0).toNat:Int)).length (fun j=>yv ((zwb ((a0.Letter.getD 0 0).toNat:Int)).getD j default))]⟩) (fun i1 s1=>s1.length<=([]:List Int).length+2 * i1/\s1.length<=2 * i1) (((zwb ((a0.Letter.getD 0 0).toNat:Int)).length)) 0 ([]:List Int) [0,1] hz1 ot wt sm ?_;clear hz1;intro i1 s1 hi1 hW1 hz1;refine rS ?_;refine AWP.cond rfl (fun hb => ?_) (fun hb => ?_)
  ·have hlt1:i1<((zwb ((a0.Letter.getD 0 0).toNat:Int)).length):=ot
   rw[yk hlt1]at hz1;simp only[yqp]at hz1;refine rS ?_;refine AWP.cond rfl (fun hb => ?_) (fun hb => ?_)
   ·simp only[hb,cond_true]at hz1
    iterate 3 refine rS ?_
    exact⟨_,[5,1],hlt1,wt,hz1,sm⟩
   ·simp only[hb,cond_false]at hz1
    iterate 2 refine rS ?_
    exact⟨_,[3,1],hlt1,wt,hz1,sm⟩
  ·obtain rfl:i1=((zwb ((a0.Letter.getD 0 0).toNat:Int)).length):=ot
   rw[yl (Nat.le_refl _)]at hz1;subst hz1;dsimp only at hR;refine AWP.exit ?_;refine yb ?_;refine rS ?_;refine AWP.ret ?_;subst hR;exact es
 ·replace hR:=cf hR
  iterate 2 refine rS ?_
  refine AWP.cond rfl (fun hb => ?_) (fun hb => ?_)
  ·replace hR:=ct hR
   iterate 2 refine rS ?_
   refine AWP.block ?_;generalize hz2:yf (yer a0) (1-0) 0 ([]:List Int)=z2 at hR;refine AWP.range (yer a0) (fun i2 s2=>⟨[(0,.ep (yq a0)),(3,.ref 0 1 0 s2.length),(6,.ref 1 1 0 1),(7,.int .i64 (i2:Int))],[.arr 2 1 s2.length (fun j=>yv (s2.getD j default)),.arr 2 1 ([1]:List Int).length (fun j=>yv (([1]:List Int).getD j default))]⟩) (fun i2 s2=>s2.length<=18 * i2) (1) 0 ([]:List Int) [0,1] hz2 ot wt sm ?_;clear hz2;intro i2 s2 hi2 hW2 hz2;refine rS ?_;refine AWP.cond rfl (fun hb => ?_) (fun hb => ?_)
   ·have hlt2:i2<1:=ot
    rw[yk hlt2]at hz2;simp only[yer]at hz2;refine rS ?_;refine AWP.block ?_;generalize hz3:yf (ygr a0 i2 s2) (((([1]:List Int).getD i2 default)).toNat-0) 0 s2=z3 at hz2;refine AWP.range (ygr a0 i2 s2) (fun i3 s3=>⟨[(0,.ep (yq a0)),(3,.ref 0 1 0 s3.length),(6,.ref 1 1 0 1),(7,.int .i64 (i2:Int)),(8,.int .i64 (i3:Int))],[.arr 2 1 s3.length (fun j=>yv (s3.getD j default)),.arr 2 1 ([1]:List Int).length (fun j=>yv (([1]:List Int).getD j default))]⟩) (fun i3 s3=>s3.length<=s2.length+2 * i3/\s3.length<=18 * i2+2 * i3) (((([1]:List Int).getD i2 default)).toNat) 0 s2 [0,1] hz3 ot wt sm ?_;clear hz3;intro i3 s3 hi3 hW3 hz3;refine rS ?_;refine AWP.cond rfl (fun hb => ?_) (fun hb => ?_)
    ·have hlt3:i3<((([1]:List Int).getD i2 default)).toNat:=ot
     rw[yk hlt3]at hz3;simp only[ygr]at hz3;refine rS ?_;refine AWP.cond rfl (fun hb => ?_) (fun hb => ?_)
     ·simp only[hb,cond_true]at hz3
      iterate 3 refine rS ?_
      exact⟨_,[5,1],hlt3,wt,hz3,sm⟩
     ·simp only[hb,cond_false]at hz3
      refine rS ?_;refine AWP.cond rfl (fun hb => ?_) (fun hb => ?_)
      ·simp only[hb,cond_true]at hz3
       iterate 3 refine rS ?_
       exact⟨_,[5,1],hlt3,wt,hz3,sm⟩
      ·simp only[hb,cond_false]at hz3
       iterate 2 refine rS ?_
       exact⟨_,[3,1],hlt3,wt,hz3,sm⟩
    ·obtain rfl:i3=((([1]:List Int).getD i2 default)).toNat:=ot
     rw[yl (Nat.le_refl _)]at hz3;subst hz3;dsimp only at hz2;refine AWP.exit ?_;refine yb ?_;refine rS ?_;exact⟨_,[0,1],hlt2,by(have h9:=hg1 i2;omega),hz2,sm⟩
   ·obtain rfl:i2=1:=ot
    rw[yl (Nat.le_refl _)]at hz2;subst hz2;dsimp only at hR;refine AWP.exit ?_;refine yb ?_;refine rS ?_;refine AWP.cond rfl (fun hb => ?_) (fun hb => ?_)
    ·replace hR:=ct hR
     iterate 2 refine rS ?_
     refine AWP.ret ?_;subst hR;exact es
    ·replace hR:=cf hR
     refine rS ?_;refine AWP.ret ?_;subst hR;exact es
  ·replace hR:=cf hR
   refine rS ?_;refine AWP.block ?_;refine AWP.lensS 6 rfl (fun hLn4 => ?_);generalize hz4:yf (ysp a0) (a0.Group.length-0) 0 ([]:List Int)=z4 at hR;refine AWP.range (ysp a0) (fun i4 s4=>⟨[(0,.ep (yq a0)),(3,.ref 0 1 0 s4.length),(6,encL 1 yv a0.Group),(7,.int .i64 (i4:Int))],[.arr 2 1 s4.length (fun j=>yv (s4.getD j default))]⟩) (fun i4 s4=>s4.length<=18 * i4) (a0.Group.length) 0 ([]:List Int) [0] hz4 ot wt sm ?_;clear hz4;intro i4 s4 hi4 hW4 hz4;refine rS ?_;refine AWP.cond rfl (fun hb => ?_) (fun hb => ?_)
   ·have hlt4:i4<a0.Group.length:=ot
    rw[yk hlt4]at hz4;simp only[ysp]at hz4;refine rS ?_;refine AWP.block ?_;generalize hz5:yf (yvq a0 i4 s4) (((a0.Group.getD i4 default)).toNat-0) 0 s4=z5 at hz4;refine AWP.range (yvq a0 i4 s4) (fun i5 s5=>⟨[(0,.ep (yq a0)),(3,.ref 0 1 0 s5.length),(6,encL 1 yv a0.Group),(7,.int .i64 (i4:Int)),(8,.int .i64 (i5:Int))],[.arr 2 1 s5.length (fun j=>yv (s5.getD j default))]⟩) (fun i5 s5=>s5.length<=s4.length+2 * i5/\s5.length<=18 * i4+2 * i5) (((a0.Group.getD i4 default)).toNat) 0 s4 [0] hz5 ot wt sm ?_;clear hz5;intro i5 s5 hi5 hW5 hz5;refine rS ?_;refine AWP.cond rfl (fun hb => ?_) (fun hb => ?_)
    ·have hlt5:i5<((a0.Group.getD i4 default)).toNat:=ot
     rw[yk hlt5]at hz5;simp only[yvq]at hz5;refine rS ?_;refine AWP.cond rfl (fun hb => ?_) (fun hb => ?_)
     ·simp only[hb,cond_true]at hz5
      iterate 3 refine rS ?_
      exact⟨_,[4],hlt5,wt,hz5,sm⟩
     ·simp only[hb,cond_false]at hz5
      refine rS ?_;refine AWP.cond rfl (fun hb => ?_) (fun hb => ?_)
      ·simp only[hb,cond_true]at hz5
       iterate 3 refine rS ?_
       exact⟨_,[4],hlt5,wt,hz5,sm⟩
      ·simp only[hb,cond_false]at hz5
       iterate 2 refine rS ?_
       exact⟨_,[2],hlt5,wt,hz5,sm⟩
    ·obtain rfl:i5=((a0.Group.getD i4 default)).toNat:=ot
     rw[yl (Nat.le_refl _)]at hz5;subst hz5;dsimp only at hz4;refine AWP.exit ?_;refine yb ?_;refine rS ?_;exact⟨_,[0],hlt4,by(have h9:=hg9 i4;omega),hz4,sm⟩
   ·obtain rfl:i4=a0.Group.length:=ot
    rw[yl (Nat.le_refl _)]at hz4;subst hz4;dsimp only at hR;refine AWP.exit ?_;refine yb ?_;refine rS ?_;refine AWP.cond rfl (fun hb => ?_) (fun hb => ?_)
    ·replace hR:=ct hR
     iterate 2 refine rS ?_
     refine AWP.ret ?_;subst hR;exact es
    ·replace hR:=cf hR
     refine rS ?_;refine AWP.ret ?_;subst hR;exact es
end N211
def D_zw : DF
 | [x0]=>some (ownL 2 1 yv (zw (rdP ye x0)),false,[wP yq ye x0,bdCharacter (rdP ye x0),(rdP ye x0).Group.length<=4,∀ v∈(rdP ye x0).Group,v<=9,(rdP ye x0).Kind=8->(rdP ye x0).Letter.length=1/\65<=((rdP ye x0).Letter.getD 0 0).toNat/\((rdP ye x0).Letter.getD 0 0).toNat<=90])
 | _=>none
theorem y34:OkD Tryz.prog 211 D_zw:=by unfold D_zw;exact dk N211.den
def zp (a0:Character):Int:=
 (bif (zkb a0)then 0 else(bif (a0.Kind == 3)then 20 else IntKind.wrap .i64 ((zbe (zw a0))+(zof a0))))
namespace N174
theorem DD:DOk Tryz.prog (Go.Ab.DD [(175,dP D_zkb),(210,dP D_zbe),(211,dP D_zw),(212,dP D_zof)]):=ya yit.e <| ya yvz.e <| ya y34.e <| ya yr2.e <| yd _
theorem dn:type_of% (And.intro @D_zkb.eq_1 <| And.intro @D_zbe.eq_1 <| And.intro @D_zw.eq_1 <| @D_zof.eq_1):=by and_intros<;>intros<;>rfl
theorem den (a0:Character) (hb0:bdCharacter a0) (hp0:a0.Group.length<=4) (hp1:∀ v∈a0.Group,v<=9) (hp2:a0.Kind=8->a0.Letter.length=1/\65<=(a0.Letter.getD 0 0).toNat/\(a0.Letter.getD 0 0).toNat<=90):Den Tryz.prog 174 [.ep (yq a0)] (.int .i64 (zp a0)):=by
 generalize hR:zp a0=r;unfold zp at hR;refine di Tryz.func174 Tryz.ntmps174 Tryz.results174 ?_;intro c hL hc hk;obtain⟨hL0,_⟩:=hL;have hw0:bwCharacter a0:=yz a0 hL0;clear hL0;simp only[pars,Nat.zero_add];iterate 2 refine rS ?_
 refine AWP.cond rfl (fun hb => ?_) (fun hb => ?_)
 ·replace hR:=ct hR
  refine rS ?_;refine AWP.ret ?_;subst hR;exact es
 ·replace hR:=cf hR
  refine rS ?_;refine AWP.cond rfl (fun hb => ?_) (fun hb => ?_)
  ·replace hR:=ct hR
   refine rS ?_;refine AWP.ret ?_;subst hR;exact es
  ·replace hR:=cf hR
   refine rS ?_;refine AWP.ret ?_;subst hR;exact es
end N174
def D_zp : DF
 | [x0]=>some (.int .i64 (zp (rdP ye x0)),false,[wP yq ye x0,bdCharacter (rdP ye x0),(rdP ye x0).Group.length<=4,∀ v∈(rdP ye x0).Group,v<=9,(rdP ye x0).Kind=8->(rdP ye x0).Letter.length=1/\65<=((rdP ye x0).Letter.getD 0 0).toNat/\((rdP ye x0).Letter.getD 0 0).toNat<=90])
 | _=>none
theorem yj6:OkD Tryz.prog 174 D_zp:=by unfold D_zp;exact dk N174.den
def zse (a0:Character):Bool:=
 (bif (!(ztg a0))then false else(bif (zkb a0)then(a0.Period == 0)else(bif ((a0.Kind == 3) && ((a0.Period.tmod 2) != 0))then false else(zv a0.Period (zp a0) 600))))
def zcd (a0:Aid):Bool:=
 (bif (((((!(zv a0.Number 1 9999)) || (!(ztb a0.Name))) || (!(zwf a0.At))) || (!(zv a0.Height 0 3000))) || (!(znf a0.Mark)))then false else(bif (zif a0.Light)then(((a0.Sectors.length:Int) == 0) && (a0.Intensity == 0))else(bif (((!(zse a0.Light)) || (!(zv a0.Intensity 1 100000000))) || (!(zpb a0.Sectors)))then false else(bif ((a0.Sectors.length:Int) == 0)then((a0.Light.Colors.length:Int) == 1)else((zlb a0.Sectors) == a0.Light.Colors)))))
def y3l (a0:(List Aid)) (i1:Nat) (s1:Unit):Except (Bool) (Unit):=
 (bif ((!(zcd (a0.getD i1 default))) || (decide (0<(i1:Int)) && decide (((a0.getD i1 default).Number)<=((a0.getD ((IntKind.wrap .i64 ((i1:Int)-1)).toNat) default).Number))))then .error false else .ok ())
def zme (a0:(List Aid)):Bool:=
 (match yf (y3l a0) (a0.length-0) 0 ()with|.error e=>e|.ok s1=>decide ((a0.length:Int)<=24))
def zpf (a0:Aid):Bool:=(a0.Light.Kind != 0)
def secQ (a:List Sector) (i:Nat):Bool:=(!(zzd (a.getD i default))) || (decide (0<(i:Int)) && decide (((a.getD i default).From)<=((a.getD ((IntKind.wrap .i64 ((i:Int)-1)).toNat) default).From)))
theorem y2m (a:List Sector) (i:Nat) (hi:i<9223372036854775807):secQ a i=false↔zzd (a.getD i default)=true/\(0<i->(a.getD (i-1) default).From<(a.getD i default).From):=by
 unfold secQ;rw[Bool.or_eq_false_iff,Bool.not_eq_false'];constructor
 ·rintro⟨h1,h2⟩
  refine⟨h1,fun h => ?_⟩;rw[y2j h (by omega)]at h2;simp only[Bool.and_eq_false_iff,decide_eq_false_iff_not]at h2;omega
 ·rintro⟨h1,h2⟩
  refine⟨h1,?_⟩;by_cases h:0<i
  ·rw[y2j h (by omega)]
   have:=h2 h;simp only[Bool.and_eq_false_iff,decide_eq_false_iff_not];omega
  ·simp only[Bool.and_eq_false_iff,decide_eq_false_iff_not];omega
theorem y0m {s:Sector} (h:zzd s=true):brg s.From/\brg s.To:=by
 unfold zzd zvg zv at h;simp only[Bool.and_eq_true,decide_eq_true_eq]at h;exact⟨⟨h.1.1.1,h.1.1.2⟩,h.1.2.1,h.1.2.2⟩
theorem y3x (a : List Sector) (n : Nat) : ∀ k, k <= 1000 -> 0 <= itR (fun i (s : Int) => s + ygc (a.getD i default)) k 0 0 /\ itR (fun i (s : Int) => s + ygc (a.getD i default)) k 0 0 <= 360 * k
 | 0,_=>by simp[itR]
 | k+1,h=>by
  have:=y3x a n k (by omega);rw[yeg];have:=y9g (a.getD (0+k) default);simp only[Nat.zero_add]at *;omega
theorem ysb (a:List Sector) (hl:a.length<9223372036854775807):zhb a=zpb a:=by
 have sp1:=ymc (b:=yct a) (secQ a) (fun _ u=>u) false (k:=a.length-0) (i:=0) (s:=()) (fun j u _ _=>by cases u;rfl);let hasK (i:Nat):Bool:=(List.range a.length).any fun k=>((k:Int) != (i:Int)) && zlf (a.getD i default) ((a.getD k default).From)
 have im1:=ymc (b:=yfg a) (fun i=>secQ a i || hasK i) (fun i (s:Int)=>IntKind.wrap .i64 (s+zxd (a.getD i default))) false (k:=a.length-0) (i:=0) (s:=0) (fun j u _ _=>by
  simp only[yfg,yfy];rw[show((!zzd (a.getD j default)) || (decide (0<(j:Int)) && decide (((a.getD j default).From)<=((a.getD ((IntKind.wrap .i64 ((j:Int)-1)).toNat) default).From))))=secQ a j from rfl]
  cases hq:secQ a j with
  | true=>rfl
  | false=>
   simp only[cond_false,Bool.false_or];rw[ydd (b:=ydi a j u) (fun k=>((k:Int) != (j:Int)) && zlf (a.getD j default) ((a.getD k default).From)) false (fun k v _ _=>rfl)];simp only[Nat.sub_zero,Nat.zero_add];show(match (bif hasK j then Except.error false else Except.ok ())with|.error e=>Except.error e|.ok s2=>Except.ok (IntKind.wrap .i64 (u+zxd (a.getD j default))))=bif hasK j then Except.error false else Except.ok (IntKind.wrap .i64 (u+zxd (a.getD j default)))
   cases hasK j<;>rfl)
 unfold zhb zpb;rcases sp1 with⟨⟨j,_,hj,hq⟩,e1⟩|⟨hq,e1⟩
 ·rcases im1 with⟨_,e2⟩|⟨hn,_⟩
  ·rw[e1,e2]
   cases decide (12<(a.length:Int))<;>rfl
  ·have:=hn j (Nat.zero_le _) hj
   simp only[hq,Bool.true_or]at this;cases this
 ·have hq':∀ i,i<a.length->zzd (a.getD i default)=true/\(0<i->(a.getD (i-1) default).From<(a.getD i default).From):=fun i hi=>(y2m a i (by omega)).1 (hq i (Nat.zero_le _) (by omega))
  have hb:∀ i,i<a.length->brg (a.getD i default).From/\brg (a.getD i default).To:=fun i hi=>y0m (hq' i hi).1
  have hs:∀ i,i+1<a.length->(a.getD i default).From<(a.getD (i+1) default).From:=fun i hi=>by have:=(hq' (i+1) hi).2 (by omega);simpa using this
  rw[e1];simp only;have apart:=ysv (f:=fun i=>(a.getD i default).From) (arc:=fun i=>ygc (a.getD i default)) (n:=a.length) (fun i hi=>(hb i hi).1) hs
  -- the reference's second loop
  let q2 (j:Nat):Bool:=decide (1<a.length) && decide ((((a.getD ((j+1) % a.length) default).From-(a.getD j default).From+360) % 360)<ygc (a.getD j default))
  have sp2:=yth (b:=ydm a ()) q2 false (if 1<a.length then a.length else 0) (fun j hj=>by
   simp only[ydm];by_cases hn:1<a.length
   ·rw[if_pos hn]at hj ⊢
    have d1:decide ((1:Int)<(a.length:Int))=true:=by simp;omega
    rw[d1,Bool.and_true];by_cases hjl:j<a.length
    ·have d2:decide ((j:Int)<(a.length:Int))=true:=by simp;omega
     rw[d2,decide_eq_true hjl];simp only[cond_true];have w1:IntKind.wrap .i64 ((j:Int)+1)=((j+1:Nat):Int):=by rw[IntKind.wrap_i64];omega
     have t1:((IntKind.wrap .i64 ((j:Int)+1)).tmod (a.length:Int)).toNat=(j+1) % a.length:=by
      rw[w1,Int.tmod_eq_emod_of_nonneg (by omega),show((j+1:Nat):Int) % (a.length:Int)=(((j+1) % a.length:Nat):Int)from rfl,Int.toNat_natCast]
     rw[t1,Int.toNat_natCast,y2u _ (hb j hjl).1 (hb j hjl).2,w1];have hm:(j+1) % a.length<a.length:=Nat.mod_lt _ (by omega);have b1:=(hb _ hm).1;have b2:=(hb j hjl).1;obtain⟨c1,c2⟩:=b1;obtain⟨c3,c4⟩:=b2;rw[w64 (x:=(a.getD ((j+1) % a.length) default).From-(a.getD j default).From) (by omega) (by omega),w64 (x:=(a.getD ((j+1) % a.length) default).From-(a.getD j default).From+360) (by omega) (by omega),Int.tmod_eq_emod_of_nonneg (by omega)];show _=bif q2 j then _ else _
     rw[show q2 j=decide ((((a.getD ((j+1) % a.length) default).From-(a.getD j default).From+360) % 360)<ygc (a.getD j default))from by show(decide (1<a.length) && _)=_;rw[decide_eq_true hn,Bool.true_and]]
    ·have d2:decide ((j:Int)<(a.length:Int))=false:=by simp;omega
     rw[d2,decide_eq_false hjl];rfl
   ·rw[if_neg hn]at hj ⊢
    have d1:decide ((1:Int)<(a.length:Int))=false:=by simp;omega
    have d3:decide (j<0)=false:=by simp
    rw[d1,Bool.and_false,d3]
    rfl) (if 1<a.length then a.length else 0) 0 (a.length-(0:Int).toNat+1) (by omega) (by simp;split<;>omega)
  have e0:((0:Nat):Int)=0:=rfl;rw[e0]at sp2
  -- what the program's loop says
  have hask:∀ i,i<a.length->(hasK i=false↔∀ k,k<a.length->k≠i->ygc (a.getD i default)<=((a.getD k default).From-(a.getD i default).From) % 360):=by
   intro i hi;show((List.range a.length).any _)=false↔_;rw[List.any_eq_false];constructor
   ·intro h k hk hki
    have:=h k (List.mem_range.2 hk);rw[yhu _ _ (hb i hi).1 (hb i hi).2 (hb k hk).1]at this;simp only[Bool.and_eq_true,bne_iff_ne,decide_eq_true_eq,not_and]at this;have:=this (by omega);omega
   ·intro h k hk
    have hk:=List.mem_range.1 hk;rw[yhu _ _ (hb i hi).1 (hb i hi).2 (hb k hk).1];simp only[Bool.and_eq_true,bne_iff_ne,decide_eq_true_eq,not_and];intro hki;have:=h k hk (by omega);omega
  rcases im1 with⟨⟨i,_,hi,hc⟩,e2⟩|⟨hn,e2⟩
  · -- two sectors meet
   rw[e2];simp only;have hi:i<a.length:=by omega
   rw[hq i (Nat.zero_le _) (by omega),Bool.false_or]at hc
   have hne:¬ ∀ k,k<a.length->k≠i->ygc (a.getD i default)<=((a.getD k default).From-(a.getD i default).From) % 360:=fun h=>by
    rw[(hask i hi).2 h]at hc;cases hc
   have hno:¬ (1<a.length->∀ i,i<a.length->ygc (a.getD i default)<=((a.getD ((i+1) % a.length) default).From-(a.getD i default).From+360) % 360):=fun h=>hne (fun k hk hki=>apart.2 h i hi k hk hki)
   cases decide (12<(a.length:Int))with
   | true=>rfl
   | false=>
    simp only[cond_false];rcases sp2 with⟨_,e3⟩|⟨h3,_⟩
    ·rw[e3]
    ·exfalso
     apply hno;intro hn1 j hj;have:=h3 j (Nat.zero_le _) (by rw[if_pos hn1];exact hj)
     have:decide ((((a.getD ((j+1) % a.length) default).From-(a.getD j default).From+360) % 360)<ygc (a.getD j default))=false:=by
      have h4:(decide (1<a.length) && _)=false:=this;rwa [decide_eq_true hn1,Bool.true_and]at h4
     have:=of_decide_eq_false this;omega
  ·rw[e2]
   simp only[zx]
   have hall:∀ i,i<a.length->∀ k,k<a.length->k≠i->ygc (a.getD i default)<=((a.getD k default).From-(a.getD i default).From) % 360:=fun i hi=>(hask i hi).1 (by
    have:=hn i (Nat.zero_le _) (by omega);rw[Bool.or_eq_false_iff]at this
    exact this.2)
   have hcons:=apart.1 hall
   have e3:yeb (ydm a ()) (a.length-(0:Int).toNat+1) 0=.error (.inr ((if 1<a.length then a.length else 0:Nat):Int)):=by
    rcases sp2 with⟨⟨j,_,hj,h4⟩,_⟩|⟨_,e3⟩
    ·exfalso
     have h4:(decide (1<a.length) && decide ((((a.getD ((j+1) % a.length) default).From-(a.getD j default).From+360) % 360)<ygc (a.getD j default)))=true:=h4;rw[Bool.and_eq_true]at h4;have g1:=of_decide_eq_true h4.1;have g2:=of_decide_eq_true h4.2;rw[if_pos g1]at hj;have:=hcons g1 j hj;omega
    ·exact e3
   rw[e3];simp only
   cases h12:decide (12<(a.length:Int))with
   | true=>
    have:=of_decide_eq_true h12;rw[decide_eq_false (show ¬ (a.length:Int)<=12 by omega),Bool.false_and];rfl
   | false=>
    have h12:=of_decide_eq_false h12;rw[decide_eq_true (show(a.length:Int)<=12 by omega),Bool.true_and];simp only[cond_false]
    have hit:∀ k,k<=a.length->itR (fun i (s:Int)=>IntKind.wrap .i64 (s+zxd (a.getD i default))) k 0 0=itR (fun i (s:Int)=>s+ygc (a.getD i default)) k 0 0:=by
     intro k
     induction k with
     | zero=>intro _;rfl
     | succ k ih=>
      intro hk;rw[yeg,yeg,ih (by omega)];simp only[Nat.zero_add];have r1:=y3x a 0 k (by omega);rw[y2t _ (hb k (by omega)).1 (hb k (by omega)).2];have r2:=y9g (a.getD k default);exact w64 (by omega) (by omega)
    have hle:=yl2 (f:=fun i=>(a.getD i default).From) (arc:=fun i=>ygc (a.getD i default)) (S:=fun k=>itR (fun i (s:Int)=>s+ygc (a.getD i default)) k 0 0) (n:=a.length) (fun i hi=>(hb i hi).1) hs (fun i _=>y9g _) hcons rfl (fun i _=>by
     show itR _ (i+1) 0 0=_;rw[yeg]
     simp only[Nat.zero_add])
    rw[hit _ (by omega)];exact decide_eq_true (by simpa using hle)
theorem y7x (l:List (List UInt8)) (x:List UInt8):zkf l x=l.any (fun y=>y == x):=by
 unfold zkf zue;rcases yde (b:=ycq l x) (fun j=>x == l.getD j default) (fun j=>(j:Int)) (k:=l.length-0) (i:=0) (s:=()) (fun j u _ _=>rfl)with⟨j,_,h2,h3,h4,h5⟩|⟨h1,h2⟩
 ·rw[h5]
  simp only;rw[decide_eq_true (show(0:Int)<=(j:Int)by omega)];symm
  rw[List.any_eq_true];have hj:j<l.length:=by omega
  have h3:(x == l.getD j default)=true:=h3;have h3:=eq_of_beq h3;refine⟨l.getD j default,?_,by rw[<- h3];simp⟩;rw[List.getD_eq_getElem?_getD,List.getElem?_eq_getElem hj];exact List.getElem_mem hj
 ·rw[h2]
  simp only;rw[decide_eq_false (show ¬ (0:Int) <= -1 by omega)];symm
  rw[List.any_eq_false];intro y hy;obtain⟨i,hi,rfl⟩:=List.getElem_of_mem hy;have:(x == l.getD i default)=false:=h1 i (Nat.zero_le _) (by omega);rw[List.getD_eq_getElem?_getD,List.getElem?_eq_getElem hi,Option.getD_some]at this;intro h;rw[eq_of_beq h]at this;simp at this
theorem yag {k:Int} (h:ztc k=true):k=1\/k=2\/k=3\/k=4\/k=5\/k=6\/k=7\/k=8\/k=9:=by
 unfold ztc zv at h;simp only[Bool.and_eq_true,decide_eq_true_eq]at h;omega
theorem ypn {k:Int} (h:ztc k=true):ztf k=zae k:=by
 rcases yag h with rfl|rfl|rfl|rfl|rfl|rfl|rfl|rfl|rfl<;>rfl
theorem ydw {k:Int} (h:ztc k=true):zuf k=zje k:=by
 rcases yag h with rfl|rfl|rfl|rfl|rfl|rfl|rfl|rfl|rfl<;>rfl
theorem ykn {k:Int} (h:ztc k=true):zde k=zqb k:=by
 rcases yag h with rfl|rfl|rfl|rfl|rfl|rfl|rfl|rfl|rfl<;>decide
theorem ynl (m:Mark):(match yf (ytt m) (((zqb m.Kind).length)-0) 0 ()with|.error e=>e|.ok s1=>false)=(zqb m.Kind).any (fun y=>y == m.Shape):=by
 rcases yde (b:=ytt m) (fun j=>(zqb m.Kind).getD j default == m.Shape) (fun _=>true) (k:=(zqb m.Kind).length-0) (i:=0) (s:=()) (fun j u _ _=>rfl)with⟨j,_,h2,h3,h4,h5⟩|⟨h1,h2⟩
 ·rw[h5]
  simp only;symm
  rw[List.any_eq_true];have hj:j<(zqb m.Kind).length:=by omega
  refine⟨(zqb m.Kind).getD j default,?_,h3⟩;rw[List.getD_eq_getElem?_getD,List.getElem?_eq_getElem hj];exact List.getElem_mem hj
 ·rw[h2]
  simp only;symm
  rw[List.any_eq_false];intro y hy;obtain⟨i,hi,rfl⟩:=List.getElem_of_mem hy;have:((zqb m.Kind).getD i default == m.Shape)=false:=h1 i (Nat.zero_le _) (by omega);rw[List.getD_eq_getElem?_getD,List.getElem?_eq_getElem hi,Option.getD_some]at this;rw[this];decide
theorem y36 (m:Mark):zzc m=(bif (m.Kind == 0)then(m.Kind == 0 && (m.Colors == [] && (m.Shape == [] && m.Topmark == [])))else(bif (((!(ztc m.Kind)) || (m.Colors != (zae m.Kind))) || ((m.Topmark != []) && (m.Topmark != (zje m.Kind))))then false else(zqb m.Kind).any (fun y=>y == m.Shape))):=by
 unfold zzc;have hk:zrf m.Kind=ztc m.Kind:=rfl;rw[hk]
 cases h0:(m.Kind == 0)with
 | true=>
  have e:=eq_of_beq h0;have hn:ztc m.Kind=false:=by rw[e];rfl
  simp only[Bool.true_and,cond_true,hn,Bool.false_and];cases(m.Colors == [] && (m.Shape == [] && m.Topmark == []))<;>rfl
 | false=>
  simp only[Bool.false_and,cond_false]
  cases h1:ztc m.Kind with
  | false=>rfl
  | true=>
   rw[ypn h1,ydw h1,ykn h1,y7x];simp only[Bool.true_and,Bool.not_true,Bool.false_or,bne];cases(m.Colors == zae m.Kind)<;>cases(m.Topmark == [])<;>cases(m.Topmark == zje m.Kind)<;>simp
theorem yze (m:Mark):zzc m=znf m:=by
 rw[y36];unfold znf zmg;have hs:=ynl m;generalize yf (ytt m) ((zqb m.Kind).length-0) 0 ()=z at hs ⊢
 cases z with
 | error e=>simp only at hs ⊢;rw[hs]
 | ok u=>simp only at hs ⊢;rw[hs]
end Go.Ab
