/- A part of a proof: walks of functions and lemmas of our own. No conditions. -/
import Derived.Test.YtijmcongeemehaaGreatDoorEAl
import Derived.Test.YtijmcongeemehaaGreatDoorEAi
import Derived.Test.YtijmcongeemehaaGreatDoorEAr
import Derived.Test.YtijmcongeemehaaGreatDoorEAu
import Derived.Test.YtijmcongeemehaaGreatDoorEAo
import Derived.Lib.Join
set_option linter.unusedSectionVars false
set_option linter.unusedVariables false
set_option linter.unusedSimpArgs false
set_option maxHeartbeats 1000000
namespace Go.Ab
open Go Go.Proofs
def u16 (x:Int):Prop:=0<=x/\x<=65535
theorem yb8 {x y:Int} (hx:u16 x) (hy:u16 y):u16 (IntKind.wrap .i64 ((BitVec.ofInt (IntKind.bits .i64) x ^^^ BitVec.ofInt (IntKind.bits .i64) y).toNat:Int)):=by
 unfold u16 at *;obtain⟨n,rfl⟩:∃ n:Nat,x=n:=⟨x.toNat,by omega⟩
 obtain⟨m,rfl⟩:∃ n:Nat,y=n:=⟨y.toNat,by omega⟩
 have h:(BitVec.ofInt (IntKind.bits .i64) (n:Int) ^^^ BitVec.ofInt (IntKind.bits .i64) (m:Int)).toNat=n ^^^ m:=by
  show(BitVec.ofInt 64 (n:Int) ^^^ BitVec.ofInt 64 (m:Int)).toNat=n ^^^ m;rw[BitVec.toNat_xor,BitVec.ofInt_natCast,BitVec.ofInt_natCast,BitVec.toNat_ofNat,BitVec.toNat_ofNat,Nat.mod_eq_of_lt (by omega),Nat.mod_eq_of_lt (by omega)]
 rw[h,IntKind.wrap_i64];have:=Nat.xor_lt_two_pow (n:=16) (show n<2 ^ 16 by omega) (show m<2 ^ 16 by omega);omega
theorem ys9 {x:Int} (hx:0<=x) (hx2:x<=131070):u16 (IntKind.wrap .i64 ((BitVec.ofInt (IntKind.bits .i64) x &&& BitVec.ofInt (IntKind.bits .i64) 65535).toNat:Int)):=by
 unfold u16;obtain⟨n,rfl⟩:∃ n:Nat,x=n:=⟨x.toNat,by omega⟩
 have h:(BitVec.ofInt (IntKind.bits .i64) (n:Int) &&& BitVec.ofInt (IntKind.bits .i64) 65535).toNat=n &&& 65535:=by
  show(BitVec.ofInt 64 (n:Int) &&& BitVec.ofInt 64 ((65535:Nat):Int)).toNat=n &&& 65535;rw[BitVec.toNat_and,BitVec.ofInt_natCast,BitVec.ofInt_natCast,BitVec.toNat_ofNat,BitVec.toNat_ofNat,Nat.mod_eq_of_lt (by omega),Nat.mod_eq_of_lt (by omega)]
 rw[h,IntKind.wrap_i64];have:n &&& 65535<=65535:=Nat.and_le_right;omega
theorem yv8 (a:List UInt8) (k:Int) (i:Nat) (s:Int) (j:Nat) (t:Int) (ht:u16 t):∃ r,yqg a k i s j t=.ok r/\u16 r:=by
 unfold yqg;have hw:IntKind.wrap .i64 (t * 2)=t * 2:=by unfold u16 at ht;rw[IntKind.wrap_i64];omega
 rw[hw];by_cases h:65535<t * 2
 ·rw[decide_eq_true h]
  exact⟨_,rfl,yb8 (ys9 (by unfold u16 at ht;omega) (by unfold u16 at ht;omega)) ⟨by omega,by omega⟩⟩
 ·rw[decide_eq_false h]
  exact⟨_,rfl,by unfold u16 at *;omega⟩
theorem yh9 (a:List UInt8) (k:Int) (i:Nat) (s:Int) (hs:u16 s):∃ r,y2h a k i s=.ok r/\u16 r:=by
 unfold y2h;have hb:(a.getD i 0).toNat<256:=(a.getD i 0).toNat_lt
 have h0:u16 (IntKind.wrap .i64 ((BitVec.ofInt (IntKind.bits .i64) s ^^^ BitVec.ofInt (IntKind.bits .i64) (IntKind.wrap .i64 ((IntKind.wrap .i64 ((a.getD i 0).toNat:Int)) * 256))).toNat:Int)):=by
  refine yb8 hs ?_;unfold u16;rw[IntKind.wrap_i64,IntKind.wrap_i64];omega
 obtain⟨t,h1,h2⟩:=yw (b:=yqg a k i s) (fun _ s=>u16 s) (k:=8-0) (i:=0) h0 (fun j u _ _ hu=>yv8 a k i s j u hu);rw[h1];exact⟨_,rfl,h2⟩
theorem y0s (a:List UInt8):u16 (zeb a 65535):=by
 unfold zeb;have e:(!(ze 65535 0 65535))=false:=by decide
 rw[e,cond_false];obtain⟨t,h1,h2⟩:=yw (b:=y2h a 65535) (fun _ s=>u16 s) (k:=a.length-0) (i:=0) (s:=65535) ⟨by omega,by omega⟩ (fun j u _ _ hu=>yh9 a 65535 j u hu);rw[h1];exact h2
theorem y1x (a:List UInt8) (k:Int) (i:Nat) (s:Int) (j:Nat) (t:Int):y2k a k i s j t=yqg a k i s j t:=by
 unfold y2k yqg;have e:(2:Int) ^ (Min.min 1 (IntKind.bits .i64))=2:=by decide
 rw[e]
theorem y15 (a:List UInt8):zeb a 65535=zlb a 65535:=by
 unfold zeb zlb;have e:(!(ze 65535 0 65535))=false:=by decide
 have e8:(2:Int) ^ (Min.min 8 (IntKind.bits .i64))=256:=by decide
 rw[e,cond_false]
 have hb:ymn a 65535=y2h a 65535:=by
  funext i s
  unfold ymn y2h;rw[e8,show y2k a 65535 i s=yqg a 65535 i s from by funext j t;exact y1x a 65535 i s j t];all_goals rfl
 rw[hb];all_goals rfl
theorem ypr {b:Nat->Unit->Except Bool Unit} {n:Nat} {p:Nat->Bool} {x:Bool} (hb:∀ j u,j<n->b j u=bif p j then .error false else .ok ()) :
  ((match yd b (n-0) 0 ()with|.error e=>e|.ok _=>x)=true)↔(∀ j,j<n->p j=false)/\x=true:=by
 rw[y8c (b:=b) p false (fun j u _ h=>hb j u (by omega))];simp only[Nat.sub_zero,Nat.zero_add]
 cases h:(List.range n).any (fun j=>p j)with
 | true=>
  simp only[cond_true];obtain⟨j,h1,h2⟩:=List.any_eq_true.1 h;constructor
  ·intro h;cases h
  ·rintro⟨h3,_⟩;rw[h3 j (List.mem_range.1 h1)]at h2;cases h2
 | false=>
  simp only[cond_false];rw[List.any_eq_false]at h;exact⟨fun hx=>⟨fun j hj=>by simpa using h j (List.mem_range.2 hj),hx⟩,fun hx=>hx.2⟩
theorem ydx (a:List UInt8):zje a=true↔a≠[]/\a.length<=10/\∀ j,j<a.length->((97<=(a.getD j 0).toNat/\(a.getD j 0).toNat<=122)\/(j≠0/\48<=(a.getD j 0).toNat/\(a.getD j 0).toNat<=57)):=by
 unfold zje;refine(ypr (n:=a.length) (p:=fun j=>_) (fun j u _=>by rfl)).trans ?_;simp only[zac,zig,Bool.and_eq_true,bne_iff_ne,decide_eq_true_eq];constructor
 ·rintro⟨h1,h2,h3⟩
  refine⟨h2,by omega,fun j hj => ?_⟩;have:=h1 j hj;simp[-List.getD_eq_getElem?_getD]at this
  omega
 ·rintro⟨h2,h3,h1⟩
  refine⟨fun j hj => ?_,h2,by omega⟩;have:=h1 j hj;simp[-List.getD_eq_getElem?_getD]
  omega
theorem y1k (a:List UInt8):zpc a=true↔a≠[]/\a.length<=10/\∀ j,j<a.length->((97<=(a.getD j 0).toNat/\(a.getD j 0).toNat<=122)\/(j≠0/\48<=(a.getD j 0).toNat/\(a.getD j 0).toNat<=57)):=by
 unfold zpc;by_cases hn:a=[]
 ·subst hn;simp
 by_cases h10:10<a.length
 ·have:((a == []) || decide (10<(a.length:Int)))=true:=by simp;right;omega
  rw[this];simp;omega
 have hp:0<a.length:=by cases a<;>simp_all
 have:((a == []) || decide (10<(a.length:Int)))=false:=by simp;exact⟨hn,by omega⟩
 rw[this];by_cases hs:zse ((a.getD 0 0).toNat:Int)=true
 ·rw[hs]
  refine(ypr (n:=a.length) (p:=fun j=>_) (fun j u _=>by rfl)).trans ?_;simp only[zse,Bool.and_eq_true,decide_eq_true_eq]at hs;constructor
  ·rintro⟨h1,_⟩
   refine⟨hn,by omega,fun j hj => ?_⟩;have:=h1 j hj;simp[zse,zre,-List.getD_eq_getElem?_getD]at this
   by_cases hj0:j=0
   ·subst hj0;omega
   ·omega
  ·rintro⟨_,_,h1⟩
   refine⟨fun j hj => ?_,rfl⟩;have:=h1 j hj;simp[zse,zre,-List.getD_eq_getElem?_getD]
   omega
 ·have hs':zse ((a.getD 0 0).toNat:Int)=false:=by simpa using hs
  rw[hs'];simp only[Bool.not_false,Bool.or_true,cond_true];constructor
  ·intro h;cases h
  ·rintro⟨_,_,h1⟩
   have:=h1 0 hp;exfalso;apply hs;simp[zse,-List.getD_eq_getElem?_getD]
   simp[-List.getD_eq_getElem?_getD]at this
   omega
theorem yl7 (a:List UInt8):zje a=zpc a:=Bool.eq_iff_iff.2 ((ydx a).trans (y1k a).symm)
theorem yor {ρ σ τ:Type} {b1:Nat->σ->Except ρ σ} {b2:Nat->τ->Except ρ τ} (R:Nat->σ->τ->Prop):∀ {k i:Nat} {s:σ} {t:τ},R i s t ->
  (∀ j u v,i<=j->j<i+k->R j u v->(∃ r,b1 j u=.error r/\b2 j v=.error r)\/∃ u' v',b1 j u=.ok u'/\b2 j v=.ok v'/\R (j+1) u' v') ->
  (∃ r,yd b1 k i s=.error r/\yd b2 k i t=.error r)\/∃ u v,yd b1 k i s=.ok u/\yd b2 k i t=.ok v/\R (i+k) u v
 | 0,i,s,t,h,_=>.inr ⟨s,t,rfl,rfl,h⟩
 | k+1,i,s,t,h,hb=>by
  simp only[yd];rcases hb i s t (Nat.le_refl _) (by omega) h with⟨r,h1,h2⟩|⟨u,v,h1,h2,h3⟩
  ·rw[h1,h2];exact .inl ⟨r,rfl,rfl⟩
  ·rw[h1,h2]
   have:=yor R (k:=k) (i:=i+1) h3 (fun j u v q1 q2 q3=>hb j u v (by omega) (by omega) q3);rwa [show i+1+k=i+(k+1)by omega]at this
theorem y7h {α σ ρ : Type} (p : α -> Bool) (f : σ -> α -> σ) (r : ρ) : ∀ (l : List α) (s : σ), yik (fun x s => (bif !(p x) then .error r else .ok (f s x) : Except ρ σ)) l s = bif l.all p then .ok (l.foldl f s) else .error r
 | [],s=>by simp[yik]
 | x::l,s=>by
  rw[yhg]
  cases hx:p x with
  | false=>simp[hx]
  | true=>
   simp only[Bool.not_true,cond_false,List.all_cons,hx,Bool.true_and,List.foldl_cons];exact y7h p f r l (f s x)
def yqw (g:List Int):Prop:=g.length<=4/\(∀ v∈g,1<=v/\v<=9)/\g.sum<=12/\g≠[1]
theorem ygg (g:List Int):g.all (fun v=>ze v 1 9)=true↔∀ v∈g,1<=v/\v<=9:=by
 rw[List.all_eq_true];exact⟨fun h v hv=>by simpa [ze]using h v hv,fun h v hv=>by simpa [ze]using h v hv⟩
theorem wsum (g:List Int) (h:g.length<=4) (hv:∀ v∈g,1<=v/\v<=9):g.foldl (fun s x=>IntKind.wrap .i64 (s+x)) 0=g.sum:=by
 have hw:∀ n:Int,-1000<=n->n<=1000->IntKind.wrap .i64 n=n:=fun n _ _=>by rw[IntKind.wrap_i64];omega
 match g,h,hv with
 | [],_,_=>rfl
 | [a],_,hv=>
  have:=hv a (by simp);simp only[List.foldl_cons,List.foldl_nil,List.sum_cons,List.sum_nil];rw[hw _ (by omega) (by omega)];omega
 | [a,b],_,hv=>
  have:=hv a (by simp);have:=hv b (by simp);simp only[List.foldl_cons,List.foldl_nil,List.sum_cons,List.sum_nil];rw[hw (0+a) (by omega) (by omega),hw _ (by omega) (by omega)];omega
 | [a,b,c],_,hv=>
  have:=hv a (by simp);have:=hv b (by simp);have:=hv c (by simp);simp only[List.foldl_cons,List.foldl_nil,List.sum_cons,List.sum_nil];rw[hw (0+a) (by omega) (by omega),hw (0+a+b) (by omega) (by omega),hw _ (by omega) (by omega)];omega
 | [a,b,c,d],_,hv=>
  have:=hv a (by simp);have:=hv b (by simp);have:=hv c (by simp);have:=hv d (by simp);simp only[List.foldl_cons,List.foldl_nil,List.sum_cons,List.sum_nil];rw[hw (0+a) (by omega) (by omega),hw (0+a+b) (by omega) (by omega),hw (0+a+b+c) (by omega) (by omega),hw _ (by omega) (by omega)];omega
theorem yt8 (x y:Int):(x != y) = !decide (x=y):=by by_cases h:x=y<;>simp[h]
theorem ytf (a b:List Int):znc a b=decide (a=b):=by
 unfold znc;by_cases hl:a.length=b.length
 ·have h1:((a.length:Int) != (b.length:Int))=false:=by rw[hl];simp
  rw[h1];simp only[cond_false]
  rw[y8c (b:=ywm a b) (fun j => !decide (a.getD j default=b.getD j default)) false (fun j u _ _=>by
   simp only[ywm,yt8])]
  simp only[Nat.sub_zero,Nat.zero_add];rw[ycq a b hl];by_cases h:a=b<;>simp[h]
 ·have h1:((a.length:Int) != (b.length:Int))=true:=by simp;omega
  rw[h1];have:¬ a=b:=fun h=>hl (by rw[h])
  simp[this]
theorem y9l (g:List Int):zpd g=true↔yqw g:=by
 unfold zpd;rw[yud (b:=yaq g) (fun(x:Int) (s:Int)=>(bif !(ze x 1 9)then .error false else .ok (IntKind.wrap .i64 (s+x)):Except Bool Int)) g 0 (fun j u _=>rfl),y7h (fun x=>ze x 1 9) (fun s x=>IntKind.wrap .i64 (s+x)) false];unfold yqw
 cases ha:g.all (fun x=>ze x 1 9)with
 | false=>
  simp only[cond_false];constructor
  ·intro h;cases h
  ·rintro⟨_,h,_⟩
   rw[(ygg g).2 h]at ha;cases ha
 | true=>
  have hv:=(ygg g).1 ha;simp only[cond_true,ytf,zac,Bool.and_eq_true,decide_eq_true_eq,Bool.not_eq_true',decide_eq_false_iff_not];constructor
  ·rintro⟨⟨h1,h2⟩,h3⟩
   rw[wsum g (by omega) hv]at h2;exact⟨by omega,hv,h2,h3⟩
  ·rintro⟨h1,_,h2,h3⟩
   rw[wsum g h1 hv];exact⟨⟨by omega,h2⟩,h3⟩
theorem yzf (g:List Int):zkd g=true↔yqw g:=by
 unfold zkd;rw[yud (b:=y7r g) (fun(x:Int) (s:Unit)=>(bif !(ze x 1 9)then .error false else .ok ():Except Bool Unit)) g () (fun j u _=>rfl),y7h (fun x=>ze x 1 9) (fun(s:Unit) x=>()) false];unfold yqw
 cases ha:g.all (fun x=>ze x 1 9)with
 | false=>
  simp only[cond_false];constructor
  ·intro h;cases h
  ·rintro⟨_,h,_⟩
   rw[(ygg g).2 h]at ha;cases ha
 | true=>
  have hv:=(ygg g).1 ha
  have hsum:g.length<=4->(zle g<=12↔g.sum<=12):=by
   intro h4;unfold zle
   cases g with
   | nil=>simp
   | cons x t=>
    have h0:(((x::t).length:Int) == 0)=false:=by rw[beq_eq_false_iff_ne];simp only[List.length_cons];omega
    rw[h0];simp only[cond_false];rw[yud (b:=ywq (x::t)) (fun(y:Int) (s:Int)=>(bif !((fun _=>true) y)then .error 0 else .ok (IntKind.wrap .i64 (s+y)):Except Int Int)) (x::t) 0 (fun j u _=>rfl),y7h (fun _=>true) (fun s x=>IntKind.wrap .i64 (s+x)) 0];rw[show(x::t).all (fun _=>true)=true by simp];simp only[cond_true];rw[wsum _ h4 hv]
  have hone:(!(((g.length:Int) == 1) && (g.getD 0 default == 1)))=true↔g≠[1]:=by
   match g with
   | []=>simp
   | [a]=>simp
   | a::b::t=>
    have:((((a::b::t).length:Int)) == 1)=false:=by rw[beq_eq_false_iff_ne];simp only[List.length_cons];omega
    rw[this];simp
  simp only[cond_true];rw[Bool.and_eq_true,Bool.and_eq_true,hone,decide_eq_true_eq,decide_eq_true_eq];constructor
  ·rintro⟨⟨h1,h2⟩,h3⟩
   exact⟨by omega,hv,(hsum (by omega)).1 h3,h2⟩
  ·rintro⟨h1,_,h2,h3⟩
   exact⟨⟨by omega,h3⟩,(hsum h1).2 h2⟩
set_option maxRecDepth 10000 in
theorem yt3:∀ n:Fin 256,zze (n.val:Int)=zxe [87,82,71,89] (n.val:Int)+1 /\ -1<=zxe [87,82,71,89] (n.val:Int):=by decide
theorem yx6 (b:UInt8):zze (b.toNat:Int)=zxe [87,82,71,89] (b.toNat:Int)+1 /\ -1<=zxe [87,82,71,89] (b.toNat:Int):=
 yt3 ⟨b.toNat,b.toNat_lt⟩
theorem ymp (s:List UInt8) (hl:s.length<9223372036854775808):zvb s=zhc s:=by
 unfold zvb zhc
 have hs:=yor (b1:=y6h s) (b2:=y4h s) (fun i (x:Int) (_:Unit)=>if i=0 then x = -1 else x+1=zze ((s.getD (i-1) 0).toNat:Int)/\0<=x) (k:=s.length-0) (i:=0) (s := -1) (t:=()) (by simp) (by
  intro j x u _ hj h;unfold y6h y4h;obtain⟨r1,r2⟩:=yx6 (s.getD j 0);rw[r1];generalize zxe [87,82,71,89] ((s.getD j 0).toNat:Int)=p at *;by_cases h0:j=0
  ·subst h0
   rw[if_pos rfl]at h;subst h;simp only[Int.natCast_zero,show decide ((0:Int)<0)=false from rfl,Bool.false_and,Bool.or_false];by_cases hp:p = -1
   ·subst hp;left;exact⟨false,rfl,rfl⟩
   ·right
    have d1:decide (p <= -1)=false:=decide_eq_false (by omega);have d2:(p+1 == 0)=false:=by rw[beq_eq_false_iff_ne];omega
    rw[d1,d2];exact⟨p,(),rfl,rfl,by rw[if_neg (by omega)];exact⟨r1.symm,by omega⟩⟩
  ·rw[if_neg h0]at h
   obtain⟨h1,h2⟩:=h;have d3:decide (0<(j:Int))=true:=decide_eq_true (by omega);have hw:(IntKind.wrap .i64 ((j:Int)-1)).toNat=j-1:=by rw[IntKind.wrap_i64];omega
   rw[d3,hw, <- h1];simp only[Bool.true_and];by_cases hp:p<=x
   ·left
    have d1:decide (p<=x)=true:=decide_eq_true hp
    have d2:(p+1 == 0 || decide (p+1<=x+1))=true:=by
     rw[Bool.or_eq_true,decide_eq_true_eq];right;omega
    rw[d1,d2];exact⟨false,rfl,rfl⟩
   ·right
    have d1:decide (p<=x)=false:=decide_eq_false hp
    have d2:(p+1 == 0 || decide (p+1<=x+1))=false:=by
     rw[Bool.or_eq_false_iff,beq_eq_false_iff_ne,decide_eq_false_iff_not];omega
    rw[d1,d2]
    exact⟨p,(),rfl,rfl,by rw[if_neg (by omega)];exact⟨by rw[show j+1-1=j by omega];exact r1.symm,by omega⟩⟩)
 rcases hs with⟨r,h1,h2⟩|⟨u,v,h1,h2,_⟩
 ·rw[h1,h2]
 ·rw[h1,h2]
  simp only[ze]
theorem ylz {g:List Int} (h:g.length=1) (lo hi:Int) (hr:lo<=g.getD 0 default/\g.getD 0 default<=hi):∀ v∈g,lo<=v/\v<=hi:=by
 obtain⟨x,rfl⟩:=List.length_eq_one_iff.1 h;intro v hv;rw[List.mem_singleton]at hv;subst hv;simpa using hr
theorem y6g {g:List Int} (h:(g.length:Int)=0):g.length<=4/\∀ v∈g,1<=v/\v<=9:=by
 have:g=[]:=List.length_eq_zero_iff.1 (by omega);subst this;simp
theorem y8d (a:Character) (h:zgb a=true):a.Group.length<=4/\∀ v∈a.Group,1<=v/\v<=9:=by
  unfold zgb at h;simp only[Bool.cond_eq_ite]at h;repeat' split at h
  all_goals (try simp only[Bool.and_eq_true,Bool.or_eq_true,beq_iff_eq,ytf,decide_eq_true_eq,ze]at h)
  all_goals first
    | exact y6g h.1
    | exact y6g h.2
    | (have:=(y9l _).1 h.2;exact⟨this.1,this.2.1⟩)
    | (rcases h with h | h
       . exact y6g h
       . exact⟨by omega,fun v hv=>by have:=ylz (g:=a.Group) (by omega) 2 9 h.2 v hv;omega⟩)
    | (rw[h.2];simp)
    | (cases h)
theorem y4k (a:Character) (h:zte a=true):a.Group.length<=4/\(∀ v∈a.Group,1<=v/\v<=9)/\(a.Kind=8->a.Letter.length=1/\65<=(a.Letter.getD 0 0).toNat/\(a.Letter.getD 0 0).toNat<=90):=by
 unfold zte at h;simp only[Bool.cond_eq_ite]at h;repeat' split at h
 all_goals (try simp only[Bool.and_eq_true,Bool.or_eq_true,beq_iff_eq,decide_eq_true_eq]at *)
 all_goals first
  | (cases h;done)
  | (exact⟨(y6g h.1).1,(y6g h.1).2,by intro h8;omega⟩)
  | (exact⟨by omega,fun v hv=>by have:=ylz (g:=a.Group) (by omega) 6 6 (by omega) v hv;omega,by intro h8;omega⟩)
  | (have:=(yzf _).1 h.2;exact⟨this.1,this.2.1,by intro h8;omega⟩)
  | (exact⟨(y6g h.1.1.1).1,(y6g h.1.1.1).2,fun _=>⟨by omega,by omega,by omega⟩⟩)
theorem y0c (n:Int) (h1 : -9223372036854775808<=n) (h2:n<=9223372036854775807):(Lib.itoa n).length<=20:=by
 have h3:(Lib.decDigits n.natAbs).length<=19:=by
  by_cases h:n.natAbs<10
  ·have:=(ypb n.natAbs).2 (by omega);omega
  ·rw[ygb _ h,List.length_append,List.length_singleton]
   have:=(ypb (n.natAbs / 10)).2 (by omega);omega
 by_cases h:n<0
 ·rw[ytb h,List.length_cons];omega
 ·rw[yfe h];omega
theorem yzd (n:Int) (h1 : -9223372036854775808<=n) (h2:n<=9223372036854775807):(zl n).length<=20:=y0c n h1 h2
theorem yym (n:Int):(zl (IntKind.wrap .i64 n)).length<=20:=yzd _ (by rw[IntKind.wrap_i64];omega) (by rw[IntKind.wrap_i64];omega)
theorem yek (n:Int) : -10<n.tmod 10/\n.tmod 10<10:=⟨by have:=Int.lt_tmod_of_pos n (b:=10) (by omega);omega,Int.tmod_lt_of_pos n (by omega)⟩
theorem ysh (s : List UInt8) : ∀ (xs : List (List UInt8)) (m : Nat), (∀ x ∈ xs, x.length <= m) -> (Lib.join xs s).length <= xs.length * (m + s.length)
 | [],m,_=>by simp[Lib.join_nil]
 | x::r,m,h=>by
  rw[Lib.join_cons,List.length_append];have h1:=h x (by simp)
  have h2:∀ r:List (List UInt8),(∀ x∈r,x.length<=m)->(Lib.joinTail s r).length<=r.length * (m+s.length):=by
   intro r
   induction r with
   | nil=>intro _;simp[Lib.joinTail]
   | cons y r ih=>
    intro h;have h3:=ih (fun z hz=>h z (by simp[hz]));have h4:=h y (by simp);unfold Lib.joinTail at h3 ⊢;simp only[List.map_cons,List.flatten_cons,List.length_append,List.length_cons];rw[Nat.add_mul];omega
  have h3:=h2 r (fun z hz=>h z (by simp[hz]));rw[List.length_cons,Nat.add_mul];omega
theorem yno {l:List Int} (h:∀ v∈l,v<=9) (i:Nat):l.getD i default<=9:=by
 rw[List.getD_eq_getElem?_getD]
 cases hg:l[i]? with
 | none=>show(0:Int)<=9;omega
 | some x=>have:=h x (List.mem_of_getElem? hg);simpa only[Option.getD_some]
theorem y3f {l:List Int} (h:∀ v∈l,1<=v/\v<=9) (i:Nat):0<=l.getD i default/\l.getD i default<=9:=by
 rw[List.getD_eq_getElem?_getD]
 cases hg:l[i]? with
 | none=>show(0:Int)<=0/\(0:Int)<=9;omega
 | some x=>have:=h x (List.mem_of_getElem? hg);simp only[Option.getD_some];omega
def yyw (a0:Character) (i1:Nat) (s1:List Int):Except ((List Int)) (List Int):=
 (bif decide (0<(i1:Int))then(bif ((((zrb a0.Letter).getD i1 0).toNat:Int) == 45)then .ok ((s1++([(zw a0.Kind).2.1]:List Int))++([IntKind.wrap .i64 (3 * ((zw a0.Kind).1))]:List Int))else .ok ((s1++([(zw a0.Kind).2.1]:List Int))++([(zw a0.Kind).1]:List Int)))else(bif ((((zrb a0.Letter).getD i1 0).toNat:Int) == 45)then .ok (s1++([IntKind.wrap .i64 (3 * ((zw a0.Kind).1))]:List Int))else .ok (s1++([(zw a0.Kind).1]:List Int))))
def y8w (a0:Character) (i2:Nat) (s2:List Int) (i3:Nat) (s3:List Int):Except ((List Int)) (List Int):=
 (bif decide (0<(i3:Int))then .ok ((s3++([(zw a0.Kind).2.1]:List Int))++([(zw a0.Kind).1]:List Int))else(bif decide (0<(i2:Int))then .ok ((s3++([IntKind.wrap .i64 (((zw a0.Kind).2.1)+20)]:List Int))++([(zw a0.Kind).1]:List Int))else .ok (s3++([(zw a0.Kind).1]:List Int))))
def yjx (a0:Character) (i2:Nat) (s2:List Int):Except ((List Int)) (List Int):=
 (match yd (y8w a0 i2 s2) (((([1]:List Int).getD i2 default)).toNat-0) 0 s2 with|.error e=>.error e|.ok s3=>.ok s3)
def ysx (a0:Character) (i4:Nat) (s4:List Int) (i5:Nat) (s5:List Int):Except ((List Int)) (List Int):=
 (bif decide (0<(i5:Int))then .ok ((s5++([(zw a0.Kind).2.1]:List Int))++([(zw a0.Kind).1]:List Int))else(bif decide (0<(i4:Int))then .ok ((s5++([IntKind.wrap .i64 (((zw a0.Kind).2.1)+20)]:List Int))++([(zw a0.Kind).1]:List Int))else .ok (s5++([(zw a0.Kind).1]:List Int))))
def ykx (a0:Character) (i4:Nat) (s4:List Int):Except ((List Int)) (List Int):=
 (match yd (ysx a0 i4 s4) (((a0.Group.getD i4 default)).toNat-0) 0 s4 with|.error e=>.error e|.ok s5=>.ok s5)
def zv (a0:Character):(List Int):=
 (bif (a0.Kind == 8)then(match yd (yyw a0) ((zrb a0.Letter).length-0) 0 ([]:List Int)with|.error e=>e|.ok s1=>s1)else(bif ((a0.Group.length:Int) == 0)then(match yd (yjx a0) (1-0) 0 ([]:List Int)with|.error e=>e|.ok s2=>(bif (a0.Letter != [])then s2++([(zw a0.Kind).2.1,20]:List Int)else s2))else(match yd (ykx a0) (a0.Group.length-0) 0 ([]:List Int)with|.error e=>e|.ok s4=>(bif (a0.Letter != [])then s4++([(zw a0.Kind).2.1,20]:List Int)else s4))))
namespace N274
theorem DD:DOk Tryz.prog (Go.Ab.DD [(270,dP D_zrb),(272,dP D_zw)]):=ya yiw.e <| ya yhy.e <| ye _
theorem dn:type_of% (And.intro @D_zrb.eq_1 <| @D_zw.eq_1):=by and_intros<;>intros<;>rfl
theorem o2 {p:Prop} (h:p:=by(first|(and_intros<;>first|decide|omega|(simp;(first|done|fail))|(rw[IntKind.wrap_i64];have:=hg9 i4;omega)|(rw[IntKind.wrap_i64];have:=hg1 i2;omega)|(rw[IntKind.wrap_i64];omega)|(intro i hi;exact y2e _ _ i hi)|(intro i hi;exact ynp _ _ _ i hi)));first|done|fail):p:=h
theorem o3 {p:Prop} (h:p:=by(first|(refine⟨⟨Nat.le_refl _,fun i hi=>y5p _ _ _ i hi⟩,.inl fun i hi=>by rw[y5j _ _ _ i hi];simp[NoBorL,NoBor],by simp,fun i hi=>by rw[y5j _ _ _ i hi];exact y9 _⟩));first|done|fail):p:=h
theorem lx {p:Prop} (h:p:=by(exact lxx);first|done|fail):p:=h
set_option maxHeartbeats 1000000 in
set_option maxRecDepth 20000 in
theorem den (a0:Character) (hb0:bdCharacter a0) (hp0:a0.Group.length<=4) (hp1:∀ v∈a0.Group,v<=9):Den Tryz.prog 274 [.agg (yi a0)] (ownL 2 1 yt (zv a0)):=by
 generalize hR:zv a0=r;unfold zv at hR;refine di Tryz.func274 Tryz.ntmps274 Tryz.results274 ?_;intro c hL hc hk;obtain⟨hL0,_⟩:=hL;have hw0:bwCharacter a0:=yp a0 hL0;clear hL0;simp only[pars,Nat.zero_add];have hg9:∀ i:Nat,a0.Group.getD i default<=9:=fun i=>yno hp1 i
 have hs9:=ymz a0.Letter;have hs8:=yys a0.Letter;have hg1:∀ i:Nat,([1]:List Int).getD i default<=9:=fun i=>yno (by simp) i
 iterate 3 refine rS ?_
 refine AWP.cond rfl (fun hb => ?_) (fun hb => ?_)
 ·replace hR:=ct hR
  iterate 2 refine rS ?_
  refine AWP.block ?_;refine AWP.lensT 27 rfl (fun hLn1 => ?_);generalize hz1:yd (yyw a0) ((zrb a0.Letter).length-0) 0 ([]:List Int)=z1 at hR;refine AWP.range (yyw a0) (fun i1 s1=>⟨[(3,.int .i64 ((zw a0.Kind).1)),(4,.int .i64 ((zw a0.Kind).2.1)),(6,.ref 0 1 0 s1.length),(28,.ptr 1 0)],[.arr 2 1 s1.length (fun j=>yt (s1.getD j default)),.it (zrb a0.Letter) i1 (decide (i1<(zrb a0.Letter).length))]⟩) (fun i1 s1=>s1.length<=([]:List Int).length+2 * i1/\s1.length<=2 * i1) ((zrb a0.Letter).length) 0 ([]:List Int) [1,2] hz1 ot wt sm ?_;clear hz1;intro i1 s1 hi1 hW1 hz1;refine AWP.seq ?_;by_cases hlt1:i1<(zrb a0.Letter).length
  ·rw[yg hlt1]at hz1;simp only[yyw]at hz1
   rw[decide_eq_true hlt1];refine rS ?_;refine AWP.seq ?_;refine AWP.cond rfl (fun hb => ?_) (fun hb=>by cases hb);iterate 2 refine rS ?_
   refine AWP.cond rfl (fun hb => ?_) (fun hb => ?_)
   ·simp only[hb,cond_true]at hz1
    iterate 2 refine rS ?_
    refine AWP.cond rfl (fun hb => ?_) (fun hb => ?_)
    ·simp only[hb,cond_true]at hz1
     refine rS ?_;exact⟨_,[5,1],hlt1,wt,hz1,sm⟩
    ·simp only[hb,cond_false]at hz1
     refine rS ?_;exact⟨_,[5,1],hlt1,wt,hz1,sm⟩
   ·simp only[hb,cond_false]at hz1
    refine rS ?_;refine AWP.cond rfl (fun hb => ?_) (fun hb => ?_)
    ·simp only[hb,cond_true]at hz1
     refine rS ?_;exact⟨_,[3,1],hlt1,wt,hz1,sm⟩
    ·simp only[hb,cond_false]at hz1
     refine rS ?_;exact⟨_,[3,1],hlt1,wt,hz1,sm⟩
  ·obtain rfl:i1=(zrb a0.Letter).length:=by omega
   rw[yh (Nat.le_refl _)]at hz1;subst hz1;dsimp only at hR;simp only[Nat.lt_irrefl,decide_false];refine rS ?_;refine AWP.seq ?_;refine AWP.cond rfl (fun hb=>by cases hb) (fun hb => ?_);refine AWP.exit ?_;refine yb ?_;refine rS ?_;refine AWP.ret ?_;subst hR;exact es
 ·replace hR:=cf hR
  iterate 2 refine rS ?_
  refine AWP.cond rfl (fun hb => ?_) (fun hb => ?_)
  ·replace hR:=ct hR
   iterate 3 refine rS ?_
   refine AWP.block ?_;generalize hz2:yd (yjx a0) (1-0) 0 ([]:List Int)=z2 at hR;refine AWP.range (yjx a0) (fun i2 s2=>⟨[(1,.ptr 0 0),(3,.int .i64 ((zw a0.Kind).1)),(4,.int .i64 ((zw a0.Kind).2.1)),(10,.ref 1 1 0 s2.length),(58,.ref 2 1 0 1),(59,.int .i64 1),(60,.int .i64 (i2:Int))],[.box [.int .i64 a0.Kind,encL 1 yt a0.Group,.str a0.Letter,.str a0.Colors,.int .i64 a0.Period],.arr 2 1 s2.length (fun j=>yt (s2.getD j default)),.arr 2 1 ([1]:List Int).length (fun j=>yt (([1]:List Int).getD j default))]⟩) (fun i2 s2=>s2.length<=18 * i2) (1) 0 ([]:List Int) [0,2,1] hz2 ot wt sm ?_;clear hz2;intro i2 s2 hi2 hW2 hz2;refine rS ?_;refine AWP.seq ?_;refine AWP.cond rfl (fun hb => ?_) (fun hb => ?_)
   ·have hlt2:i2<1:=ot
    rw[yg hlt2]at hz2;simp only[yjx]at hz2;iterate 2 refine rS ?_
    refine AWP.block ?_;generalize hz3:yd (y8w a0 i2 s2) (((([1]:List Int).getD i2 default)).toNat-0) 0 s2=z3 at hz2;refine AWP.range (y8w a0 i2 s2) (fun i3 s3=>⟨[(1,.ptr 0 0),(3,.int .i64 ((zw a0.Kind).1)),(4,.int .i64 ((zw a0.Kind).2.1)),(10,.ref 1 1 0 s3.length),(11,.int .i64 (i2:Int)),(58,.ref 2 1 0 1),(59,.int .i64 1),(60,.int .i64 (i2:Int)),(65,.int .i64 (([1]:List Int).getD i2 default)),(66,.int .i64 (i3:Int))],[.box [.int .i64 a0.Kind,encL 1 yt a0.Group,.str a0.Letter,.str a0.Colors,.int .i64 a0.Period],.arr 2 1 s3.length (fun j=>yt (s3.getD j default)),.arr 2 1 ([1]:List Int).length (fun j=>yt (([1]:List Int).getD j default))]⟩) (fun i3 s3=>s3.length<=s2.length+2 * i3/\s3.length<=18 * i2+2 * i3) (((([1]:List Int).getD i2 default)).toNat) 0 s2 [0,1,2] hz3 ot wt sm ?_;clear hz3;intro i3 s3 hi3 hW3 hz3;refine rS ?_;refine AWP.seq ?_;refine AWP.cond rfl (fun hb => ?_) (fun hb => ?_)
    ·have hlt3:i3<((([1]:List Int).getD i2 default)).toNat:=ot
     rw[yg hlt3]at hz3;simp only[y8w]at hz3;iterate 2 refine rS ?_
     refine AWP.cond rfl (fun hb => ?_) (fun hb => ?_)
     ·simp only[hb,cond_true]at hz3
      iterate 3 refine rS ?_
      exact⟨_,[0,6,2],hlt3,wt,hz3,sm⟩
     ·simp only[hb,cond_false]at hz3
      refine rS ?_;refine AWP.cond rfl (fun hb => ?_) (fun hb => ?_)
      ·simp only[hb,cond_true]at hz3
       iterate 3 refine rS ?_
       exact⟨_,[0,6,2],hlt3,wt,hz3,sm⟩
      ·simp only[hb,cond_false]at hz3
       iterate 2 refine rS ?_
       exact⟨_,[0,4,2],hlt3,wt,hz3,sm⟩
    ·obtain rfl:i3=((([1]:List Int).getD i2 default)).toNat:=ot
     rw[yh (Nat.le_refl _)]at hz3;subst hz3;dsimp only at hz2;refine AWP.exit ?_;refine yb ?_;refine rS ?_;exact⟨_,[0,1,2],hlt2,by(have h9:=hg1 i2;omega),hz2,sm⟩
   ·obtain rfl:i2=1:=ot
    rw[yh (Nat.le_refl _)]at hz2;subst hz2;dsimp only at hR;refine AWP.exit ?_;refine yb ?_;refine rS ?_;refine AWP.cond rfl (fun hb => ?_) (fun hb => ?_)
    ·replace hR:=ct hR
     iterate 2 refine rS ?_
     refine AWP.ret ?_;subst hR;exact es
    ·replace hR:=cf hR
     refine rS ?_;refine AWP.ret ?_;subst hR;exact es
  ·replace hR:=cf hR
   iterate 2 refine rS ?_
   refine AWP.block ?_;refine AWP.lensS 9 rfl (fun hLn4 => ?_);generalize hz4:yd (ykx a0) (a0.Group.length-0) 0 ([]:List Int)=z4 at hR;refine AWP.range (ykx a0) (fun i4 s4=>⟨[(1,.ptr 0 0),(3,.int .i64 ((zw a0.Kind).1)),(4,.int .i64 ((zw a0.Kind).2.1)),(10,.ref 1 1 0 s4.length),(58,encL 1 yt a0.Group),(59,.int .i64 (a0.Group.length:Int)),(60,.int .i64 (i4:Int))],[.box [.int .i64 a0.Kind,encL 1 yt a0.Group,.str a0.Letter,.str a0.Colors,.int .i64 a0.Period],.arr 2 1 s4.length (fun j=>yt (s4.getD j default))]⟩) (fun i4 s4=>s4.length<=18 * i4) (a0.Group.length) 0 ([]:List Int) [0,1] hz4 ot wt sm ?_;clear hz4;intro i4 s4 hi4 hW4 hz4;refine rS ?_;refine AWP.seq ?_;refine AWP.cond rfl (fun hb => ?_) (fun hb => ?_)
   ·have hlt4:i4<a0.Group.length:=ot
    rw[yg hlt4]at hz4;simp only[ykx]at hz4;iterate 2 refine rS ?_
    refine AWP.block ?_;generalize hz5:yd (ysx a0 i4 s4) (((a0.Group.getD i4 default)).toNat-0) 0 s4=z5 at hz4;refine AWP.range (ysx a0 i4 s4) (fun i5 s5=>⟨[(1,.ptr 0 0),(3,.int .i64 ((zw a0.Kind).1)),(4,.int .i64 ((zw a0.Kind).2.1)),(10,.ref 1 1 0 s5.length),(11,.int .i64 (i4:Int)),(58,encL 1 yt a0.Group),(59,.int .i64 (a0.Group.length:Int)),(60,.int .i64 (i4:Int)),(65,.int .i64 (a0.Group.getD i4 default)),(66,.int .i64 (i5:Int))],[.box [.int .i64 a0.Kind,encL 1 yt a0.Group,.str a0.Letter,.str a0.Colors,.int .i64 a0.Period],.arr 2 1 s5.length (fun j=>yt (s5.getD j default))]⟩) (fun i5 s5=>s5.length<=s4.length+2 * i5/\s5.length<=18 * i4+2 * i5) (((a0.Group.getD i4 default)).toNat) 0 s4 [0,1] hz5 ot wt sm ?_;clear hz5;intro i5 s5 hi5 hW5 hz5;refine rS ?_;refine AWP.seq ?_;refine AWP.cond rfl (fun hb => ?_) (fun hb => ?_)
    ·have hlt5:i5<((a0.Group.getD i4 default)).toNat:=ot
     rw[yg hlt5]at hz5;simp only[ysx]at hz5;iterate 2 refine rS ?_
     refine AWP.cond rfl (fun hb => ?_) (fun hb => ?_)
     ·simp only[hb,cond_true]at hz5
      iterate 3 refine rS ?_
      exact⟨_,[0,5],hlt5,wt,hz5,sm⟩
     ·simp only[hb,cond_false]at hz5
      refine rS ?_;refine AWP.cond rfl (fun hb => ?_) (fun hb => ?_)
      ·simp only[hb,cond_true]at hz5
       iterate 3 refine rS ?_
       exact⟨_,[0,5],hlt5,wt,hz5,sm⟩
      ·simp only[hb,cond_false]at hz5
       iterate 2 refine rS ?_
       exact⟨_,[0,3],hlt5,wt,hz5,sm⟩
    ·obtain rfl:i5=((a0.Group.getD i4 default)).toNat:=ot
     rw[yh (Nat.le_refl _)]at hz5;subst hz5;dsimp only at hz4;refine AWP.exit ?_;refine yb ?_;refine rS ?_;exact⟨_,[0,1],hlt4,by(have h9:=hg9 i4;omega),hz4,sm⟩
   ·obtain rfl:i4=a0.Group.length:=ot
    rw[yh (Nat.le_refl _)]at hz4;subst hz4;dsimp only at hR;refine AWP.exit ?_;refine yb ?_;refine rS ?_;refine AWP.cond rfl (fun hb => ?_) (fun hb => ?_)
    ·replace hR:=ct hR
     iterate 2 refine rS ?_
     refine AWP.ret ?_;subst hR;exact es
    ·replace hR:=cf hR
     refine rS ?_;refine AWP.ret ?_;subst hR;exact es
end N274
def D_zv : DF
 | [x0]=>some (ownL 2 1 yt (zv (rdG yc x0)),false,[wG yi yc x0,bdCharacter (rdG yc x0),(rdG yc x0).Group.length<=4,∀ v∈(rdG yc x0).Group,v<=9])
 | _=>none
theorem yo7:OkD Tryz.prog 274 D_zv:=by unfold D_zv;exact dk N274.den
def zhg (a0:Character):Int:=
 (bif (zcd a0)then 0 else(bif (a0.Kind == 3)then 20 else(bif decide (1<(a0.Group.length:Int))then IntKind.wrap .i64 ((zqe (zv a0))+(IntKind.wrap .i64 (((zw a0.Kind).2.2)+20)))else IntKind.wrap .i64 ((zqe (zv a0))+((zw a0.Kind).2.2)))))
namespace N218
theorem DD:DOk Tryz.prog (Go.Ab.DD [(217,dP D_zcd),(272,dP D_zw),(273,dP D_zqe),(274,dP D_zv)]):=ya yju.e <| ya yhy.e <| ya y10.e <| ya yo7.e <| ye _
theorem dn:type_of% (And.intro @D_zcd.eq_1 <| And.intro @D_zw.eq_1 <| And.intro @D_zqe.eq_1 <| @D_zv.eq_1):=by and_intros<;>intros<;>rfl
theorem den (a0:Character) (hb0:bdCharacter a0) (hp0:a0.Group.length<=4) (hp1:∀ v∈a0.Group,v<=9):Den Tryz.prog 218 [.agg (yi a0)] (.int .i64 (zhg a0)):=by
 generalize hR:zhg a0=r;unfold zhg at hR;refine di Tryz.func218 Tryz.ntmps218 Tryz.results218 ?_;intro c hL hc hk;obtain⟨hL0,_⟩:=hL;have hw0:bwCharacter a0:=yp a0 hL0;clear hL0;simp only[pars,Nat.zero_add];iterate 2 refine rS ?_
 refine AWP.cond rfl (fun hb => ?_) (fun hb => ?_)
 ·replace hR:=ct hR
  refine rS ?_;refine AWP.ret ?_;subst hR;exact es
 ·replace hR:=cf hR
  refine rS ?_;refine AWP.cond rfl (fun hb => ?_) (fun hb => ?_)
  ·replace hR:=ct hR
   refine rS ?_;refine AWP.ret ?_;subst hR;exact es
  ·replace hR:=cf hR
   iterate 2 refine rS ?_
   refine AWP.cond rfl (fun hb => ?_) (fun hb => ?_)
   ·replace hR:=ct hR
    iterate 2 refine rS ?_
    refine AWP.ret ?_;subst hR;exact es
   ·replace hR:=cf hR
    refine rS ?_;refine AWP.ret ?_;subst hR;exact es
end N218
def D_zhg : DF
 | [x0]=>some (.int .i64 (zhg (rdG yc x0)),false,[wG yi yc x0,bdCharacter (rdG yc x0),(rdG yc x0).Group.length<=4,∀ v∈(rdG yc x0).Group,v<=9])
 | _=>none
theorem ys3:OkD Tryz.prog 218 D_zhg:=by unfold D_zhg;exact dk N218.den
def zz (a0:Character):Bool:=
 (bif ((!(zvb a0.Colors)) || (!(zgb a0)))then false else(bif (zcd a0)then(a0.Period == 0)else((ze a0.Period (zhg a0) 600) && ((a0.Kind != 3) || ((a0.Period.tmod 2) == 0)))))
namespace N137
theorem DD:DOk Tryz.prog (Go.Ab.DD [(111,dP D_ze),(215,dP D_zvb),(216,dP D_zgb),(217,dP D_zcd),(218,dP D_zhg)]):=ya y7b.e <| ya yr2.e <| ya y01.e <| ya yju.e <| ya ys3.e <| ye _
theorem dn:type_of% (And.intro @D_ze.eq_1 <| And.intro @D_zvb.eq_1 <| And.intro @D_zgb.eq_1 <| And.intro @D_zcd.eq_1 <| @D_zhg.eq_1):=by and_intros<;>intros<;>rfl
theorem ol:type_of% (@ze.eq_1):=@ze.eq_1
theorem o0 {p:Prop} (h:p:=by(first|(have q9 := ‹(!zvb a0.Colors || !zgb a0)=false›;have h9:=y8d a0 (by simp only[Bool.or_eq_false_iff,Bool.not_eq_false']at q9;exact q9.2);first|exact⟨hb0,h9.1,fun v hv=>(h9.2 v hv).2,fun _ _=>by decide⟩|exact⟨hb0,h9.1,fun v hv=>(h9.2 v hv).2⟩|exact h9.1));first|done|fail):p:=h
theorem den (a0:Character) (hb0:bdCharacter a0):Den Tryz.prog 137 [.agg (yi a0)] (.bool (zz a0)):=by
 generalize hR:zz a0=r;unfold zz at hR;refine di Tryz.func137 Tryz.ntmps137 Tryz.results137 ?_;intro c hL hc hk;obtain⟨hL0,_⟩:=hL;have hw0:bwCharacter a0:=yp a0 hL0;clear hL0;simp only[pars,Nat.zero_add];iterate 2 refine rS ?_
 refine AWP.cond rfl (fun hb => ?_) (fun hb => ?_)
 ·replace hR:=ct hR
  refine rS ?_;refine AWP.ret ?_;subst hR;exact es
 ·replace hR:=cf hR
  refine rS ?_;refine AWP.cond rfl (fun hb => ?_) (fun hb => ?_)
  ·replace hR:=ct hR
   refine rS ?_;refine AWP.ret ?_;subst hR;exact es
  ·replace hR:=cf hR
   refine rD 16 ?_;refine AWP.ret ?_;subst hR;exact es
end N137
def D_zz : DF
 | [x0]=>some (.bool (zz (rdG yc x0)),false,[wG yi yc x0,bdCharacter (rdG yc x0)])
 | _=>none
theorem yzs:OkD Tryz.prog 137 D_zz:=by unfold D_zz;exact dk N137.den
def yjq (a0:Character) (i1:Nat) (s1:List Int):Except ((List Int)) (List Int):=
 (bif decide (0<(i1:Int))then .ok ((s1++([5]:List Int))++([((zpb ((a0.Letter.getD 0 0).toNat:Int)).getD i1 default)]:List Int))else .ok (s1++([((zpb ((a0.Letter.getD 0 0).toNat:Int)).getD i1 default)]:List Int)))
def yiq (a0:Character) (i2:Nat) (s2:List Int) (i3:Nat) (s3:List Int):Except ((List Int)) (List Int):=
 (bif decide (0<(i3:Int))then .ok ((s3++([(zbc a0.Kind)]:List Int))++([(zfe a0.Kind)]:List Int))else(bif decide (0<(i2:Int))then .ok ((s3++([IntKind.wrap .i64 ((zbc a0.Kind)+20)]:List Int))++([(zfe a0.Kind)]:List Int))else .ok (s3++([(zfe a0.Kind)]:List Int))))
def yoq (a0:Character) (i2:Nat) (s2:List Int):Except ((List Int)) (List Int):=
 (match yd (yiq a0 i2 s2) (((([1]:List Int).getD i2 default)).toNat-0) 0 s2 with|.error e=>.error e|.ok s3=>.ok s3)
def y8p (a0:Character) (i4:Nat) (s4:List Int) (i5:Nat) (s5:List Int):Except ((List Int)) (List Int):=
 (bif decide (0<(i5:Int))then .ok ((s5++([(zbc a0.Kind)]:List Int))++([(zfe a0.Kind)]:List Int))else(bif decide (0<(i4:Int))then .ok ((s5++([IntKind.wrap .i64 ((zbc a0.Kind)+20)]:List Int))++([(zfe a0.Kind)]:List Int))else .ok (s5++([(zfe a0.Kind)]:List Int))))
def yar (a0:Character) (i4:Nat) (s4:List Int):Except ((List Int)) (List Int):=
 (match yd (y8p a0 i4 s4) (((a0.Group.getD i4 default)).toNat-0) 0 s4 with|.error e=>.error e|.ok s5=>.ok s5)
def zq (a0:Character):(List Int):=
 (bif (a0.Kind == 8)then(match yd (yjq a0) (((zpb ((a0.Letter.getD 0 0).toNat:Int)).length)-0) 0 ([]:List Int)with|.error e=>e|.ok s1=>s1)else(bif ((a0.Group.length:Int) == 0)then(match yd (yoq a0) (1-0) 0 ([]:List Int)with|.error e=>e|.ok s2=>(bif (a0.Letter == [76])then s2++([(zbc a0.Kind),20]:List Int)else s2))else(match yd (yar a0) (a0.Group.length-0) 0 ([]:List Int)with|.error e=>e|.ok s4=>(bif (a0.Letter == [76])then s4++([(zbc a0.Kind),20]:List Int)else s4))))
namespace N260
theorem DD:DOk Tryz.prog (Go.Ab.DD [(309,dP D_zpb),(310,dP D_zbc),(311,dP D_zfe)]):=ya yx0.e <| ya ytu.e <| ya y61.e <| ye _
theorem dn:type_of% (And.intro @D_zpb.eq_1 <| And.intro @D_zbc.eq_1 <| @D_zfe.eq_1):=by and_intros<;>intros<;>rfl
theorem o2 {p:Prop} (h:p:=by(first|(and_intros<;>first|decide|omega|(simp;(first|done|fail))|(rw[IntKind.wrap_i64];have:=hg9 i4;omega)|(rw[IntKind.wrap_i64];have:=hg1 i2;omega)|(rw[IntKind.wrap_i64];omega)|(intro i hi;exact y2e _ _ i hi)|(intro i hi;exact ynp _ _ _ i hi)));first|done|fail):p:=h
theorem o3 {p:Prop} (h:p:=by(first|(refine⟨⟨Nat.le_refl _,fun i hi=>y5p _ _ _ i hi⟩,.inl fun i hi=>by rw[y5j _ _ _ i hi];simp[NoBorL,NoBor],by simp,fun i hi=>by rw[y5j _ _ _ i hi];exact y9 _⟩));first|done|fail):p:=h
theorem lx {p:Prop} (h:p:=by(exact lxx);first|done|fail):p:=h
set_option maxHeartbeats 1000000 in
set_option maxRecDepth 20000 in
theorem den (a0:Character) (hb0:bdCharacter a0) (hp0:a0.Group.length<=4) (hp1:∀ v∈a0.Group,v<=9) (hp2:a0.Kind=8->a0.Letter.length=1/\65<=(a0.Letter.getD 0 0).toNat/\(a0.Letter.getD 0 0).toNat<=90):Den Tryz.prog 260 [.ep (yi a0)] (ownL 2 1 yt (zq a0)):=by
 generalize hR:zq a0=r;unfold zq at hR;refine di Tryz.func260 Tryz.ntmps260 Tryz.results260 ?_;intro c hL hc hk;obtain⟨hL0,_⟩:=hL;have hw0:bwCharacter a0:=yp a0 hL0;clear hL0;simp only[pars,Nat.zero_add];have hg9:∀ i:Nat,a0.Group.getD i default<=9:=fun i=>yno hp1 i
 have hs9:=y7p ((a0.Letter.getD 0 0).toNat:Int);have hg1:∀ i:Nat,([1]:List Int).getD i default<=9:=fun i=>yno (by simp) i
 iterate 3 refine rS ?_
 refine AWP.cond rfl (fun hb => ?_) (fun hb => ?_)
 ·replace hR:=ct hR
  iterate 2 refine rS ?_
  refine AWP.block ?_;generalize hz1:yd (yjq a0) (((zpb ((a0.Letter.getD 0 0).toNat:Int)).length)-0) 0 ([]:List Int)=z1 at hR;refine AWP.range (yjq a0) (fun i1 s1=>⟨[(3,.ref 0 1 0 s1.length),(4,.ref 1 1 0 ((zpb ((a0.Letter.getD 0 0).toNat:Int)).length)),(5,.int .i64 (i1:Int))],[.arr 2 1 s1.length (fun j=>yt (s1.getD j default)),.arr 2 1 (zpb ((a0.Letter.getD 0 0).toNat:Int)).length (fun j=>yt ((zpb ((a0.Letter.getD 0 0).toNat:Int)).getD j default))]⟩) (fun i1 s1=>s1.length<=([]:List Int).length+2 * i1/\s1.length<=2 * i1) (((zpb ((a0.Letter.getD 0 0).toNat:Int)).length)) 0 ([]:List Int) [0,1] hz1 ot wt sm ?_;clear hz1;intro i1 s1 hi1 hW1 hz1;refine rS ?_;refine AWP.cond rfl (fun hb => ?_) (fun hb => ?_)
  ·have hlt1:i1<((zpb ((a0.Letter.getD 0 0).toNat:Int)).length):=ot
   rw[yg hlt1]at hz1;simp only[yjq]at hz1;refine rS ?_;refine AWP.cond rfl (fun hb => ?_) (fun hb => ?_)
   ·simp only[hb,cond_true]at hz1
    iterate 3 refine rS ?_
    exact⟨_,[5,1],hlt1,wt,hz1,sm⟩
   ·simp only[hb,cond_false]at hz1
    iterate 2 refine rS ?_
    exact⟨_,[3,1],hlt1,wt,hz1,sm⟩
  ·obtain rfl:i1=((zpb ((a0.Letter.getD 0 0).toNat:Int)).length):=ot
   rw[yh (Nat.le_refl _)]at hz1;subst hz1;dsimp only at hR;refine AWP.exit ?_;refine yb ?_;refine rS ?_;refine AWP.ret ?_;subst hR;exact es
 ·replace hR:=cf hR
  iterate 2 refine rS ?_
  refine AWP.cond rfl (fun hb => ?_) (fun hb => ?_)
  ·replace hR:=ct hR
   iterate 2 refine rS ?_
   refine AWP.block ?_;generalize hz2:yd (yoq a0) (1-0) 0 ([]:List Int)=z2 at hR;refine AWP.range (yoq a0) (fun i2 s2=>⟨[(0,.ep (yi a0)),(3,.ref 0 1 0 s2.length),(6,.ref 1 1 0 1),(7,.int .i64 (i2:Int))],[.arr 2 1 s2.length (fun j=>yt (s2.getD j default)),.arr 2 1 ([1]:List Int).length (fun j=>yt (([1]:List Int).getD j default))]⟩) (fun i2 s2=>s2.length<=18 * i2) (1) 0 ([]:List Int) [0,1] hz2 ot wt sm ?_;clear hz2;intro i2 s2 hi2 hW2 hz2;refine rS ?_;refine AWP.cond rfl (fun hb => ?_) (fun hb => ?_)
   ·have hlt2:i2<1:=ot
    rw[yg hlt2]at hz2;simp only[yoq]at hz2;refine rS ?_;refine AWP.block ?_;generalize hz3:yd (yiq a0 i2 s2) (((([1]:List Int).getD i2 default)).toNat-0) 0 s2=z3 at hz2;refine AWP.range (yiq a0 i2 s2) (fun i3 s3=>⟨[(0,.ep (yi a0)),(3,.ref 0 1 0 s3.length),(6,.ref 1 1 0 1),(7,.int .i64 (i2:Int)),(8,.int .i64 (i3:Int))],[.arr 2 1 s3.length (fun j=>yt (s3.getD j default)),.arr 2 1 ([1]:List Int).length (fun j=>yt (([1]:List Int).getD j default))]⟩) (fun i3 s3=>s3.length<=s2.length+2 * i3/\s3.length<=18 * i2+2 * i3) (((([1]:List Int).getD i2 default)).toNat) 0 s2 [0,1] hz3 ot wt sm ?_;clear hz3;intro i3 s3 hi3 hW3 hz3;refine rS ?_;refine AWP.cond rfl (fun hb => ?_) (fun hb => ?_)
    ·have hlt3:i3<((([1]:List Int).getD i2 default)).toNat:=ot
     rw[yg hlt3]at hz3;simp only[yiq]at hz3;refine rS ?_;refine AWP.cond rfl (fun hb => ?_) (fun hb => ?_)
     ·simp only[hb,cond_true]at hz3
      iterate 3 refine rS ?_
      exact⟨_,[5,1],hlt3,wt,hz3,sm⟩
     ·simp only[hb,cond_false]at hz3
      refine rS ?_;refine AWP.cond rfl (fun hb => ?_) (fun hb => ?_)
      ·simp only[hb,cond_true]at hz3
       iterate 3 refine rS ?_
       exact⟨_,[5,1],hlt3,wt,hz3,sm⟩
      ·simp only[hb,cond_false]at hz3
       iterate 2 refine rS ?_
       exact⟨_,[3,1],hlt3,wt,hz3,sm⟩
    ·obtain rfl:i3=((([1]:List Int).getD i2 default)).toNat:=ot
     rw[yh (Nat.le_refl _)]at hz3;subst hz3;dsimp only at hz2;refine AWP.exit ?_;refine yb ?_;refine rS ?_;exact⟨_,[0,1],hlt2,by(have h9:=hg1 i2;omega),hz2,sm⟩
   ·obtain rfl:i2=1:=ot
    rw[yh (Nat.le_refl _)]at hz2;subst hz2;dsimp only at hR;refine AWP.exit ?_;refine yb ?_;refine rS ?_;refine AWP.cond rfl (fun hb => ?_) (fun hb => ?_)
    ·replace hR:=ct hR
     iterate 2 refine rS ?_
     refine AWP.ret ?_;subst hR;exact es
    ·replace hR:=cf hR
     refine rS ?_;refine AWP.ret ?_;subst hR;exact es
  ·replace hR:=cf hR
   refine rS ?_;refine AWP.block ?_;refine AWP.lensS 6 rfl (fun hLn4 => ?_);generalize hz4:yd (yar a0) (a0.Group.length-0) 0 ([]:List Int)=z4 at hR;refine AWP.range (yar a0) (fun i4 s4=>⟨[(0,.ep (yi a0)),(3,.ref 0 1 0 s4.length),(6,encL 1 yt a0.Group),(7,.int .i64 (i4:Int))],[.arr 2 1 s4.length (fun j=>yt (s4.getD j default))]⟩) (fun i4 s4=>s4.length<=18 * i4) (a0.Group.length) 0 ([]:List Int) [0] hz4 ot wt sm ?_;clear hz4;intro i4 s4 hi4 hW4 hz4;refine rS ?_;refine AWP.cond rfl (fun hb => ?_) (fun hb => ?_)
   ·have hlt4:i4<a0.Group.length:=ot
    rw[yg hlt4]at hz4;simp only[yar]at hz4;refine rS ?_;refine AWP.block ?_;generalize hz5:yd (y8p a0 i4 s4) (((a0.Group.getD i4 default)).toNat-0) 0 s4=z5 at hz4;refine AWP.range (y8p a0 i4 s4) (fun i5 s5=>⟨[(0,.ep (yi a0)),(3,.ref 0 1 0 s5.length),(6,encL 1 yt a0.Group),(7,.int .i64 (i4:Int)),(8,.int .i64 (i5:Int))],[.arr 2 1 s5.length (fun j=>yt (s5.getD j default))]⟩) (fun i5 s5=>s5.length<=s4.length+2 * i5/\s5.length<=18 * i4+2 * i5) (((a0.Group.getD i4 default)).toNat) 0 s4 [0] hz5 ot wt sm ?_;clear hz5;intro i5 s5 hi5 hW5 hz5;refine rS ?_;refine AWP.cond rfl (fun hb => ?_) (fun hb => ?_)
    ·have hlt5:i5<((a0.Group.getD i4 default)).toNat:=ot
     rw[yg hlt5]at hz5;simp only[y8p]at hz5;refine rS ?_;refine AWP.cond rfl (fun hb => ?_) (fun hb => ?_)
     ·simp only[hb,cond_true]at hz5
      iterate 3 refine rS ?_
      exact⟨_,[4],hlt5,wt,hz5,sm⟩
     ·simp only[hb,cond_false]at hz5
      refine rS ?_;refine AWP.cond rfl (fun hb => ?_) (fun hb => ?_)
      ·simp only[hb,cond_true]at hz5
       iterate 3 refine rS ?_
       exact⟨_,[4],hlt5,wt,hz5,sm⟩
      ·simp only[hb,cond_false]at hz5
       iterate 2 refine rS ?_
       exact⟨_,[2],hlt5,wt,hz5,sm⟩
    ·obtain rfl:i5=((a0.Group.getD i4 default)).toNat:=ot
     rw[yh (Nat.le_refl _)]at hz5;subst hz5;dsimp only at hz4;refine AWP.exit ?_;refine yb ?_;refine rS ?_;exact⟨_,[0],hlt4,by(have h9:=hg9 i4;omega),hz4,sm⟩
   ·obtain rfl:i4=a0.Group.length:=ot
    rw[yh (Nat.le_refl _)]at hz4;subst hz4;dsimp only at hR;refine AWP.exit ?_;refine yb ?_;refine rS ?_;refine AWP.cond rfl (fun hb => ?_) (fun hb => ?_)
    ·replace hR:=ct hR
     iterate 2 refine rS ?_
     refine AWP.ret ?_;subst hR;exact es
    ·replace hR:=cf hR
     refine rS ?_;refine AWP.ret ?_;subst hR;exact es
end N260
def D_zq : DF
 | [x0]=>some (ownL 2 1 yt (zq (rdP yc x0)),false,[wP yi yc x0,bdCharacter (rdP yc x0),(rdP yc x0).Group.length<=4,∀ v∈(rdP yc x0).Group,v<=9,(rdP yc x0).Kind=8->(rdP yc x0).Letter.length=1/\65<=((rdP yc x0).Letter.getD 0 0).toNat/\((rdP yc x0).Letter.getD 0 0).toNat<=90])
 | _=>none
theorem yz6:OkD Tryz.prog 260 D_zq:=by unfold D_zq;exact dk N260.den
def zmf (a0:Character):Int:=
 (bif (zef a0)then 0 else(bif (a0.Kind == 3)then 20 else IntKind.wrap .i64 ((zzd (zq a0))+(zkf a0))))
namespace N203
theorem DD:DOk Tryz.prog (Go.Ab.DD [(202,dP D_zef),(259,dP D_zzd),(260,dP D_zq),(261,dP D_zkf)]):=ya you.e <| ya yk3.e <| ya yz6.e <| ya yw3.e <| ye _
theorem dn:type_of% (And.intro @D_zef.eq_1 <| And.intro @D_zzd.eq_1 <| And.intro @D_zq.eq_1 <| @D_zkf.eq_1):=by and_intros<;>intros<;>rfl
theorem den (a0:Character) (hb0:bdCharacter a0) (hp0:a0.Group.length<=4) (hp1:∀ v∈a0.Group,v<=9) (hp2:a0.Kind=8->a0.Letter.length=1/\65<=(a0.Letter.getD 0 0).toNat/\(a0.Letter.getD 0 0).toNat<=90):Den Tryz.prog 203 [.ep (yi a0)] (.int .i64 (zmf a0)):=by
 generalize hR:zmf a0=r;unfold zmf at hR;refine di Tryz.func203 Tryz.ntmps203 Tryz.results203 ?_;intro c hL hc hk;obtain⟨hL0,_⟩:=hL;have hw0:bwCharacter a0:=yp a0 hL0;clear hL0;simp only[pars,Nat.zero_add];iterate 2 refine rS ?_
 refine AWP.cond rfl (fun hb => ?_) (fun hb => ?_)
 ·replace hR:=ct hR
  refine rS ?_;refine AWP.ret ?_;subst hR;exact es
 ·replace hR:=cf hR
  refine rS ?_;refine AWP.cond rfl (fun hb => ?_) (fun hb => ?_)
  ·replace hR:=ct hR
   refine rS ?_;refine AWP.ret ?_;subst hR;exact es
  ·replace hR:=cf hR
   refine rS ?_;refine AWP.ret ?_;subst hR;exact es
end N203
def D_zmf : DF
 | [x0]=>some (.int .i64 (zmf (rdP yc x0)),false,[wP yi yc x0,bdCharacter (rdP yc x0),(rdP yc x0).Group.length<=4,∀ v∈(rdP yc x0).Group,v<=9,(rdP yc x0).Kind=8->(rdP yc x0).Letter.length=1/\65<=((rdP yc x0).Letter.getD 0 0).toNat/\((rdP yc x0).Letter.getD 0 0).toNat<=90])
 | _=>none
theorem ym3:OkD Tryz.prog 203 D_zmf:=by unfold D_zmf;exact dk N203.den
def zsb (a0:Character):Bool:=
 (bif (!(zte a0))then false else(bif (zef a0)then(a0.Period == 0)else(bif ((a0.Kind == 3) && ((a0.Period.tmod 2) != 0))then false else(zi a0.Period (zmf a0) 600))))
namespace N122
theorem DD:DOk Tryz.prog (Go.Ab.DD [(201,dP D_zte),(202,dP D_zef),(203,dP D_zmf),(95,dP D_zi)]):=ya yc4.e <| ya you.e <| ya ym3.e <| ya yce.e <| ye _
theorem dn:type_of% (And.intro @D_zte.eq_1 <| And.intro @D_zef.eq_1 <| And.intro @D_zmf.eq_1 <| @D_zi.eq_1):=by and_intros<;>intros<;>rfl
theorem ol:type_of% (@zi.eq_1):=@zi.eq_1
theorem o0 {p:Prop} (h:p:=by(first|(have q9 := ‹(!zte a0)=false›;have h9:=y4k a0 (by simpa using q9);first|exact⟨hb0,h9.1,fun v hv=>(h9.2.1 v hv).2,h9.2.2⟩|exact⟨h9.1,fun v hv=>(h9.2.1 v hv).2,h9.2.2⟩|(and_intros<;>first|exact hb0|exact h9.1|exact fun v hv=>(h9.2.1 v hv).2|exact h9.2.2|decide|(intros;decide))));first|done|fail):p:=h
theorem den (a0:Character) (hb0:bdCharacter a0):Den Tryz.prog 122 [.ep (yi a0)] (.bool (zsb a0)):=by
 generalize hR:zsb a0=r;unfold zsb at hR;refine di Tryz.func122 Tryz.ntmps122 Tryz.results122 ?_;intro c hL hc hk;obtain⟨hL0,_⟩:=hL;have hw0:bwCharacter a0:=yp a0 hL0;clear hL0;simp only[pars,Nat.zero_add];iterate 2 refine rS ?_
 refine AWP.cond rfl (fun hb => ?_) (fun hb => ?_)
 ·replace hR:=ct hR
  refine rS ?_;refine AWP.ret ?_;subst hR;exact es
 ·replace hR:=cf hR
  refine rS ?_;refine AWP.cond rfl (fun hb => ?_) (fun hb => ?_)
  ·replace hR:=ct hR
   refine rS ?_;refine AWP.ret ?_;subst hR;exact es
  ·replace hR:=cf hR
   refine rS ?_;refine AWP.cond rfl (fun hb => ?_) (fun hb => ?_)
   ·replace hR:=ct hR
    refine rS ?_;refine AWP.ret ?_;subst hR;exact es
   ·replace hR:=cf hR
    refine rD 6 ?_;refine AWP.ret ?_;subst hR;exact es
end N122
def D_zsb : DF
 | [x0]=>some (.bool (zsb (rdP yc x0)),false,[wP yi yc x0,bdCharacter (rdP yc x0)])
 | _=>none
theorem y0v:OkD Tryz.prog 122 D_zsb:=by unfold D_zsb;exact dk N122.den
end Go.Ab
