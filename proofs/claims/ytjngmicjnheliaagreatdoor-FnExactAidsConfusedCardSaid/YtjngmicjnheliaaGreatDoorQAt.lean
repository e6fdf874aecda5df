/- A part of a proof: walks of functions and lemmas of our own. No conditions. -/
import Derived.Test.YtjngmicjnheliaaGreatDoorQAn
import Derived.Test.YtjngmicjnheliaaGreatDoorQAp
import Derived.Test.YtjngmicjnheliaaGreatDoorQAr
import Derived.Test.YtjngmicjnheliaaGreatDoorQAl
import Derived.Test.YtjngmicjnheliaaGreatDoorQAm
set_option linter.unusedSectionVars false
set_option linter.unusedVariables false
set_option linter.unusedSimpArgs false
set_option maxHeartbeats 1000000
namespace Go.Ab
open Go Go.Proofs
theorem ywe {ρ α : Type} (x : α) {b : Nat -> List α -> Except ρ (List α)} (hb : ∀ i s, b i s = .ok (s ++ [x])) : ∀ (n i : Nat) (s : List α), yf b n i s = .ok (s ++ List.replicate n x)
 | 0,i,s=>by simp[yf]
 | n+1,i,s=>by
  simp only[yf,hb];rw[ywe x hb n (i+1) (s++[x]),List.append_assoc];rfl
theorem y4d {ρ α β:Type} [Inhabited α] (l:List α) (f:α->List β) {b:Nat->List β->Except ρ (List β)} (hb:∀ i s,b i s=.ok (s++f (l.getD i default))):yf b (l.length-0) 0 []=.ok (l.flatMap f):=by
 obtain⟨t,h1,h2⟩:=yl (b:=b) (fun j s=>s=(l.take j).flatMap f) (k:=l.length-0) (i:=0) (s:=[]) (by simp) (by
  rintro j _ _ hj rfl
  refine⟨_,hb _ _,?_⟩;rw[y6b l j (by omega),List.flatMap_append]
  simp)
 rw[h1,h2,show 0+(l.length-0)=l.length by omega,List.take_length]
theorem ytm (p:List Phase):zh p=p.flatMap fun v=>List.replicate v.Length.toNat v.Color:=by
 unfold zh
 rw[y4d p (fun v=>List.replicate v.Length.toNat v.Color) (fun i s=>by
  unfold y4s
  rw[ywe _ (b:=yes p i s) (fun _ _=>rfl),Nat.sub_zero])]
def byC (c:List UInt8):Int:=bif c != []then((c.getD 0 0).toNat:Int)else 0
theorem yfj (p:List Phase):zr p=p.flatMap fun v=>List.replicate v.Length.toNat (byC v.Color):=by
 unfold zr
 rw[y4d p (fun v=>List.replicate v.Length.toNat (byC v.Color)) (fun i s=>by
  unfold ycs byC
  cases(p.getD i default).Color != []with
  | true=>rw[cond_true,cond_true,ywe _ (b:=ywr p i s) (fun _ _=>rfl),Nat.sub_zero]
  | false=>rw[cond_false,cond_false,ywe _ (b:=yfr p i s) (fun _ _=>rfl),Nat.sub_zero])]
theorem ysf {α : Type} (f : Phase -> α) : ∀ (p : List Phase), (∀ v ∈ p, 1 <= v.Length /\ v.Length <= 1000) -> p.length <= (p.flatMap fun v => List.replicate v.Length.toNat (f v)).length /\ (p.flatMap fun v => List.replicate v.Length.toNat (f v)).length <= 1000 * p.length
 | [],_=>by simp
 | v::p,h=>by
  have ih:=ysf f p fun w hw=>h w (List.mem_cons_of_mem _ hw)
  have hv:=h v (List.mem_cons_self ..);rw[List.flatMap_cons,List.length_append,List.length_replicate,List.length_cons];omega
theorem ypn {p:List Phase} (h:PhOk p):1<=(zh p).length/\(zh p).length<=1000000:=by
 have h1:=ysf (fun v=>v.Color) p fun v hv=>⟨(h.2.2 v hv).1,(h.2.2 v hv).2.1⟩
 rw[ytm];have:=h.1;have:=h.2.1;omega
theorem ytj {p:List Phase} (h:PhOk p):1<=(zr p).length/\(zr p).length<=1000000:=by
 have h1:=ysf (fun v=>byC v.Color) p fun v hv=>⟨(h.2.2 v hv).1,(h.2.2 v hv).2.1⟩
 rw[yfj];have:=h.1;have:=h.2.1;omega
def Cyc {α:Type} [Inhabited α] (l:List α) (n:Nat):Prop:=∀ t,t<l.length->l.getD t default=l.getD ((t+n) % l.length) default
theorem yus {α:Type} [Inhabited α] (l:List α):Cyc l l.length:=fun t ht=>by rw[Nat.add_mod_right,Nat.mod_eq_of_lt ht]
theorem y9h {l:List (List UInt8)} {n:Nat} (hl:l.length<=1048576) (hn:n<=1048576):znc l (n:Int)=true↔Cyc l n:=by
 have ix:∀ t:Nat,t<l.length->((IntKind.wrap .i64 ((t:Int)+(n:Int))).tmod (l.length:Int)).toNat=(t+n) % l.length:=fun t ht=>by
  rw[show IntKind.wrap .i64 ((t:Int)+(n:Int))=((t+n:Nat):Int)by rw[IntKind.wrap_i64];omega];rw[Int.tmod_eq_emod_of_nonneg (by omega), <- Int.natCast_emod,Int.toNat_natCast]
 unfold znc;rcases ybb (b:=y3l l (n:Int)) (fun t=>(l.getD t default) != (l.getD (((IntKind.wrap .i64 ((t:Int)+(n:Int))).tmod (l.length:Int)).toNat) default)) (fun _=>false) (k:=l.length-0) (i:=0) (s:=()) (fun j u _ _=>rfl)with⟨j,_,h2,h3,_,h5⟩|⟨h1,h2⟩
 ·rw[h5]
  refine⟨fun h=>(by cases h),fun h => ?_⟩;rw[ix j (by omega)]at h3;have:=h j (by omega);rw[this]at h3;simp at h3
 ·rw[h2]
  refine⟨fun _ t ht => ?_,fun _=>rfl⟩;have h3:=h1 t (by omega) (by omega);rw[ix t ht]at h3;simpa using h3
theorem y2h {l:List (List UInt8)} (hl:l.length<=1048576):znc l (l.length:Int)=true:=(y9h hl hl).2 (yus l)
def Per {α:Type} [Inhabited α] (l:List α) (n:Nat):Prop:=∀ i,i+n<l.length->l.getD i default=l.getD (i+n) default
theorem ykk {l:List Int} {n:Nat} (hl:l.length<=1048576) (h1:1<=n) (hn:n<l.length) (u:Unit) :
  ∃ s:Bool×Int,ync (y0h l n u) (((l.length-(0:Int)).toNat)+1) (true,0)=.error (.inr s)/\(s.1=true↔Per l n):=by
 obtain ⟨x, hx, s, rfl, hs⟩ := y9e (b := y0h l n u) (fun s => 0 <= s.2 /\ s.2 <= (l.length : Int) /\ (s.1 = true -> ∀ k : Nat, (k : Int) < s.2 -> k + n < l.length -> l.getD k default = l.getD (k + n) default) /\ (s.1 = false -> ¬ Per l n))
  (fun e=>∃ s,e=.inr s/\(s.1=true↔Per l n)) (fun s=>((l.length:Int)-s.2).toNat) (by
  rintro⟨b,i⟩ ⟨i1,i2,i3,i4⟩
  simp only at i1 i2 i3 i4;have hw:IntKind.wrap .i64 (i+(n:Int))=i+(n:Int):=by rw[IntKind.wrap_i64];omega
  have hw1:IntKind.wrap .i64 (i+1)=i+1:=by rw[IntKind.wrap_i64];omega
  simp only[y0h,hw,hw1];by_cases hc:i+(n:Int)<(l.length:Int)
  ·rw[decide_eq_true hc,Bool.true_and]
   cases b with
   | true=>
    left
    rw[cond_true];refine⟨_,rfl,⟨by simp only;omega,by simp only;omega,fun hb k hk hkn => ?_,fun hb hp => ?_⟩,by simp only;omega⟩
    ·simp only at hb hk
     by_cases hki:(k:Int)<i
     ·exact i3 rfl k hki hkn
     ·have e:i.toNat=k:=by omega
      have e2:(i+(n:Int)).toNat=k+n:=by omega
      rw[e,e2]at hb;simpa using hb
    ·simp only at hb
     have:=hp i.toNat (by omega);have e2:(i+(n:Int)).toNat=i.toNat+n:=by omega
     rw[e2,this]at hb;simp at hb
   | false=>
    right
    rw[cond_false];exact⟨_,rfl,_,rfl,⟨fun h=>(by cases h),fun h=>absurd h (i4 rfl)⟩⟩
  ·right
   rw[decide_eq_false hc,Bool.false_and,cond_false];refine⟨_,rfl,_,rfl,?_⟩
   cases b with
   | true=>exact⟨fun _ k hk=>i3 rfl k (by omega) hk,fun _=>rfl⟩
   | false=>exact⟨fun h=>(by cases h),fun h=>absurd h (i4 rfl)⟩) (((l.length-(0:Int)).toNat)+1) (true,0) ⟨by simp,by simp only;omega,fun _ k hk=>(by simp only at hk;omega),fun h=>(by cases h)⟩ (by simp only;omega)
 exact⟨s,hx,hs⟩
theorem yrh {l:List Int} (h1:1<=l.length) (hl:l.length<=1048576):∃ n:Nat,zab l=(n:Int)/\1<=n/\n<=l.length/\n ∣ l.length/\Per l n/\∀ m,1<=m->m<n->m ∣ l.length->¬ Per l m:=by
 have hb:∀ (j:Nat) (u:Unit),1<=j->j<1+(l.length-1)->(j ∣ l.length/\Per l j/\ycf l j u=.error (j:Int))\/((¬ (j ∣ l.length)\/¬ Per l j)/\ycf l j u=.ok ()):=fun j u h2 h3=>by
  unfold ycf;obtain⟨s,e1,e2⟩:=ykk hl h2 (by omega) u;have hm:((l.length:Int).tmod (j:Int))=((l.length % j:Nat):Int):=by rw[Int.tmod_eq_emod_of_nonneg (by omega), <- Int.natCast_emod]
  rw[hm,e1];by_cases hd:j ∣ l.length
  ·rw[show((((l.length % j:Nat):Int)) != 0)=false by rw[Nat.mod_eq_zero_of_dvd hd];rfl,cond_false]
   cases hs:s.1 with
   | true=>exact .inl ⟨hd,e2.1 hs,by simp[hs]⟩
   | false=>exact .inr ⟨.inr fun hp=>(by rw[e2.2 hp]at hs;cases hs),by simp[hs]⟩
  ·have:l.length % j≠0:=fun h=>hd (Nat.dvd_of_mod_eq_zero h)
   rw[show((((l.length % j:Nat):Int)) != 0)=true by rw[bne_iff_ne];omega,cond_true];exact .inr ⟨.inl hd,rfl⟩
 have key:∀ (k i:Nat) (u:Unit),1<=i->i+k=1+(l.length-1)->(∀ m,1<=m->m<i->m ∣ l.length->¬ Per l m) ->
   (∃ n:Nat,yf (ycf l) k i u=.error (n:Int)/\1<=n/\n<=l.length/\n ∣ l.length/\Per l n/\∀ m,1<=m->m<n->m ∣ l.length->¬ Per l m)\/(yf (ycf l) k i u=.ok ()/\∀ m,1<=m->m<l.length->m ∣ l.length->¬ Per l m):=by
  intro k
  induction k with
  | zero=>intro i u h2 h3 h4;exact .inr ⟨rfl,fun m a b=>h4 m a (by omega)⟩
  | succ k ih=>
   intro i u h2 h3 h4;simp only[yf];rcases hb i u h2 (by omega)with⟨d1,d2,d3⟩|⟨d1,d2⟩
   ·rw[d3];exact .inl ⟨i,rfl,h2,by omega,d1,d2,h4⟩
   ·rw[d2]
    refine ih (i+1) () (by omega) (by omega) fun m a b c hp => ?_
    by_cases hm:m=i
    ·subst hm;rcases d1 with h|h
     ·exact h c
     ·exact h hp
    ·exact h4 m a (by omega) c hp
 unfold zab;rcases key (l.length-1) 1 () (by omega) (by omega) (fun m a b=>by omega)with⟨n,e,r⟩|⟨e,r⟩
 ·rw[e];exact⟨n,rfl,r⟩
 ·rw[e];exact⟨l.length,rfl,h1,Nat.le_refl _,Nat.dvd_refl _,fun i hi=>by omega,r⟩
theorem ymq {l:List Int} (h1:1<=l.length) (hl:l.length<=1048576):1<=zab l/\zab l<=(l.length:Int):=by
 obtain⟨n,e,a,b,_⟩:=yrh h1 hl;omega
def ygq (a0:(List Phase)) (s1:Int):Except (Sum ((List (List UInt8))) (Int)) (Int):=
 (bif (!(znc (zh a0) s1))then .ok (IntKind.wrap .i64 (s1+1))else .error (.inr s1))
def zm (a0:(List Phase)):(List (List UInt8)):=
 (match ync (ygq a0) ((((zh a0).length-(1:Int)).toNat)+1) 1 with|.error (.inl e)=>e|.error (.inr s1)=>subL (zh a0) 0 ((s1).toNat)|.ok _=>default)
namespace N120
theorem DD:DOk Tryz.prog (Go.Ab.DD [(139,dP D_zh),(140,dP D_znc)]):=ya yuy.e <| ya y1v.e <| ye _
theorem dn:type_of% (And.intro @D_zh.eq_1 <| @D_znc.eq_1):=by and_intros<;>intros<;>rfl
theorem o1 {p:Prop} (h:p:=by(first|(have h9:=hW1;omega));first|done|fail):p:=h
theorem o3 {p:Prop} (h:p:=by(first|(refine⟨by omega,by(first|rw[yjb]|simp only[yjb]),fun i hi=>by rw[yxd _ _ _ _ hi,Nat.zero_add]⟩));first|done|fail):p:=h
set_option maxHeartbeats 2000000 in
set_option maxRecDepth 20000 in
theorem den (a0:(List Phase)) (hp0:PhOk a0):Den Tryz.prog 120 [encL 2 ym a0] (ownL 9 1 eS (zm a0)):=by
 generalize hR:zm a0=r;unfold zm at hR;refine di Tryz.func120 Tryz.ntmps120 Tryz.results120 ?_;intro c hL hc hk;obtain⟨hL0,_⟩:=hL;have hw0:a0.length<9223372036854775808:=Nat.lt_succ_of_le (yd hL0).1;have hw1:∀ v∈a0,bwPhase v:=fun v hv=>y8 v ((yd hL0).2 v hv)
 clear hL0;simp only[pars,Nat.zero_add];have htl:=ypn hp0;iterate 3 refine rS ?_
 refine AWP.seq ?_;refine AWP.block ?_;generalize hz1:ync (ygq a0) ((((zh a0).length-(1:Int)).toNat)+1) 1=z1 at hR;refine AWP.whileW (ygq a0) (fun s1=>⟨[(3,.ref 0 1 0 ((zh a0).length)),(4,.int .i64 s1)],[.arr 9 1 (zh a0).length (fun j=>eS ((zh a0).getD j default))]⟩) (fun s1=>1<=s1/\s1<=(zh a0).length) (fun s1=>((zh a0).length-s1).toNat) ((((zh a0).length-(1:Int)).toNat)+1) 1 [0] hz1 m0 (by(exact⟨by(try dsimp only);omega,by(try dsimp only);omega⟩)) sm ?_;clear hz1;intro s1 k1 hW1 hm1 hz1;simp only[ygq]at hz1;refine rS ?_;refine AWP.cond rfl (fun hb => ?_) (fun hb => ?_)
 ·simp only[hb,cond_true]at hz1
  refine rS ?_;exact⟨_,[0],by(have hr9:=y2h (l:=zh a0) (by omega);have hs9:s1≠((zh a0).length:Int):=(by intro e9;rw[e9,hr9]at hb;cases hb);have hw9:IntKind.wrap .i64 (s1+1)=s1+1:=(by rw[IntKind.wrap_i64];omega);(try dsimp only);rw[hw9];omega),by(have hr9:=y2h (l:=zh a0) (by omega);have hs9:s1≠((zh a0).length:Int):=(by intro e9;rw[e9,hr9]at hb;cases hb);have hw9:IntKind.wrap .i64 (s1+1)=s1+1:=(by rw[IntKind.wrap_i64];omega);(try dsimp only);rw[hw9];exact⟨by omega,by omega⟩),hz1,sm⟩
 ·simp only[hb,cond_false]at hz1
  refine AWP.exit ?_;refine yc ?_;subst hz1;dsimp only at hR;refine rS ?_;refine AWP.ret ?_;subst hR;exact es
end N120
def D_zm : DF
 | [x0]=>some (ownL 9 1 eS (zm (rdL yu x0)),false,[wL 2 ym yu x0,PhOk (rdL yu x0)])
 | _=>none
theorem yvy:OkD Tryz.prog 120 D_zm:=by unfold D_zm;exact dk N120.den
def zic (a0:(List Phase)):(List Int):=
 subL (zr a0) 0 (((zab (zr a0))).toNat)
namespace N129
theorem DD:DOk Tryz.prog (Go.Ab.DD [(143,dP D_zr),(144,dP D_zab)]):=ya y7x.e <| ya yow.e <| ye _
theorem dn:type_of% (And.intro @D_zr.eq_1 <| @D_zab.eq_1):=by and_intros<;>intros<;>rfl
theorem o3 {p:Prop} (h:p:=by(first|(refine⟨by omega,by(first|rw[yjb]|simp only[yjb]),fun i hi=>by rw[yxd _ _ _ _ hi,Nat.zero_add]⟩));first|done|fail):p:=h
set_option maxHeartbeats 2000000 in
set_option maxRecDepth 20000 in
theorem den (a0:(List Phase)) (hp0:PhOk a0):Den Tryz.prog 129 [encL 2 ym a0] (ownL 5 1 eIu8 (zic a0)):=by
 generalize hR:zic a0=r;unfold zic at hR;refine di Tryz.func129 Tryz.ntmps129 Tryz.results129 ?_;intro c hL hc hk;obtain⟨hL0,_⟩:=hL;have hw0:a0.length<9223372036854775808:=Nat.lt_succ_of_le (yd hL0).1;have hw1:∀ v∈a0,bwPhase v:=fun v hv=>y8 v ((yd hL0).2 v hv)
 clear hL0;simp only[pars,Nat.zero_add];have htl:=ytj hp0;have hpr:=ymq htl.1 (by omega);iterate 3 refine rS ?_
 refine AWP.ret ?_;subst hR;exact es
end N129
def D_zic : DF
 | [x0]=>some (ownL 5 1 eIu8 (zic (rdL yu x0)),false,[wL 2 ym yu x0,PhOk (rdL yu x0)])
 | _=>none
theorem ywt:OkD Tryz.prog 129 D_zic:=by unfold D_zic;exact dk N129.den
theorem y6n {p:List Phase} (h:PhOk p):∃ n:Nat,zm p=(zh p).take n/\1<=n/\n<=(zh p).length/\Cyc (zh p) n/\∀ m,1<=m->m<n->¬ Cyc (zh p) m:=by
 obtain⟨l1,l2⟩:=ypn h;unfold zm
 have hx := y9e (b := ygq p) (fun s => 1 <= s /\ s <= ((zh p).length : Int) /\ ∀ m : Nat, 1 <= m -> (m : Int) < s -> ¬ Cyc (zh p) m)
  (fun e=>∃ s:Int,e=.inr s/\1<=s/\s<=((zh p).length:Int)/\(∀ m:Nat,1<=m->(m:Int)<s->¬ Cyc (zh p) m)/\Cyc (zh p) s.toNat) (fun s=>(((zh p).length:Int)-s).toNat) (by
  rintro s ⟨i1,i2,i3⟩
  obtain⟨n,rfl⟩:∃ n:Nat,s=(n:Int):=⟨s.toNat,by omega⟩
  unfold ygq;have hi:=y9h (l:=zh p) (n:=n) (by omega) (by omega)
  cases hr:znc (zh p) (n:Int)with
  | true=>
   right
   rw[Bool.not_true,cond_false];exact⟨_,rfl,_,rfl,i1,i2,i3,by rw[Int.toNat_natCast];exact hi.1 hr⟩
  | false=>
   left
   have hn:¬ Cyc (zh p) n:=fun hc=>by rw[hi.2 hc]at hr;cases hr
   have hne:n≠(zh p).length:=fun e=>hn (by rw[e];exact yus _)
   rw[Bool.not_false,cond_true,show IntKind.wrap .i64 ((n:Int)+1)=(n:Int)+1 by rw[IntKind.wrap_i64];omega];refine⟨_,rfl,⟨by omega,by omega,fun m h1 h2 hc => ?_⟩,by omega⟩;by_cases hm:m=n
   ·rw[hm]at hc;exact hn hc
   ·exact i3 m h1 (by omega) hc) ((((zh p).length-(1:Int)).toNat)+1) 1 ⟨by omega,by omega,fun m a b=>by omega⟩ (by omega)
 obtain⟨x,hx,s,rfl,a1,a2,a3,a4⟩:=hx;rw[hx];refine⟨s.toNat,?_,by omega,by omega,a4,fun m b1 b2=>a3 m b1 (by omega)⟩;simp only;rw[yke _ _ _ (by omega),List.drop_zero]
theorem yve {p:List Phase} (h:PhOk p):1<=(zm p).length/\(zm p).length<=1000000:=by
 obtain⟨l1,l2⟩:=ypn h;obtain⟨n,e,a,b,_⟩:=y6n h;rw[e,List.length_take];omega
theorem yfm {p:List Phase} (h:PhOk p):∃ n:Nat,zic p=(zr p).take n/\1<=n/\n<=(zr p).length/\n ∣ (zr p).length/\Per (zr p) n/\∀ m,1<=m->m<n->m ∣ (zr p).length->¬ Per (zr p) m:=by
 obtain⟨l1,l2⟩:=ytj h;obtain⟨n,e,a,b,r⟩:=yrh l1 (by omega);refine⟨n,?_,a,b,r⟩;unfold zic;rw[e,Int.toNat_natCast,yke _ _ _ (by omega),List.drop_zero]
theorem y8j {p:List Phase} (h:PhOk p):1<=(zic p).length/\(zic p).length<=1000000:=by
 obtain⟨l1,l2⟩:=ytj h;obtain⟨n,e,a,b,_⟩:=yfm h;rw[e,List.length_take];omega
theorem ycq (qq:List (List (List UInt8))):zsb qq=qq.flatMap id:=by
 unfold zsb;obtain⟨t,h1,_⟩:=yl (b:=yrk qq) (fun _ _=>True) (k:=qq.length-0) (i:=0) (s:=0) trivial (fun j u _ _ _=>⟨_,rfl,trivial⟩);rw[h1];simp only;rw[show zod [] t=[]from rfl,y4d qq id (b:=ylk qq t) (fun i s=>rfl)]
theorem ywp (qq:List (List Phase)):zib qq=qq.flatMap id:=by
 unfold zib;obtain⟨t,h1,_⟩:=yl (b:=ypk qq) (fun _ _=>True) (k:=qq.length-0) (i:=0) (s:=0) trivial (fun j u _ _ _=>⟨_,rfl,trivial⟩);rw[h1];simp only;rw[show zpd [] t=[]from rfl,y4d qq id (b:=y4k qq t) (fun i s=>rfl)]
def rotL {α:Type} (l:List α) (i:Nat):List α:=l.drop i++l.take i
theorem yqb {α:Type} (l:List α) (i:Nat):(rotL l i).length=l.length:=by
 unfold rotL;rw[List.length_append,List.length_drop,List.length_take];omega
theorem y2c {l:List (List UInt8)} {i:Nat} (h:i<=l.length):zqd l (i:Int)=rotL l i:=by
 unfold zqd rotL;rw[ycq,Int.toNat_natCast,yke _ _ _ (by omega),yke _ _ _ (by omega),List.drop_zero,List.take_of_length_le (by rw[List.length_drop];omega)];simp
theorem y1q (l:List (List UInt8)):(zj l).length<=l.length/\(1<=l.length->1<=(zj l).length):=by
 unfold zj
 obtain⟨t,h1,h2,h3⟩:=yl (b:=ybh l) (fun j s=>s.length<=j/\(1<=j->1<=s.length)) (k:=l.length-0) (i:=0) (s:=[]) ⟨by simp,fun h=>by omega⟩ (by
  rintro j s _ _ ⟨i1,i2⟩
  unfold ybh
  cases hc:(decide (0<(s.length:Int)) && (((s.getD ((IntKind.wrap .i64 ((s.length:Int)-1)).toNat) default).Color) == (l.getD j default)))with
  | true=>
   rw[Bool.and_eq_true,decide_eq_true_eq]at hc;exact⟨_,rfl,by rw[List.length_set];omega,fun _=>by rw[List.length_set];omega⟩
  | false=>exact⟨_,rfl,by simp only[List.length_append,List.length_singleton];omega,fun _=>by simp⟩)
 rw[h1];simp only;exact⟨by omega,fun h=>h3 (by omega)⟩
theorem y2p (l:List Int) (k:Int):(zzb l k).length<=l.length/\(1<=l.length->1<=(zzb l k).length):=by
 unfold zzb
 obtain⟨t,h1,h2,h3⟩:=yl (b:=y3f l k) (fun j s=>s.length<=j/\(1<=j->1<=s.length)) (k:=l.length-0) (i:=0) (s:=[]) ⟨by simp,fun h=>by omega⟩ (by
  rintro j s _ _ ⟨i1,i2⟩
  unfold y3f
  cases hc:(decide (0<(s.length:Int)) && (((s.getD ((IntKind.wrap .i64 ((s.length:Int)-1)).toNat) default).Color) == (zvd (l.getD (((IntKind.wrap .i64 (k+(j:Int))).tmod (l.length:Int)).toNat) default))))with
  | true=>
   rw[Bool.and_eq_true,decide_eq_true_eq]at hc;exact⟨_,rfl,by rw[List.length_set];omega,fun _=>by rw[List.length_set];omega⟩
  | false=>exact⟨_,rfl,by simp only[List.length_append,List.length_singleton];omega,fun _=>by simp⟩)
 rw[h1];simp only;exact⟨by omega,fun h=>h3 (by omega)⟩
def Lx (n:Nat) (f g:Nat->Int):Prop:=∃ k,k<n/\(∀ j,j<k->f j=g j)/\f k<g k
theorem Lx.trans {n:Nat} {f g h:Nat->Int} (a:Lx n f g) (b:Lx n g h):Lx n f h:=by
 obtain⟨k,k1,k2,k3⟩:=a;obtain⟨m,m1,m2,m3⟩:=b;rcases Nat.lt_trichotomy k m with c|c|c
 ·exact⟨k,k1,fun j hj=>(k2 j hj).trans (m2 j (by omega)),by rw[<- m2 k c];exact k3⟩
 ·subst c;exact⟨k,k1,fun j hj=>(k2 j hj).trans (m2 j hj),Int.lt_trans k3 m3⟩
 ·exact⟨m,m1,fun j hj=>(k2 j (by omega)).trans (m2 j hj),by rw[k2 m c];exact m3⟩
theorem Lx.irr {n:Nat} {f:Nat->Int}:¬ Lx n f f:=fun⟨_,_,_,h⟩=>Int.lt_irrefl _ h
theorem Lx.tri {n:Nat} (f g:Nat->Int):Lx n f g\/Lx n g f\/∀ j,j<n->f j=g j:=by
 induction n with
 | zero=>exact .inr (.inr fun j h=>by omega)
 | succ n ih=>
  rcases ih with⟨k,k1,k2⟩|⟨k,k1,k2⟩|h
  ·exact .inl ⟨k,by omega,k2⟩
  ·exact .inr (.inl ⟨k,by omega,k2⟩)
  ·rcases Int.lt_trichotomy (f n) (g n)with c|c|c
   ·exact .inl ⟨n,by omega,h,c⟩
   ·refine .inr (.inr fun j hj => ?_)
    by_cases hn:j=n
    ·rw[hn];exact c
    ·exact h j (by omega)
   ·exact .inr (.inl ⟨n,by omega,fun j hj=>(h j hj).symm,c⟩)
def rotF (l:List Int) (i:Nat):Nat->Int:=fun k=>l.getD ((i+k) % l.length) default
theorem yxg {l:List Int} {i b:Nat} (hl:l.length<=1048576) (hi:i<l.length) (hb:b<l.length):∀ (n k:Nat),k+n=l.length->(∀ j,j<k->rotF l i j=rotF l b j) ->
  yf (y5j l i (b:Int)) n k (b:Int)=.error (.inr (i:Int))/\Lx l.length (rotF l i) (rotF l b)\/(yf (y5j l i (b:Int)) n k (b:Int)=.error (.inr (b:Int))\/yf (y5j l i (b:Int)) n k (b:Int)=.ok (b:Int))/\¬ Lx l.length (rotF l i) (rotF l b)
 | 0,k,hk,h=>.inr ⟨.inr rfl,fun⟨j,j1,_,j3⟩=>by rw[h j (by omega)]at j3;exact Int.lt_irrefl _ j3⟩
 | n+1,k,hk,h=>by
  have ix:∀ a:Nat,a<l.length->((IntKind.wrap .i64 ((a:Int)+(k:Int))).tmod (l.length:Int)).toNat=(a+k) % l.length:=fun a ha=>by
   rw[show IntKind.wrap .i64 ((a:Int)+(k:Int))=((a+k:Nat):Int)by rw[IntKind.wrap_i64];omega];rw[Int.tmod_eq_emod_of_nonneg (by omega), <- Int.natCast_emod,Int.toNat_natCast]
  have hs:y5j l i (b:Int) k (b:Int)=bif rotF l i k != rotF l b k then(bif decide (rotF l i k<rotF l b k)then .error (.inr (i:Int))else .error (.inr (b:Int)))else .ok (b:Int):=by
   unfold y5j rotF;rw[ix i hi,ix b hb]
  simp only[yf,hs];by_cases he:rotF l i k=rotF l b k
  ·rw[show(rotF l i k != rotF l b k)=false by rw[he];simp,cond_false]
   exact yxg hl hi hb n (k+1) (by omega) fun j hj=>by
    by_cases hjk:j=k
    ·rw[hjk];exact he
    ·exact h j (by omega)
  ·rw[show(rotF l i k != rotF l b k)=true by rw[bne_iff_ne];exact he,cond_true]
   by_cases hlt:rotF l i k<rotF l b k
   ·rw[decide_eq_true hlt,cond_true]
    exact .inl ⟨rfl,k,by omega,h,hlt⟩
   ·rw[decide_eq_false hlt,cond_false]
    refine .inr ⟨.inl rfl,fun hL => ?_⟩;exact Lx.irr (hL.trans ⟨k,by omega,fun j hj=>(h j hj).symm,by omega⟩)
theorem yni {l:List Int} (h1:1<=l.length) (hl:l.length<=1048576):∃ b:Nat,zx l=(b:Int)/\b<l.length/\∀ i,i<l.length->¬ Lx l.length (rotF l i) (rotF l b):=by
 unfold zx
 obtain⟨t,e,b,rfl,h2,h3⟩:=yl (b:=ywq l) (fun j s=>∃ b:Nat,s=(b:Int)/\b<l.length/\∀ i,i<j->¬ Lx l.length (rotF l i) (rotF l b)) (k:=l.length-1) (i:=1) (s:=0) ⟨0,rfl,by omega,fun i hi=>by
   have:i=0:=by omega
   subst this;exact Lx.irr⟩ (by
  rintro j _ h4 h5 ⟨b,rfl,b1,b2⟩
  unfold ywq;rcases yxg (i:=j) (b:=b) hl (by omega) b1 (l.length-0) 0 (by omega) (fun j hj=>by omega)with⟨e,hL⟩|⟨e,hL⟩
  ·rw[e]
   refine⟨_,rfl,j,rfl,by omega,fun i hi hx => ?_⟩;by_cases hij:i=j
   ·rw[hij]at hx;exact Lx.irr hx
   ·exact b2 i (by omega) (hx.trans hL)
  ·refine⟨(b:Int),by rcases e with e|e<;>rw[e],b,rfl,b1,fun i hi hx => ?_⟩
   by_cases hij:i=j
   ·rw[hij]at hx;exact hL hx
   ·exact b2 i (by omega) hx)
 rw[e];exact⟨b,rfl,h2,fun i hi=>h3 i (by omega)⟩
theorem yet {l:List Int} (h1:1<=l.length) (hl:l.length<=1048576):0<=zx l/\zx l<(l.length:Int):=by
 obtain⟨b,e,h,_⟩:=yni h1 hl;omega
theorem yz {α β:Type} [Inhabited α] [Inhabited β] (f:α->β) {l:List α} {t:Nat} (h:t<l.length):(l.map f).getD t default=f (l.getD t default):=by
 rw[List.getD_eq_getElem?_getD,List.getD_eq_getElem?_getD,List.getElem?_map,List.getElem?_eq_getElem h];rfl
theorem yvr {α β:Type} [Inhabited α] [Inhabited β] {f:α->β} (hf:∀ a b,f a=f b->a=b) (l:List α) (n:Nat):Cyc (l.map f) n↔Cyc l n:=by
 unfold Cyc;rw[List.length_map];constructor
 ·intro h t ht
  have h2:=h t ht;rw[yz f ht,yz f (Nat.mod_lt _ (by omega))]at h2;exact hf _ _ h2
 ·intro h t ht
  rw[yz f ht,yz f (Nat.mod_lt _ (by omega)),h t ht]
theorem y2r {α β:Type} [Inhabited α] [Inhabited β] {f:α->β} (hf:∀ a b,f a=f b->a=b) (l:List α) (n:Nat):Per (l.map f) n↔Per l n:=by
 unfold Per;rw[List.length_map];constructor
 ·intro h t ht
  have h2:=h t ht;rw[yz f (by omega),yz f ht]at h2;exact hf _ _ h2
 ·intro h t ht
  rw[yz f (by omega),yz f ht,h t ht]
theorem Cyc.add {α:Type} [Inhabited α] {l:List α} {a b:Nat} (ha:Cyc l a) (hb:Cyc l b):Cyc l (a+b):=fun t ht=>by
 rw[ha t ht,hb _ (Nat.mod_lt _ (by omega))];congr 1
 rw[Nat.mod_add_mod,Nat.add_assoc]
theorem Cyc.mul {α : Type} [Inhabited α] {l : List α} {a : Nat} (ha : Cyc l a) : ∀ q, Cyc l (a * q)
 | 0=>fun t ht=>by rw[Nat.mul_zero,Nat.add_zero,Nat.mod_eq_of_lt ht]
 | q+1=>by rw[Nat.mul_succ];exact(Cyc.mul ha q).add ha
theorem Cyc.rest {α:Type} [Inhabited α] {l:List α} {a:Nat} (ha:Cyc l a):Cyc l (l.length % a):=fun t ht=>by
 have h:=(ha.mul (l.length / a)) ((t+l.length % a) % l.length) (Nat.mod_lt _ (by omega))
 rw[h,Nat.mod_add_mod,Nat.add_assoc,Nat.mod_add_div,Nat.add_mod_right,Nat.mod_eq_of_lt ht]
theorem ydy {α:Type} [Inhabited α] {l:List α} {n:Nat} (h1:1<=n) (hc:Cyc l n) (hm:∀ m,1<=m->m<n->¬ Cyc l m):n ∣ l.length:=by
 refine Nat.dvd_of_mod_eq_zero ?_;by_cases h:l.length % n=0
 ·exact h
 ·exact absurd hc.rest (hm _ (by omega) (Nat.mod_lt _ (by omega)))
theorem y5q {α : Type} [Inhabited α] {l : List α} {n : Nat} (h : Per l n) (r : Nat) : ∀ k, r + n * k < l.length -> l.getD r default = l.getD (r + n * k) default
 | 0,_=>rfl
 | k+1,hk=>by
  rw[Nat.mul_succ]at hk;rw[y5q h r k (by omega),h _ (by omega),Nat.mul_succ,Nat.add_assoc]
theorem y3s {α:Type} [Inhabited α] {l:List α} {n:Nat} (h1:1<=n) (hd:n ∣ l.length):Per l n↔Cyc l n:=by
 constructor
 ·intro h t ht
  by_cases hlt:t+n<l.length
  ·rw[Nat.mod_eq_of_lt hlt];exact h t hlt
  ·obtain⟨m,hm⟩:=hd
   have hm0:m≠0:=fun e=>by rw[e,Nat.mul_zero]at hm;omega
   obtain⟨k,rfl⟩:∃ k,m=k+1:=⟨m-1,by omega⟩
   rw[Nat.mul_succ]at hm
   have e:(t+n) % l.length=t+n-l.length:=by
    rw[Nat.mod_eq_sub_mod (by omega),Nat.mod_eq_of_lt (by omega)]
   rw[e];have e2:t+n-l.length+n * k=t:=by omega
   have:=y5q h (t+n-l.length) k (by omega);rw[e2]at this;exact this.symm
 ·intro h i hi
  have:=h i (by omega);rwa [Nat.mod_eq_of_lt hi]at this
def cs (x:UInt8) (b:Bool):List UInt8:=bif b then[x]else[]
def cb (x:UInt8) (b:Bool):Int:=bif b then(x.toNat:Int)else 0
theorem ydr {x:UInt8} (a b:Bool) (h:cs x a=cs x b):a=b:=by cases a<;>cases b<;>first|rfl|(simp[cs]at h)
theorem yfo {x:UInt8} (hx:x.toNat≠0) (a b:Bool) (h:cb x a=cb x b):a=b:=by
 cases a<;>cases b<;>first|rfl|(simp only[cb,cond_true,cond_false]at h;omega)
def tenB (p:List Phase):List Bool:=p.flatMap fun v=>List.replicate v.Length.toNat (v.Color != [])
def One (x:UInt8) (p:List Phase):Prop:=∀ v∈p,v.Color=[]\/v.Color=[x]
theorem ywd {β : Type} (g : Bool -> β) (f : Phase -> β) : ∀ (p : List Phase), (∀ v ∈ p, f v = g (v.Color != [])) -> (p.flatMap fun v => List.replicate v.Length.toNat (f v)) = (tenB p).map g
 | [],_=>rfl
 | v::p,h=>by
  unfold tenB;rw[List.flatMap_cons,List.flatMap_cons,List.map_append,List.map_replicate,h v (List.mem_cons_self ..)];congr 1
  exact ywd g f p fun w hw=>h w (List.mem_cons_of_mem _ hw)
theorem ypo {x:UInt8} {p:List Phase} (h:One x p):zh p=(tenB p).map (cs x):=by
 rw[ytm];exact ywd (cs x) (fun v=>v.Color) p fun v hv=>by rcases h v hv with e|e<;>simp only[e]<;>rfl
theorem ykj {x:UInt8} {p:List Phase} (h:One x p):zr p=(tenB p).map (cb x):=by
 rw[yfj];exact ywd (cb x) (fun v=>byC v.Color) p fun v hv=>by rcases h v hv with e|e<;>simp only[e]<;>rfl
theorem ylh {x:UInt8} {p:List Phase} (hp:PhOk p) (h:One x p) (hx:x.toNat≠0):∃ n:Nat,1<=n/\n<=(tenB p).length/\zm p=((tenB p).take n).map (cs x)/\zic p=((tenB p).take n).map (cb x)/\Cyc (tenB p) n/\∀ m,1<=m->m<n->¬ Cyc (tenB p) m:=by
 obtain⟨n,e1,a1,a2,a3,a4⟩:=y6n hp;obtain⟨m,e2,b1,b2,b3,b4,b5⟩:=yfm hp;rw[ypo h]at e1 a2 a3;rw[ykj h]at e2 b2 b3 b4;rw[List.length_map]at a2 b2 b3;rw[yvr ydr]at a3;rw[y2r (yfo hx)]at b4;have a4':∀ k,1<=k->k<n->¬ Cyc (tenB p) k:=fun k h1 h2 hc=>a4 k h1 h2 (by rw[ypo h,yvr ydr];exact hc)
 have b5':∀ k,1<=k->k<m->k ∣ (tenB p).length->¬ Per (tenB p) k:=fun k h1 h2 hd hq=>b5 k h1 h2 (by rw[ykj h,List.length_map];exact hd) (by rw[ykj h,y2r (yfo hx)];exact hq)
 have hd:=ydy a1 a3 a4'
 have hnm:n=m:=by
  rcases Nat.lt_trichotomy n m with c|c|c
  ·exact absurd ((y3s a1 hd).2 a3) (b5' n a1 c hd)
  ·exact c
  ·exact absurd ((y3s b1 b3).1 b4) (a4' m b1 c)
 subst hnm;exact⟨n,a1,a2,by rw[e1,List.map_take],by rw[e2,List.map_take],a3,a4'⟩
def yhl (a0:(List Phase)) (i1:Nat) (s1:List (List UInt8)):Except ((List (List UInt8))) (List (List UInt8)):=
 (bif (((zm a0).getD i1 default) == ((zm a0).getD (((IntKind.wrap .i64 ((IntKind.wrap .i64 ((i1:Int)+((zm a0).length:Int)))-1)).tmod ((zm a0).length:Int)).toNat) default))then .ok s1 else(bif decide ((zwb (zqd (zm a0) (i1:Int)) s1)<0)then .ok (zqd (zm a0) (i1:Int))else .ok s1))
def zl (a0:(List Phase)):(List (List UInt8)):=
 (match yf (yhl a0) (((zm a0).length)-0) 0 (zm a0)with|.error e=>e|.ok s1=>s1)
namespace N85
theorem DD:DOk Tryz.prog (Go.Ab.DD [(120,dP D_zm),(121,dP D_zqd),(122,dP D_zwb)]):=ya yvy.e <| ya yuu.e <| ya ymw.e <| ye _
theorem dn:type_of% (And.intro @D_zm.eq_1 <| And.intro @D_zqd.eq_1 <| @D_zwb.eq_1):=by and_intros<;>intros<;>rfl
theorem o1 {p:Prop} (h:p:=by(first|(have h9:=yqi (a:=IntKind.wrap .i64 ((IntKind.wrap .i64 ((i1:Int)+((zm a0).length:Int)))-1)) (n:=((zm a0).length:Int)) (by first|omega|(rw[IntKind.wrap_i64];omega)|(rw[IntKind.wrap_i64,IntKind.wrap_i64];omega)) (by omega);first|exact h9.1|exact h9.2.1|exact⟨h9.1,h9.2.1⟩|omega)|(have h9:=hW1;omega));first|done|fail):p:=h
set_option maxHeartbeats 2000000 in
set_option maxRecDepth 20000 in
theorem den (a0:(List Phase)) (hp0:PhOk a0):Den Tryz.prog 85 [encL 2 ym a0] (encL 1 eS (zl a0)):=by
 generalize hR:zl a0=r;unfold zl at hR;refine di Tryz.func85 Tryz.ntmps85 Tryz.results85 ?_;intro c hL hc hk;obtain⟨hL0,_⟩:=hL;have hw0:a0.length<9223372036854775808:=Nat.lt_succ_of_le (yd hL0).1;have hw1:∀ v∈a0,bwPhase v:=fun v hv=>y8 v ((yd hL0).2 v hv)
 clear hL0;simp only[pars,Nat.zero_add];have hol:=yve hp0;iterate 2 refine rS ?_
 refine AWP.lendV 3 0 (fun j=>eS ((zm a0).getD j default)) rfl rfl ot lv1 lv2 ?_;simp only[setE];iterate 2 refine rS ?_
 refine AWP.block ?_;generalize hz1:yf (yhl a0) (((zm a0).length)-0) 0 (zm a0)=z1 at hR;refine AWP.range (yhl a0) (fun i1 s1=>⟨[(3,encL 1 eS (zm a0)),(4,encL 1 eS s1),(11,.int .i64 ((zm a0).length:Int)),(12,.int .i64 (i1:Int))],[]⟩) (fun i1 s1=>s1.length=(zm a0).length) (((zm a0).length)) 0 (zm a0) [] hz1 ot (by(exact rfl)) sm ?_;clear hz1;intro i1 s1 hi1 hW1 hz1;refine rS ?_;refine AWP.seq ?_;refine AWP.cond rfl (fun hb => ?_) (fun hb => ?_)
 ·have hlt1:i1<((zm a0).length):=ot
  rw[yg hlt1]at hz1;simp only[yhl]at hz1;refine rS ?_;refine rD 16 ?_;refine AWP.cond rfl (fun hb => ?_) (fun hb => ?_)
  ·simp only[hb,cond_true]at hz1
   refine AWP.exit ?_;refine yc ?_;refine rS ?_;exact⟨_,[],hlt1,by(first|exact hW1|(rw[y2c (by omega),yqb])),hz1,sm⟩
  ·simp only[hb,cond_false]at hz1
   refine rS ?_;refine AWP.lendV 6 0 (fun j=>eS ((zqd (zm a0) (i1:Int)).getD j default)) rfl rfl ot lv1 lv2 ?_;simp only[setE];refine rS ?_;refine AWP.cond rfl (fun hb => ?_) (fun hb => ?_)
   ·simp only[hb,cond_true]at hz1
    iterate 2 refine rS ?_
    exact⟨_,[],hlt1,by(first|exact hW1|(rw[y2c (by omega),yqb])),hz1,sm⟩
   ·simp only[hb,cond_false]at hz1
    refine rS ?_;exact⟨_,[],hlt1,by(first|exact hW1|(rw[y2c (by omega),yqb])),hz1,sm⟩
 ·obtain rfl:i1=((zm a0).length):=ot
  rw[yh (Nat.le_refl _)]at hz1;subst hz1;dsimp only at hR;refine AWP.exit ?_;refine yc ?_;refine rS ?_;refine AWP.ret ?_;subst hR;exact es
end N85
def D_zl : DF
 | [x0]=>some (encL 1 eS (zl (rdL yu x0)),false,[wL 2 ym yu x0,PhOk (rdL yu x0)])
 | _=>none
theorem yzy:OkD Tryz.prog 85 D_zl:=by unfold D_zl;exact dk N85.den
def zn (a0:(List Phase)):(List Phase):=
 (zzb (zic a0) (zx (zic a0)))
namespace N105
theorem DD:DOk Tryz.prog (Go.Ab.DD [(129,dP D_zic),(130,dP D_zzb),(131,dP D_zx)]):=ya ywt.e <| ya yyv.e <| ya yly.e <| ye _
theorem dn:type_of% (And.intro @D_zic.eq_1 <| And.intro @D_zzb.eq_1 <| @D_zx.eq_1):=by and_intros<;>intros<;>rfl
set_option maxHeartbeats 2000000 in
set_option maxRecDepth 20000 in
theorem den (a0:(List Phase)) (hp0:PhOk a0):Den Tryz.prog 105 [encL 2 ym a0] (ownL 105 2 ym (zn a0)):=by
 generalize hR:zn a0=r;unfold zn at hR;refine di Tryz.func105 Tryz.ntmps105 Tryz.results105 ?_;intro c hL hc hk;obtain⟨hL0,_⟩:=hL;have hw0:a0.length<9223372036854775808:=Nat.lt_succ_of_le (yd hL0).1;have hw1:∀ v∈a0,bwPhase v:=fun v hv=>y8 v ((yd hL0).2 v hv)
 clear hL0;simp only[pars,Nat.zero_add];have hol:=y8j hp0;have hlr:=yet hol.1 (by omega);iterate 3 refine rS ?_
 refine AWP.ret ?_;subst hR;exact es
end N105
def D_zn : DF
 | [x0]=>some (ownL 105 2 ym (zn (rdL yu x0)),false,[wL 2 ym yu x0,PhOk (rdL yu x0)])
 | _=>none
theorem y2x:OkD Tryz.prog 105 D_zn:=by unfold D_zn;exact dk N105.den
theorem y1d {p:List Phase} (h:PhOk p):(zl p).length=(zm p).length:=by
 obtain⟨l1,l2⟩:=yve h;unfold zl
 obtain⟨t,h1,h2⟩:=yl (b:=yhl p) (fun _ s=>s.length=(zm p).length) (k:=(zm p).length-0) (i:=0) (s:=zm p) rfl (by
  intro j s _ hj hs;unfold yhl
  cases((zm p).getD j default == _)with
  | true=>exact⟨_,rfl,hs⟩
  | false=>
   rw[cond_false]
   cases decide (zwb (zqd (zm p) (j:Int)) s<0)with
   | true=>exact⟨_,rfl,by rw[y2c (by omega),yqb]⟩
   | false=>exact⟨_,rfl,hs⟩)
 rw[h1];exact h2
theorem yex {p:List Phase} (h:PhOk p):1<=(zj (zl p)).length/\(zj (zl p)).length<=1000000:=by
 obtain⟨l1,l2⟩:=yve h;have:=y1d h;have:=y1q (zl p);omega
theorem ykh {p:List Phase} (h:PhOk p):1<=(zn p).length/\(zn p).length<=1000000:=by
 obtain⟨l1,l2⟩:=y8j h;have:=y2p (zic p) (zx (zic p));unfold zn;omega
theorem y9y (x:UInt8) (a b:Bool):zhe (cs x a) (cs x b)=bif a == b then 0 else(bif a then 1 else -1):=by
 unfold zhe zge;cases a<;>cases b<;>simp[cs,Op.bytesLess]
def rB (x:UInt8) (L:List Bool) (i:Nat):Nat->Int:=fun k=>cb x (L.getD ((i+k) % L.length) default)
theorem yxc {α:Type} [Inhabited α] {L:List α} {i k:Nat} (hi:i<L.length) (hk:k<L.length):(rotL L i).getD k default=L.getD ((i+k) % L.length) default:=by
 unfold rotL;rw[List.getD_eq_getElem?_getD,List.getD_eq_getElem?_getD];congr 1
 by_cases h:k<L.length-i
 ·rw[List.getElem?_append_left (by rw[List.length_drop];exact h),List.getElem?_drop,Nat.mod_eq_of_lt (by omega)]
 ·rw[List.getElem?_append_right (by rw[List.length_drop];omega),List.length_drop,List.getElem?_take,if_pos (by omega),Nat.mod_eq_sub_mod (by omega),Nat.mod_eq_of_lt (by omega)]
  congr 1
  omega
theorem yiq {x:UInt8} (hx:x.toNat≠0) {A B:List Bool} (h:A.length=B.length):zwb (A.map (cs x)) (B.map (cs x))<0↔Lx A.length (fun k=>cb x (A.getD k default)) (fun k=>cb x (B.getD k default)):=by
 have hb:∀ (j:Nat) (u:Unit),j<A.length->y7h (A.map (cs x)) (B.map (cs x)) j u=bif A.getD j default == B.getD j default then .ok ()else .error (bif A.getD j default then 1 else -1):=fun j u hj=>by
  unfold y7h;rw[List.length_map,decide_eq_false (by omega),cond_false,yz _ hj,yz _ (by omega),y9y];cases A.getD j default<;>cases B.getD j default<;>rfl
 unfold zwb;rw[List.length_map,List.length_map]
 rcases ybb (b:=y7h (A.map (cs x)) (B.map (cs x))) (fun j => !(A.getD j default == B.getD j default)) (fun j=>bif A.getD j default then 1 else -1) (k:=A.length-0) (i:=0) (s:=()) (fun j u _ hj=>by
  rw[hb j u (by omega)]
  cases(A.getD j default == B.getD j default)<;>rfl)with⟨j,_,h2,h3,h4,h5⟩|⟨h1,h2⟩
 ·rw[h5]
  have heq:∀ k,k<j->cb x (A.getD k default)=cb x (B.getD k default):=fun k hk=>by
   have:=h4 k (by omega) hk;rw[Bool.not_eq_false',beq_iff_eq]at this;rw[this]
  simp only
  cases ha:A.getD j default with
  | true=>
   have hbj:B.getD j default=false:=by
    cases hbb:B.getD j default with
    | false=>rfl
    | true=>rw[ha,hbb]at h3;simp at h3
   refine⟨fun h=>absurd h (by decide),fun hL => ?_⟩;exact absurd (hL.trans ⟨j,by omega,fun k hk=>(heq k hk).symm,by simp only[ha,hbj,cb,cond_true,cond_false];omega⟩) Lx.irr
  | false=>
   have hbj:B.getD j default=true:=by
    cases hbb:B.getD j default with
    | true=>rfl
    | false=>rw[ha,hbb]at h3;simp at h3
   exact⟨fun _=>⟨j,by omega,heq,by simp only[ha,hbj,cb,cond_true,cond_false];omega⟩,fun _=>by decide⟩
 ·rw[h2]
  simp only;rw[decide_eq_false (by omega),cond_false];refine⟨fun h=>absurd h (by decide),fun⟨k,k1,_,k3⟩ => ?_⟩;have:=h1 k (by omega) (by omega);rw[Bool.not_eq_false',beq_iff_eq]at this;simp only at k3;rw[this]at k3;exact absurd k3 (Int.lt_irrefl _)
theorem ymo {n:Nat} {f f' g g':Nat->Int} (hf:∀ k,k<n->f k=f' k) (hg:∀ k,k<n->g k=g' k):Lx n f g↔Lx n f' g':=by
 constructor
 ·rintro⟨k,k1,k2,k3⟩
  exact⟨k,k1,fun j hj=>by rw[<- hf j (by omega), <- hg j (by omega)];exact k2 j hj,by rw[<- hf k k1, <- hg k k1];exact k3⟩
 ·rintro⟨k,k1,k2,k3⟩
  exact⟨k,k1,fun j hj=>by rw[hf j (by omega),hg j (by omega)];exact k2 j hj,by rw[hf k k1,hg k k1];exact k3⟩
theorem yyq {x:UInt8} (hx:x.toNat≠0) {L:List Bool} {b:Nat} (hb:b<L.length) (h0:b≠0) (hm:∀ i,i<L.length->¬ Lx L.length (rB x L i) (rB x L b)) (he:L.getD b default=L.getD (b-1) default):∀ j,j<L.length->L.getD j default=L.getD b default:=by
 intro j hj;refine Decidable.byContradiction fun hne => ?_
 cases ha:L.getD b default with
 | true=>
  have hjf:L.getD j default=false:=by
   cases h:L.getD j default with
   | false=>rfl
   | true=>rw[ha,h]at hne;exact absurd rfl hne
  refine hm j hj ⟨0,by omega,fun k hk=>by omega,?_⟩;unfold rB;rw[Nat.add_zero,Nat.add_zero,Nat.mod_eq_of_lt hj,Nat.mod_eq_of_lt hb,hjf,ha];simp only[cb,cond_true,cond_false];omega
 | false=>
  have hjt:L.getD j default=true:=by
   cases h:L.getD j default with
   | true=>rfl
   | false=>rw[ha,h]at hne;exact absurd rfl hne
  -- the first lit place behind b
  have hex:∃ k,k<L.length/\L.getD ((b+k) % L.length) default=true:=by
   by_cases hjb:b<=j
   ·exact⟨j-b,by omega,by rw[show b+(j-b)=j by omega,Nat.mod_eq_of_lt hj];exact hjt⟩
   ·exact⟨j+L.length-b,by omega,by rw[show b+(j+L.length-b)=j+L.length by omega,Nat.add_mod_right,Nat.mod_eq_of_lt hj];exact hjt⟩
  have hfirst:∃ k,(k<L.length/\L.getD ((b+k) % L.length) default=true)/\∀ q,q<k->L.getD ((b+q) % L.length) default=false:=by
   obtain⟨k,hk⟩:=hex
   induction k using Nat.strongRecOn with
   | ind k ih=>
    by_cases hq:∃ q,q<k/\L.getD ((b+q) % L.length) default=true
    ·obtain⟨q,q1,q2⟩:=hq
     exact ih q q1 ⟨by omega,q2⟩
    ·refine⟨k,hk,fun q hqk => ?_⟩
     cases h:L.getD ((b+q) % L.length) default with
     | false=>rfl
     | true=>exact absurd ⟨q,hqk,h⟩ hq
  obtain⟨k,⟨k1,k2⟩,k3⟩:=hfirst
  have hk0:k≠0:=fun e=>by
   rw[e,Nat.add_zero,Nat.mod_eq_of_lt hb,ha]at k2;cases k2
  have hz:∀ q,q<=k->L.getD ((b-1+q) % L.length) default=false:=fun q hq=>by
   by_cases hq0:q=0
   ·rw[hq0,Nat.add_zero,Nat.mod_eq_of_lt (by omega), <- he];exact ha
   ·rw[show b-1+q=b+(q-1)by omega];exact k3 _ (by omega)
  refine hm (b-1) (by omega) ⟨k,k1,fun q hq => ?_,?_⟩
  ·unfold rB;rw[hz q (by omega),k3 q hq]
  ·unfold rB;rw[hz k (Nat.le_refl _),k2]
   simp only[cb,cond_true,cond_false];omega
theorem ymn {x:UInt8} (hx:x.toNat≠0) {L:List Bool} {a b:Nat} (ha:a<L.length) (hb:b<L.length) (h:∀ k,k<L.length->rB x L a k=rB x L b k):rotL L a=rotL L b:=by
 refine yxj (by rw[yqb,yqb]) fun k hk => ?_
 rw[yqb]at hk;rw[yxc ha hk,yxc hb hk];exact yfo hx _ _ (h k hk)
theorem y2y {x:UInt8} (hx:x.toNat≠0) {L:List Bool} {a b:Nat} (ha:a<L.length) (hb:b<L.length):zwb ((rotL L a).map (cs x)) ((rotL L b).map (cs x))<0↔Lx L.length (rB x L a) (rB x L b):=by
 rw[yiq hx (by rw[yqb,yqb]),yqb];refine ymo (fun k hk => ?_) (fun k hk => ?_)
 ·show cb x ((rotL L a).getD k default)=_;rw[yxc ha hk];rfl
 ·show cb x ((rotL L b).getD k default)=_;rw[yxc hb hk];rfl
theorem yjo {α β:Type} (f:α->β) (L:List α) (i:Nat):rotL (L.map f) i=(rotL L i).map f:=by
 unfold rotL;rw[List.map_append,List.map_drop,List.map_take]
theorem y8m {x:UInt8} (hx:x.toNat≠0) {p:List Phase} {L:List Bool} (h:zm p=L.map (cs x)) (h1:1<=L.length) (hl:L.length<=1000000) :
  ∃ b,b<L.length/\zl p=(rotL L b).map (cs x)/\∀ t,t<L.length->(t=0\/L.getD t default≠L.getD (t-1) default)->¬ Lx L.length (rB x L t) (rB x L b):=by
 unfold zl;rw[h,List.length_map]
 obtain⟨s,e,b,b1,rfl,b2,b3⟩:=yl (b:=yhl p) (fun j s=>∃ b,b<L.length/\s=(rotL L b).map (cs x)/\¬ Lx L.length (rB x L 0) (rB x L b)/\∀ t,t<j->t≠0->L.getD t default≠L.getD (t-1) default->¬ Lx L.length (rB x L t) (rB x L b)) (k:=L.length-0) (i:=0) (s:=L.map (cs x)) ⟨0,by omega,by unfold rotL;simp,Lx.irr,fun t ht=>by omega⟩ (by
  rintro j _ _ hj ⟨b,b1,rfl,b2,b3⟩
  have hj:j<L.length:=by omega
  have ix:((IntKind.wrap .i64 ((IntKind.wrap .i64 ((j:Int)+(L.length:Int)))-1)).tmod (L.length:Int)).toNat=(j+L.length-1) % L.length:=by
   rw[show IntKind.wrap .i64 ((j:Int)+(L.length:Int))=(j:Int)+(L.length:Int)by rw[IntKind.wrap_i64];omega,show IntKind.wrap .i64 ((j:Int)+(L.length:Int)-1)=((j+L.length-1:Nat):Int)by rw[IntKind.wrap_i64];omega];rw[Int.tmod_eq_emod_of_nonneg (by omega), <- Int.natCast_emod,Int.toNat_natCast]
  have hm:(j+L.length-1) % L.length<L.length:=Nat.mod_lt _ (by omega)
  have stay:(j≠0->L.getD j default≠L.getD (j-1) default->¬ Lx L.length (rB x L j) (rB x L b))->∃ b',b'<L.length/\(rotL L b).map (cs x)=(rotL L b').map (cs x)/\¬ Lx L.length (rB x L 0) (rB x L b')/\∀ t,t<j+1->t≠0->L.getD t default≠L.getD (t-1) default->¬ Lx L.length (rB x L t) (rB x L b'):=fun hs=>⟨b,b1,rfl,b2,fun t ht t0 hd=>by
   by_cases htj:t=j
   ·rw[htj]at t0 hd ⊢;exact hs t0 hd
   ·exact b3 t (by omega) t0 hd⟩
  unfold yhl;rw[h,List.length_map,ix,yz _ hj,yz _ hm]
  cases hq:(cs x (L.getD j default) == cs x (L.getD ((j+L.length-1) % L.length) default))with
  | true=>
   refine⟨_,rfl,stay fun j0 hd=>absurd ?_ hd⟩;have:=ydr _ _ (eq_of_beq hq);rw[this,show j+L.length-1=(j-1)+L.length by omega,Nat.add_mod_right,Nat.mod_eq_of_lt (by omega)]
  | false=>
   rw[cond_false,y2c (by rw[List.length_map];omega),yjo];have hc:=y2y hx hj b1;by_cases hlt:zwb ((rotL L j).map (cs x)) ((rotL L b).map (cs x))<0
   ·have hL:=hc.1 hlt
    rw[decide_eq_true hlt,cond_true];refine⟨_,rfl,j,hj,rfl,fun hx0=>b2 (hx0.trans hL),fun t ht t0 hd hxt => ?_⟩;by_cases htj:t=j
    ·rw[htj]at hxt;exact Lx.irr hxt
    ·exact b3 t (by omega) t0 hd (hxt.trans hL)
   ·rw[decide_eq_false hlt,cond_false]
    exact⟨_,rfl,stay fun _ _ hL=>hlt (hc.2 hL)⟩)
 rw[e];refine⟨b,b1,rfl,fun t ht ho => ?_⟩;by_cases t0:t=0
 ·rw[t0];exact b2
 ·rcases ho with ho|ho
  ·exact absurd ho t0
  ·exact b3 t (by omega) t0 ho
theorem ykp {x:UInt8} (hx:x.toNat≠0) {p:List Phase} (hp:PhOk p) {L:List Bool} (h:zm p=L.map (cs x)) (h2:zic p=L.map (cb x)) :
  ∃ b:Nat,b<L.length/\zx (zic p)=(b:Int)/\zl p=(rotL L b).map (cs x)/\∀ i,i<L.length->¬ Lx L.length (rB x L i) (rB x L b):=by
 obtain⟨l1,l2⟩:=yve hp;rw[h,List.length_map]at l1 l2;obtain⟨c,e,c1,c2⟩:=yni (l:=zic p) (by rw[h2,List.length_map];exact l1) (by rw[h2,List.length_map];omega);rw[h2,List.length_map]at c1 c2
 have hr:∀ i,i<L.length->∀ k,k<L.length->rotF (L.map (cb x)) i k=rB x L i k:=fun i hi k hk=>by
  unfold rotF rB;rw[List.length_map,yz _ (Nat.mod_lt _ (by omega))]
 have c2':∀ i,i<L.length->¬ Lx L.length (rB x L i) (rB x L c):=fun i hi hL=>c2 i hi ((ymo (hr i hi) (hr c c1)).2 hL)
 obtain⟨b,b1,b2,b3⟩:=y8m hx h l1 l2
 have hrot:rotL L b=rotL L c:=by
  rcases Lx.tri (n:=L.length) (rB x L b) (rB x L c)with hL|hL|hE
  ·exact absurd hL (c2' b b1)
  ·by_cases hc0:c=0\/L.getD c default≠L.getD (c-1) default
   ·exact absurd hL (b3 c c1 hc0)
   ·have hc1:c≠0:=fun e=>hc0 (.inl e)
    have hce:L.getD c default=L.getD (c-1) default:=Decidable.byContradiction fun e=>hc0 (.inr e)
    have hk:=yyq hx c1 hc1 c2' hce;refine ymn hx b1 c1 fun k _ => ?_
    unfold rB;rw[hk _ (Nat.mod_lt _ (by omega)),hk _ (Nat.mod_lt (c+k) (by omega))]
  ·exact ymn hx b1 c1 hE
 exact⟨c,c1,e,by rw[b2,hrot],c2'⟩
theorem y0l {x:UInt8} (hx:x.toNat≠0) {p:List Phase} (hp:PhOk p) (h1:One x p):zn p=zj (zl p):=by
 obtain⟨n,n1,n2,e1,e2,_⟩:=ylh hp h1 hx;obtain⟨b,b1,b2,b3,_⟩:=ykp hx hp e1 e2;obtain⟨l1,l2⟩:=y8j hp;generalize hL:(tenB p).take n=L at *;unfold zn;rw[b2,b3,e2];rw[e2,List.length_map]at l1 l2;unfold zzb zj;rw[List.length_map,List.length_map,yqb]
 have hs:∀ j u,0<=j->j<0+(L.length-0)->y3f (L.map (cb x)) (b:Int) j u=ybh ((rotL L b).map (cs x)) j u:=fun j u _ hj=>by
  have hj:j<L.length:=by omega
  have ix:((IntKind.wrap .i64 ((b:Int)+(j:Int))).tmod (L.length:Int)).toNat=(b+j) % L.length:=by
   rw[show IntKind.wrap .i64 ((b:Int)+(j:Int))=((b+j:Nat):Int)by rw[IntKind.wrap_i64];omega];rw[Int.tmod_eq_emod_of_nonneg (by omega), <- Int.natCast_emod,Int.toNat_natCast]
  have hname:∀ z:Bool,zvd (cb x z)=cs x z:=fun z=>by
   unfold zvd cb cs
   cases z with
   | false=>rfl
   | true=>
    rw[cond_true,cond_true,show((x.toNat:Int) == 0)=false by rw[beq_eq_false_iff_ne];omega,cond_false];simp
  unfold y3f ybh;rw[List.length_map,ix,yz _ (Nat.mod_lt _ (by omega)),hname,yz _ (by rw[yqb];exact hj),yxc b1 hj]
 rw[yvi _ _ _ (fun j u h1 h2=>hs j u h1 h2)];all_goals rfl
theorem yvz {x y:UInt8} (hx:x.toNat≠0) (hy:y.toNat≠0) (a b:Bool):cb x a<cb x b↔cb y a<cb y b:=by
 cases a<;>cases b<;>simp only[cb,cond_true,cond_false]<;>omega
theorem y7u {x y:UInt8} (hx:x.toNat≠0) (hy:y.toNat≠0) {n:Nat} {L:List Bool} {i b:Nat} (h:Lx n (rB x L i) (rB x L b)):Lx n (rB y L i) (rB y L b):=by
 obtain⟨k,k1,k2,k3⟩:=h;refine⟨k,k1,fun j hj => ?_,?_⟩
 ·have:=yfo hx _ _ (k2 j hj)
  unfold rB;rw[this]
 ·unfold rB at k3 ⊢
  exact(yvz hx hy _ _).1 k3
def yzr (B R:List Bool):Prop:=∃ n b:Nat,1<=n/\n<=B.length/\Cyc B n/\(∀ m,1<=m->m<n->¬ Cyc B m)/\b<n/\R=rotL (B.take n) b/\∀ i,i<n->¬ Lx n (rB 1 (B.take n) i) (rB 1 (B.take n) b)
theorem yak {B R R':List Bool} (h:yzr B R) (h':yzr B R'):R=R':=by
 obtain⟨n,b,a1,a2,a3,a4,a5,rfl,a7⟩:=h;obtain⟨m,c,b1,b2,b3,b4,b5,rfl,b7⟩:=h'
 have e:n=m:=by
  rcases Nat.lt_trichotomy n m with q|q|q
  ·exact absurd a3 (b4 n a1 q)
  ·exact q
  ·exact absurd b3 (a4 m b1 q)
 subst e;have hl:(B.take n).length=n:=by rw[List.length_take];omega
 rcases Lx.tri (n:=n) (rB 1 (B.take n) b) (rB 1 (B.take n) c)with q|q|q
 ·exact absurd q (b7 b a5)
 ·exact absurd q (a7 c b5)
 ·exact ymn (x:=1) (by decide) (by omega) (by omega) (by rw[hl];exact q)
theorem ych {x:UInt8} (hx:x.toNat≠0) {p:List Phase} (hp:PhOk p) (h1:One x p):∃ R,zl p=R.map (cs x)/\yzr (tenB p) R:=by
 obtain⟨n,n1,n2,e1,e2,c1,c2⟩:=ylh hp h1 hx;obtain⟨b,b1,b2,b3,b4⟩:=ykp hx hp e1 e2;have hl:((tenB p).take n).length=n:=by rw[List.length_take];omega
 rw[hl]at b1 b4;exact⟨_,b3,n,b,n1,n2,c1,c2,b1,rfl,fun i hi hL=>b4 i hi (y7u (by decide) hx hL)⟩
def y8p (s:List (Bool×Int)) (b:Bool):List (Bool×Int):=
 bif decide (0<s.length) && ((s.getD (s.length-1) default).1 == b)then s.set (s.length-1) ((s.getD (s.length-1) default).1,(s.getD (s.length-1) default).2+1)else s++[(b,1)]
def yji (R:List Bool):List (Bool×Int):=R.foldl y8p []
def phB (x:UInt8) (v:Bool×Int):Phase:={ Color:=cs x v.1,Length:=v.2 }
theorem yil (x:UInt8) {R:List Bool} (hR:R.length<=1000000):zj (R.map (cs x))=(yji R).map (phB x)/\(yji R).length<=R.length/\∀ v∈yji R,1<=v.2/\v.2<=(R.length:Int):=by
 have key:∀ (j:Nat) (s:List (Bool×Int)),j<R.length->(s.length<=j/\∀ v∈s,1<=v.2/\v.2<=(j:Int))->ybh (R.map (cs x)) j (s.map (phB x))=.ok ((y8p s (R.getD j default)).map (phB x))/\((y8p s (R.getD j default)).length<=j+1/\∀ v∈y8p s (R.getD j default),1<=v.2/\v.2<=((j+1:Nat):Int)):=fun j s hj ⟨h1,h2⟩=>by
  have wk:∀ v∈s,1<=v.2/\v.2<=((j+1:Nat):Int):=fun v hv=>by have:=h2 v hv;omega
  unfold ybh y8p;rw[List.length_map,yz _ hj];by_cases h0:0<s.length
  ·have ix:(IntKind.wrap .i64 ((s.length:Int)-1)).toNat=s.length-1:=by rw[IntKind.wrap_i64];omega
   have hi:s.length-1<s.length:=by omega
   rw[ix,yz _ hi,decide_eq_true (show(0:Int)<(s.length:Int)by omega),decide_eq_true h0,Bool.true_and,Bool.true_and];have hv:=h2 _ (ysb hi)
   have hc:((phB x (s.getD (s.length-1) default)).Color == cs x (R.getD j default))=((s.getD (s.length-1) default).1 == R.getD j default):=by
    unfold phB;cases(s.getD (s.length-1) default).1<;>cases R.getD j default<;>simp[cs]
   rw[hc]
   cases((s.getD (s.length-1) default).1 == R.getD j default)with
   | true=>
    rw[cond_true,cond_true]
    have hw:IntKind.wrap .i64 ((phB x (s.getD (s.length-1) default)).Length+1)=(s.getD (s.length-1) default).2+1:=by
     show IntKind.wrap .i64 ((s.getD (s.length-1) default).2+1)=_;rw[IntKind.wrap_i64];omega
    rw[hw,List.map_set];refine⟨rfl,by rw[List.length_set];omega,fun v hv2 => ?_⟩;rcases List.mem_or_eq_of_mem_set hv2 with hv2|rfl
    ·exact wk v hv2
    ·simp only;omega
   | false=>
    rw[cond_false,cond_false,List.map_append];refine⟨rfl,by rw[List.length_append,List.length_singleton];omega,fun v hv2 => ?_⟩;rcases List.mem_append.1 hv2 with hv2|hv2
    ·exact wk v hv2
    ·rw[List.mem_singleton]at hv2;subst hv2;simp only;omega
  ·rw[decide_eq_false (show ¬ (0:Int)<(s.length:Int)by omega),decide_eq_false h0,Bool.false_and,Bool.false_and,cond_false,cond_false,List.map_append]
   refine⟨rfl,by rw[List.length_append,List.length_singleton];omega,fun v hv2 => ?_⟩;rcases List.mem_append.1 hv2 with hv2|hv2
   ·exact wk v hv2
   ·rw[List.mem_singleton]at hv2;subst hv2;simp only;omega
 obtain⟨t,e,s,rfl,h1,h2⟩:=yl (b:=ybh (R.map (cs x))) (fun j t=>∃ s,t=s.map (phB x)/\s=(R.take j).foldl y8p []/\s.length<=j/\∀ v∈s,1<=v.2/\v.2<=(j:Int)) (k:=R.length-0) (i:=0) (s:=[]) ⟨[],rfl,by simp,by simp,fun v h=>by cases h⟩ (by
  rintro j _ _ hj ⟨s,rfl,rfl,h1,h2⟩
  obtain⟨e1,e2⟩:=key j _ (by omega) ⟨h1,h2⟩;refine⟨_,e1,_,rfl,?_,e2⟩;rw[y6b R j (by omega),List.foldl_append]
  rfl)
 rw[show 0+(R.length-0)=R.length by omega]at h1 h2;rw[List.take_length]at h1;unfold zj;rw[List.length_map,e,h1];unfold yji at *;rw[h1]at h2;exact⟨rfl,h2.1,h2.2⟩
end Go.Ab
