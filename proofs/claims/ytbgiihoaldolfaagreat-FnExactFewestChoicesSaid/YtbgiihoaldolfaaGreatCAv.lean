/- A part of a proof: walks of functions and lemmas of our own. No conditions. -/
import Derived.Test.YtbgiihoaldolfaaGreatCAo
import Derived.Test.YtbgiihoaldolfaaGreatCAr
import Derived.Test.YtbgiihoaldolfaaGreatCAt
import Derived.Test.YtbgiihoaldolfaaGreatCAl
import Derived.Test.YtbgiihoaldolfaaGreatCAp
import Derived.Test.YtbgiihoaldolfaaGreatCAn
import Derived.Test.YtbgiihoaldolfaaGreatCAu
set_option linter.unusedSectionVars false
set_option linter.unusedVariables false
set_option linter.unusedSimpArgs false
set_option maxHeartbeats 1000000
namespace Go.Ab
open Go Go.Proofs
theorem y9g {ρ α : Type} (x : α) {b : Nat -> List α -> Except ρ (List α)} (hb : ∀ i s, b i s = .ok (s ++ [x])) : ∀ (n i : Nat) (s : List α), ye b n i s = .ok (s ++ List.replicate n x)
 | 0,i,s=>by simp[ye]
 | n+1,i,s=>by
  simp only[ye,hb];rw[y9g x hb n (i+1) (s++[x]),List.append_assoc];rfl
theorem yjf {ρ α β:Type} [Inhabited α] (l:List α) (f:α->List β) {b:Nat->List β->Except ρ (List β)} (hb:∀ i s,b i s=.ok (s++f (l.getD i default))):ye b (l.length-0) 0 []=.ok (l.flatMap f):=by
 obtain⟨t,h1,h2⟩:=ym (b:=b) (fun j s=>s=(l.take j).flatMap f) (k:=l.length-0) (i:=0) (s:=[]) (by simp) (by
  rintro j _ _ hj rfl
  refine⟨_,hb _ _,?_⟩;rw[ymc l j (by omega),List.flatMap_append]
  simp)
 rw[h1,h2,show 0+(l.length-0)=l.length by omega,List.take_length]
theorem y4o (p:List Phase):zm p=p.flatMap fun v=>List.replicate v.Length.toNat v.Color:=by
 unfold zm
 rw[yjf p (fun v=>List.replicate v.Length.toNat v.Color) (fun i s=>by
  unfold y8t
  rw[y9g _ (b:=yxv p i s) (fun _ _=>rfl),Nat.sub_zero])]
def byC (c:List UInt8):Int:=bif c != []then((c.getD 0 0).toNat:Int)else 0
theorem yfl (p:List Phase):zw p=p.flatMap fun v=>List.replicate v.Length.toNat (byC v.Color):=by
 unfold zw
 rw[yjf p (fun v=>List.replicate v.Length.toNat (byC v.Color)) (fun i s=>by
  unfold y4u byC
  cases(p.getD i default).Color != []with
  | true=>rw[cond_true,cond_true,y9g _ (b:=yev p i s) (fun _ _=>rfl),Nat.sub_zero]
  | false=>rw[cond_false,cond_false,y9g _ (b:=ytu p i s) (fun _ _=>rfl),Nat.sub_zero])]
theorem yqh {α : Type} (f : Phase -> α) : ∀ (p : List Phase), (∀ v ∈ p, 1 <= v.Length /\ v.Length <= 1000) -> p.length <= (p.flatMap fun v => List.replicate v.Length.toNat (f v)).length /\ (p.flatMap fun v => List.replicate v.Length.toNat (f v)).length <= 1000 * p.length
 | [],_=>by simp
 | v::p,h=>by
  have ih:=yqh f p fun w hw=>h w (List.mem_cons_of_mem _ hw)
  have hv:=h v (List.mem_cons_self ..);rw[List.flatMap_cons,List.length_append,List.length_replicate,List.length_cons];omega
theorem yxp {p:List Phase} (h:PhOk p):1<=(zm p).length/\(zm p).length<=1000000:=by
 have h1:=yqh (fun v=>v.Color) p fun v hv=>⟨(h.2.2 v hv).1,(h.2.2 v hv).2.1⟩
 rw[y4o];have:=h.1;have:=h.2.1;omega
theorem y6m {p:List Phase} (h:PhOk p):1<=(zw p).length/\(zw p).length<=1000000:=by
 have h1:=yqh (fun v=>byC v.Color) p fun v hv=>⟨(h.2.2 v hv).1,(h.2.2 v hv).2.1⟩
 rw[yfl];have:=h.1;have:=h.2.1;omega
def Cyc {α:Type} [Inhabited α] (l:List α) (n:Nat):Prop:=∀ t,t<l.length->l.getD t default=l.getD ((t+n) % l.length) default
theorem yiu {α:Type} [Inhabited α] (l:List α):Cyc l l.length:=fun t ht=>by rw[Nat.add_mod_right,Nat.mod_eq_of_lt ht]
theorem ysk {l:List (List UInt8)} {n:Nat} (hl:l.length<=1048576) (hn:n<=1048576):znc l (n:Int)=true↔Cyc l n:=by
 have ix:∀ t:Nat,t<l.length->((IntKind.wrap .i64 ((t:Int)+(n:Int))).tmod (l.length:Int)).toNat=(t+n) % l.length:=fun t ht=>by
  rw[show IntKind.wrap .i64 ((t:Int)+(n:Int))=((t+n:Nat):Int)by rw[IntKind.wrap_i64];omega];rw[Int.tmod_eq_emod_of_nonneg (by omega), <- Int.natCast_emod,Int.toNat_natCast]
 unfold znc;rcases yu (b:=ywn l (n:Int)) (fun t=>(l.getD t default) != (l.getD (((IntKind.wrap .i64 ((t:Int)+(n:Int))).tmod (l.length:Int)).toNat) default)) (fun _=>false) (k:=l.length-0) (i:=0) (s:=()) (fun j u _ _=>rfl)with⟨j,_,h2,h3,_,h5⟩|⟨h1,h2⟩
 ·rw[h5]
  refine⟨fun h=>(by cases h),fun h => ?_⟩;rw[ix j (by omega)]at h3;have:=h j (by omega);rw[this]at h3;simp at h3
 ·rw[h2]
  refine⟨fun _ t ht => ?_,fun _=>rfl⟩;have h3:=h1 t (by omega) (by omega);rw[ix t ht]at h3;simpa using h3
theorem ydk {l:List (List UInt8)} (hl:l.length<=1048576):znc l (l.length:Int)=true:=(ysk hl hl).2 (yiu l)
def Per {α:Type} [Inhabited α] (l:List α) (n:Nat):Prop:=∀ i,i+n<l.length->l.getD i default=l.getD (i+n) default
theorem yno {l:List Int} {n:Nat} (hl:l.length<=1048576) (h1:1<=n) (hn:n<l.length) (u:Unit) :
  ∃ s:Bool×Int,yme (yok l n u) (((l.length-(0:Int)).toNat)+1) (true,0)=.error (.inr s)/\(s.1=true↔Per l n):=by
 obtain ⟨x, hx, s, rfl, hs⟩ := ych (b := yok l n u) (fun s => 0 <= s.2 /\ s.2 <= (l.length : Int) /\ (s.1 = true -> ∀ k : Nat, (k : Int) < s.2 -> k + n < l.length -> l.getD k default = l.getD (k + n) default) /\ (s.1 = false -> ¬ Per l n))
  (fun e=>∃ s,e=.inr s/\(s.1=true↔Per l n)) (fun s=>((l.length:Int)-s.2).toNat) (by
  rintro⟨b,i⟩ ⟨i1,i2,i3,i4⟩
  simp only at i1 i2 i3 i4;have hw:IntKind.wrap .i64 (i+(n:Int))=i+(n:Int):=by rw[IntKind.wrap_i64];omega
  have hw1:IntKind.wrap .i64 (i+1)=i+1:=by rw[IntKind.wrap_i64];omega
  simp only[yok,hw,hw1];by_cases hc:i+(n:Int)<(l.length:Int)
  ·rw[decide_eq_true hc,Bool.true_and]
   cases b with
   | true=>
    left
    rw[cond_true];refine⟨_,rfl,⟨by simp only;omega,by simp only;omega,fun hb k hk hkn => ?_,fun hb hp => ?_⟩,by simp only;omega⟩
    ·simp only at hb hk
     by_cases hki:(k:Int)<i
     ·exact i3 rfl k hki hkn
     ·have e:i.toNat=k:=by omega
      have e2:(i+(n:Int)).toNat=k+n:=by omega
      rw[e,e2]at hb;simpa using hb
    ·simp only at hb
     have:=hp i.toNat (by omega);have e2:(i+(n:Int)).toNat=i.toNat+n:=by omega
     rw[e2,this]at hb;simp at hb
   | false=>
    right
    rw[cond_false];exact⟨_,rfl,_,rfl,⟨fun h=>(by cases h),fun h=>absurd h (i4 rfl)⟩⟩
  ·right
   rw[decide_eq_false hc,Bool.false_and,cond_false];refine⟨_,rfl,_,rfl,?_⟩
   cases b with
   | true=>exact⟨fun _ k hk=>i3 rfl k (by omega) hk,fun _=>rfl⟩
   | false=>exact⟨fun h=>(by cases h),fun h=>absurd h (i4 rfl)⟩) (((l.length-(0:Int)).toNat)+1) (true,0) ⟨by simp,by simp only;omega,fun _ k hk=>(by simp only at hk;omega),fun h=>(by cases h)⟩ (by simp only;omega)
 exact⟨s,hx,hs⟩
theorem ymk {l:List Int} (h1:1<=l.length) (hl:l.length<=1048576):∃ n:Nat,zgb l=(n:Int)/\1<=n/\n<=l.length/\n ∣ l.length/\Per l n/\∀ m,1<=m->m<n->m ∣ l.length->¬ Per l m:=by
 have hb:∀ (j:Nat) (u:Unit),1<=j->j<1+(l.length-1)->(j ∣ l.length/\Per l j/\ydh l j u=.error (j:Int))\/((¬ (j ∣ l.length)\/¬ Per l j)/\ydh l j u=.ok ()):=fun j u h2 h3=>by
  unfold ydh;obtain⟨s,e1,e2⟩:=yno hl h2 (by omega) u;have hm:((l.length:Int).tmod (j:Int))=((l.length % j:Nat):Int):=by rw[Int.tmod_eq_emod_of_nonneg (by omega), <- Int.natCast_emod]
  rw[hm,e1];by_cases hd:j ∣ l.length
  ·rw[show((((l.length % j:Nat):Int)) != 0)=false by rw[Nat.mod_eq_zero_of_dvd hd];rfl,cond_false]
   cases hs:s.1 with
   | true=>exact .inl ⟨hd,e2.1 hs,by simp[hs]⟩
   | false=>exact .inr ⟨.inr fun hp=>(by rw[e2.2 hp]at hs;cases hs),by simp[hs]⟩
  ·have:l.length % j≠0:=fun h=>hd (Nat.dvd_of_mod_eq_zero h)
   rw[show((((l.length % j:Nat):Int)) != 0)=true by rw[bne_iff_ne];omega,cond_true];exact .inr ⟨.inl hd,rfl⟩
 have key:∀ (k i:Nat) (u:Unit),1<=i->i+k=1+(l.length-1)->(∀ m,1<=m->m<i->m ∣ l.length->¬ Per l m) ->
   (∃ n:Nat,ye (ydh l) k i u=.error (n:Int)/\1<=n/\n<=l.length/\n ∣ l.length/\Per l n/\∀ m,1<=m->m<n->m ∣ l.length->¬ Per l m)\/(ye (ydh l) k i u=.ok ()/\∀ m,1<=m->m<l.length->m ∣ l.length->¬ Per l m):=by
  intro k
  induction k with
  | zero=>intro i u h2 h3 h4;exact .inr ⟨rfl,fun m a b=>h4 m a (by omega)⟩
  | succ k ih=>
   intro i u h2 h3 h4;simp only[ye];rcases hb i u h2 (by omega)with⟨d1,d2,d3⟩|⟨d1,d2⟩
   ·rw[d3];exact .inl ⟨i,rfl,h2,by omega,d1,d2,h4⟩
   ·rw[d2]
    refine ih (i+1) () (by omega) (by omega) fun m a b c hp => ?_
    by_cases hm:m=i
    ·subst hm;rcases d1 with h|h
     ·exact h c
     ·exact h hp
    ·exact h4 m a (by omega) c hp
 unfold zgb;rcases key (l.length-1) 1 () (by omega) (by omega) (fun m a b=>by omega)with⟨n,e,r⟩|⟨e,r⟩
 ·rw[e];exact⟨n,rfl,r⟩
 ·rw[e];exact⟨l.length,rfl,h1,Nat.le_refl _,Nat.dvd_refl _,fun i hi=>by omega,r⟩
theorem yvs {l:List Int} (h1:1<=l.length) (hl:l.length<=1048576):1<=zgb l/\zgb l<=(l.length:Int):=by
 obtain⟨n,e,a,b,_⟩:=ymk h1 hl;omega
def yft (a0:(List Phase)) (s1:Int):Except (Sum ((List (List UInt8))) (Int)) (Int):=
 (bif (!(znc (zm a0) s1))then .ok (IntKind.wrap .i64 (s1+1))else .error (.inr s1))
def zp (a0:(List Phase)):(List (List UInt8)):=
 (match yme (yft a0) ((((zm a0).length-(1:Int)).toNat)+1) 1 with|.error (.inl e)=>e|.error (.inr s1)=>subL (zm a0) 0 ((s1).toNat)|.ok _=>default)
namespace N124
theorem DD:DOk Tryz.prog (Go.Ab.DD [(137,dP D_zm),(138,dP D_znc)]):=yd yb1.e <| yd ypx.e <| yj _
theorem dn:type_of% (And.intro @D_zm.eq_1 <| @D_znc.eq_1):=by and_intros<;>intros<;>rfl
theorem o1 {p:Prop} (h:p:=by(first|(have h9:=hW1;omega));first|done|fail):p:=h
theorem o3 {p:Prop} (h:p:=by(first|(refine⟨by omega,by(first|rw[yqb]|simp only[yqb]),fun i hi=>by rw[yse _ _ _ _ hi,Nat.zero_add]⟩));first|done|fail):p:=h
set_option maxHeartbeats 2000000 in
set_option maxRecDepth 20000 in
theorem den (a0:(List Phase)) (hp0:PhOk a0):Den Tryz.prog 124 [encL 2 yn a0] (ownL 9 1 eS (zp a0)):=by
 generalize hR:zp a0=r;unfold zp at hR;refine di Tryz.func124 Tryz.ntmps124 Tryz.results124 ?_;intro c hL hc hk;obtain⟨hL0,_⟩:=hL;have hw0:a0.length<9223372036854775808:=Nat.lt_succ_of_le (yc hL0).1;have hw1:∀ v∈a0,bwPhase v:=fun v hv=>ycb v ((yc hL0).2 v hv)
 clear hL0;simp only[pars,Nat.zero_add];have htl:=yxp hp0;iterate 3 refine rS ?_
 refine AWP.seq ?_;refine AWP.block ?_;generalize hz1:yme (yft a0) ((((zm a0).length-(1:Int)).toNat)+1) 1=z1 at hR;refine AWP.whileW (yft a0) (fun s1=>⟨[(3,.ref 0 1 0 ((zm a0).length)),(4,.int .i64 s1)],[.arr 9 1 (zm a0).length (fun j=>eS ((zm a0).getD j default))]⟩) (fun s1=>1<=s1/\s1<=(zm a0).length) (fun s1=>((zm a0).length-s1).toNat) ((((zm a0).length-(1:Int)).toNat)+1) 1 [0] hz1 m0 (by(exact⟨by(try dsimp only);omega,by(try dsimp only);omega⟩)) sm ?_;clear hz1;intro s1 k1 hW1 hm1 hz1;simp only[yft]at hz1;refine rS ?_;refine AWP.cond rfl (fun hb => ?_) (fun hb => ?_)
 ·simp only[hb,cond_true]at hz1
  refine rS ?_;exact⟨_,[0],by(have hr9:=ydk (l:=zm a0) (by omega);have hs9:s1≠((zm a0).length:Int):=(by intro e9;rw[e9,hr9]at hb;cases hb);have hw9:IntKind.wrap .i64 (s1+1)=s1+1:=(by rw[IntKind.wrap_i64];omega);(try dsimp only);rw[hw9];omega),by(have hr9:=ydk (l:=zm a0) (by omega);have hs9:s1≠((zm a0).length:Int):=(by intro e9;rw[e9,hr9]at hb;cases hb);have hw9:IntKind.wrap .i64 (s1+1)=s1+1:=(by rw[IntKind.wrap_i64];omega);(try dsimp only);rw[hw9];exact⟨by omega,by omega⟩),hz1,sm⟩
 ·simp only[hb,cond_false]at hz1
  refine AWP.exit ?_;refine yb ?_;subst hz1;dsimp only at hR;refine rS ?_;refine AWP.ret ?_;subst hR;exact es
end N124
def D_zp : DF
 | [x0]=>some (ownL 9 1 eS (zp (rdL y6 x0)),false,[wL 2 yn y6 x0,PhOk (rdL y6 x0)])
 | _=>none
theorem y20:OkD Tryz.prog 124 D_zp:=by unfold D_zp;exact dk N124.den
def zkc (a0:(List Phase)):(List Int):=
 subL (zw a0) 0 (((zgb (zw a0))).toNat)
namespace N119
theorem DD:DOk Tryz.prog (Go.Ab.DD [(130,dP D_zw),(131,dP D_zgb)]):=yd y10.e <| yd y2y.e <| yj _
theorem dn:type_of% (And.intro @D_zw.eq_1 <| @D_zgb.eq_1):=by and_intros<;>intros<;>rfl
theorem o3 {p:Prop} (h:p:=by(first|(refine⟨by omega,by(first|rw[yqb]|simp only[yqb]),fun i hi=>by rw[yse _ _ _ _ hi,Nat.zero_add]⟩));first|done|fail):p:=h
set_option maxHeartbeats 2000000 in
set_option maxRecDepth 20000 in
theorem den (a0:(List Phase)) (hp0:PhOk a0):Den Tryz.prog 119 [encL 2 yn a0] (ownL 5 1 eIu8 (zkc a0)):=by
 generalize hR:zkc a0=r;unfold zkc at hR;refine di Tryz.func119 Tryz.ntmps119 Tryz.results119 ?_;intro c hL hc hk;obtain⟨hL0,_⟩:=hL;have hw0:a0.length<9223372036854775808:=Nat.lt_succ_of_le (yc hL0).1;have hw1:∀ v∈a0,bwPhase v:=fun v hv=>ycb v ((yc hL0).2 v hv)
 clear hL0;simp only[pars,Nat.zero_add];have htl:=y6m hp0;have hpr:=yvs htl.1 (by omega);iterate 3 refine rS ?_
 refine AWP.ret ?_;subst hR;exact es
end N119
def D_zkc : DF
 | [x0]=>some (ownL 5 1 eIu8 (zkc (rdL y6 x0)),false,[wL 2 yn y6 x0,PhOk (rdL y6 x0)])
 | _=>none
theorem yix:OkD Tryz.prog 119 D_zkc:=by unfold D_zkc;exact dk N119.den
theorem yfs {p:List Phase} (h:PhOk p):∃ n:Nat,zp p=(zm p).take n/\1<=n/\n<=(zm p).length/\Cyc (zm p) n/\∀ m,1<=m->m<n->¬ Cyc (zm p) m:=by
 obtain⟨l1,l2⟩:=yxp h;unfold zp
 have hx := ych (b := yft p) (fun s => 1 <= s /\ s <= ((zm p).length : Int) /\ ∀ m : Nat, 1 <= m -> (m : Int) < s -> ¬ Cyc (zm p) m)
  (fun e=>∃ s:Int,e=.inr s/\1<=s/\s<=((zm p).length:Int)/\(∀ m:Nat,1<=m->(m:Int)<s->¬ Cyc (zm p) m)/\Cyc (zm p) s.toNat) (fun s=>(((zm p).length:Int)-s).toNat) (by
  rintro s ⟨i1,i2,i3⟩
  obtain⟨n,rfl⟩:∃ n:Nat,s=(n:Int):=⟨s.toNat,by omega⟩
  unfold yft;have hi:=ysk (l:=zm p) (n:=n) (by omega) (by omega)
  cases hr:znc (zm p) (n:Int)with
  | true=>
   right
   rw[Bool.not_true,cond_false];exact⟨_,rfl,_,rfl,i1,i2,i3,by rw[Int.toNat_natCast];exact hi.1 hr⟩
  | false=>
   left
   have hn:¬ Cyc (zm p) n:=fun hc=>by rw[hi.2 hc]at hr;cases hr
   have hne:n≠(zm p).length:=fun e=>hn (by rw[e];exact yiu _)
   rw[Bool.not_false,cond_true,show IntKind.wrap .i64 ((n:Int)+1)=(n:Int)+1 by rw[IntKind.wrap_i64];omega];refine⟨_,rfl,⟨by omega,by omega,fun m h1 h2 hc => ?_⟩,by omega⟩;by_cases hm:m=n
   ·rw[hm]at hc;exact hn hc
   ·exact i3 m h1 (by omega) hc) ((((zm p).length-(1:Int)).toNat)+1) 1 ⟨by omega,by omega,fun m a b=>by omega⟩ (by omega)
 obtain⟨x,hx,s,rfl,a1,a2,a3,a4⟩:=hx;rw[hx];refine⟨s.toNat,?_,by omega,by omega,a4,fun m b1 b2=>a3 m b1 (by omega)⟩;simp only;rw[yag _ _ _ (by omega),List.drop_zero]
theorem y9f {p:List Phase} (h:PhOk p):1<=(zp p).length/\(zp p).length<=1000000:=by
 obtain⟨l1,l2⟩:=yxp h;obtain⟨n,e,a,b,_⟩:=yfs h;rw[e,List.length_take];omega
theorem ydn {p:List Phase} (h:PhOk p):∃ n:Nat,zkc p=(zw p).take n/\1<=n/\n<=(zw p).length/\n ∣ (zw p).length/\Per (zw p) n/\∀ m,1<=m->m<n->m ∣ (zw p).length->¬ Per (zw p) m:=by
 obtain⟨l1,l2⟩:=y6m h;obtain⟨n,e,a,b,r⟩:=ymk l1 (by omega);refine⟨n,?_,a,b,r⟩;unfold zkc;rw[e,Int.toNat_natCast,yag _ _ _ (by omega),List.drop_zero]
theorem y1m {p:List Phase} (h:PhOk p):1<=(zkc p).length/\(zkc p).length<=1000000:=by
 obtain⟨l1,l2⟩:=y6m h;obtain⟨n,e,a,b,_⟩:=ydn h;rw[e,List.length_take];omega
theorem ynt (qq:List (List (List UInt8))):zvb qq=qq.flatMap id:=by
 unfold zvb;obtain⟨t,h1,_⟩:=ym (b:=y1o qq) (fun _ _=>True) (k:=qq.length-0) (i:=0) (s:=0) trivial (fun j u _ _ _=>⟨_,rfl,trivial⟩);rw[h1];simp only;rw[show zed [] t=[]from rfl,yjf qq id (b:=yin qq t) (fun i s=>rfl)]
theorem yut (qq:List (List Phase)):zpb qq=qq.flatMap id:=by
 unfold zpb;obtain⟨t,h1,_⟩:=ym (b:=yyn qq) (fun _ _=>True) (k:=qq.length-0) (i:=0) (s:=0) trivial (fun j u _ _ _=>⟨_,rfl,trivial⟩);rw[h1];simp only;rw[show zfd [] t=[]from rfl,yjf qq id (b:=y3o qq t) (fun i s=>rfl)]
def rotL {α:Type} (l:List α) (i:Nat):List α:=l.drop i++l.take i
theorem y1b {α:Type} (l:List α) (i:Nat):(rotL l i).length=l.length:=by
 unfold rotL;rw[List.length_append,List.length_drop,List.length_take];omega
theorem ynd {l:List (List UInt8)} {i:Nat} (h:i<=l.length):zgd l (i:Int)=rotL l i:=by
 unfold zgd rotL;rw[ynt,Int.toNat_natCast,yag _ _ _ (by omega),yag _ _ _ (by omega),List.drop_zero,List.take_of_length_le (by rw[List.length_drop];omega)];simp
theorem yiw (l:List (List UInt8)):(zn l).length<=l.length/\(1<=l.length->1<=(zn l).length):=by
 unfold zn
 obtain⟨t,h1,h2,h3⟩:=ym (b:=yvj l) (fun j s=>s.length<=j/\(1<=j->1<=s.length)) (k:=l.length-0) (i:=0) (s:=[]) ⟨by simp,fun h=>by omega⟩ (by
  rintro j s _ _ ⟨i1,i2⟩
  unfold yvj
  cases hc:(decide (0<(s.length:Int)) && (((s.getD ((IntKind.wrap .i64 ((s.length:Int)-1)).toNat) default).Color) == (l.getD j default)))with
  | true=>
   rw[Bool.and_eq_true,decide_eq_true_eq]at hc;exact⟨_,rfl,by rw[List.length_set];omega,fun _=>by rw[List.length_set];omega⟩
  | false=>exact⟨_,rfl,by simp only[List.length_append,List.length_singleton];omega,fun _=>by simp⟩)
 rw[h1];simp only;exact⟨by omega,fun h=>h3 (by omega)⟩
theorem yrt (l:List Int) (k:Int):(zec l k).length<=l.length/\(1<=l.length->1<=(zec l k).length):=by
 unfold zec
 obtain⟨t,h1,h2,h3⟩:=ym (b:=yei l k) (fun j s=>s.length<=j/\(1<=j->1<=s.length)) (k:=l.length-0) (i:=0) (s:=[]) ⟨by simp,fun h=>by omega⟩ (by
  rintro j s _ _ ⟨i1,i2⟩
  unfold yei
  cases hc:(decide (0<(s.length:Int)) && (((s.getD ((IntKind.wrap .i64 ((s.length:Int)-1)).toNat) default).Color) == (zkd (l.getD (((IntKind.wrap .i64 (k+(j:Int))).tmod (l.length:Int)).toNat) default))))with
  | true=>
   rw[Bool.and_eq_true,decide_eq_true_eq]at hc;exact⟨_,rfl,by rw[List.length_set];omega,fun _=>by rw[List.length_set];omega⟩
  | false=>exact⟨_,rfl,by simp only[List.length_append,List.length_singleton];omega,fun _=>by simp⟩)
 rw[h1];simp only;exact⟨by omega,fun h=>h3 (by omega)⟩
def Lx (n:Nat) (f g:Nat->Int):Prop:=∃ k,k<n/\(∀ j,j<k->f j=g j)/\f k<g k
theorem Lx.trans {n:Nat} {f g h:Nat->Int} (a:Lx n f g) (b:Lx n g h):Lx n f h:=by
 obtain⟨k,k1,k2,k3⟩:=a;obtain⟨m,m1,m2,m3⟩:=b;rcases Nat.lt_trichotomy k m with c|c|c
 ·exact⟨k,k1,fun j hj=>(k2 j hj).trans (m2 j (by omega)),by rw[<- m2 k c];exact k3⟩
 ·subst c;exact⟨k,k1,fun j hj=>(k2 j hj).trans (m2 j hj),Int.lt_trans k3 m3⟩
 ·exact⟨m,m1,fun j hj=>(k2 j (by omega)).trans (m2 j hj),by rw[k2 m c];exact m3⟩
theorem Lx.irr {n:Nat} {f:Nat->Int}:¬ Lx n f f:=fun⟨_,_,_,h⟩=>Int.lt_irrefl _ h
theorem Lx.tri {n:Nat} (f g:Nat->Int):Lx n f g\/Lx n g f\/∀ j,j<n->f j=g j:=by
 induction n with
 | zero=>exact .inr (.inr fun j h=>by omega)
 | succ n ih=>
  rcases ih with⟨k,k1,k2⟩|⟨k,k1,k2⟩|h
  ·exact .inl ⟨k,by omega,k2⟩
  ·exact .inr (.inl ⟨k,by omega,k2⟩)
  ·rcases Int.lt_trichotomy (f n) (g n)with c|c|c
   ·exact .inl ⟨n,by omega,h,c⟩
   ·refine .inr (.inr fun j hj => ?_)
    by_cases hn:j=n
    ·rw[hn];exact c
    ·exact h j (by omega)
   ·exact .inr (.inl ⟨n,by omega,fun j hj=>(h j hj).symm,c⟩)
def rotF (l:List Int) (i:Nat):Nat->Int:=fun k=>l.getD ((i+k) % l.length) default
theorem y5j {l:List Int} {i b:Nat} (hl:l.length<=1048576) (hi:i<l.length) (hb:b<l.length):∀ (n k:Nat),k+n=l.length->(∀ j,j<k->rotF l i j=rotF l b j) ->
  ye (ywg l i (b:Int)) n k (b:Int)=.error (.inr (i:Int))/\Lx l.length (rotF l i) (rotF l b)\/(ye (ywg l i (b:Int)) n k (b:Int)=.error (.inr (b:Int))\/ye (ywg l i (b:Int)) n k (b:Int)=.ok (b:Int))/\¬ Lx l.length (rotF l i) (rotF l b)
 | 0,k,hk,h=>.inr ⟨.inr rfl,fun⟨j,j1,_,j3⟩=>by rw[h j (by omega)]at j3;exact Int.lt_irrefl _ j3⟩
 | n+1,k,hk,h=>by
  have ix:∀ a:Nat,a<l.length->((IntKind.wrap .i64 ((a:Int)+(k:Int))).tmod (l.length:Int)).toNat=(a+k) % l.length:=fun a ha=>by
   rw[show IntKind.wrap .i64 ((a:Int)+(k:Int))=((a+k:Nat):Int)by rw[IntKind.wrap_i64];omega];rw[Int.tmod_eq_emod_of_nonneg (by omega), <- Int.natCast_emod,Int.toNat_natCast]
  have hs:ywg l i (b:Int) k (b:Int)=bif rotF l i k != rotF l b k then(bif decide (rotF l i k<rotF l b k)then .error (.inr (i:Int))else .error (.inr (b:Int)))else .ok (b:Int):=by
   unfold ywg rotF;rw[ix i hi,ix b hb]
  simp only[ye,hs];by_cases he:rotF l i k=rotF l b k
  ·rw[show(rotF l i k != rotF l b k)=false by rw[he];simp,cond_false]
   exact y5j hl hi hb n (k+1) (by omega) fun j hj=>by
    by_cases hjk:j=k
    ·rw[hjk];exact he
    ·exact h j (by omega)
  ·rw[show(rotF l i k != rotF l b k)=true by rw[bne_iff_ne];exact he,cond_true]
   by_cases hlt:rotF l i k<rotF l b k
   ·rw[decide_eq_true hlt,cond_true]
    exact .inl ⟨rfl,k,by omega,h,hlt⟩
   ·rw[decide_eq_false hlt,cond_false]
    refine .inr ⟨.inl rfl,fun hL => ?_⟩;exact Lx.irr (hL.trans ⟨k,by omega,fun j hj=>(h j hj).symm,by omega⟩)
theorem y8k {l:List Int} (h1:1<=l.length) (hl:l.length<=1048576):∃ b:Nat,zfb l=(b:Int)/\b<l.length/\∀ i,i<l.length->¬ Lx l.length (rotF l i) (rotF l b):=by
 unfold zfb
 obtain⟨t,e,b,rfl,h2,h3⟩:=ym (b:=yrl l) (fun j s=>∃ b:Nat,s=(b:Int)/\b<l.length/\∀ i,i<j->¬ Lx l.length (rotF l i) (rotF l b)) (k:=l.length-1) (i:=1) (s:=0) ⟨0,rfl,by omega,fun i hi=>by
   have:i=0:=by omega
   subst this;exact Lx.irr⟩ (by
  rintro j _ h4 h5 ⟨b,rfl,b1,b2⟩
  unfold yrl;rcases y5j (i:=j) (b:=b) hl (by omega) b1 (l.length-0) 0 (by omega) (fun j hj=>by omega)with⟨e,hL⟩|⟨e,hL⟩
  ·rw[e]
   refine⟨_,rfl,j,rfl,by omega,fun i hi hx => ?_⟩;by_cases hij:i=j
   ·rw[hij]at hx;exact Lx.irr hx
   ·exact b2 i (by omega) (hx.trans hL)
  ·refine⟨(b:Int),by rcases e with e|e<;>rw[e],b,rfl,b1,fun i hi hx => ?_⟩
   by_cases hij:i=j
   ·rw[hij]at hx;exact hL hx
   ·exact b2 i (by omega) hx)
 rw[e];exact⟨b,rfl,h2,fun i hi=>h3 i (by omega)⟩
theorem y1v {l:List Int} (h1:1<=l.length) (hl:l.length<=1048576):0<=zfb l/\zfb l<(l.length:Int):=by
 obtain⟨b,e,h,_⟩:=y8k h1 hl;omega
def ybn (a0:(List Phase)) (i1:Nat) (s1:List (List UInt8)):Except ((List (List UInt8))) (List (List UInt8)):=
 (bif (((zp a0).getD i1 default) == ((zp a0).getD (((IntKind.wrap .i64 ((IntKind.wrap .i64 ((i1:Int)+((zp a0).length:Int)))-1)).tmod ((zp a0).length:Int)).toNat) default))then .ok s1 else(bif decide ((zzb (zgd (zp a0) (i1:Int)) s1)<0)then .ok (zgd (zp a0) (i1:Int))else .ok s1))
def zo (a0:(List Phase)):(List (List UInt8)):=
 (match ye (ybn a0) (((zp a0).length)-0) 0 (zp a0)with|.error e=>e|.ok s1=>s1)
namespace N105
theorem DD:DOk Tryz.prog (Go.Ab.DD [(124,dP D_zp),(125,dP D_zgd),(126,dP D_zzb)]):=yd y20.e <| yd ygx.e <| yd y8x.e <| yj _
theorem dn:type_of% (And.intro @D_zp.eq_1 <| And.intro @D_zgd.eq_1 <| @D_zzb.eq_1):=by and_intros<;>intros<;>rfl
theorem o1 {p:Prop} (h:p:=by(first|(have h9:=ywl (a:=IntKind.wrap .i64 ((IntKind.wrap .i64 ((i1:Int)+((zp a0).length:Int)))-1)) (n:=((zp a0).length:Int)) (by first|omega|(rw[IntKind.wrap_i64];omega)|(rw[IntKind.wrap_i64,IntKind.wrap_i64];omega)) (by omega);first|exact h9.1|exact h9.2.1|exact⟨h9.1,h9.2.1⟩|omega)|(have h9:=hW1;omega));first|done|fail):p:=h
set_option maxHeartbeats 2000000 in
set_option maxRecDepth 20000 in
theorem den (a0:(List Phase)) (hp0:PhOk a0):Den Tryz.prog 105 [encL 2 yn a0] (encL 1 eS (zo a0)):=by
 generalize hR:zo a0=r;unfold zo at hR;refine di Tryz.func105 Tryz.ntmps105 Tryz.results105 ?_;intro c hL hc hk;obtain⟨hL0,_⟩:=hL;have hw0:a0.length<9223372036854775808:=Nat.lt_succ_of_le (yc hL0).1;have hw1:∀ v∈a0,bwPhase v:=fun v hv=>ycb v ((yc hL0).2 v hv)
 clear hL0;simp only[pars,Nat.zero_add];have hol:=y9f hp0;iterate 2 refine rS ?_
 refine AWP.lendV 3 0 (fun j=>eS ((zp a0).getD j default)) rfl rfl ot lv1 lv2 ?_;simp only[setE];iterate 2 refine rS ?_
 refine AWP.block ?_;generalize hz1:ye (ybn a0) (((zp a0).length)-0) 0 (zp a0)=z1 at hR;refine AWP.range (ybn a0) (fun i1 s1=>⟨[(3,encL 1 eS (zp a0)),(4,encL 1 eS s1),(11,.int .i64 ((zp a0).length:Int)),(12,.int .i64 (i1:Int))],[]⟩) (fun i1 s1=>s1.length=(zp a0).length) (((zp a0).length)) 0 (zp a0) [] hz1 ot (by(exact rfl)) sm ?_;clear hz1;intro i1 s1 hi1 hW1 hz1;refine rS ?_;refine AWP.seq ?_;refine AWP.cond rfl (fun hb => ?_) (fun hb => ?_)
 ·have hlt1:i1<((zp a0).length):=ot
  rw[yg hlt1]at hz1;simp only[ybn]at hz1;refine rS ?_;refine rD 16 ?_;refine AWP.cond rfl (fun hb => ?_) (fun hb => ?_)
  ·simp only[hb,cond_true]at hz1
   refine AWP.exit ?_;refine yb ?_;refine rS ?_;exact⟨_,[],hlt1,by(first|exact hW1|(rw[ynd (by omega),y1b])),hz1,sm⟩
  ·simp only[hb,cond_false]at hz1
   refine rS ?_;refine AWP.lendV 6 0 (fun j=>eS ((zgd (zp a0) (i1:Int)).getD j default)) rfl rfl ot lv1 lv2 ?_;simp only[setE];refine rS ?_;refine AWP.cond rfl (fun hb => ?_) (fun hb => ?_)
   ·simp only[hb,cond_true]at hz1
    iterate 2 refine rS ?_
    exact⟨_,[],hlt1,by(first|exact hW1|(rw[ynd (by omega),y1b])),hz1,sm⟩
   ·simp only[hb,cond_false]at hz1
    refine rS ?_;exact⟨_,[],hlt1,by(first|exact hW1|(rw[ynd (by omega),y1b])),hz1,sm⟩
 ·obtain rfl:i1=((zp a0).length):=ot
  rw[yh (Nat.le_refl _)]at hz1;subst hz1;dsimp only at hR;refine AWP.exit ?_;refine yb ?_;refine rS ?_;refine AWP.ret ?_;subst hR;exact es
end N105
def D_zo : DF
 | [x0]=>some (encL 1 eS (zo (rdL y6 x0)),false,[wL 2 yn y6 x0,PhOk (rdL y6 x0)])
 | _=>none
theorem ye0:OkD Tryz.prog 105 D_zo:=by unfold D_zo;exact dk N105.den
def zq (a0:(List Phase)):(List Phase):=
 (zec (zkc a0) (zfb (zkc a0)))
namespace N92
theorem DD:DOk Tryz.prog (Go.Ab.DD [(119,dP D_zkc),(120,dP D_zec),(121,dP D_zfb)]):=yd yix.e <| yd yay.e <| yd yty.e <| yj _
theorem dn:type_of% (And.intro @D_zkc.eq_1 <| And.intro @D_zec.eq_1 <| @D_zfb.eq_1):=by and_intros<;>intros<;>rfl
set_option maxHeartbeats 2000000 in
set_option maxRecDepth 20000 in
theorem den (a0:(List Phase)) (hp0:PhOk a0):Den Tryz.prog 92 [encL 2 yn a0] (ownL 112 2 yn (zq a0)):=by
 generalize hR:zq a0=r;unfold zq at hR;refine di Tryz.func92 Tryz.ntmps92 Tryz.results92 ?_;intro c hL hc hk;obtain⟨hL0,_⟩:=hL;have hw0:a0.length<9223372036854775808:=Nat.lt_succ_of_le (yc hL0).1;have hw1:∀ v∈a0,bwPhase v:=fun v hv=>ycb v ((yc hL0).2 v hv)
 clear hL0;simp only[pars,Nat.zero_add];have hol:=y1m hp0;have hlr:=y1v hol.1 (by omega);iterate 3 refine rS ?_
 refine AWP.ret ?_;subst hR;exact es
end N92
def D_zq : DF
 | [x0]=>some (ownL 112 2 yn (zq (rdL y6 x0)),false,[wL 2 yn y6 x0,PhOk (rdL y6 x0)])
 | _=>none
theorem yr0:OkD Tryz.prog 92 D_zq:=by unfold D_zq;exact dk N92.den
theorem ymf {p:List Phase} (h:PhOk p):(zo p).length=(zp p).length:=by
 obtain⟨l1,l2⟩:=y9f h;unfold zo
 obtain⟨t,h1,h2⟩:=ym (b:=ybn p) (fun _ s=>s.length=(zp p).length) (k:=(zp p).length-0) (i:=0) (s:=zp p) rfl (by
  intro j s _ hj hs;unfold ybn
  cases((zp p).getD j default == _)with
  | true=>exact⟨_,rfl,hs⟩
  | false=>
   rw[cond_false]
   cases decide (zzb (zgd (zp p) (j:Int)) s<0)with
   | true=>exact⟨_,rfl,by rw[ynd (by omega),y1b]⟩
   | false=>exact⟨_,rfl,hs⟩)
 rw[h1];exact h2
theorem ybz {p:List Phase} (h:PhOk p):1<=(zn (zo p)).length/\(zn (zo p)).length<=1000000:=by
 obtain⟨l1,l2⟩:=y9f h;have:=ymf h;have:=yiw (zo p);omega
theorem y2j {p:List Phase} (h:PhOk p):1<=(zq p).length/\(zq p).length<=1000000:=by
 obtain⟨l1,l2⟩:=y1m h;have:=yrt (zkc p) (zfb (zkc p));unfold zq;omega
def yzl (a0:(List Phase)) (a1:(List Phase)) (a2:Int) (i1:Nat) (s1:Unit):Except (Bool) (Unit):=
 (bif (zac (zn (zo a0)) (zpb [subL (zn (zo a1)) i1 ((zn (zo a1)).length-i1),subL (zn (zo a1)) 0 (i1)]) a2)then .error true else .ok ())
def ztb (a0:(List Phase)) (a1:(List Phase)) (a2:Int):Bool:=
 (bif (((zn (zo a0)).length:Int) != ((zn (zo a1)).length:Int))then false else(match ye (yzl a0 a1 a2) (((zn (zo a1)).length)-0) 0 ()with|.error e=>e|.ok s1=>false))
namespace N73
theorem DD:DOk Tryz.prog (Go.Ab.DD [(104,dP D_zn),(105,dP D_zo),(106,dP D_zpb),(107,dP D_zac)]):=yd yx0.e <| yd ye0.e <| yd ypy.e <| yd yvx.e <| yj _
theorem dn:type_of% (And.intro @D_zn.eq_1 <| And.intro @D_zo.eq_1 <| And.intro @D_zpb.eq_1 <| @D_zac.eq_1):=by and_intros<;>intros<;>rfl
theorem o0 {p:Prop} (h:p:=by(first|(refine⟨⟨by omega,by omega,by omega⟩,⟨by omega,by omega,by omega⟩,⟨yuq (zn (zo a1)) 2 yn _ _,y8r (zn (zo a1)) 2 yn _⟩,?_⟩;intro v hv;simp only[List.mem_cons,List.not_mem_nil,or_false]at hv;rcases hv with rfl|rfl<;>(rw[yqb];omega)));first|done|fail):p:=h
theorem lx {p:Prop} (h:p:=by(exact lxx);first|done|fail):p:=h
set_option maxHeartbeats 2000000 in
set_option maxRecDepth 20000 in
theorem den (a0:(List Phase)) (a1:(List Phase)) (a2:Int) (hp0:PhOk a0) (hp1:PhOk a1):Den Tryz.prog 73 [encL 2 yn a0,encL 2 yn a1,.int .i64 a2] (.bool (ztb a0 a1 a2)):=by
 generalize hR:ztb a0 a1 a2=r;unfold ztb at hR;refine di Tryz.func73 Tryz.ntmps73 Tryz.results73 ?_;intro c hL hc hk;obtain⟨hL0,hL1,hL2,_⟩:=hL;have hw0:a0.length<9223372036854775808:=Nat.lt_succ_of_le (yc hL0).1;have hw1:∀ v∈a0,bwPhase v:=fun v hv=>ycb v ((yc hL0).2 v hv)
 have hw2:a1.length<9223372036854775808:=Nat.lt_succ_of_le (yc hL1).1;have hw3:∀ v∈a1,bwPhase v:=fun v hv=>ycb v ((yc hL1).2 v hv)
 clear hL0 hL1 hL2;simp only[pars,Nat.zero_add];have hna:=ymf hp0;have hnb:=ymf hp1;have hoa:=y9f hp0;have hob:=y9f hp1;have hja:=ybz hp0;have hjb:=ybz hp1;iterate 2 refine rS ?_
 refine AWP.lendV 7 1 (fun j=>yn ((zn (zo a0)).getD j default)) rfl rfl ot lv1 lv2 ?_;simp only[setE];refine AWP.lendV 8 2 (fun j=>yn ((zn (zo a1)).getD j default)) rfl rfl ot lv1 lv2 ?_;simp only[setE];refine rS ?_;refine AWP.cond rfl (fun hb => ?_) (fun hb => ?_)
 ·replace hR:=ct hR
  refine rS ?_;refine AWP.ret ?_;subst hR;exact es
 ·replace hR:=cf hR
  refine rS ?_;refine AWP.block ?_;generalize hz1:ye (yzl a0 a1 a2) (((zn (zo a1)).length)-0) 0 ()=z1 at hR;refine AWP.range (yzl a0 a1 a2) (fun i1 s1=>⟨[(5,.ptr 0 0),(7,encL 2 yn (zn (zo a0))),(8,encL 2 yn (zn (zo a1))),(23,.int .i64 ((zn (zo a1)).length:Int)),(24,.int .i64 (i1:Int))],[.box [.int .i64 a2]]⟩) (fun i1 s1=>True) (((zn (zo a1)).length)) 0 () [0] hz1 ot wt sm ?_;clear hz1;intro i1 s1 hi1 hW1 hz1;refine rS ?_;refine AWP.seq ?_;refine AWP.cond rfl (fun hb => ?_) (fun hb => ?_)
  ·have hlt1:i1<((zn (zo a1)).length):=ot
   rw[yg hlt1]at hz1;simp only[yzl]at hz1;refine rS ?_;refine rD 6 ?_;refine rS ?_;refine AWP.cond rfl (fun hb => ?_) (fun hb => ?_)
   ·simp only[hb,cond_true]at hz1
    refine rS ?_;refine AWP.ret ?_;subst hz1;dsimp only at hR;subst hR;exact es
   ·simp only[hb,cond_false]at hz1
    refine rS ?_;exact⟨_,[0],hlt1,wt,hz1,sm⟩
  ·obtain rfl:i1=((zn (zo a1)).length):=ot
   rw[yh (Nat.le_refl _)]at hz1;subst hz1;dsimp only at hR;refine AWP.exit ?_;refine yb ?_;refine rS ?_;refine AWP.ret ?_;subst hR;exact es
end N73
def D_ztb : DF
 | [x0,x1,x2]=>some (.bool (ztb (rdL y6 x0) (rdL y6 x1) (rdI x2)),false,[wL 2 yn y6 x0,wL 2 yn y6 x1,wI .i64 x2,PhOk (rdL y6 x0),PhOk (rdL y6 x1)])
 | _=>none
theorem yos:OkD Tryz.prog 73 D_ztb:=by unfold D_ztb;exact dk N73.den
theorem ysn {ρ σ τ:Type} {b1:Nat->σ->Except ρ σ} {b2:Nat->τ->Except ρ τ} (R:Nat->σ->τ->Prop):∀ {k i:Nat} {s:σ} {t:τ},R i s t ->
  (∀ j u v,i<=j->j<i+k->R j u v->(∃ r,b1 j u=.error r/\b2 j v=.error r)\/∃ u' v',b1 j u=.ok u'/\b2 j v=.ok v'/\R (j+1) u' v') ->
  (∃ r,ye b1 k i s=.error r/\ye b2 k i t=.error r)\/∃ u v,ye b1 k i s=.ok u/\ye b2 k i t=.ok v/\R (i+k) u v
 | 0,i,s,t,h,_=>.inr ⟨s,t,rfl,rfl,h⟩
 | k+1,i,s,t,h,hb=>by
  simp only[ye];rcases hb i s t (Nat.le_refl _) (by omega) h with⟨r,h1,h2⟩|⟨u,v,h1,h2,h3⟩
  ·rw[h1,h2];exact .inl ⟨r,rfl,rfl⟩
  ·rw[h1,h2]
   have:=ysn R (k:=k) (i:=i+1) h3 (fun j u v q1 q2 q3=>hb j u v (by omega) (by omega) q3);rwa [show i+1+k=i+(k+1)by omega]at this
theorem ygh {α σ ρ : Type} (p : α -> Bool) (f : σ -> α -> σ) (r : ρ) : ∀ (l : List α) (s : σ), yan (fun x s => (bif !(p x) then .error r else .ok (f s x) : Except ρ σ)) l s = bif l.all p then .ok (l.foldl f s) else .error r
 | [],s=>by simp[yan]
 | x::l,s=>by
  rw[yzs]
  cases hx:p x with
  | false=>simp[hx]
  | true=>
   simp only[Bool.not_true,cond_false,List.all_cons,hx,Bool.true_and,List.foldl_cons];exact ygh p f r l (f s x)
def y0s (g:List Int):Prop:=g.length<=4/\(∀ v∈g,1<=v/\v<=9)/\g.sum<=12/\g≠[1]
theorem yif (g:List Int):g.all (fun v=>zh v 1 9)=true↔∀ v∈g,1<=v/\v<=9:=by
 rw[List.all_eq_true];exact⟨fun h v hv=>by simpa [zh]using h v hv,fun h v hv=>by simpa [zh]using h v hv⟩
theorem wsum (g:List Int) (h:g.length<=4) (hv:∀ v∈g,1<=v/\v<=9):g.foldl (fun s x=>IntKind.wrap .i64 (s+x)) 0=g.sum:=by
 have hw:∀ n:Int,-1000<=n->n<=1000->IntKind.wrap .i64 n=n:=fun n _ _=>by rw[IntKind.wrap_i64];omega
 match g,h,hv with
 | [],_,_=>rfl
 | [a],_,hv=>
  have:=hv a (by simp);simp only[List.foldl_cons,List.foldl_nil,List.sum_cons,List.sum_nil];rw[hw _ (by omega) (by omega)];omega
 | [a,b],_,hv=>
  have:=hv a (by simp);have:=hv b (by simp);simp only[List.foldl_cons,List.foldl_nil,List.sum_cons,List.sum_nil];rw[hw (0+a) (by omega) (by omega),hw _ (by omega) (by omega)];omega
 | [a,b,c],_,hv=>
  have:=hv a (by simp);have:=hv b (by simp);have:=hv c (by simp);simp only[List.foldl_cons,List.foldl_nil,List.sum_cons,List.sum_nil];rw[hw (0+a) (by omega) (by omega),hw (0+a+b) (by omega) (by omega),hw _ (by omega) (by omega)];omega
 | [a,b,c,d],_,hv=>
  have:=hv a (by simp);have:=hv b (by simp);have:=hv c (by simp);have:=hv d (by simp);simp only[List.foldl_cons,List.foldl_nil,List.sum_cons,List.sum_nil];rw[hw (0+a) (by omega) (by omega),hw (0+a+b) (by omega) (by omega),hw (0+a+b+c) (by omega) (by omega),hw _ (by omega) (by omega)];omega
theorem yw1 (x y:Int):(x != y) = !decide (x=y):=by by_cases h:x=y<;>simp[h]
theorem yzg (a b:List Int):zrb a b=decide (a=b):=by
 unfold zrb;by_cases hl:a.length=b.length
 ·have h1:((a.length:Int) != (b.length:Int))=false:=by rw[hl];simp
  rw[h1];simp only[cond_false]
  rw[y2e (b:=y0l a b) (fun j => !decide (a.getD j default=b.getD j default)) false (fun j u _ _=>by
   simp only[y0l,yw1])]
  simp only[Nat.sub_zero,Nat.zero_add];rw[ysr a b hl];by_cases h:a=b<;>simp[h]
 ·have h1:((a.length:Int) != (b.length:Int))=true:=by simp;omega
  rw[h1];have:¬ a=b:=fun h=>hl (by rw[h])
  simp[this]
theorem ykj (g:List Int):zjc g=true↔y0s g:=by
 unfold zjc;rw[y3f (b:=ypn g) (fun(x:Int) (s:Int)=>(bif !(zh x 1 9)then .error false else .ok (IntKind.wrap .i64 (s+x)):Except Bool Int)) g 0 (fun j u _=>rfl),ygh (fun x=>zh x 1 9) (fun s x=>IntKind.wrap .i64 (s+x)) false];unfold y0s
 cases ha:g.all (fun x=>zh x 1 9)with
 | false=>
  simp only[cond_false];constructor
  ·intro h;cases h
  ·rintro⟨_,h,_⟩
   rw[(yif g).2 h]at ha;cases ha
 | true=>
  have hv:=(yif g).1 ha;simp only[cond_true,yzg,zad,Bool.and_eq_true,decide_eq_true_eq,Bool.not_eq_true',decide_eq_false_iff_not];constructor
  ·rintro⟨⟨h1,h2⟩,h3⟩
   rw[wsum g (by omega) hv]at h2;exact⟨by omega,hv,h2,h3⟩
  ·rintro⟨h1,_,h2,h3⟩
   rw[wsum g h1 hv];exact⟨⟨by omega,h2⟩,h3⟩
theorem yre (g:List Int):zhc g=true↔y0s g:=by
 unfold zhc;rw[y3f (b:=y0n g) (fun(x:Int) (s:Unit)=>(bif !(zh x 1 9)then .error false else .ok ():Except Bool Unit)) g () (fun j u _=>rfl),ygh (fun x=>zh x 1 9) (fun(s:Unit) x=>()) false];unfold y0s
 cases ha:g.all (fun x=>zh x 1 9)with
 | false=>
  simp only[cond_false];constructor
  ·intro h;cases h
  ·rintro⟨_,h,_⟩
   rw[(yif g).2 h]at ha;cases ha
 | true=>
  have hv:=(yif g).1 ha
  have hsum:g.length<=4->(zwc g<=12↔g.sum<=12):=by
   intro h4;unfold zwc
   cases g with
   | nil=>simp
   | cons x t=>
    have h0:(((x::t).length:Int) == 0)=false:=by rw[beq_eq_false_iff_ne];simp only[List.length_cons];omega
    rw[h0];simp only[cond_false];rw[y3f (b:=y0o (x::t)) (fun(y:Int) (s:Int)=>(bif !((fun _=>true) y)then .error 0 else .ok (IntKind.wrap .i64 (s+y)):Except Int Int)) (x::t) 0 (fun j u _=>rfl),ygh (fun _=>true) (fun s x=>IntKind.wrap .i64 (s+x)) 0];rw[show(x::t).all (fun _=>true)=true by simp];simp only[cond_true];rw[wsum _ h4 hv]
  have hone:(!(((g.length:Int) == 1) && (g.getD 0 default == 1)))=true↔g≠[1]:=by
   match g with
   | []=>simp
   | [a]=>simp
   | a::b::t=>
    have:((((a::b::t).length:Int)) == 1)=false:=by rw[beq_eq_false_iff_ne];simp only[List.length_cons];omega
    rw[this];simp
  simp only[cond_true];rw[Bool.and_eq_true,Bool.and_eq_true,hone,decide_eq_true_eq,decide_eq_true_eq];constructor
  ·rintro⟨⟨h1,h2⟩,h3⟩
   exact⟨by omega,hv,(hsum (by omega)).1 h3,h2⟩
  ·rintro⟨h1,_,h2,h3⟩
   exact⟨⟨by omega,h3⟩,(hsum h1).2 h2⟩
theorem you {g:List Int} (h:g.length=1) (lo hi:Int) (hr:lo<=g.getD 0 default/\g.getD 0 default<=hi):∀ v∈g,lo<=v/\v<=hi:=by
 obtain⟨x,rfl⟩:=List.length_eq_one_iff.1 h;intro v hv;rw[List.mem_singleton]at hv;subst hv;simpa using hr
theorem y8f {g:List Int} (h:(g.length:Int)=0):g.length<=4/\∀ v∈g,1<=v/\v<=9:=by
 have:g=[]:=List.length_eq_zero_iff.1 (by omega);subst this;simp
theorem y8q (a:Character) (h:zdc a=true):a.Group.length<=4/\∀ v∈a.Group,1<=v/\v<=9:=by
  unfold zdc at h;simp only[Bool.cond_eq_ite]at h;repeat' split at h
  all_goals (try simp only[Bool.and_eq_true,Bool.or_eq_true,beq_iff_eq,yzg,decide_eq_true_eq,zh]at h)
  all_goals first
    | exact y8f h.1
    | exact y8f h.2
    | (have:=(ykj _).1 h.2;exact⟨this.1,this.2.1⟩)
    | (rcases h with h | h
       . exact y8f h
       . exact⟨by omega,fun v hv=>by have:=you (g:=a.Group) (by omega) 2 9 h.2 v hv;omega⟩)
    | (rw[h.2];simp)
    | (cases h)
theorem yun (a:Character) (h:zoc a=true):a.Group.length<=4/\(∀ v∈a.Group,1<=v/\v<=9)/\(a.Kind=8->a.Letter.length=1/\65<=(a.Letter.getD 0 0).toNat/\(a.Letter.getD 0 0).toNat<=90):=by
 unfold zoc at h;simp only[Bool.cond_eq_ite]at h;repeat' split at h
 all_goals (try simp only[Bool.and_eq_true,Bool.or_eq_true,beq_iff_eq,decide_eq_true_eq]at *)
 all_goals first
  | (cases h;done)
  | (exact⟨(y8f h.1).1,(y8f h.1).2,by intro h8;omega⟩)
  | (exact⟨by omega,fun v hv=>by have:=you (g:=a.Group) (by omega) 6 6 (by omega) v hv;omega,by intro h8;omega⟩)
  | (have:=(yre _).1 h.2;exact⟨this.1,this.2.1,by intro h8;omega⟩)
  | (exact⟨(y8f h.1.1.1).1,(y8f h.1.1.1).2,fun _=>⟨by omega,by omega,by omega⟩⟩)
set_option maxRecDepth 10000 in
theorem ypw:∀ n:Fin 256,ztc (n.val:Int)=zcd [87,82,71,89] (n.val:Int)+1 /\ -1<=zcd [87,82,71,89] (n.val:Int):=by decide
theorem yg0 (b:UInt8):ztc (b.toNat:Int)=zcd [87,82,71,89] (b.toNat:Int)+1 /\ -1<=zcd [87,82,71,89] (b.toNat:Int):=
 ypw ⟨b.toNat,b.toNat_lt⟩
theorem ybv (s:List UInt8) (hl:s.length<9223372036854775808):zgc s=zwb s:=by
 unfold zgc zwb
 have hs:=ysn (b1:=yjl s) (b2:=ypk s) (fun i (x:Int) (_:Unit)=>if i=0 then x = -1 else x+1=ztc ((s.getD (i-1) 0).toNat:Int)/\0<=x) (k:=s.length-0) (i:=0) (s := -1) (t:=()) (by simp) (by
  intro j x u _ hj h;unfold yjl ypk;obtain⟨r1,r2⟩:=yg0 (s.getD j 0);rw[r1];generalize zcd [87,82,71,89] ((s.getD j 0).toNat:Int)=p at *;by_cases h0:j=0
  ·subst h0
   rw[if_pos rfl]at h;subst h;simp only[Int.natCast_zero,show decide ((0:Int)<0)=false from rfl,Bool.false_and,Bool.or_false];by_cases hp:p = -1
   ·subst hp;left;exact⟨false,rfl,rfl⟩
   ·right
    have d1:decide (p <= -1)=false:=decide_eq_false (by omega);have d2:(p+1 == 0)=false:=by rw[beq_eq_false_iff_ne];omega
    rw[d1,d2];exact⟨p,(),rfl,rfl,by rw[if_neg (by omega)];exact⟨r1.symm,by omega⟩⟩
  ·rw[if_neg h0]at h
   obtain⟨h1,h2⟩:=h;have d3:decide (0<(j:Int))=true:=decide_eq_true (by omega);have hw:(IntKind.wrap .i64 ((j:Int)-1)).toNat=j-1:=by rw[IntKind.wrap_i64];omega
   rw[d3,hw, <- h1];simp only[Bool.true_and];by_cases hp:p<=x
   ·left
    have d1:decide (p<=x)=true:=decide_eq_true hp
    have d2:(p+1 == 0 || decide (p+1<=x+1))=true:=by
     rw[Bool.or_eq_true,decide_eq_true_eq];right;omega
    rw[d1,d2];exact⟨false,rfl,rfl⟩
   ·right
    have d1:decide (p<=x)=false:=decide_eq_false hp
    have d2:(p+1 == 0 || decide (p+1<=x+1))=false:=by
     rw[Bool.or_eq_false_iff,beq_eq_false_iff_ne,decide_eq_false_iff_not];omega
    rw[d1,d2]
    exact⟨p,(),rfl,rfl,by rw[if_neg (by omega)];exact⟨by rw[show j+1-1=j by omega];exact r1.symm,by omega⟩⟩)
 rcases hs with⟨r,h1,h2⟩|⟨u,v,h1,h2,_⟩
 ·rw[h1,h2]
 ·rw[h1,h2]
  simp only[zh]
def zxd (a0:Character):Bool:=
 (bif ((!(zgc a0.Colors)) || (!(zdc a0)))then false else(bif (zcc a0)then(a0.Period == 0)else((zh a0.Period (zwd a0) 600) && ((a0.Kind != 3) || ((a0.Period.tmod 2) == 0)))))
namespace N55
theorem DD:DOk Tryz.prog (Go.Ab.DD [(42,dP D_zh),(68,dP D_zgc),(69,dP D_zdc),(70,dP D_zcc),(71,dP D_zwd)]):=yd yeg.e <| yd yxw.e <| yd ymx.e <| yd yrm.e <| yd y6y.e <| yj _
theorem dn:type_of% (And.intro @D_zh.eq_1 <| And.intro @D_zgc.eq_1 <| And.intro @D_zdc.eq_1 <| And.intro @D_zcc.eq_1 <| @D_zwd.eq_1):=by and_intros<;>intros<;>rfl
theorem ol:type_of% (@zh.eq_1):=@zh.eq_1
theorem o0 {p:Prop} (h:p:=by(first|(have q9 := ‹(!zgc a0.Colors || !zdc a0)=false›;have h9:=y8q a0 (by simp only[Bool.or_eq_false_iff,Bool.not_eq_false']at q9;exact q9.2);first|exact⟨hb0,h9.1,fun v hv=>(h9.2 v hv).2,fun _ _=>by decide⟩|exact⟨hb0,h9.1,fun v hv=>(h9.2 v hv).2⟩|exact h9.1));first|done|fail):p:=h
theorem den (a0:Character) (hb0:bdCharacter a0):Den Tryz.prog 55 [.agg (eCharacter a0)] (.bool (zxd a0)):=by
 generalize hR:zxd a0=r;unfold zxd at hR;refine di Tryz.func55 Tryz.ntmps55 Tryz.results55 ?_;intro c hL hc hk;obtain⟨hL0,_⟩:=hL;have hw0:bwCharacter a0:=yf a0 hL0;clear hL0;simp only[pars,Nat.zero_add];iterate 2 refine rS ?_
 refine AWP.cond rfl (fun hb => ?_) (fun hb => ?_)
 ·replace hR:=ct hR
  refine rS ?_;refine AWP.ret ?_;subst hR;exact es
 ·replace hR:=cf hR
  refine rS ?_;refine AWP.cond rfl (fun hb => ?_) (fun hb => ?_)
  ·replace hR:=ct hR
   refine rS ?_;refine AWP.ret ?_;subst hR;exact es
  ·replace hR:=cf hR
   refine rD 16 ?_;refine AWP.ret ?_;subst hR;exact es
end N55
def D_zxd : DF
 | [x0]=>some (.bool (zxd (rdG ya x0)),false,[wG eCharacter ya x0,bdCharacter (rdG ya x0)])
 | _=>none
theorem yny:OkD Tryz.prog 55 D_zxd:=by unfold D_zxd;exact dk N55.den
def zg (a0:Character):Bool:=
 (bif (!(zoc a0))then false else(bif (zhb a0)then(a0.Period == 0)else(bif ((a0.Kind == 3) && ((a0.Period.tmod 2) != 0))then false else(zd a0.Period (zmd a0) 600))))
namespace N50
theorem DD:DOk Tryz.prog (Go.Ab.DD [(37,dP D_zd),(60,dP D_zoc),(61,dP D_zhb),(62,dP D_zmd)]):=yd y4f.e <| yd ybx.e <| yd yvm.e <| yd yqy.e <| yj _
theorem dn:type_of% (And.intro @D_zd.eq_1 <| And.intro @D_zoc.eq_1 <| And.intro @D_zhb.eq_1 <| @D_zmd.eq_1):=by and_intros<;>intros<;>rfl
theorem ol:type_of% (@zd.eq_1):=@zd.eq_1
theorem o0 {p:Prop} (h:p:=by(first|(have q9 := ‹(!zoc a0)=false›;have h9:=yun a0 (by simpa using q9);first|exact⟨hb0,h9.1,fun v hv=>(h9.2.1 v hv).2,h9.2.2⟩|exact⟨h9.1,fun v hv=>(h9.2.1 v hv).2,h9.2.2⟩|(and_intros<;>first|exact hb0|exact h9.1|exact fun v hv=>(h9.2.1 v hv).2|exact h9.2.2|decide|(intros;decide))));first|done|fail):p:=h
theorem den (a0:Character) (hb0:bdCharacter a0):Den Tryz.prog 50 [.ep (eCharacter a0)] (.bool (zg a0)):=by
 generalize hR:zg a0=r;unfold zg at hR;refine di Tryz.func50 Tryz.ntmps50 Tryz.results50 ?_;intro c hL hc hk;obtain⟨hL0,_⟩:=hL;have hw0:bwCharacter a0:=yf a0 hL0;clear hL0;simp only[pars,Nat.zero_add];iterate 2 refine rS ?_
 refine AWP.cond rfl (fun hb => ?_) (fun hb => ?_)
 ·replace hR:=ct hR
  refine rS ?_;refine AWP.ret ?_;subst hR;exact es
 ·replace hR:=cf hR
  refine rS ?_;refine AWP.cond rfl (fun hb => ?_) (fun hb => ?_)
  ·replace hR:=ct hR
   refine rS ?_;refine AWP.ret ?_;subst hR;exact es
  ·replace hR:=cf hR
   refine rS ?_;refine AWP.cond rfl (fun hb => ?_) (fun hb => ?_)
   ·replace hR:=ct hR
    refine rS ?_;refine AWP.ret ?_;subst hR;exact es
   ·replace hR:=cf hR
    refine rD 6 ?_;refine AWP.ret ?_;subst hR;exact es
end N50
def D_zg : DF
 | [x0]=>some (.bool (zg (rdP ya x0)),false,[wP eCharacter ya x0,bdCharacter (rdP ya x0)])
 | _=>none
theorem yh0:OkD Tryz.prog 50 D_zg:=by unfold D_zg;exact dk N50.den
end Go.Ab
