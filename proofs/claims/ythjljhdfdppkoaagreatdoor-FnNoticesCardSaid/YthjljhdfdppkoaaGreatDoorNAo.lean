/- A part of a proof: walks of functions and lemmas of our own. No conditions. -/
import Derived.Test.YthjljhdfdppkoaaGreatDoorNAm
import Derived.Test.YthjljhdfdppkoaaGreatDoorNAl
import Derived.Test.YthjljhdfdppkoaaGreatDoorNAn
import Derived.Shelf.Strings.Prefix
import Derived.Shelf.Strconv.ParseIntPublic10
import Derived.Lib.ParseIntBTie
import Derived.Handy
import Derived.WideShapes
import Derived.ProofKit
import Derived.Test.YthjljhdfdppkoaaGreatDoorNAi
import Derived.Shelf.Strings.Search3
import Derived.Shelf.Strings.Cut
import Derived.Shelf.Strings.Fields
import Derived.Below
import Derived.Lib.Join
import Derived.Shelf.Strings.OnBuilder
import Derived.Lib.IndexMore
import Derived.Test.YthjljhdfdppkoaaGreatDoorNAg
set_option linter.unusedSectionVars false
set_option linter.unusedVariables false
set_option linter.unusedSimpArgs false
set_option maxHeartbeats 1000000
namespace Go.Ab
open Go Go.Proofs Go.RowKit
def yqc (s:List UInt8):Int×Bool:=
 if 18 < (Go.Lib.trimPrefix s [45]).length then (0, false) else match Go.Lib.parseIntB 64 s with
  | .ok v=>if Go.Lib.itoa v=s then(v,true)else(0,false)
  | _=>(0,false)
theorem Grow.trans' {a b c:World} (h1:Grow a b) (h2:Grow b c):Grow a c:=
 ⟨h2.os.trans h1.os,h2.tape.trans h1.tape,h2.output.trans h1.output,Nat.le_trans h1.size h2.size,fun k hk=>(h2.block k (Nat.lt_of_lt_of_le hk h1.size)).trans (h1.block k hk)⟩
theorem Grow.refl' (a:World):Grow a a:=⟨rfl,rfl,rfl,Nat.le_refl _,fun _ _=>rfl⟩
theorem yl4 {w w':World} (h:yoq w) (hg:Grow w w'):yoq w':=
 inv0.stable w w' h hg.os fun b hb=>hg.block b (inv0.inside w h b hb)
theorem ymz (s:ByteArray) (w:World):Calls Tryz.prog 53 #[.string s,.string ⟨#[45]⟩] w fun e w'=>e=.returned (.string ⟨(Go.Lib.trimPrefix s.data.toList [45]).toArray⟩)/\w'=w:=
 Any.strings_TrimPrefix Tryz.lays101 s ⟨#[45]⟩ w
theorem ymy (w:World) (e:TypeId) (t:ByteArray):Grow w (Go.Lib.bytesWorld w e t):=by
 unfold Go.Lib.bytesWorld World.freeze;rw[if_neg (by decide)]
 have hs:(w.drew.alloc (.cells (Go.Lib.bytesCells w e t) e)).heap.size=w.heap.size+1:=by
  show(w.heap.push _).size=_;simp
 refine⟨rfl,rfl,rfl,?_,fun k hk => ?_⟩
 ·show w.heap.size<=(Array.modify _ _ _).size
  rw[Array.size_modify,hs];omega
 ·show(Array.modify _ _ _)[k]? = _
  rw[Array.getElem?_modify,if_neg (by show ¬ w.heap.size=k;omega)];show(w.heap.push _)[k]? = _;rw[Array.getElem?_push,if_neg (by omega)]
theorem ytu (s:ByteArray) (w:World) (hs:s.size<=1048576) (hw:yoq w):Calls Tryz.prog 54 #[.string s,.int .i64 10,.int .i64 64] w fun e w'=>
  Grow w w'/\((∃ v,Go.Lib.parseIntB 64 s.data.toList=.ok v/\e=.returned (.tuple #[.int .i64 v,.nilIface]))\/((∀ v,Go.Lib.parseIntB 64 s.data.toList≠.ok v)/\∃ v t p,e=.returned (.tuple #[.int .i64 v,.iface t p]))):=by
 cases h:Go.Lib.parseIntB 64 s.data.toList with
 | ok v=>
  refine(Any.strconv_ParseInt_10_at64_ok Tryz.laysC174 s (by omega) v h w).mono ?_;rintro e w' ⟨rfl,hw'⟩
  refine⟨?_,.inl ⟨v,rfl,rfl⟩⟩;rcases hw' with rfl|⟨t,rfl⟩
  ·exact Grow.refl' _
  ·exact ymy _ _ _
 | range=>
  obtain⟨te,pe,hc⟩:=hw.2.2.1;refine(Any.strconv_ParseInt_10_at64_range Tryz.laysC174 s (by omega) h _ w hc (.inr ⟨te,pe,rfl⟩)).mono ?_;rintro e w' ⟨N,rfl,_,_,hB⟩
  exact⟨yug hB,.inr ⟨by simp,_,_,_,rfl⟩⟩
 | _ =>
  obtain⟨te,pe,hc⟩:=hw.2.1;refine(Any.strconv_ParseInt_10_at64_syntax Tryz.laysC174 s (by omega) h _ w hc (.inr ⟨te,pe,rfl⟩)).mono ?_;rintro e w' ⟨N,rfl,_,_,hB⟩
  exact⟨yug hB,.inr ⟨by simp,_,_,_,rfl⟩⟩
theorem ynr (n:Int) (w:World) (h0 : -9223372036854775808<=n) (h1:n<=9223372036854775807) (hw:yoq w):Calls Tryz.prog 66 #[.int .i64 n,.int .i64 10] w fun e w'=>
  e=.returned (.string ⟨(Go.Lib.itoa n).toArray⟩)/\Grow w w':=by
 refine(Any.strconv_FormatInt_10 Tryz.laysM173 n h0 h1 w hw.1.1).mono ?_;rintro e w' ⟨rfl,k,os,rfl⟩
 exact⟨rfl,y1n w k os⟩
theorem yxp (n:Int) (w:World) (h0 : -9223372036854775808<=n) (h1:n<=9223372036854775807) (hw:yoq w):Calls Tryz.prog 30 #[.int .i64 n] w fun e w'=>
  e=.returned (.string ⟨(Go.Lib.itoa n).toArray⟩)/\Grow w w':=by
 go_enter Tryz.func30,Tryz.ntmps30
 go_wp2_with (go_at_call 66;refine(ynr _ _ h0 h1 hw).mono ?_;rintro e w' ⟨rfl,hg⟩)
 go_ret
 exact⟨rfl,hg⟩
set_option maxHeartbeats 1000000 in
theorem ymq (s:ByteArray) (w:World) (hs:s.size<=1048576) (hw:yoq w):Calls Tryz.prog 24 #[.string s] w fun e w'=>
  Grow w w'/\e=.returned (.tuple #[.int .i64 (yqc s.data.toList).1,.bool (yqc s.data.toList).2]):=by
 go_enter Tryz.func24,Tryz.ntmps24
 go_wp2_with (first
  | (go_at_call 53;refine(ymz _ _).mono ?_;rintro e w' ⟨rfl,rfl⟩)
  | (go_at_call 54;refine(ytu _ _ hs hw).mono ?_;rintro e w' ⟨hg,⟨v,hv,rfl⟩|⟨hv,v,t,p,rfl⟩⟩)
  | (go_at_call 30;have hb:=Go.Lib.parseIntB_bounds hv;refine(yxp _ _ (by omega) (by omega) (yl4 hw hg)).mono ?_;rintro e w'' ⟨rfl,hg2⟩))
 ·go_ret2
  rename_i h
  have h:18<(Go.Lib.trimPrefix s.data.toList [45]).length:=by omega
  refine⟨Grow.refl' _,?_⟩;unfold yqc;rw[if_pos h];rfl
 ·go_ret2
  rename_i hne
  rw[ByteArray.toList_eq]at hne;have hne:Go.Lib.itoa v≠s.data.toList:=by simpa using hne
  refine⟨Grow.trans' hg hg2,?_⟩;unfold yqc;rw[if_neg (by omega),hv];simp only;rw[if_neg hne];rfl
 ·go_ret2
  rename_i hne
  rw[ByteArray.toList_eq]at hne;have hne:Go.Lib.itoa v=s.data.toList:=by simpa using hne
  refine⟨Grow.trans' hg hg2,?_⟩;unfold yqc;rw[if_neg (by omega),hv];simp only;rw[if_pos hne];rfl
 ·go_ret2
  refine⟨hg,?_⟩;unfold yqc;rw[if_neg (by omega)]
  cases hp:Go.Lib.parseIntB 64 s.data.toList with
  | ok v=>exact absurd hp (hv v)
  | _=>rfl
theorem yav (a0:List UInt8) (hp0:a0.length<=1048576):Den Tryz.prog 24 [.str a0] (.tup [.int .i64 (yqc a0).1,.bool (yqc a0).2]):=by
 refine Den.plain ⟨_,Tryz.func24,rfl,rfl⟩ (by simp[yob,yxb]) ?_;intro w M vs hI hr;simp only[RepL]at hr;obtain⟨u0,us0,f0,g0,rfl,h0e,h0,rfl,_⟩:=hr;have e0:=h0.val_str;subst e0;refine(ymq ⟨a0.toArray⟩ w (by show a0.length<=_;omega) hI).mono ?_;rintro e w' ⟨hg,rfl⟩
 refine⟨_,rfl,hg,fun M' => ?_⟩;simp only[Rep];exact⟨_,rfl,by simp only[RepL];exact⟨_,[_],[],[],rfl,rfl,ysb _ _,_,[],[],[],rfl,rfl,yuc _,rfl,rfl⟩⟩
end Go.Ab
namespace Go.Ab
open Go Go.Proofs
def E18:Nat:=1000000000000000000
theorem yrg (m:Nat):Lib.itoa (m:Int)=Lib.decDigits m:=by
 unfold Lib.itoa;rw[if_neg (by omega)];simp
theorem yqf {n:Int} (h:¬ n<0):Lib.itoa n=Lib.decDigits n.natAbs:=by
 unfold Lib.itoa;rw[if_neg h];congr 1;omega
theorem y3c {n:Int} (h:n<0):Lib.itoa n=45::Lib.decDigits n.natAbs:=by
 unfold Lib.itoa;rw[if_pos h]
theorem y47 (m:Nat):∃ c t,Lib.decDigits m=c::t/\c≠45:=by
 obtain⟨h1,h2,h3,h4⟩:=yub m;obtain⟨c,t,e⟩:=List.exists_cons_of_ne_nil h3;refine⟨c,t,e,fun h => ?_⟩;have:=h1 c (by rw[e];simp);subst h;simp at this
theorem ylw {n n':Int} (h:Lib.itoa n=Lib.itoa n'):n=n':=by
 have hd:∀ m:Nat,digV 0 (Lib.decDigits m)=m:=fun m=>(yub m).2.1
 by_cases h1:n<0<;>by_cases h2:n'<0
 ·rw[y3c h1,y3c h2]at h
  have:=congrArg (digV 0) (List.cons.inj h).2;rw[hd,hd]at this;omega
 ·obtain⟨c,t,e,hc⟩:=y47 n'.toNat
  rw[y3c h1,show n'=(n'.toNat:Int)by omega,yrg,e]at h;exact absurd (List.cons.inj h).1.symm hc
 ·obtain⟨c,t,e,hc⟩:=y47 n.toNat
  rw[y3c h2,show n=(n.toNat:Int)by omega,yrg,e]at h;exact absurd (List.cons.inj h).1 hc
 ·rw[show n=(n.toNat:Int)by omega,show n'=(n'.toNat:Int)by omega,yrg,yrg]at h
  have:=congrArg (digV 0) h;rw[hd,hd]at this;omega
theorem yhr (n:Int):(Lib.trimPrefix (Lib.itoa n) [45]).length=(Lib.decDigits n.natAbs).length:=by
 by_cases h:n<0
 ·rw[y3c h];simp[Lib.trimPrefix,Lib.hasPrefix]
 ·obtain⟨c,t,e,hc⟩:=y47 n.toNat
  rw[yqf h];rw[show n.toNat=n.natAbs by omega]at e;unfold Lib.trimPrefix Lib.hasPrefix;rw[if_neg (by rw[e];simp;exact fun h=>hc h.symm)]
theorem y2i (n:Int) (h1:n.natAbs<E18):Lib.parseIntB 64 (Lib.itoa n)=.ok n:=by
 unfold E18 at h1;obtain⟨d1,d2,d3,d4⟩:=yub n.natAbs
 have hp:Lib.parseUintB 64 (Lib.decDigits n.natAbs)=.ok n.natAbs:=by
  unfold Lib.parseUintB;rw[if_neg d3,yvm _ _ 0 d1 (by rw[d2];omega) (by decide),d2]
 by_cases h:n<0
 ·rw[y3c h,Lib.parseIntB_minus,hp]
  show(if 2 ^ (64-1)<n.natAbs then _ else _)=_;rw[if_neg (by omega)];congr 1;omega
 ·obtain⟨c,t,e,hc⟩:=y47 n.natAbs
  have e2:=yqf h;have hc1:=d1 c (by rw[e];simp);rw[e2];rw[e]at hp ⊢;rw[Lib.parseIntB_plain 64 c t (by omega) (by omega),hp];show(if 2 ^ (64-1)<=n.natAbs then _ else _)=_;rw[if_neg (by omega)];congr 1;omega
def y99 (w:List UInt8) (r:Int×Bool):Prop:=
 (∃ n:Int,n.natAbs<E18/\w=Lib.itoa n/\r=(n,true))\/((∀ n:Int,n.natAbs<E18->w≠Lib.itoa n)/\r=(0,false))
theorem y2j (w:List UInt8):y99 w (yqc w):=by
 unfold yqc;by_cases h18:18<(Lib.trimPrefix w [45]).length
 ·rw[if_pos h18]
  refine .inr ⟨fun n hn e => ?_,rfl⟩;subst e;rw[yhr]at h18;have:=(y5c n.natAbs).2 hn;omega
 ·rw[if_neg h18]
  cases hp:Lib.parseIntB 64 w with
  | ok v=>
   simp only;by_cases hv:Lib.itoa v=w
   ·rw[if_pos hv]
    refine .inl ⟨v,?_,hv.symm,rfl⟩;subst hv;rw[yhr]at h18;exact(y5c v.natAbs).1 (by omega)
   ·rw[if_neg hv]
    refine .inr ⟨fun n hn e => ?_,rfl⟩;subst e;rw[y2i n hn]at hp;cases hp
    exact hv rfl
  | _ => exact .inr ⟨fun n hn e=>(by subst e;rw[y2i n hn]at hp;cases hp),rfl⟩
theorem wid {n:Int} (h1 : -9223372036854775808<=n) (h2:n<=9223372036854775807):IntKind.wrap .i64 n=n:=by
 rw[IntKind.wrap_i64];omega
theorem yen (a:List UInt8) (b:Nat->Int->Except (Int×Bool) Int) (hb:∀ i s,b i s=(bif (!(decide (48<=((a.getD i 0).toNat:Int)) && decide (((a.getD i 0).toNat:Int)<=57)))then .error (0,false)else .ok (IntKind.wrap .i64 ((IntKind.wrap .i64 (10 * s))+(IntKind.wrap .i64 (IntKind.wrap .u8 (((a.getD i 0).toNat:Int)-48))))))) :
  ∀ (k i n:Nat),i+k=a.length->(n+1) * 10 ^ k<=E18->yh b k i (n:Int)=if y8d (a.drop i)then .ok ((digV n (a.drop i):Nat):Int)else .error (0,false)
 | 0,i,n,h,hn=>by
  rw[List.drop_eq_nil_of_le (by omega),y9e,if_pos (by intro b hb;simp at hb)];rfl
 | k+1,i,n,h,hn=>by
  have hlt:i<a.length:=by omega
  have hg:a.getD i 0=a[i]:=by simp[List.getD,List.getElem?_eq_getElem hlt]
  rw[List.drop_eq_getElem_cons hlt,y8b];simp only[yh,hb,hg];have h10:(n+1) * 10 ^ (k+1)=((n+1) * 10) * 10 ^ k:=by rw[Nat.pow_succ,Nat.mul_assoc,Nat.mul_comm 10]
  have hone:1<=10 ^ k:=Nat.one_le_pow _ _ (by decide);have hbig:(n+1) * 10 * 1<=(n+1) * 10 * 10 ^ k:=Nat.mul_le_mul_left _ hone;unfold E18 at hn;by_cases hd:48<=a[i].toNat/\a[i].toNat<=57
  ·have e:(!(decide (48<=((a[i]).toNat:Int)) && decide (((a[i]).toNat:Int)<=57)))=false:=by simp;omega
   rw[e,cond_false]
   have hw:IntKind.wrap .i64 ((IntKind.wrap .i64 (10 * (n:Int)))+(IntKind.wrap .i64 (IntKind.wrap .u8 (((a[i]).toNat:Int)-48))))=((10 * n+(a[i].toNat-48):Nat):Int):=by
    rw[wid (n:=10 * (n:Int)) (by omega) (by omega),IntKind.wrap_u8,Int.emod_eq_of_lt (by omega) (by omega),wid (n:=((a[i]).toNat:Int)-48) (by omega) (by omega),wid (by omega) (by omega)];omega
   rw[hw];simp only;have hm:(10 * n+(a[i].toNat-48)+1) * 10 ^ k<=(n+1) * 10 * 10 ^ k:=Nat.mul_le_mul_right _ (by omega);rw[yen a b hb k (i+1) _ (by omega) (by unfold E18;omega)]
   have hiff:y8d (a[i]::a.drop (i+1))↔y8d (a.drop (i+1)):=⟨fun h b hb=>h b (List.mem_cons_of_mem _ hb),fun h b hb=>by
    rcases List.mem_cons.1 hb with rfl|hb
    ·exact hd
    ·exact h b hb⟩
   by_cases hA:y8d (a.drop (i+1))
   ·rw[if_pos hA,if_pos (hiff.2 hA)]
   ·rw[if_neg hA,if_neg (fun h=>hA (hiff.1 h))]
  ·have e:(!(decide (48<=((a[i]).toNat:Int)) && decide (((a[i]).toNat:Int)<=57)))=true:=by
    simp;omega
   rw[e,cond_true];simp only;rw[if_neg (fun h=>hd (h a[i] List.mem_cons_self))]
def zuh (a0:Int) (a1:Int):(List UInt8):=Go.Lib.itoa a0
theorem yk9 (a0:Int) (a1:Int) (hp0:a1=10) (hp1 : -9223372036854775808<=a0) (hp2:a0<=9223372036854775807):Den Tryz.prog 66 [.int .i64 a0,.int .i64 a1] (.str (zuh a0 a1)):=by
 subst hp0;refine Den.plain ⟨_,Tryz.func66,rfl,rfl⟩ (by simp[yob,yxb]) ?_;intro w M vs hI hr;simp only[RepL]at hr;obtain⟨u0,us0,f0,g0,rfl,h0e,h0,u1,us1,f1,g1,rfl,h1e,h1,rfl,_⟩:=hr;have e0:=h0.val_int;have e1:=h1.val_int;subst e0 e1;refine(Any.strconv_FormatInt_10 Tryz.laysM173 a0 hp1 hp2 w hI.1.1).mono ?_;rintro e w' ⟨rfl,k,os,rfl⟩
 exact⟨_,rfl,y1n w k os,fun M'=>y1b _ (yx4 hp1 hp2)⟩
def D_zuh : DF
 | [x0,x1]=>some (.str (zuh (rdI x0) (rdI x1)),false,[wI .i64 x0,wI .i64 x1,(rdI x1)=10,-9223372036854775808<=(rdI x0),(rdI x0)<=9223372036854775807])
 | _=>none
theorem y73:OkD Tryz.prog 66 D_zuh:=by
 intro xs r z ob h ho;unfold D_zuh at h;split at h
 ·simp only[Option.some.injEq,Prod.mk.injEq]at h
  obtain⟨rfl,rfl,rfl⟩:=h;obtain⟨h0,h1,hp0,hp1,hp2,_⟩:=ho;exact Den.sim (yk9 _ _ hp0 hp1 hp2) (yp (yod h0).1 <| yp (yod h1).1 <| trivial) (yt (yod h0).2 <| yt (yod h1).2 <| rfl) rfl
 ·cases h
def ykl {α ρ σ : Type} (g : α -> σ -> Except ρ σ) : List α -> σ -> Except ρ σ
  | [],s=>.ok s
  | x :: t, s => match g x s with
    | .error r=>.error r
    | .ok s'=>ykl g t s'
theorem yqg {α ρ σ : Type} (g : α -> σ -> Except ρ σ) (x : α) (t : List α) (s : σ) : ykl g (x :: t) s = match g x s with
  | .error r=>.error r
  | .ok s'=>ykl g t s':=rfl
theorem y3n {α ρ σ : Type} [Inhabited α] {b : Nat -> σ -> Except ρ σ} (g : α -> σ -> Except ρ σ) (l : List α) : ∀ (k i : Nat) (s : σ), i + k = l.length -> (∀ j u, i <= j -> j < l.length -> b j u = g (l.getD j default) u) -> yh b k i s = ykl g (l.drop i) s
 | 0,i,s,h,_=>by rw[List.drop_eq_nil_of_le (by omega)];rfl
 | k+1,i,s,h,hb=>by
  have hi:i<l.length:=by omega
  rw[List.drop_eq_getElem_cons hi];simp only[yh,ykl];rw[hb i s (Nat.le_refl _) hi,List.getD_eq_getElem?_getD,List.getElem?_eq_getElem hi,Option.getD_some]
  cases g l[i] s with
  | error r=>rfl
  | ok s'=>exact y3n g l k (i+1) s' (by omega) (fun j u h1 h2=>hb j u (by omega) h2)
theorem yxd {α ρ σ:Type} [Inhabited α] {b:Nat->σ->Except ρ σ} (g:α->σ->Except ρ σ) (l:List α) (s:σ) (hb:∀ j u,j<l.length->b j u=g (l.getD j default) u):yh b (l.length-0) 0 s=ykl g l s:=by
 rw[y3n g l (l.length-0) 0 s (by omega) (fun j u _ h=>hb j u h),List.drop_zero]
theorem yc5 {α β:Type} [Inhabited α] [Inhabited β] (f:α->β) (l:List α) (i:Nat) (h:i<l.length):(l.map f).getD i default=f (l.getD i default):=by
 simp[List.getD_eq_getElem?_getD,h]
theorem yqs {j:Nat} (h:0<j) (hn:j<9223372036854775808):(IntKind.wrap .i64 ((j:Int)-1)).toNat=j-1:=by
 rw[IntKind.wrap_i64];omega
end Go.Ab
namespace Go.Ab
theorem ysw {f : Nat -> Int} {n : Nat} (hs : ∀ i, i + 1 < n -> f i < f (i + 1)) : ∀ (d i : Nat), i + d + 1 < n -> f i < f (i + d + 1)
 | 0,i,h=>hs i h
 | d+1,i,h=>by
  have h1:=ysw hs d i (by omega);have h2:=hs (i+d+1) (by omega);have:i+(d+1)+1=i+d+1+1:=by omega
  rw[this];omega
theorem yze {f:Nat->Int} {n:Nat} (hs:∀ i,i+1<n->f i<f (i+1)) {i k:Nat} (h:i<k) (hk:k<n):f i<f k:=by
 have:=ysw hs (k-i-1) i (by omega);rwa [show i+(k-i-1)+1=k by omega]at this
theorem yvy {f arc:Nat->Int} {n:Nat} (hf:∀ i,i<n->0<=f i/\f i<=359) (hs:∀ i,i+1<n->f i<f (i+1)) :
  (∀ i,i<n->∀ k,k<n->k≠i->arc i<=(f k-f i) % 360)↔(1<n->∀ i,i<n->arc i<=(f ((i+1) % n)-f i+360) % 360):=by
 constructor
 ·intro h hn i hi
  have hne:(i+1) % n≠i:=by
   by_cases h2:i+1<n
   ·rw[Nat.mod_eq_of_lt h2];omega
   ·have:i+1=n:=by omega
    rw[this,Nat.mod_self];omega
  have:=h i hi ((i+1) % n) (Nat.mod_lt _ (by omega)) hne;omega
 ·intro h i hi k hk hki
  have hn:1<n:=by omega
  have h1:=h hn i hi;have fi:=hf i hi;have fk:=hf k hk;by_cases h2:i+1<n
  ·rw[Nat.mod_eq_of_lt h2]at h1
   have g:=hs i h2;have fn:=hf (i+1) h2;have e1:(f (i+1)-f i+360) % 360=f (i+1)-f i:=by omega
   rw[e1]at h1;by_cases h3:i<k
   ·have:f (i+1)<=f k:=by
     by_cases h4:k=i+1
     ·rw[h4];omega
     ·have:=yze hs (i:=i+1) (k:=k) (by omega) hk;omega
    have:(f k-f i) % 360=f k-f i:=by omega
    omega
   ·have:=yze hs (i:=k) (k:=i) (by omega) hi
    have:(f k-f i) % 360=f k-f i+360:=by omega
    omega
  ·have hin:i+1=n:=by omega
   rw[hin,Nat.mod_self]at h1;have f0:=hf 0 (by omega);have g:=yze hs (i:=0) (k:=i) (by omega) hi;have e1:(f 0-f i+360) % 360=f 0-f i+360:=by omega
   rw[e1]at h1
   have:f 0<=f k:=by
    by_cases h4:k=0
    ·rw[h4];omega
    ·have:=yze hs (i:=0) (k:=k) (by omega) hk;omega
   have:=yze hs (i:=k) (k:=i) (by omega) hi;have:(f k-f i) % 360=f k-f i+360:=by omega
   omega
theorem yb3 {f arc S : Nat -> Int} {n : Nat} (hf : ∀ i, i < n -> 0 <= f i /\ f i <= 359) (hs : ∀ i, i + 1 < n -> f i < f (i + 1)) (ha : ∀ i, i < n -> 1 <= arc i /\ arc i <= 360)
  (h:1<n->∀ i,i<n->arc i<=(f ((i+1) % n)-f i+360) % 360) (h0:S 0=0) (hS:∀ i,i<n->S (i+1)=S i+arc i):S n<=360:=by
 by_cases hn:1<n
 ·have key:∀ j,j<n->S j<=f j-f 0:=by
   intro j
   induction j with
   | zero=>intro _;rw[h0];omega
   | succ j ih=>
    intro hj;have i1:=ih (by omega);have i2:=h hn j (by omega);rw[Nat.mod_eq_of_lt hj]at i2;have g:=hs j hj;have fj:=hf j (by omega);have fj1:=hf (j+1) hj;have e1:(f (j+1)-f j+360) % 360=f (j+1)-f j:=by omega
    rw[hS j (by omega)];omega
  have k1:=key (n-1) (by omega);have i2:=h hn (n-1) (by omega);rw[show n-1+1=n by omega,Nat.mod_self]at i2;have f0:=hf 0 (by omega);have fn:=hf (n-1) (by omega);have g:=yze hs (i:=0) (k:=n-1) (by omega) (by omega);have e1:(f 0-f (n-1)+360) % 360=f 0-f (n-1)+360:=by omega
  have:=hS (n-1) (by omega);rw[show n-1+1=n by omega]at this;omega
 ·by_cases h1:n=1
  ·subst h1
   have:=hS 0 (by omega);have a0:=ha 0 (by omega);simp only[Nat.zero_add]at this;omega
  ·have:n=0:=by omega
   subst this;omega
end Go.Ab
namespace Go.Ab
open Go Go.Proofs
theorem yfd (a b:List UInt8):(Go.Lib.trimSuffix a b).length<=a.length:=by
 unfold Go.Lib.trimSuffix;split
 ·simp
 ·omega
theorem yku (a b:List UInt8):(Go.Lib.cut a b).1.length<=a.length/\(Go.Lib.cut a b).2.1.length<=a.length:=by
 unfold Go.Lib.cut;split
 ·simp only[List.length_take,List.length_drop];omega
 ·simp
theorem yy1 (w:World) (k:Nat):Grow w (w.drewN k):=⟨rfl,rfl,rfl,Nat.le_refl _,fun _ _=>rfl⟩
theorem yrab {w:World} {M:Nat->Prop} {μ:Map} {x y:AV} {u v:Value} (h1:Rep w M x μ u []) (h2:Rep w M y μ v []):Rep w M (.tup [x,y]) μ (.tuple #[u,v]) []:=by
 simp only[Rep,RepL];exact⟨[u,v],rfl,u,[v],[],[],rfl,rfl,h1,v,[],[],[],rfl,rfl,h2,rfl,rfl⟩
theorem yq1 {w:World} {M:Nat->Prop} {μ:Map} {x y z:AV} {u v t:Value} (h1:Rep w M x μ u []) (h2:Rep w M y μ v []) (h3:Rep w M z μ t []):Rep w M (.tup [x,y,z]) μ (.tuple #[u,v,t]) []:=by
 simp only[Rep,RepL];exact⟨[u,v,t],rfl,u,[v,t],[],[],rfl,rfl,h1,v,[t],[],[],rfl,rfl,h2,t,[],[],[],rfl,rfl,h3,rfl,rfl⟩
def zgc (a0:(List UInt8)) (a1:(List UInt8)):Bool:=decide (0<=Go.Lib.indexByte a0 (a1.getD 0 0))
theorem yvab (a0:(List UInt8)) (a1:(List UInt8)) (hp0:a1.length=1):Den Tryz.prog 204 [.str a0,.str a1] (.bool (zgc a0 a1)):=by
 obtain⟨c,rfl⟩:∃ c,a1=[c]:=List.length_eq_one_iff.1 hp0;refine Den.plain ⟨_,Tryz.func204,rfl,rfl⟩ (by simp[yob,yxb]) ?_;intro w M vs hI hr;simp only[RepL]at hr;obtain⟨u0,us0,f0,g0,rfl,h0e,h0,u1,us1,f1,g1,rfl,h1e,h1,rfl,_⟩:=hr;have e0:=h0.val_str;have e1:=h1.val_str;subst e0 e1;refine(Any.strings_Contains_one Tryz.lays144 ⟨a0.toArray⟩ c w).mono ?_;rintro e w' ⟨rfl,rfl⟩
 exact⟨_,rfl,Grow.refl _,fun M'=>yuc _⟩
def D_zgc : DF
 | [x0,x1]=>some (.bool (zgc (rdS x0) (rdS x1)),false,[wS x0,wS x1,(rdS x1).length=1])
 | _=>none
theorem yaw:OkD Tryz.prog 204 D_zgc:=by
 intro xs r z ob h ho;unfold D_zgc at h;split at h
 ·simp only[Option.some.injEq,Prod.mk.injEq]at h
  obtain⟨rfl,rfl,rfl⟩:=h;obtain⟨h0,h1,hp0,_⟩:=ho;exact Den.sim (yvab _ _ hp0) (yp (yfb h0).1 <| yp (yfb h1).1 <| trivial) (yt (yfb h0).2 <| yt (yfb h1).2 <| rfl) rfl
 ·cases h
theorem ysbb {s n:Int} (h0:0<=s) (h1:s<n) (hn:n<9223372036854775808):0<=(IntKind.wrap .i64 (s+1)).tmod n/\(IntKind.wrap .i64 (s+1)).tmod n<n:=by
 have e:IntKind.wrap .i64 (s+1)=s+1:=by rw[IntKind.wrap_i64];omega
 rw[e,Int.tmod_eq_emod_of_nonneg (by omega)];exact⟨Int.emod_nonneg _ (by omega),Int.emod_lt_of_pos _ (by omega)⟩
def yfs (a0:(List (List UInt8))) (a1:(List UInt8)) (i1:Nat) (s1:Unit):Except (Int) (Unit):=
 (bif (a1 == (a0.getD i1 default))then .error (i1:Int)else .ok ())
def zof (a0:(List (List UInt8))) (a1:(List UInt8)):Int:=
 (match yh (yfs a0 a1) (a0.length-0) 0 ()with|.error e=>e|.ok s1=>(-1))
namespace N232
theorem DD:DOk Tryz.prog (Go.Ab.DD []):=yf _
theorem den (a0:(List (List UInt8))) (a1:(List UInt8))  : Den Tryz.prog 232 [encL 1 eS a0,.str a1] (.int .i64 (zof a0 a1)):=by
 generalize hR:zof a0 a1=r;unfold zof at hR;refine di Tryz.func232 Tryz.ntmps232 Tryz.results232 ?_;intro c hL hc hk;obtain⟨hL0,hL1,_⟩:=hL;have hw0:a0.length<9223372036854775808:=Nat.lt_succ_of_le (yb hL0).1;have hw1:∀ v∈a0,bwS v:=fun v hv=>ycw v ((yb hL0).2 v hv)
 have hw2:a1.length<9223372036854775808:=Nat.lt_succ_of_le hL1;clear hL0 hL1;simp only[pars,Nat.zero_add];iterate 2 refine rS ?_
 refine AWP.block ?_;generalize hz1:yh (yfs a0 a1) (a0.length-0) 0 ()=z1 at hR;refine AWP.range (yfs a0 a1) (fun i1 s1=>⟨[(0,encL 1 eS a0),(1,.str a1),(7,.int .i64 (a0.length:Int)),(8,.int .i64 (i1:Int))],[]⟩) (fun i1 s1=>True) (a0.length) 0 () [] hz1 ot wt sm ?_;clear hz1;intro i1 s1 hi1 hW1 hz1;refine rS ?_;refine AWP.seq ?_;refine AWP.cond rfl (fun hb => ?_) (fun hb => ?_)
 ·have hlt1:i1<a0.length:=ot
  rw[yl hlt1]at hz1;simp only[yfs]at hz1;iterate 2 refine rS ?_
  refine AWP.cond rfl (fun hb => ?_) (fun hb => ?_)
  ·simp only[hb,cond_true]at hz1
   refine rS ?_;refine AWP.ret ?_;subst hz1;dsimp only at hR;subst hR;exact es
  ·simp only[hb,cond_false]at hz1
   refine rS ?_;exact⟨_,[],hlt1,wt,hz1,sm⟩
 ·obtain rfl:i1=a0.length:=ot
  rw[yk (Nat.le_refl _)]at hz1;subst hz1;dsimp only at hR;refine AWP.exit ?_;refine yd ?_;refine rS ?_;refine AWP.ret ?_;subst hR;exact es
end N232
def D_zof : DF
 | [x0,x1]=>some (.int .i64 (zof (rdL dS x0) (rdS x1)),false,[wL 1 eS dS x0,wS x1])
 | _=>none
theorem y07:OkD Tryz.prog 232 D_zof:=by unfold D_zof;exact dk N232.den
def zkg (a0:(List (List UInt8))) (a1:(List UInt8)):Bool:=
 decide (0<=(zof a0 a1))
namespace N185
theorem DD:DOk Tryz.prog (Go.Ab.DD [(232,dP D_zof)]):=ya y07.e <| yf _
abbrev dn:=@D_zof.eq_1
theorem den (a0:(List (List UInt8))) (a1:(List UInt8))  : Den Tryz.prog 185 [encL 1 eS a0,.str a1] (.bool (zkg a0 a1)):=by
 generalize hR:zkg a0 a1=r;unfold zkg at hR;refine di Tryz.func185 Tryz.ntmps185 Tryz.results185 ?_;intro c hL hc hk;obtain⟨hL0,hL1,_⟩:=hL;have hw0:a0.length<9223372036854775808:=Nat.lt_succ_of_le (yb hL0).1;have hw1:∀ v∈a0,bwS v:=fun v hv=>ycw v ((yb hL0).2 v hv)
 have hw2:a1.length<9223372036854775808:=Nat.lt_succ_of_le hL1;clear hL0 hL1;simp only[pars,Nat.zero_add];iterate 2 refine rS ?_
 refine AWP.ret ?_;subst hR;exact es
end N185
def D_zkg : DF
 | [x0,x1]=>some (.bool (zkg (rdL dS x0) (rdS x1)),false,[wL 1 eS dS x0,wS x1])
 | _=>none
theorem yfw:OkD Tryz.prog 185 D_zkg:=by unfold D_zkg;exact dk N185.den
theorem y6d : ∀ (l cur : List UInt8) (m : Nat), cur.length + l.length <= m -> (Go.Lib.fieldsGo cur l).length <= cur.length + l.length /\ ∀ x ∈ Go.Lib.fieldsGo cur l, x.length <= m
 | [],cur,m,h=>by
  cases cur with
  | nil=>simp[Go.Lib.fieldsGo]
  | cons a c=>
   simp only[Go.Lib.fieldsGo,List.isEmpty_cons,List.length_cons,List.length_nil];refine⟨by simp,fun x hx => ?_⟩;simp at hx
   subst hx;simpa using h
 | b::l,cur,m,h=>by
  simp only[List.length_cons]at h ⊢;simp only[Go.Lib.fieldsGo];split
  ·split
   ·have:=y6d l [] m (by simp;omega)
    simp only[List.length_nil]at this;exact⟨by omega,this.2⟩
   ·rename_i hc
    have:=y6d l [] m (by simp;omega);simp only[List.length_nil]at this;have hcl:0<cur.length:=by cases cur with|nil=>simp at hc|cons _ _=>simp
    refine⟨by simp only[List.length_cons];omega,fun x hx => ?_⟩;rcases List.mem_cons.1 hx with rfl|hx
    ·omega
    ·exact this.2 x hx
  ·have:=y6d l (cur++[b]) m (by simp;omega)
   simp only[List.length_append,List.length_cons,List.length_nil]at this;exact⟨by omega,this.2⟩
theorem yiy (s:List UInt8):(Go.Lib.fields s).length<=s.length/\∀ x∈Go.Lib.fields s,x.length<=s.length:=by
 have:=y6d s [] s.length (by simp);simpa [Go.Lib.fields]using this
theorem yez {f : FuncId} {T : TypeId} (hok : FnOk Tryz.prog f) (a0 : List UInt8) (hp0 : a0.length <= 1048576) (hp1 : ∀ x ∈ a0, x.toNat < 128)
  (hS:∀ (s:ByteArray) (w:World),s.size<4294967281->(∀ (j:Nat) b,s.data.toList[j]? = some b->b.toNat<128)->Go.Lib.TabIs Tryz.prog w tn1 .u8 Go.Lib.asciiSpaceTab->Calls Tryz.prog f #[.string s] w fun e w'=>
   e=.returned (.slice (some ⟨w.heap.size,0,none⟩) (Go.Lib.fields s.data.toList).length (Go.Lib.fields s.data.toList).length)/\w'=w.alloc (.cells ((Go.Lib.fields s.data.toList).map fun l=>Value.string ⟨l.toArray⟩).toArray T)) :
  Den Tryz.prog f [.str a0] (ownL T 1 (fun s:List UInt8=>[.str s]) (Go.Lib.fields a0)):=by
 obtain⟨l1,l2⟩:=yiy a0
 have hnth:∀ i,i<(Go.Lib.fields a0).length->((Go.Lib.fields a0).getD i default).length<=maxLen:=by
  intro i hi
  have:(Go.Lib.fields a0).getD i default∈Go.Lib.fields a0:=by
   rw[List.getD_eq_getElem?_getD,List.getElem?_eq_getElem hi];simp
  have:=l2 _ this;unfold maxLen;omega
 refine Den.fresh (T:=T) (e:=1) (enc:=fun s:List UInt8=>[.str s]) (l:=Go.Lib.fields a0) hok (by simp[yob,yxb]) (fun i=>[Value.string ⟨((Go.Lib.fields a0).getD i default).toArray⟩]) (fun w M i hi=>⟨?_,rfl,by simp[Value.oneCell']⟩) ?_
 ·simp only[RepL]
  exact⟨_,[],[],[],rfl,rfl,y1b _ (hnth i hi),rfl,rfl⟩
 ·intro w M vs hI hr
  simp only[RepL]at hr;obtain⟨u0,us0,f0,g0,rfl,h0e,h0,rfl,_⟩:=hr;have e0:=h0.val_str;subst e0;refine(hS ⟨a0.toArray⟩ w (by show a0.length<_;omega) (fun j b hb=>hp1 b (List.mem_of_getElem? hb)) hI.2.2.2).mono ?_;rintro e w' ⟨rfl,rfl⟩
  refine⟨w.heap.size,(Go.Lib.fields a0).length,((Go.Lib.fields a0).map fun x=>Value.string ⟨x.toArray⟩).toArray,rfl,?_⟩;have hfl:=y7l w T ((Go.Lib.fields a0).map fun x=>Value.string ⟨x.toArray⟩) (by rw[List.length_map];unfold maxLen;omega);rw[List.length_map]at hfl
  have hus:((List.range (Go.Lib.fields a0).length).flatMap fun i=>[((Go.Lib.fields a0).map fun x=>Value.string ⟨x.toArray⟩).getD i default])=(List.range (Go.Lib.fields a0).length).flatMap fun i=>[Value.string ⟨((Go.Lib.fields a0).getD i default).toArray⟩]:=by
   rw[List.flatMap_def,List.flatMap_def];congr 1
   apply List.map_congr_left;intro i hi;have hi:=List.mem_range.1 hi;simp[List.getD_eq_getElem?_getD,List.getElem?_map,List.getElem?_eq_getElem hi]
  rw[hus]at hfl;exact hfl
def zvh (a0:(List UInt8)):(List (List UInt8)):=Go.Lib.fields a0
theorem y0ab (a0:(List UInt8)) (hp0:a0.length<=1048576) (hp1:∀ x∈a0,x.toNat<128):Den Tryz.prog 233 [.str a0] (ownL 9 1 eS (zvh a0)):=by
 exact yez ⟨_,Tryz.func233,rfl,rfl⟩ a0 hp0 hp1 (fun s w h1 h2 h3=>Any.strings_Fields Tryz.lays157 (by kernel_rfl) (by kernel_rfl) s w h1 h2 h3)
def D_zvh : DF
 | [x0]=>some (ownL 9 1 eS (zvh (rdS x0)),false,[wS x0,(rdS x0).length<=1048576,∀ x∈(rdS x0),x.toNat<128])
 | _=>none
theorem y16:OkD Tryz.prog 233 D_zvh:=by
 intro xs r z ob h ho;unfold D_zvh at h;split at h
 ·simp only[Option.some.injEq,Prod.mk.injEq]at h
  obtain⟨rfl,rfl,rfl⟩:=h;obtain⟨h0,hp0,hp1,_⟩:=ho;exact Den.sim (y0ab _ hp0 hp1) (yp (yfb h0).1 <| trivial) (yt (yfb h0).2 <| rfl) rfl
 ·cases h
def yon (a0:(List Int)) (a1:(List Int)) (i1:Nat) (s1:Unit):Except (Bool) (Unit):=
 (bif ((a0.getD i1 default) != (a1.getD i1 default))then .error false else .ok ())
def zdd (a0:(List Int)) (a1:(List Int)):Bool:=
 (bif ((a0.length:Int) != (a1.length:Int))then false else(match yh (yon a0 a1) (a0.length-0) 0 ()with|.error e=>e|.ok s1=>true))
namespace N238
theorem DD:DOk Tryz.prog (Go.Ab.DD []):=yf _
theorem den (a0:(List Int)) (a1:(List Int))  : Den Tryz.prog 238 [encL 1 yx a0,encL 1 yx a1] (.bool (zdd a0 a1)):=by
 generalize hR:zdd a0 a1=r;unfold zdd at hR;refine di Tryz.func238 Tryz.ntmps238 Tryz.results238 ?_;intro c hL hc hk;obtain⟨hL0,hL1,_⟩:=hL;have hw0:a0.length<9223372036854775808:=Nat.lt_succ_of_le (yb hL0).1;have hw1:a1.length<9223372036854775808:=Nat.lt_succ_of_le (yb hL1).1;clear hL0 hL1;simp only[pars,Nat.zero_add];iterate 2 refine rS ?_
 refine AWP.cond rfl (fun hb => ?_) (fun hb => ?_)
 ·replace hR:=ct hR
  refine rS ?_;refine AWP.ret ?_;subst hR;exact es
 ·replace hR:=cf hR
  refine rS ?_;refine AWP.block ?_;generalize hz1:yh (yon a0 a1) (a0.length-0) 0 ()=z1 at hR;refine AWP.range (yon a0 a1) (fun i1 s1=>⟨[(0,encL 1 yx a0),(1,encL 1 yx a1),(12,.int .i64 (a0.length:Int)),(13,.int .i64 (i1:Int))],[]⟩) (fun i1 s1=>True) (a0.length) 0 () [] hz1 ot wt sm ?_;clear hz1;intro i1 s1 hi1 hW1 hz1;refine rS ?_;refine AWP.seq ?_;refine AWP.cond rfl (fun hb => ?_) (fun hb => ?_)
  ·have hlt1:i1<a0.length:=ot
   rw[yl hlt1]at hz1;simp only[yon]at hz1;refine rS ?_;refine rD 8 ?_;refine AWP.cond rfl (fun hb => ?_) (fun hb => ?_)
   ·simp only[hb,cond_true]at hz1
    refine rS ?_;refine AWP.ret ?_;subst hz1;dsimp only at hR;subst hR;exact es
   ·simp only[hb,cond_false]at hz1
    refine rS ?_;exact⟨_,[],hlt1,wt,hz1,sm⟩
  ·obtain rfl:i1=a0.length:=ot
   rw[yk (Nat.le_refl _)]at hz1;subst hz1;dsimp only at hR;refine AWP.exit ?_;refine yd ?_;refine rS ?_;refine AWP.ret ?_;subst hR;exact es
end N238
def D_zdd : DF
 | [x0,x1]=>some (.bool (zdd (rdL ynb x0) (rdL ynb x1)),false,[wL 1 yx ynb x0,wL 1 yx ynb x1])
 | _=>none
theorem yjx:OkD Tryz.prog 238 D_zdd:=by unfold D_zdd;exact dk N238.den
def zxf (a0:(List UInt8)) (a1:Int):Int:=Go.Lib.indexByte a0 a1.toNat.toUInt8
theorem y59 (a0:(List UInt8)) (a1:Int)  : Den Tryz.prog 236 [.str a0,.int .u8 a1] (.int .i64 (zxf a0 a1)):=by
 refine Den.plain ⟨_,Tryz.func236,rfl,rfl⟩ (by simp[yob,yxb]) ?_;intro w M vs hI hr;simp only[RepL]at hr;obtain⟨u0,us0,f0,g0,rfl,h0e,h0,u1,us1,f1,g1,rfl,h1e,h1,rfl,_⟩:=hr;have e0:=h0.val_str;have e1:=h1.val_int;subst e0 e1;refine(Any.strings_IndexByte Tryz.lays137 ⟨a0.toArray⟩ a1 w).mono ?_;rintro e w' ⟨rfl,rfl⟩
 exact⟨_,rfl,Grow.refl _,fun M'=>ysb _ _⟩
def D_zxf : DF
 | [x0,x1]=>some (.int .i64 (zxf (rdS x0) (rdI x1)),false,[wS x0,wI .u8 x1])
 | _=>none
theorem yz4:OkD Tryz.prog 236 D_zxf:=by
 intro xs r z ob h ho;unfold D_zxf at h;split at h
 ·simp only[Option.some.injEq,Prod.mk.injEq]at h
  obtain⟨rfl,rfl,rfl⟩:=h;obtain⟨h0,h1,_⟩:=ho;exact Den.sim (y59 _ _ ) (yp (yfb h0).1 <| yp (yod h1).1 <| trivial) (yt (yfb h0).2 <| yt (yod h1).2 <| rfl) rfl
 ·cases h
end Go.Ab
namespace Go.Ab
open Go
def ynd:List (List UInt8):=[[46,45],[45,46,46,46],[45,46,45,46],[45,46,46],[46],[46,46,45,46],[45,45,46],[46,46,46,46],[46,46],[46,45,45,45],[45,46,45],[46,45,46,46],[45,45],[45,46],[45,45,45],[46,45,45,46],[45,45,46,45],[46,45,46],[46,46,46],[45],[46,46,45],[46,46,46,45],[46,45,45],[45,46,46,45],[45,46,45,45],[45,45,46,46]]
theorem yhi:∀ x∈ynd,1<=x.length/\x.length<=4/\∀ c∈x,c=45\/c=46:=by decide
theorem yim (n:Nat):(ynd.getD n default).length<=4:=by
 rw[List.getD_eq_getElem?_getD]
 cases h:ynd[n]? with
 | none=>show(0:Nat)<=4;omega
 | some x=>exact(yhi x (List.mem_of_getElem? h)).2.1
theorem yo4 (n:Nat):(([[46,45],[45,46,46,46],[45,46,45,46],[45,46,46],[46],[46,46,45,46],[45,45,46],[46,46,46,46],[46,46],[46,45,45,45],[45,46,45],[46,45,46,46],[45,45],[45,46],[45,45,45],[46,45,45,46],[45,45,46,45],[46,45,46],[46,46,46],[45],[46,46,45],[46,46,46,45],[46,45,45],[45,46,46,45],[45,46,45,45],[45,45,46,46]]:List (List UInt8)).getD n default).length<=4:=yim n
theorem y6h (a:List UInt8) (c:UInt8) (h:a.length=1):Op.bytesLess a [c]=decide ((a.getD 0 0).toNat<c.toNat):=by
 obtain⟨x,rfl⟩:=List.length_eq_one_iff.1 h;simp only[Op.bytesLess,Bool.and_false,Bool.or_false,List.getD_cons_zero];rfl
theorem yx1 (a:List UInt8) (c:UInt8) (h:a.length=1):(a == [c])=decide ((a.getD 0 0).toNat=c.toNat):=by
 obtain⟨x,rfl⟩:=List.length_eq_one_iff.1 h;apply Bool.eq_iff_iff.2;simp[UInt8.toNat_inj]
theorem ytl (n:Int) (h1:0<=n) (h2:n<256):IntKind.wrap .u8 n=n:=by
 have:IntKind.wrap .u8 n=n % 256:=rfl;rw[this];omega
theorem yf7 (a:List UInt8) (h:((a.length:Int)=1/\Op.bytesLess a [65]=false)/\(Op.bytesLess a [90]=true\/(a == [90])=true)) :
  0<=IntKind.wrap .u8 (((a.getD 0 0).toNat:Int)-65)/\IntKind.wrap .u8 (((a.getD 0 0).toNat:Int)-65)<26/\0<=IntKind.wrap .u8 (((a.getD 0 0).toNat:Int) + -65)/\IntKind.wrap .u8 (((a.getD 0 0).toNat:Int) + -65)<26:=by
 have h1:a.length=1:=by omega
 rw[y6h a 65 h1,y6h a 90 h1,yx1 a 90 h1]at h;have e1:(65:UInt8).toNat=65:=rfl;have e2:(90:UInt8).toNat=90:=rfl;rw[e1,e2]at h;simp only[decide_eq_true_eq,decide_eq_false_iff_not]at h;have hx:65<=(a.getD 0 0).toNat/\(a.getD 0 0).toNat<=90:=by omega
 rw[ytl _ (by omega) (by omega),ytl _ (by omega) (by omega)];omega
theorem ylf {ρ α : Type} (b : Nat -> List α -> Except ρ (List α)) (f : Nat -> List α) : ∀ (n i : Nat) (s : List α), (∀ j s, i <= j -> j < i + n -> b j s = .ok (s ++ f j)) -> yh b n i s = .ok (s ++ (List.range' i n).flatMap f)
 | 0,i,s,_=>by simp[yh]
 | n+1,i,s,h=>by
  simp only[yh];rw[h i s (Nat.le_refl _) (by omega)];simp only;rw[ylf b f n (i+1) _ (fun j s h1 h2=>h j s (by omega) (by omega)),List.range'_succ,List.flatMap_cons,List.append_assoc]
theorem y6m {ρ σ:Type} {b b':Nat->σ->Except ρ σ} (n i:Nat) (s:σ) (h:∀ j u,i<=j->j<i+n->b j u=b' j u):yh b n i s=yh b' n i s:=loopR_congr0 n i s h
where
 loopR_congr0 {ρ σ:Type} {b b':Nat->σ->Except ρ σ}:∀ (n i:Nat) (s:σ),(∀ j u,i<=j->j<i+n->b j u=b' j u)->yh b n i s=yh b' n i s
 | 0,i,s,_=>rfl
 | n+1,i,s,h=>by
  simp only[yh];rw[h i s (Nat.le_refl _) (by omega)]
  cases b' i s with
  | error r=>rfl
  | ok t=>exact loopR_congr0 n (i+1) t (fun j u h1 h2=>h j u (by omega) (by omega))
theorem y0h {α β:Type} (l:List α) (d:α) (f:α->β):(List.range' 0 l.length).flatMap (fun j=>[f (l.getD j d)])=l.map f:=by
 rw[<- List.map_eq_flatMap];apply List.ext_getElem
 ·simp
 ·intro i h1 h2
  simp only[List.length_map]at h2;simp[List.getD_eq_getElem?_getD,h2]
theorem yjk (s:List Int) (a b:Int) (i:Nat) (hi:i<s.length+2):(bif i.blt s.length then[AV.int .i64 (s.getD i default)]else y0 (elt [[AV.int .i64 a],[AV.int .i64 b]] (i-s.length)))=[AV.int .i64 ((s++[a,b]).getD i default)]:=by
 by_cases h:i<s.length
 ·have:i.blt s.length=true:=by rw[Nat.blt_eq];exact h
  rw[this];simp[List.getD_eq_getElem?_getD,List.getElem?_append_left h]
 ·have:i.blt s.length=false:=by rw[<- Bool.not_eq_true,Nat.blt_eq];exact h
  rw[this];rcases(show i=s.length\/i=s.length+1 by omega)with h1|h1
  ·subst h1
   simp[elt,y0,ycb,List.getD_eq_getElem?_getD]
  ·subst h1
   simp[elt,y0,ycb,List.getD_eq_getElem?_getD]
theorem ygi (s:List Int) (a:Int) (i:Nat) (hi:i<s.length+1):(bif i.blt s.length then[AV.int .i64 (s.getD i default)]else y0 (elt [[AV.int .i64 a]] (i-s.length)))=[AV.int .i64 ((s++[a]).getD i default)]:=by
 by_cases h:i<s.length
 ·have:i.blt s.length=true:=by rw[Nat.blt_eq];exact h
  rw[this];simp[List.getD_eq_getElem?_getD,List.getElem?_append_left h]
 ·have:i.blt s.length=false:=by rw[<- Bool.not_eq_true,Nat.blt_eq];exact h
  rw[this];have h1:i=s.length:=by omega
  subst h1;simp[elt,y0,ycb,List.getD_eq_getElem?_getD]
theorem yot (s:List Int) (a b:Int) (i:Nat) (hi:i<s.length+1+1):(bif i.blt (s.length+1)then bif i.blt s.length then[AV.int .i64 (s.getD i default)]else y0 (elt [[AV.int .i64 a]] (i-s.length))else y0 (elt [[AV.int .i64 b]] (i-(s.length+1))))=[AV.int .i64 ((s++[a]++[b]).getD i default)]:=by
 by_cases h:i<s.length+1
 ·have:i.blt (s.length+1)=true:=by rw[Nat.blt_eq];exact h
  rw[this,cond_true];refine(ygi s a i h).trans ?_;rw[List.getD_eq_getElem?_getD,List.getD_eq_getElem?_getD,List.getElem?_append_left (l₁:=s++[a]) (l₂:=[b]) (by simpa using h)]
 ·have:i.blt (s.length+1)=false:=by rw[<- Bool.not_eq_true,Nat.blt_eq];exact h
  rw[this];have h1:i=s.length+1:=by omega
  subst h1;simp[elt,y0,ycb,List.getD_eq_getElem?_getD]
theorem ynq (s:List Int) (a b:Int) (i:Nat) (hi:i<s.length+2):(i.blt s.length || ysd (y0 (elt [[AV.int .i64 a],[AV.int .i64 b]] (i-s.length))))=true:=by
 by_cases h:i<s.length
 ·have:i.blt s.length=true:=by rw[Nat.blt_eq];exact h
  rw[this];rfl
 ·rcases(show i-s.length=0\/i-s.length=1 by omega)with h1|h1<;>rw[h1]<;>simp[elt,y0,ycb,ysd,ymd]
end Go.Ab
namespace Go.Ab
open Go Go.Proofs
theorem yxv {i:Nat} (h:i<4):(([87,82,71,89]:List UInt8).take (IntKind.wrap .i64 ((i:Int)+1)).toNat |>.drop i).length=1:=by
 rw[show(IntKind.wrap .i64 ((i:Int)+1)).toNat=i+1 from by rw[IntKind.wrap_i64];omega];rcases i with _|_|_|_|i<;>first|rfl|omega
theorem y32 (i:Nat):(([87,82,71,89]:List UInt8).take (IntKind.wrap .i64 ((i:Int)+1)).toNat |>.drop i).length<=1\/4<=i:=by
 by_cases h:i<4
 ·left;rw[yxv h];exact Nat.le_refl _
 ·right;omega
theorem ned {α:Type} [DecidableEq α] (x y:α):(x != y) = !decide (x=y):=by by_cases h:x=y<;>simp[h]
open Go.RowKit in
theorem yh7 {f : FuncId} (hok : FnOk Tryz.prog f) (a0 : List (List UInt8)) (a1 : List UInt8) (hp0 : a0.length <= 1048576) (hp1 : (Go.Lib.join a0 a1).length <= 1099511627776)
  (hS:∀ (bk o c:Nat) (xs:List ByteArray) (sep:ByteArray) (w:World),(∀ (j:Nat) x,xs[j]? = some x->w.cell? ⟨bk,o+j,none⟩=some (.string x))->bk<w.heap.size->xs.length<=140737488355328->xs.length<=c ->
   (Go.Lib.join (xs.map (·.data.toList)) sep.data.toList).length<=140737488355328 ->
   Calls Tryz.prog f #[.slice (some ⟨bk,o,none⟩) xs.length c,.string sep] w fun e w'=>e=.returned (.string ⟨(Go.Lib.join (xs.map (·.data.toList)) sep.data.toList).toArray⟩)/\Below w.heap.size w w')
  (hN:∀ (a:Option Addr) (c:Nat) (sep:ByteArray) (w:World),Calls Tryz.prog f #[.slice a 0 c,.string sep] w fun e w'=>e=.returned (.string ⟨#[]⟩)/\w'=w) :
  Den Tryz.prog f [encL 1 (fun s:List UInt8=>[.str s]) a0,.str a1] (.str (Go.Lib.join a0 a1)):=by
 refine Den.plain hok (by simp[yob,yxb,encL]) ?_;intro w M vs hI hr;simp only[RepL]at hr;obtain⟨u0,us0,f0,g0,rfl,h0e,h0,u1,us1,f1,g1,rfl,h1e,h1,rfl,_⟩:=hr;have e1:=h1.val_str;subst e1;simp only[encL,Rep]at h0;rcases h0 with⟨hn,hev,_⟩|⟨b,o,cap,us,fps,rfl,⟨hc1,hc2⟩,hb,hcl,_⟩
 ·have h9:a0=[]:=List.length_eq_zero_iff.1 hn
  subst h9;rcases hev with rfl|⟨a,c,rfl⟩
  ·refine(hN none 0 ⟨a1.toArray⟩ w).mono ?_
   rintro e w' ⟨rfl,rfl⟩
   exact⟨_,rfl,Grow.refl _,fun M'=>y1b [] (by unfold maxLen;simp)⟩
  ·refine(hN (some a) c ⟨a1.toArray⟩ w).mono ?_
   rintro e w' ⟨rfl,rfl⟩
   exact⟨_,rfl,Grow.refl _,fun M'=>y1b [] (by unfold maxLen;simp)⟩
 ·have hx:((a0.map fun x=>(⟨x.toArray⟩:ByteArray)).map fun x=>x.data.toList)=a0:=by
   rw[List.map_map];exact List.map_id'' (fun x=>rfl) _
  have hcall:=hS b o cap (a0.map fun x=>(⟨x.toArray⟩:ByteArray)) ⟨a1.toArray⟩ w (fun j x hj=>by
   rw[List.getElem?_map]at hj
   cases hg:a0[j]? with
   | none=>rw[hg]at hj;simp at hj
   | some y=>
    rw[hg]at hj;simp only[Option.map_some,Option.some.injEq]at hj;subst hj;have hjl:=(List.getElem?_eq_some_iff.1 hg).1;obtain⟨c1,c2,c3⟩:=hcl j hjl;simp only[RepL]at c1;obtain⟨v,vs',q1,q2,hus,_,hv,hvs,_⟩:=c1;subst hvs;have hv:=hv.val_str;subst hv;rw[hus]at c3;have hgd:a0.getD j default=y:=by rw[List.getD_eq_getElem?_getD,hg];rfl
    rw[hgd]at c3;have h0:=(c3 0 _ rfl).1;rw[Nat.mul_one,Nat.add_zero]at h0
    exact h0) hb (by rw[List.length_map];omega) (by rw[List.length_map];exact hc1) (by rw[hx];exact Nat.le_trans hp1 (by omega))
  rw[List.length_map,hx]at hcall;refine hcall.mono ?_;rintro e w' ⟨rfl,hbl⟩
  exact⟨_,rfl,yug hbl,fun M'=>y1b _ (by unfold maxLen;omega)⟩
def zub (a0:(List (List UInt8))) (a1:(List UInt8)):(List UInt8):=Go.Lib.join a0 a1
theorem ya9 (a0:(List (List UInt8))) (a1:(List UInt8)) (hp0:a0.length<=1048576) (hp1:(Go.Lib.join a0 a1).length<=1099511627776):Den Tryz.prog 32 [encL 1 eS a0,.str a1] (.str (zub a0 a1)):=by
 exact yh7 ⟨_,Tryz.func32,rfl,rfl⟩ a0 a1 hp0 hp1 (fun bk o c xs sep w h1 h2 h3 h4 h5=>Any.strings_Join Tryz.lays156 Tryz.Builder_Extra_156 bk o c xs sep w h1 h2 h3 h4 h5) (fun a c sep w=>Any.strings_Join_none Tryz.lays156 Tryz.Builder_Extra_156 a c sep w)
def D_zub : DF
 | [x0,x1]=>some (.str (zub (rdL dS x0) (rdS x1)),false,[wL 1 eS dS x0,wS x1,(rdL dS x0).length<=1048576,(Go.Lib.join (rdL dS x0) (rdS x1)).length<=1099511627776])
 | _=>none
theorem yai:OkD Tryz.prog 32 D_zub:=by
 intro xs r z ob h ho;unfold D_zub at h;split at h
 ·simp only[Option.some.injEq,Prod.mk.injEq]at h
  obtain⟨rfl,rfl,rfl⟩:=h;obtain⟨h0,h1,hp0,hp1,_⟩:=ho;exact Den.sim (ya9 _ _ hp0 hp1) (yp (y1d h0).1 <| yp (yfb h1).1 <| trivial) (yt (y1d h0).2 <| yt (yfb h1).2 <| rfl) rfl
 ·cases h
end Go.Ab
namespace Go.Ab
open Go
theorem y4g : ∀ (l : List UInt8) (c : UInt8), c ∉ l -> Lib.index l [c] = -1
 | [],c,_=>rfl
 | b::l,c,h=>by
  have h1:¬ c=b:=fun e=>h (by simp[e])
  have h2:=y4g l c (fun e=>h (by simp[e]));have h3:(c == b)=false:=by simpa using h1
  simp[Lib.index,h2,List.isPrefixOf,h3]
theorem yrh : ∀ (l t : List UInt8) (c : UInt8), c ∉ l -> Lib.index (l ++ c :: t) [c] = l.length
 | [],t,c,_=>by simp[Lib.index,List.isPrefixOf]
 | b::l,t,c,h=>by
  have h1:¬ c=b:=fun e=>h (by simp[e])
  have h2:=yrh l t c (fun e=>h (by simp[e]));have h3:(c == b)=false:=by simpa using h1
  have h4:((l.length:Int) == -1)=false:=by rw[beq_eq_false_iff_ne];omega
  simp only[List.cons_append,Lib.index,h2,List.isPrefixOf,h3,h4,Bool.false_and,List.length_cons];simp
theorem y4f (l t:List UInt8) (c:UInt8) (h:c∉l):Lib.cut (l++c::t) [c]=(l,t,true):=by
 unfold Lib.cut;rw[yrh l t c h,if_pos (by omega)];simp only[Int.toNat_natCast,List.length_singleton];rw[List.take_left' rfl, <- List.drop_drop,List.drop_left' rfl];rfl
theorem ysp (l:List UInt8) (c:UInt8) (h:c∉l):Lib.cut l [c]=(l,[],false):=by
 unfold Lib.cut;rw[y4g l c h,if_neg (by omega)]
theorem y2c (l p:List UInt8):Lib.hasSuffix (l++p) p=true:=by
 unfold Lib.hasSuffix;rw[List.isSuffixOf_iff_suffix];exact List.suffix_append l p
theorem ytc (l p:List UInt8):Lib.trimSuffix (l++p) p=l:=by
 unfold Lib.trimSuffix;rw[y2c];simp
theorem ywm (l p:List UInt8) (a b:UInt8) (h:a≠b):Lib.hasSuffix (l++[a]) (p++[b])=false:=by
 cases hs:Lib.hasSuffix (l++[a]) (p++[b])with
 | false=>rfl
 | true=>
  unfold Lib.hasSuffix at hs;rw[List.isSuffixOf_iff_suffix]at hs;obtain⟨t,ht⟩:=hs;have:=congrArg List.getLast? ht;rw[<- List.append_assoc]at this;simp at this
  exact absurd this.symm h
theorem y4e (l p:List UInt8) (h:Lib.hasSuffix l p=false):Lib.trimSuffix l p=l:=by
 unfold Lib.trimSuffix;rw[h];simp
def y1c (y:Int):Bool:=(((y.tmod 4 == 0) && (y.tmod 100 != 0)) || (y.tmod 400 == 0))
theorem ydd {n:Int} (h1 : -9223372036854775808<=n) (h2:n<=9223372036854775807):IntKind.wrap .i64 n=n:=by
 rw[IntKind.wrap_i64];omega
theorem yjh {m:Int} (h1:1<=m) (h2:m<=12):m=1\/m=2\/m=3\/m=4\/m=5\/m=6\/m=7\/m=8\/m=9\/m=10\/m=11\/m=12:=by omega
def ybD (y:Int):Int:=365 * (y-2000)+(y-1997) / 4-(y-1901) / 100+(y-1601) / 400
def mbD (l:Bool) (m:Nat):Nat:=([0,0,31,59,90,120,151,181,212,243,273,304,334]:List Nat).getD m 0+(bif l && Nat.blt 2 m then 1 else 0)
def mdD (l:Bool) (m:Nat):Nat:=([0,31,28,31,30,31,30,31,31,30,31,30,31]:List Nat).getD m 0+(bif l && Nat.beq 2 m then 1 else 0)
theorem y28:∀ (l:Bool) (m m':Fin 13),1<=m.val->m<m'->mbD l m+mdD l m<=mbD l m':=by decide
theorem yg9:∀ (l:Bool) (m:Fin 13),mdD l m<=31:=by decide
theorem yqx {l:Bool} {m:Int} (h1:1<=m) (h2:m<=12):mdD l m.toNat<=31:=yg9 l ⟨m.toNat,by omega⟩
theorem ypab:∀ (l:Bool) (m:Fin 12),1<=m.val->mbD l (m.val+1)=mbD l m+mdD l m:=by decide
def yyz (a y m d:Int):Prop:=2000<=y/\1<=m/\m<=12/\1<=d/\d<=mdD (y1c y) m.toNat/\a=ybD y+mbD (y1c y) m.toNat+d-1
theorem yz0 (y:Int) (h:2000<=y):ybD (y+1)=ybD y+365+(bif y1c y then 1 else 0):=by
 have e1:y.tmod 4=y % 4:=Int.tmod_eq_emod_of_nonneg (by omega);have e2:y.tmod 100=y % 100:=Int.tmod_eq_emod_of_nonneg (by omega);have e3:y.tmod 400=y % 400:=Int.tmod_eq_emod_of_nonneg (by omega);by_cases hc:(y % 4=0/\y % 100≠0)\/y % 400=0
 ·have hl:y1c y=true:=by unfold y1c;rw[e1,e2,e3];simpa using hc
  rw[hl];simp only[cond_true];unfold ybD;omega
 ·have hl:y1c y=false:=by unfold y1c;rw[e1,e2,e3];simpa using hc
  rw[hl];simp only[cond_false];unfold ybD;omega
theorem yws {y:Int} (h:2000<=y):0<=ybD y:=by unfold ybD;omega
theorem y0u {y:Int} (h:ybD y<=99999):y<=2273:=by unfold ybD at h;omega
theorem y2z {l:Bool} {m:Int} (h1:1<=m) (h2:m<=11):mbD l (m+1).toNat=mbD l m.toNat+mdD l m.toNat:=by
 have:=ypab l ⟨m.toNat,by omega⟩ (by show 1<=m.toNat;omega);rw[show(m+1).toNat=m.toNat+1 by omega];exact this
theorem y88 (l:Bool):mbD l 12+mdD l 12=365+(bif l then 1 else 0):=by cases l<;>rfl
theorem ymx (l:Bool):mbD l 1=0:=by cases l<;>rfl
theorem ygcb {l:Bool} {m:Int} (h1:1<=m) (h2:m<=12):mbD l m.toNat+mdD l m.toNat<=365+(bif l then 1 else 0):=by
 rw[<- y88 l];by_cases h:m=12
 ·subst h;exact Nat.le_refl _
 ·have:=y28 l ⟨m.toNat,by omega⟩ ⟨12,by omega⟩ (by show 1<=m.toNat;omega) (by show m.toNat<12;omega)
  have h3:mbD l m.toNat+mdD l m.toNat<=mbD l 12:=this;omega
theorem y9q {ρ σ:Type} {body:σ->Except ρ σ} {I:σ->Prop} {Q:ρ->Prop} (hi:∀ s,I s->match body s with|.error r=>Q r|.ok t=>I t) :
  ∀ (k:Nat) (s:σ),I s->match yeb body k s with|.error r=>Q r|.ok t=>I t
 | 0,s,h=>by simpa [yeb]using h
 | k+1,s,h=>by
  have:=hi s h;simp only[yeb]
  cases hb:body s with
  | error r=>simp only[hb]at this ⊢;exact this
  | ok t=>simp only[hb]at this ⊢;exact y9q hi k t this
theorem y8k {ρ σ:Type} {body:σ->Except ρ σ} {I:σ->Prop} {Q:ρ->Prop} {M:σ->Nat} (hi:∀ s,I s->match body s with|.error r=>Q r|.ok t=>I t/\M t<M s) :
  ∀ (k:Nat) (s:σ),I s->M s<k->∃ r,yeb body k s=.error r/\Q r
 | 0,s,h,hk=>by omega
 | k+1,s,h,hk=>by
  have:=hi s h;simp only[yeb]
  cases hb:body s with
  | error r=>simp only[hb]at this ⊢;exact⟨r,rfl,this⟩
  | ok t=>simp only[hb]at this ⊢;exact y8k hi k t this.1 (by omega)
end Go.Ab
namespace Go.Ab
open Go Go.Proofs
def zpf (a0:(List UInt8)) (a1:Int):(List UInt8):=Go.Lib.repeatL a0 a1.toNat
theorem ym9 (a0:(List UInt8)) (a1:Int) (hp0:0<=a1) (hp1:a1<=9223372036854775807) (hp2:a0.length * a1.toNat<=140737488355328):Den Tryz.prog 146 [.str a0,.int .i64 a1] (.str (zpf a0 a1)):=by
 obtain⟨c,rfl⟩:∃ c:Nat,a1=c:=⟨a1.toNat,by omega⟩
 refine Den.plain ⟨_,Tryz.func146,rfl,rfl⟩ (by simp[yob,yxb]) ?_;intro w M vs hI hr;simp only[RepL]at hr;obtain⟨u0,us0,f0,g0,rfl,h0e,h0,u1,us1,f1,g1,rfl,h1e,h1,rfl,_⟩:=hr;have e0:=h0.val_str;have e1:=h1.val_int;subst e0 e1;have hsz:(⟨a0.toArray⟩:ByteArray).size=a0.length:=by simp[ByteArray.size]
 refine(Any.strings_Repeat Tryz.lays105 Tryz.Builder_Extra_105 ⟨a0.toArray⟩ c w (by omega) (by rw[hsz];simpa using hp2)).mono ?_;rintro e w' ⟨rfl,hB⟩
 exact⟨_,rfl,yug hB,fun M'=>y1b _ (by unfold zpf;rw[yom];simp only[Int.toNat_natCast]at hp2;unfold maxLen;show a0.length * c<=_;omega)⟩
def D_zpf : DF
 | [x0,x1]=>some (.str (zpf (rdS x0) (rdI x1)),false,[wS x0,wI .i64 x1,0<=(rdI x1),(rdI x1)<=9223372036854775807,(rdS x0).length * (rdI x1).toNat<=140737488355328])
 | _=>none
theorem yw7:OkD Tryz.prog 146 D_zpf:=by
 intro xs r z ob h ho;unfold D_zpf at h;split at h
 ·simp only[Option.some.injEq,Prod.mk.injEq]at h
  obtain⟨rfl,rfl,rfl⟩:=h;obtain⟨h0,h1,hp0,hp1,hp2,_⟩:=ho;exact Den.sim (ym9 _ _ hp0 hp1 hp2) (yp (yfb h0).1 <| yp (yod h1).1 <| trivial) (yt (yfb h0).2 <| yt (yod h1).2 <| rfl) rfl
 ·cases h
theorem yxu (a:List UInt8) (c:Int):(zpf a c).length=a.length * c.toNat:=by
 unfold zpf;rw[yom]
end Go.Ab
