/- A part of a proof: walks of functions and lemmas of our own. No conditions. -/
import Derived.Test.YtbgiihoaldolfaaGreatCAl
import Derived.Test.YtbgiihoaldolfaaGreatCAn
import Derived.Lib.SlicesCompact
import Derived.Shelf.Small.Bits
import Derived.Shelf.Small.Strs
import Derived.Shelf.Strconv.Itoa0
import Derived.Shelf.Strings.Search1
import Derived.Shelf.Strings.Search2
import Derived.Shelf.Strings.Search3
import Derived.Shelf.LaysM
import Derived.Shelf.Strings.Shaped
import Derived.Ground.SlgnProg
import Derived.Shelf.SlicesG.CompactI
import Derived.Shelf.SlicesE.Equal
import Derived.Shelf.SlicesE.Compact
import Derived.Ground.SlgmProg
import Derived.Shelf.SortM.Plain
import Derived.Shelf.SortM.SortNone
import Derived.Test.YtbgiihoaldolfaaGreatProg
import Derived.Sort.Grow
import Derived.Sort.Row
import Derived.Test.YtbgiihoaldolfaaGreatCAi
import Derived.Shelf.Strings.Prefix
import Derived.Shelf.Strings.Cut
set_option linter.unusedSectionVars false
set_option linter.unusedVariables false
set_option linter.unusedSimpArgs false
set_option maxHeartbeats 1000000
namespace Go.Ab
open Go Go.Proofs
def choC (n m:Int) (bf:AV) (cl:List Bool) (b ms:Int) (ch:AV):List AV:=.int .i64 n::.int .i64 m::bf::(cl.map AV.bool++[.int .i64 b,.int .i64 ms,ch])
def choH (n m:Int) (bf:List (List Int)) (cl:List Bool) (b ms:Int) (ch:List Int):List Ent:=
 [.box (choC n m (.ref 1 1 0 bf.length) cl b ms (.ref 2 1 0 ch.length)),.arr 26 1 bf.length (fun j=>yw (bf.getD j default)),.arr 2 1 ch.length (fun j=>yi (ch.getD j default))]
def yau : List AV -> List Bool
 | .bool b::r=>b::yau r
 | _=>[]
def yhx : List AV -> AV
 | .bool _::r=>yhx r
 | _::_::x::_=>x
 | _=>.any
theorem yto (x y z : AV) (r : List AV) (hx : ∀ b, x ≠ .bool b) : ∀ cl : List Bool, yau (cl.map AV.bool ++ x :: r) = cl
 | []=>by
  cases x with
  | bool b=>exact absurd rfl (hx b)
  | _=>rfl
 | b::cl=>by simp only[List.map_cons,List.cons_append,yau,yto x y z r hx cl]
theorem y0d (a b : Int) (x : AV) : ∀ cl : List Bool, yhx (cl.map AV.bool ++ [.int .i64 a, .int .i64 b, x]) = x
 | []=>rfl
 | c::cl=>by simp only[List.map_cons,List.cons_append,yhx,y0d a b x cl]
def rdBf : List AV -> List (List Int)
 | _::_::x::_=>rdL yv x
 | _=>[]
def rdCl : List AV -> List Bool
 | _::_::_::r=>yau r
 | _=>[]
def rdCh : List AV -> List Int
 | _::_::_::r=>rdL ydb (yhx r)
 | _=>[]
def wCho (cs:List AV):Prop:=∃ n m b ms,simO (.ep cs) (.ep (choC n m (encL 1 yt (rdBf cs)) (rdCl cs) b ms (encL 1 yi (rdCh cs))))
def yud (bf:List (List Int)) (cl:List Bool) (ch:List Int) (ix:Int) (i1:Nat) (s1:Unit):Except Bool Unit:=
 bif cl.getD (ix.toNat * 12+(ch.getD (((bf.getD ch.length default).getD i1 default).toNat) default).toNat) false then .error false else .ok ()
def yob (bf:List (List Int)) (cl:List Bool) (ch:List Int) (ix:Int):Bool:=
 match ye (yud bf cl ch ix) ((bf.getD ch.length default).length-0) 0 ()with|.error e=>e|.ok s1=>true
theorem choF {cl:List Bool} (h:cl.length=144):(∀ r,dropL 144 (List.map AV.bool cl++r)=dropL 0 r)/\(∀ r,dropL 145 (List.map AV.bool cl++r)=dropL 1 r)/\(∀ r,dropL 146 (List.map AV.bool cl++r)=dropL 2 r) /\
  (∀ ns r,putL 144 ns (List.map AV.bool cl++r)=List.map AV.bool cl++putL 0 ns r)/\(∀ ns r,putL 145 ns (List.map AV.bool cl++r)=List.map AV.bool cl++putL 1 ns r)/\(∀ ns r,putL 146 ns (List.map AV.bool cl++r)=List.map AV.bool cl++putL 2 ns r) /\
  (∀ r,(List.map AV.bool cl++r).length=144+r.length):=
 ⟨fun r=>yig h r 0,fun r=>yig h r 1,fun r=>yig h r 2,fun ns r=>ykf ns r 0 cl 144 h,fun ns r=>ykf ns r 1 cl 144 h,fun ns r=>ykf ns r 2 cl 144 h,fun r=>by rw[List.length_append,List.length_map,h]⟩
theorem yac (ρ : Nat -> Nat) (r r' : List AV) : ∀ kl : List Bool, simL ρ (kl.map AV.bool ++ r) (kl.map AV.bool ++ r') = simL ρ r r'
 | []=>rfl
 | b::kl=>by
  have h:simL ρ ((b::kl).map AV.bool++r) ((b::kl).map AV.bool++r')=(simA ρ (.bool b) (.bool b)/\simL ρ (kl.map AV.bool++r) (kl.map AV.bool++r')):=by
   simp only[List.map_cons,List.cons_append,simL]
  rw[h,yac ρ r r' kl];simp[simA]
theorem yfe (h:List Ent) (kl:List Bool) (r:List AV):mapO (snapC h 7) (kl.map AV.bool++r)=(match mapO (snapC h 7) r with|some (ys,ob)=>some (kl.map AV.bool++ys,ob)|none=>none):=ycl (d:=6) kl
theorem y7e (kl:List Bool) (a:Int) (r:List AV):yau (kl.map AV.bool++.int .i64 a::r)=kl:=yto (.int .i64 a) .any .any r (fun _=>by simp) kl
structure ChoOk (n m:Int) (bf:List (List Int)) (cl:List Bool):Prop where
 n0:0<=n
 n1:n<=24
 m0:0<=m
 m1:m<=12
 len:(bf.length:Int)=n
 cl:cl.length=144
 row:∀ j,j<bf.length->(bf.getD j default).length<=1048576/\∀ l∈bf.getD j default,0<=l/\l<(j:Int)
def ChOk (m:Int) (ch:List Int):Prop:=∀ v∈ch,0<=v/\v<m
def yof (l:List Int):List Int:=l.mergeSort fun x y=>decide (x<=y)
def ydg (ch:List Int):Int:=(((Lib.compact (yof ch)).length:Nat):Int)
theorem yek (n m b ms:Int) (bf:List (List Int)) (kl:List Bool) (ch:List Int):wCho (.int .i64 n::.int .i64 m::(.sl none 1 bf.length fun i=>[.sl none 1 (bf.getD i default).length fun i1=>[.int .i64 ((bf.getD i default).getD i1 default)]]) ::
  (kl.map AV.bool++[.int .i64 b,.int .i64 ms,.sl none 1 ch.length fun j=>[.int .i64 (ch.getD j default)]])):=by
 refine⟨n,m,b,ms,?_⟩;simp only[rdBf,rdCl,rdCh,y7e,y0d,ea,sv];unfold choC;exact yoc _
def D_impl_choosing_allowed : DF
 | [.ep cs,x1]=>some (.bool (yob (rdBf cs) (rdCl cs) (rdCh cs) (rdI x1)),false,[wCho cs,wI .i64 x1,∃ n m,ChoOk n m (rdBf cs) (rdCl cs)/\ChOk m (rdCh cs)/\((rdCh cs).length:Int)<n/\0<=rdI x1/\rdI x1<m])
 | _=>none
def D_impl_choosing_different : DF
 | [.ep cs]=>some (.int .i64 (ydg (rdCh cs)),false,[wCho cs,(rdCl cs).length=144,(rdCh cs).length<=24])
 | _=>none
end Go.Ab
namespace Go.Ab
open Go Go.Proofs
def runH (bf:List (List Int)) (cl:List (List Bool)) (ms bud:Int) (ch us:List Int) (nd:Int) (fu:Bool):List Ent:=
 [.box [.ref 1 1 0 bf.length,.ref 2 1 0 cl.length,.ref 3 1 0 ch.length,.ref 4 1 0 us.length,.int .i64 ms,.int .i64 nd,.int .i64 bud,.bool fu],.arr 26 1 bf.length (fun j=>yw (bf.getD j default)),.arr 68 1 cl.length (fun j=>eLBO (cl.getD j default)),
  .arr 2 1 ch.length (fun j=>yi (ch.getD j default)),.arr 2 1 us.length (fun j=>yi (us.getD j default))]
def cntP (us:List Int) (k:Nat):Int:=(((us.take k).countP (fun v=>decide (0<v)):Nat):Int)
def ygv (us:List Int):Int:=cntP us us.length
def rowP (cl:List (List Bool)) (ch:List Int) (c:Nat) (l:Int):Bool := !((cl.getD c default).getD ((ch.getD l.toNat default).toNat) default)
def ytm (bf:List (List Int)) (cl:List (List Bool)) (ms:Int) (ch us:List Int) (c:Nat):Bool:=
 (decide (0<us.getD c default) || decide (ygv us<ms)) && (bf.getD ch.length default).all (rowP cl ch c)
def sR_b (bf:List (List Int)) (cl:List (List Bool)) (ms bud:Int) (rec:List Int->List Int->Int->Bool×List Int×List Int×Int×Bool) (ch us:List Int) (c:Nat) (s:Int×Bool):Except (Bool×List Int×List Int×Int×Bool) (Int×Bool):=
 bif !(ytm bf cl ms ch us c)then .ok s else(bif (s.1 == bud) || s.2 then .error (false,ch,us,s.1,true)else
  (bif (rec (ch ++ [(c : Int)]) (us.set c (us.getD c default + 1)) (s.1 + 1)).1 then .error (rec (ch ++ [(c : Int)]) (us.set c (us.getD c default + 1)) (s.1 + 1))
   else .ok ((rec (ch++[(c:Int)]) (us.set c (us.getD c default+1)) (s.1+1)).2.2.2.1,(rec (ch++[(c:Int)]) (us.set c (us.getD c default+1)) (s.1+1)).2.2.2.2)))
def sR (bf : List (List Int)) (cl : List (List Bool)) (ms bud : Int) : Nat -> List Int -> List Int -> Int -> Bool × List Int × List Int × Int × Bool
 | 0,ch,us,nd=>(true,ch,us,nd,false)
 | k+1,ch,us,nd=>match ye (sR_b bf cl ms bud (sR bf cl ms bud k) ch us) (cl.length-0) 0 (nd,false)with|.error e=>e|.ok s=>(false,ch,us,s.1,s.2)
theorem y5d {ρ σ : Type} {b : Nat -> σ -> Except ρ σ} (W : σ -> Prop) (V : ρ -> Prop) (hb : ∀ i s, W s -> match b i s with | .ok t => W t | .error e => V e) : ∀ (k i : Nat) (s : σ), W s -> match ye b k i s with | .ok t => W t | .error e => V e
 | 0,i,s,h=>h
 | k+1,i,s,h=>by
  have h1:=hb i s h;simp only[ye]
  cases hbi:b i s with
  | error e=>rw[hbi]at h1;exact h1
  | ok t=>rw[hbi]at h1;exact y5d W V hb k (i+1) t h1
theorem yog (bf:List (List Int)) (cl:List (List Bool)) (ms bud:Int):∀ (k:Nat) (ch us:List Int) (nd:Int),0<=nd/\nd<=bud ->
  ((sR bf cl ms bud k ch us nd).1=false->(sR bf cl ms bud k ch us nd).2.1=ch/\(sR bf cl ms bud k ch us nd).2.2.1=us)/\0<=(sR bf cl ms bud k ch us nd).2.2.2.1/\(sR bf cl ms bud k ch us nd).2.2.2.1<=bud
 | 0,ch,us,nd,hb=>⟨fun h=>(by cases h),hb⟩
 | k+1,ch,us,nd,hb=>by
  have ih:=yog bf cl ms bud k
  have h:=y5d (b:=sR_b bf cl ms bud (sR bf cl ms bud k) ch us) (fun t=>0<=t.1/\t.1<=bud) (fun e=>(e.1=false->e.2.1=ch/\e.2.2.1=us)/\0<=e.2.2.2.1/\e.2.2.2.1<=bud) (fun i t ht=>by
   unfold sR_b
   cases hc1:(!(ytm bf cl ms ch us i))with
   | true=>exact ht
   | false=>
    cases hc2:((t.1 == bud) || t.2)with
    | true=>exact⟨fun _=>⟨rfl,rfl⟩,ht⟩
    | false=>
     have h0:t.1≠bud:=by rw[Bool.or_eq_false_iff]at hc2;simpa using hc2.1
     have h1:=ih (ch++[(i:Int)]) (us.set i (us.getD i default+1)) (t.1+1) ⟨by omega,by omega⟩
     cases hc3:(sR bf cl ms bud k (ch++[(i:Int)]) (us.set i (us.getD i default+1)) (t.1+1)).1 with
     | true=>
      simp only[cond_false,cond_true];exact⟨fun h=>(by rw[hc3]at h;cases h),h1.2⟩
     | false=>
      simp only[cond_false,cond_true]
      exact h1.2) (cl.length-0) 0 (nd,false) hb
  unfold sR
  cases hl:ye (sR_b bf cl ms bud (sR bf cl ms bud k) ch us) (cl.length-0) 0 (nd,false)with
  | error e=>rw[hl]at h;exact h
  | ok t=>rw[hl]at h;exact⟨fun _=>⟨rfl,rfl⟩,h⟩
theorem yqo (bf : List (List Int)) (cl : List (List Bool)) (ms bud : Int) : ∀ (k : Nat) (ch us : List Int) (nd : Int), (sR bf cl ms bud k ch us nd).2.1.length <= ch.length + k
 | 0,ch,us,nd=>Nat.le_refl _
 | k+1,ch,us,nd=>by
  have ih:=yqo bf cl ms bud k
  have h:=y5d (b:=sR_b bf cl ms bud (sR bf cl ms bud k) ch us) (fun t=>True) (fun e=>e.2.1.length<=ch.length+(k+1)) (fun i t ht=>by
   unfold sR_b
   cases hc1:(!(ytm bf cl ms ch us i))with
   | true=>exact ht
   | false=>
    cases hc2:((t.1 == bud) || t.2)with
    | true=>exact Nat.le_add_right _ _
    | false=>
     have h1:=ih (ch++[(i:Int)]) (us.set i (us.getD i default+1)) (t.1+1);rw[List.length_append,List.length_singleton]at h1
     cases hc3:(sR bf cl ms bud k (ch++[(i:Int)]) (us.set i (us.getD i default+1)) (t.1+1)).1 with
     | true=>simp only[cond_false,cond_true];omega
     | false=>simp only[cond_false,cond_true]) (cl.length-0) 0 (nd,false) trivial
  unfold sR
  cases hl:ye (sR_b bf cl ms bud (sR bf cl ms bud k) ch us) (cl.length-0) 0 (nd,false)with
  | error e=>rw[hl]at h;exact h
  | ok t=>exact Nat.le_add_right _ _
structure RunOk (bf:List (List Int)) (cl:List (List Bool)) (ms bud:Int):Prop where
 n1:bf.length<=24
 m1:cl.length<=12
 row:∀ j,j<bf.length->(bf.getD j default).length<=1048576/\∀ l∈bf.getD j default,0<=l/\l<(j:Int)
 cls:∀ j,j<cl.length->(cl.getD j default).length=cl.length
 ms0:0<=ms
 ms1:ms<=12
 b0:0<=bud
 b1:bud<=20000
theorem yoo {us:List Int} {k:Nat} (h:k<us.length):cntP us (k+1)=cntP us k+(if 0<us.getD k default then 1 else 0):=by
 unfold cntP;rw[List.take_add_one,List.countP_append,List.getElem?_eq_getElem h,List.getD_eq_getElem?_getD,List.getElem?_eq_getElem h];simp only[Option.toList_some,List.countP_singleton,Option.getD_some,decide_eq_true_eq];split<;>simp
theorem ynw (us:List Int) (k:Nat):0<=cntP us k/\cntP us k<=us.length:=by
 unfold cntP;refine⟨by omega,?_⟩;have h1:=List.countP_le_length (p:=fun v:Int=>decide (0<v)) (l:=us.take k);have h2:(us.take k).length<=us.length:=by rw[List.length_take];omega
 omega
end Go.Ab
namespace Go.Proofs
open Go.Shelf
def Tryz.lays137_ren:Go.Shelf.Ren:=⟨fun|137=>95|217=>122|266=>133|n=>n,fun|9=>9|5=>5|3=>3|n=>n,fun|n=>n⟩
theorem Tryz.lays137 : Go.Proofs.Lays.n137 Tryz.prog Tryz.lays137_ren := {
 mixed:=by kernel_rfl
 f137:=Tryz.func95.trans (congrArg some (by kernel_rfl))
 f217:=Tryz.func122.trans (congrArg some (by kernel_rfl))
 f266:=Tryz.func133.trans (congrArg some (by kernel_rfl))
 t3:=Tryz.underlying3
 a3:=Tryz.isAgg3
 z3:=Tryz.sizeOf3
 v3:=Tryz.zeroValue3
 t5:=Tryz.underlying5
 a5:=Tryz.isAgg5
 z5:=Tryz.sizeOf5
 v5:=Tryz.zeroValue5
 t9:=Tryz.underlying9
 a9:=Tryz.isAgg9
 z9:=Tryz.sizeOf9
 v9:=Tryz.zeroValue9 }
def Tryz.lays144_ren:Go.Shelf.Ren:=⟨fun|144=>72|143=>103|219=>123|217=>122|225=>134|224=>135|267=>136|266=>133|314=>141|n=>n,fun|9=>9|4=>4|3=>3|5=>5|46=>84|146=>151|51=>104|n=>n,fun|1=>0|n=>n⟩
theorem Tryz.lays144 : Go.Proofs.Lays.n144 Tryz.prog Tryz.lays144_ren := {
 mixed:=by kernel_rfl
 f143:=Tryz.func103.trans (congrArg some (by kernel_rfl))
 f144:=Tryz.func72.trans (congrArg some (by kernel_rfl))
 f217:=Tryz.func122.trans (congrArg some (by kernel_rfl))
 f219:=Tryz.func123.trans (congrArg some (by kernel_rfl))
 f224:=Tryz.func135.trans (congrArg some (by kernel_rfl))
 f225:=Tryz.func134.trans (congrArg some (by kernel_rfl))
 f266:=Tryz.func133.trans (congrArg some (by kernel_rfl))
 f267:=Tryz.func136.trans (congrArg some (by kernel_rfl))
 f314:=Tryz.func141.trans (congrArg some (by kernel_rfl))
 t3:=Tryz.underlying3
 a3:=Tryz.isAgg3
 z3:=Tryz.sizeOf3
 v3:=Tryz.zeroValue3
 t4:=Tryz.underlying4
 a4:=Tryz.isAgg4
 z4:=Tryz.sizeOf4
 v4:=Tryz.zeroValue4
 t5:=Tryz.underlying5
 a5:=Tryz.isAgg5
 z5:=Tryz.sizeOf5
 v5:=Tryz.zeroValue5
 t9:=Tryz.underlying9
 a9:=Tryz.isAgg9
 z9:=Tryz.sizeOf9
 v9:=Tryz.zeroValue9
 t46:=Tryz.underlying84
 a46:=Tryz.isAgg84
 z46:=Tryz.sizeOf84
 v46:=Tryz.zeroValue84
 t51:=Tryz.underlying104
 a51:=Tryz.isAgg104
 z51:=Tryz.sizeOf104
 v51:=Tryz.zeroValue104
 t146:=Tryz.underlying151
 a146:=Tryz.isAgg151
 z146:=Tryz.sizeOf151
 v146:=Tryz.zeroValue151
 g1:=by kernel_rfl }
def Tryz.laysSlN43_f49_ren:Go.Shelf.Ren:=⟨fun|43=>49|n=>n,fun|22=>26|23=>2|3=>3|4=>4|0=>0|n=>n,fun|n=>n⟩
theorem Tryz.laysSlN43_f49 : Go.Proofs.SlLaysN.n43 Tryz.prog Tryz.laysSlN43_f49_ren := {
 mixed:=by kernel_rfl
 f43:=⟨Tryz.f49.name,by decide,Tryz.func49.trans (congrArg some (by kernel_rfl))⟩
 t0:=Tryz.underlying0
 a0:=Tryz.isAgg0
 z0:=Tryz.sizeOf0
 v0:=Tryz.zeroValue0
 t3:=Tryz.underlying3
 a3:=Tryz.isAgg3
 z3:=Tryz.sizeOf3
 v3:=Tryz.zeroValue3
 t4:=Tryz.underlying4
 a4:=Tryz.isAgg4
 z4:=Tryz.sizeOf4
 v4:=Tryz.zeroValue4
 t22:=Tryz.underlying26
 a22:=Tryz.isAgg26
 z22:=Tryz.sizeOf26
 v22:=Tryz.zeroValue26
 t23:=Tryz.underlying2
 a23:=Tryz.isAgg2
 z23:=Tryz.sizeOf2
 v23:=Tryz.zeroValue2
 i23:=by kernel_rfl }
open Go.RowKit Go.Lib Go.Sort in
theorem Tryz.slices_Compact_int (blk off cap:Nat) (zs:List Int) (w:World) (hH:Holds (Value.int .i64) w blk off zs.toArray) (hsz:zs.length<=9223372036854775807) (hcap:zs.length<=cap) :
  Calls Tryz.prog 49 #[.slice (some ⟨blk,off,none⟩) zs.length cap] w fun e w'=>e=.returned (.slice (some ⟨blk,off,none⟩) (Lib.compact zs).length cap)/\∃ q,w'=putRow (Value.int .i64) (Sort.ahead w q) blk off (Lib.compact zs++List.replicate (zs.length-(Lib.compact zs).length) 0).toArray:=AnyG.slices_Compact_int Tryz.laysSlN43_f49 blk off cap zs w hH hsz hcap
open Go.RowKit Go.Lib Go.Sort in
theorem Tryz.slices_Compact_int_empty (a:Option Addr) (cap:Nat) (w:World) :
  Calls Tryz.prog 49 #[.slice a 0 cap] w fun e w'=>e=.returned (.slice a 0 cap)/\w'=w:=AnyG.slices_Compact_int_empty Tryz.laysSlN43_f49 a cap w
def Tryz.laysSlM5_f48_ren:Go.Shelf.Ren:=⟨fun|5=>48|8=>59|7=>58|19=>84|20=>85|10=>75|11=>76|12=>77|13=>78|14=>79|15=>80|16=>81|17=>82|18=>83|30=>110|31=>111|32=>112|33=>113|34=>114|35=>94|40=>129|n=>n,fun|23=>26|25=>2|3=>3|32=>84|22=>26|0=>0|44=>104|46=>106|4=>4|36=>96|35=>95|41=>101|5=>5|9=>9|53=>127|57=>131|63=>144|64=>145|n=>n,fun|n=>n⟩
theorem Tryz.laysSlM5_f48 : Go.Proofs.SlLaysM.n5 Tryz.prog Tryz.laysSlM5_f48_ren := {
 mixed:=by kernel_rfl
 f5:=⟨Tryz.f48.name,by decide,Tryz.func48.trans (congrArg some (by kernel_rfl))⟩
 f7:=⟨Tryz.f58.name,by decide,Tryz.func58.trans (congrArg some (by kernel_rfl))⟩
 f8:=Tryz.func59.trans (congrArg some (by kernel_rfl))
 f10:=⟨Tryz.f75.name,by decide,Tryz.func75.trans (congrArg some (by kernel_rfl))⟩
 f11:=⟨Tryz.f76.name,by decide,Tryz.func76.trans (congrArg some (by kernel_rfl))⟩
 f12:=⟨Tryz.f77.name,by decide,Tryz.func77.trans (congrArg some (by kernel_rfl))⟩
 f13:=⟨Tryz.f78.name,by decide,Tryz.func78.trans (congrArg some (by kernel_rfl))⟩
 f14:=⟨Tryz.f79.name,by decide,Tryz.func79.trans (congrArg some (by kernel_rfl))⟩
 f15:=⟨Tryz.f80.name,by decide,Tryz.func80.trans (congrArg some (by kernel_rfl))⟩
 f16:=⟨Tryz.f81.name,by decide,Tryz.func81.trans (congrArg some (by kernel_rfl))⟩
 f17:=⟨Tryz.f82.name,by decide,Tryz.func82.trans (congrArg some (by kernel_rfl))⟩
 f18:=⟨Tryz.f83.name,by decide,Tryz.func83.trans (congrArg some (by kernel_rfl))⟩
 f19:=Tryz.func84.trans (congrArg some (by kernel_rfl))
 f20:=Tryz.func85.trans (congrArg some (by kernel_rfl))
 f30:=⟨Tryz.f110.name,by decide,Tryz.func110.trans (congrArg some (by kernel_rfl))⟩
 f31:=Tryz.func111.trans (congrArg some (by kernel_rfl))
 f32:=Tryz.func112.trans (congrArg some (by kernel_rfl))
 f33:=⟨Tryz.f113.name,by decide,Tryz.func113.trans (congrArg some (by kernel_rfl))⟩
 f34:=⟨Tryz.f114.name,by decide,Tryz.func114.trans (congrArg some (by kernel_rfl))⟩
 f35:=⟨Tryz.f94.name,by decide,Tryz.func94.trans (congrArg some (by kernel_rfl))⟩
 f40:=⟨Tryz.f129.name,by decide,Tryz.func129.trans (congrArg some (by kernel_rfl))⟩
 t0:=Tryz.underlying0
 a0:=Tryz.isAgg0
 z0:=Tryz.sizeOf0
 v0:=Tryz.zeroValue0
 t3:=Tryz.underlying3
 a3:=Tryz.isAgg3
 z3:=Tryz.sizeOf3
 v3:=Tryz.zeroValue3
 t4:=Tryz.underlying4
 a4:=Tryz.isAgg4
 z4:=Tryz.sizeOf4
 v4:=Tryz.zeroValue4
 t5:=Tryz.underlying5
 a5:=Tryz.isAgg5
 z5:=Tryz.sizeOf5
 v5:=Tryz.zeroValue5
 t9:=Tryz.underlying9
 a9:=Tryz.isAgg9
 z9:=Tryz.sizeOf9
 v9:=Tryz.zeroValue9
 t22:=Tryz.underlying26
 a22:=Tryz.isAgg26
 z22:=Tryz.sizeOf26
 v22:=Tryz.zeroValue26
 t23:=Tryz.underlying26
 a23:=Tryz.isAgg26
 z23:=Tryz.sizeOf26
 v23:=Tryz.zeroValue26
 t25:=Tryz.underlying2
 a25:=Tryz.isAgg2
 z25:=Tryz.sizeOf2
 v25:=Tryz.zeroValue2
 t32:=Tryz.underlying84
 a32:=Tryz.isAgg84
 z32:=Tryz.sizeOf84
 v32:=Tryz.zeroValue84
 t35:=Tryz.underlying95
 a35:=Tryz.isAgg95
 z35:=Tryz.sizeOf95
 v35:=Tryz.zeroValue95
 t36:=Tryz.underlying96
 a36:=Tryz.isAgg96
 z36:=Tryz.sizeOf96
 v36:=Tryz.zeroValue96
 t41:=Tryz.underlying101
 a41:=Tryz.isAgg101
 z41:=Tryz.sizeOf101
 v41:=Tryz.zeroValue101
 t44:=Tryz.underlying104
 a44:=Tryz.isAgg104
 z44:=Tryz.sizeOf104
 v44:=Tryz.zeroValue104
 t46:=Tryz.underlying106
 a46:=Tryz.isAgg106
 z46:=Tryz.sizeOf106
 v46:=Tryz.zeroValue106
 t53:=Tryz.underlying127
 a53:=Tryz.isAgg127
 z53:=Tryz.sizeOf127
 v53:=Tryz.zeroValue127
 t57:=Tryz.underlying131
 a57:=Tryz.isAgg131
 z57:=Tryz.sizeOf131
 v57:=Tryz.zeroValue131
 t63:=Tryz.underlying144
 a63:=Tryz.isAgg144
 z63:=Tryz.sizeOf144
 v63:=Tryz.zeroValue144
 t64:=Tryz.underlying145
 a64:=Tryz.isAgg145
 z64:=Tryz.sizeOf145
 v64:=Tryz.zeroValue145 }
open Go.Sort Go.RowKit in
theorem Tryz.slices_Sort_int (blk off cap:Nat) (zs:List Int) (w:World) (hH:Holds (Value.int .i64) w blk off zs.toArray) (hblk:blk<w.heap.size) (hsz:zs.length<4611686018427387904) :
  Calls Tryz.prog 48 #[.slice (some ⟨blk,off,none⟩) zs.length cap] w fun e w'=>
   e=.returned (.tuple #[])/\∃ n os,w'=grow (putRow (Value.int .i64) (Sort.ahead w n) blk off (zs.mergeSort fun x y=>decide (x<=y)).toArray) os:=AnyM.slices_Sort_int Tryz.laysSlM5_f48 blk off cap zs w hH hblk hsz
open Go.RowKit Go.Sort in
theorem Tryz.slices_Sort_int_none (p:Option Addr) (cap:Nat) (w:World) :
  Calls Tryz.prog 48 #[.slice p 0 cap] w fun e w'=>e=.returned (.tuple #[])/\w'=w:=AnyM.slices_Sort_int_none Tryz.laysSlM5_f48 p cap w
end Go.Proofs
namespace Go.Ab
open Go Go.Proofs Go.Sort Go.Lib Go.RowKit
theorem putW {w:World} {b:Nat} {cur:Array Value} {T:TypeId} (hb:w.heap[b]? = some (.cells cur T (0,0))) (n:Nat) (S:List Int) (os:Array Obj) (hS:S.length<=cur.size) :
  Keep w [b] (grow (putRow (Value.int .i64) (Sort.ahead w n) b 0 S.toArray) os)/\(∃ cur',(grow (putRow (Value.int .i64) (Sort.ahead w n) b 0 S.toArray) os).heap[b]? = some (.cells cur' T (0,0))/\cur'.size=cur.size) /\
  (∀ j,j<S.length->(grow (putRow (Value.int .i64) (Sort.ahead w n) b 0 S.toArray) os).cell? ⟨b,j,none⟩=some (.int .i64 (S.getD j default))):=by
 have hlt:b<w.heap.size:=(Array.getElem?_eq_some_iff.1 hb).1
 have hh:∀ k,k<w.heap.size->(grow (putRow (Value.int .i64) (Sort.ahead w n) b 0 S.toArray) os).heap[k]? = (putRow (Value.int .i64) w b 0 S.toArray).heap[k]? := fun k hk=>by
  show((putRow (Value.int .i64) (Sort.ahead w n) b 0 S.toArray).heap++os)[k]? = _;rw[Array.getElem?_append_left (by rw[size_putRow];exact hk)];rfl
 have hb2:(putRow (Value.int .i64) w b 0 S.toArray).heap[b]? = some (.cells (putCells (Value.int .i64) 0 S.toArray cur) T (0,0)):=by
  unfold putRow mapBlock;simp only[Array.getElem?_modify,if_true,hb,Option.map_some,onCells]
 refine⟨⟨rfl,rfl,rfl,?_,fun k hk hkb => ?_⟩,⟨_,(hh b hlt).trans hb2,by simp[putCells]⟩,fun j hj => ?_⟩
 ·show w.heap.size<=((putRow (Value.int .i64) (Sort.ahead w n) b 0 S.toArray).heap++os).size
  rw[Array.size_append,size_putRow];exact Nat.le_add_right _ _
 ·rw[hh k hk]
  unfold putRow mapBlock;simp only[Array.getElem?_modify];rw[if_neg (fun e=>hkb (by rw[e];simp))]
 ·have h1:(grow (putRow (Value.int .i64) (Sort.ahead w n) b 0 S.toArray) os).heap[b]? = some (.cells (putCells (Value.int .i64) 0 S.toArray cur) T (0,0)):=(hh b hlt).trans hb2
  unfold World.cell?;rw[h1];simp only[Option.isSome_none,Bool.false_eq_true,if_false];unfold putCells;rw[Array.getElem?_mapIdx,Array.getElem?_eq_getElem (by omega:j<cur.size)];simp only[Option.map_some,Nat.zero_le,List.size_toArray,Nat.zero_add,hj,and_self,if_true,Nat.sub_zero];rw[getElem!_pos S.toArray j (by simpa using hj),List.getElem_toArray,List.getD_eq_getElem?_getD,List.getElem?_eq_getElem hj,Option.getD_some]
theorem yks {w:World} {b:Nat} {cur:Array Value} {T:TypeId} (hb:w.heap[b]? = some (.cells cur T (0,0))) {l:List Int} (h:∀ j,j<l.length->w.cell? ⟨b,j,none⟩=some (.int .i64 (l.getD j default))):Holds (Value.int .i64) w b 0 l.toArray:=fun j hj=>by
 have hj2:j<l.length:=by simpa using hj
 refine⟨?_,?_⟩
 ·rw[Nat.zero_add,h j hj2,getElem!_pos l.toArray j hj,List.getElem_toArray,List.getD_eq_getElem?_getD,List.getElem?_eq_getElem hj2,Option.getD_some]
 ·unfold World.frozen?
  simp only[hb];simp
theorem ynr {w:World} {M:Nat->Prop} {l:List Int} {v:Value} {fp:List Nat} (h:Rep w M (ownL 2 1 yi l) noMap v fp) :
  (l=[]/\v=.slice none 0 0/\fp=[])\/∃ b cap cur,v=.slice (some ⟨b,0,none⟩) l.length cap/\fp=[b]/\b<w.heap.size/\w.heap[b]? = some (.cells cur 2 (0,0))/\cur.size=cap/\cap<=maxLen/\l.length<=cap/\∀ j,j<l.length->w.cell? ⟨b,j,none⟩=some (.int .i64 (l.getD j default)):=by
 unfold ownL at h;simp only[Rep]at h;rcases h with⟨h0,h1,h2⟩|⟨b,o,cap,us,fps,rfl,hn,hb,hc,rfl,rfl,cur,hcur,hsz,hcm⟩
 ·exact .inl ⟨List.length_eq_zero_iff.1 h0,h1,h2⟩
 ·right
  have hc2:∀ j,j<l.length->fps j=[]/\us j=[.int .i64 (l.getD j default)]/\ygc w b (0+j * 1) (us j):=fun j hj=>by
   obtain⟨c1,c2,c3⟩:=hc j hj;simp only[yi,RepL,Rep]at c1;obtain⟨u,us',f1,f2,e1,e2,⟨rfl,rfl⟩,rfl,rfl⟩:=c1;exact⟨e2,e1,c3⟩
  refine⟨b,cap,cur,rfl,?_,hb,hcur,by omega,hcm,hn.1,fun j hj => ?_⟩
  ·have:(List.range l.length).flatMap fps=[]:=by
    rw[List.flatMap_eq_nil_iff];intro j hj;exact(hc2 j (List.mem_range.1 hj)).1
   rw[this]
  ·obtain⟨_,e1,e2⟩:=hc2 j hj
   have:=(e2 0 (.int .i64 (l.getD j default)) (by rw[e1];rfl)).1;simpa using this
theorem ycj {w:World} {M:Nat->Prop} {l:List Int} {b cap:Nat} {cur:Array Value} (hb:w.heap[b]? = some (.cells cur 2 (0,0))) (hs:cur.size=cap) (hcm:cap<=maxLen) (hl:l.length<=cap) (hc:∀ j,j<l.length->w.cell? ⟨b,j,none⟩=some (.int .i64 (l.getD j default))) :
  Rep w M (ownL 2 1 yi l) noMap (.slice (some ⟨b,0,none⟩) l.length cap) [b]:=by
 unfold ownL;simp only[Rep];right
 refine⟨b,0,cap,fun j=>[.int .i64 (l.getD j default)],fun _=>[],rfl,⟨hl,by omega⟩,(Array.getElem?_eq_some_iff.1 hb).1,fun j hj=>⟨?_,rfl,fun k u hk => ?_⟩,rfl,?_,cur,hb,by omega,hcm⟩
 ·simp only[yi,RepL,Rep]
  exact⟨_,[],[],[],rfl,rfl,⟨rfl,rfl⟩,rfl,rfl⟩
 ·cases k with
  | zero=>
   simp only[List.getElem?_cons_zero,Option.some.injEq]at hk;subst hk;exact⟨by simpa using hc j hj,rfl⟩
  | succ k=>simp at hk
 ·have:(List.range l.length).flatMap (fun _=>([]:List Nat))=[]:=by simp
  rw[this]
theorem yyd (l:List Int):(yof l).length=l.length:=by unfold yof;exact List.length_mergeSort ..
theorem ykx (l:List Int) (hl:l.length<=1048576):DenM Tryz.prog 48 [ownL 2 1 yi l] (.tup []) [ownL 2 1 yi (yof l)]:=by
 refine⟨⟨_,Tryz.func48,rfl,rfl⟩,?_⟩;intro w M vs fpA i1 i2 hr hnd hM hlt;simp only[RepL]at hr;obtain⟨v,_,fp0,_,rfl,rfl,hv,rfl,rfl⟩:=hr;rcases ynr hv with⟨rfl,rfl,rfl⟩|⟨b,cap,cur,rfl,rfl,hb,hcur,hsz,hcm,hlc,hc⟩
 ·refine(Tryz.slices_Sort_int_none none 0 w).mono ?_
  rintro e w' ⟨rfl,rfl⟩
  refine⟨.tuple #[],[],[],rfl,⟨rfl,rfl,rfl,Nat.le_refl _,fun _ _ _=>rfl⟩,?_,?_,by simp,by simp,?_⟩
  ·simp[Rep,RepL]
  ·simp only[RepL]
   refine⟨_,[],[],[],rfl,rfl,?_,rfl,rfl⟩;unfold ownL;simp only[Rep];exact .inl ⟨by simp[yof],rfl,trivial⟩
  ·intro x hx
   simp[tops,yx,ownL,yyb]at hx
 ·refine(Tryz.slices_Sort_int b 0 cap l w (yks hcur hc) hb (by omega)).mono ?_
  rintro e w' ⟨rfl,n,os,rfl⟩
  rw[show(l.mergeSort fun x y=>decide (x<=y))=yof l from rfl];obtain⟨hK,⟨cur',hcur',hsz'⟩,hcl⟩:=putW hcur n (yof l) os (by rw[yyd];omega);have hbl:=Nat.lt_of_lt_of_le hb hK.size;refine⟨.tuple #[],[],[b],rfl,?_,?_,?_,by simp,?_,?_⟩
  ·simpa [yx,tops,ownL,yyb]using hK
  ·simp[Rep,RepL]
  ·simp only[RepL]
   refine⟨_,[],[b],[],rfl,rfl,?_,rfl,rfl⟩;have h9:=ycj (M:=fun b_1=>M b_1\/b_1∈[]++[b]) (l:=yof l) hcur' (hsz'.trans hsz) hcm (by rw[yyd];exact hlc) hcl;rw[yyd]at h9;exact h9
  ·intro x hx
   simp only[List.nil_append,List.mem_singleton]at hx;subst hx;exact⟨.inl (by simp),hbl⟩
  ·intro x hx
   left
   simpa [yx,tops,ownL,yyb]using hx
theorem ynl (l:List Int):(Lib.compact l).length<=l.length:=by
 unfold Lib.compact Lib.compactUpTo;rw[List.length_map];exact Nat.le_trans (List.length_filter_le _ _) (by rw[List.length_range];exact Nat.le_refl _)
theorem y8p (l:List Int) (hl:l.length<=1048576):DenM Tryz.prog 49 [ownL 2 1 yi l] (ownL 2 1 yi (Lib.compact l)) [.any]:=by
 refine⟨⟨_,Tryz.func49,rfl,rfl⟩,?_⟩;intro w M vs fpA i1 i2 hr hnd hM hlt;simp only[RepL]at hr;obtain⟨v,_,fp0,_,rfl,rfl,hv,rfl,rfl⟩:=hr;rcases ynr hv with⟨rfl,rfl,rfl⟩|⟨b,cap,cur,rfl,rfl,hb,hcur,hsz,hcm,hlc,hc⟩
 ·refine(Tryz.slices_Compact_int_empty none 0 w).mono ?_
  rintro e w' ⟨rfl,rfl⟩
  refine⟨.slice none 0 0,[],[],rfl,⟨rfl,rfl,rfl,Nat.le_refl _,fun _ _ _=>rfl⟩,?_,?_,by simp,by simp,?_⟩
  ·unfold ownL
   simp only[Rep];exact .inl ⟨rfl,rfl,trivial⟩
  ·simp only[RepL]
   exact⟨_,[],[],[],rfl,rfl,by simp only[Rep],rfl,rfl⟩
  ·intro x hx
   simp[tops,yx,ownL,yyb]at hx
 ·have hle:(Lib.compact l).length<=l.length:=ynl l
  refine(Tryz.slices_Compact_int b 0 cap l w (yks hcur hc) (by omega) hlc).mono ?_;rintro e w' ⟨rfl,q,rfl⟩
  obtain⟨hK,⟨cur',hcur',hsz'⟩,hcl⟩:=putW hcur q (Lib.compact l++List.replicate (l.length-(Lib.compact l).length) 0) #[] (by rw[List.length_append,List.length_replicate];omega);rw[grow_empty]at hK hcur' hcl;have hbl:=Nat.lt_of_lt_of_le hb hK.size;refine⟨_,[b],[],rfl,?_,?_,?_,by simp,?_,?_⟩
  ·simpa [yx,tops,ownL,yyb]using hK
  ·refine ycj (l:=Lib.compact l) hcur' (hsz'.trans hsz) hcm (by omega) (fun j hj => ?_)
   rw[hcl j (by rw[List.length_append];omega),List.getD_eq_getElem?_getD,List.getD_eq_getElem?_getD,List.getElem?_append_left hj]
  ·simp only[RepL]
   exact⟨_,[],[],[],rfl,rfl,by simp only[Rep],rfl,rfl⟩
  ·intro x hx
   simp only[List.append_nil,List.mem_singleton]at hx;subst hx;exact⟨.inl (by simp),hbl⟩
  ·intro x hx
   left
   simpa [yx,tops,ownL,yyb]using hx
def D_slices_Sort_int64 : List AV -> Option (AV × List AV × List Prop)
 | [x0]=>some (.tup [],[ownL 2 1 yi (yof (rdL ydb x0))],[wO 2 1 yi ydb x0,(rdL ydb x0).length<=1048576])
 | _=>none
theorem yne:OkM Tryz.prog 48 D_slices_Sort_int64:=by unfold D_slices_Sort_int64;exact dm ykx
def D_slices_Compact_int64 : List AV -> Option (AV × List AV × List Prop)
 | [x0]=>some (ownL 2 1 yi (Lib.compact (rdL ydb x0)),[.any],[wO 2 1 yi ydb x0,(rdL ydb x0).length<=1048576])
 | _=>none
theorem ygd:OkM Tryz.prog 49 D_slices_Compact_int64:=by unfold D_slices_Compact_int64;exact dm y8p
end Go.Ab
namespace Go.Ab
open Go Go.Proofs
def yyo (a0:(List Int)) (a1:Int) (i1:Nat) (s1:Unit):Except (Int) (Unit):=
 (bif (a1 == (a0.getD i1 default))then .error (i1:Int)else .ok ())
def zzc (a0:(List Int)) (a1:Int):Int:=
 (match ye (yyo a0 a1) (a0.length-0) 0 ()with|.error e=>e|.ok s1=>(-1))
namespace N57
theorem DD:DOk Tryz.prog (Go.Ab.DD []):=yj _
theorem den (a0:(List Int)) (a1:Int)  : Den Tryz.prog 57 [encL 1 yi a0,.int .i64 a1] (.int .i64 (zzc a0 a1)):=by
 generalize hR:zzc a0 a1=r;unfold zzc at hR;refine di Tryz.func57 Tryz.ntmps57 Tryz.results57 ?_;intro c hL hc hk;obtain⟨hL0,hL1,_⟩:=hL;have hw0:a0.length<9223372036854775808:=Nat.lt_succ_of_le (yc hL0).1;clear hL0 hL1;simp only[pars,Nat.zero_add];iterate 2 refine rS ?_
 refine AWP.block ?_;generalize hz1:ye (yyo a0 a1) (a0.length-0) 0 ()=z1 at hR;refine AWP.range (yyo a0 a1) (fun i1 s1=>⟨[(0,encL 1 yi a0),(1,.int .i64 a1),(7,.int .i64 (a0.length:Int)),(8,.int .i64 (i1:Int))],[]⟩) (fun i1 s1=>True) (a0.length) 0 () [] hz1 ot wt sm ?_;clear hz1;intro i1 s1 hi1 hW1 hz1;refine rS ?_;refine AWP.seq ?_;refine AWP.cond rfl (fun hb => ?_) (fun hb => ?_)
 ·have hlt1:i1<a0.length:=ot
  rw[yg hlt1]at hz1;simp only[yyo]at hz1;iterate 2 refine rS ?_
  refine AWP.cond rfl (fun hb => ?_) (fun hb => ?_)
  ·simp only[hb,cond_true]at hz1
   refine rS ?_;refine AWP.ret ?_;subst hz1;dsimp only at hR;subst hR;exact es
  ·simp only[hb,cond_false]at hz1
   refine rS ?_;exact⟨_,[],hlt1,wt,hz1,sm⟩
 ·obtain rfl:i1=a0.length:=ot
  rw[yh (Nat.le_refl _)]at hz1;subst hz1;dsimp only at hR;refine AWP.exit ?_;refine yb ?_;refine rS ?_;refine AWP.ret ?_;subst hR;exact es
end N57
def D_zzc : DF
 | [x0,x1]=>some (.int .i64 (zzc (rdL ydb x0) (rdI x1)),false,[wL 1 yi ydb x0,wI .i64 x1])
 | _=>none
theorem y7x:OkD Tryz.prog 57 D_zzc:=by unfold D_zzc;exact dk N57.den
def zrc (a0:(List Int)) (a1:Int):Bool:=
 decide (0<=(zzc a0 a1))
namespace N46
theorem DD:DOk Tryz.prog (Go.Ab.DD [(57,dP D_zzc)]):=yd y7x.e <| yj _
theorem dn:type_of% (@D_zzc.eq_1):=by and_intros<;>intros<;>rfl
theorem den (a0:(List Int)) (a1:Int)  : Den Tryz.prog 46 [encL 1 yi a0,.int .i64 a1] (.bool (zrc a0 a1)):=by
 generalize hR:zrc a0 a1=r;unfold zrc at hR;refine di Tryz.func46 Tryz.ntmps46 Tryz.results46 ?_;intro c hL hc hk;obtain⟨hL0,hL1,_⟩:=hL;have hw0:a0.length<9223372036854775808:=Nat.lt_succ_of_le (yc hL0).1;clear hL0 hL1;simp only[pars,Nat.zero_add];iterate 2 refine rS ?_
 refine AWP.ret ?_;subst hR;exact es
end N46
def D_zrc : DF
 | [x0,x1]=>some (.bool (zrc (rdL ydb x0) (rdI x1)),false,[wL 1 yi ydb x0,wI .i64 x1])
 | _=>none
theorem yvy:OkD Tryz.prog 46 D_zrc:=by unfold D_zrc;exact dk N46.den
theorem yoi (ch:List Int) (x:Int):zrc ch x=decide (x∈ch):=by
 unfold zrc zzc;rcases yu (b:=yyo ch x) (fun i=>x == ch.getD i default) (fun i=>(i:Int)) (k:=ch.length-0) (i:=0) (s:=()) (fun j u _ _=>rfl)with⟨j,_,h2,h3,_,h5⟩|⟨h1,h2⟩
 ·rw[h5]
  have hj:j<ch.length:=by omega
  have hm:x∈ch:=by
   rw[eq_of_beq h3,List.getD_eq_getElem?_getD,List.getElem?_eq_getElem hj,Option.getD_some];exact List.getElem_mem _
  rw[decide_eq_true hm];simp
 ·rw[h2]
  have hm:¬ x∈ch:=fun h=>by
   obtain⟨i,hi,rfl⟩:=List.getElem_of_mem h;have h3:=h1 i (by omega) (by omega);rw[List.getD_eq_getElem?_getD,List.getElem?_eq_getElem hi,Option.getD_some]at h3;simp at h3
  rw[decide_eq_false hm];rfl
theorem y1k (p : Nat -> Bool) (x : Nat) : ∀ m : Nat, x < m -> p x = false -> (List.range m).countP (fun c => p c || c == x) = (List.range m).countP p + 1
 | 0,h,_=>by omega
 | m+1,h,hp=>by
  rw[List.range_succ,List.countP_append,List.countP_append,List.countP_singleton,List.countP_singleton];by_cases hx:x=m
  ·subst hx
   have e:(List.range x).countP (fun c=>p c || c == x)=(List.range x).countP p:=by
    refine List.countP_congr fun c hc => ?_
    have:=List.mem_range.1 hc;have hne:(c == x)=false:=by rw[beq_eq_false_iff_ne];omega
    rw[hne,Bool.or_false]
   rw[e,hp];simp
  ·have ih:=y1k p x m (by omega) hp
   rw[ih];have hne:(m == x)=false:=by rw[beq_eq_false_iff_ne];omega
   rw[hne,Bool.or_false];omega
def memN (l:List Int) (c:Nat):Bool:=decide ((c:Int)∈l)
def numP (m:Nat) (l:List Int):Nat:=(List.range m).countP (memN l)
theorem ynk {m:Nat} {l:List Int} {x:Int} (h0:0<=x) (h1:x<m):numP m (l++[x])=numP m l+(if x∈l then 0 else 1):=by
 unfold numP;by_cases hx:x∈l
 ·rw[if_pos hx,Nat.add_zero]
  refine List.countP_congr fun c hc => ?_
  unfold memN;simp only[decide_eq_true_eq,List.mem_append,List.mem_singleton];exact⟨fun h=>h.elim id fun e=>by rw[e];exact hx,.inl⟩
 ·rw[if_neg hx, <- y1k (memN l) x.toNat m (by omega) (by unfold memN;rw[show((x.toNat:Nat):Int)=x by omega];exact decide_eq_false hx)]
  refine List.countP_congr fun c hc => ?_
  unfold memN;simp only[decide_eq_true_eq,List.mem_append,List.mem_singleton,Bool.or_eq_true,beq_iff_eq];constructor
  ·rintro(h|h)
   ·exact .inl h
   ·exact .inr (by omega)
  ·rintro(h|h)
   ·exact .inl h
   ·exact .inr (by omega)
theorem y7u {l:List Int} (hs:l.Pairwise (· <= ·)) {k:Nat} (hk:k<l.length):Lib.keeps l.toArray k = !decide (l[k]∈l.take k):=by
 have hkA:k<l.toArray.size:=by simpa using hk
 have e1:l.toArray[k]! = l[k]:=by rw[getElem!_pos l.toArray k hkA,List.getElem_toArray]
 rcases Nat.eq_zero_or_pos k with rfl|hp
 ·rw[Lib.keeps_lt_one _ 0 (by omega)]
  simp
 ·have e2:l.toArray[k-1]! = l[k-1]:=by rw[getElem!_pos l.toArray (k-1) (by omega),List.getElem_toArray]
  by_cases he:l[k]=l[k-1]
  ·rw[Lib.keeps_neg hp (by rw[e1,e2,he])]
   have h9:l[k]∈l.take k:=by rw[List.mem_take_iff_getElem];exact⟨k-1,by omega,he.symm⟩
   rw[decide_eq_true h9];rfl
  ·rw[Lib.keeps_pos (by rw[e1,e2];exact he)]
   rw[decide_eq_false (fun h => ?_)]
   ·rfl
   rw[List.mem_take_iff_getElem]at h;obtain⟨j,hj,hje⟩:=h;have hsl:=List.pairwise_iff_getElem.1 hs
   have a1:l[j]<=l[k-1]:=by
    by_cases hjk:j=k-1
    ·subst hjk;exact Int.le_refl _
    ·exact hsl j (k-1) (by omega) (by omega) (by omega)
   have a2:l[k-1]<=l[k]:=hsl (k-1) k (by omega) hk (by omega);rw[hje]at a1;exact he (by omega)
theorem yaj {m : Nat} {l : List Int} (hs : l.Pairwise (· <= ·)) (hm : ∀ v ∈ l, 0 <= v /\ v < (m : Int)) : ∀ k, k <= l.length -> (Lib.compactUpTo l.toArray k).length = numP m (l.take k)
 | 0,_=>by
  rw[List.take_zero];unfold numP memN Lib.compactUpTo;simp
 | k+1,hk=>by
  have ih:=yaj hs hm k (by omega);rw[Lib.compactUpTo_succ,List.length_append,ih,List.take_add_one,List.getElem?_eq_getElem (by omega:k<l.length),y7u hs (by omega)];have hv:=hm l[k] (List.getElem_mem _);rw[show(some l[k]).toList=[l[k]]from rfl,ynk hv.1 hv.2];by_cases h:l[k]∈l.take k
  ·rw[if_pos h,decide_eq_true h];simp
  ·rw[if_neg h,decide_eq_false h];simp
theorem ygm {m:Nat} {ch:List Int} (hm:∀ v∈ch,0<=v/\v<(m:Int)):ydg ch=(numP m ch:Nat):=by
 have hs:(yof ch).Pairwise (· <= ·):=by
  have h:=List.pairwise_mergeSort (le:=fun x y:Int=>decide (x<=y)) (fun a b c h1 h2=>by simp only[decide_eq_true_eq]at *;omega) (fun a b=>by simp only[Bool.or_eq_true,decide_eq_true_eq];omega) ch;exact List.Pairwise.imp (fun h=>by simpa using h) h
 have hmem:∀ x,x∈yof ch↔x∈ch:=fun x=>by unfold yof;exact List.mem_mergeSort
 unfold ydg Lib.compact;have h:=yaj (m:=m) hs (fun v hv=>hm v ((hmem v).1 hv)) (yof ch).length (Nat.le_refl _);rw[h,List.take_length];congr 1
 unfold numP;refine List.countP_congr fun c _ => ?_
 unfold memN;rw[decide_eq_true_eq,decide_eq_true_eq,hmem]
def y8b (m:Nat) (ch:List Int):List Int:=(List.range m).map fun(c:Nat)=>((ch.count (c:Int):Nat):Int)
theorem y2q (m:Nat) (ch:List Int):(y8b m ch).length=m:=by unfold y8b;rw[List.length_map,List.length_range]
theorem y5v {m c:Nat} (ch:List Int) (hc:c<m):(y8b m ch).getD c default=((ch.count (c:Int):Nat):Int):=by
 unfold y8b;rw[List.getD_eq_getElem?_getD,List.getElem?_map,List.getElem?_range hc];rfl
theorem ypr (m:Nat):y8b m []=List.replicate m 0:=by
 unfold y8b;refine List.ext_getElem (by simp) fun i h1 h2 => ?_
 simp
theorem ypu {m c:Nat} (ch:List Int) (hc:c<m):(y8b m ch).set c ((y8b m ch).getD c default+1)=y8b m (ch++[(c:Int)]):=by
 rw[y5v ch hc];refine List.ext_getElem (by rw[List.length_set,y2q,y2q]) fun i h1 h2 => ?_
 rw[List.getElem_set];unfold y8b;simp only[List.getElem_map,List.getElem_range,List.count_append,List.count_singleton];by_cases hic:c=i
 ·subst hic;simp
 ·rw[if_neg hic]
  have:(((c:Int)) == (i:Int))=false:=by rw[beq_eq_false_iff_ne];omega
  simp[this]
theorem y8u (m:Nat) (ch:List Int):ygv (y8b m ch)=(numP m ch:Nat):=by
 unfold ygv cntP;rw[List.take_length];unfold y8b numP;rw[List.countP_map];congr 1
 refine List.countP_congr fun c _ => ?_
 unfold memN;simp only[Function.comp,decide_eq_true_eq];rw[<- List.count_pos_iff];omega
def iS_b (n:Int) (m:Nat) (bf:List (List Int)) (kl:List Bool) (ms:Int) (rec:List Int->Int->Int×List Int×Int) (ch:List Int) (i1:Nat) (b:Int):Except (Int×List Int×Int) Int:=
 bif ((!(yob bf kl ch (i1:Int))) || ((!(zrc ch (i1:Int))) && decide (ms<=ydg ch)))then .ok b else(bif (b == 0)then .error (5,ch,b)else
  (bif ((rec (ch++[(i1:Int)]) (IntKind.wrap .i64 (b-1))).1 != 3)then .error (rec (ch++[(i1:Int)]) (IntKind.wrap .i64 (b-1)))else .ok (rec (ch++[(i1:Int)]) (IntKind.wrap .i64 (b-1))).2.2))
def iS (n : Int) (m : Nat) (bf : List (List Int)) (kl : List Bool) (ms : Int) : Nat -> List Int -> Int -> Int × List Int × Int
 | 0,ch,b=>(0,ch,b)
 | k+1,ch,b=>match ye (iS_b n m bf kl ms (iS n m bf kl ms k) ch) (m-0) 0 b with|.error e=>e|.ok b'=>(3,ch,b')
theorem y1d {ρ σ : Type} {b : Nat -> σ -> Except ρ σ} (W : σ -> Prop) (V : ρ -> Prop) (hb : ∀ i s, W s -> match b i s with | .ok t => W t | .error e => V e) : ∀ (k i : Nat) (s : σ), W s -> match ye b k i s with | .ok t => W t | .error e => V e
 | 0,i,s,h=>h
 | k+1,i,s,h=>by
  have h1:=hb i s h;simp only[ye]
  cases hbi:b i s with
  | error e=>rw[hbi]at h1;exact h1
  | ok t=>rw[hbi]at h1;exact y1d W V hb k (i+1) t h1
theorem yym (n:Int) (m:Nat) (bf:List (List Int)) (kl:List Bool) (ms:Int):∀ (k:Nat) (ch:List Int) (b:Int),0<=b/\b<=20000 ->
  ((iS n m bf kl ms k ch b).1=3->(iS n m bf kl ms k ch b).2.1=ch)/\0<=(iS n m bf kl ms k ch b).2.2/\(iS n m bf kl ms k ch b).2.2<=b
 | 0,ch,b,hb=>⟨fun _=>rfl,hb.1,Int.le_refl _⟩
 | k+1,ch,b,hb=>by
  have ih:=yym n m bf kl ms k
  have h:=y1d (b:=iS_b n m bf kl ms (iS n m bf kl ms k) ch) (fun t=>0<=t/\t<=b) (fun e=>(e.1=3->e.2.1=ch)/\0<=e.2.2/\e.2.2<=b) (fun i t ht=>by
   unfold iS_b
   cases hc1:((!(yob bf kl ch (i:Int))) || ((!(zrc ch (i:Int))) && decide (ms<=ydg ch)))with
   | true=>exact ht
   | false=>
    cases hc2:(t == 0)with
    | true=>exact⟨fun h=>(by cases h),ht⟩
    | false=>
     have h0:t≠0:=by simpa using hc2
     have hw:IntKind.wrap .i64 (t-1)=t-1:=by rw[IntKind.wrap_i64];omega
     rw[hw];have h1:=ih (ch++[(i:Int)]) (t-1) ⟨by omega,by omega⟩
     cases hc3:((iS n m bf kl ms k (ch++[(i:Int)]) (t-1)).1 != 3)with
     | true=>
      simp only[cond_false,cond_true];have hne:(iS n m bf kl ms k (ch++[(i:Int)]) (t-1)).1≠3:=by simpa using hc3
      exact⟨fun h=>absurd h hne,h1.2.1,by have:=h1.2.2;omega⟩
     | false=>
      simp only[cond_false,cond_true]
      exact⟨h1.2.1,by have:=h1.2.2;omega⟩) (m-0) 0 b ⟨hb.1,Int.le_refl _⟩
  unfold iS
  cases hl:ye (iS_b n m bf kl ms (iS n m bf kl ms k) ch) (m-0) 0 b with
  | error e=>rw[hl]at h;exact h
  | ok t=>rw[hl]at h;exact⟨fun _=>rfl,h⟩
theorem yrz (n : Int) (m : Nat) (bf : List (List Int)) (kl : List Bool) (ms : Int) : ∀ (k : Nat) (ch : List Int) (b : Int), (iS n m bf kl ms k ch b).2.1.length <= ch.length + k
 | 0,ch,b=>Nat.le_refl _
 | k+1,ch,b=>by
  have ih:=yrz n m bf kl ms k
  have h:=y1d (b:=iS_b n m bf kl ms (iS n m bf kl ms k) ch) (fun t=>True) (fun e=>e.2.1.length<=ch.length+(k+1)) (fun i t ht=>by
   unfold iS_b
   cases hc1:((!(yob bf kl ch (i:Int))) || ((!(zrc ch (i:Int))) && decide (ms<=ydg ch)))with
   | true=>exact ht
   | false=>
    cases hc2:(t == 0)with
    | true=>exact Nat.le_add_right _ _
    | false=>
     have h1:=ih (ch++[(i:Int)]) (IntKind.wrap .i64 (t-1));rw[List.length_append,List.length_singleton]at h1
     cases hc3:((iS n m bf kl ms k (ch++[(i:Int)]) (IntKind.wrap .i64 (t-1))).1 != 3)with
     | true=>simp only[cond_false,cond_true];omega
     | false=>simp only[cond_false,cond_true]) (m-0) 0 b trivial
  unfold iS
  cases hl:ye (iS_b n m bf kl ms (iS n m bf kl ms k) ch) (m-0) 0 b with
  | error e=>rw[hl]at h;exact h
  | ok t=>exact Nat.le_add_right _ _
theorem yqr (n : Int) (m : Nat) (bf : List (List Int)) (kl : List Bool) (ms : Int) : ∀ (k : Nat) (ch : List Int) (b : Int), (iS n m bf kl ms k ch b).1 = 0 \/ (iS n m bf kl ms k ch b).1 = 3 \/ (iS n m bf kl ms k ch b).1 = 5
 | 0,ch,b=>.inl rfl
 | k+1,ch,b=>by
  have ih:=yqr n m bf kl ms k
  have h:=y1d (b:=iS_b n m bf kl ms (iS n m bf kl ms k) ch) (fun t=>True) (fun e=>e.1=0\/e.1=3\/e.1=5) (fun i t ht=>by
   unfold iS_b
   cases hc1:((!(yob bf kl ch (i:Int))) || ((!(zrc ch (i:Int))) && decide (ms<=ydg ch)))with
   | true=>exact ht
   | false=>
    cases hc2:(t == 0)with
    | true=>exact .inr (.inr rfl)
    | false=>
     have h1:=ih (ch++[(i:Int)]) (IntKind.wrap .i64 (t-1))
     cases hc3:((iS n m bf kl ms k (ch++[(i:Int)]) (IntKind.wrap .i64 (t-1))).1 != 3)with
     | true=>simp only[cond_false,cond_true];exact h1
     | false=>simp only[cond_false,cond_true]) (m-0) 0 b trivial
  unfold iS
  cases hl:ye (iS_b n m bf kl ms (iS n m bf kl ms k) ch) (m-0) 0 b with
  | error e=>rw[hl]at h;exact h
  | ok t=>exact .inr (.inl rfl)
end Go.Ab
namespace Go.Ab
theorem yz {α:Type} [Inhabited α] {l:List α} {i:Nat} (h:i<l.length):l.getD i default∈l:=by
 rw[List.getD_eq_getElem?_getD,List.getElem?_eq_getElem h];exact List.getElem_mem h
end Go.Ab
namespace Go.Ab
open Go Go.Proofs
theorem y7p (bf:List (List Int)) (kl:List Bool) (ch:List Int) (ix:Int):yob bf kl ch ix=(bf.getD ch.length default).all fun l => !(kl.getD (ix.toNat * 12+(ch.getD l.toNat default).toNat) false):=by
 unfold yob;rcases yu (b:=yud bf kl ch ix) (fun i=>kl.getD (ix.toNat * 12+(ch.getD (((bf.getD ch.length default).getD i default).toNat) default).toNat) false) (fun _=>false) (k:=(bf.getD ch.length default).length-0) (i:=0) (s:=()) (fun j u _ _=>rfl)with⟨j,_,h2,h3,_,h5⟩|⟨h1,h2⟩
 ·rw[h5]
  symm
  rw[Bool.eq_false_iff];intro h;rw[List.all_eq_true]at h;have h4:=h _ (yz (l:=bf.getD ch.length default) (i:=j) (by omega));rw[h3]at h4;cases h4
 ·rw[h2]
  symm
  rw[List.all_eq_true];intro l hl;obtain⟨i,hi,rfl⟩:=List.getElem_of_mem hl;have h4:=h1 i (by omega) (by omega);rw[show(bf.getD ch.length default).getD i default=(bf.getD ch.length default)[i]by rw[List.getD_eq_getElem?_getD,List.getElem?_eq_getElem hi,Option.getD_some]]at h4;rw[h4];rfl
theorem y60 {m c:Nat} {ch:List Int} (hc:c<m) (h:¬ (c:Int)∈ch):numP m ch<m:=by
 unfold numP;have h1:=List.countP_le_length (p:=memN ch) (l:=List.range m);rw[List.length_range]at h1;rcases Nat.lt_or_eq_of_le h1 with h2|h2
 ·exact h2
 ·exfalso
  have h3:=(List.countP_eq_length (p:=memN ch) (l:=List.range m)).1 (by rw[List.length_range];exact h2) c (List.mem_range.2 hc);unfold memN at h3;exact h (of_decide_eq_true h3)
structure Pair (m:Nat) (bf:List (List Int)) (kl:List Bool) (cl:List (List Bool)) (msI ms:Int):Prop where
 row:∀ j,j<bf.length->∀ l∈bf.getD j default,0<=l/\l<(j:Int)
 len:cl.length=m
 eq:∀ i k,i<m->k<m->kl.getD (i * 12+k) false=(cl.getD i default).getD k default
 ms:∀ d:Nat,d<m->((d:Int)<msI↔(d:Int)<ms)
theorem yo0 {m:Nat} {bf:List (List Int)} {kl:List Bool} {cl:List (List Bool)} {msI ms:Int} (hp:Pair m bf kl cl msI ms) {ch:List Int} (hch:∀ v∈ch,0<=v/\v<(m:Int)) (hl:ch.length<bf.length) {c:Nat} (hc:c<m) :
  ((!(yob bf kl ch (c:Int))) || ((!(zrc ch (c:Int))) && decide (msI<=ydg ch))) = !(ytm bf cl ms ch (y8b m ch) c):=by
 have h1:yob bf kl ch (c:Int)=(bf.getD ch.length default).all (rowP cl ch c):=by
  rw[y7p,Bool.eq_iff_iff,List.all_eq_true,List.all_eq_true]
  have hpt:∀ l∈bf.getD ch.length default,(!(kl.getD ((c:Int).toNat * 12+(ch.getD l.toNat default).toNat) false))=rowP cl ch c l:=fun l hl2=>by
   have hv:=hp.row _ hl l hl2;have hcv:=hch _ (yz (l:=ch) (i:=l.toNat) (by omega));unfold rowP;rw[Int.toNat_natCast,hp.eq c _ hc (by omega)]
  exact⟨fun h l hl2=>by rw[<- hpt l hl2];exact h l hl2,fun h l hl2=>by rw[hpt l hl2];exact h l hl2⟩
 unfold ytm;rw[h1,yoi,ygm hch,y8u,y5v ch hc,Bool.not_and];rw[Bool.or_comm];congr 1
 by_cases hm:(c:Int)∈ch
 ·have:=List.count_pos_iff.2 hm
  rw[decide_eq_true hm,decide_eq_true (show(0:Int)<((ch.count (c:Int):Nat):Int)by omega)];rfl
 ·have h0:=List.count_eq_zero.2 hm
  rw[decide_eq_false hm,decide_eq_false (show ¬ (0:Int)<((ch.count (c:Int):Nat):Int)by omega),Bool.false_or,Bool.not_false,Bool.true_and];have h9:=hp.ms _ (y60 hc hm);by_cases h8:((numP m ch:Nat):Int)<ms
  ·rw[decide_eq_true h8,decide_eq_false (by have:=h9.2 h8;omega)];rfl
  ·rw[decide_eq_false h8,decide_eq_true (by have h7:¬ ((numP m ch:Nat):Int)<msI:=(fun h=>h8 (h9.1 h));omega)];rfl
def Rel (bud:Int) (r:Int×List Int×Int) (p:Bool×List Int×List Int×Int×Bool):Prop:=
 (r.1=0/\p.1=true/\r.2.1=p.2.1)\/(r.1=5/\p.1=false/\p.2.2.2.2=true)\/(r.1=3/\p.1=false/\p.2.2.2.2=false/\r.2.2=bud-p.2.2.2.1)
theorem yuu {bf:List (List Int)} {cl:List (List Bool)} {ms bud:Int} {rec:List Int->List Int->Int->Bool×List Int×List Int×Int×Bool} {ch us:List Int} (k i:Nat) (nd:Int) :
  match ye (sR_b bf cl ms bud rec ch us) k i (nd,true)with|.ok t=>t.2=true|.error e=>e.1=false/\e.2.2.2.2=true:=by
 have h:=y5d (b:=sR_b bf cl ms bud rec ch us) (fun t=>t.2=true) (fun e=>e.1=false/\e.2.2.2.2=true) (fun j t ht=>by
  unfold sR_b
  cases hc1:(!(ytm bf cl ms ch us j))with
  | true=>exact ht
  | false=>
   have:((t.1 == bud) || t.2)=true:=by rw[ht,Bool.or_true]
   rw[this]
   exact⟨rfl,rfl⟩) k i (nd,true) rfl
 cases hl:ye (sR_b bf cl ms bud rec ch us) k i (nd,true)with
 | error e=>rw[hl]at h;exact h
 | ok t=>rw[hl]at h;exact h
def RelL (bud : Int) : Except (Int × List Int × Int) Int -> Except (Bool × List Int × List Int × Int × Bool) (Int × Bool) -> Prop
 | .error e,.error e'=>Rel bud e e'
 | .error e,.ok s=>e.1=5/\s.2=true
 | .ok b,.ok s=>s.2=false/\b=bud-s.1
 | .ok _,.error _=>False
theorem ymj {n:Int} {m:Nat} {bf:List (List Int)} {kl:List Bool} {cl:List (List Bool)} {msI ms bud:Int} (hp:Pair m bf kl cl msI ms) (hbud:bud<=20000):∀ (k:Nat) (ch:List Int) (nd:Int),ch.length+k=bf.length->(∀ v∈ch,0<=v/\v<(m:Int))->0<=nd/\nd<=bud ->
  Rel bud (iS n m bf kl msI k ch (bud-nd)) (sR bf cl ms bud k ch (y8b m ch) nd)
 | 0,ch,nd,_,_,_=>.inl ⟨rfl,rfl,rfl⟩
 | k+1,ch,nd,hlk,hch,hnd=>by
  have ih:=ymj (n:=n) hp hbud k
  have hloop:∀ (j i:Nat) (nd:Int),i+j=m->0<=nd/\nd<=bud->RelL bud (ye (iS_b n m bf kl msI (iS n m bf kl msI k) ch) j i (bud-nd)) (ye (sR_b bf cl ms bud (sR bf cl ms bud k) ch (y8b m ch)) j i (nd,false)):=by
   intro j
   induction j with
   | zero=>intro i nd _ _;exact⟨rfl,rfl⟩
   | succ j ihj=>
    intro i nd hij hnd;have hi:i<m:=by omega
    simp only[ye];have hc:=yo0 hp hch (by omega) hi
    cases hf:ytm bf cl ms ch (y8b m ch) i with
    | false=>
     rw[hf]at hc;have e1:iS_b n m bf kl msI (iS n m bf kl msI k) ch i (bud-nd)=.ok (bud-nd):=by unfold iS_b;rw[hc];rfl
     have e2:sR_b bf cl ms bud (sR bf cl ms bud k) ch (y8b m ch) i (nd,false)=.ok (nd,false):=by unfold sR_b;rw[hf];rfl
     rw[e1,e2];exact ihj (i+1) nd (by omega) hnd
    | true=>
     rw[hf]at hc;by_cases hb:nd=bud
     ·have e1:iS_b n m bf kl msI (iS n m bf kl msI k) ch i (bud-nd)=.error (5,ch,bud-nd):=by
       unfold iS_b;rw[hc,show(bud-nd == 0)=true by rw[beq_iff_eq];omega];rfl
      have e2:sR_b bf cl ms bud (sR bf cl ms bud k) ch (y8b m ch) i (nd,false)=.error (false,ch,y8b m ch,nd,true):=by
       unfold sR_b;rw[hf,show(nd == bud)=true by rw[beq_iff_eq];exact hb];rfl
      rw[e1,e2];exact .inr (.inl ⟨rfl,rfl,rfl⟩)
     ·have hw:IntKind.wrap .i64 (bud-nd-1)=bud-(nd+1):=by rw[IntKind.wrap_i64];omega
      have hchk:∀ v∈ch++[(i:Int)],0<=v/\v<(m:Int):=fun v hv=>by
       rcases List.mem_append.1 hv with h|h
       ·exact hch v h
       ·rw[List.mem_singleton]at h;subst h;omega
      have hrel:=ih (ch++[(i:Int)]) (nd+1) (by rw[List.length_append,List.length_singleton];omega) hchk (by omega);have hpr:=yog bf cl ms bud k (ch++[(i:Int)]) (y8b m (ch++[(i:Int)])) (nd+1) (by omega)
      have e1:iS_b n m bf kl msI (iS n m bf kl msI k) ch i (bud-nd)=(bif ((iS n m bf kl msI k (ch++[(i:Int)]) (bud-(nd+1))).1 != 3)then .error (iS n m bf kl msI k (ch++[(i:Int)]) (bud-(nd+1)))else .ok (iS n m bf kl msI k (ch++[(i:Int)]) (bud-(nd+1))).2.2):=by
       unfold iS_b;rw[hc,show(bud-nd == 0)=false by rw[beq_eq_false_iff_ne];omega,hw];rfl
      have e2:sR_b bf cl ms bud (sR bf cl ms bud k) ch (y8b m ch) i (nd,false)=(bif (sR bf cl ms bud k (ch++[(i:Int)]) (y8b m (ch++[(i:Int)])) (nd+1)).1 then .error (sR bf cl ms bud k (ch++[(i:Int)]) (y8b m (ch++[(i:Int)])) (nd+1))else .ok ((sR bf cl ms bud k (ch++[(i:Int)]) (y8b m (ch++[(i:Int)])) (nd+1)).2.2.2.1,(sR bf cl ms bud k (ch++[(i:Int)]) (y8b m (ch++[(i:Int)])) (nd+1)).2.2.2.2)):=by
       unfold sR_b;rw[hf,ypu ch hi,show(nd == bud)=false by rw[beq_eq_false_iff_ne];exact hb];rfl
      rw[e1,e2];generalize iS n m bf kl msI k (ch++[(i:Int)]) (bud-(nd+1))=r at hrel;generalize sR bf cl ms bud k (ch++[(i:Int)]) (y8b m (ch++[(i:Int)])) (nd+1)=p at hrel hpr;rcases hrel with⟨h1,h2,h3⟩|⟨h1,h2,h3⟩|⟨h1,h2,h3,h4⟩
      ·rw[show(r.1 != 3)=true by rw[h1];rfl,h2]
       exact .inl ⟨h1,h2,h3⟩
      ·rw[show(r.1 != 3)=true by rw[h1];rfl,h2,h3]
       simp only[cond_true,cond_false];have hfl:=yuu (bf:=bf) (cl:=cl) (ms:=ms) (bud:=bud) (rec:=sR bf cl ms bud k) (ch:=ch) (us:=y8b m ch) j (i+1) p.2.2.2.1
       cases hl:ye (sR_b bf cl ms bud (sR bf cl ms bud k) ch (y8b m ch)) j (i+1) (p.2.2.2.1,true)with
       | error e=>rw[hl]at hfl;exact .inr (.inl ⟨h1,hfl.1,hfl.2⟩)
       | ok t=>rw[hl]at hfl;exact⟨h1,hfl⟩
      ·rw[show(r.1 != 3)=false by rw[h1];rfl,h2,h3,h4]
       simp only[cond_false];exact ihj (i+1) p.2.2.2.1 (by omega) hpr.2
  have h:=hloop m 0 nd (by omega) hnd;unfold iS sR;rw[hp.len,Nat.sub_zero]
  cases h1:ye (iS_b n m bf kl msI (iS n m bf kl msI k) ch) m 0 (bud-nd)with
  | error e=>
   cases h2:ye (sR_b bf cl ms bud (sR bf cl ms bud k) ch (y8b m ch)) m 0 (nd,false)with
   | error e'=>rw[h1,h2]at h;exact h
   | ok s=>rw[h1,h2]at h;exact .inr (.inl ⟨h.1,rfl,h.2⟩)
  | ok b=>
   cases h2:ye (sR_b bf cl ms bud (sR bf cl ms bud k) ch (y8b m ch)) m 0 (nd,false)with
   | error e'=>rw[h1,h2]at h;exact h.elim
   | ok s=>rw[h1,h2]at h;exact .inr (.inr ⟨rfl,rfl,h.1,h.2⟩)
theorem ysf {α:Type} [Inhabited α] {l:List α} {x:α} {j:Nat} (h:j<l.length):(l++[x]).getD j default=l.getD j default:=by
 rw[List.getD_eq_getElem?_getD,List.getD_eq_getElem?_getD,List.getElem?_append_left h]
theorem ypf {α:Type} [Inhabited α] {l:List α} {x:α} {j:Nat} (h:¬ j<l.length) (h2:j<l.length+1):(l++[x]).getD j default=x:=by
 have:j=l.length:=by omega
 subst this;simp
theorem ywh {j n:Nat} (h:j<n):Nat.blt j n=true:=by
 cases hb:Nat.blt j n with
 | true=>rfl
 | false=>rw[<- Bool.not_eq_true,Nat.blt_eq]at hb;exact absurd h hb
theorem ybj {j n:Nat} (h:¬ j<n):Nat.blt j n=false:=by
 cases hb:Nat.blt j n with
 | true=>rw[Nat.blt_eq]at hb;exact absurd hb h
 | false=>rfl
theorem yhd {α:Type} [Inhabited α] (l:List α) (i:Nat) (b:α) (h:i<l.length):(l.set i b).getD i default=b:=by
 rw[List.getD_eq_getElem?_getD,List.getElem?_set_self h];rfl
theorem yid {α:Type} [Inhabited α] (l:List α) (k i:Nat) (b:α) (h:i≠k):(l.set k b).getD i default=l.getD i default:=by
 rw[List.getD_eq_getElem?_getD,List.getElem?_set_ne (by omega), <- List.getD_eq_getElem?_getD]
def zjd (a0:(List UInt8)) (a1:(List UInt8)):Bool:=decide (0<=Go.Lib.indexByte a0 (a1.getD 0 0))
theorem yv0 (a0:(List UInt8)) (a1:(List UInt8)) (hp0:a1.length=1):Den Tryz.prog 72 [.str a0,.str a1] (.bool (zjd a0 a1)):=by
 obtain⟨c,rfl⟩:∃ c,a1=[c]:=List.length_eq_one_iff.1 hp0;refine Den.plain ⟨_,Tryz.func72,rfl,rfl⟩ (by simp[NoOwnL,NoOwn]) ?_;intro w M vs hI hr;simp only[RepL]at hr;obtain⟨u0,us0,f0,g0,rfl,h0e,h0,u1,us1,f1,g1,rfl,h1e,h1,rfl,_⟩:=hr;have e0:=h0.val_str;have e1:=h1.val_str;subst e0 e1;refine(Any.strings_Contains_one Tryz.lays144 ⟨a0.toArray⟩ c w).mono ?_;rintro e w' ⟨rfl,rfl⟩
 exact⟨_,rfl,Grow.refl _,fun M'=>ysc _⟩
def D_zjd : DF
 | [x0,x1]=>some (.bool (zjd (rdS x0) (rdS x1)),false,[wS x0,wS x1,(rdS x1).length=1])
 | _=>none
theorem yis:OkD Tryz.prog 72 D_zjd:=by
 intro xs r z ob h ho;unfold D_zjd at h;split at h
 ·simp only[Option.some.injEq,Prod.mk.injEq]at h
  obtain⟨rfl,rfl,rfl⟩:=h;obtain⟨h0,h1,hp0,_⟩:=ho;exact Den.sim (yv0 _ _ hp0) (y5 (ykh h0).1 <| y5 (ykh h1).1 <| trivial) (y7 (ykh h0).2 <| y7 (ykh h1).2 <| rfl) rfl
 ·cases h
def PhOk (p:List Phase):Prop:=1<=p.length/\p.length<=1000/\∀ v∈p,1<=v.Length/\v.Length<=1000/\v.Color.length<=1
theorem PhOk.at {p:List Phase} (h:PhOk p) {i:Nat} (hi:i<p.length):1<=(p.getD i default).Length/\(p.getD i default).Length<=1000/\(p.getD i default).Color.length<=1:=h.2.2 _ (yz hi)
theorem ywl {a n:Int} (h0:0<=a) (hn:0<n):0<=a.tmod n/\a.tmod n<n/\(a.tmod n).toNat<n.toNat:=by
 have h1:=Int.tmod_nonneg n h0;have h2:=Int.tmod_lt_of_pos a hn;exact⟨h1,h2,by omega⟩
end Go.Ab
namespace Go.Ab
open Go
theorem ych {ρ σ : Type} {b : σ -> Except ρ σ} (I : σ -> Prop) (Q : ρ -> Prop) (m : σ -> Nat) (h : ∀ s, I s -> (∃ t, b s = .ok t /\ I t /\ m t < m s) \/ ∃ e, b s = .error e /\ Q e) : ∀ (k : Nat) (s : σ), I s -> m s < k -> ∃ e, yme b k s = .error e /\ Q e
 | 0,s,_,hk=>by omega
 | k+1,s,hI,hk=>by
  rcases h s hI with⟨t,h1,h2,h3⟩|⟨e,h1,h2⟩
  ·obtain⟨e,h4,h5⟩:=ych I Q m h k t h2 (by omega)
   exact⟨e,by simp only[yme,h1];exact h4,h5⟩
  ·exact⟨e,by simp only[yme,h1],h2⟩
end Go.Ab
