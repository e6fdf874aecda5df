/- A part of a proof: walks of functions and lemmas of our own. No conditions. -/
import Derived.Test.YtopoomikfjodkaaGreatDoorRAk
import Derived.Test.YtopoomikfjodkaaGreatDoorRAe
import Derived.HandedShaped
import Derived.LaidLaws
set_option linter.unusedSectionVars false
set_option linter.unusedVariables false
set_option linter.unusedSimpArgs false
namespace Go.Ab
open Go
variable [Inv]
theorem yqbb {w w' : World} {M' : Nat → Prop} {T : TypeId} {e n : Nat} {ob : Option Nat} {f : Nat → List AV} {us : Nat → List Value} {fps : Nat → List Nat} {row : List Value} {b' cap' : Nat} {cur' : Array Value}
  (ho:AppOut w w' T e n 0 ob row [] b' cap' cur') (hrow:row=(List.range n).flatMap us)
  (hel:∀ i,i<n→RepL w' M' (f i) yp (us i) (fps i)∧(us i).length=e∧∀ u∈us i,u.oneCell'=true) :
  Rep w' M' (.sl (some T) e n f) yp (.slice (some ⟨b',0,none⟩) n cap') (b'::(List.range n).flatMap fps):=by
 simp only[Rep]
 have hlt:b'<w'.heap.size:=by
  have:=ho.row
  exact(Array.getElem?_eq_some_iff.1 this).1
 refine .inr ⟨b',0,cap',us,fps,rfl,⟨by have:=ho.fit;omega,by have:=ho.fit;have:=ho.big;omega⟩,hlt,fun i hi => ?_,rfl,rfl,cur',ho.row,ho.len,ho.big⟩
 obtain⟨h1,h2,h3⟩:=hel i hi
 refine⟨h1,h2,fun j u hu => ?_⟩
 have hj:j<e:=by rw[← h2];exact(List.getElem?_eq_some_iff.1 hu).1
 have hlt2:i * e+j<n * e:=by
  have:(i+1) * e≤n * e:=Nat.mul_le_mul_right _ hi
  rw[Nat.add_mul,Nat.one_mul]at this;omega
 refine⟨?_,h3 u (List.mem_of_getElem? hu)⟩
 rw[cell_of_row w' b' _ cur' T (0,0) ho.row,Nat.zero_add,ho.olds _ hlt2,hrow,y2d (fun i hi=>(hel i hi).2.1) hi hj]
 exact hu
end Go.Ab

namespace Go.Ab
open Go
variable [Inv]
theorem Den.plain {P : Program} {f : FuncId} {xs : List AV} {r : AV} (hok : FnOk P f) (hno : NoOwnL xs)
  (h:∀ (w:World) (M:Nat→Prop) (vs:List Value),Inv.ok w→RepL w M xs yp vs []→Calls P f vs.toArray w fun e w'=>∃ v,e=.returned v∧Grow w w'∧∀ M',Rep w' M' r yp v []):Den P f xs r:=by
 refine⟨hok,?_⟩
 intro w M vs fpA i1 i2 hr hnd hM hlt
 have hfp:=NoOwnL.fp xs hno hr
 subst hfp
 have htop:y5 xs vs=[]:=by
  apply List.eq_nil_iff_forall_not_mem.2
  intro b hb
  have:=ydc xs hr b hb
  simp at this
 refine(h w _ vs i1 hr).mono ?_
 rintro e w' ⟨v,rfl,hg,hv⟩
 refine⟨v,[],rfl,⟨hg.os,hg.tape,hg.output,hg.size,fun k hk _=>hg.block k hk⟩,hv _,List.nodup_nil,by simp,fun b hb => ?_⟩
 have:=yrh r (hv (fun _=>False)) b hb
 simp at this
theorem Den.fresh {α : Type} [Inhabited α] {P : Program} {f : FuncId} {xs : List AV} {T : TypeId} {e : Nat} {enc : α → List AV} {l : List α} (hok : FnOk P f) (hno : NoOwnL xs)
  (us:Nat→List Value) (hus:∀ w M i,i<l.length→RepL w M (enc (l.getD i default)) yp (us i) []∧(us i).length=e∧∀ u∈us i,u.oneCell'=true)
  (h:∀ (w:World) (M:Nat→Prop) (vs:List Value),Inv.ok w→RepL w M xs yp vs []→Calls P f vs.toArray w fun ex w'=>∃ b' cap' cur',ex=.returned (.slice (some ⟨b',0,none⟩) l.length cap')∧AppOut w w' T e l.length 0 none ((List.range l.length).flatMap us) [] b' cap' cur') :
  Den P f xs (ownL T e enc l):=by
 refine⟨hok,?_⟩
 intro w M vs fpA i1 i2 hr hnd hM hlt
 have hfp:=NoOwnL.fp xs hno hr
 subst hfp
 refine(h w _ vs i1 hr).mono ?_
 rintro ex w' ⟨b',cap',cur',rfl,ho⟩
 have hb:b'=w.heap.size:=by
  rcases ho.place with h|h
  ·cases h
  ·exact h
 have hf:(List.range l.length).flatMap (fun _=>([]:List Nat))=[]:=by simp
 have hR:=yqbb (M':=fun c=>M c∨c∈[b']) (f:=fun k=>enc (l.getD k default)) (us:=us) (fps:=fun _=>[]) ho rfl (fun i hi=>hus w' _ i hi)
 rw[hf]at hR
 refine⟨_,[b'],rfl,⟨ho.os,ho.tape,ho.output,ho.size,fun k hk _=>ho.other k hk (by omega)⟩,hR,by simp,?_,?_⟩
 ·intro b hb2
  simp only[List.mem_singleton]at hb2
  subst hb2
  exact⟨.inr (by omega),(Array.getElem?_eq_some_iff.1 ho.row).1⟩
 ·intro b hb2
  simp only[tops,yuc,ownL,List.mem_singleton]at hb2
  subst hb2
  exact .inr (by omega)
theorem ywl (w:World) (T:TypeId) (l:List Value) (hm:l.length≤maxLen) :
  AppOut w (w.alloc (.cells l.toArray T)) T 1 l.length 0 none ((List.range l.length).flatMap fun i=>[l.getD i default]) [] w.heap.size l.length l.toArray:=by
 have hflat:(List.range l.length).flatMap (fun i=>[l.getD i default])=l:=by
  have : ∀ (k : List Nat), k.flatMap (fun i => [l.getD i default]) = k.map (fun i => l.getD i default) := fun k => by induction k with
   | nil=>rfl
   | cons a k ih=>rw[List.flatMap_cons,ih];rfl
  rw[this]
  exact yjc l
 refine⟨rfl,rfl,rfl,by simp,?_,heap_alloc_new w _,by simp,by simp,hm,?_,fun j hj=>by omega,.inr rfl⟩
 ·intro k hk _
  show(w.heap.push _)[k]? = _
  rw[Array.getElem?_push,if_neg (by omega)]
 ·intro j hj
  rw[hflat];simp
end Go.Ab

namespace Go.Ab
open Go
variable {H:Type} {enc:TypeId×Value→H}
theorem yfb {a : Assume} {C : Checked} {os : Os} {f : FuncId} {fn : Func} {s : ChangeSpec} {conds : List PathCond} {apart fresh handsOn again : Bool} {X : World → Array Value → Prop}
  (hX:∀ (w w':World) (args:Array Value),w.heap=w'.heap→X w args→X w' args)
  (own:ownKnob C.prog.godebug=none) (started:os.Started) (noInit:C.prog.inits.idxOf? f=none) (hfn:C.prog.funcs[f]? = some fn)
  (witness:∃ (w:World) (tape:Tape) (i:Input),w.os=os∧(w.forCall tape i).Shaped C.prog∧i.vars=[]∧Input.okWide C.prog (w.forCall tape i) .any w.heap.size f i ∧
   ((s.pre enc C.prog fn conds apart (w.forCall tape i).memory i.args∧X (w.forCall tape i).memory i.args)∧sizedMet enc C.prog fn (OpenSpec.ofChange s) apart (w.forCall tape i).memory i.args)∧a.holds C.prog (lone (Frame.enter C.prog f i.args .normal) [] (w.forCall tape i)))
  (contract:∀ (W:World) (base:Nat) (args:Array Value) (ds gs:List (DataW H)) (before:List MemPlace),
   (∀ (j:Nat) t v,fn.params[j]? = some t→args[j]? = some v→Value.okWide C.prog W .any base t v) →
   DataW.Whole enc C.prog fn.params.toList s.vars apart W args.toList ds gs before →
   conds.all (PathCond.test C.prog ⟨fn.params.toList,ds,s.plain.varTypes C.prog,gs⟩)=true→X W args→W.ShapedOpen C.prog →
   Calls C.prog f args W fun e W'=>∃ v,e=.returned v∧s.post enc C.prog fn apart fresh handsOn again W args v W') :
  ReturnsInHanded a C os f .any (fun w args=>(s.pre enc C.prog fn conds apart w args∧X w args)∧sizedMet enc C.prog fn (OpenSpec.ofChange s) apart w args) (s.post enc C.prog fn apart fresh handsOn again):=by
 refine returnsInHanded_of_calls own started noInit witness ?_
 intro w tape i _ hsh _ hok hpre hholds
 obtain⟨_,_,_,fn',hfn',_,_,_,_,hval⟩:=hok
 have e:fn'=fn:=Option.some.inj (hfn'.symm.trans hfn)
 subst e
 obtain⟨⟨⟨ds,gs,before,hw,hc⟩,hx⟩,hz⟩:=hpre
 have hw':=DataW.Whole.of_heap (w':=w.forCall tape i) (by rfl) hw
 refine(contract (w.forCall tape i) w.heap.size i.args ds gs before hval hw' hc (hX _ _ _ (by rfl) hx) hsh).mono fun e W' ⟨v,he,hp⟩ => ?_
 subst he
 exact ChangeSpec.post_blind hp
theorem ykc {P : Program} {W : World} {name nm : String} {d : DataW Unit} {rest : List (String × DataW Unit)} {g : Nat} {ti : TypeId} {ms : Array (String × TypeId)}
  (h:laidMet P ((name,.iface nm d)::rest) W) (hg:P.globalNamed name=some g) (ht:(P.globals[g]?).map (·.type)=some ti) (hi:P.underlying ti=some (.interface ms)) :
  ∃ te pe,W.cell? ⟨g,0,none⟩=some (.iface te pe):=by
 obtain⟨ps,⟨g0,t0,cs0,f0,p0,q0,hg0,ht0,hv0,hd0,_⟩,_⟩:=h
 obtain rfl:=Option.some.inj (hg.symm.trans hg0)
 obtain rfl:=Option.some.inj (ht.symm.trans ht0)
 obtain⟨f1,u,v,e,_,_⟩:=iface_of_trod hi hd0
 exact⟨u,v,by have:=World.var?_cell hg0 hv0 0;obtain⟨l0⟩:=cs0;simp only at e;subst e;simpa using this⟩
end Go.Ab
