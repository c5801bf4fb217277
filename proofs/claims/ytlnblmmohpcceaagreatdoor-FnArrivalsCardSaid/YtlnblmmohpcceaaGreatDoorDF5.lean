/-
  Proved here: bridges to the shelf's contracts; numerals; the wrap of a row that lists variables.
  No condition beyond what each statement spells out.
-/
import Derived.Test.YtlnblmmohpcceaaGreatDoorDF3
import Derived.Test.YtlnblmmohpcceaaGreatDoorDF4
import Derived.Shelf.LaysM
import Derived.Shelf.Strconv.Itoa3
import Derived.Shelf.Strings.OnBuilder
import Derived.Shelf.Strings.SplitShaped
import Derived.Lib.AppendIntMem
import Derived.Test.YtlnblmmohpcceaaGreatDoorDF6
import Derived.HandedShaped
import Derived.Lib.LaidTab
import Derived.LaidMore
import Derived.LaidHandle
import Derived.MakeChecks
set_option linter.all false
namespace Go.Aw
open Go.Proofs Go.Shelf Go.RowKit
class aP9 (P : Program) [aB P] : Prop where
  tab : ∀ w, aB.holds P w → Lib.TabIs P w "internal/strconv.uint64pow10" .u64 Lib.pow10Tab
class dO (P : Program) [aB P] : Prop where
  cell : ∀ w, aB.holds P w → ∀ g, P.globalNamed "internal/bytealg.MaxLen" = some g → ∃ m, w.cell? ⟨g, 0, none⟩ = some (.int .i64 m)
theorem aJr (s:Str):(⟨s.toArray⟩:ByteArray).data.toList=s:=by simp
theorem aGx (s:Str):(⟨s.toArray⟩:ByteArray).size=s.length:=by simp [ByteArray.size]
theorem zH {n:Nat} {w w':World} (h:Below n w w'):Same w w':=⟨h.os,h.tape,h.output⟩
theorem aLo {w:World} {E:Env} {a b:Str} {vs:List Value} {fp:List Nat} (h:Rc w E [.str a,.str b] vs fp):vs=[.string ⟨a.toArray⟩,.string ⟨b.toArray⟩]:=by
 match vs,h with
 |[],h=>simp [Rc] at h
 |[_],h=>simp [Rc] at h
 |[x,y],h=>
  simp only [Rc,R] at h
  obtain ⟨_,_,h1,⟨_,_,h2,_⟩,_⟩:=h
  rw [h1.1,h2.1]
 |_::_::_::_,h=>simp [Rc] at h
section
variable {P : Program} [aB P] {ρ : Ren}
theorem aNe {w:World} {E:Env} {b off:Nat} {l:List Str} {fp:List Nat} (h:Rr w E (l.map fun s=>[.str s]) b off 1 fp) (j:Nat) (x:ByteArray)
  (hx:(l.map fun s:Str=>(⟨s.toArray⟩:ByteArray))[j]? =some x):w.cell? ⟨b,off+j,none⟩=some (.string x):=by
 rw [List.getElem?_map] at hx
 cases hl:l[j]? with
 |none=>simp [hl] at hx
 |some s=>
  simp only [hl,Option.map_some,Option.some.injEq] at hx
  subst hx
  obtain ⟨f1,f2,f3,cs,_,hn,hc,_,hr,_,_⟩:=mU (i:=j) (e:=[.str s]) h (by simp [hl])
  match cs,hn,hc,hr with
  |[v],_,hc,hr=>
   simp only [Rc,R] at hr
   obtain ⟨_,_,h1,_,_⟩:=hr
   have:=hc 0 v rfl
   rw [h1.1] at this
   simpa using this
theorem aM5 (L:Lays.n156 P ρ) (X:Builder.Extra P ρ) (l:List Str) (sep:Str) (hl:l.length≤140737488355328) (hs:(Lib.join l sep).length≤140737488355328):
  Ok P (ρ.f 156) [.sl .view 1 (l.map fun s=>[.str s]),.str sep] (.str (Lib.join l sep)):=by
 intro w vs hg h
 have hmap:(l.map fun s:Str=>(⟨s.toArray⟩:ByteArray)).map (·.data.toList)=l:=by
  rw [List.map_map]
  conv=>rhs;rw [←List.map_id l]
  exact List.map_congr_left fun s _=>aJr s
 match vs,h with
 |[],h=>simp [Rc] at h
 |[_],h=>simp [Rc] at h
 |_::_::_::_,h=>simp [Rc] at h
 |[x,y],h=>
  simp only [Rc] at h
  obtain ⟨f1,_,hx,⟨f2,_,hy,_,_⟩,e⟩:=h
  simp only [R] at hy
  obtain ⟨rfl,_⟩:=hy
  simp only [R,List.length_map] at hx
  rcases hx with hx|⟨a,cap,rfl,⟨hlen,hcap⟩,hx⟩
  ·exact hx.1.elim
  have fin:∀{e:Ending} {w':World},e= .returned (.string ⟨(Lib.join l sep).toArray⟩)→Below w.heap.size w w'→∃v fp,e= .returned v∧R w' eZ (.str (Lib.join l sep)) v fp∧fp.Nodup∧
   (∀b∈fp,w.heap.size≤b∧b < w'.heap.size)∧w.heap.size≤w'.heap.size∧(∀b,b < w.heap.size→w'.heap[b]? =w.heap[b]?)∧Same w w':=
   fun he hb=>⟨_,[],he,by simp [R],List.nodup_nil,by simp,hb.size,hb.block,zH hb⟩
  by_cases h0:l=[]
  ·subst h0
   refine (Any.strings_Join_none L X a cap ⟨sep.toArray⟩ w).mono fun e w' ⟨he,hw⟩=>fin ?_ (hw▸Below.refl _ _)
   rw [he];rfl
  ·rcases hx with hx|hx|⟨_,_,hx|⟨b,off,rfl,ht,hr⟩⟩
   ·exact absurd hx.1 (by simp)
   ·exact absurd hx.1 (by simp)
   ·exact absurd (List.map_eq_nil_iff.1 hx) h0
   ·have:=Any.strings_Join L X b off cap (l.map fun s:Str=>(⟨s.toArray⟩:ByteArray)) ⟨sep.toArray⟩ w (aNe hr) ht (by simpa using hl) (by simpa using hcap) (by rw [hmap];exact hs)
    rw [hmap,List.length_map] at this
    exact this.mono fun e w' ⟨he,hb⟩=>fin he hb
theorem aF7 (c:UInt8):∀(n:Nat) (s:Str),s.length≤n→Lib.splitK [c] 0 (Lib.count s [c]) s=aQ c s:=by
 intro n
 induction n with
 |zero=>
  intro s hs
  obtain rfl:s=[]:=List.length_eq_zero_iff.1 (by omega)
  rfl
 |succ n ih=>
  intro s hs
  rw [aB0]
  by_cases h:ixB c s < s.length
  ·have hi:Lib.index s [c]=(ixB c s:Nat):=by rw [Lib.index_one,mW,ixI,if_pos h]
   rw [Lib.count_hit (by simp) hi,Nat.add_comm,Lib.splitK,if_neg (by rw [hi,beq_iff_eq];omega),hi,if_pos h]
   simp only [Int.toNat_natCast,Nat.add_zero,List.length_singleton]
   rw [ih _ (by rw [List.length_drop];omega)]
  ·have hi:Lib.index s [c]= -1:=by rw [Lib.index_one,mW,ixI,if_neg h]
   rw [Lib.count_miss hi,if_neg h]
   rfl
theorem aF6 (c:UInt8) (k:Nat) (s:Str) (h:Lib.countB ⟨s.toArray⟩ ⟨#[c]⟩=k):(Lib.splitB ⟨#[c]⟩ 0 k ⟨s.toArray⟩).map (·.data.toList)=aQ c s:=by
 subst h
 rw [Lib.splitB_data]
 have:=aF7 c _ s (Nat.le_refl _)
 simpa [Lib.countB] using this
theorem zG {w:World} {E:Env} {b:Nat}:∀(l:List ByteArray) (off:Nat),(∀j x,l[j]? =some x→w.cell? ⟨b,off+j,none⟩=some (.string x))→Rr w E (l.map fun s=>[.str s.data.toList]) b off 1 []
 |[],_,_=>by simp [Rr]
 |x::l,off,h=>by
  simp only [List.map_cons,Rr]
  refine ⟨[.string x],[],[],rfl,fun j v hv=> ?_,by simp [Value.oneCell'],?_,zG l (off+1) (fun j y hy=> ?_),rfl⟩
  ·cases j with
   |zero=>simp only [List.getElem?_cons_zero,Option.some.injEq] at hv;subst hv;exact h 0 x rfl
   |succ j=>simp at hv
  ·simp [Rc,R]
  ·have:=h (j+1) y (by simpa using hy)
   rwa [show off+1+j=off+(j+1) by omega]
theorem aEr [dO P] (L:LaysM.n146 P ρ) (hmx:P.globalNamed "internal/bytealg.MaxLen" =some (ρ.g 1)) (s:Str) (c:UInt8) (hs:s.length < 4294967281):Ok P (ρ.f 146) [.str s,.str [c]] (.sl .own 1 ((aQ c s).map fun p=>[.str p])):=by
 intro w vs hg h
 obtain rfl:=aLo h
 obtain ⟨m,hm⟩:=dO.cell w hg _ hmx
 refine (Any.strings_Split {L with} L.i9 ⟨s.toArray⟩ ⟨#[c]⟩ m w (by rw [aGx];exact hs) hm (by simp [ByteArray.size])).mono fun e w' ⟨he,hw⟩=> ?_
 have hlen:=Lib.splitB_all ⟨#[c]⟩ (by simp [ByteArray.size]) 0 _ ⟨s.toArray⟩ rfl
 have hseg:=aF6 c _ s rfl
 generalize hk:Lib.countB ⟨s.toArray⟩ ⟨#[c]⟩=k at *
 generalize hl:Lib.splitB ⟨#[c]⟩ 0 k ⟨s.toArray⟩=l at *
 have hrows:(aQ c s).map (fun p=>[AV.str p])=l.map fun x=>[AV.str x.data.toList]:=by rw [←hseg,List.map_map];rfl
 have hb:Below w.heap.size w w':=by rw [hw];exact (Below.refl _ w).alloc (Nat.le_refl _) _
 have hh:w'.heap[w.heap.size]? =some (.cells (l.map Value.string).toArray (ρ.t 9)):=by rw [hw];exact eY w _
 have hsz:w'.heap.size=w.heap.size+1:=by rw [hw];simp
 have hc:Lib.countB ⟨s.toArray⟩ ⟨#[c]⟩≤s.length:=by
  have:=Lib.countB_le ⟨#[c]⟩ (by simp [ByteArray.size]) _ ⟨s.toArray⟩ (Nat.le_refl _)
  rwa [aGx] at this
 rw [hk] at hc
 refine ⟨_,[w.heap.size],he,?_,by simp,by simp [hsz],hb.size,hb.block,zH hb⟩
 rw [hrows]
 refine jB.2 ⟨some ⟨w.heap.size,0,none⟩,k+1,by simp [hlen],by simp [hlen,maxLen];omega,.inr ⟨w.heap.size,0,(l.map Value.string).toArray,ρ.t 9,(0,0),[],rfl,?_,by simp,by simp [hlen],by simp [hlen],by simp [maxLen];omega,rfl,?_⟩⟩
 ·exact hh
 ·refine zG l 0 fun j x hx=> ?_
  simp [World.cell?,hh,hx]
end
end Go.Aw

namespace Go.Aw
def aPy {α β:Type} (f:α→β) (l:List α):List β:=l.map f
@[simp] theorem aP2 {α β:Type} (f:α→β):aPy f []=[]:=rfl
end Go.Aw

namespace Go.Aw
open Go.RowKit
section
variable {H : Type} {enc : TypeId × Value → H}
theorem aAm {a:Assume} {C:Checked} {os:Os} {f:FuncId} {fn:Func} {s:ChangeSpec} {conds:List PathCond} {apart fresh handsOn again:Bool} {X:World→Array Value→Prop}
  (hX:∀(w w':World) (args:Array Value),w.heap=w'.heap→X w args→X w' args)
  (own:ownKnob C.prog.godebug=none) (started:os.Started) (noInit:C.prog.inits.idxOf? f=none) (hfn:C.prog.funcs[f]? =some fn)
  (witness:∃(w:World) (tape:Tape) (i:Input),w.os=os∧(w.forCall tape i).Shaped C.prog∧i.vars=[]∧Input.okWide C.prog (w.forCall tape i) .any w.heap.size f i∧
   ((s.pre enc C.prog fn conds apart (w.forCall tape i).memory i.args∧X (w.forCall tape i).memory i.args)∧sizedMet enc C.prog fn (OpenSpec.ofChange s) apart (w.forCall tape i).memory i.args)∧a.holds C.prog (lone (Frame.enter C.prog f i.args .normal) [] (w.forCall tape i)))
  (contract:∀(W:World) (base:Nat) (args:Array Value) (ds gs:List (DataW H)) (before:List MemPlace),
   (∀(j:Nat) t v,fn.params[j]? =some t→args[j]? =some v→Value.okWide C.prog W .any base t v)→
   DataW.Whole enc C.prog fn.params.toList s.vars apart W args.toList ds gs before→X W args→W.ShapedOpen C.prog→
   Calls C.prog f args W fun e W'=>∃v,e= .returned v∧s.post enc C.prog fn apart fresh handsOn again W args v W'):
  ReturnsInHanded a C os f .any (fun w args=>(s.pre enc C.prog fn conds apart w args∧X w args)∧sizedMet enc C.prog fn (OpenSpec.ofChange s) apart w args) (s.post enc C.prog fn apart fresh handsOn again):=by
 refine returnsInHanded_of_calls own started noInit witness ?_
 intro w tape i _ hsh _ hok hpre hholds
 obtain ⟨_,_,_,fn',hfn',_,_,_,_,hval⟩:=hok
 have e:fn'=fn:=Option.some.inj (hfn'.symm.trans hfn)
 subst e
 obtain ⟨⟨⟨ds,gs,before,hw,hc⟩,hx⟩,hz⟩:=hpre
 have hw':=DataW.Whole.of_heap (w':=w.forCall tape i) (by rfl) hw
 refine (contract (w.forCall tape i) w.heap.size i.args ds gs before hval hw' (hX _ _ _ (by rfl) hx) hsh).mono fun e W' ⟨v,he,hp⟩=> ?_
 subst he
 exact ChangeSpec.post_blind hp
end
def qY (P:Program) (n:Nat) (tabs:List (String×IntKind×List Int)) (ints:List String) (w:World):Prop:=
 n≤w.heap.size∧(∀x∈tabs,Lib.TabIs P w x.1 x.2.1 x.2.2)∧∀x∈ints,∀g,P.globalNamed x=some g→∃m,w.cell? ⟨g,0,none⟩=some (.int .i64 m)
def aGl (P:Program) (n:Nat) (tabs:List (String×IntKind×List Int)) (ints:List String):Bool:=
 (tabs.all fun x=>match P.globalNamed x.1 with|some g=>decide (g < n)|none=>true)&&ints.all fun x=>match P.globalNamed x with|some g=>decide (g < n)|none=>true
theorem aIj {P:Program} {n:Nat} {tabs:List (String×IntKind×List Int)} {ints:List String} (hn:aGl P n tabs ints=true) (w w':World) (h:qY P n tabs ints w)
  (hs:∀b,b < n→w'.heap[b]? =w.heap[b]?):qY P n tabs ints w':=by
 obtain ⟨h1,h2,h3⟩:=h
 simp only [aGl,Bool.and_eq_true,List.all_eq_true] at hn
 have hlt:n≤w'.heap.size:=by
  rcases Nat.eq_zero_or_pos n with h0|h0
  ·omega
  ·have:=hs (n - 1) (by omega)
   rw [Array.getElem?_eq_getElem (xs:=w.heap) (i:=n - 1) (by omega)] at this
   have:=(Array.getElem?_eq_some_iff.1 this).1
   omega
 refine ⟨hlt,fun x hx=> ?_,fun x hx g hg=> ?_⟩
 ·have h4:=h2 x hx
  have h5:=hn.1 x hx
  unfold Lib.TabIs World.var? at *
  cases hg:P.globalNamed x.1 with
  |none=>rw [hg] at h4;simp at h4
  |some g=>
   rw [hg] at h4 h5
   simp only [decide_eq_true_eq] at h5
   simp only [Option.bind_some] at h4⊢
   rw [hs g h5]
   exact h4
 ·have h5:=hn.2 x hx
  rw [hg] at h5
  simp only [decide_eq_true_eq] at h5
  obtain ⟨m,hm⟩:=h3 x hx g hg
  refine ⟨m,?_⟩
  simpa [World.cell?,hs g h5] using hm
end Go.Aw

namespace Go.Aw
theorem aEx {w:World} {g n:Nat} {v:Value} (h:w.cell? ⟨g,0,none⟩=some v) (hn:n≤g+1):n≤w.heap.size:=by
 have:g < w.heap.size:=by
  rcases Nat.lt_or_ge g w.heap.size with h'|h'
  ·exact h'
  ·simp [World.cell?,Array.getElem?_eq_none h'] at h
 omega
end Go.Aw
