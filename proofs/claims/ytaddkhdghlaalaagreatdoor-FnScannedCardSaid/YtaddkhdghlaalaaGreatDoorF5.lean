/-
  Proved here: bridges to the shelf's contracts; numerals; the wrap of a row that lists variables.
  No condition beyond what each statement spells out.
-/
import Derived.Test.YtaddkhdghlaalaaGreatDoorF3
import Derived.Test.YtaddkhdghlaalaaGreatDoorF4
import Derived.Shelf.LaysM
import Derived.Shelf.Strconv.Itoa3
import Derived.Shelf.Strings.OnBuilder
import Derived.Shelf.Strings.SplitShaped
import Derived.Lib.AppendIntMem
import Derived.Test.YtaddkhdghlaalaaGreatDoorF6
import Derived.HandedShaped
import Derived.Lib.LaidTab
import Derived.LaidMore
import Derived.LaidHandle
import Derived.MakeChecks
set_option linter.all false
namespace Go.Aw
open Go.Proofs Go.Shelf Go.RowKit
class bJ4 (P : Program) [aB P] : Prop where
  tab : ∀ w, aB.holds P w → Lib.TabIs P w "internal/strconv.uint64pow10" .u64 Lib.pow10Tab
class dB (P : Program) [aB P] : Prop where
  cell : ∀ w, aB.holds P w → ∀ g, P.globalNamed "internal/bytealg.MaxLen" = some g → ∃ m, w.cell? ⟨g, 0, none⟩ = some (.int .i64 m)
theorem aVu (s:Str):(⟨s.toArray⟩:ByteArray).size=s.length:=by simp [ByteArray.size]
theorem aXb {n:Nat} {w w':World} (h:Below n w w'):Same w w':=⟨h.os,h.tape,h.output⟩
theorem bC2 {w:World} {E:Env} {a b:Str} {vs:List Value} {fp:List Nat} (h:Rc w E [.str a,.str b] vs fp):vs=[.string ⟨a.toArray⟩,.string ⟨b.toArray⟩]:=by
 match vs,h with
 |[],h=>simp [Rc] at h
 |[_],h=>simp [Rc] at h
 |[x,y],h=>
  simp only [Rc,R] at h
  obtain ⟨_,_,h1,⟨_,_,h2,_⟩,_⟩:=h
  rw [h1.1,h2.1]
 |_::_::_::_,h=>simp [Rc] at h
section
variable {P : Program} [aB P] {ρ : Ren}
theorem aVj (c:UInt8):∀(n:Nat) (s:Str),s.length≤n→Lib.splitK [c] 0 (Lib.count s [c]) s=bF c s:=by
 intro n
 induction n with
 |zero=>
  intro s hs
  obtain rfl:s=[]:=List.length_eq_zero_iff.1 (by omega)
  rfl
 |succ n ih=>
  intro s hs
  rw [aGo]
  by_cases h:ixB c s < s.length
  ·have hi:Lib.index s [c]=(ixB c s:Nat):=by rw [Lib.index_one,wX,ixI,if_pos h]
   rw [Lib.count_hit (by simp) hi,Nat.add_comm,Lib.splitK,if_neg (by rw [hi,beq_iff_eq];omega),hi,if_pos h]
   simp only [Int.toNat_natCast,Nat.add_zero,List.length_singleton]
   rw [ih _ (by rw [List.length_drop];omega)]
  ·have hi:Lib.index s [c]= -1:=by rw [Lib.index_one,wX,ixI,if_neg h]
   rw [Lib.count_miss hi,if_neg h]
   rfl
theorem aVn (c:UInt8) (k:Nat) (s:Str) (h:Lib.countB ⟨s.toArray⟩ ⟨#[c]⟩=k):(Lib.splitB ⟨#[c]⟩ 0 k ⟨s.toArray⟩).map (·.data.toList)=bF c s:=by
 subst h
 rw [Lib.splitB_data]
 have:=aVj c _ s (Nat.le_refl _)
 simpa [Lib.countB] using this
theorem aKv {w:World} {E:Env} {b:Nat}:∀(l:List ByteArray) (off:Nat),(∀j x,l[j]? =some x→w.cell? ⟨b,off+j,none⟩=some (.string x))→Rr w E (l.map fun s=>[.str s.data.toList]) b off 1 []
 |[],_,_=>by simp [Rr]
 |x::l,off,h=>by
  simp only [List.map_cons,Rr]
  refine ⟨[.string x],[],[],rfl,fun j v hv=> ?_,by simp [Value.oneCell'],?_,aKv l (off+1) (fun j y hy=> ?_),rfl⟩
  ·cases j with
   |zero=>simp only [List.getElem?_cons_zero,Option.some.injEq] at hv;subst hv;exact h 0 x rfl
   |succ j=>simp at hv
  ·simp [Rc,R]
  ·have:=h (j+1) y (by simpa using hy)
   rwa [show off+1+j=off+(j+1) by omega]
theorem bB5 [dB P] (L:LaysM.n146 P ρ) (hmx:P.globalNamed "internal/bytealg.MaxLen" =some (ρ.g 1)) (s:Str) (c:UInt8) (hs:s.length < 4294967281):Ok P (ρ.f 146) [.str s,.str [c]] (.sl .own 1 ((bF c s).map fun p=>[.str p])):=by
 intro w vs hg h
 obtain rfl:=bC2 h
 obtain ⟨m,hm⟩:=dB.cell w hg _ hmx
 refine (Any.strings_Split {L with} L.i9 ⟨s.toArray⟩ ⟨#[c]⟩ m w (by rw [aVu];exact hs) hm (by simp [ByteArray.size])).mono fun e w' ⟨he,hw⟩=> ?_
 have hlen:=Lib.splitB_all ⟨#[c]⟩ (by simp [ByteArray.size]) 0 _ ⟨s.toArray⟩ rfl
 have hseg:=aVn c _ s rfl
 generalize hk:Lib.countB ⟨s.toArray⟩ ⟨#[c]⟩=k at *
 generalize hl:Lib.splitB ⟨#[c]⟩ 0 k ⟨s.toArray⟩=l at *
 have hrows:(bF c s).map (fun p=>[AV.str p])=l.map fun x=>[AV.str x.data.toList]:=by rw [←hseg,List.map_map];rfl
 have hb:Below w.heap.size w w':=by rw [hw];exact (Below.refl _ w).alloc (Nat.le_refl _) _
 have hh:w'.heap[w.heap.size]? =some (.cells (l.map Value.string).toArray (ρ.t 9)):=by rw [hw];exact jP w _
 have hsz:w'.heap.size=w.heap.size+1:=by rw [hw];simp
 have hc:Lib.countB ⟨s.toArray⟩ ⟨#[c]⟩≤s.length:=by
  have:=Lib.countB_le ⟨#[c]⟩ (by simp [ByteArray.size]) _ ⟨s.toArray⟩ (Nat.le_refl _)
  rwa [aVu] at this
 rw [hk] at hc
 refine ⟨_,[w.heap.size],he,?_,by simp,by simp [hsz],hb.size,hb.block,aXb hb⟩
 rw [hrows]
 refine mX.2 ⟨some ⟨w.heap.size,0,none⟩,k+1,by simp [hlen],by simp [hlen,maxLen];omega,.inr ⟨w.heap.size,0,(l.map Value.string).toArray,ρ.t 9,(0,0),[],rfl,?_,by simp,by simp [hlen],by simp [hlen],by simp [maxLen];omega,rfl,?_⟩⟩
 ·exact hh
 ·refine aKv l 0 fun j x hx=> ?_
  simp [World.cell?,hh,hx]
end
end Go.Aw

namespace Go.Aw
def qE {α β:Type} (f:α→β) (l:List α):List β:=l.map f
@[simp] theorem bBz {α β:Type} (f:α→β):qE f []=[]:=rfl
theorem aCm {α β:Type} (f:α→β) (l:List α) (k:Nat) (h:k < l.length):qE f (l.take (k+1))=qE f (l.take k)++[f l[k]]:=by
 simp only [qE]
 rw [List.take_succ_eq_append_getElem h,List.map_append]
 rfl
theorem vH {α β:Type} (f:α→β) (l:List α):(qE f l).length=l.length:=List.length_map _
def vY (u:Nat):Str:=if u=0 then [] else Lib.decDigits u
theorem aZp (u:Nat) (h:u≠0):vY u=vY (u / 10)++[UInt8.ofNat (48+u % 10)]:=by
 unfold vY
 rw [if_neg h,Lib.decDigits]
 by_cases h1:u < 10
 ·have e1:u / 10=0:=by omega
  have e2:u % 10=u:=by omega
  simp [h1,e1,e2]
 ·have e1:u / 10≠0:=by omega
  simp [h1,e1]
theorem bAo:Lib.itoa 0=[48]:=by
 unfold Lib.itoa
 rw [if_neg (by decide),Lib.decDigits]
 rfl
theorem itoa_neg {n:Int} {s:Str} (h:n < 0) (hs:s=vY n.natAbs):Lib.itoa n=45::s:=by
 unfold Lib.itoa
 rw [if_pos h,hs,vY,if_neg (by omega)]
theorem bCy {n:Int} {s:Str} (h0:n≠0) (h:¬n < 0) (hs:s=vY n.natAbs):Lib.itoa n=s:=by
 unfold Lib.itoa
 rw [if_neg h,hs,vY,if_neg (by omega)]
 congr 1
 omega
theorem aXe (x:Int) (h1: -9223372036854775808≤x) (h2:x≤9223372036854775807):∃r q:Int,0≤r∧r≤9∧x.tdiv 10=q∧ -9223372036854775808≤q∧q≤9223372036854775807∧q.natAbs=x.natAbs / 10∧r=((x.natAbs % 10:Nat):Int)∧
  (x.tmod 10=r∨(x.tmod 10= -r∧0 < r)):=by
 rcases Int.natAbs_eq x with h|h
 ·generalize x.natAbs=u at h
  subst h
  refine ⟨((u % 10:Nat):Int),((u / 10:Nat):Int),by omega,by omega,rfl,by omega,by omega,by omega,by omega,.inl rfl⟩
 ·generalize hu:x.natAbs=u at h
  subst h
  have e1:(-(u:Int)).tdiv 10= -((u / 10:Nat):Int):=by rw [Int.neg_tdiv];rfl
  have e2:(-(u:Int)).tmod 10= -((u % 10:Nat):Int):=by rw [Int.neg_tmod];rfl
  refine ⟨((u % 10:Nat):Int), -((u / 10:Nat):Int),by omega,by omega,e1,by omega,by omega,by omega,by omega,?_⟩
  rw [e2]
  by_cases h:u % 10=0
  ·left;omega
  ·right;omega
theorem bAh (n:Int) (h1:0≤n) (h2:n≤255):IntKind.u8.wrap n=n:=by
 rw [IntKind.wrap_u8];omega
theorem lS (n:Int) (h1: -9223372036854775808≤n) (h2:n≤9223372036854775807):(Lib.itoa n).length≤20:=by
 have hd:∀(k u:Nat),u < 10 ^ k→1≤k→(Lib.decDigits u).length≤k:=by
  intro k
  induction k with
  |zero=>intro u _ h;omega
  |succ k ih=>
   intro u hu _
   rw [Lib.decDigits]
   split
   ·simp
   ·rename_i h10
    rw [List.length_append,List.length_singleton]
    have hk:1≤k:=by
     rcases k with _|k
     ·simp at hu;omega
     ·omega
    have:=ih (u / 10) (by rw [Nat.pow_succ] at hu;omega) hk
    omega
 unfold Lib.itoa
 split
 ·have:=hd 19 n.natAbs (by omega) (by omega)
  rw [List.length_cons];omega
 ·have:=hd 19 n.toNat (by omega) (by omega)
  omega
theorem bC0 (n:Int) (h1: -9223372036854775808≤n) (h2:n≤9223372036854775807):(vY n.natAbs).length≤20:=by
 have:=lS n h1 h2
 unfold vY
 split
 ·simp
 ·unfold Lib.itoa at this
  split at this
  ·rw [List.length_cons] at this;omega
  ·rename_i h
   rw [show n.toNat=n.natAbs by omega] at this
   exact this
end Go.Aw

namespace Go.Aw
open Go.RowKit
section
variable {H : Type} {enc : TypeId × Value → H}
theorem aNd {a:Assume} {C:Checked} {os:Os} {f:FuncId} {fn:Func} {s:ChangeSpec} {conds:List PathCond} {apart fresh handsOn again:Bool} {X:World→Array Value→Prop}
  (hX:∀(w w':World) (args:Array Value),w.heap=w'.heap→X w args→X w' args)
  (own:ownKnob C.prog.godebug=none) (started:os.Started) (noInit:C.prog.inits.idxOf? f=none) (hfn:C.prog.funcs[f]? =some fn)
  (witness:∃(w:World) (tape:Tape) (i:Input),w.os=os∧(w.forCall tape i).Shaped C.prog∧i.vars=[]∧Input.okWide C.prog (w.forCall tape i) .any w.heap.size f i∧
   ((s.pre enc C.prog fn conds apart (w.forCall tape i).memory i.args∧X (w.forCall tape i).memory i.args)∧sizedMet enc C.prog fn (OpenSpec.ofChange s) apart (w.forCall tape i).memory i.args)∧a.holds C.prog (lone (Frame.enter C.prog f i.args .normal) [] (w.forCall tape i)))
  (contract:∀(W:World) (base:Nat) (args:Array Value) (ds gs:List (DataW H)) (before:List MemPlace),
   (∀(j:Nat) t v,fn.params[j]? =some t→args[j]? =some v→Value.okWide C.prog W .any base t v)→
   DataW.Whole enc C.prog fn.params.toList s.vars apart W args.toList ds gs before→X W args→W.ShapedOpen C.prog→
   Calls C.prog f args W fun e W'=>∃v,e= .returned v∧s.post enc C.prog fn apart fresh handsOn again W args v W'):
  ReturnsInHanded a C os f .any (fun w args=>(s.pre enc C.prog fn conds apart w args∧X w args)∧sizedMet enc C.prog fn (OpenSpec.ofChange s) apart w args) (s.post enc C.prog fn apart fresh handsOn again):=by
 refine returnsInHanded_of_calls own started noInit witness ?_
 intro w tape i _ hsh _ hok hpre hholds
 obtain ⟨_,_,_,fn',hfn',_,_,_,_,hval⟩:=hok
 have e:fn'=fn:=Option.some.inj (hfn'.symm.trans hfn)
 subst e
 obtain ⟨⟨⟨ds,gs,before,hw,hc⟩,hx⟩,hz⟩:=hpre
 have hw':=DataW.Whole.of_heap (w':=w.forCall tape i) (by rfl) hw
 refine (contract (w.forCall tape i) w.heap.size i.args ds gs before hval hw' (hX _ _ _ (by rfl) hx) hsh).mono fun e W' ⟨v,he,hp⟩=> ?_
 subst he
 exact ChangeSpec.post_blind hp
end
def aCl (P:Program) (n:Nat) (tabs:List (String×IntKind×List Int)) (ints:List String) (w:World):Prop:=
 n≤w.heap.size∧(∀x∈tabs,Lib.TabIs P w x.1 x.2.1 x.2.2)∧∀x∈ints,∀g,P.globalNamed x=some g→∃m,w.cell? ⟨g,0,none⟩=some (.int .i64 m)
def aWh (P:Program) (n:Nat) (tabs:List (String×IntKind×List Int)) (ints:List String):Bool:=
 (tabs.all fun x=>match P.globalNamed x.1 with|some g=>decide (g < n)|none=>true)&&ints.all fun x=>match P.globalNamed x with|some g=>decide (g < n)|none=>true
theorem aWz {P:Program} {n:Nat} {tabs:List (String×IntKind×List Int)} {ints:List String} (hn:aWh P n tabs ints=true) (w w':World) (h:aCl P n tabs ints w)
  (hs:∀b,b < n→w'.heap[b]? =w.heap[b]?):aCl P n tabs ints w':=by
 obtain ⟨h1,h2,h3⟩:=h
 simp only [aWh,Bool.and_eq_true,List.all_eq_true] at hn
 have hlt:n≤w'.heap.size:=by
  rcases Nat.eq_zero_or_pos n with h0|h0
  ·omega
  ·have:=hs (n - 1) (by omega)
   rw [Array.getElem?_eq_getElem (xs:=w.heap) (i:=n - 1) (by omega)] at this
   have:=(Array.getElem?_eq_some_iff.1 this).1
   omega
 refine ⟨hlt,fun x hx=> ?_,fun x hx g hg=> ?_⟩
 ·have h4:=h2 x hx
  have h5:=hn.1 x hx
  unfold Lib.TabIs World.var? at *
  cases hg:P.globalNamed x.1 with
  |none=>rw [hg] at h4;simp at h4
  |some g=>
   rw [hg] at h4 h5
   simp only [decide_eq_true_eq] at h5
   simp only [Option.bind_some] at h4⊢
   rw [hs g h5]
   exact h4
 ·have h5:=hn.2 x hx
  rw [hg] at h5
  simp only [decide_eq_true_eq] at h5
  obtain ⟨m,hm⟩:=h3 x hx g hg
  refine ⟨m,?_⟩
  simpa [World.cell?,hs g h5] using hm
end Go.Aw

namespace Go.Aw
theorem aT3 {w:World} {g n:Nat} {v:Value} (h:w.cell? ⟨g,0,none⟩=some v) (hn:n≤g+1):n≤w.heap.size:=by
 have:g < w.heap.size:=by
  rcases Nat.lt_or_ge g w.heap.size with h'|h'
  ·exact h'
  ·simp [World.cell?,Array.getElem?_eq_none h'] at h
 omega
end Go.Aw
