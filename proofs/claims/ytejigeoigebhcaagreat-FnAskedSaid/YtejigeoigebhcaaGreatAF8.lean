/-
  Proved here: steps towards the statement of this claim, text F8.
  No condition beyond what each statement spells out.
-/
import Derived.Test.YtejigeoigebhcaaGreatAF6
import Derived.Test.YtejigeoigebhcaaGreatAF3
import Derived.Test.YtejigeoigebhcaaGreatAF9
import Derived.Test.YtejigeoigebhcaaGreatAF4
set_option linter.all false
namespace Go.Aw
section
variable {P : Program} [aB P] {B : Base P} {s : AS} {dst : Option Tmp} {ty : TypeId} {pos : String} {after : Array Edge} {gd : Option (Nat × Bool)}
end
structure Plc where
  at_ : Nat
  n : Nat
  st : List (Nat × aA)
def stg (J:Nat→Bool) (h:aA):List (Nat×aA)→aA
 |[]=>h
 |q::r=>if J q.1=true then q.2 else stg J h r
def vst (i:Nat) (pr:List Nat) (h dead:aA):List (Nat×aA)→aA
 |[]=>h
 |q::r=>if q.1∈pr then q.2 else if q.1=i∨i∈r.map (·.1) then vst i pr h dead r else dead
def hole (n:Nat):aA:=⟨true,false,n,0,[]⟩
def aQr (n:Nat):aA:=⟨false,false,n,0,[]⟩
def aPy (J:Nat→Bool):List Plc→List aA→List aA
 |[],o=>o
 |p::r,o=>aPy J r (o.set p.at_ (stg J (hole p.n) p.st))
def aP8 (i:Nat) (pr:List Nat):List Plc→List aA→List aA
 |[],o=>o
 |p::r,o=>aP8 i pr r (o.set p.at_ (vst i pr (hole p.n) (aQr p.n) p.st))
def aLy (l:List Oper):List (Nat×aA)→Bool
 |[]=>true
 |[_]=>true
 |q::q'::r=>(dL l q.1).contains q'.1&&aLy l (q'::r)
def aR1 (l:List Oper) (fl:List Plc) (n:Nat):Bool:=
 decide (fl.map (·.at_)).Nodup&&(fl.all fun p=>decide (p.at_ < n)&&aLy l p.st&&decide (p.st.map (·.1)).Nodup&&p.st.all fun q=>decide (q.1 < l.length))&&decide ((fl.flatMap fun p=>p.st.map (·.1))).Nodup
end Go.Aw

namespace Go.Aw
@[irreducible] def hide {α:Type} (x:α):α:=x
theorem rV {α:Type} (x:α):hide x=x:=by unfold hide;rfl
def iU (f:Nat→Bool):Code→Code
 | .region id ops true=>if f id then .region id (hide ops) true else .region id ops true
 | .region id ops false=>if f id then hide (.region id ops false) else .region id ops false
 | .seq x y=> .seq (iU f x) (iU f y)
 | .cond c x y=> .cond c (iU f x) (iU f y)
 | .block id c=> .block id (iU f c)
 | .loop c=> .loop (iU f c)
 |c=>c
theorem kS (f:Nat→Bool):∀c:Code,iU f c=c
 | .region id ops true=>by simp only [iU];split<;>simp [rV]
 | .region id ops false=>by simp only [iU];split<;>simp [rV]
 | .seq x y=>by simp [iU,kS f x,kS f y]
 | .cond c x y=>by simp [iU,kS f x,kS f y]
 | .block id c=>by simp [iU,kS f c]
 | .loop c=>by simp [iU,kS f c]
 | .skip=>rfl
 | .exit _=>rfl
 | .ret=>rfl
 | .rangeFunc _ _ _ _=>rfl
 | .scope _=>rfl
 | .label _=>rfl
 | .goto _=>rfl
 | .refuse _=>rfl
theorem aR8 {P:Program} [aB P] (hm:P.follows .mixedOrders=true) {f:FuncId} {fn:Func} {c c':Code} (L:List Nat) (hf:P.funcs[f]? =some fn) {n:Nat} (hn:fn.ntmps=n) {args t:List AV} {rr:AV}
  (h:awp P c' ⟨t,[]⟩ (fun e s=>(e= .normal∨e= .ret)∧Hands P fn s rr)) (hb:fn.body=some c:=by rfl)
  (hc:iU (fun i=>L.contains i) c=c':=by simp [iU];rfl)
  (ht:args++List.replicate (n - args.length) .undef=t:=by
   simp only [List.length_cons,List.length_nil,Nat.reduceSub,Nat.reduceAdd,List.replicate_succ,List.replicate_zero,List.cons_append,List.nil_append];rfl):Ok P f args rr:=by
 subst ht;subst hn;subst hc;rw [kS] at h;exact aDe hm hf hb h
section
variable {P : Program} [aB P] {l : List Oper} {t : List AV} {b : List aA} {fl : List Plc} {K : AS → Prop} {j : Nat} {op : Oper} {r : List Oper} {vs : List AV} {pr : List Nat} {m : List AV} {om : List aA}
end
attribute [simp] aPy aP8 stg vst hole aQr aR1 aLy
end Go.Aw

namespace Go.Aw
def dF (P:Program) (fn:Func) (s:AS) (r:AV):Prop:=
 ∃ys,s.rvs P fn.results.toList=some ys∧bW s.o (single ys)=true∧(uses (single ys)).Nodup∧res s.o (single ys)=r
def jH (P:Program) (fn:Func) (s:AS) (r:AV):Prop:=
 ∃i ys,s.rvB P fn.results.toList=some (i,ys)∧bW s.o (single ys)=true∧(uses (single ys)).Nodup∧i∉uses (single ys)∧res s.o (single ys)=r
theorem gZ {P:Program} {fn:Func} {s:AS} {r:AV} (h:match s.rvB P fn.results.toList with|some (i,ys)=>bW s.o (single ys)=true∧(uses (single ys)).Nodup∧i∉uses (single ys)∧res s.o (single ys)=r|none=>False):jH P fn s r:=by
 unfold jH
 split at h
 ·rename_i i ys hx;exact ⟨i,ys,hx,h⟩
 ·exact h.elim
theorem aJx {P:Program} [aB P] (hm:P.follows .mixedOrders=true) {f:FuncId} {fn:Func} {c:Code} (hf:P.funcs[f]? =some fn) (hb:fn.body=some c) {args:List AV} {rr:AV} (hflat:nX args=true)
  (h:awp P c ⟨args++List.replicate (fn.ntmps - args.length) .undef,[]⟩ (fun e s=>(e= .normal∨e= .ret)∧(dF P fn s rr∨jH P fn s rr))):Ok P f args rr:=by
 intro w vs hg hargs
 have hl:=bV hargs
 have r0:aI ⟨w,fun _=>False,fun _=>False,fun _=>none,fun _=>none,hg,fun _ h=>h.elim,fun _ h=>h.elim⟩ ⟨args++List.replicate (fn.ntmps - args.length) .undef,[]⟩ [] {tmps:=vs.toArray++Array.replicate (fn.ntmps - vs.toArray.size) Go.undef,defers:=[]} w:=by
  refine ⟨rfl,rfl,fun i ob g hl=>by simp [look] at hl,fun i j oi oj gi gj b hl=>by simp [look] at hl,fun i ob g b hl=>by simp [look] at hl,?_,Nat.le_refl _,fun _ _ _=>rfl,fun b hb=>hb.elim,Same.rfl⟩
  have h1:Rc w (env ⟨w,fun _=>False,fun _=>False,fun _=>none,fun _=>none,hg,fun _ h=>h.elim,fun _ h=>h.elim⟩ [] [] w) args vs []:=vX _ _ _ hflat hargs
  have h2:∀n,Rc w (env ⟨w,fun _=>False,fun _=>False,fun _=>none,fun _=>none,hg,fun _ h=>h.elim,fun _ h=>h.elim⟩ [] [] w) (List.replicate n .undef) (List.replicate n Go.undef) []:=by
   intro n
   induction n with
   |zero=>simp [Rc]
   |succ n ih=>simp only [List.replicate_succ,Rc];exact ⟨[],[],by simp [R],ih,rfl⟩
  have:=dM h1 (h2 (fn.ntmps - args.length))
  simpa [hl] using this
 refine calls_of_wp hf hb (wp_mono (gM hm c _ _ h _ _ ⟨_,r0⟩) fun e a w' he=> ?_)
 obtain ⟨s,⟨he,hhands⟩,G,r⟩:=he
 have key:∃(v:Value) (fp:List Nat),(results fn a.tmps).run P w'= .ok v w'∧R w' (env ⟨w,fun _=>False,fun _=>False,fun _=>none,fun _=>none,hg,fun _ h=>h.elim,fun _ h=>h.elim⟩ s.o G w').plain rr v fp∧fp.Nodup∧∀b∈fp,∃j ob g,look s.o G j ob g∧ob.live=true∧g.F b:=by
  rcases hhands with ⟨ys,hys,hok,hu,hres⟩|⟨i,ys,hys,hok,hu,hi,hres⟩
  ·obtain ⟨v,hrun,hR⟩:=lF r hys
   obtain ⟨fp,h1,h2,h3⟩:=rH r _ v hok hu hR
   rw [hres] at h1
   exact ⟨v,fp,hrun,h1,h2,fun b hb=>by obtain ⟨i,ob,g,_,h⟩:=h3 b hb;exact ⟨i,ob,g,h⟩⟩
  ·obtain ⟨v,fp0,ob,g,hlk,hlive,hrun,hR,hnd,hF⟩:=nZ r hys
   obtain ⟨fp,h1,h2,h3⟩:=yC r hlk hlive _ v fp0 hok hu hi hnd hF hR
   rw [hres] at h1
   refine ⟨v,fp,hrun,h1,h2,fun b hb=> ?_⟩
   rcases h3 b hb with h|⟨j,ob',g',_,h⟩
   ·exact ⟨i,ob,g,hlk,hlive,hF b h⟩
   ·exact ⟨j,ob',g',h⟩
 obtain ⟨v,fp,hrun,h1,h2,h3⟩:=key
 have hfin:∃v' fp,Ending.returned v= .returned v'∧R w' (mR w.heap.size w' fp) rr v' fp∧fp.Nodup∧(∀b∈fp,w.heap.size≤b∧b < w'.heap.size)∧w.heap.size≤w'.heap.size∧(∀b,b < w.heap.size→w'.heap[b]? =w.heap[b]?)∧Same w w':=by
  refine ⟨v,fp,rfl,?_,h2,fun b hb=> ?_,r.size,fun b hb=>r.frame b hb (fun h=>h),r.same⟩
  ·have k:aT w' (env ⟨w,fun _=>False,fun _=>False,fun _=>none,fun _=>none,hg,fun _ h=>h.elim,fun _ h=>h.elim⟩ s.o G w').plain w' (mR w.heap.size w' fp):=
    ⟨fun b hb=>⟨⟨(hb.1.resolve_left (fun h=>h)).1,(hb.1.resolve_left (fun h=>h)).2,fun hm=>by
     obtain ⟨j,ob,g,hl,hlive,hF⟩:=h3 b hm
     exact hb.2 j ob g hl hlive hF⟩,rfl⟩,fun _ _=>trivial,fun _ _ _ h=>h.elim,fun _ _ _ h=>h.elim,fun _ _ _ _ _ h=>h.elim⟩
   exact fA k _ _ _ (fun _ _=>rfl) h1
  ·obtain ⟨i,ob,g,hl,hlive,hF⟩:=h3 b hb
   have:=r.fresh _ _ _ b hl hlive hF
   exact ⟨this.1.resolve_left (fun h=>h),this.2⟩
 rcases he with rfl|rfl
 ·exact ⟨r.defs,v,hrun,hfin⟩
 ·exact ⟨r.defs,v,hrun,hfin⟩
theorem uW {P:Program} [aB P] (hm:P.follows .mixedOrders=true) {f:FuncId} {fn:Func} {c:Code} (hf:P.funcs[f]? =some fn) {n:Nat} (hn:fn.ntmps=n) {args t:List AV} {rr:AV}
  (h:awp P c ⟨t,[]⟩ (fun e s=>(e= .normal∨e= .ret)∧(dF P fn s rr∨jH P fn s rr))) (hb:fn.body=some c:=by rfl) (hflat:nX args=true:=by simp [nX,iL])
  (ht:args++List.replicate (n - args.length) .undef=t:=by
   simp only [List.length_cons,List.length_nil,Nat.reduceSub,Nat.reduceAdd,List.replicate_succ,List.replicate_zero,List.cons_append,List.nil_append];rfl):Ok P f args rr:=by
 subst ht;subst hn;exact aJx hm hf hb hflat h
theorem Ok.vw {P:Program} [aB P] {f:FuncId} {args:List AV} {r:AV} (h:Ok P f args r):Ok P f args (rt (fun _=>some .view) false r):=by
 intro w vs hg hr
 refine Calls.mono (h w vs hg hr) fun e w' he=> ?_
 obtain ⟨v,fp,rfl,h1,h2,h3,h4,h5,h6⟩:=he
 have k:dX (fun _=>some .view) false (mR w.heap.size w' fp) (mR w.heap.size w' []) (· ∈fp):=
  {own:=fun g e=>by obtain rfl:=Option.some.inj e;exact ⟨by simp,fun b hb=>⟨(h3 b hb).1,(h3 b hb).2,by simp⟩⟩
   view:=fun g e=>by obtain rfl:=Option.some.inj e;exact ⟨rfl,fun b hb=>⟨hb.1,hb.2.1,by simp⟩⟩
   dep:=fun i g e=>by obtain rfl:=Option.some.inj e;exact ⟨by simp,.inl trivial,fun b hb=>hb.elim⟩
   hh:=fun h=>by cases h
   hl:=fun h=>by cases h}
 exact ⟨v,[],rfl,aJl k r v fp (fun _ h=>h) h1,by simp,by simp,h4,h5,h6⟩
theorem Ok.vwas {P:Program} [aB P] {f:FuncId} {args:List AV} {r r':AV} (h:Ok P f args r) (e:rt (fun _=>some .view) false r=r'):Ok P f args r':=e▸h.vw
end Go.Aw

namespace Go.Aw
def swp (i j k:Nat):Nat:=if k=i then j else if k=j then i else k
def moved (i j k:Nat):Prop:=k=i∨k=j
instance (i j k : Nat) : Decidable (moved i j k) := by unfold moved; infer_instance
theorem aOs {i j k:Nat} (h:¬moved i j k):swp i j k=k:=by
 unfold moved at h;unfold swp
 rw [if_neg (fun e=>h (.inl e)),if_neg (fun e=>h (.inr e))]
def gsw (i j:Nat):Tg→Tg
 | .dep k=> .dep (swp i j k)
 |g=>g
mutual
def rsw (i j : Nat) : AV → AV
  | .obj k v => if moved i j k then (if v = 0 then .undef else .obj (swp i j k) v) else .obj k v
  | .ptr k v idx off => if moved i j k then .undef else .ptr k v idx off
  | .sl g n l => .sl (gsw i j g) n (uQ i j l)
  | .vptr g c off => .vptr (gsw i j g) (uV i j c) off
  | .agg c => .agg (uV i j c)
  | .tup c => .tup (uV i j c)
  | .fn f c => .fn f (uV i j c)
  | .int k n => .int k n
  | .bool b => .bool b
  | .str s => .str s
  | .undef => .undef
def uV (i j : Nat) : List AV → List AV
  | [] => []
  | x :: xs => rsw i j x :: uV i j xs
def uQ (i j : Nat) : List (List AV) → List (List AV)
  | [] => []
  | x :: xs => uV i j x :: uQ i j xs
end
theorem zO (i j:Nat):∀l,(uQ i j l).length=l.length
 |[]=>rfl
 |_::l=>by simp [uQ,zO i j l]
structure Ren (i j : Nat) (E E' : Env) : Prop where
  a : ∀ b, E.A b → E'.A b
  v : ∀ k, E'.V (swp i j k) → E.V k
  d : ∀ k b, E.D k b → E'.D (swp i j k) b
  h : ∀ k ver x, (moved i j k → ver ≠ 0) → E.H k ver x → E'.H (swp i j k) ver x
  l : ∀ k ver idx off x, ¬ moved i j k → E.L k ver idx off x → E'.L k ver idx off x
theorem Ren.plain {i j:Nat} {E E':Env} (k:Ren i j E E'):Ren i j E.plain E'.plain:=
 ⟨k.a,fun _ _=>trivial,fun _ _ h=>h.elim,fun _ _ _ _ h=>h.elim,fun _ _ _ _ _ _ h=>h.elim⟩
theorem Ren.sub {i j:Nat} {E E':Env} (k:Ren i j E E') (g:Tg):Ren i j (E.sub g) (E'.sub (gsw i j g)):=by
 cases g with
 |own=>exact k.plain
 |view=>exact k.plain
 |dep q=>exact ⟨k.a,fun _ _=>trivial,fun r b h=>⟨by rw [h.1],k.d _ _ h.2⟩,fun _ _ _ _ h=>h.elim,fun _ _ _ _ _ _ h=>h.elim⟩
theorem Ren.dead {i j:Nat} {E E':Env} (k:Ren i j E E') {g:Tg} (h:E.dead g):E'.dead (gsw i j g):=by
 cases g with
 |own=>exact h
 |view=>exact h
 |dep q=>exact fun hv=>h (k.v q hv)
theorem Ren.tg {i j:Nat} {E E':Env} (k:Ren i j E E') {g:Tg} {b:Nat} (h:E.tg g b):E'.tg (gsw i j g) b:=by
 cases g with
 |own=>exact h
 |view=>exact k.a b h
 |dep q=>exact k.d q b h
theorem aB9 {i j:Nat} {g:Tg}:gsw i j g= .own↔g= .own:=by cases g<;>simp [gsw]
mutual
theorem aRf {w : World} {i j : Nat} {E E' : Env} (k : Ren i j E E') : ∀ (x : AV) (v : Value) (fp : List Nat), R w E x v fp → R w E' (rsw i j x) v fp
  | .obj q u, v, fp, h => by
    simp only [rsw]
    simp only [R] at h
    by_cases hm : moved i j q
    · rw [if_pos hm]
      by_cases hu : u = 0
      · rw [if_pos hu]; simp only [R]; exact h.1
      · rw [if_neg hu]; simp only [R]; exact ⟨h.1, k.h _ _ _ (fun _ => hu) h.2⟩
    · rw [if_neg hm]
      simp only [R]
      have := k.h q u v (fun hm' => absurd hm' hm) h.2
      rw [aOs hm] at this
      exact ⟨h.1, this⟩
  | .ptr q u idx off, v, fp, h => by
    simp only [rsw]
    simp only [R] at h
    by_cases hm : moved i j q
    · rw [if_pos hm]; simp only [R]; exact h.1
    · rw [if_neg hm]; simp only [R]; exact ⟨h.1, k.l _ _ _ _ _ hm h.2⟩
  | .sl g n l, v, fp, h => by
    simp only [rsw, R, zO] at h ⊢
    rcases h with h | ⟨a, cap, hv, hl, h⟩
    · exact .inl ⟨k.dead h.1, h.2⟩
    refine .inr ⟨a, cap, hv, hl, ?_⟩
    rcases h with ⟨hg, hl0, h1, h2⟩ | ⟨hg, b, off, C, e, fz, fps, ha, hb, hz, h1, h2, h3, hfp, hr⟩ | ⟨hg, hfp, h⟩
    · exact .inl ⟨aB9.2 hg, by rw [hl0]; rfl, h1, h2⟩
    · exact .inr (.inl ⟨aB9.2 hg, b, off, C, e, fz, fps, ha, hb, hz, h1, h2, h3, hfp, aGk (k.sub g) _ _ _ _ _ hr⟩)
    · refine .inr (.inr ⟨fun e => hg (aB9.1 e), hfp, ?_⟩)
      rcases h with rfl | ⟨b, off, ha, ht, hr⟩
      · exact .inl rfl
      · exact .inr ⟨b, off, ha, k.tg ht, aGk (k.sub g) _ _ _ _ _ hr⟩
  | .vptr g c off, v, fp, h => by
    simp only [rsw, R] at h ⊢
    rcases h with h | ⟨hfp, b, o, cs, hv, ht, hcs, hc, hr⟩
    · exact .inl ⟨k.dead h.1, h.2⟩
    · exact .inr ⟨hfp, b, o, cs, hv, k.tg ht, hcs, hc, vE (k.sub g) _ _ _ hr⟩
  | .agg c, v, fp, h => by
    simp only [rsw, R] at h ⊢
    obtain ⟨cs, h1, h2, h3⟩ := h
    exact ⟨cs, h1, h2, vE k c cs fp h3⟩
  | .tup c, v, fp, h => by
    simp only [rsw, R] at h ⊢
    obtain ⟨cs, h1, h3⟩ := h
    exact ⟨cs, h1, vE k c cs fp h3⟩
  | .fn f c, v, fp, h => by
    simp only [rsw, R] at h ⊢
    obtain ⟨h0, cs, h1, h3⟩ := h
    exact ⟨h0, cs, h1, vE k c cs [] h3⟩
  | .int _ _, v, fp, h => by simpa [rsw, R] using h
  | .bool _, v, fp, h => by simpa [rsw, R] using h
  | .str _, v, fp, h => by simpa [rsw, R] using h
  | .undef, v, fp, h => by simpa [rsw, R] using h
theorem vE {w : World} {i j : Nat} {E E' : Env} (k : Ren i j E E') : ∀ (c : List AV) (cs : List Value) (fp : List Nat), Rc w E c cs fp → Rc w E' (uV i j c) cs fp
  | [], [], _, h => by simpa [Rc, uV] using h
  | [], _ :: _, _, h => by simp [Rc] at h
  | _ :: _, [], _, h => by simp [Rc] at h
  | x :: xs, c :: cs, fp, h => by
    simp only [Rc, uV] at h ⊢
    obtain ⟨f1, f2, h1, h2, h3⟩ := h
    exact ⟨f1, f2, aRf k x c f1 h1, vE k xs cs f2 h2, h3⟩
theorem aGk {w : World} {i j : Nat} {E E' : Env} (k : Ren i j E E') : ∀ (l : List (List AV)) (b off n : Nat) (fp : List Nat), Rr w E l b off n fp → Rr w E' (uQ i j l) b off n fp
  | [], _, _, _, _, h => by simpa [Rr, uQ] using h
  | e :: es, b, off, n, fp, h => by
    simp only [Rr, uQ] at h ⊢
    obtain ⟨cs, f1, f2, h1, h2, h3, h4, h5, h6⟩ := h
    exact ⟨cs, f1, f2, h1, h2, h3, vE k e cs f1 h4, aGk k es b (off + n) n f2 h5, h6⟩
end
def aA.rsw (i j:Nat) (ob:aA):aA:=if ob.box=true then {ob with els:=uQ i j ob.els} else ob
@[simp] theorem aSc (i j:Nat) (l:Bool) (n v:Nat) (els:List (List AV)):aA.rsw i j ⟨l,false,n,v,els⟩=⟨l,false,n,v,els⟩:=rfl
@[simp] theorem aSd (i j:Nat) (l:Bool) (n v:Nat) (els:List (List AV)):aA.rsw i j ⟨l,true,n,v,els⟩=⟨l,true,n,v,uQ i j els⟩:=rfl
attribute [simp] rsw uV uQ gsw swp moved
end Go.Aw

namespace Go.Aw
def Fc (E:Env) (k:Nat) (os:List aA) (Gs:List CO):Prop:=
 ∀j ob g,look os Gs j ob g→E.H (k+j) ob.ver (.slice g.a ob.els.length g.cap)∧(ob.box=true→∀b f,g.a=some ⟨b,f,none⟩→E.L (k+j) ob.ver 0 0 (.pointer (some ⟨b,f,none⟩)))
theorem Fc.left {E:Env} {k:Nat} {o1 o2:List aA} {G1 G2:List CO} (h:Fc E k (o1++o2) (G1++G2)):Fc E k o1 G1:=fun j ob g hl=>h j ob g (fP hl)
theorem Fc.right {E:Env} {k:Nat} {o1 o2:List aA} {G1 G2:List CO} (hlen:G1.length=o1.length) (h:Fc E k (o1++o2) (G1++G2)):Fc E (k+o1.length) o2 G2:=fun j ob g hl=>by
 have:=h _ ob g (fZ hlen hl)
 rwa [←Nat.add_assoc] at this
def Ent (w:World) (E:Env) (k:Nat) (os:List aA) (fp:List Nat) (pin:List CO→Prop) (done:Env→Prop):Prop:=
 ∃Gs:List CO,Gs.length=os.length∧
  (∀j ob g,look os Gs j ob g→ob.live=true∧(ob.box=false→ob.ver=1)∧(ob.box=true→ob.ver=2)∧∃f,f.Nodup∧(∀b,g.F b↔b∈f)∧(∀b∈f,b∈fp)∧
   ∀E',aT w E w E'→Fc E' k os Gs→gH w (E'.of ob.box) ob.n ob.els g.a g.cap f)∧
  (∀i j oi oj gi gj b,look os Gs i oi gi→look os Gs j oj gj→gi.F b→gj.F b→i=j)∧pin Gs∧
  ∀E':Env,aT w E w E'→Fc E' k os Gs→done E'
theorem Ent.append {w:World} {E:Env} {k:Nat} {o1 o2:List aA} {f1 f2:List Nat} {p1 p2 p:List CO→Prop} {d1 d2 d:Env→Prop} (h1:Ent w E k o1 f1 p1 d1) (h2:Ent w E (k+o1.length) o2 f2 p2 d2) (hn:(f1++f2).Nodup)
  (hp:∀G1 G2,G1.length=o1.length→p1 G1→p2 G2→p (G1++G2)) (hd:∀E',d1 E'→d2 E'→d E'):Ent w E k (o1++o2) (f1++f2) p d:=by
 obtain ⟨G1,l1,a1,b1,q1,c1⟩:=h1
 obtain ⟨G2,l2,a2,b2,q2,c2⟩:=h2
 have hdj:=(List.nodup_append.1 hn).2.2
 refine ⟨G1++G2,by simp [l1,l2],?_,?_,hp G1 G2 l1 q1 q2,fun E' hk hf=>hd E' (c1 E' hk hf.left) (c2 E' hk (hf.right l1))⟩
 ·intro j ob g hl
  rcases eU l1 hl with ⟨_,h⟩|⟨_,h⟩
  ·obtain ⟨x,y,y',f,z1,z2,z3,z4⟩:=a1 _ _ _ h
   exact ⟨x,y,y',f,z1,z2,fun b hb=>List.mem_append_left _ (z3 b hb),fun E' hk hf=>z4 E' hk hf.left⟩
  ·obtain ⟨x,y,y',f,z1,z2,z3,z4⟩:=a2 _ _ _ h
   exact ⟨x,y,y',f,z1,z2,fun b hb=>List.mem_append_right _ (z3 b hb),fun E' hk hf=>z4 E' hk (hf.right l1)⟩
 ·intro i j oi oj gi gj b hi hj hfi hfj
  rcases eU l1 hi with ⟨_,h⟩|⟨hi',h⟩<;>rcases eU l1 hj with ⟨_,h'⟩|⟨hj',h'⟩
  ·exact b1 _ _ _ _ _ _ b h h' hfi hfj
  ·obtain ⟨_,_,_,f,_,z2,z3,_⟩:=a1 _ _ _ h
   obtain ⟨_,_,_,f',_,z2',z3',_⟩:=a2 _ _ _ h'
   exact absurd rfl (hdj b (z3 b ((z2 b).1 hfi)) b (z3' b ((z2' b).1 hfj)))
  ·obtain ⟨_,_,_,f,_,z2,z3,_⟩:=a2 _ _ _ h
   obtain ⟨_,_,_,f',_,z2',z3',_⟩:=a1 _ _ _ h'
   exact absurd rfl (hdj b (z3' b ((z2' b).1 hfj)) b (z3 b ((z2 b).1 hfi)))
  ·have:=b2 _ _ _ _ _ _ b h h' hfi hfj
   omega
end Go.Aw

namespace Go.Aw
end Go.Aw

namespace Go.Aw
theorem aIp:∀a b:List UInt8,Lib.compareBytes a b=if a=b then 0 else if Op.bytesLess a b=true then -1 else 1
 |[],[]=>rfl
 |[],_::_=>by simp [Lib.compareBytes,Op.bytesLess]
 |_::_,[]=>by simp [Lib.compareBytes,Op.bytesLess]
 |x::xs,y::ys=>by
  have ih:=aIp xs ys
  simp only [Lib.compareBytes,Op.bytesLess]
  by_cases h:x < y
  ·have hne:x≠y:=UInt8.ne_of_lt h
   simp [h,hne]
  ·by_cases h2:y < x
   ·have hne:x≠y:=(UInt8.ne_of_lt h2).symm
    simp [h,h2,hne]
   ·have he:x=y:=UInt8.le_antisymm (UInt8.not_lt.1 h2) (UInt8.not_lt.1 h)
    subst he
    simp [h,ih]
theorem aHs {P:Program} [aB P] {f:FuncId} {fn:Func} (hf:P.funcs[f]? =some fn) (hname:(fn.name == "runtime.NumGoroutine")=false)
  (hb:fn.body.isNone=true) (hn:Extern.findNext fn=none) (he:Extern.find fn=some Extern.BytealgCompare.compare) (s t:Str):
  OkN P f [.str s,.str t] (.int .i64 (Lib.compareBytes s t)):=by
 intro w vs h
 obtain ⟨v1,h⟩:∃v:Value,vs=[.string ⟨s.toArray⟩,.string ⟨t.toArray⟩]:=by
  cases vs with
  |nil=>simp [Rc] at h
  |cons a vs=>cases vs with
   |nil=>simp [Rc] at h
   |cons b vs=>cases vs with
    |nil=>
     simp only [Rc,R] at h
     obtain ⟨f1,f2,h1,h2,h3⟩:=h
     obtain ⟨f3,f4,h4,h5,h6⟩:=h2
     exact ⟨a,by rw [h1.1,h4.1]⟩
    |cons d vs=>
     simp only [Rc,R] at h
     obtain ⟨f1,f2,h1,h2,h3⟩:=h
     obtain ⟨f3,f4,h4,h5,h6⟩:=h2
     simp [Rc] at h5
 subst h
 refine ⟨.int .i64 (Lib.compareBytes s t),w,?_,rfl,Same.rfl,fun _ _=>by simp [R]⟩
 rw [run_callFunc_extern hf hname hb hn he,show [Value.string ⟨s.toArray⟩,Value.string ⟨t.toArray⟩].toArray=#[Value.string ⟨s.toArray⟩,Value.string ⟨t.toArray⟩] from rfl,Go.Lib.run_compareString]
 rfl
end Go.Aw

namespace Go.Aw
theorem aHr {w:World} {E:Env} {code:List UInt8} {i h:Int} {a:Option Addr} {cap:Nat} {fp:List Nat} (ho:gH w E 3 [aD code i h] a cap fp):code.length≤maxLen:=by
 rcases ho.2 with h0|⟨b,off,C,e,fz,fps,ha,hb,hz,h1,h2,h3,hf,hr⟩
 ·exact absurd h0.1 (by simp)
 ·simp only [Rr,aD] at hr
  obtain ⟨cs,f1,f2,hn,hc,hone,hrc,hf2,hfe⟩:=hr
  cases cs with
  |nil=>simp at hn
  |cons v0 cs=>
   simp only [Rc,R] at hrc
   obtain ⟨g1,g2,r1,_⟩:=hrc
   rcases r1 with h|⟨_,_,_,hl,_⟩
   ·exact h.1.elim
   ·simpa [aN] using hl.1
def xM (P : Program) (fn : Func) (s : AS) (code : List UInt8) (r : AV) : Prop :=
  s.t.getD 0 .undef = .ptr 0 2 0 0 ∧ (∃ i h : Int, 0 ≤ i ∧ s.o[0]? = some ⟨true, true, 3, 2, [aD code i h]⟩) ∧
  ((∃ ys, s.rvs P fn.results.toList = some ys ∧ bW s.o (single ys) = true ∧ (0 :: uses (single ys)).Nodup ∧ res s.o (single ys) = r) ∨
   (∃ j ys, s.rvB P fn.results.toList = some (j, ys) ∧ bW s.o (single ys) = true ∧ (0 :: uses (single ys)).Nodup ∧ j ∉ uses (single ys) ∧ j ≠ 0 ∧ res s.o (single ys) = r))
theorem aBc {P:Program} [aB P] (hm:P.follows .mixedOrders=true) {f:FuncId} {fn:Func} {c:Code} (hf:P.funcs[f]? =some fn) (hb:fn.body=some c) {xs:List AV} {Q:AV→Prop} (hflat:xs.all bU=true)
  (h:∀code i h,0≤i→code.length≤maxLen→awp P c ⟨.ptr 0 2 0 0::xs++List.replicate (fn.ntmps - (xs.length+1)) .undef,[⟨true,true,3,2,[aD code i h]⟩]⟩ (fun e s=>(e= .normal∨e= .ret)∧∃r,Q r∧xM P fn s code r)):OkC P f xs Q:=by
 intro w S b fo cap code vs hg hlow hbl hSb hS hcur hargs
 obtain ⟨i,h',hi,hown⟩:=hcur
 have hcl0:code.length≤maxLen:=aHr hown
 have hl:=bV hargs
 generalize hB:(⟨w,fun x=>S x∨x=b,(· =b),fun _=>none,fun j=>if j=0 then some (.pointer (some ⟨b,fo,none⟩),cap) else none,hg,fun x e=>by rw [e];exact hlow,fun x e=> .inr e⟩:Base P)=B
 have hw0:B.w0=w:=by rw [←hB]
 have hA0:∀x,B.A0 x↔(S x∨x=b):=by intro x;rw [←hB]
 have hO0:∀x,B.O0 x↔x=b:=by intro x;rw [←hB]
 have hp0:B.p0 0=some (.pointer (some ⟨b,fo,none⟩),cap):=by rw [←hB];rfl
 have hh0:∀j,B.h0 j=none:=by intro j;rw [←hB]
 generalize hob:(⟨true,true,3,2,[aD code i h']⟩:aA)=ob
 generalize hgo:(⟨some ⟨b,fo,none⟩,cap,(· =b)⟩:CO)=go
 have hobp:ob.live=true∧ob.box=true∧ob.n=3∧ob.ver=2∧ob.els=[aD code i h']:=by rw [←hob];exact ⟨rfl,rfl,rfl,rfl,rfl⟩
 have hgop:go.a=some ⟨b,fo,none⟩∧go.cap=cap∧∀x,go.F x↔x=b:=by rw [←hgo];exact ⟨rfl,rfl,fun _=>Iff.rfl⟩
 have lk0:∀{j o2 g2},look [ob] [go] j o2 g2→j=0∧o2=ob∧g2=go:=by
  rintro j o2 g2 ⟨h1,h2⟩
  cases j with
  |zero=>simp at h1 h2;exact ⟨rfl,h1.symm,h2.symm⟩
  |succ j=>simp at h1
 have hlk:look [ob] [go] 0 ob go:=⟨rfl,rfl⟩
 have hEA:∀x,S x→(env B [ob] [go] w).A x:=fun x hx=>⟨.inl ((hA0 x).2 (.inl hx)),fun j o2 g2 h2 _ hF=>by
  obtain ⟨_,_,rfl⟩:=lk0 h2
  exact hSb (((hgop.2.2 x).1 hF)▸hx)⟩
 have r0:aI B ⟨.ptr 0 2 0 0::xs++List.replicate (fn.ntmps - (xs.length+1)) .undef,[ob]⟩ [go] {tmps:=(.pointer (some ⟨b,fo,none⟩)::vs).toArray++Array.replicate (fn.ntmps - (.pointer (some ⟨b,fo,none⟩)::vs).toArray.size) Go.undef,defers:=[]} w:=by
  refine ⟨rfl,rfl,?_,?_,?_,?_,by rw [hw0];exact Nat.le_refl _,fun x _ _=>by rw [hw0],?_,by rw [hw0];exact Same.rfl⟩
  ·intro j o2 g2 h2 _
   obtain ⟨_,rfl,rfl⟩:=lk0 h2
   refine ⟨[b],?_,by simp,by simp [hgop.2.2]⟩
   rw [hobp.2.1,hobp.2.2.1,hobp.2.2.2.2,hgop.1,hgop.2.1]
   simp only [Env.of,if_true]
   exact oU (E:=jE S) ⟨fun x hx=>⟨hEA x hx,rfl⟩,fun _ _=>trivial,fun _ _ _ h=>h.elim,fun _ _ _ h=>h.elim,fun _ _ _ _ _ h=>h.elim⟩ hown
  ·intro j1 j2 o1 o2 g1 g2 x a1 a2 _ _ _ _
   obtain ⟨rfl,_,_⟩:=lk0 a1
   obtain ⟨rfl,_,_⟩:=lk0 a2
   rfl
  ·intro j o2 g2 x h2 _ hF
   obtain ⟨_,rfl,rfl⟩:=lk0 h2
   have:=(hgop.2.2 x).1 hF
   exact ⟨.inl ((hO0 x).2 this),by rw [this];exact hbl⟩
  ·have h1:Rc w (env B [ob] [go] w) xs vs []:=aA8 (E:=jE S) (E':=env B [ob] [go] w) ⟨fun x hx=>⟨hEA x hx,rfl⟩,fun _ _=>trivial,fun _ _ _ h=>h.elim,fun _ _ _ h=>h.elim,fun _ _ _ _ _ h=>h.elim⟩ hflat hargs
   have h2:∀n,Rc w (env B [ob] [go] w) (List.replicate n .undef) (List.replicate n Go.undef) []:=by
    intro n
    induction n with
    |zero=>simp [Rc]
    |succ n ih=>simp only [List.replicate_succ,Rc];exact ⟨[],[],by simp [R],ih,rfl⟩
   have h3:R w (env B [ob] [go] w) (.ptr 0 2 0 0) (.pointer (some ⟨b,fo,none⟩)) []:=by
    simp only [R]
    refine ⟨trivial,ob,go,hlk,by rw [hobp.2.2.2.1];exact Nat.le_refl _,fun _ _=>⟨b,fo,hgop.1,by simp⟩,fun _ _ _ _ x hx=> ?_⟩
    rw [hp0] at hx
    obtain rfl:=Option.some.inj hx
    exact ⟨rfl,fun _ _=>hgop.2.1⟩
   have:=dM (dM (f1:=[]) (f2:=[]) (show Rc w (env B [ob] [go] w) [.ptr 0 2 0 0] [.pointer (some ⟨b,fo,none⟩)] [] by simp only [Rc];exact ⟨[],[],h3,rfl,rfl⟩) h1) (h2 (fn.ntmps - (xs.length+1)))
   simpa [hl] using this
  ·intro x hx
   rw [hw0]
   rcases (hA0 x).1 hx with h|h
   ·exact hS x h
   ·rw [h];exact hbl
 refine calls_of_wp hf hb (wp_mono (gM hm c _ _ (hob▸h code i h' hi hcl0) _ _ ⟨_,r0⟩) fun e a w' he=> ?_)
 obtain ⟨s,⟨he,rv,hQ,ht,⟨i2,h2,hi2,ho2⟩,hhands⟩,G,r⟩:=he
 have hob2:AV.isObj s.o 0 2=some ⟨true,true,3,2,[aD code i2 h2]⟩:=by simp [AV.isObj,ho2]
 obtain ⟨g,b2,f2,hlk2,hlive2,hga2,hv2⟩:=r.ptr (x:= .tmp 0) ht hob2
 have hpin:=r.pin (x:= .tmp 0) ht hob2 hlk2 rfl rfl rfl rfl _ hp0
 rw [hv2] at hpin
 obtain ⟨hp1,hp2⟩:=hpin
 have hcap:g.cap=cap:=hp2 rfl rfl
 simp only [Value.pointer.injEq,Nat.zero_mul,Nat.add_zero,Option.some.injEq,Addr.mk.injEq,and_true] at hp1
 obtain ⟨rfl,rfl⟩:=hp1
 obtain ⟨fp0,hown2,_,hF2⟩:=r.ok 0 _ g hlk2 rfl
 simp only [Env.of,if_true] at hown2
 obtain ⟨b3,off3,ha3,rfl⟩:=vT hown2
 rw [hga2] at ha3
 simp only [Option.some.injEq,Addr.mk.injEq,and_true] at ha3
 obtain ⟨rfl,rfl⟩:=ha3
 have hbF:g.F b2:=hF2 b2 (by simp)
 have key:∃(v:Value) (fp:List Nat),(results fn a.tmps).run P w'= .ok v w'∧R w' (env B s.o G w').plain rv v fp∧fp.Nodup∧∀x∈fp,∃j ob g,j≠0∧look s.o G j ob g∧ob.live=true∧g.F x:=by
  rcases hhands with ⟨ys,hys,hok,hu,hres⟩|⟨j,ys,hys,hok,hu,hj,hj0,hres⟩
  ·obtain ⟨v,hrun,hR⟩:=lF r hys
   rw [List.nodup_cons] at hu
   obtain ⟨fp,h1,h2,h3⟩:=rH r _ v hok hu.2 hR
   rw [hres] at h1
   exact ⟨v,fp,hrun,h1,h2,fun x hx=>by obtain ⟨j,ob,g,hj,h⟩:=h3 x hx;exact ⟨j,ob,g,fun e=>hu.1 (e▸hj),h⟩⟩
  ·obtain ⟨v,fp0,ob1,g1,hlk1,hlive1,hrun,hR,hnd,hF⟩:=nZ r hys
   rw [List.nodup_cons] at hu
   obtain ⟨fp,h1,h2,h3⟩:=yC r hlk1 hlive1 _ v fp0 hok hu.2 hj hnd hF hR
   rw [hres] at h1
   refine ⟨v,fp,hrun,h1,h2,fun x hx=> ?_⟩
   rcases h3 x hx with h|⟨j2,ob',g',hj2,h⟩
   ·exact ⟨j,ob1,g1,hj0,hlk1,hlive1,hF x h⟩
   ·exact ⟨j2,ob',g',fun e=>hu.1 (e▸hj2),h⟩
 obtain ⟨v,fp,hrun,k1,k2,k3⟩:=key
 have hfp:∀x∈fp,w.heap.size≤x∧x < w'.heap.size:=fun x hx=>by
  obtain ⟨j,ob1,g1,hj,hl1,hlive1,hF⟩:=k3 x hx
  have:=r.fresh _ _ _ x hl1 hlive1 hF
  refine ⟨?_,this.2⟩
  rcases this.1 with h|h
  ·have e:=(hO0 x).1 h
   exact absurd (r.apart _ _ _ _ _ _ x hl1 hlk2 hlive1 rfl hF (e▸hbF)) hj
  ·rwa [hw0] at h
 have hkp:aT w' (env B s.o G w').plain w' (jE fun x=>(S x∨(w.heap.size≤x∧x < w'.heap.size))∧x∉fp):=by
  refine ⟨fun x hx=>⟨⟨?_,fun hm=> ?_⟩,rfl⟩,fun _ _=>trivial,fun _ _ _ h=>h.elim,fun _ _ _ h=>h.elim,fun _ _ _ _ _ h=>h.elim⟩
  ·rcases hx.1 with h|h
   ·rcases (hA0 x).1 h with h|h
    ·exact .inl h
    ·exact absurd (h▸hbF) (hx.2 _ _ _ hlk2 rfl)
   ·rw [hw0] at h;exact .inr h
  ·obtain ⟨j,ob1,g1,_,hl1,hlive1,hF⟩:=k3 x hm
   exact hx.2 _ _ _ hl1 hlive1 hF
 have hfin:∃r v' fp,Ending.returned v= .returned v'∧Q r∧R w' (jE fun x=>(S x∨(w.heap.size≤x∧x < w'.heap.size))∧x∉fp) r v' fp∧fp.Nodup∧(∀x∈fp,w.heap.size≤x∧x < w'.heap.size)∧w.heap.size≤w'.heap.size∧
   (∀x,x < w.heap.size→x≠b2→w'.heap[x]? =w.heap[x]?)∧Same w w'∧zB w' (fun x=>(S x∨(w.heap.size≤x∧x < w'.heap.size))∧x∉fp) b2 f2 cap code:=by
  refine ⟨rv,v,fp,rfl,hQ,fA hkp _ _ _ (fun _ _=>rfl) k1,k2,hfp,by have:=r.size;rwa [hw0] at this,fun x hx hne=> ?_,by have:=r.same;rwa [hw0] at this,i2,h2,hi2,?_⟩
  ·have:=r.frame x (by rw [hw0];exact hx) (fun h=>hne ((hO0 x).1 h))
   rwa [hw0] at this
  ·rw [hga2,hcap] at hown2
   exact oU ⟨fun x hx=>hkp.1 x hx,fun _ _=>trivial,fun _ _ _ h=>h.elim,fun _ _ _ h=>h.elim,fun _ _ _ _ _ h=>h.elim⟩ hown2
 rcases he with rfl|rfl
 ·exact ⟨r.defs,v,hrun,hfin⟩
 ·exact ⟨r.defs,v,hrun,hfin⟩
theorem aBd {P:Program} [aB P] (hm:P.follows .mixedOrders=true) {f:FuncId} {fn:Func} {c:Code} (hf:P.funcs[f]? =some fn) (hb:fn.body=some c) {args:List AV} {Q:AV→Prop} (hflat:args.all bU=true)
  (h:awp P c ⟨args++List.replicate (fn.ntmps - args.length) .undef,[]⟩ (fun e s=>(e= .normal∨e= .ret)∧∃r,Q r∧(dF P fn s r∨jH P fn s r))):OkE P f args Q:=by
 intro w S vs hg hS hargs
 have hl:=bV hargs
 have r0:aI ⟨w,S,fun _=>False,fun _=>none,fun _=>none,hg,fun _ h=>h.elim,fun _ h=>h.elim⟩ ⟨args++List.replicate (fn.ntmps - args.length) .undef,[]⟩ [] {tmps:=vs.toArray++Array.replicate (fn.ntmps - vs.toArray.size) Go.undef,defers:=[]} w:=by
  refine ⟨rfl,rfl,fun i ob g hl=>by simp [look] at hl,fun i j oi oj gi gj b hl=>by simp [look] at hl,fun i ob g b hl=>by simp [look] at hl,?_,Nat.le_refl _,fun _ _ _=>rfl,fun b hb=>hS b hb,Same.rfl⟩
  have h1:Rc w (env ⟨w,S,fun _=>False,fun _=>none,fun _=>none,hg,fun _ h=>h.elim,fun _ h=>h.elim⟩ [] [] w) args vs []:=
   aA8 (E:=jE S) (E':=env ⟨w,S,fun _=>False,fun _=>none,fun _=>none,hg,fun _ h=>h.elim,fun _ h=>h.elim⟩ [] [] w) ⟨fun x hx=>⟨⟨.inl hx,fun i ob g hl=>by simp [look] at hl⟩,rfl⟩,fun _ _=>trivial,fun _ _ _ h=>h.elim,fun _ _ _ h=>h.elim,fun _ _ _ _ _ h=>h.elim⟩ hflat hargs
  have h2:∀n,Rc w (env ⟨w,S,fun _=>False,fun _=>none,fun _=>none,hg,fun _ h=>h.elim,fun _ h=>h.elim⟩ [] [] w) (List.replicate n .undef) (List.replicate n Go.undef) []:=by
   intro n
   induction n with
   |zero=>simp [Rc]
   |succ n ih=>simp only [List.replicate_succ,Rc];exact ⟨[],[],by simp [R],ih,rfl⟩
  have:=dM h1 (h2 (fn.ntmps - args.length))
  simpa [hl] using this
 refine calls_of_wp hf hb (wp_mono (gM hm c _ _ h _ _ ⟨_,r0⟩) fun e a w' he=> ?_)
 obtain ⟨s,⟨he,rr,hQ,hhands⟩,G,r⟩:=he
 have key:∃(v:Value) (fp:List Nat),(results fn a.tmps).run P w'= .ok v w'∧R w' (env ⟨w,S,fun _=>False,fun _=>none,fun _=>none,hg,fun _ h=>h.elim,fun _ h=>h.elim⟩ s.o G w').plain rr v fp∧fp.Nodup∧∀b∈fp,∃j ob g,look s.o G j ob g∧ob.live=true∧g.F b:=by
  rcases hhands with ⟨ys,hys,hok,hu,hres⟩|⟨i,ys,hys,hok,hu,hi,hres⟩
  ·obtain ⟨v,hrun,hR⟩:=lF r hys
   obtain ⟨fp,h1,h2,h3⟩:=rH r _ v hok hu hR
   rw [hres] at h1
   exact ⟨v,fp,hrun,h1,h2,fun b hb=>by obtain ⟨i,ob,g,_,h⟩:=h3 b hb;exact ⟨i,ob,g,h⟩⟩
  ·obtain ⟨v,fp0,ob,g,hlk,hlive,hrun,hR,hnd,hF⟩:=nZ r hys
   obtain ⟨fp,h1,h2,h3⟩:=yC r hlk hlive _ v fp0 hok hu hi hnd hF hR
   rw [hres] at h1
   refine ⟨v,fp,hrun,h1,h2,fun b hb=> ?_⟩
   rcases h3 b hb with h|⟨j,ob',g',_,h⟩
   ·exact ⟨i,ob,g,hlk,hlive,hF b h⟩
   ·exact ⟨j,ob',g',h⟩
 obtain ⟨v,fp,hrun,h1,h2,h3⟩:=key
 have hfin:∃r v' fp,Ending.returned v= .returned v'∧Q r∧R w' (jE fun x=>(S x∨(w.heap.size≤x∧x < w'.heap.size))∧x∉fp) r v' fp∧fp.Nodup∧(∀b∈fp,w.heap.size≤b∧b < w'.heap.size)∧w.heap.size≤w'.heap.size∧(∀b,b < w.heap.size→w'.heap[b]? =w.heap[b]?)∧Same w w':=by
  refine ⟨rr,v,fp,rfl,hQ,?_,h2,fun b hb=> ?_,r.size,fun b hb=>r.frame b hb (fun h=>h),r.same⟩
  ·have k:aT w' (env ⟨w,S,fun _=>False,fun _=>none,fun _=>none,hg,fun _ h=>h.elim,fun _ h=>h.elim⟩ s.o G w').plain w' (jE fun x=>(S x∨(w.heap.size≤x∧x < w'.heap.size))∧x∉fp):=
    ⟨fun b hb=>⟨⟨hb.1,fun hm=>by
     obtain ⟨j,ob,g,hl,hlive,hF⟩:=h3 b hm
     exact hb.2 j ob g hl hlive hF⟩,rfl⟩,fun _ _=>trivial,fun _ _ _ h=>h.elim,fun _ _ _ h=>h.elim,fun _ _ _ _ _ h=>h.elim⟩
   exact fA k _ _ _ (fun _ _=>rfl) h1
  ·obtain ⟨i,ob,g,hl,hlive,hF⟩:=h3 b hb
   have:=r.fresh _ _ _ b hl hlive hF
   exact ⟨this.1.resolve_left (fun h=>h),this.2⟩
 rcases he with rfl|rfl
 ·exact ⟨r.defs,v,hrun,hfin⟩
 ·exact ⟨r.defs,v,hrun,hfin⟩
theorem aP4 {w w':World} {S:Nat→Prop} {fp:List Nat} (h3:∀b∈fp,w.heap.size≤b∧b < w'.heap.size):dX (fun _=>some .view) false (jE fun x=>(S x∨(w.heap.size≤x∧x < w'.heap.size))∧x∉fp) (jE fun x=>(S x∨(w.heap.size≤x∧x < w'.heap.size))∧x∉([]:List Nat)) (· ∈fp):=
 {own:=fun g e=>by obtain rfl:=Option.some.inj e;exact ⟨by simp,fun b hb=>⟨.inr (h3 b hb),by simp⟩⟩
  view:=fun g e=>by obtain rfl:=Option.some.inj e;exact ⟨rfl,fun b hb=>⟨hb.1,by simp⟩⟩
  dep:=fun i g e=>by obtain rfl:=Option.some.inj e;exact ⟨by simp,.inl trivial,fun b hb=>hb.elim⟩
  hh:=fun h=>by cases h
  hl:=fun h=>by cases h}
theorem OkC.vwas {P:Program} [aB P] {f:FuncId} {xs:List AV} {Q Q':AV→Prop} (h:OkC P f xs Q) (hq:∀r,Q r→Q' (rt (fun _=>some .view) false r)):OkC P f xs Q':=by
 intro w S b fo cap code vs a1 a2 a3 a4 a5 a6 a7
 refine Calls.mono (h w S b fo cap code vs a1 a2 a3 a4 a5 a6 a7) fun e w' he=> ?_
 obtain ⟨r,v,fp,rfl,hQ,h1,h2,h3,h4,h5,h6,i,g,hi,hc⟩:=he
 refine ⟨_,v,[],rfl,hq r hQ,aJl (aP4 h3) r v fp (fun _ h=>h) h1,by simp,by simp,h4,h5,h6,i,g,hi,?_⟩
 exact oU (E:=jE fun x=>(S x∨(w.heap.size≤x∧x < w'.heap.size))∧x∉fp) ⟨fun x (hx:(S x∨(w.heap.size≤x∧x < w'.heap.size))∧x∉fp)=>⟨⟨hx.1,by simp⟩,rfl⟩,fun _ _=>trivial,fun _ _ _ h=>h.elim,fun _ _ _ h=>h.elim,fun _ _ _ _ _ h=>h.elim⟩ hc
theorem OkE.vwas {P:Program} [aB P] {f:FuncId} {xs:List AV} {Q Q':AV→Prop} (h:OkE P f xs Q) (hq:∀r,Q r→Q' (rt (fun _=>some .view) false r)):OkE P f xs Q':=by
 intro w S vs a1 a5 a7
 refine Calls.mono (h w S vs a1 a5 a7) fun e w' he=> ?_
 obtain ⟨r,v,fp,rfl,hQ,h1,h2,h3,h4,h5,h6⟩:=he
 exact ⟨_,v,[],rfl,hq r hQ,aJl (aP4 h3) r v fp (fun _ h=>h) h1,by simp,by simp,h4,h5,h6⟩
theorem kV {P:Program} [aB P] (hm:P.follows .mixedOrders=true) {f:FuncId} {fn:Func} {c:Code} (hf:P.funcs[f]? =some fn) {n:Nat} (hn:fn.ntmps=n) {xs t:List AV} {Q:AV→Prop}
  (h:∀code i h,0≤i→code.length≤maxLen→awp P c ⟨t,[⟨true,true,3,2,[aD code i h]⟩]⟩ (fun e s=>(e= .normal∨e= .ret)∧∃r,Q r∧xM P fn s code r)) (hb:fn.body=some c:=by rfl) (hflat:xs.all bU=true:=by simp [bU,iY])
  (ht: .ptr 0 2 0 0::xs++List.replicate (n - (xs.length+1)) .undef=t:=by
   simp only [List.length_cons,List.length_nil,Nat.reduceSub,Nat.reduceAdd,List.replicate_succ,List.replicate_zero,List.cons_append,List.nil_append];rfl):OkC P f xs Q:=by
 subst ht;subst hn;exact aBc hm hf hb hflat h
theorem aSa {P:Program} [aB P] (hm:P.follows .mixedOrders=true) {f:FuncId} {fn:Func} {c:Code} (hf:P.funcs[f]? =some fn) {n:Nat} (hn:fn.ntmps=n) {args t:List AV} {Q:AV→Prop}
  (h:awp P c ⟨t,[]⟩ (fun e s=>(e= .normal∨e= .ret)∧∃r,Q r∧(dF P fn s r∨jH P fn s r))) (hb:fn.body=some c:=by rfl) (hflat:args.all bU=true:=by simp [bU,iY])
  (ht:args++List.replicate (n - args.length) .undef=t:=by
   simp only [List.length_cons,List.length_nil,Nat.reduceSub,Nat.reduceAdd,List.replicate_succ,List.replicate_zero,List.cons_append,List.nil_append];rfl):OkE P f args Q:=by
 subst ht;subst hn;exact aBd hm hf hb hflat h
section
variable {P : Program} [aB P] {dst : Option Tmp} {ty : TypeId} {pos : String} {after : Array Edge} {gd : Option (Nat × Bool)} {s : AS} {X : AS → Prop} {f : Operand} {tys : Array TypeId} {g : FuncId}
theorem cu {x:Operand} {zs:List Operand} {xs:List AV} {Q:AV→Prop} {k ver:Nat} {code:List UInt8} {i h:Int} (hc:OkC P g xs Q)
  (hn:∀rv i' h',Q rv→0≤i'→X (s.drew dst k ver code i' h' rv)) (hf:s.ev f= .fn g []:=by rfl) (hx:s.ev x= .ptr k ver 0 0:=by first|rfl|(simp;done))
  (ho:AV.isObj s.o k ver=some ⟨true,true,3,ver,[aD code i h]⟩:=by first|rfl|(simp [aD];done)) (h0:0≤i:=by first|assumption|omega) (hxs:zs.map s.ev=xs:=by first|rfl|(simp;done)) (hfl:xs.all bU=true:=by first|rfl|(simp [bU,iY];done)) (hcal:callable P g=true:=by simp):
  Nx 1 P ⟨dst,.call {callee:= .value f,args:=⟨x::zs⟩,argTypes:=tys},ty,pos,after,gd⟩ s X:=by
 refine aGr ?_
 unfold uX
 simp only [hf]
 exact ⟨hcal,.inl ⟨x,zs,k,ver,code,i,h,Q,rfl,hx,ho,h0,by rw [hxs];exact hfl,by rw [hxs];exact hc,hn⟩⟩
theorem cn {x:Operand} {code:List UInt8} (hc:aCk P g) (hn:∀i h,0≤i→X (s.newCur dst code i h)) (hf:s.ev f= .fn g []:=by rfl) (hx:s.ev x= .sl .view 1 (aN code):=by first|rfl|(simp;done)) (hcal:callable P g=true:=by simp):
  Nx 1 P ⟨dst,.call {callee:= .value f,args:=#[x],argTypes:=tys},ty,pos,after,gd⟩ s X:=by
 refine aGr ?_
 unfold uX
 simp only [hf]
 exact ⟨hcal,.inr (.inl ⟨x,code,rfl,hx,hc,hn⟩)⟩
theorem ce {ys:List Operand} {xs:List AV} {Q:AV→Prop} (hc:OkE P g xs Q) (hn:∀rv,Q rv→X (s.called dst rv)) (hf:s.ev f= .fn g []:=by rfl) (hxs:ys.map s.ev=xs:=by first|rfl|(simp;done)) (hfl:xs.all bU=true:=by first|rfl|(simp [bU,iY];done)) (hcal:callable P g=true:=by simp):
  Nx 1 P ⟨dst,.call {callee:= .value f,args:=⟨ys⟩,argTypes:=tys},ty,pos,after,gd⟩ s X:=by
 refine aGr ?_
 unfold uX
 simp only [hf]
 exact ⟨hcal,.inr (.inr ⟨Q,⟨by rw [hxs];exact hfl,by rw [hxs];exact hc⟩,hn⟩)⟩
end
theorem eT {P:Program} {fn:Func} {s:AS} {code:List UInt8} {Q:AV→Prop} {ys:List AV} {i h:Int} (hys:s.rvs P fn.results.toList=some ys) (ht:s.t.getD 0 .undef= .ptr 0 2 0 0) (ho:s.o[0]? =some ⟨true,true,3,2,[aD code i h]⟩) (hi:0≤i)
  (hok:bW s.o (single ys)=true) (hu:(0::uses (single ys)).Nodup) (hq:Q (res s.o (single ys))):∃r,Q r∧xM P fn s code r:=
 ⟨_,hq,ht,⟨i,h,hi,ho⟩,.inl ⟨ys,hys,hok,hu,rfl⟩⟩
theorem aRa {P:Program} {fn:Func} {s:AS} {code:List UInt8} {Q:AV→Prop} {ys:List AV} {k:Nat} {i h:Int} (hys:s.rvB P fn.results.toList=some (k,ys)) (ht:s.t.getD 0 .undef= .ptr 0 2 0 0) (ho:s.o[0]? =some ⟨true,true,3,2,[aD code i h]⟩) (hi:0≤i)
  (hok:bW s.o (single ys)=true) (hu:(0::uses (single ys)).Nodup) (hk:k∉uses (single ys)) (hk0:k≠0) (hq:Q (res s.o (single ys))):∃r,Q r∧xM P fn s code r:=
 ⟨_,hq,ht,⟨i,h,hi,ho⟩,.inr ⟨k,ys,hys,hok,hu,hk,hk0,rfl⟩⟩
def aKv (P:Program) (fn:Func) (s:AS) (code:List UInt8):Prop:=∃(k ver:Nat) (i h:Int),s.rvs P fn.results.toList=some [.ptr k ver 0 0]∧AV.isObj s.o k ver=some ⟨true,true,3,ver,[aD code i h]⟩∧0≤i
theorem aJ5 {P:Program} [aB P] (hm:P.follows .mixedOrders=true) {f:FuncId} {fn:Func} {c:Code} (hf:P.funcs[f]? =some fn) (hb:fn.body=some c)
  (h:∀code:List UInt8,code.length≤maxLen→awp P c ⟨[.sl .view 1 (aN code)]++List.replicate (fn.ntmps - 1) .undef,[]⟩ (fun e s=>(e= .normal∨e= .ret)∧aKv P fn s code)):aCk P f:=by
 intro w S v code hg hS hv
 have hl0:code.length≤maxLen:=by
  simp only [R] at hv
  rcases hv with h|⟨_,_,_,hl,_⟩
  ·exact h.1.elim
  ·simpa [aN] using hl.1
 have r0:aI ⟨w,S,fun _=>False,fun _=>none,fun _=>none,hg,fun _ h=>h.elim,fun _ h=>h.elim⟩ ⟨[.sl .view 1 (aN code)]++List.replicate (fn.ntmps - 1) .undef,[]⟩ [] {tmps:=#[v]++Array.replicate (fn.ntmps - (#[v]:Array Value).size) Go.undef,defers:=[]} w:=by
  refine ⟨rfl,rfl,fun i ob g hl=>by simp [look] at hl,fun i j oi oj gi gj b hl=>by simp [look] at hl,fun i ob g b hl=>by simp [look] at hl,?_,Nat.le_refl _,fun _ _ _=>rfl,fun b hb=>hS b hb,Same.rfl⟩
  have h1:Rc w (env ⟨w,S,fun _=>False,fun _=>none,fun _=>none,hg,fun _ h=>h.elim,fun _ h=>h.elim⟩ [] [] w) [.sl .view 1 (aN code)] [v] []:=by
   simp only [Rc]
   exact ⟨[],[],yP (E:=jE S) ⟨fun b hb=>⟨⟨.inl hb,fun i ob g hl=>by simp [look] at hl⟩,rfl⟩,fun _ _=>trivial,fun _ _ _ h=>h.elim,fun _ _ _ h=>h.elim,fun _ _ _ _ _ h=>h.elim⟩ hv,rfl,rfl⟩
  have h2:∀n,Rc w (env ⟨w,S,fun _=>False,fun _=>none,fun _=>none,hg,fun _ h=>h.elim,fun _ h=>h.elim⟩ [] [] w) (List.replicate n .undef) (List.replicate n Go.undef) []:=by
   intro n
   induction n with
   |zero=>simp [Rc]
   |succ n ih=>simp only [List.replicate_succ,Rc];exact ⟨[],[],by simp [R],ih,rfl⟩
  have:=dM h1 (h2 (fn.ntmps - 1))
  simpa using this
 refine calls_of_wp hf hb (wp_mono (gM hm c _ _ (h code hl0) _ _ ⟨_,r0⟩) fun e a w' he=> ?_)
 obtain ⟨s,⟨he,k,ver,i,h',hys,hob,hi⟩,G,r⟩:=he
 obtain ⟨u,hrun,hR⟩:=lF r hys
 simp only [single] at hR
 have hR2:=hR
 simp only [R] at hR2
 obtain ⟨_,ob,g,hl,_,hpt,_⟩:=hR2
 obtain ⟨h1,h2,h3⟩:=dK hob
 obtain rfl:=Option.some.inj (hl.1.symm.trans h1)
 obtain ⟨b,fo,hga,hu⟩:=hpt rfl rfl
 simp only [Nat.zero_mul,Nat.add_zero] at hu
 obtain ⟨fp0,hown,_,hF⟩:=r.ok k _ g hl rfl
 simp only [Env.of,if_true] at hown
 obtain ⟨b3,off3,ha3,rfl⟩:=vT hown
 rw [hga] at ha3
 simp only [Option.some.injEq,Addr.mk.injEq,and_true] at ha3
 obtain ⟨rfl,rfl⟩:=ha3
 have hbF:g.F b:=hF b (by simp)
 have hfr:=r.fresh _ _ _ b hl rfl hbF
 have hfin:∃b fo cap,Ending.returned u= .returned (.pointer (some ⟨b,fo,none⟩))∧w.heap.size≤b∧b < w'.heap.size∧zB w' (fun x=>(S x∨(w.heap.size≤x∧x < w'.heap.size))∧x≠b) b fo cap code∧
   w.heap.size≤w'.heap.size∧(∀b,b < w.heap.size→w'.heap[b]? =w.heap[b]?)∧Same w w':=by
  refine ⟨b,fo,g.cap,by rw [hu],hfr.1.resolve_left (fun h=>h),hfr.2,⟨i,h',hi,?_⟩,r.size,fun x hx=>r.frame x hx (fun h=>h),r.same⟩
  rw [hga] at hown
  exact oU (E:=env ⟨w,S,fun _=>False,fun _=>none,fun _=>none,hg,fun _ h=>h.elim,fun _ h=>h.elim⟩ s.o G w') ⟨fun x hx=>⟨⟨hx.1,fun e=>hx.2 _ _ _ hl rfl (e▸hbF)⟩,rfl⟩,fun _ _=>trivial,fun _ _ _ h=>h.elim,fun _ _ _ h=>h.elim,fun _ _ _ _ _ h=>h.elim⟩ hown
 rcases he with rfl|rfl
 ·exact ⟨r.defs,u,hrun,hfin⟩
 ·exact ⟨r.defs,u,hrun,hfin⟩
theorem dQ {P:Program} [aB P] {o:Oper} {s s':AS} {X:AS→Prop} {i ver:Nat} {ob:aA} (hob:AV.isObj s.o i ver=some ob) (hbx:ob.box=false) (h:Nx 1 P o s' X) (e:s.frozen i ver ob=s'):Nx 1 P o s X:=by
 subst e
 exact sw (fun _ _ B a w hr=>aCu hob hbx hr) h
end Go.Aw

namespace Go.Aw
theorem aR6 {P:Program} [aB P] (hm:P.follows .mixedOrders=true) {f:FuncId} {fn:Func} {c:Code} (hf:P.funcs[f]? =some fn) {n:Nat} (hn:fn.ntmps=n) {t:List AV}
  (h:∀code:List UInt8,code.length≤maxLen→awp P c ⟨.sl .view 1 (aN code)::t,[]⟩ (fun e s=>(e= .normal∨e= .ret)∧aKv P fn s code)) (hb:fn.body=some c:=by rfl)
  (ht:List.replicate (n - 1) AV.undef=t:=by
   simp only [Nat.reduceSub,Nat.reduceAdd,List.replicate_succ,List.replicate_zero];rfl):aCk P f:=by
 subst ht;subst hn;exact aJ5 hm hf hb h
theorem aFw {P:Program} {fn:Func} {s:AS} {Q:AV→Prop} {ys:List AV} (hys:s.rvs P fn.results.toList=some ys) (hok:bW s.o (single ys)=true) (hu:(uses (single ys)).Nodup) (hq:Q (res s.o (single ys))):∃r,Q r∧(dF P fn s r∨jH P fn s r):=
 ⟨_,hq,.inl ⟨ys,hys,hok,hu,rfl⟩⟩
end Go.Aw

namespace Go.Aw
theorem aQ9 {P:Program} [aB P] (hm:P.follows .mixedOrders=true) {f:FuncId} {fn:Func} {c c':Code} (L:List Nat) (hf:P.funcs[f]? =some fn) {n:Nat} (hn:fn.ntmps=n) {xs t:List AV} {Q:AV→Prop}
  (h:∀code i h,0≤i→code.length≤maxLen→awp P c' ⟨t,[⟨true,true,3,2,[aD code i h]⟩]⟩ (fun e s=>(e= .normal∨e= .ret)∧∃r,Q r∧xM P fn s code r)) (hb:fn.body=some c:=by rfl) (hflat:xs.all bU=true:=by simp [bU,iY])
  (hc:iU (fun i=>L.contains i) c=c':=by simp [iU];rfl)
  (ht: .ptr 0 2 0 0::xs++List.replicate (n - (xs.length+1)) .undef=t:=by
   simp only [List.length_cons,List.length_nil,Nat.reduceSub,Nat.reduceAdd,List.replicate_succ,List.replicate_zero,List.cons_append,List.nil_append];rfl):OkC P f xs Q:=by
 subst ht;subst hn;subst hc;rw [kS] at h;exact aBc hm hf hb hflat h
theorem aJ3 {P:Program} [aB P] (hm:P.follows .mixedOrders=true) {f:FuncId} {fn:Func} {c c':Code} (L:List Nat) (hf:P.funcs[f]? =some fn) {n:Nat} (hn:fn.ntmps=n) {args t:List AV} {Q:AV→Prop}
  (h:awp P c' ⟨t,[]⟩ (fun e s=>(e= .normal∨e= .ret)∧∃r,Q r∧(dF P fn s r∨jH P fn s r))) (hb:fn.body=some c:=by rfl) (hflat:args.all bU=true:=by simp [bU,iY])
  (hc:iU (fun i=>L.contains i) c=c':=by simp [iU];rfl)
  (ht:args++List.replicate (n - args.length) .undef=t:=by
   simp only [List.length_cons,List.length_nil,Nat.reduceSub,Nat.reduceAdd,List.replicate_succ,List.replicate_zero,List.cons_append,List.nil_append];rfl):OkE P f args Q:=by
 subst ht;subst hn;subst hc;rw [kS] at h;exact aBd hm hf hb hflat h
theorem mG {P:Program} [aB P] {id:Nat} {l:List Oper} {s:AS} {Q:Exit→AS→Prop} {n:Nat} {d:List Bool} (K1:AS→Prop) (hn:l.length=n) (hd:List.replicate n false=d) (h:jD P l K1 n d s) (hk:∀s',K1 s'→Q .normal s') (hfw:rF l=true:=by decide+kernel) (hns:Region.noSelect l.toArray=true:=by decide+kernel):awp P (.region id (hide l.toArray) true) s Q:=by
 subst hd;subst hn
 rw [rV];exact aKt K1 hfw hns h hk
theorem rR {P:Program} [aB P] {all r:List Oper} {s:AS} {K:AS→Prop} (h:bH P all r s K):bH P all r s K:=h
theorem nA (d:Tmp) {P:Program} [aB P] {all r:List Oper} {op:Op} {ty:TypeId} {pos:String} {after:Array Edge} {s:AS} {K:AS→Prop} (h:Nx 1 P ⟨some d,op,ty,pos,after,none⟩ s fun s'=>bH P all r s' K):bH P all (⟨some d,op,ty,pos,after,none⟩::r) s K:=aCc rfl h
theorem aFm {P:Program} [aB P] {c:Operand} {x:Code} {s:AS} {Q:Exit→AS→Prop} (hc:s.ev c= .bool false) (h:Q .normal s):awp P (.cond c x .skip) s Q:=
 aAp hc (fun h=>by cases h) fun _=>by unfold awp;exact h
theorem aKo {P:Program} [aB P] {y:Code} {id:Nat} {ops:Array Oper} {s s2:AS} {Q:Exit→AS→Prop} (hw:eH s s2) (h:awp P (.seq (.region id ops false) y) s2 Q):awp P (.seq (.region id ops false) y) s Q:=by
 unfold awp at h⊢
 exact rG hw h
theorem aJu {P:Program} [aB P] {y:Code} {id:Nat} {ops:Array Oper} {s s2:AS} {Q:Exit→AS→Prop} (hw:eH s s2) (h:awp P (.seq (.region id ops true) y) s2 Q):awp P (.seq (.region id ops true) y) s Q:=by
 unfold awp at h⊢
 unfold awp at h⊢
 exact fun B a w Q0 hr hq=>h B a w Q0 (hw B a w hr) hq
end Go.Aw
