/-
  Proved here: steps towards the statement of this claim, text AwNest4.
  No condition beyond what each statement spells out.
-/
import Derived.Test.YtgkllebnnakojaaGreatDoorF3
import Derived.Test.YtgkllebnnakojaaGreatDoorF8
set_option linter.all false
namespace Go.Aw
def Env.noL (E:Env) (i:Nat):Env:={E with L:=fun j ver idx off v=>j≠i∧E.L j ver idx off v}
mutual
def nop (i : Nat) : AV → Bool
  | .ptr j _ _ _ => decide (j ≠ i)
  | .agg c => pI i c
  | .tup c => pI i c
  | .fn _ c => pI i c
  | _ => true
def pI (i : Nat) : List AV → Bool
  | [] => true
  | x :: xs => nop i x && pI i xs
end
attribute [simp] nop pI
mutual
theorem aTw {w : World} {E : Env} {i : Nat} : ∀ (x : AV) (v : Value) (fp : List Nat), nop i x = true → R w E x v fp → R w (E.noL i) x v fp
  | .int _ _, _, _, _, h => by simpa [R] using h
  | .bool _, _, _, _, h => by simpa [R] using h
  | .str _, _, _, _, h => by simpa [R] using h
  | .sl g _ _, _, _, _, h => by simp only [R] at h ⊢; cases g <;> exact h
  | .vptr g _ _, _, _, _, h => by simp only [R] at h ⊢; cases g <;> exact h
  | .obj _ _, _, _, _, h => by simp only [R] at h ⊢; exact h
  | .ptr j _ _ _, _, _, hc, h => by simp only [R] at h ⊢; exact ⟨h.1, by simpa using hc, h.2⟩
  | .agg c, v, fp, hc, h => by
    simp only [R] at h ⊢
    obtain ⟨cs, h1, h2, h3⟩ := h
    exact ⟨cs, h1, h2, aA8 c cs fp (by simpa using hc) h3⟩
  | .tup c, v, fp, hc, h => by
    simp only [R] at h ⊢
    obtain ⟨cs, h1, h3⟩ := h
    exact ⟨cs, h1, aA8 c cs fp (by simpa using hc) h3⟩
  | .fn f c, v, fp, hc, h => by
    simp only [R] at h ⊢
    obtain ⟨h0, cs, h1, h3⟩ := h
    exact ⟨h0, cs, h1, aA8 c cs [] (by simpa using hc) h3⟩
  | .undef, _, _, _, h => by simpa [R] using h
theorem aA8 {w : World} {E : Env} {i : Nat} : ∀ (c : List AV) (cs : List Value) (fp : List Nat), pI i c = true → Rc w E c cs fp → Rc w (E.noL i) c cs fp
  | [], [], _, _, h => by simpa [Rc] using h
  | [], _ :: _, _, _, h => by simp [Rc] at h
  | _ :: _, [], _, _, h => by simp [Rc] at h
  | x :: xs, c :: cs, fp, hc, h => by
    simp only [Rc] at h ⊢
    simp only [pI, Bool.and_eq_true] at hc
    obtain ⟨f1, f2, h1, h2, h3⟩ := h
    exact ⟨f1, f2, aTw x c f1 hc.1 h1, aA8 xs cs f2 hc.2 h2, h3⟩
end
theorem aQ2 {w:World} {E:Env} {i:Nat}:∀(l:List (List AV)) (b off n:Nat) (fp:List Nat),(l.all fun c=>pI i c)=true→Rr w E l b off n fp→Rr w (E.noL i) l b off n fp
 |[],_,_,_,_,_,h=>by simpa [Rr] using h
 |e::es,b,off,n,fp,hc,h=>by
  simp only [Rr] at h⊢
  simp only [List.all_cons,Bool.and_eq_true] at hc
  obtain ⟨cs,f1,f2,h1,h2,h3,h4,h5,h6⟩:=h
  exact ⟨cs,f1,f2,h1,h2,h3,aA8 e cs f1 hc.1 h4,aQ2 es b _ n f2 hc.2 h5,h6⟩
def bmp (i v:Nat):List AV→List AV
 |[]=>[]
 | .obj j u::xs=>(if j=i∧u=v then .obj i (v+3) else .obj j u)::bmp i v xs
 |x::xs=>x::bmp i v xs
attribute [simp] bmp
theorem aRd {w:World} {E E':Env} {i v:Nat} (k:aX w (E.noL i) w E') (hv:∀x,E.H i v x→E'.H i (v+3) x):∀(t:List AV) (vs:List Value),pI i t=true→Rc w E t vs []→Rc w E' (bmp i v t) vs []
 |[],[],_,h=>by simpa [Rc] using h
 |[],_::_,_,h=>by simp [Rc] at h
 |_::_,[],_,h=>by simp [Rc] at h
 |x::xs,c::cs,hc,h=>by
  simp only [Rc] at h
  simp only [pI,Bool.and_eq_true] at hc
  obtain ⟨f1,f2,h1,h2,h3⟩:=h
  obtain ⟨rfl,rfl⟩:=List.append_eq_nil_iff.1 h3.symm
  have ih:=aRd k hv xs cs hc.2 h2
  have h4:=fP k x c [] (by simp) (aTw x c [] hc.1 h1)
  have key:∀y,R w E' y c []→Rc w E' (y::bmp i v xs) (c::cs) []:=fun y hy=>by simp only [Rc];exact ⟨[],[],hy,ih,rfl⟩
  cases x with
  |obj j u=>
   simp only [bmp]
   split
   ·rename_i e
    obtain ⟨rfl,rfl⟩:=e
    refine key _ ?_
    simp only [R] at h1⊢
    exact ⟨trivial,hv _ h1.2⟩
   ·exact key _ h4
  |_=>exact key _ h4
theorem aRp {t:List AV} {o o':List aA} (i:Nat) {ob:aA} (ho:o[i]? =some ob) (hl:ob.live=true) (hb:ob.box=false) (ho':o.set i {ob with box:=true,ver:=ob.ver+3}=o') (ht:pI i t=true) (hall:(o.all fun x=> !x.box || x.els.all fun c=>pI i c)=true):dV ⟨t,o⟩ ⟨bmp i ob.ver t,o'⟩:=by
 subst ho'
 rintro P _ B a w ⟨G,r⟩
 obtain ⟨g,hlk⟩:=r.look ho
 have hG:G.set i g=G:=by
  apply List.ext_getElem?
  intro j
  rw [List.getElem?_set]
  split
  ·rename_i e;subst e
   rw [hlk.2];simp [(List.getElem?_eq_some_iff.1 hlk.2).1]
  ·rfl
 generalize hob':({ob with box:=true,ver:=ob.ver+3}:aA)=ob'
 have e1:ob'.live=ob.live:=by rw [←hob']
 have e2:ob'.n=ob.n:=by rw [←hob']
 have e3:ob'.ver=ob.ver+3:=by rw [←hob']
 have e4:ob'.els=ob.els:=by rw [←hob']
 have e5:ob'.box=true:=by rw [←hob']
 have back:∀{j x y},look (o.set i ob') G j x y→(j=i∧x=ob'∧y=g)∨(j≠i∧look o G j x y):=fun h=>by
  rw [←hG] at h;exact pE h
 have fi:look (o.set i ob') G i ob' g:=by
  have:=kV (ob':=ob') (g':=g) hlk
  rwa [hG] at this
 have fo:∀{j x y},j≠i→look o G j x y→look (o.set i ob') G j x y:=fun hj h=>by
  have:=wP (ob':=ob') (g':=g) h hj
  rwa [hG] at this
 have k:aX w ((env B o G w).noL i) w (env B (o.set i ob') G w):=by
  refine ⟨fun x hx=>⟨⟨hx.1,fun j y z hlj hjl hf=> ?_⟩,rfl⟩,fun j h x hx=> ?_,fun j x hV h=>⟨?_,rfl⟩,fun j ver x h=> ?_,fun j ver p q x h=> ?_⟩
  ·rcases back hlj with ⟨rfl,rfl,rfl⟩|⟨_,h⟩
   ·exact hx.2 _ _ _ hlk (e1▸hjl) hf
   ·exact hx.2 _ _ _ h hjl hf
  ·obtain ⟨y,hy⟩:=r.look hx
   by_cases hj:j=i
   ·subst hj
    obtain ⟨rfl,rfl⟩:=eH hlk hy
    have:=h ob' fi.1
    rwa [e1] at this
   ·exact h x (fo hj hy).1
  ·obtain ⟨x',y,hlj,hjl,hf,hne⟩:=h
   by_cases hj:j=i
   ·subst hj
    obtain ⟨rfl,rfl⟩:=eH hlk hlj
    exact ⟨ob',g,fi,by rw [e1];exact hjl,hf,hne⟩
   ·exact ⟨x',y,fo hj hlj,hjl,hf,hne⟩
  ·obtain ⟨x',y,hlj,hver,hh,hz⟩:=h
   by_cases hj:j=i
   ·subst hj
    obtain ⟨rfl,rfl⟩:=eH hlk hlj
    exact ⟨ob',g,fi,by omega,fun _ e=>by omega,hz⟩
   ·exact ⟨x',y,fo hj hlj,hver,hh,hz⟩
  ·obtain ⟨hj,x',y,hlj,hver,hh,hz⟩:=h
   exact ⟨x',y,fo hj hlj,hver,hh,hz⟩
 have hbv:∀x,(env B o G w).H i ob.ver x→(env B (o.set i ob') G w).H i (ob.ver+3) x:=by
  rintro x ⟨x',y,hlj,hver,hh,hz⟩
  obtain ⟨rfl,rfl⟩:=eH hlk hlj
  exact ⟨ob',g,fi,by omega,fun _ _=>by rw [e4];exact hh hl rfl,fun h=>by omega⟩
 refine ⟨G,{len:=by simp [r.len],defs:=r.defs,ok:= ?_,apart:= ?_,fresh:= ?_,tmps:=aRd k hbv _ _ ht r.tmps,size:=r.size,frame:=r.frame,base:=r.base,same:=r.same}⟩
 ·intro j x y hlj hjl
  rcases back hlj with ⟨rfl,rfl,rfl⟩|⟨hj,h⟩
  ·obtain ⟨fp,q1,q2,q3⟩:=r.ok _ _ _ hlk (e1▸hjl)
   refine ⟨fp,?_,q2,q3⟩
   simp only [hb,Env.of,Bool.false_eq_true,if_false] at q1
   simp only [e5,Env.of,if_true,e2,e4]
   exact q1.keeps (k.plain.trans (aCh w _)) (fun _ _=>rfl)
  ·obtain ⟨fp,q1,q2,q3⟩:=r.ok j x y h hjl
   refine ⟨fp,?_,q2,q3⟩
   cases hx:x.box with
   |false=>
    simp only [hx,Env.of,Bool.false_eq_true,if_false] at q1⊢
    exact q1.keeps k.plain (fun _ _=>rfl)
   |true=>
    simp only [hx,Env.of,if_true] at q1⊢
    have hn:=List.all_eq_true.1 hall _ (List.mem_of_getElem? h.1)
    simp only [hx,Bool.not_true,Bool.false_or] at hn
    obtain ⟨hl,q1|⟨b,off,C,e,fz,fps,k1,k2,k3,k4,k5,k6,k7,k8⟩⟩:=q1
    ·exact ⟨hl,.inl q1⟩
    ·exact gK.keeps (E:=(env B o G w).noL i) ⟨hl,.inr ⟨b,off,C,e,fz,fps,k1,k2,k3,k4,k5,k6,k7,aQ2 _ _ _ _ _ hn k8⟩⟩ k (fun _ _=>rfl)
 ·intro j1 j2 x1 x2 y1 y2 z hl1 hl2 v1 v2 hf1 hf2
  rcases back hl1 with ⟨rfl,rfl,rfl⟩|⟨hj1,h1⟩<;>rcases back hl2 with ⟨rfl,rfl,rfl⟩|⟨hj2,h2⟩
  ·rfl
  ·exact r.apart _ _ _ _ _ _ z hlk h2 (e1▸v1) v2 hf1 hf2
  ·exact r.apart _ _ _ _ _ _ z h1 hlk v1 (e1▸v2) hf1 hf2
  ·exact r.apart _ _ _ _ _ _ z h1 h2 v1 v2 hf1 hf2
 ·intro j x y z hlj hjl hf
  rcases back hlj with ⟨rfl,rfl,rfl⟩|⟨_,h⟩
  ·exact r.fresh _ _ _ z hlk (e1▸hjl) hf
  ·exact r.fresh _ _ _ z h hjl hf
def aB1 (i:Nat):List AV→List AV
 |[]=>[]
 |x::xs=>(if nop i x then x else .undef)::aB1 i xs
attribute [simp] aB1
theorem aI5 (i:Nat):∀t:List AV,wk t (aB1 i t)
 |[]=>trivial
 |x::xs=>⟨by split;exact .inl rfl;exact .inr rfl,aI5 i xs⟩
theorem aG9 (i:Nat):∀t:List AV,pI i (aB1 i t)=true
 |[]=>rfl
 |x::xs=>by
  simp only [aB1,pI,aG9 i xs,Bool.and_true]
  split
  ·assumption
  ·rfl
theorem aBp {P:Program} [aB P] (i k c:Nat) {id:Nat} {L:List Oper} {Q:Exit→AS→Prop} {t t':List AV} {o o':List aA} {ob:aA} {e:List AV} {m:Nat} {rows:List (List AV)} (ho:o[i]? =some ob) (he:ob.els[k]? =some e) (hc:e[c]? =some (.sl .own m rows))
  (h:awp P (.region id L.toArray false) ⟨t',o'⟩ Q) (hl:ob.live=true:=by rfl) (hb:ob.box=false:=by rfl) (hall:(o.all fun x=> !x.box || x.els.all fun c=>pI i c&&jF i c)=true:=by simp)
  (hrow:(ob.els.all fun c=>jF i c)=true:=by simp) (ho':o.set i {ob with box:=true,ver:=ob.ver+3,els:=ob.els.set k (e.set c (.obj o.length 1))}++[⟨true,false,m,1,rows⟩]=o':=by simp;rfl) (hw:rtc (dU [i]) true (bmp i ob.ver (aB1 i t))=t':=by simp;rfl):
  awp P (hide (.region id L.toArray false)) ⟨t,o⟩ Q:=by
 have hlt:=(List.getElem?_eq_some_iff.1 ho).1
 refine aM9 (dV.trans (vJ (aI5 i t)) (dV.trans (aRp i ho hl hb rfl (aG9 i t) ?_) (aE5 i k c (ob:={ob with box:=true,ver:=ob.ver+3}) (by simp [hlt]) hl rfl ?_ he hc (by simpa using ho') (hw▸jR _)))) h
 ·rw [List.all_eq_true] at hall⊢
  intro x hx
  have:=hall x hx
  simp only [Bool.or_eq_true,Bool.not_eq_true',List.all_eq_true,Bool.and_eq_true] at this⊢
  exact this.imp (fun h=>h) fun h r hr=>(h r hr).1
 ·rw [List.all_eq_true] at hall⊢
  intro x hx
  rcases List.mem_or_eq_of_mem_set hx with hx|rfl
  ·have:=hall x hx
   simp only [Bool.or_eq_true,Bool.not_eq_true',List.all_eq_true,Bool.and_eq_true] at this⊢
   exact this.imp (fun h=>h) fun h r hr=>(h r hr).2
  ·simp only [Bool.not_true,Bool.false_or];exact hrow
theorem zI {P:Program} [aB P] (i J k c:Nat) (R:List (List AV)) {id:Nat} {L:List Oper} {Q:Exit→AS→Prop} {t:List AV} {o o':List aA} {ob oj:aA} {e:List AV} {ver:Nat} (ho:o[i]? =some ob) (hj:o[J]? =some oj)
  (he:ob.els[k]? =some e) (hc:e[c]? =some (.obj J ver)) (hR:ob.els.set k (e.set c (.sl .own oj.n oj.els))=R) (hp:((ob.els.set k (e.set c (.int .i64 0))).all fun r=>r.all AV.pureA)=true)
  (h:awp P (.region id L.toArray false) ⟨t,o'⟩ Q) (hij:i≠J:=by decide) (hl:ob.live=true:=by rfl) (hlj:oj.live=true:=by rfl) (hbj:oj.box=false:=by rfl) (hver:oj.ver=ver:=by rfl) (hbx:ob.box=true:=by rfl)
  (ho':(o.set J oj.kill).set i {ob with box:=false,els:=R}=o':=by simp [aA.kill];rfl):awp P (hide (.region id L.toArray false)) ⟨t,o⟩ Q:=
 aM9 (aNx i J k c ho hj hij hl hlj hbj he hc hver hp hbx (by rw [hR];exact ho') (jR _)) h
end Go.Aw
