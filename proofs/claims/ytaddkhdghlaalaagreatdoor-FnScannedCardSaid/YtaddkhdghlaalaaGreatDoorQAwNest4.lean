/-
  Proved here: steps towards the statement of this claim, text QAwNest4.
  No condition beyond what each statement spells out.
-/
import Derived.Test.YtaddkhdghlaalaaGreatDoorF3
import Derived.Test.YtaddkhdghlaalaaGreatDoorF8
import Derived.Test.YtaddkhdghlaalaaGreatDoorQZ4
import Derived.Test.YtaddkhdghlaalaaGreatDoorQST4
import Derived.Test.YtaddkhdghlaalaaGreatDoorQJ5
set_option linter.all false
namespace Go.Aw
def Env.noL (E:Env) (i:Nat):Env:={E with L:=fun j ver idx off v=>j≠i∧E.L j ver idx off v}
mutual
def nop (i : Nat) : AV → Bool
  | .ptr j _ _ _ => decide (j ≠ i)
  | .agg c => vW i c
  | .tup c => vW i c
  | .fn _ c => vW i c
  | _ => true
def vW (i : Nat) : List AV → Bool
  | [] => true
  | x :: xs => nop i x && vW i xs
end
attribute [simp] nop vW
mutual
theorem bEr {w : World} {E : Env} {i : Nat} : ∀ (x : AV) (v : Value) (fp : List Nat), nop i x = true → R w E x v fp → R w (E.noL i) x v fp
  | .int _ _, _, _, _, h => by simpa [R] using h
  | .bool _, _, _, _, h => by simpa [R] using h
  | .str _, _, _, _, h => by simpa [R] using h
  | .sl g _ _, _, _, _, h => by simp only [R] at h ⊢; cases g <;> exact h
  | .vptr g _ _, _, _, _, h => by simp only [R] at h ⊢; cases g <;> exact h
  | .obj _ _, _, _, _, h => by simp only [R] at h ⊢; exact h
  | .ptr j _ _ _, _, _, hc, h => by simp only [R] at h ⊢; exact ⟨h.1, by simpa using hc, h.2⟩
  | .agg c, v, fp, hc, h => by
    simp only [R] at h ⊢
    obtain ⟨cs, h1, h2, h3⟩ := h
    exact ⟨cs, h1, h2, aHf c cs fp (by simpa using hc) h3⟩
  | .tup c, v, fp, hc, h => by
    simp only [R] at h ⊢
    obtain ⟨cs, h1, h3⟩ := h
    exact ⟨cs, h1, aHf c cs fp (by simpa using hc) h3⟩
  | .fn f c, v, fp, hc, h => by
    simp only [R] at h ⊢
    obtain ⟨h0, cs, h1, h3⟩ := h
    exact ⟨h0, cs, h1, aHf c cs [] (by simpa using hc) h3⟩
  | .undef, _, _, _, h => by simpa [R] using h
theorem aHf {w : World} {E : Env} {i : Nat} : ∀ (c : List AV) (cs : List Value) (fp : List Nat), vW i c = true → Rc w E c cs fp → Rc w (E.noL i) c cs fp
  | [], [], _, _, h => by simpa [Rc] using h
  | [], _ :: _, _, _, h => by simp [Rc] at h
  | _ :: _, [], _, _, h => by simp [Rc] at h
  | x :: xs, c :: cs, fp, hc, h => by
    simp only [Rc] at h ⊢
    simp only [vW, Bool.and_eq_true] at hc
    obtain ⟨f1, f2, h1, h2, h3⟩ := h
    exact ⟨f1, f2, bEr x c f1 hc.1 h1, aHf xs cs f2 hc.2 h2, h3⟩
end
theorem bAr {w:World} {E:Env} {i:Nat}:∀(l:List (List AV)) (b off n:Nat) (fp:List Nat),(l.all fun c=>vW i c)=true→Rr w E l b off n fp→Rr w (E.noL i) l b off n fp
 |[],_,_,_,_,_,h=>by simpa [Rr] using h
 |e::es,b,off,n,fp,hc,h=>by
  simp only [Rr] at h⊢
  simp only [List.all_cons,Bool.and_eq_true] at hc
  obtain ⟨cs,f1,f2,h1,h2,h3,h4,h5,h6⟩:=h
  exact ⟨cs,f1,f2,h1,h2,h3,aHf e cs f1 hc.1 h4,bAr es b _ n f2 hc.2 h5,h6⟩
def bmp (i v:Nat):List AV→List AV
 |[]=>[]
 | .obj j u::xs=>(if j=i∧u=v then .obj i (v+3) else .obj j u)::bmp i v xs
 |x::xs=>x::bmp i v xs
attribute [simp] bmp
theorem bBi {w:World} {E E':Env} {i v:Nat} (k:bP w (E.noL i) w E') (hv:∀x,E.H i v x→E'.H i (v+3) x):∀(t:List AV) (vs:List Value),vW i t=true→Rc w E t vs []→Rc w E' (bmp i v t) vs []
 |[],[],_,h=>by simpa [Rc] using h
 |[],_::_,_,h=>by simp [Rc] at h
 |_::_,[],_,h=>by simp [Rc] at h
 |x::xs,c::cs,hc,h=>by
  simp only [Rc] at h
  simp only [vW,Bool.and_eq_true] at hc
  obtain ⟨f1,f2,h1,h2,h3⟩:=h
  obtain ⟨rfl,rfl⟩:=List.append_eq_nil_iff.1 h3.symm
  have ih:=bBi k hv xs cs hc.2 h2
  have h4:=jL k x c [] (by simp) (bEr x c [] hc.1 h1)
  have key:∀y,R w E' y c []→Rc w E' (y::bmp i v xs) (c::cs) []:=fun y hy=>by simp only [Rc];exact ⟨[],[],hy,ih,rfl⟩
  cases x with
  |obj j u=>
   simp only [bmp]
   split
   ·rename_i e
    obtain ⟨rfl,rfl⟩:=e
    refine key _ ?_
    simp only [R] at h1⊢
    exact ⟨trivial,hv _ h1.2⟩
   ·exact key _ h4
  |_=>exact key _ h4
theorem bBy {t:List AV} {o o':List aA} (i:Nat) {ob:aA} (ho:o[i]? =some ob) (hl:ob.live=true) (hb:ob.box=false) (ho':o.set i {ob with box:=true,ver:=ob.ver+3}=o') (ht:vW i t=true) (hall:(o.all fun x=> !x.box || x.els.all fun c=>vW i c)=true):fG ⟨t,o⟩ ⟨bmp i ob.ver t,o'⟩:=by
 subst ho'
 rintro P _ B a w ⟨G,r⟩
 obtain ⟨g,hlk⟩:=r.look ho
 have hG:G.set i g=G:=by
  apply List.ext_getElem?
  intro j
  rw [List.getElem?_set]
  split
  ·rename_i e;subst e
   rw [hlk.2];simp [(List.getElem?_eq_some_iff.1 hlk.2).1]
  ·rfl
 generalize hob':({ob with box:=true,ver:=ob.ver+3}:aA)=ob'
 have e1:ob'.live=ob.live:=by rw [←hob']
 have e2:ob'.n=ob.n:=by rw [←hob']
 have e3:ob'.ver=ob.ver+3:=by rw [←hob']
 have e4:ob'.els=ob.els:=by rw [←hob']
 have e5:ob'.box=true:=by rw [←hob']
 have back:∀{j x y},look (o.set i ob') G j x y→(j=i∧x=ob'∧y=g)∨(j≠i∧look o G j x y):=fun h=>by
  rw [←hG] at h;exact tY h
 have fi:look (o.set i ob') G i ob' g:=by
  have:=oM (ob':=ob') (g':=g) hlk
  rwa [hG] at this
 have fo:∀{j x y},j≠i→look o G j x y→look (o.set i ob') G j x y:=fun hj h=>by
  have:=zD (ob':=ob') (g':=g) h hj
  rwa [hG] at this
 have k:bP w ((env B o G w).noL i) w (env B (o.set i ob') G w):=by
  refine ⟨fun x hx=>⟨⟨hx.1,fun j y z hlj hjl hf=> ?_⟩,rfl⟩,fun j h x hx=> ?_,fun j x hV h=>⟨?_,rfl⟩,fun j ver x h=> ?_,fun j ver p q x h=> ?_⟩
  ·rcases back hlj with ⟨rfl,rfl,rfl⟩|⟨_,h⟩
   ·exact hx.2 _ _ _ hlk (e1▸hjl) hf
   ·exact hx.2 _ _ _ h hjl hf
  ·obtain ⟨y,hy⟩:=r.look hx
   by_cases hj:j=i
   ·subst hj
    obtain ⟨rfl,rfl⟩:=gL hlk hy
    have:=h ob' fi.1
    rwa [e1] at this
   ·exact h x (fo hj hy).1
  ·obtain ⟨x',y,hlj,hjl,hf,hne⟩:=h
   by_cases hj:j=i
   ·subst hj
    obtain ⟨rfl,rfl⟩:=gL hlk hlj
    exact ⟨ob',g,fi,by rw [e1];exact hjl,hf,hne⟩
   ·exact ⟨x',y,fo hj hlj,hjl,hf,hne⟩
  ·obtain ⟨x',y,hlj,hver,hh,hz⟩:=h
   by_cases hj:j=i
   ·subst hj
    obtain ⟨rfl,rfl⟩:=gL hlk hlj
    exact ⟨ob',g,fi,by omega,fun _ e=>by omega,hz⟩
   ·exact ⟨x',y,fo hj hlj,hver,hh,hz⟩
  ·obtain ⟨hj,x',y,hlj,hver,hh,hz⟩:=h
   exact ⟨x',y,fo hj hlj,hver,hh,hz⟩
 have hbv:∀x,(env B o G w).H i ob.ver x→(env B (o.set i ob') G w).H i (ob.ver+3) x:=by
  rintro x ⟨x',y,hlj,hver,hh,hz⟩
  obtain ⟨rfl,rfl⟩:=gL hlk hlj
  exact ⟨ob',g,fi,by omega,fun _ _=>by rw [e4];exact hh hl rfl,fun h=>by omega⟩
 refine ⟨G,{len:=by simp [r.len],defs:=r.defs,ok:= ?_,apart:= ?_,fresh:= ?_,tmps:=bBi k hbv _ _ ht r.tmps,size:=r.size,frame:=r.frame,base:=r.base,same:=r.same}⟩
 ·intro j x y hlj hjl
  rcases back hlj with ⟨rfl,rfl,rfl⟩|⟨hj,h⟩
  ·obtain ⟨fp,q1,q2,q3⟩:=r.ok _ _ _ hlk (e1▸hjl)
   refine ⟨fp,?_,q2,q3⟩
   simp only [hb,Env.of,Bool.false_eq_true,if_false] at q1
   simp only [e5,Env.of,if_true,e2,e4]
   exact q1.keeps (k.plain.trans (aIw w _)) (fun _ _=>rfl)
  ·obtain ⟨fp,q1,q2,q3⟩:=r.ok j x y h hjl
   refine ⟨fp,?_,q2,q3⟩
   cases hx:x.box with
   |false=>
    simp only [hx,Env.of,Bool.false_eq_true,if_false] at q1⊢
    exact q1.keeps k.plain (fun _ _=>rfl)
   |true=>
    simp only [hx,Env.of,if_true] at q1⊢
    have hn:=List.all_eq_true.1 hall _ (List.mem_of_getElem? h.1)
    simp only [hx,Bool.not_true,Bool.false_or] at hn
    obtain ⟨hl,q1|⟨b,off,C,e,fz,fps,k1,k2,k3,k4,k5,k6,k7,k8⟩⟩:=q1
    ·exact ⟨hl,.inl q1⟩
    ·exact kX.keeps (E:=(env B o G w).noL i) ⟨hl,.inr ⟨b,off,C,e,fz,fps,k1,k2,k3,k4,k5,k6,k7,bAr _ _ _ _ _ hn k8⟩⟩ k (fun _ _=>rfl)
 ·intro j1 j2 x1 x2 y1 y2 z hl1 hl2 v1 v2 hf1 hf2
  rcases back hl1 with ⟨rfl,rfl,rfl⟩|⟨hj1,h1⟩<;>rcases back hl2 with ⟨rfl,rfl,rfl⟩|⟨hj2,h2⟩
  ·rfl
  ·exact r.apart _ _ _ _ _ _ z hlk h2 (e1▸v1) v2 hf1 hf2
  ·exact r.apart _ _ _ _ _ _ z h1 hlk v1 (e1▸v2) hf1 hf2
  ·exact r.apart _ _ _ _ _ _ z h1 h2 v1 v2 hf1 hf2
 ·intro j x y z hlj hjl hf
  rcases back hlj with ⟨rfl,rfl,rfl⟩|⟨_,h⟩
  ·exact r.fresh _ _ _ z hlk (e1▸hjl) hf
  ·exact r.fresh _ _ _ z h hjl hf
def aH6 (i:Nat):List AV→List AV
 |[]=>[]
 |x::xs=>(if nop i x then x else .undef)::aH6 i xs
attribute [simp] aH6
theorem aT0 (i:Nat):∀t:List AV,wk t (aH6 i t)
 |[]=>trivial
 |x::xs=>⟨by split;exact .inl rfl;exact .inr rfl,aT0 i xs⟩
theorem aOg (i:Nat):∀t:List AV,vW i (aH6 i t)=true
 |[]=>rfl
 |x::xs=>by
  simp only [aH6,vW,aOg i xs,Bool.and_true]
  split
  ·assumption
  ·rfl
theorem aHz {P:Program} [aB P] (i k c:Nat) {id:Nat} {L:List Oper} {Q:Exit→AS→Prop} {t t':List AV} {o o':List aA} {ob:aA} {e:List AV} {m:Nat} {rows:List (List AV)} (ho:o[i]? =some ob) (he:ob.els[k]? =some e) (hc:e[c]? =some (.sl .own m rows))
  (h:awp P (.region id L.toArray false) ⟨t',o'⟩ Q) (hl:ob.live=true:=by rfl) (hb:ob.box=false:=by rfl) (hall:(o.all fun x=> !x.box || x.els.all fun c=>vW i c&&lH i c)=true:=by simp)
  (hrow:(ob.els.all fun c=>lH i c)=true:=by simp) (ho':o.set i {ob with box:=true,ver:=ob.ver+3,els:=ob.els.set k (e.set c (.obj o.length 1))}++[⟨true,false,m,1,rows⟩]=o':=by simp;rfl) (hw:rtc (eZ [i]) true (bmp i ob.ver (aH6 i t))=t':=by simp;rfl):
  awp P (hide (.region id L.toArray false)) ⟨t,o⟩ Q:=by
 have hlt:=(List.getElem?_eq_some_iff.1 ho).1
 refine aHr (fG.trans (vG (aT0 i t)) (fG.trans (bBy i ho hl hb rfl (aOg i t) ?_) (sP i k c (ob:={ob with box:=true,ver:=ob.ver+3}) (by simp [hlt]) hl rfl ?_ he hc (by simpa using ho') (hw▸kQ _)))) h
 ·rw [List.all_eq_true] at hall⊢
  intro x hx
  have:=hall x hx
  simp only [Bool.or_eq_true,Bool.not_eq_true',List.all_eq_true,Bool.and_eq_true] at this⊢
  exact this.imp (fun h=>h) fun h r hr=>(h r hr).1
 ·rw [List.all_eq_true] at hall⊢
  intro x hx
  rcases List.mem_or_eq_of_mem_set hx with hx|rfl
  ·have:=hall x hx
   simp only [Bool.or_eq_true,Bool.not_eq_true',List.all_eq_true,Bool.and_eq_true] at this⊢
   exact this.imp (fun h=>h) fun h r hr=>(h r hr).2
  ·simp only [Bool.not_true,Bool.false_or];exact hrow
theorem aEu {P:Program} [aB P] (i J k c:Nat) (R:List (List AV)) {id:Nat} {L:List Oper} {Q:Exit→AS→Prop} {t:List AV} {o o':List aA} {ob oj:aA} {e:List AV} {ver:Nat} (ho:o[i]? =some ob) (hj:o[J]? =some oj)
  (he:ob.els[k]? =some e) (hc:e[c]? =some (.obj J ver)) (hR:ob.els.set k (e.set c (.sl .own oj.n oj.els))=R) (hp:((ob.els.set k (e.set c (.int .i64 0))).all fun r=>r.all AV.pureA)=true)
  (h:awp P (.region id L.toArray false) ⟨t,o'⟩ Q) (hij:i≠J:=by decide) (hl:ob.live=true:=by rfl) (hlj:oj.live=true:=by rfl) (hbj:oj.box=false:=by rfl) (hver:oj.ver=ver:=by rfl) (hbx:ob.box=true:=by rfl)
  (ho':(o.set J oj.kill).set i {ob with box:=false,els:=R}=o':=by simp [aA.kill];rfl):awp P (hide (.region id L.toArray false)) ⟨t,o⟩ Q:=
 aHr (aYp i J k c ho hj hij hl hlj hbj he hc hver hp hbx (by rw [hR];exact ho') (kQ _)) h
end Go.Aw

set_option maxRecDepth 4000
set_option maxHeartbeats 4000000
namespace Go.Proofs.YtaddkhdghlaalaaGreatDoor
open Go.Aw
def aBf (s:dS) (i:Nat):Bool:=match s.files[i]? with
 |some f=>bU f.path&&(iP f.response&&(s.files.take i).all fun g=> !(g.path == f.path))
 |none=>true
def pU (s:dS):Bool:=(List.range s.files.length).all (aBf s)&&(bU s.host&&decide ((s.files.length:Int)≤10))
theorem aC1 {s:dS} {k:Nat} (hk:k < s.files.length) (h:aBf s k=false):pU s=false:=by
 unfold pU
 rw [Bool.and_eq_false_iff]
 left
 rw [List.all_eq_false]
 exact ⟨k,by simpa using hk,by simp [h]⟩
theorem aT4 {s:dS} (h:∀i,i < s.files.length→aBf s i=true):pU s=(bU s.host&&decide ((s.files.length:Int)≤10)):=by
 unfold pU
 rw [List.all_eq_true.2 fun i hi=>h i (by simpa using hi),Bool.true_and]
theorem tL [aB Tryz.prog] [dB Tryz.prog] (s:dS) (hs:bQ s≤16777216):Ok Tryz.prog 132 [.agg (bJ .view s)] (.bool (pU s)):=by
 simp only [bQ,szL] at hs
 have hsl:s.files.length≤16777216:=by omega
 refine ent Tryz.mix Tryz.func132 Tryz.ntmps132 ?_
 refine aW ?_
 refine aR (ι:={k:Nat // k≤s.files.length∧∀i,i < k→aBf s i=true}) (fun t o i=>⟨aS t [(3,.int .i64 i.1)],o⟩)
  (fun i=>s.files.length - i.1) ⟨0,by simp,by simp⟩ aO ?_
 rintro ⟨k,hk,hi⟩ K1 hK1
 simp only [aS,List.set_cons_succ,List.set_cons_zero] at hK1⊢
 have hk1:=wk1 (k:=k) (by omega)
 by_cases hlt:k < s.files.length
 ·have hg:=List.getElem?_eq_getElem hlt
  have hz:=fM aAf s.files k hlt
  simp only [aAf] at hz
  have c1:=dW s.files[k].path (by omega)
  have c2:=uZ s.files[k].response (by omega)
  simp only [cZ] at c2
  have hok:aBf s k=(bU s.files[k].path&&(iP s.files[k].response&&(s.files.take k).all fun g=> !(g.path == s.files[k].path))):=by unfold aBf;rw [hg]
  generalize bU s.files[k].path=b1 at *
  generalize iP s.files[k].response=b2 at *
  cases b1
  ·rw [aC1 hlt (by rw [hok];rfl)]
   clear hi hok
   have W:=And.intro hk1 (And.intro hg hlt)
   refine we ?_
   exact aM Tryz.results132
  ·cases b2
   ·rw [aC1 hlt (by rw [hok];rfl)]
    clear hi hok
    have W:=And.intro hk1 (And.intro hg hlt)
    refine we ?_
    exact aM Tryz.results132
   ·rw [Bool.true_and,Bool.true_and] at hok
    have hnext:(∀g∈s.files.take k,(g.path == s.files[k].path)=false)→∀i,i < k+1→aBf s i=true:=fun h i h1=>by
     rcases Nat.lt_succ_iff_lt_or_eq.1 h1 with h2|rfl
     ·exact hi i h2
     ·rw [hok,List.all_eq_true]
      intro g hgm
      simp [h g hgm]
    have hbad:∀j,(hj:j < k)→(s.files[j].path == s.files[k].path)=true→pU s=false:=fun j hj he=>aC1 hlt (by
     rw [hok,List.all_eq_false]
     exact ⟨s.files[j],List.mem_take_iff_getElem.2 ⟨j,by omega,rfl⟩,by simp [he]⟩)
    clear hi hok
    generalize hW:pU s=w at *
    have W:=And.intro hk1 (And.intro hg hlt)
    refine we ?_
    have hK2:=hK1
    clear hK1
    refine aR (ι:={j:Nat // j≤k∧∀g∈s.files.take j,(g.path == s.files[k].path)=false}) (fun t o j=>⟨aS t [(4,.int .i64 (j.1:Int))],o⟩) (fun j=>k - j.1) ⟨0,by simp⟩ aO ?_
    rintro ⟨j,hj,hpj⟩ K3 hK3
    simp only [aS,List.set_cons_succ,List.set_cons_zero] at hK3⊢
    have hK4:=hK3
    clear hK3
    have hj1:IntKind.i64.wrap ((j:Int)+1)=((j+1:Nat):Int):=by rw [wrap64]<;>omega
    by_cases hjk:j < k
    ·have hji:(j:Int) < (k:Int):=by omega
     have hjl:j < s.files.length:=by omega
     have hg2:=List.getElem?_eq_getElem hjl
     have hb2:=hbad j hjk
     have hpn:(s.files[j].path == s.files[k].path)=false→∀g∈s.files.take (j+1),(g.path == s.files[k].path)=false:=fun he g hgm=>by
      rw [List.take_succ_eq_append_getElem hjl,List.mem_append] at hgm
      rcases hgm with hgm|hgm
      ·exact hpj g hgm
      ·simp only [List.mem_singleton] at hgm;subst hgm;exact he
     clear hpj hbad hnext
     cases he:s.files[j].path == s.files[k].path
     ·have hpn2:=hpn he
      clear hpn hb2
      have W:=And.intro hji (And.intro hg (And.intro hlt (And.intro hg2 (And.intro hjl (And.intro he hj1)))))
      refine we ?_
      exact hK4 _ ⟨j+1,by omega,hpn2⟩ aO (by simp only;omega)
     ·have hw:=hb2 he
      subst hw
      clear hb2 hpn hK4
      have W:=And.intro hji (And.intro hg (And.intro hlt (And.intro hg2 (And.intro hjl he))))
      refine we ?_
      exact aM Tryz.results132
    ·have hji:¬(j:Int) < (k:Int):=by omega
     obtain rfl:j=k:=by omega
     have hn2:=hnext hpj
     clear hK4 hpj hnext hbad
     have W:=And.intro hji hk1
     refine we ?_
     exact hK2 _ ⟨j+1,by omega,hn2⟩ aO (by simp only;omega)
 ·have c3:=dW s.host (by omega)
  rw [aT4 fun i h=>hi i (by omega)]
  clear hi
  generalize bU s.host=b3 at *
  cases b3
  ·have W:=hk1
   refine we ?_
   exact aM Tryz.results132
  ·have W:=hk1
   refine we ?_
   exact aM Tryz.results132
end Go.Proofs.YtaddkhdghlaalaaGreatDoor
