/-
  Proved here: steps towards the statement of this claim, text F9.
  No condition beyond what each statement spells out.
-/
import Derived.Test.YtaddkhdghlaalaaGreatDoorF2
set_option linter.all false
namespace Go.Aw
def rowOf (o:List aA) (i:Nat):List AV:=match o[i]? with
 |some ob=>ob.els.headD []
 |none=>[]
def aH8 (o:List aA):AV→List Nat
 | .ptr i _ _ _=>i::fK (rowOf o i)
 |_=>[]
def takes (o:List aA):List AV→List GA→List Nat
 |x::xs,.view _::gs=>takes o xs gs
 |x::xs,.give _::gs=>uses x++takes o xs gs
 |x::xs,.lend _ _::gs=>aH8 o x++takes o xs gs
 |_,_=>[]
def aXi (o:List aA) (c:List AV):AV→Prop
 | .ptr i ver 0 0=>∃ob,AV.isObj o i ver=some ob∧ob.box=true∧∃cells,ob.els=[cells]∧iW o cells=true∧jD o cells=c
 |_=>False
def handed (o:List aA) (u:List Nat):List AV→List GA→Prop
 |[],[]=>True
 |x::xs,.view y::gs=>away u x=true∧arg o x=y∧handed o u xs gs
 |x::xs,.give y::gs=>eB o x=true∧res o x=y∧handed o u xs gs
 |x::xs,.lend c _::gs=>aXi o c x∧handed o u xs gs
 |_,_=>False
def aS0 (o:List aA) (G:List CO) (c:List AV) (v:Value) (cap:Nat):AV→Prop
 | .ptr i _ _ _=>∃ob g b f,look o G i ob g∧ob.live=true∧ob.box=true∧ob.n=c.length∧ob.els.length=1∧g.a=some ⟨b,f,none⟩∧v= .pointer (some ⟨b,f,none⟩)∧g.F b∧g.cap=cap
 |_=>False
def lG (o:List aA) (G:List CO):List AV→List GA→List Value→List Nat→Prop
 |[],[],[],[]=>True
 |x::xs,.lend c _::gs,v::vs,cap::caps=>aS0 o G c v cap x∧lG o G xs gs vs caps
 |x::xs,.view _::gs,v::vs,cap::caps=>lG o G xs gs vs caps
 |x::xs,.give _::gs,v::vs,cap::caps=>lG o G xs gs vs caps
 |_,_,_,_=>False
section
variable {P : Program} [aB P] {B : Base P} {s : AS} {G : List CO} {a : Act} {w : World}
theorem aEo (r:bG B s G a w) {u1 u2:List Nat} (hd:∀i∈u1,∀j∈u2,i≠j) {b:Nat} (h1:Of s.o G u1 b) (h2:Of s.o G u2 b):False:=by
 obtain ⟨i,ob,g,hi,hl,hlive,hF⟩:=h1
 obtain ⟨j,ob',g',hj,hl',hlive',hF'⟩:=h2
 exact hd i hi j hj (r.apart i j _ _ _ _ b hl hl' hlive hlive' hF hF')
theorem wS {o:List aA} {u1 u2:List Nat} (h:∀i∈u1,i∈u2) {b:Nat} (h1:Of o G u1 b):Of o G u2 b:=by
 obtain ⟨i,ob,g,hi,k⟩:=h1
 exact ⟨i,ob,g,h i hi,k⟩
theorem aOo (r:bG B s G a w) {Z:Nat→Prop} {U:List Nat} (hZ:∀b,Z b→Of s.o G U b):bP w (env B s.o G w).plain w (nA w Z):=
 ⟨fun b hb=>⟨aLl r hZ hb,rfl⟩,fun _ _=>trivial,fun _ _ _ h=>h.elim,fun _ _ _ h=>h.elim,fun _ _ _ _ _ h=>h.elim⟩
theorem aXc (r:bG B s G a w) {c:List AV} {x:AV} {v:Value} (h:aXi s.o c x) (hx:R w (env B s.o G w) x v [])
  {us:List Nat} (hus:aH8 s.o x=us) (hnd:us.Nodup):
  ∃fp cap,fp.Nodup∧(∀b∈fp,Of s.o G us b)∧aS0 s.o G c v cap x∧∀c' Z U,(∀b,Z b→Of s.o G U b)→RG w Z (.lend c c') v fp cap:=by
 unfold aXi at h
 split at h
 ·rename_i i ver
  obtain ⟨ob,hob,hbox,cells,hels,hok,hres⟩:=h
  obtain ⟨h1,h2,h3⟩:=iO hob
  simp only [R] at hx
  obtain ⟨_,ob',g,hl,_,hh,_⟩:=hx
  obtain rfl:=Option.some.inj (hl.1.symm.trans h1)
  obtain ⟨b,f,hga,hv⟩:=hh h2 h3
  have hrow:rowOf s.o i=cells:=by simp [rowOf,h1,hels]
  simp only [aH8,hrow] at hus
  subst hus
  simp only [List.nodup_cons] at hnd
  obtain ⟨fp0,⟨hlen,hown⟩,hndo,hFo⟩:=r.ok i _ g hl h2
  rw [hels] at hown
  simp only [hbox,Env.of,if_true] at hown
  rcases hown with ⟨h5,_⟩|⟨b',f',C,ty,fz,fps,ha',hbk,hz,k1,k2,k3,rfl,hr⟩
  ·cases h5
  ·rw [hga] at ha'
   simp only [Option.some.injEq,Addr.mk.injEq,and_true] at ha'
   obtain ⟨rfl,rfl⟩:=ha'
   simp only [Rr] at hr
   obtain ⟨cs,f1,f2,hn,hc,hone,hrc,rfl,e⟩:=hr
   have e:fps=f1:=by simpa using e
   subst e
   simp only [List.nodup_cons] at hndo
   obtain ⟨fp',q1,q2,q3⟩:=aDt r hl h2 cells cs fps hok hnd.2 hnd.1 hndo.2 (fun x hx=>hFo x (by simp [hx])) hrc
   have hbF:g.F b:=hFo b (by simp)
   have hbn:b∉fp':=fun hb=>by
    rcases q3 b hb with h|h
    ·exact hndo.1 h
    ·obtain ⟨j,oj,gj,hj,hlj,hjl,hFj⟩:=h
     have:=r.apart i j _ _ _ _ b hl hlj h2 hjl hbF hFj
     exact hnd.1 (this▸hj)
   have hcl:cells.length=ob'.n:=by have:=dZ hrc;omega
   have hcc:c.length=ob'.n:=by rw [←hres,←hcl];clear q1 hok hres;induction cells with
    |nil=>rfl
    |cons _ _ _=>simp [jD,aC8]
   refine ⟨b::fp',g.cap,List.nodup_cons.2 ⟨hbn,q2⟩,?_,?_,?_⟩
   ·intro x hx
    rcases List.mem_cons.1 hx with rfl|hx
    ·exact ⟨i,ob',g,by simp,hl,h2,hbF⟩
    ·rcases q3 x hx with h|h
     ·exact ⟨i,ob',g,by simp,hl,h2,hFo x (by simp [h])⟩
     ·exact wS (fun j hj=>by simp [hj]) h
   ·exact ⟨ob',g,b,f,hl,h2,hbox,hcc.symm,by rw [hels];rfl,hga,by simpa using hv,hbF,rfl⟩
   ·intro c' Z U hZ
    simp only [RG]
    refine ⟨b,f,by simpa using hv,by simp [maxLen],.inr ⟨b,f,C,ty,fz,fp',rfl,hbk,by rw [hcc];exact hz,by rw [hcc];exact k1,by simpa using k2,k3,rfl,?_⟩⟩
    simp only [Rr]
    refine ⟨cs,fp',[],by rw [hcc];exact hn,hc,hone,?_,rfl,by simp⟩
    rw [←hres]
    exact dI (aOo r hZ) _ _ _ (fun _ _=>rfl) q1
 ·exact h.elim
theorem xA (r:bG B s G a w) {U:List Nat}:∀(xs:List AV) (gs:List GA) (vs:List Value),handed s.o U xs gs→(takes s.o xs gs).Nodup→(∀i∈takes s.o xs gs,i∈U)→Rc w (env B s.o G w) xs vs []→
  ∃fss caps,fss.flatten.Nodup∧(∀b∈fss.flatten,Of s.o G (takes s.o xs gs) b)∧lG s.o G xs gs vs caps∧∀Z,(∀b,Z b→Of s.o G U b)→RGs w Z gs vs fss caps
 |[],[],[],_,_,_,_=>⟨[],[],by simp,by simp,by simp [lG],fun _ _=>by simp [RGs]⟩
 |[],[],_::_,_,_,_,h=>by simp [Rc] at h
 |[],_::_,_,h,_,_,_=>by simp [handed] at h
 |_::_,[],_,h,_,_,_=>by simp [handed] at h
 |_::_,_::_,[],_,_,_,h=>by simp [Rc] at h
 |x::xs,.view y::gs,v::vs,h,hn,hu,hr=>by
  simp only [handed] at h
  obtain ⟨h1,h2,h3⟩:=h
  simp only [Rc] at hr
  obtain ⟨f1,f2,hr1,hr2,e⟩:=hr
  obtain ⟨rfl,rfl⟩:f1=[]∧f2=[]:=by simpa using e
  simp only [takes] at hn hu⊢
  obtain ⟨fss,caps,q1,q2,q3,q4⟩:=xA r xs gs vs h3 hn hu hr2
  refine ⟨[]::fss,0::caps,by simpa using q1,by simpa using q2,by simpa [lG] using q3,fun Z hZ=> ?_⟩
  simp only [RGs,RG]
  refine ⟨⟨trivial,?_⟩,q4 Z hZ⟩
  rw [←h2]
  exact aY5 r hZ x v h1 hr1
 |x::xs,.give y::gs,v::vs,h,hn,hu,hr=>by
  simp only [handed] at h
  obtain ⟨h1,h2,h3⟩:=h
  simp only [Rc] at hr
  obtain ⟨f1,f2,hr1,hr2,e⟩:=hr
  obtain ⟨rfl,rfl⟩:f1=[]∧f2=[]:=by simpa using e
  simp only [takes,List.nodup_append] at hn hu⊢
  obtain ⟨fss,caps,q1,q2,q3,q4⟩:=xA r xs gs vs h3 hn.2.1 (fun i hi=>hu i (by simp [hi])) hr2
  obtain ⟨fp,p1,p2,p3⟩:=zA r x v h1 hn.1 hr1
  refine ⟨fp::fss,0::caps,?_,?_,by simpa [lG] using q3,fun Z hZ=> ?_⟩
  ·simp only [List.flatten_cons,List.nodup_append]
   refine ⟨p2,q1,fun b hb b' hb' e=> ?_⟩
   subst e
   exact aEo r (fun i hi j hj=>hn.2.2 i hi j hj) (p3 b hb) (q2 b hb')
  ·intro b hb
   simp only [List.flatten_cons,List.mem_append] at hb
   rcases hb with hb|hb
   ·exact wS (fun i hi=>by simp [hi]) (p3 b hb)
   ·exact wS (fun i hi=>by simp [hi]) (q2 b hb)
  ·simp only [RGs,RG]
   refine ⟨?_,q4 Z hZ⟩
   rw [←h2]
   exact jL (aOo r hZ) _ _ _ (fun _ _=>rfl) p1
 |x::xs,.lend c c'::gs,v::vs,h,hn,hu,hr=>by
  simp only [handed] at h
  obtain ⟨h1,h3⟩:=h
  simp only [Rc] at hr
  obtain ⟨f1,f2,hr1,hr2,e⟩:=hr
  obtain ⟨rfl,rfl⟩:f1=[]∧f2=[]:=by simpa using e
  simp only [takes] at hn hu⊢
  generalize hus:aH8 s.o x=us at hn hu⊢
  simp only [List.nodup_append] at hn
  obtain ⟨fss,caps,q1,q2,q3,q4⟩:=xA r xs gs vs h3 hn.2.1 (fun i hi=>hu i (by simp [hi])) hr2
  obtain ⟨fp,cap,p1,p2,p3,p4⟩:=aXc r h1 hr1 hus hn.1
  refine ⟨fp::fss,cap::caps,?_,?_,by simp only [lG];exact ⟨p3,q3⟩,fun Z hZ=> ?_⟩
  ·simp only [List.flatten_cons,List.nodup_append]
   refine ⟨p1,q1,fun b hb b' hb' e=> ?_⟩
   subst e
   exact aEo r (fun i hi j hj=>hn.2.2 i hi j hj) (p2 b hb) (q2 b hb')
  ·intro b hb
   simp only [List.flatten_cons,List.mem_append] at hb
   rcases hb with hb|hb
   ·exact wS (fun i hi=>by simp [hi]) (p2 b hb)
   ·exact wS (fun i hi=>by simp [hi]) (q2 b hb)
  ·simp only [RGs]
   exact ⟨p4 c' Z U hZ,q4 Z hZ⟩
end
def wB:Nat→List GA→List aA
 |_,[]=>[]
 |k,.lend _ c'::gs=>(dJ 1 k c').2++wB (k+(dJ 1 k c').2.length) gs
 |k,.view _::gs=>wB k gs
 |k,.give _::gs=>wB k gs
def qQ:Nat→List AV→List GA→List (Nat×List (List AV))
 |k,x::xs,.lend _ c'::gs=>(match x with
  | .ptr i _ _ _=>[(i,[(dJ 1 k c').1])]
  |_=>[])++qQ (k+(dJ 1 k c').2.length) xs gs
 |k,_::xs,.view _::gs=>qQ k xs gs
 |k,_::xs,.give _::gs=>qQ k xs gs
 |_,_,_=>[]
def aA.gaged (ob:aA) (N:List (Nat×List (List AV))) (u:List Nat) (i:Nat):aA:=
 match N.find? (fun p=>p.1 == i) with
 |some p=>{ob with els:=p.2}
 |none=>if u.contains i=true then {ob with live:=false} else ob.forget u
def vM (N:List (Nat×List (List AV))) (u:List Nat):Nat→List aA→List aA
 |_,[]=>[]
 |i,ob::r=>ob.gaged N u i::vM N u (i+1) r
theorem aOx (N:List (Nat×List (List AV))) (u:List Nat):∀(o:List aA) (k i:Nat),(vM N u k o)[i]? =(o[i]?).map fun ob=>ob.gaged N u (k+i)
 |[],_,_=>by simp [vM]
 |ob::r,k,0=>by simp [vM]
 |ob::r,k,i+1=>by
  simp only [vM,List.getElem?_cons_succ]
  rw [aOx N u r (k+1) i,show k+1+i=k+(i+1) by omega]
theorem aBw (N:List (Nat×List (List AV))) (u:List Nat):∀(o:List aA) (k:Nat),(vM N u k o).length=o.length
 |[],_=>rfl
 |g::r,k=>by simp [vM,aBw N u r]
def zB (N:List (Nat×List (List AV))):Nat→List CO→List CO
 |_,[]=>[]
 |i,g::r=>(match N.find? (fun p=>p.1 == i) with
  |some _=>{g with F:=fun b=>∃a,g.a=some a∧b=a.block}
  |none=>g)::zB N (i+1) r
theorem aOk (N:List (Nat×List (List AV))):∀(G:List CO) (k i:Nat),(zB N k G)[i]? =(G[i]?).map fun g=>match N.find? (fun p=>p.1 == k+i) with
  |some _=>{g with F:=fun b=>∃a,g.a=some a∧b=a.block}
  |none=>g
 |[],_,_=>by simp [zB]
 |g::r,k,0=>by simp [zB]
 |g::r,k,i+1=>by
  simp only [zB,List.getElem?_cons_succ]
  rw [aOk N r (k+1) i,show k+1+i=k+(i+1) by omega]
theorem aBk (N:List (Nat×List (List AV))):∀(o:List CO) (k:Nat),(zB N k o).length=o.length
 |[],_=>rfl
 |g::r,k=>by simp [zB,aBk N r]
theorem aOi {o:List aA} {G:List CO} {N:List (Nat×List (List AV))} {u:List Nat} {i:Nat} {ob':aA} {g':CO} (h:look (vM N u 0 o) (zB N 0 G) i ob' g'):
  ∃ob g,look o G i ob g∧((∃p∈N,p.1=i∧ob'={ob with els:=p.2}∧g'={g with F:=fun b=>∃a,g.a=some a∧b=a.block})∨
   ((∀p∈N,p.1≠i)∧g'=g∧((i∈u∧ob'={ob with live:=false})∨(i∉u∧ob'=ob.forget u)))):=by
 obtain ⟨h1,h2⟩:=h
 rw [aOx,Nat.zero_add] at h1
 rw [aOk,Nat.zero_add] at h2
 cases ho:o[i]? with
 |none=>simp [ho] at h1
 |some ob=>
  cases hg:G[i]? with
  |none=>simp [hg] at h2
  |some g=>
   rw [ho] at h1;rw [hg] at h2
   simp only [Option.map_some,Option.some.injEq] at h1 h2
   refine ⟨ob,g,⟨ho,hg⟩,?_⟩
   unfold aA.gaged at h1
   cases hf:N.find? (fun p=>p.1 == i) with
   |some p=>
    rw [hf] at h1 h2
    left
    exact ⟨p,List.mem_of_find?_eq_some hf,by have:=List.find?_some hf;simpa using this,h1.symm,h2.symm⟩
   |none=>
    rw [hf] at h1 h2
    right
    refine ⟨fun p hp e=> ?_,h2.symm,?_⟩
    ·have:=List.find?_eq_none.1 hf p hp
     simp [e] at this
    ·simp only at h1
     by_cases hiu:i∈u
     ·rw [if_pos (by simpa using hiu)] at h1;exact .inl ⟨hiu,h1.symm⟩
     ·rw [if_neg (by simpa using hiu)] at h1;exact .inr ⟨hiu,h1.symm⟩
theorem aZ2 {o:List aA} {G:List CO} {N:List (Nat×List (List AV))} {u:List Nat} {i:Nat} {ob:aA} {g:CO} (h:look o G i ob g):
  ∃ob' g',look (vM N u 0 o) (zB N 0 G) i ob' g':=by
 have h1:=(List.getElem?_eq_some_iff.1 h.1).1
 have h2:=(List.getElem?_eq_some_iff.1 h.2).1
 exact ⟨_,_,List.getElem?_eq_getElem (by rw [aBw];exact h1),List.getElem?_eq_getElem (by rw [aBk];exact h2)⟩
theorem xC {w:World} {s:AS} {G:List CO}:∀(xs:List AV) (gs:List GA) (vs:List Value) (fss:List (List Nat)) (caps:List Nat) (k:Nat),lG s.o G xs gs vs caps→RPs w gs vs fss caps→fss.flatten.Nodup→
  ∃inner,inner.Nodup∧(∀b∈inner,b∈fss.flatten)∧
   (∀p∈qQ k xs gs,∃ob g b f,look s.o G p.1 ob g∧ob.live=true∧ob.box=true∧ob.els.length=p.2.length∧g.a=some ⟨b,f,none⟩∧g.F b∧b∈fss.flatten∧b∉inner)∧
   iV 1 w mP k (wB k gs) inner (fun E'=>∀p∈qQ k xs gs,∀ob g b f,look s.o G p.1 ob g→g.a=some ⟨b,f,none⟩→kX w E' ob.n p.2 g.a g.cap [b])
 |[],[],[],[],[],k,_,_,_=>⟨[],by simp,by simp,by simp [qQ],⟨[],rfl,fun j ob g hl=>by simp [look,wB] at hl,fun i j oi oj gi gj b hl=>by simp [look,wB] at hl,fun E' _ _ p hp=>by simp [qQ] at hp⟩⟩
 |x::xs,.view y::gs,v::vs,fp::fss,cap::caps,k,hl,hp,hn=>by
  simp only [RPs,RP] at hp
  obtain ⟨rfl,hp⟩:=hp
  simp only [wB,qQ]
  have:=xC xs gs vs fss caps k (by simpa [lG] using hl) hp (by simpa using hn)
  simpa using this
 |x::xs,.give y::gs,v::vs,fp::fss,cap::caps,k,hl,hp,hn=>by
  simp only [RPs,RP] at hp
  obtain ⟨rfl,hp⟩:=hp
  simp only [wB,qQ]
  have:=xC xs gs vs fss caps k (by simpa [lG] using hl) hp (by simpa using hn)
  simpa using this
 |x::xs,.lend c c'::gs,v::vs,fp::fss,cap::caps,k,hl,hp,hn=>by
  simp only [RPs,RP] at hp
  obtain ⟨⟨b0,f0,hv0,hlen,hown⟩,hp⟩:=hp
  simp only [lG] at hl
  obtain ⟨hl0,hl⟩:=hl
  simp only [List.flatten_cons,List.nodup_append] at hn
  obtain ⟨inner,i1,i2,i3,i4⟩:=xC xs gs vs fss caps (k+(dJ 1 k c').2.length) hl hp hn.2.1
  unfold aS0 at hl0
  split at hl0
  ·rename_i i ver idx off
   obtain ⟨ob,g,b,f,hlk,hlive,hbox,hcn,hel,hga,hv,hF,rfl⟩:=hl0
   rw [hv] at hv0
   simp only [Value.pointer.injEq,Option.some.injEq,Addr.mk.injEq,and_true] at hv0
   obtain ⟨rfl,rfl⟩:=hv0
   rcases hown with ⟨h5,_⟩|⟨b',f',C,ty,fz,fps,ha',hbk,hz,k1,k2,k3,rfl,hr⟩
   ·cases h5
   simp only [Option.some.injEq,Addr.mk.injEq,and_true] at ha'
   obtain ⟨rfl,rfl⟩:=ha'
   simp only [Rr] at hr
   obtain ⟨cs,f1,f2,hcl,hc,hone,hrc,rfl,e⟩:=hr
   have e:fps=f1:=by simpa using e
   subst e
   have hnb:=hn.1
   simp only [List.nodup_cons] at hnb
   have hab:=aAe (q:=1) c' cs fps k hrc hnb.2
   have hdis:(fps++inner).Nodup:=List.nodup_append.2 ⟨hnb.2,i1,fun x hx y hy e=>hn.2.2 x (by simp [hx]) y (i2 y hy) e⟩
   obtain ⟨Gs,a1,a2,a3,a4⟩:=hab.append i4 hdis
   have hbi:b∉inner:=fun h=>hn.2.2 b (by simp) b (i2 b h) rfl
   refine ⟨fps++inner,hdis,?_,?_,⟨Gs,a1,a2,a3,fun E' hk hh=> ?_⟩⟩
   ·intro x hx
    simp only [List.flatten_cons,List.mem_append]
    rcases List.mem_append.1 hx with hx|hx
    ·exact .inl (by simp [hx])
    ·exact .inr (i2 x hx)
   ·intro p hp
    simp only [qQ,List.mem_append] at hp
    rcases hp with hp|hp
    ·simp only [List.mem_singleton] at hp
     subst hp
     exact ⟨ob,g,b,f,hlk,hlive,hbox,by simpa using hel,hga,hF,by simp,by simp only [List.mem_append,not_or];exact ⟨hnb.1,hbi⟩⟩
    ·obtain ⟨ob1,g1,b1,f1,q1,q2,q3,q4,q5,q6,q7,q8⟩:=i3 p hp
     refine ⟨ob1,g1,b1,f1,q1,q2,q3,q4,q5,q6,by simp [q7],?_⟩
     simp only [List.mem_append,not_or]
     exact ⟨fun h=>hn.2.2 b1 (by simp [h]) b1 q7 rfl,q8⟩
   ·obtain ⟨d1,d2⟩:=a4 E' hk hh
    intro p hp ob1 g1 b1 f1 q1 q2
    simp only [qQ,List.mem_append] at hp
    rcases hp with hp|hp
    ·simp only [List.mem_singleton] at hp
     subst hp
     obtain ⟨rfl,rfl⟩:=gL hlk q1
     rw [hga] at q2
     simp only [Option.some.injEq,Addr.mk.injEq,and_true] at q2
     obtain ⟨rfl,rfl⟩:=q2
     refine ⟨by simp [maxLen],.inr ⟨b,f,C,ty,fz,[],hga,hbk,by rw [hcn];exact hz,by rw [hcn];exact k1,by simpa using k2,k3,rfl,?_⟩⟩
     simp only [Rr]
     exact ⟨cs,[],[],by rw [hcn];exact hcl,hc,hone,d1,rfl,rfl⟩
    ·exact d2 p hp ob1 g1 b1 f1 q1 q2
  ·exact hl0.elim
 |[],[],[],[],_::_,_,hl,_,_=>by simp [lG] at hl
 |[],[],[],_::_,_,_,_,hp,_=>by simp [RPs] at hp
 |[],[],_::_,_,_,_,_,hp,_=>by simp [RPs] at hp
 |[],_::_,_,_,_,_,hl,_,_=>by simp [lG] at hl
 |_::_,[],_,_,_,_,hl,_,_=>by simp [lG] at hl
 |_::_,.view _::_,[],_,_,_,hl,_,_=>by simp [lG] at hl
 |_::_,.view _::_,_::_,[],_,_,_,hp,_=>by simp [RPs] at hp
 |_::_,.view _::_,_::_,_::_,[],_,_,hp,_=>by simp [RPs] at hp
 |_::_,.give _::_,[],_,_,_,hl,_,_=>by simp [lG] at hl
 |_::_,.give _::_,_::_,[],_,_,_,hp,_=>by simp [RPs] at hp
 |_::_,.give _::_,_::_,_::_,[],_,_,hp,_=>by simp [RPs] at hp
 |_::_,.lend _ _::_,[],_,_,_,hl,_,_=>by simp [lG] at hl
 |_::_,.lend _ _::_,_::_,[],_,_,_,hp,_=>by simp [RPs] at hp
 |_::_,.lend _ _::_,_::_,_::_,[],_,_,hp,_=>by simp [RPs] at hp
theorem aEn (o:List aA):∀(xs:List AV) (gs:List GA) (k:Nat),∀p∈qQ k xs gs,p.1∈takes o xs gs
 |[],[],_,p,hp=>by simp [qQ] at hp
 |[],_::_,_,p,hp=>by simp [qQ] at hp
 |_::_,[],_,p,hp=>by simp [qQ] at hp
 |x::xs,.view _::gs,k,p,hp=>by
  simp only [qQ] at hp
  simpa [takes] using aEn o xs gs k p hp
 |x::xs,.give _::gs,k,p,hp=>by
  simp only [qQ] at hp
  simp only [takes,List.mem_append]
  exact .inr (aEn o xs gs k p hp)
 |x::xs,.lend _ c'::gs,k,p,hp=>by
  simp only [qQ,List.mem_append] at hp
  simp only [takes,List.mem_append]
  rcases hp with hp|hp
  ·left
   cases x<;>simp at hp
   subst hp;simp [aH8]
  ·exact .inr (aEn o xs gs _ p hp)
def AS.given (s:AS) (d:Option Tmp) (xs:List AV) (gs:List GA) (r:AV):AS:=
 AS.put ⟨rtc (eZ (takes s.o xs gs)) true s.t,vM (qQ s.o.length xs gs) (takes s.o xs gs) 0 s.o++wB s.o.length gs++(dG 1 (s.o.length+(wB s.o.length gs).length) r).2⟩ d
  (dG 1 (s.o.length+(wB s.o.length gs).length) r).1
end Go.Aw

namespace Go.Aw
section
variable {P : Program} [aB P] {B : Base P} {s : AS} {dst : Option Tmp} {ty : TypeId} {pos : String} {after : Array Edge} {gd : Option (Nat × Bool)}
theorem aZw (f:Operand) (args:Array Operand) (tys:Array TypeId) {gf:FuncId} {gs:List GA} {rv:AV} (hf:s.ev f= .fn gf []) (hc:callable P gf=true)
  (hu:(takes s.o (s.args args) gs).Nodup) (hh:handed s.o (takes s.o (s.args args) gs) (s.args args) gs) (hok:OkG P gf gs rv):
  Step P B ⟨dst,.call {callee:= .value f,args:=args,argTypes:=tys},ty,pos,after,gd⟩ s (s.given dst (s.args args) gs rv):=by
 rintro a w next Q ⟨G,rr⟩ hn
 have h1:=rr.ev f
 rw [hf] at h1
 simp only [R] at h1
 obtain ⟨_,cs,hv,hcap⟩:=h1
 have hcs:cs=[]:=by cases cs with
  |nil=>rfl
  |cons _ _=>simp [Rc] at hcap
 subst hcs
 have hargs:Rc w (env B s.o G w) (s.args args) (args.toList.map a.eval) []:=by simpa [AS.args] using pK rr args.toList
 generalize hxs:s.args args=xs at *
 obtain ⟨fss,caps,hnd,hOf,hlends,hreads⟩:=xA rr (U:=takes s.o xs gs) xs gs _ hh hu (fun i h=>h) hargs
 generalize huu:takes s.o xs gs=u at *
 have hlt:∀b∈fss.flatten,b < w.heap.size:=fun b hb=>by
  obtain ⟨i,ob,g,_,hl,hlive,hF⟩:=hOf b hb
  exact (rr.fresh _ _ _ b hl hlive hF).2
 have hab:∀b∈fss.flatten,aB.low P≤b∧b < w.heap.size:=fun b hb=>by
  obtain ⟨i,ob,g,_,hl,hlive,hF⟩:=hOf b hb
  exact ⟨rr.above (rr.fresh _ _ _ b hl hlive hF).1,hlt b hb⟩
 have hcall:=hok w _ fss caps rr.holds hab hnd (hreads _ hOf)
 unfold Oper.wp
 have hrun:(execOp a.eval ⟨dst,.call {callee:= .value f,args:=args,argTypes:=tys},ty,pos,after,gd⟩).run P w= .ok (.enter gf (args.toList.map a.eval).toArray) w:=by
  have e:args.map a.eval=(args.toList.map a.eval).toArray:=by apply Array.ext';simp
  simp [execOp,resolve,hv,Deferred.ofValue,invoke,rP hc,e]
 rw [hrun,Oper.upon_enter]
 refine hcall.mono fun e w' h=> ?_
 obtain ⟨v,fp,fss',rfl,hrr,hrp,hnd',hfr,hsz,hsame,hio⟩:=h
 refine hn _ _ ?_
 have hnd2:=List.nodup_append.1 hnd'
 obtain ⟨inner,i1,i2,i3,i4⟩:=xC (s:=s) (G:=G) xs gs _ fss' caps s.o.length hlends hrp hnd2.1
 have hdis:(inner++fp).Nodup:=List.nodup_append.2 ⟨i1,hnd2.2.1,fun x hx y hy e=>hnd2.2.2 x (i2 x hx) y hy e⟩
 obtain ⟨Gs,hlen,hobj,hap,hdone⟩:=i4.append (yR (q:=1) rv v fp (s.o.length+(wB s.o.length gs).length) hrr hnd2.2.1) hdis
 have hNu:=aEn s.o xs gs s.o.length
 rw [huu] at hNu
 unfold AS.given
 rw [huu]
 generalize hN:qQ s.o.length xs gs=N at *
 rw [List.append_assoc]
 generalize hnews:wB s.o.length gs++(dG 1 (s.o.length+(wB s.o.length gs).length) rv).2=news at *
 generalize ho1:vM N u 0 s.o=o1
 generalize hG1:zB N 0 G=G1
 have hl1:o1.length=s.o.length:=by rw [←ho1,aBw]
 have hlg1:G1.length=G.length:=by rw [←hG1,aBk]
 have hlG:G1.length=o1.length:=by rw [hlg1,hl1,rr.len]
 have blk:∀b,b∈fss'.flatten++fp→(Of s.o G u b∨w.heap.size≤b)∧b < w'.heap.size:=fun b hb=>by
  have:=hfr b hb
  refine ⟨?_,this.2⟩
  rcases this.1 with h|h
  ·exact .inl (hOf b h)
  ·exact .inr h
 have newF:∀{j ob g b},look news Gs j ob g→g.F b→b∈inner++fp:=by
  intro j ob g b hl hF
  obtain ⟨_,_,_,f',_,_,h3,h4⟩:=hobj _ _ _ hl
  exact h4 _ ((h3 _).1 hF)
 have newX:∀{b},b∈inner++fp→b∈fss'.flatten++fp:=by
  intro b hb
  rcases List.mem_append.1 hb with h|h
  ·exact List.mem_append_left _ (i2 b h)
  ·exact List.mem_append_right _ h
 have lk:∀{i ob' g'},look (o1++news) (G1++Gs) i ob' g'→(∃j,i=s.o.length+j∧look news Gs j ob' g')∨(i < s.o.length∧∃ob g,look s.o G i ob g∧
   ((∃p∈N,p.1=i∧ob'={ob with els:=p.2}∧g'={g with F:=fun b=>∃a,g.a=some a∧b=a.block})∨
   ((∀p∈N,p.1≠i)∧g'=g∧((i∈u∧ob'={ob with live:=false})∨(i∉u∧ob'=ob.forget u))))):=by
  intro i ob' g' h
  rcases jX hlG h with ⟨hi,h⟩|⟨hi,h⟩
  ·right
   refine ⟨by omega,?_⟩
   rw [←ho1,←hG1] at h
   exact aOi h
  ·left
   exact ⟨i - o1.length,by omega,h⟩
 have boxN:∀{p},p∈N→∀{ob g},look s.o G p.1 ob g→ob.live=true∧ob.box=true∧ob.els.length=p.2.length∧∃b f,g.a=some ⟨b,f,none⟩∧g.F b∧b∈fss'.flatten∧b∉inner:=by
  intro p hp ob g hl
  obtain ⟨ob2,g2,b,f,q1,q2,q3,q4,q5,q6,q7,q8⟩:=i3 p hp
  obtain ⟨rfl,rfl⟩:=gL hl q1
  exact ⟨q2,q3,q4,b,f,q5,q6,q7,q8⟩
 have kl:∀{i ob g},look s.o G i ob g→∃ob' g',look (o1++news) (G1++Gs) i ob' g'∧(ob'.live=true→ob.live=true)∧ob'.ver=ob.ver∧ob'.n=ob.n∧g'.a=g.a∧g'.cap=g.cap∧ob'.els.length=ob.els.length∧ob'.box=ob.box∧
   (i∉u→g'=g∧ob'.live=ob.live):=by
  intro i ob g h
  obtain ⟨ob',g',h'⟩:=aZ2 (N:=N) (u:=u) h
  rw [ho1,hG1] at h'
  have h'':=lQ (o2:=news) (G2:=Gs) h'
  refine ⟨ob',g',h'',?_⟩
  rw [←ho1,←hG1] at h'
  obtain ⟨ob2,g2,h2,hcase⟩:=aOi h'
  obtain ⟨rfl,rfl⟩:=gL h h2
  rcases hcase with ⟨p,hp,rfl,rfl,rfl⟩|⟨hno,rfl,⟨hiu,rfl⟩|⟨hiu,rfl⟩⟩
  ·obtain ⟨b1,b2,b3,_⟩:=boxN hp h
   exact ⟨fun _=>b1,rfl,rfl,rfl,rfl,b3.symm,rfl,fun hn=>absurd (hNu p hp) hn⟩
  ·exact ⟨fun h=>by simp at h,rfl,rfl,rfl,rfl,rfl,rfl,fun hn=>absurd hiu hn⟩
  ·exact ⟨fun h=>by rw [lL] at h;exact h,aJ9 _ _,aTi _ _,rfl,rfl,aJ3 _ _,aL8 _ _,fun _=>⟨rfl,lL _ _⟩⟩
 have notOf:∀{i ob g b},look s.o G i ob g→ob.live=true→g.F b→i∉u→¬Of s.o G u b:=by
  intro i ob g b hl hlive hF hiu hO
  obtain ⟨j,oj,gj,hj,hlj,hjl,hFj⟩:=hO
  exact hiu (rr.apart i j _ _ _ _ b hl hlj hlive hjl hF hFj▸hj)
 have notX:∀{i ob g b},look s.o G i ob g→ob.live=true→g.F b→i∉u→b∉fss'.flatten++fp:=by
  intro i ob g b hl hlive hF hiu hX
  rcases (blk b hX).1 with h|h
  ·exact notOf hl hlive hF hiu h
  ·have:=(rr.fresh _ _ _ b hl hlive hF).2;omega
 have keepF:∀i ob g b,look s.o G i ob g→ob.live=true→g.F b→i∉u→w'.heap[b]? =w.heap[b]?:=fun i ob g b hl hlive hF hiu=>
  hsame b (rr.fresh _ _ _ b hl hlive hF).2 (fun hm=>notOf hl hlive hF hiu (hOf b hm))
 let Er:Env:={env B s.o G w with D:=fun i b=>i∉u∧(env B s.o G w).D i b}
 have rt1:iT (eZ u) true (env B s.o G w) Er (fun _=>True):=by
  refine ⟨fun t e=>by simp [eZ] at e,fun t e=>by simp only [eZ,Option.some.injEq] at e;exact ⟨e.symm,fun b hb=>hb⟩,fun i t e=> ?_,fun _ _ _ _ h=>h,fun _ _ _ _ _ _ h=>h⟩
  simp only [eZ] at e
  split at e
  ·cases e
  ·rename_i hiu
   obtain rfl:=Option.some.inj e
   refine ⟨by simp,?_,fun b hb=>⟨hiu,hb⟩⟩
   by_cases hV:(env B s.o G w).V i
   ·exact .inl hV
   ·exact .inr hV
 have k2:bP w Er w' (env B (o1++news) (G1++Gs) w'):=by
  refine ⟨fun b hb=> ?_,fun i h ob hob=> ?_,fun i b hV h=> ?_,fun i ver x h=> ?_,fun i ver j q x h=> ?_⟩
  ·have hb':(env B s.o G w).A b:=hb
   have hbl:=lX rr hb'
   have hnO:¬Of s.o G u b:=fun ⟨i,ob,g,_,hl,hlive,hF⟩=>hb'.2 i ob g hl hlive hF
   have hnX:b∉fss'.flatten++fp:=fun hX=>by
    rcases (blk b hX).1 with h|h
    ·exact hnO h
    ·omega
   refine ⟨⟨?_,fun i ob' g' hl hlive hF=> ?_⟩,hsame b hbl (fun h=>hnO (hOf b h))⟩
   ·rcases hb'.1 with h|h
    ·exact .inl h
    ·exact .inr ⟨h.1,by omega⟩
   ·rcases lk hl with ⟨j,_,hl2⟩|⟨_,ob,g,hl0,⟨p,hp,rfl,_,rfl⟩|⟨_,rfl,⟨_,rfl⟩|⟨_,rfl⟩⟩⟩
    ·exact hnX (newX (newF hl2 hF))
    ·obtain ⟨b1,b2,b3,b0,f0,b4,b5,b6,_⟩:=boxN hp hl0
     obtain ⟨a0,ha0,rfl⟩:=hF
     rw [b4] at ha0
     obtain rfl:=Option.some.inj ha0
     exact hb'.2 _ ob g hl0 b1 b5
    ·simp at hlive
    ·refine hb'.2 i ob g' hl0 ?_ hF
     rw [lL] at hlive;exact hlive
  ·have hi:i < G.length:=by rw [rr.len];exact (List.getElem?_eq_some_iff.1 hob).1
   obtain ⟨ob',g',hl,h1,_⟩:=kl (i:=i) (ob:=ob) (g:=G[i]) ⟨hob,List.getElem?_eq_getElem hi⟩
   exact h1 (h ob' hl.1)
  ·obtain ⟨hiu,ob,g,hl,hlive,hF,hne⟩:=h
   obtain ⟨ob',g',hl',_,_,_,_,_,_,_,h7⟩:=kl hl
   obtain ⟨rfl,h8⟩:=h7 hiu
   exact ⟨⟨ob',g',hl',by rw [h8];exact hlive,hF,hne⟩,keepF i ob g' b hl hlive hF hiu⟩
  ·obtain ⟨ob,g,hl,hver,hh,hz⟩:=h
   obtain ⟨ob',g',hl',h1,h2,h3,h4,h5,h6,_⟩:=kl hl
   exact ⟨ob',g',hl',by omega,fun hlive hve=>by rw [h4,h5,h6];exact hh (h1 hlive) (by omega),hz⟩
  ·obtain ⟨ob,g,hl,hver,hh,hz⟩:=h
   obtain ⟨ob',g',hl',h1,h2,h3,h4,h5,h6,h8,_⟩:=kl hl
   exact ⟨ob',g',hl',by omega,fun hlive hve=>by rw [h4,h3];exact hh (h1 hlive) (by omega),
    fun e e2 e3 e4 y hy=>⟨(hz (by rw [←h8];exact e) e2 e3 e4 y hy).1,fun hlive hve=>by rw [h5];exact (hz (by rw [←h8];exact e) e2 e3 e4 y hy).2 (h1 hlive) (by omega)⟩⟩
 have tm:Rc w' (env B (o1++news) (G1++Gs) w') (rtc (eZ u) true s.t) a.tmps.toList []:=
  dI k2 _ _ _ (by simp) (qB rt1 _ _ _ (by simp) rr.tmps)
 have kn:∀E':Env,bP w' mP w' E':=fun E'=>⟨fun _ h=>h.elim,fun _ _=>trivial,fun _ _ _ h=>h.elim,fun _ _ _ h=>h.elim,fun _ _ _ _ _ h=>h.elim⟩
 have hfin:=hdone (env B (o1++news) (G1++Gs) w') (kn _) (fun j ob g hl=>by
  obtain ⟨_,_,h3,_⟩:=hobj _ _ _ hl
  refine ⟨ob,g,?_,Nat.le_of_eq h3.symm,fun _ _=>rfl,fun h=>absurd h (by decide)⟩
  have:=mG (o:=o1) (G:=G1) hlG hl
  rwa [hl1] at this)
 obtain ⟨hbx,hres⟩:=hfin
 have rel:bG B ⟨rtc (eZ u) true s.t,o1++news⟩ (G1++Gs) a w':=by
  refine {len:=by simp [hlG,hlen],defs:=rr.defs,ok:= ?_,apart:= ?_,fresh:= ?_,tmps:=tm,size:=Nat.le_trans rr.size hsz,frame:= ?_,base:=rr.base,same:=rr.same.trans hio}
  ·intro i ob' g' hl hlive
   rcases lk hl with ⟨j,_,hl2⟩|⟨_,ob,g,hl0,⟨p,hp,rfl,rfl,rfl⟩|⟨_,rfl,⟨_,rfl⟩|⟨hiu,rfl⟩⟩⟩
   ·obtain ⟨h1,h2,_,f',hown,h3,h4,h5⟩:=hobj _ _ _ hl2
    refine ⟨f',?_,h3,fun b hb=>(h4 b).2 hb⟩
    rw [h2]
    exact hown.keeps (kn _).plain (fun _ _=>rfl)
   ·obtain ⟨b1,b2,b3,b0,f0,b4,b5,b6,_⟩:=boxN hp hl0
    have:=hbx p hp ob g b0 f0 hl0 b4
    refine ⟨[b0],?_,by simp,?_⟩
    ·simp only [b2,Env.of,if_true]
     exact this
    ·intro b hb
     simp only [List.mem_singleton] at hb
     subst hb
     exact ⟨_,b4,rfl⟩
   ·simp at hlive
   ·rw [lL] at hlive
    obtain ⟨fpo,hown,hndo,hFo⟩:=rr.ok i ob g' hl0 hlive
    by_cases hbx:ob.box=true
    ·simp only [hbx,Env.of,if_true] at hown
     obtain ⟨hlen,hown⟩:=hown
     by_cases hall:xV ob.els=true
     ·have hfo:ob.forget u=ob:=by unfold aA.forget;simp [hbx,hall]
      rw [hfo]
      refine ⟨fpo,?_,hndo,hFo⟩
      simp only [hbx,Env.of,if_true]
      refine ⟨hlen,?_⟩
      rcases hown with h|⟨b,off,C,e,fz,fps',ha,hb,hz,h1,h2,h3,rfl,hrr'⟩
      ·exact .inl h
      ·have hbs:=keepF i ob g' b hl0 hlive (hFo b (by simp)) hiu
       exact .inr ⟨b,off,C,e,fz,fps',ha,by rw [hbs];exact hb,hz,h1,h2,h3,rfl,kK k2 _ _ _ _ _ hbs (fun x hx=>keepF i ob g' x hl0 hlive (hFo x (by simp [hx])) hiu) (aW8 hall hrr')⟩
     ·have hfo:ob.forget u={ob with els:=rtr (eZ u) true ob.els}:=by unfold aA.forget;rw [if_pos hbx,if_neg hall]
      rw [hfo]
      rcases hown with ⟨h1,h2,h3⟩|⟨b,off,C,e,fz,fps',ha,hb,hz,h1,h2,h3,rfl,hrr'⟩
      ·exact ⟨[],⟨by simp [jT];exact hlen,.inl ⟨by simp [h1,rtr],h2,rfl⟩⟩,by simp,by simp⟩
      ·have hbF:=hFo b (by simp)
       have hbs:=keepF i ob g' b hl0 hlive hbF hiu
       refine ⟨[b],⟨by simp [jT];exact hlen,.inr ⟨b,off,C,e,fz,[],ha,by rw [hbs];exact hb,hz,h1,by simpa [jT] using h2,h3,rfl,?_⟩⟩,by simp,by simpa using hbF⟩
       simp only [hbx,Env.of,if_true]
       exact kK k2 _ _ _ _ _ hbs (by simp) (zL rt1 _ _ _ _ _ (by simp) hrr')
    ·have hbx':ob.box=false:=by simpa using hbx
     have hfo:ob.forget u=ob:=by unfold aA.forget;simp [hbx']
     rw [hfo]
     refine ⟨fpo,?_,hndo,hFo⟩
     simp only [hbx',Env.of,Bool.false_eq_true,if_false] at hown⊢
     have kp:bP w (env B s.o G w).plain w' (env B (o1++news) (G1++Gs) w').plain:=k2.plain
     exact hown.keeps kp (fun b hb=>keepF i ob g' b hl0 hlive (hFo b hb) hiu)
  ·-- every object its own blocks
   have cls:∀{i ob' g' b},look (o1++news) (G1++Gs) i ob' g'→ob'.live=true→g'.F b→(∃j,i=s.o.length+j∧look news Gs j ob' g'∧b∈inner++fp)∨
     (i < s.o.length∧∃ob g,look s.o G i ob g∧ob.live=true∧g.F b∧((b∈fss'.flatten∧b∉inner)∨b∉fss'.flatten++fp)):=by
    intro i ob' g' b hl hlive hF
    rcases lk hl with ⟨j,hj,hl2⟩|⟨hi,ob,g,hl0,⟨p,hp,rfl,rfl,rfl⟩|⟨_,rfl,⟨_,rfl⟩|⟨hiu,rfl⟩⟩⟩
    ·exact .inl ⟨j,hj,hl2,newF hl2 hF⟩
    ·obtain ⟨b1,b2,b3,b0,f0,b4,b5,b6,b7⟩:=boxN hp hl0
     obtain ⟨a0,ha0,rfl⟩:=hF
     rw [b4] at ha0
     obtain rfl:=Option.some.inj ha0
     exact .inr ⟨hi,ob,g,hl0,b1,b5,.inl ⟨b6,b7⟩⟩
    ·simp at hlive
    ·rw [lL] at hlive
     exact .inr ⟨hi,ob,g',hl0,hlive,hF,.inr (notX hl0 hlive hF hiu)⟩
   have mixed:∀{b},b∈inner++fp→((b∈fss'.flatten∧b∉inner)∨b∉fss'.flatten++fp)→False:=by
    rintro b hb (⟨h1,h2⟩|h)
    ·rcases List.mem_append.1 hb with h|h
     ·exact h2 h
     ·exact hnd2.2.2 b h1 b h rfl
    ·exact h (newX hb)
   intro i j oi oj gi gj b hi hj hil hjl hfi hfj
   rcases cls hi hil hfi with ⟨i',rfl,hi',hbi⟩|⟨hil',ob1,g1,hl1,hlv1,hF1,hc1⟩<;>rcases cls hj hjl hfj with ⟨j',rfl,hj',hbj⟩|⟨hjl',ob2,g2,hl2,hlv2,hF2,hc2⟩
   ·rw [hap _ _ _ _ _ _ b hi' hj' hfi hfj]
   ·exact (mixed hbi hc2).elim
   ·exact (mixed hbj hc1).elim
   ·exact rr.apart _ _ _ _ _ _ b hl1 hl2 hlv1 hlv2 hF1 hF2
  ·intro i ob' g' b hl hlive hF
   have ofX:b∈fss'.flatten++fp→(B.O0 b∨B.w0.heap.size≤b)∧b < w'.heap.size:=fun hX=>by
    obtain ⟨h1,h2⟩:=blk b hX
    refine ⟨?_,h2⟩
    rcases h1 with ⟨j,oj,gj,_,hlj,hjl,hFj⟩|h
    ·exact (rr.fresh _ _ _ b hlj hjl hFj).1
    ·exact .inr (Nat.le_trans rr.size h)
   rcases lk hl with ⟨j,hj,hl2⟩|⟨hi,ob,g,hl0,⟨p,hp,rfl,rfl,rfl⟩|⟨_,rfl,⟨_,rfl⟩|⟨hiu,rfl⟩⟩⟩
   ·exact ofX (newX (newF hl2 hF))
   ·obtain ⟨b1,b2,b3,b0,f0,b4,b5,b6,b7⟩:=boxN hp hl0
    obtain ⟨a0,ha0,rfl⟩:=hF
    rw [b4] at ha0
    obtain rfl:=Option.some.inj ha0
    exact ofX (List.mem_append_left _ b6)
   ·simp at hlive
   ·rw [lL] at hlive
    have:=rr.fresh _ _ _ b hl0 hlive hF
    exact ⟨this.1,by omega⟩
  ·intro b hb hO
   rw [←rr.frame b hb hO]
   refine hsame b (Nat.lt_of_lt_of_le hb rr.size) (fun hm=> ?_)
   obtain ⟨j,oj,gj,_,hlj,hjl,hFj⟩:=hOf b hm
   rcases (rr.fresh _ _ _ b hlj hjl hFj).1 with h|h
   ·exact hO h
   ·omega
 exact ⟨_,rel.put dst hres⟩
end
end Go.Aw

namespace Go.Aw
mutual
def frz (i ver : Nat) (y : AV) : AV → AV
  | .obj j v => if j = i ∧ v = ver then y else .obj j v
  | .agg c => .agg (kG i ver y c)
  | .tup c => .tup (kG i ver y c)
  | x => x
def kG (i ver : Nat) (y : AV) : List AV → List AV
  | [] => []
  | x :: xs => frz i ver y x :: kG i ver y xs
end
def kW (i ver:Nat) (y:AV):List (List AV)→List (List AV)
 |[]=>[]
 |e::es=>kG i ver y e::kW i ver y es
theorem yU (i ver:Nat) (y:AV):∀l,(kW i ver y l).length=l.length
 |[]=>rfl
 |_::l=>by simp [kW,yU i ver y l]
def aA.frz (i ver:Nat) (y:AV) (ob:aA):aA:=if ob.box=true then {ob with els:=kW i ver y ob.els} else ob
def jU (i ver:Nat) (y:AV):Nat→List aA→List aA
 |_,[]=>[]
 |k,ob::r=>(if k=i then ob.kill else ob.frz i ver y)::jU i ver y (k+1) r
theorem aJn (i ver:Nat) (y:AV):∀(o:List aA) (k j:Nat),(jU i ver y k o)[j]? =(o[j]?).map fun ob=>if k+j=i then ob.kill else ob.frz i ver y
 |[],_,_=>by simp [jU]
 |ob::r,k,0=>by simp [jU]
 |ob::r,k,j+1=>by
  simp only [jU,List.getElem?_cons_succ]
  rw [aJn i ver y r (k+1) j,show k+1+j=k+(j+1) by omega]
theorem aIx (i ver:Nat) (y:AV):∀(o:List aA) (k:Nat),(jU i ver y k o).length=o.length
 |[],_=>rfl
 |ob::r,k=>by simp [jU,aIx i ver y r]
def AS.frozen (s:AS) (i ver:Nat) (ob:aA):AS:=
 ⟨kG i ver (.sl .view ob.n (rtr (fun _=>some .view) false ob.els)) s.t,jU i ver (.sl .view ob.n (rtr (fun _=>some .view) false ob.els)) 0 s.o⟩
mutual
theorem bI1 {w : World} {E E' : Env} {i ver : Nat} {y : AV} (k : bP w E w E') (hy : ∀ v, E.H i ver v → R w E' y v []) : ∀ (x : AV) (v : Value) (fp : List Nat), R w E x v fp → R w E' (frz i ver y x) v fp
  | .obj j u, v, fp, h => by
    simp only [frz]
    split
    · rename_i e
      obtain ⟨rfl, rfl⟩ := e
      simp only [R] at h
      obtain ⟨rfl, h⟩ := h
      exact hy v h
    · exact jL k _ _ _ (fun _ _ => rfl) h
  | .agg c, v, fp, h => by
    simp only [R, frz] at h ⊢
    obtain ⟨cs, h1, h2, h3⟩ := h
    exact ⟨cs, h1, h2, aG0 k hy c cs fp h3⟩
  | .tup c, v, fp, h => by
    simp only [R, frz] at h ⊢
    obtain ⟨cs, h1, h3⟩ := h
    exact ⟨cs, h1, aG0 k hy c cs fp h3⟩
  | .int _ _, v, fp, h => by simp only [frz]; exact jL k _ _ _ (fun _ _ => rfl) h
  | .bool _, v, fp, h => by simp only [frz]; exact jL k _ _ _ (fun _ _ => rfl) h
  | .str _, v, fp, h => by simp only [frz]; exact jL k _ _ _ (fun _ _ => rfl) h
  | .sl _ _ _, v, fp, h => by simp only [frz]; exact jL k _ _ _ (fun _ _ => rfl) h
  | .vptr _ _ _, v, fp, h => by simp only [frz]; exact jL k _ _ _ (fun _ _ => rfl) h
  | .ptr _ _ _ _, v, fp, h => by simp only [frz]; exact jL k _ _ _ (fun _ _ => rfl) h
  | .fn _ _, v, fp, h => by simp only [frz]; exact jL k _ _ _ (fun _ _ => rfl) h
  | .undef, v, fp, h => by simp only [frz]; exact jL k _ _ _ (fun _ _ => rfl) h
theorem aG0 {w : World} {E E' : Env} {i ver : Nat} {y : AV} (k : bP w E w E') (hy : ∀ v, E.H i ver v → R w E' y v []) : ∀ (c : List AV) (cs : List Value) (fp : List Nat), Rc w E c cs fp → Rc w E' (kG i ver y c) cs fp
  | [], [], _, h => by simpa [Rc, kG] using h
  | [], _ :: _, _, h => by simp [Rc] at h
  | _ :: _, [], _, h => by simp [Rc] at h
  | x :: xs, c :: cs, fp, h => by
    simp only [Rc, kG] at h ⊢
    obtain ⟨f1, f2, h1, h2, h3⟩ := h
    exact ⟨f1, f2, bI1 k hy x c f1 h1, aG0 k hy xs cs f2 h2, h3⟩
end
theorem bBc {w:World} {E E':Env} {i ver:Nat} {y:AV} (k:bP w E w E') (hy:∀v,E.H i ver v→R w E' y v []):∀(l:List (List AV)) (b off n:Nat) (fp:List Nat),Rr w E l b off n fp→Rr w E' (kW i ver y l) b off n fp
 |[],_,_,_,_,h=>by simpa [Rr,kW] using h
 |e::es,b,off,n,fp,h=>by
  simp only [Rr,kW] at h⊢
  obtain ⟨cs,f1,f2,h1,h2,h3,h4,h5,h6⟩:=h
  exact ⟨cs,f1,f2,h1,h2,h3,aG0 k hy e cs f1 h4,bBc k hy es b (off+n) n f2 h5,h6⟩
theorem aMx {P:Program} [aB P] {B:Base P} {s:AS} {a:Act} {w:World} {i ver:Nat} {ob:aA} (hob:AV.isObj s.o i ver=some ob) (hbox:ob.box=false) (hr:Rel B s a w):Rel B (s.frozen i ver ob) a w:=by
 obtain ⟨G,r⟩:=hr
 obtain ⟨h1,h2,h3⟩:=iO hob
 generalize hyy:AV.sl .view ob.n (rtr (fun _=>some .view) false ob.els)=y
 generalize ho':jU i ver y 0 s.o=o'
 have back:∀{j ob' g},look o' G j ob' g→∃ob0,look s.o G j ob0 g∧((j=i∧ob'=ob0.kill)∨(j≠i∧ob'=ob0.frz i ver y)):=by
  rintro j ob' g ⟨e1,e2⟩
  rw [←ho',aJn,Nat.zero_add] at e1
  cases hx:s.o[j]? with
  |none=>rw [hx] at e1;cases e1
  |some ob0=>
   rw [hx] at e1
   simp only [Option.map_some,Option.some.injEq] at e1
   refine ⟨ob0,⟨hx,e2⟩,?_⟩
   by_cases hj:j=i
   ·rw [if_pos hj] at e1;exact .inl ⟨hj,e1.symm⟩
   ·rw [if_neg hj] at e1;exact .inr ⟨hj,e1.symm⟩
 have forth:∀{j ob0 g},look s.o G j ob0 g→look o' G j (if j=i then ob0.kill else ob0.frz i ver y) g:=by
  rintro j ob0 g ⟨e1,e2⟩
  refine ⟨?_,e2⟩
  rw [←ho',aJn,Nat.zero_add,e1];rfl
 have fz:∀ob0:aA,(ob0.frz i ver y).live=ob0.live∧(ob0.frz i ver y).box=ob0.box∧(ob0.frz i ver y).n=ob0.n∧(ob0.frz i ver y).ver=ob0.ver∧(ob0.frz i ver y).els.length=ob0.els.length:=by
  intro ob0;unfold aA.frz;split<;>simp [yU]
 have k:bP w (env B s.o G w) w (env B o' G w):=by
  refine wD (Nat.le_refl _) (fun b hb=>⟨lX r hb,rfl⟩) r.len ?_ ?_
  ·intro j ob0 g hl
   have hf:=fz ob0
   by_cases hj:j=i
   ·refine ⟨_,g,forth hl,?_⟩
    rw [if_pos hj]
    refine ⟨Nat.le_refl _,fun hb=> .inl hb,fun hlv=> ?_⟩
    simp [aA.kill] at hlv
   ·refine ⟨_,g,forth hl,?_⟩
    rw [if_neg hj]
    exact ⟨by rw [hf.2.2.2.1];exact Nat.le_refl _,fun hb=> .inl (by rw [←hf.2.1];exact hb),fun hlv=>⟨by rw [←hf.1];exact hlv,hf.2.2.1,fun _=>⟨rfl,rfl,hf.2.2.2.2⟩,fun b hb hne=>⟨hb,hne,rfl⟩⟩⟩
  ·intro j ob' g b hl hlv hF
   obtain ⟨ob0,hl0,h⟩:=back hl
   rcases h with ⟨_,rfl⟩|⟨_,rfl⟩
   ·simp [aA.kill] at hlv
   ·exact .inr ⟨j,ob0,g,hl0,by rw [←(fz ob0).1];exact hlv,hF⟩
 have hy:∀v,(env B s.o G w).H i ver v→R w (env B o' G w) y v []:=by
  intro v hv
  obtain ⟨ob1,g,hl,_,hh,_⟩:=hv
  obtain rfl:=Option.some.inj (hl.1.symm.trans h1)
  have hv:=hh h2 h3
  obtain ⟨fp,⟨hlen,hown⟩,hnd,hF⟩:=r.ok i _ g hl h2
  rw [hbox] at hown
  rw [←hyy]
  simp only [R,jT]
  refine .inr ⟨g.a,g.cap,hv,⟨hlen,by rcases hown with h|⟨_,_,_,_,_,_,_,_,_,_,h,_⟩;simp [h.1];exact h⟩,.inr (.inr ⟨by simp,trivial,?_⟩)⟩
  rcases hown with ⟨h5,_⟩|⟨b,off,C,e,fz',fps,ha,hbk,hz,k1,k2,k3,rfl,hrr⟩
  ·left;rw [h5];rfl
  ·right
   have hA:∀x,g.F x→(env B o' G w).A x:=by
    intro x hx
    have hfr:=r.fresh _ _ _ x hl h2 hx
    refine ⟨hfr.1.elim (fun h=> .inl (B.gA x h)) (fun h=> .inr ⟨h,hfr.2⟩),fun j ob' g' hl' hlv hF'=> ?_⟩
    obtain ⟨ob0,hl0,h⟩:=back hl'
    rcases h with ⟨_,rfl⟩|⟨hj,rfl⟩
    ·simp [aA.kill] at hlv
    ·exact hj (r.apart j i _ _ _ _ x hl0 hl (by rw [←(fz ob0).1];exact hlv) h2 hF' hx)
   have rt:iT (fun _=>some .view) false (env B s.o G w).plain (env B o' G w).plain g.F:=
    {own:=fun t e=>by obtain rfl:=Option.some.inj e;exact ⟨by simp,fun b hb=>hA b hb⟩
     view:=fun t e=>by obtain rfl:=Option.some.inj e;exact ⟨rfl,fun b hb=>(k.a b hb).1⟩
     dep:=fun j t e=>by obtain rfl:=Option.some.inj e;exact ⟨by simp,.inl trivial,fun b hb=>hb.elim⟩
     hh:=fun h=>by cases h
     hl:=fun h=>by cases h}
   exact ⟨b,off,ha,hA b (hF b (by simp)),zL rt _ _ _ _ fps (fun x hx=>hF x (by simp [hx])) hrr⟩
 refine ⟨G,{len:= ?_,defs:=r.defs,ok:= ?_,apart:= ?_,fresh:= ?_,tmps:= ?_,size:=r.size,frame:=r.frame,base:=r.base,same:=r.same}⟩
 ·simp only [AS.frozen,aIx];exact r.len
 ·simp only [AS.frozen,hyy,ho']
  intro j ob' g hl hlv
  obtain ⟨ob0,hl0,h⟩:=back hl
  rcases h with ⟨_,rfl⟩|⟨hj,rfl⟩
  ·simp [aA.kill] at hlv
  obtain ⟨fp,hown,hnd,hF⟩:=r.ok j _ g hl0 (by rw [←(fz ob0).1];exact hlv)
  refine ⟨fp,?_,hnd,hF⟩
  cases hb0:ob0.box with
  |false=>
   have e:ob0.frz i ver y=ob0:=by unfold aA.frz;rw [if_neg (by simp [hb0])]
   rw [e]
   rw [hb0] at hown⊢
   exact hown.keeps k.plain (fun _ _=>rfl)
  |true=>
   have e:ob0.frz i ver y={ob0 with els:=kW i ver y ob0.els}:=by unfold aA.frz;rw [if_pos hb0]
   rw [e]
   simp only [hb0] at hown⊢
   simp only [Env.of,if_true] at hown⊢
   obtain ⟨hlen,hown⟩:=hown
   refine ⟨by rw [yU];exact hlen,?_⟩
   rcases hown with h|⟨b,off,C,e,fz',fps,ha,hbk,hz,k1,k2,k3,rfl,hrr⟩
   ·exact .inl ⟨by rw [h.1];rfl,h.2⟩
   ·exact .inr ⟨b,off,C,e,fz',fps,ha,hbk,hz,k1,by rw [yU];exact k2,k3,rfl,bBc k hy _ _ _ _ _ hrr⟩
 ·simp only [AS.frozen,hyy,ho']
  intro p q op oq gp gq b hp hq hlp hlq hFp hFq
  obtain ⟨op0,hp0,h⟩:=back hp
  obtain ⟨oq0,hq0,h'⟩:=back hq
  rcases h with ⟨_,rfl⟩|⟨_,rfl⟩
  ·simp [aA.kill] at hlp
  rcases h' with ⟨_,rfl⟩|⟨_,rfl⟩
  ·simp [aA.kill] at hlq
  exact r.apart p q _ _ _ _ b hp0 hq0 (by rw [←(fz op0).1];exact hlp) (by rw [←(fz oq0).1];exact hlq) hFp hFq
 ·simp only [AS.frozen,hyy,ho']
  intro j ob' g b hl hlv hF
  obtain ⟨ob0,hl0,h⟩:=back hl
  rcases h with ⟨_,rfl⟩|⟨_,rfl⟩
  ·simp [aA.kill] at hlv
  exact r.fresh j _ g b hl0 (by rw [←(fz ob0).1];exact hlv) hF
 ·simp only [AS.frozen,hyy,ho']
  exact aG0 k hy _ _ _ r.tmps
def bB2 (P:Program) [aB P] (o:Oper) (s:AS) (K:AS→Prop):Prop:=
 match o.op with
 | .slice _ x _ _ none=>match s.ev x with
  | .obj i ver=>match AV.isObj s.o i ver with
   |some ob=>ob.box=false∧aop P o (s.frozen i ver ob) K
   |none=>False
  |_=>False
 |_=>False
attribute [simp] frz kG kW jU aA.frz AS.frozen
end Go.Aw

namespace Go.Aw
mutual
def flatV : AV → Bool
  | .int _ _ => true
  | .bool _ => true
  | .str _ => true
  | .agg c => wY c
  | _ => false
def wY : List AV → Bool
  | [] => true
  | x :: xs => flatV x && wY xs
end
mutual
theorem aZy {w w' : World} {E E' : Env} : ∀ (x : AV) (v : Value) (fp : List Nat), flatV x = true → R w E x v fp → R w' E' x v fp
  | .int _ _, _, _, _, h => by simpa [R] using h
  | .bool _, _, _, _, h => by simpa [R] using h
  | .str _, _, _, _, h => by simpa [R] using h
  | .agg c, v, fp, hc, h => by
    simp only [R] at h ⊢
    obtain ⟨cs, h1, h2, h3⟩ := h
    exact ⟨cs, h1, h2, aE0 c cs fp (by simpa [flatV] using hc) h3⟩
  | .sl _ _ _, _, _, hc, _ => by simp [flatV] at hc
  | .vptr _ _ _, _, _, hc, _ => by simp [flatV] at hc
  | .obj _ _, _, _, hc, _ => by simp [flatV] at hc
  | .ptr _ _ _ _, _, _, hc, _ => by simp [flatV] at hc
  | .tup _, _, _, hc, _ => by simp [flatV] at hc
  | .fn _ _, _, _, hc, _ => by simp [flatV] at hc
  | .undef, _, _, hc, _ => by simp [flatV] at hc
theorem aE0 {w w' : World} {E E' : Env} : ∀ (c : List AV) (cs : List Value) (fp : List Nat), wY c = true → Rc w E c cs fp → Rc w' E' c cs fp
  | [], [], _, _, h => by simpa [Rc] using h
  | [], _ :: _, _, _, h => by simp [Rc] at h
  | _ :: _, [], _, _, h => by simp [Rc] at h
  | x :: xs, c :: cs, fp, hc, h => by
    simp only [wY, Bool.and_eq_true] at hc
    simp only [Rc] at h ⊢
    obtain ⟨f1, f2, h1, h2, h3⟩ := h
    exact ⟨f1, f2, aZy x c f1 hc.1 h1, aE0 xs cs f2 hc.2 h2, h3⟩
end
mutual
theorem bB8 {w : World} {E : Env} : ∀ (x : AV) (v : Value) (fp : List Nat), flatV x = true → R w E x v fp → fp = []
  | .int _ _, _, _, _, h => by simp only [R] at h; exact h.2
  | .bool _, _, _, _, h => by simp only [R] at h; exact h.2
  | .str _, _, _, _, h => by simp only [R] at h; exact h.2
  | .agg c, v, fp, hc, h => by
    simp only [R] at h
    obtain ⟨cs, h1, h2, h3⟩ := h
    exact aOa c cs fp (by simpa [flatV] using hc) h3
  | .sl _ _ _, _, _, hc, _ => by simp [flatV] at hc
  | .vptr _ _ _, _, _, hc, _ => by simp [flatV] at hc
  | .obj _ _, _, _, hc, _ => by simp [flatV] at hc
  | .ptr _ _ _ _, _, _, hc, _ => by simp [flatV] at hc
  | .tup _, _, _, hc, _ => by simp [flatV] at hc
  | .fn _ _, _, _, hc, _ => by simp [flatV] at hc
  | .undef, _, _, hc, _ => by simp [flatV] at hc
theorem aOa {w : World} {E : Env} : ∀ (c : List AV) (cs : List Value) (fp : List Nat), wY c = true → Rc w E c cs fp → fp = []
  | [], [], _, _, h => by simpa [Rc] using h
  | [], _ :: _, _, _, h => by simp [Rc] at h
  | _ :: _, [], _, _, h => by simp [Rc] at h
  | x :: xs, c :: cs, fp, hc, h => by
    simp only [wY, Bool.and_eq_true] at hc
    simp only [Rc] at h
    obtain ⟨f1, f2, h1, h2, h3⟩ := h
    rw [h3, bB8 x c f1 hc.1 h1, aOa xs cs f2 hc.2 h2]; rfl
end
def pY (S:Nat→Prop):Env:=⟨S,fun _=>True,fun _ _=>False,fun _ _ _=>False,fun _ _ _ _ _=>False⟩
def aQ (code:List UInt8) (i h:Int):List AV:=[.sl .view 1 (aT code),.int .i64 i,.int .i64 h]
theorem aHv {w:World} {E E':Env} {n:Nat} {l:List (List AV)} {v:Value} {fp:List Nat} (k:bP w E.plain w E'.plain) (h:R w E (.sl .view n l) v fp):R w E' (.sl .view n l) v fp:=by
 simp only [R] at h⊢
 rcases h with h|⟨a,cap,hv,hl,h⟩
 ·exact h.1.elim
 ·refine .inr ⟨a,cap,hv,hl,?_⟩
  rcases h with h|h|⟨hg,hfp,h⟩
  ·exact absurd h.1 (by simp)
  ·exact absurd h.1 (by simp)
  ·refine .inr (.inr ⟨hg,hfp,?_⟩)
   rcases h with h|⟨b,off,ha,ht,hr⟩
   ·exact .inl h
   ·refine .inr ⟨b,off,ha,(k.a b ht).1,?_⟩
    exact kK k _ _ _ _ _ rfl (by simp) hr
theorem yI {w:World} {E E':Env} {code:List UInt8} {i h:Int} {a:Option Addr} {cap:Nat} {fp:List Nat} (k:bP w E.plain w E'.plain) (ho:kX w E 3 [aQ code i h] a cap fp):kX w E' 3 [aQ code i h] a cap fp:=by
 refine ⟨ho.1,?_⟩
 rcases ho.2 with h0|⟨b,off,C,e,fz,fps,ha,hb,hz,h1,h2,h3,hf,hr⟩
 ·exact absurd h0.1 (by simp)
 ·refine .inr ⟨b,off,C,e,fz,fps,ha,hb,hz,h1,h2,h3,hf,?_⟩
  simp only [Rr,aQ,Rc] at hr⊢
  obtain ⟨cs,f1,f2,hn,hc,hone,hrc,hf2,hfe⟩:=hr
  refine ⟨cs,f1,f2,hn,hc,hone,?_,hf2,hfe⟩
  cases cs with
  |nil=>simp at hn
  |cons v0 cs=>
   cases cs with
   |nil=>simp at hn
   |cons v1 cs=>
    cases cs with
    |nil=>simp at hn
    |cons v2 cs=>
     simp only [Rc] at hrc⊢
     obtain ⟨g1,g2,r1,r2,e1⟩:=hrc
     refine ⟨g1,g2,aHv k r1,?_,e1⟩
     cases cs with
     |nil=>simpa [R,Rc] using r2
     |cons _ _=>simp at hn
theorem aE7 {w:World} {E:Env} {code:List UInt8} {i h:Int} {a:Option Addr} {cap:Nat} {fp:List Nat} (ho:kX w E 3 [aQ code i h] a cap fp):∃b off,a=some ⟨b,off,none⟩∧fp=[b]:=by
 rcases ho.2 with h0|⟨b,off,C,e,fz,fps,ha,hb,hz,h1,h2,h3,hf,hr⟩
 ·exact absurd h0.1 (by simp)
 ·refine ⟨b,off,ha,?_⟩
  simp only [Rr,aQ] at hr
  obtain ⟨cs,f1,f2,hn,hc,hone,hrc,hf2,hfe⟩:=hr
  cases cs with
  |nil=>simp at hn
  |cons v0 cs=>
   cases cs with
   |nil=>simp at hn
   |cons v1 cs=>
    cases cs with
    |nil=>simp at hn
    |cons v2 cs=>
     simp only [Rc,R] at hrc
     obtain ⟨g1,g2,r1,⟨g3,g4,⟨_,r3⟩,⟨g5,g6,⟨_,r5⟩,r6,e3⟩,e2⟩,e1⟩:=hrc
     have hg1:g1=[]:=by
      rcases r1 with h|⟨_,_,_,_,h|h|h⟩
      ·exact h.1.elim
      ·exact absurd h.1 (by simp)
      ·exact absurd h.1 (by simp)
      ·exact h.2.1
     have hg6:g6=[]:=by cases cs with
      |nil=>simpa [Rc] using r6
      |cons _ _=>simp at hn
     subst hg1 r3 r5 hg6 e3 e2 e1 hf2 hfe
     simp [hf]
mutual
def eD : AV → Bool
  | .int _ _ => true
  | .bool _ => true
  | .str _ => true
  | .sl .view _ _ => true
  | .sl .own _ [] => true
  | .agg c => oW c
  | _ => false
def oW : List AV → Bool
  | [] => true
  | x :: xs => eD x && oW xs
end
mutual
theorem bG2 {w : World} {E E' : Env} (k : bP w E.plain w E'.plain) : ∀ (x : AV) (v : Value) (fp : List Nat), eD x = true → R w E x v fp → R w E' x v fp
  | .int _ _, _, _, _, h => by simpa [R] using h
  | .bool _, _, _, _, h => by simpa [R] using h
  | .str _, _, _, _, h => by simpa [R] using h
  | .sl .view _ _, _, _, _, h => aHv k h
  | .sl .own _ [], _, _, _, h => by simpa [R, Rr, Env.dead] using h
  | .sl .own _ (_ :: _), _, _, hc, _ => by simp [eD] at hc
  | .sl (.dep _) _ _, _, _, hc, _ => by simp [eD] at hc
  | .agg c, v, fp, hc, h => by
    simp only [R] at h ⊢
    obtain ⟨cs, h1, h2, h3⟩ := h
    exact ⟨cs, h1, h2, bEl k c cs fp (by simpa [eD] using hc) h3⟩
  | .vptr _ _ _, _, _, hc, _ => by simp [eD] at hc
  | .obj _ _, _, _, hc, _ => by simp [eD] at hc
  | .ptr _ _ _ _, _, _, hc, _ => by simp [eD] at hc
  | .tup _, _, _, hc, _ => by simp [eD] at hc
  | .fn _ _, _, _, hc, _ => by simp [eD] at hc
  | .undef, _, _, hc, _ => by simp [eD] at hc
theorem bEl {w : World} {E E' : Env} (k : bP w E.plain w E'.plain) : ∀ (c : List AV) (cs : List Value) (fp : List Nat), oW c = true → Rc w E c cs fp → Rc w E' c cs fp
  | [], [], _, _, h => by simpa [Rc] using h
  | [], _ :: _, _, _, h => by simp [Rc] at h
  | _ :: _, [], _, _, h => by simp [Rc] at h
  | x :: xs, c :: cs, fp, hc, h => by
    simp only [oW, Bool.and_eq_true] at hc
    simp only [Rc] at h ⊢
    obtain ⟨f1, f2, h1, h2, h3⟩ := h
    exact ⟨f1, f2, bG2 k x c f1 hc.1 h1, bEl k xs cs f2 hc.2 h2, h3⟩
end
theorem aKm {w:World} {E E':Env} (k:bP w E.plain w E'.plain):∀{xs:List AV} {vs:List Value} {fp:List Nat},xs.all eD=true→Rc w E xs vs fp→Rc w E' xs vs fp
 |[],[],_,_,h=>by simpa [Rc] using h
 |[],_::_,_,_,h=>by simp [Rc] at h
 |_::_,[],_,_,h=>by simp [Rc] at h
 |x::xs,v::vs,fp,hx,h=>by
  simp only [List.all_cons,Bool.and_eq_true] at hx
  simp only [Rc] at h⊢
  obtain ⟨f1,f2,h1,h2,e⟩:=h
  exact ⟨f1,f2,bG2 k _ _ _ hx.1 h1,aKm k hx.2 h2,e⟩
def aHp (w:World) (S:Nat→Prop) (b fo cap:Nat) (code:List UInt8):Prop:=
 ∃i h:Int,0≤i∧kX w (pY S) 3 [aQ code i h] (some ⟨b,fo,none⟩) cap [b]
def OkC (P:Program) [aB P] (f:FuncId) (xs:List AV) (Q:AV→Prop):Prop:=
 ∀(w:World) (S:Nat→Prop) (b fo cap:Nat) (code:List UInt8) (vs:List Value),aB.holds P w→aB.low P≤b→b < w.heap.size→¬S b→(∀x,S x→x < w.heap.size)→aHp w S b fo cap code→Rc w (pY S) xs vs []→
  Calls P f (.pointer (some ⟨b,fo,none⟩)::vs).toArray w fun e w'=>∃r v fp,e= .returned v∧Q r∧R w' (pY fun x=>(S x∨(w.heap.size≤x∧x < w'.heap.size))∧x∉fp) r v fp∧fp.Nodup∧(∀x∈fp,w.heap.size≤x∧x < w'.heap.size)∧w.heap.size≤w'.heap.size∧
   (∀x,x < w.heap.size→x≠b→w'.heap[x]? =w.heap[x]?)∧Same w w'∧aHp w' (fun x=>(S x∨(w.heap.size≤x∧x < w'.heap.size))∧x∉fp) b fo cap code
def AS.drew (s:AS) (dst:Option Tmp) (k ver:Nat) (code:List UInt8) (i h:Int) (r:AV):AS:=AS.called ⟨s.t,s.o.set k ⟨true,true,3,ver,[aQ code i h]⟩⟩ dst r
section
variable {P : Program} [aB P] {B : Base P} {s : AS} {dst : Option Tmp} {ty : TypeId} {pos : String} {after : Array Edge} {gd : Option (Nat × Bool)}
theorem bAi {o:List aA} {G:List CO} {k i:Nat} {ob' ob2:aA} {g2:CO} (h:look (o.set k ob') G i ob2 g2):(i=k∧ob2=ob'∧k < o.length∧G[k]? =some g2)∨(i≠k∧look o G i ob2 g2):=by
 obtain ⟨h1,h2⟩:=h
 by_cases hik:i=k
 ·subst hik
  have hl:i < o.length:=by
   have:=(List.getElem?_eq_some_iff.1 h1).1
   simpa using this
  rw [List.getElem?_set_self hl] at h1
  exact .inl ⟨rfl,(Option.some.inj h1).symm,hl,h2⟩
 ·rw [List.getElem?_set_ne (fun h=>hik h.symm)] at h1
  exact .inr ⟨hik,h1,h2⟩
theorem step_cur (f x:Operand) (ys:List Operand) (tys:Array TypeId) {g:FuncId} {k ver:Nat} {code:List UInt8} {i h:Int} {Q:AV→Prop} (hf:s.ev f= .fn g []) (hc:callable P g=true)
  (hx:s.ev x= .ptr k ver 0 0) (ho:AV.isObj s.o k ver=some ⟨true,true,3,ver,[aQ code i h]⟩) (h0:0≤i) (hfl:(ys.map s.ev).all eD=true) (hok:OkC P g (ys.map s.ev) Q)
  (a:Act) (w:World) (next:Act→World→Prop) (X:Exit→Act→World→Prop) (hr:Rel B s a w)
  (hn:∀r i' h' a' w',Q r→0≤i'→Rel B (s.drew dst k ver code i' h' r) a' w'→next a' w'):
  Oper.wp P ⟨dst,.call {callee:= .value f,args:=⟨x::ys⟩,argTypes:=tys},ty,pos,after,gd⟩ a w next X:=by
 obtain ⟨G,r⟩:=hr
 have h1:=r.ev f
 rw [hf] at h1
 simp only [R] at h1
 obtain ⟨_,cs,hv,hcap⟩:=h1
 have hcs:cs=[]:=by cases cs with
  |nil=>rfl
  |cons _ _=>simp [Rc] at hcap
 subst hcs
 obtain ⟨go,b,fo,hl,hlive,hga,hpv⟩:=r.ptr hx ho
 obtain ⟨fp0,hown,hnd0,hF0⟩:=r.ok k _ go hl rfl
 have hb1:AV.isObj s.o k ver=some ⟨true,true,3,ver,[aQ code i h]⟩:=ho
 simp only [Env.of,if_true] at hown
 obtain ⟨b2,off2,ha2,rfl⟩:=aE7 hown
 rw [hga] at ha2
 simp only [Option.some.injEq,Addr.mk.injEq,and_true] at ha2
 obtain ⟨rfl,rfl⟩:=ha2
 have hbF:go.F b:=hF0 b (by simp)
 have hfresh:=r.fresh k _ go b hl rfl hbF
 have hSb:¬(env B s.o G w).A b:=fun hA=>hA.2 k _ go hl rfl hbF
 have hS:∀x,(env B s.o G w).A x→x < w.heap.size:=fun x hx=>lX r hx
 have hcur:aHp w (env B s.o G w).A b fo go.cap code:=by
  refine ⟨i,h,h0,?_⟩
  rw [hga] at hown
  exact yI (E:=env B s.o G w) ⟨fun _ h=>⟨h,rfl⟩,fun _ _=>trivial,fun _ _ _ h=>h.elim,fun _ _ _ h=>h.elim,fun _ _ _ _ _ h=>h.elim⟩ hown
 have hargs:Rc w (env B s.o G w) (ys.map s.ev) (ys.map a.eval) []:=pK r ys
 have hcall:=hok w _ b fo go.cap code _ r.holds (r.above hfresh.1) hfresh.2 hSb hS hcur (aKm (E:=env B s.o G w) (E':=pY (env B s.o G w).A) ⟨fun _ h=>⟨h,rfl⟩,fun _ _=>trivial,fun _ _ _ h=>h.elim,fun _ _ _ h=>h.elim,fun _ _ _ _ _ h=>h.elim⟩ hfl hargs)
 unfold Oper.wp
 have hrun:(execOp a.eval ⟨dst,.call {callee:= .value f,args:=⟨x::ys⟩,argTypes:=tys},ty,pos,after,gd⟩).run P w= .ok (.enter g (.pointer (some ⟨b,fo,none⟩)::ys.map a.eval).toArray) w:=by
  have e:(⟨x::ys⟩:Array Operand).map a.eval=(.pointer (some ⟨b,fo,none⟩)::ys.map a.eval).toArray:=by
   apply Array.ext'
   simp [hpv]
  simp [execOp,resolve,hv,Deferred.ofValue,invoke,rP hc,e]
 rw [hrun,Oper.upon_enter]
 refine hcall.mono fun e w' hp=> ?_
 obtain ⟨rv,v,fp,rfl,hQ,hrr,hnd,hfr,hsz,hsame,hio,i',h',hi',hown'⟩:=hp
 refine hn rv i' h' _ _ hQ hi' ?_
 obtain ⟨Gs,hlen,hobj,hap,hdone⟩:=yR (q:=1) rv v fp s.o.length hrr hnd
 generalize hob':(⟨true,true,3,ver,[aQ code i' h']⟩:aA)=ob'
 have hls:(s.o.set k ob').length=s.o.length:=by simp
 have hlG:G.length=(s.o.set k ob').length:=by rw [hls,r.len]
 generalize hnews:(dG 1 s.o.length rv).2=news at *
 have newF:∀{j ob g2 x},look news Gs j ob g2→g2.F x→x∈fp:=by
  intro j ob g2 x hl2 hF
  obtain ⟨_,_,_,f',_,_,h3,h4⟩:=hobj _ _ _ hl2
  exact h4 _ ((h3 _).1 hF)
 have lk:∀{j ob g2},look (s.o.set k ob'++news) (G++Gs) j ob g2→(∃j',look news Gs j' ob g2∧j=s.o.length+j')∨(j=k∧ob=ob'∧g2=go)∨(j≠k∧look s.o G j ob g2):=by
  intro j ob g2 h2
  rcases jX hlG h2 with ⟨_,h2⟩|⟨hj,h2⟩
  ·rcases bAi h2 with ⟨rfl,rfl,_,hg⟩|⟨hne,h2⟩
   ·exact .inr (.inl ⟨rfl,rfl,Option.some.inj (hg.symm.trans hl.2)⟩)
   ·exact .inr (.inr ⟨hne,h2⟩)
  ·exact .inl ⟨_,h2,by rw [hls] at hj⊢;omega⟩
 have back:∀{j ob g2},look s.o G j ob g2→j≠k→look (s.o.set k ob'++news) (G++Gs) j ob g2:=by
  intro j ob g2 h2 hne
  refine lQ ⟨?_,h2.2⟩
  rw [List.getElem?_set_ne (fun h=>hne h.symm)]
  exact h2.1
 have hkl:k < s.o.length:=(List.getElem?_eq_some_iff.1 hl.1).1
 have backk:look (s.o.set k ob'++news) (G++Gs) k ob' go:=lQ ⟨List.getElem?_set_self hkl,hl.2⟩
 have hkeepF:∀j ob g2 x,look s.o G j ob g2→ob.live=true→g2.F x→x≠b→w'.heap[x]? =w.heap[x]?:=fun j ob g2 x h2 hlive2 hF hne=>hsame x (r.fresh j ob g2 x h2 hlive2 hF).2 hne
 have hE:bP w (env B s.o G w) w' (env B (s.o.set k ob'++news) (G++Gs) w'):=by
  refine wD hsz (fun x hA=>⟨lX r hA,hsame x (lX r hA) (fun e=>hSb (e▸hA))⟩) r.len ?_ ?_
  ·intro j ob g2 h2
   by_cases hjk:j=k
   ·rw [hjk] at h2⊢
    obtain ⟨rfl,rfl⟩:=gL h2 hl
    refine ⟨ob',g2,backk,by rw [←hob'];exact Nat.le_refl _,fun _=> .inl rfl,fun _=>⟨rfl,by rw [←hob'],fun _=>⟨rfl,rfl,by rw [←hob'];rfl⟩,fun x hF hne=>⟨hF,hne,?_⟩⟩⟩
    exact hkeepF _ _ _ x h2 rfl hF (fun e=>hne _ hga (by rw [e]))
   ·refine ⟨ob,g2,back h2 hjk,Nat.le_refl _,fun h=> .inl h,fun hlive2=>⟨hlive2,rfl,fun _=>⟨rfl,rfl,rfl⟩,fun x hF hne=>⟨hF,hne,?_⟩⟩⟩
    exact hkeepF _ _ _ x h2 hlive2 hF (fun e=>hjk (r.apart _ _ _ _ _ _ b h2 hl hlive2 rfl (e▸hF) hbF))
  ·intro j ob g2 x h2 hlive2 hF
   rcases lk h2 with ⟨j',h3,_⟩|⟨e1,e2,e3⟩|⟨_,h3⟩
   ·exact .inl (hfr _ (newF h3 hF)).1
   ·exact .inr ⟨_,_,_,hl,rfl,e3▸hF⟩
   ·exact .inr ⟨j,ob,g2,h3,hlive2,hF⟩
 have hA':∀x,((env B s.o G w).A x∨(w.heap.size≤x∧x < w'.heap.size))∧x∉fp→(env B (s.o.set k ob'++news) (G++Gs) w').A x:=by
  rintro x ⟨hx,hxf⟩
  refine ⟨?_,fun j ob g2 h2 hlive2 hF=> ?_⟩
  ·rcases hx with hx|hx
   ·rcases hx.1 with h|h
    ·exact .inl h
    ·exact .inr ⟨h.1,Nat.lt_of_lt_of_le h.2 hsz⟩
   ·exact .inr ⟨Nat.le_trans r.size hx.1,hx.2⟩
  ·rcases lk h2 with ⟨j',h3,_⟩|⟨e1,e2,e3⟩|⟨_,h3⟩
   ·exact hxf (newF h3 hF)
   ·rw [e3] at hF
    rcases hx with hx|hx
    ·exact hx.2 _ _ _ hl rfl hF
    ·have:=(r.fresh _ _ _ x hl rfl hF).2;omega
   ·rcases hx with hx|hx
    ·exact hx.2 _ _ _ h3 hlive2 hF
    ·have:=(r.fresh _ _ _ x h3 hlive2 hF).2;omega
 have kn:bP w' (pY fun x=>((env B s.o G w).A x∨(w.heap.size≤x∧x < w'.heap.size))∧x∉fp) w' (env B (s.o.set k ob'++news) (G++Gs) w'):=
  ⟨fun x hx=>⟨hA' x hx,rfl⟩,fun _ _=>trivial,fun _ _ _ h=>h.elim,fun _ _ _ h=>h.elim,fun _ _ _ _ _ h=>h.elim⟩
 have kp:bP w' (pY fun x=>((env B s.o G w).A x∨(w.heap.size≤x∧x < w'.heap.size))∧x∉fp).plain w' (env B (s.o.set k ob'++news) (G++Gs) w').plain:=
  ⟨fun x hx=>⟨hA' x hx,rfl⟩,fun _ _=>trivial,fun _ _ _ h=>h.elim,fun _ _ _ h=>h.elim,fun _ _ _ _ _ h=>h.elim⟩
 have hbne:∀{j ob g2 x},look s.o G j ob g2→ob.live=true→g2.F x→j≠k→x≠b:=fun h2 hlive2 hF hne e=>hne (r.apart _ _ _ _ _ _ b h2 hl hlive2 rfl (e▸hF) hbF)
 have hnext:bG B ⟨s.t,s.o.set k ob'++news⟩ (G++Gs) a w':=by
  refine r.next hE (by simp [r.len,hlen]) ?_ ?_ ?_ hsz ?_ hio
  ·intro j ob g2 h2 hlive2
   rcases lk h2 with ⟨j',h3,_⟩|⟨e1,e2,e3⟩|⟨hne,h3⟩
   ·obtain ⟨q1,q2,_,f',hown2,q3,q4,q5⟩:=hobj _ _ _ h3
    refine ⟨f',?_,q3,fun x hx=>(q4 x).2 hx⟩
    have:=hown2.keeps kn.plain (fun _ _=>rfl)
    rw [q2]
    exact this
   ·rw [e2,e3]
    refine ⟨[b],?_,by simp,by simpa using hbF⟩
    have h5:ob'.box=true∧ob'.n=3∧ob'.els=[aQ code i' h']:=by rw [←hob'];exact ⟨rfl,rfl,rfl⟩
    rw [h5.1,h5.2.1,h5.2.2,hga]
    simp only [Env.of,if_true]
    exact yI kp hown'
   ·exact (r.ok j ob g2 h3 hlive2).keeps hE fun x hx=>hkeepF j ob g2 x h3 hlive2 hx (hbne h3 hlive2 hx hne)
  ·intro j1 j2 o1 o2 g1 g2 x a1 a2 l1 l2 f1 f2
   rcases lk a1 with ⟨j',c1,d1⟩|⟨d1,d2,d3⟩|⟨d1,c1⟩<;>rcases lk a2 with ⟨j'',c2,d4⟩|⟨d4,d5,d6⟩|⟨d4,c2⟩
   ·have:=hap _ _ _ _ _ _ x c1 c2 f1 f2;omega
   ·have q1:=(hfr _ (newF c1 f1)).1;have q2:=(r.fresh _ _ _ x hl rfl (d6▸f2)).2;omega
   ·have q1:=(hfr _ (newF c1 f1)).1;have q2:=(r.fresh _ _ _ x c2 l2 f2).2;omega
   ·have q1:=(hfr _ (newF c2 f2)).1;have q2:=(r.fresh _ _ _ x hl rfl (d3▸f1)).2;omega
   ·omega
   ·exact absurd (r.apart _ _ _ _ _ _ x c2 hl l2 rfl f2 (d3▸f1)) d4
   ·have q1:=(hfr _ (newF c2 f2)).1;have q2:=(r.fresh _ _ _ x c1 l1 f1).2;omega
   ·exact absurd (r.apart _ _ _ _ _ _ x c1 hl l1 rfl f1 (d6▸f2)) d1
   ·exact r.apart _ _ _ _ _ _ x c1 c2 l1 l2 f1 f2
  ·intro j ob g2 x h2 hlive2 hF
   rcases lk h2 with ⟨j',h3,_⟩|⟨e1,e2,e3⟩|⟨hne,h3⟩
   ·have:=hfr _ (newF h3 hF)
    exact ⟨.inr (Nat.le_trans r.size this.1),this.2⟩
   ·have:=r.fresh _ _ _ x hl rfl (e3▸hF)
    exact ⟨this.1,Nat.lt_of_lt_of_le this.2 hsz⟩
   ·have:=r.fresh _ _ _ x h3 hlive2 hF
    exact ⟨this.1,Nat.lt_of_lt_of_le this.2 hsz⟩
  ·intro x hx hO
   refine hsame x (Nat.lt_of_lt_of_le hx r.size) fun e=> ?_
   rcases hfresh.1 with h|h
   ·exact hO (e▸h)
   ·omega
 refine ⟨G++Gs,?_⟩
 have hd:s.drew dst k ver code i' h' rv=AS.put ⟨s.t,s.o.set k ob'++news⟩ dst (dG 1 s.o.length rv).1:=by
  simp only [AS.drew,AS.called,List.length_set,hob',hnews]
 rw [hd]
 refine hnext.put dst ?_
 refine hdone _ kn fun j ob g2 h2=> ?_
 obtain ⟨_,_,q3,_⟩:=hobj _ _ _ h2
 have h3:=mG (o:=s.o.set k ob') (G:=G) hlG h2
 rw [hls] at h3
 exact ⟨ob,g2,h3,Nat.le_of_eq q3.symm,fun _ _=>rfl,fun h=>absurd h (by decide)⟩
end
def OkE (P:Program) [aB P] (f:FuncId) (args:List AV) (Q:AV→Prop):Prop:=
 ∀(w:World) (S:Nat→Prop) (vs:List Value),aB.holds P w→(∀x,S x→x < w.heap.size)→Rc w (pY S) args vs []→
  Calls P f vs.toArray w fun e w'=>∃r v fp,e= .returned v∧Q r∧R w' (pY fun x=>(S x∨(w.heap.size≤x∧x < w'.heap.size))∧x∉fp) r v fp∧fp.Nodup∧
   (∀b∈fp,w.heap.size≤b∧b < w'.heap.size)∧w.heap.size≤w'.heap.size∧(∀b,b < w.heap.size→w'.heap[b]? =w.heap[b]?)∧Same w w'
def aMr (P:Program) [aB P] (f:FuncId):Prop:=
 ∀(w:World) (S:Nat→Prop) (v:Value) (code:List UInt8),aB.holds P w→(∀x,S x→x < w.heap.size)→R w (pY S) (.sl .view 1 (aT code)) v []→
  Calls P f #[v] w fun e w'=>∃b fo cap,e= .returned (.pointer (some ⟨b,fo,none⟩))∧w.heap.size≤b∧b < w'.heap.size∧aHp w' (fun x=>(S x∨(w.heap.size≤x∧x < w'.heap.size))∧x≠b) b fo cap code∧
   w.heap.size≤w'.heap.size∧(∀b,b < w.heap.size→w'.heap[b]? =w.heap[b]?)∧Same w w'
def AS.newCur (s:AS) (dst:Option Tmp) (code:List UInt8) (i h:Int):AS:=AS.put ⟨s.t,s.o++[⟨true,true,3,0,[aQ code i h]⟩]⟩ dst (.ptr s.o.length 0 0 0)
section
variable {P : Program} [aB P] {B : Base P} {s : AS} {dst : Option Tmp} {ty : TypeId} {pos : String} {after : Array Edge} {gd : Option (Nat × Bool)}
theorem aXn (f:Operand) (ys:List Operand) (tys:Array TypeId) {g:FuncId} {Q:AV→Prop} (hf:s.ev f= .fn g []) (hc:callable P g=true)
  (hfl:(ys.map s.ev).all eD=true) (hok:OkE P g (ys.map s.ev) Q) (a:Act) (w:World) (next:Act→World→Prop) (X:Exit→Act→World→Prop) (hr:Rel B s a w)
  (hn:∀r a' w',Q r→Rel B (s.called dst r) a' w'→next a' w'):
  Oper.wp P ⟨dst,.call {callee:= .value f,args:=⟨ys⟩,argTypes:=tys},ty,pos,after,gd⟩ a w next X:=by
 obtain ⟨G,r⟩:=hr
 have h1:=r.ev f
 rw [hf] at h1
 simp only [R] at h1
 obtain ⟨_,cs,hv,hcap⟩:=h1
 have hcs:cs=[]:=by cases cs with
  |nil=>rfl
  |cons _ _=>simp [Rc] at hcap
 subst hcs
 have hargs:Rc w (env B s.o G w) (ys.map s.ev) (ys.map a.eval) []:=pK r ys
 have hcall:=hok w (env B s.o G w).A _ r.holds (fun x hx=>lX r hx) (aKm (E:=env B s.o G w) (E':=pY (env B s.o G w).A) ⟨fun _ h=>⟨h,rfl⟩,fun _ _=>trivial,fun _ _ _ h=>h.elim,fun _ _ _ h=>h.elim,fun _ _ _ _ _ h=>h.elim⟩ hfl hargs)
 unfold Oper.wp
 have hrun:(execOp a.eval ⟨dst,.call {callee:= .value f,args:=⟨ys⟩,argTypes:=tys},ty,pos,after,gd⟩).run P w= .ok (.enter g (ys.map a.eval).toArray) w:=by
  have e:(⟨ys⟩:Array Operand).map a.eval=(ys.map a.eval).toArray:=by apply Array.ext';simp
  simp [execOp,resolve,hv,Deferred.ofValue,invoke,rP hc,e]
 rw [hrun,Oper.upon_enter]
 refine hcall.mono fun e w' h=> ?_
 obtain ⟨rr,v,fp,rfl,hQ,hrr,hnd,hfr,hsz,hsame,hio⟩:=h
 refine hn rr _ _ hQ ?_
 obtain ⟨Gs,hlen,hobj,hap,hdone⟩:=yR (q:=1) rr v fp s.o.length hrr hnd
 have kn:bP w' (pY fun x=>((env B s.o G w).A x∨(w.heap.size≤x∧x < w'.heap.size))∧x∉fp) w' (env B (s.o++(dG 1 s.o.length rr).2) (G++Gs) w'):=by
  refine ⟨fun b hb=>⟨⟨?_,fun i ob g hl hlive hF=> ?_⟩,rfl⟩,fun _ _=>trivial,fun _ _ _ h=>h.elim,fun _ _ _ h=>h.elim,fun _ _ _ _ _ h=>h.elim⟩
  ·rcases hb.1 with h|h
   ·rcases h.1 with h|h
    ·exact .inl h
    ·exact .inr ⟨h.1,Nat.lt_of_lt_of_le h.2 hsz⟩
   ·exact .inr ⟨Nat.le_trans r.size h.1,h.2⟩
  ·rcases jX r.len hl with ⟨_,h⟩|⟨_,h⟩
   ·rcases hb.1 with h1|h1
    ·exact h1.2 _ _ _ h hlive hF
    ·have:=(r.fresh _ _ _ b h hlive hF).2
     omega
   ·obtain ⟨_,_,_,f,_,_,h3,h4⟩:=hobj _ _ _ h
    exact hb.2 (h4 _ ((h3 _).1 hF))
 have hadd:=r.add (dG 1 s.o.length rr).2 Gs w' hlen hsz hsame (fun j ob g b hl _ hF=>by
   obtain ⟨_,_,_,f,_,_,h3,h4⟩:=hobj _ _ _ hl
   exact hfr _ (h4 _ ((h3 _).1 hF))) (fun i j oi oj gi gj b hi hj _ _ hfi hfj=>hap _ _ _ _ _ _ b hi hj hfi hfj) (fun k j ob g hl _=>by
   obtain ⟨h1,h2,_,f,hown,h3,h4,h5⟩:=hobj _ _ _ hl
   refine ⟨f,?_,h3,fun b hb=>(h4 b).2 hb⟩
   have:=hown.keeps kn.plain (fun _ _=>rfl)
   rw [h2]
   exact this) hio
 refine ⟨G++Gs,hadd.1.put dst ?_⟩
 refine hdone _ kn fun j ob g hl=> ?_
 obtain ⟨_,_,h3,_⟩:=hobj _ _ _ hl
 exact ⟨ob,g,mG r.len hl,Nat.le_of_eq h3.symm,fun _ _=>rfl,fun h=>absurd h (by decide)⟩
theorem aT5 (f x:Operand) (tys:Array TypeId) {g:FuncId} {code:List UInt8} (hf:s.ev f= .fn g []) (hc:callable P g=true) (hx:s.ev x= .sl .view 1 (aT code))
  (hok:aMr P g) (a:Act) (w:World) (next:Act→World→Prop) (X:Exit→Act→World→Prop) (hr:Rel B s a w)
  (hn:∀i h a' w',0≤i→Rel B (s.newCur dst code i h) a' w'→next a' w'):
  Oper.wp P ⟨dst,.call {callee:= .value f,args:=#[x],argTypes:=tys},ty,pos,after,gd⟩ a w next X:=by
 obtain ⟨G,r⟩:=hr
 have h1:=r.ev f
 rw [hf] at h1
 simp only [R] at h1
 obtain ⟨_,cs,hv,hcap⟩:=h1
 have hcs:cs=[]:=by cases cs with
  |nil=>rfl
  |cons _ _=>simp [Rc] at hcap
 subst hcs
 have hxv:=r.ev x
 rw [hx] at hxv
 have hcall:=hok w (env B s.o G w).A _ code r.holds (fun x hx=>lX r hx) (aHv (E:=env B s.o G w) (E':=pY (env B s.o G w).A) ⟨fun b hb=>⟨hb,rfl⟩,fun _ _=>trivial,fun _ _ _ h=>h.elim,fun _ _ _ h=>h.elim,fun _ _ _ _ _ h=>h.elim⟩ hxv)
 unfold Oper.wp
 have hrun:(execOp a.eval ⟨dst,.call {callee:= .value f,args:=#[x],argTypes:=tys},ty,pos,after,gd⟩).run P w= .ok (.enter g #[a.eval x]) w:=by
  simp [execOp,resolve,hv,Deferred.ofValue,invoke,rP hc]
 rw [hrun,Oper.upon_enter]
 refine hcall.mono fun e w' h=> ?_
 obtain ⟨b,fo,cap,rfl,hb1,hb2,⟨i,h,hi,hown⟩,hsz,hsame,hio⟩:=h
 refine hn i h _ _ hi ?_
 have hadd:=r.add [⟨true,true,3,0,[aQ code i h]⟩] [⟨some ⟨b,fo,none⟩,cap,(· =b)⟩] w' rfl hsz hsame
  (by
   rintro j ob g2 x ⟨q1,q2⟩ _ hF
   cases j with
   |zero=>simp at q2;subst q2;simp at hF;subst hF;exact ⟨hb1,hb2⟩
   |succ j=>simp at q2)
  (by
   rintro i j _ _ _ _ _ ⟨q1,_⟩ ⟨q2,_⟩ _ _ _ _
   cases i<;>cases j<;>simp_all)
  (by
   rintro k j ob g2 ⟨q1,q2⟩ _
   cases j with
   |zero=>
    simp at q1 q2
    subst q1;subst q2
    refine ⟨[b],?_,by simp,by simp⟩
    simp only [Env.of,if_true]
    refine yI ⟨fun x hx=>⟨⟨?_,fun j ob g2 h2 hlive2 hF=> ?_⟩,rfl⟩,fun _ _=>trivial,fun _ _ _ h=>h.elim,fun _ _ _ h=>h.elim,fun _ _ _ _ _ h=>h.elim⟩ hown
    ·rcases hx.1 with h|h
     ·rcases h.1 with h|h
      ·exact .inl h
      ·exact .inr ⟨h.1,Nat.lt_of_lt_of_le h.2 hsz⟩
     ·exact .inr ⟨Nat.le_trans r.size h.1,h.2⟩
    ·rcases jX r.len h2 with ⟨_,h2⟩|⟨_,h2⟩
     ·rcases hx.1 with h|h
      ·exact h.2 _ _ _ h2 hlive2 hF
      ·have:=(r.fresh _ _ _ x h2 hlive2 hF).2;omega
     ·obtain ⟨q1,q2⟩:=h2
      generalize j - s.o.length=jj at *
      cases jj with
      |zero=>simp at q2;subst q2;exact hx.2 hF
      |succ j=>simp at q2
   |succ j=>simp at q1) hio
 have hp:R w' (env B (s.o++[⟨true,true,3,0,[aQ code i h]⟩]) (G++[⟨some ⟨b,fo,none⟩,cap,(· =b)⟩]) w') (.ptr s.o.length 0 0 0) (.pointer (some ⟨b,fo,none⟩)) []:=by
  simp only [R]
  exact ⟨trivial,⟨true,true,3,0,[aQ code i h]⟩,⟨some ⟨b,fo,none⟩,cap,(· =b)⟩,⟨by simp,by rw [←r.len];simp⟩,Nat.le_refl _,fun _ _=>⟨b,fo,rfl,by simp⟩,fun _ h=>by cases h⟩
 exact ⟨_,hadd.1.put dst hp⟩
end
def aCy (P : Program) [aB P] (o : Oper) (s : AS) (K : AS → Prop) : Prop :=
  match o.op with
  | .call ⟨.value f, ⟨ys⟩, _⟩ => match s.ev f with
    | .fn g [] => callable P g = true ∧
        ((∃ x zs k ver code, ∃ i h : Int, ∃ Q : AV → Prop, ys = x :: zs ∧ s.ev x = .ptr k ver 0 0 ∧ AV.isObj s.o k ver = some ⟨true, true, 3, ver, [aQ code i h]⟩ ∧ 0 ≤ i ∧ (zs.map s.ev).all eD = true ∧ OkC P g (zs.map s.ev) Q ∧ ∀ r i' h', Q r → 0 ≤ i' → K (s.drew o.dst k ver code i' h' r)) ∨
         (∃ x code, ys = [x] ∧ s.ev x = .sl .view 1 (aT code) ∧ aMr P g ∧ ∀ i h, 0 ≤ i → K (s.newCur o.dst code i h)) ∨
         (∃ Q : AV → Prop, ((ys.map s.ev).all eD = true ∧ OkE P g (ys.map s.ev) Q) ∧ ∀ r, Q r → K (s.called o.dst r)))
    | _ => False
  | _ => False
theorem aXa {P:Program} [aB P] {B:Base P} {o:Oper} {s:AS} {K:AS→Prop} (h:aCy P o s K) (a:Act) (w:World) (next:Act→World→Prop) (X:Exit→Act→World→Prop) (hr:Rel B s a w)
  (hn:∀a' w' s',K s'→Rel B s' a' w'→next a' w'):o.wp P a w next X:=by
 obtain ⟨dst,op,ty,pos,after,gd⟩:=o
 unfold aCy at h
 dsimp only at h
 split at h
 ·split at h
  ·rename_i hf
   obtain ⟨hc,⟨x,zs,k,ver,code,i,h',Q,rfl,h1,h2,h3,h4,h5,h6⟩|⟨x,code,rfl,h1,h2,h3⟩|⟨Q,h1,h2⟩⟩:=h
   ·exact step_cur _ _ _ _ hf hc h1 h2 h3 h4 h5 a w next X hr fun r i' h' a' w' hq hi hrel=>hn _ _ _ (h6 r i' h' hq hi) hrel
   ·exact aT5 _ _ _ hf hc h1 h2 a w next X hr fun i h a' w' hi hrel=>hn _ _ _ (h3 i h hi) hrel
   ·exact aXn _ _ _ hf hc h1.1 h1.2 a w next X hr fun r a' w' hq hrel=>hn _ _ _ (h2 r hq) hrel
  ·exact h.elim
 ·exact h.elim
end Go.Aw
