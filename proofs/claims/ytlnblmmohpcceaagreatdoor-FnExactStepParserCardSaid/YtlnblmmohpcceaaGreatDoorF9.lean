/-
  Proved here: steps towards the statement of this claim, text F9.
  No condition beyond what each statement spells out.
-/
import Derived.Test.YtlnblmmohpcceaaGreatDoorF2
set_option linter.all false
namespace Go.Aw
def rowOf (o:List aB) (i:Nat):List AV:=match o[i]? with
 |some ob=>ob.els.headD []
 |none=>[]
def aGn (o:List aB):AV→List Nat
 | .ptr i _ _ _=>i::eZ (rowOf o i)
 |_=>[]
def takes (o:List aB):List AV→List GA→List Nat
 |x::xs,.view _::gs=>takes o xs gs
 |x::xs,.give _::gs=>uses x++takes o xs gs
 |x::xs,.lend _ _::gs=>aGn o x++takes o xs gs
 |_,_=>[]
def aW1 (o:List aB) (c:List AV):AV→Prop
 | .ptr i ver 0 0=>∃ob,AV.isObj o i ver=some ob∧ob.box=true∧∃cells,ob.els=[cells]∧iH o cells=true∧jP o cells=c
 |_=>False
def handed (o:List aB) (u:List Nat):List AV→List GA→Prop
 |[],[]=>True
 |x::xs,.view y::gs=>away u x=true∧arg o x=y∧handed o u xs gs
 |x::xs,.give y::gs=>eY o x=true∧res o x=y∧handed o u xs gs
 |x::xs,.lend c _::gs=>aW1 o c x∧handed o u xs gs
 |_,_=>False
def aR4 (o:List aB) (G:List CO) (c:List AV) (v:Value) (cap:Nat):AV→Prop
 | .ptr i _ _ _=>∃ob g b f,look o G i ob g∧ob.live=true∧ob.box=true∧ob.n=c.length∧ob.els.length=1∧g.a=some ⟨b,f,none⟩∧v= .pointer (some ⟨b,f,none⟩)∧g.F b∧g.cap=cap
 |_=>False
def kU (o:List aB) (G:List CO):List AV→List GA→List Value→List Nat→Prop
 |[],[],[],[]=>True
 |x::xs,.lend c _::gs,v::vs,cap::caps=>aR4 o G c v cap x∧kU o G xs gs vs caps
 |x::xs,.view _::gs,v::vs,cap::caps=>kU o G xs gs vs caps
 |x::xs,.give _::gs,v::vs,cap::caps=>kU o G xs gs vs caps
 |_,_,_,_=>False
section
variable {P : Program} [aA P] {B : Base P} {s : AS} {G : List CO} {a : Act} {w : World}
theorem aDy (r:bC B s G a w) {u1 u2:List Nat} (hd:∀i∈u1,∀j∈u2,i≠j) {b:Nat} (h1:Of s.o G u1 b) (h2:Of s.o G u2 b):False:=by
 obtain ⟨i,ob,g,hi,hl,hlive,hF⟩:=h1
 obtain ⟨j,ob',g',hj,hl',hlive',hF'⟩:=h2
 exact hd i hi j hj (r.apart i j _ _ _ _ b hl hl' hlive hlive' hF hF')
theorem vV {o:List aB} {u1 u2:List Nat} (h:∀i∈u1,i∈u2) {b:Nat} (h1:Of o G u1 b):Of o G u2 b:=by
 obtain ⟨i,ob,g,hi,k⟩:=h1
 exact ⟨i,ob,g,h i hi,k⟩
theorem aNg (r:bC B s G a w) {Z:Nat→Prop} {U:List Nat} (hZ:∀b,Z b→Of s.o G U b):bM w (env B s.o G w).plain w (lK w Z):=
 ⟨fun b hb=>⟨aK2 r hZ hb,rfl⟩,fun _ _=>trivial,fun _ _ _ h=>h.elim,fun _ _ _ h=>h.elim,fun _ _ _ _ _ h=>h.elim⟩
theorem aXw (r:bC B s G a w) {c:List AV} {x:AV} {v:Value} (h:aW1 s.o c x) (hx:R w (env B s.o G w) x v [])
  {us:List Nat} (hus:aGn s.o x=us) (hnd:us.Nodup):
  ∃fp cap,fp.Nodup∧(∀b∈fp,Of s.o G us b)∧aR4 s.o G c v cap x∧∀c' Z U,(∀b,Z b→Of s.o G U b)→RG w Z (.lend c c') v fp cap:=by
 unfold aW1 at h
 split at h
 ·rename_i i ver
  obtain ⟨ob,hob,hbox,cells,hels,hok,hres⟩:=h
  obtain ⟨h1,h2,h3⟩:=iW hob
  simp only [R] at hx
  obtain ⟨_,ob',g,hl,_,hh,_⟩:=hx
  obtain rfl:=Option.some.inj (hl.1.symm.trans h1)
  obtain ⟨b,f,hga,hv⟩:=hh h2 h3
  have hrow:rowOf s.o i=cells:=by simp [rowOf,h1,hels]
  simp only [aGn,hrow] at hus
  subst hus
  simp only [List.nodup_cons] at hnd
  obtain ⟨fp0,⟨hlen,hown⟩,hndo,hFo⟩:=r.ok i _ g hl h2
  rw [hels] at hown
  simp only [hbox,Env.of,if_true] at hown
  rcases hown with ⟨h5,_⟩|⟨b',f',C,ty,fz,fps,ha',hbk,hz,k1,k2,k3,rfl,hr⟩
  ·cases h5
  ·rw [hga] at ha'
   simp only [Option.some.injEq,Addr.mk.injEq,and_true] at ha'
   obtain ⟨rfl,rfl⟩:=ha'
   simp only [Rr] at hr
   obtain ⟨cs,f1,f2,hn,hc,hone,hrc,rfl,e⟩:=hr
   have e:fps=f1:=by simpa using e
   subst e
   simp only [List.nodup_cons] at hndo
   obtain ⟨fp',q1,q2,q3⟩:=aDa r hl h2 cells cs fps hok hnd.2 hnd.1 hndo.2 (fun x hx=>hFo x (by simp [hx])) hrc
   have hbF:g.F b:=hFo b (by simp)
   have hbn:b∉fp':=fun hb=>by
    rcases q3 b hb with h|h
    ·exact hndo.1 h
    ·obtain ⟨j,oj,gj,hj,hlj,hjl,hFj⟩:=h
     have:=r.apart i j _ _ _ _ b hl hlj h2 hjl hbF hFj
     exact hnd.1 (this▸hj)
   have hcl:cells.length=ob'.n:=by have:=eF hrc;omega
   have hcc:c.length=ob'.n:=by rw [←hres,←hcl];clear q1 hok hres;induction cells with
    |nil=>rfl
    |cons _ _ _=>simp [jP,aCh]
   refine ⟨b::fp',g.cap,List.nodup_cons.2 ⟨hbn,q2⟩,?_,?_,?_⟩
   ·intro x hx
    rcases List.mem_cons.1 hx with rfl|hx
    ·exact ⟨i,ob',g,by simp,hl,h2,hbF⟩
    ·rcases q3 x hx with h|h
     ·exact ⟨i,ob',g,by simp,hl,h2,hFo x (by simp [h])⟩
     ·exact vV (fun j hj=>by simp [hj]) h
   ·exact ⟨ob',g,b,f,hl,h2,hbox,hcc.symm,by rw [hels];rfl,hga,by simpa using hv,hbF,rfl⟩
   ·intro c' Z U hZ
    simp only [RG]
    refine ⟨b,f,by simpa using hv,by simp [maxLen],.inr ⟨b,f,C,ty,fz,fp',rfl,hbk,by rw [hcc];exact hz,by rw [hcc];exact k1,by simpa using k2,k3,rfl,?_⟩⟩
    simp only [Rr]
    refine ⟨cs,fp',[],by rw [hcc];exact hn,hc,hone,?_,rfl,by simp⟩
    rw [←hres]
    exact bY (aNg r hZ) _ _ _ (fun _ _=>rfl) q1
 ·exact h.elim
theorem xB (r:bC B s G a w) {U:List Nat}:∀(xs:List AV) (gs:List GA) (vs:List Value),handed s.o U xs gs→(takes s.o xs gs).Nodup→(∀i∈takes s.o xs gs,i∈U)→Rc w (env B s.o G w) xs vs []→
  ∃fss caps,fss.flatten.Nodup∧(∀b∈fss.flatten,Of s.o G (takes s.o xs gs) b)∧kU s.o G xs gs vs caps∧∀Z,(∀b,Z b→Of s.o G U b)→RGs w Z gs vs fss caps
 |[],[],[],_,_,_,_=>⟨[],[],by simp,by simp,by simp [kU],fun _ _=>by simp [RGs]⟩
 |[],[],_::_,_,_,_,h=>by simp [Rc] at h
 |[],_::_,_,h,_,_,_=>by simp [handed] at h
 |_::_,[],_,h,_,_,_=>by simp [handed] at h
 |_::_,_::_,[],_,_,_,h=>by simp [Rc] at h
 |x::xs,.view y::gs,v::vs,h,hn,hu,hr=>by
  simp only [handed] at h
  obtain ⟨h1,h2,h3⟩:=h
  simp only [Rc] at hr
  obtain ⟨f1,f2,hr1,hr2,e⟩:=hr
  obtain ⟨rfl,rfl⟩:f1=[]∧f2=[]:=by simpa using e
  simp only [takes] at hn hu⊢
  obtain ⟨fss,caps,q1,q2,q3,q4⟩:=xB r xs gs vs h3 hn hu hr2
  refine ⟨[]::fss,0::caps,by simpa using q1,by simpa using q2,by simpa [kU] using q3,fun Z hZ=> ?_⟩
  simp only [RGs,RG]
  refine ⟨⟨trivial,?_⟩,q4 Z hZ⟩
  rw [←h2]
  exact aZ5 r hZ x v h1 hr1
 |x::xs,.give y::gs,v::vs,h,hn,hu,hr=>by
  simp only [handed] at h
  obtain ⟨h1,h2,h3⟩:=h
  simp only [Rc] at hr
  obtain ⟨f1,f2,hr1,hr2,e⟩:=hr
  obtain ⟨rfl,rfl⟩:f1=[]∧f2=[]:=by simpa using e
  simp only [takes,List.nodup_append] at hn hu⊢
  obtain ⟨fss,caps,q1,q2,q3,q4⟩:=xB r xs gs vs h3 hn.2.1 (fun i hi=>hu i (by simp [hi])) hr2
  obtain ⟨fp,p1,p2,p3⟩:=aB1 r x v h1 hn.1 hr1
  refine ⟨fp::fss,0::caps,?_,?_,by simpa [kU] using q3,fun Z hZ=> ?_⟩
  ·simp only [List.flatten_cons,List.nodup_append]
   refine ⟨p2,q1,fun b hb b' hb' e=> ?_⟩
   subst e
   exact aDy r (fun i hi j hj=>hn.2.2 i hi j hj) (p3 b hb) (q2 b hb')
  ·intro b hb
   simp only [List.flatten_cons,List.mem_append] at hb
   rcases hb with hb|hb
   ·exact vV (fun i hi=>by simp [hi]) (p3 b hb)
   ·exact vV (fun i hi=>by simp [hi]) (q2 b hb)
  ·simp only [RGs,RG]
   refine ⟨?_,q4 Z hZ⟩
   rw [←h2]
   exact lL (aNg r hZ) _ _ _ (fun _ _=>rfl) p1
 |x::xs,.lend c c'::gs,v::vs,h,hn,hu,hr=>by
  simp only [handed] at h
  obtain ⟨h1,h3⟩:=h
  simp only [Rc] at hr
  obtain ⟨f1,f2,hr1,hr2,e⟩:=hr
  obtain ⟨rfl,rfl⟩:f1=[]∧f2=[]:=by simpa using e
  simp only [takes] at hn hu⊢
  generalize hus:aGn s.o x=us at hn hu⊢
  simp only [List.nodup_append] at hn
  obtain ⟨fss,caps,q1,q2,q3,q4⟩:=xB r xs gs vs h3 hn.2.1 (fun i hi=>hu i (by simp [hi])) hr2
  obtain ⟨fp,cap,p1,p2,p3,p4⟩:=aXw r h1 hr1 hus hn.1
  refine ⟨fp::fss,cap::caps,?_,?_,by simp only [kU];exact ⟨p3,q3⟩,fun Z hZ=> ?_⟩
  ·simp only [List.flatten_cons,List.nodup_append]
   refine ⟨p1,q1,fun b hb b' hb' e=> ?_⟩
   subst e
   exact aDy r (fun i hi j hj=>hn.2.2 i hi j hj) (p2 b hb) (q2 b hb')
  ·intro b hb
   simp only [List.flatten_cons,List.mem_append] at hb
   rcases hb with hb|hb
   ·exact vV (fun i hi=>by simp [hi]) (p2 b hb)
   ·exact vV (fun i hi=>by simp [hi]) (q2 b hb)
  ·simp only [RGs]
   exact ⟨p4 c' Z U hZ,q4 Z hZ⟩
end
def vC:Nat→List GA→List aB
 |_,[]=>[]
 |k,.lend _ c'::gs=>(dD 1 k c').2++vC (k+(dD 1 k c').2.length) gs
 |k,.view _::gs=>vC k gs
 |k,.give _::gs=>vC k gs
def pW:Nat→List AV→List GA→List (Nat×List (List AV))
 |k,x::xs,.lend _ c'::gs=>(match x with
  | .ptr i _ _ _=>[(i,[(dD 1 k c').1])]
  |_=>[])++pW (k+(dD 1 k c').2.length) xs gs
 |k,_::xs,.view _::gs=>pW k xs gs
 |k,_::xs,.give _::gs=>pW k xs gs
 |_,_,_=>[]
def aB.gaged (ob:aB) (N:List (Nat×List (List AV))) (u:List Nat) (i:Nat):aB:=
 match N.find? (fun p=>p.1 == i) with
 |some p=>{ob with els:=p.2}
 |none=>if u.contains i=true then {ob with live:=false} else ob.forget u
def uQ (N:List (Nat×List (List AV))) (u:List Nat):Nat→List aB→List aB
 |_,[]=>[]
 |i,ob::r=>ob.gaged N u i::uQ N u (i+1) r
theorem aN3 (N:List (Nat×List (List AV))) (u:List Nat):∀(o:List aB) (k i:Nat),(uQ N u k o)[i]? =(o[i]?).map fun ob=>ob.gaged N u (k+i)
 |[],_,_=>by simp [uQ]
 |ob::r,k,0=>by simp [uQ]
 |ob::r,k,i+1=>by
  simp only [uQ,List.getElem?_cons_succ]
  rw [aN3 N u r (k+1) i,show k+1+i=k+(i+1) by omega]
theorem aAk (N:List (Nat×List (List AV))) (u:List Nat):∀(o:List aB) (k:Nat),(uQ N u k o).length=o.length
 |[],_=>rfl
 |g::r,k=>by simp [uQ,aAk N u r]
def yM (N:List (Nat×List (List AV))):Nat→List CO→List CO
 |_,[]=>[]
 |i,g::r=>(match N.find? (fun p=>p.1 == i) with
  |some _=>{g with F:=fun b=>∃a,g.a=some a∧b=a.block}
  |none=>g)::yM N (i+1) r
theorem aN2 (N:List (Nat×List (List AV))):∀(G:List CO) (k i:Nat),(yM N k G)[i]? =(G[i]?).map fun g=>match N.find? (fun p=>p.1 == k+i) with
  |some _=>{g with F:=fun b=>∃a,g.a=some a∧b=a.block}
  |none=>g
 |[],_,_=>by simp [yM]
 |g::r,k,0=>by simp [yM]
 |g::r,k,i+1=>by
  simp only [yM,List.getElem?_cons_succ]
  rw [aN2 N r (k+1) i,show k+1+i=k+(i+1) by omega]
theorem aAn (N:List (Nat×List (List AV))):∀(o:List CO) (k:Nat),(yM N k o).length=o.length
 |[],_=>rfl
 |g::r,k=>by simp [yM,aAn N r]
theorem aNv {o:List aB} {G:List CO} {N:List (Nat×List (List AV))} {u:List Nat} {i:Nat} {ob':aB} {g':CO} (h:look (uQ N u 0 o) (yM N 0 G) i ob' g'):
  ∃ob g,look o G i ob g∧((∃p∈N,p.1=i∧ob'={ob with els:=p.2}∧g'={g with F:=fun b=>∃a,g.a=some a∧b=a.block})∨
   ((∀p∈N,p.1≠i)∧g'=g∧((i∈u∧ob'={ob with live:=false})∨(i∉u∧ob'=ob.forget u)))):=by
 obtain ⟨h1,h2⟩:=h
 rw [aN3,Nat.zero_add] at h1
 rw [aN2,Nat.zero_add] at h2
 cases ho:o[i]? with
 |none=>simp [ho] at h1
 |some ob=>
  cases hg:G[i]? with
  |none=>simp [hg] at h2
  |some g=>
   rw [ho] at h1;rw [hg] at h2
   simp only [Option.map_some,Option.some.injEq] at h1 h2
   refine ⟨ob,g,⟨ho,hg⟩,?_⟩
   unfold aB.gaged at h1
   cases hf:N.find? (fun p=>p.1 == i) with
   |some p=>
    rw [hf] at h1 h2
    left
    exact ⟨p,List.mem_of_find?_eq_some hf,by have:=List.find?_some hf;simpa using this,h1.symm,h2.symm⟩
   |none=>
    rw [hf] at h1 h2
    right
    refine ⟨fun p hp e=> ?_,h2.symm,?_⟩
    ·have:=List.find?_eq_none.1 hf p hp
     simp [e] at this
    ·simp only at h1
     by_cases hiu:i∈u
     ·rw [if_pos (by simpa using hiu)] at h1;exact .inl ⟨hiu,h1.symm⟩
     ·rw [if_neg (by simpa using hiu)] at h1;exact .inr ⟨hiu,h1.symm⟩
theorem aZp {o:List aB} {G:List CO} {N:List (Nat×List (List AV))} {u:List Nat} {i:Nat} {ob:aB} {g:CO} (h:look o G i ob g):
  ∃ob' g',look (uQ N u 0 o) (yM N 0 G) i ob' g':=by
 have h1:=(List.getElem?_eq_some_iff.1 h.1).1
 have h2:=(List.getElem?_eq_some_iff.1 h.2).1
 exact ⟨_,_,List.getElem?_eq_getElem (by rw [aAk];exact h1),List.getElem?_eq_getElem (by rw [aAn];exact h2)⟩
theorem wO {w:World} {s:AS} {G:List CO}:∀(xs:List AV) (gs:List GA) (vs:List Value) (fss:List (List Nat)) (caps:List Nat) (k:Nat),kU s.o G xs gs vs caps→RPs w gs vs fss caps→fss.flatten.Nodup→
  ∃inner,inner.Nodup∧(∀b∈inner,b∈fss.flatten)∧
   (∀p∈pW k xs gs,∃ob g b f,look s.o G p.1 ob g∧ob.live=true∧ob.box=true∧ob.els.length=p.2.length∧g.a=some ⟨b,f,none⟩∧g.F b∧b∈fss.flatten∧b∉inner)∧
   iC 1 w iK k (vC k gs) inner (fun E'=>∀p∈pW k xs gs,∀ob g b f,look s.o G p.1 ob g→g.a=some ⟨b,f,none⟩→mK w E' ob.n p.2 g.a g.cap [b])
 |[],[],[],[],[],k,_,_,_=>⟨[],by simp,by simp,by simp [pW],⟨[],rfl,fun j ob g hl=>by simp [look,vC] at hl,fun i j oi oj gi gj b hl=>by simp [look,vC] at hl,fun E' _ _ p hp=>by simp [pW] at hp⟩⟩
 |x::xs,.view y::gs,v::vs,fp::fss,cap::caps,k,hl,hp,hn=>by
  simp only [RPs,RP] at hp
  obtain ⟨rfl,hp⟩:=hp
  simp only [vC,pW]
  have:=wO xs gs vs fss caps k (by simpa [kU] using hl) hp (by simpa using hn)
  simpa using this
 |x::xs,.give y::gs,v::vs,fp::fss,cap::caps,k,hl,hp,hn=>by
  simp only [RPs,RP] at hp
  obtain ⟨rfl,hp⟩:=hp
  simp only [vC,pW]
  have:=wO xs gs vs fss caps k (by simpa [kU] using hl) hp (by simpa using hn)
  simpa using this
 |x::xs,.lend c c'::gs,v::vs,fp::fss,cap::caps,k,hl,hp,hn=>by
  simp only [RPs,RP] at hp
  obtain ⟨⟨b0,f0,hv0,hlen,hown⟩,hp⟩:=hp
  simp only [kU] at hl
  obtain ⟨hl0,hl⟩:=hl
  simp only [List.flatten_cons,List.nodup_append] at hn
  obtain ⟨inner,i1,i2,i3,i4⟩:=wO xs gs vs fss caps (k+(dD 1 k c').2.length) hl hp hn.2.1
  unfold aR4 at hl0
  split at hl0
  ·rename_i i ver idx off
   obtain ⟨ob,g,b,f,hlk,hlive,hbox,hcn,hel,hga,hv,hF,rfl⟩:=hl0
   rw [hv] at hv0
   simp only [Value.pointer.injEq,Option.some.injEq,Addr.mk.injEq,and_true] at hv0
   obtain ⟨rfl,rfl⟩:=hv0
   rcases hown with ⟨h5,_⟩|⟨b',f',C,ty,fz,fps,ha',hbk,hz,k1,k2,k3,rfl,hr⟩
   ·cases h5
   simp only [Option.some.injEq,Addr.mk.injEq,and_true] at ha'
   obtain ⟨rfl,rfl⟩:=ha'
   simp only [Rr] at hr
   obtain ⟨cs,f1,f2,hcl,hc,hone,hrc,rfl,e⟩:=hr
   have e:fps=f1:=by simpa using e
   subst e
   have hnb:=hn.1
   simp only [List.nodup_cons] at hnb
   have hab:=yR (q:=1) c' cs fps k hrc hnb.2
   have hdis:(fps++inner).Nodup:=List.nodup_append.2 ⟨hnb.2,i1,fun x hx y hy e=>hn.2.2 x (by simp [hx]) y (i2 y hy) e⟩
   obtain ⟨Gs,a1,a2,a3,a4⟩:=hab.append i4 hdis
   have hbi:b∉inner:=fun h=>hn.2.2 b (by simp) b (i2 b h) rfl
   refine ⟨fps++inner,hdis,?_,?_,⟨Gs,a1,a2,a3,fun E' hk hh=> ?_⟩⟩
   ·intro x hx
    simp only [List.flatten_cons,List.mem_append]
    rcases List.mem_append.1 hx with hx|hx
    ·exact .inl (by simp [hx])
    ·exact .inr (i2 x hx)
   ·intro p hp
    simp only [pW,List.mem_append] at hp
    rcases hp with hp|hp
    ·simp only [List.mem_singleton] at hp
     subst hp
     exact ⟨ob,g,b,f,hlk,hlive,hbox,by simpa using hel,hga,hF,by simp,by simp only [List.mem_append,not_or];exact ⟨hnb.1,hbi⟩⟩
    ·obtain ⟨ob1,g1,b1,f1,q1,q2,q3,q4,q5,q6,q7,q8⟩:=i3 p hp
     refine ⟨ob1,g1,b1,f1,q1,q2,q3,q4,q5,q6,by simp [q7],?_⟩
     simp only [List.mem_append,not_or]
     exact ⟨fun h=>hn.2.2 b1 (by simp [h]) b1 q7 rfl,q8⟩
   ·obtain ⟨d1,d2⟩:=a4 E' hk hh
    intro p hp ob1 g1 b1 f1 q1 q2
    simp only [pW,List.mem_append] at hp
    rcases hp with hp|hp
    ·simp only [List.mem_singleton] at hp
     subst hp
     obtain ⟨rfl,rfl⟩:=iI hlk q1
     rw [hga] at q2
     simp only [Option.some.injEq,Addr.mk.injEq,and_true] at q2
     obtain ⟨rfl,rfl⟩:=q2
     refine ⟨by simp [maxLen],.inr ⟨b,f,C,ty,fz,[],hga,hbk,by rw [hcn];exact hz,by rw [hcn];exact k1,by simpa using k2,k3,rfl,?_⟩⟩
     simp only [Rr]
     exact ⟨cs,[],[],by rw [hcn];exact hcl,hc,hone,d1,rfl,rfl⟩
    ·exact d2 p hp ob1 g1 b1 f1 q1 q2
  ·exact hl0.elim
 |[],[],[],[],_::_,_,hl,_,_=>by simp [kU] at hl
 |[],[],[],_::_,_,_,_,hp,_=>by simp [RPs] at hp
 |[],[],_::_,_,_,_,_,hp,_=>by simp [RPs] at hp
 |[],_::_,_,_,_,_,hl,_,_=>by simp [kU] at hl
 |_::_,[],_,_,_,_,hl,_,_=>by simp [kU] at hl
 |_::_,.view _::_,[],_,_,_,hl,_,_=>by simp [kU] at hl
 |_::_,.view _::_,_::_,[],_,_,_,hp,_=>by simp [RPs] at hp
 |_::_,.view _::_,_::_,_::_,[],_,_,hp,_=>by simp [RPs] at hp
 |_::_,.give _::_,[],_,_,_,hl,_,_=>by simp [kU] at hl
 |_::_,.give _::_,_::_,[],_,_,_,hp,_=>by simp [RPs] at hp
 |_::_,.give _::_,_::_,_::_,[],_,_,hp,_=>by simp [RPs] at hp
 |_::_,.lend _ _::_,[],_,_,_,hl,_,_=>by simp [kU] at hl
 |_::_,.lend _ _::_,_::_,[],_,_,_,hp,_=>by simp [RPs] at hp
 |_::_,.lend _ _::_,_::_,_::_,[],_,_,hp,_=>by simp [RPs] at hp
theorem aD3 (o:List aB):∀(xs:List AV) (gs:List GA) (k:Nat),∀p∈pW k xs gs,p.1∈takes o xs gs
 |[],[],_,p,hp=>by simp [pW] at hp
 |[],_::_,_,p,hp=>by simp [pW] at hp
 |_::_,[],_,p,hp=>by simp [pW] at hp
 |x::xs,.view _::gs,k,p,hp=>by
  simp only [pW] at hp
  simpa [takes] using aD3 o xs gs k p hp
 |x::xs,.give _::gs,k,p,hp=>by
  simp only [pW] at hp
  simp only [takes,List.mem_append]
  exact .inr (aD3 o xs gs k p hp)
 |x::xs,.lend _ c'::gs,k,p,hp=>by
  simp only [pW,List.mem_append] at hp
  simp only [takes,List.mem_append]
  rcases hp with hp|hp
  ·left
   cases x<;>simp at hp
   subst hp;simp [aGn]
  ·exact .inr (aD3 o xs gs _ p hp)
def AS.given (s:AS) (d:Option Tmp) (xs:List AV) (gs:List GA) (r:AV):AS:=
 AS.put ⟨rtc (dQ (takes s.o xs gs)) true s.t,uQ (pW s.o.length xs gs) (takes s.o xs gs) 0 s.o++vC s.o.length gs++(bF 1 (s.o.length+(vC s.o.length gs).length) r).2⟩ d
  (bF 1 (s.o.length+(vC s.o.length gs).length) r).1
end Go.Aw

namespace Go.Aw
section
variable {P : Program} [aA P] {B : Base P} {s : AS} {dst : Option Tmp} {ty : TypeId} {pos : String} {after : Array Edge} {gd : Option (Nat × Bool)}
theorem aZv (f:Operand) (args:Array Operand) (tys:Array TypeId) {gf:FuncId} {gs:List GA} {rv:AV} (hf:s.ev f= .fn gf []) (hc:callable P gf=true)
  (hu:(takes s.o (s.args args) gs).Nodup) (hh:handed s.o (takes s.o (s.args args) gs) (s.args args) gs) (hok:OkG P gf gs rv):
  Step P B ⟨dst,.call {callee:= .value f,args:=args,argTypes:=tys},ty,pos,after,gd⟩ s (s.given dst (s.args args) gs rv):=by
 rintro a w next Q ⟨G,rr⟩ hn
 have h1:=rr.ev f
 rw [hf] at h1
 simp only [R] at h1
 obtain ⟨_,cs,hv,hcap⟩:=h1
 have hcs:cs=[]:=by cases cs with
  |nil=>rfl
  |cons _ _=>simp [Rc] at hcap
 subst hcs
 have hargs:Rc w (env B s.o G w) (s.args args) (args.toList.map a.eval) []:=by simpa [AS.args] using qU rr args.toList
 generalize hxs:s.args args=xs at *
 obtain ⟨fss,caps,hnd,hOf,hlends,hreads⟩:=xB rr (U:=takes s.o xs gs) xs gs _ hh hu (fun i h=>h) hargs
 generalize huu:takes s.o xs gs=u at *
 have hlt:∀b∈fss.flatten,b < w.heap.size:=fun b hb=>by
  obtain ⟨i,ob,g,_,hl,hlive,hF⟩:=hOf b hb
  exact (rr.fresh _ _ _ b hl hlive hF).2
 have hab:∀b∈fss.flatten,aA.low P≤b∧b < w.heap.size:=fun b hb=>by
  obtain ⟨i,ob,g,_,hl,hlive,hF⟩:=hOf b hb
  exact ⟨rr.above (rr.fresh _ _ _ b hl hlive hF).1,hlt b hb⟩
 have hcall:=hok w _ fss caps rr.holds hab hnd (hreads _ hOf)
 unfold Oper.wp
 have hrun:(execOp a.eval ⟨dst,.call {callee:= .value f,args:=args,argTypes:=tys},ty,pos,after,gd⟩).run P w= .ok (.enter gf (args.toList.map a.eval).toArray) w:=by
  have e:args.map a.eval=(args.toList.map a.eval).toArray:=by apply Array.ext';simp
  simp [execOp,resolve,hv,Deferred.ofValue,invoke,aAy hc,e]
 rw [hrun,Oper.upon_enter]
 refine hcall.mono fun e w' h=> ?_
 obtain ⟨v,fp,fss',rfl,hrr,hrp,hnd',hfr,hsz,hsame,hio⟩:=h
 refine hn _ _ ?_
 have hnd2:=List.nodup_append.1 hnd'
 obtain ⟨inner,i1,i2,i3,i4⟩:=wO (s:=s) (G:=G) xs gs _ fss' caps s.o.length hlends hrp hnd2.1
 have hdis:(inner++fp).Nodup:=List.nodup_append.2 ⟨i1,hnd2.2.1,fun x hx y hy e=>hnd2.2.2 x (i2 x hx) y hy e⟩
 obtain ⟨Gs,hlen,hobj,hap,hdone⟩:=i4.append (aAm (q:=1) rv v fp (s.o.length+(vC s.o.length gs).length) hrr hnd2.2.1) hdis
 have hNu:=aD3 s.o xs gs s.o.length
 rw [huu] at hNu
 unfold AS.given
 rw [huu]
 generalize hN:pW s.o.length xs gs=N at *
 rw [List.append_assoc]
 generalize hnews:vC s.o.length gs++(bF 1 (s.o.length+(vC s.o.length gs).length) rv).2=news at *
 generalize ho1:uQ N u 0 s.o=o1
 generalize hG1:yM N 0 G=G1
 have hl1:o1.length=s.o.length:=by rw [←ho1,aAk]
 have hlg1:G1.length=G.length:=by rw [←hG1,aAn]
 have hlG:G1.length=o1.length:=by rw [hlg1,hl1,rr.len]
 have blk:∀b,b∈fss'.flatten++fp→(Of s.o G u b∨w.heap.size≤b)∧b < w'.heap.size:=fun b hb=>by
  have:=hfr b hb
  refine ⟨?_,this.2⟩
  rcases this.1 with h|h
  ·exact .inl (hOf b h)
  ·exact .inr h
 have newF:∀{j ob g b},look news Gs j ob g→g.F b→b∈inner++fp:=by
  intro j ob g b hl hF
  obtain ⟨_,_,_,f',_,_,h3,h4⟩:=hobj _ _ _ hl
  exact h4 _ ((h3 _).1 hF)
 have newX:∀{b},b∈inner++fp→b∈fss'.flatten++fp:=by
  intro b hb
  rcases List.mem_append.1 hb with h|h
  ·exact List.mem_append_left _ (i2 b h)
  ·exact List.mem_append_right _ h
 have lk:∀{i ob' g'},look (o1++news) (G1++Gs) i ob' g'→(∃j,i=s.o.length+j∧look news Gs j ob' g')∨(i < s.o.length∧∃ob g,look s.o G i ob g∧
   ((∃p∈N,p.1=i∧ob'={ob with els:=p.2}∧g'={g with F:=fun b=>∃a,g.a=some a∧b=a.block})∨
   ((∀p∈N,p.1≠i)∧g'=g∧((i∈u∧ob'={ob with live:=false})∨(i∉u∧ob'=ob.forget u))))):=by
  intro i ob' g' h
  rcases lF hlG h with ⟨hi,h⟩|⟨hi,h⟩
  ·right
   refine ⟨by omega,?_⟩
   rw [←ho1,←hG1] at h
   exact aNv h
  ·left
   exact ⟨i - o1.length,by omega,h⟩
 have boxN:∀{p},p∈N→∀{ob g},look s.o G p.1 ob g→ob.live=true∧ob.box=true∧ob.els.length=p.2.length∧∃b f,g.a=some ⟨b,f,none⟩∧g.F b∧b∈fss'.flatten∧b∉inner:=by
  intro p hp ob g hl
  obtain ⟨ob2,g2,b,f,q1,q2,q3,q4,q5,q6,q7,q8⟩:=i3 p hp
  obtain ⟨rfl,rfl⟩:=iI hl q1
  exact ⟨q2,q3,q4,b,f,q5,q6,q7,q8⟩
 have kl:∀{i ob g},look s.o G i ob g→∃ob' g',look (o1++news) (G1++Gs) i ob' g'∧(ob'.live=true→ob.live=true)∧ob'.ver=ob.ver∧ob'.n=ob.n∧g'.a=g.a∧g'.cap=g.cap∧ob'.els.length=ob.els.length∧ob'.box=ob.box∧
   (i∉u→g'=g∧ob'.live=ob.live):=by
  intro i ob g h
  obtain ⟨ob',g',h'⟩:=aZp (N:=N) (u:=u) h
  rw [ho1,hG1] at h'
  have h'':=kY (o2:=news) (G2:=Gs) h'
  refine ⟨ob',g',h'',?_⟩
  rw [←ho1,←hG1] at h'
  obtain ⟨ob2,g2,h2,hcase⟩:=aNv h'
  obtain ⟨rfl,rfl⟩:=iI h h2
  rcases hcase with ⟨p,hp,rfl,rfl,rfl⟩|⟨hno,rfl,⟨hiu,rfl⟩|⟨hiu,rfl⟩⟩
  ·obtain ⟨b1,b2,b3,_⟩:=boxN hp h
   exact ⟨fun _=>b1,rfl,rfl,rfl,rfl,b3.symm,rfl,fun hn=>absurd (hNu p hp) hn⟩
  ·exact ⟨fun h=>by simp at h,rfl,rfl,rfl,rfl,rfl,rfl,fun hn=>absurd hiu hn⟩
  ·exact ⟨fun h=>by rw [kW] at h;exact h,aJx _ _,aTc _ _,rfl,rfl,aK5 _ _,aI9 _ _,fun _=>⟨rfl,kW _ _⟩⟩
 have notOf:∀{i ob g b},look s.o G i ob g→ob.live=true→g.F b→i∉u→¬Of s.o G u b:=by
  intro i ob g b hl hlive hF hiu hO
  obtain ⟨j,oj,gj,hj,hlj,hjl,hFj⟩:=hO
  exact hiu (rr.apart i j _ _ _ _ b hl hlj hlive hjl hF hFj▸hj)
 have notX:∀{i ob g b},look s.o G i ob g→ob.live=true→g.F b→i∉u→b∉fss'.flatten++fp:=by
  intro i ob g b hl hlive hF hiu hX
  rcases (blk b hX).1 with h|h
  ·exact notOf hl hlive hF hiu h
  ·have:=(rr.fresh _ _ _ b hl hlive hF).2;omega
 have keepF:∀i ob g b,look s.o G i ob g→ob.live=true→g.F b→i∉u→w'.heap[b]? =w.heap[b]?:=fun i ob g b hl hlive hF hiu=>
  hsame b (rr.fresh _ _ _ b hl hlive hF).2 (fun hm=>notOf hl hlive hF hiu (hOf b hm))
 let Er:Env:={env B s.o G w with D:=fun i b=>i∉u∧(env B s.o G w).D i b}
 have rt1:iR (dQ u) true (env B s.o G w) Er (fun _=>True):=by
  refine ⟨fun t e=>by simp [dQ] at e,fun t e=>by simp only [dQ,Option.some.injEq] at e;exact ⟨e.symm,fun b hb=>hb⟩,fun i t e=> ?_,fun _ _ _ _ h=>h,fun _ _ _ _ _ _ h=>h⟩
  simp only [dQ] at e
  split at e
  ·cases e
  ·rename_i hiu
   obtain rfl:=Option.some.inj e
   refine ⟨by simp,?_,fun b hb=>⟨hiu,hb⟩⟩
   by_cases hV:(env B s.o G w).V i
   ·exact .inl hV
   ·exact .inr hV
 have k2:bM w Er w' (env B (o1++news) (G1++Gs) w'):=by
  refine ⟨fun b hb=> ?_,fun i h ob hob=> ?_,fun i b hV h=> ?_,fun i ver x h=> ?_,fun i ver j q x h=> ?_⟩
  ·have hb':(env B s.o G w).A b:=hb
   have hbl:=oG rr hb'
   have hnO:¬Of s.o G u b:=fun ⟨i,ob,g,_,hl,hlive,hF⟩=>hb'.2 i ob g hl hlive hF
   have hnX:b∉fss'.flatten++fp:=fun hX=>by
    rcases (blk b hX).1 with h|h
    ·exact hnO h
    ·omega
   refine ⟨⟨?_,fun i ob' g' hl hlive hF=> ?_⟩,hsame b hbl (fun h=>hnO (hOf b h))⟩
   ·rcases hb'.1 with h|h
    ·exact .inl h
    ·exact .inr ⟨h.1,by omega⟩
   ·rcases lk hl with ⟨j,_,hl2⟩|⟨_,ob,g,hl0,⟨p,hp,rfl,_,rfl⟩|⟨_,rfl,⟨_,rfl⟩|⟨_,rfl⟩⟩⟩
    ·exact hnX (newX (newF hl2 hF))
    ·obtain ⟨b1,b2,b3,b0,f0,b4,b5,b6,_⟩:=boxN hp hl0
     obtain ⟨a0,ha0,rfl⟩:=hF
     rw [b4] at ha0
     obtain rfl:=Option.some.inj ha0
     exact hb'.2 _ ob g hl0 b1 b5
    ·simp at hlive
    ·refine hb'.2 i ob g' hl0 ?_ hF
     rw [kW] at hlive;exact hlive
  ·have hi:i < G.length:=by rw [rr.len];exact (List.getElem?_eq_some_iff.1 hob).1
   obtain ⟨ob',g',hl,h1,_⟩:=kl (i:=i) (ob:=ob) (g:=G[i]) ⟨hob,List.getElem?_eq_getElem hi⟩
   exact h1 (h ob' hl.1)
  ·obtain ⟨hiu,ob,g,hl,hlive,hF,hne⟩:=h
   obtain ⟨ob',g',hl',_,_,_,_,_,_,_,h7⟩:=kl hl
   obtain ⟨rfl,h8⟩:=h7 hiu
   exact ⟨⟨ob',g',hl',by rw [h8];exact hlive,hF,hne⟩,keepF i ob g' b hl hlive hF hiu⟩
  ·obtain ⟨ob,g,hl,hver,hh,hz⟩:=h
   obtain ⟨ob',g',hl',h1,h2,h3,h4,h5,h6,_⟩:=kl hl
   exact ⟨ob',g',hl',by omega,fun hlive hve=>by rw [h4,h5,h6];exact hh (h1 hlive) (by omega),hz⟩
  ·obtain ⟨ob,g,hl,hver,hh,hz⟩:=h
   obtain ⟨ob',g',hl',h1,h2,h3,h4,h5,h6,h8,_⟩:=kl hl
   exact ⟨ob',g',hl',by omega,fun hlive hve=>by rw [h4,h3];exact hh (h1 hlive) (by omega),
    fun e e2 e3 e4 y hy=>⟨(hz (by rw [←h8];exact e) e2 e3 e4 y hy).1,fun hlive hve=>by rw [h5];exact (hz (by rw [←h8];exact e) e2 e3 e4 y hy).2 (h1 hlive) (by omega)⟩⟩
 have tm:Rc w' (env B (o1++news) (G1++Gs) w') (rtc (dQ u) true s.t) a.tmps.toList []:=
  bY k2 _ _ _ (by simp) (nO rt1 _ _ _ (by simp) rr.tmps)
 have kn:∀E':Env,bM w' iK w' E':=fun E'=>⟨fun _ h=>h.elim,fun _ _=>trivial,fun _ _ _ h=>h.elim,fun _ _ _ h=>h.elim,fun _ _ _ _ _ h=>h.elim⟩
 have hfin:=hdone (env B (o1++news) (G1++Gs) w') (kn _) (fun j ob g hl=>by
  obtain ⟨_,_,h3,_⟩:=hobj _ _ _ hl
  refine ⟨ob,g,?_,Nat.le_of_eq h3.symm,fun _ _=>rfl,fun h=>absurd h (by decide)⟩
  have:=mH (o:=o1) (G:=G1) hlG hl
  rwa [hl1] at this)
 obtain ⟨hbx,hres⟩:=hfin
 have rel:bC B ⟨rtc (dQ u) true s.t,o1++news⟩ (G1++Gs) a w':=by
  refine {len:=by simp [hlG,hlen],defs:=rr.defs,ok:= ?_,apart:= ?_,fresh:= ?_,tmps:=tm,size:=Nat.le_trans rr.size hsz,frame:= ?_,base:=rr.base,same:=rr.same.trans hio}
  ·intro i ob' g' hl hlive
   rcases lk hl with ⟨j,_,hl2⟩|⟨_,ob,g,hl0,⟨p,hp,rfl,rfl,rfl⟩|⟨_,rfl,⟨_,rfl⟩|⟨hiu,rfl⟩⟩⟩
   ·obtain ⟨h1,h2,_,f',hown,h3,h4,h5⟩:=hobj _ _ _ hl2
    refine ⟨f',?_,h3,fun b hb=>(h4 b).2 hb⟩
    rw [h2]
    exact hown.keeps (kn _).plain (fun _ _=>rfl)
   ·obtain ⟨b1,b2,b3,b0,f0,b4,b5,b6,_⟩:=boxN hp hl0
    have:=hbx p hp ob g b0 f0 hl0 b4
    refine ⟨[b0],?_,by simp,?_⟩
    ·simp only [b2,Env.of,if_true]
     exact this
    ·intro b hb
     simp only [List.mem_singleton] at hb
     subst hb
     exact ⟨_,b4,rfl⟩
   ·simp at hlive
   ·rw [kW] at hlive
    obtain ⟨fpo,hown,hndo,hFo⟩:=rr.ok i ob g' hl0 hlive
    by_cases hbx:ob.box=true
    ·simp only [hbx,Env.of,if_true] at hown
     obtain ⟨hlen,hown⟩:=hown
     by_cases hall:tC ob.els=true
     ·have hfo:ob.forget u=ob:=by unfold aB.forget;simp [hbx,hall]
      rw [hfo]
      refine ⟨fpo,?_,hndo,hFo⟩
      simp only [hbx,Env.of,if_true]
      refine ⟨hlen,?_⟩
      rcases hown with h|⟨b,off,C,e,fz,fps',ha,hb,hz,h1,h2,h3,rfl,hrr'⟩
      ·exact .inl h
      ·have hbs:=keepF i ob g' b hl0 hlive (hFo b (by simp)) hiu
       exact .inr ⟨b,off,C,e,fz,fps',ha,by rw [hbs];exact hb,hz,h1,h2,h3,rfl,jJ k2 _ _ _ _ _ hbs (fun x hx=>keepF i ob g' x hl0 hlive (hFo x (by simp [hx])) hiu) (aXr hall hrr')⟩
     ·have hfo:ob.forget u={ob with els:=rtr (dQ u) true ob.els}:=by unfold aB.forget;rw [if_pos hbx,if_neg hall]
      rw [hfo]
      rcases hown with ⟨h1,h2,h3⟩|⟨b,off,C,e,fz,fps',ha,hb,hz,h1,h2,h3,rfl,hrr'⟩
      ·exact ⟨[],⟨by simp [jM];exact hlen,.inl ⟨by simp [h1,rtr],h2,rfl⟩⟩,by simp,by simp⟩
      ·have hbF:=hFo b (by simp)
       have hbs:=keepF i ob g' b hl0 hlive hbF hiu
       refine ⟨[b],⟨by simp [jM];exact hlen,.inr ⟨b,off,C,e,fz,[],ha,by rw [hbs];exact hb,hz,h1,by simpa [jM] using h2,h3,rfl,?_⟩⟩,by simp,by simpa using hbF⟩
       simp only [hbx,Env.of,if_true]
       exact jJ k2 _ _ _ _ _ hbs (by simp) (yK rt1 _ _ _ _ _ (by simp) hrr')
    ·have hbx':ob.box=false:=by simpa using hbx
     have hfo:ob.forget u=ob:=by unfold aB.forget;simp [hbx']
     rw [hfo]
     refine ⟨fpo,?_,hndo,hFo⟩
     simp only [hbx',Env.of,Bool.false_eq_true,if_false] at hown⊢
     have kp:bM w (env B s.o G w).plain w' (env B (o1++news) (G1++Gs) w').plain:=k2.plain
     exact hown.keeps kp (fun b hb=>keepF i ob g' b hl0 hlive (hFo b hb) hiu)
  ·-- every object its own blocks
   have cls:∀{i ob' g' b},look (o1++news) (G1++Gs) i ob' g'→ob'.live=true→g'.F b→(∃j,i=s.o.length+j∧look news Gs j ob' g'∧b∈inner++fp)∨
     (i < s.o.length∧∃ob g,look s.o G i ob g∧ob.live=true∧g.F b∧((b∈fss'.flatten∧b∉inner)∨b∉fss'.flatten++fp)):=by
    intro i ob' g' b hl hlive hF
    rcases lk hl with ⟨j,hj,hl2⟩|⟨hi,ob,g,hl0,⟨p,hp,rfl,rfl,rfl⟩|⟨_,rfl,⟨_,rfl⟩|⟨hiu,rfl⟩⟩⟩
    ·exact .inl ⟨j,hj,hl2,newF hl2 hF⟩
    ·obtain ⟨b1,b2,b3,b0,f0,b4,b5,b6,b7⟩:=boxN hp hl0
     obtain ⟨a0,ha0,rfl⟩:=hF
     rw [b4] at ha0
     obtain rfl:=Option.some.inj ha0
     exact .inr ⟨hi,ob,g,hl0,b1,b5,.inl ⟨b6,b7⟩⟩
    ·simp at hlive
    ·rw [kW] at hlive
     exact .inr ⟨hi,ob,g',hl0,hlive,hF,.inr (notX hl0 hlive hF hiu)⟩
   have mixed:∀{b},b∈inner++fp→((b∈fss'.flatten∧b∉inner)∨b∉fss'.flatten++fp)→False:=by
    rintro b hb (⟨h1,h2⟩|h)
    ·rcases List.mem_append.1 hb with h|h
     ·exact h2 h
     ·exact hnd2.2.2 b h1 b h rfl
    ·exact h (newX hb)
   intro i j oi oj gi gj b hi hj hil hjl hfi hfj
   rcases cls hi hil hfi with ⟨i',rfl,hi',hbi⟩|⟨hil',ob1,g1,hl1,hlv1,hF1,hc1⟩<;>rcases cls hj hjl hfj with ⟨j',rfl,hj',hbj⟩|⟨hjl',ob2,g2,hl2,hlv2,hF2,hc2⟩
   ·rw [hap _ _ _ _ _ _ b hi' hj' hfi hfj]
   ·exact (mixed hbi hc2).elim
   ·exact (mixed hbj hc1).elim
   ·exact rr.apart _ _ _ _ _ _ b hl1 hl2 hlv1 hlv2 hF1 hF2
  ·intro i ob' g' b hl hlive hF
   have ofX:b∈fss'.flatten++fp→(B.O0 b∨B.w0.heap.size≤b)∧b < w'.heap.size:=fun hX=>by
    obtain ⟨h1,h2⟩:=blk b hX
    refine ⟨?_,h2⟩
    rcases h1 with ⟨j,oj,gj,_,hlj,hjl,hFj⟩|h
    ·exact (rr.fresh _ _ _ b hlj hjl hFj).1
    ·exact .inr (Nat.le_trans rr.size h)
   rcases lk hl with ⟨j,hj,hl2⟩|⟨hi,ob,g,hl0,⟨p,hp,rfl,rfl,rfl⟩|⟨_,rfl,⟨_,rfl⟩|⟨hiu,rfl⟩⟩⟩
   ·exact ofX (newX (newF hl2 hF))
   ·obtain ⟨b1,b2,b3,b0,f0,b4,b5,b6,b7⟩:=boxN hp hl0
    obtain ⟨a0,ha0,rfl⟩:=hF
    rw [b4] at ha0
    obtain rfl:=Option.some.inj ha0
    exact ofX (List.mem_append_left _ b6)
   ·simp at hlive
   ·rw [kW] at hlive
    have:=rr.fresh _ _ _ b hl0 hlive hF
    exact ⟨this.1,by omega⟩
  ·intro b hb hO
   rw [←rr.frame b hb hO]
   refine hsame b (Nat.lt_of_lt_of_le hb rr.size) (fun hm=> ?_)
   obtain ⟨j,oj,gj,_,hlj,hjl,hFj⟩:=hOf b hm
   rcases (rr.fresh _ _ _ b hlj hjl hFj).1 with h|h
   ·exact hO h
   ·omega
 exact ⟨_,rel.put dst hres⟩
end
end Go.Aw

namespace Go.Aw
mutual
def frz (i ver : Nat) (y : AV) : AV → AV
  | .obj j v => if j = i ∧ v = ver then y else .obj j v
  | .agg c => .agg (aDx i ver y c)
  | .tup c => .tup (aDx i ver y c)
  | x => x
def aDx (i ver : Nat) (y : AV) : List AV → List AV
  | [] => []
  | x :: xs => frz i ver y x :: aDx i ver y xs
end
def aDq (i ver:Nat) (y:AV):List (List AV)→List (List AV)
 |[]=>[]
 |e::es=>aDx i ver y e::aDq i ver y es
theorem yL (i ver:Nat) (y:AV):∀l,(aDq i ver y l).length=l.length
 |[]=>rfl
 |_::l=>by simp [aDq,yL i ver y l]
def aB.frz (i ver:Nat) (y:AV) (ob:aB):aB:=if ob.box=true then {ob with els:=aDq i ver y ob.els} else ob
def aCj (i ver:Nat) (y:AV):Nat→List aB→List aB
 |_,[]=>[]
 |k,ob::r=>(if k=i then ob.kill else ob.frz i ver y)::aCj i ver y (k+1) r
theorem aIv (i ver:Nat) (y:AV):∀(o:List aB) (k j:Nat),(aCj i ver y k o)[j]? =(o[j]?).map fun ob=>if k+j=i then ob.kill else ob.frz i ver y
 |[],_,_=>by simp [aCj]
 |ob::r,k,0=>by simp [aCj]
 |ob::r,k,j+1=>by
  simp only [aCj,List.getElem?_cons_succ]
  rw [aIv i ver y r (k+1) j,show k+1+j=k+(j+1) by omega]
theorem aH3 (i ver:Nat) (y:AV):∀(o:List aB) (k:Nat),(aCj i ver y k o).length=o.length
 |[],_=>rfl
 |ob::r,k=>by simp [aCj,aH3 i ver y r]
def AS.frozen (s:AS) (i ver:Nat) (ob:aB):AS:=
 ⟨aDx i ver (.sl .view ob.n (rtr (fun _=>some .view) false ob.els)) s.t,aCj i ver (.sl .view ob.n (rtr (fun _=>some .view) false ob.els)) 0 s.o⟩
mutual
theorem bGl {w : World} {E E' : Env} {i ver : Nat} {y : AV} (k : bM w E w E') (hy : ∀ v, E.H i ver v → R w E' y v []) : ∀ (x : AV) (v : Value) (fp : List Nat), R w E x v fp → R w E' (frz i ver y x) v fp
  | .obj j u, v, fp, h => by
    simp only [frz]
    split
    · rename_i e
      obtain ⟨rfl, rfl⟩ := e
      simp only [R] at h
      obtain ⟨rfl, h⟩ := h
      exact hy v h
    · exact lL k _ _ _ (fun _ _ => rfl) h
  | .agg c, v, fp, h => by
    simp only [R, frz] at h ⊢
    obtain ⟨cs, h1, h2, h3⟩ := h
    exact ⟨cs, h1, h2, aFu k hy c cs fp h3⟩
  | .tup c, v, fp, h => by
    simp only [R, frz] at h ⊢
    obtain ⟨cs, h1, h3⟩ := h
    exact ⟨cs, h1, aFu k hy c cs fp h3⟩
  | .int _ _, v, fp, h => by simp only [frz]; exact lL k _ _ _ (fun _ _ => rfl) h
  | .bool _, v, fp, h => by simp only [frz]; exact lL k _ _ _ (fun _ _ => rfl) h
  | .str _, v, fp, h => by simp only [frz]; exact lL k _ _ _ (fun _ _ => rfl) h
  | .sl _ _ _, v, fp, h => by simp only [frz]; exact lL k _ _ _ (fun _ _ => rfl) h
  | .vptr _ _ _, v, fp, h => by simp only [frz]; exact lL k _ _ _ (fun _ _ => rfl) h
  | .ptr _ _ _ _, v, fp, h => by simp only [frz]; exact lL k _ _ _ (fun _ _ => rfl) h
  | .fn _ _, v, fp, h => by simp only [frz]; exact lL k _ _ _ (fun _ _ => rfl) h
  | .undef, v, fp, h => by simp only [frz]; exact lL k _ _ _ (fun _ _ => rfl) h
theorem aFu {w : World} {E E' : Env} {i ver : Nat} {y : AV} (k : bM w E w E') (hy : ∀ v, E.H i ver v → R w E' y v []) : ∀ (c : List AV) (cs : List Value) (fp : List Nat), Rc w E c cs fp → Rc w E' (aDx i ver y c) cs fp
  | [], [], _, h => by simpa [Rc, aDx] using h
  | [], _ :: _, _, h => by simp [Rc] at h
  | _ :: _, [], _, h => by simp [Rc] at h
  | x :: xs, c :: cs, fp, h => by
    simp only [Rc, aDx] at h ⊢
    obtain ⟨f1, f2, h1, h2, h3⟩ := h
    exact ⟨f1, f2, bGl k hy x c f1 h1, aFu k hy xs cs f2 h2, h3⟩
end
theorem aYr {w:World} {E E':Env} {i ver:Nat} {y:AV} (k:bM w E w E') (hy:∀v,E.H i ver v→R w E' y v []):∀(l:List (List AV)) (b off n:Nat) (fp:List Nat),Rr w E l b off n fp→Rr w E' (aDq i ver y l) b off n fp
 |[],_,_,_,_,h=>by simpa [Rr,aDq] using h
 |e::es,b,off,n,fp,h=>by
  simp only [Rr,aDq] at h⊢
  obtain ⟨cs,f1,f2,h1,h2,h3,h4,h5,h6⟩:=h
  exact ⟨cs,f1,f2,h1,h2,h3,aFu k hy e cs f1 h4,aYr k hy es b (off+n) n f2 h5,h6⟩
theorem bD8 {P:Program} [aA P] {B:Base P} {s:AS} {a:Act} {w:World} {i ver:Nat} {ob:aB} (hob:AV.isObj s.o i ver=some ob) (hbox:ob.box=false) (hr:Rel B s a w):Rel B (s.frozen i ver ob) a w:=by
 obtain ⟨G,r⟩:=hr
 obtain ⟨h1,h2,h3⟩:=iW hob
 generalize hyy:AV.sl .view ob.n (rtr (fun _=>some .view) false ob.els)=y
 generalize ho':aCj i ver y 0 s.o=o'
 have back:∀{j ob' g},look o' G j ob' g→∃ob0,look s.o G j ob0 g∧((j=i∧ob'=ob0.kill)∨(j≠i∧ob'=ob0.frz i ver y)):=by
  rintro j ob' g ⟨e1,e2⟩
  rw [←ho',aIv,Nat.zero_add] at e1
  cases hx:s.o[j]? with
  |none=>rw [hx] at e1;cases e1
  |some ob0=>
   rw [hx] at e1
   simp only [Option.map_some,Option.some.injEq] at e1
   refine ⟨ob0,⟨hx,e2⟩,?_⟩
   by_cases hj:j=i
   ·rw [if_pos hj] at e1;exact .inl ⟨hj,e1.symm⟩
   ·rw [if_neg hj] at e1;exact .inr ⟨hj,e1.symm⟩
 have forth:∀{j ob0 g},look s.o G j ob0 g→look o' G j (if j=i then ob0.kill else ob0.frz i ver y) g:=by
  rintro j ob0 g ⟨e1,e2⟩
  refine ⟨?_,e2⟩
  rw [←ho',aIv,Nat.zero_add,e1];rfl
 have fz:∀ob0:aB,(ob0.frz i ver y).live=ob0.live∧(ob0.frz i ver y).box=ob0.box∧(ob0.frz i ver y).n=ob0.n∧(ob0.frz i ver y).ver=ob0.ver∧(ob0.frz i ver y).els.length=ob0.els.length:=by
  intro ob0;unfold aB.frz;split<;>simp [yL]
 have k:bM w (env B s.o G w) w (env B o' G w):=by
  refine zA (Nat.le_refl _) (fun b hb=>⟨oG r hb,rfl⟩) r.len ?_ ?_
  ·intro j ob0 g hl
   have hf:=fz ob0
   by_cases hj:j=i
   ·refine ⟨_,g,forth hl,?_⟩
    rw [if_pos hj]
    refine ⟨Nat.le_refl _,fun hb=> .inl hb,fun hlv=> ?_⟩
    simp [aB.kill] at hlv
   ·refine ⟨_,g,forth hl,?_⟩
    rw [if_neg hj]
    exact ⟨by rw [hf.2.2.2.1];exact Nat.le_refl _,fun hb=> .inl (by rw [←hf.2.1];exact hb),fun hlv=>⟨by rw [←hf.1];exact hlv,hf.2.2.1,fun _=>⟨rfl,rfl,hf.2.2.2.2⟩,fun b hb hne=>⟨hb,hne,rfl⟩⟩⟩
  ·intro j ob' g b hl hlv hF
   obtain ⟨ob0,hl0,h⟩:=back hl
   rcases h with ⟨_,rfl⟩|⟨_,rfl⟩
   ·simp [aB.kill] at hlv
   ·exact .inr ⟨j,ob0,g,hl0,by rw [←(fz ob0).1];exact hlv,hF⟩
 have hy:∀v,(env B s.o G w).H i ver v→R w (env B o' G w) y v []:=by
  intro v hv
  obtain ⟨ob1,g,hl,_,hh,_⟩:=hv
  obtain rfl:=Option.some.inj (hl.1.symm.trans h1)
  have hv:=hh h2 h3
  obtain ⟨fp,⟨hlen,hown⟩,hnd,hF⟩:=r.ok i _ g hl h2
  rw [hbox] at hown
  rw [←hyy]
  simp only [R,jM]
  refine .inr ⟨g.a,g.cap,hv,⟨hlen,by rcases hown with h|⟨_,_,_,_,_,_,_,_,_,_,h,_⟩;simp [h.1];exact h⟩,.inr (.inr ⟨by simp,trivial,?_⟩)⟩
  rcases hown with ⟨h5,_⟩|⟨b,off,C,e,fz',fps,ha,hbk,hz,k1,k2,k3,rfl,hrr⟩
  ·left;rw [h5];rfl
  ·right
   have hA:∀x,g.F x→(env B o' G w).A x:=by
    intro x hx
    have hfr:=r.fresh _ _ _ x hl h2 hx
    refine ⟨hfr.1.elim (fun h=> .inl (B.gA x h)) (fun h=> .inr ⟨h,hfr.2⟩),fun j ob' g' hl' hlv hF'=> ?_⟩
    obtain ⟨ob0,hl0,h⟩:=back hl'
    rcases h with ⟨_,rfl⟩|⟨hj,rfl⟩
    ·simp [aB.kill] at hlv
    ·exact hj (r.apart j i _ _ _ _ x hl0 hl (by rw [←(fz ob0).1];exact hlv) h2 hF' hx)
   have rt:iR (fun _=>some .view) false (env B s.o G w).plain (env B o' G w).plain g.F:=
    {own:=fun t e=>by obtain rfl:=Option.some.inj e;exact ⟨by simp,fun b hb=>hA b hb⟩
     view:=fun t e=>by obtain rfl:=Option.some.inj e;exact ⟨rfl,fun b hb=>(k.a b hb).1⟩
     dep:=fun j t e=>by obtain rfl:=Option.some.inj e;exact ⟨by simp,.inl trivial,fun b hb=>hb.elim⟩
     hh:=fun h=>by cases h
     hl:=fun h=>by cases h}
   exact ⟨b,off,ha,hA b (hF b (by simp)),yK rt _ _ _ _ fps (fun x hx=>hF x (by simp [hx])) hrr⟩
 refine ⟨G,{len:= ?_,defs:=r.defs,ok:= ?_,apart:= ?_,fresh:= ?_,tmps:= ?_,size:=r.size,frame:=r.frame,base:=r.base,same:=r.same}⟩
 ·simp only [AS.frozen,aH3];exact r.len
 ·simp only [AS.frozen,hyy,ho']
  intro j ob' g hl hlv
  obtain ⟨ob0,hl0,h⟩:=back hl
  rcases h with ⟨_,rfl⟩|⟨hj,rfl⟩
  ·simp [aB.kill] at hlv
  obtain ⟨fp,hown,hnd,hF⟩:=r.ok j _ g hl0 (by rw [←(fz ob0).1];exact hlv)
  refine ⟨fp,?_,hnd,hF⟩
  cases hb0:ob0.box with
  |false=>
   have e:ob0.frz i ver y=ob0:=by unfold aB.frz;rw [if_neg (by simp [hb0])]
   rw [e]
   rw [hb0] at hown⊢
   exact hown.keeps k.plain (fun _ _=>rfl)
  |true=>
   have e:ob0.frz i ver y={ob0 with els:=aDq i ver y ob0.els}:=by unfold aB.frz;rw [if_pos hb0]
   rw [e]
   simp only [hb0] at hown⊢
   simp only [Env.of,if_true] at hown⊢
   obtain ⟨hlen,hown⟩:=hown
   refine ⟨by rw [yL];exact hlen,?_⟩
   rcases hown with h|⟨b,off,C,e,fz',fps,ha,hbk,hz,k1,k2,k3,rfl,hrr⟩
   ·exact .inl ⟨by rw [h.1];rfl,h.2⟩
   ·exact .inr ⟨b,off,C,e,fz',fps,ha,hbk,hz,k1,by rw [yL];exact k2,k3,rfl,aYr k hy _ _ _ _ _ hrr⟩
 ·simp only [AS.frozen,hyy,ho']
  intro p q op oq gp gq b hp hq hlp hlq hFp hFq
  obtain ⟨op0,hp0,h⟩:=back hp
  obtain ⟨oq0,hq0,h'⟩:=back hq
  rcases h with ⟨_,rfl⟩|⟨_,rfl⟩
  ·simp [aB.kill] at hlp
  rcases h' with ⟨_,rfl⟩|⟨_,rfl⟩
  ·simp [aB.kill] at hlq
  exact r.apart p q _ _ _ _ b hp0 hq0 (by rw [←(fz op0).1];exact hlp) (by rw [←(fz oq0).1];exact hlq) hFp hFq
 ·simp only [AS.frozen,hyy,ho']
  intro j ob' g b hl hlv hF
  obtain ⟨ob0,hl0,h⟩:=back hl
  rcases h with ⟨_,rfl⟩|⟨_,rfl⟩
  ·simp [aB.kill] at hlv
  exact r.fresh j _ g b hl0 (by rw [←(fz ob0).1];exact hlv) hF
 ·simp only [AS.frozen,hyy,ho']
  exact aFu k hy _ _ _ r.tmps
def bAo (P:Program) [aA P] (o:Oper) (s:AS) (K:AS→Prop):Prop:=
 match o.op with
 | .slice _ x _ _ none=>match s.ev x with
  | .obj i ver=>match AV.isObj s.o i ver with
   |some ob=>ob.box=false∧aop P o (s.frozen i ver ob) K
   |none=>False
  |_=>False
 |_=>False
attribute [simp] frz aDx aDq aCj aB.frz AS.frozen
end Go.Aw
