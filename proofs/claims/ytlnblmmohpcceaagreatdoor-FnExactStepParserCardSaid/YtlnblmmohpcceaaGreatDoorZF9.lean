/- Proved here: steps towards the statement of this claim. No condition. -/
import Derived.Test.YtlnblmmohpcceaaGreatDoorZF2
set_option linter.all false
namespace Go.Aw
open List
def rowOf (o:List aG) (i:Nat):List AV:=match o[i]? with
 |some ob=>ob.dK.headD []
 |none=>[]
def Qx (o:List aG):AV->List Nat
 | .ptr i _ _ _=>i::iR (rowOf o i)
 |_=>[]
def takes (o:List aG):List AV->List GA->List Nat
 |x::xs,.view _::gs=>takes o xs gs
 |x::xs,.mE _::gs=>lI x++takes o xs gs
 |x::xs,.pX _ _::gs=>Qx o x++takes o xs gs
 |_,_=>[]
def aB0 (o:List aG) (c:List AV):AV->Prop
 | .ptr i bN 0 0=>∃ob,AV.isObj o i bN=some ob/\ob.box=true/\∃cells,ob.dK=[cells]/\kV o cells=true/\qQ o cells=c
 |_=>False
def handed (o:List aG) (u:List Nat):List AV->List GA->Prop
 |[],[]=>True
 |x::xs,.view y::gs=>Ms u x=true/\arg o x=y/\handed o u xs gs
 |x::xs,.mE y::gs=>iT o x=true/\res o x=y/\handed o u xs gs
 |x::xs,.pX c _::gs=>aB0 o c x/\handed o u xs gs
 |_,_=>False
def Xz (o:List aG) (G:List CO) (c:List AV) (v:Value) (cap:Nat):AV->Prop
 | .ptr i _ _ _=>∃ob g b f,look o G i ob g/\ob.live=true/\ob.box=true/\ob.n=c.length/\ob.dK.length=1/\g.a=some ⟨b,f,none⟩/\v= .pointer (some ⟨b,f,none⟩)/\g.F b/\g.cap=cap
 |_=>False
def mY (o:List aG) (G:List CO):List AV->List GA->List Value->List Nat->Prop
 |[],[],[],[]=>True
 |x::xs,.pX c _::gs,v::vs,cap::gX=>Xz o G c v cap x/\mY o G xs gs vs gX
 |x::xs,.view _::gs,v::vs,cap::gX=>mY o G xs gs vs gX
 |x::xs,.mE _::gs,v::vs,cap::gX=>mY o G xs gs vs gX
 |_,_,_,_=>False
section
variable {P : Program} [aD P] {B : fG P} {s : AS} {G : List CO} {a : Act} {w : World}
theorem Gi (r:dN B s G a w) {u1 u2:List Nat} (hd:∀i∈u1,∀j∈u2,i≠j) {b:Nat} (h1:Of s.o G u1 b) (h2:Of s.o G u2 b):False:=by
 obtain ⟨i,ob,g,hi,hl,hlive,hF⟩:=h1
 obtain ⟨j,dY,g',hj,zS,uC,PR⟩:=h2
 exact hd i hi j hj (r.apart i j _ _ _ _ b hl zS hlive uC hF PR)
theorem zW {o:List aG} {u1 u2:List Nat} (h:∀i∈u1,i∈u2) {b:Nat} (h1:Of o G u1 b):Of o G u2 b:=by
 obtain ⟨i,ob,g,hi,k⟩:=h1
 exact ⟨i,ob,g,h i hi,k⟩
theorem Qy (r:dN B s G a w) {Z:Nat->Prop} {U:List Nat} (hZ:∀b,Z b->Of s.o G U b):dU w (env B s.o G w).plain w (oD w Z):=
 ⟨fun b hb=>⟨Uw r hZ hb,rfl⟩,fun _ _=>trivial,fun _ _ _ h=>h.elim,fun _ _ _ h=>h.elim,fun _ _ _ _ _ h=>h.elim⟩
theorem XA (r:dN B s G a w) {c:List AV} {x:AV} {v:Value} (h:aB0 s.o c x) (hx:R w (env B s.o G w) x v [])
  {us:List Nat} (PV:Qx s.o x=us) (hnd:us.Nodup):
  ∃fp cap,fp.Nodup/\(∀b∈fp,Of s.o G us b)/\Xz s.o G c v cap x/\∀c' Z U,(∀b,Z b->Of s.o G U b)->RG w Z (.pX c c') v fp cap:=by
 unfold aB0 at h
 split at h
 ·rename_i i bN
  obtain ⟨ob,uW,rY,cells,hels,uX,jD⟩:=h
  obtain ⟨h1,h2,h3⟩:=jG uW
  simp only [R] at hx
  obtain ⟨_,dY,g,hl,_,hh,_⟩:=hx
  obtain rfl:=Option.some.inj (hl.1.symm.trans h1)
  obtain ⟨b,f,hga,hv⟩:=hh h2 h3
  have xx:rowOf s.o i=cells:=by simp [rowOf,h1,hels]
  simp only [Qx,xx] at PV
  subst PV
  simp only [nodup_cons] at hnd
  obtain ⟨fp0,⟨hlen,hown⟩,Fe,Ll⟩:=r.ok i _ g hl h2
  rw [hels] at hown
  simp only [rY,Env.of,if_true] at hown
  rcases hown with ⟨h5,_⟩|⟨b',f',C,ty,fz,nQ,tZ,hbk,hz,k1,k2,k3,rfl,hr⟩
  ·cases h5
  ·rw [hga] at tZ
   simp only [Option.some.injEq,Addr.mk.injEq,and_true] at tZ
   obtain ⟨rfl,rfl⟩:=tZ
   simp only [Rr] at hr
   obtain ⟨cs,f1,f2,hn,hc,hone,rW,rfl,e⟩:=hr
   have e:nQ=f1:=by simpa using e
   subst e
   simp only [nodup_cons] at Fe
   obtain ⟨wV,q1,q2,q3⟩:=Gh r hl h2 cells cs nQ uX hnd.2 hnd.1 Fe.2 (fun x hx=>Ll x (by simp [hx])) rW
   have Qs:g.F b:=Ll b (by simp)
   have PS:b∉wV:=fun hb=>by
    rcases q3 b hb with h|h
    ·exact Fe.1 h
    ·obtain ⟨j,oj,gj,hj,hlj,hjl,OX⟩:=h
     have:=r.apart i j _ _ _ _ b hl hlj h2 hjl Qs OX
     exact hnd.1 (this▸hj)
   have wU:cells.length=dY.n:=by have:=fB rW;omega
   have OZ:c.length=dY.n:=by rw [<-jD,<-wU];clear q1 uX jD;induction cells with
    |nil=>rfl
    |cons _ _ _=>simp [qQ,CK]
   refine ⟨b::wV,g.cap,nodup_cons.2 ⟨PS,q2⟩,?_,?_,?_⟩
   ·intro x hx
    rcases mem_cons.1 hx with rfl|hx
    ·exact ⟨i,dY,g,by simp,hl,h2,Qs⟩
    ·rcases q3 x hx with h|h
     ·exact ⟨i,dY,g,by simp,hl,h2,Ll x (by simp [h])⟩
     ·exact zW (fun j hj=>by simp [hj]) h
   ·exact ⟨dY,g,b,f,hl,h2,rY,OZ.symm,by rw [hels];rfl,hga,by simpa using hv,Qs,rfl⟩
   ·intro c' Z U hZ
    simp only [RG]
    refine ⟨b,f,by simpa using hv,by simp [maxLen],.inr ⟨b,f,C,ty,fz,wV,rfl,hbk,by rw [OZ];exact hz,by rw [OZ];exact k1,by simpa using k2,k3,rfl,?_⟩⟩
    simp only [Rr]
    refine ⟨cs,wV,[],by rw [OZ];exact hn,hc,hone,?_,rfl,by simp⟩
    rw [<-jD]
    exact dF (Qy r hZ) _ _ _ (fun _ _=>rfl) q1
 ·exact h.elim
theorem xR (r:dN B s G a w) {U:List Nat}:∀(xs:List AV) (gs:List GA) (vs:List Value),handed s.o U xs gs->(takes s.o xs gs).Nodup->(∀i∈takes s.o xs gs,i∈U)->Rc w (env B s.o G w) xs vs []->
  ∃qC gX,qC.flatten.Nodup/\(∀b∈qC.flatten,Of s.o G (takes s.o xs gs) b)/\mY s.o G xs gs vs gX/\∀Z,(∀b,Z b->Of s.o G U b)->BB w Z gs vs qC gX
 |[],[],[],_,_,_,_=>⟨[],[],by simp,by simp,by simp [mY],fun _ _=>by simp [BB]⟩
 |[],[],_::_,_,_,_,h=>by simp [Rc] at h
 |[],_::_,_,h,_,_,_=>by simp [handed] at h
 |_::_,[],_,h,_,_,_=>by simp [handed] at h
 |_::_,_::_,[],_,_,_,h=>by simp [Rc] at h
 |x::xs,.view y::gs,v::vs,h,hn,hu,hr=>by
  simp only [handed] at h
  obtain ⟨h1,h2,h3⟩:=h
  simp only [Rc] at hr
  obtain ⟨f1,f2,hr1,Re,e⟩:=hr
  obtain ⟨rfl,rfl⟩:f1=[]/\f2=[]:=by simpa using e
  simp only [takes] at hn hu⊢
  obtain ⟨qC,gX,q1,q2,q3,q4⟩:=xR r xs gs vs h3 hn hu Re
  refine ⟨[]::qC,0::gX,by simpa using q1,by simpa using q2,by simpa [mY] using q3,fun Z hZ=> ?_⟩
  simp only [BB,RG]
  refine ⟨⟨trivial,?_⟩,q4 Z hZ⟩
  rw [<-h2]
  exact xq r hZ x v h1 hr1
 |x::xs,.mE y::gs,v::vs,h,hn,hu,hr=>by
  simp only [handed] at h
  obtain ⟨h1,h2,h3⟩:=h
  simp only [Rc] at hr
  obtain ⟨f1,f2,hr1,Re,e⟩:=hr
  obtain ⟨rfl,rfl⟩:f1=[]/\f2=[]:=by simpa using e
  simp only [takes,nodup_append] at hn hu⊢
  obtain ⟨qC,gX,q1,q2,q3,q4⟩:=xR r xs gs vs h3 hn.2.1 (fun i hi=>hu i (by simp [hi])) Re
  obtain ⟨fp,p1,p2,p3⟩:=JO r x v h1 hn.1 hr1
  refine ⟨fp::qC,0::gX,?_,?_,by simpa [mY] using q3,fun Z hZ=> ?_⟩
  ·simp only [flatten_cons,nodup_append]
   refine ⟨p2,q1,fun b hb b' hb' e=> ?_⟩
   subst e
   exact Gi r (fun i hi j hj=>hn.2.2 i hi j hj) (p3 b hb) (q2 b hb')
  ·intro b hb
   simp only [flatten_cons,mem_append] at hb
   rcases hb with hb|hb
   ·exact zW (fun i hi=>by simp [hi]) (p3 b hb)
   ·exact zW (fun i hi=>by simp [hi]) (q2 b hb)
  ·simp only [BB,RG]
   refine ⟨?_,q4 Z hZ⟩
   rw [<-h2]
   exact nK (Qy r hZ) _ _ _ (fun _ _=>rfl) p1
 |x::xs,.pX c c'::gs,v::vs,h,hn,hu,hr=>by
  simp only [handed] at h
  obtain ⟨h1,h3⟩:=h
  simp only [Rc] at hr
  obtain ⟨f1,f2,hr1,Re,e⟩:=hr
  obtain ⟨rfl,rfl⟩:f1=[]/\f2=[]:=by simpa using e
  simp only [takes] at hn hu⊢
  generalize PV:Qx s.o x=us at hn hu⊢
  simp only [nodup_append] at hn
  obtain ⟨qC,gX,q1,q2,q3,q4⟩:=xR r xs gs vs h3 hn.2.1 (fun i hi=>hu i (by simp [hi])) Re
  obtain ⟨fp,cap,p1,p2,p3,p4⟩:=XA r h1 hr1 PV hn.1
  refine ⟨fp::qC,cap::gX,?_,?_,by simp only [mY];exact ⟨p3,q3⟩,fun Z hZ=> ?_⟩
  ·simp only [flatten_cons,nodup_append]
   refine ⟨p1,q1,fun b hb b' hb' e=> ?_⟩
   subst e
   exact Gi r (fun i hi j hj=>hn.2.2 i hi j hj) (p2 b hb) (q2 b hb')
  ·intro b hb
   simp only [flatten_cons,mem_append] at hb
   rcases hb with hb|hb
   ·exact zW (fun i hi=>by simp [hi]) (p2 b hb)
   ·exact zW (fun i hi=>by simp [hi]) (q2 b hb)
  ·simp only [BB]
   exact ⟨p4 c' Z U hZ,q4 Z hZ⟩
end
def Fh:Nat->List GA->List aG
 |_,[]=>[]
 |k,.pX _ c'::gs=>(dX 1 k c').2++Fh (k+(dX 1 k c').2.length) gs
 |k,.view _::gs=>Fh k gs
 |k,.mE _::gs=>Fh k gs
def Ay:Nat->List AV->List GA->List (Nat×List (List AV))
 |k,x::xs,.pX _ c'::gs=>(match x with
  | .ptr i _ _ _=>[(i,[(dX 1 k c').1])]
  |_=>[])++Ay (k+(dX 1 k c').2.length) xs gs
 |k,_::xs,.view _::gs=>Ay k xs gs
 |k,_::xs,.mE _::gs=>Ay k xs gs
 |_,_,_=>[]
def aG.Zn (ob:aG) (N:List (Nat×List (List AV))) (u:List Nat) (i:Nat):aG:=
 match N.find? (fun p=>p.1 == i) with
 |some p=>{ob with dK:=p.2}
 |none=>if u.contains i=true then {ob with live:=false} else ob.forget u
def Ck (N:List (Nat×List (List AV))) (u:List Nat):Nat->List aG->List aG
 |_,[]=>[]
 |i,ob::r=>ob.Zn N u i::Ck N u (i+1) r
theorem Qz (N:List (Nat×List (List AV))) (u:List Nat):∀(o:List aG) (k i:Nat),(Ck N u k o)[i]? =(o[i]?).map fun ob=>ob.Zn N u (k+i)
 |[],_,_=>by simp [Ck]
 |ob::r,k,0=>by simp [Ck]
 |ob::r,k,i+1=>by
  simp only [Ck,getElem?_cons_succ]
  rw [Qz N u r (k+1) i,show k+1+i=k+(i+1) by omega]
theorem BC (N:List (Nat×List (List AV))) (u:List Nat):∀(o:List aG) (k:Nat),(Ck N u k o).length=o.length
 |[],_=>rfl
 |g::r,k=>by simp [Ck,BC N u r]
def Eu (N:List (Nat×List (List AV))):Nat->List CO->List CO
 |_,[]=>[]
 |i,g::r=>(match N.find? (fun p=>p.1 == i) with
  |some _=>{g with F:=fun b=>∃a,g.a=some a/\b=a.block}
  |none=>g)::Eu N (i+1) r
theorem QA (N:List (Nat×List (List AV))):∀(G:List CO) (k i:Nat),(Eu N k G)[i]? =(G[i]?).map fun g=>match N.find? (fun p=>p.1 == k+i) with
  |some _=>{g with F:=fun b=>∃a,g.a=some a/\b=a.block}
  |none=>g
 |[],_,_=>by simp [Eu]
 |g::r,k,0=>by simp [Eu]
 |g::r,k,i+1=>by
  simp only [Eu,getElem?_cons_succ]
  rw [QA N r (k+1) i,show k+1+i=k+(i+1) by omega]
theorem BD (N:List (Nat×List (List AV))):∀(o:List CO) (k:Nat),(Eu N k o).length=o.length
 |[],_=>rfl
 |g::r,k=>by simp [Eu,BD N r]
theorem QB {o:List aG} {G:List CO} {N:List (Nat×List (List AV))} {u:List Nat} {i:Nat} {dY:aG} {g':CO} (h:look (Ck N u 0 o) (Eu N 0 G) i dY g'):
  ∃ob g,look o G i ob g/\((∃p∈N,p.1=i/\dY={ob with dK:=p.2}/\g'={g with F:=fun b=>∃a,g.a=some a/\b=a.block})\/
   ((∀p∈N,p.1≠i)/\g'=g/\((i∈u/\dY={ob with live:=false})\/(i∉u/\dY=ob.forget u)))):=by
 obtain ⟨h1,h2⟩:=h
 rw [Qz,Nat.zero_add] at h1
 rw [QA,Nat.zero_add] at h2
 cases ho:o[i]? with
 |none=>simp [ho] at h1
 |some ob=>
  cases hg:G[i]? with
  |none=>simp [hg] at h2
  |some g=>
   rw [ho] at h1;rw [hg] at h2
   simp only [Option.map_some,Option.some.injEq] at h1 h2
   refine ⟨ob,g,⟨ho,hg⟩,?_⟩
   unfold aG.Zn at h1
   cases hf:N.find? (fun p=>p.1 == i) with
   |some p=>
    rw [hf] at h1 h2
    left
    exact ⟨p,mem_of_find?_eq_some hf,by have:=find?_some hf;simpa using this,h1.symm,h2.symm⟩
   |none=>
    rw [hf] at h1 h2
    right
    refine ⟨fun p hp e=> ?_,h2.symm,?_⟩
    ·have:=find?_eq_none.1 hf p hp
     simp [e] at this
    ·simp only at h1
     by_cases hiu:i∈u
     ·rw [if_pos (by simpa using hiu)] at h1;exact .inl ⟨hiu,h1.symm⟩
     ·rw [if_neg (by simpa using hiu)] at h1;exact .inr ⟨hiu,h1.symm⟩
theorem cu {o:List aG} {G:List CO} {N:List (Nat×List (List AV))} {u:List Nat} {i:Nat} {ob:aG} {g:CO} (h:look o G i ob g):
  ∃dY g',look (Ck N u 0 o) (Eu N 0 G) i dY g':=by
 have h1:=(List.getElem?_eq_some_iff.1 h.1).1
 have h2:=(List.getElem?_eq_some_iff.1 h.2).1
 exact ⟨_,_,getElem?_eq_getElem (by rw [BC];exact h1),getElem?_eq_getElem (by rw [BD];exact h2)⟩
theorem xS {w:World} {s:AS} {G:List CO}:∀(xs:List AV) (gs:List GA) (vs:List Value) (qC:List (List Nat)) (gX:List Nat) (k:Nat),mY s.o G xs gs vs gX->OY w gs vs qC gX->qC.flatten.Nodup->
  ∃inner,inner.Nodup/\(∀b∈inner,b∈qC.flatten)/\
   (∀p∈Ay k xs gs,∃ob g b f,look s.o G p.1 ob g/\ob.live=true/\ob.box=true/\ob.dK.length=p.2.length/\g.a=some ⟨b,f,none⟩/\g.F b/\b∈qC.flatten/\b∉inner)/\
   jJ 1 w jU k (Fh k gs) inner (fun E'=>∀p∈Ay k xs gs,∀ob g b f,look s.o G p.1 ob g->g.a=some ⟨b,f,none⟩->rV w E' ob.n p.2 g.a g.cap [b])
 |[],[],[],[],[],k,_,_,_=>⟨[],by simp,by simp,by simp [Ay],⟨[],rfl,fun j ob g hl=>by simp [look,Fh] at hl,fun i j oi oj gi gj b hl=>by simp [look,Fh] at hl,fun E' _ _ p hp=>by simp [Ay] at hp⟩⟩
 |x::xs,.view y::gs,v::vs,fp::qC,cap::gX,k,hl,hp,hn=>by
  simp only [OY,RP] at hp
  obtain ⟨rfl,hp⟩:=hp
  simp only [Fh,Ay]
  have:=xS xs gs vs qC gX k (by simpa [mY] using hl) hp (by simpa using hn)
  simpa using this
 |x::xs,.mE y::gs,v::vs,fp::qC,cap::gX,k,hl,hp,hn=>by
  simp only [OY,RP] at hp
  obtain ⟨rfl,hp⟩:=hp
  simp only [Fh,Ay]
  have:=xS xs gs vs qC gX k (by simpa [mY] using hl) hp (by simpa using hn)
  simpa using this
 |x::xs,.pX c c'::gs,v::vs,fp::qC,cap::gX,k,hl,hp,hn=>by
  simp only [OY,RP] at hp
  obtain ⟨⟨b0,f0,jr,hlen,hown⟩,hp⟩:=hp
  simp only [mY] at hl
  obtain ⟨hl0,hl⟩:=hl
  simp only [flatten_cons,nodup_append] at hn
  obtain ⟨inner,i1,i2,i3,i4⟩:=xS xs gs vs qC gX (k+(dX 1 k c').2.length) hl hp hn.2.1
  unfold Xz at hl0
  split at hl0
  ·rename_i i bN idx off
   obtain ⟨ob,g,b,f,hlk,hlive,rY,hcn,Ls,hga,hv,hF,rfl⟩:=hl0
   rw [hv] at jr
   simp only [Value.pointer.injEq,Option.some.injEq,Addr.mk.injEq,and_true] at jr
   obtain ⟨rfl,rfl⟩:=jr
   rcases hown with ⟨h5,_⟩|⟨b',f',C,ty,fz,nQ,tZ,hbk,hz,k1,k2,k3,rfl,hr⟩
   ·cases h5
   simp only [Option.some.injEq,Addr.mk.injEq,and_true] at tZ
   obtain ⟨rfl,rfl⟩:=tZ
   simp only [Rr] at hr
   obtain ⟨cs,f1,f2,wU,hc,hone,rW,rfl,e⟩:=hr
   have e:nQ=f1:=by simpa using e
   subst e
   have hnb:=hn.1
   simp only [nodup_cons] at hnb
   have xe:=AR (q:=1) c' cs nQ k rW hnb.2
   have bq:(nQ++inner).Nodup:=nodup_append.2 ⟨hnb.2,i1,fun x hx y hy e=>hn.2.2 x (by simp [hx]) y (i2 y hy) e⟩
   obtain ⟨Gs,a1,a2,a3,a4⟩:=xe.append i4 bq
   have hbi:b∉inner:=fun h=>hn.2.2 b (by simp) b (i2 b h) rfl
   refine ⟨nQ++inner,bq,?_,?_,⟨Gs,a1,a2,a3,fun E' hk hh=> ?_⟩⟩
   ·intro x hx
    simp only [flatten_cons,mem_append]
    rcases mem_append.1 hx with hx|hx
    ·exact .inl (by simp [hx])
    ·exact .inr (i2 x hx)
   ·intro p hp
    simp only [Ay,mem_append] at hp
    rcases hp with hp|hp
    ·simp only [mem_singleton] at hp
     subst hp
     exact ⟨ob,g,b,f,hlk,hlive,rY,by simpa using Ls,hga,hF,by simp,by simp only [mem_append,not_or];exact ⟨hnb.1,hbi⟩⟩
    ·obtain ⟨J8,g1,b1,f1,q1,q2,q3,q4,q5,q6,q7,q8⟩:=i3 p hp
     refine ⟨J8,g1,b1,f1,q1,q2,q3,q4,q5,q6,by simp [q7],?_⟩
     simp only [mem_append,not_or]
     exact ⟨fun h=>hn.2.2 b1 (by simp [h]) b1 q7 rfl,q8⟩
   ·obtain ⟨d1,d2⟩:=a4 E' hk hh
    intro p hp J8 g1 b1 f1 q1 q2
    simp only [Ay,mem_append] at hp
    rcases hp with hp|hp
    ·simp only [mem_singleton] at hp
     subst hp
     obtain ⟨rfl,rfl⟩:=jI hlk q1
     rw [hga] at q2
     simp only [Option.some.injEq,Addr.mk.injEq,and_true] at q2
     obtain ⟨rfl,rfl⟩:=q2
     refine ⟨by simp [maxLen],.inr ⟨b,f,C,ty,fz,[],hga,hbk,by rw [hcn];exact hz,by rw [hcn];exact k1,by simpa using k2,k3,rfl,?_⟩⟩
     simp only [Rr]
     exact ⟨cs,[],[],by rw [hcn];exact wU,hc,hone,d1,rfl,rfl⟩
    ·exact d2 p hp J8 g1 b1 f1 q1 q2
  ·exact hl0.elim
 |[],[],[],[],_::_,_,hl,_,_=>by simp [mY] at hl
 |[],[],[],_::_,_,_,_,hp,_=>by simp [OY] at hp
 |[],[],_::_,_,_,_,_,hp,_=>by simp [OY] at hp
 |[],_::_,_,_,_,_,hl,_,_=>by simp [mY] at hl
 |_::_,[],_,_,_,_,hl,_,_=>by simp [mY] at hl
 |_::_,.view _::_,[],_,_,_,hl,_,_=>by simp [mY] at hl
 |_::_,.view _::_,_::_,[],_,_,_,hp,_=>by simp [OY] at hp
 |_::_,.view _::_,_::_,_::_,[],_,_,hp,_=>by simp [OY] at hp
 |_::_,.mE _::_,[],_,_,_,hl,_,_=>by simp [mY] at hl
 |_::_,.mE _::_,_::_,[],_,_,_,hp,_=>by simp [OY] at hp
 |_::_,.mE _::_,_::_,_::_,[],_,_,hp,_=>by simp [OY] at hp
 |_::_,.pX _ _::_,[],_,_,_,hl,_,_=>by simp [mY] at hl
 |_::_,.pX _ _::_,_::_,[],_,_,_,hp,_=>by simp [OY] at hp
 |_::_,.pX _ _::_,_::_,_::_,[],_,_,hp,_=>by simp [OY] at hp
theorem Gj (o:List aG):∀(xs:List AV) (gs:List GA) (k:Nat),∀p∈Ay k xs gs,p.1∈takes o xs gs
 |[],[],_,p,hp=>by simp [Ay] at hp
 |[],_::_,_,p,hp=>by simp [Ay] at hp
 |_::_,[],_,p,hp=>by simp [Ay] at hp
 |x::xs,.view _::gs,k,p,hp=>by
  simp only [Ay] at hp
  simpa [takes] using Gj o xs gs k p hp
 |x::xs,.mE _::gs,k,p,hp=>by
  simp only [Ay] at hp
  simp only [takes,mem_append]
  exact .inr (Gj o xs gs k p hp)
 |x::xs,.pX _ c'::gs,k,p,hp=>by
  simp only [Ay,mem_append] at hp
  simp only [takes,mem_append]
  rcases hp with hp|hp
  ·left
   cases x<;>simp at hp
   subst hp;simp [Qx]
  ·exact .inr (Gj o xs gs _ p hp)
def AS.given (s:AS) (d:Option Tmp) (xs:List AV) (gs:List GA) (r:AV):AS:=
 AS.put ⟨wT (gM (takes s.o xs gs)) true s.t,Ck (Ay s.o.length xs gs) (takes s.o xs gs) 0 s.o++Fh s.o.length gs++(bW 1 (s.o.length+(Fh s.o.length gs).length) r).2⟩ d
  (bW 1 (s.o.length+(Fh s.o.length gs).length) r).1
end Go.Aw

namespace Go.Aw
open List
section
variable {P : Program} [aD P] {B : fG P} {s : AS} {dst : Option Tmp} {ty : TypeId} {pos : String} {after : Array Edge} {gd : Option (Nat × Bool)}
theorem cz (f:Operand) (args:Array Operand) (qc:Array TypeId) {gf:FuncId} {gs:List GA} {rv:AV} (hf:s.ev f= .fn gf []) (hc:aC P gf=true)
  (hu:(takes s.o (s.args args) gs).Nodup) (hh:handed s.o (takes s.o (s.args args) gs) (s.args args) gs) (uX:IJ P gf gs rv):
  Step P B ⟨dst,.call {callee:= .value f,args:=args,argTypes:=qc},ty,pos,after,gd⟩ s (s.given dst (s.args args) gs rv):=by
 rintro a w next Q ⟨G,rr⟩ hn
 have h1:=rr.ev f
 rw [hf] at h1
 simp only [R] at h1
 obtain ⟨_,cs,hv,sQ⟩:=h1
 have hcs:cs=[]:=by cases cs with
  |nil=>rfl
  |cons _ _=>simp [Rc] at sQ
 subst hcs
 have hargs:Rc w (env B s.o G w) (s.args args) (args.toList.map a.eval) []:=by simpa [AS.args] using tF rr args.toList
 generalize hxs:s.args args=xs at *
 obtain ⟨qC,gX,hnd,JU,aF2,aF3⟩:=xR rr (U:=takes s.o xs gs) xs gs _ hh hu (fun i h=>h) hargs
 generalize huu:takes s.o xs gs=u at *
 have hlt:∀b∈qC.flatten,b < w.heap.size:=fun b hb=>by
  obtain ⟨i,ob,g,_,hl,hlive,hF⟩:=JU b hb
  exact (rr.fresh _ _ _ b hl hlive hF).2
 have xe:∀b∈qC.flatten,aD.low P<=b/\b < w.heap.size:=fun b hb=>by
  obtain ⟨i,ob,g,_,hl,hlive,hF⟩:=JU b hb
  exact ⟨rr.Ub (rr.fresh _ _ _ b hl hlive hF).1,hlt b hb⟩
 have Ue:=uX w _ qC gX rr.holds xe hnd (aF3 _ JU)
 unfold Oper.wp
 have hrun:(execOp a.eval ⟨dst,.call {callee:= .value f,args:=args,argTypes:=qc},ty,pos,after,gd⟩).run P w= .ok (.enter gf (args.toList.map a.eval).toArray) w:=by
  have e:args.map a.eval=(args.toList.map a.eval).toArray:=by apply Array.ext';simp
  simp [execOp,resolve,hv,Deferred.ofValue,invoke,Bz hc,e]
 rw [hrun,Oper.upon_enter]
 refine Ue.mono fun e w' h=> ?_
 obtain ⟨v,fp,zR,rfl,RY,Tc,hnd',hfr,hsz,mJ,CF⟩:=h
 refine hn _ _ ?_
 have Sd:=nodup_append.1 hnd'
 obtain ⟨inner,i1,i2,i3,i4⟩:=xS (s:=s) (G:=G) xs gs _ zR gX s.o.length aF2 Tc Sd.1
 have bq:(inner++fp).Nodup:=nodup_append.2 ⟨i1,Sd.2.1,fun x hx y hy e=>Sd.2.2 x (i2 x hx) y hy e⟩
 obtain ⟨Gs,hlen,zQ,hap,nL⟩:=i4.append (CE (q:=1) rv v fp (s.o.length+(Fh s.o.length gs).length) RY Sd.2.1) bq
 have hNu:=Gj s.o xs gs s.o.length
 rw [huu] at hNu
 unfold AS.given
 rw [huu]
 generalize hN:Ay s.o.length xs gs=N at *
 rw [append_assoc]
 generalize CB:Fh s.o.length gs++(bW 1 (s.o.length+(Fh s.o.length gs).length) rv).2=news at *
 generalize ho1:Ck N u 0 s.o=o1
 generalize hG1:Eu N 0 G=G1
 have hl1:o1.length=s.o.length:=by rw [<-ho1,BC]
 have aN7:G1.length=G.length:=by rw [<-hG1,BD]
 have hlG:G1.length=o1.length:=by rw [aN7,hl1,rr.len]
 have blk:∀b,b∈zR.flatten++fp->(Of s.o G u b\/w.heap.size<=b)/\b < w'.heap.size:=fun b hb=>by
  have:=hfr b hb
  refine ⟨?_,this.2⟩
  rcases this.1 with h|h
  ·exact .inl (JU b h)
  ·exact .inr h
 have aF4:∀{j ob g b},look news Gs j ob g->g.F b->b∈inner++fp:=by
  intro j ob g b hl hF
  obtain ⟨_,_,_,f',_,_,h3,h4⟩:=zQ _ _ _ hl
  exact h4 _ ((h3 _).1 hF)
 have aF5:∀{b},b∈inner++fp->b∈zR.flatten++fp:=by
  intro b hb
  rcases mem_append.1 hb with h|h
  ·exact mem_append_left _ (i2 b h)
  ·exact mem_append_right _ h
 have lk:∀{i dY g'},look (o1++news) (G1++Gs) i dY g'->(∃j,i=s.o.length+j/\look news Gs j dY g')\/(i < s.o.length/\∃ob g,look s.o G i ob g/\
   ((∃p∈N,p.1=i/\dY={ob with dK:=p.2}/\g'={g with F:=fun b=>∃a,g.a=some a/\b=a.block})\/
   ((∀p∈N,p.1≠i)/\g'=g/\((i∈u/\dY={ob with live:=false})\/(i∉u/\dY=ob.forget u))))):=by
  intro i dY g' h
  rcases mK hlG h with ⟨hi,h⟩|⟨hi,h⟩
  ·right
   refine ⟨by omega,?_⟩
   rw [<-ho1,<-hG1] at h
   exact QB h
  ·left
   exact ⟨i - o1.length,by omega,h⟩
 have xy:∀{p},p∈N->∀{ob g},look s.o G p.1 ob g->ob.live=true/\ob.box=true/\ob.dK.length=p.2.length/\∃b f,g.a=some ⟨b,f,none⟩/\g.F b/\b∈zR.flatten/\b∉inner:=by
  intro p hp ob g hl
  obtain ⟨ob2,g2,b,f,q1,q2,q3,q4,q5,q6,q7,q8⟩:=i3 p hp
  obtain ⟨rfl,rfl⟩:=jI hl q1
  exact ⟨q2,q3,q4,b,f,q5,q6,q7,q8⟩
 have kl:∀{i ob g},look s.o G i ob g->∃dY g',look (o1++news) (G1++Gs) i dY g'/\(dY.live=true->ob.live=true)/\dY.bN=ob.bN/\dY.n=ob.n/\g'.a=g.a/\g'.cap=g.cap/\dY.dK.length=ob.dK.length/\dY.box=ob.box/\
   (i∉u->g'=g/\dY.live=ob.live):=by
  intro i ob g h
  obtain ⟨dY,g',h'⟩:=cu (N:=N) (u:=u) h
  rw [ho1,hG1] at h'
  have h'':=lH (o2:=news) (G2:=Gs) h'
  refine ⟨dY,g',h'',?_⟩
  rw [<-ho1,<-hG1] at h'
  obtain ⟨ob2,g2,h2,hcase⟩:=QB h'
  obtain ⟨rfl,rfl⟩:=jI h h2
  rcases hcase with ⟨p,hp,rfl,rfl,rfl⟩|⟨Ir,rfl,⟨hiu,rfl⟩|⟨hiu,rfl⟩⟩
  ·obtain ⟨b1,b2,b3,_⟩:=xy hp h
   exact ⟨fun _=>b1,rfl,rfl,rfl,rfl,b3.symm,rfl,fun hn=>absurd (hNu p hp) hn⟩
  ·exact ⟨fun h=>by simp at h,rfl,rfl,rfl,rfl,rfl,rfl,fun hn=>absurd hiu hn⟩
  ·exact ⟨fun h=>by rw [lM] at h;exact h,Mm _ _,Us _ _,rfl,rfl,Mq _ _,Mo _ _,fun _=>⟨rfl,lM _ _⟩⟩
 have aEu:∀{i ob g b},look s.o G i ob g->ob.live=true->g.F b->i∉u->¬Of s.o G u b:=by
  intro i ob g b hl hlive hF hiu hO
  obtain ⟨j,oj,gj,hj,hlj,hjl,OX⟩:=hO
  exact hiu (rr.apart i j _ _ _ _ b hl hlj hlive hjl hF OX▸hj)
 have aN9:∀{i ob g b},look s.o G i ob g->ob.live=true->g.F b->i∉u->b∉zR.flatten++fp:=by
  intro i ob g b hl hlive hF hiu hX
  rcases (blk b hX).1 with h|h
  ·exact aEu hl hlive hF hiu h
  ·have:=(rr.fresh _ _ _ b hl hlive hF).2;omega
 have CQ:∀i ob g b,look s.o G i ob g->ob.live=true->g.F b->i∉u->w'.heap[b]? =w.heap[b]?:=fun i ob g b hl hlive hF hiu=>
  mJ b (rr.fresh _ _ _ b hl hlive hF).2 (fun hm=>aEu hl hlive hF hiu (JU b hm))
 let Er:Env:={env B s.o G w with D:=fun i b=>i∉u/\(env B s.o G w).D i b}
 have xh:lL (gM u) true (env B s.o G w) Er (fun _=>True):=by
  refine ⟨fun t e=>by simp [gM] at e,fun t e=>by simp only [gM,Option.some.injEq] at e;exact ⟨e.symm,fun b hb=>hb⟩,fun i t e=> ?_,fun _ _ _ _ h=>h,fun _ _ _ _ _ _ h=>h⟩
  simp only [gM] at e
  split at e
  ·cases e
  ·rename_i hiu
   obtain rfl:=Option.some.inj e
   refine ⟨by simp,?_,fun b hb=>⟨hiu,hb⟩⟩
   by_cases hV:(env B s.o G w).V i
   ·exact .inl hV
   ·exact .inr hV
 have k2:dU w Er w' (env B (o1++news) (G1++Gs) w'):=by
  refine ⟨fun b hb=> ?_,fun i h ob uW=> ?_,fun i b hV h=> ?_,fun i bN x h=> ?_,fun i bN j q x h=> ?_⟩
  ·have hb':(env B s.o G w).A b:=hb
   have hbl:=sP rr hb'
   have hnO:¬Of s.o G u b:=fun ⟨i,ob,g,_,hl,hlive,hF⟩=>hb'.2 i ob g hl hlive hF
   have hnX:b∉zR.flatten++fp:=fun hX=>by
    rcases (blk b hX).1 with h|h
    ·exact hnO h
    ·omega
   refine ⟨⟨?_,fun i dY g' hl hlive hF=> ?_⟩,mJ b hbl (fun h=>hnO (JU b h))⟩
   ·rcases hb'.1 with h|h
    ·exact .inl h
    ·exact .inr ⟨h.1,by omega⟩
   ·rcases lk hl with ⟨j,_,hl2⟩|⟨_,ob,g,hl0,⟨p,hp,rfl,_,rfl⟩|⟨_,rfl,⟨_,rfl⟩|⟨_,rfl⟩⟩⟩
    ·exact hnX (aF5 (aF4 hl2 hF))
    ·obtain ⟨b1,b2,b3,b0,f0,b4,b5,b6,_⟩:=xy hp hl0
     obtain ⟨a0,jv,rfl⟩:=hF
     rw [b4] at jv
     obtain rfl:=Option.some.inj jv
     exact hb'.2 _ ob g hl0 b1 b5
    ·simp at hlive
    ·refine hb'.2 i ob g' hl0 ?_ hF
     rw [lM] at hlive;exact hlive
  ·have hi:i < G.length:=by rw [rr.len];exact (List.getElem?_eq_some_iff.1 uW).1
   obtain ⟨dY,g',hl,h1,_⟩:=kl (i:=i) (ob:=ob) (g:=G[i]) ⟨uW,getElem?_eq_getElem hi⟩
   exact h1 (h dY hl.1)
  ·obtain ⟨hiu,ob,g,hl,hlive,hF,hne⟩:=h
   obtain ⟨dY,g',zS,_,_,_,_,_,_,_,h7⟩:=kl hl
   obtain ⟨rfl,h8⟩:=h7 hiu
   exact ⟨⟨dY,g',zS,by rw [h8];exact hlive,hF,hne⟩,CQ i ob g' b hl hlive hF hiu⟩
  ·obtain ⟨ob,g,hl,wW,hh,hz⟩:=h
   obtain ⟨dY,g',zS,h1,h2,h3,h4,h5,h6,_⟩:=kl hl
   exact ⟨dY,g',zS,by omega,fun hlive Pf=>by rw [h4,h5,h6];exact hh (h1 hlive) (by omega),hz⟩
  ·obtain ⟨ob,g,hl,wW,hh,hz⟩:=h
   obtain ⟨dY,g',zS,h1,h2,h3,h4,h5,h6,h8,_⟩:=kl hl
   exact ⟨dY,g',zS,by omega,fun hlive Pf=>by rw [h4,h3];exact hh (h1 hlive) (by omega),
    fun e e2 e3 e4 y hy=>⟨(hz (by rw [<-h8];exact e) e2 e3 e4 y hy).1,fun hlive Pf=>by rw [h5];exact (hz (by rw [<-h8];exact e) e2 e3 e4 y hy).2 (h1 hlive) (by omega)⟩⟩
 have tm:Rc w' (env B (o1++news) (G1++Gs) w') (wT (gM u) true s.t) a.tmps.toList []:=
  dF k2 _ _ _ (by simp) (uB xh _ _ _ (by simp) rr.tmps)
 have kn:∀E':Env,dU w' jU w' E':=fun E'=>⟨fun _ h=>h.elim,fun _ _=>trivial,fun _ _ _ h=>h.elim,fun _ _ _ h=>h.elim,fun _ _ _ _ _ h=>h.elim⟩
 have hfin:=nL (env B (o1++news) (G1++Gs) w') (kn _) (fun j ob g hl=>by
  obtain ⟨_,_,h3,_⟩:=zQ _ _ _ hl
  refine ⟨ob,g,?_,Nat.le_of_eq h3.symm,fun _ _=>rfl,fun h=>absurd h (by decide)⟩
  have:=mM (o:=o1) (G:=G1) hlG hl
  rwa [hl1] at this)
 obtain ⟨Et,jD⟩:=hfin
 have rel:dN B ⟨wT (gM u) true s.t,o1++news⟩ (G1++Gs) a w':=by
  refine {len:=by simp [hlG,hlen],defs:=rr.defs,ok:= ?_,apart:= ?_,fresh:= ?_,tmps:=tm,size:=Nat.le_trans rr.size hsz,frame:= ?_,base:=rr.base,same:=rr.same.trans CF}
  ·intro i dY g' hl hlive
   rcases lk hl with ⟨j,_,hl2⟩|⟨_,ob,g,hl0,⟨p,hp,rfl,rfl,rfl⟩|⟨_,rfl,⟨_,rfl⟩|⟨hiu,rfl⟩⟩⟩
   ·obtain ⟨h1,h2,_,f',hown,h3,h4,h5⟩:=zQ _ _ _ hl2
    refine ⟨f',?_,h3,fun b hb=>(h4 b).2 hb⟩
    rw [h2]
    exact hown.keeps (kn _).plain (fun _ _=>rfl)
   ·obtain ⟨b1,b2,b3,b0,f0,b4,b5,b6,_⟩:=xy hp hl0
    have:=Et p hp ob g b0 f0 hl0 b4
    refine ⟨[b0],?_,by simp,?_⟩
    ·simp only [b2,Env.of,if_true]
     exact this
    ·intro b hb
     simp only [mem_singleton] at hb
     subst hb
     exact ⟨_,b4,rfl⟩
   ·simp at hlive
   ·rw [lM] at hlive
    obtain ⟨wm,hown,Fe,Ll⟩:=rr.ok i ob g' hl0 hlive
    by_cases Et:ob.box=true
    ·simp only [Et,Env.of,if_true] at hown
     obtain ⟨hlen,hown⟩:=hown
     by_cases hall:yM ob.dK=true
     ·have xk:ob.forget u=ob:=by unfold aG.forget;simp [Et,hall]
      rw [xk]
      refine ⟨wm,?_,Fe,Ll⟩
      simp only [Et,Env.of,if_true]
      refine ⟨hlen,?_⟩
      rcases hown with h|⟨b,off,C,e,fz,xm,ha,hb,hz,h1,h2,h3,rfl,Xx⟩
      ·exact .inl h
      ·have hbs:=CQ i ob g' b hl0 hlive (Ll b (by simp)) hiu
       exact .inr ⟨b,off,C,e,fz,xm,ha,by rw [hbs];exact hb,hz,h1,h2,h3,rfl,kQ k2 _ _ _ _ _ hbs (fun x hx=>CQ i ob g' x hl0 hlive (Ll x (by simp [hx])) hiu) (wu hall Xx)⟩
     ·have xk:ob.forget u={ob with dK:=lD (gM u) true ob.dK}:=by unfold aG.forget;rw [if_pos Et,if_neg hall]
      rw [xk]
      rcases hown with ⟨h1,h2,h3⟩|⟨b,off,C,e,fz,xm,ha,hb,hz,h1,h2,h3,rfl,Xx⟩
      ·exact ⟨[],⟨by simp [jT];exact hlen,.inl ⟨by simp [h1,lD],h2,rfl⟩⟩,by simp,by simp⟩
      ·have Qs:=Ll b (by simp)
       have hbs:=CQ i ob g' b hl0 hlive Qs hiu
       refine ⟨[b],⟨by simp [jT];exact hlen,.inr ⟨b,off,C,e,fz,[],ha,by rw [hbs];exact hb,hz,h1,by simpa [jT] using h2,h3,rfl,?_⟩⟩,by simp,by simpa using Qs⟩
       simp only [Et,Env.of,if_true]
       exact kQ k2 _ _ _ _ _ hbs (by simp) (Es xh _ _ _ _ _ (by simp) Xx)
    ·have xn:ob.box=false:=by simpa using Et
     have xk:ob.forget u=ob:=by unfold aG.forget;simp [xn]
     rw [xk]
     refine ⟨wm,?_,Fe,Ll⟩
     simp only [xn,Env.of,Bool.false_eq_true,if_false] at hown⊢
     have kp:dU w (env B s.o G w).plain w' (env B (o1++news) (G1++Gs) w').plain:=k2.plain
     exact hown.keeps kp (fun b hb=>CQ i ob g' b hl0 hlive (Ll b hb) hiu)
  ·-- every object its own blocks
   have cls:∀{i dY g' b},look (o1++news) (G1++Gs) i dY g'->dY.live=true->g'.F b->(∃j,i=s.o.length+j/\look news Gs j dY g'/\b∈inner++fp)\/
     (i < s.o.length/\∃ob g,look s.o G i ob g/\ob.live=true/\g.F b/\((b∈zR.flatten/\b∉inner)\/b∉zR.flatten++fp)):=by
    intro i dY g' b hl hlive hF
    rcases lk hl with ⟨j,hj,hl2⟩|⟨hi,ob,g,hl0,⟨p,hp,rfl,rfl,rfl⟩|⟨_,rfl,⟨_,rfl⟩|⟨hiu,rfl⟩⟩⟩
    ·exact .inl ⟨j,hj,hl2,aF4 hl2 hF⟩
    ·obtain ⟨b1,b2,b3,b0,f0,b4,b5,b6,b7⟩:=xy hp hl0
     obtain ⟨a0,jv,rfl⟩:=hF
     rw [b4] at jv
     obtain rfl:=Option.some.inj jv
     exact .inr ⟨hi,ob,g,hl0,b1,b5,.inl ⟨b6,b7⟩⟩
    ·simp at hlive
    ·rw [lM] at hlive
     exact .inr ⟨hi,ob,g',hl0,hlive,hF,.inr (aN9 hl0 hlive hF hiu)⟩
   have mixed:∀{b},b∈inner++fp->((b∈zR.flatten/\b∉inner)\/b∉zR.flatten++fp)->False:=by
    rintro b hb (⟨h1,h2⟩|h)
    ·rcases mem_append.1 hb with h|h
     ·exact h2 h
     ·exact Sd.2.2 b h1 b h rfl
    ·exact h (aF5 hb)
   intro i j oi oj gi gj b hi hj hil hjl Fa Iz
   rcases cls hi hil Fa with ⟨i',rfl,hi',hbi⟩|⟨aF1,J8,g1,hl1,aOa,hF1,hc1⟩<;>rcases cls hj hjl Iz with ⟨j',rfl,au,hbj⟩|⟨aF0,ob2,g2,hl2,aOb,bg,TZ⟩
   ·rw [hap _ _ _ _ _ _ b hi' au Fa Iz]
   ·exact (mixed hbi TZ).elim
   ·exact (mixed hbj hc1).elim
   ·exact rr.apart _ _ _ _ _ _ b hl1 hl2 aOa aOb hF1 bg
  ·intro i dY g' b hl hlive hF
   have ofX:b∈zR.flatten++fp->(B.O0 b\/B.w0.heap.size<=b)/\b < w'.heap.size:=fun hX=>by
    obtain ⟨h1,h2⟩:=blk b hX
    refine ⟨?_,h2⟩
    rcases h1 with ⟨j,oj,gj,_,hlj,hjl,OX⟩|h
    ·exact (rr.fresh _ _ _ b hlj hjl OX).1
    ·exact .inr (Nat.le_trans rr.size h)
   rcases lk hl with ⟨j,hj,hl2⟩|⟨hi,ob,g,hl0,⟨p,hp,rfl,rfl,rfl⟩|⟨_,rfl,⟨_,rfl⟩|⟨hiu,rfl⟩⟩⟩
   ·exact ofX (aF5 (aF4 hl2 hF))
   ·obtain ⟨b1,b2,b3,b0,f0,b4,b5,b6,b7⟩:=xy hp hl0
    obtain ⟨a0,jv,rfl⟩:=hF
    rw [b4] at jv
    obtain rfl:=Option.some.inj jv
    exact ofX (mem_append_left _ b6)
   ·simp at hlive
   ·rw [lM] at hlive
    have:=rr.fresh _ _ _ b hl0 hlive hF
    exact ⟨this.1,by omega⟩
  ·intro b hb hO
   rw [<-rr.frame b hb hO]
   refine mJ b (Nat.lt_of_lt_of_le hb rr.size) (fun hm=> ?_)
   obtain ⟨j,oj,gj,_,hlj,hjl,OX⟩:=JU b hm
   rcases (rr.fresh _ _ _ b hlj hjl OX).1 with h|h
   ·exact hO h
   ·omega
 exact ⟨_,rel.put dst jD⟩
end
end Go.Aw

namespace Go.Aw
open List
mutual
def FX (i bN:Nat) (y:AV):AV->AV
 | .obj j v=>if j=i/\v=bN then y else .obj j v
 | .agg c=> .agg (Sn i bN y c)
 | .gV c=> .gV (Sn i bN y c)
 |x=>x
def Sn (i bN:Nat) (y:AV):List AV->List AV
 |[]=>[]
 |x::xs=>FX i bN y x::Sn i bN y xs
end
def Sq (i bN:Nat) (y:AV):List (List AV)->List (List AV)
 |[]=>[]
 |e::es=>Sn i bN y e::Sq i bN y es
theorem zX (i bN:Nat) (y:AV):∀l,(Sq i bN y l).length=l.length
 |[]=>rfl
 |_::l=>by simp [Sq,zX i bN y l]
def aG.FX (i bN:Nat) (y:AV) (ob:aG):aG:=if ob.box=true then {ob with dK:=Sq i bN y ob.dK} else ob
def Ps (i bN:Nat) (y:AV):Nat->List aG->List aG
 |_,[]=>[]
 |k,ob::r=>(if k=i then ob.kill else ob.FX i bN y)::Ps i bN y (k+1) r
theorem Mv (i bN:Nat) (y:AV):∀(o:List aG) (k j:Nat),(Ps i bN y k o)[j]? =(o[j]?).map fun ob=>if k+j=i then ob.kill else ob.FX i bN y
 |[],_,_=>by simp [Ps]
 |ob::r,k,0=>by simp [Ps]
 |ob::r,k,j+1=>by
  simp only [Ps,getElem?_cons_succ]
  rw [Mv i bN y r (k+1) j,show k+1+j=k+(j+1) by omega]
theorem JW (i bN:Nat) (y:AV):∀(o:List aG) (k:Nat),(Ps i bN y k o).length=o.length
 |[],_=>rfl
 |ob::r,k=>by simp [Ps,JW i bN y r]
def AS.frozen (s:AS) (i bN:Nat) (ob:aG):AS:=
 ⟨Sn i bN (.sl .view ob.n (lD (fun _=>some .view) false ob.dK)) s.t,Ps i bN (.sl .view ob.n (lD (fun _=>some .view) false ob.dK)) 0 s.o⟩
mutual
theorem aJ1 {w:World} {E E':Env} {i bN:Nat} {y:AV} (k:dU w E w E') (hy:∀v,E.H i bN v->R w E' y v []):∀(x:AV) (v:Value) (fp:List Nat),R w E x v fp->R w E' (FX i bN y x) v fp
 | .obj j u,v,fp,h=>by
  simp only [FX]
  split
  ·rename_i e
   obtain ⟨rfl,rfl⟩:=e
   simp only [R] at h
   obtain ⟨rfl,h⟩:=h
   exact hy v h
  ·exact nK k _ _ _ (fun _ _=>rfl) h
 | .agg c,v,fp,h=>by
  simp only [R,FX] at h⊢
  obtain ⟨cs,h1,h2,h3⟩:=h
  exact ⟨cs,h1,h2,Mw k hy c cs fp h3⟩
 | .gV c,v,fp,h=>by
  simp only [R,FX] at h⊢
  obtain ⟨cs,h1,h3⟩:=h
  exact ⟨cs,h1,Mw k hy c cs fp h3⟩
 | .int _ _,v,fp,h=>by simp only [FX];exact nK k _ _ _ (fun _ _=>rfl) h
 | .bool _,v,fp,h=>by simp only [FX];exact nK k _ _ _ (fun _ _=>rfl) h
 | .str _,v,fp,h=>by simp only [FX];exact nK k _ _ _ (fun _ _=>rfl) h
 | .sl _ _ _,v,fp,h=>by simp only [FX];exact nK k _ _ _ (fun _ _=>rfl) h
 | .eH _ _ _,v,fp,h=>by simp only [FX];exact nK k _ _ _ (fun _ _=>rfl) h
 | .ptr _ _ _ _,v,fp,h=>by simp only [FX];exact nK k _ _ _ (fun _ _=>rfl) h
 | .fn _ _,v,fp,h=>by simp only [FX];exact nK k _ _ _ (fun _ _=>rfl) h
 | .undef,v,fp,h=>by simp only [FX];exact nK k _ _ _ (fun _ _=>rfl) h
theorem Mw {w:World} {E E':Env} {i bN:Nat} {y:AV} (k:dU w E w E') (hy:∀v,E.H i bN v->R w E' y v []):∀(c:List AV) (cs:List Value) (fp:List Nat),Rc w E c cs fp->Rc w E' (Sn i bN y c) cs fp
 |[],[],_,h=>by simpa [Rc,Sn] using h
 |[],_::_,_,h=>by simp [Rc] at h
 |_::_,[],_,h=>by simp [Rc] at h
 |x::xs,c::cs,fp,h=>by
  simp only [Rc,Sn] at h⊢
  obtain ⟨f1,f2,h1,h2,h3⟩:=h
  exact ⟨f1,f2,aJ1 k hy x c f1 h1,Mw k hy xs cs f2 h2,h3⟩
end
theorem xz {w:World} {E E':Env} {i bN:Nat} {y:AV} (k:dU w E w E') (hy:∀v,E.H i bN v->R w E' y v []):∀(l:List (List AV)) (b off n:Nat) (fp:List Nat),Rr w E l b off n fp->Rr w E' (Sq i bN y l) b off n fp
 |[],_,_,_,_,h=>by simpa [Rr,Sq] using h
 |e::es,b,off,n,fp,h=>by
  simp only [Rr,Sq] at h⊢
  obtain ⟨cs,f1,f2,h1,h2,h3,h4,h5,h6⟩:=h
  exact ⟨cs,f1,f2,h1,h2,h3,Mw k hy e cs f1 h4,xz k hy es b (off+n) n f2 h5,h6⟩
theorem aB3 {P:Program} [aD P] {B:fG P} {s:AS} {a:Act} {w:World} {i bN:Nat} {ob:aG} (uW:AV.isObj s.o i bN=some ob) (rY:ob.box=false) (hr:Rel B s a w):Rel B (s.frozen i bN ob) a w:=by
 obtain ⟨G,r⟩:=hr
 obtain ⟨h1,h2,h3⟩:=jG uW
 generalize hyy:AV.sl .view ob.n (lD (fun _=>some .view) false ob.dK)=y
 generalize ho':Ps i bN y 0 s.o=o'
 have back:∀{j dY g},look o' G j dY g->∃uZ,look s.o G j uZ g/\((j=i/\dY=uZ.kill)\/(j≠i/\dY=uZ.FX i bN y)):=by
  rintro j dY g ⟨e1,e2⟩
  rw [<-ho',Mv,Nat.zero_add] at e1
  cases hx:s.o[j]? with
  |none=>rw [hx] at e1;cases e1
  |some uZ=>
   rw [hx] at e1
   simp only [Option.map_some,Option.some.injEq] at e1
   refine ⟨uZ,⟨hx,e2⟩,?_⟩
   by_cases hj:j=i
   ·rw [if_pos hj] at e1;exact .inl ⟨hj,e1.symm⟩
   ·rw [if_neg hj] at e1;exact .inr ⟨hj,e1.symm⟩
 have QC:∀{j uZ g},look s.o G j uZ g->look o' G j (if j=i then uZ.kill else uZ.FX i bN y) g:=by
  rintro j uZ g ⟨e1,e2⟩
  refine ⟨?_,e2⟩
  rw [<-ho',Mv,Nat.zero_add,e1];rfl
 have fz:∀uZ:aG,(uZ.FX i bN y).live=uZ.live/\(uZ.FX i bN y).box=uZ.box/\(uZ.FX i bN y).n=uZ.n/\(uZ.FX i bN y).bN=uZ.bN/\(uZ.FX i bN y).dK.length=uZ.dK.length:=by
  intro uZ;unfold aG.FX;split<;>simp [zX]
 have k:dU w (env B s.o G w) w (env B o' G w):=by
  refine AP (Nat.le_refl _) (fun b hb=>⟨sP r hb,rfl⟩) r.len ?_ ?_
  ·intro j uZ g hl
   have hf:=fz uZ
   by_cases hj:j=i
   ·refine ⟨_,g,QC hl,?_⟩
    rw [if_pos hj]
    refine ⟨Nat.le_refl _,fun hb=> .inl hb,fun Gl=> ?_⟩
    simp [aG.kill] at Gl
   ·refine ⟨_,g,QC hl,?_⟩
    rw [if_neg hj]
    exact ⟨by rw [hf.2.2.2.1];exact Nat.le_refl _,fun hb=> .inl (by rw [<-hf.2.1];exact hb),fun Gl=>⟨by rw [<-hf.1];exact Gl,hf.2.2.1,fun _=>⟨rfl,rfl,hf.2.2.2.2⟩,fun b hb hne=>⟨hb,hne,rfl⟩⟩⟩
  ·intro j dY g b hl Gl hF
   obtain ⟨uZ,hl0,h⟩:=back hl
   rcases h with ⟨_,rfl⟩|⟨_,rfl⟩
   ·simp [aG.kill] at Gl
   ·exact .inr ⟨j,uZ,g,hl0,by rw [<-(fz uZ).1];exact Gl,hF⟩
 have hy:∀v,(env B s.o G w).H i bN v->R w (env B o' G w) y v []:=by
  intro v hv
  obtain ⟨J8,g,hl,_,hh,_⟩:=hv
  obtain rfl:=Option.some.inj (hl.1.symm.trans h1)
  have hv:=hh h2 h3
  obtain ⟨fp,⟨hlen,hown⟩,hnd,hF⟩:=r.ok i _ g hl h2
  rw [rY] at hown
  rw [<-hyy]
  simp only [R,jT]
  refine .inr ⟨g.a,g.cap,hv,⟨hlen,by rcases hown with h|⟨_,_,_,_,_,_,_,_,_,_,h,_⟩;simp [h.1];exact h⟩,.inr (.inr ⟨by simp,trivial,?_⟩)⟩
  rcases hown with ⟨h5,_⟩|⟨b,off,C,e,Pb,nQ,ha,hbk,hz,k1,k2,k3,rfl,RY⟩
  ·left;rw [h5];rfl
  ·right
   have hA:∀x,g.F x->(env B o' G w).A x:=by
    intro x hx
    have hfr:=r.fresh _ _ _ x hl h2 hx
    refine ⟨hfr.1.elim (fun h=> .inl (B.gA x h)) (fun h=> .inr ⟨h,hfr.2⟩),fun j dY g' zS Gl PR=> ?_⟩
    obtain ⟨uZ,hl0,h⟩:=back zS
    rcases h with ⟨_,rfl⟩|⟨hj,rfl⟩
    ·simp [aG.kill] at Gl
    ·exact hj (r.apart j i _ _ _ _ x hl0 hl (by rw [<-(fz uZ).1];exact Gl) h2 PR hx)
   have rt:lL (fun _=>some .view) false (env B s.o G w).plain (env B o' G w).plain g.F:=
    {own:=fun t e=>by obtain rfl:=Option.some.inj e;exact ⟨by simp,fun b hb=>hA b hb⟩
     view:=fun t e=>by obtain rfl:=Option.some.inj e;exact ⟨rfl,fun b hb=>(k.a b hb).1⟩
     iQ:=fun j t e=>by obtain rfl:=Option.some.inj e;exact ⟨by simp,.inl trivial,fun b hb=>hb.elim⟩
     hh:=fun h=>by cases h
     hl:=fun h=>by cases h}
   exact ⟨b,off,ha,hA b (hF b (by simp)),Es rt _ _ _ _ nQ (fun x hx=>hF x (by simp [hx])) RY⟩
 refine ⟨G,{len:= ?_,defs:=r.defs,ok:= ?_,apart:= ?_,fresh:= ?_,tmps:= ?_,size:=r.size,frame:=r.frame,base:=r.base,same:=r.same}⟩
 ·simp only [AS.frozen,JW];exact r.len
 ·simp only [AS.frozen,hyy,ho']
  intro j dY g hl Gl
  obtain ⟨uZ,hl0,h⟩:=back hl
  rcases h with ⟨_,rfl⟩|⟨hj,rfl⟩
  ·simp [aG.kill] at Gl
  obtain ⟨fp,hown,hnd,hF⟩:=r.ok j _ g hl0 (by rw [<-(fz uZ).1];exact Gl)
  refine ⟨fp,?_,hnd,hF⟩
  cases hb0:uZ.box with
  |false=>
   have e:uZ.FX i bN y=uZ:=by unfold aG.FX;rw [if_neg (by simp [hb0])]
   rw [e]
   rw [hb0] at hown⊢
   exact hown.keeps k.plain (fun _ _=>rfl)
  |true=>
   have e:uZ.FX i bN y={uZ with dK:=Sq i bN y uZ.dK}:=by unfold aG.FX;rw [if_pos hb0]
   rw [e]
   simp only [hb0] at hown⊢
   simp only [Env.of,if_true] at hown⊢
   obtain ⟨hlen,hown⟩:=hown
   refine ⟨by rw [zX];exact hlen,?_⟩
   rcases hown with h|⟨b,off,C,e,Pb,nQ,ha,hbk,hz,k1,k2,k3,rfl,RY⟩
   ·exact .inl ⟨by rw [h.1];rfl,h.2⟩
   ·exact .inr ⟨b,off,C,e,Pb,nQ,ha,hbk,hz,k1,by rw [zX];exact k2,k3,rfl,xz k hy _ _ _ _ _ RY⟩
 ·simp only [AS.frozen,hyy,ho']
  intro p q op oq gp gq b hp hq hlp hlq hFp hFq
  obtain ⟨op0,jq,h⟩:=back hp
  obtain ⟨oq0,hq0,h'⟩:=back hq
  rcases h with ⟨_,rfl⟩|⟨_,rfl⟩
  ·simp [aG.kill] at hlp
  rcases h' with ⟨_,rfl⟩|⟨_,rfl⟩
  ·simp [aG.kill] at hlq
  exact r.apart p q _ _ _ _ b jq hq0 (by rw [<-(fz op0).1];exact hlp) (by rw [<-(fz oq0).1];exact hlq) hFp hFq
 ·simp only [AS.frozen,hyy,ho']
  intro j dY g b hl Gl hF
  obtain ⟨uZ,hl0,h⟩:=back hl
  rcases h with ⟨_,rfl⟩|⟨_,rfl⟩
  ·simp [aG.kill] at Gl
  exact r.fresh j _ g b hl0 (by rw [<-(fz uZ).1];exact Gl) hF
 ·simp only [AS.frozen,hyy,ho']
  exact Mw k hy _ _ _ r.tmps
def aF6 (P:Program) [aD P] (o:Oper) (s:AS) (K:AS->Prop):Prop:=
 match o.op with
 | .slice _ x _ _ none=>match s.ev x with
  | .obj i bN=>match AV.isObj s.o i bN with
   |some ob=>ob.box=false/\nZ P o (s.frozen i bN ob) K
   |none=>False
  |_=>False
 |_=>False
attribute [simp] FX Sn Sq Ps aG.FX AS.frozen
end Go.Aw
