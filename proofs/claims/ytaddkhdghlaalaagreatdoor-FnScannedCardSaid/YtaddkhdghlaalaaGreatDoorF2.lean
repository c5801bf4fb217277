/-
  Proved here: steps of single operations, first part.
  No condition beyond what each statement spells out.
-/
import Derived.Test.YtaddkhdghlaalaaGreatDoorF1
import Derived.Laws.Tables
import Derived.Lib.ConvBytes
set_option linter.all false
namespace Go.Aw
def AV.solid:AV→Bool
 | .undef=>false
 | .tup _=>false
 | .agg _=>false
 | .obj _ _=>false
 | .ptr _ _ _ _=>false
 | .sl (.dep _) _ _=>false
 | .vptr (.dep _) _ _=>false
 | .fn _ (_::_)=>false
 |_=>true
theorem bFe {w:World} {E E':Env} (hA:∀b,E.A b→E'.A b) {x:AV} {v:Value} (hs:x.solid=true) (h:R w E x v []):R w E' x v []:=by
 cases x with
 |int _ _=>simpa [R] using h
 |bool _=>simpa [R] using h
 |str _=>simpa [R] using h
 |sl g n l=>
  cases g with
  |own=>
   rw [mX] at h⊢
   obtain ⟨a,cap,hv,hl,h⟩:=h
   refine ⟨a,cap,hv,hl,.inl ?_⟩
   rcases h with h|⟨_,_,_,_,_,_,_,_,_,_,_,_,hf,_⟩
   ·exact h
   ·cases hf
  |view=>
   refine jL (w:=w) (E:=E.plain) (E':=E') ⟨fun b h=>⟨hA b h,rfl⟩,fun _ _=>trivial,fun _ _ _ h=>h.elim,fun _ _ _ h=>h.elim,fun _ _ _ _ _ h=>h.elim⟩ _ _ _ (by simp) ?_
   simp only [R] at h⊢;exact h
  |dep i=>cases hs
 |vptr g c off=>
  cases g with
  |own=>simp only [R] at h;rcases h with h|⟨_,_,_,_,_,h,_⟩;exact h.1.elim;exact h.elim
  |view=>
   refine jL (w:=w) (E:=E.plain) (E':=E') ⟨fun b h=>⟨hA b h,rfl⟩,fun _ _=>trivial,fun _ _ _ h=>h.elim,fun _ _ _ h=>h.elim,fun _ _ _ _ _ h=>h.elim⟩ _ _ _ (by simp) ?_
   simp only [R] at h⊢;exact h
  |dep i=>cases hs
 |obj _ _=>cases hs
 |ptr _ _ _ _=>cases hs
 |agg _=>cases hs
 |tup _=>cases hs
 |fn f c=>
  cases c with
  |nil=>simp only [R] at h⊢;obtain ⟨h1,cs,h2,h3⟩:=h;refine ⟨trivial,cs,h2,?_⟩;cases cs<;>simp_all [Rc]
  |cons _ _=>cases hs
 |undef=>cases hs
theorem aRj {w:World} {E E':Env} (hA:∀b,E.A b→E'.A b):∀{c:List AV} {cs:List Value},c.all AV.solid=true→Rc w E c cs []→Rc w E' c cs []
 |[],[],_,_=>by simp [Rc]
 |[],_::_,_,h=>by simp [Rc] at h
 |_::_,[],_,h=>by simp [Rc] at h
 |x::xs,c::cs,hs,h=>by
  simp only [Rc] at h⊢
  simp only [List.all_cons,Bool.and_eq_true] at hs
  obtain ⟨f1,f2,h1,h2,e⟩:=h
  obtain ⟨rfl,rfl⟩:f1=[]∧f2=[]:=by simpa using e
  exact ⟨[],[],bFe hA hs.1 h1,aRj hA hs.2 h2,rfl⟩
section
variable {P : Program} [aB P] {B : Base P} {s : AS} {dst : Option Tmp} {ty : TypeId} {pos : String} {after : Array Edge} {gd : Option (Nat × Bool)}
def AS.stored (s:AS) (i idx off:Nat) (ob:aA) (e c:List AV):AS:=⟨s.t,s.o.set i {ob with els:=ob.els.set idx (e.take off++c++e.drop (off+c.length))}⟩
theorem bG.stored {G:List CO} {a:Act} {w:World} (r:bG B s G a w) {i idx off:Nat} {ob:aA} {g:CO} {e c:List AV} {vs:List Value} (hl:Aw.look s.o G i ob g) (hlive:ob.live=true) (he:ob.els[idx]? =some e)
  (hfit:off+c.length≤e.length) (hbox:ob.box=true∨c.all AV.solid=true) (hone:∀x∈vs,x.oneCell'=true) (hr:Rc w (env B s.o G w) c vs []):
  ∃b f,g.a=some ⟨b,f,none⟩∧(storeCells ⟨b,f+(idx * ob.n+off),none⟩ vs).run P w= .ok () (w.setCells b (f+(idx * ob.n+off)) vs)∧
   bG B (s.stored i idx off ob e c) (G.set i g) a (w.setCells b (f+(idx * ob.n+off)) vs):=by
 obtain ⟨fp,hown,hnd,hF⟩:=r.ok i ob g hl hlive
 have hvl:=dZ hr
 rcases hown with ⟨hlen,⟨h,_⟩|⟨b,f,C,ty,fz,fps,ha,hb,hz,h1,h2,h3,rfl,hrr⟩⟩
 ·rw [h] at he;simp at he
 obtain ⟨f1,f2,f3,cs,hfe,hn,hc,hone',hrc,hr1,hr3⟩:=vF hrr he
 have hcl:=dZ hrc
 have hidx:idx < ob.els.length:=(List.getElem?_eq_some_iff.1 he).1
 have hmul:(idx+1) * ob.n≤g.cap * ob.n:=Nat.mul_le_mul_right _ (by omega)
 have hm1:(idx+1) * ob.n=idx * ob.n+ob.n:=by rw [Nat.add_mul];omega
 have hfit':f+(idx * ob.n+off)+vs.length≤C.size:=by omega
 refine ⟨b,f,ha,xN hb hz hfit' hone,?_⟩
 have hbF:g.F b:=hF b (by simp)
 have hother:∀b',b'≠b→(w.setCells b (f+(idx * ob.n+off)) vs).heap[b']? =w.heap[b']?:=fun b' hne=>heap_setCells b b' hne _ _ _
 obtain ⟨C',hC',hCs⟩:=uX b ty fz vs (f+(idx * ob.n+off)) w C hb
 have hm:=r.modify hl hlive {ob with els:=ob.els.set idx (e.take off++c++e.drop (off+c.length))} g (w.setCells b (f+(idx * ob.n+off)) vs) (Nat.le_refl _) rfl (fun _=>⟨rfl,rfl,by simp⟩) (fun b hb=> .inl hb) (fun b hb hne=>⟨hb,hne⟩)
  (fun b' hlt hne=>hother b' (fun e=>hne ⟨e▸hbF,⟨b,f,none⟩,ha,e⟩)) (by rw [size_setCells];exact Nat.le_refl _) (fun k _=>by
  generalize env B (s.o.set i {ob with els:=ob.els.set idx (e.take off++c++e.drop (off+c.length))}) (G.set i g) (w.setCells b (f+(idx * ob.n+off)) vs)=E' at k⊢
  have kb:=k.of ob.box
  obtain ⟨g1,g2,rfl,hc1,hc2⟩:=oN off hrc
  obtain ⟨g3,g4,rfl,hc3,hc4⟩:=oN c.length hc2
  have hc':Rc w ((env B s.o G w).of ob.box) c vs []:=by
   cases hbx:ob.box with
   |true=>exact hr
   |false=>
    rcases hbox with h|h
    ·rw [hbx] at h;cases h
    ·exact aRj (E:=env B s.o G w) (E':=(env B s.o G w).of false) (fun b hb=>hb) h hr
  subst hfe
  have hsub:(f1++(g1++g4)++f3).Sublist (f1++(g1++(g3++g4))++f3):=((List.Sublist.refl f1).append ((List.Sublist.refl g1).append (List.sublist_append_right g3 g4))).append (List.Sublist.refl f3)
  have hbn:b∉f1++(g1++(g3++g4))++f3:=(List.nodup_cons.1 hnd).1
  have hold:∀x∈f1++(g1++g4)++f3,(w.setCells b (f+(idx * ob.n+off)) vs).heap[x]? =w.heap[x]?:=fun x hx=>hother x (fun e=>hbn (hsub.subset (e▸hx)))
  have hout:∀j,j < f+(idx * ob.n+off)∨f+(idx * ob.n+off)+vs.length≤j→(w.setCells b (f+(idx * ob.n+off)) vs).cell? ⟨b,j,none⟩=w.cell? ⟨b,j,none⟩:=fun j hj=>World.cell?_setCells_out b vs _ w _ (fun _ _=>hj)
  have hti:(ob.els.take idx).length=idx:=by simp;omega
  refine ⟨b::(f1++(g1++g4)++f3),⟨by simpa using hlen,.inr ⟨b,f,C',ty,fz,_,ha,hC',by rw [hCs];exact hz,by rw [hCs];exact h1,by simpa using h2,h3,rfl,?_⟩⟩,?_,?_⟩
  ·show Rr _ _ (ob.els.set idx _) b f ob.n _
   refine aKx (cs:=cs.take off++vs++cs.drop (off+vs.length)) hidx ?_ ?_ ?_ ?_ ?_ ?_
   ·simp only [List.length_append,List.length_take,List.length_drop];omega
   ·have hc1:dE w b (f+idx * ob.n) cs:=hc
    have htl:(cs.take off).length=off:=by simp;omega
    refine dE.append.2 ⟨dE.append.2 ⟨?_,?_⟩,?_⟩
    ·intro j v hv
     have hj:=(List.getElem?_eq_some_iff.1 hv).1
     rw [htl] at hj
     rw [hout _ (by omega)]
     exact hc1.take j v hv
    ·intro j v hv
     have hj:j < vs.length:=(List.getElem?_eq_some_iff.1 hv).1
     rw [htl,Nat.add_assoc f]
     have:=World.cell?_setCells_in b vs (f+(idx * ob.n+off)) w (fun j hj=>by
      have:f+(idx * ob.n+off)+j < C.size:=by omega
      simp [World.cell?,hb,this]) j hj
     rw [this]
     rw [List.getElem?_eq_getElem hj] at hv
     exact hv
    ·intro j v hv
     simp only [List.length_append,htl]
     rw [hout _ (by omega)]
     have:=hc1.drop (k:=off+vs.length) j v hv
     rwa [show f+idx * ob.n+(off+vs.length)+j=f+idx * ob.n+(off+vs.length)+j from rfl] at this
   ·intro x hx
    simp only [List.mem_append] at hx
    rcases hx with (hx|hx)|hx
    ·exact hone' x (List.mem_of_mem_take hx)
    ·exact hone x hx
    ·exact hone' x (List.mem_of_mem_drop hx)
   ·have e1:g1++g4=g1++[]++g4:=by simp
    rw [e1]
    refine gT (gT (dI kb _ _ _ (fun x hx=>hold x (by simp [hx])) hc1) (dI kb _ _ _ (by simp) hc')) ?_
    rw [←hvl,←List.drop_drop,←List.drop_drop] at *
    rw [hvl] at *
    exact dI kb _ _ _ (fun x hx=>hold x (by simp [hx])) hc4
   ·refine aGy kb hout (fun x hx=>hold x (by simp [hx])) (.inl ?_) hr1
    rw [hti];omega
   ·refine aGy kb hout (fun x hx=>hold x (by simp [hx])) (.inr ?_) hr3
    omega
  ·refine List.nodup_cons.2 ⟨fun h=>hbn (hsub.subset h),hsub.nodup (List.nodup_cons.1 hnd).2⟩
  ·intro x hx
   rcases List.mem_cons.1 hx with rfl|hx
   ·exact hbF
   ·exact hF x (List.mem_cons_of_mem _ (hsub.subset hx)))
 exact hm.1
end
end Go.Aw

namespace Go.Aw
def sizeA (P:Program) (t:TypeId):Option Nat:=(P.info? t).map (·.size)
section
variable {P : Program} [aB P] {B : Base P} {s : AS} {dst : Option Tmp} {ty : TypeId} {pos : String} {after : Array Edge} {gd : Option (Nat × Bool)}
theorem aY1 (t:TypeId) (x y:Operand) {i ver idx off:Nat} {ob:aA} {e:List AV} (hx:s.ev x= .ptr i ver idx off) (ho:AV.isObj s.o i ver=some ob) (he:ob.els[idx]? =some e)
  (hfy:(s.ev y).fit s.o=true) (hsz:sizeA P t=some (s.ev y).cells.length) (hfit:off+(s.ev y).cells.length≤e.length) (hbox:ob.box=true∨(s.ev y).cells.all AV.solid=true):
  Step P B ⟨dst,.store t x y,ty,pos,after,gd⟩ s ((s.stored i idx off ob e (s.ev y).cells).put dst .undef):=
 aKa fun G a w r=>by
  obtain ⟨g,b,f,hl,hlive,ha,hv⟩:=r.ptr hx ho
  have hc:=aH0 hfy (r.ev y)
  obtain ⟨b',f',ha',hst,hrel⟩:=r.stored (P:=P) hl hlive he hfit hbox hc.2.1 hc.1
  rw [ha] at ha'
  simp only [Option.some.injEq,Addr.mk.injEq,and_true] at ha'
  obtain ⟨rfl,rfl⟩:=ha'
  have hlen:=dZ hc.1
  refine ⟨_,?_,_,hrel.put dst (by simp [R])⟩
  unfold sizeA at hsz
  cases hi:P.info? t with
  |none=>simp [hi] at hsz
  |some inf=>
   simp only [hi,Option.map_some,Option.some.injEq] at hsz
   have hlen':(a.eval y).cells.size=inf.size:=by rw [hsz];simpa using hlen
   simp [execOp,hv,Instr.storeAt,Instr.sureAddr,storeVar,sizeOf,typeInfo,hi,hlen',hst]
theorem nO {t e:TypeId} {n by':Nat} (h:elemA P t=some (e,n,by')):P.underlying t=some (.slice e)∧∃i,P.info? e=some i∧i.size=n∧i.bytes=by':=by
 unfold elemA at h
 split at h
 ·rename_i e' hu
  cases hi:P.info? e' with
  |none=>simp [hi] at h
  |some i=>
   simp [hi] at h
   obtain ⟨rfl,rfl,rfl⟩:=h
   exact ⟨hu,i,hi,rfl,rfl⟩
 ·cases h
theorem run_indexAt {t e:TypeId} {n by':Nat} (h:elemA P t=some (e,n,by')) (b f len cap:Nat) (k:IntKind) (i:Int) (h0:0≤i) (h1:i < len) (w:World):
  (Instr.indexAt t (.slice (some ⟨b,f,none⟩) len cap) (.int k i)).run P w= .ok (.pointer (some ⟨b,f+i.toNat * n,none⟩)) w:=by
 obtain ⟨hu,inf,hi,hs,_⟩:=nO h
 simp [Instr.indexAt,asIntOf,run_underlying hu,h0,h1,sizeOf,typeInfo,hi,hs,addr_add]
theorem bG.objv {G:List CO} {a:Act} {w:World} (r:bG B s G a w) {x:Operand} {i ver:Nat} {ob:aA} (hx:s.ev x= .obj i ver) (ho:AV.isObj s.o i ver=some ob):
  ∃g,Aw.look s.o G i ob g∧ob.live=true∧a.eval x= .slice g.a ob.els.length g.cap:=by
 have h:=r.ev x
 rw [hx] at h
 simp only [R] at h
 obtain ⟨_,ob',g,hl,_,hh,_⟩:=h
 obtain ⟨h1,h2,h3⟩:=iO ho
 obtain rfl:=Option.some.inj (hl.1.symm.trans h1)
 exact ⟨g,hl,h2,hh h2 h3⟩
theorem bG.intv {G:List CO} {a:Act} {w:World} (r:bG B s G a w) {x:Operand} {k:IntKind} {n:Int} (hx:s.ev x= .int k n):a.eval x= .int k n:=by
 have h:=r.ev x
 rw [hx] at h
 simp only [R] at h
 exact h.1
theorem bG.boolv {G:List CO} {a:Act} {w:World} (r:bG B s G a w) {x:Operand} {n:Bool} (hx:s.ev x= .bool n):a.eval x= .bool n:=by
 have h:=r.ev x
 rw [hx] at h
 simp only [R] at h
 exact h.1
theorem bG.strv {G:List CO} {a:Act} {w:World} (r:bG B s G a w) {x:Operand} {n:List UInt8} (hx:s.ev x= .str n):a.eval x= .string ⟨n.toArray⟩:=by
 have h:=r.ev x
 rw [hx] at h
 simp only [R] at h
 exact h.1
theorem aNt (t:TypeId) (x ix:Operand) {i ver:Nat} {ob:aA} {e:TypeId} {by':Nat} {k:IntKind} {n:Int} (hx:s.ev x= .obj i ver) (ho:AV.isObj s.o i ver=some ob) (hi:s.ev ix= .int k n)
  (ht:elemA P t=some (e,ob.n,by')) (h0:0≤n) (h1:n < ob.els.length) (hbx:ob.box=false∨ob.ver≠2):Step P B ⟨dst,.indexAddr t x ix,ty,pos,after,gd⟩ s (s.put dst (.ptr i ver n.toNat 0)):=
 dF fun G a w r=>by
  obtain ⟨g,hl,hlive,hv⟩:=r.objv hx ho
  have hlt:n.toNat < ob.els.length:=by omega
  obtain ⟨b,f,cs,ha,_⟩:=r.elem hl hlive (List.getElem?_eq_getElem hlt)
  refine ⟨.pointer (some ⟨b,f+n.toNat * ob.n,none⟩),?_,?_⟩
  ·simp only [execOp,hv,ha,r.intv hi]
   simp [run_indexAt ht b f _ g.cap k n h0 h1]
  ·simp only [R]
   obtain ⟨h1,h2,h3⟩:=iO ho
   exact ⟨trivial,ob,g,hl,Nat.le_of_eq h3.symm,fun _ _=>⟨b,f,ha,by simp⟩,fun e e2=>by rcases hbx with hbx|hbx;(rw [hbx] at e;cases e);exact absurd e2 (by omega)⟩
theorem bCe {o:List aA} {G:List CO} {w:World} {g:Tg} {n:Nat} {l:List (List AV)} (hf:(AV.sl g n l).fit o=true):¬(env B o G w).dead g:=by
 cases g with
 |own=>exact fun h=>h
 |view=>exact fun h=>h
 |dep i=>
  simp only [AV.fit] at hf
  refine fun hd=>hd (fun ob hob=> ?_)
  simpa [hob] using hf
theorem bG.slv {G:List CO} {a:Act} {w:World} (r:bG B s G a w) {x:Operand} {g:Tg} {n:Nat} {l:List (List AV)} (hx:s.ev x= .sl g n l) (hf:(AV.sl g n l).fit s.o=true):
  ∃ad cap,a.eval x= .slice ad l.length cap∧(l.length≤maxLen∧l.length≤cap)∧((l=[]∧(g= .own→cap=0))∨∃b f,ad=some ⟨b,f,none⟩∧g≠ .own∧(env B s.o G w).tg g b∧Rr w ((env B s.o G w).sub g) l b f n []):=by
 have h:=r.ev x
 rw [hx] at h
 simp only [R] at h
 rcases h with h|⟨ad,cap,hv,hl,h⟩
 ·exact absurd h.1 (bCe hf)
 ·refine ⟨ad,cap,hv,hl,?_⟩
  rcases h with h|⟨_,_,_,_,_,_,_,_,_,_,_,_,_,hfp,_⟩|⟨hg,_,h⟩
  ·exact .inl ⟨h.2.1,fun _=>h.2.2.1⟩
  ·cases hfp
  ·rcases h with h|⟨b,f,ha,ht,hr⟩
   ·exact .inl ⟨h,fun e=>absurd e hg⟩
   ·exact .inr ⟨b,f,ha,hg,ht,hr⟩
theorem aPc (t:TypeId) (x ix:Operand) {g:Tg} {m:Nat} {l:List (List AV)} {e:TypeId} {by':Nat} {k:IntKind} {n:Int} {c:List AV} (hx:s.ev x= .sl g m l) (hf:(AV.sl g m l).fit s.o=true) (hi:s.ev ix= .int k n)
  (ht:elemA P t=some (e,m,by')) (h0:0≤n) (hc:l[n.toNat]? =some c):Step P B ⟨dst,.indexAddr t x ix,ty,pos,after,gd⟩ s (s.put dst (.vptr g c 0)):=
 dF fun G a w r=>by
  obtain ⟨ad,cap,hv,hl,h⟩:=r.slv hx hf
  have hlt:=(List.getElem?_eq_some_iff.1 hc).1
  rcases h with ⟨h,_⟩|⟨b,f,rfl,hg,htg,hr⟩
  ·rw [h] at hlt;simp at hlt
  ·refine ⟨.pointer (some ⟨b,f+n.toNat * m,none⟩),?_,?_⟩
   ·simp only [execOp,hv,r.intv hi]
    simp [run_indexAt ht b f l.length cap k n h0 (by omega)]
   ·simp only [R]
    obtain ⟨f1,f2,f3,cs,hfe,hn,hcs,hone,hrc,_,_⟩:=vF hr hc
    have:f2=[]:=by
     have:=congrArg List.length hfe
     simp at this
     exact List.eq_nil_of_length_eq_zero (by omega)
    subst this
    exact .inr ⟨trivial,b,f+n.toNat * m,cs,by simp,htg,hcs,hone,hrc⟩
def bCq (P:Program) (t:TypeId):Option (Nat×Nat):=
 match P.underlying t with
 |some (.array n e)=>(P.info? e).map fun i=>(n,i.size)
 |_=>none
theorem aM2 (t:TypeId) (x ix:Operand) {i ver idx off len sz:Nat} {ob:aA} {k:IntKind} {n:Int} (hx:s.ev x= .ptr i ver idx off) (ho:AV.isObj s.o i ver=some ob) (hi:s.ev ix= .int k n)
  (ht:bCq P t=some (len,sz)) (h0:0≤n) (h1:n < len):Step P B ⟨dst,.indexAddr t x ix,ty,pos,after,gd⟩ s (s.put dst (.ptr i ver idx (off+n.toNat * sz))):=
 dF fun G a w r=>by
  obtain ⟨g,b,f,hl,hlive,ha,hv⟩:=r.ptr hx ho
  refine ⟨.pointer (some ⟨b,f+(idx * ob.n+(off+n.toNat * sz)),none⟩),?_,?_⟩
  ·unfold bCq at ht
   split at ht
   ·rename_i n' e' hu
    cases hi':P.info? e' with
    |none=>simp [hi'] at ht
    |some inf=>
     simp [hi'] at ht
     obtain ⟨rfl,rfl⟩:=ht
     simp [execOp,hv,r.intv hi,Instr.indexAt,asIntOf,run_underlying hu,Instr.sureAddr,h0,h1,sizeOf,typeInfo,hi',addr_add,Nat.add_assoc]
   ·cases ht
  ·simp only [R]
   obtain ⟨h1,h2,h3⟩:=iO ho
   refine ⟨trivial,ob,g,hl,Nat.le_of_eq h3.symm,fun _ _=>⟨b,f,ha,rfl⟩,fun e1 e2 e3 e4 y hy=> ?_⟩
   have h0':off=0:=by omega
   have h0'':n.toNat * sz=0:=by omega
   have:=r.pin hx ho hl e1 e2 e3 h0' y hy
   exact ⟨by rw [←this.1,hv,h0',h0''],this.2⟩
def isSlice (P:Program) (t:TypeId):Bool:=match P.underlying t with|some (.slice _)=>true|_=>false
def isString (P:Program) (t:TypeId):Bool:=match P.underlying t with|some .string=>true|_=>false
theorem aF0 {t:TypeId} (h:isSlice P t=true):∃e,P.underlying t=some (.slice e):=by
 unfold isSlice at h;split at h
 ·rename_i e he;exact ⟨e,he⟩
 ·cases h
theorem mR {t:TypeId} (h:isString P t=true):P.underlying t=some .string:=by
 unfold isString at h;split at h
 ·assumption
 ·cases h
theorem aRe (t:TypeId) (x:Operand) {i ver:Nat} {ob:aA} (hx:s.ev x= .obj i ver) (ho:AV.isObj s.o i ver=some ob) (ht:isSlice P t=true):
  Step P B ⟨dst,.call {callee:= .builtin .len,args:=#[x],argTypes:=#[t]},ty,pos,after,gd⟩ s (s.put dst (.int .i64 ob.els.length)):=
 dF fun G a w r=>by
  obtain ⟨g,hl,hlive,hv⟩:=r.objv hx ho
  obtain ⟨e,he⟩:=aF0 ht
  exact ⟨.int .i64 ob.els.length,by simp [execOp,resolve,invoke,builtin,hv,Builtin.len_,run_underlying he,goInt],by simp [R]⟩
theorem aVe (t:TypeId) (x:Operand) {g:Tg} {n:Nat} {l:List (List AV)} (hx:s.ev x= .sl g n l) (hf:(AV.sl g n l).fit s.o=true) (ht:isSlice P t=true):
  Step P B ⟨dst,.call {callee:= .builtin .len,args:=#[x],argTypes:=#[t]},ty,pos,after,gd⟩ s (s.put dst (.int .i64 l.length)):=
 dF fun G a w r=>by
  obtain ⟨ad,cap,hv,_⟩:=r.slv hx hf
  obtain ⟨e,he⟩:=aF0 ht
  exact ⟨.int .i64 l.length,by simp [execOp,resolve,invoke,builtin,hv,Builtin.len_,run_underlying he,goInt],by simp [R]⟩
theorem size_mk (l:List UInt8):(⟨l.toArray⟩:ByteArray).size=l.length:=by show l.toArray.size=_;simp
theorem aSz (t:TypeId) (x:Operand) {l:List UInt8} (hx:s.ev x= .str l) (ht:isString P t=true):
  Step P B ⟨dst,.call {callee:= .builtin .len,args:=#[x],argTypes:=#[t]},ty,pos,after,gd⟩ s (s.put dst (.int .i64 l.length)):=
 dF fun G a w r=>by
  have hv:=r.strv hx
  have he:=mR ht
  exact ⟨.int .i64 l.length,by simp [execOp,resolve,invoke,builtin,hv,Builtin.len_,run_underlying he,goInt,size_mk],by simp [R]⟩
theorem aMy (t:TypeId) (x ix:Operand) {l:List UInt8} {k:IntKind} {n:Int} {u:UInt8} (hx:s.ev x= .str l) (hi:s.ev ix= .int k n) (ht:isString P t=true) (h0:0≤n) (hu:l[n.toNat]? =some u):
  Step P B ⟨dst,.index t x ix,ty,pos,after,gd⟩ s (s.put dst (.int .u8 u.toNat)):=
 dF fun G a w r=>by
  have hv:=r.strv hx
  have he:=mR ht
  have hlt:=(List.getElem?_eq_some_iff.1 hu).1
  have hg:(⟨l.toArray⟩:ByteArray)[n.toNat]? =some u:=by
   rw [getElem?_pos (⟨l.toArray⟩:ByteArray) n.toNat (by simpa [size_mk] using hlt)]
   obtain ⟨_,rfl⟩:=List.getElem?_eq_some_iff.1 hu
   rfl
  exact ⟨.int .u8 u.toNat,by simp [execOp,hv,r.intv hi,Instr.index,asIntOf,run_underlying he,h0,hg],by simp [R]⟩
theorem aRz (x:Operand) (ix:Nat) {c:List AV} {y:AV} (hx:s.ev x= .tup c) (hy:c[ix]? =some y):Step P B ⟨dst,.extract x ix,ty,pos,after,gd⟩ s (s.put dst y):=
 dF fun G a w r=>by
  have h:=r.ev x
  rw [hx] at h
  simp only [R] at h
  obtain ⟨cs,hv,hr⟩:=h
  obtain ⟨v,hv',hR⟩:=aDl hr hy
  exact ⟨v,by simp [execOp,hv,Instr.extract,hv'],hR⟩
theorem aPv (f:FuncId) (cap:Array Operand):Step P B ⟨dst,.makeFunc (.func f) #[] cap,ty,pos,after,gd⟩ s (s.put dst (.fn f (s.args cap))):=
 dF fun G a w r=>by
  refine ⟨.func (.func f) #[] (cap.map a.eval),by simp [execOp,Instr.makeFunc],?_⟩
  simp only [R]
  refine ⟨trivial,cap.toList.map a.eval,?_,pK r cap.toList⟩
  congr 1
  apply Array.ext';simp
theorem bCh (t:TypeId) (x:Operand) {b:Bool} (hx:s.ev x= .bool b):Step P B ⟨dst,.unOp .not t x,ty,pos,after,gd⟩ s (s.put dst (.bool !b)):=
 dF fun G a w r=>⟨.bool !b,by simp [execOp,r.boolv hx,Op.unary],by simp [R]⟩
theorem bCt (t:TypeId) (x:Operand) {k:IntKind} {n:Int} (hx:s.ev x= .int k n):Step P B ⟨dst,.unOp .neg t x,ty,pos,after,gd⟩ s (s.put dst (.int k (k.wrap (0 - n)))):=
 dF fun G a w r=>⟨.int k (k.wrap (0 - n)),by simp [execOp,r.intv hx,Op.unary,Op.intArith],by simp [R]⟩
theorem bAu (c x y:Operand) {b:Bool} (hc:s.ev c= .bool b):Step P B ⟨dst,.pick c x y,ty,pos,after,gd⟩ s (s.put dst (if b then s.ev x else s.ev y)):=
 dF fun G a w r=>⟨if b then a.eval x else a.eval y,by simp [execOp,r.boolv hc,asBool],by cases b;exact r.ev y;exact r.ev x⟩
def xW (op:BinOp) (k:IntKind) (a b:Int):Int:=match op with
 | .and=>k.wrap ((BitVec.ofInt k.bits a&&& BitVec.ofInt k.bits b).toNat)
 | .or=>k.wrap ((BitVec.ofInt k.bits a |||BitVec.ofInt k.bits b).toNat)
 |_=>k.wrap ((BitVec.ofInt k.bits a ^^^ BitVec.ofInt k.bits b).toNat)
def aX8 (k:IntKind) (a b:Int):Int:=a.fdiv (2 ^ min b.toNat k.bits)
def aHj (op:BinOp) (k:IntKind) (a b:Int):Option AV:=
 match op with
 | .add=>some (.int k (k.wrap (a+b)))
 | .sub=>some (.int k (k.wrap (a - b)))
 | .mul=>some (.int k (k.wrap (a * b)))
 | .quo=>if b=0 then none else some (.int k (k.wrap (a.tdiv b)))
 | .rem=>if b=0 then none else some (.int k (a.tmod b))
 | .eql=>some (.bool (a == b))
 | .neq=>some (.bool (a != b))
 | .lss=>some (.bool (decide (a < b)))
 | .leq=>some (.bool (decide (a≤b)))
 | .gtr=>some (.bool (decide (a > b)))
 | .geq=>some (.bool (decide (a≥b)))
 | .and=>some (.int k (xW .and k a b))
 | .or=>some (.int k (xW .or k a b))
 | .xor=>some (.int k (xW .xor k a b))
 | .shr=>if b < 0 then none else some (.int k (aX8 k a b))
 |_=>none
theorem bCc (t t2:TypeId) (x y:Operand) {k k':IntKind} {m n:Int} (hx:s.ev x= .int k m) (hy:s.ev y= .int k' n) (hn:0≤n):
  Step P B ⟨dst,.binOp .shr t x y t2,ty,pos,after,gd⟩ s (s.put dst (.int k (aX8 k m n))):=
 dF fun G a w r=>by
  have hv:=r.intv hx
  have hv2:=r.intv hy
  have hn2:¬n < 0:=by omega
  exact ⟨.int k (aX8 k m n),(by simp [execOp,hv,hv2,eqGuard_at_int,binOp,Op.shift,hn2,aX8]),by simp [R]⟩
theorem bAx (op:BinOp) (t t2:TypeId) (x y:Operand) {k:IntKind} {m n:Int} (hop:op= .and∨op= .or∨op= .xor) (hx:s.ev x= .int k m) (hy:s.ev y= .int k n):
  Step P B ⟨dst,.binOp op t x y t2,ty,pos,after,gd⟩ s (s.put dst (.int k (xW op k m n))):=
 dF fun G a w r=>by
  have hv:=r.intv hx
  have hv2:=r.intv hy
  refine ⟨.int k (xW op k m n),?_,by simp [R]⟩
  rcases hop with rfl|rfl|rfl<;>simp [execOp,hv,hv2,eqGuard_at_int,binOp,Op.intBits,xW]
theorem bCn (op : BinOp) (t t2 : TypeId) (x y : Operand) {k k' : IntKind} {m n : Int} {z : AV} (hx : s.ev x = .int k m) (hy' : s.ev y = .int k' n) (hkk : k' = k ∨ op = .shr) (hz : aHj op k m n = some z) :
    Step P B ⟨dst, .binOp op t x y t2, ty, pos, after, gd⟩ s (s.put dst z) := by
  by_cases hsh : op = .shr
  · subst hsh
    simp only [aHj] at hz
    split at hz
    · cases hz
    · obtain rfl := Option.some.inj hz
      exact bCc t t2 x y hx hy' (by omega)
  have hy := hy'
  rw [hkk.resolve_right hsh] at hy
  by_cases hop : op = .and ∨ op = .or ∨ op = .xor
  · have e : z = .int k (xW op k m n) := by rcases hop with rfl | rfl | rfl <;> exact (Option.some.inj hz).symm
    subst e
    exact bAx op t t2 x y hop hx hy
  · refine dF fun G a w r => ?_
    have hv := r.intv hx
    have hv2 := r.intv hy
    cases op <;> simp only [aHj] at hz <;> first | cases hz; done | exact (hsh rfl).elim | exact (hop (.inl rfl)).elim | exact (hop (.inr (.inl rfl))).elim | exact (hop (.inr (.inr rfl))).elim | skip
    all_goals first
      | (obtain rfl := Option.some.inj hz; exact ⟨_, (by simp [execOp, hv, hv2, eqGuard_at_int, binOp, Op.intArith, Op.intCmp]; rfl), by simp [R]⟩)
      | (split at hz
         · cases hz
         · rename_i hb; obtain rfl := Option.some.inj hz; exact ⟨_, (by simp [execOp, hv, hv2, eqGuard_at_int, binOp, Op.intDiv, hb]; rfl), by simp [R]⟩)
      | cases hz
end
end Go.Aw

namespace Go.Aw
def zeroSz (P:Program) (e:TypeId) (n:Nat):Bool:=
 match (P.info? e).bind (·.zero) with
 |some z=>z.cells.size == n
 |none=>false
theorem zC {P:Program} [aB P] {e:TypeId} {n:Nat} {inf:TypeInfo} (h:zeroSz P e n=true) (hi:P.info? e=some inf):∃z,inf.zero=some z∧z.cells.size=n:=by
 unfold zeroSz at h
 cases hz:inf.zero with
 |none=>simp [hi,hz] at h
 |some z=>exact ⟨z,rfl,by simpa [hi,hz] using h⟩
def AS.target (s:AS) (n:Nat):AV→Option (Nat×aA×AS)
 | .obj i v=>match AV.isObj s.o i v with
  |some ob=>if ob.box=false∧ob.n=n then some (i,ob,s) else none
  |none=>none
 | .sl .own _ []=>some (s.o.length,⟨true,false,n,0,[]⟩,⟨s.t,s.o++[⟨true,false,n,0,[]⟩]⟩)
 |_=>none
def AS.source (s:AS) (i n:Nat):AV→Option (List (List AV)×List aA)
 | .obj j v=>match AV.isObj s.o j v with
  |some ob=>if ob.box=false∧ob.n=n∧j≠i then some (ob.els,s.o.set j ob.kill) else none
  |none=>none
 | .sl .own _ []=>some ([],s.o)
 | .sl .view m l=>if m=n then some (l,s.o) else none
 | .str l=>if n=1 then some (l.map fun u=>[.int .u8 u.toNat],s.o) else none
 |_=>none
def AS.appended (s:AS) (o:List aA) (d:Option Tmp) (i:Nat) (ob:aA) (l2:List (List AV)):AS:=
 AS.put ⟨s.t,o.set i {ob with ver:=ob.ver+1,els:=ob.els++l2}⟩ d (.obj i (ob.ver+1))
def appendable (P:Program) (t:TypeId):Bool:=match P.underlying t with|some (.slice _)=>true|some .string=>true|_=>false
theorem aCe {P:Program} [aB P] {t:TypeId} (h:appendable P t=true):∃d,P.underlying t=some d∧∀k,d≠ .int k:=by
 unfold appendable at h
 split at h
 ·exact ⟨_,‹_›,by simp⟩
 ·exact ⟨_,‹_›,by simp⟩
 ·cases h
theorem aY7 (w:World) (E:Env):∀l:List UInt8,Rv w E (l.map fun u=>[.int .u8 u.toNat]) (l.map fun u=> .int .u8 u.toNat) 1 []
 |[]=>by simp [Rv]
 |u::t=>by
  simp only [List.map_cons,Rv]
  exact ⟨[.int .u8 u.toNat],_,[],[],rfl,rfl,by simp [Value.oneCell'],by simp [Rc,R],aY7 w E t,rfl⟩
section
variable {P : Program} [aB P] {B : Base P} {s : AS} {dst : Option Tmp} {ty : TypeId} {pos : String} {after : Array Edge} {gd : Option (Nat × Bool)}
theorem bG.target {G:List CO} {a:Act} {w:World} (r:bG B s G a w) {x:Operand} {n i:Nat} {ob:aA} {s1:AS} (ht:s.target n (s.ev x)=some (i,ob,s1)):
  ∃G1 g,bG B s1 G1 a w∧Aw.look s1.o G1 i ob g∧ob.live=true∧ob.box=false∧ob.n=n∧a.eval x= .slice g.a ob.els.length g.cap∧s1.t=s.t:=by
 cases hx:s.ev x with
 |obj j v=>
  rw [hx] at ht
  simp only [AS.target] at ht
  cases ho:AV.isObj s.o j v with
  |none=>simp [ho] at ht
  |some o=>
   simp only [ho] at ht
   split at ht
   ·rename_i hc
    simp only [Option.some.injEq,Prod.mk.injEq] at ht
    obtain ⟨rfl,rfl,rfl⟩:=ht
    obtain ⟨g,hl,hlive,hv⟩:=r.objv hx ho
    exact ⟨G,g,r,hl,hlive,hc.1,hc.2,hv,rfl⟩
   ·cases ht
 |sl g m l=>
  rw [hx] at ht
  cases g with
  |own=>
   cases l with
   |nil=>
    simp only [AS.target,Option.some.injEq,Prod.mk.injEq] at ht
    obtain ⟨rfl,rfl,rfl⟩:=ht
    obtain ⟨ad,cap,hv,_,h⟩:=r.slv hx rfl
    have hcap:cap=0:=by
     rcases h with h|⟨_,_,_,h,_⟩
     ·exact h.2 rfl
     ·exact absurd rfl h
    subst hcap
    have hadd:=r.add [⟨true,false,n,0,[]⟩] [⟨ad,0,fun _=>False⟩] w rfl (Nat.le_refl _) (fun _ _=>rfl) (fun j ob g b hl _ hF=>by
     cases j with
     |zero=>obtain ⟨_,h2⟩:=hl;simp at h2;subst h2;exact hF.elim
     |succ j=>simp [Aw.look] at hl) (fun i j _ _ gi _ b hi hj _ _ hfi _=>by
     cases i with
     |zero=>obtain ⟨_,h2⟩:=hi;simp at h2;subst h2;exact hfi.elim
     |succ i=>simp [Aw.look] at hi) (fun k j ob g hl _=>by
     cases j with
     |zero=>
      obtain ⟨h1,h2⟩:=hl
      simp at h1 h2
      subst h1;subst h2
      exact ⟨[],⟨by simp,.inl ⟨rfl,rfl,rfl⟩⟩,by simp,by simp⟩
     |succ j=>simp [Aw.look] at hl)
    refine ⟨_,⟨ad,0,fun _=>False⟩,hadd.1,⟨by simp,by rw [←r.len];simp⟩,rfl,rfl,rfl,?_,rfl⟩
    simpa using hv
   |cons _ _=>cases ht
  |view=>simp [AS.target] at ht
  |dep _=>simp [AS.target] at ht
 |int _ _=>rw [hx] at ht;simp [AS.target] at ht
 |bool _=>rw [hx] at ht;simp [AS.target] at ht
 |str _=>rw [hx] at ht;simp [AS.target] at ht
 |vptr _ _ _=>rw [hx] at ht;simp [AS.target] at ht
 |ptr _ _ _ _=>rw [hx] at ht;simp [AS.target] at ht
 |agg _=>rw [hx] at ht;simp [AS.target] at ht
 |tup _=>rw [hx] at ht;simp [AS.target] at ht
 |fn _ _=>rw [hx] at ht;simp [AS.target] at ht
 |undef=>rw [hx] at ht;simp [AS.target] at ht
theorem aQs {s s1:AS} (h:s1.t=s.t) (x:Operand):s1.ev x=s.ev x:=by cases x<;>simp [AS.ev,h]
theorem aUg (tS xT:TypeId) (x y:Operand) {e:TypeId} {n by' i:Nat} {ob:aA} {s1:AS} {l2:List (List AV)} {o2:List aA} (he:elemA P tS=some (e,n,by')) (hz:zeroSz P e n=true) (hxt:appendable P xT=true)
  (ht:s.target n (s.ev x)=some (i,ob,s1)) (hs:s1.source i n (s.ev y)=some (l2,o2))
  (hbytes:(ob.els.length+l2.length) * by'≤140737488355328) (h63:ob.els.length+l2.length≤9223372036854775807):
  Step P B ⟨dst,.call {callee:= .builtin .append,args:=#[x,y],argTypes:=#[tS,xT]},ty,pos,after,gd⟩ s (s.appended o2 dst i ob l2):=
 nD fun G0 a w r0=>by
  obtain ⟨hu,inf,hi,hsz,hby⟩:=nO he
  obtain ⟨z,hz1,hz2⟩:=zC hz hi
  obtain ⟨G,g,r,hl,hlive,hbox,hn,hv,hst⟩:=r0.target ht
  have hev:=aQs hst y
  rw [←hev] at hs
  have hexec:∀{v w'},(Builtin.append_ #[tS,xT] ty #[.slice g.a ob.els.length g.cap,a.eval y]).run P w= .ok v w'→(execOp a.eval ⟨dst,.call {callee:= .builtin .append,args:=#[x,y],argTypes:=#[tS,xT]},ty,pos,after,gd⟩).run P w= .ok (.value v) w':=by
   intro v w' h
   simp [execOp,resolve,invoke,builtin,hv,h]
  obtain ⟨fp,hown,hnd,hF⟩:=r.ok i ob g hl hlive
  rw [hbox] at hown
  have fin:∀{s2:AS} {G2:List CO} {g2:CO} {news:List Value} {fp2:List Nat},bG B s2 G2 a w→Aw.look s2.o G2 i ob g2→g2.a=g.a→g2.cap=g.cap→s2.t=s1.t→s2.o=o2→
    (Builtin.lenOf (a.eval y)).run P w= .ok l2.length w→(∀w',w'.heap=w.heap→(Builtin.firstCells ob.n l2.length (a.eval y)).run P w'= .ok news.toArray w')→
    Rv w (env B s2.o G2 w).plain l2 news ob.n fp2→kX w (env B s2.o G2 w).plain ob.n ob.els g2.a g2.cap fp→(fp++fp2).Nodup→(∀b∈fp++fp2,g2.F b)→
    ∃v w',(execOp a.eval ⟨dst,.call {callee:= .builtin .append,args:=#[x,y],argTypes:=#[tS,xT]},ty,pos,after,gd⟩).run P w= .ok (.value v) w'∧Rel B (s.appended o2 dst i ob l2) (a.put dst v) w':=by
   intro s2 G2 g2 news fp2 r2 hl2 ha hc hst2 ho2 hlen hnews hrv hown2 hnd2 hF2
   obtain ⟨v,w',G',hrun,hr',hR⟩:=r2.append (P:=P) (ty:=ty) hl2 hlive hbox hu (aCe hxt) hi hz1 (by rw [hsz,hn]) (by rw [hz2,hn]) hlen hnews hrv hown2 hnd2 hF2 (by rw [hby];exact hbytes) h63
   rw [ha,hc] at hrun
   refine ⟨v,w',hexec hrun,G',?_⟩
   have:=hr'.put dst hR
   rw [ho2,hst2,hst] at this
   exact this
  cases hy:s1.ev y with
  |obj j ver=>
   rw [hy] at hs
   simp only [AS.source] at hs
   cases ho:AV.isObj s1.o j ver with
   |none=>simp [ho] at hs
   |some oj=>
    simp only [ho] at hs
    split at hs
    ·rename_i hc
     simp only [Option.some.injEq,Prod.mk.injEq] at hs
     obtain ⟨rfl,rfl⟩:=hs
     obtain ⟨gj,hlj,hlj',hvj⟩:=r.objv hy ho
     have htr:=r.transfer (i:=i) (j:=j) (Ne.symm hc.2.2) hl hlj hlive hlj'
     obtain ⟨fj,hownj,hndj,hFj⟩:=r.ok j oj gj hlj hlj'
     rw [hc.1] at hownj
     obtain ⟨fp2,hfp2s,hfp2n,news,hrv,hnews⟩:∃fp2:List Nat,(∀b∈fp2,b∈fj)∧fp2.Nodup∧∃news,Rv w (env B s1.o G w).plain oj.els news ob.n fp2∧∀w',w'.heap=w.heap→(Builtin.firstCells ob.n oj.els.length (.slice gj.a oj.els.length gj.cap)).run P w'= .ok news.toArray w':=by
      have hnn:oj.n=ob.n:=by rw [hc.2.1,hn]
      rcases hownj.2 with ⟨h1,h2,h3⟩|⟨b,off,C,ety,fz,fps,ha,hb,hz',k1,k2,k3,rfl,hr⟩
      ·refine ⟨[],by simp,by simp,[],by rw [h1];simp [Rv],fun w' _=> ?_⟩
       rw [h1]
       cases hga:gj.a with
       |none=>simp [Builtin.firstCells]
       |some a'=>simp [Builtin.firstCells,loadCells,loadCellsFrom]
      ·obtain ⟨vs,hv',hc'⟩:=qA.1 hr
       refine ⟨fps,fun b hb=>List.mem_cons_of_mem _ hb,(List.nodup_cons.1 hndj).2,vs,by rw [←hnn];exact hv',fun w' hw'=> ?_⟩
       rw [ha,←hnn]
       exact rQ (jY hv') (hc'.heap hw')
     have hlook2:Aw.look (s1.o.set j oj.kill) (G.set i {g with F:=fun b=>g.F b∨gj.F b}) i ob {g with F:=fun b=>g.F b∨gj.F b}:=by
      refine ⟨by rw [List.getElem?_set_ne hc.2.2];exact hl.1,?_⟩
      have:=(List.getElem?_eq_some_iff.1 hl.2).1
      simp [this]
     refine fin htr.1 hlook2 rfl rfl rfl rfl (by rw [hvj];simp [Builtin.lenOf]) (by rw [hvj];exact hnews) (qU htr.2.plain (fun _ _=>rfl) hrv) (hown.keeps htr.2.plain (fun _ _=>rfl)) ?_ ?_
     ·refine List.nodup_append.2 ⟨hnd,hfp2n,fun b hb b' hb' e=> ?_⟩
      subst e
      exact hc.2.2 (r.apart j i _ _ _ _ b hlj hl hlj' hlive (hFj b (hfp2s b hb')) (hF b hb))
     ·intro b hb
      rcases List.mem_append.1 hb with hb|hb
      ·exact .inl (hF b hb)
      ·exact .inr (hFj b (hfp2s b hb))
    ·cases hs
  |sl tg m l=>
   rw [hy] at hs
   have hdone:∀{news:List Value},s1.o=o2→(Builtin.lenOf (a.eval y)).run P w= .ok l2.length w→(∀w',w'.heap=w.heap→(Builtin.firstCells ob.n l2.length (a.eval y)).run P w'= .ok news.toArray w')→
     Rv w (env B s1.o G w).plain l2 news ob.n []→_:=fun {news} h1 h2 h3 h4=>fin (news:=news) (fp2:=[]) r hl rfl rfl rfl h1 h2 h3 h4 hown (by simpa using hnd) (by simpa using hF)
   cases tg with
   |own=>
    cases l with
    |nil=>
     simp only [AS.source,Option.some.injEq,Prod.mk.injEq] at hs
     obtain ⟨rfl,rfl⟩:=hs
     obtain ⟨ad,cap,hvy,_,_⟩:=r.slv hy rfl
     refine hdone (news:=[]) rfl (by rw [hvy];simp [Builtin.lenOf]) (fun w' _=> ?_) (by simp [Rv])
     rw [hvy]
     cases ad with
     |none=>simp [Builtin.firstCells]
     |some a'=>simp [Builtin.firstCells,loadCells,loadCellsFrom]
    |cons _ _=>cases hs
   |view=>
    simp only [AS.source] at hs
    split at hs
    ·rename_i hm
     subst hm
     simp only [Option.some.injEq,Prod.mk.injEq] at hs
     obtain ⟨rfl,rfl⟩:=hs
     obtain ⟨ad,cap,hvy,_,h⟩:=r.slv hy rfl
     rcases h with ⟨rfl,_⟩|⟨b,f,rfl,_,_,hr⟩
     ·refine hdone (news:=[]) rfl (by rw [hvy];simp [Builtin.lenOf]) (fun w' _=> ?_) (by simp [Rv])
      rw [hvy]
      cases ad with
      |none=>simp [Builtin.firstCells]
      |some a'=>simp [Builtin.firstCells,loadCells,loadCellsFrom]
     ·obtain ⟨vs,hv',hc'⟩:=qA.1 hr
      refine hdone (news:=vs) rfl (by rw [hvy];simp [Builtin.lenOf]) (fun w' hw'=> ?_) (by rw [hn];exact hv')
      rw [hvy,hn]
      exact rQ (jY hv') (hc'.heap hw')
    ·cases hs
   |dep _=>cases hs
  |str l=>
   rw [hy] at hs
   simp only [AS.source] at hs
   split at hs
   ·rename_i h1
    simp only [Option.some.injEq,Prod.mk.injEq] at hs
    obtain ⟨rfl,rfl⟩:=hs
    have hvy:=r.strv hy
    refine fin (news:=l.map fun u=> .int .u8 u.toNat) (fp2:=[]) r hl rfl rfl rfl rfl (by rw [hvy];simp [Builtin.lenOf,size_mk]) (fun w' _=> ?_) ?_ hown (by simpa using hnd) (by simpa using hF)
    ·rw [hvy]
     have:(⟨l.toArray⟩:ByteArray).extract 0 (l.map fun u=>[AV.int .u8 u.toNat]).length=⟨l.toArray⟩:=by
      have e:(l.map fun u=>[AV.int .u8 u.toNat]).length=(⟨l.toArray⟩:ByteArray).size:=by simp [size_mk]
      rw [e,ByteArray.extract_zero_size]
     simp only [Builtin.firstCells,this]
     simp
    ·rw [hn,h1]
     exact aY7 _ _ l
   ·cases hs
  |int _ _=>rw [hy] at hs;cases hs
  |bool _=>rw [hy] at hs;cases hs
  |vptr _ _ _=>rw [hy] at hs;cases hs
  |ptr _ _ _ _=>rw [hy] at hs;cases hs
  |agg _=>rw [hy] at hs;cases hs
  |tup _=>rw [hy] at hs;cases hs
  |fn _ _=>rw [hy] at hs;cases hs
  |undef=>rw [hy] at hs;cases hs
end
end Go.Aw

namespace Go.Aw
def AS.bound (s:AS) (d:Nat):Option Operand→Option Nat
 |none=>some d
 |some x=>match s.ev x with
  | .int _ n=>if 0≤n then some n.toNat else none
  |_=>none
section
variable {P : Program} [aB P] {B : Base P} {s : AS} {dst : Option Tmp} {ty : TypeId} {pos : String} {after : Array Edge} {gd : Option (Nat × Bool)}
theorem aEr {G:List CO} {a:Act} {w:World} (r:bG B s G a w) {isS:Bool} {len cap lo hi:Nat} {lx hx:Option Operand} (hl:s.bound 0 lx=some lo) (hh:s.bound len hx=some hi) (h1:lo≤hi) (h2:hi≤len) (h3:len≤cap):
  (Instr.sliceBounds isS len cap (lx.map a.eval) (hx.map a.eval) none).run P w= .ok (lo,hi,cap) w:=by
 have bnd:∀{x:Operand} {d n:Nat} {y:Nat} {code:BoundsCode},s.bound d (some x)=some n→n≤y→(Instr.sliceBound (a.eval x) y code).run P w= .ok n w:=by
  intro x d n y code h hy
  simp only [AS.bound] at h
  cases hx:s.ev x with
  |int k m=>
   simp only [hx] at h
   split at h
   ·rename_i h0
    obtain rfl:=Option.some.inj h
    rw [r.intv hx]
    simp [Instr.sliceBound,asIntOf,h0]
    omega
   ·cases h
  |_=>simp [hx] at h
 cases lx with
 |none=>
  simp only [AS.bound,Option.some.injEq] at hl
  subst hl
  cases hx with
  |none=>
   simp only [AS.bound,Option.some.injEq] at hh
   subst hh
   simp [Instr.sliceBounds]
  |some y=>
   have:=bnd (code:=if isS then .sliceAcap else .sliceAlen) hh (Nat.le_trans h2 h3)
   simp [Instr.sliceBounds,this]
 |some x=>
  have hb:=fun (c:BoundsCode)=>bnd (code:=c) hl h1
  cases hx with
  |none=>
   simp only [AS.bound,Option.some.injEq] at hh
   subst hh
   simp [Instr.sliceBounds,hb]
  |some y=>
   have:=bnd (code:=if isS then .sliceAcap else .sliceAlen) hh (Nat.le_trans h2 h3)
   simp [Instr.sliceBounds,this,hb]
theorem extract_mk (l:List UInt8) (a b:Nat) (h:b≤l.length):(⟨l.toArray⟩:ByteArray).extract a b=⟨((l.take b).drop a).toArray⟩:=by
 apply ByteArray.ext
 simp [ByteArray.data_extract,List.drop_take]
theorem aNf (t:TypeId) (x:Operand) (lx hx:Option Operand) {l:List UInt8} {lo hi:Nat} (hs:s.ev x= .str l) (ht:isString P t=true) (hl:s.bound 0 lx=some lo) (hh:s.bound l.length hx=some hi) (h1:lo≤hi) (h2:hi≤l.length):
  Step P B ⟨dst,.slice t x lx hx none,ty,pos,after,gd⟩ s (s.put dst (.str ((l.take hi).drop lo))):=
 dF fun G a w r=>by
  have hv:=r.strv hs
  have he:=mR ht
  have hb:=aEr (P:=P) r (isS:=false) hl (by rw [←size_mk l] at hh;exact hh) h1 (by rw [size_mk];exact h2) (Nat.le_refl (⟨l.toArray⟩:ByteArray).size)
  refine ⟨.string ⟨((l.take hi).drop lo).toArray⟩,?_,by simp [R]⟩
  rw [←extract_mk l lo hi h2]
  simp [execOp,hv,Instr.sliceAt,Instr.slice,run_underlying he,hb]
theorem bAt {w:World} {E:Env} {l:List (List AV)} {b f n lo hi:Nat} (h1:lo≤hi) (h2:hi≤l.length) {fp:List Nat} (h:Rr w E l b f n fp):
  ∃f1 f2 f3,fp=f1++f2++f3∧Rr w E ((l.take hi).drop lo) b (f+lo * n) n f2:=by
 have e:l=(l.take hi).take lo++((l.take hi).drop lo++l.drop hi):=by rw [←List.append_assoc,List.take_append_drop,List.take_append_drop]
 rw [e] at h
 obtain ⟨f1,g,rfl,_,h3⟩:=zW.1 h
 obtain ⟨f2,f3,rfl,h4,_⟩:=zW.1 h3
 have:((l.take hi).take lo).length=lo:=by simp;omega
 rw [this] at h4
 exact ⟨f1,f2,f3,by simp,h4⟩
theorem aKk {α:Type} (l:List α) {lo hi:Nat} (h1:lo≤hi) (h2:hi≤l.length):((l.take hi).drop lo).length=hi - lo:=by simp;omega
theorem aQe (t:TypeId) (x:Operand) (lx hx:Option Operand) {g:Tg} {n:Nat} {l:List (List AV)} {e by' lo hi:Nat} (hs:s.ev x= .sl g n l) (hf:(AV.sl g n l).fit s.o=true) (ht:elemA P t=some (e,n,by'))
  (hl:s.bound 0 lx=some lo) (hh:s.bound l.length hx=some hi) (h1:lo≤hi) (h2:hi≤l.length):
  Step P B ⟨dst,.slice t x lx hx none,ty,pos,after,gd⟩ s (s.put dst (.sl g n ((l.take hi).drop lo))):=
 dF fun G a w r=>by
  obtain ⟨hu,inf,hi',hsz,_⟩:=nO ht
  obtain ⟨ad,cap,hv,hlen,h⟩:=r.slv hs hf
  have hb:=aEr (P:=P) r (isS:=true) hl hh h1 h2 hlen.2
  have hsl:=aKk l h1 h2
  refine ⟨.slice (if cap=lo then ad else ad.map (·.add (lo * n))) (hi - lo) (cap - lo),?_,?_⟩
  ·simp [execOp,hv,Instr.sliceAt,Instr.slice,run_underlying hu,hb,sizeOf,typeInfo,hi',hsz]
  ·simp only [R]
   refine .inr ⟨_,_,by rw [hsl],⟨by rw [hsl];omega,by rw [hsl];omega⟩,?_⟩
   rcases h with ⟨rfl,hcap⟩|⟨b,f,rfl,hg,htg,hr⟩
   ·by_cases hg:g= .own
    ·exact .inl ⟨hg,by simp,by rw [hcap hg];simp,trivial⟩
    ·exact .inr (.inr ⟨hg,trivial,.inl (by simp)⟩)
   ·refine .inr (.inr ⟨hg,trivial,?_⟩)
    by_cases hc:cap=lo
    ·left
     exact List.eq_nil_of_length_eq_zero (by rw [hsl];omega)
    ·right
     obtain ⟨f1,f2,f3,hfe,hr'⟩:=bAt h1 h2 hr
     have:f2=[]:=by
      have:=congrArg List.length hfe
      simp at this
      exact List.eq_nil_of_length_eq_zero (by omega)
     subst this
     exact ⟨b,f+lo * n,by simp [hc,addr_add],htg,hr'⟩
def AS.resliced (s:AS) (d:Option Tmp) (i:Nat) (ob:aA) (l:List (List AV)):AS:=
 AS.put ⟨s.t,s.o.set i {ob with ver:=ob.ver+1,els:=l}⟩ d (.obj i (ob.ver+1))
theorem aMu (t:TypeId) (x:Operand) (lx hx:Option Operand) {i ver:Nat} {ob:aA} {e by' lo hi:Nat} (hs:s.ev x= .obj i ver) (ho:AV.isObj s.o i ver=some ob) (hbox:ob.box=false) (ht:elemA P t=some (e,ob.n,by'))
  (hl:s.bound 0 lx=some lo) (hh:s.bound ob.els.length hx=some hi) (h1:lo≤hi) (h2:hi≤ob.els.length):
  Step P B ⟨dst,.slice t x lx hx none,ty,pos,after,gd⟩ s (s.resliced dst i ob ((ob.els.take hi).drop lo)):=
 nD fun G a w r=>by
  obtain ⟨hu,inf,hi',hsz,_⟩:=nO ht
  obtain ⟨g,hlk,hlive,hv⟩:=r.objv hs ho
  obtain ⟨fp,⟨hlen,hown⟩,hnd,hF⟩:=r.ok i ob g hlk hlive
  have hcap:ob.els.length≤g.cap:=by
   rcases hown with h|⟨_,_,_,_,_,_,_,_,_,_,h,_⟩
   ·simp [h.1]
   ·exact h
  have hb:=aEr (P:=P) r (isS:=true) hl hh h1 h2 hcap
  have hsl:=aKk ob.els h1 h2
  have hrun:(execOp a.eval ⟨dst,.slice t x lx hx none,ty,pos,after,gd⟩).run P w= .ok (.value (.slice (if g.cap=lo then g.a else g.a.map (·.add (lo * ob.n))) (hi - lo) (g.cap - lo))) w:=by
   simp [execOp,hv,Instr.sliceAt,Instr.slice,run_underlying hu,hb,sizeOf,typeInfo,hi',hsz]
  have hblk:∀a',(if g.cap=lo then g.a else g.a.map (·.add (lo * ob.n)))=some a'→∃a0,g.a=some a0∧a'.block=a0.block:=by
   intro a' h
   split at h
   ·exact ⟨a',h,rfl⟩
   ·cases hga:g.a with
    |none=>simp [hga] at h
    |some a0=>
     simp only [hga,Option.map_some,Option.some.injEq] at h
     refine ⟨a0,rfl,?_⟩
     rw [←h];unfold Addr.add;split<;>rfl
  have hm:=r.modify hlk hlive {ob with ver:=ob.ver+1,els:=(ob.els.take hi).drop lo} ⟨(if g.cap=lo then g.a else g.a.map (·.add (lo * ob.n))),g.cap - lo,g.F⟩ w (by simp) rfl (by simp) (fun b hb=> .inl hb) (fun b hb hne=>⟨hb,fun a' ha'=>by
    obtain ⟨a0,h0,hbe⟩:=hblk a' ha'
    rw [hbe];exact hne a0 h0⟩) (fun _ _ _=>rfl) (Nat.le_refl _) (fun k _=>by
   generalize env B (s.o.set i {ob with ver:=ob.ver+1,els:=(ob.els.take hi).drop lo}) (G.set i ⟨(if g.cap=lo then g.a else g.a.map (·.add (lo * ob.n))),g.cap - lo,g.F⟩) w=E' at k⊢
   simp only [aAx,hbox,Env.of,Bool.false_eq_true,if_false]
   rw [hbox] at hown
   simp only [Env.of,Bool.false_eq_true,if_false] at hown
   rcases hown with ⟨h,hc0,_⟩|⟨b,f,C,ety,fz,fps,ha,hbk,hz,k1,k2,k3,rfl,hr⟩
   ·exact ⟨[],⟨by rw [hsl];omega,.inl ⟨by rw [h];simp,by rw [hc0];simp,rfl⟩⟩,by simp,by simp⟩
   ·obtain ⟨f1,f2,f3,rfl,hr'⟩:=bAt h1 h2 hr
    by_cases hc:g.cap=lo
    ·exact ⟨[],⟨by rw [hsl];omega,.inl ⟨List.eq_nil_of_length_eq_zero (by rw [hsl];omega),by omega,rfl⟩⟩,by simp,by simp⟩
    ·have hsub:f2.Sublist (f1++f2++f3):=(List.sublist_append_right f1 f2).trans (List.sublist_append_left _ _)
     have hmul:(g.cap - lo) * ob.n+lo * ob.n=g.cap * ob.n:=by rw [←Nat.add_mul];congr 1;omega
     refine ⟨b::f2,⟨by rw [hsl];omega,.inr ⟨b,f+lo * ob.n,C,ety,fz,f2,by simp [hc,ha,addr_add],hbk,hz,by omega,by rw [hsl];omega,by omega,rfl,kK k.plain _ _ _ _ _ rfl (fun _ _=>rfl) hr'⟩⟩,?_,?_⟩
     ·exact List.nodup_cons.2 ⟨fun h=>(List.nodup_cons.1 hnd).1 (hsub.subset h),hsub.nodup (List.nodup_cons.1 hnd).2⟩
     ·intro x hx
      rcases List.mem_cons.1 hx with rfl|hx
      ·exact hF x (by simp)
      ·exact hF x (List.mem_cons_of_mem _ (hsub.subset hx)))
  refine ⟨_,w,hrun,_,hm.1.put dst ?_⟩
  simp only [R]
  have hiG:i < G.length:=(List.getElem?_eq_some_iff.1 hlk.2).1
  have hio:i < s.o.length:=(List.getElem?_eq_some_iff.1 hlk.1).1
  exact ⟨trivial,_,_,⟨by simp [hio];rfl,by simp [hiG];rfl⟩,Nat.le_refl _,fun _ _=>by simp [hsl],fun h=>by omega⟩
end
end Go.Aw

namespace Go.Aw
def toV:AV→Value
 | .int k n=> .int k n
 | .bool b=> .bool b
 | .str s=> .string ⟨s.toArray⟩
 |_=> .tuple #[]
def AV.scalar:AV→Bool
 | .int _ _=>true
 | .bool _=>true
 | .str _=>true
 |_=>false
theorem bDj {w:World} {E:Env} {x:AV} {v:Value} {fp:List Nat} (hs:x.scalar=true) (h:R w E x v fp):v=toV x:=by
 cases x<;>simp only [AV.scalar] at hs<;>first|cases hs;done|skip
 all_goals first|(simp only [R] at h;exact h.1)|cases hs
theorem aHl {w:World} {E:Env}:∀{c:List AV} {cs:List Value} {fp:List Nat},c.all AV.scalar=true→Rc w E c cs fp→cs=c.map toV
 |[],[],_,_,_=>rfl
 |[],_::_,_,_,h=>by simp [Rc] at h
 |_::_,[],_,_,h=>by simp [Rc] at h
 |x::xs,c::cs,fp,hs,h=>by
  simp only [Rc] at h
  simp only [List.all_cons,Bool.and_eq_true] at hs
  obtain ⟨f1,f2,h1,h2,_⟩:=h
  simp [bDj hs.1 h1,aHl hs.2 h2]
def EqA (P:Program) (t:TypeId) (c1 c2:List AV) (b:Bool):Prop:=
 ∀(op:BinOp) (x y:Operand) (w:World),(op= .eql∨op= .neq)→
  (do eqGuard op t x y (.agg (c1.map toV).toArray) (.agg (c2.map toV).toArray);binOp op t (.agg (c1.map toV).toArray) (.agg (c2.map toV).toArray):Sem Value).run P w=
   .ok (.bool (if op= .eql then b else !b)) w
def boolType (P:Program) (t:TypeId):Bool:=match P.underlying t with|some .bool=>true|_=>false
def intType (P:Program) (t:TypeId):Option IntKind:=match P.underlying t with|some (.int k)=>some k|_=>none
section
variable {P : Program} [aB P] {B : Base P} {s : AS} {dst : Option Tmp} {ty : TypeId} {pos : String} {after : Array Edge} {gd : Option (Nat × Bool)}
theorem bG.aggv {G:List CO} {a:Act} {w:World} (r:bG B s G a w) {x:Operand} {c:List AV} (hx:s.ev x= .agg c) (hs:c.all AV.scalar=true):a.eval x= .agg (c.map toV).toArray:=by
 have h:=r.ev x
 rw [hx] at h
 simp only [R] at h
 obtain ⟨cs,hv,_,hr⟩:=h
 rw [hv,aHl hs hr]
theorem aUe (op:BinOp) (t t2:TypeId) (x y:Operand) {c1 c2:List AV} {b:Bool} (hop:op= .eql∨op= .neq) (hx:s.ev x= .agg c1) (hy:s.ev y= .agg c2) (h1:c1.all AV.scalar=true) (h2:c2.all AV.scalar=true) (he:EqA P t c1 c2 b):
  Step P B ⟨dst,.binOp op t x y t2,ty,pos,after,gd⟩ s (s.put dst (.bool (if op= .eql then b else !b))):=
 dF fun G a w r=>by
  have e:=he op x y w hop
  refine ⟨.bool (if op= .eql then b else !b),?_,by simp [R]⟩
  simp only [execOp,r.aggv hx h1,r.aggv hy h2]
  rw [show (do let v←(do eqGuard op t x y (.agg (c1.map toV).toArray) (.agg (c2.map toV).toArray);binOp op t (.agg (c1.map toV).toArray) (.agg (c2.map toV).toArray));pure (Next.value v):Sem Next).run P w=
   ((do eqGuard op t x y (.agg (c1.map toV).toArray) (.agg (c2.map toV).toArray);binOp op t (.agg (c1.map toV).toArray) (.agg (c2.map toV).toArray):Sem Value).run P w).andThen fun v w'=> .ok (Next.value v) w' from by simp only [Sem.run_bind,Sem.run_pure]]
  rw [e]
  rfl
theorem run_equalIn_bool (w:World) (d:Nat) {t:TypeId} (hu:P.underlying t=some .bool) (b1 b2:Bool):(Op.equalIn (d+1) t (.bool b1) (.bool b2)).run P w= .ok (b1 == b2) w:=by
 simp only [Op.equalIn,Sem.run_bind,run_underlying hu,Result.andThen_ok,Sem.run_pure]
theorem aQ5 (op:BinOp) (t t2:TypeId) (x y:Operand) {b1 b2:Bool} (hop:op= .eql∨op= .neq) (hx:s.ev x= .bool b1) (hy:s.ev y= .bool b2) (ht:boolType P t=true):
  Step P B ⟨dst,.binOp op t x y t2,ty,pos,after,gd⟩ s (s.put dst (.bool (if op= .eql then b1 == b2 else b1 != b2))):=
 dF fun G a w r=>by
  have hu:P.underlying t=some .bool:=by unfold boolType at ht;split at ht;assumption;cases ht
  have hE:(Op.equal t (.bool b1) (.bool b2)).run P w= .ok (b1 == b2) w:=by
   exact run_equalIn_bool w 9999 hu b1 b2
  refine ⟨.bool (if op= .eql then b1 == b2 else b1 != b2),?_,by simp [R]⟩
  simp only [execOp,r.boolv hx,r.boolv hy,eqGuard_at_bool,pure_bind]
  rcases hop with rfl|rfl
  ·simp only [binOp,Sem.run_bind,hE,Result.andThen_ok,Sem.run_pure,if_true]
  ·simp only [binOp,Sem.run_bind,hE,Result.andThen_ok,Sem.run_pure]
   rfl
theorem toList_mk (l:List UInt8):(⟨l.toArray⟩:ByteArray).toList=l:=by rw [ByteArray.toList_eq]
theorem aZr (l m:List UInt8):(⟨l.toArray⟩:ByteArray)++⟨m.toArray⟩=⟨(l++m).toArray⟩:=by
 apply ByteArray.ext
 simp [ByteArray.data_append]
def aJ4 (op:BinOp) (a b:List UInt8):Option AV:=
 match op with
 | .add=>some (.str (a++b))
 | .eql=>some (.bool (a == b))
 | .neq=>some (.bool (!(a == b)))
 | .lss=>some (.bool (Op.bytesLess a b))
 | .leq=>some (.bool (Op.bytesLess a b || a == b))
 | .gtr=>some (.bool (!(Op.bytesLess a b || a == b)))
 | .geq=>some (.bool (!Op.bytesLess a b))
 |_=>none
theorem bCl (op:BinOp) (t t2:TypeId) (x y:Operand) {l m:List UInt8} {z:AV} (hx:s.ev x= .str l) (hy:s.ev y= .str m) (hz:aJ4 op l m=some z) (hle:op= .add→l.length+m.length≤9223372036854775807):
  Step P B ⟨dst,.binOp op t x y t2,ty,pos,after,gd⟩ s (s.put dst z):=
 dF fun G a w r=>by
  have hv:=r.strv hx
  have hv2:=r.strv hy
  have hexec:∀{v:Value},(Op.stringOp op ⟨l.toArray⟩ ⟨m.toArray⟩).run P w= .ok v w→(execOp a.eval ⟨dst,.binOp op t x y t2,ty,pos,after,gd⟩).run P w= .ok (.value v) w:=by
   intro v h
   have hb:binOp op t (.string ⟨l.toArray⟩) (.string ⟨m.toArray⟩)=Op.stringOp op ⟨l.toArray⟩ ⟨m.toArray⟩:=by cases op<;>rfl
   simp [execOp,hv,hv2,eqGuard_at_string,hb,h]
  cases op<;>simp only [aJ4] at hz<;>first|cases hz;done|skip
  case add=>
   have hle:=hle rfl
   obtain rfl:=Option.some.inj hz
   refine ⟨.string ⟨(l++m).toArray⟩,hexec ?_,by simp [R]⟩
   have h0:¬(9223372036854775807 < ((l.length:Int)+(m.length:Int))):=by omega
   simp only [Op.stringOp,size_mk,aZr]
   simp [h0]
  all_goals first
   |(obtain rfl:=Option.some.inj hz;exact ⟨_,hexec (by simp only [Op.stringOp,toList_mk,Sem.run_pure];rfl),by simp [R]⟩)
   |cases hz
theorem aPn (src d:TypeId) (x:Operand) {k k':IntKind} {n:Int} (hx:s.ev x= .int k n) (hd:intType P d=some k') (hs:(P.underlying src).isSome=true):
  Step P B ⟨dst,.convert src d x,ty,pos,after,gd⟩ s (s.put dst (.int k' (k'.wrap n))):=
 dF fun G a w r=>by
  obtain ⟨ds,hds⟩:=Option.isSome_iff_exists.1 hs
  have hu:P.underlying d=some (.int k'):=by
   unfold intType at hd
   split at hd
   ·obtain rfl:=Option.some.inj hd;assumption
   ·cases hd
  exact ⟨.int k' (k'.wrap n),by simp [execOp,r.intv hx,convert,run_underlying hds,run_underlying hu,Conv.intToInt],by simp [R]⟩
theorem aPb (src d:TypeId) (x:Operand) {l:List UInt8} (hx:s.ev x= .str l) (hd:isString P d=true) (hs:isString P src=true):
  Step P B ⟨dst,.convert src d x,ty,pos,after,gd⟩ s (s.put dst (.str l)):=
 dF fun G a w r=>by
  exact ⟨.string ⟨l.toArray⟩,by simp [execOp,r.strv hx,convert,run_underlying (mR hs),run_underlying (mR hd)],by simp [R]⟩
def bytesOf:List (List AV)→Option (List UInt8)
 |[]=>some []
 |[.int .u8 n]::r=>(bytesOf r).map (UInt8.ofNat n.toNat:: ·)
 |_=>none
theorem aSu {w:World} {E:Env}:∀{l:List (List AV)} {vs:List Value} {fp:List Nat} {bs:List UInt8},bytesOf l=some bs→Rv w E l vs 1 fp→∃ns:List Int,vs=ns.map (.int .u8)∧bs=ns.map fun n=>UInt8.ofNat n.toNat
 |[],vs,_,bs,hb,h=>by
  simp only [bytesOf,Option.some.injEq] at hb
  simp only [Rv] at h
  exact ⟨[],by simp [h.1],by simp [←hb]⟩
 |e::es,vs,fp,bs,hb,h=>by
  match e,hb with
  |[.int .u8 n],hb=>
   simp only [bytesOf] at hb
   cases hr:bytesOf es with
   |none=>simp [hr] at hb
   |some b2=>
    simp only [hr,Option.map_some,Option.some.injEq] at hb
    simp only [Rv] at h
    obtain ⟨cs,rest,f1,f2,rfl,hn,_,hrc,hrest,_⟩:=h
    obtain ⟨ns,rfl,rfl⟩:=aSu hr hrest
    have:=aHl (c:=[.int .u8 n]) (by simp [AV.scalar]) hrc
    exact ⟨n::ns,by simp [this,toV],by simp [←hb]⟩
theorem aIl (P:Program) (w:World) {body:Value→ByteArray→Sem (ForInStep ByteArray)} (hb:∀n r,body (.int .u8 n) r=pure (ForInStep.yield (r.push (UInt8.ofNat n.toNat)))):∀(ns:List Int) (s0:ByteArray),
  (forIn (m:=Sem) (ns.map (Value.int .u8)) s0 body).run P w= .ok ⟨s0.data++(ns.map fun n=>UInt8.ofNat n.toNat).toArray⟩ w
 |[],s0=>by simp
 |n::ns,s0=>by
  simp only [List.map_cons,List.forIn_cons,hb,pure_bind]
  rw [aIl P w hb ns]
  congr 2
  apply Array.ext'
  simp [ByteArray.push]
theorem aB6 {G:List CO} {a:Act} {w:World} (r:bG B s G a w) {x:Operand} {ad:Option Addr} {b f cap:Nat} {l:List (List AV)} {E:Env} {bs:List UInt8} {fp:List Nat} (hv:a.eval x= .slice ad l.length cap)
  (hb:bytesOf l=some bs) (h:l=[]∨(ad=some ⟨b,f,none⟩∧Rr w E l b f 1 fp)):(Conv.bytesToString (a.eval x)).run P w= .ok (.string ⟨bs.toArray⟩) w:=by
 rw [hv]
 obtain ⟨vs,hvs,ns,hns,hbs,hlen⟩:∃vs:List Value,(∀a',ad=some a'→(loadCells a' l.length).run P w= .ok vs.toArray w)∧∃ns:List Int,vs=ns.map (.int .u8)∧bs=(ns.map fun n=>UInt8.ofNat n.toNat)∧vs.length=l.length:=by
  rcases h with rfl|⟨rfl,hr⟩
  ·simp only [bytesOf,Option.some.injEq] at hb
   refine ⟨[],fun a' _=>by simp [loadCells,loadCellsFrom],[],rfl,by simp [←hb],rfl⟩
  ·obtain ⟨vs,hv',hc'⟩:=qA.1 hr
   have hl:=jY hv'
   obtain ⟨ns,h1,h2⟩:=aSu hb hv'
   refine ⟨vs,fun a' ha'=> ?_,ns,h1,h2,by simpa using hl⟩
   obtain rfl:=Option.some.inj ha'
   have:=hc'.run (P:=P)
   rwa [hl,Nat.mul_one] at this
 cases ad with
 |none=>
  have hl0:l=[]:=by
   rcases h with h|h
   ·exact h
   ·cases h.1
  subst hl0
  have:vs=[]:=List.eq_nil_of_length_eq_zero (by simpa using hlen)
  subst this
  have:ns=[]:=by simpa using hns.symm
  subst this
  subst hbs
  simp [Conv.bytesToString]
  rfl
 |some a'=>
  subst hns
  subst hbs
  simp only [Conv.bytesToString,Sem.run_bind,hvs a' rfl,Result.andThen_ok]
  simp only [List.forIn_toArray]
  rw [aIl P w (fun _ _=>rfl) ns ByteArray.empty]
  simp
theorem aEw (src d:TypeId) (x:Operand) {g:Tg} {l:List (List AV)} {e:TypeId} {by':Nat} {bs:List UInt8} (hx:s.ev x= .sl g 1 l) (hf:(AV.sl g 1 l).fit s.o=true) (hd:isString P d=true) (hs:elemA P src=some (e,1,by')) (he:intType P e=some .u8)
  (hb:bytesOf l=some bs):Step P B ⟨dst,.convert src d x,ty,pos,after,gd⟩ s (s.put dst (.str bs)):=
 dF fun G a w r=>by
  obtain ⟨hu,_⟩:=nO hs
  have hue:P.underlying e=some (.int .u8):=by
   unfold intType at he
   split at he
   ·obtain rfl:=Option.some.inj he;assumption
   ·cases he
  obtain ⟨ad,cap,hv,_,h⟩:=r.slv hx hf
  have hrun:(Conv.bytesToString (a.eval x)).run P w= .ok (.string ⟨bs.toArray⟩) w:=by
   rcases h with ⟨rfl,_⟩|⟨b,f,rfl,_,_,hr⟩
   ·exact aB6 (b:=0) (f:=0) (E:=mP) (fp:=[]) r hv hb (.inl rfl)
   ·exact aB6 r hv hb (.inr ⟨rfl,hr⟩)
  refine ⟨.string ⟨bs.toArray⟩,?_,by simp [R]⟩
  rw [hv] at hrun
  simp [execOp,hv,convert,run_underlying hu,run_underlying (mR hd),run_underlying hue,hrun]
theorem aFs (src d:TypeId) (x:Operand) {i ver:Nat} {ob:aA} {e:TypeId} {by':Nat} {bs:List UInt8} (hx:s.ev x= .obj i ver) (ho:AV.isObj s.o i ver=some ob) (hd:isString P d=true) (hs:elemA P src=some (e,1,by')) (hn:ob.n=1) (he:intType P e=some .u8)
  (hb:bytesOf ob.els=some bs):Step P B ⟨dst,.convert src d x,ty,pos,after,gd⟩ s (s.put dst (.str bs)):=
 dF fun G a w r=>by
  obtain ⟨hu,_⟩:=nO hs
  have hue:P.underlying e=some (.int .u8):=by
   unfold intType at he
   split at he
   ·obtain rfl:=Option.some.inj he;assumption
   ·cases he
  obtain ⟨g,hl,hlive,hv⟩:=r.objv hx ho
  obtain ⟨fp,⟨_,hown⟩,_,_⟩:=r.ok i ob g hl hlive
  have hrun:(Conv.bytesToString (a.eval x)).run P w= .ok (.string ⟨bs.toArray⟩) w:=by
   rcases hown with ⟨h,_⟩|⟨b,f,C,ety,fz,fps,ha,_,_,_,_,_,_,hr⟩
   ·exact aB6 (b:=0) (f:=0) (E:=mP) (fp:=[]) r hv hb (.inl h)
   ·rw [hn] at hr;exact aB6 r hv hb (.inr ⟨ha,hr⟩)
  refine ⟨.string ⟨bs.toArray⟩,?_,by simp [R]⟩
  rw [hv] at hrun
  simp [execOp,hv,convert,run_underlying hu,run_underlying (mR hd),run_underlying hue,hrun]
end
end Go.Aw

namespace Go.Aw
def aQo (j:Nat) (o:List aA):List aA:=match o[j]? with
 |some ob=>o.set j ob.kill
 |none=>o
def kills:List Nat→List aA→List aA
 |[],o=>o
 |j::u,o=>kills u (aQo j o)
section
variable {P : Program} [aB P] {B : Base P} {s : AS} {dst : Option Tmp} {ty : TypeId} {pos : String} {after : Array Edge} {gd : Option (Nat × Bool)}
theorem bG.transfers {a:Act} {w:World} {k:Nat} {ok:aA} (hlive:ok.live=true):∀(u:List Nat) {s:AS} {G:List CO} {g:CO},bG B s G a w→Aw.look s.o G k ok g→u.Nodup→k∉u→(∀j∈u,∃ob,s.o[j]? =some ob∧ob.live=true)→
  ∃G' g',bG B ⟨s.t,kills u s.o⟩ G' a w∧bP w (env B s.o G w) w (env B (kills u s.o) G' w)∧Aw.look (kills u s.o) G' k ok g'∧g'.a=g.a∧g'.cap=g.cap∧(∀b,g'.F b↔g.F b∨Of s.o G u b)
 |[],s,G,g,r,hl,_,_,_=>⟨G,g,r,bP.refl _ _,hl,rfl,rfl,fun b=>⟨.inl,fun h=>h.elim id (fun ⟨i,_,_,hi,_⟩=>by simp at hi)⟩⟩
 |j::u,s,G,g,r,hl,hn,hk,hu=>by
  simp only [List.mem_cons,not_or] at hk
  obtain ⟨oj,hoj,hjl⟩:=hu j (by simp)
  obtain ⟨gj,hlj⟩:=r.look hoj
  have htr:=r.transfer hk.1 hl hlj hlive hjl
  have hk1:aQo j s.o=s.o.set j oj.kill:=by simp [aQo,hoj]
  have hlk:Aw.look (s.o.set j oj.kill) (G.set k {g with F:=fun b=>g.F b∨gj.F b}) k ok {g with F:=fun b=>g.F b∨gj.F b}:=by
   refine ⟨by rw [List.getElem?_set_ne (Ne.symm hk.1)];exact hl.1,?_⟩
   have:=(List.getElem?_eq_some_iff.1 hl.2).1
   simp [this]
  have hnu:=List.nodup_cons.1 hn
  obtain ⟨G',g',r',k',hl',ha,hc,hF⟩:=bG.transfers hlive u htr.1 hlk hnu.2 hk.2 (fun i hi=>by
   obtain ⟨ob,h1,h2⟩:=hu i (by simp [hi])
   have hne:i≠j:=fun e=>hnu.1 (e▸hi)
   exact ⟨ob,by simp only;rw [List.getElem?_set_ne (Ne.symm hne)];exact h1,h2⟩)
  refine ⟨G',g',by rw [kills,hk1];exact r',by rw [kills,hk1];exact htr.2.trans k',by rw [kills,hk1];exact hl',ha,hc,fun b=> ?_⟩
  rw [hF b]
  have hOf:Of (s.o.set j oj.kill) (G.set k {g with F:=fun b=>g.F b∨gj.F b}) u b↔Of s.o G u b:=by
   constructor
   ·rintro ⟨i,ob,gi,hi,hli,hil,hf⟩
    have hne:i≠j:=fun e=>hnu.1 (e▸hi)
    have hnk:i≠k:=fun e=>hk.2 (e▸hi)
    exact ⟨i,ob,gi,hi,⟨by have:=hli.1;rwa [List.getElem?_set_ne (Ne.symm hne)] at this,by have:=hli.2;rwa [List.getElem?_set_ne (Ne.symm hnk)] at this⟩,hil,hf⟩
   ·rintro ⟨i,ob,gi,hi,hli,hil,hf⟩
    have hne:i≠j:=fun e=>hnu.1 (e▸hi)
    have hnk:i≠k:=fun e=>hk.2 (e▸hi)
    exact ⟨i,ob,gi,hi,⟨by rw [List.getElem?_set_ne (Ne.symm hne)];exact hli.1,by rw [List.getElem?_set_ne (Ne.symm hnk)];exact hli.2⟩,hil,hf⟩
  rw [hOf]
  constructor
  ·rintro ((h|h)|⟨i,ob,gi,hi,h⟩)
   ·exact .inl h
   ·exact .inr ⟨j,oj,gj,by simp,hlj,hjl,h⟩
   ·exact .inr ⟨i,ob,gi,by simp [hi],h⟩
  ·rintro (h|⟨i,ob,gi,hi,hli,h⟩)
   ·exact .inl (.inl h)
   ·rcases List.mem_cons.1 hi with rfl|hi
    ·obtain ⟨rfl,rfl⟩:=gL hlj hli
     exact .inl (.inr h.2)
    ·exact .inr ⟨i,ob,gi,hi,hli,h⟩
mutual
theorem aXf {o : List aA} : ∀ {av : AV}, eB o av = true → ∀ j ∈ uses av, ∃ ob, o[j]? = some ob ∧ ob.live = true
  | .obj i ver, h, j, hj => by
    simp only [uses, List.mem_singleton] at hj
    subst hj
    simp only [eB] at h
    cases ho : AV.isObj o j ver with
    | none => simp [ho] at h
    | some ob => have := iO ho; exact ⟨ob, this.1, this.2.1⟩
  | .agg c, h, j, hj => vE (by simpa [eB] using h) j (by simpa [uses] using hj)
  | .tup c, h, j, hj => vE (by simpa [eB] using h) j (by simpa [uses] using hj)
  | .int _ _, _, j, hj => by simp [uses] at hj
  | .bool _, _, j, hj => by simp [uses] at hj
  | .str _, _, j, hj => by simp [uses] at hj
  | .sl _ _ _, _, j, hj => by simp [uses] at hj
  | .vptr _ _ _, _, j, hj => by simp [uses] at hj
  | .ptr _ _ _ _, _, j, hj => by simp [uses] at hj
  | .fn _ _, _, j, hj => by simp [uses] at hj
  | .undef, _, j, hj => by simp [uses] at hj
theorem vE {o : List aA} : ∀ {c : List AV}, iW o c = true → ∀ j ∈ fK c, ∃ ob, o[j]? = some ob ∧ ob.live = true
  | [], _, j, hj => by simp [fK] at hj
  | x :: xs, h, j, hj => by
    simp only [iW, Bool.and_eq_true] at h
    simp only [fK, List.mem_append] at hj
    rcases hj with hj | hj
    · exact aXf h.1 j hj
    · exact vE h.2 j hj
end
def AV.good:AV→Bool
 | .agg _=>true
 |x=>x.solid
theorem bG8 {w:World} {E:Env} {x:AV} {v:Value} {fp:List Nat} (hg:x.good=true) (h:R w E x v fp):Rc w E x.cells v.cells.toList fp∧(∀c∈v.cells.toList,c.oneCell'=true):=by
 have one:∀{x:AV} {v:Value} {fp:List Nat},R w E x v fp→x.cells=[x]→v.cells=#[v]→v.oneCell'=true→Rc w E x.cells v.cells.toList fp∧(∀c∈v.cells.toList,c.oneCell'=true):=by
  intro x v fp h h1 h2 h3
  rw [h1,h2]
  exact ⟨by simp only [Rc];exact ⟨fp,[],h,rfl,by simp⟩,by simpa using h3⟩
 cases x with
 |int k n=>have h':=h;simp only [R] at h';obtain ⟨rfl,_⟩:=h';exact one h rfl rfl rfl
 |bool b=>have h':=h;simp only [R] at h';obtain ⟨rfl,_⟩:=h';exact one h rfl rfl rfl
 |str b=>have h':=h;simp only [R] at h';obtain ⟨rfl,_⟩:=h';exact one h rfl rfl rfl
 |sl g n l=>
  have h':=h
  simp only [R] at h'
  rcases h' with ⟨hd,_⟩|⟨a,cap,rfl,_⟩
  ·cases g with
   |own=>exact hd.elim
   |view=>exact hd.elim
   |dep i=>cases hg
  ·exact one h rfl rfl rfl
 |vptr g c off=>
  have h':=h
  simp only [R] at h'
  rcases h' with ⟨hd,_⟩|⟨_,b,o,cs,rfl,_⟩
  ·cases g with
   |own=>exact hd.elim
   |view=>exact hd.elim
   |dep i=>cases hg
  ·exact one h rfl rfl rfl
 |agg c=>
  simp only [R] at h
  obtain ⟨cs,rfl,ho,hr⟩:=h
  exact ⟨by simpa [AV.cells,Value.cells] using hr,by simpa [Value.cells] using ho⟩
 |fn f c=>have h':=h;simp only [R] at h';obtain ⟨_,cs,rfl,_⟩:=h';exact one h rfl rfl rfl
 |obj _ _=>cases hg
 |ptr _ _ _ _=>cases hg
 |tup c=>cases hg
 |undef=>cases hg
theorem aHo {w:World} {E:Env} {n:Nat}:∀{xs:List AV} {vs:List Value} {fp:List Nat},Rc w E xs vs fp→(∀x∈xs,x.good=true∧x.cells.length=n)→
  Rv w E (xs.map AV.cells) (vs.flatMap fun v=>v.cells.toList) n fp∧(∀v∈vs,v.cells.size=n)
 |[],[],fp,h,_=>by simp only [Rc] at h;simp [Rv,h]
 |[],_::_,_,h,_=>by simp [Rc] at h
 |_::_,[],_,h,_=>by simp [Rc] at h
 |x::xs,v::vs,fp,h,hg=>by
  simp only [Rc] at h
  obtain ⟨f1,f2,h1,h2,rfl⟩:=h
  have hx:=hg x (by simp)
  have hc:=bG8 hx.1 h1
  have hlen:=dZ hc.1
  have ih:=aHo h2 (fun y hy=>hg y (by simp [hy]))
  constructor
  ·simp only [List.map_cons,List.flatMap_cons,Rv]
   exact ⟨v.cells.toList,_,f1,f2,rfl,by rw [hlen,hx.2],hc.2,hc.1,ih.1,rfl⟩
  ·intro u hu
   rcases List.mem_cons.1 hu with rfl|hu
   ·simpa [hx.2] using hlen
   ·exact ih.2 u hu
theorem foldl_set (off:Nat):∀(l:List Value) (k:Nat) (pre:List Value) (rest:List Value),pre.length=off+k→l.length≤rest.length→
  ((l.zipIdx k).foldl (fun (cs:Array Value) (p:Value×Nat)=>cs.setIfInBounds (off+p.2) p.1) (pre++rest).toArray)=(pre++l++rest.drop l.length).toArray
 |[],k,pre,rest,_,_=>by simp
 |x::xs,k,pre,rest,hp,hl=>by
  cases rest with
  |nil=>simp at hl
  |cons y ys=>
   simp only [List.zipIdx_cons,List.foldl_cons]
   have:(pre++y::ys).toArray.setIfInBounds (off+k) x=((pre++[x])++ys).toArray:=by
    rw [←hp]
    simp
   rw [this,foldl_set off xs (k+1) (pre++[x]) ys (by simp [hp,Nat.add_assoc]) (by simpa using hl)]
   simp
theorem aNw (size:Nat):∀(vs:List Value) (k:Nat) (pre rest:List Value),(∀v∈vs,v.cells.size=size)→pre.length=k * size→rest.length=vs.length * size→
  Instr.fill (fun i=>some (i * size,size)) (pre++rest).toArray ((vs.zipIdx k).map fun p=>(p.2,p.1))=some (pre++vs.flatMap fun v=>v.cells.toList).toArray
 |[],k,pre,rest,_,_,hr=>by
  have:rest=[]:=List.eq_nil_of_length_eq_zero (by simpa using hr)
  subst this
  simp [Instr.fill]
 |v::vs,k,pre,rest,hv,hp,hr=>by
  have h1:=hv v (by simp)
  have hr':rest.length=vs.length * size+size:=by rw [hr];simp [Nat.add_mul]
  simp only [List.zipIdx_cons,List.map_cons,Instr.fill]
  have hc:¬((v.cells.size≠size) || decide (k * size+v.cells.size > (pre++rest).toArray.size))=true:=by
   simp [h1];omega
  rw [if_neg (by simpa using hc)]
  have hz:v.cells.zipIdx.foldl (fun (cs:Array Value) (p:Value×Nat)=>cs.setIfInBounds (k * size+p.2) p.1) (pre++rest).toArray=(pre++v.cells.toList++rest.drop v.cells.toList.length).toArray:=by
   have:=foldl_set (k * size) v.cells.toList 0 pre rest (by simpa using hp) (by simp [h1];omega)
   rw [←this,←Array.foldl_toList,Array.toList_zipIdx]
  rw [hz,aNw size vs (k+1) (pre++v.cells.toList) _ (fun u hu=>hv u (by simp [hu])) (by simp [hp,h1,Nat.add_mul]) (by simp [h1];omega)]
  simp
end
end Go.Aw

namespace Go.Aw
section
variable {P : Program} [aB P] {B : Base P} {s : AS} {dst : Option Tmp} {ty : TypeId} {pos : String} {after : Array Edge} {gd : Option (Nat × Bool)}
theorem bG.storedF {G:List CO} {a:Act} {w:World} (r:bG B s G a w) {i idx off:Nat} {ob:aA} {g:CO} {e c:List AV} {vs:List Value} {fpo fp2:List Nat} (hl:Aw.look s.o G i ob g) (hlive:ob.live=true) (hbox:ob.box=false) (he:ob.els[idx]? =some e)
  (hfit:off+c.length≤e.length) (hone:∀x∈vs,x.oneCell'=true) (hr:Rc w (env B s.o G w).plain c vs fp2)
  (hown:kX w (env B s.o G w).plain ob.n ob.els g.a g.cap fpo) (hnd0:(fpo++fp2).Nodup) (hF0:∀b∈fpo++fp2,g.F b):
  ∃b f,g.a=some ⟨b,f,none⟩∧(storeCells ⟨b,f+(idx * ob.n+off),none⟩ vs).run P w= .ok () (w.setCells b (f+(idx * ob.n+off)) vs)∧
   bG B (s.stored i idx off ob e c) (G.set i g) a (w.setCells b (f+(idx * ob.n+off)) vs):=by
 have hvl:=dZ hr
 rcases hown with ⟨hlen,⟨h,_⟩|⟨b,f,C,ty,fz,fps,ha,hb,hz,h1,h2,h3,rfl,hrr⟩⟩
 ·rw [h] at he;simp at he
 obtain ⟨f1,f2,f3,cs,hfe,hn,hc,hone',hrc,hr1,hr3⟩:=vF hrr he
 have hcl:=dZ hrc
 have hidx:idx < ob.els.length:=(List.getElem?_eq_some_iff.1 he).1
 have hmul:(idx+1) * ob.n≤g.cap * ob.n:=Nat.mul_le_mul_right _ (by omega)
 have hm1:(idx+1) * ob.n=idx * ob.n+ob.n:=by rw [Nat.add_mul];omega
 have hfit':f+(idx * ob.n+off)+vs.length≤C.size:=by omega
 refine ⟨b,f,ha,xN hb hz hfit' hone,?_⟩
 have hbF:g.F b:=hF0 b (by simp)
 have hother:∀b',b'≠b→(w.setCells b (f+(idx * ob.n+off)) vs).heap[b']? =w.heap[b']?:=fun b' hne=>heap_setCells b b' hne _ _ _
 obtain ⟨C',hC',hCs⟩:=uX b ty fz vs (f+(idx * ob.n+off)) w C hb
 have hm:=r.modify hl hlive {ob with els:=ob.els.set idx (e.take off++c++e.drop (off+c.length))} g (w.setCells b (f+(idx * ob.n+off)) vs) (Nat.le_refl _) rfl (fun _=>⟨rfl,rfl,by simp⟩) (fun b hb=> .inl hb) (fun b hb hne=>⟨hb,hne⟩)
  (fun b' hlt hne=>hother b' (fun e=>hne ⟨e▸hbF,⟨b,f,none⟩,ha,e⟩)) (by rw [size_setCells];exact Nat.le_refl _) (fun k _=>by
  generalize env B (s.o.set i {ob with els:=ob.els.set idx (e.take off++c++e.drop (off+c.length))}) (G.set i g) (w.setCells b (f+(idx * ob.n+off)) vs)=E' at k⊢
  have kb:=k.plain
  simp only [aAx,hbox,Env.of,Bool.false_eq_true,if_false]
  obtain ⟨g1,g2,rfl,hc1,hc2⟩:=oN off hrc
  obtain ⟨g3,g4,rfl,hc3,hc4⟩:=oN c.length hc2
  subst hfe
  have hbn0:=hnd0
  simp only [List.cons_append,List.nodup_cons] at hbn0
  obtain ⟨hbn,hnd⟩:=hbn0
  have hp:(f1++(g1++fp2++g4)++f3).Perm ((f1++(g1++g4)++f3)++fp2):=by
   have e1:(g1++fp2++g4++f3).Perm (g1++g4++f3++fp2):=by
    simp only [List.append_assoc]
    refine List.Perm.append_left g1 ?_
    rw [←List.append_assoc g4]
    exact List.perm_append_comm
   simpa only [List.append_assoc] using List.Perm.append_left f1 e1
  have hsub:(f1++(g1++g4)++f3++fp2).Sublist (f1++(g1++(g3++g4))++f3++fp2):=(((List.Sublist.refl f1).append ((List.Sublist.refl g1).append (List.sublist_append_right g3 g4))).append (List.Sublist.refl f3)).append (List.Sublist.refl fp2)
  have hin:∀x,x∈f1++(g1++fp2++g4)++f3→x∈f1++(g1++(g3++g4))++f3++fp2:=fun x hx=>hsub.subset (hp.subset hx)
  have hold:∀x∈f1++(g1++fp2++g4)++f3,(w.setCells b (f+(idx * ob.n+off)) vs).heap[x]? =w.heap[x]?:=fun x hx=>hother x (fun e=>hbn (e▸hin x hx))
  have hout:∀j,j < f+(idx * ob.n+off)∨f+(idx * ob.n+off)+vs.length≤j→(w.setCells b (f+(idx * ob.n+off)) vs).cell? ⟨b,j,none⟩=w.cell? ⟨b,j,none⟩:=fun j hj=>World.cell?_setCells_out b vs _ w _ (fun _ _=>hj)
  have hti:(ob.els.take idx).length=idx:=by simp;omega
  refine ⟨b::(f1++(g1++fp2++g4)++f3),⟨by simpa using hlen,.inr ⟨b,f,C',ty,fz,_,ha,hC',by rw [hCs];exact hz,by rw [hCs];exact h1,by simpa using h2,h3,rfl,?_⟩⟩,?_,?_⟩
  ·show Rr _ _ (ob.els.set idx _) b f ob.n _
   refine aKx (cs:=cs.take off++vs++cs.drop (off+vs.length)) hidx ?_ ?_ ?_ ?_ ?_ ?_
   ·simp only [List.length_append,List.length_take,List.length_drop];omega
   ·have hc1:dE w b (f+idx * ob.n) cs:=hc
    have htl:(cs.take off).length=off:=by simp;omega
    refine dE.append.2 ⟨dE.append.2 ⟨?_,?_⟩,?_⟩
    ·intro j v hv
     have hj:=(List.getElem?_eq_some_iff.1 hv).1
     rw [htl] at hj
     rw [hout _ (by omega)]
     exact hc1.take j v hv
    ·intro j v hv
     have hj:j < vs.length:=(List.getElem?_eq_some_iff.1 hv).1
     rw [htl,Nat.add_assoc f]
     have:=World.cell?_setCells_in b vs (f+(idx * ob.n+off)) w (fun j hj=>by
      have:f+(idx * ob.n+off)+j < C.size:=by omega
      simp [World.cell?,hb,this]) j hj
     rw [this]
     rw [List.getElem?_eq_getElem hj] at hv
     exact hv
    ·intro j v hv
     simp only [List.length_append,htl]
     rw [hout _ (by omega)]
     have:=hc1.drop (k:=off+vs.length) j v hv
     rwa [show f+idx * ob.n+(off+vs.length)+j=f+idx * ob.n+(off+vs.length)+j from rfl] at this
   ·intro x hx
    simp only [List.mem_append] at hx
    rcases hx with (hx|hx)|hx
    ·exact hone' x (List.mem_of_mem_take hx)
    ·exact hone x hx
    ·exact hone' x (List.mem_of_mem_drop hx)
   ·refine gT (gT (dI kb _ _ _ (fun x hx=>hold x (by simp [hx])) hc1) (dI kb _ _ _ (fun x hx=>hold x (by simp [hx])) hr)) ?_
    rw [←hvl,←List.drop_drop,←List.drop_drop] at *
    rw [hvl] at *
    exact dI kb _ _ _ (fun x hx=>hold x (by simp [hx])) hc4
   ·refine aGy kb hout (fun x hx=>hold x (by simp [hx])) (.inl ?_) hr1
    rw [hti];omega
   ·refine aGy kb hout (fun x hx=>hold x (by simp [hx])) (.inr ?_) hr3
    omega
  ·exact List.nodup_cons.2 ⟨fun h=>hbn (hin b h),hp.nodup_iff.2 (hsub.nodup hnd)⟩
  ·intro x hx
   rcases List.mem_cons.1 hx with rfl|hx
   ·exact hbF
   ·exact hF0 x (by
     have:=hin x hx
     simp only [List.cons_append,List.mem_cons]
     exact .inr this))
 exact hm.1
theorem aC8 (o:List aA):∀c:List AV,(jD o c).length=c.length
 |[]=>rfl
 |_::xs=>by simp [jD,aC8 o xs]
def AS.shut (s:AS) (i idx off:Nat) (ob:aA) (e c:List AV):AS:=
 AS.stored ⟨s.t,kills (fK c) s.o⟩ i idx off ob e (jD s.o c)
theorem aJa (t:TypeId) (x y:Operand) {i ver idx off:Nat} {ob:aA} {e:List AV} (hx:s.ev x= .ptr i ver idx off) (ho:AV.isObj s.o i ver=some ob) (he:ob.els[idx]? =some e)
  (hfy:(s.ev y).fit s.o=true) (hsz:sizeA P t=some (s.ev y).cells.length) (hfit:off+(s.ev y).cells.length≤e.length) (hbox:ob.box=false)
  (hok:iW s.o (s.ev y).cells=true) (hu:(fK (s.ev y).cells).Nodup) (hi:i∉fK (s.ev y).cells):
  Step P B ⟨dst,.store t x y,ty,pos,after,gd⟩ s ((s.shut i idx off ob e (s.ev y).cells).put dst .undef):=
 aKa fun G a w r=>by
  obtain ⟨g,b,f,hl,hlive,ha,hv⟩:=r.ptr hx ho
  have hc:=aH0 hfy (r.ev y)
  obtain ⟨fp,hrc,hnd,hOf⟩:=aBm r _ _ hok hu hc.1
  obtain ⟨fpo,hown,hndo,hFo⟩:=r.ok i ob g hl hlive
  simp only [hbox,Env.of,Bool.false_eq_true,if_false] at hown
  obtain ⟨G2,g2,r2,k2,hlk2,ha2,hc2,hF2⟩:=bG.transfers (k:=i) (ok:=ob) hlive _ r hl hu hi (fun j hj=>vE hok j hj)
  have hdis:(fpo++fp).Nodup:=List.nodup_append.2 ⟨hndo,hnd,fun b hb b' hb' e=>by
   subst e
   obtain ⟨j,ob',g',hj,hl',hlive',hF'⟩:=hOf b hb'
   have:=r.apart i j _ _ _ _ b hl hl' hlive hlive' (hFo b hb) hF'
   exact hi (this▸hj)⟩
  obtain ⟨b',f',ha',hst,hrel⟩:=r2.storedF (P:=P) (c:=jD s.o (s.ev y).cells) hlk2 hlive hbox he (by rw [aC8];exact hfit) hc.2.1
   (dI k2.plain _ _ _ (fun _ _=>rfl) hrc) (by rw [ha2,hc2];exact hown.keeps k2.plain (fun _ _=>rfl)) hdis (fun b hb=>by
    rcases List.mem_append.1 hb with hb|hb
    ·exact (hF2 b).2 (.inl (hFo b hb))
    ·exact (hF2 b).2 (.inr (hOf b hb)))
  rw [ha2,ha] at ha'
  simp only [Option.some.injEq,Addr.mk.injEq,and_true] at ha'
  obtain ⟨rfl,rfl⟩:=ha'
  have hlen:=dZ hc.1
  refine ⟨_,?_,_,hrel.put dst (by simp [R])⟩
  unfold sizeA at hsz
  cases hi':P.info? t with
  |none=>simp [hi'] at hsz
  |some inf=>
   simp only [hi',Option.map_some,Option.some.injEq] at hsz
   have hlen':(a.eval y).cells.size=inf.size:=by rw [hsz];simpa using hlen
   simp [execOp,hv,Instr.storeAt,Instr.sureAddr,storeVar,sizeOf,typeInfo,hi',hlen',hst]
end
end Go.Aw

namespace Go.Aw
def AS.built (s:AS) (d:Option Tmp) (n:Nat) (xs:List Operand):AS:=
 AS.put ⟨s.t,(kills (fK (xs.map s.ev)) (s.o++[⟨true,false,n,0,[]⟩])).set s.o.length ⟨true,false,n,1,(jD s.o (xs.map s.ev)).map AV.cells⟩⟩ d (.obj s.o.length 1)
def qG (parts:List (Nat×Operand)):Bool:=go 0 parts
where go : Nat → List (Nat × Operand) → Bool
 |_,[]=>true
 |k,p::r=>p.1 == k&&go (k+1) r
theorem aAt:∀(parts:List (Nat×Operand)) (k:Nat),qG.go k parts=true→parts=((parts.map (·.2)).zipIdx k).map fun p=>(p.2,p.1)
 |[],_,_=>rfl
 |p::r,k,h=>by
  simp only [qG.go,Bool.and_eq_true,beq_iff_eq] at h
  simp only [List.map_cons,List.zipIdx_cons]
  rw [←aAt r (k+1) h.2,←h.1]
section
variable {P : Program} [aB P] {B : Base P} {s : AS} {dst : Option Tmp} {ty : TypeId} {pos : String} {after : Array Edge} {gd : Option (Nat × Bool)}
theorem run_buildSlice {t e:TypeId} {n by' len:Nat} {vs:List Value} {w:World} (he:elemA P t=some (e,n,by')) (hz:zeroSz P e n=true) (hlen:len=vs.length) (hbig:len * n≤16777216) (hv:∀v∈vs,v.cells.size=n):
  (Instr.buildSlice t len ((vs.zipIdx).map fun p=>(p.2,p.1)).toArray).run P w= .ok (.slice (some ⟨w.heap.size,0,none⟩) len len) (w.alloc (.cells (vs.flatMap fun v=>v.cells.toList).toArray e)):=by
 obtain ⟨hu,inf,hi,hs,_⟩:=nO he
 obtain ⟨z,hz1,hz2⟩:=zC hz hi
 have hb:¬(16777216 < len * inf.size):=by rw [hs];omega
 have hf:∀arr:Array Value,arr.size=len * n→Instr.fill (fun i=>some (i * inf.size,inf.size)) arr ((vs.zipIdx).map fun p=>(p.2,p.1))=some (vs.flatMap fun v=>v.cells.toList).toArray:=by
  intro arr ha
  have:=aNw inf.size vs 0 [] arr.toList (by rw [hs];exact hv) (by simp) (by simp [ha,hs,hlen])
  simpa using this
 by_cases h0:len * inf.size=0
 ·have:=hf #[] (by rw [←hs,h0];rfl)
  simp [Instr.buildSlice,run_underlying hu,sizeOf,typeInfo,hi,h0,Array.range_zero',this,newRow]
 ·have:=hf ((Array.range (len * inf.size)).map (z.cells[· % z.cells.size]!)) (by simp [hs])
  simp [Instr.buildSlice,run_underlying hu,sizeOf,typeInfo,hi,hb,h0,zeroValue,hz1,this,newRow]
theorem aL1 (t:TypeId) (len:Nat) (parts:Array (Nat×Operand)) {e:TypeId} {n by':Nat} (he:elemA P t=some (e,n,by')) (hz:zeroSz P e n=true) (hord:qG parts.toList=true) (hlen:len=parts.toList.length) (hbig:len * n≤16777216) (hl24:len≤16777216)
  (hok:iW s.o ((parts.toList.map (·.2)).map s.ev)=true) (hu:(fK ((parts.toList.map (·.2)).map s.ev)).Nodup)
  (hgood:∀x∈jD s.o ((parts.toList.map (·.2)).map s.ev),x.good=true∧x.cells.length=n):
  Step P B ⟨dst,.buildSlice t len parts,ty,pos,after,gd⟩ s (s.built dst n (parts.toList.map (·.2))):=
 nD fun G a w r=>by
  generalize hxs:parts.toList.map (·.2)=xs at *
  have hparts:parts.toList=(xs.zipIdx).map fun p=>(p.2,p.1):=by rw [←hxs];exact aAt _ 0 hord
  obtain ⟨fp,hrc,hnd,hOf⟩:=aBm r _ _ hok hu (pK r xs)
  obtain ⟨hrv,hsz⟩:=aHo hrc hgood
  have hvl:(xs.map a.eval).length=len:=by rw [hlen,←hxs];simp
  have hrun:(execOp a.eval ⟨dst,.buildSlice t len parts,ty,pos,after,gd⟩).run P w= .ok (.value (.slice (some ⟨w.heap.size,0,none⟩) len len)) (w.alloc (.cells ((xs.map a.eval).flatMap fun v=>v.cells.toList).toArray e)):=by
   have e1:parts.map (fun (i,x)=>(i,a.eval x))=(((xs.map a.eval).zipIdx).map fun p=>(p.2,p.1)).toArray:=by
    apply Array.ext'
    simp only [Array.toList_map,hparts,List.map_map,List.zipIdx_map]
    rfl
   have:=run_buildSlice (P:=P) (t:=t) (len:=len) (w:=w) he hz hvl.symm hbig hsz
   simp only [execOp,e1,Sem.run_bind,this,Result.andThen_ok,Sem.run_pure]
  have hadd:=r.add [⟨true,false,n,0,[]⟩] [⟨none,0,fun _=>False⟩] w rfl (Nat.le_refl _) (fun _ _=>rfl) (fun j ob g b hl _ hF=>by
   cases j with
   |zero=>obtain ⟨_,h2⟩:=hl;simp at h2;subst h2;exact hF.elim
   |succ j=>simp [Aw.look] at hl) (fun i j _ _ gi _ b hi hj _ _ hfi _=>by
   cases i with
   |zero=>obtain ⟨_,h2⟩:=hi;simp at h2;subst h2;exact hfi.elim
   |succ i=>simp [Aw.look] at hi) (fun k j ob g hl _=>by
   cases j with
   |zero=>
    obtain ⟨h1,h2⟩:=hl
    simp at h1 h2
    subst h1;subst h2
    exact ⟨[],⟨by simp,.inl ⟨rfl,rfl,rfl⟩⟩,by simp,by simp⟩
   |succ j=>simp [Aw.look] at hl)
  have hlk:Aw.look (s.o++[⟨true,false,n,0,[]⟩]) (G++[⟨none,0,fun _=>False⟩]) s.o.length ⟨true,false,n,0,[]⟩ ⟨none,0,fun _=>False⟩:=⟨by simp,by rw [←r.len];simp⟩
  have hlive:∀j∈fK (xs.map s.ev),∃ob,s.o[j]? =some ob∧ob.live=true:=fun j hj=>vE hok j hj
  have hlt:∀j∈fK (xs.map s.ev),j < s.o.length:=fun j hj=>by obtain ⟨ob,h,_⟩:=hlive j hj;exact (List.getElem?_eq_some_iff.1 h).1
  obtain ⟨G2,g2,r2,k2,hlk2,ha2,hc2,hF2⟩:=bG.transfers (k:=s.o.length) (ok:=⟨true,false,n,0,[]⟩) rfl _ hadd.1 hlk hu (fun h=>by have:=hlt _ h;omega) (fun j hj=>by
   obtain ⟨ob,h1,h2⟩:=hlive j hj
   exact ⟨ob,by simp only;rw [List.getElem?_append_left (hlt j hj)];exact h1,h2⟩)
  have hOf2:∀b∈fp,g2.F b:=fun b hb=>by
   obtain ⟨i,ob,g,hi,hli,hil,hf⟩:=hOf b hb
   exact (hF2 b).2 (.inr ⟨i,ob,g,hi,lQ hli,hil,hf⟩)
  have kk:=(hadd.2.trans k2).plain
  have hfl:∀b∈fp,b < w.heap.size:=fun b hb=>(r2.fresh _ _ _ b hlk2 rfl (hOf2 b hb)).2
  generalize hCd:((xs.map a.eval).flatMap fun v=>v.cells.toList)=cs at *
  have hcl:=jY hrv
  have hself:(w.alloc (.cells cs.toArray e)).heap[w.heap.size]? =some (.cells cs.toArray e):=jP w _
  have hrl:((jD s.o (xs.map s.ev)).map AV.cells).length=len:=by
   have:=dZ hrc
   rw [List.length_map,←this,hvl]
  have hlm:len≤maxLen:=by simp only [maxLen];omega
  have hm:=r2.modify hlk2 rfl ⟨true,false,n,1,(jD s.o (xs.map s.ev)).map AV.cells⟩ ⟨some ⟨w.heap.size,0,none⟩,len,fun b=>g2.F b∨b=w.heap.size⟩ (w.alloc (.cells cs.toArray e)) (by simp) rfl (by simp)
   (fun b hb=>by
    rcases hb with hb|hb
    ·exact .inl hb
    ·right;subst hb;simp) (fun b hb hne=>⟨.inl hb,fun a' ha'=>by
     obtain rfl:=Option.some.inj ha'
     have:=(r2.fresh _ _ _ b hlk2 rfl hb).2
     simp only;omega⟩) (fun b hlt _=>heap_alloc w _ b hlt) (by simp) (fun k _=>by
   refine ⟨w.heap.size::fp,?_,?_,?_⟩
   ·generalize env B _ _ (w.alloc (.cells cs.toArray e))=E' at k⊢
    simp only [Env.of,Bool.false_eq_true,if_false]
    refine ⟨by rw [hrl];exact hlm,.inr ⟨w.heap.size,0,cs.toArray,e,(0,0),fp,rfl,hself,.inr rfl,?_,by rw [hrl];exact Nat.le_refl _,hlm,rfl,?_⟩⟩
    ·simp [hcl]
     rw [←hrl];simp
    ·refine qA.2 ⟨cs,qU k.plain (fun b hb=>heap_alloc w _ b (hfl b hb)) (qU kk (fun _ _=>rfl) hrv),?_⟩
     refine qI hself (fun j v hv=>by simpa using hv)
   ·refine List.nodup_cons.2 ⟨fun h=>by have:=hfl _ h;omega,hnd⟩
   ·intro b hb
    rcases List.mem_cons.1 hb with rfl|hb
    ·exact .inr rfl
    ·exact .inl (hOf2 b hb))
  refine ⟨_,_,hrun,_,hm.1.put dst ?_⟩
  simp only [R]
  have h1:=(List.getElem?_eq_some_iff.1 hlk2.1).1
  have h2:=(List.getElem?_eq_some_iff.1 hlk2.2).1
  refine ⟨trivial,⟨true,false,n,1,(jD s.o (xs.map s.ev)).map AV.cells⟩,⟨some ⟨w.heap.size,0,none⟩,len,fun b=>g2.F b∨b=w.heap.size⟩,⟨?_,?_⟩,Nat.le_refl _,⟨fun _ _=>by simp only [hrl],fun h=>by omega⟩⟩
  ·rw [List.getElem?_set_self h1]
  ·rw [List.getElem?_set_self h2]
def placesA (P:Program) (t:TypeId):Option (List (Nat×Nat)):=
 match P.underlying t with
 |some (.struct fields)=>fields.toList.mapM (fun f=>(P.info? f.type).map fun i=>(f.offset,i.size))
 |some (.array _ e)=>if (P.info? e).isSome then some [] else none
 |_=>none
def aCs (pl:List (Nat×Nat)):List AV→List (Nat×AV)→Option (List AV)
 |cs,[]=>some cs
 |cs,(i,x)::rest=>match pl[i]? with
  |some (off,size)=>if x.cells.length=size∧off+size≤cs.length then aCs pl (cs.take off++x.cells++cs.drop (off+size)) rest else none
  |none=>none
theorem aWa {G:List CO} {a:Act} {w:World} (r:bG B s G a w) (pl:List (Nat×Nat)):∀(parts:List (Nat×Operand)) (cs:List AV) (vs:List Value) (z:List AV),(∀p∈parts,(s.ev p.2).fit s.o=true)→
  Rc w (env B s.o G w) cs vs []→(∀x∈vs,x.oneCell'=true)→aCs pl cs (parts.map fun p=>(p.1,s.ev p.2))=some z→
  ∃vs',Instr.fill (pl.toArray[·]?) vs.toArray (parts.map fun p=>(p.1,a.eval p.2))=some vs'.toArray∧Rc w (env B s.o G w) z vs' []∧∀x∈vs',x.oneCell'=true
 |[],cs,vs,z,_,h,ho,hz=>by
  simp only [List.map_nil,aCs,Option.some.injEq] at hz
  subst hz
  exact ⟨vs,rfl,h,ho⟩
 |(i,x)::rest,cs,vs,z,hf,h,ho,hz=>by
  simp only [List.map_cons,aCs] at hz
  cases hp:pl[i]? with
  |none=>simp [hp] at hz
  |some p=>
   obtain ⟨off,size⟩:=p
   simp only [hp] at hz
   split at hz
   ·rename_i hc
    have hx:=aH0 (hf (i,x) (by simp)) (r.ev x)
    have hxl:=dZ hx.1
    have hl:=dZ h
    obtain ⟨f1,f2,e,h1,h2⟩:=oN off h
    obtain ⟨rfl,rfl⟩:f1=[]∧f2=[]:=by simpa using e.symm
    obtain ⟨f1,f2,e,h3,h4⟩:=oN size h2
    obtain ⟨rfl,rfl⟩:f1=[]∧f2=[]:=by simpa using e.symm
    rw [List.drop_drop,List.drop_drop] at h4
    have hnew:=gT (gT h1 hx.1) h4
    have hvl:(vs.take off).length=off:=by simp;omega
    obtain ⟨vs',h5,h6,h7⟩:=aWa r pl rest _ (vs.take off++(a.eval x).cells.toList++vs.drop (off+size)) z (fun p hp=>hf p (by simp [hp])) hnew (fun y hy=>by
     simp only [List.mem_append] at hy
     rcases hy with (hy|hy)|hy
     ·exact ho y (List.mem_of_mem_take hy)
     ·exact hx.2.1 y hy
     ·exact ho y (List.mem_of_mem_drop hy)) hz
    refine ⟨vs',?_,h6,h7⟩
    simp only [List.map_cons,Instr.fill]
    have hpa:pl.toArray[i]? =some (off,size):=by simpa using hp
    have hsz:(a.eval x).cells.size=size:=by rw [←hc.1,←hxl];simp
    simp only [hpa]
    have hcond:¬(((a.eval x).cells.size≠size) || decide (off+(a.eval x).cells.size > vs.toArray.size))=true:=by
     simp [hsz];omega
    rw [if_neg (by simpa using hcond)]
    have:=foldl_set off (a.eval x).cells.toList 0 (vs.take off) (vs.drop off) (by simpa using hvl) (by simp [hsz];omega)
    rw [List.take_append_drop] at this
    rw [←Array.foldl_toList,Array.toList_zipIdx,this,←h5]
    congr 2
    rw [List.drop_drop]
    simp [hsz]
   ·cases hz
theorem aYn (t:TypeId) (parts:Array (Nat×Operand)) {pl:List (Nat×Nat)} {z0 z:List AV} (hp:placesA P t=some pl) (hz0:zeroA P t=some z0) (hf:∀p∈parts.toList,(s.ev p.2).fit s.o=true)
  (hz:aCs pl z0 (parts.toList.map fun p=>(p.1,s.ev p.2))=some z):Step P B ⟨dst,.build t parts,ty,pos,after,gd⟩ s (s.put dst (.agg z)):=
 dF fun G a w r=>by
  unfold zeroA at hz0
  cases hi:P.info? t with
  |none=>simp [hi] at hz0
  |some inf=>
   cases hv:inf.zero with
   |none=>simp [hi,hv] at hz0
   |some zv=>
    simp only [hi,hv,Option.bind_some] at hz0
    split at hz0
    ·rename_i hall
     obtain rfl:=Option.some.inj hz0
     obtain ⟨vs',h1,h2,h3⟩:=aWa r pl parts.toList _ zv.cells.toList z hf (aA4 w _ _ _) (List.all_eq_true.1 hall) hz
     refine ⟨.agg vs'.toArray,?_,by simp only [R];exact ⟨vs',rfl,h3,h2⟩⟩
     unfold placesA at hp
     split at hp
     ·rename_i fields hu
      have hb:P.built t (parts.map fun p=>(p.1,a.eval p.2)).toList=some vs'.toArray:=by
       simp only [Program.built,hi,hu,hv,hp]
       rw [Array.toList_map,←h1]
      have hrun:=run_build (P:=P) w t (parts.map fun p=>(p.1,a.eval p.2)) vs'.toArray hb
      simp only [execOp,Sem.run_bind]
      rw [show (parts.map fun (x:Nat×Operand)=>match x with|(i,x)=>(i,a.eval x))=parts.map fun p=>(p.1,a.eval p.2) from rfl,hrun]
      rfl
     ·rename_i n e hu
      split at hp
      ·rename_i he
       obtain rfl:=Option.some.inj hp
       obtain ⟨ie,hie⟩:=Option.isSome_iff_exists.1 he
       have hpe:parts.toList=[]:=by
        cases hpl:parts.toList with
        |nil=>rfl
        |cons q qs=>rw [hpl] at hz;simp [aCs] at hz
       have hb:P.built t (parts.map fun p=>(p.1,a.eval p.2)).toList=some vs'.toArray:=by
        simp only [Program.built,hi,hu,hv,hie]
        rw [Array.toList_map,←h1,hpe]
        rfl
       have hrun:=run_build (P:=P) w t (parts.map fun p=>(p.1,a.eval p.2)) vs'.toArray hb
       simp only [execOp,Sem.run_bind]
       rw [show (parts.map fun (x:Nat×Operand)=>match x with|(i,x)=>(i,a.eval x))=parts.map fun p=>(p.1,a.eval p.2) from rfl,hrun]
       rfl
      ·cases hp
     ·cases hp
    ·cases hz0
theorem aPi (z:Array Value) (n j:Nat) (hj:j < n):(madeCells z n)[j]? =some (z[j % z.size]!):=by
 simp [madeCells,hj]
theorem aG5 {w:World} {E:Env} {c:List AV} {cs:List Value} {n:Nat} (hn:cs.length=n) (ho:∀x∈cs,x.oneCell'=true) (hr:Rc w E c cs []):∀m,Rv w E (List.replicate m c) (List.replicate m cs).flatten n []
 |0=>by simp [Rv]
 |m+1=>by
  simp only [List.replicate_succ,List.flatten_cons,Rv]
  exact ⟨cs,_,[],[],rfl,hn,ho,hr,aG5 hn ho hr m,rfl⟩
theorem wK (cs:List Value):∀(m j:Nat),j < m * cs.length→(List.replicate m cs).flatten[j]? =cs[j % cs.length]?
 |0,j,h=>by simp at h
 |m+1,j,h=>by
  simp only [List.replicate_succ,List.flatten_cons]
  by_cases hj:j < cs.length
  ·rw [List.getElem?_append_left hj,Nat.mod_eq_of_lt hj]
  ·rw [List.getElem?_append_right (by omega),wK cs m (j - cs.length) (by rw [Nat.add_mul] at h;omega)]
   congr 1
   exact (Nat.mod_eq_sub_mod (by omega)).symm
theorem bCa (t:TypeId) {e:TypeId} {n by':Nat} (he:elemA P t=some (e,n,by')) (hz:zeroSz P e n=true):
  Step P B ⟨dst,.buildSlice t 0 #[],ty,pos,after,gd⟩ s (s.put dst (.sl .own n [])):=
 nD fun G a w r=>by
  have hrun:=run_buildSlice (P:=P) (t:=t) (len:=0) (w:=w) (vs:=[]) he hz rfl (by omega) (by simp)
  have hadd:=r.add [] [] (w.alloc (.cells #[] e)) rfl (by simp) (fun b hb=>heap_alloc w _ b hb) (fun j ob g b hl=>by simp [Aw.look] at hl) (fun i j _ _ _ _ b hi=>by simp [Aw.look] at hi) (fun k j ob g hl=>by simp [Aw.look] at hl)
  simp only [List.append_nil] at hadd
  refine ⟨.slice (some ⟨w.heap.size,0,none⟩) 0 0,w.alloc (.cells #[] e),?_,G,hadd.1.put dst ?_⟩
  ·have h2:(Instr.buildSlice t 0 #[]).run P w= .ok (.slice (some ⟨w.heap.size,0,none⟩) 0 0) (w.alloc (.cells #[] e)):=by simpa using hrun
   simp [execOp,h2]
  ·simp only [R]
   exact .inr ⟨_,0,rfl,⟨by simp,by simp⟩,.inl ⟨trivial,trivial,rfl,trivial⟩⟩
def AS.made (s:AS) (d:Option Tmp) (n:Nat) (l:List (List AV)):AS:=AS.put ⟨s.t,s.o++[⟨true,false,n,1,l⟩]⟩ d (.obj s.o.length 1)
theorem aNh (t:TypeId) (x y:Operand) {e:TypeId} {n by':Nat} {k k':IntKind} {l c:Int} {z:List AV} (he:elemA P t=some (e,n,by')) (hz:zeroA P e=some z) (hzn:zeroSz P e n=true) (hx:s.ev x= .int k l) (hy:s.ev y= .int k' c)
  (h0:0≤l) (h1:l≤c) (hb:(by':Int) * c≤281474976710656) (h63:c≤9223372036854775807) (hn0:0 < n):
  Step P B ⟨dst,.makeSlice t x y,ty,pos,after,gd⟩ s (s.made dst n (List.replicate l.toNat z)):=
 nD fun G a w r=>by
  obtain ⟨hu,inf,hi,hs,hby⟩:=nO he
  obtain ⟨zv,hz1,hz2⟩:=zC hzn hi
  have hrun:=run_make (P:=P) w t e inf zv hu hi hz1 k k' l c h0 h1 (by rw [hby];exact hb) h63
  unfold zeroA at hz
  simp only [hi,hz1,Option.bind_some] at hz
  split at hz
  ·rename_i hall
   obtain rfl:=Option.some.inj hz
   have hzl:zv.cells.toList.length=n:=by simpa using hz2
   obtain ⟨G',r',k',hG⟩:=r.add1 ⟨true,false,n,1,List.replicate l.toNat (aEq (zv.cells.toList.map ofV) (slN P 8 e))⟩ c.toNat (madeCells zv.cells (c.toNat * inf.size)) e (by simp;omega) (by simp [maxLen];omega) (by simp [size_madeCells,hs]) (fun w' E' k hb=>by
    refine qA.2 ⟨_,aG5 hzl (List.all_eq_true.1 hall) (aA4 w' E' _ _) l.toNat,?_⟩
    refine qI hb (fun j v hv=> ?_)
    have hj:=(List.getElem?_eq_some_iff.1 hv).1
    have hfl:(List.replicate l.toNat zv.cells.toList).flatten.length=l.toNat * n:=by simp [hz2]
    rw [hfl] at hj
    rw [wK _ _ _ (by rw [hzl];exact hj),hzl] at hv
    have hle:l.toNat * n≤c.toNat * inf.size:=by rw [hs];exact Nat.mul_le_mul_right _ (by omega)
    rw [Nat.zero_add,aPi _ _ _ (by omega),hz2]
    have hm:j % n < zv.cells.size:=by rw [hz2];exact Nat.mod_lt _ hn0
    rw [getElem!_pos zv.cells (j % n) hm]
    rw [←hv]
    simp [hm])
   refine ⟨.slice (some ⟨w.heap.size,0,none⟩) l.toNat c.toNat,_,by simp only [execOp,r.intv hx,r.intv hy,Sem.run_bind,hrun,Result.andThen_ok,Sem.run_pure],G',r'.put dst ?_⟩
   simp only [R]
   exact ⟨trivial,_,_,aNz hG,Nat.le_refl _,⟨fun _ _=>by simp,fun h=>by omega⟩⟩
  ·cases hz
end
end Go.Aw

namespace Go.Aw
def AS.at (s:AS) (i ver idx:Nat):Option (aA×List AV):=
 match AV.isObj s.o i ver with
 |some ob=>match ob.els[idx]? with
  |some e=>some (ob,e)
  |none=>none
 |none=>none
def rD (P:Program) (t:TypeId) (c:List AV) (off:Nat) (K:AV→Prop):Prop:=
 match aggSize P t with
 |some n=>off+n≤c.length∧K (.agg ((c.drop off).take n))
 |none=>oneSize P t=true∧match c[off]? with
  |some y=>K y
  |none=>False
def aop (P:Program) [aB P] (o:Oper) (s:AS) (K:AS→Prop):Prop:=
 match o.op with
 | .move x=>K (s.put o.dst (s.ev x))
 | .assign x=>K (s.put o.dst (s.ev x))
 | .pick c x y=>match s.ev c with
  | .bool b=>K (s.put o.dst (if b then s.ev x else s.ev y))
  |_=>False
 | .alloc t=>match zeroA P t with
  |some z=>K (s.box o.dst z)
  |none=>False
 | .box _ x=>(s.ev x).fit s.o=true∧K (s.box o.dst (s.ev x).cells)
 | .build t parts=>match placesA P t with
  |some pl=>match zeroA P t with
   |some z0=>(∀p∈parts.toList,(s.ev p.2).fit s.o=true)∧match aCs pl z0 (parts.toList.map fun p=>(p.1,s.ev p.2)) with
    |some z=>K (s.put o.dst (.agg z))
    |none=>False
   |none=>False
  |none=>False
 | .buildSlice t len parts=>match elemA P t with
  |some (e,n,_)=>zeroSz P e n=true∧qG parts.toList=true∧len=parts.toList.length∧len * n≤16777216∧len≤16777216∧
    iW s.o ((parts.toList.map (·.2)).map s.ev)=true∧(fK ((parts.toList.map (·.2)).map s.ev)).Nodup∧
    (∀x∈jD s.o ((parts.toList.map (·.2)).map s.ev),x.good=true∧x.cells.length=n)∧K (s.built o.dst n (parts.toList.map (·.2)))
  |none=>False
 | .load t x=>match s.ev x with
  | .ptr i ver idx off=>match s.at i ver idx with
   |some (_,e)=>rD P t (rtc (dpf i) true e) off fun y=>K (s.put o.dst y)
   |none=>False
  | .vptr g c off=>(AV.vptr g c off).fit s.o=true∧rD P t c off fun y=>K (s.put o.dst y)
  |_=>False
 | .store t x y=>match s.ev x with
  | .ptr i ver idx off=>match s.at i ver idx with
   |some (ob,e)=>(s.ev y).fit s.o=true∧sizeA P t=some (s.ev y).cells.length∧off+(s.ev y).cells.length≤e.length∧
     if (ob.box || (s.ev y).cells.all AV.solid)=true then K ((s.stored i idx off ob e (s.ev y).cells).put o.dst .undef)
     else iW s.o (s.ev y).cells=true∧(fK (s.ev y).cells).Nodup∧i∉fK (s.ev y).cells∧K ((s.shut i idx off ob e (s.ev y).cells).put o.dst .undef)
   |none=>False
  |_=>False
 | .fieldAddr t x f=>match fieldA P t f with
  |some fo=>match s.ev x with
   | .ptr i ver idx off=>(AV.isObj s.o i ver).isSome=true∧K (s.put o.dst (.ptr i ver idx (off+fo)))
   | .vptr g c off=>(AV.vptr g c off).fit s.o=true∧K (s.put o.dst (.vptr g c (off+fo)))
   |_=>False
  |none=>False
 | .indexAddr t x ix=>match s.ev ix with
  | .int _ n=>0≤n∧match s.ev x with
   | .obj i ver=>match AV.isObj s.o i ver with
    |some ob=>match elemA P t with
     |some (_,m,_)=>m=ob.n∧(ob.box=false∨ob.ver≠2)∧n < ob.els.length∧K (s.put o.dst (.ptr i ver n.toNat 0))
     |none=>False
    |none=>False
   | .sl g m l=>(AV.sl g m l).fit s.o=true∧match elemA P t with
    |some (_,m',_)=>m'=m∧match l[n.toNat]? with
     |some c=>K (s.put o.dst (.vptr g c 0))
     |none=>False
    |none=>False
   | .ptr i ver idx off=>(AV.isObj s.o i ver).isSome=true∧match bCq P t with
    |some (len,sz)=>n < len∧K (s.put o.dst (.ptr i ver idx (off+n.toNat * sz)))
    |none=>False
   |_=>False
  |_=>False
 | .index t x ix=>match s.ev x with
  | .str l=>match s.ev ix with
   | .int _ n=>isString P t=true∧0≤n∧match l[n.toNat]? with
    |some u=>K (s.put o.dst (.int .u8 u.toNat))
    |none=>False
   |_=>False
  |_=>False
 | .extract x ix=>match s.ev x with
  | .tup c=>match c[ix]? with
   |some y=>K (s.put o.dst y)
   |none=>False
  |_=>False
 | .makeFunc (.func f) ⟨[]⟩ cap=>K (s.put o.dst (.fn f (s.args cap)))
 | .makeSlice t x y=>match elemA P t with
  |some (e,n,by')=>match zeroA P e with
   |some z=>match s.ev x with
    | .int _ l=>match s.ev y with
     | .int _ c=>zeroSz P e n=true∧0≤l∧l≤c∧(by':Int) * c≤281474976710656∧c≤9223372036854775807∧0 < n∧K (s.made o.dst n (List.replicate l.toNat z))
     |_=>False
    |_=>False
   |none=>False
  |none=>False
 | .slice t x lo hi none=>match s.ev x with
  | .str l=>match s.bound 0 lo with
   |some a=>match s.bound l.length hi with
    |some b=>isString P t=true∧a≤b∧b≤l.length∧K (s.put o.dst (.str ((l.take b).drop a)))
    |none=>False
   |none=>False
  | .sl g n l=>match s.bound 0 lo with
   |some a=>match s.bound l.length hi with
    |some b=>match elemA P t with
     |some (_,m,_)=>m=n∧(AV.sl g n l).fit s.o=true∧a≤b∧b≤l.length∧K (s.put o.dst (.sl g n ((l.take b).drop a)))
     |none=>False
    |none=>False
   |none=>False
  | .obj i ver=>match AV.isObj s.o i ver with
   |some ob=>match s.bound 0 lo with
    |some a=>match s.bound ob.els.length hi with
     |some b=>match elemA P t with
      |some (_,m,_)=>m=ob.n∧ob.box=false∧a≤b∧b≤ob.els.length∧K (s.resliced o.dst i ob ((ob.els.take b).drop a))
      |none=>False
     |none=>False
    |none=>False
   |none=>False
  |_=>False
 | .unOp .not _ x=>match s.ev x with
  | .bool b=>K (s.put o.dst (.bool !b))
  |_=>False
 | .unOp .neg _ x=>match s.ev x with
  | .int k n=>K (s.put o.dst (.int k (k.wrap (0 - n))))
  |_=>False
 | .binOp op t x y _=>match s.ev x with
  | .int k m=>match s.ev y with
   | .int k' n=>(k'=k∨op= .shr)∧match aHj op k m n with
    |some z=>K (s.put o.dst z)
    |none=>False
   |_=>False
  | .str l=>match s.ev y with
   | .str m=>(op= .add→l.length+m.length≤9223372036854775807)∧match aJ4 op l m with
    |some z=>K (s.put o.dst z)
    |none=>False
   |_=>False
  | .bool a=>match s.ev y with
   | .bool b=>(op= .eql∨op= .neq)∧boolType P t=true∧K (s.put o.dst (.bool (if op= .eql then a == b else a != b)))
   |_=>False
  | .agg c1=>match s.ev y with
   | .agg c2=>(op= .eql∨op= .neq)∧c1.all AV.scalar=true∧c2.all AV.scalar=true∧∃b,EqA P t c1 c2 b∧K (s.put o.dst (.bool (if op= .eql then b else !b)))
   |_=>False
  |_=>False
 | .convert src d x=>match s.ev x with
  | .int _ n=>match intType P d with
   |some k'=>(P.underlying src).isSome=true∧K (s.put o.dst (.int k' (k'.wrap n)))
   |none=>False
  | .str l=>isString P src=true∧isString P d=true∧K (s.put o.dst (.str l))
  | .sl g n l=>match elemA P src with
   |some (e,m,_)=>m=1∧n=1∧(AV.sl g n l).fit s.o=true∧isString P d=true∧intType P e=some .u8∧∃bs,bytesOf l=some bs∧K (s.put o.dst (.str bs))
   |none=>False
  | .obj i ver=>match AV.isObj s.o i ver with
   |some ob=>match elemA P src with
    |some (e,m,_)=>m=1∧ob.n=1∧isString P d=true∧intType P e=some .u8∧∃bs,bytesOf ob.els=some bs∧K (s.put o.dst (.str bs))
    |none=>False
   |none=>False
  |_=>False
 | .call ⟨.builtin .len,⟨[x]⟩,⟨[t]⟩⟩=>match s.ev x with
  | .str l=>isString P t=true∧K (s.put o.dst (.int .i64 l.length))
  | .sl g n l=>(AV.sl g n l).fit s.o=true∧isSlice P t=true∧K (s.put o.dst (.int .i64 l.length))
  | .obj i ver=>match AV.isObj s.o i ver with
   |some ob=>isSlice P t=true∧K (s.put o.dst (.int .i64 ob.els.length))
   |none=>False
  |_=>False
 | .call ⟨.builtin .append,⟨[x,y]⟩,⟨[tS,xT]⟩⟩=>match elemA P tS with
  |some (e,n,by')=>zeroSz P e n=true∧appendable P xT=true∧match s.target n (s.ev x) with
   |some (i,ob,s1)=>match s1.source i n (s.ev y) with
    |some (l2,o2)=>(ob.els.length+l2.length) * by'≤140737488355328∧ob.els.length+l2.length≤9223372036854775807∧K (s.appended o2 o.dst i ob l2)
    |none=>False
   |none=>False
  |none=>False
 | .call ⟨.value f,args,_⟩=>match s.ev f with
  | .fn g cap=>if callable P g=true then∃r,Ok P g (qF s.o (s.args args++cap)) r∧K (s.called o.dst r) else∃r,OkN P g (qF s.o (s.args args++cap)) r∧K (s.put o.dst r)
  |_=>False
 | .nilCheck x=>match s.ev x with
  | .ptr i ver idx off=>(AV.isObj s.o i ver).isSome=true∧K (s.put o.dst (.ptr i ver idx off))
  | .vptr g c off=>(AV.vptr g c off).fit s.o=true∧K (s.put o.dst (.vptr g c off))
  |_=>False
 |_=>False
def aDc (P:Program) (o:Oper) (s:AS) (K:AS→Prop):Prop:=
 match o.op with
 | .buildSlice t 0 ⟨[]⟩=>match elemA P t with
  |some (e,n,_)=>zeroSz P e n=true∧K (s.put o.dst (.sl .own n []))
  |none=>False
 |_=>False
theorem yH {s:AS} {i ver idx:Nat} {ob:aA} {e:List AV} (h:s.at i ver idx=some (ob,e)):AV.isObj s.o i ver=some ob∧ob.els[idx]? =some e:=by
 unfold AS.at at h
 split at h
 ·rename_i ob' h1
  split at h
  ·rename_i e' h2
   simp only [Option.some.injEq,Prod.mk.injEq] at h
   obtain ⟨rfl,rfl⟩:=h
   exact ⟨h1,h2⟩
  ·cases h
 ·cases h
theorem aE9 {s:AS} {i ver:Nat} (h:(AV.isObj s.o i ver).isSome=true):∃ob,AV.isObj s.o i ver=some ob:=Option.isSome_iff_exists.1 h
theorem bBb {P:Program} [aB P] {B:Base P} {s:AS} {dst:Option Tmp} {ty:TypeId} {pos:String} {after:Array Edge} {gd:Option (Nat×Bool)} {t:TypeId} {x:Operand} {i ver idx off:Nat} {ob:aA} {e:List AV} {K:AS→Prop}
  (hx:s.ev x= .ptr i ver idx off) (ha:s.at i ver idx=some (ob,e)) (h:rD P t (rtc (dpf i) true e) off fun y=>K (s.put dst y)):∃s',K s'∧Step P B ⟨dst,.load t x,ty,pos,after,gd⟩ s s':=by
 obtain ⟨h1,h2⟩:=yH ha
 unfold rD at h
 split at h
 ·rename_i n hn
  exact ⟨_,h.2,aIg t x hx h1 h2 hn (by have:=h.1;rwa [aAw] at this)⟩
 ·split at h
  ·rename_i y hy
   exact ⟨_,h.2,aIc t x hx h1 h2 h.1 hy⟩
  ·exact h.2.elim
theorem aXx {P:Program} [aB P] {B:Base P} {s:AS} {dst:Option Tmp} {ty:TypeId} {pos:String} {after:Array Edge} {gd:Option (Nat×Bool)} {t:TypeId} {x:Operand} {g:Tg} {c:List AV} {off:Nat} {K:AS→Prop}
  (hx:s.ev x= .vptr g c off) (hf:(AV.vptr g c off).fit s.o=true) (h:rD P t c off fun y=>K (s.put dst y)):∃s',K s'∧Step P B ⟨dst,.load t x,ty,pos,after,gd⟩ s s':=by
 unfold rD at h
 split at h
 ·rename_i n hn
  exact ⟨_,h.2,aGb t x hx hf hn h.1⟩
 ·split at h
  ·rename_i y hy
   exact ⟨_,h.2,aF2 t x hx hf h.1 hy⟩
  ·exact h.2.elim
section
variable {P : Program} [aB P] {B : Base P} {s : AS} {dst : Option Tmp} {ty : TypeId} {pos : String} {after : Array Edge} {gd : Option (Nat × Bool)}
theorem aSq (x:Operand) {i ver idx off:Nat} {ob:aA} (hx:s.ev x= .ptr i ver idx off) (ho:AV.isObj s.o i ver=some ob):Step P B ⟨dst,.nilCheck x,ty,pos,after,gd⟩ s (s.put dst (.ptr i ver idx off)):=
 dF fun G a w r=>by
  obtain ⟨g,b,f,_,_,_,hv⟩:=r.ptr hx ho
  refine ⟨a.eval x,?_,by have:=r.ev x;rwa [hx] at this⟩
  simp only [execOp]
  rw [hv]
  rfl
theorem aPq (x:Operand) {g:Tg} {c:List AV} {off:Nat} (hx:s.ev x= .vptr g c off) (hf:(AV.vptr g c off).fit s.o=true):Step P B ⟨dst,.nilCheck x,ty,pos,after,gd⟩ s (s.put dst (.vptr g c off)):=
 dF fun G a w r=>by
  have h:=r.ev x
  rw [hx] at h
  refine ⟨a.eval x,?_,h⟩
  have h':=h
  simp only [R] at h'
  rcases h' with ⟨hd,_⟩|⟨_,b,o,cs,hv,_⟩
  ·cases g with
   |own=>exact hd.elim
   |view=>exact hd.elim
   |dep i=>
    exfalso
    simp only [AV.fit] at hf
    refine hd (fun ob hob=> ?_)
    simpa [hob] using hf
  ·simp only [execOp]
   rw [hv]
   rfl
end
theorem wG {P:Program} [aB P] {B:Base P} {o:Oper} {s:AS} {K:AS→Prop} (h:aop P o s K):∃s',K s'∧Step P B o s s':=by
 obtain ⟨dst,op,ty,pos,after,gd⟩:=o
 unfold aop at h
 dsimp only at h
 split at h
 case h_1=>exact ⟨_,h,aZ6 _⟩
 case h_2=>exact ⟨_,h,aUl _⟩
 case h_3=>
  split at h
  ·rename_i hc;exact ⟨_,h,bAu _ _ _ hc⟩
  ·exact h.elim
 case h_4=>
  split at h
  ·rename_i hz;exact ⟨_,h,aYl _ hz⟩
  ·exact h.elim
 case h_5=>exact ⟨_,h.2,bCf _ _ h.1⟩
 case h_6=>
  split at h
  ·rename_i hp
   split at h
   ·rename_i hz
    obtain ⟨h1,h⟩:=h
    split at h
    ·rename_i hf;exact ⟨_,h,aYn _ _ hp hz h1 hf⟩
    ·exact h.elim
   ·exact h.elim
  ·exact h.elim
 case h_7=>
  split at h
  ·rename_i he
   obtain ⟨h1,h2,h3,h4,h5,h6,h7,h8,h9⟩:=h
   exact ⟨_,h9,aL1 _ _ _ he h1 h2 h3 h4 h5 h6 h7 h8⟩
  ·exact h.elim
 case h_8=>
  split at h
  ·rename_i hx
   split at h
   ·rename_i ha;exact bBb hx ha h
   ·exact h.elim
  ·rename_i hx;exact aXx hx h.1 h.2
  ·exact h.elim
 case h_9=>
  split at h
  ·rename_i hx
   split at h
   ·rename_i ha
    obtain ⟨a1,a2⟩:=yH ha
    obtain ⟨h1,h2,h3,h⟩:=h
    split at h
    ·rename_i hb
     exact ⟨_,h,aY1 _ _ _ hx a1 a2 h1 h2 h3 (by simpa using hb)⟩
    ·rename_i hb
     obtain ⟨h4,h5,h6,h7⟩:=h
     exact ⟨_,h7,aJa _ _ _ hx a1 a2 h1 h2 h3 (by simp at hb;exact hb.1) h4 h5 h6⟩
   ·exact h.elim
  ·exact h.elim
 case h_10=>
  split at h
  ·rename_i hf
   split at h
   ·rename_i hx
    obtain ⟨ob,ho⟩:=aE9 h.1
    exact ⟨_,h.2,aM5 _ _ _ hx ho hf⟩
   ·rename_i hx;exact ⟨_,h.2,aKc _ _ _ hx h.1 hf⟩
   ·exact h.elim
  ·exact h.elim
 case h_11=>
  split at h
  ·rename_i hi
   obtain ⟨h0,h⟩:=h
   split at h
   ·rename_i hx
    split at h
    ·rename_i ho
     split at h
     ·rename_i he
      obtain ⟨rfl,hb,h1,h2⟩:=h
      exact ⟨_,h2,aNt _ _ _ hx ho hi he h0 h1 hb⟩
     ·exact h.elim
    ·exact h.elim
   ·rename_i hx
    obtain ⟨hf,h⟩:=h
    split at h
    ·rename_i he
     obtain ⟨rfl,h⟩:=h
     split at h
     ·rename_i hc;exact ⟨_,h,aPc _ _ _ hx hf hi he h0 hc⟩
     ·exact h.elim
    ·exact h.elim
   ·rename_i hx
    obtain ⟨hs,h⟩:=h
    obtain ⟨ob,ho⟩:=aE9 hs
    split at h
    ·rename_i ha;exact ⟨_,h.2,aM2 _ _ _ hx ho hi ha h0 h.1⟩
    ·exact h.elim
   ·exact h.elim
  ·exact h.elim
 case h_12=>
  split at h
  ·rename_i hx
   split at h
   ·rename_i hi
    obtain ⟨ht,h0,h⟩:=h
    split at h
    ·rename_i hu;exact ⟨_,h,aMy _ _ _ hx hi ht h0 hu⟩
    ·exact h.elim
   ·exact h.elim
  ·exact h.elim
 case h_13=>
  split at h
  ·rename_i hx
   split at h
   ·rename_i hy;exact ⟨_,h,aRz _ _ hx hy⟩
   ·exact h.elim
  ·exact h.elim
 case h_14=>exact ⟨_,h,aPv _ _⟩
 case h_15=>
  split at h
  ·rename_i he
   split at h
   ·rename_i hz
    split at h
    ·rename_i hx
     split at h
     ·rename_i hy
      obtain ⟨h1,h2,h3,h4,h5,h6,h7⟩:=h
      exact ⟨_,h7,aNh _ _ _ he hz h1 hx hy h2 h3 h4 h5 h6⟩
     ·exact h.elim
    ·exact h.elim
   ·exact h.elim
  ·exact h.elim
 case h_16=>
  split at h
  ·rename_i hx
   split at h
   ·rename_i hl
    split at h
    ·rename_i hh
     obtain ⟨h1,h2,h3,h4⟩:=h
     exact ⟨_,h4,aNf _ _ _ _ hx h1 hl hh h2 h3⟩
    ·exact h.elim
   ·exact h.elim
  ·rename_i hx
   split at h
   ·rename_i hl
    split at h
    ·rename_i hh
     split at h
     ·rename_i he
      obtain ⟨rfl,h1,h2,h3,h4⟩:=h
      exact ⟨_,h4,aQe _ _ _ _ hx h1 he hl hh h2 h3⟩
     ·exact h.elim
    ·exact h.elim
   ·exact h.elim
  ·rename_i hx
   split at h
   ·rename_i ho
    split at h
    ·rename_i hl
     split at h
     ·rename_i hh
      split at h
      ·rename_i he
       obtain ⟨rfl,h1,h2,h3,h4⟩:=h
       exact ⟨_,h4,aMu _ _ _ _ hx ho h1 he hl hh h2 h3⟩
      ·exact h.elim
     ·exact h.elim
    ·exact h.elim
   ·exact h.elim
  ·exact h.elim
 case h_17=>
  split at h
  ·rename_i hx;exact ⟨_,h,bCh _ _ hx⟩
  ·exact h.elim
 case h_18=>
  split at h
  ·rename_i hx;exact ⟨_,h,bCt _ _ hx⟩
  ·exact h.elim
 case h_19=>
  split at h
  ·rename_i hx
   split at h
   ·rename_i hy
    obtain ⟨hkk,h⟩:=h
    split at h
    ·rename_i hz;exact ⟨_,h,bCn _ _ _ _ _ hx hy hkk hz⟩
    ·exact h.elim
   ·exact h.elim
  ·rename_i hx
   split at h
   ·rename_i hy
    obtain ⟨hle,h⟩:=h
    split at h
    ·rename_i hz;exact ⟨_,h,bCl _ _ _ _ _ hx hy hz hle⟩
    ·exact h.elim
   ·exact h.elim
  ·rename_i hx
   split at h
   ·rename_i hy;exact ⟨_,h.2.2,aQ5 _ _ _ _ _ h.1 hx hy h.2.1⟩
   ·exact h.elim
  ·rename_i hx
   split at h
   ·rename_i hy
    obtain ⟨h1,h2,h3,b,h4,h5⟩:=h
    exact ⟨_,h5,aUe _ _ _ _ _ h1 hx hy h2 h3 h4⟩
   ·exact h.elim
  ·exact h.elim
 case h_20=>
  split at h
  ·rename_i hx
   split at h
   ·rename_i hk;exact ⟨_,h.2,aPn _ _ _ hx hk h.1⟩
   ·exact h.elim
  ·rename_i hx;exact ⟨_,h.2.2,aPb _ _ _ hx h.2.1 h.1⟩
  ·rename_i hx
   split at h
   ·rename_i he
    obtain ⟨rfl,rfl,h1,h2,h3,bs,h4,h5⟩:=h
    exact ⟨_,h5,aEw _ _ _ hx h1 h2 he h3 h4⟩
   ·exact h.elim
  ·rename_i hx
   split at h
   ·rename_i ho
    split at h
    ·rename_i he
     obtain ⟨rfl,h1,h2,h3,bs,h4,h5⟩:=h
     exact ⟨_,h5,aFs _ _ _ hx ho h2 he h1 h3 h4⟩
    ·exact h.elim
   ·exact h.elim
  ·exact h.elim
 case h_21=>
  split at h
  ·rename_i hx;exact ⟨_,h.2,aSz _ _ hx h.1⟩
  ·rename_i hx;exact ⟨_,h.2.2,aVe _ _ hx h.1 h.2.1⟩
  ·rename_i hx
   split at h
   ·rename_i ho;exact ⟨_,h.2,aRe _ _ hx ho h.1⟩
   ·exact h.elim
  ·exact h.elim
 case h_22=>
  split at h
  ·rename_i he
   obtain ⟨h1,h2,h⟩:=h
   split at h
   ·rename_i ht
    split at h
    ·rename_i hs
     obtain ⟨h3,h4,h5⟩:=h
     exact ⟨_,h5,aUg _ _ _ _ he h1 h2 ht hs h3 h4⟩
    ·exact h.elim
   ·exact h.elim
  ·exact h.elim
 case h_23=>
  split at h
  ·rename_i hf
   split at h
   ·rename_i h1
    obtain ⟨r,h2,h3⟩:=h
    exact ⟨_,h3,bAb _ _ _ hf h1 h2⟩
   ·obtain ⟨r,h2,h3⟩:=h
    exact ⟨_,h3,aT7 _ _ _ hf h2⟩
  ·exact h.elim
 case h_24=>
  split at h
  ·rename_i hx
   obtain ⟨ob,ho⟩:=aE9 h.1
   exact ⟨_,h.2,aSq _ hx ho⟩
  ·rename_i hx;exact ⟨_,h.2,aPq _ hx h.1⟩
  ·exact h.elim
 case h_25=>exact h.elim
theorem aLn {P:Program} [aB P] {B:Base P} {o:Oper} {s:AS} {K:AS→Prop} (h:aDc P o s K):∃s',K s'∧Step P B o s s':=by
 obtain ⟨dst,op,ty,pos,after,gd⟩:=o
 unfold aDc at h
 dsimp only at h
 split at h
 ·split at h
  ·rename_i he
   exact ⟨_,h.2,bCa _ he h.1⟩
  ·exact h.elim
 ·exact h.elim
end Go.Aw

namespace Go.Aw
def AV.plainV:AV→Bool
 | .int _ _=>true
 | .bool _=>true
 | .str _=>true
 |_=>false
def nA (w:World) (O:Nat→Prop):Env:=⟨fun b=>b < w.heap.size∧¬O b,fun _=>True,fun _ _=>False,fun _ _ _=>False,fun _ _ _ _ _=>False⟩
def OkM (P:Program) [aB P] (f:FuncId) (x x':AV) (rest:List AV) (r:AV):Prop:=
 ∀(w:World) (v:Value) (vs:List Value) (fp:List Nat),aB.holds P w→(∀b∈fp,aB.low P≤b)→R w (nA w (· ∈fp)) x v fp→fp.Nodup→(∀b∈fp,b < w.heap.size)→Rc w (nA w (· ∈fp)) rest vs []→
  Calls P f (v::vs).toArray w fun e w'=>∃u fp',e= .returned u∧R w' mP r u []∧R w' mP x' v fp'∧fp'.Nodup∧
   (∀b∈fp',(b∈fp∨w.heap.size≤b)∧b < w'.heap.size)∧w.heap.size≤w'.heap.size∧(∀b,b < w.heap.size→b∉fp→w'.heap[b]? =w.heap[b]?)∧Same w w'
mutual
def mt (o : List aA) : AV → AV → Bool
  | .obj i _, .sl .own n _ => match o[i]? with
    | some ob => decide (ob.n = n)
    | none => false
  | .agg c, .agg c' => mtc o c c'
  | .int _ _, x => x.plainV
  | .bool _, x => x.plainV
  | .str _, x => x.plainV
  | _, _ => false
def mtc (o : List aA) : List AV → List AV → Bool
  | [], [] => true
  | x :: xs, y :: ys => mt o x y && mtc o xs ys
  | _, _ => false
end
mutual
def wV : AV → AV → List (Nat × List (List AV))
  | .obj i _, .sl _ _ rows => [(i, rows)]
  | .agg c, .agg c' => yD c c'
  | _, _ => []
def yD : List AV → List AV → List (Nat × List (List AV))
  | x :: xs, y :: ys => wV x y ++ yD xs ys
  | _, _ => []
end
theorem aGz {w:World} {E:Env} {x:AV} {v:Value} {fp:List Nat} (hx:x.plainV=true) (h:R w E x v fp):fp=[]:=by
 cases x<;>simp only [AV.plainV] at hx<;>first|(cases hx;done)|(simp only [R] at h;exact h.2)
structure Part where
  i : Nat
  rows : List (List AV)
  fp : List Nat
def aZu (o:List aA) (G:List CO) (w':World) (p:Part):Prop:=
 ∃ob g,look o G p.i ob g∧ob.live=true∧ob.box=false∧kX w' mP ob.n p.rows g.a g.cap p.fp∧p.rows.length=ob.els.length
def fps (L:List Part):List Nat:=L.flatMap (·.fp)
mutual
theorem aVs {P : Program} [aB P] {B : Base P} {s : AS} {G : List CO} {w w' : World} : ∀ (x x' : AV) (v : Value) (fp' : List Nat), eB s.o x = true → mt s.o x x' = true → R w (env B s.o G w) x v [] → R w' mP x' v fp' →
    ∃ L : List Part, L.map (·.i) = uses x ∧ wV x x' = L.map (fun p => (p.i, p.rows)) ∧ fp' = fps L ∧ ∀ p ∈ L, aZu s.o G w' p
  | .obj i ver, .sl .own n rows, v, fp', ho, hm, h, h' => by
    cases hob : AV.isObj s.o i ver with
    | none => simp [eB, hob] at ho
    | some ob =>
      simp only [eB, hob] at ho
      simp only [R] at h
      obtain ⟨_, ob', g, hl, _, hh, _⟩ := h
      obtain ⟨h1, h2, h3⟩ := iO hob
      obtain rfl := Option.some.inj (hl.1.symm.trans h1)
      have hv := hh h2 h3
      obtain ⟨a, cap, hv', hown⟩ := mX.1 h'
      rw [hv] at hv'
      simp only [Value.slice.injEq] at hv'
      obtain ⟨rfl, hlen, rfl⟩ := hv'
      simp only [mt, h1, decide_eq_true_eq] at hm
      refine ⟨[⟨i, rows, fp'⟩], rfl, rfl, by simp [fps], ?_⟩
      intro p hp
      simp at hp; subst hp
      exact ⟨_, g, hl, h2, by simpa using ho, by rw [hm]; exact hown, hlen.symm⟩
  | .agg c, .agg c', v, fp', ho, hm, h, h' => by
    simp only [R] at h h'
    obtain ⟨cs, rfl, _, hr⟩ := h
    obtain ⟨cs', hv, _, hr'⟩ := h'
    have : cs = cs' := by simpa using hv
    subst this
    obtain ⟨L, h1, h2, h3, h4⟩ := aSg c c' cs fp' (by simpa [eB] using ho) (by simpa [mt] using hm) hr hr'
    exact ⟨L, by simpa [uses] using h1, by simpa [wV] using h2, h3, h4⟩
  | .int _ _, x', v, fp', _, hm, _, h' => ⟨[], rfl, by simp [wV], by simpa [fps] using aGz (by simpa [mt] using hm) h', by simp⟩
  | .bool _, x', v, fp', _, hm, _, h' => ⟨[], rfl, by simp [wV], by simpa [fps] using aGz (by simpa [mt] using hm) h', by simp⟩
  | .str _, x', v, fp', _, hm, _, h' => ⟨[], rfl, by simp [wV], by simpa [fps] using aGz (by simpa [mt] using hm) h', by simp⟩
  | .sl _ _ _, _, _, _, _, hm, _, _ => by simp [mt] at hm
  | .vptr _ _ _, _, _, _, _, hm, _, _ => by simp [mt] at hm
  | .ptr _ _ _ _, _, _, _, _, hm, _, _ => by simp [mt] at hm
  | .tup _, _, _, _, _, hm, _, _ => by simp [mt] at hm
  | .fn _ _, _, _, _, _, hm, _, _ => by simp [mt] at hm
  | .undef, _, _, _, _, hm, _, _ => by simp [mt] at hm
  | .obj _ _, .sl .view _ _, _, _, _, hm, _, _ => by simp [mt] at hm
  | .obj _ _, .sl (.dep _) _ _, _, _, _, hm, _, _ => by simp [mt] at hm
  | .obj _ _, .int _ _, _, _, _, hm, _, _ => by simp [mt] at hm
  | .obj _ _, .bool _, _, _, _, hm, _, _ => by simp [mt] at hm
  | .obj _ _, .str _, _, _, _, hm, _, _ => by simp [mt] at hm
  | .obj _ _, .vptr _ _ _, _, _, _, hm, _, _ => by simp [mt] at hm
  | .obj _ _, .obj _ _, _, _, _, hm, _, _ => by simp [mt] at hm
  | .obj _ _, .ptr _ _ _ _, _, _, _, hm, _, _ => by simp [mt] at hm
  | .obj _ _, .agg _, _, _, _, hm, _, _ => by simp [mt] at hm
  | .obj _ _, .tup _, _, _, _, hm, _, _ => by simp [mt] at hm
  | .obj _ _, .fn _ _, _, _, _, hm, _, _ => by simp [mt] at hm
  | .obj _ _, .undef, _, _, _, hm, _, _ => by simp [mt] at hm
  | .agg _, .sl _ _ _, _, _, _, hm, _, _ => by simp [mt] at hm
  | .agg _, .int _ _, _, _, _, hm, _, _ => by simp [mt] at hm
  | .agg _, .bool _, _, _, _, hm, _, _ => by simp [mt] at hm
  | .agg _, .str _, _, _, _, hm, _, _ => by simp [mt] at hm
  | .agg _, .vptr _ _ _, _, _, _, hm, _, _ => by simp [mt] at hm
  | .agg _, .obj _ _, _, _, _, hm, _, _ => by simp [mt] at hm
  | .agg _, .ptr _ _ _ _, _, _, _, hm, _, _ => by simp [mt] at hm
  | .agg _, .tup _, _, _, _, hm, _, _ => by simp [mt] at hm
  | .agg _, .fn _ _, _, _, _, hm, _, _ => by simp [mt] at hm
  | .agg _, .undef, _, _, _, hm, _, _ => by simp [mt] at hm
theorem aSg {P : Program} [aB P] {B : Base P} {s : AS} {G : List CO} {w w' : World} : ∀ (c c' : List AV) (cs : List Value) (fp' : List Nat), iW s.o c = true → mtc s.o c c' = true → Rc w (env B s.o G w) c cs [] → Rc w' mP c' cs fp' →
    ∃ L : List Part, L.map (·.i) = fK c ∧ yD c c' = L.map (fun p => (p.i, p.rows)) ∧ fp' = fps L ∧ ∀ p ∈ L, aZu s.o G w' p
  | [], [], [], fp', _, _, _, h' => by simp only [Rc] at h'; exact ⟨[], rfl, by simp [yD], by simp [h', fps], by simp⟩
  | [], [], _ :: _, _, _, _, h, _ => by simp [Rc] at h
  | [], _ :: _, _, _, _, hm, _, _ => by simp [mtc] at hm
  | _ :: _, [], _, _, _, hm, _, _ => by simp [mtc] at hm
  | _ :: _, _ :: _, [], _, _, _, h, _ => by simp [Rc] at h
  | x :: xs, y :: ys, c :: cs, fp', ho, hm, h, h' => by
    simp only [Rc] at h h'
    obtain ⟨g1, g2, h1, h2, e⟩ := h
    obtain ⟨rfl, rfl⟩ : g1 = [] ∧ g2 = [] := by simpa using e
    obtain ⟨f1, f2, h1', h2', rfl⟩ := h'
    simp only [iW, Bool.and_eq_true] at ho
    simp only [mtc, Bool.and_eq_true] at hm
    obtain ⟨L1, a1, a2, rfl, a4⟩ := aVs x y c f1 ho.1 hm.1 h1 h1'
    obtain ⟨L2, b1, b2, rfl, b4⟩ := aSg xs ys cs f2 ho.2 hm.2 h2 h2'
    refine ⟨L1 ++ L2, by simp [fK, a1, b1], by simp [yD, a2, b2], by simp [fps], ?_⟩
    intro p hp
    rcases List.mem_append.1 hp with hp | hp
    · exact a4 p hp
    · exact b4 p hp
end
def eZ (u:List Nat):Tg→Option Tg
 | .own=>none
 | .view=>some .view
 | .dep i=>if i∈u then none else some (.dep i)
def AV.nd:AV→Bool
 | .int _ _=>true
 | .bool _=>true
 | .str _=>true
 | .sl .own _ _=>true
 | .obj _ _=>true
 | .ptr _ _ _ _=>true
 |_=>false
theorem bJo {w:World} {E:Env} {D:Nat→Nat→Prop} {x:AV} {v:Value} {fp:List Nat} (hx:x.nd=true) (h:R w E x v fp):R w {E with D:=D} x v fp:=by
 cases x with
 |int _ _=>simpa [R] using h
 |bool _=>simpa [R] using h
 |str _=>simpa [R] using h
 |sl g n l=>
  cases g with
  |own=>
   obtain ⟨a,cap,hv,hown⟩:=mX.1 h
   exact mX.2 ⟨a,cap,hv,hown⟩
  |_=>cases hx
 |obj _ _=>simp only [R] at h⊢;exact h
 |ptr _ _ _ _=>simp only [R] at h⊢;exact h
 |_=>cases hx
theorem bD2 {w:World} {E:Env} {D:Nat→Nat→Prop}:∀{c:List AV} {cs:List Value} {fp:List Nat},c.all AV.nd=true→Rc w E c cs fp→Rc w {E with D:=D} c cs fp
 |[],[],_,_,h=>h
 |[],_::_,_,_,h=>by simp [Rc] at h
 |_::_,[],_,_,h=>by simp [Rc] at h
 |x::xs,c::cs,fp,hp,h=>by
  simp only [Rc] at h⊢
  simp only [List.all_cons,Bool.and_eq_true] at hp
  obtain ⟨f1,f2,h1,h2,h3⟩:=h
  exact ⟨f1,f2,bJo hp.1 h1,bD2 hp.2 h2,h3⟩
theorem aW8 {w:World} {E:Env} {D:Nat→Nat→Prop}:∀{l:List (List AV)} {b off n:Nat} {fp:List Nat},(l.all fun r=>r.all AV.nd)=true→Rr w E l b off n fp→Rr w {E with D:=D} l b off n fp
 |[],_,_,_,_,_,h=>h
 |e::es,b,off,n,fp,hp,h=>by
  simp only [Rr] at h⊢
  simp only [List.all_cons,Bool.and_eq_true] at hp
  obtain ⟨cs,f1,f2,h1,h2,h3,h4,h5,h6⟩:=h
  exact ⟨cs,f1,f2,h1,h2,h3,bD2 hp.1 h4,aW8 hp.2 h5,h6⟩
def xV (l:List (List AV)):Bool:=l.all fun r=>r.all AV.nd
theorem aYj:xV []=true:=rfl
theorem aVh (r:List AV) (l:List (List AV)):xV (r::l)=(r.all AV.nd&&xV l):=rfl
theorem aXo {l:List (List AV)} {k:Nat} {r:List AV} (h:xV l=true) (hr:r.all AV.nd=true):xV (l.set k r)=true:=by
 unfold xV at *
 rw [List.all_eq_true] at h⊢
 intro x hx
 rcases List.mem_or_eq_of_mem_set hx with hx|rfl
 ·exact h x hx
 ·exact hr
def aA.forget (ob:aA) (u:List Nat):aA:=
 if ob.box then (if xV ob.els=true then ob else {ob with els:=rtr (eZ u) true ob.els}) else ob
theorem lL (ob:aA) (u:List Nat):(ob.forget u).live=ob.live:=by unfold aA.forget;split<;>(try split)<;>rfl
theorem aJ9 (ob:aA) (u:List Nat):(ob.forget u).ver=ob.ver:=by unfold aA.forget;split<;>(try split)<;>rfl
theorem aL8 (ob:aA) (u:List Nat):(ob.forget u).box=ob.box:=by unfold aA.forget;split<;>(try split)<;>rfl
theorem aTi (ob:aA) (u:List Nat):(ob.forget u).n=ob.n:=by unfold aA.forget;split<;>(try split)<;>rfl
theorem aJ3 (ob:aA) (u:List Nat):(ob.forget u).els.length=ob.els.length:=by unfold aA.forget;split<;>(try split)<;>simp [jT]
def aA.aged (ob:aA) (N:List (Nat×List (List AV))) (u:List Nat) (i:Nat):aA:=
 match N.find? (fun p=>p.1 == i) with
 |some p=>{ob with els:=p.2}
 |none=>ob.forget u
def aAl (N:List (Nat×List (List AV))) (u:List Nat):Nat→List aA→List aA
 |_,[]=>[]
 |i,ob::r=>ob.aged N u i::aAl N u (i+1) r
theorem aTv (N:List (Nat×List (List AV))) (u:List Nat):∀(o:List aA) (k i:Nat),(aAl N u k o)[i]? =(o[i]?).map fun ob=>ob.aged N u (k+i)
 |[],_,_=>by simp [aAl]
 |ob::r,k,0=>by simp [aAl]
 |ob::r,k,i+1=>by
  simp only [aAl,List.getElem?_cons_succ]
  rw [aTv N u r (k+1) i,show k+1+i=k+(i+1) by omega]
def AS.mutated (s:AS) (d:Option Tmp) (x x' r:AV):AS:=
 AS.put ⟨rtc (eZ (uses x)) true s.t,aAl (wV x x') (uses x) 0 s.o⟩ d r
def aC2 (L:List Part):Nat→List CO→List CO
 |_,[]=>[]
 |i,g::r=>(match L.find? (fun p=>p.i == i) with
  |some p=>{g with F:=fun b=>b∈p.fp}
  |none=>g)::aC2 L (i+1) r
theorem aTx (L:List Part):∀(G:List CO) (k i:Nat),(aC2 L k G)[i]? =(G[i]?).map fun g=>match L.find? (fun p=>p.i == k+i) with
  |some p=>{g with F:=fun b=>b∈p.fp}
  |none=>g
 |[],_,_=>by simp [aC2]
 |g::r,k,0=>by simp [aC2]
 |g::r,k,i+1=>by
  simp only [aC2,List.getElem?_cons_succ]
  rw [aTx L r (k+1) i,show k+1+i=k+(i+1) by omega]
theorem aDa (L:List Part):∀(G:List CO) (k:Nat),(aC2 L k G).length=G.length
 |[],_=>rfl
 |g::r,k=>by simp [aC2,aDa L r]
theorem aDe (N:List (Nat×List (List AV))) (u:List Nat):∀(o:List aA) (k:Nat),(aAl N u k o).length=o.length
 |[],_=>rfl
 |g::r,k=>by simp [aAl,aDe N u r]
end Go.Aw

namespace Go.Aw
theorem aKs {w w':World} {E E':Env} {x:AV} {v:Value} (hx:x.plainV=true) (h:R w E x v []):R w' E' x v []:=by
 cases x<;>simp only [AV.plainV] at hx<;>first|(cases hx;done)|(simp only [R] at h⊢;exact h)
@[simp] def AV.plainF:AV→Bool
 | .fn _ []=>true
 |x=>x.plainV
theorem aW5 {w w':World} {E E':Env} {x:AV} {v:Value} (hx:x.plainF=true) (h:R w E x v []):R w' E' x v []:=by
 unfold AV.plainF at hx
 split at hx
 ·simp only [R] at h⊢
  obtain ⟨e,cs,h1,h2⟩:=h
  exact ⟨e,cs,h1,by cases cs<;>simp_all [Rc]⟩
 ·exact aKs hx h
theorem aHs {L:List Part} {b:Nat}:b∈fps L↔∃p∈L,b∈p.fp:=by simp [fps]
theorem aOn:∀{L:List Part},(fps L).Nodup→∀p∈L,∀q∈L,∀b,b∈p.fp→b∈q.fp→p=q
 |[],_,p,hp,_,_,_,_,_=>by cases hp
 |x::L,h,p,hp0,q,hq0,b,hbp,hbq=>by
  simp only [fps,List.flatMap_cons,List.nodup_append] at h
  rcases List.mem_cons.1 hp0 with e1|hp<;>rcases List.mem_cons.1 hq0 with e2|hq
  ·rw [e1,e2]
  ·exact absurd rfl (h.2.2 b (e1▸hbp) b (List.mem_flatMap.2 ⟨q,hq,hbq⟩))
  ·exact absurd rfl (h.2.2 b (e2▸hbq) b (List.mem_flatMap.2 ⟨p,hp,hbp⟩))
  ·exact aOn h.2.1 p hp q hq b hbp hbq
theorem aQw:∀{L:List Part},(fps L).Nodup→∀p∈L,p.fp.Nodup
 |[],_,p,hp=>by cases hp
 |x::L,h,p,hp=>by
  simp only [fps,List.flatMap_cons,List.nodup_append] at h
  rcases List.mem_cons.1 hp with rfl|hp
  ·exact h.1
  ·exact aQw h.2.1 p hp
section
variable {P : Program} [aB P] {B : Base P} {s : AS} {dst : Option Tmp} {ty : TypeId} {pos : String} {after : Array Edge} {gd : Option (Nat × Bool)}
theorem bDp {o:List aA} {G:List CO} {L:List Part} {u:List Nat} {i:Nat} {ob':aA} {g':CO} (h:look (aAl (L.map fun p=>(p.i,p.rows)) u 0 o) (aC2 L 0 G) i ob' g'):
  ∃ob g,look o G i ob g∧((∃p∈L,p.i=i∧ob'={ob with els:=p.rows}∧g'={g with F:=fun b=>b∈p.fp})∨
   ((∀p∈L,p.i≠i)∧ob'=ob.forget u∧g'=g)):=by
 obtain ⟨h1,h2⟩:=h
 rw [aTv,Nat.zero_add] at h1
 rw [aTx,Nat.zero_add] at h2
 cases ho:o[i]? with
 |none=>simp [ho] at h1
 |some ob=>
  cases hg:G[i]? with
  |none=>simp [hg] at h2
  |some g=>
   rw [ho] at h1;rw [hg] at h2
   simp only [Option.map_some,Option.some.injEq] at h1 h2
   refine ⟨ob,g,⟨ho,hg⟩,?_⟩
   have hfm:(L.map fun p=>(p.i,p.rows)).find? (fun p=>p.1 == i)=(L.find? (fun p=>p.i == i)).map fun p=>(p.i,p.rows):=by rw [List.find?_map];rfl
   unfold aA.aged at h1
   rw [hfm] at h1
   cases hf:L.find? (fun p=>p.i == i) with
   |some p=>
    rw [hf] at h1 h2
    left
    exact ⟨p,List.mem_of_find?_eq_some hf,by have:=List.find?_some hf;simpa using this,h1.symm,h2.symm⟩
   |none=>
    rw [hf] at h1 h2
    right
    refine ⟨fun p hp e=> ?_,h1.symm,h2.symm⟩
    have:=List.find?_eq_none.1 hf p hp
    simp [e] at this
theorem bDd {o:List aA} {G:List CO} {L:List Part} {u:List Nat} {i:Nat} {ob:aA} {g:CO} (h:look o G i ob g):
  ∃ob' g',look (aAl (L.map fun p=>(p.i,p.rows)) u 0 o) (aC2 L 0 G) i ob' g':=by
 have h1:=(List.getElem?_eq_some_iff.1 h.1).1
 have h2:=(List.getElem?_eq_some_iff.1 h.2).1
 exact ⟨_,_,List.getElem?_eq_getElem (by rw [aDe];exact h1),List.getElem?_eq_getElem (by rw [aDa];exact h2)⟩
theorem aN1 {w:World} {E E':Env} {s:AS} {a:Act}:∀ys:List Operand,(ys.all fun y=>(s.ev y).plainF)=true→(∀y,R w E (s.ev y) (a.eval y) [])→Rc w E' (ys.map s.ev) (ys.map a.eval) []
 |[],_,_=>by simp [Rc]
 |y::ys,h,hr=>by
  simp only [List.all_cons,Bool.and_eq_true] at h
  simp only [List.map_cons,Rc]
  exact ⟨[],[],aW5 h.1 (hr y),aN1 ys h.2 hr,rfl⟩
theorem bBt (f x0:Operand) (ys:List Operand) (tys:Array TypeId) {gf:FuncId} {x' r:AV} (hf:s.ev f= .fn gf []) (hc:callable P gf=true) (hy:(ys.all fun y=>(s.ev y).plainF)=true) (hr:r.plainV=true∨r= .tup []) (hx:eB s.o (s.ev x0)=true) (hu:(uses (s.ev x0)).Nodup)
  (hm:mt s.o (s.ev x0) x'=true) (hok:OkM P gf (res s.o (s.ev x0)) x' (ys.map s.ev) r):
  Step P B ⟨dst,.call {callee:= .value f,args:=⟨x0::ys⟩,argTypes:=tys},ty,pos,after,gd⟩ s (s.mutated dst (s.ev x0) x' r):=by
 rintro a w next Q ⟨G,rr⟩ hn
 have h1:=rr.ev f
 rw [hf] at h1
 simp only [R] at h1
 obtain ⟨_,cs,hv,hcap⟩:=h1
 have hcs:cs=[]:=by cases cs with
  |nil=>rfl
  |cons _ _=>simp [Rc] at hcap
 subst hcs
 obtain ⟨fp,hres,hnd,hOf⟩:=zA rr _ _ hx hu (rr.ev x0)
 have hlt:∀b∈fp,b < w.heap.size:=fun b hb=>by
  obtain ⟨i,ob,g,_,hl,hlive,hF⟩:=hOf b hb
  exact (rr.fresh _ _ _ b hl hlive hF).2
 have kB:bP w (env B s.o G w).plain w (nA w (· ∈fp)):=⟨fun b hb=>⟨⟨lX rr hb,fun hm=>by
   obtain ⟨i,ob,g,_,hl,hlive,hF⟩:=hOf b hm
   exact hb.2 i ob g hl hlive hF⟩,rfl⟩,fun _ _=>trivial,fun _ _ _ h=>h.elim,fun _ _ _ h=>h.elim,fun _ _ _ _ _ h=>h.elim⟩
 have hab:∀b∈fp,aB.low P≤b:=fun b hb=>by
  obtain ⟨i,ob,g,_,hl,hlive,hF⟩:=hOf b hb
  exact rr.above (rr.fresh _ _ _ b hl hlive hF).1
 have hcall:=hok w (a.eval x0) (ys.map a.eval) fp rr.holds hab (jL kB _ _ _ (fun _ _=>rfl) hres) hnd hlt (aN1 ys hy fun y=>rr.ev y)
 unfold Oper.wp
 have hrun:(execOp a.eval ⟨dst,.call {callee:= .value f,args:=⟨x0::ys⟩,argTypes:=tys},ty,pos,after,gd⟩).run P w= .ok (.enter gf (a.eval x0::ys.map a.eval).toArray) w:=by
  simp [execOp,resolve,hv,Deferred.ofValue,invoke,rP hc]
 rw [hrun,Oper.upon_enter]
 refine hcall.mono fun e w' h=> ?_
 obtain ⟨v,fp',rfl,hrr,hxr,hnd',hfr,hsz,hsame,hio⟩:=h
 refine hn _ _ ?_
 obtain ⟨L,hLi,hN,rfl,hL⟩:=aVs (s.ev x0) x' _ fp' hx hm (rr.ev x0) hxr
 have hus:∀i,i∈uses (s.ev x0)↔∃p∈L,p.i=i:=fun i=>by rw [←hLi];simp
 unfold AS.mutated
 rw [hN]
 generalize huu:uses (s.ev x0)=u at *
 generalize ho':aAl (L.map fun p=>(p.i,p.rows)) u 0 s.o=o'
 generalize hG':aC2 L 0 G=G'
 have lk:∀{i ob' g'},look o' G' i ob' g'→∃ob g,look s.o G i ob g∧((∃p∈L,p.i=i∧ob'={ob with els:=p.rows}∧g'={g with F:=fun b=>b∈p.fp})∨
   ((∀p∈L,p.i≠i)∧ob'=ob.forget u∧g'=g)):=fun h=>bDp (by rw [ho',hG'];exact h)
 have kl:∀{i ob g},look s.o G i ob g→∃ob' g',look o' G' i ob' g'∧ob'.live=ob.live∧ob'.ver=ob.ver∧ob'.n=ob.n∧g'.a=g.a∧g'.cap=g.cap∧ob'.els.length=ob.els.length∧((∀p∈L,p.i≠i)→g'=g)∧ob'.box=ob.box:=by
  intro i ob g h
  obtain ⟨ob',g',h'⟩:=bDd (L:=L) (u:=u) h
  rw [ho',hG'] at h'
  refine ⟨ob',g',h',?_⟩
  obtain ⟨ob2,g2,h2,hcase⟩:=lk h'
  obtain ⟨rfl,rfl⟩:=gL h h2
  rcases hcase with ⟨p,hp,rfl,rfl,rfl⟩|⟨hno,rfl,rfl⟩
  ·obtain ⟨ob3,g3,hl3,_,_,_,hlen⟩:=hL p hp
   obtain ⟨rfl,rfl⟩:=gL h hl3
   exact ⟨rfl,rfl,rfl,rfl,rfl,hlen,fun hn=>absurd rfl (hn p hp),rfl⟩
  ·exact ⟨lL _ _,aJ9 _ _,aTi _ _,rfl,rfl,aJ3 _ _,fun _=>rfl,aL8 _ _⟩
 have fpF:∀b∈fp,∀i ob g,look s.o G i ob g→ob.live=true→g.F b→i∈u:=fun b hb i ob g hl hlive hF=>by
  obtain ⟨j,oj,gj,hj,hlj,hjl,hFj⟩:=hOf b hb
  have:=rr.apart i j _ _ _ _ b hl hlj hlive hjl hF hFj
  rw [this];exact hj
 have keepF:∀i ob g b,look s.o G i ob g→ob.live=true→g.F b→i∉u→w'.heap[b]? =w.heap[b]?:=fun i ob g b hl hlive hF hiu=>
  hsame b (rr.fresh _ _ _ b hl hlive hF).2 (fun hm=>hiu (fpF b hm i ob g hl hlive hF))
 have noU:∀i,i∉u→∀p∈L,p.i≠i:=fun i hi p hp e=>hi ((hus i).2 ⟨p,hp,e⟩)
 let Er:Env:={env B s.o G w with D:=fun i b=>i∉u∧(env B s.o G w).D i b}
 have rt1:iT (eZ u) true (env B s.o G w) Er (fun _=>True):=by
  refine ⟨fun t e=>by simp [eZ] at e,fun t e=>by simp only [eZ,Option.some.injEq] at e;exact ⟨e.symm,fun b hb=>hb⟩,fun i t e=> ?_,fun _ _ _ _ h=>h,fun _ _ _ _ _ _ h=>h⟩
  simp only [eZ] at e
  split at e
  ·cases e
  ·rename_i hiu
   obtain rfl:=Option.some.inj e
   refine ⟨by simp,?_,fun b hb=>⟨hiu,hb⟩⟩
   by_cases hV:(env B s.o G w).V i
   ·exact .inl hV
   ·exact .inr hV
 have k2:bP w Er w' (env B o' G' w'):=by
  refine ⟨fun b hb=> ?_,fun i h ob hob=> ?_,fun i b hV h=> ?_,fun i ver x h=> ?_,fun i ver j q x h=> ?_⟩
  ·have hb':(env B s.o G w).A b:=hb
   have hbl:=lX rr hb'
   have hnf:b∉fp:=fun hm=>by
    obtain ⟨i,ob,g,_,hl,hlive,hF⟩:=hOf b hm
    exact hb'.2 i ob g hl hlive hF
   refine ⟨⟨?_,fun i ob' g' hl hlive hF=> ?_⟩,hsame b hbl hnf⟩
   ·rcases hb'.1 with h|h
    ·exact .inl h
    ·exact .inr ⟨h.1,by omega⟩
   ·obtain ⟨ob,g,hl0,⟨p,hp,_,rfl,rfl⟩|⟨_,rfl,rfl⟩⟩:=lk hl
    ·have:=hfr b (aHs.2 ⟨p,hp,hF⟩)
     rcases this.1 with h|h
     ·exact hnf h
     ·omega
    ·refine hb'.2 i ob g' hl0 ?_ hF
     rw [lL] at hlive;exact hlive
  ·have hi:i < G.length:=by rw [rr.len];exact (List.getElem?_eq_some_iff.1 hob).1
   obtain ⟨ob',g',hl,h1,_⟩:=kl (i:=i) (ob:=ob) (g:=G[i]) ⟨hob,List.getElem?_eq_getElem hi⟩
   rw [←h1];exact h ob' hl.1
  ·obtain ⟨hiu,ob,g,hl,hlive,hF,hne⟩:=h
   obtain ⟨ob',g',hl',h1,_,_,_,_,_,h7,_⟩:=kl hl
   obtain rfl:=h7 (noU i hiu)
   exact ⟨⟨ob',g',hl',by rw [h1];exact hlive,hF,hne⟩,keepF i ob g' b hl hlive hF hiu⟩
  ·obtain ⟨ob,g,hl,hver,hh,hz⟩:=h
   obtain ⟨ob',g',hl',h1,h2,h3,h4,h5,h6,_⟩:=kl hl
   exact ⟨ob',g',hl',by omega,fun hlive hve=>by rw [h4,h5,h6];exact hh (by rw [←h1];exact hlive) (by omega),hz⟩
  ·obtain ⟨ob,g,hl,hver,hh,hz⟩:=h
   obtain ⟨ob',g',hl',h1,h2,h3,h4,h5,h6,_,h8⟩:=kl hl
   exact ⟨ob',g',hl',by omega,fun hlive hve=>by rw [h4,h3];exact hh (by rw [←h1];exact hlive) (by omega),fun e e2 e3 e4 y hy=>⟨(hz (by rw [←h8];exact e) e2 e3 e4 y hy).1,fun hlive hve=>by rw [h5];exact (hz (by rw [←h8];exact e) e2 e3 e4 y hy).2 (by rw [←h1];exact hlive) (by omega)⟩⟩
 have tm:Rc w' (env B o' G' w') (rtc (eZ u) true s.t) a.tmps.toList []:=
  dI k2 _ _ _ (by simp) (qB rt1 _ _ _ (by simp) rr.tmps)
 have kn:bP w' mP w' (env B o' G' w').plain:=⟨fun _ h=>h.elim,fun _ _=>trivial,fun _ _ _ h=>h.elim,fun _ _ _ h=>h.elim,fun _ _ _ _ _ h=>h.elim⟩
 have rel:bG B ⟨rtc (eZ u) true s.t,o'⟩ G' a w':=by
  refine {len:=by rw [←hG',←ho',aDa,aDe];exact rr.len,defs:=rr.defs,ok:= ?_,apart:= ?_,fresh:= ?_,tmps:=tm,size:=Nat.le_trans rr.size hsz,frame:= ?_,base:=rr.base,same:=rr.same.trans hio}
  ·intro i ob' g' hl hlive
   obtain ⟨ob,g,hl0,⟨p,hp,rfl,rfl,rfl⟩|⟨hno,rfl,rfl⟩⟩:=lk hl
   ·obtain ⟨ob3,g3,hl3,_,hbx,hown,hlen⟩:=hL p hp
    obtain ⟨rfl,rfl⟩:=gL hl0 hl3
    refine ⟨p.fp,?_,aQw hnd' p hp,fun b hb=>hb⟩
    simp only [hbx,Env.of,Bool.false_eq_true,if_false]
    exact hown.keeps kn (fun _ _=>rfl)
   ·have hiu:i∉u:=fun h=>by
     obtain ⟨p,hp,e⟩:=(hus i).1 h
     exact hno p hp e
    rw [lL] at hlive
    obtain ⟨fpo,hown,hndo,hFo⟩:=rr.ok i ob g' hl0 hlive
    by_cases hbx:ob.box=true
    ·simp only [hbx,Env.of,if_true] at hown
     obtain ⟨hlen,hown⟩:=hown
     by_cases hall:xV ob.els=true
     ·have hfo:ob.forget u=ob:=by unfold aA.forget;simp [hbx,hall]
      rw [hfo]
      refine ⟨fpo,?_,hndo,hFo⟩
      simp only [hbx,Env.of,if_true]
      refine ⟨hlen,?_⟩
      rcases hown with h|⟨b,off,C,e,fz,fps',ha,hb,hz,h1,h2,h3,rfl,hrr'⟩
      ·exact .inl h
      ·have hbs:=keepF i ob g' b hl0 hlive (hFo b (by simp)) hiu
       exact .inr ⟨b,off,C,e,fz,fps',ha,by rw [hbs];exact hb,hz,h1,h2,h3,rfl,kK k2 _ _ _ _ _ hbs (fun x hx=>keepF i ob g' x hl0 hlive (hFo x (by simp [hx])) hiu) (aW8 hall hrr')⟩
     ·have hfo:ob.forget u={ob with els:=rtr (eZ u) true ob.els}:=by unfold aA.forget;rw [if_pos hbx,if_neg hall]
      rw [hfo]
      rcases hown with ⟨h1,h2,h3⟩|⟨b,off,C,e,fz,fps',ha,hb,hz,h1,h2,h3,rfl,hrr'⟩
      ·exact ⟨[],⟨by simp [jT];exact hlen,.inl ⟨by simp [h1,rtr],h2,rfl⟩⟩,by simp,by simp⟩
      ·have hbF:=hFo b (by simp)
       have hbs:=keepF i ob g' b hl0 hlive hbF hiu
       refine ⟨[b],⟨by simp [jT];exact hlen,.inr ⟨b,off,C,e,fz,[],ha,by rw [hbs];exact hb,hz,h1,by simpa [jT] using h2,h3,rfl,?_⟩⟩,by simp,by simpa using hbF⟩
       simp only [hbx,Env.of,if_true]
       exact kK k2 _ _ _ _ _ hbs (by simp) (zL rt1 _ _ _ _ _ (by simp) hrr')
    ·have hbx':ob.box=false:=by simpa using hbx
     have hfo:ob.forget u=ob:=by unfold aA.forget;simp [hbx']
     rw [hfo]
     refine ⟨fpo,?_,hndo,hFo⟩
     simp only [hbx',Env.of,Bool.false_eq_true,if_false] at hown⊢
     have kp:bP w (env B s.o G w).plain w' (env B o' G' w').plain:=k2.plain
     exact hown.keeps kp (fun b hb=>keepF i ob g' b hl0 hlive (hFo b hb) hiu)
  ·intro i j oi oj gi gj b hi hj hil hjl hfi hfj
   obtain ⟨ob1,g1,hl1,c1⟩:=lk hi
   obtain ⟨ob2,g2,hl2,c2⟩:=lk hj
   have lv:∀{k:Nat} {ob ob':aA} {g g':CO},((∀p∈L,p.i≠k)∧ob'=ob.forget u∧g'=g)→ob'.live=true→ob.live=true:=by
    rintro k ob ob' g g' ⟨_,rfl,_⟩ h
    rw [lL] at h;exact h
   rcases c1 with ⟨p,hp,hpi,rfl,rfl⟩|c1<;>rcases c2 with ⟨q,hq,hqi,rfl,rfl⟩|c2
   ·have:=aOn hnd' p hp q hq b hfi hfj
    rw [←hpi,←hqi,this]
   ·exfalso
    have hjl':=lv c2 hjl
    have hF2:g2.F b:=by rw [←c2.2.2];exact hfj
    rcases (hfr b (aHs.2 ⟨p,hp,hfi⟩)).1 with h|h
    ·have:=fpF b h j ob2 g2 hl2 hjl' hF2
     obtain ⟨q,hq,e⟩:=(hus j).1 this
     exact c2.1 q hq e
    ·have:=(rr.fresh _ _ _ b hl2 hjl' hF2).2;omega
   ·exfalso
    have hil':=lv c1 hil
    have hF1:g1.F b:=by rw [←c1.2.2];exact hfi
    rcases (hfr b (aHs.2 ⟨q,hq,hfj⟩)).1 with h|h
    ·have:=fpF b h i ob1 g1 hl1 hil' hF1
     obtain ⟨p,hp,e⟩:=(hus i).1 this
     exact c1.1 p hp e
    ·have:=(rr.fresh _ _ _ b hl1 hil' hF1).2;omega
   ·refine rr.apart i j _ _ _ _ b hl1 hl2 (lv c1 hil) (lv c2 hjl) ?_ ?_
    ·rw [←c1.2.2];exact hfi
    ·rw [←c2.2.2];exact hfj
  ·intro i ob' g' b hl hlive hF
   obtain ⟨ob,g,hl0,⟨p,hp,rfl,rfl,rfl⟩|⟨hno,rfl,rfl⟩⟩:=lk hl
   ·have:=hfr b (aHs.2 ⟨p,hp,hF⟩)
    refine ⟨?_,this.2⟩
    rcases this.1 with h|h
    ·obtain ⟨j,oj,gj,_,hlj,hjl,hFj⟩:=hOf b h
     exact (rr.fresh _ _ _ b hlj hjl hFj).1
    ·exact .inr (Nat.le_trans rr.size h)
   ·have hlive':ob.live=true:=by rw [lL] at hlive;exact hlive
    have:=rr.fresh _ _ _ b hl0 hlive' hF
    exact ⟨this.1,by omega⟩
  ·intro b hb hO
   rw [←rr.frame b hb hO]
   refine hsame b (Nat.lt_of_lt_of_le hb rr.size) (fun hm=> ?_)
   obtain ⟨j,oj,gj,_,hlj,hjl,hFj⟩:=hOf b hm
   rcases (rr.fresh _ _ _ b hlj hjl hFj).1 with h|h
   ·exact hO h
   ·omega
 exact ⟨G',rel.put dst (by
  rcases hr with hr|rfl
  ·exact aKs hr hrr
  ·simp only [R] at hrr⊢
   obtain ⟨cs,e1,e2⟩:=hrr
   cases cs with
   |nil=>exact ⟨[],e1,by simp [Rc]⟩
   |cons c cs=>simp [Rc] at e2)⟩
end
end Go.Aw

namespace Go.Aw
inductive GA where
  | view (x : AV)
  | give (x : AV)
  | lend (c c' : List AV)
def RG (w:World) (O:Nat→Prop):GA→Value→List Nat→Nat→Prop
 | .view x,v,fp,_=>fp=[]∧R w (nA w O) x v []
 | .give x,v,fp,_=>R w (nA w O) x v fp
 | .lend c _,v,fp,cap=>∃b f,v= .pointer (some ⟨b,f,none⟩)∧kX w (nA w O) c.length [c] (some ⟨b,f,none⟩) cap fp
def RGs (w:World) (O:Nat→Prop):List GA→List Value→List (List Nat)→List Nat→Prop
 |[],[],[],[]=>True
 |x::xs,v::vs,fp::fs,k::ks=>RG w O x v fp k∧RGs w O xs vs fs ks
 |_,_,_,_=>False
def RP (w:World):GA→Value→List Nat→Nat→Prop
 | .lend c c',v,fp,cap=>∃b f,v= .pointer (some ⟨b,f,none⟩)∧kX w mP c.length [c'] (some ⟨b,f,none⟩) cap fp
 |_,_,fp,_=>fp=[]
def RPs (w:World):List GA→List Value→List (List Nat)→List Nat→Prop
 |[],[],[],[]=>True
 |x::xs,v::vs,fp::fs,k::ks=>RP w x v fp k∧RPs w xs vs fs ks
 |_,_,_,_=>False
def OkG (P:Program) [aB P] (f:FuncId) (args:List GA) (r:AV):Prop:=
 ∀(w:World) (vs:List Value) (fss:List (List Nat)) (caps:List Nat),aB.holds P w→(∀b∈fss.flatten,aB.low P≤b∧b < w.heap.size)→fss.flatten.Nodup→RGs w (· ∈fss.flatten) args vs fss caps→
  Calls P f vs.toArray w fun e w'=>∃v fp fss',e= .returned v∧R w' mP r v fp∧RPs w' args vs fss' caps∧(fss'.flatten++fp).Nodup∧
   (∀b∈fss'.flatten++fp,(b∈fss.flatten∨w.heap.size≤b)∧b < w'.heap.size)∧w.heap.size≤w'.heap.size∧(∀b,b < w.heap.size→b∉fss.flatten→w'.heap[b]? =w.heap[b]?)∧Same w w'
mutual
def away (u : List Nat) : AV → Bool
  | .obj i _ => !u.contains i
  | .ptr i _ _ _ => !u.contains i
  | .sl (.dep i) _ _ => !u.contains i
  | .vptr (.dep i) _ _ => !u.contains i
  | .agg c => aE2 u c
  | .tup c => aE2 u c
  | .fn _ c => aE2 u c
  | _ => true
def aE2 (u : List Nat) : List AV → Bool
  | [] => true
  | x :: xs => away u x && aE2 u xs
end
section
variable {P : Program} [aB P] {B : Base P} {s : AS} {G : List CO} {a : Act} {w : World}
theorem aLl (r:bG B s G a w) {Z:Nat→Prop} {u:List Nat} (hZ:∀b,Z b→Of s.o G u b) {b:Nat} (h:(env B s.o G w).A b):b < w.heap.size∧¬Z b:=
 ⟨lX r h,fun hz=>by
  obtain ⟨i,ob,g,_,hl,hlive,hF⟩:=hZ b hz
  exact h.2 i ob g hl hlive hF⟩
theorem aQn (r:bG B s G a w) {Z:Nat→Prop} {u:List Nat} (hZ:∀b,Z b→Of s.o G u b) {i:Nat} {ob:aA} {g:CO} (hl:look s.o G i ob g) (hlive:ob.live=true) (hi:i∉u) {b:Nat} (h:g.F b):b < w.heap.size∧¬Z b:=
 ⟨(r.fresh _ _ _ b hl hlive h).2,fun hz=>by
  obtain ⟨j,oj,gj,hj,hlj,hjl,hF⟩:=hZ b hz
  exact hi (r.apart i j _ _ _ _ b hl hlj hlive hjl h hF▸hj)⟩
theorem aF9 (r:bG B s G a w) {Z:Nat→Prop} {u:List Nat} (hZ:∀b,Z b→Of s.o G u b) (O:Nat→Prop) (hO:∀b,O b→b < w.heap.size∧¬Z b):iT (fun _=>some .view) false (env B s.o G w).plain (nA w Z) O where
 own t e:=by obtain rfl:=Option.some.inj e;exact ⟨by simp,fun b hb=>hO b hb⟩
 view t e:=by obtain rfl:=Option.some.inj e;exact ⟨rfl,fun b hb=>aLl r hZ hb⟩
 dep i t e:=by obtain rfl:=Option.some.inj e;exact ⟨by simp,.inl trivial,fun b hb=>hb.elim⟩
 hh h:=by cases h
 hl h:=by cases h
theorem aVq (r:bG B s G a w) {Z:Nat→Prop} {u:List Nat} (hZ:∀b,Z b→Of s.o G u b) (box:Bool) (O:Nat→Prop) (hO:∀b,O b→b < w.heap.size∧¬Z b):iT vwf false ((env B s.o G w).of box) (nA w Z) O where
 own t e:=by obtain rfl:=Option.some.inj e;exact ⟨by simp,fun b hb=>hO b hb⟩
 view t e:=by obtain rfl:=Option.some.inj e;exact ⟨rfl,fun b hb=>aLl r hZ (by cases box<;>exact hb)⟩
 dep i t e:=by cases e
 hh h:=by cases h
 hl h:=by cases h
theorem aMj (r:bG B s G a w) {Z:Nat→Prop} {u:List Nat} (hZ:∀b,Z b→Of s.o G u b) (g:Tg) (hg:∀i,g= .dep i→i∉u) (O:Nat→Prop) (hO:∀b,O b→b < w.heap.size∧¬Z b):iT (fun _=>some .view) false ((env B s.o G w).sub g) (nA w Z).plain O:=by
 cases g with
 |own=>exact aF9 r hZ O hO
 |view=>exact aF9 r hZ O hO
 |dep i=>exact
  {own:=fun t e=>by obtain rfl:=Option.some.inj e;exact ⟨by simp,fun b hb=>hO b hb⟩
   view:=fun t e=>by obtain rfl:=Option.some.inj e;exact ⟨rfl,fun b hb=>aLl r hZ hb⟩
   dep:=fun j t e=>by
    obtain rfl:=Option.some.inj e
    refine ⟨by simp,.inl trivial,fun b hb=> ?_⟩
    obtain ⟨rfl,ob,g,hl,hlive,hF,_⟩:=hb
    exact aQn r hZ hl hlive (hg _ rfl) hF
   hh:=fun h=>by cases h
   hl:=fun h=>by cases h}
theorem aQ0 (r:bG B s G a w) {Z:Nat→Prop} {u:List Nat} (hZ:∀b,Z b→Of s.o G u b) {g:Tg} (hg:∀i,g= .dep i→i∉u) {b:Nat} (h:(env B s.o G w).tg g b):b < w.heap.size∧¬Z b:=by
 cases g with
 |own=>exact h.elim
 |view=>exact aLl r hZ h
 |dep i=>obtain ⟨ob,g,hl,hlive,hF,_⟩:=h;exact aQn r hZ hl hlive (hg _ rfl) hF
theorem aD6 (r:bG B s G a w) {Z:Nat→Prop} {u:List Nat} (hZ:∀b,Z b→Of s.o G u b) {g:Tg} (hg:∀i,g= .dep i→i∉u) {n:Nat} {l:List (List AV)} {v:Value} (hd:¬(env B s.o G w).dead g) (h:R w (env B s.o G w) (.sl g n l) v []):
  R w (nA w Z) (.sl .view n (rtr (fun _=>some .view) false l)) v []:=by
 simp only [R,jT] at h⊢
 rcases h with h|⟨x,cap,hv,hl,h⟩
 ·exact absurd h.1 hd
 refine .inr ⟨x,cap,hv,hl,.inr (.inr ⟨by simp,trivial,?_⟩)⟩
 rcases h with ⟨_,rfl,_⟩|⟨_,b,off,C,ty,fz,fps,ha,hb,hz,h1,h2,h3,hfp,hr⟩|⟨hg',_,h⟩
 ·exact .inl rfl
 ·cases hfp
 ·rcases h with rfl|⟨b,off,ha,ht,hr⟩
  ·exact .inl rfl
  ·exact .inr ⟨b,off,ha,aQ0 r hZ hg ht,zL (aMj r hZ g hg (fun _=>False) (fun _ h=>h.elim)) _ _ _ _ _ (by simp) hr⟩
mutual
theorem aY5 (r : bG B s G a w) {Z : Nat → Prop} {u : List Nat} (hZ : ∀ b, Z b → Of s.o G u b) : ∀ (av : AV) (v : Value), away u av = true → R w (env B s.o G w) av v [] → R w (nA w Z) (arg s.o av) v []
  | .obj i ver, v, ha, h => by
    have hiu : i ∉ u := by simpa [away] using ha
    cases hob : AV.isObj s.o i ver with
    | none => simp [arg, hob, R]
    | some ob =>
      simp only [arg, hob]
      by_cases hb : ob.box = true
      · simp [hb, R]
      simp only [R] at h
      obtain ⟨_, ob', g, hl, _, hh, _⟩ := h
      obtain ⟨h1, h2, h3⟩ := iO hob
      obtain rfl := Option.some.inj (hl.1.symm.trans h1)
      have hv := hh h2 h3
      obtain ⟨fp, ⟨hlen, hown⟩, hnd, hF⟩ := r.ok i _ g hl h2
      have hb' : ob'.box = false := by simpa using hb
      rw [hb'] at hown
      simp only [hb', Bool.false_eq_true, if_false]
      simp only [R, jT]
      refine .inr ⟨g.a, g.cap, hv, ⟨hlen, by rcases hown with h | ⟨_, _, _, _, _, _, _, _, _, _, h, _⟩; simp [h.1]; exact h⟩, .inr (.inr ⟨by simp, trivial, ?_⟩)⟩
      rcases hown with ⟨h5, _⟩ | ⟨b, off, C, e, fz, fps, ha, hbk, hz, k1, k2, k3, rfl, hr⟩
      · left; rw [h5]; rfl
      · right
        have hlt : ∀ x ∈ b :: fps, x < w.heap.size ∧ ¬ Z x := fun x hx => aQn r hZ hl h2 hiu (hF x hx)
        exact ⟨b, off, ha, hlt b (by simp), zL (aF9 r hZ (fun x => x < w.heap.size ∧ ¬ Z x) (fun _ h => h)) _ _ _ _ fps (fun x hx => hlt x (by simp [hx])) hr⟩
  | .ptr i ver idx off, v, ha, h => by
    have hiu : i ∉ u := by simpa [away] using ha
    cases hob : AV.isObj s.o i ver with
    | none => simp [arg, hob, R]
    | some ob =>
      simp only [arg, hob]
      cases he : ob.els[idx]? with
      | none => simp [R]
      | some e =>
        simp only [R] at h ⊢
        obtain ⟨_, ob', g, hl, _, hh, _⟩ := h
        obtain ⟨h1, h2, h3⟩ := iO hob
        obtain rfl := Option.some.inj (hl.1.symm.trans h1)
        obtain ⟨b, f, ha, hv⟩ := hh h2 h3
        obtain ⟨fp, ⟨_, hown⟩, hnd, hF⟩ := r.ok i _ g hl h2
        have hlt : ∀ x ∈ fp, x < w.heap.size ∧ ¬ Z x := fun x hx => aQn r hZ hl h2 hiu (hF x hx)
        rcases hown with ⟨h5, _⟩ | ⟨b', f', C, ty, fz, fps, ha', hbk, hz, k1, k2, k3, rfl, hr⟩
        · rw [h5] at he; simp at he
        · rw [ha] at ha'
          simp only [Option.some.injEq, Addr.mk.injEq, and_true] at ha'
          obtain ⟨rfl, rfl⟩ := ha'
          obtain ⟨f1, f2, f3, cs, rfl, hn, hc, hone, hrc, _, _⟩ := vF hr he
          refine .inr ⟨trivial, b, f + idx * ob'.n, cs, ?_, hlt b (by simp), hc, hone, ?_⟩
          · rw [hv, Nat.add_assoc]
          · have := qB (aVq r hZ ob'.box (fun x => x < w.heap.size ∧ ¬ Z x) (fun _ h => h)) e cs f2 (fun x hx => hlt x (by simp [hx])) hrc
            exact dI (w := w) (w' := w) (E := nA w Z) (E' := (nA w Z).sub .view) ⟨fun _ h => ⟨h, rfl⟩, fun _ _ => trivial, fun _ _ _ h => h.elim, fun _ _ _ h => h.elim, fun _ _ _ _ _ h => h.elim⟩ _ _ _ (by simp) this
  | .agg c, v, ha, h => by
    simp only [R, arg] at h ⊢
    obtain ⟨cs, hv, hone, hr⟩ := h
    exact ⟨cs, hv, hone, aH1 r hZ c cs (by simpa [away] using ha) hr⟩
  | .tup c, v, ha, h => by
    simp only [R, arg] at h ⊢
    obtain ⟨cs, hv, hr⟩ := h
    exact ⟨cs, hv, aH1 r hZ c cs (by simpa [away] using ha) hr⟩
  | .fn f c, v, ha, h => by
    simp only [R, arg] at h ⊢
    obtain ⟨h1, cs, hv, hr⟩ := h
    exact ⟨trivial, cs, hv, aH1 r hZ c cs (by simpa [away] using ha) hr⟩
  | .int k n, v, _, h => by simpa [arg, R] using h
  | .bool b, v, _, h => by simpa [arg, R] using h
  | .str x, v, _, h => by simpa [arg, R] using h
  | .sl .own n l, v, _, h => by simp only [arg]; exact aD6 r hZ (g := .own) (by simp) (fun h => h) h
  | .sl .view n l, v, _, h => by simp only [arg]; exact aD6 r hZ (g := .view) (by simp) (fun h => h) h
  | .sl (.dep i) n l, v, ha, h => by
    have hiu : i ∉ u := by simpa [away] using ha
    simp only [arg]
    cases ho : s.o[i]? with
    | none => simp [R]
    | some ob =>
      simp only
      by_cases hlive : ob.live = true
      · rw [if_pos hlive]
        exact aD6 r hZ (g := .dep i) (by simpa using hiu) (fun hd => hd (fun ob' hob' => by rw [ho] at hob'; obtain rfl := Option.some.inj hob'; exact hlive)) h
      · rw [if_neg hlive]; simp [R]
  | .vptr .own c off, v, _, h => by
    simp only [R] at h
    rcases h with h | ⟨_, b, o, cs, hv, ht, _⟩
    · exact h.1.elim
    · exact ht.elim
  | .vptr .view c off, v, _, h => by
    simp only [arg]
    simp only [R] at h ⊢
    rcases h with h | ⟨_, b, o, cs, hv, ht, hcs, hone, hr⟩
    · exact h.1.elim
    · exact .inr ⟨trivial, b, o, cs, hv, aQ0 r hZ (g := .view) (by simp) ht, hcs, hone, qB (aMj r hZ .view (by simp) (fun _ => False) (fun _ h => h.elim)) _ _ _ (by simp) hr⟩
  | .vptr (.dep i) c off, v, ha, h => by
    have hiu : i ∉ u := by simpa [away] using ha
    simp only [arg]
    cases ho : s.o[i]? with
    | none => simp [R]
    | some ob =>
      simp only
      by_cases hlive : ob.live = true
      · rw [if_pos hlive]
        simp only [R] at h ⊢
        rcases h with h | ⟨_, b, o, cs, hv, ht, hcs, hone, hr⟩
        · exact absurd (fun ob' hob' => by rw [ho] at hob'; obtain rfl := Option.some.inj hob'; exact hlive) h.1
        · exact .inr ⟨trivial, b, o, cs, hv, aQ0 r hZ (g := .dep i) (by simpa using hiu) ht, hcs, hone, qB (aMj r hZ (.dep i) (by simpa using hiu) (fun _ => False) (fun _ h => h.elim)) _ _ _ (by simp) hr⟩
      · rw [if_neg hlive]; simp [R]
  | .undef, v, _, _ => by simp [arg, R]
theorem aH1 (r : bG B s G a w) {Z : Nat → Prop} {u : List Nat} (hZ : ∀ b, Z b → Of s.o G u b) : ∀ (c : List AV) (cs : List Value), aE2 u c = true → Rc w (env B s.o G w) c cs [] → Rc w (nA w Z) (qF s.o c) cs []
  | [], [], _, _ => by simp [qF, Rc]
  | [], _ :: _, _, h => by simp [Rc] at h
  | _ :: _, [], _, h => by simp [Rc] at h
  | x :: xs, c :: cs, ha, h => by
    simp only [Rc] at h
    simp only [aE2, Bool.and_eq_true] at ha
    obtain ⟨f1, f2, h1, h2, e⟩ := h
    obtain ⟨rfl, rfl⟩ : f1 = [] ∧ f2 = [] := by simpa using e
    simp only [qF, Rc]
    exact ⟨[], [], aY5 r hZ x c ha.1 h1, aH1 r hZ xs cs ha.2 h2, rfl⟩
end
mutual
theorem aGr (r : bG B s G a w) {k : Nat} {ok : aA} {gk : CO} (hlk : look s.o G k ok gk) (hk : ok.live = true) : ∀ (av : AV) (v : Value) (fp : List Nat), eB s.o av = true → (uses av).Nodup → k ∉ uses av → fp.Nodup → (∀ b ∈ fp, gk.F b) → R w (env B s.o G w) av v fp →
    ∃ fp', R w (env B s.o G w).plain (res s.o av) v fp' ∧ fp'.Nodup ∧ ∀ b ∈ fp', b ∈ fp ∨ Of s.o G (uses av) b
  | .obj i ver, v, fp, ho, hu, _, _, _, h => by
    have hf : fp = [] := by simp only [R] at h; exact h.1
    subst hf
    obtain ⟨fp', h1, h2, h3⟩ := zA r _ v ho hu h
    exact ⟨fp', h1, h2, fun b hb => .inr (h3 b hb)⟩
  | .agg c, v, fp, ho, hu, hku, hn, hF, h => by
    simp only [R] at h
    obtain ⟨cs, rfl, hone, hr⟩ := h
    obtain ⟨fp', h1, h2, h3⟩ := aDt r hlk hk c cs fp (by simpa [eB] using ho) (by simpa [uses] using hu) (by simpa [uses] using hku) hn hF hr
    exact ⟨fp', by simp only [res, R]; exact ⟨cs, rfl, hone, h1⟩, h2, by simpa [uses] using h3⟩
  | .tup c, v, fp, ho, hu, hku, hn, hF, h => by
    simp only [R] at h
    obtain ⟨cs, rfl, hr⟩ := h
    obtain ⟨fp', h1, h2, h3⟩ := aDt r hlk hk c cs fp (by simpa [eB] using ho) (by simpa [uses] using hu) (by simpa [uses] using hku) hn hF hr
    exact ⟨fp', by simp only [res, R]; exact ⟨cs, rfl, h1⟩, h2, by simpa [uses] using h3⟩
  | .int k n, v, fp, _, _, _, hn, _, h => ⟨fp, by simpa [res, R] using h, hn, fun b hb => .inl hb⟩
  | .bool b, v, fp, _, _, _, hn, _, h => ⟨fp, by simpa [res, R] using h, hn, fun b hb => .inl hb⟩
  | .str x, v, fp, _, _, _, hn, _, h => ⟨fp, by simpa [res, R] using h, hn, fun b hb => .inl hb⟩
  | .sl .own n l, v, fp, _, _, _, hn, _, h => ⟨fp, by simp only [res]; rw [mX] at h ⊢; exact h, hn, fun b hb => .inl hb⟩
  | .sl .view n l, v, fp, _, _, _, hn, _, h => ⟨fp, by simp only [res, R] at h ⊢; exact h, hn, fun b hb => .inl hb⟩
  | .sl (.dep i) n l, v, fp, ho, _, _, _, _, h => by simp [eB] at ho
  | .vptr .view c off, v, fp, _, _, _, hn, _, h => ⟨fp, by simp only [res, R] at h ⊢; exact h, hn, fun b hb => .inl hb⟩
  | .vptr .own c off, v, fp, ho, _, _, _, _, h => by simp [eB] at ho
  | .vptr (.dep _) c off, v, fp, ho, _, _, _, _, h => by simp [eB] at ho
  | .ptr _ _ _ _, v, fp, ho, _, _, _, _, h => by simp [eB] at ho
  | .fn f [], v, fp, _, _, _, hn, _, h => ⟨fp, by simp only [res, R] at h ⊢; obtain ⟨h1, cs, h2, h3⟩ := h; refine ⟨h1, cs, h2, ?_⟩; cases cs <;> simp_all [Rc], hn, fun b hb => .inl hb⟩
  | .fn f (_ :: _), v, fp, ho, _, _, _, _, h => by simp [eB] at ho
  | .undef, v, fp, _, _, _, hn, _, h => ⟨fp, by simpa [res, R] using h, hn, fun b hb => .inl hb⟩
theorem aDt (r : bG B s G a w) {k : Nat} {ok : aA} {gk : CO} (hlk : look s.o G k ok gk) (hk : ok.live = true) : ∀ (c : List AV) (cs : List Value) (fp : List Nat), iW s.o c = true → (fK c).Nodup → k ∉ fK c → fp.Nodup → (∀ b ∈ fp, gk.F b) → Rc w (env B s.o G w) c cs fp →
    ∃ fp', Rc w (env B s.o G w).plain (jD s.o c) cs fp' ∧ fp'.Nodup ∧ ∀ b ∈ fp', b ∈ fp ∨ Of s.o G (fK c) b
  | [], [], fp, _, _, _, hn, _, h => ⟨fp, by simpa [jD, Rc] using h, hn, fun b hb => .inl hb⟩
  | [], _ :: _, _, _, _, _, _, _, h => by simp [Rc] at h
  | _ :: _, [], _, _, _, _, _, _, h => by simp [Rc] at h
  | x :: xs, c :: cs, fp, ho, hu, hku, hn, hF, h => by
    simp only [Rc] at h
    obtain ⟨g1, g2, h1, h2, rfl⟩ := h
    simp only [iW, Bool.and_eq_true] at ho
    simp only [fK, List.nodup_append] at hu
    simp only [fK, List.mem_append, not_or] at hku
    have hn' := List.nodup_append.1 hn
    obtain ⟨f1, k1, n1, o1⟩ := aGr r hlk hk x c g1 ho.1 hu.1 hku.1 hn'.1 (fun b hb => hF b (List.mem_append_left _ hb)) h1
    obtain ⟨f2, k2, n2, o2⟩ := aDt r hlk hk xs cs g2 ho.2 hu.2.1 hku.2 hn'.2.1 (fun b hb => hF b (List.mem_append_right _ hb)) h2
    have hofk : ∀ (u : List Nat) (b : Nat), k ∉ u → gk.F b → Of s.o G u b → False := by
      rintro u b hku hFb ⟨i, ob, g, hi, hl, hlive, hF'⟩
      exact hku (r.apart k i _ _ _ _ b hlk hl hk hlive hFb hF' ▸ hi)
    refine ⟨f1 ++ f2, by simp only [jD, Rc]; exact ⟨f1, f2, k1, k2, rfl⟩, ?_, ?_⟩
    · refine List.nodup_append.2 ⟨n1, n2, fun b hb b' hb' e => ?_⟩
      subst e
      rcases o1 b hb with p1 | p1 <;> rcases o2 b hb' with p2 | p2
      · exact hn'.2.2 b p1 b p2 rfl
      · exact hofk _ b hku.2 (hF b (List.mem_append_left _ p1)) p2
      · exact hofk _ b hku.1 (hF b (List.mem_append_right _ p2)) p1
      · obtain ⟨i, ob, g, hi, hl, hlive, hF1⟩ := p1
        obtain ⟨j, ob', g', hj, hl', hlive', hF2⟩ := p2
        exact hu.2.2 i hi j hj (r.apart i j _ _ _ _ b hl hl' hlive hlive' hF1 hF2)
    · intro b hb
      rcases List.mem_append.1 hb with hb | hb
      · rcases o1 b hb with h | ⟨i, ob, g, hi, h⟩
        · exact .inl (List.mem_append_left _ h)
        · exact .inr ⟨i, ob, g, by simp [fK, hi], h⟩
      · rcases o2 b hb with h | ⟨i, ob, g, hi, h⟩
        · exact .inl (List.mem_append_right _ h)
        · exact .inr ⟨i, ob, g, by simp [fK, hi], h⟩
end
end
end Go.Aw

namespace Go.Aw
def aT (l:List UInt8):List (List AV):=l.map fun c=>[.int .u8 c.toNat]
theorem nE (l:List UInt8):(aT l).length=l.length:=List.length_map _
theorem aSk {w:World} {E:Env} {b:Nat}:∀(l:List UInt8) (off:Nat),(∀(j:Nat) (c:UInt8),l[j]? =some c→w.cell? ⟨b,off+j,none⟩=some (.int .u8 c.toNat))→Rr w E (aT l) b off 1 []
 |[],_,_=>by simp [aT,Rr]
 |c::l,off,h=>by
  simp only [aT,List.map_cons,Rr]
  refine ⟨[.int .u8 c.toNat],[],[],rfl,fun j v hv=> ?_,by simp [Value.oneCell'],by simp [Rc,R],aSk l (off+1) (fun j c' hc=> ?_),rfl⟩
  ·cases j with
   |zero=>simp only [List.getElem?_cons_zero,Option.some.injEq] at hv;subst hv;exact h 0 c rfl
   |succ j=>simp at hv
  ·have:=h (j+1) c' (by simpa using hc)
   rwa [show off+1+j=off+(j+1) by omega]
section
variable {P : Program} [aB P] {B : Base P} {s : AS} {dst : Option Tmp} {ty : TypeId} {pos : String} {after : Array Edge} {gd : Option (Nat × Bool)}
theorem aXj (src d:TypeId) (x:Operand) {l:List UInt8} {e:TypeId} {by':Nat} (hx:s.ev x= .str l) (hs:isString P src=true) (hd:elemA P d=some (e,1,by')) (he:intType P e=some .u8) (hl:l.length≤9223372036854775807):
  Step P B ⟨dst,.convert src d x,ty,pos,after,gd⟩ s (s.made dst 1 (aT l)):=
 nD fun G a w r=>by
  obtain ⟨hu,_⟩:=nO hd
  have hue:P.underlying e=some (.int .u8):=by
   unfold intType at he
   split at he
   ·rename_i k hk;rw [hk];simpa using he
   ·cases he
  have hrun:=Lib.run_convert_string_bytes w src d e ⟨l.toArray⟩ (mR hs) hu hue
  have hsz:(⟨l.toArray⟩:ByteArray).size=l.length:=by simp [ByteArray.size]
  rw [hsz] at hrun
  have hge:l.length≤grownCap w l.length 0 e:=grownCap_ge _ _ _ _
  have hle:grownCap w l.length 0 e≤maxLen:=grownCap_le_maxLen _ _ _ _ (by simpa [maxLen] using hl)
  have hnew:=Lib.bytesWorld_at_new w e ⟨l.toArray⟩
  have hbs:=Lib.bytesWorld_size w e ⟨l.toArray⟩
  have hold:=Lib.bytesWorld_at_old w e ⟨l.toArray⟩
  have hC:Lib.bytesCells w e ⟨l.toArray⟩=(l.map fun c=>Value.int .u8 c.toNat).toArray++Array.replicate (grownCap w l.length 0 e - l.length) (.int .u8 0):=by
   simp [Lib.bytesCells,hsz]
  have hCs:(Lib.bytesCells w e ⟨l.toArray⟩).size=grownCap w l.length 0 e:=by rw [hC];simp;omega
  have hsm:Same w (Lib.bytesWorld w e ⟨l.toArray⟩):=⟨rfl,rfl,rfl⟩
  generalize hcap:grownCap w l.length 0 e=cap at *
  generalize hw:Lib.bytesWorld w e ⟨l.toArray⟩=w' at *
  have hadd:=r.add [⟨true,false,1,1,aT l⟩] [⟨some ⟨w.heap.size,0,none⟩,cap,fun b=>b=w.heap.size⟩] w' rfl (by omega) (fun b hb=>hold b hb)
   (by
    rintro j ob g b ⟨h1,h2⟩ _ hf
    cases j with
    |zero=>simp at h2;subst h2;simp at hf;subst hf;omega
    |succ j=>simp at h2)
   (by
    rintro i j _ _ _ _ b ⟨h1,_⟩ ⟨h2,_⟩ _ _ _ _
    cases i<;>cases j<;>simp_all)
   (by
    rintro k j ob g ⟨h1,h2⟩ _
    cases j with
    |zero=>
     simp at h1 h2
     subst h1;subst h2
     refine ⟨[w.heap.size],⟨by simp only [nE];exact Nat.le_trans hge hle,.inr ⟨w.heap.size,0,_,e,_,[],rfl,hnew,.inl ⟨Nat.le_refl _,rfl⟩,by show 0+cap * 1≤_;rw [hCs];omega,by simp only [nE];exact hge,hle,rfl,?_⟩⟩,by simp,by simp⟩
     refine aSk l 0 fun j c hc=> ?_
     have hj:=(List.getElem?_eq_some_iff.1 hc).1
     have h3:(Lib.bytesCells w e ⟨l.toArray⟩)[j]? =some (.int .u8 c.toNat):=by
      rw [hC,Array.getElem?_append_left (by simpa using hj)]
      simp [hc]
     simp only [World.cell?,hnew,Nat.zero_add]
     exact h3
    |succ j=>simp at h1)
   hsm
  refine ⟨.slice (some ⟨w.heap.size,0,none⟩) l.length cap,w',by simp only [execOp,r.strv hx,Sem.run_bind,hrun,Result.andThen_ok,Sem.run_pure],_,hadd.1.put dst ?_⟩
  simp only [R]
  refine ⟨trivial,⟨true,false,1,1,aT l⟩,⟨some ⟨w.heap.size,0,none⟩,cap,fun b=>b=w.heap.size⟩,?_,Nat.le_refl _,⟨fun _ _=>by simp [nE],fun h=>by omega⟩⟩
  have:=mG (i:=0) (o:=s.o) (G:=G) (o2:=[⟨true,false,1,1,aT l⟩]) (G2:=[⟨some ⟨w.heap.size,0,none⟩,cap,fun b=>b=w.heap.size⟩]) r.len ⟨rfl,rfl⟩
  simpa using this
end
end Go.Aw
