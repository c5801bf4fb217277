/- Proved here: steps towards the statement of this claim. No condition. -/
import Derived.Test.YtlnblmmohpcceaaGreatDoorZF1
import Derived.Lib.ConvBytes
set_option linter.all false
namespace Go.Aw
open List
def AV.JP:AV->Bool
 | .undef=>false
 | .gV _=>false
 | .agg _=>false
 | .obj _ _=>false
 | .ptr _ _ _ _=>false
 | .sl (.iQ _) _ _=>false
 | .eH (.iQ _) _ _=>false
 | .fn _ (_::_)=>false
 |_=>true
theorem aBq {w:World} {E E':Env} (hA:∀b,E.A b->E'.A b) {x:AV} {v:Value} (hs:x.JP=true) (h:R w E x v []):R w E' x v []:=by
 cases x with
 |int _ _=>simpa [R] using h
 |bool _=>simpa [R] using h
 |str _=>simpa [R] using h
 |sl g n l=>
  cases g with
  |own=>
   rw [oV] at h⊢
   obtain ⟨a,cap,hv,hl,h⟩:=h
   refine ⟨a,cap,hv,hl,.inl ?_⟩
   rcases h with h|⟨_,_,_,_,_,_,_,_,_,_,_,_,hf,_⟩
   ·exact h
   ·cases hf
  |view=>
   refine nK (w:=w) (E:=E.plain) (E':=E') ⟨fun b h=>⟨hA b h,rfl⟩,fun _ _=>trivial,fun _ _ _ h=>h.elim,fun _ _ _ h=>h.elim,fun _ _ _ _ _ h=>h.elim⟩ _ _ _ (by simp) ?_
   simp only [R] at h⊢;exact h
  |iQ i=>cases hs
 |eH g c off=>
  cases g with
  |own=>simp only [R] at h;rcases h with h|⟨_,_,_,_,_,h,_⟩;exact h.1.elim;exact h.elim
  |view=>
   refine nK (w:=w) (E:=E.plain) (E':=E') ⟨fun b h=>⟨hA b h,rfl⟩,fun _ _=>trivial,fun _ _ _ h=>h.elim,fun _ _ _ h=>h.elim,fun _ _ _ _ _ h=>h.elim⟩ _ _ _ (by simp) ?_
   simp only [R] at h⊢;exact h
  |iQ i=>cases hs
 |obj _ _=>cases hs
 |ptr _ _ _ _=>cases hs
 |agg _=>cases hs
 |gV _=>cases hs
 |fn f c=>
  cases c with
  |nil=>simp only [R] at h⊢;obtain ⟨h1,cs,h2,h3⟩:=h;refine ⟨trivial,cs,h2,?_⟩;cases cs<;>simp_all [Rc]
  |cons _ _=>cases hs
 |undef=>cases hs
theorem Ug {w:World} {E E':Env} (hA:∀b,E.A b->E'.A b):∀{c:List AV} {cs:List Value},c.all AV.JP=true->Rc w E c cs []->Rc w E' c cs []
 |[],[],_,_=>by simp [Rc]
 |[],_::_,_,h=>by simp [Rc] at h
 |_::_,[],_,h=>by simp [Rc] at h
 |x::xs,c::cs,hs,h=>by
  simp only [Rc] at h⊢
  simp only [all_cons,Bool.and_eq_true] at hs
  obtain ⟨f1,f2,h1,h2,e⟩:=h
  obtain ⟨rfl,rfl⟩:f1=[]/\f2=[]:=by simpa using e
  exact ⟨[],[],aBq hA hs.1 h1,Ug hA hs.2 h2,rfl⟩
section
variable {P : Program} [aD P] {B : fG P} {s : AS} {dst : Option Tmp} {ty : TypeId} {pos : String} {after : Array Edge} {gd : Option (Nat × Bool)}
def AS.stored (s:AS) (i idx off:Nat) (ob:aG) (e c:List AV):AS:=⟨s.t,s.o.set i {ob with dK:=ob.dK.set idx (e.take off++c++e.drop (off+c.length))}⟩
theorem dN.stored {G:List CO} {a:Act} {w:World} (r:dN B s G a w) {i idx off:Nat} {ob:aG} {g:CO} {e c:List AV} {vs:List Value} (hl:Aw.look s.o G i ob g) (hlive:ob.live=true) (he:ob.dK[idx]? =some e)
  (hfit:off+c.length<=e.length) (rY:ob.box=true\/c.all AV.JP=true) (hone:∀x∈vs,x.oneCell'=true) (hr:Rc w (env B s.o G w) c vs []):
  ∃b f,g.a=some ⟨b,f,none⟩/\(storeCells ⟨b,f+(idx * ob.n+off),none⟩ vs).run P w= .ok () (w.setCells b (f+(idx * ob.n+off)) vs)/\
   dN B (s.stored i idx off ob e c) (G.set i g) a (w.setCells b (f+(idx * ob.n+off)) vs):=by
 obtain ⟨fp,hown,hnd,hF⟩:=r.ok i ob g hl hlive
 have hvl:=fB hr
 rcases hown with ⟨hlen,⟨h,_⟩|⟨b,f,C,ty,fz,nQ,ha,hb,hz,h1,h2,h3,rfl,RY⟩⟩
 ·rw [h] at he;simp at he
 obtain ⟨f1,f2,f3,cs,hfe,hn,hc,Uh,rW,hr1,hr3⟩:=wX RY he
 have wU:=fB rW
 have aFq:idx < ob.dK.length:=(List.getElem?_eq_some_iff.1 he).1
 have hmul:(idx+1) * ob.n<=g.cap * ob.n:=Nat.mul_le_mul_right _ (by omega)
 have Zh:(idx+1) * ob.n=idx * ob.n+ob.n:=by rw [Nat.add_mul];omega
 have uq:f+(idx * ob.n+off)+vs.length<=C.size:=by omega
 refine ⟨b,f,ha,pW hb hz uq hone,?_⟩
 have Qs:g.F b:=hF b (by simp)
 have Bw:∀b',b'≠b->(w.setCells b (f+(idx * ob.n+off)) vs).heap[b']? =w.heap[b']?:=fun b' hne=>jS b b' hne _ _ _
 obtain ⟨C',hC',GM⟩:=iB b ty fz vs (f+(idx * ob.n+off)) w C hb
 have hm:=r.modify hl hlive {ob with dK:=ob.dK.set idx (e.take off++c++e.drop (off+c.length))} g (w.setCells b (f+(idx * ob.n+off)) vs) (Nat.le_refl _) rfl (fun _=>⟨rfl,rfl,by simp⟩) (fun b hb=> .inl hb) (fun b hb hne=>⟨hb,hne⟩)
  (fun b' hlt hne=>Bw b' (fun e=>hne ⟨e▸Qs,⟨b,f,none⟩,ha,e⟩)) (by rw [fH];exact Nat.le_refl _) (fun k _=>by
  generalize env B (s.o.set i {ob with dK:=ob.dK.set idx (e.take off++c++e.drop (off+c.length))}) (G.set i g) (w.setCells b (f+(idx * ob.n+off)) vs)=E' at k⊢
  have kb:=k.of ob.box
  obtain ⟨g1,g2,rfl,hc1,TZ⟩:=pV off rW
  obtain ⟨g3,g4,rfl,I9,hc4⟩:=pV c.length TZ
  have hc':Rc w ((env B s.o G w).of ob.box) c vs []:=by
   cases Et:ob.box with
   |true=>exact hr
   |false=>
    rcases rY with h|h
    ·rw [Et] at h;cases h
    ·exact Ug (E:=env B s.o G w) (E':=(env B s.o G w).of false) (fun b hb=>hb) h hr
  subst hfe
  have hsub:(f1++(g1++g4)++f3).Sublist (f1++(g1++(g3++g4))++f3):=((Sublist.refl f1).append ((Sublist.refl g1).append (sublist_append_right g3 g4))).append (Sublist.refl f3)
  have PS:b∉f1++(g1++(g3++g4))++f3:=(nodup_cons.1 hnd).1
  have hold:∀x∈f1++(g1++g4)++f3,(w.setCells b (f+(idx * ob.n+off)) vs).heap[x]? =w.heap[x]?:=fun x hx=>Bw x (fun e=>PS (hsub.subset (e▸hx)))
  have ER:∀j,j < f+(idx * ob.n+off)\/f+(idx * ob.n+off)+vs.length<=j->(w.setCells b (f+(idx * ob.n+off)) vs).cell? ⟨b,j,none⟩=w.cell? ⟨b,j,none⟩:=fun j hj=>World.cell?_setCells_out b vs _ w _ (fun _ _=>hj)
  have I8:(ob.dK.take idx).length=idx:=by simp;omega
  refine ⟨b::(f1++(g1++g4)++f3),⟨by simpa using hlen,.inr ⟨b,f,C',ty,fz,_,ha,hC',by rw [GM];exact hz,by rw [GM];exact h1,by simpa using h2,h3,rfl,?_⟩⟩,?_,?_⟩
  ·show Rr _ _ (ob.dK.set idx _) b f ob.n _
   refine Qq (cs:=cs.take off++vs++cs.drop (off+vs.length)) aFq ?_ ?_ ?_ ?_ ?_ ?_
   ·simp only [length_append,length_take,length_drop];omega
   ·have hc1:bD w b (f+idx * ob.n) cs:=hc
    have htl:(cs.take off).length=off:=by simp;omega
    refine bD.append.2 ⟨bD.append.2 ⟨?_,?_⟩,?_⟩
    ·intro j v hv
     have hj:=(List.getElem?_eq_some_iff.1 hv).1
     rw [htl] at hj
     rw [ER _ (by omega)]
     exact hc1.take j v hv
    ·intro j v hv
     have hj:j < vs.length:=(List.getElem?_eq_some_iff.1 hv).1
     rw [htl,Nat.add_assoc f]
     have:=World.cell?_setCells_in b vs (f+(idx * ob.n+off)) w (fun j hj=>by
      have:f+(idx * ob.n+off)+j < C.size:=by omega
      simp [World.cell?,hb,this]) j hj
     rw [this]
     rw [getElem?_eq_getElem hj] at hv
     exact hv
    ·intro j v hv
     simp only [length_append,htl]
     rw [ER _ (by omega)]
     have:=hc1.drop (k:=off+vs.length) j v hv
     rwa [show f+idx * ob.n+(off+vs.length)+j=f+idx * ob.n+(off+vs.length)+j from rfl] at this
   ·intro x hx
    simp only [mem_append] at hx
    rcases hx with (hx|hx)|hx
    ·exact Uh x (mem_of_mem_take hx)
    ·exact hone x hx
    ·exact Uh x (mem_of_mem_drop hx)
   ·have e1:g1++g4=g1++[]++g4:=by simp
    rw [e1]
    refine kU (kU (dF kb _ _ _ (fun x hx=>hold x (by simp [hx])) hc1) (dF kb _ _ _ (by simp) hc')) ?_
    rw [<-hvl,<-drop_drop,<-drop_drop] at *
    rw [hvl] at *
    exact dF kb _ _ _ (fun x hx=>hold x (by simp [hx])) hc4
   ·refine LQ kb ER (fun x hx=>hold x (by simp [hx])) (.inl ?_) hr1
    rw [I8];omega
   ·refine LQ kb ER (fun x hx=>hold x (by simp [hx])) (.inr ?_) hr3
    omega
  ·refine nodup_cons.2 ⟨fun h=>PS (hsub.subset h),hsub.nodup (nodup_cons.1 hnd).2⟩
  ·intro x hx
   rcases mem_cons.1 hx with rfl|hx
   ·exact Qs
   ·exact hF x (mem_cons_of_mem _ (hsub.subset hx)))
 exact hm.1
end
end Go.Aw

namespace Go.Aw
open List
def dR (P:Program) (t:TypeId):Option Nat:=(P.info? t).map (·.size)
section
variable {P : Program} [aD P] {B : fG P} {s : AS} {dst : Option Tmp} {ty : TypeId} {pos : String} {after : Array Edge} {gd : Option (Nat × Bool)}
theorem Xo (t:TypeId) (x y:Operand) {i bN idx off:Nat} {ob:aG} {e:List AV} (hx:s.ev x= .ptr i bN idx off) (ho:AV.isObj s.o i bN=some ob) (he:ob.dK[idx]? =some e)
  (hfy:(s.ev y).fit s.o=true) (hsz:dR P t=some (s.ev y).cells.length) (hfit:off+(s.ev y).cells.length<=e.length) (rY:ob.box=true\/(s.ev y).cells.all AV.JP=true):
  Step P B ⟨dst,.store t x y,ty,pos,after,gd⟩ s ((s.stored i idx off ob e (s.ev y).cells).put dst .undef):=
 LU fun G a w r=>by
  obtain ⟨g,b,f,hl,hlive,ha,hv⟩:=r.ptr hx ho
  have hc:=Li hfy (r.ev y)
  obtain ⟨b',f',tZ,hst,hrel⟩:=r.stored (P:=P) hl hlive he hfit rY hc.2.1 hc.1
  rw [ha] at tZ
  simp only [Option.some.injEq,Addr.mk.injEq,and_true] at tZ
  obtain ⟨rfl,rfl⟩:=tZ
  have hlen:=fB hc.1
  refine ⟨_,?_,_,hrel.put dst (by simp [R])⟩
  unfold dR at hsz
  cases hi:P.info? t with
  |none=>simp [hi] at hsz
  |some inf=>
   simp only [hi,Option.map_some,Option.some.injEq] at hsz
   have uu:(a.eval y).cells.size=inf.size:=by rw [hsz];simpa using hlen
   simp [execOp,hv,Instr.storeAt,Instr.sureAddr,storeVar,sizeOf,typeInfo,hi,uu,hst]
theorem nT {t e:TypeId} {n by':Nat} (h:gD P t=some (e,n,by')):P.underlying t=some (.slice e)/\∃i,P.info? e=some i/\i.size=n/\i.bytes=by':=by
 unfold gD at h
 split at h
 ·rename_i e' hu
  cases hi:P.info? e' with
  |none=>simp [hi] at h
  |some i=>
   simp [hi] at h
   obtain ⟨rfl,rfl,rfl⟩:=h
   exact ⟨hu,i,hi,rfl,rfl⟩
 ·cases h
theorem JQ {t e:TypeId} {n by':Nat} (h:gD P t=some (e,n,by')) (b f len cap:Nat) (k:IntKind) (i:Int) (h0:0<=i) (h1:i < len) (w:World):
  (Instr.indexAt t (.slice (some ⟨b,f,none⟩) len cap) (.int k i)).run P w= .ok (.pointer (some ⟨b,f+i.toNat * n,none⟩)) w:=by
 obtain ⟨hu,inf,hi,hs,_⟩:=nT h
 simp [Instr.indexAt,asIntOf,run_underlying hu,h0,h1,sizeOf,typeInfo,hi,hs,addr_add]
theorem dN.Xp {G:List CO} {a:Act} {w:World} (r:dN B s G a w) {x:Operand} {i bN:Nat} {ob:aG} (hx:s.ev x= .obj i bN) (ho:AV.isObj s.o i bN=some ob):
  ∃g,Aw.look s.o G i ob g/\ob.live=true/\a.eval x= .slice g.a ob.dK.length g.cap:=by
 have h:=r.ev x
 rw [hx] at h
 simp only [R] at h
 obtain ⟨_,dY,g,hl,_,hh,_⟩:=h
 obtain ⟨h1,h2,h3⟩:=jG ho
 obtain rfl:=Option.some.inj (hl.1.symm.trans h1)
 exact ⟨g,hl,h2,hh h2 h3⟩
theorem dN.Mc {G:List CO} {a:Act} {w:World} (r:dN B s G a w) {x:Operand} {k:IntKind} {n:Int} (hx:s.ev x= .int k n):a.eval x= .int k n:=by
 have h:=r.ev x
 rw [hx] at h
 simp only [R] at h
 exact h.1
theorem dN.Ui {G:List CO} {a:Act} {w:World} (r:dN B s G a w) {x:Operand} {n:Bool} (hx:s.ev x= .bool n):a.eval x= .bool n:=by
 have h:=r.ev x
 rw [hx] at h
 simp only [R] at h
 exact h.1
theorem dN.Uj {G:List CO} {a:Act} {w:World} (r:dN B s G a w) {x:Operand} {n:List UInt8} (hx:s.ev x= .str n):a.eval x= .string ⟨n.toArray⟩:=by
 have h:=r.ev x
 rw [hx] at h
 simp only [R] at h
 exact h.1
theorem Md (t:TypeId) (x ix:Operand) {i bN:Nat} {ob:aG} {e:TypeId} {by':Nat} {k:IntKind} {n:Int} (hx:s.ev x= .obj i bN) (ho:AV.isObj s.o i bN=some ob) (hi:s.ev ix= .int k n)
  (ht:gD P t=some (e,ob.n,by')) (h0:0<=n) (h1:n < ob.dK.length) (Et:ob.box=false\/ob.bN≠2):Step P B ⟨dst,.indexAddr t x ix,ty,pos,after,gd⟩ s (s.put dst (.ptr i bN n.toNat 0)):=
 dO fun G a w r=>by
  obtain ⟨g,hl,hlive,hv⟩:=r.Xp hx ho
  have hlt:n.toNat < ob.dK.length:=by omega
  obtain ⟨b,f,cs,ha,_⟩:=r.elem hl hlive (getElem?_eq_getElem hlt)
  refine ⟨.pointer (some ⟨b,f+n.toNat * ob.n,none⟩),?_,?_⟩
  ·simp only [execOp,hv,ha,r.Mc hi]
   simp [JQ ht b f _ g.cap k n h0 h1]
  ·simp only [R]
   obtain ⟨h1,h2,h3⟩:=jG ho
   exact ⟨trivial,ob,g,hl,Nat.le_of_eq h3.symm,fun _ _=>⟨b,f,ha,by simp⟩,fun e e2=>by rcases Et with Et|Et;(rw [Et] at e;cases e);exact absurd e2 (by omega)⟩
theorem uw {o:List aG} {G:List CO} {w:World} {g:Tg} {n:Nat} {l:List (List AV)} (hf:(AV.sl g n l).fit o=true):¬(env B o G w).dead g:=by
 cases g with
 |own=>exact fun h=>h
 |view=>exact fun h=>h
 |iQ i=>
  simp only [AV.fit] at hf
  refine fun hd=>hd (fun ob uW=> ?_)
  simpa [uW] using hf
theorem dN.J3 {G:List CO} {a:Act} {w:World} (r:dN B s G a w) {x:Operand} {g:Tg} {n:Nat} {l:List (List AV)} (hx:s.ev x= .sl g n l) (hf:(AV.sl g n l).fit s.o=true):
  ∃ad cap,a.eval x= .slice ad l.length cap/\(l.length<=maxLen/\l.length<=cap)/\((l=[]/\(g= .own->cap=0))\/∃b f,ad=some ⟨b,f,none⟩/\g≠ .own/\(env B s.o G w).tg g b/\Rr w ((env B s.o G w).sub g) l b f n []):=by
 have h:=r.ev x
 rw [hx] at h
 simp only [R] at h
 rcases h with h|⟨ad,cap,hv,hl,h⟩
 ·exact absurd h.1 (uw hf)
 ·refine ⟨ad,cap,hv,hl,?_⟩
  rcases h with h|⟨_,_,_,_,_,_,_,_,_,_,_,_,_,FY,_⟩|⟨hg,_,h⟩
  ·exact .inl ⟨h.2.1,fun _=>h.2.2.1⟩
  ·cases FY
  ·rcases h with h|⟨b,f,ha,ht,hr⟩
   ·exact .inl ⟨h,fun e=>absurd e hg⟩
   ·exact .inr ⟨b,f,ha,hg,ht,hr⟩
theorem Pg (t:TypeId) (x ix:Operand) {g:Tg} {m:Nat} {l:List (List AV)} {e:TypeId} {by':Nat} {k:IntKind} {n:Int} {c:List AV} (hx:s.ev x= .sl g m l) (hf:(AV.sl g m l).fit s.o=true) (hi:s.ev ix= .int k n)
  (ht:gD P t=some (e,m,by')) (h0:0<=n) (hc:l[n.toNat]? =some c):Step P B ⟨dst,.indexAddr t x ix,ty,pos,after,gd⟩ s (s.put dst (.eH g c 0)):=
 dO fun G a w r=>by
  obtain ⟨ad,cap,hv,hl,h⟩:=r.J3 hx hf
  have hlt:=(List.getElem?_eq_some_iff.1 hc).1
  rcases h with ⟨h,_⟩|⟨b,f,rfl,hg,htg,hr⟩
  ·rw [h] at hlt;simp at hlt
  ·refine ⟨.pointer (some ⟨b,f+n.toNat * m,none⟩),?_,?_⟩
   ·simp only [execOp,hv,r.Mc hi]
    simp [JQ ht b f l.length cap k n h0 (by omega)]
   ·simp only [R]
    obtain ⟨f1,f2,f3,cs,hfe,hn,hcs,hone,rW,_,_⟩:=wX hr hc
    have:f2=[]:=by
     have:=congrArg length hfe
     simp at this
     exact eq_nil_of_length_eq_zero (by omega)
    subst this
    exact .inr ⟨trivial,b,f+n.toNat * m,cs,by simp,htg,hcs,hone,rW⟩
def aBs (P:Program) (t:TypeId):Option (Nat×Nat):=
 match P.underlying t with
 |some (.array n e)=>(P.info? e).map fun i=>(n,i.size)
 |_=>none
theorem Me (t:TypeId) (x ix:Operand) {i bN idx off len sz:Nat} {ob:aG} {k:IntKind} {n:Int} (hx:s.ev x= .ptr i bN idx off) (ho:AV.isObj s.o i bN=some ob) (hi:s.ev ix= .int k n)
  (ht:aBs P t=some (len,sz)) (h0:0<=n) (h1:n < len):Step P B ⟨dst,.indexAddr t x ix,ty,pos,after,gd⟩ s (s.put dst (.ptr i bN idx (off+n.toNat * sz))):=
 dO fun G a w r=>by
  obtain ⟨g,b,f,hl,hlive,ha,hv⟩:=r.ptr hx ho
  refine ⟨.pointer (some ⟨b,f+(idx * ob.n+(off+n.toNat * sz)),none⟩),?_,?_⟩
  ·unfold aBs at ht
   split at ht
   ·rename_i n' e' hu
    cases hi':P.info? e' with
    |none=>simp [hi'] at ht
    |some inf=>
     simp [hi'] at ht
     obtain ⟨rfl,rfl⟩:=ht
     simp [execOp,hv,r.Mc hi,Instr.indexAt,asIntOf,run_underlying hu,Instr.sureAddr,h0,h1,sizeOf,typeInfo,hi',addr_add,Nat.add_assoc]
   ·cases ht
  ·simp only [R]
   obtain ⟨h1,h2,h3⟩:=jG ho
   refine ⟨trivial,ob,g,hl,Nat.le_of_eq h3.symm,fun _ _=>⟨b,f,ha,rfl⟩,fun e1 e2 e3 e4 y hy=> ?_⟩
   have h0':off=0:=by omega
   have aNy:n.toNat * sz=0:=by omega
   have:=r.pin hx ho hl e1 e2 e3 h0' y hy
   exact ⟨by rw [<-this.1,hv,h0',aNy],this.2⟩
def isSlice (P:Program) (t:TypeId):Bool:=match P.underlying t with|some (.slice _)=>true|_=>false
def isString (P:Program) (t:TypeId):Bool:=match P.underlying t with|some .string=>true|_=>false
theorem Gd {t:TypeId} (h:isSlice P t=true):∃e,P.underlying t=some (.slice e):=by
 unfold isSlice at h;split at h
 ·rename_i e he;exact ⟨e,he⟩
 ·cases h
theorem lZ {t:TypeId} (h:isString P t=true):P.underlying t=some .string:=by
 unfold isString at h;split at h
 ·assumption
 ·cases h
theorem RZ (t:TypeId) (x:Operand) {i bN:Nat} {ob:aG} (hx:s.ev x= .obj i bN) (ho:AV.isObj s.o i bN=some ob) (ht:isSlice P t=true):
  Step P B ⟨dst,.call {callee:= .builtin .len,args:=#[x],argTypes:=#[t]},ty,pos,after,gd⟩ s (s.put dst (.int .i64 ob.dK.length)):=
 dO fun G a w r=>by
  obtain ⟨g,hl,hlive,hv⟩:=r.Xp hx ho
  obtain ⟨e,he⟩:=Gd ht
  exact ⟨.int .i64 ob.dK.length,by simp [execOp,resolve,invoke,builtin,hv,Builtin.len_,run_underlying he,goInt],by simp [R]⟩
theorem Uk (t:TypeId) (x:Operand) {g:Tg} {n:Nat} {l:List (List AV)} (hx:s.ev x= .sl g n l) (hf:(AV.sl g n l).fit s.o=true) (ht:isSlice P t=true):
  Step P B ⟨dst,.call {callee:= .builtin .len,args:=#[x],argTypes:=#[t]},ty,pos,after,gd⟩ s (s.put dst (.int .i64 l.length)):=
 dO fun G a w r=>by
  obtain ⟨ad,cap,hv,_⟩:=r.J3 hx hf
  obtain ⟨e,he⟩:=Gd ht
  exact ⟨.int .i64 l.length,by simp [execOp,resolve,invoke,builtin,hv,Builtin.len_,run_underlying he,goInt],by simp [R]⟩
theorem size_mk (l:List UInt8):(⟨l.toArray⟩:ByteArray).size=l.length:=by show l.toArray.size=_;simp
theorem Sa (t:TypeId) (x:Operand) {l:List UInt8} (hx:s.ev x= .str l) (ht:isString P t=true):
  Step P B ⟨dst,.call {callee:= .builtin .len,args:=#[x],argTypes:=#[t]},ty,pos,after,gd⟩ s (s.put dst (.int .i64 l.length)):=
 dO fun G a w r=>by
  have hv:=r.Uj hx
  have he:=lZ ht
  exact ⟨.int .i64 l.length,by simp [execOp,resolve,invoke,builtin,hv,Builtin.len_,run_underlying he,goInt,size_mk],by simp [R]⟩
theorem Mf (t:TypeId) (x ix:Operand) {l:List UInt8} {k:IntKind} {n:Int} {u:UInt8} (hx:s.ev x= .str l) (hi:s.ev ix= .int k n) (ht:isString P t=true) (h0:0<=n) (hu:l[n.toNat]? =some u):
  Step P B ⟨dst,.index t x ix,ty,pos,after,gd⟩ s (s.put dst (.int .u8 u.toNat)):=
 dO fun G a w r=>by
  have hv:=r.Uj hx
  have he:=lZ ht
  have hlt:=(List.getElem?_eq_some_iff.1 hu).1
  have hg:(⟨l.toArray⟩:ByteArray)[n.toNat]? =some u:=by
   rw [getElem?_pos (⟨l.toArray⟩:ByteArray) n.toNat (by simpa [size_mk] using hlt)]
   obtain ⟨_,rfl⟩:=List.getElem?_eq_some_iff.1 hu
   rfl
  exact ⟨.int .u8 u.toNat,by simp [execOp,hv,r.Mc hi,Instr.index,asIntOf,run_underlying he,h0,hg],by simp [R]⟩
theorem Sb (x:Operand) (ix:Nat) {c:List AV} {y:AV} (hx:s.ev x= .gV c) (hy:c[ix]? =some y):Step P B ⟨dst,.extract x ix,ty,pos,after,gd⟩ s (s.put dst y):=
 dO fun G a w r=>by
  have h:=r.ev x
  rw [hx] at h
  simp only [R] at h
  obtain ⟨cs,hv,hr⟩:=h
  obtain ⟨v,hv',hR⟩:=EP hr hy
  exact ⟨v,by simp [execOp,hv,Instr.extract,hv'],hR⟩
theorem Ph (f:FuncId) (cap:Array Operand):Step P B ⟨dst,.makeFunc (.func f) #[] cap,ty,pos,after,gd⟩ s (s.put dst (.fn f (s.args cap))):=
 dO fun G a w r=>by
  refine ⟨.func (.func f) #[] (cap.map a.eval),by simp [execOp,Instr.makeFunc],?_⟩
  simp only [R]
  refine ⟨trivial,cap.toList.map a.eval,?_,tF r cap.toList⟩
  congr 1
  apply Array.ext';simp
theorem uy (t:TypeId) (x:Operand) {b:Bool} (hx:s.ev x= .bool b):Step P B ⟨dst,.unOp .not t x,ty,pos,after,gd⟩ s (s.put dst (.bool !b)):=
 dO fun G a w r=>⟨.bool !b,by simp [execOp,r.Ui hx,Op.unary],by simp [R]⟩
theorem uz (t:TypeId) (x:Operand) {k:IntKind} {n:Int} (hx:s.ev x= .int k n):Step P B ⟨dst,.unOp .neg t x,ty,pos,after,gd⟩ s (s.put dst (.int k (k.wrap (0 - n)))):=
 dO fun G a w r=>⟨.int k (k.wrap (0 - n)),by simp [execOp,r.Mc hx,Op.unary,Op.intArith],by simp [R]⟩
theorem bf (c x y:Operand) {b:Bool} (hc:s.ev c= .bool b):Step P B ⟨dst,.pick c x y,ty,pos,after,gd⟩ s (s.put dst (if b then s.ev x else s.ev y)):=
 dO fun G a w r=>⟨if b then a.eval x else a.eval y,by simp [execOp,r.Ui hc,asBool],by cases b;exact r.ev y;exact r.ev x⟩
def Sc (op:BinOp) (k:IntKind) (a b:Int):Option AV:=
 match op with
 | .add=>some (.int k (k.wrap (a+b)))
 | .sub=>some (.int k (k.wrap (a - b)))
 | .mul=>some (.int k (k.wrap (a * b)))
 | .quo=>if b=0 then none else some (.int k (k.wrap (a.tdiv b)))
 | .rem=>if b=0 then none else some (.int k (a.tmod b))
 | .eql=>some (.bool (a == b))
 | .neq=>some (.bool (a != b))
 | .lss=>some (.bool (decide (a < b)))
 | .leq=>some (.bool (decide (a<=b)))
 | .gtr=>some (.bool (decide (a > b)))
 | .geq=>some (.bool (decide (a>=b)))
 |_=>none
theorem ve (op : BinOp) (t t2 : TypeId) (x y : Operand) {k : IntKind} {m n : Int} {z : AV} (hx : s.ev x = .int k m) (hy : s.ev y = .int k n) (hz : Sc op k m n = some z) :
    Step P B ⟨dst, .binOp op t x y t2, ty, pos, after, gd⟩ s (s.put dst z) :=
  dO fun G a w r => by
    have hv := r.Mc hx
    have PT := r.Mc hy
    cases op <;> simp only [Sc] at hz <;> first | cases hz; done | skip
    all_goals first
      | (obtain rfl := Option.some.inj hz; exact ⟨_, (by simp [execOp, hv, PT, eqGuard_at_int, binOp, Op.intArith, Op.intCmp]; rfl), by simp [R]⟩)
      | (split at hz
         · cases hz
         · rename_i hb; obtain rfl := Option.some.inj hz; exact ⟨_, (by simp [execOp, hv, PT, eqGuard_at_int, binOp, Op.intDiv, hb]; rfl), by simp [R]⟩)
      | cases hz
end
end Go.Aw

namespace Go.Aw
open List
def bL (P:Program) (e:TypeId) (n:Nat):Bool:=
 match (P.info? e).bind (·.zero) with
 |some z=>z.cells.size == n
 |none=>false
theorem wE {P:Program} [aD P] {e:TypeId} {n:Nat} {inf:TypeInfo} (h:bL P e n=true) (hi:P.info? e=some inf):∃z,inf.zero=some z/\z.cells.size=n:=by
 unfold bL at h
 cases hz:inf.zero with
 |none=>simp [hi,hz] at h
 |some z=>exact ⟨z,rfl,by simpa [hi,hz] using h⟩
def AS.target (s:AS) (n:Nat):AV->Option (Nat×aG×AS)
 | .obj i v=>match AV.isObj s.o i v with
  |some ob=>if ob.box=false/\ob.n=n then some (i,ob,s) else none
  |none=>none
 | .sl .own _ []=>some (s.o.length,⟨true,false,n,0,[]⟩,⟨s.t,s.o++[⟨true,false,n,0,[]⟩]⟩)
 |_=>none
def AS.source (s:AS) (i n:Nat):AV->Option (List (List AV)×List aG)
 | .obj j v=>match AV.isObj s.o j v with
  |some ob=>if ob.box=false/\ob.n=n/\j≠i then some (ob.dK,s.o.set j ob.kill) else none
  |none=>none
 | .sl .own _ []=>some ([],s.o)
 | .sl .view m l=>if m=n then some (l,s.o) else none
 | .str l=>if n=1 then some (l.map fun u=>[.int .u8 u.toNat],s.o) else none
 |_=>none
def AS.wF (s:AS) (o:List aG) (d:Option Tmp) (i:Nat) (ob:aG) (l2:List (List AV)):AS:=
 AS.put ⟨s.t,o.set i {ob with bN:=ob.bN+1,dK:=ob.dK++l2}⟩ d (.obj i (ob.bN+1))
def dW (P:Program) (t:TypeId):Bool:=match P.underlying t with|some (.slice _)=>true|some .string=>true|_=>false
theorem Cj {P:Program} [aD P] {t:TypeId} (h:dW P t=true):∃d,P.underlying t=some d/\∀k,d≠ .int k:=by
 unfold dW at h
 split at h
 ·exact ⟨_,‹_›,by simp⟩
 ·exact ⟨_,‹_›,by simp⟩
 ·cases h
theorem vg (w:World) (E:Env):∀l:List UInt8,Rv w E (l.map fun u=>[.int .u8 u.toNat]) (l.map fun u=> .int .u8 u.toNat) 1 []
 |[]=>by simp [Rv]
 |u::t=>by
  simp only [map_cons,Rv]
  exact ⟨[.int .u8 u.toNat],_,[],[],rfl,rfl,by simp [Value.oneCell'],by simp [Rc,R],vg w E t,rfl⟩
section
variable {P : Program} [aD P] {B : fG P} {s : AS} {dst : Option Tmp} {ty : TypeId} {pos : String} {after : Array Edge} {gd : Option (Nat × Bool)}
theorem dN.target {G:List CO} {a:Act} {w:World} (r:dN B s G a w) {x:Operand} {n i:Nat} {ob:aG} {s1:AS} (ht:s.target n (s.ev x)=some (i,ob,s1)):
  ∃G1 g,dN B s1 G1 a w/\Aw.look s1.o G1 i ob g/\ob.live=true/\ob.box=false/\ob.n=n/\a.eval x= .slice g.a ob.dK.length g.cap/\s1.t=s.t:=by
 cases hx:s.ev x with
 |obj j v=>
  rw [hx] at ht
  simp only [AS.target] at ht
  cases ho:AV.isObj s.o j v with
  |none=>simp [ho] at ht
  |some o=>
   simp only [ho] at ht
   split at ht
   ·rename_i hc
    simp only [Option.some.injEq,Prod.mk.injEq] at ht
    obtain ⟨rfl,rfl,rfl⟩:=ht
    obtain ⟨g,hl,hlive,hv⟩:=r.Xp hx ho
    exact ⟨G,g,r,hl,hlive,hc.1,hc.2,hv,rfl⟩
   ·cases ht
 |sl g m l=>
  rw [hx] at ht
  cases g with
  |own=>
   cases l with
   |nil=>
    simp only [AS.target,Option.some.injEq,Prod.mk.injEq] at ht
    obtain ⟨rfl,rfl,rfl⟩:=ht
    obtain ⟨ad,cap,hv,_,h⟩:=r.J3 hx rfl
    have sQ:cap=0:=by
     rcases h with h|⟨_,_,_,h,_⟩
     ·exact h.2 rfl
     ·exact absurd rfl h
    subst sQ
    have hadd:=r.add [⟨true,false,n,0,[]⟩] [⟨ad,0,fun _=>False⟩] w rfl (Nat.le_refl _) (fun _ _=>rfl) (fun j ob g b hl _ hF=>by
     cases j with
     |zero=>obtain ⟨_,h2⟩:=hl;simp at h2;subst h2;exact hF.elim
     |succ j=>simp [Aw.look] at hl) (fun i j _ _ gi _ b hi hj _ _ Fa _=>by
     cases i with
     |zero=>obtain ⟨_,h2⟩:=hi;simp at h2;subst h2;exact Fa.elim
     |succ i=>simp [Aw.look] at hi) (fun k j ob g hl _=>by
     cases j with
     |zero=>
      obtain ⟨h1,h2⟩:=hl
      simp at h1 h2
      subst h1;subst h2
      exact ⟨[],⟨by simp,.inl ⟨rfl,rfl,rfl⟩⟩,by simp,by simp⟩
     |succ j=>simp [Aw.look] at hl)
    refine ⟨_,⟨ad,0,fun _=>False⟩,hadd.1,⟨by simp,by rw [<-r.len];simp⟩,rfl,rfl,rfl,?_,rfl⟩
    simpa using hv
   |cons _ _=>cases ht
  |view=>simp [AS.target] at ht
  |iQ _=>simp [AS.target] at ht
 |int _ _=>rw [hx] at ht;simp [AS.target] at ht
 |bool _=>rw [hx] at ht;simp [AS.target] at ht
 |str _=>rw [hx] at ht;simp [AS.target] at ht
 |eH _ _ _=>rw [hx] at ht;simp [AS.target] at ht
 |ptr _ _ _ _=>rw [hx] at ht;simp [AS.target] at ht
 |agg _=>rw [hx] at ht;simp [AS.target] at ht
 |gV _=>rw [hx] at ht;simp [AS.target] at ht
 |fn _ _=>rw [hx] at ht;simp [AS.target] at ht
 |undef=>rw [hx] at ht;simp [AS.target] at ht
theorem Ul {s s1:AS} (h:s1.t=s.t) (x:Operand):s1.ev x=s.ev x:=by cases x<;>simp [AS.ev,h]
theorem step_append (tS xT:TypeId) (x y:Operand) {e:TypeId} {n by' i:Nat} {ob:aG} {s1:AS} {l2:List (List AV)} {o2:List aG} (he:gD P tS=some (e,n,by')) (hz:bL P e n=true) (PQ:dW P xT=true)
  (ht:s.target n (s.ev x)=some (i,ob,s1)) (hs:s1.source i n (s.ev y)=some (l2,o2))
  (Bv:(ob.dK.length+l2.length) * by'<=140737488355328) (qb:ob.dK.length+l2.length<=9223372036854775807):
  Step P B ⟨dst,.call {callee:= .builtin .append,args:=#[x,y],argTypes:=#[tS,xT]},ty,pos,after,gd⟩ s (s.wF o2 dst i ob l2):=
 oC fun G0 a w r0=>by
  obtain ⟨hu,inf,hi,hsz,hby⟩:=nT he
  obtain ⟨z,jm,hz2⟩:=wE hz hi
  obtain ⟨G,g,r,hl,hlive,rY,hn,hv,hst⟩:=r0.target ht
  have hev:=Ul hst y
  rw [<-hev] at hs
  have Zi:∀{v w'},(Builtin.append_ #[tS,xT] ty #[.slice g.a ob.dK.length g.cap,a.eval y]).run P w= .ok v w'->(execOp a.eval ⟨dst,.call {callee:= .builtin .append,args:=#[x,y],argTypes:=#[tS,xT]},ty,pos,after,gd⟩).run P w= .ok (.value v) w':=by
   intro v w' h
   simp [execOp,resolve,invoke,builtin,hv,h]
  obtain ⟨fp,hown,hnd,hF⟩:=r.ok i ob g hl hlive
  rw [rY] at hown
  have fin:∀{s2:AS} {G2:List CO} {g2:CO} {news:List Value} {fp2:List Nat},dN B s2 G2 a w->Aw.look s2.o G2 i ob g2->g2.a=g.a->g2.cap=g.cap->s2.t=s1.t->s2.o=o2->
    (Builtin.lenOf (a.eval y)).run P w= .ok l2.length w->(∀w',w'.heap=w.heap->(Builtin.firstCells ob.n l2.length (a.eval y)).run P w'= .ok news.toArray w')->
    Rv w (env B s2.o G2 w).plain l2 news ob.n fp2->rV w (env B s2.o G2 w).plain ob.n ob.dK g2.a g2.cap fp->(fp++fp2).Nodup->(∀b∈fp++fp2,g2.F b)->
    ∃v w',(execOp a.eval ⟨dst,.call {callee:= .builtin .append,args:=#[x,y],argTypes:=#[tS,xT]},ty,pos,after,gd⟩).run P w= .ok (.value v) w'/\Rel B (s.wF o2 dst i ob l2) (a.put dst v) w':=by
   intro s2 G2 g2 news fp2 r2 hl2 ha hc aN0 PU hlen CB JN Um Sd bg
   obtain ⟨v,w',G',hrun,GN,hR⟩:=r2.append (P:=P) (ty:=ty) hl2 hlive rY hu (Cj PQ) hi jm (by rw [hsz,hn]) (by rw [hz2,hn]) hlen CB JN Um Sd bg (by rw [hby];exact Bv) qb
   rw [ha,hc] at hrun
   refine ⟨v,w',Zi hrun,G',?_⟩
   have:=GN.put dst hR
   rw [PU,aN0,hst] at this
   exact this
  cases hy:s1.ev y with
  |obj j bN=>
   rw [hy] at hs
   simp only [AS.source] at hs
   cases ho:AV.isObj s1.o j bN with
   |none=>simp [ho] at hs
   |some oj=>
    simp only [ho] at hs
    split at hs
    ·rename_i hc
     simp only [Option.some.injEq,Prod.mk.injEq] at hs
     obtain ⟨rfl,rfl⟩:=hs
     obtain ⟨gj,hlj,vk,hvj⟩:=r.Xp hy ho
     have jo:=r.LZ (i:=i) (j:=j) (Ne.symm hc.2.2) hl hlj hlive vk
     obtain ⟨fj,JR,aBv,OX⟩:=r.ok j oj gj hlj vk
     rw [hc.1] at JR
     obtain ⟨fp2,aEq,aJp,news,JN,CB⟩:∃fp2:List Nat,(∀b∈fp2,b∈fj)/\fp2.Nodup/\∃news,Rv w (env B s1.o G w).plain oj.dK news ob.n fp2/\∀w',w'.heap=w.heap->(Builtin.firstCells ob.n oj.dK.length (.slice gj.a oj.dK.length gj.cap)).run P w'= .ok news.toArray w':=by
      have J4:oj.n=ob.n:=by rw [hc.2.1,hn]
      rcases JR.2 with ⟨h1,h2,h3⟩|⟨b,off,C,EF,fz,nQ,ha,hb,hz',k1,k2,k3,rfl,hr⟩
      ·refine ⟨[],by simp,by simp,[],by rw [h1];simp [Rv],fun w' _=> ?_⟩
       rw [h1]
       cases hga:gj.a with
       |none=>simp [Builtin.firstCells]
       |some a'=>simp [Builtin.firstCells,loadCells,loadCellsFrom]
      ·obtain ⟨vs,hv',hc'⟩:=pK.1 hr
       refine ⟨nQ,fun b hb=>mem_cons_of_mem _ hb,(nodup_cons.1 aBv).2,vs,by rw [<-J4];exact hv',fun w' Zg=> ?_⟩
       rw [ha,<-J4]
       exact iZ (iH hv') (hc'.heap Zg)
     have aFu:Aw.look (s1.o.set j oj.kill) (G.set i {g with F:=fun b=>g.F b\/gj.F b}) i ob {g with F:=fun b=>g.F b\/gj.F b}:=by
      refine ⟨by rw [getElem?_set_ne hc.2.2];exact hl.1,?_⟩
      have:=(List.getElem?_eq_some_iff.1 hl.2).1
      simp [this]
     refine fin jo.1 aFu rfl rfl rfl rfl (by rw [hvj];simp [Builtin.lenOf]) (by rw [hvj];exact CB) (rX jo.2.plain (fun _ _=>rfl) JN) (hown.keeps jo.2.plain (fun _ _=>rfl)) ?_ ?_
     ·refine nodup_append.2 ⟨hnd,aJp,fun b hb b' hb' e=> ?_⟩
      subst e
      exact hc.2.2 (r.apart j i _ _ _ _ b hlj hl vk hlive (OX b (aEq b hb')) (hF b hb))
     ·intro b hb
      rcases mem_append.1 hb with hb|hb
      ·exact .inl (hF b hb)
      ·exact .inr (OX b (aEq b hb))
    ·cases hs
  |sl tg m l=>
   rw [hy] at hs
   have nL:∀{news:List Value},s1.o=o2->(Builtin.lenOf (a.eval y)).run P w= .ok l2.length w->(∀w',w'.heap=w.heap->(Builtin.firstCells ob.n l2.length (a.eval y)).run P w'= .ok news.toArray w')->
     Rv w (env B s1.o G w).plain l2 news ob.n []->_:=fun {news} h1 h2 h3 h4=>fin (news:=news) (fp2:=[]) r hl rfl rfl rfl h1 h2 h3 h4 hown (by simpa using hnd) (by simpa using hF)
   cases tg with
   |own=>
    cases l with
    |nil=>
     simp only [AS.source,Option.some.injEq,Prod.mk.injEq] at hs
     obtain ⟨rfl,rfl⟩:=hs
     obtain ⟨ad,cap,Kk,_,_⟩:=r.J3 hy rfl
     refine nL (news:=[]) rfl (by rw [Kk];simp [Builtin.lenOf]) (fun w' _=> ?_) (by simp [Rv])
     rw [Kk]
     cases ad with
     |none=>simp [Builtin.firstCells]
     |some a'=>simp [Builtin.firstCells,loadCells,loadCellsFrom]
    |cons _ _=>cases hs
   |view=>
    simp only [AS.source] at hs
    split at hs
    ·rename_i hm
     subst hm
     simp only [Option.some.injEq,Prod.mk.injEq] at hs
     obtain ⟨rfl,rfl⟩:=hs
     obtain ⟨ad,cap,Kk,_,h⟩:=r.J3 hy rfl
     rcases h with ⟨rfl,_⟩|⟨b,f,rfl,_,_,hr⟩
     ·refine nL (news:=[]) rfl (by rw [Kk];simp [Builtin.lenOf]) (fun w' _=> ?_) (by simp [Rv])
      rw [Kk]
      cases ad with
      |none=>simp [Builtin.firstCells]
      |some a'=>simp [Builtin.firstCells,loadCells,loadCellsFrom]
     ·obtain ⟨vs,hv',hc'⟩:=pK.1 hr
      refine nL (news:=vs) rfl (by rw [Kk];simp [Builtin.lenOf]) (fun w' Zg=> ?_) (by rw [hn];exact hv')
      rw [Kk,hn]
      exact iZ (iH hv') (hc'.heap Zg)
    ·cases hs
   |iQ _=>cases hs
  |str l=>
   rw [hy] at hs
   simp only [AS.source] at hs
   split at hs
   ·rename_i h1
    simp only [Option.some.injEq,Prod.mk.injEq] at hs
    obtain ⟨rfl,rfl⟩:=hs
    have Kk:=r.Uj hy
    refine fin (news:=l.map fun u=> .int .u8 u.toNat) (fp2:=[]) r hl rfl rfl rfl rfl (by rw [Kk];simp [Builtin.lenOf,size_mk]) (fun w' _=> ?_) ?_ hown (by simpa using hnd) (by simpa using hF)
    ·rw [Kk]
     have:(⟨l.toArray⟩:ByteArray).extract 0 (l.map fun u=>[AV.int .u8 u.toNat]).length=⟨l.toArray⟩:=by
      have e:(l.map fun u=>[AV.int .u8 u.toNat]).length=(⟨l.toArray⟩:ByteArray).size:=by simp [size_mk]
      rw [e,ByteArray.extract_zero_size]
     simp only [Builtin.firstCells,this]
     simp
    ·rw [hn,h1]
     exact vg _ _ l
   ·cases hs
  |int _ _=>rw [hy] at hs;cases hs
  |bool _=>rw [hy] at hs;cases hs
  |eH _ _ _=>rw [hy] at hs;cases hs
  |ptr _ _ _ _=>rw [hy] at hs;cases hs
  |agg _=>rw [hy] at hs;cases hs
  |gV _=>rw [hy] at hs;cases hs
  |fn _ _=>rw [hy] at hs;cases hs
  |undef=>rw [hy] at hs;cases hs
end
end Go.Aw

namespace Go.Aw
open List
def AS.bound (s:AS) (d:Nat):Option Operand->Option Nat
 |none=>some d
 |some x=>match s.ev x with
  | .int _ n=>if 0<=n then some n.toNat else none
  |_=>none
section
variable {P : Program} [aD P] {B : fG P} {s : AS} {dst : Option Tmp} {ty : TypeId} {pos : String} {after : Array Edge} {gd : Option (Nat × Bool)}
theorem Fb {G:List CO} {a:Act} {w:World} (r:dN B s G a w) {isS:Bool} {len cap lo hi:Nat} {lx hx:Option Operand} (hl:s.bound 0 lx=some lo) (hh:s.bound len hx=some hi) (h1:lo<=hi) (h2:hi<=len) (h3:len<=cap):
  (Instr.sliceBounds isS len cap (lx.map a.eval) (hx.map a.eval) none).run P w= .ok (lo,hi,cap) w:=by
 have bnd:∀{x:Operand} {d n:Nat} {y:Nat} {code:BoundsCode},s.bound d (some x)=some n->n<=y->(Instr.sliceBound (a.eval x) y code).run P w= .ok n w:=by
  intro x d n y code h hy
  simp only [AS.bound] at h
  cases hx:s.ev x with
  |int k m=>
   simp only [hx] at h
   split at h
   ·rename_i h0
    obtain rfl:=Option.some.inj h
    rw [r.Mc hx]
    simp [Instr.sliceBound,asIntOf,h0]
    omega
   ·cases h
  |_=>simp [hx] at h
 cases lx with
 |none=>
  simp only [AS.bound,Option.some.injEq] at hl
  subst hl
  cases hx with
  |none=>
   simp only [AS.bound,Option.some.injEq] at hh
   subst hh
   simp [Instr.sliceBounds]
  |some y=>
   have:=bnd (code:=if isS then .sliceAcap else .sliceAlen) hh (Nat.le_trans h2 h3)
   simp [Instr.sliceBounds,this]
 |some x=>
  have hb:=fun (c:BoundsCode)=>bnd (code:=c) hl h1
  cases hx with
  |none=>
   simp only [AS.bound,Option.some.injEq] at hh
   subst hh
   simp [Instr.sliceBounds,hb]
  |some y=>
   have:=bnd (code:=if isS then .sliceAcap else .sliceAlen) hh (Nat.le_trans h2 h3)
   simp [Instr.sliceBounds,this,hb]
theorem extract_mk (l:List UInt8) (a b:Nat) (h:b<=l.length):(⟨l.toArray⟩:ByteArray).extract a b=⟨((l.take b).drop a).toArray⟩:=by
 apply ByteArray.ext
 simp [ByteArray.data_extract,drop_take]
theorem Mg (t:TypeId) (x:Operand) (lx hx:Option Operand) {l:List UInt8} {lo hi:Nat} (hs:s.ev x= .str l) (ht:isString P t=true) (hl:s.bound 0 lx=some lo) (hh:s.bound l.length hx=some hi) (h1:lo<=hi) (h2:hi<=l.length):
  Step P B ⟨dst,.slice t x lx hx none,ty,pos,after,gd⟩ s (s.put dst (.str ((l.take hi).drop lo))):=
 dO fun G a w r=>by
  have hv:=r.Uj hs
  have he:=lZ ht
  have hb:=Fb (P:=P) r (isS:=false) hl (by rw [<-size_mk l] at hh;exact hh) h1 (by rw [size_mk];exact h2) (Nat.le_refl (⟨l.toArray⟩:ByteArray).size)
  refine ⟨.string ⟨((l.take hi).drop lo).toArray⟩,?_,by simp [R]⟩
  rw [<-extract_mk l lo hi h2]
  simp [execOp,hv,Instr.sliceAt,Instr.slice,run_underlying he,hb]
theorem vo {w:World} {E:Env} {l:List (List AV)} {b f n lo hi:Nat} (h1:lo<=hi) (h2:hi<=l.length) {fp:List Nat} (h:Rr w E l b f n fp):
  ∃f1 f2 f3,fp=f1++f2++f3/\Rr w E ((l.take hi).drop lo) b (f+lo * n) n f2:=by
 have e:l=(l.take hi).take lo++((l.take hi).drop lo++l.drop hi):=by rw [<-append_assoc,take_append_drop,take_append_drop]
 rw [e] at h
 obtain ⟨f1,g,rfl,_,h3⟩:=AQ.1 h
 obtain ⟨f2,f3,rfl,h4,_⟩:=AQ.1 h3
 have:((l.take hi).take lo).length=lo:=by simp;omega
 rw [this] at h4
 exact ⟨f1,f2,f3,by simp,h4⟩
theorem Mh {α:Type} (l:List α) {lo hi:Nat} (h1:lo<=hi) (h2:hi<=l.length):((l.take hi).drop lo).length=hi - lo:=by simp;omega
theorem Pj (t:TypeId) (x:Operand) (lx hx:Option Operand) {g:Tg} {n:Nat} {l:List (List AV)} {e by' lo hi:Nat} (hs:s.ev x= .sl g n l) (hf:(AV.sl g n l).fit s.o=true) (ht:gD P t=some (e,n,by'))
  (hl:s.bound 0 lx=some lo) (hh:s.bound l.length hx=some hi) (h1:lo<=hi) (h2:hi<=l.length):
  Step P B ⟨dst,.slice t x lx hx none,ty,pos,after,gd⟩ s (s.put dst (.sl g n ((l.take hi).drop lo))):=
 dO fun G a w r=>by
  obtain ⟨hu,inf,hi',hsz,_⟩:=nT ht
  obtain ⟨ad,cap,hv,hlen,h⟩:=r.J3 hs hf
  have hb:=Fb (P:=P) r (isS:=true) hl hh h1 h2 hlen.2
  have hsl:=Mh l h1 h2
  refine ⟨.slice (if cap=lo then ad else ad.map (·.add (lo * n))) (hi - lo) (cap - lo),?_,?_⟩
  ·simp [execOp,hv,Instr.sliceAt,Instr.slice,run_underlying hu,hb,sizeOf,typeInfo,hi',hsz]
  ·simp only [R]
   refine .inr ⟨_,_,by rw [hsl],⟨by rw [hsl];omega,by rw [hsl];omega⟩,?_⟩
   rcases h with ⟨rfl,sQ⟩|⟨b,f,rfl,hg,htg,hr⟩
   ·by_cases hg:g= .own
    ·exact .inl ⟨hg,by simp,by rw [sQ hg];simp,trivial⟩
    ·exact .inr (.inr ⟨hg,trivial,.inl (by simp)⟩)
   ·refine .inr (.inr ⟨hg,trivial,?_⟩)
    by_cases hc:cap=lo
    ·left
     exact eq_nil_of_length_eq_zero (by rw [hsl];omega)
    ·right
     obtain ⟨f1,f2,f3,hfe,GN⟩:=vo h1 h2 hr
     have:f2=[]:=by
      have:=congrArg length hfe
      simp at this
      exact eq_nil_of_length_eq_zero (by omega)
     subst this
     exact ⟨b,f+lo * n,by simp [hc,addr_add],htg,GN⟩
def AS.Mi (s:AS) (d:Option Tmp) (i:Nat) (ob:aG) (l:List (List AV)):AS:=
 AS.put ⟨s.t,s.o.set i {ob with bN:=ob.bN+1,dK:=l}⟩ d (.obj i (ob.bN+1))
theorem Mj (t:TypeId) (x:Operand) (lx hx:Option Operand) {i bN:Nat} {ob:aG} {e by' lo hi:Nat} (hs:s.ev x= .obj i bN) (ho:AV.isObj s.o i bN=some ob) (rY:ob.box=false) (ht:gD P t=some (e,ob.n,by'))
  (hl:s.bound 0 lx=some lo) (hh:s.bound ob.dK.length hx=some hi) (h1:lo<=hi) (h2:hi<=ob.dK.length):
  Step P B ⟨dst,.slice t x lx hx none,ty,pos,after,gd⟩ s (s.Mi dst i ob ((ob.dK.take hi).drop lo)):=
 oC fun G a w r=>by
  obtain ⟨hu,inf,hi',hsz,_⟩:=nT ht
  obtain ⟨g,hlk,hlive,hv⟩:=r.Xp hs ho
  obtain ⟨fp,⟨hlen,hown⟩,hnd,hF⟩:=r.ok i ob g hlk hlive
  have sQ:ob.dK.length<=g.cap:=by
   rcases hown with h|⟨_,_,_,_,_,_,_,_,_,_,h,_⟩
   ·simp [h.1]
   ·exact h
  have hb:=Fb (P:=P) r (isS:=true) hl hh h1 h2 sQ
  have hsl:=Mh ob.dK h1 h2
  have hrun:(execOp a.eval ⟨dst,.slice t x lx hx none,ty,pos,after,gd⟩).run P w= .ok (.value (.slice (if g.cap=lo then g.a else g.a.map (·.add (lo * ob.n))) (hi - lo) (g.cap - lo))) w:=by
   simp [execOp,hv,Instr.sliceAt,Instr.slice,run_underlying hu,hb,sizeOf,typeInfo,hi',hsz]
  have aBw:∀a',(if g.cap=lo then g.a else g.a.map (·.add (lo * ob.n)))=some a'->∃a0,g.a=some a0/\a'.block=a0.block:=by
   intro a' h
   split at h
   ·exact ⟨a',h,rfl⟩
   ·cases hga:g.a with
    |none=>simp [hga] at h
    |some a0=>
     simp only [hga,Option.map_some,Option.some.injEq] at h
     refine ⟨a0,rfl,?_⟩
     rw [<-h];unfold Addr.add;split<;>rfl
  have hm:=r.modify hlk hlive {ob with bN:=ob.bN+1,dK:=(ob.dK.take hi).drop lo} ⟨(if g.cap=lo then g.a else g.a.map (·.add (lo * ob.n))),g.cap - lo,g.F⟩ w (by simp) rfl (by simp) (fun b hb=> .inl hb) (fun b hb hne=>⟨hb,fun a' tZ=>by
    obtain ⟨a0,h0,hbe⟩:=aBw a' tZ
    rw [hbe];exact hne a0 h0⟩) (fun _ _ _=>rfl) (Nat.le_refl _) (fun k _=>by
   generalize env B (s.o.set i {ob with bN:=ob.bN+1,dK:=(ob.dK.take hi).drop lo}) (G.set i ⟨(if g.cap=lo then g.a else g.a.map (·.add (lo * ob.n))),g.cap - lo,g.F⟩) w=E' at k⊢
   simp only [FZ,rY,Env.of,Bool.false_eq_true,if_false]
   rw [rY] at hown
   simp only [Env.of,Bool.false_eq_true,if_false] at hown
   rcases hown with ⟨h,hc0,_⟩|⟨b,f,C,EF,fz,nQ,ha,hbk,hz,k1,k2,k3,rfl,hr⟩
   ·exact ⟨[],⟨by rw [hsl];omega,.inl ⟨by rw [h];simp,by rw [hc0];simp,rfl⟩⟩,by simp,by simp⟩
   ·obtain ⟨f1,f2,f3,rfl,GN⟩:=vo h1 h2 hr
    by_cases hc:g.cap=lo
    ·exact ⟨[],⟨by rw [hsl];omega,.inl ⟨eq_nil_of_length_eq_zero (by rw [hsl];omega),by omega,rfl⟩⟩,by simp,by simp⟩
    ·have hsub:f2.Sublist (f1++f2++f3):=(sublist_append_right f1 f2).trans (sublist_append_left _ _)
     have hmul:(g.cap - lo) * ob.n+lo * ob.n=g.cap * ob.n:=by rw [<-Nat.add_mul];congr 1;omega
     refine ⟨b::f2,⟨by rw [hsl];omega,.inr ⟨b,f+lo * ob.n,C,EF,fz,f2,by simp [hc,ha,addr_add],hbk,hz,by omega,by rw [hsl];omega,by omega,rfl,kQ k.plain _ _ _ _ _ rfl (fun _ _=>rfl) GN⟩⟩,?_,?_⟩
     ·exact nodup_cons.2 ⟨fun h=>(nodup_cons.1 hnd).1 (hsub.subset h),hsub.nodup (nodup_cons.1 hnd).2⟩
     ·intro x hx
      rcases mem_cons.1 hx with rfl|hx
      ·exact hF x (by simp)
      ·exact hF x (mem_cons_of_mem _ (hsub.subset hx)))
  refine ⟨_,w,hrun,_,hm.1.put dst ?_⟩
  simp only [R]
  have hiG:i < G.length:=(List.getElem?_eq_some_iff.1 hlk.2).1
  have CF:i < s.o.length:=(List.getElem?_eq_some_iff.1 hlk.1).1
  exact ⟨trivial,_,_,⟨by simp [CF];rfl,by simp [hiG];rfl⟩,Nat.le_refl _,fun _ _=>by simp [hsl],fun h=>by omega⟩
end
end Go.Aw

namespace Go.Aw
open List
def toV:AV->Value
 | .int k n=> .int k n
 | .bool b=> .bool b
 | .str s=> .string ⟨s.toArray⟩
 |_=> .tuple #[]
def AV.scalar:AV->Bool
 | .int _ _=>true
 | .bool _=>true
 | .str _=>true
 |_=>false
theorem vw {w:World} {E:Env} {x:AV} {v:Value} {fp:List Nat} (hs:x.scalar=true) (h:R w E x v fp):v=toV x:=by
 cases x<;>simp only [AV.scalar] at hs<;>first|cases hs;done|skip
 all_goals first|(simp only [R] at h;exact h.1)|cases hs
theorem IA {w:World} {E:Env}:∀{c:List AV} {cs:List Value} {fp:List Nat},c.all AV.scalar=true->Rc w E c cs fp->cs=c.map toV
 |[],[],_,_,_=>rfl
 |[],_::_,_,_,h=>by simp [Rc] at h
 |_::_,[],_,_,h=>by simp [Rc] at h
 |x::xs,c::cs,fp,hs,h=>by
  simp only [Rc] at h
  simp only [all_cons,Bool.and_eq_true] at hs
  obtain ⟨f1,f2,h1,h2,_⟩:=h
  simp [vw hs.1 h1,IA hs.2 h2]
def EqA (P:Program) (t:TypeId) (c1 c2:List AV) (b:Bool):Prop:=
 ∀(op:BinOp) (x y:Operand) (w:World),(op= .eql\/op= .neq)->
  (do eqGuard op t x y (.agg (c1.map toV).toArray) (.agg (c2.map toV).toArray);binOp op t (.agg (c1.map toV).toArray) (.agg (c2.map toV).toArray):Sem Value).run P w=
   .ok (.bool (if op= .eql then b else !b)) w
def Gf (P:Program) (t:TypeId):Bool:=match P.underlying t with|some .bool=>true|_=>false
def intType (P:Program) (t:TypeId):Option IntKind:=match P.underlying t with|some (.int k)=>some k|_=>none
section
variable {P : Program} [aD P] {B : fG P} {s : AS} {dst : Option Tmp} {ty : TypeId} {pos : String} {after : Array Edge} {gd : Option (Nat × Bool)}
theorem dN.aJr {G:List CO} {a:Act} {w:World} (r:dN B s G a w) {x:Operand} {c:List AV} (hx:s.ev x= .agg c) (hs:c.all AV.scalar=true):a.eval x= .agg (c.map toV).toArray:=by
 have h:=r.ev x
 rw [hx] at h
 simp only [R] at h
 obtain ⟨cs,hv,_,hr⟩:=h
 rw [hv,IA hs hr]
theorem Un (op:BinOp) (t t2:TypeId) (x y:Operand) {c1 c2:List AV} {b:Bool} (hop:op= .eql\/op= .neq) (hx:s.ev x= .agg c1) (hy:s.ev y= .agg c2) (h1:c1.all AV.scalar=true) (h2:c2.all AV.scalar=true) (he:EqA P t c1 c2 b):
  Step P B ⟨dst,.binOp op t x y t2,ty,pos,after,gd⟩ s (s.put dst (.bool (if op= .eql then b else !b))):=
 dO fun G a w r=>by
  have e:=he op x y w hop
  refine ⟨.bool (if op= .eql then b else !b),?_,by simp [R]⟩
  simp only [execOp,r.aJr hx h1,r.aJr hy h2]
  rw [show (do let v<-(do eqGuard op t x y (.agg (c1.map toV).toArray) (.agg (c2.map toV).toArray);binOp op t (.agg (c1.map toV).toArray) (.agg (c2.map toV).toArray));pure (Next.value v):Sem Next).run P w=
   ((do eqGuard op t x y (.agg (c1.map toV).toArray) (.agg (c2.map toV).toArray);binOp op t (.agg (c1.map toV).toArray) (.agg (c2.map toV).toArray):Sem Value).run P w).andThen fun v w'=> .ok (Next.value v) w' from by simp only [Sem.run_bind,Sem.run_pure]]
  rw [e]
  rfl
theorem run_equalIn_bool (w:World) (d:Nat) {t:TypeId} (hu:P.underlying t=some .bool) (b1 b2:Bool):(Op.equalIn (d+1) t (.bool b1) (.bool b2)).run P w= .ok (b1 == b2) w:=by
 simp only [Op.equalIn,Sem.run_bind,run_underlying hu,Result.andThen_ok,Sem.run_pure]
theorem Sg (op:BinOp) (t t2:TypeId) (x y:Operand) {b1 b2:Bool} (hop:op= .eql\/op= .neq) (hx:s.ev x= .bool b1) (hy:s.ev y= .bool b2) (ht:Gf P t=true):
  Step P B ⟨dst,.binOp op t x y t2,ty,pos,after,gd⟩ s (s.put dst (.bool (if op= .eql then b1 == b2 else b1 != b2))):=
 dO fun G a w r=>by
  have hu:P.underlying t=some .bool:=by unfold Gf at ht;split at ht;assumption;cases ht
  have hE:(Op.equal t (.bool b1) (.bool b2)).run P w= .ok (b1 == b2) w:=by
   exact run_equalIn_bool w 9999 hu b1 b2
  refine ⟨.bool (if op= .eql then b1 == b2 else b1 != b2),?_,by simp [R]⟩
  simp only [execOp,r.Ui hx,r.Ui hy,eqGuard_at_bool,pure_bind]
  rcases hop with rfl|rfl
  ·simp only [binOp,Sem.run_bind,hE,Result.andThen_ok,Sem.run_pure,if_true]
  ·simp only [binOp,Sem.run_bind,hE,Result.andThen_ok,Sem.run_pure]
   rfl
theorem toList_mk (l:List UInt8):(⟨l.toArray⟩:ByteArray).toList=l:=by rw [ByteArray.toList_eq]
theorem bn (l m:List UInt8):(⟨l.toArray⟩:ByteArray)++⟨m.toArray⟩=⟨(l++m).toArray⟩:=by
 apply ByteArray.ext
 simp [ByteArray.data_append]
def Si (op:BinOp) (a b:List UInt8):Option AV:=
 match op with
 | .add=>some (.str (a++b))
 | .eql=>some (.bool (a == b))
 | .neq=>some (.bool (!(a == b)))
 | .lss=>some (.bool (Op.bytesLess a b))
 | .leq=>some (.bool (Op.bytesLess a b || a == b))
 | .gtr=>some (.bool (!(Op.bytesLess a b || a == b)))
 | .geq=>some (.bool (!Op.bytesLess a b))
 |_=>none
theorem vz (op:BinOp) (t t2:TypeId) (x y:Operand) {l m:List UInt8} {z:AV} (hx:s.ev x= .str l) (hy:s.ev y= .str m) (hz:Si op l m=some z) (hle:op= .add->l.length+m.length<=9223372036854775807):
  Step P B ⟨dst,.binOp op t x y t2,ty,pos,after,gd⟩ s (s.put dst z):=
 dO fun G a w r=>by
  have hv:=r.Uj hx
  have PT:=r.Uj hy
  have Zi:∀{v:Value},(Op.stringOp op ⟨l.toArray⟩ ⟨m.toArray⟩).run P w= .ok v w->(execOp a.eval ⟨dst,.binOp op t x y t2,ty,pos,after,gd⟩).run P w= .ok (.value v) w:=by
   intro v h
   have hb:binOp op t (.string ⟨l.toArray⟩) (.string ⟨m.toArray⟩)=Op.stringOp op ⟨l.toArray⟩ ⟨m.toArray⟩:=by cases op<;>rfl
   simp [execOp,hv,PT,eqGuard_at_string,hb,h]
  cases op<;>simp only [Si] at hz<;>first|cases hz;done|skip
  case add=>
   have hle:=hle rfl
   obtain rfl:=Option.some.inj hz
   refine ⟨.string ⟨(l++m).toArray⟩,Zi ?_,by simp [R]⟩
   have h0:¬(9223372036854775807 < ((l.length:Int)+(m.length:Int))):=by omega
   simp only [Op.stringOp,size_mk,bn]
   simp [h0]
  all_goals first
   |(obtain rfl:=Option.some.inj hz;exact ⟨_,Zi (by simp only [Op.stringOp,toList_mk,Sem.run_pure];rfl),by simp [R]⟩)
   |cases hz
theorem Pk (src d:TypeId) (x:Operand) {k k':IntKind} {n:Int} (hx:s.ev x= .int k n) (hd:intType P d=some k') (hs:(P.underlying src).isSome=true):
  Step P B ⟨dst,.convert src d x,ty,pos,after,gd⟩ s (s.put dst (.int k' (k'.wrap n))):=
 dO fun G a w r=>by
  obtain ⟨ds,hds⟩:=Option.isSome_iff_exists.1 hs
  have hu:P.underlying d=some (.int k'):=by
   unfold intType at hd
   split at hd
   ·obtain rfl:=Option.some.inj hd;assumption
   ·cases hd
  exact ⟨.int k' (k'.wrap n),by simp [execOp,r.Mc hx,convert,run_underlying hds,run_underlying hu,Conv.intToInt],by simp [R]⟩
theorem Pm (src d:TypeId) (x:Operand) {l:List UInt8} (hx:s.ev x= .str l) (hd:isString P d=true) (hs:isString P src=true):
  Step P B ⟨dst,.convert src d x,ty,pos,after,gd⟩ s (s.put dst (.str l)):=
 dO fun G a w r=>by
  exact ⟨.string ⟨l.toArray⟩,by simp [execOp,r.Uj hx,convert,run_underlying (lZ hs),run_underlying (lZ hd)],by simp [R]⟩
def bytesOf:List (List AV)->Option (List UInt8)
 |[]=>some []
 |[.int .u8 n]::r=>(bytesOf r).map (UInt8.ofNat n.toNat:: ·)
 |_=>none
theorem Uo {w:World} {E:Env}:∀{l:List (List AV)} {vs:List Value} {fp:List Nat} {bs:List UInt8},bytesOf l=some bs->Rv w E l vs 1 fp->∃ns:List Int,vs=ns.map (.int .u8)/\bs=ns.map fun n=>UInt8.ofNat n.toNat
 |[],vs,_,bs,hb,h=>by
  simp only [bytesOf,Option.some.injEq] at hb
  simp only [Rv] at h
  exact ⟨[],by simp [h.1],by simp [<-hb]⟩
 |e::es,vs,fp,bs,hb,h=>by
  match e,hb with
  |[.int .u8 n],hb=>
   simp only [bytesOf] at hb
   cases hr:bytesOf es with
   |none=>simp [hr] at hb
   |some b2=>
    simp only [hr,Option.map_some,Option.some.injEq] at hb
    simp only [Rv] at h
    obtain ⟨cs,rest,f1,f2,rfl,hn,_,rW,hrest,_⟩:=h
    obtain ⟨ns,rfl,rfl⟩:=Uo hr hrest
    have:=IA (c:=[.int .u8 n]) (by simp [AV.scalar]) rW
    exact ⟨n::ns,by simp [this,toV],by simp [<-hb]⟩
theorem JS (P:Program) (w:World) {body:Value->ByteArray->Sem (ForInStep ByteArray)} (hb:∀n r,body (.int .u8 n) r=pure (ForInStep.yield (r.push (UInt8.ofNat n.toNat)))):∀(ns:List Int) (s0:ByteArray),
  (forIn (m:=Sem) (ns.map (Value.int .u8)) s0 body).run P w= .ok ⟨s0.data++(ns.map fun n=>UInt8.ofNat n.toNat).toArray⟩ w
 |[],s0=>by simp
 |n::ns,s0=>by
  simp only [map_cons,forIn_cons,hb,pure_bind]
  rw [JS P w hb ns]
  congr 2
  apply Array.ext'
  simp [ByteArray.push]
theorem DN {G:List CO} {a:Act} {w:World} (r:dN B s G a w) {x:Operand} {ad:Option Addr} {b f cap:Nat} {l:List (List AV)} {E:Env} {bs:List UInt8} {fp:List Nat} (hv:a.eval x= .slice ad l.length cap)
  (hb:bytesOf l=some bs) (h:l=[]\/(ad=some ⟨b,f,none⟩/\Rr w E l b f 1 fp)):(Conv.bytesToString (a.eval x)).run P w= .ok (.string ⟨bs.toArray⟩) w:=by
 rw [hv]
 obtain ⟨vs,J5,ns,hns,hbs,hlen⟩:∃vs:List Value,(∀a',ad=some a'->(loadCells a' l.length).run P w= .ok vs.toArray w)/\∃ns:List Int,vs=ns.map (.int .u8)/\bs=(ns.map fun n=>UInt8.ofNat n.toNat)/\vs.length=l.length:=by
  rcases h with rfl|⟨rfl,hr⟩
  ·simp only [bytesOf,Option.some.injEq] at hb
   refine ⟨[],fun a' _=>by simp [loadCells,loadCellsFrom],[],rfl,by simp [<-hb],rfl⟩
  ·obtain ⟨vs,hv',hc'⟩:=pK.1 hr
   have hl:=iH hv'
   obtain ⟨ns,h1,h2⟩:=Uo hb hv'
   refine ⟨vs,fun a' tZ=> ?_,ns,h1,h2,by simpa using hl⟩
   obtain rfl:=Option.some.inj tZ
   have:=hc'.run (P:=P)
   rwa [hl,Nat.mul_one] at this
 cases ad with
 |none=>
  have hl0:l=[]:=by
   rcases h with h|h
   ·exact h
   ·cases h.1
  subst hl0
  have:vs=[]:=eq_nil_of_length_eq_zero (by simpa using hlen)
  subst this
  have:ns=[]:=by simpa using hns.symm
  subst this
  subst hbs
  simp [Conv.bytesToString]
  rfl
 |some a'=>
  subst hns
  subst hbs
  simp only [Conv.bytesToString,Sem.run_bind,J5 a' rfl,Result.andThen_ok]
  simp only [forIn_toArray]
  rw [JS P w (fun _ _=>rfl) ns ByteArray.empty]
  simp
theorem CG (src d:TypeId) (x:Operand) {g:Tg} {l:List (List AV)} {e:TypeId} {by':Nat} {bs:List UInt8} (hx:s.ev x= .sl g 1 l) (hf:(AV.sl g 1 l).fit s.o=true) (hd:isString P d=true) (hs:gD P src=some (e,1,by')) (he:intType P e=some .u8)
  (hb:bytesOf l=some bs):Step P B ⟨dst,.convert src d x,ty,pos,after,gd⟩ s (s.put dst (.str bs)):=
 dO fun G a w r=>by
  obtain ⟨hu,_⟩:=nT hs
  have hue:P.underlying e=some (.int .u8):=by
   unfold intType at he
   split at he
   ·obtain rfl:=Option.some.inj he;assumption
   ·cases he
  obtain ⟨ad,cap,hv,_,h⟩:=r.J3 hx hf
  have hrun:(Conv.bytesToString (a.eval x)).run P w= .ok (.string ⟨bs.toArray⟩) w:=by
   rcases h with ⟨rfl,_⟩|⟨b,f,rfl,_,_,hr⟩
   ·exact DN (b:=0) (f:=0) (E:=jU) (fp:=[]) r hv hb (.inl rfl)
   ·exact DN r hv hb (.inr ⟨rfl,hr⟩)
  refine ⟨.string ⟨bs.toArray⟩,?_,by simp [R]⟩
  rw [hv] at hrun
  simp [execOp,hv,convert,run_underlying hu,run_underlying (lZ hd),run_underlying hue,hrun]
theorem Ej (src d:TypeId) (x:Operand) {i bN:Nat} {ob:aG} {e:TypeId} {by':Nat} {bs:List UInt8} (hx:s.ev x= .obj i bN) (ho:AV.isObj s.o i bN=some ob) (hd:isString P d=true) (hs:gD P src=some (e,1,by')) (hn:ob.n=1) (he:intType P e=some .u8)
  (hb:bytesOf ob.dK=some bs):Step P B ⟨dst,.convert src d x,ty,pos,after,gd⟩ s (s.put dst (.str bs)):=
 dO fun G a w r=>by
  obtain ⟨hu,_⟩:=nT hs
  have hue:P.underlying e=some (.int .u8):=by
   unfold intType at he
   split at he
   ·obtain rfl:=Option.some.inj he;assumption
   ·cases he
  obtain ⟨g,hl,hlive,hv⟩:=r.Xp hx ho
  obtain ⟨fp,⟨_,hown⟩,_,_⟩:=r.ok i ob g hl hlive
  have hrun:(Conv.bytesToString (a.eval x)).run P w= .ok (.string ⟨bs.toArray⟩) w:=by
   rcases hown with ⟨h,_⟩|⟨b,f,C,EF,fz,nQ,ha,_,_,_,_,_,_,hr⟩
   ·exact DN (b:=0) (f:=0) (E:=jU) (fp:=[]) r hv hb (.inl h)
   ·rw [hn] at hr;exact DN r hv hb (.inr ⟨ha,hr⟩)
  refine ⟨.string ⟨bs.toArray⟩,?_,by simp [R]⟩
  rw [hv] at hrun
  simp [execOp,hv,convert,run_underlying hu,run_underlying (lZ hd),run_underlying hue,hrun]
end
end Go.Aw

namespace Go.Aw
open List
def Zj (j:Nat) (o:List aG):List aG:=match o[j]? with
 |some ob=>o.set j ob.kill
 |none=>o
def CJ:List Nat->List aG->List aG
 |[],o=>o
 |j::u,o=>CJ u (Zj j o)
section
variable {P : Program} [aD P] {B : fG P} {s : AS} {dst : Option Tmp} {ty : TypeId} {pos : String} {after : Array Edge} {gd : Option (Nat × Bool)}
theorem dN.IB {a:Act} {w:World} {k:Nat} {ok:aG} (hlive:ok.live=true):∀(u:List Nat) {s:AS} {G:List CO} {g:CO},dN B s G a w->Aw.look s.o G k ok g->u.Nodup->k∉u->(∀j∈u,∃ob,s.o[j]? =some ob/\ob.live=true)->
  ∃G' g',dN B ⟨s.t,CJ u s.o⟩ G' a w/\dU w (env B s.o G w) w (env B (CJ u s.o) G' w)/\Aw.look (CJ u s.o) G' k ok g'/\g'.a=g.a/\g'.cap=g.cap/\(∀b,g'.F b↔g.F b\/Of s.o G u b)
 |[],s,G,g,r,hl,_,_,_=>⟨G,g,r,dU.refl _ _,hl,rfl,rfl,fun b=>⟨.inl,fun h=>h.elim id (fun ⟨i,_,_,hi,_⟩=>by simp at hi)⟩⟩
 |j::u,s,G,g,r,hl,hn,hk,hu=>by
  simp only [mem_cons,not_or] at hk
  obtain ⟨oj,hoj,hjl⟩:=hu j (by simp)
  obtain ⟨gj,hlj⟩:=r.look hoj
  have jo:=r.LZ hk.1 hl hlj hlive hjl
  have hk1:Zj j s.o=s.o.set j oj.kill:=by simp [Zj,hoj]
  have hlk:Aw.look (s.o.set j oj.kill) (G.set k {g with F:=fun b=>g.F b\/gj.F b}) k ok {g with F:=fun b=>g.F b\/gj.F b}:=by
   refine ⟨by rw [getElem?_set_ne (Ne.symm hk.1)];exact hl.1,?_⟩
   have:=(List.getElem?_eq_some_iff.1 hl.2).1
   simp [this]
  have hnu:=nodup_cons.1 hn
  obtain ⟨G',g',r',k',zS,ha,hc,hF⟩:=dN.IB hlive u jo.1 hlk hnu.2 hk.2 (fun i hi=>by
   obtain ⟨ob,h1,h2⟩:=hu i (by simp [hi])
   have hne:i≠j:=fun e=>hnu.1 (e▸hi)
   exact ⟨ob,by simp only;rw [getElem?_set_ne (Ne.symm hne)];exact h1,h2⟩)
  refine ⟨G',g',by rw [CJ,hk1];exact r',by rw [CJ,hk1];exact jo.2.trans k',by rw [CJ,hk1];exact zS,ha,hc,fun b=> ?_⟩
  rw [hF b]
  have JU:Of (s.o.set j oj.kill) (G.set k {g with F:=fun b=>g.F b\/gj.F b}) u b↔Of s.o G u b:=by
   constructor
   ·rintro ⟨i,ob,gi,hi,Nw,hil,hf⟩
    have hne:i≠j:=fun e=>hnu.1 (e▸hi)
    have J6:i≠k:=fun e=>hk.2 (e▸hi)
    exact ⟨i,ob,gi,hi,⟨by have:=Nw.1;rwa [getElem?_set_ne (Ne.symm hne)] at this,by have:=Nw.2;rwa [getElem?_set_ne (Ne.symm J6)] at this⟩,hil,hf⟩
   ·rintro ⟨i,ob,gi,hi,Nw,hil,hf⟩
    have hne:i≠j:=fun e=>hnu.1 (e▸hi)
    have J6:i≠k:=fun e=>hk.2 (e▸hi)
    exact ⟨i,ob,gi,hi,⟨by rw [getElem?_set_ne (Ne.symm hne)];exact Nw.1,by rw [getElem?_set_ne (Ne.symm J6)];exact Nw.2⟩,hil,hf⟩
  rw [JU]
  constructor
  ·rintro ((h|h)|⟨i,ob,gi,hi,h⟩)
   ·exact .inl h
   ·exact .inr ⟨j,oj,gj,by simp,hlj,hjl,h⟩
   ·exact .inr ⟨i,ob,gi,by simp [hi],h⟩
  ·rintro (h|⟨i,ob,gi,hi,Nw,h⟩)
   ·exact .inl (.inl h)
   ·rcases mem_cons.1 hi with rfl|hi
    ·obtain ⟨rfl,rfl⟩:=jI hlj Nw
     exact .inl (.inr h.2)
    ·exact .inr ⟨i,ob,gi,hi,Nw,h⟩
mutual
theorem Xq {o:List aG}:∀{av:AV},iT o av=true->∀j∈lI av,∃ob,o[j]? =some ob/\ob.live=true
 | .obj i bN,h,j,hj=>by
  simp only [lI,mem_singleton] at hj
  subst hj
  simp only [iT] at h
  cases ho:AV.isObj o j bN with
  |none=>simp [ho] at h
  |some ob=>have:=jG ho;exact ⟨ob,this.1,this.2.1⟩
 | .agg c,h,j,hj=>wG (by simpa [iT] using h) j (by simpa [lI] using hj)
 | .gV c,h,j,hj=>wG (by simpa [iT] using h) j (by simpa [lI] using hj)
 | .int _ _,_,j,hj=>by simp [lI] at hj
 | .bool _,_,j,hj=>by simp [lI] at hj
 | .str _,_,j,hj=>by simp [lI] at hj
 | .sl _ _ _,_,j,hj=>by simp [lI] at hj
 | .eH _ _ _,_,j,hj=>by simp [lI] at hj
 | .ptr _ _ _ _,_,j,hj=>by simp [lI] at hj
 | .fn _ _,_,j,hj=>by simp [lI] at hj
 | .undef,_,j,hj=>by simp [lI] at hj
theorem wG {o:List aG}:∀{c:List AV},kV o c=true->∀j∈iR c,∃ob,o[j]? =some ob/\ob.live=true
 |[],_,j,hj=>by simp [iR] at hj
 |x::xs,h,j,hj=>by
  simp only [kV,Bool.and_eq_true] at h
  simp only [iR,mem_append] at hj
  rcases hj with hj|hj
  ·exact Xq h.1 j hj
  ·exact wG h.2 j hj
end
def AV.Au:AV->Bool
 | .agg _=>true
 |x=>x.JP
theorem aFx {w:World} {E:Env} {x:AV} {v:Value} {fp:List Nat} (hg:x.Au=true) (h:R w E x v fp):Rc w E x.cells v.cells.toList fp/\(∀c∈v.cells.toList,c.oneCell'=true):=by
 have one:∀{x:AV} {v:Value} {fp:List Nat},R w E x v fp->x.cells=[x]->v.cells=#[v]->v.oneCell'=true->Rc w E x.cells v.cells.toList fp/\(∀c∈v.cells.toList,c.oneCell'=true):=by
  intro x v fp h h1 h2 h3
  rw [h1,h2]
  exact ⟨by simp only [Rc];exact ⟨fp,[],h,rfl,by simp⟩,by simpa using h3⟩
 cases x with
 |int k n=>have h':=h;simp only [R] at h';obtain ⟨rfl,_⟩:=h';exact one h rfl rfl rfl
 |bool b=>have h':=h;simp only [R] at h';obtain ⟨rfl,_⟩:=h';exact one h rfl rfl rfl
 |str b=>have h':=h;simp only [R] at h';obtain ⟨rfl,_⟩:=h';exact one h rfl rfl rfl
 |sl g n l=>
  have h':=h
  simp only [R] at h'
  rcases h' with ⟨hd,_⟩|⟨a,cap,rfl,_⟩
  ·cases g with
   |own=>exact hd.elim
   |view=>exact hd.elim
   |iQ i=>cases hg
  ·exact one h rfl rfl rfl
 |eH g c off=>
  have h':=h
  simp only [R] at h'
  rcases h' with ⟨hd,_⟩|⟨_,b,o,cs,rfl,_⟩
  ·cases g with
   |own=>exact hd.elim
   |view=>exact hd.elim
   |iQ i=>cases hg
  ·exact one h rfl rfl rfl
 |agg c=>
  simp only [R] at h
  obtain ⟨cs,rfl,ho,hr⟩:=h
  exact ⟨by simpa [AV.cells,Value.cells] using hr,by simpa [Value.cells] using ho⟩
 |fn f c=>have h':=h;simp only [R] at h';obtain ⟨_,cs,rfl,_⟩:=h';exact one h rfl rfl rfl
 |obj _ _=>cases hg
 |ptr _ _ _ _=>cases hg
 |gV c=>cases hg
 |undef=>cases hg
theorem Lj {w:World} {E:Env} {n:Nat}:∀{xs:List AV} {vs:List Value} {fp:List Nat},Rc w E xs vs fp->(∀x∈xs,x.Au=true/\x.cells.length=n)->
  Rv w E (xs.map AV.cells) (vs.flatMap fun v=>v.cells.toList) n fp/\(∀v∈vs,v.cells.size=n)
 |[],[],fp,h,_=>by simp only [Rc] at h;simp [Rv,h]
 |[],_::_,_,h,_=>by simp [Rc] at h
 |_::_,[],_,h,_=>by simp [Rc] at h
 |x::xs,v::vs,fp,h,hg=>by
  simp only [Rc] at h
  obtain ⟨f1,f2,h1,h2,rfl⟩:=h
  have hx:=hg x (by simp)
  have hc:=aFx hx.1 h1
  have hlen:=fB hc.1
  have ih:=Lj h2 (fun y hy=>hg y (by simp [hy]))
  constructor
  ·simp only [map_cons,flatMap_cons,Rv]
   exact ⟨v.cells.toList,_,f1,f2,rfl,by rw [hlen,hx.2],hc.2,hc.1,ih.1,rfl⟩
  ·intro u hu
   rcases mem_cons.1 hu with rfl|hu
   ·simpa [hx.2] using hlen
   ·exact ih.2 u hu
theorem IC (off:Nat):∀(l:List Value) (k:Nat) (pre:List Value) (rest:List Value),pre.length=off+k->l.length<=rest.length->
  ((l.zipIdx k).foldl (fun (cs:Array Value) (p:Value×Nat)=>cs.setIfInBounds (off+p.2) p.1) (pre++rest).toArray)=(pre++l++rest.drop l.length).toArray
 |[],k,pre,rest,_,_=>by simp
 |x::xs,k,pre,rest,hp,hl=>by
  cases rest with
  |nil=>simp at hl
  |cons y ys=>
   simp only [zipIdx_cons,foldl_cons]
   have:(pre++y::ys).toArray.setIfInBounds (off+k) x=((pre++[x])++ys).toArray:=by
    rw [<-hp]
    simp
   rw [this,IC off xs (k+1) (pre++[x]) ys (by simp [hp,Nat.add_assoc]) (by simpa using hl)]
   simp
theorem Qt (size:Nat):∀(vs:List Value) (k:Nat) (pre rest:List Value),(∀v∈vs,v.cells.size=size)->pre.length=k * size->rest.length=vs.length * size->
  Instr.fill (fun i=>some (i * size,size)) (pre++rest).toArray ((vs.zipIdx k).map fun p=>(p.2,p.1))=some (pre++vs.flatMap fun v=>v.cells.toList).toArray
 |[],k,pre,rest,_,_,hr=>by
  have:rest=[]:=eq_nil_of_length_eq_zero (by simpa using hr)
  subst this
  simp [Instr.fill]
 |v::vs,k,pre,rest,hv,hp,hr=>by
  have h1:=hv v (by simp)
  have GN:rest.length=vs.length * size+size:=by rw [hr];simp [Nat.add_mul]
  simp only [zipIdx_cons,map_cons,Instr.fill]
  have hc:¬((v.cells.size≠size) || decide (k * size+v.cells.size > (pre++rest).toArray.size))=true:=by
   simp [h1];omega
  rw [if_neg (by simpa using hc)]
  have hz:v.cells.zipIdx.foldl (fun (cs:Array Value) (p:Value×Nat)=>cs.setIfInBounds (k * size+p.2) p.1) (pre++rest).toArray=(pre++v.cells.toList++rest.drop v.cells.toList.length).toArray:=by
   have:=IC (k * size) v.cells.toList 0 pre rest (by simpa using hp) (by simp [h1];omega)
   rw [<-this,<-Array.foldl_toList,Array.toList_zipIdx]
  rw [hz,Qt size vs (k+1) (pre++v.cells.toList) _ (fun u hu=>hv u (by simp [hu])) (by simp [hp,h1,Nat.add_mul]) (by simp [h1];omega)]
  simp
end
end Go.Aw

namespace Go.Aw
open List
section
variable {P : Program} [aD P] {B : fG P} {s : AS} {dst : Option Tmp} {ty : TypeId} {pos : String} {after : Array Edge} {gd : Option (Nat × Bool)}
theorem dN.aBx {G:List CO} {a:Act} {w:World} (r:dN B s G a w) {i idx off:Nat} {ob:aG} {g:CO} {e c:List AV} {vs:List Value} {wm fp2:List Nat} (hl:Aw.look s.o G i ob g) (hlive:ob.live=true) (rY:ob.box=false) (he:ob.dK[idx]? =some e)
  (hfit:off+c.length<=e.length) (hone:∀x∈vs,x.oneCell'=true) (hr:Rc w (env B s.o G w).plain c vs fp2)
  (hown:rV w (env B s.o G w).plain ob.n ob.dK g.a g.cap wm) (aN2:(wm++fp2).Nodup) (hF0:∀b∈wm++fp2,g.F b):
  ∃b f,g.a=some ⟨b,f,none⟩/\(storeCells ⟨b,f+(idx * ob.n+off),none⟩ vs).run P w= .ok () (w.setCells b (f+(idx * ob.n+off)) vs)/\
   dN B (s.stored i idx off ob e c) (G.set i g) a (w.setCells b (f+(idx * ob.n+off)) vs):=by
 have hvl:=fB hr
 rcases hown with ⟨hlen,⟨h,_⟩|⟨b,f,C,ty,fz,nQ,ha,hb,hz,h1,h2,h3,rfl,RY⟩⟩
 ·rw [h] at he;simp at he
 obtain ⟨f1,f2,f3,cs,hfe,hn,hc,Uh,rW,hr1,hr3⟩:=wX RY he
 have wU:=fB rW
 have aFq:idx < ob.dK.length:=(List.getElem?_eq_some_iff.1 he).1
 have hmul:(idx+1) * ob.n<=g.cap * ob.n:=Nat.mul_le_mul_right _ (by omega)
 have Zh:(idx+1) * ob.n=idx * ob.n+ob.n:=by rw [Nat.add_mul];omega
 have uq:f+(idx * ob.n+off)+vs.length<=C.size:=by omega
 refine ⟨b,f,ha,pW hb hz uq hone,?_⟩
 have Qs:g.F b:=hF0 b (by simp)
 have Bw:∀b',b'≠b->(w.setCells b (f+(idx * ob.n+off)) vs).heap[b']? =w.heap[b']?:=fun b' hne=>jS b b' hne _ _ _
 obtain ⟨C',hC',GM⟩:=iB b ty fz vs (f+(idx * ob.n+off)) w C hb
 have hm:=r.modify hl hlive {ob with dK:=ob.dK.set idx (e.take off++c++e.drop (off+c.length))} g (w.setCells b (f+(idx * ob.n+off)) vs) (Nat.le_refl _) rfl (fun _=>⟨rfl,rfl,by simp⟩) (fun b hb=> .inl hb) (fun b hb hne=>⟨hb,hne⟩)
  (fun b' hlt hne=>Bw b' (fun e=>hne ⟨e▸Qs,⟨b,f,none⟩,ha,e⟩)) (by rw [fH];exact Nat.le_refl _) (fun k _=>by
  generalize env B (s.o.set i {ob with dK:=ob.dK.set idx (e.take off++c++e.drop (off+c.length))}) (G.set i g) (w.setCells b (f+(idx * ob.n+off)) vs)=E' at k⊢
  have kb:=k.plain
  simp only [FZ,rY,Env.of,Bool.false_eq_true,if_false]
  obtain ⟨g1,g2,rfl,hc1,TZ⟩:=pV off rW
  obtain ⟨g3,g4,rfl,I9,hc4⟩:=pV c.length TZ
  subst hfe
  have aJx:=aN2
  simp only [cons_append,nodup_cons] at aJx
  obtain ⟨PS,hnd⟩:=aJx
  have hp:(f1++(g1++fp2++g4)++f3).Perm ((f1++(g1++g4)++f3)++fp2):=by
   have e1:(g1++fp2++g4++f3).Perm (g1++g4++f3++fp2):=by
    simp only [append_assoc]
    refine Perm.append_left g1 ?_
    rw [<-append_assoc g4]
    exact perm_append_comm
   simpa only [append_assoc] using Perm.append_left f1 e1
  have hsub:(f1++(g1++g4)++f3++fp2).Sublist (f1++(g1++(g3++g4))++f3++fp2):=(((Sublist.refl f1).append ((Sublist.refl g1).append (sublist_append_right g3 g4))).append (Sublist.refl f3)).append (Sublist.refl fp2)
  have hin:∀x,x∈f1++(g1++fp2++g4)++f3->x∈f1++(g1++(g3++g4))++f3++fp2:=fun x hx=>hsub.subset (hp.subset hx)
  have hold:∀x∈f1++(g1++fp2++g4)++f3,(w.setCells b (f+(idx * ob.n+off)) vs).heap[x]? =w.heap[x]?:=fun x hx=>Bw x (fun e=>PS (e▸hin x hx))
  have ER:∀j,j < f+(idx * ob.n+off)\/f+(idx * ob.n+off)+vs.length<=j->(w.setCells b (f+(idx * ob.n+off)) vs).cell? ⟨b,j,none⟩=w.cell? ⟨b,j,none⟩:=fun j hj=>World.cell?_setCells_out b vs _ w _ (fun _ _=>hj)
  have I8:(ob.dK.take idx).length=idx:=by simp;omega
  refine ⟨b::(f1++(g1++fp2++g4)++f3),⟨by simpa using hlen,.inr ⟨b,f,C',ty,fz,_,ha,hC',by rw [GM];exact hz,by rw [GM];exact h1,by simpa using h2,h3,rfl,?_⟩⟩,?_,?_⟩
  ·show Rr _ _ (ob.dK.set idx _) b f ob.n _
   refine Qq (cs:=cs.take off++vs++cs.drop (off+vs.length)) aFq ?_ ?_ ?_ ?_ ?_ ?_
   ·simp only [length_append,length_take,length_drop];omega
   ·have hc1:bD w b (f+idx * ob.n) cs:=hc
    have htl:(cs.take off).length=off:=by simp;omega
    refine bD.append.2 ⟨bD.append.2 ⟨?_,?_⟩,?_⟩
    ·intro j v hv
     have hj:=(List.getElem?_eq_some_iff.1 hv).1
     rw [htl] at hj
     rw [ER _ (by omega)]
     exact hc1.take j v hv
    ·intro j v hv
     have hj:j < vs.length:=(List.getElem?_eq_some_iff.1 hv).1
     rw [htl,Nat.add_assoc f]
     have:=World.cell?_setCells_in b vs (f+(idx * ob.n+off)) w (fun j hj=>by
      have:f+(idx * ob.n+off)+j < C.size:=by omega
      simp [World.cell?,hb,this]) j hj
     rw [this]
     rw [getElem?_eq_getElem hj] at hv
     exact hv
    ·intro j v hv
     simp only [length_append,htl]
     rw [ER _ (by omega)]
     have:=hc1.drop (k:=off+vs.length) j v hv
     rwa [show f+idx * ob.n+(off+vs.length)+j=f+idx * ob.n+(off+vs.length)+j from rfl] at this
   ·intro x hx
    simp only [mem_append] at hx
    rcases hx with (hx|hx)|hx
    ·exact Uh x (mem_of_mem_take hx)
    ·exact hone x hx
    ·exact Uh x (mem_of_mem_drop hx)
   ·refine kU (kU (dF kb _ _ _ (fun x hx=>hold x (by simp [hx])) hc1) (dF kb _ _ _ (fun x hx=>hold x (by simp [hx])) hr)) ?_
    rw [<-hvl,<-drop_drop,<-drop_drop] at *
    rw [hvl] at *
    exact dF kb _ _ _ (fun x hx=>hold x (by simp [hx])) hc4
   ·refine LQ kb ER (fun x hx=>hold x (by simp [hx])) (.inl ?_) hr1
    rw [I8];omega
   ·refine LQ kb ER (fun x hx=>hold x (by simp [hx])) (.inr ?_) hr3
    omega
  ·exact nodup_cons.2 ⟨fun h=>PS (hin b h),hp.nodup_iff.2 (hsub.nodup hnd)⟩
  ·intro x hx
   rcases mem_cons.1 hx with rfl|hx
   ·exact Qs
   ·exact hF0 x (by
     have:=hin x hx
     simp only [cons_append,mem_cons]
     exact .inr this))
 exact hm.1
theorem CK (o:List aG):∀c:List AV,(qQ o c).length=c.length
 |[]=>rfl
 |_::xs=>by simp [qQ,CK o xs]
def AS.shut (s:AS) (i idx off:Nat) (ob:aG) (e c:List AV):AS:=
 AS.stored ⟨s.t,CJ (iR c) s.o⟩ i idx off ob e (qQ s.o c)
theorem IG (t:TypeId) (x y:Operand) {i bN idx off:Nat} {ob:aG} {e:List AV} (hx:s.ev x= .ptr i bN idx off) (ho:AV.isObj s.o i bN=some ob) (he:ob.dK[idx]? =some e)
  (hfy:(s.ev y).fit s.o=true) (hsz:dR P t=some (s.ev y).cells.length) (hfit:off+(s.ev y).cells.length<=e.length) (rY:ob.box=false)
  (uX:kV s.o (s.ev y).cells=true) (hu:(iR (s.ev y).cells).Nodup) (hi:i∉iR (s.ev y).cells):
  Step P B ⟨dst,.store t x y,ty,pos,after,gd⟩ s ((s.shut i idx off ob e (s.ev y).cells).put dst .undef):=
 LU fun G a w r=>by
  obtain ⟨g,b,f,hl,hlive,ha,hv⟩:=r.ptr hx ho
  have hc:=Li hfy (r.ev y)
  obtain ⟨fp,rW,hnd,JU⟩:=EX r _ _ uX hu hc.1
  obtain ⟨wm,hown,Fe,Ll⟩:=r.ok i ob g hl hlive
  simp only [rY,Env.of,Bool.false_eq_true,if_false] at hown
  obtain ⟨G2,g2,r2,k2,Sj,ha2,TZ,bg⟩:=dN.IB (k:=i) (ok:=ob) hlive _ r hl hu hi (fun j hj=>wG uX j hj)
  have bq:(wm++fp).Nodup:=nodup_append.2 ⟨Fe,hnd,fun b hb b' hb' e=>by
   subst e
   obtain ⟨j,dY,g',hj,zS,uC,PR⟩:=JU b hb'
   have:=r.apart i j _ _ _ _ b hl zS hlive uC (Ll b hb) PR
   exact hi (this▸hj)⟩
  obtain ⟨b',f',tZ,hst,hrel⟩:=r2.aBx (P:=P) (c:=qQ s.o (s.ev y).cells) Sj hlive rY he (by rw [CK];exact hfit) hc.2.1
   (dF k2.plain _ _ _ (fun _ _=>rfl) rW) (by rw [ha2,TZ];exact hown.keeps k2.plain (fun _ _=>rfl)) bq (fun b hb=>by
    rcases mem_append.1 hb with hb|hb
    ·exact (bg b).2 (.inl (Ll b hb))
    ·exact (bg b).2 (.inr (JU b hb)))
  rw [ha2,ha] at tZ
  simp only [Option.some.injEq,Addr.mk.injEq,and_true] at tZ
  obtain ⟨rfl,rfl⟩:=tZ
  have hlen:=fB hc.1
  refine ⟨_,?_,_,hrel.put dst (by simp [R])⟩
  unfold dR at hsz
  cases hi':P.info? t with
  |none=>simp [hi'] at hsz
  |some inf=>
   simp only [hi',Option.map_some,Option.some.injEq] at hsz
   have uu:(a.eval y).cells.size=inf.size:=by rw [hsz];simpa using hlen
   simp [execOp,hv,Instr.storeAt,Instr.sureAddr,storeVar,sizeOf,typeInfo,hi',uu,hst]
end
end Go.Aw

namespace Go.Aw
open List
def AS.built (s:AS) (d:Option Tmp) (n:Nat) (xs:List Operand):AS:=
 AS.put ⟨s.t,(CJ (iR (xs.map s.ev)) (s.o++[⟨true,false,n,0,[]⟩])).set s.o.length ⟨true,false,n,1,(qQ s.o (xs.map s.ev)).map AV.cells⟩⟩ d (.obj s.o.length 1)
def sM (parts:List (Nat×Operand)):Bool:=go 0 parts
where go : Nat -> List (Nat × Operand) -> Bool
 |_,[]=>true
 |k,p::r=>p.1 == k&&go (k+1) r
theorem BA:∀(parts:List (Nat×Operand)) (k:Nat),sM.go k parts=true->parts=((parts.map (·.2)).zipIdx k).map fun p=>(p.2,p.1)
 |[],_,_=>rfl
 |p::r,k,h=>by
  simp only [sM.go,Bool.and_eq_true,beq_iff_eq] at h
  simp only [map_cons,zipIdx_cons]
  rw [<-BA r (k+1) h.2,<-h.1]
section
variable {P : Program} [aD P] {B : fG P} {s : AS} {dst : Option Tmp} {ty : TypeId} {pos : String} {after : Array Edge} {gd : Option (Nat × Bool)}
theorem qR {t e:TypeId} {n by' len:Nat} {vs:List Value} {w:World} (he:gD P t=some (e,n,by')) (hz:bL P e n=true) (hlen:len=vs.length) (hbig:len * n<=16777216) (hv:∀v∈vs,v.cells.size=n):
  (Instr.buildSlice t len ((vs.zipIdx).map fun p=>(p.2,p.1)).toArray).run P w= .ok (.slice (some ⟨w.heap.size,0,none⟩) len len) (w.alloc (.cells (vs.flatMap fun v=>v.cells.toList).toArray e)):=by
 obtain ⟨hu,inf,hi,hs,_⟩:=nT he
 obtain ⟨z,jm,hz2⟩:=wE hz hi
 have hb:¬(16777216 < len * inf.size):=by rw [hs];omega
 have hf:∀arr:Array Value,arr.size=len * n->Instr.fill (fun i=>some (i * inf.size,inf.size)) arr ((vs.zipIdx).map fun p=>(p.2,p.1))=some (vs.flatMap fun v=>v.cells.toList).toArray:=by
  intro arr ha
  have:=Qt inf.size vs 0 [] arr.toList (by rw [hs];exact hv) (by simp) (by simp [ha,hs,hlen])
  simpa using this
 by_cases h0:len * inf.size=0
 ·have:=hf #[] (by rw [<-hs,h0];rfl)
  simp [Instr.buildSlice,run_underlying hu,sizeOf,typeInfo,hi,h0,Array.range_zero',this,newRow]
 ·have:=hf ((Array.range (len * inf.size)).map (z.cells[· % z.cells.size]!)) (by simp [hs])
  simp [Instr.buildSlice,run_underlying hu,sizeOf,typeInfo,hi,hb,h0,zeroValue,jm,this,newRow]
theorem KJ (t:TypeId) (len:Nat) (parts:Array (Nat×Operand)) {e:TypeId} {n by':Nat} (he:gD P t=some (e,n,by')) (hz:bL P e n=true) (IE:sM parts.toList=true) (hlen:len=parts.toList.length) (hbig:len * n<=16777216) (aTa:len<=16777216)
  (uX:kV s.o ((parts.toList.map (·.2)).map s.ev)=true) (hu:(iR ((parts.toList.map (·.2)).map s.ev)).Nodup)
  (hgood:∀x∈qQ s.o ((parts.toList.map (·.2)).map s.ev),x.Au=true/\x.cells.length=n):
  Step P B ⟨dst,.buildSlice t len parts,ty,pos,after,gd⟩ s (s.built dst n (parts.toList.map (·.2))):=
 oC fun G a w r=>by
  generalize hxs:parts.toList.map (·.2)=xs at *
  have wY:parts.toList=(xs.zipIdx).map fun p=>(p.2,p.1):=by rw [<-hxs];exact BA _ 0 IE
  obtain ⟨fp,rW,hnd,JU⟩:=EX r _ _ uX hu (tF r xs)
  obtain ⟨JN,hsz⟩:=Lj rW hgood
  have hvl:(xs.map a.eval).length=len:=by rw [hlen,<-hxs];simp
  have hrun:(execOp a.eval ⟨dst,.buildSlice t len parts,ty,pos,after,gd⟩).run P w= .ok (.value (.slice (some ⟨w.heap.size,0,none⟩) len len)) (w.alloc (.cells ((xs.map a.eval).flatMap fun v=>v.cells.toList).toArray e)):=by
   have e1:parts.map (fun (i,x)=>(i,a.eval x))=(((xs.map a.eval).zipIdx).map fun p=>(p.2,p.1)).toArray:=by
    apply Array.ext'
    simp only [Array.toList_map,wY,map_map,zipIdx_map]
    rfl
   have:=qR (P:=P) (t:=t) (len:=len) (w:=w) he hz hvl.symm hbig hsz
   simp only [execOp,e1,Sem.run_bind,this,Result.andThen_ok,Sem.run_pure]
  have hadd:=r.add [⟨true,false,n,0,[]⟩] [⟨none,0,fun _=>False⟩] w rfl (Nat.le_refl _) (fun _ _=>rfl) (fun j ob g b hl _ hF=>by
   cases j with
   |zero=>obtain ⟨_,h2⟩:=hl;simp at h2;subst h2;exact hF.elim
   |succ j=>simp [Aw.look] at hl) (fun i j _ _ gi _ b hi hj _ _ Fa _=>by
   cases i with
   |zero=>obtain ⟨_,h2⟩:=hi;simp at h2;subst h2;exact Fa.elim
   |succ i=>simp [Aw.look] at hi) (fun k j ob g hl _=>by
   cases j with
   |zero=>
    obtain ⟨h1,h2⟩:=hl
    simp at h1 h2
    subst h1;subst h2
    exact ⟨[],⟨by simp,.inl ⟨rfl,rfl,rfl⟩⟩,by simp,by simp⟩
   |succ j=>simp [Aw.look] at hl)
  have hlk:Aw.look (s.o++[⟨true,false,n,0,[]⟩]) (G++[⟨none,0,fun _=>False⟩]) s.o.length ⟨true,false,n,0,[]⟩ ⟨none,0,fun _=>False⟩:=⟨by simp,by rw [<-r.len];simp⟩
  have hlive:∀j∈iR (xs.map s.ev),∃ob,s.o[j]? =some ob/\ob.live=true:=fun j hj=>wG uX j hj
  have hlt:∀j∈iR (xs.map s.ev),j < s.o.length:=fun j hj=>by obtain ⟨ob,h,_⟩:=hlive j hj;exact (List.getElem?_eq_some_iff.1 h).1
  obtain ⟨G2,g2,r2,k2,Sj,ha2,TZ,bg⟩:=dN.IB (k:=s.o.length) (ok:=⟨true,false,n,0,[]⟩) rfl _ hadd.1 hlk hu (fun h=>by have:=hlt _ h;omega) (fun j hj=>by
   obtain ⟨ob,h1,h2⟩:=hlive j hj
   exact ⟨ob,by simp only;rw [getElem?_append_left (hlt j hj)];exact h1,h2⟩)
  have aJt:∀b∈fp,g2.F b:=fun b hb=>by
   obtain ⟨i,ob,g,hi,Nw,hil,hf⟩:=JU b hb
   exact (bg b).2 (.inr ⟨i,ob,g,hi,lH Nw,hil,hf⟩)
  have kk:=(hadd.2.trans k2).plain
  have hfl:∀b∈fp,b < w.heap.size:=fun b hb=>(r2.fresh _ _ _ b Sj rfl (aJt b hb)).2
  generalize hCd:((xs.map a.eval).flatMap fun v=>v.cells.toList)=cs at *
  have wU:=iH JN
  have hself:(w.alloc (.cells cs.toArray e)).heap[w.heap.size]? =some (.cells cs.toArray e):=eD w _
  have hrl:((qQ s.o (xs.map s.ev)).map AV.cells).length=len:=by
   have:=fB rW
   rw [length_map,<-this,hvl]
  have Qu:len<=maxLen:=by simp only [maxLen];omega
  have hm:=r2.modify Sj rfl ⟨true,false,n,1,(qQ s.o (xs.map s.ev)).map AV.cells⟩ ⟨some ⟨w.heap.size,0,none⟩,len,fun b=>g2.F b\/b=w.heap.size⟩ (w.alloc (.cells cs.toArray e)) (by simp) rfl (by simp)
   (fun b hb=>by
    rcases hb with hb|hb
    ·exact .inl hb
    ·right;subst hb;simp) (fun b hb hne=>⟨.inl hb,fun a' tZ=>by
     obtain rfl:=Option.some.inj tZ
     have:=(r2.fresh _ _ _ b Sj rfl hb).2
     simp only;omega⟩) (fun b hlt _=>heap_alloc w _ b hlt) (by simp) (fun k _=>by
   refine ⟨w.heap.size::fp,?_,?_,?_⟩
   ·generalize env B _ _ (w.alloc (.cells cs.toArray e))=E' at k⊢
    simp only [Env.of,Bool.false_eq_true,if_false]
    refine ⟨by rw [hrl];exact Qu,.inr ⟨w.heap.size,0,cs.toArray,e,(0,0),fp,rfl,hself,.inr rfl,?_,by rw [hrl];exact Nat.le_refl _,Qu,rfl,?_⟩⟩
    ·simp [wU]
     rw [<-hrl];simp
    ·refine pK.2 ⟨cs,rX k.plain (fun b hb=>heap_alloc w _ b (hfl b hb)) (rX kk (fun _ _=>rfl) JN),?_⟩
     refine nS hself (fun j v hv=>by simpa using hv)
   ·refine nodup_cons.2 ⟨fun h=>by have:=hfl _ h;omega,hnd⟩
   ·intro b hb
    rcases mem_cons.1 hb with rfl|hb
    ·exact .inr rfl
    ·exact .inl (aJt b hb))
  refine ⟨_,_,hrun,_,hm.1.put dst ?_⟩
  simp only [R]
  have h1:=(List.getElem?_eq_some_iff.1 Sj.1).1
  have h2:=(List.getElem?_eq_some_iff.1 Sj.2).1
  refine ⟨trivial,⟨true,false,n,1,(qQ s.o (xs.map s.ev)).map AV.cells⟩,⟨some ⟨w.heap.size,0,none⟩,len,fun b=>g2.F b\/b=w.heap.size⟩,⟨?_,?_⟩,Nat.le_refl _,⟨fun _ _=>by simp only [hrl],fun h=>by omega⟩⟩
  ·rw [getElem?_set_self h1]
  ·rw [getElem?_set_self h2]
def eX (P:Program) (t:TypeId):Option (List (Nat×Nat)):=
 match P.underlying t with
 |some (.struct fields)=>fields.toList.mapM (fun f=>(P.info? f.type).map fun i=>(f.offset,i.size))
 |some (.array _ e)=>if (P.info? e).isSome then some [] else none
 |_=>none
def JV (pl:List (Nat×Nat)):List AV->List (Nat×AV)->Option (List AV)
 |cs,[]=>some cs
 |cs,(i,x)::rest=>match pl[i]? with
  |some (off,size)=>if x.cells.length=size/\off+size<=cs.length then JV pl (cs.take off++x.cells++cs.drop (off+size)) rest else none
  |none=>none
theorem Zk {G:List CO} {a:Act} {w:World} (r:dN B s G a w) (pl:List (Nat×Nat)):∀(parts:List (Nat×Operand)) (cs:List AV) (vs:List Value) (z:List AV),(∀p∈parts,(s.ev p.2).fit s.o=true)->
  Rc w (env B s.o G w) cs vs []->(∀x∈vs,x.oneCell'=true)->JV pl cs (parts.map fun p=>(p.1,s.ev p.2))=some z->
  ∃vs',Instr.fill (pl.toArray[·]?) vs.toArray (parts.map fun p=>(p.1,a.eval p.2))=some vs'.toArray/\Rc w (env B s.o G w) z vs' []/\∀x∈vs',x.oneCell'=true
 |[],cs,vs,z,_,h,ho,hz=>by
  simp only [map_nil,JV,Option.some.injEq] at hz
  subst hz
  exact ⟨vs,rfl,h,ho⟩
 |(i,x)::rest,cs,vs,z,hf,h,ho,hz=>by
  simp only [map_cons,JV] at hz
  cases hp:pl[i]? with
  |none=>simp [hp] at hz
  |some p=>
   obtain ⟨off,size⟩:=p
   simp only [hp] at hz
   split at hz
   ·rename_i hc
    have hx:=Li (hf (i,x) (by simp)) (r.ev x)
    have hxl:=fB hx.1
    have hl:=fB h
    obtain ⟨f1,f2,e,h1,h2⟩:=pV off h
    obtain ⟨rfl,rfl⟩:f1=[]/\f2=[]:=by simpa using e.symm
    obtain ⟨f1,f2,e,h3,h4⟩:=pV size h2
    obtain ⟨rfl,rfl⟩:f1=[]/\f2=[]:=by simpa using e.symm
    rw [drop_drop,drop_drop] at h4
    have hnew:=kU (kU h1 hx.1) h4
    have hvl:(vs.take off).length=off:=by simp;omega
    obtain ⟨vs',h5,h6,h7⟩:=Zk r pl rest _ (vs.take off++(a.eval x).cells.toList++vs.drop (off+size)) z (fun p hp=>hf p (by simp [hp])) hnew (fun y hy=>by
     simp only [mem_append] at hy
     rcases hy with (hy|hy)|hy
     ·exact ho y (mem_of_mem_take hy)
     ·exact hx.2.1 y hy
     ·exact ho y (mem_of_mem_drop hy)) hz
    refine ⟨vs',?_,h6,h7⟩
    simp only [map_cons,Instr.fill]
    have hpa:pl.toArray[i]? =some (off,size):=by simpa using hp
    have hsz:(a.eval x).cells.size=size:=by rw [<-hc.1,<-hxl];simp
    simp only [hpa]
    have aJw:¬(((a.eval x).cells.size≠size) || decide (off+(a.eval x).cells.size > vs.toArray.size))=true:=by
     simp [hsz];omega
    rw [if_neg (by simpa using aJw)]
    have:=IC off (a.eval x).cells.toList 0 (vs.take off) (vs.drop off) (by simpa using hvl) (by simp [hsz];omega)
    rw [take_append_drop] at this
    rw [<-Array.foldl_toList,Array.toList_zipIdx,this,<-h5]
    congr 2
    rw [drop_drop]
    simp [hsz]
   ·cases hz
theorem Xr (t:TypeId) (parts:Array (Nat×Operand)) {pl:List (Nat×Nat)} {z0 z:List AV} (hp:eX P t=some pl) (hz0:dA P t=some z0) (hf:∀p∈parts.toList,(s.ev p.2).fit s.o=true)
  (hz:JV pl z0 (parts.toList.map fun p=>(p.1,s.ev p.2))=some z):Step P B ⟨dst,.build t parts,ty,pos,after,gd⟩ s (s.put dst (.agg z)):=
 dO fun G a w r=>by
  unfold dA at hz0
  cases hi:P.info? t with
  |none=>simp [hi] at hz0
  |some inf=>
   cases hv:inf.zero with
   |none=>simp [hi,hv] at hz0
   |some zv=>
    simp only [hi,hv,Option.bind_some] at hz0
    split at hz0
    ·rename_i hall
     obtain rfl:=Option.some.inj hz0
     obtain ⟨vs',h1,h2,h3⟩:=Zk r pl parts.toList _ zv.cells.toList z hf (DK w _ _ _) (all_eq_true.1 hall) hz
     refine ⟨.agg vs'.toArray,?_,by simp only [R];exact ⟨vs',rfl,h3,h2⟩⟩
     unfold eX at hp
     split at hp
     ·rename_i fields hu
      have hb:P.built t (parts.map fun p=>(p.1,a.eval p.2)).toList=some vs'.toArray:=by
       simp only [Program.built,hi,hu,hv,hp]
       rw [Array.toList_map,<-h1]
      have hrun:=run_build (P:=P) w t (parts.map fun p=>(p.1,a.eval p.2)) vs'.toArray hb
      simp only [execOp,Sem.run_bind]
      rw [show (parts.map fun (x:Nat×Operand)=>match x with|(i,x)=>(i,a.eval x))=parts.map fun p=>(p.1,a.eval p.2) from rfl,hrun]
      rfl
     ·rename_i n e hu
      split at hp
      ·rename_i he
       obtain rfl:=Option.some.inj hp
       obtain ⟨ie,hie⟩:=Option.isSome_iff_exists.1 he
       have hpe:parts.toList=[]:=by
        cases hpl:parts.toList with
        |nil=>rfl
        |cons q qs=>rw [hpl] at hz;simp [JV] at hz
       have hb:P.built t (parts.map fun p=>(p.1,a.eval p.2)).toList=some vs'.toArray:=by
        simp only [Program.built,hi,hu,hv,hie]
        rw [Array.toList_map,<-h1,hpe]
        rfl
       have hrun:=run_build (P:=P) w t (parts.map fun p=>(p.1,a.eval p.2)) vs'.toArray hb
       simp only [execOp,Sem.run_bind]
       rw [show (parts.map fun (x:Nat×Operand)=>match x with|(i,x)=>(i,a.eval x))=parts.map fun p=>(p.1,a.eval p.2) from rfl,hrun]
       rfl
      ·cases hp
     ·cases hp
    ·cases hz0
theorem Pn (z:Array Value) (n j:Nat) (hj:j < n):(madeCells z n)[j]? =some (z[j % z.size]!):=by
 simp [madeCells,hj]
theorem Gg {w:World} {E:Env} {c:List AV} {cs:List Value} {n:Nat} (hn:cs.length=n) (ho:∀x∈cs,x.oneCell'=true) (hr:Rc w E c cs []):∀m,Rv w E (replicate m c) (replicate m cs).flatten n []
 |0=>by simp [Rv]
 |m+1=>by
  simp only [replicate_succ,flatten_cons,Rv]
  exact ⟨cs,_,[],[],rfl,hn,ho,hr,Gg hn ho hr m,rfl⟩
theorem uY (cs:List Value):∀(m j:Nat),j < m * cs.length->(replicate m cs).flatten[j]? =cs[j % cs.length]?
 |0,j,h=>by simp at h
 |m+1,j,h=>by
  simp only [replicate_succ,flatten_cons]
  by_cases hj:j < cs.length
  ·rw [getElem?_append_left hj,Nat.mod_eq_of_lt hj]
  ·rw [getElem?_append_right (by omega),uY cs m (j - cs.length) (by rw [Nat.add_mul] at h;omega)]
   congr 1
   exact (Nat.mod_eq_sub_mod (by omega)).symm
theorem wh (t:TypeId) {e:TypeId} {n by':Nat} (he:gD P t=some (e,n,by')) (hz:bL P e n=true):
  Step P B ⟨dst,.buildSlice t 0 #[],ty,pos,after,gd⟩ s (s.put dst (.sl .own n [])):=
 oC fun G a w r=>by
  have hrun:=qR (P:=P) (t:=t) (len:=0) (w:=w) (vs:=[]) he hz rfl (by omega) (by simp)
  have hadd:=r.add [] [] (w.alloc (.cells #[] e)) rfl (by simp) (fun b hb=>heap_alloc w _ b hb) (fun j ob g b hl=>by simp [Aw.look] at hl) (fun i j _ _ _ _ b hi=>by simp [Aw.look] at hi) (fun k j ob g hl=>by simp [Aw.look] at hl)
  simp only [append_nil] at hadd
  refine ⟨.slice (some ⟨w.heap.size,0,none⟩) 0 0,w.alloc (.cells #[] e),?_,G,hadd.1.put dst ?_⟩
  ·have h2:(Instr.buildSlice t 0 #[]).run P w= .ok (.slice (some ⟨w.heap.size,0,none⟩) 0 0) (w.alloc (.cells #[] e)):=by simpa using hrun
   simp [execOp,h2]
  ·simp only [R]
   exact .inr ⟨_,0,rfl,⟨by simp,by simp⟩,.inl ⟨trivial,trivial,rfl,trivial⟩⟩
def AS.made (s:AS) (d:Option Tmp) (n:Nat) (l:List (List AV)):AS:=AS.put ⟨s.t,s.o++[⟨true,false,n,1,l⟩]⟩ d (.obj s.o.length 1)
theorem Mk (t:TypeId) (x y:Operand) {e:TypeId} {n by':Nat} {k k':IntKind} {l c:Int} {z:List AV} (he:gD P t=some (e,n,by')) (hz:dA P e=some z) (hzn:bL P e n=true) (hx:s.ev x= .int k l) (hy:s.ev y= .int k' c)
  (h0:0<=l) (h1:l<=c) (hb:(by':Int) * c<=281474976710656) (qb:c<=9223372036854775807) (hn0:0 < n):
  Step P B ⟨dst,.makeSlice t x y,ty,pos,after,gd⟩ s (s.made dst n (replicate l.toNat z)):=
 oC fun G a w r=>by
  obtain ⟨hu,inf,hi,hs,hby⟩:=nT he
  obtain ⟨zv,jm,hz2⟩:=wE hzn hi
  have hrun:=run_make (P:=P) w t e inf zv hu hi jm k k' l c h0 h1 (by rw [hby];exact hb) qb
  unfold dA at hz
  simp only [hi,jm,Option.bind_some] at hz
  split at hz
  ·rename_i hall
   obtain rfl:=Option.some.inj hz
   have Sk:zv.cells.toList.length=n:=by simpa using hz2
   obtain ⟨G',r',k',hG⟩:=r.aJf ⟨true,false,n,1,replicate l.toNat (RV (zv.cells.toList.map ui) (slN P 8 e))⟩ c.toNat (madeCells zv.cells (c.toNat * inf.size)) e (by simp;omega) (by simp [maxLen];omega) (by simp [size_madeCells,hs]) (fun w' E' k hb=>by
    refine pK.2 ⟨_,Gg Sk (all_eq_true.1 hall) (DK w' E' _ _) l.toNat,?_⟩
    refine nS hb (fun j v hv=> ?_)
    have hj:=(List.getElem?_eq_some_iff.1 hv).1
    have hfl:(replicate l.toNat zv.cells.toList).flatten.length=l.toNat * n:=by simp [hz2]
    rw [hfl] at hj
    rw [uY _ _ _ (by rw [Sk];exact hj),Sk] at hv
    have hle:l.toNat * n<=c.toNat * inf.size:=by rw [hs];exact Nat.mul_le_mul_right _ (by omega)
    rw [Nat.zero_add,Pn _ _ _ (by omega),hz2]
    have hm:j % n < zv.cells.size:=by rw [hz2];exact Nat.mod_lt _ hn0
    rw [getElem!_pos zv.cells (j % n) hm]
    rw [<-hv]
    simp [hm])
   refine ⟨.slice (some ⟨w.heap.size,0,none⟩) l.toNat c.toNat,_,by simp only [execOp,r.Mc hx,r.Mc hy,Sem.run_bind,hrun,Result.andThen_ok,Sem.run_pure],G',r'.put dst ?_⟩
   simp only [R]
   exact ⟨trivial,_,_,Qr hG,Nat.le_refl _,⟨fun _ _=>by simp,fun h=>by omega⟩⟩
  ·cases hz
end
end Go.Aw

namespace Go.Aw
open List
def AS.at (s:AS) (i bN idx:Nat):Option (aG×List AV):=
 match AV.isObj s.o i bN with
 |some ob=>match ob.dK[idx]? with
  |some e=>some (ob,e)
  |none=>none
 |none=>none
def xI (P:Program) (t:TypeId) (c:List AV) (off:Nat) (K:AV->Prop):Prop:=
 match bI P t with
 |some n=>off+n<=c.length/\K (.agg ((c.drop off).take n))
 |none=>fA P t=true/\match c[off]? with
  |some y=>K y
  |none=>False
def nZ (P:Program) [aD P] (o:Oper) (s:AS) (K:AS->Prop):Prop:=
 match o.op with
 | .move x=>K (s.put o.dst (s.ev x))
 | .assign x=>K (s.put o.dst (s.ev x))
 | .pick c x y=>match s.ev c with
  | .bool b=>K (s.put o.dst (if b then s.ev x else s.ev y))
  |_=>False
 | .alloc t=>match dA P t with
  |some z=>K (s.box o.dst z)
  |none=>False
 | .box _ x=>(s.ev x).fit s.o=true/\K (s.box o.dst (s.ev x).cells)
 | .build t parts=>match eX P t with
  |some pl=>match dA P t with
   |some z0=>(∀p∈parts.toList,(s.ev p.2).fit s.o=true)/\match JV pl z0 (parts.toList.map fun p=>(p.1,s.ev p.2)) with
    |some z=>K (s.put o.dst (.agg z))
    |none=>False
   |none=>False
  |none=>False
 | .buildSlice t len parts=>match gD P t with
  |some (e,n,_)=>bL P e n=true/\sM parts.toList=true/\len=parts.toList.length/\len * n<=16777216/\len<=16777216/\
    kV s.o ((parts.toList.map (·.2)).map s.ev)=true/\(iR ((parts.toList.map (·.2)).map s.ev)).Nodup/\
    (∀x∈qQ s.o ((parts.toList.map (·.2)).map s.ev),x.Au=true/\x.cells.length=n)/\K (s.built o.dst n (parts.toList.map (·.2)))
  |none=>False
 | .load t x=>match s.ev x with
  | .ptr i bN idx off=>match s.at i bN idx with
   |some (_,e)=>xI P t (wT (Bt i) true e) off fun y=>K (s.put o.dst y)
   |none=>False
  | .eH g c off=>(AV.eH g c off).fit s.o=true/\xI P t c off fun y=>K (s.put o.dst y)
  |_=>False
 | .store t x y=>match s.ev x with
  | .ptr i bN idx off=>match s.at i bN idx with
   |some (ob,e)=>(s.ev y).fit s.o=true/\dR P t=some (s.ev y).cells.length/\off+(s.ev y).cells.length<=e.length/\
     if (ob.box || (s.ev y).cells.all AV.JP)=true then K ((s.stored i idx off ob e (s.ev y).cells).put o.dst .undef)
     else kV s.o (s.ev y).cells=true/\(iR (s.ev y).cells).Nodup/\i∉iR (s.ev y).cells/\K ((s.shut i idx off ob e (s.ev y).cells).put o.dst .undef)
   |none=>False
  |_=>False
 | .fieldAddr t x f=>match aU P t f with
  |some fo=>match s.ev x with
   | .ptr i bN idx off=>(AV.isObj s.o i bN).isSome=true/\K (s.put o.dst (.ptr i bN idx (off+fo)))
   | .eH g c off=>(AV.eH g c off).fit s.o=true/\K (s.put o.dst (.eH g c (off+fo)))
   |_=>False
  |none=>False
 | .indexAddr t x ix=>match s.ev ix with
  | .int _ n=>0<=n/\match s.ev x with
   | .obj i bN=>match AV.isObj s.o i bN with
    |some ob=>match gD P t with
     |some (_,m,_)=>m=ob.n/\(ob.box=false\/ob.bN≠2)/\n < ob.dK.length/\K (s.put o.dst (.ptr i bN n.toNat 0))
     |none=>False
    |none=>False
   | .sl g m l=>(AV.sl g m l).fit s.o=true/\match gD P t with
    |some (_,m',_)=>m'=m/\match l[n.toNat]? with
     |some c=>K (s.put o.dst (.eH g c 0))
     |none=>False
    |none=>False
   | .ptr i bN idx off=>(AV.isObj s.o i bN).isSome=true/\match aBs P t with
    |some (len,sz)=>n < len/\K (s.put o.dst (.ptr i bN idx (off+n.toNat * sz)))
    |none=>False
   |_=>False
  |_=>False
 | .index t x ix=>match s.ev x with
  | .str l=>match s.ev ix with
   | .int _ n=>isString P t=true/\0<=n/\match l[n.toNat]? with
    |some u=>K (s.put o.dst (.int .u8 u.toNat))
    |none=>False
   |_=>False
  |_=>False
 | .extract x ix=>match s.ev x with
  | .gV c=>match c[ix]? with
   |some y=>K (s.put o.dst y)
   |none=>False
  |_=>False
 | .makeFunc (.func f) ⟨[]⟩ cap=>K (s.put o.dst (.fn f (s.args cap)))
 | .makeSlice t x y=>match gD P t with
  |some (e,n,by')=>match dA P e with
   |some z=>match s.ev x with
    | .int _ l=>match s.ev y with
     | .int _ c=>bL P e n=true/\0<=l/\l<=c/\(by':Int) * c<=281474976710656/\c<=9223372036854775807/\0 < n/\K (s.made o.dst n (replicate l.toNat z))
     |_=>False
    |_=>False
   |none=>False
  |none=>False
 | .slice t x lo hi none=>match s.ev x with
  | .str l=>match s.bound 0 lo with
   |some a=>match s.bound l.length hi with
    |some b=>isString P t=true/\a<=b/\b<=l.length/\K (s.put o.dst (.str ((l.take b).drop a)))
    |none=>False
   |none=>False
  | .sl g n l=>match s.bound 0 lo with
   |some a=>match s.bound l.length hi with
    |some b=>match gD P t with
     |some (_,m,_)=>m=n/\(AV.sl g n l).fit s.o=true/\a<=b/\b<=l.length/\K (s.put o.dst (.sl g n ((l.take b).drop a)))
     |none=>False
    |none=>False
   |none=>False
  | .obj i bN=>match AV.isObj s.o i bN with
   |some ob=>match s.bound 0 lo with
    |some a=>match s.bound ob.dK.length hi with
     |some b=>match gD P t with
      |some (_,m,_)=>m=ob.n/\ob.box=false/\a<=b/\b<=ob.dK.length/\K (s.Mi o.dst i ob ((ob.dK.take b).drop a))
      |none=>False
     |none=>False
    |none=>False
   |none=>False
  |_=>False
 | .unOp .not _ x=>match s.ev x with
  | .bool b=>K (s.put o.dst (.bool !b))
  |_=>False
 | .unOp .neg _ x=>match s.ev x with
  | .int k n=>K (s.put o.dst (.int k (k.wrap (0 - n))))
  |_=>False
 | .binOp op t x y _=>match s.ev x with
  | .int k m=>match s.ev y with
   | .int k' n=>k'=k/\match Sc op k m n with
    |some z=>K (s.put o.dst z)
    |none=>False
   |_=>False
  | .str l=>match s.ev y with
   | .str m=>(op= .add->l.length+m.length<=9223372036854775807)/\match Si op l m with
    |some z=>K (s.put o.dst z)
    |none=>False
   |_=>False
  | .bool a=>match s.ev y with
   | .bool b=>(op= .eql\/op= .neq)/\Gf P t=true/\K (s.put o.dst (.bool (if op= .eql then a == b else a != b)))
   |_=>False
  | .agg c1=>match s.ev y with
   | .agg c2=>(op= .eql\/op= .neq)/\c1.all AV.scalar=true/\c2.all AV.scalar=true/\∃b,EqA P t c1 c2 b/\K (s.put o.dst (.bool (if op= .eql then b else !b)))
   |_=>False
  |_=>False
 | .convert src d x=>match s.ev x with
  | .int _ n=>match intType P d with
   |some k'=>(P.underlying src).isSome=true/\K (s.put o.dst (.int k' (k'.wrap n)))
   |none=>False
  | .str l=>isString P src=true/\isString P d=true/\K (s.put o.dst (.str l))
  | .sl g n l=>match gD P src with
   |some (e,m,_)=>m=1/\n=1/\(AV.sl g n l).fit s.o=true/\isString P d=true/\intType P e=some .u8/\∃bs,bytesOf l=some bs/\K (s.put o.dst (.str bs))
   |none=>False
  | .obj i bN=>match AV.isObj s.o i bN with
   |some ob=>match gD P src with
    |some (e,m,_)=>m=1/\ob.n=1/\isString P d=true/\intType P e=some .u8/\∃bs,bytesOf ob.dK=some bs/\K (s.put o.dst (.str bs))
    |none=>False
   |none=>False
  |_=>False
 | .call ⟨.builtin .len,⟨[x]⟩,⟨[t]⟩⟩=>match s.ev x with
  | .str l=>isString P t=true/\K (s.put o.dst (.int .i64 l.length))
  | .sl g n l=>(AV.sl g n l).fit s.o=true/\isSlice P t=true/\K (s.put o.dst (.int .i64 l.length))
  | .obj i bN=>match AV.isObj s.o i bN with
   |some ob=>isSlice P t=true/\K (s.put o.dst (.int .i64 ob.dK.length))
   |none=>False
  |_=>False
 | .call ⟨.builtin .append,⟨[x,y]⟩,⟨[tS,xT]⟩⟩=>match gD P tS with
  |some (e,n,by')=>bL P e n=true/\dW P xT=true/\match s.target n (s.ev x) with
   |some (i,ob,s1)=>match s1.source i n (s.ev y) with
    |some (l2,o2)=>(ob.dK.length+l2.length) * by'<=140737488355328/\ob.dK.length+l2.length<=9223372036854775807/\K (s.wF o2 o.dst i ob l2)
    |none=>False
   |none=>False
  |none=>False
 | .call ⟨.value f,args,_⟩=>match s.ev f with
  | .fn g cap=>if aC P g=true then∃r,Ok P g (zP s.o (s.args args++cap)) r/\K (s.called o.dst r) else∃r,OkN P g (zP s.o (s.args args++cap)) r/\K (s.put o.dst r)
  |_=>False
 | .nilCheck x=>match s.ev x with
  | .ptr i bN idx off=>(AV.isObj s.o i bN).isSome=true/\K (s.put o.dst (.ptr i bN idx off))
  | .eH g c off=>(AV.eH g c off).fit s.o=true/\K (s.put o.dst (.eH g c off))
  |_=>False
 |_=>False
def Po (P:Program) (o:Oper) (s:AS) (K:AS->Prop):Prop:=
 match o.op with
 | .buildSlice t 0 ⟨[]⟩=>match gD P t with
  |some (e,n,_)=>bL P e n=true/\K (s.put o.dst (.sl .own n []))
  |none=>False
 |_=>False
theorem zU {s:AS} {i bN idx:Nat} {ob:aG} {e:List AV} (h:s.at i bN idx=some (ob,e)):AV.isObj s.o i bN=some ob/\ob.dK[idx]? =some e:=by
 unfold AS.at at h
 split at h
 ·rename_i dY h1
  split at h
  ·rename_i e' h2
   simp only [Option.some.injEq,Prod.mk.injEq] at h
   obtain ⟨rfl,rfl⟩:=h
   exact ⟨h1,h2⟩
  ·cases h
 ·cases h
theorem Ff {s:AS} {i bN:Nat} (h:(AV.isObj s.o i bN).isSome=true):∃ob,AV.isObj s.o i bN=some ob:=Option.isSome_iff_exists.1 h
theorem bu {P:Program} [aD P] {B:fG P} {s:AS} {dst:Option Tmp} {ty:TypeId} {pos:String} {after:Array Edge} {gd:Option (Nat×Bool)} {t:TypeId} {x:Operand} {i bN idx off:Nat} {ob:aG} {e:List AV} {K:AS->Prop}
  (hx:s.ev x= .ptr i bN idx off) (ha:s.at i bN idx=some (ob,e)) (h:xI P t (wT (Bt i) true e) off fun y=>K (s.put dst y)):∃s',K s'/\Step P B ⟨dst,.load t x,ty,pos,after,gd⟩ s s':=by
 obtain ⟨h1,h2⟩:=zU ha
 unfold xI at h
 split at h
 ·rename_i n hn
  exact ⟨_,h.2,Ga t x hx h1 h2 hn (by have:=h.1;rwa [Bu] at this)⟩
 ·split at h
  ·rename_i y hy
   exact ⟨_,h.2,Gb t x hx h1 h2 h.1 hy⟩
  ·exact h.2.elim
theorem Xt {P:Program} [aD P] {B:fG P} {s:AS} {dst:Option Tmp} {ty:TypeId} {pos:String} {after:Array Edge} {gd:Option (Nat×Bool)} {t:TypeId} {x:Operand} {g:Tg} {c:List AV} {off:Nat} {K:AS->Prop}
  (hx:s.ev x= .eH g c off) (hf:(AV.eH g c off).fit s.o=true) (h:xI P t c off fun y=>K (s.put dst y)):∃s',K s'/\Step P B ⟨dst,.load t x,ty,pos,after,gd⟩ s s':=by
 unfold xI at h
 split at h
 ·rename_i n hn
  exact ⟨_,h.2,ET t x hx hf hn h.1⟩
 ·split at h
  ·rename_i y hy
   exact ⟨_,h.2,EU t x hx hf h.1 hy⟩
  ·exact h.2.elim
section
variable {P : Program} [aD P] {B : fG P} {s : AS} {dst : Option Tmp} {ty : TypeId} {pos : String} {after : Array Edge} {gd : Option (Nat × Bool)}
theorem Sl (x:Operand) {i bN idx off:Nat} {ob:aG} (hx:s.ev x= .ptr i bN idx off) (ho:AV.isObj s.o i bN=some ob):Step P B ⟨dst,.nilCheck x,ty,pos,after,gd⟩ s (s.put dst (.ptr i bN idx off)):=
 dO fun G a w r=>by
  obtain ⟨g,b,f,_,_,_,hv⟩:=r.ptr hx ho
  refine ⟨a.eval x,?_,by have:=r.ev x;rwa [hx] at this⟩
  simp only [execOp]
  rw [hv]
  rfl
theorem Pp (x:Operand) {g:Tg} {c:List AV} {off:Nat} (hx:s.ev x= .eH g c off) (hf:(AV.eH g c off).fit s.o=true):Step P B ⟨dst,.nilCheck x,ty,pos,after,gd⟩ s (s.put dst (.eH g c off)):=
 dO fun G a w r=>by
  have h:=r.ev x
  rw [hx] at h
  refine ⟨a.eval x,?_,h⟩
  have h':=h
  simp only [R] at h'
  rcases h' with ⟨hd,_⟩|⟨_,b,o,cs,hv,_⟩
  ·cases g with
   |own=>exact hd.elim
   |view=>exact hd.elim
   |iQ i=>
    exfalso
    simp only [AV.fit] at hf
    refine hd (fun ob uW=> ?_)
    simpa [uW] using hf
  ·simp only [execOp]
   rw [hv]
   rfl
end
theorem vD {P:Program} [aD P] {B:fG P} {o:Oper} {s:AS} {K:AS->Prop} (h:nZ P o s K):∃s',K s'/\Step P B o s s':=by
 obtain ⟨dst,op,ty,pos,after,gd⟩:=o
 unfold nZ at h
 dsimp only at h
 split at h
 case h_1=>exact ⟨_,h,ax _⟩
 case h_2=>exact ⟨_,h,Uc _⟩
 case h_3=>
  split at h
  ·rename_i hc;exact ⟨_,h,bf _ _ _ hc⟩
  ·exact h.elim
 case h_4=>
  split at h
  ·rename_i hz;exact ⟨_,h,Xk _ hz⟩
  ·exact h.elim
 case h_5=>exact ⟨_,h.2,uj _ _ h.1⟩
 case h_6=>
  split at h
  ·rename_i hp
   split at h
   ·rename_i hz
    obtain ⟨h1,h⟩:=h
    split at h
    ·rename_i hf;exact ⟨_,h,Xr _ _ hp hz h1 hf⟩
    ·exact h.elim
   ·exact h.elim
  ·exact h.elim
 case h_7=>
  split at h
  ·rename_i he
   obtain ⟨h1,h2,h3,h4,h5,h6,h7,h8,h9⟩:=h
   exact ⟨_,h9,KJ _ _ _ he h1 h2 h3 h4 h5 h6 h7 h8⟩
  ·exact h.elim
 case h_8=>
  split at h
  ·rename_i hx
   split at h
   ·rename_i ha;exact bu hx ha h
   ·exact h.elim
  ·rename_i hx;exact Xt hx h.1 h.2
  ·exact h.elim
 case h_9=>
  split at h
  ·rename_i hx
   split at h
   ·rename_i ha
    obtain ⟨a1,a2⟩:=zU ha
    obtain ⟨h1,h2,h3,h⟩:=h
    split at h
    ·rename_i hb
     exact ⟨_,h,Xo _ _ _ hx a1 a2 h1 h2 h3 (by simpa using hb)⟩
    ·rename_i hb
     obtain ⟨h4,h5,h6,h7⟩:=h
     exact ⟨_,h7,IG _ _ _ hx a1 a2 h1 h2 h3 (by simp at hb;exact hb.1) h4 h5 h6⟩
   ·exact h.elim
  ·exact h.elim
 case h_10=>
  split at h
  ·rename_i hf
   split at h
   ·rename_i hx
    obtain ⟨ob,ho⟩:=Ff h.1
    exact ⟨_,h.2,LX _ _ _ hx ho hf⟩
   ·rename_i hx;exact ⟨_,h.2,KI _ _ _ hx h.1 hf⟩
   ·exact h.elim
  ·exact h.elim
 case h_11=>
  split at h
  ·rename_i hi
   obtain ⟨h0,h⟩:=h
   split at h
   ·rename_i hx
    split at h
    ·rename_i ho
     split at h
     ·rename_i he
      obtain ⟨rfl,hb,h1,h2⟩:=h
      exact ⟨_,h2,Md _ _ _ hx ho hi he h0 h1 hb⟩
     ·exact h.elim
    ·exact h.elim
   ·rename_i hx
    obtain ⟨hf,h⟩:=h
    split at h
    ·rename_i he
     obtain ⟨rfl,h⟩:=h
     split at h
     ·rename_i hc;exact ⟨_,h,Pg _ _ _ hx hf hi he h0 hc⟩
     ·exact h.elim
    ·exact h.elim
   ·rename_i hx
    obtain ⟨hs,h⟩:=h
    obtain ⟨ob,ho⟩:=Ff hs
    split at h
    ·rename_i ha;exact ⟨_,h.2,Me _ _ _ hx ho hi ha h0 h.1⟩
    ·exact h.elim
   ·exact h.elim
  ·exact h.elim
 case h_12=>
  split at h
  ·rename_i hx
   split at h
   ·rename_i hi
    obtain ⟨ht,h0,h⟩:=h
    split at h
    ·rename_i hu;exact ⟨_,h,Mf _ _ _ hx hi ht h0 hu⟩
    ·exact h.elim
   ·exact h.elim
  ·exact h.elim
 case h_13=>
  split at h
  ·rename_i hx
   split at h
   ·rename_i hy;exact ⟨_,h,Sb _ _ hx hy⟩
   ·exact h.elim
  ·exact h.elim
 case h_14=>exact ⟨_,h,Ph _ _⟩
 case h_15=>
  split at h
  ·rename_i he
   split at h
   ·rename_i hz
    split at h
    ·rename_i hx
     split at h
     ·rename_i hy
      obtain ⟨h1,h2,h3,h4,h5,h6,h7⟩:=h
      exact ⟨_,h7,Mk _ _ _ he hz h1 hx hy h2 h3 h4 h5 h6⟩
     ·exact h.elim
    ·exact h.elim
   ·exact h.elim
  ·exact h.elim
 case h_16=>
  split at h
  ·rename_i hx
   split at h
   ·rename_i hl
    split at h
    ·rename_i hh
     obtain ⟨h1,h2,h3,h4⟩:=h
     exact ⟨_,h4,Mg _ _ _ _ hx h1 hl hh h2 h3⟩
    ·exact h.elim
   ·exact h.elim
  ·rename_i hx
   split at h
   ·rename_i hl
    split at h
    ·rename_i hh
     split at h
     ·rename_i he
      obtain ⟨rfl,h1,h2,h3,h4⟩:=h
      exact ⟨_,h4,Pj _ _ _ _ hx h1 he hl hh h2 h3⟩
     ·exact h.elim
    ·exact h.elim
   ·exact h.elim
  ·rename_i hx
   split at h
   ·rename_i ho
    split at h
    ·rename_i hl
     split at h
     ·rename_i hh
      split at h
      ·rename_i he
       obtain ⟨rfl,h1,h2,h3,h4⟩:=h
       exact ⟨_,h4,Mj _ _ _ _ hx ho h1 he hl hh h2 h3⟩
      ·exact h.elim
     ·exact h.elim
    ·exact h.elim
   ·exact h.elim
  ·exact h.elim
 case h_17=>
  split at h
  ·rename_i hx;exact ⟨_,h,uy _ _ hx⟩
  ·exact h.elim
 case h_18=>
  split at h
  ·rename_i hx;exact ⟨_,h,uz _ _ hx⟩
  ·exact h.elim
 case h_19=>
  split at h
  ·rename_i hx
   split at h
   ·rename_i hy
    obtain ⟨rfl,h⟩:=h
    split at h
    ·rename_i hz;exact ⟨_,h,ve _ _ _ _ _ hx hy hz⟩
    ·exact h.elim
   ·exact h.elim
  ·rename_i hx
   split at h
   ·rename_i hy
    obtain ⟨hle,h⟩:=h
    split at h
    ·rename_i hz;exact ⟨_,h,vz _ _ _ _ _ hx hy hz hle⟩
    ·exact h.elim
   ·exact h.elim
  ·rename_i hx
   split at h
   ·rename_i hy;exact ⟨_,h.2.2,Sg _ _ _ _ _ h.1 hx hy h.2.1⟩
   ·exact h.elim
  ·rename_i hx
   split at h
   ·rename_i hy
    obtain ⟨h1,h2,h3,b,h4,h5⟩:=h
    exact ⟨_,h5,Un _ _ _ _ _ h1 hx hy h2 h3 h4⟩
   ·exact h.elim
  ·exact h.elim
 case h_20=>
  split at h
  ·rename_i hx
   split at h
   ·rename_i hk;exact ⟨_,h.2,Pk _ _ _ hx hk h.1⟩
   ·exact h.elim
  ·rename_i hx;exact ⟨_,h.2.2,Pm _ _ _ hx h.2.1 h.1⟩
  ·rename_i hx
   split at h
   ·rename_i he
    obtain ⟨rfl,rfl,h1,h2,h3,bs,h4,h5⟩:=h
    exact ⟨_,h5,CG _ _ _ hx h1 h2 he h3 h4⟩
   ·exact h.elim
  ·rename_i hx
   split at h
   ·rename_i ho
    split at h
    ·rename_i he
     obtain ⟨rfl,h1,h2,h3,bs,h4,h5⟩:=h
     exact ⟨_,h5,Ej _ _ _ hx ho h2 he h1 h3 h4⟩
    ·exact h.elim
   ·exact h.elim
  ·exact h.elim
 case h_21=>
  split at h
  ·rename_i hx;exact ⟨_,h.2,Sa _ _ hx h.1⟩
  ·rename_i hx;exact ⟨_,h.2.2,Uk _ _ hx h.1 h.2.1⟩
  ·rename_i hx
   split at h
   ·rename_i ho;exact ⟨_,h.2,RZ _ _ hx ho h.1⟩
   ·exact h.elim
  ·exact h.elim
 case h_22=>
  split at h
  ·rename_i he
   obtain ⟨h1,h2,h⟩:=h
   split at h
   ·rename_i ht
    split at h
    ·rename_i hs
     obtain ⟨h3,h4,h5⟩:=h
     exact ⟨_,h5,step_append _ _ _ _ he h1 h2 ht hs h3 h4⟩
    ·exact h.elim
   ·exact h.elim
  ·exact h.elim
 case h_23=>
  split at h
  ·rename_i hf
   split at h
   ·rename_i h1
    obtain ⟨r,h2,h3⟩:=h
    exact ⟨_,h3,az _ _ _ hf h1 h2⟩
   ·obtain ⟨r,h2,h3⟩:=h
    exact ⟨_,h3,Uf _ _ _ hf h2⟩
  ·exact h.elim
 case h_24=>
  split at h
  ·rename_i hx
   obtain ⟨ob,ho⟩:=Ff h.1
   exact ⟨_,h.2,Sl _ hx ho⟩
  ·rename_i hx;exact ⟨_,h.2,Pp _ hx h.1⟩
  ·exact h.elim
 case h_25=>exact h.elim
theorem Ml {P:Program} [aD P] {B:fG P} {o:Oper} {s:AS} {K:AS->Prop} (h:Po P o s K):∃s',K s'/\Step P B o s s':=by
 obtain ⟨dst,op,ty,pos,after,gd⟩:=o
 unfold Po at h
 dsimp only at h
 split at h
 ·split at h
  ·rename_i he
   exact ⟨_,h.2,wh _ he h.1⟩
  ·exact h.elim
 ·exact h.elim
end Go.Aw

namespace Go.Aw
open List
def AV.gQ:AV->Bool
 | .int _ _=>true
 | .bool _=>true
 | .str _=>true
 |_=>false
def oD (w:World) (O:Nat->Prop):Env:=⟨fun b=>b < w.heap.size/\¬O b,fun _=>True,fun _ _=>False,fun _ _ _=>False,fun _ _ _ _ _=>False⟩
def Xu (P:Program) [aD P] (f:FuncId) (x x':AV) (rest:List AV) (r:AV):Prop:=
 ∀(w:World) (v:Value) (vs:List Value) (fp:List Nat),aD.holds P w->(∀b∈fp,aD.low P<=b)->R w (oD w (· ∈fp)) x v fp->fp.Nodup->(∀b∈fp,b < w.heap.size)->Rc w (oD w (· ∈fp)) rest vs []->
  Calls P f (v::vs).toArray w fun e w'=>∃u wV,e= .returned u/\R w' jU r u []/\R w' jU x' v wV/\wV.Nodup/\
   (∀b∈wV,(b∈fp\/w.heap.size<=b)/\b < w'.heap.size)/\w.heap.size<=w'.heap.size/\(∀b,b < w.heap.size->b∉fp->w'.heap[b]? =w.heap[b]?)/\lU w w'
mutual
def mt (o:List aG):AV->AV->Bool
 | .obj i _,.sl .own n _=>match o[i]? with
  |some ob=>decide (ob.n=n)
  |none=>false
 | .agg c,.agg c'=>J7 o c c'
 | .int _ _,x=>x.gQ
 | .bool _,x=>x.gQ
 | .str _,x=>x.gQ
 |_,_=>false
def J7 (o:List aG):List AV->List AV->Bool
 |[],[]=>true
 |x::xs,y::ys=>mt o x y&&J7 o xs ys
 |_,_=>false
end
mutual
def zV:AV->AV->List (Nat×List (List AV))
 | .obj i _,.sl _ _ rows=>[(i,rows)]
 | .agg c,.agg c'=>AX c c'
 |_,_=>[]
def AX:List AV->List AV->List (Nat×List (List AV))
 |x::xs,y::ys=>zV x y++AX xs ys
 |_,_=>[]
end
theorem II {w:World} {E:Env} {x:AV} {v:Value} {fp:List Nat} (hx:x.gQ=true) (h:R w E x v fp):fp=[]:=by
 cases x<;>simp only [AV.gQ] at hx<;>first|(cases hx;done)|(simp only [R] at h;exact h.2)
structure Part where
  i : Nat
  rows : List (List AV)
  fp : List Nat
def wo (o:List aG) (G:List CO) (w':World) (p:Part):Prop:=
 ∃ob g,look o G p.i ob g/\ob.live=true/\ob.box=false/\rV w' jU ob.n p.rows g.a g.cap p.fp/\p.rows.length=ob.dK.length
def nQ (L:List Part):List Nat:=L.flatMap (·.fp)
mutual
theorem Zl {P:Program} [aD P] {B:fG P} {s:AS} {G:List CO} {w w':World}:∀(x x':AV) (v:Value) (wV:List Nat),iT s.o x=true->mt s.o x x'=true->R w (env B s.o G w) x v []->R w' jU x' v wV->
  ∃L:List Part,L.map (·.i)=lI x/\zV x x'=L.map (fun p=>(p.i,p.rows))/\wV=nQ L/\∀p∈L,wo s.o G w' p
 | .obj i bN,.sl .own n rows,v,wV,ho,hm,h,h'=>by
  cases uW:AV.isObj s.o i bN with
  |none=>simp [iT,uW] at ho
  |some ob=>
   simp only [iT,uW] at ho
   simp only [R] at h
   obtain ⟨_,dY,g,hl,_,hh,_⟩:=h
   obtain ⟨h1,h2,h3⟩:=jG uW
   obtain rfl:=Option.some.inj (hl.1.symm.trans h1)
   have hv:=hh h2 h3
   obtain ⟨a,cap,hv',hown⟩:=oV.1 h'
   rw [hv] at hv'
   simp only [Value.slice.injEq] at hv'
   obtain ⟨rfl,hlen,rfl⟩:=hv'
   simp only [mt,h1,decide_eq_true_eq] at hm
   refine ⟨[⟨i,rows,wV⟩],rfl,rfl,by simp [nQ],?_⟩
   intro p hp
   simp at hp;subst hp
   exact ⟨_,g,hl,h2,by simpa using ho,by rw [hm];exact hown,hlen.symm⟩
 | .agg c,.agg c',v,wV,ho,hm,h,h'=>by
  simp only [R] at h h'
  obtain ⟨cs,rfl,_,hr⟩:=h
  obtain ⟨cs',hv,_,GN⟩:=h'
  have:cs=cs':=by simpa using hv
  subst this
  obtain ⟨L,h1,h2,h3,h4⟩:=Uq c c' cs wV (by simpa [iT] using ho) (by simpa [mt] using hm) hr GN
  exact ⟨L,by simpa [lI] using h1,by simpa [zV] using h2,h3,h4⟩
 | .int _ _,x',v,wV,_,hm,_,h'=>⟨[],rfl,by simp [zV],by simpa [nQ] using II (by simpa [mt] using hm) h',by simp⟩
 | .bool _,x',v,wV,_,hm,_,h'=>⟨[],rfl,by simp [zV],by simpa [nQ] using II (by simpa [mt] using hm) h',by simp⟩
 | .str _,x',v,wV,_,hm,_,h'=>⟨[],rfl,by simp [zV],by simpa [nQ] using II (by simpa [mt] using hm) h',by simp⟩
 | .sl _ _ _,_,_,_,_,hm,_,_=>by simp [mt] at hm
 | .eH _ _ _,_,_,_,_,hm,_,_=>by simp [mt] at hm
 | .ptr _ _ _ _,_,_,_,_,hm,_,_=>by simp [mt] at hm
 | .gV _,_,_,_,_,hm,_,_=>by simp [mt] at hm
 | .fn _ _,_,_,_,_,hm,_,_=>by simp [mt] at hm
 | .undef,_,_,_,_,hm,_,_=>by simp [mt] at hm
 | .obj _ _,.sl .view _ _,_,_,_,hm,_,_=>by simp [mt] at hm
 | .obj _ _,.sl (.iQ _) _ _,_,_,_,hm,_,_=>by simp [mt] at hm
 | .obj _ _,.int _ _,_,_,_,hm,_,_=>by simp [mt] at hm
 | .obj _ _,.bool _,_,_,_,hm,_,_=>by simp [mt] at hm
 | .obj _ _,.str _,_,_,_,hm,_,_=>by simp [mt] at hm
 | .obj _ _,.eH _ _ _,_,_,_,hm,_,_=>by simp [mt] at hm
 | .obj _ _,.obj _ _,_,_,_,hm,_,_=>by simp [mt] at hm
 | .obj _ _,.ptr _ _ _ _,_,_,_,hm,_,_=>by simp [mt] at hm
 | .obj _ _,.agg _,_,_,_,hm,_,_=>by simp [mt] at hm
 | .obj _ _,.gV _,_,_,_,hm,_,_=>by simp [mt] at hm
 | .obj _ _,.fn _ _,_,_,_,hm,_,_=>by simp [mt] at hm
 | .obj _ _,.undef,_,_,_,hm,_,_=>by simp [mt] at hm
 | .agg _,.sl _ _ _,_,_,_,hm,_,_=>by simp [mt] at hm
 | .agg _,.int _ _,_,_,_,hm,_,_=>by simp [mt] at hm
 | .agg _,.bool _,_,_,_,hm,_,_=>by simp [mt] at hm
 | .agg _,.str _,_,_,_,hm,_,_=>by simp [mt] at hm
 | .agg _,.eH _ _ _,_,_,_,hm,_,_=>by simp [mt] at hm
 | .agg _,.obj _ _,_,_,_,hm,_,_=>by simp [mt] at hm
 | .agg _,.ptr _ _ _ _,_,_,_,hm,_,_=>by simp [mt] at hm
 | .agg _,.gV _,_,_,_,hm,_,_=>by simp [mt] at hm
 | .agg _,.fn _ _,_,_,_,hm,_,_=>by simp [mt] at hm
 | .agg _,.undef,_,_,_,hm,_,_=>by simp [mt] at hm
theorem Uq {P:Program} [aD P] {B:fG P} {s:AS} {G:List CO} {w w':World}:∀(c c':List AV) (cs:List Value) (wV:List Nat),kV s.o c=true->J7 s.o c c'=true->Rc w (env B s.o G w) c cs []->Rc w' jU c' cs wV->
  ∃L:List Part,L.map (·.i)=iR c/\AX c c'=L.map (fun p=>(p.i,p.rows))/\wV=nQ L/\∀p∈L,wo s.o G w' p
 |[],[],[],wV,_,_,_,h'=>by simp only [Rc] at h';exact ⟨[],rfl,by simp [AX],by simp [h',nQ],by simp⟩
 |[],[],_::_,_,_,_,h,_=>by simp [Rc] at h
 |[],_::_,_,_,_,hm,_,_=>by simp [J7] at hm
 |_::_,[],_,_,_,hm,_,_=>by simp [J7] at hm
 |_::_,_::_,[],_,_,_,h,_=>by simp [Rc] at h
 |x::xs,y::ys,c::cs,wV,ho,hm,h,h'=>by
  simp only [Rc] at h h'
  obtain ⟨g1,g2,h1,h2,e⟩:=h
  obtain ⟨rfl,rfl⟩:g1=[]/\g2=[]:=by simpa using e
  obtain ⟨f1,f2,h1',h2',rfl⟩:=h'
  simp only [kV,Bool.and_eq_true] at ho
  simp only [J7,Bool.and_eq_true] at hm
  obtain ⟨L1,a1,a2,rfl,a4⟩:=Zl x y c f1 ho.1 hm.1 h1 h1'
  obtain ⟨L2,b1,b2,rfl,b4⟩:=Uq xs ys cs f2 ho.2 hm.2 h2 h2'
  refine ⟨L1++L2,by simp [iR,a1,b1],by simp [AX,a2,b2],by simp [nQ],?_⟩
  intro p hp
  rcases mem_append.1 hp with hp|hp
  ·exact a4 p hp
  ·exact b4 p hp
end
def gM (u:List Nat):Tg->Option Tg
 | .own=>none
 | .view=>some .view
 | .iQ i=>if i∈u then none else some (.iQ i)
def AV.nd:AV->Bool
 | .int _ _=>true
 | .bool _=>true
 | .str _=>true
 | .sl .own _ _=>true
 | .obj _ _=>true
 | .ptr _ _ _ _=>true
 |_=>false
theorem aN3 {w:World} {E:Env} {D:Nat->Nat->Prop} {x:AV} {v:Value} {fp:List Nat} (hx:x.nd=true) (h:R w E x v fp):R w {E with D:=D} x v fp:=by
 cases x with
 |int _ _=>simpa [R] using h
 |bool _=>simpa [R] using h
 |str _=>simpa [R] using h
 |sl g n l=>
  cases g with
  |own=>
   obtain ⟨a,cap,hv,hown⟩:=oV.1 h
   exact oV.2 ⟨a,cap,hv,hown⟩
  |_=>cases hx
 |obj _ _=>simp only [R] at h⊢;exact h
 |ptr _ _ _ _=>simp only [R] at h⊢;exact h
 |_=>cases hx
theorem aEr {w:World} {E:Env} {D:Nat->Nat->Prop}:∀{c:List AV} {cs:List Value} {fp:List Nat},c.all AV.nd=true->Rc w E c cs fp->Rc w {E with D:=D} c cs fp
 |[],[],_,_,h=>h
 |[],_::_,_,_,h=>by simp [Rc] at h
 |_::_,[],_,_,h=>by simp [Rc] at h
 |x::xs,c::cs,fp,hp,h=>by
  simp only [Rc] at h⊢
  simp only [all_cons,Bool.and_eq_true] at hp
  obtain ⟨f1,f2,h1,h2,h3⟩:=h
  exact ⟨f1,f2,aN3 hp.1 h1,aEr hp.2 h2,h3⟩
theorem wu {w:World} {E:Env} {D:Nat->Nat->Prop}:∀{l:List (List AV)} {b off n:Nat} {fp:List Nat},(l.all fun r=>r.all AV.nd)=true->Rr w E l b off n fp->Rr w {E with D:=D} l b off n fp
 |[],_,_,_,_,_,h=>h
 |e::es,b,off,n,fp,hp,h=>by
  simp only [Rr] at h⊢
  simp only [all_cons,Bool.and_eq_true] at hp
  obtain ⟨cs,f1,f2,h1,h2,h3,h4,h5,h6⟩:=h
  exact ⟨cs,f1,f2,h1,h2,h3,aEr hp.1 h4,wu hp.2 h5,h6⟩
def yM (l:List (List AV)):Bool:=l.all fun r=>r.all AV.nd
theorem Xv:yM []=true:=rfl
theorem Ur (r:List AV) (l:List (List AV)):yM (r::l)=(r.all AV.nd&&yM l):=rfl
theorem Xw {l:List (List AV)} {k:Nat} {r:List AV} (h:yM l=true) (hr:r.all AV.nd=true):yM (l.set k r)=true:=by
 unfold yM at *
 rw [all_eq_true] at h⊢
 intro x hx
 rcases mem_or_eq_of_mem_set hx with hx|rfl
 ·exact h x hx
 ·exact hr
def aG.forget (ob:aG) (u:List Nat):aG:=
 if ob.box then (if yM ob.dK=true then ob else {ob with dK:=lD (gM u) true ob.dK}) else ob
theorem lM (ob:aG) (u:List Nat):(ob.forget u).live=ob.live:=by unfold aG.forget;split<;>(try split)<;>rfl
theorem Mm (ob:aG) (u:List Nat):(ob.forget u).bN=ob.bN:=by unfold aG.forget;split<;>(try split)<;>rfl
theorem Mo (ob:aG) (u:List Nat):(ob.forget u).box=ob.box:=by unfold aG.forget;split<;>(try split)<;>rfl
theorem Us (ob:aG) (u:List Nat):(ob.forget u).n=ob.n:=by unfold aG.forget;split<;>(try split)<;>rfl
theorem Mq (ob:aG) (u:List Nat):(ob.forget u).dK.length=ob.dK.length:=by unfold aG.forget;split<;>(try split)<;>simp [jT]
def aG.aBy (ob:aG) (N:List (Nat×List (List AV))) (u:List Nat) (i:Nat):aG:=
 match N.find? (fun p=>p.1 == i) with
 |some p=>{ob with dK:=p.2}
 |none=>ob.forget u
def KL (N:List (Nat×List (List AV))) (u:List Nat):Nat->List aG->List aG
 |_,[]=>[]
 |i,ob::r=>ob.aBy N u i::KL N u (i+1) r
theorem Ut (N:List (Nat×List (List AV))) (u:List Nat):∀(o:List aG) (k i:Nat),(KL N u k o)[i]? =(o[i]?).map fun ob=>ob.aBy N u (k+i)
 |[],_,_=>by simp [KL]
 |ob::r,k,0=>by simp [KL]
 |ob::r,k,i+1=>by
  simp only [KL,getElem?_cons_succ]
  rw [Ut N u r (k+1) i,show k+1+i=k+(i+1) by omega]
def AS.Lm (s:AS) (d:Option Tmp) (x x' r:AV):AS:=
 AS.put ⟨wT (gM (lI x)) true s.t,KL (zV x x') (lI x) 0 s.o⟩ d r
def Pq (L:List Part):Nat->List CO->List CO
 |_,[]=>[]
 |i,g::r=>(match L.find? (fun p=>p.i == i) with
  |some p=>{g with F:=fun b=>b∈p.fp}
  |none=>g)::Pq L (i+1) r
theorem Uu (L:List Part):∀(G:List CO) (k i:Nat),(Pq L k G)[i]? =(G[i]?).map fun g=>match L.find? (fun p=>p.i == k+i) with
  |some p=>{g with F:=fun b=>b∈p.fp}
  |none=>g
 |[],_,_=>by simp [Pq]
 |g::r,k,0=>by simp [Pq]
 |g::r,k,i+1=>by
  simp only [Pq,getElem?_cons_succ]
  rw [Uu L r (k+1) i,show k+1+i=k+(i+1) by omega]
theorem CL (L:List Part):∀(G:List CO) (k:Nat),(Pq L k G).length=G.length
 |[],_=>rfl
 |g::r,k=>by simp [Pq,CL L r]
theorem CP (N:List (Nat×List (List AV))) (u:List Nat):∀(o:List aG) (k:Nat),(KL N u k o).length=o.length
 |[],_=>rfl
 |g::r,k=>by simp [KL,CP N u r]
end Go.Aw

namespace Go.Aw
open List
theorem Mr {w w':World} {E E':Env} {x:AV} {v:Value} (hx:x.gQ=true) (h:R w E x v []):R w' E' x v []:=by
 cases x<;>simp only [AV.gQ] at hx<;>first|(cases hx;done)|(simp only [R] at h⊢;exact h)
theorem Lp {L:List Part} {b:Nat}:b∈nQ L↔∃p∈L,b∈p.fp:=by simp [nQ]
theorem Qv:∀{L:List Part},(nQ L).Nodup->∀p∈L,∀q∈L,∀b,b∈p.fp->b∈q.fp->p=q
 |[],_,p,hp,_,_,_,_,_=>by cases hp
 |x::L,h,p,jq,q,hq0,b,hbp,hbq=>by
  simp only [nQ,flatMap_cons,nodup_append] at h
  rcases mem_cons.1 jq with e1|hp<;>rcases mem_cons.1 hq0 with e2|hq
  ·rw [e1,e2]
  ·exact absurd rfl (h.2.2 b (e1▸hbp) b (mem_flatMap.2 ⟨q,hq,hbq⟩))
  ·exact absurd rfl (h.2.2 b (e2▸hbq) b (mem_flatMap.2 ⟨p,hp,hbp⟩))
  ·exact Qv h.2.1 p hp q hq b hbp hbq
theorem Uv:∀{L:List Part},(nQ L).Nodup->∀p∈L,p.fp.Nodup
 |[],_,p,hp=>by cases hp
 |x::L,h,p,hp=>by
  simp only [nQ,flatMap_cons,nodup_append] at h
  rcases mem_cons.1 hp with rfl|hp
  ·exact h.1
  ·exact Uv h.2.1 p hp
section
variable {P : Program} [aD P] {B : fG P} {s : AS} {dst : Option Tmp} {ty : TypeId} {pos : String} {after : Array Edge} {gd : Option (Nat × Bool)}
theorem wy {o:List aG} {G:List CO} {L:List Part} {u:List Nat} {i:Nat} {dY:aG} {g':CO} (h:look (KL (L.map fun p=>(p.i,p.rows)) u 0 o) (Pq L 0 G) i dY g'):
  ∃ob g,look o G i ob g/\((∃p∈L,p.i=i/\dY={ob with dK:=p.rows}/\g'={g with F:=fun b=>b∈p.fp})\/
   ((∀p∈L,p.i≠i)/\dY=ob.forget u/\g'=g)):=by
 obtain ⟨h1,h2⟩:=h
 rw [Ut,Nat.zero_add] at h1
 rw [Uu,Nat.zero_add] at h2
 cases ho:o[i]? with
 |none=>simp [ho] at h1
 |some ob=>
  cases hg:G[i]? with
  |none=>simp [hg] at h2
  |some g=>
   rw [ho] at h1;rw [hg] at h2
   simp only [Option.map_some,Option.some.injEq] at h1 h2
   refine ⟨ob,g,⟨ho,hg⟩,?_⟩
   have hfm:(L.map fun p=>(p.i,p.rows)).find? (fun p=>p.1 == i)=(L.find? (fun p=>p.i == i)).map fun p=>(p.i,p.rows):=by rw [find?_map];rfl
   unfold aG.aBy at h1
   rw [hfm] at h1
   cases hf:L.find? (fun p=>p.i == i) with
   |some p=>
    rw [hf] at h1 h2
    left
    exact ⟨p,mem_of_find?_eq_some hf,by have:=find?_some hf;simpa using this,h1.symm,h2.symm⟩
   |none=>
    rw [hf] at h1 h2
    right
    refine ⟨fun p hp e=> ?_,h1.symm,h2.symm⟩
    have:=find?_eq_none.1 hf p hp
    simp [e] at this
theorem wz {o:List aG} {G:List CO} {L:List Part} {u:List Nat} {i:Nat} {ob:aG} {g:CO} (h:look o G i ob g):
  ∃dY g',look (KL (L.map fun p=>(p.i,p.rows)) u 0 o) (Pq L 0 G) i dY g':=by
 have h1:=(List.getElem?_eq_some_iff.1 h.1).1
 have h2:=(List.getElem?_eq_some_iff.1 h.2).1
 exact ⟨_,_,getElem?_eq_getElem (by rw [CP];exact h1),getElem?_eq_getElem (by rw [CL];exact h2)⟩
theorem Qw {w:World} {E E':Env} {s:AS} {a:Act}:∀ys:List Operand,(ys.all fun y=>(s.ev y).gQ)=true->(∀y,R w E (s.ev y) (a.eval y) [])->Rc w E' (ys.map s.ev) (ys.map a.eval) []
 |[],_,_=>by simp [Rc]
 |y::ys,h,hr=>by
  simp only [all_cons,Bool.and_eq_true] at h
  simp only [map_cons,Rc]
  exact ⟨[],[],Mr h.1 (hr y),Qw ys h.2 hr,rfl⟩
theorem xc (f x0:Operand) (ys:List Operand) (qc:Array TypeId) {gf:FuncId} {x' r:AV} (hf:s.ev f= .fn gf []) (hc:aC P gf=true) (hy:(ys.all fun y=>(s.ev y).gQ)=true) (hr:r.gQ=true\/r= .gV []) (hx:iT s.o (s.ev x0)=true) (hu:(lI (s.ev x0)).Nodup)
  (hm:mt s.o (s.ev x0) x'=true) (uX:Xu P gf (res s.o (s.ev x0)) x' (ys.map s.ev) r):
  Step P B ⟨dst,.call {callee:= .value f,args:=⟨x0::ys⟩,argTypes:=qc},ty,pos,after,gd⟩ s (s.Lm dst (s.ev x0) x' r):=by
 rintro a w next Q ⟨G,rr⟩ hn
 have h1:=rr.ev f
 rw [hf] at h1
 simp only [R] at h1
 obtain ⟨_,cs,hv,sQ⟩:=h1
 have hcs:cs=[]:=by cases cs with
  |nil=>rfl
  |cons _ _=>simp [Rc] at sQ
 subst hcs
 obtain ⟨fp,jD,hnd,JU⟩:=JO rr _ _ hx hu (rr.ev x0)
 have hlt:∀b∈fp,b < w.heap.size:=fun b hb=>by
  obtain ⟨i,ob,g,_,hl,hlive,hF⟩:=JU b hb
  exact (rr.fresh _ _ _ b hl hlive hF).2
 have kB:dU w (env B s.o G w).plain w (oD w (· ∈fp)):=⟨fun b hb=>⟨⟨sP rr hb,fun hm=>by
   obtain ⟨i,ob,g,_,hl,hlive,hF⟩:=JU b hm
   exact hb.2 i ob g hl hlive hF⟩,rfl⟩,fun _ _=>trivial,fun _ _ _ h=>h.elim,fun _ _ _ h=>h.elim,fun _ _ _ _ _ h=>h.elim⟩
 have xe:∀b∈fp,aD.low P<=b:=fun b hb=>by
  obtain ⟨i,ob,g,_,hl,hlive,hF⟩:=JU b hb
  exact rr.Ub (rr.fresh _ _ _ b hl hlive hF).1
 have Ue:=uX w (a.eval x0) (ys.map a.eval) fp rr.holds xe (nK kB _ _ _ (fun _ _=>rfl) jD) hnd hlt (Qw ys hy fun y=>rr.ev y)
 unfold Oper.wp
 have hrun:(execOp a.eval ⟨dst,.call {callee:= .value f,args:=⟨x0::ys⟩,argTypes:=qc},ty,pos,after,gd⟩).run P w= .ok (.enter gf (a.eval x0::ys.map a.eval).toArray) w:=by
  simp [execOp,resolve,hv,Deferred.ofValue,invoke,Bz hc]
 rw [hrun,Oper.upon_enter]
 refine Ue.mono fun e w' h=> ?_
 obtain ⟨v,wV,rfl,RY,hxr,hnd',hfr,hsz,mJ,CF⟩:=h
 refine hn _ _ ?_
 obtain ⟨L,hLi,hN,rfl,hL⟩:=Zl (s.ev x0) x' _ wV hx hm (rr.ev x0) hxr
 have PV:∀i,i∈lI (s.ev x0)↔∃p∈L,p.i=i:=fun i=>by rw [<-hLi];simp
 unfold AS.Lm
 rw [hN]
 generalize huu:lI (s.ev x0)=u at *
 generalize ho':KL (L.map fun p=>(p.i,p.rows)) u 0 s.o=o'
 generalize hG':Pq L 0 G=G'
 have lk:∀{i dY g'},look o' G' i dY g'->∃ob g,look s.o G i ob g/\((∃p∈L,p.i=i/\dY={ob with dK:=p.rows}/\g'={g with F:=fun b=>b∈p.fp})\/
   ((∀p∈L,p.i≠i)/\dY=ob.forget u/\g'=g)):=fun h=>wy (by rw [ho',hG'];exact h)
 have kl:∀{i ob g},look s.o G i ob g->∃dY g',look o' G' i dY g'/\dY.live=ob.live/\dY.bN=ob.bN/\dY.n=ob.n/\g'.a=g.a/\g'.cap=g.cap/\dY.dK.length=ob.dK.length/\((∀p∈L,p.i≠i)->g'=g)/\dY.box=ob.box:=by
  intro i ob g h
  obtain ⟨dY,g',h'⟩:=wz (L:=L) (u:=u) h
  rw [ho',hG'] at h'
  refine ⟨dY,g',h',?_⟩
  obtain ⟨ob2,g2,h2,hcase⟩:=lk h'
  obtain ⟨rfl,rfl⟩:=jI h h2
  rcases hcase with ⟨p,hp,rfl,rfl,rfl⟩|⟨Ir,rfl,rfl⟩
  ·obtain ⟨ob3,g3,xg,_,_,_,hlen⟩:=hL p hp
   obtain ⟨rfl,rfl⟩:=jI h xg
   exact ⟨rfl,rfl,rfl,rfl,rfl,hlen,fun hn=>absurd rfl (hn p hp),rfl⟩
  ·exact ⟨lM _ _,Mm _ _,Us _ _,rfl,rfl,Mq _ _,fun _=>rfl,Mo _ _⟩
 have fpF:∀b∈fp,∀i ob g,look s.o G i ob g->ob.live=true->g.F b->i∈u:=fun b hb i ob g hl hlive hF=>by
  obtain ⟨j,oj,gj,hj,hlj,hjl,OX⟩:=JU b hb
  have:=rr.apart i j _ _ _ _ b hl hlj hlive hjl hF OX
  rw [this];exact hj
 have CQ:∀i ob g b,look s.o G i ob g->ob.live=true->g.F b->i∉u->w'.heap[b]? =w.heap[b]?:=fun i ob g b hl hlive hF hiu=>
  mJ b (rr.fresh _ _ _ b hl hlive hF).2 (fun hm=>hiu (fpF b hm i ob g hl hlive hF))
 have noU:∀i,i∉u->∀p∈L,p.i≠i:=fun i hi p hp e=>hi ((PV i).2 ⟨p,hp,e⟩)
 let Er:Env:={env B s.o G w with D:=fun i b=>i∉u/\(env B s.o G w).D i b}
 have xh:lL (gM u) true (env B s.o G w) Er (fun _=>True):=by
  refine ⟨fun t e=>by simp [gM] at e,fun t e=>by simp only [gM,Option.some.injEq] at e;exact ⟨e.symm,fun b hb=>hb⟩,fun i t e=> ?_,fun _ _ _ _ h=>h,fun _ _ _ _ _ _ h=>h⟩
  simp only [gM] at e
  split at e
  ·cases e
  ·rename_i hiu
   obtain rfl:=Option.some.inj e
   refine ⟨by simp,?_,fun b hb=>⟨hiu,hb⟩⟩
   by_cases hV:(env B s.o G w).V i
   ·exact .inl hV
   ·exact .inr hV
 have k2:dU w Er w' (env B o' G' w'):=by
  refine ⟨fun b hb=> ?_,fun i h ob uW=> ?_,fun i b hV h=> ?_,fun i bN x h=> ?_,fun i bN j q x h=> ?_⟩
  ·have hb':(env B s.o G w).A b:=hb
   have hbl:=sP rr hb'
   have hnf:b∉fp:=fun hm=>by
    obtain ⟨i,ob,g,_,hl,hlive,hF⟩:=JU b hm
    exact hb'.2 i ob g hl hlive hF
   refine ⟨⟨?_,fun i dY g' hl hlive hF=> ?_⟩,mJ b hbl hnf⟩
   ·rcases hb'.1 with h|h
    ·exact .inl h
    ·exact .inr ⟨h.1,by omega⟩
   ·obtain ⟨ob,g,hl0,⟨p,hp,_,rfl,rfl⟩|⟨_,rfl,rfl⟩⟩:=lk hl
    ·have:=hfr b (Lp.2 ⟨p,hp,hF⟩)
     rcases this.1 with h|h
     ·exact hnf h
     ·omega
    ·refine hb'.2 i ob g' hl0 ?_ hF
     rw [lM] at hlive;exact hlive
  ·have hi:i < G.length:=by rw [rr.len];exact (List.getElem?_eq_some_iff.1 uW).1
   obtain ⟨dY,g',hl,h1,_⟩:=kl (i:=i) (ob:=ob) (g:=G[i]) ⟨uW,getElem?_eq_getElem hi⟩
   rw [<-h1];exact h dY hl.1
  ·obtain ⟨hiu,ob,g,hl,hlive,hF,hne⟩:=h
   obtain ⟨dY,g',zS,h1,_,_,_,_,_,h7,_⟩:=kl hl
   obtain rfl:=h7 (noU i hiu)
   exact ⟨⟨dY,g',zS,by rw [h1];exact hlive,hF,hne⟩,CQ i ob g' b hl hlive hF hiu⟩
  ·obtain ⟨ob,g,hl,wW,hh,hz⟩:=h
   obtain ⟨dY,g',zS,h1,h2,h3,h4,h5,h6,_⟩:=kl hl
   exact ⟨dY,g',zS,by omega,fun hlive Pf=>by rw [h4,h5,h6];exact hh (by rw [<-h1];exact hlive) (by omega),hz⟩
  ·obtain ⟨ob,g,hl,wW,hh,hz⟩:=h
   obtain ⟨dY,g',zS,h1,h2,h3,h4,h5,h6,_,h8⟩:=kl hl
   exact ⟨dY,g',zS,by omega,fun hlive Pf=>by rw [h4,h3];exact hh (by rw [<-h1];exact hlive) (by omega),fun e e2 e3 e4 y hy=>⟨(hz (by rw [<-h8];exact e) e2 e3 e4 y hy).1,fun hlive Pf=>by rw [h5];exact (hz (by rw [<-h8];exact e) e2 e3 e4 y hy).2 (by rw [<-h1];exact hlive) (by omega)⟩⟩
 have tm:Rc w' (env B o' G' w') (wT (gM u) true s.t) a.tmps.toList []:=
  dF k2 _ _ _ (by simp) (uB xh _ _ _ (by simp) rr.tmps)
 have kn:dU w' jU w' (env B o' G' w').plain:=⟨fun _ h=>h.elim,fun _ _=>trivial,fun _ _ _ h=>h.elim,fun _ _ _ h=>h.elim,fun _ _ _ _ _ h=>h.elim⟩
 have rel:dN B ⟨wT (gM u) true s.t,o'⟩ G' a w':=by
  refine {len:=by rw [<-hG',<-ho',CL,CP];exact rr.len,defs:=rr.defs,ok:= ?_,apart:= ?_,fresh:= ?_,tmps:=tm,size:=Nat.le_trans rr.size hsz,frame:= ?_,base:=rr.base,same:=rr.same.trans CF}
  ·intro i dY g' hl hlive
   obtain ⟨ob,g,hl0,⟨p,hp,rfl,rfl,rfl⟩|⟨Ir,rfl,rfl⟩⟩:=lk hl
   ·obtain ⟨ob3,g3,xg,_,Et,hown,hlen⟩:=hL p hp
    obtain ⟨rfl,rfl⟩:=jI hl0 xg
    refine ⟨p.fp,?_,Uv hnd' p hp,fun b hb=>hb⟩
    simp only [Et,Env.of,Bool.false_eq_true,if_false]
    exact hown.keeps kn (fun _ _=>rfl)
   ·have hiu:i∉u:=fun h=>by
     obtain ⟨p,hp,e⟩:=(PV i).1 h
     exact Ir p hp e
    rw [lM] at hlive
    obtain ⟨wm,hown,Fe,Ll⟩:=rr.ok i ob g' hl0 hlive
    by_cases Et:ob.box=true
    ·simp only [Et,Env.of,if_true] at hown
     obtain ⟨hlen,hown⟩:=hown
     by_cases hall:yM ob.dK=true
     ·have xk:ob.forget u=ob:=by unfold aG.forget;simp [Et,hall]
      rw [xk]
      refine ⟨wm,?_,Fe,Ll⟩
      simp only [Et,Env.of,if_true]
      refine ⟨hlen,?_⟩
      rcases hown with h|⟨b,off,C,e,fz,xm,ha,hb,hz,h1,h2,h3,rfl,Xx⟩
      ·exact .inl h
      ·have hbs:=CQ i ob g' b hl0 hlive (Ll b (by simp)) hiu
       exact .inr ⟨b,off,C,e,fz,xm,ha,by rw [hbs];exact hb,hz,h1,h2,h3,rfl,kQ k2 _ _ _ _ _ hbs (fun x hx=>CQ i ob g' x hl0 hlive (Ll x (by simp [hx])) hiu) (wu hall Xx)⟩
     ·have xk:ob.forget u={ob with dK:=lD (gM u) true ob.dK}:=by unfold aG.forget;rw [if_pos Et,if_neg hall]
      rw [xk]
      rcases hown with ⟨h1,h2,h3⟩|⟨b,off,C,e,fz,xm,ha,hb,hz,h1,h2,h3,rfl,Xx⟩
      ·exact ⟨[],⟨by simp [jT];exact hlen,.inl ⟨by simp [h1,lD],h2,rfl⟩⟩,by simp,by simp⟩
      ·have Qs:=Ll b (by simp)
       have hbs:=CQ i ob g' b hl0 hlive Qs hiu
       refine ⟨[b],⟨by simp [jT];exact hlen,.inr ⟨b,off,C,e,fz,[],ha,by rw [hbs];exact hb,hz,h1,by simpa [jT] using h2,h3,rfl,?_⟩⟩,by simp,by simpa using Qs⟩
       simp only [Et,Env.of,if_true]
       exact kQ k2 _ _ _ _ _ hbs (by simp) (Es xh _ _ _ _ _ (by simp) Xx)
    ·have xn:ob.box=false:=by simpa using Et
     have xk:ob.forget u=ob:=by unfold aG.forget;simp [xn]
     rw [xk]
     refine ⟨wm,?_,Fe,Ll⟩
     simp only [xn,Env.of,Bool.false_eq_true,if_false] at hown⊢
     have kp:dU w (env B s.o G w).plain w' (env B o' G' w').plain:=k2.plain
     exact hown.keeps kp (fun b hb=>CQ i ob g' b hl0 hlive (Ll b hb) hiu)
  ·intro i j oi oj gi gj b hi hj hil hjl Fa Iz
   obtain ⟨J8,g1,hl1,c1⟩:=lk hi
   obtain ⟨ob2,g2,hl2,c2⟩:=lk hj
   have lv:∀{k:Nat} {ob dY:aG} {g g':CO},((∀p∈L,p.i≠k)/\dY=ob.forget u/\g'=g)->dY.live=true->ob.live=true:=by
    rintro k ob dY g g' ⟨_,rfl,_⟩ h
    rw [lM] at h;exact h
   rcases c1 with ⟨p,hp,hpi,rfl,rfl⟩|c1<;>rcases c2 with ⟨q,hq,hqi,rfl,rfl⟩|c2
   ·have:=Qv hnd' p hp q hq b Fa Iz
    rw [<-hpi,<-hqi,this]
   ·exfalso
    have aF0:=lv c2 hjl
    have bg:g2.F b:=by rw [<-c2.2.2];exact Iz
    rcases (hfr b (Lp.2 ⟨p,hp,Fa⟩)).1 with h|h
    ·have:=fpF b h j ob2 g2 hl2 aF0 bg
     obtain ⟨q,hq,e⟩:=(PV j).1 this
     exact c2.1 q hq e
    ·have:=(rr.fresh _ _ _ b hl2 aF0 bg).2;omega
   ·exfalso
    have aF1:=lv c1 hil
    have hF1:g1.F b:=by rw [<-c1.2.2];exact Fa
    rcases (hfr b (Lp.2 ⟨q,hq,Iz⟩)).1 with h|h
    ·have:=fpF b h i J8 g1 hl1 aF1 hF1
     obtain ⟨p,hp,e⟩:=(PV i).1 this
     exact c1.1 p hp e
    ·have:=(rr.fresh _ _ _ b hl1 aF1 hF1).2;omega
   ·refine rr.apart i j _ _ _ _ b hl1 hl2 (lv c1 hil) (lv c2 hjl) ?_ ?_
    ·rw [<-c1.2.2];exact Fa
    ·rw [<-c2.2.2];exact Iz
  ·intro i dY g' b hl hlive hF
   obtain ⟨ob,g,hl0,⟨p,hp,rfl,rfl,rfl⟩|⟨Ir,rfl,rfl⟩⟩:=lk hl
   ·have:=hfr b (Lp.2 ⟨p,hp,hF⟩)
    refine ⟨?_,this.2⟩
    rcases this.1 with h|h
    ·obtain ⟨j,oj,gj,_,hlj,hjl,OX⟩:=JU b h
     exact (rr.fresh _ _ _ b hlj hjl OX).1
    ·exact .inr (Nat.le_trans rr.size h)
   ·have uC:ob.live=true:=by rw [lM] at hlive;exact hlive
    have:=rr.fresh _ _ _ b hl0 uC hF
    exact ⟨this.1,by omega⟩
  ·intro b hb hO
   rw [<-rr.frame b hb hO]
   refine mJ b (Nat.lt_of_lt_of_le hb rr.size) (fun hm=> ?_)
   obtain ⟨j,oj,gj,_,hlj,hjl,OX⟩:=JU b hm
   rcases (rr.fresh _ _ _ b hlj hjl OX).1 with h|h
   ·exact hO h
   ·omega
 exact ⟨G',rel.put dst (by
  rcases hr with hr|rfl
  ·exact Mr hr RY
  ·simp only [R] at RY⊢
   obtain ⟨cs,e1,e2⟩:=RY
   cases cs with
   |nil=>exact ⟨[],e1,by simp [Rc]⟩
   |cons c cs=>simp [Rc] at e2)⟩
end
end Go.Aw

namespace Go.Aw
open List
inductive GA where
  | view (x : AV)
  | mE (x : AV)
  | pX (c c' : List AV)
def RG (w:World) (O:Nat->Prop):GA->Value->List Nat->Nat->Prop
 | .view x,v,fp,_=>fp=[]/\R w (oD w O) x v []
 | .mE x,v,fp,_=>R w (oD w O) x v fp
 | .pX c _,v,fp,cap=>∃b f,v= .pointer (some ⟨b,f,none⟩)/\rV w (oD w O) c.length [c] (some ⟨b,f,none⟩) cap fp
def BB (w:World) (O:Nat->Prop):List GA->List Value->List (List Nat)->List Nat->Prop
 |[],[],[],[]=>True
 |x::xs,v::vs,fp::fs,k::ks=>RG w O x v fp k/\BB w O xs vs fs ks
 |_,_,_,_=>False
def RP (w:World):GA->Value->List Nat->Nat->Prop
 | .pX c c',v,fp,cap=>∃b f,v= .pointer (some ⟨b,f,none⟩)/\rV w jU c.length [c'] (some ⟨b,f,none⟩) cap fp
 |_,_,fp,_=>fp=[]
def OY (w:World):List GA->List Value->List (List Nat)->List Nat->Prop
 |[],[],[],[]=>True
 |x::xs,v::vs,fp::fs,k::ks=>RP w x v fp k/\OY w xs vs fs ks
 |_,_,_,_=>False
def IJ (P:Program) [aD P] (f:FuncId) (args:List GA) (r:AV):Prop:=
 ∀(w:World) (vs:List Value) (qC:List (List Nat)) (gX:List Nat),aD.holds P w->(∀b∈qC.flatten,aD.low P<=b/\b < w.heap.size)->qC.flatten.Nodup->BB w (· ∈qC.flatten) args vs qC gX->
  Calls P f vs.toArray w fun e w'=>∃v fp zR,e= .returned v/\R w' jU r v fp/\OY w' args vs zR gX/\(zR.flatten++fp).Nodup/\
   (∀b∈zR.flatten++fp,(b∈qC.flatten\/w.heap.size<=b)/\b < w'.heap.size)/\w.heap.size<=w'.heap.size/\(∀b,b < w.heap.size->b∉qC.flatten->w'.heap[b]? =w.heap[b]?)/\lU w w'
mutual
def Ms (u:List Nat):AV->Bool
 | .obj i _=> !u.contains i
 | .ptr i _ _ _=> !u.contains i
 | .sl (.iQ i) _ _=> !u.contains i
 | .eH (.iQ i) _ _=> !u.contains i
 | .agg c=>Mt u c
 | .gV c=>Mt u c
 | .fn _ c=>Mt u c
 |_=>true
def Mt (u:List Nat):List AV->Bool
 |[]=>true
 |x::xs=>Ms u x&&Mt u xs
end
section
variable {P : Program} [aD P] {B : fG P} {s : AS} {G : List CO} {a : Act} {w : World}
theorem Uw (r:dN B s G a w) {Z:Nat->Prop} {u:List Nat} (hZ:∀b,Z b->Of s.o G u b) {b:Nat} (h:(env B s.o G w).A b):b < w.heap.size/\¬Z b:=
 ⟨sP r h,fun hz=>by
  obtain ⟨i,ob,g,_,hl,hlive,hF⟩:=hZ b hz
  exact h.2 i ob g hl hlive hF⟩
theorem Zm (r:dN B s G a w) {Z:Nat->Prop} {u:List Nat} (hZ:∀b,Z b->Of s.o G u b) {i:Nat} {ob:aG} {g:CO} (hl:look s.o G i ob g) (hlive:ob.live=true) (hi:i∉u) {b:Nat} (h:g.F b):b < w.heap.size/\¬Z b:=
 ⟨(r.fresh _ _ _ b hl hlive h).2,fun hz=>by
  obtain ⟨j,oj,gj,hj,hlj,hjl,hF⟩:=hZ b hz
  exact hi (r.apart i j _ _ _ _ b hl hlj hlive hjl h hF▸hj)⟩
theorem IK (r:dN B s G a w) {Z:Nat->Prop} {u:List Nat} (hZ:∀b,Z b->Of s.o G u b) (O:Nat->Prop) (hO:∀b,O b->b < w.heap.size/\¬Z b):lL (fun _=>some .view) false (env B s.o G w).plain (oD w Z) O where
 own t e:=by obtain rfl:=Option.some.inj e;exact ⟨by simp,fun b hb=>hO b hb⟩
 view t e:=by obtain rfl:=Option.some.inj e;exact ⟨rfl,fun b hb=>Uw r hZ hb⟩
 iQ i t e:=by obtain rfl:=Option.some.inj e;exact ⟨by simp,.inl trivial,fun b hb=>hb.elim⟩
 hh h:=by cases h
 hl h:=by cases h
theorem Ux (r:dN B s G a w) {Z:Nat->Prop} {u:List Nat} (hZ:∀b,Z b->Of s.o G u b) (box:Bool) (O:Nat->Prop) (hO:∀b,O b->b < w.heap.size/\¬Z b):lL EZ false ((env B s.o G w).of box) (oD w Z) O where
 own t e:=by obtain rfl:=Option.some.inj e;exact ⟨by simp,fun b hb=>hO b hb⟩
 view t e:=by obtain rfl:=Option.some.inj e;exact ⟨rfl,fun b hb=>Uw r hZ (by cases box<;>exact hb)⟩
 iQ i t e:=by cases e
 hh h:=by cases h
 hl h:=by cases h
theorem Sm (r:dN B s G a w) {Z:Nat->Prop} {u:List Nat} (hZ:∀b,Z b->Of s.o G u b) (g:Tg) (hg:∀i,g= .iQ i->i∉u) (O:Nat->Prop) (hO:∀b,O b->b < w.heap.size/\¬Z b):lL (fun _=>some .view) false ((env B s.o G w).sub g) (oD w Z).plain O:=by
 cases g with
 |own=>exact IK r hZ O hO
 |view=>exact IK r hZ O hO
 |iQ i=>exact
  {own:=fun t e=>by obtain rfl:=Option.some.inj e;exact ⟨by simp,fun b hb=>hO b hb⟩
   view:=fun t e=>by obtain rfl:=Option.some.inj e;exact ⟨rfl,fun b hb=>Uw r hZ hb⟩
   iQ:=fun j t e=>by
    obtain rfl:=Option.some.inj e
    refine ⟨by simp,.inl trivial,fun b hb=> ?_⟩
    obtain ⟨rfl,ob,g,hl,hlive,hF,_⟩:=hb
    exact Zm r hZ hl hlive (hg _ rfl) hF
   hh:=fun h=>by cases h
   hl:=fun h=>by cases h}
theorem Xy (r:dN B s G a w) {Z:Nat->Prop} {u:List Nat} (hZ:∀b,Z b->Of s.o G u b) {g:Tg} (hg:∀i,g= .iQ i->i∉u) {b:Nat} (h:(env B s.o G w).tg g b):b < w.heap.size/\¬Z b:=by
 cases g with
 |own=>exact h.elim
 |view=>exact Uw r hZ h
 |iQ i=>obtain ⟨ob,g,hl,hlive,hF,_⟩:=h;exact Zm r hZ hl hlive (hg _ rfl) hF
theorem Fg (r:dN B s G a w) {Z:Nat->Prop} {u:List Nat} (hZ:∀b,Z b->Of s.o G u b) {g:Tg} (hg:∀i,g= .iQ i->i∉u) {n:Nat} {l:List (List AV)} {v:Value} (hd:¬(env B s.o G w).dead g) (h:R w (env B s.o G w) (.sl g n l) v []):
  R w (oD w Z) (.sl .view n (lD (fun _=>some .view) false l)) v []:=by
 simp only [R,jT] at h⊢
 rcases h with h|⟨x,cap,hv,hl,h⟩
 ·exact absurd h.1 hd
 refine .inr ⟨x,cap,hv,hl,.inr (.inr ⟨by simp,trivial,?_⟩)⟩
 rcases h with ⟨_,rfl,_⟩|⟨_,b,off,C,ty,fz,nQ,ha,hb,hz,h1,h2,h3,FY,hr⟩|⟨hg',_,h⟩
 ·exact .inl rfl
 ·cases FY
 ·rcases h with rfl|⟨b,off,ha,ht,hr⟩
  ·exact .inl rfl
  ·exact .inr ⟨b,off,ha,Xy r hZ hg ht,Es (Sm r hZ g hg (fun _=>False) (fun _ h=>h.elim)) _ _ _ _ _ (by simp) hr⟩
mutual
theorem xq (r:dN B s G a w) {Z:Nat->Prop} {u:List Nat} (hZ:∀b,Z b->Of s.o G u b):∀(av:AV) (v:Value),Ms u av=true->R w (env B s.o G w) av v []->R w (oD w Z) (arg s.o av) v []
 | .obj i bN,v,ha,h=>by
  have hiu:i∉u:=by simpa [Ms] using ha
  cases uW:AV.isObj s.o i bN with
  |none=>simp [arg,uW,R]
  |some ob=>
   simp only [arg,uW]
   by_cases hb:ob.box=true
   ·simp [hb,R]
   simp only [R] at h
   obtain ⟨_,dY,g,hl,_,hh,_⟩:=h
   obtain ⟨h1,h2,h3⟩:=jG uW
   obtain rfl:=Option.some.inj (hl.1.symm.trans h1)
   have hv:=hh h2 h3
   obtain ⟨fp,⟨hlen,hown⟩,hnd,hF⟩:=r.ok i _ g hl h2
   have hb':dY.box=false:=by simpa using hb
   rw [hb'] at hown
   simp only [hb',Bool.false_eq_true,if_false]
   simp only [R,jT]
   refine .inr ⟨g.a,g.cap,hv,⟨hlen,by rcases hown with h|⟨_,_,_,_,_,_,_,_,_,_,h,_⟩;simp [h.1];exact h⟩,.inr (.inr ⟨by simp,trivial,?_⟩)⟩
   rcases hown with ⟨h5,_⟩|⟨b,off,C,e,fz,nQ,ha,hbk,hz,k1,k2,k3,rfl,hr⟩
   ·left;rw [h5];rfl
   ·right
    have hlt:∀x∈b::nQ,x < w.heap.size/\¬Z x:=fun x hx=>Zm r hZ hl h2 hiu (hF x hx)
    exact ⟨b,off,ha,hlt b (by simp),Es (IK r hZ (fun x=>x < w.heap.size/\¬Z x) (fun _ h=>h)) _ _ _ _ nQ (fun x hx=>hlt x (by simp [hx])) hr⟩
 | .ptr i bN idx off,v,ha,h=>by
  have hiu:i∉u:=by simpa [Ms] using ha
  cases uW:AV.isObj s.o i bN with
  |none=>simp [arg,uW,R]
  |some ob=>
   simp only [arg,uW]
   cases he:ob.dK[idx]? with
   |none=>simp [R]
   |some e=>
    simp only [R] at h⊢
    obtain ⟨_,dY,g,hl,_,hh,_⟩:=h
    obtain ⟨h1,h2,h3⟩:=jG uW
    obtain rfl:=Option.some.inj (hl.1.symm.trans h1)
    obtain ⟨b,f,ha,hv⟩:=hh h2 h3
    obtain ⟨fp,⟨_,hown⟩,hnd,hF⟩:=r.ok i _ g hl h2
    have hlt:∀x∈fp,x < w.heap.size/\¬Z x:=fun x hx=>Zm r hZ hl h2 hiu (hF x hx)
    rcases hown with ⟨h5,_⟩|⟨b',f',C,ty,fz,nQ,tZ,hbk,hz,k1,k2,k3,rfl,hr⟩
    ·rw [h5] at he;simp at he
    ·rw [ha] at tZ
     simp only [Option.some.injEq,Addr.mk.injEq,and_true] at tZ
     obtain ⟨rfl,rfl⟩:=tZ
     obtain ⟨f1,f2,f3,cs,rfl,hn,hc,hone,rW,_,_⟩:=wX hr he
     refine .inr ⟨trivial,b,f+idx * dY.n,cs,?_,hlt b (by simp),hc,hone,?_⟩
     ·rw [hv,Nat.add_assoc]
     ·have:=uB (Ux r hZ dY.box (fun x=>x < w.heap.size/\¬Z x) (fun _ h=>h)) e cs f2 (fun x hx=>hlt x (by simp [hx])) rW
      exact dF (w:=w) (w':=w) (E:=oD w Z) (E':=(oD w Z).sub .view) ⟨fun _ h=>⟨h,rfl⟩,fun _ _=>trivial,fun _ _ _ h=>h.elim,fun _ _ _ h=>h.elim,fun _ _ _ _ _ h=>h.elim⟩ _ _ _ (by simp) this
 | .agg c,v,ha,h=>by
  simp only [R,arg] at h⊢
  obtain ⟨cs,hv,hone,hr⟩:=h
  exact ⟨cs,hv,hone,Lr r hZ c cs (by simpa [Ms] using ha) hr⟩
 | .gV c,v,ha,h=>by
  simp only [R,arg] at h⊢
  obtain ⟨cs,hv,hr⟩:=h
  exact ⟨cs,hv,Lr r hZ c cs (by simpa [Ms] using ha) hr⟩
 | .fn f c,v,ha,h=>by
  simp only [R,arg] at h⊢
  obtain ⟨h1,cs,hv,hr⟩:=h
  exact ⟨trivial,cs,hv,Lr r hZ c cs (by simpa [Ms] using ha) hr⟩
 | .int k n,v,_,h=>by simpa [arg,R] using h
 | .bool b,v,_,h=>by simpa [arg,R] using h
 | .str x,v,_,h=>by simpa [arg,R] using h
 | .sl .own n l,v,_,h=>by simp only [arg];exact Fg r hZ (g:= .own) (by simp) (fun h=>h) h
 | .sl .view n l,v,_,h=>by simp only [arg];exact Fg r hZ (g:= .view) (by simp) (fun h=>h) h
 | .sl (.iQ i) n l,v,ha,h=>by
  have hiu:i∉u:=by simpa [Ms] using ha
  simp only [arg]
  cases ho:s.o[i]? with
  |none=>simp [R]
  |some ob=>
   simp only
   by_cases hlive:ob.live=true
   ·rw [if_pos hlive]
    exact Fg r hZ (g:= .iQ i) (by simpa using hiu) (fun hd=>hd (fun dY tY=>by rw [ho] at tY;obtain rfl:=Option.some.inj tY;exact hlive)) h
   ·rw [if_neg hlive];simp [R]
 | .eH .own c off,v,_,h=>by
  simp only [R] at h
  rcases h with h|⟨_,b,o,cs,hv,ht,_⟩
  ·exact h.1.elim
  ·exact ht.elim
 | .eH .view c off,v,_,h=>by
  simp only [arg]
  simp only [R] at h⊢
  rcases h with h|⟨_,b,o,cs,hv,ht,hcs,hone,hr⟩
  ·exact h.1.elim
  ·exact .inr ⟨trivial,b,o,cs,hv,Xy r hZ (g:= .view) (by simp) ht,hcs,hone,uB (Sm r hZ .view (by simp) (fun _=>False) (fun _ h=>h.elim)) _ _ _ (by simp) hr⟩
 | .eH (.iQ i) c off,v,ha,h=>by
  have hiu:i∉u:=by simpa [Ms] using ha
  simp only [arg]
  cases ho:s.o[i]? with
  |none=>simp [R]
  |some ob=>
   simp only
   by_cases hlive:ob.live=true
   ·rw [if_pos hlive]
    simp only [R] at h⊢
    rcases h with h|⟨_,b,o,cs,hv,ht,hcs,hone,hr⟩
    ·exact absurd (fun dY tY=>by rw [ho] at tY;obtain rfl:=Option.some.inj tY;exact hlive) h.1
    ·exact .inr ⟨trivial,b,o,cs,hv,Xy r hZ (g:= .iQ i) (by simpa using hiu) ht,hcs,hone,uB (Sm r hZ (.iQ i) (by simpa using hiu) (fun _=>False) (fun _ h=>h.elim)) _ _ _ (by simp) hr⟩
   ·rw [if_neg hlive];simp [R]
 | .undef,v,_,_=>by simp [arg,R]
theorem Lr (r:dN B s G a w) {Z:Nat->Prop} {u:List Nat} (hZ:∀b,Z b->Of s.o G u b):∀(c:List AV) (cs:List Value),Mt u c=true->Rc w (env B s.o G w) c cs []->Rc w (oD w Z) (zP s.o c) cs []
 |[],[],_,_=>by simp [zP,Rc]
 |[],_::_,_,h=>by simp [Rc] at h
 |_::_,[],_,h=>by simp [Rc] at h
 |x::xs,c::cs,ha,h=>by
  simp only [Rc] at h
  simp only [Mt,Bool.and_eq_true] at ha
  obtain ⟨f1,f2,h1,h2,e⟩:=h
  obtain ⟨rfl,rfl⟩:f1=[]/\f2=[]:=by simpa using e
  simp only [zP,Rc]
  exact ⟨[],[],xq r hZ x c ha.1 h1,Lr r hZ xs cs ha.2 h2,rfl⟩
end
mutual
theorem xu (r:dN B s G a w) {k:Nat} {ok:aG} {gk:CO} (hlk:look s.o G k ok gk) (hk:ok.live=true):∀(av:AV) (v:Value) (fp:List Nat),iT s.o av=true->(lI av).Nodup->k∉lI av->fp.Nodup->(∀b∈fp,gk.F b)->R w (env B s.o G w) av v fp->
  ∃wV,R w (env B s.o G w).plain (res s.o av) v wV/\wV.Nodup/\∀b∈wV,b∈fp\/Of s.o G (lI av) b
 | .obj i bN,v,fp,ho,hu,_,_,_,h=>by
  have hf:fp=[]:=by simp only [R] at h;exact h.1
  subst hf
  obtain ⟨wV,h1,h2,h3⟩:=JO r _ v ho hu h
  exact ⟨wV,h1,h2,fun b hb=> .inr (h3 b hb)⟩
 | .agg c,v,fp,ho,hu,xw,hn,hF,h=>by
  simp only [R] at h
  obtain ⟨cs,rfl,hone,hr⟩:=h
  obtain ⟨wV,h1,h2,h3⟩:=Gh r hlk hk c cs fp (by simpa [iT] using ho) (by simpa [lI] using hu) (by simpa [lI] using xw) hn hF hr
  exact ⟨wV,by simp only [res,R];exact ⟨cs,rfl,hone,h1⟩,h2,by simpa [lI] using h3⟩
 | .gV c,v,fp,ho,hu,xw,hn,hF,h=>by
  simp only [R] at h
  obtain ⟨cs,rfl,hr⟩:=h
  obtain ⟨wV,h1,h2,h3⟩:=Gh r hlk hk c cs fp (by simpa [iT] using ho) (by simpa [lI] using hu) (by simpa [lI] using xw) hn hF hr
  exact ⟨wV,by simp only [res,R];exact ⟨cs,rfl,h1⟩,h2,by simpa [lI] using h3⟩
 | .int k n,v,fp,_,_,_,hn,_,h=>⟨fp,by simpa [res,R] using h,hn,fun b hb=> .inl hb⟩
 | .bool b,v,fp,_,_,_,hn,_,h=>⟨fp,by simpa [res,R] using h,hn,fun b hb=> .inl hb⟩
 | .str x,v,fp,_,_,_,hn,_,h=>⟨fp,by simpa [res,R] using h,hn,fun b hb=> .inl hb⟩
 | .sl .own n l,v,fp,_,_,_,hn,_,h=>⟨fp,by simp only [res];rw [oV] at h⊢;exact h,hn,fun b hb=> .inl hb⟩
 | .sl .view n l,v,fp,_,_,_,hn,_,h=>⟨fp,by simp only [res,R] at h⊢;exact h,hn,fun b hb=> .inl hb⟩
 | .sl (.iQ i) n l,v,fp,ho,_,_,_,_,h=>by simp [iT] at ho
 | .eH .view c off,v,fp,_,_,_,hn,_,h=>⟨fp,by simp only [res,R] at h⊢;exact h,hn,fun b hb=> .inl hb⟩
 | .eH .own c off,v,fp,ho,_,_,_,_,h=>by simp [iT] at ho
 | .eH (.iQ _) c off,v,fp,ho,_,_,_,_,h=>by simp [iT] at ho
 | .ptr _ _ _ _,v,fp,ho,_,_,_,_,h=>by simp [iT] at ho
 | .fn f [],v,fp,_,_,_,hn,_,h=>⟨fp,by simp only [res,R] at h⊢;obtain ⟨h1,cs,h2,h3⟩:=h;refine ⟨h1,cs,h2,?_⟩;cases cs<;>simp_all [Rc],hn,fun b hb=> .inl hb⟩
 | .fn f (_::_),v,fp,ho,_,_,_,_,h=>by simp [iT] at ho
 | .undef,v,fp,_,_,_,hn,_,h=>⟨fp,by simpa [res,R] using h,hn,fun b hb=> .inl hb⟩
theorem Gh (r:dN B s G a w) {k:Nat} {ok:aG} {gk:CO} (hlk:look s.o G k ok gk) (hk:ok.live=true):∀(c:List AV) (cs:List Value) (fp:List Nat),kV s.o c=true->(iR c).Nodup->k∉iR c->fp.Nodup->(∀b∈fp,gk.F b)->Rc w (env B s.o G w) c cs fp->
  ∃wV,Rc w (env B s.o G w).plain (qQ s.o c) cs wV/\wV.Nodup/\∀b∈wV,b∈fp\/Of s.o G (iR c) b
 |[],[],fp,_,_,_,hn,_,h=>⟨fp,by simpa [qQ,Rc] using h,hn,fun b hb=> .inl hb⟩
 |[],_::_,_,_,_,_,_,_,h=>by simp [Rc] at h
 |_::_,[],_,_,_,_,_,_,h=>by simp [Rc] at h
 |x::xs,c::cs,fp,ho,hu,xw,hn,hF,h=>by
  simp only [Rc] at h
  obtain ⟨g1,g2,h1,h2,rfl⟩:=h
  simp only [kV,Bool.and_eq_true] at ho
  simp only [iR,nodup_append] at hu
  simp only [iR,mem_append,not_or] at xw
  have bz:=nodup_append.1 hn
  obtain ⟨f1,k1,n1,o1⟩:=xu r hlk hk x c g1 ho.1 hu.1 xw.1 bz.1 (fun b hb=>hF b (mem_append_left _ hb)) h1
  obtain ⟨f2,k2,n2,o2⟩:=Gh r hlk hk xs cs g2 ho.2 hu.2.1 xw.2 bz.2.1 (fun b hb=>hF b (mem_append_right _ hb)) h2
  have aJz:∀(u:List Nat) (b:Nat),k∉u->gk.F b->Of s.o G u b->False:=by
   rintro u b xw hFb ⟨i,ob,g,hi,hl,hlive,PR⟩
   exact xw (r.apart k i _ _ _ _ b hlk hl hk hlive hFb PR▸hi)
  refine ⟨f1++f2,by simp only [qQ,Rc];exact ⟨f1,f2,k1,k2,rfl⟩,?_,?_⟩
  ·refine nodup_append.2 ⟨n1,n2,fun b hb b' hb' e=> ?_⟩
   subst e
   rcases o1 b hb with p1|p1<;>rcases o2 b hb' with p2|p2
   ·exact bz.2.2 b p1 b p2 rfl
   ·exact aJz _ b xw.2 (hF b (mem_append_left _ p1)) p2
   ·exact aJz _ b xw.1 (hF b (mem_append_right _ p2)) p1
   ·obtain ⟨i,ob,g,hi,hl,hlive,hF1⟩:=p1
    obtain ⟨j,dY,g',hj,zS,uC,bg⟩:=p2
    exact hu.2.2 i hi j hj (r.apart i j _ _ _ _ b hl zS hlive uC hF1 bg)
  ·intro b hb
   rcases mem_append.1 hb with hb|hb
   ·rcases o1 b hb with h|⟨i,ob,g,hi,h⟩
    ·exact .inl (mem_append_left _ h)
    ·exact .inr ⟨i,ob,g,by simp [iR,hi],h⟩
   ·rcases o2 b hb with h|⟨i,ob,g,hi,h⟩
    ·exact .inl (mem_append_right _ h)
    ·exact .inr ⟨i,ob,g,by simp [iR,hi],h⟩
end
end
end Go.Aw

namespace Go.Aw
open List
def fC (l:List UInt8):List (List AV):=l.map fun c=>[.int .u8 c.toNat]
theorem oF (l:List UInt8):(fC l).length=l.length:=length_map _
theorem Uy {w:World} {E:Env} {b:Nat}:∀(l:List UInt8) (off:Nat),(∀(j:Nat) (c:UInt8),l[j]? =some c->w.cell? ⟨b,off+j,none⟩=some (.int .u8 c.toNat))->Rr w E (fC l) b off 1 []
 |[],_,_=>by simp [fC,Rr]
 |c::l,off,h=>by
  simp only [fC,map_cons,Rr]
  refine ⟨[.int .u8 c.toNat],[],[],rfl,fun j v hv=> ?_,by simp [Value.oneCell'],by simp [Rc,R],Uy l (off+1) (fun j c' hc=> ?_),rfl⟩
  ·cases j with
   |zero=>simp only [getElem?_cons_zero,Option.some.injEq] at hv;subst hv;exact h 0 c rfl
   |succ j=>simp at hv
  ·have:=h (j+1) c' (by simpa using hc)
   rwa [show off+1+j=off+(j+1) by omega]
section
variable {P : Program} [aD P] {B : fG P} {s : AS} {dst : Option Tmp} {ty : TypeId} {pos : String} {after : Array Edge} {gd : Option (Nat × Bool)}
theorem XB (src d:TypeId) (x:Operand) {l:List UInt8} {e:TypeId} {by':Nat} (hx:s.ev x= .str l) (hs:isString P src=true) (hd:gD P d=some (e,1,by')) (he:intType P e=some .u8) (hl:l.length<=9223372036854775807):
  Step P B ⟨dst,.convert src d x,ty,pos,after,gd⟩ s (s.made dst 1 (fC l)):=
 oC fun G a w r=>by
  obtain ⟨hu,_⟩:=nT hd
  have hue:P.underlying e=some (.int .u8):=by
   unfold intType at he
   split at he
   ·rename_i k hk;rw [hk];simpa using he
   ·cases he
  have hrun:=Lib.run_convert_string_bytes w src d e ⟨l.toArray⟩ (lZ hs) hu hue
  have hsz:(⟨l.toArray⟩:ByteArray).size=l.length:=by simp [ByteArray.size]
  rw [hsz] at hrun
  have hge:l.length<=grownCap w l.length 0 e:=grownCap_ge _ _ _ _
  have hle:grownCap w l.length 0 e<=maxLen:=grownCap_le_maxLen _ _ _ _ (by simpa [maxLen] using hl)
  have hnew:=Lib.bytesWorld_at_new w e ⟨l.toArray⟩
  have hbs:=Lib.bytesWorld_size w e ⟨l.toArray⟩
  have hold:=Lib.bytesWorld_at_old w e ⟨l.toArray⟩
  have hC:Lib.bytesCells w e ⟨l.toArray⟩=(l.map fun c=>Value.int .u8 c.toNat).toArray++Array.replicate (grownCap w l.length 0 e - l.length) (.int .u8 0):=by
   simp [Lib.bytesCells,hsz]
  have GM:(Lib.bytesCells w e ⟨l.toArray⟩).size=grownCap w l.length 0 e:=by rw [hC];simp;omega
  have hsm:lU w (Lib.bytesWorld w e ⟨l.toArray⟩):=⟨rfl,rfl,rfl⟩
  generalize sQ:grownCap w l.length 0 e=cap at *
  generalize hw:Lib.bytesWorld w e ⟨l.toArray⟩=w' at *
  have hadd:=r.add [⟨true,false,1,1,fC l⟩] [⟨some ⟨w.heap.size,0,none⟩,cap,fun b=>b=w.heap.size⟩] w' rfl (by omega) (fun b hb=>hold b hb)
   (by
    rintro j ob g b ⟨h1,h2⟩ _ hf
    cases j with
    |zero=>simp at h2;subst h2;simp at hf;subst hf;omega
    |succ j=>simp at h2)
   (by
    rintro i j _ _ _ _ b ⟨h1,_⟩ ⟨h2,_⟩ _ _ _ _
    cases i<;>cases j<;>simp_all)
   (by
    rintro k j ob g ⟨h1,h2⟩ _
    cases j with
    |zero=>
     simp at h1 h2
     subst h1;subst h2
     refine ⟨[w.heap.size],⟨by simp only [oF];exact Nat.le_trans hge hle,.inr ⟨w.heap.size,0,_,e,_,[],rfl,hnew,.inl ⟨Nat.le_refl _,rfl⟩,by show 0+cap * 1<=_;rw [GM];omega,by simp only [oF];exact hge,hle,rfl,?_⟩⟩,by simp,by simp⟩
     refine Uy l 0 fun j c hc=> ?_
     have hj:=(List.getElem?_eq_some_iff.1 hc).1
     have h3:(Lib.bytesCells w e ⟨l.toArray⟩)[j]? =some (.int .u8 c.toNat):=by
      rw [hC,Array.getElem?_append_left (by simpa using hj)]
      simp [hc]
     simp only [World.cell?,hnew,Nat.zero_add]
     exact h3
    |succ j=>simp at h1)
   hsm
  refine ⟨.slice (some ⟨w.heap.size,0,none⟩) l.length cap,w',by simp only [execOp,r.Uj hx,Sem.run_bind,hrun,Result.andThen_ok,Sem.run_pure],_,hadd.1.put dst ?_⟩
  simp only [R]
  refine ⟨trivial,⟨true,false,1,1,fC l⟩,⟨some ⟨w.heap.size,0,none⟩,cap,fun b=>b=w.heap.size⟩,?_,Nat.le_refl _,⟨fun _ _=>by simp [oF],fun h=>by omega⟩⟩
  have:=mM (i:=0) (o:=s.o) (G:=G) (o2:=[⟨true,false,1,1,fC l⟩]) (G2:=[⟨some ⟨w.heap.size,0,none⟩,cap,fun b=>b=w.heap.size⟩]) r.len ⟨rfl,rfl⟩
  simpa using this
end
end Go.Aw
