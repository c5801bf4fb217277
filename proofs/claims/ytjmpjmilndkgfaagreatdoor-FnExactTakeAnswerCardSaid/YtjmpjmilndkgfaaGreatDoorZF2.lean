/- Proved here: steps towards the statement of this claim. No condition. -/
import Derived.Test.YtjmpjmilndkgfaaGreatDoorZF1
import Derived.Lib.ConvBytes
set_option linter.all false
namespace Go.Aw
open List
def AV.MC:AV->Bool
 | .undef=>false
 | .iJ _=>false
 | .agg _=>false
 | .obj _ _=>false
 | .ptr _ _ _ _=>false
 | .sl (.jZ _) _ _=>false
 | .gD (.jZ _) _ _=>false
 | .fn _ (_::_)=>false
 |_=>true
theorem aFx {w:World} {E E':Env} (hA:∀b,E.A b->E'.A b) {x:AV} {v:Value} (hs:x.MC=true) (h:R w E x v []):R w E' x v []:=by
 cases x with
 |int _ _=>simpa [R] using h
 |bool _=>simpa [R] using h
 |str _=>simpa [R] using h
 |sl g n l=>
  cases g with
  |own=>
   rw [rH] at h⊢;obtain ⟨a,cap,hv,hl,h⟩:=h;refine ⟨a,cap,hv,hl,.inl ?_⟩;rcases h with h|⟨_,_,_,_,_,_,_,_,_,_,_,_,hf,_⟩
   .exact h
   .cases hf
  |view=>refine oN (w:=w) (E:=E.plain) (E':=E') ⟨λb h=>⟨hA b h,rfl⟩,λ_ _=>trivial,λ_ _ _ h=>h.elim,λ_ _ _ h=>h.elim,λ_ _ _ _ _ h=>h.elim⟩ _ _ _ (by simp) ?_;simp only [R] at h⊢;exact h
  |jZ i=>cases hs
 |gD g c off=>
  cases g with
  |own=>simp only [R] at h;rcases h with h|⟨_,_,_,_,_,h,_⟩;exact h.1.elim;exact h.elim
  |view=>refine oN (w:=w) (E:=E.plain) (E':=E') ⟨λb h=>⟨hA b h,rfl⟩,λ_ _=>trivial,λ_ _ _ h=>h.elim,λ_ _ _ h=>h.elim,λ_ _ _ _ _ h=>h.elim⟩ _ _ _ (by simp) ?_;simp only [R] at h⊢;exact h
  |jZ i=>cases hs
 |obj _ _=>cases hs
 |ptr _ _ _ _=>cases hs
 |agg _=>cases hs
 |iJ _=>cases hs
 |fn f c=>
  cases c with
  |nil=>simp only [R] at h⊢;obtain ⟨h1,cs,h2,h3⟩:=h;refine ⟨trivial,cs,h2,?_⟩;cases cs<;>simp_all [Rc]
  |cons _ _=>cases hs
 |undef=>cases hs
theorem XL {w:World} {E E':Env} (hA:∀b,E.A b->E'.A b):∀{c:List AV} {cs:List Value},c.all AV.MC=true->Rc w E c cs []->Rc w E' c cs []
 |[],[],_,_=>by simp [Rc]
 |[],_::_,_,h=>by simp [Rc] at h
 |_::_,[],_,h=>by simp [Rc] at h
 |x::xs,c::cs,hs,h=>by
  simp only [Rc] at h⊢;simp only [BY,eJ] at hs;obtain ⟨f1,f2,h1,h2,e⟩:=h;obtain ⟨rfl,rfl⟩:f1=[]/\f2=[]:=by simpa using e
  exact ⟨[],[],aFx hA hs.1 h1,XL hA hs.2 h2,rfl⟩
section
variable {P : Program} [aC P] {B : gN P} {s : AS} {dst : Option Tmp} {ty : TypeId} {pos : String} {after : Array Edge} {gd : Option (Nat × Bool)}
def AS.stored (s:AS) (i idx off:Nat) (ob:aM) (e c:List AV):AS:=⟨s.t,s.o.set i {ob with dR:=ob.dR.set idx (e.take off++c++e.drop (off+c.length))}⟩
theorem eP.stored {G:List CO} {a:Act} {w:World} (r:eP B s G a w) {i idx off:Nat} {ob:aM} {g:CO} {e c:List AV} {vs:List Value} (hl:Aw.look s.o G i ob g) (hlive:ob.live=true) (he:ob.dR[idx]? =some e)
  (hfit:off+c.length<=e.length) (uI:ob.box=true\/c.all AV.MC=true) (hone:∀x∈vs,x.oneCell'=true) (hr:Rc w (env B s.o G w) c vs []):
  ∃b f,g.a=some ⟨b,f,none⟩/\(storeCells ⟨b,f+(idx * ob.n+off),none⟩ vs).run P w= .ok () (w.setCells b (f+(idx * ob.n+off)) vs)/\
   eP B (s.stored i idx off ob e c) (G.set i g) a (w.setCells b (f+(idx * ob.n+off)) vs):=by
 obtain ⟨fp,hown,hnd,hF⟩:=r.ok i ob g hl hlive;have hvl:=gG hr;rcases hown with ⟨hlen,⟨h,_⟩|⟨b,f,C,ty,fz,pX,ha,hb,hz,h1,h2,h3,rfl,Wd⟩⟩
 .rw [h] at he;simp at he
 obtain ⟨f1,f2,f3,cs,hfe,hn,hc,XM,uY,hr1,hr3⟩:=zW Wd he;have zT:=gG uY;have aJp:idx < ob.dR.length:=(cH.1 he).1;have hmul:(idx+1) * ob.n<=g.cap * ob.n:=kO _ (by omega);have uu:(idx+1) * ob.n=idx * ob.n+ob.n:=by rw [pP];omega
 have aAk:f+(idx * ob.n+off)+vs.length<=C.size:=by omega
 refine ⟨b,f,ha,sG hb hz aAk hone,?_⟩;have UA:g.F b:=hF b (by simp);have Dy:∀b',b'≠b->(w.setCells b (f+(idx * ob.n+off)) vs).heap[b']? =w.heap[b']?:=λb' hne=>lS b b' hne _ _ _
 obtain ⟨C',hC',hCs⟩:=jL b ty fz vs (f+(idx * ob.n+off)) w C hb;have hm:=r.modify hl hlive {ob with dR:=ob.dR.set idx (e.take off++c++e.drop (off+c.length))} g (w.setCells b (f+(idx * ob.n+off)) vs) (eE _) rfl (λ_=>⟨rfl,rfl,by simp⟩) (λb hb=> .inl hb) (λb hb hne=>⟨hb,hne⟩)
  (λb' hlt hne=>Dy b' (λe=>hne ⟨e▸UA,⟨b,f,none⟩,ha,e⟩)) (by rw [gX];exact eE _) (λk _=>by
  generalize env B (s.o.set i {ob with dR:=ob.dR.set idx (e.take off++c++e.drop (off+c.length))}) (G.set i g) (w.setCells b (f+(idx * ob.n+off)) vs)=E' at k⊢;have kb:=k.of ob.box;obtain ⟨g1,g2,rfl,hc1,XC⟩:=sD off uY;obtain ⟨g3,g4,rfl,hc3,hc4⟩:=sD c.length XC;have hc':Rc w ((env B s.o G w).of ob.box) c vs []:=by
   cases GD:ob.box with
   |true=>exact hr
   |false=>
    rcases uI with h|h
    .rw [GD] at h;cases h
    .exact XL (E:=env B s.o G w) (E':=(env B s.o G w).of false) (λb hb=>hb) h hr
  subst hfe;have hsub:(f1++(g1++g4)++f3).Sublist (f1++(g1++(g3++g4))++f3):=((pS f1).append ((pS g1).append (sublist_append_right g3 g4))).append (pS f3);have hbn:b∉f1++(g1++(g3++g4))++f3:=(mA.1 hnd).1;have hold:∀x∈f1++(g1++g4)++f3,(w.setCells b (f+(idx * ob.n+off)) vs).heap[x]? =w.heap[x]?:=λx hx=>Dy x (λe=>hbn (hsub.subset (e▸hx)))
  have Hq:∀j,j < f+(idx * ob.n+off)\/f+(idx * ob.n+off)+vs.length<=j->(w.setCells b (f+(idx * ob.n+off)) vs).cell? ⟨b,j,none⟩=w.cell? ⟨b,j,none⟩:=λj hj=>AW b vs _ w _ (λ_ _=>hj)
  have hti:(ob.dR.take idx).length=idx:=by simp;omega
  refine ⟨b::(f1++(g1++g4)++f3),⟨by simpa using hlen,.inr ⟨b,f,C',ty,fz,_,ha,hC',by rw [hCs];exact hz,by rw [hCs];exact h1,by simpa using h2,h3,rfl,?_⟩⟩,?_,?_⟩
  .show Rr _ _ (ob.dR.set idx _) b f ob.n _;refine Uy (cs:=cs.take off++vs++cs.drop (off+vs.length)) aJp ?_ ?_ ?_ ?_ ?_ ?_
   .simp only [eR,oT,zE];omega
   .have hc1:bN w b (f+idx * ob.n) cs:=hc;have htl:(cs.take off).length=off:=by simp;omega
    refine bN.append.2 ⟨bN.append.2 ⟨?_,?_⟩,?_⟩
    .intro j v hv;have hj:=(cH.1 hv).1;rw [htl] at hj;rw [Hq _ (by omega)];exact hc1.take j v hv
    .intro j v hv;have hj:j < vs.length:=(cH.1 hv).1;rw [htl,oR f];have:=BE b vs (f+(idx * ob.n+off)) w (λj hj=>by
      have:f+(idx * ob.n+off)+j < C.size:=by omega
      simp [World.cell?,hb,this]) j hj
     rw [this];rw [aE hj] at hv;exact hv
    .intro j v hv;simp only [eR,htl];rw [Hq _ (by omega)];have:=hc1.drop (k:=off+vs.length) j v hv
     rwa [show f+idx * ob.n+(off+vs.length)+j=f+idx * ob.n+(off+vs.length)+j from rfl] at this
   .intro x hx;simp only [fL] at hx;rcases hx with (hx|hx)|hx
    .exact XM x (sC hx)
    .exact hone x hx
    .exact XM x (AK hx)
   .have e1:g1++g4=g1++[]++g4:=by simp
    rw [e1];refine mF (mF (dX kb _ _ _ (λx hx=>hold x (by simp [hx])) hc1) (dX kb _ _ _ (by simp) hc')) ?_;rw [<-hvl,<-At,<-At] at *;rw [hvl] at *;exact dX kb _ _ _ (λx hx=>hold x (by simp [hx])) hc4
   .refine Pf kb Hq (λx hx=>hold x (by simp [hx])) (.inl ?_) hr1
    rw [hti];omega
   .refine Pf kb Hq (λx hx=>hold x (by simp [hx])) (.inr ?_) hr3
    omega
  .refine mA.2 ⟨λh=>hbn (hsub.subset h),hsub.nodup (mA.1 hnd).2⟩
  .intro x hx;rcases lB.1 hx with rfl|hx
   .exact UA
   .exact hF x (AM _ (hsub.subset hx)))
 exact hm.1
def fB (P:Program) (t:TypeId):Option Nat:=(P.info? t).map (·.size)
theorem dh (t:TypeId) (x y:Operand) {i bY idx off:Nat} {ob:aM} {e:List AV} (hx:s.ev x= .ptr i bY idx off) (ho:AV.isObj s.o i bY=some ob) (he:ob.dR[idx]? =some e)
  (hfy:(s.ev y).fit s.o=true) (hsz:fB P t=some (s.ev y).cells.length) (hfit:off+(s.ev y).cells.length<=e.length) (uI:ob.box=true\/(s.ev y).cells.all AV.MC=true):
  Step P B ⟨dst,.store t x y,ty,pos,after,gd⟩ s ((s.stored i idx off ob e (s.ev y).cells).put dst .undef):=
 Pg λG a w r=>by
  obtain ⟨g,b,f,hl,hlive,ha,hv⟩:=r.ptr hx ho;have hc:=Ox hfy (r.ev y);obtain ⟨b',f',vK,hst,hrel⟩:=r.stored (P:=P) hl hlive he hfit uI hc.2.1 hc.1;rw [ha] at vK;simp only [eC,pA,rS] at vK;obtain ⟨rfl,rfl⟩:=vK;have hlen:=gG hc.1;refine ⟨_,?_,_,hrel.put dst (by simp [R])⟩;unfold fB at hsz;cases hi:P.info? t with
  |none=>simp [hi] at hsz
  |some inf=>
   simp only [hi,mS,eC] at hsz;have aAl:(a.eval y).cells.size=inf.size:=by rw [hsz];simpa using hlen
   simp [execOp,hv,Instr.storeAt,Instr.sureAddr,storeVar,sizeOf,typeInfo,hi,aAl,hst]
theorem qB {t e:TypeId} {n by':Nat} (h:iC P t=some (e,n,by')):P.underlying t=some (.slice e)/\∃i,P.info? e=some i/\i.size=n/\i.bytes=by':=by
 unfold iC at h;split at h
 .rename_i e' hu;cases hi:P.info? e' with
  |none=>simp [hi] at h
  |some i=>simp [hi] at h;obtain ⟨rfl,rfl,rfl⟩:=h;exact ⟨hu,i,hi,rfl,rfl⟩
 .cases h
theorem ME {t e:TypeId} {n by':Nat} (h:iC P t=some (e,n,by')) (b f len cap:Nat) (k:IntKind) (i:Int) (h0:0<=i) (h1:i < len) (w:World):
  (Instr.indexAt t (.slice (some ⟨b,f,none⟩) len cap) (.int k i)).run P w= .ok (.pointer (some ⟨b,f+i.toNat * n,none⟩)) w:=by
 obtain ⟨hu,inf,hi,hs,_⟩:=qB h;simp [Instr.indexAt,asIntOf,fY hu,h0,h1,sizeOf,typeInfo,hi,hs,addr_add]
theorem eP.di {G:List CO} {a:Act} {w:World} (r:eP B s G a w) {x:Operand} {i bY:Nat} {ob:aM} (hx:s.ev x= .obj i bY) (ho:AV.isObj s.o i bY=some ob):
  ∃g,Aw.look s.o G i ob g/\ob.live=true/\a.eval x= .slice g.a ob.dR.length g.cap:=by
 have h:=r.ev x;rw [hx] at h;simp only [R] at h;obtain ⟨_,fI,g,hl,_,hh,_⟩:=h;obtain ⟨h1,h2,h3⟩:=kY ho;obtain rfl:=cQ (hl.1.symm.trans h1);exact ⟨g,hl,h2,hh h2 h3⟩
theorem eP.HV {G:List CO} {a:Act} {w:World} (r:eP B s G a w) {x:Operand} {k:IntKind} {n:Int} (hx:s.ev x= .int k n):a.eval x= .int k n:=by have h:=r.ev x;rw [hx] at h;simp only [R] at h;exact h.1
theorem eP.XN {G:List CO} {a:Act} {w:World} (r:eP B s G a w) {x:Operand} {n:Bool} (hx:s.ev x= .bool n):a.eval x= .bool n:=by have h:=r.ev x;rw [hx] at h;simp only [R] at h;exact h.1
theorem eP.XO {G:List CO} {a:Act} {w:World} (r:eP B s G a w) {x:Operand} {n:List UInt8} (hx:s.ev x= .str n):a.eval x= .string ⟨n.toArray⟩:=by have h:=r.ev x;rw [hx] at h;simp only [R] at h;exact h.1
theorem Pp (t:TypeId) (x ix:Operand) {i bY:Nat} {ob:aM} {e:TypeId} {by':Nat} {k:IntKind} {n:Int} (hx:s.ev x= .obj i bY) (ho:AV.isObj s.o i bY=some ob) (hi:s.ev ix= .int k n)
  (ht:iC P t=some (e,ob.n,by')) (h0:0<=n) (h1:n < ob.dR.length) (GD:ob.box=false\/ob.bY≠2):Step P B ⟨dst,.indexAddr t x ix,ty,pos,after,gd⟩ s (s.put dst (.ptr i bY n.toNat 0)):=
 dY λG a w r=>by
  obtain ⟨g,hl,hlive,hv⟩:=r.di hx ho;have hlt:n.toNat < ob.dR.length:=by omega
  obtain ⟨b,f,cs,ha,_⟩:=r.elem hl hlive (aE hlt);refine ⟨.pointer (some ⟨b,f+n.toNat * ob.n,none⟩),?_,?_⟩
  .simp only [execOp,hv,ha,r.HV hi];simp [ME ht b f _ g.cap k n h0 h1]
  .simp only [R];obtain ⟨h1,h2,h3⟩:=kY ho;exact ⟨trivial,ob,g,hl,CH h3.symm,λ_ _=>⟨b,f,ha,by simp⟩,λe e2=>by rcases GD with GD|GD;(rw [GD] at e;cases e);exact absurd e2 (by omega)⟩
theorem aAm {o:List aM} {G:List CO} {w:World} {g:Tg} {n:Nat} {l:List (List AV)} (hf:(AV.sl g n l).fit o=true):¬(env B o G w).dead g:=by
 cases g with
 |own=>exact λh=>h
 |view=>exact λh=>h
 |jZ i=>
  simp only [AV.fit] at hf;refine λhd=>hd (λob uX=> ?_)
  simpa [uX] using hf
theorem eP.slv {G:List CO} {a:Act} {w:World} (r:eP B s G a w) {x:Operand} {g:Tg} {n:Nat} {l:List (List AV)} (hx:s.ev x= .sl g n l) (hf:(AV.sl g n l).fit s.o=true):
  ∃ad cap,a.eval x= .slice ad l.length cap/\(l.length<=maxLen/\l.length<=cap)/\((l=[]/\(g= .own->cap=0))\/∃b f,ad=some ⟨b,f,none⟩/\g≠ .own/\(env B s.o G w).tg g b/\Rr w ((env B s.o G w).sub g) l b f n []):=by
 have h:=r.ev x;rw [hx] at h;simp only [R] at h;rcases h with h|⟨ad,cap,hv,hl,h⟩
 .exact absurd h.1 (aAm hf)
 .refine ⟨ad,cap,hv,hl,?_⟩;rcases h with h|⟨_,_,_,_,_,_,_,_,_,_,_,_,_,Jh,_⟩|⟨hg,_,h⟩
  .exact .inl ⟨h.2.1,λ_=>h.2.2.1⟩
  .cases Jh
  .rcases h with h|⟨b,f,ha,ht,hr⟩
   .exact .inl ⟨h,λe=>absurd e hg⟩
   .exact .inr ⟨b,f,ha,hg,ht,hr⟩
theorem Tt (t:TypeId) (x ix:Operand) {g:Tg} {m:Nat} {l:List (List AV)} {e:TypeId} {by':Nat} {k:IntKind} {n:Int} {c:List AV} (hx:s.ev x= .sl g m l) (hf:(AV.sl g m l).fit s.o=true) (hi:s.ev ix= .int k n)
  (ht:iC P t=some (e,m,by')) (h0:0<=n) (hc:l[n.toNat]? =some c):Step P B ⟨dst,.indexAddr t x ix,ty,pos,after,gd⟩ s (s.put dst (.gD g c 0)):=
 dY λG a w r=>by
  obtain ⟨ad,cap,hv,hl,h⟩:=r.slv hx hf;have hlt:=(cH.1 hc).1;rcases h with ⟨h,_⟩|⟨b,f,rfl,hg,htg,hr⟩
  .rw [h] at hlt;simp at hlt
  .refine ⟨.pointer (some ⟨b,f+n.toNat * m,none⟩),?_,?_⟩
   .simp only [execOp,hv,r.HV hi];simp [ME ht b f l.length cap k n h0 (by omega)]
   .simp only [R];obtain ⟨f1,f2,f3,cs,hfe,hn,hcs,hone,uY,_,_⟩:=zW hr hc;have:f2=[]:=by have:=An length hfe;simp at this;exact lE (by omega)
    subst this;exact .inr ⟨trivial,b,f+n.toNat * m,cs,by simp,htg,hcs,hone,uY⟩
def aFz (P:Program) (t:TypeId):Option (Nat×Nat):=
 match P.underlying t with
 |some (.array n e)=>(P.info? e).map λi=>(n,i.size)
 |_=>none
theorem Pq (t:TypeId) (x ix:Operand) {i bY idx off len sz:Nat} {ob:aM} {k:IntKind} {n:Int} (hx:s.ev x= .ptr i bY idx off) (ho:AV.isObj s.o i bY=some ob) (hi:s.ev ix= .int k n)
  (ht:aFz P t=some (len,sz)) (h0:0<=n) (h1:n < len):Step P B ⟨dst,.indexAddr t x ix,ty,pos,after,gd⟩ s (s.put dst (.ptr i bY idx (off+n.toNat * sz))):=
 dY λG a w r=>by
  obtain ⟨g,b,f,hl,hlive,ha,hv⟩:=r.ptr hx ho;refine ⟨.pointer (some ⟨b,f+(idx * ob.n+(off+n.toNat * sz)),none⟩),?_,?_⟩
  .unfold aFz at ht;split at ht
   .rename_i n' e' hu;cases hi':P.info? e' with
    |none=>simp [hi'] at ht
    |some inf=>simp [hi'] at ht;obtain ⟨rfl,rfl⟩:=ht;simp [execOp,hv,r.HV hi,Instr.indexAt,asIntOf,fY hu,Instr.sureAddr,h0,h1,sizeOf,typeInfo,hi',addr_add,oR]
   .cases ht
  .simp only [R];obtain ⟨h1,h2,h3⟩:=kY ho;refine ⟨trivial,ob,g,hl,CH h3.symm,λ_ _=>⟨b,f,ha,rfl⟩,λe1 e2 e3 e4 y hy=> ?_⟩;have h0':off=0:=by omega
   have aQs:n.toNat * sz=0:=by omega
   have:=r.pin hx ho hl e1 e2 e3 h0' y hy;exact ⟨by rw [<-this.1,hv,h0',aQs],this.2⟩
def isSlice (P:Program) (t:TypeId):Bool:=match P.underlying t with|some (.slice _)=>true|_=>false
def isString (P:Program) (t:TypeId):Bool:=match P.underlying t with|some .string=>true|_=>false
theorem Jn {t:TypeId} (h:isSlice P t=true):∃e,P.underlying t=some (.slice e):=by
 unfold isSlice at h;split at h
 .rename_i e he;exact ⟨e,he⟩
 .cases h
theorem nU {t:TypeId} (h:isString P t=true):P.underlying t=some .string:=by
 unfold isString at h;split at h
 .assumption
 .cases h
theorem We (t:TypeId) (x:Operand) {i bY:Nat} {ob:aM} (hx:s.ev x= .obj i bY) (ho:AV.isObj s.o i bY=some ob) (ht:isSlice P t=true):
  Step P B ⟨dst,.call {callee:= .builtin .len,args:=#[x],argTypes:=#[t]},ty,pos,after,gd⟩ s (s.put dst (.int .i64 ob.dR.length)):=
 dY λG a w r=>by obtain ⟨g,hl,hlive,hv⟩:=r.di hx ho;obtain ⟨e,he⟩:=Jn ht;exact ⟨.int .i64 ob.dR.length,by simp [execOp,resolve,invoke,builtin,hv,Builtin.len_,fY he,goInt],by simp [R]⟩
theorem XP (t:TypeId) (x:Operand) {g:Tg} {n:Nat} {l:List (List AV)} (hx:s.ev x= .sl g n l) (hf:(AV.sl g n l).fit s.o=true) (ht:isSlice P t=true):
  Step P B ⟨dst,.call {callee:= .builtin .len,args:=#[x],argTypes:=#[t]},ty,pos,after,gd⟩ s (s.put dst (.int .i64 l.length)):=
 dY λG a w r=>by obtain ⟨ad,cap,hv,_⟩:=r.slv hx hf;obtain ⟨e,he⟩:=Jn ht;exact ⟨.int .i64 l.length,by simp [execOp,resolve,invoke,builtin,hv,Builtin.len_,fY he,goInt],by simp [R]⟩
theorem size_mk (l:List UInt8):(⟨l.toArray⟩:ByteArray).size=l.length:=by show l.toArray.size=_;simp
theorem Wh (t:TypeId) (x:Operand) {l:List UInt8} (hx:s.ev x= .str l) (ht:isString P t=true):
  Step P B ⟨dst,.call {callee:= .builtin .len,args:=#[x],argTypes:=#[t]},ty,pos,after,gd⟩ s (s.put dst (.int .i64 l.length)):=
 dY λG a w r=>by have hv:=r.XO hx;have he:=nU ht;exact ⟨.int .i64 l.length,by simp [execOp,resolve,invoke,builtin,hv,Builtin.len_,fY he,goInt,size_mk],by simp [R]⟩
theorem Ps (t:TypeId) (x ix:Operand) {l:List UInt8} {k:IntKind} {n:Int} {u:UInt8} (hx:s.ev x= .str l) (hi:s.ev ix= .int k n) (ht:isString P t=true) (h0:0<=n) (hu:l[n.toNat]? =some u):
  Step P B ⟨dst,.index t x ix,ty,pos,after,gd⟩ s (s.put dst (.int .u8 u.toNat)):=
 dY λG a w r=>by
  have hv:=r.XO hx;have he:=nU ht;have hlt:=(cH.1 hu).1;have hg:(⟨l.toArray⟩:ByteArray)[n.toNat]? =some u:=by rw [getElem?_pos (⟨l.toArray⟩:ByteArray) n.toNat (by simpa [size_mk] using hlt)];obtain ⟨_,rfl⟩:=cH.1 hu;rfl
  exact ⟨.int .u8 u.toNat,by simp [execOp,hv,r.HV hi,Instr.index,asIntOf,fY he,h0,hg],by simp [R]⟩
theorem Wi (x:Operand) (ix:Nat) {c:List AV} {y:AV} (hx:s.ev x= .iJ c) (hy:c[ix]? =some y):Step P B ⟨dst,.extract x ix,ty,pos,after,gd⟩ s (s.put dst y):=
 dY λG a w r=>by have h:=r.ev x;rw [hx] at h;simp only [R] at h;obtain ⟨cs,hv,hr⟩:=h;obtain ⟨v,hv',hR⟩:=Ho hr hy;exact ⟨v,by simp [execOp,hv,Instr.extract,hv'],hR⟩
theorem Tu (f:FuncId) (cap:Array Operand):Step P B ⟨dst,.makeFunc (.func f) #[] cap,ty,pos,after,gd⟩ s (s.put dst (.fn f (s.args cap))):=
 dY λG a w r=>by refine ⟨.func (.func f) #[] (cap.map a.eval),by simp [execOp,Instr.makeFunc],?_⟩;simp only [R];refine ⟨trivial,cap.toList.map a.eval,?_,wB r cap.toList⟩;congr 1;apply DE;simp
theorem aAn (t:TypeId) (x:Operand) {b:Bool} (hx:s.ev x= .bool b):Step P B ⟨dst,.unOp .not t x,ty,pos,after,gd⟩ s (s.put dst (.bool !b)):=
 dY λG a w r=>⟨.bool !b,by simp [execOp,r.XN hx,Op.unary],by simp [R]⟩
theorem aAo (t:TypeId) (x:Operand) {k:IntKind} {n:Int} (hx:s.ev x= .int k n):Step P B ⟨dst,.unOp .neg t x,ty,pos,after,gd⟩ s (s.put dst (.int k (k.wrap (0 - n)))):=
 dY λG a w r=>⟨.int k (k.wrap (0 - n)),by simp [execOp,r.HV hx,Op.unary,Op.intArith],by simp [R]⟩
theorem zq (c x y:Operand) {b:Bool} (hc:s.ev c= .bool b):Step P B ⟨dst,.pick c x y,ty,pos,after,gd⟩ s (s.put dst (if b then s.ev x else s.ev y)):=
 dY λG a w r=>⟨if b then a.eval x else a.eval y,by simp [execOp,r.XN hc,asBool],by cases b;exact r.ev y;exact r.ev x⟩
def Pt (op:BinOp) (k:IntKind) (a b:Int):Int:=match op with
 | .and=>k.wrap ((BitVec.ofInt k.bits a&&& BitVec.ofInt k.bits b).toNat)
 | .or=>k.wrap ((BitVec.ofInt k.bits a |||BitVec.ofInt k.bits b).toNat)
 |_=>k.wrap ((BitVec.ofInt k.bits a ^^^ BitVec.ofInt k.bits b).toNat)
def aF0 (k:IntKind) (a b:Int):Int:=a.fdiv (2 ^ min b.toNat k.bits)
def Pv (op:BinOp) (k:IntKind) (a b:Int):Option AV:=
 match op with
 | .add=>some (.int k (k.wrap (a+b)))
 | .sub=>some (.int k (k.wrap (a - b)))
 | .mul=>some (.int k (k.wrap (a * b)))
 | .quo=>if b=0 then none else some (.int k (k.wrap (a.tdiv b)))
 | .rem=>if b=0 then none else some (.int k (a.tmod b))
 | .eql=>some (.bool (a == b))
 | .neq=>some (.bool (a != b))
 | .lss=>some (.bool (decide (a < b)))
 | .leq=>some (.bool (decide (a<=b)))
 | .gtr=>some (.bool (decide (a > b)))
 | .geq=>some (.bool (decide (a>=b)))
 | .and=>some (.int k (Pt .and k a b))
 | .or=>some (.int k (Pt .or k a b))
 | .xor=>some (.int k (Pt .xor k a b))
 | .shr=>if b < 0 then none else some (.int k (aF0 k a b))
 |_=>none
theorem aAp (t t2:TypeId) (x y:Operand) {k k':IntKind} {m n:Int} (hx:s.ev x= .int k m) (hy:s.ev y= .int k' n) (hn:0<=n):
  Step P B ⟨dst,.binOp .shr t x y t2,ty,pos,after,gd⟩ s (s.put dst (.int k (aF0 k m n))):=
 dY λG a w r=>by
  have hv:=r.HV hx;have zt:=r.HV hy;have hn2:¬n < 0:=by omega
  exact ⟨.int k (aF0 k m n),(by simp [execOp,hv,zt,eqGuard_at_int,binOp,Op.shift,hn2,aF0]),by simp [R]⟩
theorem zu (op:BinOp) (t t2:TypeId) (x y:Operand) {k:IntKind} {m n:Int} (hop:op= .and\/op= .or\/op= .xor) (hx:s.ev x= .int k m) (hy:s.ev y= .int k n):
  Step P B ⟨dst,.binOp op t x y t2,ty,pos,after,gd⟩ s (s.put dst (.int k (Pt op k m n))):=
 dY λG a w r=>by have hv:=r.HV hx;have zt:=r.HV hy;refine ⟨.int k (Pt op k m n),?_,by simp [R]⟩;rcases hop with rfl|rfl|rfl<;>simp [execOp,hv,zt,eqGuard_at_int,binOp,Op.intBits,Pt]
theorem aAq (op : BinOp) (t t2 : TypeId) (x y : Operand) {k k' : IntKind} {m n : Int} {z : AV} (hx : s.ev x = .int k m) (hy' : s.ev y = .int k' n) (hkk : k' = k \/ op = .shr) (hz : Pv op k m n = some z) :
    Step P B ⟨dst, .binOp op t x y t2, ty, pos, after, gd⟩ s (s.put dst z) := by
  by_cases hsh : op = .shr
  · subst hsh
    simp only [Pv] at hz;split at hz
    · cases hz
    · obtain rfl := cQ hz
      exact aAp t t2 x y hx hy' (by omega)
  have hy := hy';rw [hkk.resolve_right hsh] at hy;by_cases hop : op = .and \/ op = .or \/ op = .xor
  · have e : z = .int k (Pt op k m n) := by rcases hop with rfl | rfl | rfl <;> exact (cQ hz).symm
    subst e;exact zu op t t2 x y hop hx hy
  · refine dY λG a w r => ?_
    have hv := r.HV hx;have zt := r.HV hy;cases op <;> simp only [Pv] at hz <;> first | cases hz; done | exact (hsh rfl).elim | exact (hop (.inl rfl)).elim | exact (hop (.inr (.inl rfl))).elim | exact (hop (.inr (.inr rfl))).elim | skip
    all_goals first
      | (obtain rfl := cQ hz; exact ⟨_, (by simp [execOp, hv, zt, eqGuard_at_int, binOp, Op.intArith, Op.intCmp]; rfl), by simp [R]⟩)
      | (split at hz
         · cases hz
         · rename_i hb; obtain rfl := cQ hz; exact ⟨_, (by simp [execOp, hv, zt, eqGuard_at_int, binOp, Op.intDiv, hb]; rfl), by simp [R]⟩)
      | cases hz
def bT (P:Program) (e:TypeId) (n:Nat):Bool:=
 match (P.info? e).bind (·.zero) with
 |some z=>z.cells.size == n
 |none=>false
theorem zA {P:Program} [aC P] {e:TypeId} {n:Nat} {inf:TypeInfo} (h:bT P e n=true) (hi:P.info? e=some inf):∃z,inf.zero=some z/\z.cells.size=n:=by
 unfold bT at h;cases hz:inf.zero with
 |none=>simp [hi,hz] at h
 |some z=>exact ⟨z,rfl,by simpa [hi,hz] using h⟩
def AS.target (s:AS) (n:Nat):AV->Option (Nat×aM×AS)
 | .obj i v=>match AV.isObj s.o i v with
  |some ob=>if ob.box=false/\ob.n=n then some (i,ob,s) else none
  |none=>none
 | .sl .own _ []=>some (s.o.length,⟨true,false,n,0,[]⟩,⟨s.t,s.o++[⟨true,false,n,0,[]⟩]⟩)
 |_=>none
def AS.source (s:AS) (i n:Nat):AV->Option (List (List AV)×List aM)
 | .obj j v=>match AV.isObj s.o j v with
  |some ob=>if ob.box=false/\ob.n=n/\j≠i then some (ob.dR,s.o.set j ob.kill) else none
  |none=>none
 | .sl .own _ []=>some ([],s.o)
 | .sl .view m l=>if m=n then some (l,s.o) else none
 | .str l=>if n=1 then some (l.map λu=>[.int .u8 u.toNat],s.o) else none
 |_=>none
def AS.wT (s:AS) (o:List aM) (d:Option Tmp) (i:Nat) (ob:aM) (l2:List (List AV)):AS:=
 AS.put ⟨s.t,o.set i {ob with bY:=ob.bY+1,dR:=ob.dR++l2}⟩ d (.obj i (ob.bY+1))
def eT (P:Program) (t:TypeId):Bool:=match P.underlying t with|some (.slice _)=>true|some .string=>true|_=>false
theorem Et {P:Program} [aC P] {t:TypeId} (h:eT P t=true):∃d,P.underlying t=some d/\∀k,d≠ .int k:=by
 unfold eT at h;split at h
 .exact ⟨_,‹_›,by simp⟩
 .exact ⟨_,‹_›,by simp⟩
 .cases h
theorem aAs (w:World) (E:Env):∀l:List UInt8,Rv w E (l.map λu=>[.int .u8 u.toNat]) (l.map λu=> .int .u8 u.toNat) 1 []
 |[]=>by simp [Rv]
 |u::t=>by simp only [mT,Rv];exact ⟨[.int .u8 u.toNat],_,[],[],rfl,rfl,by simp [Value.oneCell'],by simp [Rc,R],aAs w E t,rfl⟩
theorem eP.target {G:List CO} {a:Act} {w:World} (r:eP B s G a w) {x:Operand} {n i:Nat} {ob:aM} {s1:AS} (ht:s.target n (s.ev x)=some (i,ob,s1)):
  ∃G1 g,eP B s1 G1 a w/\Aw.look s1.o G1 i ob g/\ob.live=true/\ob.box=false/\ob.n=n/\a.eval x= .slice g.a ob.dR.length g.cap/\s1.t=s.t:=by
 cases hx:s.ev x with
 |obj j v=>
  rw [hx] at ht;simp only [AS.target] at ht;cases ho:AV.isObj s.o j v with
  |none=>simp [ho] at ht
  |some o=>
   simp only [ho] at ht;split at ht
   .rename_i hc;simp only [eC,oS] at ht;obtain ⟨rfl,rfl,rfl⟩:=ht;obtain ⟨g,hl,hlive,hv⟩:=r.di hx ho;exact ⟨G,g,r,hl,hlive,hc.1,hc.2,hv,rfl⟩
   .cases ht
 |sl g m l=>
  rw [hx] at ht;cases g with
  |own=>
   cases l with
   |nil=>
    simp only [AS.target,eC,oS] at ht;obtain ⟨rfl,rfl,rfl⟩:=ht;obtain ⟨ad,cap,hv,_,h⟩:=r.slv hx rfl;have vP:cap=0:=by
     rcases h with h|⟨_,_,_,h,_⟩
     .exact h.2 rfl
     .exact absurd rfl h
    subst vP;have hadd:=r.add [⟨true,false,n,0,[]⟩] [⟨ad,0,λ_=>False⟩] w rfl (eE _) (λ_ _=>rfl) (λj ob g b hl _ hF=>by
     cases j with
     |zero=>obtain ⟨_,h2⟩:=hl;simp at h2;subst h2;exact hF.elim
     |succ j=>simp [Aw.look] at hl) (λi j _ _ gi _ b hi hj _ _ Es _=>by
     cases i with
     |zero=>obtain ⟨_,h2⟩:=hi;simp at h2;subst h2;exact Es.elim
     |succ i=>simp [Aw.look] at hi) (λk j ob g hl _=>by
     cases j with
     |zero=>obtain ⟨h1,h2⟩:=hl;simp at h1 h2;subst h1;subst h2;exact ⟨[],⟨by simp,.inl ⟨rfl,rfl,rfl⟩⟩,by simp,by simp⟩
     |succ j=>simp [Aw.look] at hl)
    refine ⟨_,⟨ad,0,λ_=>False⟩,hadd.1,⟨by simp,by rw [<-r.len];simp⟩,rfl,rfl,rfl,?_,rfl⟩;simpa using hv
   |cons _ _=>cases ht
  |view=>simp [AS.target] at ht
  |jZ _=>simp [AS.target] at ht
 |int _ _=>rw [hx] at ht;simp [AS.target] at ht
 |bool _=>rw [hx] at ht;simp [AS.target] at ht
 |str _=>rw [hx] at ht;simp [AS.target] at ht
 |gD _ _ _=>rw [hx] at ht;simp [AS.target] at ht
 |ptr _ _ _ _=>rw [hx] at ht;simp [AS.target] at ht
 |agg _=>rw [hx] at ht;simp [AS.target] at ht
 |iJ _=>rw [hx] at ht;simp [AS.target] at ht
 |fn _ _=>rw [hx] at ht;simp [AS.target] at ht
 |undef=>rw [hx] at ht;simp [AS.target] at ht
theorem XQ {s s1:AS} (h:s1.t=s.t) (x:Operand):s1.ev x=s.ev x:=by cases x<;>simp [AS.ev,h]
theorem step_append (tS xT:TypeId) (x y:Operand) {e:TypeId} {n by' i:Nat} {ob:aM} {s1:AS} {l2:List (List AV)} {o2:List aM} (he:iC P tS=some (e,n,by')) (hz:bT P e n=true) (hxt:eT P xT=true)
  (ht:s.target n (s.ev x)=some (i,ob,s1)) (hs:s1.source i n (s.ev y)=some (l2,o2))
  (hbytes:(ob.dR.length+l2.length) * by'<=140737488355328) (h63:ob.dR.length+l2.length<=9223372036854775807):
  Step P B ⟨dst,.call {callee:= .builtin .append,args:=#[x,y],argTypes:=#[tS,xT]},ty,pos,after,gd⟩ s (s.wT o2 dst i ob l2):=
 qM λG0 a w r0=>by
  obtain ⟨hu,inf,hi,hsz,hby⟩:=qB he;obtain ⟨z,dm,hz2⟩:=zA hz hi;obtain ⟨G,g,r,hl,hlive,uI,hn,hv,hst⟩:=r0.target ht;have hev:=XQ hst y;rw [<-hev] at hs;have uw:∀{v w'},(Builtin.append_ #[tS,xT] ty #[.slice g.a ob.dR.length g.cap,a.eval y]).run P w= .ok v w'->(execOp a.eval ⟨dst,.call {callee:= .builtin .append,args:=#[x,y],argTypes:=#[tS,xT]},ty,pos,after,gd⟩).run P w= .ok (.value v) w':=by intro v w' h;simp [execOp,resolve,invoke,builtin,hv,h]
  obtain ⟨fp,hown,hnd,hF⟩:=r.ok i ob g hl hlive;rw [uI] at hown;have fin:∀{s2:AS} {G2:List CO} {g2:CO} {news:List Value} {fp2:List Nat},eP B s2 G2 a w->Aw.look s2.o G2 i ob g2->g2.a=g.a->g2.cap=g.cap->s2.t=s1.t->s2.o=o2->
    (Builtin.lenOf (a.eval y)).run P w= .ok l2.length w->(∀w',w'.heap=w.heap->(Builtin.firstCells ob.n l2.length (a.eval y)).run P w'= .ok news.toArray w')->
    Rv w (env B s2.o G2 w).plain l2 news ob.n fp2->uW w (env B s2.o G2 w).plain ob.n ob.dR g2.a g2.cap fp->(fp++fp2).Nodup->(∀b∈fp++fp2,g2.F b)->
    ∃v w',(execOp a.eval ⟨dst,.call {callee:= .builtin .append,args:=#[x,y],argTypes:=#[tS,xT]},ty,pos,after,gd⟩).run P w= .ok (.value v) w'/\Rel B (s.wT o2 dst i ob l2) (a.put dst v) w':=by
   intro s2 G2 g2 news fp2 r2 hl2 ha hc aQu ho2 hlen EI MB XR Wj zw;obtain ⟨v,w',G',hrun,hr',hR⟩:=r2.append (P:=P) (ty:=ty) hl2 hlive uI hu (Et hxt) hi dm (by rw [hsz,hn]) (by rw [hz2,hn]) hlen EI MB XR Wj zw (by rw [hby];exact hbytes) h63;rw [ha,hc] at hrun;refine ⟨v,w',uw hrun,G',?_⟩;have:=hr'.put dst hR;rw [ho2,aQu,hst] at this;exact this
  cases hy:s1.ev y with
  |obj j bY=>
   rw [hy] at hs;simp only [AS.source] at hs;cases ho:AV.isObj s1.o j bY with
   |none=>simp [ho] at hs
   |some oj=>
    simp only [ho] at hs;split at hs
    .rename_i hc;simp only [eC,oS] at hs;obtain ⟨rfl,rfl⟩:=hs;obtain ⟨gj,hlj,aAt,hvj⟩:=r.di hy ho;have htr:=r.Pn (i:=i) (j:=j) (As hc.2.2) hl hlj hlive aAt;obtain ⟨fj,MF,aF3,Te⟩:=r.ok j oj gj hlj aAt;rw [hc.1] at MF;obtain ⟨fp2,aIk,aNh,news,MB,EI⟩:∃fp2:List Nat,(∀b∈fp2,b∈fj)/\fp2.Nodup/\∃news,Rv w (env B s1.o G w).plain oj.dR news ob.n fp2/\∀w',w'.heap=w.heap->(Builtin.firstCells ob.n oj.dR.length (.slice gj.a oj.dR.length gj.cap)).run P w'= .ok news.toArray w':=by
      have hnn:oj.n=ob.n:=by rw [hc.2.1,hn]
      rcases MF.2 with ⟨h1,h2,h3⟩|⟨b,off,C,ety,fz,pX,ha,hb,hz',k1,k2,k3,rfl,hr⟩
      .refine ⟨[],by simp,by simp,[],by rw [h1];simp [Rv],λw' _=> ?_⟩
       rw [h1];cases hga:gj.a with
       |none=>simp [Builtin.firstCells]
       |some a'=>simp [Builtin.firstCells,loadCells,loadCellsFrom]
      .obtain ⟨vs,hv',hc'⟩:=rT.1 hr;refine ⟨pX,λb hb=>AM _ hb,(mA.1 aF3).2,vs,by rw [<-hnn];exact hv',λw' uq=> ?_⟩;rw [ha,<-hnn];exact kQ (jQ hv') (hc'.heap uq)
     have aJt:Aw.look (s1.o.set j oj.kill) (G.set i {g with F:=λb=>g.F b\/gj.F b}) i ob {g with F:=λb=>g.F b\/gj.F b}:=by refine ⟨by rw [lA hc.2.2];exact hl.1,?_⟩;have:=(cH.1 hl.2).1;simp [this]
     refine fin htr.1 aJt rfl rfl rfl rfl (by rw [hvj];simp [Builtin.lenOf]) (by rw [hvj];exact EI) (uZ htr.2.plain (λ_ _=>rfl) MB) (hown.keeps htr.2.plain (λ_ _=>rfl)) ?_ ?_
     .refine gC.2 ⟨hnd,aNh,λb hb b' hb' e=> ?_⟩
      subst e;exact hc.2.2 (r.apart j i _ _ _ _ b hlj hl aAt hlive (Te b (aIk b hb')) (hF b hb))
     .intro b hb;rcases fL.1 hb with hb|hb
      .exact .inl (hF b hb)
      .exact .inr (Te b (aIk b hb))
    .cases hs
  |sl tg m l=>
   rw [hy] at hs;have pM:∀{news:List Value},s1.o=o2->(Builtin.lenOf (a.eval y)).run P w= .ok l2.length w->(∀w',w'.heap=w.heap->(Builtin.firstCells ob.n l2.length (a.eval y)).run P w'= .ok news.toArray w')->
     Rv w (env B s1.o G w).plain l2 news ob.n []->_:=fun {news} h1 h2 h3 h4=>fin (news:=news) (fp2:=[]) r hl rfl rfl rfl h1 h2 h3 h4 hown (by simpa using hnd) (by simpa using hF)
   cases tg with
   |own=>
    cases l with
    |nil=>
     simp only [AS.source,eC,oS] at hs;obtain ⟨rfl,rfl⟩:=hs;obtain ⟨ad,cap,hvy,_,_⟩:=r.slv hy rfl;refine pM (news:=[]) rfl (by rw [hvy];simp [Builtin.lenOf]) (λw' _=> ?_) (by simp [Rv]);rw [hvy];cases ad with
     |none=>simp [Builtin.firstCells]
     |some a'=>simp [Builtin.firstCells,loadCells,loadCellsFrom]
    |cons _ _=>cases hs
   |view=>
    simp only [AS.source] at hs;split at hs
    .rename_i hm;subst hm;simp only [eC,oS] at hs;obtain ⟨rfl,rfl⟩:=hs;obtain ⟨ad,cap,hvy,_,h⟩:=r.slv hy rfl;rcases h with ⟨rfl,_⟩|⟨b,f,rfl,_,_,hr⟩
     .refine pM (news:=[]) rfl (by rw [hvy];simp [Builtin.lenOf]) (λw' _=> ?_) (by simp [Rv])
      rw [hvy];cases ad with
      |none=>simp [Builtin.firstCells]
      |some a'=>simp [Builtin.firstCells,loadCells,loadCellsFrom]
     .obtain ⟨vs,hv',hc'⟩:=rT.1 hr;refine pM (news:=vs) rfl (by rw [hvy];simp [Builtin.lenOf]) (λw' uq=> ?_) (by rw [hn];exact hv');rw [hvy,hn];exact kQ (jQ hv') (hc'.heap uq)
    .cases hs
   |jZ _=>cases hs
  |str l=>
   rw [hy] at hs;simp only [AS.source] at hs;split at hs
   .rename_i h1;simp only [eC,oS] at hs;obtain ⟨rfl,rfl⟩:=hs;have hvy:=r.XO hy;refine fin (news:=l.map λu=> .int .u8 u.toNat) (fp2:=[]) r hl rfl rfl rfl rfl (by rw [hvy];simp [Builtin.lenOf,size_mk]) (λw' _=> ?_) ?_ hown (by simpa using hnd) (by simpa using hF)
    .rw [hvy];have:(⟨l.toArray⟩:ByteArray).extract 0 (l.map λu=>[AV.int .u8 u.toNat]).length=⟨l.toArray⟩:=by
      have e:(l.map λu=>[AV.int .u8 u.toNat]).length=(⟨l.toArray⟩:ByteArray).size:=by simp [size_mk]
      rw [e,ByteArray.extract_zero_size]
     simp only [Builtin.firstCells,this];simp
    .rw [hn,h1];exact aAs _ _ l
   .cases hs
  |int _ _=>rw [hy] at hs;cases hs
  |bool _=>rw [hy] at hs;cases hs
  |gD _ _ _=>rw [hy] at hs;cases hs
  |ptr _ _ _ _=>rw [hy] at hs;cases hs
  |agg _=>rw [hy] at hs;cases hs
  |iJ _=>rw [hy] at hs;cases hs
  |fn _ _=>rw [hy] at hs;cases hs
  |undef=>rw [hy] at hs;cases hs
def AS.bound (s:AS) (d:Nat):Option Operand->Option Nat
 |none=>some d
 |some x=>match s.ev x with
  | .int _ n=>if 0<=n then some n.toNat else none
  |_=>none
theorem HY {G:List CO} {a:Act} {w:World} (r:eP B s G a w) {isS:Bool} {len cap lo hi:Nat} {lx hx:Option Operand} (hl:s.bound 0 lx=some lo) (hh:s.bound len hx=some hi) (h1:lo<=hi) (h2:hi<=len) (h3:len<=cap):
  (Instr.sliceBounds isS len cap (lx.map a.eval) (hx.map a.eval) none).run P w= .ok (lo,hi,cap) w:=by
 have bnd:∀{x:Operand} {d n:Nat} {y:Nat} {code:BoundsCode},s.bound d (some x)=some n->n<=y->(Instr.sliceBound (a.eval x) y code).run P w= .ok n w:=by
  intro x d n y code h hy;simp only [AS.bound] at h;cases hx:s.ev x with
  |int k m=>
   simp only [hx] at h;split at h
   .rename_i h0;obtain rfl:=cQ h;rw [r.HV hx];simp [Instr.sliceBound,asIntOf,h0];omega
   .cases h
  |_=>simp [hx] at h
 cases lx with
 |none=>
  simp only [AS.bound,eC] at hl;subst hl;cases hx with
  |none=>simp only [AS.bound,eC] at hh;subst hh;simp [Instr.sliceBounds]
  |some y=>have:=bnd (code:=if isS then .sliceAcap else .sliceAlen) hh (lO h2 h3);simp [Instr.sliceBounds,this]
 |some x=>
  have hb:=λ(c:BoundsCode)=>bnd (code:=c) hl h1
  cases hx with
  |none=>simp only [AS.bound,eC] at hh;subst hh;simp [Instr.sliceBounds,hb]
  |some y=>have:=bnd (code:=if isS then .sliceAcap else .sliceAlen) hh (lO h2 h3);simp [Instr.sliceBounds,this,hb]
theorem extract_mk (l:List UInt8) (a b:Nat) (h:b<=l.length):(⟨l.toArray⟩:ByteArray).extract a b=⟨((l.take b).drop a).toArray⟩:=by apply ByteArray.ext;simp [ByteArray.data_extract,drop_take]
theorem Pw (t:TypeId) (x:Operand) (lx hx:Option Operand) {l:List UInt8} {lo hi:Nat} (hs:s.ev x= .str l) (ht:isString P t=true) (hl:s.bound 0 lx=some lo) (hh:s.bound l.length hx=some hi) (h1:lo<=hi) (h2:hi<=l.length):
  Step P B ⟨dst,.slice t x lx hx none,ty,pos,after,gd⟩ s (s.put dst (.str ((l.take hi).drop lo))):=
 dY λG a w r=>by have hv:=r.XO hs;have he:=nU ht;have hb:=HY (P:=P) r (isS:=false) hl (by rw [<-size_mk l] at hh;exact hh) h1 (by rw [size_mk];exact h2) (eE (⟨l.toArray⟩:ByteArray).size);refine ⟨.string ⟨((l.take hi).drop lo).toArray⟩,?_,by simp [R]⟩;rw [<-extract_mk l lo hi h2];simp [execOp,hv,Instr.sliceAt,Instr.slice,fY he,hb]
theorem aAu {w:World} {E:Env} {l:List (List AV)} {b f n lo hi:Nat} (h1:lo<=hi) (h2:hi<=l.length) {fp:List Nat} (h:Rr w E l b f n fp):
  ∃f1 f2 f3,fp=f1++f2++f3/\Rr w E ((l.take hi).drop lo) b (f+lo * n) n f2:=by
 have e:l=(l.take hi).take lo++((l.take hi).drop lo++l.drop hi):=by rw [<-rL,oA,oA]
 rw [e] at h;obtain ⟨f1,g,rfl,_,h3⟩:=CP.1 h;obtain ⟨f2,f3,rfl,h4,_⟩:=CP.1 h3;have:((l.take hi).take lo).length=lo:=by simp;omega
 rw [this] at h4;exact ⟨f1,f2,f3,by simp,h4⟩
theorem Px {α:Type} (l:List α) {lo hi:Nat} (h1:lo<=hi) (h2:hi<=l.length):((l.take hi).drop lo).length=hi - lo:=by simp;omega
theorem Tv (t:TypeId) (x:Operand) (lx hx:Option Operand) {g:Tg} {n:Nat} {l:List (List AV)} {e by' lo hi:Nat} (hs:s.ev x= .sl g n l) (hf:(AV.sl g n l).fit s.o=true) (ht:iC P t=some (e,n,by'))
  (hl:s.bound 0 lx=some lo) (hh:s.bound l.length hx=some hi) (h1:lo<=hi) (h2:hi<=l.length):
  Step P B ⟨dst,.slice t x lx hx none,ty,pos,after,gd⟩ s (s.put dst (.sl g n ((l.take hi).drop lo))):=
 dY λG a w r=>by
  obtain ⟨hu,inf,hi',hsz,_⟩:=qB ht;obtain ⟨ad,cap,hv,hlen,h⟩:=r.slv hs hf;have hb:=HY (P:=P) r (isS:=true) hl hh h1 h2 hlen.2;have hsl:=Px l h1 h2;refine ⟨.slice (if cap=lo then ad else ad.map (·.add (lo * n))) (hi - lo) (cap - lo),?_,?_⟩
  .simp [execOp,hv,Instr.sliceAt,Instr.slice,fY hu,hb,sizeOf,typeInfo,hi',hsz]
  .simp only [R];refine .inr ⟨_,_,by rw [hsl],⟨by rw [hsl];omega,by rw [hsl];omega⟩,?_⟩;rcases h with ⟨rfl,vP⟩|⟨b,f,rfl,hg,htg,hr⟩
   .by_cases hg:g= .own
    .exact .inl ⟨hg,by simp,by rw [vP hg];simp,trivial⟩
    .exact .inr (.inr ⟨hg,trivial,.inl (by simp)⟩)
   .refine .inr (.inr ⟨hg,trivial,?_⟩);by_cases hc:cap=lo
    .left;exact lE (by rw [hsl];omega)
    .right;obtain ⟨f1,f2,f3,hfe,hr'⟩:=aAu h1 h2 hr;have:f2=[]:=by have:=An length hfe;simp at this;exact lE (by omega)
     subst this;exact ⟨b,f+lo * n,by simp [hc,addr_add],htg,hr'⟩
def AS.Py (s:AS) (d:Option Tmp) (i:Nat) (ob:aM) (l:List (List AV)):AS:=
 AS.put ⟨s.t,s.o.set i {ob with bY:=ob.bY+1,dR:=l}⟩ d (.obj i (ob.bY+1))
theorem Pz (t:TypeId) (x:Operand) (lx hx:Option Operand) {i bY:Nat} {ob:aM} {e by' lo hi:Nat} (hs:s.ev x= .obj i bY) (ho:AV.isObj s.o i bY=some ob) (uI:ob.box=false) (ht:iC P t=some (e,ob.n,by'))
  (hl:s.bound 0 lx=some lo) (hh:s.bound ob.dR.length hx=some hi) (h1:lo<=hi) (h2:hi<=ob.dR.length):
  Step P B ⟨dst,.slice t x lx hx none,ty,pos,after,gd⟩ s (s.Py dst i ob ((ob.dR.take hi).drop lo)):=
 qM λG a w r=>by
  obtain ⟨hu,inf,hi',hsz,_⟩:=qB ht;obtain ⟨g,hlk,hlive,hv⟩:=r.di hs ho;obtain ⟨fp,⟨hlen,hown⟩,hnd,hF⟩:=r.ok i ob g hlk hlive;have vP:ob.dR.length<=g.cap:=by
   rcases hown with h|⟨_,_,_,_,_,_,_,_,_,_,h,_⟩
   .simp [h.1]
   .exact h
  have hb:=HY (P:=P) r (isS:=true) hl hh h1 h2 vP;have hsl:=Px ob.dR h1 h2;have hrun:(execOp a.eval ⟨dst,.slice t x lx hx none,ty,pos,after,gd⟩).run P w= .ok (.value (.slice (if g.cap=lo then g.a else g.a.map (·.add (lo * ob.n))) (hi - lo) (g.cap - lo))) w:=by simp [execOp,hv,Instr.sliceAt,Instr.slice,fY hu,hb,sizeOf,typeInfo,hi',hsz]
  have aF4:∀a',(if g.cap=lo then g.a else g.a.map (·.add (lo * ob.n)))=some a'->∃a0,g.a=some a0/\a'.block=a0.block:=by
   intro a' h;split at h
   .exact ⟨a',h,rfl⟩
   .cases hga:g.a with
    |none=>simp [hga] at h
    |some a0=>simp only [hga,mS,eC] at h;refine ⟨a0,rfl,?_⟩;rw [<-h];unfold Addr.add;split<;>rfl
  have hm:=r.modify hlk hlive {ob with bY:=ob.bY+1,dR:=(ob.dR.take hi).drop lo} ⟨(if g.cap=lo then g.a else g.a.map (·.add (lo * ob.n))),g.cap - lo,g.F⟩ w (by simp) rfl (by simp) (λb hb=> .inl hb) (λb hb hne=>⟨hb,λa' vK=>by
    obtain ⟨a0,h0,hbe⟩:=aF4 a' vK;rw [hbe];exact hne a0 h0⟩) (λ_ _ _=>rfl) (eE _) (λk _=>by
   generalize env B (s.o.set i {ob with bY:=ob.bY+1,dR:=(ob.dR.take hi).drop lo}) (G.set i ⟨(if g.cap=lo then g.a else g.a.map (·.add (lo * ob.n))),g.cap - lo,g.F⟩) w=E' at k⊢;simp only [Ji,uI,Env.of,eS,gS];rw [uI] at hown;simp only [Env.of,eS,gS] at hown;rcases hown with ⟨h,hc0,_⟩|⟨b,f,C,ety,fz,pX,ha,hbk,hz,k1,k2,k3,rfl,hr⟩
   .exact ⟨[],⟨by rw [hsl];omega,.inl ⟨by rw [h];simp,by rw [hc0];simp,rfl⟩⟩,by simp,by simp⟩
   .obtain ⟨f1,f2,f3,rfl,hr'⟩:=aAu h1 h2 hr;by_cases hc:g.cap=lo
    .exact ⟨[],⟨by rw [hsl];omega,.inl ⟨lE (by rw [hsl];omega),by omega,rfl⟩⟩,by simp,by simp⟩
    .have hsub:f2.Sublist (f1++f2++f3):=(sublist_append_right f1 f2).trans (sublist_append_left _ _);have hmul:(g.cap - lo) * ob.n+lo * ob.n=g.cap * ob.n:=by rw [<-pP];congr 1;omega
     refine ⟨b::f2,⟨by rw [hsl];omega,.inr ⟨b,f+lo * ob.n,C,ety,fz,f2,by simp [hc,ha,addr_add],hbk,hz,by omega,by rw [hsl];omega,by omega,rfl,mO k.plain _ _ _ _ _ rfl (λ_ _=>rfl) hr'⟩⟩,?_,?_⟩
     .exact mA.2 ⟨λh=>(mA.1 hnd).1 (hsub.subset h),hsub.nodup (mA.1 hnd).2⟩
     .intro x hx;rcases lB.1 hx with rfl|hx
      .exact hF x (by simp)
      .exact hF x (AM _ (hsub.subset hx)))
  refine ⟨_,w,hrun,_,hm.1.put dst ?_⟩;simp only [R];have hiG:i < G.length:=(cH.1 hlk.2).1;have EF:i < s.o.length:=(cH.1 hlk.1).1;exact ⟨trivial,_,_,⟨by simp [EF];rfl,by simp [hiG];rfl⟩,eE _,λ_ _=>by simp [hsl],λh=>by omega⟩
def toV:AV->Value
 | .int k n=> .int k n
 | .bool b=> .bool b
 | .str s=> .string ⟨s.toArray⟩
 |_=> .tuple #[]
def AV.scalar:AV->Bool
 | .int _ _=>true
 | .bool _=>true
 | .str _=>true
 |_=>false
theorem aAv {w:World} {E:Env} {x:AV} {v:Value} {fp:List Nat} (hs:x.scalar=true) (h:R w E x v fp):v=toV x:=by
 cases x<;>simp only [AV.scalar] at hs<;>first|cases hs;done|skip
 all_goals first|(simp only [R] at h;exact h.1)|cases hs
theorem KZ {w:World} {E:Env}:∀{c:List AV} {cs:List Value} {fp:List Nat},c.all AV.scalar=true->Rc w E c cs fp->cs=c.map toV
 |[],[],_,_,_=>rfl
 |[],_::_,_,_,h=>by simp [Rc] at h
 |_::_,[],_,_,h=>by simp [Rc] at h
 |x::xs,c::cs,fp,hs,h=>by simp only [Rc] at h;simp only [BY,eJ] at hs;obtain ⟨f1,f2,h1,h2,_⟩:=h;simp [aAv hs.1 h1,KZ hs.2 h2]
def EqA (P:Program) (t:TypeId) (c1 c2:List AV) (b:Bool):Prop:=
 ∀(op:BinOp) (x y:Operand) (w:World),(op= .eql\/op= .neq)->
  (do eqGuard op t x y (.agg (c1.map toV).toArray) (.agg (c2.map toV).toArray);binOp op t (.agg (c1.map toV).toArray) (.agg (c2.map toV).toArray):Sem Value).run P w=
   .ok (.bool (if op= .eql then b else !b)) w
def Jo (P:Program) (t:TypeId):Bool:=match P.underlying t with|some .bool=>true|_=>false
def intType (P:Program) (t:TypeId):Option IntKind:=match P.underlying t with|some (.int k)=>some k|_=>none
theorem eP.aNj {G:List CO} {a:Act} {w:World} (r:eP B s G a w) {x:Operand} {c:List AV} (hx:s.ev x= .agg c) (hs:c.all AV.scalar=true):a.eval x= .agg (c.map toV).toArray:=by have h:=r.ev x;rw [hx] at h;simp only [R] at h;obtain ⟨cs,hv,_,hr⟩:=h;rw [hv,KZ hs hr]
theorem XT (op:BinOp) (t t2:TypeId) (x y:Operand) {c1 c2:List AV} {b:Bool} (hop:op= .eql\/op= .neq) (hx:s.ev x= .agg c1) (hy:s.ev y= .agg c2) (h1:c1.all AV.scalar=true) (h2:c2.all AV.scalar=true) (he:EqA P t c1 c2 b):
  Step P B ⟨dst,.binOp op t x y t2,ty,pos,after,gd⟩ s (s.put dst (.bool (if op= .eql then b else !b))):=
 dY λG a w r=>by
  have e:=he op x y w hop;refine ⟨.bool (if op= .eql then b else !b),?_,by simp [R]⟩;simp only [execOp,r.aNj hx h1,r.aNj hy h2];rw [show (do let v<-(do eqGuard op t x y (.agg (c1.map toV).toArray) (.agg (c2.map toV).toArray);binOp op t (.agg (c1.map toV).toArray) (.agg (c2.map toV).toArray));pure (Next.value v):Sem Next).run P w=
   ((do eqGuard op t x y (.agg (c1.map toV).toArray) (.agg (c2.map toV).toArray);binOp op t (.agg (c1.map toV).toArray) (.agg (c2.map toV).toArray):Sem Value).run P w).andThen λv w'=> .ok (Next.value v) w' from by simp only [nF,sE]]
  rw [e];rfl
theorem run_equalIn_bool (w:World) (d:Nat) {t:TypeId} (hu:P.underlying t=some .bool) (b1 b2:Bool):(Op.equalIn (d+1) t (.bool b1) (.bool b2)).run P w= .ok (b1 == b2) w:=by simp only [Op.equalIn,nF,fY hu,lP,sE]
theorem Wl (op:BinOp) (t t2:TypeId) (x y:Operand) {b1 b2:Bool} (hop:op= .eql\/op= .neq) (hx:s.ev x= .bool b1) (hy:s.ev y= .bool b2) (ht:Jo P t=true):
  Step P B ⟨dst,.binOp op t x y t2,ty,pos,after,gd⟩ s (s.put dst (.bool (if op= .eql then b1 == b2 else b1 != b2))):=
 dY λG a w r=>by
  have hu:P.underlying t=some .bool:=by unfold Jo at ht;split at ht;assumption;cases ht
  have hE:(Op.equal t (.bool b1) (.bool b2)).run P w= .ok (b1 == b2) w:=by exact run_equalIn_bool w 9999 hu b1 b2
  refine ⟨.bool (if op= .eql then b1 == b2 else b1 != b2),?_,by simp [R]⟩;simp only [execOp,r.XN hx,r.XN hy,eqGuard_at_bool,pure_bind];rcases hop with rfl|rfl
  .simp only [binOp,nF,hE,lP,sE,gE]
  .simp only [binOp,nF,hE,lP,sE];rfl
theorem toList_mk (l:List UInt8):(⟨l.toArray⟩:ByteArray).toList=l:=by rw [ByteArray.toList_eq]
theorem zx (l m:List UInt8):(⟨l.toArray⟩:ByteArray)++⟨m.toArray⟩=⟨(l++m).toArray⟩:=by apply ByteArray.ext;simp [ByteArray.data_append]
def Wm (op:BinOp) (a b:List UInt8):Option AV:=
 match op with
 | .add=>some (.str (a++b))
 | .eql=>some (.bool (a == b))
 | .neq=>some (.bool (!(a == b)))
 | .lss=>some (.bool (Op.bytesLess a b))
 | .leq=>some (.bool (Op.bytesLess a b || a == b))
 | .gtr=>some (.bool (!(Op.bytesLess a b || a == b)))
 | .geq=>some (.bool (!Op.bytesLess a b))
 |_=>none
theorem aAw (op:BinOp) (t t2:TypeId) (x y:Operand) {l m:List UInt8} {z:AV} (hx:s.ev x= .str l) (hy:s.ev y= .str m) (hz:Wm op l m=some z) (hle:op= .add->l.length+m.length<=9223372036854775807):
  Step P B ⟨dst,.binOp op t x y t2,ty,pos,after,gd⟩ s (s.put dst z):=
 dY λG a w r=>by
  have hv:=r.XO hx;have zt:=r.XO hy;have uw:∀{v:Value},(Op.stringOp op ⟨l.toArray⟩ ⟨m.toArray⟩).run P w= .ok v w->(execOp a.eval ⟨dst,.binOp op t x y t2,ty,pos,after,gd⟩).run P w= .ok (.value v) w:=by
   intro v h;have hb:binOp op t (.string ⟨l.toArray⟩) (.string ⟨m.toArray⟩)=Op.stringOp op ⟨l.toArray⟩ ⟨m.toArray⟩:=by cases op<;>rfl
   simp [execOp,hv,zt,eqGuard_at_string,hb,h]
  cases op<;>simp only [Wm] at hz<;>first|cases hz;done|skip
  case add=>
   have hle:=hle rfl;obtain rfl:=cQ hz;refine ⟨.string ⟨(l++m).toArray⟩,uw ?_,by simp [R]⟩;have h0:¬(9223372036854775807 < ((l.length:Int)+(m.length:Int))):=by omega
   simp only [Op.stringOp,size_mk,zx];simp [h0]
  all_goals first
   |(obtain rfl:=cQ hz;exact ⟨_,uw (by simp only [Op.stringOp,toList_mk,sE];rfl),by simp [R]⟩)
   |cases hz
theorem Tw (src d:TypeId) (x:Operand) {k k':IntKind} {n:Int} (hx:s.ev x= .int k n) (hd:intType P d=some k') (hs:(P.underlying src).isSome=true):
  Step P B ⟨dst,.convert src d x,ty,pos,after,gd⟩ s (s.put dst (.int k' (k'.wrap n))):=
 dY λG a w r=>by
  obtain ⟨ds,hds⟩:=Bk.1 hs;have hu:P.underlying d=some (.int k'):=by
   unfold intType at hd;split at hd
   .obtain rfl:=cQ hd;assumption
   .cases hd
  exact ⟨.int k' (k'.wrap n),by simp [execOp,r.HV hx,convert,fY hds,fY hu,Conv.intToInt],by simp [R]⟩
theorem Tx (src d:TypeId) (x:Operand) {l:List UInt8} (hx:s.ev x= .str l) (hd:isString P d=true) (hs:isString P src=true):
  Step P B ⟨dst,.convert src d x,ty,pos,after,gd⟩ s (s.put dst (.str l)):=
 dY λG a w r=>by exact ⟨.string ⟨l.toArray⟩,by simp [execOp,r.XO hx,convert,fY (nU hs),fY (nU hd)],by simp [R]⟩
def bytesOf:List (List AV)->Option (List UInt8)
 |[]=>some []
 |[.int .u8 n]::r=>(bytesOf r).map (UInt8.ofNat n.toNat:: ·)
 |_=>none
theorem XU {w:World} {E:Env}:∀{l:List (List AV)} {vs:List Value} {fp:List Nat} {bs:List UInt8},bytesOf l=some bs->Rv w E l vs 1 fp->∃ns:List Int,vs=ns.map (.int .u8)/\bs=ns.map λn=>UInt8.ofNat n.toNat
 |[],vs,_,bs,hb,h=>by simp only [bytesOf,eC] at hb;simp only [Rv] at h;exact ⟨[],by simp [h.1],by simp [<-hb]⟩
 |e::es,vs,fp,bs,hb,h=>by
  match e,hb with
  |[.int .u8 n],hb=>
   simp only [bytesOf] at hb;cases hr:bytesOf es with
   |none=>simp [hr] at hb
   |some b2=>simp only [hr,mS,eC] at hb;simp only [Rv] at h;obtain ⟨cs,rest,f1,f2,rfl,hn,_,uY,hrest,_⟩:=h;obtain ⟨ns,rfl,rfl⟩:=XU hr hrest;have:=KZ (c:=[.int .u8 n]) (by simp [AV.scalar]) uY;exact ⟨n::ns,by simp [this,toV],by simp [<-hb]⟩
theorem MG (P:Program) (w:World) {body:Value->ByteArray->Sem (ForInStep ByteArray)} (hb:∀n r,body (.int .u8 n) r=pure (ForInStep.yield (r.push (UInt8.ofNat n.toNat)))):∀(ns:List Int) (s0:ByteArray),
  (forIn (m:=Sem) (ns.map (Value.int .u8)) s0 body).run P w= .ok ⟨s0.data++(ns.map λn=>UInt8.ofNat n.toNat).toArray⟩ w
 |[],s0=>by simp
 |n::ns,s0=>by simp only [mT,forIn_cons,hb,pure_bind];rw [MG P w hb ns];congr 2;apply DE;simp [ByteArray.push]
theorem FU {G:List CO} {a:Act} {w:World} (r:eP B s G a w) {x:Operand} {ad:Option Addr} {b f cap:Nat} {l:List (List AV)} {E:Env} {bs:List UInt8} {fp:List Nat} (hv:a.eval x= .slice ad l.length cap)
  (hb:bytesOf l=some bs) (h:l=[]\/(ad=some ⟨b,f,none⟩/\Rr w E l b f 1 fp)):(Conv.bytesToString (a.eval x)).run P w= .ok (.string ⟨bs.toArray⟩) w:=by
 rw [hv];obtain ⟨vs,hvs,ns,hns,hbs,hlen⟩:∃vs:List Value,(∀a',ad=some a'->(loadCells a' l.length).run P w= .ok vs.toArray w)/\∃ns:List Int,vs=ns.map (.int .u8)/\bs=(ns.map λn=>UInt8.ofNat n.toNat)/\vs.length=l.length:=by
  rcases h with rfl|⟨rfl,hr⟩
  .simp only [bytesOf,eC] at hb;refine ⟨[],λa' _=>by simp [loadCells,loadCellsFrom],[],rfl,by simp [<-hb],rfl⟩
  .obtain ⟨vs,hv',hc'⟩:=rT.1 hr;have hl:=jQ hv';obtain ⟨ns,h1,h2⟩:=XU hb hv';refine ⟨vs,λa' vK=> ?_,ns,h1,h2,by simpa using hl⟩;obtain rfl:=cQ vK;have:=hc'.run (P:=P)
   rwa [hl,Nat.mul_one] at this
 cases ad with
 |none=>
  have hl0:l=[]:=by
   rcases h with h|h
   .exact h
   .cases h.1
  subst hl0;have:vs=[]:=lE (by simpa using hlen);subst this;have:ns=[]:=by simpa using hns.symm
  subst this;subst hbs;simp [Conv.bytesToString];rfl
 |some a'=>subst hns;subst hbs;simp only [Conv.bytesToString,nF,hvs a' rfl,lP];simp only [forIn_toArray];rw [MG P w (λ_ _=>rfl) ns ByteArray.empty];simp
theorem EK (src d:TypeId) (x:Operand) {g:Tg} {l:List (List AV)} {e:TypeId} {by':Nat} {bs:List UInt8} (hx:s.ev x= .sl g 1 l) (hf:(AV.sl g 1 l).fit s.o=true) (hd:isString P d=true) (hs:iC P src=some (e,1,by')) (he:intType P e=some .u8)
  (hb:bytesOf l=some bs):Step P B ⟨dst,.convert src d x,ty,pos,after,gd⟩ s (s.put dst (.str bs)):=
 dY λG a w r=>by
  obtain ⟨hu,_⟩:=qB hs;have hue:P.underlying e=some (.int .u8):=by
   unfold intType at he;split at he
   .obtain rfl:=cQ he;assumption
   .cases he
  obtain ⟨ad,cap,hv,_,h⟩:=r.slv hx hf;have hrun:(Conv.bytesToString (a.eval x)).run P w= .ok (.string ⟨bs.toArray⟩) w:=by
   rcases h with ⟨rfl,_⟩|⟨b,f,rfl,_,_,hr⟩
   .exact FU (b:=0) (f:=0) (E:=lV) (fp:=[]) r hv hb (.inl rfl)
   .exact FU r hv hb (.inr ⟨rfl,hr⟩)
  refine ⟨.string ⟨bs.toArray⟩,?_,by simp [R]⟩;rw [hv] at hrun;simp [execOp,hv,convert,fY hu,fY (nU hd),fY hue,hrun]
theorem Gp (src d:TypeId) (x:Operand) {i bY:Nat} {ob:aM} {e:TypeId} {by':Nat} {bs:List UInt8} (hx:s.ev x= .obj i bY) (ho:AV.isObj s.o i bY=some ob) (hd:isString P d=true) (hs:iC P src=some (e,1,by')) (hn:ob.n=1) (he:intType P e=some .u8)
  (hb:bytesOf ob.dR=some bs):Step P B ⟨dst,.convert src d x,ty,pos,after,gd⟩ s (s.put dst (.str bs)):=
 dY λG a w r=>by
  obtain ⟨hu,_⟩:=qB hs;have hue:P.underlying e=some (.int .u8):=by
   unfold intType at he;split at he
   .obtain rfl:=cQ he;assumption
   .cases he
  obtain ⟨g,hl,hlive,hv⟩:=r.di hx ho;obtain ⟨fp,⟨_,hown⟩,_,_⟩:=r.ok i ob g hl hlive;have hrun:(Conv.bytesToString (a.eval x)).run P w= .ok (.string ⟨bs.toArray⟩) w:=by
   rcases hown with ⟨h,_⟩|⟨b,f,C,ety,fz,pX,ha,_,_,_,_,_,_,hr⟩
   .exact FU (b:=0) (f:=0) (E:=lV) (fp:=[]) r hv hb (.inl h)
   .rw [hn] at hr;exact FU r hv hb (.inr ⟨ha,hr⟩)
  refine ⟨.string ⟨bs.toArray⟩,?_,by simp [R]⟩;rw [hv] at hrun;simp [execOp,hv,convert,fY hu,fY (nU hd),fY hue,hrun]
def uy (j:Nat) (o:List aM):List aM:=match o[j]? with
 |some ob=>o.set j ob.kill
 |none=>o
def EL:List Nat->List aM->List aM
 |[],o=>o
 |j::u,o=>EL u (uy j o)
theorem eP.La {a:Act} {w:World} {k:Nat} {ok:aM} (hlive:ok.live=true):∀(u:List Nat) {s:AS} {G:List CO} {g:CO},eP B s G a w->Aw.look s.o G k ok g->u.Nodup->k∉u->(∀j∈u,∃ob,s.o[j]? =some ob/\ob.live=true)->
  ∃G' g',eP B ⟨s.t,EL u s.o⟩ G' a w/\fA w (env B s.o G w) w (env B (EL u s.o) G' w)/\Aw.look (EL u s.o) G' k ok g'/\g'.a=g.a/\g'.cap=g.cap/\(∀b,g'.F b↔g.F b\/Of s.o G u b)
 |[],s,G,g,r,hl,_,_,_=>⟨G,g,r,fA.refl _ _,hl,rfl,rfl,λb=>⟨.inl,λh=>h.elim id (λ⟨i,_,_,hi,_⟩=>by simp at hi)⟩⟩
 |j::u,s,G,g,r,hl,hn,hk,hu=>by
  simp only [lB,not_or] at hk;obtain ⟨oj,hoj,hjl⟩:=hu j (by simp);obtain ⟨gj,hlj⟩:=r.look hoj;have htr:=r.Pn hk.1 hl hlj hlive hjl;have hk1:uy j s.o=s.o.set j oj.kill:=by simp [uy,hoj]
  have hlk:Aw.look (s.o.set j oj.kill) (G.set k {g with F:=λb=>g.F b\/gj.F b}) k ok {g with F:=λb=>g.F b\/gj.F b}:=by refine ⟨by rw [lA (As hk.1)];exact hl.1,?_⟩;have:=(cH.1 hl.2).1;simp [this]
  have hnu:=mA.1 hn;obtain ⟨G',g',r',k',BP,ha,hc,hF⟩:=eP.La hlive u htr.1 hlk hnu.2 hk.2 (λi hi=>by
   obtain ⟨ob,h1,h2⟩:=hu i (by simp [hi]);have hne:i≠j:=λe=>hnu.1 (e▸hi)
   exact ⟨ob,by simp only;rw [lA (As hne)];exact h1,h2⟩)
  refine ⟨G',g',by rw [EL,hk1];exact r',by rw [EL,hk1];exact htr.2.trans k',by rw [EL,hk1];exact BP,ha,hc,λb=> ?_⟩;rw [hF b];have MH:Of (s.o.set j oj.kill) (G.set k {g with F:=λb=>g.F b\/gj.F b}) u b↔Of s.o G u b:=by
   constructor
   .rintro ⟨i,ob,gi,hi,hli,hil,hf⟩;have hne:i≠j:=λe=>hnu.1 (e▸hi)
    have hnk:i≠k:=λe=>hk.2 (e▸hi)
    exact ⟨i,ob,gi,hi,⟨by have:=hli.1;rwa [lA (As hne)] at this,by have:=hli.2;rwa [lA (As hnk)] at this⟩,hil,hf⟩
   .rintro ⟨i,ob,gi,hi,hli,hil,hf⟩;have hne:i≠j:=λe=>hnu.1 (e▸hi)
    have hnk:i≠k:=λe=>hk.2 (e▸hi)
    exact ⟨i,ob,gi,hi,⟨by rw [lA (As hne)];exact hli.1,by rw [lA (As hnk)];exact hli.2⟩,hil,hf⟩
  rw [MH];constructor
  .rintro ((h|h)|⟨i,ob,gi,hi,h⟩)
   .exact .inl h
   .exact .inr ⟨j,oj,gj,by simp,hlj,hjl,h⟩
   .exact .inr ⟨i,ob,gi,by simp [hi],h⟩
  .rintro (h|⟨i,ob,gi,hi,hli,h⟩)
   .exact .inl (.inl h)
   .rcases lB.1 hi with rfl|hi
    .obtain ⟨rfl,rfl⟩:=lG hlj hli;exact .inl (.inr h.2)
    .exact .inr ⟨i,ob,gi,hi,hli,h⟩
mutual
theorem dw {o:List aM}:∀{av:AV},jM o av=true->∀j∈lU av,∃ob,o[j]? =some ob/\ob.live=true
 | .obj i bY,h,j,hj=>by
  simp only [lU,sA] at hj;subst hj;simp only [jM] at h;cases ho:AV.isObj o j bY with
  |none=>simp [ho] at h
  |some ob=>have:=kY ho;exact ⟨ob,this.1,this.2.1⟩
 | .agg c,h,j,hj=>zB (by simpa [jM] using h) j (by simpa [lU] using hj)
 | .iJ c,h,j,hj=>zB (by simpa [jM] using h) j (by simpa [lU] using hj)
 | .int _ _,_,j,hj=>by simp [lU] at hj
 | .bool _,_,j,hj=>by simp [lU] at hj
 | .str _,_,j,hj=>by simp [lU] at hj
 | .sl _ _ _,_,j,hj=>by simp [lU] at hj
 | .gD _ _ _,_,j,hj=>by simp [lU] at hj
 | .ptr _ _ _ _,_,j,hj=>by simp [lU] at hj
 | .fn _ _,_,j,hj=>by simp [lU] at hj
 | .undef,_,j,hj=>by simp [lU] at hj
theorem zB {o:List aM}:∀{c:List AV},mW o c=true->∀j∈kH c,∃ob,o[j]? =some ob/\ob.live=true
 |[],_,j,hj=>by simp [kH] at hj
 |x::xs,h,j,hj=>by
  simp only [mW,eJ] at h;simp only [kH,fL] at hj;rcases hj with hj|hj
  .exact dw h.1 j hj
  .exact zB h.2 j hj
end
def AV.yA:AV->Bool
 | .agg _=>true
 |x=>x.MC
theorem aJw {w:World} {E:Env} {x:AV} {v:Value} {fp:List Nat} (hg:x.yA=true) (h:R w E x v fp):Rc w E x.cells v.cells.toList fp/\(∀c∈v.cells.toList,c.oneCell'=true):=by
 have one:∀{x:AV} {v:Value} {fp:List Nat},R w E x v fp->x.cells=[x]->v.cells=#[v]->v.oneCell'=true->Rc w E x.cells v.cells.toList fp/\(∀c∈v.cells.toList,c.oneCell'=true):=by intro x v fp h h1 h2 h3;rw [h1,h2];exact ⟨by simp only [Rc];exact ⟨fp,[],h,rfl,by simp⟩,by simpa using h3⟩
 cases x with
 |int k n=>have h':=h;simp only [R] at h';obtain ⟨rfl,_⟩:=h';exact one h rfl rfl rfl
 |bool b=>have h':=h;simp only [R] at h';obtain ⟨rfl,_⟩:=h';exact one h rfl rfl rfl
 |str b=>have h':=h;simp only [R] at h';obtain ⟨rfl,_⟩:=h';exact one h rfl rfl rfl
 |sl g n l=>
  have h':=h;simp only [R] at h';rcases h' with ⟨hd,_⟩|⟨a,cap,rfl,_⟩
  .cases g with
   |own=>exact hd.elim
   |view=>exact hd.elim
   |jZ i=>cases hg
  .exact one h rfl rfl rfl
 |gD g c off=>
  have h':=h;simp only [R] at h';rcases h' with ⟨hd,_⟩|⟨_,b,o,cs,rfl,_⟩
  .cases g with
   |own=>exact hd.elim
   |view=>exact hd.elim
   |jZ i=>cases hg
  .exact one h rfl rfl rfl
 |agg c=>simp only [R] at h;obtain ⟨cs,rfl,ho,hr⟩:=h;exact ⟨by simpa [AV.cells,Value.cells] using hr,by simpa [Value.cells] using ho⟩
 |fn f c=>have h':=h;simp only [R] at h';obtain ⟨_,cs,rfl,_⟩:=h';exact one h rfl rfl rfl
 |obj _ _=>cases hg
 |ptr _ _ _ _=>cases hg
 |iJ c=>cases hg
 |undef=>cases hg
theorem Oy {w:World} {E:Env} {n:Nat}:∀{xs:List AV} {vs:List Value} {fp:List Nat},Rc w E xs vs fp->(∀x∈xs,x.yA=true/\x.cells.length=n)->
  Rv w E (xs.map AV.cells) (vs.flatMap λv=>v.cells.toList) n fp/\(∀v∈vs,v.cells.size=n)
 |[],[],fp,h,_=>by simp only [Rc] at h;simp [Rv,h]
 |[],_::_,_,h,_=>by simp [Rc] at h
 |_::_,[],_,h,_=>by simp [Rc] at h
 |x::xs,v::vs,fp,h,hg=>by
  simp only [Rc] at h;obtain ⟨f1,f2,h1,h2,rfl⟩:=h;have hx:=hg x (by simp);have hc:=aJw hx.1 h1;have hlen:=gG hc.1;have ih:=Oy h2 (λy hy=>hg y (by simp [hy]));constructor
  .simp only [mT,flatMap_cons,Rv];exact ⟨v.cells.toList,_,f1,f2,rfl,by rw [hlen,hx.2],hc.2,hc.1,ih.1,rfl⟩
  .intro u hu;rcases lB.1 hu with rfl|hu
   .simpa [hx.2] using hlen
   .exact ih.2 u hu
theorem Lb (off:Nat):∀(l:List Value) (k:Nat) (pre:List Value) (rest:List Value),pre.length=off+k->l.length<=rest.length->
  ((l.zipIdx k).foldl (λ(cs:Array Value) (p:Value×Nat)=>cs.setIfInBounds (off+p.2) p.1) (pre++rest).toArray)=(pre++l++rest.drop l.length).toArray
 |[],k,pre,rest,_,_=>by simp
 |x::xs,k,pre,rest,hp,hl=>by
  cases rest with
  |nil=>simp at hl
  |cons y ys=>
   simp only [zipIdx_cons,foldl_cons];have:(pre++y::ys).toArray.setIfInBounds (off+k) x=((pre++[x])++ys).toArray:=by rw [<-hp];simp
   rw [this,Lb off xs (k+1) (pre++[x]) ys (by simp [hp,oR]) (by simpa using hl)];simp
theorem UB (size:Nat):∀(vs:List Value) (k:Nat) (pre rest:List Value),(∀v∈vs,v.cells.size=size)->pre.length=k * size->rest.length=vs.length * size->
  Instr.fill (λi=>some (i * size,size)) (pre++rest).toArray ((vs.zipIdx k).map λp=>(p.2,p.1))=some (pre++vs.flatMap λv=>v.cells.toList).toArray
 |[],k,pre,rest,_,_,hr=>by have:rest=[]:=lE (by simpa using hr);subst this;simp [Instr.fill]
 |v::vs,k,pre,rest,hv,hp,hr=>by
  have h1:=hv v (by simp);have hr':rest.length=vs.length * size+size:=by rw [hr];simp [pP]
  simp only [zipIdx_cons,mT,Instr.fill];have hc:¬((v.cells.size≠size) || decide (k * size+v.cells.size > (pre++rest).toArray.size))=true:=by simp [h1];omega
  rw [cY (by simpa using hc)];have hz:v.cells.zipIdx.foldl (λ(cs:Array Value) (p:Value×Nat)=>cs.setIfInBounds (k * size+p.2) p.1) (pre++rest).toArray=(pre++v.cells.toList++rest.drop v.cells.toList.length).toArray:=by have:=Lb (k * size) v.cells.toList 0 pre rest (by simpa using hp) (by simp [h1];omega);rw [<-this,<-Array.foldl_toList,Array.toList_zipIdx]
  rw [hz,UB size vs (k+1) (pre++v.cells.toList) _ (λu hu=>hv u (by simp [hu])) (by simp [hp,h1,pP]) (by simp [h1];omega)];simp
theorem eP.aF5 {G:List CO} {a:Act} {w:World} (r:eP B s G a w) {i idx off:Nat} {ob:aM} {g:CO} {e c:List AV} {vs:List Value} {fpo fp2:List Nat} (hl:Aw.look s.o G i ob g) (hlive:ob.live=true) (uI:ob.box=false) (he:ob.dR[idx]? =some e)
  (hfit:off+c.length<=e.length) (hone:∀x∈vs,x.oneCell'=true) (hr:Rc w (env B s.o G w).plain c vs fp2)
  (hown:uW w (env B s.o G w).plain ob.n ob.dR g.a g.cap fpo) (aQw:(fpo++fp2).Nodup) (hF0:∀b∈fpo++fp2,g.F b):
  ∃b f,g.a=some ⟨b,f,none⟩/\(storeCells ⟨b,f+(idx * ob.n+off),none⟩ vs).run P w= .ok () (w.setCells b (f+(idx * ob.n+off)) vs)/\
   eP B (s.stored i idx off ob e c) (G.set i g) a (w.setCells b (f+(idx * ob.n+off)) vs):=by
 have hvl:=gG hr;rcases hown with ⟨hlen,⟨h,_⟩|⟨b,f,C,ty,fz,pX,ha,hb,hz,h1,h2,h3,rfl,Wd⟩⟩
 .rw [h] at he;simp at he
 obtain ⟨f1,f2,f3,cs,hfe,hn,hc,XM,uY,hr1,hr3⟩:=zW Wd he;have zT:=gG uY;have aJp:idx < ob.dR.length:=(cH.1 he).1;have hmul:(idx+1) * ob.n<=g.cap * ob.n:=kO _ (by omega);have uu:(idx+1) * ob.n=idx * ob.n+ob.n:=by rw [pP];omega
 have aAk:f+(idx * ob.n+off)+vs.length<=C.size:=by omega
 refine ⟨b,f,ha,sG hb hz aAk hone,?_⟩;have UA:g.F b:=hF0 b (by simp);have Dy:∀b',b'≠b->(w.setCells b (f+(idx * ob.n+off)) vs).heap[b']? =w.heap[b']?:=λb' hne=>lS b b' hne _ _ _
 obtain ⟨C',hC',hCs⟩:=jL b ty fz vs (f+(idx * ob.n+off)) w C hb;have hm:=r.modify hl hlive {ob with dR:=ob.dR.set idx (e.take off++c++e.drop (off+c.length))} g (w.setCells b (f+(idx * ob.n+off)) vs) (eE _) rfl (λ_=>⟨rfl,rfl,by simp⟩) (λb hb=> .inl hb) (λb hb hne=>⟨hb,hne⟩)
  (λb' hlt hne=>Dy b' (λe=>hne ⟨e▸UA,⟨b,f,none⟩,ha,e⟩)) (by rw [gX];exact eE _) (λk _=>by
  generalize env B (s.o.set i {ob with dR:=ob.dR.set idx (e.take off++c++e.drop (off+c.length))}) (G.set i g) (w.setCells b (f+(idx * ob.n+off)) vs)=E' at k⊢;have kb:=k.plain;simp only [Ji,uI,Env.of,eS,gS];obtain ⟨g1,g2,rfl,hc1,XC⟩:=sD off uY;obtain ⟨g3,g4,rfl,hc3,hc4⟩:=sD c.length XC;subst hfe;have aNp:=aQw;simp only [eI,mA] at aNp;obtain ⟨hbn,hnd⟩:=aNp;have hp:(f1++(g1++fp2++g4)++f3).Perm ((f1++(g1++g4)++f3)++fp2):=by
   have e1:(g1++fp2++g4++f3).Perm (g1++g4++f3++fp2):=by simp only [rL];refine DS g1 ?_;rw [<-rL g4];exact perm_append_comm
   simpa only [rL] using DS f1 e1
  have hsub:(f1++(g1++g4)++f3++fp2).Sublist (f1++(g1++(g3++g4))++f3++fp2):=(((pS f1).append ((pS g1).append (sublist_append_right g3 g4))).append (pS f3)).append (pS fp2);have hin:∀x,x∈f1++(g1++fp2++g4)++f3->x∈f1++(g1++(g3++g4))++f3++fp2:=λx hx=>hsub.subset (hp.subset hx)
  have hold:∀x∈f1++(g1++fp2++g4)++f3,(w.setCells b (f+(idx * ob.n+off)) vs).heap[x]? =w.heap[x]?:=λx hx=>Dy x (λe=>hbn (e▸hin x hx))
  have Hq:∀j,j < f+(idx * ob.n+off)\/f+(idx * ob.n+off)+vs.length<=j->(w.setCells b (f+(idx * ob.n+off)) vs).cell? ⟨b,j,none⟩=w.cell? ⟨b,j,none⟩:=λj hj=>AW b vs _ w _ (λ_ _=>hj)
  have hti:(ob.dR.take idx).length=idx:=by simp;omega
  refine ⟨b::(f1++(g1++fp2++g4)++f3),⟨by simpa using hlen,.inr ⟨b,f,C',ty,fz,_,ha,hC',by rw [hCs];exact hz,by rw [hCs];exact h1,by simpa using h2,h3,rfl,?_⟩⟩,?_,?_⟩
  .show Rr _ _ (ob.dR.set idx _) b f ob.n _;refine Uy (cs:=cs.take off++vs++cs.drop (off+vs.length)) aJp ?_ ?_ ?_ ?_ ?_ ?_
   .simp only [eR,oT,zE];omega
   .have hc1:bN w b (f+idx * ob.n) cs:=hc;have htl:(cs.take off).length=off:=by simp;omega
    refine bN.append.2 ⟨bN.append.2 ⟨?_,?_⟩,?_⟩
    .intro j v hv;have hj:=(cH.1 hv).1;rw [htl] at hj;rw [Hq _ (by omega)];exact hc1.take j v hv
    .intro j v hv;have hj:j < vs.length:=(cH.1 hv).1;rw [htl,oR f];have:=BE b vs (f+(idx * ob.n+off)) w (λj hj=>by
      have:f+(idx * ob.n+off)+j < C.size:=by omega
      simp [World.cell?,hb,this]) j hj
     rw [this];rw [aE hj] at hv;exact hv
    .intro j v hv;simp only [eR,htl];rw [Hq _ (by omega)];have:=hc1.drop (k:=off+vs.length) j v hv
     rwa [show f+idx * ob.n+(off+vs.length)+j=f+idx * ob.n+(off+vs.length)+j from rfl] at this
   .intro x hx;simp only [fL] at hx;rcases hx with (hx|hx)|hx
    .exact XM x (sC hx)
    .exact hone x hx
    .exact XM x (AK hx)
   .refine mF (mF (dX kb _ _ _ (λx hx=>hold x (by simp [hx])) hc1) (dX kb _ _ _ (λx hx=>hold x (by simp [hx])) hr)) ?_
    rw [<-hvl,<-At,<-At] at *;rw [hvl] at *;exact dX kb _ _ _ (λx hx=>hold x (by simp [hx])) hc4
   .refine Pf kb Hq (λx hx=>hold x (by simp [hx])) (.inl ?_) hr1
    rw [hti];omega
   .refine Pf kb Hq (λx hx=>hold x (by simp [hx])) (.inr ?_) hr3
    omega
  .exact mA.2 ⟨λh=>hbn (hin b h),hp.nodup_iff.2 (hsub.nodup hnd)⟩
  .intro x hx;rcases lB.1 hx with rfl|hx
   .exact UA
   .exact hF0 x (by
     have:=hin x hx;simp only [eI,lB];exact .inr this))
 exact hm.1
theorem EM (o:List aM):∀c:List AV,(tC o c).length=c.length
 |[]=>rfl
 |_::xs=>by simp [tC,EM o xs]
def AS.shut (s:AS) (i idx off:Nat) (ob:aM) (e c:List AV):AS:=
 AS.stored ⟨s.t,EL (kH c) s.o⟩ i idx off ob e (tC s.o c)
theorem Ld (t:TypeId) (x y:Operand) {i bY idx off:Nat} {ob:aM} {e:List AV} (hx:s.ev x= .ptr i bY idx off) (ho:AV.isObj s.o i bY=some ob) (he:ob.dR[idx]? =some e)
  (hfy:(s.ev y).fit s.o=true) (hsz:fB P t=some (s.ev y).cells.length) (hfit:off+(s.ev y).cells.length<=e.length) (uI:ob.box=false)
  (wC:mW s.o (s.ev y).cells=true) (hu:(kH (s.ev y).cells).Nodup) (hi:i∉kH (s.ev y).cells):
  Step P B ⟨dst,.store t x y,ty,pos,after,gd⟩ s ((s.shut i idx off ob e (s.ev y).cells).put dst .undef):=
 Pg λG a w r=>by
  obtain ⟨g,b,f,hl,hlive,ha,hv⟩:=r.ptr hx ho;have hc:=Ox hfy (r.ev y);obtain ⟨fp,uY,hnd,MH⟩:=Hy r _ _ wC hu hc.1;obtain ⟨fpo,hown,HZ,Oz⟩:=r.ok i ob g hl hlive;simp only [uI,Env.of,eS,gS] at hown;obtain ⟨G2,g2,r2,k2,Wn,ha2,XC,zw⟩:=eP.La (k:=i) (ok:=ob) hlive _ r hl hu hi (λj hj=>zB wC j hj);have zy:(fpo++fp).Nodup:=gC.2 ⟨HZ,hnd,λb hb b' hb' e=>by
   subst e;obtain ⟨j,fI,g',hj,BP,wR,hF'⟩:=MH b hb';have:=r.apart i j _ _ _ _ b hl BP hlive wR (Oz b hb) hF';exact hi (this▸hj)⟩
  obtain ⟨b',f',vK,hst,hrel⟩:=r2.aF5 (P:=P) (c:=tC s.o (s.ev y).cells) Wn hlive uI he (by rw [EM];exact hfit) hc.2.1
   (dX k2.plain _ _ _ (λ_ _=>rfl) uY) (by rw [ha2,XC];exact hown.keeps k2.plain (λ_ _=>rfl)) zy (λb hb=>by
    rcases fL.1 hb with hb|hb
    .exact (zw b).2 (.inl (Oz b hb))
    .exact (zw b).2 (.inr (MH b hb)))
  rw [ha2,ha] at vK;simp only [eC,pA,rS] at vK;obtain ⟨rfl,rfl⟩:=vK;have hlen:=gG hc.1;refine ⟨_,?_,_,hrel.put dst (by simp [R])⟩;unfold fB at hsz;cases hi':P.info? t with
  |none=>simp [hi'] at hsz
  |some inf=>
   simp only [hi',mS,eC] at hsz;have aAl:(a.eval y).cells.size=inf.size:=by rw [hsz];simpa using hlen
   simp [execOp,hv,Instr.storeAt,Instr.sureAddr,storeVar,sizeOf,typeInfo,hi',aAl,hst]
def AS.built (s:AS) (d:Option Tmp) (n:Nat) (xs:List Operand):AS:=
 AS.put ⟨s.t,(EL (kH (xs.map s.ev)) (s.o++[⟨true,false,n,0,[]⟩])).set s.o.length ⟨true,false,n,1,(tC s.o (xs.map s.ev)).map AV.cells⟩⟩ d (.obj s.o.length 1)
def vL (parts:List (Nat×Operand)):Bool:=go 0 parts
where go : Nat -> List (Nat × Operand) -> Bool
 |_,[]=>true
 |k,p::r=>p.1 == k&&go (k+1) r
theorem DC:∀(parts:List (Nat×Operand)) (k:Nat),vL.go k parts=true->parts=((parts.map (·.2)).zipIdx k).map λp=>(p.2,p.1)
 |[],_,_=>rfl
 |p::r,k,h=>by simp only [vL.go,eJ,Bm] at h;simp only [mT,zipIdx_cons];rw [<-DC r (k+1) h.2,<-h.1]
theorem tH {t e:TypeId} {n by' len:Nat} {vs:List Value} {w:World} (he:iC P t=some (e,n,by')) (hz:bT P e n=true) (hlen:len=vs.length) (hbig:len * n<=16777216) (hv:∀v∈vs,v.cells.size=n):
  (Instr.buildSlice t len ((vs.zipIdx).map λp=>(p.2,p.1)).toArray).run P w= .ok (.slice (some ⟨w.heap.size,0,none⟩) len len) (w.alloc (.cells (vs.flatMap λv=>v.cells.toList).toArray e)):=by
 obtain ⟨hu,inf,hi,hs,_⟩:=qB he;obtain ⟨z,dm,hz2⟩:=zA hz hi;have hb:¬(16777216 < len * inf.size):=by rw [hs];omega
 have hf:∀arr:Array Value,arr.size=len * n->Instr.fill (λi=>some (i * inf.size,inf.size)) arr ((vs.zipIdx).map λp=>(p.2,p.1))=some (vs.flatMap λv=>v.cells.toList).toArray:=by intro arr ha;have:=UB inf.size vs 0 [] arr.toList (by rw [hs];exact hv) (by simp) (by simp [ha,hs,hlen]);simpa using this
 by_cases h0:len * inf.size=0
 .have:=hf #[] (by rw [<-hs,h0];rfl);simp [Instr.buildSlice,fY hu,sizeOf,typeInfo,hi,h0,Array.range_zero',this,newRow]
 .have:=hf ((Array.range (len * inf.size)).map (z.cells[· % z.cells.size]!)) (by simp [hs]);simp [Instr.buildSlice,fY hu,sizeOf,typeInfo,hi,hb,h0,zeroValue,dm,this,newRow]
theorem ND (t:TypeId) (len:Nat) (parts:Array (Nat×Operand)) {e:TypeId} {n by':Nat} (he:iC P t=some (e,n,by')) (hz:bT P e n=true) (Lc:vL parts.toList=true) (hlen:len=parts.toList.length) (hbig:len * n<=16777216) (aUp:len<=16777216)
  (wC:mW s.o ((parts.toList.map (·.2)).map s.ev)=true) (hu:(kH ((parts.toList.map (·.2)).map s.ev)).Nodup)
  (hgood:∀x∈tC s.o ((parts.toList.map (·.2)).map s.ev),x.yA=true/\x.cells.length=n):
  Step P B ⟨dst,.buildSlice t len parts,ty,pos,after,gd⟩ s (s.built dst n (parts.toList.map (·.2))):=
 qM λG a w r=>by
  generalize hxs:parts.toList.map (·.2)=xs at *;have zX:parts.toList=(xs.zipIdx).map λp=>(p.2,p.1):=by rw [<-hxs];exact DC _ 0 Lc
  obtain ⟨fp,uY,hnd,MH⟩:=Hy r _ _ wC hu (wB r xs);obtain ⟨MB,hsz⟩:=Oy uY hgood;have hvl:(xs.map a.eval).length=len:=by rw [hlen,<-hxs];simp
  have hrun:(execOp a.eval ⟨dst,.buildSlice t len parts,ty,pos,after,gd⟩).run P w= .ok (.value (.slice (some ⟨w.heap.size,0,none⟩) len len)) (w.alloc (.cells ((xs.map a.eval).flatMap λv=>v.cells.toList).toArray e)):=by
   have e1:parts.map (λ(i,x)=>(i,a.eval x))=(((xs.map a.eval).zipIdx).map λp=>(p.2,p.1)).toArray:=by apply DE;simp only [CI,zX,map_map,zipIdx_map];rfl
   have:=tH (P:=P) (t:=t) (len:=len) (w:=w) he hz hvl.symm hbig hsz;simp only [execOp,e1,nF,this,lP,sE]
  have hadd:=r.add [⟨true,false,n,0,[]⟩] [⟨none,0,λ_=>False⟩] w rfl (eE _) (λ_ _=>rfl) (λj ob g b hl _ hF=>by
   cases j with
   |zero=>obtain ⟨_,h2⟩:=hl;simp at h2;subst h2;exact hF.elim
   |succ j=>simp [Aw.look] at hl) (λi j _ _ gi _ b hi hj _ _ Es _=>by
   cases i with
   |zero=>obtain ⟨_,h2⟩:=hi;simp at h2;subst h2;exact Es.elim
   |succ i=>simp [Aw.look] at hi) (λk j ob g hl _=>by
   cases j with
   |zero=>obtain ⟨h1,h2⟩:=hl;simp at h1 h2;subst h1;subst h2;exact ⟨[],⟨by simp,.inl ⟨rfl,rfl,rfl⟩⟩,by simp,by simp⟩
   |succ j=>simp [Aw.look] at hl)
  have hlk:Aw.look (s.o++[⟨true,false,n,0,[]⟩]) (G++[⟨none,0,λ_=>False⟩]) s.o.length ⟨true,false,n,0,[]⟩ ⟨none,0,λ_=>False⟩:=⟨by simp,by rw [<-r.len];simp⟩;have hlive:∀j∈kH (xs.map s.ev),∃ob,s.o[j]? =some ob/\ob.live=true:=λj hj=>zB wC j hj
  have hlt:∀j∈kH (xs.map s.ev),j < s.o.length:=λj hj=>by obtain ⟨ob,h,_⟩:=hlive j hj;exact (cH.1 h).1
  obtain ⟨G2,g2,r2,k2,Wn,ha2,XC,zw⟩:=eP.La (k:=s.o.length) (ok:=⟨true,false,n,0,[]⟩) rfl _ hadd.1 hlk hu (λh=>by have:=hlt _ h;omega) (λj hj=>by
   obtain ⟨ob,h1,h2⟩:=hlive j hj;exact ⟨ob,by simp only;rw [pC (hlt j hj)];exact h1,h2⟩)
  have aNl:∀b∈fp,g2.F b:=λb hb=>by obtain ⟨i,ob,g,hi,hli,hil,hf⟩:=MH b hb;exact (zw b).2 (.inr ⟨i,ob,g,hi,nC hli,hil,hf⟩)
  have kk:=(hadd.2.trans k2).plain;have hfl:∀b∈fp,b < w.heap.size:=λb hb=>(r2.fresh _ _ _ b Wn rfl (aNl b hb)).2
  generalize hCd:((xs.map a.eval).flatMap λv=>v.cells.toList)=cs at *;have zT:=jQ MB;have hself:(w.alloc (.cells cs.toArray e)).heap[w.heap.size]? =some (.cells cs.toArray e):=fV w _;have hrl:((tC s.o (xs.map s.ev)).map AV.cells).length=len:=by have:=gG uY;rw [lR,<-this,hvl]
  have UC:len<=maxLen:=by simp only [maxLen];omega
  have hm:=r2.modify Wn rfl ⟨true,false,n,1,(tC s.o (xs.map s.ev)).map AV.cells⟩ ⟨some ⟨w.heap.size,0,none⟩,len,λb=>g2.F b\/b=w.heap.size⟩ (w.alloc (.cells cs.toArray e)) (by simp) rfl (by simp)
   (λb hb=>by
    rcases hb with hb|hb
    .exact .inl hb
    .right;subst hb;simp) (λb hb hne=>⟨.inl hb,λa' vK=>by
     obtain rfl:=cQ vK;have:=(r2.fresh _ _ _ b Wn rfl hb).2;simp only;omega⟩) (λb hlt _=>heap_alloc w _ b hlt) (by simp) (λk _=>by
   refine ⟨w.heap.size::fp,?_,?_,?_⟩
   .generalize env B _ _ (w.alloc (.cells cs.toArray e))=E' at k⊢;simp only [Env.of,eS,gS];refine ⟨by rw [hrl];exact UC,.inr ⟨w.heap.size,0,cs.toArray,e,(0,0),fp,rfl,hself,.inr rfl,?_,by rw [hrl];exact eE _,UC,rfl,?_⟩⟩
    .simp [zT];rw [<-hrl];simp
    .refine rT.2 ⟨cs,uZ k.plain (λb hb=>heap_alloc w _ b (hfl b hb)) (uZ kk (λ_ _=>rfl) MB),?_⟩
     refine qA hself (λj v hv=>by simpa using hv)
   .refine mA.2 ⟨λh=>by have:=hfl _ h;omega,hnd⟩
   .intro b hb;rcases lB.1 hb with rfl|hb
    .exact .inr rfl
    .exact .inl (aNl b hb))
  refine ⟨_,_,hrun,_,hm.1.put dst ?_⟩;simp only [R];have h1:=(cH.1 Wn.1).1;have h2:=(cH.1 Wn.2).1;refine ⟨trivial,⟨true,false,n,1,(tC s.o (xs.map s.ev)).map AV.cells⟩,⟨some ⟨w.heap.size,0,none⟩,len,λb=>g2.F b\/b=w.heap.size⟩,⟨?_,?_⟩,eE _,⟨λ_ _=>by simp only [hrl],λh=>by omega⟩⟩
  .rw [mB h1]
  .rw [mB h2]
def gI (P:Program) (t:TypeId):Option (List (Nat×Nat)):=
 match P.underlying t with
 |some (.struct fields)=>fields.toList.mapM (λf=>(P.info? f.type).map λi=>(f.offset,i.size))
 |some (.array _ e)=>if (P.info? e).isSome then some [] else none
 |_=>none
def MI (pl:List (Nat×Nat)):List AV->List (Nat×AV)->Option (List AV)
 |cs,[]=>some cs
 |cs,(i,x)::rest=>match pl[i]? with
  |some (off,size)=>if x.cells.length=size/\off+size<=cs.length then MI pl (cs.take off++x.cells++cs.drop (off+size)) rest else none
  |none=>none
theorem uz {G:List CO} {a:Act} {w:World} (r:eP B s G a w) (pl:List (Nat×Nat)):∀(parts:List (Nat×Operand)) (cs:List AV) (vs:List Value) (z:List AV),(∀p∈parts,(s.ev p.2).fit s.o=true)->
  Rc w (env B s.o G w) cs vs []->(∀x∈vs,x.oneCell'=true)->MI pl cs (parts.map λp=>(p.1,s.ev p.2))=some z->
  ∃vs',Instr.fill (pl.toArray[·]?) vs.toArray (parts.map λp=>(p.1,a.eval p.2))=some vs'.toArray/\Rc w (env B s.o G w) z vs' []/\∀x∈vs',x.oneCell'=true
 |[],cs,vs,z,_,h,ho,hz=>by simp only [EV,MI,eC] at hz;subst hz;exact ⟨vs,rfl,h,ho⟩
 |(i,x)::rest,cs,vs,z,hf,h,ho,hz=>by
  simp only [mT,MI] at hz;cases hp:pl[i]? with
  |none=>simp [hp] at hz
  |some p=>
   obtain ⟨off,size⟩:=p;simp only [hp] at hz;split at hz
   .rename_i hc;have hx:=Ox (hf (i,x) (by simp)) (r.ev x);have hxl:=gG hx.1;have hl:=gG h;obtain ⟨f1,f2,e,h1,h2⟩:=sD off h;obtain ⟨rfl,rfl⟩:f1=[]/\f2=[]:=by simpa using e.symm
    obtain ⟨f1,f2,e,h3,h4⟩:=sD size h2;obtain ⟨rfl,rfl⟩:f1=[]/\f2=[]:=by simpa using e.symm
    rw [At,At] at h4;have hnew:=mF (mF h1 hx.1) h4;have hvl:(vs.take off).length=off:=by simp;omega
    obtain ⟨vs',h5,h6,h7⟩:=uz r pl rest _ (vs.take off++(a.eval x).cells.toList++vs.drop (off+size)) z (λp hp=>hf p (by simp [hp])) hnew (λy hy=>by
     simp only [fL] at hy;rcases hy with (hy|hy)|hy
     .exact ho y (sC hy)
     .exact hx.2.1 y hy
     .exact ho y (AK hy)) hz
    refine ⟨vs',?_,h6,h7⟩;simp only [mT,Instr.fill];have hpa:pl.toArray[i]? =some (off,size):=by simpa using hp
    have hsz:(a.eval x).cells.size=size:=by rw [<-hc.1,<-hxl];simp
    simp only [hpa];have aNo:¬(((a.eval x).cells.size≠size) || decide (off+(a.eval x).cells.size > vs.toArray.size))=true:=by simp [hsz];omega
    rw [cY (by simpa using aNo)];have:=Lb off (a.eval x).cells.toList 0 (vs.take off) (vs.drop off) (by simpa using hvl) (by simp [hsz];omega);rw [oA] at this;rw [<-Array.foldl_toList,Array.toList_zipIdx,this,<-h5];congr 2;rw [At];simp [hsz]
   .cases hz
theorem dx (t:TypeId) (parts:Array (Nat×Operand)) {pl:List (Nat×Nat)} {z0 z:List AV} (hp:gI P t=some pl) (hz0:dS P t=some z0) (hf:∀p∈parts.toList,(s.ev p.2).fit s.o=true)
  (hz:MI pl z0 (parts.toList.map λp=>(p.1,s.ev p.2))=some z):Step P B ⟨dst,.build t parts,ty,pos,after,gd⟩ s (s.put dst (.agg z)):=
 dY λG a w r=>by
  unfold dS at hz0;cases hi:P.info? t with
  |none=>simp [hi] at hz0
  |some inf=>
   cases hv:inf.zero with
   |none=>simp [hi,hv] at hz0
   |some zv=>
    simp only [hi,hv,tR] at hz0;split at hz0
    .rename_i hall;obtain rfl:=cQ hz0;obtain ⟨vs',h1,h2,h3⟩:=uz r pl parts.toList _ zv.cells.toList z hf (FR w _ _ _) (fS.1 hall) hz;refine ⟨.agg vs'.toArray,?_,by simp only [R];exact ⟨vs',rfl,h3,h2⟩⟩;unfold gI at hp;split at hp
     .rename_i fields hu;have hb:P.built t (parts.map λp=>(p.1,a.eval p.2)).toList=some vs'.toArray:=by
       simp only [Program.built,hi,hu,hv,hp];rw [CI,<-h1]
      have hrun:=run_build (P:=P) w t (parts.map λp=>(p.1,a.eval p.2)) vs'.toArray hb;simp only [execOp,nF];rw [show (parts.map λ(x:Nat×Operand)=>match x with|(i,x)=>(i,a.eval x))=parts.map λp=>(p.1,a.eval p.2) from rfl,hrun];rfl
     .rename_i n e hu;split at hp
      .rename_i he;obtain rfl:=cQ hp;obtain ⟨ie,hie⟩:=Bk.1 he;have hpe:parts.toList=[]:=by
        cases hpl:parts.toList with
        |nil=>rfl
        |cons q qs=>rw [hpl] at hz;simp [MI] at hz
       have hb:P.built t (parts.map λp=>(p.1,a.eval p.2)).toList=some vs'.toArray:=by simp only [Program.built,hi,hu,hv,hie];rw [CI,<-h1,hpe];rfl
       have hrun:=run_build (P:=P) w t (parts.map λp=>(p.1,a.eval p.2)) vs'.toArray hb;simp only [execOp,nF];rw [show (parts.map λ(x:Nat×Operand)=>match x with|(i,x)=>(i,a.eval x))=parts.map λp=>(p.1,a.eval p.2) from rfl,hrun];rfl
      .cases hp
     .cases hp
    .cases hz0
theorem Ty (z:Array Value) (n j:Nat) (hj:j < n):(madeCells z n)[j]? =some (z[j % z.size]!):=by simp [madeCells,hj]
theorem Jp {w:World} {E:Env} {c:List AV} {cs:List Value} {n:Nat} (hn:cs.length=n) (ho:∀x∈cs,x.oneCell'=true) (hr:Rc w E c cs []):∀m,Rv w E (replicate m c) (replicate m cs).flatten n []
 |0=>by simp [Rv]
 |m+1=>by simp only [pD,pH,Rv];exact ⟨cs,_,[],[],rfl,hn,ho,hr,Jp hn ho hr m,rfl⟩
theorem xU (cs:List Value):∀(m j:Nat),j < m * cs.length->(replicate m cs).flatten[j]? =cs[j % cs.length]?
 |0,j,h=>by simp at h
 |m+1,j,h=>by
  simp only [pD,pH];by_cases hj:j < cs.length
  .rw [pC hj,Nat.mod_eq_of_lt hj]
  .rw [hY (by omega),xU cs m (j - cs.length) (by rw [pP] at h;omega)];congr 1;exact (Nat.mod_eq_sub_mod (by omega)).symm
theorem aAx (t:TypeId) {e:TypeId} {n by':Nat} (he:iC P t=some (e,n,by')) (hz:bT P e n=true):
  Step P B ⟨dst,.buildSlice t 0 #[],ty,pos,after,gd⟩ s (s.put dst (.sl .own n [])):=
 qM λG a w r=>by
  have hrun:=tH (P:=P) (t:=t) (len:=0) (w:=w) (vs:=[]) he hz rfl (by omega) (by simp);have hadd:=r.add [] [] (w.alloc (.cells #[] e)) rfl (by simp) (λb hb=>heap_alloc w _ b hb) (λj ob g b hl=>by simp [Aw.look] at hl) (λi j _ _ _ _ b hi=>by simp [Aw.look] at hi) (λk j ob g hl=>by simp [Aw.look] at hl);simp only [fX] at hadd;refine ⟨.slice (some ⟨w.heap.size,0,none⟩) 0 0,w.alloc (.cells #[] e),?_,G,hadd.1.put dst ?_⟩
  .have h2:(Instr.buildSlice t 0 #[]).run P w= .ok (.slice (some ⟨w.heap.size,0,none⟩) 0 0) (w.alloc (.cells #[] e)):=by simpa using hrun
   simp [execOp,h2]
  .simp only [R];exact .inr ⟨_,0,rfl,⟨by simp,by simp⟩,.inl ⟨trivial,trivial,rfl,trivial⟩⟩
def AS.made (s:AS) (d:Option Tmp) (n:Nat) (l:List (List AV)):AS:=AS.put ⟨s.t,s.o++[⟨true,false,n,1,l⟩]⟩ d (.obj s.o.length 1)
theorem PD (t:TypeId) (x y:Operand) {e:TypeId} {n by':Nat} {k k':IntKind} {l c:Int} {z:List AV} (he:iC P t=some (e,n,by')) (hz:dS P e=some z) (hzn:bT P e n=true) (hx:s.ev x= .int k l) (hy:s.ev y= .int k' c)
  (h0:0<=l) (h1:l<=c) (hb:(by':Int) * c<=281474976710656) (h63:c<=9223372036854775807) (hn0:0 < n):
  Step P B ⟨dst,.makeSlice t x y,ty,pos,after,gd⟩ s (s.made dst n (replicate l.toNat z)):=
 qM λG a w r=>by
  obtain ⟨hu,inf,hi,hs,hby⟩:=qB he;obtain ⟨zv,dm,hz2⟩:=zA hzn hi;have hrun:=run_make (P:=P) w t e inf zv hu hi dm k k' l c h0 h1 (by rw [hby];exact hb) h63;unfold dS at hz;simp only [hi,dm,tR] at hz;split at hz
  .rename_i hall;obtain rfl:=cQ hz;have Wo:zv.cells.toList.length=n:=by simpa using hz2
   obtain ⟨G',r',k',hG⟩:=r.aM8 ⟨true,false,n,1,replicate l.toNat (VY (zv.cells.toList.map ofV) (slN P 8 e))⟩ c.toNat (madeCells zv.cells (c.toNat * inf.size)) e (by simp;omega) (by simp [maxLen];omega) (by simp [size_madeCells,hs]) (λw' E' k hb=>by
    refine rT.2 ⟨_,Jp Wo (fS.1 hall) (FR w' E' _ _) l.toNat,?_⟩;refine qA hb (λj v hv=> ?_);have hj:=(cH.1 hv).1;have hfl:(replicate l.toNat zv.cells.toList).flatten.length=l.toNat * n:=by simp [hz2]
    rw [hfl] at hj;rw [xU _ _ _ (by rw [Wo];exact hj),Wo] at hv;have hle:l.toNat * n<=c.toNat * inf.size:=by rw [hs];exact kO _ (by omega)
    rw [hM,Ty _ _ _ (by omega),hz2];have hm:j % n < zv.cells.size:=by rw [hz2];exact Nat.mod_lt _ hn0
    rw [getElem!_pos zv.cells (j % n) hm];rw [<-hv];simp [hm])
   refine ⟨.slice (some ⟨w.heap.size,0,none⟩) l.toNat c.toNat,_,by simp only [execOp,r.HV hx,r.HV hy,nF,hrun,lP,sE],G',r'.put dst ?_⟩;simp only [R];exact ⟨trivial,_,_,Uz hG,eE _,⟨λ_ _=>by simp,λh=>by omega⟩⟩
  .cases hz
def AS.at (s:AS) (i bY idx:Nat):Option (aM×List AV):=
 match AV.isObj s.o i bY with
 |some ob=>match ob.dR[idx]? with
  |some e=>some (ob,e)
  |none=>none
 |none=>none
def Ag (P:Program) (t:TypeId) (c:List AV) (off:Nat) (K:AV->Prop):Prop:=
 match bQ P t with
 |some n=>off+n<=c.length/\K (.agg ((c.drop off).take n))
 |none=>gL P t=true/\match c[off]? with
  |some y=>K y
  |none=>False
def qJ (P:Program) [aC P] (o:Oper) (s:AS) (K:AS->Prop):Prop:=
 match o.op with
 | .move x=>K (s.put o.dst (s.ev x))
 | .assign x=>K (s.put o.dst (s.ev x))
 | .pick c x y=>match s.ev c with
  | .bool b=>K (s.put o.dst (if b then s.ev x else s.ev y))
  |_=>False
 | .alloc t=>match dS P t with
  |some z=>K (s.box o.dst z)
  |none=>False
 | .box _ x=>(s.ev x).fit s.o=true/\K (s.box o.dst (s.ev x).cells)
 | .build t parts=>match gI P t with
  |some pl=>match dS P t with
   |some z0=>(∀p∈parts.toList,(s.ev p.2).fit s.o=true)/\match MI pl z0 (parts.toList.map λp=>(p.1,s.ev p.2)) with
    |some z=>K (s.put o.dst (.agg z))
    |none=>False
   |none=>False
  |none=>False
 | .buildSlice t len parts=>match iC P t with
  |some (e,n,_)=>bT P e n=true/\vL parts.toList=true/\len=parts.toList.length/\len * n<=16777216/\len<=16777216/\
    mW s.o ((parts.toList.map (·.2)).map s.ev)=true/\(kH ((parts.toList.map (·.2)).map s.ev)).Nodup/\
    (∀x∈tC s.o ((parts.toList.map (·.2)).map s.ev),x.yA=true/\x.cells.length=n)/\K (s.built o.dst n (parts.toList.map (·.2)))
  |none=>False
 | .load t x=>match s.ev x with
  | .ptr i bY idx off=>match s.at i bY idx with
   |some (_,e)=>Ag P t (xS (Dw i) true e) off λy=>K (s.put o.dst y)
   |none=>False
  | .gD g c off=>(AV.gD g c off).fit s.o=true/\Ag P t c off λy=>K (s.put o.dst y)
  |_=>False
 | .store t x y=>match s.ev x with
  | .ptr i bY idx off=>match s.at i bY idx with
   |some (ob,e)=>(s.ev y).fit s.o=true/\fB P t=some (s.ev y).cells.length/\off+(s.ev y).cells.length<=e.length/\
     if (ob.box || (s.ev y).cells.all AV.MC)=true then K ((s.stored i idx off ob e (s.ev y).cells).put o.dst .undef)
     else mW s.o (s.ev y).cells=true/\(kH (s.ev y).cells).Nodup/\i∉kH (s.ev y).cells/\K ((s.shut i idx off ob e (s.ev y).cells).put o.dst .undef)
   |none=>False
  |_=>False
 | .fieldAddr t x f=>match aZ P t f with
  |some fo=>match s.ev x with
   | .ptr i bY idx off=>(AV.isObj s.o i bY).isSome=true/\K (s.put o.dst (.ptr i bY idx (off+fo)))
   | .gD g c off=>(AV.gD g c off).fit s.o=true/\K (s.put o.dst (.gD g c (off+fo)))
   |_=>False
  |none=>False
 | .indexAddr t x ix=>match s.ev ix with
  | .int _ n=>0<=n/\match s.ev x with
   | .obj i bY=>match AV.isObj s.o i bY with
    |some ob=>match iC P t with
     |some (_,m,_)=>m=ob.n/\(ob.box=false\/ob.bY≠2)/\n < ob.dR.length/\K (s.put o.dst (.ptr i bY n.toNat 0))
     |none=>False
    |none=>False
   | .sl g m l=>(AV.sl g m l).fit s.o=true/\match iC P t with
    |some (_,m',_)=>m'=m/\match l[n.toNat]? with
     |some c=>K (s.put o.dst (.gD g c 0))
     |none=>False
    |none=>False
   | .ptr i bY idx off=>(AV.isObj s.o i bY).isSome=true/\match aFz P t with
    |some (len,sz)=>n < len/\K (s.put o.dst (.ptr i bY idx (off+n.toNat * sz)))
    |none=>False
   |_=>False
  |_=>False
 | .index t x ix=>match s.ev x with
  | .str l=>match s.ev ix with
   | .int _ n=>isString P t=true/\0<=n/\match l[n.toNat]? with
    |some u=>K (s.put o.dst (.int .u8 u.toNat))
    |none=>False
   |_=>False
  |_=>False
 | .extract x ix=>match s.ev x with
  | .iJ c=>match c[ix]? with
   |some y=>K (s.put o.dst y)
   |none=>False
  |_=>False
 | .makeFunc (.func f) ⟨[]⟩ cap=>K (s.put o.dst (.fn f (s.args cap)))
 | .makeSlice t x y=>match iC P t with
  |some (e,n,by')=>match dS P e with
   |some z=>match s.ev x with
    | .int _ l=>match s.ev y with
     | .int _ c=>bT P e n=true/\0<=l/\l<=c/\(by':Int) * c<=281474976710656/\c<=9223372036854775807/\0 < n/\K (s.made o.dst n (replicate l.toNat z))
     |_=>False
    |_=>False
   |none=>False
  |none=>False
 | .slice t x lo hi none=>match s.ev x with
  | .str l=>match s.bound 0 lo with
   |some a=>match s.bound l.length hi with
    |some b=>isString P t=true/\a<=b/\b<=l.length/\K (s.put o.dst (.str ((l.take b).drop a)))
    |none=>False
   |none=>False
  | .sl g n l=>match s.bound 0 lo with
   |some a=>match s.bound l.length hi with
    |some b=>match iC P t with
     |some (_,m,_)=>m=n/\(AV.sl g n l).fit s.o=true/\a<=b/\b<=l.length/\K (s.put o.dst (.sl g n ((l.take b).drop a)))
     |none=>False
    |none=>False
   |none=>False
  | .obj i bY=>match AV.isObj s.o i bY with
   |some ob=>match s.bound 0 lo with
    |some a=>match s.bound ob.dR.length hi with
     |some b=>match iC P t with
      |some (_,m,_)=>m=ob.n/\ob.box=false/\a<=b/\b<=ob.dR.length/\K (s.Py o.dst i ob ((ob.dR.take b).drop a))
      |none=>False
     |none=>False
    |none=>False
   |none=>False
  |_=>False
 | .unOp .not _ x=>match s.ev x with
  | .bool b=>K (s.put o.dst (.bool !b))
  |_=>False
 | .unOp .neg _ x=>match s.ev x with
  | .int k n=>K (s.put o.dst (.int k (k.wrap (0 - n))))
  |_=>False
 | .binOp op t x y _=>match s.ev x with
  | .int k m=>match s.ev y with
   | .int k' n=>(k'=k\/op= .shr)/\match Pv op k m n with
    |some z=>K (s.put o.dst z)
    |none=>False
   |_=>False
  | .str l=>match s.ev y with
   | .str m=>(op= .add->l.length+m.length<=9223372036854775807)/\match Wm op l m with
    |some z=>K (s.put o.dst z)
    |none=>False
   |_=>False
  | .bool a=>match s.ev y with
   | .bool b=>(op= .eql\/op= .neq)/\Jo P t=true/\K (s.put o.dst (.bool (if op= .eql then a == b else a != b)))
   |_=>False
  | .agg c1=>match s.ev y with
   | .agg c2=>(op= .eql\/op= .neq)/\c1.all AV.scalar=true/\c2.all AV.scalar=true/\∃b,EqA P t c1 c2 b/\K (s.put o.dst (.bool (if op= .eql then b else !b)))
   |_=>False
  |_=>False
 | .convert src d x=>match s.ev x with
  | .int _ n=>match intType P d with
   |some k'=>(P.underlying src).isSome=true/\K (s.put o.dst (.int k' (k'.wrap n)))
   |none=>False
  | .str l=>isString P src=true/\isString P d=true/\K (s.put o.dst (.str l))
  | .sl g n l=>match iC P src with
   |some (e,m,_)=>m=1/\n=1/\(AV.sl g n l).fit s.o=true/\isString P d=true/\intType P e=some .u8/\∃bs,bytesOf l=some bs/\K (s.put o.dst (.str bs))
   |none=>False
  | .obj i bY=>match AV.isObj s.o i bY with
   |some ob=>match iC P src with
    |some (e,m,_)=>m=1/\ob.n=1/\isString P d=true/\intType P e=some .u8/\∃bs,bytesOf ob.dR=some bs/\K (s.put o.dst (.str bs))
    |none=>False
   |none=>False
  |_=>False
 | .call ⟨.builtin .len,⟨[x]⟩,⟨[t]⟩⟩=>match s.ev x with
  | .str l=>isString P t=true/\K (s.put o.dst (.int .i64 l.length))
  | .sl g n l=>(AV.sl g n l).fit s.o=true/\isSlice P t=true/\K (s.put o.dst (.int .i64 l.length))
  | .obj i bY=>match AV.isObj s.o i bY with
   |some ob=>isSlice P t=true/\K (s.put o.dst (.int .i64 ob.dR.length))
   |none=>False
  |_=>False
 | .call ⟨.builtin .append,⟨[x,y]⟩,⟨[tS,xT]⟩⟩=>match iC P tS with
  |some (e,n,by')=>bT P e n=true/\eT P xT=true/\match s.target n (s.ev x) with
   |some (i,ob,s1)=>match s1.source i n (s.ev y) with
    |some (l2,o2)=>(ob.dR.length+l2.length) * by'<=140737488355328/\ob.dR.length+l2.length<=9223372036854775807/\K (s.wT o2 o.dst i ob l2)
    |none=>False
   |none=>False
  |none=>False
 | .call ⟨.value f,args,_⟩=>match s.ev f with
  | .fn g cap=>if aY P g=true then∃r,Ok P g (BM s.o (s.args args++cap)) r/\K (s.called o.dst r) else∃r,OkN P g (BM s.o (s.args args++cap)) r/\K (s.put o.dst r)
  |_=>False
 | .nilCheck x=>match s.ev x with
  | .ptr i bY idx off=>(AV.isObj s.o i bY).isSome=true/\K (s.put o.dst (.ptr i bY idx off))
  | .gD g c off=>(AV.gD g c off).fit s.o=true/\K (s.put o.dst (.gD g c off))
  |_=>False
 |_=>False
def Tz (P:Program) (o:Oper) (s:AS) (K:AS->Prop):Prop:=
 match o.op with
 | .buildSlice t 0 ⟨[]⟩=>match iC P t with
  |some (e,n,_)=>bT P e n=true/\K (s.put o.dst (.sl .own n []))
  |none=>False
 |_=>False
theorem Ao {s:AS} {i bY idx:Nat} {ob:aM} {e:List AV} (h:s.at i bY idx=some (ob,e)):AV.isObj s.o i bY=some ob/\ob.dR[idx]? =some e:=by
 unfold AS.at at h;split at h
 .rename_i fI h1;split at h
  .rename_i e' h2;simp only [eC,oS] at h;obtain ⟨rfl,rfl⟩:=h;exact ⟨h1,h2⟩
  .cases h
 .cases h
theorem Ia {s:AS} {i bY:Nat} (h:(AV.isObj s.o i bY).isSome=true):∃ob,AV.isObj s.o i bY=some ob:=Bk.1 h
theorem zz {P:Program} [aC P] {B:gN P} {s:AS} {dst:Option Tmp} {ty:TypeId} {pos:String} {after:Array Edge} {gd:Option (Nat×Bool)} {t:TypeId} {x:Operand} {i bY idx off:Nat} {ob:aM} {e:List AV} {K:AS->Prop}
  (hx:s.ev x= .ptr i bY idx off) (ha:s.at i bY idx=some (ob,e)) (h:Ag P t (xS (Dw i) true e) off λy=>K (s.put dst y)):∃s',K s'/\Step P B ⟨dst,.load t x,ty,pos,after,gd⟩ s s':=by
 obtain ⟨h1,h2⟩:=Ao ha;unfold Ag at h;split at h
 .rename_i n hn;exact ⟨_,h.2,Jj t x hx h1 h2 hn (by have:=h.1;rwa [Dx] at this)⟩
 .split at h
  .rename_i y hy;exact ⟨_,h.2,Jk t x hx h1 h2 h.1 hy⟩
  .exact h.2.elim
theorem dz {P:Program} [aC P] {B:gN P} {s:AS} {dst:Option Tmp} {ty:TypeId} {pos:String} {after:Array Edge} {gd:Option (Nat×Bool)} {t:TypeId} {x:Operand} {g:Tg} {c:List AV} {off:Nat} {K:AS->Prop}
  (hx:s.ev x= .gD g c off) (hf:(AV.gD g c off).fit s.o=true) (h:Ag P t c off λy=>K (s.put dst y)):∃s',K s'/\Step P B ⟨dst,.load t x,ty,pos,after,gd⟩ s s':=by
 unfold Ag at h;split at h
 .rename_i n hn;exact ⟨_,h.2,Ht t x hx hf hn h.1⟩
 .split at h
  .rename_i y hy;exact ⟨_,h.2,Hu t x hx hf h.1 hy⟩
  .exact h.2.elim
theorem Wp (x:Operand) {i bY idx off:Nat} {ob:aM} (hx:s.ev x= .ptr i bY idx off) (ho:AV.isObj s.o i bY=some ob):Step P B ⟨dst,.nilCheck x,ty,pos,after,gd⟩ s (s.put dst (.ptr i bY idx off)):=
 dY λG a w r=>by obtain ⟨g,b,f,_,_,_,hv⟩:=r.ptr hx ho;refine ⟨a.eval x,?_,by have:=r.ev x;rwa [hx] at this⟩;simp only [execOp];rw [hv];rfl
theorem TA (x:Operand) {g:Tg} {c:List AV} {off:Nat} (hx:s.ev x= .gD g c off) (hf:(AV.gD g c off).fit s.o=true):Step P B ⟨dst,.nilCheck x,ty,pos,after,gd⟩ s (s.put dst (.gD g c off)):=
 dY λG a w r=>by
  have h:=r.ev x;rw [hx] at h;refine ⟨a.eval x,?_,h⟩;have h':=h;simp only [R] at h';rcases h' with ⟨hd,_⟩|⟨_,b,o,cs,hv,_⟩
  .cases g with
   |own=>exact hd.elim
   |view=>exact hd.elim
   |jZ i=>exfalso;simp only [AV.fit] at hf;refine hd (λob uX=> ?_);simpa [uX] using hf
  .simp only [execOp];rw [hv];rfl
theorem AP {P:Program} [aC P] {B:gN P} {o:Oper} {s:AS} {K:AS->Prop} (h:qJ P o s K):∃s',K s'/\Step P B o s s':=by
 obtain ⟨dst,op,ty,pos,after,gd⟩:=o;unfold qJ at h;dsimp only at h;split at h;case h_1=>exact ⟨_,h,zm _⟩
 case h_2=>exact ⟨_,h,XG _⟩
 case h_3=>
  split at h
  .rename_i hc;exact ⟨_,h,zq _ _ _ hc⟩
  .exact h.elim
 case h_4=>
  split at h
  .rename_i hz;exact ⟨_,h,bz _ hz⟩
  .exact h.elim
 case h_5=>exact ⟨_,h.2,aAh _ _ h.1⟩
 case h_6=>
  split at h
  .rename_i hp;split at h
   .rename_i hz;obtain ⟨h1,h⟩:=h;split at h
    .rename_i hf;exact ⟨_,h,dx _ _ hp hz h1 hf⟩
    .exact h.elim
   .exact h.elim
  .exact h.elim
 case h_7=>
  split at h
  .rename_i he;obtain ⟨h1,h2,h3,h4,h5,h6,h7,h8,h9⟩:=h;exact ⟨_,h9,ND _ _ _ he h1 h2 h3 h4 h5 h6 h7 h8⟩
  .exact h.elim
 case h_8=>
  split at h
  .rename_i hx;split at h
   .rename_i ha;exact zz hx ha h
   .exact h.elim
  .rename_i hx;exact dz hx h.1 h.2
  .exact h.elim
 case h_9=>
  split at h
  .rename_i hx;split at h
   .rename_i ha;obtain ⟨a1,a2⟩:=Ao ha;obtain ⟨h1,h2,h3,h⟩:=h;split at h
    .rename_i hb;exact ⟨_,h,dh _ _ _ hx a1 a2 h1 h2 h3 (by simpa using hb)⟩
    .rename_i hb;obtain ⟨h4,h5,h6,h7⟩:=h;exact ⟨_,h7,Ld _ _ _ hx a1 a2 h1 h2 h3 (by simp at hb;exact hb.1) h4 h5 h6⟩
   .exact h.elim
  .exact h.elim
 case h_10=>
  split at h
  .rename_i hf;split at h
   .rename_i hx;obtain ⟨ob,ho⟩:=Ia h.1;exact ⟨_,h.2,Pk _ _ _ hx ho hf⟩
   .rename_i hx;exact ⟨_,h.2,NC _ _ _ hx h.1 hf⟩
   .exact h.elim
  .exact h.elim
 case h_11=>
  split at h
  .rename_i hi;obtain ⟨h0,h⟩:=h;split at h
   .rename_i hx;split at h
    .rename_i ho;split at h
     .rename_i he;obtain ⟨rfl,hb,h1,h2⟩:=h;exact ⟨_,h2,Pp _ _ _ hx ho hi he h0 h1 hb⟩
     .exact h.elim
    .exact h.elim
   .rename_i hx;obtain ⟨hf,h⟩:=h;split at h
    .rename_i he;obtain ⟨rfl,h⟩:=h;split at h
     .rename_i hc;exact ⟨_,h,Tt _ _ _ hx hf hi he h0 hc⟩
     .exact h.elim
    .exact h.elim
   .rename_i hx;obtain ⟨hs,h⟩:=h;obtain ⟨ob,ho⟩:=Ia hs;split at h
    .rename_i ha;exact ⟨_,h.2,Pq _ _ _ hx ho hi ha h0 h.1⟩
    .exact h.elim
   .exact h.elim
  .exact h.elim
 case h_12=>
  split at h
  .rename_i hx;split at h
   .rename_i hi;obtain ⟨ht,h0,h⟩:=h;split at h
    .rename_i hu;exact ⟨_,h,Ps _ _ _ hx hi ht h0 hu⟩
    .exact h.elim
   .exact h.elim
  .exact h.elim
 case h_13=>
  split at h
  .rename_i hx;split at h
   .rename_i hy;exact ⟨_,h,Wi _ _ hx hy⟩
   .exact h.elim
  .exact h.elim
 case h_14=>exact ⟨_,h,Tu _ _⟩
 case h_15=>
  split at h
  .rename_i he;split at h
   .rename_i hz;split at h
    .rename_i hx;split at h
     .rename_i hy;obtain ⟨h1,h2,h3,h4,h5,h6,h7⟩:=h;exact ⟨_,h7,PD _ _ _ he hz h1 hx hy h2 h3 h4 h5 h6⟩
     .exact h.elim
    .exact h.elim
   .exact h.elim
  .exact h.elim
 case h_16=>
  split at h
  .rename_i hx;split at h
   .rename_i hl;split at h
    .rename_i hh;obtain ⟨h1,h2,h3,h4⟩:=h;exact ⟨_,h4,Pw _ _ _ _ hx h1 hl hh h2 h3⟩
    .exact h.elim
   .exact h.elim
  .rename_i hx;split at h
   .rename_i hl;split at h
    .rename_i hh;split at h
     .rename_i he;obtain ⟨rfl,h1,h2,h3,h4⟩:=h;exact ⟨_,h4,Tv _ _ _ _ hx h1 he hl hh h2 h3⟩
     .exact h.elim
    .exact h.elim
   .exact h.elim
  .rename_i hx;split at h
   .rename_i ho;split at h
    .rename_i hl;split at h
     .rename_i hh;split at h
      .rename_i he;obtain ⟨rfl,h1,h2,h3,h4⟩:=h;exact ⟨_,h4,Pz _ _ _ _ hx ho h1 he hl hh h2 h3⟩
      .exact h.elim
     .exact h.elim
    .exact h.elim
   .exact h.elim
  .exact h.elim
 case h_17=>
  split at h
  .rename_i hx;exact ⟨_,h,aAn _ _ hx⟩
  .exact h.elim
 case h_18=>
  split at h
  .rename_i hx;exact ⟨_,h,aAo _ _ hx⟩
  .exact h.elim
 case h_19=>
  split at h
  .rename_i hx;split at h
   .rename_i hy;obtain ⟨hkk,h⟩:=h;split at h
    .rename_i hz;exact ⟨_,h,aAq _ _ _ _ _ hx hy hkk hz⟩
    .exact h.elim
   .exact h.elim
  .rename_i hx;split at h
   .rename_i hy;obtain ⟨hle,h⟩:=h;split at h
    .rename_i hz;exact ⟨_,h,aAw _ _ _ _ _ hx hy hz hle⟩
    .exact h.elim
   .exact h.elim
  .rename_i hx;split at h
   .rename_i hy;exact ⟨_,h.2.2,Wl _ _ _ _ _ h.1 hx hy h.2.1⟩
   .exact h.elim
  .rename_i hx;split at h
   .rename_i hy;obtain ⟨h1,h2,h3,b,h4,h5⟩:=h;exact ⟨_,h5,XT _ _ _ _ _ h1 hx hy h2 h3 h4⟩
   .exact h.elim
  .exact h.elim
 case h_20=>
  split at h
  .rename_i hx;split at h
   .rename_i hk;exact ⟨_,h.2,Tw _ _ _ hx hk h.1⟩
   .exact h.elim
  .rename_i hx;exact ⟨_,h.2.2,Tx _ _ _ hx h.2.1 h.1⟩
  .rename_i hx;split at h
   .rename_i he;obtain ⟨rfl,rfl,h1,h2,h3,bs,h4,h5⟩:=h;exact ⟨_,h5,EK _ _ _ hx h1 h2 he h3 h4⟩
   .exact h.elim
  .rename_i hx;split at h
   .rename_i ho;split at h
    .rename_i he;obtain ⟨rfl,h1,h2,h3,bs,h4,h5⟩:=h;exact ⟨_,h5,Gp _ _ _ hx ho h2 he h1 h3 h4⟩
    .exact h.elim
   .exact h.elim
  .exact h.elim
 case h_21=>
  split at h
  .rename_i hx;exact ⟨_,h.2,Wh _ _ hx h.1⟩
  .rename_i hx;exact ⟨_,h.2.2,XP _ _ hx h.1 h.2.1⟩
  .rename_i hx;split at h
   .rename_i ho;exact ⟨_,h.2,We _ _ hx ho h.1⟩
   .exact h.elim
  .exact h.elim
 case h_22=>
  split at h
  .rename_i he;obtain ⟨h1,h2,h⟩:=h;split at h
   .rename_i ht;split at h
    .rename_i hs;obtain ⟨h3,h4,h5⟩:=h;exact ⟨_,h5,step_append _ _ _ _ he h1 h2 ht hs h3 h4⟩
    .exact h.elim
   .exact h.elim
  .exact h.elim
 case h_23=>
  split at h
  .rename_i hf;split at h
   .rename_i h1;obtain ⟨r,h2,h3⟩:=h;exact ⟨_,h3,zo _ _ _ hf h1 h2⟩
   .obtain ⟨r,h2,h3⟩:=h;exact ⟨_,h3,XJ _ _ _ hf h2⟩
  .exact h.elim
 case h_24=>
  split at h
  .rename_i hx;obtain ⟨ob,ho⟩:=Ia h.1;exact ⟨_,h.2,Wp _ hx ho⟩
  .rename_i hx;exact ⟨_,h.2,TA _ hx h.1⟩
  .exact h.elim
 case h_25=>exact h.elim
theorem PE {P:Program} [aC P] {B:gN P} {o:Oper} {s:AS} {K:AS->Prop} (h:Tz P o s K):∃s',K s'/\Step P B o s s':=by
 obtain ⟨dst,op,ty,pos,after,gd⟩:=o;unfold Tz at h;dsimp only at h;split at h
 .split at h
  .rename_i he;exact ⟨_,h.2,aAx _ he h.1⟩
  .exact h.elim
 .exact h.elim
def AV.iE:AV->Bool
 | .int _ _=>true
 | .bool _=>true
 | .str _=>true
 |_=>false
def qN (w:World) (O:Nat->Prop):Env:=⟨λb=>b < w.heap.size/\¬O b,λ_=>True,λ_ _=>False,λ_ _ _=>False,λ_ _ _ _ _=>False⟩
def ek (P:Program) [aC P] (f:FuncId) (x x':AV) (rest:List AV) (r:AV):Prop:=
 ∀(w:World) (v:Value) (vs:List Value) (fp:List Nat),aC.holds P w->(∀b∈fp,aC.low P<=b)->R w (qN w (· ∈fp)) x v fp->fp.Nodup->(∀b∈fp,b < w.heap.size)->Rc w (qN w (· ∈fp)) rest vs []->
  Calls P f (v::vs).toArray w λe w'=>∃u zU,e= .returned u/\R w' lV r u []/\R w' lV x' v zU/\zU.Nodup/\
   (∀b∈zU,(b∈fp\/w.heap.size<=b)/\b < w'.heap.size)/\w.heap.size<=w'.heap.size/\(∀b,b < w.heap.size->b∉fp->w'.heap[b]? =w.heap[b]?)/\nG w w'
mutual
def mt (o:List aM):AV->AV->Bool
 | .obj i _,.sl .own n _=>match o[i]? with
  |some ob=>decide (ob.n=n)
  |none=>false
 | .agg c,.agg c'=>mtc o c c'
 | .int _ _,x=>x.iE
 | .bool _,x=>x.iE
 | .str _,x=>x.iE
 |_,_=>false
def mtc (o:List aM):List AV->List AV->Bool
 |[],[]=>true
 |x::xs,y::ys=>mt o x y&&mtc o xs ys
 |_,_=>false
end
mutual
def BR:AV->AV->List (Nat×List (List AV))
 | .obj i _,.sl _ _ rows=>[(i,rows)]
 | .agg c,.agg c'=>CS c c'
 |_,_=>[]
def CS:List AV->List AV->List (Nat×List (List AV))
 |x::xs,y::ys=>BR x y++CS xs ys
 |_,_=>[]
end
theorem Le {w:World} {E:Env} {x:AV} {v:Value} {fp:List Nat} (hx:x.iE=true) (h:R w E x v fp):fp=[]:=by cases x<;>simp only [AV.iE] at hx<;>first|(cases hx;done)|(simp only [R] at h;exact h.2)
structure Part where
  i : Nat
  rows : List (List AV)
  fp : List Nat
def aAz (o:List aM) (G:List CO) (w':World) (p:Part):Prop:=
 ∃ob g,look o G p.i ob g/\ob.live=true/\ob.box=false/\uW w' lV ob.n p.rows g.a g.cap p.fp/\p.rows.length=ob.dR.length
def pX (L:List Part):List Nat:=L.flatMap (·.fp)
mutual
theorem ve {P:Program} [aC P] {B:gN P} {s:AS} {G:List CO} {w w':World}:∀(x x':AV) (v:Value) (zU:List Nat),jM s.o x=true->mt s.o x x'=true->R w (env B s.o G w) x v []->R w' lV x' v zU->
  ∃L:List Part,L.map (·.i)=lU x/\BR x x'=L.map (λp=>(p.i,p.rows))/\zU=pX L/\∀p∈L,aAz s.o G w' p
 | .obj i bY,.sl .own n rows,v,zU,ho,hm,h,h'=>by
  cases uX:AV.isObj s.o i bY with
  |none=>simp [jM,uX] at ho
  |some ob=>simp only [jM,uX] at ho;simp only [R] at h;obtain ⟨_,fI,g,hl,_,hh,_⟩:=h;obtain ⟨h1,h2,h3⟩:=kY uX;obtain rfl:=cQ (hl.1.symm.trans h1);have hv:=hh h2 h3;obtain ⟨a,cap,hv',hown⟩:=rH.1 h';rw [hv] at hv';simp only [Value.slice.injEq] at hv';obtain ⟨rfl,hlen,rfl⟩:=hv';simp only [mt,h1,fN] at hm;refine ⟨[⟨i,rows,zU⟩],rfl,rfl,by simp [pX],?_⟩;intro p hp;simp at hp;subst hp;exact ⟨_,g,hl,h2,by simpa using ho,by rw [hm];exact hown,hlen.symm⟩
 | .agg c,.agg c',v,zU,ho,hm,h,h'=>by
  simp only [R] at h h';obtain ⟨cs,rfl,_,hr⟩:=h;obtain ⟨cs',hv,_,hr'⟩:=h';have:cs=cs':=by simpa using hv
  subst this;obtain ⟨L,h1,h2,h3,h4⟩:=XV c c' cs zU (by simpa [jM] using ho) (by simpa [mt] using hm) hr hr';exact ⟨L,by simpa [lU] using h1,by simpa [BR] using h2,h3,h4⟩
 | .int _ _,x',v,zU,_,hm,_,h'=>⟨[],rfl,by simp [BR],by simpa [pX] using Le (by simpa [mt] using hm) h',by simp⟩
 | .bool _,x',v,zU,_,hm,_,h'=>⟨[],rfl,by simp [BR],by simpa [pX] using Le (by simpa [mt] using hm) h',by simp⟩
 | .str _,x',v,zU,_,hm,_,h'=>⟨[],rfl,by simp [BR],by simpa [pX] using Le (by simpa [mt] using hm) h',by simp⟩
 | .sl _ _ _,_,_,_,_,hm,_,_=>by simp [mt] at hm
 | .gD _ _ _,_,_,_,_,hm,_,_=>by simp [mt] at hm
 | .ptr _ _ _ _,_,_,_,_,hm,_,_=>by simp [mt] at hm
 | .iJ _,_,_,_,_,hm,_,_=>by simp [mt] at hm
 | .fn _ _,_,_,_,_,hm,_,_=>by simp [mt] at hm
 | .undef,_,_,_,_,hm,_,_=>by simp [mt] at hm
 | .obj _ _,.sl .view _ _,_,_,_,hm,_,_=>by simp [mt] at hm
 | .obj _ _,.sl (.jZ _) _ _,_,_,_,hm,_,_=>by simp [mt] at hm
 | .obj _ _,.int _ _,_,_,_,hm,_,_=>by simp [mt] at hm
 | .obj _ _,.bool _,_,_,_,hm,_,_=>by simp [mt] at hm
 | .obj _ _,.str _,_,_,_,hm,_,_=>by simp [mt] at hm
 | .obj _ _,.gD _ _ _,_,_,_,hm,_,_=>by simp [mt] at hm
 | .obj _ _,.obj _ _,_,_,_,hm,_,_=>by simp [mt] at hm
 | .obj _ _,.ptr _ _ _ _,_,_,_,hm,_,_=>by simp [mt] at hm
 | .obj _ _,.agg _,_,_,_,hm,_,_=>by simp [mt] at hm
 | .obj _ _,.iJ _,_,_,_,hm,_,_=>by simp [mt] at hm
 | .obj _ _,.fn _ _,_,_,_,hm,_,_=>by simp [mt] at hm
 | .obj _ _,.undef,_,_,_,hm,_,_=>by simp [mt] at hm
 | .agg _,.sl _ _ _,_,_,_,hm,_,_=>by simp [mt] at hm
 | .agg _,.int _ _,_,_,_,hm,_,_=>by simp [mt] at hm
 | .agg _,.bool _,_,_,_,hm,_,_=>by simp [mt] at hm
 | .agg _,.str _,_,_,_,hm,_,_=>by simp [mt] at hm
 | .agg _,.gD _ _ _,_,_,_,hm,_,_=>by simp [mt] at hm
 | .agg _,.obj _ _,_,_,_,hm,_,_=>by simp [mt] at hm
 | .agg _,.ptr _ _ _ _,_,_,_,hm,_,_=>by simp [mt] at hm
 | .agg _,.iJ _,_,_,_,hm,_,_=>by simp [mt] at hm
 | .agg _,.fn _ _,_,_,_,hm,_,_=>by simp [mt] at hm
 | .agg _,.undef,_,_,_,hm,_,_=>by simp [mt] at hm
theorem XV {P:Program} [aC P] {B:gN P} {s:AS} {G:List CO} {w w':World}:∀(c c':List AV) (cs:List Value) (zU:List Nat),mW s.o c=true->mtc s.o c c'=true->Rc w (env B s.o G w) c cs []->Rc w' lV c' cs zU->
  ∃L:List Part,L.map (·.i)=kH c/\CS c c'=L.map (λp=>(p.i,p.rows))/\zU=pX L/\∀p∈L,aAz s.o G w' p
 |[],[],[],zU,_,_,_,h'=>by simp only [Rc] at h';exact ⟨[],rfl,by simp [CS],by simp [h',pX],by simp⟩
 |[],[],_::_,_,_,_,h,_=>by simp [Rc] at h
 |[],_::_,_,_,_,hm,_,_=>by simp [mtc] at hm
 |_::_,[],_,_,_,hm,_,_=>by simp [mtc] at hm
 |_::_,_::_,[],_,_,_,h,_=>by simp [Rc] at h
 |x::xs,y::ys,c::cs,zU,ho,hm,h,h'=>by
  simp only [Rc] at h h';obtain ⟨g1,g2,h1,h2,e⟩:=h;obtain ⟨rfl,rfl⟩:g1=[]/\g2=[]:=by simpa using e
  obtain ⟨f1,f2,h1',h2',rfl⟩:=h';simp only [mW,eJ] at ho;simp only [mtc,eJ] at hm;obtain ⟨L1,a1,a2,rfl,a4⟩:=ve x y c f1 ho.1 hm.1 h1 h1';obtain ⟨L2,b1,b2,rfl,b4⟩:=XV xs ys cs f2 ho.2 hm.2 h2 h2';refine ⟨L1++L2,by simp [kH,a1,b1],by simp [CS,a2,b2],by simp [pX],?_⟩;intro p hp;rcases fL.1 hp with hp|hp
  .exact a4 p hp
  .exact b4 p hp
end
def iU (u:List Nat):Tg->Option Tg
 | .own=>none
 | .view=>some .view
 | .jZ i=>if i∈u then none else some (.jZ i)
def AV.nd:AV->Bool
 | .int _ _=>true
 | .bool _=>true
 | .str _=>true
 | .sl .own _ _=>true
 | .obj _ _=>true
 | .ptr _ _ _ _=>true
 |_=>false
theorem aQx {w:World} {E:Env} {D:Nat->Nat->Prop} {x:AV} {v:Value} {fp:List Nat} (hx:x.nd=true) (h:R w E x v fp):R w {E with D:=D} x v fp:=by
 cases x with
 |int _ _=>simpa [R] using h
 |bool _=>simpa [R] using h
 |str _=>simpa [R] using h
 |sl g n l=>
  cases g with
  |own=>obtain ⟨a,cap,hv,hown⟩:=rH.1 h;exact rH.2 ⟨a,cap,hv,hown⟩
  |_=>cases hx
 |obj _ _=>simp only [R] at h⊢;exact h
 |ptr _ _ _ _=>simp only [R] at h⊢;exact h
 |_=>cases hx
theorem aIl {w:World} {E:Env} {D:Nat->Nat->Prop}:∀{c:List AV} {cs:List Value} {fp:List Nat},c.all AV.nd=true->Rc w E c cs fp->Rc w {E with D:=D} c cs fp
 |[],[],_,_,h=>h
 |[],_::_,_,_,h=>by simp [Rc] at h
 |_::_,[],_,_,h=>by simp [Rc] at h
 |x::xs,c::cs,fp,hp,h=>by simp only [Rc] at h⊢;simp only [BY,eJ] at hp;obtain ⟨f1,f2,h1,h2,h3⟩:=h;exact ⟨f1,f2,aQx hp.1 h1,aIl hp.2 h2,h3⟩
theorem aA0 {w:World} {E:Env} {D:Nat->Nat->Prop}:∀{l:List (List AV)} {b off n:Nat} {fp:List Nat},(l.all λr=>r.all AV.nd)=true->Rr w E l b off n fp->Rr w {E with D:=D} l b off n fp
 |[],_,_,_,_,_,h=>h
 |e::es,b,off,n,fp,hp,h=>by simp only [Rr] at h⊢;simp only [BY,eJ] at hp;obtain ⟨cs,f1,f2,h1,h2,h3,h4,h5,h6⟩:=h;exact ⟨cs,f1,f2,h1,h2,h3,aIl hp.1 h4,aA0 hp.2 h5,h6⟩
def Bb (l:List (List AV)):Bool:=l.all λr=>r.all AV.nd
theorem eu:Bb []=true:=rfl
theorem XW (r:List AV) (l:List (List AV)):Bb (r::l)=(r.all AV.nd&&Bb l):=rfl
theorem fe {l:List (List AV)} {k:Nat} {r:List AV} (h:Bb l=true) (hr:r.all AV.nd=true):Bb (l.set k r)=true:=by
 unfold Bb at *;rw [fS] at h⊢;intro x hx;rcases mem_or_eq_of_mem_set hx with hx|rfl
 .exact h x hx
 .exact hr
def aM.forget (ob:aM) (u:List Nat):aM:=
 if ob.box then (if Bb ob.dR=true then ob else {ob with dR:=mU (iU u) true ob.dR}) else ob
theorem nH (ob:aM) (u:List Nat):(ob.forget u).live=ob.live:=by unfold aM.forget;split<;>(try split)<;>rfl
theorem PG (ob:aM) (u:List Nat):(ob.forget u).bY=ob.bY:=by unfold aM.forget;split<;>(try split)<;>rfl
theorem PH (ob:aM) (u:List Nat):(ob.forget u).box=ob.box:=by unfold aM.forget;split<;>(try split)<;>rfl
theorem XX (ob:aM) (u:List Nat):(ob.forget u).n=ob.n:=by unfold aM.forget;split<;>(try split)<;>rfl
theorem PI (ob:aM) (u:List Nat):(ob.forget u).dR.length=ob.dR.length:=by unfold aM.forget;split<;>(try split)<;>simp [lT]
def aM.aF6 (ob:aM) (N:List (Nat×List (List AV))) (u:List Nat) (i:Nat):aM:=
 match N.find? (λp=>p.1 == i) with
 |some p=>{ob with dR:=p.2}
 |none=>ob.forget u
def NG (N:List (Nat×List (List AV))) (u:List Nat):Nat->List aM->List aM
 |_,[]=>[]
 |i,ob::r=>ob.aF6 N u i::NG N u (i+1) r
theorem XY (N:List (Nat×List (List AV))) (u:List Nat):∀(o:List aM) (k i:Nat),(NG N u k o)[i]? =(o[i]?).map λob=>ob.aF6 N u (k+i)
 |[],_,_=>by simp [NG]
 |ob::r,k,0=>by simp [NG]
 |ob::r,k,i+1=>by simp only [NG,tU];rw [XY N u r (k+1) i,show k+1+i=k+(i+1) by omega]
def AS.OA (s:AS) (d:Option Tmp) (x x' r:AV):AS:=
 AS.put ⟨xS (iU (lU x)) true s.t,NG (BR x x') (lU x) 0 s.o⟩ d r
def TB (L:List Part):Nat->List CO->List CO
 |_,[]=>[]
 |i,g::r=>(match L.find? (λp=>p.i == i) with
  |some p=>{g with F:=λb=>b∈p.fp}
  |none=>g)::TB L (i+1) r
theorem XZ (L:List Part):∀(G:List CO) (k i:Nat),(TB L k G)[i]? =(G[i]?).map λg=>match L.find? (λp=>p.i == k+i) with
  |some p=>{g with F:=λb=>b∈p.fp}
  |none=>g
 |[],_,_=>by simp [TB]
 |g::r,k,0=>by simp [TB]
 |g::r,k,i+1=>by simp only [TB,tU];rw [XZ L r (k+1) i,show k+1+i=k+(i+1) by omega]
theorem EN (L:List Part):∀(G:List CO) (k:Nat),(TB L k G).length=G.length
 |[],_=>rfl
 |g::r,k=>by simp [TB,EN L r]
theorem EO (N:List (Nat×List (List AV))) (u:List Nat):∀(o:List aM) (k:Nat),(NG N u k o).length=o.length
 |[],_=>rfl
 |g::r,k=>by simp [NG,EO N u r]
theorem PK {w w':World} {E E':Env} {x:AV} {v:Value} (hx:x.iE=true) (h:R w E x v []):R w' E' x v []:=by cases x<;>simp only [AV.iE] at hx<;>first|(cases hx;done)|(simp only [R] at h⊢;exact h)
@[simp] def AV.PM:AV->Bool
 | .fn _ []=>true
 |x=>x.iE
theorem fu {w w':World} {E E':Env} {x:AV} {v:Value} (hx:x.PM=true) (h:R w E x v []):R w' E' x v []:=by
 unfold AV.PM at hx;split at hx
 .simp only [R] at h⊢;obtain ⟨e,cs,h1,h2⟩:=h;exact ⟨e,cs,h1,by cases cs<;>simp_all [Rc]⟩
 .exact PK hx h
theorem OC {L:List Part} {b:Nat}:b∈pX L↔∃p∈L,b∈p.fp:=by simp [pX]
theorem UD:∀{L:List Part},(pX L).Nodup->∀p∈L,∀q∈L,∀b,b∈p.fp->b∈q.fp->p=q
 |[],_,p,hp,_,_,_,_,_=>by cases hp
 |x::L,h,p,hp0,q,hq0,b,hbp,hbq=>by
  simp only [pX,flatMap_cons,gC] at h;rcases lB.1 hp0 with e1|hp<;>rcases lB.1 hq0 with e2|hq
  .rw [e1,e2]
  .exact absurd rfl (h.2.2 b (e1▸hbp) b (Fl.2 ⟨q,hq,hbq⟩))
  .exact absurd rfl (h.2.2 b (e2▸hbq) b (Fl.2 ⟨p,hp,hbp⟩))
  .exact UD h.2.1 p hp q hq b hbp hbq
theorem Ya:∀{L:List Part},(pX L).Nodup->∀p∈L,p.fp.Nodup
 |[],_,p,hp=>by cases hp
 |x::L,h,p,hp=>by
  simp only [pX,flatMap_cons,gC] at h;rcases lB.1 hp with rfl|hp
  .exact h.1
  .exact Ya h.2.1 p hp
theorem aA1 {o:List aM} {G:List CO} {L:List Part} {u:List Nat} {i:Nat} {fI:aM} {g':CO} (h:look (NG (L.map λp=>(p.i,p.rows)) u 0 o) (TB L 0 G) i fI g'):
  ∃ob g,look o G i ob g/\((∃p∈L,p.i=i/\fI={ob with dR:=p.rows}/\g'={g with F:=λb=>b∈p.fp})\/
   ((∀p∈L,p.i≠i)/\fI=ob.forget u/\g'=g)):=by
 obtain ⟨h1,h2⟩:=h;rw [XY,hM] at h1;rw [XZ,hM] at h2;cases ho:o[i]? with
 |none=>simp [ho] at h1
 |some ob=>
  cases hg:G[i]? with
  |none=>simp [hg] at h2
  |some g=>
   rw [ho] at h1;rw [hg] at h2;simp only [mS,eC] at h1 h2;refine ⟨ob,g,⟨ho,hg⟩,?_⟩;have hfm:(L.map λp=>(p.i,p.rows)).find? (λp=>p.1 == i)=(L.find? (λp=>p.i == i)).map λp=>(p.i,p.rows):=by rw [find?_map];rfl
   unfold aM.aF6 at h1;rw [hfm] at h1;cases hf:L.find? (λp=>p.i == i) with
   |some p=>rw [hf] at h1 h2;left;exact ⟨p,qS hf,by have:=DG hf;simpa using this,h1.symm,h2.symm⟩
   |none=>rw [hf] at h1 h2;right;refine ⟨λp hp e=> ?_,h1.symm,h2.symm⟩;have:=Dg.1 hf p hp;simp [e] at this
theorem aA2 {o:List aM} {G:List CO} {L:List Part} {u:List Nat} {i:Nat} {ob:aM} {g:CO} (h:look o G i ob g):
  ∃fI g',look (NG (L.map λp=>(p.i,p.rows)) u 0 o) (TB L 0 G) i fI g':=by
 have h1:=(cH.1 h.1).1;have h2:=(cH.1 h.2).1;exact ⟨_,_,aE (by rw [EO];exact h1),aE (by rw [EN];exact h2)⟩
theorem UE {w:World} {E E':Env} {s:AS} {a:Act}:∀ys:List Operand,(ys.all λy=>(s.ev y).PM)=true->(∀y,R w E (s.ev y) (a.eval y) [])->Rc w E' (ys.map s.ev) (ys.map a.eval) []
 |[],_,_=>by simp [Rc]
 |y::ys,h,hr=>by simp only [BY,eJ] at h;simp only [mT,Rc];exact ⟨[],[],fu h.1 (hr y),UE ys h.2 hr,rfl⟩
theorem aA3 (f x0:Operand) (ys:List Operand) (V9:Array TypeId) {gf:FuncId} {x' r:AV} (hf:s.ev f= .fn gf []) (hc:aY P gf=true) (hy:(ys.all λy=>(s.ev y).PM)=true) (hr:r.iE=true\/r= .iJ []) (hx:jM s.o (s.ev x0)=true) (hu:(lU (s.ev x0)).Nodup)
  (hm:mt s.o (s.ev x0) x'=true) (wC:ek P gf (res s.o (s.ev x0)) x' (ys.map s.ev) r):
  Step P B ⟨dst,.call {callee:= .value f,args:=⟨x0::ys⟩,argTypes:=V9},ty,pos,after,gd⟩ s (s.OA dst (s.ev x0) x' r):=by
 rintro a w next Q ⟨G,rr⟩ hn
 have h1:=rr.ev f;rw [hf] at h1;simp only [R] at h1;obtain ⟨_,cs,hv,vP⟩:=h1;have hcs:cs=[]:=by cases cs with
  |nil=>rfl
  |cons _ _=>simp [Rc] at vP
 subst hcs;obtain ⟨fp,jK,hnd,MH⟩:=Jl rr _ _ hx hu (rr.ev x0);have hlt:∀b∈fp,b < w.heap.size:=λb hb=>by obtain ⟨i,ob,g,_,hl,hlive,hF⟩:=MH b hb;exact (rr.fresh _ _ _ b hl hlive hF).2
 have kB:fA w (env B s.o G w).plain w (qN w (· ∈fp)):=⟨λb hb=>⟨⟨vO rr hb,λhm=>by
   obtain ⟨i,ob,g,_,hl,hlive,hF⟩:=MH b hm;exact hb.2 i ob g hl hlive hF⟩,rfl⟩,λ_ _=>trivial,λ_ _ _ h=>h.elim,λ_ _ _ h=>h.elim,λ_ _ _ _ _ h=>h.elim⟩
 have hab:∀b∈fp,aC.low P<=b:=λb hb=>by obtain ⟨i,ob,g,_,hl,hlive,hF⟩:=MH b hb;exact rr.XF (rr.fresh _ _ _ b hl hlive hF).1
 have XI:=wC w (a.eval x0) (ys.map a.eval) fp rr.holds hab (oN kB _ _ _ (λ_ _=>rfl) jK) hnd hlt (UE ys hy λy=>rr.ev y);unfold Oper.wp;have hrun:(execOp a.eval ⟨dst,.call {callee:= .value f,args:=⟨x0::ys⟩,argTypes:=V9},ty,pos,after,gd⟩).run P w= .ok (.enter gf (a.eval x0::ys.map a.eval).toArray) w:=by simp [execOp,resolve,hv,Deferred.ofValue,invoke,Dz hc]
 rw [hrun,Oper.upon_enter];refine XI.mono λe w' h=> ?_
 obtain ⟨v,zU,rfl,Wd,hxr,hnd',hfr,hsz,nM,EF⟩:=h;refine hn _ _ ?_;obtain ⟨L,hLi,hN,rfl,hL⟩:=ve (s.ev x0) x' _ zU hx hm (rr.ev x0) hxr;have hus:∀i,i∈lU (s.ev x0)↔∃p∈L,p.i=i:=λi=>by rw [<-hLi];simp
 unfold AS.OA;rw [hN];generalize huu:lU (s.ev x0)=u at *;generalize ho':NG (L.map λp=>(p.i,p.rows)) u 0 s.o=o';generalize hG':TB L 0 G=G';have lk:∀{i fI g'},look o' G' i fI g'->∃ob g,look s.o G i ob g/\((∃p∈L,p.i=i/\fI={ob with dR:=p.rows}/\g'={g with F:=λb=>b∈p.fp})\/
   ((∀p∈L,p.i≠i)/\fI=ob.forget u/\g'=g)):=λh=>aA1 (by rw [ho',hG'];exact h)
 have kl:∀{i ob g},look s.o G i ob g->∃fI g',look o' G' i fI g'/\fI.live=ob.live/\fI.bY=ob.bY/\fI.n=ob.n/\g'.a=g.a/\g'.cap=g.cap/\fI.dR.length=ob.dR.length/\((∀p∈L,p.i≠i)->g'=g)/\fI.box=ob.box:=by
  intro i ob g h;obtain ⟨fI,g',h'⟩:=aA2 (L:=L) (u:=u) h;rw [ho',hG'] at h';refine ⟨fI,g',h',?_⟩;obtain ⟨ob2,g2,h2,hcase⟩:=lk h';obtain ⟨rfl,rfl⟩:=lG h h2;rcases hcase with ⟨p,hp,rfl,rfl,rfl⟩|⟨KU,rfl,rfl⟩
  .obtain ⟨ob3,g3,A7,_,_,_,hlen⟩:=hL p hp;obtain ⟨rfl,rfl⟩:=lG h A7;exact ⟨rfl,rfl,rfl,rfl,rfl,hlen,λhn=>absurd rfl (hn p hp),rfl⟩
  .exact ⟨nH _ _,PG _ _,XX _ _,rfl,rfl,PI _ _,λ_=>rfl,PH _ _⟩
 have fpF:∀b∈fp,∀i ob g,look s.o G i ob g->ob.live=true->g.F b->i∈u:=λb hb i ob g hl hlive hF=>by obtain ⟨j,oj,gj,hj,hlj,hjl,Te⟩:=MH b hb;have:=rr.apart i j _ _ _ _ b hl hlj hlive hjl hF Te;rw [this];exact hj
 have EP:∀i ob g b,look s.o G i ob g->ob.live=true->g.F b->i∉u->w'.heap[b]? =w.heap[b]?:=λi ob g b hl hlive hF hiu=>
  nM b (rr.fresh _ _ _ b hl hlive hF).2 (λhm=>hiu (fpF b hm i ob g hl hlive hF))
 have noU:∀i,i∉u->∀p∈L,p.i≠i:=λi hi p hp e=>hi ((hus i).2 ⟨p,hp,e⟩)
 let Er:Env:={env B s.o G w with D:=λi b=>i∉u/\(env B s.o G w).D i b}
 have rt1:mV (iU u) true (env B s.o G w) Er (λ_=>True):=by
  refine ⟨λt e=>by simp [iU] at e,λt e=>by simp only [iU,eC] at e;exact ⟨e.symm,λb hb=>hb⟩,λi t e=> ?_,λ_ _ _ _ h=>h,λ_ _ _ _ _ _ h=>h⟩;simp only [iU] at e;split at e
  .cases e
  .rename_i hiu;obtain rfl:=cQ e;refine ⟨by simp,?_,λb hb=>⟨hiu,hb⟩⟩;by_cases hV:(env B s.o G w).V i
   .exact .inl hV
   .exact .inr hV
 have k2:fA w Er w' (env B o' G' w'):=by
  refine ⟨λb hb=> ?_,λi h ob uX=> ?_,λi b hV h=> ?_,λi bY x h=> ?_,λi bY j q x h=> ?_⟩
  .have hb':(env B s.o G w).A b:=hb;have hbl:=vO rr hb';have hnf:b∉fp:=λhm=>by
    obtain ⟨i,ob,g,_,hl,hlive,hF⟩:=MH b hm;exact hb'.2 i ob g hl hlive hF
   refine ⟨⟨?_,λi fI g' hl hlive hF=> ?_⟩,nM b hbl hnf⟩
   .rcases hb'.1 with h|h
    .exact .inl h
    .exact .inr ⟨h.1,by omega⟩
   .obtain ⟨ob,g,hl0,⟨p,hp,_,rfl,rfl⟩|⟨_,rfl,rfl⟩⟩:=lk hl
    .have:=hfr b (OC.2 ⟨p,hp,hF⟩);rcases this.1 with h|h
     .exact hnf h
     .omega
    .refine hb'.2 i ob g' hl0 ?_ hF;rw [nH] at hlive;exact hlive
  .have hi:i < G.length:=by rw [rr.len];exact (cH.1 uX).1
   obtain ⟨fI,g',hl,h1,_⟩:=kl (i:=i) (ob:=ob) (g:=G[i]) ⟨uX,aE hi⟩;rw [<-h1];exact h fI hl.1
  .obtain ⟨hiu,ob,g,hl,hlive,hF,hne⟩:=h;obtain ⟨fI,g',BP,h1,_,_,_,_,_,h7,_⟩:=kl hl;obtain rfl:=h7 (noU i hiu);exact ⟨⟨fI,g',BP,by rw [h1];exact hlive,hF,hne⟩,EP i ob g' b hl hlive hF hiu⟩
  .obtain ⟨ob,g,hl,zV,hh,hz⟩:=h;obtain ⟨fI,g',BP,h1,h2,h3,h4,h5,h6,_⟩:=kl hl;exact ⟨fI,g',BP,by omega,λhlive Tq=>by rw [h4,h5,h6];exact hh (by rw [<-h1];exact hlive) (by omega),hz⟩
  .obtain ⟨ob,g,hl,zV,hh,hz⟩:=h;obtain ⟨fI,g',BP,h1,h2,h3,h4,h5,h6,_,h8⟩:=kl hl;exact ⟨fI,g',BP,by omega,λhlive Tq=>by rw [h4,h3];exact hh (by rw [<-h1];exact hlive) (by omega),λe e2 e3 e4 y hy=>⟨(hz (by rw [<-h8];exact e) e2 e3 e4 y hy).1,λhlive Tq=>by rw [h5];exact (hz (by rw [<-h8];exact e) e2 e3 e4 y hy).2 (by rw [<-h1];exact hlive) (by omega)⟩⟩
 have tm:Rc w' (env B o' G' w') (xS (iU u) true s.t) a.tmps.toList []:=
  dX k2 _ _ _ (by simp) (wQ rt1 _ _ _ (by simp) rr.tmps)
 have kn:fA w' lV w' (env B o' G' w').plain:=⟨λ_ h=>h.elim,λ_ _=>trivial,λ_ _ _ h=>h.elim,λ_ _ _ h=>h.elim,λ_ _ _ _ _ h=>h.elim⟩;have rel:eP B ⟨xS (iU u) true s.t,o'⟩ G' a w':=by
  refine {len:=by rw [<-hG',<-ho',EN,EO];exact rr.len,defs:=rr.defs,ok:= ?_,apart:= ?_,fresh:= ?_,tmps:=tm,size:=lO rr.size hsz,frame:= ?_,base:=rr.base,same:=rr.same.trans EF}
  .intro i fI g' hl hlive;obtain ⟨ob,g,hl0,⟨p,hp,rfl,rfl,rfl⟩|⟨KU,rfl,rfl⟩⟩:=lk hl
   .obtain ⟨ob3,g3,A7,_,GD,hown,hlen⟩:=hL p hp;obtain ⟨rfl,rfl⟩:=lG hl0 A7;refine ⟨p.fp,?_,Ya hnd' p hp,λb hb=>hb⟩;simp only [GD,Env.of,eS,gS];exact hown.keeps kn (λ_ _=>rfl)
   .have hiu:i∉u:=λh=>by
     obtain ⟨p,hp,e⟩:=(hus i).1 h;exact KU p hp e
    rw [nH] at hlive;obtain ⟨fpo,hown,HZ,Oz⟩:=rr.ok i ob g' hl0 hlive;by_cases GD:ob.box=true
    .simp only [GD,Env.of,gE] at hown;obtain ⟨hlen,hown⟩:=hown;by_cases hall:Bb ob.dR=true
     .have hfo:ob.forget u=ob:=by unfold aM.forget;simp [GD,hall]
      rw [hfo];refine ⟨fpo,?_,HZ,Oz⟩;simp only [GD,Env.of,gE];refine ⟨hlen,?_⟩;rcases hown with h|⟨b,off,C,e,fz,aA7,ha,hb,hz,h1,h2,h3,rfl,fw⟩
      .exact .inl h
      .have hbs:=EP i ob g' b hl0 hlive (Oz b (by simp)) hiu;exact .inr ⟨b,off,C,e,fz,aA7,ha,by rw [hbs];exact hb,hz,h1,h2,h3,rfl,mO k2 _ _ _ _ _ hbs (λx hx=>EP i ob g' x hl0 hlive (Oz x (by simp [hx])) hiu) (aA0 hall fw)⟩
     .have hfo:ob.forget u={ob with dR:=mU (iU u) true ob.dR}:=by unfold aM.forget;rw [eK GD,cY hall]
      rw [hfo];rcases hown with ⟨h1,h2,h3⟩|⟨b,off,C,e,fz,aA7,ha,hb,hz,h1,h2,h3,rfl,fw⟩
      .exact ⟨[],⟨by simp [lT];exact hlen,.inl ⟨by simp [h1,mU],h2,rfl⟩⟩,by simp,by simp⟩
      .have UA:=Oz b (by simp);have hbs:=EP i ob g' b hl0 hlive UA hiu;refine ⟨[b],⟨by simp [lT];exact hlen,.inr ⟨b,off,C,e,fz,[],ha,by rw [hbs];exact hb,hz,h1,by simpa [lT] using h2,h3,rfl,?_⟩⟩,by simp,by simpa using UA⟩;simp only [GD,Env.of,gE];exact mO k2 _ _ _ _ _ hbs (by simp) (Gz rt1 _ _ _ _ _ (by simp) fw)
    .have aA8:ob.box=false:=by simpa using GD
     have hfo:ob.forget u=ob:=by unfold aM.forget;simp [aA8]
     rw [hfo];refine ⟨fpo,?_,HZ,Oz⟩;simp only [aA8,Env.of,eS,gS] at hown⊢;have kp:fA w (env B s.o G w).plain w' (env B o' G' w').plain:=k2.plain;exact hown.keeps kp (λb hb=>EP i ob g' b hl0 hlive (Oz b hb) hiu)
  .intro i j oi oj gi gj b hi hj hil hjl Es KY;obtain ⟨ob1,g1,hl1,c1⟩:=lk hi;obtain ⟨ob2,g2,hl2,c2⟩:=lk hj;have lv:∀{k:Nat} {ob fI:aM} {g g':CO},((∀p∈L,p.i≠k)/\fI=ob.forget u/\g'=g)->fI.live=true->ob.live=true:=by rintro k ob fI g g' ⟨_,rfl,_⟩ h;rw [nH] at h;exact h
   rcases c1 with ⟨p,hp,hpi,rfl,rfl⟩|c1<;>rcases c2 with ⟨q,hq,hqi,rfl,rfl⟩|c2
   .have:=UD hnd' p hp q hq b Es KY;rw [<-hpi,<-hqi,this]
   .exfalso;have aJz:=lv c2 hjl;have zw:g2.F b:=by rw [<-c2.2.2];exact KY
    rcases (hfr b (OC.2 ⟨p,hp,Es⟩)).1 with h|h
    .have:=fpF b h j ob2 g2 hl2 aJz zw;obtain ⟨q,hq,e⟩:=(hus j).1 this;exact c2.1 q hq e
    .have:=(rr.fresh _ _ _ b hl2 aJz zw).2;omega
   .exfalso;have aJ0:=lv c1 hil;have hF1:g1.F b:=by rw [<-c1.2.2];exact Es
    rcases (hfr b (OC.2 ⟨q,hq,KY⟩)).1 with h|h
    .have:=fpF b h i ob1 g1 hl1 aJ0 hF1;obtain ⟨p,hp,e⟩:=(hus i).1 this;exact c1.1 p hp e
    .have:=(rr.fresh _ _ _ b hl1 aJ0 hF1).2;omega
   .refine rr.apart i j _ _ _ _ b hl1 hl2 (lv c1 hil) (lv c2 hjl) ?_ ?_
    .rw [<-c1.2.2];exact Es
    .rw [<-c2.2.2];exact KY
  .intro i fI g' b hl hlive hF;obtain ⟨ob,g,hl0,⟨p,hp,rfl,rfl,rfl⟩|⟨KU,rfl,rfl⟩⟩:=lk hl
   .have:=hfr b (OC.2 ⟨p,hp,hF⟩);refine ⟨?_,this.2⟩;rcases this.1 with h|h
    .obtain ⟨j,oj,gj,_,hlj,hjl,Te⟩:=MH b h;exact (rr.fresh _ _ _ b hlj hjl Te).1
    .exact .inr (lO rr.size h)
   .have wR:ob.live=true:=by rw [nH] at hlive;exact hlive
    have:=rr.fresh _ _ _ b hl0 wR hF;exact ⟨this.1,by omega⟩
  .intro b hb hO;rw [<-rr.frame b hb hO];refine nM b (oX hb rr.size) (λhm=> ?_);obtain ⟨j,oj,gj,_,hlj,hjl,Te⟩:=MH b hm;rcases (rr.fresh _ _ _ b hlj hjl Te).1 with h|h
   .exact hO h
   .omega
 exact ⟨G',rel.put dst (by
  rcases hr with hr|rfl
  .exact PK hr Wd
  .simp only [R] at Wd⊢;obtain ⟨cs,e1,e2⟩:=Wd;cases cs with
   |nil=>exact ⟨[],e1,by simp [Rc]⟩
   |cons c cs=>simp [Rc] at e2)⟩
inductive GA where
  | view (x : AV)
  | nX (x : AV)
  | sH (c c' : List AV)
def RG (w:World) (O:Nat->Prop):GA->Value->List Nat->Nat->Prop
 | .view x,v,fp,_=>fp=[]/\R w (qN w O) x v []
 | .nX x,v,fp,_=>R w (qN w O) x v fp
 | .sH c _,v,fp,cap=>∃b f,v= .pointer (some ⟨b,f,none⟩)/\uW w (qN w O) c.length [c] (some ⟨b,f,none⟩) cap fp
def DD (w:World) (O:Nat->Prop):List GA->List Value->List (List Nat)->List Nat->Prop
 |[],[],[],[]=>True
 |x::xs,v::vs,fp::fs,k::ks=>RG w O x v fp k/\DD w O xs vs fs ks
 |_,_,_,_=>False
def RP (w:World):GA->Value->List Nat->Nat->Prop
 | .sH c c',v,fp,cap=>∃b f,v= .pointer (some ⟨b,f,none⟩)/\uW w lV c.length [c'] (some ⟨b,f,none⟩) cap fp
 |_,_,fp,_=>fp=[]
def Tf (w:World):List GA->List Value->List (List Nat)->List Nat->Prop
 |[],[],[],[]=>True
 |x::xs,v::vs,fp::fs,k::ks=>RP w x v fp k/\Tf w xs vs fs ks
 |_,_,_,_=>False
def Lf (P:Program) [aC P] (f:FuncId) (args:List GA) (r:AV):Prop:=
 ∀(w:World) (vs:List Value) (sM:List (List Nat)) (jD:List Nat),aC.holds P w->(∀b∈sM.flatten,aC.low P<=b/\b < w.heap.size)->sM.flatten.Nodup->DD w (· ∈sM.flatten) args vs sM jD->
  Calls P f vs.toArray w λe w'=>∃v fp BO,e= .returned v/\R w' lV r v fp/\Tf w' args vs BO jD/\(BO.flatten++fp).Nodup/\
   (∀b∈BO.flatten++fp,(b∈sM.flatten\/w.heap.size<=b)/\b < w'.heap.size)/\w.heap.size<=w'.heap.size/\(∀b,b < w.heap.size->b∉sM.flatten->w'.heap[b]? =w.heap[b]?)/\nG w w'
mutual
def PN (u:List Nat):AV->Bool
 | .obj i _=> !u.contains i
 | .ptr i _ _ _=> !u.contains i
 | .sl (.jZ i) _ _=> !u.contains i
 | .gD (.jZ i) _ _=> !u.contains i
 | .agg c=>PO u c
 | .iJ c=>PO u c
 | .fn _ c=>PO u c
 |_=>true
def PO (u:List Nat):List AV->Bool
 |[]=>true
 |x::xs=>PN u x&&PO u xs
end
section
variable {P : Program} [aC P] {B : gN P} {s : AS} {G : List CO} {a : Act} {w : World}
theorem Yb (r:eP B s G a w) {Z:Nat->Prop} {u:List Nat} (hZ:∀b,Z b->Of s.o G u b) {b:Nat} (h:(env B s.o G w).A b):b < w.heap.size/\¬Z b:=
 ⟨vO r h,λhz=>by
  obtain ⟨i,ob,g,_,hl,hlive,hF⟩:=hZ b hz;exact h.2 i ob g hl hlive hF⟩
theorem vg (r:eP B s G a w) {Z:Nat->Prop} {u:List Nat} (hZ:∀b,Z b->Of s.o G u b) {i:Nat} {ob:aM} {g:CO} (hl:look s.o G i ob g) (hlive:ob.live=true) (hi:i∉u) {b:Nat} (h:g.F b):b < w.heap.size/\¬Z b:=
 ⟨(r.fresh _ _ _ b hl hlive h).2,λhz=>by
  obtain ⟨j,oj,gj,hj,hlj,hjl,hF⟩:=hZ b hz;exact hi (r.apart i j _ _ _ _ b hl hlj hlive hjl h hF▸hj)⟩
theorem Lg (r:eP B s G a w) {Z:Nat->Prop} {u:List Nat} (hZ:∀b,Z b->Of s.o G u b) (O:Nat->Prop) (hO:∀b,O b->b < w.heap.size/\¬Z b):mV (λ_=>some .view) false (env B s.o G w).plain (qN w Z) O where
 own t e:=by obtain rfl:=cQ e;exact ⟨by simp,λb hb=>hO b hb⟩
 view t e:=by obtain rfl:=cQ e;exact ⟨rfl,λb hb=>Yb r hZ hb⟩
 jZ i t e:=by obtain rfl:=cQ e;exact ⟨by simp,.inl trivial,λb hb=>hb.elim⟩
 hh h:=by cases h
 hl h:=by cases h
theorem Yc (r:eP B s G a w) {Z:Nat->Prop} {u:List Nat} (hZ:∀b,Z b->Of s.o G u b) (box:Bool) (O:Nat->Prop) (hO:∀b,O b->b < w.heap.size/\¬Z b):mV Hz false ((env B s.o G w).of box) (qN w Z) O where
 own t e:=by obtain rfl:=cQ e;exact ⟨by simp,λb hb=>hO b hb⟩
 view t e:=by obtain rfl:=cQ e;exact ⟨rfl,λb hb=>Yb r hZ (by cases box<;>exact hb)⟩
 jZ i t e:=by cases e
 hh h:=by cases h
 hl h:=by cases h
theorem Wq (r:eP B s G a w) {Z:Nat->Prop} {u:List Nat} (hZ:∀b,Z b->Of s.o G u b) (g:Tg) (hg:∀i,g= .jZ i->i∉u) (O:Nat->Prop) (hO:∀b,O b->b < w.heap.size/\¬Z b):mV (λ_=>some .view) false ((env B s.o G w).sub g) (qN w Z).plain O:=by
 cases g with
 |own=>exact Lg r hZ O hO
 |view=>exact Lg r hZ O hO
 |jZ i=>exact
  {own:=λt e=>by obtain rfl:=cQ e;exact ⟨by simp,λb hb=>hO b hb⟩
   view:=λt e=>by obtain rfl:=cQ e;exact ⟨rfl,λb hb=>Yb r hZ hb⟩
   jZ:=λj t e=>by obtain rfl:=cQ e;refine ⟨by simp,.inl trivial,λb hb=> ?_⟩;obtain ⟨rfl,ob,g,hl,hlive,hF,_⟩:=hb;exact vg r hZ hl hlive (hg _ rfl) hF
   hh:=λh=>by cases h
   hl:=λh=>by cases h}
theorem gm (r:eP B s G a w) {Z:Nat->Prop} {u:List Nat} (hZ:∀b,Z b->Of s.o G u b) {g:Tg} (hg:∀i,g= .jZ i->i∉u) {b:Nat} (h:(env B s.o G w).tg g b):b < w.heap.size/\¬Z b:=by
 cases g with
 |own=>exact h.elim
 |view=>exact Yb r hZ h
 |jZ i=>obtain ⟨ob,g,hl,hlive,hF,_⟩:=h;exact vg r hZ hl hlive (hg _ rfl) hF
theorem Ib (r:eP B s G a w) {Z:Nat->Prop} {u:List Nat} (hZ:∀b,Z b->Of s.o G u b) {g:Tg} (hg:∀i,g= .jZ i->i∉u) {n:Nat} {l:List (List AV)} {v:Value} (hd:¬(env B s.o G w).dead g) (h:R w (env B s.o G w) (.sl g n l) v []):
  R w (qN w Z) (.sl .view n (mU (λ_=>some .view) false l)) v []:=by
 simp only [R,lT] at h⊢;rcases h with h|⟨x,cap,hv,hl,h⟩
 .exact absurd h.1 hd
 refine .inr ⟨x,cap,hv,hl,.inr (.inr ⟨by simp,trivial,?_⟩)⟩;rcases h with ⟨_,rfl,_⟩|⟨_,b,off,C,ty,fz,pX,ha,hb,hz,h1,h2,h3,Jh,hr⟩|⟨hg',_,h⟩
 .exact .inl rfl
 .cases Jh
 .rcases h with rfl|⟨b,off,ha,ht,hr⟩
  .exact .inl rfl
  .exact .inr ⟨b,off,ha,gm r hZ hg ht,Gz (Wq r hZ g hg (λ_=>False) (λ_ h=>h.elim)) _ _ _ _ _ (by simp) hr⟩
mutual
theorem aA9 (r:eP B s G a w) {Z:Nat->Prop} {u:List Nat} (hZ:∀b,Z b->Of s.o G u b):∀(av:AV) (v:Value),PN u av=true->R w (env B s.o G w) av v []->R w (qN w Z) (arg s.o av) v []
 | .obj i bY,v,ha,h=>by
  have hiu:i∉u:=by simpa [PN] using ha
  cases uX:AV.isObj s.o i bY with
  |none=>simp [arg,uX,R]
  |some ob=>
   simp only [arg,uX];by_cases hb:ob.box=true
   .simp [hb,R]
   simp only [R] at h;obtain ⟨_,fI,g,hl,_,hh,_⟩:=h;obtain ⟨h1,h2,h3⟩:=kY uX;obtain rfl:=cQ (hl.1.symm.trans h1);have hv:=hh h2 h3;obtain ⟨fp,⟨hlen,hown⟩,hnd,hF⟩:=r.ok i _ g hl h2;have hb':fI.box=false:=by simpa using hb
   rw [hb'] at hown;simp only [hb',eS,gS];simp only [R,lT];refine .inr ⟨g.a,g.cap,hv,⟨hlen,by rcases hown with h|⟨_,_,_,_,_,_,_,_,_,_,h,_⟩;simp [h.1];exact h⟩,.inr (.inr ⟨by simp,trivial,?_⟩)⟩;rcases hown with ⟨h5,_⟩|⟨b,off,C,e,fz,pX,ha,hbk,hz,k1,k2,k3,rfl,hr⟩
   .left;rw [h5];rfl
   .right;have hlt:∀x∈b::pX,x < w.heap.size/\¬Z x:=λx hx=>vg r hZ hl h2 hiu (hF x hx)
    exact ⟨b,off,ha,hlt b (by simp),Gz (Lg r hZ (λx=>x < w.heap.size/\¬Z x) (λ_ h=>h)) _ _ _ _ pX (λx hx=>hlt x (by simp [hx])) hr⟩
 | .ptr i bY idx off,v,ha,h=>by
  have hiu:i∉u:=by simpa [PN] using ha
  cases uX:AV.isObj s.o i bY with
  |none=>simp [arg,uX,R]
  |some ob=>
   simp only [arg,uX];cases he:ob.dR[idx]? with
   |none=>simp [R]
   |some e=>
    simp only [R] at h⊢;obtain ⟨_,fI,g,hl,_,hh,_⟩:=h;obtain ⟨h1,h2,h3⟩:=kY uX;obtain rfl:=cQ (hl.1.symm.trans h1);obtain ⟨b,f,ha,hv⟩:=hh h2 h3;obtain ⟨fp,⟨_,hown⟩,hnd,hF⟩:=r.ok i _ g hl h2;have hlt:∀x∈fp,x < w.heap.size/\¬Z x:=λx hx=>vg r hZ hl h2 hiu (hF x hx)
    rcases hown with ⟨h5,_⟩|⟨b',f',C,ty,fz,pX,vK,hbk,hz,k1,k2,k3,rfl,hr⟩
    .rw [h5] at he;simp at he
    .rw [ha] at vK;simp only [eC,pA,rS] at vK;obtain ⟨rfl,rfl⟩:=vK;obtain ⟨f1,f2,f3,cs,rfl,hn,hc,hone,uY,_,_⟩:=zW hr he;refine .inr ⟨trivial,b,f+idx * fI.n,cs,?_,hlt b (by simp),hc,hone,?_⟩
     .rw [hv,oR]
     .have:=wQ (Yc r hZ fI.box (λx=>x < w.heap.size/\¬Z x) (λ_ h=>h)) e cs f2 (λx hx=>hlt x (by simp [hx])) uY;exact dX (w:=w) (w':=w) (E:=qN w Z) (E':=(qN w Z).sub .view) ⟨λ_ h=>⟨h,rfl⟩,λ_ _=>trivial,λ_ _ _ h=>h.elim,λ_ _ _ h=>h.elim,λ_ _ _ _ _ h=>h.elim⟩ _ _ _ (by simp) this
 | .agg c,v,ha,h=>by simp only [R,arg] at h⊢;obtain ⟨cs,hv,hone,hr⟩:=h;exact ⟨cs,hv,hone,OD r hZ c cs (by simpa [PN] using ha) hr⟩
 | .iJ c,v,ha,h=>by simp only [R,arg] at h⊢;obtain ⟨cs,hv,hr⟩:=h;exact ⟨cs,hv,OD r hZ c cs (by simpa [PN] using ha) hr⟩
 | .fn f c,v,ha,h=>by simp only [R,arg] at h⊢;obtain ⟨h1,cs,hv,hr⟩:=h;exact ⟨trivial,cs,hv,OD r hZ c cs (by simpa [PN] using ha) hr⟩
 | .int k n,v,_,h=>by simpa [arg,R] using h
 | .bool b,v,_,h=>by simpa [arg,R] using h
 | .str x,v,_,h=>by simpa [arg,R] using h
 | .sl .own n l,v,_,h=>by simp only [arg];exact Ib r hZ (g:= .own) (by simp) (λh=>h) h
 | .sl .view n l,v,_,h=>by simp only [arg];exact Ib r hZ (g:= .view) (by simp) (λh=>h) h
 | .sl (.jZ i) n l,v,ha,h=>by
  have hiu:i∉u:=by simpa [PN] using ha
  simp only [arg];cases ho:s.o[i]? with
  |none=>simp [R]
  |some ob=>
   simp only;by_cases hlive:ob.live=true
   .rw [eK hlive];exact Ib r hZ (g:= .jZ i) (by simpa using hiu) (λhd=>hd (λfI wO=>by rw [ho] at wO;obtain rfl:=cQ wO;exact hlive)) h
   .rw [cY hlive];simp [R]
 | .gD .own c off,v,_,h=>by
  simp only [R] at h;rcases h with h|⟨_,b,o,cs,hv,ht,_⟩
  .exact h.1.elim
  .exact ht.elim
 | .gD .view c off,v,_,h=>by
  simp only [arg];simp only [R] at h⊢;rcases h with h|⟨_,b,o,cs,hv,ht,hcs,hone,hr⟩
  .exact h.1.elim
  .exact .inr ⟨trivial,b,o,cs,hv,gm r hZ (g:= .view) (by simp) ht,hcs,hone,wQ (Wq r hZ .view (by simp) (λ_=>False) (λ_ h=>h.elim)) _ _ _ (by simp) hr⟩
 | .gD (.jZ i) c off,v,ha,h=>by
  have hiu:i∉u:=by simpa [PN] using ha
  simp only [arg];cases ho:s.o[i]? with
  |none=>simp [R]
  |some ob=>
   simp only;by_cases hlive:ob.live=true
   .rw [eK hlive];simp only [R] at h⊢;rcases h with h|⟨_,b,o,cs,hv,ht,hcs,hone,hr⟩
    .exact absurd (λfI wO=>by rw [ho] at wO;obtain rfl:=cQ wO;exact hlive) h.1
    .exact .inr ⟨trivial,b,o,cs,hv,gm r hZ (g:= .jZ i) (by simpa using hiu) ht,hcs,hone,wQ (Wq r hZ (.jZ i) (by simpa using hiu) (λ_=>False) (λ_ h=>h.elim)) _ _ _ (by simp) hr⟩
   .rw [cY hlive];simp [R]
 | .undef,v,_,_=>by simp [arg,R]
theorem OD (r:eP B s G a w) {Z:Nat->Prop} {u:List Nat} (hZ:∀b,Z b->Of s.o G u b):∀(c:List AV) (cs:List Value),PO u c=true->Rc w (env B s.o G w) c cs []->Rc w (qN w Z) (BM s.o c) cs []
 |[],[],_,_=>by simp [BM,Rc]
 |[],_::_,_,h=>by simp [Rc] at h
 |_::_,[],_,h=>by simp [Rc] at h
 |x::xs,c::cs,ha,h=>by
  simp only [Rc] at h;simp only [PO,eJ] at ha;obtain ⟨f1,f2,h1,h2,e⟩:=h;obtain ⟨rfl,rfl⟩:f1=[]/\f2=[]:=by simpa using e
  simp only [BM,Rc];exact ⟨[],[],aA9 r hZ x c ha.1 h1,OD r hZ xs cs ha.2 h2,rfl⟩
end
mutual
theorem gu (r:eP B s G a w) {k:Nat} {ok:aM} {gk:CO} (hlk:look s.o G k ok gk) (hk:ok.live=true):∀(av:AV) (v:Value) (fp:List Nat),jM s.o av=true->(lU av).Nodup->k∉lU av->fp.Nodup->(∀b∈fp,gk.F b)->R w (env B s.o G w) av v fp->
  ∃zU,R w (env B s.o G w).plain (res s.o av) v zU/\zU.Nodup/\∀b∈zU,b∈fp\/Of s.o G (lU av) b
 | .obj i bY,v,fp,ho,hu,_,_,_,h=>by
  have hf:fp=[]:=by simp only [R] at h;exact h.1
  subst hf;obtain ⟨zU,h1,h2,h3⟩:=Jl r _ v ho hu h;exact ⟨zU,h1,h2,λb hb=> .inr (h3 b hb)⟩
 | .agg c,v,fp,ho,hu,hku,hn,hF,h=>by simp only [R] at h;obtain ⟨cs,rfl,hone,hr⟩:=h;obtain ⟨zU,h1,h2,h3⟩:=Jq r hlk hk c cs fp (by simpa [jM] using ho) (by simpa [lU] using hu) (by simpa [lU] using hku) hn hF hr;exact ⟨zU,by simp only [res,R];exact ⟨cs,rfl,hone,h1⟩,h2,by simpa [lU] using h3⟩
 | .iJ c,v,fp,ho,hu,hku,hn,hF,h=>by simp only [R] at h;obtain ⟨cs,rfl,hr⟩:=h;obtain ⟨zU,h1,h2,h3⟩:=Jq r hlk hk c cs fp (by simpa [jM] using ho) (by simpa [lU] using hu) (by simpa [lU] using hku) hn hF hr;exact ⟨zU,by simp only [res,R];exact ⟨cs,rfl,h1⟩,h2,by simpa [lU] using h3⟩
 | .int k n,v,fp,_,_,_,hn,_,h=>⟨fp,by simpa [res,R] using h,hn,λb hb=> .inl hb⟩
 | .bool b,v,fp,_,_,_,hn,_,h=>⟨fp,by simpa [res,R] using h,hn,λb hb=> .inl hb⟩
 | .str x,v,fp,_,_,_,hn,_,h=>⟨fp,by simpa [res,R] using h,hn,λb hb=> .inl hb⟩
 | .sl .own n l,v,fp,_,_,_,hn,_,h=>⟨fp,by simp only [res];rw [rH] at h⊢;exact h,hn,λb hb=> .inl hb⟩
 | .sl .view n l,v,fp,_,_,_,hn,_,h=>⟨fp,by simp only [res,R] at h⊢;exact h,hn,λb hb=> .inl hb⟩
 | .sl (.jZ i) n l,v,fp,ho,_,_,_,_,h=>by simp [jM] at ho
 | .gD .view c off,v,fp,_,_,_,hn,_,h=>⟨fp,by simp only [res,R] at h⊢;exact h,hn,λb hb=> .inl hb⟩
 | .gD .own c off,v,fp,ho,_,_,_,_,h=>by simp [jM] at ho
 | .gD (.jZ _) c off,v,fp,ho,_,_,_,_,h=>by simp [jM] at ho
 | .ptr _ _ _ _,v,fp,ho,_,_,_,_,h=>by simp [jM] at ho
 | .fn f [],v,fp,_,_,_,hn,_,h=>⟨fp,by simp only [res,R] at h⊢;obtain ⟨h1,cs,h2,h3⟩:=h;refine ⟨h1,cs,h2,?_⟩;cases cs<;>simp_all [Rc],hn,λb hb=> .inl hb⟩
 | .fn f (_::_),v,fp,ho,_,_,_,_,h=>by simp [jM] at ho
 | .undef,v,fp,_,_,_,hn,_,h=>⟨fp,by simpa [res,R] using h,hn,λb hb=> .inl hb⟩
theorem Jq (r:eP B s G a w) {k:Nat} {ok:aM} {gk:CO} (hlk:look s.o G k ok gk) (hk:ok.live=true):∀(c:List AV) (cs:List Value) (fp:List Nat),mW s.o c=true->(kH c).Nodup->k∉kH c->fp.Nodup->(∀b∈fp,gk.F b)->Rc w (env B s.o G w) c cs fp->
  ∃zU,Rc w (env B s.o G w).plain (tC s.o c) cs zU/\zU.Nodup/\∀b∈zU,b∈fp\/Of s.o G (kH c) b
 |[],[],fp,_,_,_,hn,_,h=>⟨fp,by simpa [tC,Rc] using h,hn,λb hb=> .inl hb⟩
 |[],_::_,_,_,_,_,_,_,h=>by simp [Rc] at h
 |_::_,[],_,_,_,_,_,_,h=>by simp [Rc] at h
 |x::xs,c::cs,fp,ho,hu,hku,hn,hF,h=>by
  simp only [Rc] at h;obtain ⟨g1,g2,h1,h2,rfl⟩:=h;simp only [mW,eJ] at ho;simp only [kH,gC] at hu;simp only [kH,fL,not_or] at hku;have hn':=gC.1 hn;obtain ⟨f1,k1,n1,o1⟩:=gu r hlk hk x c g1 ho.1 hu.1 hku.1 hn'.1 (λb hb=>hF b (nB _ hb)) h1;obtain ⟨f2,k2,n2,o2⟩:=Jq r hlk hk xs cs g2 ho.2 hu.2.1 hku.2 hn'.2.1 (λb hb=>hF b (sR _ hb)) h2;have aNq:∀(u:List Nat) (b:Nat),k∉u->gk.F b->Of s.o G u b->False:=by rintro u b hku hFb ⟨i,ob,g,hi,hl,hlive,hF'⟩;exact hku (r.apart k i _ _ _ _ b hlk hl hk hlive hFb hF'▸hi)
  refine ⟨f1++f2,by simp only [tC,Rc];exact ⟨f1,f2,k1,k2,rfl⟩,?_,?_⟩
  .refine gC.2 ⟨n1,n2,λb hb b' hb' e=> ?_⟩
   subst e;rcases o1 b hb with p1|p1<;>rcases o2 b hb' with p2|p2
   .exact hn'.2.2 b p1 b p2 rfl
   .exact aNq _ b hku.2 (hF b (nB _ p1)) p2
   .exact aNq _ b hku.1 (hF b (sR _ p2)) p1
   .obtain ⟨i,ob,g,hi,hl,hlive,hF1⟩:=p1;obtain ⟨j,fI,g',hj,BP,wR,zw⟩:=p2;exact hu.2.2 i hi j hj (r.apart i j _ _ _ _ b hl BP hlive wR hF1 zw)
  .intro b hb;rcases fL.1 hb with hb|hb
   .rcases o1 b hb with h|⟨i,ob,g,hi,h⟩
    .exact .inl (nB _ h)
    .exact .inr ⟨i,ob,g,by simp [kH,hi],h⟩
   .rcases o2 b hb with h|⟨i,ob,g,hi,h⟩
    .exact .inl (sR _ h)
    .exact .inr ⟨i,ob,g,by simp [kH,hi],h⟩
end
end
def dP (l:List UInt8):List (List AV):=l.map λc=>[.int .u8 c.toNat]
theorem mX (l:List UInt8):(dP l).length=l.length:=lR _
theorem Yd {w:World} {E:Env} {b:Nat}:∀(l:List UInt8) (off:Nat),(∀(j:Nat) (c:UInt8),l[j]? =some c->w.cell? ⟨b,off+j,none⟩=some (.int .u8 c.toNat))->Rr w E (dP l) b off 1 []
 |[],_,_=>by simp [dP,Rr]
 |c::l,off,h=>by
  simp only [dP,mT,Rr];refine ⟨[.int .u8 c.toNat],[],[],rfl,λj v hv=> ?_,by simp [Value.oneCell'],by simp [Rc,R],Yd l (off+1) (λj c' hc=> ?_),rfl⟩
  .cases j with
   |zero=>simp only [sL,eC] at hv;subst hv;exact h 0 c rfl
   |succ j=>simp at hv
  .have:=h (j+1) c' (by simpa using hc)
   rwa [show off+1+j=off+(j+1) by omega]
theorem ib (src d:TypeId) (x:Operand) {l:List UInt8} {e:TypeId} {by':Nat} (hx:s.ev x= .str l) (hs:isString P src=true) (hd:iC P d=some (e,1,by')) (he:intType P e=some .u8) (hl:l.length<=9223372036854775807):
  Step P B ⟨dst,.convert src d x,ty,pos,after,gd⟩ s (s.made dst 1 (dP l)):=
 qM λG a w r=>by
  obtain ⟨hu,_⟩:=qB hd;have hue:P.underlying e=some (.int .u8):=by
   unfold intType at he;split at he
   .rename_i k hk;rw [hk];simpa using he
   .cases he
  have hrun:=Lib.run_convert_string_bytes w src d e ⟨l.toArray⟩ (nU hs) hu hue;have hsz:(⟨l.toArray⟩:ByteArray).size=l.length:=by simp [ByteArray.size]
  rw [hsz] at hrun;have hge:l.length<=grownCap w l.length 0 e:=grownCap_ge _ _ _ _;have hle:grownCap w l.length 0 e<=maxLen:=DB _ _ _ _ (by simpa [maxLen] using hl);have hnew:=Lib.bytesWorld_at_new w e ⟨l.toArray⟩;have hbs:=Lib.bytesWorld_size w e ⟨l.toArray⟩;have hold:=Lib.bytesWorld_at_old w e ⟨l.toArray⟩;have hC:Lib.bytesCells w e ⟨l.toArray⟩=(l.map λc=>Value.int .u8 c.toNat).toArray++Array.replicate (grownCap w l.length 0 e - l.length) (.int .u8 0):=by simp [Lib.bytesCells,hsz]
  have hCs:(Lib.bytesCells w e ⟨l.toArray⟩).size=grownCap w l.length 0 e:=by rw [hC];simp;omega
  have hsm:nG w (Lib.bytesWorld w e ⟨l.toArray⟩):=⟨rfl,rfl,rfl⟩;generalize vP:grownCap w l.length 0 e=cap at *;generalize hw:Lib.bytesWorld w e ⟨l.toArray⟩=w' at *;have hadd:=r.add [⟨true,false,1,1,dP l⟩] [⟨some ⟨w.heap.size,0,none⟩,cap,λb=>b=w.heap.size⟩] w' rfl (by omega) (λb hb=>hold b hb)
   (by
    rintro j ob g b ⟨h1,h2⟩ _ hf;cases j with
    |zero=>simp at h2;subst h2;simp at hf;subst hf;omega
    |succ j=>simp at h2)
   (by
    rintro i j _ _ _ _ b ⟨h1,_⟩ ⟨h2,_⟩ _ _ _ _;cases i<;>cases j<;>simp_all)
   (by
    rintro k j ob g ⟨h1,h2⟩ _;cases j with
    |zero=>
     simp at h1 h2;subst h1;subst h2;refine ⟨[w.heap.size],⟨by simp only [mX];exact lO hge hle,.inr ⟨w.heap.size,0,_,e,_,[],rfl,hnew,.inl ⟨eE _,rfl⟩,by show 0+cap * 1<=_;rw [hCs];omega,by simp only [mX];exact hge,hle,rfl,?_⟩⟩,by simp,by simp⟩;refine Yd l 0 λj c hc=> ?_
     have hj:=(cH.1 hc).1;have h3:(Lib.bytesCells w e ⟨l.toArray⟩)[j]? =some (.int .u8 c.toNat):=by rw [hC,tA (by simpa using hj)];simp [hc]
     simp only [World.cell?,hnew,hM];exact h3
    |succ j=>simp at h1)
   hsm
  refine ⟨.slice (some ⟨w.heap.size,0,none⟩) l.length cap,w',by simp only [execOp,r.XO hx,nF,hrun,lP,sE],_,hadd.1.put dst ?_⟩;simp only [R];refine ⟨trivial,⟨true,false,1,1,dP l⟩,⟨some ⟨w.heap.size,0,none⟩,cap,λb=>b=w.heap.size⟩,?_,eE _,⟨λ_ _=>by simp [mX],λh=>by omega⟩⟩;have:=oG (i:=0) (o:=s.o) (G:=G) (o2:=[⟨true,false,1,1,dP l⟩]) (G2:=[⟨some ⟨w.heap.size,0,none⟩,cap,λb=>b=w.heap.size⟩]) r.len ⟨rfl,rfl⟩;simpa using this
end
end Go.Aw
