/- Proved here: steps towards the statement of this claim. No condition. -/
import Derived.Test.YtdcpobkemdacnaaGreatDoorZF1
import Derived.Lib.ConvBytes
set_option linter.all false
namespace Go.Aw
open List
def AV.NA:AV->Bool
 | .undef=>false
 | .gZ _=>false
 | .agg _=>false
 | .obj _ _=>false
 | .ptr _ _ _ _=>false
 | .sl (.kG _) _ _=>false
 | .fA (.kG _) _ _=>false
 | .fn _ (_::_)=>false
 |_=>true
theorem aF2 {w:World} {E E':Env} (hA:∀b,E.A b->E'.A b) {x:AV} {v:Value} (hs:x.NA=true) (h:R w E x v []):R w E' x v []:=by
 cases x with
 |int _ _=>simpa [R] using h
 |bool _=>simpa [R] using h
 |str _=>simpa [R] using h
 |sl g n l=>
  cases g with
  |own=>
   rw [wB] at h⊢;obtain ⟨a,cap,hv,hl,h⟩:=h;refine ⟨a,cap,hv,hl,.inl ?_⟩;rcases h with h|⟨_,_,_,_,_,_,_,_,_,_,_,_,hf,_⟩
   .exact h
   .cases hf
  |view=>refine pR (w:=w) (E:=E.plain) (E':=E') ⟨λb h=>⟨hA b h,rfl⟩,λ_ _=>trivial,λ_ _ _ h=>h.elim,λ_ _ _ h=>h.elim,λ_ _ _ _ _ h=>h.elim⟩ _ _ _ (by simp) ?_;simp only [R] at h⊢;exact h
  |kG i=>cases hs
 |fA g c off=>
  cases g with
  |own=>simp only [R] at h;rcases h with h|⟨_,_,_,_,_,h,_⟩;exact h.1.elim;exact h.elim
  |view=>refine pR (w:=w) (E:=E.plain) (E':=E') ⟨λb h=>⟨hA b h,rfl⟩,λ_ _=>trivial,λ_ _ _ h=>h.elim,λ_ _ _ h=>h.elim,λ_ _ _ _ _ h=>h.elim⟩ _ _ _ (by simp) ?_;simp only [R] at h⊢;exact h
  |kG i=>cases hs
 |obj _ _=>cases hs
 |ptr _ _ _ _=>cases hs
 |agg _=>cases hs
 |gZ _=>cases hs
 |fn f c=>
  cases c with
  |nil=>simp only [R] at h⊢;obtain ⟨h1,cs,h2,h3⟩:=h;refine ⟨trivial,cs,h2,?_⟩;cases cs<;>simp_all [Rc]
  |cons _ _=>cases hs
 |undef=>cases hs
theorem Yk {w:World} {E E':Env} (hA:∀b,E.A b->E'.A b):∀{c:List AV} {cs:List Value},c.all AV.NA=true->Rc w E c cs []->Rc w E' c cs []
 |[],[],_,_=>by simp [Rc]
 |[],_::_,_,h=>by simp [Rc] at h
 |_::_,[],_,h=>by simp [Rc] at h
 |x::xs,c::cs,hs,h=>by
  simp only [Rc] at h⊢;simp only [CN,eJ] at hs;obtain ⟨f1,f2,h1,h2,e⟩:=h;obtain ⟨rfl,rfl⟩:f1=[]/\f2=[]:=by simpa using e
  exact ⟨[],[],aF2 hA hs.1 h1,Yk hA hs.2 h2,rfl⟩
section
variable {P : Program} [aC P] {B : gV P} {s : AS} {dst : Option Tmp} {ty : TypeId} {pos : String} {after : Array Edge} {gd : Option (Nat × Bool)}
def AS.stored (s:AS) (i idx off:Nat) (ob:aN) (e c:List AV):AS:=⟨s.t,s.o.set i {ob with eQ:=ob.eQ.set idx (e.take off++c++e.drop (off+c.length))}⟩
theorem eF.stored {G:List CO} {a:Act} {w:World} (r:eF B s G a w) {i idx off:Nat} {ob:aN} {g:CO} {e c:List AV} {vs:List Value} (hl:Aw.look s.o G i ob g) (hlive:ob.live=true) (he:ob.eQ[idx]? =some e)
  (hfit:off+c.length<=e.length) (vP:ob.box=true\/c.all AV.NA=true) (hone:∀x∈vs,x.oneCell'=true) (hr:Rc w (env B s.o G w) c vs []):
  ∃b f,g.a=some ⟨b,f,none⟩/\(storeCells ⟨b,f+(idx * ob.n+off),none⟩ vs).run P w= .ok () (w.setCells b (f+(idx * ob.n+off)) vs)/\
   eF B (s.stored i idx off ob e c) (G.set i g) a (w.setCells b (f+(idx * ob.n+off)) vs):=by
 obtain ⟨fp,hown,hnd,hF⟩:=r.ok i ob g hl hlive;have hvl:=gN hr;rcases hown with ⟨hlen,⟨h,_⟩|⟨b,f,C,ty,fz,rD,ha,hb,hz,h1,h2,h3,rfl,WJ⟩⟩
 .rw [h] at he;simp at he
 obtain ⟨f1,f2,f3,cs,hfe,hn,hc,Yl,wH,hr1,hr3⟩:=CS WJ he;have hcl:=gN wH;have aJq:idx < ob.eQ.length:=(cH.1 he).1;have hmul:(idx+1) * ob.n<=g.cap * ob.n:=hY _ (by omega);have xc:(idx+1) * ob.n=idx * ob.n+ob.n:=by rw [pS];omega
 have aAs:f+(idx * ob.n+off)+vs.length<=C.size:=by omega
 refine ⟨b,f,ha,tX hb hz aAs hone,?_⟩;have UZ:g.F b:=hF b (by simp);have DX:∀b',b'≠b->(w.setCells b (f+(idx * ob.n+off)) vs).heap[b']? =w.heap[b']?:=λb' hne=>lU b b' hne _ _ _
 obtain ⟨C',hC',hCs⟩:=jQ b ty fz vs (f+(idx * ob.n+off)) w C hb;have hm:=r.modify hl hlive {ob with eQ:=ob.eQ.set idx (e.take off++c++e.drop (off+c.length))} g (w.setCells b (f+(idx * ob.n+off)) vs) (eE _) rfl (λ_=>⟨rfl,rfl,by simp⟩) (λb hb=> .inl hb) (λb hb hne=>⟨hb,hne⟩)
  (λb' hlt hne=>DX b' (λe=>hne ⟨e▸UZ,⟨b,f,none⟩,ha,e⟩)) (by rw [iA];exact eE _) (λk _=>by
  generalize env B (s.o.set i {ob with eQ:=ob.eQ.set idx (e.take off++c++e.drop (off+c.length))}) (G.set i g) (w.setCells b (f+(idx * ob.n+off)) vs)=E' at k⊢;have kb:=k.of ob.box;obtain ⟨g1,g2,rfl,hc1,XZ⟩:=tV off wH;obtain ⟨g3,g4,rfl,hc3,hc4⟩:=tV c.length XZ;have hc':Rc w ((env B s.o G w).of ob.box) c vs []:=by
   cases JN:ob.box with
   |true=>exact hr
   |false=>
    rcases vP with h|h
    .rw [JN] at h;cases h
    .exact Yk (E:=env B s.o G w) (E':=(env B s.o G w).of false) (λb hb=>hb) h hr
  subst hfe;have hsub:(f1++(g1++g4)++f3).Sublist (f1++(g1++(g3++g4))++f3):=((rS f1).append ((rS g1).append (sublist_append_right g3 g4))).append (rS f3);have hbn:b∉f1++(g1++(g3++g4))++f3:=(lR.1 hnd).1;have hold:∀x∈f1++(g1++g4)++f3,(w.setCells b (f+(idx * ob.n+off)) vs).heap[x]? =w.heap[x]?:=λx hx=>DX x (λe=>hbn (hsub.subset (e▸hx)))
  have IK:∀j,j < f+(idx * ob.n+off)\/f+(idx * ob.n+off)+vs.length<=j->(w.setCells b (f+(idx * ob.n+off)) vs).cell? ⟨b,j,none⟩=w.cell? ⟨b,j,none⟩:=λj hj=>AN b vs _ w _ (λ_ _=>hj)
  have hti:(ob.eQ.take idx).length=idx:=by simp;omega
  refine ⟨b::(f1++(g1++g4)++f3),⟨by simpa using hlen,.inr ⟨b,f,C',ty,fz,_,ha,hC',by rw [hCs];exact hz,by rw [hCs];exact h1,by simpa using h2,h3,rfl,?_⟩⟩,?_,?_⟩
  .show Rr _ _ (ob.eQ.set idx _) b f ob.n _;refine wy (cs:=cs.take off++vs++cs.drop (off+vs.length)) aJq ?_ ?_ ?_ ?_ ?_ ?_
   .simp only [eR,oR,zE];omega
   .have hc1:bN w b (f+idx * ob.n) cs:=hc;have htl:(cs.take off).length=off:=by simp;omega
    refine bN.append.2 ⟨bN.append.2 ⟨?_,?_⟩,?_⟩
    .intro j v hv;have hj:=(cH.1 hv).1;rw [htl] at hj;rw [IK _ (by omega)];exact hc1.take j v hv
    .intro j v hv;have hj:j < vs.length:=(cH.1 hv).1;rw [htl,oB f];have:=Bk b vs (f+(idx * ob.n+off)) w (λj hj=>by
      have:f+(idx * ob.n+off)+j < C.size:=by omega
      simp [World.cell?,hb,this]) j hj
     rw [this];rw [aE hj] at hv;exact hv
    .intro j v hv;simp only [eR,htl];rw [IK _ (by omega)];have:=hc1.drop (k:=off+vs.length) j v hv
     rwa [show f+idx * ob.n+(off+vs.length)+j=f+idx * ob.n+(off+vs.length)+j from rfl] at this
   .intro x hx;simp only [fL] at hx;rcases hx with (hx|hx)|hx
    .exact Yl x (tB hx)
    .exact hone x hx
    .exact Yl x (By hx)
   .have e1:g1++g4=g1++[]++g4:=by simp
    rw [e1];refine mU (mU (fB kb _ _ _ (λx hx=>hold x (by simp [hx])) hc1) (fB kb _ _ _ (by simp) hc')) ?_;rw [<-hvl,<-At,<-At] at *;rw [hvl] at *;exact fB kb _ _ _ (λx hx=>hold x (by simp [hx])) hc4
   .refine Qc kb IK (λx hx=>hold x (by simp [hx])) (.inl ?_) hr1
    rw [hti];omega
   .refine Qc kb IK (λx hx=>hold x (by simp [hx])) (.inr ?_) hr3
    omega
  .refine lR.2 ⟨λh=>hbn (hsub.subset h),hsub.nodup (lR.1 hnd).2⟩
  .intro x hx;rcases lE.1 hx with rfl|hx
   .exact UZ
   .exact hF x (AI _ (hsub.subset hx)))
 exact hm.1
def eB (P:Program) (t:TypeId):Option Nat:=(P.info? t).map (·.size)
theorem iy (t:TypeId) (x y:Operand) {i cZ idx off:Nat} {ob:aN} {e:List AV} (hx:s.ev x= .ptr i cZ idx off) (ho:AV.isObj s.o i cZ=some ob) (he:ob.eQ[idx]? =some e)
  (hfy:(s.ev y).fit s.o=true) (hsz:eB P t=some (s.ev y).cells.length) (hfit:off+(s.ev y).cells.length<=e.length) (vP:ob.box=true\/(s.ev y).cells.all AV.NA=true):
  Step P B ⟨dst,.store t x y,ty,pos,after,gd⟩ s ((s.stored i idx off ob e (s.ev y).cells).put dst .undef):=
 Qd λG a w r=>by
  obtain ⟨g,b,f,hl,hlive,ha,hv⟩:=r.ptr hx ho;have hc:=PH hfy (r.ev y);obtain ⟨b',f',wN,hst,hrel⟩:=r.stored (P:=P) hl hlive he hfit vP hc.2.1 hc.1;rw [ha] at wN;simp only [eC,pC,rK] at wN;obtain ⟨rfl,rfl⟩:=wN;have hlen:=gN hc.1;refine ⟨_,?_,_,hrel.put dst (by simp [R])⟩;unfold eB at hsz;cases hi:P.info? t with
  |none=>simp [hi] at hsz
  |some inf=>
   simp only [hi,mC,eC] at hsz;have aAt:(a.eval y).cells.size=inf.size:=by rw [hsz];simpa using hlen
   simp [execOp,hv,Instr.storeAt,Instr.sureAddr,storeVar,sizeOf,typeInfo,hi,aAt,hst]
theorem qU {t e:TypeId} {n by':Nat} (h:gX P t=some (e,n,by')):P.underlying t=some (.slice e)/\∃i,P.info? e=some i/\i.size=n/\i.bytes=by':=by
 unfold gX at h;split at h
 .rename_i e' hu;cases hi:P.info? e' with
  |none=>simp [hi] at h
  |some i=>simp [hi] at h;obtain ⟨rfl,rfl,rfl⟩:=h;exact ⟨hu,i,hi,rfl,rfl⟩
 .cases h
theorem NB {t e:TypeId} {n by':Nat} (h:gX P t=some (e,n,by')) (b f len cap:Nat) (k:IntKind) (i:Int) (h0:0<=i) (h1:i < len) (w:World):
  (Instr.indexAt t (.slice (some ⟨b,f,none⟩) len cap) (.int k i)).run P w= .ok (.pointer (some ⟨b,f+i.toNat * n,none⟩)) w:=by
 obtain ⟨hu,inf,hi,hs,_⟩:=qU h;simp [Instr.indexAt,asIntOf,gC hu,h0,h1,sizeOf,typeInfo,hi,hs,addr_add]
theorem eF.ja {G:List CO} {a:Act} {w:World} (r:eF B s G a w) {x:Operand} {i cZ:Nat} {ob:aN} (hx:s.ev x= .obj i cZ) (ho:AV.isObj s.o i cZ=some ob):
  ∃g,Aw.look s.o G i ob g/\ob.live=true/\a.eval x= .slice g.a ob.eQ.length g.cap:=by
 have h:=r.ev x;rw [hx] at h;simp only [R] at h;obtain ⟨_,fZ,g,hl,_,hh,_⟩:=h;obtain ⟨h1,h2,h3⟩:=lC ho;obtain rfl:=cQ (hl.1.symm.trans h1);exact ⟨g,hl,h2,hh h2 h3⟩
theorem eF.IW {G:List CO} {a:Act} {w:World} (r:eF B s G a w) {x:Operand} {k:IntKind} {n:Int} (hx:s.ev x= .int k n):a.eval x= .int k n:=by have h:=r.ev x;rw [hx] at h;simp only [R] at h;exact h.1
theorem eF.Ym {G:List CO} {a:Act} {w:World} (r:eF B s G a w) {x:Operand} {n:Bool} (hx:s.ev x= .bool n):a.eval x= .bool n:=by have h:=r.ev x;rw [hx] at h;simp only [R] at h;exact h.1
theorem eF.Yn {G:List CO} {a:Act} {w:World} (r:eF B s G a w) {x:Operand} {n:List UInt8} (hx:s.ev x= .str n):a.eval x= .string ⟨n.toArray⟩:=by have h:=r.ev x;rw [hx] at h;simp only [R] at h;exact h.1
theorem Qj (t:TypeId) (x ix:Operand) {i cZ:Nat} {ob:aN} {e:TypeId} {by':Nat} {k:IntKind} {n:Int} (hx:s.ev x= .obj i cZ) (ho:AV.isObj s.o i cZ=some ob) (hi:s.ev ix= .int k n)
  (ht:gX P t=some (e,ob.n,by')) (h0:0<=n) (h1:n < ob.eQ.length) (JN:ob.box=false\/ob.cZ≠2):Step P B ⟨dst,.indexAddr t x ix,ty,pos,after,gd⟩ s (s.put dst (.ptr i cZ n.toNat 0)):=
 dW λG a w r=>by
  obtain ⟨g,hl,hlive,hv⟩:=r.ja hx ho;have hlt:n.toNat < ob.eQ.length:=by omega
  obtain ⟨b,f,cs,ha,_⟩:=r.elem hl hlive (aE hlt);refine ⟨.pointer (some ⟨b,f+n.toNat * ob.n,none⟩),?_,?_⟩
  .simp only [execOp,hv,ha,r.IW hi];simp [NB ht b f _ g.cap k n h0 h1]
  .simp only [R];obtain ⟨h1,h2,h3⟩:=lC ho;exact ⟨trivial,ob,g,hl,CA h3.symm,λ_ _=>⟨b,f,ha,by simp⟩,λe e2=>by rcases JN with JN|JN;(rw [JN] at e;cases e);exact absurd e2 (by omega)⟩
theorem aAu {o:List aN} {G:List CO} {w:World} {g:Tg} {n:Nat} {l:List (List AV)} (hf:(AV.sl g n l).fit o=true):¬(env B o G w).dead g:=by
 cases g with
 |own=>exact λh=>h
 |view=>exact λh=>h
 |kG i=>
  simp only [AV.fit] at hf;refine λhd=>hd (λob wG=> ?_)
  simpa [wG] using hf
theorem eF.slv {G:List CO} {a:Act} {w:World} (r:eF B s G a w) {x:Operand} {g:Tg} {n:Nat} {l:List (List AV)} (hx:s.ev x= .sl g n l) (hf:(AV.sl g n l).fit s.o=true):
  ∃ad cap,a.eval x= .slice ad l.length cap/\(l.length<=maxLen/\l.length<=cap)/\((l=[]/\(g= .own->cap=0))\/∃b f,ad=some ⟨b,f,none⟩/\g≠ .own/\(env B s.o G w).tg g b/\Rr w ((env B s.o G w).sub g) l b f n []):=by
 have h:=r.ev x;rw [hx] at h;simp only [R] at h;rcases h with h|⟨ad,cap,hv,hl,h⟩
 .exact absurd h.1 (aAu hf)
 .refine ⟨ad,cap,hv,hl,?_⟩;rcases h with h|⟨_,_,_,_,_,_,_,_,_,_,_,_,_,JR,_⟩|⟨hg,_,h⟩
  .exact .inl ⟨h.2.1,λ_=>h.2.2.1⟩
  .cases JR
  .rcases h with h|⟨b,f,ha,ht,hr⟩
   .exact .inl ⟨h,λe=>absurd e hg⟩
   .exact .inr ⟨b,f,ha,hg,ht,hr⟩
theorem TV (t:TypeId) (x ix:Operand) {g:Tg} {m:Nat} {l:List (List AV)} {e:TypeId} {by':Nat} {k:IntKind} {n:Int} {c:List AV} (hx:s.ev x= .sl g m l) (hf:(AV.sl g m l).fit s.o=true) (hi:s.ev ix= .int k n)
  (ht:gX P t=some (e,m,by')) (h0:0<=n) (hc:l[n.toNat]? =some c):Step P B ⟨dst,.indexAddr t x ix,ty,pos,after,gd⟩ s (s.put dst (.fA g c 0)):=
 dW λG a w r=>by
  obtain ⟨ad,cap,hv,hl,h⟩:=r.slv hx hf;have hlt:=(cH.1 hc).1;rcases h with ⟨h,_⟩|⟨b,f,rfl,hg,htg,hr⟩
  .rw [h] at hlt;simp at hlt
  .refine ⟨.pointer (some ⟨b,f+n.toNat * m,none⟩),?_,?_⟩
   .simp only [execOp,hv,r.IW hi];simp [NB ht b f l.length cap k n h0 (by omega)]
   .simp only [R];obtain ⟨f1,f2,f3,cs,hfe,hn,hcs,hone,wH,_,_⟩:=CS hr hc;have:f2=[]:=by have:=An length hfe;simp at this;exact kO (by omega)
    subst this;exact .inr ⟨trivial,b,f+n.toNat * m,cs,by simp,htg,hcs,hone,wH⟩
def aF4 (P:Program) (t:TypeId):Option (Nat×Nat):=
 match P.underlying t with
 |some (.array n e)=>(P.info? e).map λi=>(n,i.size)
 |_=>none
theorem Qk (t:TypeId) (x ix:Operand) {i cZ idx off len sz:Nat} {ob:aN} {k:IntKind} {n:Int} (hx:s.ev x= .ptr i cZ idx off) (ho:AV.isObj s.o i cZ=some ob) (hi:s.ev ix= .int k n)
  (ht:aF4 P t=some (len,sz)) (h0:0<=n) (h1:n < len):Step P B ⟨dst,.indexAddr t x ix,ty,pos,after,gd⟩ s (s.put dst (.ptr i cZ idx (off+n.toNat * sz))):=
 dW λG a w r=>by
  obtain ⟨g,b,f,hl,hlive,ha,hv⟩:=r.ptr hx ho;refine ⟨.pointer (some ⟨b,f+(idx * ob.n+(off+n.toNat * sz)),none⟩),?_,?_⟩
  .unfold aF4 at ht;split at ht
   .rename_i n' e' hu;cases hi':P.info? e' with
    |none=>simp [hi'] at ht
    |some inf=>simp [hi'] at ht;obtain ⟨rfl,rfl⟩:=ht;simp [execOp,hv,r.IW hi,Instr.indexAt,asIntOf,gC hu,Instr.sureAddr,h0,h1,sizeOf,typeInfo,hi',addr_add,oB]
   .cases ht
  .simp only [R];obtain ⟨h1,h2,h3⟩:=lC ho;refine ⟨trivial,ob,g,hl,CA h3.symm,λ_ _=>⟨b,f,ha,rfl⟩,λe1 e2 e3 e4 y hy=> ?_⟩;have h0':off=0:=by omega
   have aQq:n.toNat * sz=0:=by omega
   have:=r.pin hx ho hl e1 e2 e3 h0' y hy;exact ⟨by rw [<-this.1,hv,h0',aQq],this.2⟩
def isSlice (P:Program) (t:TypeId):Bool:=match P.underlying t with|some (.slice _)=>true|_=>false
def isString (P:Program) (t:TypeId):Bool:=match P.underlying t with|some .string=>true|_=>false
theorem JX {t:TypeId} (h:isSlice P t=true):∃e,P.underlying t=some (.slice e):=by
 unfold isSlice at h;split at h
 .rename_i e he;exact ⟨e,he⟩
 .cases h
theorem oV {t:TypeId} (h:isString P t=true):P.underlying t=some .string:=by
 unfold isString at h;split at h
 .assumption
 .cases h
theorem WK (t:TypeId) (x:Operand) {i cZ:Nat} {ob:aN} (hx:s.ev x= .obj i cZ) (ho:AV.isObj s.o i cZ=some ob) (ht:isSlice P t=true):
  Step P B ⟨dst,.call {callee:= .builtin .len,args:=#[x],argTypes:=#[t]},ty,pos,after,gd⟩ s (s.put dst (.int .i64 ob.eQ.length)):=
 dW λG a w r=>by obtain ⟨g,hl,hlive,hv⟩:=r.ja hx ho;obtain ⟨e,he⟩:=JX ht;exact ⟨.int .i64 ob.eQ.length,by simp [execOp,resolve,invoke,builtin,hv,Builtin.len_,gC he,goInt],by simp [R]⟩
theorem Yo (t:TypeId) (x:Operand) {g:Tg} {n:Nat} {l:List (List AV)} (hx:s.ev x= .sl g n l) (hf:(AV.sl g n l).fit s.o=true) (ht:isSlice P t=true):
  Step P B ⟨dst,.call {callee:= .builtin .len,args:=#[x],argTypes:=#[t]},ty,pos,after,gd⟩ s (s.put dst (.int .i64 l.length)):=
 dW λG a w r=>by obtain ⟨ad,cap,hv,_⟩:=r.slv hx hf;obtain ⟨e,he⟩:=JX ht;exact ⟨.int .i64 l.length,by simp [execOp,resolve,invoke,builtin,hv,Builtin.len_,gC he,goInt],by simp [R]⟩
theorem size_mk (l:List UInt8):(⟨l.toArray⟩:ByteArray).size=l.length:=by show l.toArray.size=_;simp
theorem WM (t:TypeId) (x:Operand) {l:List UInt8} (hx:s.ev x= .str l) (ht:isString P t=true):
  Step P B ⟨dst,.call {callee:= .builtin .len,args:=#[x],argTypes:=#[t]},ty,pos,after,gd⟩ s (s.put dst (.int .i64 l.length)):=
 dW λG a w r=>by have hv:=r.Yn hx;have he:=oV ht;exact ⟨.int .i64 l.length,by simp [execOp,resolve,invoke,builtin,hv,Builtin.len_,gC he,goInt,size_mk],by simp [R]⟩
theorem Ql (t:TypeId) (x ix:Operand) {l:List UInt8} {k:IntKind} {n:Int} {u:UInt8} (hx:s.ev x= .str l) (hi:s.ev ix= .int k n) (ht:isString P t=true) (h0:0<=n) (hu:l[n.toNat]? =some u):
  Step P B ⟨dst,.index t x ix,ty,pos,after,gd⟩ s (s.put dst (.int .u8 u.toNat)):=
 dW λG a w r=>by
  have hv:=r.Yn hx;have he:=oV ht;have hlt:=(cH.1 hu).1;have hg:(⟨l.toArray⟩:ByteArray)[n.toNat]? =some u:=by rw [getElem?_pos (⟨l.toArray⟩:ByteArray) n.toNat (by simpa [size_mk] using hlt)];obtain ⟨_,rfl⟩:=cH.1 hu;rfl
  exact ⟨.int .u8 u.toNat,by simp [execOp,hv,r.IW hi,Instr.index,asIntOf,gC he,h0,hg],by simp [R]⟩
theorem WN (x:Operand) (ix:Nat) {c:List AV} {y:AV} (hx:s.ev x= .gZ c) (hy:c[ix]? =some y):Step P B ⟨dst,.extract x ix,ty,pos,after,gd⟩ s (s.put dst y):=
 dW λG a w r=>by have h:=r.ev x;rw [hx] at h;simp only [R] at h;obtain ⟨cs,hv,hr⟩:=h;obtain ⟨v,hv',hR⟩:=Md hr hy;exact ⟨v,by simp [execOp,hv,Instr.extract,hv'],hR⟩
theorem TW (f:FuncId) (cap:Array Operand):Step P B ⟨dst,.makeFunc (.func f) #[] cap,ty,pos,after,gd⟩ s (s.put dst (.fn f (s.args cap))):=
 dW λG a w r=>by refine ⟨.func (.func f) #[] (cap.map a.eval),by simp [execOp,Instr.makeFunc],?_⟩;simp only [R];refine ⟨trivial,cap.toList.map a.eval,?_,xE r cap.toList⟩;congr 1;apply DE;simp
theorem aAv (t:TypeId) (x:Operand) {b:Bool} (hx:s.ev x= .bool b):Step P B ⟨dst,.unOp .not t x,ty,pos,after,gd⟩ s (s.put dst (.bool !b)):=
 dW λG a w r=>⟨.bool !b,by simp [execOp,r.Ym hx,Op.unary],by simp [R]⟩
theorem aAw (t:TypeId) (x:Operand) {k:IntKind} {n:Int} (hx:s.ev x= .int k n):Step P B ⟨dst,.unOp .neg t x,ty,pos,after,gd⟩ s (s.put dst (.int k (k.wrap (0 - n)))):=
 dW λG a w r=>⟨.int k (k.wrap (0 - n)),by simp [execOp,r.IW hx,Op.unary,Op.intArith],by simp [R]⟩
theorem E9 (c x y:Operand) {b:Bool} (hc:s.ev c= .bool b):Step P B ⟨dst,.pick c x y,ty,pos,after,gd⟩ s (s.put dst (if b then s.ev x else s.ev y)):=
 dW λG a w r=>⟨if b then a.eval x else a.eval y,by simp [execOp,r.Ym hc,asBool],by cases b;exact r.ev y;exact r.ev x⟩
def Qm (op:BinOp) (k:IntKind) (a b:Int):Int:=match op with
 | .and=>k.wrap ((BitVec.ofInt k.bits a&&& BitVec.ofInt k.bits b).toNat)
 | .or=>k.wrap ((BitVec.ofInt k.bits a |||BitVec.ofInt k.bits b).toNat)
 |_=>k.wrap ((BitVec.ofInt k.bits a ^^^ BitVec.ofInt k.bits b).toNat)
def aF5 (k:IntKind) (a b:Int):Int:=a.fdiv (2 ^ min b.toNat k.bits)
def Qn (op:BinOp) (k:IntKind) (a b:Int):Option AV:=
 match op with
 | .add=>some (.int k (k.wrap (a+b)))
 | .sub=>some (.int k (k.wrap (a - b)))
 | .mul=>some (.int k (k.wrap (a * b)))
 | .quo=>if b=0 then none else some (.int k (k.wrap (a.tdiv b)))
 | .rem=>if b=0 then none else some (.int k (a.tmod b))
 | .eql=>some (.bool (a == b))
 | .neq=>some (.bool (a != b))
 | .lss=>some (.bool (decide (a < b)))
 | .leq=>some (.bool (decide (a<=b)))
 | .gtr=>some (.bool (decide (a > b)))
 | .geq=>some (.bool (decide (a>=b)))
 | .and=>some (.int k (Qm .and k a b))
 | .or=>some (.int k (Qm .or k a b))
 | .xor=>some (.int k (Qm .xor k a b))
 | .shr=>if b < 0 then none else some (.int k (aF5 k a b))
 |_=>none
theorem aAx (t t2:TypeId) (x y:Operand) {k k':IntKind} {m n:Int} (hx:s.ev x= .int k m) (hy:s.ev y= .int k' n) (hn:0<=n):
  Step P B ⟨dst,.binOp .shr t x y t2,ty,pos,after,gd⟩ s (s.put dst (.int k (aF5 k m n))):=
 dW λG a w r=>by
  have hv:=r.IW hx;have X8:=r.IW hy;have hn2:¬n < 0:=by omega
  exact ⟨.int k (aF5 k m n),(by simp [execOp,hv,X8,eqGuard_at_int,binOp,Op.shift,hn2,aF5]),by simp [R]⟩
theorem F3 (op:BinOp) (t t2:TypeId) (x y:Operand) {k:IntKind} {m n:Int} (hop:op= .and\/op= .or\/op= .xor) (hx:s.ev x= .int k m) (hy:s.ev y= .int k n):
  Step P B ⟨dst,.binOp op t x y t2,ty,pos,after,gd⟩ s (s.put dst (.int k (Qm op k m n))):=
 dW λG a w r=>by have hv:=r.IW hx;have X8:=r.IW hy;refine ⟨.int k (Qm op k m n),?_,by simp [R]⟩;rcases hop with rfl|rfl|rfl<;>simp [execOp,hv,X8,eqGuard_at_int,binOp,Op.intBits,Qm]
theorem aAy (op : BinOp) (t t2 : TypeId) (x y : Operand) {k k' : IntKind} {m n : Int} {z : AV} (hx : s.ev x = .int k m) (hy' : s.ev y = .int k' n) (hkk : k' = k \/ op = .shr) (hz : Qn op k m n = some z) :
    Step P B ⟨dst, .binOp op t x y t2, ty, pos, after, gd⟩ s (s.put dst z) := by
  by_cases hsh : op = .shr
  · subst hsh
    simp only [Qn] at hz;split at hz
    · cases hz
    · obtain rfl := cQ hz
      exact aAx t t2 x y hx hy' (by omega)
  have hy := hy';rw [hkk.resolve_right hsh] at hy;by_cases hop : op = .and \/ op = .or \/ op = .xor
  · have e : z = .int k (Qm op k m n) := by rcases hop with rfl | rfl | rfl <;> exact (cQ hz).symm
    subst e;exact F3 op t t2 x y hop hx hy
  · refine dW λG a w r => ?_
    have hv := r.IW hx;have X8 := r.IW hy;cases op <;> simp only [Qn] at hz <;> first | cases hz; done | exact (hsh rfl).elim | exact (hop (.inl rfl)).elim | exact (hop (.inr (.inl rfl))).elim | exact (hop (.inr (.inr rfl))).elim | skip
    all_goals first
      | (obtain rfl := cQ hz; exact ⟨_, (by simp [execOp, hv, X8, eqGuard_at_int, binOp, Op.intArith, Op.intCmp]; rfl), by simp [R]⟩)
      | (split at hz
         · cases hz
         · rename_i hb; obtain rfl := cQ hz; exact ⟨_, (by simp [execOp, hv, X8, eqGuard_at_int, binOp, Op.intDiv, hb]; rfl), by simp [R]⟩)
      | cases hz
def bQ (P:Program) (e:TypeId) (n:Nat):Bool:=
 match (P.info? e).bind (·.zero) with
 |some z=>z.cells.size == n
 |none=>false
theorem zO {P:Program} [aC P] {e:TypeId} {n:Nat} {inf:TypeInfo} (h:bQ P e n=true) (hi:P.info? e=some inf):∃z,inf.zero=some z/\z.cells.size=n:=by
 unfold bQ at h;cases hz:inf.zero with
 |none=>simp [hi,hz] at h
 |some z=>exact ⟨z,rfl,by simpa [hi,hz] using h⟩
def AS.target (s:AS) (n:Nat):AV->Option (Nat×aN×AS)
 | .obj i v=>match AV.isObj s.o i v with
  |some ob=>if ob.box=false/\ob.n=n then some (i,ob,s) else none
  |none=>none
 | .sl .own _ []=>some (s.o.length,⟨true,false,n,0,[]⟩,⟨s.t,s.o++[⟨true,false,n,0,[]⟩]⟩)
 |_=>none
def AS.source (s:AS) (i n:Nat):AV->Option (List (List AV)×List aN)
 | .obj j v=>match AV.isObj s.o j v with
  |some ob=>if ob.box=false/\ob.n=n/\j≠i then some (ob.eQ,s.o.set j ob.kill) else none
  |none=>none
 | .sl .own _ []=>some ([],s.o)
 | .sl .view m l=>if m=n then some (l,s.o) else none
 | .str l=>if n=1 then some (l.map λu=>[.int .u8 u.toNat],s.o) else none
 |_=>none
def AS.xR (s:AS) (o:List aN) (d:Option Tmp) (i:Nat) (ob:aN) (l2:List (List AV)):AS:=
 AS.put ⟨s.t,o.set i {ob with cZ:=ob.cZ+1,eQ:=ob.eQ++l2}⟩ d (.obj i (ob.cZ+1))
def dP (P:Program) (t:TypeId):Bool:=match P.underlying t with|some (.slice _)=>true|some .string=>true|_=>false
theorem EK {P:Program} [aC P] {t:TypeId} (h:dP P t=true):∃d,P.underlying t=some d/\∀k,d≠ .int k:=by
 unfold dP at h;split at h
 .exact ⟨_,‹_›,by simp⟩
 .exact ⟨_,‹_›,by simp⟩
 .cases h
theorem aA0 (w:World) (E:Env):∀l:List UInt8,Rv w E (l.map λu=>[.int .u8 u.toNat]) (l.map λu=> .int .u8 u.toNat) 1 []
 |[]=>by simp [Rv]
 |u::t=>by simp only [mA,Rv];exact ⟨[.int .u8 u.toNat],_,[],[],rfl,rfl,by simp [Value.oneCell'],by simp [Rc,R],aA0 w E t,rfl⟩
theorem eF.target {G:List CO} {a:Act} {w:World} (r:eF B s G a w) {x:Operand} {n i:Nat} {ob:aN} {s1:AS} (ht:s.target n (s.ev x)=some (i,ob,s1)):
  ∃G1 g,eF B s1 G1 a w/\Aw.look s1.o G1 i ob g/\ob.live=true/\ob.box=false/\ob.n=n/\a.eval x= .slice g.a ob.eQ.length g.cap/\s1.t=s.t:=by
 cases hx:s.ev x with
 |obj j v=>
  rw [hx] at ht;simp only [AS.target] at ht;cases ho:AV.isObj s.o j v with
  |none=>simp [ho] at ht
  |some o=>
   simp only [ho] at ht;split at ht
   .rename_i hc;simp only [eC,oE] at ht;obtain ⟨rfl,rfl,rfl⟩:=ht;obtain ⟨g,hl,hlive,hv⟩:=r.ja hx ho;exact ⟨G,g,r,hl,hlive,hc.1,hc.2,hv,rfl⟩
   .cases ht
 |sl g m l=>
  rw [hx] at ht;cases g with
  |own=>
   cases l with
   |nil=>
    simp only [AS.target,eC,oE] at ht;obtain ⟨rfl,rfl,rfl⟩:=ht;obtain ⟨ad,cap,hv,_,h⟩:=r.slv hx rfl;have wS:cap=0:=by
     rcases h with h|⟨_,_,_,h,_⟩
     .exact h.2 rfl
     .exact absurd rfl h
    subst wS;have hadd:=r.add [⟨true,false,n,0,[]⟩] [⟨ad,0,λ_=>False⟩] w rfl (eE _) (λ_ _=>rfl) (λj ob g b hl _ hF=>by
     cases j with
     |zero=>obtain ⟨_,h2⟩:=hl;simp at h2;subst h2;exact hF.elim
     |succ j=>simp [Aw.look] at hl) (λi j _ _ gi _ b hi hj _ _ Fp _=>by
     cases i with
     |zero=>obtain ⟨_,h2⟩:=hi;simp at h2;subst h2;exact Fp.elim
     |succ i=>simp [Aw.look] at hi) (λk j ob g hl _=>by
     cases j with
     |zero=>obtain ⟨h1,h2⟩:=hl;simp at h1 h2;subst h1;subst h2;exact ⟨[],⟨by simp,.inl ⟨rfl,rfl,rfl⟩⟩,by simp,by simp⟩
     |succ j=>simp [Aw.look] at hl)
    refine ⟨_,⟨ad,0,λ_=>False⟩,hadd.1,⟨by simp,by rw [<-r.len];simp⟩,rfl,rfl,rfl,?_,rfl⟩;simpa using hv
   |cons _ _=>cases ht
  |view=>simp [AS.target] at ht
  |kG _=>simp [AS.target] at ht
 |int _ _=>rw [hx] at ht;simp [AS.target] at ht
 |bool _=>rw [hx] at ht;simp [AS.target] at ht
 |str _=>rw [hx] at ht;simp [AS.target] at ht
 |fA _ _ _=>rw [hx] at ht;simp [AS.target] at ht
 |ptr _ _ _ _=>rw [hx] at ht;simp [AS.target] at ht
 |agg _=>rw [hx] at ht;simp [AS.target] at ht
 |gZ _=>rw [hx] at ht;simp [AS.target] at ht
 |fn _ _=>rw [hx] at ht;simp [AS.target] at ht
 |undef=>rw [hx] at ht;simp [AS.target] at ht
theorem Yp {s s1:AS} (h:s1.t=s.t) (x:Operand):s1.ev x=s.ev x:=by cases x<;>simp [AS.ev,h]
theorem step_append (tS xT:TypeId) (x y:Operand) {e:TypeId} {n by' i:Nat} {ob:aN} {s1:AS} {l2:List (List AV)} {o2:List aN} (he:gX P tS=some (e,n,by')) (hz:bQ P e n=true) (hxt:dP P xT=true)
  (ht:s.target n (s.ev x)=some (i,ob,s1)) (hs:s1.source i n (s.ev y)=some (l2,o2))
  (hbytes:(ob.eQ.length+l2.length) * by'<=140737488355328) (h63:ob.eQ.length+l2.length<=9223372036854775807):
  Step P B ⟨dst,.call {callee:= .builtin .append,args:=#[x,y],argTypes:=#[tS,xT]},ty,pos,after,gd⟩ s (s.xR o2 dst i ob l2):=
 rQ λG0 a w r0=>by
  obtain ⟨hu,inf,hi,hsz,hby⟩:=qU he;obtain ⟨z,xe,hz2⟩:=zO hz hi;obtain ⟨G,g,r,hl,hlive,vP,hn,hv,hst⟩:=r0.target ht;have hev:=Yp hst y;rw [<-hev] at hs;have xg:∀{v w'},(Builtin.append_ #[tS,xT] ty #[.slice g.a ob.eQ.length g.cap,a.eval y]).run P w= .ok v w'->(execOp a.eval ⟨dst,.call {callee:= .builtin .append,args:=#[x,y],argTypes:=#[tS,xT]},ty,pos,after,gd⟩).run P w= .ok (.value v) w':=by intro v w' h;simp [execOp,resolve,invoke,builtin,hv,h]
  obtain ⟨fp,hown,hnd,hF⟩:=r.ok i ob g hl hlive;rw [vP] at hown;have fin:∀{s2:AS} {G2:List CO} {g2:CO} {news:List Value} {fp2:List Nat},eF B s2 G2 a w->Aw.look s2.o G2 i ob g2->g2.a=g.a->g2.cap=g.cap->s2.t=s1.t->s2.o=o2->
    (Builtin.lenOf (a.eval y)).run P w= .ok l2.length w->(∀w',w'.heap=w.heap->(Builtin.firstCells ob.n l2.length (a.eval y)).run P w'= .ok news.toArray w')->
    Rv w (env B s2.o G2 w).plain l2 news ob.n fp2->wF w (env B s2.o G2 w).plain ob.n ob.eQ g2.a g2.cap fp->(fp++fp2).Nodup->(∀b∈fp++fp2,g2.F b)->
    ∃v w',(execOp a.eval ⟨dst,.call {callee:= .builtin .append,args:=#[x,y],argTypes:=#[tS,xT]},ty,pos,after,gd⟩).run P w= .ok (.value v) w'/\Rel B (s.xR o2 dst i ob l2) (a.put dst v) w':=by
   intro s2 G2 g2 news fp2 r2 hl2 ha hc aQs ho2 hlen Fs Ny aA1 WO F4;obtain ⟨v,w',G',hrun,hr',hR⟩:=r2.append (P:=P) (ty:=ty) hl2 hlive vP hu (EK hxt) hi xe (by rw [hsz,hn]) (by rw [hz2,hn]) hlen Fs Ny aA1 WO F4 (by rw [hby];exact hbytes) h63;rw [ha,hc] at hrun;refine ⟨v,w',xg hrun,G',?_⟩;have:=hr'.put dst hR;rw [ho2,aQs,hst] at this;exact this
  cases hy:s1.ev y with
  |obj j cZ=>
   rw [hy] at hs;simp only [AS.source] at hs;cases ho:AV.isObj s1.o j cZ with
   |none=>simp [ho] at hs
   |some oj=>
    simp only [ho] at hs;split at hs
    .rename_i hc;simp only [eC,oE] at hs;obtain ⟨rfl,rfl⟩:=hs;obtain ⟨gj,hlj,aA2,hvj⟩:=r.ja hy ho;have htr:=r.Yf (i:=i) (j:=j) (AD hc.2.2) hl hlj hlive aA2;obtain ⟨fj,Yq,aNm,WQ⟩:=r.ok j oj gj hlj aA2;rw [hc.1] at Yq;obtain ⟨fp2,aIj,aNn,news,Ny,Fs⟩:∃fp2:List Nat,(∀b∈fp2,b∈fj)/\fp2.Nodup/\∃news,Rv w (env B s1.o G w).plain oj.eQ news ob.n fp2/\∀w',w'.heap=w.heap->(Builtin.firstCells ob.n oj.eQ.length (.slice gj.a oj.eQ.length gj.cap)).run P w'= .ok news.toArray w':=by
      have Qo:oj.n=ob.n:=by rw [hc.2.1,hn]
      rcases Yq.2 with ⟨h1,h2,h3⟩|⟨b,off,C,ety,fz,rD,ha,hb,hz',k1,k2,k3,rfl,hr⟩
      .refine ⟨[],by simp,by simp,[],by rw [h1];simp [Rv],λw' _=> ?_⟩
       rw [h1];cases hga:gj.a with
       |none=>simp [Builtin.firstCells]
       |some a'=>simp [Builtin.firstCells,loadCells,loadCellsFrom]
      .obtain ⟨vs,hv',hc'⟩:=sV.1 hr;refine ⟨rD,λb hb=>AI _ hb,(lR.1 aNm).2,vs,by rw [<-Qo];exact hv',λw' wz=> ?_⟩;rw [ha,<-Qo];exact kP (jX hv') (hc'.heap wz)
     have aJt:Aw.look (s1.o.set j oj.kill) (G.set i {g with F:=λb=>g.F b\/gj.F b}) i ob {g with F:=λb=>g.F b\/gj.F b}:=by refine ⟨by rw [lB hc.2.2];exact hl.1,?_⟩;have:=(cH.1 hl.2).1;simp [this]
     refine fin htr.1 aJt rfl rfl rfl rfl (by rw [hvj];simp [Builtin.lenOf]) (by rw [hvj];exact Fs) (wI htr.2.plain (λ_ _=>rfl) Ny) (hown.keeps htr.2.plain (λ_ _=>rfl)) ?_ ?_
     .refine gR.2 ⟨hnd,aNn,λb hb b' hb' e=> ?_⟩
      subst e;exact hc.2.2 (r.apart j i _ _ _ _ b hlj hl aA2 hlive (WQ b (aIj b hb')) (hF b hb))
     .intro b hb;rcases fL.1 hb with hb|hb
      .exact .inl (hF b hb)
      .exact .inr (WQ b (aIj b hb))
    .cases hs
  |sl tg m l=>
   rw [hy] at hs;have sO:∀{news:List Value},s1.o=o2->(Builtin.lenOf (a.eval y)).run P w= .ok l2.length w->(∀w',w'.heap=w.heap->(Builtin.firstCells ob.n l2.length (a.eval y)).run P w'= .ok news.toArray w')->
     Rv w (env B s1.o G w).plain l2 news ob.n []->_:=fun {news} h1 h2 h3 h4=>fin (news:=news) (fp2:=[]) r hl rfl rfl rfl h1 h2 h3 h4 hown (by simpa using hnd) (by simpa using hF)
   cases tg with
   |own=>
    cases l with
    |nil=>
     simp only [AS.source,eC,oE] at hs;obtain ⟨rfl,rfl⟩:=hs;obtain ⟨ad,cap,hvy,_,_⟩:=r.slv hy rfl;refine sO (news:=[]) rfl (by rw [hvy];simp [Builtin.lenOf]) (λw' _=> ?_) (by simp [Rv]);rw [hvy];cases ad with
     |none=>simp [Builtin.firstCells]
     |some a'=>simp [Builtin.firstCells,loadCells,loadCellsFrom]
    |cons _ _=>cases hs
   |view=>
    simp only [AS.source] at hs;split at hs
    .rename_i hm;subst hm;simp only [eC,oE] at hs;obtain ⟨rfl,rfl⟩:=hs;obtain ⟨ad,cap,hvy,_,h⟩:=r.slv hy rfl;rcases h with ⟨rfl,_⟩|⟨b,f,rfl,_,_,hr⟩
     .refine sO (news:=[]) rfl (by rw [hvy];simp [Builtin.lenOf]) (λw' _=> ?_) (by simp [Rv])
      rw [hvy];cases ad with
      |none=>simp [Builtin.firstCells]
      |some a'=>simp [Builtin.firstCells,loadCells,loadCellsFrom]
     .obtain ⟨vs,hv',hc'⟩:=sV.1 hr;refine sO (news:=vs) rfl (by rw [hvy];simp [Builtin.lenOf]) (λw' wz=> ?_) (by rw [hn];exact hv');rw [hvy,hn];exact kP (jX hv') (hc'.heap wz)
    .cases hs
   |kG _=>cases hs
  |str l=>
   rw [hy] at hs;simp only [AS.source] at hs;split at hs
   .rename_i h1;simp only [eC,oE] at hs;obtain ⟨rfl,rfl⟩:=hs;have hvy:=r.Yn hy;refine fin (news:=l.map λu=> .int .u8 u.toNat) (fp2:=[]) r hl rfl rfl rfl rfl (by rw [hvy];simp [Builtin.lenOf,size_mk]) (λw' _=> ?_) ?_ hown (by simpa using hnd) (by simpa using hF)
    .rw [hvy];have:(⟨l.toArray⟩:ByteArray).extract 0 (l.map λu=>[AV.int .u8 u.toNat]).length=⟨l.toArray⟩:=by
      have e:(l.map λu=>[AV.int .u8 u.toNat]).length=(⟨l.toArray⟩:ByteArray).size:=by simp [size_mk]
      rw [e,ByteArray.extract_zero_size]
     simp only [Builtin.firstCells,this];simp
    .rw [hn,h1];exact aA0 _ _ l
   .cases hs
  |int _ _=>rw [hy] at hs;cases hs
  |bool _=>rw [hy] at hs;cases hs
  |fA _ _ _=>rw [hy] at hs;cases hs
  |ptr _ _ _ _=>rw [hy] at hs;cases hs
  |agg _=>rw [hy] at hs;cases hs
  |gZ _=>rw [hy] at hs;cases hs
  |fn _ _=>rw [hy] at hs;cases hs
  |undef=>rw [hy] at hs;cases hs
def AS.bound (s:AS) (d:Nat):Option Operand->Option Nat
 |none=>some d
 |some x=>match s.ev x with
  | .int _ n=>if 0<=n then some n.toNat else none
  |_=>none
theorem IX {G:List CO} {a:Act} {w:World} (r:eF B s G a w) {isS:Bool} {len cap lo hi:Nat} {lx hx:Option Operand} (hl:s.bound 0 lx=some lo) (hh:s.bound len hx=some hi) (h1:lo<=hi) (h2:hi<=len) (h3:len<=cap):
  (Instr.sliceBounds isS len cap (lx.map a.eval) (hx.map a.eval) none).run P w= .ok (lo,hi,cap) w:=by
 have bnd:∀{x:Operand} {d n:Nat} {y:Nat} {code:BoundsCode},s.bound d (some x)=some n->n<=y->(Instr.sliceBound (a.eval x) y code).run P w= .ok n w:=by
  intro x d n y code h hy;simp only [AS.bound] at h;cases hx:s.ev x with
  |int k m=>
   simp only [hx] at h;split at h
   .rename_i h0;obtain rfl:=cQ h;rw [r.IW hx];simp [Instr.sliceBound,asIntOf,h0];omega
   .cases h
  |_=>simp [hx] at h
 cases lx with
 |none=>
  simp only [AS.bound,eC] at hl;subst hl;cases hx with
  |none=>simp only [AS.bound,eC] at hh;subst hh;simp [Instr.sliceBounds]
  |some y=>have:=bnd (code:=if isS then .sliceAcap else .sliceAlen) hh (hM h2 h3);simp [Instr.sliceBounds,this]
 |some x=>
  have hb:=λ(c:BoundsCode)=>bnd (code:=c) hl h1
  cases hx with
  |none=>simp only [AS.bound,eC] at hh;subst hh;simp [Instr.sliceBounds,hb]
  |some y=>have:=bnd (code:=if isS then .sliceAcap else .sliceAlen) hh (hM h2 h3);simp [Instr.sliceBounds,this,hb]
theorem extract_mk (l:List UInt8) (a b:Nat) (h:b<=l.length):(⟨l.toArray⟩:ByteArray).extract a b=⟨((l.take b).drop a).toArray⟩:=by apply ByteArray.ext;simp [ByteArray.data_extract,drop_take]
theorem Qp (t:TypeId) (x:Operand) (lx hx:Option Operand) {l:List UInt8} {lo hi:Nat} (hs:s.ev x= .str l) (ht:isString P t=true) (hl:s.bound 0 lx=some lo) (hh:s.bound l.length hx=some hi) (h1:lo<=hi) (h2:hi<=l.length):
  Step P B ⟨dst,.slice t x lx hx none,ty,pos,after,gd⟩ s (s.put dst (.str ((l.take hi).drop lo))):=
 dW λG a w r=>by have hv:=r.Yn hs;have he:=oV ht;have hb:=IX (P:=P) r (isS:=false) hl (by rw [<-size_mk l] at hh;exact hh) h1 (by rw [size_mk];exact h2) (eE (⟨l.toArray⟩:ByteArray).size);refine ⟨.string ⟨((l.take hi).drop lo).toArray⟩,?_,by simp [R]⟩;rw [<-extract_mk l lo hi h2];simp [execOp,hv,Instr.sliceAt,Instr.slice,gC he,hb]
theorem aA3 {w:World} {E:Env} {l:List (List AV)} {b f n lo hi:Nat} (h1:lo<=hi) (h2:hi<=l.length) {fp:List Nat} (h:Rr w E l b f n fp):
  ∃f1 f2 f3,fp=f1++f2++f3/\Rr w E ((l.take hi).drop lo) b (f+lo * n) n f2:=by
 have e:l=(l.take hi).take lo++((l.take hi).drop lo++l.drop hi):=by rw [<-xF,nF,nF]
 rw [e] at h;obtain ⟨f1,g,rfl,_,h3⟩:=Df.1 h;obtain ⟨f2,f3,rfl,h4,_⟩:=Df.1 h3;have:((l.take hi).take lo).length=lo:=by simp;omega
 rw [this] at h4;exact ⟨f1,f2,f3,by simp,h4⟩
theorem Qq {α:Type} (l:List α) {lo hi:Nat} (h1:lo<=hi) (h2:hi<=l.length):((l.take hi).drop lo).length=hi - lo:=by simp;omega
theorem TY (t:TypeId) (x:Operand) (lx hx:Option Operand) {g:Tg} {n:Nat} {l:List (List AV)} {e by' lo hi:Nat} (hs:s.ev x= .sl g n l) (hf:(AV.sl g n l).fit s.o=true) (ht:gX P t=some (e,n,by'))
  (hl:s.bound 0 lx=some lo) (hh:s.bound l.length hx=some hi) (h1:lo<=hi) (h2:hi<=l.length):
  Step P B ⟨dst,.slice t x lx hx none,ty,pos,after,gd⟩ s (s.put dst (.sl g n ((l.take hi).drop lo))):=
 dW λG a w r=>by
  obtain ⟨hu,inf,hi',hsz,_⟩:=qU ht;obtain ⟨ad,cap,hv,hlen,h⟩:=r.slv hs hf;have hb:=IX (P:=P) r (isS:=true) hl hh h1 h2 hlen.2;have hsl:=Qq l h1 h2;refine ⟨.slice (if cap=lo then ad else ad.map (·.add (lo * n))) (hi - lo) (cap - lo),?_,?_⟩
  .simp [execOp,hv,Instr.sliceAt,Instr.slice,gC hu,hb,sizeOf,typeInfo,hi',hsz]
  .simp only [R];refine .inr ⟨_,_,by rw [hsl],⟨by rw [hsl];omega,by rw [hsl];omega⟩,?_⟩;rcases h with ⟨rfl,wS⟩|⟨b,f,rfl,hg,htg,hr⟩
   .by_cases hg:g= .own
    .exact .inl ⟨hg,by simp,by rw [wS hg];simp,trivial⟩
    .exact .inr (.inr ⟨hg,trivial,.inl (by simp)⟩)
   .refine .inr (.inr ⟨hg,trivial,?_⟩);by_cases hc:cap=lo
    .left;exact kO (by rw [hsl];omega)
    .right;obtain ⟨f1,f2,f3,hfe,hr'⟩:=aA3 h1 h2 hr;have:f2=[]:=by have:=An length hfe;simp at this;exact kO (by omega)
     subst this;exact ⟨b,f+lo * n,by simp [hc,addr_add],htg,hr'⟩
def AS.Qr (s:AS) (d:Option Tmp) (i:Nat) (ob:aN) (l:List (List AV)):AS:=
 AS.put ⟨s.t,s.o.set i {ob with cZ:=ob.cZ+1,eQ:=l}⟩ d (.obj i (ob.cZ+1))
theorem Qs (t:TypeId) (x:Operand) (lx hx:Option Operand) {i cZ:Nat} {ob:aN} {e by' lo hi:Nat} (hs:s.ev x= .obj i cZ) (ho:AV.isObj s.o i cZ=some ob) (vP:ob.box=false) (ht:gX P t=some (e,ob.n,by'))
  (hl:s.bound 0 lx=some lo) (hh:s.bound ob.eQ.length hx=some hi) (h1:lo<=hi) (h2:hi<=ob.eQ.length):
  Step P B ⟨dst,.slice t x lx hx none,ty,pos,after,gd⟩ s (s.Qr dst i ob ((ob.eQ.take hi).drop lo)):=
 rQ λG a w r=>by
  obtain ⟨hu,inf,hi',hsz,_⟩:=qU ht;obtain ⟨g,hlk,hlive,hv⟩:=r.ja hs ho;obtain ⟨fp,⟨hlen,hown⟩,hnd,hF⟩:=r.ok i ob g hlk hlive;have wS:ob.eQ.length<=g.cap:=by
   rcases hown with h|⟨_,_,_,_,_,_,_,_,_,_,h,_⟩
   .simp [h.1]
   .exact h
  have hb:=IX (P:=P) r (isS:=true) hl hh h1 h2 wS;have hsl:=Qq ob.eQ h1 h2;have hrun:(execOp a.eval ⟨dst,.slice t x lx hx none,ty,pos,after,gd⟩).run P w= .ok (.value (.slice (if g.cap=lo then g.a else g.a.map (·.add (lo * ob.n))) (hi - lo) (g.cap - lo))) w:=by simp [execOp,hv,Instr.sliceAt,Instr.slice,gC hu,hb,sizeOf,typeInfo,hi',hsz]
  have aF8:∀a',(if g.cap=lo then g.a else g.a.map (·.add (lo * ob.n)))=some a'->∃a0,g.a=some a0/\a'.block=a0.block:=by
   intro a' h;split at h
   .exact ⟨a',h,rfl⟩
   .cases hga:g.a with
    |none=>simp [hga] at h
    |some a0=>simp only [hga,mC,eC] at h;refine ⟨a0,rfl,?_⟩;rw [<-h];unfold Addr.add;split<;>rfl
  have hm:=r.modify hlk hlive {ob with cZ:=ob.cZ+1,eQ:=(ob.eQ.take hi).drop lo} ⟨(if g.cap=lo then g.a else g.a.map (·.add (lo * ob.n))),g.cap - lo,g.F⟩ w (by simp) rfl (by simp) (λb hb=> .inl hb) (λb hb hne=>⟨hb,λa' wN=>by
    obtain ⟨a0,h0,hbe⟩:=aF8 a' wN;rw [hbe];exact hne a0 h0⟩) (λ_ _ _=>rfl) (eE _) (λk _=>by
   generalize env B (s.o.set i {ob with cZ:=ob.cZ+1,eQ:=(ob.eQ.take hi).drop lo}) (G.set i ⟨(if g.cap=lo then g.a else g.a.map (·.add (lo * ob.n))),g.cap - lo,g.F⟩) w=E' at k⊢;simp only [JS,vP,Env.of,eS,hH];rw [vP] at hown;simp only [Env.of,eS,hH] at hown;rcases hown with ⟨h,hc0,_⟩|⟨b,f,C,ety,fz,rD,ha,hbk,hz,k1,k2,k3,rfl,hr⟩
   .exact ⟨[],⟨by rw [hsl];omega,.inl ⟨by rw [h];simp,by rw [hc0];simp,rfl⟩⟩,by simp,by simp⟩
   .obtain ⟨f1,f2,f3,rfl,hr'⟩:=aA3 h1 h2 hr;by_cases hc:g.cap=lo
    .exact ⟨[],⟨by rw [hsl];omega,.inl ⟨kO (by rw [hsl];omega),by omega,rfl⟩⟩,by simp,by simp⟩
    .have hsub:f2.Sublist (f1++f2++f3):=(sublist_append_right f1 f2).trans (sublist_append_left _ _);have hmul:(g.cap - lo) * ob.n+lo * ob.n=g.cap * ob.n:=by rw [<-pS];congr 1;omega
     refine ⟨b::f2,⟨by rw [hsl];omega,.inr ⟨b,f+lo * ob.n,C,ety,fz,f2,by simp [hc,ha,addr_add],hbk,hz,by omega,by rw [hsl];omega,by omega,rfl,oI k.plain _ _ _ _ _ rfl (λ_ _=>rfl) hr'⟩⟩,?_,?_⟩
     .exact lR.2 ⟨λh=>(lR.1 hnd).1 (hsub.subset h),hsub.nodup (lR.1 hnd).2⟩
     .intro x hx;rcases lE.1 hx with rfl|hx
      .exact hF x (by simp)
      .exact hF x (AI _ (hsub.subset hx)))
  refine ⟨_,w,hrun,_,hm.1.put dst ?_⟩;simp only [R];have hiG:i < G.length:=(cH.1 hlk.2).1;have Fg:i < s.o.length:=(cH.1 hlk.1).1;exact ⟨trivial,_,_,⟨by simp [Fg];rfl,by simp [hiG];rfl⟩,eE _,λ_ _=>by simp [hsl],λh=>by omega⟩
def toV:AV->Value
 | .int k n=> .int k n
 | .bool b=> .bool b
 | .str s=> .string ⟨s.toArray⟩
 |_=> .tuple #[]
def AV.scalar:AV->Bool
 | .int _ _=>true
 | .bool _=>true
 | .str _=>true
 |_=>false
theorem aA4 {w:World} {E:Env} {x:AV} {v:Value} {fp:List Nat} (hs:x.scalar=true) (h:R w E x v fp):v=toV x:=by
 cases x<;>simp only [AV.scalar] at hs<;>first|cases hs;done|skip
 all_goals first|(simp only [R] at h;exact h.1)|cases hs
theorem Mg {w:World} {E:Env}:∀{c:List AV} {cs:List Value} {fp:List Nat},c.all AV.scalar=true->Rc w E c cs fp->cs=c.map toV
 |[],[],_,_,_=>rfl
 |[],_::_,_,_,h=>by simp [Rc] at h
 |_::_,[],_,_,h=>by simp [Rc] at h
 |x::xs,c::cs,fp,hs,h=>by simp only [Rc] at h;simp only [CN,eJ] at hs;obtain ⟨f1,f2,h1,h2,_⟩:=h;simp [aA4 hs.1 h1,Mg hs.2 h2]
def EqA (P:Program) (t:TypeId) (c1 c2:List AV) (b:Bool):Prop:=
 ∀(op:BinOp) (x y:Operand) (w:World),(op= .eql\/op= .neq)->
  (do eqGuard op t x y (.agg (c1.map toV).toArray) (.agg (c2.map toV).toArray);binOp op t (.agg (c1.map toV).toArray) (.agg (c2.map toV).toArray):Sem Value).run P w=
   .ok (.bool (if op= .eql then b else !b)) w
def JY (P:Program) (t:TypeId):Bool:=match P.underlying t with|some .bool=>true|_=>false
def intType (P:Program) (t:TypeId):Option IntKind:=match P.underlying t with|some (.int k)=>some k|_=>none
theorem eF.aNp {G:List CO} {a:Act} {w:World} (r:eF B s G a w) {x:Operand} {c:List AV} (hx:s.ev x= .agg c) (hs:c.all AV.scalar=true):a.eval x= .agg (c.map toV).toArray:=by have h:=r.ev x;rw [hx] at h;simp only [R] at h;obtain ⟨cs,hv,_,hr⟩:=h;rw [hv,Mg hs hr]
theorem Yr (op:BinOp) (t t2:TypeId) (x y:Operand) {c1 c2:List AV} {b:Bool} (hop:op= .eql\/op= .neq) (hx:s.ev x= .agg c1) (hy:s.ev y= .agg c2) (h1:c1.all AV.scalar=true) (h2:c2.all AV.scalar=true) (he:EqA P t c1 c2 b):
  Step P B ⟨dst,.binOp op t x y t2,ty,pos,after,gd⟩ s (s.put dst (.bool (if op= .eql then b else !b))):=
 dW λG a w r=>by
  have e:=he op x y w hop;refine ⟨.bool (if op= .eql then b else !b),?_,by simp [R]⟩;simp only [execOp,r.aNp hx h1,r.aNp hy h2];rw [show (do let v<-(do eqGuard op t x y (.agg (c1.map toV).toArray) (.agg (c2.map toV).toArray);binOp op t (.agg (c1.map toV).toArray) (.agg (c2.map toV).toArray));pure (Next.value v):Sem Next).run P w=
   ((do eqGuard op t x y (.agg (c1.map toV).toArray) (.agg (c2.map toV).toArray);binOp op t (.agg (c1.map toV).toArray) (.agg (c2.map toV).toArray):Sem Value).run P w).andThen λv w'=> .ok (Next.value v) w' from by simp only [mT,sA]]
  rw [e];rfl
theorem run_equalIn_bool (w:World) (d:Nat) {t:TypeId} (hu:P.underlying t=some .bool) (b1 b2:Bool):(Op.equalIn (d+1) t (.bool b1) (.bool b2)).run P w= .ok (b1 == b2) w:=by simp only [Op.equalIn,mT,gC hu,lO,sA]
theorem WR (op:BinOp) (t t2:TypeId) (x y:Operand) {b1 b2:Bool} (hop:op= .eql\/op= .neq) (hx:s.ev x= .bool b1) (hy:s.ev y= .bool b2) (ht:JY P t=true):
  Step P B ⟨dst,.binOp op t x y t2,ty,pos,after,gd⟩ s (s.put dst (.bool (if op= .eql then b1 == b2 else b1 != b2))):=
 dW λG a w r=>by
  have hu:P.underlying t=some .bool:=by unfold JY at ht;split at ht;assumption;cases ht
  have hE:(Op.equal t (.bool b1) (.bool b2)).run P w= .ok (b1 == b2) w:=by exact run_equalIn_bool w 9999 hu b1 b2
  refine ⟨.bool (if op= .eql then b1 == b2 else b1 != b2),?_,by simp [R]⟩;simp only [execOp,r.Ym hx,r.Ym hy,eqGuard_at_bool,pure_bind];rcases hop with rfl|rfl
  .simp only [binOp,mT,hE,lO,sA,gO]
  .simp only [binOp,mT,hE,lO,sA];rfl
theorem toList_mk (l:List UInt8):(⟨l.toArray⟩:ByteArray).toList=l:=by rw [ByteArray.toList_eq]
theorem F5 (l m:List UInt8):(⟨l.toArray⟩:ByteArray)++⟨m.toArray⟩=⟨(l++m).toArray⟩:=by apply ByteArray.ext;simp [ByteArray.data_append]
def WS (op:BinOp) (a b:List UInt8):Option AV:=
 match op with
 | .add=>some (.str (a++b))
 | .eql=>some (.bool (a == b))
 | .neq=>some (.bool (!(a == b)))
 | .lss=>some (.bool (Op.bytesLess a b))
 | .leq=>some (.bool (Op.bytesLess a b || a == b))
 | .gtr=>some (.bool (!(Op.bytesLess a b || a == b)))
 | .geq=>some (.bool (!Op.bytesLess a b))
 |_=>none
theorem aA5 (op:BinOp) (t t2:TypeId) (x y:Operand) {l m:List UInt8} {z:AV} (hx:s.ev x= .str l) (hy:s.ev y= .str m) (hz:WS op l m=some z) (hle:op= .add->l.length+m.length<=9223372036854775807):
  Step P B ⟨dst,.binOp op t x y t2,ty,pos,after,gd⟩ s (s.put dst z):=
 dW λG a w r=>by
  have hv:=r.Yn hx;have X8:=r.Yn hy;have xg:∀{v:Value},(Op.stringOp op ⟨l.toArray⟩ ⟨m.toArray⟩).run P w= .ok v w->(execOp a.eval ⟨dst,.binOp op t x y t2,ty,pos,after,gd⟩).run P w= .ok (.value v) w:=by
   intro v h;have hb:binOp op t (.string ⟨l.toArray⟩) (.string ⟨m.toArray⟩)=Op.stringOp op ⟨l.toArray⟩ ⟨m.toArray⟩:=by cases op<;>rfl
   simp [execOp,hv,X8,eqGuard_at_string,hb,h]
  cases op<;>simp only [WS] at hz<;>first|cases hz;done|skip
  case add=>
   have hle:=hle rfl;obtain rfl:=cQ hz;refine ⟨.string ⟨(l++m).toArray⟩,xg ?_,by simp [R]⟩;have h0:¬(9223372036854775807 < ((l.length:Int)+(m.length:Int))):=by omega
   simp only [Op.stringOp,size_mk,F5];simp [h0]
  all_goals first
   |(obtain rfl:=cQ hz;exact ⟨_,xg (by simp only [Op.stringOp,toList_mk,sA];rfl),by simp [R]⟩)
   |cases hz
theorem TZ (src d:TypeId) (x:Operand) {k k':IntKind} {n:Int} (hx:s.ev x= .int k n) (hd:intType P d=some k') (hs:(P.underlying src).isSome=true):
  Step P B ⟨dst,.convert src d x,ty,pos,after,gd⟩ s (s.put dst (.int k' (k'.wrap n))):=
 dW λG a w r=>by
  obtain ⟨ds,hds⟩:=AT.1 hs;have hu:P.underlying d=some (.int k'):=by
   unfold intType at hd;split at hd
   .obtain rfl:=cQ hd;assumption
   .cases hd
  exact ⟨.int k' (k'.wrap n),by simp [execOp,r.IW hx,convert,gC hds,gC hu,Conv.intToInt],by simp [R]⟩
theorem Ua (src d:TypeId) (x:Operand) {l:List UInt8} (hx:s.ev x= .str l) (hd:isString P d=true) (hs:isString P src=true):
  Step P B ⟨dst,.convert src d x,ty,pos,after,gd⟩ s (s.put dst (.str l)):=
 dW λG a w r=>by exact ⟨.string ⟨l.toArray⟩,by simp [execOp,r.Yn hx,convert,gC (oV hs),gC (oV hd)],by simp [R]⟩
def bytesOf:List (List AV)->Option (List UInt8)
 |[]=>some []
 |[.int .u8 n]::r=>(bytesOf r).map (UInt8.ofNat n.toNat:: ·)
 |_=>none
theorem Yt {w:World} {E:Env}:∀{l:List (List AV)} {vs:List Value} {fp:List Nat} {bs:List UInt8},bytesOf l=some bs->Rv w E l vs 1 fp->∃ns:List Int,vs=ns.map (.int .u8)/\bs=ns.map λn=>UInt8.ofNat n.toNat
 |[],vs,_,bs,hb,h=>by simp only [bytesOf,eC] at hb;simp only [Rv] at h;exact ⟨[],by simp [h.1],by simp [<-hb]⟩
 |e::es,vs,fp,bs,hb,h=>by
  match e,hb with
  |[.int .u8 n],hb=>
   simp only [bytesOf] at hb;cases hr:bytesOf es with
   |none=>simp [hr] at hb
   |some b2=>simp only [hr,mC,eC] at hb;simp only [Rv] at h;obtain ⟨cs,rest,f1,f2,rfl,hn,_,wH,hrest,_⟩:=h;obtain ⟨ns,rfl,rfl⟩:=Yt hr hrest;have:=Mg (c:=[.int .u8 n]) (by simp [AV.scalar]) wH;exact ⟨n::ns,by simp [this,toV],by simp [<-hb]⟩
theorem NC (P:Program) (w:World) {body:Value->ByteArray->Sem (ForInStep ByteArray)} (hb:∀n r,body (.int .u8 n) r=pure (ForInStep.yield (r.push (UInt8.ofNat n.toNat)))):∀(ns:List Int) (s0:ByteArray),
  (forIn (m:=Sem) (ns.map (Value.int .u8)) s0 body).run P w= .ok ⟨s0.data++(ns.map λn=>UInt8.ofNat n.toNat).toArray⟩ w
 |[],s0=>by simp
 |n::ns,s0=>by simp only [mA,forIn_cons,hb,pure_bind];rw [NC P w hb ns];congr 2;apply DE;simp [ByteArray.push]
theorem GD {G:List CO} {a:Act} {w:World} (r:eF B s G a w) {x:Operand} {ad:Option Addr} {b f cap:Nat} {l:List (List AV)} {E:Env} {bs:List UInt8} {fp:List Nat} (hv:a.eval x= .slice ad l.length cap)
  (hb:bytesOf l=some bs) (h:l=[]\/(ad=some ⟨b,f,none⟩/\Rr w E l b f 1 fp)):(Conv.bytesToString (a.eval x)).run P w= .ok (.string ⟨bs.toArray⟩) w:=by
 rw [hv];obtain ⟨vs,hvs,ns,hns,hbs,hlen⟩:∃vs:List Value,(∀a',ad=some a'->(loadCells a' l.length).run P w= .ok vs.toArray w)/\∃ns:List Int,vs=ns.map (.int .u8)/\bs=(ns.map λn=>UInt8.ofNat n.toNat)/\vs.length=l.length:=by
  rcases h with rfl|⟨rfl,hr⟩
  .simp only [bytesOf,eC] at hb;refine ⟨[],λa' _=>by simp [loadCells,loadCellsFrom],[],rfl,by simp [<-hb],rfl⟩
  .obtain ⟨vs,hv',hc'⟩:=sV.1 hr;have hl:=jX hv';obtain ⟨ns,h1,h2⟩:=Yt hb hv';refine ⟨vs,λa' wN=> ?_,ns,h1,h2,by simpa using hl⟩;obtain rfl:=cQ wN;have:=hc'.run (P:=P)
   rwa [hl,Nat.mul_one] at this
 cases ad with
 |none=>
  have hl0:l=[]:=by
   rcases h with h|h
   .exact h
   .cases h.1
  subst hl0;have:vs=[]:=kO (by simpa using hlen);subst this;have:ns=[]:=by simpa using hns.symm
  subst this;subst hbs;simp [Conv.bytesToString];rfl
 |some a'=>subst hns;subst hbs;simp only [Conv.bytesToString,mT,hvs a' rfl,lO];simp only [forIn_toArray];rw [NC P w (λ_ _=>rfl) ns ByteArray.empty];simp
theorem Fv (src d:TypeId) (x:Operand) {g:Tg} {l:List (List AV)} {e:TypeId} {by':Nat} {bs:List UInt8} (hx:s.ev x= .sl g 1 l) (hf:(AV.sl g 1 l).fit s.o=true) (hd:isString P d=true) (hs:gX P src=some (e,1,by')) (he:intType P e=some .u8)
  (hb:bytesOf l=some bs):Step P B ⟨dst,.convert src d x,ty,pos,after,gd⟩ s (s.put dst (.str bs)):=
 dW λG a w r=>by
  obtain ⟨hu,_⟩:=qU hs;have hue:P.underlying e=some (.int .u8):=by
   unfold intType at he;split at he
   .obtain rfl:=cQ he;assumption
   .cases he
  obtain ⟨ad,cap,hv,_,h⟩:=r.slv hx hf;have hrun:(Conv.bytesToString (a.eval x)).run P w= .ok (.string ⟨bs.toArray⟩) w:=by
   rcases h with ⟨rfl,_⟩|⟨b,f,rfl,_,_,hr⟩
   .exact GD (b:=0) (f:=0) (E:=nH) (fp:=[]) r hv hb (.inl rfl)
   .exact GD r hv hb (.inr ⟨rfl,hr⟩)
  refine ⟨.string ⟨bs.toArray⟩,?_,by simp [R]⟩;rw [hv] at hrun;simp [execOp,hv,convert,gC hu,gC (oV hd),gC hue,hrun]
theorem Hl (src d:TypeId) (x:Operand) {i cZ:Nat} {ob:aN} {e:TypeId} {by':Nat} {bs:List UInt8} (hx:s.ev x= .obj i cZ) (ho:AV.isObj s.o i cZ=some ob) (hd:isString P d=true) (hs:gX P src=some (e,1,by')) (hn:ob.n=1) (he:intType P e=some .u8)
  (hb:bytesOf ob.eQ=some bs):Step P B ⟨dst,.convert src d x,ty,pos,after,gd⟩ s (s.put dst (.str bs)):=
 dW λG a w r=>by
  obtain ⟨hu,_⟩:=qU hs;have hue:P.underlying e=some (.int .u8):=by
   unfold intType at he;split at he
   .obtain rfl:=cQ he;assumption
   .cases he
  obtain ⟨g,hl,hlive,hv⟩:=r.ja hx ho;obtain ⟨fp,⟨_,hown⟩,_,_⟩:=r.ok i ob g hl hlive;have hrun:(Conv.bytesToString (a.eval x)).run P w= .ok (.string ⟨bs.toArray⟩) w:=by
   rcases hown with ⟨h,_⟩|⟨b,f,C,ety,fz,rD,ha,_,_,_,_,_,_,hr⟩
   .exact GD (b:=0) (f:=0) (E:=nH) (fp:=[]) r hv hb (.inl h)
   .rw [hn] at hr;exact GD r hv hb (.inr ⟨ha,hr⟩)
  refine ⟨.string ⟨bs.toArray⟩,?_,by simp [R]⟩;rw [hv] at hrun;simp [execOp,hv,convert,gC hu,gC (oV hd),gC hue,hrun]
def xh (j:Nat) (o:List aN):List aN:=match o[j]? with
 |some ob=>o.set j ob.kill
 |none=>o
def Fw:List Nat->List aN->List aN
 |[],o=>o
 |j::u,o=>Fw u (xh j o)
theorem eF.Mh {a:Act} {w:World} {k:Nat} {ok:aN} (hlive:ok.live=true):∀(u:List Nat) {s:AS} {G:List CO} {g:CO},eF B s G a w->Aw.look s.o G k ok g->u.Nodup->k∉u->(∀j∈u,∃ob,s.o[j]? =some ob/\ob.live=true)->
  ∃G' g',eF B ⟨s.t,Fw u s.o⟩ G' a w/\fK w (env B s.o G w) w (env B (Fw u s.o) G' w)/\Aw.look (Fw u s.o) G' k ok g'/\g'.a=g.a/\g'.cap=g.cap/\(∀b,g'.F b↔g.F b\/Of s.o G u b)
 |[],s,G,g,r,hl,_,_,_=>⟨G,g,r,fK.refl _ _,hl,rfl,rfl,λb=>⟨.inl,λh=>h.elim id (λ⟨i,_,_,hi,_⟩=>by simp at hi)⟩⟩
 |j::u,s,G,g,r,hl,hn,hk,hu=>by
  simp only [lE,not_or] at hk;obtain ⟨oj,hoj,hjl⟩:=hu j (by simp);obtain ⟨gj,hlj⟩:=r.look hoj;have htr:=r.Yf hk.1 hl hlj hlive hjl;have hk1:xh j s.o=s.o.set j oj.kill:=by simp [xh,hoj]
  have hlk:Aw.look (s.o.set j oj.kill) (G.set k {g with F:=λb=>g.F b\/gj.F b}) k ok {g with F:=λb=>g.F b\/gj.F b}:=by refine ⟨by rw [lB (AD hk.1)];exact hl.1,?_⟩;have:=(cH.1 hl.2).1;simp [this]
  have hnu:=lR.1 hn;obtain ⟨G',g',r',k',BZ,ha,hc,hF⟩:=eF.Mh hlive u htr.1 hlk hnu.2 hk.2 (λi hi=>by
   obtain ⟨ob,h1,h2⟩:=hu i (by simp [hi]);have hne:i≠j:=λe=>hnu.1 (e▸hi)
   exact ⟨ob,by simp only;rw [lB (AD hne)];exact h1,h2⟩)
  refine ⟨G',g',by rw [Fw,hk1];exact r',by rw [Fw,hk1];exact htr.2.trans k',by rw [Fw,hk1];exact BZ,ha,hc,λb=> ?_⟩;rw [hF b];have ND:Of (s.o.set j oj.kill) (G.set k {g with F:=λb=>g.F b\/gj.F b}) u b↔Of s.o G u b:=by
   constructor
   .rintro ⟨i,ob,gi,hi,hli,hil,hf⟩;have hne:i≠j:=λe=>hnu.1 (e▸hi)
    have hnk:i≠k:=λe=>hk.2 (e▸hi)
    exact ⟨i,ob,gi,hi,⟨by have:=hli.1;rwa [lB (AD hne)] at this,by have:=hli.2;rwa [lB (AD hnk)] at this⟩,hil,hf⟩
   .rintro ⟨i,ob,gi,hi,hli,hil,hf⟩;have hne:i≠j:=λe=>hnu.1 (e▸hi)
    have hnk:i≠k:=λe=>hk.2 (e▸hi)
    exact ⟨i,ob,gi,hi,⟨by rw [lB (AD hne)];exact hli.1,by rw [lB (AD hnk)];exact hli.2⟩,hil,hf⟩
  rw [ND];constructor
  .rintro ((h|h)|⟨i,ob,gi,hi,h⟩)
   .exact .inl h
   .exact .inr ⟨j,oj,gj,by simp,hlj,hjl,h⟩
   .exact .inr ⟨i,ob,gi,by simp [hi],h⟩
  .rintro (h|⟨i,ob,gi,hi,hli,h⟩)
   .exact .inl (.inl h)
   .rcases lE.1 hi with rfl|hi
    .obtain ⟨rfl,rfl⟩:=nK hlj hli;exact .inl (.inr h.2)
    .exact .inr ⟨i,ob,gi,hi,hli,h⟩
mutual
theorem jb {o:List aN}:∀{av:AV},jR o av=true->∀j∈lT av,∃ob,o[j]? =some ob/\ob.live=true
 | .obj i cZ,h,j,hj=>by
  simp only [lT,pZ] at hj;subst hj;simp only [jR] at h;cases ho:AV.isObj o j cZ with
  |none=>simp [ho] at h
  |some ob=>have:=lC ho;exact ⟨ob,this.1,this.2.1⟩
 | .agg c,h,j,hj=>zP (by simpa [jR] using h) j (by simpa [lT] using hj)
 | .gZ c,h,j,hj=>zP (by simpa [jR] using h) j (by simpa [lT] using hj)
 | .int _ _,_,j,hj=>by simp [lT] at hj
 | .bool _,_,j,hj=>by simp [lT] at hj
 | .str _,_,j,hj=>by simp [lT] at hj
 | .sl _ _ _,_,j,hj=>by simp [lT] at hj
 | .fA _ _ _,_,j,hj=>by simp [lT] at hj
 | .ptr _ _ _ _,_,j,hj=>by simp [lT] at hj
 | .fn _ _,_,j,hj=>by simp [lT] at hj
 | .undef,_,j,hj=>by simp [lT] at hj
theorem zP {o:List aN}:∀{c:List AV},mV o c=true->∀j∈kJ c,∃ob,o[j]? =some ob/\ob.live=true
 |[],_,j,hj=>by simp [kJ] at hj
 |x::xs,h,j,hj=>by
  simp only [mV,eJ] at h;simp only [kJ,fL] at hj;rcases hj with hj|hj
  .exact jb h.1 j hj
  .exact zP h.2 j hj
end
def AV.xO:AV->Bool
 | .agg _=>true
 |x=>x.NA
theorem aJv {w:World} {E:Env} {x:AV} {v:Value} {fp:List Nat} (hg:x.xO=true) (h:R w E x v fp):Rc w E x.cells v.cells.toList fp/\(∀c∈v.cells.toList,c.oneCell'=true):=by
 have one:∀{x:AV} {v:Value} {fp:List Nat},R w E x v fp->x.cells=[x]->v.cells=#[v]->v.oneCell'=true->Rc w E x.cells v.cells.toList fp/\(∀c∈v.cells.toList,c.oneCell'=true):=by intro x v fp h h1 h2 h3;rw [h1,h2];exact ⟨by simp only [Rc];exact ⟨fp,[],h,rfl,by simp⟩,by simpa using h3⟩
 cases x with
 |int k n=>have h':=h;simp only [R] at h';obtain ⟨rfl,_⟩:=h';exact one h rfl rfl rfl
 |bool b=>have h':=h;simp only [R] at h';obtain ⟨rfl,_⟩:=h';exact one h rfl rfl rfl
 |str b=>have h':=h;simp only [R] at h';obtain ⟨rfl,_⟩:=h';exact one h rfl rfl rfl
 |sl g n l=>
  have h':=h;simp only [R] at h';rcases h' with ⟨hd,_⟩|⟨a,cap,rfl,_⟩
  .cases g with
   |own=>exact hd.elim
   |view=>exact hd.elim
   |kG i=>cases hg
  .exact one h rfl rfl rfl
 |fA g c off=>
  have h':=h;simp only [R] at h';rcases h' with ⟨hd,_⟩|⟨_,b,o,cs,rfl,_⟩
  .cases g with
   |own=>exact hd.elim
   |view=>exact hd.elim
   |kG i=>cases hg
  .exact one h rfl rfl rfl
 |agg c=>simp only [R] at h;obtain ⟨cs,rfl,ho,hr⟩:=h;exact ⟨by simpa [AV.cells,Value.cells] using hr,by simpa [Value.cells] using ho⟩
 |fn f c=>have h':=h;simp only [R] at h';obtain ⟨_,cs,rfl,_⟩:=h';exact one h rfl rfl rfl
 |obj _ _=>cases hg
 |ptr _ _ _ _=>cases hg
 |gZ c=>cases hg
 |undef=>cases hg
theorem PK {w:World} {E:Env} {n:Nat}:∀{xs:List AV} {vs:List Value} {fp:List Nat},Rc w E xs vs fp->(∀x∈xs,x.xO=true/\x.cells.length=n)->
  Rv w E (xs.map AV.cells) (vs.flatMap λv=>v.cells.toList) n fp/\(∀v∈vs,v.cells.size=n)
 |[],[],fp,h,_=>by simp only [Rc] at h;simp [Rv,h]
 |[],_::_,_,h,_=>by simp [Rc] at h
 |_::_,[],_,h,_=>by simp [Rc] at h
 |x::xs,v::vs,fp,h,hg=>by
  simp only [Rc] at h;obtain ⟨f1,f2,h1,h2,rfl⟩:=h;have hx:=hg x (by simp);have hc:=aJv hx.1 h1;have hlen:=gN hc.1;have ih:=PK h2 (λy hy=>hg y (by simp [hy]));constructor
  .simp only [mA,flatMap_cons,Rv];exact ⟨v.cells.toList,_,f1,f2,rfl,by rw [hlen,hx.2],hc.2,hc.1,ih.1,rfl⟩
  .intro u hu;rcases lE.1 hu with rfl|hu
   .simpa [hx.2] using hlen
   .exact ih.2 u hu
theorem Mi (off:Nat):∀(l:List Value) (k:Nat) (pre:List Value) (rest:List Value),pre.length=off+k->l.length<=rest.length->
  ((l.zipIdx k).foldl (λ(cs:Array Value) (p:Value×Nat)=>cs.setIfInBounds (off+p.2) p.1) (pre++rest).toArray)=(pre++l++rest.drop l.length).toArray
 |[],k,pre,rest,_,_=>by simp
 |x::xs,k,pre,rest,hp,hl=>by
  cases rest with
  |nil=>simp at hl
  |cons y ys=>
   simp only [zipIdx_cons,foldl_cons];have:(pre++y::ys).toArray.setIfInBounds (off+k) x=((pre++[x])++ys).toArray:=by rw [<-hp];simp
   rw [this,Mi off xs (k+1) (pre++[x]) ys (by simp [hp,oB]) (by simpa using hl)];simp
theorem Va (size:Nat):∀(vs:List Value) (k:Nat) (pre rest:List Value),(∀v∈vs,v.cells.size=size)->pre.length=k * size->rest.length=vs.length * size->
  Instr.fill (λi=>some (i * size,size)) (pre++rest).toArray ((vs.zipIdx k).map λp=>(p.2,p.1))=some (pre++vs.flatMap λv=>v.cells.toList).toArray
 |[],k,pre,rest,_,_,hr=>by have:rest=[]:=kO (by simpa using hr);subst this;simp [Instr.fill]
 |v::vs,k,pre,rest,hv,hp,hr=>by
  have h1:=hv v (by simp);have hr':rest.length=vs.length * size+size:=by rw [hr];simp [pS]
  simp only [zipIdx_cons,mA,Instr.fill];have hc:¬((v.cells.size≠size) || decide (k * size+v.cells.size > (pre++rest).toArray.size))=true:=by simp [h1];omega
  rw [cX (by simpa using hc)];have hz:v.cells.zipIdx.foldl (λ(cs:Array Value) (p:Value×Nat)=>cs.setIfInBounds (k * size+p.2) p.1) (pre++rest).toArray=(pre++v.cells.toList++rest.drop v.cells.toList.length).toArray:=by have:=Mi (k * size) v.cells.toList 0 pre rest (by simpa using hp) (by simp [h1];omega);rw [<-this,<-Array.foldl_toList,Array.toList_zipIdx]
  rw [hz,Va size vs (k+1) (pre++v.cells.toList) _ (λu hu=>hv u (by simp [hu])) (by simp [hp,h1,pS]) (by simp [h1];omega)];simp
theorem eF.aGa {G:List CO} {a:Act} {w:World} (r:eF B s G a w) {i idx off:Nat} {ob:aN} {g:CO} {e c:List AV} {vs:List Value} {fpo fp2:List Nat} (hl:Aw.look s.o G i ob g) (hlive:ob.live=true) (vP:ob.box=false) (he:ob.eQ[idx]? =some e)
  (hfit:off+c.length<=e.length) (hone:∀x∈vs,x.oneCell'=true) (hr:Rc w (env B s.o G w).plain c vs fp2)
  (hown:wF w (env B s.o G w).plain ob.n ob.eQ g.a g.cap fpo) (aQv:(fpo++fp2).Nodup) (hF0:∀b∈fpo++fp2,g.F b):
  ∃b f,g.a=some ⟨b,f,none⟩/\(storeCells ⟨b,f+(idx * ob.n+off),none⟩ vs).run P w= .ok () (w.setCells b (f+(idx * ob.n+off)) vs)/\
   eF B (s.stored i idx off ob e c) (G.set i g) a (w.setCells b (f+(idx * ob.n+off)) vs):=by
 have hvl:=gN hr;rcases hown with ⟨hlen,⟨h,_⟩|⟨b,f,C,ty,fz,rD,ha,hb,hz,h1,h2,h3,rfl,WJ⟩⟩
 .rw [h] at he;simp at he
 obtain ⟨f1,f2,f3,cs,hfe,hn,hc,Yl,wH,hr1,hr3⟩:=CS WJ he;have hcl:=gN wH;have aJq:idx < ob.eQ.length:=(cH.1 he).1;have hmul:(idx+1) * ob.n<=g.cap * ob.n:=hY _ (by omega);have xc:(idx+1) * ob.n=idx * ob.n+ob.n:=by rw [pS];omega
 have aAs:f+(idx * ob.n+off)+vs.length<=C.size:=by omega
 refine ⟨b,f,ha,tX hb hz aAs hone,?_⟩;have UZ:g.F b:=hF0 b (by simp);have DX:∀b',b'≠b->(w.setCells b (f+(idx * ob.n+off)) vs).heap[b']? =w.heap[b']?:=λb' hne=>lU b b' hne _ _ _
 obtain ⟨C',hC',hCs⟩:=jQ b ty fz vs (f+(idx * ob.n+off)) w C hb;have hm:=r.modify hl hlive {ob with eQ:=ob.eQ.set idx (e.take off++c++e.drop (off+c.length))} g (w.setCells b (f+(idx * ob.n+off)) vs) (eE _) rfl (λ_=>⟨rfl,rfl,by simp⟩) (λb hb=> .inl hb) (λb hb hne=>⟨hb,hne⟩)
  (λb' hlt hne=>DX b' (λe=>hne ⟨e▸UZ,⟨b,f,none⟩,ha,e⟩)) (by rw [iA];exact eE _) (λk _=>by
  generalize env B (s.o.set i {ob with eQ:=ob.eQ.set idx (e.take off++c++e.drop (off+c.length))}) (G.set i g) (w.setCells b (f+(idx * ob.n+off)) vs)=E' at k⊢;have kb:=k.plain;simp only [JS,vP,Env.of,eS,hH];obtain ⟨g1,g2,rfl,hc1,XZ⟩:=tV off wH;obtain ⟨g3,g4,rfl,hc3,hc4⟩:=tV c.length XZ;subst hfe;have aNv:=aQv;simp only [eA,lR] at aNv;obtain ⟨hbn,hnd⟩:=aNv;have hp:(f1++(g1++fp2++g4)++f3).Perm ((f1++(g1++g4)++f3)++fp2):=by
   have e1:(g1++fp2++g4++f3).Perm (g1++g4++f3++fp2):=by simp only [xF];refine Perm.append_left g1 ?_;rw [<-xF g4];exact perm_append_comm
   simpa only [xF] using Perm.append_left f1 e1
  have hsub:(f1++(g1++g4)++f3++fp2).Sublist (f1++(g1++(g3++g4))++f3++fp2):=(((rS f1).append ((rS g1).append (sublist_append_right g3 g4))).append (rS f3)).append (rS fp2);have hin:∀x,x∈f1++(g1++fp2++g4)++f3->x∈f1++(g1++(g3++g4))++f3++fp2:=λx hx=>hsub.subset (hp.subset hx)
  have hold:∀x∈f1++(g1++fp2++g4)++f3,(w.setCells b (f+(idx * ob.n+off)) vs).heap[x]? =w.heap[x]?:=λx hx=>DX x (λe=>hbn (e▸hin x hx))
  have IK:∀j,j < f+(idx * ob.n+off)\/f+(idx * ob.n+off)+vs.length<=j->(w.setCells b (f+(idx * ob.n+off)) vs).cell? ⟨b,j,none⟩=w.cell? ⟨b,j,none⟩:=λj hj=>AN b vs _ w _ (λ_ _=>hj)
  have hti:(ob.eQ.take idx).length=idx:=by simp;omega
  refine ⟨b::(f1++(g1++fp2++g4)++f3),⟨by simpa using hlen,.inr ⟨b,f,C',ty,fz,_,ha,hC',by rw [hCs];exact hz,by rw [hCs];exact h1,by simpa using h2,h3,rfl,?_⟩⟩,?_,?_⟩
  .show Rr _ _ (ob.eQ.set idx _) b f ob.n _;refine wy (cs:=cs.take off++vs++cs.drop (off+vs.length)) aJq ?_ ?_ ?_ ?_ ?_ ?_
   .simp only [eR,oR,zE];omega
   .have hc1:bN w b (f+idx * ob.n) cs:=hc;have htl:(cs.take off).length=off:=by simp;omega
    refine bN.append.2 ⟨bN.append.2 ⟨?_,?_⟩,?_⟩
    .intro j v hv;have hj:=(cH.1 hv).1;rw [htl] at hj;rw [IK _ (by omega)];exact hc1.take j v hv
    .intro j v hv;have hj:j < vs.length:=(cH.1 hv).1;rw [htl,oB f];have:=Bk b vs (f+(idx * ob.n+off)) w (λj hj=>by
      have:f+(idx * ob.n+off)+j < C.size:=by omega
      simp [World.cell?,hb,this]) j hj
     rw [this];rw [aE hj] at hv;exact hv
    .intro j v hv;simp only [eR,htl];rw [IK _ (by omega)];have:=hc1.drop (k:=off+vs.length) j v hv
     rwa [show f+idx * ob.n+(off+vs.length)+j=f+idx * ob.n+(off+vs.length)+j from rfl] at this
   .intro x hx;simp only [fL] at hx;rcases hx with (hx|hx)|hx
    .exact Yl x (tB hx)
    .exact hone x hx
    .exact Yl x (By hx)
   .refine mU (mU (fB kb _ _ _ (λx hx=>hold x (by simp [hx])) hc1) (fB kb _ _ _ (λx hx=>hold x (by simp [hx])) hr)) ?_
    rw [<-hvl,<-At,<-At] at *;rw [hvl] at *;exact fB kb _ _ _ (λx hx=>hold x (by simp [hx])) hc4
   .refine Qc kb IK (λx hx=>hold x (by simp [hx])) (.inl ?_) hr1
    rw [hti];omega
   .refine Qc kb IK (λx hx=>hold x (by simp [hx])) (.inr ?_) hr3
    omega
  .exact lR.2 ⟨λh=>hbn (hin b h),hp.nodup_iff.2 (hsub.nodup hnd)⟩
  .intro x hx;rcases lE.1 hx with rfl|hx
   .exact UZ
   .exact hF0 x (by
     have:=hin x hx;simp only [eA,lE];exact .inr this))
 exact hm.1
theorem Fx (o:List aN):∀c:List AV,(uR o c).length=c.length
 |[]=>rfl
 |_::xs=>by simp [uR,Fx o xs]
def AS.shut (s:AS) (i idx off:Nat) (ob:aN) (e c:List AV):AS:=
 AS.stored ⟨s.t,Fw (kJ c) s.o⟩ i idx off ob e (uR s.o c)
theorem Mk (t:TypeId) (x y:Operand) {i cZ idx off:Nat} {ob:aN} {e:List AV} (hx:s.ev x= .ptr i cZ idx off) (ho:AV.isObj s.o i cZ=some ob) (he:ob.eQ[idx]? =some e)
  (hfy:(s.ev y).fit s.o=true) (hsz:eB P t=some (s.ev y).cells.length) (hfit:off+(s.ev y).cells.length<=e.length) (vP:ob.box=false)
  (nT:mV s.o (s.ev y).cells=true) (hu:(kJ (s.ev y).cells).Nodup) (hi:i∉kJ (s.ev y).cells):
  Step P B ⟨dst,.store t x y,ty,pos,after,gd⟩ s ((s.shut i idx off ob e (s.ev y).cells).put dst .undef):=
 Qd λG a w r=>by
  obtain ⟨g,b,f,hl,hlive,ha,hv⟩:=r.ptr hx ho;have hc:=PH hfy (r.ev y);obtain ⟨fp,wH,hnd,ND⟩:=IU r _ _ nT hu hc.1;obtain ⟨fpo,hown,IY,PM⟩:=r.ok i ob g hl hlive;simp only [vP,Env.of,eS,hH] at hown;obtain ⟨G2,g2,r2,k2,jc,ha2,XZ,F4⟩:=eF.Mh (k:=i) (ok:=ob) hlive _ r hl hu hi (λj hj=>zP nT j hj);have F6:(fpo++fp).Nodup:=gR.2 ⟨IY,hnd,λb hb b' hb' e=>by
   subst e;obtain ⟨j,fZ,g',hj,BZ,xP,hF'⟩:=ND b hb';have:=r.apart i j _ _ _ _ b hl BZ hlive xP (PM b hb) hF';exact hi (this▸hj)⟩
  obtain ⟨b',f',wN,hst,hrel⟩:=r2.aGa (P:=P) (c:=uR s.o (s.ev y).cells) jc hlive vP he (by rw [Fx];exact hfit) hc.2.1
   (fB k2.plain _ _ _ (λ_ _=>rfl) wH) (by rw [ha2,XZ];exact hown.keeps k2.plain (λ_ _=>rfl)) F6 (λb hb=>by
    rcases fL.1 hb with hb|hb
    .exact (F4 b).2 (.inl (PM b hb))
    .exact (F4 b).2 (.inr (ND b hb)))
  rw [ha2,ha] at wN;simp only [eC,pC,rK] at wN;obtain ⟨rfl,rfl⟩:=wN;have hlen:=gN hc.1;refine ⟨_,?_,_,hrel.put dst (by simp [R])⟩;unfold eB at hsz;cases hi':P.info? t with
  |none=>simp [hi'] at hsz
  |some inf=>
   simp only [hi',mC,eC] at hsz;have aAt:(a.eval y).cells.size=inf.size:=by rw [hsz];simpa using hlen
   simp [execOp,hv,Instr.storeAt,Instr.sureAddr,storeVar,sizeOf,typeInfo,hi',aAt,hst]
def AS.built (s:AS) (d:Option Tmp) (n:Nat) (xs:List Operand):AS:=
 AS.put ⟨s.t,(Fw (kJ (xs.map s.ev)) (s.o++[⟨true,false,n,0,[]⟩])).set s.o.length ⟨true,false,n,1,(uR s.o (xs.map s.ev)).map AV.cells⟩⟩ d (.obj s.o.length 1)
def wO (parts:List (Nat×Operand)):Bool:=go 0 parts
where go : Nat -> List (Nat × Operand) -> Bool
 |_,[]=>true
 |k,p::r=>p.1 == k&&go (k+1) r
theorem DZ:∀(parts:List (Nat×Operand)) (k:Nat),wO.go k parts=true->parts=((parts.map (·.2)).zipIdx k).map λp=>(p.2,p.1)
 |[],_,_=>rfl
 |p::r,k,h=>by simp only [wO.go,eJ,Bs] at h;simp only [mA,zipIdx_cons];rw [<-DZ r (k+1) h.2,<-h.1]
theorem uT {t e:TypeId} {n by' len:Nat} {vs:List Value} {w:World} (he:gX P t=some (e,n,by')) (hz:bQ P e n=true) (hlen:len=vs.length) (hbig:len * n<=16777216) (hv:∀v∈vs,v.cells.size=n):
  (Instr.buildSlice t len ((vs.zipIdx).map λp=>(p.2,p.1)).toArray).run P w= .ok (.slice (some ⟨w.heap.size,0,none⟩) len len) (w.alloc (.cells (vs.flatMap λv=>v.cells.toList).toArray e)):=by
 obtain ⟨hu,inf,hi,hs,_⟩:=qU he;obtain ⟨z,xe,hz2⟩:=zO hz hi;have hb:¬(16777216 < len * inf.size):=by rw [hs];omega
 have hf:∀arr:Array Value,arr.size=len * n->Instr.fill (λi=>some (i * inf.size,inf.size)) arr ((vs.zipIdx).map λp=>(p.2,p.1))=some (vs.flatMap λv=>v.cells.toList).toArray:=by intro arr ha;have:=Va inf.size vs 0 [] arr.toList (by rw [hs];exact hv) (by simp) (by simp [ha,hs,hlen]);simpa using this
 by_cases h0:len * inf.size=0
 .have:=hf #[] (by rw [<-hs,h0];rfl);simp [Instr.buildSlice,gC hu,sizeOf,typeInfo,hi,h0,Array.range_zero',this,newRow]
 .have:=hf ((Array.range (len * inf.size)).map (z.cells[· % z.cells.size]!)) (by simp [hs]);simp [Instr.buildSlice,gC hu,sizeOf,typeInfo,hi,hb,h0,zeroValue,xe,this,newRow]
theorem OH (t:TypeId) (len:Nat) (parts:Array (Nat×Operand)) {e:TypeId} {n by':Nat} (he:gX P t=some (e,n,by')) (hz:bQ P e n=true) (Mj:wO parts.toList=true) (hlen:len=parts.toList.length) (hbig:len * n<=16777216) (aUa:len<=16777216)
  (nT:mV s.o ((parts.toList.map (·.2)).map s.ev)=true) (hu:(kJ ((parts.toList.map (·.2)).map s.ev)).Nodup)
  (hgood:∀x∈uR s.o ((parts.toList.map (·.2)).map s.ev),x.xO=true/\x.cells.length=n):
  Step P B ⟨dst,.buildSlice t len parts,ty,pos,after,gd⟩ s (s.built dst n (parts.toList.map (·.2))):=
 rQ λG a w r=>by
  generalize hxs:parts.toList.map (·.2)=xs at *;have Ad:parts.toList=(xs.zipIdx).map λp=>(p.2,p.1):=by rw [<-hxs];exact DZ _ 0 Mj
  obtain ⟨fp,wH,hnd,ND⟩:=IU r _ _ nT hu (xE r xs);obtain ⟨Ny,hsz⟩:=PK wH hgood;have hvl:(xs.map a.eval).length=len:=by rw [hlen,<-hxs];simp
  have hrun:(execOp a.eval ⟨dst,.buildSlice t len parts,ty,pos,after,gd⟩).run P w= .ok (.value (.slice (some ⟨w.heap.size,0,none⟩) len len)) (w.alloc (.cells ((xs.map a.eval).flatMap λv=>v.cells.toList).toArray e)):=by
   have e1:parts.map (λ(i,x)=>(i,a.eval x))=(((xs.map a.eval).zipIdx).map λp=>(p.2,p.1)).toArray:=by apply DE;simp only [CC,Ad,map_map,zipIdx_map];rfl
   have:=uT (P:=P) (t:=t) (len:=len) (w:=w) he hz hvl.symm hbig hsz;simp only [execOp,e1,mT,this,lO,sA]
  have hadd:=r.add [⟨true,false,n,0,[]⟩] [⟨none,0,λ_=>False⟩] w rfl (eE _) (λ_ _=>rfl) (λj ob g b hl _ hF=>by
   cases j with
   |zero=>obtain ⟨_,h2⟩:=hl;simp at h2;subst h2;exact hF.elim
   |succ j=>simp [Aw.look] at hl) (λi j _ _ gi _ b hi hj _ _ Fp _=>by
   cases i with
   |zero=>obtain ⟨_,h2⟩:=hi;simp at h2;subst h2;exact Fp.elim
   |succ i=>simp [Aw.look] at hi) (λk j ob g hl _=>by
   cases j with
   |zero=>obtain ⟨h1,h2⟩:=hl;simp at h1 h2;subst h1;subst h2;exact ⟨[],⟨by simp,.inl ⟨rfl,rfl,rfl⟩⟩,by simp,by simp⟩
   |succ j=>simp [Aw.look] at hl)
  have hlk:Aw.look (s.o++[⟨true,false,n,0,[]⟩]) (G++[⟨none,0,λ_=>False⟩]) s.o.length ⟨true,false,n,0,[]⟩ ⟨none,0,λ_=>False⟩:=⟨by simp,by rw [<-r.len];simp⟩;have hlive:∀j∈kJ (xs.map s.ev),∃ob,s.o[j]? =some ob/\ob.live=true:=λj hj=>zP nT j hj
  have hlt:∀j∈kJ (xs.map s.ev),j < s.o.length:=λj hj=>by obtain ⟨ob,h,_⟩:=hlive j hj;exact (cH.1 h).1
  obtain ⟨G2,g2,r2,k2,jc,ha2,XZ,F4⟩:=eF.Mh (k:=s.o.length) (ok:=⟨true,false,n,0,[]⟩) rfl _ hadd.1 hlk hu (λh=>by have:=hlt _ h;omega) (λj hj=>by
   obtain ⟨ob,h1,h2⟩:=hlive j hj;exact ⟨ob,by simp only;rw [pH (hlt j hj)];exact h1,h2⟩)
  have aNr:∀b∈fp,g2.F b:=λb hb=>by obtain ⟨i,ob,g,hi,hli,hil,hf⟩:=ND b hb;exact (F4 b).2 (.inr ⟨i,ob,g,hi,qQ hli,hil,hf⟩)
  have kk:=(hadd.2.trans k2).plain;have hfl:∀b∈fp,b < w.heap.size:=λb hb=>(r2.fresh _ _ _ b jc rfl (aNr b hb)).2
  generalize hCd:((xs.map a.eval).flatMap λv=>v.cells.toList)=cs at *;have hcl:=jX Ny;have hself:(w.alloc (.cells cs.toArray e)).heap[w.heap.size]? =some (.cells cs.toArray e):=fT w _;have hrl:((uR s.o (xs.map s.ev)).map AV.cells).length=len:=by have:=gN wH;rw [oX,<-this,hvl]
  have Vb:len<=maxLen:=by simp only [maxLen];omega
  have hm:=r2.modify jc rfl ⟨true,false,n,1,(uR s.o (xs.map s.ev)).map AV.cells⟩ ⟨some ⟨w.heap.size,0,none⟩,len,λb=>g2.F b\/b=w.heap.size⟩ (w.alloc (.cells cs.toArray e)) (by simp) rfl (by simp)
   (λb hb=>by
    rcases hb with hb|hb
    .exact .inl hb
    .right;subst hb;simp) (λb hb hne=>⟨.inl hb,λa' wN=>by
     obtain rfl:=cQ wN;have:=(r2.fresh _ _ _ b jc rfl hb).2;simp only;omega⟩) (λb hlt _=>heap_alloc w _ b hlt) (by simp) (λk _=>by
   refine ⟨w.heap.size::fp,?_,?_,?_⟩
   .generalize env B _ _ (w.alloc (.cells cs.toArray e))=E' at k⊢;simp only [Env.of,eS,hH];refine ⟨by rw [hrl];exact Vb,.inr ⟨w.heap.size,0,cs.toArray,e,(0,0),fp,rfl,hself,.inr rfl,?_,by rw [hrl];exact eE _,Vb,rfl,?_⟩⟩
    .simp [hcl];rw [<-hrl];simp
    .refine sV.2 ⟨cs,wI k.plain (λb hb=>heap_alloc w _ b (hfl b hb)) (wI kk (λ_ _=>rfl) Ny),?_⟩
     refine qR hself (λj v hv=>by simpa using hv)
   .refine lR.2 ⟨λh=>by have:=hfl _ h;omega,hnd⟩
   .intro b hb;rcases lE.1 hb with rfl|hb
    .exact .inr rfl
    .exact .inl (aNr b hb))
  refine ⟨_,_,hrun,_,hm.1.put dst ?_⟩;simp only [R];have h1:=(cH.1 jc.1).1;have h2:=(cH.1 jc.2).1;refine ⟨trivial,⟨true,false,n,1,(uR s.o (xs.map s.ev)).map AV.cells⟩,⟨some ⟨w.heap.size,0,none⟩,len,λb=>g2.F b\/b=w.heap.size⟩,⟨?_,?_⟩,eE _,⟨λ_ _=>by simp only [hrl],λh=>by omega⟩⟩
  .rw [nB h1]
  .rw [nB h2]
def fM (P:Program) (t:TypeId):Option (List (Nat×Nat)):=
 match P.underlying t with
 |some (.struct fields)=>fields.toList.mapM (λf=>(P.info? f.type).map λi=>(f.offset,i.size))
 |some (.array _ e)=>if (P.info? e).isSome then some [] else none
 |_=>none
def NG (pl:List (Nat×Nat)):List AV->List (Nat×AV)->Option (List AV)
 |cs,[]=>some cs
 |cs,(i,x)::rest=>match pl[i]? with
  |some (off,size)=>if x.cells.length=size/\off+size<=cs.length then NG pl (cs.take off++x.cells++cs.drop (off+size)) rest else none
  |none=>none
theorem xk {G:List CO} {a:Act} {w:World} (r:eF B s G a w) (pl:List (Nat×Nat)):∀(parts:List (Nat×Operand)) (cs:List AV) (vs:List Value) (z:List AV),(∀p∈parts,(s.ev p.2).fit s.o=true)->
  Rc w (env B s.o G w) cs vs []->(∀x∈vs,x.oneCell'=true)->NG pl cs (parts.map λp=>(p.1,s.ev p.2))=some z->
  ∃vs',Instr.fill (pl.toArray[·]?) vs.toArray (parts.map λp=>(p.1,a.eval p.2))=some vs'.toArray/\Rc w (env B s.o G w) z vs' []/\∀x∈vs',x.oneCell'=true
 |[],cs,vs,z,_,h,ho,hz=>by simp only [Dg,NG,eC] at hz;subst hz;exact ⟨vs,rfl,h,ho⟩
 |(i,x)::rest,cs,vs,z,hf,h,ho,hz=>by
  simp only [mA,NG] at hz;cases hp:pl[i]? with
  |none=>simp [hp] at hz
  |some p=>
   obtain ⟨off,size⟩:=p;simp only [hp] at hz;split at hz
   .rename_i hc;have hx:=PH (hf (i,x) (by simp)) (r.ev x);have hxl:=gN hx.1;have hl:=gN h;obtain ⟨f1,f2,e,h1,h2⟩:=tV off h;obtain ⟨rfl,rfl⟩:f1=[]/\f2=[]:=by simpa using e.symm
    obtain ⟨f1,f2,e,h3,h4⟩:=tV size h2;obtain ⟨rfl,rfl⟩:f1=[]/\f2=[]:=by simpa using e.symm
    rw [At,At] at h4;have hnew:=mU (mU h1 hx.1) h4;have hvl:(vs.take off).length=off:=by simp;omega
    obtain ⟨vs',h5,h6,h7⟩:=xk r pl rest _ (vs.take off++(a.eval x).cells.toList++vs.drop (off+size)) z (λp hp=>hf p (by simp [hp])) hnew (λy hy=>by
     simp only [fL] at hy;rcases hy with (hy|hy)|hy
     .exact ho y (tB hy)
     .exact hx.2.1 y hy
     .exact ho y (By hy)) hz
    refine ⟨vs',?_,h6,h7⟩;simp only [mA,Instr.fill];have hpa:pl.toArray[i]? =some (off,size):=by simpa using hp
    have hsz:(a.eval x).cells.size=size:=by rw [<-hc.1,<-hxl];simp
    simp only [hpa];have aNu:¬(((a.eval x).cells.size≠size) || decide (off+(a.eval x).cells.size > vs.toArray.size))=true:=by simp [hsz];omega
    rw [cX (by simpa using aNu)];have:=Mi off (a.eval x).cells.toList 0 (vs.take off) (vs.drop off) (by simpa using hvl) (by simp [hsz];omega);rw [nF] at this;rw [<-Array.foldl_toList,Array.toList_zipIdx,this,<-h5];congr 2;rw [At];simp [hsz]
   .cases hz
theorem jd (t:TypeId) (parts:Array (Nat×Operand)) {pl:List (Nat×Nat)} {z0 z:List AV} (hp:fM P t=some pl) (hz0:dM P t=some z0) (hf:∀p∈parts.toList,(s.ev p.2).fit s.o=true)
  (hz:NG pl z0 (parts.toList.map λp=>(p.1,s.ev p.2))=some z):Step P B ⟨dst,.build t parts,ty,pos,after,gd⟩ s (s.put dst (.agg z)):=
 dW λG a w r=>by
  unfold dM at hz0;cases hi:P.info? t with
  |none=>simp [hi] at hz0
  |some inf=>
   cases hv:inf.zero with
   |none=>simp [hi,hv] at hz0
   |some zv=>
    simp only [hi,hv,tR] at hz0;split at hz0
    .rename_i hall;obtain rfl:=cQ hz0;obtain ⟨vs',h1,h2,h3⟩:=xk r pl parts.toList _ zv.cells.toList z hf (Gy w _ _ _) (fW.1 hall) hz;refine ⟨.agg vs'.toArray,?_,by simp only [R];exact ⟨vs',rfl,h3,h2⟩⟩;unfold fM at hp;split at hp
     .rename_i fields hu;have hb:P.built t (parts.map λp=>(p.1,a.eval p.2)).toList=some vs'.toArray:=by
       simp only [Program.built,hi,hu,hv,hp];rw [CC,<-h1]
      have hrun:=run_build (P:=P) w t (parts.map λp=>(p.1,a.eval p.2)) vs'.toArray hb;simp only [execOp,mT];rw [show (parts.map λ(x:Nat×Operand)=>match x with|(i,x)=>(i,a.eval x))=parts.map λp=>(p.1,a.eval p.2) from rfl,hrun];rfl
     .rename_i n e hu;split at hp
      .rename_i he;obtain rfl:=cQ hp;obtain ⟨ie,hie⟩:=AT.1 he;have hpe:parts.toList=[]:=by
        cases hpl:parts.toList with
        |nil=>rfl
        |cons q qs=>rw [hpl] at hz;simp [NG] at hz
       have hb:P.built t (parts.map λp=>(p.1,a.eval p.2)).toList=some vs'.toArray:=by simp only [Program.built,hi,hu,hv,hie];rw [CC,<-h1,hpe];rfl
       have hrun:=run_build (P:=P) w t (parts.map λp=>(p.1,a.eval p.2)) vs'.toArray hb;simp only [execOp,mT];rw [show (parts.map λ(x:Nat×Operand)=>match x with|(i,x)=>(i,a.eval x))=parts.map λp=>(p.1,a.eval p.2) from rfl,hrun];rfl
      .cases hp
     .cases hp
    .cases hz0
theorem Ub (z:Array Value) (n j:Nat) (hj:j < n):(madeCells z n)[j]? =some (z[j % z.size]!):=by simp [madeCells,hj]
theorem JZ {w:World} {E:Env} {c:List AV} {cs:List Value} {n:Nat} (hn:cs.length=n) (ho:∀x∈cs,x.oneCell'=true) (hr:Rc w E c cs []):∀m,Rv w E (replicate m c) (replicate m cs).flatten n []
 |0=>by simp [Rv]
 |m+1=>by simp only [qS,pL,Rv];exact ⟨cs,_,[],[],rfl,hn,ho,hr,JZ hn ho hr m,rfl⟩
theorem yO (cs:List Value):∀(m j:Nat),j < m * cs.length->(replicate m cs).flatten[j]? =cs[j % cs.length]?
 |0,j,h=>by simp at h
 |m+1,j,h=>by
  simp only [qS,pL];by_cases hj:j < cs.length
  .rw [pH hj,Nat.mod_eq_of_lt hj]
  .rw [hS (by omega),yO cs m (j - cs.length) (by rw [pS] at h;omega)];congr 1;exact (Nat.mod_eq_sub_mod (by omega)).symm
theorem aA6 (t:TypeId) {e:TypeId} {n by':Nat} (he:gX P t=some (e,n,by')) (hz:bQ P e n=true):
  Step P B ⟨dst,.buildSlice t 0 #[],ty,pos,after,gd⟩ s (s.put dst (.sl .own n [])):=
 rQ λG a w r=>by
  have hrun:=uT (P:=P) (t:=t) (len:=0) (w:=w) (vs:=[]) he hz rfl (by omega) (by simp);have hadd:=r.add [] [] (w.alloc (.cells #[] e)) rfl (by simp) (λb hb=>heap_alloc w _ b hb) (λj ob g b hl=>by simp [Aw.look] at hl) (λi j _ _ _ _ b hi=>by simp [Aw.look] at hi) (λk j ob g hl=>by simp [Aw.look] at hl);simp only [fY] at hadd;refine ⟨.slice (some ⟨w.heap.size,0,none⟩) 0 0,w.alloc (.cells #[] e),?_,G,hadd.1.put dst ?_⟩
  .have h2:(Instr.buildSlice t 0 #[]).run P w= .ok (.slice (some ⟨w.heap.size,0,none⟩) 0 0) (w.alloc (.cells #[] e)):=by simpa using hrun
   simp [execOp,h2]
  .simp only [R];exact .inr ⟨_,0,rfl,⟨by simp,by simp⟩,.inl ⟨trivial,trivial,rfl,trivial⟩⟩
def AS.made (s:AS) (d:Option Tmp) (n:Nat) (l:List (List AV)):AS:=AS.put ⟨s.t,s.o++[⟨true,false,n,1,l⟩]⟩ d (.obj s.o.length 1)
theorem Qt (t:TypeId) (x y:Operand) {e:TypeId} {n by':Nat} {k k':IntKind} {l c:Int} {z:List AV} (he:gX P t=some (e,n,by')) (hz:dM P e=some z) (hzn:bQ P e n=true) (hx:s.ev x= .int k l) (hy:s.ev y= .int k' c)
  (h0:0<=l) (h1:l<=c) (hb:(by':Int) * c<=281474976710656) (h63:c<=9223372036854775807) (hn0:0 < n):
  Step P B ⟨dst,.makeSlice t x y,ty,pos,after,gd⟩ s (s.made dst n (replicate l.toNat z)):=
 rQ λG a w r=>by
  obtain ⟨hu,inf,hi,hs,hby⟩:=qU he;obtain ⟨zv,xe,hz2⟩:=zO hzn hi;have hrun:=run_make (P:=P) w t e inf zv hu hi xe k k' l c h0 h1 (by rw [hby];exact hb) h63;unfold dM at hz;simp only [hi,xe,tR] at hz;split at hz
  .rename_i hall;obtain rfl:=cQ hz;have hzl:zv.cells.toList.length=n:=by simpa using hz2
   obtain ⟨G',r',k',hG⟩:=r.aNd ⟨true,false,n,1,replicate l.toNat (WH (zv.cells.toList.map ofV) (slN P 8 e))⟩ c.toNat (madeCells zv.cells (c.toNat * inf.size)) e (by simp;omega) (by simp [maxLen];omega) (by simp [size_madeCells,hs]) (λw' E' k hb=>by
    refine sV.2 ⟨_,JZ hzl (fW.1 hall) (Gy w' E' _ _) l.toNat,?_⟩;refine qR hb (λj v hv=> ?_);have hj:=(cH.1 hv).1;have hfl:(replicate l.toNat zv.cells.toList).flatten.length=l.toNat * n:=by simp [hz2]
    rw [hfl] at hj;rw [yO _ _ _ (by rw [hzl];exact hj),hzl] at hv;have hle:l.toNat * n<=c.toNat * inf.size:=by rw [hs];exact hY _ (by omega)
    rw [lA,Ub _ _ _ (by omega),hz2];have hm:j % n < zv.cells.size:=by rw [hz2];exact Nat.mod_lt _ hn0
    rw [getElem!_pos zv.cells (j % n) hm];rw [<-hv];simp [hm])
   refine ⟨.slice (some ⟨w.heap.size,0,none⟩) l.toNat c.toNat,_,by simp only [execOp,r.IW hx,r.IW hy,mT,hrun,lO,sA],G',r'.put dst ?_⟩;simp only [R];exact ⟨trivial,_,_,UY hG,eE _,⟨λ_ _=>by simp,λh=>by omega⟩⟩
  .cases hz
def AS.at (s:AS) (i cZ idx:Nat):Option (aN×List AV):=
 match AV.isObj s.o i cZ with
 |some ob=>match ob.eQ[idx]? with
  |some e=>some (ob,e)
  |none=>none
 |none=>none
def Am (P:Program) (t:TypeId) (c:List AV) (off:Nat) (K:AV->Prop):Prop:=
 match bM P t with
 |some n=>off+n<=c.length/\K (.agg ((c.drop off).take n))
 |none=>gB P t=true/\match c[off]? with
  |some y=>K y
  |none=>False
def rM (P:Program) [aC P] (o:Oper) (s:AS) (K:AS->Prop):Prop:=
 match o.op with
 | .move x=>K (s.put o.dst (s.ev x))
 | .assign x=>K (s.put o.dst (s.ev x))
 | .pick c x y=>match s.ev c with
  | .bool b=>K (s.put o.dst (if b then s.ev x else s.ev y))
  |_=>False
 | .alloc t=>match dM P t with
  |some z=>K (s.box o.dst z)
  |none=>False
 | .box _ x=>(s.ev x).fit s.o=true/\K (s.box o.dst (s.ev x).cells)
 | .build t parts=>match fM P t with
  |some pl=>match dM P t with
   |some z0=>(∀p∈parts.toList,(s.ev p.2).fit s.o=true)/\match NG pl z0 (parts.toList.map λp=>(p.1,s.ev p.2)) with
    |some z=>K (s.put o.dst (.agg z))
    |none=>False
   |none=>False
  |none=>False
 | .buildSlice t len parts=>match gX P t with
  |some (e,n,_)=>bQ P e n=true/\wO parts.toList=true/\len=parts.toList.length/\len * n<=16777216/\len<=16777216/\
    mV s.o ((parts.toList.map (·.2)).map s.ev)=true/\(kJ ((parts.toList.map (·.2)).map s.ev)).Nodup/\
    (∀x∈uR s.o ((parts.toList.map (·.2)).map s.ev),x.xO=true/\x.cells.length=n)/\K (s.built o.dst n (parts.toList.map (·.2)))
  |none=>False
 | .load t x=>match s.ev x with
  | .ptr i cZ idx off=>match s.at i cZ idx with
   |some (_,e)=>Am P t (xM (DV i) true e) off λy=>K (s.put o.dst y)
   |none=>False
  | .fA g c off=>(AV.fA g c off).fit s.o=true/\Am P t c off λy=>K (s.put o.dst y)
  |_=>False
 | .store t x y=>match s.ev x with
  | .ptr i cZ idx off=>match s.at i cZ idx with
   |some (ob,e)=>(s.ev y).fit s.o=true/\eB P t=some (s.ev y).cells.length/\off+(s.ev y).cells.length<=e.length/\
     if (ob.box || (s.ev y).cells.all AV.NA)=true then K ((s.stored i idx off ob e (s.ev y).cells).put o.dst .undef)
     else mV s.o (s.ev y).cells=true/\(kJ (s.ev y).cells).Nodup/\i∉kJ (s.ev y).cells/\K ((s.shut i idx off ob e (s.ev y).cells).put o.dst .undef)
   |none=>False
  |_=>False
 | .fieldAddr t x f=>match bC P t f with
  |some fo=>match s.ev x with
   | .ptr i cZ idx off=>(AV.isObj s.o i cZ).isSome=true/\K (s.put o.dst (.ptr i cZ idx (off+fo)))
   | .fA g c off=>(AV.fA g c off).fit s.o=true/\K (s.put o.dst (.fA g c (off+fo)))
   |_=>False
  |none=>False
 | .indexAddr t x ix=>match s.ev ix with
  | .int _ n=>0<=n/\match s.ev x with
   | .obj i cZ=>match AV.isObj s.o i cZ with
    |some ob=>match gX P t with
     |some (_,m,_)=>m=ob.n/\(ob.box=false\/ob.cZ≠2)/\n < ob.eQ.length/\K (s.put o.dst (.ptr i cZ n.toNat 0))
     |none=>False
    |none=>False
   | .sl g m l=>(AV.sl g m l).fit s.o=true/\match gX P t with
    |some (_,m',_)=>m'=m/\match l[n.toNat]? with
     |some c=>K (s.put o.dst (.fA g c 0))
     |none=>False
    |none=>False
   | .ptr i cZ idx off=>(AV.isObj s.o i cZ).isSome=true/\match aF4 P t with
    |some (len,sz)=>n < len/\K (s.put o.dst (.ptr i cZ idx (off+n.toNat * sz)))
    |none=>False
   |_=>False
  |_=>False
 | .index t x ix=>match s.ev x with
  | .str l=>match s.ev ix with
   | .int _ n=>isString P t=true/\0<=n/\match l[n.toNat]? with
    |some u=>K (s.put o.dst (.int .u8 u.toNat))
    |none=>False
   |_=>False
  |_=>False
 | .extract x ix=>match s.ev x with
  | .gZ c=>match c[ix]? with
   |some y=>K (s.put o.dst y)
   |none=>False
  |_=>False
 | .makeFunc (.func f) ⟨[]⟩ cap=>K (s.put o.dst (.fn f (s.args cap)))
 | .makeSlice t x y=>match gX P t with
  |some (e,n,by')=>match dM P e with
   |some z=>match s.ev x with
    | .int _ l=>match s.ev y with
     | .int _ c=>bQ P e n=true/\0<=l/\l<=c/\(by':Int) * c<=281474976710656/\c<=9223372036854775807/\0 < n/\K (s.made o.dst n (replicate l.toNat z))
     |_=>False
    |_=>False
   |none=>False
  |none=>False
 | .slice t x lo hi none=>match s.ev x with
  | .str l=>match s.bound 0 lo with
   |some a=>match s.bound l.length hi with
    |some b=>isString P t=true/\a<=b/\b<=l.length/\K (s.put o.dst (.str ((l.take b).drop a)))
    |none=>False
   |none=>False
  | .sl g n l=>match s.bound 0 lo with
   |some a=>match s.bound l.length hi with
    |some b=>match gX P t with
     |some (_,m,_)=>m=n/\(AV.sl g n l).fit s.o=true/\a<=b/\b<=l.length/\K (s.put o.dst (.sl g n ((l.take b).drop a)))
     |none=>False
    |none=>False
   |none=>False
  | .obj i cZ=>match AV.isObj s.o i cZ with
   |some ob=>match s.bound 0 lo with
    |some a=>match s.bound ob.eQ.length hi with
     |some b=>match gX P t with
      |some (_,m,_)=>m=ob.n/\ob.box=false/\a<=b/\b<=ob.eQ.length/\K (s.Qr o.dst i ob ((ob.eQ.take b).drop a))
      |none=>False
     |none=>False
    |none=>False
   |none=>False
  |_=>False
 | .unOp .not _ x=>match s.ev x with
  | .bool b=>K (s.put o.dst (.bool !b))
  |_=>False
 | .unOp .neg _ x=>match s.ev x with
  | .int k n=>K (s.put o.dst (.int k (k.wrap (0 - n))))
  |_=>False
 | .binOp op t x y _=>match s.ev x with
  | .int k m=>match s.ev y with
   | .int k' n=>(k'=k\/op= .shr)/\match Qn op k m n with
    |some z=>K (s.put o.dst z)
    |none=>False
   |_=>False
  | .str l=>match s.ev y with
   | .str m=>(op= .add->l.length+m.length<=9223372036854775807)/\match WS op l m with
    |some z=>K (s.put o.dst z)
    |none=>False
   |_=>False
  | .bool a=>match s.ev y with
   | .bool b=>(op= .eql\/op= .neq)/\JY P t=true/\K (s.put o.dst (.bool (if op= .eql then a == b else a != b)))
   |_=>False
  | .agg c1=>match s.ev y with
   | .agg c2=>(op= .eql\/op= .neq)/\c1.all AV.scalar=true/\c2.all AV.scalar=true/\∃b,EqA P t c1 c2 b/\K (s.put o.dst (.bool (if op= .eql then b else !b)))
   |_=>False
  |_=>False
 | .convert src d x=>match s.ev x with
  | .int _ n=>match intType P d with
   |some k'=>(P.underlying src).isSome=true/\K (s.put o.dst (.int k' (k'.wrap n)))
   |none=>False
  | .str l=>isString P src=true/\isString P d=true/\K (s.put o.dst (.str l))
  | .sl g n l=>match gX P src with
   |some (e,m,_)=>m=1/\n=1/\(AV.sl g n l).fit s.o=true/\isString P d=true/\intType P e=some .u8/\∃bs,bytesOf l=some bs/\K (s.put o.dst (.str bs))
   |none=>False
  | .obj i cZ=>match AV.isObj s.o i cZ with
   |some ob=>match gX P src with
    |some (e,m,_)=>m=1/\ob.n=1/\isString P d=true/\intType P e=some .u8/\∃bs,bytesOf ob.eQ=some bs/\K (s.put o.dst (.str bs))
    |none=>False
   |none=>False
  |_=>False
 | .call ⟨.builtin .len,⟨[x]⟩,⟨[t]⟩⟩=>match s.ev x with
  | .str l=>isString P t=true/\K (s.put o.dst (.int .i64 l.length))
  | .sl g n l=>(AV.sl g n l).fit s.o=true/\isSlice P t=true/\K (s.put o.dst (.int .i64 l.length))
  | .obj i cZ=>match AV.isObj s.o i cZ with
   |some ob=>isSlice P t=true/\K (s.put o.dst (.int .i64 ob.eQ.length))
   |none=>False
  |_=>False
 | .call ⟨.builtin .append,⟨[x,y]⟩,⟨[tS,xT]⟩⟩=>match gX P tS with
  |some (e,n,by')=>bQ P e n=true/\dP P xT=true/\match s.target n (s.ev x) with
   |some (i,ob,s1)=>match s1.source i n (s.ev y) with
    |some (l2,o2)=>(ob.eQ.length+l2.length) * by'<=140737488355328/\ob.eQ.length+l2.length<=9223372036854775807/\K (s.xR o2 o.dst i ob l2)
    |none=>False
   |none=>False
  |none=>False
 | .call ⟨.value f,args,_⟩=>match s.ev f with
  | .fn g cap=>if aT P g=true then∃r,Ok P g (BV s.o (s.args args++cap)) r/\K (s.called o.dst r) else∃r,OkN P g (BV s.o (s.args args++cap)) r/\K (s.put o.dst r)
  |_=>False
 | .nilCheck x=>match s.ev x with
  | .ptr i cZ idx off=>(AV.isObj s.o i cZ).isSome=true/\K (s.put o.dst (.ptr i cZ idx off))
  | .fA g c off=>(AV.fA g c off).fit s.o=true/\K (s.put o.dst (.fA g c off))
  |_=>False
 |_=>False
def Uc (P:Program) (o:Oper) (s:AS) (K:AS->Prop):Prop:=
 match o.op with
 | .buildSlice t 0 ⟨[]⟩=>match gX P t with
  |some (e,n,_)=>bQ P e n=true/\K (s.put o.dst (.sl .own n []))
  |none=>False
 |_=>False
theorem Az {s:AS} {i cZ idx:Nat} {ob:aN} {e:List AV} (h:s.at i cZ idx=some (ob,e)):AV.isObj s.o i cZ=some ob/\ob.eQ[idx]? =some e:=by
 unfold AS.at at h;split at h
 .rename_i fZ h1;split at h
  .rename_i e' h2;simp only [eC,oE] at h;obtain ⟨rfl,rfl⟩:=h;exact ⟨h1,h2⟩
  .cases h
 .cases h
theorem IZ {s:AS} {i cZ:Nat} (h:(AV.isObj s.o i cZ).isSome=true):∃ob,AV.isObj s.o i cZ=some ob:=AT.1 h
theorem F7 {P:Program} [aC P] {B:gV P} {s:AS} {dst:Option Tmp} {ty:TypeId} {pos:String} {after:Array Edge} {gd:Option (Nat×Bool)} {t:TypeId} {x:Operand} {i cZ idx off:Nat} {ob:aN} {e:List AV} {K:AS->Prop}
  (hx:s.ev x= .ptr i cZ idx off) (ha:s.at i cZ idx=some (ob,e)) (h:Am P t (xM (DV i) true e) off λy=>K (s.put dst y)):∃s',K s'/\Step P B ⟨dst,.load t x,ty,pos,after,gd⟩ s s':=by
 obtain ⟨h1,h2⟩:=Az ha;unfold Am at h;split at h
 .rename_i n hn;exact ⟨_,h.2,JU t x hx h1 h2 hn (by have:=h.1;rwa [DW] at this)⟩
 .split at h
  .rename_i y hy;exact ⟨_,h.2,JV t x hx h1 h2 h.1 hy⟩
  .exact h.2.elim
theorem je {P:Program} [aC P] {B:gV P} {s:AS} {dst:Option Tmp} {ty:TypeId} {pos:String} {after:Array Edge} {gd:Option (Nat×Bool)} {t:TypeId} {x:Operand} {g:Tg} {c:List AV} {off:Nat} {K:AS->Prop}
  (hx:s.ev x= .fA g c off) (hf:(AV.fA g c off).fit s.o=true) (h:Am P t c off λy=>K (s.put dst y)):∃s',K s'/\Step P B ⟨dst,.load t x,ty,pos,after,gd⟩ s s':=by
 unfold Am at h;split at h
 .rename_i n hn;exact ⟨_,h.2,IM t x hx hf hn h.1⟩
 .split at h
  .rename_i y hy;exact ⟨_,h.2,IP t x hx hf h.1 hy⟩
  .exact h.2.elim
theorem WT (x:Operand) {i cZ idx off:Nat} {ob:aN} (hx:s.ev x= .ptr i cZ idx off) (ho:AV.isObj s.o i cZ=some ob):Step P B ⟨dst,.nilCheck x,ty,pos,after,gd⟩ s (s.put dst (.ptr i cZ idx off)):=
 dW λG a w r=>by obtain ⟨g,b,f,_,_,_,hv⟩:=r.ptr hx ho;refine ⟨a.eval x,?_,by have:=r.ev x;rwa [hx] at this⟩;simp only [execOp];rw [hv];rfl
theorem Ud (x:Operand) {g:Tg} {c:List AV} {off:Nat} (hx:s.ev x= .fA g c off) (hf:(AV.fA g c off).fit s.o=true):Step P B ⟨dst,.nilCheck x,ty,pos,after,gd⟩ s (s.put dst (.fA g c off)):=
 dW λG a w r=>by
  have h:=r.ev x;rw [hx] at h;refine ⟨a.eval x,?_,h⟩;have h':=h;simp only [R] at h';rcases h' with ⟨hd,_⟩|⟨_,b,o,cs,hv,_⟩
  .cases g with
   |own=>exact hd.elim
   |view=>exact hd.elim
   |kG i=>exfalso;simp only [AV.fit] at hf;refine hd (λob wG=> ?_);simpa [wG] using hf
  .simp only [execOp];rw [hv];rfl
theorem AY {P:Program} [aC P] {B:gV P} {o:Oper} {s:AS} {K:AS->Prop} (h:rM P o s K):∃s',K s'/\Step P B o s s':=by
 obtain ⟨dst,op,ty,pos,after,gd⟩:=o;unfold rM at h;dsimp only at h;split at h;case h_1=>exact ⟨_,h,D9 _⟩
 case h_2=>exact ⟨_,h,Ye _⟩
 case h_3=>
  split at h
  .rename_i hc;exact ⟨_,h,E9 _ _ _ hc⟩
  .exact h.elim
 case h_4=>
  split at h
  .rename_i hz;exact ⟨_,h,ik _ hz⟩
  .exact h.elim
 case h_5=>exact ⟨_,h.2,aAp _ _ h.1⟩
 case h_6=>
  split at h
  .rename_i hp;split at h
   .rename_i hz;obtain ⟨h1,h⟩:=h;split at h
    .rename_i hf;exact ⟨_,h,jd _ _ hp hz h1 hf⟩
    .exact h.elim
   .exact h.elim
  .exact h.elim
 case h_7=>
  split at h
  .rename_i he;obtain ⟨h1,h2,h3,h4,h5,h6,h7,h8,h9⟩:=h;exact ⟨_,h9,OH _ _ _ he h1 h2 h3 h4 h5 h6 h7 h8⟩
  .exact h.elim
 case h_8=>
  split at h
  .rename_i hx;split at h
   .rename_i ha;exact F7 hx ha h
   .exact h.elim
  .rename_i hx;exact je hx h.1 h.2
  .exact h.elim
 case h_9=>
  split at h
  .rename_i hx;split at h
   .rename_i ha;obtain ⟨a1,a2⟩:=Az ha;obtain ⟨h1,h2,h3,h⟩:=h;split at h
    .rename_i hb;exact ⟨_,h,iy _ _ _ hx a1 a2 h1 h2 h3 (by simpa using hb)⟩
    .rename_i hb;obtain ⟨h4,h5,h6,h7⟩:=h;exact ⟨_,h7,Mk _ _ _ hx a1 a2 h1 h2 h3 (by simp at hb;exact hb.1) h4 h5 h6⟩
   .exact h.elim
  .exact h.elim
 case h_10=>
  split at h
  .rename_i hf;split at h
   .rename_i hx;obtain ⟨ob,ho⟩:=IZ h.1;exact ⟨_,h.2,Qg _ _ _ hx ho hf⟩
   .rename_i hx;exact ⟨_,h.2,OE _ _ _ hx h.1 hf⟩
   .exact h.elim
  .exact h.elim
 case h_11=>
  split at h
  .rename_i hi;obtain ⟨h0,h⟩:=h;split at h
   .rename_i hx;split at h
    .rename_i ho;split at h
     .rename_i he;obtain ⟨rfl,hb,h1,h2⟩:=h;exact ⟨_,h2,Qj _ _ _ hx ho hi he h0 h1 hb⟩
     .exact h.elim
    .exact h.elim
   .rename_i hx;obtain ⟨hf,h⟩:=h;split at h
    .rename_i he;obtain ⟨rfl,h⟩:=h;split at h
     .rename_i hc;exact ⟨_,h,TV _ _ _ hx hf hi he h0 hc⟩
     .exact h.elim
    .exact h.elim
   .rename_i hx;obtain ⟨hs,h⟩:=h;obtain ⟨ob,ho⟩:=IZ hs;split at h
    .rename_i ha;exact ⟨_,h.2,Qk _ _ _ hx ho hi ha h0 h.1⟩
    .exact h.elim
   .exact h.elim
  .exact h.elim
 case h_12=>
  split at h
  .rename_i hx;split at h
   .rename_i hi;obtain ⟨ht,h0,h⟩:=h;split at h
    .rename_i hu;exact ⟨_,h,Ql _ _ _ hx hi ht h0 hu⟩
    .exact h.elim
   .exact h.elim
  .exact h.elim
 case h_13=>
  split at h
  .rename_i hx;split at h
   .rename_i hy;exact ⟨_,h,WN _ _ hx hy⟩
   .exact h.elim
  .exact h.elim
 case h_14=>exact ⟨_,h,TW _ _⟩
 case h_15=>
  split at h
  .rename_i he;split at h
   .rename_i hz;split at h
    .rename_i hx;split at h
     .rename_i hy;obtain ⟨h1,h2,h3,h4,h5,h6,h7⟩:=h;exact ⟨_,h7,Qt _ _ _ he hz h1 hx hy h2 h3 h4 h5 h6⟩
     .exact h.elim
    .exact h.elim
   .exact h.elim
  .exact h.elim
 case h_16=>
  split at h
  .rename_i hx;split at h
   .rename_i hl;split at h
    .rename_i hh;obtain ⟨h1,h2,h3,h4⟩:=h;exact ⟨_,h4,Qp _ _ _ _ hx h1 hl hh h2 h3⟩
    .exact h.elim
   .exact h.elim
  .rename_i hx;split at h
   .rename_i hl;split at h
    .rename_i hh;split at h
     .rename_i he;obtain ⟨rfl,h1,h2,h3,h4⟩:=h;exact ⟨_,h4,TY _ _ _ _ hx h1 he hl hh h2 h3⟩
     .exact h.elim
    .exact h.elim
   .exact h.elim
  .rename_i hx;split at h
   .rename_i ho;split at h
    .rename_i hl;split at h
     .rename_i hh;split at h
      .rename_i he;obtain ⟨rfl,h1,h2,h3,h4⟩:=h;exact ⟨_,h4,Qs _ _ _ _ hx ho h1 he hl hh h2 h3⟩
      .exact h.elim
     .exact h.elim
    .exact h.elim
   .exact h.elim
  .exact h.elim
 case h_17=>
  split at h
  .rename_i hx;exact ⟨_,h,aAv _ _ hx⟩
  .exact h.elim
 case h_18=>
  split at h
  .rename_i hx;exact ⟨_,h,aAw _ _ hx⟩
  .exact h.elim
 case h_19=>
  split at h
  .rename_i hx;split at h
   .rename_i hy;obtain ⟨hkk,h⟩:=h;split at h
    .rename_i hz;exact ⟨_,h,aAy _ _ _ _ _ hx hy hkk hz⟩
    .exact h.elim
   .exact h.elim
  .rename_i hx;split at h
   .rename_i hy;obtain ⟨hle,h⟩:=h;split at h
    .rename_i hz;exact ⟨_,h,aA5 _ _ _ _ _ hx hy hz hle⟩
    .exact h.elim
   .exact h.elim
  .rename_i hx;split at h
   .rename_i hy;exact ⟨_,h.2.2,WR _ _ _ _ _ h.1 hx hy h.2.1⟩
   .exact h.elim
  .rename_i hx;split at h
   .rename_i hy;obtain ⟨h1,h2,h3,b,h4,h5⟩:=h;exact ⟨_,h5,Yr _ _ _ _ _ h1 hx hy h2 h3 h4⟩
   .exact h.elim
  .exact h.elim
 case h_20=>
  split at h
  .rename_i hx;split at h
   .rename_i hk;exact ⟨_,h.2,TZ _ _ _ hx hk h.1⟩
   .exact h.elim
  .rename_i hx;exact ⟨_,h.2.2,Ua _ _ _ hx h.2.1 h.1⟩
  .rename_i hx;split at h
   .rename_i he;obtain ⟨rfl,rfl,h1,h2,h3,bs,h4,h5⟩:=h;exact ⟨_,h5,Fv _ _ _ hx h1 h2 he h3 h4⟩
   .exact h.elim
  .rename_i hx;split at h
   .rename_i ho;split at h
    .rename_i he;obtain ⟨rfl,h1,h2,h3,bs,h4,h5⟩:=h;exact ⟨_,h5,Hl _ _ _ hx ho h2 he h1 h3 h4⟩
    .exact h.elim
   .exact h.elim
  .exact h.elim
 case h_21=>
  split at h
  .rename_i hx;exact ⟨_,h.2,WM _ _ hx h.1⟩
  .rename_i hx;exact ⟨_,h.2.2,Yo _ _ hx h.1 h.2.1⟩
  .rename_i hx;split at h
   .rename_i ho;exact ⟨_,h.2,WK _ _ hx ho h.1⟩
   .exact h.elim
  .exact h.elim
 case h_22=>
  split at h
  .rename_i he;obtain ⟨h1,h2,h⟩:=h;split at h
   .rename_i ht;split at h
    .rename_i hs;obtain ⟨h3,h4,h5⟩:=h;exact ⟨_,h5,step_append _ _ _ _ he h1 h2 ht hs h3 h4⟩
    .exact h.elim
   .exact h.elim
  .exact h.elim
 case h_23=>
  split at h
  .rename_i hf;split at h
   .rename_i h1;obtain ⟨r,h2,h3⟩:=h;exact ⟨_,h3,E8 _ _ _ hf h1 h2⟩
   .obtain ⟨r,h2,h3⟩:=h;exact ⟨_,h3,Yi _ _ _ hf h2⟩
  .exact h.elim
 case h_24=>
  split at h
  .rename_i hx;obtain ⟨ob,ho⟩:=IZ h.1;exact ⟨_,h.2,WT _ hx ho⟩
  .rename_i hx;exact ⟨_,h.2,Ud _ hx h.1⟩
  .exact h.elim
 case h_25=>exact h.elim
theorem Qu {P:Program} [aC P] {B:gV P} {o:Oper} {s:AS} {K:AS->Prop} (h:Uc P o s K):∃s',K s'/\Step P B o s s':=by
 obtain ⟨dst,op,ty,pos,after,gd⟩:=o;unfold Uc at h;dsimp only at h;split at h
 .split at h
  .rename_i he;exact ⟨_,h.2,aA6 _ he h.1⟩
  .exact h.elim
 .exact h.elim
def AV.iG:AV->Bool
 | .int _ _=>true
 | .bool _=>true
 | .str _=>true
 |_=>false
def sW (w:World) (O:Nat->Prop):Env:=⟨λb=>b < w.heap.size/\¬O b,λ_=>True,λ_ _=>False,λ_ _ _=>False,λ_ _ _ _ _=>False⟩
def OkM (P:Program) [aC P] (f:FuncId) (x x':AV) (rest:List AV) (r:AV):Prop:=
 ∀(w:World) (v:Value) (vs:List Value) (fp:List Nat),aC.holds P w->(∀b∈fp,aC.low P<=b)->R w (sW w (· ∈fp)) x v fp->fp.Nodup->(∀b∈fp,b < w.heap.size)->Rc w (sW w (· ∈fp)) rest vs []->
  Calls P f (v::vs).toArray w λe w'=>∃u BS,e= .returned u/\R w' nH r u []/\R w' nH x' v BS/\BS.Nodup/\
   (∀b∈BS,(b∈fp\/w.heap.size<=b)/\b < w'.heap.size)/\w.heap.size<=w'.heap.size/\(∀b,b < w.heap.size->b∉fp->w'.heap[b]? =w.heap[b]?)/\oD w w'
mutual
def mt (o:List aN):AV->AV->Bool
 | .obj i _,.sl .own n _=>match o[i]? with
  |some ob=>decide (ob.n=n)
  |none=>false
 | .agg c,.agg c'=>mtc o c c'
 | .int _ _,x=>x.iG
 | .bool _,x=>x.iG
 | .str _,x=>x.iG
 |_,_=>false
def mtc (o:List aN):List AV->List AV->Bool
 |[],[]=>true
 |x::xs,y::ys=>mt o x y&&mtc o xs ys
 |_,_=>false
end
mutual
def Ea:AV->AV->List (Nat×List (List AV))
 | .obj i _,.sl _ _ rows=>[(i,rows)]
 | .agg c,.agg c'=>Fy c c'
 |_,_=>[]
def Fy:List AV->List AV->List (Nat×List (List AV))
 |x::xs,y::ys=>Ea x y++Fy xs ys
 |_,_=>[]
end
theorem Ml {w:World} {E:Env} {x:AV} {v:Value} {fp:List Nat} (hx:x.iG=true) (h:R w E x v fp):fp=[]:=by cases x<;>simp only [AV.iG] at hx<;>first|(cases hx;done)|(simp only [R] at h;exact h.2)
structure Part where
  i : Nat
  rows : List (List AV)
  fp : List Nat
def aA9 (o:List aN) (G:List CO) (w':World) (p:Part):Prop:=
 ∃ob g,look o G p.i ob g/\ob.live=true/\ob.box=false/\wF w' nH ob.n p.rows g.a g.cap p.fp/\p.rows.length=ob.eQ.length
def rD (L:List Part):List Nat:=L.flatMap (·.fp)
mutual
theorem xm {P:Program} [aC P] {B:gV P} {s:AS} {G:List CO} {w w':World}:∀(x x':AV) (v:Value) (BS:List Nat),jR s.o x=true->mt s.o x x'=true->R w (env B s.o G w) x v []->R w' nH x' v BS->
  ∃L:List Part,L.map (·.i)=lT x/\Ea x x'=L.map (λp=>(p.i,p.rows))/\BS=rD L/\∀p∈L,aA9 s.o G w' p
 | .obj i cZ,.sl .own n rows,v,BS,ho,hm,h,h'=>by
  cases wG:AV.isObj s.o i cZ with
  |none=>simp [jR,wG] at ho
  |some ob=>simp only [jR,wG] at ho;simp only [R] at h;obtain ⟨_,fZ,g,hl,_,hh,_⟩:=h;obtain ⟨h1,h2,h3⟩:=lC wG;obtain rfl:=cQ (hl.1.symm.trans h1);have hv:=hh h2 h3;obtain ⟨a,cap,hv',hown⟩:=wB.1 h';rw [hv] at hv';simp only [Value.slice.injEq] at hv';obtain ⟨rfl,hlen,rfl⟩:=hv';simp only [mt,h1,fR] at hm;refine ⟨[⟨i,rows,BS⟩],rfl,rfl,by simp [rD],?_⟩;intro p hp;simp at hp;subst hp;exact ⟨_,g,hl,h2,by simpa using ho,by rw [hm];exact hown,hlen.symm⟩
 | .agg c,.agg c',v,BS,ho,hm,h,h'=>by
  simp only [R] at h h';obtain ⟨cs,rfl,_,hr⟩:=h;obtain ⟨cs',hv,_,hr'⟩:=h';have:cs=cs':=by simpa using hv
  subst this;obtain ⟨L,h1,h2,h3,h4⟩:=Yu c c' cs BS (by simpa [jR] using ho) (by simpa [mt] using hm) hr hr';exact ⟨L,by simpa [lT] using h1,by simpa [Ea] using h2,h3,h4⟩
 | .int _ _,x',v,BS,_,hm,_,h'=>⟨[],rfl,by simp [Ea],by simpa [rD] using Ml (by simpa [mt] using hm) h',by simp⟩
 | .bool _,x',v,BS,_,hm,_,h'=>⟨[],rfl,by simp [Ea],by simpa [rD] using Ml (by simpa [mt] using hm) h',by simp⟩
 | .str _,x',v,BS,_,hm,_,h'=>⟨[],rfl,by simp [Ea],by simpa [rD] using Ml (by simpa [mt] using hm) h',by simp⟩
 | .sl _ _ _,_,_,_,_,hm,_,_=>by simp [mt] at hm
 | .fA _ _ _,_,_,_,_,hm,_,_=>by simp [mt] at hm
 | .ptr _ _ _ _,_,_,_,_,hm,_,_=>by simp [mt] at hm
 | .gZ _,_,_,_,_,hm,_,_=>by simp [mt] at hm
 | .fn _ _,_,_,_,_,hm,_,_=>by simp [mt] at hm
 | .undef,_,_,_,_,hm,_,_=>by simp [mt] at hm
 | .obj _ _,.sl .view _ _,_,_,_,hm,_,_=>by simp [mt] at hm
 | .obj _ _,.sl (.kG _) _ _,_,_,_,hm,_,_=>by simp [mt] at hm
 | .obj _ _,.int _ _,_,_,_,hm,_,_=>by simp [mt] at hm
 | .obj _ _,.bool _,_,_,_,hm,_,_=>by simp [mt] at hm
 | .obj _ _,.str _,_,_,_,hm,_,_=>by simp [mt] at hm
 | .obj _ _,.fA _ _ _,_,_,_,hm,_,_=>by simp [mt] at hm
 | .obj _ _,.obj _ _,_,_,_,hm,_,_=>by simp [mt] at hm
 | .obj _ _,.ptr _ _ _ _,_,_,_,hm,_,_=>by simp [mt] at hm
 | .obj _ _,.agg _,_,_,_,hm,_,_=>by simp [mt] at hm
 | .obj _ _,.gZ _,_,_,_,hm,_,_=>by simp [mt] at hm
 | .obj _ _,.fn _ _,_,_,_,hm,_,_=>by simp [mt] at hm
 | .obj _ _,.undef,_,_,_,hm,_,_=>by simp [mt] at hm
 | .agg _,.sl _ _ _,_,_,_,hm,_,_=>by simp [mt] at hm
 | .agg _,.int _ _,_,_,_,hm,_,_=>by simp [mt] at hm
 | .agg _,.bool _,_,_,_,hm,_,_=>by simp [mt] at hm
 | .agg _,.str _,_,_,_,hm,_,_=>by simp [mt] at hm
 | .agg _,.fA _ _ _,_,_,_,hm,_,_=>by simp [mt] at hm
 | .agg _,.obj _ _,_,_,_,hm,_,_=>by simp [mt] at hm
 | .agg _,.ptr _ _ _ _,_,_,_,hm,_,_=>by simp [mt] at hm
 | .agg _,.gZ _,_,_,_,hm,_,_=>by simp [mt] at hm
 | .agg _,.fn _ _,_,_,_,hm,_,_=>by simp [mt] at hm
 | .agg _,.undef,_,_,_,hm,_,_=>by simp [mt] at hm
theorem Yu {P:Program} [aC P] {B:gV P} {s:AS} {G:List CO} {w w':World}:∀(c c':List AV) (cs:List Value) (BS:List Nat),mV s.o c=true->mtc s.o c c'=true->Rc w (env B s.o G w) c cs []->Rc w' nH c' cs BS->
  ∃L:List Part,L.map (·.i)=kJ c/\Fy c c'=L.map (λp=>(p.i,p.rows))/\BS=rD L/\∀p∈L,aA9 s.o G w' p
 |[],[],[],BS,_,_,_,h'=>by simp only [Rc] at h';exact ⟨[],rfl,by simp [Fy],by simp [h',rD],by simp⟩
 |[],[],_::_,_,_,_,h,_=>by simp [Rc] at h
 |[],_::_,_,_,_,hm,_,_=>by simp [mtc] at hm
 |_::_,[],_,_,_,hm,_,_=>by simp [mtc] at hm
 |_::_,_::_,[],_,_,_,h,_=>by simp [Rc] at h
 |x::xs,y::ys,c::cs,BS,ho,hm,h,h'=>by
  simp only [Rc] at h h';obtain ⟨g1,g2,h1,h2,e⟩:=h;obtain ⟨rfl,rfl⟩:g1=[]/\g2=[]:=by simpa using e
  obtain ⟨f1,f2,h1',h2',rfl⟩:=h';simp only [mV,eJ] at ho;simp only [mtc,eJ] at hm;obtain ⟨L1,a1,a2,rfl,a4⟩:=xm x y c f1 ho.1 hm.1 h1 h1';obtain ⟨L2,b1,b2,rfl,b4⟩:=Yu xs ys cs f2 ho.2 hm.2 h2 h2';refine ⟨L1++L2,by simp [kJ,a1,b1],by simp [Fy,a2,b2],by simp [rD],?_⟩;intro p hp;rcases fL.1 hp with hp|hp
  .exact a4 p hp
  .exact b4 p hp
end
def jV (u:List Nat):Tg->Option Tg
 | .own=>none
 | .view=>some .view
 | .kG i=>if i∈u then none else some (.kG i)
def AV.nd:AV->Bool
 | .int _ _=>true
 | .bool _=>true
 | .str _=>true
 | .sl .own _ _=>true
 | .obj _ _=>true
 | .ptr _ _ _ _=>true
 |_=>false
theorem aQw {w:World} {E:Env} {D:Nat->Nat->Prop} {x:AV} {v:Value} {fp:List Nat} (hx:x.nd=true) (h:R w E x v fp):R w {E with D:=D} x v fp:=by
 cases x with
 |int _ _=>simpa [R] using h
 |bool _=>simpa [R] using h
 |str _=>simpa [R] using h
 |sl g n l=>
  cases g with
  |own=>obtain ⟨a,cap,hv,hown⟩:=wB.1 h;exact wB.2 ⟨a,cap,hv,hown⟩
  |_=>cases hx
 |obj _ _=>simp only [R] at h⊢;exact h
 |ptr _ _ _ _=>simp only [R] at h⊢;exact h
 |_=>cases hx
theorem aIk {w:World} {E:Env} {D:Nat->Nat->Prop}:∀{c:List AV} {cs:List Value} {fp:List Nat},c.all AV.nd=true->Rc w E c cs fp->Rc w {E with D:=D} c cs fp
 |[],[],_,_,h=>h
 |[],_::_,_,_,h=>by simp [Rc] at h
 |_::_,[],_,_,h=>by simp [Rc] at h
 |x::xs,c::cs,fp,hp,h=>by simp only [Rc] at h⊢;simp only [CN,eJ] at hp;obtain ⟨f1,f2,h1,h2,h3⟩:=h;exact ⟨f1,f2,aQw hp.1 h1,aIk hp.2 h2,h3⟩
theorem aBa {w:World} {E:Env} {D:Nat->Nat->Prop}:∀{l:List (List AV)} {b off n:Nat} {fp:List Nat},(l.all λr=>r.all AV.nd)=true->Rr w E l b off n fp->Rr w {E with D:=D} l b off n fp
 |[],_,_,_,_,_,h=>h
 |e::es,b,off,n,fp,hp,h=>by simp only [Rr] at h⊢;simp only [CN,eJ] at hp;obtain ⟨cs,f1,f2,h1,h2,h3,h4,h5,h6⟩:=h;exact ⟨cs,f1,f2,h1,h2,h3,aIk hp.1 h4,aBa hp.2 h5,h6⟩
def Eb (l:List (List AV)):Bool:=l.all λr=>r.all AV.nd
theorem jf:Eb []=true:=rfl
theorem Yv (r:List AV) (l:List (List AV)):Eb (r::l)=(r.all AV.nd&&Eb l):=rfl
theorem jg {l:List (List AV)} {k:Nat} {r:List AV} (h:Eb l=true) (hr:r.all AV.nd=true):Eb (l.set k r)=true:=by
 unfold Eb at *;rw [fW] at h⊢;intro x hx;rcases mem_or_eq_of_mem_set hx with hx|rfl
 .exact h x hx
 .exact hr
def aN.forget (ob:aN) (u:List Nat):aN:=
 if ob.box then (if Eb ob.eQ=true then ob else {ob with eQ:=mM (jV u) true ob.eQ}) else ob
theorem nL (ob:aN) (u:List Nat):(ob.forget u).live=ob.live:=by unfold aN.forget;split<;>(try split)<;>rfl
theorem Qv (ob:aN) (u:List Nat):(ob.forget u).cZ=ob.cZ:=by unfold aN.forget;split<;>(try split)<;>rfl
theorem Qw (ob:aN) (u:List Nat):(ob.forget u).box=ob.box:=by unfold aN.forget;split<;>(try split)<;>rfl
theorem Yw (ob:aN) (u:List Nat):(ob.forget u).n=ob.n:=by unfold aN.forget;split<;>(try split)<;>rfl
theorem Qx (ob:aN) (u:List Nat):(ob.forget u).eQ.length=ob.eQ.length:=by unfold aN.forget;split<;>(try split)<;>simp [lV]
def aN.aJw (ob:aN) (N:List (Nat×List (List AV))) (u:List Nat) (i:Nat):aN:=
 match N.find? (λp=>p.1 == i) with
 |some p=>{ob with eQ:=p.2}
 |none=>ob.forget u
def Qy (N:List (Nat×List (List AV))) (u:List Nat):Nat->List aN->List aN
 |_,[]=>[]
 |i,ob::r=>ob.aJw N u i::Qy N u (i+1) r
theorem Yx (N:List (Nat×List (List AV))) (u:List Nat):∀(o:List aN) (k i:Nat),(Qy N u k o)[i]? =(o[i]?).map λob=>ob.aJw N u (k+i)
 |[],_,_=>by simp [Qy]
 |ob::r,k,0=>by simp [Qy]
 |ob::r,k,i+1=>by simp only [Qy,tU];rw [Yx N u r (k+1) i,show k+1+i=k+(i+1) by omega]
def AS.WU (s:AS) (d:Option Tmp) (x x' r:AV):AS:=
 AS.put ⟨xM (jV (lT x)) true s.t,Qy (Ea x x') (lT x) 0 s.o⟩ d r
def Ue (L:List Part):Nat->List CO->List CO
 |_,[]=>[]
 |i,g::r=>(match L.find? (λp=>p.i == i) with
  |some p=>{g with F:=λb=>b∈p.fp}
  |none=>g)::Ue L (i+1) r
theorem Yy (L:List Part):∀(G:List CO) (k i:Nat),(Ue L k G)[i]? =(G[i]?).map λg=>match L.find? (λp=>p.i == k+i) with
  |some p=>{g with F:=λb=>b∈p.fp}
  |none=>g
 |[],_,_=>by simp [Ue]
 |g::r,k,0=>by simp [Ue]
 |g::r,k,i+1=>by simp only [Ue,tU];rw [Yy L r (k+1) i,show k+1+i=k+(i+1) by omega]
theorem Fz (L:List Part):∀(G:List CO) (k:Nat),(Ue L k G).length=G.length
 |[],_=>rfl
 |g::r,k=>by simp [Ue,Fz L r]
theorem FB (N:List (Nat×List (List AV))) (u:List Nat):∀(o:List aN) (k:Nat),(Qy N u k o).length=o.length
 |[],_=>rfl
 |g::r,k=>by simp [Qy,FB N u r]
theorem Qz {w w':World} {E E':Env} {x:AV} {v:Value} (hx:x.iG=true) (h:R w E x v []):R w' E' x v []:=by cases x<;>simp only [AV.iG] at hx<;>first|(cases hx;done)|(simp only [R] at h⊢;exact h)
@[simp] def AV.QA:AV->Bool
 | .fn _ []=>true
 |x=>x.iG
theorem jh {w w':World} {E E':Env} {x:AV} {v:Value} (hx:x.QA=true) (h:R w E x v []):R w' E' x v []:=by
 unfold AV.QA at hx;split at hx
 .simp only [R] at h⊢;obtain ⟨e,cs,h1,h2⟩:=h;exact ⟨e,cs,h1,by cases cs<;>simp_all [Rc]⟩
 .exact Qz hx h
theorem PN {L:List Part} {b:Nat}:b∈rD L↔∃p∈L,b∈p.fp:=by simp [rD]
theorem Vd:∀{L:List Part},(rD L).Nodup->∀p∈L,∀q∈L,∀b,b∈p.fp->b∈q.fp->p=q
 |[],_,p,hp,_,_,_,_,_=>by cases hp
 |x::L,h,p,hp0,q,hq0,b,hbp,hbq=>by
  simp only [rD,flatMap_cons,gR] at h;rcases lE.1 hp0 with e1|hp<;>rcases lE.1 hq0 with e2|hq
  .rw [e1,e2]
  .exact absurd rfl (h.2.2 b (e1▸hbp) b (Fk.2 ⟨q,hq,hbq⟩))
  .exact absurd rfl (h.2.2 b (e2▸hbq) b (Fk.2 ⟨p,hp,hbp⟩))
  .exact Vd h.2.1 p hp q hq b hbp hbq
theorem Yz:∀{L:List Part},(rD L).Nodup->∀p∈L,p.fp.Nodup
 |[],_,p,hp=>by cases hp
 |x::L,h,p,hp=>by
  simp only [rD,flatMap_cons,gR] at h;rcases lE.1 hp with rfl|hp
  .exact h.1
  .exact Yz h.2.1 p hp
theorem aBb {o:List aN} {G:List CO} {L:List Part} {u:List Nat} {i:Nat} {fZ:aN} {g':CO} (h:look (Qy (L.map λp=>(p.i,p.rows)) u 0 o) (Ue L 0 G) i fZ g'):
  ∃ob g,look o G i ob g/\((∃p∈L,p.i=i/\fZ={ob with eQ:=p.rows}/\g'={g with F:=λb=>b∈p.fp})\/
   ((∀p∈L,p.i≠i)/\fZ=ob.forget u/\g'=g)):=by
 obtain ⟨h1,h2⟩:=h;rw [Yx,lA] at h1;rw [Yy,lA] at h2;cases ho:o[i]? with
 |none=>simp [ho] at h1
 |some ob=>
  cases hg:G[i]? with
  |none=>simp [hg] at h2
  |some g=>
   rw [ho] at h1;rw [hg] at h2;simp only [mC,eC] at h1 h2;refine ⟨ob,g,⟨ho,hg⟩,?_⟩;have hfm:(L.map λp=>(p.i,p.rows)).find? (λp=>p.1 == i)=(L.find? (λp=>p.i == i)).map λp=>(p.i,p.rows):=by rw [find?_map];rfl
   unfold aN.aJw at h1;rw [hfm] at h1;cases hf:L.find? (λp=>p.i == i) with
   |some p=>rw [hf] at h1 h2;left;exact ⟨p,oY hf,by have:=DG hf;simpa using this,h1.symm,h2.symm⟩
   |none=>rw [hf] at h1 h2;right;refine ⟨λp hp e=> ?_,h1.symm,h2.symm⟩;have:=CT.1 hf p hp;simp [e] at this
theorem aBc {o:List aN} {G:List CO} {L:List Part} {u:List Nat} {i:Nat} {ob:aN} {g:CO} (h:look o G i ob g):
  ∃fZ g',look (Qy (L.map λp=>(p.i,p.rows)) u 0 o) (Ue L 0 G) i fZ g':=by
 have h1:=(cH.1 h.1).1;have h2:=(cH.1 h.2).1;exact ⟨_,_,aE (by rw [FB];exact h1),aE (by rw [Fz];exact h2)⟩
theorem Ve {w:World} {E E':Env} {s:AS} {a:Act}:∀ys:List Operand,(ys.all λy=>(s.ev y).QA)=true->(∀y,R w E (s.ev y) (a.eval y) [])->Rc w E' (ys.map s.ev) (ys.map a.eval) []
 |[],_,_=>by simp [Rc]
 |y::ys,h,hr=>by simp only [CN,eJ] at h;simp only [mA,Rc];exact ⟨[],[],jh h.1 (hr y),Ve ys h.2 hr,rfl⟩
theorem aBd (f x0:Operand) (ys:List Operand) (X7:Array TypeId) {gf:FuncId} {x' r:AV} (hf:s.ev f= .fn gf []) (hc:aT P gf=true) (hy:(ys.all λy=>(s.ev y).QA)=true) (hr:r.iG=true\/r= .gZ []) (hx:jR s.o (s.ev x0)=true) (hu:(lT (s.ev x0)).Nodup)
  (hm:mt s.o (s.ev x0) x'=true) (nT:OkM P gf (res s.o (s.ev x0)) x' (ys.map s.ev) r):
  Step P B ⟨dst,.call {callee:= .value f,args:=⟨x0::ys⟩,argTypes:=X7},ty,pos,after,gd⟩ s (s.WU dst (s.ev x0) x' r):=by
 rintro a w next Q ⟨G,rr⟩ hn
 have h1:=rr.ev f;rw [hf] at h1;simp only [R] at h1;obtain ⟨_,cs,hv,wS⟩:=h1;have hcs:cs=[]:=by cases cs with
  |nil=>rfl
  |cons _ _=>simp [Rc] at wS
 subst hcs;obtain ⟨fp,jU,hnd,ND⟩:=Nz rr _ _ hx hu (rr.ev x0);have hlt:∀b∈fp,b < w.heap.size:=λb hb=>by obtain ⟨i,ob,g,_,hl,hlive,hF⟩:=ND b hb;exact (rr.fresh _ _ _ b hl hlive hF).2
 have kB:fK w (env B s.o G w).plain w (sW w (· ∈fp)):=⟨λb hb=>⟨⟨wR rr hb,λhm=>by
   obtain ⟨i,ob,g,_,hl,hlive,hF⟩:=ND b hm;exact hb.2 i ob g hl hlive hF⟩,rfl⟩,λ_ _=>trivial,λ_ _ _ h=>h.elim,λ_ _ _ h=>h.elim,λ_ _ _ _ _ h=>h.elim⟩
 have hab:∀b∈fp,aC.low P<=b:=λb hb=>by obtain ⟨i,ob,g,_,hl,hlive,hF⟩:=ND b hb;exact rr.Yc (rr.fresh _ _ _ b hl hlive hF).1
 have Yh:=nT w (a.eval x0) (ys.map a.eval) fp rr.holds hab (pR kB _ _ _ (λ_ _=>rfl) jU) hnd hlt (Ve ys hy λy=>rr.ev y);unfold Oper.wp;have hrun:(execOp a.eval ⟨dst,.call {callee:= .value f,args:=⟨x0::ys⟩,argTypes:=X7},ty,pos,after,gd⟩).run P w= .ok (.enter gf (a.eval x0::ys.map a.eval).toArray) w:=by simp [execOp,resolve,hv,Deferred.ofValue,invoke,DY hc]
 rw [hrun,Oper.upon_enter];refine Yh.mono λe w' h=> ?_
 obtain ⟨v,BS,rfl,WJ,hxr,hnd',hfr,hsz,nU,Fg⟩:=h;refine hn _ _ ?_;obtain ⟨L,hLi,hN,rfl,hL⟩:=xm (s.ev x0) x' _ BS hx hm (rr.ev x0) hxr;have hus:∀i,i∈lT (s.ev x0)↔∃p∈L,p.i=i:=λi=>by rw [<-hLi];simp
 unfold AS.WU;rw [hN];generalize huu:lT (s.ev x0)=u at *;generalize ho':Qy (L.map λp=>(p.i,p.rows)) u 0 s.o=o';generalize hG':Ue L 0 G=G';have lk:∀{i fZ g'},look o' G' i fZ g'->∃ob g,look s.o G i ob g/\((∃p∈L,p.i=i/\fZ={ob with eQ:=p.rows}/\g'={g with F:=λb=>b∈p.fp})\/
   ((∀p∈L,p.i≠i)/\fZ=ob.forget u/\g'=g)):=λh=>aBb (by rw [ho',hG'];exact h)
 have kl:∀{i ob g},look s.o G i ob g->∃fZ g',look o' G' i fZ g'/\fZ.live=ob.live/\fZ.cZ=ob.cZ/\fZ.n=ob.n/\g'.a=g.a/\g'.cap=g.cap/\fZ.eQ.length=ob.eQ.length/\((∀p∈L,p.i≠i)->g'=g)/\fZ.box=ob.box:=by
  intro i ob g h;obtain ⟨fZ,g',h'⟩:=aBc (L:=L) (u:=u) h;rw [ho',hG'] at h';refine ⟨fZ,g',h',?_⟩;obtain ⟨ob2,g2,h2,hcase⟩:=lk h';obtain ⟨rfl,rfl⟩:=nK h h2;rcases hcase with ⟨p,hp,rfl,rfl,rfl⟩|⟨Dc,rfl,rfl⟩
  .obtain ⟨ob3,g3,F8,_,_,_,hlen⟩:=hL p hp;obtain ⟨rfl,rfl⟩:=nK h F8;exact ⟨rfl,rfl,rfl,rfl,rfl,hlen,λhn=>absurd rfl (hn p hp),rfl⟩
  .exact ⟨nL _ _,Qv _ _,Yw _ _,rfl,rfl,Qx _ _,λ_=>rfl,Qw _ _⟩
 have fpF:∀b∈fp,∀i ob g,look s.o G i ob g->ob.live=true->g.F b->i∈u:=λb hb i ob g hl hlive hF=>by obtain ⟨j,oj,gj,hj,hlj,hjl,WQ⟩:=ND b hb;have:=rr.apart i j _ _ _ _ b hl hlj hlive hjl hF WQ;rw [this];exact hj
 have FC:∀i ob g b,look s.o G i ob g->ob.live=true->g.F b->i∉u->w'.heap[b]? =w.heap[b]?:=λi ob g b hl hlive hF hiu=>
  nU b (rr.fresh _ _ _ b hl hlive hF).2 (λhm=>hiu (fpF b hm i ob g hl hlive hF))
 have noU:∀i,i∉u->∀p∈L,p.i≠i:=λi hi p hp e=>hi ((hus i).2 ⟨p,hp,e⟩)
 let Er:Env:={env B s.o G w with D:=λi b=>i∉u/\(env B s.o G w).D i b}
 have rt1:nJ (jV u) true (env B s.o G w) Er (λ_=>True):=by
  refine ⟨λt e=>by simp [jV] at e,λt e=>by simp only [jV,eC] at e;exact ⟨e.symm,λb hb=>hb⟩,λi t e=> ?_,λ_ _ _ _ h=>h,λ_ _ _ _ _ _ h=>h⟩;simp only [jV] at e;split at e
  .cases e
  .rename_i hiu;obtain rfl:=cQ e;refine ⟨by simp,?_,λb hb=>⟨hiu,hb⟩⟩;by_cases hV:(env B s.o G w).V i
   .exact .inl hV
   .exact .inr hV
 have k2:fK w Er w' (env B o' G' w'):=by
  refine ⟨λb hb=> ?_,λi h ob wG=> ?_,λi b hV h=> ?_,λi cZ x h=> ?_,λi cZ j q x h=> ?_⟩
  .have hb':(env B s.o G w).A b:=hb;have hbl:=wR rr hb';have hnf:b∉fp:=λhm=>by
    obtain ⟨i,ob,g,_,hl,hlive,hF⟩:=ND b hm;exact hb'.2 i ob g hl hlive hF
   refine ⟨⟨?_,λi fZ g' hl hlive hF=> ?_⟩,nU b hbl hnf⟩
   .rcases hb'.1 with h|h
    .exact .inl h
    .exact .inr ⟨h.1,by omega⟩
   .obtain ⟨ob,g,hl0,⟨p,hp,_,rfl,rfl⟩|⟨_,rfl,rfl⟩⟩:=lk hl
    .have:=hfr b (PN.2 ⟨p,hp,hF⟩);rcases this.1 with h|h
     .exact hnf h
     .omega
    .refine hb'.2 i ob g' hl0 ?_ hF;rw [nL] at hlive;exact hlive
  .have hi:i < G.length:=by rw [rr.len];exact (cH.1 wG).1
   obtain ⟨fZ,g',hl,h1,_⟩:=kl (i:=i) (ob:=ob) (g:=G[i]) ⟨wG,aE hi⟩;rw [<-h1];exact h fZ hl.1
  .obtain ⟨hiu,ob,g,hl,hlive,hF,hne⟩:=h;obtain ⟨fZ,g',BZ,h1,_,_,_,_,_,h7,_⟩:=kl hl;obtain rfl:=h7 (noU i hiu);exact ⟨⟨fZ,g',BZ,by rw [h1];exact hlive,hF,hne⟩,FC i ob g' b hl hlive hF hiu⟩
  .obtain ⟨ob,g,hl,DU,hh,hz⟩:=h;obtain ⟨fZ,g',BZ,h1,h2,h3,h4,h5,h6,_⟩:=kl hl;exact ⟨fZ,g',BZ,by omega,λhlive WC=>by rw [h4,h5,h6];exact hh (by rw [<-h1];exact hlive) (by omega),hz⟩
  .obtain ⟨ob,g,hl,DU,hh,hz⟩:=h;obtain ⟨fZ,g',BZ,h1,h2,h3,h4,h5,h6,_,h8⟩:=kl hl;exact ⟨fZ,g',BZ,by omega,λhlive WC=>by rw [h4,h3];exact hh (by rw [<-h1];exact hlive) (by omega),λe e2 e3 e4 y hy=>⟨(hz (by rw [<-h8];exact e) e2 e3 e4 y hy).1,λhlive WC=>by rw [h5];exact (hz (by rw [<-h8];exact e) e2 e3 e4 y hy).2 (by rw [<-h1];exact hlive) (by omega)⟩⟩
 have tm:Rc w' (env B o' G' w') (xM (jV u) true s.t) a.tmps.toList []:=
  fB k2 _ _ _ (by simp) (yN rt1 _ _ _ (by simp) rr.tmps)
 have kn:fK w' nH w' (env B o' G' w').plain:=⟨λ_ h=>h.elim,λ_ _=>trivial,λ_ _ _ h=>h.elim,λ_ _ _ h=>h.elim,λ_ _ _ _ _ h=>h.elim⟩;have rel:eF B ⟨xM (jV u) true s.t,o'⟩ G' a w':=by
  refine {len:=by rw [<-hG',<-ho',Fz,FB];exact rr.len,defs:=rr.defs,ok:= ?_,apart:= ?_,fresh:= ?_,tmps:=tm,size:=hM rr.size hsz,frame:= ?_,base:=rr.base,same:=rr.same.trans Fg}
  .intro i fZ g' hl hlive;obtain ⟨ob,g,hl0,⟨p,hp,rfl,rfl,rfl⟩|⟨Dc,rfl,rfl⟩⟩:=lk hl
   .obtain ⟨ob3,g3,F8,_,JN,hown,hlen⟩:=hL p hp;obtain ⟨rfl,rfl⟩:=nK hl0 F8;refine ⟨p.fp,?_,Yz hnd' p hp,λb hb=>hb⟩;simp only [JN,Env.of,eS,hH];exact hown.keeps kn (λ_ _=>rfl)
   .have hiu:i∉u:=λh=>by
     obtain ⟨p,hp,e⟩:=(hus i).1 h;exact Dc p hp e
    rw [nL] at hlive;obtain ⟨fpo,hown,IY,PM⟩:=rr.ok i ob g' hl0 hlive;by_cases JN:ob.box=true
    .simp only [JN,Env.of,gO] at hown;obtain ⟨hlen,hown⟩:=hown;by_cases hall:Eb ob.eQ=true
     .have hfo:ob.forget u=ob:=by unfold aN.forget;simp [JN,hall]
      rw [hfo];refine ⟨fpo,?_,IY,PM⟩;simp only [JN,Env.of,gO];refine ⟨hlen,?_⟩;rcases hown with h|⟨b,off,C,e,fz,aBf,ha,hb,hz,h1,h2,h3,rfl,ji⟩
      .exact .inl h
      .have hbs:=FC i ob g' b hl0 hlive (PM b (by simp)) hiu;exact .inr ⟨b,off,C,e,fz,aBf,ha,by rw [hbs];exact hb,hz,h1,h2,h3,rfl,oI k2 _ _ _ _ _ hbs (λx hx=>FC i ob g' x hl0 hlive (PM x (by simp [hx])) hiu) (aBa hall ji)⟩
     .have hfo:ob.forget u={ob with eQ:=mM (jV u) true ob.eQ}:=by unfold aN.forget;rw [eI JN,cX hall]
      rw [hfo];rcases hown with ⟨h1,h2,h3⟩|⟨b,off,C,e,fz,aBf,ha,hb,hz,h1,h2,h3,rfl,ji⟩
      .exact ⟨[],⟨by simp [lV];exact hlen,.inl ⟨by simp [h1,mM],h2,rfl⟩⟩,by simp,by simp⟩
      .have UZ:=PM b (by simp);have hbs:=FC i ob g' b hl0 hlive UZ hiu;refine ⟨[b],⟨by simp [lV];exact hlen,.inr ⟨b,off,C,e,fz,[],ha,by rw [hbs];exact hb,hz,h1,by simpa [lV] using h2,h3,rfl,?_⟩⟩,by simp,by simpa using UZ⟩;simp only [JN,Env.of,gO];exact oI k2 _ _ _ _ _ hbs (by simp) (HV rt1 _ _ _ _ _ (by simp) ji)
    .have aBg:ob.box=false:=by simpa using JN
     have hfo:ob.forget u=ob:=by unfold aN.forget;simp [aBg]
     rw [hfo];refine ⟨fpo,?_,IY,PM⟩;simp only [aBg,Env.of,eS,hH] at hown⊢;have kp:fK w (env B s.o G w).plain w' (env B o' G' w').plain:=k2.plain;exact hown.keeps kp (λb hb=>FC i ob g' b hl0 hlive (PM b hb) hiu)
  .intro i j oi oj gi gj b hi hj hil hjl Fp OG;obtain ⟨ob1,g1,hl1,c1⟩:=lk hi;obtain ⟨ob2,g2,hl2,c2⟩:=lk hj;have lv:∀{k:Nat} {ob fZ:aN} {g g':CO},((∀p∈L,p.i≠k)/\fZ=ob.forget u/\g'=g)->fZ.live=true->ob.live=true:=by rintro k ob fZ g g' ⟨_,rfl,_⟩ h;rw [nL] at h;exact h
   rcases c1 with ⟨p,hp,hpi,rfl,rfl⟩|c1<;>rcases c2 with ⟨q,hq,hqi,rfl,rfl⟩|c2
   .have:=Vd hnd' p hp q hq b Fp OG;rw [<-hpi,<-hqi,this]
   .exfalso;have aJz:=lv c2 hjl;have F4:g2.F b:=by rw [<-c2.2.2];exact OG
    rcases (hfr b (PN.2 ⟨p,hp,Fp⟩)).1 with h|h
    .have:=fpF b h j ob2 g2 hl2 aJz F4;obtain ⟨q,hq,e⟩:=(hus j).1 this;exact c2.1 q hq e
    .have:=(rr.fresh _ _ _ b hl2 aJz F4).2;omega
   .exfalso;have aJ0:=lv c1 hil;have hF1:g1.F b:=by rw [<-c1.2.2];exact Fp
    rcases (hfr b (PN.2 ⟨q,hq,OG⟩)).1 with h|h
    .have:=fpF b h i ob1 g1 hl1 aJ0 hF1;obtain ⟨p,hp,e⟩:=(hus i).1 this;exact c1.1 p hp e
    .have:=(rr.fresh _ _ _ b hl1 aJ0 hF1).2;omega
   .refine rr.apart i j _ _ _ _ b hl1 hl2 (lv c1 hil) (lv c2 hjl) ?_ ?_
    .rw [<-c1.2.2];exact Fp
    .rw [<-c2.2.2];exact OG
  .intro i fZ g' b hl hlive hF;obtain ⟨ob,g,hl0,⟨p,hp,rfl,rfl,rfl⟩|⟨Dc,rfl,rfl⟩⟩:=lk hl
   .have:=hfr b (PN.2 ⟨p,hp,hF⟩);refine ⟨?_,this.2⟩;rcases this.1 with h|h
    .obtain ⟨j,oj,gj,_,hlj,hjl,WQ⟩:=ND b h;exact (rr.fresh _ _ _ b hlj hjl WQ).1
    .exact .inr (hM rr.size h)
   .have xP:ob.live=true:=by rw [nL] at hlive;exact hlive
    have:=rr.fresh _ _ _ b hl0 xP hF;exact ⟨this.1,by omega⟩
  .intro b hb hO;rw [<-rr.frame b hb hO];refine nU b (oT hb rr.size) (λhm=> ?_);obtain ⟨j,oj,gj,_,hlj,hjl,WQ⟩:=ND b hm;rcases (rr.fresh _ _ _ b hlj hjl WQ).1 with h|h
   .exact hO h
   .omega
 exact ⟨G',rel.put dst (by
  rcases hr with hr|rfl
  .exact Qz hr WJ
  .simp only [R] at WJ⊢;obtain ⟨cs,e1,e2⟩:=WJ;cases cs with
   |nil=>exact ⟨[],e1,by simp [Rc]⟩
   |cons c cs=>simp [Rc] at e2)⟩
inductive GA where
  | view (x : AV)
  | oK (x : AV)
  | tY (c c' : List AV)
def RG (w:World) (O:Nat->Prop):GA->Value->List Nat->Nat->Prop
 | .view x,v,fp,_=>fp=[]/\R w (sW w O) x v []
 | .oK x,v,fp,_=>R w (sW w O) x v fp
 | .tY c _,v,fp,cap=>∃b f,v= .pointer (some ⟨b,f,none⟩)/\wF w (sW w O) c.length [c] (some ⟨b,f,none⟩) cap fp
def Ec (w:World) (O:Nat->Prop):List GA->List Value->List (List Nat)->List Nat->Prop
 |[],[],[],[]=>True
 |x::xs,v::vs,fp::fs,k::ks=>RG w O x v fp k/\Ec w O xs vs fs ks
 |_,_,_,_=>False
def RP (w:World):GA->Value->List Nat->Nat->Prop
 | .tY c c',v,fp,cap=>∃b f,v= .pointer (some ⟨b,f,none⟩)/\wF w nH c.length [c'] (some ⟨b,f,none⟩) cap fp
 |_,_,fp,_=>fp=[]
def TR (w:World):List GA->List Value->List (List Nat)->List Nat->Prop
 |[],[],[],[]=>True
 |x::xs,v::vs,fp::fs,k::ks=>RP w x v fp k/\TR w xs vs fs ks
 |_,_,_,_=>False
def Ma (P:Program) [aC P] (f:FuncId) (args:List GA) (r:AV):Prop:=
 ∀(w:World) (vs:List Value) (uF:List (List Nat)) (jF:List Nat),aC.holds P w->(∀b∈uF.flatten,aC.low P<=b/\b < w.heap.size)->uF.flatten.Nodup->Ec w (· ∈uF.flatten) args vs uF jF->
  Calls P f vs.toArray w λe w'=>∃v fp BX,e= .returned v/\R w' nH r v fp/\TR w' args vs BX jF/\(BX.flatten++fp).Nodup/\
   (∀b∈BX.flatten++fp,(b∈uF.flatten\/w.heap.size<=b)/\b < w'.heap.size)/\w.heap.size<=w'.heap.size/\(∀b,b < w.heap.size->b∉uF.flatten->w'.heap[b]? =w.heap[b]?)/\oD w w'
mutual
def QB (u:List Nat):AV->Bool
 | .obj i _=> !u.contains i
 | .ptr i _ _ _=> !u.contains i
 | .sl (.kG i) _ _=> !u.contains i
 | .fA (.kG i) _ _=> !u.contains i
 | .agg c=>QC u c
 | .gZ c=>QC u c
 | .fn _ c=>QC u c
 |_=>true
def QC (u:List Nat):List AV->Bool
 |[]=>true
 |x::xs=>QB u x&&QC u xs
end
section
variable {P : Program} [aC P] {B : gV P} {s : AS} {G : List CO} {a : Act} {w : World}
theorem YA (r:eF B s G a w) {Z:Nat->Prop} {u:List Nat} (hZ:∀b,Z b->Of s.o G u b) {b:Nat} (h:(env B s.o G w).A b):b < w.heap.size/\¬Z b:=
 ⟨wR r h,λhz=>by
  obtain ⟨i,ob,g,_,hl,hlive,hF⟩:=hZ b hz;exact h.2 i ob g hl hlive hF⟩
theorem xn (r:eF B s G a w) {Z:Nat->Prop} {u:List Nat} (hZ:∀b,Z b->Of s.o G u b) {i:Nat} {ob:aN} {g:CO} (hl:look s.o G i ob g) (hlive:ob.live=true) (hi:i∉u) {b:Nat} (h:g.F b):b < w.heap.size/\¬Z b:=
 ⟨(r.fresh _ _ _ b hl hlive h).2,λhz=>by
  obtain ⟨j,oj,gj,hj,hlj,hjl,hF⟩:=hZ b hz;exact hi (r.apart i j _ _ _ _ b hl hlj hlive hjl h hF▸hj)⟩
theorem Mm (r:eF B s G a w) {Z:Nat->Prop} {u:List Nat} (hZ:∀b,Z b->Of s.o G u b) (O:Nat->Prop) (hO:∀b,O b->b < w.heap.size/\¬Z b):nJ (λ_=>some .view) false (env B s.o G w).plain (sW w Z) O where
 own t e:=by obtain rfl:=cQ e;exact ⟨by simp,λb hb=>hO b hb⟩
 view t e:=by obtain rfl:=cQ e;exact ⟨rfl,λb hb=>YA r hZ hb⟩
 kG i t e:=by obtain rfl:=cQ e;exact ⟨by simp,.inl trivial,λb hb=>hb.elim⟩
 hh h:=by cases h
 hl h:=by cases h
theorem YB (r:eF B s G a w) {Z:Nat->Prop} {u:List Nat} (hZ:∀b,Z b->Of s.o G u b) (box:Bool) (O:Nat->Prop) (hO:∀b,O b->b < w.heap.size/\¬Z b):nJ IV false ((env B s.o G w).of box) (sW w Z) O where
 own t e:=by obtain rfl:=cQ e;exact ⟨by simp,λb hb=>hO b hb⟩
 view t e:=by obtain rfl:=cQ e;exact ⟨rfl,λb hb=>YA r hZ (by cases box<;>exact hb)⟩
 kG i t e:=by cases e
 hh h:=by cases h
 hl h:=by cases h
theorem WV (r:eF B s G a w) {Z:Nat->Prop} {u:List Nat} (hZ:∀b,Z b->Of s.o G u b) (g:Tg) (hg:∀i,g= .kG i->i∉u) (O:Nat->Prop) (hO:∀b,O b->b < w.heap.size/\¬Z b):nJ (λ_=>some .view) false ((env B s.o G w).sub g) (sW w Z).plain O:=by
 cases g with
 |own=>exact Mm r hZ O hO
 |view=>exact Mm r hZ O hO
 |kG i=>exact
  {own:=λt e=>by obtain rfl:=cQ e;exact ⟨by simp,λb hb=>hO b hb⟩
   view:=λt e=>by obtain rfl:=cQ e;exact ⟨rfl,λb hb=>YA r hZ hb⟩
   kG:=λj t e=>by obtain rfl:=cQ e;refine ⟨by simp,.inl trivial,λb hb=> ?_⟩;obtain ⟨rfl,ob,g,hl,hlive,hF,_⟩:=hb;exact xn r hZ hl hlive (hg _ rfl) hF
   hh:=λh=>by cases h
   hl:=λh=>by cases h}
theorem jk (r:eF B s G a w) {Z:Nat->Prop} {u:List Nat} (hZ:∀b,Z b->Of s.o G u b) {g:Tg} (hg:∀i,g= .kG i->i∉u) {b:Nat} (h:(env B s.o G w).tg g b):b < w.heap.size/\¬Z b:=by
 cases g with
 |own=>exact h.elim
 |view=>exact YA r hZ h
 |kG i=>obtain ⟨ob,g,hl,hlive,hF,_⟩:=h;exact xn r hZ hl hlive (hg _ rfl) hF
theorem Ja (r:eF B s G a w) {Z:Nat->Prop} {u:List Nat} (hZ:∀b,Z b->Of s.o G u b) {g:Tg} (hg:∀i,g= .kG i->i∉u) {n:Nat} {l:List (List AV)} {v:Value} (hd:¬(env B s.o G w).dead g) (h:R w (env B s.o G w) (.sl g n l) v []):
  R w (sW w Z) (.sl .view n (mM (λ_=>some .view) false l)) v []:=by
 simp only [R,lV] at h⊢;rcases h with h|⟨x,cap,hv,hl,h⟩
 .exact absurd h.1 hd
 refine .inr ⟨x,cap,hv,hl,.inr (.inr ⟨by simp,trivial,?_⟩)⟩;rcases h with ⟨_,rfl,_⟩|⟨_,b,off,C,ty,fz,rD,ha,hb,hz,h1,h2,h3,JR,hr⟩|⟨hg',_,h⟩
 .exact .inl rfl
 .cases JR
 .rcases h with rfl|⟨b,off,ha,ht,hr⟩
  .exact .inl rfl
  .exact .inr ⟨b,off,ha,jk r hZ hg ht,HV (WV r hZ g hg (λ_=>False) (λ_ h=>h.elim)) _ _ _ _ _ (by simp) hr⟩
mutual
theorem aBh (r:eF B s G a w) {Z:Nat->Prop} {u:List Nat} (hZ:∀b,Z b->Of s.o G u b):∀(av:AV) (v:Value),QB u av=true->R w (env B s.o G w) av v []->R w (sW w Z) (arg s.o av) v []
 | .obj i cZ,v,ha,h=>by
  have hiu:i∉u:=by simpa [QB] using ha
  cases wG:AV.isObj s.o i cZ with
  |none=>simp [arg,wG,R]
  |some ob=>
   simp only [arg,wG];by_cases hb:ob.box=true
   .simp [hb,R]
   simp only [R] at h;obtain ⟨_,fZ,g,hl,_,hh,_⟩:=h;obtain ⟨h1,h2,h3⟩:=lC wG;obtain rfl:=cQ (hl.1.symm.trans h1);have hv:=hh h2 h3;obtain ⟨fp,⟨hlen,hown⟩,hnd,hF⟩:=r.ok i _ g hl h2;have hb':fZ.box=false:=by simpa using hb
   rw [hb'] at hown;simp only [hb',eS,hH];simp only [R,lV];refine .inr ⟨g.a,g.cap,hv,⟨hlen,by rcases hown with h|⟨_,_,_,_,_,_,_,_,_,_,h,_⟩;simp [h.1];exact h⟩,.inr (.inr ⟨by simp,trivial,?_⟩)⟩;rcases hown with ⟨h5,_⟩|⟨b,off,C,e,fz,rD,ha,hbk,hz,k1,k2,k3,rfl,hr⟩
   .left;rw [h5];rfl
   .right;have hlt:∀x∈b::rD,x < w.heap.size/\¬Z x:=λx hx=>xn r hZ hl h2 hiu (hF x hx)
    exact ⟨b,off,ha,hlt b (by simp),HV (Mm r hZ (λx=>x < w.heap.size/\¬Z x) (λ_ h=>h)) _ _ _ _ rD (λx hx=>hlt x (by simp [hx])) hr⟩
 | .ptr i cZ idx off,v,ha,h=>by
  have hiu:i∉u:=by simpa [QB] using ha
  cases wG:AV.isObj s.o i cZ with
  |none=>simp [arg,wG,R]
  |some ob=>
   simp only [arg,wG];cases he:ob.eQ[idx]? with
   |none=>simp [R]
   |some e=>
    simp only [R] at h⊢;obtain ⟨_,fZ,g,hl,_,hh,_⟩:=h;obtain ⟨h1,h2,h3⟩:=lC wG;obtain rfl:=cQ (hl.1.symm.trans h1);obtain ⟨b,f,ha,hv⟩:=hh h2 h3;obtain ⟨fp,⟨_,hown⟩,hnd,hF⟩:=r.ok i _ g hl h2;have hlt:∀x∈fp,x < w.heap.size/\¬Z x:=λx hx=>xn r hZ hl h2 hiu (hF x hx)
    rcases hown with ⟨h5,_⟩|⟨b',f',C,ty,fz,rD,wN,hbk,hz,k1,k2,k3,rfl,hr⟩
    .rw [h5] at he;simp at he
    .rw [ha] at wN;simp only [eC,pC,rK] at wN;obtain ⟨rfl,rfl⟩:=wN;obtain ⟨f1,f2,f3,cs,rfl,hn,hc,hone,wH,_,_⟩:=CS hr he;refine .inr ⟨trivial,b,f+idx * fZ.n,cs,?_,hlt b (by simp),hc,hone,?_⟩
     .rw [hv,oB]
     .have:=yN (YB r hZ fZ.box (λx=>x < w.heap.size/\¬Z x) (λ_ h=>h)) e cs f2 (λx hx=>hlt x (by simp [hx])) wH;exact fB (w:=w) (w':=w) (E:=sW w Z) (E':=(sW w Z).sub .view) ⟨λ_ h=>⟨h,rfl⟩,λ_ _=>trivial,λ_ _ _ h=>h.elim,λ_ _ _ h=>h.elim,λ_ _ _ _ _ h=>h.elim⟩ _ _ _ (by simp) this
 | .agg c,v,ha,h=>by simp only [R,arg] at h⊢;obtain ⟨cs,hv,hone,hr⟩:=h;exact ⟨cs,hv,hone,PO r hZ c cs (by simpa [QB] using ha) hr⟩
 | .gZ c,v,ha,h=>by simp only [R,arg] at h⊢;obtain ⟨cs,hv,hr⟩:=h;exact ⟨cs,hv,PO r hZ c cs (by simpa [QB] using ha) hr⟩
 | .fn f c,v,ha,h=>by simp only [R,arg] at h⊢;obtain ⟨h1,cs,hv,hr⟩:=h;exact ⟨trivial,cs,hv,PO r hZ c cs (by simpa [QB] using ha) hr⟩
 | .int k n,v,_,h=>by simpa [arg,R] using h
 | .bool b,v,_,h=>by simpa [arg,R] using h
 | .str x,v,_,h=>by simpa [arg,R] using h
 | .sl .own n l,v,_,h=>by simp only [arg];exact Ja r hZ (g:= .own) (by simp) (λh=>h) h
 | .sl .view n l,v,_,h=>by simp only [arg];exact Ja r hZ (g:= .view) (by simp) (λh=>h) h
 | .sl (.kG i) n l,v,ha,h=>by
  have hiu:i∉u:=by simpa [QB] using ha
  simp only [arg];cases ho:s.o[i]? with
  |none=>simp [R]
  |some ob=>
   simp only;by_cases hlive:ob.live=true
   .rw [eI hlive];exact Ja r hZ (g:= .kG i) (by simpa using hiu) (λhd=>hd (λfZ Ay=>by rw [ho] at Ay;obtain rfl:=cQ Ay;exact hlive)) h
   .rw [cX hlive];simp [R]
 | .fA .own c off,v,_,h=>by
  simp only [R] at h;rcases h with h|⟨_,b,o,cs,hv,ht,_⟩
  .exact h.1.elim
  .exact ht.elim
 | .fA .view c off,v,_,h=>by
  simp only [arg];simp only [R] at h⊢;rcases h with h|⟨_,b,o,cs,hv,ht,hcs,hone,hr⟩
  .exact h.1.elim
  .exact .inr ⟨trivial,b,o,cs,hv,jk r hZ (g:= .view) (by simp) ht,hcs,hone,yN (WV r hZ .view (by simp) (λ_=>False) (λ_ h=>h.elim)) _ _ _ (by simp) hr⟩
 | .fA (.kG i) c off,v,ha,h=>by
  have hiu:i∉u:=by simpa [QB] using ha
  simp only [arg];cases ho:s.o[i]? with
  |none=>simp [R]
  |some ob=>
   simp only;by_cases hlive:ob.live=true
   .rw [eI hlive];simp only [R] at h⊢;rcases h with h|⟨_,b,o,cs,hv,ht,hcs,hone,hr⟩
    .exact absurd (λfZ Ay=>by rw [ho] at Ay;obtain rfl:=cQ Ay;exact hlive) h.1
    .exact .inr ⟨trivial,b,o,cs,hv,jk r hZ (g:= .kG i) (by simpa using hiu) ht,hcs,hone,yN (WV r hZ (.kG i) (by simpa using hiu) (λ_=>False) (λ_ h=>h.elim)) _ _ _ (by simp) hr⟩
   .rw [cX hlive];simp [R]
 | .undef,v,_,_=>by simp [arg,R]
theorem PO (r:eF B s G a w) {Z:Nat->Prop} {u:List Nat} (hZ:∀b,Z b->Of s.o G u b):∀(c:List AV) (cs:List Value),QC u c=true->Rc w (env B s.o G w) c cs []->Rc w (sW w Z) (BV s.o c) cs []
 |[],[],_,_=>by simp [BV,Rc]
 |[],_::_,_,h=>by simp [Rc] at h
 |_::_,[],_,h=>by simp [Rc] at h
 |x::xs,c::cs,ha,h=>by
  simp only [Rc] at h;simp only [QC,eJ] at ha;obtain ⟨f1,f2,h1,h2,e⟩:=h;obtain ⟨rfl,rfl⟩:f1=[]/\f2=[]:=by simpa using e
  simp only [BV,Rc];exact ⟨[],[],aBh r hZ x c ha.1 h1,PO r hZ xs cs ha.2 h2,rfl⟩
end
mutual
theorem jl (r:eF B s G a w) {k:Nat} {ok:aN} {gk:CO} (hlk:look s.o G k ok gk) (hk:ok.live=true):∀(av:AV) (v:Value) (fp:List Nat),jR s.o av=true->(lT av).Nodup->k∉lT av->fp.Nodup->(∀b∈fp,gk.F b)->R w (env B s.o G w) av v fp->
  ∃BS,R w (env B s.o G w).plain (res s.o av) v BS/\BS.Nodup/\∀b∈BS,b∈fp\/Of s.o G (lT av) b
 | .obj i cZ,v,fp,ho,hu,_,_,_,h=>by
  have hf:fp=[]:=by simp only [R] at h;exact h.1
  subst hf;obtain ⟨BS,h1,h2,h3⟩:=Nz r _ v ho hu h;exact ⟨BS,h1,h2,λb hb=> .inr (h3 b hb)⟩
 | .agg c,v,fp,ho,hu,hku,hn,hF,h=>by simp only [R] at h;obtain ⟨cs,rfl,hone,hr⟩:=h;obtain ⟨BS,h1,h2,h3⟩:=Ka r hlk hk c cs fp (by simpa [jR] using ho) (by simpa [lT] using hu) (by simpa [lT] using hku) hn hF hr;exact ⟨BS,by simp only [res,R];exact ⟨cs,rfl,hone,h1⟩,h2,by simpa [lT] using h3⟩
 | .gZ c,v,fp,ho,hu,hku,hn,hF,h=>by simp only [R] at h;obtain ⟨cs,rfl,hr⟩:=h;obtain ⟨BS,h1,h2,h3⟩:=Ka r hlk hk c cs fp (by simpa [jR] using ho) (by simpa [lT] using hu) (by simpa [lT] using hku) hn hF hr;exact ⟨BS,by simp only [res,R];exact ⟨cs,rfl,h1⟩,h2,by simpa [lT] using h3⟩
 | .int k n,v,fp,_,_,_,hn,_,h=>⟨fp,by simpa [res,R] using h,hn,λb hb=> .inl hb⟩
 | .bool b,v,fp,_,_,_,hn,_,h=>⟨fp,by simpa [res,R] using h,hn,λb hb=> .inl hb⟩
 | .str x,v,fp,_,_,_,hn,_,h=>⟨fp,by simpa [res,R] using h,hn,λb hb=> .inl hb⟩
 | .sl .own n l,v,fp,_,_,_,hn,_,h=>⟨fp,by simp only [res];rw [wB] at h⊢;exact h,hn,λb hb=> .inl hb⟩
 | .sl .view n l,v,fp,_,_,_,hn,_,h=>⟨fp,by simp only [res,R] at h⊢;exact h,hn,λb hb=> .inl hb⟩
 | .sl (.kG i) n l,v,fp,ho,_,_,_,_,h=>by simp [jR] at ho
 | .fA .view c off,v,fp,_,_,_,hn,_,h=>⟨fp,by simp only [res,R] at h⊢;exact h,hn,λb hb=> .inl hb⟩
 | .fA .own c off,v,fp,ho,_,_,_,_,h=>by simp [jR] at ho
 | .fA (.kG _) c off,v,fp,ho,_,_,_,_,h=>by simp [jR] at ho
 | .ptr _ _ _ _,v,fp,ho,_,_,_,_,h=>by simp [jR] at ho
 | .fn f [],v,fp,_,_,_,hn,_,h=>⟨fp,by simp only [res,R] at h⊢;obtain ⟨h1,cs,h2,h3⟩:=h;refine ⟨h1,cs,h2,?_⟩;cases cs<;>simp_all [Rc],hn,λb hb=> .inl hb⟩
 | .fn f (_::_),v,fp,ho,_,_,_,_,h=>by simp [jR] at ho
 | .undef,v,fp,_,_,_,hn,_,h=>⟨fp,by simpa [res,R] using h,hn,λb hb=> .inl hb⟩
theorem Ka (r:eF B s G a w) {k:Nat} {ok:aN} {gk:CO} (hlk:look s.o G k ok gk) (hk:ok.live=true):∀(c:List AV) (cs:List Value) (fp:List Nat),mV s.o c=true->(kJ c).Nodup->k∉kJ c->fp.Nodup->(∀b∈fp,gk.F b)->Rc w (env B s.o G w) c cs fp->
  ∃BS,Rc w (env B s.o G w).plain (uR s.o c) cs BS/\BS.Nodup/\∀b∈BS,b∈fp\/Of s.o G (kJ c) b
 |[],[],fp,_,_,_,hn,_,h=>⟨fp,by simpa [uR,Rc] using h,hn,λb hb=> .inl hb⟩
 |[],_::_,_,_,_,_,_,_,h=>by simp [Rc] at h
 |_::_,[],_,_,_,_,_,_,h=>by simp [Rc] at h
 |x::xs,c::cs,fp,ho,hu,hku,hn,hF,h=>by
  simp only [Rc] at h;obtain ⟨g1,g2,h1,h2,rfl⟩:=h;simp only [mV,eJ] at ho;simp only [kJ,gR] at hu;simp only [kJ,fL,not_or] at hku;have hn':=gR.1 hn;obtain ⟨f1,k1,n1,o1⟩:=jl r hlk hk x c g1 ho.1 hu.1 hku.1 hn'.1 (λb hb=>hF b (mN _ hb)) h1;obtain ⟨f2,k2,n2,o2⟩:=Ka r hlk hk xs cs g2 ho.2 hu.2.1 hku.2 hn'.2.1 (λb hb=>hF b (sE _ hb)) h2;have aNx:∀(u:List Nat) (b:Nat),k∉u->gk.F b->Of s.o G u b->False:=by rintro u b hku hFb ⟨i,ob,g,hi,hl,hlive,hF'⟩;exact hku (r.apart k i _ _ _ _ b hlk hl hk hlive hFb hF'▸hi)
  refine ⟨f1++f2,by simp only [uR,Rc];exact ⟨f1,f2,k1,k2,rfl⟩,?_,?_⟩
  .refine gR.2 ⟨n1,n2,λb hb b' hb' e=> ?_⟩
   subst e;rcases o1 b hb with p1|p1<;>rcases o2 b hb' with p2|p2
   .exact hn'.2.2 b p1 b p2 rfl
   .exact aNx _ b hku.2 (hF b (mN _ p1)) p2
   .exact aNx _ b hku.1 (hF b (sE _ p2)) p1
   .obtain ⟨i,ob,g,hi,hl,hlive,hF1⟩:=p1;obtain ⟨j,fZ,g',hj,BZ,xP,F4⟩:=p2;exact hu.2.2 i hi j hj (r.apart i j _ _ _ _ b hl BZ hlive xP hF1 F4)
  .intro b hb;rcases fL.1 hb with hb|hb
   .rcases o1 b hb with h|⟨i,ob,g,hi,h⟩
    .exact .inl (mN _ h)
    .exact .inr ⟨i,ob,g,by simp [kJ,hi],h⟩
   .rcases o2 b hb with h|⟨i,ob,g,hi,h⟩
    .exact .inl (sE _ h)
    .exact .inr ⟨i,ob,g,by simp [kJ,hi],h⟩
end
end
def dQ (l:List UInt8):List (List AV):=l.map λc=>[.int .u8 c.toNat]
theorem mW (l:List UInt8):(dQ l).length=l.length:=oX _
theorem YC {w:World} {E:Env} {b:Nat}:∀(l:List UInt8) (off:Nat),(∀(j:Nat) (c:UInt8),l[j]? =some c->w.cell? ⟨b,off+j,none⟩=some (.int .u8 c.toNat))->Rr w E (dQ l) b off 1 []
 |[],_,_=>by simp [dQ,Rr]
 |c::l,off,h=>by
  simp only [dQ,mA,Rr];refine ⟨[.int .u8 c.toNat],[],[],rfl,λj v hv=> ?_,by simp [Value.oneCell'],by simp [Rc,R],YC l (off+1) (λj c' hc=> ?_),rfl⟩
  .cases j with
   |zero=>simp only [sC,eC] at hv;subst hv;exact h 0 c rfl
   |succ j=>simp at hv
  .have:=h (j+1) c' (by simpa using hc)
   rwa [show off+1+j=off+(j+1) by omega]
theorem jq (src d:TypeId) (x:Operand) {l:List UInt8} {e:TypeId} {by':Nat} (hx:s.ev x= .str l) (hs:isString P src=true) (hd:gX P d=some (e,1,by')) (he:intType P e=some .u8) (hl:l.length<=9223372036854775807):
  Step P B ⟨dst,.convert src d x,ty,pos,after,gd⟩ s (s.made dst 1 (dQ l)):=
 rQ λG a w r=>by
  obtain ⟨hu,_⟩:=qU hd;have hue:P.underlying e=some (.int .u8):=by
   unfold intType at he;split at he
   .rename_i k hk;rw [hk];simpa using he
   .cases he
  have hrun:=Lib.run_convert_string_bytes w src d e ⟨l.toArray⟩ (oV hs) hu hue;have hsz:(⟨l.toArray⟩:ByteArray).size=l.length:=by simp [ByteArray.size]
  rw [hsz] at hrun;have hge:l.length<=grownCap w l.length 0 e:=grownCap_ge _ _ _ _;have hle:grownCap w l.length 0 e<=maxLen:=DB _ _ _ _ (by simpa [maxLen] using hl);have hnew:=Lib.bytesWorld_at_new w e ⟨l.toArray⟩;have hbs:=Lib.bytesWorld_size w e ⟨l.toArray⟩;have hold:=Lib.bytesWorld_at_old w e ⟨l.toArray⟩;have hC:Lib.bytesCells w e ⟨l.toArray⟩=(l.map λc=>Value.int .u8 c.toNat).toArray++Array.replicate (grownCap w l.length 0 e - l.length) (.int .u8 0):=by simp [Lib.bytesCells,hsz]
  have hCs:(Lib.bytesCells w e ⟨l.toArray⟩).size=grownCap w l.length 0 e:=by rw [hC];simp;omega
  have hsm:oD w (Lib.bytesWorld w e ⟨l.toArray⟩):=⟨rfl,rfl,rfl⟩;generalize wS:grownCap w l.length 0 e=cap at *;generalize hw:Lib.bytesWorld w e ⟨l.toArray⟩=w' at *;have hadd:=r.add [⟨true,false,1,1,dQ l⟩] [⟨some ⟨w.heap.size,0,none⟩,cap,λb=>b=w.heap.size⟩] w' rfl (by omega) (λb hb=>hold b hb)
   (by
    rintro j ob g b ⟨h1,h2⟩ _ hf;cases j with
    |zero=>simp at h2;subst h2;simp at hf;subst hf;omega
    |succ j=>simp at h2)
   (by
    rintro i j _ _ _ _ b ⟨h1,_⟩ ⟨h2,_⟩ _ _ _ _;cases i<;>cases j<;>simp_all)
   (by
    rintro k j ob g ⟨h1,h2⟩ _;cases j with
    |zero=>
     simp at h1 h2;subst h1;subst h2;refine ⟨[w.heap.size],⟨by simp only [mW];exact hM hge hle,.inr ⟨w.heap.size,0,_,e,_,[],rfl,hnew,.inl ⟨eE _,rfl⟩,by show 0+cap * 1<=_;rw [hCs];omega,by simp only [mW];exact hge,hle,rfl,?_⟩⟩,by simp,by simp⟩;refine YC l 0 λj c hc=> ?_
     have hj:=(cH.1 hc).1;have h3:(Lib.bytesCells w e ⟨l.toArray⟩)[j]? =some (.int .u8 c.toNat):=by rw [hC,sR (by simpa using hj)];simp [hc]
     simp only [World.cell?,hnew,lA];exact h3
    |succ j=>simp at h1)
   hsm
  refine ⟨.slice (some ⟨w.heap.size,0,none⟩) l.length cap,w',by simp only [execOp,r.Yn hx,mT,hrun,lO,sA],_,hadd.1.put dst ?_⟩;simp only [R];refine ⟨trivial,⟨true,false,1,1,dQ l⟩,⟨some ⟨w.heap.size,0,none⟩,cap,λb=>b=w.heap.size⟩,?_,eE _,⟨λ_ _=>by simp [mW],λh=>by omega⟩⟩;have:=rP (i:=0) (o:=s.o) (G:=G) (o2:=[⟨true,false,1,1,dQ l⟩]) (G2:=[⟨some ⟨w.heap.size,0,none⟩,cap,λb=>b=w.heap.size⟩]) r.len ⟨rfl,rfl⟩;simpa using this
end
end Go.Aw
