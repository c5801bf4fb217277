/- Proved here: steps towards the statement of this claim. No condition. -/
import Derived.Test.YtnkpkklemmgapaaGreatDoorZF1
import Derived.Lib.ConvBytes
set_option linter.all false
namespace Go.Aw
open List
def AV.Mg:AV->Bool
 | .undef=>false
 | .iP _=>false
 | .agg _=>false
 | .obj _ _=>false
 | .ptr _ _ _ _=>false
 | .sl (.iZ _) _ _=>false
 | .fH (.iZ _) _ _=>false
 | .fn _ (_::_)=>false
 |_=>true
theorem aGb{w:World}{E E':Env}(hA:∀b,E.A b->E'.A b){x:AV}{v:Value}(hs:x.Mg=true)(h:R w E x v []):R w E' x v []:=by
 cases x with
 |int _ _=>simpa [R]using h
 |bool _=>simpa [R]using h
 |str _=>simpa [R]using h
 |sl g n l=>
  cases g with
  |own=>
   rw[rO]at h⊢;obtain⟨a,cap,hv,hl,h⟩:=h;refine⟨a,cap,hv,hl,.inl ?_⟩;rcases h with h|⟨_,_,_,_,_,_,_,_,_,_,_,_,hf,_⟩
   .exact h
   .cases hf
  |view=>refine lF (w:=w) (E:=E.plain) (E':=E') ⟨λb h=>⟨hA b h,rfl⟩,λ_ _=>trivial,λ_ _ _ h=>h.elim,λ_ _ _ h=>h.elim,λ_ _ _ _ _ h=>h.elim⟩ _ _ _ (by simp) ?_;simp only[R]at h⊢;exact h
  |iZ i=>cases hs
 |fH g c off=>
  cases g with
  |own=>simp only[R]at h;rcases h with h|⟨_,_,_,_,_,h,_⟩;exact h.1.elim;exact h.elim
  |view=>refine lF (w:=w) (E:=E.plain) (E':=E') ⟨λb h=>⟨hA b h,rfl⟩,λ_ _=>trivial,λ_ _ _ h=>h.elim,λ_ _ _ h=>h.elim,λ_ _ _ _ _ h=>h.elim⟩ _ _ _ (by simp) ?_;simp only[R]at h⊢;exact h
  |iZ i=>cases hs
 |obj _ _=>cases hs
 |ptr _ _ _ _=>cases hs
 |agg _=>cases hs
 |iP _=>cases hs
 |fn f c=>
  cases c with
  |nil=>simp only[R]at h⊢;obtain⟨h1,cs,h2,h3⟩:=h;refine⟨trivial,cs,h2,?_⟩;cases cs<;>simp_all[Rc]
  |cons _ _=>cases hs
 |undef=>cases hs
theorem WO{w:World}{E E':Env}(hA:∀b,E.A b->E'.A b):∀{c:List AV} {cs:List Value},c.all AV.Mg=true->Rc w E c cs []->Rc w E' c cs []
 |[],[],_,_=>by simp[Rc]
 |[],_::_,_,h=>by simp[Rc]at h
 |_::_,[],_,h=>by simp[Rc]at h
 |x::xs,c::cs,hs,h=>by
  simp only[Rc]at h⊢;simp only[BY,eI]at hs;obtain⟨f1,f2,h1,h2,e⟩:=h;obtain⟨rfl,rfl⟩:f1=[]/\f2=[]:=by simpa using e
  exact⟨[],[],aGb hA hs.1 h1,WO hA hs.2 h2,rfl⟩
section
variable{P:Program}[aB P]{B:fM P}{s:AS}{dst:Option Tmp}{ty:TypeId}{pos:String}{after:Array Edge}{gd:Option (Nat × Bool)}
def AS.stored(s:AS)(i idx off:Nat)(ob:aD)(e c:List AV):AS:=⟨s.t,s.o.set i {ob with dM:=ob.dM.set idx (e.take off++c++e.drop (off+c.length))}⟩
theorem dN.stored{G:List CO}{a:Act}{w:World}(r:dN B s G a w){i idx off:Nat}{ob:aD}{g:CO}{e c:List AV}{vs:List Value}(hl:Aw.look s.o G i ob g)(hlive:ob.live=true)(he:ob.dM[idx]? =some e)
  (yF:off+c.length<=e.length) (tY:ob.box=true\/c.all AV.Mg=true) (hone:∀x∈vs,x.oneCell'=true) (hr:Rc w (env B s.o G w) c vs []):
  ∃b f,g.a=some ⟨b,f,none⟩/\(storeCells ⟨b,f+(idx*ob.n+off),none⟩ vs).run P w= .ok () (w.setCells b (f+(idx*ob.n+off)) vs)/\
   dN B (s.stored i idx off ob e c) (G.set i g) a (w.setCells b (f+(idx*ob.n+off)) vs):=by
 obtain⟨fp,hown,hnd,hF⟩:=r.ok i ob g hl hlive;have hvl:=fA hr;rcases hown with⟨hlen,⟨h,_⟩|⟨b,f,C,ty,fz,nU,ha,hb,hz,h1,h2,h3,rfl,Nu⟩⟩
 .rw [h]at he;simp at he
 obtain⟨f1,f2,f3,cs,hfe,hn,hc,WQ,sK,hr1,hr3⟩:=Ac Nu he;have Ea:=fA sK;have aKg:idx<ob.dM.length:=(cQ.1 he).1;have hmul:(idx+1)*ob.n<=g.cap*ob.n:=pT _ (by omega);have Hw:(idx+1)*ob.n=idx*ob.n+ob.n:=by rw[rB];omega
 have aAe:f+(idx*ob.n+off)+vs.length<=C.size:=by omega
 refine⟨b,f,ha,yT hb hz aAe hone,?_⟩;have DF:g.F b:=hF b (by simp);have CG:∀b',b'≠b->(w.setCells b (f+(idx*ob.n+off)) vs).heap[b']? =w.heap[b']?:=λb' hne=>uP b b' hne _ _ _
 obtain⟨C',hC',hCs⟩:=wD b ty fz vs (f+(idx*ob.n+off)) w C hb;have hm:=r.modify hl hlive {ob with dM:=ob.dM.set idx (e.take off++c++e.drop (off+c.length))} g (w.setCells b (f+(idx*ob.n+off)) vs) (eE _) rfl (λ_=>⟨rfl,rfl,by simp⟩) (λb hb=> .inl hb) (λb hb hne=>⟨hb,hne⟩)
  (λb' hlt hne=>CG b' (λe=>hne ⟨e▸DF,⟨b,f,none⟩,ha,e⟩)) (by rw[uQ];exact eE _) (λk _=>by
  generalize env B (s.o.set i {ob with dM:=ob.dM.set idx (e.take off++c++e.drop (off+c.length))}) (G.set i g) (w.setCells b (f+(idx*ob.n+off)) vs)=E' at k⊢;have kb:=k.of ob.box;obtain⟨g1,g2,rfl,WB,ry⟩:=rP off sK;obtain⟨g3,g4,rfl,hc3,hc4⟩:=rP c.length ry;have hc':Rc w ((env B s.o G w).of ob.box) c vs []:=by
   cases hbx:ob.box with
   |true=>exact hr
   |false=>
    rcases tY with h|h
    .rw [hbx]at h;cases h
    .exact WO (E:=env B s.o G w) (E':=(env B s.o G w).of false) (λb hb=>hb) h hr
  subst hfe;have hsub:(f1++(g1++g4)++f3).Sublist (f1++(g1++(g3++g4))++f3):=((sX f1).append ((sX g1).append (sublist_append_right g3 g4))).append (sX f3);have hbn:b∉f1++(g1++(g3++g4))++f3:=(mC.1 hnd).1;have hold:∀x∈f1++(g1++g4)++f3,(w.setCells b (f+(idx*ob.n+off)) vs).heap[x]? =w.heap[x]?:=λx hx=>CG x (λe=>hbn (hsub.subset (e▸hx)))
  have BX:∀j,j<f+(idx*ob.n+off)\/f+(idx*ob.n+off)+vs.length<=j->(w.setCells b (f+(idx*ob.n+off)) vs).cell? ⟨b,j,none⟩=w.cell? ⟨b,j,none⟩:=λj hj=>Dd b vs _ w _ (λ_ _=>hj)
  have hti:(ob.dM.take idx).length=idx:=by simp;omega
  refine⟨b::(f1++(g1++g4)++f3),⟨by simpa using hlen,.inr ⟨b,f,C',ty,fz,_,ha,hC',by rw[hCs];exact hz,by rw[hCs];exact h1,by simpa using h2,h3,rfl,?_⟩⟩,?_,?_⟩
  .show Rr _ _ (ob.dM.set idx _) b f ob.n _;refine WI (cs:=cs.take off++vs++cs.drop (off+vs.length)) aKg ?_ ?_ ?_ ?_ ?_ ?_
   .simp only[eM,oY,AI];omega
   .have WB:dU w b (f+idx*ob.n) cs:=hc;have htl:(cs.take off).length=off:=by simp;omega
    refine dU.append.2 ⟨dU.append.2 ⟨?_,?_⟩,?_⟩
    .intro j v hv;have hj:=(cQ.1 hv).1;rw[htl]at hj;rw[BX _ (by omega)];exact WB.take j v hv
    .intro j v hv;have hj:j<vs.length:=(cQ.1 hv).1;rw[htl,oE f];have:=DE b vs (f+(idx*ob.n+off)) w (λj hj=>by
      have:f+(idx*ob.n+off)+j<C.size:=by omega
      simp[World.cell?,hb,this]) j hj
     rw[this];rw[aE hj]at hv;exact hv
    .intro j v hv;simp only[eM,htl];rw[BX _ (by omega)];have:=WB.drop (k:=off+vs.length) j v hv
     rwa[show f+idx*ob.n+(off+vs.length)+j=f+idx*ob.n+(off+vs.length)+j from rfl]at this
   .intro x hx;simp only[fS]at hx;rcases hx with(hx|hx)|hx
    .exact WQ x (pC hx)
    .exact hone x hx
    .exact WQ x (AG hx)
   .have e1:g1++g4=g1++[]++g4:=by simp
    rw[e1];refine iQ (iQ (dX kb _ _ _ (λx hx=>hold x (by simp[hx])) WB) (dX kb _ _ _ (by simp) hc')) ?_;rw[<-hvl,<-yW,<-yW]at*;rw[hvl]at*;exact dX kb _ _ _ (λx hx=>hold x (by simp[hx])) hc4
   .refine Oy kb BX (λx hx=>hold x (by simp[hx])) (.inl ?_) hr1
    rw[hti];omega
   .refine Oy kb BX (λx hx=>hold x (by simp[hx])) (.inr ?_) hr3
    omega
  .refine mC.2 ⟨λh=>hbn (hsub.subset h),hsub.nodup (mC.1 hnd).2⟩
  .intro x hx;rcases gE.1 hx with rfl|hx
   .exact DF
   .exact hF x (tG _ (hsub.subset hx)))
 exact hm.1
def wF(P:Program)(t:TypeId):Option Nat:=(P.info? t).map (·.size)
theorem ZZ(t:TypeId)(x y:Operand){i ver idx off:Nat}{ob:aD}{e:List AV}(hx:s.ev x= .ptr i ver idx off)(ho:AV.isObj s.o i ver=some ob)(he:ob.dM[idx]? =some e)
  (hfy:(s.ev y).fit s.o=true) (hsz:wF P t=some (s.ev y).cells.length) (yF:off+(s.ev y).cells.length<=e.length) (tY:ob.box=true\/(s.ev y).cells.all AV.Mg=true):
  Step P B ⟨dst,.store t x y,ty,pos,after,gd⟩ s ((s.stored i idx off ob e (s.ev y).cells).put dst .undef):=
 Oz λG a w r=>by
  obtain⟨g,b,f,hl,hlive,ha,hv⟩:=r.ptr hx ho;have hc:=Od hfy (r.ev y);obtain⟨b',f',vB,hst,Hg⟩:=r.stored (P:=P) hl hlive he yF tY hc.2.1 hc.1;rw[ha]at vB;simp only[eA,nB,qT]at vB;obtain⟨rfl,rfl⟩:=vB;have hlen:=fA hc.1;refine⟨_,?_,_,Hg.put dst (by simp[R])⟩;unfold wF at hsz;cases hi:P.info? t with
  |none=>simp[hi]at hsz
  |some inf=>
   simp only[hi,mA,eA]at hsz;have aAf:(a.eval y).cells.size=inf.size:=by rw[hsz];simpa using hlen
   simp[execOp,hv,Instr.storeAt,Instr.sureAddr,storeVar,sizeOf,typeInfo,hi,aAf,hst]
theorem pJ{t e:TypeId}{n by':Nat}(h:lQ P t=some (e,n,by')):P.underlying t=some (.slice e)/\∃i,P.info? e=some i/\i.size=n/\i.bytes=by':=by
 unfold lQ at h;split at h
 .rename_i e' hu;cases hi:P.info? e' with
  |none=>simp[hi]at h
  |some i=>simp[hi]at h;obtain⟨rfl,rfl,rfl⟩:=h;exact⟨hu,i,hi,rfl,rfl⟩
 .cases h
theorem Mh{t e:TypeId}{n by':Nat}(h:lQ P t=some (e,n,by'))(b f len cap:Nat)(k:IntKind)(i:Int)(h0:0<=i)(h1:i<len)(w:World):
  (Instr.indexAt t (.slice (some ⟨b,f,none⟩) len cap) (.int k i)).run P w= .ok (.pointer (some ⟨b,f+i.toNat*n,none⟩)) w:=by
 obtain⟨hu,inf,hi,hs,_⟩:=pJ h;simp[Instr.indexAt,asIntOf,gC hu,h0,h1,sizeOf,typeInfo,hi,hs,addr_add]
theorem dN.aa{G:List CO}{a:Act}{w:World}(r:dN B s G a w){x:Operand}{i ver:Nat}{ob:aD}(hx:s.ev x= .obj i ver)(ho:AV.isObj s.o i ver=some ob):
  ∃g,Aw.look s.o G i ob g/\ob.live=true/\a.eval x= .slice g.a ob.dM.length g.cap:=by
 have h:=r.ev x;rw[hx]at h;simp only[R]at h;obtain⟨_,ob',g,hl,_,hh,_⟩:=h;obtain⟨h1,h2,h3⟩:=jB ho;obtain rfl:=cU (hl.1.symm.trans h1);exact⟨g,hl,h2,hh h2 h3⟩
theorem dN.Hy{G:List CO}{a:Act}{w:World}(r:dN B s G a w){x:Operand}{k:IntKind}{n:Int}(hx:s.ev x= .int k n):a.eval x= .int k n:=by have h:=r.ev x;rw[hx]at h;simp only[R]at h;exact h.1
theorem dN.WR{G:List CO}{a:Act}{w:World}(r:dN B s G a w){x:Operand}{n:Bool}(hx:s.ev x= .bool n):a.eval x= .bool n:=by have h:=r.ev x;rw[hx]at h;simp only[R]at h;exact h.1
theorem dN.WS{G:List CO}{a:Act}{w:World}(r:dN B s G a w){x:Operand}{n:List UInt8}(hx:s.ev x= .str n):a.eval x= .string ⟨n.toArray⟩:=by have h:=r.ev x;rw[hx]at h;simp only[R]at h;exact h.1
theorem OG(t:TypeId)(x ix:Operand){i ver:Nat}{ob:aD}{e:TypeId}{by':Nat}{k:IntKind}{n:Int}(hx:s.ev x= .obj i ver)(ho:AV.isObj s.o i ver=some ob)(hi:s.ev ix= .int k n)
  (ht:lQ P t=some (e,ob.n,by')) (h0:0<=n) (h1:n<ob.dM.length) (hbx:ob.box=false\/ob.ver≠2):Step P B ⟨dst,.indexAddr t x ix,ty,pos,after,gd⟩ s (s.put dst (.ptr i ver n.toNat 0)):=
 dO λG a w r=>by
  obtain⟨g,hl,hlive,hv⟩:=r.aa hx ho;have hlt:n.toNat<ob.dM.length:=by omega
  obtain⟨b,f,cs,ha,_⟩:=r.elem hl hlive (aE hlt);refine⟨.pointer (some ⟨b,f+n.toNat*ob.n,none⟩),?_,?_⟩
  .simp only[execOp,hv,ha,r.Hy hi];simp[Mh ht b f _ g.cap k n h0 h1]
  .simp only[R];obtain⟨h1,h2,h3⟩:=jB ho;exact⟨trivial,ob,g,hl,tP h3.symm,λ_ _=>⟨b,f,ha,by simp⟩,λe e2=>by rcases hbx with hbx|hbx;(rw[hbx]at e;cases e);exact absurd e2 (by omega)⟩
theorem aAg{o:List aD}{G:List CO}{w:World}{g:Tg}{n:Nat}{l:List (List AV)}(hf:(AV.sl g n l).fit o=true):¬(env B o G w).dead g:=by
 cases g with
 |own=>exact λh=>h
 |view=>exact λh=>h
 |iZ i=>
  simp only[AV.fit]at hf;refine λhd=>hd (λob tX=> ?_)
  simpa [tX]using hf
theorem dN.slv{G:List CO}{a:Act}{w:World}(r:dN B s G a w){x:Operand}{g:Tg}{n:Nat}{l:List (List AV)}(hx:s.ev x= .sl g n l)(hf:(AV.sl g n l).fit s.o=true):
  ∃ad cap,a.eval x= .slice ad l.length cap/\(l.length<=maxLen/\l.length<=cap)/\((l=[]/\(g= .own->cap=0))\/∃b f,ad=some ⟨b,f,none⟩/\g≠ .own/\(env B s.o G w).tg g b/\Rr w ((env B s.o G w).sub g) l b f n []):=by
 have h:=r.ev x;rw[hx]at h;simp only[R]at h;rcases h with h|⟨ad,cap,hv,hl,h⟩
 .exact absurd h.1 (aAg hf)
 .refine ⟨ad,cap,hv,hl,?_⟩;rcases h with h|⟨_,_,_,_,_,_,_,_,_,_,_,_,_,Gj,_⟩|⟨hg,_,h⟩
  .exact .inl ⟨h.2.1,λ_=>h.2.2.1⟩
  .cases Gj
  .rcases h with h|⟨b,f,ha,ht,hr⟩
   .exact .inl ⟨h,λe=>absurd e hg⟩
   .exact .inr ⟨b,f,ha,hg,ht,hr⟩
theorem RD(t:TypeId)(x ix:Operand){g:Tg}{m:Nat}{l:List (List AV)}{e:TypeId}{by':Nat}{k:IntKind}{n:Int}{c:List AV}(hx:s.ev x= .sl g m l)(hf:(AV.sl g m l).fit s.o=true)(hi:s.ev ix= .int k n)
  (ht:lQ P t=some (e,m,by')) (h0:0<=n) (hc:l[n.toNat]? =some c):Step P B ⟨dst,.indexAddr t x ix,ty,pos,after,gd⟩ s (s.put dst (.fH g c 0)):=
 dO λG a w r=>by
  obtain⟨ad,cap,hv,hl,h⟩:=r.slv hx hf;have hlt:=(cQ.1 hc).1;rcases h with⟨h,_⟩|⟨b,f,rfl,hg,htg,hr⟩
  .rw [h]at hlt;simp at hlt
  .refine ⟨.pointer (some ⟨b,f+n.toNat*m,none⟩),?_,?_⟩
   .simp only[execOp,hv,r.Hy hi];simp[Mh ht b f l.length cap k n h0 (by omega)]
   .simp only[R];obtain⟨f1,f2,f3,cs,hfe,hn,hcs,hone,sK,_,_⟩:=Ac hr hc;have:f2=[]:=by have:=Ax length hfe;simp at this;exact lB (by omega)
    subst this;exact .inr ⟨trivial,b,f+n.toNat*m,cs,by simp,htg,hcs,hone,sK⟩
def aKi(P:Program)(t:TypeId):Option (Nat×Nat):=
 match P.underlying t with
 |some (.array n e)=>(P.info? e).map λi=>(n,i.size)
 |_=>none
theorem OH(t:TypeId)(x ix:Operand){i ver idx off len sz:Nat}{ob:aD}{k:IntKind}{n:Int}(hx:s.ev x= .ptr i ver idx off)(ho:AV.isObj s.o i ver=some ob)(hi:s.ev ix= .int k n)
  (ht:aKi P t=some (len,sz)) (h0:0<=n) (h1:n<len):Step P B ⟨dst,.indexAddr t x ix,ty,pos,after,gd⟩ s (s.put dst (.ptr i ver idx (off+n.toNat*sz))):=
 dO λG a w r=>by
  obtain⟨g,b,f,hl,hlive,ha,hv⟩:=r.ptr hx ho;refine⟨.pointer (some ⟨b,f+(idx*ob.n+(off+n.toNat*sz)),none⟩),?_,?_⟩
  .unfold aKi at ht;split at ht
   .rename_i n' e' hu;cases hi':P.info? e' with
    |none=>simp[hi']at ht
    |some inf=>simp[hi']at ht;obtain⟨rfl,rfl⟩:=ht;simp[execOp,hv,r.Hy hi,Instr.indexAt,asIntOf,gC hu,Instr.sureAddr,h0,h1,sizeOf,typeInfo,hi',addr_add,oE]
   .cases ht
  .simp only[R];obtain⟨h1,h2,h3⟩:=jB ho;refine⟨trivial,ob,g,hl,tP h3.symm,λ_ _=>⟨b,f,ha,rfl⟩,λe1 e2 e3 e4 y hy=> ?_⟩;have h0':off=0:=by omega
   have aRy:n.toNat*sz=0:=by omega
   have:=r.pin hx ho hl e1 e2 e3 h0' y hy;exact⟨by rw[<-this.1,hv,h0',aRy],this.2⟩
def isSlice(P:Program)(t:TypeId):Bool:=match P.underlying t with|some (.slice _)=>true|_=>false
def isString(P:Program)(t:TypeId):Bool:=match P.underlying t with|some .string=>true|_=>false
theorem Js{t:TypeId}(h:isSlice P t=true):∃e,P.underlying t=some (.slice e):=by
 unfold isSlice at h;split at h
 .rename_i e he;exact⟨e,he⟩
 .cases h
theorem mX{t:TypeId}(h:isString P t=true):P.underlying t=some .string:=by
 unfold isString at h;split at h
 .assumption
 .cases h
theorem Ve(t:TypeId)(x:Operand){i ver:Nat}{ob:aD}(hx:s.ev x= .obj i ver)(ho:AV.isObj s.o i ver=some ob)(ht:isSlice P t=true):
  Step P B ⟨dst,.call {callee:= .builtin .len,args:=#[x],argTypes:=#[t]},ty,pos,after,gd⟩ s (s.put dst (.int .i64 ob.dM.length)):=
 dO λG a w r=>by obtain⟨g,hl,hlive,hv⟩:=r.aa hx ho;obtain⟨e,he⟩:=Js ht;exact⟨.int .i64 ob.dM.length,by simp[execOp,resolve,invoke,builtin,hv,Builtin.len_,gC he,goInt],by simp[R]⟩
theorem WT(t:TypeId)(x:Operand){g:Tg}{n:Nat}{l:List (List AV)}(hx:s.ev x= .sl g n l)(hf:(AV.sl g n l).fit s.o=true)(ht:isSlice P t=true):
  Step P B ⟨dst,.call {callee:= .builtin .len,args:=#[x],argTypes:=#[t]},ty,pos,after,gd⟩ s (s.put dst (.int .i64 l.length)):=
 dO λG a w r=>by obtain⟨ad,cap,hv,_⟩:=r.slv hx hf;obtain⟨e,he⟩:=Js ht;exact⟨.int .i64 l.length,by simp[execOp,resolve,invoke,builtin,hv,Builtin.len_,gC he,goInt],by simp[R]⟩
theorem size_mk(l:List UInt8):(⟨l.toArray⟩:ByteArray).size=l.length:=by show l.toArray.size=_;simp
theorem Vf(t:TypeId)(x:Operand){l:List UInt8}(hx:s.ev x= .str l)(ht:isString P t=true):
  Step P B ⟨dst,.call {callee:= .builtin .len,args:=#[x],argTypes:=#[t]},ty,pos,after,gd⟩ s (s.put dst (.int .i64 l.length)):=
 dO λG a w r=>by have hv:=r.WS hx;have he:=mX ht;exact⟨.int .i64 l.length,by simp[execOp,resolve,invoke,builtin,hv,Builtin.len_,gC he,goInt,size_mk],by simp[R]⟩
theorem OI(t:TypeId)(x ix:Operand){l:List UInt8}{k:IntKind}{n:Int}{u:UInt8}(hx:s.ev x= .str l)(hi:s.ev ix= .int k n)(ht:isString P t=true)(h0:0<=n)(hu:l[n.toNat]? =some u):
  Step P B ⟨dst,.index t x ix,ty,pos,after,gd⟩ s (s.put dst (.int .u8 u.toNat)):=
 dO λG a w r=>by
  have hv:=r.WS hx;have he:=mX ht;have hlt:=(cQ.1 hu).1;have hg:(⟨l.toArray⟩:ByteArray)[n.toNat]? =some u:=by rw[getElem?_pos (⟨l.toArray⟩:ByteArray) n.toNat (by simpa [size_mk]using hlt)];obtain⟨_,rfl⟩:=cQ.1 hu;rfl
  exact⟨.int .u8 u.toNat,by simp[execOp,hv,r.Hy hi,Instr.index,asIntOf,gC he,h0,hg],by simp[R]⟩
theorem Vg(x:Operand)(ix:Nat){c:List AV}{y:AV}(hx:s.ev x= .iP c)(hy:c[ix]? =some y):Step P B ⟨dst,.extract x ix,ty,pos,after,gd⟩ s (s.put dst y):=
 dO λG a w r=>by have h:=r.ev x;rw[hx]at h;simp only[R]at h;obtain⟨cs,hv,hr⟩:=h;obtain⟨v,hv',hR⟩:=KT hr hy;exact⟨v,by simp[execOp,hv,Instr.extract,hv'],hR⟩
theorem RF(f:FuncId)(cap:Array Operand):Step P B ⟨dst,.makeFunc (.func f) #[] cap,ty,pos,after,gd⟩ s (s.put dst (.fn f (s.args cap))):=
 dO λG a w r=>by refine⟨.func (.func f) #[] (cap.map a.eval),by simp[execOp,Instr.makeFunc],?_⟩;simp only[R];refine⟨trivial,cap.toList.map a.eval,?_,qJ r cap.toList⟩;congr 1;apply AM;simp
theorem aAh(t:TypeId)(x:Operand){b:Bool}(hx:s.ev x= .bool b):Step P B ⟨dst,.unOp .not t x,ty,pos,after,gd⟩ s (s.put dst (.bool !b)):=
 dO λG a w r=>⟨.bool !b,by simp[execOp,r.WR hx,Op.unary],by simp[R]⟩
theorem aAi(t:TypeId)(x:Operand){k:IntKind}{n:Int}(hx:s.ev x= .int k n):Step P B ⟨dst,.unOp .neg t x,ty,pos,after,gd⟩ s (s.put dst (.int k (k.wrap (0-n)))):=
 dO λG a w r=>⟨.int k (k.wrap (0-n)),by simp[execOp,r.Hy hx,Op.unary,Op.intArith],by simp[R]⟩
theorem zk(c x y:Operand){b:Bool}(hc:s.ev c= .bool b):Step P B ⟨dst,.pick c x y,ty,pos,after,gd⟩ s (s.put dst (if b then s.ev x else s.ev y)):=
 dO λG a w r=>⟨if b then a.eval x else a.eval y,by simp[execOp,r.WR hc,asBool],by cases b;exact r.ev y;exact r.ev x⟩
def Eg(op:BinOp)(k:IntKind)(a b:Int):Int:=match op with
 | .and=>k.wrap ((BitVec.ofInt k.bits a&&& BitVec.ofInt k.bits b).toNat)
 | .or=>k.wrap ((BitVec.ofInt k.bits a |||BitVec.ofInt k.bits b).toNat)
 |_=>k.wrap ((BitVec.ofInt k.bits a ^^^ BitVec.ofInt k.bits b).toNat)
def aGd(k:IntKind)(a b:Int):Int:=a.fdiv (2 ^ min b.toNat k.bits)
def OJ(op:BinOp)(k:IntKind)(a b:Int):Option AV:=
 match op with
 | .add=>some (.int k (k.wrap (a+b)))
 | .sub=>some (.int k (k.wrap (a-b)))
 | .mul=>some (.int k (k.wrap (a*b)))
 | .quo=>if b=0 then none else some (.int k (k.wrap (a.tdiv b)))
 | .rem=>if b=0 then none else some (.int k (a.tmod b))
 | .eql=>some (.bool (a == b))
 | .neq=>some (.bool (a != b))
 | .lss=>some (.bool (decide (a<b)))
 | .leq=>some (.bool (decide (a<=b)))
 | .gtr=>some (.bool (decide (a > b)))
 | .geq=>some (.bool (decide (a>=b)))
 | .and=>some (.int k (Eg .and k a b))
 | .or=>some (.int k (Eg .or k a b))
 | .xor=>some (.int k (Eg .xor k a b))
 | .shr=>if b<0 then none else some (.int k (aGd k a b))
 |_=>none
theorem aAj(t t2:TypeId)(x y:Operand){k k':IntKind}{m n:Int}(hx:s.ev x= .int k m)(hy:s.ev y= .int k' n)(hn:0<=n):
  Step P B ⟨dst,.binOp .shr t x y t2,ty,pos,after,gd⟩ s (s.put dst (.int k (aGd k m n))):=
 dO λG a w r=>by
  have hv:=r.Hy hx;have rz:=r.Hy hy;have hn2:¬n<0:=by omega
  exact⟨.int k (aGd k m n),(by simp[execOp,hv,rz,eqGuard_at_int,binOp,Op.shift,hn2,aGd]),by simp[R]⟩
theorem zl(op:BinOp)(t t2:TypeId)(x y:Operand){k:IntKind}{m n:Int}(hop:op= .and\/op= .or\/op= .xor)(hx:s.ev x= .int k m)(hy:s.ev y= .int k n):
  Step P B ⟨dst,.binOp op t x y t2,ty,pos,after,gd⟩ s (s.put dst (.int k (Eg op k m n))):=
 dO λG a w r=>by have hv:=r.Hy hx;have rz:=r.Hy hy;refine⟨.int k (Eg op k m n),?_,by simp[R]⟩;rcases hop with rfl|rfl|rfl<;>simp[execOp,hv,rz,eqGuard_at_int,binOp,Op.intBits,Eg]
theorem aAl(op:BinOp)(t t2:TypeId)(x y:Operand){k k':IntKind}{m n:Int}{z:AV}(hx:s.ev x = .int k m)(hy':s.ev y = .int k' n)(hkk:k' = k \/ op = .shr)(hz:OJ op k m n = some z):
    Step P B ⟨dst, .binOp op t x y t2, ty, pos, after, gd⟩ s (s.put dst z) := by
  by_cases U0:op = .shr
  · subst U0
    simp only[OJ]at hz;split at hz
    · cases hz
    · obtain rfl := cU hz
      exact aAj t t2 x y hx hy' (by omega)
  have hy := hy';rw[hkk.resolve_right U0]at hy;by_cases hop:op = .and \/ op = .or \/ op = .xor
  · have e:z = .int k (Eg op k m n) := by rcases hop with rfl | rfl | rfl <;> exact(cU hz).symm
    subst e;exact zl op t t2 x y hop hx hy
  · refine dO λG a w r => ?_
    have hv := r.Hy hx;have rz := r.Hy hy;cases op <;> simp only[OJ]at hz <;> first | cases hz; done | exact(U0 rfl).elim | exact(hop (.inl rfl)).elim | exact(hop (.inr (.inl rfl))).elim | exact(hop (.inr (.inr rfl))).elim | skip
    all_goals first
      | (obtain rfl := cU hz; exact⟨_, (by simp[execOp, hv, rz, eqGuard_at_int, binOp, Op.intArith, Op.intCmp]; rfl), by simp[R]⟩)
      | (split at hz
         · cases hz
         · rename_i hb; obtain rfl := cU hz; exact⟨_, (by simp[execOp, hv, rz, eqGuard_at_int, binOp, Op.intDiv, hb]; rfl), by simp[R]⟩)
      | cases hz
def iR(P:Program)(e:TypeId)(n:Nat):Bool:=
 match (P.info? e).bind (·.zero)with
 |some z=>z.cells.size == n
 |none=>false
theorem Bb{P:Program}[aB P]{e:TypeId}{n:Nat}{inf:TypeInfo}(h:iR P e n=true)(hi:P.info? e=some inf):∃z,inf.zero=some z/\z.cells.size=n:=by
 unfold iR at h;cases hz:inf.zero with
 |none=>simp[hi,hz]at h
 |some z=>exact⟨z,rfl,by simpa [hi,hz]using h⟩
def AS.target(s:AS)(n:Nat):AV->Option (Nat×aD×AS)
 | .obj i v=>match AV.isObj s.o i v with
  |some ob=>if ob.box=false/\ob.n=n then some (i,ob,s)else none
  |none=>none
 | .sl .own _ []=>some (s.o.length,⟨true,false,n,0,[]⟩,⟨s.t,s.o++[⟨true,false,n,0,[]⟩]⟩)
 |_=>none
def AS.source(s:AS)(i n:Nat):AV->Option (List (List AV)×List aD)
 | .obj j v=>match AV.isObj s.o j v with
  |some ob=>if ob.box=false/\ob.n=n/\j≠i then some (ob.dM,s.o.set j ob.kill)else none
  |none=>none
 | .sl .own _ []=>some ([],s.o)
 | .sl .view m l=>if m=n then some (l,s.o)else none
 | .str l=>if n=1 then some (l.map λu=>[.int .u8 u.toNat],s.o)else none
 |_=>none
def AS.yH(s:AS)(o:List aD)(d:Option Tmp)(i:Nat)(ob:aD)(l2:List (List AV)):AS:=
 AS.put ⟨s.t,o.set i {ob with ver:=ob.ver+1,dM:=ob.dM++l2}⟩ d (.obj i (ob.ver+1))
def sV(P:Program)(t:TypeId):Bool:=match P.underlying t with|some (.slice _)=>true|some .string=>true|_=>false
theorem DI{P:Program}[aB P]{t:TypeId}(h:sV P t=true):∃d,P.underlying t=some d/\∀k,d≠ .int k:=by
 unfold sV at h;split at h
 .exact ⟨_,‹_›,by simp⟩
 .exact ⟨_,‹_›,by simp⟩
 .cases h
theorem aAn(w:World)(E:Env):∀l:List UInt8,Rv w E (l.map λu=>[.int .u8 u.toNat]) (l.map λu=> .int .u8 u.toNat) 1 []
 |[]=>by simp[Rv]
 |u::t=>by simp only[lA,Rv];exact⟨[.int .u8 u.toNat],_,[],[],rfl,rfl,by simp[Value.oneCell'],by simp[Rc,R],aAn w E t,rfl⟩
theorem dN.target{G:List CO}{a:Act}{w:World}(r:dN B s G a w){x:Operand}{n i:Nat}{ob:aD}{s1:AS}(ht:s.target n (s.ev x)=some (i,ob,s1)):
  ∃G1 g,dN B s1 G1 a w/\Aw.look s1.o G1 i ob g/\ob.live=true/\ob.box=false/\ob.n=n/\a.eval x= .slice g.a ob.dM.length g.cap/\s1.t=s.t:=by
 cases hx:s.ev x with
 |obj j v=>
  rw[hx]at ht;simp only[AS.target]at ht;cases ho:AV.isObj s.o j v with
  |none=>simp[ho]at ht
  |some o=>
   simp only[ho]at ht;split at ht
   .rename_i hc;simp only[eA,oR]at ht;obtain⟨rfl,rfl,rfl⟩:=ht;obtain⟨g,hl,hlive,hv⟩:=r.aa hx ho;exact⟨G,g,r,hl,hlive,hc.1,hc.2,hv,rfl⟩
   .cases ht
 |sl g m l=>
  rw[hx]at ht;cases g with
  |own=>
   cases l with
   |nil=>
    simp only[AS.target,eA,oR]at ht;obtain⟨rfl,rfl,rfl⟩:=ht;obtain⟨ad,cap,hv,_,h⟩:=r.slv hx rfl;have sP:cap=0:=by
     rcases h with h|⟨_,_,_,h,_⟩
     .exact h.2 rfl
     .exact absurd rfl h
    subst sP;have Hu:=r.add [⟨true,false,n,0,[]⟩] [⟨ad,0,λ_=>False⟩] w rfl (eE _) (λ_ _=>rfl) (λj ob g b hl _ hF=>by
     cases j with
     |zero=>obtain⟨_,h2⟩:=hl;simp at h2;subst h2;exact hF.elim
     |succ j=>simp[Aw.look]at hl) (λi j _ _ gi _ b hi hj _ _ Ef _=>by
     cases i with
     |zero=>obtain⟨_,h2⟩:=hi;simp at h2;subst h2;exact Ef.elim
     |succ i=>simp[Aw.look]at hi) (λk j ob g hl _=>by
     cases j with
     |zero=>obtain⟨h1,h2⟩:=hl;simp at h1 h2;subst h1;subst h2;exact⟨[],⟨by simp,.inl ⟨rfl,rfl,rfl⟩⟩,by simp,by simp⟩
     |succ j=>simp[Aw.look]at hl)
    refine⟨_,⟨ad,0,λ_=>False⟩,Hu.1,⟨by simp,by rw[<-r.len];simp⟩,rfl,rfl,rfl,?_,rfl⟩;simpa using hv
   |cons _ _=>cases ht
  |view=>simp[AS.target]at ht
  |iZ _=>simp[AS.target]at ht
 |int _ _=>rw[hx]at ht;simp[AS.target]at ht
 |bool _=>rw[hx]at ht;simp[AS.target]at ht
 |str _=>rw[hx]at ht;simp[AS.target]at ht
 |fH _ _ _=>rw[hx]at ht;simp[AS.target]at ht
 |ptr _ _ _ _=>rw[hx]at ht;simp[AS.target]at ht
 |agg _=>rw[hx]at ht;simp[AS.target]at ht
 |iP _=>rw[hx]at ht;simp[AS.target]at ht
 |fn _ _=>rw[hx]at ht;simp[AS.target]at ht
 |undef=>rw[hx]at ht;simp[AS.target]at ht
theorem WU{s s1:AS}(h:s1.t=s.t)(x:Operand):s1.ev x=s.ev x:=by cases x<;>simp[AS.ev,h]
theorem step_append(tS xT:TypeId)(x y:Operand){e:TypeId}{n by' i:Nat}{ob:aD}{s1:AS}{l2:List (List AV)}{o2:List aD}(he:lQ P tS=some (e,n,by'))(hz:iR P e n=true)(hxt:sV P xT=true)
  (ht:s.target n (s.ev x)=some (i,ob,s1)) (hs:s1.source i n (s.ev y)=some (l2,o2))
  (CF:(ob.dM.length+l2.length)*by'<=140737488355328) (h63:ob.dM.length+l2.length<=9223372036854775807):
  Step P B ⟨dst,.call {callee:= .builtin .append,args:=#[x,y],argTypes:=#[tS,xT]},ty,pos,after,gd⟩ s (s.yH o2 dst i ob l2):=
 qI λG0 a w r0=>by
  obtain⟨hu,inf,hi,hsz,hby⟩:=pJ he;obtain⟨z,hz1,hz2⟩:=Bb hz hi;obtain⟨G,g,r,hl,hlive,tY,hn,hv,hst⟩:=r0.target ht;have hev:=WU hst y;rw[<-hev]at hs;have si:∀{v w'},(Builtin.append_ #[tS,xT] ty #[.slice g.a ob.dM.length g.cap,a.eval y]).run P w= .ok v w'->(execOp a.eval ⟨dst,.call {callee:= .builtin .append,args:=#[x,y],argTypes:=#[tS,xT]},ty,pos,after,gd⟩).run P w= .ok (.value v) w':=by intro v w' h;simp[execOp,resolve,invoke,builtin,hv,h]
  obtain⟨fp,hown,hnd,hF⟩:=r.ok i ob g hl hlive;rw[tY]at hown;have fin:∀{s2:AS} {G2:List CO} {g2:CO} {news:List Value} {fp2:List Nat},dN B s2 G2 a w->Aw.look s2.o G2 i ob g2->g2.a=g.a->g2.cap=g.cap->s2.t=s1.t->s2.o=o2->
    (Builtin.lenOf (a.eval y)).run P w= .ok l2.length w->(∀w',w'.heap=w.heap->(Builtin.firstCells ob.n l2.length (a.eval y)).run P w'= .ok news.toArray w')->
    Rv w (env B s2.o G2 w).plain l2 news ob.n fp2->qH w (env B s2.o G2 w).plain ob.n ob.dM g2.a g2.cap fp->(fp++fp2).Nodup->(∀b∈fp++fp2,g2.F b)->
    ∃v w',(execOp a.eval ⟨dst,.call {callee:= .builtin .append,args:=#[x,y],argTypes:=#[tS,xT]},ty,pos,after,gd⟩).run P w= .ok (.value v) w'/\Rel B (s.yH o2 dst i ob l2) (a.put dst v) w':=by
   intro s2 G2 g2 news fp2 r2 hl2 ha hc aR0 WV hlen Ad Mf DJ Vh ae;obtain⟨v,w',G',fV,hr',hR⟩:=r2.append (P:=P) (ty:=ty) hl2 hlive tY hu (DI hxt) hi hz1 (by rw[hsz,hn]) (by rw[hz2,hn]) hlen Ad Mf DJ Vh ae (by rw[hby];exact CF) h63;rw[ha,hc]at fV;refine⟨v,w',si fV,G',?_⟩;have:=hr'.put dst hR;rw[WV,aR0,hst]at this;exact this
  cases hy:s1.ev y with
  |obj j ver=>
   rw[hy]at hs;simp only[AS.source]at hs;cases ho:AV.isObj s1.o j ver with
   |none=>simp[ho]at hs
   |some oj=>
    simp only[ho]at hs;split at hs
    .rename_i hc;simp only[eA,oR]at hs;obtain⟨rfl,rfl⟩:=hs;obtain⟨gj,hlj,aAo,hvj⟩:=r.aa hy ho;have htr:=r.OD (i:=i) (j:=j) (wA hc.2.2) hl hlj hlive aAo;obtain⟨fj,Mi,aGe,Jn⟩:=r.ok j oj gj hlj aAo;rw[hc.1]at Mi;obtain⟨fp2,aI2,aN4,news,Mf,Ad⟩:∃fp2:List Nat,(∀b∈fp2,b∈fj)/\fp2.Nodup/\∃news,Rv w (env B s1.o G w).plain oj.dM news ob.n fp2/\∀w',w'.heap=w.heap->(Builtin.firstCells ob.n oj.dM.length (.slice gj.a oj.dM.length gj.cap)).run P w'= .ok news.toArray w':=by
      have hnn:oj.n=ob.n:=by rw[hc.2.1,hn]
      rcases Mi.2 with⟨h1,h2,h3⟩|⟨b,off,C,ety,fz,nU,ha,hb,hz',k1,k2,k3,rfl,hr⟩
      .refine ⟨[],by simp,by simp,[],by rw[h1];simp[Rv],λw' _=> ?_⟩
       rw[h1];cases hga:gj.a with
       |none=>simp[Builtin.firstCells]
       |some a'=>simp[Builtin.firstCells,loadCells,loadCellsFrom]
      .obtain ⟨vs,hv',hc'⟩:=sS.1 hr;refine⟨nU,λb hb=>tG _ hb,(mC.1 aGe).2,vs,by rw[<-hnn];exact hv',λw' zg=> ?_⟩;rw[ha,<-hnn];exact sU (lL hv') (hc'.heap zg)
     have aKj:Aw.look (s1.o.set j oj.kill) (G.set i {g with F:=λb=>g.F b\/gj.F b}) i ob {g with F:=λb=>g.F b\/gj.F b}:=by refine⟨by rw[gR hc.2.2];exact hl.1,?_⟩;have:=(cQ.1 hl.2).1;simp[this]
     refine fin htr.1 aKj rfl rfl rfl rfl (by rw[hvj];simp[Builtin.lenOf]) (by rw[hvj];exact Ad) (uR htr.2.plain (λ_ _=>rfl) Mf) (hown.keeps htr.2.plain (λ_ _=>rfl)) ?_ ?_
     .refine gS.2 ⟨hnd,aN4,λb hb b' hb' e=> ?_⟩
      subst e;exact hc.2.2 (r.apart j i _ _ _ _ b hlj hl aAo hlive (Jn b (aI2 b hb')) (hF b hb))
     .intro b hb;rcases fS.1 hb with hb|hb
      .exact .inl (hF b hb)
      .exact .inr (Jn b (aI2 b hb))
    .cases hs
  |sl tg m l=>
   rw[hy]at hs;have vO:∀{news:List Value},s1.o=o2->(Builtin.lenOf (a.eval y)).run P w= .ok l2.length w->(∀w',w'.heap=w.heap->(Builtin.firstCells ob.n l2.length (a.eval y)).run P w'= .ok news.toArray w')->
     Rv w (env B s1.o G w).plain l2 news ob.n []->_:=fun {news} h1 h2 h3 h4=>fin (news:=news) (fp2:=[]) r hl rfl rfl rfl h1 h2 h3 h4 hown (by simpa using hnd) (by simpa using hF)
   cases tg with
   |own=>
    cases l with
    |nil=>
     simp only[AS.source,eA,oR]at hs;obtain⟨rfl,rfl⟩:=hs;obtain⟨ad,cap,hvy,_,_⟩:=r.slv hy rfl;refine vO (news:=[]) rfl (by rw[hvy];simp[Builtin.lenOf]) (λw' _=> ?_) (by simp[Rv]);rw[hvy];cases ad with
     |none=>simp[Builtin.firstCells]
     |some a'=>simp[Builtin.firstCells,loadCells,loadCellsFrom]
    |cons _ _=>cases hs
   |view=>
    simp only[AS.source]at hs;split at hs
    .rename_i hm;subst hm;simp only[eA,oR]at hs;obtain⟨rfl,rfl⟩:=hs;obtain⟨ad,cap,hvy,_,h⟩:=r.slv hy rfl;rcases h with⟨rfl,_⟩|⟨b,f,rfl,_,_,hr⟩
     .refine vO (news:=[]) rfl (by rw[hvy];simp[Builtin.lenOf]) (λw' _=> ?_) (by simp[Rv])
      rw[hvy];cases ad with
      |none=>simp[Builtin.firstCells]
      |some a'=>simp[Builtin.firstCells,loadCells,loadCellsFrom]
     .obtain ⟨vs,hv',hc'⟩:=sS.1 hr;refine vO (news:=vs) rfl (by rw[hvy];simp[Builtin.lenOf]) (λw' zg=> ?_) (by rw[hn];exact hv');rw[hvy,hn];exact sU (lL hv') (hc'.heap zg)
    .cases hs
   |iZ _=>cases hs
  |str l=>
   rw[hy]at hs;simp only[AS.source]at hs;split at hs
   .rename_i h1;simp only[eA,oR]at hs;obtain⟨rfl,rfl⟩:=hs;have hvy:=r.WS hy;refine fin (news:=l.map λu=> .int .u8 u.toNat) (fp2:=[]) r hl rfl rfl rfl rfl (by rw[hvy];simp[Builtin.lenOf,size_mk]) (λw' _=> ?_) ?_ hown (by simpa using hnd) (by simpa using hF)
    .rw [hvy];have:(⟨l.toArray⟩:ByteArray).extract 0 (l.map λu=>[AV.int .u8 u.toNat]).length=⟨l.toArray⟩:=by
      have e:(l.map λu=>[AV.int .u8 u.toNat]).length=(⟨l.toArray⟩:ByteArray).size:=by simp[size_mk]
      rw[e,ByteArray.extract_zero_size]
     simp only[Builtin.firstCells,this];simp
    .rw [hn,h1];exact aAn _ _ l
   .cases hs
  |int _ _=>rw[hy]at hs;cases hs
  |bool _=>rw[hy]at hs;cases hs
  |fH _ _ _=>rw[hy]at hs;cases hs
  |ptr _ _ _ _=>rw[hy]at hs;cases hs
  |agg _=>rw[hy]at hs;cases hs
  |iP _=>rw[hy]at hs;cases hs
  |fn _ _=>rw[hy]at hs;cases hs
  |undef=>rw[hy]at hs;cases hs
def AS.bound(s:AS)(d:Nat):Option Operand->Option Nat
 |none=>some d
 |some x=>match s.ev x with
  | .int _ n=>if 0<=n then some n.toNat else none
  |_=>none
theorem Hz{G:List CO}{a:Act}{w:World}(r:dN B s G a w){isS:Bool}{len cap lo hi:Nat}{lx hx:Option Operand}(hl:s.bound 0 lx=some lo)(hh:s.bound len hx=some hi)(h1:lo<=hi)(h2:hi<=len)(h3:len<=cap):
  (Instr.sliceBounds isS len cap (lx.map a.eval) (hx.map a.eval) none).run P w= .ok (lo,hi,cap) w:=by
 have bnd:∀{x:Operand} {d n:Nat} {y:Nat} {code:BoundsCode},s.bound d (some x)=some n->n<=y->(Instr.sliceBound (a.eval x) y code).run P w= .ok n w:=by
  intro x d n y code h hy;simp only[AS.bound]at h;cases hx:s.ev x with
  |int k m=>
   simp only[hx]at h;split at h
   .rename_i h0;obtain rfl:=cU h;rw[r.Hy hx];simp[Instr.sliceBound,asIntOf,h0];omega
   .cases h
  |_=>simp[hx]at h
 cases lx with
 |none=>
  simp only[AS.bound,eA]at hl;subst hl;cases hx with
  |none=>simp only[AS.bound,eA]at hh;subst hh;simp[Instr.sliceBounds]
  |some y=>have:=bnd (code:=if isS then .sliceAcap else .sliceAlen) hh (kO h2 h3);simp[Instr.sliceBounds,this]
 |some x=>
  have hb:=λ(c:BoundsCode)=>bnd (code:=c) hl h1
  cases hx with
  |none=>simp only[AS.bound,eA]at hh;subst hh;simp[Instr.sliceBounds,hb]
  |some y=>have:=bnd (code:=if isS then .sliceAcap else .sliceAlen) hh (kO h2 h3);simp[Instr.sliceBounds,this,hb]
theorem extract_mk(l:List UInt8)(a b:Nat)(h:b<=l.length):(⟨l.toArray⟩:ByteArray).extract a b=⟨((l.take b).drop a).toArray⟩:=by apply ByteArray.ext;simp[ByteArray.data_extract,drop_take]
theorem OL(t:TypeId)(x:Operand)(lx hx:Option Operand){l:List UInt8}{lo hi:Nat}(hs:s.ev x= .str l)(ht:isString P t=true)(hl:s.bound 0 lx=some lo)(hh:s.bound l.length hx=some hi)(h1:lo<=hi)(h2:hi<=l.length):
  Step P B ⟨dst,.slice t x lx hx none,ty,pos,after,gd⟩ s (s.put dst (.str ((l.take hi).drop lo))):=
 dO λG a w r=>by have hv:=r.WS hs;have he:=mX ht;have hb:=Hz (P:=P) r (isS:=false) hl (by rw[<-size_mk l]at hh;exact hh) h1 (by rw[size_mk];exact h2) (eE (⟨l.toArray⟩:ByteArray).size);refine⟨.string ⟨((l.take hi).drop lo).toArray⟩,?_,by simp[R]⟩;rw[<-extract_mk l lo hi h2];simp[execOp,hv,Instr.sliceAt,Instr.slice,gC he,hb]
theorem aAp{w:World}{E:Env}{l:List (List AV)}{b f n lo hi:Nat}(h1:lo<=hi)(h2:hi<=l.length){fp:List Nat}(h:Rr w E l b f n fp):
  ∃f1 f2 f3,fp=f1++f2++f3/\Rr w E ((l.take hi).drop lo) b (f+lo*n) n f2:=by
 have e:l=(l.take hi).take lo++((l.take hi).drop lo++l.drop hi):=by rw[<-sB,mN,mN]
 rw[e]at h;obtain⟨f1,g,rfl,_,h3⟩:=BV.1 h;obtain⟨f2,f3,rfl,h4,_⟩:=BV.1 h3;have:((l.take hi).take lo).length=lo:=by simp;omega
 rw[this]at h4;exact⟨f1,f2,f3,by simp,h4⟩
theorem OM{α:Type}(l:List α){lo hi:Nat}(h1:lo<=hi)(h2:hi<=l.length):((l.take hi).drop lo).length=hi-lo:=by simp;omega
theorem RH(t:TypeId)(x:Operand)(lx hx:Option Operand){g:Tg}{n:Nat}{l:List (List AV)}{e by' lo hi:Nat}(hs:s.ev x= .sl g n l)(hf:(AV.sl g n l).fit s.o=true)(ht:lQ P t=some (e,n,by'))
  (hl:s.bound 0 lx=some lo) (hh:s.bound l.length hx=some hi) (h1:lo<=hi) (h2:hi<=l.length):
  Step P B ⟨dst,.slice t x lx hx none,ty,pos,after,gd⟩ s (s.put dst (.sl g n ((l.take hi).drop lo))):=
 dO λG a w r=>by
  obtain⟨hu,inf,hi',hsz,_⟩:=pJ ht;obtain⟨ad,cap,hv,hlen,h⟩:=r.slv hs hf;have hb:=Hz (P:=P) r (isS:=true) hl hh h1 h2 hlen.2;have hsl:=OM l h1 h2;refine⟨.slice (if cap=lo then ad else ad.map (·.add (lo*n))) (hi-lo) (cap-lo),?_,?_⟩
  .simp [execOp,hv,Instr.sliceAt,Instr.slice,gC hu,hb,sizeOf,typeInfo,hi',hsz]
  .simp only[R];refine .inr ⟨_,_,by rw[hsl],⟨by rw[hsl];omega,by rw[hsl];omega⟩,?_⟩;rcases h with⟨rfl,sP⟩|⟨b,f,rfl,hg,htg,hr⟩
   .by_cases hg:g= .own
    .exact .inl ⟨hg,by simp,by rw[sP hg];simp,trivial⟩
    .exact .inr (.inr ⟨hg,trivial,.inl (by simp)⟩)
   .refine .inr (.inr ⟨hg,trivial,?_⟩);by_cases hc:cap=lo
    .left;exact lB (by rw[hsl];omega)
    .right;obtain⟨f1,f2,f3,hfe,hr'⟩:=aAp h1 h2 hr;have:f2=[]:=by have:=Ax length hfe;simp at this;exact lB (by omega)
     subst this;exact⟨b,f+lo*n,by simp[hc,addr_add],htg,hr'⟩
def AS.OO(s:AS)(d:Option Tmp)(i:Nat)(ob:aD)(l:List (List AV)):AS:=
 AS.put ⟨s.t,s.o.set i {ob with ver:=ob.ver+1,dM:=l}⟩ d (.obj i (ob.ver+1))
theorem OP(t:TypeId)(x:Operand)(lx hx:Option Operand){i ver:Nat}{ob:aD}{e by' lo hi:Nat}(hs:s.ev x= .obj i ver)(ho:AV.isObj s.o i ver=some ob)(tY:ob.box=false)(ht:lQ P t=some (e,ob.n,by'))
  (hl:s.bound 0 lx=some lo) (hh:s.bound ob.dM.length hx=some hi) (h1:lo<=hi) (h2:hi<=ob.dM.length):
  Step P B ⟨dst,.slice t x lx hx none,ty,pos,after,gd⟩ s (s.OO dst i ob ((ob.dM.take hi).drop lo)):=
 qI λG a w r=>by
  obtain⟨hu,inf,hi',hsz,_⟩:=pJ ht;obtain⟨g,hlk,hlive,hv⟩:=r.aa hs ho;obtain⟨fp,⟨hlen,hown⟩,hnd,hF⟩:=r.ok i ob g hlk hlive;have sP:ob.dM.length<=g.cap:=by
   rcases hown with h|⟨_,_,_,_,_,_,_,_,_,_,h,_⟩
   .simp [h.1]
   .exact h
  have hb:=Hz (P:=P) r (isS:=true) hl hh h1 h2 sP;have hsl:=OM ob.dM h1 h2;have fV:(execOp a.eval ⟨dst,.slice t x lx hx none,ty,pos,after,gd⟩).run P w= .ok (.value (.slice (if g.cap=lo then g.a else g.a.map (·.add (lo*ob.n))) (hi-lo) (g.cap-lo))) w:=by simp[execOp,hv,Instr.sliceAt,Instr.slice,gC hu,hb,sizeOf,typeInfo,hi',hsz]
  have aGf:∀a',(if g.cap=lo then g.a else g.a.map (·.add (lo*ob.n)))=some a'->∃a0,g.a=some a0/\a'.block=a0.block:=by
   intro a' h;split at h
   .exact ⟨a',h,rfl⟩
   .cases hga:g.a with
    |none=>simp[hga]at h
    |some a0=>simp only[hga,mA,eA]at h;refine⟨a0,rfl,?_⟩;rw[<-h];unfold Addr.add;split<;>rfl
  have hm:=r.modify hlk hlive {ob with ver:=ob.ver+1,dM:=(ob.dM.take hi).drop lo} ⟨(if g.cap=lo then g.a else g.a.map (·.add (lo*ob.n))),g.cap-lo,g.F⟩ w (by simp) rfl (by simp) (λb hb=> .inl hb) (λb hb hne=>⟨hb,λa' vB=>by
    obtain⟨a0,h0,hbe⟩:=aGf a' vB;rw[hbe];exact hne a0 h0⟩) (λ_ _ _=>rfl) (eE _) (λk _=>by
   generalize env B (s.o.set i {ob with ver:=ob.ver+1,dM:=(ob.dM.take hi).drop lo}) (G.set i ⟨(if g.cap=lo then g.a else g.a.map (·.add (lo*ob.n))),g.cap-lo,g.F⟩) w=E' at k⊢;simp only[Jp,tY,Env.of,cX,eS];rw[tY]at hown;simp only[Env.of,cX,eS]at hown;rcases hown with⟨h,hc0,_⟩|⟨b,f,C,ety,fz,nU,ha,hbk,hz,k1,k2,k3,rfl,hr⟩
   .exact ⟨[],⟨by rw[hsl];omega,.inl ⟨by rw[h];simp,by rw[hc0];simp,rfl⟩⟩,by simp,by simp⟩
   .obtain ⟨f1,f2,f3,rfl,hr'⟩:=aAp h1 h2 hr;by_cases hc:g.cap=lo
    .exact ⟨[],⟨by rw[hsl];omega,.inl ⟨lB (by rw[hsl];omega),by omega,rfl⟩⟩,by simp,by simp⟩
    .have hsub:f2.Sublist (f1++f2++f3):=(sublist_append_right f1 f2).trans (sublist_append_left _ _);have hmul:(g.cap-lo)*ob.n+lo*ob.n=g.cap*ob.n:=by rw[<-rB];congr 1;omega
     refine⟨b::f2,⟨by rw[hsl];omega,.inr ⟨b,f+lo*ob.n,C,ety,fz,f2,by simp[hc,ha,addr_add],hbk,hz,by omega,by rw[hsl];omega,by omega,rfl,lW k.plain _ _ _ _ _ rfl (λ_ _=>rfl) hr'⟩⟩,?_,?_⟩
     .exact mC.2 ⟨λh=>(mC.1 hnd).1 (hsub.subset h),hsub.nodup (mC.1 hnd).2⟩
     .intro x hx;rcases gE.1 hx with rfl|hx
      .exact hF x (by simp)
      .exact hF x (tG _ (hsub.subset hx)))
  refine⟨_,w,fV,_,hm.1.put dst ?_⟩;simp only[R];have hiG:i<G.length:=(cQ.1 hlk.2).1;have zJ:i<s.o.length:=(cQ.1 hlk.1).1;exact⟨trivial,_,_,⟨by simp[zJ];rfl,by simp[hiG];rfl⟩,eE _,λ_ _=>by simp[hsl],λh=>by omega⟩
def toV:AV->Value
 | .int k n=> .int k n
 | .bool b=> .bool b
 | .str s=> .string ⟨s.toArray⟩
 |_=> .tuple #[]
def AV.scalar:AV->Bool
 | .int _ _=>true
 | .bool _=>true
 | .str _=>true
 |_=>false
theorem aAq{w:World}{E:Env}{x:AV}{v:Value}{fp:List Nat}(hs:x.scalar=true)(h:R w E x v fp):v=toV x:=by
 cases x<;>simp only[AV.scalar]at hs<;>first|cases hs;done|skip
 all_goals first|(simp only[R]at h;exact h.1)|cases hs
theorem Lb{w:World}{E:Env}:∀{c:List AV} {cs:List Value} {fp:List Nat},c.all AV.scalar=true->Rc w E c cs fp->cs=c.map toV
 |[],[],_,_,_=>rfl
 |[],_::_,_,_,h=>by simp[Rc]at h
 |_::_,[],_,_,h=>by simp[Rc]at h
 |x::xs,c::cs,fp,hs,h=>by simp only[Rc]at h;simp only[BY,eI]at hs;obtain⟨f1,f2,h1,h2,_⟩:=h;simp[aAq hs.1 h1,Lb hs.2 h2]
def EqA(P:Program)(t:TypeId)(c1 c2:List AV)(b:Bool):Prop:=
 ∀(op:BinOp) (x y:Operand) (w:World),(op= .eql\/op= .neq)->
  (do eqGuard op t x y (.agg (c1.map toV).toArray) (.agg (c2.map toV).toArray);binOp op t (.agg (c1.map toV).toArray) (.agg (c2.map toV).toArray):Sem Value).run P w=
   .ok (.bool (if op= .eql then b else !b)) w
def Jt(P:Program)(t:TypeId):Bool:=match P.underlying t with|some .bool=>true|_=>false
def intType(P:Program)(t:TypeId):Option IntKind:=match P.underlying t with|some (.int k)=>some k|_=>none
theorem dN.aN6{G:List CO}{a:Act}{w:World}(r:dN B s G a w){x:Operand}{c:List AV}(hx:s.ev x= .agg c)(hs:c.all AV.scalar=true):a.eval x= .agg (c.map toV).toArray:=by have h:=r.ev x;rw[hx]at h;simp only[R]at h;obtain⟨cs,hv,_,hr⟩:=h;rw[hv,Lb hs hr]
theorem WW(op:BinOp)(t t2:TypeId)(x y:Operand){c1 c2:List AV}{b:Bool}(hop:op= .eql\/op= .neq)(hx:s.ev x= .agg c1)(hy:s.ev y= .agg c2)(h1:c1.all AV.scalar=true)(h2:c2.all AV.scalar=true)(he:EqA P t c1 c2 b):
  Step P B ⟨dst,.binOp op t x y t2,ty,pos,after,gd⟩ s (s.put dst (.bool (if op= .eql then b else !b))):=
 dO λG a w r=>by
  have e:=he op x y w hop;refine⟨.bool (if op= .eql then b else !b),?_,by simp[R]⟩;simp only[execOp,r.aN6 hx h1,r.aN6 hy h2];rw[show(do let v<-(do eqGuard op t x y (.agg (c1.map toV).toArray) (.agg (c2.map toV).toArray);binOp op t (.agg (c1.map toV).toArray) (.agg (c2.map toV).toArray));pure (Next.value v):Sem Next).run P w=
   ((do eqGuard op t x y (.agg (c1.map toV).toArray) (.agg (c2.map toV).toArray);binOp op t (.agg (c1.map toV).toArray) (.agg (c2.map toV).toArray):Sem Value).run P w).andThen λv w'=> .ok (Next.value v) w' from by simp only[oA,sY]]
  rw[e];rfl
theorem run_equalIn_bool(w:World)(d:Nat){t:TypeId}(hu:P.underlying t=some .bool)(b1 b2:Bool):(Op.equalIn (d+1) t (.bool b1) (.bool b2)).run P w= .ok (b1 == b2) w:=by simp only[Op.equalIn,oA,gC hu,lP,sY]
theorem Vi(op:BinOp)(t t2:TypeId)(x y:Operand){b1 b2:Bool}(hop:op= .eql\/op= .neq)(hx:s.ev x= .bool b1)(hy:s.ev y= .bool b2)(ht:Jt P t=true):
  Step P B ⟨dst,.binOp op t x y t2,ty,pos,after,gd⟩ s (s.put dst (.bool (if op= .eql then b1 == b2 else b1 != b2))):=
 dO λG a w r=>by
  have hu:P.underlying t=some .bool:=by unfold Jt at ht;split at ht;assumption;cases ht
  have hE:(Op.equal t (.bool b1) (.bool b2)).run P w= .ok (b1 == b2) w:=by exact run_equalIn_bool w 9999 hu b1 b2
  refine⟨.bool (if op= .eql then b1 == b2 else b1 != b2),?_,by simp[R]⟩;simp only[execOp,r.WR hx,r.WR hy,eqGuard_at_bool,pure_bind];rcases hop with rfl|rfl
  .simp only[binOp,oA,hE,lP,sY,eV]
  .simp only[binOp,oA,hE,lP,sY];rfl
theorem toList_mk(l:List UInt8):(⟨l.toArray⟩:ByteArray).toList=l:=by rw[ByteArray.toList_eq]
theorem zm(l m:List UInt8):(⟨l.toArray⟩:ByteArray)++⟨m.toArray⟩=⟨(l++m).toArray⟩:=by apply ByteArray.ext;simp[ByteArray.data_append]
def Vj(op:BinOp)(a b:List UInt8):Option AV:=
 match op with
 | .add=>some (.str (a++b))
 | .eql=>some (.bool (a == b))
 | .neq=>some (.bool (!(a == b)))
 | .lss=>some (.bool (Op.bytesLess a b))
 | .leq=>some (.bool (Op.bytesLess a b || a == b))
 | .gtr=>some (.bool (!(Op.bytesLess a b || a == b)))
 | .geq=>some (.bool (!Op.bytesLess a b))
 |_=>none
theorem aAr(op:BinOp)(t t2:TypeId)(x y:Operand){l m:List UInt8}{z:AV}(hx:s.ev x= .str l)(hy:s.ev y= .str m)(hz:Vj op l m=some z)(hle:op= .add->l.length+m.length<=9223372036854775807):
  Step P B ⟨dst,.binOp op t x y t2,ty,pos,after,gd⟩ s (s.put dst z):=
 dO λG a w r=>by
  have hv:=r.WS hx;have rz:=r.WS hy;have si:∀{v:Value},(Op.stringOp op ⟨l.toArray⟩ ⟨m.toArray⟩).run P w= .ok v w->(execOp a.eval ⟨dst,.binOp op t x y t2,ty,pos,after,gd⟩).run P w= .ok (.value v) w:=by
   intro v h;have hb:binOp op t (.string ⟨l.toArray⟩) (.string ⟨m.toArray⟩)=Op.stringOp op ⟨l.toArray⟩ ⟨m.toArray⟩:=by cases op<;>rfl
   simp[execOp,hv,rz,eqGuard_at_string,hb,h]
  cases op<;>simp only[Vj]at hz<;>first|cases hz;done|skip
  case add=>
   have hle:=hle rfl;obtain rfl:=cU hz;refine⟨.string ⟨(l++m).toArray⟩,si ?_,by simp[R]⟩;have h0:¬(9223372036854775807<((l.length:Int)+(m.length:Int))):=by omega
   simp only[Op.stringOp,size_mk,zm];simp[h0]
  all_goals first
   |(obtain rfl:=cU hz;exact⟨_,si (by simp only[Op.stringOp,toList_mk,sY];rfl),by simp[R]⟩)
   |cases hz
theorem RI(src d:TypeId)(x:Operand){k k':IntKind}{n:Int}(hx:s.ev x= .int k n)(hd:intType P d=some k')(hs:(P.underlying src).isSome=true):
  Step P B ⟨dst,.convert src d x,ty,pos,after,gd⟩ s (s.put dst (.int k' (k'.wrap n))):=
 dO λG a w r=>by
  obtain⟨ds,hds⟩:=AN.1 hs;have hu:P.underlying d=some (.int k'):=by
   unfold intType at hd;split at hd
   .obtain rfl:=cU hd;assumption
   .cases hd
  exact⟨.int k' (k'.wrap n),by simp[execOp,r.Hy hx,convert,gC hds,gC hu,Conv.intToInt],by simp[R]⟩
theorem RJ(src d:TypeId)(x:Operand){l:List UInt8}(hx:s.ev x= .str l)(hd:isString P d=true)(hs:isString P src=true):
  Step P B ⟨dst,.convert src d x,ty,pos,after,gd⟩ s (s.put dst (.str l)):=
 dO λG a w r=>by exact⟨.string ⟨l.toArray⟩,by simp[execOp,r.WS hx,convert,gC (mX hs),gC (mX hd)],by simp[R]⟩
def bytesOf:List (List AV)->Option (List UInt8)
 |[]=>some []
 |[.int .u8 n]::r=>(bytesOf r).map (UInt8.ofNat n.toNat:: ·)
 |_=>none
theorem WX{w:World}{E:Env}:∀{l:List (List AV)} {vs:List Value} {fp:List Nat} {bs:List UInt8},bytesOf l=some bs->Rv w E l vs 1 fp->∃ns:List Int,vs=ns.map (.int .u8)/\bs=ns.map λn=>UInt8.ofNat n.toNat
 |[],vs,_,bs,hb,h=>by simp only[bytesOf,eA]at hb;simp only[Rv]at h;exact⟨[],by simp[h.1],by simp[<-hb]⟩
 |e::es,vs,fp,bs,hb,h=>by
  match e,hb with
  |[.int .u8 n],hb=>
   simp only[bytesOf]at hb;cases hr:bytesOf es with
   |none=>simp[hr]at hb
   |some b2=>simp only[hr,mA,eA]at hb;simp only[Rv]at h;obtain⟨cs,rest,f1,f2,rfl,hn,_,sK,hrest,_⟩:=h;obtain⟨ns,rfl,rfl⟩:=WX hr hrest;have:=Lb (c:=[.int .u8 n]) (by simp[AV.scalar]) sK;exact⟨n::ns,by simp[this,toV],by simp[<-hb]⟩
theorem Mj(P:Program)(w:World){body:Value->ByteArray->Sem (ForInStep ByteArray)}(hb:∀n r,body (.int .u8 n) r=pure (ForInStep.yield (r.push (UInt8.ofNat n.toNat)))):∀(ns:List Int) (s0:ByteArray),
  (forIn (m:=Sem) (ns.map (Value.int .u8)) s0 body).run P w= .ok ⟨s0.data++(ns.map λn=>UInt8.ofNat n.toNat).toArray⟩ w
 |[],s0=>by simp
 |n::ns,s0=>by simp only[lA,forIn_cons,hb,pure_bind];rw[Mj P w hb ns];congr 2;apply AM;simp[ByteArray.push]
theorem FJ{G:List CO}{a:Act}{w:World}(r:dN B s G a w){x:Operand}{ad:Option Addr}{b f cap:Nat}{l:List (List AV)}{E:Env}{bs:List UInt8}{fp:List Nat}(hv:a.eval x= .slice ad l.length cap)
  (hb:bytesOf l=some bs) (h:l=[]\/(ad=some ⟨b,f,none⟩/\Rr w E l b f 1 fp)):(Conv.bytesToString (a.eval x)).run P w= .ok (.string ⟨bs.toArray⟩) w:=by
 rw[hv];obtain⟨vs,hvs,ns,hns,hbs,hlen⟩:∃vs:List Value,(∀a',ad=some a'->(loadCells a' l.length).run P w= .ok vs.toArray w)/\∃ns:List Int,vs=ns.map (.int .u8)/\bs=(ns.map λn=>UInt8.ofNat n.toNat)/\vs.length=l.length:=by
  rcases h with rfl|⟨rfl,hr⟩
  .simp only[bytesOf,eA]at hb;refine⟨[],λa' _=>by simp[loadCells,loadCellsFrom],[],rfl,by simp[<-hb],rfl⟩
  .obtain ⟨vs,hv',hc'⟩:=sS.1 hr;have hl:=lL hv';obtain⟨ns,h1,h2⟩:=WX hb hv';refine⟨vs,λa' vB=> ?_,ns,h1,h2,by simpa using hl⟩;obtain rfl:=cU vB;have:=hc'.run (P:=P)
   rwa[hl,Nat.mul_one]at this
 cases ad with
 |none=>
  have hl0:l=[]:=by
   rcases h with h|h
   .exact h
   .cases h.1
  subst hl0;have:vs=[]:=lB (by simpa using hlen);subst this;have:ns=[]:=by simpa using hns.symm
  subst this;subst hbs;simp[Conv.bytesToString];rfl
 |some a'=>subst hns;subst hbs;simp only[Conv.bytesToString,oA,hvs a' rfl,lP];simp only[forIn_toArray];rw[Mj P w (λ_ _=>rfl) ns ByteArray.empty];simp
theorem Eh(src d:TypeId)(x:Operand){g:Tg}{l:List (List AV)}{e:TypeId}{by':Nat}{bs:List UInt8}(hx:s.ev x= .sl g 1 l)(hf:(AV.sl g 1 l).fit s.o=true)(hd:isString P d=true)(hs:lQ P src=some (e,1,by'))(he:intType P e=some .u8)
  (hb:bytesOf l=some bs):Step P B ⟨dst,.convert src d x,ty,pos,after,gd⟩ s (s.put dst (.str bs)):=
 dO λG a w r=>by
  obtain⟨hu,_⟩:=pJ hs;have hue:P.underlying e=some (.int .u8):=by
   unfold intType at he;split at he
   .obtain rfl:=cU he;assumption
   .cases he
  obtain⟨ad,cap,hv,_,h⟩:=r.slv hx hf;have fV:(Conv.bytesToString (a.eval x)).run P w= .ok (.string ⟨bs.toArray⟩) w:=by
   rcases h with⟨rfl,_⟩|⟨b,f,rfl,_,_,hr⟩
   .exact FJ (b:=0) (f:=0) (E:=oO) (fp:=[]) r hv hb (.inl rfl)
   .exact FJ r hv hb (.inr ⟨rfl,hr⟩)
  refine⟨.string ⟨bs.toArray⟩,?_,by simp[R]⟩;rw[hv]at fV;simp[execOp,hv,convert,gC hu,gC (mX hd),gC hue,fV]
theorem Gl(src d:TypeId)(x:Operand){i ver:Nat}{ob:aD}{e:TypeId}{by':Nat}{bs:List UInt8}(hx:s.ev x= .obj i ver)(ho:AV.isObj s.o i ver=some ob)(hd:isString P d=true)(hs:lQ P src=some (e,1,by'))(hn:ob.n=1)(he:intType P e=some .u8)
  (hb:bytesOf ob.dM=some bs):Step P B ⟨dst,.convert src d x,ty,pos,after,gd⟩ s (s.put dst (.str bs)):=
 dO λG a w r=>by
  obtain⟨hu,_⟩:=pJ hs;have hue:P.underlying e=some (.int .u8):=by
   unfold intType at he;split at he
   .obtain rfl:=cU he;assumption
   .cases he
  obtain⟨g,hl,hlive,hv⟩:=r.aa hx ho;obtain⟨fp,⟨_,hown⟩,_,_⟩:=r.ok i ob g hl hlive;have fV:(Conv.bytesToString (a.eval x)).run P w= .ok (.string ⟨bs.toArray⟩) w:=by
   rcases hown with⟨h,_⟩|⟨b,f,C,ety,fz,nU,ha,_,_,_,_,_,_,hr⟩
   .exact FJ (b:=0) (f:=0) (E:=oO) (fp:=[]) r hv hb (.inl h)
   .rw [hn]at hr;exact FJ r hv hb (.inr ⟨ha,hr⟩)
  refine⟨.string ⟨bs.toArray⟩,?_,by simp[R]⟩;rw[hv]at fV;simp[execOp,hv,convert,gC hu,gC (mX hd),gC hue,fV]
def Gz(j:Nat)(o:List aD):List aD:=match o[j]? with
 |some ob=>o.set j ob.kill
 |none=>o
def uS:List Nat->List aD->List aD
 |[],o=>o
 |j::u,o=>uS u (Gz j o)
theorem Ty(j i:Nat)(o:List aD)(h:i≠j):(Gz j o)[i]? =o[i]?:=by
 unfold Gz;split
 .rw [gR (wA h)]
 .rfl
theorem FK(i:Nat):∀(u:List Nat) (o:List aD),i∉u->(uS u o)[i]? =o[i]?
 |[],_,_=>rfl
 |j::u,o,h=>by simp only[gE,not_or]at h;rw[uS,FK i u _ h.2,Ty j i o h.1]
theorem dN.Lc{a:Act}{w:World}{k:Nat}{ok:aD}(hlive:ok.live=true):∀(u:List Nat) {s:AS} {G:List CO} {g:CO},dN B s G a w->Aw.look s.o G k ok g->u.Nodup->k∉u->(∀j∈u,∃ob,s.o[j]? =some ob/\ob.live=true)->
  ∃G' g',dN B ⟨s.t,uS u s.o⟩ G' a w/\dF w (env B s.o G w) w (env B (uS u s.o) G' w)/\Aw.look (uS u s.o) G' k ok g'/\g'.a=g.a/\g'.cap=g.cap/\(∀b,g'.F b↔g.F b\/Of s.o G u b)
 |[],s,G,g,r,hl,_,_,_=>⟨G,g,r,dF.refl _ _,hl,rfl,rfl,λb=>⟨.inl,λh=>h.elim id (λ⟨i,_,_,hi,_⟩=>by simp at hi)⟩⟩
 |j::u,s,G,g,r,hl,hn,hk,hu=>by
  simp only[gE,not_or]at hk;obtain⟨oj,hoj,hjl⟩:=hu j (by simp);obtain⟨gj,hlj⟩:=r.look hoj;have htr:=r.OD hk.1 hl hlj hlive hjl;have hk1:Gz j s.o=s.o.set j oj.kill:=by simp[Gz,hoj]
  have hlk:Aw.look (s.o.set j oj.kill) (G.set k {g with F:=λb=>g.F b\/gj.F b}) k ok {g with F:=λb=>g.F b\/gj.F b}:=by refine⟨by rw[gR (wA hk.1)];exact hl.1,?_⟩;have:=(cQ.1 hl.2).1;simp[this]
  have hnu:=mC.1 hn;obtain⟨G',g',r',k',BU,ha,hc,hF⟩:=dN.Lc hlive u htr.1 hlk hnu.2 hk.2 (λi hi=>by
   obtain⟨ob,h1,h2⟩:=hu i (by simp[hi]);have hne:i≠j:=λe=>hnu.1 (e▸hi)
   exact⟨ob,by simp only;rw[gR (wA hne)];exact h1,h2⟩)
  refine⟨G',g',by rw[uS,hk1];exact r',by rw[uS,hk1];exact htr.2.trans k',by rw[uS,hk1];exact BU,ha,hc,λb=> ?_⟩;rw[hF b];have Mk:Of (s.o.set j oj.kill) (G.set k {g with F:=λb=>g.F b\/gj.F b}) u b↔Of s.o G u b:=by
   constructor
   .rintro ⟨i,ob,gi,hi,Og,hil,hf⟩;have hne:i≠j:=λe=>hnu.1 (e▸hi)
    have hnk:i≠k:=λe=>hk.2 (e▸hi)
    exact⟨i,ob,gi,hi,⟨by have:=Og.1;rwa[gR (wA hne)]at this,by have:=Og.2;rwa[gR (wA hnk)]at this⟩,hil,hf⟩
   .rintro ⟨i,ob,gi,hi,Og,hil,hf⟩;have hne:i≠j:=λe=>hnu.1 (e▸hi)
    have hnk:i≠k:=λe=>hk.2 (e▸hi)
    exact⟨i,ob,gi,hi,⟨by rw[gR (wA hne)];exact Og.1,by rw[gR (wA hnk)];exact Og.2⟩,hil,hf⟩
  rw[Mk];constructor
  .rintro ((h|h)|⟨i,ob,gi,hi,h⟩)
   .exact .inl h
   .exact .inr ⟨j,oj,gj,by simp,hlj,hjl,h⟩
   .exact .inr ⟨i,ob,gi,by simp[hi],h⟩
  .rintro (h|⟨i,ob,gi,hi,Og,h⟩)
   .exact .inl (.inl h)
   .rcases gE.1 hi with rfl|hi
    .obtain ⟨rfl,rfl⟩:=iD hlj Og;exact .inl (.inr h.2)
    .exact .inr ⟨i,ob,gi,hi,Og,h⟩
mutual
theorem af{o:List aD}:∀{av:AV},gP o av=true->∀j∈iN av,∃ob,o[j]? =some ob/\ob.live=true
 | .obj i ver,h,j,hj=>by
  simp only[iN,nF]at hj;subst hj;simp only[gP]at h;cases ho:AV.isObj o j ver with
  |none=>simp[ho]at h
  |some ob=>have:=jB ho;exact⟨ob,this.1,this.2.1⟩
 | .agg c,h,j,hj=>yI (by simpa [gP]using h) j (by simpa [iN]using hj)
 | .iP c,h,j,hj=>yI (by simpa [gP]using h) j (by simpa [iN]using hj)
 | .int _ _,_,j,hj=>by simp[iN]at hj
 | .bool _,_,j,hj=>by simp[iN]at hj
 | .str _,_,j,hj=>by simp[iN]at hj
 | .sl _ _ _,_,j,hj=>by simp[iN]at hj
 | .fH _ _ _,_,j,hj=>by simp[iN]at hj
 | .ptr _ _ _ _,_,j,hj=>by simp[iN]at hj
 | .fn _ _,_,j,hj=>by simp[iN]at hj
 | .undef,_,j,hj=>by simp[iN]at hj
theorem yI{o:List aD}:∀{c:List AV},lM o c=true->∀j∈jF c,∃ob,o[j]? =some ob/\ob.live=true
 |[],_,j,hj=>by simp[jF]at hj
 |x::xs,h,j,hj=>by
  simp only[lM,eI]at h;simp only[jF,fS]at hj;rcases hj with hj|hj
  .exact af h.1 j hj
  .exact yI h.2 j hj
end
def AV.Ab:AV->Bool
 | .agg _=>true
 |x=>x.Mg
theorem aKl{w:World}{E:Env}{x:AV}{v:Value}{fp:List Nat}(hg:x.Ab=true)(h:R w E x v fp):Rc w E x.cells v.cells.toList fp/\(∀c∈v.cells.toList,c.oneCell'=true):=by
 have one:∀{x:AV} {v:Value} {fp:List Nat},R w E x v fp->x.cells=[x]->v.cells=#[v]->v.oneCell'=true->Rc w E x.cells v.cells.toList fp/\(∀c∈v.cells.toList,c.oneCell'=true):=by intro x v fp h h1 h2 h3;rw[h1,h2];exact⟨by simp only[Rc];exact⟨fp,[],h,rfl,by simp⟩,by simpa using h3⟩
 cases x with
 |int k n=>have h':=h;simp only[R]at h';obtain⟨rfl,_⟩:=h';exact one h rfl rfl rfl
 |bool b=>have h':=h;simp only[R]at h';obtain⟨rfl,_⟩:=h';exact one h rfl rfl rfl
 |str b=>have h':=h;simp only[R]at h';obtain⟨rfl,_⟩:=h';exact one h rfl rfl rfl
 |sl g n l=>
  have h':=h;simp only[R]at h';rcases h' with⟨hd,_⟩|⟨a,cap,rfl,_⟩
  .cases g with
   |own=>exact hd.elim
   |view=>exact hd.elim
   |iZ i=>cases hg
  .exact one h rfl rfl rfl
 |fH g c off=>
  have h':=h;simp only[R]at h';rcases h' with⟨hd,_⟩|⟨_,b,o,cs,rfl,_⟩
  .cases g with
   |own=>exact hd.elim
   |view=>exact hd.elim
   |iZ i=>cases hg
  .exact one h rfl rfl rfl
 |agg c=>simp only[R]at h;obtain⟨cs,rfl,ho,hr⟩:=h;exact⟨by simpa [AV.cells,Value.cells]using hr,by simpa [Value.cells]using ho⟩
 |fn f c=>have h':=h;simp only[R]at h';obtain⟨_,cs,rfl,_⟩:=h';exact one h rfl rfl rfl
 |obj _ _=>cases hg
 |ptr _ _ _ _=>cases hg
 |iP c=>cases hg
 |undef=>cases hg
theorem Oh{w:World}{E:Env}{n:Nat}:∀{xs:List AV} {vs:List Value} {fp:List Nat},Rc w E xs vs fp->(∀x∈xs,x.Ab=true/\x.cells.length=n)->
  Rv w E (xs.map AV.cells) (vs.flatMap λv=>v.cells.toList) n fp/\(∀v∈vs,v.cells.size=n)
 |[],[],fp,h,_=>by simp only[Rc]at h;simp[Rv,h]
 |[],_::_,_,h,_=>by simp[Rc]at h
 |_::_,[],_,h,_=>by simp[Rc]at h
 |x::xs,v::vs,fp,h,hg=>by
  simp only[Rc]at h;obtain⟨f1,f2,h1,h2,rfl⟩:=h;have hx:=hg x (by simp);have hc:=aKl hx.1 h1;have hlen:=fA hc.1;have ih:=Oh h2 (λy hy=>hg y (by simp[hy]));constructor
  .simp only[lA,DP,Rv];exact⟨v.cells.toList,_,f1,f2,rfl,by rw[hlen,hx.2],hc.2,hc.1,ih.1,rfl⟩
  .intro u hu;rcases gE.1 hu with rfl|hu
   .simpa [hx.2]using hlen
   .exact ih.2 u hu
theorem Ld(off:Nat):∀(l:List Value) (k:Nat) (pre:List Value) (rest:List Value),pre.length=off+k->l.length<=rest.length->
  ((l.zipIdx k).foldl (λ(cs:Array Value) (p:Value×Nat)=>cs.setIfInBounds (off+p.2) p.1) (pre++rest).toArray)=(pre++l++rest.drop l.length).toArray
 |[],k,pre,rest,_,_=>by simp
 |x::xs,k,pre,rest,hp,hl=>by
  cases rest with
  |nil=>simp at hl
  |cons y ys=>
   simp only[zipIdx_cons,Fi];have:(pre++y::ys).toArray.setIfInBounds (off+k) x=((pre++[x])++ys).toArray:=by rw[<-hp];simp
   rw[this,Ld off xs (k+1) (pre++[x]) ys (by simp[hp,oE]) (by simpa using hl)];simp
theorem Tz(size:Nat):∀(vs:List Value) (k:Nat) (pre rest:List Value),(∀v∈vs,v.cells.size=size)->pre.length=k*size->rest.length=vs.length*size->
  Instr.fill (λi=>some (i*size,size)) (pre++rest).toArray ((vs.zipIdx k).map λp=>(p.2,p.1))=some (pre++vs.flatMap λv=>v.cells.toList).toArray
 |[],k,pre,rest,_,_,hr=>by have:rest=[]:=lB (by simpa using hr);subst this;simp[Instr.fill]
 |v::vs,k,pre,rest,hv,hp,hr=>by
  have h1:=hv v (by simp);have hr':rest.length=vs.length*size+size:=by rw[hr];simp[rB]
  simp only[zipIdx_cons,lA,Instr.fill];have hc:¬((v.cells.size≠size) || decide (k*size+v.cells.size > (pre++rest).toArray.size))=true:=by simp[h1];omega
  rw[eK (by simpa using hc)];have hz:v.cells.zipIdx.foldl (λ(cs:Array Value) (p:Value×Nat)=>cs.setIfInBounds (k*size+p.2) p.1) (pre++rest).toArray=(pre++v.cells.toList++rest.drop v.cells.toList.length).toArray:=by have:=Ld (k*size) v.cells.toList 0 pre rest (by simpa using hp) (by simp[h1];omega);rw[<-this,<-Array.foldl_toList,Array.toList_zipIdx]
  rw[hz,Tz size vs (k+1) (pre++v.cells.toList) _ (λu hu=>hv u (by simp[hu])) (by simp[hp,h1,rB]) (by simp[h1];omega)];simp
theorem dN.aGg{G:List CO}{a:Act}{w:World}(r:dN B s G a w){i idx off:Nat}{ob:aD}{g:CO}{e c:List AV}{vs:List Value}{fpo fp2:List Nat}(hl:Aw.look s.o G i ob g)(hlive:ob.live=true)(tY:ob.box=false)(he:ob.dM[idx]? =some e)
  (yF:off+c.length<=e.length) (hone:∀x∈vs,x.oneCell'=true) (hr:Rc w (env B s.o G w).plain c vs fp2)
  (hown:qH w (env B s.o G w).plain ob.n ob.dM g.a g.cap fpo) (aKm:(fpo++fp2).Nodup) (hF0:∀b∈fpo++fp2,g.F b):
  ∃b f,g.a=some ⟨b,f,none⟩/\(storeCells ⟨b,f+(idx*ob.n+off),none⟩ vs).run P w= .ok () (w.setCells b (f+(idx*ob.n+off)) vs)/\
   dN B (s.stored i idx off ob e c) (G.set i g) a (w.setCells b (f+(idx*ob.n+off)) vs):=by
 have hvl:=fA hr;rcases hown with⟨hlen,⟨h,_⟩|⟨b,f,C,ty,fz,nU,ha,hb,hz,h1,h2,h3,rfl,Nu⟩⟩
 .rw [h]at he;simp at he
 obtain⟨f1,f2,f3,cs,hfe,hn,hc,WQ,sK,hr1,hr3⟩:=Ac Nu he;have Ea:=fA sK;have aKg:idx<ob.dM.length:=(cQ.1 he).1;have hmul:(idx+1)*ob.n<=g.cap*ob.n:=pT _ (by omega);have Hw:(idx+1)*ob.n=idx*ob.n+ob.n:=by rw[rB];omega
 have aAe:f+(idx*ob.n+off)+vs.length<=C.size:=by omega
 refine⟨b,f,ha,yT hb hz aAe hone,?_⟩;have DF:g.F b:=hF0 b (by simp);have CG:∀b',b'≠b->(w.setCells b (f+(idx*ob.n+off)) vs).heap[b']? =w.heap[b']?:=λb' hne=>uP b b' hne _ _ _
 obtain⟨C',hC',hCs⟩:=wD b ty fz vs (f+(idx*ob.n+off)) w C hb;have hm:=r.modify hl hlive {ob with dM:=ob.dM.set idx (e.take off++c++e.drop (off+c.length))} g (w.setCells b (f+(idx*ob.n+off)) vs) (eE _) rfl (λ_=>⟨rfl,rfl,by simp⟩) (λb hb=> .inl hb) (λb hb hne=>⟨hb,hne⟩)
  (λb' hlt hne=>CG b' (λe=>hne ⟨e▸DF,⟨b,f,none⟩,ha,e⟩)) (by rw[uQ];exact eE _) (λk _=>by
  generalize env B (s.o.set i {ob with dM:=ob.dM.set idx (e.take off++c++e.drop (off+c.length))}) (G.set i g) (w.setCells b (f+(idx*ob.n+off)) vs)=E' at k⊢;have kb:=k.plain;simp only[Jp,tY,Env.of,cX,eS];obtain⟨g1,g2,rfl,WB,ry⟩:=rP off sK;obtain⟨g3,g4,rfl,hc3,hc4⟩:=rP c.length ry;subst hfe;have aOb:=aKm;simp only[cW,mC]at aOb;obtain⟨hbn,hnd⟩:=aOb;have hp:(f1++(g1++fp2++g4)++f3).Perm ((f1++(g1++g4)++f3)++fp2):=by
   have e1:(g1++fp2++g4++f3).Perm (g1++g4++f3++fp2):=by simp only[sB];refine Fk g1 ?_;rw[<-sB g4];exact perm_append_comm
   simpa only[sB]using Fk f1 e1
  have hsub:(f1++(g1++g4)++f3++fp2).Sublist (f1++(g1++(g3++g4))++f3++fp2):=(((sX f1).append ((sX g1).append (sublist_append_right g3 g4))).append (sX f3)).append (sX fp2);have hin:∀x,x∈f1++(g1++fp2++g4)++f3->x∈f1++(g1++(g3++g4))++f3++fp2:=λx hx=>hsub.subset (hp.subset hx)
  have hold:∀x∈f1++(g1++fp2++g4)++f3,(w.setCells b (f+(idx*ob.n+off)) vs).heap[x]? =w.heap[x]?:=λx hx=>CG x (λe=>hbn (e▸hin x hx))
  have BX:∀j,j<f+(idx*ob.n+off)\/f+(idx*ob.n+off)+vs.length<=j->(w.setCells b (f+(idx*ob.n+off)) vs).cell? ⟨b,j,none⟩=w.cell? ⟨b,j,none⟩:=λj hj=>Dd b vs _ w _ (λ_ _=>hj)
  have hti:(ob.dM.take idx).length=idx:=by simp;omega
  refine⟨b::(f1++(g1++fp2++g4)++f3),⟨by simpa using hlen,.inr ⟨b,f,C',ty,fz,_,ha,hC',by rw[hCs];exact hz,by rw[hCs];exact h1,by simpa using h2,h3,rfl,?_⟩⟩,?_,?_⟩
  .show Rr _ _ (ob.dM.set idx _) b f ob.n _;refine WI (cs:=cs.take off++vs++cs.drop (off+vs.length)) aKg ?_ ?_ ?_ ?_ ?_ ?_
   .simp only[eM,oY,AI];omega
   .have WB:dU w b (f+idx*ob.n) cs:=hc;have htl:(cs.take off).length=off:=by simp;omega
    refine dU.append.2 ⟨dU.append.2 ⟨?_,?_⟩,?_⟩
    .intro j v hv;have hj:=(cQ.1 hv).1;rw[htl]at hj;rw[BX _ (by omega)];exact WB.take j v hv
    .intro j v hv;have hj:j<vs.length:=(cQ.1 hv).1;rw[htl,oE f];have:=DE b vs (f+(idx*ob.n+off)) w (λj hj=>by
      have:f+(idx*ob.n+off)+j<C.size:=by omega
      simp[World.cell?,hb,this]) j hj
     rw[this];rw[aE hj]at hv;exact hv
    .intro j v hv;simp only[eM,htl];rw[BX _ (by omega)];have:=WB.drop (k:=off+vs.length) j v hv
     rwa[show f+idx*ob.n+(off+vs.length)+j=f+idx*ob.n+(off+vs.length)+j from rfl]at this
   .intro x hx;simp only[fS]at hx;rcases hx with(hx|hx)|hx
    .exact WQ x (pC hx)
    .exact hone x hx
    .exact WQ x (AG hx)
   .refine iQ (iQ (dX kb _ _ _ (λx hx=>hold x (by simp[hx])) WB) (dX kb _ _ _ (λx hx=>hold x (by simp[hx])) hr)) ?_
    rw[<-hvl,<-yW,<-yW]at*;rw[hvl]at*;exact dX kb _ _ _ (λx hx=>hold x (by simp[hx])) hc4
   .refine Oy kb BX (λx hx=>hold x (by simp[hx])) (.inl ?_) hr1
    rw[hti];omega
   .refine Oy kb BX (λx hx=>hold x (by simp[hx])) (.inr ?_) hr3
    omega
  .exact mC.2 ⟨λh=>hbn (hin b h),hp.nodup_iff.2 (hsub.nodup hnd)⟩
  .intro x hx;rcases gE.1 hx with rfl|hx
   .exact DF
   .exact hF0 x (by
     have:=hin x hx;simp only[cW,gE];exact .inr this))
 exact hm.1
theorem Ei(o:List aD):∀c:List AV,(rC o c).length=c.length
 |[]=>rfl
 |_::xs=>by simp[rC,Ei o xs]
def AS.shut(s:AS)(i idx off:Nat)(ob:aD)(e c:List AV):AS:=
 AS.stored ⟨s.t,uS (jF c) s.o⟩ i idx off ob e (rC s.o c)
theorem Lf(t:TypeId)(x y:Operand){i ver idx off:Nat}{ob:aD}{e:List AV}(hx:s.ev x= .ptr i ver idx off)(ho:AV.isObj s.o i ver=some ob)(he:ob.dM[idx]? =some e)
  (hfy:(s.ev y).fit s.o=true) (hsz:wF P t=some (s.ev y).cells.length) (yF:off+(s.ev y).cells.length<=e.length) (tY:ob.box=false)
  (qE:lM s.o (s.ev y).cells=true) (hu:(jF (s.ev y).cells).Nodup) (hi:i∉jF (s.ev y).cells):
  Step P B ⟨dst,.store t x y,ty,pos,after,gd⟩ s ((s.shut i idx off ob e (s.ev y).cells).put dst .undef):=
 Oz λG a w r=>by
  obtain⟨g,b,f,hl,hlive,ha,hv⟩:=r.ptr hx ho;have hc:=Od hfy (r.ev y);obtain⟨fp,sK,hnd,Mk⟩:=Hr r _ _ qE hu hc.1;obtain⟨fpo,hown,HV,Oi⟩:=r.ok i ob g hl hlive;simp only[tY,Env.of,cX,eS]at hown;obtain⟨G2,g2,r2,k2,Ju,ha2,ry,ae⟩:=dN.Lc (k:=i) (ok:=ob) hlive _ r hl hu hi (λj hj=>yI qE j hj);have zn:(fpo++fp).Nodup:=gS.2 ⟨HV,hnd,λb hb b' hb' e=>by
   subst e;obtain⟨j,ob',g',hj,BU,wC,hF'⟩:=Mk b hb';have:=r.apart i j _ _ _ _ b hl BU hlive wC (Oi b hb) hF';exact hi (this▸hj)⟩
  obtain⟨b',f',vB,hst,Hg⟩:=r2.aGg (P:=P) (c:=rC s.o (s.ev y).cells) Ju hlive tY he (by rw[Ei];exact yF) hc.2.1
   (dX k2.plain _ _ _ (λ_ _=>rfl) sK) (by rw[ha2,ry];exact hown.keeps k2.plain (λ_ _=>rfl)) zn (λb hb=>by
    rcases fS.1 hb with hb|hb
    .exact (ae b).2 (.inl (Oi b hb))
    .exact (ae b).2 (.inr (Mk b hb)))
  rw[ha2,ha]at vB;simp only[eA,nB,qT]at vB;obtain⟨rfl,rfl⟩:=vB;have hlen:=fA hc.1;refine⟨_,?_,_,Hg.put dst (by simp[R])⟩;unfold wF at hsz;cases hi':P.info? t with
  |none=>simp[hi']at hsz
  |some inf=>
   simp only[hi',mA,eA]at hsz;have aAf:(a.eval y).cells.size=inf.size:=by rw[hsz];simpa using hlen
   simp[execOp,hv,Instr.storeAt,Instr.sureAddr,storeVar,sizeOf,typeInfo,hi',aAf,hst]
def AS.built(s:AS)(d:Option Tmp)(n:Nat)(xs:List Operand):AS:=
 AS.put ⟨s.t,(uS (jF (xs.map s.ev)) (s.o++[⟨true,false,n,0,[]⟩])).set s.o.length ⟨true,false,n,1,(rC s.o (xs.map s.ev)).map AV.cells⟩⟩ d (.obj s.o.length 1)
def vC(parts:List (Nat×Operand)):Bool:=go 0 parts
where go:Nat -> List (Nat × Operand) -> Bool
 |_,[]=>true
 |k,p::r=>p.1 == k&&go (k+1) r
theorem CJ:∀(parts:List (Nat×Operand)) (k:Nat),vC.go k parts=true->parts=((parts.map (·.2)).zipIdx k).map λp=>(p.2,p.1)
 |[],_,_=>rfl
 |p::r,k,h=>by simp only[vC.go,eI,CA]at h;simp only[lA,zipIdx_cons];rw[<-CJ r (k+1) h.2,<-h.1]
theorem wG{t e:TypeId}{n by' len:Nat}{vs:List Value}{w:World}(he:lQ P t=some (e,n,by'))(hz:iR P e n=true)(hlen:len=vs.length)(hbig:len*n<=16777216)(hv:∀v∈vs,v.cells.size=n):
  (Instr.buildSlice t len ((vs.zipIdx).map λp=>(p.2,p.1)).toArray).run P w= .ok (.slice (some ⟨w.heap.size,0,none⟩) len len) (w.alloc (.cells (vs.flatMap λv=>v.cells.toList).toArray e)):=by
 obtain⟨hu,inf,hi,hs,_⟩:=pJ he;obtain⟨z,hz1,hz2⟩:=Bb hz hi;have hb:¬(16777216<len*inf.size):=by rw[hs];omega
 have hf:∀arr:Array Value,arr.size=len*n->Instr.fill (λi=>some (i*inf.size,inf.size)) arr ((vs.zipIdx).map λp=>(p.2,p.1))=some (vs.flatMap λv=>v.cells.toList).toArray:=by intro arr ha;have:=Tz inf.size vs 0 [] arr.toList (by rw[hs];exact hv) (by simp) (by simp[ha,hs,hlen]);simpa using this
 by_cases h0:len*inf.size=0
 .have:=hf #[] (by rw[<-hs,h0];rfl);simp[Instr.buildSlice,gC hu,sizeOf,typeInfo,hi,h0,Array.range_zero',this,newRow]
 .have:=hf ((Array.range (len*inf.size)).map (z.cells[· % z.cells.size]!)) (by simp[hs]);simp[Instr.buildSlice,gC hu,sizeOf,typeInfo,hi,hb,h0,zeroValue,hz1,this,newRow]
theorem Nv(t:TypeId)(len:Nat)(parts:Array (Nat×Operand)){e:TypeId}{n by':Nat}(he:lQ P t=some (e,n,by'))(hz:iR P e n=true)(Le:vC parts.toList=true)(hlen:len=parts.toList.length)(hbig:len*n<=16777216)(aWh:len<=16777216)
  (qE:lM s.o ((parts.toList.map (·.2)).map s.ev)=true) (hu:(jF ((parts.toList.map (·.2)).map s.ev)).Nodup)
  (hgood:∀x∈rC s.o ((parts.toList.map (·.2)).map s.ev),x.Ab=true/\x.cells.length=n):
  Step P B ⟨dst,.buildSlice t len parts,ty,pos,after,gd⟩ s (s.built dst n (parts.toList.map (·.2))):=
 qI λG a w r=>by
  generalize hxs:parts.toList.map (·.2)=xs at*;have yU:parts.toList=(xs.zipIdx).map λp=>(p.2,p.1):=by rw[<-hxs];exact CJ _ 0 Le
  obtain⟨fp,sK,hnd,Mk⟩:=Hr r _ _ qE hu (qJ r xs);obtain⟨Mf,hsz⟩:=Oh sK hgood;have hvl:(xs.map a.eval).length=len:=by rw[hlen,<-hxs];simp
  have fV:(execOp a.eval ⟨dst,.buildSlice t len parts,ty,pos,after,gd⟩).run P w= .ok (.value (.slice (some ⟨w.heap.size,0,none⟩) len len)) (w.alloc (.cells ((xs.map a.eval).flatMap λv=>v.cells.toList).toArray e)):=by
   have e1:parts.map (λ(i,x)=>(i,a.eval x))=(((xs.map a.eval).zipIdx).map λp=>(p.2,p.1)).toArray:=by apply AM;simp only[An,yU,map_map,zipIdx_map];rfl
   have:=wG (P:=P) (t:=t) (len:=len) (w:=w) he hz hvl.symm hbig hsz;simp only[execOp,e1,oA,this,lP,sY]
  have Hu:=r.add [⟨true,false,n,0,[]⟩] [⟨none,0,λ_=>False⟩] w rfl (eE _) (λ_ _=>rfl) (λj ob g b hl _ hF=>by
   cases j with
   |zero=>obtain⟨_,h2⟩:=hl;simp at h2;subst h2;exact hF.elim
   |succ j=>simp[Aw.look]at hl) (λi j _ _ gi _ b hi hj _ _ Ef _=>by
   cases i with
   |zero=>obtain⟨_,h2⟩:=hi;simp at h2;subst h2;exact Ef.elim
   |succ i=>simp[Aw.look]at hi) (λk j ob g hl _=>by
   cases j with
   |zero=>obtain⟨h1,h2⟩:=hl;simp at h1 h2;subst h1;subst h2;exact⟨[],⟨by simp,.inl ⟨rfl,rfl,rfl⟩⟩,by simp,by simp⟩
   |succ j=>simp[Aw.look]at hl)
  have hlk:Aw.look (s.o++[⟨true,false,n,0,[]⟩]) (G++[⟨none,0,λ_=>False⟩]) s.o.length ⟨true,false,n,0,[]⟩ ⟨none,0,λ_=>False⟩:=⟨by simp,by rw[<-r.len];simp⟩;have hlive:∀j∈jF (xs.map s.ev),∃ob,s.o[j]? =some ob/\ob.live=true:=λj hj=>yI qE j hj
  have hlt:∀j∈jF (xs.map s.ev),j<s.o.length:=λj hj=>by obtain⟨ob,h,_⟩:=hlive j hj;exact(cQ.1 h).1
  obtain⟨G2,g2,r2,k2,Ju,ha2,ry,ae⟩:=dN.Lc (k:=s.o.length) (ok:=⟨true,false,n,0,[]⟩) rfl _ Hu.1 hlk hu (λh=>by have:=hlt _ h;omega) (λj hj=>by
   obtain⟨ob,h1,h2⟩:=hlive j hj;exact⟨ob,by simp only;rw[pS (hlt j hj)];exact h1,h2⟩)
  have aN8:∀b∈fp,g2.F b:=λb hb=>by obtain⟨i,ob,g,hi,Og,hil,hf⟩:=Mk b hb;exact(ae b).2 (.inr ⟨i,ob,g,hi,jK Og,hil,hf⟩)
  have kk:=(Hu.2.trans k2).plain;have hfl:∀b∈fp,b<w.heap.size:=λb hb=>(r2.fresh _ _ _ b Ju rfl (aN8 b hb)).2
  generalize hCd:((xs.map a.eval).flatMap λv=>v.cells.toList)=cs at*;have Ea:=lL Mf;have Ed:(w.alloc (.cells cs.toArray e)).heap[w.heap.size]? =some (.cells cs.toArray e):=jP w _;have hrl:((rC s.o (xs.map s.ev)).map AV.cells).length=len:=by have:=fA sK;rw[oT,<-this,hvl]
  have OQ:len<=maxLen:=by simp only[maxLen];omega
  have hm:=r2.modify Ju rfl ⟨true,false,n,1,(rC s.o (xs.map s.ev)).map AV.cells⟩ ⟨some ⟨w.heap.size,0,none⟩,len,λb=>g2.F b\/b=w.heap.size⟩ (w.alloc (.cells cs.toArray e)) (by simp) rfl (by simp)
   (λb hb=>by
    rcases hb with hb|hb
    .exact .inl hb
    .right;subst hb;simp) (λb hb hne=>⟨.inl hb,λa' vB=>by
     obtain rfl:=cU vB;have:=(r2.fresh _ _ _ b Ju rfl hb).2;simp only;omega⟩) (λb hlt _=>heap_alloc w _ b hlt) (by simp) (λk _=>by
   refine⟨w.heap.size::fp,?_,?_,?_⟩
   .generalize env B _ _ (w.alloc (.cells cs.toArray e))=E' at k⊢;simp only[Env.of,cX,eS];refine⟨by rw[hrl];exact OQ,.inr ⟨w.heap.size,0,cs.toArray,e,(0,0),fp,rfl,Ed,.inr rfl,?_,by rw[hrl];exact eE _,OQ,rfl,?_⟩⟩
    .simp [Ea];rw[<-hrl];simp
    .refine sS.2 ⟨cs,uR k.plain (λb hb=>heap_alloc w _ b (hfl b hb)) (uR kk (λ_ _=>rfl) Mf),?_⟩
     refine rV Ed (λj v hv=>by simpa using hv)
   .refine mC.2 ⟨λh=>by have:=hfl _ h;omega,hnd⟩
   .intro b hb;rcases gE.1 hb with rfl|hb
    .exact .inr rfl
    .exact .inl (aN8 b hb))
  refine⟨_,_,fV,_,hm.1.put dst ?_⟩;simp only[R];have h1:=(cQ.1 Ju.1).1;have h2:=(cQ.1 Ju.2).1;refine⟨trivial,⟨true,false,n,1,(rC s.o (xs.map s.ev)).map AV.cells⟩,⟨some ⟨w.heap.size,0,none⟩,len,λb=>g2.F b\/b=w.heap.size⟩,⟨?_,?_⟩,eE _,⟨λ_ _=>by simp only[hrl],λh=>by omega⟩⟩
  .rw [lR h1]
  .rw [lR h2]
def jW(P:Program)(t:TypeId):Option (List (Nat×Nat)):=
 match P.underlying t with
 |some (.struct fields)=>fields.toList.mapM (λf=>(P.info? f.type).map λi=>(f.offset,i.size))
 |some (.array _ e)=>if (P.info? e).isSome then some []else none
 |_=>none
def Ml(pl:List (Nat×Nat)):List AV->List (Nat×AV)->Option (List AV)
 |cs,[]=>some cs
 |cs,(i,x)::rest=>match pl[i]? with
  |some (off,size)=>if x.cells.length=size/\off+size<=cs.length then Ml pl (cs.take off++x.cells++cs.drop (off+size)) rest else none
  |none=>none
theorem sj{G:List CO}{a:Act}{w:World}(r:dN B s G a w)(pl:List (Nat×Nat)):∀(parts:List (Nat×Operand)) (cs:List AV) (vs:List Value) (z:List AV),(∀p∈parts,(s.ev p.2).fit s.o=true)->
  Rc w (env B s.o G w) cs vs []->(∀x∈vs,x.oneCell'=true)->Ml pl cs (parts.map λp=>(p.1,s.ev p.2))=some z->
  ∃vs',Instr.fill (pl.toArray[·]?) vs.toArray (parts.map λp=>(p.1,a.eval p.2))=some vs'.toArray/\Rc w (env B s.o G w) z vs' []/\∀x∈vs',x.oneCell'=true
 |[],cs,vs,z,_,h,ho,hz=>by simp only[Ds,Ml,eA]at hz;subst hz;exact⟨vs,rfl,h,ho⟩
 |(i,x)::rest,cs,vs,z,hf,h,ho,hz=>by
  simp only[lA,Ml]at hz;cases hp:pl[i]? with
  |none=>simp[hp]at hz
  |some p=>
   obtain⟨off,size⟩:=p;simp only[hp]at hz;split at hz
   .rename_i hc;have hx:=Od (hf (i,x) (by simp)) (r.ev x);have hxl:=fA hx.1;have hl:=fA h;obtain⟨f1,f2,e,h1,h2⟩:=rP off h;obtain⟨rfl,rfl⟩:f1=[]/\f2=[]:=by simpa using e.symm
    obtain⟨f1,f2,e,h3,h4⟩:=rP size h2;obtain⟨rfl,rfl⟩:f1=[]/\f2=[]:=by simpa using e.symm
    rw[yW,yW]at h4;have hnew:=iQ (iQ h1 hx.1) h4;have hvl:(vs.take off).length=off:=by simp;omega
    obtain⟨vs',h5,h6,h7⟩:=sj r pl rest _ (vs.take off++(a.eval x).cells.toList++vs.drop (off+size)) z (λp hp=>hf p (by simp[hp])) hnew (λy hy=>by
     simp only[fS]at hy;rcases hy with(hy|hy)|hy
     .exact ho y (pC hy)
     .exact hx.2.1 y hy
     .exact ho y (AG hy)) hz
    refine⟨vs',?_,h6,h7⟩;simp only[lA,Instr.fill];have hpa:pl.toArray[i]? =some (off,size):=by simpa using hp
    have hsz:(a.eval x).cells.size=size:=by rw[<-hc.1,<-hxl];simp
    simp only[hpa];have aOa:¬(((a.eval x).cells.size≠size) || decide (off+(a.eval x).cells.size > vs.toArray.size))=true:=by simp[hsz];omega
    rw[eK (by simpa using aOa)];have:=Ld off (a.eval x).cells.toList 0 (vs.take off) (vs.drop off) (by simpa using hvl) (by simp[hsz];omega);rw[mN]at this;rw[<-Array.foldl_toList,Array.toList_zipIdx,this,<-h5];congr 2;rw[yW];simp[hsz]
   .cases hz
theorem ag(t:TypeId)(parts:Array (Nat×Operand)){pl:List (Nat×Nat)}{z0 z:List AV}(hp:jW P t=some pl)(hz0:nW P t=some z0)(hf:∀p∈parts.toList,(s.ev p.2).fit s.o=true)
  (hz:Ml pl z0 (parts.toList.map λp=>(p.1,s.ev p.2))=some z):Step P B ⟨dst,.build t parts,ty,pos,after,gd⟩ s (s.put dst (.agg z)):=
 dO λG a w r=>by
  unfold nW at hz0;cases hi:P.info? t with
  |none=>simp[hi]at hz0
  |some inf=>
   cases hv:inf.zero with
   |none=>simp[hi,hv]at hz0
   |some zv=>
    simp only[hi,hv,tM]at hz0;split at hz0
    .rename_i hall;obtain rfl:=cU hz0;obtain⟨vs',h1,h2,h3⟩:=sj r pl parts.toList _ zv.cells.toList z hf (FE w _ _ _) (fW.1 hall) hz;refine⟨.agg vs'.toArray,?_,by simp only[R];exact⟨vs',rfl,h3,h2⟩⟩;unfold jW at hp;split at hp
     .rename_i fields hu;have hb:P.built t (parts.map λp=>(p.1,a.eval p.2)).toList=some vs'.toArray:=by
       simp only[Program.built,hi,hu,hv,hp];rw[An,<-h1]
      have fV:=run_build (P:=P) w t (parts.map λp=>(p.1,a.eval p.2)) vs'.toArray hb;simp only[execOp,oA];rw[show(parts.map λ(x:Nat×Operand)=>match x with|(i,x)=>(i,a.eval x))=parts.map λp=>(p.1,a.eval p.2)from rfl,fV];rfl
     .rename_i n e hu;split at hp
      .rename_i he;obtain rfl:=cU hp;obtain⟨ie,hie⟩:=AN.1 he;have hpe:parts.toList=[]:=by
        cases hpl:parts.toList with
        |nil=>rfl
        |cons q qs=>rw[hpl]at hz;simp[Ml]at hz
       have hb:P.built t (parts.map λp=>(p.1,a.eval p.2)).toList=some vs'.toArray:=by simp only[Program.built,hi,hu,hv,hie];rw[An,<-h1,hpe];rfl
       have fV:=run_build (P:=P) w t (parts.map λp=>(p.1,a.eval p.2)) vs'.toArray hb;simp only[execOp,oA];rw[show(parts.map λ(x:Nat×Operand)=>match x with|(i,x)=>(i,a.eval x))=parts.map λp=>(p.1,a.eval p.2)from rfl,fV];rfl
      .cases hp
     .cases hp
    .cases hz0
theorem RN(z:Array Value)(n j:Nat)(hj:j<n):(madeCells z n)[j]? =some (z[j%z.size]!):=by simp[madeCells,hj]
theorem Jv{w:World}{E:Env}{c:List AV}{cs:List Value}{n:Nat}(hn:cs.length=n)(ho:∀x∈cs,x.oneCell'=true)(hr:Rc w E c cs []):∀m,Rv w E (replicate m c) (replicate m cs).flatten n []
 |0=>by simp[Rv]
 |m+1=>by simp only[mS,pH,Rv];exact⟨cs,_,[],[],rfl,hn,ho,hr,Jv hn ho hr m,rfl⟩
theorem xB(cs:List Value):∀(m j:Nat),j<m*cs.length->(replicate m cs).flatten[j]? =cs[j%cs.length]?
 |0,j,h=>by simp at h
 |m+1,j,h=>by
  simp only[mS,pH];by_cases hj:j<cs.length
  .rw [pS hj,Nat.mod_eq_of_lt hj]
  .rw [mL (by omega),xB cs m (j-cs.length) (by rw[rB]at h;omega)];congr 1;exact(Nat.mod_eq_sub_mod (by omega)).symm
theorem aAs(t:TypeId){e:TypeId}{n by':Nat}(he:lQ P t=some (e,n,by'))(hz:iR P e n=true):
  Step P B ⟨dst,.buildSlice t 0 #[],ty,pos,after,gd⟩ s (s.put dst (.sl .own n [])):=
 qI λG a w r=>by
  have fV:=wG (P:=P) (t:=t) (len:=0) (w:=w) (vs:=[]) he hz rfl (by omega) (by simp);have Hu:=r.add [] [] (w.alloc (.cells #[] e)) rfl (by simp) (λb hb=>heap_alloc w _ b hb) (λj ob g b hl=>by simp[Aw.look]at hl) (λi j _ _ _ _ b hi=>by simp[Aw.look]at hi) (λk j ob g hl=>by simp[Aw.look]at hl);simp only[eC]at Hu;refine⟨.slice (some ⟨w.heap.size,0,none⟩) 0 0,w.alloc (.cells #[] e),?_,G,Hu.1.put dst ?_⟩
  .have h2:(Instr.buildSlice t 0 #[]).run P w= .ok (.slice (some ⟨w.heap.size,0,none⟩) 0 0) (w.alloc (.cells #[] e)):=by simpa using fV
   simp[execOp,h2]
  .simp only[R];exact .inr ⟨_,0,rfl,⟨by simp,by simp⟩,.inl ⟨trivial,trivial,rfl,trivial⟩⟩
def AS.made(s:AS)(d:Option Tmp)(n:Nat)(l:List (List AV)):AS:=AS.put ⟨s.t,s.o++[⟨true,false,n,1,l⟩]⟩ d (.obj s.o.length 1)
theorem OT(t:TypeId)(x y:Operand){e:TypeId}{n by':Nat}{k k':IntKind}{l c:Int}{z:List AV}(he:lQ P t=some (e,n,by'))(hz:nW P e=some z)(hzn:iR P e n=true)(hx:s.ev x= .int k l)(hy:s.ev y= .int k' c)
  (h0:0<=l) (h1:l<=c) (hb:(by':Int)*c<=281474976710656) (h63:c<=9223372036854775807) (hn0:0<n):
  Step P B ⟨dst,.makeSlice t x y,ty,pos,after,gd⟩ s (s.made dst n (replicate l.toNat z)):=
 qI λG a w r=>by
  obtain⟨hu,inf,hi,hs,hby⟩:=pJ he;obtain⟨zv,hz1,hz2⟩:=Bb hzn hi;have fV:=run_make (P:=P) w t e inf zv hu hi hz1 k k' l c h0 h1 (by rw[hby];exact hb) h63;unfold nW at hz;simp only[hi,hz1,tM]at hz;split at hz
  .rename_i hall;obtain rfl:=cU hz;have hzl:zv.cells.toList.length=n:=by simpa using hz2
   obtain⟨G',r',k',hG⟩:=r.aNt ⟨true,false,n,1,replicate l.toNat (Vb (zv.cells.toList.map Z0) (slN P 8 e))⟩ c.toNat (madeCells zv.cells (c.toNat*inf.size)) e (by simp;omega) (by simp[maxLen];omega) (by simp[size_madeCells,hs]) (λw' E' k hb=>by
    refine sS.2 ⟨_,Jv hzl (fW.1 hall) (FE w' E' _ _) l.toNat,?_⟩;refine rV hb (λj v hv=> ?_);have hj:=(cQ.1 hv).1;have hfl:(replicate l.toNat zv.cells.toList).flatten.length=l.toNat*n:=by simp[hz2]
    rw[hfl]at hj;rw[xB _ _ _ (by rw[hzl];exact hj),hzl]at hv;have hle:l.toNat*n<=c.toNat*inf.size:=by rw[hs];exact pT _ (by omega)
    rw[lO,RN _ _ _ (by omega),hz2];have hm:j%n<zv.cells.size:=by rw[hz2];exact Nat.mod_lt _ hn0
    rw[getElem!_pos zv.cells (j%n) hm];rw[<-hv];simp[hm])
   refine⟨.slice (some ⟨w.heap.size,0,none⟩) l.toNat c.toNat,_,by simp only[execOp,r.Hy hx,r.Hy hy,oA,fV,lP,sY],G',r'.put dst ?_⟩;simp only[R];exact⟨trivial,_,_,Tx hG,eE _,⟨λ_ _=>by simp,λh=>by omega⟩⟩
  .cases hz
def AS.at(s:AS)(i ver idx:Nat):Option (aD×List AV):=
 match AV.isObj s.o i ver with
 |some ob=>match ob.dM[idx]? with
  |some e=>some (ob,e)
  |none=>none
 |none=>none
def zC(P:Program)(t:TypeId)(c:List AV)(off:Nat)(K:AV->Prop):Prop:=
 match jV P t with
 |some n=>off+n<=c.length/\K (.agg ((c.drop off).take n))
 |none=>mH P t=true/\match c[off]? with
  |some y=>K y
  |none=>False
def rM(P:Program)[aB P](o:Oper)(s:AS)(K:AS->Prop):Prop:=
 match o.op with
 | .move x=>K (s.put o.dst (s.ev x))
 | .assign x=>K (s.put o.dst (s.ev x))
 | .pick c x y=>match s.ev c with
  | .bool b=>K (s.put o.dst (if b then s.ev x else s.ev y))
  |_=>False
 | .alloc t=>match nW P t with
  |some z=>K (s.box o.dst z)
  |none=>False
 | .box _ x=>(s.ev x).fit s.o=true/\K (s.box o.dst (s.ev x).cells)
 | .build t parts=>match jW P t with
  |some pl=>match nW P t with
   |some z0=>(∀p∈parts.toList,(s.ev p.2).fit s.o=true)/\match Ml pl z0 (parts.toList.map λp=>(p.1,s.ev p.2))with
    |some z=>K (s.put o.dst (.agg z))
    |none=>False
   |none=>False
  |none=>False
 | .buildSlice t len parts=>match lQ P t with
  |some (e,n,_)=>iR P e n=true/\vC parts.toList=true/\len=parts.toList.length/\len*n<=16777216/\len<=16777216/\
    lM s.o ((parts.toList.map (·.2)).map s.ev)=true/\(jF ((parts.toList.map (·.2)).map s.ev)).Nodup/\
    (∀x∈rC s.o ((parts.toList.map (·.2)).map s.ev),x.Ab=true/\x.cells.length=n)/\K (s.built o.dst n (parts.toList.map (·.2)))
  |none=>False
 | .load t x=>match s.ev x with
  | .ptr i ver idx off=>match s.at i ver idx with
   |some (_,e)=>zC P t (qD (CB i) true e) off λy=>K (s.put o.dst y)
   |none=>False
  | .fH g c off=>(AV.fH g c off).fit s.o=true/\zC P t c off λy=>K (s.put o.dst y)
  |_=>False
 | .store t x y=>match s.ev x with
  | .ptr i ver idx off=>match s.at i ver idx with
   |some (ob,e)=>(s.ev y).fit s.o=true/\wF P t=some (s.ev y).cells.length/\off+(s.ev y).cells.length<=e.length/\
     if (ob.box || (s.ev y).cells.all AV.Mg)=true then K ((s.stored i idx off ob e (s.ev y).cells).put o.dst .undef)
     else lM s.o (s.ev y).cells=true/\(jF (s.ev y).cells).Nodup/\i∉jF (s.ev y).cells/\K ((s.shut i idx off ob e (s.ev y).cells).put o.dst .undef)
   |none=>False
  |_=>False
 | .fieldAddr t x f=>match KU P t f with
  |some fo=>match s.ev x with
   | .ptr i ver idx off=>(AV.isObj s.o i ver).isSome=true/\K (s.put o.dst (.ptr i ver idx (off+fo)))
   | .fH g c off=>(AV.fH g c off).fit s.o=true/\K (s.put o.dst (.fH g c (off+fo)))
   |_=>False
  |none=>False
 | .indexAddr t x ix=>match s.ev ix with
  | .int _ n=>0<=n/\match s.ev x with
   | .obj i ver=>match AV.isObj s.o i ver with
    |some ob=>match lQ P t with
     |some (_,m,_)=>m=ob.n/\(ob.box=false\/ob.ver≠2)/\n<ob.dM.length/\K (s.put o.dst (.ptr i ver n.toNat 0))
     |none=>False
    |none=>False
   | .sl g m l=>(AV.sl g m l).fit s.o=true/\match lQ P t with
    |some (_,m',_)=>m'=m/\match l[n.toNat]? with
     |some c=>K (s.put o.dst (.fH g c 0))
     |none=>False
    |none=>False
   | .ptr i ver idx off=>(AV.isObj s.o i ver).isSome=true/\match aKi P t with
    |some (len,sz)=>n<len/\K (s.put o.dst (.ptr i ver idx (off+n.toNat*sz)))
    |none=>False
   |_=>False
  |_=>False
 | .index t x ix=>match s.ev x with
  | .str l=>match s.ev ix with
   | .int _ n=>isString P t=true/\0<=n/\match l[n.toNat]? with
    |some u=>K (s.put o.dst (.int .u8 u.toNat))
    |none=>False
   |_=>False
  |_=>False
 | .extract x ix=>match s.ev x with
  | .iP c=>match c[ix]? with
   |some y=>K (s.put o.dst y)
   |none=>False
  |_=>False
 | .makeFunc (.func f) ⟨[]⟩ cap=>K (s.put o.dst (.fn f (s.args cap)))
 | .makeSlice t x y=>match lQ P t with
  |some (e,n,by')=>match nW P e with
   |some z=>match s.ev x with
    | .int _ l=>match s.ev y with
     | .int _ c=>iR P e n=true/\0<=l/\l<=c/\(by':Int)*c<=281474976710656/\c<=9223372036854775807/\0<n/\K (s.made o.dst n (replicate l.toNat z))
     |_=>False
    |_=>False
   |none=>False
  |none=>False
 | .slice t x lo hi none=>match s.ev x with
  | .str l=>match s.bound 0 lo with
   |some a=>match s.bound l.length hi with
    |some b=>isString P t=true/\a<=b/\b<=l.length/\K (s.put o.dst (.str ((l.take b).drop a)))
    |none=>False
   |none=>False
  | .sl g n l=>match s.bound 0 lo with
   |some a=>match s.bound l.length hi with
    |some b=>match lQ P t with
     |some (_,m,_)=>m=n/\(AV.sl g n l).fit s.o=true/\a<=b/\b<=l.length/\K (s.put o.dst (.sl g n ((l.take b).drop a)))
     |none=>False
    |none=>False
   |none=>False
  | .obj i ver=>match AV.isObj s.o i ver with
   |some ob=>match s.bound 0 lo with
    |some a=>match s.bound ob.dM.length hi with
     |some b=>match lQ P t with
      |some (_,m,_)=>m=ob.n/\ob.box=false/\a<=b/\b<=ob.dM.length/\K (s.OO o.dst i ob ((ob.dM.take b).drop a))
      |none=>False
     |none=>False
    |none=>False
   |none=>False
  |_=>False
 | .unOp .not _ x=>match s.ev x with
  | .bool b=>K (s.put o.dst (.bool !b))
  |_=>False
 | .unOp .neg _ x=>match s.ev x with
  | .int k n=>K (s.put o.dst (.int k (k.wrap (0-n))))
  |_=>False
 | .binOp op t x y _=>match s.ev x with
  | .int k m=>match s.ev y with
   | .int k' n=>(k'=k\/op= .shr)/\match OJ op k m n with
    |some z=>K (s.put o.dst z)
    |none=>False
   |_=>False
  | .str l=>match s.ev y with
   | .str m=>(op= .add->l.length+m.length<=9223372036854775807)/\match Vj op l m with
    |some z=>K (s.put o.dst z)
    |none=>False
   |_=>False
  | .bool a=>match s.ev y with
   | .bool b=>(op= .eql\/op= .neq)/\Jt P t=true/\K (s.put o.dst (.bool (if op= .eql then a == b else a != b)))
   |_=>False
  | .agg c1=>match s.ev y with
   | .agg c2=>(op= .eql\/op= .neq)/\c1.all AV.scalar=true/\c2.all AV.scalar=true/\∃b,EqA P t c1 c2 b/\K (s.put o.dst (.bool (if op= .eql then b else !b)))
   |_=>False
  |_=>False
 | .convert src d x=>match s.ev x with
  | .int _ n=>match intType P d with
   |some k'=>(P.underlying src).isSome=true/\K (s.put o.dst (.int k' (k'.wrap n)))
   |none=>False
  | .str l=>isString P src=true/\isString P d=true/\K (s.put o.dst (.str l))
  | .sl g n l=>match lQ P src with
   |some (e,m,_)=>m=1/\n=1/\(AV.sl g n l).fit s.o=true/\isString P d=true/\intType P e=some .u8/\∃bs,bytesOf l=some bs/\K (s.put o.dst (.str bs))
   |none=>False
  | .obj i ver=>match AV.isObj s.o i ver with
   |some ob=>match lQ P src with
    |some (e,m,_)=>m=1/\ob.n=1/\isString P d=true/\intType P e=some .u8/\∃bs,bytesOf ob.dM=some bs/\K (s.put o.dst (.str bs))
    |none=>False
   |none=>False
  |_=>False
 | .call ⟨.builtin .len,⟨[x]⟩,⟨[t]⟩⟩=>match s.ev x with
  | .str l=>isString P t=true/\K (s.put o.dst (.int .i64 l.length))
  | .sl g n l=>(AV.sl g n l).fit s.o=true/\isSlice P t=true/\K (s.put o.dst (.int .i64 l.length))
  | .obj i ver=>match AV.isObj s.o i ver with
   |some ob=>isSlice P t=true/\K (s.put o.dst (.int .i64 ob.dM.length))
   |none=>False
  |_=>False
 | .call ⟨.builtin .append,⟨[x,y]⟩,⟨[tS,xT]⟩⟩=>match lQ P tS with
  |some (e,n,by')=>iR P e n=true/\sV P xT=true/\match s.target n (s.ev x)with
   |some (i,ob,s1)=>match s1.source i n (s.ev y)with
    |some (l2,o2)=>(ob.dM.length+l2.length)*by'<=140737488355328/\ob.dM.length+l2.length<=9223372036854775807/\K (s.yH o2 o.dst i ob l2)
    |none=>False
   |none=>False
  |none=>False
 | .call ⟨.value f,args,_⟩=>match s.ev f with
  | .fn g cap=>if aT P g=true then∃r,Ok P g (AY s.o (s.args args++cap)) r/\K (s.called o.dst r)else∃r,OkN P g (AY s.o (s.args args++cap)) r/\K (s.put o.dst r)
  |_=>False
 | .nilCheck x=>match s.ev x with
  | .ptr i ver idx off=>(AV.isObj s.o i ver).isSome=true/\K (s.put o.dst (.ptr i ver idx off))
  | .fH g c off=>(AV.fH g c off).fit s.o=true/\K (s.put o.dst (.fH g c off))
  |_=>False
 |_=>False
def RO(P:Program)(o:Oper)(s:AS)(K:AS->Prop):Prop:=
 match o.op with
 | .buildSlice t 0 ⟨[]⟩=>match lQ P t with
  |some (e,n,_)=>iR P e n=true/\K (s.put o.dst (.sl .own n []))
  |none=>False
 |_=>False
theorem CK{s:AS}{i ver idx:Nat}{ob:aD}{e:List AV}(h:s.at i ver idx=some (ob,e)):AV.isObj s.o i ver=some ob/\ob.dM[idx]? =some e:=by
 unfold AS.at at h;split at h
 .rename_i ob' h1;split at h
  .rename_i e' h2;simp only[eA,oR]at h;obtain⟨rfl,rfl⟩:=h;exact⟨h1,h2⟩
  .cases h
 .cases h
theorem HY{s:AS}{i ver:Nat}(h:(AV.isObj s.o i ver).isSome=true):∃ob,AV.isObj s.o i ver=some ob:=AN.1 h
theorem zo{P:Program}[aB P]{B:fM P}{s:AS}{dst:Option Tmp}{ty:TypeId}{pos:String}{after:Array Edge}{gd:Option (Nat×Bool)}{t:TypeId}{x:Operand}{i ver idx off:Nat}{ob:aD}{e:List AV}{K:AS->Prop}
  (hx:s.ev x= .ptr i ver idx off) (ha:s.at i ver idx=some (ob,e)) (h:zC P t (qD (CB i) true e) off λy=>K (s.put dst y)):∃s',K s'/\Step P B ⟨dst,.load t x,ty,pos,after,gd⟩ s s':=by
 obtain⟨h1,h2⟩:=CK ha;unfold zC at h;split at h
 .rename_i n hn;exact⟨_,h.2,Jq t x hx h1 h2 hn (by have:=h.1;rwa[CE]at this)⟩
 .split at h
  .rename_i y hy;exact⟨_,h.2,Jr t x hx h1 h2 h.1 hy⟩
  .exact h.2.elim
theorem ah{P:Program}[aB P]{B:fM P}{s:AS}{dst:Option Tmp}{ty:TypeId}{pos:String}{after:Array Edge}{gd:Option (Nat×Bool)}{t:TypeId}{x:Operand}{g:Tg}{c:List AV}{off:Nat}{K:AS->Prop}
  (hx:s.ev x= .fH g c off) (hf:(AV.fH g c off).fit s.o=true) (h:zC P t c off λy=>K (s.put dst y)):∃s',K s'/\Step P B ⟨dst,.load t x,ty,pos,after,gd⟩ s s':=by
 unfold zC at h;split at h
 .rename_i n hn;exact⟨_,h.2,Hm t x hx hf hn h.1⟩
 .split at h
  .rename_i y hy;exact⟨_,h.2,Ho t x hx hf h.1 hy⟩
  .exact h.2.elim
theorem Vk(x:Operand){i ver idx off:Nat}{ob:aD}(hx:s.ev x= .ptr i ver idx off)(ho:AV.isObj s.o i ver=some ob):Step P B ⟨dst,.nilCheck x,ty,pos,after,gd⟩ s (s.put dst (.ptr i ver idx off)):=
 dO λG a w r=>by obtain⟨g,b,f,_,_,_,hv⟩:=r.ptr hx ho;refine⟨a.eval x,?_,by have:=r.ev x;rwa[hx]at this⟩;simp only[execOp];rw[hv];rfl
theorem RQ(x:Operand){g:Tg}{c:List AV}{off:Nat}(hx:s.ev x= .fH g c off)(hf:(AV.fH g c off).fit s.o=true):Step P B ⟨dst,.nilCheck x,ty,pos,after,gd⟩ s (s.put dst (.fH g c off)):=
 dO λG a w r=>by
  have h:=r.ev x;rw[hx]at h;refine⟨a.eval x,?_,h⟩;have h':=h;simp only[R]at h';rcases h' with⟨hd,_⟩|⟨_,b,o,cs,hv,_⟩
  .cases g with
   |own=>exact hd.elim
   |view=>exact hd.elim
   |iZ i=>exfalso;simp only[AV.fit]at hf;refine hd (λob tX=> ?_);simpa [tX]using hf
  .simp only[execOp];rw[hv];rfl
theorem zW{P:Program}[aB P]{B:fM P}{o:Oper}{s:AS}{K:AS->Prop}(h:rM P o s K):∃s',K s'/\Step P B o s s':=by
 obtain⟨dst,op,ty,pos,after,gd⟩:=o;unfold rM at h;dsimp only at h;split at h;case h_1=>exact⟨_,h,zf _⟩
 case h_2=>exact⟨_,h,WJ _⟩
 case h_3=>
  split at h
  .rename_i hc;exact⟨_,h,zk _ _ _ hc⟩
  .exact h.elim
 case h_4=>
  split at h
  .rename_i hz;exact⟨_,h,ZU _ hz⟩
  .exact h.elim
 case h_5=>exact⟨_,h.2,aAa _ _ h.1⟩
 case h_6=>
  split at h
  .rename_i hp;split at h
   .rename_i hz;obtain⟨h1,h⟩:=h;split at h
    .rename_i hf;exact⟨_,h,ag _ _ hp hz h1 hf⟩
    .exact h.elim
   .exact h.elim
  .exact h.elim
 case h_7=>
  split at h
  .rename_i he;obtain⟨h1,h2,h3,h4,h5,h6,h7,h8,h9⟩:=h;exact⟨_,h9,Nv _ _ _ he h1 h2 h3 h4 h5 h6 h7 h8⟩
  .exact h.elim
 case h_8=>
  split at h
  .rename_i hx;split at h
   .rename_i ha;exact zo hx ha h
   .exact h.elim
  .rename_i hx;exact ah hx h.1 h.2
  .exact h.elim
 case h_9=>
  split at h
  .rename_i hx;split at h
   .rename_i ha;obtain⟨a1,a2⟩:=CK ha;obtain⟨h1,h2,h3,h⟩:=h;split at h
    .rename_i hb;exact⟨_,h,ZZ _ _ _ hx a1 a2 h1 h2 h3 (by simpa using hb)⟩
    .rename_i hb;obtain⟨h4,h5,h6,h7⟩:=h;exact⟨_,h7,Lf _ _ _ hx a1 a2 h1 h2 h3 (by simp at hb;exact hb.1) h4 h5 h6⟩
   .exact h.elim
  .exact h.elim
 case h_10=>
  split at h
  .rename_i hf;split at h
   .rename_i hx;obtain⟨ob,ho⟩:=HY h.1;exact⟨_,h.2,OC _ _ _ hx ho hf⟩
   .rename_i hx;exact⟨_,h.2,Nt _ _ _ hx h.1 hf⟩
   .exact h.elim
  .exact h.elim
 case h_11=>
  split at h
  .rename_i hi;obtain⟨h0,h⟩:=h;split at h
   .rename_i hx;split at h
    .rename_i ho;split at h
     .rename_i he;obtain⟨rfl,hb,h1,h2⟩:=h;exact⟨_,h2,OG _ _ _ hx ho hi he h0 h1 hb⟩
     .exact h.elim
    .exact h.elim
   .rename_i hx;obtain⟨hf,h⟩:=h;split at h
    .rename_i he;obtain⟨rfl,h⟩:=h;split at h
     .rename_i hc;exact⟨_,h,RD _ _ _ hx hf hi he h0 hc⟩
     .exact h.elim
    .exact h.elim
   .rename_i hx;obtain⟨hs,h⟩:=h;obtain⟨ob,ho⟩:=HY hs;split at h
    .rename_i ha;exact⟨_,h.2,OH _ _ _ hx ho hi ha h0 h.1⟩
    .exact h.elim
   .exact h.elim
  .exact h.elim
 case h_12=>
  split at h
  .rename_i hx;split at h
   .rename_i hi;obtain⟨ht,h0,h⟩:=h;split at h
    .rename_i hu;exact⟨_,h,OI _ _ _ hx hi ht h0 hu⟩
    .exact h.elim
   .exact h.elim
  .exact h.elim
 case h_13=>
  split at h
  .rename_i hx;split at h
   .rename_i hy;exact⟨_,h,Vg _ _ hx hy⟩
   .exact h.elim
  .exact h.elim
 case h_14=>exact⟨_,h,RF _ _⟩
 case h_15=>
  split at h
  .rename_i he;split at h
   .rename_i hz;split at h
    .rename_i hx;split at h
     .rename_i hy;obtain⟨h1,h2,h3,h4,h5,h6,h7⟩:=h;exact⟨_,h7,OT _ _ _ he hz h1 hx hy h2 h3 h4 h5 h6⟩
     .exact h.elim
    .exact h.elim
   .exact h.elim
  .exact h.elim
 case h_16=>
  split at h
  .rename_i hx;split at h
   .rename_i hl;split at h
    .rename_i hh;obtain⟨h1,h2,h3,h4⟩:=h;exact⟨_,h4,OL _ _ _ _ hx h1 hl hh h2 h3⟩
    .exact h.elim
   .exact h.elim
  .rename_i hx;split at h
   .rename_i hl;split at h
    .rename_i hh;split at h
     .rename_i he;obtain⟨rfl,h1,h2,h3,h4⟩:=h;exact⟨_,h4,RH _ _ _ _ hx h1 he hl hh h2 h3⟩
     .exact h.elim
    .exact h.elim
   .exact h.elim
  .rename_i hx;split at h
   .rename_i ho;split at h
    .rename_i hl;split at h
     .rename_i hh;split at h
      .rename_i he;obtain⟨rfl,h1,h2,h3,h4⟩:=h;exact⟨_,h4,OP _ _ _ _ hx ho h1 he hl hh h2 h3⟩
      .exact h.elim
     .exact h.elim
    .exact h.elim
   .exact h.elim
  .exact h.elim
 case h_17=>
  split at h
  .rename_i hx;exact⟨_,h,aAh _ _ hx⟩
  .exact h.elim
 case h_18=>
  split at h
  .rename_i hx;exact⟨_,h,aAi _ _ hx⟩
  .exact h.elim
 case h_19=>
  split at h
  .rename_i hx;split at h
   .rename_i hy;obtain⟨hkk,h⟩:=h;split at h
    .rename_i hz;exact⟨_,h,aAl _ _ _ _ _ hx hy hkk hz⟩
    .exact h.elim
   .exact h.elim
  .rename_i hx;split at h
   .rename_i hy;obtain⟨hle,h⟩:=h;split at h
    .rename_i hz;exact⟨_,h,aAr _ _ _ _ _ hx hy hz hle⟩
    .exact h.elim
   .exact h.elim
  .rename_i hx;split at h
   .rename_i hy;exact⟨_,h.2.2,Vi _ _ _ _ _ h.1 hx hy h.2.1⟩
   .exact h.elim
  .rename_i hx;split at h
   .rename_i hy;obtain⟨h1,h2,h3,b,h4,h5⟩:=h;exact⟨_,h5,WW _ _ _ _ _ h1 hx hy h2 h3 h4⟩
   .exact h.elim
  .exact h.elim
 case h_20=>
  split at h
  .rename_i hx;split at h
   .rename_i hk;exact⟨_,h.2,RI _ _ _ hx hk h.1⟩
   .exact h.elim
  .rename_i hx;exact⟨_,h.2.2,RJ _ _ _ hx h.2.1 h.1⟩
  .rename_i hx;split at h
   .rename_i he;obtain⟨rfl,rfl,h1,h2,h3,bs,h4,h5⟩:=h;exact⟨_,h5,Eh _ _ _ hx h1 h2 he h3 h4⟩
   .exact h.elim
  .rename_i hx;split at h
   .rename_i ho;split at h
    .rename_i he;obtain⟨rfl,h1,h2,h3,bs,h4,h5⟩:=h;exact⟨_,h5,Gl _ _ _ hx ho h2 he h1 h3 h4⟩
    .exact h.elim
   .exact h.elim
  .exact h.elim
 case h_21=>
  split at h
  .rename_i hx;exact⟨_,h.2,Vf _ _ hx h.1⟩
  .rename_i hx;exact⟨_,h.2.2,WT _ _ hx h.1 h.2.1⟩
  .rename_i hx;split at h
   .rename_i ho;exact⟨_,h.2,Ve _ _ hx ho h.1⟩
   .exact h.elim
  .exact h.elim
 case h_22=>
  split at h
  .rename_i he;obtain⟨h1,h2,h⟩:=h;split at h
   .rename_i ht;split at h
    .rename_i hs;obtain⟨h3,h4,h5⟩:=h;exact⟨_,h5,step_append _ _ _ _ he h1 h2 ht hs h3 h4⟩
    .exact h.elim
   .exact h.elim
  .exact h.elim
 case h_23=>
  split at h
  .rename_i hf;split at h
   .rename_i h1;obtain⟨r,h2,h3⟩:=h;exact⟨_,h3,zi _ _ _ hf h1 h2⟩
   .obtain ⟨r,h2,h3⟩:=h;exact⟨_,h3,WM _ _ _ hf h2⟩
  .exact h.elim
 case h_24=>
  split at h
  .rename_i hx;obtain⟨ob,ho⟩:=HY h.1;exact⟨_,h.2,Vk _ hx ho⟩
  .rename_i hx;exact⟨_,h.2,RQ _ hx h.1⟩
  .exact h.elim
 case h_25=>exact h.elim
theorem OU{P:Program}[aB P]{B:fM P}{o:Oper}{s:AS}{K:AS->Prop}(h:RO P o s K):∃s',K s'/\Step P B o s s':=by
 obtain⟨dst,op,ty,pos,after,gd⟩:=o;unfold RO at h;dsimp only at h;split at h
 .split at h
  .rename_i he;exact⟨_,h.2,aAs _ he h.1⟩
  .exact h.elim
 .exact h.elim
def AV.iG:AV->Bool
 | .int _ _=>true
 | .bool _=>true
 | .str _=>true
 |_=>false
def sD(w:World)(O:Nat->Prop):Env:=⟨λb=>b<w.heap.size/\¬O b,λ_=>True,λ_ _=>False,λ_ _ _=>False,λ_ _ _ _ _=>False⟩
def OkM(P:Program)[aB P](f:FuncId)(x x':AV)(rest:List AV)(r:AV):Prop:=
 ∀(w:World) (v:Value) (vs:List Value) (fp:List Nat),aB.holds P w->(∀b∈fp,aB.low P<=b)->R w (sD w (· ∈fp)) x v fp->fp.Nodup->(∀b∈fp,b<w.heap.size)->Rc w (sD w (· ∈fp)) rest vs []->
  Calls P f (v::vs).toArray w λe w'=>∃u AX,e= .returned u/\R w' oO r u []/\R w' oO x' v AX/\AX.Nodup/\
   (∀b∈AX,(b∈fp\/w.heap.size<=b)/\b<w'.heap.size)/\w.heap.size<=w'.heap.size/\(∀b,b<w.heap.size->b∉fp->w'.heap[b]? =w.heap[b]?)/\nV w w'
mutual
def mt(o:List aD):AV->AV->Bool
 | .obj i _,.sl .own n _=>match o[i]? with
  |some ob=>decide (ob.n=n)
  |none=>false
 | .agg c,.agg c'=>mtc o c c'
 | .int _ _,x=>x.iG
 | .bool _,x=>x.iG
 | .str _,x=>x.iG
 |_,_=>false
def mtc(o:List aD):List AV->List AV->Bool
 |[],[]=>true
 |x::xs,y::ys=>mt o x y&&mtc o xs ys
 |_,_=>false
end
mutual
def Bc:AV->AV->List (Nat×List (List AV))
 | .obj i _,.sl _ _ rows=>[(i,rows)]
 | .agg c,.agg c'=>Cc c c'
 |_,_=>[]
def Cc:List AV->List AV->List (Nat×List (List AV))
 |x::xs,y::ys=>Bc x y++Cc xs ys
 |_,_=>[]
end
theorem Lg{w:World}{E:Env}{x:AV}{v:Value}{fp:List Nat}(hx:x.iG=true)(h:R w E x v fp):fp=[]:=by cases x<;>simp only[AV.iG]at hx<;>first|(cases hx;done)|(simp only[R]at h;exact h.2)
structure Part where
  i:Nat
  rows:List (List AV)
  fp:List Nat
def aAu(o:List aD)(G:List CO)(w':World)(p:Part):Prop:=
 ∃ob g,look o G p.i ob g/\ob.live=true/\ob.box=false/\qH w' oO ob.n p.rows g.a g.cap p.fp/\p.rows.length=ob.dM.length
def nU(L:List Part):List Nat:=L.flatMap (·.fp)
mutual
theorem su{P:Program}[aB P]{B:fM P}{s:AS}{G:List CO}{w w':World}:∀(x x':AV) (v:Value) (AX:List Nat),gP s.o x=true->mt s.o x x'=true->R w (env B s.o G w) x v []->R w' oO x' v AX->
  ∃L:List Part,L.map (·.i)=iN x/\Bc x x'=L.map (λp=>(p.i,p.rows))/\AX=nU L/\∀p∈L,aAu s.o G w' p
 | .obj i ver,.sl .own n rows,v,AX,ho,hm,h,h'=>by
  cases tX:AV.isObj s.o i ver with
  |none=>simp[gP,tX]at ho
  |some ob=>simp only[gP,tX]at ho;simp only[R]at h;obtain⟨_,ob',g,hl,_,hh,_⟩:=h;obtain⟨h1,h2,h3⟩:=jB tX;obtain rfl:=cU (hl.1.symm.trans h1);have hv:=hh h2 h3;obtain⟨a,cap,hv',hown⟩:=rO.1 h';rw[hv]at hv';simp only[Value.slice.injEq]at hv';obtain⟨rfl,hlen,rfl⟩:=hv';simp only[mt,h1,fX]at hm;refine⟨[⟨i,rows,AX⟩],rfl,rfl,by simp[nU],?_⟩;intro p hp;simp at hp;subst hp;exact⟨_,g,hl,h2,by simpa using ho,by rw[hm];exact hown,hlen.symm⟩
 | .agg c,.agg c',v,AX,ho,hm,h,h'=>by
  simp only[R]at h h';obtain⟨cs,rfl,_,hr⟩:=h;obtain⟨cs',hv,_,hr'⟩:=h';have:cs=cs':=by simpa using hv
  subst this;obtain⟨L,h1,h2,h3,h4⟩:=WY c c' cs AX (by simpa [gP]using ho) (by simpa [mt]using hm) hr hr';exact⟨L,by simpa [iN]using h1,by simpa [Bc]using h2,h3,h4⟩
 | .int _ _,x',v,AX,_,hm,_,h'=>⟨[],rfl,by simp[Bc],by simpa [nU]using Lg (by simpa [mt]using hm) h',by simp⟩
 | .bool _,x',v,AX,_,hm,_,h'=>⟨[],rfl,by simp[Bc],by simpa [nU]using Lg (by simpa [mt]using hm) h',by simp⟩
 | .str _,x',v,AX,_,hm,_,h'=>⟨[],rfl,by simp[Bc],by simpa [nU]using Lg (by simpa [mt]using hm) h',by simp⟩
 | .sl _ _ _,_,_,_,_,hm,_,_=>by simp[mt]at hm
 | .fH _ _ _,_,_,_,_,hm,_,_=>by simp[mt]at hm
 | .ptr _ _ _ _,_,_,_,_,hm,_,_=>by simp[mt]at hm
 | .iP _,_,_,_,_,hm,_,_=>by simp[mt]at hm
 | .fn _ _,_,_,_,_,hm,_,_=>by simp[mt]at hm
 | .undef,_,_,_,_,hm,_,_=>by simp[mt]at hm
 | .obj _ _,.sl .view _ _,_,_,_,hm,_,_=>by simp[mt]at hm
 | .obj _ _,.sl (.iZ _) _ _,_,_,_,hm,_,_=>by simp[mt]at hm
 | .obj _ _,.int _ _,_,_,_,hm,_,_=>by simp[mt]at hm
 | .obj _ _,.bool _,_,_,_,hm,_,_=>by simp[mt]at hm
 | .obj _ _,.str _,_,_,_,hm,_,_=>by simp[mt]at hm
 | .obj _ _,.fH _ _ _,_,_,_,hm,_,_=>by simp[mt]at hm
 | .obj _ _,.obj _ _,_,_,_,hm,_,_=>by simp[mt]at hm
 | .obj _ _,.ptr _ _ _ _,_,_,_,hm,_,_=>by simp[mt]at hm
 | .obj _ _,.agg _,_,_,_,hm,_,_=>by simp[mt]at hm
 | .obj _ _,.iP _,_,_,_,hm,_,_=>by simp[mt]at hm
 | .obj _ _,.fn _ _,_,_,_,hm,_,_=>by simp[mt]at hm
 | .obj _ _,.undef,_,_,_,hm,_,_=>by simp[mt]at hm
 | .agg _,.sl _ _ _,_,_,_,hm,_,_=>by simp[mt]at hm
 | .agg _,.int _ _,_,_,_,hm,_,_=>by simp[mt]at hm
 | .agg _,.bool _,_,_,_,hm,_,_=>by simp[mt]at hm
 | .agg _,.str _,_,_,_,hm,_,_=>by simp[mt]at hm
 | .agg _,.fH _ _ _,_,_,_,hm,_,_=>by simp[mt]at hm
 | .agg _,.obj _ _,_,_,_,hm,_,_=>by simp[mt]at hm
 | .agg _,.ptr _ _ _ _,_,_,_,hm,_,_=>by simp[mt]at hm
 | .agg _,.iP _,_,_,_,hm,_,_=>by simp[mt]at hm
 | .agg _,.fn _ _,_,_,_,hm,_,_=>by simp[mt]at hm
 | .agg _,.undef,_,_,_,hm,_,_=>by simp[mt]at hm
theorem WY{P:Program}[aB P]{B:fM P}{s:AS}{G:List CO}{w w':World}:∀(c c':List AV) (cs:List Value) (AX:List Nat),lM s.o c=true->mtc s.o c c'=true->Rc w (env B s.o G w) c cs []->Rc w' oO c' cs AX->
  ∃L:List Part,L.map (·.i)=jF c/\Cc c c'=L.map (λp=>(p.i,p.rows))/\AX=nU L/\∀p∈L,aAu s.o G w' p
 |[],[],[],AX,_,_,_,h'=>by simp only[Rc]at h';exact⟨[],rfl,by simp[Cc],by simp[h',nU],by simp⟩
 |[],[],_::_,_,_,_,h,_=>by simp[Rc]at h
 |[],_::_,_,_,_,hm,_,_=>by simp[mtc]at hm
 |_::_,[],_,_,_,hm,_,_=>by simp[mtc]at hm
 |_::_,_::_,[],_,_,_,h,_=>by simp[Rc]at h
 |x::xs,y::ys,c::cs,AX,ho,hm,h,h'=>by
  simp only[Rc]at h h';obtain⟨g1,g2,h1,h2,e⟩:=h;obtain⟨rfl,rfl⟩:g1=[]/\g2=[]:=by simpa using e
  obtain⟨f1,f2,h1',ZT,rfl⟩:=h';simp only[lM,eI]at ho;simp only[mtc,eI]at hm;obtain⟨L1,a1,a2,rfl,a4⟩:=su x y c f1 ho.1 hm.1 h1 h1';obtain⟨L2,b1,b2,rfl,b4⟩:=WY xs ys cs f2 ho.2 hm.2 h2 ZT;refine⟨L1++L2,by simp[jF,a1,b1],by simp[Cc,a2,b2],by simp[nU],?_⟩;intro p hp;rcases fS.1 hp with hp|hp
  .exact a4 p hp
  .exact b4 p hp
end
def gU(u:List Nat):Tg->Option Tg
 | .own=>none
 | .view=>some .view
 | .iZ i=>if i∈u then none else some (.iZ i)
def AV.nd:AV->Bool
 | .int _ _=>true
 | .bool _=>true
 | .str _=>true
 | .sl .own _ _=>true
 | .obj _ _=>true
 | .ptr _ _ _ _=>true
 |_=>false
theorem aR2{w:World}{E:Env}{D:Nat->Nat->Prop}{x:AV}{v:Value}{fp:List Nat}(hx:x.nd=true)(h:R w E x v fp):R w {E with D:=D} x v fp:=by
 cases x with
 |int _ _=>simpa [R]using h
 |bool _=>simpa [R]using h
 |str _=>simpa [R]using h
 |sl g n l=>
  cases g with
  |own=>obtain⟨a,cap,hv,hown⟩:=rO.1 h;exact rO.2 ⟨a,cap,hv,hown⟩
  |_=>cases hx
 |obj _ _=>simp only[R]at h⊢;exact h
 |ptr _ _ _ _=>simp only[R]at h⊢;exact h
 |_=>cases hx
theorem aI4{w:World}{E:Env}{D:Nat->Nat->Prop}:∀{c:List AV} {cs:List Value} {fp:List Nat},c.all AV.nd=true->Rc w E c cs fp->Rc w {E with D:=D} c cs fp
 |[],[],_,_,h=>h
 |[],_::_,_,_,h=>by simp[Rc]at h
 |_::_,[],_,_,h=>by simp[Rc]at h
 |x::xs,c::cs,fp,hp,h=>by simp only[Rc]at h⊢;simp only[BY,eI]at hp;obtain⟨f1,f2,h1,h2,h3⟩:=h;exact⟨f1,f2,aR2 hp.1 h1,aI4 hp.2 h2,h3⟩
theorem aAv{w:World}{E:Env}{D:Nat->Nat->Prop}:∀{l:List (List AV)} {b off n:Nat} {fp:List Nat},(l.all λr=>r.all AV.nd)=true->Rr w E l b off n fp->Rr w {E with D:=D} l b off n fp
 |[],_,_,_,_,_,h=>h
 |e::es,b,off,n,fp,hp,h=>by simp only[Rr]at h⊢;simp only[BY,eI]at hp;obtain⟨cs,f1,f2,h1,h2,h3,h4,h5,h6⟩:=h;exact⟨cs,f1,f2,h1,h2,h3,aI4 hp.1 h4,aAv hp.2 h5,h6⟩
def CL(l:List (List AV)):Bool:=l.all λr=>r.all AV.nd
theorem ai:CL []=true:=rfl
theorem WZ(r:List AV)(l:List (List AV)):CL (r::l)=(r.all AV.nd&&CL l):=rfl
theorem aj{l:List (List AV)}{k:Nat}{r:List AV}(h:CL l=true)(hr:r.all AV.nd=true):CL (l.set k r)=true:=by
 unfold CL at*;rw[fW]at h⊢;intro x hx;rcases tU hx with hx|rfl
 .exact h x hx
 .exact hr
def aD.forget(ob:aD)(u:List Nat):aD:=
 if ob.box then(if CL ob.dM=true then ob else {ob with dM:=iI (gU u) true ob.dM})else ob
theorem lX(ob:aD)(u:List Nat):(ob.forget u).live=ob.live:=by unfold aD.forget;split<;>(try split)<;>rfl
theorem OV(ob:aD)(u:List Nat):(ob.forget u).ver=ob.ver:=by unfold aD.forget;split<;>(try split)<;>rfl
theorem OW(ob:aD)(u:List Nat):(ob.forget u).box=ob.box:=by unfold aD.forget;split<;>(try split)<;>rfl
theorem Xa(ob:aD)(u:List Nat):(ob.forget u).n=ob.n:=by unfold aD.forget;split<;>(try split)<;>rfl
theorem OX(ob:aD)(u:List Nat):(ob.forget u).dM.length=ob.dM.length:=by unfold aD.forget;split<;>(try split)<;>simp[kJ]
def aD.aGh(ob:aD)(N:List (Nat×List (List AV)))(u:List Nat)(i:Nat):aD:=
 match N.find? (λp=>p.1 == i)with
 |some p=>{ob with dM:=p.2}
 |none=>ob.forget u
def Nw(N:List (Nat×List (List AV)))(u:List Nat):Nat->List aD->List aD
 |_,[]=>[]
 |i,ob::r=>ob.aGh N u i::Nw N u (i+1) r
theorem Xb(N:List (Nat×List (List AV)))(u:List Nat):∀(o:List aD) (k i:Nat),(Nw N u k o)[i]? =(o[i]?).map λob=>ob.aGh N u (k+i)
 |[],_,_=>by simp[Nw]
 |ob::r,k,0=>by simp[Nw]
 |ob::r,k,i+1=>by simp only[Nw,AD];rw[Xb N u r (k+1) i,show k+1+i=k+(i+1)by omega]
def AS.Oj(s:AS)(d:Option Tmp)(x x' r:AV):AS:=
 AS.put ⟨qD (gU (iN x)) true s.t,Nw (Bc x x') (iN x) 0 s.o⟩ d r
def RS(L:List Part):Nat->List CO->List CO
 |_,[]=>[]
 |i,g::r=>(match L.find? (λp=>p.i == i)with
  |some p=>{g with F:=λb=>b∈p.fp}
  |none=>g)::RS L (i+1) r
theorem Xc(L:List Part):∀(G:List CO) (k i:Nat),(RS L k G)[i]? =(G[i]?).map λg=>match L.find? (λp=>p.i == k+i)with
  |some p=>{g with F:=λb=>b∈p.fp}
  |none=>g
 |[],_,_=>by simp[RS]
 |g::r,k,0=>by simp[RS]
 |g::r,k,i+1=>by simp only[RS,AD];rw[Xc L r (k+1) i,show k+1+i=k+(i+1)by omega]
theorem Ej(L:List Part):∀(G:List CO) (k:Nat),(RS L k G).length=G.length
 |[],_=>rfl
 |g::r,k=>by simp[RS,Ej L r]
theorem El(N:List (Nat×List (List AV)))(u:List Nat):∀(o:List aD) (k:Nat),(Nw N u k o).length=o.length
 |[],_=>rfl
 |g::r,k=>by simp[Nw,El N u r]
theorem OY{w w':World}{E E':Env}{x:AV}{v:Value}(hx:x.iG=true)(h:R w E x v []):R w' E' x v []:=by cases x<;>simp only[AV.iG]at hx<;>first|(cases hx;done)|(simp only[R]at h⊢;exact h)
@[simp] def AV.OZ:AV->Bool
 | .fn _ []=>true
 |x=>x.iG
theorem ak{w w':World}{E E':Env}{x:AV}{v:Value}(hx:x.OZ=true)(h:R w E x v []):R w' E' x v []:=by
 unfold AV.OZ at hx;split at hx
 .simp only[R]at h⊢;obtain⟨e,cs,h1,h2⟩:=h;exact⟨e,cs,h1,by cases cs<;>simp_all[Rc]⟩
 .exact OY hx h
theorem Ol{L:List Part}{b:Nat}:b∈nU L↔∃p∈L,b∈p.fp:=by simp[nU]
theorem TA:∀{L:List Part},(nU L).Nodup->∀p∈L,∀q∈L,∀b,b∈p.fp->b∈q.fp->p=q
 |[],_,p,hp,_,_,_,_,_=>by cases hp
 |x::L,h,p,hp0,q,hq0,b,hbp,hbq=>by
  simp only[nU,DP,gS]at h;rcases gE.1 hp0 with e1|hp<;>rcases gE.1 hq0 with e2|hq
  .rw [e1,e2]
  .exact absurd rfl (h.2.2 b (e1▸hbp) b (Bx.2 ⟨q,hq,hbq⟩))
  .exact absurd rfl (h.2.2 b (e2▸hbq) b (Bx.2 ⟨p,hp,hbp⟩))
  .exact TA h.2.1 p hp q hq b hbp hbq
theorem Xd:∀{L:List Part},(nU L).Nodup->∀p∈L,p.fp.Nodup
 |[],_,p,hp=>by cases hp
 |x::L,h,p,hp=>by
  simp only[nU,DP,gS]at h;rcases gE.1 hp with rfl|hp
  .exact h.1
  .exact Xd h.2.1 p hp
theorem aAx{o:List aD}{G:List CO}{L:List Part}{u:List Nat}{i:Nat}{ob':aD}{g':CO}(h:look (Nw (L.map λp=>(p.i,p.rows)) u 0 o) (RS L 0 G) i ob' g'):
  ∃ob g,look o G i ob g/\((∃p∈L,p.i=i/\ob'={ob with dM:=p.rows}/\g'={g with F:=λb=>b∈p.fp})\/
   ((∀p∈L,p.i≠i)/\ob'=ob.forget u/\g'=g)):=by
 obtain⟨h1,h2⟩:=h;rw[Xb,lO]at h1;rw[Xc,lO]at h2;cases ho:o[i]? with
 |none=>simp[ho]at h1
 |some ob=>
  cases hg:G[i]? with
  |none=>simp[hg]at h2
  |some g=>
   rw[ho]at h1;rw[hg]at h2;simp only[mA,eA]at h1 h2;refine⟨ob,g,⟨ho,hg⟩,?_⟩;have hfm:(L.map λp=>(p.i,p.rows)).find? (λp=>p.1 == i)=(L.find? (λp=>p.i == i)).map λp=>(p.i,p.rows):=by rw[find?_map];rfl
   unfold aD.aGh at h1;rw[hfm]at h1;cases hf:L.find? (λp=>p.i == i)with
   |some p=>rw[hf]at h1 h2;left;exact⟨p,pZ hf,by have:=Fl hf;simpa using this,h1.symm,h2.symm⟩
   |none=>rw[hf]at h1 h2;right;refine⟨λp hp e=> ?_,h1.symm,h2.symm⟩;have:=Dg.1 hf p hp;simp[e]at this
theorem aAy{o:List aD}{G:List CO}{L:List Part}{u:List Nat}{i:Nat}{ob:aD}{g:CO}(h:look o G i ob g):
  ∃ob' g',look (Nw (L.map λp=>(p.i,p.rows)) u 0 o) (RS L 0 G) i ob' g':=by
 have h1:=(cQ.1 h.1).1;have h2:=(cQ.1 h.2).1;exact⟨_,_,aE (by rw[El];exact h1),aE (by rw[Ej];exact h2)⟩
theorem TB{w:World}{E E':Env}{s:AS}{a:Act}:∀ys:List Operand,(ys.all λy=>(s.ev y).OZ)=true->(∀y,R w E (s.ev y) (a.eval y) [])->Rc w E' (ys.map s.ev) (ys.map a.eval) []
 |[],_,_=>by simp[Rc]
 |y::ys,h,hr=>by simp only[BY,eI]at h;simp only[lA,Rc];exact⟨[],[],ak h.1 (hr y),TB ys h.2 hr,rfl⟩
theorem aAz(f x0:Operand)(ys:List Operand)(KS:Array TypeId){gf:FuncId}{x' r:AV}(hf:s.ev f= .fn gf [])(hc:aT P gf=true)(hy:(ys.all λy=>(s.ev y).OZ)=true)(hr:r.iG=true\/r= .iP [])(hx:gP s.o (s.ev x0)=true)(hu:(iN (s.ev x0)).Nodup)
  (hm:mt s.o (s.ev x0) x'=true) (qE:OkM P gf (res s.o (s.ev x0)) x' (ys.map s.ev) r):
  Step P B ⟨dst,.call {callee:= .value f,args:=⟨x0::ys⟩,argTypes:=KS},ty,pos,after,gd⟩ s (s.Oj dst (s.ev x0) x' r):=by
 rintro a w next Q ⟨G,rr⟩ hn
 have h1:=rr.ev f;rw[hf]at h1;simp only[R]at h1;obtain⟨_,cs,hv,sP⟩:=h1;have hcs:cs=[]:=by cases cs with
  |nil=>rfl
  |cons _ _=>simp[Rc]at sP
 subst hcs;obtain⟨fp,lC,hnd,Mk⟩:=Ee rr _ _ hx hu (rr.ev x0);have hlt:∀b∈fp,b<w.heap.size:=λb hb=>by obtain⟨i,ob,g,_,hl,hlive,hF⟩:=Mk b hb;exact(rr.fresh _ _ _ b hl hlive hF).2
 have kB:dF w (env B s.o G w).plain w (sD w (· ∈fp)):=⟨λb hb=>⟨⟨nH rr hb,λhm=>by
   obtain⟨i,ob,g,_,hl,hlive,hF⟩:=Mk b hm;exact hb.2 i ob g hl hlive hF⟩,rfl⟩,λ_ _=>trivial,λ_ _ _ h=>h.elim,λ_ _ _ h=>h.elim,λ_ _ _ _ _ h=>h.elim⟩
 have hab:∀b∈fp,aB.low P<=b:=λb hb=>by obtain⟨i,ob,g,_,hl,hlive,hF⟩:=Mk b hb;exact rr.Mc (rr.fresh _ _ _ b hl hlive hF).1
 have Cb:=qE w (a.eval x0) (ys.map a.eval) fp rr.holds hab (lF kB _ _ _ (λ_ _=>rfl) lC) hnd hlt (TB ys hy λy=>rr.ev y);unfold Oper.wp;have fV:(execOp a.eval ⟨dst,.call {callee:= .value f,args:=⟨x0::ys⟩,argTypes:=KS},ty,pos,after,gd⟩).run P w= .ok (.enter gf (a.eval x0::ys.map a.eval).toArray) w:=by simp[execOp,resolve,hv,Deferred.ofValue,invoke,rD hc]
 rw[fV,AH];refine Cb.mono λe w' h=> ?_
 obtain⟨v,AX,rfl,Nu,hxr,hnd',La,hsz,iH,zJ⟩:=h;refine hn _ _ ?_;obtain⟨L,hLi,hN,rfl,hL⟩:=su (s.ev x0) x' _ AX hx hm (rr.ev x0) hxr;have hus:∀i,i∈iN (s.ev x0)↔∃p∈L,p.i=i:=λi=>by rw[<-hLi];simp
 unfold AS.Oj;rw[hN];generalize huu:iN (s.ev x0)=u at*;generalize ho':Nw (L.map λp=>(p.i,p.rows)) u 0 s.o=o';generalize hG':RS L 0 G=G';have lk:∀{i ob' g'},look o' G' i ob' g'->∃ob g,look s.o G i ob g/\((∃p∈L,p.i=i/\ob'={ob with dM:=p.rows}/\g'={g with F:=λb=>b∈p.fp})\/
   ((∀p∈L,p.i≠i)/\ob'=ob.forget u/\g'=g)):=λh=>aAx (by rw[ho',hG'];exact h)
 have kl:∀{i ob g},look s.o G i ob g->∃ob' g',look o' G' i ob' g'/\ob'.live=ob.live/\ob'.ver=ob.ver/\ob'.n=ob.n/\g'.a=g.a/\g'.cap=g.cap/\ob'.dM.length=ob.dM.length/\((∀p∈L,p.i≠i)->g'=g)/\ob'.box=ob.box:=by
  intro i ob g h;obtain⟨ob',g',h'⟩:=aAy (L:=L) (u:=u) h;rw[ho',hG']at h';refine⟨ob',g',h',?_⟩;obtain⟨Mm,g2,h2,hcase⟩:=lk h';obtain⟨rfl,rfl⟩:=iD h h2;rcases hcase with⟨p,hp,rfl,rfl,rfl⟩|⟨Rt,rfl,rfl⟩
  .obtain ⟨ob3,g3,hl3,_,_,_,hlen⟩:=hL p hp;obtain⟨rfl,rfl⟩:=iD h hl3;exact⟨rfl,rfl,rfl,rfl,rfl,hlen,λhn=>absurd rfl (hn p hp),rfl⟩
  .exact ⟨lX _ _,OV _ _,Xa _ _,rfl,rfl,OX _ _,λ_=>rfl,OW _ _⟩
 have fpF:∀b∈fp,∀i ob g,look s.o G i ob g->ob.live=true->g.F b->i∈u:=λb hb i ob g hl hlive hF=>by obtain⟨j,oj,gj,hj,hlj,hjl,Jn⟩:=Mk b hb;have:=rr.apart i j _ _ _ _ b hl hlj hlive hjl hF Jn;rw[this];exact hj
 have Em:∀i ob g b,look s.o G i ob g->ob.live=true->g.F b->i∉u->w'.heap[b]? =w.heap[b]?:=λi ob g b hl hlive hF hiu=>
  iH b (rr.fresh _ _ _ b hl hlive hF).2 (λhm=>hiu (fpF b hm i ob g hl hlive hF))
 have noU:∀i,i∉u->∀p∈L,p.i≠i:=λi hi p hp e=>hi ((hus i).2 ⟨p,hp,e⟩)
 let Er:Env:={env B s.o G w with D:=λi b=>i∉u/\(env B s.o G w).D i b}
 have rt1:lK (gU u) true (env B s.o G w) Er (λ_=>True):=by
  refine⟨λt e=>by simp[gU]at e,λt e=>by simp only[gU,eA]at e;exact⟨e.symm,λb hb=>hb⟩,λi t e=> ?_,λ_ _ _ _ h=>h,λ_ _ _ _ _ _ h=>h⟩;simp only[gU]at e;split at e
  .cases e
  .rename_i hiu;obtain rfl:=cU e;refine⟨by simp,?_,λb hb=>⟨hiu,hb⟩⟩;by_cases hV:(env B s.o G w).V i
   .exact .inl hV
   .exact .inr hV
 have k2:dF w Er w' (env B o' G' w'):=by
  refine⟨λb hb=> ?_,λi h ob tX=> ?_,λi b hV h=> ?_,λi ver x h=> ?_,λi ver j q x h=> ?_⟩
  .have hb':(env B s.o G w).A b:=hb;have hbl:=nH rr hb';have hnf:b∉fp:=λhm=>by
    obtain⟨i,ob,g,_,hl,hlive,hF⟩:=Mk b hm;exact hb'.2 i ob g hl hlive hF
   refine⟨⟨?_,λi ob' g' hl hlive hF=> ?_⟩,iH b hbl hnf⟩
   .rcases hb'.1 with h|h
    .exact .inl h
    .exact .inr ⟨h.1,by omega⟩
   .obtain ⟨ob,g,hl0,⟨p,hp,_,rfl,rfl⟩|⟨_,rfl,rfl⟩⟩:=lk hl
    .have:=La b (Ol.2 ⟨p,hp,hF⟩);rcases this.1 with h|h
     .exact hnf h
     .omega
    .refine hb'.2 i ob g' hl0 ?_ hF;rw[lX]at hlive;exact hlive
  .have hi:i<G.length:=by rw[rr.len];exact(cQ.1 tX).1
   obtain⟨ob',g',hl,h1,_⟩:=kl (i:=i) (ob:=ob) (g:=G[i]) ⟨tX,aE hi⟩;rw[<-h1];exact h ob' hl.1
  .obtain ⟨hiu,ob,g,hl,hlive,hF,hne⟩:=h;obtain⟨ob',g',BU,h1,_,_,_,_,_,h7,_⟩:=kl hl;obtain rfl:=h7 (noU i hiu);exact⟨⟨ob',g',BU,by rw[h1];exact hlive,hF,hne⟩,Em i ob g' b hl hlive hF hiu⟩
  .obtain ⟨ob,g,hl,wW,hh,hz⟩:=h;obtain⟨ob',g',BU,h1,h2,h3,h4,h5,h6,_⟩:=kl hl;exact⟨ob',g',BU,by omega,λhlive UY=>by rw[h4,h5,h6];exact hh (by rw[<-h1];exact hlive) (by omega),hz⟩
  .obtain ⟨ob,g,hl,wW,hh,hz⟩:=h;obtain⟨ob',g',BU,h1,h2,h3,h4,h5,h6,_,h8⟩:=kl hl;exact⟨ob',g',BU,by omega,λhlive UY=>by rw[h4,h3];exact hh (by rw[<-h1];exact hlive) (by omega),λe e2 e3 e4 y hy=>⟨(hz (by rw[<-h8];exact e) e2 e3 e4 y hy).1,λhlive UY=>by rw[h5];exact(hz (by rw[<-h8];exact e) e2 e3 e4 y hy).2 (by rw[<-h1];exact hlive) (by omega)⟩⟩
 have tm:Rc w' (env B o' G' w') (qD (gU u) true s.t) a.tmps.toList []:=
  dX k2 _ _ _ (by simp) (xA rt1 _ _ _ (by simp) rr.tmps)
 have kn:dF w' oO w' (env B o' G' w').plain:=⟨λ_ h=>h.elim,λ_ _=>trivial,λ_ _ _ h=>h.elim,λ_ _ _ h=>h.elim,λ_ _ _ _ _ h=>h.elim⟩;have rel:dN B ⟨qD (gU u) true s.t,o'⟩ G' a w':=by
  refine {len:=by rw[<-hG',<-ho',Ej,El];exact rr.len,defs:=rr.defs,ok:= ?_,apart:= ?_,fresh:= ?_,tmps:=tm,size:=kO rr.size hsz,frame:= ?_,base:=rr.base,same:=rr.same.trans zJ}
  .intro i ob' g' hl hlive;obtain⟨ob,g,hl0,⟨p,hp,rfl,rfl,rfl⟩|⟨Rt,rfl,rfl⟩⟩:=lk hl
   .obtain ⟨ob3,g3,hl3,_,hbx,hown,hlen⟩:=hL p hp;obtain⟨rfl,rfl⟩:=iD hl0 hl3;refine⟨p.fp,?_,Xd hnd' p hp,λb hb=>hb⟩;simp only[hbx,Env.of,cX,eS];exact hown.keeps kn (λ_ _=>rfl)
   .have hiu:i∉u:=λh=>by
     obtain⟨p,hp,e⟩:=(hus i).1 h;exact Rt p hp e
    rw[lX]at hlive;obtain⟨fpo,hown,HV,Oi⟩:=rr.ok i ob g' hl0 hlive;by_cases hbx:ob.box=true
    .simp only[hbx,Env.of,eV]at hown;obtain⟨hlen,hown⟩:=hown;by_cases hall:CL ob.dM=true
     .have hfo:ob.forget u=ob:=by unfold aD.forget;simp[hbx,hall]
      rw[hfo];refine⟨fpo,?_,HV,Oi⟩;simp only[hbx,Env.of,eV];refine⟨hlen,?_⟩;rcases hown with h|⟨b,off,C,e,fz,aA1,ha,hb,hz,h1,h2,h3,rfl,au⟩
      .exact .inl h
      .have hbs:=Em i ob g' b hl0 hlive (Oi b (by simp)) hiu;exact .inr ⟨b,off,C,e,fz,aA1,ha,by rw[hbs];exact hb,hz,h1,h2,h3,rfl,lW k2 _ _ _ _ _ hbs (λx hx=>Em i ob g' x hl0 hlive (Oi x (by simp[hx])) hiu) (aAv hall au)⟩
     .have hfo:ob.forget u={ob with dM:=iI (gU u) true ob.dM}:=by unfold aD.forget;rw[eW hbx,eK hall]
      rw[hfo];rcases hown with⟨h1,h2,h3⟩|⟨b,off,C,e,fz,aA1,ha,hb,hz,h1,h2,h3,rfl,au⟩
      .exact ⟨[],⟨by simp[kJ];exact hlen,.inl ⟨by simp[h1,iI],h2,rfl⟩⟩,by simp,by simp⟩
      .have DF:=Oi b (by simp);have hbs:=Em i ob g' b hl0 hlive DF hiu;refine⟨[b],⟨by simp[kJ];exact hlen,.inr ⟨b,off,C,e,fz,[],ha,by rw[hbs];exact hb,hz,h1,by simpa [kJ]using h2,h3,rfl,?_⟩⟩,by simp,by simpa using DF⟩;simp only[hbx,Env.of,eV];exact lW k2 _ _ _ _ _ hbs (by simp) (Gy rt1 _ _ _ _ _ (by simp) au)
    .have aA2:ob.box=false:=by simpa using hbx
     have hfo:ob.forget u=ob:=by unfold aD.forget;simp[aA2]
     rw[hfo];refine⟨fpo,?_,HV,Oi⟩;simp only[aA2,Env.of,cX,eS]at hown⊢;have kp:dF w (env B s.o G w).plain w' (env B o' G' w').plain:=k2.plain;exact hown.keeps kp (λb hb=>Em i ob g' b hl0 hlive (Oi b hb) hiu)
  .intro i j oi oj gi gj b hi hj hil hjl Ef KZ;obtain⟨ZN,g1,hl1,c1⟩:=lk hi;obtain⟨Mm,g2,hl2,c2⟩:=lk hj;have lv:∀{k:Nat} {ob ob':aD} {g g':CO},((∀p∈L,p.i≠k)/\ob'=ob.forget u/\g'=g)->ob'.live=true->ob.live=true:=by rintro k ob ob' g g' ⟨_,rfl,_⟩ h;rw[lX]at h;exact h
   rcases c1 with⟨p,hp,hpi,rfl,rfl⟩|c1<;>rcases c2 with⟨q,hq,hqi,rfl,rfl⟩|c2
   .have:=TA hnd' p hp q hq b Ef KZ;rw[<-hpi,<-hqi,this]
   .exfalso;have aKp:=lv c2 hjl;have ae:g2.F b:=by rw[<-c2.2.2];exact KZ
    rcases(La b (Ol.2 ⟨p,hp,Ef⟩)).1 with h|h
    .have:=fpF b h j Mm g2 hl2 aKp ae;obtain⟨q,hq,e⟩:=(hus j).1 this;exact c2.1 q hq e
    .have:=(rr.fresh _ _ _ b hl2 aKp ae).2;omega
   .exfalso;have aKq:=lv c1 hil;have hF1:g1.F b:=by rw[<-c1.2.2];exact Ef
    rcases(La b (Ol.2 ⟨q,hq,KZ⟩)).1 with h|h
    .have:=fpF b h i ZN g1 hl1 aKq hF1;obtain⟨p,hp,e⟩:=(hus i).1 this;exact c1.1 p hp e
    .have:=(rr.fresh _ _ _ b hl1 aKq hF1).2;omega
   .refine rr.apart i j _ _ _ _ b hl1 hl2 (lv c1 hil) (lv c2 hjl) ?_ ?_
    .rw [<-c1.2.2];exact Ef
    .rw [<-c2.2.2];exact KZ
  .intro i ob' g' b hl hlive hF;obtain⟨ob,g,hl0,⟨p,hp,rfl,rfl,rfl⟩|⟨Rt,rfl,rfl⟩⟩:=lk hl
   .have:=La b (Ol.2 ⟨p,hp,hF⟩);refine⟨?_,this.2⟩;rcases this.1 with h|h
    .obtain ⟨j,oj,gj,_,hlj,hjl,Jn⟩:=Mk b h;exact(rr.fresh _ _ _ b hlj hjl Jn).1
    .exact .inr (kO rr.size h)
   .have wC:ob.live=true:=by rw[lX]at hlive;exact hlive
    have:=rr.fresh _ _ _ b hl0 wC hF;exact⟨this.1,by omega⟩
  .intro b hb hO;rw[<-rr.frame b hb hO];refine iH b (gO hb rr.size) (λhm=> ?_);obtain⟨j,oj,gj,_,hlj,hjl,Jn⟩:=Mk b hm;rcases(rr.fresh _ _ _ b hlj hjl Jn).1 with h|h
   .exact hO h
   .omega
 exact⟨G',rel.put dst (by
  rcases hr with hr|rfl
  .exact OY hr Nu
  .simp only[R]at Nu⊢;obtain⟨cs,e1,e2⟩:=Nu;cases cs with
   |nil=>exact⟨[],e1,by simp[Rc]⟩
   |cons c cs=>simp[Rc]at e2)⟩
inductive GA where
  | view (x:AV)
  | rQ (x:AV)
  | xH (c c':List AV)
def RG(w:World)(O:Nat->Prop):GA->Value->List Nat->Nat->Prop
 | .view x,v,fp,_=>fp=[]/\R w (sD w O) x v []
 | .rQ x,v,fp,_=>R w (sD w O) x v fp
 | .xH c _,v,fp,cap=>∃b f,v= .pointer (some ⟨b,f,none⟩)/\qH w (sD w O) c.length [c] (some ⟨b,f,none⟩) cap fp
def CP(w:World)(O:Nat->Prop):List GA->List Value->List (List Nat)->List Nat->Prop
 |[],[],[],[]=>True
 |x::xs,v::vs,fp::fs,k::ks=>RG w O x v fp k/\CP w O xs vs fs ks
 |_,_,_,_=>False
def RP(w:World):GA->Value->List Nat->Nat->Prop
 | .xH c c',v,fp,cap=>∃b f,v= .pointer (some ⟨b,f,none⟩)/\qH w oO c.length [c'] (some ⟨b,f,none⟩) cap fp
 |_,_,fp,_=>fp=[]
def Ru(w:World):List GA->List Value->List (List Nat)->List Nat->Prop
 |[],[],[],[]=>True
 |x::xs,v::vs,fp::fs,k::ks=>RP w x v fp k/\Ru w xs vs fs ks
 |_,_,_,_=>False
def ax(P:Program)[aB P](f:FuncId)(args:List GA)(r:AV):Prop:=
 ∀(w:World) (vs:List Value) (tV:List (List Nat)) (iT:List Nat),aB.holds P w->(∀b∈tV.flatten,aB.low P<=b/\b<w.heap.size)->tV.flatten.Nodup->CP w (· ∈tV.flatten) args vs tV iT->
  Calls P f vs.toArray w λe w'=>∃v fp AZ,e= .returned v/\R w' oO r v fp/\Ru w' args vs AZ iT/\(AZ.flatten++fp).Nodup/\
   (∀b∈AZ.flatten++fp,(b∈tV.flatten\/w.heap.size<=b)/\b<w'.heap.size)/\w.heap.size<=w'.heap.size/\(∀b,b<w.heap.size->b∉tV.flatten->w'.heap[b]? =w.heap[b]?)/\nV w w'
mutual
def Pb(u:List Nat):AV->Bool
 | .obj i _=> !u.contains i
 | .ptr i _ _ _=> !u.contains i
 | .sl (.iZ i) _ _=> !u.contains i
 | .fH (.iZ i) _ _=> !u.contains i
 | .agg c=>Pd u c
 | .iP c=>Pd u c
 | .fn _ c=>Pd u c
 |_=>true
def Pd(u:List Nat):List AV->Bool
 |[]=>true
 |x::xs=>Pb u x&&Pd u xs
end
section
variable{P:Program}[aB P]{B:fM P}{s:AS}{G:List CO}{a:Act}{w:World}
theorem Xe(r:dN B s G a w){Z:Nat->Prop}{u:List Nat}(hZ:∀b,Z b->Of s.o G u b){b:Nat}(h:(env B s.o G w).A b):b<w.heap.size/\¬Z b:=
 ⟨nH r h,λhz=>by
  obtain⟨i,ob,g,_,hl,hlive,hF⟩:=hZ b hz;exact h.2 i ob g hl hlive hF⟩
theorem tq(r:dN B s G a w){Z:Nat->Prop}{u:List Nat}(hZ:∀b,Z b->Of s.o G u b){i:Nat}{ob:aD}{g:CO}(hl:look s.o G i ob g)(hlive:ob.live=true)(hi:i∉u){b:Nat}(h:g.F b):b<w.heap.size/\¬Z b:=
 ⟨(r.fresh _ _ _ b hl hlive h).2,λhz=>by
  obtain⟨j,oj,gj,hj,hlj,hjl,hF⟩:=hZ b hz;exact hi (r.apart i j _ _ _ _ b hl hlj hlive hjl h hF▸hj)⟩
theorem Lh(r:dN B s G a w){Z:Nat->Prop}{u:List Nat}(hZ:∀b,Z b->Of s.o G u b)(O:Nat->Prop)(hO:∀b,O b->b<w.heap.size/\¬Z b):lK (λ_=>some .view) false (env B s.o G w).plain (sD w Z) O where
 own t e:=by obtain rfl:=cU e;exact⟨by simp,λb hb=>hO b hb⟩
 view t e:=by obtain rfl:=cU e;exact⟨rfl,λb hb=>Xe r hZ hb⟩
 iZ i t e:=by obtain rfl:=cU e;exact⟨by simp,.inl trivial,λb hb=>hb.elim⟩
 hh h:=by cases h
 hl h:=by cases h
theorem Xf(r:dN B s G a w){Z:Nat->Prop}{u:List Nat}(hZ:∀b,Z b->Of s.o G u b)(box:Bool)(O:Nat->Prop)(hO:∀b,O b->b<w.heap.size/\¬Z b):lK Ht false ((env B s.o G w).of box) (sD w Z) O where
 own t e:=by obtain rfl:=cU e;exact⟨by simp,λb hb=>hO b hb⟩
 view t e:=by obtain rfl:=cU e;exact⟨rfl,λb hb=>Xe r hZ (by cases box<;>exact hb)⟩
 iZ i t e:=by cases e
 hh h:=by cases h
 hl h:=by cases h
theorem Vl(r:dN B s G a w){Z:Nat->Prop}{u:List Nat}(hZ:∀b,Z b->Of s.o G u b)(g:Tg)(hg:∀i,g= .iZ i->i∉u)(O:Nat->Prop)(hO:∀b,O b->b<w.heap.size/\¬Z b):lK (λ_=>some .view) false ((env B s.o G w).sub g) (sD w Z).plain O:=by
 cases g with
 |own=>exact Lh r hZ O hO
 |view=>exact Lh r hZ O hO
 |iZ i=>exact
  {own:=λt e=>by obtain rfl:=cU e;exact⟨by simp,λb hb=>hO b hb⟩
   view:=λt e=>by obtain rfl:=cU e;exact⟨rfl,λb hb=>Xe r hZ hb⟩
   iZ:=λj t e=>by obtain rfl:=cU e;refine⟨by simp,.inl trivial,λb hb=> ?_⟩;obtain⟨rfl,ob,g,hl,hlive,hF,_⟩:=hb;exact tq r hZ hl hlive (hg _ rfl) hF
   hh:=λh=>by cases h
   hl:=λh=>by cases h}
theorem ay(r:dN B s G a w){Z:Nat->Prop}{u:List Nat}(hZ:∀b,Z b->Of s.o G u b){g:Tg}(hg:∀i,g= .iZ i->i∉u){b:Nat}(h:(env B s.o G w).tg g b):b<w.heap.size/\¬Z b:=by
 cases g with
 |own=>exact h.elim
 |view=>exact Xe r hZ h
 |iZ i=>obtain⟨ob,g,hl,hlive,hF,_⟩:=h;exact tq r hZ hl hlive (hg _ rfl) hF
theorem HZ(r:dN B s G a w){Z:Nat->Prop}{u:List Nat}(hZ:∀b,Z b->Of s.o G u b){g:Tg}(hg:∀i,g= .iZ i->i∉u){n:Nat}{l:List (List AV)}{v:Value}(hd:¬(env B s.o G w).dead g)(h:R w (env B s.o G w) (.sl g n l) v []):
  R w (sD w Z) (.sl .view n (iI (λ_=>some .view) false l)) v []:=by
 simp only[R,kJ]at h⊢;rcases h with h|⟨x,cap,hv,hl,h⟩
 .exact absurd h.1 hd
 refine .inr ⟨x,cap,hv,hl,.inr (.inr ⟨by simp,trivial,?_⟩)⟩;rcases h with⟨_,rfl,_⟩|⟨_,b,off,C,ty,fz,nU,ha,hb,hz,h1,h2,h3,Gj,hr⟩|⟨hg',_,h⟩
 .exact .inl rfl
 .cases Gj
 .rcases h with rfl|⟨b,off,ha,ht,hr⟩
  .exact .inl rfl
  .exact .inr ⟨b,off,ha,ay r hZ hg ht,Gy (Vl r hZ g hg (λ_=>False) (λ_ h=>h.elim)) _ _ _ _ _ (by simp) hr⟩
mutual
theorem aA3(r:dN B s G a w){Z:Nat->Prop}{u:List Nat}(hZ:∀b,Z b->Of s.o G u b):∀(av:AV) (v:Value),Pb u av=true->R w (env B s.o G w) av v []->R w (sD w Z) (arg s.o av) v []
 | .obj i ver,v,ha,h=>by
  have hiu:i∉u:=by simpa [Pb]using ha
  cases tX:AV.isObj s.o i ver with
  |none=>simp[arg,tX,R]
  |some ob=>
   simp only[arg,tX];by_cases hb:ob.box=true
   .simp [hb,R]
   simp only[R]at h;obtain⟨_,ob',g,hl,_,hh,_⟩:=h;obtain⟨h1,h2,h3⟩:=jB tX;obtain rfl:=cU (hl.1.symm.trans h1);have hv:=hh h2 h3;obtain⟨fp,⟨hlen,hown⟩,hnd,hF⟩:=r.ok i _ g hl h2;have hb':ob'.box=false:=by simpa using hb
   rw[hb']at hown;simp only[hb',cX,eS];simp only[R,kJ];refine .inr ⟨g.a,g.cap,hv,⟨hlen,by rcases hown with h|⟨_,_,_,_,_,_,_,_,_,_,h,_⟩;simp[h.1];exact h⟩,.inr (.inr ⟨by simp,trivial,?_⟩)⟩;rcases hown with⟨h5,_⟩|⟨b,off,C,e,fz,nU,ha,hbk,hz,k1,k2,k3,rfl,hr⟩
   .left;rw[h5];rfl
   .right;have hlt:∀x∈b::nU,x<w.heap.size/\¬Z x:=λx hx=>tq r hZ hl h2 hiu (hF x hx)
    exact⟨b,off,ha,hlt b (by simp),Gy (Lh r hZ (λx=>x<w.heap.size/\¬Z x) (λ_ h=>h)) _ _ _ _ nU (λx hx=>hlt x (by simp[hx])) hr⟩
 | .ptr i ver idx off,v,ha,h=>by
  have hiu:i∉u:=by simpa [Pb]using ha
  cases tX:AV.isObj s.o i ver with
  |none=>simp[arg,tX,R]
  |some ob=>
   simp only[arg,tX];cases he:ob.dM[idx]? with
   |none=>simp[R]
   |some e=>
    simp only[R]at h⊢;obtain⟨_,ob',g,hl,_,hh,_⟩:=h;obtain⟨h1,h2,h3⟩:=jB tX;obtain rfl:=cU (hl.1.symm.trans h1);obtain⟨b,f,ha,hv⟩:=hh h2 h3;obtain⟨fp,⟨_,hown⟩,hnd,hF⟩:=r.ok i _ g hl h2;have hlt:∀x∈fp,x<w.heap.size/\¬Z x:=λx hx=>tq r hZ hl h2 hiu (hF x hx)
    rcases hown with⟨h5,_⟩|⟨b',f',C,ty,fz,nU,vB,hbk,hz,k1,k2,k3,rfl,hr⟩
    .rw [h5]at he;simp at he
    .rw [ha]at vB;simp only[eA,nB,qT]at vB;obtain⟨rfl,rfl⟩:=vB;obtain⟨f1,f2,f3,cs,rfl,hn,hc,hone,sK,_,_⟩:=Ac hr he;refine .inr ⟨trivial,b,f+idx*ob'.n,cs,?_,hlt b (by simp),hc,hone,?_⟩
     .rw [hv,oE]
     .have:=xA (Xf r hZ ob'.box (λx=>x<w.heap.size/\¬Z x) (λ_ h=>h)) e cs f2 (λx hx=>hlt x (by simp[hx])) sK;exact dX (w:=w) (w':=w) (E:=sD w Z) (E':=(sD w Z).sub .view) ⟨λ_ h=>⟨h,rfl⟩,λ_ _=>trivial,λ_ _ _ h=>h.elim,λ_ _ _ h=>h.elim,λ_ _ _ _ _ h=>h.elim⟩ _ _ _ (by simp) this
 | .agg c,v,ha,h=>by simp only[R,arg]at h⊢;obtain⟨cs,hv,hone,hr⟩:=h;exact⟨cs,hv,hone,Om r hZ c cs (by simpa [Pb]using ha) hr⟩
 | .iP c,v,ha,h=>by simp only[R,arg]at h⊢;obtain⟨cs,hv,hr⟩:=h;exact⟨cs,hv,Om r hZ c cs (by simpa [Pb]using ha) hr⟩
 | .fn f c,v,ha,h=>by simp only[R,arg]at h⊢;obtain⟨h1,cs,hv,hr⟩:=h;exact⟨trivial,cs,hv,Om r hZ c cs (by simpa [Pb]using ha) hr⟩
 | .int k n,v,_,h=>by simpa [arg,R]using h
 | .bool b,v,_,h=>by simpa [arg,R]using h
 | .str x,v,_,h=>by simpa [arg,R]using h
 | .sl .own n l,v,_,h=>by simp only[arg];exact HZ r hZ (g:= .own) (by simp) (λh=>h) h
 | .sl .view n l,v,_,h=>by simp only[arg];exact HZ r hZ (g:= .view) (by simp) (λh=>h) h
 | .sl (.iZ i) n l,v,ha,h=>by
  have hiu:i∉u:=by simpa [Pb]using ha
  simp only[arg];cases ho:s.o[i]? with
  |none=>simp[R]
  |some ob=>
   simp only;by_cases hlive:ob.live=true
   .rw [eW hlive];exact HZ r hZ (g:= .iZ i) (by simpa using hiu) (λhd=>hd (λob' qC=>by rw[ho]at qC;obtain rfl:=cU qC;exact hlive)) h
   .rw [eK hlive];simp[R]
 | .fH .own c off,v,_,h=>by
  simp only[R]at h;rcases h with h|⟨_,b,o,cs,hv,ht,_⟩
  .exact h.1.elim
  .exact ht.elim
 | .fH .view c off,v,_,h=>by
  simp only[arg];simp only[R]at h⊢;rcases h with h|⟨_,b,o,cs,hv,ht,hcs,hone,hr⟩
  .exact h.1.elim
  .exact .inr ⟨trivial,b,o,cs,hv,ay r hZ (g:= .view) (by simp) ht,hcs,hone,xA (Vl r hZ .view (by simp) (λ_=>False) (λ_ h=>h.elim)) _ _ _ (by simp) hr⟩
 | .fH (.iZ i) c off,v,ha,h=>by
  have hiu:i∉u:=by simpa [Pb]using ha
  simp only[arg];cases ho:s.o[i]? with
  |none=>simp[R]
  |some ob=>
   simp only;by_cases hlive:ob.live=true
   .rw [eW hlive];simp only[R]at h⊢;rcases h with h|⟨_,b,o,cs,hv,ht,hcs,hone,hr⟩
    .exact absurd (λob' qC=>by rw[ho]at qC;obtain rfl:=cU qC;exact hlive) h.1
    .exact .inr ⟨trivial,b,o,cs,hv,ay r hZ (g:= .iZ i) (by simpa using hiu) ht,hcs,hone,xA (Vl r hZ (.iZ i) (by simpa using hiu) (λ_=>False) (λ_ h=>h.elim)) _ _ _ (by simp) hr⟩
   .rw [eK hlive];simp[R]
 | .undef,v,_,_=>by simp[arg,R]
theorem Om(r:dN B s G a w){Z:Nat->Prop}{u:List Nat}(hZ:∀b,Z b->Of s.o G u b):∀(c:List AV) (cs:List Value),Pd u c=true->Rc w (env B s.o G w) c cs []->Rc w (sD w Z) (AY s.o c) cs []
 |[],[],_,_=>by simp[AY,Rc]
 |[],_::_,_,h=>by simp[Rc]at h
 |_::_,[],_,h=>by simp[Rc]at h
 |x::xs,c::cs,ha,h=>by
  simp only[Rc]at h;simp only[Pd,eI]at ha;obtain⟨f1,f2,h1,h2,e⟩:=h;obtain⟨rfl,rfl⟩:f1=[]/\f2=[]:=by simpa using e
  simp only[AY,Rc];exact⟨[],[],aA3 r hZ x c ha.1 h1,Om r hZ xs cs ha.2 h2,rfl⟩
end
mutual
theorem Pe(r:dN B s G a w){k:Nat}{ok:aD}{gk:CO}(hlk:look s.o G k ok gk)(hk:ok.live=true):∀(av:AV) (v:Value) (fp:List Nat),gP s.o av=true->(iN av).Nodup->k∉iN av->fp.Nodup->(∀b∈fp,gk.F b)->R w (env B s.o G w) av v fp->
  ∃AX,R w (env B s.o G w).plain (res s.o av) v AX/\AX.Nodup/\∀b∈AX,b∈fp\/Of s.o G (iN av) b
 | .obj i ver,v,fp,ho,hu,_,_,_,h=>by
  have hf:fp=[]:=by simp only[R]at h;exact h.1
  subst hf;obtain⟨AX,h1,h2,h3⟩:=Ee r _ v ho hu h;exact⟨AX,h1,h2,λb hb=> .inr (h3 b hb)⟩
 | .agg c,v,fp,ho,hu,Xg,hn,hF,h=>by simp only[R]at h;obtain⟨cs,rfl,hone,hr⟩:=h;obtain⟨AX,h1,h2,h3⟩:=Jw r hlk hk c cs fp (by simpa [gP]using ho) (by simpa [iN]using hu) (by simpa [iN]using Xg) hn hF hr;exact⟨AX,by simp only[res,R];exact⟨cs,rfl,hone,h1⟩,h2,by simpa [iN]using h3⟩
 | .iP c,v,fp,ho,hu,Xg,hn,hF,h=>by simp only[R]at h;obtain⟨cs,rfl,hr⟩:=h;obtain⟨AX,h1,h2,h3⟩:=Jw r hlk hk c cs fp (by simpa [gP]using ho) (by simpa [iN]using hu) (by simpa [iN]using Xg) hn hF hr;exact⟨AX,by simp only[res,R];exact⟨cs,rfl,h1⟩,h2,by simpa [iN]using h3⟩
 | .int k n,v,fp,_,_,_,hn,_,h=>⟨fp,by simpa [res,R]using h,hn,λb hb=> .inl hb⟩
 | .bool b,v,fp,_,_,_,hn,_,h=>⟨fp,by simpa [res,R]using h,hn,λb hb=> .inl hb⟩
 | .str x,v,fp,_,_,_,hn,_,h=>⟨fp,by simpa [res,R]using h,hn,λb hb=> .inl hb⟩
 | .sl .own n l,v,fp,_,_,_,hn,_,h=>⟨fp,by simp only[res];rw[rO]at h⊢;exact h,hn,λb hb=> .inl hb⟩
 | .sl .view n l,v,fp,_,_,_,hn,_,h=>⟨fp,by simp only[res,R]at h⊢;exact h,hn,λb hb=> .inl hb⟩
 | .sl (.iZ i) n l,v,fp,ho,_,_,_,_,h=>by simp[gP]at ho
 | .fH .view c off,v,fp,_,_,_,hn,_,h=>⟨fp,by simp only[res,R]at h⊢;exact h,hn,λb hb=> .inl hb⟩
 | .fH .own c off,v,fp,ho,_,_,_,_,h=>by simp[gP]at ho
 | .fH (.iZ _) c off,v,fp,ho,_,_,_,_,h=>by simp[gP]at ho
 | .ptr _ _ _ _,v,fp,ho,_,_,_,_,h=>by simp[gP]at ho
 | .fn f [],v,fp,_,_,_,hn,_,h=>⟨fp,by simp only[res,R]at h⊢;obtain⟨h1,cs,h2,h3⟩:=h;refine⟨h1,cs,h2,?_⟩;cases cs<;>simp_all[Rc],hn,λb hb=> .inl hb⟩
 | .fn f (_::_),v,fp,ho,_,_,_,_,h=>by simp[gP]at ho
 | .undef,v,fp,_,_,_,hn,_,h=>⟨fp,by simpa [res,R]using h,hn,λb hb=> .inl hb⟩
theorem Jw(r:dN B s G a w){k:Nat}{ok:aD}{gk:CO}(hlk:look s.o G k ok gk)(hk:ok.live=true):∀(c:List AV) (cs:List Value) (fp:List Nat),lM s.o c=true->(jF c).Nodup->k∉jF c->fp.Nodup->(∀b∈fp,gk.F b)->Rc w (env B s.o G w) c cs fp->
  ∃AX,Rc w (env B s.o G w).plain (rC s.o c) cs AX/\AX.Nodup/\∀b∈AX,b∈fp\/Of s.o G (jF c) b
 |[],[],fp,_,_,_,hn,_,h=>⟨fp,by simpa [rC,Rc]using h,hn,λb hb=> .inl hb⟩
 |[],_::_,_,_,_,_,_,_,h=>by simp[Rc]at h
 |_::_,[],_,_,_,_,_,_,h=>by simp[Rc]at h
 |x::xs,c::cs,fp,ho,hu,Xg,hn,hF,h=>by
  simp only[Rc]at h;obtain⟨g1,g2,h1,h2,rfl⟩:=h;simp only[lM,eI]at ho;simp only[jF,gS]at hu;simp only[jF,fS,not_or]at Xg;have zq:=gS.1 hn;obtain⟨f1,k1,n1,o1⟩:=Pe r hlk hk x c g1 ho.1 hu.1 Xg.1 zq.1 (λb hb=>hF b (oB _ hb)) h1;obtain⟨f2,k2,n2,o2⟩:=Jw r hlk hk xs cs g2 ho.2 hu.2.1 Xg.2 zq.2.1 (λb hb=>hF b (tD _ hb)) h2;have aOc:∀(u:List Nat) (b:Nat),k∉u->gk.F b->Of s.o G u b->False:=by rintro u b Xg hFb ⟨i,ob,g,hi,hl,hlive,hF'⟩;exact Xg (r.apart k i _ _ _ _ b hlk hl hk hlive hFb hF'▸hi)
  refine⟨f1++f2,by simp only[rC,Rc];exact⟨f1,f2,k1,k2,rfl⟩,?_,?_⟩
  .refine gS.2 ⟨n1,n2,λb hb b' hb' e=> ?_⟩
   subst e;rcases o1 b hb with p1|p1<;>rcases o2 b hb' with p2|p2
   .exact zq.2.2 b p1 b p2 rfl
   .exact aOc _ b Xg.2 (hF b (oB _ p1)) p2
   .exact aOc _ b Xg.1 (hF b (tD _ p2)) p1
   .obtain ⟨i,ob,g,hi,hl,hlive,hF1⟩:=p1;obtain⟨j,ob',g',hj,BU,wC,ae⟩:=p2;exact hu.2.2 i hi j hj (r.apart i j _ _ _ _ b hl BU hlive wC hF1 ae)
  .intro b hb;rcases fS.1 hb with hb|hb
   .rcases o1 b hb with h|⟨i,ob,g,hi,h⟩
    .exact .inl (oB _ h)
    .exact .inr ⟨i,ob,g,by simp[jF,hi],h⟩
   .rcases o2 b hb with h|⟨i,ob,g,hi,h⟩
    .exact .inl (tD _ h)
    .exact .inr ⟨i,ob,g,by simp[jF,hi],h⟩
end
end
def bA(l:List UInt8):List (List AV):=l.map λc=>[.int .u8 c.toNat]
theorem lN(l:List UInt8):(bA l).length=l.length:=oT _
theorem Xh{w:World}{E:Env}{b:Nat}:∀(l:List UInt8) (off:Nat),(∀(j:Nat) (c:UInt8),l[j]? =some c->w.cell? ⟨b,off+j,none⟩=some (.int .u8 c.toNat))->Rr w E (bA l) b off 1 []
 |[],_,_=>by simp[bA,Rr]
 |c::l,off,h=>by
  simp only[bA,lA,Rr];refine⟨[.int .u8 c.toNat],[],[],rfl,λj v hv=> ?_,by simp[Value.oneCell'],by simp[Rc,R],Xh l (off+1) (λj c' hc=> ?_),rfl⟩
  .cases j with
   |zero=>simp only[By,eA]at hv;subst hv;exact h 0 c rfl
   |succ j=>simp at hv
  .have:=h (j+1) c' (by simpa using hc)
   rwa[show off+1+j=off+(j+1)by omega]
theorem bn(src d:TypeId)(x:Operand){l:List UInt8}{e:TypeId}{by':Nat}(hx:s.ev x= .str l)(hs:isString P src=true)(hd:lQ P d=some (e,1,by'))(he:intType P e=some .u8)(hl:l.length<=9223372036854775807):
  Step P B ⟨dst,.convert src d x,ty,pos,after,gd⟩ s (s.made dst 1 (bA l)):=
 qI λG a w r=>by
  obtain⟨hu,_⟩:=pJ hd;have hue:P.underlying e=some (.int .u8):=by
   unfold intType at he;split at he
   .rename_i k hk;rw[hk];simpa using he
   .cases he
  have fV:=Lib.run_convert_string_bytes w src d e ⟨l.toArray⟩ (mX hs) hu hue;have hsz:(⟨l.toArray⟩:ByteArray).size=l.length:=by simp[ByteArray.size]
  rw[hsz]at fV;have hge:l.length<=grownCap w l.length 0 e:=grownCap_ge _ _ _ _;have hle:grownCap w l.length 0 e<=maxLen:=grownCap_le_maxLen _ _ _ _ (by simpa [maxLen]using hl);have hnew:=Lib.bytesWorld_at_new w e ⟨l.toArray⟩;have hbs:=Lib.bytesWorld_size w e ⟨l.toArray⟩;have hold:=Lib.bytesWorld_at_old w e ⟨l.toArray⟩;have hC:Lib.bytesCells w e ⟨l.toArray⟩=(l.map λc=>Value.int .u8 c.toNat).toArray++Array.replicate (grownCap w l.length 0 e-l.length) (.int .u8 0):=by simp[Lib.bytesCells,hsz]
  have hCs:(Lib.bytesCells w e ⟨l.toArray⟩).size=grownCap w l.length 0 e:=by rw[hC];simp;omega
  have hsm:nV w (Lib.bytesWorld w e ⟨l.toArray⟩):=⟨rfl,rfl,rfl⟩;generalize sP:grownCap w l.length 0 e=cap at*;generalize hw:Lib.bytesWorld w e ⟨l.toArray⟩=w' at*;have Hu:=r.add [⟨true,false,1,1,bA l⟩] [⟨some ⟨w.heap.size,0,none⟩,cap,λb=>b=w.heap.size⟩] w' rfl (by omega) (λb hb=>hold b hb)
   (by
    rintro j ob g b ⟨h1,h2⟩ _ hf;cases j with
    |zero=>simp at h2;subst h2;simp at hf;subst hf;omega
    |succ j=>simp at h2)
   (by
    rintro i j _ _ _ _ b ⟨h1,_⟩ ⟨h2,_⟩ _ _ _ _;cases i<;>cases j<;>simp_all)
   (by
    rintro k j ob g ⟨h1,h2⟩ _;cases j with
    |zero=>
     simp at h1 h2;subst h1;subst h2;refine⟨[w.heap.size],⟨by simp only[lN];exact kO hge hle,.inr ⟨w.heap.size,0,_,e,_,[],rfl,hnew,.inl ⟨eE _,rfl⟩,by show 0+cap*1<=_;rw[hCs];omega,by simp only[lN];exact hge,hle,rfl,?_⟩⟩,by simp,by simp⟩;refine Xh l 0 λj c hc=> ?_
     have hj:=(cQ.1 hc).1;have h3:(Lib.bytesCells w e ⟨l.toArray⟩)[j]? =some (.int .u8 c.toNat):=by rw[hC,At (by simpa using hj)];simp[hc]
     simp only[World.cell?,hnew,lO];exact h3
    |succ j=>simp at h1)
   hsm
  refine⟨.slice (some ⟨w.heap.size,0,none⟩) l.length cap,w',by simp only[execOp,r.WS hx,oA,fV,lP,sY],_,Hu.1.put dst ?_⟩;simp only[R];refine⟨trivial,⟨true,false,1,1,bA l⟩,⟨some ⟨w.heap.size,0,none⟩,cap,λb=>b=w.heap.size⟩,?_,eE _,⟨λ_ _=>by simp[lN],λh=>by omega⟩⟩;have:=kK (i:=0) (o:=s.o) (G:=G) (o2:=[⟨true,false,1,1,bA l⟩]) (G2:=[⟨some ⟨w.heap.size,0,none⟩,cap,λb=>b=w.heap.size⟩]) r.len ⟨rfl,rfl⟩;simpa using this
end
end Go.Aw
