/- Proved here: steps towards the statement of this claim. No condition. -/
import Derived.Test.YthddijamfbfibaaGreatDoorZF1
import Derived.Lib.ConvBytes
set_option linter.all false
namespace Go.Aw
open List
def AV.OY:AV->Bool
 | .undef=>false
 | .gM _=>false
 | .agg _=>false
 | .obj _ _=>false
 | .ptr _ _ _ _=>false
 | .sl (.kH _) _ _=>false
 | .eU (.kH _) _ _=>false
 | .fn _ (_::_)=>false
 |_=>true
theorem aJ2{w:World}{E E':Env}(hA:∀b,E.A b->E'.A b){x:AV}{v:Value}(hs:x.OY=true)(h:R w E x v []):R w E' x v []:=by
 cases x with
 |int _ _=>simpa [R]using h
 |bool _=>simpa [R]using h
 |str _=>simpa [R]using h
 |sl g n l=>
  cases g with
  |own=>
   rw[pM]at h⊢;obtain⟨a,cap,hv,hl,h⟩:=h;refine⟨a,cap,hv,hl,.inl ?_⟩;rcases h with h|⟨_,_,_,_,_,_,_,_,_,_,_,_,hf,_⟩
   .exact h
   .cases hf
  |view=>refine qK (w:=w) (E:=E.plain) (E':=E') ⟨λb h=>⟨hA b h,rfl⟩,λ_ _=>trivial,λ_ _ _ h=>h.elim,λ_ _ _ h=>h.elim,λ_ _ _ _ _ h=>h.elim⟩ _ _ _ (by simp) ?_;simp only[R]at h⊢;exact h
  |kH i=>cases hs
 |eU g c off=>
  cases g with
  |own=>simp only[R]at h;rcases h with h|⟨_,_,_,_,_,h,_⟩;exact h.1.elim;exact h.elim
  |view=>refine qK (w:=w) (E:=E.plain) (E':=E') ⟨λb h=>⟨hA b h,rfl⟩,λ_ _=>trivial,λ_ _ _ h=>h.elim,λ_ _ _ h=>h.elim,λ_ _ _ _ _ h=>h.elim⟩ _ _ _ (by simp) ?_;simp only[R]at h⊢;exact h
  |kH i=>cases hs
 |obj _ _=>cases hs
 |ptr _ _ _ _=>cases hs
 |agg _=>cases hs
 |gM _=>cases hs
 |fn f c=>
  cases c with
  |nil=>simp only[R]at h⊢;obtain⟨h1,cs,h2,h3⟩:=h;refine⟨trivial,cs,h2,?_⟩;cases cs<;>simp_all[Rc]
  |cons _ _=>cases hs
 |undef=>cases hs
theorem ai{w:World}{E E':Env}(hA:∀b,E.A b->E'.A b):∀{c:List AV} {cs:List Value},c.all AV.OY=true->Rc w E c cs []->Rc w E' c cs []
 |[],[],_,_=>by simp[Rc]
 |[],_::_,_,h=>by simp[Rc]at h
 |_::_,[],_,h=>by simp[Rc]at h
 |x::xs,c::cs,hs,h=>by
  simp only[Rc]at h⊢;simp only[CC,eI]at hs;obtain⟨f1,f2,h1,h2,e⟩:=h;obtain⟨rfl,rfl⟩:f1=[]/\f2=[]:=by simpa using e
  exact⟨[],[],aJ2 hA hs.1 h1,ai hA hs.2 h2,rfl⟩
section
variable{P:Program}[aB P]{B:gN P}{s:AS}{dst:Option Tmp}{ty:TypeId}{pos:String}{after:Array Edge}{gd:Option (Nat × Bool)}
def AS.stored(s:AS)(i idx off:Nat)(ob:aN)(e c:List AV):AS:=⟨s.t,s.o.set i {ob with dO:=ob.dO.set idx (e.take off++c++e.drop (off+c.length))}⟩
theorem eB.stored{G:List CO}{a:Act}{w:World}(r:eB B s G a w){i idx off:Nat}{ob:aN}{g:CO}{e c:List AV}{vs:List Value}(hl:Aw.look s.o G i ob g)(hlive:ob.live=true)(he:ob.dO[idx]? =some e)
  (hfit:off+c.length<=e.length) (wB:ob.box=true\/c.all AV.OY=true) (hone:∀x∈vs,x.oneCell'=true) (hr:Rc w (env B s.o G w) c vs []):
  ∃b f,g.a=some ⟨b,f,none⟩/\(storeCells ⟨b,f+(idx*ob.n+off),none⟩ vs).run P w= .ok () (w.setCells b (f+(idx*ob.n+off)) vs)/\
   eB B (s.stored i idx off ob e c) (G.set i g) a (w.setCells b (f+(idx*ob.n+off)) vs):=by
 obtain⟨fp,hown,hnd,hF⟩:=r.ok i ob g hl hlive;have hvl:=gG hr;rcases hown with⟨hlen,⟨h,_⟩|⟨b,f,C,ty,fz,qN,ha,hb,hz,h1,h2,h3,rfl,hrr⟩⟩
 .rw [h]at he;simp at he
 obtain⟨f1,f2,f3,cs,hfe,hn,hc,aj,wL,hr1,hr3⟩:=AX hrr he;have hcl:=gG wL;have aNz:idx<ob.dO.length:=(cH.1 he).1;have hmul:(idx+1)*ob.n<=g.cap*ob.n:=lE _ (by omega);have V3:(idx+1)*ob.n=idx*ob.n+ob.n:=by rw[rB];omega
 have aD6:f+(idx*ob.n+off)+vs.length<=C.size:=by omega
 refine⟨b,f,ha,uM hb hz aD6 hone,?_⟩;have WV:g.F b:=hF b (by simp);have EG:∀b',b'≠b->(w.setCells b (f+(idx*ob.n+off)) vs).heap[b']? =w.heap[b']?:=λb' hne=>mF b b' hne _ _ _
 obtain⟨C',hC',hCs⟩:=jT b ty fz vs (f+(idx*ob.n+off)) w C hb;have hm:=r.modify hl hlive {ob with dO:=ob.dO.set idx (e.take off++c++e.drop (off+c.length))} g (w.setCells b (f+(idx*ob.n+off)) vs) (eC _) rfl (λ_=>⟨rfl,rfl,by simp⟩) (λb hb=> .inl hb) (λb hb hne=>⟨hb,hne⟩)
  (λb' hlt hne=>EG b' (λe=>hne ⟨e▸WV,⟨b,f,none⟩,ha,e⟩)) (by rw[gX];exact eC _) (λk _=>by
  generalize env B (s.o.set i {ob with dO:=ob.dO.set idx (e.take off++c++e.drop (off+c.length))}) (G.set i g) (w.setCells b (f+(idx*ob.n+off)) vs)=E' at k⊢;have kb:=k.of ob.box;obtain⟨g1,g2,rfl,hc1,ZX⟩:=uL off wL;obtain⟨g3,g4,rfl,hc3,hc4⟩:=uL c.length ZX;have hc':Rc w ((env B s.o G w).of ob.box) c vs []:=by
   cases Gh:ob.box with
   |true=>exact hr
   |false=>
    rcases wB with h|h
    .rw [Gh]at h;cases h
    .exact ai (E:=env B s.o G w) (E':=(env B s.o G w).of false) (λb hb=>hb) h hr
  subst hfe;have hsub:(f1++(g1++g4)++f3).Sublist (f1++(g1++(g3++g4))++f3):=((rI f1).append ((rI g1).append (sublist_append_right g3 g4))).append (rI f3);have hbn:b∉f1++(g1++(g3++g4))++f3:=(lR.1 hnd).1;have hold:∀x∈f1++(g1++g4)++f3,(w.setCells b (f+(idx*ob.n+off)) vs).heap[x]? =w.heap[x]?:=λx hx=>EG x (λe=>hbn (hsub.subset (e▸hx)))
  have JK:∀j,j<f+(idx*ob.n+off)\/f+(idx*ob.n+off)+vs.length<=j->(w.setCells b (f+(idx*ob.n+off)) vs).cell? ⟨b,j,none⟩=w.cell? ⟨b,j,none⟩:=λj hj=>By b vs _ w _ (λ_ _=>hj)
  have hti:(ob.dO.take idx).length=idx:=by simp;omega
  refine⟨b::(f1++(g1++g4)++f3),⟨by simpa using hlen,.inr ⟨b,f,C',ty,fz,_,ha,hC',by rw[hCs];exact hz,by rw[hCs];exact h1,by simpa using h2,h3,rfl,?_⟩⟩,?_,?_⟩
  .show Rr _ _ (ob.dO.set idx _) b f ob.n _;refine WT (cs:=cs.take off++vs++cs.drop (off+vs.length)) aNz ?_ ?_ ?_ ?_ ?_ ?_
   .simp only[eR,oT,AE];omega
   .have hc1:bK w b (f+idx*ob.n) cs:=hc;have htl:(cs.take off).length=off:=by simp;omega
    refine bK.append.2 ⟨bK.append.2 ⟨?_,?_⟩,?_⟩
    .intro j v hv;have hj:=(cH.1 hv).1;rw[htl]at hj;rw[JK _ (by omega)];exact hc1.take j v hv
    .intro j v hv;have hj:j<vs.length:=(cH.1 hv).1;rw[htl,oR f];have:=Cd b vs (f+(idx*ob.n+off)) w (λj hj=>by
      have:f+(idx*ob.n+off)+j<C.size:=by omega
      simp[World.cell?,hb,this]) j hj
     rw[this];rw[aE hj]at hv;exact hv
    .intro j v hv;simp only[eR,htl];rw[JK _ (by omega)];have:=hc1.drop (k:=off+vs.length) j v hv
     rwa[show f+idx*ob.n+(off+vs.length)+j=f+idx*ob.n+(off+vs.length)+j from rfl]at this
   .intro x hx;simp only[eW]at hx;rcases hx with(hx|hx)|hx
    .exact aj x (sE hx)
    .exact hone x hx
    .exact aj x (AI hx)
   .have e1:g1++g4=g1++[]++g4:=by simp
    rw[e1];refine mY (mY (dU kb _ _ _ (λx hx=>hold x (by simp[hx])) hc1) (dU kb _ _ _ (by simp) hc')) ?_;rw[<-hvl,<-AF,<-AF]at*;rw[hvl]at*;exact dU kb _ _ _ (λx hx=>hold x (by simp[hx])) hc4
   .refine Rw kb JK (λx hx=>hold x (by simp[hx])) (.inl ?_) hr1
    rw[hti];omega
   .refine Rw kb JK (λx hx=>hold x (by simp[hx])) (.inr ?_) hr3
    omega
  .refine lR.2 ⟨λh=>hbn (hsub.subset h),hsub.nodup (lR.1 hnd).2⟩
  .intro x hx;rcases gS.1 hx with rfl|hx
   .exact WV
   .exact hF x (AK _ (hsub.subset hx)))
 exact hm.1
def wR(P:Program)(t:TypeId):Option Nat:=(P.info? t).map (·.size)
theorem xy(t:TypeId)(x y:Operand){i bU idx off:Nat}{ob:aN}{e:List AV}(hx:s.ev x= .ptr i bU idx off)(ho:AV.isObj s.o i bU=some ob)(he:ob.dO[idx]? =some e)
  (hfy:(s.ev y).fit s.o=true) (hsz:wR P t=some (s.ev y).cells.length) (hfit:off+(s.ev y).cells.length<=e.length) (wB:ob.box=true\/(s.ev y).cells.all AV.OY=true):
  Step P B ⟨dst,.store t x y,ty,pos,after,gd⟩ s ((s.stored i idx off ob e (s.ev y).cells).put dst .undef):=
 Rx λG a w r=>by
  obtain⟨g,b,f,hl,hlive,ha,hv⟩:=r.ptr hx ho;have hc:=QT hfy (r.ev y);obtain⟨b',f',wW,hst,hrel⟩:=r.stored (P:=P) hl hlive he hfit wB hc.2.1 hc.1;rw[ha]at wW;simp only[eE,pN,sY]at wW;obtain⟨rfl,rfl⟩:=wW;have hlen:=gG hc.1;refine⟨_,?_,_,hrel.put dst (by simp[R])⟩;unfold wR at hsz;cases hi:P.info? t with
  |none=>simp[hi]at hsz
  |some inf=>
   simp only[hi,mT,eE]at hsz;have aD7:(a.eval y).cells.size=inf.size:=by rw[hsz];simpa using hlen
   simp[execOp,hv,Instr.storeAt,Instr.sureAddr,storeVar,sizeOf,typeInfo,hi,aD7,hst]
theorem rR{t e:TypeId}{n by':Nat}(h:nC P t=some (e,n,by')):P.underlying t=some (.slice e)/\∃i,P.info? e=some i/\i.size=n/\i.bytes=by':=by
 unfold nC at h;split at h
 .rename_i e' hu;cases hi:P.info? e' with
  |none=>simp[hi]at h
  |some i=>simp[hi]at h;obtain⟨rfl,rfl,rfl⟩:=h;exact⟨hu,i,hi,rfl,rfl⟩
 .cases h
theorem OZ{t e:TypeId}{n by':Nat}(h:nC P t=some (e,n,by'))(b f len cap:Nat)(k:IntKind)(i:Int)(h0:0<=i)(h1:i<len)(w:World):
  (Instr.indexAt t (.slice (some ⟨b,f,none⟩) len cap) (.int k i)).run P w= .ok (.pointer (some ⟨b,f+i.toNat*n,none⟩)) w:=by
 obtain⟨hu,inf,hi,hs,_⟩:=rR h;simp[Instr.indexAt,asIntOf,gC hu,h0,h1,sizeOf,typeInfo,hi,hs,addr_add]
theorem eB.xz{G:List CO}{a:Act}{w:World}(r:eB B s G a w){x:Operand}{i bU:Nat}{ob:aN}(hx:s.ev x= .obj i bU)(ho:AV.isObj s.o i bU=some ob):
  ∃g,Aw.look s.o G i ob g/\ob.live=true/\a.eval x= .slice g.a ob.dO.length g.cap:=by
 have h:=r.ev x;rw[hx]at h;simp only[R]at h;obtain⟨_,fF,g,hl,_,hh,_⟩:=h;obtain⟨h1,h2,h3⟩:=lI ho;obtain rfl:=cQ (hl.1.symm.trans h1);exact⟨g,hl,h2,hh h2 h3⟩
theorem eB.JR{G:List CO}{a:Act}{w:World}(r:eB B s G a w){x:Operand}{k:IntKind}{n:Int}(hx:s.ev x= .int k n):a.eval x= .int k n:=by have h:=r.ev x;rw[hx]at h;simp only[R]at h;exact h.1
theorem eB.ak{G:List CO}{a:Act}{w:World}(r:eB B s G a w){x:Operand}{n:Bool}(hx:s.ev x= .bool n):a.eval x= .bool n:=by have h:=r.ev x;rw[hx]at h;simp only[R]at h;exact h.1
theorem eB.au{G:List CO}{a:Act}{w:World}(r:eB B s G a w){x:Operand}{n:List UInt8}(hx:s.ev x= .str n):a.eval x= .string ⟨n.toArray⟩:=by have h:=r.ev x;rw[hx]at h;simp only[R]at h;exact h.1
theorem RH(t:TypeId)(x ix:Operand){i bU:Nat}{ob:aN}{e:TypeId}{by':Nat}{k:IntKind}{n:Int}(hx:s.ev x= .obj i bU)(ho:AV.isObj s.o i bU=some ob)(hi:s.ev ix= .int k n)
  (ht:nC P t=some (e,ob.n,by')) (h0:0<=n) (h1:n<ob.dO.length) (Gh:ob.box=false\/ob.bU≠2):Step P B ⟨dst,.indexAddr t x ix,ty,pos,after,gd⟩ s (s.put dst (.ptr i bU n.toNat 0)):=
 dV λG a w r=>by
  obtain⟨g,hl,hlive,hv⟩:=r.xz hx ho;have hlt:n.toNat<ob.dO.length:=by omega
  obtain⟨b,f,cs,ha,_⟩:=r.elem hl hlive (aE hlt);refine⟨.pointer (some ⟨b,f+n.toNat*ob.n,none⟩),?_,?_⟩
  .simp only[execOp,hv,ha,r.JR hi];simp[OZ ht b f _ g.cap k n h0 h1]
  .simp only[R];obtain⟨h1,h2,h3⟩:=lI ho;exact⟨trivial,ob,g,hl,DA h3.symm,λ_ _=>⟨b,f,ha,by simp⟩,λe e2=>by rcases Gh with Gh|Gh;(rw[Gh]at e;cases e);exact absurd e2 (by omega)⟩
theorem aD8{o:List aN}{G:List CO}{w:World}{g:Tg}{n:Nat}{l:List (List AV)}(hf:(AV.sl g n l).fit o=true):¬(env B o G w).dead g:=by
 cases g with
 |own=>exact λh=>h
 |view=>exact λh=>h
 |kH i=>
  simp only[AV.fit]at hf;refine λhd=>hd (λob vZ=> ?_)
  simpa [vZ]using hf
theorem eB.slv{G:List CO}{a:Act}{w:World}(r:eB B s G a w){x:Operand}{g:Tg}{n:Nat}{l:List (List AV)}(hx:s.ev x= .sl g n l)(hf:(AV.sl g n l).fit s.o=true):
  ∃ad cap,a.eval x= .slice ad l.length cap/\(l.length<=maxLen/\l.length<=cap)/\((l=[]/\(g= .own->cap=0))\/∃b f,ad=some ⟨b,f,none⟩/\g≠ .own/\(env B s.o G w).tg g b/\Rr w ((env B s.o G w).sub g) l b f n []):=by
 have h:=r.ev x;rw[hx]at h;simp only[R]at h;rcases h with h|⟨ad,cap,hv,hl,h⟩
 .exact absurd h.1 (aD8 hf)
 .refine ⟨ad,cap,hv,hl,?_⟩;rcases h with h|⟨_,_,_,_,_,_,_,_,_,_,_,_,_,JI,_⟩|⟨hg,_,h⟩
  .exact .inl ⟨h.2.1,λ_=>h.2.2.1⟩
  .cases JI
  .rcases h with h|⟨b,f,ha,ht,hr⟩
   .exact .inl ⟨h,λe=>absurd e hg⟩
   .exact .inr ⟨b,f,ha,hg,ht,hr⟩
theorem VJ(t:TypeId)(x ix:Operand){g:Tg}{m:Nat}{l:List (List AV)}{e:TypeId}{by':Nat}{k:IntKind}{n:Int}{c:List AV}(hx:s.ev x= .sl g m l)(hf:(AV.sl g m l).fit s.o=true)(hi:s.ev ix= .int k n)
  (ht:nC P t=some (e,m,by')) (h0:0<=n) (hc:l[n.toNat]? =some c):Step P B ⟨dst,.indexAddr t x ix,ty,pos,after,gd⟩ s (s.put dst (.eU g c 0)):=
 dV λG a w r=>by
  obtain⟨ad,cap,hv,hl,h⟩:=r.slv hx hf;have hlt:=(cH.1 hc).1;rcases h with⟨h,_⟩|⟨b,f,rfl,hg,htg,hr⟩
  .rw [h]at hlt;simp at hlt
  .refine ⟨.pointer (some ⟨b,f+n.toNat*m,none⟩),?_,?_⟩
   .simp only[execOp,hv,r.JR hi];simp[OZ ht b f l.length cap k n h0 (by omega)]
   .simp only[R];obtain⟨f1,f2,f3,cs,hfe,hn,hcs,hone,wL,_,_⟩:=AX hr hc;have:f2=[]:=by have:=zE length hfe;simp at this;exact hS (by omega)
    subst this;exact .inr ⟨trivial,b,f+n.toNat*m,cs,by simp,htg,hcs,hone,wL⟩
def aJ4(P:Program)(t:TypeId):Option (Nat×Nat):=
 match P.underlying t with
 |some (.array n e)=>(P.info? e).map λi=>(n,i.size)
 |_=>none
theorem RI(t:TypeId)(x ix:Operand){i bU idx off len sz:Nat}{ob:aN}{k:IntKind}{n:Int}(hx:s.ev x= .ptr i bU idx off)(ho:AV.isObj s.o i bU=some ob)(hi:s.ev ix= .int k n)
  (ht:aJ4 P t=some (len,sz)) (h0:0<=n) (h1:n<len):Step P B ⟨dst,.indexAddr t x ix,ty,pos,after,gd⟩ s (s.put dst (.ptr i bU idx (off+n.toNat*sz))):=
 dV λG a w r=>by
  obtain⟨g,b,f,hl,hlive,ha,hv⟩:=r.ptr hx ho;refine⟨.pointer (some ⟨b,f+(idx*ob.n+(off+n.toNat*sz)),none⟩),?_,?_⟩
  .unfold aJ4 at ht;split at ht
   .rename_i n' e' hu;cases hi':P.info? e' with
    |none=>simp[hi']at ht
    |some inf=>simp[hi']at ht;obtain⟨rfl,rfl⟩:=ht;simp[execOp,hv,r.JR hi,Instr.indexAt,asIntOf,gC hu,Instr.sureAddr,h0,h1,sizeOf,typeInfo,hi',addr_add,oR]
   .cases ht
  .simp only[R];obtain⟨h1,h2,h3⟩:=lI ho;refine⟨trivial,ob,g,hl,DA h3.symm,λ_ _=>⟨b,f,ha,rfl⟩,λe1 e2 e3 e4 y hy=> ?_⟩;have h0':off=0:=by omega
   have aU6:n.toNat*sz=0:=by omega
   have:=r.pin hx ho hl e1 e2 e3 h0' y hy;exact⟨by rw[<-this.1,hv,h0',aU6],this.2⟩
def isSlice(P:Program)(t:TypeId):Bool:=match P.underlying t with|some (.slice _)=>true|_=>false
def isString(P:Program)(t:TypeId):Bool:=match P.underlying t with|some .string=>true|_=>false
theorem Lc{t:TypeId}(h:isSlice P t=true):∃e,P.underlying t=some (.slice e):=by
 unfold isSlice at h;split at h
 .rename_i e he;exact⟨e,he⟩
 .cases h
theorem pQ{t:TypeId}(h:isString P t=true):P.underlying t=some .string:=by
 unfold isString at h;split at h
 .assumption
 .cases h
theorem Yy(t:TypeId)(x:Operand){i bU:Nat}{ob:aN}(hx:s.ev x= .obj i bU)(ho:AV.isObj s.o i bU=some ob)(ht:isSlice P t=true):
  Step P B ⟨dst,.call {callee:= .builtin .len,args:=#[x],argTypes:=#[t]},ty,pos,after,gd⟩ s (s.put dst (.int .i64 ob.dO.length)):=
 dV λG a w r=>by obtain⟨g,hl,hlive,hv⟩:=r.xz hx ho;obtain⟨e,he⟩:=Lc ht;exact⟨.int .i64 ob.dO.length,by simp[execOp,resolve,invoke,builtin,hv,Builtin.len_,gC he,goInt],by simp[R]⟩
theorem ax(t:TypeId)(x:Operand){g:Tg}{n:Nat}{l:List (List AV)}(hx:s.ev x= .sl g n l)(hf:(AV.sl g n l).fit s.o=true)(ht:isSlice P t=true):
  Step P B ⟨dst,.call {callee:= .builtin .len,args:=#[x],argTypes:=#[t]},ty,pos,after,gd⟩ s (s.put dst (.int .i64 l.length)):=
 dV λG a w r=>by obtain⟨ad,cap,hv,_⟩:=r.slv hx hf;obtain⟨e,he⟩:=Lc ht;exact⟨.int .i64 l.length,by simp[execOp,resolve,invoke,builtin,hv,Builtin.len_,gC he,goInt],by simp[R]⟩
theorem size_mk(l:List UInt8):(⟨l.toArray⟩:ByteArray).size=l.length:=by show l.toArray.size=_;simp
theorem Yz(t:TypeId)(x:Operand){l:List UInt8}(hx:s.ev x= .str l)(ht:isString P t=true):
  Step P B ⟨dst,.call {callee:= .builtin .len,args:=#[x],argTypes:=#[t]},ty,pos,after,gd⟩ s (s.put dst (.int .i64 l.length)):=
 dV λG a w r=>by have hv:=r.au hx;have he:=pQ ht;exact⟨.int .i64 l.length,by simp[execOp,resolve,invoke,builtin,hv,Builtin.len_,gC he,goInt,size_mk],by simp[R]⟩
theorem RJ(t:TypeId)(x ix:Operand){l:List UInt8}{k:IntKind}{n:Int}{u:UInt8}(hx:s.ev x= .str l)(hi:s.ev ix= .int k n)(ht:isString P t=true)(h0:0<=n)(hu:l[n.toNat]? =some u):
  Step P B ⟨dst,.index t x ix,ty,pos,after,gd⟩ s (s.put dst (.int .u8 u.toNat)):=
 dV λG a w r=>by
  have hv:=r.au hx;have he:=pQ ht;have hlt:=(cH.1 hu).1;have hg:(⟨l.toArray⟩:ByteArray)[n.toNat]? =some u:=by rw[getElem?_pos (⟨l.toArray⟩:ByteArray) n.toNat (by simpa [size_mk]using hlt)];obtain⟨_,rfl⟩:=cH.1 hu;rfl
  exact⟨.int .u8 u.toNat,by simp[execOp,hv,r.JR hi,Instr.index,asIntOf,gC he,h0,hg],by simp[R]⟩
theorem YA(x:Operand)(ix:Nat){c:List AV}{y:AV}(hx:s.ev x= .gM c)(hy:c[ix]? =some y):Step P B ⟨dst,.extract x ix,ty,pos,after,gd⟩ s (s.put dst y):=
 dV λG a w r=>by have h:=r.ev x;rw[hx]at h;simp only[R]at h;obtain⟨cs,hv,hr⟩:=h;obtain⟨v,hv',hR⟩:=JJ hr hy;exact⟨v,by simp[execOp,hv,Instr.extract,hv'],hR⟩
theorem VK(f:FuncId)(cap:Array Operand):Step P B ⟨dst,.makeFunc (.func f) #[] cap,ty,pos,after,gd⟩ s (s.put dst (.fn f (s.args cap))):=
 dV λG a w r=>by refine⟨.func (.func f) #[] (cap.map a.eval),by simp[execOp,Instr.makeFunc],?_⟩;simp only[R];refine⟨trivial,cap.toList.map a.eval,?_,xP r cap.toList⟩;congr 1;apply Fi;simp
theorem aD9(t:TypeId)(x:Operand){b:Bool}(hx:s.ev x= .bool b):Step P B ⟨dst,.unOp .not t x,ty,pos,after,gd⟩ s (s.put dst (.bool !b)):=
 dV λG a w r=>⟨.bool !b,by simp[execOp,r.ak hx,Op.unary],by simp[R]⟩
theorem aEa(t:TypeId)(x:Operand){k:IntKind}{n:Int}(hx:s.ev x= .int k n):Step P B ⟨dst,.unOp .neg t x,ty,pos,after,gd⟩ s (s.put dst (.int k (k.wrap (0-n)))):=
 dV λG a w r=>⟨.int k (k.wrap (0-n)),by simp[execOp,r.JR hx,Op.unary,Op.intArith],by simp[R]⟩
theorem aBc(c x y:Operand){b:Bool}(hc:s.ev c= .bool b):Step P B ⟨dst,.pick c x y,ty,pos,after,gd⟩ s (s.put dst (if b then s.ev x else s.ev y)):=
 dV λG a w r=>⟨if b then a.eval x else a.eval y,by simp[execOp,r.ak hc,asBool],by cases b;exact r.ev y;exact r.ev x⟩
def RL(op:BinOp)(k:IntKind)(a b:Int):Int:=match op with
 | .and=>k.wrap ((BitVec.ofInt k.bits a&&& BitVec.ofInt k.bits b).toNat)
 | .or=>k.wrap ((BitVec.ofInt k.bits a |||BitVec.ofInt k.bits b).toNat)
 |_=>k.wrap ((BitVec.ofInt k.bits a ^^^ BitVec.ofInt k.bits b).toNat)
def aJ5(k:IntKind)(a b:Int):Int:=a.fdiv (2 ^ min b.toNat k.bits)
def RN(op:BinOp)(k:IntKind)(a b:Int):Option AV:=
 match op with
 | .add=>some (.int k (k.wrap (a+b)))
 | .sub=>some (.int k (k.wrap (a-b)))
 | .mul=>some (.int k (k.wrap (a*b)))
 | .quo=>if b=0 then none else some (.int k (k.wrap (a.tdiv b)))
 | .rem=>if b=0 then none else some (.int k (a.tmod b))
 | .eql=>some (.bool (a == b))
 | .neq=>some (.bool (a != b))
 | .lss=>some (.bool (decide (a<b)))
 | .leq=>some (.bool (decide (a<=b)))
 | .gtr=>some (.bool (decide (a > b)))
 | .geq=>some (.bool (decide (a>=b)))
 | .and=>some (.int k (RL .and k a b))
 | .or=>some (.int k (RL .or k a b))
 | .xor=>some (.int k (RL .xor k a b))
 | .shr=>if b<0 then none else some (.int k (aJ5 k a b))
 |_=>none
theorem aEb(t t2:TypeId)(x y:Operand){k k':IntKind}{m n:Int}(hx:s.ev x= .int k m)(hy:s.ev y= .int k' n)(hn:0<=n):
  Step P B ⟨dst,.binOp .shr t x y t2,ty,pos,after,gd⟩ s (s.put dst (.int k (aJ5 k m n))):=
 dV λG a w r=>by
  have hv:=r.JR hx;have hv2:=r.JR hy;have hn2:¬n<0:=by omega
  exact⟨.int k (aJ5 k m n),(by simp[execOp,hv,hv2,eqGuard_at_int,binOp,Op.shift,hn2,aJ5]),by simp[R]⟩
theorem aBe(op:BinOp)(t t2:TypeId)(x y:Operand){k:IntKind}{m n:Int}(hop:op= .and\/op= .or\/op= .xor)(hx:s.ev x= .int k m)(hy:s.ev y= .int k n):
  Step P B ⟨dst,.binOp op t x y t2,ty,pos,after,gd⟩ s (s.put dst (.int k (RL op k m n))):=
 dV λG a w r=>by have hv:=r.JR hx;have hv2:=r.JR hy;refine⟨.int k (RL op k m n),?_,by simp[R]⟩;rcases hop with rfl|rfl|rfl<;>simp[execOp,hv,hv2,eqGuard_at_int,binOp,Op.intBits,RL]
theorem aEc(op:BinOp)(t t2:TypeId)(x y:Operand){k k':IntKind}{m n:Int}{z:AV}(hx:s.ev x = .int k m)(hy':s.ev y = .int k' n)(hkk:k' = k \/ op = .shr)(hz:RN op k m n = some z):
    Step P B ⟨dst, .binOp op t x y t2, ty, pos, after, gd⟩ s (s.put dst z) := by
  by_cases hsh:op = .shr
  · subst hsh
    simp only[RN]at hz;split at hz
    · cases hz
    · obtain rfl := cQ hz
      exact aEb t t2 x y hx hy' (by omega)
  have hy := hy';rw[hkk.resolve_right hsh]at hy;by_cases hop:op = .and \/ op = .or \/ op = .xor
  · have e:z = .int k (RL op k m n) := by rcases hop with rfl | rfl | rfl <;> exact(cQ hz).symm
    subst e;exact aBe op t t2 x y hop hx hy
  · refine dV λG a w r => ?_
    have hv := r.JR hx;have hv2 := r.JR hy;cases op <;> simp only[RN]at hz <;> first | cases hz; done | exact(hsh rfl).elim | exact(hop (.inl rfl)).elim | exact(hop (.inr (.inl rfl))).elim | exact(hop (.inr (.inr rfl))).elim | skip
    all_goals first
      | (obtain rfl := cQ hz; exact⟨_, (by simp[execOp, hv, hv2, eqGuard_at_int, binOp, Op.intArith, Op.intCmp]; rfl), by simp[R]⟩)
      | (split at hz
         · cases hz
         · rename_i hb; obtain rfl := cQ hz; exact⟨_, (by simp[execOp, hv, hv2, eqGuard_at_int, binOp, Op.intDiv, hb]; rfl), by simp[R]⟩)
      | cases hz
def iT(P:Program)(e:TypeId)(n:Nat):Bool:=
 match (P.info? e).bind (·.zero)with
 |some z=>z.cells.size == n
 |none=>false
theorem Ai{P:Program}[aB P]{e:TypeId}{n:Nat}{inf:TypeInfo}(h:iT P e n=true)(hi:P.info? e=some inf):∃z,inf.zero=some z/\z.cells.size=n:=by
 unfold iT at h;cases hz:inf.zero with
 |none=>simp[hi,hz]at h
 |some z=>exact⟨z,rfl,by simpa [hi,hz]using h⟩
def AS.target(s:AS)(n:Nat):AV->Option (Nat×aN×AS)
 | .obj i v=>match AV.isObj s.o i v with
  |some ob=>if ob.box=false/\ob.n=n then some (i,ob,s)else none
  |none=>none
 | .sl .own _ []=>some (s.o.length,⟨true,false,n,0,[]⟩,⟨s.t,s.o++[⟨true,false,n,0,[]⟩]⟩)
 |_=>none
def AS.source(s:AS)(i n:Nat):AV->Option (List (List AV)×List aN)
 | .obj j v=>match AV.isObj s.o j v with
  |some ob=>if ob.box=false/\ob.n=n/\j≠i then some (ob.dO,s.o.set j ob.kill)else none
  |none=>none
 | .sl .own _ []=>some ([],s.o)
 | .sl .view m l=>if m=n then some (l,s.o)else none
 | .str l=>if n=1 then some (l.map λu=>[.int .u8 u.toNat],s.o)else none
 |_=>none
def AS.yF(s:AS)(o:List aN)(d:Option Tmp)(i:Nat)(ob:aN)(l2:List (List AV)):AS:=
 AS.put ⟨s.t,o.set i {ob with bU:=ob.bU+1,dO:=ob.dO++l2}⟩ d (.obj i (ob.bU+1))
def rT(P:Program)(t:TypeId):Bool:=match P.underlying t with|some (.slice _)=>true|some .string=>true|_=>false
theorem FJ{P:Program}[aB P]{t:TypeId}(h:rT P t=true):∃d,P.underlying t=some d/\∀k,d≠ .int k:=by
 unfold rT at h;split at h
 .exact ⟨_,‹_›,by simp⟩
 .exact ⟨_,‹_›,by simp⟩
 .cases h
theorem aEd(w:World)(E:Env):∀l:List UInt8,Rv w E (l.map λu=>[.int .u8 u.toNat]) (l.map λu=> .int .u8 u.toNat) 1 []
 |[]=>by simp[Rv]
 |u::t=>by simp only[mB,Rv];exact⟨[.int .u8 u.toNat],_,[],[],rfl,rfl,by simp[Value.oneCell'],by simp[Rc,R],aEd w E t,rfl⟩
theorem eB.target{G:List CO}{a:Act}{w:World}(r:eB B s G a w){x:Operand}{n i:Nat}{ob:aN}{s1:AS}(ht:s.target n (s.ev x)=some (i,ob,s1)):
  ∃G1 g,eB B s1 G1 a w/\Aw.look s1.o G1 i ob g/\ob.live=true/\ob.box=false/\ob.n=n/\a.eval x= .slice g.a ob.dO.length g.cap/\s1.t=s.t:=by
 cases hx:s.ev x with
 |obj j v=>
  rw[hx]at ht;simp only[AS.target]at ht;cases ho:AV.isObj s.o j v with
  |none=>simp[ho]at ht
  |some o=>
   simp only[ho]at ht;split at ht
   .rename_i hc;simp only[eE,oX]at ht;obtain⟨rfl,rfl,rfl⟩:=ht;obtain⟨g,hl,hlive,hv⟩:=r.xz hx ho;exact⟨G,g,r,hl,hlive,hc.1,hc.2,hv,rfl⟩
   .cases ht
 |sl g m l=>
  rw[hx]at ht;cases g with
  |own=>
   cases l with
   |nil=>
    simp only[AS.target,eE,oX]at ht;obtain⟨rfl,rfl,rfl⟩:=ht;obtain⟨ad,cap,hv,_,h⟩:=r.slv hx rfl;have hcap:cap=0:=by
     rcases h with h|⟨_,_,_,h,_⟩
     .exact h.2 rfl
     .exact absurd rfl h
    subst hcap;have hadd:=r.add [⟨true,false,n,0,[]⟩] [⟨ad,0,λ_=>False⟩] w rfl (eC _) (λ_ _=>rfl) (λj ob g b hl _ hF=>by
     cases j with
     |zero=>obtain⟨_,h2⟩:=hl;simp at h2;subst h2;exact hF.elim
     |succ j=>simp[Aw.look]at hl) (λi j _ _ gi _ b hi hj _ _ FH _=>by
     cases i with
     |zero=>obtain⟨_,h2⟩:=hi;simp at h2;subst h2;exact FH.elim
     |succ i=>simp[Aw.look]at hi) (λk j ob g hl _=>by
     cases j with
     |zero=>obtain⟨h1,h2⟩:=hl;simp at h1 h2;subst h1;subst h2;exact⟨[],⟨by simp,.inl ⟨rfl,rfl,rfl⟩⟩,by simp,by simp⟩
     |succ j=>simp[Aw.look]at hl)
    refine⟨_,⟨ad,0,λ_=>False⟩,hadd.1,⟨by simp,by rw[<-r.len];simp⟩,rfl,rfl,rfl,?_,rfl⟩;simpa using hv
   |cons _ _=>cases ht
  |view=>simp[AS.target]at ht
  |kH _=>simp[AS.target]at ht
 |int _ _=>rw[hx]at ht;simp[AS.target]at ht
 |bool _=>rw[hx]at ht;simp[AS.target]at ht
 |str _=>rw[hx]at ht;simp[AS.target]at ht
 |eU _ _ _=>rw[hx]at ht;simp[AS.target]at ht
 |ptr _ _ _ _=>rw[hx]at ht;simp[AS.target]at ht
 |agg _=>rw[hx]at ht;simp[AS.target]at ht
 |gM _=>rw[hx]at ht;simp[AS.target]at ht
 |fn _ _=>rw[hx]at ht;simp[AS.target]at ht
 |undef=>rw[hx]at ht;simp[AS.target]at ht
theorem ay{s s1:AS}(h:s1.t=s.t)(x:Operand):s1.ev x=s.ev x:=by cases x<;>simp[AS.ev,h]
theorem step_append(tS xT:TypeId)(x y:Operand){e:TypeId}{n by' i:Nat}{ob:aN}{s1:AS}{l2:List (List AV)}{o2:List aN}(he:nC P tS=some (e,n,by'))(hz:iT P e n=true)(hxt:rT P xT=true)
  (ht:s.target n (s.ev x)=some (i,ob,s1)) (hs:s1.source i n (s.ev y)=some (l2,o2))
  (hbytes:(ob.dO.length+l2.length)*by'<=140737488355328) (h63:ob.dO.length+l2.length<=9223372036854775807):
  Step P B ⟨dst,.call {callee:= .builtin .append,args:=#[x,y],argTypes:=#[tS,xT]},ty,pos,after,gd⟩ s (s.yF o2 dst i ob l2):=
 sO λG0 a w r0=>by
  obtain⟨hu,inf,hi,hsz,hby⟩:=rR he;obtain⟨z,V4,hz2⟩:=Ai hz hi;obtain⟨G,g,r,hl,hlive,wB,hn,hv,hst⟩:=r0.target ht;have hev:=ay hst y;rw[<-hev]at hs;have V5:∀{v w'},(Builtin.append_ #[tS,xT] ty #[.slice g.a ob.dO.length g.cap,a.eval y]).run P w= .ok v w'->(execOp a.eval ⟨dst,.call {callee:= .builtin .append,args:=#[x,y],argTypes:=#[tS,xT]},ty,pos,after,gd⟩).run P w= .ok (.value v) w':=by intro v w' h;simp[execOp,resolve,invoke,builtin,hv,h]
  obtain⟨fp,hown,hnd,hF⟩:=r.ok i ob g hl hlive;rw[wB]at hown;have fin:∀{s2:AS} {G2:List CO} {g2:CO} {news:List Value} {fp2:List Nat},eB B s2 G2 a w->Aw.look s2.o G2 i ob g2->g2.a=g.a->g2.cap=g.cap->s2.t=s1.t->s2.o=o2->
    (Builtin.lenOf (a.eval y)).run P w= .ok l2.length w->(∀w',w'.heap=w.heap->(Builtin.firstCells ob.n l2.length (a.eval y)).run P w'= .ok news.toArray w')->
    Rv w (env B s2.o G2 w).plain l2 news ob.n fp2->uU w (env B s2.o G2 w).plain ob.n ob.dO g2.a g2.cap fp->(fp++fp2).Nodup->(∀b∈fp++fp2,g2.F b)->
    ∃v w',(execOp a.eval ⟨dst,.call {callee:= .builtin .append,args:=#[x,y],argTypes:=#[tS,xT]},ty,pos,after,gd⟩).run P w= .ok (.value v) w'/\Rel B (s.yF o2 dst i ob l2) (a.put dst v) w':=by
   intro s2 G2 g2 news fp2 r2 hl2 ha hc aU8 ho2 hlen Gi OX az YB hF2;obtain⟨v,w',G',hrun,hr',hR⟩:=r2.append (P:=P) (ty:=ty) hl2 hlive wB hu (FJ hxt) hi V4 (by rw[hsz,hn]) (by rw[hz2,hn]) hlen Gi OX az YB hF2 (by rw[hby];exact hbytes) h63;rw[ha,hc]at hrun;refine⟨v,w',V5 hrun,G',?_⟩;have:=hr'.put dst hR;rw[ho2,aU8,hst]at this;exact this
  cases hy:s1.ev y with
  |obj j bU=>
   rw[hy]at hs;simp only[AS.source]at hs;cases ho:AV.isObj s1.o j bU with
   |none=>simp[ho]at hs
   |some oj=>
    simp only[ho]at hs;split at hs
    .rename_i hc;simp only[eE,oX]at hs;obtain⟨rfl,rfl⟩:=hs;obtain⟨gj,hlj,aEe,hvj⟩:=r.xz hy ho;have htr:=r.RD (i:=i) (j:=j) (wA hc.2.2) hl hlj hlive aEe;obtain⟨fj,Pb,aJ8,VC⟩:=r.ok j oj gj hlj aEe;rw[hc.1]at Pb;obtain⟨fp2,aMr,aRw,news,OX,Gi⟩:∃fp2:List Nat,(∀b∈fp2,b∈fj)/\fp2.Nodup/\∃news,Rv w (env B s1.o G w).plain oj.dO news ob.n fp2/\∀w',w'.heap=w.heap->(Builtin.firstCells ob.n oj.dO.length (.slice gj.a oj.dO.length gj.cap)).run P w'= .ok news.toArray w':=by
      have RO:oj.n=ob.n:=by rw[hc.2.1,hn]
      rcases Pb.2 with⟨h1,h2,h3⟩|⟨b,off,C,ety,fz,qN,ha,hb,hz',k1,k2,k3,rfl,hr⟩
      .refine ⟨[],by simp,by simp,[],by rw[h1];simp[Rv],λw' _=> ?_⟩
       rw[h1];cases hga:gj.a with
       |none=>simp[Builtin.firstCells]
       |some a'=>simp[Builtin.firstCells,loadCells,loadCellsFrom]
      .obtain ⟨vs,hv',hc'⟩:=qD.1 hr;refine⟨qN,λb hb=>AK _ hb,(lR.1 aJ8).2,vs,by rw[<-RO];exact hv',λw' hw'=> ?_⟩;rw[ha,<-RO];exact kR (jX hv') (hc'.heap hw')
     have aN2:Aw.look (s1.o.set j oj.kill) (G.set i {g with F:=λb=>g.F b\/gj.F b}) i ob {g with F:=λb=>g.F b\/gj.F b}:=by refine⟨by rw[lO hc.2.2];exact hl.1,?_⟩;have:=(cH.1 hl.2).1;simp[this]
     refine fin htr.1 aN2 rfl rfl rfl rfl (by rw[hvj];simp[Builtin.lenOf]) (by rw[hvj];exact Gi) (wQ htr.2.plain (λ_ _=>rfl) OX) (hown.keeps htr.2.plain (λ_ _=>rfl)) ?_ ?_
     .refine gO.2 ⟨hnd,aRw,λb hb b' hb' e=> ?_⟩
      subst e;exact hc.2.2 (r.apart j i _ _ _ _ b hlj hl aEe hlive (VC b (aMr b hb')) (hF b hb))
     .intro b hb;rcases eW.1 hb with hb|hb
      .exact .inl (hF b hb)
      .exact .inr (VC b (aMr b hb))
    .cases hs
  |sl tg m l=>
   rw[hy]at hs;have rF:∀{news:List Value},s1.o=o2->(Builtin.lenOf (a.eval y)).run P w= .ok l2.length w->(∀w',w'.heap=w.heap->(Builtin.firstCells ob.n l2.length (a.eval y)).run P w'= .ok news.toArray w')->
     Rv w (env B s1.o G w).plain l2 news ob.n []->_:=fun {news} h1 h2 h3 h4=>fin (news:=news) (fp2:=[]) r hl rfl rfl rfl h1 h2 h3 h4 hown (by simpa using hnd) (by simpa using hF)
   cases tg with
   |own=>
    cases l with
    |nil=>
     simp only[AS.source,eE,oX]at hs;obtain⟨rfl,rfl⟩:=hs;obtain⟨ad,cap,hvy,_,_⟩:=r.slv hy rfl;refine rF (news:=[]) rfl (by rw[hvy];simp[Builtin.lenOf]) (λw' _=> ?_) (by simp[Rv]);rw[hvy];cases ad with
     |none=>simp[Builtin.firstCells]
     |some a'=>simp[Builtin.firstCells,loadCells,loadCellsFrom]
    |cons _ _=>cases hs
   |view=>
    simp only[AS.source]at hs;split at hs
    .rename_i hm;subst hm;simp only[eE,oX]at hs;obtain⟨rfl,rfl⟩:=hs;obtain⟨ad,cap,hvy,_,h⟩:=r.slv hy rfl;rcases h with⟨rfl,_⟩|⟨b,f,rfl,_,_,hr⟩
     .refine rF (news:=[]) rfl (by rw[hvy];simp[Builtin.lenOf]) (λw' _=> ?_) (by simp[Rv])
      rw[hvy];cases ad with
      |none=>simp[Builtin.firstCells]
      |some a'=>simp[Builtin.firstCells,loadCells,loadCellsFrom]
     .obtain ⟨vs,hv',hc'⟩:=qD.1 hr;refine rF (news:=vs) rfl (by rw[hvy];simp[Builtin.lenOf]) (λw' hw'=> ?_) (by rw[hn];exact hv');rw[hvy,hn];exact kR (jX hv') (hc'.heap hw')
    .cases hs
   |kH _=>cases hs
  |str l=>
   rw[hy]at hs;simp only[AS.source]at hs;split at hs
   .rename_i h1;simp only[eE,oX]at hs;obtain⟨rfl,rfl⟩:=hs;have hvy:=r.au hy;refine fin (news:=l.map λu=> .int .u8 u.toNat) (fp2:=[]) r hl rfl rfl rfl rfl (by rw[hvy];simp[Builtin.lenOf,size_mk]) (λw' _=> ?_) ?_ hown (by simpa using hnd) (by simpa using hF)
    .rw [hvy];have:(⟨l.toArray⟩:ByteArray).extract 0 (l.map λu=>[AV.int .u8 u.toNat]).length=⟨l.toArray⟩:=by
      have e:(l.map λu=>[AV.int .u8 u.toNat]).length=(⟨l.toArray⟩:ByteArray).size:=by simp[size_mk]
      rw[e,ByteArray.extract_zero_size]
     simp only[Builtin.firstCells,this];simp
    .rw [hn,h1];exact aEd _ _ l
   .cases hs
  |int _ _=>rw[hy]at hs;cases hs
  |bool _=>rw[hy]at hs;cases hs
  |eU _ _ _=>rw[hy]at hs;cases hs
  |ptr _ _ _ _=>rw[hy]at hs;cases hs
  |agg _=>rw[hy]at hs;cases hs
  |gM _=>rw[hy]at hs;cases hs
  |fn _ _=>rw[hy]at hs;cases hs
  |undef=>rw[hy]at hs;cases hs
def AS.bound(s:AS)(d:Nat):Option Operand->Option Nat
 |none=>some d
 |some x=>match s.ev x with
  | .int _ n=>if 0<=n then some n.toNat else none
  |_=>none
theorem JS{G:List CO}{a:Act}{w:World}(r:eB B s G a w){isS:Bool}{len cap lo hi:Nat}{lx hx:Option Operand}(hl:s.bound 0 lx=some lo)(hh:s.bound len hx=some hi)(h1:lo<=hi)(h2:hi<=len)(h3:len<=cap):
  (Instr.sliceBounds isS len cap (lx.map a.eval) (hx.map a.eval) none).run P w= .ok (lo,hi,cap) w:=by
 have bnd:∀{x:Operand} {d n:Nat} {y:Nat} {code:BoundsCode},s.bound d (some x)=some n->n<=y->(Instr.sliceBound (a.eval x) y code).run P w= .ok n w:=by
  intro x d n y code h hy;simp only[AS.bound]at h;cases hx:s.ev x with
  |int k m=>
   simp only[hx]at h;split at h
   .rename_i h0;obtain rfl:=cQ h;rw[r.JR hx];simp[Instr.sliceBound,asIntOf,h0];omega
   .cases h
  |_=>simp[hx]at h
 cases lx with
 |none=>
  simp only[AS.bound,eE]at hl;subst hl;cases hx with
  |none=>simp only[AS.bound,eE]at hh;subst hh;simp[Instr.sliceBounds]
  |some y=>have:=bnd (code:=if isS then .sliceAcap else .sliceAlen) hh (lB h2 h3);simp[Instr.sliceBounds,this]
 |some x=>
  have hb:=λ(c:BoundsCode)=>bnd (code:=c) hl h1
  cases hx with
  |none=>simp only[AS.bound,eE]at hh;subst hh;simp[Instr.sliceBounds,hb]
  |some y=>have:=bnd (code:=if isS then .sliceAcap else .sliceAlen) hh (lB h2 h3);simp[Instr.sliceBounds,this,hb]
theorem extract_mk(l:List UInt8)(a b:Nat)(h:b<=l.length):(⟨l.toArray⟩:ByteArray).extract a b=⟨((l.take b).drop a).toArray⟩:=by apply ByteArray.ext;simp[ByteArray.data_extract,drop_take]
theorem RQ(t:TypeId)(x:Operand)(lx hx:Option Operand){l:List UInt8}{lo hi:Nat}(hs:s.ev x= .str l)(ht:isString P t=true)(hl:s.bound 0 lx=some lo)(hh:s.bound l.length hx=some hi)(h1:lo<=hi)(h2:hi<=l.length):
  Step P B ⟨dst,.slice t x lx hx none,ty,pos,after,gd⟩ s (s.put dst (.str ((l.take hi).drop lo))):=
 dV λG a w r=>by have hv:=r.au hs;have he:=pQ ht;have hb:=JS (P:=P) r (isS:=false) hl (by rw[<-size_mk l]at hh;exact hh) h1 (by rw[size_mk];exact h2) (eC (⟨l.toArray⟩:ByteArray).size);refine⟨.string ⟨((l.take hi).drop lo).toArray⟩,?_,by simp[R]⟩;rw[<-extract_mk l lo hi h2];simp[execOp,hv,Instr.sliceAt,Instr.slice,gC he,hb]
theorem aEf{w:World}{E:Env}{l:List (List AV)}{b f n lo hi:Nat}(h1:lo<=hi)(h2:hi<=l.length){fp:List Nat}(h:Rr w E l b f n fp):
  ∃f1 f2 f3,fp=f1++f2++f3/\Rr w E ((l.take hi).drop lo) b (f+lo*n) n f2:=by
 have e:l=(l.take hi).take lo++((l.take hi).drop lo++l.drop hi):=by rw[<-sB,oA,oA]
 rw[e]at h;obtain⟨f1,g,rfl,_,h3⟩:=DV.1 h;obtain⟨f2,f3,rfl,h4,_⟩:=DV.1 h3;have:((l.take hi).take lo).length=lo:=by simp;omega
 rw[this]at h4;exact⟨f1,f2,f3,by simp,h4⟩
theorem RS{α:Type}(l:List α){lo hi:Nat}(h1:lo<=hi)(h2:hi<=l.length):((l.take hi).drop lo).length=hi-lo:=by simp;omega
theorem VL(t:TypeId)(x:Operand)(lx hx:Option Operand){g:Tg}{n:Nat}{l:List (List AV)}{e by' lo hi:Nat}(hs:s.ev x= .sl g n l)(hf:(AV.sl g n l).fit s.o=true)(ht:nC P t=some (e,n,by'))
  (hl:s.bound 0 lx=some lo) (hh:s.bound l.length hx=some hi) (h1:lo<=hi) (h2:hi<=l.length):
  Step P B ⟨dst,.slice t x lx hx none,ty,pos,after,gd⟩ s (s.put dst (.sl g n ((l.take hi).drop lo))):=
 dV λG a w r=>by
  obtain⟨hu,inf,hi',hsz,_⟩:=rR ht;obtain⟨ad,cap,hv,hlen,h⟩:=r.slv hs hf;have hb:=JS (P:=P) r (isS:=true) hl hh h1 h2 hlen.2;have hsl:=RS l h1 h2;refine⟨.slice (if cap=lo then ad else ad.map (·.add (lo*n))) (hi-lo) (cap-lo),?_,?_⟩
  .simp [execOp,hv,Instr.sliceAt,Instr.slice,gC hu,hb,sizeOf,typeInfo,hi',hsz]
  .simp only[R];refine .inr ⟨_,_,by rw[hsl],⟨by rw[hsl];omega,by rw[hsl];omega⟩,?_⟩;rcases h with⟨rfl,hcap⟩|⟨b,f,rfl,hg,htg,hr⟩
   .by_cases hg:g= .own
    .exact .inl ⟨hg,by simp,by rw[hcap hg];simp,trivial⟩
    .exact .inr (.inr ⟨hg,trivial,.inl (by simp)⟩)
   .refine .inr (.inr ⟨hg,trivial,?_⟩);by_cases hc:cap=lo
    .left;exact hS (by rw[hsl];omega)
    .right;obtain⟨f1,f2,f3,hfe,hr'⟩:=aEf h1 h2 hr;have:f2=[]:=by have:=zE length hfe;simp at this;exact hS (by omega)
     subst this;exact⟨b,f+lo*n,by simp[hc,addr_add],htg,hr'⟩
def AS.RU(s:AS)(d:Option Tmp)(i:Nat)(ob:aN)(l:List (List AV)):AS:=
 AS.put ⟨s.t,s.o.set i {ob with bU:=ob.bU+1,dO:=l}⟩ d (.obj i (ob.bU+1))
theorem RV(t:TypeId)(x:Operand)(lx hx:Option Operand){i bU:Nat}{ob:aN}{e by' lo hi:Nat}(hs:s.ev x= .obj i bU)(ho:AV.isObj s.o i bU=some ob)(wB:ob.box=false)(ht:nC P t=some (e,ob.n,by'))
  (hl:s.bound 0 lx=some lo) (hh:s.bound ob.dO.length hx=some hi) (h1:lo<=hi) (h2:hi<=ob.dO.length):
  Step P B ⟨dst,.slice t x lx hx none,ty,pos,after,gd⟩ s (s.RU dst i ob ((ob.dO.take hi).drop lo)):=
 sO λG a w r=>by
  obtain⟨hu,inf,hi',hsz,_⟩:=rR ht;obtain⟨g,hlk,hlive,hv⟩:=r.xz hs ho;obtain⟨fp,⟨hlen,hown⟩,hnd,hF⟩:=r.ok i ob g hlk hlive;have hcap:ob.dO.length<=g.cap:=by
   rcases hown with h|⟨_,_,_,_,_,_,_,_,_,_,h,_⟩
   .simp [h.1]
   .exact h
  have hb:=JS (P:=P) r (isS:=true) hl hh h1 h2 hcap;have hsl:=RS ob.dO h1 h2;have hrun:(execOp a.eval ⟨dst,.slice t x lx hx none,ty,pos,after,gd⟩).run P w= .ok (.value (.slice (if g.cap=lo then g.a else g.a.map (·.add (lo*ob.n))) (hi-lo) (g.cap-lo))) w:=by simp[execOp,hv,Instr.sliceAt,Instr.slice,gC hu,hb,sizeOf,typeInfo,hi',hsz]
  have aJ9:∀a',(if g.cap=lo then g.a else g.a.map (·.add (lo*ob.n)))=some a'->∃a0,g.a=some a0/\a'.block=a0.block:=by
   intro a' h;split at h
   .exact ⟨a',h,rfl⟩
   .cases hga:g.a with
    |none=>simp[hga]at h
    |some a0=>simp only[hga,mT,eE]at h;refine⟨a0,rfl,?_⟩;rw[<-h];unfold Addr.add;split<;>rfl
  have hm:=r.modify hlk hlive {ob with bU:=ob.bU+1,dO:=(ob.dO.take hi).drop lo} ⟨(if g.cap=lo then g.a else g.a.map (·.add (lo*ob.n))),g.cap-lo,g.F⟩ w (by simp) rfl (by simp) (λb hb=> .inl hb) (λb hb hne=>⟨hb,λa' wW=>by
    obtain⟨a0,h0,hbe⟩:=aJ9 a' wW;rw[hbe];exact hne a0 h0⟩) (λ_ _ _=>rfl) (eC _) (λk _=>by
   generalize env B (s.o.set i {ob with bU:=ob.bU+1,dO:=(ob.dO.take hi).drop lo}) (G.set i ⟨(if g.cap=lo then g.a else g.a.map (·.add (lo*ob.n))),g.cap-lo,g.F⟩) w=E' at k⊢;simp only[KX,wB,Env.of,eS,hM];rw[wB]at hown;simp only[Env.of,eS,hM]at hown;rcases hown with⟨h,hc0,_⟩|⟨b,f,C,ety,fz,qN,ha,hbk,hz,k1,k2,k3,rfl,hr⟩
   .exact ⟨[],⟨by rw[hsl];omega,.inl ⟨by rw[h];simp,by rw[hc0];simp,rfl⟩⟩,by simp,by simp⟩
   .obtain ⟨f1,f2,f3,rfl,hr'⟩:=aEf h1 h2 hr;by_cases hc:g.cap=lo
    .exact ⟨[],⟨by rw[hsl];omega,.inl ⟨hS (by rw[hsl];omega),by omega,rfl⟩⟩,by simp,by simp⟩
    .have hsub:f2.Sublist (f1++f2++f3):=(sublist_append_right f1 f2).trans (sublist_append_left _ _);have hmul:(g.cap-lo)*ob.n+lo*ob.n=g.cap*ob.n:=by rw[<-rB];congr 1;omega
     refine⟨b::f2,⟨by rw[hsl];omega,.inr ⟨b,f+lo*ob.n,C,ety,fz,f2,by simp[hc,ha,addr_add],hbk,hz,by omega,by rw[hsl];omega,by omega,rfl,mG k.plain _ _ _ _ _ rfl (λ_ _=>rfl) hr'⟩⟩,?_,?_⟩
     .exact lR.2 ⟨λh=>(lR.1 hnd).1 (hsub.subset h),hsub.nodup (lR.1 hnd).2⟩
     .intro x hx;rcases gS.1 hx with rfl|hx
      .exact hF x (by simp)
      .exact hF x (AK _ (hsub.subset hx)))
  refine⟨_,w,hrun,_,hm.1.put dst ?_⟩;simp only[R];have hiG:i<G.length:=(cH.1 hlk.2).1;have Gd:i<s.o.length:=(cH.1 hlk.1).1;exact⟨trivial,_,_,⟨by simp[Gd];rfl,by simp[hiG];rfl⟩,eC _,λ_ _=>by simp[hsl],λh=>by omega⟩
def toV:AV->Value
 | .int k n=> .int k n
 | .bool b=> .bool b
 | .str s=> .string ⟨s.toArray⟩
 |_=> .tuple #[]
def AV.scalar:AV->Bool
 | .int _ _=>true
 | .bool _=>true
 | .str _=>true
 |_=>false
theorem aEg{w:World}{E:Env}{x:AV}{v:Value}{fp:List Nat}(hs:x.scalar=true)(h:R w E x v fp):v=toV x:=by
 cases x<;>simp only[AV.scalar]at hs<;>first|cases hs;done|skip
 all_goals first|(simp only[R]at h;exact h.1)|cases hs
theorem Nt{w:World}{E:Env}:∀{c:List AV} {cs:List Value} {fp:List Nat},c.all AV.scalar=true->Rc w E c cs fp->cs=c.map toV
 |[],[],_,_,_=>rfl
 |[],_::_,_,_,h=>by simp[Rc]at h
 |_::_,[],_,_,h=>by simp[Rc]at h
 |x::xs,c::cs,fp,hs,h=>by simp only[Rc]at h;simp only[CC,eI]at hs;obtain⟨f1,f2,h1,h2,_⟩:=h;simp[aEg hs.1 h1,Nt hs.2 h2]
def EqA(P:Program)(t:TypeId)(c1 c2:List AV)(b:Bool):Prop:=
 ∀(op:BinOp) (x y:Operand) (w:World),(op= .eql\/op= .neq)->
  (do eqGuard op t x y (.agg (c1.map toV).toArray) (.agg (c2.map toV).toArray);binOp op t (.agg (c1.map toV).toArray) (.agg (c2.map toV).toArray):Sem Value).run P w=
   .ok (.bool (if op= .eql then b else !b)) w
def Ld(P:Program)(t:TypeId):Bool:=match P.underlying t with|some .bool=>true|_=>false
def intType(P:Program)(t:TypeId):Option IntKind:=match P.underlying t with|some (.int k)=>some k|_=>none
theorem eB.aRy{G:List CO}{a:Act}{w:World}(r:eB B s G a w){x:Operand}{c:List AV}(hx:s.ev x= .agg c)(hs:c.all AV.scalar=true):a.eval x= .agg (c.map toV).toArray:=by have h:=r.ev x;rw[hx]at h;simp only[R]at h;obtain⟨cs,hv,_,hr⟩:=h;rw[hv,Nt hs hr]
theorem bf(op:BinOp)(t t2:TypeId)(x y:Operand){c1 c2:List AV}{b:Bool}(hop:op= .eql\/op= .neq)(hx:s.ev x= .agg c1)(hy:s.ev y= .agg c2)(h1:c1.all AV.scalar=true)(h2:c2.all AV.scalar=true)(he:EqA P t c1 c2 b):
  Step P B ⟨dst,.binOp op t x y t2,ty,pos,after,gd⟩ s (s.put dst (.bool (if op= .eql then b else !b))):=
 dV λG a w r=>by
  have e:=he op x y w hop;refine⟨.bool (if op= .eql then b else !b),?_,by simp[R]⟩;simp only[execOp,r.aRy hx h1,r.aRy hy h2];rw[show(do let v<-(do eqGuard op t x y (.agg (c1.map toV).toArray) (.agg (c2.map toV).toArray);binOp op t (.agg (c1.map toV).toArray) (.agg (c2.map toV).toArray));pure (Next.value v):Sem Next).run P w=
   ((do eqGuard op t x y (.agg (c1.map toV).toArray) (.agg (c2.map toV).toArray);binOp op t (.agg (c1.map toV).toArray) (.agg (c2.map toV).toArray):Sem Value).run P w).andThen λv w'=> .ok (Next.value v) w' from by simp only[oS,tB]]
  rw[e];rfl
theorem run_equalIn_bool(w:World)(d:Nat){t:TypeId}(hu:P.underlying t=some .bool)(b1 b2:Bool):(Op.equalIn (d+1) t (.bool b1) (.bool b2)).run P w= .ok (b1 == b2) w:=by simp only[Op.equalIn,oS,gC hu,lP,tB]
theorem YC(op:BinOp)(t t2:TypeId)(x y:Operand){b1 b2:Bool}(hop:op= .eql\/op= .neq)(hx:s.ev x= .bool b1)(hy:s.ev y= .bool b2)(ht:Ld P t=true):
  Step P B ⟨dst,.binOp op t x y t2,ty,pos,after,gd⟩ s (s.put dst (.bool (if op= .eql then b1 == b2 else b1 != b2))):=
 dV λG a w r=>by
  have hu:P.underlying t=some .bool:=by unfold Ld at ht;split at ht;assumption;cases ht
  have hE:(Op.equal t (.bool b1) (.bool b2)).run P w= .ok (b1 == b2) w:=by exact run_equalIn_bool w 9999 hu b1 b2
  refine⟨.bool (if op= .eql then b1 == b2 else b1 != b2),?_,by simp[R]⟩;simp only[execOp,r.ak hx,r.ak hy,eqGuard_at_bool,pure_bind];rcases hop with rfl|rfl
  .simp only[binOp,oS,hE,lP,tB,gE]
  .simp only[binOp,oS,hE,lP,tB];rfl
theorem toList_mk(l:List UInt8):(⟨l.toArray⟩:ByteArray).toList=l:=by rw[ByteArray.toList_eq]
theorem aBg(l m:List UInt8):(⟨l.toArray⟩:ByteArray)++⟨m.toArray⟩=⟨(l++m).toArray⟩:=by apply ByteArray.ext;simp[ByteArray.data_append]
def YD(op:BinOp)(a b:List UInt8):Option AV:=
 match op with
 | .add=>some (.str (a++b))
 | .eql=>some (.bool (a == b))
 | .neq=>some (.bool (!(a == b)))
 | .lss=>some (.bool (Op.bytesLess a b))
 | .leq=>some (.bool (Op.bytesLess a b || a == b))
 | .gtr=>some (.bool (!(Op.bytesLess a b || a == b)))
 | .geq=>some (.bool (!Op.bytesLess a b))
 |_=>none
theorem aEh(op:BinOp)(t t2:TypeId)(x y:Operand){l m:List UInt8}{z:AV}(hx:s.ev x= .str l)(hy:s.ev y= .str m)(hz:YD op l m=some z)(hle:op= .add->l.length+m.length<=9223372036854775807):
  Step P B ⟨dst,.binOp op t x y t2,ty,pos,after,gd⟩ s (s.put dst z):=
 dV λG a w r=>by
  have hv:=r.au hx;have hv2:=r.au hy;have V5:∀{v:Value},(Op.stringOp op ⟨l.toArray⟩ ⟨m.toArray⟩).run P w= .ok v w->(execOp a.eval ⟨dst,.binOp op t x y t2,ty,pos,after,gd⟩).run P w= .ok (.value v) w:=by
   intro v h;have hb:binOp op t (.string ⟨l.toArray⟩) (.string ⟨m.toArray⟩)=Op.stringOp op ⟨l.toArray⟩ ⟨m.toArray⟩:=by cases op<;>rfl
   simp[execOp,hv,hv2,eqGuard_at_string,hb,h]
  cases op<;>simp only[YD]at hz<;>first|cases hz;done|skip
  case add=>
   have hle:=hle rfl;obtain rfl:=cQ hz;refine⟨.string ⟨(l++m).toArray⟩,V5 ?_,by simp[R]⟩;have h0:¬(9223372036854775807<((l.length:Int)+(m.length:Int))):=by omega
   simp only[Op.stringOp,size_mk,aBg];simp[h0]
  all_goals first
   |(obtain rfl:=cQ hz;exact⟨_,V5 (by simp only[Op.stringOp,toList_mk,tB];rfl),by simp[R]⟩)
   |cases hz
theorem VM(src d:TypeId)(x:Operand){k k':IntKind}{n:Int}(hx:s.ev x= .int k n)(hd:intType P d=some k')(hs:(P.underlying src).isSome=true):
  Step P B ⟨dst,.convert src d x,ty,pos,after,gd⟩ s (s.put dst (.int k' (k'.wrap n))):=
 dV λG a w r=>by
  obtain⟨ds,hds⟩:=BE.1 hs;have hu:P.underlying d=some (.int k'):=by
   unfold intType at hd;split at hd
   .obtain rfl:=cQ hd;assumption
   .cases hd
  exact⟨.int k' (k'.wrap n),by simp[execOp,r.JR hx,convert,gC hds,gC hu,Conv.intToInt],by simp[R]⟩
theorem VN(src d:TypeId)(x:Operand){l:List UInt8}(hx:s.ev x= .str l)(hd:isString P d=true)(hs:isString P src=true):
  Step P B ⟨dst,.convert src d x,ty,pos,after,gd⟩ s (s.put dst (.str l)):=
 dV λG a w r=>by exact⟨.string ⟨l.toArray⟩,by simp[execOp,r.au hx,convert,gC (pQ hs),gC (pQ hd)],by simp[R]⟩
def bytesOf:List (List AV)->Option (List UInt8)
 |[]=>some []
 |[.int .u8 n]::r=>(bytesOf r).map (UInt8.ofNat n.toNat:: ·)
 |_=>none
theorem bg{w:World}{E:Env}:∀{l:List (List AV)} {vs:List Value} {fp:List Nat} {bs:List UInt8},bytesOf l=some bs->Rv w E l vs 1 fp->∃ns:List Int,vs=ns.map (.int .u8)/\bs=ns.map λn=>UInt8.ofNat n.toNat
 |[],vs,_,bs,hb,h=>by simp only[bytesOf,eE]at hb;simp only[Rv]at h;exact⟨[],by simp[h.1],by simp[<-hb]⟩
 |e::es,vs,fp,bs,hb,h=>by
  match e,hb with
  |[.int .u8 n],hb=>
   simp only[bytesOf]at hb;cases hr:bytesOf es with
   |none=>simp[hr]at hb
   |some b2=>simp only[hr,mT,eE]at hb;simp only[Rv]at h;obtain⟨cs,rest,f1,f2,rfl,hn,_,wL,hrest,_⟩:=h;obtain⟨ns,rfl,rfl⟩:=bg hr hrest;have:=Nt (c:=[.int .u8 n]) (by simp[AV.scalar]) wL;exact⟨n::ns,by simp[this,toV],by simp[<-hb]⟩
theorem Pd(P:Program)(w:World){body:Value->ByteArray->Sem (ForInStep ByteArray)}(hb:∀n r,body (.int .u8 n) r=pure (ForInStep.yield (r.push (UInt8.ofNat n.toNat)))):∀(ns:List Int) (s0:ByteArray),
  (forIn (m:=Sem) (ns.map (Value.int .u8)) s0 body).run P w= .ok ⟨s0.data++(ns.map λn=>UInt8.ofNat n.toNat).toArray⟩ w
 |[],s0=>by simp
 |n::ns,s0=>by simp only[mB,forIn_cons,hb,pure_bind];rw[Pd P w hb ns];congr 2;apply Fi;simp[ByteArray.push]
theorem Ij{G:List CO}{a:Act}{w:World}(r:eB B s G a w){x:Operand}{ad:Option Addr}{b f cap:Nat}{l:List (List AV)}{E:Env}{bs:List UInt8}{fp:List Nat}(hv:a.eval x= .slice ad l.length cap)
  (hb:bytesOf l=some bs) (h:l=[]\/(ad=some ⟨b,f,none⟩/\Rr w E l b f 1 fp)):(Conv.bytesToString (a.eval x)).run P w= .ok (.string ⟨bs.toArray⟩) w:=by
 rw[hv];obtain⟨vs,hvs,ns,hns,hbs,hlen⟩:∃vs:List Value,(∀a',ad=some a'->(loadCells a' l.length).run P w= .ok vs.toArray w)/\∃ns:List Int,vs=ns.map (.int .u8)/\bs=(ns.map λn=>UInt8.ofNat n.toNat)/\vs.length=l.length:=by
  rcases h with rfl|⟨rfl,hr⟩
  .simp only[bytesOf,eE]at hb;refine⟨[],λa' _=>by simp[loadCells,loadCellsFrom],[],rfl,by simp[<-hb],rfl⟩
  .obtain ⟨vs,hv',hc'⟩:=qD.1 hr;have hl:=jX hv';obtain⟨ns,h1,h2⟩:=bg hb hv';refine⟨vs,λa' wW=> ?_,ns,h1,h2,by simpa using hl⟩;obtain rfl:=cQ wW;have:=hc'.run (P:=P)
   rwa[hl,Nat.mul_one]at this
 cases ad with
 |none=>
  have hl0:l=[]:=by
   rcases h with h|h
   .exact h
   .cases h.1
  subst hl0;have:vs=[]:=hS (by simpa using hlen);subst this;have:ns=[]:=by simpa using hns.symm
  subst this;subst hbs;simp[Conv.bytesToString];rfl
 |some a'=>subst hns;subst hbs;simp only[Conv.bytesToString,oS,hvs a' rfl,lP];simp only[forIn_toArray];rw[Pd P w (λ_ _=>rfl) ns ByteArray.empty];simp
theorem Gl(src d:TypeId)(x:Operand){g:Tg}{l:List (List AV)}{e:TypeId}{by':Nat}{bs:List UInt8}(hx:s.ev x= .sl g 1 l)(hf:(AV.sl g 1 l).fit s.o=true)(hd:isString P d=true)(hs:nC P src=some (e,1,by'))(he:intType P e=some .u8)
  (hb:bytesOf l=some bs):Step P B ⟨dst,.convert src d x,ty,pos,after,gd⟩ s (s.put dst (.str bs)):=
 dV λG a w r=>by
  obtain⟨hu,_⟩:=rR hs;have hue:P.underlying e=some (.int .u8):=by
   unfold intType at he;split at he
   .obtain rfl:=cQ he;assumption
   .cases he
  obtain⟨ad,cap,hv,_,h⟩:=r.slv hx hf;have hrun:(Conv.bytesToString (a.eval x)).run P w= .ok (.string ⟨bs.toArray⟩) w:=by
   rcases h with⟨rfl,_⟩|⟨b,f,rfl,_,_,hr⟩
   .exact Ij (b:=0) (f:=0) (E:=mJ) (fp:=[]) r hv hb (.inl rfl)
   .exact Ij r hv hb (.inr ⟨rfl,hr⟩)
  refine⟨.string ⟨bs.toArray⟩,?_,by simp[R]⟩;rw[hv]at hrun;simp[execOp,hv,convert,gC hu,gC (pQ hd),gC hue,hrun]
theorem IM(src d:TypeId)(x:Operand){i bU:Nat}{ob:aN}{e:TypeId}{by':Nat}{bs:List UInt8}(hx:s.ev x= .obj i bU)(ho:AV.isObj s.o i bU=some ob)(hd:isString P d=true)(hs:nC P src=some (e,1,by'))(hn:ob.n=1)(he:intType P e=some .u8)
  (hb:bytesOf ob.dO=some bs):Step P B ⟨dst,.convert src d x,ty,pos,after,gd⟩ s (s.put dst (.str bs)):=
 dV λG a w r=>by
  obtain⟨hu,_⟩:=rR hs;have hue:P.underlying e=some (.int .u8):=by
   unfold intType at he;split at he
   .obtain rfl:=cQ he;assumption
   .cases he
  obtain⟨g,hl,hlive,hv⟩:=r.xz hx ho;obtain⟨fp,⟨_,hown⟩,_,_⟩:=r.ok i ob g hl hlive;have hrun:(Conv.bytesToString (a.eval x)).run P w= .ok (.string ⟨bs.toArray⟩) w:=by
   rcases hown with⟨h,_⟩|⟨b,f,C,ety,fz,qN,ha,_,_,_,_,_,_,hr⟩
   .exact Ij (b:=0) (f:=0) (E:=mJ) (fp:=[]) r hv hb (.inl h)
   .rw [hn]at hr;exact Ij r hv hb (.inr ⟨ha,hr⟩)
  refine⟨.string ⟨bs.toArray⟩,?_,by simp[R]⟩;rw[hv]at hrun;simp[execOp,hv,convert,gC hu,gC (pQ hd),gC hue,hrun]
def V6(j:Nat)(o:List aN):List aN:=match o[j]? with
 |some ob=>o.set j ob.kill
 |none=>o
def Gm:List Nat->List aN->List aN
 |[],o=>o
 |j::u,o=>Gm u (V6 j o)
theorem eB.Nu{a:Act}{w:World}{k:Nat}{ok:aN}(hlive:ok.live=true):∀(u:List Nat) {s:AS} {G:List CO} {g:CO},eB B s G a w->Aw.look s.o G k ok g->u.Nodup->k∉u->(∀j∈u,∃ob,s.o[j]? =some ob/\ob.live=true)->
  ∃G' g',eB B ⟨s.t,Gm u s.o⟩ G' a w/\eO w (env B s.o G w) w (env B (Gm u s.o) G' w)/\Aw.look (Gm u s.o) G' k ok g'/\g'.a=g.a/\g'.cap=g.cap/\(∀b,g'.F b↔g.F b\/Of s.o G u b)
 |[],s,G,g,r,hl,_,_,_=>⟨G,g,r,eO.refl _ _,hl,rfl,rfl,λb=>⟨.inl,λh=>h.elim id (λ⟨i,_,_,hi,_⟩=>by simp at hi)⟩⟩
 |j::u,s,G,g,r,hl,hn,hk,hu=>by
  simp only[gS,not_or]at hk;obtain⟨oj,hoj,hjl⟩:=hu j (by simp);obtain⟨gj,hlj⟩:=r.look hoj;have htr:=r.RD hk.1 hl hlj hlive hjl;have hk1:V6 j s.o=s.o.set j oj.kill:=by simp[V6,hoj]
  have hlk:Aw.look (s.o.set j oj.kill) (G.set k {g with F:=λb=>g.F b\/gj.F b}) k ok {g with F:=λb=>g.F b\/gj.F b}:=by refine⟨by rw[lO (wA hk.1)];exact hl.1,?_⟩;have:=(cH.1 hl.2).1;simp[this]
  have hnu:=lR.1 hn;obtain⟨G',g',r',k',CQ,ha,hc,hF⟩:=eB.Nu hlive u htr.1 hlk hnu.2 hk.2 (λi hi=>by
   obtain⟨ob,h1,h2⟩:=hu i (by simp[hi]);have hne:i≠j:=λe=>hnu.1 (e▸hi)
   exact⟨ob,by simp only;rw[lO (wA hne)];exact h1,h2⟩)
  refine⟨G',g',by rw[Gm,hk1];exact r',by rw[Gm,hk1];exact htr.2.trans k',by rw[Gm,hk1];exact CQ,ha,hc,λb=> ?_⟩;rw[hF b];have Pe:Of (s.o.set j oj.kill) (G.set k {g with F:=λb=>g.F b\/gj.F b}) u b↔Of s.o G u b:=by
   constructor
   .rintro ⟨i,ob,gi,hi,V7,hil,hf⟩;have hne:i≠j:=λe=>hnu.1 (e▸hi)
    have hnk:i≠k:=λe=>hk.2 (e▸hi)
    exact⟨i,ob,gi,hi,⟨by have:=V7.1;rwa[lO (wA hne)]at this,by have:=V7.2;rwa[lO (wA hnk)]at this⟩,hil,hf⟩
   .rintro ⟨i,ob,gi,hi,V7,hil,hf⟩;have hne:i≠j:=λe=>hnu.1 (e▸hi)
    have hnk:i≠k:=λe=>hk.2 (e▸hi)
    exact⟨i,ob,gi,hi,⟨by rw[lO (wA hne)];exact V7.1,by rw[lO (wA hnk)];exact V7.2⟩,hil,hf⟩
  rw[Pe];constructor
  .rintro ((h|h)|⟨i,ob,gi,hi,h⟩)
   .exact .inl h
   .exact .inr ⟨j,oj,gj,by simp,hlj,hjl,h⟩
   .exact .inr ⟨i,ob,gi,by simp[hi],h⟩
  .rintro (h|⟨i,ob,gi,hi,V7,h⟩)
   .exact .inl (.inl h)
   .rcases gS.1 hi with rfl|hi
    .obtain ⟨rfl,rfl⟩:=lM hlj V7;exact .inl (.inr h.2)
    .exact .inr ⟨i,ob,gi,hi,V7,h⟩
mutual
theorem yc{o:List aN}:∀{av:AV},jO o av=true->∀j∈mE av,∃ob,o[j]? =some ob/\ob.live=true
 | .obj i bU,h,j,hj=>by
  simp only[mE,rS]at hj;subst hj;simp only[jO]at h;cases ho:AV.isObj o j bU with
  |none=>simp[ho]at h
  |some ob=>have:=lI ho;exact⟨ob,this.1,this.2.1⟩
 | .agg c,h,j,hj=>Aj (by simpa [jO]using h) j (by simpa [mE]using hj)
 | .gM c,h,j,hj=>Aj (by simpa [jO]using h) j (by simpa [mE]using hj)
 | .int _ _,_,j,hj=>by simp[mE]at hj
 | .bool _,_,j,hj=>by simp[mE]at hj
 | .str _,_,j,hj=>by simp[mE]at hj
 | .sl _ _ _,_,j,hj=>by simp[mE]at hj
 | .eU _ _ _,_,j,hj=>by simp[mE]at hj
 | .ptr _ _ _ _,_,j,hj=>by simp[mE]at hj
 | .fn _ _,_,j,hj=>by simp[mE]at hj
 | .undef,_,j,hj=>by simp[mE]at hj
theorem Aj{o:List aN}:∀{c:List AV},nK o c=true->∀j∈kK c,∃ob,o[j]? =some ob/\ob.live=true
 |[],_,j,hj=>by simp[kK]at hj
 |x::xs,h,j,hj=>by
  simp only[nK,eI]at h;simp only[kK,eW]at hj;rcases hj with hj|hj
  .exact yc h.1 j hj
  .exact Aj h.2 j hj
end
def AV.yC:AV->Bool
 | .agg _=>true
 |x=>x.OY
theorem aN4{w:World}{E:Env}{x:AV}{v:Value}{fp:List Nat}(hg:x.yC=true)(h:R w E x v fp):Rc w E x.cells v.cells.toList fp/\(∀c∈v.cells.toList,c.oneCell'=true):=by
 have one:∀{x:AV} {v:Value} {fp:List Nat},R w E x v fp->x.cells=[x]->v.cells=#[v]->v.oneCell'=true->Rc w E x.cells v.cells.toList fp/\(∀c∈v.cells.toList,c.oneCell'=true):=by intro x v fp h h1 h2 h3;rw[h1,h2];exact⟨by simp only[Rc];exact⟨fp,[],h,rfl,by simp⟩,by simpa using h3⟩
 cases x with
 |int k n=>have h':=h;simp only[R]at h';obtain⟨rfl,_⟩:=h';exact one h rfl rfl rfl
 |bool b=>have h':=h;simp only[R]at h';obtain⟨rfl,_⟩:=h';exact one h rfl rfl rfl
 |str b=>have h':=h;simp only[R]at h';obtain⟨rfl,_⟩:=h';exact one h rfl rfl rfl
 |sl g n l=>
  have h':=h;simp only[R]at h';rcases h' with⟨hd,_⟩|⟨a,cap,rfl,_⟩
  .cases g with
   |own=>exact hd.elim
   |view=>exact hd.elim
   |kH i=>cases hg
  .exact one h rfl rfl rfl
 |eU g c off=>
  have h':=h;simp only[R]at h';rcases h' with⟨hd,_⟩|⟨_,b,o,cs,rfl,_⟩
  .cases g with
   |own=>exact hd.elim
   |view=>exact hd.elim
   |kH i=>cases hg
  .exact one h rfl rfl rfl
 |agg c=>simp only[R]at h;obtain⟨cs,rfl,ho,hr⟩:=h;exact⟨by simpa [AV.cells,Value.cells]using hr,by simpa [Value.cells]using ho⟩
 |fn f c=>have h':=h;simp only[R]at h';obtain⟨_,cs,rfl,_⟩:=h';exact one h rfl rfl rfl
 |obj _ _=>cases hg
 |ptr _ _ _ _=>cases hg
 |gM c=>cases hg
 |undef=>cases hg
theorem QU{w:World}{E:Env}{n:Nat}:∀{xs:List AV} {vs:List Value} {fp:List Nat},Rc w E xs vs fp->(∀x∈xs,x.yC=true/\x.cells.length=n)->
  Rv w E (xs.map AV.cells) (vs.flatMap λv=>v.cells.toList) n fp/\(∀v∈vs,v.cells.size=n)
 |[],[],fp,h,_=>by simp only[Rc]at h;simp[Rv,h]
 |[],_::_,_,h,_=>by simp[Rc]at h
 |_::_,[],_,h,_=>by simp[Rc]at h
 |x::xs,v::vs,fp,h,hg=>by
  simp only[Rc]at h;obtain⟨f1,f2,h1,h2,rfl⟩:=h;have hx:=hg x (by simp);have hc:=aN4 hx.1 h1;have hlen:=gG hc.1;have ih:=QU h2 (λy hy=>hg y (by simp[hy]));constructor
  .simp only[mB,DE,Rv];exact⟨v.cells.toList,_,f1,f2,rfl,by rw[hlen,hx.2],hc.2,hc.1,ih.1,rfl⟩
  .intro u hu;rcases gS.1 hu with rfl|hu
   .simpa [hx.2]using hlen
   .exact ih.2 u hu
theorem Nv(off:Nat):∀(l:List Value) (k:Nat) (pre:List Value) (rest:List Value),pre.length=off+k->l.length<=rest.length->
  ((l.zipIdx k).foldl (λ(cs:Array Value) (p:Value×Nat)=>cs.setIfInBounds (off+p.2) p.1) (pre++rest).toArray)=(pre++l++rest.drop l.length).toArray
 |[],k,pre,rest,_,_=>by simp
 |x::xs,k,pre,rest,hp,hl=>by
  cases rest with
  |nil=>simp at hl
  |cons y ys=>
   simp only[zipIdx_cons,foldl_cons];have:(pre++y::ys).toArray.setIfInBounds (off+k) x=((pre++[x])++ys).toArray:=by rw[<-hp];simp
   rw[this,Nv off xs (k+1) (pre++[x]) ys (by simp[hp,oR]) (by simpa using hl)];simp
theorem WW(size:Nat):∀(vs:List Value) (k:Nat) (pre rest:List Value),(∀v∈vs,v.cells.size=size)->pre.length=k*size->rest.length=vs.length*size->
  Instr.fill (λi=>some (i*size,size)) (pre++rest).toArray ((vs.zipIdx k).map λp=>(p.2,p.1))=some (pre++vs.flatMap λv=>v.cells.toList).toArray
 |[],k,pre,rest,_,_,hr=>by have:rest=[]:=hS (by simpa using hr);subst this;simp[Instr.fill]
 |v::vs,k,pre,rest,hv,hp,hr=>by
  have h1:=hv v (by simp);have hr':rest.length=vs.length*size+size:=by rw[hr];simp[rB]
  simp only[zipIdx_cons,mB,Instr.fill];have hc:¬((v.cells.size≠size) || decide (k*size+v.cells.size > (pre++rest).toArray.size))=true:=by simp[h1];omega
  rw[cY (by simpa using hc)];have hz:v.cells.zipIdx.foldl (λ(cs:Array Value) (p:Value×Nat)=>cs.setIfInBounds (k*size+p.2) p.1) (pre++rest).toArray=(pre++v.cells.toList++rest.drop v.cells.toList.length).toArray:=by have:=Nv (k*size) v.cells.toList 0 pre rest (by simpa using hp) (by simp[h1];omega);rw[<-this,<-Array.foldl_toList,Array.toList_zipIdx]
  rw[hz,WW size vs (k+1) (pre++v.cells.toList) _ (λu hu=>hv u (by simp[hu])) (by simp[hp,h1,rB]) (by simp[h1];omega)];simp
theorem eB.aKc{G:List CO}{a:Act}{w:World}(r:eB B s G a w){i idx off:Nat}{ob:aN}{g:CO}{e c:List AV}{vs:List Value}{fpo fp2:List Nat}(hl:Aw.look s.o G i ob g)(hlive:ob.live=true)(wB:ob.box=false)(he:ob.dO[idx]? =some e)
  (hfit:off+c.length<=e.length) (hone:∀x∈vs,x.oneCell'=true) (hr:Rc w (env B s.o G w).plain c vs fp2)
  (hown:uU w (env B s.o G w).plain ob.n ob.dO g.a g.cap fpo) (aVa:(fpo++fp2).Nodup) (hF0:∀b∈fpo++fp2,g.F b):
  ∃b f,g.a=some ⟨b,f,none⟩/\(storeCells ⟨b,f+(idx*ob.n+off),none⟩ vs).run P w= .ok () (w.setCells b (f+(idx*ob.n+off)) vs)/\
   eB B (s.stored i idx off ob e c) (G.set i g) a (w.setCells b (f+(idx*ob.n+off)) vs):=by
 have hvl:=gG hr;rcases hown with⟨hlen,⟨h,_⟩|⟨b,f,C,ty,fz,qN,ha,hb,hz,h1,h2,h3,rfl,hrr⟩⟩
 .rw [h]at he;simp at he
 obtain⟨f1,f2,f3,cs,hfe,hn,hc,aj,wL,hr1,hr3⟩:=AX hrr he;have hcl:=gG wL;have aNz:idx<ob.dO.length:=(cH.1 he).1;have hmul:(idx+1)*ob.n<=g.cap*ob.n:=lE _ (by omega);have V3:(idx+1)*ob.n=idx*ob.n+ob.n:=by rw[rB];omega
 have aD6:f+(idx*ob.n+off)+vs.length<=C.size:=by omega
 refine⟨b,f,ha,uM hb hz aD6 hone,?_⟩;have WV:g.F b:=hF0 b (by simp);have EG:∀b',b'≠b->(w.setCells b (f+(idx*ob.n+off)) vs).heap[b']? =w.heap[b']?:=λb' hne=>mF b b' hne _ _ _
 obtain⟨C',hC',hCs⟩:=jT b ty fz vs (f+(idx*ob.n+off)) w C hb;have hm:=r.modify hl hlive {ob with dO:=ob.dO.set idx (e.take off++c++e.drop (off+c.length))} g (w.setCells b (f+(idx*ob.n+off)) vs) (eC _) rfl (λ_=>⟨rfl,rfl,by simp⟩) (λb hb=> .inl hb) (λb hb hne=>⟨hb,hne⟩)
  (λb' hlt hne=>EG b' (λe=>hne ⟨e▸WV,⟨b,f,none⟩,ha,e⟩)) (by rw[gX];exact eC _) (λk _=>by
  generalize env B (s.o.set i {ob with dO:=ob.dO.set idx (e.take off++c++e.drop (off+c.length))}) (G.set i g) (w.setCells b (f+(idx*ob.n+off)) vs)=E' at k⊢;have kb:=k.plain;simp only[KX,wB,Env.of,eS,hM];obtain⟨g1,g2,rfl,hc1,ZX⟩:=uL off wL;obtain⟨g3,g4,rfl,hc3,hc4⟩:=uL c.length ZX;subst hfe;have aR4:=aVa;simp only[eA,lR]at aR4;obtain⟨hbn,hnd⟩:=aR4;have hp:(f1++(g1++fp2++g4)++f3).Perm ((f1++(g1++g4)++f3)++fp2):=by
   have e1:(g1++fp2++g4++f3).Perm (g1++g4++f3++fp2):=by simp only[sB];refine GC g1 ?_;rw[<-sB g4];exact perm_append_comm
   simpa only[sB]using GC f1 e1
  have hsub:(f1++(g1++g4)++f3++fp2).Sublist (f1++(g1++(g3++g4))++f3++fp2):=(((rI f1).append ((rI g1).append (sublist_append_right g3 g4))).append (rI f3)).append (rI fp2);have hin:∀x,x∈f1++(g1++fp2++g4)++f3->x∈f1++(g1++(g3++g4))++f3++fp2:=λx hx=>hsub.subset (hp.subset hx)
  have hold:∀x∈f1++(g1++fp2++g4)++f3,(w.setCells b (f+(idx*ob.n+off)) vs).heap[x]? =w.heap[x]?:=λx hx=>EG x (λe=>hbn (e▸hin x hx))
  have JK:∀j,j<f+(idx*ob.n+off)\/f+(idx*ob.n+off)+vs.length<=j->(w.setCells b (f+(idx*ob.n+off)) vs).cell? ⟨b,j,none⟩=w.cell? ⟨b,j,none⟩:=λj hj=>By b vs _ w _ (λ_ _=>hj)
  have hti:(ob.dO.take idx).length=idx:=by simp;omega
  refine⟨b::(f1++(g1++fp2++g4)++f3),⟨by simpa using hlen,.inr ⟨b,f,C',ty,fz,_,ha,hC',by rw[hCs];exact hz,by rw[hCs];exact h1,by simpa using h2,h3,rfl,?_⟩⟩,?_,?_⟩
  .show Rr _ _ (ob.dO.set idx _) b f ob.n _;refine WT (cs:=cs.take off++vs++cs.drop (off+vs.length)) aNz ?_ ?_ ?_ ?_ ?_ ?_
   .simp only[eR,oT,AE];omega
   .have hc1:bK w b (f+idx*ob.n) cs:=hc;have htl:(cs.take off).length=off:=by simp;omega
    refine bK.append.2 ⟨bK.append.2 ⟨?_,?_⟩,?_⟩
    .intro j v hv;have hj:=(cH.1 hv).1;rw[htl]at hj;rw[JK _ (by omega)];exact hc1.take j v hv
    .intro j v hv;have hj:j<vs.length:=(cH.1 hv).1;rw[htl,oR f];have:=Cd b vs (f+(idx*ob.n+off)) w (λj hj=>by
      have:f+(idx*ob.n+off)+j<C.size:=by omega
      simp[World.cell?,hb,this]) j hj
     rw[this];rw[aE hj]at hv;exact hv
    .intro j v hv;simp only[eR,htl];rw[JK _ (by omega)];have:=hc1.drop (k:=off+vs.length) j v hv
     rwa[show f+idx*ob.n+(off+vs.length)+j=f+idx*ob.n+(off+vs.length)+j from rfl]at this
   .intro x hx;simp only[eW]at hx;rcases hx with(hx|hx)|hx
    .exact aj x (sE hx)
    .exact hone x hx
    .exact aj x (AI hx)
   .refine mY (mY (dU kb _ _ _ (λx hx=>hold x (by simp[hx])) hc1) (dU kb _ _ _ (λx hx=>hold x (by simp[hx])) hr)) ?_
    rw[<-hvl,<-AF,<-AF]at*;rw[hvl]at*;exact dU kb _ _ _ (λx hx=>hold x (by simp[hx])) hc4
   .refine Rw kb JK (λx hx=>hold x (by simp[hx])) (.inl ?_) hr1
    rw[hti];omega
   .refine Rw kb JK (λx hx=>hold x (by simp[hx])) (.inr ?_) hr3
    omega
  .exact lR.2 ⟨λh=>hbn (hin b h),hp.nodup_iff.2 (hsub.nodup hnd)⟩
  .intro x hx;rcases gS.1 hx with rfl|hx
   .exact WV
   .exact hF0 x (by
     have:=hin x hx;simp only[eA,gS];exact .inr this))
 exact hm.1
theorem Gn(o:List aN):∀c:List AV,(vD o c).length=c.length
 |[]=>rfl
 |_::xs=>by simp[vD,Gn o xs]
def AS.shut(s:AS)(i idx off:Nat)(ob:aN)(e c:List AV):AS:=
 AS.stored ⟨s.t,Gm (kK c) s.o⟩ i idx off ob e (vD s.o c)
theorem Ny(t:TypeId)(x y:Operand){i bU idx off:Nat}{ob:aN}{e:List AV}(hx:s.ev x= .ptr i bU idx off)(ho:AV.isObj s.o i bU=some ob)(he:ob.dO[idx]? =some e)
  (hfy:(s.ev y).fit s.o=true) (hsz:wR P t=some (s.ev y).cells.length) (hfit:off+(s.ev y).cells.length<=e.length) (wB:ob.box=false)
  (nU:nK s.o (s.ev y).cells=true) (hu:(kK (s.ev y).cells).Nodup) (hi:i∉kK (s.ev y).cells):
  Step P B ⟨dst,.store t x y,ty,pos,after,gd⟩ s ((s.shut i idx off ob e (s.ev y).cells).put dst .undef):=
 Rx λG a w r=>by
  obtain⟨g,b,f,hl,hlive,ha,hv⟩:=r.ptr hx ho;have hc:=QT hfy (r.ev y);obtain⟨fp,wL,hnd,Pe⟩:=JP r _ _ nU hu hc.1;obtain⟨fpo,hown,JU,QV⟩:=r.ok i ob g hl hlive;simp only[wB,Env.of,eS,hM]at hown;obtain⟨G2,g2,r2,k2,YE,ha2,ZX,hF2⟩:=eB.Nu (k:=i) (ok:=ob) hlive _ r hl hu hi (λj hj=>Aj nU j hj);have aBh:(fpo++fp).Nodup:=gO.2 ⟨JU,hnd,λb hb b' hb' e=>by
   subst e;obtain⟨j,fF,g',hj,CQ,yD,hF'⟩:=Pe b hb';have:=r.apart i j _ _ _ _ b hl CQ hlive yD (QV b hb) hF';exact hi (this▸hj)⟩
  obtain⟨b',f',wW,hst,hrel⟩:=r2.aKc (P:=P) (c:=vD s.o (s.ev y).cells) YE hlive wB he (by rw[Gn];exact hfit) hc.2.1
   (dU k2.plain _ _ _ (λ_ _=>rfl) wL) (by rw[ha2,ZX];exact hown.keeps k2.plain (λ_ _=>rfl)) aBh (λb hb=>by
    rcases eW.1 hb with hb|hb
    .exact (hF2 b).2 (.inl (QV b hb))
    .exact (hF2 b).2 (.inr (Pe b hb)))
  rw[ha2,ha]at wW;simp only[eE,pN,sY]at wW;obtain⟨rfl,rfl⟩:=wW;have hlen:=gG hc.1;refine⟨_,?_,_,hrel.put dst (by simp[R])⟩;unfold wR at hsz;cases hi':P.info? t with
  |none=>simp[hi']at hsz
  |some inf=>
   simp only[hi',mT,eE]at hsz;have aD7:(a.eval y).cells.size=inf.size:=by rw[hsz];simpa using hlen
   simp[execOp,hv,Instr.storeAt,Instr.sureAddr,storeVar,sizeOf,typeInfo,hi',aD7,hst]
def AS.built(s:AS)(d:Option Tmp)(n:Nat)(xs:List Operand):AS:=
 AS.put ⟨s.t,(Gm (kK (xs.map s.ev)) (s.o++[⟨true,false,n,0,[]⟩])).set s.o.length ⟨true,false,n,1,(vD s.o (xs.map s.ev)).map AV.cells⟩⟩ d (.obj s.o.length 1)
def wX(parts:List (Nat×Operand)):Bool:=go 0 parts
where go:Nat -> List (Nat × Operand) -> Bool
 |_,[]=>true
 |k,p::r=>p.1 == k&&go (k+1) r
theorem EI:∀(parts:List (Nat×Operand)) (k:Nat),wX.go k parts=true->parts=((parts.map (·.2)).zipIdx k).map λp=>(p.2,p.1)
 |[],_,_=>rfl
 |p::r,k,h=>by simp only[wX.go,eI,tP]at h;simp only[mB,zipIdx_cons];rw[<-EI r (k+1) h.2,<-h.1]
theorem vF{t e:TypeId}{n by' len:Nat}{vs:List Value}{w:World}(he:nC P t=some (e,n,by'))(hz:iT P e n=true)(hlen:len=vs.length)(hbig:len*n<=16777216)(hv:∀v∈vs,v.cells.size=n):
  (Instr.buildSlice t len ((vs.zipIdx).map λp=>(p.2,p.1)).toArray).run P w= .ok (.slice (some ⟨w.heap.size,0,none⟩) len len) (w.alloc (.cells (vs.flatMap λv=>v.cells.toList).toArray e)):=by
 obtain⟨hu,inf,hi,hs,_⟩:=rR he;obtain⟨z,V4,hz2⟩:=Ai hz hi;have hb:¬(16777216<len*inf.size):=by rw[hs];omega
 have hf:∀arr:Array Value,arr.size=len*n->Instr.fill (λi=>some (i*inf.size,inf.size)) arr ((vs.zipIdx).map λp=>(p.2,p.1))=some (vs.flatMap λv=>v.cells.toList).toArray:=by intro arr ha;have:=WW inf.size vs 0 [] arr.toList (by rw[hs];exact hv) (by simp) (by simp[ha,hs,hlen]);simpa using this
 by_cases h0:len*inf.size=0
 .have:=hf #[] (by rw[<-hs,h0];rfl);simp[Instr.buildSlice,gC hu,sizeOf,typeInfo,hi,h0,Array.range_zero',this,newRow]
 .have:=hf ((Array.range (len*inf.size)).map (z.cells[· % z.cells.size]!)) (by simp[hs]);simp[Instr.buildSlice,gC hu,sizeOf,typeInfo,hi,hb,h0,zeroValue,V4,this,newRow]
theorem Qj(t:TypeId)(len:Nat)(parts:Array (Nat×Operand)){e:TypeId}{n by':Nat}(he:nC P t=some (e,n,by'))(hz:iT P e n=true)(Nw:wX parts.toList=true)(hlen:len=parts.toList.length)(hbig:len*n<=16777216)(aYt:len<=16777216)
  (nU:nK s.o ((parts.toList.map (·.2)).map s.ev)=true) (hu:(kK ((parts.toList.map (·.2)).map s.ev)).Nodup)
  (hgood:∀x∈vD s.o ((parts.toList.map (·.2)).map s.ev),x.yC=true/\x.cells.length=n):
  Step P B ⟨dst,.buildSlice t len parts,ty,pos,after,gd⟩ s (s.built dst n (parts.toList.map (·.2))):=
 sO λG a w r=>by
  generalize hxs:parts.toList.map (·.2)=xs at*;have AY:parts.toList=(xs.zipIdx).map λp=>(p.2,p.1):=by rw[<-hxs];exact EI _ 0 Nw
  obtain⟨fp,wL,hnd,Pe⟩:=JP r _ _ nU hu (xP r xs);obtain⟨OX,hsz⟩:=QU wL hgood;have hvl:(xs.map a.eval).length=len:=by rw[hlen,<-hxs];simp
  have hrun:(execOp a.eval ⟨dst,.buildSlice t len parts,ty,pos,after,gd⟩).run P w= .ok (.value (.slice (some ⟨w.heap.size,0,none⟩) len len)) (w.alloc (.cells ((xs.map a.eval).flatMap λv=>v.cells.toList).toArray e)):=by
   have e1:parts.map (λ(i,x)=>(i,a.eval x))=(((xs.map a.eval).zipIdx).map λp=>(p.2,p.1)).toArray:=by apply Fi;simp only[Cl,AY,map_map,zipIdx_map];rfl
   have:=vF (P:=P) (t:=t) (len:=len) (w:=w) he hz hvl.symm hbig hsz;simp only[execOp,e1,oS,this,lP,tB]
  have hadd:=r.add [⟨true,false,n,0,[]⟩] [⟨none,0,λ_=>False⟩] w rfl (eC _) (λ_ _=>rfl) (λj ob g b hl _ hF=>by
   cases j with
   |zero=>obtain⟨_,h2⟩:=hl;simp at h2;subst h2;exact hF.elim
   |succ j=>simp[Aw.look]at hl) (λi j _ _ gi _ b hi hj _ _ FH _=>by
   cases i with
   |zero=>obtain⟨_,h2⟩:=hi;simp at h2;subst h2;exact FH.elim
   |succ i=>simp[Aw.look]at hi) (λk j ob g hl _=>by
   cases j with
   |zero=>obtain⟨h1,h2⟩:=hl;simp at h1 h2;subst h1;subst h2;exact⟨[],⟨by simp,.inl ⟨rfl,rfl,rfl⟩⟩,by simp,by simp⟩
   |succ j=>simp[Aw.look]at hl)
  have hlk:Aw.look (s.o++[⟨true,false,n,0,[]⟩]) (G++[⟨none,0,λ_=>False⟩]) s.o.length ⟨true,false,n,0,[]⟩ ⟨none,0,λ_=>False⟩:=⟨by simp,by rw[<-r.len];simp⟩;have hlive:∀j∈kK (xs.map s.ev),∃ob,s.o[j]? =some ob/\ob.live=true:=λj hj=>Aj nU j hj
  have hlt:∀j∈kK (xs.map s.ev),j<s.o.length:=λj hj=>by obtain⟨ob,h,_⟩:=hlive j hj;exact(cH.1 h).1
  obtain⟨G2,g2,r2,k2,YE,ha2,ZX,hF2⟩:=eB.Nu (k:=s.o.length) (ok:=⟨true,false,n,0,[]⟩) rfl _ hadd.1 hlk hu (λh=>by have:=hlt _ h;omega) (λj hj=>by
   obtain⟨ob,h1,h2⟩:=hlive j hj;exact⟨ob,by simp only;rw[pS (hlt j hj)];exact h1,h2⟩)
  have aR0:∀b∈fp,g2.F b:=λb hb=>by obtain⟨i,ob,g,hi,V7,hil,hf⟩:=Pe b hb;exact(hF2 b).2 (.inr ⟨i,ob,g,hi,nR V7,hil,hf⟩)
  have kk:=(hadd.2.trans k2).plain;have hfl:∀b∈fp,b<w.heap.size:=λb hb=>(r2.fresh _ _ _ b YE rfl (aR0 b hb)).2
  generalize hCd:((xs.map a.eval).flatMap λv=>v.cells.toList)=cs at*;have hcl:=jX OX;have hself:(w.alloc (.cells cs.toArray e)).heap[w.heap.size]? =some (.cells cs.toArray e):=fO w _;have hrl:((vD s.o (xs.map s.ev)).map AV.cells).length=len:=by have:=gG wL;rw[mL,<-this,hvl]
  have hlm:len<=maxLen:=by simp only[maxLen];omega
  have hm:=r2.modify YE rfl ⟨true,false,n,1,(vD s.o (xs.map s.ev)).map AV.cells⟩ ⟨some ⟨w.heap.size,0,none⟩,len,λb=>g2.F b\/b=w.heap.size⟩ (w.alloc (.cells cs.toArray e)) (by simp) rfl (by simp)
   (λb hb=>by
    rcases hb with hb|hb
    .exact .inl hb
    .right;subst hb;simp) (λb hb hne=>⟨.inl hb,λa' wW=>by
     obtain rfl:=cQ wW;have:=(r2.fresh _ _ _ b YE rfl hb).2;simp only;omega⟩) (λb hlt _=>heap_alloc w _ b hlt) (by simp) (λk _=>by
   refine⟨w.heap.size::fp,?_,?_,?_⟩
   .generalize env B _ _ (w.alloc (.cells cs.toArray e))=E' at k⊢;simp only[Env.of,eS,hM];refine⟨by rw[hrl];exact hlm,.inr ⟨w.heap.size,0,cs.toArray,e,(0,0),fp,rfl,hself,.inr rfl,?_,by rw[hrl];exact eC _,hlm,rfl,?_⟩⟩
    .simp [hcl];rw[<-hrl];simp
    .refine qD.2 ⟨cs,wQ k.plain (λb hb=>heap_alloc w _ b (hfl b hb)) (wQ kk (λ_ _=>rfl) OX),?_⟩
     refine pO hself (λj v hv=>by simpa using hv)
   .refine lR.2 ⟨λh=>by have:=hfl _ h;omega,hnd⟩
   .intro b hb;rcases gS.1 hb with rfl|hb
    .exact .inr rfl
    .exact .inl (aR0 b hb))
  refine⟨_,_,hrun,_,hm.1.put dst ?_⟩;simp only[R];have h1:=(cH.1 YE.1).1;have h2:=(cH.1 YE.2).1;refine⟨trivial,⟨true,false,n,1,(vD s.o (xs.map s.ev)).map AV.cells⟩,⟨some ⟨w.heap.size,0,none⟩,len,λb=>g2.F b\/b=w.heap.size⟩,⟨?_,?_⟩,eC _,⟨λ_ _=>by simp only[hrl],λh=>by omega⟩⟩
  .rw [mN h1]
  .rw [mN h2]
def gB(P:Program)(t:TypeId):Option (List (Nat×Nat)):=
 match P.underlying t with
 |some (.struct fields)=>fields.toList.mapM (λf=>(P.info? f.type).map λi=>(f.offset,i.size))
 |some (.array _ e)=>if (P.info? e).isSome then some []else none
 |_=>none
def Pf(pl:List (Nat×Nat)):List AV->List (Nat×AV)->Option (List AV)
 |cs,[]=>some cs
 |cs,(i,x)::rest=>match pl[i]? with
  |some (off,size)=>if x.cells.length=size/\off+size<=cs.length then Pf pl (cs.take off++x.cells++cs.drop (off+size)) rest else none
  |none=>none
theorem V8{G:List CO}{a:Act}{w:World}(r:eB B s G a w)(pl:List (Nat×Nat)):∀(parts:List (Nat×Operand)) (cs:List AV) (vs:List Value) (z:List AV),(∀p∈parts,(s.ev p.2).fit s.o=true)->
  Rc w (env B s.o G w) cs vs []->(∀x∈vs,x.oneCell'=true)->Pf pl cs (parts.map λp=>(p.1,s.ev p.2))=some z->
  ∃vs',Instr.fill (pl.toArray[·]?) vs.toArray (parts.map λp=>(p.1,a.eval p.2))=some vs'.toArray/\Rc w (env B s.o G w) z vs' []/\∀x∈vs',x.oneCell'=true
 |[],cs,vs,z,_,h,ho,hz=>by simp only[DG,Pf,eE]at hz;subst hz;exact⟨vs,rfl,h,ho⟩
 |(i,x)::rest,cs,vs,z,hf,h,ho,hz=>by
  simp only[mB,Pf]at hz;cases hp:pl[i]? with
  |none=>simp[hp]at hz
  |some p=>
   obtain⟨off,size⟩:=p;simp only[hp]at hz;split at hz
   .rename_i hc;have hx:=QT (hf (i,x) (by simp)) (r.ev x);have hxl:=gG hx.1;have hl:=gG h;obtain⟨f1,f2,e,h1,h2⟩:=uL off h;obtain⟨rfl,rfl⟩:f1=[]/\f2=[]:=by simpa using e.symm
    obtain⟨f1,f2,e,h3,h4⟩:=uL size h2;obtain⟨rfl,rfl⟩:f1=[]/\f2=[]:=by simpa using e.symm
    rw[AF,AF]at h4;have hnew:=mY (mY h1 hx.1) h4;have hvl:(vs.take off).length=off:=by simp;omega
    obtain⟨vs',h5,h6,h7⟩:=V8 r pl rest _ (vs.take off++(a.eval x).cells.toList++vs.drop (off+size)) z (λp hp=>hf p (by simp[hp])) hnew (λy hy=>by
     simp only[eW]at hy;rcases hy with(hy|hy)|hy
     .exact ho y (sE hy)
     .exact hx.2.1 y hy
     .exact ho y (AI hy)) hz
    refine⟨vs',?_,h6,h7⟩;simp only[mB,Instr.fill];have hpa:pl.toArray[i]? =some (off,size):=by simpa using hp
    have hsz:(a.eval x).cells.size=size:=by rw[<-hc.1,<-hxl];simp
    simp only[hpa];have aR3:¬(((a.eval x).cells.size≠size) || decide (off+(a.eval x).cells.size > vs.toArray.size))=true:=by simp[hsz];omega
    rw[cY (by simpa using aR3)];have:=Nv off (a.eval x).cells.toList 0 (vs.take off) (vs.drop off) (by simpa using hvl) (by simp[hsz];omega);rw[oA]at this;rw[<-Array.foldl_toList,Array.toList_zipIdx,this,<-h5];congr 2;rw[AF];simp[hsz]
   .cases hz
theorem yf(t:TypeId)(parts:Array (Nat×Operand)){pl:List (Nat×Nat)}{z0 z:List AV}(hp:gB P t=some pl)(hz0:qC P t=some z0)(hf:∀p∈parts.toList,(s.ev p.2).fit s.o=true)
  (hz:Pf pl z0 (parts.toList.map λp=>(p.1,s.ev p.2))=some z):Step P B ⟨dst,.build t parts,ty,pos,after,gd⟩ s (s.put dst (.agg z)):=
 dV λG a w r=>by
  unfold qC at hz0;cases hi:P.info? t with
  |none=>simp[hi]at hz0
  |some inf=>
   cases hv:inf.zero with
   |none=>simp[hi,hv]at hz0
   |some zv=>
    simp only[hi,hv,As]at hz0;split at hz0
    .rename_i hall;obtain rfl:=cQ hz0;obtain⟨vs',h1,h2,h3⟩:=V8 r pl parts.toList _ zv.cells.toList z hf (Ih w _ _ _) (fR.1 hall) hz;refine⟨.agg vs'.toArray,?_,by simp only[R];exact⟨vs',rfl,h3,h2⟩⟩;unfold gB at hp;split at hp
     .rename_i fields hu;have hb:P.built t (parts.map λp=>(p.1,a.eval p.2)).toList=some vs'.toArray:=by
       simp only[Program.built,hi,hu,hv,hp];rw[Cl,<-h1]
      have hrun:=run_build (P:=P) w t (parts.map λp=>(p.1,a.eval p.2)) vs'.toArray hb;simp only[execOp,oS];rw[show(parts.map λ(x:Nat×Operand)=>match x with|(i,x)=>(i,a.eval x))=parts.map λp=>(p.1,a.eval p.2)from rfl,hrun];rfl
     .rename_i n e hu;split at hp
      .rename_i he;obtain rfl:=cQ hp;obtain⟨ie,hie⟩:=BE.1 he;have hpe:parts.toList=[]:=by
        cases hpl:parts.toList with
        |nil=>rfl
        |cons q qs=>rw[hpl]at hz;simp[Pf]at hz
       have hb:P.built t (parts.map λp=>(p.1,a.eval p.2)).toList=some vs'.toArray:=by simp only[Program.built,hi,hu,hv,hie];rw[Cl,<-h1,hpe];rfl
       have hrun:=run_build (P:=P) w t (parts.map λp=>(p.1,a.eval p.2)) vs'.toArray hb;simp only[execOp,oS];rw[show(parts.map λ(x:Nat×Operand)=>match x with|(i,x)=>(i,a.eval x))=parts.map λp=>(p.1,a.eval p.2)from rfl,hrun];rfl
      .cases hp
     .cases hp
    .cases hz0
theorem VO(z:Array Value)(n j:Nat)(hj:j<n):(madeCells z n)[j]? =some (z[j%z.size]!):=by simp[madeCells,hj]
theorem Le{w:World}{E:Env}{c:List AV}{cs:List Value}{n:Nat}(hn:cs.length=n)(ho:∀x∈cs,x.oneCell'=true)(hr:Rc w E c cs []):∀m,Rv w E (replicate m c) (replicate m cs).flatten n []
 |0=>by simp[Rv]
 |m+1=>by simp only[pD,pT,Rv];exact⟨cs,_,[],[],rfl,hn,ho,hr,Le hn ho hr m,rfl⟩
theorem zG(cs:List Value):∀(m j:Nat),j<m*cs.length->(replicate m cs).flatten[j]? =cs[j%cs.length]?
 |0,j,h=>by simp at h
 |m+1,j,h=>by
  simp only[pD,pT];by_cases hj:j<cs.length
  .rw [pS hj,Nat.mod_eq_of_lt hj]
  .rw [kO (by omega),zG cs m (j-cs.length) (by rw[rB]at h;omega)];congr 1;exact(Nat.mod_eq_sub_mod (by omega)).symm
theorem aEi(t:TypeId){e:TypeId}{n by':Nat}(he:nC P t=some (e,n,by'))(hz:iT P e n=true):
  Step P B ⟨dst,.buildSlice t 0 #[],ty,pos,after,gd⟩ s (s.put dst (.sl .own n [])):=
 sO λG a w r=>by
  have hrun:=vF (P:=P) (t:=t) (len:=0) (w:=w) (vs:=[]) he hz rfl (by omega) (by simp);have hadd:=r.add [] [] (w.alloc (.cells #[] e)) rfl (by simp) (λb hb=>heap_alloc w _ b hb) (λj ob g b hl=>by simp[Aw.look]at hl) (λi j _ _ _ _ b hi=>by simp[Aw.look]at hi) (λk j ob g hl=>by simp[Aw.look]at hl);simp only[fX]at hadd;refine⟨.slice (some ⟨w.heap.size,0,none⟩) 0 0,w.alloc (.cells #[] e),?_,G,hadd.1.put dst ?_⟩
  .have h2:(Instr.buildSlice t 0 #[]).run P w= .ok (.slice (some ⟨w.heap.size,0,none⟩) 0 0) (w.alloc (.cells #[] e)):=by simpa using hrun
   simp[execOp,h2]
  .simp only[R];exact .inr ⟨_,0,rfl,⟨by simp,by simp⟩,.inl ⟨trivial,trivial,rfl,trivial⟩⟩
def AS.made(s:AS)(d:Option Tmp)(n:Nat)(l:List (List AV)):AS:=AS.put ⟨s.t,s.o++[⟨true,false,n,1,l⟩]⟩ d (.obj s.o.length 1)
theorem RX(t:TypeId)(x y:Operand){e:TypeId}{n by':Nat}{k k':IntKind}{l c:Int}{z:List AV}(he:nC P t=some (e,n,by'))(hz:qC P e=some z)(hzn:iT P e n=true)(hx:s.ev x= .int k l)(hy:s.ev y= .int k' c)
  (h0:0<=l) (h1:l<=c) (hb:(by':Int)*c<=281474976710656) (h63:c<=9223372036854775807) (hn0:0<n):
  Step P B ⟨dst,.makeSlice t x y,ty,pos,after,gd⟩ s (s.made dst n (replicate l.toNat z)):=
 sO λG a w r=>by
  obtain⟨hu,inf,hi,hs,hby⟩:=rR he;obtain⟨zv,V4,hz2⟩:=Ai hzn hi;have hrun:=run_make (P:=P) w t e inf zv hu hi V4 k k' l c h0 h1 (by rw[hby];exact hb) h63;unfold qC at hz;simp only[hi,V4,As]at hz;split at hz
  .rename_i hall;obtain rfl:=cQ hz;have hzl:zv.cells.toList.length=n:=by simpa using hz2
   obtain⟨G',r',k',hG⟩:=r.aRn ⟨true,false,n,1,replicate l.toNat (Yw (zv.cells.toList.map ofV) (slN P 8 e))⟩ c.toNat (madeCells zv.cells (c.toNat*inf.size)) e (by simp;omega) (by simp[maxLen];omega) (by simp[size_madeCells,hs]) (λw' E' k hb=>by
    refine qD.2 ⟨_,Le hzl (fR.1 hall) (Ih w' E' _ _) l.toNat,?_⟩;refine pO hb (λj v hv=> ?_);have hj:=(cH.1 hv).1;have hfl:(replicate l.toNat zv.cells.toList).flatten.length=l.toNat*n:=by simp[hz2]
    rw[hfl]at hj;rw[zG _ _ _ (by rw[hzl];exact hj),hzl]at hv;have hle:l.toNat*n<=c.toNat*inf.size:=by rw[hs];exact lE _ (by omega)
    rw[hY,VO _ _ _ (by omega),hz2];have hm:j%n<zv.cells.size:=by rw[hz2];exact Nat.mod_lt _ hn0
    rw[DH zv.cells (j%n) hm];rw[<-hv];simp[hm])
   refine⟨.slice (some ⟨w.heap.size,0,none⟩) l.toNat c.toNat,_,by simp only[execOp,r.JR hx,r.JR hy,oS,hrun,lP,tB],G',r'.put dst ?_⟩;simp only[R];exact⟨trivial,_,_,WU hG,eC _,⟨λ_ _=>by simp,λh=>by omega⟩⟩
  .cases hz
def AS.at(s:AS)(i bU idx:Nat):Option (aN×List AV):=
 match AV.isObj s.o i bU with
 |some ob=>match ob.dO[idx]? with
  |some e=>some (ob,e)
  |none=>none
 |none=>none
def Bh(P:Program)(t:TypeId)(c:List AV)(off:Nat)(K:AV->Prop):Prop:=
 match kJ P t with
 |some n=>off+n<=c.length/\K (.agg ((c.drop off).take n))
 |none=>oD P t=true/\match c[off]? with
  |some y=>K y
  |none=>False
def sM(P:Program)[aB P](o:Oper)(s:AS)(K:AS->Prop):Prop:=
 match o.op with
 | .move x=>K (s.put o.dst (s.ev x))
 | .assign x=>K (s.put o.dst (s.ev x))
 | .pick c x y=>match s.ev c with
  | .bool b=>K (s.put o.dst (if b then s.ev x else s.ev y))
  |_=>False
 | .alloc t=>match qC P t with
  |some z=>K (s.box o.dst z)
  |none=>False
 | .box _ x=>(s.ev x).fit s.o=true/\K (s.box o.dst (s.ev x).cells)
 | .build t parts=>match gB P t with
  |some pl=>match qC P t with
   |some z0=>(∀p∈parts.toList,(s.ev p.2).fit s.o=true)/\match Pf pl z0 (parts.toList.map λp=>(p.1,s.ev p.2))with
    |some z=>K (s.put o.dst (.agg z))
    |none=>False
   |none=>False
  |none=>False
 | .buildSlice t len parts=>match nC P t with
  |some (e,n,_)=>iT P e n=true/\wX parts.toList=true/\len=parts.toList.length/\len*n<=16777216/\len<=16777216/\
    nK s.o ((parts.toList.map (·.2)).map s.ev)=true/\(kK ((parts.toList.map (·.2)).map s.ev)).Nodup/\
    (∀x∈vD s.o ((parts.toList.map (·.2)).map s.ev),x.yC=true/\x.cells.length=n)/\K (s.built o.dst n (parts.toList.map (·.2)))
  |none=>False
 | .load t x=>match s.ev x with
  | .ptr i bU idx off=>match s.at i bU idx with
   |some (_,e)=>Bh P t (xO (EE i) true e) off λy=>K (s.put o.dst y)
   |none=>False
  | .eU g c off=>(AV.eU g c off).fit s.o=true/\Bh P t c off λy=>K (s.put o.dst y)
  |_=>False
 | .store t x y=>match s.ev x with
  | .ptr i bU idx off=>match s.at i bU idx with
   |some (ob,e)=>(s.ev y).fit s.o=true/\wR P t=some (s.ev y).cells.length/\off+(s.ev y).cells.length<=e.length/\
     if (ob.box || (s.ev y).cells.all AV.OY)=true then K ((s.stored i idx off ob e (s.ev y).cells).put o.dst .undef)
     else nK s.o (s.ev y).cells=true/\(kK (s.ev y).cells).Nodup/\i∉kK (s.ev y).cells/\K ((s.shut i idx off ob e (s.ev y).cells).put o.dst .undef)
   |none=>False
  |_=>False
 | .fieldAddr t x f=>match Np P t f with
  |some fo=>match s.ev x with
   | .ptr i bU idx off=>(AV.isObj s.o i bU).isSome=true/\K (s.put o.dst (.ptr i bU idx (off+fo)))
   | .eU g c off=>(AV.eU g c off).fit s.o=true/\K (s.put o.dst (.eU g c (off+fo)))
   |_=>False
  |none=>False
 | .indexAddr t x ix=>match s.ev ix with
  | .int _ n=>0<=n/\match s.ev x with
   | .obj i bU=>match AV.isObj s.o i bU with
    |some ob=>match nC P t with
     |some (_,m,_)=>m=ob.n/\(ob.box=false\/ob.bU≠2)/\n<ob.dO.length/\K (s.put o.dst (.ptr i bU n.toNat 0))
     |none=>False
    |none=>False
   | .sl g m l=>(AV.sl g m l).fit s.o=true/\match nC P t with
    |some (_,m',_)=>m'=m/\match l[n.toNat]? with
     |some c=>K (s.put o.dst (.eU g c 0))
     |none=>False
    |none=>False
   | .ptr i bU idx off=>(AV.isObj s.o i bU).isSome=true/\match aJ4 P t with
    |some (len,sz)=>n<len/\K (s.put o.dst (.ptr i bU idx (off+n.toNat*sz)))
    |none=>False
   |_=>False
  |_=>False
 | .index t x ix=>match s.ev x with
  | .str l=>match s.ev ix with
   | .int _ n=>isString P t=true/\0<=n/\match l[n.toNat]? with
    |some u=>K (s.put o.dst (.int .u8 u.toNat))
    |none=>False
   |_=>False
  |_=>False
 | .extract x ix=>match s.ev x with
  | .gM c=>match c[ix]? with
   |some y=>K (s.put o.dst y)
   |none=>False
  |_=>False
 | .makeFunc (.func f) ⟨[]⟩ cap=>K (s.put o.dst (.fn f (s.args cap)))
 | .makeSlice t x y=>match nC P t with
  |some (e,n,by')=>match qC P e with
   |some z=>match s.ev x with
    | .int _ l=>match s.ev y with
     | .int _ c=>iT P e n=true/\0<=l/\l<=c/\(by':Int)*c<=281474976710656/\c<=9223372036854775807/\0<n/\K (s.made o.dst n (replicate l.toNat z))
     |_=>False
    |_=>False
   |none=>False
  |none=>False
 | .slice t x lo hi none=>match s.ev x with
  | .str l=>match s.bound 0 lo with
   |some a=>match s.bound l.length hi with
    |some b=>isString P t=true/\a<=b/\b<=l.length/\K (s.put o.dst (.str ((l.take b).drop a)))
    |none=>False
   |none=>False
  | .sl g n l=>match s.bound 0 lo with
   |some a=>match s.bound l.length hi with
    |some b=>match nC P t with
     |some (_,m,_)=>m=n/\(AV.sl g n l).fit s.o=true/\a<=b/\b<=l.length/\K (s.put o.dst (.sl g n ((l.take b).drop a)))
     |none=>False
    |none=>False
   |none=>False
  | .obj i bU=>match AV.isObj s.o i bU with
   |some ob=>match s.bound 0 lo with
    |some a=>match s.bound ob.dO.length hi with
     |some b=>match nC P t with
      |some (_,m,_)=>m=ob.n/\ob.box=false/\a<=b/\b<=ob.dO.length/\K (s.RU o.dst i ob ((ob.dO.take b).drop a))
      |none=>False
     |none=>False
    |none=>False
   |none=>False
  |_=>False
 | .unOp .not _ x=>match s.ev x with
  | .bool b=>K (s.put o.dst (.bool !b))
  |_=>False
 | .unOp .neg _ x=>match s.ev x with
  | .int k n=>K (s.put o.dst (.int k (k.wrap (0-n))))
  |_=>False
 | .binOp op t x y _=>match s.ev x with
  | .int k m=>match s.ev y with
   | .int k' n=>(k'=k\/op= .shr)/\match RN op k m n with
    |some z=>K (s.put o.dst z)
    |none=>False
   |_=>False
  | .str l=>match s.ev y with
   | .str m=>(op= .add->l.length+m.length<=9223372036854775807)/\match YD op l m with
    |some z=>K (s.put o.dst z)
    |none=>False
   |_=>False
  | .bool a=>match s.ev y with
   | .bool b=>(op= .eql\/op= .neq)/\Ld P t=true/\K (s.put o.dst (.bool (if op= .eql then a == b else a != b)))
   |_=>False
  | .agg c1=>match s.ev y with
   | .agg c2=>(op= .eql\/op= .neq)/\c1.all AV.scalar=true/\c2.all AV.scalar=true/\∃b,EqA P t c1 c2 b/\K (s.put o.dst (.bool (if op= .eql then b else !b)))
   |_=>False
  |_=>False
 | .convert src d x=>match s.ev x with
  | .int _ n=>match intType P d with
   |some k'=>(P.underlying src).isSome=true/\K (s.put o.dst (.int k' (k'.wrap n)))
   |none=>False
  | .str l=>isString P src=true/\isString P d=true/\K (s.put o.dst (.str l))
  | .sl g n l=>match nC P src with
   |some (e,m,_)=>m=1/\n=1/\(AV.sl g n l).fit s.o=true/\isString P d=true/\intType P e=some .u8/\∃bs,bytesOf l=some bs/\K (s.put o.dst (.str bs))
   |none=>False
  | .obj i bU=>match AV.isObj s.o i bU with
   |some ob=>match nC P src with
    |some (e,m,_)=>m=1/\ob.n=1/\isString P d=true/\intType P e=some .u8/\∃bs,bytesOf ob.dO=some bs/\K (s.put o.dst (.str bs))
    |none=>False
   |none=>False
  |_=>False
 | .call ⟨.builtin .len,⟨[x]⟩,⟨[t]⟩⟩=>match s.ev x with
  | .str l=>isString P t=true/\K (s.put o.dst (.int .i64 l.length))
  | .sl g n l=>(AV.sl g n l).fit s.o=true/\isSlice P t=true/\K (s.put o.dst (.int .i64 l.length))
  | .obj i bU=>match AV.isObj s.o i bU with
   |some ob=>isSlice P t=true/\K (s.put o.dst (.int .i64 ob.dO.length))
   |none=>False
  |_=>False
 | .call ⟨.builtin .append,⟨[x,y]⟩,⟨[tS,xT]⟩⟩=>match nC P tS with
  |some (e,n,by')=>iT P e n=true/\rT P xT=true/\match s.target n (s.ev x)with
   |some (i,ob,s1)=>match s1.source i n (s.ev y)with
    |some (l2,o2)=>(ob.dO.length+l2.length)*by'<=140737488355328/\ob.dO.length+l2.length<=9223372036854775807/\K (s.yF o2 o.dst i ob l2)
    |none=>False
   |none=>False
  |none=>False
 | .call ⟨.value f,args,_⟩=>match s.ev f with
  | .fn g cap=>if bR P g=true then∃r,Ok P g (CK s.o (s.args args++cap)) r/\K (s.called o.dst r)else∃r,OkN P g (CK s.o (s.args args++cap)) r/\K (s.put o.dst r)
  |_=>False
 | .nilCheck x=>match s.ev x with
  | .ptr i bU idx off=>(AV.isObj s.o i bU).isSome=true/\K (s.put o.dst (.ptr i bU idx off))
  | .eU g c off=>(AV.eU g c off).fit s.o=true/\K (s.put o.dst (.eU g c off))
  |_=>False
 |_=>False
def VP(P:Program)(o:Oper)(s:AS)(K:AS->Prop):Prop:=
 match o.op with
 | .buildSlice t 0 ⟨[]⟩=>match nC P t with
  |some (e,n,_)=>iT P e n=true/\K (s.put o.dst (.sl .own n []))
  |none=>False
 |_=>False
theorem Br{s:AS}{i bU idx:Nat}{ob:aN}{e:List AV}(h:s.at i bU idx=some (ob,e)):AV.isObj s.o i bU=some ob/\ob.dO[idx]? =some e:=by
 unfold AS.at at h;split at h
 .rename_i fF h1;split at h
  .rename_i e' h2;simp only[eE,oX]at h;obtain⟨rfl,rfl⟩:=h;exact⟨h1,h2⟩
  .cases h
 .cases h
theorem JV{s:AS}{i bU:Nat}(h:(AV.isObj s.o i bU).isSome=true):∃ob,AV.isObj s.o i bU=some ob:=BE.1 h
theorem aBi{P:Program}[aB P]{B:gN P}{s:AS}{dst:Option Tmp}{ty:TypeId}{pos:String}{after:Array Edge}{gd:Option (Nat×Bool)}{t:TypeId}{x:Operand}{i bU idx off:Nat}{ob:aN}{e:List AV}{K:AS->Prop}
  (hx:s.ev x= .ptr i bU idx off) (ha:s.at i bU idx=some (ob,e)) (h:Bh P t (xO (EE i) true e) off λy=>K (s.put dst y)):∃s',K s'/\Step P B ⟨dst,.load t x,ty,pos,after,gd⟩ s s':=by
 obtain⟨h1,h2⟩:=Br ha;unfold Bh at h;split at h
 .rename_i n hn;exact⟨_,h.2,KY t x hx h1 h2 hn (by have:=h.1;rwa[EF]at this)⟩
 .split at h
  .rename_i y hy;exact⟨_,h.2,KZ t x hx h1 h2 h.1 hy⟩
  .exact h.2.elim
theorem yg{P:Program}[aB P]{B:gN P}{s:AS}{dst:Option Tmp}{ty:TypeId}{pos:String}{after:Array Edge}{gd:Option (Nat×Bool)}{t:TypeId}{x:Operand}{g:Tg}{c:List AV}{off:Nat}{K:AS->Prop}
  (hx:s.ev x= .eU g c off) (hf:(AV.eU g c off).fit s.o=true) (h:Bh P t c off λy=>K (s.put dst y)):∃s',K s'/\Step P B ⟨dst,.load t x,ty,pos,after,gd⟩ s s':=by
 unfold Bh at h;split at h
 .rename_i n hn;exact⟨_,h.2,JM t x hx hf hn h.1⟩
 .split at h
  .rename_i y hy;exact⟨_,h.2,JN t x hx hf h.1 hy⟩
  .exact h.2.elim
theorem YF(x:Operand){i bU idx off:Nat}{ob:aN}(hx:s.ev x= .ptr i bU idx off)(ho:AV.isObj s.o i bU=some ob):Step P B ⟨dst,.nilCheck x,ty,pos,after,gd⟩ s (s.put dst (.ptr i bU idx off)):=
 dV λG a w r=>by obtain⟨g,b,f,_,_,_,hv⟩:=r.ptr hx ho;refine⟨a.eval x,?_,by have:=r.ev x;rwa[hx]at this⟩;simp only[execOp];rw[hv];rfl
theorem VQ(x:Operand){g:Tg}{c:List AV}{off:Nat}(hx:s.ev x= .eU g c off)(hf:(AV.eU g c off).fit s.o=true):Step P B ⟨dst,.nilCheck x,ty,pos,after,gd⟩ s (s.put dst (.eU g c off)):=
 dV λG a w r=>by
  have h:=r.ev x;rw[hx]at h;refine⟨a.eval x,?_,h⟩;have h':=h;simp only[R]at h';rcases h' with⟨hd,_⟩|⟨_,b,o,cs,hv,_⟩
  .cases g with
   |own=>exact hd.elim
   |view=>exact hd.elim
   |kH i=>exfalso;simp only[AV.fit]at hf;refine hd (λob vZ=> ?_);simpa [vZ]using hf
  .simp only[execOp];rw[hv];rfl
theorem BG{P:Program}[aB P]{B:gN P}{o:Oper}{s:AS}{K:AS->Prop}(h:sM P o s K):∃s',K s'/\Step P B o s s':=by
 obtain⟨dst,op,ty,pos,after,gd⟩:=o;unfold sM at h;dsimp only at h;split at h;case h_1=>exact⟨_,h,aA9 _⟩
 case h_2=>exact⟨_,h,aa _⟩
 case h_3=>
  split at h
  .rename_i hc;exact⟨_,h,aBc _ _ _ hc⟩
  .exact h.elim
 case h_4=>
  split at h
  .rename_i hz;exact⟨_,h,xn _ hz⟩
  .exact h.elim
 case h_5=>exact⟨_,h.2,aD3 _ _ h.1⟩
 case h_6=>
  split at h
  .rename_i hp;split at h
   .rename_i hz;obtain⟨h1,h⟩:=h;split at h
    .rename_i hf;exact⟨_,h,yf _ _ hp hz h1 hf⟩
    .exact h.elim
   .exact h.elim
  .exact h.elim
 case h_7=>
  split at h
  .rename_i he;obtain⟨h1,h2,h3,h4,h5,h6,h7,h8,h9⟩:=h;exact⟨_,h9,Qj _ _ _ he h1 h2 h3 h4 h5 h6 h7 h8⟩
  .exact h.elim
 case h_8=>
  split at h
  .rename_i hx;split at h
   .rename_i ha;exact aBi hx ha h
   .exact h.elim
  .rename_i hx;exact yg hx h.1 h.2
  .exact h.elim
 case h_9=>
  split at h
  .rename_i hx;split at h
   .rename_i ha;obtain⟨a1,a2⟩:=Br ha;obtain⟨h1,h2,h3,h⟩:=h;split at h
    .rename_i hb;exact⟨_,h,xy _ _ _ hx a1 a2 h1 h2 h3 (by simpa using hb)⟩
    .rename_i hb;obtain⟨h4,h5,h6,h7⟩:=h;exact⟨_,h7,Ny _ _ _ hx a1 a2 h1 h2 h3 (by simp at hb;exact hb.1) h4 h5 h6⟩
   .exact h.elim
  .exact h.elim
 case h_10=>
  split at h
  .rename_i hf;split at h
   .rename_i hx;obtain⟨ob,ho⟩:=JV h.1;exact⟨_,h.2,RA _ _ _ hx ho hf⟩
   .rename_i hx;exact⟨_,h.2,Qi _ _ _ hx h.1 hf⟩
   .exact h.elim
  .exact h.elim
 case h_11=>
  split at h
  .rename_i hi;obtain⟨h0,h⟩:=h;split at h
   .rename_i hx;split at h
    .rename_i ho;split at h
     .rename_i he;obtain⟨rfl,hb,h1,h2⟩:=h;exact⟨_,h2,RH _ _ _ hx ho hi he h0 h1 hb⟩
     .exact h.elim
    .exact h.elim
   .rename_i hx;obtain⟨hf,h⟩:=h;split at h
    .rename_i he;obtain⟨rfl,h⟩:=h;split at h
     .rename_i hc;exact⟨_,h,VJ _ _ _ hx hf hi he h0 hc⟩
     .exact h.elim
    .exact h.elim
   .rename_i hx;obtain⟨hs,h⟩:=h;obtain⟨ob,ho⟩:=JV hs;split at h
    .rename_i ha;exact⟨_,h.2,RI _ _ _ hx ho hi ha h0 h.1⟩
    .exact h.elim
   .exact h.elim
  .exact h.elim
 case h_12=>
  split at h
  .rename_i hx;split at h
   .rename_i hi;obtain⟨ht,h0,h⟩:=h;split at h
    .rename_i hu;exact⟨_,h,RJ _ _ _ hx hi ht h0 hu⟩
    .exact h.elim
   .exact h.elim
  .exact h.elim
 case h_13=>
  split at h
  .rename_i hx;split at h
   .rename_i hy;exact⟨_,h,YA _ _ hx hy⟩
   .exact h.elim
  .exact h.elim
 case h_14=>exact⟨_,h,VK _ _⟩
 case h_15=>
  split at h
  .rename_i he;split at h
   .rename_i hz;split at h
    .rename_i hx;split at h
     .rename_i hy;obtain⟨h1,h2,h3,h4,h5,h6,h7⟩:=h;exact⟨_,h7,RX _ _ _ he hz h1 hx hy h2 h3 h4 h5 h6⟩
     .exact h.elim
    .exact h.elim
   .exact h.elim
  .exact h.elim
 case h_16=>
  split at h
  .rename_i hx;split at h
   .rename_i hl;split at h
    .rename_i hh;obtain⟨h1,h2,h3,h4⟩:=h;exact⟨_,h4,RQ _ _ _ _ hx h1 hl hh h2 h3⟩
    .exact h.elim
   .exact h.elim
  .rename_i hx;split at h
   .rename_i hl;split at h
    .rename_i hh;split at h
     .rename_i he;obtain⟨rfl,h1,h2,h3,h4⟩:=h;exact⟨_,h4,VL _ _ _ _ hx h1 he hl hh h2 h3⟩
     .exact h.elim
    .exact h.elim
   .exact h.elim
  .rename_i hx;split at h
   .rename_i ho;split at h
    .rename_i hl;split at h
     .rename_i hh;split at h
      .rename_i he;obtain⟨rfl,h1,h2,h3,h4⟩:=h;exact⟨_,h4,RV _ _ _ _ hx ho h1 he hl hh h2 h3⟩
      .exact h.elim
     .exact h.elim
    .exact h.elim
   .exact h.elim
  .exact h.elim
 case h_17=>
  split at h
  .rename_i hx;exact⟨_,h,aD9 _ _ hx⟩
  .exact h.elim
 case h_18=>
  split at h
  .rename_i hx;exact⟨_,h,aEa _ _ hx⟩
  .exact h.elim
 case h_19=>
  split at h
  .rename_i hx;split at h
   .rename_i hy;obtain⟨hkk,h⟩:=h;split at h
    .rename_i hz;exact⟨_,h,aEc _ _ _ _ _ hx hy hkk hz⟩
    .exact h.elim
   .exact h.elim
  .rename_i hx;split at h
   .rename_i hy;obtain⟨hle,h⟩:=h;split at h
    .rename_i hz;exact⟨_,h,aEh _ _ _ _ _ hx hy hz hle⟩
    .exact h.elim
   .exact h.elim
  .rename_i hx;split at h
   .rename_i hy;exact⟨_,h.2.2,YC _ _ _ _ _ h.1 hx hy h.2.1⟩
   .exact h.elim
  .rename_i hx;split at h
   .rename_i hy;obtain⟨h1,h2,h3,b,h4,h5⟩:=h;exact⟨_,h5,bf _ _ _ _ _ h1 hx hy h2 h3 h4⟩
   .exact h.elim
  .exact h.elim
 case h_20=>
  split at h
  .rename_i hx;split at h
   .rename_i hk;exact⟨_,h.2,VM _ _ _ hx hk h.1⟩
   .exact h.elim
  .rename_i hx;exact⟨_,h.2.2,VN _ _ _ hx h.2.1 h.1⟩
  .rename_i hx;split at h
   .rename_i he;obtain⟨rfl,rfl,h1,h2,h3,bs,h4,h5⟩:=h;exact⟨_,h5,Gl _ _ _ hx h1 h2 he h3 h4⟩
   .exact h.elim
  .rename_i hx;split at h
   .rename_i ho;split at h
    .rename_i he;obtain⟨rfl,h1,h2,h3,bs,h4,h5⟩:=h;exact⟨_,h5,IM _ _ _ hx ho h2 he h1 h3 h4⟩
    .exact h.elim
   .exact h.elim
  .exact h.elim
 case h_21=>
  split at h
  .rename_i hx;exact⟨_,h.2,Yz _ _ hx h.1⟩
  .rename_i hx;exact⟨_,h.2.2,ax _ _ hx h.1 h.2.1⟩
  .rename_i hx;split at h
   .rename_i ho;exact⟨_,h.2,Yy _ _ hx ho h.1⟩
   .exact h.elim
  .exact h.elim
 case h_22=>
  split at h
  .rename_i he;obtain⟨h1,h2,h⟩:=h;split at h
   .rename_i ht;split at h
    .rename_i hs;obtain⟨h3,h4,h5⟩:=h;exact⟨_,h5,step_append _ _ _ _ he h1 h2 ht hs h3 h4⟩
    .exact h.elim
   .exact h.elim
  .exact h.elim
 case h_23=>
  split at h
  .rename_i hf;split at h
   .rename_i h1;obtain⟨r,h2,h3⟩:=h;exact⟨_,h3,aBb _ _ _ hf h1 h2⟩
   .obtain ⟨r,h2,h3⟩:=h;exact⟨_,h3,ag _ _ _ hf h2⟩
  .exact h.elim
 case h_24=>
  split at h
  .rename_i hx;obtain⟨ob,ho⟩:=JV h.1;exact⟨_,h.2,YF _ hx ho⟩
  .rename_i hx;exact⟨_,h.2,VQ _ hx h.1⟩
  .exact h.elim
 case h_25=>exact h.elim
theorem RY{P:Program}[aB P]{B:gN P}{o:Oper}{s:AS}{K:AS->Prop}(h:VP P o s K):∃s',K s'/\Step P B o s s':=by
 obtain⟨dst,op,ty,pos,after,gd⟩:=o;unfold VP at h;dsimp only at h;split at h
 .split at h
  .rename_i he;exact⟨_,h.2,aEi _ he h.1⟩
  .exact h.elim
 .exact h.elim
def AV.iF:AV->Bool
 | .int _ _=>true
 | .bool _=>true
 | .str _=>true
 |_=>false
def sP(w:World)(O:Nat->Prop):Env:=⟨λb=>b<w.heap.size/\¬O b,λ_=>True,λ_ _=>False,λ_ _ _=>False,λ_ _ _ _ _=>False⟩
def OkM(P:Program)[aB P](f:FuncId)(x x':AV)(rest:List AV)(r:AV):Prop:=
 ∀(w:World) (v:Value) (vs:List Value) (fp:List Nat),aB.holds P w->(∀b∈fp,aB.low P<=b)->R w (sP w (· ∈fp)) x v fp->fp.Nodup->(∀b∈fp,b<w.heap.size)->Rc w (sP w (· ∈fp)) rest vs []->
  Calls P f (v::vs).toArray w λe w'=>∃u AR,e= .returned u/\R w' mJ r u []/\R w' mJ x' v AR/\AR.Nodup/\
   (∀b∈AR,(b∈fp\/w.heap.size<=b)/\b<w'.heap.size)/\w.heap.size<=w'.heap.size/\(∀b,b<w.heap.size->b∉fp->w'.heap[b]? =w.heap[b]?)/\mI w w'
mutual
def mt(o:List aN):AV->AV->Bool
 | .obj i _,.sl .own n _=>match o[i]? with
  |some ob=>decide (ob.n=n)
  |none=>false
 | .agg c,.agg c'=>mtc o c c'
 | .int _ _,x=>x.iF
 | .bool _,x=>x.iF
 | .str _,x=>x.iF
 |_,_=>false
def mtc(o:List aN):List AV->List AV->Bool
 |[],[]=>true
 |x::xs,y::ys=>mt o x y&&mtc o xs ys
 |_,_=>false
end
mutual
def CS:AV->AV->List (Nat×List (List AV))
 | .obj i _,.sl _ _ rows=>[(i,rows)]
 | .agg c,.agg c'=>DY c c'
 |_,_=>[]
def DY:List AV->List AV->List (Nat×List (List AV))
 |x::xs,y::ys=>CS x y++DY xs ys
 |_,_=>[]
end
theorem Nz{w:World}{E:Env}{x:AV}{v:Value}{fp:List Nat}(hx:x.iF=true)(h:R w E x v fp):fp=[]:=by cases x<;>simp only[AV.iF]at hx<;>first|(cases hx;done)|(simp only[R]at h;exact h.2)
structure Part where
  i:Nat
  rows:List (List AV)
  fp:List Nat
def aEl(o:List aN)(G:List CO)(w':World)(p:Part):Prop:=
 ∃ob g,look o G p.i ob g/\ob.live=true/\ob.box=false/\uU w' mJ ob.n p.rows g.a g.cap p.fp/\p.rows.length=ob.dO.length
def qN(L:List Part):List Nat:=L.flatMap (·.fp)
mutual
theorem V9{P:Program}[aB P]{B:gN P}{s:AS}{G:List CO}{w w':World}:∀(x x':AV) (v:Value) (AR:List Nat),jO s.o x=true->mt s.o x x'=true->R w (env B s.o G w) x v []->R w' mJ x' v AR->
  ∃L:List Part,L.map (·.i)=mE x/\CS x x'=L.map (λp=>(p.i,p.rows))/\AR=qN L/\∀p∈L,aEl s.o G w' p
 | .obj i bU,.sl .own n rows,v,AR,ho,hm,h,h'=>by
  cases vZ:AV.isObj s.o i bU with
  |none=>simp[jO,vZ]at ho
  |some ob=>simp only[jO,vZ]at ho;simp only[R]at h;obtain⟨_,fF,g,hl,_,hh,_⟩:=h;obtain⟨h1,h2,h3⟩:=lI vZ;obtain rfl:=cQ (hl.1.symm.trans h1);have hv:=hh h2 h3;obtain⟨a,cap,hv',hown⟩:=pM.1 h';rw[hv]at hv';simp only[Value.slice.injEq]at hv';obtain⟨rfl,hlen,rfl⟩:=hv';simp only[mt,h1,fN]at hm;refine⟨[⟨i,rows,AR⟩],rfl,rfl,by simp[qN],?_⟩;intro p hp;simp at hp;subst hp;exact⟨_,g,hl,h2,by simpa using ho,by rw[hm];exact hown,hlen.symm⟩
 | .agg c,.agg c',v,AR,ho,hm,h,h'=>by
  simp only[R]at h h';obtain⟨cs,rfl,_,hr⟩:=h;obtain⟨cs',hv,_,hr'⟩:=h';have:cs=cs':=by simpa using hv
  subst this;obtain⟨L,h1,h2,h3,h4⟩:=bn c c' cs AR (by simpa [jO]using ho) (by simpa [mt]using hm) hr hr';exact⟨L,by simpa [mE]using h1,by simpa [CS]using h2,h3,h4⟩
 | .int _ _,x',v,AR,_,hm,_,h'=>⟨[],rfl,by simp[CS],by simpa [qN]using Nz (by simpa [mt]using hm) h',by simp⟩
 | .bool _,x',v,AR,_,hm,_,h'=>⟨[],rfl,by simp[CS],by simpa [qN]using Nz (by simpa [mt]using hm) h',by simp⟩
 | .str _,x',v,AR,_,hm,_,h'=>⟨[],rfl,by simp[CS],by simpa [qN]using Nz (by simpa [mt]using hm) h',by simp⟩
 | .sl _ _ _,_,_,_,_,hm,_,_=>by simp[mt]at hm
 | .eU _ _ _,_,_,_,_,hm,_,_=>by simp[mt]at hm
 | .ptr _ _ _ _,_,_,_,_,hm,_,_=>by simp[mt]at hm
 | .gM _,_,_,_,_,hm,_,_=>by simp[mt]at hm
 | .fn _ _,_,_,_,_,hm,_,_=>by simp[mt]at hm
 | .undef,_,_,_,_,hm,_,_=>by simp[mt]at hm
 | .obj _ _,.sl .view _ _,_,_,_,hm,_,_=>by simp[mt]at hm
 | .obj _ _,.sl (.kH _) _ _,_,_,_,hm,_,_=>by simp[mt]at hm
 | .obj _ _,.int _ _,_,_,_,hm,_,_=>by simp[mt]at hm
 | .obj _ _,.bool _,_,_,_,hm,_,_=>by simp[mt]at hm
 | .obj _ _,.str _,_,_,_,hm,_,_=>by simp[mt]at hm
 | .obj _ _,.eU _ _ _,_,_,_,hm,_,_=>by simp[mt]at hm
 | .obj _ _,.obj _ _,_,_,_,hm,_,_=>by simp[mt]at hm
 | .obj _ _,.ptr _ _ _ _,_,_,_,hm,_,_=>by simp[mt]at hm
 | .obj _ _,.agg _,_,_,_,hm,_,_=>by simp[mt]at hm
 | .obj _ _,.gM _,_,_,_,hm,_,_=>by simp[mt]at hm
 | .obj _ _,.fn _ _,_,_,_,hm,_,_=>by simp[mt]at hm
 | .obj _ _,.undef,_,_,_,hm,_,_=>by simp[mt]at hm
 | .agg _,.sl _ _ _,_,_,_,hm,_,_=>by simp[mt]at hm
 | .agg _,.int _ _,_,_,_,hm,_,_=>by simp[mt]at hm
 | .agg _,.bool _,_,_,_,hm,_,_=>by simp[mt]at hm
 | .agg _,.str _,_,_,_,hm,_,_=>by simp[mt]at hm
 | .agg _,.eU _ _ _,_,_,_,hm,_,_=>by simp[mt]at hm
 | .agg _,.obj _ _,_,_,_,hm,_,_=>by simp[mt]at hm
 | .agg _,.ptr _ _ _ _,_,_,_,hm,_,_=>by simp[mt]at hm
 | .agg _,.gM _,_,_,_,hm,_,_=>by simp[mt]at hm
 | .agg _,.fn _ _,_,_,_,hm,_,_=>by simp[mt]at hm
 | .agg _,.undef,_,_,_,hm,_,_=>by simp[mt]at hm
theorem bn{P:Program}[aB P]{B:gN P}{s:AS}{G:List CO}{w w':World}:∀(c c':List AV) (cs:List Value) (AR:List Nat),nK s.o c=true->mtc s.o c c'=true->Rc w (env B s.o G w) c cs []->Rc w' mJ c' cs AR->
  ∃L:List Part,L.map (·.i)=kK c/\DY c c'=L.map (λp=>(p.i,p.rows))/\AR=qN L/\∀p∈L,aEl s.o G w' p
 |[],[],[],AR,_,_,_,h'=>by simp only[Rc]at h';exact⟨[],rfl,by simp[DY],by simp[h',qN],by simp⟩
 |[],[],_::_,_,_,_,h,_=>by simp[Rc]at h
 |[],_::_,_,_,_,hm,_,_=>by simp[mtc]at hm
 |_::_,[],_,_,_,hm,_,_=>by simp[mtc]at hm
 |_::_,_::_,[],_,_,_,h,_=>by simp[Rc]at h
 |x::xs,y::ys,c::cs,AR,ho,hm,h,h'=>by
  simp only[Rc]at h h';obtain⟨g1,g2,h1,h2,e⟩:=h;obtain⟨rfl,rfl⟩:g1=[]/\g2=[]:=by simpa using e
  obtain⟨f1,f2,h1',h2',rfl⟩:=h';simp only[nK,eI]at ho;simp only[mtc,eI]at hm;obtain⟨L1,a1,a2,rfl,a4⟩:=V9 x y c f1 ho.1 hm.1 h1 h1';obtain⟨L2,b1,b2,rfl,b4⟩:=bn xs ys cs f2 ho.2 hm.2 h2 h2';refine⟨L1++L2,by simp[kK,a1,b1],by simp[DY,a2,b2],by simp[qN],?_⟩;intro p hp;rcases eW.1 hp with hp|hp
  .exact a4 p hp
  .exact b4 p hp
end
def iU(u:List Nat):Tg->Option Tg
 | .own=>none
 | .view=>some .view
 | .kH i=>if i∈u then none else some (.kH i)
def AV.nd:AV->Bool
 | .int _ _=>true
 | .bool _=>true
 | .str _=>true
 | .sl .own _ _=>true
 | .obj _ _=>true
 | .ptr _ _ _ _=>true
 |_=>false
theorem aVb{w:World}{E:Env}{D:Nat->Nat->Prop}{x:AV}{v:Value}{fp:List Nat}(hx:x.nd=true)(h:R w E x v fp):R w {E with D:=D} x v fp:=by
 cases x with
 |int _ _=>simpa [R]using h
 |bool _=>simpa [R]using h
 |str _=>simpa [R]using h
 |sl g n l=>
  cases g with
  |own=>obtain⟨a,cap,hv,hown⟩:=pM.1 h;exact pM.2 ⟨a,cap,hv,hown⟩
  |_=>cases hx
 |obj _ _=>simp only[R]at h⊢;exact h
 |ptr _ _ _ _=>simp only[R]at h⊢;exact h
 |_=>cases hx
theorem aMs{w:World}{E:Env}{D:Nat->Nat->Prop}:∀{c:List AV} {cs:List Value} {fp:List Nat},c.all AV.nd=true->Rc w E c cs fp->Rc w {E with D:=D} c cs fp
 |[],[],_,_,h=>h
 |[],_::_,_,_,h=>by simp[Rc]at h
 |_::_,[],_,_,h=>by simp[Rc]at h
 |x::xs,c::cs,fp,hp,h=>by simp only[Rc]at h⊢;simp only[CC,eI]at hp;obtain⟨f1,f2,h1,h2,h3⟩:=h;exact⟨f1,f2,aVb hp.1 h1,aMs hp.2 h2,h3⟩
theorem aEm{w:World}{E:Env}{D:Nat->Nat->Prop}:∀{l:List (List AV)} {b off n:Nat} {fp:List Nat},(l.all λr=>r.all AV.nd)=true->Rr w E l b off n fp->Rr w {E with D:=D} l b off n fp
 |[],_,_,_,_,_,h=>h
 |e::es,b,off,n,fp,hp,h=>by simp only[Rr]at h⊢;simp only[CC,eI]at hp;obtain⟨cs,f1,f2,h1,h2,h3,h4,h5,h6⟩:=h;exact⟨cs,f1,f2,h1,h2,h3,aMs hp.1 h4,aEm hp.2 h5,h6⟩
def DD(l:List (List AV)):Bool:=l.all λr=>r.all AV.nd
theorem yh:DD []=true:=rfl
theorem bq(r:List AV)(l:List (List AV)):DD (r::l)=(r.all AV.nd&&DD l):=rfl
theorem yj{l:List (List AV)}{k:Nat}{r:List AV}(h:DD l=true)(hr:r.all AV.nd=true):DD (l.set k r)=true:=by
 unfold DD at*;rw[fR]at h⊢;intro x hx;rcases CM hx with hx|rfl
 .exact h x hx
 .exact hr
def aN.forget(ob:aN)(u:List Nat):aN:=
 if ob.box then(if DD ob.dO=true then ob else {ob with dO:=mX (iU u) true ob.dO})else ob
theorem nV(ob:aN)(u:List Nat):(ob.forget u).live=ob.live:=by unfold aN.forget;split<;>(try split)<;>rfl
theorem RZ(ob:aN)(u:List Nat):(ob.forget u).bU=ob.bU:=by unfold aN.forget;split<;>(try split)<;>rfl
theorem Sa(ob:aN)(u:List Nat):(ob.forget u).box=ob.box:=by unfold aN.forget;split<;>(try split)<;>rfl
theorem bu(ob:aN)(u:List Nat):(ob.forget u).n=ob.n:=by unfold aN.forget;split<;>(try split)<;>rfl
theorem Sb(ob:aN)(u:List Nat):(ob.forget u).dO.length=ob.dO.length:=by unfold aN.forget;split<;>(try split)<;>simp[mH]
def aN.aKd(ob:aN)(N:List (Nat×List (List AV)))(u:List Nat)(i:Nat):aN:=
 match N.find? (λp=>p.1 == i)with
 |some p=>{ob with dO:=p.2}
 |none=>ob.forget u
def Qk(N:List (Nat×List (List AV)))(u:List Nat):Nat->List aN->List aN
 |_,[]=>[]
 |i,ob::r=>ob.aKd N u i::Qk N u (i+1) r
theorem bz(N:List (Nat×List (List AV)))(u:List Nat):∀(o:List aN) (k i:Nat),(Qk N u k o)[i]? =(o[i]?).map λob=>ob.aKd N u (k+i)
 |[],_,_=>by simp[Qk]
 |ob::r,k,0=>by simp[Qk]
 |ob::r,k,i+1=>by simp only[Qk,At];rw[bz N u r (k+1) i,show k+1+i=k+(i+1)by omega]
def AS.QW(s:AS)(d:Option Tmp)(x x' r:AV):AS:=
 AS.put ⟨xO (iU (mE x)) true s.t,Qk (CS x x') (mE x) 0 s.o⟩ d r
def VR(L:List Part):Nat->List CO->List CO
 |_,[]=>[]
 |i,g::r=>(match L.find? (λp=>p.i == i)with
  |some p=>{g with F:=λb=>b∈p.fp}
  |none=>g)::VR L (i+1) r
theorem cu(L:List Part):∀(G:List CO) (k i:Nat),(VR L k G)[i]? =(G[i]?).map λg=>match L.find? (λp=>p.i == k+i)with
  |some p=>{g with F:=λb=>b∈p.fp}
  |none=>g
 |[],_,_=>by simp[VR]
 |g::r,k,0=>by simp[VR]
 |g::r,k,i+1=>by simp only[VR,At];rw[cu L r (k+1) i,show k+1+i=k+(i+1)by omega]
theorem Gp(L:List Part):∀(G:List CO) (k:Nat),(VR L k G).length=G.length
 |[],_=>rfl
 |g::r,k=>by simp[VR,Gp L r]
theorem Gq(N:List (Nat×List (List AV)))(u:List Nat):∀(o:List aN) (k:Nat),(Qk N u k o).length=o.length
 |[],_=>rfl
 |g::r,k=>by simp[Qk,Gq N u r]
theorem Sc{w w':World}{E E':Env}{x:AV}{v:Value}(hx:x.iF=true)(h:R w E x v []):R w' E' x v []:=by cases x<;>simp only[AV.iF]at hx<;>first|(cases hx;done)|(simp only[R]at h⊢;exact h)
@[simp] def AV.Sd:AV->Bool
 | .fn _ []=>true
 |x=>x.iF
theorem yl{w w':World}{E E':Env}{x:AV}{v:Value}(hx:x.Sd=true)(h:R w E x v []):R w' E' x v []:=by
 unfold AV.Sd at hx;split at hx
 .simp only[R]at h⊢;obtain⟨e,cs,h1,h2⟩:=h;exact⟨e,cs,h1,by cases cs<;>simp_all[Rc]⟩
 .exact Sc hx h
theorem QX{L:List Part}{b:Nat}:b∈qN L↔∃p∈L,b∈p.fp:=by simp[qN]
theorem WX:∀{L:List Part},(qN L).Nodup->∀p∈L,∀q∈L,∀b,b∈p.fp->b∈q.fp->p=q
 |[],_,p,hp,_,_,_,_,_=>by cases hp
 |x::L,h,p,hp0,q,W9,b,hbp,hbq=>by
  simp only[qN,DE,gO]at h;rcases gS.1 hp0 with e1|hp<;>rcases gS.1 W9 with e2|hq
  .rw [e1,e2]
  .exact absurd rfl (h.2.2 b (e1▸hbp) b (Fm.2 ⟨q,hq,hbq⟩))
  .exact absurd rfl (h.2.2 b (e2▸hbq) b (Fm.2 ⟨p,hp,hbp⟩))
  .exact WX h.2.1 p hp q hq b hbp hbq
theorem cz:∀{L:List Part},(qN L).Nodup->∀p∈L,p.fp.Nodup
 |[],_,p,hp=>by cases hp
 |x::L,h,p,hp=>by
  simp only[qN,DE,gO]at h;rcases gS.1 hp with rfl|hp
  .exact h.1
  .exact cz h.2.1 p hp
theorem aEn{o:List aN}{G:List CO}{L:List Part}{u:List Nat}{i:Nat}{fF:aN}{g':CO}(h:look (Qk (L.map λp=>(p.i,p.rows)) u 0 o) (VR L 0 G) i fF g'):
  ∃ob g,look o G i ob g/\((∃p∈L,p.i=i/\fF={ob with dO:=p.rows}/\g'={g with F:=λb=>b∈p.fp})\/
   ((∀p∈L,p.i≠i)/\fF=ob.forget u/\g'=g)):=by
 obtain⟨h1,h2⟩:=h;rw[bz,hY]at h1;rw[cu,hY]at h2;cases ho:o[i]? with
 |none=>simp[ho]at h1
 |some ob=>
  cases hg:G[i]? with
  |none=>simp[hg]at h2
  |some g=>
   rw[ho]at h1;rw[hg]at h2;simp only[mT,eE]at h1 h2;refine⟨ob,g,⟨ho,hg⟩,?_⟩;have hfm:(L.map λp=>(p.i,p.rows)).find? (λp=>p.1 == i)=(L.find? (λp=>p.i == i)).map λp=>(p.i,p.rows):=by rw[find?_map];rfl
   unfold aN.aKd at h1;rw[hfm]at h1;cases hf:L.find? (λp=>p.i == i)with
   |some p=>rw[hf]at h1 h2;left;exact⟨p,pB hf,by have:=Fk hf;simpa using this,h1.symm,h2.symm⟩
   |none=>rw[hf]at h1 h2;right;refine⟨λp hp e=> ?_,h1.symm,h2.symm⟩;have:=DP.1 hf p hp;simp[e]at this
theorem aEo{o:List aN}{G:List CO}{L:List Part}{u:List Nat}{i:Nat}{ob:aN}{g:CO}(h:look o G i ob g):
  ∃fF g',look (Qk (L.map λp=>(p.i,p.rows)) u 0 o) (VR L 0 G) i fF g':=by
 have h1:=(cH.1 h.1).1;have h2:=(cH.1 h.2).1;exact⟨_,_,aE (by rw[Gq];exact h1),aE (by rw[Gp];exact h2)⟩
theorem WY{w:World}{E E':Env}{s:AS}{a:Act}:∀ys:List Operand,(ys.all λy=>(s.ev y).Sd)=true->(∀y,R w E (s.ev y) (a.eval y) [])->Rc w E' (ys.map s.ev) (ys.map a.eval) []
 |[],_,_=>by simp[Rc]
 |y::ys,h,hr=>by simp only[CC,eI]at h;simp only[mB,Rc];exact⟨[],[],yl h.1 (hr y),WY ys h.2 hr,rfl⟩
theorem aEp(f x0:Operand)(ys:List Operand)(xx:Array TypeId){gf:FuncId}{x' r:AV}(hf:s.ev f= .fn gf [])(hc:bR P gf=true)(hy:(ys.all λy=>(s.ev y).Sd)=true)(hr:r.iF=true\/r= .gM [])(hx:jO s.o (s.ev x0)=true)(hu:(mE (s.ev x0)).Nodup)
  (hm:mt s.o (s.ev x0) x'=true) (nU:OkM P gf (res s.o (s.ev x0)) x' (ys.map s.ev) r):
  Step P B ⟨dst,.call {callee:= .value f,args:=⟨x0::ys⟩,argTypes:=xx},ty,pos,after,gd⟩ s (s.QW dst (s.ev x0) x' r):=by
 rintro a w next Q ⟨G,rr⟩ hn
 have h1:=rr.ev f;rw[hf]at h1;simp only[R]at h1;obtain⟨_,cs,hv,hcap⟩:=h1;have hcs:cs=[]:=by cases cs with
  |nil=>rfl
  |cons _ _=>simp[Rc]at hcap
 subst hcs;obtain⟨fp,jK,hnd,Pe⟩:=La rr _ _ hx hu (rr.ev x0);have hlt:∀b∈fp,b<w.heap.size:=λb hb=>by obtain⟨i,ob,g,_,hl,hlive,hF⟩:=Pe b hb;exact(rr.fresh _ _ _ b hl hlive hF).2
 have kB:eO w (env B s.o G w).plain w (sP w (· ∈fp)):=⟨λb hb=>⟨⟨xB rr hb,λhm=>by
   obtain⟨i,ob,g,_,hl,hlive,hF⟩:=Pe b hm;exact hb.2 i ob g hl hlive hF⟩,rfl⟩,λ_ _=>trivial,λ_ _ _ h=>h.elim,λ_ _ _ h=>h.elim,λ_ _ _ _ _ h=>h.elim⟩
 have hab:∀b∈fp,aB.low P<=b:=λb hb=>by obtain⟨i,ob,g,_,hl,hlive,hF⟩:=Pe b hb;exact rr.ZZ (rr.fresh _ _ _ b hl hlive hF).1
 have af:=nU w (a.eval x0) (ys.map a.eval) fp rr.holds hab (qK kB _ _ _ (λ_ _=>rfl) jK) hnd hlt (WY ys hy λy=>rr.ev y);unfold Oper.wp;have hrun:(execOp a.eval ⟨dst,.call {callee:= .value f,args:=⟨x0::ys⟩,argTypes:=xx},ty,pos,after,gd⟩).run P w= .ok (.enter gf (a.eval x0::ys.map a.eval).toArray) w:=by simp[execOp,resolve,hv,Deferred.ofValue,invoke,EH hc]
 rw[hrun,Oper.upon_enter];refine af.mono λe w' h=> ?_
 obtain⟨v,AR,rfl,hrr,hxr,hnd',hfr,hsz,oF,Gd⟩:=h;refine hn _ _ ?_;obtain⟨L,hLi,hN,rfl,hL⟩:=V9 (s.ev x0) x' _ AR hx hm (rr.ev x0) hxr;have hus:∀i,i∈mE (s.ev x0)↔∃p∈L,p.i=i:=λi=>by rw[<-hLi];simp
 unfold AS.QW;rw[hN];generalize huu:mE (s.ev x0)=u at*;generalize ho':Qk (L.map λp=>(p.i,p.rows)) u 0 s.o=o';generalize hG':VR L 0 G=G';have lk:∀{i fF g'},look o' G' i fF g'->∃ob g,look s.o G i ob g/\((∃p∈L,p.i=i/\fF={ob with dO:=p.rows}/\g'={g with F:=λb=>b∈p.fp})\/
   ((∀p∈L,p.i≠i)/\fF=ob.forget u/\g'=g)):=λh=>aEn (by rw[ho',hG'];exact h)
 have kl:∀{i ob g},look s.o G i ob g->∃fF g',look o' G' i fF g'/\fF.live=ob.live/\fF.bU=ob.bU/\fF.n=ob.n/\g'.a=g.a/\g'.cap=g.cap/\fF.dO.length=ob.dO.length/\((∀p∈L,p.i≠i)->g'=g)/\fF.box=ob.box:=by
  intro i ob g h;obtain⟨fF,g',h'⟩:=aEo (L:=L) (u:=u) h;rw[ho',hG']at h';refine⟨fF,g',h',?_⟩;obtain⟨ob2,g2,h2,hcase⟩:=lk h';obtain⟨rfl,rfl⟩:=lM h h2;rcases hcase with⟨p,hp,rfl,rfl,rfl⟩|⟨DT,rfl,rfl⟩
  .obtain ⟨ob3,g3,hl3,_,_,_,hlen⟩:=hL p hp;obtain⟨rfl,rfl⟩:=lM h hl3;exact⟨rfl,rfl,rfl,rfl,rfl,hlen,λhn=>absurd rfl (hn p hp),rfl⟩
  .exact ⟨nV _ _,RZ _ _,bu _ _,rfl,rfl,Sb _ _,λ_=>rfl,Sa _ _⟩
 have fpF:∀b∈fp,∀i ob g,look s.o G i ob g->ob.live=true->g.F b->i∈u:=λb hb i ob g hl hlive hF=>by obtain⟨j,oj,gj,hj,hlj,hjl,VC⟩:=Pe b hb;have:=rr.apart i j _ _ _ _ b hl hlj hlive hjl hF VC;rw[this];exact hj
 have Gr:∀i ob g b,look s.o G i ob g->ob.live=true->g.F b->i∉u->w'.heap[b]? =w.heap[b]?:=λi ob g b hl hlive hF hiu=>
  oF b (rr.fresh _ _ _ b hl hlive hF).2 (λhm=>hiu (fpF b hm i ob g hl hlive hF))
 have noU:∀i,i∉u->∀p∈L,p.i≠i:=λi hi p hp e=>hi ((hus i).2 ⟨p,hp,e⟩)
 let Er:Env:={env B s.o G w with D:=λi b=>i∉u/\(env B s.o G w).D i b}
 have rt1:nG (iU u) true (env B s.o G w) Er (λ_=>True):=by
  refine⟨λt e=>by simp[iU]at e,λt e=>by simp only[iU,eE]at e;exact⟨e.symm,λb hb=>hb⟩,λi t e=> ?_,λ_ _ _ _ h=>h,λ_ _ _ _ _ _ h=>h⟩;simp only[iU]at e;split at e
  .cases e
  .rename_i hiu;obtain rfl:=cQ e;refine⟨by simp,?_,λb hb=>⟨hiu,hb⟩⟩;by_cases hV:(env B s.o G w).V i
   .exact .inl hV
   .exact .inr hV
 have k2:eO w Er w' (env B o' G' w'):=by
  refine⟨λb hb=> ?_,λi h ob vZ=> ?_,λi b hV h=> ?_,λi bU x h=> ?_,λi bU j q x h=> ?_⟩
  .have hb':(env B s.o G w).A b:=hb;have hbl:=xB rr hb';have hnf:b∉fp:=λhm=>by
    obtain⟨i,ob,g,_,hl,hlive,hF⟩:=Pe b hm;exact hb'.2 i ob g hl hlive hF
   refine⟨⟨?_,λi fF g' hl hlive hF=> ?_⟩,oF b hbl hnf⟩
   .rcases hb'.1 with h|h
    .exact .inl h
    .exact .inr ⟨h.1,by omega⟩
   .obtain ⟨ob,g,hl0,⟨p,hp,_,rfl,rfl⟩|⟨_,rfl,rfl⟩⟩:=lk hl
    .have:=hfr b (QX.2 ⟨p,hp,hF⟩);rcases this.1 with h|h
     .exact hnf h
     .omega
    .refine hb'.2 i ob g' hl0 ?_ hF;rw[nV]at hlive;exact hlive
  .have hi:i<G.length:=by rw[rr.len];exact(cH.1 vZ).1
   obtain⟨fF,g',hl,h1,_⟩:=kl (i:=i) (ob:=ob) (g:=G[i]) ⟨vZ,aE hi⟩;rw[<-h1];exact h fF hl.1
  .obtain ⟨hiu,ob,g,hl,hlive,hF,hne⟩:=h;obtain⟨fF,g',CQ,h1,_,_,_,_,_,h7,_⟩:=kl hl;obtain rfl:=h7 (noU i hiu);exact⟨⟨fF,g',CQ,by rw[h1];exact hlive,hF,hne⟩,Gr i ob g' b hl hlive hF hiu⟩
  .obtain ⟨ob,g,hl,AU,hh,hz⟩:=h;obtain⟨fF,g',CQ,h1,h2,h3,h4,h5,h6,_⟩:=kl hl;exact⟨fF,g',CQ,by omega,λhlive VI=>by rw[h4,h5,h6];exact hh (by rw[<-h1];exact hlive) (by omega),hz⟩
  .obtain ⟨ob,g,hl,AU,hh,hz⟩:=h;obtain⟨fF,g',CQ,h1,h2,h3,h4,h5,h6,_,h8⟩:=kl hl;exact⟨fF,g',CQ,by omega,λhlive VI=>by rw[h4,h3];exact hh (by rw[<-h1];exact hlive) (by omega),λe e2 e3 e4 y hy=>⟨(hz (by rw[<-h8];exact e) e2 e3 e4 y hy).1,λhlive VI=>by rw[h5];exact(hz (by rw[<-h8];exact e) e2 e3 e4 y hy).2 (by rw[<-h1];exact hlive) (by omega)⟩⟩
 have tm:Rc w' (env B o' G' w') (xO (iU u) true s.t) a.tmps.toList []:=
  dU k2 _ _ _ (by simp) (yB rt1 _ _ _ (by simp) rr.tmps)
 have kn:eO w' mJ w' (env B o' G' w').plain:=⟨λ_ h=>h.elim,λ_ _=>trivial,λ_ _ _ h=>h.elim,λ_ _ _ h=>h.elim,λ_ _ _ _ _ h=>h.elim⟩;have rel:eB B ⟨xO (iU u) true s.t,o'⟩ G' a w':=by
  refine {len:=by rw[<-hG',<-ho',Gp,Gq];exact rr.len,defs:=rr.defs,ok:= ?_,apart:= ?_,fresh:= ?_,tmps:=tm,size:=lB rr.size hsz,frame:= ?_,base:=rr.base,same:=rr.same.trans Gd}
  .intro i fF g' hl hlive;obtain⟨ob,g,hl0,⟨p,hp,rfl,rfl,rfl⟩|⟨DT,rfl,rfl⟩⟩:=lk hl
   .obtain ⟨ob3,g3,hl3,_,Gh,hown,hlen⟩:=hL p hp;obtain⟨rfl,rfl⟩:=lM hl0 hl3;refine⟨p.fp,?_,cz hnd' p hp,λb hb=>hb⟩;simp only[Gh,Env.of,eS,hM];exact hown.keeps kn (λ_ _=>rfl)
   .have hiu:i∉u:=λh=>by
     obtain⟨p,hp,e⟩:=(hus i).1 h;exact DT p hp e
    rw[nV]at hlive;obtain⟨fpo,hown,JU,QV⟩:=rr.ok i ob g' hl0 hlive;by_cases Gh:ob.box=true
    .simp only[Gh,Env.of,gE]at hown;obtain⟨hlen,hown⟩:=hown;by_cases hall:DD ob.dO=true
     .have hfo:ob.forget u=ob:=by unfold aN.forget;simp[Gh,hall]
      rw[hfo];refine⟨fpo,?_,JU,QV⟩;simp only[Gh,Env.of,gE];refine⟨hlen,?_⟩;rcases hown with h|⟨b,off,C,e,fz,aEt,ha,hb,hz,h1,h2,h3,rfl,ym⟩
      .exact .inl h
      .have hbs:=Gr i ob g' b hl0 hlive (QV b (by simp)) hiu;exact .inr ⟨b,off,C,e,fz,aEt,ha,by rw[hbs];exact hb,hz,h1,h2,h3,rfl,mG k2 _ _ _ _ _ hbs (λx hx=>Gr i ob g' x hl0 hlive (QV x (by simp[hx])) hiu) (aEm hall ym)⟩
     .have hfo:ob.forget u={ob with dO:=mX (iU u) true ob.dO}:=by unfold aN.forget;rw[eK Gh,cY hall]
      rw[hfo];rcases hown with⟨h1,h2,h3⟩|⟨b,off,C,e,fz,aEt,ha,hb,hz,h1,h2,h3,rfl,ym⟩
      .exact ⟨[],⟨by simp[mH];exact hlen,.inl ⟨by simp[h1,mX],h2,rfl⟩⟩,by simp,by simp⟩
      .have WV:=QV b (by simp);have hbs:=Gr i ob g' b hl0 hlive WV hiu;refine⟨[b],⟨by simp[mH];exact hlen,.inr ⟨b,off,C,e,fz,[],ha,by rw[hbs];exact hb,hz,h1,by simpa [mH]using h2,h3,rfl,?_⟩⟩,by simp,by simpa using WV⟩;simp only[Gh,Env.of,gE];exact mG k2 _ _ _ _ _ hbs (by simp) (Jc rt1 _ _ _ _ _ (by simp) ym)
    .have aEu:ob.box=false:=by simpa using Gh
     have hfo:ob.forget u=ob:=by unfold aN.forget;simp[aEu]
     rw[hfo];refine⟨fpo,?_,JU,QV⟩;simp only[aEu,Env.of,eS,hM]at hown⊢;have kp:eO w (env B s.o G w).plain w' (env B o' G' w').plain:=k2.plain;exact hown.keeps kp (λb hb=>Gr i ob g' b hl0 hlive (QV b hb) hiu)
  .intro i j oi oj gi gj b hi hj hil hjl FH Ns;obtain⟨ob1,g1,hl1,c1⟩:=lk hi;obtain⟨ob2,g2,hl2,c2⟩:=lk hj;have lv:∀{k:Nat} {ob fF:aN} {g g':CO},((∀p∈L,p.i≠k)/\fF=ob.forget u/\g'=g)->fF.live=true->ob.live=true:=by rintro k ob fF g g' ⟨_,rfl,_⟩ h;rw[nV]at h;exact h
   rcases c1 with⟨p,hp,hpi,rfl,rfl⟩|c1<;>rcases c2 with⟨q,hq,hqi,rfl,rfl⟩|c2
   .have:=WX hnd' p hp q hq b FH Ns;rw[<-hpi,<-hqi,this]
   .exfalso;have aN8:=lv c2 hjl;have hF2:g2.F b:=by rw[<-c2.2.2];exact Ns
    rcases(hfr b (QX.2 ⟨p,hp,FH⟩)).1 with h|h
    .have:=fpF b h j ob2 g2 hl2 aN8 hF2;obtain⟨q,hq,e⟩:=(hus j).1 this;exact c2.1 q hq e
    .have:=(rr.fresh _ _ _ b hl2 aN8 hF2).2;omega
   .exfalso;have aN9:=lv c1 hil;have hF1:g1.F b:=by rw[<-c1.2.2];exact FH
    rcases(hfr b (QX.2 ⟨q,hq,Ns⟩)).1 with h|h
    .have:=fpF b h i ob1 g1 hl1 aN9 hF1;obtain⟨p,hp,e⟩:=(hus i).1 this;exact c1.1 p hp e
    .have:=(rr.fresh _ _ _ b hl1 aN9 hF1).2;omega
   .refine rr.apart i j _ _ _ _ b hl1 hl2 (lv c1 hil) (lv c2 hjl) ?_ ?_
    .rw [<-c1.2.2];exact FH
    .rw [<-c2.2.2];exact Ns
  .intro i fF g' b hl hlive hF;obtain⟨ob,g,hl0,⟨p,hp,rfl,rfl,rfl⟩|⟨DT,rfl,rfl⟩⟩:=lk hl
   .have:=hfr b (QX.2 ⟨p,hp,hF⟩);refine⟨?_,this.2⟩;rcases this.1 with h|h
    .obtain ⟨j,oj,gj,_,hlj,hjl,VC⟩:=Pe b h;exact(rr.fresh _ _ _ b hlj hjl VC).1
    .exact .inr (lB rr.size h)
   .have yD:ob.live=true:=by rw[nV]at hlive;exact hlive
    have:=rr.fresh _ _ _ b hl0 yD hF;exact⟨this.1,by omega⟩
  .intro b hb hO;rw[<-rr.frame b hb hO];refine oF b (nF hb rr.size) (λhm=> ?_);obtain⟨j,oj,gj,_,hlj,hjl,VC⟩:=Pe b hm;rcases(rr.fresh _ _ _ b hlj hjl VC).1 with h|h
   .exact hO h
   .omega
 exact⟨G',rel.put dst (by
  rcases hr with hr|rfl
  .exact Sc hr hrr
  .simp only[R]at hrr⊢;obtain⟨cs,e1,e2⟩:=hrr;cases cs with
   |nil=>exact⟨[],e1,by simp[Rc]⟩
   |cons c cs=>simp[Rc]at e2)⟩
inductive GA where
  | view (x:AV)
  | oN (x:AV)
  | uN (c c':List AV)
def RG(w:World)(O:Nat->Prop):GA->Value->List Nat->Nat->Prop
 | .view x,v,fp,_=>fp=[]/\R w (sP w O) x v []
 | .oN x,v,fp,_=>R w (sP w O) x v fp
 | .uN c _,v,fp,cap=>∃b f,v= .pointer (some ⟨b,f,none⟩)/\uU w (sP w O) c.length [c] (some ⟨b,f,none⟩) cap fp
def EJ(w:World)(O:Nat->Prop):List GA->List Value->List (List Nat)->List Nat->Prop
 |[],[],[],[]=>True
 |x::xs,v::vs,fp::fs,k::ks=>RG w O x v fp k/\EJ w O xs vs fs ks
 |_,_,_,_=>False
def RP(w:World):GA->Value->List Nat->Nat->Prop
 | .uN c c',v,fp,cap=>∃b f,v= .pointer (some ⟨b,f,none⟩)/\uU w mJ c.length [c'] (some ⟨b,f,none⟩) cap fp
 |_,_,fp,_=>fp=[]
def QY(w:World):List GA->List Value->List (List Nat)->List Nat->Prop
 |[],[],[],[]=>True
 |x::xs,v::vs,fp::fs,k::ks=>RP w x v fp k/\QY w xs vs fs ks
 |_,_,_,_=>False
def Lf(P:Program)[aB P](f:FuncId)(args:List GA)(r:AV):Prop:=
 ∀(w:World) (vs:List Value) (uK:List (List Nat)) (jA:List Nat),aB.holds P w->(∀b∈uK.flatten,aB.low P<=b/\b<w.heap.size)->uK.flatten.Nodup->EJ w (· ∈uK.flatten) args vs uK jA->
  Calls P f vs.toArray w λe w'=>∃v fp CP,e= .returned v/\R w' mJ r v fp/\QY w' args vs CP jA/\(CP.flatten++fp).Nodup/\
   (∀b∈CP.flatten++fp,(b∈uK.flatten\/w.heap.size<=b)/\b<w'.heap.size)/\w.heap.size<=w'.heap.size/\(∀b,b<w.heap.size->b∉uK.flatten->w'.heap[b]? =w.heap[b]?)/\mI w w'
mutual
def Sg(u:List Nat):AV->Bool
 | .obj i _=> !u.contains i
 | .ptr i _ _ _=> !u.contains i
 | .sl (.kH i) _ _=> !u.contains i
 | .eU (.kH i) _ _=> !u.contains i
 | .agg c=>Si u c
 | .gM c=>Si u c
 | .fn _ c=>Si u c
 |_=>true
def Si(u:List Nat):List AV->Bool
 |[]=>true
 |x::xs=>Sg u x&&Si u xs
end
section
variable{P:Program}[aB P]{B:gN P}{s:AS}{G:List CO}{a:Act}{w:World}
theorem df(r:eB B s G a w){Z:Nat->Prop}{u:List Nat}(hZ:∀b,Z b->Of s.o G u b){b:Nat}(h:(env B s.o G w).A b):b<w.heap.size/\¬Z b:=
 ⟨xB r h,λhz=>by
  obtain⟨i,ob,g,_,hl,hlive,hF⟩:=hZ b hz;exact h.2 i ob g hl hlive hF⟩
theorem X0(r:eB B s G a w){Z:Nat->Prop}{u:List Nat}(hZ:∀b,Z b->Of s.o G u b){i:Nat}{ob:aN}{g:CO}(hl:look s.o G i ob g)(hlive:ob.live=true)(hi:i∉u){b:Nat}(h:g.F b):b<w.heap.size/\¬Z b:=
 ⟨(r.fresh _ _ _ b hl hlive h).2,λhz=>by
  obtain⟨j,oj,gj,hj,hlj,hjl,hF⟩:=hZ b hz;exact hi (r.apart i j _ _ _ _ b hl hlj hlive hjl h hF▸hj)⟩
theorem NA(r:eB B s G a w){Z:Nat->Prop}{u:List Nat}(hZ:∀b,Z b->Of s.o G u b)(O:Nat->Prop)(hO:∀b,O b->b<w.heap.size/\¬Z b):nG (λ_=>some .view) false (env B s.o G w).plain (sP w Z) O where
 own t e:=by obtain rfl:=cQ e;exact⟨by simp,λb hb=>hO b hb⟩
 view t e:=by obtain rfl:=cQ e;exact⟨rfl,λb hb=>df r hZ hb⟩
 kH i t e:=by obtain rfl:=cQ e;exact⟨by simp,.inl trivial,λb hb=>hb.elim⟩
 hh h:=by cases h
 hl h:=by cases h
theorem dh(r:eB B s G a w){Z:Nat->Prop}{u:List Nat}(hZ:∀b,Z b->Of s.o G u b)(box:Bool)(O:Nat->Prop)(hO:∀b,O b->b<w.heap.size/\¬Z b):nG JQ false ((env B s.o G w).of box) (sP w Z) O where
 own t e:=by obtain rfl:=cQ e;exact⟨by simp,λb hb=>hO b hb⟩
 view t e:=by obtain rfl:=cQ e;exact⟨rfl,λb hb=>df r hZ (by cases box<;>exact hb)⟩
 kH i t e:=by cases e
 hh h:=by cases h
 hl h:=by cases h
theorem YG(r:eB B s G a w){Z:Nat->Prop}{u:List Nat}(hZ:∀b,Z b->Of s.o G u b)(g:Tg)(hg:∀i,g= .kH i->i∉u)(O:Nat->Prop)(hO:∀b,O b->b<w.heap.size/\¬Z b):nG (λ_=>some .view) false ((env B s.o G w).sub g) (sP w Z).plain O:=by
 cases g with
 |own=>exact NA r hZ O hO
 |view=>exact NA r hZ O hO
 |kH i=>exact
  {own:=λt e=>by obtain rfl:=cQ e;exact⟨by simp,λb hb=>hO b hb⟩
   view:=λt e=>by obtain rfl:=cQ e;exact⟨rfl,λb hb=>df r hZ hb⟩
   kH:=λj t e=>by obtain rfl:=cQ e;refine⟨by simp,.inl trivial,λb hb=> ?_⟩;obtain⟨rfl,ob,g,hl,hlive,hF,_⟩:=hb;exact X0 r hZ hl hlive (hg _ rfl) hF
   hh:=λh=>by cases h
   hl:=λh=>by cases h}
theorem yn(r:eB B s G a w){Z:Nat->Prop}{u:List Nat}(hZ:∀b,Z b->Of s.o G u b){g:Tg}(hg:∀i,g= .kH i->i∉u){b:Nat}(h:(env B s.o G w).tg g b):b<w.heap.size/\¬Z b:=by
 cases g with
 |own=>exact h.elim
 |view=>exact df r hZ h
 |kH i=>obtain⟨ob,g,hl,hlive,hF,_⟩:=h;exact X0 r hZ hl hlive (hg _ rfl) hF
theorem JW(r:eB B s G a w){Z:Nat->Prop}{u:List Nat}(hZ:∀b,Z b->Of s.o G u b){g:Tg}(hg:∀i,g= .kH i->i∉u){n:Nat}{l:List (List AV)}{v:Value}(hd:¬(env B s.o G w).dead g)(h:R w (env B s.o G w) (.sl g n l) v []):
  R w (sP w Z) (.sl .view n (mX (λ_=>some .view) false l)) v []:=by
 simp only[R,mH]at h⊢;rcases h with h|⟨x,cap,hv,hl,h⟩
 .exact absurd h.1 hd
 refine .inr ⟨x,cap,hv,hl,.inr (.inr ⟨by simp,trivial,?_⟩)⟩;rcases h with⟨_,rfl,_⟩|⟨_,b,off,C,ty,fz,qN,ha,hb,hz,h1,h2,h3,JI,hr⟩|⟨hg',_,h⟩
 .exact .inl rfl
 .cases JI
 .rcases h with rfl|⟨b,off,ha,ht,hr⟩
  .exact .inl rfl
  .exact .inr ⟨b,off,ha,yn r hZ hg ht,Jc (YG r hZ g hg (λ_=>False) (λ_ h=>h.elim)) _ _ _ _ _ (by simp) hr⟩
mutual
theorem aEv(r:eB B s G a w){Z:Nat->Prop}{u:List Nat}(hZ:∀b,Z b->Of s.o G u b):∀(av:AV) (v:Value),Sg u av=true->R w (env B s.o G w) av v []->R w (sP w Z) (arg s.o av) v []
 | .obj i bU,v,ha,h=>by
  have hiu:i∉u:=by simpa [Sg]using ha
  cases vZ:AV.isObj s.o i bU with
  |none=>simp[arg,vZ,R]
  |some ob=>
   simp only[arg,vZ];by_cases hb:ob.box=true
   .simp [hb,R]
   simp only[R]at h;obtain⟨_,fF,g,hl,_,hh,_⟩:=h;obtain⟨h1,h2,h3⟩:=lI vZ;obtain rfl:=cQ (hl.1.symm.trans h1);have hv:=hh h2 h3;obtain⟨fp,⟨hlen,hown⟩,hnd,hF⟩:=r.ok i _ g hl h2;have hb':fF.box=false:=by simpa using hb
   rw[hb']at hown;simp only[hb',eS,hM];simp only[R,mH];refine .inr ⟨g.a,g.cap,hv,⟨hlen,by rcases hown with h|⟨_,_,_,_,_,_,_,_,_,_,h,_⟩;simp[h.1];exact h⟩,.inr (.inr ⟨by simp,trivial,?_⟩)⟩;rcases hown with⟨h5,_⟩|⟨b,off,C,e,fz,qN,ha,hbk,hz,k1,k2,k3,rfl,hr⟩
   .left;rw[h5];rfl
   .right;have hlt:∀x∈b::qN,x<w.heap.size/\¬Z x:=λx hx=>X0 r hZ hl h2 hiu (hF x hx)
    exact⟨b,off,ha,hlt b (by simp),Jc (NA r hZ (λx=>x<w.heap.size/\¬Z x) (λ_ h=>h)) _ _ _ _ qN (λx hx=>hlt x (by simp[hx])) hr⟩
 | .ptr i bU idx off,v,ha,h=>by
  have hiu:i∉u:=by simpa [Sg]using ha
  cases vZ:AV.isObj s.o i bU with
  |none=>simp[arg,vZ,R]
  |some ob=>
   simp only[arg,vZ];cases he:ob.dO[idx]? with
   |none=>simp[R]
   |some e=>
    simp only[R]at h⊢;obtain⟨_,fF,g,hl,_,hh,_⟩:=h;obtain⟨h1,h2,h3⟩:=lI vZ;obtain rfl:=cQ (hl.1.symm.trans h1);obtain⟨b,f,ha,hv⟩:=hh h2 h3;obtain⟨fp,⟨_,hown⟩,hnd,hF⟩:=r.ok i _ g hl h2;have hlt:∀x∈fp,x<w.heap.size/\¬Z x:=λx hx=>X0 r hZ hl h2 hiu (hF x hx)
    rcases hown with⟨h5,_⟩|⟨b',f',C,ty,fz,qN,wW,hbk,hz,k1,k2,k3,rfl,hr⟩
    .rw [h5]at he;simp at he
    .rw [ha]at wW;simp only[eE,pN,sY]at wW;obtain⟨rfl,rfl⟩:=wW;obtain⟨f1,f2,f3,cs,rfl,hn,hc,hone,wL,_,_⟩:=AX hr he;refine .inr ⟨trivial,b,f+idx*fF.n,cs,?_,hlt b (by simp),hc,hone,?_⟩
     .rw [hv,oR]
     .have:=yB (dh r hZ fF.box (λx=>x<w.heap.size/\¬Z x) (λ_ h=>h)) e cs f2 (λx hx=>hlt x (by simp[hx])) wL;exact dU (w:=w) (w':=w) (E:=sP w Z) (E':=(sP w Z).sub .view) ⟨λ_ h=>⟨h,rfl⟩,λ_ _=>trivial,λ_ _ _ h=>h.elim,λ_ _ _ h=>h.elim,λ_ _ _ _ _ h=>h.elim⟩ _ _ _ (by simp) this
 | .agg c,v,ha,h=>by simp only[R,arg]at h⊢;obtain⟨cs,hv,hone,hr⟩:=h;exact⟨cs,hv,hone,QZ r hZ c cs (by simpa [Sg]using ha) hr⟩
 | .gM c,v,ha,h=>by simp only[R,arg]at h⊢;obtain⟨cs,hv,hr⟩:=h;exact⟨cs,hv,QZ r hZ c cs (by simpa [Sg]using ha) hr⟩
 | .fn f c,v,ha,h=>by simp only[R,arg]at h⊢;obtain⟨h1,cs,hv,hr⟩:=h;exact⟨trivial,cs,hv,QZ r hZ c cs (by simpa [Sg]using ha) hr⟩
 | .int k n,v,_,h=>by simpa [arg,R]using h
 | .bool b,v,_,h=>by simpa [arg,R]using h
 | .str x,v,_,h=>by simpa [arg,R]using h
 | .sl .own n l,v,_,h=>by simp only[arg];exact JW r hZ (g:= .own) (by simp) (λh=>h) h
 | .sl .view n l,v,_,h=>by simp only[arg];exact JW r hZ (g:= .view) (by simp) (λh=>h) h
 | .sl (.kH i) n l,v,ha,h=>by
  have hiu:i∉u:=by simpa [Sg]using ha
  simp only[arg];cases ho:s.o[i]? with
  |none=>simp[R]
  |some ob=>
   simp only;by_cases hlive:ob.live=true
   .rw [eK hlive];exact JW r hZ (g:= .kH i) (by simpa using hiu) (λhd=>hd (λfF xY=>by rw[ho]at xY;obtain rfl:=cQ xY;exact hlive)) h
   .rw [cY hlive];simp[R]
 | .eU .own c off,v,_,h=>by
  simp only[R]at h;rcases h with h|⟨_,b,o,cs,hv,ht,_⟩
  .exact h.1.elim
  .exact ht.elim
 | .eU .view c off,v,_,h=>by
  simp only[arg];simp only[R]at h⊢;rcases h with h|⟨_,b,o,cs,hv,ht,hcs,hone,hr⟩
  .exact h.1.elim
  .exact .inr ⟨trivial,b,o,cs,hv,yn r hZ (g:= .view) (by simp) ht,hcs,hone,yB (YG r hZ .view (by simp) (λ_=>False) (λ_ h=>h.elim)) _ _ _ (by simp) hr⟩
 | .eU (.kH i) c off,v,ha,h=>by
  have hiu:i∉u:=by simpa [Sg]using ha
  simp only[arg];cases ho:s.o[i]? with
  |none=>simp[R]
  |some ob=>
   simp only;by_cases hlive:ob.live=true
   .rw [eK hlive];simp only[R]at h⊢;rcases h with h|⟨_,b,o,cs,hv,ht,hcs,hone,hr⟩
    .exact absurd (λfF xY=>by rw[ho]at xY;obtain rfl:=cQ xY;exact hlive) h.1
    .exact .inr ⟨trivial,b,o,cs,hv,yn r hZ (g:= .kH i) (by simpa using hiu) ht,hcs,hone,yB (YG r hZ (.kH i) (by simpa using hiu) (λ_=>False) (λ_ h=>h.elim)) _ _ _ (by simp) hr⟩
   .rw [cY hlive];simp[R]
 | .undef,v,_,_=>by simp[arg,R]
theorem QZ(r:eB B s G a w){Z:Nat->Prop}{u:List Nat}(hZ:∀b,Z b->Of s.o G u b):∀(c:List AV) (cs:List Value),Si u c=true->Rc w (env B s.o G w) c cs []->Rc w (sP w Z) (CK s.o c) cs []
 |[],[],_,_=>by simp[CK,Rc]
 |[],_::_,_,h=>by simp[Rc]at h
 |_::_,[],_,h=>by simp[Rc]at h
 |x::xs,c::cs,ha,h=>by
  simp only[Rc]at h;simp only[Si,eI]at ha;obtain⟨f1,f2,h1,h2,e⟩:=h;obtain⟨rfl,rfl⟩:f1=[]/\f2=[]:=by simpa using e
  simp only[CK,Rc];exact⟨[],[],aEv r hZ x c ha.1 h1,QZ r hZ xs cs ha.2 h2,rfl⟩
end
mutual
theorem yo(r:eB B s G a w){k:Nat}{ok:aN}{gk:CO}(hlk:look s.o G k ok gk)(hk:ok.live=true):∀(av:AV) (v:Value) (fp:List Nat),jO s.o av=true->(mE av).Nodup->k∉mE av->fp.Nodup->(∀b∈fp,gk.F b)->R w (env B s.o G w) av v fp->
  ∃AR,R w (env B s.o G w).plain (res s.o av) v AR/\AR.Nodup/\∀b∈AR,b∈fp\/Of s.o G (mE av) b
 | .obj i bU,v,fp,ho,hu,_,_,_,h=>by
  have hf:fp=[]:=by simp only[R]at h;exact h.1
  subst hf;obtain⟨AR,h1,h2,h3⟩:=La r _ v ho hu h;exact⟨AR,h1,h2,λb hb=> .inr (h3 b hb)⟩
 | .agg c,v,fp,ho,hu,hku,hn,hF,h=>by simp only[R]at h;obtain⟨cs,rfl,hone,hr⟩:=h;obtain⟨AR,h1,h2,h3⟩:=Lg r hlk hk c cs fp (by simpa [jO]using ho) (by simpa [mE]using hu) (by simpa [mE]using hku) hn hF hr;exact⟨AR,by simp only[res,R];exact⟨cs,rfl,hone,h1⟩,h2,by simpa [mE]using h3⟩
 | .gM c,v,fp,ho,hu,hku,hn,hF,h=>by simp only[R]at h;obtain⟨cs,rfl,hr⟩:=h;obtain⟨AR,h1,h2,h3⟩:=Lg r hlk hk c cs fp (by simpa [jO]using ho) (by simpa [mE]using hu) (by simpa [mE]using hku) hn hF hr;exact⟨AR,by simp only[res,R];exact⟨cs,rfl,h1⟩,h2,by simpa [mE]using h3⟩
 | .int k n,v,fp,_,_,_,hn,_,h=>⟨fp,by simpa [res,R]using h,hn,λb hb=> .inl hb⟩
 | .bool b,v,fp,_,_,_,hn,_,h=>⟨fp,by simpa [res,R]using h,hn,λb hb=> .inl hb⟩
 | .str x,v,fp,_,_,_,hn,_,h=>⟨fp,by simpa [res,R]using h,hn,λb hb=> .inl hb⟩
 | .sl .own n l,v,fp,_,_,_,hn,_,h=>⟨fp,by simp only[res];rw[pM]at h⊢;exact h,hn,λb hb=> .inl hb⟩
 | .sl .view n l,v,fp,_,_,_,hn,_,h=>⟨fp,by simp only[res,R]at h⊢;exact h,hn,λb hb=> .inl hb⟩
 | .sl (.kH i) n l,v,fp,ho,_,_,_,_,h=>by simp[jO]at ho
 | .eU .view c off,v,fp,_,_,_,hn,_,h=>⟨fp,by simp only[res,R]at h⊢;exact h,hn,λb hb=> .inl hb⟩
 | .eU .own c off,v,fp,ho,_,_,_,_,h=>by simp[jO]at ho
 | .eU (.kH _) c off,v,fp,ho,_,_,_,_,h=>by simp[jO]at ho
 | .ptr _ _ _ _,v,fp,ho,_,_,_,_,h=>by simp[jO]at ho
 | .fn f [],v,fp,_,_,_,hn,_,h=>⟨fp,by simp only[res,R]at h⊢;obtain⟨h1,cs,h2,h3⟩:=h;refine⟨h1,cs,h2,?_⟩;cases cs<;>simp_all[Rc],hn,λb hb=> .inl hb⟩
 | .fn f (_::_),v,fp,ho,_,_,_,_,h=>by simp[jO]at ho
 | .undef,v,fp,_,_,_,hn,_,h=>⟨fp,by simpa [res,R]using h,hn,λb hb=> .inl hb⟩
theorem Lg(r:eB B s G a w){k:Nat}{ok:aN}{gk:CO}(hlk:look s.o G k ok gk)(hk:ok.live=true):∀(c:List AV) (cs:List Value) (fp:List Nat),nK s.o c=true->(kK c).Nodup->k∉kK c->fp.Nodup->(∀b∈fp,gk.F b)->Rc w (env B s.o G w) c cs fp->
  ∃AR,Rc w (env B s.o G w).plain (vD s.o c) cs AR/\AR.Nodup/\∀b∈AR,b∈fp\/Of s.o G (kK c) b
 |[],[],fp,_,_,_,hn,_,h=>⟨fp,by simpa [vD,Rc]using h,hn,λb hb=> .inl hb⟩
 |[],_::_,_,_,_,_,_,_,h=>by simp[Rc]at h
 |_::_,[],_,_,_,_,_,_,h=>by simp[Rc]at h
 |x::xs,c::cs,fp,ho,hu,hku,hn,hF,h=>by
  simp only[Rc]at h;obtain⟨g1,g2,h1,h2,rfl⟩:=h;simp only[nK,eI]at ho;simp only[kK,gO]at hu;simp only[kK,eW,not_or]at hku;have hn':=gO.1 hn;obtain⟨f1,k1,n1,o1⟩:=yo r hlk hk x c g1 ho.1 hu.1 hku.1 hn'.1 (λb hb=>hF b (oE _ hb)) h1;obtain⟨f2,k2,n2,o2⟩:=Lg r hlk hk xs cs g2 ho.2 hu.2.1 hku.2 hn'.2.1 (λb hb=>hF b (tG _ hb)) h2;have aR5:∀(u:List Nat) (b:Nat),k∉u->gk.F b->Of s.o G u b->False:=by rintro u b hku hFb ⟨i,ob,g,hi,hl,hlive,hF'⟩;exact hku (r.apart k i _ _ _ _ b hlk hl hk hlive hFb hF'▸hi)
  refine⟨f1++f2,by simp only[vD,Rc];exact⟨f1,f2,k1,k2,rfl⟩,?_,?_⟩
  .refine gO.2 ⟨n1,n2,λb hb b' hb' e=> ?_⟩
   subst e;rcases o1 b hb with p1|p1<;>rcases o2 b hb' with p2|p2
   .exact hn'.2.2 b p1 b p2 rfl
   .exact aR5 _ b hku.2 (hF b (oE _ p1)) p2
   .exact aR5 _ b hku.1 (hF b (tG _ p2)) p1
   .obtain ⟨i,ob,g,hi,hl,hlive,hF1⟩:=p1;obtain⟨j,fF,g',hj,CQ,yD,hF2⟩:=p2;exact hu.2.2 i hi j hj (r.apart i j _ _ _ _ b hl CQ hlive yD hF1 hF2)
  .intro b hb;rcases eW.1 hb with hb|hb
   .rcases o1 b hb with h|⟨i,ob,g,hi,h⟩
    .exact .inl (oE _ h)
    .exact .inr ⟨i,ob,g,by simp[kK,hi],h⟩
   .rcases o2 b hb with h|⟨i,ob,g,hi,h⟩
    .exact .inl (tG _ h)
    .exact .inr ⟨i,ob,g,by simp[kK,hi],h⟩
end
end
def dK(l:List UInt8):List (List AV):=l.map λc=>[.int .u8 c.toNat]
theorem nL(l:List UInt8):(dK l).length=l.length:=mL _
theorem di{w:World}{E:Env}{b:Nat}:∀(l:List UInt8) (off:Nat),(∀(j:Nat) (c:UInt8),l[j]? =some c->w.cell? ⟨b,off+j,none⟩=some (.int .u8 c.toNat))->Rr w E (dK l) b off 1 []
 |[],_,_=>by simp[dK,Rr]
 |c::l,off,h=>by
  simp only[dK,mB,Rr];refine⟨[.int .u8 c.toNat],[],[],rfl,λj v hv=> ?_,by simp[Value.oneCell'],by simp[Rc,R],di l (off+1) (λj c' hc=> ?_),rfl⟩
  .cases j with
   |zero=>simp only[tE,eE]at hv;subst hv;exact h 0 c rfl
   |succ j=>simp at hv
  .have:=h (j+1) c' (by simpa using hc)
   rwa[show off+1+j=off+(j+1)by omega]
theorem yw(src d:TypeId)(x:Operand){l:List UInt8}{e:TypeId}{by':Nat}(hx:s.ev x= .str l)(hs:isString P src=true)(hd:nC P d=some (e,1,by'))(he:intType P e=some .u8)(hl:l.length<=9223372036854775807):
  Step P B ⟨dst,.convert src d x,ty,pos,after,gd⟩ s (s.made dst 1 (dK l)):=
 sO λG a w r=>by
  obtain⟨hu,_⟩:=rR hd;have hue:P.underlying e=some (.int .u8):=by
   unfold intType at he;split at he
   .rename_i k hk;rw[hk];simpa using he
   .cases he
  have hrun:=Lib.run_convert_string_bytes w src d e ⟨l.toArray⟩ (pQ hs) hu hue;have hsz:(⟨l.toArray⟩:ByteArray).size=l.length:=by simp[ByteArray.size]
  rw[hsz]at hrun;have hge:l.length<=grownCap w l.length 0 e:=grownCap_ge _ _ _ _;have hle:grownCap w l.length 0 e<=maxLen:=EV _ _ _ _ (by simpa [maxLen]using hl);have hnew:=Lib.bytesWorld_at_new w e ⟨l.toArray⟩;have hbs:=Lib.bytesWorld_size w e ⟨l.toArray⟩;have hold:=Lib.bytesWorld_at_old w e ⟨l.toArray⟩;have hC:Lib.bytesCells w e ⟨l.toArray⟩=(l.map λc=>Value.int .u8 c.toNat).toArray++Array.replicate (grownCap w l.length 0 e-l.length) (.int .u8 0):=by simp[Lib.bytesCells,hsz]
  have hCs:(Lib.bytesCells w e ⟨l.toArray⟩).size=grownCap w l.length 0 e:=by rw[hC];simp;omega
  have hsm:mI w (Lib.bytesWorld w e ⟨l.toArray⟩):=⟨rfl,rfl,rfl⟩;generalize hcap:grownCap w l.length 0 e=cap at*;generalize hw:Lib.bytesWorld w e ⟨l.toArray⟩=w' at*;have hadd:=r.add [⟨true,false,1,1,dK l⟩] [⟨some ⟨w.heap.size,0,none⟩,cap,λb=>b=w.heap.size⟩] w' rfl (by omega) (λb hb=>hold b hb)
   (by
    rintro j ob g b ⟨h1,h2⟩ _ hf;cases j with
    |zero=>simp at h2;subst h2;simp at hf;subst hf;omega
    |succ j=>simp at h2)
   (by
    rintro i j _ _ _ _ b ⟨h1,_⟩ ⟨h2,_⟩ _ _ _ _;cases i<;>cases j<;>simp_all)
   (by
    rintro k j ob g ⟨h1,h2⟩ _;cases j with
    |zero=>
     simp at h1 h2;subst h1;subst h2;refine⟨[w.heap.size],⟨by simp only[nL];exact lB hge hle,.inr ⟨w.heap.size,0,_,e,_,[],rfl,hnew,.inl ⟨eC _,rfl⟩,by show 0+cap*1<=_;rw[hCs];omega,by simp only[nL];exact hge,hle,rfl,?_⟩⟩,by simp,by simp⟩;refine di l 0 λj c hc=> ?_
     have hj:=(cH.1 hc).1;have h3:(Lib.bytesCells w e ⟨l.toArray⟩)[j]? =some (.int .u8 c.toNat):=by rw[hC,rN (by simpa using hj)];simp[hc]
     simp only[World.cell?,hnew,hY];exact h3
    |succ j=>simp at h1)
   hsm
  refine⟨.slice (some ⟨w.heap.size,0,none⟩) l.length cap,w',by simp only[execOp,r.au hx,oS,hrun,lP,tB],_,hadd.1.put dst ?_⟩;simp only[R];refine⟨trivial,⟨true,false,1,1,dK l⟩,⟨some ⟨w.heap.size,0,none⟩,cap,λb=>b=w.heap.size⟩,?_,eC _,⟨λ_ _=>by simp[nL],λh=>by omega⟩⟩;have:=qB (i:=0) (o:=s.o) (G:=G) (o2:=[⟨true,false,1,1,dK l⟩]) (G2:=[⟨some ⟨w.heap.size,0,none⟩,cap,λb=>b=w.heap.size⟩]) r.len ⟨rfl,rfl⟩;simpa using this
end
end Go.Aw
