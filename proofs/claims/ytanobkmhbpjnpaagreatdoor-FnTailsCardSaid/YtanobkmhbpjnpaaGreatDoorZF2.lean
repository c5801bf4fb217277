/- Steps. No condition. -/
import Derived.Test.YtanobkmhbpjnpaaGreatDoorZF1
import Derived.Lib.ConvBytes
set_option linter.all false
namespace Go.Aw
open List
def AV.Pv:AV->Bool
 | .aB=>false
 | .iL _=>false
 | .agg _=>false
 | .obj _ _=>false
 | .ptr _ _ _ _=>false
 | .sl (.mQ _) _ _=>false
 | .iW (.mQ _) _ _=>false
 | .fn _ (_::_)=>false
 |_=>true
def aKu{w:World}{E E':Env}(hA:∀b,E.A b->E'.A b){x:AV}{v:Value}(hs:x.Pv=true)(h:R w E x v []):R w E' x v []:=by
 cases x with
 |int _ _=>simpa [R]using h
 |bool _=>simpa [R]using h
 |str _=>simpa [R]using h
 |sl g n l=>
  cases g with
  |own=>
   rw[vU]at h⊢;obtain⟨a,cap,hv,hl,h⟩:=h;refine⟨a,cap,hv,hl,.inl ?_⟩;rcases h with h|⟨_,_,_,_,_,_,_,_,_,_,_,_,hf,_⟩
   .exact h
   .cases hf
  |view=>refine oV (w:=w) (E:=E.plain) (E':=E') ⟨λb h=>⟨hA b h,rfl⟩,λ_ _=>trivial,λ_ _ _ h=>h.elim,λ_ _ _ h=>h.elim,λ_ _ _ _ _ h=>h.elim⟩ _ _ _ (by simp) ?_;simp only[R]at h⊢;exact h
  |mQ i=>cases hs
 |iW g c off=>
  cases g with
  |own=>simp only[R]at h;rcases h with h|⟨_,_,_,_,_,h,_⟩;exact h.1.elim;exact h.elim
  |view=>refine oV (w:=w) (E:=E.plain) (E':=E') ⟨λb h=>⟨hA b h,rfl⟩,λ_ _=>trivial,λ_ _ _ h=>h.elim,λ_ _ _ h=>h.elim,λ_ _ _ _ _ h=>h.elim⟩ _ _ _ (by simp) ?_;simp only[R]at h⊢;exact h
  |mQ i=>cases hs
 |obj _ _=>cases hs
 |ptr _ _ _ _=>cases hs
 |agg _=>cases hs
 |iL _=>cases hs
 |fn f c=>
  cases c with
  |nil=>simp only[R]at h⊢;obtain⟨h1,cs,h2,h3⟩:=h;refine⟨trivial,cs,h2,?_⟩;cases cs<;>simp_all[Rc]
  |cons _ _=>cases hs
 |aB=>cases hs
def ZQ{w:World}{E E':Env}(hA:∀b,E.A b->E'.A b):∀{c:List AV} {cs:List Value},c.all AV.Pv=true->Rc w E c cs []->Rc w E' c cs []
 |[],[],_,_=>by simp[Rc]
 |[],_::_,_,h=>by simp[Rc]at h
 |_::_,[],_,h=>by simp[Rc]at h
 |x::xs,c::cs,hs,h=>by
  simp only[Rc]at h⊢;simp only[Cl,eK]at hs;obtain⟨f1,f2,h1,h2,e⟩:=h;obtain⟨rfl,rfl⟩:f1=[]/\f2=[]:=by simpa using e
  exact⟨[],[],aKu hA hs.1 h1,ZQ hA hs.2 h2,rfl⟩
section
variable{P:Program}[aG P]{B:gL P}{s:AS}{dst:Option Tmp}{ty:TypeId}{pos:String}{after:Array Edge}{gd:Option (Nat × Bool)}
def AS.stored(s:AS)(i idx off:Nat)(ob:aI)(e c:List AV):AS:=⟨s.t,s.o.set i {ob with fM:=ob.fM.set idx (e.take off++c++e.drop (off+c.length))}⟩
def fZ.stored{G:List CO}{a:Act}{w:World}(r:fZ B s G a w){i idx off:Nat}{ob:aI}{g:CO}{e c:List AV}{vs:List Value}(hl:Aw.look s.o G i ob g)(aY:ob.fT=true)(he:ob.fM[idx]? =some e)
  (hfit:off+c.length<=e.length) (xL:ob.box=true\/c.all AV.Pv=true) (hone:∀x∈vs,x.oneCell'=true) (hr:Rc w (env B s.o G w) c vs []):
  ∃b f,g.a=some ⟨b,f,none⟩/\(storeCells ⟨b,f+(idx*ob.n+off),none⟩ vs).run P w= .ok () (w.setCells b (f+(idx*ob.n+off)) vs)/\
   fZ B (s.stored i idx off ob e c) (G.set i g) a (w.setCells b (f+(idx*ob.n+off)) vs):=by
 obtain⟨fp,eQ,hnd,hF⟩:=r.ok i ob g hl aY;have hvl:=iY hr;rcases eQ with⟨dF,⟨h,_⟩|⟨b,f,C,ty,fz,sH,ha,hb,hz,h1,h2,h3,rfl,QF⟩⟩
 .rw [h]at he;simp at he
 obtain⟨f1,f2,f3,cs,hfe,hn,hc,ZR,wK,hr1,hr3⟩:=Cy QF he;have IU:=iY wK;have aPg:idx<ob.fM.length:=(cU.1 he).1;have hmul:(idx+1)*ob.n<=g.cap*ob.n:=mB _ (by omega);have ZJ:(idx+1)*ob.n=idx*ob.n+ob.n:=by rw[rK];omega
 have aE0:f+(idx*ob.n+off)+vs.length<=C.size:=by omega
 refine⟨b,f,ha,vW hb hz aE0 hone,?_⟩;have Gj:g.F b:=hF b (by simp);have Fs:∀b',b'≠b->(w.setCells b (f+(idx*ob.n+off)) vs).heap[b']? =w.heap[b']?:=λb' jE=>oC b b' jE _ _ _
 obtain⟨C',hC',hCs⟩:=mE b ty fz vs (f+(idx*ob.n+off)) w C hb;have hm:=r.modify hl aY {ob with fM:=ob.fM.set idx (e.take off++c++e.drop (off+c.length))} g (w.setCells b (f+(idx*ob.n+off)) vs) (eJ _) rfl (λ_=>⟨rfl,rfl,by simp⟩) (λb hb=> .inl hb) (λb hb jE=>⟨hb,jE⟩)
  (λb' hlt jE=>Fs b' (λe=>jE ⟨e▸Gj,⟨b,f,none⟩,ha,e⟩)) (by rw[jR];exact eJ _) (λk _=>by
  generalize env B (s.o.set i {ob with fM:=ob.fM.set idx (e.take off++c++e.drop (off+c.length))}) (G.set i g) (w.setCells b (f+(idx*ob.n+off)) vs)=E' at k⊢;have kb:=k.of ob.box;obtain⟨g1,g2,rfl,hc1,LH⟩:=vV off wK;obtain⟨g3,g4,rfl,hc3,hc4⟩:=vV c.length LH;have hc':Rc w ((env B s.o G w).of ob.box) c vs []:=by
   cases hbx:ob.box with
   |true=>exact hr
   |false=>
    rcases xL with h|h
    .rw [hbx]at h;cases h
    .exact ZQ (E:=env B s.o G w) (E':=(env B s.o G w).of false) (λb hb=>hb) h hr
  subst hfe;have hsub:(f1++(g1++g4)++f3).Sublist (f1++(g1++(g3++g4))++f3):=((tP f1).append ((tP g1).append (sublist_append_right g3 g4))).append (tP f3);have hbn:b∉f1++(g1++(g3++g4))++f3:=(nF.1 hnd).1;have hold:∀x∈f1++(g1++g4)++f3,(w.setCells b (f+(idx*ob.n+off)) vs).heap[x]? =w.heap[x]?:=λx hx=>Fs x (λe=>hbn (hsub.subset (e▸hx)))
  have EG:∀j,j<f+(idx*ob.n+off)\/f+(idx*ob.n+off)+vs.length<=j->(w.setCells b (f+(idx*ob.n+off)) vs).cell? ⟨b,j,none⟩=w.cell? ⟨b,j,none⟩:=λj hj=>CD b vs _ w _ (λ_ _=>hj)
  have hti:(ob.fM.take idx).length=idx:=by simp;omega
  refine⟨b::(f1++(g1++g4)++f3),⟨by simpa using dF,.inr ⟨b,f,C',ty,fz,_,ha,hC',by rw[hCs];exact hz,by rw[hCs];exact h1,by simpa using h2,h3,rfl,?_⟩⟩,?_,?_⟩
  .show Rr _ _ (ob.fM.set idx _) b f ob.n _;refine ZL (cs:=cs.take off++vs++cs.drop (off+vs.length)) aPg ?_ ?_ ?_ ?_ ?_ ?_
   .simp only[eR,pL,AN];omega
   .have hc1:dB w b (f+idx*ob.n) cs:=hc;have htl:(cs.take off).length=off:=by simp;omega
    refine dB.append.2 ⟨dB.append.2 ⟨?_,?_⟩,?_⟩
    .intro j v hv;have hj:=(cU.1 hv).1;rw[htl]at hj;rw[EG _ (by omega)];exact hc1.take j v hv
    .intro j v hv;have hj:j<vs.length:=(cU.1 hv).1;rw[htl,pH f];have:=CT b vs (f+(idx*ob.n+off)) w (λj hj=>by
      have:f+(idx*ob.n+off)+j<C.size:=by omega
      simp[World.cell?,hb,this]) j hj
     rw[this];rw[aE hj]at hv;exact hv
    .intro j v hv;simp only[eR,htl];rw[EG _ (by omega)];have:=hc1.drop (k:=off+vs.length) j v hv
     rwa[show f+idx*ob.n+(off+vs.length)+j=f+idx*ob.n+(off+vs.length)+j from rfl]at this
   .intro x hx;simp only[fR]at hx;rcases hx with(hx|hx)|hx
    .exact ZR x (tA hx)
    .exact hone x hx
    .exact ZR x (BW hx)
   .have e1:g1++g4=g1++[]++g4:=by simp
    rw[e1];refine mJ (mJ (gQ kb _ _ _ (λx hx=>hold x (by simp[hx])) hc1) (gQ kb _ _ _ (by simp) hc')) ?_;rw[<-hvl,<-Bk,<-Bk]at*;rw[hvl]at*;exact gQ kb _ _ _ (λx hx=>hold x (by simp[hx])) hc4
   .refine RY kb EG (λx hx=>hold x (by simp[hx])) (.inl ?_) hr1
    rw[hti];omega
   .refine RY kb EG (λx hx=>hold x (by simp[hx])) (.inr ?_) hr3
    omega
  .refine nF.2 ⟨λh=>hbn (hsub.subset h),hsub.nodup (nF.1 hnd).2⟩
  .intro x hx;rcases mC.1 hx with rfl|hx
   .exact Gj
   .exact hF x (Cd _ (hsub.subset hx)))
 exact hm.1
def yZ(P:Program)(t:TypeId):Option Nat:=(P.info? t).map (·.size)
def zo(t:TypeId)(x y:Operand){i bY idx off:Nat}{ob:aI}{e:List AV}(hx:s.ev x= .ptr i bY idx off)(ho:AV.gB s.o i bY=some ob)(he:ob.fM[idx]? =some e)
  (hfy:(s.ev y).fit s.o=true) (hsz:yZ P t=some (s.ev y).cells.length) (hfit:off+(s.ev y).cells.length<=e.length) (xL:ob.box=true\/(s.ev y).cells.all AV.Pv=true):
  Step P B ⟨dst,.store t x y,ty,pos,after,gd⟩ s ((s.stored i idx off ob e (s.ev y).cells).put dst .aB):=
 RZ λG a w r=>by
  obtain⟨g,b,f,hl,aY,ha,hv⟩:=r.ptr hx ho;have hc:=Rq hfy (r.ev y);obtain⟨b',f',yM,hst,hrel⟩:=r.stored (P:=P) hl aY he hfit xL hc.2.1 hc.1;rw[ha]at yM;simp only[eI,oS,pS]at yM;obtain⟨rfl,rfl⟩:=yM;have dF:=iY hc.1;refine⟨_,?_,_,hrel.put dst (by simp[R])⟩;unfold yZ at hsz;cases hi:P.info? t with
  |none=>simp[hi]at hsz
  |some inf=>
   simp only[hi,oR,eI]at hsz;have aE1:(a.eval y).cells.size=inf.size:=by rw[hsz];simpa using dF
   simp[execOp,hv,Instr.storeAt,Instr.sureAddr,storeVar,sizeOf,typeInfo,hi,aE1,hst]
def tN{t e:TypeId}{n by':Nat}(h:oO P t=some (e,n,by')):P.underlying t=some (.slice e)/\∃i,P.info? e=some i/\i.size=n/\i.bytes=by':=by
 unfold oO at h;split at h
 .rename_i e' hu;cases hi:P.info? e' with
  |none=>simp[hi]at h
  |some i=>simp[hi]at h;obtain⟨rfl,rfl,rfl⟩:=h;exact⟨hu,i,hi,rfl,rfl⟩
 .cases h
def Pw{t e:TypeId}{n by':Nat}(h:oO P t=some (e,n,by'))(b f len cap:Nat)(k:IntKind)(i:Int)(h0:0<=i)(h1:i<len)(w:World):
  (Instr.indexAt t (.slice (some ⟨b,f,none⟩) len cap) (.int k i)).run P w= .ok (.pointer (some ⟨b,f+i.toNat*n,none⟩)) w:=by
 obtain⟨hu,inf,hi,hs,_⟩:=tN h;simp[Instr.indexAt,asIntOf,kO hu,h0,h1,sizeOf,typeInfo,hi,hs,addr_add]
def fZ.zq{G:List CO}{a:Act}{w:World}(r:fZ B s G a w){x:Operand}{i bY:Nat}{ob:aI}(hx:s.ev x= .obj i bY)(ho:AV.gB s.o i bY=some ob):
  ∃g,Aw.look s.o G i ob g/\ob.fT=true/\a.eval x= .slice g.a ob.fM.length g.cap:=by
 have h:=r.ev x;rw[hx]at h;simp only[R]at h;obtain⟨_,ob',g,hl,_,hh,_⟩:=h;obtain⟨h1,h2,h3⟩:=mV ho;obtain rfl:=cX (hl.1.symm.trans h1);exact⟨g,hl,h2,hh h2 h3⟩
def fZ.Kn{G:List CO}{a:Act}{w:World}(r:fZ B s G a w){x:Operand}{k:IntKind}{n:Int}(hx:s.ev x= .int k n):a.eval x= .int k n:=by have h:=r.ev x;rw[hx]at h;simp only[R]at h;exact h.1
def fZ.ZT{G:List CO}{a:Act}{w:World}(r:fZ B s G a w){x:Operand}{n:Bool}(hx:s.ev x= .bool n):a.eval x= .bool n:=by have h:=r.ev x;rw[hx]at h;simp only[R]at h;exact h.1
def fZ.ZU{G:List CO}{a:Act}{w:World}(r:fZ B s G a w){x:Operand}{n:List UInt8}(hx:s.ev x= .str n):a.eval x= .string ⟨n.toArray⟩:=by have h:=r.ev x;rw[hx]at h;simp only[R]at h;exact h.1
def Sj(t:TypeId)(x ix:Operand){i bY:Nat}{ob:aI}{e:TypeId}{by':Nat}{k:IntKind}{n:Int}(hx:s.ev x= .obj i bY)(ho:AV.gB s.o i bY=some ob)(hi:s.ev ix= .int k n)
  (ht:oO P t=some (e,ob.n,by')) (h0:0<=n) (h1:n<ob.fM.length) (hbx:ob.box=false\/ob.bY≠2):Step P B ⟨dst,.indexAddr t x ix,ty,pos,after,gd⟩ s (s.put dst (.ptr i bY n.toNat 0)):=
 gD λG a w r=>by
  obtain⟨g,hl,aY,hv⟩:=r.zq hx ho;have hlt:n.toNat<ob.fM.length:=by omega
  obtain⟨b,f,cs,ha,_⟩:=r.elem hl aY (aE hlt);refine⟨.pointer (some ⟨b,f+n.toNat*ob.n,none⟩),?_,?_⟩
  .simp only[execOp,hv,ha,r.Kn hi];simp[Pw ht b f _ g.cap k n h0 h1]
  .simp only[R];obtain⟨h1,h2,h3⟩:=mV ho;exact⟨trivial,ob,g,hl,AI h3.symm,λ_ _=>⟨b,f,ha,by simp⟩,λe e2=>by rcases hbx with hbx|hbx;(rw[hbx]at e;cases e);exact absurd e2 (by omega)⟩
def aE2{o:List aI}{G:List CO}{w:World}{g:Tg}{n:Nat}{l:List (List AV)}(hf:(AV.sl g n l).fit o=true):¬(env B o G w).dead g:=by
 cases g with
 |own=>exact λh=>h
 |view=>exact λh=>h
 |mQ i=>
  simp only[AV.fit]at hf;refine λhd=>hd (λob wF=> ?_)
  simpa [wF]using hf
def fZ.slv{G:List CO}{a:Act}{w:World}(r:fZ B s G a w){x:Operand}{g:Tg}{n:Nat}{l:List (List AV)}(hx:s.ev x= .sl g n l)(hf:(AV.sl g n l).fit s.o=true):
  ∃ad cap,a.eval x= .slice ad l.length cap/\(l.length<=maxLen/\l.length<=cap)/\((l=[]/\(g= .own->cap=0))\/∃b f,ad=some ⟨b,f,none⟩/\g≠ .own/\(env B s.o G w).tg g b/\Rr w ((env B s.o G w).sub g) l b f n []):=by
 have h:=r.ev x;rw[hx]at h;simp only[R]at h;rcases h with h|⟨ad,cap,hv,hl,h⟩
 .exact absurd h.1 (aE2 hf)
 .refine ⟨ad,cap,hv,hl,?_⟩;rcases h with h|⟨_,_,_,_,_,_,_,_,_,_,_,_,_,Jq,_⟩|⟨hg,_,h⟩
  .exact .inl ⟨h.2.1,λ_=>h.2.2.1⟩
  .cases Jq
  .rcases h with h|⟨b,f,ha,ht,hr⟩
   .exact .inl ⟨h,λe=>absurd e hg⟩
   .exact .inr ⟨b,f,ha,hg,ht,hr⟩
def VB(t:TypeId)(x ix:Operand){g:Tg}{m:Nat}{l:List (List AV)}{e:TypeId}{by':Nat}{k:IntKind}{n:Int}{c:List AV}(hx:s.ev x= .sl g m l)(hf:(AV.sl g m l).fit s.o=true)(hi:s.ev ix= .int k n)
  (ht:oO P t=some (e,m,by')) (h0:0<=n) (hc:l[n.toNat]? =some c):Step P B ⟨dst,.indexAddr t x ix,ty,pos,after,gd⟩ s (s.put dst (.iW g c 0)):=
 gD λG a w r=>by
  obtain⟨ad,cap,hv,hl,h⟩:=r.slv hx hf;have hlt:=(cU.1 hc).1;rcases h with⟨h,_⟩|⟨b,f,rfl,hg,htg,hr⟩
  .rw [h]at hlt;simp at hlt
  .refine ⟨.pointer (some ⟨b,f+n.toNat*m,none⟩),?_,?_⟩
   .simp only[execOp,hv,r.Kn hi];simp[Pw ht b f l.length cap k n h0 (by omega)]
   .simp only[R];obtain⟨f1,f2,f3,cs,hfe,hn,hcs,hone,wK,_,_⟩:=Cy hr hc;have:f2=[]:=by have:=As length hfe;simp at this;exact gO (by omega)
    subst this;exact .inr ⟨trivial,b,f+n.toNat*m,cs,by simp,htg,hcs,hone,wK⟩
def aKx(P:Program)(t:TypeId):Option (Nat×Nat):=
 match P.underlying t with
 |some (.array n e)=>(P.info? e).map λi=>(n,i.size)
 |_=>none
def Sk(t:TypeId)(x ix:Operand){i bY idx off len sz:Nat}{ob:aI}{k:IntKind}{n:Int}(hx:s.ev x= .ptr i bY idx off)(ho:AV.gB s.o i bY=some ob)(hi:s.ev ix= .int k n)
  (ht:aKx P t=some (len,sz)) (h0:0<=n) (h1:n<len):Step P B ⟨dst,.indexAddr t x ix,ty,pos,after,gd⟩ s (s.put dst (.ptr i bY idx (off+n.toNat*sz))):=
 gD λG a w r=>by
  obtain⟨g,b,f,hl,aY,ha,hv⟩:=r.ptr hx ho;refine⟨.pointer (some ⟨b,f+(idx*ob.n+(off+n.toNat*sz)),none⟩),?_,?_⟩
  .unfold aKx at ht;split at ht
   .rename_i n' e' hu;cases hi':P.info? e' with
    |none=>simp[hi']at ht
    |some inf=>simp[hi']at ht;obtain⟨rfl,rfl⟩:=ht;simp[execOp,hv,r.Kn hi,Instr.indexAt,asIntOf,kO hu,Instr.sureAddr,h0,h1,sizeOf,typeInfo,hi',addr_add,pH]
   .cases ht
  .simp only[R];obtain⟨h1,h2,h3⟩:=mV ho;refine⟨trivial,ob,g,hl,AI h3.symm,λ_ _=>⟨b,f,ha,rfl⟩,λe1 e2 e3 e4 y hy=> ?_⟩;have h0':off=0:=by omega
   have aXg:n.toNat*sz=0:=by omega
   have:=r.pin hx ho hl e1 e2 e3 h0' y hy;exact⟨by rw[<-this.1,hv,h0',aXg],this.2⟩
def isSlice(P:Program)(t:TypeId):Bool:=match P.underlying t with|some (.slice _)=>true|_=>false
def isString(P:Program)(t:TypeId):Bool:=match P.underlying t with|some .string=>true|_=>false
def LQ{t:TypeId}(h:isSlice P t=true):∃e,P.underlying t=some (.slice e):=by
 unfold isSlice at h;split at h
 .rename_i e he;exact⟨e,he⟩
 .cases h
def rC{t:TypeId}(h:isString P t=true):P.underlying t=some .string:=by
 unfold isString at h;split at h
 .assumption
 .cases h
def Yl(t:TypeId)(x:Operand){i bY:Nat}{ob:aI}(hx:s.ev x= .obj i bY)(ho:AV.gB s.o i bY=some ob)(ht:isSlice P t=true):
  Step P B ⟨dst,.call {callee:= .builtin .len,args:=#[x],argTypes:=#[t]},ty,pos,after,gd⟩ s (s.put dst (.int .i64 ob.fM.length)):=
 gD λG a w r=>by obtain⟨g,hl,aY,hv⟩:=r.zq hx ho;obtain⟨e,he⟩:=LQ ht;exact⟨.int .i64 ob.fM.length,by simp[execOp,resolve,invoke,builtin,hv,Builtin.len_,kO he,goInt],by simp[R]⟩
def ZV(t:TypeId)(x:Operand){g:Tg}{n:Nat}{l:List (List AV)}(hx:s.ev x= .sl g n l)(hf:(AV.sl g n l).fit s.o=true)(ht:isSlice P t=true):
  Step P B ⟨dst,.call {callee:= .builtin .len,args:=#[x],argTypes:=#[t]},ty,pos,after,gd⟩ s (s.put dst (.int .i64 l.length)):=
 gD λG a w r=>by obtain⟨ad,cap,hv,_⟩:=r.slv hx hf;obtain⟨e,he⟩:=LQ ht;exact⟨.int .i64 l.length,by simp[execOp,resolve,invoke,builtin,hv,Builtin.len_,kO he,goInt],by simp[R]⟩
def size_mk(l:List UInt8):(⟨l.toArray⟩:ByteArray).size=l.length:=by show l.toArray.size=_;simp
def Ym(t:TypeId)(x:Operand){l:List UInt8}(hx:s.ev x= .str l)(ht:isString P t=true):
  Step P B ⟨dst,.call {callee:= .builtin .len,args:=#[x],argTypes:=#[t]},ty,pos,after,gd⟩ s (s.put dst (.int .i64 l.length)):=
 gD λG a w r=>by have hv:=r.ZU hx;have he:=rC ht;exact⟨.int .i64 l.length,by simp[execOp,resolve,invoke,builtin,hv,Builtin.len_,kO he,goInt,size_mk],by simp[R]⟩
def Sl(t:TypeId)(x ix:Operand){l:List UInt8}{k:IntKind}{n:Int}{u:UInt8}(hx:s.ev x= .str l)(hi:s.ev ix= .int k n)(ht:isString P t=true)(h0:0<=n)(hu:l[n.toNat]? =some u):
  Step P B ⟨dst,.index t x ix,ty,pos,after,gd⟩ s (s.put dst (.int .u8 u.toNat)):=
 gD λG a w r=>by
  have hv:=r.ZU hx;have he:=rC ht;have hlt:=(cU.1 hu).1;have hg:(⟨l.toArray⟩:ByteArray)[n.toNat]? =some u:=by rw[getElem?_pos (⟨l.toArray⟩:ByteArray) n.toNat (by simpa [size_mk]using hlt)];obtain⟨_,rfl⟩:=cU.1 hu;rfl
  exact⟨.int .u8 u.toNat,by simp[execOp,hv,r.Kn hi,Instr.index,asIntOf,kO he,h0,hg],by simp[R]⟩
def Yn(x:Operand)(ix:Nat){c:List AV}{y:AV}(hx:s.ev x= .iL c)(hy:c[ix]? =some y):Step P B ⟨dst,.extract x ix,ty,pos,after,gd⟩ s (s.put dst y):=
 gD λG a w r=>by have h:=r.ev x;rw[hx]at h;simp only[R]at h;obtain⟨cs,hv,hr⟩:=h;obtain⟨v,hv',hR⟩:=NN hr hy;exact⟨v,by simp[execOp,hv,Instr.extract,hv'],hR⟩
def VC(f:FuncId)(cap:Array Operand):Step P B ⟨dst,.makeFunc (.func f) #[] cap,ty,pos,after,gd⟩ s (s.put dst (.fn f (s.args cap))):=
 gD λG a w r=>by refine⟨.func (.func f) #[] (cap.map a.eval),by simp[execOp,Instr.makeFunc],?_⟩;simp only[R];refine⟨trivial,cap.toList.map a.eval,?_,uK r cap.toList⟩;congr 1;apply CH;simp
def aE3(t:TypeId)(x:Operand){b:Bool}(hx:s.ev x= .bool b):Step P B ⟨dst,.unOp .not t x,ty,pos,after,gd⟩ s (s.put dst (.bool !b)):=
 gD λG a w r=>⟨.bool !b,by simp[execOp,r.ZT hx,Op.unary],by simp[R]⟩
def aE4(t:TypeId)(x:Operand){k:IntKind}{n:Int}(hx:s.ev x= .int k n):Step P B ⟨dst,.unOp .neg t x,ty,pos,after,gd⟩ s (s.put dst (.int k (k.wrap (0-n)))):=
 gD λG a w r=>⟨.int k (k.wrap (0-n)),by simp[execOp,r.Kn hx,Op.unary,Op.intArith],by simp[R]⟩
def aB1(c x y:Operand){b:Bool}(hc:s.ev c= .bool b):Step P B ⟨dst,.pick c x y,ty,pos,after,gd⟩ s (s.put dst (if b then s.ev x else s.ev y)):=
 gD λG a w r=>⟨if b then a.eval x else a.eval y,by simp[execOp,r.ZT hc,asBool],by cases b;exact r.ev y;exact r.ev x⟩
def GV(op:BinOp)(k:IntKind)(a b:Int):Int:=match op with
 | .and=>k.wrap ((BitVec.ofInt k.bits a&&& BitVec.ofInt k.bits b).toNat)
 | .or=>k.wrap ((BitVec.ofInt k.bits a |||BitVec.ofInt k.bits b).toNat)
 |_=>k.wrap ((BitVec.ofInt k.bits a ^^^ BitVec.ofInt k.bits b).toNat)
def aKy(k:IntKind)(a b:Int):Int:=a.fdiv (2 ^ min b.toNat k.bits)
def Sm(op:BinOp)(k:IntKind)(a b:Int):Option AV:=
 match op with
 | .add=>some (.int k (k.wrap (a+b)))
 | .sub=>some (.int k (k.wrap (a-b)))
 | .mul=>some (.int k (k.wrap (a*b)))
 | .quo=>if b=0 then none else some (.int k (k.wrap (a.tdiv b)))
 | .rem=>if b=0 then none else some (.int k (a.tmod b))
 | .eql=>some (.bool (a == b))
 | .neq=>some (.bool (a != b))
 | .lss=>some (.bool (decide (a<b)))
 | .leq=>some (.bool (decide (a<=b)))
 | .gtr=>some (.bool (decide (a > b)))
 | .geq=>some (.bool (decide (a>=b)))
 | .and=>some (.int k (GV .and k a b))
 | .or=>some (.int k (GV .or k a b))
 | .xor=>some (.int k (GV .xor k a b))
 | .shr=>if b<0 then none else some (.int k (aKy k a b))
 |_=>none
def aE5(t t2:TypeId)(x y:Operand){k k':IntKind}{m n:Int}(hx:s.ev x= .int k m)(hy:s.ev y= .int k' n)(hn:0<=n):
  Step P B ⟨dst,.binOp .shr t x y t2,ty,pos,after,gd⟩ s (s.put dst (.int k (aKy k m n))):=
 gD λG a w r=>by
  have hv:=r.Kn hx;have hv2:=r.Kn hy;have hn2:¬n<0:=by omega
  exact⟨.int k (aKy k m n),(by simp[execOp,hv,hv2,eqGuard_at_int,binOp,Op.shift,hn2,aKy]),by simp[R]⟩
def aB2(op:BinOp)(t t2:TypeId)(x y:Operand){k:IntKind}{m n:Int}(hop:op= .and\/op= .or\/op= .xor)(hx:s.ev x= .int k m)(hy:s.ev y= .int k n):
  Step P B ⟨dst,.binOp op t x y t2,ty,pos,after,gd⟩ s (s.put dst (.int k (GV op k m n))):=
 gD λG a w r=>by have hv:=r.Kn hx;have hv2:=r.Kn hy;refine⟨.int k (GV op k m n),?_,by simp[R]⟩;rcases hop with rfl|rfl|rfl<;>simp[execOp,hv,hv2,eqGuard_at_int,binOp,Op.intBits,GV]
def aE6(op:BinOp)(t t2:TypeId)(x y:Operand){k k':IntKind}{m n:Int}{z:AV}(hx:s.ev x = .int k m)(hy':s.ev y = .int k' n)(hkk:k' = k \/ op = .shr)(hz:Sm op k m n = some z):
    Step P B ⟨dst, .binOp op t x y t2, ty, pos, after, gd⟩ s (s.put dst z) := by
  by_cases hsh:op = .shr
  · subst hsh
    simp only[Sm]at hz;split at hz
    · cases hz
    · obtain rfl := cX hz
      exact aE5 t t2 x y hx hy' (by omega)
  have hy := hy';rw[hkk.resolve_right hsh]at hy;by_cases hop:op = .and \/ op = .or \/ op = .xor
  · have e:z = .int k (GV op k m n) := by rcases hop with rfl | rfl | rfl <;> exact(cX hz).symm
    subst e;exact aB2 op t t2 x y hop hx hy
  · refine gD λG a w r => ?_
    have hv := r.Kn hx;have hv2 := r.Kn hy;cases op <;> simp only[Sm]at hz <;> first | cases hz; done | exact(hsh rfl).elim | exact(hop (.inl rfl)).elim | exact(hop (.inr (.inl rfl))).elim | exact(hop (.inr (.inr rfl))).elim | skip
    all_goals first
      | (obtain rfl := cX hz; exact⟨_, (by simp[execOp, hv, hv2, eqGuard_at_int, binOp, Op.intArith, Op.intCmp]; rfl), by simp[R]⟩)
      | (split at hz
         · cases hz
         · rename_i hb; obtain rfl := cX hz; exact⟨_, (by simp[execOp, hv, hv2, eqGuard_at_int, binOp, Op.intDiv, hb]; rfl), by simp[R]⟩)
      | cases hz
def kZ(P:Program)(e:TypeId)(n:Nat):Bool:=
 match (P.info? e).bind (·.zero)with
 |some z=>z.cells.size == n
 |none=>false
def Bp{P:Program}[aG P]{e:TypeId}{n:Nat}{inf:TypeInfo}(h:kZ P e n=true)(hi:P.info? e=some inf):∃z,inf.zero=some z/\z.cells.size=n:=by
 unfold kZ at h;cases hz:inf.zero with
 |none=>simp[hi,hz]at h
 |some z=>exact⟨z,rfl,by simpa [hi,hz]using h⟩
def AS.target(s:AS)(n:Nat):AV->Option (Nat×aI×AS)
 | .obj i v=>match AV.gB s.o i v with
  |some ob=>if ob.box=false/\ob.n=n then some (i,ob,s)else none
  |none=>none
 | .sl .own _ []=>some (s.o.length,⟨true,false,n,0,[]⟩,⟨s.t,s.o++[⟨true,false,n,0,[]⟩]⟩)
 |_=>none
def AS.source(s:AS)(i n:Nat):AV->Option (List (List AV)×List aI)
 | .obj j v=>match AV.gB s.o j v with
  |some ob=>if ob.box=false/\ob.n=n/\j≠i then some (ob.fM,s.o.set j ob.kill)else none
  |none=>none
 | .sl .own _ []=>some ([],s.o)
 | .sl .view m l=>if m=n then some (l,s.o)else none
 | .str l=>if n=1 then some (l.map λu=>[.int .u8 u.toNat],s.o)else none
 |_=>none
def AS.zR(s:AS)(o:List aI)(d:Option Tmp)(i:Nat)(ob:aI)(l2:List (List AV)):AS:=
 AS.put ⟨s.t,o.set i {ob with bY:=ob.bY+1,fM:=ob.fM++l2}⟩ d (.obj i (ob.bY+1))
def tO(P:Program)(t:TypeId):Bool:=match P.underlying t with|some (.slice _)=>true|some .string=>true|_=>false
def Gm{P:Program}[aG P]{t:TypeId}(h:tO P t=true):∃d,P.underlying t=some d/\∀k,d≠ .int k:=by
 unfold tO at h;split at h
 .exact ⟨_,‹_›,by simp⟩
 .exact ⟨_,‹_›,by simp⟩
 .cases h
def aE8(w:World)(E:Env):∀l:List UInt8,Rv w E (l.map λu=>[.int .u8 u.toNat]) (l.map λu=> .int .u8 u.toNat) 1 []
 |[]=>by simp[Rv]
 |u::t=>by simp only[oE,Rv];exact⟨[.int .u8 u.toNat],_,[],[],rfl,rfl,by simp[Value.oneCell'],by simp[Rc,R],aE8 w E t,rfl⟩
def fZ.target{G:List CO}{a:Act}{w:World}(r:fZ B s G a w){x:Operand}{n i:Nat}{ob:aI}{s1:AS}(ht:s.target n (s.ev x)=some (i,ob,s1)):
  ∃G1 g,fZ B s1 G1 a w/\Aw.look s1.o G1 i ob g/\ob.fT=true/\ob.box=false/\ob.n=n/\a.eval x= .slice g.a ob.fM.length g.cap/\s1.t=s.t:=by
 cases hx:s.ev x with
 |obj j v=>
  rw[hx]at ht;simp only[AS.target]at ht;cases ho:AV.gB s.o j v with
  |none=>simp[ho]at ht
  |some o=>
   simp only[ho]at ht;split at ht
   .rename_i hc;simp only[eI,oT]at ht;obtain⟨rfl,rfl,rfl⟩:=ht;obtain⟨g,hl,aY,hv⟩:=r.zq hx ho;exact⟨G,g,r,hl,aY,hc.1,hc.2,hv,rfl⟩
   .cases ht
 |sl g m l=>
  rw[hx]at ht;cases g with
  |own=>
   cases l with
   |nil=>
    simp only[AS.target,eI,oT]at ht;obtain⟨rfl,rfl,rfl⟩:=ht;obtain⟨ad,cap,hv,_,h⟩:=r.slv hx rfl;have uJ:cap=0:=by
     rcases h with h|⟨_,_,_,h,_⟩
     .exact h.2 rfl
     .exact absurd rfl h
    subst uJ;have hadd:=r.add [⟨true,false,n,0,[]⟩] [⟨ad,0,λ_=>False⟩] w rfl (eJ _) (λ_ _=>rfl) (λj ob g b hl _ hF=>by
     cases j with
     |zero=>obtain⟨_,h2⟩:=hl;simp at h2;subst h2;exact hF.elim
     |succ j=>simp[Aw.look]at hl) (λi j _ _ gi _ b hi hj _ _ Gl _=>by
     cases i with
     |zero=>obtain⟨_,h2⟩:=hi;simp at h2;subst h2;exact Gl.elim
     |succ i=>simp[Aw.look]at hi) (λk j ob g hl _=>by
     cases j with
     |zero=>obtain⟨h1,h2⟩:=hl;simp at h1 h2;subst h1;subst h2;exact⟨[],⟨by simp,.inl ⟨rfl,rfl,rfl⟩⟩,by simp,by simp⟩
     |succ j=>simp[Aw.look]at hl)
    refine⟨_,⟨ad,0,λ_=>False⟩,hadd.1,⟨by simp,by rw[<-r.len];simp⟩,rfl,rfl,rfl,?_,rfl⟩;simpa using hv
   |cons _ _=>cases ht
  |view=>simp[AS.target]at ht
  |mQ _=>simp[AS.target]at ht
 |int _ _=>rw[hx]at ht;simp[AS.target]at ht
 |bool _=>rw[hx]at ht;simp[AS.target]at ht
 |str _=>rw[hx]at ht;simp[AS.target]at ht
 |iW _ _ _=>rw[hx]at ht;simp[AS.target]at ht
 |ptr _ _ _ _=>rw[hx]at ht;simp[AS.target]at ht
 |agg _=>rw[hx]at ht;simp[AS.target]at ht
 |iL _=>rw[hx]at ht;simp[AS.target]at ht
 |fn _ _=>rw[hx]at ht;simp[AS.target]at ht
 |aB=>rw[hx]at ht;simp[AS.target]at ht
def ZW{s s1:AS}(h:s1.t=s.t)(x:Operand):s1.ev x=s.ev x:=by cases x<;>simp[AS.ev,h]
def step_append(tS xT:TypeId)(x y:Operand){e:TypeId}{n by' i:Nat}{ob:aI}{s1:AS}{l2:List (List AV)}{o2:List aI}(he:oO P tS=some (e,n,by'))(hz:kZ P e n=true)(hxt:tO P xT=true)
  (ht:s.target n (s.ev x)=some (i,ob,s1)) (hs:s1.source i n (s.ev y)=some (l2,o2))
  (hbytes:(ob.fM.length+l2.length)*by'<=140737488355328) (h63:ob.fM.length+l2.length<=9223372036854775807):
  Step P B ⟨dst,.call {callee:= .builtin .append,args:=#[x,y],argTypes:=#[tS,xT]},ty,pos,after,gd⟩ s (s.zR o2 dst i ob l2):=
 uI λG0 a w r0=>by
  obtain⟨hu,inf,hi,hsz,hby⟩:=tN he;obtain⟨z,hz1,hz2⟩:=Bp hz hi;obtain⟨G,g,r,hl,aY,xL,hn,hv,hst⟩:=r0.target ht;have hev:=ZW hst y;rw[<-hev]at hs;have aAh:∀{v w'},(Builtin.append_ #[tS,xT] ty #[.slice g.a ob.fM.length g.cap,a.eval y]).run P w= .ok v w'->(execOp a.eval ⟨dst,.call {callee:= .builtin .append,args:=#[x,y],argTypes:=#[tS,xT]},ty,pos,after,gd⟩).run P w= .ok (.value v) w':=by intro v w' h;simp[execOp,resolve,invoke,builtin,hv,h]
  obtain⟨fp,eQ,hnd,hF⟩:=r.ok i ob g hl aY;rw[xL]at eQ;have fin:∀{s2:AS} {G2:List CO} {g2:CO} {eO:List Value} {fp2:List Nat},fZ B s2 G2 a w->Aw.look s2.o G2 i ob g2->g2.a=g.a->g2.cap=g.cap->s2.t=s1.t->s2.o=o2->
    (Builtin.lenOf (a.eval y)).run P w= .ok l2.length w->(∀w',w'.heap=w.heap->(Builtin.firstCells ob.n l2.length (a.eval y)).run P w'= .ok eO.toArray w')->
    Rv w (env B s2.o G2 w).plain l2 eO ob.n fp2->uH w (env B s2.o G2 w).plain ob.n ob.fM g2.a g2.cap fp->(fp++fp2).Nodup->(∀b∈fp++fp2,g2.F b)->
    ∃v w',(execOp a.eval ⟨dst,.call {callee:= .builtin .append,args:=#[x,y],argTypes:=#[tS,xT]},ty,pos,after,gd⟩).run P w= .ok (.value v) w'/\Rel B (s.zR o2 dst i ob l2) (a.put dst v) w':=by
   intro s2 G2 g2 eO fp2 r2 hl2 ha hc aXi ho2 dF Cz Pt Gn Yo zt;obtain⟨v,w',G',hrun,hr',hR⟩:=r2.append (P:=P) (ty:=ty) hl2 aY xL hu (Gm hxt) hi hz1 (by rw[hsz,hn]) (by rw[hz2,hn]) dF Cz Pt Gn Yo zt (by rw[hby];exact hbytes) h63;rw[ha,hc]at hrun;refine⟨v,w',aAh hrun,G',?_⟩;have:=hr'.put dst hR;rw[ho2,aXi,hst]at this;exact this
  cases hy:s1.ev y with
  |obj j bY=>
   rw[hy]at hs;simp only[AS.source]at hs;cases ho:AV.gB s1.o j bY with
   |none=>simp[ho]at hs
   |some oj=>
    simp only[ho]at hs;split at hs
    .rename_i hc;simp only[eI,oT]at hs;obtain⟨rfl,rfl⟩:=hs;obtain⟨gj,hlj,aFa,hvj⟩:=r.zq hy ho;have htr:=r.Sg (i:=i) (j:=j) (AH hc.2.2) hl hlj aY aFa;obtain⟨fj,Px,aK0,LJ⟩:=r.ok j oj gj hlj aFa;rw[hc.1]at Px;obtain⟨fp2,aN3,aTj,eO,Pt,Cz⟩:∃fp2:List Nat,(∀b∈fp2,b∈fj)/\fp2.Nodup/\∃eO,Rv w (env B s1.o G w).plain oj.fM eO ob.n fp2/\∀w',w'.heap=w.heap->(Builtin.firstCells ob.n oj.fM.length (.slice gj.a oj.fM.length gj.cap)).run P w'= .ok eO.toArray w':=by
      have hnn:oj.n=ob.n:=by rw[hc.2.1,hn]
      rcases Px.2 with⟨h1,h2,h3⟩|⟨b,off,C,ety,fz,sH,ha,hb,hz',k1,k2,k3,rfl,hr⟩
      .refine ⟨[],by simp,by simp,[],by rw[h1];simp[Rv],λw' _=> ?_⟩
       rw[h1];cases hga:gj.a with
       |none=>simp[Builtin.firstCells]
       |some a'=>simp[Builtin.firstCells,loadCells,loadCellsFrom]
      .obtain ⟨vs,hv',hc'⟩:=vG.1 hr;refine⟨sH,λb hb=>Cd _ hb,(nF.1 aK0).2,vs,by rw[<-hnn];exact hv',λw' hw'=> ?_⟩;rw[ha,<-hnn];exact nD (mK hv') (hc'.heap hw')
     have aPj:Aw.look (s1.o.set j oj.kill) (G.set i {g with F:=λb=>g.F b\/gj.F b}) i ob {g with F:=λb=>g.F b\/gj.F b}:=by refine⟨by rw[lB hc.2.2];exact hl.1,?_⟩;have:=(cU.1 hl.2).1;simp[this]
     refine fin htr.1 aPj rfl rfl rfl rfl (by rw[hvj];simp[Builtin.lenOf]) (by rw[hvj];exact Cz) (yB htr.2.plain (λ_ _=>rfl) Pt) (eQ.keeps htr.2.plain (λ_ _=>rfl)) ?_ ?_
     .refine lE.2 ⟨hnd,aTj,λb hb b' hb' e=> ?_⟩
      subst e;exact hc.2.2 (r.fV j i _ _ _ _ b hlj hl aFa aY (LJ b (aN3 b hb')) (hF b hb))
     .intro b hb;rcases fR.1 hb with hb|hb
      .exact .inl (hF b hb)
      .exact .inr (LJ b (aN3 b hb))
    .cases hs
  |sl tg m l=>
   rw[hy]at hs;have rA:∀{eO:List Value},s1.o=o2->(Builtin.lenOf (a.eval y)).run P w= .ok l2.length w->(∀w',w'.heap=w.heap->(Builtin.firstCells ob.n l2.length (a.eval y)).run P w'= .ok eO.toArray w')->
     Rv w (env B s1.o G w).plain l2 eO ob.n []->_:=fun {eO} h1 h2 h3 h4=>fin (eO:=eO) (fp2:=[]) r hl rfl rfl rfl h1 h2 h3 h4 eQ (by simpa using hnd) (by simpa using hF)
   cases tg with
   |own=>
    cases l with
    |nil=>
     simp only[AS.source,eI,oT]at hs;obtain⟨rfl,rfl⟩:=hs;obtain⟨ad,cap,hvy,_,_⟩:=r.slv hy rfl;refine rA (eO:=[]) rfl (by rw[hvy];simp[Builtin.lenOf]) (λw' _=> ?_) (by simp[Rv]);rw[hvy];cases ad with
     |none=>simp[Builtin.firstCells]
     |some a'=>simp[Builtin.firstCells,loadCells,loadCellsFrom]
    |cons _ _=>cases hs
   |view=>
    simp only[AS.source]at hs;split at hs
    .rename_i hm;subst hm;simp only[eI,oT]at hs;obtain⟨rfl,rfl⟩:=hs;obtain⟨ad,cap,hvy,_,h⟩:=r.slv hy rfl;rcases h with⟨rfl,_⟩|⟨b,f,rfl,_,_,hr⟩
     .refine rA (eO:=[]) rfl (by rw[hvy];simp[Builtin.lenOf]) (λw' _=> ?_) (by simp[Rv])
      rw[hvy];cases ad with
      |none=>simp[Builtin.firstCells]
      |some a'=>simp[Builtin.firstCells,loadCells,loadCellsFrom]
     .obtain ⟨vs,hv',hc'⟩:=vG.1 hr;refine rA (eO:=vs) rfl (by rw[hvy];simp[Builtin.lenOf]) (λw' hw'=> ?_) (by rw[hn];exact hv');rw[hvy,hn];exact nD (mK hv') (hc'.heap hw')
    .cases hs
   |mQ _=>cases hs
  |str l=>
   rw[hy]at hs;simp only[AS.source]at hs;split at hs
   .rename_i h1;simp only[eI,oT]at hs;obtain⟨rfl,rfl⟩:=hs;have hvy:=r.ZU hy;refine fin (eO:=l.map λu=> .int .u8 u.toNat) (fp2:=[]) r hl rfl rfl rfl rfl (by rw[hvy];simp[Builtin.lenOf,size_mk]) (λw' _=> ?_) ?_ eQ (by simpa using hnd) (by simpa using hF)
    .rw [hvy];have:(⟨l.toArray⟩:ByteArray).extract 0 (l.map λu=>[AV.int .u8 u.toNat]).length=⟨l.toArray⟩:=by
      have e:(l.map λu=>[AV.int .u8 u.toNat]).length=(⟨l.toArray⟩:ByteArray).size:=by simp[size_mk]
      rw[e,ByteArray.extract_zero_size]
     simp only[Builtin.firstCells,this];simp
    .rw [hn,h1];exact aE8 _ _ l
   .cases hs
  |int _ _=>rw[hy]at hs;cases hs
  |bool _=>rw[hy]at hs;cases hs
  |iW _ _ _=>rw[hy]at hs;cases hs
  |ptr _ _ _ _=>rw[hy]at hs;cases hs
  |agg _=>rw[hy]at hs;cases hs
  |iL _=>rw[hy]at hs;cases hs
  |fn _ _=>rw[hy]at hs;cases hs
  |aB=>rw[hy]at hs;cases hs
def AS.bound(s:AS)(d:Nat):Option Operand->Option Nat
 |none=>some d
 |some x=>match s.ev x with
  | .int _ n=>if 0<=n then some n.toNat else none
  |_=>none
def Ko{G:List CO}{a:Act}{w:World}(r:fZ B s G a w){isS:Bool}{len cap lo hi:Nat}{lx hx:Option Operand}(hl:s.bound 0 lx=some lo)(hh:s.bound len hx=some hi)(h1:lo<=hi)(h2:hi<=len)(h3:len<=cap):
  (Instr.sliceBounds isS len cap (lx.map a.eval) (hx.map a.eval) none).run P w= .ok (lo,hi,cap) w:=by
 have bnd:∀{x:Operand} {d n:Nat} {y:Nat} {code:BoundsCode},s.bound d (some x)=some n->n<=y->(Instr.sliceBound (a.eval x) y code).run P w= .ok n w:=by
  intro x d n y code h hy;simp only[AS.bound]at h;cases hx:s.ev x with
  |int k m=>
   simp only[hx]at h;split at h
   .rename_i h0;obtain rfl:=cX h;rw[r.Kn hx];simp[Instr.sliceBound,asIntOf,h0];omega
   .cases h
  |_=>simp[hx]at h
 cases lx with
 |none=>
  simp only[AS.bound,eI]at hl;subst hl;cases hx with
  |none=>simp only[AS.bound,eI]at hh;subst hh;simp[Instr.sliceBounds]
  |some y=>have:=bnd (code:=if isS then .sliceAcap else .sliceAlen) hh (iS h2 h3);simp[Instr.sliceBounds,this]
 |some x=>
  have hb:=λ(c:BoundsCode)=>bnd (code:=c) hl h1
  cases hx with
  |none=>simp only[AS.bound,eI]at hh;subst hh;simp[Instr.sliceBounds,hb]
  |some y=>have:=bnd (code:=if isS then .sliceAcap else .sliceAlen) hh (iS h2 h3);simp[Instr.sliceBounds,this,hb]
def extract_mk(l:List UInt8)(a b:Nat)(h:b<=l.length):(⟨l.toArray⟩:ByteArray).extract a b=⟨((l.take b).drop a).toArray⟩:=by apply ByteArray.ext;simp[ByteArray.data_extract,drop_take]
def Sn(t:TypeId)(x:Operand)(lx hx:Option Operand){l:List UInt8}{lo hi:Nat}(hs:s.ev x= .str l)(ht:isString P t=true)(hl:s.bound 0 lx=some lo)(hh:s.bound l.length hx=some hi)(h1:lo<=hi)(h2:hi<=l.length):
  Step P B ⟨dst,.slice t x lx hx none,ty,pos,after,gd⟩ s (s.put dst (.str ((l.take hi).drop lo))):=
 gD λG a w r=>by have hv:=r.ZU hs;have he:=rC ht;have hb:=Ko (P:=P) r (isS:=false) hl (by rw[<-size_mk l]at hh;exact hh) h1 (by rw[size_mk];exact h2) (eJ (⟨l.toArray⟩:ByteArray).size);refine⟨.string ⟨((l.take hi).drop lo).toArray⟩,?_,by simp[R]⟩;rw[<-extract_mk l lo hi h2];simp[execOp,hv,Instr.sliceAt,Instr.slice,kO he,hb]
def aFb{w:World}{E:Env}{l:List (List AV)}{b f n lo hi:Nat}(h1:lo<=hi)(h2:hi<=l.length){fp:List Nat}(h:Rr w E l b f n fp):
  ∃f1 f2 f3,fp=f1++f2++f3/\Rr w E ((l.take hi).drop lo) b (f+lo*n) n f2:=by
 have e:l=(l.take hi).take lo++((l.take hi).drop lo++l.drop hi):=by rw[<-rL,pC,pC]
 rw[e]at h;obtain⟨f1,g,rfl,_,h3⟩:=EF.1 h;obtain⟨f2,f3,rfl,h4,_⟩:=EF.1 h3;have:((l.take hi).take lo).length=lo:=by simp;omega
 rw[this]at h4;exact⟨f1,f2,f3,by simp,h4⟩
def Sq{α:Type}(l:List α){lo hi:Nat}(h1:lo<=hi)(h2:hi<=l.length):((l.take hi).drop lo).length=hi-lo:=by simp;omega
def VD(t:TypeId)(x:Operand)(lx hx:Option Operand){g:Tg}{n:Nat}{l:List (List AV)}{e by' lo hi:Nat}(hs:s.ev x= .sl g n l)(hf:(AV.sl g n l).fit s.o=true)(ht:oO P t=some (e,n,by'))
  (hl:s.bound 0 lx=some lo) (hh:s.bound l.length hx=some hi) (h1:lo<=hi) (h2:hi<=l.length):
  Step P B ⟨dst,.slice t x lx hx none,ty,pos,after,gd⟩ s (s.put dst (.sl g n ((l.take hi).drop lo))):=
 gD λG a w r=>by
  obtain⟨hu,inf,hi',hsz,_⟩:=tN ht;obtain⟨ad,cap,hv,dF,h⟩:=r.slv hs hf;have hb:=Ko (P:=P) r (isS:=true) hl hh h1 h2 dF.2;have hsl:=Sq l h1 h2;refine⟨.slice (if cap=lo then ad else ad.map (·.add (lo*n))) (hi-lo) (cap-lo),?_,?_⟩
  .simp [execOp,hv,Instr.sliceAt,Instr.slice,kO hu,hb,sizeOf,typeInfo,hi',hsz]
  .simp only[R];refine .inr ⟨_,_,by rw[hsl],⟨by rw[hsl];omega,by rw[hsl];omega⟩,?_⟩;rcases h with⟨rfl,uJ⟩|⟨b,f,rfl,hg,htg,hr⟩
   .by_cases hg:g= .own
    .exact .inl ⟨hg,by simp,by rw[uJ hg];simp,trivial⟩
    .exact .inr (.inr ⟨hg,trivial,.inl (by simp)⟩)
   .refine .inr (.inr ⟨hg,trivial,?_⟩);by_cases hc:cap=lo
    .left;exact gO (by rw[hsl];omega)
    .right;obtain⟨f1,f2,f3,hfe,hr'⟩:=aFb h1 h2 hr;have:f2=[]:=by have:=As length hfe;simp at this;exact gO (by omega)
     subst this;exact⟨b,f+lo*n,by simp[hc,addr_add],htg,hr'⟩
def AS.Sr(s:AS)(d:Option Tmp)(i:Nat)(ob:aI)(l:List (List AV)):AS:=
 AS.put ⟨s.t,s.o.set i {ob with bY:=ob.bY+1,fM:=l}⟩ d (.obj i (ob.bY+1))
def Su(t:TypeId)(x:Operand)(lx hx:Option Operand){i bY:Nat}{ob:aI}{e by' lo hi:Nat}(hs:s.ev x= .obj i bY)(ho:AV.gB s.o i bY=some ob)(xL:ob.box=false)(ht:oO P t=some (e,ob.n,by'))
  (hl:s.bound 0 lx=some lo) (hh:s.bound ob.fM.length hx=some hi) (h1:lo<=hi) (h2:hi<=ob.fM.length):
  Step P B ⟨dst,.slice t x lx hx none,ty,pos,after,gd⟩ s (s.Sr dst i ob ((ob.fM.take hi).drop lo)):=
 uI λG a w r=>by
  obtain⟨hu,inf,hi',hsz,_⟩:=tN ht;obtain⟨g,hlk,aY,hv⟩:=r.zq hs ho;obtain⟨fp,⟨dF,eQ⟩,hnd,hF⟩:=r.ok i ob g hlk aY;have uJ:ob.fM.length<=g.cap:=by
   rcases eQ with h|⟨_,_,_,_,_,_,_,_,_,_,h,_⟩
   .simp [h.1]
   .exact h
  have hb:=Ko (P:=P) r (isS:=true) hl hh h1 h2 uJ;have hsl:=Sq ob.fM h1 h2;have hrun:(execOp a.eval ⟨dst,.slice t x lx hx none,ty,pos,after,gd⟩).run P w= .ok (.value (.slice (if g.cap=lo then g.a else g.a.map (·.add (lo*ob.n))) (hi-lo) (g.cap-lo))) w:=by simp[execOp,hv,Instr.sliceAt,Instr.slice,kO hu,hb,sizeOf,typeInfo,hi',hsz]
  have aK1:∀a',(if g.cap=lo then g.a else g.a.map (·.add (lo*ob.n)))=some a'->∃a0,g.a=some a0/\a'.block=a0.block:=by
   intro a' h;split at h
   .exact ⟨a',h,rfl⟩
   .cases hga:g.a with
    |none=>simp[hga]at h
    |some a0=>simp only[hga,oR,eI]at h;refine⟨a0,rfl,?_⟩;rw[<-h];unfold Addr.add;split<;>rfl
  have hm:=r.modify hlk aY {ob with bY:=ob.bY+1,fM:=(ob.fM.take hi).drop lo} ⟨(if g.cap=lo then g.a else g.a.map (·.add (lo*ob.n))),g.cap-lo,g.F⟩ w (by simp) rfl (by simp) (λb hb=> .inl hb) (λb hb jE=>⟨hb,λa' yM=>by
    obtain⟨a0,h0,hbe⟩:=aK1 a' yM;rw[hbe];exact jE a0 h0⟩) (λ_ _ _=>rfl) (eJ _) (λk _=>by
   generalize env B (s.o.set i {ob with bY:=ob.bY+1,fM:=(ob.fM.take hi).drop lo}) (G.set i ⟨(if g.cap=lo then g.a else g.a.map (·.add (lo*ob.n))),g.cap-lo,g.F⟩) w=E' at k⊢;simp only[LK,xL,Env.of,cY,eW];rw[xL]at eQ;simp only[Env.of,cY,eW]at eQ;rcases eQ with⟨h,hc0,_⟩|⟨b,f,C,ety,fz,sH,ha,hbk,hz,k1,k2,k3,rfl,hr⟩
   .exact ⟨[],⟨by rw[hsl];omega,.inl ⟨by rw[h];simp,by rw[hc0];simp,rfl⟩⟩,by simp,by simp⟩
   .obtain ⟨f1,f2,f3,rfl,hr'⟩:=aFb h1 h2 hr;by_cases hc:g.cap=lo
    .exact ⟨[],⟨by rw[hsl];omega,.inl ⟨gO (by rw[hsl];omega),by omega,rfl⟩⟩,by simp,by simp⟩
    .have hsub:f2.Sublist (f1++f2++f3):=(sublist_append_right f1 f2).trans (sublist_append_left _ _);have hmul:(g.cap-lo)*ob.n+lo*ob.n=g.cap*ob.n:=by rw[<-rK];congr 1;omega
     refine⟨b::f2,⟨by rw[hsl];omega,.inr ⟨b,f+lo*ob.n,C,ety,fz,f2,by simp[hc,ha,addr_add],hbk,hz,by omega,by rw[hsl];omega,by omega,rfl,qD k.plain _ _ _ _ _ rfl (λ_ _=>rfl) hr'⟩⟩,?_,?_⟩
     .exact nF.2 ⟨λh=>(nF.1 hnd).1 (hsub.subset h),hsub.nodup (nF.1 hnd).2⟩
     .intro x hx;rcases mC.1 hx with rfl|hx
      .exact hF x (by simp)
      .exact hF x (Cd _ (hsub.subset hx)))
  refine⟨_,w,hrun,_,hm.1.put dst ?_⟩;simp only[R];have hiG:i<G.length:=(cU.1 hlk.2).1;have BG:i<s.o.length:=(cU.1 hlk.1).1;exact⟨trivial,_,_,⟨by simp[BG];rfl,by simp[hiG];rfl⟩,eJ _,λ_ _=>by simp[hsl],λh=>by omega⟩
def toV:AV->Value
 | .int k n=> .int k n
 | .bool b=> .bool b
 | .str s=> .string ⟨s.toArray⟩
 |_=> .tuple #[]
def AV.scalar:AV->Bool
 | .int _ _=>true
 | .bool _=>true
 | .str _=>true
 |_=>false
def aFc{w:World}{E:Env}{x:AV}{v:Value}{fp:List Nat}(hs:x.scalar=true)(h:R w E x v fp):v=toV x:=by
 cases x<;>simp only[AV.scalar]at hs<;>first|cases hs;done|skip
 all_goals first|(simp only[R]at h;exact h.1)|cases hs
def NT{w:World}{E:Env}:∀{c:List AV} {cs:List Value} {fp:List Nat},c.all AV.scalar=true->Rc w E c cs fp->cs=c.map toV
 |[],[],_,_,_=>rfl
 |[],_::_,_,_,h=>by simp[Rc]at h
 |_::_,[],_,_,h=>by simp[Rc]at h
 |x::xs,c::cs,fp,hs,h=>by simp only[Rc]at h;simp only[Cl,eK]at hs;obtain⟨f1,f2,h1,h2,_⟩:=h;simp[aFc hs.1 h1,NT hs.2 h2]
def EqA(P:Program)(t:TypeId)(c1 c2:List AV)(b:Bool):Prop:=
 ∀(op:BinOp) (x y:Operand) (w:World),(op= .eql\/op= .neq)->
  (do eqGuard op t x y (.agg (c1.map toV).toArray) (.agg (c2.map toV).toArray);binOp op t (.agg (c1.map toV).toArray) (.agg (c2.map toV).toArray):Sem Value).run P w=
   .ok (.bool (if op= .eql then b else !b)) w
def LU(P:Program)(t:TypeId):Bool:=match P.underlying t with|some .bool=>true|_=>false
def intType(P:Program)(t:TypeId):Option IntKind:=match P.underlying t with|some (.int k)=>some k|_=>none
def fZ.aTk{G:List CO}{a:Act}{w:World}(r:fZ B s G a w){x:Operand}{c:List AV}(hx:s.ev x= .agg c)(hs:c.all AV.scalar=true):a.eval x= .agg (c.map toV).toArray:=by have h:=r.ev x;rw[hx]at h;simp only[R]at h;obtain⟨cs,hv,_,hr⟩:=h;rw[hv,NT hs hr]
def ZX(op:BinOp)(t t2:TypeId)(x y:Operand){c1 c2:List AV}{b:Bool}(hop:op= .eql\/op= .neq)(hx:s.ev x= .agg c1)(hy:s.ev y= .agg c2)(h1:c1.all AV.scalar=true)(h2:c2.all AV.scalar=true)(he:EqA P t c1 c2 b):
  Step P B ⟨dst,.binOp op t x y t2,ty,pos,after,gd⟩ s (s.put dst (.bool (if op= .eql then b else !b))):=
 gD λG a w r=>by
  have e:=he op x y w hop;refine⟨.bool (if op= .eql then b else !b),?_,by simp[R]⟩;simp only[execOp,r.aTk hx h1,r.aTk hy h2];rw[show(do let v<-(do eqGuard op t x y (.agg (c1.map toV).toArray) (.agg (c2.map toV).toArray);binOp op t (.agg (c1.map toV).toArray) (.agg (c2.map toV).toArray));pure (Next.value v):Sem Next).run P w=
   ((do eqGuard op t x y (.agg (c1.map toV).toArray) (.agg (c2.map toV).toArray);binOp op t (.agg (c1.map toV).toArray) (.agg (c2.map toV).toArray):Sem Value).run P w).andThen λv w'=> .ok (Next.value v) w' from by simp only[pB,tR]]
  rw[e];rfl
def run_equalIn_bool(w:World)(d:Nat){t:TypeId}(hu:P.underlying t=some .bool)(b1 b2:Bool):(Op.equalIn (d+1) t (.bool b1) (.bool b2)).run P w= .ok (b1 == b2) w:=by simp only[Op.equalIn,pB,kO hu,mT,tR]
def Yp(op:BinOp)(t t2:TypeId)(x y:Operand){b1 b2:Bool}(hop:op= .eql\/op= .neq)(hx:s.ev x= .bool b1)(hy:s.ev y= .bool b2)(ht:LU P t=true):
  Step P B ⟨dst,.binOp op t x y t2,ty,pos,after,gd⟩ s (s.put dst (.bool (if op= .eql then b1 == b2 else b1 != b2))):=
 gD λG a w r=>by
  have hu:P.underlying t=some .bool:=by unfold LU at ht;split at ht;assumption;cases ht
  have hE:(Op.equal t (.bool b1) (.bool b2)).run P w= .ok (b1 == b2) w:=by exact run_equalIn_bool w 9999 hu b1 b2
  refine⟨.bool (if op= .eql then b1 == b2 else b1 != b2),?_,by simp[R]⟩;simp only[execOp,r.ZT hx,r.ZT hy,eqGuard_at_bool,pure_bind];rcases hop with rfl|rfl
  .simp only[binOp,pB,hE,mT,tR,eS]
  .simp only[binOp,pB,hE,mT,tR];rfl
def toList_mk(l:List UInt8):(⟨l.toArray⟩:ByteArray).toList=l:=by rw[ByteArray.toList_eq]
def aB3(l m:List UInt8):(⟨l.toArray⟩:ByteArray)++⟨m.toArray⟩=⟨(l++m).toArray⟩:=by apply ByteArray.ext;simp[ByteArray.data_append]
def Yq(op:BinOp)(a b:List UInt8):Option AV:=
 match op with
 | .add=>some (.str (a++b))
 | .eql=>some (.bool (a == b))
 | .neq=>some (.bool (!(a == b)))
 | .lss=>some (.bool (Op.bytesLess a b))
 | .leq=>some (.bool (Op.bytesLess a b || a == b))
 | .gtr=>some (.bool (!(Op.bytesLess a b || a == b)))
 | .geq=>some (.bool (!Op.bytesLess a b))
 |_=>none
def aFd(op:BinOp)(t t2:TypeId)(x y:Operand){l m:List UInt8}{z:AV}(hx:s.ev x= .str l)(hy:s.ev y= .str m)(hz:Yq op l m=some z)(hle:op= .add->l.length+m.length<=9223372036854775807):
  Step P B ⟨dst,.binOp op t x y t2,ty,pos,after,gd⟩ s (s.put dst z):=
 gD λG a w r=>by
  have hv:=r.ZU hx;have hv2:=r.ZU hy;have aAh:∀{v:Value},(Op.stringOp op ⟨l.toArray⟩ ⟨m.toArray⟩).run P w= .ok v w->(execOp a.eval ⟨dst,.binOp op t x y t2,ty,pos,after,gd⟩).run P w= .ok (.value v) w:=by
   intro v h;have hb:binOp op t (.string ⟨l.toArray⟩) (.string ⟨m.toArray⟩)=Op.stringOp op ⟨l.toArray⟩ ⟨m.toArray⟩:=by cases op<;>rfl
   simp[execOp,hv,hv2,eqGuard_at_string,hb,h]
  cases op<;>simp only[Yq]at hz<;>first|cases hz;done|skip
  case add=>
   have hle:=hle rfl;obtain rfl:=cX hz;refine⟨.string ⟨(l++m).toArray⟩,aAh ?_,by simp[R]⟩;have h0:¬(9223372036854775807<((l.length:Int)+(m.length:Int))):=by omega
   simp only[Op.stringOp,size_mk,aB3];simp[h0]
  all_goals first
   |(obtain rfl:=cX hz;exact⟨_,aAh (by simp only[Op.stringOp,toList_mk,tR];rfl),by simp[R]⟩)
   |cases hz
def VE(src d:TypeId)(x:Operand){k k':IntKind}{n:Int}(hx:s.ev x= .int k n)(hd:intType P d=some k')(hs:(P.underlying src).isSome=true):
  Step P B ⟨dst,.convert src d x,ty,pos,after,gd⟩ s (s.put dst (.int k' (k'.wrap n))):=
 gD λG a w r=>by
  obtain⟨ds,hds⟩:=CI.1 hs;have hu:P.underlying d=some (.int k'):=by
   unfold intType at hd;split at hd
   .obtain rfl:=cX hd;assumption
   .cases hd
  exact⟨.int k' (k'.wrap n),by simp[execOp,r.Kn hx,convert,kO hds,kO hu,Conv.intToInt],by simp[R]⟩
def VF(src d:TypeId)(x:Operand){l:List UInt8}(hx:s.ev x= .str l)(hd:isString P d=true)(hs:isString P src=true):
  Step P B ⟨dst,.convert src d x,ty,pos,after,gd⟩ s (s.put dst (.str l)):=
 gD λG a w r=>by exact⟨.string ⟨l.toArray⟩,by simp[execOp,r.ZU hx,convert,kO (rC hs),kO (rC hd)],by simp[R]⟩
def bytesOf:List (List AV)->Option (List UInt8)
 |[]=>some []
 |[.int .u8 n]::r=>(bytesOf r).map (UInt8.ofNat n.toNat:: ·)
 |_=>none
def ZY{w:World}{E:Env}:∀{l:List (List AV)} {vs:List Value} {fp:List Nat} {bs:List UInt8},bytesOf l=some bs->Rv w E l vs 1 fp->∃ns:List Int,vs=ns.map (.int .u8)/\bs=ns.map λn=>UInt8.ofNat n.toNat
 |[],vs,_,bs,hb,h=>by simp only[bytesOf,eI]at hb;simp only[Rv]at h;exact⟨[],by simp[h.1],by simp[<-hb]⟩
 |e::es,vs,fp,bs,hb,h=>by
  match e,hb with
  |[.int .u8 n],hb=>
   simp only[bytesOf]at hb;cases hr:bytesOf es with
   |none=>simp[hr]at hb
   |some b2=>simp only[hr,oR,eI]at hb;simp only[Rv]at h;obtain⟨cs,rest,f1,f2,rfl,hn,_,wK,hrest,_⟩:=h;obtain⟨ns,rfl,rfl⟩:=ZY hr hrest;have:=NT (c:=[.int .u8 n]) (by simp[AV.scalar]) wK;exact⟨n::ns,by simp[this,toV],by simp[<-hb]⟩
def Py(P:Program)(w:World){body:Value->ByteArray->Sem (ForInStep ByteArray)}(hb:∀n r,body (.int .u8 n) r=pure (ForInStep.yield (r.push (UInt8.ofNat n.toNat)))):∀(ns:List Int) (s0:ByteArray),
  (forIn (m:=Sem) (ns.map (Value.int .u8)) s0 body).run P w= .ok ⟨s0.data++(ns.map λn=>UInt8.ofNat n.toNat).toArray⟩ w
 |[],s0=>by simp
 |n::ns,s0=>by simp only[oE,forIn_cons,hb,pure_bind];rw[Py P w hb ns];congr 2;apply CH;simp[ByteArray.push]
def IV{G:List CO}{a:Act}{w:World}(r:fZ B s G a w){x:Operand}{ad:Option Addr}{b f cap:Nat}{l:List (List AV)}{E:Env}{bs:List UInt8}{fp:List Nat}(hv:a.eval x= .slice ad l.length cap)
  (hb:bytesOf l=some bs) (h:l=[]\/(ad=some ⟨b,f,none⟩/\Rr w E l b f 1 fp)):(Conv.bytesToString (a.eval x)).run P w= .ok (.string ⟨bs.toArray⟩) w:=by
 rw[hv];obtain⟨vs,hvs,ns,hns,hbs,dF⟩:∃vs:List Value,(∀a',ad=some a'->(loadCells a' l.length).run P w= .ok vs.toArray w)/\∃ns:List Int,vs=ns.map (.int .u8)/\bs=(ns.map λn=>UInt8.ofNat n.toNat)/\vs.length=l.length:=by
  rcases h with rfl|⟨rfl,hr⟩
  .simp only[bytesOf,eI]at hb;refine⟨[],λa' _=>by simp[loadCells,loadCellsFrom],[],rfl,by simp[<-hb],rfl⟩
  .obtain ⟨vs,hv',hc'⟩:=vG.1 hr;have hl:=mK hv';obtain⟨ns,h1,h2⟩:=ZY hb hv';refine⟨vs,λa' yM=> ?_,ns,h1,h2,by simpa using hl⟩;obtain rfl:=cX yM;have:=hc'.run (P:=P)
   rwa[hl,Nat.mul_one]at this
 cases ad with
 |none=>
  have hl0:l=[]:=by
   rcases h with h|h
   .exact h
   .cases h.1
  subst hl0;have:vs=[]:=gO (by simpa using dF);subst this;have:ns=[]:=by simpa using hns.symm
  subst this;subst hbs;simp[Conv.bytesToString];rfl
 |some a'=>subst hns;subst hbs;simp only[Conv.bytesToString,pB,hvs a' rfl,mT];simp only[forIn_toArray];rw[Py P w (λ_ _=>rfl) ns ByteArray.empty];simp
def GX(src d:TypeId)(x:Operand){g:Tg}{l:List (List AV)}{e:TypeId}{by':Nat}{bs:List UInt8}(hx:s.ev x= .sl g 1 l)(hf:(AV.sl g 1 l).fit s.o=true)(hd:isString P d=true)(hs:oO P src=some (e,1,by'))(he:intType P e=some .u8)
  (hb:bytesOf l=some bs):Step P B ⟨dst,.convert src d x,ty,pos,after,gd⟩ s (s.put dst (.str bs)):=
 gD λG a w r=>by
  obtain⟨hu,_⟩:=tN hs;have hue:P.underlying e=some (.int .u8):=by
   unfold intType at he;split at he
   .obtain rfl:=cX he;assumption
   .cases he
  obtain⟨ad,cap,hv,_,h⟩:=r.slv hx hf;have hrun:(Conv.bytesToString (a.eval x)).run P w= .ok (.string ⟨bs.toArray⟩) w:=by
   rcases h with⟨rfl,_⟩|⟨b,f,rfl,_,_,hr⟩
   .exact IV (b:=0) (f:=0) (E:=pY) (fp:=[]) r hv hb (.inl rfl)
   .exact IV r hv hb (.inr ⟨rfl,hr⟩)
  refine⟨.string ⟨bs.toArray⟩,?_,by simp[R]⟩;rw[hv]at hrun;simp[execOp,hv,convert,kO hu,kO (rC hd),kO hue,hrun]
def Jr(src d:TypeId)(x:Operand){i bY:Nat}{ob:aI}{e:TypeId}{by':Nat}{bs:List UInt8}(hx:s.ev x= .obj i bY)(ho:AV.gB s.o i bY=some ob)(hd:isString P d=true)(hs:oO P src=some (e,1,by'))(hn:ob.n=1)(he:intType P e=some .u8)
  (hb:bytesOf ob.fM=some bs):Step P B ⟨dst,.convert src d x,ty,pos,after,gd⟩ s (s.put dst (.str bs)):=
 gD λG a w r=>by
  obtain⟨hu,_⟩:=tN hs;have hue:P.underlying e=some (.int .u8):=by
   unfold intType at he;split at he
   .obtain rfl:=cX he;assumption
   .cases he
  obtain⟨g,hl,aY,hv⟩:=r.zq hx ho;obtain⟨fp,⟨_,eQ⟩,_,_⟩:=r.ok i ob g hl aY;have hrun:(Conv.bytesToString (a.eval x)).run P w= .ok (.string ⟨bs.toArray⟩) w:=by
   rcases eQ with⟨h,_⟩|⟨b,f,C,ety,fz,sH,ha,_,_,_,_,_,_,hr⟩
   .exact IV (b:=0) (f:=0) (E:=pY) (fp:=[]) r hv hb (.inl h)
   .rw [hn]at hr;exact IV r hv hb (.inr ⟨ha,hr⟩)
  refine⟨.string ⟨bs.toArray⟩,?_,by simp[R]⟩;rw[hv]at hrun;simp[execOp,hv,convert,kO hu,kO (rC hd),kO hue,hrun]
def JE(j:Nat)(o:List aI):List aI:=match o[j]? with
 |some ob=>o.set j ob.kill
 |none=>o
def yC:List Nat->List aI->List aI
 |[],o=>o
 |j::u,o=>yC u (JE j o)
def WA(j i:Nat)(o:List aI)(h:i≠j):(JE j o)[i]? =o[i]?:=by
 unfold JE;split
 .rw [lB (AH h)]
 .rfl
def IW(i:Nat):∀(u:List Nat) (o:List aI),i∉u->(yC u o)[i]? =o[i]?
 |[],_,_=>rfl
 |j::u,o,h=>by simp only[mC,not_or]at h;rw[yC,IW i u _ h.2,WA j i o h.1]
def fZ.NU{a:Act}{w:World}{k:Nat}{ok:aI}(aY:ok.fT=true):∀(u:List Nat) {s:AS} {G:List CO} {g:CO},fZ B s G a w->Aw.look s.o G k ok g->u.Nodup->k∉u->(∀j∈u,∃ob,s.o[j]? =some ob/\ob.fT=true)->
  ∃G' g',fZ B ⟨s.t,yC u s.o⟩ G' a w/\fG w (env B s.o G w) w (env B (yC u s.o) G' w)/\Aw.look (yC u s.o) G' k ok g'/\g'.a=g.a/\g'.cap=g.cap/\(∀b,g'.F b↔g.F b\/Of s.o G u b)
 |[],s,G,g,r,hl,_,_,_=>⟨G,g,r,fG.refl _ _,hl,rfl,rfl,λb=>⟨.inl,λh=>h.elim id (λ⟨i,_,_,hi,_⟩=>by simp at hi)⟩⟩
 |j::u,s,G,g,r,hl,hn,hk,hu=>by
  simp only[mC,not_or]at hk;obtain⟨oj,hoj,hjl⟩:=hu j (by simp);obtain⟨gj,hlj⟩:=r.look hoj;have htr:=r.Sg hk.1 hl hlj aY hjl;have hk1:JE j s.o=s.o.set j oj.kill:=by simp[JE,hoj]
  have hlk:Aw.look (s.o.set j oj.kill) (G.set k {g with F:=λb=>g.F b\/gj.F b}) k ok {g with F:=λb=>g.F b\/gj.F b}:=by refine⟨by rw[lB (AH hk.1)];exact hl.1,?_⟩;have:=(cU.1 hl.2).1;simp[this]
  have hnu:=nF.1 hn;obtain⟨G',g',r',k',Dw,ha,hc,hF⟩:=fZ.NU aY u htr.1 hlk hnu.2 hk.2 (λi hi=>by
   obtain⟨ob,h1,h2⟩:=hu i (by simp[hi]);have jE:i≠j:=λe=>hnu.1 (e▸hi)
   exact⟨ob,by simp only;rw[lB (AH jE)];exact h1,h2⟩)
  refine⟨G',g',by rw[yC,hk1];exact r',by rw[yC,hk1];exact htr.2.trans k',by rw[yC,hk1];exact Dw,ha,hc,λb=> ?_⟩;rw[hF b];have Pz:Of (s.o.set j oj.kill) (G.set k {g with F:=λb=>g.F b\/gj.F b}) u b↔Of s.o G u b:=by
   constructor
   .rintro ⟨i,ob,gi,hi,Rt,hil,hf⟩;have jE:i≠j:=λe=>hnu.1 (e▸hi)
    have hnk:i≠k:=λe=>hk.2 (e▸hi)
    exact⟨i,ob,gi,hi,⟨by have:=Rt.1;rwa[lB (AH jE)]at this,by have:=Rt.2;rwa[lB (AH hnk)]at this⟩,hil,hf⟩
   .rintro ⟨i,ob,gi,hi,Rt,hil,hf⟩;have jE:i≠j:=λe=>hnu.1 (e▸hi)
    have hnk:i≠k:=λe=>hk.2 (e▸hi)
    exact⟨i,ob,gi,hi,⟨by rw[lB (AH jE)];exact Rt.1,by rw[lB (AH hnk)];exact Rt.2⟩,hil,hf⟩
  rw[Pz];constructor
  .rintro ((h|h)|⟨i,ob,gi,hi,h⟩)
   .exact .inl h
   .exact .inr ⟨j,oj,gj,by simp,hlj,hjl,h⟩
   .exact .inr ⟨i,ob,gi,by simp[hi],h⟩
  .rintro (h|⟨i,ob,gi,hi,Rt,h⟩)
   .exact .inl (.inl h)
   .rcases mC.1 hi with rfl|hi
    .obtain ⟨rfl,rfl⟩:=lT hlj Rt;exact .inl (.inr h.2)
    .exact .inr ⟨i,ob,gi,hi,Rt,h⟩
mutual
theorem zu{o:List aI}:∀{av:AV},kV o av=true->∀j∈mG av,∃ob,o[j]? =some ob/\ob.fT=true
 | .obj i bY,h,j,hj=>by
  simp only[mG,mS]at hj;subst hj;simp only[kV]at h;cases ho:AV.gB o j bY with
  |none=>simp[ho]at h
  |some ob=>have:=mV ho;exact⟨ob,this.1,this.2.1⟩
 | .agg c,h,j,hj=>Bq (by simpa [kV]using h) j (by simpa [mG]using hj)
 | .iL c,h,j,hj=>Bq (by simpa [kV]using h) j (by simpa [mG]using hj)
 | .int _ _,_,j,hj=>by simp[mG]at hj
 | .bool _,_,j,hj=>by simp[mG]at hj
 | .str _,_,j,hj=>by simp[mG]at hj
 | .sl _ _ _,_,j,hj=>by simp[mG]at hj
 | .iW _ _ _,_,j,hj=>by simp[mG]at hj
 | .ptr _ _ _ _,_,j,hj=>by simp[mG]at hj
 | .fn _ _,_,j,hj=>by simp[mG]at hj
 | .aB,_,j,hj=>by simp[mG]at hj
theorem Bq{o:List aI}:∀{c:List AV},pI o c=true->∀j∈mX c,∃ob,o[j]? =some ob/\ob.fT=true
 |[],_,j,hj=>by simp[mX]at hj
 |x::xs,h,j,hj=>by
  simp only[pI,eK]at h;simp only[mX,fR]at hj;rcases hj with hj|hj
  .exact zu h.1 j hj
  .exact Bq h.2 j hj
end
def AV.Bn:AV->Bool
 | .agg _=>true
 |x=>x.Pv
def aPl{w:World}{E:Env}{x:AV}{v:Value}{fp:List Nat}(hg:x.Bn=true)(h:R w E x v fp):Rc w E x.cells v.cells.toList fp/\(∀c∈v.cells.toList,c.oneCell'=true):=by
 have one:∀{x:AV} {v:Value} {fp:List Nat},R w E x v fp->x.cells=[x]->v.cells=#[v]->v.oneCell'=true->Rc w E x.cells v.cells.toList fp/\(∀c∈v.cells.toList,c.oneCell'=true):=by intro x v fp h h1 h2 h3;rw[h1,h2];exact⟨by simp only[Rc];exact⟨fp,[],h,rfl,by simp⟩,by simpa using h3⟩
 cases x with
 |int k n=>have h':=h;simp only[R]at h';obtain⟨rfl,_⟩:=h';exact one h rfl rfl rfl
 |bool b=>have h':=h;simp only[R]at h';obtain⟨rfl,_⟩:=h';exact one h rfl rfl rfl
 |str b=>have h':=h;simp only[R]at h';obtain⟨rfl,_⟩:=h';exact one h rfl rfl rfl
 |sl g n l=>
  have h':=h;simp only[R]at h';rcases h' with⟨hd,_⟩|⟨a,cap,rfl,_⟩
  .cases g with
   |own=>exact hd.elim
   |view=>exact hd.elim
   |mQ i=>cases hg
  .exact one h rfl rfl rfl
 |iW g c off=>
  have h':=h;simp only[R]at h';rcases h' with⟨hd,_⟩|⟨_,b,o,cs,rfl,_⟩
  .cases g with
   |own=>exact hd.elim
   |view=>exact hd.elim
   |mQ i=>cases hg
  .exact one h rfl rfl rfl
 |agg c=>simp only[R]at h;obtain⟨cs,rfl,ho,hr⟩:=h;exact⟨by simpa [AV.cells,Value.cells]using hr,by simpa [Value.cells]using ho⟩
 |fn f c=>have h':=h;simp only[R]at h';obtain⟨_,cs,rfl,_⟩:=h';exact one h rfl rfl rfl
 |obj _ _=>cases hg
 |ptr _ _ _ _=>cases hg
 |iL c=>cases hg
 |aB=>cases hg
def Ru{w:World}{E:Env}{n:Nat}:∀{xs:List AV} {vs:List Value} {fp:List Nat},Rc w E xs vs fp->(∀x∈xs,x.Bn=true/\x.cells.length=n)->
  Rv w E (xs.map AV.cells) (vs.flatMap λv=>v.cells.toList) n fp/\(∀v∈vs,v.cells.size=n)
 |[],[],fp,h,_=>by simp only[Rc]at h;simp[Rv,h]
 |[],_::_,_,h,_=>by simp[Rc]at h
 |_::_,[],_,h,_=>by simp[Rc]at h
 |x::xs,v::vs,fp,h,hg=>by
  simp only[Rc]at h;obtain⟨f1,f2,h1,h2,rfl⟩:=h;have hx:=hg x (by simp);have hc:=aPl hx.1 h1;have dF:=iY hc.1;have ih:=Ru h2 (λy hy=>hg y (by simp[hy]));constructor
  .simp only[oE,flatMap_cons,Rv];exact⟨v.cells.toList,_,f1,f2,rfl,by rw[dF,hx.2],hc.2,hc.1,ih.1,rfl⟩
  .intro u hu;rcases mC.1 hu with rfl|hu
   .simpa [hx.2]using dF
   .exact ih.2 u hu
def NV(off:Nat):∀(l:List Value) (k:Nat) (pre:List Value) (rest:List Value),pre.length=off+k->l.length<=rest.length->
  ((l.zipIdx k).foldl (λ(cs:Array Value) (p:Value×Nat)=>cs.setIfInBounds (off+p.2) p.1) (pre++rest).toArray)=(pre++l++rest.drop l.length).toArray
 |[],k,pre,rest,_,_=>by simp
 |x::xs,k,pre,rest,hp,hl=>by
  cases rest with
  |nil=>simp at hl
  |cons y ys=>
   simp only[zipIdx_cons,foldl_cons];have:(pre++y::ys).toArray.setIfInBounds (off+k) x=((pre++[x])++ys).toArray:=by rw[<-hp];simp
   rw[this,NV off xs (k+1) (pre++[x]) ys (by simp[hp,pH]) (by simpa using hl)];simp
def WB(size:Nat):∀(vs:List Value) (k:Nat) (pre rest:List Value),(∀v∈vs,v.cells.size=size)->pre.length=k*size->rest.length=vs.length*size->
  Instr.fill (λi=>some (i*size,size)) (pre++rest).toArray ((vs.zipIdx k).map λp=>(p.2,p.1))=some (pre++vs.flatMap λv=>v.cells.toList).toArray
 |[],k,pre,rest,_,_,hr=>by have:rest=[]:=gO (by simpa using hr);subst this;simp[Instr.fill]
 |v::vs,k,pre,rest,hv,hp,hr=>by
  have h1:=hv v (by simp);have hr':rest.length=vs.length*size+size:=by rw[hr];simp[rK]
  simp only[zipIdx_cons,oE,Instr.fill];have hc:¬((v.cells.size≠size) || decide (k*size+v.cells.size > (pre++rest).toArray.size))=true:=by simp[h1];omega
  rw[eC (by simpa using hc)];have hz:v.cells.zipIdx.foldl (λ(cs:Array Value) (p:Value×Nat)=>cs.setIfInBounds (k*size+p.2) p.1) (pre++rest).toArray=(pre++v.cells.toList++rest.drop v.cells.toList.length).toArray:=by have:=NV (k*size) v.cells.toList 0 pre rest (by simpa using hp) (by simp[h1];omega);rw[<-this,<-Array.foldl_toList,Array.toList_zipIdx]
  rw[hz,WB size vs (k+1) (pre++v.cells.toList) _ (λu hu=>hv u (by simp[hu])) (by simp[hp,h1,rK]) (by simp[h1];omega)];simp
def fZ.aK3{G:List CO}{a:Act}{w:World}(r:fZ B s G a w){i idx off:Nat}{ob:aI}{g:CO}{e c:List AV}{vs:List Value}{fpo fp2:List Nat}(hl:Aw.look s.o G i ob g)(aY:ob.fT=true)(xL:ob.box=false)(he:ob.fM[idx]? =some e)
  (hfit:off+c.length<=e.length) (hone:∀x∈vs,x.oneCell'=true) (hr:Rc w (env B s.o G w).plain c vs fp2)
  (eQ:uH w (env B s.o G w).plain ob.n ob.fM g.a g.cap fpo) (aPm:(fpo++fp2).Nodup) (hF0:∀b∈fpo++fp2,g.F b):
  ∃b f,g.a=some ⟨b,f,none⟩/\(storeCells ⟨b,f+(idx*ob.n+off),none⟩ vs).run P w= .ok () (w.setCells b (f+(idx*ob.n+off)) vs)/\
   fZ B (s.stored i idx off ob e c) (G.set i g) a (w.setCells b (f+(idx*ob.n+off)) vs):=by
 have hvl:=iY hr;rcases eQ with⟨dF,⟨h,_⟩|⟨b,f,C,ty,fz,sH,ha,hb,hz,h1,h2,h3,rfl,QF⟩⟩
 .rw [h]at he;simp at he
 obtain⟨f1,f2,f3,cs,hfe,hn,hc,ZR,wK,hr1,hr3⟩:=Cy QF he;have IU:=iY wK;have aPg:idx<ob.fM.length:=(cU.1 he).1;have hmul:(idx+1)*ob.n<=g.cap*ob.n:=mB _ (by omega);have ZJ:(idx+1)*ob.n=idx*ob.n+ob.n:=by rw[rK];omega
 have aE0:f+(idx*ob.n+off)+vs.length<=C.size:=by omega
 refine⟨b,f,ha,vW hb hz aE0 hone,?_⟩;have Gj:g.F b:=hF0 b (by simp);have Fs:∀b',b'≠b->(w.setCells b (f+(idx*ob.n+off)) vs).heap[b']? =w.heap[b']?:=λb' jE=>oC b b' jE _ _ _
 obtain⟨C',hC',hCs⟩:=mE b ty fz vs (f+(idx*ob.n+off)) w C hb;have hm:=r.modify hl aY {ob with fM:=ob.fM.set idx (e.take off++c++e.drop (off+c.length))} g (w.setCells b (f+(idx*ob.n+off)) vs) (eJ _) rfl (λ_=>⟨rfl,rfl,by simp⟩) (λb hb=> .inl hb) (λb hb jE=>⟨hb,jE⟩)
  (λb' hlt jE=>Fs b' (λe=>jE ⟨e▸Gj,⟨b,f,none⟩,ha,e⟩)) (by rw[jR];exact eJ _) (λk _=>by
  generalize env B (s.o.set i {ob with fM:=ob.fM.set idx (e.take off++c++e.drop (off+c.length))}) (G.set i g) (w.setCells b (f+(idx*ob.n+off)) vs)=E' at k⊢;have kb:=k.plain;simp only[LK,xL,Env.of,cY,eW];obtain⟨g1,g2,rfl,hc1,LH⟩:=vV off wK;obtain⟨g3,g4,rfl,hc3,hc4⟩:=vV c.length LH;subst hfe;have aTq:=aPm;simp only[cW,nF]at aTq;obtain⟨hbn,hnd⟩:=aTq;have hp:(f1++(g1++fp2++g4)++f3).Perm ((f1++(g1++g4)++f3)++fp2):=by
   have e1:(g1++fp2++g4++f3).Perm (g1++g4++f3++fp2):=by simp only[rL];refine GO g1 ?_;rw[<-rL g4];exact perm_append_comm
   simpa only[rL]using GO f1 e1
  have hsub:(f1++(g1++g4)++f3++fp2).Sublist (f1++(g1++(g3++g4))++f3++fp2):=(((tP f1).append ((tP g1).append (sublist_append_right g3 g4))).append (tP f3)).append (tP fp2);have hin:∀x,x∈f1++(g1++fp2++g4)++f3->x∈f1++(g1++(g3++g4))++f3++fp2:=λx hx=>hsub.subset (hp.subset hx)
  have hold:∀x∈f1++(g1++fp2++g4)++f3,(w.setCells b (f+(idx*ob.n+off)) vs).heap[x]? =w.heap[x]?:=λx hx=>Fs x (λe=>hbn (e▸hin x hx))
  have EG:∀j,j<f+(idx*ob.n+off)\/f+(idx*ob.n+off)+vs.length<=j->(w.setCells b (f+(idx*ob.n+off)) vs).cell? ⟨b,j,none⟩=w.cell? ⟨b,j,none⟩:=λj hj=>CD b vs _ w _ (λ_ _=>hj)
  have hti:(ob.fM.take idx).length=idx:=by simp;omega
  refine⟨b::(f1++(g1++fp2++g4)++f3),⟨by simpa using dF,.inr ⟨b,f,C',ty,fz,_,ha,hC',by rw[hCs];exact hz,by rw[hCs];exact h1,by simpa using h2,h3,rfl,?_⟩⟩,?_,?_⟩
  .show Rr _ _ (ob.fM.set idx _) b f ob.n _;refine ZL (cs:=cs.take off++vs++cs.drop (off+vs.length)) aPg ?_ ?_ ?_ ?_ ?_ ?_
   .simp only[eR,pL,AN];omega
   .have hc1:dB w b (f+idx*ob.n) cs:=hc;have htl:(cs.take off).length=off:=by simp;omega
    refine dB.append.2 ⟨dB.append.2 ⟨?_,?_⟩,?_⟩
    .intro j v hv;have hj:=(cU.1 hv).1;rw[htl]at hj;rw[EG _ (by omega)];exact hc1.take j v hv
    .intro j v hv;have hj:j<vs.length:=(cU.1 hv).1;rw[htl,pH f];have:=CT b vs (f+(idx*ob.n+off)) w (λj hj=>by
      have:f+(idx*ob.n+off)+j<C.size:=by omega
      simp[World.cell?,hb,this]) j hj
     rw[this];rw[aE hj]at hv;exact hv
    .intro j v hv;simp only[eR,htl];rw[EG _ (by omega)];have:=hc1.drop (k:=off+vs.length) j v hv
     rwa[show f+idx*ob.n+(off+vs.length)+j=f+idx*ob.n+(off+vs.length)+j from rfl]at this
   .intro x hx;simp only[fR]at hx;rcases hx with(hx|hx)|hx
    .exact ZR x (tA hx)
    .exact hone x hx
    .exact ZR x (BW hx)
   .refine mJ (mJ (gQ kb _ _ _ (λx hx=>hold x (by simp[hx])) hc1) (gQ kb _ _ _ (λx hx=>hold x (by simp[hx])) hr)) ?_
    rw[<-hvl,<-Bk,<-Bk]at*;rw[hvl]at*;exact gQ kb _ _ _ (λx hx=>hold x (by simp[hx])) hc4
   .refine RY kb EG (λx hx=>hold x (by simp[hx])) (.inl ?_) hr1
    rw[hti];omega
   .refine RY kb EG (λx hx=>hold x (by simp[hx])) (.inr ?_) hr3
    omega
  .exact nF.2 ⟨λh=>hbn (hin b h),hp.nodup_iff.2 (hsub.nodup hnd)⟩
  .intro x hx;rcases mC.1 hx with rfl|hx
   .exact Gj
   .exact hF0 x (by
     have:=hin x hx;simp only[cW,mC];exact .inr this))
 exact hm.1
def GY(o:List aI):∀c:List AV,(vH o c).length=c.length
 |[]=>rfl
 |_::xs=>by simp[vH,GY o xs]
def AS.shut(s:AS)(i idx off:Nat)(ob:aI)(e c:List AV):AS:=
 AS.stored ⟨s.t,yC (mX c) s.o⟩ i idx off ob e (vH s.o c)
def NZ(t:TypeId)(x y:Operand){i bY idx off:Nat}{ob:aI}{e:List AV}(hx:s.ev x= .ptr i bY idx off)(ho:AV.gB s.o i bY=some ob)(he:ob.fM[idx]? =some e)
  (hfy:(s.ev y).fit s.o=true) (hsz:yZ P t=some (s.ev y).cells.length) (hfit:off+(s.ev y).cells.length<=e.length) (xL:ob.box=false)
  (rP:pI s.o (s.ev y).cells=true) (hu:(mX (s.ev y).cells).Nodup) (hi:i∉mX (s.ev y).cells):
  Step P B ⟨dst,.store t x y,ty,pos,after,gd⟩ s ((s.shut i idx off ob e (s.ev y).cells).put dst .aB):=
 RZ λG a w r=>by
  obtain⟨g,b,f,hl,aY,ha,hv⟩:=r.ptr hx ho;have hc:=Rq hfy (r.ev y);obtain⟨fp,wK,hnd,Pz⟩:=Kl r _ _ rP hu hc.1;obtain⟨fpo,eQ,Kq,Rw⟩:=r.ok i ob g hl aY;simp only[xL,Env.of,cY,eW]at eQ;obtain⟨G2,g2,r2,k2,LV,ha2,LH,zt⟩:=fZ.NU (k:=i) (ok:=ob) aY _ r hl hu hi (λj hj=>Bq rP j hj);have aB4:(fpo++fp).Nodup:=lE.2 ⟨Kq,hnd,λb hb b' hb' e=>by
   subst e;obtain⟨j,ob',g',hj,Dw,zP,hF'⟩:=Pz b hb';have:=r.fV i j _ _ _ _ b hl Dw aY zP (Rw b hb) hF';exact hi (this▸hj)⟩
  obtain⟨b',f',yM,hst,hrel⟩:=r2.aK3 (P:=P) (c:=vH s.o (s.ev y).cells) LV aY xL he (by rw[GY];exact hfit) hc.2.1
   (gQ k2.plain _ _ _ (λ_ _=>rfl) wK) (by rw[ha2,LH];exact eQ.keeps k2.plain (λ_ _=>rfl)) aB4 (λb hb=>by
    rcases fR.1 hb with hb|hb
    .exact (zt b).2 (.inl (Rw b hb))
    .exact (zt b).2 (.inr (Pz b hb)))
  rw[ha2,ha]at yM;simp only[eI,oS,pS]at yM;obtain⟨rfl,rfl⟩:=yM;have dF:=iY hc.1;refine⟨_,?_,_,hrel.put dst (by simp[R])⟩;unfold yZ at hsz;cases hi':P.info? t with
  |none=>simp[hi']at hsz
  |some inf=>
   simp only[hi',oR,eI]at hsz;have aE1:(a.eval y).cells.size=inf.size:=by rw[hsz];simpa using dF
   simp[execOp,hv,Instr.storeAt,Instr.sureAddr,storeVar,sizeOf,typeInfo,hi',aE1,hst]
def AS.built(s:AS)(d:Option Tmp)(n:Nat)(xs:List Operand):AS:=
 AS.put ⟨s.t,(yC (mX (xs.map s.ev)) (s.o++[⟨true,false,n,0,[]⟩])).set s.o.length ⟨true,false,n,1,(vH s.o (xs.map s.ev)).map AV.cells⟩⟩ d (.obj s.o.length 1)
def yN(parts:List (Nat×Operand)):Bool:=go 0 parts
where go:Nat -> List (Nat × Operand) -> Bool
 |_,[]=>true
 |k,p::r=>p.1 == k&&go (k+1) r
def Fu:∀(parts:List (Nat×Operand)) (k:Nat),yN.go k parts=true->parts=((parts.map (·.2)).zipIdx k).map λp=>(p.2,p.1)
 |[],_,_=>rfl
 |p::r,k,h=>by simp only[yN.go,eK,Ds]at h;simp only[oE,zipIdx_cons];rw[<-Fu r (k+1) h.2,<-h.1]
def wS{t e:TypeId}{n by' len:Nat}{vs:List Value}{w:World}(he:oO P t=some (e,n,by'))(hz:kZ P e n=true)(dF:len=vs.length)(hbig:len*n<=16777216)(hv:∀v∈vs,v.cells.size=n):
  (Instr.buildSlice t len ((vs.zipIdx).map λp=>(p.2,p.1)).toArray).run P w= .ok (.slice (some ⟨w.heap.size,0,none⟩) len len) (w.alloc (.cells (vs.flatMap λv=>v.cells.toList).toArray e)):=by
 obtain⟨hu,inf,hi,hs,_⟩:=tN he;obtain⟨z,hz1,hz2⟩:=Bp hz hi;have hb:¬(16777216<len*inf.size):=by rw[hs];omega
 have hf:∀arr:Array Value,arr.size=len*n->Instr.fill (λi=>some (i*inf.size,inf.size)) arr ((vs.zipIdx).map λp=>(p.2,p.1))=some (vs.flatMap λv=>v.cells.toList).toArray:=by intro arr ha;have:=WB inf.size vs 0 [] arr.toList (by rw[hs];exact hv) (by simp) (by simp[ha,hs,dF]);simpa using this
 by_cases h0:len*inf.size=0
 .have:=hf #[] (by rw[<-hs,h0];rfl);simp[Instr.buildSlice,kO hu,sizeOf,typeInfo,hi,h0,Array.range_zero',this,newRow]
 .have:=hf ((Array.range (len*inf.size)).map (z.cells[· % z.cells.size]!)) (by simp[hs]);simp[Instr.buildSlice,kO hu,sizeOf,typeInfo,hi,hb,h0,zeroValue,hz1,this,newRow]
def QG(t:TypeId)(len:Nat)(parts:Array (Nat×Operand)){e:TypeId}{n by':Nat}(he:oO P t=some (e,n,by'))(hz:kZ P e n=true)(NY:yN parts.toList=true)(dF:len=parts.toList.length)(hbig:len*n<=16777216)(bBb:len<=16777216)
  (rP:pI s.o ((parts.toList.map (·.2)).map s.ev)=true) (hu:(mX ((parts.toList.map (·.2)).map s.ev)).Nodup)
  (hgood:∀x∈vH s.o ((parts.toList.map (·.2)).map s.ev),x.Bn=true/\x.cells.length=n):
  Step P B ⟨dst,.buildSlice t len parts,ty,pos,after,gd⟩ s (s.built dst n (parts.toList.map (·.2))):=
 uI λG a w r=>by
  generalize hxs:parts.toList.map (·.2)=xs at*;have BH:parts.toList=(xs.zipIdx).map λp=>(p.2,p.1):=by rw[<-hxs];exact Fu _ 0 NY
  obtain⟨fp,wK,hnd,Pz⟩:=Kl r _ _ rP hu (uK r xs);obtain⟨Pt,hsz⟩:=Ru wK hgood;have hvl:(xs.map a.eval).length=len:=by rw[dF,<-hxs];simp
  have hrun:(execOp a.eval ⟨dst,.buildSlice t len parts,ty,pos,after,gd⟩).run P w= .ok (.value (.slice (some ⟨w.heap.size,0,none⟩) len len)) (w.alloc (.cells ((xs.map a.eval).flatMap λv=>v.cells.toList).toArray e)):=by
   have e1:parts.map (λ(i,x)=>(i,a.eval x))=(((xs.map a.eval).zipIdx).map λp=>(p.2,p.1)).toArray:=by apply CH;simp only[DO,BH,map_map,zipIdx_map];rfl
   have:=wS (P:=P) (t:=t) (len:=len) (w:=w) he hz hvl.symm hbig hsz;simp only[execOp,e1,pB,this,mT,tR]
  have hadd:=r.add [⟨true,false,n,0,[]⟩] [⟨none,0,λ_=>False⟩] w rfl (eJ _) (λ_ _=>rfl) (λj ob g b hl _ hF=>by
   cases j with
   |zero=>obtain⟨_,h2⟩:=hl;simp at h2;subst h2;exact hF.elim
   |succ j=>simp[Aw.look]at hl) (λi j _ _ gi _ b hi hj _ _ Gl _=>by
   cases i with
   |zero=>obtain⟨_,h2⟩:=hi;simp at h2;subst h2;exact Gl.elim
   |succ i=>simp[Aw.look]at hi) (λk j ob g hl _=>by
   cases j with
   |zero=>obtain⟨h1,h2⟩:=hl;simp at h1 h2;subst h1;subst h2;exact⟨[],⟨by simp,.inl ⟨rfl,rfl,rfl⟩⟩,by simp,by simp⟩
   |succ j=>simp[Aw.look]at hl)
  have hlk:Aw.look (s.o++[⟨true,false,n,0,[]⟩]) (G++[⟨none,0,λ_=>False⟩]) s.o.length ⟨true,false,n,0,[]⟩ ⟨none,0,λ_=>False⟩:=⟨by simp,by rw[<-r.len];simp⟩;have aY:∀j∈mX (xs.map s.ev),∃ob,s.o[j]? =some ob/\ob.fT=true:=λj hj=>Bq rP j hj
  have hlt:∀j∈mX (xs.map s.ev),j<s.o.length:=λj hj=>by obtain⟨ob,h,_⟩:=aY j hj;exact(cU.1 h).1
  obtain⟨G2,g2,r2,k2,LV,ha2,LH,zt⟩:=fZ.NU (k:=s.o.length) (ok:=⟨true,false,n,0,[]⟩) rfl _ hadd.1 hlk hu (λh=>by have:=hlt _ h;omega) (λj hj=>by
   obtain⟨ob,h1,h2⟩:=aY j hj;exact⟨ob,by simp only;rw[oA (hlt j hj)];exact h1,h2⟩)
  have aTn:∀b∈fp,g2.F b:=λb hb=>by obtain⟨i,ob,g,hi,Rt,hil,hf⟩:=Pz b hb;exact(zt b).2 (.inr ⟨i,ob,g,hi,nC Rt,hil,hf⟩)
  have kk:=(hadd.2.trans k2).plain;have hfl:∀b∈fp,b<w.heap.size:=λb hb=>(r2.eB _ _ _ b LV rfl (aTn b hb)).2
  generalize hCd:((xs.map a.eval).flatMap λv=>v.cells.toList)=cs at*;have IU:=mK Pt;have hself:(w.alloc (.cells cs.toArray e)).heap[w.heap.size]? =some (.cells cs.toArray e):=iT w _;have hrl:((vH s.o (xs.map s.ev)).map AV.cells).length=len:=by have:=iY wK;rw[tE,<-this,hvl]
  have WC:len<=maxLen:=by simp only[maxLen];omega
  have hm:=r2.modify LV rfl ⟨true,false,n,1,(vH s.o (xs.map s.ev)).map AV.cells⟩ ⟨some ⟨w.heap.size,0,none⟩,len,λb=>g2.F b\/b=w.heap.size⟩ (w.alloc (.cells cs.toArray e)) (by simp) rfl (by simp)
   (λb hb=>by
    rcases hb with hb|hb
    .exact .inl hb
    .right;subst hb;simp) (λb hb jE=>⟨.inl hb,λa' yM=>by
     obtain rfl:=cX yM;have:=(r2.eB _ _ _ b LV rfl hb).2;simp only;omega⟩) (λb hlt _=>heap_alloc w _ b hlt) (by simp) (λk _=>by
   refine⟨w.heap.size::fp,?_,?_,?_⟩
   .generalize env B _ _ (w.alloc (.cells cs.toArray e))=E' at k⊢;simp only[Env.of,cY,eW];refine⟨by rw[hrl];exact WC,.inr ⟨w.heap.size,0,cs.toArray,e,(0,0),fp,rfl,hself,.inr rfl,?_,by rw[hrl];exact eJ _,WC,rfl,?_⟩⟩
    .simp [IU];rw[<-hrl];simp
    .refine vG.2 ⟨cs,yB k.plain (λb hb=>heap_alloc w _ b (hfl b hb)) (yB kk (λ_ _=>rfl) Pt),?_⟩
     refine tL hself (λj v hv=>by simpa using hv)
   .refine nF.2 ⟨λh=>by have:=hfl _ h;omega,hnd⟩
   .intro b hb;rcases mC.1 hb with rfl|hb
    .exact .inr rfl
    .exact .inl (aTn b hb))
  refine⟨_,_,hrun,_,hm.1.put dst ?_⟩;simp only[R];have h1:=(cU.1 LV.1).1;have h2:=(cU.1 LV.2).1;refine⟨trivial,⟨true,false,n,1,(vH s.o (xs.map s.ev)).map AV.cells⟩,⟨some ⟨w.heap.size,0,none⟩,len,λb=>g2.F b\/b=w.heap.size⟩,⟨?_,?_⟩,eJ _,⟨λ_ _=>by simp only[hrl],λh=>by omega⟩⟩
  .rw [mN h1]
  .rw [mN h2]
def lU(P:Program)(t:TypeId):Option (List (Nat×Nat)):=
 match P.underlying t with
 |some (.struct fields)=>fields.toList.mapM (λf=>(P.info? f.type).map λi=>(f.offset,i.size))
 |some (.array _ e)=>if (P.info? e).isSome then some []else none
 |_=>none
def PD(pl:List (Nat×Nat)):List AV->List (Nat×AV)->Option (List AV)
 |cs,[]=>some cs
 |cs,(i,x)::rest=>match pl[i]? with
  |some (off,size)=>if x.cells.length=size/\off+size<=cs.length then PD pl (cs.take off++x.cells++cs.drop (off+size)) rest else none
  |none=>none
def aAi{G:List CO}{a:Act}{w:World}(r:fZ B s G a w)(pl:List (Nat×Nat)):∀(parts:List (Nat×Operand)) (cs:List AV) (vs:List Value) (z:List AV),(∀p∈parts,(s.ev p.2).fit s.o=true)->
  Rc w (env B s.o G w) cs vs []->(∀x∈vs,x.oneCell'=true)->PD pl cs (parts.map λp=>(p.1,s.ev p.2))=some z->
  ∃vs',Instr.fill (pl.toArray[·]?) vs.toArray (parts.map λp=>(p.1,a.eval p.2))=some vs'.toArray/\Rc w (env B s.o G w) z vs' []/\∀x∈vs',x.oneCell'=true
 |[],cs,vs,z,_,h,ho,hz=>by simp only[GC,PD,eI]at hz;subst hz;exact⟨vs,rfl,h,ho⟩
 |(i,x)::rest,cs,vs,z,hf,h,ho,hz=>by
  simp only[oE,PD]at hz;cases hp:pl[i]? with
  |none=>simp[hp]at hz
  |some p=>
   obtain⟨off,size⟩:=p;simp only[hp]at hz;split at hz
   .rename_i hc;have hx:=Rq (hf (i,x) (by simp)) (r.ev x);have hxl:=iY hx.1;have hl:=iY h;obtain⟨f1,f2,e,h1,h2⟩:=vV off h;obtain⟨rfl,rfl⟩:f1=[]/\f2=[]:=by simpa using e.symm
    obtain⟨f1,f2,e,h3,h4⟩:=vV size h2;obtain⟨rfl,rfl⟩:f1=[]/\f2=[]:=by simpa using e.symm
    rw[Bk,Bk]at h4;have hnew:=mJ (mJ h1 hx.1) h4;have hvl:(vs.take off).length=off:=by simp;omega
    obtain⟨vs',h5,h6,h7⟩:=aAi r pl rest _ (vs.take off++(a.eval x).cells.toList++vs.drop (off+size)) z (λp hp=>hf p (by simp[hp])) hnew (λy hy=>by
     simp only[fR]at hy;rcases hy with(hy|hy)|hy
     .exact ho y (tA hy)
     .exact hx.2.1 y hy
     .exact ho y (BW hy)) hz
    refine⟨vs',?_,h6,h7⟩;simp only[oE,Instr.fill];have hpa:pl.toArray[i]? =some (off,size):=by simpa using hp
    have hsz:(a.eval x).cells.size=size:=by rw[<-hc.1,<-hxl];simp
    simp only[hpa];have aTp:¬(((a.eval x).cells.size≠size) || decide (off+(a.eval x).cells.size > vs.toArray.size))=true:=by simp[hsz];omega
    rw[eC (by simpa using aTp)];have:=NV off (a.eval x).cells.toList 0 (vs.take off) (vs.drop off) (by simpa using hvl) (by simp[hsz];omega);rw[pC]at this;rw[<-Array.foldl_toList,Array.toList_zipIdx,this,<-h5];congr 2;rw[Bk];simp[hsz]
   .cases hz
def zw(t:TypeId)(parts:Array (Nat×Operand)){pl:List (Nat×Nat)}{z0 z:List AV}(hp:lU P t=some pl)(hz0:sS P t=some z0)(hf:∀p∈parts.toList,(s.ev p.2).fit s.o=true)
  (hz:PD pl z0 (parts.toList.map λp=>(p.1,s.ev p.2))=some z):Step P B ⟨dst,.build t parts,ty,pos,after,gd⟩ s (s.put dst (.agg z)):=
 gD λG a w r=>by
  unfold sS at hz0;cases hi:P.info? t with
  |none=>simp[hi]at hz0
  |some inf=>
   cases hv:inf.zero with
   |none=>simp[hi,hv]at hz0
   |some zv=>
    simp only[hi,hv,AD]at hz0;split at hz0
    .rename_i hall;obtain rfl:=cX hz0;obtain⟨vs',h1,h2,h3⟩:=aAi r pl parts.toList _ zv.cells.toList z hf (IP w _ _ _) (fW.1 hall) hz;refine⟨.agg vs'.toArray,?_,by simp only[R];exact⟨vs',rfl,h3,h2⟩⟩;unfold lU at hp;split at hp
     .rename_i fields hu;have hb:P.built t (parts.map λp=>(p.1,a.eval p.2)).toList=some vs'.toArray:=by
       simp only[Program.built,hi,hu,hv,hp];rw[DO,<-h1]
      have hrun:=run_build (P:=P) w t (parts.map λp=>(p.1,a.eval p.2)) vs'.toArray hb;simp only[execOp,pB];rw[show(parts.map λ(x:Nat×Operand)=>match x with|(i,x)=>(i,a.eval x))=parts.map λp=>(p.1,a.eval p.2)from rfl,hrun];rfl
     .rename_i n e hu;split at hp
      .rename_i he;obtain rfl:=cX hp;obtain⟨ie,hie⟩:=CI.1 he;have hpe:parts.toList=[]:=by
        cases hpl:parts.toList with
        |nil=>rfl
        |cons q qs=>rw[hpl]at hz;simp[PD]at hz
       have hb:P.built t (parts.map λp=>(p.1,a.eval p.2)).toList=some vs'.toArray:=by simp only[Program.built,hi,hu,hv,hie];rw[DO,<-h1,hpe];rfl
       have hrun:=run_build (P:=P) w t (parts.map λp=>(p.1,a.eval p.2)) vs'.toArray hb;simp only[execOp,pB];rw[show(parts.map λ(x:Nat×Operand)=>match x with|(i,x)=>(i,a.eval x))=parts.map λp=>(p.1,a.eval p.2)from rfl,hrun];rfl
      .cases hp
     .cases hp
    .cases hz0
def VG(z:Array Value)(n j:Nat)(hj:j<n):(madeCells z n)[j]? =some (z[j%z.size]!):=by simp[madeCells,hj]
def LW{w:World}{E:Env}{c:List AV}{cs:List Value}{n:Nat}(hn:cs.length=n)(ho:∀x∈cs,x.oneCell'=true)(hr:Rc w E c cs []):∀m,Rv w E (replicate m c) (replicate m cs).flatten n []
 |0=>by simp[Rv]
 |m+1=>by simp only[oX,pZ,Rv];exact⟨cs,_,[],[],rfl,hn,ho,hr,LW hn ho hr m,rfl⟩
def Au(cs:List Value):∀(m j:Nat),j<m*cs.length->(replicate m cs).flatten[j]? =cs[j%cs.length]?
 |0,j,h=>by simp at h
 |m+1,j,h=>by
  simp only[oX,pZ];by_cases hj:j<cs.length
  .rw [oA hj,Nat.mod_eq_of_lt hj]
  .rw [lO (by omega),Au cs m (j-cs.length) (by rw[rK]at h;omega)];congr 1;exact(Nat.mod_eq_sub_mod (by omega)).symm
def aFe(t:TypeId){e:TypeId}{n by':Nat}(he:oO P t=some (e,n,by'))(hz:kZ P e n=true):
  Step P B ⟨dst,.buildSlice t 0 #[],ty,pos,after,gd⟩ s (s.put dst (.sl .own n [])):=
 uI λG a w r=>by
  have hrun:=wS (P:=P) (t:=t) (len:=0) (w:=w) (vs:=[]) he hz rfl (by omega) (by simp);have hadd:=r.add [] [] (w.alloc (.cells #[] e)) rfl (by simp) (λb hb=>heap_alloc w _ b hb) (λj ob g b hl=>by simp[Aw.look]at hl) (λi j _ _ _ _ b hi=>by simp[Aw.look]at hi) (λk j ob g hl=>by simp[Aw.look]at hl);simp only[eE]at hadd;refine⟨.slice (some ⟨w.heap.size,0,none⟩) 0 0,w.alloc (.cells #[] e),?_,G,hadd.1.put dst ?_⟩
  .have h2:(Instr.buildSlice t 0 #[]).run P w= .ok (.slice (some ⟨w.heap.size,0,none⟩) 0 0) (w.alloc (.cells #[] e)):=by simpa using hrun
   simp[execOp,h2]
  .simp only[R];exact .inr ⟨_,0,rfl,⟨by simp,by simp⟩,.inl ⟨trivial,trivial,rfl,trivial⟩⟩
def AS.made(s:AS)(d:Option Tmp)(n:Nat)(l:List (List AV)):AS:=AS.put ⟨s.t,s.o++[⟨true,false,n,1,l⟩]⟩ d (.obj s.o.length 1)
def Sv(t:TypeId)(x y:Operand){e:TypeId}{n by':Nat}{k k':IntKind}{l c:Int}{z:List AV}(he:oO P t=some (e,n,by'))(hz:sS P e=some z)(hzn:kZ P e n=true)(hx:s.ev x= .int k l)(hy:s.ev y= .int k' c)
  (h0:0<=l) (h1:l<=c) (hb:(by':Int)*c<=281474976710656) (h63:c<=9223372036854775807) (hn0:0<n):
  Step P B ⟨dst,.makeSlice t x y,ty,pos,after,gd⟩ s (s.made dst n (replicate l.toNat z)):=
 uI λG a w r=>by
  obtain⟨hu,inf,hi,hs,hby⟩:=tN he;obtain⟨zv,hz1,hz2⟩:=Bp hzn hi;have hrun:=run_make (P:=P) w t e inf zv hu hi hz1 k k' l c h0 h1 (by rw[hby];exact hb) h63;unfold sS at hz;simp only[hi,hz1,AD]at hz;split at hz
  .rename_i hall;obtain rfl:=cX hz;have hzl:zv.cells.toList.length=n:=by simpa using hz2
   obtain⟨G',r',k',hG⟩:=r.aTb ⟨true,false,n,1,replicate l.toNat (Yj (zv.cells.toList.map ofV) (slN P 8 e))⟩ c.toNat (madeCells zv.cells (c.toNat*inf.size)) e (by simp;omega) (by simp[maxLen];omega) (by simp[size_madeCells,hs]) (λw' E' k hb=>by
    refine vG.2 ⟨_,LW hzl (fW.1 hall) (IP w' E' _ _) l.toNat,?_⟩;refine tL hb (λj v hv=> ?_);have hj:=(cU.1 hv).1;have hfl:(replicate l.toNat zv.cells.toList).flatten.length=l.toNat*n:=by simp[hz2]
    rw[hfl]at hj;rw[Au _ _ _ (by rw[hzl];exact hj),hzl]at hv;have hle:l.toNat*n<=c.toNat*inf.size:=by rw[hs];exact mB _ (by omega)
    rw[lR,VG _ _ _ (by omega),hz2];have hm:j%n<zv.cells.size:=by rw[hz2];exact Nat.mod_lt _ hn0
    rw[getElem!_pos zv.cells (j%n) hm];rw[<-hv];simp[hm])
   refine⟨.slice (some ⟨w.heap.size,0,none⟩) l.toNat c.toNat,_,by simp only[execOp,r.Kn hx,r.Kn hy,pB,hrun,mT,tR],G',r'.put dst ?_⟩;simp only[R];exact⟨trivial,_,_,Wz hG,eJ _,⟨λ_ _=>by simp,λh=>by omega⟩⟩
  .cases hz
def AS.at(s:AS)(i bY idx:Nat):Option (aI×List AV):=
 match AV.gB s.o i bY with
 |some ob=>match ob.fM[idx]? with
  |some e=>some (ob,e)
  |none=>none
 |none=>none
def BP(P:Program)(t:TypeId)(c:List AV)(off:Nat)(K:AV->Prop):Prop:=
 match nH P t with
 |some n=>off+n<=c.length/\K (.agg ((c.drop off).take n))
 |none=>rY P t=true/\match c[off]? with
  |some y=>K y
  |none=>False
def uA(P:Program)[aG P](o:Oper)(s:AS)(K:AS->Prop):Prop:=
 match o.op with
 | .move x=>K (s.put o.dst (s.ev x))
 | .assign x=>K (s.put o.dst (s.ev x))
 | .pick c x y=>match s.ev c with
  | .bool b=>K (s.put o.dst (if b then s.ev x else s.ev y))
  |_=>False
 | .alloc t=>match sS P t with
  |some z=>K (s.box o.dst z)
  |none=>False
 | .box _ x=>(s.ev x).fit s.o=true/\K (s.box o.dst (s.ev x).cells)
 | .build t parts=>match lU P t with
  |some pl=>match sS P t with
   |some z0=>(∀p∈parts.toList,(s.ev p.2).fit s.o=true)/\match PD pl z0 (parts.toList.map λp=>(p.1,s.ev p.2))with
    |some z=>K (s.put o.dst (.agg z))
    |none=>False
   |none=>False
  |none=>False
 | .buildSlice t len parts=>match oO P t with
  |some (e,n,_)=>kZ P e n=true/\yN parts.toList=true/\len=parts.toList.length/\len*n<=16777216/\len<=16777216/\
    pI s.o ((parts.toList.map (·.2)).map s.ev)=true/\(mX ((parts.toList.map (·.2)).map s.ev)).Nodup/\
    (∀x∈vH s.o ((parts.toList.map (·.2)).map s.ev),x.Bn=true/\x.cells.length=n)/\K (s.built o.dst n (parts.toList.map (·.2)))
  |none=>False
 | .load t x=>match s.ev x with
  | .ptr i bY idx off=>match s.at i bY idx with
   |some (_,e)=>BP P t (tJ (Fp i) true e) off λy=>K (s.put o.dst y)
   |none=>False
  | .iW g c off=>(AV.iW g c off).fit s.o=true/\BP P t c off λy=>K (s.put o.dst y)
  |_=>False
 | .store t x y=>match s.ev x with
  | .ptr i bY idx off=>match s.at i bY idx with
   |some (ob,e)=>(s.ev y).fit s.o=true/\yZ P t=some (s.ev y).cells.length/\off+(s.ev y).cells.length<=e.length/\
     if (ob.box || (s.ev y).cells.all AV.Pv)=true then K ((s.stored i idx off ob e (s.ev y).cells).put o.dst .aB)
     else pI s.o (s.ev y).cells=true/\(mX (s.ev y).cells).Nodup/\i∉mX (s.ev y).cells/\K ((s.shut i idx off ob e (s.ev y).cells).put o.dst .aB)
   |none=>False
  |_=>False
 | .fieldAddr t x f=>match NP P t f with
  |some fo=>match s.ev x with
   | .ptr i bY idx off=>(AV.gB s.o i bY).isSome=true/\K (s.put o.dst (.ptr i bY idx (off+fo)))
   | .iW g c off=>(AV.iW g c off).fit s.o=true/\K (s.put o.dst (.iW g c (off+fo)))
   |_=>False
  |none=>False
 | .indexAddr t x ix=>match s.ev ix with
  | .int _ n=>0<=n/\match s.ev x with
   | .obj i bY=>match AV.gB s.o i bY with
    |some ob=>match oO P t with
     |some (_,m,_)=>m=ob.n/\(ob.box=false\/ob.bY≠2)/\n<ob.fM.length/\K (s.put o.dst (.ptr i bY n.toNat 0))
     |none=>False
    |none=>False
   | .sl g m l=>(AV.sl g m l).fit s.o=true/\match oO P t with
    |some (_,m',_)=>m'=m/\match l[n.toNat]? with
     |some c=>K (s.put o.dst (.iW g c 0))
     |none=>False
    |none=>False
   | .ptr i bY idx off=>(AV.gB s.o i bY).isSome=true/\match aKx P t with
    |some (len,sz)=>n<len/\K (s.put o.dst (.ptr i bY idx (off+n.toNat*sz)))
    |none=>False
   |_=>False
  |_=>False
 | .index t x ix=>match s.ev x with
  | .str l=>match s.ev ix with
   | .int _ n=>isString P t=true/\0<=n/\match l[n.toNat]? with
    |some u=>K (s.put o.dst (.int .u8 u.toNat))
    |none=>False
   |_=>False
  |_=>False
 | .extract x ix=>match s.ev x with
  | .iL c=>match c[ix]? with
   |some y=>K (s.put o.dst y)
   |none=>False
  |_=>False
 | .makeFunc (.func f) ⟨[]⟩ cap=>K (s.put o.dst (.fn f (s.args cap)))
 | .makeSlice t x y=>match oO P t with
  |some (e,n,by')=>match sS P e with
   |some z=>match s.ev x with
    | .int _ l=>match s.ev y with
     | .int _ c=>kZ P e n=true/\0<=l/\l<=c/\(by':Int)*c<=281474976710656/\c<=9223372036854775807/\0<n/\K (s.made o.dst n (replicate l.toNat z))
     |_=>False
    |_=>False
   |none=>False
  |none=>False
 | .slice t x lo hi none=>match s.ev x with
  | .str l=>match s.bound 0 lo with
   |some a=>match s.bound l.length hi with
    |some b=>isString P t=true/\a<=b/\b<=l.length/\K (s.put o.dst (.str ((l.take b).drop a)))
    |none=>False
   |none=>False
  | .sl g n l=>match s.bound 0 lo with
   |some a=>match s.bound l.length hi with
    |some b=>match oO P t with
     |some (_,m,_)=>m=n/\(AV.sl g n l).fit s.o=true/\a<=b/\b<=l.length/\K (s.put o.dst (.sl g n ((l.take b).drop a)))
     |none=>False
    |none=>False
   |none=>False
  | .obj i bY=>match AV.gB s.o i bY with
   |some ob=>match s.bound 0 lo with
    |some a=>match s.bound ob.fM.length hi with
     |some b=>match oO P t with
      |some (_,m,_)=>m=ob.n/\ob.box=false/\a<=b/\b<=ob.fM.length/\K (s.Sr o.dst i ob ((ob.fM.take b).drop a))
      |none=>False
     |none=>False
    |none=>False
   |none=>False
  |_=>False
 | .unOp .not _ x=>match s.ev x with
  | .bool b=>K (s.put o.dst (.bool !b))
  |_=>False
 | .unOp .neg _ x=>match s.ev x with
  | .int k n=>K (s.put o.dst (.int k (k.wrap (0-n))))
  |_=>False
 | .binOp op t x y _=>match s.ev x with
  | .int k m=>match s.ev y with
   | .int k' n=>(k'=k\/op= .shr)/\match Sm op k m n with
    |some z=>K (s.put o.dst z)
    |none=>False
   |_=>False
  | .str l=>match s.ev y with
   | .str m=>(op= .add->l.length+m.length<=9223372036854775807)/\match Yq op l m with
    |some z=>K (s.put o.dst z)
    |none=>False
   |_=>False
  | .bool a=>match s.ev y with
   | .bool b=>(op= .eql\/op= .neq)/\LU P t=true/\K (s.put o.dst (.bool (if op= .eql then a == b else a != b)))
   |_=>False
  | .agg c1=>match s.ev y with
   | .agg c2=>(op= .eql\/op= .neq)/\c1.all AV.scalar=true/\c2.all AV.scalar=true/\∃b,EqA P t c1 c2 b/\K (s.put o.dst (.bool (if op= .eql then b else !b)))
   |_=>False
  |_=>False
 | .convert src d x=>match s.ev x with
  | .int _ n=>match intType P d with
   |some k'=>(P.underlying src).isSome=true/\K (s.put o.dst (.int k' (k'.wrap n)))
   |none=>False
  | .str l=>isString P src=true/\isString P d=true/\K (s.put o.dst (.str l))
  | .sl g n l=>match oO P src with
   |some (e,m,_)=>m=1/\n=1/\(AV.sl g n l).fit s.o=true/\isString P d=true/\intType P e=some .u8/\∃bs,bytesOf l=some bs/\K (s.put o.dst (.str bs))
   |none=>False
  | .obj i bY=>match AV.gB s.o i bY with
   |some ob=>match oO P src with
    |some (e,m,_)=>m=1/\ob.n=1/\isString P d=true/\intType P e=some .u8/\∃bs,bytesOf ob.fM=some bs/\K (s.put o.dst (.str bs))
    |none=>False
   |none=>False
  |_=>False
 | .call ⟨.builtin .len,⟨[x]⟩,⟨[t]⟩⟩=>match s.ev x with
  | .str l=>isString P t=true/\K (s.put o.dst (.int .i64 l.length))
  | .sl g n l=>(AV.sl g n l).fit s.o=true/\isSlice P t=true/\K (s.put o.dst (.int .i64 l.length))
  | .obj i bY=>match AV.gB s.o i bY with
   |some ob=>isSlice P t=true/\K (s.put o.dst (.int .i64 ob.fM.length))
   |none=>False
  |_=>False
 | .call ⟨.builtin .append,⟨[x,y]⟩,⟨[tS,xT]⟩⟩=>match oO P tS with
  |some (e,n,by')=>kZ P e n=true/\tO P xT=true/\match s.target n (s.ev x)with
   |some (i,ob,s1)=>match s1.source i n (s.ev y)with
    |some (l2,o2)=>(ob.fM.length+l2.length)*by'<=140737488355328/\ob.fM.length+l2.length<=9223372036854775807/\K (s.zR o2 o.dst i ob l2)
    |none=>False
   |none=>False
  |none=>False
 | .call ⟨.value f,args,_⟩=>match s.ev f with
  | .fn g cap=>if bV P g=true then∃r,Ok P g (Du s.o (s.args args++cap)) r/\K (s.bW o.dst r)else∃r,OkN P g (Du s.o (s.args args++cap)) r/\K (s.put o.dst r)
  |_=>False
 | .nilCheck x=>match s.ev x with
  | .ptr i bY idx off=>(AV.gB s.o i bY).isSome=true/\K (s.put o.dst (.ptr i bY idx off))
  | .iW g c off=>(AV.iW g c off).fit s.o=true/\K (s.put o.dst (.iW g c off))
  |_=>False
 |_=>False
def VH(P:Program)(o:Oper)(s:AS)(K:AS->Prop):Prop:=
 match o.op with
 | .buildSlice t 0 ⟨[]⟩=>match oO P t with
  |some (e,n,_)=>kZ P e n=true/\K (s.put o.dst (.sl .own n []))
  |none=>False
 |_=>False
def BU{s:AS}{i bY idx:Nat}{ob:aI}{e:List AV}(h:s.at i bY idx=some (ob,e)):AV.gB s.o i bY=some ob/\ob.fM[idx]? =some e:=by
 unfold AS.at at h;split at h
 .rename_i ob' h1;split at h
  .rename_i e' h2;simp only[eI,oT]at h;obtain⟨rfl,rfl⟩:=h;exact⟨h1,h2⟩
  .cases h
 .cases h
def Kr{s:AS}{i bY:Nat}(h:(AV.gB s.o i bY).isSome=true):∃ob,AV.gB s.o i bY=some ob:=CI.1 h
def aB5{P:Program}[aG P]{B:gL P}{s:AS}{dst:Option Tmp}{ty:TypeId}{pos:String}{after:Array Edge}{gd:Option (Nat×Bool)}{t:TypeId}{x:Operand}{i bY idx off:Nat}{ob:aI}{e:List AV}{K:AS->Prop}
  (hx:s.ev x= .ptr i bY idx off) (ha:s.at i bY idx=some (ob,e)) (h:BP P t (tJ (Fp i) true e) off λy=>K (s.put dst y)):∃s',K s'/\Step P B ⟨dst,.load t x,ty,pos,after,gd⟩ s s':=by
 obtain⟨h1,h2⟩:=BU ha;unfold BP at h;split at h
 .rename_i n hn;exact⟨_,h.2,LM t x hx h1 h2 hn (by have:=h.1;rwa[Fq]at this)⟩
 .split at h
  .rename_i y hy;exact⟨_,h.2,LP t x hx h1 h2 h.1 hy⟩
  .exact h.2.elim
def zx{P:Program}[aG P]{B:gL P}{s:AS}{dst:Option Tmp}{ty:TypeId}{pos:String}{after:Array Edge}{gd:Option (Nat×Bool)}{t:TypeId}{x:Operand}{g:Tg}{c:List AV}{off:Nat}{K:AS->Prop}
  (hx:s.ev x= .iW g c off) (hf:(AV.iW g c off).fit s.o=true) (h:BP P t c off λy=>K (s.put dst y)):∃s',K s'/\Step P B ⟨dst,.load t x,ty,pos,after,gd⟩ s s':=by
 unfold BP at h;split at h
 .rename_i n hn;exact⟨_,h.2,Ki t x hx hf hn h.1⟩
 .split at h
  .rename_i y hy;exact⟨_,h.2,Kj t x hx hf h.1 hy⟩
  .exact h.2.elim
def Yr(x:Operand){i bY idx off:Nat}{ob:aI}(hx:s.ev x= .ptr i bY idx off)(ho:AV.gB s.o i bY=some ob):Step P B ⟨dst,.nilCheck x,ty,pos,after,gd⟩ s (s.put dst (.ptr i bY idx off)):=
 gD λG a w r=>by obtain⟨g,b,f,_,_,_,hv⟩:=r.ptr hx ho;refine⟨a.eval x,?_,by have:=r.ev x;rwa[hx]at this⟩;simp only[execOp];rw[hv];rfl
def VI(x:Operand){g:Tg}{c:List AV}{off:Nat}(hx:s.ev x= .iW g c off)(hf:(AV.iW g c off).fit s.o=true):Step P B ⟨dst,.nilCheck x,ty,pos,after,gd⟩ s (s.put dst (.iW g c off)):=
 gD λG a w r=>by
  have h:=r.ev x;rw[hx]at h;refine⟨a.eval x,?_,h⟩;have h':=h;simp only[R]at h';rcases h' with⟨hd,_⟩|⟨_,b,o,cs,hv,_⟩
  .cases g with
   |own=>exact hd.elim
   |view=>exact hd.elim
   |mQ i=>exfalso;simp only[AV.fit]at hf;refine hd (λob wF=> ?_);simpa [wF]using hf
  .simp only[execOp];rw[hv];rfl
def Cq{P:Program}[aG P]{B:gL P}{o:Oper}{s:AS}{K:AS->Prop}(h:uA P o s K):∃s',K s'/\Step P B o s s':=by
 obtain⟨dst,op,ty,pos,after,gd⟩:=o;unfold uA at h;dsimp only at h;split at h;case h_1=>exact⟨_,h,aBy _⟩
 case h_2=>exact⟨_,h,ZM _⟩
 case h_3=>
  split at h
  .rename_i hc;exact⟨_,h,aB1 _ _ _ hc⟩
  .exact h.elim
 case h_4=>
  split at h
  .rename_i hz;exact⟨_,h,zi _ hz⟩
  .exact h.elim
 case h_5=>exact⟨_,h.2,aEx _ _ h.1⟩
 case h_6=>
  split at h
  .rename_i hp;split at h
   .rename_i hz;obtain⟨h1,h⟩:=h;split at h
    .rename_i hf;exact⟨_,h,zw _ _ hp hz h1 hf⟩
    .exact h.elim
   .exact h.elim
  .exact h.elim
 case h_7=>
  split at h
  .rename_i he;obtain⟨h1,h2,h3,h4,h5,h6,h7,h8,h9⟩:=h;exact⟨_,h9,QG _ _ _ he h1 h2 h3 h4 h5 h6 h7 h8⟩
  .exact h.elim
 case h_8=>
  split at h
  .rename_i hx;split at h
   .rename_i ha;exact aB5 hx ha h
   .exact h.elim
  .rename_i hx;exact zx hx h.1 h.2
  .exact h.elim
 case h_9=>
  split at h
  .rename_i hx;split at h
   .rename_i ha;obtain⟨a1,a2⟩:=BU ha;obtain⟨h1,h2,h3,h⟩:=h;split at h
    .rename_i hb;exact⟨_,h,zo _ _ _ hx a1 a2 h1 h2 h3 (by simpa using hb)⟩
    .rename_i hb;obtain⟨h4,h5,h6,h7⟩:=h;exact⟨_,h7,NZ _ _ _ hx a1 a2 h1 h2 h3 (by simp at hb;exact hb.1) h4 h5 h6⟩
   .exact h.elim
  .exact h.elim
 case h_10=>
  split at h
  .rename_i hf;split at h
   .rename_i hx;obtain⟨ob,ho⟩:=Kr h.1;exact⟨_,h.2,Sc _ _ _ hx ho hf⟩
   .rename_i hx;exact⟨_,h.2,QE _ _ _ hx h.1 hf⟩
   .exact h.elim
  .exact h.elim
 case h_11=>
  split at h
  .rename_i hi;obtain⟨h0,h⟩:=h;split at h
   .rename_i hx;split at h
    .rename_i ho;split at h
     .rename_i he;obtain⟨rfl,hb,h1,h2⟩:=h;exact⟨_,h2,Sj _ _ _ hx ho hi he h0 h1 hb⟩
     .exact h.elim
    .exact h.elim
   .rename_i hx;obtain⟨hf,h⟩:=h;split at h
    .rename_i he;obtain⟨rfl,h⟩:=h;split at h
     .rename_i hc;exact⟨_,h,VB _ _ _ hx hf hi he h0 hc⟩
     .exact h.elim
    .exact h.elim
   .rename_i hx;obtain⟨hs,h⟩:=h;obtain⟨ob,ho⟩:=Kr hs;split at h
    .rename_i ha;exact⟨_,h.2,Sk _ _ _ hx ho hi ha h0 h.1⟩
    .exact h.elim
   .exact h.elim
  .exact h.elim
 case h_12=>
  split at h
  .rename_i hx;split at h
   .rename_i hi;obtain⟨ht,h0,h⟩:=h;split at h
    .rename_i hu;exact⟨_,h,Sl _ _ _ hx hi ht h0 hu⟩
    .exact h.elim
   .exact h.elim
  .exact h.elim
 case h_13=>
  split at h
  .rename_i hx;split at h
   .rename_i hy;exact⟨_,h,Yn _ _ hx hy⟩
   .exact h.elim
  .exact h.elim
 case h_14=>exact⟨_,h,VC _ _⟩
 case h_15=>
  split at h
  .rename_i he;split at h
   .rename_i hz;split at h
    .rename_i hx;split at h
     .rename_i hy;obtain⟨h1,h2,h3,h4,h5,h6,h7⟩:=h;exact⟨_,h7,Sv _ _ _ he hz h1 hx hy h2 h3 h4 h5 h6⟩
     .exact h.elim
    .exact h.elim
   .exact h.elim
  .exact h.elim
 case h_16=>
  split at h
  .rename_i hx;split at h
   .rename_i hl;split at h
    .rename_i hh;obtain⟨h1,h2,h3,h4⟩:=h;exact⟨_,h4,Sn _ _ _ _ hx h1 hl hh h2 h3⟩
    .exact h.elim
   .exact h.elim
  .rename_i hx;split at h
   .rename_i hl;split at h
    .rename_i hh;split at h
     .rename_i he;obtain⟨rfl,h1,h2,h3,h4⟩:=h;exact⟨_,h4,VD _ _ _ _ hx h1 he hl hh h2 h3⟩
     .exact h.elim
    .exact h.elim
   .exact h.elim
  .rename_i hx;split at h
   .rename_i ho;split at h
    .rename_i hl;split at h
     .rename_i hh;split at h
      .rename_i he;obtain⟨rfl,h1,h2,h3,h4⟩:=h;exact⟨_,h4,Su _ _ _ _ hx ho h1 he hl hh h2 h3⟩
      .exact h.elim
     .exact h.elim
    .exact h.elim
   .exact h.elim
  .exact h.elim
 case h_17=>
  split at h
  .rename_i hx;exact⟨_,h,aE3 _ _ hx⟩
  .exact h.elim
 case h_18=>
  split at h
  .rename_i hx;exact⟨_,h,aE4 _ _ hx⟩
  .exact h.elim
 case h_19=>
  split at h
  .rename_i hx;split at h
   .rename_i hy;obtain⟨hkk,h⟩:=h;split at h
    .rename_i hz;exact⟨_,h,aE6 _ _ _ _ _ hx hy hkk hz⟩
    .exact h.elim
   .exact h.elim
  .rename_i hx;split at h
   .rename_i hy;obtain⟨hle,h⟩:=h;split at h
    .rename_i hz;exact⟨_,h,aFd _ _ _ _ _ hx hy hz hle⟩
    .exact h.elim
   .exact h.elim
  .rename_i hx;split at h
   .rename_i hy;exact⟨_,h.2.2,Yp _ _ _ _ _ h.1 hx hy h.2.1⟩
   .exact h.elim
  .rename_i hx;split at h
   .rename_i hy;obtain⟨h1,h2,h3,b,h4,h5⟩:=h;exact⟨_,h5,ZX _ _ _ _ _ h1 hx hy h2 h3 h4⟩
   .exact h.elim
  .exact h.elim
 case h_20=>
  split at h
  .rename_i hx;split at h
   .rename_i hk;exact⟨_,h.2,VE _ _ _ hx hk h.1⟩
   .exact h.elim
  .rename_i hx;exact⟨_,h.2.2,VF _ _ _ hx h.2.1 h.1⟩
  .rename_i hx;split at h
   .rename_i he;obtain⟨rfl,rfl,h1,h2,h3,bs,h4,h5⟩:=h;exact⟨_,h5,GX _ _ _ hx h1 h2 he h3 h4⟩
   .exact h.elim
  .rename_i hx;split at h
   .rename_i ho;split at h
    .rename_i he;obtain⟨rfl,h1,h2,h3,bs,h4,h5⟩:=h;exact⟨_,h5,Jr _ _ _ hx ho h2 he h1 h3 h4⟩
    .exact h.elim
   .exact h.elim
  .exact h.elim
 case h_21=>
  split at h
  .rename_i hx;exact⟨_,h.2,Ym _ _ hx h.1⟩
  .rename_i hx;exact⟨_,h.2.2,ZV _ _ hx h.1 h.2.1⟩
  .rename_i hx;split at h
   .rename_i ho;exact⟨_,h.2,Yl _ _ hx ho h.1⟩
   .exact h.elim
  .exact h.elim
 case h_22=>
  split at h
  .rename_i he;obtain⟨h1,h2,h⟩:=h;split at h
   .rename_i ht;split at h
    .rename_i hs;obtain⟨h3,h4,h5⟩:=h;exact⟨_,h5,step_append _ _ _ _ he h1 h2 ht hs h3 h4⟩
    .exact h.elim
   .exact h.elim
  .exact h.elim
 case h_23=>
  split at h
  .rename_i hf;split at h
   .rename_i h1;obtain⟨r,h2,h3⟩:=h;exact⟨_,h3,aB0 _ _ _ hf h1 h2⟩
   .obtain ⟨r,h2,h3⟩:=h;exact⟨_,h3,ZO _ _ _ hf h2⟩
  .exact h.elim
 case h_24=>
  split at h
  .rename_i hx;obtain⟨ob,ho⟩:=Kr h.1;exact⟨_,h.2,Yr _ hx ho⟩
  .rename_i hx;exact⟨_,h.2,VI _ hx h.1⟩
  .exact h.elim
 case h_25=>exact h.elim
def Sw{P:Program}[aG P]{B:gL P}{o:Oper}{s:AS}{K:AS->Prop}(h:VH P o s K):∃s',K s'/\Step P B o s s':=by
 obtain⟨dst,op,ty,pos,after,gd⟩:=o;unfold VH at h;dsimp only at h;split at h
 .split at h
  .rename_i he;exact⟨_,h.2,aFe _ he h.1⟩
  .exact h.elim
 .exact h.elim
def AV.lC:AV->Bool
 | .int _ _=>true
 | .bool _=>true
 | .str _=>true
 |_=>false
def vJ(w:World)(O:Nat->Prop):Env:=⟨λb=>b<w.heap.size/\¬O b,λ_=>True,λ_ _=>False,λ_ _ _=>False,λ_ _ _ _ _=>False⟩
def OkM(P:Program)[aG P](f:FuncId)(x x':AV)(rest:List AV)(r:AV):Prop:=
 ∀(w:World) (v:Value) (vs:List Value) (fp:List Nat),aG.holds P w->(∀b∈fp,aG.low P<=b)->R w (vJ w (· ∈fp)) x v fp->fp.Nodup->(∀b∈fp,b<w.heap.size)->Rc w (vJ w (· ∈fp)) rest vs []->
  Calls P f (v::vs).toArray w λe w'=>∃u Dr,e= .returned u/\R w' pY r u []/\R w' pY x' v Dr/\Dr.Nodup/\
   (∀b∈Dr,(b∈fp\/w.heap.size<=b)/\b<w'.heap.size)/\w.heap.size<=w'.heap.size/\(∀b,b<w.heap.size->b∉fp->w'.heap[b]? =w.heap[b]?)/\nZ w w'
mutual
def mt(o:List aI):AV->AV->Bool
 | .obj i _,.sl .own n _=>match o[i]? with
  |some ob=>decide (ob.n=n)
  |none=>false
 | .agg c,.agg c'=>mtc o c c'
 | .int _ _,x=>x.lC
 | .bool _,x=>x.lC
 | .str _,x=>x.lC
 |_,_=>false
def mtc(o:List aI):List AV->List AV->Bool
 |[],[]=>true
 |x::xs,y::ys=>mt o x y&&mtc o xs ys
 |_,_=>false
end
mutual
def Fv:AV->AV->List (Nat×List (List AV))
 | .obj i _,.sl _ _ rows=>[(i,rows)]
 | .agg c,.agg c'=>GZ c c'
 |_,_=>[]
def GZ:List AV->List AV->List (Nat×List (List AV))
 |x::xs,y::ys=>Fv x y++GZ xs ys
 |_,_=>[]
end
def Oa{w:World}{E:Env}{x:AV}{v:Value}{fp:List Nat}(hx:x.lC=true)(h:R w E x v fp):fp=[]:=by cases x<;>simp only[AV.lC]at hx<;>first|(cases hx;done)|(simp only[R]at h;exact h.2)
structure Part where
  i:Nat
  rows:List (List AV)
  fp:List Nat
def aFg(o:List aI)(G:List CO)(w':World)(p:Part):Prop:=
 ∃ob g,look o G p.i ob g/\ob.fT=true/\ob.box=false/\uH w' pY ob.n p.rows g.a g.cap p.fp/\p.rows.length=ob.fM.length
def sH(L:List Part):List Nat:=L.flatMap (·.fp)
mutual
theorem aAj{P:Program}[aG P]{B:gL P}{s:AS}{G:List CO}{w w':World}:∀(x x':AV) (v:Value) (Dr:List Nat),kV s.o x=true->mt s.o x x'=true->R w (env B s.o G w) x v []->R w' pY x' v Dr->
  ∃L:List Part,L.map (·.i)=mG x/\Fv x x'=L.map (λp=>(p.i,p.rows))/\Dr=sH L/\∀p∈L,aFg s.o G w' p
 | .obj i bY,.sl .own n rows,v,Dr,ho,hm,h,h'=>by
  cases wF:AV.gB s.o i bY with
  |none=>simp[kV,wF]at ho
  |some ob=>simp only[kV,wF]at ho;simp only[R]at h;obtain⟨_,ob',g,hl,_,hh,_⟩:=h;obtain⟨h1,h2,h3⟩:=mV wF;obtain rfl:=cX (hl.1.symm.trans h1);have hv:=hh h2 h3;obtain⟨a,cap,hv',eQ⟩:=vU.1 h';rw[hv]at hv';simp only[Value.slice.injEq]at hv';obtain⟨rfl,dF,rfl⟩:=hv';simp only[mt,h1,fY]at hm;refine⟨[⟨i,rows,Dr⟩],rfl,rfl,by simp[sH],?_⟩;intro p hp;simp at hp;subst hp;exact⟨_,g,hl,h2,by simpa using ho,by rw[hm];exact eQ,dF.symm⟩
 | .agg c,.agg c',v,Dr,ho,hm,h,h'=>by
  simp only[R]at h h';obtain⟨cs,rfl,_,hr⟩:=h;obtain⟨cs',hv,_,hr'⟩:=h';have:cs=cs':=by simpa using hv
  subst this;obtain⟨L,h1,h2,h3,h4⟩:=ZZ c c' cs Dr (by simpa [kV]using ho) (by simpa [mt]using hm) hr hr';exact⟨L,by simpa [mG]using h1,by simpa [Fv]using h2,h3,h4⟩
 | .int _ _,x',v,Dr,_,hm,_,h'=>⟨[],rfl,by simp[Fv],by simpa [sH]using Oa (by simpa [mt]using hm) h',by simp⟩
 | .bool _,x',v,Dr,_,hm,_,h'=>⟨[],rfl,by simp[Fv],by simpa [sH]using Oa (by simpa [mt]using hm) h',by simp⟩
 | .str _,x',v,Dr,_,hm,_,h'=>⟨[],rfl,by simp[Fv],by simpa [sH]using Oa (by simpa [mt]using hm) h',by simp⟩
 | .sl _ _ _,_,_,_,_,hm,_,_=>by simp[mt]at hm
 | .iW _ _ _,_,_,_,_,hm,_,_=>by simp[mt]at hm
 | .ptr _ _ _ _,_,_,_,_,hm,_,_=>by simp[mt]at hm
 | .iL _,_,_,_,_,hm,_,_=>by simp[mt]at hm
 | .fn _ _,_,_,_,_,hm,_,_=>by simp[mt]at hm
 | .aB,_,_,_,_,hm,_,_=>by simp[mt]at hm
 | .obj _ _,.sl .view _ _,_,_,_,hm,_,_=>by simp[mt]at hm
 | .obj _ _,.sl (.mQ _) _ _,_,_,_,hm,_,_=>by simp[mt]at hm
 | .obj _ _,.int _ _,_,_,_,hm,_,_=>by simp[mt]at hm
 | .obj _ _,.bool _,_,_,_,hm,_,_=>by simp[mt]at hm
 | .obj _ _,.str _,_,_,_,hm,_,_=>by simp[mt]at hm
 | .obj _ _,.iW _ _ _,_,_,_,hm,_,_=>by simp[mt]at hm
 | .obj _ _,.obj _ _,_,_,_,hm,_,_=>by simp[mt]at hm
 | .obj _ _,.ptr _ _ _ _,_,_,_,hm,_,_=>by simp[mt]at hm
 | .obj _ _,.agg _,_,_,_,hm,_,_=>by simp[mt]at hm
 | .obj _ _,.iL _,_,_,_,hm,_,_=>by simp[mt]at hm
 | .obj _ _,.fn _ _,_,_,_,hm,_,_=>by simp[mt]at hm
 | .obj _ _,.aB,_,_,_,hm,_,_=>by simp[mt]at hm
 | .agg _,.sl _ _ _,_,_,_,hm,_,_=>by simp[mt]at hm
 | .agg _,.int _ _,_,_,_,hm,_,_=>by simp[mt]at hm
 | .agg _,.bool _,_,_,_,hm,_,_=>by simp[mt]at hm
 | .agg _,.str _,_,_,_,hm,_,_=>by simp[mt]at hm
 | .agg _,.iW _ _ _,_,_,_,hm,_,_=>by simp[mt]at hm
 | .agg _,.obj _ _,_,_,_,hm,_,_=>by simp[mt]at hm
 | .agg _,.ptr _ _ _ _,_,_,_,hm,_,_=>by simp[mt]at hm
 | .agg _,.iL _,_,_,_,hm,_,_=>by simp[mt]at hm
 | .agg _,.fn _ _,_,_,_,hm,_,_=>by simp[mt]at hm
 | .agg _,.aB,_,_,_,hm,_,_=>by simp[mt]at hm
theorem ZZ{P:Program}[aG P]{B:gL P}{s:AS}{G:List CO}{w w':World}:∀(c c':List AV) (cs:List Value) (Dr:List Nat),pI s.o c=true->mtc s.o c c'=true->Rc w (env B s.o G w) c cs []->Rc w' pY c' cs Dr->
  ∃L:List Part,L.map (·.i)=mX c/\GZ c c'=L.map (λp=>(p.i,p.rows))/\Dr=sH L/\∀p∈L,aFg s.o G w' p
 |[],[],[],Dr,_,_,_,h'=>by simp only[Rc]at h';exact⟨[],rfl,by simp[GZ],by simp[h',sH],by simp⟩
 |[],[],_::_,_,_,_,h,_=>by simp[Rc]at h
 |[],_::_,_,_,_,hm,_,_=>by simp[mtc]at hm
 |_::_,[],_,_,_,hm,_,_=>by simp[mtc]at hm
 |_::_,_::_,[],_,_,_,h,_=>by simp[Rc]at h
 |x::xs,y::ys,c::cs,Dr,ho,hm,h,h'=>by
  simp only[Rc]at h h';obtain⟨g1,g2,h1,h2,e⟩:=h;obtain⟨rfl,rfl⟩:g1=[]/\g2=[]:=by simpa using e
  obtain⟨f1,f2,h1',h2',rfl⟩:=h';simp only[pI,eK]at ho;simp only[mtc,eK]at hm;obtain⟨L1,a1,a2,rfl,a4⟩:=aAj x y c f1 ho.1 hm.1 h1 h1';obtain⟨L2,b1,b2,rfl,b4⟩:=ZZ xs ys cs f2 ho.2 hm.2 h2 h2';refine⟨L1++L2,by simp[mX,a1,b1],by simp[GZ,a2,b2],by simp[sH],?_⟩;intro p hp;rcases fR.1 hp with hp|hp
  .exact a4 p hp
  .exact b4 p hp
end
def lV(u:List Nat):Tg->Option Tg
 | .own=>none
 | .view=>some .view
 | .mQ i=>if i∈u then none else some (.mQ i)
def AV.nd:AV->Bool
 | .int _ _=>true
 | .bool _=>true
 | .str _=>true
 | .sl .own _ _=>true
 | .obj _ _=>true
 | .ptr _ _ _ _=>true
 |_=>false
def aXk{w:World}{E:Env}{D:Nat->Nat->Prop}{x:AV}{v:Value}{fp:List Nat}(hx:x.nd=true)(h:R w E x v fp):R w {E with D:=D} x v fp:=by
 cases x with
 |int _ _=>simpa [R]using h
 |bool _=>simpa [R]using h
 |str _=>simpa [R]using h
 |sl g n l=>
  cases g with
  |own=>obtain⟨a,cap,hv,eQ⟩:=vU.1 h;exact vU.2 ⟨a,cap,hv,eQ⟩
  |_=>cases hx
 |obj _ _=>simp only[R]at h⊢;exact h
 |ptr _ _ _ _=>simp only[R]at h⊢;exact h
 |_=>cases hx
def aN5{w:World}{E:Env}{D:Nat->Nat->Prop}:∀{c:List AV} {cs:List Value} {fp:List Nat},c.all AV.nd=true->Rc w E c cs fp->Rc w {E with D:=D} c cs fp
 |[],[],_,_,h=>h
 |[],_::_,_,_,h=>by simp[Rc]at h
 |_::_,[],_,_,h=>by simp[Rc]at h
 |x::xs,c::cs,fp,hp,h=>by simp only[Rc]at h⊢;simp only[Cl,eK]at hp;obtain⟨f1,f2,h1,h2,h3⟩:=h;exact⟨f1,f2,aXk hp.1 h1,aN5 hp.2 h2,h3⟩
def aFh{w:World}{E:Env}{D:Nat->Nat->Prop}:∀{l:List (List AV)} {b off n:Nat} {fp:List Nat},(l.all λr=>r.all AV.nd)=true->Rr w E l b off n fp->Rr w {E with D:=D} l b off n fp
 |[],_,_,_,_,_,h=>h
 |e::es,b,off,n,fp,hp,h=>by simp only[Rr]at h⊢;simp only[Cl,eK]at hp;obtain⟨cs,f1,f2,h1,h2,h3,h4,h5,h6⟩:=h;exact⟨cs,f1,f2,h1,h2,h3,aN5 hp.1 h4,aFh hp.2 h5,h6⟩
def Fw(l:List (List AV)):Bool:=l.all λr=>r.all AV.nd
def zy:Fw []=true:=rfl
def aa(r:List AV)(l:List (List AV)):Fw (r::l)=(r.all AV.nd&&Fw l):=rfl
def zz{l:List (List AV)}{k:Nat}{r:List AV}(h:Fw l=true)(hr:r.all AV.nd=true):Fw (l.set k r)=true:=by
 unfold Fw at*;rw[fW]at h⊢;intro x hx;rcases rN hx with hx|rfl
 .exact h x hx
 .exact hr
def aI.forget(ob:aI)(u:List Nat):aI:=
 if ob.box then(if Fw ob.fM=true then ob else {ob with fM:=lW (lV u) true ob.fM})else ob
def qE(ob:aI)(u:List Nat):(ob.forget u).fT=ob.fT:=by unfold aI.forget;split<;>(try split)<;>rfl
def Sy(ob:aI)(u:List Nat):(ob.forget u).bY=ob.bY:=by unfold aI.forget;split<;>(try split)<;>rfl
def Sz(ob:aI)(u:List Nat):(ob.forget u).box=ob.box:=by unfold aI.forget;split<;>(try split)<;>rfl
def ae(ob:aI)(u:List Nat):(ob.forget u).n=ob.n:=by unfold aI.forget;split<;>(try split)<;>rfl
def SA(ob:aI)(u:List Nat):(ob.forget u).fM.length=ob.fM.length:=by unfold aI.forget;split<;>(try split)<;>simp[oD]
def aI.aPn(ob:aI)(N:List (Nat×List (List AV)))(u:List Nat)(i:Nat):aI:=
 match N.find? (λp=>p.1 == i)with
 |some p=>{ob with fM:=p.2}
 |none=>ob.forget u
def SB(N:List (Nat×List (List AV)))(u:List Nat):Nat->List aI->List aI
 |_,[]=>[]
 |i,ob::r=>ob.aPn N u i::SB N u (i+1) r
def af(N:List (Nat×List (List AV)))(u:List Nat):∀(o:List aI) (k i:Nat),(SB N u k o)[i]? =(o[i]?).map λob=>ob.aPn N u (k+i)
 |[],_,_=>by simp[SB]
 |ob::r,k,0=>by simp[SB]
 |ob::r,k,i+1=>by simp only[SB,AE];rw[af N u r (k+1) i,show k+1+i=k+(i+1)by omega]
def AS.Yt(s:AS)(d:Option Tmp)(x x' r:AV):AS:=
 AS.put ⟨tJ (lV (mG x)) true s.t,SB (Fv x x') (mG x) 0 s.o⟩ d r
def VJ(L:List Part):Nat->List CO->List CO
 |_,[]=>[]
 |i,g::r=>(match L.find? (λp=>p.i == i)with
  |some p=>{g with F:=λb=>b∈p.fp}
  |none=>g)::VJ L (i+1) r
def ag(L:List Part):∀(G:List CO) (k i:Nat),(VJ L k G)[i]? =(G[i]?).map λg=>match L.find? (λp=>p.i == k+i)with
  |some p=>{g with F:=λb=>b∈p.fp}
  |none=>g
 |[],_,_=>by simp[VJ]
 |g::r,k,0=>by simp[VJ]
 |g::r,k,i+1=>by simp only[VJ,AE];rw[ag L r (k+1) i,show k+1+i=k+(i+1)by omega]
def Ha(L:List Part):∀(G:List CO) (k:Nat),(VJ L k G).length=G.length
 |[],_=>rfl
 |g::r,k=>by simp[VJ,Ha L r]
def Hd(N:List (Nat×List (List AV)))(u:List Nat):∀(o:List aI) (k:Nat),(SB N u k o).length=o.length
 |[],_=>rfl
 |g::r,k=>by simp[SB,Hd N u r]
def SC{w w':World}{E E':Env}{x:AV}{v:Value}(hx:x.lC=true)(h:R w E x v []):R w' E' x v []:=by cases x<;>simp only[AV.lC]at hx<;>first|(cases hx;done)|(simp only[R]at h⊢;exact h)
@[simp] def AV.SE:AV->Bool
 | .fn _ []=>true
 |x=>x.lC
def A7{w w':World}{E E':Env}{x:AV}{v:Value}(hx:x.SE=true)(h:R w E x v []):R w' E' x v []:=by
 unfold AV.SE at hx;split at hx
 .simp only[R]at h⊢;obtain⟨e,cs,h1,h2⟩:=h;exact⟨e,cs,h1,by cases cs<;>simp_all[Rc]⟩
 .exact SC hx h
def Rx{L:List Part}{b:Nat}:b∈sH L↔∃p∈L,b∈p.fp:=by simp[sH]
def WE:∀{L:List Part},(sH L).Nodup->∀p∈L,∀q∈L,∀b,b∈p.fp->b∈q.fp->p=q
 |[],_,p,hp,_,_,_,_,_=>by cases hp
 |x::L,h,p,ze,q,hq0,b,hbp,hbq=>by
  simp only[sH,flatMap_cons,lE]at h;rcases mC.1 ze with e1|hp<;>rcases mC.1 hq0 with e2|hq
  .rw [e1,e2]
  .exact absurd rfl (h.2.2 b (e1▸hbp) b (Hc.2 ⟨q,hq,hbq⟩))
  .exact absurd rfl (h.2.2 b (e2▸hbq) b (Hc.2 ⟨p,hp,hbp⟩))
  .exact WE h.2.1 p hp q hq b hbp hbq
def ah:∀{L:List Part},(sH L).Nodup->∀p∈L,p.fp.Nodup
 |[],_,p,hp=>by cases hp
 |x::L,h,p,hp=>by
  simp only[sH,flatMap_cons,lE]at h;rcases mC.1 hp with rfl|hp
  .exact h.1
  .exact ah h.2.1 p hp
def aFi{o:List aI}{G:List CO}{L:List Part}{u:List Nat}{i:Nat}{ob':aI}{g':CO}(h:look (SB (L.map λp=>(p.i,p.rows)) u 0 o) (VJ L 0 G) i ob' g'):
  ∃ob g,look o G i ob g/\((∃p∈L,p.i=i/\ob'={ob with fM:=p.rows}/\g'={g with F:=λb=>b∈p.fp})\/
   ((∀p∈L,p.i≠i)/\ob'=ob.forget u/\g'=g)):=by
 obtain⟨h1,h2⟩:=h;rw[af,lR]at h1;rw[ag,lR]at h2;cases ho:o[i]? with
 |none=>simp[ho]at h1
 |some ob=>
  cases hg:G[i]? with
  |none=>simp[hg]at h2
  |some g=>
   rw[ho]at h1;rw[hg]at h2;simp only[oR,eI]at h1 h2;refine⟨ob,g,⟨ho,hg⟩,?_⟩;have hfm:(L.map λp=>(p.i,p.rows)).find? (λp=>p.1 == i)=(L.find? (λp=>p.i == i)).map λp=>(p.i,p.rows):=by rw[find?_map];rfl
   unfold aI.aPn at h1;rw[hfm]at h1;cases hf:L.find? (λp=>p.i == i)with
   |some p=>rw[hf]at h1 h2;left;exact⟨p,pN hf,by have:=FA hf;simpa using this,h1.symm,h2.symm⟩
   |none=>rw[hf]at h1 h2;right;refine⟨λp hp e=> ?_,h1.symm,h2.symm⟩;have:=Fi.1 hf p hp;simp[e]at this
def aFj{o:List aI}{G:List CO}{L:List Part}{u:List Nat}{i:Nat}{ob:aI}{g:CO}(h:look o G i ob g):
  ∃ob' g',look (SB (L.map λp=>(p.i,p.rows)) u 0 o) (VJ L 0 G) i ob' g':=by
 have h1:=(cU.1 h.1).1;have h2:=(cU.1 h.2).1;exact⟨_,_,aE (by rw[Hd];exact h1),aE (by rw[Ha];exact h2)⟩
def WG{w:World}{E E':Env}{s:AS}{a:Act}:∀ys:List Operand,(ys.all λy=>(s.ev y).SE)=true->(∀y,R w E (s.ev y) (a.eval y) [])->Rc w E' (ys.map s.ev) (ys.map a.eval) []
 |[],_,_=>by simp[Rc]
 |y::ys,h,hr=>by simp only[Cl,eK]at h;simp only[oE,Rc];exact⟨[],[],A7 h.1 (hr y),WG ys h.2 hr,rfl⟩
def aFk(f x0:Operand)(ys:List Operand)(NL:Array TypeId){gf:FuncId}{x' r:AV}(hf:s.ev f= .fn gf [])(hc:bV P gf=true)(hy:(ys.all λy=>(s.ev y).SE)=true)(hr:r.lC=true\/r= .iL [])(hx:kV s.o (s.ev x0)=true)(hu:(mG (s.ev x0)).Nodup)
  (hm:mt s.o (s.ev x0) x'=true) (rP:OkM P gf (res s.o (s.ev x0)) x' (ys.map s.ev) r):
  Step P B ⟨dst,.call {callee:= .value f,args:=⟨x0::ys⟩,argTypes:=NL},ty,pos,after,gd⟩ s (s.Yt dst (s.ev x0) x' r):=by
 rintro a w next Q ⟨G,rr⟩ hn
 have h1:=rr.ev f;rw[hf]at h1;simp only[R]at h1;obtain⟨_,cs,hv,uJ⟩:=h1;have hcs:cs=[]:=by cases cs with
  |nil=>rfl
  |cons _ _=>simp[Rc]at uJ
 subst hcs;obtain⟨fp,lI,hnd,Pz⟩:=GU rr _ _ hx hu (rr.ev x0);have hlt:∀b∈fp,b<w.heap.size:=λb hb=>by obtain⟨i,ob,g,_,hl,aY,hF⟩:=Pz b hb;exact(rr.eB _ _ _ b hl aY hF).2
 have kB:fG w (env B s.o G w).plain w (vJ w (· ∈fp)):=⟨λb hb=>⟨⟨rQ rr hb,λhm=>by
   obtain⟨i,ob,g,_,hl,aY,hF⟩:=Pz b hm;exact hb.2 i ob g hl aY hF⟩,rfl⟩,λ_ _=>trivial,λ_ _ _ h=>h.elim,λ_ _ _ h=>h.elim,λ_ _ _ _ _ h=>h.elim⟩
 have hab:∀b∈fp,aG.low P<=b:=λb hb=>by obtain⟨i,ob,g,_,hl,aY,hF⟩:=Pz b hb;exact rr.Pp (rr.eB _ _ _ b hl aY hF).1
 have EJ:=rP w (a.eval x0) (ys.map a.eval) fp rr.holds hab (oV kB _ _ _ (λ_ _=>rfl) lI) hnd hlt (WG ys hy λy=>rr.ev y);unfold Oper.wp;have hrun:(execOp a.eval ⟨dst,.call {callee:= .value f,args:=⟨x0::ys⟩,argTypes:=NL},ty,pos,after,gd⟩).run P w= .ok (.enter gf (a.eval x0::ys.map a.eval).toArray) w:=by simp[execOp,resolve,hv,Deferred.ofValue,invoke,vI hc]
 rw[hrun,BY];refine EJ.mono λe w' h=> ?_
 obtain⟨v,Dr,rfl,QF,hxr,hnd',hfr,hsz,mI,BG⟩:=h;refine hn _ _ ?_;obtain⟨L,hLi,hN,rfl,hL⟩:=aAj (s.ev x0) x' _ Dr hx hm (rr.ev x0) hxr;have hus:∀i,i∈mG (s.ev x0)↔∃p∈L,p.i=i:=λi=>by rw[<-hLi];simp
 unfold AS.Yt;rw[hN];generalize huu:mG (s.ev x0)=u at*;generalize ho':SB (L.map λp=>(p.i,p.rows)) u 0 s.o=o';generalize hG':VJ L 0 G=G';have lk:∀{i ob' g'},look o' G' i ob' g'->∃ob g,look s.o G i ob g/\((∃p∈L,p.i=i/\ob'={ob with fM:=p.rows}/\g'={g with F:=λb=>b∈p.fp})\/
   ((∀p∈L,p.i≠i)/\ob'=ob.forget u/\g'=g)):=λh=>aFi (by rw[ho',hG'];exact h)
 have kl:∀{i ob g},look s.o G i ob g->∃ob' g',look o' G' i ob' g'/\ob'.fT=ob.fT/\ob'.bY=ob.bY/\ob'.n=ob.n/\g'.a=g.a/\g'.cap=g.cap/\ob'.fM.length=ob.fM.length/\((∀p∈L,p.i≠i)->g'=g)/\ob'.box=ob.box:=by
  intro i ob g h;obtain⟨ob',g',h'⟩:=aFj (L:=L) (u:=u) h;rw[ho',hG']at h';refine⟨ob',g',h',?_⟩;obtain⟨PE,g2,h2,hcase⟩:=lk h';obtain⟨rfl,rfl⟩:=lT h h2;rcases hcase with⟨p,hp,rfl,rfl,rfl⟩|⟨NM,rfl,rfl⟩
  .obtain ⟨ob3,g3,hl3,_,_,_,dF⟩:=hL p hp;obtain⟨rfl,rfl⟩:=lT h hl3;exact⟨rfl,rfl,rfl,rfl,rfl,dF,λhn=>absurd rfl (hn p hp),rfl⟩
  .exact ⟨qE _ _,Sy _ _,ae _ _,rfl,rfl,SA _ _,λ_=>rfl,Sz _ _⟩
 have fpF:∀b∈fp,∀i ob g,look s.o G i ob g->ob.fT=true->g.F b->i∈u:=λb hb i ob g hl aY hF=>by obtain⟨j,oj,gj,hj,hlj,hjl,LJ⟩:=Pz b hb;have:=rr.fV i j _ _ _ _ b hl hlj aY hjl hF LJ;rw[this];exact hj
 have He:∀i ob g b,look s.o G i ob g->ob.fT=true->g.F b->i∉u->w'.heap[b]? =w.heap[b]?:=λi ob g b hl aY hF hiu=>
  mI b (rr.eB _ _ _ b hl aY hF).2 (λhm=>hiu (fpF b hm i ob g hl aY hF))
 have noU:∀i,i∉u->∀p∈L,p.i≠i:=λi hi p hp e=>hi ((hus i).2 ⟨p,hp,e⟩)
 let Er:Env:={env B s.o G w with D:=λi b=>i∉u/\(env B s.o G w).D i b}
 have rt1:pG (lV u) true (env B s.o G w) Er (λ_=>True):=by
  refine⟨λt e=>by simp[lV]at e,λt e=>by simp only[lV,eI]at e;exact⟨e.symm,λb hb=>hb⟩,λi t e=> ?_,λ_ _ _ _ h=>h,λ_ _ _ _ _ _ h=>h⟩;simp only[lV]at e;split at e
  .cases e
  .rename_i hiu;obtain rfl:=cX e;refine⟨by simp,?_,λb hb=>⟨hiu,hb⟩⟩;by_cases hV:(env B s.o G w).V i
   .exact .inl hV
   .exact .inr hV
 have k2:fG w Er w' (env B o' G' w'):=by
  refine⟨λb hb=> ?_,λi h ob wF=> ?_,λi b hV h=> ?_,λi bY x h=> ?_,λi bY j q x h=> ?_⟩
  .have hb':(env B s.o G w).A b:=hb;have hbl:=rQ rr hb';have hnf:b∉fp:=λhm=>by
    obtain⟨i,ob,g,_,hl,aY,hF⟩:=Pz b hm;exact hb'.2 i ob g hl aY hF
   refine⟨⟨?_,λi ob' g' hl aY hF=> ?_⟩,mI b hbl hnf⟩
   .rcases hb'.1 with h|h
    .exact .inl h
    .exact .inr ⟨h.1,by omega⟩
   .obtain ⟨ob,g,hl0,⟨p,hp,_,rfl,rfl⟩|⟨_,rfl,rfl⟩⟩:=lk hl
    .have:=hfr b (Rx.2 ⟨p,hp,hF⟩);rcases this.1 with h|h
     .exact hnf h
     .omega
    .refine hb'.2 i ob g' hl0 ?_ hF;rw[qE]at aY;exact aY
  .have hi:i<G.length:=by rw[rr.len];exact(cU.1 wF).1
   obtain⟨ob',g',hl,h1,_⟩:=kl (i:=i) (ob:=ob) (g:=G[i]) ⟨wF,aE hi⟩;rw[<-h1];exact h ob' hl.1
  .obtain ⟨hiu,ob,g,hl,aY,hF,jE⟩:=h;obtain⟨ob',g',Dw,h1,_,_,_,_,_,h7,_⟩:=kl hl;obtain rfl:=h7 (noU i hiu);exact⟨⟨ob',g',Dw,by rw[h1];exact aY,hF,jE⟩,He i ob g' b hl aY hF hiu⟩
  .obtain ⟨ob,g,hl,Ap,hh,hz⟩:=h;obtain⟨ob',g',Dw,h1,h2,h3,h4,h5,h6,_⟩:=kl hl;exact⟨ob',g',Dw,by omega,λaY Yg=>by rw[h4,h5,h6];exact hh (by rw[<-h1];exact aY) (by omega),hz⟩
  .obtain ⟨ob,g,hl,Ap,hh,hz⟩:=h;obtain⟨ob',g',Dw,h1,h2,h3,h4,h5,h6,_,h8⟩:=kl hl;exact⟨ob',g',Dw,by omega,λaY Yg=>by rw[h4,h3];exact hh (by rw[<-h1];exact aY) (by omega),λe e2 e3 e4 y hy=>⟨(hz (by rw[<-h8];exact e) e2 e3 e4 y hy).1,λaY Yg=>by rw[h5];exact(hz (by rw[<-h8];exact e) e2 e3 e4 y hy).2 (by rw[<-h1];exact aY) (by omega)⟩⟩
 have tm:Rc w' (env B o' G' w') (tJ (lV u) true s.t) a.tmps.toList []:=
  gQ k2 _ _ _ (by simp) (Ar rt1 _ _ _ (by simp) rr.tmps)
 have kn:fG w' pY w' (env B o' G' w').plain:=⟨λ_ h=>h.elim,λ_ _=>trivial,λ_ _ _ h=>h.elim,λ_ _ _ h=>h.elim,λ_ _ _ _ _ h=>h.elim⟩;have rel:fZ B ⟨tJ (lV u) true s.t,o'⟩ G' a w':=by
  refine {len:=by rw[<-hG',<-ho',Ha,Hd];exact rr.len,defs:=rr.defs,ok:= ?_,fV:= ?_,eB:= ?_,tmps:=tm,size:=iS rr.size hsz,frame:= ?_,base:=rr.base,same:=rr.same.trans BG}
  .intro i ob' g' hl aY;obtain⟨ob,g,hl0,⟨p,hp,rfl,rfl,rfl⟩|⟨NM,rfl,rfl⟩⟩:=lk hl
   .obtain ⟨ob3,g3,hl3,_,hbx,eQ,dF⟩:=hL p hp;obtain⟨rfl,rfl⟩:=lT hl0 hl3;refine⟨p.fp,?_,ah hnd' p hp,λb hb=>hb⟩;simp only[hbx,Env.of,cY,eW];exact eQ.keeps kn (λ_ _=>rfl)
   .have hiu:i∉u:=λh=>by
     obtain⟨p,hp,e⟩:=(hus i).1 h;exact NM p hp e
    rw[qE]at aY;obtain⟨fpo,eQ,Kq,Rw⟩:=rr.ok i ob g' hl0 aY;by_cases hbx:ob.box=true
    .simp only[hbx,Env.of,eS]at eQ;obtain⟨dF,eQ⟩:=eQ;by_cases hall:Fw ob.fM=true
     .have hfo:ob.forget u=ob:=by unfold aI.forget;simp[hbx,hall]
      rw[hfo];refine⟨fpo,?_,Kq,Rw⟩;simp only[hbx,Env.of,eS];refine⟨dF,?_⟩;rcases eQ with h|⟨b,off,C,e,fz,aFm,ha,hb,hz,h1,h2,h3,rfl,A8⟩
      .exact .inl h
      .have hbs:=He i ob g' b hl0 aY (Rw b (by simp)) hiu;exact .inr ⟨b,off,C,e,fz,aFm,ha,by rw[hbs];exact hb,hz,h1,h2,h3,rfl,qD k2 _ _ _ _ _ hbs (λx hx=>He i ob g' x hl0 aY (Rw x (by simp[hx])) hiu) (aFh hall A8)⟩
     .have hfo:ob.forget u={ob with fM:=lW (lV u) true ob.fM}:=by unfold aI.forget;rw[eM hbx,eC hall]
      rw[hfo];rcases eQ with⟨h1,h2,h3⟩|⟨b,off,C,e,fz,aFm,ha,hb,hz,h1,h2,h3,rfl,A8⟩
      .exact ⟨[],⟨by simp[oD];exact dF,.inl ⟨by simp[h1,lW],h2,rfl⟩⟩,by simp,by simp⟩
      .have Gj:=Rw b (by simp);have hbs:=He i ob g' b hl0 aY Gj hiu;refine⟨[b],⟨by simp[oD];exact dF,.inr ⟨b,off,C,e,fz,[],ha,by rw[hbs];exact hb,hz,h1,by simpa [oD]using h2,h3,rfl,?_⟩⟩,by simp,by simpa using Gj⟩;simp only[hbx,Env.of,eS];exact qD k2 _ _ _ _ _ hbs (by simp) (JD rt1 _ _ _ _ _ (by simp) A8)
    .have aFn:ob.box=false:=by simpa using hbx
     have hfo:ob.forget u=ob:=by unfold aI.forget;simp[aFn]
     rw[hfo];refine⟨fpo,?_,Kq,Rw⟩;simp only[aFn,Env.of,cY,eW]at eQ⊢;have kp:fG w (env B s.o G w).plain w' (env B o' G' w').plain:=k2.plain;exact eQ.keeps kp (λb hb=>He i ob g' b hl0 aY (Rw b hb) hiu)
  .intro i j oi oj gi gj b hi hj hil hjl Gl NS;obtain⟨zf,g1,hl1,c1⟩:=lk hi;obtain⟨PE,g2,hl2,c2⟩:=lk hj;have lv:∀{k:Nat} {ob ob':aI} {g g':CO},((∀p∈L,p.i≠k)/\ob'=ob.forget u/\g'=g)->ob'.fT=true->ob.fT=true:=by rintro k ob ob' g g' ⟨_,rfl,_⟩ h;rw[qE]at h;exact h
   rcases c1 with⟨p,hp,hpi,rfl,rfl⟩|c1<;>rcases c2 with⟨q,hq,hqi,rfl,rfl⟩|c2
   .have:=WE hnd' p hp q hq b Gl NS;rw[<-hpi,<-hqi,this]
   .exfalso;have aPo:=lv c2 hjl;have zt:g2.F b:=by rw[<-c2.2.2];exact NS
    rcases(hfr b (Rx.2 ⟨p,hp,Gl⟩)).1 with h|h
    .have:=fpF b h j PE g2 hl2 aPo zt;obtain⟨q,hq,e⟩:=(hus j).1 this;exact c2.1 q hq e
    .have:=(rr.eB _ _ _ b hl2 aPo zt).2;omega
   .exfalso;have aPp:=lv c1 hil;have hF1:g1.F b:=by rw[<-c1.2.2];exact Gl
    rcases(hfr b (Rx.2 ⟨q,hq,NS⟩)).1 with h|h
    .have:=fpF b h i zf g1 hl1 aPp hF1;obtain⟨p,hp,e⟩:=(hus i).1 this;exact c1.1 p hp e
    .have:=(rr.eB _ _ _ b hl1 aPp hF1).2;omega
   .refine rr.fV i j _ _ _ _ b hl1 hl2 (lv c1 hil) (lv c2 hjl) ?_ ?_
    .rw [<-c1.2.2];exact Gl
    .rw [<-c2.2.2];exact NS
  .intro i ob' g' b hl aY hF;obtain⟨ob,g,hl0,⟨p,hp,rfl,rfl,rfl⟩|⟨NM,rfl,rfl⟩⟩:=lk hl
   .have:=hfr b (Rx.2 ⟨p,hp,hF⟩);refine⟨?_,this.2⟩;rcases this.1 with h|h
    .obtain ⟨j,oj,gj,_,hlj,hjl,LJ⟩:=Pz b h;exact(rr.eB _ _ _ b hlj hjl LJ).1
    .exact .inr (iS rr.size h)
   .have zP:ob.fT=true:=by rw[qE]at aY;exact aY
    have:=rr.eB _ _ _ b hl0 zP hF;exact⟨this.1,by omega⟩
  .intro b hb hO;rw[<-rr.frame b hb hO];refine mI b (lP hb rr.size) (λhm=> ?_);obtain⟨j,oj,gj,_,hlj,hjl,LJ⟩:=Pz b hm;rcases(rr.eB _ _ _ b hlj hjl LJ).1 with h|h
   .exact hO h
   .omega
 exact⟨G',rel.put dst (by
  rcases hr with hr|rfl
  .exact SC hr QF
  .simp only[R]at QF⊢;obtain⟨cs,e1,e2⟩:=QF;cases cs with
   |nil=>exact⟨[],e1,by simp[Rc]⟩
   |cons c cs=>simp[Rc]at e2)⟩
inductive GA where
  | view (x:AV)
  | rF (x:AV)
  | vX (c c':List AV)
def RG(w:World)(O:Nat->Prop):GA->Value->List Nat->Nat->Prop
 | .view x,v,fp,_=>fp=[]/\R w (vJ w O) x v []
 | .rF x,v,fp,_=>R w (vJ w O) x v fp
 | .vX c _,v,fp,cap=>∃b f,v= .pointer (some ⟨b,f,none⟩)/\uH w (vJ w O) c.length [c] (some ⟨b,f,none⟩) cap fp
def Fx(w:World)(O:Nat->Prop):List GA->List Value->List (List Nat)->List Nat->Prop
 |[],[],[],[]=>True
 |x::xs,v::vs,fp::fs,k::ks=>RG w O x v fp k/\Fx w O xs vs fs ks
 |_,_,_,_=>False
def RP(w:World):GA->Value->List Nat->Nat->Prop
 | .vX c c',v,fp,cap=>∃b f,v= .pointer (some ⟨b,f,none⟩)/\uH w pY c.length [c'] (some ⟨b,f,none⟩) cap fp
 |_,_,fp,_=>fp=[]
def Vw(w:World):List GA->List Value->List (List Nat)->List Nat->Prop
 |[],[],[],[]=>True
 |x::xs,v::vs,fp::fs,k::ks=>RP w x v fp k/\Vw w xs vs fs ks
 |_,_,_,_=>False
def Ob(P:Program)[aG P](f:FuncId)(args:List GA)(r:AV):Prop:=
 ∀(w:World) (vs:List Value) (wG:List (List Nat)) (lN:List Nat),aG.holds P w->(∀b∈wG.flatten,aG.low P<=b/\b<w.heap.size)->wG.flatten.Nodup->Fx w (· ∈wG.flatten) args vs wG lN->
  Calls P f vs.toArray w λe w'=>∃v fp Dv,e= .returned v/\R w' pY r v fp/\Vw w' args vs Dv lN/\(Dv.flatten++fp).Nodup/\
   (∀b∈Dv.flatten++fp,(b∈wG.flatten\/w.heap.size<=b)/\b<w'.heap.size)/\w.heap.size<=w'.heap.size/\(∀b,b<w.heap.size->b∉wG.flatten->w'.heap[b]? =w.heap[b]?)/\nZ w w'
mutual
def SF(u:List Nat):AV->Bool
 | .obj i _=> !u.contains i
 | .ptr i _ _ _=> !u.contains i
 | .sl (.mQ i) _ _=> !u.contains i
 | .iW (.mQ i) _ _=> !u.contains i
 | .agg c=>SG u c
 | .iL c=>SG u c
 | .fn _ c=>SG u c
 |_=>true
def SG(u:List Nat):List AV->Bool
 |[]=>true
 |x::xs=>SF u x&&SG u xs
end
section
variable{P:Program}[aG P]{B:gL P}{s:AS}{G:List CO}{a:Act}{w:World}
def ai(r:fZ B s G a w){Z:Nat->Prop}{u:List Nat}(hZ:∀b,Z b->Of s.o G u b){b:Nat}(h:(env B s.o G w).A b):b<w.heap.size/\¬Z b:=
 ⟨rQ r h,λhz=>by
  obtain⟨i,ob,g,_,hl,aY,hF⟩:=hZ b hz;exact h.2 i ob g hl aY hF⟩
def aAk(r:fZ B s G a w){Z:Nat->Prop}{u:List Nat}(hZ:∀b,Z b->Of s.o G u b){i:Nat}{ob:aI}{g:CO}(hl:look s.o G i ob g)(aY:ob.fT=true)(hi:i∉u){b:Nat}(h:g.F b):b<w.heap.size/\¬Z b:=
 ⟨(r.eB _ _ _ b hl aY h).2,λhz=>by
  obtain⟨j,oj,gj,hj,hlj,hjl,hF⟩:=hZ b hz;exact hi (r.fV i j _ _ _ _ b hl hlj aY hjl h hF▸hj)⟩
def Oc(r:fZ B s G a w){Z:Nat->Prop}{u:List Nat}(hZ:∀b,Z b->Of s.o G u b)(O:Nat->Prop)(hO:∀b,O b->b<w.heap.size/\¬Z b):pG (λ_=>some .view) false (env B s.o G w).plain (vJ w Z) O where
 own t e:=by obtain rfl:=cX e;exact⟨by simp,λb hb=>hO b hb⟩
 view t e:=by obtain rfl:=cX e;exact⟨rfl,λb hb=>ai r hZ hb⟩
 mQ i t e:=by obtain rfl:=cX e;exact⟨by simp,.inl trivial,λb hb=>hb.elim⟩
 hh h:=by cases h
 hl h:=by cases h
def aj(r:fZ B s G a w){Z:Nat->Prop}{u:List Nat}(hZ:∀b,Z b->Of s.o G u b)(box:Bool)(O:Nat->Prop)(hO:∀b,O b->b<w.heap.size/\¬Z b):pG Km false ((env B s.o G w).of box) (vJ w Z) O where
 own t e:=by obtain rfl:=cX e;exact⟨by simp,λb hb=>hO b hb⟩
 view t e:=by obtain rfl:=cX e;exact⟨rfl,λb hb=>ai r hZ (by cases box<;>exact hb)⟩
 mQ i t e:=by cases e
 hh h:=by cases h
 hl h:=by cases h
def Yu(r:fZ B s G a w){Z:Nat->Prop}{u:List Nat}(hZ:∀b,Z b->Of s.o G u b)(g:Tg)(hg:∀i,g= .mQ i->i∉u)(O:Nat->Prop)(hO:∀b,O b->b<w.heap.size/\¬Z b):pG (λ_=>some .view) false ((env B s.o G w).sub g) (vJ w Z).plain O:=by
 cases g with
 |own=>exact Oc r hZ O hO
 |view=>exact Oc r hZ O hO
 |mQ i=>exact
  {own:=λt e=>by obtain rfl:=cX e;exact⟨by simp,λb hb=>hO b hb⟩
   view:=λt e=>by obtain rfl:=cX e;exact⟨rfl,λb hb=>ai r hZ hb⟩
   mQ:=λj t e=>by obtain rfl:=cX e;refine⟨by simp,.inl trivial,λb hb=> ?_⟩;obtain⟨rfl,ob,g,hl,aY,hF,_⟩:=hb;exact aAk r hZ hl aY (hg _ rfl) hF
   hh:=λh=>by cases h
   hl:=λh=>by cases h}
def A9(r:fZ B s G a w){Z:Nat->Prop}{u:List Nat}(hZ:∀b,Z b->Of s.o G u b){g:Tg}(hg:∀i,g= .mQ i->i∉u){b:Nat}(h:(env B s.o G w).tg g b):b<w.heap.size/\¬Z b:=by
 cases g with
 |own=>exact h.elim
 |view=>exact ai r hZ h
 |mQ i=>obtain⟨ob,g,hl,aY,hF,_⟩:=h;exact aAk r hZ hl aY (hg _ rfl) hF
def Kt(r:fZ B s G a w){Z:Nat->Prop}{u:List Nat}(hZ:∀b,Z b->Of s.o G u b){g:Tg}(hg:∀i,g= .mQ i->i∉u){n:Nat}{l:List (List AV)}{v:Value}(hd:¬(env B s.o G w).dead g)(h:R w (env B s.o G w) (.sl g n l) v []):
  R w (vJ w Z) (.sl .view n (lW (λ_=>some .view) false l)) v []:=by
 simp only[R,oD]at h⊢;rcases h with h|⟨x,cap,hv,hl,h⟩
 .exact absurd h.1 hd
 refine .inr ⟨x,cap,hv,hl,.inr (.inr ⟨by simp,trivial,?_⟩)⟩;rcases h with⟨_,rfl,_⟩|⟨_,b,off,C,ty,fz,sH,ha,hb,hz,h1,h2,h3,Jq,hr⟩|⟨hg',_,h⟩
 .exact .inl rfl
 .cases Jq
 .rcases h with rfl|⟨b,off,ha,ht,hr⟩
  .exact .inl rfl
  .exact .inr ⟨b,off,ha,A9 r hZ hg ht,JD (Yu r hZ g hg (λ_=>False) (λ_ h=>h.elim)) _ _ _ _ _ (by simp) hr⟩
mutual
theorem aFo(r:fZ B s G a w){Z:Nat->Prop}{u:List Nat}(hZ:∀b,Z b->Of s.o G u b):∀(av:AV) (v:Value),SF u av=true->R w (env B s.o G w) av v []->R w (vJ w Z) (arg s.o av) v []
 | .obj i bY,v,ha,h=>by
  have hiu:i∉u:=by simpa [SF]using ha
  cases wF:AV.gB s.o i bY with
  |none=>simp[arg,wF,R]
  |some ob=>
   simp only[arg,wF];by_cases hb:ob.box=true
   .simp [hb,R]
   simp only[R]at h;obtain⟨_,ob',g,hl,_,hh,_⟩:=h;obtain⟨h1,h2,h3⟩:=mV wF;obtain rfl:=cX (hl.1.symm.trans h1);have hv:=hh h2 h3;obtain⟨fp,⟨dF,eQ⟩,hnd,hF⟩:=r.ok i _ g hl h2;have hb':ob'.box=false:=by simpa using hb
   rw[hb']at eQ;simp only[hb',cY,eW];simp only[R,oD];refine .inr ⟨g.a,g.cap,hv,⟨dF,by rcases eQ with h|⟨_,_,_,_,_,_,_,_,_,_,h,_⟩;simp[h.1];exact h⟩,.inr (.inr ⟨by simp,trivial,?_⟩)⟩;rcases eQ with⟨h5,_⟩|⟨b,off,C,e,fz,sH,ha,hbk,hz,k1,k2,k3,rfl,hr⟩
   .left;rw[h5];rfl
   .right;have hlt:∀x∈b::sH,x<w.heap.size/\¬Z x:=λx hx=>aAk r hZ hl h2 hiu (hF x hx)
    exact⟨b,off,ha,hlt b (by simp),JD (Oc r hZ (λx=>x<w.heap.size/\¬Z x) (λ_ h=>h)) _ _ _ _ sH (λx hx=>hlt x (by simp[hx])) hr⟩
 | .ptr i bY idx off,v,ha,h=>by
  have hiu:i∉u:=by simpa [SF]using ha
  cases wF:AV.gB s.o i bY with
  |none=>simp[arg,wF,R]
  |some ob=>
   simp only[arg,wF];cases he:ob.fM[idx]? with
   |none=>simp[R]
   |some e=>
    simp only[R]at h⊢;obtain⟨_,ob',g,hl,_,hh,_⟩:=h;obtain⟨h1,h2,h3⟩:=mV wF;obtain rfl:=cX (hl.1.symm.trans h1);obtain⟨b,f,ha,hv⟩:=hh h2 h3;obtain⟨fp,⟨_,eQ⟩,hnd,hF⟩:=r.ok i _ g hl h2;have hlt:∀x∈fp,x<w.heap.size/\¬Z x:=λx hx=>aAk r hZ hl h2 hiu (hF x hx)
    rcases eQ with⟨h5,_⟩|⟨b',f',C,ty,fz,sH,yM,hbk,hz,k1,k2,k3,rfl,hr⟩
    .rw [h5]at he;simp at he
    .rw [ha]at yM;simp only[eI,oS,pS]at yM;obtain⟨rfl,rfl⟩:=yM;obtain⟨f1,f2,f3,cs,rfl,hn,hc,hone,wK,_,_⟩:=Cy hr he;refine .inr ⟨trivial,b,f+idx*ob'.n,cs,?_,hlt b (by simp),hc,hone,?_⟩
     .rw [hv,pH]
     .have:=Ar (aj r hZ ob'.box (λx=>x<w.heap.size/\¬Z x) (λ_ h=>h)) e cs f2 (λx hx=>hlt x (by simp[hx])) wK;exact gQ (w:=w) (w':=w) (E:=vJ w Z) (E':=(vJ w Z).sub .view) ⟨λ_ h=>⟨h,rfl⟩,λ_ _=>trivial,λ_ _ _ h=>h.elim,λ_ _ _ h=>h.elim,λ_ _ _ _ _ h=>h.elim⟩ _ _ _ (by simp) this
 | .agg c,v,ha,h=>by simp only[R,arg]at h⊢;obtain⟨cs,hv,hone,hr⟩:=h;exact⟨cs,hv,hone,Ry r hZ c cs (by simpa [SF]using ha) hr⟩
 | .iL c,v,ha,h=>by simp only[R,arg]at h⊢;obtain⟨cs,hv,hr⟩:=h;exact⟨cs,hv,Ry r hZ c cs (by simpa [SF]using ha) hr⟩
 | .fn f c,v,ha,h=>by simp only[R,arg]at h⊢;obtain⟨h1,cs,hv,hr⟩:=h;exact⟨trivial,cs,hv,Ry r hZ c cs (by simpa [SF]using ha) hr⟩
 | .int k n,v,_,h=>by simpa [arg,R]using h
 | .bool b,v,_,h=>by simpa [arg,R]using h
 | .str x,v,_,h=>by simpa [arg,R]using h
 | .sl .own n l,v,_,h=>by simp only[arg];exact Kt r hZ (g:= .own) (by simp) (λh=>h) h
 | .sl .view n l,v,_,h=>by simp only[arg];exact Kt r hZ (g:= .view) (by simp) (λh=>h) h
 | .sl (.mQ i) n l,v,ha,h=>by
  have hiu:i∉u:=by simpa [SF]using ha
  simp only[arg];cases ho:s.o[i]? with
  |none=>simp[R]
  |some ob=>
   simp only;by_cases aY:ob.fT=true
   .rw [eM aY];exact Kt r hZ (g:= .mQ i) (by simpa using hiu) (λhd=>hd (λob' uF=>by rw[ho]at uF;obtain rfl:=cX uF;exact aY)) h
   .rw [eC aY];simp[R]
 | .iW .own c off,v,_,h=>by
  simp only[R]at h;rcases h with h|⟨_,b,o,cs,hv,ht,_⟩
  .exact h.1.elim
  .exact ht.elim
 | .iW .view c off,v,_,h=>by
  simp only[arg];simp only[R]at h⊢;rcases h with h|⟨_,b,o,cs,hv,ht,hcs,hone,hr⟩
  .exact h.1.elim
  .exact .inr ⟨trivial,b,o,cs,hv,A9 r hZ (g:= .view) (by simp) ht,hcs,hone,Ar (Yu r hZ .view (by simp) (λ_=>False) (λ_ h=>h.elim)) _ _ _ (by simp) hr⟩
 | .iW (.mQ i) c off,v,ha,h=>by
  have hiu:i∉u:=by simpa [SF]using ha
  simp only[arg];cases ho:s.o[i]? with
  |none=>simp[R]
  |some ob=>
   simp only;by_cases aY:ob.fT=true
   .rw [eM aY];simp only[R]at h⊢;rcases h with h|⟨_,b,o,cs,hv,ht,hcs,hone,hr⟩
    .exact absurd (λob' uF=>by rw[ho]at uF;obtain rfl:=cX uF;exact aY) h.1
    .exact .inr ⟨trivial,b,o,cs,hv,A9 r hZ (g:= .mQ i) (by simpa using hiu) ht,hcs,hone,Ar (Yu r hZ (.mQ i) (by simpa using hiu) (λ_=>False) (λ_ h=>h.elim)) _ _ _ (by simp) hr⟩
   .rw [eC aY];simp[R]
 | .aB,v,_,_=>by simp[arg,R]
theorem Ry(r:fZ B s G a w){Z:Nat->Prop}{u:List Nat}(hZ:∀b,Z b->Of s.o G u b):∀(c:List AV) (cs:List Value),SG u c=true->Rc w (env B s.o G w) c cs []->Rc w (vJ w Z) (Du s.o c) cs []
 |[],[],_,_=>by simp[Du,Rc]
 |[],_::_,_,h=>by simp[Rc]at h
 |_::_,[],_,h=>by simp[Rc]at h
 |x::xs,c::cs,ha,h=>by
  simp only[Rc]at h;simp only[SG,eK]at ha;obtain⟨f1,f2,h1,h2,e⟩:=h;obtain⟨rfl,rfl⟩:f1=[]/\f2=[]:=by simpa using e
  simp only[Du,Rc];exact⟨[],[],aFo r hZ x c ha.1 h1,Ry r hZ xs cs ha.2 h2,rfl⟩
end
mutual
theorem SH(r:fZ B s G a w){k:Nat}{ok:aI}{gk:CO}(hlk:look s.o G k ok gk)(hk:ok.fT=true):∀(av:AV) (v:Value) (fp:List Nat),kV s.o av=true->(mG av).Nodup->k∉mG av->fp.Nodup->(∀b∈fp,gk.F b)->R w (env B s.o G w) av v fp->
  ∃Dr,R w (env B s.o G w).plain (res s.o av) v Dr/\Dr.Nodup/\∀b∈Dr,b∈fp\/Of s.o G (mG av) b
 | .obj i bY,v,fp,ho,hu,_,_,_,h=>by
  have hf:fp=[]:=by simp only[R]at h;exact h.1
  subst hf;obtain⟨Dr,h1,h2,h3⟩:=GU r _ v ho hu h;exact⟨Dr,h1,h2,λb hb=> .inr (h3 b hb)⟩
 | .agg c,v,fp,ho,hu,ak,hn,hF,h=>by simp only[R]at h;obtain⟨cs,rfl,hone,hr⟩:=h;obtain⟨Dr,h1,h2,h3⟩:=LX r hlk hk c cs fp (by simpa [kV]using ho) (by simpa [mG]using hu) (by simpa [mG]using ak) hn hF hr;exact⟨Dr,by simp only[res,R];exact⟨cs,rfl,hone,h1⟩,h2,by simpa [mG]using h3⟩
 | .iL c,v,fp,ho,hu,ak,hn,hF,h=>by simp only[R]at h;obtain⟨cs,rfl,hr⟩:=h;obtain⟨Dr,h1,h2,h3⟩:=LX r hlk hk c cs fp (by simpa [kV]using ho) (by simpa [mG]using hu) (by simpa [mG]using ak) hn hF hr;exact⟨Dr,by simp only[res,R];exact⟨cs,rfl,h1⟩,h2,by simpa [mG]using h3⟩
 | .int k n,v,fp,_,_,_,hn,_,h=>⟨fp,by simpa [res,R]using h,hn,λb hb=> .inl hb⟩
 | .bool b,v,fp,_,_,_,hn,_,h=>⟨fp,by simpa [res,R]using h,hn,λb hb=> .inl hb⟩
 | .str x,v,fp,_,_,_,hn,_,h=>⟨fp,by simpa [res,R]using h,hn,λb hb=> .inl hb⟩
 | .sl .own n l,v,fp,_,_,_,hn,_,h=>⟨fp,by simp only[res];rw[vU]at h⊢;exact h,hn,λb hb=> .inl hb⟩
 | .sl .view n l,v,fp,_,_,_,hn,_,h=>⟨fp,by simp only[res,R]at h⊢;exact h,hn,λb hb=> .inl hb⟩
 | .sl (.mQ i) n l,v,fp,ho,_,_,_,_,h=>by simp[kV]at ho
 | .iW .view c off,v,fp,_,_,_,hn,_,h=>⟨fp,by simp only[res,R]at h⊢;exact h,hn,λb hb=> .inl hb⟩
 | .iW .own c off,v,fp,ho,_,_,_,_,h=>by simp[kV]at ho
 | .iW (.mQ _) c off,v,fp,ho,_,_,_,_,h=>by simp[kV]at ho
 | .ptr _ _ _ _,v,fp,ho,_,_,_,_,h=>by simp[kV]at ho
 | .fn f [],v,fp,_,_,_,hn,_,h=>⟨fp,by simp only[res,R]at h⊢;obtain⟨h1,cs,h2,h3⟩:=h;refine⟨h1,cs,h2,?_⟩;cases cs<;>simp_all[Rc],hn,λb hb=> .inl hb⟩
 | .fn f (_::_),v,fp,ho,_,_,_,_,h=>by simp[kV]at ho
 | .aB,v,fp,_,_,_,hn,_,h=>⟨fp,by simpa [res,R]using h,hn,λb hb=> .inl hb⟩
theorem LX(r:fZ B s G a w){k:Nat}{ok:aI}{gk:CO}(hlk:look s.o G k ok gk)(hk:ok.fT=true):∀(c:List AV) (cs:List Value) (fp:List Nat),pI s.o c=true->(mX c).Nodup->k∉mX c->fp.Nodup->(∀b∈fp,gk.F b)->Rc w (env B s.o G w) c cs fp->
  ∃Dr,Rc w (env B s.o G w).plain (vH s.o c) cs Dr/\Dr.Nodup/\∀b∈Dr,b∈fp\/Of s.o G (mX c) b
 |[],[],fp,_,_,_,hn,_,h=>⟨fp,by simpa [vH,Rc]using h,hn,λb hb=> .inl hb⟩
 |[],_::_,_,_,_,_,_,_,h=>by simp[Rc]at h
 |_::_,[],_,_,_,_,_,_,h=>by simp[Rc]at h
 |x::xs,c::cs,fp,ho,hu,ak,hn,hF,h=>by
  simp only[Rc]at h;obtain⟨g1,g2,h1,h2,rfl⟩:=h;simp only[pI,eK]at ho;simp only[mX,lE]at hu;simp only[mX,fR,not_or]at ak;have hn':=lE.1 hn;obtain⟨f1,k1,n1,o1⟩:=SH r hlk hk x c g1 ho.1 hu.1 ak.1 hn'.1 (λb hb=>hF b (pA _ hb)) h1;obtain⟨f2,k2,n2,o2⟩:=LX r hlk hk xs cs g2 ho.2 hu.2.1 ak.2 hn'.2.1 (λb hb=>hF b (tW _ hb)) h2;have aTr:∀(u:List Nat) (b:Nat),k∉u->gk.F b->Of s.o G u b->False:=by rintro u b ak hFb ⟨i,ob,g,hi,hl,aY,hF'⟩;exact ak (r.fV k i _ _ _ _ b hlk hl hk aY hFb hF'▸hi)
  refine⟨f1++f2,by simp only[vH,Rc];exact⟨f1,f2,k1,k2,rfl⟩,?_,?_⟩
  .refine lE.2 ⟨n1,n2,λb hb b' hb' e=> ?_⟩
   subst e;rcases o1 b hb with p1|p1<;>rcases o2 b hb' with p2|p2
   .exact hn'.2.2 b p1 b p2 rfl
   .exact aTr _ b ak.2 (hF b (pA _ p1)) p2
   .exact aTr _ b ak.1 (hF b (tW _ p2)) p1
   .obtain ⟨i,ob,g,hi,hl,aY,hF1⟩:=p1;obtain⟨j,ob',g',hj,Dw,zP,zt⟩:=p2;exact hu.2.2 i hi j hj (r.fV i j _ _ _ _ b hl Dw aY zP hF1 zt)
  .intro b hb;rcases fR.1 hb with hb|hb
   .rcases o1 b hb with h|⟨i,ob,g,hi,h⟩
    .exact .inl (pA _ h)
    .exact .inr ⟨i,ob,g,by simp[mX,hi],h⟩
   .rcases o2 b hb with h|⟨i,ob,g,hi,h⟩
    .exact .inl (tW _ h)
    .exact .inr ⟨i,ob,g,by simp[mX,hi],h⟩
end
end
def bL(l:List UInt8):List (List AV):=l.map λc=>[.int .u8 c.toNat]
def pJ(l:List UInt8):(bL l).length=l.length:=tE _
def au{w:World}{E:Env}{b:Nat}:∀(l:List UInt8) (off:Nat),(∀(j:Nat) (c:UInt8),l[j]? =some c->w.cell? ⟨b,off+j,none⟩=some (.int .u8 c.toNat))->Rr w E (bL l) b off 1 []
 |[],_,_=>by simp[bL,Rr]
 |c::l,off,h=>by
  simp only[bL,oE,Rr];refine⟨[.int .u8 c.toNat],[],[],rfl,λj v hv=> ?_,by simp[Value.oneCell'],by simp[Rc,R],au l (off+1) (λj c' hc=> ?_),rfl⟩
  .cases j with
   |zero=>simp only[sR,eI]at hv;subst hv;exact h 0 c rfl
   |succ j=>simp at hv
  .have:=h (j+1) c' (by simpa using hc)
   rwa[show off+1+j=off+(j+1)by omega]
def D6(src d:TypeId)(x:Operand){l:List UInt8}{e:TypeId}{by':Nat}(hx:s.ev x= .str l)(hs:isString P src=true)(hd:oO P d=some (e,1,by'))(he:intType P e=some .u8)(hl:l.length<=9223372036854775807):
  Step P B ⟨dst,.convert src d x,ty,pos,after,gd⟩ s (s.made dst 1 (bL l)):=
 uI λG a w r=>by
  obtain⟨hu,_⟩:=tN hd;have hue:P.underlying e=some (.int .u8):=by
   unfold intType at he;split at he
   .rename_i k hk;rw[hk];simpa using he
   .cases he
  have hrun:=Lib.run_convert_string_bytes w src d e ⟨l.toArray⟩ (rC hs) hu hue;have hsz:(⟨l.toArray⟩:ByteArray).size=l.length:=by simp[ByteArray.size]
  rw[hsz]at hrun;have hge:l.length<=grownCap w l.length 0 e:=grownCap_ge _ _ _ _;have hle:grownCap w l.length 0 e<=maxLen:=Ft _ _ _ _ (by simpa [maxLen]using hl);have hnew:=Lib.bytesWorld_at_new w e ⟨l.toArray⟩;have hbs:=Lib.bytesWorld_size w e ⟨l.toArray⟩;have hold:=Lib.bytesWorld_at_old w e ⟨l.toArray⟩;have hC:Lib.bytesCells w e ⟨l.toArray⟩=(l.map λc=>Value.int .u8 c.toNat).toArray++Array.replicate (grownCap w l.length 0 e-l.length) (.int .u8 0):=by simp[Lib.bytesCells,hsz]
  have hCs:(Lib.bytesCells w e ⟨l.toArray⟩).size=grownCap w l.length 0 e:=by rw[hC];simp;omega
  have hsm:nZ w (Lib.bytesWorld w e ⟨l.toArray⟩):=⟨rfl,rfl,rfl⟩;generalize uJ:grownCap w l.length 0 e=cap at*;generalize hw:Lib.bytesWorld w e ⟨l.toArray⟩=w' at*;have hadd:=r.add [⟨true,false,1,1,bL l⟩] [⟨some ⟨w.heap.size,0,none⟩,cap,λb=>b=w.heap.size⟩] w' rfl (by omega) (λb hb=>hold b hb)
   (by
    rintro j ob g b ⟨h1,h2⟩ _ hf;cases j with
    |zero=>simp at h2;subst h2;simp at hf;subst hf;omega
    |succ j=>simp at h2)
   (by
    rintro i j _ _ _ _ b ⟨h1,_⟩ ⟨h2,_⟩ _ _ _ _;cases i<;>cases j<;>simp_all)
   (by
    rintro k j ob g ⟨h1,h2⟩ _;cases j with
    |zero=>
     simp at h1 h2;subst h1;subst h2;refine⟨[w.heap.size],⟨by simp only[pJ];exact iS hge hle,.inr ⟨w.heap.size,0,_,e,_,[],rfl,hnew,.inl ⟨eJ _,rfl⟩,by show 0+cap*1<=_;rw[hCs];omega,by simp only[pJ];exact hge,hle,rfl,?_⟩⟩,by simp,by simp⟩;refine au l 0 λj c hc=> ?_
     have hj:=(cU.1 hc).1;have h3:(Lib.bytesCells w e ⟨l.toArray⟩)[j]? =some (.int .u8 c.toNat):=by rw[hC,wA (by simpa using hj)];simp[hc]
     simp only[World.cell?,hnew,lR];exact h3
    |succ j=>simp at h1)
   hsm
  refine⟨.slice (some ⟨w.heap.size,0,none⟩) l.length cap,w',by simp only[execOp,r.ZU hx,pB,hrun,mT,tR],_,hadd.1.put dst ?_⟩;simp only[R];refine⟨trivial,⟨true,false,1,1,bL l⟩,⟨some ⟨w.heap.size,0,none⟩,cap,λb=>b=w.heap.size⟩,?_,eJ _,⟨λ_ _=>by simp[pJ],λh=>by omega⟩⟩;have:=oF (i:=0) (o:=s.o) (G:=G) (o2:=[⟨true,false,1,1,bL l⟩]) (G2:=[⟨some ⟨w.heap.size,0,none⟩,cap,λb=>b=w.heap.size⟩]) r.len ⟨rfl,rfl⟩;simpa using this
end
end Go.Aw
