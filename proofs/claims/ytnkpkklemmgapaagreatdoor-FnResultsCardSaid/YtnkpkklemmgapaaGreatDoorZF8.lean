/- Proved here: steps towards the statement of this claim. No condition. -/
import Derived.Test.YtnkpkklemmgapaaGreatDoorZF4
set_option linter.all false
namespace Go.Aw
open List
def Q8(l:List Oper)(o:Oper):Oper:=
 {o with after:=(o.after.toList++o.after.toList.flatMap λe=>if Region.binds .any e then(match l[e.on]? with|some o2=>o2.after.toList.filter λx=>Region.binds .any x|none=>[])else []).toArray}
def ZG(l:List Oper):List Oper:=l.map (Q8 l)
theorem Wj(l:List Oper)(i:Nat):(ZG l)[i]? =(l[i]?).map (Q8 l):=by simp[ZG]
def Clz(l:List Oper)(L:Array Bool):Prop:=∀i o,l[i]? =some o->L.getD i false=true->∀e∈o.after.toList,Region.binds .any e=true->L.getD e.on false=true
theorem aIy{l:List Oper}{o:Oper}{e}(h:e∈(Q8 l o).after.toList):e∈o.after.toList\/∃e0∈o.after.toList,Region.binds .any e0=true/\∃o2,l[e0.on]? =some o2/\e∈o2.after.toList/\Region.binds .any e=true:=by
 simp only[Q8,fS,Bx]at h;rcases h with h|⟨e0,h0,h1⟩
 .exact .inl h
 .split at h1
  .rename_i hb;split at h1
   .rename_i o2 ho;rw[BT]at h1;exact .inr ⟨e0,h0,hb,o2,ho,h1.1,h1.2⟩
   .cases h1
  .cases h1
theorem Wl{l:List Oper}{L:Array Bool}(h:Clz l L)(i:Nat):i∈Region.ready .any (ZG l).toArray L↔i∈Region.ready .any l.toArray L:=by
 rw[zP,zP];have hs:(ZG l).toArray.size=l.toArray.size:=by simp[ZG]
 rw[hs];refine and_congr_right λhi=>and_congr_right λhn=> ?_
 have hi':i<l.length:=by simpa using hi
 have e1:l.toArray[i]? =some l[i]:=by simp[hi']
 have e2:(ZG l).toArray[i]? =some (Q8 l l[i]):=by rw[Bk,Wj,aE hi'];rfl
 rw[e1,e2];constructor
 .rintro ⟨o,ho,hd⟩;obtain rfl:=cU ho;refine⟨_,rfl,λe he hb=>hd e ?_ hb⟩;simp only[Q8,fS];exact .inl he
 .rintro ⟨o,ho,hd⟩;obtain rfl:=cU ho;refine⟨_,rfl,λe he hb=> ?_⟩;rcases aIy he with h1|⟨e0,h0,hb0,o2,WV,h1,_⟩
  .exact hd e h1 hb
  .exact h _ o2 WV (hd e0 h0 hb0) e h1 hb
theorem Q9{P:Program}{l:List Oper}{Q:Exit->Act->World->Prop}:∀(fuel:Nat) (L:Array Bool) (a:Act) (w:World),Clz l L->wpAny P .any (ZG l).toArray Q fuel L a w->wpAny P .any l.toArray Q fuel L a w:=by
 have yl:∀(tm:Array Value) (j:Nat),yielded (ZG l).toArray tm j=yielded l.toArray tm j:=by
  intro tm j;unfold yielded;have:((ZG l).toArray[j]?).bind (·.dst)=(l.toArray[j]?).bind (·.dst):=by rw[Bk,Bk,Wj];cases l[j]?<;>rfl
  rw[this]
 have op:∀(K K':Act->World->Prop) (i:Nat) (a:Act) (w:World),i<l.length->(∀a w,K' a w->K a w)->wpOp P (ZG l).toArray Q i K' a w->wpOp P l.toArray Q i K a w:=by
  intro K K' i a w hi hK hw;have ho:(ZG l).toArray[i]? =some (Q8 l l[i]):=by rw[Bk,Wj,aE hi];rfl
  have WV:l.toArray[i]? =some l[i]:=by simp[hi]
  unfold wpOp at hw⊢;rw[ho]at hw;rw[WV];dsimp only at hw⊢;have hwt:Region.wanted (Q8 l l[i]) (yielded (ZG l).toArray a.tmps)=Region.wanted l[i] (yielded l.toArray a.tmps):=by
   unfold Region.wanted;cases hg:l[i].guard with
   |none=>simp[Q8,hg]
   |some g=>have e:=yl a.tmps g.1;simp only[Q8,hg];rw[e]
  have hwp:∀(K:Act->World->Prop),(Q8 l l[i]).wp P a w K Q=l[i].wp P a w K Q:=λK=>by generalize l[i]=o;obtain⟨dst,op,ty,pos,after,gd⟩:=o;rfl
  have has:(Q8 l l[i]).asks P a w=l[i].asks P a w:=by generalize l[i]=o;obtain⟨dst,op,ty,pos,after,gd⟩:=o;rfl
  rw[hwt,hwp,has]at hw;split
  .rename_i hc;rw[eW hc]at hw;exact hw.imp (Oper.wp_mono hK) id
  .rename_i hc;rw[eK hc]at hw;exact hK _ _ hw
 intro fuel;induction fuel with
 |zero=>intro L a w hL hh;simp only[wpAny]at hh⊢;refine⟨rI.2 λi hi=> ?_,hh.2⟩;have:=(Wl hL i).2 hi;rw[hh.1]at this;cases this
 |succ fuel ih=>
  intro L a w hL hh;simp only[wpAny]at hh⊢;refine⟨λhe=>hh.1 (rI.2 λk hk=> ?_),λi hi=> ?_⟩
  .have:=(Wl hL k).1 hk;rw[he]at this;cases this
  .have hil:i<l.length:=by simpa using(zP.1 hi).1
   obtain⟨_,hn,o,ho,hd⟩:=zP.1 hi;have h1:=hh.2 _ ((Wl hL i).2 hi);refine op _ _ i a w hil (λa w hk=>ih _ a w (λj oj hj hLj e he hb=> ?_) hk) h1;have keep:∀n,L.getD n false=true->(L.setIfInBounds i true).getD n false=true:=by
    intro n hn;rw[eN,rK];by_cases e:i=n
    .subst e;rw[eW rfl];split
     .rfl
     .rename_i hb;rw[eN,tE (by omega)]at hn;cases hn
    .rw [eK e,<-eN];exact hn
   by_cases e1:i=j
   .subst e1;have e2:oj=o:=cU (hj.symm.trans (by simpa using ho));subst e2;exact keep _ (hd e he hb)
   .refine keep _ (hL j oj hj ?_ e he hb);rw[eN,rK,eK e1,<-eN]at hLj;exact hLj
theorem qj{P:Program}[aB P]{l:List Oper}{s:AS}{K:AS->Prop}(hd:CU P (ZG l).toArray s K):CU P l.toArray s K:=by
 intro B a w Q hr hk;have h1:=hd B a w Q hr hk;have hsz:(ZG l).toArray.size=l.toArray.size:=by simp[ZG]
 rw[hsz]at h1;refine Q9 _ _ a _ (λi o _ h=> ?_) h1;rw[eN,sR]at h;split at h<;>cases h
def tT(f:Nat->Bool):Code->Code
 | .region id ops true=>if f id then .region id (ZG ops.toList).toArray true else .region id ops true
 | .seq x y=> .seq (tT f x) (tT f y)
 | .cond c x y=> .cond c (tT f x) (tT f y)
 | .block id c=> .block id (tT f c)
 | .loop c=> .loop (tT f c)
 |c=>c
theorem xV{P:Program}[aB P](f:Nat->Bool):∀(c:Code) (s:AS) (Q:Exit->AS->Prop),jL P (tT f c) s Q->jL P c s Q
 | .skip,s,Q,h=>by simpa only[tT]using h
 | .region id ops false,s,Q,h=>by simpa only[tT]using h
 | .region id ops true,s,Q,h=>by
  simp only[tT]at h;split at h
  .simp only[jL]at h⊢;exact qj (l:=ops.toList) h
  .exact h
 | .seq x y,s,Q,h=>by simp only[tT,jL]at h⊢;refine xV f x s _ (yA _ _ _ _ (λe s' he=> ?_) h);cases e<;>simp only[uG]at he⊢ <;>first|exact xV f y s' _ he|exact he
 | .cond c x y,s,Q,h=>by
  simp only[tT,jL]at h⊢;split at h
  .exact ⟨λe=>xV f x s Q (h.1 e),λe=>xV f y s Q (h.2 e)⟩
  .exact h.elim
 | .block id c,s,Q,h=>by simp only[tT,jL]at h⊢;exact xV f c s _ h
 | .loop c,s,Q,h=>by simp only[tT,jL]at h⊢;obtain⟨ι,inv,μ,i,h0,hr⟩:=h;exact⟨ι,inv,μ,i,h0,λi=>xV f c _ _ (hr i)⟩
 | .exit id,s,Q,h=>by simpa only[tT]using h
 | .ret,s,Q,h=>by simpa only[tT]using h
 | .rangeFunc _ _ _ _,_,_,h=>by simp[tT,jL]at h
 | .scope _,_,_,h=>by simp[tT,jL]at h
 | .label _,_,_,h=>by simp[tT,jL]at h
 | .goto _,_,_,h=>by simp[tT,jL]at h
 | .refuse _,_,_,h=>by simp[tT,jL]at h
theorem aUm{P:Program}[aB P](hm:P.follows .mixedOrders=true){f:FuncId}{fn:Func}{c c':Code}(L:List Nat)(hf:P.funcs[f]? =some fn){n:Nat}(hn:fn.ntmps=n){args t:List AV}{rr:AV}
  (h:jL P c' ⟨t,[]⟩ (λe s=>(e= .normal\/e= .ret)/\aX P fn s rr)) (hb:fn.body=some c:=by rfl)
  (hc:tT (λi=>L.contains i) c=c':=by simp[tT,ZG,Q8,Region.binds];rfl)
  (ht:args++replicate (n-args.length) .undef=t:=by
   simp only[dT,eR,Nat.reduceSub,Nat.reduceAdd,mS,rL,cW,cY];rfl):Ok P f args rr:=by
 subst ht;subst hn;subst hc;exact FL hm hf hb (xV _ _ _ _ h)
section
variable{P:Program}[aB P]{B:fM P}{s:AS}{dst:Option Tmp}{ty:TypeId}{pos:String}{after:Array Edge}{gd:Option (Nat × Bool)}
theorem LF{o:List aD}:∀{c:List AV},(∀x∈c,x.iG=true)->rC o c=c/\lM o c=true/\jF c=[]
 |[],_=>⟨rfl,rfl,rfl⟩
 |x::xs,h=>by
  obtain⟨h1,h2,h3⟩:=LF (o:=o) (c:=xs) λy hy=>h y (by simp[hy])
  have hx:=h x (by simp);cases x<;>simp only[AV.iG]at hx<;>first|(cases hx;done)|(simp[rC,lM,jF,res,gP,iN,h1,h2,h3])
theorem jg(t:TypeId)(len:Nat)(parts:Array (Nat×Operand)){e:TypeId}{n by' i:Nat}(he:lQ P t=some (e,n,by'))(hz:iR P e n=true)(Le:vC parts.toList=true)(hlen:len=parts.toList.length)(hbig:len*n<=16777216)(hbig2:len<=16777216)
  (hpl:∀x∈(parts.toList.map (·.2)).map s.ev,x.iG=true) (hgood:∀x∈(parts.toList.map (·.2)).map s.ev,x.Ab=true/\x.cells.length=n) (hi':s.o[i]? =some ⟨true,false,n,0,[]⟩):
  Step P B ⟨dst,.buildSlice t len parts,ty,pos,after,gd⟩ s (AS.put ⟨s.t,s.o.set i ⟨true,false,n,1,((parts.toList.map (·.2)).map s.ev).map AV.cells⟩⟩ dst (.obj i 1)):=
 qI λG a w r=>by
  generalize hxs:parts.toList.map (·.2)=xs at*;have yU:parts.toList=(xs.zipIdx).map λp=>(p.2,p.1):=by rw[<-hxs];exact CJ _ 0 Le
  obtain⟨hp1,hp2,hp3⟩:=LF (o:=s.o) hpl;obtain⟨fp,sK,hnd,Mk⟩:=Hr r _ _ hp2 (by rw[hp3];simp) (qJ r xs);have Gj:fp=[]:=by
   cases fp with
   |nil=>rfl
   |cons b _=>obtain⟨i,ob,g,hi,_⟩:=Mk b (by simp);rw[hp3]at hi;cases hi
  subst Gj;rw[hp1]at sK;obtain⟨Mf,hsz⟩:=Oh sK hgood;have hvl:(xs.map a.eval).length=len:=by rw[hlen,<-hxs];simp
  have fV:(execOp a.eval ⟨dst,.buildSlice t len parts,ty,pos,after,gd⟩).run P w= .ok (.value (.slice (some ⟨w.heap.size,0,none⟩) len len)) (w.alloc (.cells ((xs.map a.eval).flatMap λv=>v.cells.toList).toArray e)):=by
   have e1:parts.map (λ(i,x)=>(i,a.eval x))=(((xs.map a.eval).zipIdx).map λp=>(p.2,p.1)).toArray:=by apply AM;simp only[An,yU,map_map,zipIdx_map];rfl
   have:=wG (P:=P) (t:=t) (len:=len) (w:=w) he hz hvl.symm hbig hsz;simp only[execOp,e1,oA,this,lP,sY]
  have hlt:i<G.length:=by rw[r.len];exact(cQ.1 hi').1
  have hlk:Aw.look s.o G i ⟨true,false,n,0,[]⟩ G[i]:=⟨hi',aE hlt⟩;generalize G[i]=g at hlk;generalize hCd:((xs.map a.eval).flatMap λv=>v.cells.toList)=cs at*;have Ea:=lL Mf;have Ed:(w.alloc (.cells cs.toArray e)).heap[w.heap.size]? =some (.cells cs.toArray e):=jP w _;have hrl:((xs.map s.ev).map AV.cells).length=len:=by have:=fA sK;rw[oT,<-this,hvl]
  have OQ:len<=maxLen:=by simp only[maxLen];omega
  have hm:=r.modify hlk rfl ⟨true,false,n,1,(xs.map s.ev).map AV.cells⟩ ⟨some ⟨w.heap.size,0,none⟩,len,λb=>g.F b\/b=w.heap.size⟩ (w.alloc (.cells cs.toArray e)) (by simp) rfl (by simp)
   (λb hb=>by
    rcases hb with hb|hb
    .exact .inl hb
    .right;subst hb;simp) (λb hb hne=>⟨.inl hb,λa' vB=>by
     obtain rfl:=cU vB;have:=(r.fresh _ _ _ b hlk rfl hb).2;simp only;omega⟩) (λb hlt _=>heap_alloc w _ b hlt) (by simp) (λk _=>by
   refine⟨[w.heap.size],?_,by simp,by simp⟩;generalize env B _ _ (w.alloc (.cells cs.toArray e))=E' at k⊢;simp only[Env.of,cX,eS];refine⟨by rw[hrl];exact OQ,.inr ⟨w.heap.size,0,cs.toArray,e,(0,0),[],rfl,Ed,.inr rfl,?_,by rw[hrl];exact eE _,OQ,rfl,?_⟩⟩
   .simp [Ea];rw[<-hrl];simp
   .refine sS.2 ⟨cs,uR k.plain (λb hb=>by cases hb) Mf,?_⟩
    refine rV Ed (λj v hv=>by simpa using hv))
  have hl2:Aw.look (s.o.set i ⟨true,false,n,1,(xs.map s.ev).map AV.cells⟩) (G.set i ⟨some ⟨w.heap.size,0,none⟩,len,λb=>g.F b\/b=w.heap.size⟩) i ⟨true,false,n,1,(xs.map s.ev).map AV.cells⟩ ⟨some ⟨w.heap.size,0,none⟩,len,λb=>g.F b\/b=w.heap.size⟩:=pI hlk;refine⟨_,_,fV,_,hm.1.put dst ?_⟩;simp only[R];exact⟨trivial,_,_,hl2,eE _,λ_ _=>by rw[hrl],λh=>absurd h (by decide)⟩
structure Rz where
  at_:Nat
  n:Nat
  st:List (Nat × aD)
def jh(J:Nat->Bool)(h:aD):List (Nat×aD)->aD
 |[]=>h
 |q::r=>if J q.1=true then q.2 else jh J h r
def vst(i:Nat)(pr:List Nat)(h dead:aD):List (Nat×aD)->aD
 |[]=>h
 |q::r=>if q.1∈pr then q.2 else if q.1=i\/i∈r.map (·.1)then vst i pr h dead r else dead
def hole(n:Nat):aD:=⟨true,false,n,0,[]⟩
def aC7(n:Nat):aD:=⟨false,false,n,0,[]⟩
def yL(J:Nat->Bool):List Rz->List aD->List aD
 |[],o=>o
 |p::r,o=>yL J r (o.set p.at_ (jh J (hole p.n) p.st))
def Iy(i:Nat)(pr:List Nat):List Rz->List aD->List aD
 |[],o=>o
 |p::r,o=>Iy i pr r (o.set p.at_ (vst i pr (hole p.n) (aC7 p.n) p.st))
def PY(l:List Oper):List (Nat×aD)->Bool
 |[]=>true
 |[_]=>true
 |q::q'::r=>(lZ l q.1).contains q'.1&&PY l (q'::r)
def aHs(l:List Oper)(fl:List Rz)(n:Nat):Bool:=
 decide (fl.map (·.at_)).Nodup&&(fl.all λp=>decide (p.at_<n)&&PY l p.st&&decide (p.st.map (·.1)).Nodup&&p.st.all λq=>decide (q.1<l.length))&&decide ((fl.flatMap λp=>p.st.map (·.1))).Nodup
theorem Bl(J:Nat->Bool):∀(fl:List Rz) (o:List aD),(yL J fl o).length=o.length
 |[],_=>rfl
 |q::r,o=>by simp only[yL];rw[Bl J r];simp
theorem EI(i:Nat)(pr:List Nat):∀(fl:List Rz) (o:List aD),(Iy i pr fl o).length=o.length
 |[],_=>rfl
 |q::r,o=>by simp only[Iy];rw[EI i pr r];simp
theorem JX{J:Nat->Bool}{i:Nat}:∀{fl:List Rz} {o:List aD},(∀q∈fl,q.at_≠i)->(yL J fl o)[i]? =o[i]?
 |[],_,_=>rfl
 |q::r,o,h=>by simp only[yL];rw[JX λp hp=>h p (by simp[hp]),gR (h q (by simp))]
theorem VB{k:Nat}{pr:List Nat}{i:Nat}:∀{fl:List Rz} {o:List aD},(∀q∈fl,q.at_≠i)->(Iy k pr fl o)[i]? =o[i]?
 |[],_,_=>rfl
 |q::r,o,h=>by simp only[Iy];rw[VB λp hp=>h p (by simp[hp]),gR (h q (by simp))]
theorem JY{J:Nat->Bool}:∀{fl:List Rz} {o:List aD} {q:Rz},(fl.map (·.at_)).Nodup->q∈fl->q.at_<o.length->(yL J fl o)[q.at_]? =some (jh J (hole q.n) q.st)
 |p::r,o,q,hn,hq,hl=>by
  simp only[yL];simp only[lA,mC]at hn;rcases gE.1 hq with rfl|hq
  .rw [JX λp hp e=>hn.1 (qS.2 ⟨p,hp,e⟩),lR hl]
  .exact JY hn.2 hq (by simpa using hl)
theorem Yi{k:Nat}{pr:List Nat}:∀{fl:List Rz} {o:List aD} {q:Rz},(fl.map (·.at_)).Nodup->q∈fl->q.at_<o.length->(Iy k pr fl o)[q.at_]? =some (vst k pr (hole q.n) (aC7 q.n) q.st)
 |p::r,o,q,hn,hq,hl=>by
  simp only[Iy];simp only[lA,mC]at hn;rcases gE.1 hq with rfl|hq
  .rw [VB λp hp e=>hn.1 (qS.2 ⟨p,hp,e⟩),lR hl]
  .exact Yi hn.2 hq (by simpa using hl)
theorem Iz{J J':Nat->Bool}:∀{fl:List Rz} {o:List aD},(∀p∈fl,∀q∈p.st,J q.1=J' q.1)->yL J fl o=yL J' fl o
 |[],_,_=>rfl
 |p::r,o,h=>by
  simp only[yL];have:∀st:List (Nat×aD),(∀q∈st,J q.1=J' q.1)->jh J (hole p.n) st=jh J' (hole p.n) st:=by
   intro st;induction st with
   |nil=>intros;rfl
   |cons q r ih=>intro h;simp only[jh];rw[h q (by simp),ih λx hx=>h x (by simp[hx])]
  rw[this p.st (h p (by simp)),Iz λq hq=>h q (by simp[hq])]
theorem Yj{J:Nat->Bool}{i:Nat}{pr:List Nat}{n:Nat}(hi:J i=false)(hp:∀e∈pr,J e=true):∀(st:List (Nat×aD)),(∀s1 q s2,st=s1++q::s2->J q.1=false->∀p∈s1,J p.1=false)->(vst i pr (hole n) (aC7 n) st).live=true->vst i pr (hole n) (aC7 n) st=jh J (hole n) st
 |[],_,_=>rfl
 |q::r,aHt,h=>by
  simp only[vst,jh]at h⊢;by_cases h1:q.1∈pr
  .rw [eW h1,eW (hp _ h1)]
  .rw [eK h1]at h⊢;by_cases h2:q.1=i\/i∈r.map (·.1)
   .rw [eW h2]at h⊢;have hq:J q.1=false:=by
     rcases h2 with h2|h2
     .rw [h2];exact hi
     .obtain ⟨x,hx,rfl⟩:=qS.1 h2;obtain⟨r1,r2,rfl⟩:=append_of_mem hx;exact aHt (q::r1) x r2 rfl hi q (by simp)
    rw[hq,eK (by simp)];exact Yj hi hp r (λs1 x s2 e hx p hp=>aHt (q::s1) x s2 (by rw[e];rfl) hx p (by simp[hp])) h
   .rw [eK h2]at h;cases h
theorem Uq{l:List Oper}{q:Nat×aD}{r:List (Nat×aD)}(h:PY l (q::r)=true):PY l r=true:=by
 cases r with
 |nil=>rfl
 |cons q' r=>simp only[PY,eI]at h;exact h.2
theorem PZ{l:List Oper}{J:Nat->Bool}(hJ:XJ l J)(hlen:∀i,J i=true->i<l.length):∀{s1:List (Nat×aD)} {q:Nat×aD} {s2:List (Nat×aD)},PY l (s1++q::s2)=true->J q.1=false->∀p∈s1,J p.1=false
 |[],_,_,_,_=>λ_ hp=>by cases hp
 |x::s1,q,s2,h,hq=>by
  have ih:=PZ hJ hlen (Uq h) hq;intro p hp;rcases gE.1 hp with rfl|hp
  .cases hJp:J p.1 with
   |false=>rfl
   |true=>
    exfalso;have hnx:∃y,(lZ l p.1).contains y=true/\J y=false:=by
     cases s1 with
     |nil=>simp only[cW,cY,PY,eI]at h;exact⟨q.1,h.1,hq⟩
     |cons y s1=>simp only[cW,PY,eI]at h;exact⟨y.1,h.1,ih y (by simp)⟩
    obtain⟨y,hy,hyf⟩:=hnx;have hlp:=hlen _ hJp;have hop:l[p.1]? =some (l.get ⟨p.1,hlp⟩):=aE hlp;have hm:y∈pre (l.get ⟨p.1,hlp⟩):=by unfold lZ at hy;rw[hop]at hy;simpa using hy
    have:=hJ _ _ hop hJp _ hm;rw[hyf]at this;cases this
  .exact ih p hp
theorem aC8{J:Nat->Bool}{i:Nat}{pr:List Nat}{fl:List Rz}{o:List aD}(hn:(fl.map (·.at_)).Nodup)(hs:∀q∈fl,q.at_<o.length)(hi:J i=false)(hp:∀e∈pr,J e=true)(aHt:∀q∈fl,∀s1 x s2,q.st=s1++x::s2->J x.1=false->∀p∈s1,J p.1=false):Sub (Iy i pr fl o) (yL J fl o):=by
 intro k ob h hl;by_cases hk:∃q∈fl,q.at_=k
 .obtain ⟨q,hq,rfl⟩:=hk;rw[Yi hn hq (hs q hq)]at h;obtain rfl:=cU h;rw[JY hn hq (hs q hq),Yj hi hp _ (aHt q hq) hl]
 .have hk':∀q∈fl,q.at_≠k:=λq hq e=>hk ⟨q,hq,e⟩
  rw[VB hk']at h;rw[JX hk'];exact h
theorem aHv{l:List Oper}{J:Nat->Bool}(hJ:XJ l J)(hlen:∀i,J i=true->i<l.length){n i:Nat}{ob':aD}:∀{s1 s2:List (Nat×aD)},PY l (s1++(i,ob')::s2)=true->((s1++(i,ob')::s2).map (·.1)).Nodup->J i=false->jh (eT J i) (hole n) (s1++(i,ob')::s2)=ob'
 |s1,s2,h,hn,hi=>by
  have hl:=PZ hJ hlen h hi;induction s1 with
  |nil=>simp[jh,eT]
  |cons x s1 ih=>
   simp only[cW,lA,mC]at hn;have hx:x.1≠i:=λe=>hn.1 (by simp[e])
   simp only[cW,jh];have:eT J i x.1=false:=by unfold eT;rw[eK hx];exact hl x (by simp)
   rw[this,eK (by simp)];exact ih (Uq h) hn.2 (λp hp=>hl p (by simp[hp]))
def IB(P:Program)[aB P](op:Oper)(m:List AV)(view:List aD)(pl:Nat)(val:AV)(ob':aD):Prop:=
 ∀(B:fM P) (t2:List AV) (o2:List aD),wk t2 m->Sub view o2->o2.length=view.length->Step P B op ⟨t2,o2⟩ ⟨rR t2 op.dst val,o2.set pl ob'⟩
def Ur(P:Program)[aB P](l:List Oper)(t:List AV)(b:List aD)(fl:List Rz)(j:Nat)(op:Oper)(vs:List AV): Prop :=
  (∀ e ∈ pre op, e<j) /\
  (((∀ p ∈ fl, ∀ q ∈ p.st, q.1 ≠ j) /\ mQ op.op ⟨nM j (pre op) 0 l (vs.take j) t, Iy j (pre op) fl b⟩ = true /\ ∃ x, (vs.getD j .undef = x \/ vs.getD j .undef = .undef) /\
      qL P l op ⟨nM j (pre op) 0 l (vs.take j) t, Iy j (pre op) fl b⟩ (λs' => s' = ⟨rR (nM j (pre op) 0 l (vs.take j) t) op.dst x, Iy j (pre op) fl b⟩)) \/
   (op.guard = none /\ ∃ p ∈ fl, ∃ s1 ob' s2, p.st = s1 ++ (j, ob') :: s2 /\ IB P op (nM j (pre op) 0 l (vs.take j) t) (Iy j (pre op) fl b) p.at_ (vs.getD j .undef) ob'))
theorem ji{P:Program}[aB P]{id:Nat}{l:List Oper}{s:AS}{Q:Exit->AS->Prop}(fl:List Rz){b:List aD}(vs:List AV)(hfw:GQ l=true)(hdst:distinct l=true)(hfl:aHs l fl b.length=true)
  (hb0:yL (λ_=>false) fl b=s.o++(fl.map (·.n)).map λn=>⟨true,false,n,0,[]⟩)
  (hit:∀j op,l[j]? =some op->Ur P l s.t b fl j op vs) (hK:Q .normal ⟨gM (λ_=>true) 0 l vs s.t,yL (λ_=>true) fl b⟩):jL P (.region id l.toArray true) s Q:=by
 simp only[aHs,eI,fX,fW]at hfl;obtain⟨⟨hnd,hsl⟩,aTe⟩:=hfl;have hs:∀q∈fl,q.at_<b.length:=λq hq=>(hsl q hq).1.1.1
 have hsq:∀q∈fl,∀x∈q.st,x.1<l.length:=λq hq=>(hsl q hq).2
 have hst:∀q∈fl,PY l q.st=true:=λq hq=>(hsl q hq).1.1.2
 have ZO:∀q∈fl,(q.st.map (·.1)).Nodup:=λq hq=>(hsl q hq).1.2
 have aTg:∀p∈fl,∀p'∈fl,∀q∈p.st,∀q'∈p'.st,q.1=q'.1->p.at_=p'.at_:=by
  have:∀(fl:List Rz),(fl.flatMap λp=>p.st.map (·.1)).Nodup->∀p∈fl,∀p'∈fl,∀q∈p.st,∀q'∈p'.st,q.1=q'.1->p.at_=p'.at_:=by
   intro fl;induction fl with
   |nil=>intro _ p hp;cases hp
   |cons x fl ih=>
    intro hn p hp p' hp' q hq q' hq' e;simp only[DP,gS]at hn;rcases gE.1 hp with e1|hp1<;>rcases gE.1 hp' with e2|hp2
    .rw [e1,e2]
    .exfalso;rw[e1]at hq;exact hn.2.2 _ (qS.2 ⟨q,hq,rfl⟩) _ (Bx.2 ⟨p',hp2,qS.2 ⟨q',hq',rfl⟩⟩) e
    .exfalso;rw[e2]at hq';exact hn.2.2 _ (qS.2 ⟨q',hq',rfl⟩) _ (Bx.2 ⟨p,hp1,qS.2 ⟨q,hq,rfl⟩⟩) e.symm
    .exact ih hn.2.1 p hp1 p' hp2 q hq q' hq' e
  exact this fl aTe
 unfold jL;have hrest:wH l l.length=true:=by unfold wH;rw[fW];intro i hi;simp at hi;simp only[sE,fX];exact .inl (by omega)
 refine XM (ops:=l.toArray) l.length (by simp) (by simpa using hfw) (by simpa using hrest) (λJ=>⟨gM J 0 l vs s.t,yL J fl b⟩) ?_ ?_ ?_
 .have e1:∀(l:List Oper) (j:Nat) (vs t:List AV),gM (λ_=>false) j l vs t=t:=by
   intro l;induction l with
   |nil=>intros;rfl
   |cons op r ih=>intro j vs t;simp only[gM];rw[ih];unfold zF;cases op.dst<;>simp
  rw[e1,hb0];exact λ_ _ _ _ _ r=>OA _ r
 .intro i op him hi J hJ hJm hJi hpre;have hi':l[i]? =some op:=by simpa using hi
  have hJ':XJ l J:=by simpa using hJ
  have aJx:∀k,J k=true->k<l.length:=λk hk=>by
   rcases tA k l.length with h|h
   .exact h
   .rw [hJm k h]at hk;cases hk
  obtain⟨aTh,hex⟩:=hit i op hi';have Ub:wk (gM J 0 l vs s.t) (nM i (pre op) 0 l (vs.take i) s.t):=
   Lx hJi (λe he=>⟨hpre e he,aTh e he⟩) l 0 vs (vs.take i) s.t s.t (λk q hk hJk=>hJ' k q hk (by simpa using hJk)) (λk hk=>by
    rw[hY,hY,Cd];simp[show k<i by omega]) (mR _)
  have hsub:=aC8 (J:=J) (i:=i) (pr:=pre op) hnd hs hJi hpre (λq hq s1 x s2 e hx=>PZ hJ' aJx (by rw[<-e];exact hst q hq) hx);have aO9:∀v,vs.getD i .undef=v->gM (eT J i) 0 l vs s.t=rR (gM J 0 l vs s.t) op.dst v:=λv hv=>by
   have:=FU l 0 i op vs s.t v hdst hi' (by simpa using hJi) hv
   rwa[lO]at this
  rcases hex with⟨hnf,hq,x,hvx,hop⟩|⟨hg,p,hp,s1,ob',s2,aHw,Us⟩
  .left;obtain⟨x',new',x2,rfl',hx2,_,hfin⟩:=Bi (o2:=yL J fl b) hq Ub hop hsub (.inl (by rw[Bl,EI]));refine hfin _ ?_;have hset:new'=[]/\(rR (nM i (pre op) 0 l (vs.take i) s.t) op.dst x'=rR (nM i (pre op) 0 l (vs.take i) s.t) op.dst x):=by simp only[AS.mk.injEq]at rfl';refine⟨?_,rfl'.1⟩;have:=Ax length rfl'.2;rw[eM]at this;exact lB (by omega)
   have hto:wk (rR (gM J 0 l vs s.t) op.dst x2) (gM (eT J i) 0 l vs s.t):=by
    rw[aO9 _ rfl];have hL:=Lv Ub;have wz:=hset.2;unfold rR at wz⊢;cases hd:op.dst with
    |none=>exact mR _
    |some d=>
     rw[hd]at wz;dsimp only at wz⊢;rcases tA d (gM J 0 l vs s.t).length with hdl|hle
     .have hxx:x'=x:=by have h5:=Ax (λt=>t[d]?) wz;have aPa:d<(nM i (pre op) 0 l (vs.take i) s.t).length:=hL▸hdl;rw[lR aPa,lR aPa]at h5;exact cU h5
      refine PI d (mR _) ?_;rcases hvx with e|e
      .rw [e,<-hxx];assumption
      .exact .inr e
     .rw [zE hle,zE hle];exact mR _
   have vZ:yL J fl b++new'=yL (eT J i) fl b:=by
    rw[hset.1,eC];refine Iz λp hp q hq=> ?_
    unfold eT;rw[eK (hnf p hp q hq)]
   rw[vZ];exact Ag hto
  .right;refine⟨hg,λB=> ?_⟩;have:=Us B _ _ Ub hsub (by rw[Bl,EI]);have e:yL (eT J i) fl b=(yL J fl b).set p.at_ ob':=by
    refine AK λk=> ?_
    by_cases hk:∃q∈fl,q.at_=k
    .obtain ⟨q,hq,rfl⟩:=hk;rw[JY hnd hq (hs q hq)];by_cases hqp:q.at_=p.at_
     .have aTi:q=p:=FV (·.at_) fl hnd q p hq hp hqp;subst aTi;rw[lR (by rw[Bl];exact hs q hq),aHw];rw[aHv hJ' aJx (by rw[<-aHw];exact hst q hq) (by rw[<-aHw];exact ZO q hq) hJi]
     .rw [gR (λe=>hqp e.symm),JY hnd hq (hs q hq)]
      have:∀st:List (Nat×aD),(∀x∈st,x.1≠i)->jh (eT J i) (hole q.n) st=jh J (hole q.n) st:=by
       intro st;induction st with
       |nil=>intros;rfl
       |cons x r ih=>
        intro h;have hx:eT J i x.1=J x.1:=by unfold eT;rw[eK (h x (by simp))]
        simp only[jh];rw[hx,ih λy hy=>h y (by simp[hy])]
      rw[this q.st λx hx e=>hqp (aTg q hq p hp x hx (i,ob') (by rw[aHw];simp) e)]
    .have hk':∀q∈fl,q.at_≠k:=λq hq e=>hk ⟨q,hq,e⟩
     rw[JX hk',gR (hk' p hp),JX hk']
   rw[aO9 _ rfl,e];exact this
 .intro J hJ hJm hor;left;have hsz:l.toArray.size=l.length:=by simp
  have hall:∀i,i<l.length->J i=true:=by
   intro i hi;rcases hor with h|⟨op,hop,_⟩
   .exact h i (by omega)
   .have:=(cQ.1 hop).1;simp at this
  rw[hsz];have e3:(range l.length).map J=replicate l.length true:=by
   refine AK λi=> ?_
   rw[sA,getElem?_replicate];by_cases hi:i<l.length
   .simp [hi,hall i hi]
   .simp [hi]
  have e4:left (replicate l.length true)=0:=by
   unfold left;rw[filter_eq_nil_iff.2]
   .rfl
   .intro x hx;rw[(mem_replicate.1 hx).2];simp
  rw[e3,e4];simp only[yK];have e5:gM J 0 l vs s.t=gM (λ_=>true) 0 l vs s.t:=Bf l 0 vs s.t λk hk=>by rw[lO];exact hall k hk
  have e6:yL J fl b=yL (λ_=>true) fl b:=Iz λp hp q hq=>hall _ (hsq p hp q hq)
  rw[e5,e6];exact hK
theorem H6{x:AV}(h:x.iG=true):x≠ .undef:=by rintro rfl;simp[AV.iG]at h
theorem aLu{P:Program}[aB P]{dst:Option Tmp}{ty:TypeId}{pos:String}{after:Array Edge}{gd:Option (Nat×Bool)}{m:List AV}{view:List aD}{pl:Nat}{T:TypeId}{len:Nat}{parts:Array (Nat×Operand)}{e:TypeId}{n by':Nat}{xs:List AV}
  (he:lQ P T=some (e,n,by')) (hz:iR P e n=true) (Le:vC parts.toList=true) (hlen:len=parts.toList.length) (hbig:len*n<=16777216) (hbig2:len<=16777216)
  (hxs:(parts.toList.map (·.2)).map (AS.ev ⟨m,view⟩)=xs) (hpl:∀x∈xs,x.iG=true) (hgood:∀x∈xs,x.Ab=true/\x.cells.length=n) (hv:view[pl]? =some (hole n)):
  IB P ⟨dst,.buildSlice T len parts,ty,pos,after,gd⟩ m view pl (.obj pl 1) ⟨true,false,n,1,xs.map AV.cells⟩:=by
 intro B t2 o2 hw hs _;have e2:(parts.toList.map (·.2)).map (AS.ev ⟨t2,o2⟩)=xs:=by
  have key:∀(l:List Operand) (xs:List AV),l.map (AS.ev ⟨m,view⟩)=xs->(∀x∈xs,x.iG=true)->l.map (AS.ev ⟨t2,o2⟩)=xs:=by
   intro l;induction l with
   |nil=>intro xs h _;exact h
   |cons a l ih=>
    intro xs h hp;cases xs with
    |nil=>cases h
    |cons x xs=>simp only[lA,List.cons.injEq]at h⊢;exact⟨FP hw h.1 (H6 (hp x (by simp))),ih xs h.2 λy hy=>hp y (by simp[hy])⟩
  exact key _ _ hxs hpl
 have ho:o2[pl]? =some ⟨true,false,n,0,[]⟩:=hs pl _ hv rfl;have:=jg (P:=P) (B:=B) (s:=⟨t2,o2⟩) (dst:=dst) (ty:=ty) (pos:=pos) (after:=after) (gd:=gd) T len parts (i:=pl) he hz Le hlen hbig hbig2 (by rw[e2];exact hpl) (by rw[e2];exact hgood) ho;rw[e2,put_eq]at this;exact this
theorem xc{P:Program}[aB P]{dst:Option Tmp}{ty:TypeId}{pos:String}{after:Array Edge}{gd:Option (Nat×Bool)}{m:List AV}{view:List aD}{pl:Nat}{T:TypeId}{len:Nat}{parts:Array (Nat×Operand)}{e:TypeId}{n by':Nat}{xs:List AV}{dM:List (List AV)}
  (he:lQ P T=some (e,n,by')) (hz:iR P e n=true) (Le:vC parts.toList=true) (hlen:len=parts.toList.length) (hbig:len*n<=16777216) (hbig2:len<=16777216)
  (hxs:(parts.toList.map (·.2)).map (AS.ev ⟨m,view⟩)=xs) (hpl:∀x∈xs,x.iG=true) (hgood:∀x∈xs,x.Ab=true/\x.cells.length=n) (hv:view[pl]? =some (hole n)) (hels:xs.map AV.cells=dM):
  IB P ⟨dst,.buildSlice T len parts,ty,pos,after,gd⟩ m view pl (.obj pl 1) ⟨true,false,n,1,dM⟩:=by
 subst hels;exact aLu he hz Le hlen hbig hbig2 hxs hpl hgood hv
def jk(P:Program)[aB P](l:List Oper)(t:List AV)(b:List aD)(fl:List Rz)(K:AS->Prop):Nat->List Oper->List AV->Prop
 |_,[],vs=>K ⟨gM (λ_=>true) 0 l vs t,yL (λ_=>true) fl b⟩
 |j,op::r,vs=>∃x,Ur P l t b fl j op (vs++[x])/\jk P l t b fl K (j+1) r (vs++[x])
theorem Yk{P:Program}[aB P]{l:List Oper}{t:List AV}{b:List aD}{fl:List Rz}{j:Nat}{op:Oper}{vs vs':List AV}(h:Ur P l t b fl j op vs)(h1:vs.take j=vs'.take j)(h2:vs.getD j .undef=vs'.getD j .undef):Ur P l t b fl j op vs':=by unfold Ur at h⊢;rw[h1,h2]at h;exact h
theorem xe{P:Program}[aB P]{l:List Oper}{t:List AV}{b:List aD}{fl:List Rz}{K:AS->Prop}:∀(r:List Oper) (j:Nat) (vs:List AV),l.drop j=r->vs.length=j->jk P l t b fl K j r vs->
  ∃vf,vf.take j=vs/\(∀k op,j<=k->l[k]? =some op->Ur P l t b fl k op vf)/\K ⟨gM (λ_=>true) 0 l vf t,yL (λ_=>true) fl b⟩
 |[],j,vs,hd,hl,h=>by refine⟨vs,eJ (by omega),λk op hk hop=> ?_,h⟩;have h1:=(cQ.1 hop).1;have h2:=Ax length hd;simp at h2;omega
 |op::r,j,vs,hd,hl,h=>by
  simp only[jk]at h;obtain⟨x,hi,h⟩:=h;have hd':l.drop (j+1)=r:=by rw[<-yW,hd];rfl
  have hop:l[j]? =some op:=by have:=Ax (·[0]?) hd;simpa using this
  obtain⟨vf,h1,h2,h3⟩:=xe r (j+1) (vs++[x]) hd' (by simp[hl]) h;refine⟨vf,?_,λk op' hk hop'=> ?_,h3⟩
  .have:=Ax (List.take j) h1;rw[take_take]at this;rw[DA (by omega)]at this;rw[this,AT (by omega),eJ (by omega)]
  .rcases tA j k with hlt|hge
   .exact h2 k op' hlt hop'
   .obtain rfl:j=k:=by omega
    rw[hop]at hop';obtain rfl:=cU hop';refine Yk hi ?_ ?_
    .have:=Ax (List.take j) h1;rw[take_take,DA (by omega)]at this;rw[this]
    .have:=Ax (·[j]?) h1;simp only[Cd]at this;rw[eW (by omega)]at this;rw[hY,hY,this]
@[irreducible] def Qa{α:Type}(x:α):α:=x
theorem wL{α:Type}(x:α):Qa x=x:=by unfold Qa;rfl
def uW(f:Nat->Bool):Code->Code
 | .region id ops true=>if f id then .region id (Qa ops) true else .region id ops true
 | .region id ops false=>if f id then Qa (.region id ops false)else .region id ops false
 | .seq x y=> .seq (uW f x) (uW f y)
 | .cond c x y=> .cond c (uW f x) (uW f y)
 | .block id c=> .block id (uW f c)
 | .loop c=> .loop (uW f c)
 |c=>c
theorem uX(f:Nat->Bool):∀c:Code,uW f c=c
 | .region id ops true=>by simp only[uW];split<;>simp[wL]
 | .region id ops false=>by simp only[uW];split<;>simp[wL]
 | .seq x y=>by simp[uW,uX f x,uX f y]
 | .cond c x y=>by simp[uW,uX f x,uX f y]
 | .block id c=>by simp[uW,uX f c]
 | .loop c=>by simp[uW,uX f c]
 | .skip=>rfl
 | .exit _=>rfl
 | .ret=>rfl
 | .rangeFunc _ _ _ _=>rfl
 | .scope _=>rfl
 | .label _=>rfl
 | .goto _=>rfl
 | .refuse _=>rfl
theorem BO{P:Program}[aB P](hm:P.follows .mixedOrders=true){f:FuncId}{fn:Func}{c c':Code}(L:List Nat)(hf:P.funcs[f]? =some fn){n:Nat}(hn:fn.ntmps=n){args t:List AV}{rr:AV}
  (h:jL P c' ⟨t,[]⟩ (λe s=>(e= .normal\/e= .ret)/\aX P fn s rr)) (hb:fn.body=some c:=by rfl)
  (hc:uW (λi=>L.contains i) c=c':=by simp[uW];rfl)
  (ht:args++replicate (n-args.length) .undef=t:=by
   simp only[dT,eR,Nat.reduceSub,Nat.reduceAdd,mS,rL,cW,cY];rfl):Ok P f args rr:=by
 subst ht;subst hn;subst hc;rw[uX]at h;exact FL hm hf hb h
theorem go_weak{P:Program}[aB P]{id:Nat}{l:List Oper}{s s2:AS}{Q:Exit->AS->Prop}(hw:kY s s2)(h:jL P (.region id l.toArray false) s2 Q):jL P (Qa (.region id l.toArray false)) s Q:=by rw[wL];exact Pp hw h
theorem go_drawn3{P:Program}[aB P]{id:Nat}{l:List Oper}{s:AS}{Q:Exit->AS->Prop}(fl:List Rz){b:List aD}(hb:s.o++(fl.map (·.n)).map (λn=>⟨true,false,n,0,[]⟩)=b)(hfw:GQ l=true)(hdst:distinct l=true)(hfl:aHs l fl b.length=true)
  (hb0:yL (λ_=>false) fl b=b) (h:jk P l s.t b fl (Q .normal) 0 l []):jL P (.region id (Qa l.toArray) true) s Q:=by
 rw[wL];obtain⟨vf,_,h2,h3⟩:=xe l 0 [] rfl rfl h;exact ji fl vf hfw hdst hfl (by rw[hb0,hb]) (λj op hop=>h2 j op (Nat.zero_le _) hop) h3
section
variable{P:Program}[aB P]{l:List Oper}{t:List AV}{b:List aD}{fl:List Rz}{K:AS -> Prop}{j:Nat}{op:Oper}{r:List Oper}{vs:List AV}{pr:List Nat}{m:List AV}{om:List aD}
theorem aC9{t':List AV}{o':List aD}(h1:gM (λ_=>true) 0 l vs t=t')(h2:yL (λ_=>true) fl b=o')(h:K ⟨t',o'⟩):jk P l t b fl K j [] vs:=by simp only[jk,h1,h2];exact h
theorem xg{vs':List AV}{c:Prop}(hc:c)(hv:vs=vs')(hd:jk P l t b fl K j r vs'):c/\jk P l t b fl K j r vs:=by subst hv;exact⟨hc,hd⟩
theorem xh(hg:op.guard=none)(hnf:(fl.all λp=>p.st.all λq=>decide (q.1≠j))=true)(hpr:pre op=pr)(hlt:(pr.all λe=>decide (e<j))=true)(hm:nM j pr 0 l vs t=m)(ho:Iy j pr fl b=om)(hq:mQ op.op ⟨m,om⟩=true)(hvl:vs.length=j)(hdl:(match op.dst with|some d=>decide (d<m.length)|none=>true)=true)
  (ha:Nx 2 P op ⟨m,om⟩ λs'=>s'.o.length=om.length/\jk P l t b fl K (j+1) r (vs++[EB op s'])):jk P l t b fl K j (op::r) vs:=by
 have hst:qL P l op ⟨m,om⟩ λs'=>s'.o.length=om.length/\jk P l t b fl K (j+1) r (vs++[EB op s']):=by
  unfold qL;simp only[hg];unfold Nx at ha;rcases ha with ha|ha
  .exact .inl ha
  .rcases ha with ha|ha
   .exact absurd ha.1 (by decide)
   .exact .inr ha.2
 obtain⟨x,new,x2,⟨hlen,hK⟩,hx,_,hfin⟩:=Bi (t2:=m) (o2:=om) hq (mR _) hst (λi ob h _=>h) (.inl rfl);have hnew:new=[]:=by rw[eM]at hlen;exact lB (by omega)
 subst hnew;rw[eC]at hK;simp only[jk];refine⟨_,?_,hK⟩;have htk:(vs++[EB op ⟨rR m op.dst x,om⟩]).take j=vs:=by rw[AT (by omega),eJ (by omega)]
 have hgd:(vs++[EB op ⟨rR m op.dst x,om⟩]).getD j .undef=EB op ⟨rR m op.dst x,om⟩:=by rw[hY,mL (by omega),hvl,DS];rfl
 refine⟨λe he=>by rw[hpr]at he;have:=fW.1 hlt e he;simpa using this,.inl ⟨λp hp q hq=> ?_,?_,x2,?_,?_⟩⟩
 .have:=fW.1 (fW.1 hnf p hp) q hq;simpa using this
 .rw [htk,hpr,hm,ho];exact hq
 .rw [hgd];unfold EB rR;cases hd:op.dst with
  |none=>exact .inr rfl
  |some d=>
   rw[hd]at hdl;have hdl:d<m.length:=by simpa using hdl
   dsimp only;rw[hY,lR hdl];exact hx
 .rw [htk,hpr,hm,ho];exact hfin _ (by rw[eC])
theorem Bn{v:AV}{ob':aD}(p:Rz)(s1 s2:List (Nat×aD))(hg:op.guard=none)(hp:p∈fl)(hst:p.st=s1++(j,ob')::s2)(hpr:pre op=pr)(hlt:(pr.all λe=>decide (e<j))=true)(hm:nM j pr 0 l vs t=m)(ho:Iy j pr fl b=om)(hvl:vs.length=j)
  (ha:IB P op m om p.at_ v ob') (h:jk P l t b fl K (j+1) r (vs++[v])):jk P l t b fl K j (op::r) vs:=by
 simp only[jk];refine⟨v,?_,h⟩;have htk:(vs++[v]).take j=vs:=by rw[AT (by omega),eJ (by omega)]
 have hgd:(vs++[v]).getD j .undef=v:=by rw[hY,mL (by omega),hvl,DS];rfl
 refine⟨λe he=>by rw[hpr]at he;have:=fW.1 hlt e he;simpa using this,.inr ⟨hg,p,hp,s1,ob',s2,hst,?_⟩⟩;rw[htk,hgd,hpr,hm,ho];exact ha
end
attribute [simp] yL Iy jh vst hole aC7 aHs PY
def mG(P:Program)(fn:Func)(s:AS)(r:AV):Prop:=
 ∃ys,s.Ce P fn.results.toList=some ys/\gP s.o (single ys)=true/\(iN (single ys)).Nodup/\res s.o (single ys)=r
def Bz(P:Program)(fn:Func)(s:AS)(r:AV):Prop:=
 ∃i ys,s.EF P fn.results.toList=some (i,ys)/\gP s.o (single ys)=true/\(iN (single ys)).Nodup/\i∉iN (single ys)/\res s.o (single ys)=r
theorem pX{P:Program}{fn:Func}{s:AS}{r:AV}(h:match s.EF P fn.results.toList with|some (i,ys)=>gP s.o (single ys)=true/\(iN (single ys)).Nodup/\i∉iN (single ys)/\res s.o (single ys)=r|none=>False):Bz P fn s r:=by
 unfold Bz;split at h
 .rename_i i ys hx;exact⟨i,ys,hx,h⟩
 .exact h.elim
theorem mh{P:Program}[aB P](hm:P.follows .mixedOrders=true){f:FuncId}{fn:Func}{c:Code}(hf:P.funcs[f]? =some fn)(hb:fn.body=some c){args:List AV}{rr:AV}(AL:Ic args=true)
  (h:jL P c ⟨args++replicate (fn.ntmps-args.length) .undef,[]⟩ (λe s=>(e= .normal\/e= .ret)/\(mG P fn s rr\/Bz P fn s rr))):Ok P f args rr:=by
 intro w vs hg oP;have hl:=fA oP;have r0:dN ⟨w,λ_=>False,λ_=>False,λ_=>none,λ_=>none,hg,λ_ h=>h.elim,λ_ h=>h.elim⟩ ⟨args++replicate (fn.ntmps-args.length) .undef,[]⟩ [] {tmps:=vs.toArray++Array.replicate (fn.ntmps-vs.toArray.size) Go.undef,defers:=[]} w:=by
  refine⟨rfl,rfl,λi ob g hl=>by simp[look]at hl,λi j oi oj gi gj b hl=>by simp[look]at hl,λi ob g b hl=>by simp[look]at hl,?_,eE _,λ_ _ _=>rfl,λb hb=>hb.elim,nV.rfl⟩;have h1:Rc w (env ⟨w,λ_=>False,λ_=>False,λ_=>none,λ_=>none,hg,λ_ h=>h.elim,λ_ h=>h.elim⟩ [] [] w) args vs []:=Ie _ _ _ AL oP;have h2:∀n,Rc w (env ⟨w,λ_=>False,λ_=>False,λ_=>none,λ_=>none,hg,λ_ h=>h.elim,λ_ h=>h.elim⟩ [] [] w) (replicate n .undef) (replicate n Go.undef) []:=by
   intro n;induction n with
   |zero=>simp[Rc]
   |succ n ih=>simp only[mS,Rc];exact⟨[],[],by simp[R],ih,rfl⟩
  have:=iQ h1 (h2 (fn.ntmps-args.length));simpa [hl]using this
 refine DG hf hb (FF (nA hm c _ _ h _ _ ⟨_,r0⟩) λe a w' he=> ?_);obtain⟨s,⟨he,Iw⟩,G,r⟩:=he;have key:∃(v:Value) (fp:List Nat),(results fn a.tmps).run P w'= .ok v w'/\R w' (env ⟨w,λ_=>False,λ_=>False,λ_=>none,λ_=>none,hg,λ_ h=>h.elim,λ_ h=>h.elim⟩ s.o G w').plain rr v fp/\fp.Nodup/\∀b∈fp,∃j ob g,look s.o G j ob g/\ob.live=true/\g.F b:=by
  rcases Iw with⟨ys,JD,qE,hu,lC⟩|⟨i,ys,JD,qE,hu,hi,lC⟩
  .obtain ⟨v,fV,hR⟩:=sZ r JD;obtain⟨fp,h1,h2,h3⟩:=Ee r _ v qE hu hR;rw[lC]at h1;exact⟨v,fp,fV,h1,h2,λb hb=>by obtain⟨i,ob,g,_,h⟩:=h3 b hb;exact⟨i,ob,g,h⟩⟩
  .obtain ⟨v,Rw,ob,g,hlk,hlive,fV,hR,hnd,hF⟩:=zQ r JD;obtain⟨fp,h1,h2,h3⟩:=Pe r hlk hlive _ v Rw qE hu hi hnd hF hR;rw[lC]at h1;refine⟨v,fp,fV,h1,h2,λb hb=> ?_⟩;rcases h3 b hb with h|⟨j,ob',g',_,h⟩
   .exact ⟨i,ob,g,hlk,hlive,hF b h⟩
   .exact ⟨j,ob',g',h⟩
 obtain⟨v,fp,fV,h1,h2,h3⟩:=key;have hfin:∃v' fp,Ending.returned v= .returned v'/\R w' (Ae w.heap.size w' fp) rr v' fp/\fp.Nodup/\(∀b∈fp,w.heap.size<=b/\b<w'.heap.size)/\w.heap.size<=w'.heap.size/\(∀b,b<w.heap.size->w'.heap[b]? =w.heap[b]?)/\nV w w':=by
  refine⟨v,fp,rfl,?_,h2,λb hb=> ?_,r.size,λb hb=>r.frame b hb (λh=>h),r.same⟩
  .have k:dF w' (env ⟨w,λ_=>False,λ_=>False,λ_=>none,λ_=>none,hg,λ_ h=>h.elim,λ_ h=>h.elim⟩ s.o G w').plain w' (Ae w.heap.size w' fp):=
    ⟨λb hb=>⟨⟨(hb.1.resolve_left (λh=>h)).1,(hb.1.resolve_left (λh=>h)).2,λhm=>by
     obtain⟨j,ob,g,hl,hlive,hF⟩:=h3 b hm;exact hb.2 j ob g hl hlive hF⟩,rfl⟩,λ_ _=>trivial,λ_ _ _ h=>h.elim,λ_ _ _ h=>h.elim,λ_ _ _ _ _ h=>h.elim⟩
   exact lF k _ _ _ (λ_ _=>rfl) h1
  .obtain ⟨i,ob,g,hl,hlive,hF⟩:=h3 b hb;have:=r.fresh _ _ _ b hl hlive hF;exact⟨this.1.resolve_left (λh=>h),this.2⟩
 rcases he with rfl|rfl
 .exact ⟨r.defs,v,fV,hfin⟩
 .exact ⟨r.defs,v,fV,hfin⟩
theorem Sv{P:Program}[aB P](hm:P.follows .mixedOrders=true){f:FuncId}{fn:Func}{c:Code}(hf:P.funcs[f]? =some fn){n:Nat}(hn:fn.ntmps=n){args t:List AV}{rr:AV}
  (h:jL P c ⟨t,[]⟩ (λe s=>(e= .normal\/e= .ret)/\(mG P fn s rr\/Bz P fn s rr))) (hb:fn.body=some c:=by rfl) (AL:Ic args=true:=by simp[Ic,sW])
  (ht:args++replicate (n-args.length) .undef=t:=by
   simp only[dT,eR,Nat.reduceSub,Nat.reduceAdd,mS,rL,cW,cY];rfl):Ok P f args rr:=by
 subst ht;subst hn;exact mh hm hf hb AL h
theorem Ok.vw{P:Program}[aB P]{f:FuncId}{args:List AV}{r:AV}(h:Ok P f args r):Ok P f args (rt (λ_=>some .view) false r):=by
 intro w vs hg hr;refine Calls.mono (h w vs hg hr) λe w' he=> ?_
 obtain⟨v,fp,rfl,h1,h2,h3,h4,h5,h6⟩:=he;have k:lK (λ_=>some .view) false (Ae w.heap.size w' fp) (Ae w.heap.size w' []) (· ∈fp):=
  {own:=λg e=>by obtain rfl:=cU e;exact⟨by simp,λb hb=>⟨(h3 b hb).1,(h3 b hb).2,by simp⟩⟩
   view:=λg e=>by obtain rfl:=cU e;exact⟨rfl,λb hb=>⟨hb.1,hb.2.1,by simp⟩⟩
   iZ:=λi g e=>by obtain rfl:=cU e;exact⟨by simp,.inl trivial,λb hb=>hb.elim⟩
   hh:=λh=>by cases h
   hl:=λh=>by cases h}
 exact⟨v,[],rfl,aF6 k r v fp (λ_ h=>h) h1,by simp,by simp,h4,h5,h6⟩
theorem Ok.Dt{P:Program}[aB P]{f:FuncId}{args:List AV}{r r':AV}(h:Ok P f args r)(e:rt (λ_=>some .view) false r=r'):Ok P f args r':=e▸h.vw
def swp(i j k:Nat):Nat:=if k=i then j else if k=j then i else k
theorem JZ(i j k:Nat):swp i j (swp i j k)=k:=by unfold swp;split<;>split<;>(try split)<;>omega
def Cq(i j k:Nat):Prop:=k=i\/k=j
instance (i j k:Nat) : Decidable (Cq i j k) := by unfold Cq; infer_instance
theorem VC{i j k:Nat}(h:¬Cq i j k):swp i j k=k:=by unfold Cq at h;unfold swp;rw[eK (λe=>h (.inl e)),eK (λe=>h (.inr e))]
def gsw(i j:Nat):Tg->Tg
 | .iZ k=> .iZ (swp i j k)
 |g=>g
mutual
def qO(i j:Nat):AV->AV
 | .obj k v=>if Cq i j k then(if v=0 then .undef else .obj (swp i j k) v)else .obj k v
 | .ptr k v idx off=>if Cq i j k then .undef else .ptr k v idx off
 | .sl g n l=> .sl (gsw i j g) n (oF i j l)
 | .fH g c off=> .fH (gsw i j g) (sQ i j c) off
 | .agg c=> .agg (sQ i j c)
 | .iP c=> .iP (sQ i j c)
 | .fn f c=> .fn f (sQ i j c)
 | .int k n=> .int k n
 | .bool b=> .bool b
 | .str s=> .str s
 | .undef=> .undef
def sQ(i j:Nat):List AV->List AV
 |[]=>[]
 |x::xs=>qO i j x::sQ i j xs
def oF(i j:Nat):List (List AV)->List (List AV)
 |[]=>[]
 |x::xs=>sQ i j x::oF i j xs
end
theorem yM(i j:Nat):∀l,(oF i j l).length=l.length
 |[]=>rfl
 |_::l=>by simp[oF,yM i j l]
structure Ren(i j:Nat)(E E':Env): Prop where
  a:∀ b, E.A b -> E'.A b
  v:∀ k, E'.V (swp i j k) -> E.V k
  d:∀ k b, E.D k b -> E'.D (swp i j k) b
  h:∀ k ver x, (Cq i j k -> ver ≠ 0) -> E.H k ver x -> E'.H (swp i j k) ver x
  l:∀ k ver idx off x, ¬ Cq i j k -> E.L k ver idx off x -> E'.L k ver idx off x
theorem Ren.plain{i j:Nat}{E E':Env}(k:Ren i j E E'):Ren i j E.plain E'.plain:=
 ⟨k.a,λ_ _=>trivial,λ_ _ h=>h.elim,λ_ _ _ _ h=>h.elim,λ_ _ _ _ _ _ h=>h.elim⟩
theorem Ren.sub{i j:Nat}{E E':Env}(k:Ren i j E E')(g:Tg):Ren i j (E.sub g) (E'.sub (gsw i j g)):=by
 cases g with
 |own=>exact k.plain
 |view=>exact k.plain
 |iZ q=>exact⟨k.a,λ_ _=>trivial,λr b h=>⟨by rw[h.1],k.d _ _ h.2⟩,λ_ _ _ _ h=>h.elim,λ_ _ _ _ _ _ h=>h.elim⟩
theorem Ren.dead{i j:Nat}{E E':Env}(k:Ren i j E E'){g:Tg}(h:E.dead g):E'.dead (gsw i j g):=by
 cases g with
 |own=>exact h
 |view=>exact h
 |iZ q=>exact λhv=>h (k.v q hv)
theorem Ren.tg{i j:Nat}{E E':Env}(k:Ren i j E E'){g:Tg}{b:Nat}(h:E.tg g b):E'.tg (gsw i j g) b:=by
 cases g with
 |own=>exact h
 |view=>exact k.a b h
 |iZ q=>exact k.d q b h
theorem VD{i j:Nat}{g:Tg}:gsw i j g= .own↔g= .own:=by cases g<;>simp[gsw]
mutual
theorem aPc{w:World}{i j:Nat}{E E':Env}(k:Ren i j E E'):∀(x:AV) (v:Value) (fp:List Nat),R w E x v fp->R w E' (qO i j x) v fp
 | .obj q u,v,fp,h=>by
  simp only[qO];simp only[R]at h;by_cases hm:Cq i j q
  .rw [eW hm];by_cases hu:u=0
   .rw [eW hu];simp only[R];exact h.1
   .rw [eK hu];simp only[R];exact⟨h.1,k.h _ _ _ (λ_=>hu) h.2⟩
  .rw [eK hm];simp only[R];have:=k.h q u v (λhm'=>absurd hm' hm) h.2;rw[VC hm]at this;exact⟨h.1,this⟩
 | .ptr q u idx off,v,fp,h=>by
  simp only[qO];simp only[R]at h;by_cases hm:Cq i j q
  .rw [eW hm];simp only[R];exact h.1
  .rw [eK hm];simp only[R];exact⟨h.1,k.l _ _ _ _ _ hm h.2⟩
 | .sl g n l,v,fp,h=>by
  simp only[qO,R,yM]at h⊢;rcases h with h|⟨a,cap,hv,hl,h⟩
  .exact .inl ⟨k.dead h.1,h.2⟩
  refine .inr ⟨a,cap,hv,hl,?_⟩;rcases h with⟨hg,hl0,h1,h2⟩|⟨hg,b,off,C,e,fz,nU,ha,hb,hz,h1,h2,h3,Gj,hr⟩|⟨hg,Gj,h⟩
  .exact .inl ⟨VD.2 hg,by rw[hl0];rfl,h1,h2⟩
  .exact .inr (.inl ⟨VD.2 hg,b,off,C,e,fz,nU,ha,hb,hz,h1,h2,h3,Gj,VE (k.sub g) _ _ _ _ _ hr⟩)
  .refine .inr (.inr ⟨λe=>hg (VD.1 e),Gj,?_⟩)
   rcases h with rfl|⟨b,off,ha,ht,hr⟩
   .exact .inl rfl
   .exact .inr ⟨b,off,ha,k.tg ht,VE (k.sub g) _ _ _ _ _ hr⟩
 | .fH g c off,v,fp,h=>by
  simp only[qO,R]at h⊢;rcases h with h|⟨Gj,b,o,cs,hv,ht,hcs,hc,hr⟩
  .exact .inl ⟨k.dead h.1,h.2⟩
  .exact .inr ⟨Gj,b,o,cs,hv,k.tg ht,hcs,hc,IC (k.sub g) _ _ _ hr⟩
 | .agg c,v,fp,h=>by simp only[qO,R]at h⊢;obtain⟨cs,h1,h2,h3⟩:=h;exact⟨cs,h1,h2,IC k c cs fp h3⟩
 | .iP c,v,fp,h=>by simp only[qO,R]at h⊢;obtain⟨cs,h1,h3⟩:=h;exact⟨cs,h1,IC k c cs fp h3⟩
 | .fn f c,v,fp,h=>by simp only[qO,R]at h⊢;obtain⟨h0,cs,h1,h3⟩:=h;exact⟨h0,cs,h1,IC k c cs [] h3⟩
 | .int _ _,v,fp,h=>by simpa [qO,R]using h
 | .bool _,v,fp,h=>by simpa [qO,R]using h
 | .str _,v,fp,h=>by simpa [qO,R]using h
 | .undef,v,fp,h=>by simpa [qO,R]using h
theorem IC{w:World}{i j:Nat}{E E':Env}(k:Ren i j E E'):∀(c:List AV) (cs:List Value) (fp:List Nat),Rc w E c cs fp->Rc w E' (sQ i j c) cs fp
 |[],[],_,h=>by simpa [Rc,sQ]using h
 |[],_::_,_,h=>by simp[Rc]at h
 |_::_,[],_,h=>by simp[Rc]at h
 |x::xs,c::cs,fp,h=>by simp only[Rc,sQ]at h⊢;obtain⟨f1,f2,h1,h2,h3⟩:=h;exact⟨f1,f2,aPc k x c f1 h1,IC k xs cs f2 h2,h3⟩
theorem VE{w:World}{i j:Nat}{E E':Env}(k:Ren i j E E'):∀(l:List (List AV)) (b off n:Nat) (fp:List Nat),Rr w E l b off n fp->Rr w E' (oF i j l) b off n fp
 |[],_,_,_,_,h=>by simpa [Rr,oF]using h
 |e::es,b,off,n,fp,h=>by simp only[Rr,oF]at h⊢;obtain⟨cs,f1,f2,h1,h2,h3,h4,h5,h6⟩:=h;exact⟨cs,f1,f2,h1,h2,h3,IC k e cs f1 h4,VE k es b (off+n) n f2 h5,h6⟩
end
def aD.qO(i j:Nat)(ob:aD):aD:=if ob.box=true then {ob with dM:=oF i j ob.dM}else ob
def swo(i j:Nat)(o:List aD):List aD:=(range o.length).map λk=>((o[swp i j k]?).getD ⟨false,false,0,0,[]⟩).qO i j
theorem qH.ren{w:World}{i j:Nat}{E E':Env}{n:Nat}{l:List (List AV)}{a:Option Addr}{cap:Nat}{fp:List Nat}(k:Ren i j E E')(h:qH w E n l a cap fp):qH w E' n (oF i j l) a cap fp:=by
 refine⟨by rw[yM];exact h.1,?_⟩;rcases h.2 with h|⟨b,off,C,e,fz,nU,ha,hb,hz,h1,h2,h3,Gj,hr⟩
 .exact .inl ⟨by rw[h.1];rfl,h.2⟩
 .exact .inr ⟨b,off,C,e,fz,nU,ha,hb,hz,h1,by rw[yM];exact h2,h3,Gj,VE k _ _ _ _ _ hr⟩
theorem H8{t t':List AV}{o o':List aD}(i j:Nat)(hi:i<o.length)(hj:j<o.length)(hbi:∀ob,o[i]? =some ob->ob.box=false)(hbj:∀ob,o[j]? =some ob->ob.box=false)(ho:swo i j o=o')(hw:wk (sQ i j t) t'):kY ⟨t,o⟩ ⟨t',o'⟩:=by
 subst ho;rintro P _ B a w ⟨G,r⟩;have hlen:=r.len;generalize hG':(range G.length).map (λk=>(G[swp i j k]?).getD ⟨none,0,λ_=>False⟩)=G';have slt:∀k,k<o.length->swp i j k<o.length:=by intro k hk;unfold swp;split<;>(try split)<;>omega
 have fz:∀ob:aD,(ob.qO i j).live=ob.live/\(ob.qO i j).box=ob.box/\(ob.qO i j).n=ob.n/\(ob.qO i j).ver=ob.ver/\(ob.qO i j).dM.length=ob.dM.length:=by intro ob;unfold aD.qO;split<;>simp[yM]
 have og:∀k,(swo i j o)[k]? =(o[swp i j k]?).map (aD.qO i j):=by
  intro k;unfold swo;rw[sA];by_cases hk:k<o.length
  .rw [getElem?_range hk];simp only[mA,aE (slt k hk),pA]
  .have h1:(range o.length)[k]? =none:=by rw[tI];simp;omega
   have h2:swp i j k=k:=by unfold swp;rw[eK (by omega),eK (by omega)]
   rw[h1,h2,pP (by omega)];rfl
 have gg:∀k,G'[k]? =G[swp i j k]?:=by
  intro k;rw[<-hG',sA];by_cases hk:k<G.length
  .rw [getElem?_range hk];have h3:swp i j k<G.length:=by rw[hlen];exact slt k (by rw[<-hlen];exact hk)
   simp only[mA,aE h3,pA]
  .have h1:(range G.length)[k]? =none:=by rw[tI];simp;omega
   have h2:swp i j k=k:=by have:o.length=G.length:=hlen.symm;unfold swp;rw[eK (by omega),eK (by omega)]
   rw[h1,h2,pP (by omega)];rfl
 have back:∀{k ob g},look (swo i j o) G' k ob g->∃wX,look o G (swp i j k) wX g/\ob=wX.qO i j:=by
  rintro k ob g ⟨e1,e2⟩;rw[og]at e1;rw[gg]at e2;cases hx:o[swp i j k]? with
  |none=>rw[hx]at e1;cases e1
  |some wX=>rw[hx]at e1;exact⟨wX,⟨hx,e2⟩,(cU e1).symm⟩
 have TH:∀{k ob g},look o G k ob g->look (swo i j o) G' (swp i j k) (ob.qO i j) g:=by rintro k ob g ⟨e1,e2⟩;exact⟨by rw[og,JZ,e1];rfl,by rw[gg,JZ,e2]⟩
 have aXk:∀{k ob g},look o G k ob g->ob.box=true->¬Cq i j k:=by
  rintro k ob g ⟨e1,_⟩ hb (rfl|rfl)
  .rw [hbi ob e1]at hb;cases hb
  .rw [hbj ob e1]at hb;cases hb
 have rn:Ren i j (env B o G w) (env B (swo i j o) G' w):=by
  refine⟨λb h=>⟨h.1,λk ob g hl Ib hF=> ?_⟩,λk h ob tX=> ?_,λk b h=> ?_,λk ver x hm h=> ?_,λk ver idx off x hm h=> ?_⟩
  .obtain ⟨wX,hl0,rfl⟩:=back hl;exact h.2 _ _ _ hl0 (by rw[<-(fz wX).1];exact Ib) hF
  .have h1:=h (ob.qO i j) (by rw[og,JZ,tX];rfl);rw[(fz ob).1]at h1;exact h1
  .obtain ⟨ob,g,hl,Ib,hF,hne⟩:=h;exact⟨_,g,TH hl,by rw[(fz ob).1];exact Ib,hF,hne⟩
  .obtain ⟨ob,g,hl,wW,h5,hz⟩:=h;refine⟨_,g,TH hl,by rw[(fz ob).2.2.2.1];exact wW,λIb UY=> ?_,λhv0 y hy=> ?_⟩
   .rw [(fz ob).2.2.2.2];exact h5 (by rw[<-(fz ob).1];exact Ib) (by rw[<-(fz ob).2.2.2.1];exact UY)
   .by_cases hmv:Cq i j k
    .exact absurd hv0 (hm hmv)
    .rw [VC hmv]at hy;exact hz hv0 y hy
  .obtain ⟨ob,g,hl,wW,h5,hz⟩:=h;have hf:=TH hl;rw[VC hm]at hf;refine⟨_,g,hf,by rw[(fz ob).2.2.2.1];exact wW,λIb UY=> ?_,λhb hv e1 e2 y hy=> ?_⟩
   .rw [(fz ob).2.2.1];exact h5 (by rw[<-(fz ob).1];exact Ib) (by rw[<-(fz ob).2.2.2.1];exact UY)
   .have:=hz (by rw[<-(fz ob).2.1];exact hb) hv e1 e2 y hy;exact⟨this.1,λIb UY=>this.2 (by rw[<-(fz ob).1];exact Ib) (by rw[<-(fz ob).2.2.2.1];exact UY)⟩
 refine⟨G',{len:= ?_,defs:=r.defs,ok:= ?_,apart:= ?_,fresh:= ?_,tmps:=GJ hw (IC rn _ _ _ r.tmps),size:=r.size,frame:=r.frame,base:=r.base,same:=r.same}⟩
 .rw [<-hG'];simp[swo,hlen]
 .intro k ob g hl Ib;obtain⟨wX,hl0,rfl⟩:=back hl;obtain⟨fp,hown,hnd,hF⟩:=r.ok _ _ g hl0 (by rw[<-(fz wX).1];exact Ib);refine⟨fp,?_,hnd,hF⟩;cases hb0:wX.box with
  |false=>
   have e:wX.qO i j=wX:=by unfold aD.qO;rw[eK (by simp[hb0])]
   rw[e];rw[hb0]at hown⊢;exact hown.keeps (w:=w) (w':=w) ⟨λb hb=>⟨rn.a b hb,rfl⟩,λ_ _=>trivial,λ_ _ _ h=>h.elim,λ_ _ _ h=>h.elim,λ_ _ _ _ _ h=>h.elim⟩ (λ_ _=>rfl)
  |true=>
   have e:wX.qO i j={wX with dM:=oF i j wX.dM}:=by unfold aD.qO;rw[eW hb0]
   rw[e];simp only[hb0]at hown⊢;simp only[Env.of,eV]at hown⊢;exact hown.ren rn
 .intro p q op oq gp gq b hp hq hlp U6 hFp hFq;obtain⟨op0,hp0,rfl⟩:=back hp;obtain⟨oq0,hq0,rfl⟩:=back hq;have:=r.apart _ _ _ _ _ _ b hp0 hq0 (by rw[<-(fz op0).1];exact hlp) (by rw[<-(fz oq0).1];exact U6) hFp hFq;have h2:=Ax (swp i j) this
  rwa[JZ,JZ]at h2
 .intro k ob g b hl Ib hF;obtain⟨wX,hl0,rfl⟩:=back hl;exact r.fresh _ _ g b hl0 (by rw[<-(fz wX).1];exact Ib) hF
theorem aHy{i j:Nat}{o:List aD}{oi oj:aD}(hi:o[i]? =some oi)(hj:o[j]? =some oj):swo i j o=((o.set i oj).set j oi).map (aD.qO i j):=by
 have hil:=(cQ.1 hi).1;have hjl:=(cQ.1 hj).1;refine AK λk=> ?_
 unfold swo;rw[sA,sA];by_cases hk:k<o.length
 .rw [getElem?_range hk];simp only[mA];by_cases hkj:k=j
  .subst hkj;rw[lR (by simpa using hk)];have:swp i k k=i:=by unfold swp;split<;>simp_all
   rw[this,hi];rfl
  .rw [gR (λe=>hkj e.symm)]
   by_cases hki:k=i
   .subst hki;rw[lR hk];have:swp k j k=j:=by unfold swp;simp
    rw[this,hj];rfl
   .rw [gR (λe=>hki e.symm)]
    have:swp i j k=k:=by unfold swp;rw[eK hki,eK hkj]
    rw[this,aE hk];rfl
 .have h1:(range o.length)[k]? =none:=by rw[tI];simp;omega
  have h2:((o.set i oj).set j oi)[k]? =none:=by rw[tI];simp;omega
  rw[h1,h2];rfl
theorem bK{t t':List AV}{o o':List aD}(i j:Nat){oi oj:aD}(hi:o[i]? =some oi)(hj:o[j]? =some oj)(hb:oi.box=false/\oj.box=false)(ho:((o.set i oj).set j oi).map (aD.qO i j)=o')(hw:wk (sQ i j t) t'):kY ⟨t,o⟩ ⟨t',o'⟩:=
 H8 i j (cQ.1 hi).1 (cQ.1 hj).1 (λob h=>by rw[hi]at h;obtain rfl:=cU h;exact hb.1) (λob h=>by rw[hj]at h;obtain rfl:=cU h;exact hb.2) (by rw[aHy hi hj];exact ho) hw
@[simp] theorem aQ5(i j:Nat)(l:Bool)(n v:Nat)(dM:List (List AV)):aD.qO i j ⟨l,false,n,v,dM⟩=⟨l,false,n,v,dM⟩:=rfl
@[simp] theorem aQ6(i j:Nat)(l:Bool)(n v:Nat)(dM:List (List AV)):aD.qO i j ⟨l,true,n,v,dM⟩=⟨l,true,n,v,oF i j dM⟩:=rfl
attribute [simp] qO sQ oF gsw swp Cq
def JL:Nat->List GA->List AV
 |_,[]=>[]
 |k,.view x::gs=>x::JL k gs
 |k,.rQ x::gs=>(eB 1 k x).1::JL (k+(eB 1 k x).2.length) gs
 |k,.xH c _::gs=> .ptr k 2 0 0::JL (k+(1+(eF 1 (k+1) c).2.length)) gs
def Ey:Nat->List GA->List aD
 |_,[]=>[]
 |k,.view _::gs=>Ey k gs
 |k,.rQ x::gs=>(eB 1 k x).2++Ey (k+(eB 1 k x).2.length) gs
 |k,.xH c _::gs=>(⟨true,true,c.length,2,[(eF 1 (k+1) c).1]⟩::(eF 1 (k+1) c).2)++Ey (k+(1+(eF 1 (k+1) c).2.length)) gs
def Fc(E:Env)(k:Nat)(os:List aD)(Gs:List CO):Prop:=
 ∀j ob g,look os Gs j ob g->E.H (k+j) ob.ver (.slice g.a ob.dM.length g.cap)/\(ob.box=true->∀b f,g.a=some ⟨b,f,none⟩->E.L (k+j) ob.ver 0 0 (.pointer (some ⟨b,f,none⟩)))
theorem Fc.left{E:Env}{k:Nat}{o1 o2:List aD}{G1 G2:List CO}(h:Fc E k (o1++o2) (G1++G2)):Fc E k o1 G1:=λj ob g hl=>h j ob g (jK hl)
theorem Fc.right{E:Env}{k:Nat}{o1 o2:List aD}{G1 G2:List CO}(hlen:G1.length=o1.length)(h:Fc E k (o1++o2) (G1++G2)):Fc E (k+o1.length) o2 G2:=λj ob g hl=>by
 have:=h _ ob g (kK hlen hl)
 rwa[<-oE]at this
def Ent(w:World)(E:Env)(k:Nat)(os:List aD)(fp:List Nat)(pin:List CO->Prop)(done:Env->Prop):Prop:=
 ∃Gs:List CO,Gs.length=os.length/\
  (∀j ob g,look os Gs j ob g->ob.live=true/\(ob.box=false->ob.ver=1)/\(ob.box=true->ob.ver=2)/\∃f,f.Nodup/\(∀b,g.F b↔b∈f)/\(∀b∈f,b∈fp)/\
   ∀E',dF w E w E'->Fc E' k os Gs->qH w (E'.of ob.box) ob.n ob.dM g.a g.cap f)/\
  (∀i j oi oj gi gj b,look os Gs i oi gi->look os Gs j oj gj->gi.F b->gj.F b->i=j)/\pin Gs/\
  ∀E':Env,dF w E w E'->Fc E' k os Gs->done E'
theorem Ent.XH{w:World}{E:Env}{k:Nat}{os:List aD}{fp:List Nat}{done:Env->Prop}(h:jT 1 w E k os fp done):Ent w E k os fp (λ_=>True) done:=by
 obtain⟨Gs,h1,h2,h3,h4⟩:=h;refine⟨Gs,h1,λj ob g hl=> ?_,h3,trivial,λE' hk hf=>h4 E' hk λj ob g hl=> ?_⟩
 .obtain ⟨a1,a2,a3,f,a4,a5,a6,a7⟩:=h2 j ob g hl;refine⟨a1,λ_=>a3,(λh=>by rw[a2]at h;cases h),f,a5,a6,a7,λE' hk _=> ?_⟩;rw[a2];exact a4.keeps hk.plain (λ_ _=>rfl)
 .have:=(hf j ob g hl).1;obtain⟨_,_,a3,_⟩:=h2 j ob g hl
  rwa[a3]at this
theorem Ent.append{w:World}{E:Env}{k:Nat}{o1 o2:List aD}{f1 f2:List Nat}{p1 p2 p:List CO->Prop}{d1 d2 d:Env->Prop}(h1:Ent w E k o1 f1 p1 d1)(h2:Ent w E (k+o1.length) o2 f2 p2 d2)(hn:(f1++f2).Nodup)
  (hp:∀G1 G2,G1.length=o1.length->p1 G1->p2 G2->p (G1++G2)) (hd:∀E',d1 E'->d2 E'->d E'):Ent w E k (o1++o2) (f1++f2) p d:=by
 obtain⟨G1,l1,a1,b1,q1,c1⟩:=h1;obtain⟨G2,l2,a2,b2,q2,c2⟩:=h2;have hdj:=(gS.1 hn).2.2;refine⟨G1++G2,by simp[l1,l2],?_,?_,hp G1 G2 l1 q1 q2,λE' hk hf=>hd E' (c1 E' hk hf.left) (c2 E' hk (hf.right l1))⟩
 .intro j ob g hl;rcases lH l1 hl with⟨_,h⟩|⟨_,h⟩
  .obtain ⟨x,y,y',f,z1,z2,z3,z4⟩:=a1 _ _ _ h;exact⟨x,y,y',f,z1,z2,λb hb=>oB _ (z3 b hb),λE' hk hf=>z4 E' hk hf.left⟩
  .obtain ⟨x,y,y',f,z1,z2,z3,z4⟩:=a2 _ _ _ h;exact⟨x,y,y',f,z1,z2,λb hb=>tD _ (z3 b hb),λE' hk hf=>z4 E' hk (hf.right l1)⟩
 .intro i j oi oj gi gj b hi hj Ef KZ;rcases lH l1 hi with⟨_,h⟩|⟨hi',h⟩<;>rcases lH l1 hj with⟨_,h'⟩|⟨ZM,h'⟩
  .exact b1 _ _ _ _ _ _ b h h' Ef KZ
  .obtain ⟨_,_,_,f,_,z2,z3,_⟩:=a1 _ _ _ h;obtain⟨_,_,_,f',_,z2',z3',_⟩:=a2 _ _ _ h';exact absurd rfl (hdj b (z3 b ((z2 b).1 Ef)) b (z3' b ((z2' b).1 KZ)))
  .obtain ⟨_,_,_,f,_,z2,z3,_⟩:=a2 _ _ _ h;obtain⟨_,_,_,f',_,z2',z3',_⟩:=a1 _ _ _ h';exact absurd rfl (hdj b (z3' b ((z2' b).1 KZ)) b (z3 b ((z2 b).1 Ef)))
  .have:=b2 _ _ _ _ _ _ b h h' Ef KZ;omega
theorem aCl{w:World}{O:Nat->Prop}{k:Nat}{c c':List AV}{v:Value}{fp:List Nat}{cap:Nat}(h:RG w O (.xH c c') v fp cap)(hn:fp.Nodup):
  Ent w (sD w O) k (⟨true,true,c.length,2,[(eF 1 (k+1) c).1]⟩::(eF 1 (k+1) c).2) fp
   (λGs=>∃g b f,Gs[0]? =some g/\g.a=some ⟨b,f,none⟩/\v= .pointer (some ⟨b,f,none⟩)/\g.cap=cap) (λE'=>R w E' (.ptr k 2 0 0) v []):=by
 simp only[RG]at h;obtain⟨b,f,rfl,hlen,hown⟩:=h;rcases hown with⟨h5,_⟩|⟨b',f',C,ty,fz,nU,vB,hbk,hz,k1,k2,k3,rfl,hr⟩
 .cases h5
 simp only[eA,nB,qT]at vB;obtain⟨rfl,rfl⟩:=vB;simp only[Rr]at hr;obtain⟨cs,f1,f2,Ea,hc,hone,sK,rfl,e⟩:=hr;have e:nU=f1:=by simpa using e
 subst e;simp only[mC]at hn;obtain⟨Gs,a1,a2,a3,a4⟩:=BZ (q:=1) c cs nU (k+1) sK hn.2;have tail:∀{j ob g},look (⟨true,true,c.length,2,[(eF 1 (k+1) c).1]⟩::(eF 1 (k+1) c).2) (⟨some ⟨b,f,none⟩,cap,λx=>x=b⟩::Gs) j ob g->
   (j=0/\ob=⟨true,true,c.length,2,[(eF 1 (k+1) c).1]⟩/\g=⟨some ⟨b,f,none⟩,cap,λx=>x=b⟩)\/∃j',j=j'+1/\look (eF 1 (k+1) c).2 Gs j' ob g:=by
  rintro j ob g ⟨h1,h2⟩;cases j with
  |zero=>simp only[By,eA]at h1 h2;exact .inl ⟨rfl,h1.symm,h2.symm⟩
  |succ j=>exact .inr ⟨j,rfl,by simpa using h1,by simpa using h2⟩
 have inner:∀{E':Env},Fc E' k (⟨true,true,c.length,2,[(eF 1 (k+1) c).1]⟩::(eF 1 (k+1) c).2) (⟨some ⟨b,f,none⟩,cap,λx=>x=b⟩::Gs)->
   ∀j ob g,look (eF 1 (k+1) c).2 Gs j ob g->E'.H (k+1+j) 1 (.slice g.a ob.dM.length g.cap):=by
  intro E' hf j ob g hl;have:=(hf (j+1) ob g ⟨by simpa using hl.1,by simpa using hl.2⟩).1;obtain⟨_,_,h3,_⟩:=a2 j ob g hl;rw[h3]at this
  rwa[show k+1+j=k+(j+1)by omega]
 refine⟨⟨some ⟨b,f,none⟩,cap,λx=>x=b⟩::Gs,by simp[a1],?_,?_,⟨_,b,f,rfl,rfl,rfl,rfl⟩,?_⟩
 .intro j ob g hl;rcases tail hl with⟨rfl,rfl,rfl⟩|⟨j',rfl,BU⟩
  .refine ⟨rfl,(λh=>by cases h),λ_=>rfl,[b],by simp,by simp,by simp,λE' hk hf=> ?_⟩
   refine⟨by simp[maxLen],.inr ⟨b,f,C,ty,fz,[],rfl,hbk,hz,k1,by simpa using k2,k3,rfl,?_⟩⟩;simp only[Rr];exact⟨cs,[],[],Ea,hc,hone,a4 E' hk (inner hf),rfl,rfl⟩
  .obtain ⟨h1,h2,h3,f',h4,h5,h6,h7⟩:=a2 _ _ _ BU;refine⟨h1,λ_=>h3,(λh=>by rw[h2]at h;cases h),f',h5,h6,λx hx=>tG _ (h7 x hx),λE' hk _=> ?_⟩;rw[h2];exact h4.keeps hk.plain (λ_ _=>rfl)
 .intro i j oi oj gi gj x hi hj Ef KZ;rcases tail hi with⟨rfl,rfl,rfl⟩|⟨i',rfl,hi'⟩<;>rcases tail hj with⟨rfl,rfl,rfl⟩|⟨j',rfl,ZM⟩
  .rfl
  .obtain ⟨_,_,_,f',_,_,h6,h7⟩:=a2 _ _ _ ZM;have hx:x=b:=Ef;subst hx;exact absurd (h7 _ ((h6 _).1 KZ)) hn.1
  .obtain ⟨_,_,_,f',_,_,h6,h7⟩:=a2 _ _ _ hi';have hx:x=b:=KZ;subst hx;exact absurd (h7 _ ((h6 _).1 Ef)) hn.1
  .have:=a3 _ _ _ _ _ _ x hi' ZM Ef KZ;omega
 .intro E' hk hf;simp only[R];exact⟨trivial,(hf 0 _ _ ⟨rfl,rfl⟩).2 rfl b f rfl⟩
def pinned(gat:Nat->Option CO):Nat->List GA->List Value->List Nat->Prop
 |_,[],[],[]=>True
 |k,.view _::gs,_::vs,_::iT=>pinned gat k gs vs iT
 |k,.rQ x::gs,_::vs,_::iT=>pinned gat (k+(eB 1 k x).2.length) gs vs iT
 |k,.xH c _::gs,v::vs,cap::iT=>(∃g b f,gat k=some g/\g.a=some ⟨b,f,none⟩/\v= .pointer (some ⟨b,f,none⟩)/\g.cap=cap)/\pinned gat (k+(1+(eF 1 (k+1) c).2.length)) gs vs iT
 |_,_,_,_=>False
theorem Vt{w:World}{O:Nat->Prop}:∀(gs:List GA) (vs:List Value) (tV:List (List Nat)) (iT:List Nat) (k:Nat),CP w O gs vs tV iT->tV.flatten.Nodup->
  Ent w (sD w O) k (Ey k gs) tV.flatten (λGs=>∀pre:List CO,pre.length=k->pinned (λi=>(pre++Gs)[i]?) k gs vs iT) (λE'=>Rc w E' (JL k gs) vs [])
 |[],[],[],[],k,_,_=>⟨[],rfl,λj ob g hl=>by simp[look,Ey]at hl,λi j oi oj gi gj b hl=>by simp[look,Ey]at hl,λ_ _=>by simp[pinned],λE' _ _=>by simp[JL,Rc]⟩
 | .view x::gs,v::vs,fp::tV,cap::iT,k,h,hn=>by
  simp only[CP,RG]at h;obtain⟨⟨rfl,hx⟩,h⟩:=h;simp only[pH,cY]at hn⊢;obtain⟨Gs,a1,a2,a3,a4,a5⟩:=Vt gs vs tV iT k h hn;refine⟨Gs,a1,a2,a3,λpre hp=>by simp only[pinned];exact a4 pre hp,λE' hk hf=> ?_⟩
  .simp only[JL,Rc];exact⟨[],[],lF hk _ _ _ (by simp) hx,a5 E' hk hf,rfl⟩
 | .rQ x::gs,v::vs,fp::tV,cap::iT,k,h,hn=>by
  simp only[CP,RG]at h;obtain⟨hx,h⟩:=h;simp only[pH]at hn⊢;have zq:=gS.1 hn;refine(Ent.XH (Af (q:=1) x v fp k hx zq.1)).append (Vt gs vs tV iT (k+(eB 1 k x).2.length) h zq.2.1) hn (λG1 G2 hl _ h2 pre hp=> ?_) (λE' h1 h2=> ?_)
  .simp only[pinned];have:=h2 (pre++G1) (by simp[hp,hl]);simpa using this
  .simp only[JL,Rc];exact⟨[],[],h1,h2,rfl⟩
 | .xH c c'::gs,v::vs,fp::tV,cap::iT,k,h,hn=>by
  simp only[CP]at h;obtain⟨hx,h⟩:=h;simp only[pH]at hn⊢;have zq:=gS.1 hn;have h2:=Vt gs vs tV iT (k+(1+(eF 1 (k+1) c).2.length)) h zq.2.1;simp only[Ey];refine(aCl hx zq.1).append (by
   rw[show k+(({live:=true,box:=true,n:=c.length,ver:=2,dM:=[(eF 1 (k+1) c).1]}:aD)::(eF 1 (k+1) c).2).length=k+(1+(eF 1 (k+1) c).2.length)by simp;omega];exact h2) hn (λG1 G2 hl h1 h2 pre hp=> ?_) (λE' h1 h2=> ?_)
  .simp only[pinned];refine⟨?_,?_⟩
   .obtain ⟨g,b,f,e1,e2,e3,e4⟩:=h1;refine⟨g,b,f,?_,e2,e3,e4⟩;subst hp;rw[mL (by omega),DS];cases G1 with
    |nil=>simp at e1
    |cons _ _=>simpa using e1
   .have:=h2 (pre++G1) (by simp only[eM,hp,hl,dT];omega);simpa using this
  .simp only[JL,Rc];exact⟨[],[],h1,h2,rfl⟩
 |[],[],[],_::_,_,h,_=>by simp[CP]at h
 |[],[],_::_,_,_,h,_=>by simp[CP]at h
 |[],_::_,_,_,_,h,_=>by simp[CP]at h
 | .view _::_,[],_,_,_,h,_=>by simp[CP]at h
 | .view _::_,_::_,[],_,_,h,_=>by simp[CP]at h
 | .view _::_,_::_,_::_,[],_,h,_=>by simp[CP]at h
 | .rQ _::_,[],_,_,_,h,_=>by simp[CP]at h
 | .rQ _::_,_::_,[],_,_,h,_=>by simp[CP]at h
 | .rQ _::_,_::_,_::_,[],_,h,_=>by simp[CP]at h
 | .xH _ _::_,[],_,_,_,h,_=>by simp[CP]at h
 | .xH _ _::_,_::_,[],_,_,h,_=>by simp[CP]at h
 | .xH _ _::_,_::_,_::_,[],_,h,_=>by simp[CP]at h
def gQ(s:AS):Nat->Nat->List GA->Prop
 |_,_,[]=>True
 |pos,k,.view _::gs=>gQ s (pos+1) k gs
 |pos,k,.rQ x::gs=>gQ s (pos+1) (k+(eB 1 k x).2.length) gs
 |pos,k,.xH c c'::gs=>(s.t.getD pos .undef= .ptr k 2 0 0/\∃cells,s.o[k]? =some ⟨true,true,c.length,2,[cells]⟩/\lM s.o cells=true/\rC s.o cells=c'/\BI c'=true)/\
   gQ s (pos+1) (k+(1+(eF 1 (k+1) c).2.length)) gs
def gL(s:AS):Nat->List GA->List Nat
 |_,[]=>[]
 |k,.view _::gs=>gL s k gs
 |k,.rQ x::gs=>gL s (k+(eB 1 k x).2.length) gs
 |k,.xH c _::gs=>(k::jF (rowOf s.o k))++gL s (k+(1+(eF 1 (k+1) c).2.length)) gs
def lY(P:Program)(fn:Func)(s:AS)(gs:List GA)(r:AV):Prop:=
 ∃ys,s.Ce P fn.results.toList=some ys/\gP s.o (single ys)=true/\res s.o (single ys)=r/\clean r=true/\gQ s 0 0 gs/\(gL s 0 gs++iN (single ys)).Nodup
theorem FR{P:Program}[aB P]{B:fM P}{s:AS}{G:List CO}{a:Act}{w:World}(r:dN B s G a w){gat:Nat->Option CO}(hp:∀i g,gat i=some g->B.p0 i=some (.pointer g.a,g.cap)):
  ∀(gs:List GA) (vs:List Value) (iT:List Nat) (pos k:Nat),pinned gat k gs vs iT->gQ s pos k gs->(gL s k gs).Nodup->
  ∃tV,Ru w gs vs tV iT/\tV.flatten.Nodup/\∀b∈tV.flatten,Of s.o G (gL s k gs) b
 |[],[],[],pos,k,_,_,_=>⟨[],by simp[Ru],by simp,by simp⟩
 | .view x::gs,v::vs,cap::iT,pos,k,h1,h2,h3=>by simp only[pinned]at h1;simp only[gQ]at h2;simp only[gL]at h3⊢;obtain⟨tV,q1,q2,q3⟩:=FR r hp gs vs iT (pos+1) k h1 h2 h3;exact⟨[]::tV,by simp only[Ru,RP];exact⟨trivial,q1⟩,by simpa using q2,by simpa using q3⟩
 | .rQ x::gs,v::vs,cap::iT,pos,k,h1,h2,h3=>by simp only[pinned]at h1;simp only[gQ]at h2;simp only[gL]at h3⊢;obtain⟨tV,q1,q2,q3⟩:=FR r hp gs vs iT (pos+1) _ h1 h2 h3;exact⟨[]::tV,by simp only[Ru,RP];exact⟨trivial,q1⟩,by simpa using q2,by simpa using q3⟩
 | .xH c c'::gs,v::vs,cap::iT,pos,k,h1,h2,h3=>by
  simp only[pinned]at h1;simp only[gQ]at h2;simp only[gL]at h3⊢;obtain⟨⟨g0,b0,f0,e1,e2,e3,e4⟩,h1⟩:=h1;obtain⟨⟨htp,cells,ho,qE,lC,Ea⟩,h2⟩:=h2;have hn:=gS.1 h3;obtain⟨tV,q1,q2,q3⟩:=FR r hp gs vs iT (pos+1) _ h1 h2 hn.2.1;have hrow:rowOf s.o k=cells:=by simp[rowOf,ho]
  rw[hrow]at hn⊢;have tX:AV.isObj s.o k 2=some ⟨true,true,c.length,2,[cells]⟩:=by simp[AV.isObj,ho]
  obtain⟨g,b,f,hl,hlive,hga,hv⟩:=r.ptr (x:= .tmp pos) htp tX;have fe:=r.pin (x:= .tmp pos) htp tX hl rfl rfl rfl rfl _ (hp k g0 e1);rw[hv]at fe;obtain⟨hp1,hp2⟩:=fe;have sP:g.cap=g0.cap:=hp2 rfl rfl;simp only[AW]at hp1;rw[e2]at hp1;simp only[Nat.zero_mul,rS,eA,nB,qT]at hp1;obtain⟨rfl,rfl⟩:=hp1;obtain⟨Rw,⟨_,hown⟩,HV,Oi⟩:=r.ok k _ g hl rfl;simp only[Env.of,eV]at hown;rcases hown with⟨h5,_⟩|⟨b',f',C,ty,fz,nU,vB,hbk,hz,k1,k2,k3,rfl,hr⟩
  .cases h5
  rw[hga]at vB;simp only[eA,nB,qT]at vB;obtain⟨rfl,rfl⟩:=vB;simp only[Rr]at hr;obtain⟨cs,f1,f2,hcn,hc,hone,sK,rfl,e⟩:=hr;have e:nU=f1:=by simpa using e
  subst e;simp only[mC]at HV;have hn1:=hn.1;simp only[mC]at hn1;obtain⟨AX,u1,u2,u3⟩:=Jw r hl rfl cells cs nU qE hn1.2 hn1.1 HV.2 (λx hx=>Oi x (by simp[hx])) sK;have DF:g.F b:=Oi b (by simp);have hbn:b∉AX:=λhb=>by
   rcases u3 b hb with h|h
   .exact HV.1 h
   .obtain ⟨j,oj,gj,hj,hlj,hjl,Jn⟩:=h;have:=r.apart k j _ _ _ _ b hl hlj rfl hjl DF Jn;exact hn1.1 (this▸hj)
  rw[lC]at u1;have u1':Rc w oO c' cs AX:=Ca (E:=(env B s.o G w).plain) (λ_ _=>trivial) rfl rfl rfl _ _ _ Ea u1;have hin:∀x∈b::AX,Of s.o G (k::jF cells) x:=by
   intro x hx;rcases gE.1 hx with rfl|hx
   .exact ⟨k,_,g,by simp,hl,rfl,DF⟩
   .rcases u3 x hx with h|h
    .exact ⟨k,_,g,by simp,hl,rfl,Oi x (by simp[h])⟩
    .exact Bd (λj hj=>by simp[hj]) h
  refine⟨(b::AX)::tV,?_,?_,?_⟩
  .simp only[Ru,RP];refine⟨⟨b,f,e3,by simp[maxLen],.inr ⟨b,f,C,ty,fz,AX,rfl,hbk,hz,?_,?_,?_,rfl,?_⟩⟩,q1⟩
   .rw [<-e4,<-sP];exact k1
   .rw [<-e4,<-sP];simpa using k2
   .rw [<-e4,<-sP];exact k3
   .simp only[Rr];exact⟨cs,AX,[],hcn,hc,hone,u1',rfl,by simp⟩
  .simp only[pH,gS];refine⟨mC.2 ⟨hbn,u2⟩,q2,λx hx y hy e=> ?_⟩;subst e;exact Jy r (λi hi j hj=>hn.2.2 i hi j hj) (hin x hx) (q3 x hy)
  .intro x hx;simp only[pH,fS]at hx;rcases hx with hx|hx
   .exact Bd (λi hi=>oB _ hi) (hin x hx)
   .exact Bd (λi hi=>tD _ hi) (q3 x hx)
 |[],[],_::_,_,_,h,_,_=>by simp[pinned]at h
 |[],_::_,_,_,_,h,_,_=>by simp[pinned]at h
 | .view _::_,[],_,_,_,h,_,_=>by simp[pinned]at h
 | .view _::_,_::_,[],_,_,h,_,_=>by simp[pinned]at h
 | .rQ _::_,[],_,_,_,h,_,_=>by simp[pinned]at h
 | .rQ _::_,_::_,[],_,_,h,_,_=>by simp[pinned]at h
 | .xH _ _::_,[],_,_,_,h,_,_=>by simp[pinned]at h
 | .xH _ _::_,_::_,[],_,_,h,_,_=>by simp[pinned]at h
theorem PE{w:World}{O:Nat->Prop}:∀{gs:List GA} {vs:List Value} {tV:List (List Nat)} {iT:List Nat},CP w O gs vs tV iT->vs.length=gs.length
 |[],[],_,_,_=>rfl
 |_::gs,_::vs,[],_,h=>by simp[CP]at h
 |_::gs,_::vs,_::_,[],h=>by simp[CP]at h
 |_::gs,_::vs,_::tV,_::iT,h=>by simp only[CP]at h;simp[PE h.2]
 |[],_::_,_,_,h=>by simp[CP]at h
 |_::_,[],_,_,h=>by simp[CP]at h
theorem PG{P:Program}[aB P](hm:P.follows .mixedOrders=true){f:FuncId}{fn:Func}{c:Code}(hf:P.funcs[f]? =some fn)(hb:fn.body=some c){gs:List GA}{rr:AV}
  (h:jL P c ⟨JL 0 gs++replicate (fn.ntmps-gs.length) .undef,Ey 0 gs⟩ (λe s=>(e= .normal\/e= .ret)/\lY P fn s gs rr)):ax P f gs rr:=by
 intro w vs tV iT hg hab hnd hrg;obtain⟨Gs,hlen,vZ,hap,fe,vO⟩:=Vt gs vs tV iT 0 hrg hnd;have hvl:=PE hrg;generalize hB:(⟨w,λb=>b<w.heap.size,(· ∈tV.flatten),λ_=>none,λi=>(Gs[i]?).map λg=>(.pointer g.a,g.cap),hg,λb hb=>(hab b hb).1,λb hb=>(hab b hb).2⟩:fM P)=B;have MB:B.w0=w:=by rw[<-hB]
 have hA0:∀b,B.A0 b↔b<w.heap.size:=by intro b;rw[<-hB]
 have hO0:∀b,B.O0 b↔b∈tV.flatten:=by intro b;rw[<-hB]
 have hh0:∀i,B.h0 i=none:=by intro i;rw[<-hB]
 have hp0:∀i g,Gs[i]? =some g->B.p0 i=some (.pointer g.a,g.cap):=by intro i g hg;rw[<-hB];simp[hg]
 have kE:dF w (sD w (· ∈tV.flatten)) w (env B (Ey 0 gs) Gs w):=by refine⟨λb hb=>⟨⟨.inl ((hA0 b).2 hb.1),λi ob g hl _ hF=> ?_⟩,rfl⟩,λ_ _=>trivial,λ_ _ _ h=>h.elim,λ_ _ _ h=>h.elim,λ_ _ _ _ _ h=>h.elim⟩;obtain⟨_,_,_,f',_,h2,h3,_⟩:=vZ _ _ _ hl;exact hb.2 (h3 _ ((h2 _).1 hF))
 have fc:Fc (env B (Ey 0 gs) Gs w) 0 (Ey 0 gs) Gs:=by intro j ob g hl;rw[lO];refine⟨⟨ob,g,hl,eE _,λ_ _=>rfl,λ_ x hx=>by rw[hh0]at hx;cases hx⟩,λ_ b f hga=>⟨ob,g,hl,eE _,λ_ _=>⟨b,f,hga,by simp⟩,λ_ _ _ _ y hy=> ?_⟩⟩;rw[hp0 _ _ hl.2]at hy;obtain rfl:=cU hy;exact⟨by rw[hga],λ_ _=>rfl⟩
 have r0:dN B ⟨JL 0 gs++replicate (fn.ntmps-gs.length) .undef,Ey 0 gs⟩ Gs {tmps:=vs.toArray++Array.replicate (fn.ntmps-vs.toArray.size) Go.undef,defers:=[]} w:=by
  refine {len:=hlen,defs:=rfl,ok:= ?_,apart:= ?_,fresh:= ?_,tmps:= ?_,size:=by rw[MB];exact eE _,frame:=by rw[MB];exact λ_ _ _=>rfl,base:= ?_,same:=by rw[MB];exact nV.rfl}
  .intro i ob g hl _;obtain⟨_,_,_,f',h1,h2,h3,h4⟩:=vZ _ _ _ hl;exact⟨f',h4 _ kE fc,h1,λb hb=>(h2 b).2 hb⟩
  .intro i j oi oj gi gj b hi hj _ _ Ef KZ;exact hap _ _ _ _ _ _ b hi hj Ef KZ
  .intro i ob g b hl _ hF;obtain⟨_,_,_,f',_,h2,h3,_⟩:=vZ _ _ _ hl;have:=h3 _ ((h2 _).1 hF);exact⟨.inl ((hO0 b).2 this),(hab b this).2⟩
  .have h2:∀n,Rc w (env B (Ey 0 gs) Gs w) (replicate n .undef) (replicate n Go.undef) []:=by
    intro n;induction n with
    |zero=>simp[Rc]
    |succ n ih=>simp only[mS,Rc];exact⟨[],[],by simp[R],ih,rfl⟩
   have:=iQ (vO _ kE fc) (h2 (fn.ntmps-gs.length));simpa [hvl]using this
  .intro b hb;rw[MB];exact(hA0 b).1 hb
 refine DG hf hb (FF (nA hm c _ _ h _ _ ⟨_,r0⟩) λe a w' he=> ?_);obtain⟨s,⟨he,ys,JD,qE,lC,Ea,hlo,hun⟩,G,r⟩:=he;obtain⟨u,fV,hR⟩:=sZ r JD;have hun':=gS.1 hun;obtain⟨fp,k1,k2,k3⟩:=Ee r _ u qE hun'.2.1 hR;rw[lC]at k1;have aOu:pinned (λi=>Gs[i]?) 0 gs vs iT:=by simpa using fe [] rfl
 obtain⟨AZ,q1,q2,q3⟩:=FR r hp0 gs vs iT 0 0 aOu hlo hun'.1;have hin:∀b∈AZ.flatten++fp,(b∈tV.flatten\/w.heap.size<=b)/\b<w'.heap.size:=by
  intro b hb;have:∃i ob g,look s.o G i ob g/\ob.live=true/\g.F b:=by
   rcases fS.1 hb with hb|hb
   .obtain ⟨i,ob,g,_,h⟩:=q3 b hb;exact⟨i,ob,g,h⟩
   .obtain ⟨i,ob,g,_,h⟩:=k3 b hb;exact⟨i,ob,g,h⟩
  obtain⟨i,ob,g,hl,hlive,hF⟩:=this;have:=r.fresh _ _ _ b hl hlive hF;rw[MB,hO0]at this;exact this
 have hfin:∃v fp AZ,Ending.returned u= .returned v/\R w' oO rr v fp/\Ru w' gs vs AZ iT/\(AZ.flatten++fp).Nodup/\
   (∀b∈AZ.flatten++fp,(b∈tV.flatten\/w.heap.size<=b)/\b<w'.heap.size)/\w.heap.size<=w'.heap.size/\(∀b,b<w.heap.size->b∉tV.flatten->w'.heap[b]? =w.heap[b]?)/\nV w w':=by
  refine⟨u,fp,AZ,rfl,Oe (E:=(env B s.o G w').plain) (λ_ _=>trivial) rfl rfl rfl _ _ _ Ea k1,q1,gS.2 ⟨q2,k2,λx hx y hy e=> ?_⟩,hin,by have:=r.size;rwa[MB]at this,λb hb hn=>by have:=r.frame b (by rw[MB];exact hb) (λh=>hn ((hO0 b).1 h));rwa[MB]at this,by have:=r.same;rwa[MB]at this⟩;subst e;exact Jy r (λi hi j hj=>hun'.2.2 i hi j hj) (q3 x hx) (k3 x hy)
 rcases he with rfl|rfl
 .exact ⟨r.defs,u,fV,hfin⟩
 .exact ⟨r.defs,u,fV,hfin⟩
theorem uJ{e:Exit}{q:Prop}(h:q)(he:e= .normal\/e= .ret:=by first|exact .inr rfl|exact .inl rfl):(e= .normal\/e= .ret)/\q:=⟨he,h⟩
theorem BM{P:Program}[aB P](hm:P.follows .mixedOrders=true){f:FuncId}{fn:Func}{c:Code}(hf:P.funcs[f]? =some fn){n:Nat}(hn:fn.ntmps=n){gs:List GA}{t:List AV}{o:List aD}{rr:AV}
  (h:jL P c ⟨t,o⟩ (λe s=>(e= .normal\/e= .ret)/\lY P fn s gs rr)) (hb:fn.body=some c:=by rfl)
  (ho:Ey 0 gs=o:=by
   simp only[Ey,aJ,aH,eU,bS,eQ,bQ,eZ,bR,rS,lO,Nat.reduceAdd,cW,cY,eC,dT,eR];rfl)
  (ht:JL 0 gs++replicate (n-gs.length) .undef=t:=by
   simp only[JL,aJ,aH,eU,bS,eQ,bQ,eZ,bR,rS,lO,dT,eR,Nat.reduceSub,Nat.reduceAdd,mS,rL,cW,cY,eC];rfl):ax P f gs rr:=by
 subst ht;subst hn;subst ho;exact PG hm hf hb h
theorem aPh{P:Program}[aB P](hm:P.follows .mixedOrders=true){f:FuncId}{fn:Func}{c c':Code}(L:List Nat)(hf:P.funcs[f]? =some fn){n:Nat}(hn:fn.ntmps=n){gs:List GA}{t:List AV}{o:List aD}{rr:AV}
  (h:jL P c' ⟨t,o⟩ (λe s=>(e= .normal\/e= .ret)/\lY P fn s gs rr)) (hb:fn.body=some c:=by rfl)
  (hc:uW (λi=>L.contains i) c=c':=by simp[uW];rfl)
  (ho:Ey 0 gs=o:=by
   simp only[Ey,aJ,aH,eU,bS,eQ,bQ,eZ,bR,rS,lO,Nat.reduceAdd,cW,cY,eC,dT,eR];rfl)
  (ht:JL 0 gs++replicate (n-gs.length) .undef=t:=by
   simp only[JL,aJ,aH,eU,bS,eQ,bQ,eZ,bR,rS,lO,dT,eR,Nat.reduceSub,Nat.reduceAdd,mS,rL,cW,cY,eC];rfl):ax P f gs rr:=by
 subst ht;subst hn;subst ho;subst hc;rw[uX]at h;exact PG hm hf hb h
def qQ(l:List (List AV)):Bool:=l.all λr=>r.all AV.iG
theorem lq{w:World}{E:Env}:∀(x:AV) (v:Value) (fp:List Nat),x.iG=true->R w E x v fp->fp=[]:=by intro x v fp hx h;cases x<;>simp only[AV.iG]at hx<;>first|(cases hx;done)|(simp only[R]at h;exact h.2)|(simp only[R]at h;exact h.1)|simp_all[R]
theorem MR{w:World}{E:Env}:∀(c:List AV) (cs:List Value) (fp:List Nat),c.all AV.iG=true->Rc w E c cs fp->fp=[]
 |[],[],fp,_,h=>by simpa [Rc]using h
 |[],_::_,_,_,h=>by simp[Rc]at h
 |_::_,[],_,_,h=>by simp[Rc]at h
 |x::xs,c::cs,fp,hp,h=>by simp only[BY,eI]at hp;simp only[Rc]at h;obtain⟨f1,f2,h1,h2,h3⟩:=h;have a:=lq _ _ _ hp.1 h1;have b:=MR _ _ _ hp.2 h2;subst a;subst b;simpa using h3
theorem MS{w:World}{E:Env}:∀(l:List (List AV)) (news:List Value) (n:Nat) (fp:List Nat),qQ l=true->Rv w E l news n fp->fp=[]
 |[],_,_,_,_,h=>by simp only[Rv]at h;simp_all
 |r::l,news,n,fp,hp,h=>by simp only[qQ,BY,eI]at hp;simp only[Rv]at h;obtain⟨cs,rest,f1,f2,h1,h2,h3,h4,h5,h6⟩:=h;have a:=MR _ _ _ (by simpa using hp.1) h4;have b:=MS l _ _ _ (by simpa [qQ]using hp.2) h5;subst a;subst b;simpa using h6
theorem LK(tS xT:TypeId)(x y:Operand){e:TypeId}{n by' i j ver:Nat}{ob oj:aD}{s1:AS}(he:lQ P tS=some (e,n,by'))(hz:iR P e n=true)(hxt:sV P xT=true)
  (ht:s.target n (s.ev x)=some (i,ob,s1)) (hy:s1.ev y= .obj j ver) (ho:AV.isObj s1.o j ver=some oj) (hj:oj.box=false/\oj.n=n/\j≠i) (hpl:qQ oj.dM=true)
  (CF:(ob.dM.length+oj.dM.length)*by'<=140737488355328) (h63:ob.dM.length+oj.dM.length<=9223372036854775807):
  Step P B ⟨dst,.call {callee:= .builtin .append,args:=#[x,y],argTypes:=#[tS,xT]},ty,pos,after,gd⟩ s (s.yH s1.o dst i ob oj.dM):=
 qI λG0 a w r0=>by
  obtain⟨hu,inf,hi,hsz,hby⟩:=pJ he;obtain⟨z,hz1,hz2⟩:=Bb hz hi;obtain⟨G,g,r,hl,hlive,tY,hn,hv,hst⟩:=r0.target ht;have hev:=WU hst y;obtain⟨gj,hlj,aAo,hvj⟩:=r.aa hy ho;rw[hev]at hy;have aPn:a.eval y= .slice gj.a oj.dM.length gj.cap:=hvj;obtain⟨fj,Mi,aGe,Jn⟩:=r.ok j oj gj hlj aAo;rw[hj.1]at Mi;obtain⟨fp,hown,hnd,hF⟩:=r.ok i ob g hl hlive;rw[tY]at hown;obtain⟨news,Mf,Ad⟩:∃news,Rv w (env B s1.o G w).plain oj.dM news ob.n []/\∀w',w'.heap=w.heap->(Builtin.firstCells ob.n oj.dM.length (.slice gj.a oj.dM.length gj.cap)).run P w'= .ok news.toArray w':=by
   have hnn:oj.n=ob.n:=by rw[hj.2.1,hn]
   rcases Mi.2 with⟨h1,h2,h3⟩|⟨b,off,C,ety,fz,nU,ha,hb,hz',k1,k2,k3,rfl,hr⟩
   .refine ⟨[],by rw[h1];simp[Rv],λw' _=> ?_⟩
    rw[h1];cases hga:gj.a with
    |none=>simp[Builtin.firstCells]
    |some a'=>simp[Builtin.firstCells,loadCells,loadCellsFrom]
   .obtain ⟨vs,hv',hc'⟩:=sS.1 hr;have h0:=MS _ _ _ _ hpl hv';subst h0;refine⟨vs,by rw[<-hnn];exact hv',λw' zg=> ?_⟩;rw[ha,<-hnn];exact sU (lL hv') (hc'.heap zg)
  obtain⟨v,w',G',fV,hr',hR⟩:=r.append (P:=P) (ty:=ty) hl hlive tY hu (DI hxt) hi hz1 (by rw[hsz,hn]) (by rw[hz2,hn]) (x:=a.eval y) (by rw[aPn];simp[Builtin.lenOf]) (by rw[aPn];exact Ad) Mf hown (by simpa using hnd) (by simpa using hF) (by rw[hby];exact CF) h63;refine⟨v,w',by simp[execOp,resolve,invoke,builtin,hv,fV],G',?_⟩;have:=hr'.put dst hR;rw[hst]at this;exact this
def AV.sW:AV->Bool
 | .agg c=>c.all AV.iG
 |x=>x.iG
theorem aDs{x:AV}(h:x.sW=true):x≠ .undef:=by cases x<;>simp_all[AV.sW,AV.iG]
theorem YE{o:List aD}:∀{c:List AV},(∀x∈c,x.sW=true)->rC o c=c/\lM o c=true/\jF c=[]
 |[],_=>⟨rfl,rfl,rfl⟩
 |x::xs,h=>by
  obtain⟨h1,h2,h3⟩:=YE (o:=o) (c:=xs) λy hy=>h y (by simp[hy])
  have hx:=h x (by simp);cases x with
  |agg c=>
   simp only[AV.sW]at hx;obtain⟨k1,k2,k3⟩:=LF (o:=o) (c:=c) λy hy=>fW.1 hx y hy
   simp[rC,lM,jF,res,gP,iN,h1,h2,h3,k1,k2,k3]
  |_=>simp only[AV.sW,AV.iG]at hx<;>first|(cases hx;done)|(simp[rC,lM,jF,res,gP,iN,h1,h2,h3])
theorem YF(t:TypeId)(len:Nat)(parts:Array (Nat×Operand)){e:TypeId}{n by' i:Nat}(he:lQ P t=some (e,n,by'))(hz:iR P e n=true)(Le:vC parts.toList=true)(hlen:len=parts.toList.length)(hbig:len*n<=16777216)(hbig2:len<=16777216)
  (hpl:∀x∈(parts.toList.map (·.2)).map s.ev,x.sW=true) (hgood:∀x∈(parts.toList.map (·.2)).map s.ev,x.Ab=true/\x.cells.length=n) (hi':s.o[i]? =some ⟨true,false,n,0,[]⟩):
  Step P B ⟨dst,.buildSlice t len parts,ty,pos,after,gd⟩ s (AS.put ⟨s.t,s.o.set i ⟨true,false,n,1,((parts.toList.map (·.2)).map s.ev).map AV.cells⟩⟩ dst (.obj i 1)):=
 qI λG a w r=>by
  generalize hxs:parts.toList.map (·.2)=xs at*;have yU:parts.toList=(xs.zipIdx).map λp=>(p.2,p.1):=by rw[<-hxs];exact CJ _ 0 Le
  obtain⟨hp1,hp2,hp3⟩:=YE (o:=s.o) hpl;obtain⟨fp,sK,hnd,Mk⟩:=Hr r _ _ hp2 (by rw[hp3];simp) (qJ r xs);have Gj:fp=[]:=by
   cases fp with
   |nil=>rfl
   |cons b _=>obtain⟨i,ob,g,hi,_⟩:=Mk b (by simp);rw[hp3]at hi;cases hi
  subst Gj;rw[hp1]at sK;obtain⟨Mf,hsz⟩:=Oh sK hgood;have hvl:(xs.map a.eval).length=len:=by rw[hlen,<-hxs];simp
  have fV:(execOp a.eval ⟨dst,.buildSlice t len parts,ty,pos,after,gd⟩).run P w= .ok (.value (.slice (some ⟨w.heap.size,0,none⟩) len len)) (w.alloc (.cells ((xs.map a.eval).flatMap λv=>v.cells.toList).toArray e)):=by
   have e1:parts.map (λ(i,x)=>(i,a.eval x))=(((xs.map a.eval).zipIdx).map λp=>(p.2,p.1)).toArray:=by apply AM;simp only[An,yU,map_map,zipIdx_map];rfl
   have:=wG (P:=P) (t:=t) (len:=len) (w:=w) he hz hvl.symm hbig hsz;simp only[execOp,e1,oA,this,lP,sY]
  have hlt:i<G.length:=by rw[r.len];exact(cQ.1 hi').1
  have hlk:Aw.look s.o G i ⟨true,false,n,0,[]⟩ G[i]:=⟨hi',aE hlt⟩;generalize G[i]=g at hlk;generalize hCd:((xs.map a.eval).flatMap λv=>v.cells.toList)=cs at*;have Ea:=lL Mf;have Ed:(w.alloc (.cells cs.toArray e)).heap[w.heap.size]? =some (.cells cs.toArray e):=jP w _;have hrl:((xs.map s.ev).map AV.cells).length=len:=by have:=fA sK;rw[oT,<-this,hvl]
  have OQ:len<=maxLen:=by simp only[maxLen];omega
  have hm:=r.modify hlk rfl ⟨true,false,n,1,(xs.map s.ev).map AV.cells⟩ ⟨some ⟨w.heap.size,0,none⟩,len,λb=>g.F b\/b=w.heap.size⟩ (w.alloc (.cells cs.toArray e)) (by simp) rfl (by simp)
   (λb hb=>by
    rcases hb with hb|hb
    .exact .inl hb
    .right;subst hb;simp) (λb hb hne=>⟨.inl hb,λa' vB=>by
     obtain rfl:=cU vB;have:=(r.fresh _ _ _ b hlk rfl hb).2;simp only;omega⟩) (λb hlt _=>heap_alloc w _ b hlt) (by simp) (λk _=>by
   refine⟨[w.heap.size],?_,by simp,by simp⟩;generalize env B _ _ (w.alloc (.cells cs.toArray e))=E' at k⊢;simp only[Env.of,cX,eS];refine⟨by rw[hrl];exact OQ,.inr ⟨w.heap.size,0,cs.toArray,e,(0,0),[],rfl,Ed,.inr rfl,?_,by rw[hrl];exact eE _,OQ,rfl,?_⟩⟩
   .simp [Ea];rw[<-hrl];simp
   .refine sS.2 ⟨cs,uR k.plain (λb hb=>by cases hb) Mf,?_⟩
    refine rV Ed (λj v hv=>by simpa using hv))
  have hl2:Aw.look (s.o.set i ⟨true,false,n,1,(xs.map s.ev).map AV.cells⟩) (G.set i ⟨some ⟨w.heap.size,0,none⟩,len,λb=>g.F b\/b=w.heap.size⟩) i ⟨true,false,n,1,(xs.map s.ev).map AV.cells⟩ ⟨some ⟨w.heap.size,0,none⟩,len,λb=>g.F b\/b=w.heap.size⟩:=pI hlk;refine⟨_,_,fV,_,hm.1.put dst ?_⟩;simp only[R];exact⟨trivial,_,_,hl2,eE _,λ_ _=>by rw[hrl],λh=>absurd h (by decide)⟩
theorem aH8{P:Program}[aB P]{dst:Option Tmp}{ty:TypeId}{pos:String}{after:Array Edge}{gd:Option (Nat×Bool)}{m:List AV}{view:List aD}{pl:Nat}{T:TypeId}{len:Nat}{parts:Array (Nat×Operand)}{e:TypeId}{n by':Nat}{xs:List AV}
  (he:lQ P T=some (e,n,by')) (hz:iR P e n=true) (Le:vC parts.toList=true) (hlen:len=parts.toList.length) (hbig:len*n<=16777216) (hbig2:len<=16777216)
  (hxs:(parts.toList.map (·.2)).map (AS.ev ⟨m,view⟩)=xs) (hpl:∀x∈xs,x.sW=true) (hgood:∀x∈xs,x.Ab=true/\x.cells.length=n) (hv:view[pl]? =some (hole n)):
  IB P ⟨dst,.buildSlice T len parts,ty,pos,after,gd⟩ m view pl (.obj pl 1) ⟨true,false,n,1,xs.map AV.cells⟩:=by
 intro B t2 o2 hw hs _;have e2:(parts.toList.map (·.2)).map (AS.ev ⟨t2,o2⟩)=xs:=by
  have key:∀(l:List Operand) (xs:List AV),l.map (AS.ev ⟨m,view⟩)=xs->(∀x∈xs,x.sW=true)->l.map (AS.ev ⟨t2,o2⟩)=xs:=by
   intro l;induction l with
   |nil=>intro xs h _;exact h
   |cons a l ih=>
    intro xs h hp;cases xs with
    |nil=>cases h
    |cons x xs=>simp only[lA,List.cons.injEq]at h⊢;exact⟨FP hw h.1 (aDs (hp x (by simp))),ih xs h.2 λy hy=>hp y (by simp[hy])⟩
  exact key _ _ hxs hpl
 have ho:o2[pl]? =some ⟨true,false,n,0,[]⟩:=hs pl _ hv rfl;have:=YF (P:=P) (B:=B) (s:=⟨t2,o2⟩) (dst:=dst) (ty:=ty) (pos:=pos) (after:=after) (gd:=gd) T len parts (i:=pl) he hz Le hlen hbig hbig2 (by rw[e2];exact hpl) (by rw[e2];exact hgood) ho;rw[e2,put_eq]at this;exact this
theorem YG{P:Program}[aB P]{dst:Option Tmp}{ty:TypeId}{pos:String}{after:Array Edge}{gd:Option (Nat×Bool)}{m:List AV}{view:List aD}{pl:Nat}{T:TypeId}{len:Nat}{parts:Array (Nat×Operand)}{e:TypeId}{n by':Nat}{xs:List AV}{dM:List (List AV)}
  (he:lQ P T=some (e,n,by')) (hz:iR P e n=true) (Le:vC parts.toList=true) (hlen:len=parts.toList.length) (hbig:len*n<=16777216) (hbig2:len<=16777216)
  (hxs:(parts.toList.map (·.2)).map (AS.ev ⟨m,view⟩)=xs) (hpl:∀x∈xs,x.sW=true) (hgood:∀x∈xs,x.Ab=true/\x.cells.length=n) (hv:view[pl]? =some (hole n)) (hels:xs.map AV.cells=dM):
  IB P ⟨dst,.buildSlice T len parts,ty,pos,after,gd⟩ m view pl (.obj pl 1) ⟨true,false,n,1,dM⟩:=by
 subst hels;exact aH8 he hz Le hlen hbig hbig2 hxs hpl hgood hv
theorem Dm{P:Program}[aB P]{dst:Option Tmp}{ty:TypeId}{pos:String}{after:Array Edge}{gd:Option (Nat×Bool)}{m:List AV}{view:List aD}{pl v v' q u:Nat}{x y:Operand}{tS xT:TypeId}{e:TypeId}{n by':Nat}{dM aPo:List (List AV)}{l2:List (List AV)}
  (hx:AS.ev ⟨m,view⟩ x= .obj pl v) (hvv:v+1=v') (hv:view[pl]? =some ⟨true,false,n,v,dM⟩) (hy:AS.ev ⟨m,view⟩ y= .obj q u) (hq:view[q]? =some ⟨true,false,n,u,l2⟩) (hqp:q≠pl) (hpl:qQ l2=true) (hels:dM++l2=aPo)
  (he:lQ P tS=some (e,n,by')) (hz:iR P e n=true) (hxt:sV P xT=true) (CF:(dM.length+l2.length)*by'<=140737488355328) (h63:dM.length+l2.length<=9223372036854775807):
  IB P ⟨dst,.call {callee:= .builtin .append,args:=#[x,y],argTypes:=#[tS,xT]},ty,pos,after,gd⟩ m view pl (.obj pl v') ⟨true,false,n,v',aPo⟩:=by
 subst hels;subst hvv;intro B t2 o2 hw hs _;have ho:o2[pl]? =some ⟨true,false,n,v,dM⟩:=hs pl _ hv rfl;have WV:o2[q]? =some ⟨true,false,n,u,l2⟩:=hs q _ hq rfl;have hx2:AS.ev ⟨t2,o2⟩ x= .obj pl v:=FP hw hx (by simp);have hy2:AS.ev ⟨t2,o2⟩ y= .obj q u:=FP hw hy (by simp);have zJ:AV.isObj o2 pl v=some ⟨true,false,n,v,dM⟩:=by simp[AV.isObj,ho]
 have aTo:AV.isObj o2 q u=some ⟨true,false,n,u,l2⟩:=by simp[AV.isObj,WV]
 have:=LK (P:=P) (B:=B) (s:=⟨t2,o2⟩) (dst:=dst) (ty:=ty) (pos:=pos) (after:=after) (gd:=gd) tS xT x y (i:=pl) (ob:=⟨true,false,n,v,dM⟩) (s1:=⟨t2,o2⟩) (oj:=⟨true,false,n,u,l2⟩) he hz hxt
  (by rw[hx2];simp only[AS.target,zJ,and_self,eV]) hy2 aTo ⟨rfl,rfl,hqp⟩ hpl CF h63
 simp only[AS.yH,put_eq]at this;exact this
theorem yC{α:Type}{f:α->List AV}(h:∀x,(f x).all AV.iG=true)(l:List α):qQ (l.map f)=true:=by simp[qQ,fW];intro a _ x hx;exact fW.1 (h a) x hx
theorem jr{t t':List AV}{o o':List aD}(i k:Nat){ob:aD}{e e':List AV}(ho:o[i]? =some ob)(hl:ob.live=true)(hb:ob.box=false)(hall:(o.all λx=> !x.box || x.dM.all λc=>pQ i c)=true)(he:ob.dM[k]? =some e)
  (hc:qD Ht true e=e') (ho':o.set i {ob with dM:=ob.dM.set k e'}=o') (hw:wk (qD (gU [i]) true t) t'):kY ⟨t,o⟩ ⟨t',o'⟩:=by
 subst ho';subst hc;rintro P _ B a w ⟨G,r⟩;have nb:∀{j x g},look o G j x g->x.box=true->(x.dM.all λc=>pQ i c)=true:=λh hb=>by have:=fW.1 hall _ (mB h.1);simpa only[hb,Cl,Fo]using this
 obtain⟨g,hlk⟩:=r.look ho;obtain⟨fp,hown,hnd,hF⟩:=r.ok i ob g hlk hl;simp only[hb,Env.of,cX,eS]at hown;obtain⟨hlen,⟨h,_⟩|⟨b,off,C,ty,fz,nU,ha,hbk,hz,h1,h2,h3,rfl,hr⟩⟩:=hown
 .rw [h]at he;simp at he
 have hk:k<ob.dM.length:=(cQ.1 he).1;obtain⟨f1,f2,f3,cs,rfl,hn,hcs,hone,hre,hr1,hr3⟩:=Ac hr he;have hsub2:∀x∈f2,g.F x:=λx hx=>hF x (by simp[hx])
 generalize qC:({ob with dM:=ob.dM.set k (qD Ht true e)}:aD)=ob';generalize hg':({g with F:=λx=>g.F x/\x∉f2}:CO)=g';generalize hO:o.set i ob'=o';generalize hGG:G.set i g'=G';have back:∀{j x y},look o' G' j x y->(j=i/\x=ob'/\y=g')\/(j≠i/\look o G j x y):=by intro j x y h;rw[<-hO,<-hGG]at h;exact yG h
 have fi:look o' G' i ob' g':=by rw[<-hO,<-hGG];exact pI hlk
 have fo:∀{j x y},j≠i->look o G j x y->look o' G' j x y:=λhj h=>by rw[<-hO,<-hGG];exact Ba h hj
 have aS9:ob'.live=true:=by rw[<-qC];exact hl
 have aPe:ob'.box=false:=by rw[<-qC];exact hb
 have aLm:ob'.n=ob.n:=by rw[<-qC]
 have aTa:ob'.ver=ob.ver:=by rw[<-qC]
 have aLn:ob'.dM.length=ob.dM.length:=by rw[<-qC];simp
 have hga:g'.a=g.a:=by rw[<-hg']
 have hgc:g'.cap=g.cap:=by rw[<-hg']
 have vo:∀x,g'.F x↔g.F x/\x∉f2:=λx=>by rw[<-hg']
 let Er:Env:=(env B o G w).no i
 have rt1:lK (gU [i]) true (env B o G w) Er (λ_=>True):=by
  refine⟨λt e=>by simp[gU]at e,λt e=>by simp only[gU,eA]at e;exact⟨e.symm,λb hb=>hb⟩,λj t e=> ?_,λ_ _ _ _ h=>h,λ_ _ _ _ _ _ h=>h⟩;simp only[gU]at e;split at e
  .cases e
  .rename_i hiu;obtain rfl:=cU e;refine⟨by simp,?_,λb hb=>⟨hiu,hb⟩⟩;by_cases hV:(env B o G w).V j
   .exact .inl hV
   .exact .inr hV
 have kA:∀x,(env B o G w).A x->(env B o' G' w).A x:=λx hx=>⟨hx.1,λj y z hlj hjl hf=>by
  rcases back hlj with⟨rfl,rfl,rfl⟩|⟨_,h⟩
  .exact hx.2 _ _ _ hlk hl ((vo x).1 hf).1
  .exact hx.2 _ _ _ h hjl hf⟩
 have kS:∀x∈f2,(env B o' G' w).A x:=λx hx=>⟨(r.fresh _ _ _ x hlk hl (hsub2 x hx)).elim λh1 h2=>h1.elim (λh=> .inl (B.gA x h)) λh=> .inr ⟨h,h2⟩,λj y z hlj hjl hf=>by
  rcases back hlj with⟨rfl,rfl,rfl⟩|⟨hj,h⟩
  .exact ((vo x).1 hf).2 hx
  .exact hj (r.apart _ _ _ _ _ _ x h hlk hjl hl hf (hsub2 x hx))⟩
 have k2':dF w Er w (env B o' G' w):=by
  refine⟨λx hx=>⟨kA x hx,rfl⟩,λj h x hx=> ?_,λj x hV h=> ?_,λj ver x h=> ?_,λj ver p q x h=> ?_⟩
  .obtain ⟨y,hy⟩:=r.look hx;by_cases hj:j=i
   .subst hj;rw[ho]at hx;obtain rfl:=cU hx;exact hl
   .exact h x (fo hj hy).1
  .obtain ⟨hji,x',y,hlj,hjl,hf,hne⟩:=h;exact⟨⟨x',y,fo (by simpa using hji) hlj,hjl,hf,hne⟩,rfl⟩
  .obtain ⟨x',y,hlj,wW,hh,hz⟩:=h;by_cases hj:j=i
   .subst hj;obtain⟨rfl,rfl⟩:=iD hlk hlj;exact⟨ob',g',fi,by omega,λ_ UY=>by rw[hga,hgc,aLn];exact hh hl (by omega),hz⟩
   .exact ⟨x',y,fo hj hlj,wW,hh,hz⟩
  .obtain ⟨x',y,hlj,wW,hh,hz⟩:=h;by_cases hj:j=i
   .subst hj;obtain⟨rfl,rfl⟩:=iD hlk hlj;exact⟨ob',g',fi,by omega,λ_ UY=>by rw[hga,aLm];exact hh hl (by omega),λh=>by rw[aPe]at h;cases h⟩
   .exact ⟨x',y,fo hj hlj,wW,hh,hz⟩
 have kp:dF w (env B o G w).plain w (env B o' G' w).plain:=⟨λx hx=>⟨kA x hx,rfl⟩,λ_ _=>trivial,λ_ _ _ h=>h.elim,λ_ _ _ h=>h.elim,λ_ _ _ _ _ h=>h.elim⟩;have rv:lK Ht true (env B o G w).plain (env B o' G' w).plain (λx=>x∈f2):=by
  refine⟨λt e=> ?_,λt e=> ?_,λj t e=>by simp[Ht]at e,λ_ _ _ _ h=>h.elim,λ_ _ _ _ _ _ h=>h.elim⟩
  .simp only[Ht,eA]at e;subst e;exact⟨by simp,λb hb=>kS b hb⟩
  .simp only[Ht,eA]at e;exact⟨e.symm,λb hb=>kA b hb⟩
 have hnd':=hnd;simp only[mC]at hnd';refine⟨G',{len:=by rw[<-hO,<-hGG];simp[r.len],defs:=r.defs,ok:= ?_,apart:= ?_,fresh:= ?_,tmps:=GJ hw (dX k2' _ _ _ (by simp) (xA rt1 _ _ _ (by simp) r.tmps)),size:=r.size,frame:=r.frame,base:=r.base,same:=r.same}⟩
 .intro j x y hlj hjl;rcases back hlj with⟨rfl,rfl,rfl⟩|⟨hj,h⟩
  .refine ⟨b::(f1++[]++f3),?_,?_,?_⟩
   .rw [aPe,<-qC,<-hg'];simp only[Env.of,cX,eS];refine⟨by simpa using hlen,.inr ⟨b,off,C,ty,fz,_,ha,hbk,hz,h1,by simpa using h2,h3,rfl,?_⟩⟩;exact WI hk hn hcs hone (xA rv _ _ _ (λx hx=>hx) hre) (lW kp _ _ _ _ _ rfl (λ_ _=>rfl) hr1) (lW kp _ _ _ _ _ rfl (λ_ _=>rfl) hr3)
   .have hs:(f1++[]++f3).Sublist (f1++f2++f3):=((sX f1).append (nil_sublist f2)).append (sX f3);exact mC.2 ⟨λh=>hnd'.1 (hs.subset h),hs.nodup hnd'.2⟩
   .intro x hx;rw[vo];have hin:x∈b::(f1++f2++f3):=by simp only[gE,fS,Ft,or_false]at hx⊢;grind
    refine⟨hF x hin,λhx2=> ?_⟩;have hd:=hnd'.2;simp only[gS,fS]at hd;simp only[gE,fS,Ft,or_false]at hx;rcases hx with rfl|hx|hx
    .exact hnd'.1 (by simp[hx2])
    .exact hd.1.2.2 x hx x hx2 rfl
    .exact hd.2.2 x (.inr hx2) x hx rfl
  .obtain ⟨fq,q1,q2,q3⟩:=r.ok j x y h hjl;refine⟨fq,?_,q2,q3⟩;cases hbj:x.box with
   |false=>simp only[hbj,Env.of,cX,eS]at q1⊢;exact q1.keeps kp (λ_ _=>rfl)
   |true=>simp only[hbj,Env.of,eV]at q1⊢;exact(q1.Bj (nb h hbj)).keeps k2' (λ_ _=>rfl)
 .intro j1 j2 x1 x2 y1 y2 z hl1 hl2 v1 v2 hf1 hf2;rcases back hl1 with⟨rfl,rfl,rfl⟩|⟨hj1,h1⟩<;>rcases back hl2 with⟨rfl,rfl,rfl⟩|⟨hj2,h2⟩
  .rfl
  .exact absurd (r.apart _ _ _ _ _ _ z hlk h2 hl v2 ((vo z).1 hf1).1 hf2).symm hj2
  .exact absurd (r.apart _ _ _ _ _ _ z h1 hlk v1 hl hf1 ((vo z).1 hf2).1) hj1
  .exact r.apart _ _ _ _ _ _ z h1 h2 v1 v2 hf1 hf2
 .intro j x y z hlj hjl hf;rcases back hlj with⟨rfl,rfl,rfl⟩|⟨_,h⟩
  .exact r.fresh _ _ _ z hlk hl ((vo z).1 hf).1
  .exact r.fresh _ _ _ z h hjl hf
theorem go_openB{P:Program}[aB P](i k c:Nat){id:Nat}{L:List Oper}{Q:Exit->AS->Prop}{t t':List AV}{o o':List aD}{ob:aD}{e:List AV}{m:Nat}{rows:List (List AV)}(ho:o[i]? =some ob)(he:ob.dM[k]? =some e)(hc:e[c]? =some (.sl .own m rows))
  (h:jL P (.region id L.toArray false) ⟨t',o'⟩ Q) (hl:ob.live=true:=by rfl) (hb:ob.box=true:=by rfl) (hall:(o.all λx=> !x.box || x.dM.all λc=>pQ i c)=true:=by simp)
  (ho':o.set i {ob with dM:=ob.dM.set k (e.set c (.obj o.length 1))}++[⟨true,false,m,1,rows⟩]=o':=by simp;rfl) (hw:qD (gU [i]) true t=t':=by simp;rfl):jL P (Qa (.region id L.toArray false)) ⟨t,o⟩ Q:=
 go_weak (pR i k c ho hl hb hall he hc ho' (hw▸mR _)) h
theorem go_share{P:Program}[aB P](i k:Nat){id:Nat}{L:List Oper}{Q:Exit->AS->Prop}{t t':List AV}{o o':List aD}{ob:aD}{e e':List AV}(ho:o[i]? =some ob)(he:ob.dM[k]? =some e)(he':qD Ht true e=e')
  (h:jL P (.region id L.toArray false) ⟨t',o'⟩ Q) (hl:ob.live=true:=by rfl) (hb:ob.box=false:=by rfl) (hall:(o.all λx=> !x.box || x.dM.all λc=>pQ i c)=true:=by simp)
  (ho':o.set i {ob with dM:=ob.dM.set k e'}=o':=by simp;rfl) (hw:qD (gU [i]) true t=t':=by simp;rfl):jL P (Qa (.region id L.toArray false)) ⟨t,o⟩ Q:=
 go_weak (jr i k ho hl hb hall he he' ho' (hw▸mR _)) h
theorem K7{t t':List AV}{o o':List aD}(i:Nat){ob:aD}(ho:o[i]? =some ob)(ho':o.set i ⟨false,false,0,ob.ver,[]⟩=o')(hw:wk t t'):kY ⟨t,o⟩ ⟨t',o'⟩:=by
 subst ho';rintro P _ B a w ⟨G,r⟩;obtain⟨g,hlk⟩:=r.look ho;have hi:i<o.length:=(cQ.1 ho).1;have back:∀{j x y},look (o.set i ⟨false,false,0,ob.ver,[]⟩) G j x y->(j=i/\x=⟨false,false,0,ob.ver,[]⟩)\/(j≠i/\look o G j x y):=by
  intro j x y ⟨h1,h2⟩;rw[DO]at h1;by_cases hj:i=j
  .subst hj;rw[eW rfl,eW hi]at h1;exact .inl ⟨rfl,(cU h1).symm⟩
  .rw [eK hj]at h1;exact .inr ⟨λh=>hj h.symm,h1,h2⟩
 have k:dF w (env B o G w) w (env B (o.set i ⟨false,false,0,ob.ver,[]⟩) G w):=
  xG (eE _) (λb hb=>⟨nH r hb,rfl⟩) r.len
   (λj x y h=>by
    by_cases hj:j=i
    .subst hj;obtain⟨rfl,rfl⟩:=iD hlk h;exact⟨⟨false,false,0,ob.ver,[]⟩,g,⟨by rw[DO];simp[hi],hlk.2⟩,eE _,(λh=>by cases h),λh=>by cases h⟩
    .refine ⟨x,y,⟨by rw[DO,eK (λe=>hj e.symm)];exact h.1,h.2⟩,eE _,λh=> .inl h,λhl=>⟨hl,rfl,λ_=>⟨rfl,rfl,rfl⟩,λb h1 h2=>⟨h1,h2,rfl⟩⟩⟩)
   (λj x y b h hl hf=>by
    rcases back h with⟨_,rfl⟩|⟨_,h⟩
    .cases hl
    .exact .inr ⟨j,x,y,h,hl,hf⟩)
 refine⟨G,{len:=by simp[r.len],defs:=r.defs,ok:= ?_,apart:= ?_,fresh:= ?_,tmps:=GJ hw (dX k _ _ _ (by simp) r.tmps),size:=r.size,frame:=r.frame,base:=r.base,same:=r.same}⟩
 .intro j x y h hl;rcases back h with⟨_,rfl⟩|⟨_,h⟩
  .cases hl
  .exact (r.ok j x y h hl).keeps k (λ_ _=>rfl)
 .intro j1 j2 x1 x2 y1 y2 z h1 h2 l1 l2 f1 f2;rcases back h1 with⟨_,rfl⟩|⟨_,h1⟩
  .cases l1
  .rcases back h2 with⟨_,rfl⟩|⟨_,h2⟩
   .cases l2
   .exact r.apart _ _ _ _ _ _ z h1 h2 l1 l2 f1 f2
 .intro j x y z h hl hf;rcases back h with⟨_,rfl⟩|⟨_,h⟩
  .cases hl
  .exact r.fresh _ _ _ z h hl hf
theorem xw:∀a b:List UInt8,Lib.compareBytes a b=if a=b then 0 else if Op.bytesLess a b=true then -1 else 1
 |[],[]=>rfl
 |[],_::_=>by simp[Lib.compareBytes,Op.bytesLess]
 |_::_,[]=>by simp[Lib.compareBytes,Op.bytesLess]
 |x::xs,y::ys=>by
  have ih:=xw xs ys;simp only[Lib.compareBytes,Op.bytesLess];by_cases h:x<y
  .have hne:x≠y:=UInt8.ne_of_lt h;simp[h,hne]
  .by_cases h2:y<x
   .have hne:x≠y:=(UInt8.ne_of_lt h2).symm;simp[h,h2,hne]
   .have he:x=y:=UInt8.le_antisymm (UInt8.not_lt.1 h2) (UInt8.not_lt.1 h);subst he;simp[h,ih]
theorem Zi{w:World}{E:Env}{code:List UInt8}{i h:Int}{a:Option Addr}{cap:Nat}{fp:List Nat}(ho:qH w E 3 [aV code i h] a cap fp):code.length<=maxLen:=by
 rcases ho.2 with h0|⟨b,off,C,e,fz,nU,ha,hb,hz,h1,h2,h3,hf,hr⟩
 .exact absurd h0.1 (by simp)
 .simp only[Rr,aV]at hr;obtain⟨cs,f1,f2,hn,hc,hone,sK,hf2,hfe⟩:=hr;cases cs with
  |nil=>simp at hn
  |cons v0 cs=>
   simp only[Rc,R]at sK;obtain⟨g1,g2,r1,_⟩:=sK;rcases r1 with h|⟨_,_,_,hl,_⟩
   .exact h.1.elim
   .simpa [bA]using hl.1
def QP(P:Program)(fn:Func)(s:AS)(code:List UInt8)(r:AV): Prop :=
  s.t.getD 0 .undef = .ptr 0 2 0 0 /\ (∃ i h:Int, 0 <= i /\ s.o[0]? = some ⟨true, true, 3, 2, [aV code i h]⟩) /\
  ((∃ ys, s.Ce P fn.results.toList = some ys /\ gP s.o (single ys) = true /\ (0 :: iN (single ys)).Nodup /\ res s.o (single ys) = r) \/
   (∃ j ys, s.EF P fn.results.toList = some (j, ys) /\ gP s.o (single ys) = true /\ (0 :: iN (single ys)).Nodup /\ j ∉ iN (single ys) /\ j ≠ 0 /\ res s.o (single ys) = r))
theorem QQ{P:Program}[aB P](hm:P.follows .mixedOrders=true){f:FuncId}{fn:Func}{c:Code}(hf:P.funcs[f]? =some fn)(hb:fn.body=some c){xs:List AV}{Q:AV->Prop}(AL:xs.all fF=true)
  (h:∀code i h,0<=i->code.length<=maxLen->jL P c ⟨.ptr 0 2 0 0::xs++replicate (fn.ntmps-(xs.length+1)) .undef,[⟨true,true,3,2,[aV code i h]⟩]⟩ (λe s=>(e= .normal\/e= .ret)/\∃r,Q r/\QP P fn s code r)):Jo P f xs Q:=by
 intro w S b fo cap code vs hg hlow hbl hSb hS aA7 oP;obtain⟨i,h',hi,hown⟩:=aA7;have aT0:code.length<=maxLen:=Zi hown;have hl:=fA oP;generalize hB:(⟨w,λx=>S x\/x=b,(· =b),λ_=>none,λj=>if j=0 then some (.pointer (some ⟨b,fo,none⟩),cap)else none,hg,λx e=>by rw[e];exact hlow,λx e=> .inr e⟩:fM P)=B;have MB:B.w0=w:=by rw[<-hB]
 have hA0:∀x,B.A0 x↔(S x\/x=b):=by intro x;rw[<-hB]
 have hO0:∀x,B.O0 x↔x=b:=by intro x;rw[<-hB]
 have hp0:B.p0 0=some (.pointer (some ⟨b,fo,none⟩),cap):=by rw[<-hB];rfl
 have hh0:∀j,B.h0 j=none:=by intro j;rw[<-hB]
 generalize tX:(⟨true,true,3,2,[aV code i h']⟩:aD)=ob;generalize Bo:(⟨some ⟨b,fo,none⟩,cap,(· =b)⟩:CO)=go;have aIm:ob.live=true/\ob.box=true/\ob.n=3/\ob.ver=2/\ob.dM=[aV code i h']:=by rw[<-tX];exact⟨rfl,rfl,rfl,rfl,rfl⟩
 have pz:go.a=some ⟨b,fo,none⟩/\go.cap=cap/\∀x,go.F x↔x=b:=by rw[<-Bo];exact⟨rfl,rfl,λ_=>Iff.rfl⟩
 have lk0:∀{j o2 g2},look [ob] [go] j o2 g2->j=0/\o2=ob/\g2=go:=by
  rintro j o2 g2 ⟨h1,h2⟩;cases j with
  |zero=>simp at h1 h2;exact⟨rfl,h1.symm,h2.symm⟩
  |succ j=>simp at h1
 have hlk:look [ob] [go] 0 ob go:=⟨rfl,rfl⟩;have hEA:∀x,S x->(env B [ob] [go] w).A x:=λx hx=>⟨.inl ((hA0 x).2 (.inl hx)),λj o2 g2 h2 _ hF=>by
  obtain⟨_,_,rfl⟩:=lk0 h2;exact hSb (((pz.2.2 x).1 hF)▸hx)⟩
 have r0:dN B ⟨.ptr 0 2 0 0::xs++replicate (fn.ntmps-(xs.length+1)) .undef,[ob]⟩ [go] {tmps:=(.pointer (some ⟨b,fo,none⟩)::vs).toArray++Array.replicate (fn.ntmps-(.pointer (some ⟨b,fo,none⟩)::vs).toArray.size) Go.undef,defers:=[]} w:=by
  refine⟨rfl,rfl,?_,?_,?_,?_,by rw[MB];exact eE _,λx _ _=>by rw[MB],?_,by rw[MB];exact nV.rfl⟩
  .intro j o2 g2 h2 _;obtain⟨_,rfl,rfl⟩:=lk0 h2;refine⟨[b],?_,by simp,by simp[pz.2.2]⟩;rw[aIm.2.1,aIm.2.2.1,aIm.2.2.2.2,pz.1,pz.2.1];simp only[Env.of,eV];exact zM (E:=wB S) ⟨λx hx=>⟨hEA x hx,rfl⟩,λ_ _=>trivial,λ_ _ _ h=>h.elim,λ_ _ _ h=>h.elim,λ_ _ _ _ _ h=>h.elim⟩ hown
  .intro j1 j2 o1 o2 g1 g2 x a1 a2 _ _ _ _;obtain⟨rfl,_,_⟩:=lk0 a1;obtain⟨rfl,_,_⟩:=lk0 a2;rfl
  .intro j o2 g2 x h2 _ hF;obtain⟨_,rfl,rfl⟩:=lk0 h2;have:=(pz.2.2 x).1 hF;exact⟨.inl ((hO0 x).2 this),by rw[this];exact hbl⟩
  .have h1:Rc w (env B [ob] [go] w) xs vs []:=TI (E:=wB S) (E':=env B [ob] [go] w) ⟨λx hx=>⟨hEA x hx,rfl⟩,λ_ _=>trivial,λ_ _ _ h=>h.elim,λ_ _ _ h=>h.elim,λ_ _ _ _ _ h=>h.elim⟩ AL oP
   have h2:∀n,Rc w (env B [ob] [go] w) (replicate n .undef) (replicate n Go.undef) []:=by
    intro n;induction n with
    |zero=>simp[Rc]
    |succ n ih=>simp only[mS,Rc];exact⟨[],[],by simp[R],ih,rfl⟩
   have h3:R w (env B [ob] [go] w) (.ptr 0 2 0 0) (.pointer (some ⟨b,fo,none⟩)) []:=by simp only[R];refine⟨trivial,ob,go,hlk,by rw[aIm.2.2.2.1];exact eE _,λ_ _=>⟨b,fo,pz.1,by simp⟩,λ_ _ _ _ x hx=> ?_⟩;rw[hp0]at hx;obtain rfl:=cU hx;exact⟨rfl,λ_ _=>pz.2.1⟩
   have:=iQ (iQ (f1:=[]) (f2:=[]) (show Rc w (env B [ob] [go] w) [.ptr 0 2 0 0] [.pointer (some ⟨b,fo,none⟩)] []by simp only[Rc];exact⟨[],[],h3,rfl,rfl⟩) h1) (h2 (fn.ntmps-(xs.length+1)));simpa [hl]using this
  .intro x hx;rw[MB];rcases(hA0 x).1 hx with h|h
   .exact hS x h
   .rw [h];exact hbl
 refine DG hf hb (FF (nA hm c _ _ (tX▸h code i h' hi aT0) _ _ ⟨_,r0⟩) λe a w' he=> ?_);obtain⟨s,⟨he,rv,hQ,ht,⟨i2,h2,hi2,WV⟩,Iw⟩,G,r⟩:=he;have aP4:AV.isObj s.o 0 2=some ⟨true,true,3,2,[aV code i2 h2]⟩:=by simp[AV.isObj,WV]
 obtain⟨g,b2,f2,Ju,fD,aP5,rz⟩:=r.ptr (x:= .tmp 0) ht aP4;have fe:=r.pin (x:= .tmp 0) ht aP4 Ju rfl rfl rfl rfl _ hp0;rw[rz]at fe;obtain⟨hp1,hp2⟩:=fe;have sP:g.cap=cap:=hp2 rfl rfl;simp only[AW,Nat.zero_mul,rS,eA,nB,qT]at hp1;obtain⟨rfl,rfl⟩:=hp1;obtain⟨Rw,DJ,_,ae⟩:=r.ok 0 _ g Ju rfl;simp only[Env.of,eV]at DJ;obtain⟨b3,aT1,ha3,rfl⟩:=CS DJ;rw[aP5]at ha3;simp only[eA,nB,qT]at ha3;obtain⟨rfl,rfl⟩:=ha3;have DF:g.F b2:=ae b2 (by simp);have key:∃(v:Value) (fp:List Nat),(results fn a.tmps).run P w'= .ok v w'/\R w' (env B s.o G w').plain rv v fp/\fp.Nodup/\∀x∈fp,∃j ob g,j≠0/\look s.o G j ob g/\ob.live=true/\g.F x:=by
  rcases Iw with⟨ys,JD,qE,hu,lC⟩|⟨j,ys,JD,qE,hu,hj,hj0,lC⟩
  .obtain ⟨v,fV,hR⟩:=sZ r JD;rw[mC]at hu;obtain⟨fp,h1,h2,h3⟩:=Ee r _ v qE hu.2 hR;rw[lC]at h1;exact⟨v,fp,fV,h1,h2,λx hx=>by obtain⟨j,ob,g,hj,h⟩:=h3 x hx;exact⟨j,ob,g,λe=>hu.1 (e▸hj),h⟩⟩
  .obtain ⟨v,Rw,ZN,g1,aP6,Ja,fV,hR,hnd,hF⟩:=zQ r JD;rw[mC]at hu;obtain⟨fp,h1,h2,h3⟩:=Pe r aP6 Ja _ v Rw qE hu.2 hj hnd hF hR;rw[lC]at h1;refine⟨v,fp,fV,h1,h2,λx hx=> ?_⟩;rcases h3 x hx with h|⟨j2,ob',g',hj2,h⟩
   .exact ⟨j,ZN,g1,hj0,aP6,Ja,hF x h⟩
   .exact ⟨j2,ob',g',λe=>hu.1 (e▸hj2),h⟩
 obtain⟨v,fp,fV,k1,k2,k3⟩:=key;have Gj:∀x∈fp,w.heap.size<=x/\x<w'.heap.size:=λx hx=>by
  obtain⟨j,ZN,g1,hj,hl1,Ja,hF⟩:=k3 x hx;have:=r.fresh _ _ _ x hl1 Ja hF;refine⟨?_,this.2⟩;rcases this.1 with h|h
  .have e:=(hO0 x).1 h;exact absurd (r.apart _ _ _ _ _ _ x hl1 Ju Ja rfl hF (e▸DF)) hj
  .rwa [MB]at h
 have hkp:dF w' (env B s.o G w').plain w' (wB λx=>(S x\/(w.heap.size<=x/\x<w'.heap.size))/\x∉fp):=by
  refine⟨λx hx=>⟨⟨?_,λhm=> ?_⟩,rfl⟩,λ_ _=>trivial,λ_ _ _ h=>h.elim,λ_ _ _ h=>h.elim,λ_ _ _ _ _ h=>h.elim⟩
  .rcases hx.1 with h|h
   .rcases (hA0 x).1 h with h|h
    .exact .inl h
    .exact absurd (h▸DF) (hx.2 _ _ _ Ju rfl)
   .rw [MB]at h;exact .inr h
  .obtain ⟨j,ZN,g1,_,hl1,Ja,hF⟩:=k3 x hm;exact hx.2 _ _ _ hl1 Ja hF
 have hfin:∃r v' fp,Ending.returned v= .returned v'/\Q r/\R w' (wB λx=>(S x\/(w.heap.size<=x/\x<w'.heap.size))/\x∉fp) r v' fp/\fp.Nodup/\(∀x∈fp,w.heap.size<=x/\x<w'.heap.size)/\w.heap.size<=w'.heap.size/\
   (∀x,x<w.heap.size->x≠b2->w'.heap[x]? =w.heap[x]?)/\nV w w'/\JA w' (λx=>(S x\/(w.heap.size<=x/\x<w'.heap.size))/\x∉fp) b2 f2 cap code:=by
  refine⟨rv,v,fp,rfl,hQ,lF hkp _ _ _ (λ_ _=>rfl) k1,k2,Gj,by have:=r.size;rwa[MB]at this,λx hx hne=> ?_,by have:=r.same;rwa[MB]at this,i2,h2,hi2,?_⟩
  .have:=r.frame x (by rw[MB];exact hx) (λh=>hne ((hO0 x).1 h))
   rwa[MB]at this
  .rw [aP5,sP]at DJ;exact zM ⟨λx hx=>hkp.1 x hx,λ_ _=>trivial,λ_ _ _ h=>h.elim,λ_ _ _ h=>h.elim,λ_ _ _ _ _ h=>h.elim⟩ DJ
 rcases he with rfl|rfl
 .exact ⟨r.defs,v,fV,hfin⟩
 .exact ⟨r.defs,v,fV,hfin⟩
theorem QR{P:Program}[aB P](hm:P.follows .mixedOrders=true){f:FuncId}{fn:Func}{c:Code}(hf:P.funcs[f]? =some fn)(hb:fn.body=some c){args:List AV}{Q:AV->Prop}(AL:args.all fF=true)
  (h:jL P c ⟨args++replicate (fn.ntmps-args.length) .undef,[]⟩ (λe s=>(e= .normal\/e= .ret)/\∃r,Q r/\(mG P fn s r\/Bz P fn s r))):ug P f args Q:=by
 intro w S vs hg hS oP;have hl:=fA oP;have r0:dN ⟨w,S,λ_=>False,λ_=>none,λ_=>none,hg,λ_ h=>h.elim,λ_ h=>h.elim⟩ ⟨args++replicate (fn.ntmps-args.length) .undef,[]⟩ [] {tmps:=vs.toArray++Array.replicate (fn.ntmps-vs.toArray.size) Go.undef,defers:=[]} w:=by
  refine⟨rfl,rfl,λi ob g hl=>by simp[look]at hl,λi j oi oj gi gj b hl=>by simp[look]at hl,λi ob g b hl=>by simp[look]at hl,?_,eE _,λ_ _ _=>rfl,λb hb=>hS b hb,nV.rfl⟩;have h1:Rc w (env ⟨w,S,λ_=>False,λ_=>none,λ_=>none,hg,λ_ h=>h.elim,λ_ h=>h.elim⟩ [] [] w) args vs []:=
   TI (E:=wB S) (E':=env ⟨w,S,λ_=>False,λ_=>none,λ_=>none,hg,λ_ h=>h.elim,λ_ h=>h.elim⟩ [] [] w) ⟨λx hx=>⟨⟨.inl hx,λi ob g hl=>by simp[look]at hl⟩,rfl⟩,λ_ _=>trivial,λ_ _ _ h=>h.elim,λ_ _ _ h=>h.elim,λ_ _ _ _ _ h=>h.elim⟩ AL oP
  have h2:∀n,Rc w (env ⟨w,S,λ_=>False,λ_=>none,λ_=>none,hg,λ_ h=>h.elim,λ_ h=>h.elim⟩ [] [] w) (replicate n .undef) (replicate n Go.undef) []:=by
   intro n;induction n with
   |zero=>simp[Rc]
   |succ n ih=>simp only[mS,Rc];exact⟨[],[],by simp[R],ih,rfl⟩
  have:=iQ h1 (h2 (fn.ntmps-args.length));simpa [hl]using this
 refine DG hf hb (FF (nA hm c _ _ h _ _ ⟨_,r0⟩) λe a w' he=> ?_);obtain⟨s,⟨he,rr,hQ,Iw⟩,G,r⟩:=he;have key:∃(v:Value) (fp:List Nat),(results fn a.tmps).run P w'= .ok v w'/\R w' (env ⟨w,S,λ_=>False,λ_=>none,λ_=>none,hg,λ_ h=>h.elim,λ_ h=>h.elim⟩ s.o G w').plain rr v fp/\fp.Nodup/\∀b∈fp,∃j ob g,look s.o G j ob g/\ob.live=true/\g.F b:=by
  rcases Iw with⟨ys,JD,qE,hu,lC⟩|⟨i,ys,JD,qE,hu,hi,lC⟩
  .obtain ⟨v,fV,hR⟩:=sZ r JD;obtain⟨fp,h1,h2,h3⟩:=Ee r _ v qE hu hR;rw[lC]at h1;exact⟨v,fp,fV,h1,h2,λb hb=>by obtain⟨i,ob,g,_,h⟩:=h3 b hb;exact⟨i,ob,g,h⟩⟩
  .obtain ⟨v,Rw,ob,g,hlk,hlive,fV,hR,hnd,hF⟩:=zQ r JD;obtain⟨fp,h1,h2,h3⟩:=Pe r hlk hlive _ v Rw qE hu hi hnd hF hR;rw[lC]at h1;refine⟨v,fp,fV,h1,h2,λb hb=> ?_⟩;rcases h3 b hb with h|⟨j,ob',g',_,h⟩
   .exact ⟨i,ob,g,hlk,hlive,hF b h⟩
   .exact ⟨j,ob',g',h⟩
 obtain⟨v,fp,fV,h1,h2,h3⟩:=key;have hfin:∃r v' fp,Ending.returned v= .returned v'/\Q r/\R w' (wB λx=>(S x\/(w.heap.size<=x/\x<w'.heap.size))/\x∉fp) r v' fp/\fp.Nodup/\(∀b∈fp,w.heap.size<=b/\b<w'.heap.size)/\w.heap.size<=w'.heap.size/\(∀b,b<w.heap.size->w'.heap[b]? =w.heap[b]?)/\nV w w':=by
  refine⟨rr,v,fp,rfl,hQ,?_,h2,λb hb=> ?_,r.size,λb hb=>r.frame b hb (λh=>h),r.same⟩
  .have k:dF w' (env ⟨w,S,λ_=>False,λ_=>none,λ_=>none,hg,λ_ h=>h.elim,λ_ h=>h.elim⟩ s.o G w').plain w' (wB λx=>(S x\/(w.heap.size<=x/\x<w'.heap.size))/\x∉fp):=
    ⟨λb hb=>⟨⟨hb.1,λhm=>by
     obtain⟨j,ob,g,hl,hlive,hF⟩:=h3 b hm;exact hb.2 j ob g hl hlive hF⟩,rfl⟩,λ_ _=>trivial,λ_ _ _ h=>h.elim,λ_ _ _ h=>h.elim,λ_ _ _ _ _ h=>h.elim⟩
   exact lF k _ _ _ (λ_ _=>rfl) h1
  .obtain ⟨i,ob,g,hl,hlive,hF⟩:=h3 b hb;have:=r.fresh _ _ _ b hl hlive hF;exact⟨this.1.resolve_left (λh=>h),this.2⟩
 rcases he with rfl|rfl
 .exact ⟨r.defs,v,fV,hfin⟩
 .exact ⟨r.defs,v,fV,hfin⟩
theorem aP7{w w':World}{S:Nat->Prop}{fp:List Nat}(h3:∀b∈fp,w.heap.size<=b/\b<w'.heap.size):lK (λ_=>some .view) false (wB λx=>(S x\/(w.heap.size<=x/\x<w'.heap.size))/\x∉fp) (wB λx=>(S x\/(w.heap.size<=x/\x<w'.heap.size))/\x∉([]:List Nat)) (· ∈fp):=
 {own:=λg e=>by obtain rfl:=cU e;exact⟨by simp,λb hb=>⟨.inr (h3 b hb),by simp⟩⟩
  view:=λg e=>by obtain rfl:=cU e;exact⟨rfl,λb hb=>⟨hb.1,by simp⟩⟩
  iZ:=λi g e=>by obtain rfl:=cU e;exact⟨by simp,.inl trivial,λb hb=>hb.elim⟩
  hh:=λh=>by cases h
  hl:=λh=>by cases h}
theorem Jo.Dt{P:Program}[aB P]{f:FuncId}{xs:List AV}{Q Q':AV->Prop}(h:Jo P f xs Q)(hq:∀r,Q r->Q' (rt (λ_=>some .view) false r)):Jo P f xs Q':=by
 intro w S b fo cap code vs a1 a2 a3 a4 a5 a6 a7;refine Calls.mono (h w S b fo cap code vs a1 a2 a3 a4 a5 a6 a7) λe w' he=> ?_
 obtain⟨r,v,fp,rfl,hQ,h1,h2,h3,h4,h5,h6,i,g,hi,hc⟩:=he;refine⟨_,v,[],rfl,hq r hQ,aF6 (aP7 h3) r v fp (λ_ h=>h) h1,by simp,by simp,h4,h5,h6,i,g,hi,?_⟩;exact zM (E:=wB λx=>(S x\/(w.heap.size<=x/\x<w'.heap.size))/\x∉fp) ⟨λx (hx:(S x\/(w.heap.size<=x/\x<w'.heap.size))/\x∉fp)=>⟨⟨hx.1,by simp⟩,rfl⟩,λ_ _=>trivial,λ_ _ _ h=>h.elim,λ_ _ _ h=>h.elim,λ_ _ _ _ _ h=>h.elim⟩ hc
theorem ug.Dt{P:Program}[aB P]{f:FuncId}{xs:List AV}{Q Q':AV->Prop}(h:ug P f xs Q)(hq:∀r,Q r->Q' (rt (λ_=>some .view) false r)):ug P f xs Q':=by
 intro w S vs a1 a5 a7;refine Calls.mono (h w S vs a1 a5 a7) λe w' he=> ?_
 obtain⟨r,v,fp,rfl,hQ,h1,h2,h3,h4,h5,h6⟩:=he;exact⟨_,v,[],rfl,hq r hQ,aF6 (aP7 h3) r v fp (λ_ h=>h) h1,by simp,by simp,h4,h5,h6⟩
theorem Ec{P:Program}[aB P](hm:P.follows .mixedOrders=true){f:FuncId}{fn:Func}{c:Code}(hf:P.funcs[f]? =some fn){n:Nat}(hn:fn.ntmps=n){xs t:List AV}{Q:AV->Prop}
  (h:∀code i h,0<=i->code.length<=maxLen->jL P c ⟨t,[⟨true,true,3,2,[aV code i h]⟩]⟩ (λe s=>(e= .normal\/e= .ret)/\∃r,Q r/\QP P fn s code r)) (hb:fn.body=some c:=by rfl) (AL:xs.all fF=true:=by simp[fF,rX])
  (ht: .ptr 0 2 0 0::xs++replicate (n-(xs.length+1)) .undef=t:=by
   simp only[dT,eR,Nat.reduceSub,Nat.reduceAdd,mS,rL,cW,cY];rfl):Jo P f xs Q:=by
 subst ht;subst hn;exact QQ hm hf hb AL h
theorem aP8{P:Program}[aB P](hm:P.follows .mixedOrders=true){f:FuncId}{fn:Func}{c:Code}(hf:P.funcs[f]? =some fn){n:Nat}(hn:fn.ntmps=n){args t:List AV}{Q:AV->Prop}
  (h:jL P c ⟨t,[]⟩ (λe s=>(e= .normal\/e= .ret)/\∃r,Q r/\(mG P fn s r\/Bz P fn s r))) (hb:fn.body=some c:=by rfl) (AL:args.all fF=true:=by simp[fF,rX])
  (ht:args++replicate (n-args.length) .undef=t:=by
   simp only[dT,eR,Nat.reduceSub,Nat.reduceAdd,mS,rL,cW,cY];rfl):ug P f args Q:=by
 subst ht;subst hn;exact QR hm hf hb AL h
section
variable{P:Program}[aB P]{dst:Option Tmp}{ty:TypeId}{pos:String}{after:Array Edge}{gd:Option (Nat × Bool)}{s:AS}{X:AS -> Prop}{f:Operand}{KS:Array TypeId}{g:FuncId}
theorem cu{x:Operand}{zs:List Operand}{xs:List AV}{Q:AV->Prop}{k ver:Nat}{code:List UInt8}{i h:Int}(hc:Jo P g xs Q)
  (hn:∀rv i' h',Q rv->0<=i'->X (s.drew dst k ver code i' h' rv)) (hf:s.ev f= .fn g []:=by rfl) (hx:s.ev x= .ptr k ver 0 0:=by first|rfl|(simp;done))
  (ho:AV.isObj s.o k ver=some ⟨true,true,3,ver,[aV code i h]⟩:=by first|rfl|(simp[aV];done)) (h0:0<=i:=by first|assumption|omega) (hxs:zs.map s.ev=xs:=by first|rfl|(simp;done)) (hfl:xs.all fF=true:=by first|rfl|(simp[fF,rX];done)) (aEh:aT P g=true:=by simp):
  Nx 1 P ⟨dst,.call {callee:= .value f,args:=⟨x::zs⟩,argTypes:=KS},ty,pos,after,gd⟩ s X:=by
 refine gy ?_;unfold RU;simp only[hf];exact⟨aEh,.inl ⟨x,zs,k,ver,code,i,h,Q,rfl,hx,ho,h0,by rw[hxs];exact hfl,by rw[hxs];exact hc,hn⟩⟩
theorem cn{x:Operand}{code:List UInt8}(hc:zx P g)(hn:∀i h,0<=i->X (s.Ph dst code i h))(hf:s.ev f= .fn g []:=by rfl)(hx:s.ev x= .sl .view 1 (bA code):=by first|rfl|(simp;done))(aEh:aT P g=true:=by simp):
  Nx 1 P ⟨dst,.call {callee:= .value f,args:=#[x],argTypes:=KS},ty,pos,after,gd⟩ s X:=by
 refine gy ?_;unfold RU;simp only[hf];exact⟨aEh,.inr (.inl ⟨x,code,rfl,hx,hc,hn⟩)⟩
theorem ce{ys:List Operand}{xs:List AV}{Q:AV->Prop}(hc:ug P g xs Q)(hn:∀rv,Q rv->X (s.called dst rv))(hf:s.ev f= .fn g []:=by rfl)(hxs:ys.map s.ev=xs:=by first|rfl|(simp;done))(hfl:xs.all fF=true:=by first|rfl|(simp[fF,rX];done))(aEh:aT P g=true:=by simp):
  Nx 1 P ⟨dst,.call {callee:= .value f,args:=⟨ys⟩,argTypes:=KS},ty,pos,after,gd⟩ s X:=by
 refine gy ?_;unfold RU;simp only[hf];exact⟨aEh,.inr (.inr (.inl ⟨Q,⟨by rw[hxs];exact hfl,by rw[hxs];exact hc⟩,hn⟩))⟩
end
theorem rJ{P:Program}{fn:Func}{s:AS}{code:List UInt8}{Q:AV->Prop}{ys:List AV}{i h:Int}(JD:s.Ce P fn.results.toList=some ys)(ht:s.t.getD 0 .undef= .ptr 0 2 0 0)(ho:s.o[0]? =some ⟨true,true,3,2,[aV code i h]⟩)(hi:0<=i)
  (qE:gP s.o (single ys)=true) (hu:(0::iN (single ys)).Nodup) (hq:Q (res s.o (single ys))):∃r,Q r/\QP P fn s code r:=
 ⟨_,hq,ht,⟨i,h,hi,ho⟩,.inl ⟨ys,JD,qE,hu,rfl⟩⟩
theorem aP9{P:Program}{fn:Func}{s:AS}{code:List UInt8}{Q:AV->Prop}{ys:List AV}{k:Nat}{i h:Int}(JD:s.EF P fn.results.toList=some (k,ys))(ht:s.t.getD 0 .undef= .ptr 0 2 0 0)(ho:s.o[0]? =some ⟨true,true,3,2,[aV code i h]⟩)(hi:0<=i)
  (qE:gP s.o (single ys)=true) (hu:(0::iN (single ys)).Nodup) (hk:k∉iN (single ys)) (hk0:k≠0) (hq:Q (res s.o (single ys))):∃r,Q r/\QP P fn s code r:=
 ⟨_,hq,ht,⟨i,h,hi,ho⟩,.inr ⟨k,ys,JD,qE,hu,hk,hk0,rfl⟩⟩
def aEi(P:Program)(fn:Func)(s:AS)(code:List UInt8):Prop:=∃(k ver:Nat) (i h:Int),s.Ce P fn.results.toList=some [.ptr k ver 0 0]/\AV.isObj s.o k ver=some ⟨true,true,3,ver,[aV code i h]⟩/\0<=i
theorem qa{P:Program}[aB P](hm:P.follows .mixedOrders=true){f:FuncId}{fn:Func}{c:Code}(hf:P.funcs[f]? =some fn)(hb:fn.body=some c)
  (h:∀code:List UInt8,code.length<=maxLen->jL P c ⟨[.sl .view 1 (bA code)]++replicate (fn.ntmps-1) .undef,[]⟩ (λe s=>(e= .normal\/e= .ret)/\aEi P fn s code)):zx P f:=by
 intro w S v code hg hS hv;have hl0:code.length<=maxLen:=by
  simp only[R]at hv;rcases hv with h|⟨_,_,_,hl,_⟩
  .exact h.1.elim
  .simpa [bA]using hl.1
 have r0:dN ⟨w,S,λ_=>False,λ_=>none,λ_=>none,hg,λ_ h=>h.elim,λ_ h=>h.elim⟩ ⟨[.sl .view 1 (bA code)]++replicate (fn.ntmps-1) .undef,[]⟩ [] {tmps:=#[v]++Array.replicate (fn.ntmps-(#[v]:Array Value).size) Go.undef,defers:=[]} w:=by
  refine⟨rfl,rfl,λi ob g hl=>by simp[look]at hl,λi j oi oj gi gj b hl=>by simp[look]at hl,λi ob g b hl=>by simp[look]at hl,?_,eE _,λ_ _ _=>rfl,λb hb=>hS b hb,nV.rfl⟩;have h1:Rc w (env ⟨w,S,λ_=>False,λ_=>none,λ_=>none,hg,λ_ h=>h.elim,λ_ h=>h.elim⟩ [] [] w) [.sl .view 1 (bA code)] [v] []:=by simp only[Rc];exact⟨[],[],Oo (E:=wB S) ⟨λb hb=>⟨⟨.inl hb,λi ob g hl=>by simp[look]at hl⟩,rfl⟩,λ_ _=>trivial,λ_ _ _ h=>h.elim,λ_ _ _ h=>h.elim,λ_ _ _ _ _ h=>h.elim⟩ hv,rfl,rfl⟩
  have h2:∀n,Rc w (env ⟨w,S,λ_=>False,λ_=>none,λ_=>none,hg,λ_ h=>h.elim,λ_ h=>h.elim⟩ [] [] w) (replicate n .undef) (replicate n Go.undef) []:=by
   intro n;induction n with
   |zero=>simp[Rc]
   |succ n ih=>simp only[mS,Rc];exact⟨[],[],by simp[R],ih,rfl⟩
  have:=iQ h1 (h2 (fn.ntmps-1));simpa using this
 refine DG hf hb (FF (nA hm c _ _ (h code hl0) _ _ ⟨_,r0⟩) λe a w' he=> ?_);obtain⟨s,⟨he,k,ver,i,h',JD,tX,hi⟩,G,r⟩:=he;obtain⟨u,fV,hR⟩:=sZ r JD;simp only[single]at hR;have hR2:=hR;simp only[R]at hR2;obtain⟨_,ob,g,hl,_,hpt,_⟩:=hR2;obtain⟨h1,h2,h3⟩:=jB tX;obtain rfl:=cU (hl.1.symm.trans h1);obtain⟨b,fo,hga,hu⟩:=hpt rfl rfl;simp only[Nat.zero_mul,rS]at hu;obtain⟨Rw,hown,_,hF⟩:=r.ok k _ g hl rfl;simp only[Env.of,eV]at hown;obtain⟨b3,aT1,ha3,rfl⟩:=CS hown;rw[hga]at ha3;simp only[eA,nB,qT]at ha3;obtain⟨rfl,rfl⟩:=ha3;have DF:g.F b:=hF b (by simp);have La:=r.fresh _ _ _ b hl rfl DF;have hfin:∃b fo cap,Ending.returned u= .returned (.pointer (some ⟨b,fo,none⟩))/\w.heap.size<=b/\b<w'.heap.size/\JA w' (λx=>(S x\/(w.heap.size<=x/\x<w'.heap.size))/\x≠b) b fo cap code/\
   w.heap.size<=w'.heap.size/\(∀b,b<w.heap.size->w'.heap[b]? =w.heap[b]?)/\nV w w':=by
  refine⟨b,fo,g.cap,by rw[hu],La.1.resolve_left (λh=>h),La.2,⟨i,h',hi,?_⟩,r.size,λx hx=>r.frame x hx (λh=>h),r.same⟩;rw[hga]at hown;exact zM (E:=env ⟨w,S,λ_=>False,λ_=>none,λ_=>none,hg,λ_ h=>h.elim,λ_ h=>h.elim⟩ s.o G w') ⟨λx hx=>⟨⟨hx.1,λe=>hx.2 _ _ _ hl rfl (e▸DF)⟩,rfl⟩,λ_ _=>trivial,λ_ _ _ h=>h.elim,λ_ _ _ h=>h.elim,λ_ _ _ _ _ h=>h.elim⟩ hown
 rcases he with rfl|rfl
 .exact ⟨r.defs,u,fV,hfin⟩
 .exact ⟨r.defs,u,fV,hfin⟩
theorem oI{P:Program}[aB P]{o:Oper}{s s':AS}{X:AS->Prop}{i ver:Nat}{ob:aD}(tX:AV.isObj s.o i ver=some ob)(hbx:ob.box=false)(h:Nx 1 P o s' X)(e:s.frozen i ver ob=s'):Nx 1 P o s X:=by subst e;exact sw (λ_ _ B a w hr=>Vm tX hbx hr) h
theorem aT2{P:Program}[aB P](hm:P.follows .mixedOrders=true){f:FuncId}{fn:Func}{c:Code}(hf:P.funcs[f]? =some fn){n:Nat}(hn:fn.ntmps=n){t:List AV}
  (h:∀code:List UInt8,code.length<=maxLen->jL P c ⟨.sl .view 1 (bA code)::t,[]⟩ (λe s=>(e= .normal\/e= .ret)/\aEi P fn s code)) (hb:fn.body=some c:=by rfl)
  (ht:replicate (n-1) AV.undef=t:=by
   simp only[Nat.reduceSub,Nat.reduceAdd,mS,rL];rfl):zx P f:=by
 subst ht;subst hn;exact qa hm hf hb h
theorem Gr{P:Program}{fn:Func}{s:AS}{Q:AV->Prop}{ys:List AV}(JD:s.Ce P fn.results.toList=some ys)(qE:gP s.o (single ys)=true)(hu:(iN (single ys)).Nodup)(hq:Q (res s.o (single ys))):∃r,Q r/\(mG P fn s r\/Bz P fn s r):=
 ⟨_,hq,.inl ⟨ys,JD,qE,hu,rfl⟩⟩
theorem aQa{P:Program}[aB P](hm:P.follows .mixedOrders=true){f:FuncId}{fn:Func}{c c':Code}(L:List Nat)(hf:P.funcs[f]? =some fn){n:Nat}(hn:fn.ntmps=n){xs t:List AV}{Q:AV->Prop}
  (h:∀code i h,0<=i->code.length<=maxLen->jL P c' ⟨t,[⟨true,true,3,2,[aV code i h]⟩]⟩ (λe s=>(e= .normal\/e= .ret)/\∃r,Q r/\QP P fn s code r)) (hb:fn.body=some c:=by rfl) (AL:xs.all fF=true:=by simp[fF,rX])
  (hc:uW (λi=>L.contains i) c=c':=by simp[uW];rfl)
  (ht: .ptr 0 2 0 0::xs++replicate (n-(xs.length+1)) .undef=t:=by
   simp only[dT,eR,Nat.reduceSub,Nat.reduceAdd,mS,rL,cW,cY];rfl):Jo P f xs Q:=by
 subst ht;subst hn;subst hc;rw[uX]at h;exact QQ hm hf hb AL h
theorem aJ7{P:Program}[aB P](hm:P.follows .mixedOrders=true){f:FuncId}{fn:Func}{c c':Code}(L:List Nat)(hf:P.funcs[f]? =some fn){n:Nat}(hn:fn.ntmps=n){args t:List AV}{Q:AV->Prop}
  (h:jL P c' ⟨t,[]⟩ (λe s=>(e= .normal\/e= .ret)/\∃r,Q r/\(mG P fn s r\/Bz P fn s r))) (hb:fn.body=some c:=by rfl) (AL:args.all fF=true:=by simp[fF,rX])
  (hc:uW (λi=>L.contains i) c=c':=by simp[uW];rfl)
  (ht:args++replicate (n-args.length) .undef=t:=by
   simp only[dT,eR,Nat.reduceSub,Nat.reduceAdd,mS,rL,cW,cY];rfl):ug P f args Q:=by
 subst ht;subst hn;subst hc;rw[uX]at h;exact QR hm hf hb AL h
theorem go_at(d:Tmp){P:Program}[aB P]{all r:List Oper}{op:Op}{ty:TypeId}{pos:String}{after:Array Edge}{s:AS}{K:AS->Prop}(h:Nx 1 P ⟨some d,op,ty,pos,after,none⟩ s λs'=>iJ P all r s' K):iJ P all (⟨some d,op,ty,pos,after,none⟩::r) s K:=go_cons rfl h
def Q5(P:Program)[aB P]{ι:Type}(l:List Oper)(S:(Nat->Bool)->ι->AS):Nat->List Oper->Prop
 |_,[]=>True
 |i,o::r=>(∀(J:Nat->Bool) (y:ι),XJ l J->J i=false->(∀e∈pre o,J e=true)->iJ P l [o] (S J y) λs'=>∃y',kY s' (S (eT J i) y'))/\Q5 P l S (i+1) r
theorem Zr{P:Program}[aB P]{ι:Type}{L:List Oper}{S:(Nat->Bool)->ι->AS}:∀{l:List Oper} {k i:Nat} {o:Oper},Q5 P L S k l->l[i]? =some o->
  ∀(J:Nat->Bool) (y:ι),XJ L J->J (k+i)=false->(∀e∈pre o,J e=true)->iJ P L [o] (S J y) λs'=>∃y',kY s' (S (eT J (k+i)) y')
 |[],_,_,_,_,h=>by simp at h
 |x::xs,k,0,o,hd,h=>by simp at h;subst h;exact hd.1
 |x::xs,k,i+1,o,hd,h=>by
  have:=Zr (k:=k+1) (i:=i) hd.2 (by simpa using h)
  rwa[show k+1+i=k+(i+1)by omega]at this
theorem aEu{P:Program}[aB P]{B:fM P}{ops:Array Oper}{Q:Exit->Act->World->Prop}{ι:Type}{S:(Nat->Bool)->ι->AS}(hfw:GQ ops.toList=true)(hs:Q5 P ops.toList S 0 ops.toList)
  (he:∀J y,(∀i,i<ops.size->J i=true)->∀a w,Rel B (S J y) a w->Q .normal a w):
  ∀(n:Nat) (listed:Array Bool) (y:ι) (a:Act) (w:World),listed.size=ops.size->XJ ops.toList (λi=>listed.getD i false)->left listed.toList=n->Rel B (S (λi=>listed.getD i false) y) a w->wpAny P .any ops Q n listed a w
 |0,listed,y,a,w,hl,hc,hn,r=>by
  have hall:∀i,i<ops.size->listed.getD i false=true:=by
   intro i hi;have hi':i<listed.size:=by omega
   have:=FM hn (i:=i) (b:=listed[i]) (by simp[hi']);simp[Array.getD,hi',this]
  refine⟨?_,he _ _ hall _ _ r⟩;rw[rI];intro i hi;obtain⟨op,hop,h1,_⟩:=(mem_ready hl).1 hi;have zJ:=(cQ.1 hop).1;have:=hall i (by simpa using zJ);rw[this]at h1;cases h1
 |n+1,listed,y,a,w,hl,hc,hn,r=>by
  constructor
  .intro hnil;exfalso;obtain⟨i,h1,h2⟩:=JH (l:=listed.toList) (by omega);have hi:i<listed.size:=by have:=(cQ.1 h1).1;simpa using this
   have zJ:i<ops.toList.length:=by simp;omega
   have hop:=aE zJ;have hg:∀j:Nat,listed.toList[j]? =listed[j]?:=λj=>Array.getElem?_toList
   have:i∈Region.ready .any ops listed:=(mem_ready hl).2 ⟨_,hop,by rw[eN,<-hg,h1];rfl,λe he=>by
    have:=h2 e (FT hfw hop e he);rw[eN,<-hg,this];rfl⟩
   rw[hnil]at this;cases this
  .intro i hi;obtain⟨op,hop,h1,h2⟩:=(mem_ready hl).1 hi;have zJ:=(cQ.1 hop).1;have hil:i<listed.size:=by simp at zJ;omega
   have hst:=Zr hs hop (λj=>listed.getD j false) y hc (by rw[lO];exact h1) h2;rw[lO]at hst;unfold wpOp;have fu:ops[i]? =some op:=by simpa using hop
   rw[fu];have:=Lt hst r (Kc:=wpAny P .any ops Q n (listed.setIfInBounds i true)) (Q:=Q) (λa' w' s' h' r'=>by
    simp only[iJ]at h';obtain⟨y',hw⟩:=h';have hu:eT (λj=>listed.getD j false) i=λj=>(listed.setIfInBounds i true).getD j false:=by funext j;exact(JM hil j).symm
    refine aEu hfw hs he n _ y' a' w' (by simpa using hl) ?_ ?_ ?_
    .rw [<-hu];intro j o hj hJ e he;unfold eT at hJ⊢;by_cases hji:j=i
     .subst hji;rw[hop]at hj;obtain rfl:=cU hj;have h3:=h2 e he;split
      .rfl
      .exact h3
     .rw [eK hji]at hJ;have h3:=hc j o hj hJ e he;split
      .rfl
      .exact h3
    .have h1':listed[i]? =some false:=by rw[eN,pN hil]at h1;rw[pN hil];exact Ax some h1
     have:=Es (l:=listed.toList) (i:=i) (by simpa using h1');rw[AE];omega
    .rw [<-hu];exact hw B a' w' r')
   simpa using this
theorem Q6{l:List Oper}{J:Nat->Bool}(hc:XJ l J){e:Nat}(he:J e=false)(k:Nat){o:Oper}(hk:l[k]? =some o)(hm:e∈pre o):J k=false:=by
 cases h:J k
 .rfl
 .have:=hc k o hk h e hm;rw[he]at this;cases this
theorem yw{P:Program}[aB P]{id:Nat}{l:List Oper}{s:AS}{Q:Exit->AS->Prop}{ι:Type}(S:(Nat->Bool)->ι->AS)(y0:ι)(h0:kY s (S (λ_=>false) y0))(hs:Q5 P l S 0 l)
  (he:∀J y,(∀i,i<l.length->J i=true)->Q .normal (S J y)) (hfw:GQ l=true:=by decide+kernel):jL P (.region id (Qa l.toArray) true) s Q:=by
 rw[wL];unfold jL;intro B a w Q0 hr hq;have hJ:(λi=>(Array.replicate l.toArray.size false).getD i false)=λ_=>false:=by funext i;simp only[eN,sR];split<;>rfl
 have r2:Rel B s a {w with drawn:=w.drawn+1}:=by obtain⟨G,r⟩:=hr;exact⟨G,{len:=r.len,defs:=r.defs,ok:=λi ob g hl hlive=>(r.ok i ob g hl hlive).keeps (w':={w with drawn:=w.drawn+1}) ⟨λb h=>⟨h,rfl⟩,λ_ h=>h,λ_ _ _ h=>⟨h,rfl⟩,λ_ _ _ h=>h,λ_ _ _ _ _ h=>h⟩ (λ_ _=>rfl),apart:=r.apart,fresh:=r.fresh,tmps:=dX (w:=w) (E:=env B s.o G w) (w':={w with drawn:=w.drawn+1}) (E':=env B s.o G {w with drawn:=w.drawn+1}) ⟨λb h=>⟨h,rfl⟩,λ_ h=>h,λ_ _ _ h=>⟨h,rfl⟩,λ_ _ _ h=>h,λ_ _ _ _ _ h=>h⟩ _ _ _ (by simp) r.tmps,size:=r.size,frame:=r.frame,base:=r.base,same:=r.same.trans ⟨rfl,rfl,rfl⟩}⟩
 refine aEu (ops:=l.toArray) (B:=B) (S:=S) (by simpa using hfw) (by simpa using hs) (λJ y h a' w' r'=>hq a' w' _ (he J y (by simpa using h)) r') _ _ y0 _ _ (by simp) (by rw[hJ];intro j o hj hJ;cases hJ) (by simp[left]) ?_;rw[hJ];exact h0 B _ _ r2
theorem aIn{P:Program}[aB P]{c1 c2:Code}{s:AS}{K:AS->Prop}{Q Q':Exit->AS->Prop}(aQb:AS->Prop)(hk:∀s',aQb s'->K s')
  (h:jL P c1 s (uG (λs'=>jL P c2 s' (λe s'=>e= .normal/\aQb s')) (λ_ _=>False))):jL P c1 s (uG (λs'=>jL P c2 s' (uG K Q)) Q'):=by
 refine yA c1 s _ _ (λe s' he=> ?_) h;cases e<;>simp only[uG]at he⊢;exact yA c2 s' _ _ (λe s'' hp=>by obtain⟨rfl,hp⟩:=hp;simp only[uG];exact hk _ hp) he
end
end Go.Aw
