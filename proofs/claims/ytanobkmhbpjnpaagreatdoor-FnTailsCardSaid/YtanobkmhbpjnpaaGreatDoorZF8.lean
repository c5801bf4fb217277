/- Steps. No condition. -/
import Derived.Test.YtanobkmhbpjnpaaGreatDoorZF4
set_option linter.all false
namespace Go.Aw
open List
section
variable{P:Program}[aG P]{B:gL P}{s:AS}{dst:Option Tmp}{ty:TypeId}{pos:String}{after:Array Edge}{gd:Option (Nat × Bool)}
def Oy{o:List aI}:∀{c:List AV},(∀x∈c,x.lC=true)->vH o c=c/\pI o c=true/\mX c=[]
 |[],_=>⟨rfl,rfl,rfl⟩
 |x::xs,h=>by
  obtain⟨h1,h2,h3⟩:=Oy (o:=o) (c:=xs) λy hy=>h y (by simp[hy])
  have hx:=h x (by simp);cases x<;>simp only[AV.lC]at hx<;>first|(cases hx;done)|(simp[vH,pI,mX,res,kV,mG,h1,h2,h3])
def L8(t:TypeId)(len:Nat)(parts:Array (Nat×Operand)){e:TypeId}{n by' i:Nat}(he:oO P t=some (e,n,by'))(hz:kZ P e n=true)(NY:yN parts.toList=true)(dF:len=parts.toList.length)(hbig:len*n<=16777216)(hbig2:len<=16777216)
  (hpl:∀x∈(parts.toList.map (·.2)).map s.ev,x.lC=true) (hgood:∀x∈(parts.toList.map (·.2)).map s.ev,x.Bn=true/\x.cells.length=n) (hi':s.o[i]? =some ⟨true,false,n,0,[]⟩):
  Step P B ⟨dst,.buildSlice t len parts,ty,pos,after,gd⟩ s (AS.put ⟨s.t,s.o.set i ⟨true,false,n,1,((parts.toList.map (·.2)).map s.ev).map AV.cells⟩⟩ dst (.obj i 1)):=
 uI λG a w r=>by
  generalize hxs:parts.toList.map (·.2)=xs at*;have BH:parts.toList=(xs.zipIdx).map λp=>(p.2,p.1):=by rw[<-hxs];exact Fu _ 0 NY
  obtain⟨hp1,hp2,hp3⟩:=Oy (o:=s.o) hpl;obtain⟨fp,wK,hnd,Pz⟩:=Kl r _ _ hp2 (by rw[hp3];simp) (uK r xs);have Jq:fp=[]:=by
   cases fp with
   |nil=>rfl
   |cons b _=>obtain⟨i,ob,g,hi,_⟩:=Pz b (by simp);rw[hp3]at hi;cases hi
  subst Jq;rw[hp1]at wK;obtain⟨Pt,hsz⟩:=Ru wK hgood;have hvl:(xs.map a.eval).length=len:=by rw[dF,<-hxs];simp
  have hrun:(execOp a.eval ⟨dst,.buildSlice t len parts,ty,pos,after,gd⟩).run P w= .ok (.value (.slice (some ⟨w.heap.size,0,none⟩) len len)) (w.alloc (.cells ((xs.map a.eval).flatMap λv=>v.cells.toList).toArray e)):=by
   have e1:parts.map (λ(i,x)=>(i,a.eval x))=(((xs.map a.eval).zipIdx).map λp=>(p.2,p.1)).toArray:=by apply CH;simp only[DO,BH,map_map,zipIdx_map];rfl
   have:=wS (P:=P) (t:=t) (len:=len) (w:=w) he hz hvl.symm hbig hsz;simp only[execOp,e1,pB,this,mT,tR]
  have hlt:i<G.length:=by rw[r.len];exact(cU.1 hi').1
  have hlk:Aw.look s.o G i ⟨true,false,n,0,[]⟩ G[i]:=⟨hi',aE hlt⟩;generalize G[i]=g at hlk;generalize hCd:((xs.map a.eval).flatMap λv=>v.cells.toList)=cs at*;have IU:=mK Pt;have hself:(w.alloc (.cells cs.toArray e)).heap[w.heap.size]? =some (.cells cs.toArray e):=iT w _;have hrl:((xs.map s.ev).map AV.cells).length=len:=by have:=iY wK;rw[tE,<-this,hvl]
  have WC:len<=maxLen:=by simp only[maxLen];omega
  have hm:=r.modify hlk rfl ⟨true,false,n,1,(xs.map s.ev).map AV.cells⟩ ⟨some ⟨w.heap.size,0,none⟩,len,λb=>g.F b\/b=w.heap.size⟩ (w.alloc (.cells cs.toArray e)) (by simp) rfl (by simp)
   (λb hb=>by
    rcases hb with hb|hb
    .exact .inl hb
    .right;subst hb;simp) (λb hb jE=>⟨.inl hb,λa' yM=>by
     obtain rfl:=cX yM;have:=(r.eB _ _ _ b hlk rfl hb).2;simp only;omega⟩) (λb hlt _=>heap_alloc w _ b hlt) (by simp) (λk _=>by
   refine⟨[w.heap.size],?_,by simp,by simp⟩;generalize env B _ _ (w.alloc (.cells cs.toArray e))=E' at k⊢;simp only[Env.of,cY,eW];refine⟨by rw[hrl];exact WC,.inr ⟨w.heap.size,0,cs.toArray,e,(0,0),[],rfl,hself,.inr rfl,?_,by rw[hrl];exact eJ _,WC,rfl,?_⟩⟩
   .simp [IU];rw[<-hrl];simp
   .refine vG.2 ⟨cs,yB k.plain (λb hb=>by cases hb) Pt,?_⟩
    refine tL hself (λj v hv=>by simpa using hv))
  have hl2:Aw.look (s.o.set i ⟨true,false,n,1,(xs.map s.ev).map AV.cells⟩) (G.set i ⟨some ⟨w.heap.size,0,none⟩,len,λb=>g.F b\/b=w.heap.size⟩) i ⟨true,false,n,1,(xs.map s.ev).map AV.cells⟩ ⟨some ⟨w.heap.size,0,none⟩,len,λb=>g.F b\/b=w.heap.size⟩:=tK hlk;refine⟨_,_,hrun,_,hm.1.put dst ?_⟩;simp only[R];exact⟨trivial,_,_,hl2,eJ _,λ_ _=>by rw[hrl],λh=>absurd h (by decide)⟩
structure VA where
  at_:Nat
  n:Nat
  st:List (Nat × aI)
def L9(J:Nat->Bool)(h:aI):List (Nat×aI)->aI
 |[]=>h
 |q::r=>if J q.1=true then q.2 else L9 J h r
def vst(i:Nat)(pr:List Nat)(h dead:aI):List (Nat×aI)->aI
 |[]=>h
 |q::r=>if q.1∈pr then q.2 else if q.1=i\/i∈r.map (·.1)then vst i pr h dead r else dead
def hole(n:Nat):aI:=⟨true,false,n,0,[]⟩
def aHo(n:Nat):aI:=⟨false,false,n,0,[]⟩
def Bv(J:Nat->Bool):List VA->List aI->List aI
 |[],o=>o
 |p::r,o=>Bv J r (o.set p.at_ (L9 J (hole p.n) p.st))
def KP(i:Nat)(pr:List Nat):List VA->List aI->List aI
 |[],o=>o
 |p::r,o=>KP i pr r (o.set p.at_ (vst i pr (hole p.n) (aHo p.n) p.st))
def TR(l:List Oper):List (Nat×aI)->Bool
 |[]=>true
 |[_]=>true
 |q::q'::r=>(pW l q.1).contains q'.1&&TR l (q'::r)
def aMh(l:List Oper)(fl:List VA)(n:Nat):Bool:=
 decide (fl.map (·.at_)).Nodup&&(fl.all λp=>decide (p.at_<n)&&TR l p.st&&decide (p.st.map (·.1)).Nodup&&p.st.all λq=>decide (q.1<l.length))&&decide ((fl.flatMap λp=>p.st.map (·.1))).Nodup
def DU(J:Nat->Bool):∀(fl:List VA) (o:List aI),(Bv J fl o).length=o.length
 |[],_=>rfl
 |q::r,o=>by simp only[Bv];rw[DU J r];simp
def Ib(i:Nat)(pr:List Nat):∀(fl:List VA) (o:List aI),(KP i pr fl o).length=o.length
 |[],_=>rfl
 |q::r,o=>by simp only[KP];rw[Ib i pr r];simp
def ME{J:Nat->Bool}{i:Nat}:∀{fl:List VA} {o:List aI},(∀q∈fl,q.at_≠i)->(Bv J fl o)[i]? =o[i]?
 |[],_,_=>rfl
 |q::r,o,h=>by simp only[Bv];rw[ME λp hp=>h p (by simp[hp]),lB (h q (by simp))]
def YP{k:Nat}{pr:List Nat}{i:Nat}:∀{fl:List VA} {o:List aI},(∀q∈fl,q.at_≠i)->(KP k pr fl o)[i]? =o[i]?
 |[],_,_=>rfl
 |q::r,o,h=>by simp only[KP];rw[YP λp hp=>h p (by simp[hp]),lB (h q (by simp))]
def MF{J:Nat->Bool}:∀{fl:List VA} {o:List aI} {q:VA},(fl.map (·.at_)).Nodup->q∈fl->q.at_<o.length->(Bv J fl o)[q.at_]? =some (L9 J (hole q.n) q.st)
 |p::r,o,q,hn,hq,hl=>by
  simp only[Bv];simp only[oE,nF]at hn;rcases mC.1 hq with rfl|hq
  .rw [ME λp hp e=>hn.1 (zE.2 ⟨p,hp,e⟩),mN hl]
  .exact MF hn.2 hq (by simpa using hl)
def lq{k:Nat}{pr:List Nat}:∀{fl:List VA} {o:List aI} {q:VA},(fl.map (·.at_)).Nodup->q∈fl->q.at_<o.length->(KP k pr fl o)[q.at_]? =some (vst k pr (hole q.n) (aHo q.n) q.st)
 |p::r,o,q,hn,hq,hl=>by
  simp only[KP];simp only[oE,nF]at hn;rcases mC.1 hq with rfl|hq
  .rw [YP λp hp e=>hn.1 (zE.2 ⟨p,hp,e⟩),mN hl]
  .exact lq hn.2 hq (by simpa using hl)
def KQ{J J':Nat->Bool}:∀{fl:List VA} {o:List aI},(∀p∈fl,∀q∈p.st,J q.1=J' q.1)->Bv J fl o=Bv J' fl o
 |[],_,_=>rfl
 |p::r,o,h=>by
  simp only[Bv];have:∀st:List (Nat×aI),(∀q∈st,J q.1=J' q.1)->L9 J (hole p.n) st=L9 J' (hole p.n) st:=by
   intro st;induction st with
   |nil=>intros;rfl
   |cons q r ih=>intro h;simp only[L9];rw[h q (by simp),ih λx hx=>h x (by simp[hx])]
  rw[this p.st (h p (by simp)),KQ λq hq=>h q (by simp[hq])]
def lu{J:Nat->Bool}{i:Nat}{pr:List Nat}{n:Nat}(hi:J i=false)(hp:∀e∈pr,J e=true):∀(st:List (Nat×aI)),(∀s1 q s2,st=s1++q::s2->J q.1=false->∀p∈s1,J p.1=false)->(vst i pr (hole n) (aHo n) st).fT=true->vst i pr (hole n) (aHo n) st=L9 J (hole n) st
 |[],_,_=>rfl
 |q::r,aMi,h=>by
  simp only[vst,L9]at h⊢;by_cases h1:q.1∈pr
  .rw [eM h1,eM (hp _ h1)]
  .rw [eC h1]at h⊢;by_cases h2:q.1=i\/i∈r.map (·.1)
   .rw [eM h2]at h⊢;have hq:J q.1=false:=by
     rcases h2 with h2|h2
     .rw [h2];exact hi
     .obtain ⟨x,hx,rfl⟩:=zE.1 h2;obtain⟨r1,r2,rfl⟩:=append_of_mem hx;exact aMi (q::r1) x r2 rfl hi q (by simp)
    rw[hq,eC (by simp)];exact lu hi hp r (λs1 x s2 e hx p hp=>aMi (q::s1) x s2 (by rw[e];rfl) hx p (by simp[hp])) h
   .rw [eC h2]at h;cases h
def Xy{l:List Oper}{q:Nat×aI}{r:List (Nat×aI)}(h:TR l (q::r)=true):TR l r=true:=by
 cases r with
 |nil=>rfl
 |cons q' r=>simp only[TR,eK]at h;exact h.2
def TS{l:List Oper}{J:Nat->Bool}(hJ:zg l J)(dF:∀i,J i=true->i<l.length):∀{s1:List (Nat×aI)} {q:Nat×aI} {s2:List (Nat×aI)},TR l (s1++q::s2)=true->J q.1=false->∀p∈s1,J p.1=false
 |[],_,_,_,_=>λ_ hp=>by cases hp
 |x::s1,q,s2,h,hq=>by
  have ih:=TS hJ dF (Xy h) hq;intro p hp;rcases mC.1 hp with rfl|hp
  .cases hJp:J p.1 with
   |false=>rfl
   |true=>
    exfalso;have hnx:∃y,(pW l p.1).contains y=true/\J y=false:=by
     cases s1 with
     |nil=>simp only[cW,eA,TR,eK]at h;exact⟨q.1,h.1,hq⟩
     |cons y s1=>simp only[cW,TR,eK]at h;exact⟨y.1,h.1,ih y (by simp)⟩
    obtain⟨y,hy,hyf⟩:=hnx;have hlp:=dF _ hJp;have hop:l[p.1]? =some (l.get ⟨p.1,hlp⟩):=aE hlp;have hm:y∈pre (l.get ⟨p.1,hlp⟩):=by unfold pW at hy;rw[hop]at hy;simpa using hy
    have:=hJ _ _ hop hJp _ hm;rw[hyf]at this;cases this
  .exact ih p hp
def aHp{J:Nat->Bool}{i:Nat}{pr:List Nat}{fl:List VA}{o:List aI}(hn:(fl.map (·.at_)).Nodup)(hs:∀q∈fl,q.at_<o.length)(hi:J i=false)(hp:∀e∈pr,J e=true)(aMi:∀q∈fl,∀s1 x s2,q.st=s1++x::s2->J x.1=false->∀p∈s1,J p.1=false):Sub (KP i pr fl o) (Bv J fl o):=by
 intro k ob h hl;by_cases hk:∃q∈fl,q.at_=k
 .obtain ⟨q,hq,rfl⟩:=hk;rw[lq hn hq (hs q hq)]at h;obtain rfl:=cX h;rw[MF hn hq (hs q hq),lu hi hp _ (aMi q hq) hl]
 .have hk':∀q∈fl,q.at_≠k:=λq hq e=>hk ⟨q,hq,e⟩
  rw[YP hk']at h;rw[ME hk'];exact h
def aMj{l:List Oper}{J:Nat->Bool}(hJ:zg l J)(dF:∀i,J i=true->i<l.length){n i:Nat}{ob':aI}:∀{s1 s2:List (Nat×aI)},TR l (s1++(i,ob')::s2)=true->((s1++(i,ob')::s2).map (·.1)).Nodup->J i=false->L9 (qX J i) (hole n) (s1++(i,ob')::s2)=ob'
 |s1,s2,h,hn,hi=>by
  have hl:=TS hJ dF h hi;induction s1 with
  |nil=>simp[L9,qX]
  |cons x s1 ih=>
   simp only[cW,oE,nF]at hn;have hx:x.1≠i:=λe=>hn.1 (by simp[e])
   simp only[cW,L9];have:qX J i x.1=false:=by unfold qX;rw[eC hx];exact hl x (by simp)
   rw[this,eC (by simp)];exact ih (Xy h) hn.2 (λp hp=>hl p (by simp[hp]))
def FW(P:Program)[aG P](op:Oper)(m:List AV)(view:List aI)(pl:Nat)(val:AV)(ob':aI):Prop:=
 ∀(B:gL P) (t2:List AV) (o2:List aI),wk t2 m->Sub view o2->o2.length=view.length->Step P B op ⟨t2,o2⟩ ⟨vZ t2 op.dst val,o2.set pl ob'⟩
def Xz(P:Program)[aG P](l:List Oper)(t:List AV)(b:List aI)(fl:List VA)(j:Nat)(op:Oper)(vs:List AV): Prop :=
  (∀ e ∈ pre op, e<j) /\
  (((∀ p ∈ fl, ∀ q ∈ p.st, q.1 ≠ j) /\ qO op.op ⟨rU j (pre op) 0 l (vs.take j) t, KP j (pre op) fl b⟩ = true /\ ∃ x, (vs.getD j .aB = x \/ vs.getD j .aB = .aB) /\
      uP P l op ⟨rU j (pre op) 0 l (vs.take j) t, KP j (pre op) fl b⟩ (λs' => s' = ⟨vZ (rU j (pre op) 0 l (vs.take j) t) op.dst x, KP j (pre op) fl b⟩)) \/
   (op.guard = none /\ ∃ p ∈ fl, ∃ s1 ob' s2, p.st = s1 ++ (j, ob') :: s2 /\ FW P op (rU j (pre op) 0 l (vs.take j) t) (KP j (pre op) fl b) p.at_ (vs.getD j .aB) ob'))
def M0{P:Program}[aG P]{id:Nat}{l:List Oper}{s:AS}{Q:Exit->AS->Prop}(fl:List VA){b:List aI}(vs:List AV)(hfw:JP l=true)(hdst:distinct l=true)(hfl:aMh l fl b.length=true)
  (hb0:Bv (λ_=>false) fl b=s.o++(fl.map (·.n)).map λn=>⟨true,false,n,0,[]⟩)
  (hit:∀j op,l[j]? =some op->Xz P l s.t b fl j op vs) (hK:Q .normal ⟨kQ (λ_=>true) 0 l vs s.t,Bv (λ_=>true) fl b⟩):qA P (.region id l.toArray true) s Q:=by
 simp only[aMh,eK,fY,fW]at hfl;obtain⟨⟨hnd,hsl⟩,aYv⟩:=hfl;have hs:∀q∈fl,q.at_<b.length:=λq hq=>(hsl q hq).1.1.1
 have hsq:∀q∈fl,∀x∈q.st,x.1<l.length:=λq hq=>(hsl q hq).2
 have hst:∀q∈fl,TR l q.st=true:=λq hq=>(hsl q hq).1.1.2
 have Oz:∀q∈fl,(q.st.map (·.1)).Nodup:=λq hq=>(hsl q hq).1.2
 have aYw:∀p∈fl,∀p'∈fl,∀q∈p.st,∀q'∈p'.st,q.1=q'.1->p.at_=p'.at_:=by
  have:∀(fl:List VA),(fl.flatMap λp=>p.st.map (·.1)).Nodup->∀p∈fl,∀p'∈fl,∀q∈p.st,∀q'∈p'.st,q.1=q'.1->p.at_=p'.at_:=by
   intro fl;induction fl with
   |nil=>intro _ p hp;cases hp
   |cons x fl ih=>
    intro hn p hp p' hp' q hq q' hq' e;simp only[flatMap_cons,lE]at hn;rcases mC.1 hp with e1|hp1<;>rcases mC.1 hp' with e2|hp2
    .rw [e1,e2]
    .exfalso;rw[e1]at hq;exact hn.2.2 _ (zE.2 ⟨q,hq,rfl⟩) _ (Hc.2 ⟨p',hp2,zE.2 ⟨q',hq',rfl⟩⟩) e
    .exfalso;rw[e2]at hq';exact hn.2.2 _ (zE.2 ⟨q',hq',rfl⟩) _ (Hc.2 ⟨p,hp1,zE.2 ⟨q,hq,rfl⟩⟩) e.symm
    .exact ih hn.2.1 p hp1 p' hp2 q hq q' hq' e
  exact this fl aYv
 unfold qA;have hrest:zV l l.length=true:=by unfold zV;rw[fW];intro i hi;simp at hi;simp only[sA,fY];exact .inl (by omega)
 refine ik (ops:=l.toArray) l.length (by simp) (by simpa using hfw) (by simpa using hrest) (λJ=>⟨kQ J 0 l vs s.t,Bv J fl b⟩) ?_ ?_ ?_
 .have e1:∀(l:List Oper) (j:Nat) (vs t:List AV),kQ (λ_=>false) j l vs t=t:=by
   intro l;induction l with
   |nil=>intros;rfl
   |cons op r ih=>intro j vs t;simp only[kQ];rw[ih];unfold BR;cases op.dst<;>simp
  rw[e1,hb0];exact λ_ _ _ _ _ r=>Sa _ r
 .intro i op him hi J hJ hJm hJi hpre;have hi':l[i]? =some op:=by simpa using hi
  have hJ':zg l J:=by simpa using hJ
  have aOw:∀k,J k=true->k<l.length:=λk hk=>by
   rcases AM k l.length with h|h
   .exact h
   .rw [hJm k h]at hk;cases hk
  obtain⟨aYx,hex⟩:=hit i op hi';have Xh:wk (kQ J 0 l vs s.t) (rU i (pre op) 0 l (vs.take i) s.t):=
   Ot hJi (λe he=>⟨hpre e he,aYx e he⟩) l 0 vs (vs.take i) s.t s.t (λk q hk hJk=>hJ' k q hk (by simpa using hJk)) (λk hk=>by
    rw[mA,mA,CC];simp[show k<i by omega]) (oH _)
  have hsub:=aHp (J:=J) (i:=i) (pr:=pre op) hnd hs hJi hpre (λq hq s1 x s2 e hx=>TS hJ' aOw (by rw[<-e];exact hst q hq) hx);have aUr:∀v,vs.getD i .aB=v->kQ (qX J i) 0 l vs s.t=vZ (kQ J 0 l vs s.t) op.dst v:=λv hv=>by
   have:=Jd l 0 i op vs s.t v hdst hi' (by simpa using hJi) hv
   rwa[lR]at this
  rcases hex with⟨hnf,hq,x,hvx,hop⟩|⟨hg,p,hp,s1,ob',s2,aMk,OA⟩
  .left;obtain⟨x',new',x2,rfl',hx2,_,hfin⟩:=DL (o2:=Bv J fl b) hq Xh hop hsub (.inl (by rw[DU,Ib]));refine hfin _ ?_;have hset:new'=[]/\(vZ (rU i (pre op) 0 l (vs.take i) s.t) op.dst x'=vZ (rU i (pre op) 0 l (vs.take i) s.t) op.dst x):=by simp only[AS.mk.injEq]at rfl';refine⟨?_,rfl'.1⟩;have:=As length rfl'.2;rw[eR]at this;exact gO (by omega)
   have hto:wk (vZ (kQ J 0 l vs s.t) op.dst x2) (kQ (qX J i) 0 l vs s.t):=by
    rw[aUr _ rfl];have hL:=Oq Xh;have aBc:=hset.2;unfold vZ at aBc⊢;cases hd:op.dst with
    |none=>exact oH _
    |some d=>
     rw[hd]at aBc;dsimp only at aBc⊢;rcases AM d (kQ J 0 l vs s.t).length with hdl|hle
     .have hxx:x'=x:=by have h5:=As (λt=>t[d]?) aBc;have aUs:d<(rU i (pre op) 0 l (vs.take i) s.t).length:=hL▸hdl;rw[mN aUs,mN aUs]at h5;exact cX h5
      refine Tw d (oH _) ?_;rcases hvx with e|e
      .rw [e,<-hxx];assumption
      .exact .inr e
     .rw [Bs hle,Bs hle];exact oH _
   have zL:Bv J fl b++new'=Bv (qX J i) fl b:=by
    rw[hset.1,eE];refine KQ λp hp q hq=> ?_
    unfold qX;rw[eC (hnf p hp q hq)]
   rw[zL];exact zS hto
  .right;refine⟨hg,λB=> ?_⟩;have:=OA B _ _ Xh hsub (by rw[DU,Ib]);have e:Bv (qX J i) fl b=(Bv J fl b).set p.at_ ob':=by
    refine CA λk=> ?_
    by_cases hk:∃q∈fl,q.at_=k
    .obtain ⟨q,hq,rfl⟩:=hk;rw[MF hnd hq (hs q hq)];by_cases hqp:q.at_=p.at_
     .have aYy:q=p:=Je (·.at_) fl hnd q p hq hp hqp;subst aYy;rw[mN (by rw[DU];exact hs q hq),aMk];rw[aMj hJ' aOw (by rw[<-aMk];exact hst q hq) (by rw[<-aMk];exact Oz q hq) hJi]
     .rw [lB (λe=>hqp e.symm),MF hnd hq (hs q hq)]
      have:∀st:List (Nat×aI),(∀x∈st,x.1≠i)->L9 (qX J i) (hole q.n) st=L9 J (hole q.n) st:=by
       intro st;induction st with
       |nil=>intros;rfl
       |cons x r ih=>
        intro h;have hx:qX J i x.1=J x.1:=by unfold qX;rw[eC (h x (by simp))]
        simp only[L9];rw[hx,ih λy hy=>h y (by simp[hy])]
      rw[this q.st λx hx e=>hqp (aYw q hq p hp x hx (i,ob') (by rw[aMk];simp) e)]
    .have hk':∀q∈fl,q.at_≠k:=λq hq e=>hk ⟨q,hq,e⟩
     rw[ME hk',lB (hk' p hp),ME hk']
   rw[aUr _ rfl,e];exact this
 .intro J hJ hJm hor;left;have hsz:l.toArray.size=l.length:=by simp
  have hall:∀i,i<l.length->J i=true:=by
   intro i hi;rcases hor with h|⟨op,hop,_⟩
   .exact h i (by omega)
   .have:=(cU.1 hop).1;simp at this
  rw[hsz];have e3:(range l.length).map J=replicate l.length true:=by
   refine CA λi=> ?_
   rw[vA,getElem?_replicate];by_cases hi:i<l.length
   .simp [hi,hall i hi]
   .simp [hi]
  have e4:left (replicate l.length true)=0:=by
   unfold left;rw[filter_eq_nil_iff.2]
   .rfl
   .intro x hx;rw[(mem_replicate.1 hx).2];simp
  rw[e3,e4];simp only[Bu];have e5:kQ J 0 l vs s.t=kQ (λ_=>true) 0 l vs s.t:=DI l 0 vs s.t λk hk=>by rw[lR];exact hall k hk
  have e6:Bv J fl b=Bv (λ_=>true) fl b:=KQ λp hp q hq=>hall _ (hsq p hp q hq)
  rw[e5,e6];exact hK
def aC3{x:AV}(h:x.lC=true):x≠ .aB:=by rintro rfl;simp[AV.lC]at h
def aQx{P:Program}[aG P]{dst:Option Tmp}{ty:TypeId}{pos:String}{after:Array Edge}{gd:Option (Nat×Bool)}{m:List AV}{view:List aI}{pl:Nat}{T:TypeId}{len:Nat}{parts:Array (Nat×Operand)}{e:TypeId}{n by':Nat}{xs:List AV}
  (he:oO P T=some (e,n,by')) (hz:kZ P e n=true) (NY:yN parts.toList=true) (dF:len=parts.toList.length) (hbig:len*n<=16777216) (hbig2:len<=16777216)
  (hxs:(parts.toList.map (·.2)).map (AS.ev ⟨m,view⟩)=xs) (hpl:∀x∈xs,x.lC=true) (hgood:∀x∈xs,x.Bn=true/\x.cells.length=n) (hv:view[pl]? =some (hole n)):
  FW P ⟨dst,.buildSlice T len parts,ty,pos,after,gd⟩ m view pl (.obj pl 1) ⟨true,false,n,1,xs.map AV.cells⟩:=by
 intro B t2 o2 hw hs _;have e2:(parts.toList.map (·.2)).map (AS.ev ⟨t2,o2⟩)=xs:=by
  have key:∀(l:List Operand) (xs:List AV),l.map (AS.ev ⟨m,view⟩)=xs->(∀x∈xs,x.lC=true)->l.map (AS.ev ⟨t2,o2⟩)=xs:=by
   intro l;induction l with
   |nil=>intro xs h _;exact h
   |cons a l ih=>
    intro xs h hp;cases xs with
    |nil=>cases h
    |cons x xs=>simp only[oE,List.cons.injEq]at h⊢;exact⟨DC hw h.1 (aC3 (hp x (by simp))),ih xs h.2 λy hy=>hp y (by simp[hy])⟩
  exact key _ _ hxs hpl
 have ho:o2[pl]? =some ⟨true,false,n,0,[]⟩:=hs pl _ hv rfl;have:=L8 (P:=P) (B:=B) (s:=⟨t2,o2⟩) (dst:=dst) (ty:=ty) (pos:=pos) (after:=after) (gd:=gd) T len parts (i:=pl) he hz NY dF hbig hbig2 (by rw[e2];exact hpl) (by rw[e2];exact hgood) ho;rw[e2,put_eq]at this;exact this
def aC4{P:Program}[aG P]{dst:Option Tmp}{ty:TypeId}{pos:String}{after:Array Edge}{gd:Option (Nat×Bool)}{m:List AV}{view:List aI}{pl v:Nat}{x y:Operand}{tS xT:TypeId}{e:TypeId}{n by':Nat}{ob:aI}{l2:List (List AV)}
  (he:oO P tS=some (e,n,by')) (hz:kZ P e n=true) (hxt:tO P xT=true) (hx:AS.ev ⟨m,view⟩ x= .obj pl v) (hv:view[pl]? =some ob) (wF:ob.fT=true/\ob.bY=v/\ob.box=false/\ob.n=n)
  (hy:AS.ev ⟨m,view⟩ y= .sl .view n l2) (hbytes:(ob.fM.length+l2.length)*by'<=140737488355328) (h63:ob.fM.length+l2.length<=9223372036854775807):
  FW P ⟨dst,.call {callee:= .builtin .append,args:=#[x,y],argTypes:=#[tS,xT]},ty,pos,after,gd⟩ m view pl (.obj pl (v+1)) {ob with bY:=v+1,fM:=ob.fM++l2}:=by
 intro B t2 o2 hw hs _;have ho:o2[pl]? =some ob:=hs pl _ hv wF.1;have hx2:AS.ev ⟨t2,o2⟩ x= .obj pl v:=DC hw hx (by simp);have hy2:AS.ev ⟨t2,o2⟩ y= .sl .view n l2:=DC hw hy (by simp);have BG:AV.gB o2 pl v=some ob:=by simp[AV.gB,ho,wF.1,wF.2.1]
 have:=step_append (P:=P) (B:=B) (s:=⟨t2,o2⟩) (dst:=dst) (ty:=ty) (pos:=pos) (after:=after) (gd:=gd) tS xT x y (i:=pl) (ob:=ob) (s1:=⟨t2,o2⟩) (l2:=l2) (o2:=o2) he hz hxt
  (by rw[hx2];simp only[AS.target,BG,wF.2.2.1,wF.2.2.2,Hn,eS]) (by rw[hy2];simp only[AS.source,eS]) hbytes h63
 simp only[AS.zR,put_eq,wF.2.1]at this;exact this
def MG{P:Program}[aG P]{dst:Option Tmp}{ty:TypeId}{pos:String}{after:Array Edge}{gd:Option (Nat×Bool)}{m:List AV}{view:List aI}{pl:Nat}{T:TypeId}{len:Nat}{parts:Array (Nat×Operand)}{e:TypeId}{n by':Nat}{xs:List AV}{fM:List (List AV)}
  (he:oO P T=some (e,n,by')) (hz:kZ P e n=true) (NY:yN parts.toList=true) (dF:len=parts.toList.length) (hbig:len*n<=16777216) (hbig2:len<=16777216)
  (hxs:(parts.toList.map (·.2)).map (AS.ev ⟨m,view⟩)=xs) (hpl:∀x∈xs,x.lC=true) (hgood:∀x∈xs,x.Bn=true/\x.cells.length=n) (hv:view[pl]? =some (hole n)) (hels:xs.map AV.cells=fM):
  FW P ⟨dst,.buildSlice T len parts,ty,pos,after,gd⟩ m view pl (.obj pl 1) ⟨true,false,n,1,fM⟩:=by
 subst hels;exact aQx he hz NY dF hbig hbig2 hxs hpl hgood hv
def KR{P:Program}[aG P]{dst:Option Tmp}{ty:TypeId}{pos:String}{after:Array Edge}{gd:Option (Nat×Bool)}{m:List AV}{view:List aI}{pl v v':Nat}{x y:Operand}{tS xT:TypeId}{e:TypeId}{n by':Nat}{fM els':List (List AV)}{l2:List (List AV)}
  (hx:AS.ev ⟨m,view⟩ x= .obj pl v) (hvv:v+1=v') (hv:view[pl]? =some ⟨true,false,n,v,fM⟩) (hy:AS.ev ⟨m,view⟩ y= .sl .view n l2) (hels:fM++l2=els')
  (he:oO P tS=some (e,n,by')) (hz:kZ P e n=true) (hxt:tO P xT=true) (hbytes:(fM.length+l2.length)*by'<=140737488355328) (h63:fM.length+l2.length<=9223372036854775807):
  FW P ⟨dst,.call {callee:= .builtin .append,args:=#[x,y],argTypes:=#[tS,xT]},ty,pos,after,gd⟩ m view pl (.obj pl v') ⟨true,false,n,v',els'⟩:=by
 subst hels;subst hvv;exact aC4 he hz hxt hx hv ⟨rfl,rfl,rfl,rfl⟩ hy hbytes h63
def M3(P:Program)[aG P](l:List Oper)(t:List AV)(b:List aI)(fl:List VA)(K:AS->Prop):Nat->List Oper->List AV->Prop
 |_,[],vs=>K ⟨kQ (λ_=>true) 0 l vs t,Bv (λ_=>true) fl b⟩
 |j,op::r,vs=>∃x,Xz P l t b fl j op (vs++[x])/\M3 P l t b fl K (j+1) r (vs++[x])
def ma{P:Program}[aG P]{l:List Oper}{t:List AV}{b:List aI}{fl:List VA}{j:Nat}{op:Oper}{vs vs':List AV}(h:Xz P l t b fl j op vs)(h1:vs.take j=vs'.take j)(h2:vs.getD j .aB=vs'.getD j .aB):Xz P l t b fl j op vs':=by unfold Xz at h⊢;rw[h1,h2]at h;exact h
def aBd{P:Program}[aG P]{l:List Oper}{t:List AV}{b:List aI}{fl:List VA}{K:AS->Prop}:∀(r:List Oper) (j:Nat) (vs:List AV),l.drop j=r->vs.length=j->M3 P l t b fl K j r vs->
  ∃vf,vf.take j=vs/\(∀k op,j<=k->l[k]? =some op->Xz P l t b fl k op vf)/\K ⟨kQ (λ_=>true) 0 l vf t,Bv (λ_=>true) fl b⟩
 |[],j,vs,hd,hl,h=>by refine⟨vs,eN (by omega),λk op hk hop=> ?_,h⟩;have h1:=(cU.1 hop).1;have h2:=As length hd;simp at h2;omega
 |op::r,j,vs,hd,hl,h=>by
  simp only[M3]at h;obtain⟨x,hi,h⟩:=h;have hd':l.drop (j+1)=r:=by rw[<-Bk,hd];rfl
  have hop:l[j]? =some op:=by have:=As (·[0]?) hd;simpa using this
  obtain⟨vf,h1,h2,h3⟩:=aBd r (j+1) (vs++[x]) hd' (by simp[hl]) h;refine⟨vf,?_,λk op' hk hop'=> ?_,h3⟩
  .have:=As (List.take j) h1;rw[take_take]at this;rw[Fo (by omega)]at this;rw[this,tM (by omega),eN (by omega)]
  .rcases AM j k with hlt|hge
   .exact h2 k op' hlt hop'
   .obtain rfl:j=k:=by omega
    rw[hop]at hop';obtain rfl:=cX hop';refine ma hi ?_ ?_
    .have:=As (List.take j) h1;rw[take_take,Fo (by omega)]at this;rw[this]
    .have:=As (·[j]?) h1;simp only[CC]at this;rw[eM (by omega)]at this;rw[mA,mA,this]
@[irreducible] def TT{α:Type}(x:α):α:=x
def vO{α:Type}(x:α):TT x=x:=by unfold TT;rfl
def yH(f:Nat->Bool):Code->Code
 | .region id ops true=>if f id then .region id (TT ops) true else .region id ops true
 | .region id ops false=>if f id then TT (.region id ops false)else .region id ops false
 | .seq x y=> .seq (yH f x) (yH f y)
 | .cond c x y=> .cond c (yH f x) (yH f y)
 | .block id c=> .block id (yH f c)
 | .loop c=> .loop (yH f c)
 |c=>c
def yI(f:Nat->Bool):∀c:Code,yH f c=c
 | .region id ops true=>by simp only[yH];split<;>simp[vO]
 | .region id ops false=>by simp only[yH];split<;>simp[vO]
 | .seq x y=>by simp[yH,yI f x,yI f y]
 | .cond c x y=>by simp[yH,yI f x,yI f y]
 | .block id c=>by simp[yH,yI f c]
 | .loop c=>by simp[yH,yI f c]
 | .skip=>rfl
 | .exit _=>rfl
 | .ret=>rfl
 | .rangeFunc _ _ _ _=>rfl
 | .scope _=>rfl
 | .label _=>rfl
 | .goto _=>rfl
 | .refuse _=>rfl
def xA{P:Program}[aG P](hm:P.follows .mixedOrders=true){f:FuncId}{fn:Func}{c c':Code}(L:List Nat)(hf:P.funcs[f]? =some fn){n:Nat}(hn:fn.ntmps=n){args t:List AV}{rr:AV}
  (h:qA P c' ⟨t,[]⟩ (λe s=>(e= .normal\/e= .ret)/\bB P fn s rr)) (hb:fn.body=some c:=by rfl)
  (hc:yH (λi=>L.contains i) c=c':=by simp[yH];rfl)
  (ht:args++replicate (n-args.length) .aB=t:=by
   simp only[eL,fL,Nat.reduceSub,Nat.reduceAdd,oX,tG,cW,eA];rfl):Ok P f args rr:=by
 subst ht;subst hn;subst hc;rw[yI]at h;exact WR hm hf hb h
def go_weak{P:Program}[aG P]{id:Nat}{l:List Oper}{s s2:AS}{Q:Exit->AS->Prop}(hw:mZ s s2)(h:qA P (.region id l.toArray false) s2 Q):qA P (TT (.region id l.toArray false)) s Q:=by rw[vO];exact KE hw h
def go_drawn3{P:Program}[aG P]{id:Nat}{l:List Oper}{s:AS}{Q:Exit->AS->Prop}(fl:List VA){b:List aI}(hb:s.o++(fl.map (·.n)).map (λn=>⟨true,false,n,0,[]⟩)=b)(hfw:JP l=true)(hdst:distinct l=true)(hfl:aMh l fl b.length=true)
  (hb0:Bv (λ_=>false) fl b=b) (h:M3 P l s.t b fl (Q .normal) 0 l []):qA P (.region id (TT l.toArray) true) s Q:=by
 rw[vO];obtain⟨vf,_,h2,h3⟩:=aBd l 0 [] rfl rfl h;exact M0 fl vf hfw hdst hfl (by rw[hb0,hb]) (λj op hop=>h2 j op (Nat.zero_le _) hop) h3
section
variable{P:Program}[aG P]{l:List Oper}{t:List AV}{b:List aI}{fl:List VA}{K:AS -> Prop}{j:Nat}{op:Oper}{r:List Oper}{vs:List AV}{pr:List Nat}{m:List AV}{om:List aI}
def M4{t':List AV}{o':List aI}(h1:kQ (λ_=>true) 0 l vs t=t')(h2:Bv (λ_=>true) fl b=o')(h:K ⟨t',o'⟩):M3 P l t b fl K j [] vs:=by simp only[M3,h1,h2];exact h
def YQ{vs':List AV}{c:Prop}(hc:c)(hv:vs=vs')(hd:M3 P l t b fl K j r vs'):c/\M3 P l t b fl K j r vs:=by subst hv;exact⟨hc,hd⟩
def YR(hg:op.guard=none)(hnf:(fl.all λp=>p.st.all λq=>decide (q.1≠j))=true)(hpr:pre op=pr)(hlt:(pr.all λe=>decide (e<j))=true)(hm:rU j pr 0 l vs t=m)(ho:KP j pr fl b=om)(hq:qO op.op ⟨m,om⟩=true)(hvl:vs.length=j)(hdl:(match op.dst with|some d=>decide (d<m.length)|none=>true)=true)
  (ha:Nx 2 P op ⟨m,om⟩ λs'=>s'.o.length=om.length/\M3 P l t b fl K (j+1) r (vs++[Hy op s'])):M3 P l t b fl K j (op::r) vs:=by
 have hst:uP P l op ⟨m,om⟩ λs'=>s'.o.length=om.length/\M3 P l t b fl K (j+1) r (vs++[Hy op s']):=by
  unfold uP;simp only[hg];unfold Nx at ha;rcases ha with ha|ha
  .exact .inl ha
  .rcases ha with ha|ha
   .exact absurd ha.1 (by decide)
   .exact .inr ha.2
 obtain⟨x,new,x2,⟨dF,hK⟩,hx,_,hfin⟩:=DL (t2:=m) (o2:=om) hq (oH _) hst (λi ob h _=>h) (.inl rfl);have hnew:new=[]:=by rw[eR]at dF;exact gO (by omega)
 subst hnew;rw[eE]at hK;simp only[M3];refine⟨_,?_,hK⟩;have htk:(vs++[Hy op ⟨vZ m op.dst x,om⟩]).take j=vs:=by rw[tM (by omega),eN (by omega)]
 have hgd:(vs++[Hy op ⟨vZ m op.dst x,om⟩]).getD j .aB=Hy op ⟨vZ m op.dst x,om⟩:=by rw[mA,lO (by omega),hvl,tU];rfl
 refine⟨λe he=>by rw[hpr]at he;have:=fW.1 hlt e he;simpa using this,.inl ⟨λp hp q hq=> ?_,?_,x2,?_,?_⟩⟩
 .have:=fW.1 (fW.1 hnf p hp) q hq;simpa using this
 .rw [htk,hpr,hm,ho];exact hq
 .rw [hgd];unfold Hy vZ;cases hd:op.dst with
  |none=>exact .inr rfl
  |some d=>
   rw[hd]at hdl;have hdl:d<m.length:=by simpa using hdl
   dsimp only;rw[mA,mN hdl];exact hx
 .rw [htk,hpr,hm,ho];exact hfin _ (by rw[eE])
def wM{v:AV}{ob':aI}(p:VA)(s1 s2:List (Nat×aI))(hg:op.guard=none)(hp:p∈fl)(hst:p.st=s1++(j,ob')::s2)(hpr:pre op=pr)(hlt:(pr.all λe=>decide (e<j))=true)(hm:rU j pr 0 l vs t=m)(ho:KP j pr fl b=om)(hvl:vs.length=j)
  (ha:FW P op m om p.at_ v ob') (h:M3 P l t b fl K (j+1) r (vs++[v])):M3 P l t b fl K j (op::r) vs:=by
 simp only[M3];refine⟨v,?_,h⟩;have htk:(vs++[v]).take j=vs:=by rw[tM (by omega),eN (by omega)]
 have hgd:(vs++[v]).getD j .aB=v:=by rw[mA,lO (by omega),hvl,tU];rfl
 refine⟨λe he=>by rw[hpr]at he;have:=fW.1 hlt e he;simpa using this,.inr ⟨hg,p,hp,s1,ob',s2,hst,?_⟩⟩;rw[htk,hgd,hpr,hm,ho];exact ha
end
attribute [simp] Bv KP L9 vst hole aHo aMh TR
def qK(P:Program)(fn:Func)(s:AS)(r:AV):Prop:=
 ∃ys,s.Az P fn.results.toList=some ys/\kV s.o (bX ys)=true/\(mG (bX ys)).Nodup/\res s.o (bX ys)=r
def Eh(P:Program)(fn:Func)(s:AS)(r:AV):Prop:=
 ∃i ys,s.Cc P fn.results.toList=some (i,ys)/\kV s.o (bX ys)=true/\(mG (bX ys)).Nodup/\i∉mG (bX ys)/\res s.o (bX ys)=r
def tZ{P:Program}{fn:Func}{s:AS}{r:AV}(h:match s.Cc P fn.results.toList with|some (i,ys)=>kV s.o (bX ys)=true/\(mG (bX ys)).Nodup/\i∉mG (bX ys)/\res s.o (bX ys)=r|none=>False):Eh P fn s r:=by
 unfold Eh;split at h
 .rename_i i ys hx;exact⟨i,ys,hx,h⟩
 .exact h.elim
def T9{P:Program}[aG P](hm:P.follows .mixedOrders=true){f:FuncId}{fn:Func}{c:Code}(hf:P.funcs[f]? =some fn)(hb:fn.body=some c){args:List AV}{rr:AV}(Dj:Kw args=true)
  (h:qA P c ⟨args++replicate (fn.ntmps-args.length) .aB,[]⟩ (λe s=>(e= .normal\/e= .ret)/\(qK P fn s rr\/Eh P fn s rr))):Ok P f args rr:=by
 intro w vs hg hargs;have hl:=iY hargs;have r0:fZ ⟨w,λ_=>False,λ_=>False,λ_=>none,λ_=>none,hg,λ_ h=>h.elim,λ_ h=>h.elim⟩ ⟨args++replicate (fn.ntmps-args.length) .aB,[]⟩ [] {tmps:=vs.toArray++Array.replicate (fn.ntmps-vs.toArray.size) Go.undef,defers:=[]} w:=by
  refine⟨rfl,rfl,λi ob g hl=>by simp[look]at hl,λi j oi oj gi gj b hl=>by simp[look]at hl,λi ob g b hl=>by simp[look]at hl,?_,eJ _,λ_ _ _=>rfl,λb hb=>hb.elim,nZ.rfl⟩;have h1:Rc w (env ⟨w,λ_=>False,λ_=>False,λ_=>none,λ_=>none,hg,λ_ h=>h.elim,λ_ h=>h.elim⟩ [] [] w) args vs []:=Ky _ _ _ Dj hargs;have h2:∀n,Rc w (env ⟨w,λ_=>False,λ_=>False,λ_=>none,λ_=>none,hg,λ_ h=>h.elim,λ_ h=>h.elim⟩ [] [] w) (replicate n .aB) (replicate n Go.undef) []:=by
   intro n;induction n with
   |zero=>simp[Rc]
   |succ n ih=>simp only[oX,Rc];exact⟨[],[],by simp[R],ih,rfl⟩
  have:=mJ h1 (h2 (fn.ntmps-args.length));simpa [hl]using this
 refine Ge hf hb (Hj (rG hm c _ _ h _ _ ⟨_,r0⟩) λe a w' he=> ?_);obtain⟨s,⟨he,KO⟩,G,r⟩:=he;have key:∃(v:Value) (fp:List Nat),(results fn a.tmps).run P w'= .ok v w'/\R w' (env ⟨w,λ_=>False,λ_=>False,λ_=>none,λ_=>none,hg,λ_ h=>h.elim,λ_ h=>h.elim⟩ s.o G w').plain rr v fp/\fp.Nodup/\∀b∈fp,∃j ob g,look s.o G j ob g/\ob.fT=true/\g.F b:=by
  rcases KO with⟨ys,Md,rP,hu,lI⟩|⟨i,ys,Md,rP,hu,hi,lI⟩
  .obtain ⟨v,hrun,hR⟩:=wU r Md;obtain⟨fp,h1,h2,h3⟩:=GU r _ v rP hu hR;rw[lI]at h1;exact⟨v,fp,hrun,h1,h2,λb hb=>by obtain⟨i,ob,g,_,h⟩:=h3 b hb;exact⟨i,ob,g,h⟩⟩
  .obtain ⟨v,Vx,ob,g,hlk,aY,hrun,hR,hnd,hF⟩:=Ce r Md;obtain⟨fp,h1,h2,h3⟩:=SH r hlk aY _ v Vx rP hu hi hnd hF hR;rw[lI]at h1;refine⟨v,fp,hrun,h1,h2,λb hb=> ?_⟩;rcases h3 b hb with h|⟨j,ob',g',_,h⟩
   .exact ⟨i,ob,g,hlk,aY,hF b h⟩
   .exact ⟨j,ob',g',h⟩
 obtain⟨v,fp,hrun,h1,h2,h3⟩:=key;have hfin:∃v' fp,Ending.returned v= .returned v'/\R w' (CB w.heap.size w' fp) rr v' fp/\fp.Nodup/\(∀b∈fp,w.heap.size<=b/\b<w'.heap.size)/\w.heap.size<=w'.heap.size/\(∀b,b<w.heap.size->w'.heap[b]? =w.heap[b]?)/\nZ w w':=by
  refine⟨v,fp,rfl,?_,h2,λb hb=> ?_,r.size,λb hb=>r.frame b hb (λh=>h),r.same⟩
  .have k:fG w' (env ⟨w,λ_=>False,λ_=>False,λ_=>none,λ_=>none,hg,λ_ h=>h.elim,λ_ h=>h.elim⟩ s.o G w').plain w' (CB w.heap.size w' fp):=
    ⟨λb hb=>⟨⟨(hb.1.resolve_left (λh=>h)).1,(hb.1.resolve_left (λh=>h)).2,λhm=>by
     obtain⟨j,ob,g,hl,aY,hF⟩:=h3 b hm;exact hb.2 j ob g hl aY hF⟩,rfl⟩,λ_ _=>trivial,λ_ _ _ h=>h.elim,λ_ _ _ h=>h.elim,λ_ _ _ _ _ h=>h.elim⟩
   exact oV k _ _ _ (λ_ _=>rfl) h1
  .obtain ⟨i,ob,g,hl,aY,hF⟩:=h3 b hb;have:=r.eB _ _ _ b hl aY hF;exact⟨this.1.resolve_left (λh=>h),this.2⟩
 rcases he with rfl|rfl
 .exact ⟨r.defs,v,hrun,hfin⟩
 .exact ⟨r.defs,v,hrun,hfin⟩
def Wl{P:Program}[aG P](hm:P.follows .mixedOrders=true){f:FuncId}{fn:Func}{c:Code}(hf:P.funcs[f]? =some fn){n:Nat}(hn:fn.ntmps=n){args t:List AV}{rr:AV}
  (h:qA P c ⟨t,[]⟩ (λe s=>(e= .normal\/e= .ret)/\(qK P fn s rr\/Eh P fn s rr))) (hb:fn.body=some c:=by rfl) (Dj:Kw args=true:=by simp[Kw,wT])
  (ht:args++replicate (n-args.length) .aB=t:=by
   simp only[eL,fL,Nat.reduceSub,Nat.reduceAdd,oX,tG,cW,eA];rfl):Ok P f args rr:=by
 subst ht;subst hn;exact T9 hm hf hb Dj h
def Ok.vw{P:Program}[aG P]{f:FuncId}{args:List AV}{r:AV}(h:Ok P f args r):Ok P f args (rt (λ_=>some .view) false r):=by
 intro w vs hg hr;refine Calls.mono (h w vs hg hr) λe w' he=> ?_
 obtain⟨v,fp,rfl,h1,h2,h3,h4,h5,h6⟩:=he;have k:pG (λ_=>some .view) false (CB w.heap.size w' fp) (CB w.heap.size w' []) (· ∈fp):=
  {own:=λg e=>by obtain rfl:=cX e;exact⟨by simp,λb hb=>⟨(h3 b hb).1,(h3 b hb).2,by simp⟩⟩
   view:=λg e=>by obtain rfl:=cX e;exact⟨rfl,λb hb=>⟨hb.1,hb.2.1,by simp⟩⟩
   mQ:=λi g e=>by obtain rfl:=cX e;exact⟨by simp,.inl trivial,λb hb=>hb.elim⟩
   hh:=λh=>by cases h
   hl:=λh=>by cases h}
 exact⟨v,[],rfl,aKr k r v fp (λ_ h=>h) h1,by simp,by simp,h4,h5,h6⟩
def Ok.Dk{P:Program}[aG P]{f:FuncId}{args:List AV}{r r':AV}(h:Ok P f args r)(e:rt (λ_=>some .view) false r=r'):Ok P f args r':=e▸h.vw
def swp(i j k:Nat):Nat:=if k=i then j else if k=j then i else k
def MH(i j k:Nat):swp i j (swp i j k)=k:=by unfold swp;split<;>split<;>(try split)<;>omega
def ET(i j k:Nat):Prop:=k=i\/k=j
instance (i j k:Nat) : Decidable (ET i j k) := by unfold ET; infer_instance
def YS{i j k:Nat}(h:¬ET i j k):swp i j k=k:=by unfold ET at h;unfold swp;rw[eC (λe=>h (.inl e)),eC (λe=>h (.inr e))]
def gsw(i j:Nat):Tg->Tg
 | .mQ k=> .mQ (swp i j k)
 |g=>g
mutual
def oM(i j:Nat):AV->AV
 | .obj k v=>if ET i j k then(if v=0 then .aB else .obj (swp i j k) v)else .obj k v
 | .ptr k v idx off=>if ET i j k then .aB else .ptr k v idx off
 | .sl g n l=> .sl (gsw i j g) n (uT i j l)
 | .iW g c off=> .iW (gsw i j g) (uG i j c) off
 | .agg c=> .agg (uG i j c)
 | .iL c=> .iL (uG i j c)
 | .fn f c=> .fn f (uG i j c)
 | .int k n=> .int k n
 | .bool b=> .bool b
 | .str s=> .str s
 | .aB=> .aB
def uG(i j:Nat):List AV->List AV
 |[]=>[]
 |x::xs=>oM i j x::uG i j xs
def uT(i j:Nat):List (List AV)->List (List AV)
 |[]=>[]
 |x::xs=>uG i j x::uT i j xs
end
def Bw(i j:Nat):∀l,(uT i j l).length=l.length
 |[]=>rfl
 |_::l=>by simp[uT,Bw i j l]
structure Ren(i j:Nat)(E E':Env): Prop where
  a:∀ b, E.A b -> E'.A b
  v:∀ k, E'.V (swp i j k) -> E.V k
  d:∀ k b, E.D k b -> E'.D (swp i j k) b
  h:∀ k bY x, (ET i j k -> bY ≠ 0) -> E.H k bY x -> E'.H (swp i j k) bY x
  l:∀ k bY idx off x, ¬ ET i j k -> E.L k bY idx off x -> E'.L k bY idx off x
def Ren.plain{i j:Nat}{E E':Env}(k:Ren i j E E'):Ren i j E.plain E'.plain:=
 ⟨k.a,λ_ _=>trivial,λ_ _ h=>h.elim,λ_ _ _ _ h=>h.elim,λ_ _ _ _ _ _ h=>h.elim⟩
def Ren.sub{i j:Nat}{E E':Env}(k:Ren i j E E')(g:Tg):Ren i j (E.sub g) (E'.sub (gsw i j g)):=by
 cases g with
 |own=>exact k.plain
 |view=>exact k.plain
 |mQ q=>exact⟨k.a,λ_ _=>trivial,λr b h=>⟨by rw[h.1],k.d _ _ h.2⟩,λ_ _ _ _ h=>h.elim,λ_ _ _ _ _ _ h=>h.elim⟩
def Ren.dead{i j:Nat}{E E':Env}(k:Ren i j E E'){g:Tg}(h:E.dead g):E'.dead (gsw i j g):=by
 cases g with
 |own=>exact h
 |view=>exact h
 |mQ q=>exact λhv=>h (k.v q hv)
def Ren.tg{i j:Nat}{E E':Env}(k:Ren i j E E'){g:Tg}{b:Nat}(h:E.tg g b):E'.tg (gsw i j g) b:=by
 cases g with
 |own=>exact h
 |view=>exact k.a b h
 |mQ q=>exact k.d q b h
def YT{i j:Nat}{g:Tg}:gsw i j g= .own↔g= .own:=by cases g<;>simp[gsw]
mutual
theorem aUu{w:World}{i j:Nat}{E E':Env}(k:Ren i j E E'):∀(x:AV) (v:Value) (fp:List Nat),R w E x v fp->R w E' (oM i j x) v fp
 | .obj q u,v,fp,h=>by
  simp only[oM];simp only[R]at h;by_cases hm:ET i j q
  .rw [eM hm];by_cases hu:u=0
   .rw [eM hu];simp only[R];exact h.1
   .rw [eC hu];simp only[R];exact⟨h.1,k.h _ _ _ (λ_=>hu) h.2⟩
  .rw [eC hm];simp only[R];have:=k.h q u v (λhm'=>absurd hm' hm) h.2;rw[YS hm]at this;exact⟨h.1,this⟩
 | .ptr q u idx off,v,fp,h=>by
  simp only[oM];simp only[R]at h;by_cases hm:ET i j q
  .rw [eM hm];simp only[R];exact h.1
  .rw [eC hm];simp only[R];exact⟨h.1,k.l _ _ _ _ _ hm h.2⟩
 | .sl g n l,v,fp,h=>by
  simp only[oM,R,Bw]at h⊢;rcases h with h|⟨a,cap,hv,hl,h⟩
  .exact .inl ⟨k.dead h.1,h.2⟩
  refine .inr ⟨a,cap,hv,hl,?_⟩;rcases h with⟨hg,hl0,h1,h2⟩|⟨hg,b,off,C,e,fz,sH,ha,hb,hz,h1,h2,h3,Jq,hr⟩|⟨hg,Jq,h⟩
  .exact .inl ⟨YT.2 hg,by rw[hl0];rfl,h1,h2⟩
  .exact .inr (.inl ⟨YT.2 hg,b,off,C,e,fz,sH,ha,hb,hz,h1,h2,h3,Jq,YU (k.sub g) _ _ _ _ _ hr⟩)
  .refine .inr (.inr ⟨λe=>hg (YT.1 e),Jq,?_⟩)
   rcases h with rfl|⟨b,off,ha,ht,hr⟩
   .exact .inl rfl
   .exact .inr ⟨b,off,ha,k.tg ht,YU (k.sub g) _ _ _ _ _ hr⟩
 | .iW g c off,v,fp,h=>by
  simp only[oM,R]at h⊢;rcases h with h|⟨Jq,b,o,cs,hv,ht,hcs,hc,hr⟩
  .exact .inl ⟨k.dead h.1,h.2⟩
  .exact .inr ⟨Jq,b,o,cs,hv,k.tg ht,hcs,hc,KS (k.sub g) _ _ _ hr⟩
 | .agg c,v,fp,h=>by simp only[oM,R]at h⊢;obtain⟨cs,h1,h2,h3⟩:=h;exact⟨cs,h1,h2,KS k c cs fp h3⟩
 | .iL c,v,fp,h=>by simp only[oM,R]at h⊢;obtain⟨cs,h1,h3⟩:=h;exact⟨cs,h1,KS k c cs fp h3⟩
 | .fn f c,v,fp,h=>by simp only[oM,R]at h⊢;obtain⟨h0,cs,h1,h3⟩:=h;exact⟨h0,cs,h1,KS k c cs [] h3⟩
 | .int _ _,v,fp,h=>by simpa [oM,R]using h
 | .bool _,v,fp,h=>by simpa [oM,R]using h
 | .str _,v,fp,h=>by simpa [oM,R]using h
 | .aB,v,fp,h=>by simpa [oM,R]using h
theorem KS{w:World}{i j:Nat}{E E':Env}(k:Ren i j E E'):∀(c:List AV) (cs:List Value) (fp:List Nat),Rc w E c cs fp->Rc w E' (uG i j c) cs fp
 |[],[],_,h=>by simpa [Rc,uG]using h
 |[],_::_,_,h=>by simp[Rc]at h
 |_::_,[],_,h=>by simp[Rc]at h
 |x::xs,c::cs,fp,h=>by simp only[Rc,uG]at h⊢;obtain⟨f1,f2,h1,h2,h3⟩:=h;exact⟨f1,f2,aUu k x c f1 h1,KS k xs cs f2 h2,h3⟩
theorem YU{w:World}{i j:Nat}{E E':Env}(k:Ren i j E E'):∀(l:List (List AV)) (b off n:Nat) (fp:List Nat),Rr w E l b off n fp->Rr w E' (uT i j l) b off n fp
 |[],_,_,_,_,h=>by simpa [Rr,uT]using h
 |e::es,b,off,n,fp,h=>by simp only[Rr,uT]at h⊢;obtain⟨cs,f1,f2,h1,h2,h3,h4,h5,h6⟩:=h;exact⟨cs,f1,f2,h1,h2,h3,KS k e cs f1 h4,YU k es b (off+n) n f2 h5,h6⟩
end
def aI.oM(i j:Nat)(ob:aI):aI:=if ob.box=true then {ob with fM:=uT i j ob.fM}else ob
def swo(i j:Nat)(o:List aI):List aI:=(range o.length).map λk=>((o[swp i j k]?).getD ⟨false,false,0,0,[]⟩).oM i j
def uH.ren{w:World}{i j:Nat}{E E':Env}{n:Nat}{l:List (List AV)}{a:Option Addr}{cap:Nat}{fp:List Nat}(k:Ren i j E E')(h:uH w E n l a cap fp):uH w E' n (uT i j l) a cap fp:=by
 refine⟨by rw[Bw];exact h.1,?_⟩;rcases h.2 with h|⟨b,off,C,e,fz,sH,ha,hb,hz,h1,h2,h3,Jq,hr⟩
 .exact .inl ⟨by rw[h.1];rfl,h.2⟩
 .exact .inr ⟨b,off,C,e,fz,sH,ha,hb,hz,h1,by rw[Bw];exact h2,h3,Jq,YU k _ _ _ _ _ hr⟩
def aC5{t t':List AV}{o o':List aI}(i j:Nat)(hi:i<o.length)(hj:j<o.length)(hbi:∀ob,o[i]? =some ob->ob.box=false)(hbj:∀ob,o[j]? =some ob->ob.box=false)(ho:swo i j o=o')(hw:wk (uG i j t) t'):mZ ⟨t,o⟩ ⟨t',o'⟩:=by
 subst ho;rintro P _ B a w ⟨G,r⟩;have dF:=r.len;generalize hG':(range G.length).map (λk=>(G[swp i j k]?).getD ⟨none,0,λ_=>False⟩)=G';have slt:∀k,k<o.length->swp i j k<o.length:=by intro k hk;unfold swp;split<;>(try split)<;>omega
 have fz:∀ob:aI,(ob.oM i j).fT=ob.fT/\(ob.oM i j).box=ob.box/\(ob.oM i j).n=ob.n/\(ob.oM i j).bY=ob.bY/\(ob.oM i j).fM.length=ob.fM.length:=by intro ob;unfold aI.oM;split<;>simp[Bw]
 have og:∀k,(swo i j o)[k]? =(o[swp i j k]?).map (aI.oM i j):=by
  intro k;unfold swo;rw[vA];by_cases hk:k<o.length
  .rw [getElem?_range hk];simp only[oR,aE (slt k hk),sB]
  .have h1:(range o.length)[k]? =none:=by rw[tD];simp;omega
   have h2:swp i j k=k:=by unfold swp;rw[eC (by omega),eC (by omega)]
   rw[h1,h2,pT (by omega)];rfl
 have gg:∀k,G'[k]? =G[swp i j k]?:=by
  intro k;rw[<-hG',vA];by_cases hk:k<G.length
  .rw [getElem?_range hk];have h3:swp i j k<G.length:=by rw[dF];exact slt k (by rw[<-dF];exact hk)
   simp only[oR,aE h3,sB]
  .have h1:(range G.length)[k]? =none:=by rw[tD];simp;omega
   have h2:swp i j k=k:=by have:o.length=G.length:=dF.symm;unfold swp;rw[eC (by omega),eC (by omega)]
   rw[h1,h2,pT (by omega)];rfl
 have back:∀{k ob g},look (swo i j o) G' k ob g->∃Aq,look o G (swp i j k) Aq g/\ob=Aq.oM i j:=by
  rintro k ob g ⟨e1,e2⟩;rw[og]at e1;rw[gg]at e2;cases hx:o[swp i j k]? with
  |none=>rw[hx]at e1;cases e1
  |some Aq=>rw[hx]at e1;exact⟨Aq,⟨hx,e2⟩,(cX e1).symm⟩
 have WN:∀{k ob g},look o G k ob g->look (swo i j o) G' (swp i j k) (ob.oM i j) g:=by rintro k ob g ⟨e1,e2⟩;exact⟨by rw[og,MH,e1];rfl,by rw[gg,MH,e2]⟩
 have bCg:∀{k ob g},look o G k ob g->ob.box=true->¬ET i j k:=by
  rintro k ob g ⟨e1,_⟩ hb (rfl|rfl)
  .rw [hbi ob e1]at hb;cases hb
  .rw [hbj ob e1]at hb;cases hb
 have rn:Ren i j (env B o G w) (env B (swo i j o) G' w):=by
  refine⟨λb h=>⟨h.1,λk ob g hl Kv hF=> ?_⟩,λk h ob wF=> ?_,λk b h=> ?_,λk bY x hm h=> ?_,λk bY idx off x hm h=> ?_⟩
  .obtain ⟨Aq,hl0,rfl⟩:=back hl;exact h.2 _ _ _ hl0 (by rw[<-(fz Aq).1];exact Kv) hF
  .have h1:=h (ob.oM i j) (by rw[og,MH,wF];rfl);rw[(fz ob).1]at h1;exact h1
  .obtain ⟨ob,g,hl,Kv,hF,jE⟩:=h;exact⟨_,g,WN hl,by rw[(fz ob).1];exact Kv,hF,jE⟩
  .obtain ⟨ob,g,hl,Ap,h5,hz⟩:=h;refine⟨_,g,WN hl,by rw[(fz ob).2.2.2.1];exact Ap,λKv Yg=> ?_,λhv0 y hy=> ?_⟩
   .rw [(fz ob).2.2.2.2];exact h5 (by rw[<-(fz ob).1];exact Kv) (by rw[<-(fz ob).2.2.2.1];exact Yg)
   .by_cases hmv:ET i j k
    .exact absurd hv0 (hm hmv)
    .rw [YS hmv]at hy;exact hz hv0 y hy
  .obtain ⟨ob,g,hl,Ap,h5,hz⟩:=h;have hf:=WN hl;rw[YS hm]at hf;refine⟨_,g,hf,by rw[(fz ob).2.2.2.1];exact Ap,λKv Yg=> ?_,λhb hv e1 e2 y hy=> ?_⟩
   .rw [(fz ob).2.2.1];exact h5 (by rw[<-(fz ob).1];exact Kv) (by rw[<-(fz ob).2.2.2.1];exact Yg)
   .have:=hz (by rw[<-(fz ob).2.1];exact hb) hv e1 e2 y hy;exact⟨this.1,λKv Yg=>this.2 (by rw[<-(fz ob).1];exact Kv) (by rw[<-(fz ob).2.2.2.1];exact Yg)⟩
 refine⟨G',{len:= ?_,defs:=r.defs,ok:= ?_,fV:= ?_,eB:= ?_,tmps:=JJ hw (KS rn _ _ _ r.tmps),size:=r.size,frame:=r.frame,base:=r.base,same:=r.same}⟩
 .rw [<-hG'];simp[swo,dF]
 .intro k ob g hl Kv;obtain⟨Aq,hl0,rfl⟩:=back hl;obtain⟨fp,eQ,hnd,hF⟩:=r.ok _ _ g hl0 (by rw[<-(fz Aq).1];exact Kv);refine⟨fp,?_,hnd,hF⟩;cases hb0:Aq.box with
  |false=>
   have e:Aq.oM i j=Aq:=by unfold aI.oM;rw[eC (by simp[hb0])]
   rw[e];rw[hb0]at eQ⊢;exact eQ.keeps (w:=w) (w':=w) ⟨λb hb=>⟨rn.a b hb,rfl⟩,λ_ _=>trivial,λ_ _ _ h=>h.elim,λ_ _ _ h=>h.elim,λ_ _ _ _ _ h=>h.elim⟩ (λ_ _=>rfl)
  |true=>
   have e:Aq.oM i j={Aq with fM:=uT i j Aq.fM}:=by unfold aI.oM;rw[eM hb0]
   rw[e];simp only[hb0]at eQ⊢;simp only[Env.of,eS]at eQ⊢;exact eQ.ren rn
 .intro p q op oq gp gq b hp hq hlp hlq hFp hFq;obtain⟨op0,ze,rfl⟩:=back hp;obtain⟨oq0,hq0,rfl⟩:=back hq;have:=r.fV _ _ _ _ _ _ b ze hq0 (by rw[<-(fz op0).1];exact hlp) (by rw[<-(fz oq0).1];exact hlq) hFp hFq;have h2:=As (swp i j) this
  rwa[MH,MH]at h2
 .intro k ob g b hl Kv hF;obtain⟨Aq,hl0,rfl⟩:=back hl;exact r.eB _ _ g b hl0 (by rw[<-(fz Aq).1];exact Kv) hF
def aMl{i j:Nat}{o:List aI}{oi oj:aI}(hi:o[i]? =some oi)(hj:o[j]? =some oj):swo i j o=((o.set i oj).set j oi).map (aI.oM i j):=by
 have hil:=(cU.1 hi).1;have hjl:=(cU.1 hj).1;refine CA λk=> ?_
 unfold swo;rw[vA,vA];by_cases hk:k<o.length
 .rw [getElem?_range hk];simp only[oR];by_cases hkj:k=j
  .subst hkj;rw[mN (by simpa using hk)];have:swp i k k=i:=by unfold swp;split<;>simp_all
   rw[this,hi];rfl
  .rw [lB (λe=>hkj e.symm)]
   by_cases hki:k=i
   .subst hki;rw[mN hk];have:swp k j k=j:=by unfold swp;simp
    rw[this,hj];rfl
   .rw [lB (λe=>hki e.symm)]
    have:swp i j k=k:=by unfold swp;rw[eC hki,eC hkj]
    rw[this,aE hk];rfl
 .have h1:(range o.length)[k]? =none:=by rw[tD];simp;omega
  have h2:((o.set i oj).set j oi)[k]? =none:=by rw[tD];simp;omega
  rw[h1,h2];rfl
def bI{t t':List AV}{o o':List aI}(i j:Nat){oi oj:aI}(hi:o[i]? =some oi)(hj:o[j]? =some oj)(hb:oi.box=false/\oj.box=false)(ho:((o.set i oj).set j oi).map (aI.oM i j)=o')(hw:wk (uG i j t) t'):mZ ⟨t,o⟩ ⟨t',o'⟩:=
 aC5 i j (cU.1 hi).1 (cU.1 hj).1 (λob h=>by rw[hi]at h;obtain rfl:=cX h;exact hb.1) (λob h=>by rw[hj]at h;obtain rfl:=cX h;exact hb.2) (by rw[aMl hi hj];exact ho) hw
@[simp] def aWr(i j:Nat)(l:Bool)(n v:Nat)(fM:List (List AV)):aI.oM i j ⟨l,false,n,v,fM⟩=⟨l,false,n,v,fM⟩:=rfl
@[simp] def aWs(i j:Nat)(l:Bool)(n v:Nat)(fM:List (List AV)):aI.oM i j ⟨l,true,n,v,fM⟩=⟨l,true,n,v,uT i j fM⟩:=rfl
attribute [simp] oM uG uT gsw swp ET
def Ml:Nat->List GA->List AV
 |_,[]=>[]
 |k,.view x::gs=>x::Ml k gs
 |k,.rF x::gs=>(iA 1 k x).1::Ml (k+(iA 1 k x).2.length) gs
 |k,.vX c _::gs=> .ptr k 2 0 0::Ml (k+(1+(iE 1 (k+1) c).2.length)) gs
def Ht:Nat->List GA->List aI
 |_,[]=>[]
 |k,.view _::gs=>Ht k gs
 |k,.rF x::gs=>(iA 1 k x).2++Ht (k+(iA 1 k x).2.length) gs
 |k,.vX c _::gs=>(⟨true,true,c.length,2,[(iE 1 (k+1) c).1]⟩::(iE 1 (k+1) c).2)++Ht (k+(1+(iE 1 (k+1) c).2.length)) gs
def Fc(E:Env)(k:Nat)(os:List aI)(Gs:List CO):Prop:=
 ∀j ob g,look os Gs j ob g->E.H (k+j) ob.bY (.slice g.a ob.fM.length g.cap)/\(ob.box=true->∀b f,g.a=some ⟨b,f,none⟩->E.L (k+j) ob.bY 0 0 (.pointer (some ⟨b,f,none⟩)))
def Fc.left{E:Env}{k:Nat}{o1 o2:List aI}{G1 G2:List CO}(h:Fc E k (o1++o2) (G1++G2)):Fc E k o1 G1:=λj ob g hl=>h j ob g (nC hl)
def Fc.right{E:Env}{k:Nat}{o1 o2:List aI}{G1 G2:List CO}(dF:G1.length=o1.length)(h:Fc E k (o1++o2) (G1++G2)):Fc E (k+o1.length) o2 G2:=λj ob g hl=>by
 have:=h _ ob g (oF dF hl)
 rwa[<-pH]at this
def Ent(w:World)(E:Env)(k:Nat)(os:List aI)(fp:List Nat)(pin:List CO->Prop)(done:Env->Prop):Prop:=
 ∃Gs:List CO,Gs.length=os.length/\
  (∀j ob g,look os Gs j ob g->ob.fT=true/\(ob.box=false->ob.bY=1)/\(ob.box=true->ob.bY=2)/\∃f,f.Nodup/\(∀b,g.F b↔b∈f)/\(∀b∈f,b∈fp)/\
   ∀E',fG w E w E'->Fc E' k os Gs->uH w (E'.of ob.box) ob.n ob.fM g.a g.cap f)/\
  (∀i j oi oj gi gj b,look os Gs i oi gi->look os Gs j oj gj->gi.F b->gj.F b->i=j)/\pin Gs/\
  ∀E':Env,fG w E w E'->Fc E' k os Gs->done E'
def Ent.gz{w:World}{E:Env}{k:Nat}{os:List aI}{fp:List Nat}{done:Env->Prop}(h:nQ 1 w E k os fp done):Ent w E k os fp (λ_=>True) done:=by
 obtain⟨Gs,h1,h2,h3,h4⟩:=h;refine⟨Gs,h1,λj ob g hl=> ?_,h3,trivial,λE' hk hf=>h4 E' hk λj ob g hl=> ?_⟩
 .obtain ⟨a1,a2,a3,f,a4,a5,a6,a7⟩:=h2 j ob g hl;refine⟨a1,λ_=>a3,(λh=>by rw[a2]at h;cases h),f,a5,a6,a7,λE' hk _=> ?_⟩;rw[a2];exact a4.keeps hk.plain (λ_ _=>rfl)
 .have:=(hf j ob g hl).1;obtain⟨_,_,a3,_⟩:=h2 j ob g hl
  rwa[a3]at this
def Ent.append{w:World}{E:Env}{k:Nat}{o1 o2:List aI}{f1 f2:List Nat}{p1 p2 p:List CO->Prop}{d1 d2 d:Env->Prop}(h1:Ent w E k o1 f1 p1 d1)(h2:Ent w E (k+o1.length) o2 f2 p2 d2)(hn:(f1++f2).Nodup)
  (hp:∀G1 G2,G1.length=o1.length->p1 G1->p2 G2->p (G1++G2)) (hd:∀E',d1 E'->d2 E'->d E'):Ent w E k (o1++o2) (f1++f2) p d:=by
 obtain⟨G1,l1,a1,b1,q1,c1⟩:=h1;obtain⟨G2,l2,a2,b2,q2,c2⟩:=h2;have hdj:=(lE.1 hn).2.2;refine⟨G1++G2,by simp[l1,l2],?_,?_,hp G1 G2 l1 q1 q2,λE' hk hf=>hd E' (c1 E' hk hf.left) (c2 E' hk (hf.right l1))⟩
 .intro j ob g hl;rcases pE l1 hl with⟨_,h⟩|⟨_,h⟩
  .obtain ⟨x,y,y',f,z1,z2,z3,z4⟩:=a1 _ _ _ h;exact⟨x,y,y',f,z1,z2,λb hb=>pA _ (z3 b hb),λE' hk hf=>z4 E' hk hf.left⟩
  .obtain ⟨x,y,y',f,z1,z2,z3,z4⟩:=a2 _ _ _ h;exact⟨x,y,y',f,z1,z2,λb hb=>tW _ (z3 b hb),λE' hk hf=>z4 E' hk (hf.right l1)⟩
 .intro i j oi oj gi gj b hi hj Gl NS;rcases pE l1 hi with⟨_,h⟩|⟨hi',h⟩<;>rcases pE l1 hj with⟨_,h'⟩|⟨hj',h'⟩
  .exact b1 _ _ _ _ _ _ b h h' Gl NS
  .obtain ⟨_,_,_,f,_,z2,z3,_⟩:=a1 _ _ _ h;obtain⟨_,_,_,f',_,z2',z3',_⟩:=a2 _ _ _ h';exact absurd rfl (hdj b (z3 b ((z2 b).1 Gl)) b (z3' b ((z2' b).1 NS)))
  .obtain ⟨_,_,_,f,_,z2,z3,_⟩:=a2 _ _ _ h;obtain⟨_,_,_,f',_,z2',z3',_⟩:=a1 _ _ _ h';exact absurd rfl (hdj b (z3' b ((z2' b).1 NS)) b (z3 b ((z2 b).1 Gl)))
  .have:=b2 _ _ _ _ _ _ b h h' Gl NS;omega
def aG7{w:World}{O:Nat->Prop}{k:Nat}{c c':List AV}{v:Value}{fp:List Nat}{cap:Nat}(h:RG w O (.vX c c') v fp cap)(hn:fp.Nodup):
  Ent w (vJ w O) k (⟨true,true,c.length,2,[(iE 1 (k+1) c).1]⟩::(iE 1 (k+1) c).2) fp
   (λGs=>∃g b f,Gs[0]? =some g/\g.a=some ⟨b,f,none⟩/\v= .pointer (some ⟨b,f,none⟩)/\g.cap=cap) (λE'=>R w E' (.ptr k 2 0 0) v []):=by
 simp only[RG]at h;obtain⟨b,f,rfl,dF,eQ⟩:=h;rcases eQ with⟨h5,_⟩|⟨b',f',C,ty,fz,sH,yM,hbk,hz,k1,k2,k3,rfl,hr⟩
 .cases h5
 simp only[eI,oS,pS]at yM;obtain⟨rfl,rfl⟩:=yM;simp only[Rr]at hr;obtain⟨cs,f1,f2,IU,hc,hone,wK,rfl,e⟩:=hr;have e:sH=f1:=by simpa using e
 subst e;simp only[nF]at hn;obtain⟨Gs,a1,a2,a3,a4⟩:=EH (q:=1) c cs sH (k+1) wK hn.2;have tail:∀{j ob g},look (⟨true,true,c.length,2,[(iE 1 (k+1) c).1]⟩::(iE 1 (k+1) c).2) (⟨some ⟨b,f,none⟩,cap,λx=>x=b⟩::Gs) j ob g->
   (j=0/\ob=⟨true,true,c.length,2,[(iE 1 (k+1) c).1]⟩/\g=⟨some ⟨b,f,none⟩,cap,λx=>x=b⟩)\/∃j',j=j'+1/\look (iE 1 (k+1) c).2 Gs j' ob g:=by
  rintro j ob g ⟨h1,h2⟩;cases j with
  |zero=>simp only[sR,eI]at h1 h2;exact .inl ⟨rfl,h1.symm,h2.symm⟩
  |succ j=>exact .inr ⟨j,rfl,by simpa using h1,by simpa using h2⟩
 have inner:∀{E':Env},Fc E' k (⟨true,true,c.length,2,[(iE 1 (k+1) c).1]⟩::(iE 1 (k+1) c).2) (⟨some ⟨b,f,none⟩,cap,λx=>x=b⟩::Gs)->
   ∀j ob g,look (iE 1 (k+1) c).2 Gs j ob g->E'.H (k+1+j) 1 (.slice g.a ob.fM.length g.cap):=by
  intro E' hf j ob g hl;have:=(hf (j+1) ob g ⟨by simpa using hl.1,by simpa using hl.2⟩).1;obtain⟨_,_,h3,_⟩:=a2 j ob g hl;rw[h3]at this
  rwa[show k+1+j=k+(j+1)by omega]
 refine⟨⟨some ⟨b,f,none⟩,cap,λx=>x=b⟩::Gs,by simp[a1],?_,?_,⟨_,b,f,rfl,rfl,rfl,rfl⟩,?_⟩
 .intro j ob g hl;rcases tail hl with⟨rfl,rfl,rfl⟩|⟨j',rfl,Dw⟩
  .refine ⟨rfl,(λh=>by cases h),λ_=>rfl,[b],by simp,by simp,by simp,λE' hk hf=> ?_⟩
   refine⟨by simp[maxLen],.inr ⟨b,f,C,ty,fz,[],rfl,hbk,hz,k1,by simpa using k2,k3,rfl,?_⟩⟩;simp only[Rr];exact⟨cs,[],[],IU,hc,hone,a4 E' hk (inner hf),rfl,rfl⟩
  .obtain ⟨h1,h2,h3,f',h4,h5,h6,h7⟩:=a2 _ _ _ Dw;refine⟨h1,λ_=>h3,(λh=>by rw[h2]at h;cases h),f',h5,h6,λx hx=>Cd _ (h7 x hx),λE' hk _=> ?_⟩;rw[h2];exact h4.keeps hk.plain (λ_ _=>rfl)
 .intro i j oi oj gi gj x hi hj Gl NS;rcases tail hi with⟨rfl,rfl,rfl⟩|⟨i',rfl,hi'⟩<;>rcases tail hj with⟨rfl,rfl,rfl⟩|⟨j',rfl,hj'⟩
  .rfl
  .obtain ⟨_,_,_,f',_,_,h6,h7⟩:=a2 _ _ _ hj';have hx:x=b:=Gl;subst hx;exact absurd (h7 _ ((h6 _).1 NS)) hn.1
  .obtain ⟨_,_,_,f',_,_,h6,h7⟩:=a2 _ _ _ hi';have hx:x=b:=NS;subst hx;exact absurd (h7 _ ((h6 _).1 Gl)) hn.1
  .have:=a3 _ _ _ _ _ _ x hi' hj' Gl NS;omega
 .intro E' hk hf;simp only[R];exact⟨trivial,(hf 0 _ _ ⟨rfl,rfl⟩).2 rfl b f rfl⟩
def pinned(gat:Nat->Option CO):Nat->List GA->List Value->List Nat->Prop
 |_,[],[],[]=>True
 |k,.view _::gs,_::vs,_::lN=>pinned gat k gs vs lN
 |k,.rF x::gs,_::vs,_::lN=>pinned gat (k+(iA 1 k x).2.length) gs vs lN
 |k,.vX c _::gs,v::vs,cap::lN=>(∃g b f,gat k=some g/\g.a=some ⟨b,f,none⟩/\v= .pointer (some ⟨b,f,none⟩)/\g.cap=cap)/\pinned gat (k+(1+(iE 1 (k+1) c).2.length)) gs vs lN
 |_,_,_,_=>False
def YC{w:World}{O:Nat->Prop}:∀(gs:List GA) (vs:List Value) (wG:List (List Nat)) (lN:List Nat) (k:Nat),Fx w O gs vs wG lN->wG.flatten.Nodup->
  Ent w (vJ w O) k (Ht k gs) wG.flatten (λGs=>∀pre:List CO,pre.length=k->pinned (λi=>(pre++Gs)[i]?) k gs vs lN) (λE'=>Rc w E' (Ml k gs) vs [])
 |[],[],[],[],k,_,_=>⟨[],rfl,λj ob g hl=>by simp[look,Ht]at hl,λi j oi oj gi gj b hl=>by simp[look,Ht]at hl,λ_ _=>by simp[pinned],λE' _ _=>by simp[Ml,Rc]⟩
 | .view x::gs,v::vs,fp::wG,cap::lN,k,h,hn=>by
  simp only[Fx,RG]at h;obtain⟨⟨rfl,hx⟩,h⟩:=h;simp only[pZ,eA]at hn⊢;obtain⟨Gs,a1,a2,a3,a4,a5⟩:=YC gs vs wG lN k h hn;refine⟨Gs,a1,a2,a3,λpre hp=>by simp only[pinned];exact a4 pre hp,λE' hk hf=> ?_⟩
  .simp only[Ml,Rc];exact⟨[],[],oV hk _ _ _ (by simp) hx,a5 E' hk hf,rfl⟩
 | .rF x::gs,v::vs,fp::wG,cap::lN,k,h,hn=>by
  simp only[Fx,RG]at h;obtain⟨hx,h⟩:=h;simp only[pZ]at hn⊢;have hn':=lE.1 hn;refine(Ent.gz (CE (q:=1) x v fp k hx hn'.1)).append (YC gs vs wG lN (k+(iA 1 k x).2.length) h hn'.2.1) hn (λG1 G2 hl _ h2 pre hp=> ?_) (λE' h1 h2=> ?_)
  .simp only[pinned];have:=h2 (pre++G1) (by simp[hp,hl]);simpa using this
  .simp only[Ml,Rc];exact⟨[],[],h1,h2,rfl⟩
 | .vX c c'::gs,v::vs,fp::wG,cap::lN,k,h,hn=>by
  simp only[Fx]at h;obtain⟨hx,h⟩:=h;simp only[pZ]at hn⊢;have hn':=lE.1 hn;have h2:=YC gs vs wG lN (k+(1+(iE 1 (k+1) c).2.length)) h hn'.2.1;simp only[Ht];refine(aG7 hx hn'.1).append (by
   rw[show k+(({fT:=true,box:=true,n:=c.length,bY:=2,fM:=[(iE 1 (k+1) c).1]}:aI)::(iE 1 (k+1) c).2).length=k+(1+(iE 1 (k+1) c).2.length)by simp;omega];exact h2) hn (λG1 G2 hl h1 h2 pre hp=> ?_) (λE' h1 h2=> ?_)
  .simp only[pinned];refine⟨?_,?_⟩
   .obtain ⟨g,b,f,e1,e2,e3,e4⟩:=h1;refine⟨g,b,f,?_,e2,e3,e4⟩;subst hp;rw[lO (by omega),tU];cases G1 with
    |nil=>simp at e1
    |cons _ _=>simpa using e1
   .have:=h2 (pre++G1) (by simp only[eR,hp,hl,eL];omega);simpa using this
  .simp only[Ml,Rc];exact⟨[],[],h1,h2,rfl⟩
 |[],[],[],_::_,_,h,_=>by simp[Fx]at h
 |[],[],_::_,_,_,h,_=>by simp[Fx]at h
 |[],_::_,_,_,_,h,_=>by simp[Fx]at h
 | .view _::_,[],_,_,_,h,_=>by simp[Fx]at h
 | .view _::_,_::_,[],_,_,h,_=>by simp[Fx]at h
 | .view _::_,_::_,_::_,[],_,h,_=>by simp[Fx]at h
 | .rF _::_,[],_,_,_,h,_=>by simp[Fx]at h
 | .rF _::_,_::_,[],_,_,h,_=>by simp[Fx]at h
 | .rF _::_,_::_,_::_,[],_,h,_=>by simp[Fx]at h
 | .vX _ _::_,[],_,_,_,h,_=>by simp[Fx]at h
 | .vX _ _::_,_::_,[],_,_,h,_=>by simp[Fx]at h
 | .vX _ _::_,_::_,_::_,[],_,h,_=>by simp[Fx]at h
def fK(s:AS):Nat->Nat->List GA->Prop
 |_,_,[]=>True
 |pos,k,.view _::gs=>fK s (pos+1) k gs
 |pos,k,.rF x::gs=>fK s (pos+1) (k+(iA 1 k x).2.length) gs
 |pos,k,.vX c c'::gs=>(s.t.getD pos .aB= .ptr k 2 0 0/\∃cells,s.o[k]? =some ⟨true,true,c.length,2,[cells]⟩/\pI s.o cells=true/\vH s.o cells=c'/\Ev c'=true)/\
   fK s (pos+1) (k+(1+(iE 1 (k+1) c).2.length)) gs
def fH(s:AS):Nat->List GA->List Nat
 |_,[]=>[]
 |k,.view _::gs=>fH s k gs
 |k,.rF x::gs=>fH s (k+(iA 1 k x).2.length) gs
 |k,.vX c _::gs=>(k::mX (rowOf s.o k))++fH s (k+(1+(iE 1 (k+1) c).2.length)) gs
def jF(P:Program)(fn:Func)(s:AS)(gs:List GA)(r:AV):Prop:=
 ∃ys,s.Az P fn.results.toList=some ys/\kV s.o (bX ys)=true/\res s.o (bX ys)=r/\clean r=true/\fK s 0 0 gs/\(fH s 0 gs++mG (bX ys)).Nodup
def Jb{P:Program}[aG P]{B:gL P}{s:AS}{G:List CO}{a:Act}{w:World}(r:fZ B s G a w){gat:Nat->Option CO}(hp:∀i g,gat i=some g->B.p0 i=some (.pointer g.a,g.cap)):
  ∀(gs:List GA) (vs:List Value) (lN:List Nat) (pos k:Nat),pinned gat k gs vs lN->fK s pos k gs->(fH s k gs).Nodup->
  ∃wG,Vw w gs vs wG lN/\wG.flatten.Nodup/\∀b∈wG.flatten,Of s.o G (fH s k gs) b
 |[],[],[],pos,k,_,_,_=>⟨[],by simp[Vw],by simp,by simp⟩
 | .view x::gs,v::vs,cap::lN,pos,k,h1,h2,h3=>by simp only[pinned]at h1;simp only[fK]at h2;simp only[fH]at h3⊢;obtain⟨wG,q1,q2,q3⟩:=Jb r hp gs vs lN (pos+1) k h1 h2 h3;exact⟨[]::wG,by simp only[Vw,RP];exact⟨trivial,q1⟩,by simpa using q2,by simpa using q3⟩
 | .rF x::gs,v::vs,cap::lN,pos,k,h1,h2,h3=>by simp only[pinned]at h1;simp only[fK]at h2;simp only[fH]at h3⊢;obtain⟨wG,q1,q2,q3⟩:=Jb r hp gs vs lN (pos+1) _ h1 h2 h3;exact⟨[]::wG,by simp only[Vw,RP];exact⟨trivial,q1⟩,by simpa using q2,by simpa using q3⟩
 | .vX c c'::gs,v::vs,cap::lN,pos,k,h1,h2,h3=>by
  simp only[pinned]at h1;simp only[fK]at h2;simp only[fH]at h3⊢;obtain⟨⟨g0,b0,f0,e1,e2,e3,e4⟩,h1⟩:=h1;obtain⟨⟨htp,cells,ho,rP,lI,IU⟩,h2⟩:=h2;have hn:=lE.1 h3;obtain⟨wG,q1,q2,q3⟩:=Jb r hp gs vs lN (pos+1) _ h1 h2 hn.2.1;have hrow:rowOf s.o k=cells:=by simp[rowOf,ho]
  rw[hrow]at hn⊢;have wF:AV.gB s.o k 2=some ⟨true,true,c.length,2,[cells]⟩:=by simp[AV.gB,ho]
  obtain⟨g,b,f,hl,aY,hga,hv⟩:=r.ptr (x:= .tmp pos) htp wF;have G9:=r.pin (x:= .tmp pos) htp wF hl rfl rfl rfl rfl _ (hp k g0 e1);rw[hv]at G9;obtain⟨hp1,hp2⟩:=G9;have uJ:g.cap=g0.cap:=hp2 rfl rfl;simp only[CN]at hp1;rw[e2]at hp1;simp only[Nat.zero_mul,sE,eI,oS,pS]at hp1;obtain⟨rfl,rfl⟩:=hp1;obtain⟨Vx,⟨_,eQ⟩,Kq,Rw⟩:=r.ok k _ g hl rfl;simp only[Env.of,eS]at eQ;rcases eQ with⟨h5,_⟩|⟨b',f',C,ty,fz,sH,yM,hbk,hz,k1,k2,k3,rfl,hr⟩
  .cases h5
  rw[hga]at yM;simp only[eI,oS,pS]at yM;obtain⟨rfl,rfl⟩:=yM;simp only[Rr]at hr;obtain⟨cs,f1,f2,hcn,hc,hone,wK,rfl,e⟩:=hr;have e:sH=f1:=by simpa using e
  subst e;simp only[nF]at Kq;have hn1:=hn.1;simp only[nF]at hn1;obtain⟨Dr,u1,u2,u3⟩:=LX r hl rfl cells cs sH rP hn1.2 hn1.1 Kq.2 (λx hx=>Rw x (by simp[hx])) wK;have Gj:g.F b:=Rw b (by simp);have hbn:b∉Dr:=λhb=>by
   rcases u3 b hb with h|h
   .exact Kq.1 h
   .obtain ⟨j,oj,gj,hj,hlj,hjl,LJ⟩:=h;have:=r.fV k j _ _ _ _ b hl hlj rfl hjl Gj LJ;exact hn1.1 (this▸hj)
  rw[lI]at u1;have u1':Rc w pY c' cs Dr:=EI (E:=(env B s.o G w).plain) (λ_ _=>trivial) rfl rfl rfl _ _ _ IU u1;have hin:∀x∈b::Dr,Of s.o G (k::mX cells) x:=by
   intro x hx;rcases mC.1 hx with rfl|hx
   .exact ⟨k,_,g,by simp,hl,rfl,Gj⟩
   .rcases u3 x hx with h|h
    .exact ⟨k,_,g,by simp,hl,rfl,Rw x (by simp[h])⟩
    .exact Dy (λj hj=>by simp[hj]) h
  refine⟨(b::Dr)::wG,?_,?_,?_⟩
  .simp only[Vw,RP];refine⟨⟨b,f,e3,by simp[maxLen],.inr ⟨b,f,C,ty,fz,Dr,rfl,hbk,hz,?_,?_,?_,rfl,?_⟩⟩,q1⟩
   .rw [<-e4,<-uJ];exact k1
   .rw [<-e4,<-uJ];simpa using k2
   .rw [<-e4,<-uJ];exact k3
   .simp only[Rr];exact⟨cs,Dr,[],hcn,hc,hone,u1',rfl,by simp⟩
  .simp only[pZ,lE];refine⟨nF.2 ⟨hbn,u2⟩,q2,λx hx y hy e=> ?_⟩;subst e;exact LY r (λi hi j hj=>hn.2.2 i hi j hj) (hin x hx) (q3 x hy)
  .intro x hx;simp only[pZ,fR]at hx;rcases hx with hx|hx
   .exact Dy (λi hi=>pA _ hi) (hin x hx)
   .exact Dy (λi hi=>tW _ hi) (q3 x hx)
 |[],[],_::_,_,_,h,_,_=>by simp[pinned]at h
 |[],_::_,_,_,_,h,_,_=>by simp[pinned]at h
 | .view _::_,[],_,_,_,h,_,_=>by simp[pinned]at h
 | .view _::_,_::_,[],_,_,h,_,_=>by simp[pinned]at h
 | .rF _::_,[],_,_,_,h,_,_=>by simp[pinned]at h
 | .rF _::_,_::_,[],_,_,h,_,_=>by simp[pinned]at h
 | .vX _ _::_,[],_,_,_,h,_,_=>by simp[pinned]at h
 | .vX _ _::_,_::_,[],_,_,h,_,_=>by simp[pinned]at h
def Tt{w:World}{O:Nat->Prop}:∀{gs:List GA} {vs:List Value} {wG:List (List Nat)} {lN:List Nat},Fx w O gs vs wG lN->vs.length=gs.length
 |[],[],_,_,_=>rfl
 |_::gs,_::vs,[],_,h=>by simp[Fx]at h
 |_::gs,_::vs,_::_,[],h=>by simp[Fx]at h
 |_::gs,_::vs,_::wG,_::lN,h=>by simp only[Fx]at h;simp[Tt h.2]
 |[],_::_,_,_,h=>by simp[Fx]at h
 |_::_,[],_,_,h=>by simp[Fx]at h
def Tu{P:Program}[aG P](hm:P.follows .mixedOrders=true){f:FuncId}{fn:Func}{c:Code}(hf:P.funcs[f]? =some fn)(hb:fn.body=some c){gs:List GA}{rr:AV}
  (h:qA P c ⟨Ml 0 gs++replicate (fn.ntmps-gs.length) .aB,Ht 0 gs⟩ (λe s=>(e= .normal\/e= .ret)/\jF P fn s gs rr)):Ob P f gs rr:=by
 intro w vs wG lN hg hab hnd hrg;obtain⟨Gs,dF,zL,hap,G9,rA⟩:=YC gs vs wG lN 0 hrg hnd;have hvl:=Tt hrg;generalize hB:(⟨w,λb=>b<w.heap.size,(· ∈wG.flatten),λ_=>none,λi=>(Gs[i]?).map λg=>(.pointer g.a,g.cap),hg,λb hb=>(hab b hb).1,λb hb=>(hab b hb).2⟩:gL P)=B;have RF:B.w0=w:=by rw[<-hB]
 have hA0:∀b,B.A0 b↔b<w.heap.size:=by intro b;rw[<-hB]
 have hO0:∀b,B.O0 b↔b∈wG.flatten:=by intro b;rw[<-hB]
 have hh0:∀i,B.h0 i=none:=by intro i;rw[<-hB]
 have ze:∀i g,Gs[i]? =some g->B.p0 i=some (.pointer g.a,g.cap):=by intro i g hg;rw[<-hB];simp[hg]
 have kE:fG w (vJ w (· ∈wG.flatten)) w (env B (Ht 0 gs) Gs w):=by refine⟨λb hb=>⟨⟨.inl ((hA0 b).2 hb.1),λi ob g hl _ hF=> ?_⟩,rfl⟩,λ_ _=>trivial,λ_ _ _ h=>h.elim,λ_ _ _ h=>h.elim,λ_ _ _ _ _ h=>h.elim⟩;obtain⟨_,_,_,f',_,h2,h3,_⟩:=zL _ _ _ hl;exact hb.2 (h3 _ ((h2 _).1 hF))
 have fc:Fc (env B (Ht 0 gs) Gs w) 0 (Ht 0 gs) Gs:=by intro j ob g hl;rw[lR];refine⟨⟨ob,g,hl,eJ _,λ_ _=>rfl,λ_ x hx=>by rw[hh0]at hx;cases hx⟩,λ_ b f hga=>⟨ob,g,hl,eJ _,λ_ _=>⟨b,f,hga,by simp⟩,λ_ _ _ _ y hy=> ?_⟩⟩;rw[ze _ _ hl.2]at hy;obtain rfl:=cX hy;exact⟨by rw[hga],λ_ _=>rfl⟩
 have r0:fZ B ⟨Ml 0 gs++replicate (fn.ntmps-gs.length) .aB,Ht 0 gs⟩ Gs {tmps:=vs.toArray++Array.replicate (fn.ntmps-vs.toArray.size) Go.undef,defers:=[]} w:=by
  refine {len:=dF,defs:=rfl,ok:= ?_,fV:= ?_,eB:= ?_,tmps:= ?_,size:=by rw[RF];exact eJ _,frame:=by rw[RF];exact λ_ _ _=>rfl,base:= ?_,same:=by rw[RF];exact nZ.rfl}
  .intro i ob g hl _;obtain⟨_,_,_,f',h1,h2,h3,h4⟩:=zL _ _ _ hl;exact⟨f',h4 _ kE fc,h1,λb hb=>(h2 b).2 hb⟩
  .intro i j oi oj gi gj b hi hj _ _ Gl NS;exact hap _ _ _ _ _ _ b hi hj Gl NS
  .intro i ob g b hl _ hF;obtain⟨_,_,_,f',_,h2,h3,_⟩:=zL _ _ _ hl;have:=h3 _ ((h2 _).1 hF);exact⟨.inl ((hO0 b).2 this),(hab b this).2⟩
  .have h2:∀n,Rc w (env B (Ht 0 gs) Gs w) (replicate n .aB) (replicate n Go.undef) []:=by
    intro n;induction n with
    |zero=>simp[Rc]
    |succ n ih=>simp only[oX,Rc];exact⟨[],[],by simp[R],ih,rfl⟩
   have:=mJ (rA _ kE fc) (h2 (fn.ntmps-gs.length));simpa [hvl]using this
  .intro b hb;rw[RF];exact(hA0 b).1 hb
 refine Ge hf hb (Hj (rG hm c _ _ h _ _ ⟨_,r0⟩) λe a w' he=> ?_);obtain⟨s,⟨he,ys,Md,rP,lI,IU,hlo,hun⟩,G,r⟩:=he;obtain⟨u,hrun,hR⟩:=wU r Md;have hun':=lE.1 hun;obtain⟨fp,k1,k2,k3⟩:=GU r _ u rP hun'.2.1 hR;rw[lI]at k1;have aUa:pinned (λi=>Gs[i]?) 0 gs vs lN:=by simpa using G9 [] rfl
 obtain⟨Dv,q1,q2,q3⟩:=Jb r ze gs vs lN 0 0 aUa hlo hun'.1;have hin:∀b∈Dv.flatten++fp,(b∈wG.flatten\/w.heap.size<=b)/\b<w'.heap.size:=by
  intro b hb;have:∃i ob g,look s.o G i ob g/\ob.fT=true/\g.F b:=by
   rcases fR.1 hb with hb|hb
   .obtain ⟨i,ob,g,_,h⟩:=q3 b hb;exact⟨i,ob,g,h⟩
   .obtain ⟨i,ob,g,_,h⟩:=k3 b hb;exact⟨i,ob,g,h⟩
  obtain⟨i,ob,g,hl,aY,hF⟩:=this;have:=r.eB _ _ _ b hl aY hF;rw[RF,hO0]at this;exact this
 have hfin:∃v fp Dv,Ending.returned u= .returned v/\R w' pY rr v fp/\Vw w' gs vs Dv lN/\(Dv.flatten++fp).Nodup/\
   (∀b∈Dv.flatten++fp,(b∈wG.flatten\/w.heap.size<=b)/\b<w'.heap.size)/\w.heap.size<=w'.heap.size/\(∀b,b<w.heap.size->b∉wG.flatten->w'.heap[b]? =w.heap[b]?)/\nZ w w':=by
  refine⟨u,fp,Dv,rfl,Rs (E:=(env B s.o G w').plain) (λ_ _=>trivial) rfl rfl rfl _ _ _ IU k1,q1,lE.2 ⟨q2,k2,λx hx y hy e=> ?_⟩,hin,by have:=r.size;rwa[RF]at this,λb hb hn=>by have:=r.frame b (by rw[RF];exact hb) (λh=>hn ((hO0 b).1 h));rwa[RF]at this,by have:=r.same;rwa[RF]at this⟩;subst e;exact LY r (λi hi j hj=>hun'.2.2 i hi j hj) (q3 x hx) (k3 x hy)
 rcases he with rfl|rfl
 .exact ⟨r.defs,u,hrun,hfin⟩
 .exact ⟨r.defs,u,hrun,hfin⟩
def nL{e:Exit}{q:Prop}(h:q)(he:e= .normal\/e= .ret:=by first|exact .inr rfl|exact .inl rfl):(e= .normal\/e= .ret)/\q:=⟨he,h⟩
def uQ{P:Program}[aG P](hm:P.follows .mixedOrders=true){f:FuncId}{fn:Func}{c:Code}(hf:P.funcs[f]? =some fn){n:Nat}(hn:fn.ntmps=n){gs:List GA}{t:List AV}{o:List aI}{rr:AV}
  (h:qA P c ⟨t,o⟩ (λe s=>(e= .normal\/e= .ret)/\jF P fn s gs rr)) (hb:fn.body=some c:=by rfl)
  (ho:Ht 0 gs=o:=by
   simp only[Ht,aU,aN,gT,dM,gN,dI,gW,dL,sE,lR,Nat.reduceAdd,cW,eA,eE,eL,fL];rfl)
  (ht:Ml 0 gs++replicate (n-gs.length) .aB=t:=by
   simp only[Ml,aU,aN,gT,dM,gN,dI,gW,dL,sE,lR,eL,fL,Nat.reduceSub,Nat.reduceAdd,oX,tG,cW,eA,eE];rfl):Ob P f gs rr:=by
 subst ht;subst hn;subst ho;exact Tu hm hf hb h
def aVb{P:Program}[aG P](hm:P.follows .mixedOrders=true){f:FuncId}{fn:Func}{c c':Code}(L:List Nat)(hf:P.funcs[f]? =some fn){n:Nat}(hn:fn.ntmps=n){gs:List GA}{t:List AV}{o:List aI}{rr:AV}
  (h:qA P c' ⟨t,o⟩ (λe s=>(e= .normal\/e= .ret)/\jF P fn s gs rr)) (hb:fn.body=some c:=by rfl)
  (hc:yH (λi=>L.contains i) c=c':=by simp[yH];rfl)
  (ho:Ht 0 gs=o:=by
   simp only[Ht,aU,aN,gT,dM,gN,dI,gW,dL,sE,lR,Nat.reduceAdd,cW,eA,eE,eL,fL];rfl)
  (ht:Ml 0 gs++replicate (n-gs.length) .aB=t:=by
   simp only[Ml,aU,aN,gT,dM,gN,dI,gW,dL,sE,lR,eL,fL,Nat.reduceSub,Nat.reduceAdd,oX,tG,cW,eA,eE];rfl):Ob P f gs rr:=by
 subst ht;subst hn;subst ho;subst hc;rw[yI]at h;exact Tu hm hf hb h
def uW(l:List (List AV)):Bool:=l.all λr=>r.all AV.lC
def Q5{w:World}{E:Env}:∀(x:AV) (v:Value) (fp:List Nat),x.lC=true->R w E x v fp->fp=[]:=by intro x v fp hx h;cases x<;>simp only[AV.lC]at hx<;>first|(cases hx;done)|(simp only[R]at h;exact h.2)|(simp only[R]at h;exact h.1)|simp_all[R]
def Qk{w:World}{E:Env}:∀(c:List AV) (cs:List Value) (fp:List Nat),c.all AV.lC=true->Rc w E c cs fp->fp=[]
 |[],[],fp,_,h=>by simpa [Rc]using h
 |[],_::_,_,_,h=>by simp[Rc]at h
 |_::_,[],_,_,h=>by simp[Rc]at h
 |x::xs,c::cs,fp,hp,h=>by simp only[Cl,eK]at hp;simp only[Rc]at h;obtain⟨f1,f2,h1,h2,h3⟩:=h;have a:=Q5 _ _ _ hp.1 h1;have b:=Qk _ _ _ hp.2 h2;subst a;subst b;simpa using h3
def Ql{w:World}{E:Env}:∀(l:List (List AV)) (eO:List Value) (n:Nat) (fp:List Nat),uW l=true->Rv w E l eO n fp->fp=[]
 |[],_,_,_,_,h=>by simp only[Rv]at h;simp_all
 |r::l,eO,n,fp,hp,h=>by simp only[uW,Cl,eK]at hp;simp only[Rv]at h;obtain⟨cs,rest,f1,f2,h1,h2,h3,h4,h5,h6⟩:=h;have a:=Qk _ _ _ (by simpa using hp.1) h4;have b:=Ql l _ _ _ (by simpa [uW]using hp.2) h5;subst a;subst b;simpa using h6
def OP(tS xT:TypeId)(x y:Operand){e:TypeId}{n by' i j bY:Nat}{ob oj:aI}{s1:AS}(he:oO P tS=some (e,n,by'))(hz:kZ P e n=true)(hxt:tO P xT=true)
  (ht:s.target n (s.ev x)=some (i,ob,s1)) (hy:s1.ev y= .obj j bY) (ho:AV.gB s1.o j bY=some oj) (hj:oj.box=false/\oj.n=n/\j≠i) (hpl:uW oj.fM=true)
  (hbytes:(ob.fM.length+oj.fM.length)*by'<=140737488355328) (h63:ob.fM.length+oj.fM.length<=9223372036854775807):
  Step P B ⟨dst,.call {callee:= .builtin .append,args:=#[x,y],argTypes:=#[tS,xT]},ty,pos,after,gd⟩ s (s.zR s1.o dst i ob oj.fM):=
 uI λG0 a w r0=>by
  obtain⟨hu,inf,hi,hsz,hby⟩:=tN he;obtain⟨z,hz1,hz2⟩:=Bp hz hi;obtain⟨G,g,r,hl,aY,xL,hn,hv,hst⟩:=r0.target ht;have hev:=ZW hst y;obtain⟨gj,hlj,aFa,hvj⟩:=r.zq hy ho;rw[hev]at hy;have aVh:a.eval y= .slice gj.a oj.fM.length gj.cap:=hvj;obtain⟨fj,Px,aK0,LJ⟩:=r.ok j oj gj hlj aFa;rw[hj.1]at Px;obtain⟨fp,eQ,hnd,hF⟩:=r.ok i ob g hl aY;rw[xL]at eQ;obtain⟨eO,Pt,Cz⟩:∃eO,Rv w (env B s1.o G w).plain oj.fM eO ob.n []/\∀w',w'.heap=w.heap->(Builtin.firstCells ob.n oj.fM.length (.slice gj.a oj.fM.length gj.cap)).run P w'= .ok eO.toArray w':=by
   have hnn:oj.n=ob.n:=by rw[hj.2.1,hn]
   rcases Px.2 with⟨h1,h2,h3⟩|⟨b,off,C,ety,fz,sH,ha,hb,hz',k1,k2,k3,rfl,hr⟩
   .refine ⟨[],by rw[h1];simp[Rv],λw' _=> ?_⟩
    rw[h1];cases hga:gj.a with
    |none=>simp[Builtin.firstCells]
    |some a'=>simp[Builtin.firstCells,loadCells,loadCellsFrom]
   .obtain ⟨vs,hv',hc'⟩:=vG.1 hr;have h0:=Ql _ _ _ _ hpl hv';subst h0;refine⟨vs,by rw[<-hnn];exact hv',λw' hw'=> ?_⟩;rw[ha,<-hnn];exact nD (mK hv') (hc'.heap hw')
  obtain⟨v,w',G',hrun,hr',hR⟩:=r.append (P:=P) (ty:=ty) hl aY xL hu (Gm hxt) hi hz1 (by rw[hsz,hn]) (by rw[hz2,hn]) (x:=a.eval y) (by rw[aVh];simp[Builtin.lenOf]) (by rw[aVh];exact Cz) Pt eQ (by simpa using hnd) (by simpa using hF) (by rw[hby];exact hbytes) h63;refine⟨v,w',by simp[execOp,resolve,invoke,builtin,hv,hrun],G',?_⟩;have:=hr'.put dst hR;rw[hst]at this;exact this
def AV.wT:AV->Bool
 | .agg c=>c.all AV.lC
 |x=>x.lC
def aIi{x:AV}(h:x.wT=true):x≠ .aB:=by cases x<;>simp_all[AV.wT,AV.lC]
def qc{o:List aI}:∀{c:List AV},(∀x∈c,x.wT=true)->vH o c=c/\pI o c=true/\mX c=[]
 |[],_=>⟨rfl,rfl,rfl⟩
 |x::xs,h=>by
  obtain⟨h1,h2,h3⟩:=qc (o:=o) (c:=xs) λy hy=>h y (by simp[hy])
  have hx:=h x (by simp);cases x with
  |agg c=>
   simp only[AV.wT]at hx;obtain⟨k1,k2,k3⟩:=Oy (o:=o) (c:=c) λy hy=>fW.1 hx y hy
   simp[vH,pI,mX,res,kV,mG,h1,h2,h3,k1,k2,k3]
  |_=>simp only[AV.wT,AV.lC]at hx<;>first|(cases hx;done)|(simp[vH,pI,mX,res,kV,mG,h1,h2,h3])
def qd(t:TypeId)(len:Nat)(parts:Array (Nat×Operand)){e:TypeId}{n by' i:Nat}(he:oO P t=some (e,n,by'))(hz:kZ P e n=true)(NY:yN parts.toList=true)(dF:len=parts.toList.length)(hbig:len*n<=16777216)(hbig2:len<=16777216)
  (hpl:∀x∈(parts.toList.map (·.2)).map s.ev,x.wT=true) (hgood:∀x∈(parts.toList.map (·.2)).map s.ev,x.Bn=true/\x.cells.length=n) (hi':s.o[i]? =some ⟨true,false,n,0,[]⟩):
  Step P B ⟨dst,.buildSlice t len parts,ty,pos,after,gd⟩ s (AS.put ⟨s.t,s.o.set i ⟨true,false,n,1,((parts.toList.map (·.2)).map s.ev).map AV.cells⟩⟩ dst (.obj i 1)):=
 uI λG a w r=>by
  generalize hxs:parts.toList.map (·.2)=xs at*;have BH:parts.toList=(xs.zipIdx).map λp=>(p.2,p.1):=by rw[<-hxs];exact Fu _ 0 NY
  obtain⟨hp1,hp2,hp3⟩:=qc (o:=s.o) hpl;obtain⟨fp,wK,hnd,Pz⟩:=Kl r _ _ hp2 (by rw[hp3];simp) (uK r xs);have Jq:fp=[]:=by
   cases fp with
   |nil=>rfl
   |cons b _=>obtain⟨i,ob,g,hi,_⟩:=Pz b (by simp);rw[hp3]at hi;cases hi
  subst Jq;rw[hp1]at wK;obtain⟨Pt,hsz⟩:=Ru wK hgood;have hvl:(xs.map a.eval).length=len:=by rw[dF,<-hxs];simp
  have hrun:(execOp a.eval ⟨dst,.buildSlice t len parts,ty,pos,after,gd⟩).run P w= .ok (.value (.slice (some ⟨w.heap.size,0,none⟩) len len)) (w.alloc (.cells ((xs.map a.eval).flatMap λv=>v.cells.toList).toArray e)):=by
   have e1:parts.map (λ(i,x)=>(i,a.eval x))=(((xs.map a.eval).zipIdx).map λp=>(p.2,p.1)).toArray:=by apply CH;simp only[DO,BH,map_map,zipIdx_map];rfl
   have:=wS (P:=P) (t:=t) (len:=len) (w:=w) he hz hvl.symm hbig hsz;simp only[execOp,e1,pB,this,mT,tR]
  have hlt:i<G.length:=by rw[r.len];exact(cU.1 hi').1
  have hlk:Aw.look s.o G i ⟨true,false,n,0,[]⟩ G[i]:=⟨hi',aE hlt⟩;generalize G[i]=g at hlk;generalize hCd:((xs.map a.eval).flatMap λv=>v.cells.toList)=cs at*;have IU:=mK Pt;have hself:(w.alloc (.cells cs.toArray e)).heap[w.heap.size]? =some (.cells cs.toArray e):=iT w _;have hrl:((xs.map s.ev).map AV.cells).length=len:=by have:=iY wK;rw[tE,<-this,hvl]
  have WC:len<=maxLen:=by simp only[maxLen];omega
  have hm:=r.modify hlk rfl ⟨true,false,n,1,(xs.map s.ev).map AV.cells⟩ ⟨some ⟨w.heap.size,0,none⟩,len,λb=>g.F b\/b=w.heap.size⟩ (w.alloc (.cells cs.toArray e)) (by simp) rfl (by simp)
   (λb hb=>by
    rcases hb with hb|hb
    .exact .inl hb
    .right;subst hb;simp) (λb hb jE=>⟨.inl hb,λa' yM=>by
     obtain rfl:=cX yM;have:=(r.eB _ _ _ b hlk rfl hb).2;simp only;omega⟩) (λb hlt _=>heap_alloc w _ b hlt) (by simp) (λk _=>by
   refine⟨[w.heap.size],?_,by simp,by simp⟩;generalize env B _ _ (w.alloc (.cells cs.toArray e))=E' at k⊢;simp only[Env.of,cY,eW];refine⟨by rw[hrl];exact WC,.inr ⟨w.heap.size,0,cs.toArray,e,(0,0),[],rfl,hself,.inr rfl,?_,by rw[hrl];exact eJ _,WC,rfl,?_⟩⟩
   .simp [IU];rw[<-hrl];simp
   .refine vG.2 ⟨cs,yB k.plain (λb hb=>by cases hb) Pt,?_⟩
    refine tL hself (λj v hv=>by simpa using hv))
  have hl2:Aw.look (s.o.set i ⟨true,false,n,1,(xs.map s.ev).map AV.cells⟩) (G.set i ⟨some ⟨w.heap.size,0,none⟩,len,λb=>g.F b\/b=w.heap.size⟩) i ⟨true,false,n,1,(xs.map s.ev).map AV.cells⟩ ⟨some ⟨w.heap.size,0,none⟩,len,λb=>g.F b\/b=w.heap.size⟩:=tK hlk;refine⟨_,_,hrun,_,hm.1.put dst ?_⟩;simp only[R];exact⟨trivial,_,_,hl2,eJ _,λ_ _=>by rw[hrl],λh=>absurd h (by decide)⟩
def aM7{P:Program}[aG P]{dst:Option Tmp}{ty:TypeId}{pos:String}{after:Array Edge}{gd:Option (Nat×Bool)}{m:List AV}{view:List aI}{pl:Nat}{T:TypeId}{len:Nat}{parts:Array (Nat×Operand)}{e:TypeId}{n by':Nat}{xs:List AV}
  (he:oO P T=some (e,n,by')) (hz:kZ P e n=true) (NY:yN parts.toList=true) (dF:len=parts.toList.length) (hbig:len*n<=16777216) (hbig2:len<=16777216)
  (hxs:(parts.toList.map (·.2)).map (AS.ev ⟨m,view⟩)=xs) (hpl:∀x∈xs,x.wT=true) (hgood:∀x∈xs,x.Bn=true/\x.cells.length=n) (hv:view[pl]? =some (hole n)):
  FW P ⟨dst,.buildSlice T len parts,ty,pos,after,gd⟩ m view pl (.obj pl 1) ⟨true,false,n,1,xs.map AV.cells⟩:=by
 intro B t2 o2 hw hs _;have e2:(parts.toList.map (·.2)).map (AS.ev ⟨t2,o2⟩)=xs:=by
  have key:∀(l:List Operand) (xs:List AV),l.map (AS.ev ⟨m,view⟩)=xs->(∀x∈xs,x.wT=true)->l.map (AS.ev ⟨t2,o2⟩)=xs:=by
   intro l;induction l with
   |nil=>intro xs h _;exact h
   |cons a l ih=>
    intro xs h hp;cases xs with
    |nil=>cases h
    |cons x xs=>simp only[oE,List.cons.injEq]at h⊢;exact⟨DC hw h.1 (aIi (hp x (by simp))),ih xs h.2 λy hy=>hp y (by simp[hy])⟩
  exact key _ _ hxs hpl
 have ho:o2[pl]? =some ⟨true,false,n,0,[]⟩:=hs pl _ hv rfl;have:=qd (P:=P) (B:=B) (s:=⟨t2,o2⟩) (dst:=dst) (ty:=ty) (pos:=pos) (after:=after) (gd:=gd) T len parts (i:=pl) he hz NY dF hbig hbig2 (by rw[e2];exact hpl) (by rw[e2];exact hgood) ho;rw[e2,put_eq]at this;exact this
def qf{P:Program}[aG P]{dst:Option Tmp}{ty:TypeId}{pos:String}{after:Array Edge}{gd:Option (Nat×Bool)}{m:List AV}{view:List aI}{pl:Nat}{T:TypeId}{len:Nat}{parts:Array (Nat×Operand)}{e:TypeId}{n by':Nat}{xs:List AV}{fM:List (List AV)}
  (he:oO P T=some (e,n,by')) (hz:kZ P e n=true) (NY:yN parts.toList=true) (dF:len=parts.toList.length) (hbig:len*n<=16777216) (hbig2:len<=16777216)
  (hxs:(parts.toList.map (·.2)).map (AS.ev ⟨m,view⟩)=xs) (hpl:∀x∈xs,x.wT=true) (hgood:∀x∈xs,x.Bn=true/\x.cells.length=n) (hv:view[pl]? =some (hole n)) (hels:xs.map AV.cells=fM):
  FW P ⟨dst,.buildSlice T len parts,ty,pos,after,gd⟩ m view pl (.obj pl 1) ⟨true,false,n,1,fM⟩:=by
 subst hels;exact aM7 he hz NY dF hbig hbig2 hxs hpl hgood hv
def Gd{P:Program}[aG P]{dst:Option Tmp}{ty:TypeId}{pos:String}{after:Array Edge}{gd:Option (Nat×Bool)}{m:List AV}{view:List aI}{pl v v' q u:Nat}{x y:Operand}{tS xT:TypeId}{e:TypeId}{n by':Nat}{fM els':List (List AV)}{l2:List (List AV)}
  (hx:AS.ev ⟨m,view⟩ x= .obj pl v) (hvv:v+1=v') (hv:view[pl]? =some ⟨true,false,n,v,fM⟩) (hy:AS.ev ⟨m,view⟩ y= .obj q u) (hq:view[q]? =some ⟨true,false,n,u,l2⟩) (hqp:q≠pl) (hpl:uW l2=true) (hels:fM++l2=els')
  (he:oO P tS=some (e,n,by')) (hz:kZ P e n=true) (hxt:tO P xT=true) (hbytes:(fM.length+l2.length)*by'<=140737488355328) (h63:fM.length+l2.length<=9223372036854775807):
  FW P ⟨dst,.call {callee:= .builtin .append,args:=#[x,y],argTypes:=#[tS,xT]},ty,pos,after,gd⟩ m view pl (.obj pl v') ⟨true,false,n,v',els'⟩:=by
 subst hels;subst hvv;intro B t2 o2 hw hs _;have ho:o2[pl]? =some ⟨true,false,n,v,fM⟩:=hs pl _ hv rfl;have ho2:o2[q]? =some ⟨true,false,n,u,l2⟩:=hs q _ hq rfl;have hx2:AS.ev ⟨t2,o2⟩ x= .obj pl v:=DC hw hx (by simp);have hy2:AS.ev ⟨t2,o2⟩ y= .obj q u:=DC hw hy (by simp);have BG:AV.gB o2 pl v=some ⟨true,false,n,v,fM⟩:=by simp[AV.gB,ho]
 have aZc:AV.gB o2 q u=some ⟨true,false,n,u,l2⟩:=by simp[AV.gB,ho2]
 have:=OP (P:=P) (B:=B) (s:=⟨t2,o2⟩) (dst:=dst) (ty:=ty) (pos:=pos) (after:=after) (gd:=gd) tS xT x y (i:=pl) (ob:=⟨true,false,n,v,fM⟩) (s1:=⟨t2,o2⟩) (oj:=⟨true,false,n,u,l2⟩) he hz hxt
  (by rw[hx2];simp only[AS.target,BG,Hn,eS]) hy2 aZc ⟨rfl,rfl,hqp⟩ hpl hbytes h63
 simp only[AS.zR,put_eq]at this;exact this
def Bj{α:Type}{f:α->List AV}(h:∀x,(f x).all AV.lC=true)(l:List α):uW (l.map f)=true:=by simp[uW,fW];intro a _ x hx;exact fW.1 (h a) x hx
def O1{t t':List AV}{o o':List aI}(i k:Nat){ob:aI}{e e':List AV}(ho:o[i]? =some ob)(hl:ob.fT=true)(hb:ob.box=false)(hall:(o.all λx=> !x.box || x.fM.all λc=>tV i c)=true)(he:ob.fM[k]? =some e)
  (hc:tJ Km true e=e') (ho':o.set i {ob with fM:=ob.fM.set k e'}=o') (hw:wk (tJ (lV [i]) true t) t'):mZ ⟨t,o⟩ ⟨t',o'⟩:=by
 subst ho';subst hc;rintro P _ B a w ⟨G,r⟩;have nb:∀{j x g},look o G j x g->x.box=true->(x.fM.all λc=>tV i c)=true:=λh hb=>by have:=fW.1 hall _ (nB h.1);simpa only[hb,DB,GW]using this
 obtain⟨g,hlk⟩:=r.look ho;obtain⟨fp,eQ,hnd,hF⟩:=r.ok i ob g hlk hl;simp only[hb,Env.of,cY,eW]at eQ;obtain⟨dF,⟨h,_⟩|⟨b,off,C,ty,fz,sH,ha,hbk,hz,h1,h2,h3,rfl,hr⟩⟩:=eQ
 .rw [h]at he;simp at he
 have hk:k<ob.fM.length:=(cU.1 he).1;obtain⟨f1,f2,f3,cs,rfl,hn,hcs,hone,hre,hr1,hr3⟩:=Cy hr he;have hsub2:∀x∈f2,g.F x:=λx hx=>hF x (by simp[hx])
 generalize uF:({ob with fM:=ob.fM.set k (tJ Km true e)}:aI)=ob';generalize hg':({g with F:=λx=>g.F x/\x∉f2}:CO)=g';generalize hO:o.set i ob'=o';generalize hGG:G.set i g'=G';have back:∀{j x y},look o' G' j x y->(j=i/\x=ob'/\y=g')\/(j≠i/\look o G j x y):=by intro j x y h;rw[<-hO,<-hGG]at h;exact Bo h
 have fi:look o' G' i ob' g':=by rw[<-hO,<-hGG];exact tK hlk
 have fo:∀{j x y},j≠i->look o G j x y->look o' G' j x y:=λhj h=>by rw[<-hO,<-hGG];exact Dx h hj
 have aYq:ob'.fT=true:=by rw[<-uF];exact hl
 have aU4:ob'.box=false:=by rw[<-uF];exact hb
 have aQp:ob'.n=ob.n:=by rw[<-uF]
 have aYr:ob'.bY=ob.bY:=by rw[<-uF]
 have aQq:ob'.fM.length=ob.fM.length:=by rw[<-uF];simp
 have hga:g'.a=g.a:=by rw[<-hg']
 have hgc:g'.cap=g.cap:=by rw[<-hg']
 have hgF:∀x,g'.F x↔g.F x/\x∉f2:=λx=>by rw[<-hg']
 let Er:Env:=(env B o G w).no i
 have rt1:pG (lV [i]) true (env B o G w) Er (λ_=>True):=by
  refine⟨λt e=>by simp[lV]at e,λt e=>by simp only[lV,eI]at e;exact⟨e.symm,λb hb=>hb⟩,λj t e=> ?_,λ_ _ _ _ h=>h,λ_ _ _ _ _ _ h=>h⟩;simp only[lV]at e;split at e
  .cases e
  .rename_i hiu;obtain rfl:=cX e;refine⟨by simp,?_,λb hb=>⟨hiu,hb⟩⟩;by_cases hV:(env B o G w).V j
   .exact .inl hV
   .exact .inr hV
 have kA:∀x,(env B o G w).A x->(env B o' G' w).A x:=λx hx=>⟨hx.1,λj y z hlj hjl hf=>by
  rcases back hlj with⟨rfl,rfl,rfl⟩|⟨_,h⟩
  .exact hx.2 _ _ _ hlk hl ((hgF x).1 hf).1
  .exact hx.2 _ _ _ h hjl hf⟩
 have kS:∀x∈f2,(env B o' G' w).A x:=λx hx=>⟨(r.eB _ _ _ x hlk hl (hsub2 x hx)).elim λh1 h2=>h1.elim (λh=> .inl (B.gA x h)) λh=> .inr ⟨h,h2⟩,λj y z hlj hjl hf=>by
  rcases back hlj with⟨rfl,rfl,rfl⟩|⟨hj,h⟩
  .exact ((hgF x).1 hf).2 hx
  .exact hj (r.fV _ _ _ _ _ _ x h hlk hjl hl hf (hsub2 x hx))⟩
 have k2':fG w Er w (env B o' G' w):=by
  refine⟨λx hx=>⟨kA x hx,rfl⟩,λj h x hx=> ?_,λj x hV h=> ?_,λj bY x h=> ?_,λj bY p q x h=> ?_⟩
  .obtain ⟨y,hy⟩:=r.look hx;by_cases hj:j=i
   .subst hj;rw[ho]at hx;obtain rfl:=cX hx;exact hl
   .exact h x (fo hj hy).1
  .obtain ⟨hji,x',y,hlj,hjl,hf,jE⟩:=h;exact⟨⟨x',y,fo (by simpa using hji) hlj,hjl,hf,jE⟩,rfl⟩
  .obtain ⟨x',y,hlj,Ap,hh,hz⟩:=h;by_cases hj:j=i
   .subst hj;obtain⟨rfl,rfl⟩:=lT hlk hlj;exact⟨ob',g',fi,by omega,λ_ Yg=>by rw[hga,hgc,aQq];exact hh hl (by omega),hz⟩
   .exact ⟨x',y,fo hj hlj,Ap,hh,hz⟩
  .obtain ⟨x',y,hlj,Ap,hh,hz⟩:=h;by_cases hj:j=i
   .subst hj;obtain⟨rfl,rfl⟩:=lT hlk hlj;exact⟨ob',g',fi,by omega,λ_ Yg=>by rw[hga,aQp];exact hh hl (by omega),λh=>by rw[aU4]at h;cases h⟩
   .exact ⟨x',y,fo hj hlj,Ap,hh,hz⟩
 have kp:fG w (env B o G w).plain w (env B o' G' w).plain:=⟨λx hx=>⟨kA x hx,rfl⟩,λ_ _=>trivial,λ_ _ _ h=>h.elim,λ_ _ _ h=>h.elim,λ_ _ _ _ _ h=>h.elim⟩;have rv:pG Km true (env B o G w).plain (env B o' G' w).plain (λx=>x∈f2):=by
  refine⟨λt e=> ?_,λt e=> ?_,λj t e=>by simp[Km]at e,λ_ _ _ _ h=>h.elim,λ_ _ _ _ _ _ h=>h.elim⟩
  .simp only[Km,eI]at e;subst e;exact⟨by simp,λb hb=>kS b hb⟩
  .simp only[Km,eI]at e;exact⟨e.symm,λb hb=>kA b hb⟩
 have hnd':=hnd;simp only[nF]at hnd';refine⟨G',{len:=by rw[<-hO,<-hGG];simp[r.len],defs:=r.defs,ok:= ?_,fV:= ?_,eB:= ?_,tmps:=JJ hw (gQ k2' _ _ _ (by simp) (Ar rt1 _ _ _ (by simp) r.tmps)),size:=r.size,frame:=r.frame,base:=r.base,same:=r.same}⟩
 .intro j x y hlj hjl;rcases back hlj with⟨rfl,rfl,rfl⟩|⟨hj,h⟩
  .refine ⟨b::(f1++[]++f3),?_,?_,?_⟩
   .rw [aU4,<-uF,<-hg'];simp only[Env.of,cY,eW];refine⟨by simpa using dF,.inr ⟨b,off,C,ty,fz,_,ha,hbk,hz,h1,by simpa using h2,h3,rfl,?_⟩⟩;exact ZL hk hn hcs hone (Ar rv _ _ _ (λx hx=>hx) hre) (qD kp _ _ _ _ _ rfl (λ_ _=>rfl) hr1) (qD kp _ _ _ _ _ rfl (λ_ _=>rfl) hr3)
   .have hs:(f1++[]++f3).Sublist (f1++f2++f3):=((tP f1).append (nil_sublist f2)).append (tP f3);exact nF.2 ⟨λh=>hnd'.1 (hs.subset h),hs.nodup hnd'.2⟩
   .intro x hx;rw[hgF];have hin:x∈b::(f1++f2++f3):=by simp only[mC,fR,DH,or_false]at hx⊢;grind
    refine⟨hF x hin,λhx2=> ?_⟩;have hd:=hnd'.2;simp only[lE,fR]at hd;simp only[mC,fR,DH,or_false]at hx;rcases hx with rfl|hx|hx
    .exact hnd'.1 (by simp[hx2])
    .exact hd.1.2.2 x hx x hx2 rfl
    .exact hd.2.2 x (.inr hx2) x hx rfl
  .obtain ⟨fq,q1,q2,q3⟩:=r.ok j x y h hjl;refine⟨fq,?_,q2,q3⟩;cases hbj:x.box with
   |false=>simp only[hbj,Env.of,cY,eW]at q1⊢;exact q1.keeps kp (λ_ _=>rfl)
   |true=>simp only[hbj,Env.of,eS]at q1⊢;exact(q1.DR (nb h hbj)).keeps k2' (λ_ _=>rfl)
 .intro j1 j2 x1 x2 y1 y2 z hl1 hl2 v1 v2 hf1 hf2;rcases back hl1 with⟨rfl,rfl,rfl⟩|⟨hj1,h1⟩<;>rcases back hl2 with⟨rfl,rfl,rfl⟩|⟨hj2,h2⟩
  .rfl
  .exact absurd (r.fV _ _ _ _ _ _ z hlk h2 hl v2 ((hgF z).1 hf1).1 hf2).symm hj2
  .exact absurd (r.fV _ _ _ _ _ _ z h1 hlk v1 hl hf1 ((hgF z).1 hf2).1) hj1
  .exact r.fV _ _ _ _ _ _ z h1 h2 v1 v2 hf1 hf2
 .intro j x y z hlj hjl hf;rcases back hlj with⟨rfl,rfl,rfl⟩|⟨_,h⟩
  .exact r.eB _ _ _ z hlk hl ((hgF z).1 hf).1
  .exact r.eB _ _ _ z h hjl hf
def go_openB{P:Program}[aG P](i k c:Nat){id:Nat}{L:List Oper}{Q:Exit->AS->Prop}{t t':List AV}{o o':List aI}{ob:aI}{e:List AV}{m:Nat}{rows:List (List AV)}(ho:o[i]? =some ob)(he:ob.fM[k]? =some e)(hc:e[c]? =some (.sl .own m rows))
  (h:qA P (.region id L.toArray false) ⟨t',o'⟩ Q) (hl:ob.fT=true:=by rfl) (hb:ob.box=true:=by rfl) (hall:(o.all λx=> !x.box || x.fM.all λc=>tV i c)=true:=by simp)
  (ho':o.set i {ob with fM:=ob.fM.set k (e.set c (.obj o.length 1))}++[⟨true,false,m,1,rows⟩]=o':=by simp;rfl) (hw:tJ (lV [i]) true t=t':=by simp;rfl):qA P (TT (.region id L.toArray false)) ⟨t,o⟩ Q:=
 go_weak (vM i k c ho hl hb hall he hc ho' (hw▸oH _)) h
def go_share{P:Program}[aG P](i k:Nat){id:Nat}{L:List Oper}{Q:Exit->AS->Prop}{t t':List AV}{o o':List aI}{ob:aI}{e e':List AV}(ho:o[i]? =some ob)(he:ob.fM[k]? =some e)(he':tJ Km true e=e')
  (h:qA P (.region id L.toArray false) ⟨t',o'⟩ Q) (hl:ob.fT=true:=by rfl) (hb:ob.box=false:=by rfl) (hall:(o.all λx=> !x.box || x.fM.all λc=>tV i c)=true:=by simp)
  (ho':o.set i {ob with fM:=ob.fM.set k e'}=o':=by simp;rfl) (hw:tJ (lV [i]) true t=t':=by simp;rfl):qA P (TT (.region id L.toArray false)) ⟨t,o⟩ Q:=
 go_weak (O1 i k ho hl hb hall he he' ho' (hw▸oH _)) h
def XD{t t':List AV}{o o':List aI}(i:Nat){ob:aI}(ho:o[i]? =some ob)(ho':o.set i ⟨false,false,0,ob.bY,[]⟩=o')(hw:wk t t'):mZ ⟨t,o⟩ ⟨t',o'⟩:=by
 subst ho';rintro P _ B a w ⟨G,r⟩;obtain⟨g,hlk⟩:=r.look ho;have hi:i<o.length:=(cU.1 ho).1;have back:∀{j x y},look (o.set i ⟨false,false,0,ob.bY,[]⟩) G j x y->(j=i/\x=⟨false,false,0,ob.bY,[]⟩)\/(j≠i/\look o G j x y):=by
  intro j x y ⟨h1,h2⟩;rw[GB]at h1;by_cases hj:i=j
  .subst hj;rw[eM rfl,eM hi]at h1;exact .inl ⟨rfl,(cX h1).symm⟩
  .rw [eC hj]at h1;exact .inr ⟨λh=>hj h.symm,h1,h2⟩
 have k:fG w (env B o G w) w (env B (o.set i ⟨false,false,0,ob.bY,[]⟩) G w):=
  Ay (eJ _) (λb hb=>⟨rQ r hb,rfl⟩) r.len
   (λj x y h=>by
    by_cases hj:j=i
    .subst hj;obtain⟨rfl,rfl⟩:=lT hlk h;exact⟨⟨false,false,0,ob.bY,[]⟩,g,⟨by rw[GB];simp[hi],hlk.2⟩,eJ _,(λh=>by cases h),λh=>by cases h⟩
    .refine ⟨x,y,⟨by rw[GB,eC (λe=>hj e.symm)];exact h.1,h.2⟩,eJ _,λh=> .inl h,λhl=>⟨hl,rfl,λ_=>⟨rfl,rfl,rfl⟩,λb h1 h2=>⟨h1,h2,rfl⟩⟩⟩)
   (λj x y b h hl hf=>by
    rcases back h with⟨_,rfl⟩|⟨_,h⟩
    .cases hl
    .exact .inr ⟨j,x,y,h,hl,hf⟩)
 refine⟨G,{len:=by simp[r.len],defs:=r.defs,ok:= ?_,fV:= ?_,eB:= ?_,tmps:=JJ hw (gQ k _ _ _ (by simp) r.tmps),size:=r.size,frame:=r.frame,base:=r.base,same:=r.same}⟩
 .intro j x y h hl;rcases back h with⟨_,rfl⟩|⟨_,h⟩
  .cases hl
  .exact (r.ok j x y h hl).keeps k (λ_ _=>rfl)
 .intro j1 j2 x1 x2 y1 y2 z h1 h2 l1 l2 f1 f2;rcases back h1 with⟨_,rfl⟩|⟨_,h1⟩
  .cases l1
  .rcases back h2 with⟨_,rfl⟩|⟨_,h2⟩
   .cases l2
   .exact r.fV _ _ _ _ _ _ z h1 h2 l1 l2 f1 f2
 .intro j x y z h hl hf;rcases back h with⟨_,rfl⟩|⟨_,h⟩
  .cases hl
  .exact r.eB _ _ _ z h hl hf
def aBk:∀a b:List UInt8,Lib.compareBytes a b=if a=b then 0 else if Op.bytesLess a b=true then -1 else 1
 |[],[]=>rfl
 |[],_::_=>by simp[Lib.compareBytes,Op.bytesLess]
 |_::_,[]=>by simp[Lib.compareBytes,Op.bytesLess]
 |x::xs,y::ys=>by
  have ih:=aBk xs ys;simp only[Lib.compareBytes,Op.bytesLess];by_cases h:x<y
  .have jE:x≠y:=UInt8.ne_of_lt h;simp[h,jE]
  .by_cases h2:y<x
   .have jE:x≠y:=(UInt8.ne_of_lt h2).symm;simp[h,h2,jE]
   .have he:x=y:=UInt8.le_antisymm (UInt8.not_lt.1 h2) (UInt8.not_lt.1 h);subst he;simp[h,ih]
def nz{P:Program}[aG P]{f:FuncId}{fn:Func}(hf:P.funcs[f]? =some fn)(dz:(fn.name == "runtime.NumGoroutine")=false)
  (hb:fn.body.isNone=true) (hn:Extern.findNext fn=none) (he:Extern.find fn=some Extern.BytealgCompare.compare) (s t:bE):
  OkN P f [.str s,.str t] (.int .i64 (Lib.compareBytes s t)):=by
 intro w vs h;obtain⟨v1,h⟩:∃v:Value,vs=[.string ⟨s.toArray⟩,.string ⟨t.toArray⟩]:=by
  cases vs with
  |nil=>simp[Rc]at h
  |cons a vs=>cases vs with
   |nil=>simp[Rc]at h
   |cons b vs=>cases vs with
    |nil=>simp only[Rc,R]at h;obtain⟨f1,f2,h1,h2,h3⟩:=h;obtain⟨f3,f4,h4,h5,h6⟩:=h2;exact⟨a,by rw[h1.1,h4.1]⟩
    |cons d vs=>simp only[Rc,R]at h;obtain⟨f1,f2,h1,h2,h3⟩:=h;obtain⟨f3,f4,h4,h5,h6⟩:=h2;simp[Rc]at h5
 subst h;refine⟨.int .i64 (Lib.compareBytes s t),w,?_,rfl,nZ.rfl,λ_ _=>by simp[R]⟩;rw[run_callFunc_extern hf dz hb hn he,show [Value.string ⟨s.toArray⟩,Value.string ⟨t.toArray⟩].toArray=#[Value.string ⟨s.toArray⟩,Value.string ⟨t.toArray⟩]from rfl,Go.Lib.run_compareString];rfl
def uo{w:World}{E:Env}{code:List UInt8}{i h:Int}{a:Option Addr}{cap:Nat}{fp:List Nat}(ho:uH w E 3 [bH code i h] a cap fp):code.length<=maxLen:=by
 rcases ho.2 with h0|⟨b,off,C,e,fz,sH,ha,hb,hz,h1,h2,h3,hf,hr⟩
 .exact absurd h0.1 (by simp)
 .simp only[Rr,bH]at hr;obtain⟨cs,f1,f2,hn,hc,hone,wK,hf2,hfe⟩:=hr;cases cs with
  |nil=>simp at hn
  |cons v0 cs=>
   simp only[Rc,R]at wK;obtain⟨g1,g2,r1,_⟩:=wK;rcases r1 with h|⟨_,_,_,hl,_⟩
   .exact h.1.elim
   .simpa [bL]using hl.1
def Va(P:Program)(fn:Func)(s:AS)(code:List UInt8)(r:AV): Prop :=
  s.t.getD 0 .aB = .ptr 0 2 0 0 /\ (∃ i h:Int, 0 <= i /\ s.o[0]? = some ⟨true, true, 3, 2, [bH code i h]⟩) /\
  ((∃ ys, s.Az P fn.results.toList = some ys /\ kV s.o (bX ys) = true /\ (0 :: mG (bX ys)).Nodup /\ res s.o (bX ys) = r) \/
   (∃ j ys, s.Cc P fn.results.toList = some (j, ys) /\ kV s.o (bX ys) = true /\ (0 :: mG (bX ys)).Nodup /\ j ∉ mG (bX ys) /\ j ≠ 0 /\ res s.o (bX ys) = r))
def Vb{P:Program}[aG P](hm:P.follows .mixedOrders=true){f:FuncId}{fn:Func}{c:Code}(hf:P.funcs[f]? =some fn)(hb:fn.body=some c){xs:List AV}{Q:AV->Prop}(Dj:xs.all jB=true)
  (h:∀code i h,0<=i->code.length<=maxLen->qA P c ⟨.ptr 0 2 0 0::xs++replicate (fn.ntmps-(xs.length+1)) .aB,[⟨true,true,3,2,[bH code i h]⟩]⟩ (λe s=>(e= .normal\/e= .ret)/\∃r,Q r/\Va P fn s code r)):Hf P f xs Q:=by
 intro w S b fo cap code vs hg hlow hbl hSb hS aFs hargs;obtain⟨i,h',hi,eQ⟩:=aFs;have aZn:code.length<=maxLen:=uo eQ;have hl:=iY hargs;generalize hB:(⟨w,λx=>S x\/x=b,(· =b),λ_=>none,λj=>if j=0 then some (.pointer (some ⟨b,fo,none⟩),cap)else none,hg,λx e=>by rw[e];exact hlow,λx e=> .inr e⟩:gL P)=B;have RF:B.w0=w:=by rw[<-hB]
 have hA0:∀x,B.A0 x↔(S x\/x=b):=by intro x;rw[<-hB]
 have hO0:∀x,B.O0 x↔x=b:=by intro x;rw[<-hB]
 have ze:B.p0 0=some (.pointer (some ⟨b,fo,none⟩),cap):=by rw[<-hB];rfl
 have hh0:∀j,B.h0 j=none:=by intro j;rw[<-hB]
 generalize wF:(⟨true,true,3,2,[bH code i h']⟩:aI)=ob;generalize wB:(⟨some ⟨b,fo,none⟩,cap,(· =b)⟩:CO)=go;have aNp:ob.fT=true/\ob.box=true/\ob.n=3/\ob.bY=2/\ob.fM=[bH code i h']:=by rw[<-wF];exact⟨rfl,rfl,rfl,rfl,rfl⟩
 have Y9:go.a=some ⟨b,fo,none⟩/\go.cap=cap/\∀x,go.F x↔x=b:=by rw[<-wB];exact⟨rfl,rfl,λ_=>Iff.rfl⟩
 have lk0:∀{j o2 g2},look [ob] [go] j o2 g2->j=0/\o2=ob/\g2=go:=by
  rintro j o2 g2 ⟨h1,h2⟩;cases j with
  |zero=>simp at h1 h2;exact⟨rfl,h1.symm,h2.symm⟩
  |succ j=>simp at h1
 have hlk:look [ob] [go] 0 ob go:=⟨rfl,rfl⟩;have hEA:∀x,S x->(env B [ob] [go] w).A x:=λx hx=>⟨.inl ((hA0 x).2 (.inl hx)),λj o2 g2 h2 _ hF=>by
  obtain⟨_,_,rfl⟩:=lk0 h2;exact hSb (((Y9.2.2 x).1 hF)▸hx)⟩
 have r0:fZ B ⟨.ptr 0 2 0 0::xs++replicate (fn.ntmps-(xs.length+1)) .aB,[ob]⟩ [go] {tmps:=(.pointer (some ⟨b,fo,none⟩)::vs).toArray++Array.replicate (fn.ntmps-(.pointer (some ⟨b,fo,none⟩)::vs).toArray.size) Go.undef,defers:=[]} w:=by
  refine⟨rfl,rfl,?_,?_,?_,?_,by rw[RF];exact eJ _,λx _ _=>by rw[RF],?_,by rw[RF];exact nZ.rfl⟩
  .intro j o2 g2 h2 _;obtain⟨_,rfl,rfl⟩:=lk0 h2;refine⟨[b],?_,by simp,by simp[Y9.2.2]⟩;rw[aNp.2.1,aNp.2.2.1,aNp.2.2.2.2,Y9.1,Y9.2.1];simp only[Env.of,eS];exact BZ (E:=zM S) ⟨λx hx=>⟨hEA x hx,rfl⟩,λ_ _=>trivial,λ_ _ _ h=>h.elim,λ_ _ _ h=>h.elim,λ_ _ _ _ _ h=>h.elim⟩ eQ
  .intro j1 j2 o1 o2 g1 g2 x a1 a2 _ _ _ _;obtain⟨rfl,_,_⟩:=lk0 a1;obtain⟨rfl,_,_⟩:=lk0 a2;rfl
  .intro j o2 g2 x h2 _ hF;obtain⟨_,rfl,rfl⟩:=lk0 h2;have:=(Y9.2.2 x).1 hF;exact⟨.inl ((hO0 x).2 this),by rw[this];exact hbl⟩
  .have h1:Rc w (env B [ob] [go] w) xs vs []:=WO (E:=zM S) (E':=env B [ob] [go] w) ⟨λx hx=>⟨hEA x hx,rfl⟩,λ_ _=>trivial,λ_ _ _ h=>h.elim,λ_ _ _ h=>h.elim,λ_ _ _ _ _ h=>h.elim⟩ Dj hargs
   have h2:∀n,Rc w (env B [ob] [go] w) (replicate n .aB) (replicate n Go.undef) []:=by
    intro n;induction n with
    |zero=>simp[Rc]
    |succ n ih=>simp only[oX,Rc];exact⟨[],[],by simp[R],ih,rfl⟩
   have h3:R w (env B [ob] [go] w) (.ptr 0 2 0 0) (.pointer (some ⟨b,fo,none⟩)) []:=by simp only[R];refine⟨trivial,ob,go,hlk,by rw[aNp.2.2.2.1];exact eJ _,λ_ _=>⟨b,fo,Y9.1,by simp⟩,λ_ _ _ _ x hx=> ?_⟩;rw[ze]at hx;obtain rfl:=cX hx;exact⟨rfl,λ_ _=>Y9.2.1⟩
   have:=mJ (mJ (f1:=[]) (f2:=[]) (show Rc w (env B [ob] [go] w) [.ptr 0 2 0 0] [.pointer (some ⟨b,fo,none⟩)] []by simp only[Rc];exact⟨[],[],h3,rfl,rfl⟩) h1) (h2 (fn.ntmps-(xs.length+1)));simpa [hl]using this
  .intro x hx;rw[RF];rcases(hA0 x).1 hx with h|h
   .exact hS x h
   .rw [h];exact hbl
 refine Ge hf hb (Hj (rG hm c _ _ (wF▸h code i h' hi aZn) _ _ ⟨_,r0⟩) λe a w' he=> ?_);obtain⟨s,⟨he,rv,hQ,ht,⟨i2,h2,hi2,ho2⟩,KO⟩,G,r⟩:=he;have aVq:AV.gB s.o 0 2=some ⟨true,true,3,2,[bH code i2 h2]⟩:=by simp[AV.gB,ho2]
 obtain⟨g,b2,f2,LV,jA,aVr,hv2⟩:=r.ptr (x:= .tmp 0) ht aVq;have G9:=r.pin (x:= .tmp 0) ht aVq LV rfl rfl rfl rfl _ ze;rw[hv2]at G9;obtain⟨hp1,hp2⟩:=G9;have uJ:g.cap=cap:=hp2 rfl rfl;simp only[CN,Nat.zero_mul,sE,eI,oS,pS]at hp1;obtain⟨rfl,rfl⟩:=hp1;obtain⟨Vx,Gn,_,zt⟩:=r.ok 0 _ g LV rfl;simp only[Env.of,eS]at Gn;obtain⟨b3,aZo,ha3,rfl⟩:=FC Gn;rw[aVr]at ha3;simp only[eI,oS,pS]at ha3;obtain⟨rfl,rfl⟩:=ha3;have Gj:g.F b2:=zt b2 (by simp);have key:∃(v:Value) (fp:List Nat),(results fn a.tmps).run P w'= .ok v w'/\R w' (env B s.o G w').plain rv v fp/\fp.Nodup/\∀x∈fp,∃j ob g,j≠0/\look s.o G j ob g/\ob.fT=true/\g.F x:=by
  rcases KO with⟨ys,Md,rP,hu,lI⟩|⟨j,ys,Md,rP,hu,hj,hj0,lI⟩
  .obtain ⟨v,hrun,hR⟩:=wU r Md;rw[nF]at hu;obtain⟨fp,h1,h2,h3⟩:=GU r _ v rP hu.2 hR;rw[lI]at h1;exact⟨v,fp,hrun,h1,h2,λx hx=>by obtain⟨j,ob,g,hj,h⟩:=h3 x hx;exact⟨j,ob,g,λe=>hu.1 (e▸hj),h⟩⟩
  .obtain ⟨v,Vx,zf,g1,aVs,Lv,hrun,hR,hnd,hF⟩:=Ce r Md;rw[nF]at hu;obtain⟨fp,h1,h2,h3⟩:=SH r aVs Lv _ v Vx rP hu.2 hj hnd hF hR;rw[lI]at h1;refine⟨v,fp,hrun,h1,h2,λx hx=> ?_⟩;rcases h3 x hx with h|⟨j2,ob',g',hj2,h⟩
   .exact ⟨j,zf,g1,hj0,aVs,Lv,hF x h⟩
   .exact ⟨j2,ob',g',λe=>hu.1 (e▸hj2),h⟩
 obtain⟨v,fp,hrun,k1,k2,k3⟩:=key;have Jq:∀x∈fp,w.heap.size<=x/\x<w'.heap.size:=λx hx=>by
  obtain⟨j,zf,g1,hj,hl1,Lv,hF⟩:=k3 x hx;have:=r.eB _ _ _ x hl1 Lv hF;refine⟨?_,this.2⟩;rcases this.1 with h|h
  .have e:=(hO0 x).1 h;exact absurd (r.fV _ _ _ _ _ _ x hl1 LV Lv rfl hF (e▸Gj)) hj
  .rwa [RF]at h
 have hkp:fG w' (env B s.o G w').plain w' (zM λx=>(S x\/(w.heap.size<=x/\x<w'.heap.size))/\x∉fp):=by
  refine⟨λx hx=>⟨⟨?_,λhm=> ?_⟩,rfl⟩,λ_ _=>trivial,λ_ _ _ h=>h.elim,λ_ _ _ h=>h.elim,λ_ _ _ _ _ h=>h.elim⟩
  .rcases hx.1 with h|h
   .rcases (hA0 x).1 h with h|h
    .exact .inl h
    .exact absurd (h▸Gj) (hx.2 _ _ _ LV rfl)
   .rw [RF]at h;exact .inr h
  .obtain ⟨j,zf,g1,_,hl1,Lv,hF⟩:=k3 x hm;exact hx.2 _ _ _ hl1 Lv hF
 have hfin:∃r v' fp,Ending.returned v= .returned v'/\Q r/\R w' (zM λx=>(S x\/(w.heap.size<=x/\x<w'.heap.size))/\x∉fp) r v' fp/\fp.Nodup/\(∀x∈fp,w.heap.size<=x/\x<w'.heap.size)/\w.heap.size<=w'.heap.size/\
   (∀x,x<w.heap.size->x≠b2->w'.heap[x]? =w.heap[x]?)/\nZ w w'/\Ma w' (λx=>(S x\/(w.heap.size<=x/\x<w'.heap.size))/\x∉fp) b2 f2 cap code:=by
  refine⟨rv,v,fp,rfl,hQ,oV hkp _ _ _ (λ_ _=>rfl) k1,k2,Jq,by have:=r.size;rwa[RF]at this,λx hx jE=> ?_,by have:=r.same;rwa[RF]at this,i2,h2,hi2,?_⟩
  .have:=r.frame x (by rw[RF];exact hx) (λh=>jE ((hO0 x).1 h))
   rwa[RF]at this
  .rw [aVr,uJ]at Gn;exact BZ ⟨λx hx=>hkp.1 x hx,λ_ _=>trivial,λ_ _ _ h=>h.elim,λ_ _ _ h=>h.elim,λ_ _ _ _ _ h=>h.elim⟩ Gn
 rcases he with rfl|rfl
 .exact ⟨r.defs,v,hrun,hfin⟩
 .exact ⟨r.defs,v,hrun,hfin⟩
def Vd{P:Program}[aG P](hm:P.follows .mixedOrders=true){f:FuncId}{fn:Func}{c:Code}(hf:P.funcs[f]? =some fn)(hb:fn.body=some c){args:List AV}{Q:AV->Prop}(Dj:args.all jB=true)
  (h:qA P c ⟨args++replicate (fn.ntmps-args.length) .aB,[]⟩ (λe s=>(e= .normal\/e= .ret)/\∃r,Q r/\(qK P fn s r\/Eh P fn s r))):OkE P f args Q:=by
 intro w S vs hg hS hargs;have hl:=iY hargs;have r0:fZ ⟨w,S,λ_=>False,λ_=>none,λ_=>none,hg,λ_ h=>h.elim,λ_ h=>h.elim⟩ ⟨args++replicate (fn.ntmps-args.length) .aB,[]⟩ [] {tmps:=vs.toArray++Array.replicate (fn.ntmps-vs.toArray.size) Go.undef,defers:=[]} w:=by
  refine⟨rfl,rfl,λi ob g hl=>by simp[look]at hl,λi j oi oj gi gj b hl=>by simp[look]at hl,λi ob g b hl=>by simp[look]at hl,?_,eJ _,λ_ _ _=>rfl,λb hb=>hS b hb,nZ.rfl⟩;have h1:Rc w (env ⟨w,S,λ_=>False,λ_=>none,λ_=>none,hg,λ_ h=>h.elim,λ_ h=>h.elim⟩ [] [] w) args vs []:=
   WO (E:=zM S) (E':=env ⟨w,S,λ_=>False,λ_=>none,λ_=>none,hg,λ_ h=>h.elim,λ_ h=>h.elim⟩ [] [] w) ⟨λx hx=>⟨⟨.inl hx,λi ob g hl=>by simp[look]at hl⟩,rfl⟩,λ_ _=>trivial,λ_ _ _ h=>h.elim,λ_ _ _ h=>h.elim,λ_ _ _ _ _ h=>h.elim⟩ Dj hargs
  have h2:∀n,Rc w (env ⟨w,S,λ_=>False,λ_=>none,λ_=>none,hg,λ_ h=>h.elim,λ_ h=>h.elim⟩ [] [] w) (replicate n .aB) (replicate n Go.undef) []:=by
   intro n;induction n with
   |zero=>simp[Rc]
   |succ n ih=>simp only[oX,Rc];exact⟨[],[],by simp[R],ih,rfl⟩
  have:=mJ h1 (h2 (fn.ntmps-args.length));simpa [hl]using this
 refine Ge hf hb (Hj (rG hm c _ _ h _ _ ⟨_,r0⟩) λe a w' he=> ?_);obtain⟨s,⟨he,rr,hQ,KO⟩,G,r⟩:=he;have key:∃(v:Value) (fp:List Nat),(results fn a.tmps).run P w'= .ok v w'/\R w' (env ⟨w,S,λ_=>False,λ_=>none,λ_=>none,hg,λ_ h=>h.elim,λ_ h=>h.elim⟩ s.o G w').plain rr v fp/\fp.Nodup/\∀b∈fp,∃j ob g,look s.o G j ob g/\ob.fT=true/\g.F b:=by
  rcases KO with⟨ys,Md,rP,hu,lI⟩|⟨i,ys,Md,rP,hu,hi,lI⟩
  .obtain ⟨v,hrun,hR⟩:=wU r Md;obtain⟨fp,h1,h2,h3⟩:=GU r _ v rP hu hR;rw[lI]at h1;exact⟨v,fp,hrun,h1,h2,λb hb=>by obtain⟨i,ob,g,_,h⟩:=h3 b hb;exact⟨i,ob,g,h⟩⟩
  .obtain ⟨v,Vx,ob,g,hlk,aY,hrun,hR,hnd,hF⟩:=Ce r Md;obtain⟨fp,h1,h2,h3⟩:=SH r hlk aY _ v Vx rP hu hi hnd hF hR;rw[lI]at h1;refine⟨v,fp,hrun,h1,h2,λb hb=> ?_⟩;rcases h3 b hb with h|⟨j,ob',g',_,h⟩
   .exact ⟨i,ob,g,hlk,aY,hF b h⟩
   .exact ⟨j,ob',g',h⟩
 obtain⟨v,fp,hrun,h1,h2,h3⟩:=key;have hfin:∃r v' fp,Ending.returned v= .returned v'/\Q r/\R w' (zM λx=>(S x\/(w.heap.size<=x/\x<w'.heap.size))/\x∉fp) r v' fp/\fp.Nodup/\(∀b∈fp,w.heap.size<=b/\b<w'.heap.size)/\w.heap.size<=w'.heap.size/\(∀b,b<w.heap.size->w'.heap[b]? =w.heap[b]?)/\nZ w w':=by
  refine⟨rr,v,fp,rfl,hQ,?_,h2,λb hb=> ?_,r.size,λb hb=>r.frame b hb (λh=>h),r.same⟩
  .have k:fG w' (env ⟨w,S,λ_=>False,λ_=>none,λ_=>none,hg,λ_ h=>h.elim,λ_ h=>h.elim⟩ s.o G w').plain w' (zM λx=>(S x\/(w.heap.size<=x/\x<w'.heap.size))/\x∉fp):=
    ⟨λb hb=>⟨⟨hb.1,λhm=>by
     obtain⟨j,ob,g,hl,aY,hF⟩:=h3 b hm;exact hb.2 j ob g hl aY hF⟩,rfl⟩,λ_ _=>trivial,λ_ _ _ h=>h.elim,λ_ _ _ h=>h.elim,λ_ _ _ _ _ h=>h.elim⟩
   exact oV k _ _ _ (λ_ _=>rfl) h1
  .obtain ⟨i,ob,g,hl,aY,hF⟩:=h3 b hb;have:=r.eB _ _ _ b hl aY hF;exact⟨this.1.resolve_left (λh=>h),this.2⟩
 rcases he with rfl|rfl
 .exact ⟨r.defs,v,hrun,hfin⟩
 .exact ⟨r.defs,v,hrun,hfin⟩
def aVt{w w':World}{S:Nat->Prop}{fp:List Nat}(h3:∀b∈fp,w.heap.size<=b/\b<w'.heap.size):pG (λ_=>some .view) false (zM λx=>(S x\/(w.heap.size<=x/\x<w'.heap.size))/\x∉fp) (zM λx=>(S x\/(w.heap.size<=x/\x<w'.heap.size))/\x∉([]:List Nat)) (· ∈fp):=
 {own:=λg e=>by obtain rfl:=cX e;exact⟨by simp,λb hb=>⟨.inr (h3 b hb),by simp⟩⟩
  view:=λg e=>by obtain rfl:=cX e;exact⟨rfl,λb hb=>⟨hb.1,by simp⟩⟩
  mQ:=λi g e=>by obtain rfl:=cX e;exact⟨by simp,.inl trivial,λb hb=>hb.elim⟩
  hh:=λh=>by cases h
  hl:=λh=>by cases h}
def Hf.Dk{P:Program}[aG P]{f:FuncId}{xs:List AV}{Q Q':AV->Prop}(h:Hf P f xs Q)(hq:∀r,Q r->Q' (rt (λ_=>some .view) false r)):Hf P f xs Q':=by
 intro w S b fo cap code vs a1 a2 a3 a4 a5 a6 a7;refine Calls.mono (h w S b fo cap code vs a1 a2 a3 a4 a5 a6 a7) λe w' he=> ?_
 obtain⟨r,v,fp,rfl,hQ,h1,h2,h3,h4,h5,h6,i,g,hi,hc⟩:=he;refine⟨_,v,[],rfl,hq r hQ,aKr (aVt h3) r v fp (λ_ h=>h) h1,by simp,by simp,h4,h5,h6,i,g,hi,?_⟩;exact BZ (E:=zM λx=>(S x\/(w.heap.size<=x/\x<w'.heap.size))/\x∉fp) ⟨λx (hx:(S x\/(w.heap.size<=x/\x<w'.heap.size))/\x∉fp)=>⟨⟨hx.1,by simp⟩,rfl⟩,λ_ _=>trivial,λ_ _ _ h=>h.elim,λ_ _ _ h=>h.elim,λ_ _ _ _ _ h=>h.elim⟩ hc
def OkE.Dk{P:Program}[aG P]{f:FuncId}{xs:List AV}{Q Q':AV->Prop}(h:OkE P f xs Q)(hq:∀r,Q r->Q' (rt (λ_=>some .view) false r)):OkE P f xs Q':=by
 intro w S vs a1 a5 a7;refine Calls.mono (h w S vs a1 a5 a7) λe w' he=> ?_
 obtain⟨r,v,fp,rfl,hQ,h1,h2,h3,h4,h5,h6⟩:=he;exact⟨_,v,[],rfl,hq r hQ,aKr (aVt h3) r v fp (λ_ h=>h) h1,by simp,by simp,h4,h5,h6⟩
def EE{P:Program}[aG P](hm:P.follows .mixedOrders=true){f:FuncId}{fn:Func}{c:Code}(hf:P.funcs[f]? =some fn){n:Nat}(hn:fn.ntmps=n){xs t:List AV}{Q:AV->Prop}
  (h:∀code i h,0<=i->code.length<=maxLen->qA P c ⟨t,[⟨true,true,3,2,[bH code i h]⟩]⟩ (λe s=>(e= .normal\/e= .ret)/\∃r,Q r/\Va P fn s code r)) (hb:fn.body=some c:=by rfl) (Dj:xs.all jB=true:=by simp[jB,wH])
  (ht: .ptr 0 2 0 0::xs++replicate (n-(xs.length+1)) .aB=t:=by
   simp only[eL,fL,Nat.reduceSub,Nat.reduceAdd,oX,tG,cW,eA];rfl):Hf P f xs Q:=by
 subst ht;subst hn;exact Vb hm hf hb Dj h
def aVu{P:Program}[aG P](hm:P.follows .mixedOrders=true){f:FuncId}{fn:Func}{c:Code}(hf:P.funcs[f]? =some fn){n:Nat}(hn:fn.ntmps=n){args t:List AV}{Q:AV->Prop}
  (h:qA P c ⟨t,[]⟩ (λe s=>(e= .normal\/e= .ret)/\∃r,Q r/\(qK P fn s r\/Eh P fn s r))) (hb:fn.body=some c:=by rfl) (Dj:args.all jB=true:=by simp[jB,wH])
  (ht:args++replicate (n-args.length) .aB=t:=by
   simp only[eL,fL,Nat.reduceSub,Nat.reduceAdd,oX,tG,cW,eA];rfl):OkE P f args Q:=by
 subst ht;subst hn;exact Vd hm hf hb Dj h
section
variable{P:Program}[aG P]{dst:Option Tmp}{ty:TypeId}{pos:String}{after:Array Edge}{gd:Option (Nat × Bool)}{s:AS}{X:AS -> Prop}{f:Operand}{NL:Array TypeId}{g:FuncId}
def cu{x:Operand}{zs:List Operand}{xs:List AV}{Q:AV->Prop}{k bY:Nat}{code:List UInt8}{i h:Int}(hc:Hf P g xs Q)
  (hn:∀rv i' h',Q rv->0<=i'->X (s.drew dst k bY code i' h' rv)) (hf:s.ev f= .fn g []:=by rfl) (hx:s.ev x= .ptr k bY 0 0:=by first|rfl|(simp;done))
  (ho:AV.gB s.o k bY=some ⟨true,true,3,bY,[bH code i h]⟩:=by first|rfl|(simp[bH];done)) (h0:0<=i:=by first|assumption|omega) (hxs:zs.map s.ev=xs:=by first|rfl|(simp;done)) (hfl:xs.all jB=true:=by first|rfl|(simp[jB,wH];done)) (aJd:bV P g=true:=by simp):
  Nx 1 P ⟨dst,.call {callee:= .value f,args:=⟨x::zs⟩,argTypes:=NL},ty,pos,after,gd⟩ s X:=by
 refine H8 ?_;unfold VK;simp only[hf];exact⟨aJd,.inl ⟨x,zs,k,bY,code,i,h,Q,rfl,hx,ho,h0,by rw[hxs];exact hfl,by rw[hxs];exact hc,hn⟩⟩
def cn{x:Operand}{code:List UInt8}(hc:aCa P g)(hn:∀i h,0<=i->X (s.SN dst code i h))(hf:s.ev f= .fn g []:=by rfl)(hx:s.ev x= .sl .view 1 (bL code):=by first|rfl|(simp;done))(aJd:bV P g=true:=by simp):
  Nx 1 P ⟨dst,.call {callee:= .value f,args:=#[x],argTypes:=NL},ty,pos,after,gd⟩ s X:=by
 refine H8 ?_;unfold VK;simp only[hf];exact⟨aJd,.inr (.inl ⟨x,code,rfl,hx,hc,hn⟩)⟩
def ce{ys:List Operand}{xs:List AV}{Q:AV->Prop}(hc:OkE P g xs Q)(hn:∀rv,Q rv->X (s.bW dst rv))(hf:s.ev f= .fn g []:=by rfl)(hxs:ys.map s.ev=xs:=by first|rfl|(simp;done))(hfl:xs.all jB=true:=by first|rfl|(simp[jB,wH];done))(aJd:bV P g=true:=by simp):
  Nx 1 P ⟨dst,.call {callee:= .value f,args:=⟨ys⟩,argTypes:=NL},ty,pos,after,gd⟩ s X:=by
 refine H8 ?_;unfold VK;simp only[hf];exact⟨aJd,.inr (.inr (.inl ⟨Q,⟨by rw[hxs];exact hfl,by rw[hxs];exact hc⟩,hn⟩))⟩
end
def rW{P:Program}{fn:Func}{s:AS}{code:List UInt8}{Q:AV->Prop}{ys:List AV}{i h:Int}(Md:s.Az P fn.results.toList=some ys)(ht:s.t.getD 0 .aB= .ptr 0 2 0 0)(ho:s.o[0]? =some ⟨true,true,3,2,[bH code i h]⟩)(hi:0<=i)
  (rP:kV s.o (bX ys)=true) (hu:(0::mG (bX ys)).Nodup) (hq:Q (res s.o (bX ys))):∃r,Q r/\Va P fn s code r:=
 ⟨_,hq,ht,⟨i,h,hi,ho⟩,.inl ⟨ys,Md,rP,hu,rfl⟩⟩
def aVv{P:Program}{fn:Func}{s:AS}{code:List UInt8}{Q:AV->Prop}{ys:List AV}{k:Nat}{i h:Int}(Md:s.Cc P fn.results.toList=some (k,ys))(ht:s.t.getD 0 .aB= .ptr 0 2 0 0)(ho:s.o[0]? =some ⟨true,true,3,2,[bH code i h]⟩)(hi:0<=i)
  (rP:kV s.o (bX ys)=true) (hu:(0::mG (bX ys)).Nodup) (hk:k∉mG (bX ys)) (hk0:k≠0) (hq:Q (res s.o (bX ys))):∃r,Q r/\Va P fn s code r:=
 ⟨_,hq,ht,⟨i,h,hi,ho⟩,.inr ⟨k,ys,Md,rP,hu,hk,hk0,rfl⟩⟩
def aJe(P:Program)(fn:Func)(s:AS)(code:List UInt8):Prop:=∃(k bY:Nat) (i h:Int),s.Az P fn.results.toList=some [.ptr k bY 0 0]/\AV.gB s.o k bY=some ⟨true,true,3,bY,[bH code i h]⟩/\0<=i
def Z0{P:Program}[aG P](hm:P.follows .mixedOrders=true){f:FuncId}{fn:Func}{c:Code}(hf:P.funcs[f]? =some fn)(hb:fn.body=some c)
  (h:∀code:List UInt8,code.length<=maxLen->qA P c ⟨[.sl .view 1 (bL code)]++replicate (fn.ntmps-1) .aB,[]⟩ (λe s=>(e= .normal\/e= .ret)/\aJe P fn s code)):aCa P f:=by
 intro w S v code hg hS hv;have hl0:code.length<=maxLen:=by
  simp only[R]at hv;rcases hv with h|⟨_,_,_,hl,_⟩
  .exact h.1.elim
  .simpa [bL]using hl.1
 have r0:fZ ⟨w,S,λ_=>False,λ_=>none,λ_=>none,hg,λ_ h=>h.elim,λ_ h=>h.elim⟩ ⟨[.sl .view 1 (bL code)]++replicate (fn.ntmps-1) .aB,[]⟩ [] {tmps:=#[v]++Array.replicate (fn.ntmps-(#[v]:Array Value).size) Go.undef,defers:=[]} w:=by
  refine⟨rfl,rfl,λi ob g hl=>by simp[look]at hl,λi j oi oj gi gj b hl=>by simp[look]at hl,λi ob g b hl=>by simp[look]at hl,?_,eJ _,λ_ _ _=>rfl,λb hb=>hS b hb,nZ.rfl⟩;have h1:Rc w (env ⟨w,S,λ_=>False,λ_=>none,λ_=>none,hg,λ_ h=>h.elim,λ_ h=>h.elim⟩ [] [] w) [.sl .view 1 (bL code)] [v] []:=by simp only[Rc];exact⟨[],[],Rz (E:=zM S) ⟨λb hb=>⟨⟨.inl hb,λi ob g hl=>by simp[look]at hl⟩,rfl⟩,λ_ _=>trivial,λ_ _ _ h=>h.elim,λ_ _ _ h=>h.elim,λ_ _ _ _ _ h=>h.elim⟩ hv,rfl,rfl⟩
  have h2:∀n,Rc w (env ⟨w,S,λ_=>False,λ_=>none,λ_=>none,hg,λ_ h=>h.elim,λ_ h=>h.elim⟩ [] [] w) (replicate n .aB) (replicate n Go.undef) []:=by
   intro n;induction n with
   |zero=>simp[Rc]
   |succ n ih=>simp only[oX,Rc];exact⟨[],[],by simp[R],ih,rfl⟩
  have:=mJ h1 (h2 (fn.ntmps-1));simpa using this
 refine Ge hf hb (Hj (rG hm c _ _ (h code hl0) _ _ ⟨_,r0⟩) λe a w' he=> ?_);obtain⟨s,⟨he,k,bY,i,h',Md,wF,hi⟩,G,r⟩:=he;obtain⟨u,hrun,hR⟩:=wU r Md;simp only[bX]at hR;have hR2:=hR;simp only[R]at hR2;obtain⟨_,ob,g,hl,_,hpt,_⟩:=hR2;obtain⟨h1,h2,h3⟩:=mV wF;obtain rfl:=cX (hl.1.symm.trans h1);obtain⟨b,fo,hga,hu⟩:=hpt rfl rfl;simp only[Nat.zero_mul,sE]at hu;obtain⟨Vx,eQ,_,hF⟩:=r.ok k _ g hl rfl;simp only[Env.of,eS]at eQ;obtain⟨b3,aZo,ha3,rfl⟩:=FC eQ;rw[hga]at ha3;simp only[eI,oS,pS]at ha3;obtain⟨rfl,rfl⟩:=ha3;have Gj:g.F b:=hF b (by simp);have hfr:=r.eB _ _ _ b hl rfl Gj;have hfin:∃b fo cap,Ending.returned u= .returned (.pointer (some ⟨b,fo,none⟩))/\w.heap.size<=b/\b<w'.heap.size/\Ma w' (λx=>(S x\/(w.heap.size<=x/\x<w'.heap.size))/\x≠b) b fo cap code/\
   w.heap.size<=w'.heap.size/\(∀b,b<w.heap.size->w'.heap[b]? =w.heap[b]?)/\nZ w w':=by
  refine⟨b,fo,g.cap,by rw[hu],hfr.1.resolve_left (λh=>h),hfr.2,⟨i,h',hi,?_⟩,r.size,λx hx=>r.frame x hx (λh=>h),r.same⟩;rw[hga]at eQ;exact BZ (E:=env ⟨w,S,λ_=>False,λ_=>none,λ_=>none,hg,λ_ h=>h.elim,λ_ h=>h.elim⟩ s.o G w') ⟨λx hx=>⟨⟨hx.1,λe=>hx.2 _ _ _ hl rfl (e▸Gj)⟩,rfl⟩,λ_ _=>trivial,λ_ _ _ h=>h.elim,λ_ _ _ h=>h.elim,λ_ _ _ _ _ h=>h.elim⟩ eQ
 rcases he with rfl|rfl
 .exact ⟨r.defs,u,hrun,hfin⟩
 .exact ⟨r.defs,u,hrun,hfin⟩
def oU{P:Program}[aG P]{o:Oper}{s s':AS}{X:AS->Prop}{i bY:Nat}{ob:aI}(wF:AV.gB s.o i bY=some ob)(hbx:ob.box=false)(h:Nx 1 P o s' X)(e:s.frozen i bY ob=s'):Nx 1 P o s X:=by subst e;exact sw (λ_ _ B a w hr=>Yv wF hbx hr) h
def aZp{P:Program}[aG P](hm:P.follows .mixedOrders=true){f:FuncId}{fn:Func}{c:Code}(hf:P.funcs[f]? =some fn){n:Nat}(hn:fn.ntmps=n){t:List AV}
  (h:∀code:List UInt8,code.length<=maxLen->qA P c ⟨.sl .view 1 (bL code)::t,[]⟩ (λe s=>(e= .normal\/e= .ret)/\aJe P fn s code)) (hb:fn.body=some c:=by rfl)
  (ht:replicate (n-1) AV.aB=t:=by
   simp only[Nat.reduceSub,Nat.reduceAdd,oX,tG];rfl):aCa P f:=by
 subst ht;subst hn;exact Z0 hm hf hb h
def Lx{P:Program}{fn:Func}{s:AS}{Q:AV->Prop}{ys:List AV}(Md:s.Az P fn.results.toList=some ys)(rP:kV s.o (bX ys)=true)(hu:(mG (bX ys)).Nodup)(hq:Q (res s.o (bX ys))):∃r,Q r/\(qK P fn s r\/Eh P fn s r):=
 ⟨_,hq,.inl ⟨ys,Md,rP,hu,rfl⟩⟩
def aVw{P:Program}[aG P](hm:P.follows .mixedOrders=true){f:FuncId}{fn:Func}{c c':Code}(L:List Nat)(hf:P.funcs[f]? =some fn){n:Nat}(hn:fn.ntmps=n){xs t:List AV}{Q:AV->Prop}
  (h:∀code i h,0<=i->code.length<=maxLen->qA P c' ⟨t,[⟨true,true,3,2,[bH code i h]⟩]⟩ (λe s=>(e= .normal\/e= .ret)/\∃r,Q r/\Va P fn s code r)) (hb:fn.body=some c:=by rfl) (Dj:xs.all jB=true:=by simp[jB,wH])
  (hc:yH (λi=>L.contains i) c=c':=by simp[yH];rfl)
  (ht: .ptr 0 2 0 0::xs++replicate (n-(xs.length+1)) .aB=t:=by
   simp only[eL,fL,Nat.reduceSub,Nat.reduceAdd,oX,tG,cW,eA];rfl):Hf P f xs Q:=by
 subst ht;subst hn;subst hc;rw[yI]at h;exact Vb hm hf hb Dj h
def aO6{P:Program}[aG P](hm:P.follows .mixedOrders=true){f:FuncId}{fn:Func}{c c':Code}(L:List Nat)(hf:P.funcs[f]? =some fn){n:Nat}(hn:fn.ntmps=n){args t:List AV}{Q:AV->Prop}
  (h:qA P c' ⟨t,[]⟩ (λe s=>(e= .normal\/e= .ret)/\∃r,Q r/\(qK P fn s r\/Eh P fn s r))) (hb:fn.body=some c:=by rfl) (Dj:args.all jB=true:=by simp[jB,wH])
  (hc:yH (λi=>L.contains i) c=c':=by simp[yH];rfl)
  (ht:args++replicate (n-args.length) .aB=t:=by
   simp only[eL,fL,Nat.reduceSub,Nat.reduceAdd,oX,tG,cW,eA];rfl):OkE P f args Q:=by
 subst ht;subst hn;subst hc;rw[yI]at h;exact Vd hm hf hb Dj h
def j4{P:Program}[aG P]{y:Code}{id:Nat}{ops:Array Oper}{s s2:AS}{Q:Exit->AS->Prop}(hw:mZ s s2)(h:qA P (.seq (.region id ops true) y) s2 Q):qA P (.seq (.region id ops true) y) s Q:=by unfold qA at h⊢;unfold qA at h⊢;exact λB a w Q0 hr hq=>h B a w Q0 (hw B a w hr) hq
def wz(P:Program)[aG P]{ι:Type}(l:List Oper)(S:(Nat->Bool)->ι->AS):Nat->List Oper->Prop
 |_,[]=>True
 |i,o::r=>(∀(J:Nat->Bool) (y:ι),zg l J->J i=false->(∀e∈pre o,J e=true)->mH P l [o] (S J y) λs'=>∃y',mZ s' (S (qX J i) y'))/\wz P l S (i+1) r
def xc{P:Program}[aG P]{ι:Type}{L:List Oper}{S:(Nat->Bool)->ι->AS}:∀{l:List Oper} {k i:Nat} {o:Oper},wz P L S k l->l[i]? =some o->
  ∀(J:Nat->Bool) (y:ι),zg L J->J (k+i)=false->(∀e∈pre o,J e=true)->mH P L [o] (S J y) λs'=>∃y',mZ s' (S (qX J (k+i)) y')
 |[],_,_,_,_,h=>by simp at h
 |x::xs,k,0,o,hd,h=>by simp at h;subst h;exact hd.1
 |x::xs,k,i+1,o,hd,h=>by
  have:=xc (k:=k+1) (i:=i) hd.2 (by simpa using h)
  rwa[show k+1+i=k+(i+1)by omega]at this
def aJr{P:Program}[aG P]{B:gL P}{ops:Array Oper}{Q:Exit->Act->World->Prop}{ι:Type}{S:(Nat->Bool)->ι->AS}(hfw:JP ops.toList=true)(hs:wz P ops.toList S 0 ops.toList)
  (he:∀J y,(∀i,i<ops.size->J i=true)->∀a w,Rel B (S J y) a w->Q .normal a w):
  ∀(n:Nat) (listed:Array Bool) (y:ι) (a:Act) (w:World),listed.size=ops.size->zg ops.toList (λi=>listed.getD i false)->left listed.toList=n->Rel B (S (λi=>listed.getD i false) y) a w->wpAny P .any ops Q n listed a w
 |0,listed,y,a,w,hl,hc,hn,r=>by
  have hall:∀i,i<ops.size->listed.getD i false=true:=by
   intro i hi;have hi':i<listed.size:=by omega
   have:=IX hn (i:=i) (b:=listed[i]) (by simp[hi']);simp[Array.getD,hi',this]
  refine⟨?_,he _ _ hall _ _ r⟩;rw[Ek];intro i hi;obtain⟨op,hop,h1,_⟩:=(mem_ready hl).1 hi;have BG:=(cU.1 hop).1;have:=hall i (by simpa using BG);rw[this]at h1;cases h1
 |n+1,listed,y,a,w,hl,hc,hn,r=>by
  constructor
  .intro hnil;exfalso;obtain⟨i,h1,h2⟩:=Mh (l:=listed.toList) (by omega);have hi:i<listed.size:=by have:=(cU.1 h1).1;simpa using this
   have BG:i<ops.toList.length:=by simp;omega
   have hop:=aE BG;have hg:∀j:Nat,listed.toList[j]? =listed[j]?:=λj=>Array.getElem?_toList
   have:i∈Region.ready .any ops listed:=(mem_ready hl).2 ⟨_,hop,by rw[gC,<-hg,h1];rfl,λe he=>by
    have:=h2 e (Jc hfw hop e he);rw[gC,<-hg,this];rfl⟩
   rw[hnil]at this;cases this
  .intro i hi;obtain⟨op,hop,h1,h2⟩:=(mem_ready hl).1 hi;have BG:=(cU.1 hop).1;have hil:i<listed.size:=by simp at BG;omega
   have hst:=xc hs hop (λj=>listed.getD j false) y hc (by rw[lR];exact h1) h2;rw[lR]at hst;unfold wpOp;have H5:ops[i]? =some op:=by simpa using hop
   rw[H5];have:=Om hst r (Kc:=wpAny P .any ops Q n (listed.setIfInBounds i true)) (Q:=Q) (λa' w' s' h' r'=>by
    simp only[mH]at h';obtain⟨y',hw⟩:=h';have hu:qX (λj=>listed.getD j false) i=λj=>(listed.setIfInBounds i true).getD j false:=by funext j;exact(Mm hil j).symm
    refine aJr hfw hs he n _ y' a' w' (by simpa using hl) ?_ ?_ ?_
    .rw [<-hu];intro j o hj hJ e he;unfold qX at hJ⊢;by_cases hji:j=i
     .subst hji;rw[hop]at hj;obtain rfl:=cX hj;have h3:=h2 e he;split
      .rfl
      .exact h3
     .rw [eC hji]at hJ;have h3:=hc j o hj hJ e he;split
      .rfl
      .exact h3
    .have h1':listed[i]? =some false:=by rw[gC,rS hil]at h1;rw[rS hil];exact As some h1
     have:=Hm (l:=listed.toList) (i:=i) (by simpa using h1');rw[BT];omega
    .rw [<-hu];exact hw B a' w' r')
   simpa using this
def RV{P:Program}[aG P]{id:Nat}{l:List Oper}{s:AS}{Q:Exit->AS->Prop}{ι:Type}(S:(Nat->Bool)->ι->AS)(y0:ι)(h0:mZ s (S (λ_=>false) y0))(hs:wz P l S 0 l)
  (he:∀J y,(∀i,i<l.length->J i=true)->Q .normal (S J y)) (hfw:JP l=true:=by decide+kernel):qA P (.region id (TT l.toArray) true) s Q:=by
 rw[vO];unfold qA;intro B a w Q0 hr hq;have hJ:(λi=>(Array.replicate l.toArray.size false).getD i false)=λ_=>false:=by funext i;simp only[gC,Fk];split<;>rfl
 have r2:Rel B s a {w with drawn:=w.drawn+1}:=by obtain⟨G,r⟩:=hr;exact⟨G,{len:=r.len,defs:=r.defs,ok:=λi ob g hl aY=>(r.ok i ob g hl aY).keeps (w':={w with drawn:=w.drawn+1}) ⟨λb h=>⟨h,rfl⟩,λ_ h=>h,λ_ _ _ h=>⟨h,rfl⟩,λ_ _ _ h=>h,λ_ _ _ _ _ h=>h⟩ (λ_ _=>rfl),fV:=r.fV,eB:=r.eB,tmps:=gQ (w:=w) (E:=env B s.o G w) (w':={w with drawn:=w.drawn+1}) (E':=env B s.o G {w with drawn:=w.drawn+1}) ⟨λb h=>⟨h,rfl⟩,λ_ h=>h,λ_ _ _ h=>⟨h,rfl⟩,λ_ _ _ h=>h,λ_ _ _ _ _ h=>h⟩ _ _ _ (by simp) r.tmps,size:=r.size,frame:=r.frame,base:=r.base,same:=r.same.trans ⟨rfl,rfl,rfl⟩}⟩
 refine aJr (ops:=l.toArray) (B:=B) (S:=S) (by simpa using hfw) (by simpa using hs) (λJ y h a' w' r'=>hq a' w' _ (he J y (by simpa using h)) r') _ _ y0 _ _ (by simp) (by rw[hJ];intro j o hj hJ;cases hJ) (by simp[left]) ?_;rw[hJ];exact h0 B _ _ r2
def un:Nat->List AV->List AV
 |0,l=>l
 |n+1,l=> .aB::un n l
def iv{p:Prop}(h:p:=by
 rintro J y hC hJ hP;simp[pre,Region.binds]at hP;simp only[dv,hJ,hP,eS,gE,fS,cY,eW];have W:=trivial;repeat' first|refine st ?_|(refine nx ?_;refine so ?_)|fail
 exact⟨y,aP (by simp[qX,hJ,hP]) (by simp[dv,qX,hJ,hP])⟩):p:=h
def QA{p:Prop}(h:p:=by
 rintro J y hC hJ hP;simp[pre,Region.binds]at hP;cases A;all_goals (simp only[dv,hJ,hP,eS,gE,fS,cY,eW];have W:=trivial)
 all_goals (repeat' first|refine st ?_|(refine nx ?_;refine so ?_)|fail)
 all_goals exact⟨y,aP (by simp[qX,hJ,hP]) (by simp[dv,qX,hJ,hP])⟩):p:=h
def Zt{P:Program}[aG P]{c1 c2:Code}{s:AS}{K:AS->Prop}{Q Q':Exit->AS->Prop}(aVx:AS->Prop)(hk:∀s',aVx s'->K s')
  (h:qA P c1 s (zA (λs'=>qA P c2 s' (λe s'=>e= .normal/\aVx s')) (λ_ _=>False))):qA P c1 s (zA (λs'=>qA P c2 s' (zA K Q)) Q'):=by
 refine DN c1 s _ _ (λe s' he=> ?_) h;cases e<;>simp only[zA]at he⊢;exact DN c2 s' _ _ (λe s'' hp=>by obtain⟨rfl,hp⟩:=hp;simp only[zA];exact hk _ hp) he
end
end Go.Aw
