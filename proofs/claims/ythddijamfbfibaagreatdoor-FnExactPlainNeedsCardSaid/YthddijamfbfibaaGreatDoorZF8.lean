/- Proved here: steps towards the statement of this claim. No condition. -/
import Derived.Test.YthddijamfbfibaaGreatDoorZF4
set_option linter.all false
namespace Go.Aw
open List
section
variable{P:Program}[aB P]{B:gN P}{s:AS}{dst:Option Tmp}{ty:TypeId}{pos:String}{after:Array Edge}{gd:Option (Nat × Bool)}
theorem NZ{o:List aN}:∀{c:List AV},(∀x∈c,x.iF=true)->vD o c=c/\nK o c=true/\kK c=[]
 |[],_=>⟨rfl,rfl,rfl⟩
 |x::xs,h=>by
  obtain⟨h1,h2,h3⟩:=NZ (o:=o) (c:=xs) λy hy=>h y (by simp[hy])
  have hx:=h x (by simp);cases x<;>simp only[AV.iF]at hx<;>first|(cases hx;done)|(simp[vD,nK,kK,res,jO,mE,h1,h2,h3])
theorem G5(t:TypeId)(len:Nat)(parts:Array (Nat×Operand)){e:TypeId}{n by' i:Nat}(he:nC P t=some (e,n,by'))(hz:iT P e n=true)(Nw:wX parts.toList=true)(hlen:len=parts.toList.length)(hbig:len*n<=16777216)(hbig2:len<=16777216)
  (hpl:∀x∈(parts.toList.map (·.2)).map s.ev,x.iF=true) (hgood:∀x∈(parts.toList.map (·.2)).map s.ev,x.yC=true/\x.cells.length=n) (hi':s.o[i]? =some ⟨true,false,n,0,[]⟩):
  Step P B ⟨dst,.buildSlice t len parts,ty,pos,after,gd⟩ s (AS.put ⟨s.t,s.o.set i ⟨true,false,n,1,((parts.toList.map (·.2)).map s.ev).map AV.cells⟩⟩ dst (.obj i 1)):=
 sO λG a w r=>by
  generalize hxs:parts.toList.map (·.2)=xs at*;have AY:parts.toList=(xs.zipIdx).map λp=>(p.2,p.1):=by rw[<-hxs];exact EI _ 0 Nw
  obtain⟨hp1,XH,hp3⟩:=NZ (o:=s.o) hpl;obtain⟨fp,wL,hnd,Pe⟩:=JP r _ _ XH (by rw[hp3];simp) (xP r xs);have JI:fp=[]:=by
   cases fp with
   |nil=>rfl
   |cons b _=>obtain⟨i,ob,g,hi,_⟩:=Pe b (by simp);rw[hp3]at hi;cases hi
  subst JI;rw[hp1]at wL;obtain⟨OX,hsz⟩:=QU wL hgood;have hvl:(xs.map a.eval).length=len:=by rw[hlen,<-hxs];simp
  have hrun:(execOp a.eval ⟨dst,.buildSlice t len parts,ty,pos,after,gd⟩).run P w= .ok (.value (.slice (some ⟨w.heap.size,0,none⟩) len len)) (w.alloc (.cells ((xs.map a.eval).flatMap λv=>v.cells.toList).toArray e)):=by
   have e1:parts.map (λ(i,x)=>(i,a.eval x))=(((xs.map a.eval).zipIdx).map λp=>(p.2,p.1)).toArray:=by apply Fi;simp only[Cl,AY,map_map,zipIdx_map];rfl
   have:=vF (P:=P) (t:=t) (len:=len) (w:=w) he hz hvl.symm hbig hsz;simp only[execOp,e1,oS,this,lP,tB]
  have hlt:i<G.length:=by rw[r.len];exact(cH.1 hi').1
  have hlk:Aw.look s.o G i ⟨true,false,n,0,[]⟩ G[i]:=⟨hi',aE hlt⟩;generalize G[i]=g at hlk;generalize hCd:((xs.map a.eval).flatMap λv=>v.cells.toList)=cs at*;have hcl:=jX OX;have hself:(w.alloc (.cells cs.toArray e)).heap[w.heap.size]? =some (.cells cs.toArray e):=fO w _;have hrl:((xs.map s.ev).map AV.cells).length=len:=by have:=gG wL;rw[mL,<-this,hvl]
  have hlm:len<=maxLen:=by simp only[maxLen];omega
  have hm:=r.modify hlk rfl ⟨true,false,n,1,(xs.map s.ev).map AV.cells⟩ ⟨some ⟨w.heap.size,0,none⟩,len,λb=>g.F b\/b=w.heap.size⟩ (w.alloc (.cells cs.toArray e)) (by simp) rfl (by simp)
   (λb hb=>by
    rcases hb with hb|hb
    .exact .inl hb
    .right;subst hb;simp) (λb hb hne=>⟨.inl hb,λa' wW=>by
     obtain rfl:=cQ wW;have:=(r.fresh _ _ _ b hlk rfl hb).2;simp only;omega⟩) (λb hlt _=>heap_alloc w _ b hlt) (by simp) (λk _=>by
   refine⟨[w.heap.size],?_,by simp,by simp⟩;generalize env B _ _ (w.alloc (.cells cs.toArray e))=E' at k⊢;simp only[Env.of,eS,hM];refine⟨by rw[hrl];exact hlm,.inr ⟨w.heap.size,0,cs.toArray,e,(0,0),[],rfl,hself,.inr rfl,?_,by rw[hrl];exact eC _,hlm,rfl,?_⟩⟩
   .simp [hcl];rw[<-hrl];simp
   .refine qD.2 ⟨cs,wQ k.plain (λb hb=>by cases hb) OX,?_⟩
    refine pO hself (λj v hv=>by simpa using hv))
  have hl2:Aw.look (s.o.set i ⟨true,false,n,1,(xs.map s.ev).map AV.cells⟩) (G.set i ⟨some ⟨w.heap.size,0,none⟩,len,λb=>g.F b\/b=w.heap.size⟩) i ⟨true,false,n,1,(xs.map s.ev).map AV.cells⟩ ⟨some ⟨w.heap.size,0,none⟩,len,λb=>g.F b\/b=w.heap.size⟩:=rQ hlk;refine⟨_,_,hrun,_,hm.1.put dst ?_⟩;simp only[R];exact⟨trivial,_,_,hl2,eC _,λ_ _=>by rw[hrl],λh=>absurd h (by decide)⟩
structure VF where
  at_:Nat
  n:Nat
  st:List (Nat × aN)
def G6(J:Nat->Bool)(h:aN):List (Nat×aN)->aN
 |[]=>h
 |q::r=>if J q.1=true then q.2 else G6 J h r
def vst(i:Nat)(pr:List Nat)(h dead:aN):List (Nat×aN)->aN
 |[]=>h
 |q::r=>if q.1∈pr then q.2 else if q.1=i\/i∈r.map (·.1)then vst i pr h dead r else dead
def hole(n:Nat):aN:=⟨true,false,n,0,[]⟩
def aGw(n:Nat):aN:=⟨false,false,n,0,[]⟩
def Av(J:Nat->Bool):List VF->List aN->List aN
 |[],o=>o
 |p::r,o=>Av J r (o.set p.at_ (G6 J (hole p.n) p.st))
def Ko(i:Nat)(pr:List Nat):List VF->List aN->List aN
 |[],o=>o
 |p::r,o=>Ko i pr r (o.set p.at_ (vst i pr (hole p.n) (aGw p.n) p.st))
def Tu(l:List Oper):List (Nat×aN)->Bool
 |[]=>true
 |[_]=>true
 |q::q'::r=>(nI l q.1).contains q'.1&&Tu l (q'::r)
def aLf(l:List Oper)(fl:List VF)(n:Nat):Bool:=
 decide (fl.map (·.at_)).Nodup&&(fl.all λp=>decide (p.at_<n)&&Tu l p.st&&decide (p.st.map (·.1)).Nodup&&p.st.all λq=>decide (q.1<l.length))&&decide ((fl.flatMap λp=>p.st.map (·.1))).Nodup
theorem Dh(J:Nat->Bool):∀(fl:List VF) (o:List aN),(Av J fl o).length=o.length
 |[],_=>rfl
 |q::r,o=>by simp only[Av];rw[Dh J r];simp
theorem GK(i:Nat)(pr:List Nat):∀(fl:List VF) (o:List aN),(Ko i pr fl o).length=o.length
 |[],_=>rfl
 |q::r,o=>by simp only[Ko];rw[GK i pr r];simp
theorem LK{J:Nat->Bool}{i:Nat}:∀{fl:List VF} {o:List aN},(∀q∈fl,q.at_≠i)->(Av J fl o)[i]? =o[i]?
 |[],_,_=>rfl
 |q::r,o,h=>by simp only[Av];rw[LK λp hp=>h p (by simp[hp]),lO (h q (by simp))]
theorem Ze{k:Nat}{pr:List Nat}{i:Nat}:∀{fl:List VF} {o:List aN},(∀q∈fl,q.at_≠i)->(Ko k pr fl o)[i]? =o[i]?
 |[],_,_=>rfl
 |q::r,o,h=>by simp only[Ko];rw[Ze λp hp=>h p (by simp[hp]),lO (h q (by simp))]
theorem LM{J:Nat->Bool}:∀{fl:List VF} {o:List aN} {q:VF},(fl.map (·.at_)).Nodup->q∈fl->q.at_<o.length->(Av J fl o)[q.at_]? =some (G6 J (hole q.n) q.st)
 |p::r,o,q,hn,hq,hl=>by
  simp only[Av];simp only[mB,lR]at hn;rcases gS.1 hq with rfl|hq
  .rw [LK λp hp e=>hn.1 (AG.2 ⟨p,hp,e⟩),mN hl]
  .exact LM hn.2 hq (by simpa using hl)
theorem lq{k:Nat}{pr:List Nat}:∀{fl:List VF} {o:List aN} {q:VF},(fl.map (·.at_)).Nodup->q∈fl->q.at_<o.length->(Ko k pr fl o)[q.at_]? =some (vst k pr (hole q.n) (aGw q.n) q.st)
 |p::r,o,q,hn,hq,hl=>by
  simp only[Ko];simp only[mB,lR]at hn;rcases gS.1 hq with rfl|hq
  .rw [Ze λp hp e=>hn.1 (AG.2 ⟨p,hp,e⟩),mN hl]
  .exact lq hn.2 hq (by simpa using hl)
theorem Kq{J J':Nat->Bool}:∀{fl:List VF} {o:List aN},(∀p∈fl,∀q∈p.st,J q.1=J' q.1)->Av J fl o=Av J' fl o
 |[],_,_=>rfl
 |p::r,o,h=>by
  simp only[Av];have:∀st:List (Nat×aN),(∀q∈st,J q.1=J' q.1)->G6 J (hole p.n) st=G6 J' (hole p.n) st:=by
   intro st;induction st with
   |nil=>intros;rfl
   |cons q r ih=>intro h;simp only[G6];rw[h q (by simp),ih λx hx=>h x (by simp[hx])]
  rw[this p.st (h p (by simp)),Kq λq hq=>h q (by simp[hq])]
theorem lu{J:Nat->Bool}{i:Nat}{pr:List Nat}{n:Nat}(hi:J i=false)(hp:∀e∈pr,J e=true):∀(st:List (Nat×aN)),(∀s1 q s2,st=s1++q::s2->J q.1=false->∀p∈s1,J p.1=false)->(vst i pr (hole n) (aGw n) st).live=true->vst i pr (hole n) (aGw n) st=G6 J (hole n) st
 |[],_,_=>rfl
 |q::r,aLg,h=>by
  simp only[vst,G6]at h⊢;by_cases h1:q.1∈pr
  .rw [eK h1,eK (hp _ h1)]
  .rw [cY h1]at h⊢;by_cases h2:q.1=i\/i∈r.map (·.1)
   .rw [eK h2]at h⊢;have hq:J q.1=false:=by
     rcases h2 with h2|h2
     .rw [h2];exact hi
     .obtain ⟨x,hx,rfl⟩:=AG.1 h2;obtain⟨r1,r2,rfl⟩:=append_of_mem hx;exact aLg (q::r1) x r2 rfl hi q (by simp)
    rw[hq,cY (by simp)];exact lu hi hp r (λs1 x s2 e hx p hp=>aLg (q::s1) x s2 (by rw[e];rfl) hx p (by simp[hp])) h
   .rw [cY h2]at h;cases h
theorem XI{l:List Oper}{q:Nat×aN}{r:List (Nat×aN)}(h:Tu l (q::r)=true):Tu l r=true:=by
 cases r with
 |nil=>rfl
 |cons q' r=>simp only[Tu,eI]at h;exact h.2
theorem Tv{l:List Oper}{J:Nat->Bool}(hJ:Clo l J)(hlen:∀i,J i=true->i<l.length):∀{s1:List (Nat×aN)} {q:Nat×aN} {s2:List (Nat×aN)},Tu l (s1++q::s2)=true->J q.1=false->∀p∈s1,J p.1=false
 |[],_,_,_,_=>λ_ hp=>by cases hp
 |x::s1,q,s2,h,hq=>by
  have ih:=Tv hJ hlen (XI h) hq;intro p hp;rcases gS.1 hp with rfl|hp
  .cases hJp:J p.1 with
   |false=>rfl
   |true=>
    exfalso;have hnx:∃y,(nI l p.1).contains y=true/\J y=false:=by
     cases s1 with
     |nil=>simp only[eA,eM,Tu,eI]at h;exact⟨q.1,h.1,hq⟩
     |cons y s1=>simp only[eA,Tu,eI]at h;exact⟨y.1,h.1,ih y (by simp)⟩
    obtain⟨y,hy,hyf⟩:=hnx;have hlp:=hlen _ hJp;have hop:l[p.1]? =some (l.get ⟨p.1,hlp⟩):=aE hlp;have hm:y∈pre (l.get ⟨p.1,hlp⟩):=by unfold nI at hy;rw[hop]at hy;simpa using hy
    have:=hJ _ _ hop hJp _ hm;rw[hyf]at this;cases this
  .exact ih p hp
theorem aGx{J:Nat->Bool}{i:Nat}{pr:List Nat}{fl:List VF}{o:List aN}(hn:(fl.map (·.at_)).Nodup)(hs:∀q∈fl,q.at_<o.length)(hi:J i=false)(hp:∀e∈pr,J e=true)(aLg:∀q∈fl,∀s1 x s2,q.st=s1++x::s2->J x.1=false->∀p∈s1,J p.1=false):Sub (Ko i pr fl o) (Av J fl o):=by
 intro k ob h hl;by_cases hk:∃q∈fl,q.at_=k
 .obtain ⟨q,hq,rfl⟩:=hk;rw[lq hn hq (hs q hq)]at h;obtain rfl:=cQ h;rw[LM hn hq (hs q hq),lu hi hp _ (aLg q hq) hl]
 .have hk':∀q∈fl,q.at_≠k:=λq hq e=>hk ⟨q,hq,e⟩
  rw[Ze hk']at h;rw[LK hk'];exact h
theorem aLh{l:List Oper}{J:Nat->Bool}(hJ:Clo l J)(hlen:∀i,J i=true->i<l.length){n i:Nat}{fF:aN}:∀{s1 s2:List (Nat×aN)},Tu l (s1++(i,fF)::s2)=true->((s1++(i,fF)::s2).map (·.1)).Nodup->J i=false->G6 (uW J i) (hole n) (s1++(i,fF)::s2)=fF
 |s1,s2,h,hn,hi=>by
  have hl:=Tv hJ hlen h hi;induction s1 with
  |nil=>simp[G6,uW]
  |cons x s1 ih=>
   simp only[eA,mB,lR]at hn;have hx:x.1≠i:=λe=>hn.1 (by simp[e])
   simp only[eA,G6];have:uW J i x.1=false:=by unfold uW;rw[cY hx];exact hl x (by simp)
   rw[this,cY (by simp)];exact ih (XI h) hn.2 (λp hp=>hl p (by simp[hp]))
def Fa(P:Program)[aB P](op:Oper)(m:List AV)(view:List aN)(pl:Nat)(val:AV)(fF:aN):Prop:=
 ∀(B:gN P) (t2:List AV) (o2:List aN),wk t2 m->Sub view o2->o2.length=view.length->Step P B op ⟨t2,o2⟩ ⟨uO t2 op.dst val,o2.set pl fF⟩
def XJ(P:Program)[aB P](l:List Oper)(t:List AV)(b:List aN)(fl:List VF)(j:Nat)(op:Oper)(vs:List AV): Prop :=
  (∀ e ∈ pre op, e<j) /\
  (((∀ p ∈ fl, ∀ q ∈ p.st, q.1 ≠ j) /\ nW op.op ⟨qG j (pre op) 0 l (vs.take j) t, Ko j (pre op) fl b⟩ = true /\ ∃ x, (vs.getD j .undef = x \/ vs.getD j .undef = .undef) /\
      sV P l op ⟨qG j (pre op) 0 l (vs.take j) t, Ko j (pre op) fl b⟩ (λs' => s' = ⟨uO (qG j (pre op) 0 l (vs.take j) t) op.dst x, Ko j (pre op) fl b⟩)) \/
   (op.guard = none /\ ∃ p ∈ fl, ∃ s1 fF s2, p.st = s1 ++ (j, fF) :: s2 /\ Fa P op (qG j (pre op) 0 l (vs.take j) t) (Ko j (pre op) fl b) p.at_ (vs.getD j .undef) fF))
theorem G7{P:Program}[aB P]{id:Nat}{l:List Oper}{s:AS}{Q:Exit->AS->Prop}(fl:List VF){b:List aN}(vs:List AV)(hfw:Pq l=true)(hdst:distinct l=true)(hfl:aLf l fl b.length=true)
  (hb0:Av (λ_=>false) fl b=s.o++(fl.map (·.n)).map λn=>⟨true,false,n,0,[]⟩)
  (hit:∀j op,l[j]? =some op->XJ P l s.t b fl j op vs) (hK:Q .normal ⟨iQ (λ_=>true) 0 l vs s.t,Av (λ_=>true) fl b⟩):vE P (.region id l.toArray true) s Q:=by
 simp only[aLf,eI,fN,fR]at hfl;obtain⟨⟨hnd,hsl⟩,aV9⟩:=hfl;have hs:∀q∈fl,q.at_<b.length:=λq hq=>(hsl q hq).1.1.1
 have hsq:∀q∈fl,∀x∈q.st,x.1<l.length:=λq hq=>(hsl q hq).2
 have hst:∀q∈fl,Tu l q.st=true:=λq hq=>(hsl q hq).1.1.2
 have Oa:∀q∈fl,(q.st.map (·.1)).Nodup:=λq hq=>(hsl q hq).1.2
 have aWa:∀p∈fl,∀p'∈fl,∀q∈p.st,∀q'∈p'.st,q.1=q'.1->p.at_=p'.at_:=by
  have:∀(fl:List VF),(fl.flatMap λp=>p.st.map (·.1)).Nodup->∀p∈fl,∀p'∈fl,∀q∈p.st,∀q'∈p'.st,q.1=q'.1->p.at_=p'.at_:=by
   intro fl;induction fl with
   |nil=>intro _ p hp;cases hp
   |cons x fl ih=>
    intro hn p hp p' hp' q hq q' hq' e;simp only[DE,gO]at hn;rcases gS.1 hp with e1|hp1<;>rcases gS.1 hp' with e2|XH
    .rw [e1,e2]
    .exfalso;rw[e1]at hq;exact hn.2.2 _ (AG.2 ⟨q,hq,rfl⟩) _ (Fm.2 ⟨p',XH,AG.2 ⟨q',hq',rfl⟩⟩) e
    .exfalso;rw[e2]at hq';exact hn.2.2 _ (AG.2 ⟨q',hq',rfl⟩) _ (Fm.2 ⟨p,hp1,AG.2 ⟨q,hq,rfl⟩⟩) e.symm
    .exact ih hn.2.1 p hp1 p' XH q hq q' hq' e
  exact this fl aV9
 unfold vE;have hrest:yH l l.length=true:=by unfold yH;rw[fR];intro i hi;simp at hi;simp only[rL,fN];exact .inl (by omega)
 refine jc (ops:=l.toArray) l.length (by simp) (by simpa using hfw) (by simpa using hrest) (λJ=>⟨iQ J 0 l vs s.t,Av J fl b⟩) ?_ ?_ ?_
 .have e1:∀(l:List Oper) (j:Nat) (vs t:List AV),iQ (λ_=>false) j l vs t=t:=by
   intro l;induction l with
   |nil=>intros;rfl
   |cons op r ih=>intro j vs t;simp only[iQ];rw[ih];unfold Bl;cases op.dst<;>simp
  rw[e1,hb0];exact λ_ _ _ _ _ r=>Ry _ r
 .intro i op him hi J hJ hJm hJi hpre;have hi':l[i]? =some op:=by simpa using hi
  have hJ':Clo l J:=by simpa using hJ
  have aNk:∀k,J k=true->k<l.length:=λk hk=>by
   rcases tD k l.length with h|h
   .exact h
   .rw [hJm k h]at hk;cases hk
  obtain⟨aWb,hex⟩:=hit i op hi';have Xw:wk (iQ J 0 l vs s.t) (qG i (pre op) 0 l (vs.take i) s.t):=
   NP hJi (λe he=>⟨hpre e he,aWb e he⟩) l 0 vs (vs.take i) s.t s.t (λk q hk hJk=>hJ' k q hk (by simpa using hJk)) (λk hk=>by
    rw[lA,lA,Bx];simp[show k<i by omega]) (lK _)
  have hsub:=aGx (J:=J) (i:=i) (pr:=pre op) hnd hs hJi hpre (λq hq s1 x s2 e hx=>Tv hJ' aNk (by rw[<-e];exact hst q hq) hx);have aSy:∀v,vs.getD i .undef=v->iQ (uW J i) 0 l vs s.t=uO (iQ J 0 l vs s.t) op.dst v:=λv hv=>by
   have:=Ir l 0 i op vs s.t v hdst hi' (by simpa using hJi) hv
   rwa[hY]at this
  rcases hex with⟨hnf,hq,x,hvx,hop⟩|⟨hg,p,hp,s1,fF,s2,aLi,Qp⟩
  .left;obtain⟨x',new',x2,rfl',hx2,_,hfin⟩:=Db (o2:=Av J fl b) hq Xw hop hsub (.inl (by rw[Dh,GK]));refine hfin _ ?_;have hset:new'=[]/\(uO (qG i (pre op) 0 l (vs.take i) s.t) op.dst x'=uO (qG i (pre op) 0 l (vs.take i) s.t) op.dst x):=by simp only[AS.mk.injEq]at rfl';refine⟨?_,rfl'.1⟩;have:=zE length rfl'.2;rw[eR]at this;exact hS (by omega)
   have hto:wk (uO (iQ J 0 l vs s.t) op.dst x2) (iQ (uW J i) 0 l vs s.t):=by
    rw[aSy _ rfl];have hL:=NN Xw;have aAo:=hset.2;unfold uO at aAo⊢;cases hd:op.dst with
    |none=>exact lK _
    |some d=>
     rw[hd]at aAo;dsimp only at aAo⊢;rcases tD d (iQ J 0 l vs s.t).length with hdl|hle
     .have hxx:x'=x:=by have h5:=zE (λt=>t[d]?) aAo;have aSz:d<(qG i (pre op) 0 l (vs.take i) s.t).length:=hL▸hdl;rw[mN aSz,mN aSz]at h5;exact cQ h5
      refine SQ d (lK _) ?_;rcases hvx with e|e
      .rw [e,<-hxx];assumption
      .exact .inr e
     .rw [BY hle,BY hle];exact lK _
   have CL:Av J fl b++new'=Av (uW J i) fl b:=by
    rw[hset.1,fX];refine Kq λp hp q hq=> ?_
    unfold uW;rw[cY (hnf p hp q hq)]
   rw[CL];exact wN hto
  .right;refine⟨hg,λB=> ?_⟩;have:=Qp B _ _ Xw hsub (by rw[Dh,GK]);have e:Av (uW J i) fl b=(Av J fl b).set p.at_ fF:=by
    refine CA λk=> ?_
    by_cases hk:∃q∈fl,q.at_=k
    .obtain ⟨q,hq,rfl⟩:=hk;rw[LM hnd hq (hs q hq)];by_cases hqp:q.at_=p.at_
     .have aWc:q=p:=Iu (·.at_) fl hnd q p hq hp hqp;subst aWc;rw[mN (by rw[Dh];exact hs q hq),aLi];rw[aLh hJ' aNk (by rw[<-aLi];exact hst q hq) (by rw[<-aLi];exact Oa q hq) hJi]
     .rw [lO (λe=>hqp e.symm),LM hnd hq (hs q hq)]
      have:∀st:List (Nat×aN),(∀x∈st,x.1≠i)->G6 (uW J i) (hole q.n) st=G6 J (hole q.n) st:=by
       intro st;induction st with
       |nil=>intros;rfl
       |cons x r ih=>
        intro h;have hx:uW J i x.1=J x.1:=by unfold uW;rw[cY (h x (by simp))]
        simp only[G6];rw[hx,ih λy hy=>h y (by simp[hy])]
      rw[this q.st λx hx e=>hqp (aWa q hq p hp x hx (i,fF) (by rw[aLi];simp) e)]
    .have hk':∀q∈fl,q.at_≠k:=λq hq e=>hk ⟨q,hq,e⟩
     rw[LK hk',lO (hk' p hp),LK hk']
   rw[aSy _ rfl,e];exact this
 .intro J hJ hJm hor;left;have hsz:l.toArray.size=l.length:=by simp
  have hall:∀i,i<l.length->J i=true:=by
   intro i hi;rcases hor with h|⟨op,hop,_⟩
   .exact h i (by omega)
   .have:=(cH.1 hop).1;simp at this
  rw[hsz];have e3:(range l.length).map J=replicate l.length true:=by
   refine CA λi=> ?_
   rw[tM,getElem?_replicate];by_cases hi:i<l.length
   .simp [hi,hall i hi]
   .simp [hi]
  have e4:left (replicate l.length true)=0:=by
   unfold left;rw[filter_eq_nil_iff.2]
   .rfl
   .intro x hx;rw[(mem_replicate.1 hx).2];simp
  rw[e3,e4];simp only[Ap];have e5:iQ J 0 l vs s.t=iQ (λ_=>true) 0 l vs s.t:=CY l 0 vs s.t λk hk=>by rw[hY];exact hall k hk
  have e6:Av J fl b=Av (λ_=>true) fl b:=Kq λp hp q hq=>hall _ (hsq p hp q hq)
  rw[e5,e6];exact hK
theorem aCi{x:AV}(h:x.iF=true):x≠ .undef:=by rintro rfl;simp[AV.iF]at h
theorem aPg{P:Program}[aB P]{dst:Option Tmp}{ty:TypeId}{pos:String}{after:Array Edge}{gd:Option (Nat×Bool)}{m:List AV}{view:List aN}{pl:Nat}{T:TypeId}{len:Nat}{parts:Array (Nat×Operand)}{e:TypeId}{n by':Nat}{xs:List AV}
  (he:nC P T=some (e,n,by')) (hz:iT P e n=true) (Nw:wX parts.toList=true) (hlen:len=parts.toList.length) (hbig:len*n<=16777216) (hbig2:len<=16777216)
  (hxs:(parts.toList.map (·.2)).map (AS.ev ⟨m,view⟩)=xs) (hpl:∀x∈xs,x.iF=true) (hgood:∀x∈xs,x.yC=true/\x.cells.length=n) (hv:view[pl]? =some (hole n)):
  Fa P ⟨dst,.buildSlice T len parts,ty,pos,after,gd⟩ m view pl (.obj pl 1) ⟨true,false,n,1,xs.map AV.cells⟩:=by
 intro B t2 o2 hw hs _;have e2:(parts.toList.map (·.2)).map (AS.ev ⟨t2,o2⟩)=xs:=by
  have key:∀(l:List Operand) (xs:List AV),l.map (AS.ev ⟨m,view⟩)=xs->(∀x∈xs,x.iF=true)->l.map (AS.ev ⟨t2,o2⟩)=xs:=by
   intro l;induction l with
   |nil=>intro xs h _;exact h
   |cons a l ih=>
    intro xs h hp;cases xs with
    |nil=>cases h
    |cons x xs=>simp only[mB,List.cons.injEq]at h⊢;exact⟨CW hw h.1 (aCi (hp x (by simp))),ih xs h.2 λy hy=>hp y (by simp[hy])⟩
  exact key _ _ hxs hpl
 have ho:o2[pl]? =some ⟨true,false,n,0,[]⟩:=hs pl _ hv rfl;have:=G5 (P:=P) (B:=B) (s:=⟨t2,o2⟩) (dst:=dst) (ty:=ty) (pos:=pos) (after:=after) (gd:=gd) T len parts (i:=pl) he hz Nw hlen hbig hbig2 (by rw[e2];exact hpl) (by rw[e2];exact hgood) ho;rw[e2,put_eq]at this;exact this
theorem aCj{P:Program}[aB P]{dst:Option Tmp}{ty:TypeId}{pos:String}{after:Array Edge}{gd:Option (Nat×Bool)}{m:List AV}{view:List aN}{pl v:Nat}{x y:Operand}{tS xT:TypeId}{e:TypeId}{n by':Nat}{ob:aN}{l2:List (List AV)}
  (he:nC P tS=some (e,n,by')) (hz:iT P e n=true) (hxt:rT P xT=true) (hx:AS.ev ⟨m,view⟩ x= .obj pl v) (hv:view[pl]? =some ob) (vZ:ob.live=true/\ob.bU=v/\ob.box=false/\ob.n=n)
  (hy:AS.ev ⟨m,view⟩ y= .sl .view n l2) (hbytes:(ob.dO.length+l2.length)*by'<=140737488355328) (h63:ob.dO.length+l2.length<=9223372036854775807):
  Fa P ⟨dst,.call {callee:= .builtin .append,args:=#[x,y],argTypes:=#[tS,xT]},ty,pos,after,gd⟩ m view pl (.obj pl (v+1)) {ob with bU:=v+1,dO:=ob.dO++l2}:=by
 intro B t2 o2 hw hs _;have ho:o2[pl]? =some ob:=hs pl _ hv vZ.1;have hx2:AS.ev ⟨t2,o2⟩ x= .obj pl v:=CW hw hx (by simp);have hy2:AS.ev ⟨t2,o2⟩ y= .sl .view n l2:=CW hw hy (by simp);have Gd:AV.isObj o2 pl v=some ob:=by simp[AV.isObj,ho,vZ.1,vZ.2.1]
 have:=step_append (P:=P) (B:=B) (s:=⟨t2,o2⟩) (dst:=dst) (ty:=ty) (pos:=pos) (after:=after) (gd:=gd) tS xT x y (i:=pl) (ob:=ob) (s1:=⟨t2,o2⟩) (l2:=l2) (o2:=o2) he hz hxt
  (by rw[hx2];simp only[AS.target,Gd,vZ.2.2.1,vZ.2.2.2,GP,gE]) (by rw[hy2];simp only[AS.source,gE]) hbytes h63
 simp only[AS.yF,put_eq,vZ.2.1]at this;exact this
theorem Di{P:Program}[aB P]{dst:Option Tmp}{ty:TypeId}{pos:String}{after:Array Edge}{gd:Option (Nat×Bool)}{m:List AV}{view:List aN}{pl:Nat}{T:TypeId}{len:Nat}{parts:Array (Nat×Operand)}{e:TypeId}{n by':Nat}{xs:List AV}{dO:List (List AV)}
  (he:nC P T=some (e,n,by')) (hz:iT P e n=true) (Nw:wX parts.toList=true) (hlen:len=parts.toList.length) (hbig:len*n<=16777216) (hbig2:len<=16777216)
  (hxs:(parts.toList.map (·.2)).map (AS.ev ⟨m,view⟩)=xs) (hpl:∀x∈xs,x.iF=true) (hgood:∀x∈xs,x.yC=true/\x.cells.length=n) (hv:view[pl]? =some (hole n)) (hels:xs.map AV.cells=dO):
  Fa P ⟨dst,.buildSlice T len parts,ty,pos,after,gd⟩ m view pl (.obj pl 1) ⟨true,false,n,1,dO⟩:=by
 subst hels;exact aPg he hz Nw hlen hbig hbig2 hxs hpl hgood hv
theorem zQ{P:Program}[aB P]{dst:Option Tmp}{ty:TypeId}{pos:String}{after:Array Edge}{gd:Option (Nat×Bool)}{m:List AV}{view:List aN}{pl v v':Nat}{x y:Operand}{tS xT:TypeId}{e:TypeId}{n by':Nat}{dO els':List (List AV)}{l2:List (List AV)}
  (hx:AS.ev ⟨m,view⟩ x= .obj pl v) (hvv:v+1=v') (hv:view[pl]? =some ⟨true,false,n,v,dO⟩) (hy:AS.ev ⟨m,view⟩ y= .sl .view n l2) (hels:dO++l2=els')
  (he:nC P tS=some (e,n,by')) (hz:iT P e n=true) (hxt:rT P xT=true) (hbytes:(dO.length+l2.length)*by'<=140737488355328) (h63:dO.length+l2.length<=9223372036854775807):
  Fa P ⟨dst,.call {callee:= .builtin .append,args:=#[x,y],argTypes:=#[tS,xT]},ty,pos,after,gd⟩ m view pl (.obj pl v') ⟨true,false,n,v',els'⟩:=by
 subst hels;subst hvv;exact aCj he hz hxt hx hv ⟨rfl,rfl,rfl,rfl⟩ hy hbytes h63
def G8(P:Program)[aB P](l:List Oper)(t:List AV)(b:List aN)(fl:List VF)(K:AS->Prop):Nat->List Oper->List AV->Prop
 |_,[],vs=>K ⟨iQ (λ_=>true) 0 l vs t,Av (λ_=>true) fl b⟩
 |j,op::r,vs=>∃x,XJ P l t b fl j op (vs++[x])/\G8 P l t b fl K (j+1) r (vs++[x])
theorem ma{P:Program}[aB P]{l:List Oper}{t:List AV}{b:List aN}{fl:List VF}{j:Nat}{op:Oper}{vs vs':List AV}(h:XJ P l t b fl j op vs)(h1:vs.take j=vs'.take j)(h2:vs.getD j .undef=vs'.getD j .undef):XJ P l t b fl j op vs':=by unfold XJ at h⊢;rw[h1,h2]at h;exact h
theorem aAp{P:Program}[aB P]{l:List Oper}{t:List AV}{b:List aN}{fl:List VF}{K:AS->Prop}:∀(r:List Oper) (j:Nat) (vs:List AV),l.drop j=r->vs.length=j->G8 P l t b fl K j r vs->
  ∃vf,vf.take j=vs/\(∀k op,j<=k->l[k]? =some op->XJ P l t b fl k op vf)/\K ⟨iQ (λ_=>true) 0 l vf t,Av (λ_=>true) fl b⟩
 |[],j,vs,hd,hl,h=>by refine⟨vs,cX (by omega),λk op hk hop=> ?_,h⟩;have h1:=(cH.1 hop).1;have h2:=zE length hd;simp at h2;omega
 |op::r,j,vs,hd,hl,h=>by
  simp only[G8]at h;obtain⟨x,hi,h⟩:=h;have hd':l.drop (j+1)=r:=by rw[<-AF,hd];rfl
  have hop:l[j]? =some op:=by have:=zE (·[0]?) hd;simpa using this
  obtain⟨vf,h1,h2,h3⟩:=aAp r (j+1) (vs++[x]) hd' (by simp[hl]) h;refine⟨vf,?_,λk op' hk hop'=> ?_,h3⟩
  .have:=zE (List.take j) h1;rw[take_take]at this;rw[DS (by omega)]at this;rw[this,BW (by omega),cX (by omega)]
  .rcases tD j k with hlt|hge
   .exact h2 k op' hlt hop'
   .obtain rfl:j=k:=by omega
    rw[hop]at hop';obtain rfl:=cQ hop';refine ma hi ?_ ?_
    .have:=zE (List.take j) h1;rw[take_take,DS (by omega)]at this;rw[this]
    .have:=zE (·[j]?) h1;simp only[Bx]at this;rw[eK (by omega)]at this;rw[lA,lA,this]
@[irreducible] def mf{α:Type}(x:α):α:=x
theorem yP{α:Type}(x:α):mf x=x:=by unfold mf;rfl
def Ay(f:Nat->Bool):Code->Code
 | .region id ops true=>if f id then .region id (mf ops) true else .region id ops true
 | .region id ops false=>if f id then mf (.region id ops false)else .region id ops false
 | .seq x y=> .seq (Ay f x) (Ay f y)
 | .cond c x y=> .cond c (Ay f x) (Ay f y)
 | .block id c=> .block id (Ay f c)
 | .loop c=> .loop (Ay f c)
 |c=>c
theorem Az(f:Nat->Bool):∀c:Code,Ay f c=c
 | .region id ops true=>by simp only[Ay];split<;>simp[yP]
 | .region id ops false=>by simp only[Ay];split<;>simp[yP]
 | .seq x y=>by simp[Ay,Az f x,Az f y]
 | .cond c x y=>by simp[Ay,Az f x,Az f y]
 | .block id c=>by simp[Ay,Az f c]
 | .loop c=>by simp[Ay,Az f c]
 | .skip=>rfl
 | .exit _=>rfl
 | .ret=>rfl
 | .rangeFunc _ _ _ _=>rfl
 | .scope _=>rfl
 | .label _=>rfl
 | .goto _=>rfl
 | .refuse _=>rfl
theorem uP{P:Program}[aB P](hm:P.follows .mixedOrders=true){f:FuncId}{fn:Func}{c c':Code}(L:List Nat)(hf:P.funcs[f]? =some fn){n:Nat}(hn:fn.ntmps=n){args t:List AV}{rr:AV}
  (h:vE P c' ⟨t,[]⟩ (λe s=>(e= .normal\/e= .ret)/\aP P fn s rr)) (hb:fn.body=some c:=by rfl)
  (hc:Ay (λi=>L.contains i) c=c':=by simp[Ay];rfl)
  (ht:args++replicate (n-args.length) .undef=t:=by
   simp only[eN,eV,Nat.reduceSub,Nat.reduceAdd,pD,Bm,eA,eM];rfl):Ok P f args rr:=by
 subst ht;subst hn;subst hc;rw[Az]at h;exact Xf hm hf hb h
theorem go_weak{P:Program}[aB P]{id:Nat}{l:List Oper}{s s2:AS}{Q:Exit->AS->Prop}(hw:lC s s2)(h:vE P (.region id l.toArray false) s2 Q):vE P (mf (.region id l.toArray false)) s Q:=by rw[yP];exact zg hw h
theorem go_drawn3{P:Program}[aB P]{id:Nat}{l:List Oper}{s:AS}{Q:Exit->AS->Prop}(fl:List VF){b:List aN}(hb:s.o++(fl.map (·.n)).map (λn=>⟨true,false,n,0,[]⟩)=b)(hfw:Pq l=true)(hdst:distinct l=true)(hfl:aLf l fl b.length=true)
  (hb0:Av (λ_=>false) fl b=b) (h:G8 P l s.t b fl (Q .normal) 0 l []):vE P (.region id (mf l.toArray) true) s Q:=by
 rw[yP];obtain⟨vf,_,h2,h3⟩:=aAp l 0 [] rfl rfl h;exact G7 fl vf hfw hdst hfl (by rw[hb0,hb]) (λj op hop=>h2 j op (Fo _) hop) h3
section
variable{P:Program}[aB P]{l:List Oper}{t:List AV}{b:List aN}{fl:List VF}{K:AS -> Prop}{j:Nat}{op:Oper}{r:List Oper}{vs:List AV}{pr:List Nat}{m:List AV}{om:List aN}
theorem Zf{t':List AV}{o':List aN}(h1:iQ (λ_=>true) 0 l vs t=t')(h2:Av (λ_=>true) fl b=o')(h:K ⟨t',o'⟩):G8 P l t b fl K j [] vs:=by simp only[G8,h1,h2];exact h
theorem Rf{vs':List AV}{c:Prop}(hc:c)(hv:vs=vs')(hd:G8 P l t b fl K j r vs'):c/\G8 P l t b fl K j r vs:=by subst hv;exact⟨hc,hd⟩
theorem Rh(hg:op.guard=none)(hnf:(fl.all λp=>p.st.all λq=>decide (q.1≠j))=true)(hpr:pre op=pr)(hlt:(pr.all λe=>decide (e<j))=true)(hm:qG j pr 0 l vs t=m)(ho:Ko j pr fl b=om)(hq:nW op.op ⟨m,om⟩=true)(hvl:vs.length=j)(hdl:(match op.dst with|some d=>decide (d<m.length)|none=>true)=true)
  (ha:Nx 2 P op ⟨m,om⟩ λs'=>s'.o.length=om.length/\G8 P l t b fl K (j+1) r (vs++[GG op s'])):G8 P l t b fl K j (op::r) vs:=by
 have hst:sV P l op ⟨m,om⟩ λs'=>s'.o.length=om.length/\G8 P l t b fl K (j+1) r (vs++[GG op s']):=by
  unfold sV;simp only[hg];unfold Nx at ha;rcases ha with ha|ha
  .exact .inl ha
  .rcases ha with ha|ha
   .exact absurd ha.1 (by decide)
   .exact .inr ha.2
 obtain⟨x,new,x2,⟨hlen,hK⟩,hx,_,hfin⟩:=Db (t2:=m) (o2:=om) hq (lK _) hst (λi ob h _=>h) (.inl rfl);have hnew:new=[]:=by rw[eR]at hlen;exact hS (by omega)
 subst hnew;rw[fX]at hK;simp only[G8];refine⟨_,?_,hK⟩;have htk:(vs++[GG op ⟨uO m op.dst x,om⟩]).take j=vs:=by rw[BW (by omega),cX (by omega)]
 have hgd:(vs++[GG op ⟨uO m op.dst x,om⟩]).getD j .undef=GG op ⟨uO m op.dst x,om⟩:=by rw[lA,kO (by omega),hvl,tR];rfl
 refine⟨λe he=>by rw[hpr]at he;have:=fR.1 hlt e he;simpa using this,.inl ⟨λp hp q hq=> ?_,?_,x2,?_,?_⟩⟩
 .have:=fR.1 (fR.1 hnf p hp) q hq;simpa using this
 .rw [htk,hpr,hm,ho];exact hq
 .rw [hgd];unfold GG uO;cases hd:op.dst with
  |none=>exact .inr rfl
  |some d=>
   rw[hd]at hdl;have hdl:d<m.length:=by simpa using hdl
   dsimp only;rw[lA,mN hdl];exact hx
 .rw [htk,hpr,hm,ho];exact hfin _ (by rw[fX])
theorem oH{v:AV}{fF:aN}(p:VF)(s1 s2:List (Nat×aN))(hg:op.guard=none)(hp:p∈fl)(hst:p.st=s1++(j,fF)::s2)(hpr:pre op=pr)(hlt:(pr.all λe=>decide (e<j))=true)(hm:qG j pr 0 l vs t=m)(ho:Ko j pr fl b=om)(hvl:vs.length=j)
  (ha:Fa P op m om p.at_ v fF) (h:G8 P l t b fl K (j+1) r (vs++[v])):G8 P l t b fl K j (op::r) vs:=by
 simp only[G8];refine⟨v,?_,h⟩;have htk:(vs++[v]).take j=vs:=by rw[BW (by omega),cX (by omega)]
 have hgd:(vs++[v]).getD j .undef=v:=by rw[lA,kO (by omega),hvl,tR];rfl
 refine⟨λe he=>by rw[hpr]at he;have:=fR.1 hlt e he;simpa using this,.inr ⟨hg,p,hp,s1,fF,s2,hst,?_⟩⟩;rw[htk,hgd,hpr,hm,ho];exact ha
end
attribute [simp] Av Ko G6 vst hole aGw aLf Tu
def qQ(P:Program)(fn:Func)(s:AS)(r:AV):Prop:=
 ∃ys,s.wY P fn.results.toList=some ys/\jO s.o (single ys)=true/\(mE (single ys)).Nodup/\res s.o (single ys)=r
def Re(P:Program)(fn:Func)(s:AS)(r:AV):Prop:=
 ∃i ys,s.yO P fn.results.toList=some (i,ys)/\jO s.o (single ys)=true/\(mE (single ys)).Nodup/\i∉mE (single ys)/\res s.o (single ys)=r
theorem rZ{P:Program}{fn:Func}{s:AS}{r:AV}(h:match s.yO P fn.results.toList with|some (i,ys)=>jO s.o (single ys)=true/\(mE (single ys)).Nodup/\i∉mE (single ys)/\res s.o (single ys)=r|none=>False):Re P fn s r:=by
 unfold Re;split at h
 .rename_i i ys hx;exact⟨i,ys,hx,h⟩
 .exact h.elim
theorem F8{P:Program}[aB P](hm:P.follows .mixedOrders=true){f:FuncId}{fn:Func}{c:Code}(hf:P.funcs[f]? =some fn)(hb:fn.body=some c){args:List AV}{rr:AV}(aGu:JZ args=true)
  (h:vE P c ⟨args++replicate (fn.ntmps-args.length) .undef,[]⟩ (λe s=>(e= .normal\/e= .ret)/\(qQ P fn s rr\/Re P fn s rr))):Ok P f args rr:=by
 intro w vs hg hargs;have hl:=gG hargs;have r0:eB ⟨w,λ_=>False,λ_=>False,λ_=>none,λ_=>none,hg,λ_ h=>h.elim,λ_ h=>h.elim⟩ ⟨args++replicate (fn.ntmps-args.length) .undef,[]⟩ [] {tmps:=vs.toArray++Array.replicate (fn.ntmps-vs.toArray.size) Go.undef,defers:=[]} w:=by
  refine⟨rfl,rfl,λi ob g hl=>by simp[look]at hl,λi j oi oj gi gj b hl=>by simp[look]at hl,λi ob g b hl=>by simp[look]at hl,?_,eC _,λ_ _ _=>rfl,λb hb=>hb.elim,mI.rfl⟩;have h1:Rc w (env ⟨w,λ_=>False,λ_=>False,λ_=>none,λ_=>none,hg,λ_ h=>h.elim,λ_ h=>h.elim⟩ [] [] w) args vs []:=Ka _ _ _ aGu hargs;have h2:∀n,Rc w (env ⟨w,λ_=>False,λ_=>False,λ_=>none,λ_=>none,hg,λ_ h=>h.elim,λ_ h=>h.elim⟩ [] [] w) (replicate n .undef) (replicate n Go.undef) []:=by
   intro n;induction n with
   |zero=>simp[Rc]
   |succ n ih=>simp only[pD,Rc];exact⟨[],[],by simp[R],ih,rfl⟩
  have:=mY h1 (h2 (fn.ntmps-args.length));simpa [hl]using this
 refine calls_of_wp hf hb (wp_mono (sS hm c _ _ h _ _ ⟨_,r0⟩) λe a w' he=> ?_);obtain⟨s,⟨he,F7⟩,G,r⟩:=he;have key:∃(v:Value) (fp:List Nat),(results fn a.tmps).run P w'= .ok v w'/\R w' (env ⟨w,λ_=>False,λ_=>False,λ_=>none,λ_=>none,hg,λ_ h=>h.elim,λ_ h=>h.elim⟩ s.o G w').plain rr v fp/\fp.Nodup/\∀b∈fp,∃j ob g,look s.o G j ob g/\ob.live=true/\g.F b:=by
  rcases F7 with⟨ys,zf,nU,hu,jK⟩|⟨i,ys,zf,nU,hu,hi,jK⟩
  .obtain ⟨v,hrun,hR⟩:=Al r zf;obtain⟨fp,h1,h2,h3⟩:=La r _ v nU hu hR;rw[jK]at h1;exact⟨v,fp,hrun,h1,h2,λb hb=>by obtain⟨i,ob,g,_,h⟩:=h3 b hb;exact⟨i,ob,g,h⟩⟩
  .obtain ⟨v,fp0,ob,g,hlk,hlive,hrun,hR,hnd,hF⟩:=LJ r zf;obtain⟨fp,h1,h2,h3⟩:=yo r hlk hlive _ v fp0 nU hu hi hnd hF hR;rw[jK]at h1;refine⟨v,fp,hrun,h1,h2,λb hb=> ?_⟩;rcases h3 b hb with h|⟨j,fF,g',_,h⟩
   .exact ⟨i,ob,g,hlk,hlive,hF b h⟩
   .exact ⟨j,fF,g',h⟩
 obtain⟨v,fp,hrun,h1,h2,h3⟩:=key;have hfin:∃v' fp,Ending.returned v= .returned v'/\R w' (BP w.heap.size w' fp) rr v' fp/\fp.Nodup/\(∀b∈fp,w.heap.size<=b/\b<w'.heap.size)/\w.heap.size<=w'.heap.size/\(∀b,b<w.heap.size->w'.heap[b]? =w.heap[b]?)/\mI w w':=by
  refine⟨v,fp,rfl,?_,h2,λb hb=> ?_,r.size,λb hb=>r.frame b hb (λh=>h),r.same⟩
  .have k:eO w' (env ⟨w,λ_=>False,λ_=>False,λ_=>none,λ_=>none,hg,λ_ h=>h.elim,λ_ h=>h.elim⟩ s.o G w').plain w' (BP w.heap.size w' fp):=
    ⟨λb hb=>⟨⟨(hb.1.resolve_left (λh=>h)).1,(hb.1.resolve_left (λh=>h)).2,λhm=>by
     obtain⟨j,ob,g,hl,hlive,hF⟩:=h3 b hm;exact hb.2 j ob g hl hlive hF⟩,rfl⟩,λ_ _=>trivial,λ_ _ _ h=>h.elim,λ_ _ _ h=>h.elim,λ_ _ _ _ _ h=>h.elim⟩
   exact qK k _ _ _ (λ_ _=>rfl) h1
  .obtain ⟨i,ob,g,hl,hlive,hF⟩:=h3 b hb;have:=r.fresh _ _ _ b hl hlive hF;exact⟨this.1.resolve_left (λh=>h),this.2⟩
 rcases he with rfl|rfl
 .exact ⟨r.defs,v,hrun,hfin⟩
 .exact ⟨r.defs,v,hrun,hfin⟩
theorem Wh{P:Program}[aB P](hm:P.follows .mixedOrders=true){f:FuncId}{fn:Func}{c:Code}(hf:P.funcs[f]? =some fn){n:Nat}(hn:fn.ntmps=n){args t:List AV}{rr:AV}
  (h:vE P c ⟨t,[]⟩ (λe s=>(e= .normal\/e= .ret)/\(qQ P fn s rr\/Re P fn s rr))) (hb:fn.body=some c:=by rfl) (aGu:JZ args=true:=by simp[JZ,vG])
  (ht:args++replicate (n-args.length) .undef=t:=by
   simp only[eN,eV,Nat.reduceSub,Nat.reduceAdd,pD,Bm,eA,eM];rfl):Ok P f args rr:=by
 subst ht;subst hn;exact F8 hm hf hb aGu h
theorem Ok.vw{P:Program}[aB P]{f:FuncId}{args:List AV}{r:AV}(h:Ok P f args r):Ok P f args (rt (λ_=>some .view) false r):=by
 intro w vs hg hr;refine Calls.mono (h w vs hg hr) λe w' he=> ?_
 obtain⟨v,fp,rfl,h1,h2,h3,h4,h5,h6⟩:=he;have k:nG (λ_=>some .view) false (BP w.heap.size w' fp) (BP w.heap.size w' []) (· ∈fp):=
  {own:=λg e=>by obtain rfl:=cQ e;exact⟨by simp,λb hb=>⟨(h3 b hb).1,(h3 b hb).2,by simp⟩⟩
   view:=λg e=>by obtain rfl:=cQ e;exact⟨rfl,λb hb=>⟨hb.1,hb.2.1,by simp⟩⟩
   kH:=λi g e=>by obtain rfl:=cQ e;exact⟨by simp,.inl trivial,λb hb=>hb.elim⟩
   hh:=λh=>by cases h
   hl:=λh=>by cases h}
 exact⟨v,[],rfl,aJz k r v fp (λ_ h=>h) h1,by simp,by simp,h4,h5,h6⟩
theorem Ok.EY{P:Program}[aB P]{f:FuncId}{args:List AV}{r r':AV}(h:Ok P f args r)(e:rt (λ_=>some .view) false r=r'):Ok P f args r':=e▸h.vw
def swp(i j k:Nat):Nat:=if k=i then j else if k=j then i else k
theorem Mf(i j k:Nat):swp i j (swp i j k)=k:=by unfold swp;split<;>split<;>(try split)<;>omega
def Em(i j k:Nat):Prop:=k=i\/k=j
instance (i j k:Nat) : Decidable (Em i j k) := by unfold Em; infer_instance
theorem Zp{i j k:Nat}(h:¬Em i j k):swp i j k=k:=by unfold Em at h;unfold swp;rw[cY (λe=>h (.inl e)),cY (λe=>h (.inr e))]
def gsw(i j:Nat):Tg->Tg
 | .kH k=> .kH (swp i j k)
 |g=>g
mutual
def lV(i j:Nat):AV->AV
 | .obj k v=>if Em i j k then(if v=0 then .undef else .obj (swp i j k) v)else .obj k v
 | .ptr k v idx off=>if Em i j k then .undef else .ptr k v idx off
 | .sl g n l=> .sl (gsw i j g) n (qV i j l)
 | .eU g c off=> .eU (gsw i j g) (rP i j c) off
 | .agg c=> .agg (rP i j c)
 | .gM c=> .gM (rP i j c)
 | .fn f c=> .fn f (rP i j c)
 | .int k n=> .int k n
 | .bool b=> .bool b
 | .str s=> .str s
 | .undef=> .undef
def rP(i j:Nat):List AV->List AV
 |[]=>[]
 |x::xs=>lV i j x::rP i j xs
def qV(i j:Nat):List (List AV)->List (List AV)
 |[]=>[]
 |x::xs=>rP i j x::qV i j xs
end
theorem AB(i j:Nat):∀l,(qV i j l).length=l.length
 |[]=>rfl
 |_::l=>by simp[qV,AB i j l]
structure Ren(i j:Nat)(E E':Env): Prop where
  a:∀ b, E.A b -> E'.A b
  v:∀ k, E'.V (swp i j k) -> E.V k
  d:∀ k b, E.D k b -> E'.D (swp i j k) b
  h:∀ k bU x, (Em i j k -> bU ≠ 0) -> E.H k bU x -> E'.H (swp i j k) bU x
  l:∀ k bU idx off x, ¬ Em i j k -> E.L k bU idx off x -> E'.L k bU idx off x
theorem Ren.plain{i j:Nat}{E E':Env}(k:Ren i j E E'):Ren i j E.plain E'.plain:=
 ⟨k.a,λ_ _=>trivial,λ_ _ h=>h.elim,λ_ _ _ _ h=>h.elim,λ_ _ _ _ _ _ h=>h.elim⟩
theorem Ren.sub{i j:Nat}{E E':Env}(k:Ren i j E E')(g:Tg):Ren i j (E.sub g) (E'.sub (gsw i j g)):=by
 cases g with
 |own=>exact k.plain
 |view=>exact k.plain
 |kH q=>exact⟨k.a,λ_ _=>trivial,λr b h=>⟨by rw[h.1],k.d _ _ h.2⟩,λ_ _ _ _ h=>h.elim,λ_ _ _ _ _ _ h=>h.elim⟩
theorem Ren.dead{i j:Nat}{E E':Env}(k:Ren i j E E'){g:Tg}(h:E.dead g):E'.dead (gsw i j g):=by
 cases g with
 |own=>exact h
 |view=>exact h
 |kH q=>exact λhv=>h (k.v q hv)
theorem Ren.tg{i j:Nat}{E E':Env}(k:Ren i j E E'){g:Tg}{b:Nat}(h:E.tg g b):E'.tg (gsw i j g) b:=by
 cases g with
 |own=>exact h
 |view=>exact k.a b h
 |kH q=>exact k.d q b h
theorem Zq{i j:Nat}{g:Tg}:gsw i j g= .own↔g= .own:=by cases g<;>simp[gsw]
mutual
theorem aTb{w:World}{i j:Nat}{E E':Env}(k:Ren i j E E'):∀(x:AV) (v:Value) (fp:List Nat),R w E x v fp->R w E' (lV i j x) v fp
 | .obj q u,v,fp,h=>by
  simp only[lV];simp only[R]at h;by_cases hm:Em i j q
  .rw [eK hm];by_cases hu:u=0
   .rw [eK hu];simp only[R];exact h.1
   .rw [cY hu];simp only[R];exact⟨h.1,k.h _ _ _ (λ_=>hu) h.2⟩
  .rw [cY hm];simp only[R];have:=k.h q u v (λhm'=>absurd hm' hm) h.2;rw[Zp hm]at this;exact⟨h.1,this⟩
 | .ptr q u idx off,v,fp,h=>by
  simp only[lV];simp only[R]at h;by_cases hm:Em i j q
  .rw [eK hm];simp only[R];exact h.1
  .rw [cY hm];simp only[R];exact⟨h.1,k.l _ _ _ _ _ hm h.2⟩
 | .sl g n l,v,fp,h=>by
  simp only[lV,R,AB]at h⊢;rcases h with h|⟨a,cap,hv,hl,h⟩
  .exact .inl ⟨k.dead h.1,h.2⟩
  refine .inr ⟨a,cap,hv,hl,?_⟩;rcases h with⟨hg,hl0,h1,h2⟩|⟨hg,b,off,C,e,fz,qN,ha,hb,hz,h1,h2,h3,JI,hr⟩|⟨hg,JI,h⟩
  .exact .inl ⟨Zq.2 hg,by rw[hl0];rfl,h1,h2⟩
  .exact .inr (.inl ⟨Zq.2 hg,b,off,C,e,fz,qN,ha,hb,hz,h1,h2,h3,JI,Zr (k.sub g) _ _ _ _ _ hr⟩)
  .refine .inr (.inr ⟨λe=>hg (Zq.1 e),JI,?_⟩)
   rcases h with rfl|⟨b,off,ha,ht,hr⟩
   .exact .inl rfl
   .exact .inr ⟨b,off,ha,k.tg ht,Zr (k.sub g) _ _ _ _ _ hr⟩
 | .eU g c off,v,fp,h=>by
  simp only[lV,R]at h⊢;rcases h with h|⟨JI,b,o,cs,hv,ht,hcs,hc,hr⟩
  .exact .inl ⟨k.dead h.1,h.2⟩
  .exact .inr ⟨JI,b,o,cs,hv,k.tg ht,hcs,hc,Kw (k.sub g) _ _ _ hr⟩
 | .agg c,v,fp,h=>by simp only[lV,R]at h⊢;obtain⟨cs,h1,h2,h3⟩:=h;exact⟨cs,h1,h2,Kw k c cs fp h3⟩
 | .gM c,v,fp,h=>by simp only[lV,R]at h⊢;obtain⟨cs,h1,h3⟩:=h;exact⟨cs,h1,Kw k c cs fp h3⟩
 | .fn f c,v,fp,h=>by simp only[lV,R]at h⊢;obtain⟨h0,cs,h1,h3⟩:=h;exact⟨h0,cs,h1,Kw k c cs [] h3⟩
 | .int _ _,v,fp,h=>by simpa [lV,R]using h
 | .bool _,v,fp,h=>by simpa [lV,R]using h
 | .str _,v,fp,h=>by simpa [lV,R]using h
 | .undef,v,fp,h=>by simpa [lV,R]using h
theorem Kw{w:World}{i j:Nat}{E E':Env}(k:Ren i j E E'):∀(c:List AV) (cs:List Value) (fp:List Nat),Rc w E c cs fp->Rc w E' (rP i j c) cs fp
 |[],[],_,h=>by simpa [Rc,rP]using h
 |[],_::_,_,h=>by simp[Rc]at h
 |_::_,[],_,h=>by simp[Rc]at h
 |x::xs,c::cs,fp,h=>by simp only[Rc,rP]at h⊢;obtain⟨f1,f2,h1,h2,h3⟩:=h;exact⟨f1,f2,aTb k x c f1 h1,Kw k xs cs f2 h2,h3⟩
theorem Zr{w:World}{i j:Nat}{E E':Env}(k:Ren i j E E'):∀(l:List (List AV)) (b off n:Nat) (fp:List Nat),Rr w E l b off n fp->Rr w E' (qV i j l) b off n fp
 |[],_,_,_,_,h=>by simpa [Rr,qV]using h
 |e::es,b,off,n,fp,h=>by simp only[Rr,qV]at h⊢;obtain⟨cs,f1,f2,h1,h2,h3,h4,h5,h6⟩:=h;exact⟨cs,f1,f2,h1,h2,h3,Kw k e cs f1 h4,Zr k es b (off+n) n f2 h5,h6⟩
end
def aN.lV(i j:Nat)(ob:aN):aN:=if ob.box=true then {ob with dO:=qV i j ob.dO}else ob
def swo(i j:Nat)(o:List aN):List aN:=(range o.length).map λk=>((o[swp i j k]?).getD ⟨false,false,0,0,[]⟩).lV i j
theorem uU.ren{w:World}{i j:Nat}{E E':Env}{n:Nat}{l:List (List AV)}{a:Option Addr}{cap:Nat}{fp:List Nat}(k:Ren i j E E')(h:uU w E n l a cap fp):uU w E' n (qV i j l) a cap fp:=by
 refine⟨by rw[AB];exact h.1,?_⟩;rcases h.2 with h|⟨b,off,C,e,fz,qN,ha,hb,hz,h1,h2,h3,JI,hr⟩
 .exact .inl ⟨by rw[h.1];rfl,h.2⟩
 .exact .inr ⟨b,off,C,e,fz,qN,ha,hb,hz,h1,by rw[AB];exact h2,h3,JI,Zr k _ _ _ _ _ hr⟩
theorem aCu{t t':List AV}{o o':List aN}(i j:Nat)(hi:i<o.length)(hj:j<o.length)(hbi:∀ob,o[i]? =some ob->ob.box=false)(hbj:∀ob,o[j]? =some ob->ob.box=false)(ho:swo i j o=o')(hw:wk (rP i j t) t'):lC ⟨t,o⟩ ⟨t',o'⟩:=by
 subst ho;rintro P _ B a w ⟨G,r⟩;have hlen:=r.len;generalize hG':(range G.length).map (λk=>(G[swp i j k]?).getD ⟨none,0,λ_=>False⟩)=G';have slt:∀k,k<o.length->swp i j k<o.length:=by intro k hk;unfold swp;split<;>(try split)<;>omega
 have fz:∀ob:aN,(ob.lV i j).live=ob.live/\(ob.lV i j).box=ob.box/\(ob.lV i j).n=ob.n/\(ob.lV i j).bU=ob.bU/\(ob.lV i j).dO.length=ob.dO.length:=by intro ob;unfold aN.lV;split<;>simp[AB]
 have og:∀k,(swo i j o)[k]? =(o[swp i j k]?).map (aN.lV i j):=by
  intro k;unfold swo;rw[tM];by_cases hk:k<o.length
  .rw [getElem?_range hk];simp only[mT,aE (slt k hk),sL]
  .have h1:(range o.length)[k]? =none:=by rw[yW];simp;omega
   have h2:swp i j k=k:=by unfold swp;rw[cY (by omega),cY (by omega)]
   rw[h1,h2,pC (by omega)];rfl
 have gg:∀k,G'[k]? =G[swp i j k]?:=by
  intro k;rw[<-hG',tM];by_cases hk:k<G.length
  .rw [getElem?_range hk];have h3:swp i j k<G.length:=by rw[hlen];exact slt k (by rw[<-hlen];exact hk)
   simp only[mT,aE h3,sL]
  .have h1:(range G.length)[k]? =none:=by rw[yW];simp;omega
   have h2:swp i j k=k:=by have:o.length=G.length:=hlen.symm;unfold swp;rw[cY (by omega),cY (by omega)]
   rw[h1,h2,pC (by omega)];rfl
 have back:∀{k ob g},look (swo i j o) G' k ob g->∃zH,look o G (swp i j k) zH g/\ob=zH.lV i j:=by
  rintro k ob g ⟨e1,e2⟩;rw[og]at e1;rw[gg]at e2;cases hx:o[swp i j k]? with
  |none=>rw[hx]at e1;cases e1
  |some zH=>rw[hx]at e1;exact⟨zH,⟨hx,e2⟩,(cQ e1).symm⟩
 have Xe:∀{k ob g},look o G k ob g->look (swo i j o) G' (swp i j k) (ob.lV i j) g:=by rintro k ob g ⟨e1,e2⟩;exact⟨by rw[og,Mf,e1];rfl,by rw[gg,Mf,e2]⟩
 have aZu:∀{k ob g},look o G k ob g->ob.box=true->¬Em i j k:=by
  rintro k ob g ⟨e1,_⟩ hb (rfl|rfl)
  .rw [hbi ob e1]at hb;cases hb
  .rw [hbj ob e1]at hb;cases hb
 have rn:Ren i j (env B o G w) (env B (swo i j o) G' w):=by
  refine⟨λb h=>⟨h.1,λk ob g hl Lj hF=> ?_⟩,λk h ob vZ=> ?_,λk b h=> ?_,λk bU x hm h=> ?_,λk bU idx off x hm h=> ?_⟩
  .obtain ⟨zH,hl0,rfl⟩:=back hl;exact h.2 _ _ _ hl0 (by rw[<-(fz zH).1];exact Lj) hF
  .have h1:=h (ob.lV i j) (by rw[og,Mf,vZ];rfl);rw[(fz ob).1]at h1;exact h1
  .obtain ⟨ob,g,hl,Lj,hF,hne⟩:=h;exact⟨_,g,Xe hl,by rw[(fz ob).1];exact Lj,hF,hne⟩
  .obtain ⟨ob,g,hl,AU,h5,hz⟩:=h;refine⟨_,g,Xe hl,by rw[(fz ob).2.2.2.1];exact AU,λLj VI=> ?_,λhv0 y hy=> ?_⟩
   .rw [(fz ob).2.2.2.2];exact h5 (by rw[<-(fz ob).1];exact Lj) (by rw[<-(fz ob).2.2.2.1];exact VI)
   .by_cases hmv:Em i j k
    .exact absurd hv0 (hm hmv)
    .rw [Zp hmv]at hy;exact hz hv0 y hy
  .obtain ⟨ob,g,hl,AU,h5,hz⟩:=h;have hf:=Xe hl;rw[Zp hm]at hf;refine⟨_,g,hf,by rw[(fz ob).2.2.2.1];exact AU,λLj VI=> ?_,λhb hv e1 e2 y hy=> ?_⟩
   .rw [(fz ob).2.2.1];exact h5 (by rw[<-(fz ob).1];exact Lj) (by rw[<-(fz ob).2.2.2.1];exact VI)
   .have:=hz (by rw[<-(fz ob).2.1];exact hb) hv e1 e2 y hy;exact⟨this.1,λLj VI=>this.2 (by rw[<-(fz ob).1];exact Lj) (by rw[<-(fz ob).2.2.2.1];exact VI)⟩
 refine⟨G',{len:= ?_,defs:=r.defs,ok:= ?_,apart:= ?_,fresh:= ?_,tmps:=Gt hw (Kw rn _ _ _ r.tmps),size:=r.size,frame:=r.frame,base:=r.base,same:=r.same}⟩
 .rw [<-hG'];simp[swo,hlen]
 .intro k ob g hl Lj;obtain⟨zH,hl0,rfl⟩:=back hl;obtain⟨fp,hown,hnd,hF⟩:=r.ok _ _ g hl0 (by rw[<-(fz zH).1];exact Lj);refine⟨fp,?_,hnd,hF⟩;cases hb0:zH.box with
  |false=>
   have e:zH.lV i j=zH:=by unfold aN.lV;rw[cY (by simp[hb0])]
   rw[e];rw[hb0]at hown⊢;exact hown.keeps (w:=w) (w':=w) ⟨λb hb=>⟨rn.a b hb,rfl⟩,λ_ _=>trivial,λ_ _ _ h=>h.elim,λ_ _ _ h=>h.elim,λ_ _ _ _ _ h=>h.elim⟩ (λ_ _=>rfl)
  |true=>
   have e:zH.lV i j={zH with dO:=qV i j zH.dO}:=by unfold aN.lV;rw[eK hb0]
   rw[e];simp only[hb0]at hown⊢;simp only[Env.of,gE]at hown⊢;exact hown.ren rn
 .intro p q op oq gp gq b hp hq hlp hlq hFp hFq;obtain⟨op0,hp0,rfl⟩:=back hp;obtain⟨oq0,W9,rfl⟩:=back hq;have:=r.apart _ _ _ _ _ _ b hp0 W9 (by rw[<-(fz op0).1];exact hlp) (by rw[<-(fz oq0).1];exact hlq) hFp hFq;have h2:=zE (swp i j) this
  rwa[Mf,Mf]at h2
 .intro k ob g b hl Lj hF;obtain⟨zH,hl0,rfl⟩:=back hl;exact r.fresh _ _ g b hl0 (by rw[<-(fz zH).1];exact Lj) hF
theorem aLu{i j:Nat}{o:List aN}{oi oj:aN}(hi:o[i]? =some oi)(hj:o[j]? =some oj):swo i j o=((o.set i oj).set j oi).map (aN.lV i j):=by
 have hil:=(cH.1 hi).1;have hjl:=(cH.1 hj).1;refine CA λk=> ?_
 unfold swo;rw[tM,tM];by_cases hk:k<o.length
 .rw [getElem?_range hk];simp only[mT];by_cases hkj:k=j
  .subst hkj;rw[mN (by simpa using hk)];have:swp i k k=i:=by unfold swp;split<;>simp_all
   rw[this,hi];rfl
  .rw [lO (λe=>hkj e.symm)]
   by_cases hki:k=i
   .subst hki;rw[mN hk];have:swp k j k=j:=by unfold swp;simp
    rw[this,hj];rfl
   .rw [lO (λe=>hki e.symm)]
    have:swp i j k=k:=by unfold swp;rw[cY hki,cY hkj]
    rw[this,aE hk];rfl
 .have h1:(range o.length)[k]? =none:=by rw[yW];simp;omega
  have h2:((o.set i oj).set j oi)[k]? =none:=by rw[yW];simp;omega
  rw[h1,h2];rfl
theorem aS{t t':List AV}{o o':List aN}(i j:Nat){oi oj:aN}(hi:o[i]? =some oi)(hj:o[j]? =some oj)(hb:oi.box=false/\oj.box=false)(ho:((o.set i oj).set j oi).map (aN.lV i j)=o')(hw:wk (rP i j t) t'):lC ⟨t,o⟩ ⟨t',o'⟩:=
 aCu i j (cH.1 hi).1 (cH.1 hj).1 (λob h=>by rw[hi]at h;obtain rfl:=cQ h;exact hb.1) (λob h=>by rw[hj]at h;obtain rfl:=cQ h;exact hb.2) (by rw[aLu hi hj];exact ho) hw
@[simp] theorem aUl(i j:Nat)(l:Bool)(n v:Nat)(dO:List (List AV)):aN.lV i j ⟨l,false,n,v,dO⟩=⟨l,false,n,v,dO⟩:=rfl
@[simp] theorem aUm(i j:Nat)(l:Bool)(n v:Nat)(dO:List (List AV)):aN.lV i j ⟨l,true,n,v,dO⟩=⟨l,true,n,v,qV i j dO⟩:=rfl
attribute [simp] lV rP qV gsw swp Em
def LV:Nat->List GA->List AV
 |_,[]=>[]
 |k,.view x::gs=>x::LV k gs
 |k,.oN x::gs=>(dF 1 k x).1::LV (k+(dF 1 k x).2.length) gs
 |k,.uN c _::gs=> .ptr k 2 0 0::LV (k+(1+(fB 1 (k+1) c).2.length)) gs
def GN:Nat->List GA->List aN
 |_,[]=>[]
 |k,.view _::gs=>GN k gs
 |k,.oN x::gs=>(dF 1 k x).2++GN (k+(dF 1 k x).2.length) gs
 |k,.uN c _::gs=>(⟨true,true,c.length,2,[(fB 1 (k+1) c).1]⟩::(fB 1 (k+1) c).2)++GN (k+(1+(fB 1 (k+1) c).2.length)) gs
def Fc(E:Env)(k:Nat)(os:List aN)(Gs:List CO):Prop:=
 ∀j ob g,look os Gs j ob g->E.H (k+j) ob.bU (.slice g.a ob.dO.length g.cap)/\(ob.box=true->∀b f,g.a=some ⟨b,f,none⟩->E.L (k+j) ob.bU 0 0 (.pointer (some ⟨b,f,none⟩)))
theorem Fc.left{E:Env}{k:Nat}{o1 o2:List aN}{G1 G2:List CO}(h:Fc E k (o1++o2) (G1++G2)):Fc E k o1 G1:=λj ob g hl=>h j ob g (nR hl)
theorem Fc.right{E:Env}{k:Nat}{o1 o2:List aN}{G1 G2:List CO}(hlen:G1.length=o1.length)(h:Fc E k (o1++o2) (G1++G2)):Fc E (k+o1.length) o2 G2:=λj ob g hl=>by
 have:=h _ ob g (qB hlen hl)
 rwa[<-oR]at this
def Ent(w:World)(E:Env)(k:Nat)(os:List aN)(fp:List Nat)(pin:List CO->Prop)(done:Env->Prop):Prop:=
 ∃Gs:List CO,Gs.length=os.length/\
  (∀j ob g,look os Gs j ob g->ob.live=true/\(ob.box=false->ob.bU=1)/\(ob.box=true->ob.bU=2)/\∃f,f.Nodup/\(∀b,g.F b↔b∈f)/\(∀b∈f,b∈fp)/\
   ∀E',eO w E w E'->Fc E' k os Gs->uU w (E'.of ob.box) ob.n ob.dO g.a g.cap f)/\
  (∀i j oi oj gi gj b,look os Gs i oi gi->look os Gs j oj gj->gi.F b->gj.F b->i=j)/\pin Gs/\
  ∀E':Env,eO w E w E'->Fc E' k os Gs->done E'
theorem Ent.mg{w:World}{E:Env}{k:Nat}{os:List aN}{fp:List Nat}{done:Env->Prop}(h:lN 1 w E k os fp done):Ent w E k os fp (λ_=>True) done:=by
 obtain⟨Gs,h1,h2,h3,h4⟩:=h;refine⟨Gs,h1,λj ob g hl=> ?_,h3,trivial,λE' hk hf=>h4 E' hk λj ob g hl=> ?_⟩
 .obtain ⟨a1,a2,a3,f,a4,a5,a6,a7⟩:=h2 j ob g hl;refine⟨a1,λ_=>a3,(λh=>by rw[a2]at h;cases h),f,a5,a6,a7,λE' hk _=> ?_⟩;rw[a2];exact a4.keeps hk.plain (λ_ _=>rfl)
 .have:=(hf j ob g hl).1;obtain⟨_,_,a3,_⟩:=h2 j ob g hl
  rwa[a3]at this
theorem Ent.append{w:World}{E:Env}{k:Nat}{o1 o2:List aN}{f1 f2:List Nat}{p1 p2 p:List CO->Prop}{d1 d2 d:Env->Prop}(h1:Ent w E k o1 f1 p1 d1)(h2:Ent w E (k+o1.length) o2 f2 p2 d2)(hn:(f1++f2).Nodup)
  (hp:∀G1 G2,G1.length=o1.length->p1 G1->p2 G2->p (G1++G2)) (hd:∀E',d1 E'->d2 E'->d E'):Ent w E k (o1++o2) (f1++f2) p d:=by
 obtain⟨G1,l1,a1,b1,q1,c1⟩:=h1;obtain⟨G2,l2,a2,b2,q2,c2⟩:=h2;have hdj:=(gO.1 hn).2.2;refine⟨G1++G2,by simp[l1,l2],?_,?_,hp G1 G2 l1 q1 q2,λE' hk hf=>hd E' (c1 E' hk hf.left) (c2 E' hk (hf.right l1))⟩
 .intro j ob g hl;rcases qA l1 hl with⟨_,h⟩|⟨_,h⟩
  .obtain ⟨x,y,y',f,z1,z2,z3,z4⟩:=a1 _ _ _ h;exact⟨x,y,y',f,z1,z2,λb hb=>oE _ (z3 b hb),λE' hk hf=>z4 E' hk hf.left⟩
  .obtain ⟨x,y,y',f,z1,z2,z3,z4⟩:=a2 _ _ _ h;exact⟨x,y,y',f,z1,z2,λb hb=>tG _ (z3 b hb),λE' hk hf=>z4 E' hk (hf.right l1)⟩
 .intro i j oi oj gi gj b hi hj FH Ns;rcases qA l1 hi with⟨_,h⟩|⟨hi',h⟩<;>rcases qA l1 hj with⟨_,h'⟩|⟨xc,h'⟩
  .exact b1 _ _ _ _ _ _ b h h' FH Ns
  .obtain ⟨_,_,_,f,_,z2,z3,_⟩:=a1 _ _ _ h;obtain⟨_,_,_,f',_,z2',z3',_⟩:=a2 _ _ _ h';exact absurd rfl (hdj b (z3 b ((z2 b).1 FH)) b (z3' b ((z2' b).1 Ns)))
  .obtain ⟨_,_,_,f,_,z2,z3,_⟩:=a2 _ _ _ h;obtain⟨_,_,_,f',_,z2',z3',_⟩:=a1 _ _ _ h';exact absurd rfl (hdj b (z3' b ((z2' b).1 Ns)) b (z3 b ((z2 b).1 FH)))
  .have:=b2 _ _ _ _ _ _ b h h' FH Ns;omega
theorem aG6{w:World}{O:Nat->Prop}{k:Nat}{c c':List AV}{v:Value}{fp:List Nat}{cap:Nat}(h:RG w O (.uN c c') v fp cap)(hn:fp.Nodup):
  Ent w (sP w O) k (⟨true,true,c.length,2,[(fB 1 (k+1) c).1]⟩::(fB 1 (k+1) c).2) fp
   (λGs=>∃g b f,Gs[0]? =some g/\g.a=some ⟨b,f,none⟩/\v= .pointer (some ⟨b,f,none⟩)/\g.cap=cap) (λE'=>R w E' (.ptr k 2 0 0) v []):=by
 simp only[RG]at h;obtain⟨b,f,rfl,hlen,hown⟩:=h;rcases hown with⟨h5,_⟩|⟨b',f',C,ty,fz,qN,wW,hbk,hz,k1,k2,k3,rfl,hr⟩
 .cases h5
 simp only[eE,pN,sY]at wW;obtain⟨rfl,rfl⟩:=wW;simp only[Rr]at hr;obtain⟨cs,f1,f2,hcl,hc,hone,wL,rfl,e⟩:=hr;have e:qN=f1:=by simpa using e
 subst e;simp only[lR]at hn;obtain⟨Gs,a1,a2,a3,a4⟩:=DW (q:=1) c cs qN (k+1) wL hn.2;have tail:∀{j ob g},look (⟨true,true,c.length,2,[(fB 1 (k+1) c).1]⟩::(fB 1 (k+1) c).2) (⟨some ⟨b,f,none⟩,cap,λx=>x=b⟩::Gs) j ob g->
   (j=0/\ob=⟨true,true,c.length,2,[(fB 1 (k+1) c).1]⟩/\g=⟨some ⟨b,f,none⟩,cap,λx=>x=b⟩)\/∃j',j=j'+1/\look (fB 1 (k+1) c).2 Gs j' ob g:=by
  rintro j ob g ⟨h1,h2⟩;cases j with
  |zero=>simp only[tE,eE]at h1 h2;exact .inl ⟨rfl,h1.symm,h2.symm⟩
  |succ j=>exact .inr ⟨j,rfl,by simpa using h1,by simpa using h2⟩
 have inner:∀{E':Env},Fc E' k (⟨true,true,c.length,2,[(fB 1 (k+1) c).1]⟩::(fB 1 (k+1) c).2) (⟨some ⟨b,f,none⟩,cap,λx=>x=b⟩::Gs)->
   ∀j ob g,look (fB 1 (k+1) c).2 Gs j ob g->E'.H (k+1+j) 1 (.slice g.a ob.dO.length g.cap):=by
  intro E' hf j ob g hl;have:=(hf (j+1) ob g ⟨by simpa using hl.1,by simpa using hl.2⟩).1;obtain⟨_,_,h3,_⟩:=a2 j ob g hl;rw[h3]at this
  rwa[show k+1+j=k+(j+1)by omega]
 refine⟨⟨some ⟨b,f,none⟩,cap,λx=>x=b⟩::Gs,by simp[a1],?_,?_,⟨_,b,f,rfl,rfl,rfl,rfl⟩,?_⟩
 .intro j ob g hl;rcases tail hl with⟨rfl,rfl,rfl⟩|⟨j',rfl,CQ⟩
  .refine ⟨rfl,(λh=>by cases h),λ_=>rfl,[b],by simp,by simp,by simp,λE' hk hf=> ?_⟩
   refine⟨by simp[maxLen],.inr ⟨b,f,C,ty,fz,[],rfl,hbk,hz,k1,by simpa using k2,k3,rfl,?_⟩⟩;simp only[Rr];exact⟨cs,[],[],hcl,hc,hone,a4 E' hk (inner hf),rfl,rfl⟩
  .obtain ⟨h1,h2,h3,f',h4,h5,h6,h7⟩:=a2 _ _ _ CQ;refine⟨h1,λ_=>h3,(λh=>by rw[h2]at h;cases h),f',h5,h6,λx hx=>AK _ (h7 x hx),λE' hk _=> ?_⟩;rw[h2];exact h4.keeps hk.plain (λ_ _=>rfl)
 .intro i j oi oj gi gj x hi hj FH Ns;rcases tail hi with⟨rfl,rfl,rfl⟩|⟨i',rfl,hi'⟩<;>rcases tail hj with⟨rfl,rfl,rfl⟩|⟨j',rfl,xc⟩
  .rfl
  .obtain ⟨_,_,_,f',_,_,h6,h7⟩:=a2 _ _ _ xc;have hx:x=b:=FH;subst hx;exact absurd (h7 _ ((h6 _).1 Ns)) hn.1
  .obtain ⟨_,_,_,f',_,_,h6,h7⟩:=a2 _ _ _ hi';have hx:x=b:=Ns;subst hx;exact absurd (h7 _ ((h6 _).1 FH)) hn.1
  .have:=a3 _ _ _ _ _ _ x hi' xc FH Ns;omega
 .intro E' hk hf;simp only[R];exact⟨trivial,(hf 0 _ _ ⟨rfl,rfl⟩).2 rfl b f rfl⟩
def pinned(gat:Nat->Option CO):Nat->List GA->List Value->List Nat->Prop
 |_,[],[],[]=>True
 |k,.view _::gs,_::vs,_::jA=>pinned gat k gs vs jA
 |k,.oN x::gs,_::vs,_::jA=>pinned gat (k+(dF 1 k x).2.length) gs vs jA
 |k,.uN c _::gs,v::vs,cap::jA=>(∃g b f,gat k=some g/\g.a=some ⟨b,f,none⟩/\v= .pointer (some ⟨b,f,none⟩)/\g.cap=cap)/\pinned gat (k+(1+(fB 1 (k+1) c).2.length)) gs vs jA
 |_,_,_,_=>False
theorem Zj{w:World}{O:Nat->Prop}:∀(gs:List GA) (vs:List Value) (uK:List (List Nat)) (jA:List Nat) (k:Nat),EJ w O gs vs uK jA->uK.flatten.Nodup->
  Ent w (sP w O) k (GN k gs) uK.flatten (λGs=>∀pre:List CO,pre.length=k->pinned (λi=>(pre++Gs)[i]?) k gs vs jA) (λE'=>Rc w E' (LV k gs) vs [])
 |[],[],[],[],k,_,_=>⟨[],rfl,λj ob g hl=>by simp[look,GN]at hl,λi j oi oj gi gj b hl=>by simp[look,GN]at hl,λ_ _=>by simp[pinned],λE' _ _=>by simp[LV,Rc]⟩
 | .view x::gs,v::vs,fp::uK,cap::jA,k,h,hn=>by
  simp only[EJ,RG]at h;obtain⟨⟨rfl,hx⟩,h⟩:=h;simp only[pT,eM]at hn⊢;obtain⟨Gs,a1,a2,a3,a4,a5⟩:=Zj gs vs uK jA k h hn;refine⟨Gs,a1,a2,a3,λpre hp=>by simp only[pinned];exact a4 pre hp,λE' hk hf=> ?_⟩
  .simp only[LV,Rc];exact⟨[],[],qK hk _ _ _ (by simp) hx,a5 E' hk hf,rfl⟩
 | .oN x::gs,v::vs,fp::uK,cap::jA,k,h,hn=>by
  simp only[EJ,RG]at h;obtain⟨hx,h⟩:=h;simp only[pT]at hn⊢;have hn':=gO.1 hn;refine(Ent.mg (Gj (q:=1) x v fp k hx hn'.1)).append (Zj gs vs uK jA (k+(dF 1 k x).2.length) h hn'.2.1) hn (λG1 G2 hl _ h2 pre hp=> ?_) (λE' h1 h2=> ?_)
  .simp only[pinned];have:=h2 (pre++G1) (by simp[hp,hl]);simpa using this
  .simp only[LV,Rc];exact⟨[],[],h1,h2,rfl⟩
 | .uN c c'::gs,v::vs,fp::uK,cap::jA,k,h,hn=>by
  simp only[EJ]at h;obtain⟨hx,h⟩:=h;simp only[pT]at hn⊢;have hn':=gO.1 hn;have h2:=Zj gs vs uK jA (k+(1+(fB 1 (k+1) c).2.length)) h hn'.2.1;simp only[GN];refine(aG6 hx hn'.1).append (by
   rw[show k+(({live:=true,box:=true,n:=c.length,bU:=2,dO:=[(fB 1 (k+1) c).1]}:aN)::(fB 1 (k+1) c).2).length=k+(1+(fB 1 (k+1) c).2.length)by simp;omega];exact h2) hn (λG1 G2 hl h1 h2 pre hp=> ?_) (λE' h1 h2=> ?_)
  .simp only[pinned];refine⟨?_,?_⟩
   .obtain ⟨g,b,f,e1,e2,e3,e4⟩:=h1;refine⟨g,b,f,?_,e2,e3,e4⟩;subst hp;rw[kO (by omega),tR];cases G1 with
    |nil=>simp at e1
    |cons _ _=>simpa using e1
   .have:=h2 (pre++G1) (by simp only[eR,hp,hl,eN];omega);simpa using this
  .simp only[LV,Rc];exact⟨[],[],h1,h2,rfl⟩
 |[],[],[],_::_,_,h,_=>by simp[EJ]at h
 |[],[],_::_,_,_,h,_=>by simp[EJ]at h
 |[],_::_,_,_,_,h,_=>by simp[EJ]at h
 | .view _::_,[],_,_,_,h,_=>by simp[EJ]at h
 | .view _::_,_::_,[],_,_,h,_=>by simp[EJ]at h
 | .view _::_,_::_,_::_,[],_,h,_=>by simp[EJ]at h
 | .oN _::_,[],_,_,_,h,_=>by simp[EJ]at h
 | .oN _::_,_::_,[],_,_,h,_=>by simp[EJ]at h
 | .oN _::_,_::_,_::_,[],_,h,_=>by simp[EJ]at h
 | .uN _ _::_,[],_,_,_,h,_=>by simp[EJ]at h
 | .uN _ _::_,_::_,[],_,_,h,_=>by simp[EJ]at h
 | .uN _ _::_,_::_,_::_,[],_,h,_=>by simp[EJ]at h
def dJ(s:AS):Nat->Nat->List GA->Prop
 |_,_,[]=>True
 |pos,k,.view _::gs=>dJ s (pos+1) k gs
 |pos,k,.oN x::gs=>dJ s (pos+1) (k+(dF 1 k x).2.length) gs
 |pos,k,.uN c c'::gs=>(s.t.getD pos .undef= .ptr k 2 0 0/\∃cells,s.o[k]? =some ⟨true,true,c.length,2,[cells]⟩/\nK s.o cells=true/\vD s.o cells=c'/\DC c'=true)/\
   dJ s (pos+1) (k+(1+(fB 1 (k+1) c).2.length)) gs
def dH(s:AS):Nat->List GA->List Nat
 |_,[]=>[]
 |k,.view _::gs=>dH s k gs
 |k,.oN x::gs=>dH s (k+(dF 1 k x).2.length) gs
 |k,.uN c _::gs=>(k::kK (rowOf s.o k))++dH s (k+(1+(fB 1 (k+1) c).2.length)) gs
def gF(P:Program)(fn:Func)(s:AS)(gs:List GA)(r:AV):Prop:=
 ∃ys,s.wY P fn.results.toList=some ys/\jO s.o (single ys)=true/\res s.o (single ys)=r/\clean r=true/\dJ s 0 0 gs/\(dH s 0 gs++mE (single ys)).Nodup
theorem IC{P:Program}[aB P]{B:gN P}{s:AS}{G:List CO}{a:Act}{w:World}(r:eB B s G a w){gat:Nat->Option CO}(hp:∀i g,gat i=some g->B.p0 i=some (.pointer g.a,g.cap)):
  ∀(gs:List GA) (vs:List Value) (jA:List Nat) (pos k:Nat),pinned gat k gs vs jA->dJ s pos k gs->(dH s k gs).Nodup->
  ∃uK,QY w gs vs uK jA/\uK.flatten.Nodup/\∀b∈uK.flatten,Of s.o G (dH s k gs) b
 |[],[],[],pos,k,_,_,_=>⟨[],by simp[QY],by simp,by simp⟩
 | .view x::gs,v::vs,cap::jA,pos,k,h1,h2,h3=>by simp only[pinned]at h1;simp only[dJ]at h2;simp only[dH]at h3⊢;obtain⟨uK,q1,q2,q3⟩:=IC r hp gs vs jA (pos+1) k h1 h2 h3;exact⟨[]::uK,by simp only[QY,RP];exact⟨trivial,q1⟩,by simpa using q2,by simpa using q3⟩
 | .oN x::gs,v::vs,cap::jA,pos,k,h1,h2,h3=>by simp only[pinned]at h1;simp only[dJ]at h2;simp only[dH]at h3⊢;obtain⟨uK,q1,q2,q3⟩:=IC r hp gs vs jA (pos+1) _ h1 h2 h3;exact⟨[]::uK,by simp only[QY,RP];exact⟨trivial,q1⟩,by simpa using q2,by simpa using q3⟩
 | .uN c c'::gs,v::vs,cap::jA,pos,k,h1,h2,h3=>by
  simp only[pinned]at h1;simp only[dJ]at h2;simp only[dH]at h3⊢;obtain⟨⟨g0,b0,f0,e1,e2,e3,e4⟩,h1⟩:=h1;obtain⟨⟨htp,cells,ho,nU,jK,hcl⟩,h2⟩:=h2;have hn:=gO.1 h3;obtain⟨uK,q1,q2,q3⟩:=IC r hp gs vs jA (pos+1) _ h1 h2 hn.2.1;have hrow:rowOf s.o k=cells:=by simp[rowOf,ho]
  rw[hrow]at hn⊢;have vZ:AV.isObj s.o k 2=some ⟨true,true,c.length,2,[cells]⟩:=by simp[AV.isObj,ho]
  obtain⟨g,b,f,hl,hlive,hga,hv⟩:=r.ptr (x:= .tmp pos) htp vZ;have aLn:=r.pin (x:= .tmp pos) htp vZ hl rfl rfl rfl rfl _ (hp k g0 e1);rw[hv]at aLn;obtain⟨hp1,XH⟩:=aLn;have hcap:g.cap=g0.cap:=XH rfl rfl;simp only[DO]at hp1;rw[e2]at hp1;simp only[Nat.zero_mul,sA,eE,pN,sY]at hp1;obtain⟨rfl,rfl⟩:=hp1;obtain⟨fp0,⟨_,hown⟩,JU,QV⟩:=r.ok k _ g hl rfl;simp only[Env.of,gE]at hown;rcases hown with⟨h5,_⟩|⟨b',f',C,ty,fz,qN,wW,hbk,hz,k1,k2,k3,rfl,hr⟩
  .cases h5
  rw[hga]at wW;simp only[eE,pN,sY]at wW;obtain⟨rfl,rfl⟩:=wW;simp only[Rr]at hr;obtain⟨cs,f1,f2,hcn,hc,hone,wL,rfl,e⟩:=hr;have e:qN=f1:=by simpa using e
  subst e;simp only[lR]at JU;have hn1:=hn.1;simp only[lR]at hn1;obtain⟨AR,u1,u2,u3⟩:=Lg r hl rfl cells cs qN nU hn1.2 hn1.1 JU.2 (λx hx=>QV x (by simp[hx])) wL;have WV:g.F b:=QV b (by simp);have hbn:b∉AR:=λhb=>by
   rcases u3 b hb with h|h
   .exact JU.1 h
   .obtain ⟨j,oj,gj,hj,hlj,hjl,VC⟩:=h;have:=r.apart k j _ _ _ _ b hl hlj rfl hjl WV VC;exact hn1.1 (this▸hj)
  rw[jK]at u1;have u1':Rc w mJ c' cs AR:=DX (E:=(env B s.o G w).plain) (λ_ _=>trivial) rfl rfl rfl _ _ _ hcl u1;have hin:∀x∈b::AR,Of s.o G (k::kK cells) x:=by
   intro x hx;rcases gS.1 hx with rfl|hx
   .exact ⟨k,_,g,by simp,hl,rfl,WV⟩
   .rcases u3 x hx with h|h
    .exact ⟨k,_,g,by simp,hl,rfl,QV x (by simp[h])⟩
    .exact CU (λj hj=>by simp[hj]) h
  refine⟨(b::AR)::uK,?_,?_,?_⟩
  .simp only[QY,RP];refine⟨⟨b,f,e3,by simp[maxLen],.inr ⟨b,f,C,ty,fz,AR,rfl,hbk,hz,?_,?_,?_,rfl,?_⟩⟩,q1⟩
   .rw [<-e4,<-hcap];exact k1
   .rw [<-e4,<-hcap];simpa using k2
   .rw [<-e4,<-hcap];exact k3
   .simp only[Rr];exact⟨cs,AR,[],hcn,hc,hone,u1',rfl,by simp⟩
  .simp only[pT,gO];refine⟨lR.2 ⟨hbn,u2⟩,q2,λx hx y hy e=> ?_⟩;subst e;exact Lh r (λi hi j hj=>hn.2.2 i hi j hj) (hin x hx) (q3 x hy)
  .intro x hx;simp only[pT,eW]at hx;rcases hx with hx|hx
   .exact CU (λi hi=>oE _ hi) (hin x hx)
   .exact CU (λi hi=>tG _ hi) (q3 x hx)
 |[],[],_::_,_,_,h,_,_=>by simp[pinned]at h
 |[],_::_,_,_,_,h,_,_=>by simp[pinned]at h
 | .view _::_,[],_,_,_,h,_,_=>by simp[pinned]at h
 | .view _::_,_::_,[],_,_,h,_,_=>by simp[pinned]at h
 | .oN _::_,[],_,_,_,h,_,_=>by simp[pinned]at h
 | .oN _::_,_::_,[],_,_,h,_,_=>by simp[pinned]at h
 | .uN _ _::_,[],_,_,_,h,_,_=>by simp[pinned]at h
 | .uN _ _::_,_::_,[],_,_,h,_,_=>by simp[pinned]at h
theorem TF{w:World}{O:Nat->Prop}:∀{gs:List GA} {vs:List Value} {uK:List (List Nat)} {jA:List Nat},EJ w O gs vs uK jA->vs.length=gs.length
 |[],[],_,_,_=>rfl
 |_::gs,_::vs,[],_,h=>by simp[EJ]at h
 |_::gs,_::vs,_::_,[],h=>by simp[EJ]at h
 |_::gs,_::vs,_::uK,_::jA,h=>by simp only[EJ]at h;simp[TF h.2]
 |[],_::_,_,_,h=>by simp[EJ]at h
 |_::_,[],_,_,h=>by simp[EJ]at h
theorem TG{P:Program}[aB P](hm:P.follows .mixedOrders=true){f:FuncId}{fn:Func}{c:Code}(hf:P.funcs[f]? =some fn)(hb:fn.body=some c){gs:List GA}{rr:AV}
  (h:vE P c ⟨LV 0 gs++replicate (fn.ntmps-gs.length) .undef,GN 0 gs⟩ (λe s=>(e= .normal\/e= .ret)/\gF P fn s gs rr)):Lf P f gs rr:=by
 intro w vs uK jA hg hab hnd hrg;obtain⟨Gs,hlen,CL,hap,aLn,rF⟩:=Zj gs vs uK jA 0 hrg hnd;have hvl:=TF hrg;generalize hB:(⟨w,λb=>b<w.heap.size,(· ∈uK.flatten),λ_=>none,λi=>(Gs[i]?).map λg=>(.pointer g.a,g.cap),hg,λb hb=>(hab b hb).1,λb hb=>(hab b hb).2⟩:gN P)=B;have Ta:B.w0=w:=by rw[<-hB]
 have hA0:∀b,B.A0 b↔b<w.heap.size:=by intro b;rw[<-hB]
 have hO0:∀b,B.O0 b↔b∈uK.flatten:=by intro b;rw[<-hB]
 have hh0:∀i,B.h0 i=none:=by intro i;rw[<-hB]
 have hp0:∀i g,Gs[i]? =some g->B.p0 i=some (.pointer g.a,g.cap):=by intro i g hg;rw[<-hB];simp[hg]
 have kE:eO w (sP w (· ∈uK.flatten)) w (env B (GN 0 gs) Gs w):=by refine⟨λb hb=>⟨⟨.inl ((hA0 b).2 hb.1),λi ob g hl _ hF=> ?_⟩,rfl⟩,λ_ _=>trivial,λ_ _ _ h=>h.elim,λ_ _ _ h=>h.elim,λ_ _ _ _ _ h=>h.elim⟩;obtain⟨_,_,_,f',_,h2,h3,_⟩:=CL _ _ _ hl;exact hb.2 (h3 _ ((h2 _).1 hF))
 have fc:Fc (env B (GN 0 gs) Gs w) 0 (GN 0 gs) Gs:=by intro j ob g hl;rw[hY];refine⟨⟨ob,g,hl,eC _,λ_ _=>rfl,λ_ x hx=>by rw[hh0]at hx;cases hx⟩,λ_ b f hga=>⟨ob,g,hl,eC _,λ_ _=>⟨b,f,hga,by simp⟩,λ_ _ _ _ y hy=> ?_⟩⟩;rw[hp0 _ _ hl.2]at hy;obtain rfl:=cQ hy;exact⟨by rw[hga],λ_ _=>rfl⟩
 have r0:eB B ⟨LV 0 gs++replicate (fn.ntmps-gs.length) .undef,GN 0 gs⟩ Gs {tmps:=vs.toArray++Array.replicate (fn.ntmps-vs.toArray.size) Go.undef,defers:=[]} w:=by
  refine {len:=hlen,defs:=rfl,ok:= ?_,apart:= ?_,fresh:= ?_,tmps:= ?_,size:=by rw[Ta];exact eC _,frame:=by rw[Ta];exact λ_ _ _=>rfl,base:= ?_,same:=by rw[Ta];exact mI.rfl}
  .intro i ob g hl _;obtain⟨_,_,_,f',h1,h2,h3,h4⟩:=CL _ _ _ hl;exact⟨f',h4 _ kE fc,h1,λb hb=>(h2 b).2 hb⟩
  .intro i j oi oj gi gj b hi hj _ _ FH Ns;exact hap _ _ _ _ _ _ b hi hj FH Ns
  .intro i ob g b hl _ hF;obtain⟨_,_,_,f',_,h2,h3,_⟩:=CL _ _ _ hl;have:=h3 _ ((h2 _).1 hF);exact⟨.inl ((hO0 b).2 this),(hab b this).2⟩
  .have h2:∀n,Rc w (env B (GN 0 gs) Gs w) (replicate n .undef) (replicate n Go.undef) []:=by
    intro n;induction n with
    |zero=>simp[Rc]
    |succ n ih=>simp only[pD,Rc];exact⟨[],[],by simp[R],ih,rfl⟩
   have:=mY (rF _ kE fc) (h2 (fn.ntmps-gs.length));simpa [hvl]using this
  .intro b hb;rw[Ta];exact(hA0 b).1 hb
 refine calls_of_wp hf hb (wp_mono (sS hm c _ _ h _ _ ⟨_,r0⟩) λe a w' he=> ?_);obtain⟨s,⟨he,ys,zf,nU,jK,hcl,hlo,hun⟩,G,r⟩:=he;obtain⟨u,hrun,hR⟩:=Al r zf;have hun':=gO.1 hun;obtain⟨fp,k1,k2,k3⟩:=La r _ u nU hun'.2.1 hR;rw[jK]at k1;have aS2:pinned (λi=>Gs[i]?) 0 gs vs jA:=by simpa using aLn [] rfl
 obtain⟨CP,q1,q2,q3⟩:=IC r hp0 gs vs jA 0 0 aS2 hlo hun'.1;have hin:∀b∈CP.flatten++fp,(b∈uK.flatten\/w.heap.size<=b)/\b<w'.heap.size:=by
  intro b hb;have:∃i ob g,look s.o G i ob g/\ob.live=true/\g.F b:=by
   rcases eW.1 hb with hb|hb
   .obtain ⟨i,ob,g,_,h⟩:=q3 b hb;exact⟨i,ob,g,h⟩
   .obtain ⟨i,ob,g,_,h⟩:=k3 b hb;exact⟨i,ob,g,h⟩
  obtain⟨i,ob,g,hl,hlive,hF⟩:=this;have:=r.fresh _ _ _ b hl hlive hF;rw[Ta,hO0]at this;exact this
 have hfin:∃v fp CP,Ending.returned u= .returned v/\R w' mJ rr v fp/\QY w' gs vs CP jA/\(CP.flatten++fp).Nodup/\
   (∀b∈CP.flatten++fp,(b∈uK.flatten\/w.heap.size<=b)/\b<w'.heap.size)/\w.heap.size<=w'.heap.size/\(∀b,b<w.heap.size->b∉uK.flatten->w'.heap[b]? =w.heap[b]?)/\mI w w':=by
  refine⟨u,fp,CP,rfl,Lb (E:=(env B s.o G w').plain) (λ_ _=>trivial) rfl rfl rfl _ _ _ hcl k1,q1,gO.2 ⟨q2,k2,λx hx y hy e=> ?_⟩,hin,by have:=r.size;rwa[Ta]at this,λb hb hn=>by have:=r.frame b (by rw[Ta];exact hb) (λh=>hn ((hO0 b).1 h));rwa[Ta]at this,by have:=r.same;rwa[Ta]at this⟩;subst e;exact Lh r (λi hi j hj=>hun'.2.2 i hi j hj) (q3 x hx) (k3 x hy)
 rcases he with rfl|rfl
 .exact ⟨r.defs,u,hrun,hfin⟩
 .exact ⟨r.defs,u,hrun,hfin⟩
theorem kP{e:Exit}{q:Prop}(h:q)(he:e= .normal\/e= .ret:=by first|exact .inr rfl|exact .inl rfl):(e= .normal\/e= .ret)/\q:=⟨he,h⟩
theorem sN{P:Program}[aB P](hm:P.follows .mixedOrders=true){f:FuncId}{fn:Func}{c:Code}(hf:P.funcs[f]? =some fn){n:Nat}(hn:fn.ntmps=n){gs:List GA}{t:List AV}{o:List aN}{rr:AV}
  (h:vE P c ⟨t,o⟩ (λe s=>(e= .normal\/e= .ret)/\gF P fn s gs rr)) (hb:fn.body=some c:=by rfl)
  (ho:GN 0 gs=o:=by
   simp only[GN,qW,mK,Kg,Bj,IP,zI,Lr,Bi,sA,hY,Nat.reduceAdd,eA,eM,fX,eN,eV];rfl)
  (ht:LV 0 gs++replicate (n-gs.length) .undef=t:=by
   simp only[LV,qW,mK,Kg,Bj,IP,zI,Lr,Bi,sA,hY,eN,eV,Nat.reduceSub,Nat.reduceAdd,pD,Bm,eA,eM,fX];rfl):Lf P f gs rr:=by
 subst ht;subst hn;subst ho;exact TG hm hf hb h
theorem aTs{P:Program}[aB P](hm:P.follows .mixedOrders=true){f:FuncId}{fn:Func}{c c':Code}(L:List Nat)(hf:P.funcs[f]? =some fn){n:Nat}(hn:fn.ntmps=n){gs:List GA}{t:List AV}{o:List aN}{rr:AV}
  (h:vE P c' ⟨t,o⟩ (λe s=>(e= .normal\/e= .ret)/\gF P fn s gs rr)) (hb:fn.body=some c:=by rfl)
  (hc:Ay (λi=>L.contains i) c=c':=by simp[Ay];rfl)
  (ho:GN 0 gs=o:=by
   simp only[GN,qW,mK,Kg,Bj,IP,zI,Lr,Bi,sA,hY,Nat.reduceAdd,eA,eM,fX,eN,eV];rfl)
  (ht:LV 0 gs++replicate (n-gs.length) .undef=t:=by
   simp only[LV,qW,mK,Kg,Bj,IP,zI,Lr,Bi,sA,hY,eN,eV,Nat.reduceSub,Nat.reduceAdd,pD,Bm,eA,eM,fX];rfl):Lf P f gs rr:=by
 subst ht;subst hn;subst ho;subst hc;rw[Az]at h;exact TG hm hf hb h
def tL(l:List (List AV)):Bool:=l.all λr=>r.all AV.iF
theorem O3{w:World}{E:Env}:∀(x:AV) (v:Value) (fp:List Nat),x.iF=true->R w E x v fp->fp=[]:=by intro x v fp hx h;cases x<;>simp only[AV.iF]at hx<;>first|(cases hx;done)|(simp only[R]at h;exact h.2)|(simp only[R]at h;exact h.1)|simp_all[R]
theorem PT{w:World}{E:Env}:∀(c:List AV) (cs:List Value) (fp:List Nat),c.all AV.iF=true->Rc w E c cs fp->fp=[]
 |[],[],fp,_,h=>by simpa [Rc]using h
 |[],_::_,_,_,h=>by simp[Rc]at h
 |_::_,[],_,_,h=>by simp[Rc]at h
 |x::xs,c::cs,fp,hp,h=>by simp only[CC,eI]at hp;simp only[Rc]at h;obtain⟨f1,f2,h1,h2,h3⟩:=h;have a:=O3 _ _ _ hp.1 h1;have b:=PT _ _ _ hp.2 h2;subst a;subst b;simpa using h3
theorem PU{w:World}{E:Env}:∀(l:List (List AV)) (news:List Value) (n:Nat) (fp:List Nat),tL l=true->Rv w E l news n fp->fp=[]
 |[],_,_,_,_,h=>by simp only[Rv]at h;simp_all
 |r::l,news,n,fp,hp,h=>by simp only[tL,CC,eI]at hp;simp only[Rv]at h;obtain⟨cs,rest,f1,f2,h1,h2,h3,h4,h5,h6⟩:=h;have a:=PT _ _ _ (by simpa using hp.1) h4;have b:=PU l _ _ _ (by simpa [tL]using hp.2) h5;subst a;subst b;simpa using h6
theorem Oz(tS xT:TypeId)(x y:Operand){e:TypeId}{n by' i j bU:Nat}{ob oj:aN}{s1:AS}(he:nC P tS=some (e,n,by'))(hz:iT P e n=true)(hxt:rT P xT=true)
  (ht:s.target n (s.ev x)=some (i,ob,s1)) (hy:s1.ev y= .obj j bU) (ho:AV.isObj s1.o j bU=some oj) (hj:oj.box=false/\oj.n=n/\j≠i) (hpl:tL oj.dO=true)
  (hbytes:(ob.dO.length+oj.dO.length)*by'<=140737488355328) (h63:ob.dO.length+oj.dO.length<=9223372036854775807):
  Step P B ⟨dst,.call {callee:= .builtin .append,args:=#[x,y],argTypes:=#[tS,xT]},ty,pos,after,gd⟩ s (s.yF s1.o dst i ob oj.dO):=
 sO λG0 a w r0=>by
  obtain⟨hu,inf,hi,hsz,hby⟩:=rR he;obtain⟨z,V4,hz2⟩:=Ai hz hi;obtain⟨G,g,r,hl,hlive,wB,hn,hv,hst⟩:=r0.target ht;have hev:=ay hst y;obtain⟨gj,hlj,aEe,hvj⟩:=r.xz hy ho;rw[hev]at hy;have aTx:a.eval y= .slice gj.a oj.dO.length gj.cap:=hvj;obtain⟨fj,Pb,aJ8,VC⟩:=r.ok j oj gj hlj aEe;rw[hj.1]at Pb;obtain⟨fp,hown,hnd,hF⟩:=r.ok i ob g hl hlive;rw[wB]at hown;obtain⟨news,OX,Gi⟩:∃news,Rv w (env B s1.o G w).plain oj.dO news ob.n []/\∀w',w'.heap=w.heap->(Builtin.firstCells ob.n oj.dO.length (.slice gj.a oj.dO.length gj.cap)).run P w'= .ok news.toArray w':=by
   have RO:oj.n=ob.n:=by rw[hj.2.1,hn]
   rcases Pb.2 with⟨h1,h2,h3⟩|⟨b,off,C,ety,fz,qN,ha,hb,hz',k1,k2,k3,rfl,hr⟩
   .refine ⟨[],by rw[h1];simp[Rv],λw' _=> ?_⟩
    rw[h1];cases hga:gj.a with
    |none=>simp[Builtin.firstCells]
    |some a'=>simp[Builtin.firstCells,loadCells,loadCellsFrom]
   .obtain ⟨vs,hv',hc'⟩:=qD.1 hr;have h0:=PU _ _ _ _ hpl hv';subst h0;refine⟨vs,by rw[<-RO];exact hv',λw' hw'=> ?_⟩;rw[ha,<-RO];exact kR (jX hv') (hc'.heap hw')
  obtain⟨v,w',G',hrun,hr',hR⟩:=r.append (P:=P) (ty:=ty) hl hlive wB hu (FJ hxt) hi V4 (by rw[hsz,hn]) (by rw[hz2,hn]) (x:=a.eval y) (by rw[aTx];simp[Builtin.lenOf]) (by rw[aTx];exact Gi) OX hown (by simpa using hnd) (by simpa using hF) (by rw[hby];exact hbytes) h63;refine⟨v,w',by simp[execOp,resolve,invoke,builtin,hv,hrun],G',?_⟩;have:=hr'.put dst hR;rw[hst]at this;exact this
def AV.vG:AV->Bool
 | .agg c=>c.all AV.iF
 |x=>x.iF
theorem aH9{x:AV}(h:x.vG=true):x≠ .undef:=by cases x<;>simp_all[AV.vG,AV.iF]
theorem qp{o:List aN}:∀{c:List AV},(∀x∈c,x.vG=true)->vD o c=c/\nK o c=true/\kK c=[]
 |[],_=>⟨rfl,rfl,rfl⟩
 |x::xs,h=>by
  obtain⟨h1,h2,h3⟩:=qp (o:=o) (c:=xs) λy hy=>h y (by simp[hy])
  have hx:=h x (by simp);cases x with
  |agg c=>
   simp only[AV.vG]at hx;obtain⟨k1,k2,k3⟩:=NZ (o:=o) (c:=c) λy hy=>fR.1 hx y hy
   simp[vD,nK,kK,res,jO,mE,h1,h2,h3,k1,k2,k3]
  |_=>simp only[AV.vG,AV.iF]at hx<;>first|(cases hx;done)|(simp[vD,nK,kK,res,jO,mE,h1,h2,h3])
theorem qw(t:TypeId)(len:Nat)(parts:Array (Nat×Operand)){e:TypeId}{n by' i:Nat}(he:nC P t=some (e,n,by'))(hz:iT P e n=true)(Nw:wX parts.toList=true)(hlen:len=parts.toList.length)(hbig:len*n<=16777216)(hbig2:len<=16777216)
  (hpl:∀x∈(parts.toList.map (·.2)).map s.ev,x.vG=true) (hgood:∀x∈(parts.toList.map (·.2)).map s.ev,x.yC=true/\x.cells.length=n) (hi':s.o[i]? =some ⟨true,false,n,0,[]⟩):
  Step P B ⟨dst,.buildSlice t len parts,ty,pos,after,gd⟩ s (AS.put ⟨s.t,s.o.set i ⟨true,false,n,1,((parts.toList.map (·.2)).map s.ev).map AV.cells⟩⟩ dst (.obj i 1)):=
 sO λG a w r=>by
  generalize hxs:parts.toList.map (·.2)=xs at*;have AY:parts.toList=(xs.zipIdx).map λp=>(p.2,p.1):=by rw[<-hxs];exact EI _ 0 Nw
  obtain⟨hp1,XH,hp3⟩:=qp (o:=s.o) hpl;obtain⟨fp,wL,hnd,Pe⟩:=JP r _ _ XH (by rw[hp3];simp) (xP r xs);have JI:fp=[]:=by
   cases fp with
   |nil=>rfl
   |cons b _=>obtain⟨i,ob,g,hi,_⟩:=Pe b (by simp);rw[hp3]at hi;cases hi
  subst JI;rw[hp1]at wL;obtain⟨OX,hsz⟩:=QU wL hgood;have hvl:(xs.map a.eval).length=len:=by rw[hlen,<-hxs];simp
  have hrun:(execOp a.eval ⟨dst,.buildSlice t len parts,ty,pos,after,gd⟩).run P w= .ok (.value (.slice (some ⟨w.heap.size,0,none⟩) len len)) (w.alloc (.cells ((xs.map a.eval).flatMap λv=>v.cells.toList).toArray e)):=by
   have e1:parts.map (λ(i,x)=>(i,a.eval x))=(((xs.map a.eval).zipIdx).map λp=>(p.2,p.1)).toArray:=by apply Fi;simp only[Cl,AY,map_map,zipIdx_map];rfl
   have:=vF (P:=P) (t:=t) (len:=len) (w:=w) he hz hvl.symm hbig hsz;simp only[execOp,e1,oS,this,lP,tB]
  have hlt:i<G.length:=by rw[r.len];exact(cH.1 hi').1
  have hlk:Aw.look s.o G i ⟨true,false,n,0,[]⟩ G[i]:=⟨hi',aE hlt⟩;generalize G[i]=g at hlk;generalize hCd:((xs.map a.eval).flatMap λv=>v.cells.toList)=cs at*;have hcl:=jX OX;have hself:(w.alloc (.cells cs.toArray e)).heap[w.heap.size]? =some (.cells cs.toArray e):=fO w _;have hrl:((xs.map s.ev).map AV.cells).length=len:=by have:=gG wL;rw[mL,<-this,hvl]
  have hlm:len<=maxLen:=by simp only[maxLen];omega
  have hm:=r.modify hlk rfl ⟨true,false,n,1,(xs.map s.ev).map AV.cells⟩ ⟨some ⟨w.heap.size,0,none⟩,len,λb=>g.F b\/b=w.heap.size⟩ (w.alloc (.cells cs.toArray e)) (by simp) rfl (by simp)
   (λb hb=>by
    rcases hb with hb|hb
    .exact .inl hb
    .right;subst hb;simp) (λb hb hne=>⟨.inl hb,λa' wW=>by
     obtain rfl:=cQ wW;have:=(r.fresh _ _ _ b hlk rfl hb).2;simp only;omega⟩) (λb hlt _=>heap_alloc w _ b hlt) (by simp) (λk _=>by
   refine⟨[w.heap.size],?_,by simp,by simp⟩;generalize env B _ _ (w.alloc (.cells cs.toArray e))=E' at k⊢;simp only[Env.of,eS,hM];refine⟨by rw[hrl];exact hlm,.inr ⟨w.heap.size,0,cs.toArray,e,(0,0),[],rfl,hself,.inr rfl,?_,by rw[hrl];exact eC _,hlm,rfl,?_⟩⟩
   .simp [hcl];rw[<-hrl];simp
   .refine qD.2 ⟨cs,wQ k.plain (λb hb=>by cases hb) OX,?_⟩
    refine pO hself (λj v hv=>by simpa using hv))
  have hl2:Aw.look (s.o.set i ⟨true,false,n,1,(xs.map s.ev).map AV.cells⟩) (G.set i ⟨some ⟨w.heap.size,0,none⟩,len,λb=>g.F b\/b=w.heap.size⟩) i ⟨true,false,n,1,(xs.map s.ev).map AV.cells⟩ ⟨some ⟨w.heap.size,0,none⟩,len,λb=>g.F b\/b=w.heap.size⟩:=rQ hlk;refine⟨_,_,hrun,_,hm.1.put dst ?_⟩;simp only[R];exact⟨trivial,_,_,hl2,eC _,λ_ _=>by rw[hrl],λh=>absurd h (by decide)⟩
theorem aL9{P:Program}[aB P]{dst:Option Tmp}{ty:TypeId}{pos:String}{after:Array Edge}{gd:Option (Nat×Bool)}{m:List AV}{view:List aN}{pl:Nat}{T:TypeId}{len:Nat}{parts:Array (Nat×Operand)}{e:TypeId}{n by':Nat}{xs:List AV}
  (he:nC P T=some (e,n,by')) (hz:iT P e n=true) (Nw:wX parts.toList=true) (hlen:len=parts.toList.length) (hbig:len*n<=16777216) (hbig2:len<=16777216)
  (hxs:(parts.toList.map (·.2)).map (AS.ev ⟨m,view⟩)=xs) (hpl:∀x∈xs,x.vG=true) (hgood:∀x∈xs,x.yC=true/\x.cells.length=n) (hv:view[pl]? =some (hole n)):
  Fa P ⟨dst,.buildSlice T len parts,ty,pos,after,gd⟩ m view pl (.obj pl 1) ⟨true,false,n,1,xs.map AV.cells⟩:=by
 intro B t2 o2 hw hs _;have e2:(parts.toList.map (·.2)).map (AS.ev ⟨t2,o2⟩)=xs:=by
  have key:∀(l:List Operand) (xs:List AV),l.map (AS.ev ⟨m,view⟩)=xs->(∀x∈xs,x.vG=true)->l.map (AS.ev ⟨t2,o2⟩)=xs:=by
   intro l;induction l with
   |nil=>intro xs h _;exact h
   |cons a l ih=>
    intro xs h hp;cases xs with
    |nil=>cases h
    |cons x xs=>simp only[mB,List.cons.injEq]at h⊢;exact⟨CW hw h.1 (aH9 (hp x (by simp))),ih xs h.2 λy hy=>hp y (by simp[hy])⟩
  exact key _ _ hxs hpl
 have ho:o2[pl]? =some ⟨true,false,n,0,[]⟩:=hs pl _ hv rfl;have:=qw (P:=P) (B:=B) (s:=⟨t2,o2⟩) (dst:=dst) (ty:=ty) (pos:=pos) (after:=after) (gd:=gd) T len parts (i:=pl) he hz Nw hlen hbig hbig2 (by rw[e2];exact hpl) (by rw[e2];exact hgood) ho;rw[e2,put_eq]at this;exact this
theorem qz{P:Program}[aB P]{dst:Option Tmp}{ty:TypeId}{pos:String}{after:Array Edge}{gd:Option (Nat×Bool)}{m:List AV}{view:List aN}{pl:Nat}{T:TypeId}{len:Nat}{parts:Array (Nat×Operand)}{e:TypeId}{n by':Nat}{xs:List AV}{dO:List (List AV)}
  (he:nC P T=some (e,n,by')) (hz:iT P e n=true) (Nw:wX parts.toList=true) (hlen:len=parts.toList.length) (hbig:len*n<=16777216) (hbig2:len<=16777216)
  (hxs:(parts.toList.map (·.2)).map (AS.ev ⟨m,view⟩)=xs) (hpl:∀x∈xs,x.vG=true) (hgood:∀x∈xs,x.yC=true/\x.cells.length=n) (hv:view[pl]? =some (hole n)) (hels:xs.map AV.cells=dO):
  Fa P ⟨dst,.buildSlice T len parts,ty,pos,after,gd⟩ m view pl (.obj pl 1) ⟨true,false,n,1,dO⟩:=by
 subst hels;exact aL9 he hz Nw hlen hbig hbig2 hxs hpl hgood hv
theorem FB{P:Program}[aB P]{dst:Option Tmp}{ty:TypeId}{pos:String}{after:Array Edge}{gd:Option (Nat×Bool)}{m:List AV}{view:List aN}{pl v v' q u:Nat}{x y:Operand}{tS xT:TypeId}{e:TypeId}{n by':Nat}{dO els':List (List AV)}{l2:List (List AV)}
  (hx:AS.ev ⟨m,view⟩ x= .obj pl v) (hvv:v+1=v') (hv:view[pl]? =some ⟨true,false,n,v,dO⟩) (hy:AS.ev ⟨m,view⟩ y= .obj q u) (hq:view[q]? =some ⟨true,false,n,u,l2⟩) (hqp:q≠pl) (hpl:tL l2=true) (hels:dO++l2=els')
  (he:nC P tS=some (e,n,by')) (hz:iT P e n=true) (hxt:rT P xT=true) (hbytes:(dO.length+l2.length)*by'<=140737488355328) (h63:dO.length+l2.length<=9223372036854775807):
  Fa P ⟨dst,.call {callee:= .builtin .append,args:=#[x,y],argTypes:=#[tS,xT]},ty,pos,after,gd⟩ m view pl (.obj pl v') ⟨true,false,n,v',els'⟩:=by
 subst hels;subst hvv;intro B t2 o2 hw hs _;have ho:o2[pl]? =some ⟨true,false,n,v,dO⟩:=hs pl _ hv rfl;have ho2:o2[q]? =some ⟨true,false,n,u,l2⟩:=hs q _ hq rfl;have hx2:AS.ev ⟨t2,o2⟩ x= .obj pl v:=CW hw hx (by simp);have hy2:AS.ev ⟨t2,o2⟩ y= .obj q u:=CW hw hy (by simp);have Gd:AV.isObj o2 pl v=some ⟨true,false,n,v,dO⟩:=by simp[AV.isObj,ho]
 have aW3:AV.isObj o2 q u=some ⟨true,false,n,u,l2⟩:=by simp[AV.isObj,ho2]
 have:=Oz (P:=P) (B:=B) (s:=⟨t2,o2⟩) (dst:=dst) (ty:=ty) (pos:=pos) (after:=after) (gd:=gd) tS xT x y (i:=pl) (ob:=⟨true,false,n,v,dO⟩) (s1:=⟨t2,o2⟩) (oj:=⟨true,false,n,u,l2⟩) he hz hxt
  (by rw[hx2];simp only[AS.target,Gd,GP,gE]) hy2 aW3 ⟨rfl,rfl,hqp⟩ hpl hbytes h63
 simp only[AS.yF,put_eq]at this;exact this
theorem Af{α:Type}{f:α->List AV}(h:∀x,(f x).all AV.iF=true)(l:List α):tL (l.map f)=true:=by simp[tL,fR];intro a _ x hx;exact fR.1 (h a) x hx
theorem M5{t t':List AV}{o o':List aN}(i k:Nat){ob:aN}{e e':List AV}(ho:o[i]? =some ob)(hl:ob.live=true)(hb:ob.box=false)(hall:(o.all λx=> !x.box || x.dO.all λc=>xI i c)=true)(he:ob.dO[k]? =some e)
  (hc:xO JQ true e=e') (ho':o.set i {ob with dO:=ob.dO.set k e'}=o') (hw:wk (xO (iU [i]) true t) t'):lC ⟨t,o⟩ ⟨t',o'⟩:=by
 subst ho';subst hc;rintro P _ B a w ⟨G,r⟩;have nb:∀{j x g},look o G j x g->x.box=true->(x.dO.all λc=>xI i c)=true:=λh hb=>by have:=fR.1 hall _ (nB h.1);simpa only[hb,DQ,Bool.false_or]using this
 obtain⟨g,hlk⟩:=r.look ho;obtain⟨fp,hown,hnd,hF⟩:=r.ok i ob g hlk hl;simp only[hb,Env.of,eS,hM]at hown;obtain⟨hlen,⟨h,_⟩|⟨b,off,C,ty,fz,qN,ha,hbk,hz,h1,h2,h3,rfl,hr⟩⟩:=hown
 .rw [h]at he;simp at he
 have hk:k<ob.dO.length:=(cH.1 he).1;obtain⟨f1,f2,f3,cs,rfl,hn,hcs,hone,hre,hr1,hr3⟩:=AX hr he;have hsub2:∀x∈f2,g.F x:=λx hx=>hF x (by simp[hx])
 generalize xY:({ob with dO:=ob.dO.set k (xO JQ true e)}:aN)=fF;generalize hg':({g with F:=λx=>g.F x/\x∉f2}:CO)=g';generalize hO:o.set i fF=o';generalize xe:G.set i g'=G';have back:∀{j x y},look o' G' j x y->(j=i/\x=fF/\y=g')\/(j≠i/\look o G j x y):=by intro j x y h;rw[<-hO,<-xe]at h;exact Ah h
 have fi:look o' G' i fF g':=by rw[<-hO,<-xe];exact rQ hlk
 have fo:∀{j x y},j≠i->look o G j x y->look o' G' j x y:=λhj h=>by rw[<-hO,<-xe];exact CR h hj
 have aS6:fF.live=true:=by rw[<-xY];exact hl
 have aTl:fF.box=false:=by rw[<-xY];exact hb
 have aG8:fF.n=ob.n:=by rw[<-xY]
 have aS7:fF.bU=ob.bU:=by rw[<-xY]
 have aG9:fF.dO.length=ob.dO.length:=by rw[<-xY];simp
 have hga:g'.a=g.a:=by rw[<-hg']
 have hgc:g'.cap=g.cap:=by rw[<-hg']
 have VG:∀x,g'.F x↔g.F x/\x∉f2:=λx=>by rw[<-hg']
 let Er:Env:=(env B o G w).no i
 have rt1:nG (iU [i]) true (env B o G w) Er (λ_=>True):=by
  refine⟨λt e=>by simp[iU]at e,λt e=>by simp only[iU,eE]at e;exact⟨e.symm,λb hb=>hb⟩,λj t e=> ?_,λ_ _ _ _ h=>h,λ_ _ _ _ _ _ h=>h⟩;simp only[iU]at e;split at e
  .cases e
  .rename_i hiu;obtain rfl:=cQ e;refine⟨by simp,?_,λb hb=>⟨hiu,hb⟩⟩;by_cases hV:(env B o G w).V j
   .exact .inl hV
   .exact .inr hV
 have kA:∀x,(env B o G w).A x->(env B o' G' w).A x:=λx hx=>⟨hx.1,λj y z hlj hjl hf=>by
  rcases back hlj with⟨rfl,rfl,rfl⟩|⟨_,h⟩
  .exact hx.2 _ _ _ hlk hl ((VG x).1 hf).1
  .exact hx.2 _ _ _ h hjl hf⟩
 have kS:∀x∈f2,(env B o' G' w).A x:=λx hx=>⟨(r.fresh _ _ _ x hlk hl (hsub2 x hx)).elim λh1 h2=>h1.elim (λh=> .inl (B.gA x h)) λh=> .inr ⟨h,h2⟩,λj y z hlj hjl hf=>by
  rcases back hlj with⟨rfl,rfl,rfl⟩|⟨hj,h⟩
  .exact ((VG x).1 hf).2 hx
  .exact hj (r.apart _ _ _ _ _ _ x h hlk hjl hl hf (hsub2 x hx))⟩
 have k2':eO w Er w (env B o' G' w):=by
  refine⟨λx hx=>⟨kA x hx,rfl⟩,λj h x hx=> ?_,λj x hV h=> ?_,λj bU x h=> ?_,λj bU p q x h=> ?_⟩
  .obtain ⟨y,hy⟩:=r.look hx;by_cases hj:j=i
   .subst hj;rw[ho]at hx;obtain rfl:=cQ hx;exact hl
   .exact h x (fo hj hy).1
  .obtain ⟨hji,x',y,hlj,hjl,hf,hne⟩:=h;exact⟨⟨x',y,fo (by simpa using hji) hlj,hjl,hf,hne⟩,rfl⟩
  .obtain ⟨x',y,hlj,AU,hh,hz⟩:=h;by_cases hj:j=i
   .subst hj;obtain⟨rfl,rfl⟩:=lM hlk hlj;exact⟨fF,g',fi,by omega,λ_ VI=>by rw[hga,hgc,aG9];exact hh hl (by omega),hz⟩
   .exact ⟨x',y,fo hj hlj,AU,hh,hz⟩
  .obtain ⟨x',y,hlj,AU,hh,hz⟩:=h;by_cases hj:j=i
   .subst hj;obtain⟨rfl,rfl⟩:=lM hlk hlj;exact⟨fF,g',fi,by omega,λ_ VI=>by rw[hga,aG8];exact hh hl (by omega),λh=>by rw[aTl]at h;cases h⟩
   .exact ⟨x',y,fo hj hlj,AU,hh,hz⟩
 have kp:eO w (env B o G w).plain w (env B o' G' w).plain:=⟨λx hx=>⟨kA x hx,rfl⟩,λ_ _=>trivial,λ_ _ _ h=>h.elim,λ_ _ _ h=>h.elim,λ_ _ _ _ _ h=>h.elim⟩;have rv:nG JQ true (env B o G w).plain (env B o' G' w).plain (λx=>x∈f2):=by
  refine⟨λt e=> ?_,λt e=> ?_,λj t e=>by simp[JQ]at e,λ_ _ _ _ h=>h.elim,λ_ _ _ _ _ _ h=>h.elim⟩
  .simp only[JQ,eE]at e;subst e;exact⟨by simp,λb hb=>kS b hb⟩
  .simp only[JQ,eE]at e;exact⟨e.symm,λb hb=>kA b hb⟩
 have hnd':=hnd;simp only[lR]at hnd';refine⟨G',{len:=by rw[<-hO,<-xe];simp[r.len],defs:=r.defs,ok:= ?_,apart:= ?_,fresh:= ?_,tmps:=Gt hw (dU k2' _ _ _ (by simp) (yB rt1 _ _ _ (by simp) r.tmps)),size:=r.size,frame:=r.frame,base:=r.base,same:=r.same}⟩
 .intro j x y hlj hjl;rcases back hlj with⟨rfl,rfl,rfl⟩|⟨hj,h⟩
  .refine ⟨b::(f1++[]++f3),?_,?_,?_⟩
   .rw [aTl,<-xY,<-hg'];simp only[Env.of,eS,hM];refine⟨by simpa using hlen,.inr ⟨b,off,C,ty,fz,_,ha,hbk,hz,h1,by simpa using h2,h3,rfl,?_⟩⟩;exact WT hk hn hcs hone (yB rv _ _ _ (λx hx=>hx) hre) (mG kp _ _ _ _ _ rfl (λ_ _=>rfl) hr1) (mG kp _ _ _ _ _ rfl (λ_ _=>rfl) hr3)
   .have hs:(f1++[]++f3).Sublist (f1++f2++f3):=((rI f1).append (nil_sublist f2)).append (rI f3);exact lR.2 ⟨λh=>hnd'.1 (hs.subset h),hs.nodup hnd'.2⟩
   .intro x hx;rw[VG];have hin:x∈b::(f1++f2++f3):=by simp only[gS,eW,Bs,Gk]at hx⊢;grind
    refine⟨hF x hin,λhx2=> ?_⟩;have hd:=hnd'.2;simp only[gO,eW]at hd;simp only[gS,eW,Bs,Gk]at hx;rcases hx with rfl|hx|hx
    .exact hnd'.1 (by simp[hx2])
    .exact hd.1.2.2 x hx x hx2 rfl
    .exact hd.2.2 x (.inr hx2) x hx rfl
  .obtain ⟨fq,q1,q2,q3⟩:=r.ok j x y h hjl;refine⟨fq,?_,q2,q3⟩;cases hbj:x.box with
   |false=>simp only[hbj,Env.of,eS,hM]at q1⊢;exact q1.keeps kp (λ_ _=>rfl)
   |true=>simp only[hbj,Env.of,gE]at q1⊢;exact(q1.FQ (nb h hbj)).keeps k2' (λ_ _=>rfl)
 .intro j1 j2 x1 x2 y1 y2 z hl1 hl2 v1 v2 hf1 hf2;rcases back hl1 with⟨rfl,rfl,rfl⟩|⟨hj1,h1⟩<;>rcases back hl2 with⟨rfl,rfl,rfl⟩|⟨hj2,h2⟩
  .rfl
  .exact absurd (r.apart _ _ _ _ _ _ z hlk h2 hl v2 ((VG z).1 hf1).1 hf2).symm hj2
  .exact absurd (r.apart _ _ _ _ _ _ z h1 hlk v1 hl hf1 ((VG z).1 hf2).1) hj1
  .exact r.apart _ _ _ _ _ _ z h1 h2 v1 v2 hf1 hf2
 .intro j x y z hlj hjl hf;rcases back hlj with⟨rfl,rfl,rfl⟩|⟨_,h⟩
  .exact r.fresh _ _ _ z hlk hl ((VG z).1 hf).1
  .exact r.fresh _ _ _ z h hjl hf
theorem go_openB{P:Program}[aB P](i k c:Nat){id:Nat}{L:List Oper}{Q:Exit->AS->Prop}{t t':List AV}{o o':List aN}{ob:aN}{e:List AV}{m:Nat}{rows:List (List AV)}(ho:o[i]? =some ob)(he:ob.dO[k]? =some e)(hc:e[c]? =some (.sl .own m rows))
  (h:vE P (.region id L.toArray false) ⟨t',o'⟩ Q) (hl:ob.live=true:=by rfl) (hb:ob.box=true:=by rfl) (hall:(o.all λx=> !x.box || x.dO.all λc=>xI i c)=true:=by simp)
  (ho':o.set i {ob with dO:=ob.dO.set k (e.set c (.obj o.length 1))}++[⟨true,false,m,1,rows⟩]=o':=by simp;rfl) (hw:xO (iU [i]) true t=t':=by simp;rfl):vE P (mf (.region id L.toArray false)) ⟨t,o⟩ Q:=
 go_weak (vN i k c ho hl hb hall he hc ho' (hw▸lK _)) h
theorem go_share{P:Program}[aB P](i k:Nat){id:Nat}{L:List Oper}{Q:Exit->AS->Prop}{t t':List AV}{o o':List aN}{ob:aN}{e e':List AV}(ho:o[i]? =some ob)(he:ob.dO[k]? =some e)(he':xO JQ true e=e')
  (h:vE P (.region id L.toArray false) ⟨t',o'⟩ Q) (hl:ob.live=true:=by rfl) (hb:ob.box=false:=by rfl) (hall:(o.all λx=> !x.box || x.dO.all λc=>xI i c)=true:=by simp)
  (ho':o.set i {ob with dO:=ob.dO.set k e'}=o':=by simp;rfl) (hw:xO (iU [i]) true t=t':=by simp;rfl):vE P (mf (.region id L.toArray false)) ⟨t,o⟩ Q:=
 go_weak (M5 i k ho hl hb hall he he' ho' (hw▸lK _)) h
theorem XY{t t':List AV}{o o':List aN}(i:Nat){ob:aN}(ho:o[i]? =some ob)(ho':o.set i ⟨false,false,0,ob.bU,[]⟩=o')(hw:wk t t'):lC ⟨t,o⟩ ⟨t',o'⟩:=by
 subst ho';rintro P _ B a w ⟨G,r⟩;obtain⟨g,hlk⟩:=r.look ho;have hi:i<o.length:=(cH.1 ho).1;have back:∀{j x y},look (o.set i ⟨false,false,0,ob.bU,[]⟩) G j x y->(j=i/\x=⟨false,false,0,ob.bU,[]⟩)\/(j≠i/\look o G j x y):=by
  intro j x y ⟨h1,h2⟩;rw[getElem?_set]at h1;by_cases hj:i=j
  .subst hj;rw[eK rfl,eK hi]at h1;exact .inl ⟨rfl,(cQ h1).symm⟩
  .rw [cY hj]at h1;exact .inr ⟨λh=>hj h.symm,h1,h2⟩
 have k:eO w (env B o G w) w (env B (o.set i ⟨false,false,0,ob.bU,[]⟩) G w):=
  DU (eC _) (λb hb=>⟨xB r hb,rfl⟩) r.len
   (λj x y h=>by
    by_cases hj:j=i
    .subst hj;obtain⟨rfl,rfl⟩:=lM hlk h;exact⟨⟨false,false,0,ob.bU,[]⟩,g,⟨by rw[getElem?_set];simp[hi],hlk.2⟩,eC _,(λh=>by cases h),λh=>by cases h⟩
    .refine ⟨x,y,⟨by rw[getElem?_set,cY (λe=>hj e.symm)];exact h.1,h.2⟩,eC _,λh=> .inl h,λhl=>⟨hl,rfl,λ_=>⟨rfl,rfl,rfl⟩,λb h1 h2=>⟨h1,h2,rfl⟩⟩⟩)
   (λj x y b h hl hf=>by
    rcases back h with⟨_,rfl⟩|⟨_,h⟩
    .cases hl
    .exact .inr ⟨j,x,y,h,hl,hf⟩)
 refine⟨G,{len:=by simp[r.len],defs:=r.defs,ok:= ?_,apart:= ?_,fresh:= ?_,tmps:=Gt hw (dU k _ _ _ (by simp) r.tmps),size:=r.size,frame:=r.frame,base:=r.base,same:=r.same}⟩
 .intro j x y h hl;rcases back h with⟨_,rfl⟩|⟨_,h⟩
  .cases hl
  .exact (r.ok j x y h hl).keeps k (λ_ _=>rfl)
 .intro j1 j2 x1 x2 y1 y2 z h1 h2 l1 l2 f1 f2;rcases back h1 with⟨_,rfl⟩|⟨_,h1⟩
  .cases l1
  .rcases back h2 with⟨_,rfl⟩|⟨_,h2⟩
   .cases l2
   .exact r.apart _ _ _ _ _ _ z h1 h2 l1 l2 f1 f2
 .intro j x y z h hl hf;rcases back h with⟨_,rfl⟩|⟨_,h⟩
  .cases hl
  .exact r.fresh _ _ _ z h hl hf
theorem aAx:∀a b:List UInt8,Lib.compareBytes a b=if a=b then 0 else if Op.bytesLess a b=true then -1 else 1
 |[],[]=>rfl
 |[],_::_=>by simp[Lib.compareBytes,Op.bytesLess]
 |_::_,[]=>by simp[Lib.compareBytes,Op.bytesLess]
 |x::xs,y::ys=>by
  have ih:=aAx xs ys;simp only[Lib.compareBytes,Op.bytesLess];by_cases h:x<y
  .have hne:x≠y:=UInt8.ne_of_lt h;simp[h,hne]
  .by_cases h2:y<x
   .have hne:x≠y:=(UInt8.ne_of_lt h2).symm;simp[h,h2,hne]
   .have he:x=y:=UInt8.le_antisymm (UInt8.not_lt.1 h2) (UInt8.not_lt.1 h);subst he;simp[h,ih]
theorem qg{P:Program}[aB P]{f:FuncId}{fn:Func}(hf:P.funcs[f]? =some fn)(gz:(fn.name == "runtime.NumGoroutine")=false)
  (hb:fn.body.isNone=true) (hn:Extern.findNext fn=none) (he:Extern.find fn=some Extern.BytealgCompare.compare) (s t:bB):
  OkN P f [.str s,.str t] (.int .i64 (Lib.compareBytes s t)):=by
 intro w vs h;obtain⟨v1,h⟩:∃v:Value,vs=[.string ⟨s.toArray⟩,.string ⟨t.toArray⟩]:=by
  cases vs with
  |nil=>simp[Rc]at h
  |cons a vs=>cases vs with
   |nil=>simp[Rc]at h
   |cons b vs=>cases vs with
    |nil=>simp only[Rc,R]at h;obtain⟨f1,f2,h1,h2,h3⟩:=h;obtain⟨f3,f4,h4,h5,h6⟩:=h2;exact⟨a,by rw[h1.1,h4.1]⟩
    |cons d vs=>simp only[Rc,R]at h;obtain⟨f1,f2,h1,h2,h3⟩:=h;obtain⟨f3,f4,h4,h5,h6⟩:=h2;simp[Rc]at h5
 subst h;refine⟨.int .i64 (Lib.compareBytes s t),w,?_,rfl,mI.rfl,λ_ _=>by simp[R]⟩;rw[run_callFunc_extern hf gz hb hn he,show [Value.string ⟨s.toArray⟩,Value.string ⟨t.toArray⟩].toArray=#[Value.string ⟨s.toArray⟩,Value.string ⟨t.toArray⟩]from rfl,Go.Lib.run_compareString];rfl
theorem aT0{w w':World}{S:Nat->Prop}{fp:List Nat}(h3:∀b∈fp,w.heap.size<=b/\b<w'.heap.size):nG (λ_=>some .view) false (YI λx=>(S x\/(w.heap.size<=x/\x<w'.heap.size))/\x∉fp) (YI λx=>(S x\/(w.heap.size<=x/\x<w'.heap.size))/\x∉([]:List Nat)) (· ∈fp):=
 {own:=λg e=>by obtain rfl:=cQ e;exact⟨by simp,λb hb=>⟨.inr (h3 b hb),by simp⟩⟩
  view:=λg e=>by obtain rfl:=cQ e;exact⟨rfl,λb hb=>⟨hb.1,by simp⟩⟩
  kH:=λi g e=>by obtain rfl:=cQ e;exact⟨by simp,.inl trivial,λb hb=>hb.elim⟩
  hh:=λh=>by cases h
  hl:=λh=>by cases h}
theorem OkC.EY{P:Program}[aB P]{f:FuncId}{xs:List AV}{Q Q':AV->Prop}(h:OkC P f xs Q)(hq:∀r,Q r->Q' (rt (λ_=>some .view) false r)):OkC P f xs Q':=by
 intro w S b fo cap code vs a1 a2 a3 a4 a5 a6 a7;refine Calls.mono (h w S b fo cap code vs a1 a2 a3 a4 a5 a6 a7) λe w' he=> ?_
 obtain⟨r,v,fp,rfl,hQ,h1,h2,h3,h4,h5,h6,i,g,hi,hc⟩:=he;refine⟨_,v,[],rfl,hq r hQ,aJz (aT0 h3) r v fp (λ_ h=>h) h1,by simp,by simp,h4,h5,h6,i,g,hi,?_⟩;exact aKi (E:=YI λx=>(S x\/(w.heap.size<=x/\x<w'.heap.size))/\x∉fp) ⟨λx (hx:(S x\/(w.heap.size<=x/\x<w'.heap.size))/\x∉fp)=>⟨⟨hx.1,by simp⟩,rfl⟩,λ_ _=>trivial,λ_ _ _ h=>h.elim,λ_ _ _ h=>h.elim,λ_ _ _ _ _ h=>h.elim⟩ hc
theorem OkE.EY{P:Program}[aB P]{f:FuncId}{xs:List AV}{Q Q':AV->Prop}(h:OkE P f xs Q)(hq:∀r,Q r->Q' (rt (λ_=>some .view) false r)):OkE P f xs Q':=by
 intro w S vs a1 a5 a7;refine Calls.mono (h w S vs a1 a5 a7) λe w' he=> ?_
 obtain⟨r,v,fp,rfl,hQ,h1,h2,h3,h4,h5,h6⟩:=he;exact⟨_,v,[],rfl,hq r hQ,aJz (aT0 h3) r v fp (λ_ h=>h) h1,by simp,by simp,h4,h5,h6⟩
end
end Go.Aw
