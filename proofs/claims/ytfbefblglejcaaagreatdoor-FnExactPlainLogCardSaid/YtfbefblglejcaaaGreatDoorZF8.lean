/- Proved here: steps towards the statement of this claim. No condition. -/
import Derived.Test.YtfbefblglejcaaaGreatDoorZF4
set_option linter.all false
namespace Go.Aw
open List
section
variable{P:Program}[aC P]{B:gM P}{s:AS}{dst:Option Tmp}{ty:TypeId}{pos:String}{after:Array Edge}{gd:Option (Nat × Bool)}
theorem NA{o:List aM}:∀{c:List AV},(∀x∈c,x.iC=true)->uX o c=c/\nG o c=true/\kC c=[]
 |[],_=>⟨rfl,rfl,rfl⟩
 |x::xs,h=>by
  obtain⟨h1,h2,h3⟩:=NA (o:=o) (c:=xs) λy hy=>h y (by simp[hy])
  have hx:=h x (by simp);cases x<;>simp only[AV.iC]at hx<;>first|(cases hx;done)|(simp[uX,nG,kC,res,jJ,lV,h1,h2,h3])
theorem yj(t:TypeId)(len:Nat)(parts:Array (Nat×Operand)){e:TypeId}{n by' i:Nat}(he:mU P t=some (e,n,by'))(hz:iW P e n=true)(Na:wS parts.toList=true)(hlen:len=parts.toList.length)(hbig:len*n<=16777216)(hbig2:len<=16777216)
  (hpl:∀x∈(parts.toList.map (·.2)).map s.ev,x.iC=true) (hgood:∀x∈(parts.toList.map (·.2)).map s.ev,x.xX=true/\x.cells.length=n) (hi':s.o[i]? =some ⟨true,false,n,0,[]⟩):
  Step P B ⟨dst,.buildSlice t len parts,ty,pos,after,gd⟩ s (AS.put ⟨s.t,s.o.set i ⟨true,false,n,1,((parts.toList.map (·.2)).map s.ev).map AV.cells⟩⟩ dst (.obj i 1)):=
 sH λG a w r=>by
  generalize hxs:parts.toList.map (·.2)=xs at*;have AA:parts.toList=(xs.zipIdx).map λp=>(p.2,p.1):=by rw[<-hxs];exact Ew _ 0 Na
  obtain⟨hp1,Ws,hp3⟩:=NA (o:=s.o) hpl;obtain⟨fp,wK,hnd,Oz⟩:=JA r _ _ Ws (by rw[hp3];simp) (xJ r xs);have KI:fp=[]:=by
   cases fp with
   |nil=>rfl
   |cons b _=>obtain⟨i,ob,g,hi,_⟩:=Oz b (by simp);rw[hp3]at hi;cases hi
  subst KI;rw[hp1]at wK;obtain⟨Ou,hsz⟩:=Qy wK hgood;have hvl:(xs.map a.eval).length=len:=by rw[hlen,<-hxs];simp
  have hrun:(execOp a.eval ⟨dst,.buildSlice t len parts,ty,pos,after,gd⟩).run P w= .ok (.value (.slice (some ⟨w.heap.size,0,none⟩) len len)) (w.alloc (.cells ((xs.map a.eval).flatMap λv=>v.cells.toList).toArray e)):=by
   have e1:parts.map (λ(i,x)=>(i,a.eval x))=(((xs.map a.eval).zipIdx).map λp=>(p.2,p.1)).toArray:=by apply DO;simp only[CT,AA,map_map,zipIdx_map];rfl
   have:=uZ (P:=P) (t:=t) (len:=len) (w:=w) he hz hvl.symm hbig hsz;simp only[execOp,e1,nF,this,lP,sE]
  have hlt:i<G.length:=by rw[r.len];exact(cH.1 hi').1
  have hlk:Aw.look s.o G i ⟨true,false,n,0,[]⟩ G[i]:=⟨hi',aE hlt⟩;generalize G[i]=g at hlk;generalize hCd:((xs.map a.eval).flatMap λv=>v.cells.toList)=cs at*;have hcl:=jU Ou;have hself:(w.alloc (.cells cs.toArray e)).heap[w.heap.size]? =some (.cells cs.toArray e):=fO w _;have hrl:((xs.map s.ev).map AV.cells).length=len:=by have:=gH wK;rw[oY,<-this,hvl]
  have VA:len<=maxLen:=by simp only[maxLen];omega
  have hm:=r.modify hlk rfl ⟨true,false,n,1,(xs.map s.ev).map AV.cells⟩ ⟨some ⟨w.heap.size,0,none⟩,len,λb=>g.F b\/b=w.heap.size⟩ (w.alloc (.cells cs.toArray e)) (by simp) rfl (by simp)
   (λb hb=>by
    rcases hb with hb|hb
    .exact .inl hb
    .right;subst hb;simp) (λb hb hne=>⟨.inl hb,λa' wR=>by
     obtain rfl:=cQ wR;have:=(r.fresh _ _ _ b hlk rfl hb).2;simp only;omega⟩) (λb hlt _=>heap_alloc w _ b hlt) (by simp) (λk _=>by
   refine⟨[w.heap.size],?_,by simp,by simp⟩;generalize env B _ _ (w.alloc (.cells cs.toArray e))=E' at k⊢;simp only[Env.of,eS,gS];refine⟨by rw[hrl];exact VA,.inr ⟨w.heap.size,0,cs.toArray,e,(0,0),[],rfl,hself,.inr rfl,?_,by rw[hrl];exact eE _,VA,rfl,?_⟩⟩
   .simp [hcl];rw[<-hrl];simp
   .refine tQ.2 ⟨cs,wL k.plain (λb hb=>by cases hb) Ou,?_⟩
    refine rG hself (λj v hv=>by simpa using hv))
  have hl2:Aw.look (s.o.set i ⟨true,false,n,1,(xs.map s.ev).map AV.cells⟩) (G.set i ⟨some ⟨w.heap.size,0,none⟩,len,λb=>g.F b\/b=w.heap.size⟩) i ⟨true,false,n,1,(xs.map s.ev).map AV.cells⟩ ⟨some ⟨w.heap.size,0,none⟩,len,λb=>g.F b\/b=w.heap.size⟩:=rF hlk;refine⟨_,_,hrun,_,hm.1.put dst ?_⟩;simp only[R];exact⟨trivial,_,_,hl2,eE _,λ_ _=>by rw[hrl],λh=>absurd h (by decide)⟩
structure Uz where
  at_:Nat
  n:Nat
  st:List (Nat × aM)
def yl(J:Nat->Bool)(h:aM):List (Nat×aM)->aM
 |[]=>h
 |q::r=>if J q.1=true then q.2 else yl J h r
def vst(i:Nat)(pr:List Nat)(h dead:aM):List (Nat×aM)->aM
 |[]=>h
 |q::r=>if q.1∈pr then q.2 else if q.1=i\/i∈r.map (·.1)then vst i pr h dead r else dead
def hole(n:Nat):aM:=⟨true,false,n,0,[]⟩
def aFd(n:Nat):aM:=⟨false,false,n,0,[]⟩
def Aj(J:Nat->Bool):List Uz->List aM->List aM
 |[],o=>o
 |p::r,o=>Aj J r (o.set p.at_ (yl J (hole p.n) p.st))
def JV(i:Nat)(pr:List Nat):List Uz->List aM->List aM
 |[],o=>o
 |p::r,o=>JV i pr r (o.set p.at_ (vst i pr (hole p.n) (aFd p.n) p.st))
def SA(l:List Oper):List (Nat×aM)->Bool
 |[]=>true
 |[_]=>true
 |q::q'::r=>(nC l q.1).contains q'.1&&SA l (q'::r)
def aJg(l:List Oper)(fl:List Uz)(n:Nat):Bool:=
 decide (fl.map (·.at_)).Nodup&&(fl.all λp=>decide (p.at_<n)&&SA l p.st&&decide (p.st.map (·.1)).Nodup&&p.st.all λq=>decide (q.1<l.length))&&decide ((fl.flatMap λp=>p.st.map (·.1))).Nodup
theorem CR(J:Nat->Bool):∀(fl:List Uz) (o:List aM),(Aj J fl o).length=o.length
 |[],_=>rfl
 |q::r,o=>by simp only[Aj];rw[CR J r];simp
theorem Gn(i:Nat)(pr:List Nat):∀(fl:List Uz) (o:List aM),(JV i pr fl o).length=o.length
 |[],_=>rfl
 |q::r,o=>by simp only[JV];rw[Gn i pr r];simp
theorem Lr{J:Nat->Bool}{i:Nat}:∀{fl:List Uz} {o:List aM},(∀q∈fl,q.at_≠i)->(Aj J fl o)[i]? =o[i]?
 |[],_,_=>rfl
 |q::r,o,h=>by simp only[Aj];rw[Lr λp hp=>h p (by simp[hp]),lE (h q (by simp))]
theorem XT{k:Nat}{pr:List Nat}{i:Nat}:∀{fl:List Uz} {o:List aM},(∀q∈fl,q.at_≠i)->(JV k pr fl o)[i]? =o[i]?
 |[],_,_=>rfl
 |q::r,o,h=>by simp only[JV];rw[XT λp hp=>h p (by simp[hp]),lE (h q (by simp))]
theorem Ls{J:Nat->Bool}:∀{fl:List Uz} {o:List aM} {q:Uz},(fl.map (·.at_)).Nodup->q∈fl->q.at_<o.length->(Aj J fl o)[q.at_]? =some (yl J (hole q.n) q.st)
 |p::r,o,q,hn,hq,hl=>by
  simp only[Aj];simp only[mC,lR]at hn;rcases lB.1 hq with rfl|hq
  .rw [Lr λp hp e=>hn.1 (AM.2 ⟨p,hp,e⟩),mB hl]
  .exact Ls hn.2 hq (by simpa using hl)
theorem cz{k:Nat}{pr:List Nat}:∀{fl:List Uz} {o:List aM} {q:Uz},(fl.map (·.at_)).Nodup->q∈fl->q.at_<o.length->(JV k pr fl o)[q.at_]? =some (vst k pr (hole q.n) (aFd q.n) q.st)
 |p::r,o,q,hn,hq,hl=>by
  simp only[JV];simp only[mC,lR]at hn;rcases lB.1 hq with rfl|hq
  .rw [XT λp hp e=>hn.1 (AM.2 ⟨p,hp,e⟩),mB hl]
  .exact cz hn.2 hq (by simpa using hl)
theorem JW{J J':Nat->Bool}:∀{fl:List Uz} {o:List aM},(∀p∈fl,∀q∈p.st,J q.1=J' q.1)->Aj J fl o=Aj J' fl o
 |[],_,_=>rfl
 |p::r,o,h=>by
  simp only[Aj];have:∀st:List (Nat×aM),(∀q∈st,J q.1=J' q.1)->yl J (hole p.n) st=yl J' (hole p.n) st:=by
   intro st;induction st with
   |nil=>intros;rfl
   |cons q r ih=>intro h;simp only[yl];rw[h q (by simp),ih λx hx=>h x (by simp[hx])]
  rw[this p.st (h p (by simp)),JW λq hq=>h q (by simp[hq])]
theorem df{J:Nat->Bool}{i:Nat}{pr:List Nat}{n:Nat}(hi:J i=false)(hp:∀e∈pr,J e=true):∀(st:List (Nat×aM)),(∀s1 q s2,st=s1++q::s2->J q.1=false->∀p∈s1,J p.1=false)->(vst i pr (hole n) (aFd n) st).live=true->vst i pr (hole n) (aFd n) st=yl J (hole n) st
 |[],_,_=>rfl
 |q::r,aJh,h=>by
  simp only[vst,yl]at h⊢;by_cases h1:q.1∈pr
  .rw [eK h1,eK (hp _ h1)]
  .rw [cX h1]at h⊢;by_cases h2:q.1=i\/i∈r.map (·.1)
   .rw [eK h2]at h⊢;have hq:J q.1=false:=by
     rcases h2 with h2|h2
     .rw [h2];exact hi
     .obtain ⟨x,hx,rfl⟩:=AM.1 h2;obtain⟨r1,r2,rfl⟩:=append_of_mem hx;exact aJh (q::r1) x r2 rfl hi q (by simp)
    rw[hq,cX (by simp)];exact df hi hp r (λs1 x s2 e hx p hp=>aJh (q::s1) x s2 (by rw[e];rfl) hx p (by simp[hp])) h
   .rw [cX h2]at h;cases h
theorem Wt{l:List Oper}{q:Nat×aM}{r:List (Nat×aM)}(h:SA l (q::r)=true):SA l r=true:=by
 cases r with
 |nil=>rfl
 |cons q' r=>simp only[SA,eJ]at h;exact h.2
theorem SB{l:List Oper}{J:Nat->Bool}(hJ:Clo l J)(hlen:∀i,J i=true->i<l.length):∀{s1:List (Nat×aM)} {q:Nat×aM} {s2:List (Nat×aM)},SA l (s1++q::s2)=true->J q.1=false->∀p∈s1,J p.1=false
 |[],_,_,_,_=>λ_ hp=>by cases hp
 |x::s1,q,s2,h,hq=>by
  have ih:=SB hJ hlen (Wt h) hq;intro p hp;rcases lB.1 hp with rfl|hp
  .cases hJp:J p.1 with
   |false=>rfl
   |true=>
    exfalso;have hnx:∃y,(nC l p.1).contains y=true/\J y=false:=by
     cases s1 with
     |nil=>simp only[eA,eM,SA,eJ]at h;exact⟨q.1,h.1,hq⟩
     |cons y s1=>simp only[eA,SA,eJ]at h;exact⟨y.1,h.1,ih y (by simp)⟩
    obtain⟨y,hy,hyf⟩:=hnx;have hlp:=hlen _ hJp;have hop:l[p.1]? =some (l.get ⟨p.1,hlp⟩):=aE hlp;have hm:y∈pre (l.get ⟨p.1,hlp⟩):=by unfold nC at hy;rw[hop]at hy;simpa using hy
    have:=hJ _ _ hop hJp _ hm;rw[hyf]at this;cases this
  .exact ih p hp
theorem aFe{J:Nat->Bool}{i:Nat}{pr:List Nat}{fl:List Uz}{o:List aM}(hn:(fl.map (·.at_)).Nodup)(hs:∀q∈fl,q.at_<o.length)(hi:J i=false)(hp:∀e∈pr,J e=true)(aJh:∀q∈fl,∀s1 x s2,q.st=s1++x::s2->J x.1=false->∀p∈s1,J p.1=false):Sub (JV i pr fl o) (Aj J fl o):=by
 intro k ob h hl;by_cases hk:∃q∈fl,q.at_=k
 .obtain ⟨q,hq,rfl⟩:=hk;rw[cz hn hq (hs q hq)]at h;obtain rfl:=cQ h;rw[Ls hn hq (hs q hq),df hi hp _ (aJh q hq) hl]
 .have hk':∀q∈fl,q.at_≠k:=λq hq e=>hk ⟨q,hq,e⟩
  rw[XT hk']at h;rw[Lr hk'];exact h
theorem aJi{l:List Oper}{J:Nat->Bool}(hJ:Clo l J)(hlen:∀i,J i=true->i<l.length){n i:Nat}{fF:aM}:∀{s1 s2:List (Nat×aM)},SA l (s1++(i,fF)::s2)=true->((s1++(i,fF)::s2).map (·.1)).Nodup->J i=false->yl (uQ J i) (hole n) (s1++(i,fF)::s2)=fF
 |s1,s2,h,hn,hi=>by
  have hl:=SB hJ hlen h hi;induction s1 with
  |nil=>simp[yl,uQ]
  |cons x s1 ih=>
   simp only[eA,mC,lR]at hn;have hx:x.1≠i:=λe=>hn.1 (by simp[e])
   simp only[eA,yl];have:uQ J i x.1=false:=by unfold uQ;rw[cX hx];exact hl x (by simp)
   rw[this,cX (by simp)];exact ih (Wt h) hn.2 (λp hp=>hl p (by simp[hp]))
def EL(P:Program)[aC P](op:Oper)(m:List AV)(view:List aM)(pl:Nat)(val:AV)(fF:aM):Prop:=
 ∀(B:gM P) (t2:List AV) (o2:List aM),wk t2 m->Sub view o2->o2.length=view.length->Step P B op ⟨t2,o2⟩ ⟨uJ t2 op.dst val,o2.set pl fF⟩
def Wu(P:Program)[aC P](l:List Oper)(t:List AV)(b:List aM)(fl:List Uz)(j:Nat)(op:Oper)(vs:List AV): Prop :=
  (∀ e ∈ pre op, e<j) /\
  (((∀ p ∈ fl, ∀ q ∈ p.st, q.1 ≠ j) /\ nU op.op ⟨pX j (pre op) 0 l (vs.take j) t, JV j (pre op) fl b⟩ = true /\ ∃ x, (vs.getD j .undef = x \/ vs.getD j .undef = .undef) /\
      sN P l op ⟨pX j (pre op) 0 l (vs.take j) t, JV j (pre op) fl b⟩ (λs' => s' = ⟨uJ (pX j (pre op) 0 l (vs.take j) t) op.dst x, JV j (pre op) fl b⟩)) \/
   (op.guard = none /\ ∃ p ∈ fl, ∃ s1 fF s2, p.st = s1 ++ (j, fF) :: s2 /\ EL P op (pX j (pre op) 0 l (vs.take j) t) (JV j (pre op) fl b) p.at_ (vs.getD j .undef) fF))
theorem ym{P:Program}[aC P]{id:Nat}{l:List Oper}{s:AS}{Q:Exit->AS->Prop}(fl:List Uz){b:List aM}(vs:List AV)(hfw:OM l=true)(hdst:distinct l=true)(hfl:aJg l fl b.length=true)
  (hb0:Aj (λ_=>false) fl b=s.o++(fl.map (·.n)).map λn=>⟨true,false,n,0,[]⟩)
  (hit:∀j op,l[j]? =some op->Wu P l s.t b fl j op vs) (hK:Q .normal ⟨iM (λ_=>true) 0 l vs s.t,Aj (λ_=>true) fl b⟩):uY P (.region id l.toArray true) s Q:=by
 simp only[aJg,eJ,fR,fN]at hfl;obtain⟨⟨hnd,hsl⟩,aT1⟩:=hfl;have hs:∀q∈fl,q.at_<b.length:=λq hq=>(hsl q hq).1.1.1
 have hsq:∀q∈fl,∀x∈q.st,x.1<l.length:=λq hq=>(hsl q hq).2
 have hst:∀q∈fl,SA l q.st=true:=λq hq=>(hsl q hq).1.1.2
 have NB:∀q∈fl,(q.st.map (·.1)).Nodup:=λq hq=>(hsl q hq).1.2
 have aT2:∀p∈fl,∀p'∈fl,∀q∈p.st,∀q'∈p'.st,q.1=q'.1->p.at_=p'.at_:=by
  have:∀(fl:List Uz),(fl.flatMap λp=>p.st.map (·.1)).Nodup->∀p∈fl,∀p'∈fl,∀q∈p.st,∀q'∈p'.st,q.1=q'.1->p.at_=p'.at_:=by
   intro fl;induction fl with
   |nil=>intro _ p hp;cases hp
   |cons x fl ih=>
    intro hn p hp p' hp' q hq q' hq' e;simp only[flatMap_cons,gO]at hn;rcases lB.1 hp with e1|hp1<;>rcases lB.1 hp' with e2|Ws
    .rw [e1,e2]
    .exfalso;rw[e1]at hq;exact hn.2.2 _ (AM.2 ⟨q,hq,rfl⟩) _ (FA.2 ⟨p',Ws,AM.2 ⟨q',hq',rfl⟩⟩) e
    .exfalso;rw[e2]at hq';exact hn.2.2 _ (AM.2 ⟨q',hq',rfl⟩) _ (FA.2 ⟨p,hp1,AM.2 ⟨q,hq,rfl⟩⟩) e.symm
    .exact ih hn.2.1 p hp1 p' Ws q hq q' hq' e
  exact this fl aT1
 unfold uY;have hrest:yE l l.length=true:=by unfold yE;rw[fN];intro i hi;simp at hi;simp only[tI,fR];exact .inl (by omega)
 refine ZX (ops:=l.toArray) l.length (by simp) (by simpa using hfw) (by simpa using hrest) (λJ=>⟨iM J 0 l vs s.t,Aj J fl b⟩) ?_ ?_ ?_
 .have e1:∀(l:List Oper) (j:Nat) (vs t:List AV),iM (λ_=>false) j l vs t=t:=by
   intro l;induction l with
   |nil=>intros;rfl
   |cons op r ih=>intro j vs t;simp only[iM];rw[ih];unfold Ba;cases op.dst<;>simp
  rw[e1,hb0];exact λ_ _ _ _ _ r=>QU _ r
 .intro i op him hi J hJ hJm hJi hpre;have hi':l[i]? =some op:=by simpa using hi
  have hJ':Clo l J:=by simpa using hJ
  have aLh:∀k,J k=true->k<l.length:=λk hk=>by
   rcases sL k l.length with h|h
   .exact h
   .rw [hJm k h]at hk;cases hk
  obtain⟨aT3,hex⟩:=hit i op hi';have VZ:wk (iM J 0 l vs s.t) (pX i (pre op) 0 l (vs.take i) s.t):=
   Nr hJi (λe he=>⟨hpre e he,aT3 e he⟩) l 0 vs (vs.take i) s.t s.t (λk q hk hJk=>hJ' k q hk (by simpa using hJk)) (λk hk=>by
    rw[iS,iS,AW];simp[show k<i by omega]) (lC _)
  have hsub:=aFe (J:=J) (i:=i) (pr:=pre op) hnd hs hJi hpre (λq hq s1 x s2 e hx=>SB hJ' aLh (by rw[<-e];exact hst q hq) hx);have aQv:∀v,vs.getD i .undef=v->iM (uQ J i) 0 l vs s.t=uJ (iM J 0 l vs s.t) op.dst v:=λv hv=>by
   have:=Hz l 0 i op vs s.t v hdst hi' (by simpa using hJi) hv
   rwa[hM]at this
  rcases hex with⟨hnf,hq,x,hvx,hop⟩|⟨hg,p,hp,s1,fF,s2,aJj,PR⟩
  .left;obtain⟨x',new',x2,rfl',hx2,_,hfin⟩:=CK (o2:=Aj J fl b) hq VZ hop hsub (.inl (by rw[CR,Gn]));refine hfin _ ?_;have hset:new'=[]/\(uJ (pX i (pre op) 0 l (vs.take i) s.t) op.dst x'=uJ (pX i (pre op) 0 l (vs.take i) s.t) op.dst x):=by simp only[AS.mk.injEq]at rfl';refine⟨?_,rfl'.1⟩;have:=As length rfl'.2;rw[eR]at this;exact lO (by omega)
   have hto:wk (uJ (iM J 0 l vs s.t) op.dst x2) (iM (uQ J i) 0 l vs s.t):=by
    rw[aQv _ rfl];have hL:=Nq VZ;have O5:=hset.2;unfold uJ at O5⊢;cases hd:op.dst with
    |none=>exact lC _
    |some d=>
     rw[hd]at O5;dsimp only at O5⊢;rcases sL d (iM J 0 l vs s.t).length with hdl|hle
     .have hxx:x'=x:=by have h5:=As (λt=>t[d]?) O5;have aQw:d<(pX i (pre op) 0 l (vs.take i) s.t).length:=hL▸hdl;rw[mB aQw,mB aQw]at h5;exact cQ h5
      refine Sa d (lC _) ?_;rcases hvx with e|e
      .rw [e,<-hxx];assumption
      .exact .inr e
     .rw [By hle,By hle];exact lC _
   have Cs:Aj J fl b++new'=Aj (uQ J i) fl b:=by
    rw[hset.1,fW];refine JW λp hp q hq=> ?_
    unfold uQ;rw[cX (hnf p hp q hq)]
   rw[Cs];exact wF hto
  .right;refine⟨hg,λB=> ?_⟩;have:=PR B _ _ VZ hsub (by rw[CR,Gn]);have e:Aj (uQ J i) fl b=(Aj J fl b).set p.at_ fF:=by
    refine BY λk=> ?_
    by_cases hk:∃q∈fl,q.at_=k
    .obtain ⟨q,hq,rfl⟩:=hk;rw[Ls hnd hq (hs q hq)];by_cases hqp:q.at_=p.at_
     .have aT4:q=p:=HV (·.at_) fl hnd q p hq hp hqp;subst aT4;rw[mB (by rw[CR];exact hs q hq),aJj];rw[aJi hJ' aLh (by rw[<-aJj];exact hst q hq) (by rw[<-aJj];exact NB q hq) hJi]
     .rw [lE (λe=>hqp e.symm),Ls hnd hq (hs q hq)]
      have:∀st:List (Nat×aM),(∀x∈st,x.1≠i)->yl (uQ J i) (hole q.n) st=yl J (hole q.n) st:=by
       intro st;induction st with
       |nil=>intros;rfl
       |cons x r ih=>
        intro h;have hx:uQ J i x.1=J x.1:=by unfold uQ;rw[cX (h x (by simp))]
        simp only[yl];rw[hx,ih λy hy=>h y (by simp[hy])]
      rw[this q.st λx hx e=>hqp (aT2 q hq p hp x hx (i,fF) (by rw[aJj];simp) e)]
    .have hk':∀q∈fl,q.at_≠k:=λq hq e=>hk ⟨q,hq,e⟩
     rw[Lr hk',lE (hk' p hp),Lr hk']
   rw[aQv _ rfl,e];exact this
 .intro J hJ hJm hor;left;have hsz:l.toArray.size=l.length:=by simp
  have hall:∀i,i<l.length->J i=true:=by
   intro i hi;rcases hor with h|⟨op,hop,_⟩
   .exact h i (by omega)
   .have:=(cH.1 hop).1;simp at this
  rw[hsz];have e3:(range l.length).map J=replicate l.length true:=by
   refine BY λi=> ?_
   rw[tA,getElem?_replicate];by_cases hi:i<l.length
   .simp [hi,hall i hi]
   .simp [hi]
  have e4:left (replicate l.length true)=0:=by
   unfold left;rw[filter_eq_nil_iff.2]
   .rfl
   .intro x hx;rw[(mem_replicate.1 hx).2];simp
  rw[e3,e4];simp only[Ag];have e5:iM J 0 l vs s.t=iM (λ_=>true) 0 l vs s.t:=CF l 0 vs s.t λk hk=>by rw[hM];exact hall k hk
  have e6:Aj J fl b=Aj (λ_=>true) fl b:=JW λp hp q hq=>hall _ (hsq p hp q hq)
  rw[e5,e6];exact hK
theorem aA2{x:AV}(h:x.iC=true):x≠ .undef:=by rintro rfl;simp[AV.iC]at h
theorem aNh{P:Program}[aC P]{dst:Option Tmp}{ty:TypeId}{pos:String}{after:Array Edge}{gd:Option (Nat×Bool)}{m:List AV}{view:List aM}{pl:Nat}{T:TypeId}{len:Nat}{parts:Array (Nat×Operand)}{e:TypeId}{n by':Nat}{xs:List AV}
  (he:mU P T=some (e,n,by')) (hz:iW P e n=true) (Na:wS parts.toList=true) (hlen:len=parts.toList.length) (hbig:len*n<=16777216) (hbig2:len<=16777216)
  (hxs:(parts.toList.map (·.2)).map (AS.ev ⟨m,view⟩)=xs) (hpl:∀x∈xs,x.iC=true) (hgood:∀x∈xs,x.xX=true/\x.cells.length=n) (hv:view[pl]? =some (hole n)):
  EL P ⟨dst,.buildSlice T len parts,ty,pos,after,gd⟩ m view pl (.obj pl 1) ⟨true,false,n,1,xs.map AV.cells⟩:=by
 intro B t2 o2 hw hs _;have e2:(parts.toList.map (·.2)).map (AS.ev ⟨t2,o2⟩)=xs:=by
  have key:∀(l:List Operand) (xs:List AV),l.map (AS.ev ⟨m,view⟩)=xs->(∀x∈xs,x.iC=true)->l.map (AS.ev ⟨t2,o2⟩)=xs:=by
   intro l;induction l with
   |nil=>intro xs h _;exact h
   |cons a l ih=>
    intro xs h hp;cases xs with
    |nil=>cases h
    |cons x xs=>simp only[mC,List.cons.injEq]at h⊢;exact⟨CB hw h.1 (aA2 (hp x (by simp))),ih xs h.2 λy hy=>hp y (by simp[hy])⟩
  exact key _ _ hxs hpl
 have ho:o2[pl]? =some ⟨true,false,n,0,[]⟩:=hs pl _ hv rfl;have:=yj (P:=P) (B:=B) (s:=⟨t2,o2⟩) (dst:=dst) (ty:=ty) (pos:=pos) (after:=after) (gd:=gd) T len parts (i:=pl) he hz Na hlen hbig hbig2 (by rw[e2];exact hpl) (by rw[e2];exact hgood) ho;rw[e2,put_eq]at this;exact this
theorem aA3{P:Program}[aC P]{dst:Option Tmp}{ty:TypeId}{pos:String}{after:Array Edge}{gd:Option (Nat×Bool)}{m:List AV}{view:List aM}{pl v:Nat}{x y:Operand}{tS xT:TypeId}{e:TypeId}{n by':Nat}{ob:aM}{l2:List (List AV)}
  (he:mU P tS=some (e,n,by')) (hz:iW P e n=true) (hxt:rJ P xT=true) (hx:AS.ev ⟨m,view⟩ x= .obj pl v) (hv:view[pl]? =some ob) (wJ:ob.live=true/\ob.bV=v/\ob.box=false/\ob.n=n)
  (hy:AS.ev ⟨m,view⟩ y= .sl .view n l2) (hbytes:(ob.dP.length+l2.length)*by'<=140737488355328) (h63:ob.dP.length+l2.length<=9223372036854775807):
  EL P ⟨dst,.call {callee:= .builtin .append,args:=#[x,y],argTypes:=#[tS,xT]},ty,pos,after,gd⟩ m view pl (.obj pl (v+1)) {ob with bV:=v+1,dP:=ob.dP++l2}:=by
 intro B t2 o2 hw hs _;have ho:o2[pl]? =some ob:=hs pl _ hv wJ.1;have hx2:AS.ev ⟨t2,o2⟩ x= .obj pl v:=CB hw hx (by simp);have hy2:AS.ev ⟨t2,o2⟩ y= .sl .view n l2:=CB hw hy (by simp);have FO:AV.isObj o2 pl v=some ob:=by simp[AV.isObj,ho,wJ.1,wJ.2.1]
 have:=step_append (P:=P) (B:=B) (s:=⟨t2,o2⟩) (dst:=dst) (ty:=ty) (pos:=pos) (after:=after) (gd:=gd) tS xT x y (i:=pl) (ob:=ob) (s1:=⟨t2,o2⟩) (l2:=l2) (o2:=o2) he hz hxt
  (by rw[hx2];simp only[AS.target,FO,wJ.2.2.1,wJ.2.2.2,FF,gC]) (by rw[hy2];simp only[AS.source,gC]) hbytes h63
 simp only[AS.yB,put_eq,wJ.2.1]at this;exact this
theorem CS{P:Program}[aC P]{dst:Option Tmp}{ty:TypeId}{pos:String}{after:Array Edge}{gd:Option (Nat×Bool)}{m:List AV}{view:List aM}{pl:Nat}{T:TypeId}{len:Nat}{parts:Array (Nat×Operand)}{e:TypeId}{n by':Nat}{xs:List AV}{dP:List (List AV)}
  (he:mU P T=some (e,n,by')) (hz:iW P e n=true) (Na:wS parts.toList=true) (hlen:len=parts.toList.length) (hbig:len*n<=16777216) (hbig2:len<=16777216)
  (hxs:(parts.toList.map (·.2)).map (AS.ev ⟨m,view⟩)=xs) (hpl:∀x∈xs,x.iC=true) (hgood:∀x∈xs,x.xX=true/\x.cells.length=n) (hv:view[pl]? =some (hole n)) (hels:xs.map AV.cells=dP):
  EL P ⟨dst,.buildSlice T len parts,ty,pos,after,gd⟩ m view pl (.obj pl 1) ⟨true,false,n,1,dP⟩:=by
 subst hels;exact aNh he hz Na hlen hbig hbig2 hxs hpl hgood hv
theorem zL{P:Program}[aC P]{dst:Option Tmp}{ty:TypeId}{pos:String}{after:Array Edge}{gd:Option (Nat×Bool)}{m:List AV}{view:List aM}{pl v v':Nat}{x y:Operand}{tS xT:TypeId}{e:TypeId}{n by':Nat}{dP els':List (List AV)}{l2:List (List AV)}
  (hx:AS.ev ⟨m,view⟩ x= .obj pl v) (hvv:v+1=v') (hv:view[pl]? =some ⟨true,false,n,v,dP⟩) (hy:AS.ev ⟨m,view⟩ y= .sl .view n l2) (hels:dP++l2=els')
  (he:mU P tS=some (e,n,by')) (hz:iW P e n=true) (hxt:rJ P xT=true) (hbytes:(dP.length+l2.length)*by'<=140737488355328) (h63:dP.length+l2.length<=9223372036854775807):
  EL P ⟨dst,.call {callee:= .builtin .append,args:=#[x,y],argTypes:=#[tS,xT]},ty,pos,after,gd⟩ m view pl (.obj pl v') ⟨true,false,n,v',els'⟩:=by
 subst hels;subst hvv;exact aA3 he hz hxt hx hv ⟨rfl,rfl,rfl,rfl⟩ hy hbytes h63
def yn(P:Program)[aC P](l:List Oper)(t:List AV)(b:List aM)(fl:List Uz)(K:AS->Prop):Nat->List Oper->List AV->Prop
 |_,[],vs=>K ⟨iM (λ_=>true) 0 l vs t,Aj (λ_=>true) fl b⟩
 |j,op::r,vs=>∃x,Wu P l t b fl j op (vs++[x])/\yn P l t b fl K (j+1) r (vs++[x])
theorem dh{P:Program}[aC P]{l:List Oper}{t:List AV}{b:List aM}{fl:List Uz}{j:Nat}{op:Oper}{vs vs':List AV}(h:Wu P l t b fl j op vs)(h1:vs.take j=vs'.take j)(h2:vs.getD j .undef=vs'.getD j .undef):Wu P l t b fl j op vs':=by unfold Wu at h⊢;rw[h1,h2]at h;exact h
theorem O6{P:Program}[aC P]{l:List Oper}{t:List AV}{b:List aM}{fl:List Uz}{K:AS->Prop}:∀(r:List Oper) (j:Nat) (vs:List AV),l.drop j=r->vs.length=j->yn P l t b fl K j r vs->
  ∃vf,vf.take j=vs/\(∀k op,j<=k->l[k]? =some op->Wu P l t b fl k op vf)/\K ⟨iM (λ_=>true) 0 l vf t,Aj (λ_=>true) fl b⟩
 |[],j,vs,hd,hl,h=>by refine⟨vs,cY (by omega),λk op hk hop=> ?_,h⟩;have h1:=(cH.1 hop).1;have h2:=As length hd;simp at h2;omega
 |op::r,j,vs,hd,hl,h=>by
  simp only[yn]at h;obtain⟨x,hi,h⟩:=h;have hd':l.drop (j+1)=r:=by rw[<-AD,hd];rfl
  have hop:l[j]? =some op:=by have:=As (·[0]?) hd;simpa using this
  obtain⟨vf,h1,h2,h3⟩:=O6 r (j+1) (vs++[x]) hd' (by simp[hl]) h;refine⟨vf,?_,λk op' hk hop'=> ?_,h3⟩
  .have:=As (List.take j) h1;rw[take_take]at this;rw[DG (by omega)]at this;rw[this,Bx (by omega),cY (by omega)]
  .rcases sL j k with hlt|hge
   .exact h2 k op' hlt hop'
   .obtain rfl:j=k:=by omega
    rw[hop]at hop';obtain rfl:=cQ hop';refine dh hi ?_ ?_
    .have:=As (List.take j) h1;rw[take_take,DG (by omega)]at this;rw[this]
    .have:=As (·[j]?) h1;simp only[AW]at this;rw[eK (by omega)]at this;rw[iS,iS,this]
@[irreducible] def di{α:Type}(x:α):α:=x
theorem yL{α:Type}(x:α):di x=x:=by unfold di;rfl
def Ak(f:Nat->Bool):Code->Code
 | .region id ops true=>if f id then .region id (di ops) true else .region id ops true
 | .region id ops false=>if f id then di (.region id ops false)else .region id ops false
 | .seq x y=> .seq (Ak f x) (Ak f y)
 | .cond c x y=> .cond c (Ak f x) (Ak f y)
 | .block id c=> .block id (Ak f c)
 | .loop c=> .loop (Ak f c)
 |c=>c
theorem Al(f:Nat->Bool):∀c:Code,Ak f c=c
 | .region id ops true=>by simp only[Ak];split<;>simp[yL]
 | .region id ops false=>by simp only[Ak];split<;>simp[yL]
 | .seq x y=>by simp[Ak,Al f x,Al f y]
 | .cond c x y=>by simp[Ak,Al f x,Al f y]
 | .block id c=>by simp[Ak,Al f c]
 | .loop c=>by simp[Ak,Al f c]
 | .skip=>rfl
 | .exit _=>rfl
 | .ret=>rfl
 | .rangeFunc _ _ _ _=>rfl
 | .scope _=>rfl
 | .label _=>rfl
 | .goto _=>rfl
 | .refuse _=>rfl
theorem uK{P:Program}[aC P](hm:P.follows .mixedOrders=true){f:FuncId}{fn:Func}{c c':Code}(L:List Nat)(hf:P.funcs[f]? =some fn){n:Nat}(hn:fn.ntmps=n){args t:List AV}{rr:AV}
  (h:uY P c' ⟨t,[]⟩ (λe s=>(e= .normal\/e= .ret)/\aP P fn s rr)) (hb:fn.body=some c:=by rfl)
  (hc:Ak (λi=>L.contains i) c=c':=by simp[Ak];rfl)
  (ht:args++replicate (n-args.length) .undef=t:=by
   simp only[eN,eV,Nat.reduceSub,Nat.reduceAdd,pN,BW,eA,eM];rfl):Ok P f args rr:=by
 subst ht;subst hn;subst hc;rw[Al]at h;exact VJ hm hf hb h
theorem go_weak{P:Program}[aC P]{id:Nat}{l:List Oper}{s s2:AS}{Q:Exit->AS->Prop}(hw:lY s s2)(h:uY P (.region id l.toArray false) s2 Q):uY P (di (.region id l.toArray false)) s Q:=by rw[yL];exact uq hw h
theorem go_drawn3{P:Program}[aC P]{id:Nat}{l:List Oper}{s:AS}{Q:Exit->AS->Prop}(fl:List Uz){b:List aM}(hb:s.o++(fl.map (·.n)).map (λn=>⟨true,false,n,0,[]⟩)=b)(hfw:OM l=true)(hdst:distinct l=true)(hfl:aJg l fl b.length=true)
  (hb0:Aj (λ_=>false) fl b=b) (h:yn P l s.t b fl (Q .normal) 0 l []):uY P (.region id (di l.toArray) true) s Q:=by
 rw[yL];obtain⟨vf,_,h2,h3⟩:=O6 l 0 [] rfl rfl h;exact ym fl vf hfw hdst hfl (by rw[hb0,hb]) (λj op hop=>h2 j op (Nat.zero_le _) hop) h3
section
variable{P:Program}[aC P]{l:List Oper}{t:List AV}{b:List aM}{fl:List Uz}{K:AS -> Prop}{j:Nat}{op:Oper}{r:List Oper}{vs:List AV}{pr:List Nat}{m:List AV}{om:List aM}
theorem XU{t':List AV}{o':List aM}(h1:iM (λ_=>true) 0 l vs t=t')(h2:Aj (λ_=>true) fl b=o')(h:K ⟨t',o'⟩):yn P l t b fl K j [] vs:=by simp only[yn,h1,h2];exact h
theorem QG{vs':List AV}{c:Prop}(hc:c)(hv:vs=vs')(hd:yn P l t b fl K j r vs'):c/\yn P l t b fl K j r vs:=by subst hv;exact⟨hc,hd⟩
theorem QH(hg:op.guard=none)(hnf:(fl.all λp=>p.st.all λq=>decide (q.1≠j))=true)(hpr:pre op=pr)(hlt:(pr.all λe=>decide (e<j))=true)(hm:pX j pr 0 l vs t=m)(ho:JV j pr fl b=om)(hq:nU op.op ⟨m,om⟩=true)(hvl:vs.length=j)(hdl:(match op.dst with|some d=>decide (d<m.length)|none=>true)=true)
  (ha:Nx 2 P op ⟨m,om⟩ λs'=>s'.o.length=om.length/\yn P l t b fl K (j+1) r (vs++[Gi op s'])):yn P l t b fl K j (op::r) vs:=by
 have hst:sN P l op ⟨m,om⟩ λs'=>s'.o.length=om.length/\yn P l t b fl K (j+1) r (vs++[Gi op s']):=by
  unfold sN;simp only[hg];unfold Nx at ha;rcases ha with ha|ha
  .exact .inl ha
  .rcases ha with ha|ha
   .exact absurd ha.1 (by decide)
   .exact .inr ha.2
 obtain⟨x,new,x2,⟨hlen,hK⟩,hx,_,hfin⟩:=CK (t2:=m) (o2:=om) hq (lC _) hst (λi ob h _=>h) (.inl rfl);have hnew:new=[]:=by rw[eR]at hlen;exact lO (by omega)
 subst hnew;rw[fW]at hK;simp only[yn];refine⟨_,?_,hK⟩;have htk:(vs++[Gi op ⟨uJ m op.dst x,om⟩]).take j=vs:=by rw[Bx (by omega),cY (by omega)]
 have hgd:(vs++[Gi op ⟨uJ m op.dst x,om⟩]).getD j .undef=Gi op ⟨uJ m op.dst x,om⟩:=by rw[iS,hY (by omega),hvl,zE];rfl
 refine⟨λe he=>by rw[hpr]at he;have:=fN.1 hlt e he;simpa using this,.inl ⟨λp hp q hq=> ?_,?_,x2,?_,?_⟩⟩
 .have:=fN.1 (fN.1 hnf p hp) q hq;simpa using this
 .rw [htk,hpr,hm,ho];exact hq
 .rw [hgd];unfold Gi uJ;cases hd:op.dst with
  |none=>exact .inr rfl
  |some d=>
   rw[hd]at hdl;have hdl:d<m.length:=by simpa using hdl
   dsimp only;rw[iS,mB hdl];exact hx
 .rw [htk,hpr,hm,ho];exact hfin _ (by rw[fW])
theorem oD{v:AV}{fF:aM}(p:Uz)(s1 s2:List (Nat×aM))(hg:op.guard=none)(hp:p∈fl)(hst:p.st=s1++(j,fF)::s2)(hpr:pre op=pr)(hlt:(pr.all λe=>decide (e<j))=true)(hm:pX j pr 0 l vs t=m)(ho:JV j pr fl b=om)(hvl:vs.length=j)
  (ha:EL P op m om p.at_ v fF) (h:yn P l t b fl K (j+1) r (vs++[v])):yn P l t b fl K j (op::r) vs:=by
 simp only[yn];refine⟨v,?_,h⟩;have htk:(vs++[v]).take j=vs:=by rw[Bx (by omega),cY (by omega)]
 have hgd:(vs++[v]).getD j .undef=v:=by rw[iS,hY (by omega),hvl,zE];rfl
 refine⟨λe he=>by rw[hpr]at he;have:=fN.1 hlt e he;simpa using this,.inr ⟨hg,p,hp,s1,fF,s2,hst,?_⟩⟩;rw[htk,hgd,hpr,hm,ho];exact ha
end
attribute [simp] Aj JV yl vst hole aFd aJg SA
def qH(P:Program)(fn:Func)(s:AS)(r:AV):Prop:=
 ∃ys,s.wT P fn.results.toList=some ys/\jJ s.o (single ys)=true/\(lV (single ys)).Nodup/\res s.o (single ys)=r
def QF(P:Program)(fn:Func)(s:AS)(r:AV):Prop:=
 ∃i ys,s.yK P fn.results.toList=some (i,ys)/\jJ s.o (single ys)=true/\(lV (single ys)).Nodup/\i∉lV (single ys)/\res s.o (single ys)=r
theorem rT{P:Program}{fn:Func}{s:AS}{r:AV}(h:match s.yK P fn.results.toList with|some (i,ys)=>jJ s.o (single ys)=true/\(lV (single ys)).Nodup/\i∉lV (single ys)/\res s.o (single ys)=r|none=>False):QF P fn s r:=by
 unfold QF;split at h
 .rename_i i ys hx;exact⟨i,ys,hx,h⟩
 .exact h.elim
theorem yg{P:Program}[aC P](hm:P.follows .mixedOrders=true){f:FuncId}{fn:Func}{c:Code}(hf:P.funcs[f]? =some fn)(hb:fn.body=some c){args:List AV}{rr:AV}(aFb:JI args=true)
  (h:uY P c ⟨args++replicate (fn.ntmps-args.length) .undef,[]⟩ (λe s=>(e= .normal\/e= .ret)/\(qH P fn s rr\/QF P fn s rr))):Ok P f args rr:=by
 intro w vs hg hargs;have hl:=gH hargs;have r0:eB ⟨w,λ_=>False,λ_=>False,λ_=>none,λ_=>none,hg,λ_ h=>h.elim,λ_ h=>h.elim⟩ ⟨args++replicate (fn.ntmps-args.length) .undef,[]⟩ [] {tmps:=vs.toArray++Array.replicate (fn.ntmps-vs.toArray.size) Go.undef,defers:=[]} w:=by
  refine⟨rfl,rfl,λi ob g hl=>by simp[look]at hl,λi j oi oj gi gj b hl=>by simp[look]at hl,λi ob g b hl=>by simp[look]at hl,?_,eE _,λ_ _ _=>rfl,λb hb=>hb.elim,nS.rfl⟩;have h1:Rc w (env ⟨w,λ_=>False,λ_=>False,λ_=>none,λ_=>none,hg,λ_ h=>h.elim,λ_ h=>h.elim⟩ [] [] w) args vs []:=JJ _ _ _ aFb hargs;have h2:∀n,Rc w (env ⟨w,λ_=>False,λ_=>False,λ_=>none,λ_=>none,hg,λ_ h=>h.elim,λ_ h=>h.elim⟩ [] [] w) (replicate n .undef) (replicate n Go.undef) []:=by
   intro n;induction n with
   |zero=>simp[Rc]
   |succ n ih=>simp only[pN,Rc];exact⟨[],[],by simp[R],ih,rfl⟩
  have:=mQ h1 (h2 (fn.ntmps-args.length));simpa [hl]using this
 refine calls_of_wp hf hb (wp_mono (sK hm c _ _ h _ _ ⟨_,r0⟩) λe a w' he=> ?_);obtain⟨s,⟨he,yf⟩,G,r⟩:=he;have key:∃(v:Value) (fp:List Nat),(results fn a.tmps).run P w'= .ok v w'/\R w' (env ⟨w,λ_=>False,λ_=>False,λ_=>none,λ_=>none,hg,λ_ h=>h.elim,λ_ h=>h.elim⟩ s.o G w').plain rr v fp/\fp.Nodup/\∀b∈fp,∃j ob g,look s.o G j ob g/\ob.live=true/\g.F b:=by
  rcases yf with⟨ys,uo,nR,hu,jO⟩|⟨i,ys,uo,nR,hu,hi,jO⟩
  .obtain ⟨v,hrun,hR⟩:=Ad r uo;obtain⟨fp,h1,h2,h3⟩:=KN r _ v nR hu hR;rw[jO]at h1;exact⟨v,fp,hrun,h1,h2,λb hb=>by obtain⟨i,ob,g,_,h⟩:=h3 b hb;exact⟨i,ob,g,h⟩⟩
  .obtain ⟨v,fp0,ob,g,hlk,hlive,hrun,hR,hnd,hF⟩:=Lp r uo;obtain⟨fp,h1,h2,h3⟩:=tq r hlk hlive _ v fp0 nR hu hi hnd hF hR;rw[jO]at h1;refine⟨v,fp,hrun,h1,h2,λb hb=> ?_⟩;rcases h3 b hb with h|⟨j,fF,g',_,h⟩
   .exact ⟨i,ob,g,hlk,hlive,hF b h⟩
   .exact ⟨j,fF,g',h⟩
 obtain⟨v,fp,hrun,h1,h2,h3⟩:=key;have hfin:∃v' fp,Ending.returned v= .returned v'/\R w' (BC w.heap.size w' fp) rr v' fp/\fp.Nodup/\(∀b∈fp,w.heap.size<=b/\b<w'.heap.size)/\w.heap.size<=w'.heap.size/\(∀b,b<w.heap.size->w'.heap[b]? =w.heap[b]?)/\nS w w':=by
  refine⟨v,fp,rfl,?_,h2,λb hb=> ?_,r.size,λb hb=>r.frame b hb (λh=>h),r.same⟩
  .have k:eO w' (env ⟨w,λ_=>False,λ_=>False,λ_=>none,λ_=>none,hg,λ_ h=>h.elim,λ_ h=>h.elim⟩ s.o G w').plain w' (BC w.heap.size w' fp):=
    ⟨λb hb=>⟨⟨(hb.1.resolve_left (λh=>h)).1,(hb.1.resolve_left (λh=>h)).2,λhm=>by
     obtain⟨j,ob,g,hl,hlive,hF⟩:=h3 b hm;exact hb.2 j ob g hl hlive hF⟩,rfl⟩,λ_ _=>trivial,λ_ _ _ h=>h.elim,λ_ _ _ h=>h.elim,λ_ _ _ _ _ h=>h.elim⟩
   exact qB k _ _ _ (λ_ _=>rfl) h1
  .obtain ⟨i,ob,g,hl,hlive,hF⟩:=h3 b hb;have:=r.fresh _ _ _ b hl hlive hF;exact⟨this.1.resolve_left (λh=>h),this.2⟩
 rcases he with rfl|rfl
 .exact ⟨r.defs,v,hrun,hfin⟩
 .exact ⟨r.defs,v,hrun,hfin⟩
theorem UZ{P:Program}[aC P](hm:P.follows .mixedOrders=true){f:FuncId}{fn:Func}{c:Code}(hf:P.funcs[f]? =some fn){n:Nat}(hn:fn.ntmps=n){args t:List AV}{rr:AV}
  (h:uY P c ⟨t,[]⟩ (λe s=>(e= .normal\/e= .ret)/\(qH P fn s rr\/QF P fn s rr))) (hb:fn.body=some c:=by rfl) (aFb:JI args=true:=by simp[JI,vB])
  (ht:args++replicate (n-args.length) .undef=t:=by
   simp only[eN,eV,Nat.reduceSub,Nat.reduceAdd,pN,BW,eA,eM];rfl):Ok P f args rr:=by
 subst ht;subst hn;exact yg hm hf hb aFb h
theorem Ok.vw{P:Program}[aC P]{f:FuncId}{args:List AV}{r:AV}(h:Ok P f args r):Ok P f args (rt (λ_=>some .view) false r):=by
 intro w vs hg hr;refine Calls.mono (h w vs hg hr) λe w' he=> ?_
 obtain⟨v,fp,rfl,h1,h2,h3,h4,h5,h6⟩:=he;have k:nE (λ_=>some .view) false (BC w.heap.size w' fp) (BC w.heap.size w' []) (· ∈fp):=
  {own:=λg e=>by obtain rfl:=cQ e;exact⟨by simp,λb hb=>⟨(h3 b hb).1,(h3 b hb).2,by simp⟩⟩
   view:=λg e=>by obtain rfl:=cQ e;exact⟨rfl,λb hb=>⟨hb.1,hb.2.1,by simp⟩⟩
   jZ:=λi g e=>by obtain rfl:=cQ e;exact⟨by simp,.inl trivial,λb hb=>hb.elim⟩
   hh:=λh=>by cases h
   hl:=λh=>by cases h}
 exact⟨v,[],rfl,aPj k r v fp (λ_ h=>h) h1,by simp,by simp,h4,h5,h6⟩
theorem Ok.Ip{P:Program}[aC P]{f:FuncId}{args:List AV}{r r':AV}(h:Ok P f args r)(e:rt (λ_=>some .view) false r=r'):Ok P f args r':=e▸h.vw
def swp(i j k:Nat):Nat:=if k=i then j else if k=j then i else k
theorem LM(i j k:Nat):swp i j (swp i j k)=k:=by unfold swp;split<;>split<;>(try split)<;>omega
def Ea(i j k:Nat):Prop:=k=i\/k=j
instance (i j k:Nat) : Decidable (Ea i j k) := by unfold Ea; infer_instance
theorem Yd{i j k:Nat}(h:¬Ea i j k):swp i j k=k:=by unfold Ea at h;unfold swp;rw[cX (λe=>h (.inl e)),cX (λe=>h (.inr e))]
def gsw(i j:Nat):Tg->Tg
 | .jZ k=> .jZ (swp i j k)
 |g=>g
mutual
def lL(i j:Nat):AV->AV
 | .obj k v=>if Ea i j k then(if v=0 then .undef else .obj (swp i j k) v)else .obj k v
 | .ptr k v idx off=>if Ea i j k then .undef else .ptr k v idx off
 | .sl g n l=> .sl (gsw i j g) n (qK i j l)
 | .eQ g c off=> .eQ (gsw i j g) (rD i j c) off
 | .agg c=> .agg (rD i j c)
 | .gT c=> .gT (rD i j c)
 | .fn f c=> .fn f (rD i j c)
 | .int k n=> .int k n
 | .bool b=> .bool b
 | .str s=> .str s
 | .undef=> .undef
def rD(i j:Nat):List AV->List AV
 |[]=>[]
 |x::xs=>lL i j x::rD i j xs
def qK(i j:Nat):List (List AV)->List (List AV)
 |[]=>[]
 |x::xs=>rD i j x::qK i j xs
end
theorem Ao(i j:Nat):∀l,(qK i j l).length=l.length
 |[]=>rfl
 |_::l=>by simp[qK,Ao i j l]
structure Ren(i j:Nat)(E E':Env): Prop where
  a:∀ b, E.A b -> E'.A b
  v:∀ k, E'.V (swp i j k) -> E.V k
  d:∀ k b, E.D k b -> E'.D (swp i j k) b
  h:∀ k bV x, (Ea i j k -> bV ≠ 0) -> E.H k bV x -> E'.H (swp i j k) bV x
  l:∀ k bV idx off x, ¬ Ea i j k -> E.L k bV idx off x -> E'.L k bV idx off x
theorem Ren.plain{i j:Nat}{E E':Env}(k:Ren i j E E'):Ren i j E.plain E'.plain:=
 ⟨k.a,λ_ _=>trivial,λ_ _ h=>h.elim,λ_ _ _ _ h=>h.elim,λ_ _ _ _ _ _ h=>h.elim⟩
theorem Ren.sub{i j:Nat}{E E':Env}(k:Ren i j E E')(g:Tg):Ren i j (E.sub g) (E'.sub (gsw i j g)):=by
 cases g with
 |own=>exact k.plain
 |view=>exact k.plain
 |jZ q=>exact⟨k.a,λ_ _=>trivial,λr b h=>⟨by rw[h.1],k.d _ _ h.2⟩,λ_ _ _ _ h=>h.elim,λ_ _ _ _ _ _ h=>h.elim⟩
theorem Ren.dead{i j:Nat}{E E':Env}(k:Ren i j E E'){g:Tg}(h:E.dead g):E'.dead (gsw i j g):=by
 cases g with
 |own=>exact h
 |view=>exact h
 |jZ q=>exact λhv=>h (k.v q hv)
theorem Ren.tg{i j:Nat}{E E':Env}(k:Ren i j E E'){g:Tg}{b:Nat}(h:E.tg g b):E'.tg (gsw i j g) b:=by
 cases g with
 |own=>exact h
 |view=>exact k.a b h
 |jZ q=>exact k.d q b h
theorem Ye{i j:Nat}{g:Tg}:gsw i j g= .own↔g= .own:=by cases g<;>simp[gsw]
mutual
theorem aQ8{w:World}{i j:Nat}{E E':Env}(k:Ren i j E E'):∀(x:AV) (v:Value) (fp:List Nat),R w E x v fp->R w E' (lL i j x) v fp
 | .obj q u,v,fp,h=>by
  simp only[lL];simp only[R]at h;by_cases hm:Ea i j q
  .rw [eK hm];by_cases hu:u=0
   .rw [eK hu];simp only[R];exact h.1
   .rw [cX hu];simp only[R];exact⟨h.1,k.h _ _ _ (λ_=>hu) h.2⟩
  .rw [cX hm];simp only[R];have:=k.h q u v (λhm'=>absurd hm' hm) h.2;rw[Yd hm]at this;exact⟨h.1,this⟩
 | .ptr q u idx off,v,fp,h=>by
  simp only[lL];simp only[R]at h;by_cases hm:Ea i j q
  .rw [eK hm];simp only[R];exact h.1
  .rw [cX hm];simp only[R];exact⟨h.1,k.l _ _ _ _ _ hm h.2⟩
 | .sl g n l,v,fp,h=>by
  simp only[lL,R,Ao]at h⊢;rcases h with h|⟨a,cap,hv,hl,h⟩
  .exact .inl ⟨k.dead h.1,h.2⟩
  refine .inr ⟨a,cap,hv,hl,?_⟩;rcases h with⟨hg,hl0,h1,h2⟩|⟨hg,b,off,C,e,fz,rE,ha,hb,hz,h1,h2,h3,KI,hr⟩|⟨hg,KI,h⟩
  .exact .inl ⟨Ye.2 hg,by rw[hl0];rfl,h1,h2⟩
  .exact .inr (.inl ⟨Ye.2 hg,b,off,C,e,fz,rE,ha,hb,hz,h1,h2,h3,KI,Yf (k.sub g) _ _ _ _ _ hr⟩)
  .refine .inr (.inr ⟨λe=>hg (Ye.1 e),KI,?_⟩)
   rcases h with rfl|⟨b,off,ha,ht,hr⟩
   .exact .inl rfl
   .exact .inr ⟨b,off,ha,k.tg ht,Yf (k.sub g) _ _ _ _ _ hr⟩
 | .eQ g c off,v,fp,h=>by
  simp only[lL,R]at h⊢;rcases h with h|⟨KI,b,o,cs,hv,ht,hcs,hc,hr⟩
  .exact .inl ⟨k.dead h.1,h.2⟩
  .exact .inr ⟨KI,b,o,cs,hv,k.tg ht,hcs,hc,Kb (k.sub g) _ _ _ hr⟩
 | .agg c,v,fp,h=>by simp only[lL,R]at h⊢;obtain⟨cs,h1,h2,h3⟩:=h;exact⟨cs,h1,h2,Kb k c cs fp h3⟩
 | .gT c,v,fp,h=>by simp only[lL,R]at h⊢;obtain⟨cs,h1,h3⟩:=h;exact⟨cs,h1,Kb k c cs fp h3⟩
 | .fn f c,v,fp,h=>by simp only[lL,R]at h⊢;obtain⟨h0,cs,h1,h3⟩:=h;exact⟨h0,cs,h1,Kb k c cs [] h3⟩
 | .int _ _,v,fp,h=>by simpa [lL,R]using h
 | .bool _,v,fp,h=>by simpa [lL,R]using h
 | .str _,v,fp,h=>by simpa [lL,R]using h
 | .undef,v,fp,h=>by simpa [lL,R]using h
theorem Kb{w:World}{i j:Nat}{E E':Env}(k:Ren i j E E'):∀(c:List AV) (cs:List Value) (fp:List Nat),Rc w E c cs fp->Rc w E' (rD i j c) cs fp
 |[],[],_,h=>by simpa [Rc,rD]using h
 |[],_::_,_,h=>by simp[Rc]at h
 |_::_,[],_,h=>by simp[Rc]at h
 |x::xs,c::cs,fp,h=>by simp only[Rc,rD]at h⊢;obtain⟨f1,f2,h1,h2,h3⟩:=h;exact⟨f1,f2,aQ8 k x c f1 h1,Kb k xs cs f2 h2,h3⟩
theorem Yf{w:World}{i j:Nat}{E E':Env}(k:Ren i j E E'):∀(l:List (List AV)) (b off n:Nat) (fp:List Nat),Rr w E l b off n fp->Rr w E' (qK i j l) b off n fp
 |[],_,_,_,_,h=>by simpa [Rr,qK]using h
 |e::es,b,off,n,fp,h=>by simp only[Rr,qK]at h⊢;obtain⟨cs,f1,f2,h1,h2,h3,h4,h5,h6⟩:=h;exact⟨cs,f1,f2,h1,h2,h3,Kb k e cs f1 h4,Yf k es b (off+n) n f2 h5,h6⟩
end
def aM.lL(i j:Nat)(ob:aM):aM:=if ob.box=true then {ob with dP:=qK i j ob.dP}else ob
def swo(i j:Nat)(o:List aM):List aM:=(range o.length).map λk=>((o[swp i j k]?).getD ⟨false,false,0,0,[]⟩).lL i j
theorem wI.ren{w:World}{i j:Nat}{E E':Env}{n:Nat}{l:List (List AV)}{a:Option Addr}{cap:Nat}{fp:List Nat}(k:Ren i j E E')(h:wI w E n l a cap fp):wI w E' n (qK i j l) a cap fp:=by
 refine⟨by rw[Ao];exact h.1,?_⟩;rcases h.2 with h|⟨b,off,C,e,fz,rE,ha,hb,hz,h1,h2,h3,KI,hr⟩
 .exact .inl ⟨by rw[h.1];rfl,h.2⟩
 .exact .inr ⟨b,off,C,e,fz,rE,ha,hb,hz,h1,by rw[Ao];exact h2,h3,KI,Yf k _ _ _ _ _ hr⟩
theorem aBe{t t':List AV}{o o':List aM}(i j:Nat)(hi:i<o.length)(hj:j<o.length)(hbi:∀ob,o[i]? =some ob->ob.box=false)(hbj:∀ob,o[j]? =some ob->ob.box=false)(ho:swo i j o=o')(hw:wk (rD i j t) t'):lY ⟨t,o⟩ ⟨t',o'⟩:=by
 subst ho;rintro P _ B a w ⟨G,r⟩;have hlen:=r.len;generalize hG':(range G.length).map (λk=>(G[swp i j k]?).getD ⟨none,0,λ_=>False⟩)=G';have slt:∀k,k<o.length->swp i j k<o.length:=by intro k hk;unfold swp;split<;>(try split)<;>omega
 have fz:∀ob:aM,(ob.lL i j).live=ob.live/\(ob.lL i j).box=ob.box/\(ob.lL i j).n=ob.n/\(ob.lL i j).bV=ob.bV/\(ob.lL i j).dP.length=ob.dP.length:=by intro ob;unfold aM.lL;split<;>simp[Ao]
 have og:∀k,(swo i j o)[k]? =(o[swp i j k]?).map (aM.lL i j):=by
  intro k;unfold swo;rw[tA];by_cases hk:k<o.length
  .rw [getElem?_range hk];simp only[mS,aE (slt k hk),rL]
  .have h1:(range o.length)[k]? =none:=by rw[tP];simp;omega
   have h2:swp i j k=k:=by unfold swp;rw[cX (by omega),cX (by omega)]
   rw[h1,h2,pB (by omega)];rfl
 have gg:∀k,G'[k]? =G[swp i j k]?:=by
  intro k;rw[<-hG',tA];by_cases hk:k<G.length
  .rw [getElem?_range hk];have h3:swp i j k<G.length:=by rw[hlen];exact slt k (by rw[<-hlen];exact hk)
   simp only[mS,aE h3,rL]
  .have h1:(range G.length)[k]? =none:=by rw[tP];simp;omega
   have h2:swp i j k=k:=by have:o.length=G.length:=hlen.symm;unfold swp;rw[cX (by omega),cX (by omega)]
   rw[h1,h2,pB (by omega)];rfl
 have back:∀{k ob g},look (swo i j o) G' k ob g->∃zB,look o G (swp i j k) zB g/\ob=zB.lL i j:=by
  rintro k ob g ⟨e1,e2⟩;rw[og]at e1;rw[gg]at e2;cases hx:o[swp i j k]? with
  |none=>rw[hx]at e1;cases e1
  |some zB=>rw[hx]at e1;exact⟨zB,⟨hx,e2⟩,(cQ e1).symm⟩
 have VI:∀{k ob g},look o G k ob g->look (swo i j o) G' (swp i j k) (ob.lL i j) g:=by rintro k ob g ⟨e1,e2⟩;exact⟨by rw[og,LM,e1];rfl,by rw[gg,LM,e2]⟩
 have aXo:∀{k ob g},look o G k ob g->ob.box=true->¬Ea i j k:=by
  rintro k ob g ⟨e1,_⟩ hb (rfl|rfl)
  .rw [hbi ob e1]at hb;cases hb
  .rw [hbj ob e1]at hb;cases hb
 have rn:Ren i j (env B o G w) (env B (swo i j o) G' w):=by
  refine⟨λb h=>⟨h.1,λk ob g hl KV hF=> ?_⟩,λk h ob wJ=> ?_,λk b h=> ?_,λk bV x hm h=> ?_,λk bV idx off x hm h=> ?_⟩
  .obtain ⟨zB,hl0,rfl⟩:=back hl;exact h.2 _ _ _ hl0 (by rw[<-(fz zB).1];exact KV) hF
  .have h1:=h (ob.lL i j) (by rw[og,LM,wJ];rfl);rw[(fz ob).1]at h1;exact h1
  .obtain ⟨ob,g,hl,KV,hF,hne⟩:=h;exact⟨_,g,VI hl,by rw[(fz ob).1];exact KV,hF,hne⟩
  .obtain ⟨ob,g,hl,Ay,h5,hz⟩:=h;refine⟨_,g,VI hl,by rw[(fz ob).2.2.2.1];exact Ay,λKV UB=> ?_,λhv0 y hy=> ?_⟩
   .rw [(fz ob).2.2.2.2];exact h5 (by rw[<-(fz ob).1];exact KV) (by rw[<-(fz ob).2.2.2.1];exact UB)
   .by_cases hmv:Ea i j k
    .exact absurd hv0 (hm hmv)
    .rw [Yd hmv]at hy;exact hz hv0 y hy
  .obtain ⟨ob,g,hl,Ay,h5,hz⟩:=h;have hf:=VI hl;rw[Yd hm]at hf;refine⟨_,g,hf,by rw[(fz ob).2.2.2.1];exact Ay,λKV UB=> ?_,λhb hv e1 e2 y hy=> ?_⟩
   .rw [(fz ob).2.2.1];exact h5 (by rw[<-(fz ob).1];exact KV) (by rw[<-(fz ob).2.2.2.1];exact UB)
   .have:=hz (by rw[<-(fz ob).2.1];exact hb) hv e1 e2 y hy;exact⟨this.1,λKV UB=>this.2 (by rw[<-(fz ob).1];exact KV) (by rw[<-(fz ob).2.2.2.1];exact UB)⟩
 refine⟨G',{len:= ?_,defs:=r.defs,ok:= ?_,apart:= ?_,fresh:= ?_,tmps:=FZ hw (Kb rn _ _ _ r.tmps),size:=r.size,frame:=r.frame,base:=r.base,same:=r.same}⟩
 .rw [<-hG'];simp[swo,hlen]
 .intro k ob g hl KV;obtain⟨zB,hl0,rfl⟩:=back hl;obtain⟨fp,hown,hnd,hF⟩:=r.ok _ _ g hl0 (by rw[<-(fz zB).1];exact KV);refine⟨fp,?_,hnd,hF⟩;cases hb0:zB.box with
  |false=>
   have e:zB.lL i j=zB:=by unfold aM.lL;rw[cX (by simp[hb0])]
   rw[e];rw[hb0]at hown⊢;exact hown.keeps (w:=w) (w':=w) ⟨λb hb=>⟨rn.a b hb,rfl⟩,λ_ _=>trivial,λ_ _ _ h=>h.elim,λ_ _ _ h=>h.elim,λ_ _ _ _ _ h=>h.elim⟩ (λ_ _=>rfl)
  |true=>
   have e:zB.lL i j={zB with dP:=qK i j zB.dP}:=by unfold aM.lL;rw[eK hb0]
   rw[e];simp only[hb0]at hown⊢;simp only[Env.of,gC]at hown⊢;exact hown.ren rn
 .intro p q op oq gp gq b hp hq hlp hlq hFp hFq;obtain⟨op0,hp0,rfl⟩:=back hp;obtain⟨oq0,hq0,rfl⟩:=back hq;have:=r.apart _ _ _ _ _ _ b hp0 hq0 (by rw[<-(fz op0).1];exact hlp) (by rw[<-(fz oq0).1];exact hlq) hFp hFq;have h2:=As (swp i j) this
  rwa[LM,LM]at h2
 .intro k ob g b hl KV hF;obtain⟨zB,hl0,rfl⟩:=back hl;exact r.fresh _ _ g b hl0 (by rw[<-(fz zB).1];exact KV) hF
theorem aJv{i j:Nat}{o:List aM}{oi oj:aM}(hi:o[i]? =some oi)(hj:o[j]? =some oj):swo i j o=((o.set i oj).set j oi).map (aM.lL i j):=by
 have hil:=(cH.1 hi).1;have hjl:=(cH.1 hj).1;refine BY λk=> ?_
 unfold swo;rw[tA,tA];by_cases hk:k<o.length
 .rw [getElem?_range hk];simp only[mS];by_cases hkj:k=j
  .subst hkj;rw[mB (by simpa using hk)];have:swp i k k=i:=by unfold swp;split<;>simp_all
   rw[this,hi];rfl
  .rw [lE (λe=>hkj e.symm)]
   by_cases hki:k=i
   .subst hki;rw[mB hk];have:swp k j k=j:=by unfold swp;simp
    rw[this,hj];rfl
   .rw [lE (λe=>hki e.symm)]
    have:swp i j k=k:=by unfold swp;rw[cX hki,cX hkj]
    rw[this,aE hk];rfl
 .have h1:(range o.length)[k]? =none:=by rw[tP];simp;omega
  have h2:((o.set i oj).set j oi)[k]? =none:=by rw[tP];simp;omega
  rw[h1,h2];rfl
theorem aS{t t':List AV}{o o':List aM}(i j:Nat){oi oj:aM}(hi:o[i]? =some oi)(hj:o[j]? =some oj)(hb:oi.box=false/\oj.box=false)(ho:((o.set i oj).set j oi).map (aM.lL i j)=o')(hw:wk (rD i j t) t'):lY ⟨t,o⟩ ⟨t',o'⟩:=
 aBe i j (cH.1 hi).1 (cH.1 hj).1 (λob h=>by rw[hi]at h;obtain rfl:=cQ h;exact hb.1) (λob h=>by rw[hj]at h;obtain rfl:=cQ h;exact hb.2) (by rw[aJv hi hj];exact ho) hw
@[simp] theorem aSg(i j:Nat)(l:Bool)(n v:Nat)(dP:List (List AV)):aM.lL i j ⟨l,false,n,v,dP⟩=⟨l,false,n,v,dP⟩:=rfl
@[simp] theorem aSh(i j:Nat)(l:Bool)(n v:Nat)(dP:List (List AV)):aM.lL i j ⟨l,true,n,v,dP⟩=⟨l,true,n,v,qK i j dP⟩:=rfl
attribute [simp] lL rD qK gsw swp Ea
def Lx:Nat->List GA->List AV
 |_,[]=>[]
 |k,.view x::gs=>x::Lx k gs
 |k,.oM x::gs=>(dF 1 k x).1::Lx (k+(dF 1 k x).2.length) gs
 |k,.uI c _::gs=> .ptr k 2 0 0::Lx (k+(1+(fB 1 (k+1) c).2.length)) gs
def Gr:Nat->List GA->List aM
 |_,[]=>[]
 |k,.view _::gs=>Gr k gs
 |k,.oM x::gs=>(dF 1 k x).2++Gr (k+(dF 1 k x).2.length) gs
 |k,.uI c _::gs=>(⟨true,true,c.length,2,[(fB 1 (k+1) c).1]⟩::(fB 1 (k+1) c).2)++Gr (k+(1+(fB 1 (k+1) c).2.length)) gs
def Fc(E:Env)(k:Nat)(os:List aM)(Gs:List CO):Prop:=
 ∀j ob g,look os Gs j ob g->E.H (k+j) ob.bV (.slice g.a ob.dP.length g.cap)/\(ob.box=true->∀b f,g.a=some ⟨b,f,none⟩->E.L (k+j) ob.bV 0 0 (.pointer (some ⟨b,f,none⟩)))
theorem Fc.left{E:Env}{k:Nat}{o1 o2:List aM}{G1 G2:List CO}(h:Fc E k (o1++o2) (G1++G2)):Fc E k o1 G1:=λj ob g hl=>h j ob g (nO hl)
theorem Fc.right{E:Env}{k:Nat}{o1 o2:List aM}{G1 G2:List CO}(hlen:G1.length=o1.length)(h:Fc E k (o1++o2) (G1++G2)):Fc E (k+o1.length) o2 G2:=λj ob g hl=>by
 have:=h _ ob g (pV hlen hl)
 rwa[<-oE]at this
def Ent(w:World)(E:Env)(k:Nat)(os:List aM)(fp:List Nat)(pin:List CO->Prop)(done:Env->Prop):Prop:=
 ∃Gs:List CO,Gs.length=os.length/\
  (∀j ob g,look os Gs j ob g->ob.live=true/\(ob.box=false->ob.bV=1)/\(ob.box=true->ob.bV=2)/\∃f,f.Nodup/\(∀b,g.F b↔b∈f)/\(∀b∈f,b∈fp)/\
   ∀E',eO w E w E'->Fc E' k os Gs->wI w (E'.of ob.box) ob.n ob.dP g.a g.cap f)/\
  (∀i j oi oj gi gj b,look os Gs i oi gi->look os Gs j oj gj->gi.F b->gj.F b->i=j)/\pin Gs/\
  ∀E':Env,eO w E w E'->Fc E' k os Gs->done E'
theorem Ent.dm{w:World}{E:Env}{k:Nat}{os:List aM}{fp:List Nat}{done:Env->Prop}(h:lG 1 w E k os fp done):Ent w E k os fp (λ_=>True) done:=by
 obtain⟨Gs,h1,h2,h3,h4⟩:=h;refine⟨Gs,h1,λj ob g hl=> ?_,h3,trivial,λE' hk hf=>h4 E' hk λj ob g hl=> ?_⟩
 .obtain ⟨a1,a2,a3,f,a4,a5,a6,a7⟩:=h2 j ob g hl;refine⟨a1,λ_=>a3,(λh=>by rw[a2]at h;cases h),f,a5,a6,a7,λE' hk _=> ?_⟩;rw[a2];exact a4.keeps hk.plain (λ_ _=>rfl)
 .have:=(hf j ob g hl).1;obtain⟨_,_,a3,_⟩:=h2 j ob g hl
  rwa[a3]at this
theorem Ent.append{w:World}{E:Env}{k:Nat}{o1 o2:List aM}{f1 f2:List Nat}{p1 p2 p:List CO->Prop}{d1 d2 d:Env->Prop}(h1:Ent w E k o1 f1 p1 d1)(h2:Ent w E (k+o1.length) o2 f2 p2 d2)(hn:(f1++f2).Nodup)
  (hp:∀G1 G2,G1.length=o1.length->p1 G1->p2 G2->p (G1++G2)) (hd:∀E',d1 E'->d2 E'->d E'):Ent w E k (o1++o2) (f1++f2) p d:=by
 obtain⟨G1,l1,a1,b1,q1,c1⟩:=h1;obtain⟨G2,l2,a2,b2,q2,c2⟩:=h2;have hdj:=(gO.1 hn).2.2;refine⟨G1++G2,by simp[l1,l2],?_,?_,hp G1 G2 l1 q1 q2,λE' hk hf=>hd E' (c1 E' hk hf.left) (c2 E' hk (hf.right l1))⟩
 .intro j ob g hl;rcases pU l1 hl with⟨_,h⟩|⟨_,h⟩
  .obtain ⟨x,y,y',f,z1,z2,z3,z4⟩:=a1 _ _ _ h;exact⟨x,y,y',f,z1,z2,λb hb=>nB _ (z3 b hb),λE' hk hf=>z4 E' hk hf.left⟩
  .obtain ⟨x,y,y',f,z1,z2,z3,z4⟩:=a2 _ _ _ h;exact⟨x,y,y',f,z1,z2,λb hb=>sX _ (z3 b hb),λE' hk hf=>z4 E' hk (hf.right l1)⟩
 .intro i j oi oj gi gj b hi hj Fp MV;rcases pU l1 hi with⟨_,h⟩|⟨hi',h⟩<;>rcases pU l1 hj with⟨_,h'⟩|⟨V7,h'⟩
  .exact b1 _ _ _ _ _ _ b h h' Fp MV
  .obtain ⟨_,_,_,f,_,z2,z3,_⟩:=a1 _ _ _ h;obtain⟨_,_,_,f',_,z2',z3',_⟩:=a2 _ _ _ h';exact absurd rfl (hdj b (z3 b ((z2 b).1 Fp)) b (z3' b ((z2' b).1 MV)))
  .obtain ⟨_,_,_,f,_,z2,z3,_⟩:=a2 _ _ _ h;obtain⟨_,_,_,f',_,z2',z3',_⟩:=a1 _ _ _ h';exact absurd rfl (hdj b (z3' b ((z2' b).1 MV)) b (z3 b ((z2 b).1 Fp)))
  .have:=b2 _ _ _ _ _ _ b h h' Fp MV;omega
theorem aFl{w:World}{O:Nat->Prop}{k:Nat}{c c':List AV}{v:Value}{fp:List Nat}{cap:Nat}(h:RG w O (.uI c c') v fp cap)(hn:fp.Nodup):
  Ent w (sI w O) k (⟨true,true,c.length,2,[(fB 1 (k+1) c).1]⟩::(fB 1 (k+1) c).2) fp
   (λGs=>∃g b f,Gs[0]? =some g/\g.a=some ⟨b,f,none⟩/\v= .pointer (some ⟨b,f,none⟩)/\g.cap=cap) (λE'=>R w E' (.ptr k 2 0 0) v []):=by
 simp only[RG]at h;obtain⟨b,f,rfl,hlen,hown⟩:=h;rcases hown with⟨h5,_⟩|⟨b',f',C,ty,fz,rE,wR,hbk,hz,k1,k2,k3,rfl,hr⟩
 .cases h5
 simp only[eC,pD,sA]at wR;obtain⟨rfl,rfl⟩:=wR;simp only[Rr]at hr;obtain⟨cs,f1,f2,hcl,hc,hone,wK,rfl,e⟩:=hr;have e:rE=f1:=by simpa using e
 subst e;simp only[lR]at hn;obtain⟨Gs,a1,a2,a3,a4⟩:=DC (q:=1) c cs rE (k+1) wK hn.2;have tail:∀{j ob g},look (⟨true,true,c.length,2,[(fB 1 (k+1) c).1]⟩::(fB 1 (k+1) c).2) (⟨some ⟨b,f,none⟩,cap,λx=>x=b⟩::Gs) j ob g->
   (j=0/\ob=⟨true,true,c.length,2,[(fB 1 (k+1) c).1]⟩/\g=⟨some ⟨b,f,none⟩,cap,λx=>x=b⟩)\/∃j',j=j'+1/\look (fB 1 (k+1) c).2 Gs j' ob g:=by
  rintro j ob g ⟨h1,h2⟩;cases j with
  |zero=>simp only[sR,eC]at h1 h2;exact .inl ⟨rfl,h1.symm,h2.symm⟩
  |succ j=>exact .inr ⟨j,rfl,by simpa using h1,by simpa using h2⟩
 have inner:∀{E':Env},Fc E' k (⟨true,true,c.length,2,[(fB 1 (k+1) c).1]⟩::(fB 1 (k+1) c).2) (⟨some ⟨b,f,none⟩,cap,λx=>x=b⟩::Gs)->
   ∀j ob g,look (fB 1 (k+1) c).2 Gs j ob g->E'.H (k+1+j) 1 (.slice g.a ob.dP.length g.cap):=by
  intro E' hf j ob g hl;have:=(hf (j+1) ob g ⟨by simpa using hl.1,by simpa using hl.2⟩).1;obtain⟨_,_,h3,_⟩:=a2 j ob g hl;rw[h3]at this
  rwa[show k+1+j=k+(j+1)by omega]
 refine⟨⟨some ⟨b,f,none⟩,cap,λx=>x=b⟩::Gs,by simp[a1],?_,?_,⟨_,b,f,rfl,rfl,rfl,rfl⟩,?_⟩
 .intro j ob g hl;rcases tail hl with⟨rfl,rfl,rfl⟩|⟨j',rfl,Cu⟩
  .refine ⟨rfl,(λh=>by cases h),λ_=>rfl,[b],by simp,by simp,by simp,λE' hk hf=> ?_⟩
   refine⟨by simp[maxLen],.inr ⟨b,f,C,ty,fz,[],rfl,hbk,hz,k1,by simpa using k2,k3,rfl,?_⟩⟩;simp only[Rr];exact⟨cs,[],[],hcl,hc,hone,a4 E' hk (inner hf),rfl,rfl⟩
  .obtain ⟨h1,h2,h3,f',h4,h5,h6,h7⟩:=a2 _ _ _ Cu;refine⟨h1,λ_=>h3,(λh=>by rw[h2]at h;cases h),f',h5,h6,λx hx=>AT _ (h7 x hx),λE' hk _=> ?_⟩;rw[h2];exact h4.keeps hk.plain (λ_ _=>rfl)
 .intro i j oi oj gi gj x hi hj Fp MV;rcases tail hi with⟨rfl,rfl,rfl⟩|⟨i',rfl,hi'⟩<;>rcases tail hj with⟨rfl,rfl,rfl⟩|⟨j',rfl,V7⟩
  .rfl
  .obtain ⟨_,_,_,f',_,_,h6,h7⟩:=a2 _ _ _ V7;have hx:x=b:=Fp;subst hx;exact absurd (h7 _ ((h6 _).1 MV)) hn.1
  .obtain ⟨_,_,_,f',_,_,h6,h7⟩:=a2 _ _ _ hi';have hx:x=b:=MV;subst hx;exact absurd (h7 _ ((h6 _).1 Fp)) hn.1
  .have:=a3 _ _ _ _ _ _ x hi' V7 Fp MV;omega
 .intro E' hk hf;simp only[R];exact⟨trivial,(hf 0 _ _ ⟨rfl,rfl⟩).2 rfl b f rfl⟩
def pinned(gat:Nat->Option CO):Nat->List GA->List Value->List Nat->Prop
 |_,[],[],[]=>True
 |k,.view _::gs,_::vs,_::jC=>pinned gat k gs vs jC
 |k,.oM x::gs,_::vs,_::jC=>pinned gat (k+(dF 1 k x).2.length) gs vs jC
 |k,.uI c _::gs,v::vs,cap::jC=>(∃g b f,gat k=some g/\g.a=some ⟨b,f,none⟩/\v= .pointer (some ⟨b,f,none⟩)/\g.cap=cap)/\pinned gat (k+(1+(fB 1 (k+1) c).2.length)) gs vs jC
 |_,_,_,_=>False
theorem XY{w:World}{O:Nat->Prop}:∀(gs:List GA) (vs:List Value) (uN:List (List Nat)) (jC:List Nat) (k:Nat),Ex w O gs vs uN jC->uN.flatten.Nodup->
  Ent w (sI w O) k (Gr k gs) uN.flatten (λGs=>∀pre:List CO,pre.length=k->pinned (λi=>(pre++Gs)[i]?) k gs vs jC) (λE'=>Rc w E' (Lx k gs) vs [])
 |[],[],[],[],k,_,_=>⟨[],rfl,λj ob g hl=>by simp[look,Gr]at hl,λi j oi oj gi gj b hl=>by simp[look,Gr]at hl,λ_ _=>by simp[pinned],λE' _ _=>by simp[Lx,Rc]⟩
 | .view x::gs,v::vs,fp::uN,cap::jC,k,h,hn=>by
  simp only[Ex,RG]at h;obtain⟨⟨rfl,hx⟩,h⟩:=h;simp only[pP,eM]at hn⊢;obtain⟨Gs,a1,a2,a3,a4,a5⟩:=XY gs vs uN jC k h hn;refine⟨Gs,a1,a2,a3,λpre hp=>by simp only[pinned];exact a4 pre hp,λE' hk hf=> ?_⟩
  .simp only[Lx,Rc];exact⟨[],[],qB hk _ _ _ (by simp) hx,a5 E' hk hf,rfl⟩
 | .oM x::gs,v::vs,fp::uN,cap::jC,k,h,hn=>by
  simp only[Ex,RG]at h;obtain⟨hx,h⟩:=h;simp only[pP]at hn⊢;have hn':=gO.1 hn;refine(Ent.dm (FR (q:=1) x v fp k hx hn'.1)).append (XY gs vs uN jC (k+(dF 1 k x).2.length) h hn'.2.1) hn (λG1 G2 hl _ h2 pre hp=> ?_) (λE' h1 h2=> ?_)
  .simp only[pinned];have:=h2 (pre++G1) (by simp[hp,hl]);simpa using this
  .simp only[Lx,Rc];exact⟨[],[],h1,h2,rfl⟩
 | .uI c c'::gs,v::vs,fp::uN,cap::jC,k,h,hn=>by
  simp only[Ex]at h;obtain⟨hx,h⟩:=h;simp only[pP]at hn⊢;have hn':=gO.1 hn;have h2:=XY gs vs uN jC (k+(1+(fB 1 (k+1) c).2.length)) h hn'.2.1;simp only[Gr];refine(aFl hx hn'.1).append (by
   rw[show k+(({live:=true,box:=true,n:=c.length,bV:=2,dP:=[(fB 1 (k+1) c).1]}:aM)::(fB 1 (k+1) c).2).length=k+(1+(fB 1 (k+1) c).2.length)by simp;omega];exact h2) hn (λG1 G2 hl h1 h2 pre hp=> ?_) (λE' h1 h2=> ?_)
  .simp only[pinned];refine⟨?_,?_⟩
   .obtain ⟨g,b,f,e1,e2,e3,e4⟩:=h1;refine⟨g,b,f,?_,e2,e3,e4⟩;subst hp;rw[hY (by omega),zE];cases G1 with
    |nil=>simp at e1
    |cons _ _=>simpa using e1
   .have:=h2 (pre++G1) (by simp only[eR,hp,hl,eN];omega);simpa using this
  .simp only[Lx,Rc];exact⟨[],[],h1,h2,rfl⟩
 |[],[],[],_::_,_,h,_=>by simp[Ex]at h
 |[],[],_::_,_,_,h,_=>by simp[Ex]at h
 |[],_::_,_,_,_,h,_=>by simp[Ex]at h
 | .view _::_,[],_,_,_,h,_=>by simp[Ex]at h
 | .view _::_,_::_,[],_,_,h,_=>by simp[Ex]at h
 | .view _::_,_::_,_::_,[],_,h,_=>by simp[Ex]at h
 | .oM _::_,[],_,_,_,h,_=>by simp[Ex]at h
 | .oM _::_,_::_,[],_,_,h,_=>by simp[Ex]at h
 | .oM _::_,_::_,_::_,[],_,h,_=>by simp[Ex]at h
 | .uI _ _::_,[],_,_,_,h,_=>by simp[Ex]at h
 | .uI _ _::_,_::_,[],_,_,h,_=>by simp[Ex]at h
 | .uI _ _::_,_::_,_::_,[],_,h,_=>by simp[Ex]at h
def dI(s:AS):Nat->Nat->List GA->Prop
 |_,_,[]=>True
 |pos,k,.view _::gs=>dI s (pos+1) k gs
 |pos,k,.oM x::gs=>dI s (pos+1) (k+(dF 1 k x).2.length) gs
 |pos,k,.uI c c'::gs=>(s.t.getD pos .undef= .ptr k 2 0 0/\∃cells,s.o[k]? =some ⟨true,true,c.length,2,[cells]⟩/\nG s.o cells=true/\uX s.o cells=c'/\Dm c'=true)/\
   dI s (pos+1) (k+(1+(fB 1 (k+1) c).2.length)) gs
def dH(s:AS):Nat->List GA->List Nat
 |_,[]=>[]
 |k,.view _::gs=>dH s k gs
 |k,.oM x::gs=>dH s (k+(dF 1 k x).2.length) gs
 |k,.uI c _::gs=>(k::kC (rowOf s.o k))++dH s (k+(1+(fB 1 (k+1) c).2.length)) gs
def gF(P:Program)(fn:Func)(s:AS)(gs:List GA)(r:AV):Prop:=
 ∃ys,s.wT P fn.results.toList=some ys/\jJ s.o (single ys)=true/\res s.o (single ys)=r/\clean r=true/\dI s 0 0 gs/\(dH s 0 gs++lV (single ys)).Nodup
theorem Ie{P:Program}[aC P]{B:gM P}{s:AS}{G:List CO}{a:Act}{w:World}(r:eB B s G a w){gat:Nat->Option CO}(hp:∀i g,gat i=some g->B.p0 i=some (.pointer g.a,g.cap)):
  ∀(gs:List GA) (vs:List Value) (jC:List Nat) (pos k:Nat),pinned gat k gs vs jC->dI s pos k gs->(dH s k gs).Nodup->
  ∃uN,Uw w gs vs uN jC/\uN.flatten.Nodup/\∀b∈uN.flatten,Of s.o G (dH s k gs) b
 |[],[],[],pos,k,_,_,_=>⟨[],by simp[Uw],by simp,by simp⟩
 | .view x::gs,v::vs,cap::jC,pos,k,h1,h2,h3=>by simp only[pinned]at h1;simp only[dI]at h2;simp only[dH]at h3⊢;obtain⟨uN,q1,q2,q3⟩:=Ie r hp gs vs jC (pos+1) k h1 h2 h3;exact⟨[]::uN,by simp only[Uw,RP];exact⟨trivial,q1⟩,by simpa using q2,by simpa using q3⟩
 | .oM x::gs,v::vs,cap::jC,pos,k,h1,h2,h3=>by simp only[pinned]at h1;simp only[dI]at h2;simp only[dH]at h3⊢;obtain⟨uN,q1,q2,q3⟩:=Ie r hp gs vs jC (pos+1) _ h1 h2 h3;exact⟨[]::uN,by simp only[Uw,RP];exact⟨trivial,q1⟩,by simpa using q2,by simpa using q3⟩
 | .uI c c'::gs,v::vs,cap::jC,pos,k,h1,h2,h3=>by
  simp only[pinned]at h1;simp only[dI]at h2;simp only[dH]at h3⊢;obtain⟨⟨g0,b0,f0,e1,e2,e3,e4⟩,h1⟩:=h1;obtain⟨⟨htp,cells,ho,nR,jO,hcl⟩,h2⟩:=h2;have hn:=gO.1 h3;obtain⟨uN,q1,q2,q3⟩:=Ie r hp gs vs jC (pos+1) _ h1 h2 hn.2.1;have hrow:rowOf s.o k=cells:=by simp[rowOf,ho]
  rw[hrow]at hn⊢;have wJ:AV.isObj s.o k 2=some ⟨true,true,c.length,2,[cells]⟩:=by simp[AV.isObj,ho]
  obtain⟨g,b,f,hl,hlive,hga,hv⟩:=r.ptr (x:= .tmp pos) htp wJ;have aJo:=r.pin (x:= .tmp pos) htp wJ hl rfl rfl rfl rfl _ (hp k g0 e1);rw[hv]at aJo;obtain⟨hp1,Ws⟩:=aJo;have wX:g.cap=g0.cap:=Ws rfl rfl;simp only[Dg]at hp1;rw[e2]at hp1;simp only[Nat.zero_mul,rK,eC,pD,sA]at hp1;obtain⟨rfl,rfl⟩:=hp1;obtain⟨fp0,⟨_,hown⟩,JE,Qz⟩:=r.ok k _ g hl rfl;simp only[Env.of,gC]at hown;rcases hown with⟨h5,_⟩|⟨b',f',C,ty,fz,rE,wR,hbk,hz,k1,k2,k3,rfl,hr⟩
  .cases h5
  rw[hga]at wR;simp only[eC,pD,sA]at wR;obtain⟨rfl,rfl⟩:=wR;simp only[Rr]at hr;obtain⟨cs,f1,f2,hcn,hc,hone,wK,rfl,e⟩:=hr;have e:rE=f1:=by simpa using e
  subst e;simp only[lR]at JE;have hn1:=hn.1;simp only[lR]at hn1;obtain⟨Av,u1,u2,u3⟩:=KS r hl rfl cells cs rE nR hn1.2 hn1.1 JE.2 (λx hx=>Qz x (by simp[hx])) wK;have Vy:g.F b:=Qz b (by simp);have hbn:b∉Av:=λhb=>by
   rcases u3 b hb with h|h
   .exact JE.1 h
   .obtain ⟨j,oj,gj,hj,hlj,hjl,Uv⟩:=h;have:=r.apart k j _ _ _ _ b hl hlj rfl hjl Vy Uv;exact hn1.1 (this▸hj)
  rw[jO]at u1;have u1':Rc w mE c' cs Av:=DD (E:=(env B s.o G w).plain) (λ_ _=>trivial) rfl rfl rfl _ _ _ hcl u1;have hin:∀x∈b::Av,Of s.o G (k::kC cells) x:=by
   intro x hx;rcases lB.1 hx with rfl|hx
   .exact ⟨k,_,g,by simp,hl,rfl,Vy⟩
   .rcases u3 x hx with h|h
    .exact ⟨k,_,g,by simp,hl,rfl,Qz x (by simp[h])⟩
    .exact Cy (λj hj=>by simp[hj]) h
  refine⟨(b::Av)::uN,?_,?_,?_⟩
  .simp only[Uw,RP];refine⟨⟨b,f,e3,by simp[maxLen],.inr ⟨b,f,C,ty,fz,Av,rfl,hbk,hz,?_,?_,?_,rfl,?_⟩⟩,q1⟩
   .rw [<-e4,<-wX];exact k1
   .rw [<-e4,<-wX];simpa using k2
   .rw [<-e4,<-wX];exact k3
   .simp only[Rr];exact⟨cs,Av,[],hcn,hc,hone,u1',rfl,by simp⟩
  .simp only[pP,gO];refine⟨lR.2 ⟨hbn,u2⟩,q2,λx hx y hy e=> ?_⟩;subst e;exact KT r (λi hi j hj=>hn.2.2 i hi j hj) (hin x hx) (q3 x hy)
  .intro x hx;simp only[pP,fL]at hx;rcases hx with hx|hx
   .exact Cy (λi hi=>nB _ hi) (hin x hx)
   .exact Cy (λi hi=>sX _ hi) (q3 x hx)
 |[],[],_::_,_,_,h,_,_=>by simp[pinned]at h
 |[],_::_,_,_,_,h,_,_=>by simp[pinned]at h
 | .view _::_,[],_,_,_,h,_,_=>by simp[pinned]at h
 | .view _::_,_::_,[],_,_,h,_,_=>by simp[pinned]at h
 | .oM _::_,[],_,_,_,h,_,_=>by simp[pinned]at h
 | .oM _::_,_::_,[],_,_,h,_,_=>by simp[pinned]at h
 | .uI _ _::_,[],_,_,_,h,_,_=>by simp[pinned]at h
 | .uI _ _::_,_::_,[],_,_,h,_,_=>by simp[pinned]at h
theorem SS{w:World}{O:Nat->Prop}:∀{gs:List GA} {vs:List Value} {uN:List (List Nat)} {jC:List Nat},Ex w O gs vs uN jC->vs.length=gs.length
 |[],[],_,_,_=>rfl
 |_::gs,_::vs,[],_,h=>by simp[Ex]at h
 |_::gs,_::vs,_::_,[],h=>by simp[Ex]at h
 |_::gs,_::vs,_::uN,_::jC,h=>by simp only[Ex]at h;simp[SS h.2]
 |[],_::_,_,_,h=>by simp[Ex]at h
 |_::_,[],_,_,h=>by simp[Ex]at h
theorem SV{P:Program}[aC P](hm:P.follows .mixedOrders=true){f:FuncId}{fn:Func}{c:Code}(hf:P.funcs[f]? =some fn)(hb:fn.body=some c){gs:List GA}{rr:AV}
  (h:uY P c ⟨Lx 0 gs++replicate (fn.ntmps-gs.length) .undef,Gr 0 gs⟩ (λe s=>(e= .normal\/e= .ret)/\gF P fn s gs rr)):MP P f gs rr:=by
 intro w vs uN jC hg hab hnd hrg;obtain⟨Gs,hlen,Cs,hap,aJo,qW⟩:=XY gs vs uN jC 0 hrg hnd;have hvl:=SS hrg;generalize hB:(⟨w,λb=>b<w.heap.size,(· ∈uN.flatten),λ_=>none,λi=>(Gs[i]?).map λg=>(.pointer g.a,g.cap),hg,λb hb=>(hab b hb).1,λb hb=>(hab b hb).2⟩:gM P)=B;have Si:B.w0=w:=by rw[<-hB]
 have hA0:∀b,B.A0 b↔b<w.heap.size:=by intro b;rw[<-hB]
 have hO0:∀b,B.O0 b↔b∈uN.flatten:=by intro b;rw[<-hB]
 have hh0:∀i,B.h0 i=none:=by intro i;rw[<-hB]
 have hp0:∀i g,Gs[i]? =some g->B.p0 i=some (.pointer g.a,g.cap):=by intro i g hg;rw[<-hB];simp[hg]
 have kE:eO w (sI w (· ∈uN.flatten)) w (env B (Gr 0 gs) Gs w):=by refine⟨λb hb=>⟨⟨.inl ((hA0 b).2 hb.1),λi ob g hl _ hF=> ?_⟩,rfl⟩,λ_ _=>trivial,λ_ _ _ h=>h.elim,λ_ _ _ h=>h.elim,λ_ _ _ _ _ h=>h.elim⟩;obtain⟨_,_,_,f',_,h2,h3,_⟩:=Cs _ _ _ hl;exact hb.2 (h3 _ ((h2 _).1 hF))
 have fc:Fc (env B (Gr 0 gs) Gs w) 0 (Gr 0 gs) Gs:=by intro j ob g hl;rw[hM];refine⟨⟨ob,g,hl,eE _,λ_ _=>rfl,λ_ x hx=>by rw[hh0]at hx;cases hx⟩,λ_ b f hga=>⟨ob,g,hl,eE _,λ_ _=>⟨b,f,hga,by simp⟩,λ_ _ _ _ y hy=> ?_⟩⟩;rw[hp0 _ _ hl.2]at hy;obtain rfl:=cQ hy;exact⟨by rw[hga],λ_ _=>rfl⟩
 have r0:eB B ⟨Lx 0 gs++replicate (fn.ntmps-gs.length) .undef,Gr 0 gs⟩ Gs {tmps:=vs.toArray++Array.replicate (fn.ntmps-vs.toArray.size) Go.undef,defers:=[]} w:=by
  refine {len:=hlen,defs:=rfl,ok:= ?_,apart:= ?_,fresh:= ?_,tmps:= ?_,size:=by rw[Si];exact eE _,frame:=by rw[Si];exact λ_ _ _=>rfl,base:= ?_,same:=by rw[Si];exact nS.rfl}
  .intro i ob g hl _;obtain⟨_,_,_,f',h1,h2,h3,h4⟩:=Cs _ _ _ hl;exact⟨f',h4 _ kE fc,h1,λb hb=>(h2 b).2 hb⟩
  .intro i j oi oj gi gj b hi hj _ _ Fp MV;exact hap _ _ _ _ _ _ b hi hj Fp MV
  .intro i ob g b hl _ hF;obtain⟨_,_,_,f',_,h2,h3,_⟩:=Cs _ _ _ hl;have:=h3 _ ((h2 _).1 hF);exact⟨.inl ((hO0 b).2 this),(hab b this).2⟩
  .have h2:∀n,Rc w (env B (Gr 0 gs) Gs w) (replicate n .undef) (replicate n Go.undef) []:=by
    intro n;induction n with
    |zero=>simp[Rc]
    |succ n ih=>simp only[pN,Rc];exact⟨[],[],by simp[R],ih,rfl⟩
   have:=mQ (qW _ kE fc) (h2 (fn.ntmps-gs.length));simpa [hvl]using this
  .intro b hb;rw[Si];exact(hA0 b).1 hb
 refine calls_of_wp hf hb (wp_mono (sK hm c _ _ h _ _ ⟨_,r0⟩) λe a w' he=> ?_);obtain⟨s,⟨he,ys,uo,nR,jO,hcl,hlo,hun⟩,G,r⟩:=he;obtain⟨u,hrun,hR⟩:=Ad r uo;have hun':=gO.1 hun;obtain⟨fp,k1,k2,k3⟩:=KN r _ u nR hun'.2.1 hR;rw[jO]at k1;have aQz:pinned (λi=>Gs[i]?) 0 gs vs jC:=by simpa using aJo [] rfl
 obtain⟨Ct,q1,q2,q3⟩:=Ie r hp0 gs vs jC 0 0 aQz hlo hun'.1;have hin:∀b∈Ct.flatten++fp,(b∈uN.flatten\/w.heap.size<=b)/\b<w'.heap.size:=by
  intro b hb;have:∃i ob g,look s.o G i ob g/\ob.live=true/\g.F b:=by
   rcases fL.1 hb with hb|hb
   .obtain ⟨i,ob,g,_,h⟩:=q3 b hb;exact⟨i,ob,g,h⟩
   .obtain ⟨i,ob,g,_,h⟩:=k3 b hb;exact⟨i,ob,g,h⟩
  obtain⟨i,ob,g,hl,hlive,hF⟩:=this;have:=r.fresh _ _ _ b hl hlive hF;rw[Si,hO0]at this;exact this
 have hfin:∃v fp Ct,Ending.returned u= .returned v/\R w' mE rr v fp/\Uw w' gs vs Ct jC/\(Ct.flatten++fp).Nodup/\
   (∀b∈Ct.flatten++fp,(b∈uN.flatten\/w.heap.size<=b)/\b<w'.heap.size)/\w.heap.size<=w'.heap.size/\(∀b,b<w.heap.size->b∉uN.flatten->w'.heap[b]? =w.heap[b]?)/\nS w w':=by
  refine⟨u,fp,Ct,rfl,KO (E:=(env B s.o G w').plain) (λ_ _=>trivial) rfl rfl rfl _ _ _ hcl k1,q1,gO.2 ⟨q2,k2,λx hx y hy e=> ?_⟩,hin,by have:=r.size;rwa[Si]at this,λb hb hn=>by have:=r.frame b (by rw[Si];exact hb) (λh=>hn ((hO0 b).1 h));rwa[Si]at this,by have:=r.same;rwa[Si]at this⟩;subst e;exact KT r (λi hi j hj=>hun'.2.2 i hi j hj) (q3 x hx) (k3 x hy)
 rcases he with rfl|rfl
 .exact ⟨r.defs,u,hrun,hfin⟩
 .exact ⟨r.defs,u,hrun,hfin⟩
theorem kH{e:Exit}{q:Prop}(h:q)(he:e= .normal\/e= .ret:=by first|exact .inr rfl|exact .inl rfl):(e= .normal\/e= .ret)/\q:=⟨he,h⟩
theorem sG{P:Program}[aC P](hm:P.follows .mixedOrders=true){f:FuncId}{fn:Func}{c:Code}(hf:P.funcs[f]? =some fn){n:Nat}(hn:fn.ntmps=n){gs:List GA}{t:List AV}{o:List aM}{rr:AV}
  (h:uY P c ⟨t,o⟩ (λe s=>(e= .normal\/e= .ret)/\gF P fn s gs rr)) (hb:fn.body=some c:=by rfl)
  (ho:Gr 0 gs=o:=by
   simp only[Gr,qL,mF,JM,AZ,Io,zC,KZ,AY,rK,hM,Nat.reduceAdd,eA,eM,fW,eN,eV];rfl)
  (ht:Lx 0 gs++replicate (n-gs.length) .undef=t:=by
   simp only[Lx,qL,mF,JM,AZ,Io,zC,KZ,AY,rK,hM,eN,eV,Nat.reduceSub,Nat.reduceAdd,pN,BW,eA,eM,fW];rfl):MP P f gs rr:=by
 subst ht;subst hn;subst ho;exact SV hm hf hb h
theorem aRp{P:Program}[aC P](hm:P.follows .mixedOrders=true){f:FuncId}{fn:Func}{c c':Code}(L:List Nat)(hf:P.funcs[f]? =some fn){n:Nat}(hn:fn.ntmps=n){gs:List GA}{t:List AV}{o:List aM}{rr:AV}
  (h:uY P c' ⟨t,o⟩ (λe s=>(e= .normal\/e= .ret)/\gF P fn s gs rr)) (hb:fn.body=some c:=by rfl)
  (hc:Ak (λi=>L.contains i) c=c':=by simp[Ak];rfl)
  (ho:Gr 0 gs=o:=by
   simp only[Gr,qL,mF,JM,AZ,Io,zC,KZ,AY,rK,hM,Nat.reduceAdd,eA,eM,fW,eN,eV];rfl)
  (ht:Lx 0 gs++replicate (n-gs.length) .undef=t:=by
   simp only[Lx,qL,mF,JM,AZ,Io,zC,KZ,AY,rK,hM,eN,eV,Nat.reduceSub,Nat.reduceAdd,pN,BW,eA,eM,fW];rfl):MP P f gs rr:=by
 subst ht;subst hn;subst ho;subst hc;rw[Al]at h;exact SV hm hf hb h
def sZ(l:List (List AV)):Bool:=l.all λr=>r.all AV.iC
theorem C8{w:World}{E:Env}:∀(x:AV) (v:Value) (fp:List Nat),x.iC=true->R w E x v fp->fp=[]:=by intro x v fp hx h;cases x<;>simp only[AV.iC]at hx<;>first|(cases hx;done)|(simp only[R]at h;exact h.2)|(simp only[R]at h;exact h.1)|simp_all[R]
theorem Pn{w:World}{E:Env}:∀(c:List AV) (cs:List Value) (fp:List Nat),c.all AV.iC=true->Rc w E c cs fp->fp=[]
 |[],[],fp,_,h=>by simpa [Rc]using h
 |[],_::_,_,_,h=>by simp[Rc]at h
 |_::_,[],_,_,h=>by simp[Rc]at h
 |x::xs,c::cs,fp,hp,h=>by simp only[Cd,eJ]at hp;simp only[Rc]at h;obtain⟨f1,f2,h1,h2,h3⟩:=h;have a:=C8 _ _ _ hp.1 h1;have b:=Pn _ _ _ hp.2 h2;subst a;subst b;simpa using h3
theorem Po{w:World}{E:Env}:∀(l:List (List AV)) (news:List Value) (n:Nat) (fp:List Nat),sZ l=true->Rv w E l news n fp->fp=[]
 |[],_,_,_,_,h=>by simp only[Rv]at h;simp_all
 |r::l,news,n,fp,hp,h=>by simp only[sZ,Cd,eJ]at hp;simp only[Rv]at h;obtain⟨cs,rest,f1,f2,h1,h2,h3,h4,h5,h6⟩:=h;have a:=Pn _ _ _ (by simpa using hp.1) h4;have b:=Po l _ _ _ (by simpa [sZ]using hp.2) h5;subst a;subst b;simpa using h6
theorem NY(tS xT:TypeId)(x y:Operand){e:TypeId}{n by' i j bV:Nat}{ob oj:aM}{s1:AS}(he:mU P tS=some (e,n,by'))(hz:iW P e n=true)(hxt:rJ P xT=true)
  (ht:s.target n (s.ev x)=some (i,ob,s1)) (hy:s1.ev y= .obj j bV) (ho:AV.isObj s1.o j bV=some oj) (hj:oj.box=false/\oj.n=n/\j≠i) (hpl:sZ oj.dP=true)
  (hbytes:(ob.dP.length+oj.dP.length)*by'<=140737488355328) (h63:ob.dP.length+oj.dP.length<=9223372036854775807):
  Step P B ⟨dst,.call {callee:= .builtin .append,args:=#[x,y],argTypes:=#[tS,xT]},ty,pos,after,gd⟩ s (s.yB s1.o dst i ob oj.dP):=
 sH λG0 a w r0=>by
  obtain⟨hu,inf,hi,hsz,hby⟩:=rH he;obtain⟨z,G7,hz2⟩:=Ab hz hi;obtain⟨G,g,r,hl,hlive,vT,hn,hv,hst⟩:=r0.target ht;have hev:=Zj hst y;obtain⟨gj,hlj,aCx,hvj⟩:=r.qw hy ho;rw[hev]at hy;have aRu:a.eval y= .slice gj.a oj.dP.length gj.cap:=hvj;obtain⟨fj,Ox,aH9,Uv⟩:=r.ok j oj gj hlj aCx;rw[hj.1]at Ox;obtain⟨fp,hown,hnd,hF⟩:=r.ok i ob g hl hlive;rw[vT]at hown;obtain⟨news,Ou,FQ⟩:∃news,Rv w (env B s1.o G w).plain oj.dP news ob.n []/\∀w',w'.heap=w.heap->(Builtin.firstCells ob.n oj.dP.length (.slice gj.a oj.dP.length gj.cap)).run P w'= .ok news.toArray w':=by
   have Ri:oj.n=ob.n:=by rw[hj.2.1,hn]
   rcases Ox.2 with⟨h1,h2,h3⟩|⟨b,off,C,ety,fz,rE,ha,hb,hz',k1,k2,k3,rfl,hr⟩
   .refine ⟨[],by rw[h1];simp[Rv],λw' _=> ?_⟩
    rw[h1];cases hga:gj.a with
    |none=>simp[Builtin.firstCells]
    |some a'=>simp[Builtin.firstCells,loadCells,loadCellsFrom]
   .obtain ⟨vs,hv',hc'⟩:=tQ.1 hr;have h0:=Po _ _ _ _ hpl hv';subst h0;refine⟨vs,by rw[<-Ri];exact hv',λw' G5=> ?_⟩;rw[ha,<-Ri];exact kK (jU hv') (hc'.heap G5)
  obtain⟨v,w',G',hrun,hr',hR⟩:=r.append (P:=P) (ty:=ty) hl hlive vT hu (Fq hxt) hi G7 (by rw[hsz,hn]) (by rw[hz2,hn]) (x:=a.eval y) (by rw[aRu];simp[Builtin.lenOf]) (by rw[aRu];exact FQ) Ou hown (by simpa using hnd) (by simpa using hF) (by rw[hby];exact hbytes) h63;refine⟨v,w',by simp[execOp,resolve,invoke,builtin,hv,hrun],G',?_⟩;have:=hr'.put dst hR;rw[hst]at this;exact this
def AV.vB:AV->Bool
 | .agg c=>c.all AV.iC
 |x=>x.iC
theorem aGo{x:AV}(h:x.vB=true):x≠ .undef:=by cases x<;>simp_all[AV.vB,AV.iC]
theorem jm{o:List aM}:∀{c:List AV},(∀x∈c,x.vB=true)->uX o c=c/\nG o c=true/\kC c=[]
 |[],_=>⟨rfl,rfl,rfl⟩
 |x::xs,h=>by
  obtain⟨h1,h2,h3⟩:=jm (o:=o) (c:=xs) λy hy=>h y (by simp[hy])
  have hx:=h x (by simp);cases x with
  |agg c=>
   simp only[AV.vB]at hx;obtain⟨k1,k2,k3⟩:=NA (o:=o) (c:=c) λy hy=>fN.1 hx y hy
   simp[uX,nG,kC,res,jJ,lV,h1,h2,h3,k1,k2,k3]
  |_=>simp only[AV.vB,AV.iC]at hx<;>first|(cases hx;done)|(simp[uX,nG,kC,res,jJ,lV,h1,h2,h3])
theorem jo(t:TypeId)(len:Nat)(parts:Array (Nat×Operand)){e:TypeId}{n by' i:Nat}(he:mU P t=some (e,n,by'))(hz:iW P e n=true)(Na:wS parts.toList=true)(hlen:len=parts.toList.length)(hbig:len*n<=16777216)(hbig2:len<=16777216)
  (hpl:∀x∈(parts.toList.map (·.2)).map s.ev,x.vB=true) (hgood:∀x∈(parts.toList.map (·.2)).map s.ev,x.xX=true/\x.cells.length=n) (hi':s.o[i]? =some ⟨true,false,n,0,[]⟩):
  Step P B ⟨dst,.buildSlice t len parts,ty,pos,after,gd⟩ s (AS.put ⟨s.t,s.o.set i ⟨true,false,n,1,((parts.toList.map (·.2)).map s.ev).map AV.cells⟩⟩ dst (.obj i 1)):=
 sH λG a w r=>by
  generalize hxs:parts.toList.map (·.2)=xs at*;have AA:parts.toList=(xs.zipIdx).map λp=>(p.2,p.1):=by rw[<-hxs];exact Ew _ 0 Na
  obtain⟨hp1,Ws,hp3⟩:=jm (o:=s.o) hpl;obtain⟨fp,wK,hnd,Oz⟩:=JA r _ _ Ws (by rw[hp3];simp) (xJ r xs);have KI:fp=[]:=by
   cases fp with
   |nil=>rfl
   |cons b _=>obtain⟨i,ob,g,hi,_⟩:=Oz b (by simp);rw[hp3]at hi;cases hi
  subst KI;rw[hp1]at wK;obtain⟨Ou,hsz⟩:=Qy wK hgood;have hvl:(xs.map a.eval).length=len:=by rw[hlen,<-hxs];simp
  have hrun:(execOp a.eval ⟨dst,.buildSlice t len parts,ty,pos,after,gd⟩).run P w= .ok (.value (.slice (some ⟨w.heap.size,0,none⟩) len len)) (w.alloc (.cells ((xs.map a.eval).flatMap λv=>v.cells.toList).toArray e)):=by
   have e1:parts.map (λ(i,x)=>(i,a.eval x))=(((xs.map a.eval).zipIdx).map λp=>(p.2,p.1)).toArray:=by apply DO;simp only[CT,AA,map_map,zipIdx_map];rfl
   have:=uZ (P:=P) (t:=t) (len:=len) (w:=w) he hz hvl.symm hbig hsz;simp only[execOp,e1,nF,this,lP,sE]
  have hlt:i<G.length:=by rw[r.len];exact(cH.1 hi').1
  have hlk:Aw.look s.o G i ⟨true,false,n,0,[]⟩ G[i]:=⟨hi',aE hlt⟩;generalize G[i]=g at hlk;generalize hCd:((xs.map a.eval).flatMap λv=>v.cells.toList)=cs at*;have hcl:=jU Ou;have hself:(w.alloc (.cells cs.toArray e)).heap[w.heap.size]? =some (.cells cs.toArray e):=fO w _;have hrl:((xs.map s.ev).map AV.cells).length=len:=by have:=gH wK;rw[oY,<-this,hvl]
  have VA:len<=maxLen:=by simp only[maxLen];omega
  have hm:=r.modify hlk rfl ⟨true,false,n,1,(xs.map s.ev).map AV.cells⟩ ⟨some ⟨w.heap.size,0,none⟩,len,λb=>g.F b\/b=w.heap.size⟩ (w.alloc (.cells cs.toArray e)) (by simp) rfl (by simp)
   (λb hb=>by
    rcases hb with hb|hb
    .exact .inl hb
    .right;subst hb;simp) (λb hb hne=>⟨.inl hb,λa' wR=>by
     obtain rfl:=cQ wR;have:=(r.fresh _ _ _ b hlk rfl hb).2;simp only;omega⟩) (λb hlt _=>heap_alloc w _ b hlt) (by simp) (λk _=>by
   refine⟨[w.heap.size],?_,by simp,by simp⟩;generalize env B _ _ (w.alloc (.cells cs.toArray e))=E' at k⊢;simp only[Env.of,eS,gS];refine⟨by rw[hrl];exact VA,.inr ⟨w.heap.size,0,cs.toArray,e,(0,0),[],rfl,hself,.inr rfl,?_,by rw[hrl];exact eE _,VA,rfl,?_⟩⟩
   .simp [hcl];rw[<-hrl];simp
   .refine tQ.2 ⟨cs,wL k.plain (λb hb=>by cases hb) Ou,?_⟩
    refine rG hself (λj v hv=>by simpa using hv))
  have hl2:Aw.look (s.o.set i ⟨true,false,n,1,(xs.map s.ev).map AV.cells⟩) (G.set i ⟨some ⟨w.heap.size,0,none⟩,len,λb=>g.F b\/b=w.heap.size⟩) i ⟨true,false,n,1,(xs.map s.ev).map AV.cells⟩ ⟨some ⟨w.heap.size,0,none⟩,len,λb=>g.F b\/b=w.heap.size⟩:=rF hlk;refine⟨_,_,hrun,_,hm.1.put dst ?_⟩;simp only[R];exact⟨trivial,_,_,hl2,eE _,λ_ _=>by rw[hrl],λh=>absurd h (by decide)⟩
theorem aKa{P:Program}[aC P]{dst:Option Tmp}{ty:TypeId}{pos:String}{after:Array Edge}{gd:Option (Nat×Bool)}{m:List AV}{view:List aM}{pl:Nat}{T:TypeId}{len:Nat}{parts:Array (Nat×Operand)}{e:TypeId}{n by':Nat}{xs:List AV}
  (he:mU P T=some (e,n,by')) (hz:iW P e n=true) (Na:wS parts.toList=true) (hlen:len=parts.toList.length) (hbig:len*n<=16777216) (hbig2:len<=16777216)
  (hxs:(parts.toList.map (·.2)).map (AS.ev ⟨m,view⟩)=xs) (hpl:∀x∈xs,x.vB=true) (hgood:∀x∈xs,x.xX=true/\x.cells.length=n) (hv:view[pl]? =some (hole n)):
  EL P ⟨dst,.buildSlice T len parts,ty,pos,after,gd⟩ m view pl (.obj pl 1) ⟨true,false,n,1,xs.map AV.cells⟩:=by
 intro B t2 o2 hw hs _;have e2:(parts.toList.map (·.2)).map (AS.ev ⟨t2,o2⟩)=xs:=by
  have key:∀(l:List Operand) (xs:List AV),l.map (AS.ev ⟨m,view⟩)=xs->(∀x∈xs,x.vB=true)->l.map (AS.ev ⟨t2,o2⟩)=xs:=by
   intro l;induction l with
   |nil=>intro xs h _;exact h
   |cons a l ih=>
    intro xs h hp;cases xs with
    |nil=>cases h
    |cons x xs=>simp only[mC,List.cons.injEq]at h⊢;exact⟨CB hw h.1 (aGo (hp x (by simp))),ih xs h.2 λy hy=>hp y (by simp[hy])⟩
  exact key _ _ hxs hpl
 have ho:o2[pl]? =some ⟨true,false,n,0,[]⟩:=hs pl _ hv rfl;have:=jo (P:=P) (B:=B) (s:=⟨t2,o2⟩) (dst:=dst) (ty:=ty) (pos:=pos) (after:=after) (gd:=gd) T len parts (i:=pl) he hz Na hlen hbig hbig2 (by rw[e2];exact hpl) (by rw[e2];exact hgood) ho;rw[e2,put_eq]at this;exact this
theorem jq{P:Program}[aC P]{dst:Option Tmp}{ty:TypeId}{pos:String}{after:Array Edge}{gd:Option (Nat×Bool)}{m:List AV}{view:List aM}{pl:Nat}{T:TypeId}{len:Nat}{parts:Array (Nat×Operand)}{e:TypeId}{n by':Nat}{xs:List AV}{dP:List (List AV)}
  (he:mU P T=some (e,n,by')) (hz:iW P e n=true) (Na:wS parts.toList=true) (hlen:len=parts.toList.length) (hbig:len*n<=16777216) (hbig2:len<=16777216)
  (hxs:(parts.toList.map (·.2)).map (AS.ev ⟨m,view⟩)=xs) (hpl:∀x∈xs,x.vB=true) (hgood:∀x∈xs,x.xX=true/\x.cells.length=n) (hv:view[pl]? =some (hole n)) (hels:xs.map AV.cells=dP):
  EL P ⟨dst,.buildSlice T len parts,ty,pos,after,gd⟩ m view pl (.obj pl 1) ⟨true,false,n,1,dP⟩:=by
 subst hels;exact aKa he hz Na hlen hbig hbig2 hxs hpl hgood hv
theorem Ff{P:Program}[aC P]{dst:Option Tmp}{ty:TypeId}{pos:String}{after:Array Edge}{gd:Option (Nat×Bool)}{m:List AV}{view:List aM}{pl v v' q u:Nat}{x y:Operand}{tS xT:TypeId}{e:TypeId}{n by':Nat}{dP els':List (List AV)}{l2:List (List AV)}
  (hx:AS.ev ⟨m,view⟩ x= .obj pl v) (hvv:v+1=v') (hv:view[pl]? =some ⟨true,false,n,v,dP⟩) (hy:AS.ev ⟨m,view⟩ y= .obj q u) (hq:view[q]? =some ⟨true,false,n,u,l2⟩) (hqp:q≠pl) (hpl:sZ l2=true) (hels:dP++l2=els')
  (he:mU P tS=some (e,n,by')) (hz:iW P e n=true) (hxt:rJ P xT=true) (hbytes:(dP.length+l2.length)*by'<=140737488355328) (h63:dP.length+l2.length<=9223372036854775807):
  EL P ⟨dst,.call {callee:= .builtin .append,args:=#[x,y],argTypes:=#[tS,xT]},ty,pos,after,gd⟩ m view pl (.obj pl v') ⟨true,false,n,v',els'⟩:=by
 subst hels;subst hvv;intro B t2 o2 hw hs _;have ho:o2[pl]? =some ⟨true,false,n,v,dP⟩:=hs pl _ hv rfl;have ho2:o2[q]? =some ⟨true,false,n,u,l2⟩:=hs q _ hq rfl;have hx2:AS.ev ⟨t2,o2⟩ x= .obj pl v:=CB hw hx (by simp);have hy2:AS.ev ⟨t2,o2⟩ y= .obj q u:=CB hw hy (by simp);have FO:AV.isObj o2 pl v=some ⟨true,false,n,v,dP⟩:=by simp[AV.isObj,ho]
 have aUv:AV.isObj o2 q u=some ⟨true,false,n,u,l2⟩:=by simp[AV.isObj,ho2]
 have:=NY (P:=P) (B:=B) (s:=⟨t2,o2⟩) (dst:=dst) (ty:=ty) (pos:=pos) (after:=after) (gd:=gd) tS xT x y (i:=pl) (ob:=⟨true,false,n,v,dP⟩) (s1:=⟨t2,o2⟩) (oj:=⟨true,false,n,u,l2⟩) he hz hxt
  (by rw[hx2];simp only[AS.target,FO,FF,gC]) hy2 aUv ⟨rfl,rfl,hqp⟩ hpl hbytes h63
 simp only[AS.yB,put_eq]at this;exact this
theorem zY{α:Type}{f:α->List AV}(h:∀x,(f x).all AV.iC=true)(l:List α):sZ (l.map f)=true:=by simp[sZ,fN];intro a _ x hx;exact fN.1 (h a) x hx
theorem zq{t t':List AV}{o o':List aM}(i k:Nat){ob:aM}{e e':List AV}(ho:o[i]? =some ob)(hl:ob.live=true)(hb:ob.box=false)(hall:(o.all λx=> !x.box || x.dP.all λc=>xC i c)=true)(he:ob.dP[k]? =some e)
  (hc:xR JB true e=e') (ho':o.set i {ob with dP:=ob.dP.set k e'}=o') (hw:wk (xR (iP [i]) true t) t'):lY ⟨t,o⟩ ⟨t',o'⟩:=by
 subst ho';subst hc;rintro P _ B a w ⟨G,r⟩;have nb:∀{j x g},look o G j x g->x.box=true->(x.dP.all λc=>xC i c)=true:=λh hb=>by have:=fN.1 hall _ (mT h.1);simpa only[hb,DB,Bool.false_or]using this
 obtain⟨g,hlk⟩:=r.look ho;obtain⟨fp,hown,hnd,hF⟩:=r.ok i ob g hlk hl;simp only[hb,Env.of,eS,gS]at hown;obtain⟨hlen,⟨h,_⟩|⟨b,off,C,ty,fz,rE,ha,hbk,hz,h1,h2,h3,rfl,hr⟩⟩:=hown
 .rw [h]at he;simp at he
 have hk:k<ob.dP.length:=(cH.1 he).1;obtain⟨f1,f2,f3,cs,rfl,hn,hcs,hone,hre,hr1,hr3⟩:=Az hr he;have hsub2:∀x∈f2,g.F x:=λx hx=>hF x (by simp[hx])
 generalize xS:({ob with dP:=ob.dP.set k (xR JB true e)}:aM)=fF;generalize hg':({g with F:=λx=>g.F x/\x∉f2}:CO)=g';generalize hO:o.set i fF=o';generalize qd:G.set i g'=G';have back:∀{j x y},look o' G' j x y->(j=i/\x=fF/\y=g')\/(j≠i/\look o G j x y):=by intro j x y h;rw[<-hO,<-qd]at h;exact Aa h
 have fi:look o' G' i fF g':=by rw[<-hO,<-qd];exact rF hlk
 have fo:∀{j x y},j≠i->look o G j x y->look o' G' j x y:=λhj h=>by rw[<-hO,<-qd];exact Cw h hj
 have aQ3:fF.live=true:=by rw[<-xS];exact hl
 have aRi:fF.box=false:=by rw[<-xS];exact hb
 have aFn:fF.n=ob.n:=by rw[<-xS]
 have aQ4:fF.bV=ob.bV:=by rw[<-xS]
 have aFo:fF.dP.length=ob.dP.length:=by rw[<-xS];simp
 have hga:g'.a=g.a:=by rw[<-hg']
 have hgc:g'.cap=g.cap:=by rw[<-hg']
 have UA:∀x,g'.F x↔g.F x/\x∉f2:=λx=>by rw[<-hg']
 let Er:Env:=(env B o G w).no i
 have rt1:nE (iP [i]) true (env B o G w) Er (λ_=>True):=by
  refine⟨λt e=>by simp[iP]at e,λt e=>by simp only[iP,eC]at e;exact⟨e.symm,λb hb=>hb⟩,λj t e=> ?_,λ_ _ _ _ h=>h,λ_ _ _ _ _ _ h=>h⟩;simp only[iP]at e;split at e
  .cases e
  .rename_i hiu;obtain rfl:=cQ e;refine⟨by simp,?_,λb hb=>⟨hiu,hb⟩⟩;by_cases hV:(env B o G w).V j
   .exact .inl hV
   .exact .inr hV
 have kA:∀x,(env B o G w).A x->(env B o' G' w).A x:=λx hx=>⟨hx.1,λj y z hlj hjl hf=>by
  rcases back hlj with⟨rfl,rfl,rfl⟩|⟨_,h⟩
  .exact hx.2 _ _ _ hlk hl ((UA x).1 hf).1
  .exact hx.2 _ _ _ h hjl hf⟩
 have kS:∀x∈f2,(env B o' G' w).A x:=λx hx=>⟨(r.fresh _ _ _ x hlk hl (hsub2 x hx)).elim λh1 h2=>h1.elim (λh=> .inl (B.gA x h)) λh=> .inr ⟨h,h2⟩,λj y z hlj hjl hf=>by
  rcases back hlj with⟨rfl,rfl,rfl⟩|⟨hj,h⟩
  .exact ((UA x).1 hf).2 hx
  .exact hj (r.apart _ _ _ _ _ _ x h hlk hjl hl hf (hsub2 x hx))⟩
 have k2':eO w Er w (env B o' G' w):=by
  refine⟨λx hx=>⟨kA x hx,rfl⟩,λj h x hx=> ?_,λj x hV h=> ?_,λj bV x h=> ?_,λj bV p q x h=> ?_⟩
  .obtain ⟨y,hy⟩:=r.look hx;by_cases hj:j=i
   .subst hj;rw[ho]at hx;obtain rfl:=cQ hx;exact hl
   .exact h x (fo hj hy).1
  .obtain ⟨hji,x',y,hlj,hjl,hf,hne⟩:=h;exact⟨⟨x',y,fo (by simpa using hji) hlj,hjl,hf,hne⟩,rfl⟩
  .obtain ⟨x',y,hlj,Ay,hh,hz⟩:=h;by_cases hj:j=i
   .subst hj;obtain⟨rfl,rfl⟩:=lF hlk hlj;exact⟨fF,g',fi,by omega,λ_ UB=>by rw[hga,hgc,aFo];exact hh hl (by omega),hz⟩
   .exact ⟨x',y,fo hj hlj,Ay,hh,hz⟩
  .obtain ⟨x',y,hlj,Ay,hh,hz⟩:=h;by_cases hj:j=i
   .subst hj;obtain⟨rfl,rfl⟩:=lF hlk hlj;exact⟨fF,g',fi,by omega,λ_ UB=>by rw[hga,aFn];exact hh hl (by omega),λh=>by rw[aRi]at h;cases h⟩
   .exact ⟨x',y,fo hj hlj,Ay,hh,hz⟩
 have kp:eO w (env B o G w).plain w (env B o' G' w).plain:=⟨λx hx=>⟨kA x hx,rfl⟩,λ_ _=>trivial,λ_ _ _ h=>h.elim,λ_ _ _ h=>h.elim,λ_ _ _ _ _ h=>h.elim⟩;have rv:nE JB true (env B o G w).plain (env B o' G' w).plain (λx=>x∈f2):=by
  refine⟨λt e=> ?_,λt e=> ?_,λj t e=>by simp[JB]at e,λ_ _ _ _ h=>h.elim,λ_ _ _ _ _ _ h=>h.elim⟩
  .simp only[JB,eC]at e;subst e;exact⟨by simp,λb hb=>kS b hb⟩
  .simp only[JB,eC]at e;exact⟨e.symm,λb hb=>kA b hb⟩
 have hnd':=hnd;simp only[lR]at hnd';refine⟨G',{len:=by rw[<-hO,<-qd];simp[r.len],defs:=r.defs,ok:= ?_,apart:= ?_,fresh:= ?_,tmps:=FZ hw (dU k2' _ _ _ (by simp) (xW rt1 _ _ _ (by simp) r.tmps)),size:=r.size,frame:=r.frame,base:=r.base,same:=r.same}⟩
 .intro j x y hlj hjl;rcases back hlj with⟨rfl,rfl,rfl⟩|⟨hj,h⟩
  .refine ⟨b::(f1++[]++f3),?_,?_,?_⟩
   .rw [aRi,<-xS,<-hg'];simp only[Env.of,eS,gS];refine⟨by simpa using hlen,.inr ⟨b,off,C,ty,fz,_,ha,hbk,hz,h1,by simpa using h2,h3,rfl,?_⟩⟩;exact Vw hk hn hcs hone (xW rv _ _ _ (λx hx=>hx) hre) (mZ kp _ _ _ _ _ rfl (λ_ _=>rfl) hr1) (mZ kp _ _ _ _ _ rfl (λ_ _=>rfl) hr3)
   .have hs:(f1++[]++f3).Sublist (f1++f2++f3):=((qS f1).append (nil_sublist f2)).append (qS f3);exact lR.2 ⟨λh=>hnd'.1 (hs.subset h),hs.nodup hnd'.2⟩
   .intro x hx;rw[UA];have hin:x∈b::(f1++f2++f3):=by simp only[lB,fL,CM,FG]at hx⊢;grind
    refine⟨hF x hin,λhx2=> ?_⟩;have hd:=hnd'.2;simp only[gO,fL]at hd;simp only[lB,fL,CM,FG]at hx;rcases hx with rfl|hx|hx
    .exact hnd'.1 (by simp[hx2])
    .exact hd.1.2.2 x hx x hx2 rfl
    .exact hd.2.2 x (.inr hx2) x hx rfl
  .obtain ⟨fq,q1,q2,q3⟩:=r.ok j x y h hjl;refine⟨fq,?_,q2,q3⟩;cases hbj:x.box with
   |false=>simp only[hbj,Env.of,eS,gS]at q1⊢;exact q1.keeps kp (λ_ _=>rfl)
   |true=>simp only[hbj,Env.of,gC]at q1⊢;exact(q1.Fz (nb h hbj)).keeps k2' (λ_ _=>rfl)
 .intro j1 j2 x1 x2 y1 y2 z hl1 hl2 v1 v2 hf1 hf2;rcases back hl1 with⟨rfl,rfl,rfl⟩|⟨hj1,h1⟩<;>rcases back hl2 with⟨rfl,rfl,rfl⟩|⟨hj2,h2⟩
  .rfl
  .exact absurd (r.apart _ _ _ _ _ _ z hlk h2 hl v2 ((UA z).1 hf1).1 hf2).symm hj2
  .exact absurd (r.apart _ _ _ _ _ _ z h1 hlk v1 hl hf1 ((UA z).1 hf2).1) hj1
  .exact r.apart _ _ _ _ _ _ z h1 h2 v1 v2 hf1 hf2
 .intro j x y z hlj hjl hf;rcases back hlj with⟨rfl,rfl,rfl⟩|⟨_,h⟩
  .exact r.fresh _ _ _ z hlk hl ((UA z).1 hf).1
  .exact r.fresh _ _ _ z h hjl hf
theorem go_openB{P:Program}[aC P](i k c:Nat){id:Nat}{L:List Oper}{Q:Exit->AS->Prop}{t t':List AV}{o o':List aM}{ob:aM}{e:List AV}{m:Nat}{rows:List (List AV)}(ho:o[i]? =some ob)(he:ob.dP[k]? =some e)(hc:e[c]? =some (.sl .own m rows))
  (h:uY P (.region id L.toArray false) ⟨t',o'⟩ Q) (hl:ob.live=true:=by rfl) (hb:ob.box=true:=by rfl) (hall:(o.all λx=> !x.box || x.dP.all λc=>xC i c)=true:=by simp)
  (ho':o.set i {ob with dP:=ob.dP.set k (e.set c (.obj o.length 1))}++[⟨true,false,m,1,rows⟩]=o':=by simp;rfl) (hw:xR (iP [i]) true t=t':=by simp;rfl):uY P (di (.region id L.toArray false)) ⟨t,o⟩ Q:=
 go_weak (vI i k c ho hl hb hall he hc ho' (hw▸lC _)) h
theorem go_share{P:Program}[aC P](i k:Nat){id:Nat}{L:List Oper}{Q:Exit->AS->Prop}{t t':List AV}{o o':List aM}{ob:aM}{e e':List AV}(ho:o[i]? =some ob)(he:ob.dP[k]? =some e)(he':xR JB true e=e')
  (h:uY P (.region id L.toArray false) ⟨t',o'⟩ Q) (hl:ob.live=true:=by rfl) (hb:ob.box=false:=by rfl) (hall:(o.all λx=> !x.box || x.dP.all λc=>xC i c)=true:=by simp)
  (ho':o.set i {ob with dP:=ob.dP.set k e'}=o':=by simp;rfl) (hw:xR (iP [i]) true t=t':=by simp;rfl):uY P (di (.region id L.toArray false)) ⟨t,o⟩ Q:=
 go_weak (zq i k ho hl hb hall he he' ho' (hw▸lC _)) h
theorem WM{t t':List AV}{o o':List aM}(i:Nat){ob:aM}(ho:o[i]? =some ob)(ho':o.set i ⟨false,false,0,ob.bV,[]⟩=o')(hw:wk t t'):lY ⟨t,o⟩ ⟨t',o'⟩:=by
 subst ho';rintro P _ B a w ⟨G,r⟩;obtain⟨g,hlk⟩:=r.look ho;have hi:i<o.length:=(cH.1 ho).1;have back:∀{j x y},look (o.set i ⟨false,false,0,ob.bV,[]⟩) G j x y->(j=i/\x=⟨false,false,0,ob.bV,[]⟩)\/(j≠i/\look o G j x y):=by
  intro j x y ⟨h1,h2⟩;rw[getElem?_set]at h1;by_cases hj:i=j
  .subst hj;rw[eK rfl,eK hi]at h1;exact .inl ⟨rfl,(cQ h1).symm⟩
  .rw [cX hj]at h1;exact .inr ⟨λh=>hj h.symm,h1,h2⟩
 have k:eO w (env B o G w) w (env B (o.set i ⟨false,false,0,ob.bV,[]⟩) G w):=
  Dy (eE _) (λb hb=>⟨wW r hb,rfl⟩) r.len
   (λj x y h=>by
    by_cases hj:j=i
    .subst hj;obtain⟨rfl,rfl⟩:=lF hlk h;exact⟨⟨false,false,0,ob.bV,[]⟩,g,⟨by rw[getElem?_set];simp[hi],hlk.2⟩,eE _,(λh=>by cases h),λh=>by cases h⟩
    .refine ⟨x,y,⟨by rw[getElem?_set,cX (λe=>hj e.symm)];exact h.1,h.2⟩,eE _,λh=> .inl h,λhl=>⟨hl,rfl,λ_=>⟨rfl,rfl,rfl⟩,λb h1 h2=>⟨h1,h2,rfl⟩⟩⟩)
   (λj x y b h hl hf=>by
    rcases back h with⟨_,rfl⟩|⟨_,h⟩
    .cases hl
    .exact .inr ⟨j,x,y,h,hl,hf⟩)
 refine⟨G,{len:=by simp[r.len],defs:=r.defs,ok:= ?_,apart:= ?_,fresh:= ?_,tmps:=FZ hw (dU k _ _ _ (by simp) r.tmps),size:=r.size,frame:=r.frame,base:=r.base,same:=r.same}⟩
 .intro j x y h hl;rcases back h with⟨_,rfl⟩|⟨_,h⟩
  .cases hl
  .exact (r.ok j x y h hl).keeps k (λ_ _=>rfl)
 .intro j1 j2 x1 x2 y1 y2 z h1 h2 l1 l2 f1 f2;rcases back h1 with⟨_,rfl⟩|⟨_,h1⟩
  .cases l1
  .rcases back h2 with⟨_,rfl⟩|⟨_,h2⟩
   .cases l2
   .exact r.apart _ _ _ _ _ _ z h1 h2 l1 l2 f1 f2
 .intro j x y z h hl hf;rcases back h with⟨_,rfl⟩|⟨_,h⟩
  .cases hl
  .exact r.fresh _ _ _ z h hl hf
theorem Q8:∀a b:List UInt8,Lib.compareBytes a b=if a=b then 0 else if Op.bytesLess a b=true then -1 else 1
 |[],[]=>rfl
 |[],_::_=>by simp[Lib.compareBytes,Op.bytesLess]
 |_::_,[]=>by simp[Lib.compareBytes,Op.bytesLess]
 |x::xs,y::ys=>by
  have ih:=Q8 xs ys;simp only[Lib.compareBytes,Op.bytesLess];by_cases h:x<y
  .have hne:x≠y:=UInt8.ne_of_lt h;simp[h,hne]
  .by_cases h2:y<x
   .have hne:x≠y:=(UInt8.ne_of_lt h2).symm;simp[h,h2,hne]
   .have he:x=y:=UInt8.le_antisymm (UInt8.not_lt.1 h2) (UInt8.not_lt.1 h);subst he;simp[h,ih]
theorem jd{P:Program}[aC P]{f:FuncId}{fn:Func}(hf:P.funcs[f]? =some fn)(ZL:(fn.name == "runtime.NumGoroutine")=false)
  (hb:fn.body.isNone=true) (hn:Extern.findNext fn=none) (he:Extern.find fn=some Extern.BytealgCompare.compare) (s t:bB):
  OkN P f [.str s,.str t] (.int .i64 (Lib.compareBytes s t)):=by
 intro w vs h;obtain⟨v1,h⟩:∃v:Value,vs=[.string ⟨s.toArray⟩,.string ⟨t.toArray⟩]:=by
  cases vs with
  |nil=>simp[Rc]at h
  |cons a vs=>cases vs with
   |nil=>simp[Rc]at h
   |cons b vs=>cases vs with
    |nil=>simp only[Rc,R]at h;obtain⟨f1,f2,h1,h2,h3⟩:=h;obtain⟨f3,f4,h4,h5,h6⟩:=h2;exact⟨a,by rw[h1.1,h4.1]⟩
    |cons d vs=>simp only[Rc,R]at h;obtain⟨f1,f2,h1,h2,h3⟩:=h;obtain⟨f3,f4,h4,h5,h6⟩:=h2;simp[Rc]at h5
 subst h;refine⟨.int .i64 (Lib.compareBytes s t),w,?_,rfl,nS.rfl,λ_ _=>by simp[R]⟩;rw[run_callFunc_extern hf ZL hb hn he,show [Value.string ⟨s.toArray⟩,Value.string ⟨t.toArray⟩].toArray=#[Value.string ⟨s.toArray⟩,Value.string ⟨t.toArray⟩]from rfl,Go.Lib.run_compareString];rfl
end
end Go.Aw
