/- Proved here: steps towards the statement of this claim. No condition. -/
import Derived.Test.YtjmpjmilndkgfaaGreatDoorZF4
set_option linter.all false
namespace Go.Aw
open List
section
variable {P : Program} [aC P] {B : gN P} {s : AS} {dst : Option Tmp} {ty : TypeId} {pos : String} {after : Array Edge} {gd : Option (Nat × Bool)}
theorem LK {o:List aM}:∀{c:List AV},(∀x∈c,x.iE=true)->tC o c=c/\mW o c=true/\kH c=[]
 |[],_=>⟨rfl,rfl,rfl⟩
 |x::xs,h=>by
  obtain ⟨h1,h2,h3⟩:=LK (o:=o) (c:=xs) λy hy=>h y (by simp [hy])
  have hx:=h x (by simp);cases x<;>simp only [AV.iE] at hx<;>first|(cases hx;done)|(simp [tC,mW,kH,res,jM,lU,h1,h2,h3])
theorem nk (t:TypeId) (len:Nat) (parts:Array (Nat×Operand)) {e:TypeId} {n by' i:Nat} (he:iC P t=some (e,n,by')) (hz:bT P e n=true) (Lc:vL parts.toList=true) (hlen:len=parts.toList.length) (hbig:len * n<=16777216) (hbig2:len<=16777216)
  (hpl:∀x∈(parts.toList.map (·.2)).map s.ev,x.iE=true) (hgood:∀x∈(parts.toList.map (·.2)).map s.ev,x.yA=true/\x.cells.length=n) (hi':s.o[i]? =some ⟨true,false,n,0,[]⟩):
  Step P B ⟨dst,.buildSlice t len parts,ty,pos,after,gd⟩ s (AS.put ⟨s.t,s.o.set i ⟨true,false,n,1,((parts.toList.map (·.2)).map s.ev).map AV.cells⟩⟩ dst (.obj i 1)):=
 qM λG a w r=>by
  generalize hxs:parts.toList.map (·.2)=xs at *;have zX:parts.toList=(xs.zipIdx).map λp=>(p.2,p.1):=by rw [<-hxs];exact DC _ 0 Lc
  obtain ⟨hp1,UY,hp3⟩:=LK (o:=s.o) hpl;obtain ⟨fp,uY,hnd,MH⟩:=Hy r _ _ UY (by rw [hp3];simp) (wB r xs);have Jh:fp=[]:=by
   cases fp with
   |nil=>rfl
   |cons b _=>obtain ⟨i,ob,g,hi,_⟩:=MH b (by simp);rw [hp3] at hi;cases hi
  subst Jh;rw [hp1] at uY;obtain ⟨MB,hsz⟩:=Oy uY hgood;have hvl:(xs.map a.eval).length=len:=by rw [hlen,<-hxs];simp
  have hrun:(execOp a.eval ⟨dst,.buildSlice t len parts,ty,pos,after,gd⟩).run P w= .ok (.value (.slice (some ⟨w.heap.size,0,none⟩) len len)) (w.alloc (.cells ((xs.map a.eval).flatMap λv=>v.cells.toList).toArray e)):=by
   have e1:parts.map (λ(i,x)=>(i,a.eval x))=(((xs.map a.eval).zipIdx).map λp=>(p.2,p.1)).toArray:=by apply DE;simp only [CI,zX,map_map,zipIdx_map];rfl
   have:=tH (P:=P) (t:=t) (len:=len) (w:=w) he hz hvl.symm hbig hsz;simp only [execOp,e1,nF,this,lP,sE]
  have hlt:i < G.length:=by rw [r.len];exact (cH.1 hi').1
  have hlk:Aw.look s.o G i ⟨true,false,n,0,[]⟩ G[i]:=⟨hi',aE hlt⟩;generalize G[i]=g at hlk;generalize hCd:((xs.map a.eval).flatMap λv=>v.cells.toList)=cs at *;have zT:=jQ MB;have hself:(w.alloc (.cells cs.toArray e)).heap[w.heap.size]? =some (.cells cs.toArray e):=fV w _;have hrl:((xs.map s.ev).map AV.cells).length=len:=by have:=gG uY;rw [lR,<-this,hvl]
  have UC:len<=maxLen:=by simp only [maxLen];omega
  have hm:=r.modify hlk rfl ⟨true,false,n,1,(xs.map s.ev).map AV.cells⟩ ⟨some ⟨w.heap.size,0,none⟩,len,λb=>g.F b\/b=w.heap.size⟩ (w.alloc (.cells cs.toArray e)) (by simp) rfl (by simp)
   (λb hb=>by
    rcases hb with hb|hb
    .exact .inl hb
    .right;subst hb;simp) (λb hb hne=>⟨.inl hb,λa' vK=>by
     obtain rfl:=cQ vK;have:=(r.fresh _ _ _ b hlk rfl hb).2;simp only;omega⟩) (λb hlt _=>heap_alloc w _ b hlt) (by simp) (λk _=>by
   refine ⟨[w.heap.size],?_,by simp,by simp⟩;generalize env B _ _ (w.alloc (.cells cs.toArray e))=E' at k⊢;simp only [Env.of,eS,gS];refine ⟨by rw [hrl];exact UC,.inr ⟨w.heap.size,0,cs.toArray,e,(0,0),[],rfl,hself,.inr rfl,?_,by rw [hrl];exact eE _,UC,rfl,?_⟩⟩
   .simp [zT];rw [<-hrl];simp
   .refine rT.2 ⟨cs,uZ k.plain (λb hb=>by cases hb) MB,?_⟩
    refine qA hself (λj v hv=>by simpa using hv))
  have hl2:Aw.look (s.o.set i ⟨true,false,n,1,(xs.map s.ev).map AV.cells⟩) (G.set i ⟨some ⟨w.heap.size,0,none⟩,len,λb=>g.F b\/b=w.heap.size⟩) i ⟨true,false,n,1,(xs.map s.ev).map AV.cells⟩ ⟨some ⟨w.heap.size,0,none⟩,len,λb=>g.F b\/b=w.heap.size⟩:=pY hlk;refine ⟨_,_,hrun,_,hm.1.put dst ?_⟩;simp only [R];exact ⟨trivial,_,_,hl2,eE _,λ_ _=>by rw [hrl],λh=>absurd h (by decide)⟩
structure Tm where
  at_ : Nat
  n : Nat
  st : List (Nat × aM)
def nu (J:Nat->Bool) (h:aM):List (Nat×aM)->aM
 |[]=>h
 |q::r=>if J q.1=true then q.2 else nu J h r
def vst (i:Nat) (pr:List Nat) (h dead:aM):List (Nat×aM)->aM
 |[]=>h
 |q::r=>if q.1∈pr then q.2 else if q.1=i\/i∈r.map (·.1) then vst i pr h dead r else dead
def hole (n:Nat):aM:=⟨true,false,n,0,[]⟩
def aDg (n:Nat):aM:=⟨false,false,n,0,[]⟩
def zK (J:Nat->Bool):List Tm->List aM->List aM
 |[],o=>o
 |p::r,o=>zK J r (o.set p.at_ (nu J (hole p.n) p.st))
def Iw (i:Nat) (pr:List Nat):List Tm->List aM->List aM
 |[],o=>o
 |p::r,o=>Iw i pr r (o.set p.at_ (vst i pr (hole p.n) (aDg p.n) p.st))
def QV (l:List Oper):List (Nat×aM)->Bool
 |[]=>true
 |[_]=>true
 |q::q'::r=>(mP l q.1).contains q'.1&&QV l (q'::r)
def aHj (l:List Oper) (fl:List Tm) (n:Nat):Bool:=
 decide (fl.map (·.at_)).Nodup&&(fl.all λp=>decide (p.at_ < n)&&QV l p.st&&decide (p.st.map (·.1)).Nodup&&p.st.all λq=>decide (q.1 < l.length))&&decide ((fl.flatMap λp=>p.st.map (·.1))).Nodup
theorem Cg (J:Nat->Bool):∀(fl:List Tm) (o:List aM),(zK J fl o).length=o.length
 |[],_=>rfl
 |q::r,o=>by simp only [zK];rw [Cg J r];simp
theorem Fj (i:Nat) (pr:List Nat):∀(fl:List Tm) (o:List aM),(Iw i pr fl o).length=o.length
 |[],_=>rfl
 |q::r,o=>by simp only [Iw];rw [Fj i pr r];simp
theorem JV {J:Nat->Bool} {i:Nat}:∀{fl:List Tm} {o:List aM},(∀q∈fl,q.at_≠i)->(zK J fl o)[i]? =o[i]?
 |[],_,_=>rfl
 |q::r,o,h=>by simp only [zK];rw [JV λp hp=>h p (by simp [hp]),lA (h q (by simp))]
theorem WX {k:Nat} {pr:List Nat} {i:Nat}:∀{fl:List Tm} {o:List aM},(∀q∈fl,q.at_≠i)->(Iw k pr fl o)[i]? =o[i]?
 |[],_,_=>rfl
 |q::r,o,h=>by simp only [Iw];rw [WX λp hp=>h p (by simp [hp]),lA (h q (by simp))]
theorem JW {J:Nat->Bool}:∀{fl:List Tm} {o:List aM} {q:Tm},(fl.map (·.at_)).Nodup->q∈fl->q.at_ < o.length->(zK J fl o)[q.at_]? =some (nu J (hole q.n) q.st)
 |p::r,o,q,hn,hq,hl=>by
  simp only [zK];simp only [mT,mA] at hn;rcases lB.1 hq with rfl|hq
  .rw [JV λp hp e=>hn.1 (Bx.2 ⟨p,hp,e⟩),mB hl]
  .exact JW hn.2 hq (by simpa using hl)
theorem Zm {k:Nat} {pr:List Nat}:∀{fl:List Tm} {o:List aM} {q:Tm},(fl.map (·.at_)).Nodup->q∈fl->q.at_ < o.length->(Iw k pr fl o)[q.at_]? =some (vst k pr (hole q.n) (aDg q.n) q.st)
 |p::r,o,q,hn,hq,hl=>by
  simp only [Iw];simp only [mT,mA] at hn;rcases lB.1 hq with rfl|hq
  .rw [WX λp hp e=>hn.1 (Bx.2 ⟨p,hp,e⟩),mB hl]
  .exact Zm hn.2 hq (by simpa using hl)
theorem Iy {J J':Nat->Bool}:∀{fl:List Tm} {o:List aM},(∀p∈fl,∀q∈p.st,J q.1=J' q.1)->zK J fl o=zK J' fl o
 |[],_,_=>rfl
 |p::r,o,h=>by
  simp only [zK];have:∀st:List (Nat×aM),(∀q∈st,J q.1=J' q.1)->nu J (hole p.n) st=nu J' (hole p.n) st:=by
   intro st;induction st with
   |nil=>intros;rfl
   |cons q r ih=>intro h;simp only [nu];rw [h q (by simp),ih λx hx=>h x (by simp [hx])]
  rw [this p.st (h p (by simp)),Iy λq hq=>h q (by simp [hq])]
theorem Zn {J:Nat->Bool} {i:Nat} {pr:List Nat} {n:Nat} (hi:J i=false) (hp:∀e∈pr,J e=true):∀(st:List (Nat×aM)),(∀s1 q s2,st=s1++q::s2->J q.1=false->∀p∈s1,J p.1=false)->(vst i pr (hole n) (aDg n) st).live=true->vst i pr (hole n) (aDg n) st=nu J (hole n) st
 |[],_,_=>rfl
 |q::r,aHk,h=>by
  simp only [vst,nu] at h⊢;by_cases h1:q.1∈pr
  .rw [eK h1,eK (hp _ h1)]
  .rw [cY h1] at h⊢;by_cases h2:q.1=i\/i∈r.map (·.1)
   .rw [eK h2] at h⊢;have hq:J q.1=false:=by
     rcases h2 with h2|h2
     .rw [h2];exact hi
     .obtain ⟨x,hx,rfl⟩:=Bx.1 h2;obtain ⟨r1,r2,rfl⟩:=append_of_mem hx;exact aHk (q::r1) x r2 rfl hi q (by simp)
    rw [hq,cY (by simp)];exact Zn hi hp r (λs1 x s2 e hx p hp=>aHk (q::s1) x s2 (by rw [e];rfl) hx p (by simp [hp])) h
   .rw [cY h2] at h;cases h
theorem Vy {l:List Oper} {q:Nat×aM} {r:List (Nat×aM)} (h:QV l (q::r)=true):QV l r=true:=by
 cases r with
 |nil=>rfl
 |cons q' r=>simp only [QV,eJ] at h;exact h.2
theorem QW {l:List Oper} {J:Nat->Bool} (hJ:F9 l J) (hlen:∀i,J i=true->i < l.length):∀{s1:List (Nat×aM)} {q:Nat×aM} {s2:List (Nat×aM)},QV l (s1++q::s2)=true->J q.1=false->∀p∈s1,J p.1=false
 |[],_,_,_,_=>λ_ hp=>by cases hp
 |x::s1,q,s2,h,hq=>by
  have ih:=QW hJ hlen (Vy h) hq;intro p hp;rcases lB.1 hp with rfl|hp
  .cases hJp:J p.1 with
   |false=>rfl
   |true=>
    exfalso;have hnx:∃y,(mP l p.1).contains y=true/\J y=false:=by
     cases s1 with
     |nil=>simp only [eI,eN,QV,eJ] at h;exact ⟨q.1,h.1,hq⟩
     |cons y s1=>simp only [eI,QV,eJ] at h;exact ⟨y.1,h.1,ih y (by simp)⟩
    obtain ⟨y,hy,hyf⟩:=hnx;have hlp:=hlen _ hJp;have hop:l[p.1]? =some (l.get ⟨p.1,hlp⟩):=aE hlp;have hm:y∈pre (l.get ⟨p.1,hlp⟩):=by unfold mP at hy;rw [hop] at hy;simpa using hy
    have:=hJ _ _ hop hJp _ hm;rw [hyf] at this;cases this
  .exact ih p hp
theorem aDh {J:Nat->Bool} {i:Nat} {pr:List Nat} {fl:List Tm} {o:List aM} (hn:(fl.map (·.at_)).Nodup) (hs:∀q∈fl,q.at_ < o.length) (hi:J i=false) (hp:∀e∈pr,J e=true) (aHk:∀q∈fl,∀s1 x s2,q.st=s1++x::s2->J x.1=false->∀p∈s1,J p.1=false):Sub (Iw i pr fl o) (zK J fl o):=by
 intro k ob h hl;by_cases hk:∃q∈fl,q.at_=k
 .obtain ⟨q,hq,rfl⟩:=hk;rw [Zm hn hq (hs q hq)] at h;obtain rfl:=cQ h;rw [JW hn hq (hs q hq),Zn hi hp _ (aHk q hq) hl]
 .have hk':∀q∈fl,q.at_≠k:=λq hq e=>hk ⟨q,hq,e⟩
  rw [WX hk'] at h;rw [JV hk'];exact h
theorem aHl {l:List Oper} {J:Nat->Bool} (hJ:F9 l J) (hlen:∀i,J i=true->i < l.length) {n i:Nat} {fI:aM}:∀{s1 s2:List (Nat×aM)},QV l (s1++(i,fI)::s2)=true->((s1++(i,fI)::s2).map (·.1)).Nodup->J i=false->nu (sS J i) (hole n) (s1++(i,fI)::s2)=fI
 |s1,s2,h,hn,hi=>by
  have hl:=QW hJ hlen h hi;induction s1 with
  |nil=>simp [nu,sS]
  |cons x s1 ih=>
   simp only [eI,mT,mA] at hn;have hx:x.1≠i:=λe=>hn.1 (by simp [e])
   simp only [eI,nu];have:sS J i x.1=false:=by unfold sS;rw [cY hx];exact hl x (by simp)
   rw [this,cY (by simp)];exact ih (Vy h) hn.2 (λp hp=>hl p (by simp [hp]))
def Ef (P:Program) [aC P] (op:Oper) (m:List AV) (view:List aM) (pl:Nat) (val:AV) (fI:aM):Prop:=
 ∀(B:gN P) (t2:List AV) (o2:List aM),wk t2 m->Sub view o2->o2.length=view.length->Step P B op ⟨t2,o2⟩ ⟨sI t2 op.dst val,o2.set pl fI⟩
def Vz (P : Program) [aC P] (l : List Oper) (t : List AV) (b : List aM) (fl : List Tm) (j : Nat) (op : Oper) (vs : List AV) : Prop :=
  (∀ e ∈ pre op, e < j) /\
  (((∀ p ∈ fl, ∀ q ∈ p.st, q.1 ≠ j) /\ nI op.op ⟨oI j (pre op) 0 l (vs.take j) t, Iw j (pre op) fl b⟩ = true /\ ∃ x, (vs.getD j .undef = x \/ vs.getD j .undef = .undef) /\
      qR P l op ⟨oI j (pre op) 0 l (vs.take j) t, Iw j (pre op) fl b⟩ (λs' => s' = ⟨sI (oI j (pre op) 0 l (vs.take j) t) op.dst x, Iw j (pre op) fl b⟩)) \/
   (op.guard = none /\ ∃ p ∈ fl, ∃ s1 fI s2, p.st = s1 ++ (j, fI) :: s2 /\ Ef P op (oI j (pre op) 0 l (vs.take j) t) (Iw j (pre op) fl b) p.at_ (vs.getD j .undef) fI))
theorem ny {P:Program} [aC P] {id:Nat} {l:List Oper} {s:AS} {Q:Exit->AS->Prop} (fl:List Tm) {b:List aM} (vs:List AV) (hfw:MS l=true) (hdst:distinct l=true) (hfl:aHj l fl b.length=true)
  (hb0:zK (λ_=>false) fl b=s.o++(fl.map (·.n)).map λn=>⟨true,false,n,0,[]⟩)
  (hit:∀j op,l[j]? =some op->Vz P l s.t b fl j op vs) (hK:Q .normal ⟨iQ (λ_=>true) 0 l vs s.t,zK (λ_=>true) fl b⟩):tF P (.region id l.toArray true) s Q:=by
 simp only [aHj,eJ,fN,fS] at hfl;obtain ⟨⟨hnd,hsl⟩,aR8⟩:=hfl;have hs:∀q∈fl,q.at_ < b.length:=λq hq=>(hsl q hq).1.1.1
 have hsq:∀q∈fl,∀x∈q.st,x.1 < l.length:=λq hq=>(hsl q hq).2
 have hst:∀q∈fl,QV l q.st=true:=λq hq=>(hsl q hq).1.1.2
 have LM:∀q∈fl,(q.st.map (·.1)).Nodup:=λq hq=>(hsl q hq).1.2
 have aR9:∀p∈fl,∀p'∈fl,∀q∈p.st,∀q'∈p'.st,q.1=q'.1->p.at_=p'.at_:=by
  have:∀(fl:List Tm),(fl.flatMap λp=>p.st.map (·.1)).Nodup->∀p∈fl,∀p'∈fl,∀q∈p.st,∀q'∈p'.st,q.1=q'.1->p.at_=p'.at_:=by
   intro fl;induction fl with
   |nil=>intro _ p hp;cases hp
   |cons x fl ih=>
    intro hn p hp p' hp' q hq q' hq' e;simp only [flatMap_cons,gC] at hn;rcases lB.1 hp with e1|hp1<;>rcases lB.1 hp' with e2|UY
    .rw [e1,e2]
    .exfalso;rw [e1] at hq;exact hn.2.2 _ (Bx.2 ⟨q,hq,rfl⟩) _ (Fl.2 ⟨p',UY,Bx.2 ⟨q',hq',rfl⟩⟩) e
    .exfalso;rw [e2] at hq';exact hn.2.2 _ (Bx.2 ⟨q',hq',rfl⟩) _ (Fl.2 ⟨p,hp1,Bx.2 ⟨q,hq,rfl⟩⟩) e.symm
    .exact ih hn.2.1 p hp1 p' UY q hq q' hq' e
  exact this fl aR8
 unfold tF;have hrest:wW l l.length=true:=by unfold wW;rw [fS];intro i hi;simp at hi;simp only [AN,fN];exact .inl (by omega)
 refine YD (ops:=l.toArray) l.length (by simp) (by simpa using hfw) (by simpa using hrest) (λJ=>⟨iQ J 0 l vs s.t,zK J fl b⟩) ?_ ?_ ?_
 .have e1:∀(l:List Oper) (j:Nat) (vs t:List AV),iQ (λ_=>false) j l vs t=t:=by
   intro l;induction l with
   |nil=>intros;rfl
   |cons op r ih=>intro j vs t;simp only [iQ];rw [ih];unfold Aj;cases op.dst<;>simp
  rw [e1,hb0];exact λ_ _ _ _ _ r=>Ph _ r
 .intro i op him hi J hJ hJm hJi hpre;have hi':l[i]? =some op:=by simpa using hi
  have hJ':F9 l J:=by simpa using hJ
  have aJc:∀k,J k=true->k < l.length:=λk hk=>by
   rcases yW k l.length with h|h
   .exact h
   .rw [hJm k h] at hk;cases hk
  obtain ⟨aSa,hex⟩:=hit i op hi';have Vh:wk (iQ J 0 l vs s.t) (oI i (pre op) 0 l (vs.take i) s.t):=
   LC hJi (λe he=>⟨hpre e he,aSa e he⟩) l 0 vs (vs.take i) s.t s.t (λk q hk hJk=>hJ' k q hk (by simpa using hJk)) (λk hk=>by
    rw [iS,iS,AT];simp [show k < i by omega]) (lC _)
  have hsub:=aDh (J:=J) (i:=i) (pr:=pre op) hnd hs hJi hpre (λq hq s1 x s2 e hx=>QW hJ' aJc (by rw [<-e];exact hst q hq) hx);have aOv:∀v,vs.getD i .undef=v->iQ (sS J i) 0 l vs s.t=sI (iQ J 0 l vs s.t) op.dst v:=λv hv=>by
   have:=FZ l 0 i op vs s.t v hdst hi' (by simpa using hJi) hv
   rwa [hM] at this
  rcases hex with ⟨hnf,hq,x,hvx,hop⟩|⟨hg,p,hp,s1,fI,s2,aHm,LP⟩
  .left;obtain ⟨x',new',x2,rfl',hx2,_,hfin⟩:=Ce (o2:=zK J fl b) hq Vh hop hsub (.inl (by rw [Cg,Fj]));refine hfin _ ?_;have hset:new'=[]/\(sI (oI i (pre op) 0 l (vs.take i) s.t) op.dst x'=sI (oI i (pre op) 0 l (vs.take i) s.t) op.dst x):=by simp only [AS.mk.injEq] at rfl';refine ⟨?_,rfl'.1⟩;have:=An length rfl'.2;rw [eR] at this;exact lE (by omega)
   have hto:wk (sI (iQ J 0 l vs s.t) op.dst x2) (iQ (sS J i) 0 l vs s.t):=by
    rw [aOv _ rfl];have hL:=LB Vh;have yn:=hset.2;unfold sI at yn⊢;cases hd:op.dst with
    |none=>exact lC _
    |some d=>
     rw [hd] at yn;dsimp only at yn⊢;rcases yW d (iQ J 0 l vs s.t).length with hdl|hle
     .have hxx:x'=x:=by have h5:=An (λt=>t[d]?) yn;have aOw:d < (oI i (pre op) 0 l (vs.take i) s.t).length:=hL▸hdl;rw [mB aOw,mB aOw] at h5;exact cQ h5
      refine Qq d (lC _) ?_;rcases hvx with e|e
      .rw [e,<-hxx];assumption
      .exact .inr e
     .rw [By hle,By hle];exact lC _
   have BN:zK J fl b++new'=zK (sS J i) fl b:=by
    rw [hset.1,fX];refine Iy λp hp q hq=> ?_
    unfold sS;rw [cY (hnf p hp q hq)]
   rw [BN];exact vQ hto
  .right;refine ⟨hg,λB=> ?_⟩;have:=LP B _ _ Vh hsub (by rw [Cg,Fj]);have e:zK (sS J i) fl b=(zK J fl b).set p.at_ fI:=by
    refine BW λk=> ?_
    by_cases hk:∃q∈fl,q.at_=k
    .obtain ⟨q,hq,rfl⟩:=hk;rw [JW hnd hq (hs q hq)];by_cases hqp:q.at_=p.at_
     .have aSb:q=p:=Ga (·.at_) fl hnd q p hq hp hqp;subst aSb;rw [mB (by rw [Cg];exact hs q hq),aHm];rw [aHl hJ' aJc (by rw [<-aHm];exact hst q hq) (by rw [<-aHm];exact LM q hq) hJi]
     .rw [lA (λe=>hqp e.symm),JW hnd hq (hs q hq)]
      have:∀st:List (Nat×aM),(∀x∈st,x.1≠i)->nu (sS J i) (hole q.n) st=nu J (hole q.n) st:=by
       intro st;induction st with
       |nil=>intros;rfl
       |cons x r ih=>
        intro h;have hx:sS J i x.1=J x.1:=by unfold sS;rw [cY (h x (by simp))]
        simp only [nu];rw [hx,ih λy hy=>h y (by simp [hy])]
      rw [this q.st λx hx e=>hqp (aR9 q hq p hp x hx (i,fI) (by rw [aHm];simp) e)]
    .have hk':∀q∈fl,q.at_≠k:=λq hq e=>hk ⟨q,hq,e⟩
     rw [JV hk',lA (hk' p hp),JV hk']
   rw [aOv _ rfl,e];exact this
 .intro J hJ hJm hor;left;have hsz:l.toArray.size=l.length:=by simp
  have hall:∀i,i < l.length->J i=true:=by
   intro i hi;rcases hor with h|⟨op,hop,_⟩
   .exact h i (by omega)
   .have:=(cH.1 hop).1;simp at this
  rw [hsz];have e3:(range l.length).map J=replicate l.length true:=by
   refine BW λi=> ?_
   rw [sY,getElem?_replicate];by_cases hi:i < l.length
   .simp [hi,hall i hi]
   .simp [hi]
  have e4:left (replicate l.length true)=0:=by
   unfold left;rw [filter_eq_nil_iff.2]
   .rfl
   .intro x hx;rw [(mem_replicate.1 hx).2];simp
  rw [e3,e4];simp only [zH];have e5:iQ J 0 l vs s.t=iQ (λ_=>true) 0 l vs s.t:=Ca l 0 vs s.t λk hk=>by rw [hM];exact hall k hk
  have e6:zK J fl b=zK (λ_=>true) fl b:=Iy λp hp q hq=>hall _ (hsq p hp q hq)
  rw [e5,e6];exact hK
theorem N8 {x:AV} (h:x.iE=true):x≠ .undef:=by rintro rfl;simp [AV.iE] at h
theorem aLb {P:Program} [aC P] {dst:Option Tmp} {ty:TypeId} {pos:String} {after:Array Edge} {gd:Option (Nat×Bool)} {m:List AV} {view:List aM} {pl:Nat} {T:TypeId} {len:Nat} {parts:Array (Nat×Operand)} {e:TypeId} {n by':Nat} {xs:List AV}
  (he:iC P T=some (e,n,by')) (hz:bT P e n=true) (Lc:vL parts.toList=true) (hlen:len=parts.toList.length) (hbig:len * n<=16777216) (hbig2:len<=16777216)
  (hxs:(parts.toList.map (·.2)).map (AS.ev ⟨m,view⟩)=xs) (hpl:∀x∈xs,x.iE=true) (hgood:∀x∈xs,x.yA=true/\x.cells.length=n) (hv:view[pl]? =some (hole n)):
  Ef P ⟨dst,.buildSlice T len parts,ty,pos,after,gd⟩ m view pl (.obj pl 1) ⟨true,false,n,1,xs.map AV.cells⟩:=by
 intro B t2 o2 hw hs _;have e2:(parts.toList.map (·.2)).map (AS.ev ⟨t2,o2⟩)=xs:=by
  have key:∀(l:List Operand) (xs:List AV),l.map (AS.ev ⟨m,view⟩)=xs->(∀x∈xs,x.iE=true)->l.map (AS.ev ⟨t2,o2⟩)=xs:=by
   intro l;induction l with
   |nil=>intro xs h _;exact h
   |cons a l ih=>
    intro xs h hp;cases xs with
    |nil=>cases h
    |cons x xs=>simp only [mT,List.cons.injEq] at h⊢;exact ⟨BV hw h.1 (N8 (hp x (by simp))),ih xs h.2 λy hy=>hp y (by simp [hy])⟩
  exact key _ _ hxs hpl
 have ho:o2[pl]? =some ⟨true,false,n,0,[]⟩:=hs pl _ hv rfl;have:=nk (P:=P) (B:=B) (s:=⟨t2,o2⟩) (dst:=dst) (ty:=ty) (pos:=pos) (after:=after) (gd:=gd) T len parts (i:=pl) he hz Lc hlen hbig hbig2 (by rw [e2];exact hpl) (by rw [e2];exact hgood) ho;rw [e2,put_eq] at this;exact this
theorem N9 {P:Program} [aC P] {dst:Option Tmp} {ty:TypeId} {pos:String} {after:Array Edge} {gd:Option (Nat×Bool)} {m:List AV} {view:List aM} {pl v:Nat} {x y:Operand} {tS xT:TypeId} {e:TypeId} {n by':Nat} {ob:aM} {l2:List (List AV)}
  (he:iC P tS=some (e,n,by')) (hz:bT P e n=true) (hxt:eT P xT=true) (hx:AS.ev ⟨m,view⟩ x= .obj pl v) (hv:view[pl]? =some ob) (uX:ob.live=true/\ob.bY=v/\ob.box=false/\ob.n=n)
  (hy:AS.ev ⟨m,view⟩ y= .sl .view n l2) (hbytes:(ob.dR.length+l2.length) * by'<=140737488355328) (h63:ob.dR.length+l2.length<=9223372036854775807):
  Ef P ⟨dst,.call {callee:= .builtin .append,args:=#[x,y],argTypes:=#[tS,xT]},ty,pos,after,gd⟩ m view pl (.obj pl (v+1)) {ob with bY:=v+1,dR:=ob.dR++l2}:=by
 intro B t2 o2 hw hs _;have ho:o2[pl]? =some ob:=hs pl _ hv uX.1;have hx2:AS.ev ⟨t2,o2⟩ x= .obj pl v:=BV hw hx (by simp);have hy2:AS.ev ⟨t2,o2⟩ y= .sl .view n l2:=BV hw hy (by simp);have EF:AV.isObj o2 pl v=some ob:=by simp [AV.isObj,ho,uX.1,uX.2.1]
 have:=step_append (P:=P) (B:=B) (s:=⟨t2,o2⟩) (dst:=dst) (ty:=ty) (pos:=pos) (after:=after) (gd:=gd) tS xT x y (i:=pl) (ob:=ob) (s1:=⟨t2,o2⟩) (l2:=l2) (o2:=o2) he hz hxt
  (by rw [hx2];simp only [AS.target,EF,uX.2.2.1,uX.2.2.2,Fo,gE]) (by rw [hy2];simp only [AS.source,gE]) hbytes h63
 simp only [AS.wT,put_eq,uX.2.1] at this;exact this
theorem Ch {P:Program} [aC P] {dst:Option Tmp} {ty:TypeId} {pos:String} {after:Array Edge} {gd:Option (Nat×Bool)} {m:List AV} {view:List aM} {pl:Nat} {T:TypeId} {len:Nat} {parts:Array (Nat×Operand)} {e:TypeId} {n by':Nat} {xs:List AV} {dR:List (List AV)}
  (he:iC P T=some (e,n,by')) (hz:bT P e n=true) (Lc:vL parts.toList=true) (hlen:len=parts.toList.length) (hbig:len * n<=16777216) (hbig2:len<=16777216)
  (hxs:(parts.toList.map (·.2)).map (AS.ev ⟨m,view⟩)=xs) (hpl:∀x∈xs,x.iE=true) (hgood:∀x∈xs,x.yA=true/\x.cells.length=n) (hv:view[pl]? =some (hole n)) (hels:xs.map AV.cells=dR):
  Ef P ⟨dst,.buildSlice T len parts,ty,pos,after,gd⟩ m view pl (.obj pl 1) ⟨true,false,n,1,dR⟩:=by
 subst hels;exact aLb he hz Lc hlen hbig hbig2 hxs hpl hgood hv
theorem yH {P:Program} [aC P] {dst:Option Tmp} {ty:TypeId} {pos:String} {after:Array Edge} {gd:Option (Nat×Bool)} {m:List AV} {view:List aM} {pl v v':Nat} {x y:Operand} {tS xT:TypeId} {e:TypeId} {n by':Nat} {dR els':List (List AV)} {l2:List (List AV)}
  (hx:AS.ev ⟨m,view⟩ x= .obj pl v) (hvv:v+1=v') (hv:view[pl]? =some ⟨true,false,n,v,dR⟩) (hy:AS.ev ⟨m,view⟩ y= .sl .view n l2) (hels:dR++l2=els')
  (he:iC P tS=some (e,n,by')) (hz:bT P e n=true) (hxt:eT P xT=true) (hbytes:(dR.length+l2.length) * by'<=140737488355328) (h63:dR.length+l2.length<=9223372036854775807):
  Ef P ⟨dst,.call {callee:= .builtin .append,args:=#[x,y],argTypes:=#[tS,xT]},ty,pos,after,gd⟩ m view pl (.obj pl v') ⟨true,false,n,v',els'⟩:=by
 subst hels;subst hvv;exact N9 he hz hxt hx hv ⟨rfl,rfl,rfl,rfl⟩ hy hbytes h63
def nz (P:Program) [aC P] (l:List Oper) (t:List AV) (b:List aM) (fl:List Tm) (K:AS->Prop):Nat->List Oper->List AV->Prop
 |_,[],vs=>K ⟨iQ (λ_=>true) 0 l vs t,zK (λ_=>true) fl b⟩
 |j,op::r,vs=>∃x,Vz P l t b fl j op (vs++[x])/\nz P l t b fl K (j+1) r (vs++[x])
theorem Zo {P:Program} [aC P] {l:List Oper} {t:List AV} {b:List aM} {fl:List Tm} {j:Nat} {op:Oper} {vs vs':List AV} (h:Vz P l t b fl j op vs) (h1:vs.take j=vs'.take j) (h2:vs.getD j .undef=vs'.getD j .undef):Vz P l t b fl j op vs':=by unfold Vz at h⊢;rw [h1,h2] at h;exact h
theorem yo {P:Program} [aC P] {l:List Oper} {t:List AV} {b:List aM} {fl:List Tm} {K:AS->Prop}:∀(r:List Oper) (j:Nat) (vs:List AV),l.drop j=r->vs.length=j->nz P l t b fl K j r vs->
  ∃vf,vf.take j=vs/\(∀k op,j<=k->l[k]? =some op->Vz P l t b fl k op vf)/\K ⟨iQ (λ_=>true) 0 l vf t,zK (λ_=>true) fl b⟩
 |[],j,vs,hd,hl,h=>by refine ⟨vs,cX (by omega),λk op hk hop=> ?_,h⟩;have h1:=(cH.1 hop).1;have h2:=An length hd;simp at h2;omega
 |op::r,j,vs,hd,hl,h=>by
  simp only [nz] at h;obtain ⟨x,hi,h⟩:=h;have hd':l.drop (j+1)=r:=by rw [<-At,hd];rfl
  have hop:l[j]? =some op:=by have:=An (·[0]?) hd;simpa using this
  obtain ⟨vf,h1,h2,h3⟩:=yo r (j+1) (vs++[x]) hd' (by simp [hl]) h;refine ⟨vf,?_,λk op' hk hop'=> ?_,h3⟩
  .have:=An (List.take j) h1;rw [take_take] at this;rw [DA (by omega)] at this;rw [this,Bs (by omega),cX (by omega)]
  .rcases yW j k with hlt|hge
   .exact h2 k op' hlt hop'
   .obtain rfl:j=k:=by omega
    rw [hop] at hop';obtain rfl:=cQ hop';refine Zo hi ?_ ?_
    .have:=An (List.take j) h1;rw [take_take,DA (by omega)] at this;rw [this]
    .have:=An (·[j]?) h1;simp only [AT] at this;rw [eK (by omega)] at this;rw [iS,iS,this]
@[irreducible] def Zp {α:Type} (x:α):α:=x
theorem xA {α:Type} (x:α):Zp x=x:=by unfold Zp;rfl
def zL (f:Nat->Bool):Code->Code
 | .region id ops true=>if f id then .region id (Zp ops) true else .region id ops true
 | .region id ops false=>if f id then Zp (.region id ops false) else .region id ops false
 | .seq x y=> .seq (zL f x) (zL f y)
 | .cond c x y=> .cond c (zL f x) (zL f y)
 | .block id c=> .block id (zL f c)
 | .loop c=> .loop (zL f c)
 |c=>c
theorem zM (f:Nat->Bool):∀c:Code,zL f c=c
 | .region id ops true=>by simp only [zL];split<;>simp [xA]
 | .region id ops false=>by simp only [zL];split<;>simp [xA]
 | .seq x y=>by simp [zL,zM f x,zM f y]
 | .cond c x y=>by simp [zL,zM f x,zM f y]
 | .block id c=>by simp [zL,zM f c]
 | .loop c=>by simp [zL,zM f c]
 | .skip=>rfl
 | .exit _=>rfl
 | .ret=>rfl
 | .rangeFunc _ _ _ _=>rfl
 | .scope _=>rfl
 | .label _=>rfl
 | .goto _=>rfl
 | .refuse _=>rfl
theorem tX {P:Program} [aC P] (hm:P.follows .mixedOrders=true) {f:FuncId} {fn:Func} {c c':Code} (L:List Nat) (hf:P.funcs[f]? =some fn) {n:Nat} (hn:fn.ntmps=n) {args t:List AV} {rr:AV}
  (h:tF P c' ⟨t,[]⟩ (λe s=>(e= .normal\/e= .ret)/\aG P fn s rr)) (hb:fn.body=some c:=by rfl)
  (hc:zL (λi=>L.contains i) c=c':=by simp [zL];rfl)
  (ht:args++replicate (n - args.length) .undef=t:=by
   simp only [eL,eW,Nat.reduceSub,Nat.reduceAdd,pD,BT,eI,eN];rfl):Ok P f args rr:=by
 subst ht;subst hn;subst hc;rw [zM] at h;exact UL hm hf hb h
theorem go_weak {P:Program} [aC P] {id:Nat} {l:List Oper} {s s2:AS} {Q:Exit->AS->Prop} (hw:mK s s2) (h:tF P (.region id l.toArray false) s2 Q):tF P (Zp (.region id l.toArray false)) s Q:=by rw [xA];exact iw hw h
theorem go_drawn3 {P:Program} [aC P] {id:Nat} {l:List Oper} {s:AS} {Q:Exit->AS->Prop} (fl:List Tm) {b:List aM} (hb:s.o++(fl.map (·.n)).map (λn=>⟨true,false,n,0,[]⟩)=b) (hfw:MS l=true) (hdst:distinct l=true) (hfl:aHj l fl b.length=true)
  (hb0:zK (λ_=>false) fl b=b) (h:nz P l s.t b fl (Q .normal) 0 l []):tF P (.region id (Zp l.toArray) true) s Q:=by
 rw [xA];obtain ⟨vf,_,h2,h3⟩:=yo l 0 [] rfl rfl h;exact ny fl vf hfw hdst hfl (by rw [hb0,hb]) (λj op hop=>h2 j op (Nat.zero_le _) hop) h3
section
variable {P : Program} [aC P] {l : List Oper} {t : List AV} {b : List aM} {fl : List Tm} {K : AS -> Prop} {j : Nat} {op : Oper} {r : List Oper} {vs : List AV} {pr : List Nat} {m : List AV} {om : List aM}
theorem WY {t':List AV} {o':List aM} (h1:iQ (λ_=>true) 0 l vs t=t') (h2:zK (λ_=>true) fl b=o') (h:K ⟨t',o'⟩):nz P l t b fl K j [] vs:=by simp only [nz,h1,h2];exact h
theorem OL {vs':List AV} {c:Prop} (hc:c) (hv:vs=vs') (hd:nz P l t b fl K j r vs'):c/\nz P l t b fl K j r vs:=by subst hv;exact ⟨hc,hd⟩
theorem OM (hg:op.guard=none) (hnf:(fl.all λp=>p.st.all λq=>decide (q.1≠j))=true) (hpr:pre op=pr) (hlt:(pr.all λe=>decide (e < j))=true) (hm:oI j pr 0 l vs t=m) (ho:Iw j pr fl b=om) (hq:nI op.op ⟨m,om⟩=true) (hvl:vs.length=j) (hdl:(match op.dst with|some d=>decide (d < m.length)|none=>true)=true)
  (ha:Nx 2 P op ⟨m,om⟩ λs'=>s'.o.length=om.length/\nz P l t b fl K (j+1) r (vs++[Fa op s'])):nz P l t b fl K j (op::r) vs:=by
 have hst:qR P l op ⟨m,om⟩ λs'=>s'.o.length=om.length/\nz P l t b fl K (j+1) r (vs++[Fa op s']):=by
  unfold qR;simp only [hg];unfold Nx at ha;rcases ha with ha|ha
  .exact .inl ha
  .rcases ha with ha|ha
   .exact absurd ha.1 (by decide)
   .exact .inr ha.2
 obtain ⟨x,new,x2,⟨hlen,hK⟩,hx,_,hfin⟩:=Ce (t2:=m) (o2:=om) hq (lC _) hst (λi ob h _=>h) (.inl rfl);have hnew:new=[]:=by rw [eR] at hlen;exact lE (by omega)
 subst hnew;rw [fX] at hK;simp only [nz];refine ⟨_,?_,hK⟩;have htk:(vs++[Fa op ⟨sI m op.dst x,om⟩]).take j=vs:=by rw [Bs (by omega),cX (by omega)]
 have hgd:(vs++[Fa op ⟨sI m op.dst x,om⟩]).getD j .undef=Fa op ⟨sI m op.dst x,om⟩:=by rw [iS,hY (by omega),hvl,xF];rfl
 refine ⟨λe he=>by rw [hpr] at he;have:=fS.1 hlt e he;simpa using this,.inl ⟨λp hp q hq=> ?_,?_,x2,?_,?_⟩⟩
 .have:=fS.1 (fS.1 hnf p hp) q hq;simpa using this
 .rw [htk,hpr,hm,ho];exact hq
 .rw [hgd];unfold Fa sI;cases hd:op.dst with
  |none=>exact .inr rfl
  |some d=>
   rw [hd] at hdl;have hdl:d < m.length:=by simpa using hdl
   dsimp only;rw [iS,mB hdl];exact hx
 .rw [htk,hpr,hm,ho];exact hfin _ (by rw [fX])
theorem nN {v:AV} {fI:aM} (p:Tm) (s1 s2:List (Nat×aM)) (hg:op.guard=none) (hp:p∈fl) (hst:p.st=s1++(j,fI)::s2) (hpr:pre op=pr) (hlt:(pr.all λe=>decide (e < j))=true) (hm:oI j pr 0 l vs t=m) (ho:Iw j pr fl b=om) (hvl:vs.length=j)
  (ha:Ef P op m om p.at_ v fI) (h:nz P l t b fl K (j+1) r (vs++[v])):nz P l t b fl K j (op::r) vs:=by
 simp only [nz];refine ⟨v,?_,h⟩;have htk:(vs++[v]).take j=vs:=by rw [Bs (by omega),cX (by omega)]
 have hgd:(vs++[v]).getD j .undef=v:=by rw [iS,hY (by omega),hvl,xF];rfl
 refine ⟨λe he=>by rw [hpr] at he;have:=fS.1 hlt e he;simpa using this,.inr ⟨hg,p,hp,s1,fI,s2,hst,?_⟩⟩;rw [htk,hgd,hpr,hm,ho];exact ha
end
attribute [simp] zK Iw nu vst hole aDg aHj QV
def sP (P:Program) (fn:Func) (s:AS) (r:AV):Prop:=
 ∃ys,s.zC P fn.results.toList=some ys/\jM s.o (single ys)=true/\(lU (single ys)).Nodup/\res s.o (single ys)=r
def OZ (P:Program) (fn:Func) (s:AS) (r:AV):Prop:=
 ∃i ys,s.AU P fn.results.toList=some (i,ys)/\jM s.o (single ys)=true/\(lU (single ys)).Nodup/\i∉lU (single ys)/\res s.o (single ys)=r
theorem uC {P:Program} {fn:Func} {s:AS} {r:AV} (h:match s.AU P fn.results.toList with|some (i,ys)=>jM s.o (single ys)=true/\(lU (single ys)).Nodup/\i∉lU (single ys)/\res s.o (single ys)=r|none=>False):OZ P fn s r:=by
 unfold OZ;split at h
 .rename_i i ys hx;exact ⟨i,ys,hx,h⟩
 .exact h.elim
theorem sj {P:Program} [aC P] (hm:P.follows .mixedOrders=true) {f:FuncId} {fn:Func} {c:Code} (hf:P.funcs[f]? =some fn) (hb:fn.body=some c) {args:List AV} {rr:AV} (aEf:Ie args=true)
  (h:tF P c ⟨args++replicate (fn.ntmps - args.length) .undef,[]⟩ (λe s=>(e= .normal\/e= .ret)/\(sP P fn s rr\/OZ P fn s rr))):Ok P f args rr:=by
 intro w vs hg hargs;have hl:=gG hargs;have r0:eP ⟨w,λ_=>False,λ_=>False,λ_=>none,λ_=>none,hg,λ_ h=>h.elim,λ_ h=>h.elim⟩ ⟨args++replicate (fn.ntmps - args.length) .undef,[]⟩ [] {tmps:=vs.toArray++Array.replicate (fn.ntmps - vs.toArray.size) Go.undef,defers:=[]} w:=by
  refine ⟨rfl,rfl,λi ob g hl=>by simp [look] at hl,λi j oi oj gi gj b hl=>by simp [look] at hl,λi ob g b hl=>by simp [look] at hl,?_,eE _,λ_ _ _=>rfl,λb hb=>hb.elim,nG.rfl⟩;have h1:Rc w (env ⟨w,λ_=>False,λ_=>False,λ_=>none,λ_=>none,hg,λ_ h=>h.elim,λ_ h=>h.elim⟩ [] [] w) args vs []:=Ig _ _ _ aEf hargs;have h2:∀n,Rc w (env ⟨w,λ_=>False,λ_=>False,λ_=>none,λ_=>none,hg,λ_ h=>h.elim,λ_ h=>h.elim⟩ [] [] w) (replicate n .undef) (replicate n Go.undef) []:=by
   intro n;induction n with
   |zero=>simp [Rc]
   |succ n ih=>simp only [pD,Rc];exact ⟨[],[],by simp [R],ih,rfl⟩
  have:=mF h1 (h2 (fn.ntmps - args.length));simpa [hl] using this
 refine calls_of_wp hf hb (wp_mono (qP hm c _ _ h _ _ ⟨_,r0⟩) λe a w' he=> ?_);obtain ⟨s,⟨he,ng⟩,G,r⟩:=he;have key:∃(v:Value) (fp:List Nat),(results fn a.tmps).run P w'= .ok v w'/\R w' (env ⟨w,λ_=>False,λ_=>False,λ_=>none,λ_=>none,hg,λ_ h=>h.elim,λ_ h=>h.elim⟩ s.o G w').plain rr v fp/\fp.Nodup/\∀b∈fp,∃j ob g,look s.o G j ob g/\ob.live=true/\g.F b:=by
  rcases ng with ⟨ys,iq,wC,hu,jK⟩|⟨i,ys,iq,wC,hu,hi,jK⟩
  .obtain ⟨v,hrun,hR⟩:=zD r iq;obtain ⟨fp,h1,h2,h3⟩:=Jl r _ v wC hu hR;rw [jK] at h1;exact ⟨v,fp,hrun,h1,h2,λb hb=>by obtain ⟨i,ob,g,_,h⟩:=h3 b hb;exact ⟨i,ob,g,h⟩⟩
  .obtain ⟨v,fp0,ob,g,hlk,hlive,hrun,hR,hnd,hF⟩:=JO r iq;obtain ⟨fp,h1,h2,h3⟩:=gu r hlk hlive _ v fp0 wC hu hi hnd hF hR;rw [jK] at h1;refine ⟨v,fp,hrun,h1,h2,λb hb=> ?_⟩;rcases h3 b hb with h|⟨j,fI,g',_,h⟩
   .exact ⟨i,ob,g,hlk,hlive,hF b h⟩
   .exact ⟨j,fI,g',h⟩
 obtain ⟨v,fp,hrun,h1,h2,h3⟩:=key;have hfin:∃v' fp,Ending.returned v= .returned v'/\R w' (Ba w.heap.size w' fp) rr v' fp/\fp.Nodup/\(∀b∈fp,w.heap.size<=b/\b < w'.heap.size)/\w.heap.size<=w'.heap.size/\(∀b,b < w.heap.size->w'.heap[b]? =w.heap[b]?)/\nG w w':=by
  refine ⟨v,fp,rfl,?_,h2,λb hb=> ?_,r.size,λb hb=>r.frame b hb (λh=>h),r.same⟩
  .have k:fA w' (env ⟨w,λ_=>False,λ_=>False,λ_=>none,λ_=>none,hg,λ_ h=>h.elim,λ_ h=>h.elim⟩ s.o G w').plain w' (Ba w.heap.size w' fp):=
    ⟨λb hb=>⟨⟨(hb.1.resolve_left (λh=>h)).1,(hb.1.resolve_left (λh=>h)).2,λhm=>by
     obtain ⟨j,ob,g,hl,hlive,hF⟩:=h3 b hm;exact hb.2 j ob g hl hlive hF⟩,rfl⟩,λ_ _=>trivial,λ_ _ _ h=>h.elim,λ_ _ _ h=>h.elim,λ_ _ _ _ _ h=>h.elim⟩
   exact oN k _ _ _ (λ_ _=>rfl) h1
  .obtain ⟨i,ob,g,hl,hlive,hF⟩:=h3 b hb;have:=r.fresh _ _ _ b hl hlive hF;exact ⟨this.1.resolve_left (λh=>h),this.2⟩
 rcases he with rfl|rfl
 .exact ⟨r.defs,v,hrun,hfin⟩
 .exact ⟨r.defs,v,hrun,hfin⟩
theorem af {P:Program} [aC P] (hm:P.follows .mixedOrders=true) {f:FuncId} {fn:Func} {c:Code} (hf:P.funcs[f]? =some fn) {n:Nat} (hn:fn.ntmps=n) {args t:List AV} {rr:AV}
  (h:tF P c ⟨t,[]⟩ (λe s=>(e= .normal\/e= .ret)/\(sP P fn s rr\/OZ P fn s rr))) (hb:fn.body=some c:=by rfl) (aEf:Ie args=true:=by simp [Ie,tJ])
  (ht:args++replicate (n - args.length) .undef=t:=by
   simp only [eL,eW,Nat.reduceSub,Nat.reduceAdd,pD,BT,eI,eN];rfl):Ok P f args rr:=by
 subst ht;subst hn;exact sj hm hf hb aEf h
theorem Ok.vw {P:Program} [aC P] {f:FuncId} {args:List AV} {r:AV} (h:Ok P f args r):Ok P f args (rt (λ_=>some .view) false r):=by
 intro w vs hg hr;refine Calls.mono (h w vs hg hr) λe w' he=> ?_
 obtain ⟨v,fp,rfl,h1,h2,h3,h4,h5,h6⟩:=he;have k:mV (λ_=>some .view) false (Ba w.heap.size w' fp) (Ba w.heap.size w' []) (· ∈fp):=
  {own:=λg e=>by obtain rfl:=cQ e;exact ⟨by simp,λb hb=>⟨(h3 b hb).1,(h3 b hb).2,by simp⟩⟩
   view:=λg e=>by obtain rfl:=cQ e;exact ⟨rfl,λb hb=>⟨hb.1,hb.2.1,by simp⟩⟩
   jZ:=λi g e=>by obtain rfl:=cQ e;exact ⟨by simp,.inl trivial,λb hb=>hb.elim⟩
   hh:=λh=>by cases h
   hl:=λh=>by cases h}
 exact ⟨v,[],rfl,aM7 k r v fp (λ_ h=>h) h1,by simp,by simp,h4,h5,h6⟩
theorem Ok.aEg {P:Program} [aC P] {f:FuncId} {args:List AV} {r r':AV} (h:Ok P f args r) (e:rt (λ_=>some .view) false r=r'):Ok P f args r':=e▸h.vw
def swp (i j k:Nat):Nat:=if k=i then j else if k=j then i else k
theorem JX (i j k:Nat):swp i j (swp i j k)=k:=by unfold swp;split<;>split<;>(try split)<;>omega
def Dh (i j k:Nat):Prop:=k=i\/k=j
instance (i j k : Nat) : Decidable (Dh i j k) := by unfold Dh; infer_instance
theorem WZ {i j k:Nat} (h:¬Dh i j k):swp i j k=k:=by unfold Dh at h;unfold swp;rw [cY (λe=>h (.inl e)),cY (λe=>h (.inr e))]
def gsw (i j:Nat):Tg->Tg
 | .jZ k=> .jZ (swp i j k)
 |g=>g
mutual
def mG (i j:Nat):AV->AV
 | .obj k v=>if Dh i j k then (if v=0 then .undef else .obj (swp i j k) v) else .obj k v
 | .ptr k v idx off=>if Dh i j k then .undef else .ptr k v idx off
 | .sl g n l=> .sl (gsw i j g) n (qX i j l)
 | .gD g c off=> .gD (gsw i j g) (qK i j c) off
 | .agg c=> .agg (qK i j c)
 | .iJ c=> .iJ (qK i j c)
 | .fn f c=> .fn f (qK i j c)
 | .int k n=> .int k n
 | .bool b=> .bool b
 | .str s=> .str s
 | .undef=> .undef
def qK (i j:Nat):List AV->List AV
 |[]=>[]
 |x::xs=>mG i j x::qK i j xs
def qX (i j:Nat):List (List AV)->List (List AV)
 |[]=>[]
 |x::xs=>qK i j x::qX i j xs
end
theorem zN (i j:Nat):∀l,(qX i j l).length=l.length
 |[]=>rfl
 |_::l=>by simp [qX,zN i j l]
structure Ren (i j : Nat) (E E' : Env) : Prop where
  a : ∀ b, E.A b -> E'.A b
  v : ∀ k, E'.V (swp i j k) -> E.V k
  d : ∀ k b, E.D k b -> E'.D (swp i j k) b
  h : ∀ k bY x, (Dh i j k -> bY ≠ 0) -> E.H k bY x -> E'.H (swp i j k) bY x
  l : ∀ k bY idx off x, ¬ Dh i j k -> E.L k bY idx off x -> E'.L k bY idx off x
theorem Ren.plain {i j:Nat} {E E':Env} (k:Ren i j E E'):Ren i j E.plain E'.plain:=
 ⟨k.a,λ_ _=>trivial,λ_ _ h=>h.elim,λ_ _ _ _ h=>h.elim,λ_ _ _ _ _ _ h=>h.elim⟩
theorem Ren.sub {i j:Nat} {E E':Env} (k:Ren i j E E') (g:Tg):Ren i j (E.sub g) (E'.sub (gsw i j g)):=by
 cases g with
 |own=>exact k.plain
 |view=>exact k.plain
 |jZ q=>exact ⟨k.a,λ_ _=>trivial,λr b h=>⟨by rw [h.1],k.d _ _ h.2⟩,λ_ _ _ _ h=>h.elim,λ_ _ _ _ _ _ h=>h.elim⟩
theorem Ren.dead {i j:Nat} {E E':Env} (k:Ren i j E E') {g:Tg} (h:E.dead g):E'.dead (gsw i j g):=by
 cases g with
 |own=>exact h
 |view=>exact h
 |jZ q=>exact λhv=>h (k.v q hv)
theorem Ren.tg {i j:Nat} {E E':Env} (k:Ren i j E E') {g:Tg} {b:Nat} (h:E.tg g b):E'.tg (gsw i j g) b:=by
 cases g with
 |own=>exact h
 |view=>exact k.a b h
 |jZ q=>exact k.d q b h
theorem Xa {i j:Nat} {g:Tg}:gsw i j g= .own↔g= .own:=by cases g<;>simp [gsw]
mutual
theorem aOy {w:World} {i j:Nat} {E E':Env} (k:Ren i j E E'):∀(x:AV) (v:Value) (fp:List Nat),R w E x v fp->R w E' (mG i j x) v fp
 | .obj q u,v,fp,h=>by
  simp only [mG];simp only [R] at h;by_cases hm:Dh i j q
  .rw [eK hm];by_cases hu:u=0
   .rw [eK hu];simp only [R];exact h.1
   .rw [cY hu];simp only [R];exact ⟨h.1,k.h _ _ _ (λ_=>hu) h.2⟩
  .rw [cY hm];simp only [R];have:=k.h q u v (λhm'=>absurd hm' hm) h.2;rw [WZ hm] at this;exact ⟨h.1,this⟩
 | .ptr q u idx off,v,fp,h=>by
  simp only [mG];simp only [R] at h;by_cases hm:Dh i j q
  .rw [eK hm];simp only [R];exact h.1
  .rw [cY hm];simp only [R];exact ⟨h.1,k.l _ _ _ _ _ hm h.2⟩
 | .sl g n l,v,fp,h=>by
  simp only [mG,R,zN] at h⊢;rcases h with h|⟨a,cap,hv,hl,h⟩
  .exact .inl ⟨k.dead h.1,h.2⟩
  refine .inr ⟨a,cap,hv,hl,?_⟩;rcases h with ⟨hg,hl0,h1,h2⟩|⟨hg,b,off,C,e,fz,pX,ha,hb,hz,h1,h2,h3,Jh,hr⟩|⟨hg,Jh,h⟩
  .exact .inl ⟨Xa.2 hg,by rw [hl0];rfl,h1,h2⟩
  .exact .inr (.inl ⟨Xa.2 hg,b,off,C,e,fz,pX,ha,hb,hz,h1,h2,h3,Jh,Xb (k.sub g) _ _ _ _ _ hr⟩)
  .refine .inr (.inr ⟨λe=>hg (Xa.1 e),Jh,?_⟩)
   rcases h with rfl|⟨b,off,ha,ht,hr⟩
   .exact .inl rfl
   .exact .inr ⟨b,off,ha,k.tg ht,Xb (k.sub g) _ _ _ _ _ hr⟩
 | .gD g c off,v,fp,h=>by
  simp only [mG,R] at h⊢;rcases h with h|⟨Jh,b,o,cs,hv,ht,hcs,hc,hr⟩
  .exact .inl ⟨k.dead h.1,h.2⟩
  .exact .inr ⟨Jh,b,o,cs,hv,k.tg ht,hcs,hc,Iz (k.sub g) _ _ _ hr⟩
 | .agg c,v,fp,h=>by simp only [mG,R] at h⊢;obtain ⟨cs,h1,h2,h3⟩:=h;exact ⟨cs,h1,h2,Iz k c cs fp h3⟩
 | .iJ c,v,fp,h=>by simp only [mG,R] at h⊢;obtain ⟨cs,h1,h3⟩:=h;exact ⟨cs,h1,Iz k c cs fp h3⟩
 | .fn f c,v,fp,h=>by simp only [mG,R] at h⊢;obtain ⟨h0,cs,h1,h3⟩:=h;exact ⟨h0,cs,h1,Iz k c cs [] h3⟩
 | .int _ _,v,fp,h=>by simpa [mG,R] using h
 | .bool _,v,fp,h=>by simpa [mG,R] using h
 | .str _,v,fp,h=>by simpa [mG,R] using h
 | .undef,v,fp,h=>by simpa [mG,R] using h
theorem Iz {w:World} {i j:Nat} {E E':Env} (k:Ren i j E E'):∀(c:List AV) (cs:List Value) (fp:List Nat),Rc w E c cs fp->Rc w E' (qK i j c) cs fp
 |[],[],_,h=>by simpa [Rc,qK] using h
 |[],_::_,_,h=>by simp [Rc] at h
 |_::_,[],_,h=>by simp [Rc] at h
 |x::xs,c::cs,fp,h=>by simp only [Rc,qK] at h⊢;obtain ⟨f1,f2,h1,h2,h3⟩:=h;exact ⟨f1,f2,aOy k x c f1 h1,Iz k xs cs f2 h2,h3⟩
theorem Xb {w:World} {i j:Nat} {E E':Env} (k:Ren i j E E'):∀(l:List (List AV)) (b off n:Nat) (fp:List Nat),Rr w E l b off n fp->Rr w E' (qX i j l) b off n fp
 |[],_,_,_,_,h=>by simpa [Rr,qX] using h
 |e::es,b,off,n,fp,h=>by simp only [Rr,qX] at h⊢;obtain ⟨cs,f1,f2,h1,h2,h3,h4,h5,h6⟩:=h;exact ⟨cs,f1,f2,h1,h2,h3,Iz k e cs f1 h4,Xb k es b (off+n) n f2 h5,h6⟩
end
def aM.mG (i j:Nat) (ob:aM):aM:=if ob.box=true then {ob with dR:=qX i j ob.dR} else ob
def swo (i j:Nat) (o:List aM):List aM:=(range o.length).map λk=>((o[swp i j k]?).getD ⟨false,false,0,0,[]⟩).mG i j
theorem uW.ren {w:World} {i j:Nat} {E E':Env} {n:Nat} {l:List (List AV)} {a:Option Addr} {cap:Nat} {fp:List Nat} (k:Ren i j E E') (h:uW w E n l a cap fp):uW w E' n (qX i j l) a cap fp:=by
 refine ⟨by rw [zN];exact h.1,?_⟩;rcases h.2 with h|⟨b,off,C,e,fz,pX,ha,hb,hz,h1,h2,h3,Jh,hr⟩
 .exact .inl ⟨by rw [h.1];rfl,h.2⟩
 .exact .inr ⟨b,off,C,e,fz,pX,ha,hb,hz,h1,by rw [zN];exact h2,h3,Jh,Xb k _ _ _ _ _ hr⟩
theorem O1 {t t':List AV} {o o':List aM} (i j:Nat) (hi:i < o.length) (hj:j < o.length) (hbi:∀ob,o[i]? =some ob->ob.box=false) (hbj:∀ob,o[j]? =some ob->ob.box=false) (ho:swo i j o=o') (hw:wk (qK i j t) t'):mK ⟨t,o⟩ ⟨t',o'⟩:=by
 subst ho;rintro P _ B a w ⟨G,r⟩;have hlen:=r.len;generalize hG':(range G.length).map (λk=>(G[swp i j k]?).getD ⟨none,0,λ_=>False⟩)=G';have slt:∀k,k < o.length->swp i j k < o.length:=by intro k hk;unfold swp;split<;>(try split)<;>omega
 have fz:∀ob:aM,(ob.mG i j).live=ob.live/\(ob.mG i j).box=ob.box/\(ob.mG i j).n=ob.n/\(ob.mG i j).bY=ob.bY/\(ob.mG i j).dR.length=ob.dR.length:=by intro ob;unfold aM.mG;split<;>simp [zN]
 have og:∀k,(swo i j o)[k]? =(o[swp i j k]?).map (aM.mG i j):=by
  intro k;unfold swo;rw [sY];by_cases hk:k < o.length
  .rw [getElem?_range hk];simp only [mS,aE (slt k hk),rK]
  .have h1:(range o.length)[k]? =none:=by rw [tI];simp;omega
   have h2:swp i j k=k:=by unfold swp;rw [cY (by omega),cY (by omega)]
   rw [h1,h2,oY (by omega)];rfl
 have gg:∀k,G'[k]? =G[swp i j k]?:=by
  intro k;rw [<-hG',sY];by_cases hk:k < G.length
  .rw [getElem?_range hk];have h3:swp i j k < G.length:=by rw [hlen];exact slt k (by rw [<-hlen];exact hk)
   simp only [mS,aE h3,rK]
  .have h1:(range G.length)[k]? =none:=by rw [tI];simp;omega
   have h2:swp i j k=k:=by have:o.length=G.length:=hlen.symm;unfold swp;rw [cY (by omega),cY (by omega)]
   rw [h1,h2,oY (by omega)];rfl
 have back:∀{k ob g},look (swo i j o) G' k ob g->∃xV,look o G (swp i j k) xV g/\ob=xV.mG i j:=by
  rintro k ob g ⟨e1,e2⟩;rw [og] at e1;rw [gg] at e2;cases hx:o[swp i j k]? with
  |none=>rw [hx] at e1;cases e1
  |some xV=>rw [hx] at e1;exact ⟨xV,⟨hx,e2⟩,(cQ e1).symm⟩
 have UK:∀{k ob g},look o G k ob g->look (swo i j o) G' (swp i j k) (ob.mG i j) g:=by rintro k ob g ⟨e1,e2⟩;exact ⟨by rw [og,JX,e1];rfl,by rw [gg,JX,e2]⟩
 have aWt:∀{k ob g},look o G k ob g->ob.box=true->¬Dh i j k:=by
  rintro k ob g ⟨e1,_⟩ hb (rfl|rfl)
  .rw [hbi ob e1] at hb;cases hb
  .rw [hbj ob e1] at hb;cases hb
 have rn:Ren i j (env B o G w) (env B (swo i j o) G' w):=by
  refine ⟨λb h=>⟨h.1,λk ob g hl Jt hF=> ?_⟩,λk h ob uX=> ?_,λk b h=> ?_,λk bY x hm h=> ?_,λk bY idx off x hm h=> ?_⟩
  .obtain ⟨xV,hl0,rfl⟩:=back hl;exact h.2 _ _ _ hl0 (by rw [<-(fz xV).1];exact Jt) hF
  .have h1:=h (ob.mG i j) (by rw [og,JX,uX];rfl);rw [(fz ob).1] at h1;exact h1
  .obtain ⟨ob,g,hl,Jt,hF,hne⟩:=h;exact ⟨_,g,UK hl,by rw [(fz ob).1];exact Jt,hF,hne⟩
  .obtain ⟨ob,g,hl,zV,h5,hz⟩:=h;refine ⟨_,g,UK hl,by rw [(fz ob).2.2.2.1];exact zV,λJt Tq=> ?_,λhv0 y hy=> ?_⟩
   .rw [(fz ob).2.2.2.2];exact h5 (by rw [<-(fz ob).1];exact Jt) (by rw [<-(fz ob).2.2.2.1];exact Tq)
   .by_cases hmv:Dh i j k
    .exact absurd hv0 (hm hmv)
    .rw [WZ hmv] at hy;exact hz hv0 y hy
  .obtain ⟨ob,g,hl,zV,h5,hz⟩:=h;have hf:=UK hl;rw [WZ hm] at hf;refine ⟨_,g,hf,by rw [(fz ob).2.2.2.1];exact zV,λJt Tq=> ?_,λhb hv e1 e2 y hy=> ?_⟩
   .rw [(fz ob).2.2.1];exact h5 (by rw [<-(fz ob).1];exact Jt) (by rw [<-(fz ob).2.2.2.1];exact Tq)
   .have:=hz (by rw [<-(fz ob).2.1];exact hb) hv e1 e2 y hy;exact ⟨this.1,λJt Tq=>this.2 (by rw [<-(fz ob).1];exact Jt) (by rw [<-(fz ob).2.2.2.1];exact Tq)⟩
 refine ⟨G',{len:= ?_,defs:=r.defs,ok:= ?_,apart:= ?_,fresh:= ?_,tmps:=ER hw (Iz rn _ _ _ r.tmps),size:=r.size,frame:=r.frame,base:=r.base,same:=r.same}⟩
 .rw [<-hG'];simp [swo,hlen]
 .intro k ob g hl Jt;obtain ⟨xV,hl0,rfl⟩:=back hl;obtain ⟨fp,hown,hnd,hF⟩:=r.ok _ _ g hl0 (by rw [<-(fz xV).1];exact Jt);refine ⟨fp,?_,hnd,hF⟩;cases hb0:xV.box with
  |false=>
   have e:xV.mG i j=xV:=by unfold aM.mG;rw [cY (by simp [hb0])]
   rw [e];rw [hb0] at hown⊢;exact hown.keeps (w:=w) (w':=w) ⟨λb hb=>⟨rn.a b hb,rfl⟩,λ_ _=>trivial,λ_ _ _ h=>h.elim,λ_ _ _ h=>h.elim,λ_ _ _ _ _ h=>h.elim⟩ (λ_ _=>rfl)
  |true=>
   have e:xV.mG i j={xV with dR:=qX i j xV.dR}:=by unfold aM.mG;rw [eK hb0]
   rw [e];simp only [hb0] at hown⊢;simp only [Env.of,gE] at hown⊢;exact hown.ren rn
 .intro p q op oq gp gq b hp hq hlp hlq hFp hFq;obtain ⟨op0,hp0,rfl⟩:=back hp;obtain ⟨oq0,hq0,rfl⟩:=back hq;have:=r.apart _ _ _ _ _ _ b hp0 hq0 (by rw [<-(fz op0).1];exact hlp) (by rw [<-(fz oq0).1];exact hlq) hFp hFq;have h2:=An (swp i j) this
  rwa [JX,JX] at h2
 .intro k ob g b hl Jt hF;obtain ⟨xV,hl0,rfl⟩:=back hl;exact r.fresh _ _ g b hl0 (by rw [<-(fz xV).1];exact Jt) hF
theorem aHo {i j:Nat} {o:List aM} {oi oj:aM} (hi:o[i]? =some oi) (hj:o[j]? =some oj):swo i j o=((o.set i oj).set j oi).map (aM.mG i j):=by
 have hil:=(cH.1 hi).1;have hjl:=(cH.1 hj).1;refine BW λk=> ?_
 unfold swo;rw [sY,sY];by_cases hk:k < o.length
 .rw [getElem?_range hk];simp only [mS];by_cases hkj:k=j
  .subst hkj;rw [mB (by simpa using hk)];have:swp i k k=i:=by unfold swp;split<;>simp_all
   rw [this,hi];rfl
  .rw [lA (λe=>hkj e.symm)]
   by_cases hki:k=i
   .subst hki;rw [mB hk];have:swp k j k=j:=by unfold swp;simp
    rw [this,hj];rfl
   .rw [lA (λe=>hki e.symm)]
    have:swp i j k=k:=by unfold swp;rw [cY hki,cY hkj]
    rw [this,aE hk];rfl
 .have h1:(range o.length)[k]? =none:=by rw [tI];simp;omega
  have h2:((o.set i oj).set j oi)[k]? =none:=by rw [tI];simp;omega
  rw [h1,h2];rfl
theorem bA {t t':List AV} {o o':List aM} (i j:Nat) {oi oj:aM} (hi:o[i]? =some oi) (hj:o[j]? =some oj) (hb:oi.box=false/\oj.box=false) (ho:((o.set i oj).set j oi).map (aM.mG i j)=o') (hw:wk (qK i j t) t'):mK ⟨t,o⟩ ⟨t',o'⟩:=
 O1 i j (cH.1 hi).1 (cH.1 hj).1 (λob h=>by rw [hi] at h;obtain rfl:=cQ h;exact hb.1) (λob h=>by rw [hj] at h;obtain rfl:=cQ h;exact hb.2) (by rw [aHo hi hj];exact ho) hw
@[simp] theorem aQa (i j:Nat) (l:Bool) (n v:Nat) (dR:List (List AV)):aM.mG i j ⟨l,false,n,v,dR⟩=⟨l,false,n,v,dR⟩:=rfl
@[simp] theorem aQb (i j:Nat) (l:Bool) (n v:Nat) (dR:List (List AV)):aM.mG i j ⟨l,true,n,v,dR⟩=⟨l,true,n,v,qX i j dR⟩:=rfl
attribute [simp] mG qK qX gsw swp Dh
def JH:Nat->List GA->List AV
 |_,[]=>[]
 |k,.view x::gs=>x::JH k gs
 |k,.nX x::gs=>(dH 1 k x).1::JH (k+(dH 1 k x).2.length) gs
 |k,.sH c _::gs=> .ptr k 2 0 0::JH (k+(1+(fG 1 (k+1) c).2.length)) gs
def EX:Nat->List GA->List aM
 |_,[]=>[]
 |k,.view _::gs=>EX k gs
 |k,.nX x::gs=>(dH 1 k x).2++EX (k+(dH 1 k x).2.length) gs
 |k,.sH c _::gs=>(⟨true,true,c.length,2,[(fG 1 (k+1) c).1]⟩::(fG 1 (k+1) c).2)++EX (k+(1+(fG 1 (k+1) c).2.length)) gs
def Fc (E:Env) (k:Nat) (os:List aM) (Gs:List CO):Prop:=
 ∀j ob g,look os Gs j ob g->E.H (k+j) ob.bY (.slice g.a ob.dR.length g.cap)/\(ob.box=true->∀b f,g.a=some ⟨b,f,none⟩->E.L (k+j) ob.bY 0 0 (.pointer (some ⟨b,f,none⟩)))
theorem Fc.left {E:Env} {k:Nat} {o1 o2:List aM} {G1 G2:List CO} (h:Fc E k (o1++o2) (G1++G2)):Fc E k o1 G1:=λj ob g hl=>h j ob g (nC hl)
theorem Fc.right {E:Env} {k:Nat} {o1 o2:List aM} {G1 G2:List CO} (hlen:G1.length=o1.length) (h:Fc E k (o1++o2) (G1++G2)):Fc E (k+o1.length) o2 G2:=λj ob g hl=>by
 have:=h _ ob g (oG hlen hl)
 rwa [<-oR] at this
def Ent (w:World) (E:Env) (k:Nat) (os:List aM) (fp:List Nat) (pin:List CO->Prop) (done:Env->Prop):Prop:=
 ∃Gs:List CO,Gs.length=os.length/\
  (∀j ob g,look os Gs j ob g->ob.live=true/\(ob.box=false->ob.bY=1)/\(ob.box=true->ob.bY=2)/\∃f,f.Nodup/\(∀b,g.F b↔b∈f)/\(∀b∈f,b∈fp)/\
   ∀E',fA w E w E'->Fc E' k os Gs->uW w (E'.of ob.box) ob.n ob.dR g.a g.cap f)/\
  (∀i j oi oj gi gj b,look os Gs i oi gi->look os Gs j oj gj->gi.F b->gj.F b->i=j)/\pin Gs/\
  ∀E':Env,fA w E w E'->Fc E' k os Gs->done E'
theorem Ent.Yz {w:World} {E:Env} {k:Nat} {os:List aM} {fp:List Nat} {done:Env->Prop} (h:lH 1 w E k os fp done):Ent w E k os fp (λ_=>True) done:=by
 obtain ⟨Gs,h1,h2,h3,h4⟩:=h;refine ⟨Gs,h1,λj ob g hl=> ?_,h3,trivial,λE' hk hf=>h4 E' hk λj ob g hl=> ?_⟩
 .obtain ⟨a1,a2,a3,f,a4,a5,a6,a7⟩:=h2 j ob g hl;refine ⟨a1,λ_=>a3,(λh=>by rw [a2] at h;cases h),f,a5,a6,a7,λE' hk _=> ?_⟩;rw [a2];exact a4.keeps hk.plain (λ_ _=>rfl)
 .have:=(hf j ob g hl).1;obtain ⟨_,_,a3,_⟩:=h2 j ob g hl
  rwa [a3] at this
theorem Ent.append {w:World} {E:Env} {k:Nat} {o1 o2:List aM} {f1 f2:List Nat} {p1 p2 p:List CO->Prop} {d1 d2 d:Env->Prop} (h1:Ent w E k o1 f1 p1 d1) (h2:Ent w E (k+o1.length) o2 f2 p2 d2) (hn:(f1++f2).Nodup)
  (hp:∀G1 G2,G1.length=o1.length->p1 G1->p2 G2->p (G1++G2)) (hd:∀E',d1 E'->d2 E'->d E'):Ent w E k (o1++o2) (f1++f2) p d:=by
 obtain ⟨G1,l1,a1,b1,q1,c1⟩:=h1;obtain ⟨G2,l2,a2,b2,q2,c2⟩:=h2;have hdj:=(gC.1 hn).2.2;refine ⟨G1++G2,by simp [l1,l2],?_,?_,hp G1 G2 l1 q1 q2,λE' hk hf=>hd E' (c1 E' hk hf.left) (c2 E' hk (hf.right l1))⟩
 .intro j ob g hl;rcases oF l1 hl with ⟨_,h⟩|⟨_,h⟩
  .obtain ⟨x,y,y',f,z1,z2,z3,z4⟩:=a1 _ _ _ h;exact ⟨x,y,y',f,z1,z2,λb hb=>nB _ (z3 b hb),λE' hk hf=>z4 E' hk hf.left⟩
  .obtain ⟨x,y,y',f,z1,z2,z3,z4⟩:=a2 _ _ _ h;exact ⟨x,y,y',f,z1,z2,λb hb=>sR _ (z3 b hb),λE' hk hf=>z4 E' hk (hf.right l1)⟩
 .intro i j oi oj gi gj b hi hj Es KY;rcases oF l1 hi with ⟨_,h⟩|⟨hi',h⟩<;>rcases oF l1 hj with ⟨_,h'⟩|⟨zl,h'⟩
  .exact b1 _ _ _ _ _ _ b h h' Es KY
  .obtain ⟨_,_,_,f,_,z2,z3,_⟩:=a1 _ _ _ h;obtain ⟨_,_,_,f',_,z2',z3',_⟩:=a2 _ _ _ h';exact absurd rfl (hdj b (z3 b ((z2 b).1 Es)) b (z3' b ((z2' b).1 KY)))
  .obtain ⟨_,_,_,f,_,z2,z3,_⟩:=a2 _ _ _ h;obtain ⟨_,_,_,f',_,z2',z3',_⟩:=a1 _ _ _ h';exact absurd rfl (hdj b (z3' b ((z2' b).1 KY)) b (z3 b ((z2 b).1 Es)))
  .have:=b2 _ _ _ _ _ _ b h h' Es KY;omega
theorem aCo {w:World} {O:Nat->Prop} {k:Nat} {c c':List AV} {v:Value} {fp:List Nat} {cap:Nat} (h:RG w O (.sH c c') v fp cap) (hn:fp.Nodup):
  Ent w (qN w O) k (⟨true,true,c.length,2,[(fG 1 (k+1) c).1]⟩::(fG 1 (k+1) c).2) fp
   (λGs=>∃g b f,Gs[0]? =some g/\g.a=some ⟨b,f,none⟩/\v= .pointer (some ⟨b,f,none⟩)/\g.cap=cap) (λE'=>R w E' (.ptr k 2 0 0) v []):=by
 simp only [RG] at h;obtain ⟨b,f,rfl,hlen,hown⟩:=h;rcases hown with ⟨h5,_⟩|⟨b',f',C,ty,fz,pX,vK,hbk,hz,k1,k2,k3,rfl,hr⟩
 .cases h5
 simp only [eC,pA,rS] at vK;obtain ⟨rfl,rfl⟩:=vK;simp only [Rr] at hr;obtain ⟨cs,f1,f2,zT,hc,hone,uY,rfl,e⟩:=hr;have e:pX=f1:=by simpa using e
 subst e;simp only [mA] at hn;obtain ⟨Gs,a1,a2,a3,a4⟩:=CQ (q:=1) c cs pX (k+1) uY hn.2;have tail:∀{j ob g},look (⟨true,true,c.length,2,[(fG 1 (k+1) c).1]⟩::(fG 1 (k+1) c).2) (⟨some ⟨b,f,none⟩,cap,λx=>x=b⟩::Gs) j ob g->
   (j=0/\ob=⟨true,true,c.length,2,[(fG 1 (k+1) c).1]⟩/\g=⟨some ⟨b,f,none⟩,cap,λx=>x=b⟩)\/∃j',j=j'+1/\look (fG 1 (k+1) c).2 Gs j' ob g:=by
  rintro j ob g ⟨h1,h2⟩;cases j with
  |zero=>simp only [sL,eC] at h1 h2;exact .inl ⟨rfl,h1.symm,h2.symm⟩
  |succ j=>exact .inr ⟨j,rfl,by simpa using h1,by simpa using h2⟩
 have inner:∀{E':Env},Fc E' k (⟨true,true,c.length,2,[(fG 1 (k+1) c).1]⟩::(fG 1 (k+1) c).2) (⟨some ⟨b,f,none⟩,cap,λx=>x=b⟩::Gs)->
   ∀j ob g,look (fG 1 (k+1) c).2 Gs j ob g->E'.H (k+1+j) 1 (.slice g.a ob.dR.length g.cap):=by
  intro E' hf j ob g hl;have:=(hf (j+1) ob g ⟨by simpa using hl.1,by simpa using hl.2⟩).1;obtain ⟨_,_,h3,_⟩:=a2 j ob g hl;rw [h3] at this
  rwa [show k+1+j=k+(j+1) by omega]
 refine ⟨⟨some ⟨b,f,none⟩,cap,λx=>x=b⟩::Gs,by simp [a1],?_,?_,⟨_,b,f,rfl,rfl,rfl,rfl⟩,?_⟩
 .intro j ob g hl;rcases tail hl with ⟨rfl,rfl,rfl⟩|⟨j',rfl,BP⟩
  .refine ⟨rfl,(λh=>by cases h),λ_=>rfl,[b],by simp,by simp,by simp,λE' hk hf=> ?_⟩
   refine ⟨by simp [maxLen],.inr ⟨b,f,C,ty,fz,[],rfl,hbk,hz,k1,by simpa using k2,k3,rfl,?_⟩⟩;simp only [Rr];exact ⟨cs,[],[],zT,hc,hone,a4 E' hk (inner hf),rfl,rfl⟩
  .obtain ⟨h1,h2,h3,f',h4,h5,h6,h7⟩:=a2 _ _ _ BP;refine ⟨h1,λ_=>h3,(λh=>by rw [h2] at h;cases h),f',h5,h6,λx hx=>AM _ (h7 x hx),λE' hk _=> ?_⟩;rw [h2];exact h4.keeps hk.plain (λ_ _=>rfl)
 .intro i j oi oj gi gj x hi hj Es KY;rcases tail hi with ⟨rfl,rfl,rfl⟩|⟨i',rfl,hi'⟩<;>rcases tail hj with ⟨rfl,rfl,rfl⟩|⟨j',rfl,zl⟩
  .rfl
  .obtain ⟨_,_,_,f',_,_,h6,h7⟩:=a2 _ _ _ zl;have hx:x=b:=Es;subst hx;exact absurd (h7 _ ((h6 _).1 KY)) hn.1
  .obtain ⟨_,_,_,f',_,_,h6,h7⟩:=a2 _ _ _ hi';have hx:x=b:=KY;subst hx;exact absurd (h7 _ ((h6 _).1 Es)) hn.1
  .have:=a3 _ _ _ _ _ _ x hi' zl Es KY;omega
 .intro E' hk hf;simp only [R];exact ⟨trivial,(hf 0 _ _ ⟨rfl,rfl⟩).2 rfl b f rfl⟩
def pinned (gat:Nat->Option CO):Nat->List GA->List Value->List Nat->Prop
 |_,[],[],[]=>True
 |k,.view _::gs,_::vs,_::jD=>pinned gat k gs vs jD
 |k,.nX x::gs,_::vs,_::jD=>pinned gat (k+(dH 1 k x).2.length) gs vs jD
 |k,.sH c _::gs,v::vs,cap::jD=>(∃g b f,gat k=some g/\g.a=some ⟨b,f,none⟩/\v= .pointer (some ⟨b,f,none⟩)/\g.cap=cap)/\pinned gat (k+(1+(fG 1 (k+1) c).2.length)) gs vs jD
 |_,_,_,_=>False
theorem WB {w:World} {O:Nat->Prop}:∀(gs:List GA) (vs:List Value) (sM:List (List Nat)) (jD:List Nat) (k:Nat),DD w O gs vs sM jD->sM.flatten.Nodup->
  Ent w (qN w O) k (EX k gs) sM.flatten (λGs=>∀pre:List CO,pre.length=k->pinned (λi=>(pre++Gs)[i]?) k gs vs jD) (λE'=>Rc w E' (JH k gs) vs [])
 |[],[],[],[],k,_,_=>⟨[],rfl,λj ob g hl=>by simp [look,EX] at hl,λi j oi oj gi gj b hl=>by simp [look,EX] at hl,λ_ _=>by simp [pinned],λE' _ _=>by simp [JH,Rc]⟩
 | .view x::gs,v::vs,fp::sM,cap::jD,k,h,hn=>by
  simp only [DD,RG] at h;obtain ⟨⟨rfl,hx⟩,h⟩:=h;simp only [pH,eN] at hn⊢;obtain ⟨Gs,a1,a2,a3,a4,a5⟩:=WB gs vs sM jD k h hn;refine ⟨Gs,a1,a2,a3,λpre hp=>by simp only [pinned];exact a4 pre hp,λE' hk hf=> ?_⟩
  .simp only [JH,Rc];exact ⟨[],[],oN hk _ _ _ (by simp) hx,a5 E' hk hf,rfl⟩
 | .nX x::gs,v::vs,fp::sM,cap::jD,k,h,hn=>by
  simp only [DD,RG] at h;obtain ⟨hx,h⟩:=h;simp only [pH] at hn⊢;have hn':=gC.1 hn;refine (Ent.Yz (EJ (q:=1) x v fp k hx hn'.1)).append (WB gs vs sM jD (k+(dH 1 k x).2.length) h hn'.2.1) hn (λG1 G2 hl _ h2 pre hp=> ?_) (λE' h1 h2=> ?_)
  .simp only [pinned];have:=h2 (pre++G1) (by simp [hp,hl]);simpa using this
  .simp only [JH,Rc];exact ⟨[],[],h1,h2,rfl⟩
 | .sH c c'::gs,v::vs,fp::sM,cap::jD,k,h,hn=>by
  simp only [DD] at h;obtain ⟨hx,h⟩:=h;simp only [pH] at hn⊢;have hn':=gC.1 hn;have h2:=WB gs vs sM jD (k+(1+(fG 1 (k+1) c).2.length)) h hn'.2.1;simp only [EX];refine (aCo hx hn'.1).append (by
   rw [show k+(({live:=true,box:=true,n:=c.length,bY:=2,dR:=[(fG 1 (k+1) c).1]}:aM)::(fG 1 (k+1) c).2).length=k+(1+(fG 1 (k+1) c).2.length) by simp;omega];exact h2) hn (λG1 G2 hl h1 h2 pre hp=> ?_) (λE' h1 h2=> ?_)
  .simp only [pinned];refine ⟨?_,?_⟩
   .obtain ⟨g,b,f,e1,e2,e3,e4⟩:=h1;refine ⟨g,b,f,?_,e2,e3,e4⟩;subst hp;rw [hY (by omega),xF];cases G1 with
    |nil=>simp at e1
    |cons _ _=>simpa using e1
   .have:=h2 (pre++G1) (by simp only [eR,hp,hl,eL];omega);simpa using this
  .simp only [JH,Rc];exact ⟨[],[],h1,h2,rfl⟩
 |[],[],[],_::_,_,h,_=>by simp [DD] at h
 |[],[],_::_,_,_,h,_=>by simp [DD] at h
 |[],_::_,_,_,_,h,_=>by simp [DD] at h
 | .view _::_,[],_,_,_,h,_=>by simp [DD] at h
 | .view _::_,_::_,[],_,_,h,_=>by simp [DD] at h
 | .view _::_,_::_,_::_,[],_,h,_=>by simp [DD] at h
 | .nX _::_,[],_,_,_,h,_=>by simp [DD] at h
 | .nX _::_,_::_,[],_,_,h,_=>by simp [DD] at h
 | .nX _::_,_::_,_::_,[],_,h,_=>by simp [DD] at h
 | .sH _ _::_,[],_,_,_,h,_=>by simp [DD] at h
 | .sH _ _::_,_::_,[],_,_,h,_=>by simp [DD] at h
 | .sH _ _::_,_::_,_::_,[],_,h,_=>by simp [DD] at h
def dN (s:AS):Nat->Nat->List GA->Prop
 |_,_,[]=>True
 |pos,k,.view _::gs=>dN s (pos+1) k gs
 |pos,k,.nX x::gs=>dN s (pos+1) (k+(dH 1 k x).2.length) gs
 |pos,k,.sH c c'::gs=>(s.t.getD pos .undef= .ptr k 2 0 0/\∃cells,s.o[k]? =some ⟨true,true,c.length,2,[cells]⟩/\mW s.o cells=true/\tC s.o cells=c'/\Cx c'=true)/\
   dN s (pos+1) (k+(1+(fG 1 (k+1) c).2.length)) gs
def dM (s:AS):Nat->List GA->List Nat
 |_,[]=>[]
 |k,.view _::gs=>dM s k gs
 |k,.nX x::gs=>dM s (k+(dH 1 k x).2.length) gs
 |k,.sH c _::gs=>(k::kH (rowOf s.o k))++dM s (k+(1+(fG 1 (k+1) c).2.length)) gs
def gK (P:Program) (fn:Func) (s:AS) (gs:List GA) (r:AV):Prop:=
 ∃ys,s.zC P fn.results.toList=some ys/\jM s.o (single ys)=true/\res s.o (single ys)=r/\clean r=true/\dN s 0 0 gs/\(dM s 0 gs++lU (single ys)).Nodup
theorem FY {P:Program} [aC P] {B:gN P} {s:AS} {G:List CO} {a:Act} {w:World} (r:eP B s G a w) {gat:Nat->Option CO} (hp:∀i g,gat i=some g->B.p0 i=some (.pointer g.a,g.cap)):
  ∀(gs:List GA) (vs:List Value) (jD:List Nat) (pos k:Nat),pinned gat k gs vs jD->dN s pos k gs->(dM s k gs).Nodup->
  ∃sM,Tf w gs vs sM jD/\sM.flatten.Nodup/\∀b∈sM.flatten,Of s.o G (dM s k gs) b
 |[],[],[],pos,k,_,_,_=>⟨[],by simp [Tf],by simp,by simp⟩
 | .view x::gs,v::vs,cap::jD,pos,k,h1,h2,h3=>by simp only [pinned] at h1;simp only [dN] at h2;simp only [dM] at h3⊢;obtain ⟨sM,q1,q2,q3⟩:=FY r hp gs vs jD (pos+1) k h1 h2 h3;exact ⟨[]::sM,by simp only [Tf,RP];exact ⟨trivial,q1⟩,by simpa using q2,by simpa using q3⟩
 | .nX x::gs,v::vs,cap::jD,pos,k,h1,h2,h3=>by simp only [pinned] at h1;simp only [dN] at h2;simp only [dM] at h3⊢;obtain ⟨sM,q1,q2,q3⟩:=FY r hp gs vs jD (pos+1) _ h1 h2 h3;exact ⟨[]::sM,by simp only [Tf,RP];exact ⟨trivial,q1⟩,by simpa using q2,by simpa using q3⟩
 | .sH c c'::gs,v::vs,cap::jD,pos,k,h1,h2,h3=>by
  simp only [pinned] at h1;simp only [dN] at h2;simp only [dM] at h3⊢;obtain ⟨⟨g0,b0,f0,e1,e2,e3,e4⟩,h1⟩:=h1;obtain ⟨⟨htp,cells,ho,wC,jK,zT⟩,h2⟩:=h2;have hn:=gC.1 h3;obtain ⟨sM,q1,q2,q3⟩:=FY r hp gs vs jD (pos+1) _ h1 h2 hn.2.1;have aBb:rowOf s.o k=cells:=by simp [rowOf,ho]
  rw [aBb] at hn⊢;have uX:AV.isObj s.o k 2=some ⟨true,true,c.length,2,[cells]⟩:=by simp [AV.isObj,ho]
  obtain ⟨g,b,f,hl,hlive,hga,hv⟩:=r.ptr (x:= .tmp pos) htp uX;have aG3:=r.pin (x:= .tmp pos) htp uX hl rfl rfl rfl rfl _ (hp k g0 e1);rw [hv] at aG3;obtain ⟨hp1,UY⟩:=aG3;have vP:g.cap=g0.cap:=UY rfl rfl;simp only [CT] at hp1;rw [e2] at hp1;simp only [Nat.zero_mul,pZ,eC,pA,rS] at hp1;obtain ⟨rfl,rfl⟩:=hp1;obtain ⟨fp0,⟨_,hown⟩,HZ,Oz⟩:=r.ok k _ g hl rfl;simp only [Env.of,gE] at hown;rcases hown with ⟨h5,_⟩|⟨b',f',C,ty,fz,pX,vK,hbk,hz,k1,k2,k3,rfl,hr⟩
  .cases h5
  rw [hga] at vK;simp only [eC,pA,rS] at vK;obtain ⟨rfl,rfl⟩:=vK;simp only [Rr] at hr;obtain ⟨cs,f1,f2,hcn,hc,hone,uY,rfl,e⟩:=hr;have e:pX=f1:=by simpa using e
  subst e;simp only [mA] at HZ;have hn1:=hn.1;simp only [mA] at hn1;obtain ⟨zU,u1,u2,u3⟩:=Jq r hl rfl cells cs pX wC hn1.2 hn1.1 HZ.2 (λx hx=>Oz x (by simp [hx])) uY;have UA:g.F b:=Oz b (by simp);have hbn:b∉zU:=λhb=>by
   rcases u3 b hb with h|h
   .exact HZ.1 h
   .obtain ⟨j,oj,gj,hj,hlj,hjl,Te⟩:=h;have:=r.apart k j _ _ _ _ b hl hlj rfl hjl UA Te;exact hn1.1 (this▸hj)
  rw [jK] at u1;have u1':Rc w lV c' cs zU:=CR (E:=(env B s.o G w).plain) (λ_ _=>trivial) rfl rfl rfl _ _ _ zT u1;have hin:∀x∈b::zU,Of s.o G (k::kH cells) x:=by
   intro x hx;rcases lB.1 hx with rfl|hx
   .exact ⟨k,_,g,by simp,hl,rfl,UA⟩
   .rcases u3 x hx with h|h
    .exact ⟨k,_,g,by simp,hl,rfl,Oz x (by simp [h])⟩
    .exact BS (λj hj=>by simp [hj]) h
  refine ⟨(b::zU)::sM,?_,?_,?_⟩
  .simp only [Tf,RP];refine ⟨⟨b,f,e3,by simp [maxLen],.inr ⟨b,f,C,ty,fz,zU,rfl,hbk,hz,?_,?_,?_,rfl,?_⟩⟩,q1⟩
   .rw [<-e4,<-vP];exact k1
   .rw [<-e4,<-vP];simpa using k2
   .rw [<-e4,<-vP];exact k3
   .simp only [Rr];exact ⟨cs,zU,[],hcn,hc,hone,u1',rfl,by simp⟩
  .simp only [pH,gC];refine ⟨mA.2 ⟨hbn,u2⟩,q2,λx hx y hy e=> ?_⟩;subst e;exact Jr r (λi hi j hj=>hn.2.2 i hi j hj) (hin x hx) (q3 x hy)
  .intro x hx;simp only [pH,fL] at hx;rcases hx with hx|hx
   .exact BS (λi hi=>nB _ hi) (hin x hx)
   .exact BS (λi hi=>sR _ hi) (q3 x hx)
 |[],[],_::_,_,_,h,_,_=>by simp [pinned] at h
 |[],_::_,_,_,_,h,_,_=>by simp [pinned] at h
 | .view _::_,[],_,_,_,h,_,_=>by simp [pinned] at h
 | .view _::_,_::_,[],_,_,h,_,_=>by simp [pinned] at h
 | .nX _::_,[],_,_,_,h,_,_=>by simp [pinned] at h
 | .nX _::_,_::_,[],_,_,h,_,_=>by simp [pinned] at h
 | .sH _ _::_,[],_,_,_,h,_,_=>by simp [pinned] at h
 | .sH _ _::_,_::_,[],_,_,h,_,_=>by simp [pinned] at h
theorem Qm {w:World} {O:Nat->Prop}:∀{gs:List GA} {vs:List Value} {sM:List (List Nat)} {jD:List Nat},DD w O gs vs sM jD->vs.length=gs.length
 |[],[],_,_,_=>rfl
 |_::gs,_::vs,[],_,h=>by simp [DD] at h
 |_::gs,_::vs,_::_,[],h=>by simp [DD] at h
 |_::gs,_::vs,_::sM,_::jD,h=>by simp only [DD] at h;simp [Qm h.2]
 |[],_::_,_,_,h=>by simp [DD] at h
 |_::_,[],_,_,h=>by simp [DD] at h
theorem Qn {P:Program} [aC P] (hm:P.follows .mixedOrders=true) {f:FuncId} {fn:Func} {c:Code} (hf:P.funcs[f]? =some fn) (hb:fn.body=some c) {gs:List GA} {rr:AV}
  (h:tF P c ⟨JH 0 gs++replicate (fn.ntmps - gs.length) .undef,EX 0 gs⟩ (λe s=>(e= .normal\/e= .ret)/\gK P fn s gs rr)):Lf P f gs rr:=by
 intro w vs sM jD hg hab hnd hrg;obtain ⟨Gs,hlen,BN,hap,aG3,pM⟩:=WB gs vs sM jD 0 hrg hnd;have hvl:=Qm hrg;generalize hB:(⟨w,λb=>b < w.heap.size,(· ∈sM.flatten),λ_=>none,λi=>(Gs[i]?).map λg=>(.pointer g.a,g.cap),hg,λb hb=>(hab b hb).1,λb hb=>(hab b hb).2⟩:gN P)=B;have Ql:B.w0=w:=by rw [<-hB]
 have hA0:∀b,B.A0 b↔b < w.heap.size:=by intro b;rw [<-hB]
 have hO0:∀b,B.O0 b↔b∈sM.flatten:=by intro b;rw [<-hB]
 have hh0:∀i,B.h0 i=none:=by intro i;rw [<-hB]
 have hp0:∀i g,Gs[i]? =some g->B.p0 i=some (.pointer g.a,g.cap):=by intro i g hg;rw [<-hB];simp [hg]
 have kE:fA w (qN w (· ∈sM.flatten)) w (env B (EX 0 gs) Gs w):=by refine ⟨λb hb=>⟨⟨.inl ((hA0 b).2 hb.1),λi ob g hl _ hF=> ?_⟩,rfl⟩,λ_ _=>trivial,λ_ _ _ h=>h.elim,λ_ _ _ h=>h.elim,λ_ _ _ _ _ h=>h.elim⟩;obtain ⟨_,_,_,f',_,h2,h3,_⟩:=BN _ _ _ hl;exact hb.2 (h3 _ ((h2 _).1 hF))
 have fc:Fc (env B (EX 0 gs) Gs w) 0 (EX 0 gs) Gs:=by intro j ob g hl;rw [hM];refine ⟨⟨ob,g,hl,eE _,λ_ _=>rfl,λ_ x hx=>by rw [hh0] at hx;cases hx⟩,λ_ b f hga=>⟨ob,g,hl,eE _,λ_ _=>⟨b,f,hga,by simp⟩,λ_ _ _ _ y hy=> ?_⟩⟩;rw [hp0 _ _ hl.2] at hy;obtain rfl:=cQ hy;exact ⟨by rw [hga],λ_ _=>rfl⟩
 have r0:eP B ⟨JH 0 gs++replicate (fn.ntmps - gs.length) .undef,EX 0 gs⟩ Gs {tmps:=vs.toArray++Array.replicate (fn.ntmps - vs.toArray.size) Go.undef,defers:=[]} w:=by
  refine {len:=hlen,defs:=rfl,ok:= ?_,apart:= ?_,fresh:= ?_,tmps:= ?_,size:=by rw [Ql];exact eE _,frame:=by rw [Ql];exact λ_ _ _=>rfl,base:= ?_,same:=by rw [Ql];exact nG.rfl}
  .intro i ob g hl _;obtain ⟨_,_,_,f',h1,h2,h3,h4⟩:=BN _ _ _ hl;exact ⟨f',h4 _ kE fc,h1,λb hb=>(h2 b).2 hb⟩
  .intro i j oi oj gi gj b hi hj _ _ Es KY;exact hap _ _ _ _ _ _ b hi hj Es KY
  .intro i ob g b hl _ hF;obtain ⟨_,_,_,f',_,h2,h3,_⟩:=BN _ _ _ hl;have:=h3 _ ((h2 _).1 hF);exact ⟨.inl ((hO0 b).2 this),(hab b this).2⟩
  .have h2:∀n,Rc w (env B (EX 0 gs) Gs w) (replicate n .undef) (replicate n Go.undef) []:=by
    intro n;induction n with
    |zero=>simp [Rc]
    |succ n ih=>simp only [pD,Rc];exact ⟨[],[],by simp [R],ih,rfl⟩
   have:=mF (pM _ kE fc) (h2 (fn.ntmps - gs.length));simpa [hvl] using this
  .intro b hb;rw [Ql];exact (hA0 b).1 hb
 refine calls_of_wp hf hb (wp_mono (qP hm c _ _ h _ _ ⟨_,r0⟩) λe a w' he=> ?_);obtain ⟨s,⟨he,ys,iq,wC,jK,zT,hlo,hun⟩,G,r⟩:=he;obtain ⟨u,hrun,hR⟩:=zD r iq;have hun':=gC.1 hun;obtain ⟨fp,k1,k2,k3⟩:=Jl r _ u wC hun'.2.1 hR;rw [jK] at k1;have aOa:pinned (λi=>Gs[i]?) 0 gs vs jD:=by simpa using aG3 [] rfl
 obtain ⟨BO,q1,q2,q3⟩:=FY r hp0 gs vs jD 0 0 aOa hlo hun'.1;have hin:∀b∈BO.flatten++fp,(b∈sM.flatten\/w.heap.size<=b)/\b < w'.heap.size:=by
  intro b hb;have:∃i ob g,look s.o G i ob g/\ob.live=true/\g.F b:=by
   rcases fL.1 hb with hb|hb
   .obtain ⟨i,ob,g,_,h⟩:=q3 b hb;exact ⟨i,ob,g,h⟩
   .obtain ⟨i,ob,g,_,h⟩:=k3 b hb;exact ⟨i,ob,g,h⟩
  obtain ⟨i,ob,g,hl,hlive,hF⟩:=this;have:=r.fresh _ _ _ b hl hlive hF;rw [Ql,hO0] at this;exact this
 have hfin:∃v fp BO,Ending.returned u= .returned v/\R w' lV rr v fp/\Tf w' gs vs BO jD/\(BO.flatten++fp).Nodup/\
   (∀b∈BO.flatten++fp,(b∈sM.flatten\/w.heap.size<=b)/\b < w'.heap.size)/\w.heap.size<=w'.heap.size/\(∀b,b < w.heap.size->b∉sM.flatten->w'.heap[b]? =w.heap[b]?)/\nG w w':=by
  refine ⟨u,fp,BO,rfl,Jm (E:=(env B s.o G w').plain) (λ_ _=>trivial) rfl rfl rfl _ _ _ zT k1,q1,gC.2 ⟨q2,k2,λx hx y hy e=> ?_⟩,hin,by have:=r.size;rwa [Ql] at this,λb hb hn=>by have:=r.frame b (by rw [Ql];exact hb) (λh=>hn ((hO0 b).1 h));rwa [Ql] at this,by have:=r.same;rwa [Ql] at this⟩;subst e;exact Jr r (λi hi j hj=>hun'.2.2 i hi j hj) (q3 x hx) (k3 x hy)
 rcases he with rfl|rfl
 .exact ⟨r.defs,u,hrun,hfin⟩
 .exact ⟨r.defs,u,hrun,hfin⟩
theorem qU {P:Program} [aC P] (hm:P.follows .mixedOrders=true) {f:FuncId} {fn:Func} {c:Code} (hf:P.funcs[f]? =some fn) {n:Nat} (hn:fn.ntmps=n) {gs:List GA} {t:List AV} {o:List aM} {rr:AV}
  (h:tF P c ⟨t,o⟩ (λe s=>(e= .normal\/e= .ret)/\gK P fn s gs rr)) (hb:fn.body=some c:=by rfl)
  (ho:EX 0 gs=o:=by
   simp only [EX,oZ,lW,Ij,Ai,Gq,xW,Jy,Ah,pZ,hM,Nat.reduceAdd,eI,eN,fX,eL,eW];rfl)
  (ht:JH 0 gs++replicate (n - gs.length) .undef=t:=by
   simp only [JH,oZ,lW,Ij,Ai,Gq,xW,Jy,Ah,pZ,hM,eL,eW,Nat.reduceSub,Nat.reduceAdd,pD,BT,eI,eN,fX];rfl):Lf P f gs rr:=by
 subst ht;subst hn;subst ho;exact Qn hm hf hb h
theorem aPf {P:Program} [aC P] (hm:P.follows .mixedOrders=true) {f:FuncId} {fn:Func} {c c':Code} (L:List Nat) (hf:P.funcs[f]? =some fn) {n:Nat} (hn:fn.ntmps=n) {gs:List GA} {t:List AV} {o:List aM} {rr:AV}
  (h:tF P c' ⟨t,o⟩ (λe s=>(e= .normal\/e= .ret)/\gK P fn s gs rr)) (hb:fn.body=some c:=by rfl)
  (hc:zL (λi=>L.contains i) c=c':=by simp [zL];rfl)
  (ho:EX 0 gs=o:=by
   simp only [EX,oZ,lW,Ij,Ai,Gq,xW,Jy,Ah,pZ,hM,Nat.reduceAdd,eI,eN,fX,eL,eW];rfl)
  (ht:JH 0 gs++replicate (n - gs.length) .undef=t:=by
   simp only [JH,oZ,lW,Ij,Ai,Gq,xW,Jy,Ah,pZ,hM,eL,eW,Nat.reduceSub,Nat.reduceAdd,pD,BT,eI,eN,fX];rfl):Lf P f gs rr:=by
 subst ht;subst hn;subst ho;subst hc;rw [zM] at h;exact Qn hm hf hb h
def rC (l:List (List AV)):Bool:=l.all λr=>r.all AV.iE
theorem qw {w:World} {E:Env}:∀(x:AV) (v:Value) (fp:List Nat),x.iE=true->R w E x v fp->fp=[]:=by intro x v fp hx h;cases x<;>simp only [AV.iE] at hx<;>first|(cases hx;done)|(simp only [R] at h;exact h.2)|(simp only [R] at h;exact h.1)|simp_all [R]
theorem Nq {w:World} {E:Env}:∀(c:List AV) (cs:List Value) (fp:List Nat),c.all AV.iE=true->Rc w E c cs fp->fp=[]
 |[],[],fp,_,h=>by simpa [Rc] using h
 |[],_::_,_,_,h=>by simp [Rc] at h
 |_::_,[],_,_,h=>by simp [Rc] at h
 |x::xs,c::cs,fp,hp,h=>by simp only [BY,eJ] at hp;simp only [Rc] at h;obtain ⟨f1,f2,h1,h2,h3⟩:=h;have a:=qw _ _ _ hp.1 h1;have b:=Nq _ _ _ hp.2 h2;subst a;subst b;simpa using h3
theorem Nr {w:World} {E:Env}:∀(l:List (List AV)) (news:List Value) (n:Nat) (fp:List Nat),rC l=true->Rv w E l news n fp->fp=[]
 |[],_,_,_,_,h=>by simp only [Rv] at h;simp_all
 |r::l,news,n,fp,hp,h=>by simp only [rC,BY,eJ] at hp;simp only [Rv] at h;obtain ⟨cs,rest,f1,f2,h1,h2,h3,h4,h5,h6⟩:=h;have a:=Nq _ _ _ (by simpa using hp.1) h4;have b:=Nr l _ _ _ (by simpa [rC] using hp.2) h5;subst a;subst b;simpa using h6
theorem Mi (tS xT:TypeId) (x y:Operand) {e:TypeId} {n by' i j bY:Nat} {ob oj:aM} {s1:AS} (he:iC P tS=some (e,n,by')) (hz:bT P e n=true) (hxt:eT P xT=true)
  (ht:s.target n (s.ev x)=some (i,ob,s1)) (hy:s1.ev y= .obj j bY) (ho:AV.isObj s1.o j bY=some oj) (hj:oj.box=false/\oj.n=n/\j≠i) (hpl:rC oj.dR=true)
  (hbytes:(ob.dR.length+oj.dR.length) * by'<=140737488355328) (h63:ob.dR.length+oj.dR.length<=9223372036854775807):
  Step P B ⟨dst,.call {callee:= .builtin .append,args:=#[x,y],argTypes:=#[tS,xT]},ty,pos,after,gd⟩ s (s.wT s1.o dst i ob oj.dR):=
 qM λG0 a w r0=>by
  obtain ⟨hu,inf,hi,hsz,hby⟩:=qB he;obtain ⟨z,dm,hz2⟩:=zA hz hi;obtain ⟨G,g,r,hl,hlive,uI,hn,hv,hst⟩:=r0.target ht;have hev:=XQ hst y;obtain ⟨gj,hlj,aAt,hvj⟩:=r.di hy ho;rw [hev] at hy;have aPk:a.eval y= .slice gj.a oj.dR.length gj.cap:=hvj;obtain ⟨fj,MF,aF3,Te⟩:=r.ok j oj gj hlj aAt;rw [hj.1] at MF;obtain ⟨fp,hown,hnd,hF⟩:=r.ok i ob g hl hlive;rw [uI] at hown;obtain ⟨news,MB,EI⟩:∃news,Rv w (env B s1.o G w).plain oj.dR news ob.n []/\∀w',w'.heap=w.heap->(Builtin.firstCells ob.n oj.dR.length (.slice gj.a oj.dR.length gj.cap)).run P w'= .ok news.toArray w':=by
   have hnn:oj.n=ob.n:=by rw [hj.2.1,hn]
   rcases MF.2 with ⟨h1,h2,h3⟩|⟨b,off,C,ety,fz,pX,ha,hb,hz',k1,k2,k3,rfl,hr⟩
   .refine ⟨[],by rw [h1];simp [Rv],λw' _=> ?_⟩
    rw [h1];cases hga:gj.a with
    |none=>simp [Builtin.firstCells]
    |some a'=>simp [Builtin.firstCells,loadCells,loadCellsFrom]
   .obtain ⟨vs,hv',hc'⟩:=rT.1 hr;have h0:=Nr _ _ _ _ hpl hv';subst h0;refine ⟨vs,by rw [<-hnn];exact hv',λw' uq=> ?_⟩;rw [ha,<-hnn];exact kQ (jQ hv') (hc'.heap uq)
  obtain ⟨v,w',G',hrun,hr',hR⟩:=r.append (P:=P) (ty:=ty) hl hlive uI hu (Et hxt) hi dm (by rw [hsz,hn]) (by rw [hz2,hn]) (x:=a.eval y) (by rw [aPk];simp [Builtin.lenOf]) (by rw [aPk];exact EI) MB hown (by simpa using hnd) (by simpa using hF) (by rw [hby];exact hbytes) h63;refine ⟨v,w',by simp [execOp,resolve,invoke,builtin,hv,hrun],G',?_⟩;have:=hr'.put dst hR;rw [hst] at this;exact this
def AV.tJ:AV->Bool
 | .agg c=>c.all AV.iE
 |x=>x.iE
theorem aEb {x:AV} (h:x.tJ=true):x≠ .undef:=by cases x<;>simp_all [AV.tJ,AV.iE]
theorem ZN {o:List aM}:∀{c:List AV},(∀x∈c,x.tJ=true)->tC o c=c/\mW o c=true/\kH c=[]
 |[],_=>⟨rfl,rfl,rfl⟩
 |x::xs,h=>by
  obtain ⟨h1,h2,h3⟩:=ZN (o:=o) (c:=xs) λy hy=>h y (by simp [hy])
  have hx:=h x (by simp);cases x with
  |agg c=>
   simp only [AV.tJ] at hx;obtain ⟨k1,k2,k3⟩:=LK (o:=o) (c:=c) λy hy=>fS.1 hx y hy
   simp [tC,mW,kH,res,jM,lU,h1,h2,h3,k1,k2,k3]
  |_=>simp only [AV.tJ,AV.iE] at hx<;>first|(cases hx;done)|(simp [tC,mW,kH,res,jM,lU,h1,h2,h3])
theorem ZO (t:TypeId) (len:Nat) (parts:Array (Nat×Operand)) {e:TypeId} {n by' i:Nat} (he:iC P t=some (e,n,by')) (hz:bT P e n=true) (Lc:vL parts.toList=true) (hlen:len=parts.toList.length) (hbig:len * n<=16777216) (hbig2:len<=16777216)
  (hpl:∀x∈(parts.toList.map (·.2)).map s.ev,x.tJ=true) (hgood:∀x∈(parts.toList.map (·.2)).map s.ev,x.yA=true/\x.cells.length=n) (hi':s.o[i]? =some ⟨true,false,n,0,[]⟩):
  Step P B ⟨dst,.buildSlice t len parts,ty,pos,after,gd⟩ s (AS.put ⟨s.t,s.o.set i ⟨true,false,n,1,((parts.toList.map (·.2)).map s.ev).map AV.cells⟩⟩ dst (.obj i 1)):=
 qM λG a w r=>by
  generalize hxs:parts.toList.map (·.2)=xs at *;have zX:parts.toList=(xs.zipIdx).map λp=>(p.2,p.1):=by rw [<-hxs];exact DC _ 0 Lc
  obtain ⟨hp1,UY,hp3⟩:=ZN (o:=s.o) hpl;obtain ⟨fp,uY,hnd,MH⟩:=Hy r _ _ UY (by rw [hp3];simp) (wB r xs);have Jh:fp=[]:=by
   cases fp with
   |nil=>rfl
   |cons b _=>obtain ⟨i,ob,g,hi,_⟩:=MH b (by simp);rw [hp3] at hi;cases hi
  subst Jh;rw [hp1] at uY;obtain ⟨MB,hsz⟩:=Oy uY hgood;have hvl:(xs.map a.eval).length=len:=by rw [hlen,<-hxs];simp
  have hrun:(execOp a.eval ⟨dst,.buildSlice t len parts,ty,pos,after,gd⟩).run P w= .ok (.value (.slice (some ⟨w.heap.size,0,none⟩) len len)) (w.alloc (.cells ((xs.map a.eval).flatMap λv=>v.cells.toList).toArray e)):=by
   have e1:parts.map (λ(i,x)=>(i,a.eval x))=(((xs.map a.eval).zipIdx).map λp=>(p.2,p.1)).toArray:=by apply DE;simp only [CI,zX,map_map,zipIdx_map];rfl
   have:=tH (P:=P) (t:=t) (len:=len) (w:=w) he hz hvl.symm hbig hsz;simp only [execOp,e1,nF,this,lP,sE]
  have hlt:i < G.length:=by rw [r.len];exact (cH.1 hi').1
  have hlk:Aw.look s.o G i ⟨true,false,n,0,[]⟩ G[i]:=⟨hi',aE hlt⟩;generalize G[i]=g at hlk;generalize hCd:((xs.map a.eval).flatMap λv=>v.cells.toList)=cs at *;have zT:=jQ MB;have hself:(w.alloc (.cells cs.toArray e)).heap[w.heap.size]? =some (.cells cs.toArray e):=fV w _;have hrl:((xs.map s.ev).map AV.cells).length=len:=by have:=gG uY;rw [lR,<-this,hvl]
  have UC:len<=maxLen:=by simp only [maxLen];omega
  have hm:=r.modify hlk rfl ⟨true,false,n,1,(xs.map s.ev).map AV.cells⟩ ⟨some ⟨w.heap.size,0,none⟩,len,λb=>g.F b\/b=w.heap.size⟩ (w.alloc (.cells cs.toArray e)) (by simp) rfl (by simp)
   (λb hb=>by
    rcases hb with hb|hb
    .exact .inl hb
    .right;subst hb;simp) (λb hb hne=>⟨.inl hb,λa' vK=>by
     obtain rfl:=cQ vK;have:=(r.fresh _ _ _ b hlk rfl hb).2;simp only;omega⟩) (λb hlt _=>heap_alloc w _ b hlt) (by simp) (λk _=>by
   refine ⟨[w.heap.size],?_,by simp,by simp⟩;generalize env B _ _ (w.alloc (.cells cs.toArray e))=E' at k⊢;simp only [Env.of,eS,gS];refine ⟨by rw [hrl];exact UC,.inr ⟨w.heap.size,0,cs.toArray,e,(0,0),[],rfl,hself,.inr rfl,?_,by rw [hrl];exact eE _,UC,rfl,?_⟩⟩
   .simp [zT];rw [<-hrl];simp
   .refine rT.2 ⟨cs,uZ k.plain (λb hb=>by cases hb) MB,?_⟩
    refine qA hself (λj v hv=>by simpa using hv))
  have hl2:Aw.look (s.o.set i ⟨true,false,n,1,(xs.map s.ev).map AV.cells⟩) (G.set i ⟨some ⟨w.heap.size,0,none⟩,len,λb=>g.F b\/b=w.heap.size⟩) i ⟨true,false,n,1,(xs.map s.ev).map AV.cells⟩ ⟨some ⟨w.heap.size,0,none⟩,len,λb=>g.F b\/b=w.heap.size⟩:=pY hlk;refine ⟨_,_,hrun,_,hm.1.put dst ?_⟩;simp only [R];exact ⟨trivial,_,_,hl2,eE _,λ_ _=>by rw [hrl],λh=>absurd h (by decide)⟩
theorem aH9 {P:Program} [aC P] {dst:Option Tmp} {ty:TypeId} {pos:String} {after:Array Edge} {gd:Option (Nat×Bool)} {m:List AV} {view:List aM} {pl:Nat} {T:TypeId} {len:Nat} {parts:Array (Nat×Operand)} {e:TypeId} {n by':Nat} {xs:List AV}
  (he:iC P T=some (e,n,by')) (hz:bT P e n=true) (Lc:vL parts.toList=true) (hlen:len=parts.toList.length) (hbig:len * n<=16777216) (hbig2:len<=16777216)
  (hxs:(parts.toList.map (·.2)).map (AS.ev ⟨m,view⟩)=xs) (hpl:∀x∈xs,x.tJ=true) (hgood:∀x∈xs,x.yA=true/\x.cells.length=n) (hv:view[pl]? =some (hole n)):
  Ef P ⟨dst,.buildSlice T len parts,ty,pos,after,gd⟩ m view pl (.obj pl 1) ⟨true,false,n,1,xs.map AV.cells⟩:=by
 intro B t2 o2 hw hs _;have e2:(parts.toList.map (·.2)).map (AS.ev ⟨t2,o2⟩)=xs:=by
  have key:∀(l:List Operand) (xs:List AV),l.map (AS.ev ⟨m,view⟩)=xs->(∀x∈xs,x.tJ=true)->l.map (AS.ev ⟨t2,o2⟩)=xs:=by
   intro l;induction l with
   |nil=>intro xs h _;exact h
   |cons a l ih=>
    intro xs h hp;cases xs with
    |nil=>cases h
    |cons x xs=>simp only [mT,List.cons.injEq] at h⊢;exact ⟨BV hw h.1 (aEb (hp x (by simp))),ih xs h.2 λy hy=>hp y (by simp [hy])⟩
  exact key _ _ hxs hpl
 have ho:o2[pl]? =some ⟨true,false,n,0,[]⟩:=hs pl _ hv rfl;have:=ZO (P:=P) (B:=B) (s:=⟨t2,o2⟩) (dst:=dst) (ty:=ty) (pos:=pos) (after:=after) (gd:=gd) T len parts (i:=pl) he hz Lc hlen hbig hbig2 (by rw [e2];exact hpl) (by rw [e2];exact hgood) ho;rw [e2,put_eq] at this;exact this
theorem ZP {P:Program} [aC P] {dst:Option Tmp} {ty:TypeId} {pos:String} {after:Array Edge} {gd:Option (Nat×Bool)} {m:List AV} {view:List aM} {pl:Nat} {T:TypeId} {len:Nat} {parts:Array (Nat×Operand)} {e:TypeId} {n by':Nat} {xs:List AV} {dR:List (List AV)}
  (he:iC P T=some (e,n,by')) (hz:bT P e n=true) (Lc:vL parts.toList=true) (hlen:len=parts.toList.length) (hbig:len * n<=16777216) (hbig2:len<=16777216)
  (hxs:(parts.toList.map (·.2)).map (AS.ev ⟨m,view⟩)=xs) (hpl:∀x∈xs,x.tJ=true) (hgood:∀x∈xs,x.yA=true/\x.cells.length=n) (hv:view[pl]? =some (hole n)) (hels:xs.map AV.cells=dR):
  Ef P ⟨dst,.buildSlice T len parts,ty,pos,after,gd⟩ m view pl (.obj pl 1) ⟨true,false,n,1,dR⟩:=by
 subst hels;exact aH9 he hz Lc hlen hbig hbig2 hxs hpl hgood hv
theorem Eo {P:Program} [aC P] {dst:Option Tmp} {ty:TypeId} {pos:String} {after:Array Edge} {gd:Option (Nat×Bool)} {m:List AV} {view:List aM} {pl v v' q u:Nat} {x y:Operand} {tS xT:TypeId} {e:TypeId} {n by':Nat} {dR els':List (List AV)} {l2:List (List AV)}
  (hx:AS.ev ⟨m,view⟩ x= .obj pl v) (hvv:v+1=v') (hv:view[pl]? =some ⟨true,false,n,v,dR⟩) (hy:AS.ev ⟨m,view⟩ y= .obj q u) (hq:view[q]? =some ⟨true,false,n,u,l2⟩) (hqp:q≠pl) (hpl:rC l2=true) (hels:dR++l2=els')
  (he:iC P tS=some (e,n,by')) (hz:bT P e n=true) (hxt:eT P xT=true) (hbytes:(dR.length+l2.length) * by'<=140737488355328) (h63:dR.length+l2.length<=9223372036854775807):
  Ef P ⟨dst,.call {callee:= .builtin .append,args:=#[x,y],argTypes:=#[tS,xT]},ty,pos,after,gd⟩ m view pl (.obj pl v') ⟨true,false,n,v',els'⟩:=by
 subst hels;subst hvv;intro B t2 o2 hw hs _;have ho:o2[pl]? =some ⟨true,false,n,v,dR⟩:=hs pl _ hv rfl;have ho2:o2[q]? =some ⟨true,false,n,u,l2⟩:=hs q _ hq rfl;have hx2:AS.ev ⟨t2,o2⟩ x= .obj pl v:=BV hw hx (by simp);have hy2:AS.ev ⟨t2,o2⟩ y= .obj q u:=BV hw hy (by simp);have EF:AV.isObj o2 pl v=some ⟨true,false,n,v,dR⟩:=by simp [AV.isObj,ho]
 have aSn:AV.isObj o2 q u=some ⟨true,false,n,u,l2⟩:=by simp [AV.isObj,ho2]
 have:=Mi (P:=P) (B:=B) (s:=⟨t2,o2⟩) (dst:=dst) (ty:=ty) (pos:=pos) (after:=after) (gd:=gd) tS xT x y (i:=pl) (ob:=⟨true,false,n,v,dR⟩) (s1:=⟨t2,o2⟩) (oj:=⟨true,false,n,u,l2⟩) he hz hxt
  (by rw [hx2];simp only [AS.target,EF,Fo,gE]) hy2 aSn ⟨rfl,rfl,hqp⟩ hpl hbytes h63
 simp only [AS.wT,put_eq] at this;exact this
theorem yV {α:Type} {f:α->List AV} (h:∀x,(f x).all AV.iE=true) (l:List α):rC (l.map f)=true:=by simp [rC,fS];intro a _ x hx;exact fS.1 (h a) x hx
theorem qb {t t':List AV} {o o':List aM} (i k:Nat) {ob:aM} {e e':List AV} (ho:o[i]? =some ob) (hl:ob.live=true) (hb:ob.box=false) (hall:(o.all λx=> !x.box || x.dR.all λc=>vU i c)=true) (he:ob.dR[k]? =some e)
  (hc:xS Hz true e=e') (ho':o.set i {ob with dR:=ob.dR.set k e'}=o') (hw:wk (xS (iU [i]) true t) t'):mK ⟨t,o⟩ ⟨t',o'⟩:=by
 subst ho';subst hc;rintro P _ B a w ⟨G,r⟩;have nb:∀{j x g},look o G j x g->x.box=true->(x.dR.all λc=>vU i c)=true:=λh hb=>by have:=fS.1 hall _ (oE h.1);simpa only [hb,Fi,Bool.false_or] using this
 obtain ⟨g,hlk⟩:=r.look ho;obtain ⟨fp,hown,hnd,hF⟩:=r.ok i ob g hlk hl;simp only [hb,Env.of,eS,gS] at hown;obtain ⟨hlen,⟨h,_⟩|⟨b,off,C,ty,fz,pX,ha,hbk,hz,h1,h2,h3,rfl,hr⟩⟩:=hown
 .rw [h] at he;simp at he
 have hk:k < ob.dR.length:=(cH.1 he).1;obtain ⟨f1,f2,f3,cs,rfl,hn,hcs,hone,hre,hr1,hr3⟩:=zW hr he;have hsub2:∀x∈f2,g.F x:=λx hx=>hF x (by simp [hx])
 generalize wO:({ob with dR:=ob.dR.set k (xS Hz true e)}:aM)=fI;generalize hg':({g with F:=λx=>g.F x/\x∉f2}:CO)=g';generalize hO:o.set i fI=o';generalize bq:G.set i g'=G';have back:∀{j x y},look o' G' j x y->(j=i/\x=fI/\y=g')\/(j≠i/\look o G j x y):=by intro j x y h;rw [<-hO,<-bq] at h;exact yZ h
 have fi:look o' G' i fI g':=by rw [<-hO,<-bq];exact pY hlk
 have fo:∀{j x y},j≠i->look o G j x y->look o' G' j x y:=λhj h=>by rw [<-hO,<-bq];exact BQ h hj
 have aOn:fI.live=true:=by rw [<-wO];exact hl
 have aO8:fI.box=false:=by rw [<-wO];exact hb
 have aCz:fI.n=ob.n:=by rw [<-wO]
 have aOo:fI.bY=ob.bY:=by rw [<-wO]
 have aC0:fI.dR.length=ob.dR.length:=by rw [<-wO];simp
 have hga:g'.a=g.a:=by rw [<-hg']
 have hgc:g'.cap=g.cap:=by rw [<-hg']
 have Tk:∀x,g'.F x↔g.F x/\x∉f2:=λx=>by rw [<-hg']
 let Er:Env:=(env B o G w).no i
 have rt1:mV (iU [i]) true (env B o G w) Er (λ_=>True):=by
  refine ⟨λt e=>by simp [iU] at e,λt e=>by simp only [iU,eC] at e;exact ⟨e.symm,λb hb=>hb⟩,λj t e=> ?_,λ_ _ _ _ h=>h,λ_ _ _ _ _ _ h=>h⟩;simp only [iU] at e;split at e
  .cases e
  .rename_i hiu;obtain rfl:=cQ e;refine ⟨by simp,?_,λb hb=>⟨hiu,hb⟩⟩;by_cases hV:(env B o G w).V j
   .exact .inl hV
   .exact .inr hV
 have kA:∀x,(env B o G w).A x->(env B o' G' w).A x:=λx hx=>⟨hx.1,λj y z hlj hjl hf=>by
  rcases back hlj with ⟨rfl,rfl,rfl⟩|⟨_,h⟩
  .exact hx.2 _ _ _ hlk hl ((Tk x).1 hf).1
  .exact hx.2 _ _ _ h hjl hf⟩
 have kS:∀x∈f2,(env B o' G' w).A x:=λx hx=>⟨(r.fresh _ _ _ x hlk hl (hsub2 x hx)).elim λh1 h2=>h1.elim (λh=> .inl (B.gA x h)) λh=> .inr ⟨h,h2⟩,λj y z hlj hjl hf=>by
  rcases back hlj with ⟨rfl,rfl,rfl⟩|⟨hj,h⟩
  .exact ((Tk x).1 hf).2 hx
  .exact hj (r.apart _ _ _ _ _ _ x h hlk hjl hl hf (hsub2 x hx))⟩
 have k2':fA w Er w (env B o' G' w):=by
  refine ⟨λx hx=>⟨kA x hx,rfl⟩,λj h x hx=> ?_,λj x hV h=> ?_,λj bY x h=> ?_,λj bY p q x h=> ?_⟩
  .obtain ⟨y,hy⟩:=r.look hx;by_cases hj:j=i
   .subst hj;rw [ho] at hx;obtain rfl:=cQ hx;exact hl
   .exact h x (fo hj hy).1
  .obtain ⟨hji,x',y,hlj,hjl,hf,hne⟩:=h;exact ⟨⟨x',y,fo (by simpa using hji) hlj,hjl,hf,hne⟩,rfl⟩
  .obtain ⟨x',y,hlj,zV,hh,hz⟩:=h;by_cases hj:j=i
   .subst hj;obtain ⟨rfl,rfl⟩:=lG hlk hlj;exact ⟨fI,g',fi,by omega,λ_ Tq=>by rw [hga,hgc,aC0];exact hh hl (by omega),hz⟩
   .exact ⟨x',y,fo hj hlj,zV,hh,hz⟩
  .obtain ⟨x',y,hlj,zV,hh,hz⟩:=h;by_cases hj:j=i
   .subst hj;obtain ⟨rfl,rfl⟩:=lG hlk hlj;exact ⟨fI,g',fi,by omega,λ_ Tq=>by rw [hga,aCz];exact hh hl (by omega),λh=>by rw [aO8] at h;cases h⟩
   .exact ⟨x',y,fo hj hlj,zV,hh,hz⟩
 have kp:fA w (env B o G w).plain w (env B o' G' w).plain:=⟨λx hx=>⟨kA x hx,rfl⟩,λ_ _=>trivial,λ_ _ _ h=>h.elim,λ_ _ _ h=>h.elim,λ_ _ _ _ _ h=>h.elim⟩;have rv:mV Hz true (env B o G w).plain (env B o' G' w).plain (λx=>x∈f2):=by
  refine ⟨λt e=> ?_,λt e=> ?_,λj t e=>by simp [Hz] at e,λ_ _ _ _ h=>h.elim,λ_ _ _ _ _ _ h=>h.elim⟩
  .simp only [Hz,eC] at e;subst e;exact ⟨by simp,λb hb=>kS b hb⟩
  .simp only [Hz,eC] at e;exact ⟨e.symm,λb hb=>kA b hb⟩
 have hnd':=hnd;simp only [mA] at hnd';refine ⟨G',{len:=by rw [<-hO,<-bq];simp [r.len],defs:=r.defs,ok:= ?_,apart:= ?_,fresh:= ?_,tmps:=ER hw (dX k2' _ _ _ (by simp) (wQ rt1 _ _ _ (by simp) r.tmps)),size:=r.size,frame:=r.frame,base:=r.base,same:=r.same}⟩
 .intro j x y hlj hjl;rcases back hlj with ⟨rfl,rfl,rfl⟩|⟨hj,h⟩
  .refine ⟨b::(f1++[]++f3),?_,?_,?_⟩
   .rw [aO8,<-wO,<-hg'];simp only [Env.of,eS,gS];refine ⟨by simpa using hlen,.inr ⟨b,off,C,ty,fz,_,ha,hbk,hz,h1,by simpa using h2,h3,rfl,?_⟩⟩;exact Uy hk hn hcs hone (wQ rv _ _ _ (λx hx=>hx) hre) (mO kp _ _ _ _ _ rfl (λ_ _=>rfl) hr1) (mO kp _ _ _ _ _ rfl (λ_ _=>rfl) hr3)
   .have hs:(f1++[]++f3).Sublist (f1++f2++f3):=((pS f1).append (nil_sublist f2)).append (pS f3);exact mA.2 ⟨λh=>hnd'.1 (hs.subset h),hs.nodup hnd'.2⟩
   .intro x hx;rw [Tk];have hin:x∈b::(f1++f2++f3):=by simp only [lB,fL,CC,Ft] at hx⊢;grind
    refine ⟨hF x hin,λhx2=> ?_⟩;have hd:=hnd'.2;simp only [gC,fL] at hd;simp only [lB,fL,CC,Ft] at hx;rcases hx with rfl|hx|hx
    .exact hnd'.1 (by simp [hx2])
    .exact hd.1.2.2 x hx x hx2 rfl
    .exact hd.2.2 x (.inr hx2) x hx rfl
  .obtain ⟨fq,q1,q2,q3⟩:=r.ok j x y h hjl;refine ⟨fq,?_,q2,q3⟩;cases hbj:x.box with
   |false=>simp only [hbj,Env.of,eS,gS] at q1⊢;exact q1.keeps kp (λ_ _=>rfl)
   |true=>simp only [hbj,Env.of,gE] at q1⊢;exact (q1.Ez (nb h hbj)).keeps k2' (λ_ _=>rfl)
 .intro j1 j2 x1 x2 y1 y2 z hl1 hl2 v1 v2 hf1 hf2;rcases back hl1 with ⟨rfl,rfl,rfl⟩|⟨hj1,h1⟩<;>rcases back hl2 with ⟨rfl,rfl,rfl⟩|⟨hj2,h2⟩
  .rfl
  .exact absurd (r.apart _ _ _ _ _ _ z hlk h2 hl v2 ((Tk z).1 hf1).1 hf2).symm hj2
  .exact absurd (r.apart _ _ _ _ _ _ z h1 hlk v1 hl hf1 ((Tk z).1 hf2).1) hj1
  .exact r.apart _ _ _ _ _ _ z h1 h2 v1 v2 hf1 hf2
 .intro j x y z hlj hjl hf;rcases back hlj with ⟨rfl,rfl,rfl⟩|⟨_,h⟩
  .exact r.fresh _ _ _ z hlk hl ((Tk z).1 hf).1
  .exact r.fresh _ _ _ z h hjl hf
theorem go_openB {P:Program} [aC P] (i k c:Nat) {id:Nat} {L:List Oper} {Q:Exit->AS->Prop} {t t':List AV} {o o':List aM} {ob:aM} {e:List AV} {m:Nat} {rows:List (List AV)} (ho:o[i]? =some ob) (he:ob.dR[k]? =some e) (hc:e[c]? =some (.sl .own m rows))
  (h:tF P (.region id L.toArray false) ⟨t',o'⟩ Q) (hl:ob.live=true:=by rfl) (hb:ob.box=true:=by rfl) (hall:(o.all λx=> !x.box || x.dR.all λc=>vU i c)=true:=by simp)
  (ho':o.set i {ob with dR:=ob.dR.set k (e.set c (.obj o.length 1))}++[⟨true,false,m,1,rows⟩]=o':=by simp;rfl) (hw:xS (iU [i]) true t=t':=by simp;rfl):tF P (Zp (.region id L.toArray false)) ⟨t,o⟩ Q:=
 go_weak (tN i k c ho hl hb hall he hc ho' (hw▸lC _)) h
theorem go_share {P:Program} [aC P] (i k:Nat) {id:Nat} {L:List Oper} {Q:Exit->AS->Prop} {t t':List AV} {o o':List aM} {ob:aM} {e e':List AV} (ho:o[i]? =some ob) (he:ob.dR[k]? =some e) (he':xS Hz true e=e')
  (h:tF P (.region id L.toArray false) ⟨t',o'⟩ Q) (hl:ob.live=true:=by rfl) (hb:ob.box=false:=by rfl) (hall:(o.all λx=> !x.box || x.dR.all λc=>vU i c)=true:=by simp)
  (ho':o.set i {ob with dR:=ob.dR.set k e'}=o':=by simp;rfl) (hw:xS (iU [i]) true t=t':=by simp;rfl):tF P (Zp (.region id L.toArray false)) ⟨t,o⟩ Q:=
 go_weak (qb i k ho hl hb hall he he' ho' (hw▸lC _)) h
theorem VD {t t':List AV} {o o':List aM} (i:Nat) {ob:aM} (ho:o[i]? =some ob) (ho':o.set i ⟨false,false,0,ob.bY,[]⟩=o') (hw:wk t t'):mK ⟨t,o⟩ ⟨t',o'⟩:=by
 subst ho';rintro P _ B a w ⟨G,r⟩;obtain ⟨g,hlk⟩:=r.look ho;have hi:i < o.length:=(cH.1 ho).1;have back:∀{j x y},look (o.set i ⟨false,false,0,ob.bY,[]⟩) G j x y->(j=i/\x=⟨false,false,0,ob.bY,[]⟩)\/(j≠i/\look o G j x y):=by
  intro j x y ⟨h1,h2⟩;rw [getElem?_set] at h1;by_cases hj:i=j
  .subst hj;rw [eK rfl,eK hi] at h1;exact .inl ⟨rfl,(cQ h1).symm⟩
  .rw [cY hj] at h1;exact .inr ⟨λh=>hj h.symm,h1,h2⟩
 have k:fA w (env B o G w) w (env B (o.set i ⟨false,false,0,ob.bY,[]⟩) G w):=
  CL (eE _) (λb hb=>⟨vO r hb,rfl⟩) r.len
   (λj x y h=>by
    by_cases hj:j=i
    .subst hj;obtain ⟨rfl,rfl⟩:=lG hlk h;exact ⟨⟨false,false,0,ob.bY,[]⟩,g,⟨by rw [getElem?_set];simp [hi],hlk.2⟩,eE _,(λh=>by cases h),λh=>by cases h⟩
    .refine ⟨x,y,⟨by rw [getElem?_set,cY (λe=>hj e.symm)];exact h.1,h.2⟩,eE _,λh=> .inl h,λhl=>⟨hl,rfl,λ_=>⟨rfl,rfl,rfl⟩,λb h1 h2=>⟨h1,h2,rfl⟩⟩⟩)
   (λj x y b h hl hf=>by
    rcases back h with ⟨_,rfl⟩|⟨_,h⟩
    .cases hl
    .exact .inr ⟨j,x,y,h,hl,hf⟩)
 refine ⟨G,{len:=by simp [r.len],defs:=r.defs,ok:= ?_,apart:= ?_,fresh:= ?_,tmps:=ER hw (dX k _ _ _ (by simp) r.tmps),size:=r.size,frame:=r.frame,base:=r.base,same:=r.same}⟩
 .intro j x y h hl;rcases back h with ⟨_,rfl⟩|⟨_,h⟩
  .cases hl
  .exact (r.ok j x y h hl).keeps k (λ_ _=>rfl)
 .intro j1 j2 x1 x2 y1 y2 z h1 h2 l1 l2 f1 f2;rcases back h1 with ⟨_,rfl⟩|⟨_,h1⟩
  .cases l1
  .rcases back h2 with ⟨_,rfl⟩|⟨_,h2⟩
   .cases l2
   .exact r.apart _ _ _ _ _ _ z h1 h2 l1 l2 f1 f2
 .intro j x y z h hl hf;rcases back h with ⟨_,rfl⟩|⟨_,h⟩
  .cases hl
  .exact r.fresh _ _ _ z h hl hf
theorem zb:∀a b:List UInt8,Lib.compareBytes a b=if a=b then 0 else if Op.bytesLess a b=true then -1 else 1
 |[],[]=>rfl
 |[],_::_=>by simp [Lib.compareBytes,Op.bytesLess]
 |_::_,[]=>by simp [Lib.compareBytes,Op.bytesLess]
 |x::xs,y::ys=>by
  have ih:=zb xs ys;simp only [Lib.compareBytes,Op.bytesLess];by_cases h:x < y
  .have hne:x≠y:=UInt8.ne_of_lt h;simp [h,hne]
  .by_cases h2:y < x
   .have hne:x≠y:=(UInt8.ne_of_lt h2).symm;simp [h,h2,hne]
   .have he:x=y:=UInt8.le_antisymm (UInt8.not_lt.1 h2) (UInt8.not_lt.1 h);subst he;simp [h,ih]
theorem ZF {P:Program} [aC P] {f:FuncId} {fn:Func} (hf:P.funcs[f]? =some fn) (Yr:(fn.name == "runtime.NumGoroutine")=false)
  (hb:fn.body.isNone=true) (hn:Extern.findNext fn=none) (he:Extern.find fn=some Extern.BytealgCompare.compare) (s t:bF):
  OkN P f [.str s,.str t] (.int .i64 (Lib.compareBytes s t)):=by
 intro w vs h;obtain ⟨v1,h⟩:∃v:Value,vs=[.string ⟨s.toArray⟩,.string ⟨t.toArray⟩]:=by
  cases vs with
  |nil=>simp [Rc] at h
  |cons a vs=>cases vs with
   |nil=>simp [Rc] at h
   |cons b vs=>cases vs with
    |nil=>simp only [Rc,R] at h;obtain ⟨f1,f2,h1,h2,h3⟩:=h;obtain ⟨f3,f4,h4,h5,h6⟩:=h2;exact ⟨a,by rw [h1.1,h4.1]⟩
    |cons d vs=>simp only [Rc,R] at h;obtain ⟨f1,f2,h1,h2,h3⟩:=h;obtain ⟨f3,f4,h4,h5,h6⟩:=h2;simp [Rc] at h5
 subst h;refine ⟨.int .i64 (Lib.compareBytes s t),w,?_,rfl,nG.rfl,λ_ _=>by simp [R]⟩;rw [run_callFunc_extern hf Yr hb hn he,show [Value.string ⟨s.toArray⟩,Value.string ⟨t.toArray⟩].toArray=#[Value.string ⟨s.toArray⟩,Value.string ⟨t.toArray⟩] from rfl,Go.Lib.run_compareString];rfl
end
end Go.Aw
